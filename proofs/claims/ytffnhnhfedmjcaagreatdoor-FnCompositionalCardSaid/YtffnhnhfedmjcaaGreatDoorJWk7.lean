/- Walks, printed by program. -/
import Derived.Test.YtffnhnhfedmjcaaGreatDoorJWk5
set_option linter.all false
namespace Gv
open Gv.Hp renaming le_refl→zR
open Go.Value renaming slice→zS,bool→zB,agg→zA
open Option.some renaming inj→zI
open Gv.Hp renaming le_trans→zL
open Go Go.Proofs Go.Proofs.Tryz
set_option maxRecDepth 20000
set_option maxHeartbeats 40000000
variable {G:yU} {K:Hp} {L:List jN} {w:World} {a1 a4 a7 a10 a13:Option Addr} {c2 c5 c8 c11:Nat}
theorem rR {d:(List Bool)} {l:Int} {R:(List Bool)} (hm:gH d l=some R) (hs:aD G K (L) w) (h3:bE K a1 c2 d):
  Calls prog 210 ([zS a1 d.length c2,i64 l]:List Value).toArray w (eQ fun v w'=>∃ u x,v=zS u R.length x/\aD G K (aG 4 K u x R::L) w'):=by
 refine aFe func210 ?_;unfold gH at hm
 iterate 5 refine aFl ?_
 refine tS [0,1] (fun f w=>kE d l=some R/\aD G K (L) w) ?_ ?_
 ·rintro f w4 ⟨hm,a9⟩
  unfold kE at hm
  refine aK (aJ (v:=zS a1 d.length c2) (aF (bF (len:=d.length) aBB rfl) (aF (aFq runUnderlying115 rfl ⟨_,runUnderlying3⟩) (aJ (v:=i64 l) (aF (aFq runUnderlying115 rfl ⟨_,runUnderlying3⟩) ?_)))));obtain ⟨c,q7,hm⟩:=aB hm
  refine aED call250 (aOh a9 q7) ?_
  rintro _ w8 ⟨rfl,y⟩
  refine aJ (v:=Value.tuple #[Value.int .u64 c.1,Value.int .u64 c.2]) (aF (bM rfl rfl) (aF (bM rfl rfl) (aM (v:=Value.int .u64 c.1) (aM (v:=Value.int .u64 c.2) (aI (tS [0,6] (fun f w=>kD d c=some R/\aD G K (L) w) ?_ ?_))))))
  ·rintro f d4 ⟨hm,b1⟩
   unfold kD at hm
   refine aK (aJ (v:=Value.int .u64 c.2) (aF (aIU runUnderlying3 rfl ⟨_,runUnderlying115⟩) ?_));obtain ⟨a,b2,hm⟩:=aB hm
   refine aNb (e:=(false:Bool)) aBB ez_4 rfl rfl b1 rfl rfl rfl b2 rfl (fun b b3 (z:aD G K (aG 4 K b a.length a::L) b3)=>(aM (v:=zS b a.length a.length) (aI (aK (aJ (v:=zS b a.length a.length) (aJ (v:=zS a1 d.length c2) ?_))))));obtain ⟨b4,J,hm⟩:=aB hm
   refine aIZ aBB rfl z (i:=0) rfl Cut.whole rfl rfl rfl (aHy _ _ _) aGO (aLx rfl z h3) J (fun b5 (b6:aD G K (aG 4 K b a.length b4::L) b5)=>(aM (v:=i64 ((Nat.min d.length a.length):Int)) (aI (aL (aU [] (fun f w=>∃ j,kB j=some R/\f 7=zS b j.length a.length/\aD G K (aG 4 K b a.length j::L) w) ?_ ?_)))))
   ·rintro f d5 ⟨j,hm,b7,b8⟩
    unfold kB at hm
    refine aC (aK (bH b7 (aM (v:=zS b j.length a.length) (aI ?_))));obtain rfl:=zI hm
    exact aMD results210 ⟨b,a.length,rfl,b8⟩
   obtain ⟨d6,c0,ho⟩:=aB hm
   refine cQ [] c0 (fun k m f w=>f 7=zS b k.length a.length/\f 8=i64 m/\aD G K (aG 4 K b a.length k::L) w) ?_ ?_
   ·exact ⟨(Eq.trans rfl (congrArg (fun n=>zS b n a.length) (aEE J))),rfl,b6⟩
   ·rintro k m d7 f d8 hm hr ⟨o,p,d9⟩
    unfold kC at hm
    refine aL (aK (bH p (bH o (aF (bF (len:=k.length) aBB rfl) (aF (dQ rfl rfl) (aI ?_))))))
    rcases aS hm with ⟨r,hm⟩|⟨r,hm⟩
    ·refine aZ r rfl (bD (aC (dE (aKg [(0,0),(1,0),(2,0),(3,0),(4,0),(5,0),(6,0),(7,1),(8,0),(9,0)] fun e0 q=>?_))));refine bB rfl (fun _ _=>aY p) (bB rfl (fun _ _=>aY o) (bB rfl (fun _ _=>aY p) ?_))
     obtain ⟨c1,c3,hm⟩:=aB hm
     have c4:=oU q (i:=0) rfl
     obtain ⟨e1,e2,V⟩:=Cut.ex 1 b a.length m
     refine bB rfl (fun _ _=>aEf aBB c4 V rfl rfl rfl c3) (bB rfl (fun _ _=>aY o) (bB rfl (fun _ _=>aY p) ?_));obtain ⟨c5,a0,hm⟩:=aB hm
     have c6:=oU q (i:=0) rfl
     obtain ⟨e3,e4,a2⟩:=Cut.ex 1 b a.length 0
     refine bB rfl (fun _ _=>aGP aBB c6 a2 rfl rfl rfl a0) (jZ rfl ?_);obtain ⟨c7,a3,hm⟩:=aB hm
     refine aIZ aBB rfl q (i:=0) rfl V rfl rfl rfl (aHy _ _ _) aGO (aIr rfl q (i:=0) rfl a0 a2) a3 (fun c8 (a4:aD G K (aG 4 K b a.length c7::L) c8)=>(aR (aC ⟨⟨_,a4⟩,?_⟩)))
     exact bB rfl (fun _ _=>eP rfl rfl) (bB rfl (fun _ _=>dT (v:=i64 (wr (m+((Nat.min c5.length c1.length):Int)))) rfl) (qE (dI (aC ⟨_,(zI hm).symm,cE,(Eq.trans o (congrArg (fun n=>zS b n a.length) (aEE a3))),rfl,a4⟩))))
    ·refine bJ r rfl (aBx (kP (kP ?_)))
     have c9:=hr _ (zI hm).symm
     subst c9
     have hm:(kB k)=some R:=ho
     exact aP
  refine aL (cI [0,6] (fun f w=>∃ t,gX d c t=some R/\f 26=zB t/\aD G K (L) w) ?_ ?_)
  ·rintro f e5 ⟨t,hm,d0,d1⟩
   unfold gX at hm
   refine aC ?_
   rcases aS hm with ⟨a5,hm⟩|⟨a5,hm⟩
   ·exact aP
   ·exact bJ a5 d0 (bD (aC ⟨cE,hm,d1⟩))
  refine aW (aJ (v:=Value.int .u64 c.1) (aF (aCH rfl rfl) (aJ (v:=zB (decide (0 < c.1))) ?_)))
  rcases aS hm with ⟨h,hm⟩|⟨h,hm⟩
  ·exact aGG h rfl rfl (aGG h rfl rfl (aF (xV (v:=zB true) h rfl rfl) (aI ⟨cE,true,hm,rfl,y⟩)))
  ·exact yV h rfl rfl (aJ (v:=Value.int .u64 c.2) (yV h rfl rfl (aF (aCH rfl rfl) (aF (aAn (v:=zB (decide (9223372036854775807 < c.2))) h rfl rfl) (aI ⟨cE,decide (9223372036854775807 < c.2),hm,rfl,y⟩)))))
 refine aCk ?_
 rcases aS hm with ⟨a6,hm⟩|⟨a6,hm⟩
 ·exact aP
 ·exact bJ a6 rfl (bD (aC ⟨cE,hm,hs⟩))
theorem aBp {e:Edge} {p:(List Bool)} {a:Nat} {R:Bool} (hm:qN e p=some R) (c:aD G K (L) w) (d:fK K a1 a [zS a4 p.length c5]) (g:bE K a4 c5 p):
  Calls prog 212 ([zA #[i64 e.F,i64 e.B,i64 e.To],cX a1 a]:List Value).toArray w (eQ fun v w'=>v=zB R/\aD G K (L) w'):=by
 refine aFe func212 ?_;unfold qN at hm
 refine aCk ?_;refine aKb fun h i j=>?_
 iterate 4 refine aFl ?_
 exact cI [] (fun f w=>∃ b,xA b=some R/\f 3=zB b/\aD G K (L) w) aP aP
theorem tD {s_:(List Edge)} {c:(List Bool)} {b:Nat} {R:Int} (hm:fR s_ c=some R) (o:aD G K (L) w) (e:bE K a1 c2 s_) (g:fK K a4 b [zS a7 c.length c8]) (h:bE K a7 c8 c):
  Calls prog 251 ([zS a1 s_.length c2,Value.func (.func 212) #[] #[cX a4 b]]:List Value).toArray w (eQ fun v w'=>v=i64 R/\aD G K (L) w'):=by
 refine aFe func251 ?_;unfold fR at hm
 refine aCk ?_;refine aU [] (fun f w=>mA=some R/\aD G K (L) w) aP ?_
 obtain ⟨p,i,ho⟩:=aB hm
 refine gI [0,1,7] i (fun d f w=>f 8=i64 d/\aD G K (L) w) aP ?_
 ·rintro d q f r hm hr ⟨t,j⟩
  unfold dO at hm
  refine aCk ?_
  rcases aS hm with ⟨k,hm⟩|⟨k,hm⟩
  ·refine aCk ?_;refine dE (aCk ?_)
   obtain ⟨a,l,hm⟩:=aB hm
   refine aCk ?_;obtain ⟨u,x,m⟩:=bE.el (sz:=3) rfl e l
   cases m
   refine aCk ?_;obtain ⟨y,n,hm⟩:=aB hm
   exact eE (vs:=[zA #[i64 a.F,i64 a.B,i64 a.To]]) (caps:=[cX a4 b]) (us:=[zA #[i64 a.F,i64 a.B,i64 a.To],cX a4 b]) rfl call212 rfl rfl (aBp n j g h) aP
  ·exact aP
theorem kO {s_:(List Edge)} {a:(List Bool)} {b:Nat} {R:Bool} (hm:eS s_ a=some R) (c:aD G K (L) w) (d:bE K a1 c2 s_) (e:fK K a4 b [zS a7 a.length c8]) (g:bE K a7 c8 a):
  Calls prog 211 ([zS a1 s_.length c2,Value.func (.func 212) #[] #[cX a4 b]]:List Value).toArray w (eQ fun v w'=>v=zB R/\aD G K (L) w'):=by
 exact aP
theorem yM {t:bA} {R:(List Bool)} (hm:mY t=some R) (hs:aD G K (L) w) (h3:bE K a1 c2 t.L) (h6:bE K a4 c5 t.E):
  Calls prog 161 ([zA (zCa t a1 c2 a4 c5)]:List Value).toArray w (eQ fun v w'=>∃ z J,v=zS z R.length J/\aD G K (aG 4 K z J R::L) w'):=by
 let d:=(zC t a1 c2 a4 c5)
 refine aFe func161 ?_;unfold mY at hm
 refine aCk ?_;refine aKb fun e w8 f1=>?_
 refine aCk ?_;refine aKc ([true]:List Bool) fun f2 f3 b1=>?_
 refine aCk ?_;obtain ⟨f4,f5,b2,b3,b4⟩:=aD.lendSp b1 (zR _) .head
 obtain ⟨f6,b5,hm⟩:=aB hm
 refine aED call210 (rR b5 b3 b2) ?_
 rintro _ f7 ⟨a,b,rfl,b6⟩
 have f8:=b4 _ _ b6
 refine aFm fun c f9 g0=>?_;refine aJz fun g1 g2=>?_
 refine aCk ?_;refine aU [3] (fun f w=>∃ m,aEk m=some R/\aD G K (box c 202 [zS a m.length b]::aG 4 K a b m::L) w) aP ?_
 obtain ⟨g3,b8,ho⟩:=aB hm
 refine cQ [1,3] b8 (fun n V f w=>f 4=zB V/\aD G K (box c 202 [zS a n.length b]::aG 4 K a b n::box e 35 d::L) w) aP ?_
 ·rintro n V a0 f g4 hm hr ⟨g5,g6⟩
  unfold nU at hm
  refine aCk ?_
  rcases aS hm with ⟨b9,hm⟩|⟨b9,hm⟩
  ·refine aCk ?_;refine aU [1,3] (fun f w=>∃ j o,aAU j o=some a0/\f 4=zB o/\aD G K (box c 202 [zS a j.length b]::aG 4 K a b j::box e 35 d::L) w) ?_ ?_
   ·rintro f g7 ⟨j,o,hm,c0,c1⟩
    unfold aAU at hm
    refine aCk ?_;exact ⟨_,(zI hm).symm,cE,c0,c1⟩
   refine aCk ?_;refine aU [1,3] (fun f w=>∃ p a2,aEl p a2=some a0/\f 4=zB a2/\aD G K (box c 202 [zS a p.length b]::aG 4 K a b p::box e 35 d::L) w) aP ?_
   obtain ⟨g8,c3,ho⟩:=aB hm
   refine vX [1,3,13] c3 (fun g q k f w=>f 4=zB q/\f 14=i64 k/\aD G K (box c 202 [zS a g.length b]::aG 4 K a b g::box e 35 d::L) w) aP ?_
   ·rintro g q k a3 f g9 hm hr ⟨h0,h1,c4⟩
    unfold iZ at hm
    refine aCk ?_
    rcases aS hm with ⟨c6,hm⟩|⟨c6,hm⟩
    ·refine aCk ?_;refine aU [1,3,13,14] (fun f w=>∃ l r,lP k l r=some a3/\f 4=zB r/\aD G K (box c 202 [zS a l.length b]::aG 4 K a b l::box e 35 d::L) w) ?_ ?_
     ·rintro f h2 ⟨l,r,hm,c7,c8⟩
      unfold lP at hm
      refine aCk ?_;exact ⟨_,(zI hm).symm,cE,c7,rfl,c8⟩
     refine aCk ?_;obtain ⟨h4,c9,hm⟩:=aB hm
     refine aED call90 (uJ c9 c4 h3 h6) ?_
     rintro _ h5 ⟨h7,h8,rfl,d0⟩
     refine aF (eV (vs:=[Value.pointer (some ⟨c,0,none⟩)]) rfl) ?_;obtain ⟨h9,d1,d2,d3,d4⟩:=aD.lendSp d0 (zR _) .head
     obtain ⟨i0,d5,d6,d7,d8⟩:=aD.lendSp d3 d1 zt1
     obtain ⟨i1,a5,d9,e0,e1⟩:=aD.lendBp d7 .head
     obtain ⟨i2,e2,hm⟩:=aB hm
     refine aED call211 (kO e2 e0 (d2.mono (zL d5 a5)) d9 (d6.mono a5)) ?_
     rintro _ i3 ⟨rfl,e3⟩
     have e4:=e1 _ _ e3
     have e5:=d8 _ _ e4
     have i4:=d4 _ _ e5
     iterate 4 refine aFl ?_
     refine cI [1,3,4,5,13,14] (fun f w=>∃ u,iY g q k u=some a3/\f 29=zB u/\aD G K (aG 4 K a b g::box c 202 [zS a g.length b]::box e 35 d::L) w) ?_ ?_
     ·rintro f i5 ⟨u,hm,i6,a6⟩
      unfold iY at hm
      refine aCk ?_
      rcases aS hm with ⟨e6,hm⟩|⟨e6,hm⟩
      ·refine aCk ?_;obtain ⟨i7,x,hm⟩:=aB hm
       have e7:=dJ a6 (i:=0) rfl x
       refine aF (fI aBB rfl e7 rfl rfl rfl x) ?_;obtain ⟨y,a7,hm⟩:=aB hm
       refine pO (i:=0) (t:=0) (ns:=[zB false]) (e':=(false:Bool)) sizeOf4 a6 rfl (zR _) rfl rfl rfl x a7 rfl rfl (dM rfl) rfl (fun cs h=>by cases h;rfl) (fun a8 (e8:aD G K (aG 4 K a b y::box c 202 [zS a g.length b]::box e 35 d::L) a8)=>?_)
       have i8:aD G K (aG 4 K a b y::box c 202 [zS a y.length b]::box e 35 d::L) a8:=by rw [←(iS a7)];exact e8
       exact aP
      ·exact aP
     exact aP
    ·exact aP
  ·exact aP
theorem kU {s_:(List Int)} {a:Int} {R:Bool} (hm:dF s_ a=some R) (b:aD G K (L) w) (c:bE K a1 c2 s_):
  Calls prog 69 ([zS a1 s_.length c2,i64 a]:List Value).toArray w (eQ fun v w'=>v=zB R/\aD G K (L) w'):=by
 exact aP
theorem aEX {t:bA} {m:(List Int)} {q:aH} {R:(List Int)} (hm:aBQ t m q=some R) (hs:aD G K (L) w) (h3:bE K a1 c2 t.L) (z:bE K a4 c5 t.E) (h9:bE K a7 c8 m):
  Calls prog 252 ([zA (zCa t a1 c2 a4 c5),zS a7 m.length c8,str q]:List Value).toArray w (eQ fun v w'=>∃ r u,v=zS r R.length u/\aD G K (aG 2 K r u R::L) w'):=by
 let o:=(zC t a1 c2 a4 c5)
 refine aFe func252 ?_;unfold aBQ at hm
 refine aCk ?_;refine aKb fun p b9 J=>?_
 refine aCk ?_;refine aU [] (fun f w=>∃ d a b,aAK d=some R/\f 7=zS a d.length b/\aD G K (aG 2 K a b d::L) w) ?_ ?_
 ·rintro f c0 ⟨d,a,b,hm,V,a0⟩
  unfold aAK at hm
  refine aCk ?_;obtain ⟨a2,a3,hm⟩:=aB hm
  refine aED call100 (aBj a0 a3) ?_
  rintro _ c1 ⟨rfl,a5,a6⟩
  iterate 4 refine aFl ?_
  refine bH (v:=zS a a2.length b) (Eq.trans V (congrArg (fun n=>zS a n b) a5)) ?_;obtain ⟨c3,a8,hm⟩:=aB hm
  exact aED call101 (eC a8 a6) aP
 have c4:=aD.nil (α:=Int) J 2 K
 obtain ⟨c6,a9,ho⟩:=aB hm
 refine cQ [1,2,3,11,12] a9 (fun c e f w=>∃ g h,f 7=zS g c.length h/\f 13=i64 e/\aD G K (aG 2 K g h c::box p 35 o::L) w) aP ?_
 ·rintro c e x f c7 hm hr ⟨g,h,c9,d0,d1⟩
  unfold wD at hm
  refine aCk ?_
  rcases aS hm with ⟨b0,hm⟩|⟨b0,hm⟩
  ·refine aCk ?_;refine aU [1,2,3,11,12,13] (fun f w=>∃ i j k,wC e i=some x/\f 7=zS j i.length k/\aD G K (aG 2 K j k i::box p 35 o::L) w) ?_ ?_
   ·rintro f d2 ⟨i,j,k,hm,b1,b2⟩
    unfold wC at hm
    refine aCk ?_;exact ⟨_,(zI hm).symm,cE,j,k,b1,rfl,b2⟩
   refine aCk ?_;obtain ⟨l,b3,hm⟩:=aB hm
   refine aCk ?_;obtain ⟨d3,d4,b4⟩:=bE.el (sz:=3) rfl z b3
   cases b4
   refine aCk ?_;refine aFm fun b5 d5 d6=>?_
   refine aJz fun d7 d8=>?_
   iterate 3 refine aFl ?_
   exact cI [1,2,3,7,9,11,12,13] (fun f w=>∃ y,aAL c e l y=some x/\f 30=zB y/\aD G K (box b5 72 [i64 l.F,i64 l.B,i64 l.To]::aG 2 K g h c::box p 35 o::L) w) aP aP
  ·exact aP
theorem aDw {t:bA} {p R:(List Int)} (hm:qO t p=some R) (hs:aD G K (L) w) (h3:bE K a1 c2 t.L) (h6:bE K a4 c5 t.E) (h9:bE K a7 c8 p):
  Calls prog 213 ([zA (zCa t a1 c2 a4 c5),zS a7 p.length c8]:List Value).toArray w (eQ fun v w'=>∃ a3 a5,v=zS a3 R.length a5/\aD G K (aG 2 K a3 a5 R::L) w'):=by
 let c:=(zC t a1 c2 a4 c5)
 refine aFe func213 ?_;unfold qO at hm
 refine aCk ?_;refine aKb fun d f5 c0=>?_
 refine aCk ?_;obtain ⟨f6,c1,hm⟩:=aB hm
 refine aED call70 (eK c1 c0 h9) ?_
 rintro _ f7 ⟨f8,f9,rfl,g0⟩
 refine aCk ?_;refine aU [] (fun f w=>∃ g a b,xK g=some R/\f 5=zS a g.length b/\aD G K (aG 2 K a b g::L) w) ?_ ?_
 ·rintro f g1 ⟨g,a,b,hm,c3,c4⟩
  unfold xK at hm
  refine aCk ?_;obtain ⟨c6,c7,hm⟩:=aB hm
  refine aED call100 (aBj c4 c7) ?_
  rintro _ g2 ⟨rfl,c9,d0⟩
  iterate 4 refine aFl ?_
  refine bH (v:=zS a c6.length b) (Eq.trans c3 (congrArg (fun n=>zS a n b) c9)) (aCk ?_);obtain rfl:=zI hm
  exact aMD results213 ⟨a,b,rfl,d0⟩
 obtain ⟨g3,d2,ho⟩:=aB hm
 refine cQ [2] d2 (fun q h f w=>∃ r u,f 5=zS r q.length u/\f 6=i64 h/\aD G K (aG 2 K r u q::box d 35 c::L) w) aP ?_
 ·rintro q h a6 f g4 hm hr ⟨r,u,g5,g6,d3⟩
  unfold sJ at hm
  refine aCk ?_
  rcases aS hm with ⟨d4,hm⟩|⟨d4,hm⟩
  ·refine aCk ?_;refine aU [2,6] (fun f w=>∃ i j k,xL h i=some a6/\f 5=zS j i.length k/\aD G K (aG 2 K j k i::box d 35 c::L) w) ?_ ?_
   ·rintro f g7 ⟨i,j,k,hm,d5,d6⟩
    unfold xL at hm
    refine aCk ?_;exact ⟨_,(zI hm).symm,cE,j,k,d5,rfl,d6⟩
   refine aCk ?_;obtain ⟨g8,x,a8,d7,d8⟩:=aD.lendSp d3 (zR _) .head
   obtain ⟨g9,e,h0,h1,d9⟩:=aD.lendBp d7 .head
   refine aKg [(0,0),(1,0),(2,0),(3,0),(4,0),(8,0),(5,1),(6,1),(7,0)] fun h2 h4=>?_;refine aCk ?_
   obtain ⟨e0,y,hm⟩:=aB hm
   have e1:=rd_lies (a8.mono e) y
   refine bB rfl (fun _ _=>fI bR rfl e1 rfl rfl rfl y) ?_;obtain ⟨h5,h7,e2⟩:=bE.el (sz:=1) rfl (a8.mono e) y
   cases e2
   refine aCk ?_;refine jZ rfl (aKc ([e0]:List Int) fun h8 i0 a9=>?_)
   refine aR (aC ⟨⟨_,a9⟩,?_⟩)
   refine jZ rfl ?_;obtain ⟨i1,b0,e3,e4,e5⟩:=aD.lendSp a9 (zL x e) .head
   obtain ⟨b1,e6,hm⟩:=aB hm
   refine aED call252 (aEX e6 e4 (h3.mono (zL (zL x e) b0)) (h6.mono (zL (zL x e) b0)) e3) ?_
   rintro _ i2 ⟨b2,b3,rfl,e7⟩
   have b4:=e5 _ _ e7
   refine aR (aC ⟨⟨_,b4⟩,?_⟩)
   refine aCk ?_;refine qE ?_
   have e8:=d9 _ _ b4
   have i3:=d8 _ _ e8
   refine aCk ?_;refine aU [2,6] (fun f w=>∃ z b5 b6,aBR h z=some a6/\f 5=zS b5 z.length b6/\aD G K (aG 2 K b5 b6 z::box d 35 c::L) w) aP ?_
   obtain ⟨i4,e9,ho⟩:=aB hm
   refine cQ [2,6,23,24] e9 (fun J V f w=>∃ a0 a2,f 5=zS a0 J.length a2/\f 25=i64 V/\aD G K (aG 2 K a0 a2 J::box d 35 c::aG 2 K b2 b3 b1::L) w) aP ?_
   ·rintro J V f0 f i5 hm hr ⟨a0,a2,i6,i7,i8⟩
    unfold oY at hm
    refine aCk ?_
    rcases aS hm with ⟨f1,hm⟩|⟨f1,hm⟩
    ·refine aCk ?_;refine aU [2,6,23,24,25] (fun f w=>∃ l m o,sI V l=some f0/\f 5=zS m l.length o/\aD G K (aG 2 K m o l::box d 35 c::aG 2 K b2 b3 b1::L) w) ?_ ?_
     ·rintro f i9 ⟨l,m,o,hm,f2,f3⟩
      unfold sI at hm
      refine aCk ?_;exact ⟨_,(zI hm).symm,cE,m,o,f2,rfl,f3⟩
     exact aP
    ·exact aP
  ·exact aP
theorem aBq {t:bA} {R:(List (List Int))} (hm:qP t=some R) (hs:aD G K (L) w) (h3:bE K a1 c2 t.L) (h6:bE K a4 c5 t.E):
  Calls prog 162 ([zA (zCa t a1 c2 a4 c5)]:List Value).toArray w (eQ fun v w'=>∃ q r o,v=zS q R.length r/\List.length o=List.length R/\aD G K (aG 29 K q r (aT o R)::rows [2] o R::L) w'):=by
 let h:=(zC t a1 c2 a4 c5)
 refine aFe func162 ?_;unfold qP at hm
 refine aCk ?_;refine aKb fun j w8 a8=>?_
 refine aCk ?_;refine aU [] (fun f w=>∃ m u x p,aCg m=some R/\f 3=zS u m.length x/\List.length p=List.length m/\aD G K (aG 29 K u x (aT p m)::rows [2] p m::L) w) aP ?_
 have a9:aD G K (aG 29 K none 0 (aT ([]:List (Dp.Hd (List Int))) ([]:List (List Int)))::rows [2] ([]:List (Dp.Hd (List Int))) ([]:List (List Int))::box j 35 h::L) w8:=aD.nil (α:=Cells _) (aD.rowsNil (α:=(List Int)) (tys:=[2]) a8) 29 K
 obtain ⟨c8,b0,ho⟩:=aB hm
 refine cQ [1,6] b0 (fun b e f w=>∃ k l a,f 3=zS k b.length l/\f 7=i64 e/\List.length a=List.length b/\aD G K (aG 29 K k l (aT a b)::rows [2] a b::box j 35 h::L) w) ?_ ?_
 ·exact ⟨none,0,[],rfl,rfl,rfl,a9⟩
 ·rintro b e c9 f d0 hm hr ⟨k,l,a,d1,d2,y,d3⟩
  unfold lF at hm
  refine aCk ?_
  rcases aS hm with ⟨b1,hm⟩|⟨b1,hm⟩
  ·refine aCk ?_;refine dE (aCk ?_)
   refine aKc ([e]:List Int) fun n d4 b2=>?_;obtain ⟨d5,z,b3,b4,b5⟩:=aD.lendSp b2 (zR _) .head
   obtain ⟨g,b6,hm⟩:=aB hm
   refine aED call213 (aDw b6 b4 (h3.mono z) (h6.mono z) b3) ?_
   rintro _ J ⟨c,d,rfl,b8⟩
   have d6:=b5 _ _ b8
   have b9:aD G K (aG 2 K c d g::aG 2 K n 1 ([e]:List Int)::aG 29 K k l (aT a b)::rows [2] a b::box j 35 h::L) J:=aKa
   have c0:aD G K (rows [2] ([(c,d)]:List (Dp.Hd (List Int))) [g]::aG 2 K n 1 ([e]:List Int)::aG 29 K k l (aT a b)::rows [2] a b::box j 35 h::L) J:=aD.rowsOne b9
   refine cZ (Kt:=K) (xs:=aT ([(c,d)]:List (Dp.Hd (List Int))) ([g]:List (List Int))) (cs:=[zS c g.length d]) (vs:=[(0,zS c g.length d)]) iG aAb rfl rfl c0 rfl (by kernel_rfl) rfl rfl rfl ⟨rfl,trivial⟩ ?_
   intro c1 c3 (c4:aD G K (aG 29 K c1 1 (aT ([(c,d)]:List (Dp.Hd (List Int))) ([g]:List (List Int)))::rows [2] ([(c,d)]:List (Dp.Hd (List Int))) ([g]:List (List Int))::aG 2 K n 1 ([e]:List Int)::aG 29 K k l (aT a b)::rows [2] a b::box j 35 h::L) c3)
   obtain ⟨V,a0,hm⟩:=aB hm
   refine aEH (i:=1) (tys:=[2]) (hds:=a) (hds2:=([(c,d)]:List (Dp.Hd (List Int)))) iG underlying36 aAb rfl rfl c4 y rfl rfl rfl a0 rfl rfl rfl rfl ?_
   intro a2 a3 c6 (d7:aD G K (aG 29 K a2 a3 (aT (a++([(c,d)]:List (Dp.Hd (List Int)))) V)::rows [2] (a++([(c,d)]:List (Dp.Hd (List Int)))) V::aG 2 K n 1 ([e]:List Int)::box j 35 h::L) c6)
   refine aCk ?_;exact ⟨_,(zI hm).symm,cE,a2,a3,(a++([(c,d)]:List (Dp.Hd (List Int)))),rfl,rfl,(aDC y rfl a0),aKa⟩
  ·exact aP
theorem aGi {is:Bool} {R:Int} (hm:aOf is=some R) (a:aD G K (L) w):
  Calls prog 163 ([zB is]:List Value).toArray w (eQ fun v w'=>v=i64 R/\aD G K (L) w'):=by
 exact aP
theorem aEw {t:bA} {p:(List Int)} {c6:Bool} {R:(List Int)} (hm:nK t p c6=some R) (hs:aD G K (L) w) (h3:bE K a1 c2 t.L) (h6:bE K a4 c5 t.E) (h9:bE K a7 c8 p):
  Calls prog 118 ([zA (zCa t a1 c2 a4 c5),zS a7 p.length c8,zB c6]:List Value).toArray w (eQ fun v w'=>∃ h8 i0,v=zS h8 R.length i0/\aD G K (aG 2 K h8 i0 R::L) w'):=by
 let o:=(zC t a1 c2 a4 c5)
 refine aN func118 rfl (by kernel_rfl) (by show (3:Nat)<=98;decide) ?_;unfold nK at hm
 refine aK (cC (v:=zA (zCa t a1 c2 a4 c5)) (vs:=o) hs rfl rfl (fun y u9 i1=>(aM (v:=zS none 0 0) (aI (aK (aF (eO (us:=o) eW i1 (i:=0) rfl rfl rfl rfl) (aJ (v:=zS a7 p.length c8) ?_)))))));obtain ⟨j,m2,hm⟩:=aB hm
 refine aQ (vs:=[zA (zCa t a1 c2 a4 c5),zS a7 p.length c8]) call160 rfl (yL m2 i1 h3 h6 h9) ?_
 rintro _ v0 ⟨V,b5,b6,b7,b8,rfl,a0,i2,i3,m3⟩
 refine aX (vs:=zG) zeroValue35 m3 rfl (fun i4 v1 m4=>(bN (i:=0) (ns:=(zC j b5 b6 b7 b8)) (us:=(zC j b5 b6 b7 b8)) sizeOf35 m4 rfl rfl rfl rfl rfl (dM rfl) rfl rfl (fun m5 (i5:aD G V (box i4 35 (zC j b5 b6 b7 b8)::box y 35 o::L) m5)=>(aI (aK (aF (eO (us:=(zC j b5 b6 b7 b8)) eW i5 (i:=0) rfl rfl rfl rfl) ?_))))));obtain ⟨m,m6,hm⟩:=aB hm
 refine aQ (vs:=[zA (zCa j b5 b6 b7 b8)]) call161 rfl (yM m6 i5 i2 i3) ?_
 rintro _ v2 ⟨q,r,rfl,i6⟩
 refine aM (v:=zS q m.length r) (aI (aK (aM (v:=zS none 0 0) (aI (aL (aK (aF (eO (us:=(zC j b5 b6 b7 b8)) eW i6 (i:=1) rfl rfl rfl rfl) ?_)))))));obtain ⟨c,m7,hm⟩:=aB hm
 refine aQ (vs:=[zA (zCa j b5 b6 b7 b8)]) call162 rfl (aBq m7 i6 i2 i3) ?_
 rintro _ m8 ⟨z,J,d,rfl,d9,m9⟩
 refine aF (bF (len:=c.length) iG rfl) (aJ (v:=i64 0) (aI (aU [] (fun f w=>∃ c1 e0 e1 e2,lJ c1=some R/\f 9=zS e0 c1.length e1/\List.length e2=List.length c1/\aD G V (aG 29 K e0 e1 (aT e2 c1)::rows [2] e2 c1::L) w) ?_ ?_)))
 ·rintro f v3 ⟨c1,e0,e1,e2,hm,n0,n1,n2⟩
  unfold lJ at hm
  refine aC (aK (bH n0 ?_));obtain ⟨v4,v5,n3,v6,n4,n5⟩:=aD.lendD' (i:=0) n2 n1 rfl rfl
  obtain ⟨n6,n7,hm⟩:=aB hm
  refine aQ (vs:=[zS e0 c1.length e1]) call120 rfl (aBV n7 n4 n3) ?_
  rintro _ v7 ⟨i7,i8,rfl,n8⟩
  have n9:=n5 _ _ n8
  refine aM (v:=zS i7 n6.length i8) (aI ?_);obtain rfl:=zI hm
  exact nY (oH results118 rfl ⟨i7,i8,rfl,(aD.weakK (aD.arr 2 [] n9 rfl) a0)⟩)
 have o1:aD G V (aG 29 K none 0 (aT ([]:List (Dp.Hd (List Int))) ([]:List (List Int)))::rows [2] ([]:List (Dp.Hd (List Int))) ([]:List (List Int))::aG 29 K z J (aT d c)::rows [2] d c::aG 4 K q r m::box i4 35 (zC j b5 b6 b7 b8)::box y 35 o::L) m8:=aD.nil (α:=Cells _) (aD.rowsNil (α:=(List Int)) (tys:=[2]) m9) 29 K
 obtain ⟨v8,o2,ho⟩:=aB hm
 refine cQ [1,2,3,8,22,23] o2 (fun a b0 f w=>∃ u x b,f 9=zS u a.length x/\f 24=i64 b0/\List.length b=List.length a/\aD G V (aG 29 K u x (aT b a)::rows [2] b a::aG 29 K z J (aT d c)::rows [2] d c::aG 4 K q r m::box y 35 o::L) w) ?_ ?_
 ·exact ⟨none,0,[],rfl,rfl,rfl,(aD.arr 6 [0,1,2,3,4] o1 rfl)⟩
 ·rintro a b0 e3 f v9 hm hr ⟨u,x,b,i9,e4,f7,d1⟩
  unfold gS at hm
  refine aK (aF (dQ e4 rfl) (aI (aL ?_)))
  rcases aS hm with ⟨f8,hm⟩|⟨f8,hm⟩
  ·refine aZ f8 rfl (bD (aC (aL (aU [1,2,3,8,22,23,24] (fun f w=>∃ c7 e5 e6 d2,oC b0 c7=some e3/\f 9=zS e5 c7.length e6/\List.length d2=List.length c7/\aD G V (aG 29 K e5 e6 (aT d2 c7)::rows [2] d2 c7::aG 29 K z J (aT d c)::rows [2] d c::aG 4 K q r m::box y 35 o::L) w) ?_ ?_))))
   ·rintro f w0 ⟨c7,e5,e6,d2,hm,o3,o4,o5⟩
    unfold oC at hm
    exact aC (aW (aF (eP e4 rfl) (aJ (v:=i64 (wr (b0+1))) (aI ⟨_,(zI hm).symm,cE,e5,e6,d2,o3,rfl,o4,o5⟩))))
   refine aK (bH e4 ?_);obtain ⟨f9,d3,hm⟩:=aB hm
   obtain ⟨⟨g0,g1⟩,g2⟩:=aFX d9 d3
   have o6:=dJ d1 (i:=2) rfl (lT d9 d3 g2)
   refine aF (fI iG rfl o6 rfl rfl e4 d3) (aF (qD (t:=0) tV d1 (i:=2) rfl (lT d9 d3 g2) rfl rfl rfl) (aM (v:=i64 b0) (aM (v:=zS g0 f9.length g1) (aI (aK (aM (v:=zS none 0 0) (aI (aL (aK (aF (aV (t':=3) mG rfl rfl) (aF (bT aAq d1 (i:=5) rfl rfl rfl) (aF (bF (len:=t.E.length) eI rfl) (aJ (v:=i64 0) (aI (aU [1,2,3,8,9,10,22,23,24] (fun f w=>∃ d4 a3 a5,lK p c6 m a b0 d4=some e3/\f 12=zS a3 d4.length a5/\aD G V (aG 2 K a3 a5 d4::aG 29 K u x (aT b a)::rows [2] b a::aG 29 K z J (aT d c)::rows [2] d c::aG 4 K q r m::box y 35 o::L) w) ?_ ?_)))))))))))))))
   ·rintro f w1 ⟨d4,a3,a5,hm,j0,o7⟩
    unfold lK at hm
    refine aC (aK (bH j0 ?_));obtain ⟨c3,o8,hm⟩:=aB hm
    refine aQ (vs:=[zS a3 d4.length a5]) call100 rfl (aBj o7 o8) ?_
    rintro _ w2 ⟨rfl,o9,p0⟩
    refine aI (aL (cI [1,2,3,8,9,12,22,23,24] (fun f w=>∃ d5 e7 e8,jL a b0 c3 d5=some e3/\f 15=zS e7 d5.length e8/\aD G V (aG 2 K e7 e8 d5::aG 2 K a3 a5 c3::aG 29 K u x (aT b a)::rows [2] b a::aG 29 K z J (aT d c)::rows [2] d c::aG 4 K q r m::box y 35 o::L) w) ?_ ?_))
    ·rintro f p1 ⟨d5,e7,e8,hm,p2,p3⟩
     unfold jL at hm
     refine aC (aW (bH i9 (bH p2 (bH (v:=zS a3 c3.length a5) (Eq.trans j0 (congrArg (fun n=>zS a3 n a5) o9)) ?_))))
     have p4:aD G V (aG 2 K a3 a5 c3::aG 2 K e7 e8 d5::aG 29 K u x (aT b a)::rows [2] b a::aG 29 K z J (aT d c)::rows [2] d c::aG 4 K q r m::box y 35 o::L) p1:=(aD.arr 2 [1,0] p3 rfl)
     obtain ⟨w3,p5,hm⟩:=aB hm
     refine aQ (vs:=[zS a3 c3.length a5]) call101 rfl (eC p5 p4) ?_
     rintro _ w4 ⟨w5,w6,rfl,p6⟩
     obtain ⟨c4,p7,hm⟩:=aB hm
     refine mF (i:=0) bR underlying29 yY rfl rfl p6 rfl a0 (zR _) p7 rfl rfl rfl rfl (fun _ h=>h) (fun a6 a8 j1 (p8:aD G V (aG 2 K a6 a8 c4::aG 29 K u x (aT b a)::rows [2] b a::aG 29 K z J (aT d c)::rows [2] d c::aG 4 K q r m::box y 35 o::L) j1)=>?_)
     have p9:aD G V (rows [2] ([(a6,a8)]:List (Dp.Hd (List Int))) [c4]::aG 29 K u x (aT b a)::rows [2] b a::aG 29 K z J (aT d c)::rows [2] d c::aG 4 K q r m::box y 35 o::L) j1:=aD.rowsOne p8
     refine cZ (Kt:=K) (xs:=aT ([(a6,a8)]:List (Dp.Hd (List Int))) ([c4]:List (List Int))) (cs:=[zS a6 c4.length a8]) (vs:=[(0,zS a6 c4.length a8)]) iG aAb rfl rfl p9 rfl (by kernel_rfl) rfl rfl rfl ⟨rfl,trivial⟩ ?_
     intro q0 q1 (q2:aD G V (aG 29 K q0 1 (aT ([(a6,a8)]:List (Dp.Hd (List Int))) ([c4]:List (List Int)))::rows [2] ([(a6,a8)]:List (Dp.Hd (List Int))) ([c4]:List (List Int))::aG 29 K u x (aT b a)::rows [2] b a::aG 29 K z J (aT d c)::rows [2] d c::aG 4 K q r m::box y 35 o::L) q1)
     obtain ⟨e9,j2,hm⟩:=aB hm
     refine aEH (i:=0) (tys:=[2]) (hds:=b) (hds2:=([(a6,a8)]:List (Dp.Hd (List Int)))) iG underlying36 aAb rfl rfl q2 f7 rfl rfl rfl j2 rfl rfl rfl rfl ?_
     intro g3 g4 q3 (q4:aD G V (aG 29 K g3 g4 (aT (b++([(a6,a8)]:List (Dp.Hd (List Int)))) e9)::rows [2] (b++([(a6,a8)]:List (Dp.Hd (List Int)))) e9::aG 29 K z J (aT d c)::rows [2] d c::aG 4 K q r m::box y 35 o::L) q3)
     exact aM (v:=zS g3 e9.length g4) (aR (dI (aC ⟨cE,e9,g3,g4,(b++([(a6,a8)]:List (Dp.Hd (List Int)))),hm,rfl,(aDC f7 rfl j2),q4⟩)))
    obtain ⟨g5,j3,j4,j5,j6⟩:=aD.lendSp p0 a0 zt5
    refine dG (C:=fun w'=>∃ L',aD G g5 L' w') [(0,0),(1,0),(2,0),(3,0),(4,0),(5,0),(6,0),(7,0),(8,0),(9,0),(10,0),(11,1),(12,1),(13,0)] Tryz_mixed (by kernel_rfl) (fun _ hg=>⟨_,aD.mono j5 hg⟩) (fun w7 q5=>?_)
    have c9:=aD.mono j5 q5
    refine bB rfl (fun _ _=>aY (v:=zS a7 p.length c8) rfl) (bB rfl (fun _ _=>aY (v:=i64 b0) rfl) ?_);obtain ⟨b1,j7,hm⟩:=aB hm
    refine bB rfl (fun _ _=>eH bR rfl (h9.mono (zL a0 j3)) rfl rfl rfl j7) ?_;obtain ⟨w8,q6,q7⟩:=bE.el (sz:=1) rfl h9 j7
    cases q7
    refine bB rfl (fun _ ⟨_,c9⟩=>bG (t:=0) eG c9 (q6.mono (zL a0 j3)) rfl rfl) (bB rfl (fun _ _=>aY (v:=zB c6) rfl) (bB rfl (fun _ _=>aY (v:=zB c6) rfl) ?_))
    rcases aS hm with ⟨a9,hm⟩|⟨a9,hm⟩
    ·refine WE_vg rfl rfl rfl a9 (fun _ _=>aY (v:=zS q m.length r) rfl) (WE_vg rfl rfl rfl a9 (fun _ _=>aY (v:=i64 b0) rfl) ?_);obtain ⟨j8,g6,hm⟩:=aB hm
     have q8:=rd_lies j4 g6
     refine WE_vg rfl rfl rfl a9 (fun _ _=>fI aBB rfl q8 rfl rfl rfl g6) ?_;obtain ⟨w9,q9,r0⟩:=bE.el (sz:=1) rfl j4 g6
     cases r0
     refine WE_vg rfl rfl rfl a9 (fun _ ⟨_,c9⟩=>bG (t:=0) sc_4 c9 q9 rfl rfl) (bB rfl (fun _ _=>xV (v:=zB j8) a9 rfl rfl) (jZ rfl ?_));obtain ⟨d6,r1,hm⟩:=aB hm
     refine aQ (vs:=[zB j8]) call163 rfl (aGi r1 c9) ?_
     rintro _ x0 ⟨rfl,j9⟩
     refine aR (aC ⟨⟨_,j9⟩,?_⟩)
     refine jZ rfl (cZ (Kt:=K) (xs:=([b1,d6]:List Int)) (cs:=[i64 b1,i64 d6]) (vs:=[(0,i64 b1),(1,i64 d6)]) bR yY rfl rfl j9 rfl (by kernel_rfl) rfl rfl rfl ⟨rfl,rfl,trivial⟩ (fun k0 r2 (k1:aD G g5 (aG 2 K k0 2 ([b1,d6]:List Int)::aG 2 K a3 a5 c3::aG 29 K u x (aT b a)::rows [2] b a::aG 29 K z J (aT d c)::rows [2] d c::box y 35 o::L) r2)=>(aR (aC ⟨⟨_,k1⟩,?_⟩))))
     refine bB rfl (fun _ _=>dT (v:=zS k0 ([b1,d6]:List Int).length 2) rfl) (qE ?_)
     have x1:=j6 _ _ k1
     exact aP
    ·refine aNR rfl rfl rfl (aIS a9) (aNR rfl rfl rfl (aIS a9) (aNR rfl rfl rfl (aIS a9) (aNR rfl rfl rfl (aIS a9) (bB rfl (fun _ _=>aAn (v:=zB false) a9 rfl rfl) (jZ rfl ?_)))));obtain ⟨d7,r3,hm⟩:=aB hm
     refine aQ (vs:=[zB false]) call163 rfl (aGi r3 c9) ?_
     rintro _ x2 ⟨rfl,k2⟩
     refine aR (aC ⟨⟨_,k2⟩,?_⟩)
     refine jZ rfl (cZ (Kt:=K) (xs:=([b1,d7]:List Int)) (cs:=[i64 b1,i64 d7]) (vs:=[(0,i64 b1),(1,i64 d7)]) bR yY rfl rfl k2 rfl (by kernel_rfl) rfl rfl rfl ⟨rfl,rfl,trivial⟩ (fun k3 r4 (k4:aD G g5 (aG 2 K k3 2 ([b1,d7]:List Int)::aG 2 K a3 a5 c3::aG 29 K u x (aT b a)::rows [2] b a::aG 29 K z J (aT d c)::rows [2] d c::box y 35 o::L) r4)=>(aR (aC ⟨⟨_,k4⟩,?_⟩))))
     refine bB rfl (fun _ _=>dT (v:=zS k3 ([b1,d7]:List Int).length 2) rfl) (qE ?_)
     have x3:=j6 _ _ k4
     exact aP
   have x4:=aD.nil (α:=Int) d1 2 K
   obtain ⟨x5,r5,ho⟩:=aB hm
   refine cQ [1,2,3,8,9,10,11,22,23,24,30,31] r5 (fun b2 d8 f w=>∃ b9 c0,f 12=zS b9 b2.length c0/\f 32=i64 d8/\aD G V (aG 2 K b9 c0 b2::aG 29 K u x (aT b a)::rows [2] b a::aG 29 K z J (aT d c)::rows [2] d c::aG 4 K q r m::box y 35 o::L) w) aP ?_
   ·rintro b2 d8 k5 f x6 hm hr ⟨b9,c0,k6,g7,g8⟩
    unfold gR at hm
    refine aK (aF (dQ g7 rfl) (aI (aL ?_)))
    rcases aS hm with ⟨g9,hm⟩|⟨g9,hm⟩
    ·refine aZ g9 rfl (bD (aC (aL (aU [1,2,3,8,9,10,11,22,23,24,30,31,32] (fun f w=>∃ f0 f1 f2,lL d8 f0=some k5/\f 12=zS f1 f0.length f2/\aD G V (aG 2 K f1 f2 f0::aG 29 K u x (aT b a)::rows [2] b a::aG 29 K z J (aT d c)::rows [2] d c::aG 4 K q r m::box y 35 o::L) w) ?_ ?_))))
     ·rintro f x7 ⟨f0,f1,f2,hm,r6,r7⟩
      unfold lL at hm
      exact aC (aW (aF (eP g7 rfl) (aJ (v:=i64 (wr (d8+1))) (aI ⟨_,(zI hm).symm,cE,f1,f2,r6,rfl,r7⟩))))
     refine aK ?_;obtain ⟨k,k7,hm⟩:=aB hm
     refine aF (eH eI rfl (h6.mono a0) rfl rfl g7 k7) ?_;obtain ⟨x8,r8,r9⟩:=bE.el (sz:=3) rfl h6 k7
     cases r9
     refine aF (eD (t:=0) (vs:=[i64 k.F,i64 k.B,i64 k.To]) rP g8 (r8.mono a0) rfl rfl rfl) (aX (vs:=[i64 0,i64 0,i64 0]) zeroValue72 g8 rfl (fun h0 x9 s0=>(bN (i:=0) (ns:=[i64 k.F,i64 k.B,i64 k.To]) (us:=[i64 k.F,i64 k.B,i64 k.To]) sizeOf72 s0 rfl rfl rfl rfl rfl (dM rfl) rfl rfl (fun s1 (s2:aD G V (box h0 72 [i64 k.F,i64 k.B,i64 k.To]::aG 2 K b9 c0 b2::aG 29 K u x (aT b a)::rows [2] b a::aG 29 K z J (aT d c)::rows [2] d c::aG 4 K q r m::box y 35 o::L) s1)=>(aI (aL (cI [1,2,3,8,9,10,11,12,14,22,23,24,30,31,32] (fun f w=>∃ h1,gQ t p b2 d8 k h1=some k5/\f 57=zB h1/\aD G V (box h0 72 [i64 k.F,i64 k.B,i64 k.To]::aG 2 K b9 c0 b2::aG 29 K u x (aT b a)::rows [2] b a::aG 29 K z J (aT d c)::rows [2] d c::aG 4 K q r m::box y 35 o::L) w) ?_ ?_)))))))
     ·rintro f y0 ⟨h1,hm,s3,s4⟩
      unfold gQ at hm
      refine aC ?_
      rcases aS hm with ⟨k8,hm⟩|⟨k8,hm⟩
      ·refine aZ k8 s3 ?_;obtain ⟨y1,f3,k9,s5,y2⟩:=aD.lendBp s4 .head
       obtain ⟨h2,d0,s6,l0,s7⟩:=aD.lendBp s5 zt6
       refine dG (C:=fun w'=>∃ L',aD G h2 L' w') [(0,0),(1,0),(2,0),(3,0),(4,0),(5,0),(6,0),(7,0),(8,0),(9,0),(10,0),(11,0),(12,1),(13,1),(14,0)] Tryz_mixed (by kernel_rfl) (fun _ hg=>⟨_,aD.mono l0 hg⟩) (fun y3 s8=>?_)
       have b4:=aD.mono l0 s8
       refine bB rfl (fun _ _=>aY k6) (bB rfl (fun _ _=>aV (t':=1) rA rfl rfl) (bB rfl (fun _ ⟨_,b4⟩=>bG (t:=1) eG b4 (k9.mono d0) rfl rfl) (bB rfl (fun _ _=>aV (t':=0) kQ rfl rfl) (bB rfl (fun _ ⟨_,b4⟩=>bG (t:=0) eG b4 s6 rfl rfl) (bB rfl (fun _ _=>R_mul rfl rfl) (bB rfl (fun _ _=>aY (v:=zS a7 p.length c8) rfl) (bB rfl (fun _ _=>aV (t':=2) tJ rfl rfl) (bB rfl (fun _ ⟨_,b4⟩=>bG (t:=2) eG b4 (k9.mono d0) rfl rfl) ?_))))))))
       obtain ⟨f4,l1,hm⟩:=aB hm
       refine bB rfl (fun _ _=>eH bR rfl (h9.mono (zL (zL a0 f3) d0)) rfl rfl rfl l1) ?_;obtain ⟨y4,s9,t0⟩:=bE.el (sz:=1) rfl h9 l1
       cases t0
       refine bB rfl (fun _ ⟨_,b4⟩=>bG (t:=0) eG b4 (s9.mono (zL (zL a0 f3) d0)) rfl rfl) (bB rfl (fun _ _=>eP rfl rfl) (jZ rfl (cZ (Kt:=K) (xs:=([wr ((wr (k.B * t.N))+f4)]:List Int)) (cs:=[i64 (wr ((wr (k.B * t.N))+f4))]) (vs:=[(0,i64 (wr ((wr (k.B * t.N))+f4)))]) bR yY rfl rfl b4 rfl (by kernel_rfl) rfl rfl rfl ⟨rfl,trivial⟩ ?_)))
       intro t1 t2 (l2:aD G h2 (aG 2 K t1 1 ([wr ((wr (k.B * t.N))+f4)]:List Int)::aG 2 K b9 c0 b2::aG 29 K u x (aT b a)::rows [2] b a::aG 29 K z J (aT d c)::rows [2] d c::aG 4 K q r m::L) t2)
       refine aR (aC ⟨⟨_,l2⟩,?_⟩)
       refine jZ rfl ?_;obtain ⟨l3,t3,hm⟩:=aB hm
       refine mF (i:=0) bR underlying29 yY rfl rfl l2 rfl (zL (zL a0 f3) d0) (zL (zL a0 f3) d0) t3 rfl rfl rfl rfl (fun _ h=>h) (fun l4 l5 t4 (l6:aD G h2 (aG 2 K l4 l5 l3::aG 29 K u x (aT b a)::rows [2] b a::aG 29 K z J (aT d c)::rows [2] d c::aG 4 K q r m::L) t4)=>(aR (aC ⟨⟨_,l6⟩,?_⟩)))
       refine bB rfl (fun _ _=>dT (v:=zS l4 l3.length l5) rfl) (qE ?_)
       have y5:=s7 _ _ l6
       exact aP
      ·exact aP
     obtain ⟨t5,f5,y6,t6,e,h4⟩:=aD.lendD' (i:=4) s2 d9 rfl rfl
     refine nO (C:=fun w'=>aD G t5 (box h0 72 [i64 k.F,i64 k.B,i64 k.To]::aG 2 K b9 c0 b2::aG 29 K u x (aT b a)::rows [2] b a::aG 4 K q r m::box y 35 o::L) w') Tryz_mixed (by kernel_rfl) (aD.mono e (fZ.drew _)) (cJ (fun _ e=>aY (v:=zS g0 f9.length g1) rfl) (cJ (fun _ e=>aV (t':=0) aBz rfl rfl) (cJ (fun _ e=>bT eG e (i:=0) rfl rfl rfl) ?_)));obtain ⟨l7,t7,hm⟩:=aB hm
     refine aKI (vs:=[zS g0 f9.length g1,i64 k.F]) (v:=zB l7) call69 rfl (fun _ e=>(kU t7 e (aIo (t6 _ _ _ g2 (aIX d3))))) (cJ (fun _ e=>aY (v:=zB l7) rfl) ?_)
     rcases aS hm with ⟨a2,hm⟩|⟨a2,hm⟩
     ·refine uP (g:=40) rfl rfl a2 (cJ (fun _ e=>aV (t':=1) rA rfl rfl) (uP (g:=40) rfl rfl a2 (cJ (fun _ e=>bT eG e (i:=0) rfl rfl rfl) (uP (g:=40) rfl rfl a2 (cJ (fun _ e=>aMZ rfl rfl) (uP (g:=40) rfl rfl a2 (cJ (fun _ e=>aY (v:=zB (k.B != 0)) rfl) ?_)))))))
      rcases aS hm with ⟨l,hm⟩|⟨l,hm⟩
      ·refine wW (g:=44) rfl rfl (aGL l) (wW (g:=44) rfl rfl (aGL l) (wW (g:=44) rfl rfl (aGL l) (wW (g:=44) rfl rfl (aGL l) (wW (g:=44) rfl rfl (aGL l) (wW (g:=44) rfl rfl (aGL l) (wW (g:=44) rfl rfl (aGL l) (wW (g:=44) rfl rfl (aGL l) (wW (g:=44) rfl rfl (aGL l) (wW (g:=44) rfl rfl (aGL l) (wW (g:=44) rfl rfl (aGL l) (uP (g:=40) rfl rfl a2 (cJ (fun _ e=>xV (v:=zB true) l rfl rfl) (cJ (fun _ e=>xV (v:=zB true) a2 rfl rfl) (aAf (fun y7 t8=>?_)))))))))))))))
       have y8:=h4 _ _ t8
       exact aP
      ·refine uP (g:=44) rfl rfl (aDg l) (cJ (fun _ e=>aY (v:=zS a7 p.length c8) rfl) (uP (g:=44) rfl rfl (aDg l) (cJ (fun _ e=>aV (t':=0) aBz rfl rfl) (uP (g:=44) rfl rfl (aDg l) (cJ (fun _ e=>bT eG e (i:=0) rfl rfl rfl) (uP (g:=44) rfl rfl (aDg l) ?_))))));obtain ⟨h5,l8,hm⟩:=aB hm
       refine cJ (fun _ e=>eH bR rfl (h9.mono (zL a0 f5)) rfl rfl rfl l8) ?_;obtain ⟨y9,t9,u0⟩:=bE.el (sz:=1) rfl h9 l8
       cases u0
       refine uP (g:=44) rfl rfl (aDg l) (cJ (fun _ e=>bG (t:=0) eG e (t9.mono (zL a0 f5)) rfl rfl) (uP (g:=44) rfl rfl (aDg l) (cJ (fun _ e=>aY (v:=zS a7 p.length c8) rfl) (uP (g:=44) rfl rfl (aDg l) (cJ (fun _ e=>aV (t':=2) tJ rfl rfl) (uP (g:=44) rfl rfl (aDg l) (cJ (fun _ e=>bT eG e (i:=0) rfl rfl rfl) (uP (g:=44) rfl rfl (aDg l) ?_))))))));obtain ⟨h7,l9,hm⟩:=aB hm
       refine cJ (fun _ e=>eH bR rfl (h9.mono (zL a0 f5)) rfl rfl rfl l9) ?_;obtain ⟨z0,u1,u2⟩:=bE.el (sz:=1) rfl h9 l9
       cases u2
       refine uP (g:=44) rfl rfl (aDg l) (cJ (fun _ e=>bG (t:=0) eG e (u1.mono (zL a0 f5)) rfl rfl) (uP (g:=44) rfl rfl (aDg l) (cJ (fun _ e=>aMZ rfl rfl) (uP (g:=40) rfl rfl a2 (cJ (fun _ e=>aAn (v:=zB (h5 != h7)) l rfl rfl) (cJ (fun _ e=>xV (v:=zB (h5 != h7)) a2 rfl rfl) (aAf (fun z1 u3=>?_))))))))
       have u4:=h4 _ _ u3
       exact aC ⟨cE,h5 != h7,hm,rfl,(aD.arr 6 [2,3,4,5,0,1] u4 rfl)⟩
     ·refine wW (g:=40) rfl rfl (aIS a2) (wW (g:=40) rfl rfl (aIS a2) (wW (g:=40) rfl rfl (aIS a2) (wW (g:=40) rfl rfl (aIS a2) (vY (g:=44) rfl rfl (vY (g:=44) rfl rfl (vY (g:=44) rfl rfl (vY (g:=44) rfl rfl (vY (g:=44) rfl rfl (vY (g:=44) rfl rfl (vY (g:=44) rfl rfl (vY (g:=44) rfl rfl (vY (g:=44) rfl rfl (vY (g:=44) rfl rfl (vY (g:=44) rfl rfl (wW (g:=40) rfl rfl (aIS a2) (cJ (fun _ e=>aAn (v:=zB false) a2 rfl rfl) (aAf (fun z2 u5=>?_))))))))))))))))))
      have u6:=h4 _ _ u5
      exact aC ⟨cE,false,hm,rfl,(aD.arr 6 [2,3,4,5,0,1] u6 rfl)⟩
    ·refine bJ g9 rfl (aBx (kP (kP ?_)))
     have u7:=hr _ (zI hm).symm
     subst u7
     have hm:(lK p c6 m a b0 b2)=some e3:=ho
     clear hr ho
     exact vV (aC ⟨cE,b2,b9,c0,hm,k6,g8⟩)
  ·refine bJ f8 rfl (aBx (kP (kP ?_)))
   have u8:=hr _ (zI hm).symm
   subst u8
   have hm:(lJ a)=some R:=ho
   clear hr ho
   exact vV (aC ⟨cE,a,u,x,b,hm,i9,f7,(aD.arr 6 [0,1] d1 rfl)⟩)
theorem aBr {p:(List Int)} {a:bA} {b:Nat} {c:Bool} {d:Nat} {R:(List Int)} (hm:vN p a c=some R) (h:aD G K (L) w) (i:bE K a1 c2 p) (j:fK K a4 b (zC a a7 c8 a10 c11)) (k:bE K a7 c8 a.L) (l:bE K a10 c11 a.E) (m:fK K a13 d [zB c]):
  Calls prog 117 ([zS a1 p.length c2,cX a4 b,cX a13 d]:List Value).toArray w (eQ fun v w'=>∃ e g,v=zS e R.length g/\aD G K (aG 2 K e g R::L) w'):=by
 exact aP
theorem aFI {n:Int} {g:bA} {q:Nat} {a2:Bool} {r:Nat} {R:(List (List Int))} (hm:aET n g a2=some R) (hs:aD G K (L) w) (h3:fK K a1 q (zC g a4 c5 a7 c8)) (h6:bE K a4 c5 g.L) (h9:bE K a7 c8 g.E) (b8:fK K a10 r [zB a2]):
  Calls prog 67 ([i64 n,Value.func (.func 117) #[] #[cX a1 q,cX a10 r]]:List Value).toArray w (eQ fun v w'=>∃ a3 a5 V,v=zS a3 R.length a5/\List.length V=List.length R/\aD G K (aG 29 K a3 a5 (aT V R)::rows [2] V R::L) w'):=by
 refine aFe func67 ?_;unfold aET at hm
 refine aCk ?_;obtain ⟨o,b9,hm⟩:=aB hm
 refine aED call119 (aFj b9 hs) ?_
 rintro _ c0 ⟨h,j,rfl,c1⟩
 have c2:aD G K (rows [2] ([(h,j)]:List (Dp.Hd (List Int))) [o]::L) c0:=aD.rowsOne c1
 refine cZ (Kt:=K) (xs:=aT ([(h,j)]:List (Dp.Hd (List Int))) ([o]:List (List Int))) (cs:=[zS h o.length j]) (vs:=[(0,zS h o.length j)]) iG aAb rfl rfl c2 rfl (by kernel_rfl) rfl rfl rfl ⟨rfl,trivial⟩ ?_
 intro a6 c3 (c4:aD G K (aG 29 K a6 1 (aT ([(h,j)]:List (Dp.Hd (List Int))) ([o]:List (List Int)))::rows [2] ([(h,j)]:List (Dp.Hd (List Int))) ([o]:List (List Int))::L) c3)
 refine aCk ?_;refine dE ?_
 obtain ⟨f6,c6,ho⟩:=aB hm
 refine gI [1] c6 (fun b f w=>∃ k l a,f 5=zS k b.length l/\List.length a=List.length b/\aD G K (aG 29 K k l (aT a b)::rows [2] a b::L) w) ?_ ?_
 ·exact ⟨a6,1,([(h,j)]:List (Dp.Hd (List Int))),rfl,rfl,c4⟩
 ·rintro b f7 f f8 hm hr ⟨k,l,a,f9,e,a0⟩
  unfold aBS at hm
  refine dE (aCk ?_);obtain ⟨u,p,hm⟩:=aB hm
  obtain ⟨⟨x,y⟩,z⟩:=aFX e p
  have c7:=dJ a0 (i:=0) rfl (lT e p z)
  refine aF (fI iG rfl c7 rfl rfl rfl p) (aF (qD (t:=0) tV a0 (i:=0) rfl (lT e p z) rfl rfl rfl) (aM (v:=zS x u.length y) (aI (aK (aJ (v:=Value.func (.func 117) #[] #[cX a1 q,cX a10 r]) (aJ (v:=zS x u.length y) ?_))))));obtain ⟨g0,J,g1,c9,d0,d1⟩:=aD.lendD' (i:=0) a0 e rfl rfl
  obtain ⟨m,d2,hm⟩:=aB hm
  refine eE (vs:=[zS x u.length y]) (caps:=[cX a1 q,cX a10 r]) (us:=[zS x u.length y,cX a1 q,cX a10 r]) rfl call117 rfl rfl (aBr d2 d0 (aIo (c9 _ _ _ z (aIX p))) (h3.mono J) (h6.mono J) (h9.mono J) (b8.mono J)) ?_
  rintro _ g2 ⟨c,d,rfl,d3⟩
  have d4:=d1 _ _ d3
  refine aCk ?_;obtain ⟨g3,d5,g4,d6,d7,d8⟩:=aD.lendD' (i:=0) d4 e rfl rfl
  obtain ⟨g5,d9,e0,e1,e2⟩:=aD.lendSp d7 d5 .head
  obtain ⟨g6,e3,hm⟩:=aB hm
  refine aED call53 (lR e3 e1 ((aIo (d6 _ _ _ z (aIX p))).mono d9) e0) ?_
  rintro _ a8 ⟨rfl,e4⟩
  have e5:=e2 _ _ e4
  have a9:=d8 _ _ e5
  refine aCk ?_
  rcases aS hm with ⟨e6,hm⟩|⟨e6,hm⟩
  ·refine aCk ?_;refine nY (nE (aAm (nE ?_)))
   have e7:=hr _ (zI hm).symm
   subst e7
   have hm:(some b)=some R:=ho
   clear hr ho
   obtain rfl:=zI hm
   exact aAm (oH results67 rfl ⟨k,l,a,rfl,e,(aD.arr 3 [0,1] a9 rfl)⟩)
  ·refine aCk ?_
   have e9:aD G K (aG 2 K c d m::aG 29 K k l (aT a b)::rows [2] a b::L) a8:=(aD.arr 3 [2,0,1] a9 rfl)
   have f0:aD G K (rows [2] ([(c,d)]:List (Dp.Hd (List Int))) [m]::aG 29 K k l (aT a b)::rows [2] a b::L) a8:=aD.rowsOne e9
   refine cZ (Kt:=K) (xs:=aT ([(c,d)]:List (Dp.Hd (List Int))) ([m]:List (List Int))) (cs:=[zS c m.length d]) (vs:=[(0,zS c m.length d)]) iG aAb rfl rfl f0 rfl (by kernel_rfl) rfl rfl rfl ⟨rfl,trivial⟩ ?_
   intro f1 f2 (f3:aD G K (aG 29 K f1 1 (aT ([(c,d)]:List (Dp.Hd (List Int))) ([m]:List (List Int)))::rows [2] ([(c,d)]:List (Dp.Hd (List Int))) ([m]:List (List Int))::aG 29 K k l (aT a b)::rows [2] a b::L) f2)
   obtain ⟨b0,b1,hm⟩:=aB hm
   refine aEH (i:=0) (tys:=[2]) (hds:=a) (hds2:=([(c,d)]:List (Dp.Hd (List Int)))) iG underlying36 aAb rfl rfl f3 e rfl rfl rfl b1 rfl rfl rfl rfl ?_
   intro b2 b3 f4 (f5:aD G K (aG 29 K b2 b3 (aT (a++([(c,d)]:List (Dp.Hd (List Int)))) b0)::rows [2] (a++([(c,d)]:List (Dp.Hd (List Int)))) b0::L) f4)
   refine aCk ?_;exact ⟨_,(zI hm).symm,cE,b2,b3,(a++([(c,d)]:List (Dp.Hd (List Int)))),rfl,(aDC e rfl b1),f5⟩
theorem aDa {t:bA} {a:Bool} {R:(List Int)} (hm:pE t a=some R) (hs:aD G K (L) w) (l:bE K a1 c2 t.L) (m:bE K a4 c5 t.E):
  Calls prog 65 ([zA (zCa t a1 c2 a4 c5),zB a]:List Value).toArray w (eQ fun v w'=>∃ b d e,v=zS d R.length e/\Hp.le K b/\bE b d e R/\aD G b (L) w'):=by
 refine aFe func65 ?_;unfold pE at hm
 refine aCk ?_;refine aKb fun g w8 a7=>?_
 refine aKb fun h a8 n=>?_
 iterate 7 refine aFl ?_
 refine aF (eV (vs:=[Value.pointer (some ⟨g,0,none⟩),Value.pointer (some ⟨h,0,none⟩)]) rfl) ?_;obtain ⟨a9,j,o,p,q⟩:=aD.lendBp n zt1
 obtain ⟨b0,c,r,u,x⟩:=aD.lendBp p .head
 obtain ⟨b1,y,hm⟩:=aB hm
 refine aED call67 (aFI y u (o.mono c) (l.mono (zL j c)) (m.mono (zL j c)) r) ?_
 rintro _ z ⟨b2,b3,b4,rfl,J,V⟩
 have a0:=x _ _ V
 have a2:=q _ _ a0
 obtain ⟨a3,b5,b6,_,k,_⟩:=aD.lendD' (i:=2) a2 J rfl rfl
 replace k:aD G a3 (box g 35 (zC t a1 c2 a4 c5)::box h 4 [zB a]::L) z:=k
 exact aP
theorem pX {d:(List Int)} {l:Int} {R:(List Int)} (hm:iI d l=some R) (hs:aD G K (L) w) (h3:bE K a1 c2 d):
  Calls prog 247 ([zS a1 d.length c2,i64 l]:List Value).toArray w (eQ fun v w'=>∃ u x,v=zS u R.length x/\aD G K (aG 2 K u x R::L) w'):=by
 refine aFe func247 ?_;unfold iI at hm
 iterate 5 refine aFl ?_
 refine tS [0,1] (fun f w=>jJ d l=some R/\aD G K (L) w) ?_ ?_
 ·rintro f w4 ⟨hm,a9⟩
  unfold jJ at hm
  refine aK (aJ (v:=zS a1 d.length c2) (aF (bF (len:=d.length) bR rfl) (aF (aFq runUnderlying115 rfl ⟨_,runUnderlying3⟩) (aJ (v:=i64 l) (aF (aFq runUnderlying115 rfl ⟨_,runUnderlying3⟩) ?_)))));obtain ⟨c,q7,hm⟩:=aB hm
  refine aED call250 (aOh a9 q7) ?_
  rintro _ w8 ⟨rfl,y⟩
  refine aJ (v:=Value.tuple #[Value.int .u64 c.1,Value.int .u64 c.2]) (aF (bM rfl rfl) (aF (bM rfl rfl) (aM (v:=Value.int .u64 c.1) (aM (v:=Value.int .u64 c.2) (aI (tS [0,6] (fun f w=>jI d c=some R/\aD G K (L) w) ?_ ?_))))))
  ·rintro f d4 ⟨hm,b1⟩
   unfold jI at hm
   refine aK (aJ (v:=Value.int .u64 c.2) (aF (aIU runUnderlying3 rfl ⟨_,runUnderlying115⟩) ?_));obtain ⟨a,b2,hm⟩:=aB hm
   refine aNb (e:=(0:Int)) bR yY rfl rfl b1 rfl rfl rfl b2 rfl (fun b b3 (z:aD G K (aG 2 K b a.length a::L) b3)=>(aM (v:=zS b a.length a.length) (aI (aK (aJ (v:=zS b a.length a.length) (aJ (v:=zS a1 d.length c2) ?_))))));obtain ⟨b4,J,hm⟩:=aB hm
   refine aIZ bR rfl z (i:=0) rfl Cut.whole rfl rfl rfl (aHy _ _ _) aGO (aLx rfl z h3) J (fun b5 (b6:aD G K (aG 2 K b a.length b4::L) b5)=>(aM (v:=i64 ((Nat.min d.length a.length):Int)) (aI (aL (aU [] (fun f w=>∃ j,jG j=some R/\f 7=zS b j.length a.length/\aD G K (aG 2 K b a.length j::L) w) ?_ ?_)))))
   ·rintro f d5 ⟨j,hm,b7,b8⟩
    unfold jG at hm
    refine aC (aK (bH b7 (aM (v:=zS b j.length a.length) (aI ?_))));obtain rfl:=zI hm
    exact aMD results247 ⟨b,a.length,rfl,b8⟩
   obtain ⟨d6,c0,ho⟩:=aB hm
   refine cQ [] c0 (fun k m f w=>f 7=zS b k.length a.length/\f 8=i64 m/\aD G K (aG 2 K b a.length k::L) w) ?_ ?_
   ·exact ⟨(Eq.trans rfl (congrArg (fun n=>zS b n a.length) (aEE J))),rfl,b6⟩
   ·rintro k m d7 f d8 hm hr ⟨o,p,d9⟩
    unfold jH at hm
    refine aL (aK (bH p (bH o (aF (bF (len:=k.length) bR rfl) (aF (dQ rfl rfl) (aI ?_))))))
    rcases aS hm with ⟨r,hm⟩|⟨r,hm⟩
    ·refine aZ r rfl (bD (aC (dE (aKg [(0,0),(1,0),(2,0),(3,0),(4,0),(5,0),(6,0),(7,1),(8,0),(9,0)] fun e0 q=>?_))));refine bB rfl (fun _ _=>aY p) (bB rfl (fun _ _=>aY o) (bB rfl (fun _ _=>aY p) ?_))
     obtain ⟨c1,c3,hm⟩:=aB hm
     have c4:=oU q (i:=0) rfl
     obtain ⟨e1,e2,V⟩:=Cut.ex 1 b a.length m
     refine bB rfl (fun _ _=>aEf bR c4 V rfl rfl rfl c3) (bB rfl (fun _ _=>aY o) (bB rfl (fun _ _=>aY p) ?_));obtain ⟨c5,a0,hm⟩:=aB hm
     have c6:=oU q (i:=0) rfl
     obtain ⟨e3,e4,a2⟩:=Cut.ex 1 b a.length 0
     refine bB rfl (fun _ _=>aGP bR c6 a2 rfl rfl rfl a0) (jZ rfl ?_);obtain ⟨c7,a3,hm⟩:=aB hm
     refine aIZ bR rfl q (i:=0) rfl V rfl rfl rfl (aHy _ _ _) aGO (aIr rfl q (i:=0) rfl a0 a2) a3 (fun c8 (a4:aD G K (aG 2 K b a.length c7::L) c8)=>(aR (aC ⟨⟨_,a4⟩,?_⟩)))
     exact bB rfl (fun _ _=>eP rfl rfl) (bB rfl (fun _ _=>dT (v:=i64 (wr (m+((Nat.min c5.length c1.length):Int)))) rfl) (qE (dI (aC ⟨_,(zI hm).symm,cE,(Eq.trans o (congrArg (fun n=>zS b n a.length) (aEE a3))),rfl,a4⟩))))
    ·refine bJ r rfl (aBx (kP (kP ?_)))
     have c9:=hr _ (zI hm).symm
     subst c9
     have hm:(jG k)=some R:=ho
     exact aP
  refine aL (cI [0,6] (fun f w=>∃ t,gC d c t=some R/\f 26=zB t/\aD G K (L) w) ?_ ?_)
  ·rintro f e5 ⟨t,hm,d0,d1⟩
   unfold gC at hm
   refine aC ?_
   rcases aS hm with ⟨a5,hm⟩|⟨a5,hm⟩
   ·exact aP
   ·exact bJ a5 d0 (bD (aC ⟨cE,hm,d1⟩))
  refine aW (aJ (v:=Value.int .u64 c.1) (aF (aCH rfl rfl) (aJ (v:=zB (decide (0 < c.1))) ?_)))
  rcases aS hm with ⟨h,hm⟩|⟨h,hm⟩
  ·exact aGG h rfl rfl (aGG h rfl rfl (aF (xV (v:=zB true) h rfl rfl) (aI ⟨cE,true,hm,rfl,y⟩)))
  ·exact yV h rfl rfl (aJ (v:=Value.int .u64 c.2) (yV h rfl rfl (aF (aCH rfl rfl) (aF (aAn (v:=zB (decide (9223372036854775807 < c.2))) h rfl rfl) (aI ⟨cE,decide (9223372036854775807 < c.2),hm,rfl,y⟩)))))
 refine aCk ?_
 rcases aS hm with ⟨a6,hm⟩|⟨a6,hm⟩
 ·exact aP
 ·exact bJ a6 rfl (bD (aC ⟨cE,hm,hs⟩))
theorem aDb {t:bA} {a5:(List Int)} {a6:Bool} {R:(List Int)} (hm:wE t a5 a6=some R) (hs:aD G K (L) w) (h3:bE K a1 c2 t.L) (h6:bE K a4 c5 t.E) (h9:bE K a7 c8 a5):
  Calls prog 202 ([zA (zCa t a1 c2 a4 c5),zS a7 a5.length c8,zB a6]:List Value).toArray w (eQ fun v w'=>∃ c1 c3,v=zS c1 R.length c3/\aD G K (aG 2 K c1 c3 R::L) w'):=by
 let c:=(zC t a1 c2 a4 c5)
 refine aFe func202 ?_;unfold wE at hm
 refine aCk ?_;refine aKb fun d j1 j2=>?_
 refine aCk ?_;refine aKc ([(-1)]:List Int) fun j3 j4 e4=>?_
 refine aCk ?_;obtain ⟨j5,j6,e5,e6,e7⟩:=aD.lendSp e4 (zR _) .head
 obtain ⟨j7,e8,hm⟩:=aB hm
 refine aED call247 (pX e8 e6 e5) ?_
 rintro _ j8 ⟨a,b,rfl,e9⟩
 have f0:=e7 _ _ e9
 refine aCk ?_;obtain ⟨o,f1,hm⟩:=aB hm
 refine aED call70 (eK f1 f0 h9) ?_
 rintro _ j9 ⟨a8,a9,rfl,k0⟩
 refine aCk ?_;refine aU [2,3,8] (fun f w=>∃ p,vP t a6 o p=some R/\f 7=zS a p.length b/\aD G K (aG 2 K a8 a9 o::aG 2 K a b p::box d 35 c::L) w) ?_ ?_
 ·rintro f k1 ⟨p,hm,k2,k3⟩
  unfold vP at hm
  refine aCk ?_;refine aU [] (fun f w=>∃ b0,aEm b0=some R/\f 7=zS a b0.length b/\aD G K (aG 2 K a b b0::L) w) aP ?_
  obtain ⟨k4,f2,ho⟩:=aB hm
  refine cQ [2,3] f2 (fun q b1 f w=>∃ r u,f 7=zS a q.length b/\f 8=zS r b1.length u/\aD G K (aG 2 K r u b1::aG 2 K a b q::box d 35 c::L) w) aP ?_
  ·rintro q b1 c4 f f3 hm hr ⟨r,u,k5,k6,b2⟩
   unfold vO at hm
   refine aCk ?_
   rcases aS hm with ⟨f4,hm⟩|⟨f4,hm⟩
   ·refine aCk ?_;refine aU [2,3] (fun f w=>∃ x y z J,aAV x y=some c4/\f 7=zS a x.length b/\f 8=zS z y.length J/\aD G K (aG 2 K z J y::aG 2 K a b x::box d 35 c::L) w) ?_ ?_
    ·rintro f k7 ⟨x,y,z,J,hm,f5,f6,f7⟩
     unfold aAV at hm
     refine aCk ?_;exact ⟨_,(zI hm).symm,cE,z,J,f5,f6,f7⟩
    refine aCk ?_;obtain ⟨c6,c7,hm⟩:=aB hm
    have f8:=dJ b2 (i:=0) rfl c7
    refine aF (fI bR rfl f8 rfl rfl rfl c7) (aCk ?_);obtain ⟨f9,c9,hm⟩:=aB hm
    have g0:=oU b2 (i:=0) rfl
    obtain ⟨g1,g2,d0⟩:=Cut.ex 1 r u 1
    refine aF (aEf bR g0 d0 rfl rfl rfl c9) ?_
    have k8:aD G K (aG 2 K g1 g2 f9::aG 2 K a b q::box d 35 c::L) f3:=aD.cutP b2 (i:=0) rfl c9 d0
    refine aCk ?_;refine aU [2,3] (fun f w=>∃ b3 b4 d1 d2,aEn b3 b4=some c4/\f 7=zS a b3.length b/\f 8=zS d1 b4.length d2/\aD G K (aG 2 K d1 d2 b4::aG 2 K a b b3::box d 35 c::L) w) aP ?_
    obtain ⟨k9,g3,ho⟩:=aB hm
    refine vX [2,3,11,41,42] g3 (fun g e l f w=>∃ j k,f 7=zS a g.length b/\f 8=zS j e.length k/\f 43=i64 l/\aD G K (aG 2 K j k e::aG 2 K a b g::box d 35 c::L) w) aP ?_
    ·rintro g e l b5 f l0 hm hr ⟨j,k,g4,l1,l2,l3⟩
     unfold qR at hm
     refine aCk ?_
     rcases aS hm with ⟨g5,hm⟩|⟨g5,hm⟩
     ·refine aCk ?_;refine aU [2,3,11,41,42,43] (fun f w=>∃ V a0 a2 a3,lQ l V a0=some b5/\f 7=zS a V.length b/\f 8=zS a2 a0.length a3/\aD G K (aG 2 K a2 a3 a0::aG 2 K a b V::box d 35 c::L) w) ?_ ?_
      ·rintro f l4 ⟨V,a0,a2,a3,hm,g6,g7,g8⟩
       unfold lQ at hm
       refine aCk ?_;exact ⟨_,(zI hm).symm,cE,a2,a3,g6,g7,rfl,g8⟩
      refine aCk ?_;obtain ⟨l5,g9,hm⟩:=aB hm
      refine aCk ?_;obtain ⟨l6,l7,h0⟩:=bE.el (sz:=3) rfl h6 g9
      cases h0
      refine aCk ?_;refine aFm fun l8 l9 m0=>?_
      refine aJz fun m1 m2=>?_;refine aCk ?_
      refine aME ?_;refine aCk ?_
      refine aAf (fun m3 m4=>?_)
      iterate 1 refine aFl ?_
      refine tS [2,3,7,8,11,41,42,43] (fun f w=>∃ b6 m,qQ c6 g e l b6 m=some b5/\f 14=i64 b6/\f 15=i64 m/\aD G K (aG 2 K j k e::aG 2 K a b g::box d 35 c::L) w) ?_ ?_
      ·rintro f m5 ⟨b6,m,hm,m6,m7,m8⟩
       unfold qQ at hm
       iterate 1 refine aFl ?_
       refine cI [2,3,7,8,11,15,41,42,43] (fun f w=>∃ b7,nV c6 g e l m b7=some b5/\f 64=zB b7/\aD G K (aG 2 K j k e::aG 2 K a b g::box d 35 c::L) w) ?_ ?_
       ·rintro f m9 ⟨b7,hm,n0,d3⟩
        unfold nV at hm
        refine aCk ?_
        rcases aS hm with ⟨h1,hm⟩|⟨h1,hm⟩
        ·refine aCk ?_;obtain ⟨d4,d5,hm⟩:=aB hm
         have d6:=dJ d3 (i:=1) rfl d5
         refine aF (fI bR rfl d6 rfl rfl rfl d5) (aCk ?_);obtain ⟨n1,d7,hm⟩:=aB hm
         refine aF (fI bR rfl d6 rfl rfl rfl d7) ?_;obtain ⟨d8,d9,hm⟩:=aB hm
         refine pO (i:=1) (t:=0) (ns:=[i64 (wr (d4+1))]) (e':=(wr (d4+1):Int)) sizeOf2 d3 rfl (zR _) rfl rfl rfl d7 d9 rfl rfl (dM rfl) rfl (fun cs h=>by cases h;rfl) (fun h2 (n2:aD G K (aG 2 K j k e::aG 2 K a b d8::box d 35 c::L) h2)=>(aCk ?_));refine aKc ([m]:List Int) fun n3 n4 n5=>?_
         obtain ⟨h4,n6,hm⟩:=aB hm
         refine aMq fun h5 h7 n7 h8=>?_;refine aCk ?_
         exact ⟨cE,d8,h4,h5,h7,hm,(Eq.trans g4 (congrArg (fun n=>zS a n b) (iS d9))),rfl,h8⟩
        ·exact aP
       exact aP
      exact aP
     ·exact aP
   ·exact aP
 obtain ⟨n8,i0,ho⟩:=aB hm
 refine cQ [2,3,8,22,23] i0 (fun b8 e0 f w=>f 7=zS a b8.length b/\f 24=i64 e0/\aD G K (aG 2 K a8 a9 o::aG 2 K a b b8::box d 35 c::L) w) aP ?_
 ·rintro b8 e0 n9 f o0 hm hr ⟨i1,o1,e1⟩
  unfold tO at hm
  refine aCk ?_
  rcases aS hm with ⟨i2,hm⟩|⟨i2,hm⟩
  ·refine aCk ?_;refine dE (aCk ?_)
   obtain ⟨o2,i3,hm⟩:=aB hm
   refine aCk ?_;obtain ⟨o3,o4,i4⟩:=bE.el (sz:=1) rfl h9 i3
   cases i4
   refine aCk ?_;obtain ⟨o5,b9,hm⟩:=aB hm
   have i5:=dJ e1 (i:=1) rfl b9
   refine aF (fI bR rfl i5 rfl rfl rfl b9) ?_;obtain ⟨i6,e2,hm⟩:=aB hm
   refine pO (i:=1) (t:=0) (ns:=[i64 0]) (e':=(0:Int)) sizeOf2 e1 rfl (zR _) rfl rfl rfl b9 e2 rfl rfl (dM rfl) rfl (fun cs h=>by cases h;rfl) (fun i7 (i8:aD G K (aG 2 K a8 a9 o::aG 2 K a b i6::box d 35 c::L) i7)=>(aCk ?_));exact ⟨_,(zI hm).symm,cE,(Eq.trans i1 (congrArg (fun n=>zS a n b) (iS e2))),rfl,i8⟩
  ·exact aP
theorem uK {k:Int} {p:(List Int)} {a:Nat} {R:Bool} (hm:qS k p=some R) (b:aD G K (L) w) (c:fK K a1 a [zS a4 p.length c5]) (d:bE K a4 c5 p):
  Calls prog 204 ([i64 k,cX a1 a]:List Value).toArray w (eQ fun v w'=>v=zB R/\aD G K (L) w'):=by
 exact aP
theorem nC {s_ b:(List Int)} {a:Nat} {R:Int} (hm:fE s_ b=some R) (o:aD G K (L) w) (e:bE K a1 c2 s_) (g:fK K a4 a [zS a7 b.length c8]) (h:bE K a7 c8 b):
  Calls prog 248 ([zS a1 s_.length c2,Value.func (.func 204) #[] #[cX a4 a]]:List Value).toArray w (eQ fun v w'=>v=i64 R/\aD G K (L) w'):=by
 refine aFe func248 ?_;unfold fE at hm
 refine aCk ?_;refine aU [] (fun f w=>nZ=some R/\aD G K (L) w) aP ?_
 obtain ⟨p,i,ho⟩:=aB hm
 refine gI [0,1,7] i (fun c f w=>f 8=i64 c/\aD G K (L) w) aP ?_
 ·rintro c q f r hm hr ⟨t,j⟩
  unfold eN at hm
  refine aCk ?_
  rcases aS hm with ⟨k,hm⟩|⟨k,hm⟩
  ·refine aCk ?_;refine dE (aCk ?_)
   obtain ⟨d,l,hm⟩:=aB hm
   refine aCk ?_;obtain ⟨u,x,m⟩:=bE.el (sz:=1) rfl e l
   cases m
   refine aCk ?_;obtain ⟨y,n,hm⟩:=aB hm
   exact eE (vs:=[i64 d]) (caps:=[cX a4 a]) (us:=[i64 d,cX a4 a]) rfl call204 rfl rfl (uK n j g h) aP
  ·exact aP
end Gv
namespace Gv
open Gv.Hp renaming le_refl→zR
open Go.Value renaming slice→zS,pointer→zP,agg→zA
open Option.some renaming inj→zI
open Gv.Hp renaming le_trans→zL
open Go Go.Proofs Go.Proofs.Tryz
set_option maxRecDepth 20000
set_option maxHeartbeats 40000000
variable {G:yU} {K Kf:Hp} {L:List jN} {w:World} {a1 a3 a6 a4 a2 a7 a10 a13 a12 a15 a17:Option Addr} {c2 c7 c5 b1 c3 c8 c14 c11 b10 b11 c13 c16:Nat}
theorem oA {s_ g:(List Int)} {a:Nat} {R:(List Int)} (hm:fX s_ g=some R) (hs:aD G K (aG 2 K a1 c2 s_::L) w) (o:fK K a3 a [zS a6 g.length c7]) (p:bE K a6 c7 g):
  Calls prog 203 ([zS a1 s_.length c2,Value.func (.func 204) #[] #[cX a3 a]]:List Value).toArray w (eQ fun v w'=>∃ q r,v=zS q R.length r/\aD G K (aG 2 K q r R::L) w'):=by
 refine aFe func203 ?_;unfold fX at hm
 refine aCk ?_;obtain ⟨K9,u,b3,b4,b5⟩:=aD.lendSp hs (zR _) .head
 obtain ⟨e1,b6,hm⟩:=aB hm
 refine aED call248 (nC b6 b4 b3 (o.mono u) (p.mono u)) ?_
 rintro _ e2 ⟨rfl,b7⟩
 have e3:=b5 _ _ b7
 refine aCk ?_
 rcases aS hm with ⟨b8,hm⟩|⟨b8,hm⟩
 ·exact aP
 ·refine aCk ?_;refine aU [] (fun f w=>∃ b c,gV b c=some R/\f 0=zS a1 b.length c2/\f 5=i64 c/\aD G K (aG 2 K a1 c2 b::L) w) ?_ ?_
  ·rintro f e4 ⟨b,c,hm,b9,e5,x⟩
   unfold gV at hm
   refine aCk ?_;obtain ⟨e6,c0,hm⟩:=aB hm
   have c1:=oU x (i:=0) rfl
   obtain ⟨e7,e8,y⟩:=Cut.ex 1 a1 c2 c
   refine aF (aEf bR c1 y rfl rfl rfl c0) ?_;obtain ⟨z,J,hm⟩:=aB hm
   refine aDU bR yY rfl x (i:=0) rfl y rfl rfl J (fun V (a0:aD G K (aG 2 K a1 c2 z::L) V)=>?_)
   iterate 4 refine aFl ?_
   refine bH (v:=zS a1 z.length c2) (Eq.trans b9 (congrArg (fun n=>zS a1 n c2) (aEE J))) (aCk ?_);obtain ⟨c3,a2,hm⟩:=aB hm
   have c4:=oU a0 (i:=0) rfl
   obtain ⟨c5,c6,a4⟩:=Cut.ex 1 a1 c2 0
   refine aF (aGP bR c4 a4 rfl rfl rfl a2) (aCk ?_)
   have e9:aD G K (aG 2 K c5 c6 c3::L) V:=aD.cutP a0 (i:=0) rfl a2 a4
   exact aP
  obtain ⟨f0,c8,ho⟩:=aB hm
  refine vX [1] c8 (fun j k l f w=>f 0=zS a1 j.length c2/\f 5=i64 k/\f 6=i64 l/\aD G K (aG 2 K a1 c2 j::L) w) aP ?_
  ·rintro j k l c9 f f1 hm hr ⟨d0,f2,f3,a5⟩
   unfold dR at hm
   refine aCk ?_
   rcases aS hm with ⟨d1,hm⟩|⟨d1,hm⟩
   ·refine aCk ?_;refine aU [1,6] (fun f w=>∃ d m,eU l d m=some c9/\f 0=zS a1 d.length c2/\f 5=i64 m/\aD G K (aG 2 K a1 c2 d::L) w) ?_ ?_
    ·rintro f f4 ⟨d,m,hm,d2,d3,d4⟩
     unfold eU at hm
     refine aCk ?_;exact ⟨_,(zI hm).symm,cE,d2,d3,rfl,d4⟩
    refine aCk ?_;obtain ⟨e,a7,hm⟩:=aB hm
    have a8:=dJ a5 (i:=0) rfl a7
    refine aF (fI bR rfl a8 rfl rfl rfl a7) (aCk ?_);obtain ⟨f5,d5,hm⟩:=aB hm
    refine eE (vs:=[i64 e]) (caps:=[cX a3 a]) (us:=[i64 e,cX a3 a]) rfl call204 rfl rfl (uK d5 a5 o p) ?_
    rintro _ f6 ⟨rfl,d6⟩
    refine aCk ?_
    rcases aS hm with ⟨d7,hm⟩|⟨d7,hm⟩
    ·refine aCk ?_;obtain ⟨f7,a9,hm⟩:=aB hm
     refine aF (fI bR rfl a8 rfl rfl rfl a9) ?_;obtain ⟨b0,b1,hm⟩:=aB hm
     refine pO (i:=0) (t:=0) (ns:=[i64 e]) (e':=(e:Int)) sizeOf2 d6 rfl (zR _) rfl rfl rfl a9 b1 rfl rfl (dM rfl) rfl (fun cs h=>by cases h;rfl) (fun d8 (d9:aD G K (aG 2 K a1 c2 b0::L) d8)=>(aCk ?_));exact ⟨cE,b0,wr (k+1),hm,(Eq.trans d0 (congrArg (fun n=>zS a1 n c2) (iS b1))),rfl,d9⟩
    ·exact aP
   ·exact aP
theorem yN {t:bA} {R:(List Int)} (hm:wF t=some R) (J:aD G K (L) w) (d:bE K a1 c2 t.L) (e:bE K a4 c5 t.E):
  Calls prog 157 ([zA (zCa t a1 c2 a4 c5)]:List Value).toArray w (eQ fun v w'=>∃ a b,v=zS a R.length b/\aD G K (aG 2 K a b R::L) w'):=by
 refine aFe func157 ?_;unfold wF at hm
 refine aCk ?_;refine aKb fun V w8 a2=>?_
 refine aCk ?_;refine aKc ([t.I]:List Int) fun a3 a5 g=>?_
 obtain ⟨a6,c,h,i,j⟩:=aD.lendSp g (zR _) .head
 obtain ⟨a7,k,hm⟩:=aB hm
 refine aED call202 (aDb k i (d.mono c) (e.mono c) h) ?_
 rintro _ a8 ⟨a9,b0,rfl,l⟩
 have b1:=j _ _ l
 refine aFm fun m b2 b3=>?_;refine aJz fun b4 n=>?_
 refine aCk ?_;obtain ⟨b5,o,hm⟩:=aB hm
 refine aED call46 (aCW o n) ?_
 rintro _ b6 ⟨b8,b9,rfl,p⟩
 refine aF (eV (vs:=[zP (some ⟨m,0,none⟩)]) rfl) ?_;obtain ⟨c0,c1,q,r,c3⟩:=aD.lendSp p (zR _) zt3
 obtain ⟨c4,u,x,y,c6⟩:=aD.lendBp r zt1
 obtain ⟨c7,z,hm⟩:=aB hm
 exact aED call203 (oA z y x (q.mono u)) aP
theorem aKD {c d:Int} {a:(List aH)} {b:(List Edge)} {R:(Int × Int × (List aH) × (List Edge))} (hm:aLD c d a b=some R) (k:aD G K (aG 9 K a2 c3 a::aG 72 K a4 c5 b::box b1 35 [i64 c,i64 d,zS a2 a.length c3,zS a4 b.length c5]::L) w):
  Calls prog 207 ([zP (some ⟨b1,0,none⟩)]:List Value).toArray w (eQ fun v w'=>∃ e g h i,v=Value.tuple #[]/\aD G K (aG 9 K e g R.2.2.1::aG 72 K h i R.2.2.2::box b1 35 [i64 R.1,i64 R.2.1,zS e R.2.2.1.length g,zS h R.2.2.2.length i]::L) w'):=by
 refine aFe func207 ?_;unfold aLD at hm
 refine aCk ?_
 have l:aD G K (aG 72 K a4 c5 b::aG 9 K a2 c3 a::box b1 35 [i64 c,i64 d,zS a2 a.length c3,zS a4 b.length c5]::L) w:=(aD.arr 2 [1,0] k rfl)
 obtain ⟨j,m,hm⟩:=aB hm
 refine aED call97 (lib_SortEdge l m) ?_
 rintro _ n ⟨rfl,o,p⟩
 have q:aD G K (aG 72 K a4 c5 j::aG 9 K a2 c3 a::box b1 35 [i64 c,i64 d,zS a2 a.length c3,zS a4 j.length c5]::L) n:=by rw [←o];exact p
 exact aP
theorem sS {a:(List Int)} {R:Int} (hm:fN a=some R) (j:aD G K (L) w) (c:bE K a1 c2 a):
  Calls prog 27 ([zS a1 a.length c2]:List Value).toArray w (eQ fun v w'=>v=i64 R/\aD G K (L) w'):=by
 refine aFe func27 ?_;unfold fN at hm
 iterate 5 refine aFl ?_
 refine tS [0] (fun f w=>iJ a=some R/\aD G K (L) w) ?_ ?_
 ·rintro f k ⟨hm,l⟩
  unfold iJ at hm
  refine aCk ?_;obtain ⟨m,d,hm⟩:=aB hm
  refine aCk ?_;obtain ⟨n,o,e⟩:=bE.el (sz:=1) rfl c d
  cases e
  refine aCk ?_;refine aU [] (fun f w=>∃ b,nW b=some R/\f 3=i64 b/\aD G K (L) w) aP ?_
  obtain ⟨p,g,ho⟩:=aB hm
  exact cQ [0] g (fun h i f w=>f 3=i64 h/\f 4=i64 i/\aD G K (L) w) aP aP
 exact aP
theorem aBW {p:(List Int)} {R:Int} (hm:vQ p=some R) (a:aD G K (L) w) (b:bE K a1 c2 p):
  Calls prog 249 ([zS a1 p.length c2]:List Value).toArray w (eQ fun v w'=>v=i64 R/\aD G K (L) w'):=by
 exact aP
theorem tG {e:Edge} {p:(List Int)} {a:Nat} {R:Bool} (hm:kK e p=some R) (c:aD G K (L) w) (d:fK K a1 a [zS a4 p.length c5]) (g:bE K a4 c5 p):
  Calls prog 206 ([zA #[i64 e.F,i64 e.B,i64 e.To],cX a1 a]:List Value).toArray w (eQ fun v w'=>v=Value.bool R/\aD G K (L) w'):=by
 refine aFe func206 ?_;unfold kK at hm
 refine aCk ?_;refine aKb fun h i j=>?_
 refine aCk ?_;exact cI [] (fun f w=>∃ b,lD b=some R/\f 3=Value.bool b/\aD G K (L) w) aP aP
theorem aEx {b c:Int} {a:(List aH)} {d R:(List Edge)} (hm:wS b c a d=some R) (i:aD G K (aG 9 K a2 c3 a::aG 72 K a4 c5 d::box b1 35 [i64 b,i64 c,zS a2 a.length c3,zS a4 d.length c5]::L) w):
  Calls prog 207 ([zP (some ⟨b1,0,none⟩)]:List Value).toArray w (eQ fun v w'=>∃ e g,v=Value.tuple #[]/\aD G K (aG 9 K a2 c3 a::aG 72 K e g R::box b1 35 [i64 b,i64 c,zS a2 a.length c3,zS e R.length g]::L) w'):=by
 refine aFe func207 ?_;unfold wS at hm
 refine aCk ?_
 have j:aD G K (aG 72 K a4 c5 d::aG 9 K a2 c3 a::box b1 35 [i64 b,i64 c,zS a2 a.length c3,zS a4 d.length c5]::L) w:=(aD.arr 2 [1,0] i rfl)
 obtain ⟨h,k,hm⟩:=aB hm
 refine aED call97 (lib_SortEdge j k) ?_
 rintro _ l ⟨rfl,m,n⟩
 have o:aD G K (aG 72 K a4 c5 h::aG 9 K a2 c3 a::box b1 35 [i64 b,i64 c,zS a2 a.length c3,zS a4 h.length c5]::L) l:=by rw [←m];exact n
 exact aP
theorem aDx {t:bA} {p y:(List Int)} {z:Nat} {R:bA} (hm:yD t p y=some R) (hs:aD G K (L) w) (h3:bE K a1 c2 t.L) (h6:bE K a4 c5 t.E) (n:bE K a7 c8 p) (e2:fK K a10 z [zS a13 y.length c14]) (e3:bE K a13 c14 y):
  Calls prog 205 ([zA (zCa t a1 c2 a4 c5),zS a7 p.length c8,Value.func (.func 206) #[] #[cX a10 z]]:List Value).toArray w (eQ fun v w'=>∃ b7 b8 b9 c0,v=zA (zCa R b7 b8 b9 c0)/\aD G K (aG 9 K b7 b8 R.L::aG 72 K b9 c0 R.E::L) w'):=by
 let o:=zG
 refine aFe func205 ?_;unfold yD at hm
 refine aCk ?_;refine aKb fun e4 i3 i4=>?_
 refine aFm fun q i5 e5=>?_;refine aCk ?_
 refine cI [1,2,3,6] (fun f w=>∃ e g a h b c,xN t p y e g a=some R/\f 7=zP (some ⟨h,0,none⟩)/\aD G K (aG 9 K b c a::box h 35 [i64 e,i64 g,zS b a.length c,zS none 0 0]::box q 35 o::box e4 35 (zC t a1 c2 a4 c5)::L) w) ?_ ?_
 ·rintro f i6 ⟨e,g,a,h,b,c,hm,e6,e7⟩
  unfold xN at hm
  refine aCk ?_;refine aU [6,7] (fun f w=>∃ k r u,xM e g a k=some R/\aD G K (aG 72 K r u k::aG 9 K b c a::box h 35 [i64 e,i64 g,zS b a.length c,zS r k.length u]::box q 35 o::L) w) ?_ ?_
  ·rintro f e8 ⟨k,r,u,hm,i7⟩
   unfold xM at hm
   refine aCk ?_
   have e9:aD G K (aG 9 K b c a::aG 72 K r u k::box h 35 [i64 e,i64 g,zS b a.length c,zS r k.length u]::box q 35 o::L) e8:=aKa
   obtain ⟨i8,f0,hm⟩:=aB hm
   exact aQ (vs:=[zP (some ⟨h,0,none⟩)]) call207 (lst1 e6) (aEx f0 e9) aP
  have i9:=aD.nil (α:=Edge) e7 72 K
  obtain ⟨j0,f1,ho⟩:=aB hm
  refine cQ [1,2,6,7,22,23] f1 (fun a5 a6 f w=>∃ a8 a9,f 24=i64 a6/\aD G K (aG 72 K a8 a9 a5::aG 9 K b c a::box h 35 [i64 e,i64 g,zS b a.length c,zS a8 a5.length a9]::box q 35 o::L) w) aP ?_
  ·rintro a5 a6 f2 f j1 hm hr ⟨a8,a9,j2,j3⟩
   unfold pA at hm
   refine aCk ?_
   rcases aS hm with ⟨f3,hm⟩|⟨f3,hm⟩
   ·refine aCk ?_;refine aU [1,2,6,7,22,23,24] (fun f w=>∃ J V a0,oZ a6 J=some f2/\aD G K (aG 72 K V a0 J::aG 9 K b c a::box h 35 [i64 e,i64 g,zS b a.length c,zS V J.length a0]::box q 35 o::L) w) ?_ ?_
    ·rintro f j4 ⟨J,V,a0,hm,f4⟩
     unfold oZ at hm
     refine aCk ?_;exact ⟨_,(zI hm).symm,cE,V,a0,rfl,f4⟩
    refine aCk ?_;obtain ⟨d,f5,hm⟩:=aB hm
    refine aCk ?_;obtain ⟨j5,j6,f6⟩:=bE.el (sz:=3) rfl h6 f5
    cases f6
    refine aCk ?_;refine aFm fun j7 j8 j9=>?_
    refine aJz fun k0 f7=>?_;refine aCk ?_
    obtain ⟨k1,f8,hm⟩:=aB hm
    refine eE (vs:=[zA #[i64 d.F,i64 d.B,i64 d.To]]) (caps:=[cX a10 z]) (us:=[zA #[i64 d.F,i64 d.B,i64 d.To],cX a10 z]) rfl call206 rfl rfl (tG f8 f7 e2 e3) ?_
    rintro _ k2 ⟨rfl,f9⟩
    refine aCk ?_
    rcases aS hm with ⟨g0,hm⟩|⟨g0,hm⟩
    ·refine aCk ?_;obtain ⟨k3,k4,b0,g1,k5⟩:=aD.lendBp f9 .head
     obtain ⟨k6,b1,k7,k8,g2⟩:=aD.lendBp g1 zt2
     refine aKg [(0,0),(1,0),(2,0),(3,0),(4,0),(5,0),(6,0),(7,0),(8,0),(9,0),(10,0),(11,0),(12,0),(13,0),(14,0),(15,1),(16,1),(17,0),(18,2)] fun k9 l=>?_;refine aCk ?_
     refine bB rfl (fun _ ⟨_,l⟩=>bG (t:=0) eG l (b0.mono b1) rfl rfl) ?_;obtain ⟨b2,g3,hm⟩:=aB hm
     refine aCk ?_;obtain ⟨l0,l1,g4⟩:=bE.el (sz:=1) rfl n g3
     cases g4
     refine aCk ?_;refine bB rfl (fun _ ⟨_,l⟩=>bG (t:=1) eG l (b0.mono b1) rfl rfl) (bB rfl (fun _ _=>aY (v:=zS a7 p.length c8) rfl) (bB rfl (fun _ _=>aV (t':=2) tJ rfl rfl) (bB rfl (fun _ ⟨_,l⟩=>bG (t:=2) eG l (b0.mono b1) rfl rfl) ?_)))
     obtain ⟨b3,g5,hm⟩:=aB hm
     refine aCk ?_;obtain ⟨l2,l3,g6⟩:=bE.el (sz:=1) rfl n g5
     cases g6
     iterate 1 refine aFl ?_
     refine bB rfl (fun _ _=>jU (vs:=[(0,i64 b2),(1,i64 d.B),(2,i64 b3)]) (cs:=[i64 b2,i64 d.B,i64 b3]) aLz rfl (by kernel_rfl)) (jZ rfl (aKc ([⟨b2,d.B,b3⟩]:List Edge) fun l4 l5 g7=>?_));refine aR (aC ⟨⟨_,g7⟩,?_⟩)
     refine jZ rfl ?_;obtain ⟨l6,l7,hm⟩:=aB hm
     refine aMq fun l8 l9 m0 c1=>?_;refine aR (aC ⟨⟨_,c1⟩,?_⟩)
     refine aCk ?_
     have m1:=g2 _ _ c1
     exact aP
    ·exact aP
   ·exact aP
 obtain ⟨g8,x,m2,g9,b4⟩:=aD.lendBp e5 zt1
 refine pY (C:=fun w'=>∃ L',aD G g8 L' w') [12] Tryz_mixed (by kernel_rfl) (fun m3 h0=>?_)
 have h1:=aD.mono g9 h0
 refine aGy 0 ?_;refine aGy 2 ?_
 refine aGy 3 ?_;refine aGy 4 ?_
 obtain ⟨m,h2,hm⟩:=aB hm
 refine aGy 5 ?_;obtain ⟨m4,m5,h4⟩:=bE.el (sz:=1) rfl n h2
 cases h4
 refine aGy 6 ?_;refine aGy 7 ?_
 refine aGy 8 ?_;refine oT (i:=1) (j:=11) (by kernel_rfl) rfl rfl ?_ ?_
 ·obtain ⟨a2,h5,hm⟩:=aB hm
  refine aED call249 (aBW h5 h1 (n.mono x)) ?_
  rintro _ m6 ⟨rfl,c3⟩
  refine aR (aC ⟨fun _=>⟨_,c3⟩,?_⟩)
  refine oT (i:=9) (j:=11) (by kernel_rfl) rfl rfl ?_ ?_
  ·obtain ⟨c4,h7,hm⟩:=aB hm
   refine aED call96 (cD h7 c3 (h3.mono x)) ?_
   rintro _ m7 ⟨c6,c7,rfl,c9⟩
   refine aR (aC ⟨fun _=>⟨_,c9⟩,?_⟩)
   refine dH (i:=10) rfl (by kernel_rfl) ⟨_,c9⟩ (fun _ _=>jU (vs:=[(0,i64 a2),(1,i64 m),(2,zS c6 c4.length c7)]) (cs:=[i64 a2,i64 m,zS c6 c4.length c7,zS none 0 0]) aEJ rfl (by kernel_rfl)) (bI (i:=11) (by kernel_rfl) rfl (aFm fun m8 m9 d0=>?_));refine aR (aC ⟨fun _=>⟨_,d0⟩,?_⟩)
   refine bI (i:=12) (by kernel_rfl) rfl ?_
   have n0:=b4 _ _ d0
   refine aJz fun n1 n2=>?_;refine aR (aC ⟨aCe rfl,?_⟩)
   exact iC (by kernel_rfl) aP
  ·refine aFm fun n3 n4 d1=>?_;refine aR (aC ⟨fun _=>⟨_,d1⟩,?_⟩)
   refine bI (i:=9) (by kernel_rfl) rfl ?_;obtain ⟨d2,h8,hm⟩:=aB hm
   refine aED call96 (cD h8 d1 (h3.mono x)) ?_
   rintro _ n5 ⟨d3,d4,rfl,b5⟩
   refine aR (aC ⟨fun _=>⟨_,b5⟩,?_⟩)
   refine dH (i:=10) rfl (by kernel_rfl) ⟨_,b5⟩ (fun _ _=>jU (vs:=[(0,i64 a2),(1,i64 m),(2,zS d3 d2.length d4)]) (cs:=[i64 a2,i64 m,zS d3 d2.length d4,zS none 0 0]) aEJ rfl (by kernel_rfl)) (bI (i:=12) (by kernel_rfl) rfl ?_)
   have n6:=b4 _ _ b5
   refine aJz fun n7 n8=>?_;refine aR (aC ⟨aCe rfl,?_⟩)
   exact iC (by kernel_rfl) aP
 ·refine aFm fun n9 o0 d5=>?_;refine aR (aC ⟨fun _=>⟨_,d5⟩,?_⟩)
  refine bI (i:=1) (by kernel_rfl) rfl ?_;obtain ⟨d6,i0,hm⟩:=aB hm
  refine aED call249 (aBW i0 d5 (n.mono x)) ?_
  rintro _ o1 ⟨rfl,d7⟩
  refine aR (aC ⟨fun _=>⟨_,d7⟩,?_⟩)
  refine bI (i:=9) (by kernel_rfl) rfl ?_;obtain ⟨d8,i1,hm⟩:=aB hm
  refine aED call96 (cD i1 d7 (h3.mono x)) ?_
  rintro _ o2 ⟨d9,e0,rfl,b6⟩
  refine aR (aC ⟨fun _=>⟨_,b6⟩,?_⟩)
  refine dH (i:=10) rfl (by kernel_rfl) ⟨_,b6⟩ (fun _ _=>jU (vs:=[(0,i64 d6),(1,i64 m),(2,zS d9 d8.length e0)]) (cs:=[i64 d6,i64 m,zS d9 d8.length e0,zS none 0 0]) aEJ rfl (by kernel_rfl)) (bI (i:=12) (by kernel_rfl) rfl ?_)
  have o3:=b4 _ _ b6
  refine aJz fun o4 o5=>?_;refine aR (aC ⟨aCe rfl,?_⟩)
  exact iC (by kernel_rfl) aP
theorem wK {t:bA} {p:(List Int)} {a0:Bool} {R:bA} (hm:iL t p a0=some R) (hs:aD G K (L) w) (h3:bE K a1 c2 t.L) (h6:bE K a4 c5 t.E) (e:bE K a7 c8 p):
  Calls prog 158 ([zA (zCa t a1 c2 a4 c5),zS a7 p.length c8,Value.bool a0]:List Value).toArray w (eQ fun v w'=>∃ a5 a6 a8 a9,v=zA (zCa R a5 a6 a8 a9)/\aD G K (aG 9 K a5 a6 R.L::aG 72 K a8 a9 R.E::L) w'):=by
 let g:=zG
 refine aFe func158 ?_;unfold iL at hm
 refine aCk ?_;refine aKb fun f5 f6 f7=>?_
 refine aKb fun r f8 f9=>?_;refine aFm fun h g0 c1=>?_
 iterate 6 refine aFl ?_
 refine aF (eV (vs:=[zP (some ⟨r,0,none⟩)]) rfl) ?_;obtain ⟨g1,j,c3,c4,c6⟩:=aD.lendBp c1 zt1
 obtain ⟨a,c7,hm⟩:=aB hm
 refine aED call205 (aDx c7 c4 (h3.mono j) (h6.mono j) (e.mono j) c3 (e.mono j)) ?_
 rintro _ g2 ⟨b,c,c9,d0,rfl,d1⟩
 have g3:=c6 _ _ d1
 refine aFm fun k g4 g5=>?_;refine aJz fun g6 d2=>?_
 iterate 2 refine aFl ?_
 refine tS [6,7] (fun f w=>∃ b0 u b1 b2,Hp.le K b0/\qT a u=some R/\aD G b0 (aG 72 K b1 b2 u::box k 35 [i64 a.N,i64 a.I,zS b a.L.length c,zS b1 u.length b2]::aG 9 K b c a.L::box h 35 g::L) w) aP (aCk ?_)
 rcases aS hm with ⟨c48,hm⟩|⟨c48,hm⟩
 ·refine aCk ?_;obtain ⟨g7,d3,hm⟩:=aB hm
  refine aED call160 (yL d3 d2 h3 h6 e) ?_
  rintro _ g8 ⟨x,g9,h0,h1,h2,rfl,h4,d4,d5,d6⟩
  obtain ⟨b3,d7,hm⟩:=aB hm
  refine aED call161 (yM d7 d6 d4 d5) ?_
  rintro _ h5 ⟨b4,b5,rfl,h7⟩
  refine aCk ?_;refine aU [6,7] (fun f w=>∃ y b6 b7,qU a y=some R/\aD G x (aG 72 K b6 b7 y::box k 35 [i64 a.N,i64 a.I,zS b a.L.length c,zS b6 y.length b7]::aG 9 K b c a.L::box h 35 g::L) w) aP ?_
  obtain ⟨h8,d8,ho⟩:=aB hm
  refine cQ [4,6,7,18,19] d8 (fun z l f w=>∃ J V,f 20=i64 l/\aD G x (aG 4 K b4 b5 b3::box k 35 [i64 a.N,i64 a.I,zS b a.L.length c,zS J z.length V]::box r 29 [zS a7 p.length c8]::aG 9 K b c a.L::aG 72 K J V z::box h 35 g::L) w) aP ?_
  ·rintro z l d9 f i0 hm hr ⟨J,V,e0,b8⟩
   unfold fY at hm
   refine aCk ?_
   rcases aS hm with ⟨e1,hm⟩|⟨e1,hm⟩
   ·refine aCk ?_;refine aU [4,6,7,18,19,20] (fun f w=>∃ m n o,iK l m=some d9/\aD G x (aG 72 K n o m::aG 4 K b4 b5 b3::box k 35 [i64 a.N,i64 a.I,zS b a.L.length c,zS n m.length o]::box r 29 [zS a7 p.length c8]::aG 9 K b c a.L::box h 35 g::L) w) ?_ ?_
    ·rintro f i1 ⟨m,n,o,hm,i2⟩
     unfold iK at hm
     refine aCk ?_;exact ⟨_,(zI hm).symm,cE,n,o,rfl,aKa⟩
    refine aCk ?_;obtain ⟨i3,b9,hm⟩:=aB hm
    have e2:=dJ b8 (i:=0) rfl b9
    refine aF (fI aBB rfl e2 rfl rfl e0 b9) (aCk ?_)
    rcases aS hm with ⟨e3,hm⟩|⟨e3,hm⟩
    ·refine aCk ?_;obtain ⟨i4,i5,e4,e5,e6⟩:=aD.lendBp b8 zt1
     obtain ⟨i6,e7,e8,i7,e9⟩:=aD.lendBp e5 zt1
     refine aKg [(0,0),(1,0),(2,0),(3,0),(4,0),(5,0),(6,0),(7,0),(8,0),(9,0),(10,0),(11,1),(12,1),(13,0),(14,2)] fun i8 q=>?_;refine aCk ?_
     refine bB rfl (fun _ ⟨_,q⟩=>bG (t:=3) aAq q (e4.mono e7) rfl rfl) (bB rfl (fun _ ⟨_,q⟩=>bG (t:=0) tV q e8 rfl rfl) (bB rfl (fun _ _=>aY (v:=i64 l) rfl) ?_));obtain ⟨d,f0,hm⟩:=aB hm
     refine aCk ?_;obtain ⟨i9,j0,f1⟩:=bE.el (sz:=1) rfl e f0
     cases f1
     iterate 5 refine aFl ?_
     refine bB rfl (fun _ _=>jU (vs:=[(0,i64 d),(1,i64 0),(2,i64 d)]) (cs:=[i64 d,i64 0,i64 d]) aLz rfl (by kernel_rfl)) (jZ rfl (aKc ([⟨d,0,d⟩]:List Edge) fun j1 j2 f2=>?_));refine aR (aC ⟨⟨_,f2⟩,?_⟩)
     refine jZ rfl ?_;obtain ⟨j3,j4,hm⟩:=aB hm
     refine aMq fun j5 j6 j7 c0=>?_;refine aR (aC ⟨⟨_,c0⟩,?_⟩)
     refine aCk ?_
     have f3:=e9 _ _ c0
     have j8:=e6 _ _ f3
     exact aP
    ·exact aP
   ·exact aP
 ·refine aCk ?_;exact ⟨cE,K,a.E,c9,d0,(zR _),hm,aKa⟩
theorem aDO {t:bA} {y:Bool} {R:bA} (hm:mR t y=some R) (hs:aD G K (L) w) (k:bE K a1 c2 t.L) (l:bE K a4 c5 t.E):
  Calls prog 115 ([zA (zCa t a1 c2 a4 c5),Value.bool y]:List Value).toArray w (eQ fun v w'=>∃ a3 a5 a6 a7,v=zA (zCa R a3 a5 a6 a7)/\aD G K (aG 9 K a3 a5 R.L::aG 72 K a6 a7 R.E::L) w'):=by
 let r:=zG
 refine aFe func115 ?_;unfold mR at hm
 refine aCk ?_;refine aKb fun b7 w8 g7=>?_
 refine aFm fun u g8 d1=>?_;refine aCk ?_
 refine cI [1,4] (fun f w=>∃ d e c b m n o g h,nF y d e c b=some R/\f 5=zP (some ⟨m,0,none⟩)/\aD G K (aG 72 K g h b::aG 9 K n o c::box m 35 [i64 d,i64 e,zS n c.length o,zS g b.length h]::box u 35 r::L) w) ?_ ?_
 ·rintro f z ⟨d,e,c,b,m,n,o,g,h,hm,g9,d2⟩
  unfold nF at hm
  refine aCk ?_;obtain ⟨d3,a8,a9,J⟩:=aD.giveSp d2 (zR _) zt1
  replace J:aD G d3 (aG 72 K g h b::box m 35 [i64 d,i64 e,zS n c.length o,zS g b.length h]::box u 35 r::L) z:=J
  obtain ⟨d4,V,b0,a0⟩:=aD.giveSp J a8 .head
  replace a0:aD G d4 (box m 35 [i64 d,i64 e,zS n c.length o,zS g b.length h]::box u 35 r::L) z:=a0
  obtain ⟨d5,p,h0,b1,_⟩:=aD.lendBp a0 .head
  replace b1:aD G d5 (box u 35 r::L) z:=b1
  refine aKg [(0,0),(1,0),(2,0),(4,0),(3,1),(5,1),(6,2)] fun h1 d6=>?_;refine aCk ?_
  refine jZ rfl ?_;obtain ⟨h2,d7,hm⟩:=aB hm
  refine aED call65 (aDa (t:=⟨d,e,c,b⟩) d7 d6 (a9.mono (zL V p)) (b0.mono p)) ?_
  rintro _ h4 ⟨h5,h7,h8,rfl,q,d8,b2⟩
  refine aR (aC ⟨⟨_,(aD.weakK b2 q)⟩,?_⟩)
  refine jZ rfl ?_;obtain ⟨x,d9,hm⟩:=aB hm
  refine aED call158 (wK (t:=⟨d,e,c,b⟩) d9 b2 (a9.mono (zL (zL V p) q)) (b0.mono (zL p q)) d8) ?_
  rintro _ h9 ⟨b3,b4,b5,b6,rfl,e0⟩
  refine aR (aC ⟨⟨_,(aD.weakK e0 q)⟩,?_⟩)
  refine WE_s rfl (aJz fun i0 b8=>?_);refine aCk ?_
  refine qE (aCk ?_);obtain rfl:=zI hm
  exact nY (retQ_m1 results115 (aCJ (vs:=(zC x b3 b4 b5 b6)) rfl eW b8 (i:=2) rfl rfl rfl) ⟨b3,b4,b5,b6,rfl,(aD.weakK (aD.arr 3 [0,1] b8 rfl) (zL (zL (zL a8 V) p) q))⟩)
 obtain ⟨e2,a,i1,e3,a2⟩:=aD.lendBp d1 zt1
 refine pY (C:=fun w'=>∃ L',aD G e2 L' w') [5] Tryz_mixed (by kernel_rfl) (fun i2 e4=>?_)
 have e5:=aD.mono e3 e4
 refine aGy 0 ?_;refine aGy 1 ?_
 refine oT (i:=2) (j:=4) (by kernel_rfl) rfl rfl ?_ ?_
 ·obtain ⟨i3,e6,hm⟩:=aB hm
  refine aED call157 (yN e6 e5 (k.mono a) (l.mono a)) ?_
  rintro _ i4 ⟨i5,i6,rfl,b9⟩
  refine aR (aC ⟨fun _=>⟨_,b9⟩,?_⟩)
  refine oT (i:=3) (j:=4) (by kernel_rfl) rfl rfl ?_ ?_
  ·obtain ⟨i7,c0,e7,e8,e9⟩:=aD.lendSp b9 a .head
   obtain ⟨i8,f0,hm⟩:=aB hm
   refine aED call50 (rW f0 e8 (k.mono (zL a c0)) (l.mono (zL a c0)) e7) ?_
   rintro _ i9 ⟨j0,j1,j2,j3,rfl,f1⟩
   have f2:=e9 _ _ f1
   refine aR (aC ⟨fun _=>⟨_,f2⟩,?_⟩)
   refine bI (i:=4) (by kernel_rfl) rfl (aFm fun j4 j5 c1=>?_);refine aR (aC ⟨fun _=>⟨_,c1⟩,?_⟩)
   refine bI (i:=5) (by kernel_rfl) rfl ?_
   have j6:=a2 _ _ c1
   refine aJz fun j7 j8=>?_;refine aR (aC ⟨aCe rfl,?_⟩)
   exact iC (by kernel_rfl) aP
  ·refine aFm fun j9 k0 c3=>?_;refine aR (aC ⟨fun _=>⟨_,c3⟩,?_⟩)
   refine bI (i:=3) (by kernel_rfl) rfl ?_;obtain ⟨k1,c4,f3,f4,f5⟩:=aD.lendSp c3 a zt1
   obtain ⟨k2,f6,hm⟩:=aB hm
   refine aED call50 (rW f6 f4 (k.mono (zL a c4)) (l.mono (zL a c4)) f3) ?_
   rintro _ k3 ⟨k4,k5,k6,k7,rfl,f7⟩
   have c6:=f5 _ _ f7
   refine aR (aC ⟨fun _=>⟨_,c6⟩,?_⟩)
   refine bI (i:=5) (by kernel_rfl) rfl ?_
   have k8:=a2 _ _ c6
   refine aJz fun k9 l0=>?_;refine aR (aC ⟨aCe rfl,?_⟩)
   exact iC (by kernel_rfl) aP
 ·refine aFm fun l1 l2 c7=>?_;refine aR (aC ⟨fun _=>⟨_,c7⟩,?_⟩)
  refine bI (i:=2) (by kernel_rfl) rfl ?_;obtain ⟨l3,f8,hm⟩:=aB hm
  refine aED call157 (yN f8 c7 (k.mono a) (l.mono a)) ?_
  rintro _ l4 ⟨l5,l6,rfl,c8⟩
  refine aR (aC ⟨fun _=>⟨_,c8⟩,?_⟩)
  refine bI (i:=3) (by kernel_rfl) rfl ?_;obtain ⟨l7,c9,f9,g0,g1⟩:=aD.lendSp c8 a .head
  obtain ⟨l8,g2,hm⟩:=aB hm
  refine aED call50 (rW g2 g0 (k.mono (zL a c9)) (l.mono (zL a c9)) f9) ?_
  rintro _ l9 ⟨m0,m1,m2,m3,rfl,g3⟩
  have d0:=g1 _ _ g3
  refine aR (aC ⟨fun _=>⟨_,d0⟩,?_⟩)
  refine bI (i:=5) (by kernel_rfl) rfl ?_
  have m4:=a2 _ _ d0
  refine aJz fun m5 m6=>?_;refine aR (aC ⟨aCe rfl,?_⟩)
  exact iC (by kernel_rfl) aP
theorem aIz {t:bA} {kind:Int} {R:bA} (hm:aAA t kind=some R) (e:aD G K (L) w) (g:bE K a1 c2 t.L) (h:bE K a4 c5 t.E):
  Calls prog 61 ([zA (zCa t a1 c2 a4 c5),i64 kind]:List Value).toArray w (eQ fun v w'=>∃ a b c d,v=zA (zCa R a b c d)/\aD G K (aG 9 K a b R.L::aG 72 K c d R.E::L) w'):=by
 exact aP
theorem tH {t:bA} {p:Int} {a:Nat} {R:bA} (hm:qV t p=some R) (g:aD G K (L) w) (h:bE K a1 c2 t.L) (i:bE K a4 c5 t.E) (j:fK K a7 a [i64 p]):
  Calls prog 110 ([zA (zCa t a1 c2 a4 c5),cX a7 a]:List Value).toArray w (eQ fun v w'=>∃ b c d e,v=zA (zCa R b c d e)/\aD G K (aG 9 K b c R.L::aG 72 K d e R.E::L) w'):=by
 exact aP
theorem yO {n:aO} {a3:Int} {J:Nat} {R:aO} (hm:rH n a3=some R) (hs:aD G K (L) w) (h3:bE K a1 c2 n.Parts) (h6:bE K a4 c5 n.Meetings) (h9:bE K a7 c8 n.Allowed) (e8:bE K a10 c11 n.Hidden) (c4:fK K a13 J [i64 a3]):
  Calls prog 102 ([zA #[zS a1 n.Parts.length c2,zS a4 n.Meetings.length c5,zS a7 n.Allowed.length c8,zS a10 n.Hidden.length c11],Value.func (.func 110) #[] #[cX a13 J]]:List Value).toArray w (eQ fun v w'=>∃ a5 a6 V a8 a9 b0 b1 b2 b3,v=zA #[zS a5 R.Parts.length a6,zS a8 R.Meetings.length a9,zS b0 R.Allowed.length b1,zS b2 R.Hidden.length b3]/\List.length V=List.length R.Parts/\aD G K (aG 35 K a5 a6 (aT V R.Parts)::rows [9,72] V R.Parts::aG 69 K a8 a9 R.Meetings::aG 9 K b0 b1 R.Allowed::aG 9 K b2 b3 R.Hidden::L) w'):=by
 let k:=[zS a1 n.Parts.length c2,zS a4 n.Meetings.length c5,zS a7 n.Allowed.length c8,zS a10 n.Hidden.length c11]
 let l:=[zS none 0 0,zS none 0 0,zS none 0 0,zS none 0 0]
 refine aFe func102 ?_;unfold rH at hm
 refine aCk ?_;refine aKb fun m e9 f0=>?_
 refine aFm fun o c6 c7=>?_;refine aCk ?_
 refine aU [2,4] (fun f w=>∃ p b4 b5 a0,tA n p=some R/\f 5=zS b4 p.length b5/\List.length a0=List.length p/\aD G K (aG 35 K b4 b5 (aT a0 p)::rows [9,72] a0 p::box o 28 l::box m 28 k::L) w) aP ?_
 have c9:aD G K (aG 35 K none 0 (aT ([]:List (Dp.Hd bA)) ([]:List bA))::rows [9,72] ([]:List (Dp.Hd bA)) ([]:List bA)::box o 28 l::box m 28 k::L) c6:=aD.nil (α:=Cells _) (aD.rowsNil (α:=bA) (tys:=[9,72]) c7) 35 K
 obtain ⟨f1,d0,ho⟩:=aB hm
 refine cQ [1,2,4,9,10] d0 (fun j b6 f w=>∃ q r c,f 5=zS q j.length r/\f 11=i64 b6/\List.length c=List.length j/\aD G K (aG 35 K q r (aT c j)::rows [9,72] c j::box o 28 l::box m 28 k::L) w) ?_ ?_
 ·exact ⟨none,0,[],rfl,rfl,rfl,c9⟩
 ·rintro j b6 f2 f f3 hm hr ⟨q,r,c,f4,f5,b7,f6⟩
  unfold fP at hm
  refine aCk ?_
  rcases aS hm with ⟨d1,hm⟩|⟨d1,hm⟩
  ·refine aCk ?_;refine dE (aCk ?_)
   obtain ⟨a,d2,hm⟩:=aB hm
   refine aCk ?_;obtain ⟨f7,f8,d3⟩:=bE.el (sz:=4) rfl h3 d2
   obtain ⟨t,u,y,z,rfl,d4,d5⟩:=d3
   refine aCk ?_;refine aFm fun a2 f9 g0=>?_
   refine aJz fun g1 d6=>?_;refine aCk ?_
   obtain ⟨b,d7,hm⟩:=aB hm
   refine eE (vs:=[zA (zCa a t u y z)]) (caps:=[cX a13 J]) (us:=[zA (zCa a t u y z),cX a13 J]) rfl call110 rfl rfl (tH d7 d6 d4 d5 c4) ?_
   rintro _ d8 ⟨d,e,g,h,rfl,d9⟩
   have e0:aD G K (rows [9,72] ([((d,e),(g,h))]:List (Dp.Hd bA)) ([b]:List bA)::box a2 35 (zC a t u y z)::aG 35 K q r (aT c j)::rows [9,72] c j::box o 28 l::box m 28 k::L) d8:=aD.rowsOneS (tys:=[9,72]) (hd:=(((d,e),(g,h)):Dp.Hd bA)) (x:=(b:bA)) d9
   refine cZ (Kt:=K) (xs:=aT ([((d,e),(g,h))]:List (Dp.Hd bA)) ([b]:List bA)) (cs:=(zC b d e g h)) (vs:=[(0,zA (zCa b d e g h))]) lU aEL rfl rfl e0 rfl (by kernel_rfl) rfl rfl rfl ⟨rfl,trivial⟩ ?_
   intro e1 e2 (e3:aD G K (aG 35 K e1 1 (aT ([((d,e),(g,h))]:List (Dp.Hd bA)) ([b]:List bA))::rows [9,72] ([((d,e),(g,h))]:List (Dp.Hd bA)) ([b]:List bA)::box a2 35 (zC a t u y z)::aG 35 K q r (aT c j)::rows [9,72] c j::box o 28 l::box m 28 k::L) e2)
   obtain ⟨b8,b9,hm⟩:=aB hm
   refine aEH (i:=1) (tys:=[9,72]) (hds:=c) (hds2:=([((d,e),(g,h))]:List (Dp.Hd bA))) lU underlying24 aEL rfl rfl e3 b7 rfl rfl rfl b9 rfl rfl rfl rfl ?_
   intro c0 c1 e4 (g2:aD G K (aG 35 K c0 c1 (aT (c++([((d,e),(g,h))]:List (Dp.Hd bA))) b8)::rows [9,72] (c++([((d,e),(g,h))]:List (Dp.Hd bA))) b8::box a2 35 (zC a t u y z)::box o 28 l::box m 28 k::L) e4)
   refine aCk ?_;exact ⟨_,(zI hm).symm,cE,c0,c1,(c++([((d,e),(g,h))]:List (Dp.Hd bA))),rfl,rfl,(aDC b7 rfl b9),aKa⟩
  ·exact aP
theorem wL {n:aO} {kind:Int} {R:aO} (hm:iM n kind=some R) (y:aD G K (L) w) (l:bE K a1 c2 n.Parts) (m:bE K a4 c5 n.Meetings) (o:bE K a7 c8 n.Allowed) (p:bE K a10 c11 n.Hidden):
  Calls prog 57 ([zA #[zS a1 n.Parts.length c2,zS a4 n.Meetings.length c5,zS a7 n.Allowed.length c8,zS a10 n.Hidden.length c11],i64 kind]:List Value).toArray w (eQ fun v w'=>∃ c d b e g h i j k,v=zA #[zS c R.Parts.length d,zS e R.Meetings.length g,zS h R.Allowed.length i,zS j R.Hidden.length k]/\List.length b=List.length R.Parts/\aD G K (aG 35 K c d (aT b R.Parts)::rows [9,72] b R.Parts::aG 69 K e g R.Meetings::aG 9 K h i R.Allowed::aG 9 K j k R.Hidden::L) w'):=by
 refine aFe func57 ?_;unfold iM at hm
 refine aCk ?_;refine aKb fun z J V=>?_
 refine aKb fun q a0 a2=>?_;refine aFm fun a3 a5 r=>?_
 iterate 5 refine aFl ?_
 refine aF (eV (vs:=[zP (some ⟨q,0,none⟩)]) rfl) ?_;obtain ⟨a6,a,t,u,a8⟩:=aD.lendBp r zt1
 obtain ⟨a9,x,hm⟩:=aB hm
 exact aED call102 (yO x u (l.mono a) (m.mono a) (o.mono a) (p.mono a) t) aP
theorem uV {a:aH} {R:(aH × Bool)} (hm:tB a=some R) (b:aD G K (L) w):
  Calls prog 112 ([str a]:List Value).toArray w (eQ fun v w'=>v=Value.tuple #[str R.1,Value.bool R.2]/\aD G K (L) w'):=by
 exact aP
theorem pT {n:aO} {a:(List bA)} {R:aO} (hm:sK n a=some R) (u:aD G K (aG 35 Kf a13 c14 a::L) w) (x:Hp.le Kf K) (y:bE K a1 c2 n.Parts) (m:bE K a4 c5 n.Meetings) (o:bE K a7 c8 n.Allowed) (z:bE K a10 c11 n.Hidden):
  Calls prog 111 ([zA #[zS a1 n.Parts.length c2,zS a4 n.Meetings.length c5,zS a7 n.Allowed.length c8,zS a10 n.Hidden.length c11],zS a13 a.length c14]:List Value).toArray w (eQ fun v w'=>∃ b c d e g h i j,v=zA #[zS b R.Parts.length c,zS d R.Meetings.length e,zS g R.Allowed.length h,zS i R.Hidden.length j]/\aD G K (aG 35 Kf b c R.Parts::aG 69 K d e R.Meetings::aG 9 K g h R.Allowed::aG 9 K i j R.Hidden::L) w'):=by
 refine aFe func111 ?_;unfold sK at hm
 refine aCk ?_;refine aKb fun J V a0=>?_
 refine aFm fun a2 a3 p=>?_;refine aCk ?_
 obtain ⟨a5,k,a6,a8,a9⟩:=aD.lendBp p zt1
 refine aKg [(0,0),(1,0),(2,0),(4,0),(5,0),(7,0),(8,0),(3,1),(6,1),(9,1),(10,0),(11,2)] fun b0 q=>?_;refine aCk ?_
 refine jZ rfl ?_;obtain ⟨b1,r,hm⟩:=aB hm
 refine aED call155 (gF r q (m.mono k)) ?_
 rintro _ b2 ⟨b3,b4,rfl,l⟩
 refine aR (aC ⟨⟨_,l⟩,?_⟩)
 refine jZ rfl ?_;obtain ⟨b5,t,hm⟩:=aB hm
 exact aED call96 (cD t l (o.mono k)) aP
theorem mU {b:aH} {a:(List Int)} {h i:Nat} {e:(List (List Int))} {j:(List (aH × Int))} {c:Nat} {g:(List cO)} {k:Int} {d:Nat} {R:((List (List Int)) × (List (aH × Int)) × (List cO))} (hm:gW b a e j g k=some R) (q:aD G K (aG 29 Kf a12 c13 e::kV c j::aG 129 K a15 c16 g::box b11 127 [zS a12 e.length c13,Value.map (some c),zS a15 g.length c16,Value.func (.func 41) #[] #[]]::box b10 123 [zP (some ⟨b11,0,none⟩)]::L) w) (r:G.lo=0) (t:Hp.le Kf K) (u:bE Kf a1 c2 a) (h6:fK K a4 h [Value.func (.func 112) #[] #[]]) (h9:fK K a7 i [Value.func (.func 84) #[] #[zP (some ⟨b10,0,none⟩),cX a17 d]]) (x:fK K a17 d [i64 k]):
  Calls prog 45 ([str b,zS a1 a.length c2,cX a4 h,cX a7 i]:List Value).toArray w (eQ fun v w'=>∃ l m n o,v=Value.tuple #[]/\aD G K (aG 29 Kf l m R.1::kV c R.2.1::aG 129 K n o R.2.2::box b11 127 [zS l R.1.length m,Value.map (some c),zS n R.2.2.length o,Value.func (.func 41) #[] #[]]::box b10 123 [zP (some ⟨b11,0,none⟩)]::L) w'):=by
 refine aFe func45 ?_;unfold gW at hm
 refine aCk ?_;obtain ⟨p,y,hm⟩:=aB hm
 refine eE (vs:=[str b]) (caps:=[]) (us:=[str b]) rfl call112 rfl rfl (uV y q) ?_
 rintro _ a3 ⟨rfl,z⟩
 refine aCk ?_
 rcases aS hm with ⟨J,hm⟩|⟨J,hm⟩
 ·refine aCk ?_;obtain ⟨a5,V,hm⟩:=aB hm
  exact eE (vs:=[str p.1,zS a1 a.length c2]) (caps:=[zP (some ⟨b10,0,none⟩),cX a17 d]) (us:=[str p.1,zS a1 a.length c2,zP (some ⟨b10,0,none⟩),cX a17 d]) rfl call84 rfl rfl (pS (Kf:=Kf) V z r t u x) aP
 ·exact aP
end Gv
