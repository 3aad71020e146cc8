/- Walks, printed by program. -/
import Derived.Test.YtiipffjapfalhaaGreatDoorJWk3
set_option linter.all false
namespace Gv
open Gv.Hp renaming le_refl→zR
open Go.Value renaming slice→zS,bool→zB
open Option.some renaming inj→zI
open Gv.Hp renaming le_trans→zL
open Go Go.Proofs Go.Proofs.Tryz
set_option maxRecDepth 20000
set_option maxHeartbeats 40000000
variable {G:nX} {K:Hp} {L:List fJ} {w:World} {a1 a4 a7 a10 a13 a16:Option Addr} {c2 c5 c8 c11 c14 c17:Nat}
theorem aJy {q R:(List aO)} (hm:aEe q=some R) (hs:aF G K (L) w) (h3:bK K a1 c2 q):
  Calls prog 73 ([zS a1 q.length c2]:List Value).toArray w (dD fun v w'=>∃ J V,v=zS J R.length V/\aF G K (aP 9 K J V R::L) w'):=by
 refine aBe func73 ?_;unfold aEe at hm
 refine tD ?_;refine aIs ([([116,97,117]:aO)]:List aO) fun a4 w5 e7=>?_
 refine tD ?_;refine aQ [] (fun f w=>∃ r a8 c9,aMD r=some R/\f 3=zS a8 r.length c9/\aF G K (aP 9 K a8 c9 r::L) w) aL ?_
 obtain ⟨e8,b7,ho⟩:=aB hm
 refine cA [0] b7 (fun c g f w=>∃ d e,f 3=zS d c.length e/\f 4=i64 g/\aF G K (aP 9 K d e c::L) w) aL ?_
 ·rintro c g u f e9 hm hr ⟨d,e,f0,f1,b8⟩
  unfold rK at hm
  refine tD ?_
  rcases aM hm with ⟨b9,hm⟩|⟨b9,hm⟩
  ·refine tD ?_;refine aQ [0,4] (fun f w=>∃ j k l,vE g j=some u/\f 3=zS k j.length l/\aF G K (aP 9 K k l j::L) w) ?_ ?_
   ·rintro f f2 ⟨j,k,l,hm,c0,c1⟩
    unfold vE at hm
    refine tD ?_;exact ⟨_,(zI hm).symm,bZ,k,l,c0,rfl,c1⟩
   refine tD ?_;obtain ⟨m,c3,hm⟩:=aB hm
   refine tD ?_;obtain ⟨f3,f4,c4⟩:=bK.el (sz:=1) rfl h3 c3
   cases c4
   refine tD ?_;obtain ⟨f5,f6,c5,c6,c7⟩:=aF.lendSp b8 (zR _) .head
   obtain ⟨f7,c8,hm⟩:=aB hm
   refine aCO call72 (aAW c8 c6 c5) ?_
   rintro _ f8 ⟨rfl,d0⟩
   have f9:=c7 _ _ d0
   refine tD ?_
   rcases aM hm with ⟨d1,hm⟩|⟨d1,hm⟩
   ·exact aL
   ·refine tD ?_;refine aQ [0,3,4] (fun f w=>∃ o,aDL c g m o=some u/\f 5=i64 o/\aF G K (aP 9 K d e c::L) w) ?_ ?_
    ·rintro f g0 ⟨o,hm,g1,g2⟩
     unfold aDL at hm
     refine tD ?_;refine aIs ([([]:aO)]:List aO) fun g3 g4 g5=>?_
     obtain ⟨g6,g7,hm⟩:=aB hm
     refine st_p fun a b g8 g9=>?_;refine tD ?_
     refine aQ [0,4,5] (fun f w=>∃ p,aDK g m o p=some u/\f 3=zS a p.length b/\aF G K (aP 9 K a b p::L) w) ?_ ?_
     ·rintro f h0 ⟨p,hm,d2,a3⟩
      unfold aDK at hm
      refine tD ?_;obtain ⟨h1,x,hm⟩:=aB hm
      have d3:=cR a3 (i:=0) rfl x
      refine aC (dH fM rfl d3 rfl rfl rfl x) ?_;obtain ⟨a5,a6,hm⟩:=aB hm
      refine lW (i:=0) (t:=0) (ns:=[str m]) (e':=(m:aO)) sizeOf9 a3 rfl (zR _) rfl rfl rfl x a6 rfl rfl (fW rfl) rfl (fun cs h=>by cases h;rfl) (fun d4 (d5:aF G K (aP 9 K a b a5::L) d4)=>(tD ?_));exact ⟨bZ,a5,a,b,hm,(Eq.trans d2 (congrArg (fun n=>zS a n b) (bS a6))),d5⟩
     obtain ⟨h2,d6,ho⟩:=aB hm
     refine cA [0,4,5] d6 (fun y a7 f w=>f 3=zS a y.length b/\f 6=i64 a7/\aF G K (aP 9 K a b y::L) w) aL ?_
     ·rintro y a7 h4 f h5 hm hr ⟨d7,h6,a9⟩
      unfold aAw at hm
      refine tD ?_
      rcases aM hm with ⟨d8,hm⟩|⟨d8,hm⟩
      ·refine tD ?_;refine bT (tD ?_)
       obtain ⟨b0,b1,hm⟩:=aB hm
       have b2:=cR a9 (i:=0) rfl b1
       refine aC (dH fM rfl b2 rfl rfl rfl b1) (tD ?_);obtain ⟨h7,b3,hm⟩:=aB hm
       refine aC (dH fM rfl b2 rfl rfl rfl b3) ?_;obtain ⟨d9,b4,hm⟩:=aB hm
       refine lW (i:=0) (t:=0) (ns:=[str b0]) (e':=(b0:aO)) sizeOf9 a9 rfl (zR _) rfl rfl rfl b3 b4 rfl rfl (fW rfl) rfl (fun cs h=>by cases h;rfl) (fun e0 (e1:aF G K (aP 9 K a b d9::L) e0)=>(tD ?_));exact ⟨_,(zI hm).symm,bZ,(Eq.trans d7 (congrArg (fun n=>zS a n b) (bS b4))),rfl,e1⟩
      ·exact aL
    obtain ⟨h8,e2,ho⟩:=aB hm
    refine cE [0,3,4] e2 (fun z f w=>f 5=i64 z/\aF G K (aP 9 K d e c::L) w) aL ?_
    ·rintro z e3 f h9 hm hr ⟨i0,i1⟩
     unfold vF at hm
     refine tD ?_;exact bQ [0,3,4,5] (fun f w=>∃ b5,aAx z b5=some e3/\f 35=zB b5/\aF G K (aP 9 K d e c::L) w) aL aL
  ·exact aL
theorem aJz {a:Edge} {c:Nat} {b:Edge} {d:Nat} {R:Bool} (hm:aKi a b=some R) (e:aF G K (L) w) (g:eU K a1 c [i64 a.F,i64 a.B,i64 a.To]) (h:eU K a4 d [i64 b.F,i64 b.B,i64 b.To]):
  Calls prog 109 ([dS a1 c,dS a4 d]:List Value).toArray w (dD fun v w'=>v=zB R/\aF G K (L) w'):=by
 exact aL
theorem aRq {c:(List Edge)} {e:Edge} {R:(List Edge)} (hm:aIZ c e=some R) (hs:aF G K (aP 92 K a1 c2 c::L) w):
  Calls prog 74 ([zS a1 c.length c2,Value.agg #[i64 e.F,i64 e.B,i64 e.To]]:List Value).toArray w (dD fun v w'=>∃ z J,v=zS z R.length J/\aF G K (aP 92 K z J R::L) w'):=by
 let d:=[i64 e.F,i64 e.B,i64 e.To]
 refine aBe func74 ?_;unfold aIZ at hm
 refine tD ?_;refine aGh fun g w4 e9=>?_
 refine tD ?_;refine aQ [0,3] (fun f w=>∃ k,aFz c e k=some R/\f 5=i64 k/\aF G K (box g 92 d::aP 92 K a1 c2 c::L) w) ?_ ?_
 ·rintro f w8 ⟨k,hm,e7,m⟩
  unfold aFz at hm
  refine tD ?_;refine bQ [0,3,5] (fun f w=>∃ o,zD c e k o=some R/\f 30=zB o/\aF G K (box g 92 d::aP 92 K a1 c2 c::L) w) ?_ ?_
  ·rintro f f2 ⟨o,hm,f3,f4⟩
   unfold zD at hm
   refine tD ?_
   rcases aM hm with ⟨b4,hm⟩|⟨b4,hm⟩
   ·exact aL
   ·iterate 6 refine aBL ?_
    refine aC (jE (vs:=[]) (cs:=[i64 0,i64 0,i64 0]) bs_92 rfl (by kernel_rfl)) (aIs ([⟨0,0,0⟩]:List Edge) fun f5 f6 f7=>?_);obtain ⟨f8,f9,hm⟩:=aB hm
    refine st_p fun a b g0 g1=>?_;refine tD ?_
    refine aQ [3,5] (fun f w=>∃ l,aFy e k l=some R/\f 0=zS a l.length b/\aF G K (box g 92 d::aP 92 K a b l::L) w) ?_ ?_
    ·rintro f g2 ⟨l,hm,b5,V⟩
     unfold aFy at hm
     refine tD ?_;obtain ⟨g3,p,hm⟩:=aB hm
     have b6:=cR V (i:=1) rfl p
     refine aC (dH mA rfl b6 rfl rfl rfl p) ?_;obtain ⟨a0,a2,hm⟩:=aB hm
     refine lW (i:=1) (t:=0) (ns:=d) (e':=(⟨e.F,e.B,e.To⟩:Edge)) sizeOf92 V rfl (zR _) rfl rfl rfl p a2 rfl rfl (fW rfl) rfl (fun cs h=>by cases h;rfl) (fun b7 (g4:aF G K (box g 92 d::aP 92 K a b a0::L) b7)=>?_)
     iterate 4 refine aBL ?_
     refine aZ (v:=zS a a0.length b) (Eq.trans b5 (congrArg (fun n=>zS a n b) (bS a2))) (tD ?_);obtain rfl:=zI hm
     exact st_E results74 ⟨a,b,rfl,aDq⟩
    obtain ⟨g5,b9,ho⟩:=aB hm
    refine cA [3,5] b9 (fun q a3 f w=>f 0=zS a q.length b/\f 6=i64 a3/\aF G K (box g 92 d::aP 92 K a b q::L) w) aL ?_
    ·rintro q a3 g6 f g7 hm hr ⟨c0,g8,a4⟩
     unfold aCu at hm
     refine tD ?_
     rcases aM hm with ⟨c1,hm⟩|⟨c1,hm⟩
     ·refine tD ?_;refine bT (tD ?_)
      obtain ⟨j,a5,hm⟩:=aB hm
      have a6:=cR a4 (i:=1) rfl a5
      refine aC (dH mA rfl a6 rfl rfl rfl a5) (tD ?_);obtain ⟨g9,a7,hm⟩:=aB hm
      refine aC (dH mA rfl a6 rfl rfl rfl a7) ?_;obtain ⟨c3,a8,hm⟩:=aB hm
      refine lW (i:=1) (t:=0) (ns:=[i64 j.F,i64 j.B,i64 j.To]) (e':=(⟨j.F,j.B,j.To⟩:Edge)) sizeOf92 a4 rfl (zR _) rfl rfl rfl a7 a8 rfl rfl (fW rfl) rfl (fun cs h=>by cases h;rfl) (fun c4 (c5:aF G K (box g 92 d::aP 92 K a b c3::L) c4)=>(tD ?_));exact ⟨_,(zI hm).symm,bZ,(Eq.trans c0 (congrArg (fun n=>zS a n b) (bS a8))),rfl,c5⟩
     ·exact aL
  refine aRj ?_;refine tD ?_
  rcases aM hm with ⟨c6,hm⟩|⟨c6,hm⟩
  ·refine tD ?_;obtain ⟨a9,b0,hm⟩:=aB hm
   have c7:=cR m (i:=1) rfl b0
   refine bU (fun _ m=>dH mA rfl c7 rfl rfl rfl b0) (tD ?_);refine bU (fun _ m=>R_eqlG (eq_92 (x:=a9) (y:=e)) rfl rfl) (tD ?_)
   refine pU (fun h0 c8=>(tD ?_));exact ⟨bZ,decide ((a9:Edge)=e),hm,rfl,c8⟩
  ·exact aL
 obtain ⟨h1,c9,ho⟩:=aB hm
 refine cE [0,3] c9 (fun r f w=>f 5=i64 r/\aF G K (box g 92 d::aP 92 K a1 c2 c::L) w) aL ?_
 ·rintro r d0 f h2 hm hr ⟨h3,b1⟩
  unfold zF at hm
  iterate 2 refine aBL ?_
  refine bQ [0,3,5] (fun f w=>∃ b2,aCv r b2=some d0/\f 17=zB b2/\aF G K (box g 92 d::aP 92 K a1 c2 c::L) w) aL (tD ?_)
  rcases aM hm with ⟨d1,hm⟩|⟨d1,hm⟩
  ·refine tD ?_;obtain ⟨h4,u,hm⟩:=aB hm
   have d2:=cR b1 (i:=1) rfl u
   refine aC (dH mA rfl d2 rfl rfl rfl u) (tD ?_);obtain ⟨h5,d3,d4,d5,d6⟩:=aF.lendBp b1 .head
   obtain ⟨h6,d7,d8,d9,e0⟩:=aF.lendSp d5 d3 .head
   obtain ⟨h7,e1,e2⟩:=bK.el (sz:=3) rfl d8 u
   cases e2
   obtain ⟨h8,e3,hm⟩:=aB hm
   refine aCO call109 (aJz e3 d9 (d4.mono d7) e1) ?_
   rintro _ h9 ⟨rfl,e4⟩
   have e5:=e0 _ _ e4
   have i0:=d6 _ _ e5
   exact aL
  ·exact aL
theorem aJA {a b:Int} {g:(List aO)} {h:(List Edge)} {R:iZ} (hm:aBv a b g h=some R) (hs:aF G K (L) w) (n:bK K a1 c2 g) (h6:bK K a4 c5 h):
  Calls prog 45 ([i64 a,i64 b,zS a1 g.length c2,zS a4 h.length c5]:List Value).toArray w (dD fun v w'=>∃ o p q r,v=Value.agg (zCa R o p q r)/\aF G K (aP 9 K o p R.L::aP 92 K q r R.E::L) w'):=by
 refine aBe func45 ?_;unfold aBv at hm
 refine tD ?_;refine aGf fun u w8 a5=>?_
 refine tD ?_;obtain ⟨c,a6,hm⟩:=aB hm
 refine aCO call73 (aJy a6 a5 n) ?_
 rintro _ d0 ⟨d,e,rfl,d1⟩
 refine aIs ([]:List Edge) fun x d2 d3=>?_;refine aC (jE (vs:=[(0,i64 a),(1,i64 b),(2,zS d c.length e),(3,zS x ([]:List Edge).length 0)]) (cs:=[i64 a,i64 b,zS d c.length e,zS x ([]:List Edge).length 0]) bs_51 rfl (by kernel_rfl)) (aGf fun y d4 d5=>?_)
 refine aFe fun d6 d7=>?_;refine tD ?_
 refine aQ [8,9] (fun f w=>∃ i z J,aHq a b c i=some R/\aF G K (aP 92 K z J i::box y 51 [i64 a,i64 b,zS d c.length e,zS z i.length J]::aP 9 K d e c::box u 51 zG::L) w) aL ?_;obtain ⟨d8,a7,ho⟩:=aB hm
 refine cA [2,3,8,9] a7 (fun j V f w=>∃ k l,f 10=i64 V/\aF G K (box y 51 [i64 a,i64 b,zS d c.length e,zS k j.length l]::aP 92 K k l j::aP 9 K d e c::box u 51 zG::L) w) aL ?_
 ·rintro j V d9 f e0 hm hr ⟨k,l,e1,e2⟩
  unfold rL at hm
  refine tD ?_
  rcases aM hm with ⟨a8,hm⟩|⟨a8,hm⟩
  ·refine tD ?_;refine bT (tD ?_)
   obtain ⟨e3,a9,hm⟩:=aB hm
   refine tD ?_;obtain ⟨e4,e5,b0⟩:=bK.el (sz:=3) rfl h6 a9
   cases b0
   refine tD ?_;refine aGf fun e6 e7 e8=>?_
   refine aFe fun e9 b1=>?_;refine tD ?_
   obtain ⟨f0,b2,b3,b4,b5⟩:=aF.lendBp b1 .head
   obtain ⟨f1,a0,f2,f3,b6⟩:=aF.lendBp b4 .head
   refine st_w [(0,0),(1,0),(2,0),(3,0),(4,0),(5,0),(6,0),(7,1),(8,0),(9,2)] fun f4 m=>?_;refine tD ?_
   refine bW rfl (fun _ ⟨_,m⟩=>cD (t:=1) kQ m (b3.mono a0) rfl rfl) ?_;obtain ⟨f5,b8,hm⟩:=aB hm
   refine tD ?_;obtain ⟨f6,f7,b9⟩:=bK.el (sz:=1) rfl n b8
   cases b9
   refine tD ?_;refine nT rfl ?_
   obtain ⟨f8,f9,c0,c1,c3⟩:=aF.lendSp m (zL b2 a0) zt1
   obtain ⟨g0,c4,hm⟩:=aB hm
   refine aCO call72 (aAW c4 c1 c0) ?_
   rintro _ g1 ⟨rfl,c6⟩
   have a2:=c3 _ _ c6
   refine bN (aD ⟨⟨_,a2⟩,?_⟩)
   refine tD ?_
   have c7:=b6 _ _ a2
   have g2:=b5 _ _ c7
   exact aL
  ·exact aL
theorem aGD {s_:bE} {k2:Nat} {R:(iZ × (List (List GPoint)) × Bool)} (hm:uG s_=some R) (hs:aF G K (L) w) (h3:eU K a1 k2 [zS a4 s_.Definitions.length c5,zS a7 s_.Components.length c8,zS a10 s_.Meetings.length c11,zS a13 s_.Allowed.length c14,zS a16 s_.Hidden.length c17]) (h6:bK K a4 c5 s_.Definitions) (h9:bK K a7 c8 s_.Components) (m4:bK K a10 c11 s_.Meetings) (m5:bK K a13 c14 s_.Allowed) (m6:bK K a16 c17 s_.Hidden):
  Calls prog 18 ([dS a1 k2]:List Value).toArray w (dD fun v w'=>∃ K' m7 m8 m9 n0 n1 n2,v=Value.tuple #[Value.agg (zCa R.1 m7 m8 m9 n0),zS n1 R.2.1.length n2,zB R.2.2]/\Hp.le K K'/\aF G K' (aP 9 K m7 m8 R.1.L::aP 92 K m9 n0 R.1.E::aP 56 K' n1 n2 R.2.1::L) w'):=by
 let d:=zG
 refine aN func18 rfl (by kernel_rfl) (by show (1:Nat)<=132;decide) ?_;unfold uG at hm
 refine aK (cN (vs:=d) zeroValue51 hs rfl (fun e w20 p7=>(aG (v:=zS none 0 0) (aG (v:=zB false) (aH (aK (aI (v:=dS a1 k2) ?_)))))));obtain ⟨c0,p8,hm⟩:=aB hm
 refine aT (vs:=[dS a1 k2]) call42 rfl (aIg p8 p7 h3 h6 h9 m4 m5 m6) ?_
 rintro _ p9 ⟨K24,i8,i9,rfl,b3,q0⟩
 obtain ⟨b1,b4,q1,j0⟩:=aF.giveSp q0 (zR _) .head
 replace j0:aF G b1 (box e 51 d::L) p9:=j0
 refine dU (Kt:=b1) (xs:=([c0]:List (List GPoint))) (cs:=[zS i8 c0.length i9]) (vs:=[(0,zS i8 c0.length i9)]) qV aMm rfl rfl j0 rfl (by kernel_rfl) rfl rfl rfl ⟨⟨i8,i9,rfl,q1⟩,trivial⟩ (fun f7 q2 (q3:aF G b1 (aP 56 b1 f7 1 ([c0]:List (List GPoint))::box e 51 d::L) q2)=>(aG (v:=zS f7 ([c0]:List (List GPoint)).length 1) (aH (aK (dU (Kt:=K) (xs:=([([116,97,117]:aO)]:List aO)) (cs:=[str ([116,97,117]:aO)]) (vs:=[(0,str ([116,97,117]:aO))]) fM aKx rfl rfl q3 rfl (by kernel_rfl) rfl rfl rfl ⟨rfl,trivial⟩ (fun j1 q4 (q5:aF G b1 (aP 9 K j1 1 ([([116,97,117]:aO)]:List aO)::aP 56 b1 f7 1 ([c0]:List (List GPoint))::box e 51 d::L) q4)=>(aG (v:=zS j1 ([([116,97,117]:aO)]:List aO).length 1) (aH (aK (dU (Kt:=K) (xs:=([]:List Edge)) (cs:=[]) (vs:=[]) mA aOB rfl rfl q5 rfl (by kernel_rfl) rfl rfl rfl trivial (fun n3 q6 (a05:aF G b1 (aP 92 K n3 0 ([]:List Edge)::aP 9 K j1 1 ([([116,97,117]:aO)]:List aO)::aP 56 b1 f7 1 ([c0]:List (List GPoint))::box e 51 d::L) q6)=>(aG (v:=zS n3 ([]:List Edge).length 0) (aH (aJ (aK (aG (v:=i64 0) (aH (aQ [2] (fun f w=>∃ c1 b5 c7 c9 d0 d1 e1 e2 e3 e4,Hp.le b1 c1/\lL b5 c7 c9=some R/\f 5=zS d0 b5.length d1/\f 6=zS e1 c7.length e2/\f 7=zS e3 c9.length e4/\aF G c1 (aP 92 K e3 e4 c9::aP 9 K e1 e2 c7::aP 56 c1 d0 d1 b5::box e 51 d::L) w) ?_ ?_))))))))))))))))))
 ·rintro f w57 ⟨c1,b5,c7,c9,d0,d1,e1,e2,e3,e4,j2,hm,n4,q7,q8,q9⟩
  unfold lL at hm
  refine aD (aK (aZ n4 (aC (bD (len:=b5.length) qV rfl) (aZ q7 (aZ q8 ?_)))));obtain ⟨K59,r0,r1,r2,r3⟩:=aF.lendSp q9 (zL (zL b3 b4) j2) zt1
  obtain ⟨K64,r4,r5,r6,r7⟩:=aF.lendSp r2 (zL (zL (zL b3 b4) j2) r0) .head
  obtain ⟨p,r8,hm⟩:=aB hm
  refine aT (vs:=[i64 (b5.length:Int),i64 0,zS e1 c7.length e2,zS e3 c9.length e4]) call45 rfl (aJA r8 r6 (r1.mono r4) r5) ?_
  rintro _ w75 ⟨d2,d3,d4,d5,rfl,r9⟩
  have s0:=r7 _ _ r9
  have s1:=r3 _ _ s0
  refine aZ n4 (dT (i:=5) (ns:=(zC p d2 d3 d4 d5)) (us:=(zC p d2 d3 d4 d5)) sizeOf51 s1 rfl rfl rfl rfl rfl (fW rfl) rfl rfl (fun s2 (n5:aF G c1 (aP 9 K e1 e2 c7::aP 92 K e3 e4 c9::aP 9 K d2 d3 p.L::aP 92 K d4 d5 p.E::aP 56 c1 d0 d1 b5::box e 51 (zC p d2 d3 d4 d5)::L) s2)=>(aG (v:=zS d0 b5.length d1) (aG (v:=zB true) (aH ?_)))));obtain rfl:=zI hm
  exact aCe (aSL results18 (aPG (vs:=(zC p d2 d3 d4 d5)) rfl ag_51 n5 (i:=5) rfl rfl rfl) (aPF rfl rfl) (aPF rfl rfl) ⟨c1,d2,d3,d4,d5,d0,d1,rfl,(zL (zL b3 b4) j2),(aF.arr 6 [2,3,4] n5 rfl)⟩)
 obtain ⟨a11,s4,ho⟩:=aB hm
 refine aIA [0,2] s4 (fun c2 d6 d7 j f w=>∃ d8 e5 e6 e7 e8 e9 f0,Hp.le b1 d8/\f 5=zS e5 c2.length e6/\f 6=zS e7 d6.length e8/\f 7=zS e9 d7.length f0/\f 8=i64 j/\aF G d8 (aP 92 K e9 f0 d7::aP 9 K e7 e8 d6::aP 56 d8 e5 e6 c2::box e 51 d::L) w) aL ?_
 ·rintro c2 d6 d7 j j3 f a12 hm hr ⟨d8,e5,e6,e7,e8,e9,f0,b6,j4,s5,s6,f8,f9⟩
  unfold iL at hm
  refine aJ (aK (aZ f8 (aZ j4 (aC (bD (len:=c2.length) qV rfl) (aC (cK rfl rfl) (aH ?_))))))
  rcases aM hm with ⟨j5,hm⟩|⟨j5,hm⟩
  ·refine aU j5 rfl (bA (aD (aJ (aQ [0,2,8] (fun f w=>∃ f1 g0 g1 g2 g3 g4 g5 g6 g7 g8,Hp.le d8 f1/\aAy j g0 g1 g2=some j3/\f 5=zS g3 g0.length g4/\f 6=zS g5 g1.length g6/\f 7=zS g7 g2.length g8/\aF G f1 (aP 92 K g7 g8 g2::aP 9 K g5 g6 g1::aP 56 f1 g3 g4 g0::box e 51 d::L) w) ?_ ?_))))
   ·rintro f a14 ⟨f1,g0,g1,g2,g3,g4,g5,g6,g7,g8,s7,hm,s8,s9,t0,t1⟩
    unfold aAy at hm
    exact aD (aX (aZ f8 (aC (cP rfl rfl) (aG (v:=i64 (wr (j+1))) (aH ⟨_,(zI hm).symm,bZ,f1,g3,g4,g5,g6,g7,g8,(zL b6 s7),s8,s9,t0,rfl,t1⟩)))))
   refine aK (aI (v:=dS a1 k2) (aZ j4 (aZ f8 ?_)));obtain ⟨n6,j6,hm⟩:=aB hm
   have t2:=cR f9 (i:=2) rfl j6
   refine aC (dH qV rfl t2 rfl rfl rfl j6) ?_;obtain ⟨a15,t3,t4⟩:=yH (sz:=1) rfl f9 (i:=2) rfl j6
   obtain ⟨n7,n8,rfl,t5⟩:=t4
   refine aC (aHR (t:=0) (v:=zS n7 n6.length n8) aHT t3 rfl rfl) ?_;obtain ⟨b,t6,hm⟩:=aB hm
   refine aT (vs:=[dS a1 k2,zS n7 n6.length n8]) call43 rfl (aIj t6 f9 (h3.mono (zL (zL b3 b4) b6)) (h6.mono (zL (zL b3 b4) b6)) (h9.mono (zL (zL b3 b4) b6)) (m4.mono (zL (zL b3 b4) b6)) (m5.mono (zL (zL b3 b4) b6)) (m6.mono (zL (zL b3 b4) b6)) t5) ?_
   rintro _ t7 ⟨a,l,m,n,o,rfl,t8,t9⟩
   refine aI (v:=Value.tuple #[zS l b.1.length m,zS n b.2.1.length o,zB b.2.2]) (aC (bP rfl rfl) (aC (bP rfl rfl) (aC (bP rfl rfl) (aG (v:=zS l b.1.length m) (aG (v:=zS n b.2.1.length o) (aG (v:=zB b.2.2) (aH (aJ (aK (aI (v:=zB b.2.2) (aC (tC rfl) (aH ?_))))))))))))
   rcases aM hm with ⟨n9,hm⟩|⟨n9,hm⟩
   ·exact aL
   ·refine aR n9 rfl (bA (aD (aK (aG (v:=i64 0) (aH (aQ [0,2,8] (fun f w=>∃ j7 j8 j9 o0 o1 o2 o3 o4 o5,uD j j7 j8 j9=some j3/\f 5=zS o0 j7.length o1/\f 6=zS o2 j8.length o3/\f 7=zS o4 j9.length o5/\aF G a (aP 92 K o4 o5 j9::aP 9 K o2 o3 j8::aP 56 a o0 o1 j7::box e 51 d::L) w) aL ?_))))))
    have a17:aF G a (aP 9 K l m b.1::aP 56 a n o b.2.1::aP 92 K e9 f0 d7::aP 9 K e7 e8 d6::aP 56 a e5 e6 c2::box e 51 d::L) t7:=aF.weak (i:=4) t9 rfl (fun _ h=>aP.mono t8 h)
    obtain ⟨a18,u0,ho⟩:=aB hm
    refine aIA [0,2,8,9,10] u0 (fun J r k b2 f w=>∃ b7 b8 a2 a3 u z,f 5=zS b7 J.length b8/\f 6=zS a2 r.length a3/\f 7=zS u k.length z/\f 12=i64 b2/\aF G a (aP 9 K l m b.1::aP 56 a n o b.2.1::aP 92 K u z k::aP 9 K a2 a3 r::aP 56 a b7 b8 J::box e 51 d::L) w) aL ?_
    ·rintro J r k b2 c3 f a19 hm hr ⟨b7,b8,a2,a3,u,z,f2,o6,k0,f3,u1⟩
     unfold kG at hm
     refine aJ (aK (aZ f3 (aI (v:=zS l b.1.length m) (aC (bD (len:=b.1.length) fM rfl) (aC (cK rfl rfl) (aH ?_))))))
     rcases aM hm with ⟨k1,hm⟩|⟨k1,hm⟩
     ·refine aU k1 rfl (bA (aD (aJ (aQ [0,2,8,9,10,12] (fun f w=>∃ g9 h0 h1 h2 h4 h5 h7 h8 i0,aAz b2 g9 h0 h1=some c3/\f 5=zS h2 g9.length h4/\f 6=zS h5 h0.length h7/\f 7=zS h8 h1.length i0/\aF G a (aP 92 K h8 i0 h1::aP 9 K h5 h7 h0::aP 56 a h2 h4 g9::aP 9 K l m b.1::aP 56 a n o b.2.1::box e 51 d::L) w) ?_ ?_))))
      ·rintro f a20 ⟨g9,h0,h1,h2,h4,h5,h7,h8,i0,hm,u2,u3,u4,u5⟩
       unfold aAz at hm
       exact aD (aX (aZ f3 (aC (cP rfl rfl) (aG (v:=i64 (wr (b2+1))) (aH ⟨_,(zI hm).symm,bZ,h2,h4,h5,h7,h8,i0,u2,u3,u4,rfl,(aF.arr 5 [3,4,0,1,2] u5 rfl)⟩)))))
      refine aK (aG (v:=i64 (-1)) (aH (aJ (aK (aG (v:=i64 0) (aH (aQ [0,2,5,6,7,8,9,10,12] (fun f w=>∃ k3,sE j b J r k b2 k3=some c3/\f 13=i64 k3/\aF G a (aP 9 K l m b.1::aP 56 a n o b.2.1::aP 92 K u z k::aP 9 K a2 a3 r::aP 56 a b7 b8 J::box e 51 d::L) w) ?_ ?_)))))))
      ·rintro f a21 ⟨k3,hm,u6,k4⟩
       unfold sE at hm
       refine aD (rB [0,2,6,7,8,9,10,12] (fun f w=>∃ V q a6 a8,nZ j b r k b2 V q=some c3/\f 5=zS a6 V.length a8/\f 13=i64 q/\aF G a (aP 56 a a6 a8 V::aP 9 K l m b.1::aP 56 a n o b.2.1::aP 92 K u z k::aP 9 K a2 a3 r::box e 51 d::L) w) ?_ ?_)
       ·rintro f u7 ⟨V,q,a6,a8,hm,a22,u8,k5⟩
        unfold nZ at hm
        refine aK (aZ o6 (aI (v:=zS l b.1.length m) (aZ f3 ?_)));obtain ⟨u9,k6,hm⟩:=aB hm
        have v0:=cR k5 (i:=1) rfl k6
        refine aC (dH fM rfl v0 rfl rfl rfl k6) (aC (aEm (t:=0) pE k5 (i:=1) rfl k6 rfl rfl rfl) ?_)
        have v1:aF G a (aP 9 K a2 a3 r::aP 56 a a6 a8 V::aP 9 K l m b.1::aP 56 a n o b.2.1::aP 92 K u z k::box e 51 d::L) u7:=(aF.arr 5 [4,0,1,2,3] k5 rfl)
        obtain ⟨c,v2,hm⟩:=aB hm
        refine aT (vs:=[zS a2 r.length a3,str u9]) call44 rfl (aJx v2 v1) ?_
        rintro _ a23 ⟨a9,b0,rfl,v3⟩
        refine aI (v:=Value.tuple #[zS a9 c.1.length b0,i64 c.2]) (aC (bP rfl rfl) (aC (bP rfl rfl) (aG (v:=zS a9 c.1.length b0) (aG (v:=i64 c.2) (aH (aK (aI (v:=zS a9 c.1.length b0) (aG (v:=zS a9 c.1.length b0) (aH (aK (aZ f8 (aI (v:=i64 c.2) (aZ u8 (aC (jE (vs:=[(0,i64 j),(1,i64 c.2),(2,i64 q)]) (cs:=[i64 j,i64 c.2,i64 q]) bs_92 rfl (by kernel_rfl)) (cN (vs:=[i64 0,i64 0,i64 0]) zeroValue92 v3 rfl (fun f4 a24 v4=>(dT (i:=0) (ns:=[i64 j,i64 c.2,i64 q]) (us:=[i64 j,i64 c.2,i64 q]) sizeOf92 v4 rfl rfl rfl rfl rfl (fW rfl) rfl rfl (fun v5 (a25:aF G a (box f4 92 [i64 j,i64 c.2,i64 q]::aP 9 K a9 b0 c.1::aP 56 a a6 a8 V::aP 9 K l m b.1::aP 56 a n o b.2.1::aP 92 K u z k::box e 51 d::L) v5)=>(aH (aK (aG (v:=zB false) (aH (aJ ?_)))))))))))))))))))))))
        refine aK (aG (v:=i64 0) (aH (aQ [0,2,5,6,7,8,9,10,12,17] (fun f w=>∃ k7,aAA j k b2 V q c k7=some c3/\f 18=zB k7/\aF G a (box f4 92 [i64 j,i64 c.2,i64 q]::aP 9 K a9 b0 c.1::aP 56 a a6 a8 V::aP 9 K l m b.1::aP 56 a n o b.2.1::aP 92 K u z k::box e 51 d::L) w) ?_ ?_)))
        ·rintro f a27 ⟨k7,hm,a28,a29⟩
         unfold aAA at hm
         refine aD (rB [0,2,5,6,8,9,10,12] (fun f w=>∃ d9 i1 i2,qI b2 V c d9=some c3/\f 7=zS i1 d9.length i2/\aF G a (aP 92 K i1 i2 d9::aP 9 K a9 b0 c.1::aP 56 a a6 a8 V::aP 9 K l m b.1::aP 56 a n o b.2.1::box e 51 d::L) w) ?_ ?_)
         ·rintro f a30 ⟨d9,i1,i2,hm,a31,a32⟩
          unfold qI at hm
          exact aJ (bQ [0,2,5,6,7,8,9,10,12] (fun f w=>∃ o7,uE b2 V c d9 o7=some c3/\f 124=zB o7/\aF G a (aP 92 K i1 i2 d9::aP 9 K a9 b0 c.1::aP 56 a a6 a8 V::aP 9 K l m b.1::aP 56 a n o b.2.1::box e 51 d::L) w) aL aL)
         exact aL
        obtain ⟨a33,v6,ho⟩:=aB hm
        refine cA [0,2,5,6,7,8,9,10,12,17] v6 (fun k8 i3 f w=>f 18=zB k8/\f 19=i64 i3/\aF G a (box f4 92 [i64 j,i64 c.2,i64 q]::aP 9 K a9 b0 c.1::aP 56 a a6 a8 V::aP 9 K l m b.1::aP 56 a n o b.2.1::aP 92 K u z k::box e 51 d::L) w) aL ?_
        ·rintro k8 i3 v7 f a35 hm hr ⟨v8,k9,a0⟩
         unfold lM at hm
         refine aJ (aK (aZ k9 (aZ k0 (aC (bD (len:=k.length) mA rfl) (aC (cK rfl rfl) (aH ?_))))))
         rcases aM hm with ⟨o8,hm⟩|⟨o8,hm⟩
         ·refine aU o8 rfl (bA (aD (aJ (bT (bQ [0,2,5,6,7,8,9,10,12,17,19] (fun f w=>∃ l0,uF i3 l0=some v7/\f 18=zB l0/\aF G a (box f4 92 [i64 j,i64 c.2,i64 q]::aP 9 K a9 b0 c.1::aP 56 a a6 a8 V::aP 9 K l m b.1::aP 56 a n o b.2.1::aP 92 K u z k::box e 51 d::L) w) ?_ ?_)))))
          ·rintro f a36 ⟨l0,hm,v9,w0⟩
           unfold uF at hm
           exact bX (aD (aX (aZ k9 (aC (cP rfl rfl) (aG (v:=i64 (wr (i3+1))) (aH ⟨_,(zI hm).symm,bZ,v9,rfl,w0⟩))))))
          refine iN (C:=fun w'=>aF G a (box f4 92 [i64 j,i64 c.2,i64 q]::aP 9 K a9 b0 c.1::aP 56 a a6 a8 V::aP 9 K l m b.1::aP 56 a n o b.2.1::aP 92 K u z k::box e 51 d::L) w') Tryz_mixed (by kernel_rfl) (aF.mono a0 (eP.drew _)) (bU (fun _ a0=>bM v8) (bU (fun _ a0=>bM (v:=zB k8) rfl) ?_))
          rcases aM hm with ⟨b9,hm⟩|⟨b9,hm⟩
          ·exact aL
          ·refine iR (g:=98) rfl rfl (aBo b9) (bU (fun _ a0=>bM k0) (iR (g:=98) rfl rfl (aBo b9) (bU (fun _ a0=>bM k9) (iR (g:=98) rfl rfl (aBo b9) ?_))));obtain ⟨c4,l1,hm⟩:=aB hm
           have w1:=cR a0 (i:=5) rfl l1
           exact bU (fun _ a0=>dH mA rfl w1 rfl rfl rfl l1) (iR (g:=98) rfl rfl (aBo b9) (bU (fun _ a0=>aGY (t:=0) (vs:=[i64 c4.F,i64 c4.B,i64 c4.To]) aFr a0 (i:=5) rfl l1 rfl rfl rfl rfl) (iR (g:=98) rfl rfl (aBo b9) (bU (fun _ a0=>jB (us:=[i64 j,i64 c.2,i64 q]) aFr a0 (i:=0) rfl rfl rfl rfl) (iR (g:=98) rfl rfl (aBo b9) (bU (fun _ a0=>R_eqlG (eq_92 (x:=c4) (y:=⟨j,c.2,q⟩)) rfl rfl) (bU (fun _ a0=>aCg (v:=zB (decide ((c4:Edge)=⟨j,c.2,q⟩))) b9 rfl rfl) (bU (fun _ a0=>jH (v:=zB (decide ((c4:Edge)=⟨j,c.2,q⟩))) rfl) (pU (fun a38 w2=>(aD ⟨bZ,decide ((c4:Edge)=⟨j,c.2,q⟩),hm,rfl,w2⟩)))))))))))
         ·exact aL
       refine aK (aZ u6 (aC (cK rfl rfl) (aH ?_)))
       rcases aM hm with ⟨o9,hm⟩|⟨o9,hm⟩
       ·refine aU o9 rfl (aK (aZ f2 (aC (bD (len:=J.length) qV rfl) (aG (v:=i64 (J.length:Int)) (aH (aX (aZ f2 (aI (v:=zS n b.2.1.length o) (aZ f3 ?_)))))))));obtain ⟨f5,l2,hm⟩:=aB hm
        have w3:=cR k4 (i:=1) rfl l2
        refine aC (dH qV rfl w3 rfl rfl rfl l2) ?_;obtain ⟨a39,w4,w5⟩:=yH (sz:=1) rfl k4 (i:=1) rfl l2
        obtain ⟨i4,i5,rfl,w6⟩:=w5
        refine aC (aHR (t:=0) (v:=zS i4 f5.length i5) aHT w4 rfl rfl) (dU (Kt:=a) (xs:=([f5]:List (List GPoint))) (cs:=[zS i4 f5.length i5]) (vs:=[(0,zS i4 f5.length i5)]) qV aMm rfl rfl k4 rfl (by kernel_rfl) rfl rfl rfl ⟨⟨i4,i5,rfl,w6⟩,trivial⟩ (fun w7 w8 (w9:aF G a (aP 56 a w7 1 ([f5]:List (List GPoint))::aP 9 K l m b.1::aP 56 a n o b.2.1::aP 92 K u z k::aP 9 K a2 a3 r::aP 56 a b7 b8 J::box e 51 d::L) w8)=>?_))
        obtain ⟨l3,x0,hm⟩:=aB hm
        exact xP (i:=4) a qV underlying52 aMm rfl rfl w9 rfl (zR _) (zR _) x0 rfl rfl rfl rfl (fun _ _ _ h=>El.one h) (fun l4 l5 x1 (x2:aF G a (aP 9 K l m b.1::aP 56 a n o b.2.1::aP 92 K u z k::aP 9 K a2 a3 r::aP 56 a l4 l5 l3::box e 51 d::L) x1)=>(aG (v:=zS l4 l3.length l5) (aH ⟨bZ,l3,(J.length:Int),l4,l5,hm,rfl,rfl,(aF.arr 5 [4,0,1,2,3] x2 rfl)⟩)))
       ·exact aL
      obtain ⟨a41,x3,ho⟩:=aB hm
      refine cA [0,2,5,6,7,8,9,10,12] x3 (fun f6 e0 f w=>f 13=i64 f6/\f 14=i64 e0/\aF G a (aP 9 K l m b.1::aP 56 a n o b.2.1::aP 92 K u z k::aP 9 K a2 a3 r::aP 56 a b7 b8 J::box e 51 d::L) w) aL ?_
      ·rintro f6 e0 x4 f a42 hm hr ⟨p0,i6,p1⟩
       unfold kF at hm
       refine aJ (aK (aZ i6 (aZ f2 (aC (bD (len:=J.length) qV rfl) (aC (cK rfl rfl) (aH ?_))))))
       rcases aM hm with ⟨l6,hm⟩|⟨l6,hm⟩
       ·refine aU l6 rfl (bA (aD (aJ (aQ [0,2,5,6,7,8,9,10,12,14] (fun f w=>∃ l7,sF e0 l7=some x4/\f 13=i64 l7/\aF G a (aP 9 K l m b.1::aP 56 a n o b.2.1::aP 92 K u z k::aP 9 K a2 a3 r::aP 56 a b7 b8 J::box e 51 d::L) w) ?_ ?_))))
        ·rintro f a43 ⟨l7,hm,x5,x6⟩
         unfold sF at hm
         exact aD (aX (aZ i6 (aC (cP rfl rfl) (aG (v:=i64 (wr (e0+1))) (aH ⟨_,(zI hm).symm,bZ,x5,rfl,x6⟩)))))
        refine aJ ?_;obtain ⟨a44,x7,p2,x8,x9⟩:=aF.lendSp p1 (zR _) zt1
        obtain ⟨y0,p3,p4,a5,y1⟩:=aF.lendSp x8 x7 zt3
        refine iN (C:=fun w'=>aF G y0 (aP 9 K l m b.1::aP 92 K u z k::aP 9 K a2 a3 r::box e 51 d::L) w') Tryz_mixed (by kernel_rfl) (aF.mono a5 (eP.drew _)) (bU (fun _ a5=>bM f2) (bU (fun _ a5=>bM i6) ?_));obtain ⟨y2,l8,hm⟩:=aB hm
        have y3:=aJX p4 l8
        refine bU (fun _ a5=>dH qV rfl y3 rfl rfl rfl l8) ?_;obtain ⟨a45,y4,y5⟩:=bK.el (sz:=1) rfl p4 l8
        obtain ⟨y6,y7,rfl,y8⟩:=y5
        refine bU (fun _ a5=>cD (t:=0) aHT a5 y4 rfl rfl) (bU (fun _ a5=>bM (v:=zS n b.2.1.length o) rfl) (bU (fun _ a5=>bM f3) ?_));obtain ⟨y9,l9,hm⟩:=aB hm
        have z0:=aJX (p2.mono p3) l9
        refine bU (fun _ a5=>dH qV rfl z0 rfl rfl rfl l9) ?_;obtain ⟨a47,z1,z2⟩:=bK.el (sz:=1) rfl (p2.mono p3) l9
        obtain ⟨z3,z4,rfl,z5⟩:=z2
        refine bU (fun _ a5=>cD (t:=0) aHT a5 z1 rfl rfl) ?_;obtain ⟨z6,z7,hm⟩:=aB hm
        refine pL (vs:=[zS y6 y2.length y7,zS z3 y9.length z4]) (v:=zB z6) call19 rfl (fun _ a5=>(aEN z7 a5 y8 z5)) (pU (fun a48 z8=>?_))
        have z9:=y1 _ _ z8
        have p5:=x9 _ _ z9
        refine aD ?_
        rcases aM hm with ⟨m0,hm⟩|⟨m0,hm⟩
        ·exact aU m0 rfl (aX (aZ i6 (aG (v:=i64 e0) (bN (bX (aD ⟨bZ,e0,hm,rfl,(aF.arr 5 [2,0,3,4,1] p5 rfl)⟩))))))
        ·exact aR m0 rfl (bA (bX (aD ⟨bZ,f6,hm,p0,(aF.arr 5 [2,0,3,4,1] p5 rfl)⟩)))
       ·refine aR l6 rfl (tP (gF (gF ?_)))
        have a00:=hr _ (zI hm).symm
        subst a00
        have hm:(sE j b J r k b2 f6)=some c3:=ho
        clear hr ho
        exact nF (aD ⟨bZ,f6,hm,p0,p1⟩)
     ·refine aR k1 rfl (tP (gF (gF ?_)))
      have a01:=hr _ (zI hm).symm
      subst a01
      have hm:(uD j J r k)=some j3:=ho
      clear hr ho
      exact nF (aD ⟨bZ,J,r,k,b7,b8,a2,a3,u,z,hm,f2,o6,k0,(aF.arr 2 [] u1 rfl)⟩)
  ·refine aR j5 rfl (tP (gF (gF ?_)))
   have a02:=hr _ (zI hm).symm
   subst a02
   have hm:(lL c2 d6 d7)=some R:=ho
   clear hr ho
   exact nF (aD ⟨bZ,d8,c2,d6,d7,e5,e6,e7,e8,e9,f0,b6,hm,j4,s5,s6,f9⟩)
theorem aMS {a b:(List Int)} {R:Int} (hm:vG a b=some R) (h:aF G K (L) w) (i:bK K a1 c2 a) (j:bK K a4 c5 b):
  Calls prog 76 ([zS a1 a.length c2,zS a4 b.length c5]:List Value).toArray w (dD fun v w'=>v=i64 R/\aF G K (L) w'):=by
 refine aBe func76 ?_;unfold vG at hm
 refine tD ?_;refine aQ [0,1] (fun f w=>xV a b=some R/\aF G K (L) w) aL ?_
 obtain ⟨k,e,ho⟩:=aB hm
 refine cE [0,1] e (fun c f w=>f 5=i64 c/\aF G K (L) w) aL ?_
 ·rintro c g f l hm hr ⟨m,n⟩
  unfold kH at hm
  iterate 2 refine aBL ?_
  exact bQ [0,1,5] (fun f w=>∃ d,oA a b c d=some g/\f 15=zB d/\aF G K (L) w) aL aL
theorem aFH {a:GPoint} {c:Nat} {b:GPoint} {d:Nat} {R:Int} (hm:aAB a b=some R) (h:aF G K (L) w) (i:eU K a1 c [i64 a.Definition,i64 a.Part,zS a4 a.Values.length c5]) (j:bK K a4 c5 a.Values) (k:eU K a7 d [i64 b.Definition,i64 b.Part,zS a10 b.Values.length c11]) (l:bK K a10 c11 b.Values):
  Calls prog 48 ([dS a1 c,dS a7 d]:List Value).toArray w (dD fun v w'=>v=i64 R/\aF G K (L) w'):=by
 refine aBe func48 ?_;unfold aAB at hm
 refine tD ?_;refine st_w [(0,0),(1,0),(2,0),(3,0),(4,0),(5,0),(6,0),(7,0),(8,1),(9,0)] fun m n=>?_
 refine tD ?_;refine nT rfl (aIs ([a.Definition,a.Part]:List Int) fun o p e=>?_)
 refine bN (aD ⟨⟨_,e⟩,?_⟩)
 refine tD ?_;refine aCP (tD ?_)
 refine st_w [(0,0),(1,0),(2,0),(3,0),(4,0),(5,0),(6,0),(7,0),(8,1),(9,0)] fun q r=>?_;refine tD ?_
 refine nT rfl (aIs ([b.Definition,b.Part]:List Int) fun t u g=>?_);refine bN (aD ⟨⟨_,g⟩,?_⟩)
 refine tD ?_;exact aCP aL
theorem aEQ {a0 R:(List GPoint)} (hm:aEf a0=some R) (hs:aF G K (L) w) (h3:bK K a1 c2 a0):
  Calls prog 20 ([zS a1 a0.length c2]:List Value).toArray w (dD fun v w'=>∃ K' b7 b8,v=zS b7 R.length b8/\Hp.le K K'/\aF G K' (aP 97 K' b7 b8 R::L) w'):=by
 let b9:=[i64 0,i64 0,zS none 0 0]
 refine aBe func20 ?_;unfold aEf at hm
 refine tD ?_;obtain ⟨b,q5,hm⟩:=aB hm
 refine aCO call47 (sX q5 hs h3) ?_
 rintro _ j1 ⟨a,c,d,rfl,j2,d9⟩
 refine tD ?_;refine dU (Kt:=a) (xs:=([]:List GPoint)) (cs:=[]) (vs:=[]) gR aDb rfl rfl d9 rfl (by kernel_rfl) rfl rfl rfl trivial (fun e0 e1 (j3:aF G a (aP 97 a e0 0 ([]:List GPoint)::aP 97 a c d b::L) e1)=>(tD ?_))
 refine aQ [] (fun f w=>∃ a3 c0 c1,aME a3=some R/\f 4=zS c0 a3.length c1/\aF G a (aP 97 a c0 c1 a3::L) w) aL ?_;obtain ⟨j4,e2,ho⟩:=aB hm
 refine cA [3] e2 (fun j p f w=>∃ k l,f 4=zS k j.length l/\f 5=i64 p/\aF G a (aP 97 a k l j::aP 97 a c d b::L) w) aL ?_
 ·rintro j p a4 f j5 hm hr ⟨k,l,j6,j7,j8⟩
  unfold oM at hm
  refine tD ?_
  rcases aM hm with ⟨e3,hm⟩|⟨e3,hm⟩
  ·refine tD ?_;refine aQ [3,5] (fun f w=>∃ q r u,aDM p q=some a4/\f 4=zS r q.length u/\aF G a (aP 97 a r u q::aP 97 a c d b::L) w) ?_ ?_
   ·rintro f j9 ⟨q,r,u,hm,e4,e5⟩
    unfold aDM at hm
    refine tD ?_;exact ⟨_,(zI hm).symm,bZ,r,u,e4,rfl,e5⟩
   refine tD ?_;refine aQ [3,4,5] (fun f w=>∃ x,aDO b j p x=some a4/\f 6=i64 x/\aF G a (aP 97 a k l j::aP 97 a c d b::L) w) ?_ ?_
   ·rintro f k0 ⟨x,hm,k1,e6⟩
    unfold aDO at hm
    iterate 4 refine aBL ?_
    refine aC (jE (vs:=[]) (cs:=b9) aPS rfl (by kernel_rfl)) (dU (Kt:=a) (xs:=([⟨0,0,[]⟩]:List GPoint)) (cs:=b9) (vs:=[(0,Value.agg #[i64 0,i64 0,zS none 0 0])]) gR aDb rfl rfl e6 rfl (by kernel_rfl) rfl rfl rfl ⟨⟨none,0,rfl,aFj _⟩,trivial⟩ (fun e7 e8 (e9:aF G a (aP 97 a e7 1 ([⟨0,0,[]⟩]:List GPoint)::aP 97 a k l j::aP 97 a c d b::L) e8)=>?_));obtain ⟨f0,f1,hm⟩:=aB hm
    refine xP (i:=0) a gR underlying56 aDb rfl rfl e9 rfl (zR _) (zR _) f1 rfl rfl rfl rfl (fun _ _ _ h=>El.one h) (fun e g f2 (k2:aF G a (aP 97 a e g f0::aP 97 a c d b::L) f2)=>(tD ?_));refine aQ [3,5,6] (fun f w=>∃ y,aDN b p x y=some a4/\f 4=zS e y.length g/\aF G a (aP 97 a e g y::aP 97 a c d b::L) w) ?_ ?_
    ·rintro f k3 ⟨y,hm,f3,z⟩
     unfold aDN at hm
     refine tD ?_;obtain ⟨m,a5,hm⟩:=aB hm
     have f4:=cR z (i:=1) rfl a5
     refine aC (dH gR rfl f4 rfl rfl rfl a5) ?_;obtain ⟨k4,f5,f6⟩:=yH (sz:=3) rfl z (i:=1) rfl a5
     obtain ⟨a6,a7,rfl,f7⟩:=f6
     refine aC (R_ldCG (t:=0) (vs:=[i64 m.Definition,i64 m.Part,zS a6 m.Values.length a7]) aBh f5 rfl rfl rfl) ?_;obtain ⟨k5,a9,hm⟩:=aB hm
     have f8:=cR z (i:=0) rfl a9
     refine aC (dH gR rfl f8 rfl rfl rfl a9) ?_;obtain ⟨c3,c4,hm⟩:=aB hm
     refine aPL (i:=0) (ns:=[i64 m.Definition,i64 m.Part,zS a6 m.Values.length a7]) (e':=(m:GPoint)) sizeOf97 z rfl (zR _) rfl rfl rfl a9 c4 rfl ⟨a6,a7,rfl,f7⟩ (fun f9 (g0:aF G a (aP 97 a e g c3::aP 97 a c d b::L) f9)=>(tD ?_));exact ⟨bZ,c3,e,g,hm,(Eq.trans f3 (congrArg (fun n=>zS e n g) (bS c4))),g0⟩
    obtain ⟨k6,g1,ho⟩:=aB hm
    refine cA [3,5,6] g1 (fun b0 c5 f w=>f 4=zS e b0.length g/\f 7=i64 c5/\aF G a (aP 97 a e g b0::aP 97 a c d b::L) w) aL ?_
    ·rintro b0 c5 k7 f k8 hm hr ⟨g2,k9,b1⟩
     unfold oL at hm
     refine tD ?_
     rcases aM hm with ⟨g3,hm⟩|⟨g3,hm⟩
     ·refine tD ?_;refine bT (tD ?_)
      obtain ⟨o,b2,hm⟩:=aB hm
      have c6:=cR b1 (i:=0) rfl b2
      refine aC (dH gR rfl c6 rfl rfl rfl b2) ?_;obtain ⟨l0,g4,g5⟩:=yH (sz:=3) rfl b1 (i:=0) rfl b2
      obtain ⟨b3,b4,rfl,g6⟩:=g5
      refine aC (R_ldCG (t:=0) (vs:=[i64 o.Definition,i64 o.Part,zS b3 o.Values.length b4]) aBh g4 rfl rfl rfl) ?_;obtain ⟨l1,c7,hm⟩:=aB hm
      refine aC (dH gR rfl c6 rfl rfl rfl c7) ?_;obtain ⟨g7,c8,hm⟩:=aB hm
      refine aPL (i:=0) (ns:=[i64 o.Definition,i64 o.Part,zS b3 o.Values.length b4]) (e':=(o:GPoint)) sizeOf97 b1 rfl (zR _) rfl rfl rfl c7 c8 rfl ⟨b3,b4,rfl,g6⟩ (fun g8 (g9:aF G a (aP 97 a e g g7::aP 97 a c d b::L) g8)=>(tD ?_));exact ⟨_,(zI hm).symm,bZ,(Eq.trans g2 (congrArg (fun n=>zS e n g) (bS c8))),rfl,g9⟩
     ·exact aL
   obtain ⟨l2,h0,ho⟩:=aB hm
   refine cE [3,4,5] h0 (fun J f w=>f 6=i64 J/\aF G a (aP 97 a k l j::aP 97 a c d b::L) w) aL ?_
   ·rintro J h1 f l3 hm hr ⟨l4,h2⟩
    unfold rM at hm
    refine tD ?_;refine bQ [3,4,5,6] (fun f w=>∃ d0,aAC J d0=some h1/\f 31=zB d0/\aF G a (aP 97 a k l j::aP 97 a c d b::L) w) aL ?_
    obtain ⟨l5,h4,d1,h5,d2⟩:=aF.lendSp h2 (zR _) .head
    obtain ⟨l6,d3,d4,V,d5⟩:=aF.lendSp h5 h4 .head
    refine aRj ?_;refine tD ?_
    rcases aM hm with ⟨h6,hm⟩|⟨h6,hm⟩
    ·refine tD ?_;obtain ⟨l7,b5,hm⟩:=aB hm
     have h7:=aJX d4 b5
     refine bU (fun _ V=>dH gR rfl h7 rfl rfl rfl b5) (tD ?_);obtain ⟨l8,b6,hm⟩:=aB hm
     have h8:=aJX (d1.mono d3) b6
     refine bU (fun _ V=>dH gR rfl h8 rfl rfl rfl b6) (tD ?_);obtain ⟨l9,h9,i0⟩:=bK.el (sz:=3) rfl d4 b5
     obtain ⟨m0,m1,rfl,i1⟩:=i0
     obtain ⟨m2,i2,i3⟩:=bK.el (sz:=3) rfl (d1.mono d3) b6
     obtain ⟨m3,m4,rfl,i4⟩:=i3
     obtain ⟨i5,i6,hm⟩:=aB hm
     refine pL (vs:=[dS c (p.toNat * 3+0),dS k ((wr (J - 1)).toNat * 3+0)]) (v:=i64 i5) call48 rfl (fun _ V=>(aFH i6 V h9 i1 i2 i4)) (tD ?_);refine pU (fun m5 i7=>?_)
     have i8:=d5 _ _ i7
     have m6:=d2 _ _ i8
     exact aL
    ·refine tD ?_;refine pU (fun m7 i9=>?_)
     have j0:=d5 _ _ i9
     have m8:=d2 _ _ j0
     exact aL
  ·exact aL
theorem aJB {d R:(List Int)} (hm:aGx d=some R) (hs:aF G K (L) w) (p:bK K a1 c2 d):
  Calls prog 21 ([zS a1 d.length c2]:List Value).toArray w (dD fun v w'=>∃ a3 a4,v=zS a3 R.length a4/\aF G K (aP 2 K a3 a4 R::L) w'):=by
 refine aN func21 rfl (by kernel_rfl) (by show (1:Nat)<=48;decide) ?_;unfold aGx at hm
 refine aK (aG (v:=zS none 0 0) (aH (aK (aI (v:=zS a1 d.length c2) (aC (bD (len:=d.length) fZ rfl) ?_)))));obtain ⟨a,q5,hm⟩:=aB hm
 refine aLZ (e:=(0:Int)) fZ aIG rfl rfl hs rfl rfl rfl q5 rfl (fun b w7 (d8:aF G K (aP 2 K b a.length a::L) w7)=>(aG (v:=zS b a.length a.length) (aH (aK (aG (v:=i64 0) (aH (aJ (aK (aG (v:=i64 0) (aH (aQ [] (fun f w=>∃ r,aMF r=some R/\f 3=zS b r.length a.length/\aF G K (aP 2 K b a.length r::L) w) aL ?_)))))))))));obtain ⟨d9,c4,ho⟩:=aB hm
 refine iE [0] c4 (fun j g l f w=>f 3=zS b j.length a.length/\f 4=i64 g/\f 5=i64 l/\aF G K (aP 2 K b a.length j::L) w) aL ?_
 ·rintro j g l a5 f e0 hm hr ⟨m,u,k,e1⟩
  unfold oN at hm
  refine aJ (aK (aZ k (aI (v:=zS a1 d.length c2) (aC (bD (len:=d.length) fZ rfl) (aC (cK rfl rfl) (aH ?_))))))
  rcases aM hm with ⟨a7,hm⟩|⟨a7,hm⟩
  ·refine aU a7 rfl (bA (aD (aJ (aQ [0,5] (fun f w=>∃ q x,aAD l q x=some a5/\f 3=zS b q.length a.length/\f 4=i64 x/\aF G K (aP 2 K b a.length q::L) w) ?_ ?_))))
   ·rintro f e2 ⟨q,x,hm,c5,c6,c7⟩
    unfold aAD at hm
    exact aD (aX (aZ k (aC (cP rfl rfl) (aG (v:=i64 (wr (l+1))) (aH ⟨_,(zI hm).symm,bZ,c5,c6,rfl,c7⟩)))))
   refine aK (aG (v:=i64 (-1)) (aH (aJ (aK (aG (v:=i64 0) (aH (aQ [0,3,4,5] (fun f w=>∃ y,aDP j g l y=some a5/\f 6=i64 y/\aF G K (aP 2 K b a.length j::L) w) ?_ ?_)))))))
   ·rintro f e3 ⟨y,hm,a8,o⟩
    unfold aDP at hm
    refine aD (aK (aZ a8 (aC (R_geq rfl rfl) (aH ?_))))
    rcases aM hm with ⟨z,hm⟩|⟨z,hm⟩
    ·refine aU z rfl (aX (aZ m (aZ k (aZ m (aZ a8 ?_)))));obtain ⟨a9,J,hm⟩:=aB hm
     have b0:=cR o (i:=0) rfl J
     refine aC (dH fZ rfl b0 rfl rfl rfl J) (aC (aEm (t:=0) kQ o (i:=0) rfl J rfl rfl rfl) ?_);obtain ⟨e4,b1,hm⟩:=aB hm
     refine aC (dH fZ rfl b0 rfl rfl rfl b1) ?_;obtain ⟨b2,b3,hm⟩:=aB hm
     exact lW (i:=0) (t:=0) (ns:=[i64 a9]) (e':=(a9:Int)) sizeOf2 o rfl (zR _) rfl rfl rfl b1 b3 rfl rfl (fW rfl) rfl (fun cs h=>by cases h;rfl) (fun c8 (c9:aF G K (aP 2 K b a.length b2::L) c8)=>(bN (bX (aD ⟨bZ,b2,g,hm,(Eq.trans m (congrArg (fun n=>zS b n a.length) (bS b3))),u,c9⟩))))
    ·refine aR z rfl (aK (aZ m (aZ k (aZ u ?_))));obtain ⟨e5,V,hm⟩:=aB hm
     have d0:=cR o (i:=0) rfl V
     refine aC (dH fZ rfl d0 rfl rfl rfl V) ?_;obtain ⟨b4,b5,hm⟩:=aB hm
     exact lW (i:=0) (t:=0) (ns:=[i64 g]) (e':=(g:Int)) sizeOf2 o rfl (zR _) rfl rfl rfl V b5 rfl rfl (fW rfl) rfl (fun cs h=>by cases h;rfl) (fun d1 (d2:aF G K (aP 2 K b a.length b4::L) d1)=>(aH (aX (aZ u (aC (cP rfl rfl) (aG (v:=i64 (wr (g+1))) (bN (bX (aD ⟨bZ,b4,wr (g+1),hm,(Eq.trans m (congrArg (fun n=>zS b n a.length) (bS b5))),rfl,d2⟩)))))))))
   obtain ⟨e6,d3,ho⟩:=aB hm
   refine cE [0,3,4,5] d3 (fun a0 f w=>f 6=i64 (-1)/\f 7=i64 a0/\aF G K (aP 2 K b a.length j::L) w) aL ?_
   ·rintro a0 e7 f e8 hm hr ⟨e9,a2,c⟩
    unfold jT at hm
    refine aJ (aK (aZ a2 (aZ k (aC (cK rfl rfl) (aH ?_)))))
    rcases aM hm with ⟨b6,hm⟩|⟨b6,hm⟩
    ·refine aU b6 rfl (bA (aD (aJ (bT (aJ (iN (C:=fun w'=>aF G K (aP 2 K b a.length j::L) w') Tryz_mixed (by kernel_rfl) (aF.mono c (eP.drew _)) (bU (fun _ c=>bM (v:=zS a1 d.length c2) rfl) (bU (fun _ c=>bM a2) ?_))))))));obtain ⟨f0,b7,hm⟩:=aB hm
     refine bU (fun _ c=>dQ fZ rfl p rfl rfl rfl b7) ?_;obtain ⟨f1,d4,d5⟩:=bK.el (sz:=1) rfl p b7
     cases d5
     refine bU (fun _ c=>cD (t:=0) kQ c d4 rfl rfl) (bU (fun _ c=>bM (v:=zS a1 d.length c2) rfl) (bU (fun _ c=>bM k) ?_));obtain ⟨f2,b8,hm⟩:=aB hm
     refine bU (fun _ c=>dQ fZ rfl p rfl rfl rfl b8) ?_;obtain ⟨f3,d6,d7⟩:=bK.el (sz:=1) rfl p b8
     cases d7
     refine bU (fun _ c=>cD (t:=0) kQ c d6 rfl rfl) (bU (fun _ c=>jA rfl rfl) (pU (fun f4 f5=>(aD ?_))))
     rcases aM hm with ⟨b9,hm⟩|⟨b9,hm⟩
     ·refine aU b9 rfl (aK (aZ a2 (aG (v:=i64 a0) (aH (tP (aNx rfl (gF (gF ?_))))))))
      have f6:=hr _ (zI hm).symm
      exact aL
     ·exact aL
    ·exact aL
  ·exact aL
end Gv
namespace Gv
open Gv.Hp renaming le_refl→zR
open Go.Value renaming slice→zS,bool→zB,pointer→zP,agg→zA
open Option.some renaming inj→zI
open Gv.Hp renaming le_trans→zL
open Go Go.Proofs Go.Proofs.Tryz
set_option maxRecDepth 20000
set_option maxHeartbeats 40000000
variable {G:nX} {K:Hp} {L:List fJ} {w:World} {a1 a4 a7 a10 a13 a2 a16:Option Addr} {c2 c5 c8 c11 c14 b1 c3 c17:Nat}
theorem xE {s_:bE} {R:((List Int) × Int)} (hm:mC s_=some R) (hs:aF G K (L) w) (h3:bK K a1 c2 s_.Definitions) (h6:bK K a4 c5 s_.Components) (h9:bK K a7 c8 s_.Meetings) (c0:bK K a10 c11 s_.Allowed) (c1:bK K a13 c14 s_.Hidden):
  Calls prog 5 ([zA #[zS a1 s_.Definitions.length c2,zS a4 s_.Components.length c5,zS a7 s_.Meetings.length c8,zS a10 s_.Allowed.length c11,zS a13 s_.Hidden.length c14]]:List Value).toArray w (dD fun v w'=>∃ c3 c4,v=Value.tuple #[zS c3 R.1.length c4,i64 R.2]/\aF G K (aP 2 K c3 c4 R.1::L) w'):=by
 refine aN func5 rfl (by kernel_rfl) (by show (1:Nat)<=54;decide) ?_;unfold mC at hm
 refine aK (fO (v:=zA #[zS a1 s_.Definitions.length c2,zS a4 s_.Components.length c5,zS a7 s_.Meetings.length c8,zS a10 s_.Allowed.length c11,zS a13 s_.Hidden.length c14]) (vs:=[zS a1 s_.Definitions.length c2,zS a4 s_.Components.length c5,zS a7 s_.Meetings.length c8,zS a10 s_.Allowed.length c11,zS a13 s_.Hidden.length c14]) hs rfl rfl (fun c6 l9 f1=>(aG (v:=zS none 0 0) (aG (v:=i64 0) (aH (aJ (aK ?_)))))))
 obtain ⟨m0,o,f2,f3,f4⟩:=aF.lendBp f1 .head
 obtain ⟨m1,f5,hm⟩:=aB hm
 refine aT (vs:=[dS (some ⟨c6,0,none⟩) 0]) call17 rfl (aMQ f5 f3 f2 (h3.mono o) (h6.mono o) (h9.mono o) (c0.mono o) (c1.mono o)) ?_
 rintro _ f6 ⟨rfl,f7⟩
 have f8:=f4 _ _ f7
 refine aC (tC rfl) (aH ?_)
 rcases aM hm with ⟨c7,hm⟩|⟨c7,hm⟩
 ·exact aL
 ·refine aR c7 rfl (bA (aD (aK ?_)));obtain ⟨f9,g,g0,a9,_⟩:=aF.lendBp f8 .head
  replace a9:aF G f9 (L) f6:=a9
  obtain ⟨a,g1,hm⟩:=aB hm
  refine aT (vs:=[dS (some ⟨c6,0,none⟩) 0]) call18 (lst1 (elp_b rfl)) (aGD g1 a9 g0 (h3.mono g) (h6.mono g) (h9.mono g) (c0.mono g) (c1.mono g)) ?_
  rintro _ m2 ⟨c9,b,c,d,e,k,c45,rfl,d0,g2⟩
  refine aI (v:=Value.tuple #[zA (zCa a.1 b c d e),zS k a.2.1.length c45,zB a.2.2]) (aC (bP rfl rfl) (aC (bP rfl rfl) (aC (bP rfl rfl) (cN (vs:=zG) zeroValue51 g2 rfl (fun b0 m3 g3=>(dT (i:=0) (ns:=(zC a.1 b c d e)) (us:=(zC a.1 b c d e)) sizeOf51 g3 rfl rfl rfl rfl rfl (fW rfl) rfl rfl (fun d1 (g4:aF G c9 (box b0 51 (zC a.1 b c d e)::aP 9 K b c a.1.L::aP 92 K d e a.1.E::aP 56 c9 k c45 a.2.1::L) d1)=>(aG (v:=zS k a.2.1.length c45) ?_))))))))
  obtain ⟨y,d2,z,b1⟩:=aF.giveSp g4 (zR _) zt3
  replace b1:aF G y (box b0 51 (zC a.1 b c d e)::aP 9 K b c a.1.L::aP 92 K d e a.1.E::L) d1:=b1
  refine aG (v:=zB a.2.2) (aH (aJ (aK (aI (v:=zB a.2.2) (aC (tC rfl) (aH ?_))))))
  rcases aM hm with ⟨d3,hm⟩|⟨d3,hm⟩
  ·exact aL
  ·refine aR d3 rfl (bA (aD (aK (dU (Kt:=K) (xs:=([]:List Int)) (cs:=[]) (vs:=[]) fZ aIG rfl rfl b1 rfl (by kernel_rfl) rfl rfl rfl trivial (fun d4 g5 (m4:aF G y (aP 2 K d4 0 ([]:List Int)::box b0 51 (zC a.1 b c d e)::aP 9 K b c a.1.L::aP 92 K d e a.1.E::L) g5)=>(aG (v:=zS d4 ([]:List Int).length 0) (aH (aJ (aK (aG (v:=i64 0) (aH (aQ [] (fun f w=>∃ b2 p J V,Hp.le y b2/\mN p=some R/\f 7=zS J p.length V/\aF G b2 (aP 2 K J V p::L) w) ?_ ?_))))))))))))
   ·rintro f m5 ⟨b2,p,J,V,d5,hm,g6,g7⟩
    unfold mN at hm
    refine aD (aK (aZ g6 ?_));obtain ⟨m6,m7,g8,g9,h0⟩:=aF.lendSp g7 (zL (zL (zL g d0) d2) d5) .head
    obtain ⟨h1,h2,hm⟩:=aB hm
    refine aT (vs:=[zS J p.length V]) call21 rfl (aJB h2 g9 g8) ?_
    rintro _ m8 ⟨d6,d7,rfl,h4⟩
    have h5:=h0 _ _ h4
    refine aG (v:=zS d6 h1.length d7) (aG (v:=i64 0) (aH ?_));obtain rfl:=zI hm
    exact aCe (aNy results5 rfl rfl ⟨d6,d7,rfl,(aF.weakK (aF.arr 1 [] h5 rfl) (zL (zL (zL g d0) d2) d5))⟩)
   obtain ⟨m9,h8,ho⟩:=aB hm
   refine cA [5] h8 (fun l h f w=>∃ m q r,Hp.le y m/\f 7=zS q l.length r/\f 8=i64 h/\aF G m (aP 2 K q r l::L) w) aL ?_
   ·rintro l h d8 f n0 hm hr ⟨m,q,r,j,i0,u,n1⟩
    unfold fA at hm
    refine aJ (aK (aZ u (aI (v:=zS k a.2.1.length c45) (aC (bD (len:=a.2.1.length) qV rfl) (aC (cK rfl rfl) (aH ?_))))))
    rcases aM hm with ⟨d9,hm⟩|⟨d9,hm⟩
    ·refine aU d9 rfl (bA (aD (aJ (aQ [5,8] (fun f w=>∃ a0 a2 a3 a5,Hp.le m a0/\mO h a2=some d8/\f 7=zS a3 a2.length a5/\aF G a0 (aP 2 K a3 a5 a2::L) w) ?_ ?_))))
     ·rintro f n2 ⟨a0,a2,a3,a5,i1,hm,i2,i3⟩
      unfold mO at hm
      exact aD (aX (aZ u (aC (cP rfl rfl) (aG (v:=i64 (wr (h+1))) (aH ⟨_,(zI hm).symm,bZ,a0,a3,a5,(zL j i1),i2,rfl,i3⟩)))))
     refine aK (aZ u (aG (v:=i64 h) (aH (aJ (aK (aG (v:=i64 0) (aH (aQ [5,7,8] (fun f w=>∃ e0 e1,Hp.le m e0/\rN l h e1=some d8/\f 9=i64 e1/\aF G e0 (aP 2 K q r l::L) w) aL ?_))))))));obtain ⟨n3,i4,ho⟩:=aB hm
     refine cE [5,7,8] i4 (fun e2 f w=>∃ a6,Hp.le m a6/\f 9=i64 h/\f 10=i64 e2/\aF G a6 (aP 2 K q r l::L) w) aL ?_
     ·rintro e2 n4 f n5 hm hr ⟨a6,n,n6,b3,e3⟩
      unfold gG at hm
      refine aJ (aK (aZ b3 (aZ u (aC (cK rfl rfl) (aH ?_)))))
      rcases aM hm with ⟨e4,hm⟩|⟨e4,hm⟩
      ·refine aU e4 rfl (bA (aD (aJ (bT (aJ (iC (C:=fun w'=>∃ L',aF G a6 L' w') [(0,0),(1,0),(2,0),(3,0),(5,0),(6,0),(7,0),(8,0),(4,1),(9,1),(10,1)] Tryz_mixed (by kernel_rfl) (fun _ hg=>⟨_,aF.mono e3 hg⟩) (fun n7 i5=>?_)))))))
       have x:=aF.mono e3 i5
       refine bW rfl (fun _ _=>bM (v:=zS k a.2.1.length c45) rfl) (bW rfl (fun _ _=>bM u) ?_);obtain ⟨i6,e5,hm⟩:=aB hm
       refine bW rfl (fun _ _=>dQ qV rfl (z.mono (zL j n)) rfl rfl rfl e5) ?_;obtain ⟨n8,i7,i8⟩:=bK.el (sz:=1) rfl z e5
       obtain ⟨i9,j0,rfl,j1⟩:=i8
       refine bW rfl (fun _ ⟨_,x⟩=>cD (t:=0) aHT x (i7.mono (zL j n)) rfl rfl) (bW rfl (fun _ _=>bM (v:=zS k a.2.1.length c45) rfl) (bW rfl (fun _ _=>bM b3) ?_));obtain ⟨j2,e6,hm⟩:=aB hm
       refine bW rfl (fun _ _=>dQ qV rfl (z.mono (zL j n)) rfl rfl rfl e6) ?_;obtain ⟨n9,j3,j4⟩:=bK.el (sz:=1) rfl z e6
       obtain ⟨j5,j6,rfl,j7⟩:=j4
       refine bW rfl (fun _ ⟨_,x⟩=>cD (t:=0) aHT x (j3.mono (zL j n)) rfl rfl) (nT rfl ?_);obtain ⟨j8,j9,hm⟩:=aB hm
       refine aT (vs:=[zS i9 i6.length j0]) call20 rfl (aEQ j9 x (j1.mono (zL j n))) ?_
       rintro _ o0 ⟨o1,k0,k1,rfl,a8,e7⟩
       refine bN (aD ⟨⟨_,(aF.weakK e7 a8)⟩,?_⟩)
       refine nT rfl ?_;obtain ⟨k2,k3,hm⟩:=aB hm
       refine aT (vs:=[zS j5 j2.length j6]) call20 rfl (aEQ k3 e7 (j7.mono (zL (zL j n) a8))) ?_
       rintro _ o2 ⟨o3,k4,k5,rfl,b4,e8⟩
       refine bN (aD ⟨⟨_,(aF.weakK e8 (zL a8 b4))⟩,?_⟩)
       refine nT rfl ?_;obtain ⟨o4,k6,k7,k8,k9⟩:=aF.lendSp e8 b4 zt1
       obtain ⟨o5,l0,l1,l2,l3⟩:=aF.lendSp k8 k6 .head
       obtain ⟨o6,l4,hm⟩:=aB hm
       refine aT (vs:=[zS k0 j8.length k1,zS k4 k2.length k5]) call19 rfl (aEN l4 l2 (k7.mono l0) l1) ?_
       rintro _ o7 ⟨rfl,l5⟩
       have l6:=l3 _ _ l5
       have b5:=k9 _ _ l6
       refine bN (aD ⟨⟨_,(aF.weakK b5 (zL a8 b4))⟩,?_⟩)
       refine aCP (aD ?_)
       rcases aM hm with ⟨e9,hm⟩|⟨e9,hm⟩
       ·refine aU e9 rfl (aK (aZ i0 (aZ b3 ?_)));obtain ⟨l7,b6,hm⟩:=aB hm
        have l8:=cR b5 (i:=2) rfl b6
        refine aC (dH fZ rfl l8 rfl rfl rfl b6) (aC (aEm (t:=0) kQ b5 (i:=2) rfl b6 rfl rfl rfl) (aG (v:=i64 l7) (aH (tP (aNx rfl (gF (gF ?_)))))))
        have o8:=hr _ (zI hm).symm
        exact aL
       ·exact aL
      ·exact aL
    ·exact aL
theorem aKY {a R:aW} (hm:aQf a=some R) (b:aF G K (L) w):
  Calls prog 244 ([zA #[i64 a.Kind,i64 a.Value]]:List Value).toArray w (dD fun v w'=>v=zA #[i64 R.Kind,i64 R.Value]/\aF G K (L) w'):=by
 exact aL
theorem aJC {a R:(List aW)} (hm:aKj a=some R) (r:aF G K (L) w) (u:bK K a1 c2 a):
  Calls prog 208 ([zS a1 a.length c2]:List Value).toArray w (dD fun v w'=>∃ l m,v=zS l R.length m/\aF G K (aP 275 K l m R::L) w'):=by
 refine aBe func208 ?_;unfold aKj at hm
 refine tD ?_;obtain ⟨b,x,hm⟩:=aB hm
 refine aLZ (e:=(⟨0,0⟩:aW)) vV ez_275 rfl rfl r rfl rfl rfl x rfl (fun c y (b0:aF G K (aP 275 K c b.length b::L) y)=>(tD ?_));refine aQ [] (fun f w=>∃ g,aMG g=some R/\f 3=zS c g.length b.length/\aF G K (aP 275 K c b.length g::L) w) aL ?_
 obtain ⟨b1,z,ho⟩:=aB hm
 refine cA [0] z (fun j o f w=>f 3=zS c j.length b.length/\f 4=i64 o/\aF G K (aP 275 K c b.length j::L) w) aL ?_
 ·rintro j o b2 f b3 hm hr ⟨J,b4,V⟩
  unfold aAE at hm
  refine tD ?_
  rcases aM hm with ⟨a0,hm⟩|⟨a0,hm⟩
  ·refine tD ?_;refine bT (tD ?_)
   obtain ⟨b5,a2,hm⟩:=aB hm
   refine tD ?_;obtain ⟨b6,b7,a3⟩:=bK.el (sz:=2) rfl u a2
   cases a3
   refine tD ?_;obtain ⟨d,a4,hm⟩:=aB hm
   refine aCO call244 (aKY a4 V) ?_
   rintro _ b8 ⟨rfl,p⟩
   obtain ⟨b9,k,hm⟩:=aB hm
   have a5:=cR p (i:=0) rfl k
   refine aC (dH vV rfl a5 rfl rfl rfl k) ?_;obtain ⟨a7,q,hm⟩:=aB hm
   refine lW (i:=0) (t:=0) (ns:=[i64 d.Kind,i64 d.Value]) (e':=(⟨d.Kind,d.Value⟩:aW)) sizeOf275 p rfl (zR _) rfl rfl rfl k q rfl rfl (fW rfl) rfl (fun cs h=>by cases h;rfl) (fun a8 (a9:aF G K (aP 275 K c b.length a7::L) a8)=>(tD ?_));exact ⟨_,(zI hm).symm,bZ,(Eq.trans J (congrArg (fun n=>zS c n b.length) (bS q))),rfl,a9⟩
  ·exact aL
theorem aPe {a R:(List (List aW))} (hm:aHr a=some R) (z:aF G K (L) w) (J:bK K a1 c2 a):
  Calls prog 155 ([zS a1 a.length c2]:List Value).toArray w (dD fun v w'=>∃ q r m,v=zS q R.length r/\List.length m=List.length R/\aF G K (aP 225 K q r (aV m R)::rows [275] m R::L) w'):=by
 refine aBe func155 ?_;unfold aHr at hm
 refine tD ?_;obtain ⟨b,t,hm⟩:=aB hm
 refine aSN (tys:=[275]) (hd:=((none,0):Dp.Hd (List aW))) aAd ez_225 rfl rfl z rfl rfl rfl t rfl (pcs_nil _) ?_
 intro d V (a0:aF G K (aP 225 K d b.length (aV (List.replicate (a.length:Int).toNat ((none,0):Dp.Hd (List aW))) b)::rows [275] (List.replicate (a.length:Int).toNat ((none,0):Dp.Hd (List aW))) b::L) V)
 refine tD ?_;refine aQ [] (fun f w=>∃ e o,aKO e=some R/\f 3=zS d e.length b.length/\List.length o=List.length e/\aF G K (aP 225 K d b.length (aV o e)::rows [275] o e::L) w) aL ?_
 obtain ⟨b5,a2,ho⟩:=aB hm
 refine cA [0] a2 (fun g i32 f w=>∃ c,f 3=zS d g.length b.length/\f 4=i64 i32/\List.length c=List.length g/\aF G K (aP 225 K d b.length (aV c g)::rows [275] c g::L) w) ?_ ?_
 ·exact ⟨(List.replicate (a.length:Int).toNat ((none,0):Dp.Hd (List aW))),rfl,rfl,(aGj (hd:=((none,0):Dp.Hd (List aW))) t).2.1,a0⟩
 ·rintro g i32 b6 f b7 hm hr ⟨c,a3,b8,k,a4⟩
  unfold wS at hm
  refine tD ?_
  rcases aM hm with ⟨a5,hm⟩|⟨a5,hm⟩
  ·refine tD ?_;refine bT (tD ?_)
   obtain ⟨b9,a7,hm⟩:=aB hm
   refine tD ?_;obtain ⟨c0,c1,a8⟩:=bK.el (sz:=1) rfl J a7
   obtain ⟨c3,c4,rfl,a9⟩:=a8
   refine tD ?_;obtain ⟨b0,b1,hm⟩:=aB hm
   refine aCO call208 (aJC b1 a4 a9) ?_
   rintro _ c5 ⟨h,j,rfl,u⟩
   obtain ⟨c6,l,hm⟩:=aB hm
   obtain ⟨⟨c7,c8⟩,x⟩:=aFU k l
   have b2:=cR u (i:=1) rfl (nG k l x)
   refine aC (dH aAd rfl b2 rfl rfl rfl l) ?_;obtain ⟨y,p,hm⟩:=aB hm
   refine aNA (i:=0) (tys:=[275]) (hd':=(h,j)) (e':=b0) (hds:=c) sizeOf225 u k rfl rfl rfl rfl rfl l x p rfl ?_
   intro b3 (b4:aF G K (aP 225 K d b.length (aV (List.set c i32.toNat (h,j)) y)::rows [275] (List.set c i32.toNat (h,j)) y::L) b3)
   refine tD ?_;exact ⟨_,(zI hm).symm,bZ,(List.set c i32.toNat (h,j)),(Eq.trans a3 (congrArg (fun n=>zS d n b.length) (bS p))),rfl,(aDr (hd:=((h,j):Dp.Hd (List aW))) k p),b4⟩
  ·exact aL
theorem aKZ {a R:Part} (hm:aQg a=some R) (e:aF G K (L) w) (g:bK K a1 c2 a.Arguments):
  Calls prog 110 ([zA #[i64 a.Kind,i64 a.Number,str a.Name,zS a1 a.Arguments.length c2]]:List Value).toArray w (dD fun v w'=>∃ c d b,v=zA #[i64 R.Kind,i64 R.Number,str R.Name,zS c R.Arguments.length d]/\List.length b=List.length R.Arguments/\aF G K (aP 225 K c d (aV b R.Arguments)::rows [275] b R.Arguments::L) w'):=by
 exact aL
theorem aQs {a R:(List Part)} (hm:aKk a=some R) (hs:aF G K (L) w) (h3:bK K a1 c2 a):
  Calls prog 77 ([zS a1 a.length c2]:List Value).toArray w (dD fun v w'=>∃ t u p,v=zS t R.length u/\List.length p=List.length R/\aF G K (aP 159 K t u (aV p R)::rows [225,275] p R::L) w'):=by
 refine aBe func77 ?_;unfold aKk at hm
 refine tD ?_;obtain ⟨c,x,hm⟩:=aB hm
 refine aSN (tys:=[225,275]) (hd:=(((none,0),[]):Dp.Hd Part)) yP ez_159 rfl rfl hs rfl rfl rfl x rfl (aST _) ?_
 intro d w7 (a4:aF G K (aP 159 K d c.length (aV (List.replicate (a.length:Int).toNat (((none,0),[]):Dp.Hd Part)) c)::rows [225,275] (List.replicate (a.length:Int).toNat (((none,0),[]):Dp.Hd Part)) c::L) w7)
 refine tD ?_;refine aQ [] (fun f w=>∃ k q,aMH k=some R/\f 3=zS d k.length c.length/\List.length q=List.length k/\aF G K (aP 159 K d c.length (aV q k)::rows [225,275] q k::L) w) aL ?_
 obtain ⟨c0,a5,ho⟩:=aB hm
 refine cA [0] a5 (fun e i32 f w=>∃ b,f 3=zS d e.length c.length/\f 4=i64 i32/\List.length b=List.length e/\aF G K (aP 159 K d c.length (aV b e)::rows [225,275] b e::L) w) ?_ ?_
 ·exact ⟨(List.replicate (a.length:Int).toNat (((none,0),[]):Dp.Hd Part)),rfl,rfl,(aGj (hd:=(((none,0),[]):Dp.Hd Part)) x).2.1,a4⟩
 ·rintro e i32 c1 f c3 hm hr ⟨b,a7,c4,m,a8⟩
  unfold aAF at hm
  refine tD ?_
  rcases aM hm with ⟨a9,hm⟩|⟨a9,hm⟩
  ·refine tD ?_;refine bT (tD ?_)
   obtain ⟨c5,b0,hm⟩:=aB hm
   refine tD ?_;obtain ⟨c6,c7,b1⟩:=bK.el (sz:=4) rfl h3 b0
   obtain ⟨c8,c9,rfl,b2⟩:=b1
   refine tD ?_;obtain ⟨l,b3,hm⟩:=aB hm
   refine aCO call110 (aKZ b3 a8 b2) ?_
   rintro _ y ⟨h,j,g,rfl,b4,z⟩
   obtain ⟨d0,o,hm⟩:=aB hm
   obtain ⟨⟨⟨d1,d2⟩,d3⟩,J⟩:=aFU m o
   have b5:=cR z (i:=2) rfl (nG m o J)
   refine aC (dH yP rfl b5 rfl rfl rfl o) ?_
   have b6:aF G K (aP 225 K h j (aV g l.Arguments)::rows [275] g l.Arguments::aP 159 K d c.length (aV b e)::rows [225,275] b e::L) y:=z
   have b7:aF G K (aP 225 K h j (aV g l.Arguments)::aFo [275] g l.Arguments::aP 159 K d c.length (aV b e)::rows [225,275] b e::L) y:=aF.closeL (i:=1) b6 rfl b4
   obtain ⟨V,r,hm⟩:=aB hm
   refine aNA (i:=0) (tys:=[225,275]) (hd':=(((h,j),g):Dp.Hd Part)) (e':=(l:Part)) (hds:=b) sizeOf159 b7 m rfl rfl rfl rfl rfl o J r rfl ?_
   intro b8 (b9:aF G K (aP 159 K d c.length (aV (List.set b i32.toNat ((h,j),g)) V)::rows [225,275] (List.set b i32.toNat ((h,j),g)) V::L) b8)
   refine tD ?_;exact ⟨_,(zI hm).symm,bZ,(List.set b i32.toNat ((h,j),g)),(Eq.trans a7 (congrArg (fun n=>zS d n c.length) (bS r))),rfl,(aDr (hd:=(((h,j),g):Dp.Hd Part)) m r),b9⟩
  ·exact aL
theorem aDi {a R:Definition} (hm:aEI a=some R) (e:aF G K (L) w) (g:bK K a1 c2 a.Body):
  Calls prog 49 ([zA #[str a.Name,i64 a.Parameters,zS a1 a.Body.length c2]]:List Value).toArray w (dD fun v w'=>∃ c d b,v=zA #[str R.Name,i64 R.Parameters,zS c R.Body.length d]/\List.length b=List.length R.Body/\aF G K (aP 159 K c d (aV b R.Body)::rows [225,275] b R.Body::L) w'):=by
 exact aL
theorem aCC {a R:(List Definition)} (hm:xW a=some R) (hs:aF G K (L) w) (h3:bK K a1 c2 a):
  Calls prog 22 ([zS a1 a.length c2]:List Value).toArray w (dD fun v w'=>∃ t u p,v=zS t R.length u/\List.length p=List.length R/\aF G K (aP 101 K t u (aV p R)::rows [159,225,275] p R::L) w'):=by
 refine aBe func22 ?_;unfold xW at hm
 refine tD ?_;obtain ⟨c,x,hm⟩:=aB hm
 refine aSN (tys:=[159,225,275]) (hd:=(((none,0),[]):Dp.Hd Definition)) yQ ez_101 rfl rfl hs rfl rfl rfl x rfl (aLn _) ?_
 intro d w7 (a4:aF G K (aP 101 K d c.length (aV (List.replicate (a.length:Int).toNat (((none,0),[]):Dp.Hd Definition)) c)::rows [159,225,275] (List.replicate (a.length:Int).toNat (((none,0),[]):Dp.Hd Definition)) c::L) w7)
 refine tD ?_;refine aQ [] (fun f w=>∃ k q,aEJ k=some R/\f 3=zS d k.length c.length/\List.length q=List.length k/\aF G K (aP 101 K d c.length (aV q k)::rows [159,225,275] q k::L) w) aL ?_
 obtain ⟨c0,a5,ho⟩:=aB hm
 refine cA [0] a5 (fun e i32 f w=>∃ b,f 3=zS d e.length c.length/\f 4=i64 i32/\List.length b=List.length e/\aF G K (aP 101 K d c.length (aV b e)::rows [159,225,275] b e::L) w) ?_ ?_
 ·exact ⟨(List.replicate (a.length:Int).toNat (((none,0),[]):Dp.Hd Definition)),rfl,rfl,(aGj (hd:=(((none,0),[]):Dp.Hd Definition)) x).2.1,a4⟩
 ·rintro e i32 c1 f c3 hm hr ⟨b,a7,c4,m,a8⟩
  unfold nM at hm
  refine tD ?_
  rcases aM hm with ⟨a9,hm⟩|⟨a9,hm⟩
  ·refine tD ?_;refine bT (tD ?_)
   obtain ⟨c5,b0,hm⟩:=aB hm
   refine tD ?_;obtain ⟨c6,c7,b1⟩:=bK.el (sz:=3) rfl h3 b0
   obtain ⟨c8,c9,rfl,b2⟩:=b1
   refine tD ?_;obtain ⟨l,b3,hm⟩:=aB hm
   refine aCO call49 (aDi b3 a8 b2) ?_
   rintro _ y ⟨h,j,g,rfl,b4,z⟩
   obtain ⟨d0,o,hm⟩:=aB hm
   obtain ⟨⟨⟨d1,d2⟩,d3⟩,J⟩:=aFU m o
   have b5:=cR z (i:=2) rfl (nG m o J)
   refine aC (dH yQ rfl b5 rfl rfl rfl o) ?_
   have b6:aF G K (aP 159 K h j (aV g l.Body)::rows [225,275] g l.Body::aP 101 K d c.length (aV b e)::rows [159,225,275] b e::L) y:=z
   have b7:aF G K (aP 159 K h j (aV g l.Body)::aFo [225,275] g l.Body::aP 101 K d c.length (aV b e)::rows [159,225,275] b e::L) y:=aF.closeL (i:=1) b6 rfl b4
   obtain ⟨V,r,hm⟩:=aB hm
   refine aNA (i:=0) (tys:=[159,225,275]) (hd':=(((h,j),g):Dp.Hd Definition)) (e':=(l:Definition)) (hds:=b) sizeOf101 b7 m rfl rfl rfl rfl rfl o J r rfl ?_
   intro b8 (b9:aF G K (aP 101 K d c.length (aV (List.set b i32.toNat ((h,j),g)) V)::rows [159,225,275] (List.set b i32.toNat ((h,j),g)) V::L) b8)
   refine tD ?_;exact ⟨_,(zI hm).symm,bZ,(List.set b i32.toNat ((h,j),g)),(Eq.trans a7 (congrArg (fun n=>zS d n c.length) (bS r))),rfl,(aDr (hd:=(((h,j),g):Dp.Hd Definition)) m r),b9⟩
  ·exact aL
theorem aPf {a R:(List Int)} (hm:aHs a=some R) (r:aF G K (L) w) (u:bK K a1 c2 a):
  Calls prog 78 ([zS a1 a.length c2]:List Value).toArray w (dD fun v w'=>∃ k l,v=zS k R.length l/\aF G K (aP 2 K k l R::L) w'):=by
 refine aBe func78 ?_;unfold aHs at hm
 refine tD ?_;obtain ⟨b,x,hm⟩:=aB hm
 refine aLZ (e:=(0:Int)) fZ aIG rfl rfl r rfl rfl rfl x rfl (fun c y (a8:aF G K (aP 2 K c b.length b::L) y)=>(tD ?_));refine aQ [] (fun f w=>∃ d,aKP d=some R/\f 3=zS c d.length b.length/\aF G K (aP 2 K c b.length d::L) w) aL ?_
 obtain ⟨a9,z,ho⟩:=aB hm
 refine cA [0] z (fun g m f w=>f 3=zS c g.length b.length/\f 4=i64 m/\aF G K (aP 2 K c b.length g::L) w) aL ?_
 ·rintro g m b0 f b1 hm hr ⟨J,b2,o⟩
  unfold wT at hm
  refine tD ?_
  rcases aM hm with ⟨V,hm⟩|⟨V,hm⟩
  ·refine tD ?_;refine bT (tD ?_)
   obtain ⟨p,a0,hm⟩:=aB hm
   refine tD ?_;obtain ⟨b3,b4,a2⟩:=bK.el (sz:=1) rfl u a0
   cases a2
   refine tD ?_;obtain ⟨b5,j,hm⟩:=aB hm
   have a3:=cR o (i:=0) rfl j
   refine aC (dH fZ rfl a3 rfl rfl rfl j) ?_;obtain ⟨a4,q,hm⟩:=aB hm
   refine lW (i:=0) (t:=0) (ns:=[i64 p]) (e':=(p:Int)) sizeOf2 o rfl (zR _) rfl rfl rfl j q rfl rfl (fW rfl) rfl (fun cs h=>by cases h;rfl) (fun a5 (a7:aF G K (aP 2 K c b.length a4::L) a5)=>(tD ?_));exact ⟨_,(zI hm).symm,bZ,(Eq.trans J (congrArg (fun n=>zS c n b.length) (bS q))),rfl,a7⟩
  ·exact aL
theorem aER {a R:aY} (hm:aGb a=some R) (d:aF G K (L) w) (e:bK K a1 c2 a.Values):
  Calls prog 50 ([zA #[i64 a.Definition,zS a1 a.Values.length c2]]:List Value).toArray w (dD fun v w'=>∃ b c,v=zA #[i64 R.Definition,zS b R.Values.length c]/\aF G K (aP 2 K b c R.Values::L) w'):=by
 exact aL
theorem aDj {a R:(List aY)} (hm:aAG a=some R) (J:aF G K (L) w) (V:bK K a1 c2 a):
  Calls prog 23 ([zS a1 a.length c2]:List Value).toArray w (dD fun v w'=>∃ q r m,v=zS q R.length r/\List.length m=List.length R/\aF G K (aP 103 K q r (aV m R)::rows [2] m R::L) w'):=by
 refine aBe func23 ?_;unfold aAG at hm
 refine tD ?_;obtain ⟨b,t,hm⟩:=aB hm
 refine aSN (tys:=[2]) (hd:=((none,0):Dp.Hd aY)) aCj ez_103 rfl rfl J rfl rfl rfl t rfl (aMd _) ?_
 intro d w7 (a2:aF G K (aP 103 K d b.length (aV (List.replicate (a.length:Int).toNat ((none,0):Dp.Hd aY)) b)::rows [2] (List.replicate (a.length:Int).toNat ((none,0):Dp.Hd aY)) b::L) w7)
 refine tD ?_;refine aQ [] (fun f w=>∃ j o,aFA j=some R/\f 3=zS d j.length b.length/\List.length o=List.length j/\aF G K (aP 103 K d b.length (aV o j)::rows [2] o j::L) w) aL ?_
 obtain ⟨b7,a3,ho⟩:=aB hm
 refine cA [0] a3 (fun e i32 f w=>∃ c,f 3=zS d e.length b.length/\f 4=i64 i32/\List.length c=List.length e/\aF G K (aP 103 K d b.length (aV c e)::rows [2] c e::L) w) ?_ ?_
 ·exact ⟨(List.replicate (a.length:Int).toNat ((none,0):Dp.Hd aY)),rfl,rfl,(aGj (hd:=((none,0):Dp.Hd aY)) t).2.1,a2⟩
 ·rintro e i32 b8 f b9 hm hr ⟨c,a4,c0,k,a5⟩
  unfold oO at hm
  refine tD ?_
  rcases aM hm with ⟨a7,hm⟩|⟨a7,hm⟩
  ·refine tD ?_;refine bT (tD ?_)
   obtain ⟨c1,a8,hm⟩:=aB hm
   refine tD ?_;obtain ⟨c3,c4,a9⟩:=bK.el (sz:=2) rfl V a8
   obtain ⟨c5,c6,rfl,b0⟩:=a9
   refine tD ?_;obtain ⟨u,b1,hm⟩:=aB hm
   refine aCO call50 (aER b1 a5 b0) ?_
   rintro _ b2 ⟨g,h,rfl,x⟩
   obtain ⟨c7,l,hm⟩:=aB hm
   obtain ⟨⟨c8,c9⟩,y⟩:=aFU k l
   have b3:=cR x (i:=1) rfl (nG k l y)
   refine aC (dH aCj rfl b3 rfl rfl rfl l) ?_
   have b4:aF G K (aP 2 K g h u.Values::aP 103 K d b.length (aV c e)::rows [2] c e::L) b2:=x
   obtain ⟨z,p,hm⟩:=aB hm
   refine aNA (i:=0) (tys:=[2]) (hd':=((g,h):Dp.Hd aY)) (e':=(u:aY)) (hds:=c) sizeOf103 b4 k rfl rfl rfl rfl rfl l y p rfl ?_
   intro b5 (b6:aF G K (aP 103 K d b.length (aV (List.set c i32.toNat (g,h)) z)::rows [2] (List.set c i32.toNat (g,h)) z::L) b5)
   refine tD ?_;exact ⟨_,(zI hm).symm,bZ,(List.set c i32.toNat (g,h)),(Eq.trans a4 (congrArg (fun n=>zS d n b.length) (bS p))),rfl,(aDr (hd:=((g,h):Dp.Hd aY)) k p),b6⟩
  ·exact aL
theorem aGE {a R:bB} (hm:aJa a=some R) (b:aF G K (L) w):
  Calls prog 51 ([zA #[str a.Left,str a.Right,str a.Result]]:List Value).toArray w (dD fun v w'=>v=zA #[str R.Left,str R.Right,str R.Result]/\aF G K (L) w'):=by
 exact aL
theorem aFI {a R:(List bB)} (hm:aDQ a=some R) (r:aF G K (L) w) (u:bK K a1 c2 a):
  Calls prog 24 ([zS a1 a.length c2]:List Value).toArray w (dD fun v w'=>∃ l m,v=zS l R.length m/\aF G K (aP 105 K l m R::L) w'):=by
 refine aBe func24 ?_;unfold aDQ at hm
 refine tD ?_;obtain ⟨b,x,hm⟩:=aB hm
 refine aLZ (e:=(⟨[],[],[]⟩:bB)) yR ez_105 rfl rfl r rfl rfl rfl x rfl (fun c y (b0:aF G K (aP 105 K c b.length b::L) y)=>(tD ?_));refine aQ [] (fun f w=>∃ g,aHW g=some R/\f 3=zS c g.length b.length/\aF G K (aP 105 K c b.length g::L) w) aL ?_
 obtain ⟨b1,z,ho⟩:=aB hm
 refine cA [0] z (fun j o f w=>f 3=zS c j.length b.length/\f 4=i64 o/\aF G K (aP 105 K c b.length j::L) w) aL ?_
 ·rintro j o b2 f b3 hm hr ⟨J,b4,V⟩
  unfold sG at hm
  refine tD ?_
  rcases aM hm with ⟨a0,hm⟩|⟨a0,hm⟩
  ·refine tD ?_;refine bT (tD ?_)
   obtain ⟨b5,a2,hm⟩:=aB hm
   refine tD ?_;obtain ⟨b6,b7,a3⟩:=bK.el (sz:=3) rfl u a2
   cases a3
   refine tD ?_;obtain ⟨d,a4,hm⟩:=aB hm
   refine aCO call51 (aGE a4 V) ?_
   rintro _ b8 ⟨rfl,p⟩
   obtain ⟨b9,k,hm⟩:=aB hm
   have a5:=cR p (i:=0) rfl k
   refine aC (dH yR rfl a5 rfl rfl rfl k) ?_;obtain ⟨a7,q,hm⟩:=aB hm
   refine lW (i:=0) (t:=0) (ns:=[str d.Left,str d.Right,str d.Result]) (e':=(⟨d.Left,d.Right,d.Result⟩:bB)) sizeOf105 p rfl (zR _) rfl rfl rfl k q rfl rfl (fW rfl) rfl (fun cs h=>by cases h;rfl) (fun a8 (a9:aF G K (aP 105 K c b.length a7::L) a8)=>(tD ?_));exact ⟨_,(zI hm).symm,bZ,(Eq.trans J (congrArg (fun n=>zS c n b.length) (bS q))),rfl,a9⟩
  ·exact aL
theorem aGF {a R:(List aO)} (hm:zH a=some R) (r:aF G K (L) w) (u:bK K a1 c2 a):
  Calls prog 25 ([zS a1 a.length c2]:List Value).toArray w (dD fun v w'=>∃ k l,v=zS k R.length l/\aF G K (aP 9 K k l R::L) w'):=by
 refine aBe func25 ?_;unfold zH at hm
 refine tD ?_;obtain ⟨b,x,hm⟩:=aB hm
 refine aLZ (e:=([]:aO)) fM aKx rfl rfl r rfl rfl rfl x rfl (fun c y (a8:aF G K (aP 9 K c b.length b::L) y)=>(tD ?_));refine aQ [] (fun f w=>∃ d,aJb d=some R/\f 3=zS c d.length b.length/\aF G K (aP 9 K c b.length d::L) w) aL ?_
 obtain ⟨a9,z,ho⟩:=aB hm
 refine cA [0] z (fun g m f w=>f 3=zS c g.length b.length/\f 4=i64 m/\aF G K (aP 9 K c b.length g::L) w) aL ?_
 ·rintro g m b0 f b1 hm hr ⟨J,b2,o⟩
  unfold aAH at hm
  refine tD ?_
  rcases aM hm with ⟨V,hm⟩|⟨V,hm⟩
  ·refine tD ?_;refine bT (tD ?_)
   obtain ⟨p,a0,hm⟩:=aB hm
   refine tD ?_;obtain ⟨b3,b4,a2⟩:=bK.el (sz:=1) rfl u a0
   cases a2
   refine tD ?_;obtain ⟨b5,j,hm⟩:=aB hm
   have a3:=cR o (i:=0) rfl j
   refine aC (dH fM rfl a3 rfl rfl rfl j) ?_;obtain ⟨a4,q,hm⟩:=aB hm
   refine lW (i:=0) (t:=0) (ns:=[str p]) (e':=(p:aO)) sizeOf9 o rfl (zR _) rfl rfl rfl j q rfl rfl (fW rfl) rfl (fun cs h=>by cases h;rfl) (fun a5 (a7:aF G K (aP 9 K c b.length a4::L) a5)=>(tD ?_));exact ⟨_,(zI hm).symm,bZ,(Eq.trans J (congrArg (fun n=>zS c n b.length) (bS q))),rfl,a7⟩
  ·exact aL
theorem sL {a R:bE} (hm:rO a=some R) (hs:aF G K (L) w) (o:bK K a1 c2 a.Definitions) (p:bK K a4 c5 a.Components) (q:bK K a7 c8 a.Meetings) (r:bK K a10 c11 a.Allowed) (a3:bK K a13 c14 a.Hidden):
  Calls prog 6 ([zA #[zS a1 a.Definitions.length c2,zS a4 a.Components.length c5,zS a7 a.Meetings.length c8,zS a10 a.Allowed.length c11,zS a13 a.Hidden.length c14]]:List Value).toArray w (dD fun v w'=>∃ d e b g h c i j k l m n,v=zA #[zS d R.Definitions.length e,zS g R.Components.length h,zS i R.Meetings.length j,zS k R.Allowed.length l,zS m R.Hidden.length n]/\List.length b=List.length R.Definitions/\List.length c=List.length R.Components/\aF G K (aP 101 K d e (aV b R.Definitions)::rows [159,225,275] b R.Definitions::aP 103 K g h (aV c R.Components)::rows [2] c R.Components::aP 105 K i j R.Meetings::aP 9 K k l R.Allowed::aP 9 K m n R.Hidden::L) w'):=by
 refine aBe func6 ?_;unfold rO at hm
 refine tD ?_;refine aGh fun a5 a6 a8=>?_
 refine aGf fun a9 b0 b1=>?_;refine tD ?_
 refine aGf fun b2 b3 t=>?_;refine tD ?_
 obtain ⟨b4,u,hm⟩:=aB hm
 refine aCO call22 (aCC u t o) ?_
 rintro _ b5 ⟨b6,b7,b8,rfl,b9,c0⟩
 refine tD ?_;refine aFe fun c1 x=>?_
 refine tD ?_;obtain ⟨c3,y,hm⟩:=aB hm
 refine aCO call23 (aDj y x p) ?_
 rintro _ c4 ⟨c6,c7,c9,rfl,d0,d1⟩
 refine tD ?_;refine aFe fun d2 z=>?_
 refine tD ?_;obtain ⟨d3,J,hm⟩:=aB hm
 refine aCO call24 (aFI J z q) ?_
 rintro _ d4 ⟨d5,c48,rfl,d6⟩
 refine tD ?_;refine aFe fun d7 V=>?_
 refine tD ?_;obtain ⟨d8,a0,hm⟩:=aB hm
 exact aCO call25 (aGF a0 V r) aL
theorem aAX {d:Definition} {R:Bool} (hm:aAI d=some R) (a:aF G K (L) w) (b:bK K a1 c2 d.Body):
  Calls prog 210 ([zA #[str d.Name,i64 d.Parameters,zS a1 d.Body.length c2]]:List Value).toArray w (dD fun v w'=>v=zB R/\aF G K (L) w'):=by
 exact aL
theorem kY {s_:(List Definition)} {R:Int} (hm:dF s_=some R) (n:aF G K (L) w) (e:bK K a1 c2 s_):
  Calls prog 212 ([zS a1 s_.length c2,Value.func (.func 210) #[] #[]]:List Value).toArray w (dD fun v w'=>v=i64 R/\aF G K (L) w'):=by
 refine aBe func212 ?_;unfold dF at hm
 refine tD ?_;refine aQ [] (fun f w=>gA=some R/\aF G K (L) w) aL ?_
 obtain ⟨o,g,ho⟩:=aB hm
 refine cE [0,1,7] g (fun b f w=>f 8=i64 b/\aF G K (L) w) aL ?_
 ·rintro b p f q hm hr ⟨r,h⟩
  unfold cH at hm
  refine tD ?_
  rcases aM hm with ⟨i,hm⟩|⟨i,hm⟩
  ·refine tD ?_;refine bT (tD ?_)
   obtain ⟨a,j,hm⟩:=aB hm
   refine tD ?_;obtain ⟨t,u,k⟩:=bK.el (sz:=3) rfl e j
   obtain ⟨c,d,rfl,l⟩:=k
   refine tD ?_;obtain ⟨x,m,hm⟩:=aB hm
   exact pT (vs:=[zA #[str a.Name,i64 a.Parameters,zS c a.Body.length d]]) (caps:=[]) (us:=[zA #[str a.Name,i64 a.Parameters,zS c a.Body.length d]]) rfl call210 rfl rfl (aAX m h l) aL
  ·exact aL
theorem kC {s_:(List Definition)} {R:Bool} (hm:cZ s_=some R) (a:aF G K (L) w) (b:bK K a1 c2 s_):
  Calls prog 209 ([zS a1 s_.length c2,Value.func (.func 210) #[] #[]]:List Value).toArray w (dD fun v w'=>v=zB R/\aF G K (L) w'):=by
 exact aL
theorem aKA {a:(List Definition)} {R:Bool} (hm:aAJ a=some R) (b:aF G K (L) w) (c:bK K a1 c2 a):
  Calls prog 156 ([zS a1 a.length c2]:List Value).toArray w (dD fun v w'=>v=zB R/\aF G K (L) w'):=by
 exact aL
theorem vT {d:Definition} {p:aO} {a:Nat} {R:Bool} (hm:uH d p=some R) (b:aF G K (L) w) (c:bK K a1 c2 d.Body) (e:eU K a4 a [str p]):
  Calls prog 213 ([zA #[str d.Name,i64 d.Parameters,zS a1 d.Body.length c2],dS a4 a]:List Value).toArray w (dD fun v w'=>v=zB R/\aF G K (L) w'):=by
 exact aL
theorem fH {s_:(List Definition)} {c:aO} {b:Nat} {R:Int} (hm:dA s_ c=some R) (q:aF G K (L) w) (h:bK K a1 c2 s_) (i:eU K a4 b [str c]):
  Calls prog 212 ([zS a1 s_.length c2,Value.func (.func 213) #[] #[dS a4 b]]:List Value).toArray w (dD fun v w'=>v=i64 R/\aF G K (L) w'):=by
 refine aBe func212 ?_;unfold dA at hm
 refine tD ?_;refine aQ [] (fun f w=>fP=some R/\aF G K (L) w) aL ?_
 obtain ⟨r,j,ho⟩:=aB hm
 refine cE [0,1,7] j (fun d f w=>f 8=i64 d/\aF G K (L) w) aL ?_
 ·rintro d t f u hm hr ⟨x,k⟩
  unfold cB at hm
  refine tD ?_
  rcases aM hm with ⟨l,hm⟩|⟨l,hm⟩
  ·refine tD ?_;refine bT (tD ?_)
   obtain ⟨a,m,hm⟩:=aB hm
   refine tD ?_;obtain ⟨y,z,n⟩:=bK.el (sz:=3) rfl h m
   obtain ⟨e,g,rfl,o⟩:=n
   refine tD ?_;obtain ⟨J,p,hm⟩:=aB hm
   exact pT (vs:=[zA #[str a.Name,i64 a.Parameters,zS e a.Body.length g]]) (caps:=[dS a4 b]) (us:=[zA #[str a.Name,i64 a.Parameters,zS e a.Body.length g],dS a4 b]) rfl call213 rfl rfl (vT p k o i) aL
  ·exact aL
theorem aAY {a:(List Definition)} {b:aO} {R:Int} (hm:oP a b=some R) (k:aF G K (L) w) (c:bK K a1 c2 a):
  Calls prog 158 ([zS a1 a.length c2,str b]:List Value).toArray w (dD fun v w'=>v=i64 R/\aF G K (L) w'):=by
 refine aBe func158 ?_;unfold oP at hm
 refine tD ?_;refine aGh fun d l e=>?_
 iterate 6 refine aBL ?_
 refine aC (rD (vs:=[zP (some ⟨d,0,none⟩)]) rfl) ?_;obtain ⟨m,g,h,i,n⟩:=aF.lendBp e .head
 obtain ⟨o,j,hm⟩:=aB hm
 exact aCO call212 (fH j i (c.mono g) h) aL
theorem aES {p:Part} {R:Int} (hm:wU p=some R) (b:aF G K (L) w) (c:bK K a1 c2 p.Arguments):
  Calls prog 245 ([zA #[i64 p.Kind,i64 p.Number,str p.Name,zS a1 p.Arguments.length c2]]:List Value).toArray w (dD fun v w'=>v=i64 R/\aF G K (L) w'):=by
 refine aBe func245 ?_;unfold wU at hm
 refine tD ?_;refine aGh fun d e g=>?_
 refine tD ?_;exact bT (rB [4] (fun f w=>∃ a,vH p a=some R/\f 5=zB a/\aF G K (L) w) aL aL)
theorem aBj {d:Definition} {part R:Int} (hm:kR d part=some R) (h:aF G K (L) w) (i:bK K a1 c2 d.Body):
  Calls prog 214 ([zA #[str d.Name,i64 d.Parameters,zS a1 d.Body.length c2],i64 part]:List Value).toArray w (dD fun v w'=>v=i64 R/\aF G K (L) w'):=by
 refine aBe func214 ?_;unfold kR at hm
 refine tD ?_;refine aGh fun b j k=>?_
 refine tD ?_;refine aQ [] (fun f w=>∃ a,pM a=some R/\f 1=i64 a/\aF G K (L) w) aL ?_
 obtain ⟨l,c,ho⟩:=aB hm
 exact cA [2] c (fun e g f w=>f 1=i64 e/\f 5=i64 g/\aF G K (box b 101 [str d.Name,i64 d.Parameters,zS a1 d.Body.length c2]::L) w) aL aL
theorem qY {rec_:Int->dV->(List dV)->Definition->Definition->Option (Int × (List dV))} (ih:∀ {G:nX} {K:Hp} {L:List fJ} {w:World} {k:Int} {p:dV} {b1:Nat} {e:(List dV)} {a2:Option Addr} {c3:Nat} {c:Definition} {a4:Option Addr} {m:Nat} {a7:Option Addr} {c8:Nat} {a10:Option Addr} {d:Nat} {b:Definition} {a13:Option Addr} {j:Nat} {a16:Option Addr} {c17:Nat} {R:(Int × (List dV))} (hm:rec_ k p e c b=some R) (hs:aF G K (aP 298 K a2 c3 e::box b1 294 [zS a2 e.length c3]::L) w) (h6:eU K a4 m [str c.Name,i64 c.Parameters,zS a7 c.Body.length c8]) (h9:bK K a7 c8 c.Body) (a5:eU K a10 d [Value.func (.func 246) #[] #[zP (some ⟨b1,0,none⟩),dS a13 j,dS a10 d]]) (y:eU K a13 j [str b.Name,i64 b.Parameters,zS a16 b.Body.length c17]) (z:bK K a16 c17 b.Body),
  Calls prog 246 ([i64 k,zA #[i64 p.scope,zB p.behind],zP (some ⟨b1,0,none⟩),dS a4 m,dS a10 d]:List Value).toArray w (dD fun v w'=>∃ n o,v=i64 R.1/\aF G K (aP 298 K n o R.2::box b1 294 [zS n R.2.length o]::L) w'))
  {G:nX} {K:Hp} {L:List fJ} {w:World} {k:Int} {p:dV} {b1:Nat} {e:(List dV)} {a2:Option Addr} {c3:Nat} {c:Definition} {a4:Option Addr} {m:Nat} {a7:Option Addr} {c8:Nat} {a10:Option Addr} {d:Nat} {b:Definition} {a13:Option Addr} {j:Nat} {a16:Option Addr} {c17:Nat} {R:(Int × (List dV))} (hm:eA rec_ k p e c b=some R) (hs:aF G K (aP 298 K a2 c3 e::box b1 294 [zS a2 e.length c3]::L) w) (h6:eU K a4 m [str c.Name,i64 c.Parameters,zS a7 c.Body.length c8]) (h9:bK K a7 c8 c.Body) (a5:eU K a10 d [Value.func (.func 246) #[] #[zP (some ⟨b1,0,none⟩),dS a13 j,dS a10 d]]) (y:eU K a13 j [str b.Name,i64 b.Parameters,zS a16 b.Body.length c17]) (z:bK K a16 c17 b.Body):
  Calls prog 246 ([i64 k,zA #[i64 p.scope,zB p.behind],zP (some ⟨b1,0,none⟩),dS a4 m,dS a10 d]:List Value).toArray w (dD fun v w'=>∃ n o,v=i64 R.1/\aF G K (aP 298 K n o R.2::box b1 294 [zS n R.2.length o]::L) w'):=by
 let J:=[i64 p.scope,zB p.behind]
 refine aBe func246 ?_;unfold eA at hm
 refine tD ?_;refine aGh fun a6 d6 a8=>?_
 refine tD ?_;obtain ⟨d7,V,hm⟩:=aB hm
 have b9:=cR a8 (i:=1) rfl V
 refine aC (dH sl_294 rfl b9 rfl rfl rfl V) ?_;obtain ⟨l,a9,hm⟩:=aB hm
 refine lW (i:=1) (t:=0) (ns:=J) (e':=(⟨p.scope,p.behind⟩:dV)) sizeOf298 a8 rfl (zR _) rfl rfl rfl V a9 rfl rfl (fW rfl) rfl (fun cs h=>by cases h;rfl) (fun b0 (c0:aF G K (box a6 298 J::aP 298 K a2 c3 l::box b1 294 [zS a2 e.length c3]::L) b0)=>?_)
 have d8:aF G K (box a6 298 J::aP 298 K a2 c3 l::box b1 294 [zS a2 l.length c3]::L) b0:=by rw [←(bS a9)];exact c0
 refine tD ?_;obtain ⟨a,c1,hm⟩:=aB hm
 refine tD ?_;obtain ⟨d9,e0,c2⟩:=bK.el (sz:=4) rfl h9 c1
 obtain ⟨c4,c5,rfl,c6⟩:=c2
 refine tD ?_;refine aGf fun c7 e1 e2=>?_
 refine aFe fun e3 e4=>?_
 iterate 9 refine aBL ?_
 refine aC (jE (vs:=[(0,i64 p.scope),(1,zB (a.Kind == 1))]) (cs:=[i64 p.scope,zB (a.Kind == 1)]) bs_298 rfl (by kernel_rfl)) (aGf fun a0 e5 e6=>?_);refine aFe fun e7 e8=>?_
 iterate 2 refine aBL ?_
 refine rB [0,4,8,9] (fun f w=>∃ g,dG rec_ k b l a g=some R/\aF G K (box a0 298 [i64 g,zB (a.Kind == 1)]::box c7 159 [i64 a.Kind,i64 a.Number,str a.Name,zS c4 a.Arguments.length c5]::aP 298 K a2 c3 l::box b1 294 [zS a2 l.length c3]::L) w) ?_ ?_
 ·rintro f e9 ⟨g,hm,c9⟩
  unfold dG at hm
  refine tD ?_;obtain ⟨f0,d0,hm⟩:=aB hm
  refine aCO call245 (aES d0 c9 c6) ?_
  rintro _ f1 ⟨rfl,f2⟩
  refine tD ?_;refine aQ [] (fun f w=>∃ b2 a1 b3 b4,kL b2 a1=some R/\f 10=i64 b2/\aF G K (aP 298 K b3 b4 a1::box b1 294 [zS b3 a1.length b4]::L) w) aL ?_
  obtain ⟨f3,d1,ho⟩:=aB hm
  refine iE [4,9,36] d1 (fun x b5 q f w=>∃ r u,f 10=i64 x/\f 37=i64 b5/\aF G K (box a0 298 [i64 g,zB (a.Kind == 1)]::aP 298 K r u q::box b1 294 [zS r q.length u]::L) w) aL ?_
  ·rintro x b5 q f4 f d2 hm hr ⟨r,u,f5,f6,f7⟩
   unfold eZ at hm
   refine tD ?_
   rcases aM hm with ⟨d3,hm⟩|⟨d3,hm⟩
   ·refine tD ?_;refine bT (tD ?_)
    have d4:aF G K (aP 298 K r u q::box b1 294 [zS r q.length u]::box a0 298 [i64 g,zB (a.Kind == 1)]::L) d2:=aDq
    obtain ⟨f8,d5,hm⟩:=aB hm
    exact pT (vs:=[i64 x,zA #[i64 g,zB (a.Kind == 1)]]) (caps:=[zP (some ⟨b1,0,none⟩),dS a13 j,dS a10 d]) (us:=[i64 x,zA #[i64 g,zB (a.Kind == 1)],zP (some ⟨b1,0,none⟩),dS a13 j,dS a10 d]) rfl call246 rfl rfl (ih (p:=⟨g,a.Kind == 1⟩) d5 d4 y z a5 y z) aL
   ·exact aL
 exact aL
theorem qZ (n:Nat):∀ {G:nX} {K:Hp} {L:List fJ} {w:World} {l:Int} {p:dV} {b1:Nat} {c:(List dV)} {a2:Option Addr} {c3:Nat} {a:Definition} {a4:Option Addr} {m:Nat} {a7:Option Addr} {c8:Nat} {a10:Option Addr} {d:Nat} {b:Definition} {a13:Option Addr} {o:Nat} {a16:Option Addr} {c17:Nat} {R:(Int × (List dV))} (hm:cW n l p c a b=some R) (e:aF G K (aP 298 K a2 c3 c::box b1 294 [zS a2 c.length c3]::L) w) (g:eU K a4 m [str a.Name,i64 a.Parameters,zS a7 a.Body.length c8]) (h:bK K a7 c8 a.Body) (i:eU K a10 d [Value.func (.func 246) #[] #[zP (some ⟨b1,0,none⟩),dS a13 o,dS a10 d]]) (j:eU K a13 o [str b.Name,i64 b.Parameters,zS a16 b.Body.length c17]) (k:bK K a16 c17 b.Body),
  Calls prog 246 ([i64 l,zA #[i64 p.scope,zB p.behind],zP (some ⟨b1,0,none⟩),dS a4 m,dS a10 d]:List Value).toArray w (dD fun v w'=>∃ q r,v=i64 R.1/\aF G K (aP 298 K q r R.2::box b1 294 [zS q R.2.length r]::L) w'):=by
 induction n with
 |zero=>
  intro G K L w l p b1 c a2 c3 a a4 m a7 c8 a10 d b a13 o a16 c17 R hm e g h i j k
  unfold cW at hm
  cases hm
 |succ n ih=>
  intro G K L w l p b1 c a2 c3 a a4 m a7 c8 a10 d b a13 o a16 c17 R hm e g h i j k
  exact qY (rec_:=cW n) (fun hm e g h i j k=>ih hm e g h i j k) hm e g h i j k
theorem tK {at_:Int} {p:dV} {p':(List dV)} {p'':Definition} {k5 k11:Nat} {p_c1_:Definition} {k14:Nat} {R:(Int × (List dV))} (hm:rP at_ p p' p'' p_c1_=some R) (hs:aF G K (aP 298 K a2 c3 p'::box b1 294 [zS a2 p'.length c3]::L) w) (h6:eU K a4 k5 [str p''.Name,i64 p''.Parameters,zS a7 p''.Body.length c8]) (h9:bK K a7 c8 p''.Body) (h12:eU K a10 k11 [Value.func (.func 246) #[] #[zP (some ⟨b1,0,none⟩),dS a13 k14,dS a10 k11]]) (h15:eU K a13 k14 [str p_c1_.Name,i64 p_c1_.Parameters,zS a16 p_c1_.Body.length c17]) (h18:bK K a16 c17 p_c1_.Body):
  Calls prog 246 ([i64 at_,zA #[i64 p.scope,zB p.behind],zP (some ⟨b1,0,none⟩),dS a4 k5,dS a10 k11]:List Value).toArray w (dD fun v w'=>∃ ra0 rc0,v=i64 R.1/\aF G K (aP 298 K ra0 rc0 R.2::box b1 294 [zS ra0 R.2.length rc0]::L) w'):=qZ 100000 hm hs h6 h9 h12 h15 h18
theorem xF {d:Definition} {R:(List dV)} (hm:mD d=some R) (hs:aF G K (L) w) (j:bK K a1 c2 d.Body):
  Calls prog 215 ([zA #[str d.Name,i64 d.Parameters,zS a1 d.Body.length c2]]:List Value).toArray w (dD fun v w'=>∃ k l,v=zS k R.length l/\aF G K (aP 298 K k l R::L) w'):=by
 refine aBe func215 ?_;unfold mD at hm
 refine tD ?_;refine aGh fun b w5 o=>?_
 refine tD ?_;obtain ⟨a,q,hm⟩:=aB hm
 refine aLZ (e:=(⟨0,false⟩:dV)) sl_294 ez_298 rfl rfl o rfl rfl rfl q rfl (fun i r (a3:aF G K (aP 298 K i a.length a::box b 101 [str d.Name,i64 d.Parameters,zS a1 d.Body.length c2]::L) r)=>(aGf fun c a4 a5=>?_));refine aFe fun a6 a7=>?_
 refine tD ?_;refine aGf fun g a8 b0=>?_
 iterate 4 refine aBL ?_
 refine aC (rD (vs:=[zP (some ⟨c,0,none⟩),zP (some ⟨b,0,none⟩),zP (some ⟨g,0,none⟩)]) rfl) (aFe fun t u=>?_)
 iterate 7 refine aBL ?_
 refine aC (jE (vs:=[(0,i64 d.Parameters)]) (cs:=[i64 d.Parameters,zB false]) bs_298 rfl (by kernel_rfl)) ?_;obtain ⟨b1,m,n,x,b2⟩:=aF.lendBp u zt3
 obtain ⟨y,h,z,b3,b5⟩:=aF.lendBp x .head
 have J:aF G y (aP 298 K i a.length a::box c 294 [zS i a.length a.length]::L) t:=aDq
 obtain ⟨b6,V,hm⟩:=aB hm
 exact pT (vs:=[i64 0,zA #[i64 d.Parameters,zB false]]) (caps:=[zP (some ⟨c,0,none⟩),dS (some ⟨b,0,none⟩) 0,dS (some ⟨g,0,none⟩) 0]) (us:=[i64 0,zA #[i64 d.Parameters,zB false],zP (some ⟨c,0,none⟩),dS (some ⟨b,0,none⟩) 0,dS (some ⟨g,0,none⟩) 0]) rfl call246 rfl rfl (tK (p:=⟨d.Parameters,false⟩) V J (n.mono h) (j.mono (zL m h)) (show eU _ _ _ [Value.func (.func 246) #[] #[zP (some ⟨c,0,none⟩),dS (some ⟨b,0,none⟩) 0,dS (some ⟨g,0,none⟩) 0]] from z) (n.mono h) (j.mono (zL m h))) aL
theorem aTi {i many:Int} {R:Bool} (hm:aDR i many=some R) (a:aF G K (L) w):
  Calls prog 161 ([i64 i,i64 many]:List Value).toArray w (dD fun v w'=>v=zB R/\aF G K (L) w'):=by
 exact aL
end Gv
