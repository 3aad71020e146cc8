/- Walks, printed by program. -/
import Derived.Test.YtmlemmpanilhjaaGreatDoorJWk1
set_option linter.all false
namespace Gv
open Gv.Hp renaming le_refl→zR
open Go.Value renaming slice→zS,bool→zB,agg→zA
open Option.some renaming inj→zI
open Gv.Hp renaming le_trans→zL
open Go Go.Proofs Go.Proofs.Tryz
set_option maxRecDepth 20000
set_option maxHeartbeats 40000000
variable {G:qG} {K Kf:Hp} {L:List iZ} {w:World} {a1 a4 a7 a10 a13 a16 a3:Option Addr} {c2 c5 c8 c11 c14 c17 c4:Nat}
theorem aIO {a:(List bL)} {R:Bool} (hm:zJ a=some R) (d:aO G K (L) w) (e:cI K a1 c2 a):
  Calls prog 104 ([zS a1 a.length c2]:List Value).toArray w (eX fun v w'=>v=zB R/\aO G K (L) w'):=by
 refine aT func104 rfl (by kernel_rfl) (by show (1:Nat)<=16;decide) ?_;unfold zJ at hm
 refine aL (aD (v:=zB false) (aG (aP (aL (aD (v:=i64 0) (aG (bR [] (fun f w=>wO=some R/\aO G K (L) w) cA ?_)))))));obtain ⟨g,b,ho⟩:=aC hm
 exact dS [0] b (fun c f w=>f 3=i64 c/\aO G K (L) w) cA cA
theorem aFU {a:(List bL)} {R:Bool} (hm:aAN a=some R) (h:aO G K (L) w) (i:cI K a1 c2 a):
  Calls prog 70 ([zS a1 a.length c2]:List Value).toArray w (eX fun v w'=>v=zB R/\aO G K (L) w'):=by
 refine aT func70 rfl (by kernel_rfl) (by show (1:Nat)<=28;decide) ?_;unfold aAN at hm
 refine aL (aD (v:=zB false) (aG (aP (aP (cO [0] (fun f w=>∃ b,vO a b=some R/\f 11=zB b/\aO G K (L) w) ?_ ?_)))))
 ·rintro f j ⟨b,hm,d,k⟩
  unfold vO at hm
  refine aB ?_
  rcases aH hm with ⟨c,hm⟩|⟨c,hm⟩
  ·exact cA
  ·refine aJ c d (aX (aB (aP (aL (aD (v:=i64 1) (aG (bR [] (fun f w=>aBg=some R/\aO G K (L) w) cA ?_)))))));obtain ⟨l,e,ho⟩:=aC hm
   exact dS [0] e (fun g f w=>f 3=i64 g/\aO G K (L) w) cA cA
 exact cA
theorem aKG {a:cW} {b:Nat} {R:Int} (hm:aDo a=some R) (c:aO G K (L) w) (d:iQ K a1 b [zS a4 a.Definitions.length c5,zS a7 a.Components.length c8,zS a10 a.Meetings.length c11,zS a13 a.Allowed.length c14,zS a16 a.Hidden.length c17]) (e:cI K a4 c5 a.Definitions) (g:cI K a7 c8 a.Components) (h:cI K a10 c11 a.Meetings) (i:cI K a13 c14 a.Allowed) (j:cI K a16 c17 a.Hidden):
  Calls prog 42 ([eN a1 b]:List Value).toArray w (eX fun v w'=>v=i64 R/\aO G K (L) w'):=by
 exact cA
theorem aOw {a:cW} {b:Nat} {R:Bool} (hm:aHe a=some R) (c:aO G K (L) w) (d:iQ K a1 b [zS a4 a.Definitions.length c5,zS a7 a.Components.length c8,zS a10 a.Meetings.length c11,zS a13 a.Allowed.length c14,zS a16 a.Hidden.length c17]) (e:cI K a4 c5 a.Definitions) (g:cI K a7 c8 a.Components) (h:cI K a10 c11 a.Meetings) (i:cI K a13 c14 a.Allowed) (j:cI K a16 c17 a.Hidden):
  Calls prog 17 ([eN a1 b]:List Value).toArray w (eX fun v w'=>v=zB R/\aO G K (L) w'):=by
 exact cA
theorem aEq {a R:(List Int)} (hm:zN a=some R) (d:aO G K (L) w) (e:cI K a1 c2 a):
  Calls prog 71 ([zS a1 a.length c2]:List Value).toArray w (eX fun v w'=>∃ b c,v=zS b R.length c/\aO G K (bI 2 K b c R::L) w'):=by
 exact cA
theorem aKH {b:cW} {n:Nat} {R:(List bO)} (hm:aDp b=some R) (hs:aO G K (L) w) (o:iQ K a1 n [zS a4 b.Definitions.length c5,zS a7 b.Components.length c8,zS a10 b.Meetings.length c11,zS a13 b.Allowed.length c14,zS a16 b.Hidden.length c17]) (h6:cI K a4 c5 b.Definitions) (h9:cI K a7 c8 b.Components) (e2:cI K a10 c11 b.Meetings) (e3:cI K a13 c14 b.Allowed) (e4:cI K a16 c17 b.Hidden):
  Calls prog 43 ([eN a1 n]:List Value).toArray w (eX fun v w'=>∃ J a9 b0,v=zS a9 R.length b0/\Hp.le K J/\aO G J (bI 83 J a9 b0 R::L) w'):=by
 refine aT func43 rfl (by kernel_rfl) (by show (1:Nat)<=33;decide) ?_;unfold aDp at hm
 refine aL (aD (v:=zS none 0 0) (aG (aL (gA (Kt:=K) (xs:=([]:List bO)) (cs:=[]) (vs:=[]) rV aHK rfl rfl hs rfl (by kernel_rfl) rfl rfl rfl trivial (fun b1 c3 (e5:aO G K (bI 83 K b1 0 ([]:List bO)::L) c3)=>(aD (v:=zS b1 ([]:List bO).length 0) (aG (aP (aL (aD (v:=i64 0) (aG (bR [] (fun f w=>∃ V Z b2 b3,Hp.le K V/\aBh Z=some R/\f 3=zS b2 Z.length b3/\aO G V (bI 83 V b2 b3 Z::L) w) cA ?_))))))))))));obtain ⟨e6,c4,ho⟩:=aC hm
 refine eG [0] c4 (fun k a0 f w=>∃ c l m,Hp.le K c/\f 3=zS l k.length m/\f 4=i64 a0/\aO G c (bI 83 c l m k::L) w) cA ?_
 ·rintro k a0 e7 f e8 hm hr ⟨c,l,m,d,c6,a2,y⟩
  unfold vP at hm
  refine aP (aL (bJ a2 (aI (v:=eN a1 n) (aA (dT rfl (o.mono d)) (aA (cM (k':=n+1) qJ rfl (o.mono d) rfl) (aA (bZ (t:=1) aDV y (o.mono d) rfl rfl) (aA (bQ (len:=b.Components.length) sL rfl) (aA (cL rfl rfl) (aG ?_)))))))))
  rcases aH hm with ⟨b4,hm⟩|⟨b4,hm⟩
  ·refine aN b4 rfl (aX (aB (aP (bY (aL (aI (v:=eN a1 n) (aA (dT rfl (o.mono d)) (aA (cM (k':=n+1) qJ rfl (o.mono d) rfl) (aA (bZ (t:=1) aDV y (o.mono d) rfl rfl) (bJ a2 ?_))))))))));obtain ⟨a,b5,hm⟩:=aC hm
   refine aA (cQ sL rfl (h9.mono d) rfl rfl rfl b5) ?_;obtain ⟨e9,c7,c9⟩:=cI.el (sz:=2) rfl h9 b5
   obtain ⟨e,g,rfl,d0⟩:=c9
   refine aA (eP (t:=0) (vs:=[i64 a.Definition,zS e a.Values.length g]) aFl y (c7.mono d) rfl rfl rfl) (dA (vs:=[i64 0,zS none 0 0]) zeroValue102 y rfl (fun p f0 d1=>(cT (i:=0) (ns:=[i64 a.Definition,zS e a.Values.length g]) (us:=[i64 a.Definition,zS e a.Values.length g]) sizeOf102 d1 rfl rfl rfl rfl rfl (eM rfl) rfl rfl (fun b6 (d2:aO G c (box p 102 [i64 a.Definition,zS e a.Values.length g]::bI 83 c l m k::L) b6)=>(aG ?_)))))
   have b7:aO G c (box p 102 [i64 a.Definition,zS e a.Values.length g]::bI 83 c l m k::L) b6:=d2
   refine jN (C:=fun w'=>∃ L',aO G c (box p 102 [i64 a.Definition,zS e a.Values.length g]::L') w') [(0,0),(1,0),(2,0),(3,0),(4,0),(5,1),(6,0),(7,1),(8,1),(9,0)] cC (by kernel_rfl) (fun _ hg=>⟨_,aO.mono b7 hg⟩) (fun f1 d3=>?_)
   have r:=aO.mono b7 d3
   refine dZ rfl (fun _ _=>bM c6) (dZ rfl (fun _ _=>bC (t':=0) vD rfl rfl) (dZ rfl (fun _ ⟨_,r⟩=>bP dC r (i:=0) rfl rfl rfl) (dZ rfl (fun _ _=>bC (t':=1) vE rfl rfl) (dZ rfl (fun _ ⟨_,r⟩=>bP aCe r (i:=0) rfl rfl rfl) (qW rfl ?_)))));obtain ⟨q,d4,hm⟩:=aC hm
   refine aV (vs:=[zS e a.Values.length g]) call71 rfl (aEq d4 r (d0.mono d)) ?_
   rintro _ d5 ⟨u,x,rfl,b8⟩
   refine cG (aB ⟨⟨_,(aO.arr 2 [1,0] b8 rfl)⟩,?_⟩)
   refine dZ rfl (fun _ _=>iJ (vs:=[(0,i64 a.Definition),(2,zS u q.length x)]) (cs:=[i64 a.Definition,i64 0,zS u q.length x]) aNF rfl (by kernel_rfl)) (qW rfl ?_);obtain ⟨j,z,d6,a3⟩:=aO.giveSp b8 d .head
   replace a3:aO G j (box p 102 [i64 a.Definition,zS e a.Values.length g]::bI 83 c l m k::L) d5:=a3
   refine gA (Kt:=j) (xs:=([⟨a.Definition,0,q⟩]:List bO)) (cs:=[i64 a.Definition,i64 0,zS u q.length x]) (vs:=[(0,zA #[i64 a.Definition,i64 0,zS u q.length x])]) rV aHK rfl rfl a3 rfl (by kernel_rfl) rfl rfl rfl ⟨⟨u,x,rfl,d6⟩,trivial⟩ (fun d7 d8 (b9:aO G j (bI 83 j d7 1 ([⟨a.Definition,0,q⟩]:List bO)::box p 102 [i64 a.Definition,zS e a.Values.length g]::bI 83 c l m k::L) d8)=>(cG (aB ⟨⟨_,(aO.weakK (aO.arr 2 [1,0] b9 rfl) z)⟩,?_⟩)))
   refine qW rfl ?_;obtain ⟨c0,d9,hm⟩:=aC hm
   refine aGX (i:=1) j rV underlying84 aHK rfl rfl b9 rfl z (zR _) d9 rfl rfl rfl rfl (fun _ _ _ h=>El.one h) (fun a5 a6 e0 (c1:aO G j (box p 102 [i64 a.Definition,zS e a.Values.length g]::bI 83 j a5 a6 c0::L) e0)=>(cG (aB ⟨⟨_,(aO.weakK c1 z)⟩,?_⟩)))
   exact dZ rfl (fun _ _=>gI (v:=zS a5 c0.length a6) rfl) (sK (bN (aB (aW (bJ a2 (aA (cH rfl rfl) (aD (v:=i64 (wr (a0+1))) (aG ⟨_,(zI hm).symm,aU,j,a5,a6,(zL d z),rfl,rfl,(aO.arr 1 [] c1 rfl)⟩))))))))
  ·exact cA
theorem jJ {b:Bool} {R:Int} (hm:kT b=some R) (a:aO G K (L) w):
  Calls prog 181 ([zB b]:List Value).toArray w (eX fun v w'=>v=i64 R/\aO G K (L) w'):=by
 exact cA
theorem aMK {e:(List bS)} {k R:Int} (hm:aGs e k=some R) (g:aO G K (L) w) (h:cI K a1 c2 e):
  Calls prog 182 ([zS a1 e.length c2,i64 k]:List Value).toArray w (eX fun v w'=>v=i64 R/\aO G K (L) w'):=by
 refine aT func182 rfl (by kernel_rfl) (by show (2:Nat)<=18;decide) ?_;unfold aGs at hm
 refine aL (aD (v:=i64 0) (aG (aL (aD (v:=i64 1) (aG (aP (bR [] (fun f w=>∃ a,aBD a=some R/\f 1=i64 a/\aO G K (L) w) cA ?_)))))));obtain ⟨i,b,ho⟩:=aC hm
 exact eG [0] b (fun c d f w=>f 1=i64 c/\f 5=i64 d/\aO G K (L) w) cA cA
theorem aOx {c a b R:Int} (hm:aEd c a b=some R) (o:aO G K (L) w):
  Calls prog 183 ([i64 c,i64 a,i64 b]:List Value).toArray w (eX fun v w'=>v=i64 R/\aO G K (L) w'):=by
 refine aT func183 rfl (by kernel_rfl) (by show (3:Nat)<=67;decide) ?_;unfold aEd at hm
 refine aL (aD (v:=i64 0) (aG (aP (aL (aI (v:=i64 c) (aG (bY (aL (aA (cP rfl rfl) (aD (v:=zB (c == 0)) (aG ?_)))))))))))
 rcases aH hm with ⟨e,hm⟩|⟨e,hm⟩
 ·exact cA
 ·refine aJ e rfl (aL (aA (cP rfl rfl) (aD (v:=zB (c == 1)) (aG ?_))))
  rcases aH hm with ⟨g,hm⟩|⟨g,hm⟩
  ·exact cA
  ·refine aJ g rfl (aL (aA (cP rfl rfl) (aD (v:=zB (c == 2)) (aG ?_))))
   rcases aH hm with ⟨h,hm⟩|⟨h,hm⟩
   ·exact cA
   ·refine aJ h rfl (aL (aA (cP rfl rfl) (aD (v:=zB (c == 3)) (aG ?_))))
    rcases aH hm with ⟨i,hm⟩|⟨i,hm⟩
    ·exact cA
    ·refine aJ i rfl (aL (aA (cP rfl rfl) (aD (v:=zB (c == 4)) (aG ?_))))
     rcases aH hm with ⟨j,hm⟩|⟨j,hm⟩
     ·exact cA
     ·refine aJ j rfl (aL (aA (cP rfl rfl) (aD (v:=zB (c == 5)) (aG ?_))))
      rcases aH hm with ⟨k,hm⟩|⟨k,hm⟩
      ·exact cA
      ·refine aJ k rfl (aL (aA (cP rfl rfl) (aD (v:=zB (c == 6)) (aG ?_))))
       rcases aH hm with ⟨l,hm⟩|⟨l,hm⟩
       ·exact cA
       ·refine aJ l rfl (aL (aA (cP rfl rfl) (aD (v:=zB (c == 7)) (aG ?_))))
        rcases aH hm with ⟨d,hm⟩|⟨d,hm⟩
        ·exact aN d rfl (aP (cO [] (fun f w=>∃ m,aFs m=some R/\f 6=i64 m/\aO G K (L) w) cA cA))
        ·exact aJ d rfl (aX (bN (aB (aP (cO [] (fun f w=>∃ n,aFt n=some R/\f 6=i64 n/\aO G K (L) w) cA cA)))))
theorem aLK {rec_:(List bS)->(List Int)->Int->Option Int} (g:∀ {G:qG} {K:Hp} {L:List iZ} {w:World} {e:(List bS)} {a1:Option Addr} {c2:Nat} {a:(List Int)} {a4:Option Addr} {c5:Nat} {k:Int} {R:Int} (hm:rec_ e a k=some R) (c:aO G K (L) w) (b:cI K a1 c2 e) (d:cI K a4 c5 a),
  Calls prog 147 ([zS a1 e.length c2,zS a4 a.length c5,i64 k]:List Value).toArray w (eX fun v w'=>v=i64 R/\aO G K (L) w'))
  {G:qG} {K:Hp} {L:List iZ} {w:World} {e:(List bS)} {a1:Option Addr} {c2:Nat} {a:(List Int)} {a4:Option Addr} {c5:Nat} {k:Int} {R:Int} (hm:uF rec_ e a k=some R) (c:aO G K (L) w) (b:cI K a1 c2 e) (d:cI K a4 c5 a):
  Calls prog 147 ([zS a1 e.length c2,zS a4 a.length c5,i64 k]:List Value).toArray w (eX fun v w'=>v=i64 R/\aO G K (L) w'):=by
 let j:=[zS a1 e.length c2,zS a4 a.length c5,i64 (wr (k+1))]
 refine aT func147 rfl (by kernel_rfl) (by show (3:Nat)<=60;decide) ?_;unfold uF at hm
 refine aL (aD (v:=i64 0) (aG (aP (aL (aI (v:=zS a1 e.length c2) (aI (v:=i64 k) ?_))))));obtain ⟨h,l,hm⟩:=aC hm
 refine aA (cQ lW rfl b rfl rfl rfl l) ?_;obtain ⟨Z,m,p⟩:=cI.el (sz:=2) rfl b l
 cases p
 refine aA (cM (k':=k.toNat * 2+0) vB rfl m rfl) (aA (bZ (t:=0) dC c m rfl rfl) (aG (bY (aL (aA (cP rfl rfl) (aD (v:=zB (h.Kind == 0)) (aG ?_)))))))
 rcases aH hm with ⟨n,hm⟩|⟨n,hm⟩
 ·exact cA
 ·refine aJ n rfl (aL (aA (cP rfl rfl) (aD (v:=zB (h.Kind == 1)) (aG ?_))))
  rcases aH hm with ⟨o,hm⟩|⟨o,hm⟩
  ·exact cA
  ·refine aJ o rfl (aL (aA (cP rfl rfl) (aD (v:=zB (h.Kind == 3)) (aG ?_))))
   rcases aH hm with ⟨i,hm⟩|⟨i,hm⟩
   ·refine aN i rfl (aL (aI (v:=zS a1 e.length c2) (aI (v:=zS a4 a.length c5) (aI (v:=i64 k) (aA (cH rfl rfl) ?_)))));obtain ⟨a0,q,hm⟩:=aC hm
    exact aV (vs:=j) call147 rfl (g q c b d) cA
   ·refine aJ i rfl (aX (bN (aB (aL (aI (v:=zS a1 e.length c2) (aI (v:=zS a4 a.length c5) (aI (v:=i64 k) (aA (cH rfl rfl) ?_))))))));obtain ⟨r,u,hm⟩:=aC hm
    refine aV (vs:=j) call147 rfl (g u c b d) ?_
    rintro _ a2 ⟨rfl,x⟩
    refine aD (v:=i64 r) (aG (aL (aI (v:=zS a1 e.length c2) (aI (v:=zS a4 a.length c5) (aI (v:=zS a1 e.length c2) (aI (v:=i64 k) (aA (cH rfl rfl) ?_)))))));obtain ⟨y,z,hm⟩:=aC hm
    refine aV (vs:=[zS a1 e.length c2,i64 (wr (k+1))]) call182 rfl (aMK z x b) ?_
    rintro _ a3 ⟨rfl,J⟩
    obtain ⟨a5,V,hm⟩:=aC hm
    exact aV (vs:=[zS a1 e.length c2,zS a4 a.length c5,i64 y]) call147 rfl (g V J b d) cA
theorem aLL (n:Nat):∀ {G:qG} {K:Hp} {L:List iZ} {w:World} {e:(List bS)} {a1:Option Addr} {c2:Nat} {a:(List Int)} {a4:Option Addr} {c5:Nat} {k:Int} {R:Int} (hm:uG n e a k=some R) (b:aO G K (L) w) (c:cI K a1 c2 e) (d:cI K a4 c5 a),
  Calls prog 147 ([zS a1 e.length c2,zS a4 a.length c5,i64 k]:List Value).toArray w (eX fun v w'=>v=i64 R/\aO G K (L) w'):=by
 induction n with
 |zero=>
  intro G K L w e a1 c2 a a4 c5 k R hm b c d
  unfold uG at hm
  cases hm
 |succ n ih=>
  intro G K L w e a1 c2 a a4 c5 k R hm b c d
  exact aLK (rec_:=uG n) (fun hm b c d=>ih hm b c d) hm b c d
theorem aOy {e:(List bS)} {values:(List Int)} {k R:Int} (hm:aOt e values k=some R) (hs:aO G K (L) w) (h3:cI K a1 c2 e) (h6:cI K a4 c5 values):
  Calls prog 147 ([zS a1 e.length c2,zS a4 values.length c5,i64 k]:List Value).toArray w (eX fun v w'=>v=i64 R/\aO G K (L) w'):=aLL 100000 hm hs h3 h6
theorem aGH {e:(List bS)} {a:(List Int)} {R:Int} (hm:xV e a=some R) (b:aO G K (L) w) (c:cI K a1 c2 e) (d:cI K a4 c5 a):
  Calls prog 109 ([zS a1 e.length c2,zS a4 a.length c5]:List Value).toArray w (eX fun v w'=>v=i64 R/\aO G K (L) w'):=by
 exact cA
theorem aGI {a:(List (List bS))} {b R:(List Int)} (hm:aCM a b=some R) (m:aO G K (L) w) (p:cI K a1 c2 a) (q:cI K a4 c5 b):
  Calls prog 105 ([zS a1 a.length c2,zS a4 b.length c5]:List Value).toArray w (eX fun v w'=>∃ d e,v=zS d R.length e/\aO G K (bI 2 K d e R::L) w'):=by
 refine aT func105 rfl (by kernel_rfl) (by show (2:Nat)<=24;decide) ?_;unfold aCM at hm
 refine aL (aD (v:=zS none 0 0) (aG (aL (gA (Kt:=K) (xs:=([]:List Int)) (cs:=[]) (vs:=[]) gD aEA rfl rfl m rfl (by kernel_rfl) rfl rfl rfl trivial (fun g n (r:aO G K (bI 2 K g 0 ([]:List Int)::L) n)=>(aD (v:=zS g ([]:List Int).length 0) (aG (aP (aL (aD (v:=i64 0) (aG (bR [] (fun f w=>∃ c h i,aCp c=some R/\f 5=zS h c.length i/\aO G K (bI 2 K h i c::L) w) cA ?_))))))))))));obtain ⟨t,o,ho⟩:=aC hm
 exact eG [0,1] o (fun j i32 f w=>∃ k l,f 5=zS k j.length l/\f 6=i64 i32/\aO G K (bI 2 K k l j::L) w) cA cA
theorem aLM {a b:(List Int)} {R:Bool} (hm:aEJ a b=some R) (g:aO G K (L) w) (h:cI K a1 c2 a) (i:cI K a4 c5 b):
  Calls prog 73 ([zS a1 a.length c2,zS a4 b.length c5]:List Value).toArray w (eX fun v w'=>v=zB R/\aO G K (L) w'):=by
 refine aT func73 rfl (by kernel_rfl) (by show (2:Nat)<=26;decide) ?_;unfold aEJ at hm
 refine aL (aD (v:=zB false) (aG (aP (aL (aI (v:=zS a1 a.length c2) (aA (bQ (len:=a.length) gD rfl) (aI (v:=zS a4 b.length c5) (aA (bQ (len:=b.length) gD rfl) (aA (gO rfl rfl) (aG ?_))))))))))
 rcases aH hm with ⟨c,hm⟩|⟨c,hm⟩
 ·exact cA
 ·refine aJ c rfl (aX (aB (aP (aL (aD (v:=i64 0) (aG (bR [] (fun f w=>aCq=some R/\aO G K (L) w) cA ?_)))))));obtain ⟨j,d,ho⟩:=aC hm
  exact dS [0,1] d (fun e f w=>f 5=i64 e/\aO G K (L) w) cA cA
theorem aCg {a:bO} {c:Nat} {b:bO} {d:Nat} {R:Bool} (hm:pI a b=some R) (g:aO G K (L) w) (h:iQ K a1 c [i64 a.Definition,i64 a.Part,zS a4 a.Values.length c5]) (i:cI K a4 c5 a.Values) (j:iQ K a7 d [i64 b.Definition,i64 b.Part,zS a10 b.Values.length c11]) (k:cI K a10 c11 b.Values):
  Calls prog 45 ([eN a1 c,eN a7 d]:List Value).toArray w (eX fun v w'=>v=zB R/\aO G K (L) w'):=by
 refine aT func45 rfl (by kernel_rfl) (by show (2:Nat)<=36;decide) ?_;unfold pI at hm
 exact aL (aD (v:=zB false) (aG (aP (cO [] (fun f w=>∃ e,lR e=some R/\f 4=zB e/\aO G K (L) w) cA cA))))
theorem aML {n:Int} {R:bL} (hm:aGt n=some R) (hs:aO G K (L) w):
  Calls prog 180 ([i64 n]:List Value).toArray w (eX fun v w'=>v=str R/\aO G K (L) w'):=by
 refine aT func180 rfl (by kernel_rfl) (by show (1:Nat)<=50;decide) ?_;unfold aGt at hm
 refine aL (aD (v:=str ([]:bL)) (aG (aP (aL (aI (v:=i64 n) (aA (cP rfl rfl) (aG ?_)))))))
 rcases aH hm with ⟨q,hm⟩|⟨q,hm⟩
 ·exact cA
 ·refine aJ q rfl (aX (aB (aL (gA (Kt:=K) (xs:=([]:List UInt8)) (cs:=[]) (vs:=[]) aDe ez_5 rfl rfl hs rfl (by kernel_rfl) rfl rfl rfl trivial (fun r w4 (b5:aO G K (bI 5 K r 0 ([]:List UInt8)::L) w4)=>(aD (v:=zS r ([]:List UInt8).length 0) (aG (aP (aL (aI (v:=i64 n) (aD (v:=i64 n) (aG (bR [0] (fun f w=>∃ g k l,aBG n g=some R/\f 3=zS k g.length l/\aO G K (bI 5 K k l g::L) w) ?_ ?_)))))))))))))
  ·rintro f b6 ⟨g,k,l,hm,e9,b8⟩
   unfold aBG at hm
   refine aB (yI [] (fun f w=>∃ a b c,aBF a=some R/\f 3=zS b a.length c/\aO G K (bI 5 K b c a::L) w) ?_ ?_)
   ·rintro f b9 ⟨a,b,c,hm,a2,a4⟩
    unfold aBF at hm
    refine aL (gA (Kt:=K) (xs:=([]:List UInt8)) (cs:=[]) (vs:=[]) aDe ez_5 rfl rfl a4 rfl (by kernel_rfl) rfl rfl rfl trivial (fun t a5 (c0:aO G K (bI 5 K t 0 ([]:List UInt8)::bI 5 K b c a::L) a5)=>(aD (v:=zS t ([]:List UInt8).length 0) (aG (aP (aL (bJ a2 (aA (bQ (len:=a.length) aDe rfl) (aA (fU rfl rfl) (aD (v:=i64 (wr ((a.length:Int) - 1))) (aG (bR [] (fun f w=>∃ d m o,aEe d=some R/\f 6=zS m d.length o/\aO G K (bI 5 K m o d::L) w) ?_ ?_))))))))))))
    ·rintro f c2 ⟨d,m,o,hm,a6,u⟩
     unfold aEe at hm
     refine aB (aL (bJ a6 (aA (aNq underlying154 underlying5 underlying9 u (i:=0) rfl rfl rfl) (aD (v:=str d) (aG ?_)))));obtain rfl:=zI hm
     exact aY (aR results180 rfl ⟨rfl,(aO.arr 1 [] u rfl)⟩)
    obtain ⟨c3,a9,ho⟩:=aC hm
    exact eG [3] a9 (fun x b0 f w=>∃ y z,f 6=zS y x.length z/\f 7=i64 b0/\aO G K (bI 5 K y z x::bI 5 K b c a::L) w) cA cA
   exact cA
  obtain ⟨c4,b1,ho⟩:=aC hm
  refine eG [0] b1 (fun e p f w=>∃ h j,f 3=zS h e.length j/\f 4=i64 p/\aO G K (bI 5 K h j e::L) w) cA ?_
  ·rintro e p b2 f c5 hm hr ⟨h,j,c6,J,c7⟩
   unfold aBI at hm
   refine aP (aL (bJ J (aA (gO rfl rfl) (aG ?_))))
   rcases aH hm with ⟨V,hm⟩|⟨V,hm⟩
   ·refine aN V rfl (aX (aB (aP (bY (aL (bJ J ?_))))));obtain ⟨b3,b4,hm⟩:=aC hm
    exact aA (aKj rfl rfl b4) (aD (v:=i64 b3) (aG (yI [0,3,4] (fun f w=>∃ Z,aBH e p Z=some b2/\f 5=i64 Z/\aO G K (bI 5 K h j e::L) w) cA cA)))
   ·exact cA
theorem aLN {a:(List Int)} {R:bL} (hm:aEK a=some R) (l:aO G K (L) w) (m:cI K a1 c2 a):
  Calls prog 145 ([zS a1 a.length c2]:List Value).toArray w (eX fun v w'=>v=str R/\aO G K (L) w'):=by
 refine aT func145 rfl (by kernel_rfl) (by show (1:Nat)<=26;decide) ?_;unfold aEK at hm
 refine aL (aD (v:=str ([]:bL)) (aG (aP (aL (aI (v:=zS a1 a.length c2) (aA (bQ (len:=a.length) gD rfl) (aA (cP rfl rfl) (aG ?_))))))))
 rcases aH hm with ⟨c,hm⟩|⟨c,hm⟩
 ·exact cA
 ·refine aJ c rfl (aX (aB (aL (aD (v:=str ([]:bL)) (aG (aP (aL (aD (v:=i64 0) (aG (bR [] (fun f w=>∃ d,aCr d=some R/\f 3=str d/\aO G K (L) w) cA ?_))))))))));obtain ⟨n,i,ho⟩:=aC hm
  refine eG [0] i (fun e b f w=>f 3=str e/\f 4=i64 b/\aO G K (L) w) cA ?_
  ·rintro e b j f o hm hr ⟨p,k,q⟩
   unfold qO at hm
   refine aP (aL (bJ k (aI (v:=zS a1 a.length c2) (aA (bQ (len:=a.length) gD rfl) (aA (cL rfl rfl) (aG ?_))))))
   rcases aH hm with ⟨g,hm⟩|⟨g,hm⟩
   ·exact aN g rfl (aX (aB (aP (bY (yI [0,4] (fun f w=>∃ h,zU a b h=some j/\f 3=str h/\aO G K (L) w) cA cA)))))
   ·exact cA
theorem aLO {b:bL} {a:(List Int)} {R:bL} (hm:aEL b a=some R) (c:aO G K (L) w) (d:cI K a1 c2 a):
  Calls prog 107 ([str b,zS a1 a.length c2]:List Value).toArray w (eX fun v w'=>v=str R/\aO G K (L) w'):=by
 exact cA
theorem aJE {c:(List dK)} {x_:dK} {R:(List dK)} (hm:xW c x_=some R) (hs:aO G K (bI 92 Kf a1 c2 c::L) w) (u:Hp.le Kf K) (x:cI Kf a3 c4 x_.Next.Values):
  Calls prog 106 ([zS a1 c.length c2,zA #[str x_.B,i64 x_.Next.Definition,i64 x_.Next.Part,zS a3 x_.Next.Values.length c4]]:List Value).toArray w (eX fun v w'=>∃ y z,v=zS y R.length z/\aO G K (bI 92 Kf y z R::L) w'):=by
 let d:=[str x_.B,i64 x_.Next.Definition,i64 x_.Next.Part,zS a3 x_.Next.Values.length c4]
 refine aT func106 rfl (by kernel_rfl) (by show (2:Nat)<=33;decide) ?_;unfold xW at hm
 refine aL (dR (v:=zA #[str x_.B,i64 x_.Next.Definition,i64 x_.Next.Part,zS a3 x_.Next.Values.length c4]) (vs:=d) hs rfl rfl (fun e w7 d6=>(aD (v:=zS none 0 0) (aG (aP (aL (aD (v:=i64 0) (aG (bR [0,3] (fun f w=>pJ c x_=some R/\aO G K (box e 92 d::bI 92 Kf a1 c2 c::L) w) ?_ ?_)))))))))
 ·rintro f w9 ⟨hm,J⟩
  unfold pJ at hm
  refine aB (aL (aI (v:=zS a1 c.length c2) (aA (eQ (us:=d) ag_92 J (i:=0) rfl rfl rfl rfl) (gA (Kt:=Kf) (xs:=([x_]:List dK)) (cs:=d) (vs:=[(0,zA #[str x_.B,i64 x_.Next.Definition,i64 x_.Next.Part,zS a3 x_.Next.Values.length c4])]) aBv aPq rfl rfl J rfl (by kernel_rfl) rfl rfl rfl ⟨⟨a3,c4,rfl,x⟩,trivial⟩ (fun a9 b0 (b1:aO G K (bI 92 Kf a9 1 ([x_]:List dK)::box e 92 d::bI 92 Kf a1 c2 c::L) b0)=>?_)))))
  obtain ⟨V,b2,hm⟩:=aC hm
  refine aGX (i:=1) Kf aBv underlying86 aPq rfl rfl b1 rfl (zR _) (zR _) b2 rfl rfl rfl rfl (fun _ _ _ h=>El.one h) (fun n o b3 (b4:aO G K (box e 92 d::bI 92 Kf n o V::L) b3)=>(aD (v:=zS n V.length o) (aG ?_)));obtain rfl:=zI hm
  exact aY (aR results106 rfl ⟨n,o,rfl,(aO.arr 1 [] b4 rfl)⟩)
 obtain ⟨d8,b7,ho⟩:=aC hm
 refine dS [0,3] b7 (fun j f w=>f 5=i64 j/\aO G K (box e 92 d::bI 92 Kf a1 c2 c::L) w) cA ?_
 ·rintro j b8 f d9 hm hr ⟨p,b9⟩
  unfold sS at hm
  refine aP (aL (bJ p (aI (v:=zS a1 c.length c2) (aA (bQ (len:=c.length) aBv rfl) (aA (cL rfl rfl) (aG ?_))))))
  rcases aH hm with ⟨Z,hm⟩|⟨Z,hm⟩
  ·refine aN Z rfl (aX (aB (aP (bY (aP (cO [0,3,5] (fun f w=>∃ a0,sQ c j a0=some b8/\f 27=zB a0/\aO G K (box e 92 d::bI 92 Kf a1 c2 c::L) w) cA ?_))))));obtain ⟨e0,a2,a4,c0,a5⟩:=aO.lendBp b9 .head
   obtain ⟨c1,q,r,a,a6⟩:=aO.lendSp c0 (zL u a2) .head
   refine dF (C:=fun w'=>aO G c1 (L) w') cC (by kernel_rfl) (aO.mono a (dY.drew _)) (aZ (fun _ a=>bM (v:=zS a1 c.length c2) rfl) (aZ (fun _ a=>bM p) ?_));obtain ⟨c3,k,hm⟩:=aC hm
   have l:=aOk r k
   refine aZ (fun _ a=>gQ aBv rfl l rfl rfl rfl k) (aZ (fun _ a=>lV (k':=j.toNat * 4+0) aIE l rfl rfl) ?_);obtain ⟨e1,c5,c6⟩:=cI.el (sz:=4) rfl r k
   obtain ⟨e2,e3,rfl,e4⟩:=c6
   refine aZ (fun _ a=>bZ (t:=0) fJ a c5 rfl rfl) (aZ (fun _ a=>bC (t':=0) aIE rfl rfl) (aZ (fun _ a=>bZ (t:=0) fJ a (a4.mono q) rfl rfl) (aZ (fun _ a=>lF rfl rfl) (aZ (fun _ a=>bM (v:=zB (c3.B == x_.B)) rfl) ?_))))
   rcases aH hm with ⟨b,hm⟩|⟨b,hm⟩
   ·refine bT (g:=20) rfl rfl b (aZ (fun _ a=>bM (v:=zS a1 c.length c2) rfl) (bT (g:=20) rfl rfl b (aZ (fun _ a=>bM p) (bT (g:=20) rfl rfl b (aZ (fun _ a=>gQ aBv rfl l rfl rfl rfl k) (bT (g:=20) rfl rfl b (aZ (fun _ a=>lV (k':=j.toNat * 4+1) aHb l rfl rfl) (bT (g:=20) rfl rfl b (aZ (fun _ a=>bC (t':=1) aHb rfl rfl) (bT (g:=20) rfl rfl b ?_))))))))));obtain ⟨e5,c7,c8⟩:=cI.el (sz:=4) rfl r k
    obtain ⟨e6,e7,rfl,c9⟩:=c8
    obtain ⟨a7,d0,hm⟩:=aC hm
    refine fH (vs:=[eN a1 (j.toNat * 4+1),eN (some ⟨e,0,none⟩) (0+1)]) (v:=zB a7) call45 rfl (fun _ a=>(aCg d0 a (iQ.sub (t:=1) (m:=3) c7 rfl) c9 (iQ.sub (t:=1) (m:=3) (a4.mono q) rfl) (x.mono (zL (zL u a2) q)))) (aZ (fun _ a=>bH (v:=zB a7) b rfl rfl) (dL (fun e8 d1=>?_)))
    have d2:=a6 _ _ d1
    have e9:=a5 _ _ d2
    exact cA
   ·refine bE (g:=20) rfl rfl (dE b) (bE (g:=20) rfl rfl (dE b) (bE (g:=20) rfl rfl (dE b) (bE (g:=20) rfl rfl (dE b) (bE (g:=20) rfl rfl (dE b) (bE (g:=20) rfl rfl (dE b) (aZ (fun _ a=>bK (v:=zB false) b rfl rfl) (dL (fun f0 d3=>?_))))))))
    have d4:=a6 _ _ d3
    have f1:=a5 _ _ d4
    exact cA
  ·exact cA
theorem aHt {rec_:(List Definition)->Int->Int->(List Int)->(List dK)->Option (List dK)} (ih:∀ {G:qG} {K:Hp} {L:List iZ} {w:World} {Kf:Hp} {j:(List Definition)} {a1:Option Addr} {c2:Nat} {d:Int} {part:Int} {e:(List Int)} {a4:Option Addr} {c5:Nat} {out:(List dK)} {a7:Option Addr} {c8:Nat} {R:(List dK)} (hm:rec_ j d part e out=some R) (hs:aO G K (bI 92 Kf a7 c8 out::L) w) (z:Hp.le Kf K) (V:cI K a1 c2 j) (x:cI K a4 c5 e),
  Calls prog 72 ([zS a1 j.length c2,i64 d,i64 part,zS a4 e.length c5,zS a7 out.length c8]:List Value).toArray w (eX fun v w'=>∃ Z b8 b9,v=zS b8 R.length b9/\Hp.le K Z/\aO G Z (bI 92 Z b8 b9 R::L) w'))
  {G:qG} {K:Hp} {L:List iZ} {w:World} {Kf:Hp} {j:(List Definition)} {a1:Option Addr} {c2:Nat} {d:Int} {part:Int} {e:(List Int)} {a4:Option Addr} {c5:Nat} {out:(List dK)} {a7:Option Addr} {c8:Nat} {R:(List dK)} (hm:cU rec_ j d part e out=some R) (hs:aO G K (bI 92 Kf a7 c8 out::L) w) (z:Hp.le Kf K) (V:cI K a1 c2 j) (x:cI K a4 c5 e):
  Calls prog 72 ([zS a1 j.length c2,i64 d,i64 part,zS a4 e.length c5,zS a7 out.length c8]:List Value).toArray w (eX fun v w'=>∃ Z b8 b9,v=zS b8 R.length b9/\Hp.le K Z/\aO G Z (bI 92 Z b8 b9 R::L) w'):=by
 let g0:=[zS a1 j.length c2,i64 d,i64 (wr (part+1)),zS a4 e.length c5,zS a7 out.length c8]
 let J:=bI 92 K a7 c8 out
 let c0:=bI 92 Kf a7 c8 out
 refine aT func72 rfl (by kernel_rfl) (by show (5:Nat)<=125;decide) ?_;unfold cU at hm
 refine aL (aD (v:=zS none 0 0) (aG (aL (aI (v:=zS a1 j.length c2) (aI (v:=i64 d) ?_)))));obtain ⟨e9,g1,hm⟩:=aC hm
 refine aA (cQ jV rfl V rfl rfl rfl g1) ?_;obtain ⟨q3,g2,i3⟩:=cI.el (sz:=3) rfl V g1
 obtain ⟨a2,a3,rfl,a5⟩:=i3
 refine aA (cM (k':=d.toNat * 3+2) jQ rfl g2 rfl) (aA (bZ (t:=2) yM hs g2 rfl rfl) (aD (v:=zS a2 e9.Body.length a3) (aG (aL (aI (v:=zS a2 e9.Body.length a3) (aI (v:=i64 part) ?_))))));obtain ⟨a,g3,hm⟩:=aC hm
 refine aA (cQ lH rfl a5 rfl rfl rfl g3) ?_;obtain ⟨q4,i4,i5⟩:=cI.el (sz:=4) rfl a5 g3
 obtain ⟨b,c,rfl,d8⟩:=i5
 refine aA (eP (t:=0) (vs:=[i64 a.Kind,i64 a.Number,str a.Name,zS b a.Arguments.length c]) xG hs i4 rfl rfl rfl) (dA (vs:=[i64 0,i64 0,str ([]:bL),zS none 0 0]) zeroValue157 hs rfl (fun g q5 i6=>(cT (i:=0) (ns:=[i64 a.Kind,i64 a.Number,str a.Name,zS b a.Arguments.length c]) (us:=[i64 a.Kind,i64 a.Number,str a.Name,zS b a.Arguments.length c]) sizeOf157 i6 rfl rfl rfl rfl rfl (eM rfl) rfl rfl (fun b1 (y:aO G K (box g 157 [i64 a.Kind,i64 a.Number,str a.Name,zS b a.Arguments.length c]::c0::L) b1)=>(aG (aP (aL (aI (v:=zS a7 out.length c8) (aA (bQ (len:=out.length) aBv rfl) (aA (jU rfl rfl) (aG ?_)))))))))))
 rcases aH hm with ⟨d9,hm⟩|⟨d9,hm⟩
 ·refine aN d9 rfl (aL (aI (v:=zS a7 out.length c8) (aD (v:=zS a7 out.length c8) (aG ?_))))
  have q6:aO G K (box g 157 [i64 a.Kind,i64 a.Number,str a.Name,zS b a.Arguments.length c]::J::L) b1:=aO.weak (i:=1) y rfl (fun _ h=>bI.mono z h)
  exact cA
 ·refine aJ d9 rfl (aX (aB (aP (aL (aA (bC (t':=0) fA rfl rfl) (aA (bP dC y (i:=0) rfl rfl rfl) (aG (bR [] (fun f w=>∃ e0 e1 g4 g5,Hp.le K e0/\rB e1=some R/\f 4=zS g4 e1.length g5/\aO G e0 (bI 92 e0 g4 g5 e1::L) w) cA (aL (aA (cP rfl rfl) (aD (v:=zB (a.Kind == 1)) (aG ?_))))))))))))
  rcases aH hm with ⟨e2,hm⟩|⟨e2,hm⟩
  ·refine aN e2 rfl (aL (aI (v:=i64 d) (aI (v:=i64 part) (aA (cH rfl rfl) (aI (v:=zS a4 e.length c5) ?_)))));obtain ⟨b2,i7,hm⟩:=aC hm
   refine aV (vs:=[zS a4 e.length c5]) call71 rfl (aEq i7 y x) ?_
   rintro _ q7 ⟨b3,b4,rfl,i8⟩
   refine aA (iJ (vs:=[(0,i64 d),(1,i64 (wr (part+1))),(2,zS b3 b2.length b4)]) (cs:=[i64 d,i64 (wr (part+1)),zS b3 b2.length b4]) aNF rfl (by kernel_rfl)) (dA (vs:=[i64 0,i64 0,zS none 0 0]) zeroValue83 i8 rfl (fun a6 q8 i9=>(cT (i:=0) (ns:=[i64 d,i64 (wr (part+1)),zS b3 b2.length b4]) (us:=[i64 d,i64 (wr (part+1)),zS b3 b2.length b4]) sizeOf83 i9 rfl rfl rfl rfl rfl (eM rfl) rfl rfl (fun j0 (e3:aO G K (box a6 83 [i64 d,i64 (wr (part+1)),zS b3 b2.length b4]::bI 2 K b3 b4 b2::box g 157 [i64 a.Kind,i64 a.Number,str a.Name,zS b a.Arguments.length c]::c0::L) j0)=>(aG (yI [3,4,12,13] (fun f w=>∃ l m k n o,nN e out a l m k=some R/\aO G K (bI 2 K n o k::box a6 83 [i64 l,i64 m,zS n k.length o]::box g 157 [i64 a.Kind,i64 a.Number,str a.Name,zS b a.Arguments.length c]::c0::L) w) ?_ ?_))))))
   ·rintro f j1 ⟨l,m,k,n,o,hm,j2⟩
    unfold nN at hm
    refine aP ?_
    have g6:aO G K (box a6 83 [i64 l,i64 m,zS n k.length o]::box g 157 [i64 a.Kind,i64 a.Number,str a.Name,zS b a.Arguments.length c]::bI 2 K n o k::c0::L) j1:=(aO.arr 3 [1,2,0] j2 rfl)
    refine jN (C:=fun w'=>∃ L',aO G K (box a6 83 [i64 l,i64 m,zS n k.length o]::box g 157 [i64 a.Kind,i64 a.Number,str a.Name,zS b a.Arguments.length c]::L') w') [(0,0),(1,0),(2,0),(3,0),(4,0),(5,0),(8,0),(6,1),(7,1),(9,0),(10,1),(11,0)] cC (by kernel_rfl) (fun _ hg=>⟨_,aO.mono g6 hg⟩) (fun q9 j3=>?_)
    have a8:=aO.mono g6 j3
    refine dZ rfl (fun _ _=>bM (v:=zS a7 out.length c8) rfl) (dZ rfl (fun _ _=>bC (t':=2) lI rfl rfl) (dZ rfl (fun _ ⟨_,a8⟩=>bP fJ a8 (i:=1) rfl rfl rfl) (dZ rfl (fun _ _=>bC (t':=3) jP rfl rfl) (dZ rfl (fun _ ⟨_,a8⟩=>bP qI a8 (i:=1) rfl rfl rfl) (dZ rfl (fun _ _=>bM (v:=zS a4 e.length c5) rfl) (dZ rfl (fun _ ⟨_,a8⟩=>eQ (us:=[i64 l,i64 m,zS n k.length o]) aDW a8 (i:=0) rfl rfl rfl rfl) (qW rfl ?_)))))))
    obtain ⟨c9,j4,hm⟩:=aC hm
    refine aV (vs:=[zS b a.Arguments.length c,zS a4 e.length c5]) call105 rfl (aGI j4 a8 d8 x) ?_
    rintro _ r0 ⟨d0,d1,rfl,g7⟩
    refine cG (aB ⟨⟨_,(aO.arr 3 [1,2,0] g7 rfl)⟩,?_⟩)
    refine qW rfl ?_;obtain ⟨r1,r2,j5,j6,j7⟩:=aO.lendSp g7 (zR _) .head
    obtain ⟨d2,j8,hm⟩:=aC hm
    refine aV (vs:=[str a.Name,zS d0 c9.length d1]) call107 rfl (aLO j8 j6 j5) ?_
    rintro _ e4 ⟨rfl,j9⟩
    have g8:=j7 _ _ j9
    refine cG (aB ⟨⟨_,(aO.arr 3 [1,2,0] g8 rfl)⟩,?_⟩)
    refine dZ rfl (fun _ _=>iJ (vs:=[(0,str d2),(1,zA #[i64 l,i64 m,zS n k.length o])]) (cs:=[str d2,i64 l,i64 m,zS n k.length o]) bs_92 rfl (by kernel_rfl)) (qW rfl ?_);obtain ⟨b5,g9,k0,e5⟩:=aO.giveSp g8 (zR _) zt3
    replace e5:aO G b5 (bI 2 K d0 d1 c9::box a6 83 [i64 l,i64 m,zS n k.length o]::box g 157 [i64 a.Kind,i64 a.Number,str a.Name,zS b a.Arguments.length c]::c0::L) e4:=e5
    have k1:aO G b5 (bI 2 K d0 d1 c9::box a6 83 [i64 l,i64 m,zS n k.length o]::box g 157 [i64 a.Kind,i64 a.Number,str a.Name,zS b a.Arguments.length c]::bI 92 b5 a7 c8 out::L) e4:=aO.weak (i:=3) e5 rfl (fun _ h=>bI.mono (zL z g9) h)
    have k2:aO G b5 (bI 92 b5 a7 c8 out::bI 2 K d0 d1 c9::box a6 83 [i64 l,i64 m,zS n k.length o]::box g 157 [i64 a.Kind,i64 a.Number,str a.Name,zS b a.Arguments.length c]::L) e4:=(aO.arr 4 [3,0,1,2] k1 rfl)
    obtain ⟨k3,k4,hm⟩:=aC hm
    refine aV (vs:=[zS a7 out.length c8,zA #[str d2,i64 l,i64 m,zS n k.length o]]) call106 rfl (aJE (Kf:=b5) (x_:=⟨d2,⟨l,m,k⟩⟩) k4 k2 (zR _) k0) ?_
    rintro _ r3 ⟨k5,k6,rfl,k7⟩
    refine cG (aB ⟨⟨_,(aO.weakK (aO.arr 4 [2,3,0,1] k7 rfl) g9)⟩,?_⟩)
    exact dZ rfl (fun _ _=>gI (v:=zS k5 k3.length k6) rfl) (sK cA)
   refine aL (aI (v:=zS a2 e9.Body.length a3) (aI (v:=i64 part) (aA (cH rfl rfl) ?_)));obtain ⟨k8,d3,hm⟩:=aC hm
   refine aA (cQ lH rfl a5 rfl rfl rfl d3) ?_;obtain ⟨r4,b6,k9⟩:=cI.el (sz:=4) rfl a5 d3
   obtain ⟨l0,l1,rfl,l2⟩:=k9
   refine aA (cM (k':=(wr (part+1)).toNat * 4+0) fA rfl b6 rfl) (aA (bZ (t:=0) dC e3 b6 rfl rfl) (aA (cP rfl rfl) (aG ?_)))
   rcases aH hm with ⟨h0,hm⟩|⟨h0,hm⟩
   ·refine aN h0 rfl (jN (C:=fun w'=>∃ L',aO G K L' w') [(0,0),(1,0),(2,0),(3,0),(4,0),(5,0),(6,0),(7,0),(8,0),(9,0),(10,0),(11,0),(12,0),(13,1),(14,0),(15,2)] cC (by kernel_rfl) (fun _ hg=>⟨_,aO.mono e3 hg⟩) (fun r5 l3=>?_))
    have c1:=aO.mono e3 l3
    refine dZ rfl (fun _ _=>bM (v:=zS a2 e9.Body.length a3) rfl) (dZ rfl (fun _ _=>bM (v:=i64 part) rfl) (dZ rfl (fun _ _=>cH rfl rfl) (dZ rfl (fun _ _=>cQ lH rfl a5 rfl rfl rfl d3) (dZ rfl (fun _ _=>cM (k':=(wr (part+1)).toNat * 4+1) jO rfl b6 rfl) (dZ rfl (fun _ ⟨_,c1⟩=>bZ (t:=1) dC c1 b6 rfl rfl) (dZ rfl (fun _ _=>bM (v:=zS a2 e9.Body.length a3) rfl) (dZ rfl (fun _ _=>bM (v:=i64 part) rfl) (dZ rfl (fun _ _=>cH rfl rfl) (dZ rfl (fun _ _=>cQ lH rfl a5 rfl rfl rfl d3) (dZ rfl (fun _ _=>cM (k':=(wr (part+1)).toNat * 4+3) jP rfl b6 rfl) (dZ rfl (fun _ ⟨_,c1⟩=>bZ (t:=3) qI c1 b6 rfl rfl) (dZ rfl (fun _ _=>bM (v:=zS a4 e.length c5) rfl) (qW rfl ?_)))))))))))))
    obtain ⟨r6,l4,hm⟩:=aC hm
    exact aV (vs:=[zS l0 k8.Arguments.length l1,zS a4 e.length c5]) call105 rfl (aGI l4 c1 l2 x) cA
   ·exact cA
  ·refine aJ e2 rfl (aL (aA (cP rfl rfl) (aD (v:=zB (a.Kind == 2)) (aG ?_))))
   rcases aH hm with ⟨e6,hm⟩|⟨e6,hm⟩
   ·refine aN e6 rfl (aL (aI (v:=zS a1 j.length c2) (aI (v:=i64 d) (aI (v:=i64 part) (aA (cH rfl rfl) (aI (v:=zS a4 e.length c5) (aI (v:=zS a7 out.length c8) ?_)))))))
    have l5:aO G K (box g 157 [i64 a.Kind,i64 a.Number,str a.Name,zS b a.Arguments.length c]::J::L) b1:=aO.weak (i:=1) y rfl (fun _ h=>bI.mono z h)
    have l6:aO G K (J::box g 157 [i64 a.Kind,i64 a.Number,str a.Name,zS b a.Arguments.length c]::L) b1:=(aO.arr 2 [1,0] l5 rfl)
    obtain ⟨e7,l7,hm⟩:=aC hm
    refine aV (vs:=g0) call72 rfl (ih (Kf:=K) l7 l6 (zR _) V x) ?_
    rintro _ r7 ⟨l8,e8,f0,rfl,d4,l9⟩
    refine aD (v:=zS e8 e7.length f0) (aG (aL (aI (v:=zS a1 j.length c2) (aI (v:=i64 d) (aI (v:=zS a2 e9.Body.length a3) (aI (v:=i64 part) (aA (cH rfl rfl) ?_)))))));obtain ⟨m0,m1,hm⟩:=aC hm
    refine aV (vs:=[zS a2 e9.Body.length a3,i64 (wr (part+1))]) call108 rfl (aHN m1 l9 (a5.mono d4)) ?_
    rintro _ r8 ⟨rfl,m2⟩
    refine aI (v:=zS a4 e.length c5) (aI (v:=zS e8 e7.length f0) ?_);obtain ⟨m3,m4,hm⟩:=aC hm
    refine aV (vs:=[zS a1 j.length c2,i64 d,i64 m0,zS a4 e.length c5,zS e8 e7.length f0]) call72 rfl (ih (Kf:=l8) m4 m2 (zR _) (V.mono d4) (x.mono d4)) ?_
    rintro _ r9 ⟨m5,h1,h2,rfl,m6,m7⟩
    refine aD (v:=zS h1 m3.length h2) (aG ?_);obtain rfl:=zI hm
    exact aY (bA (aM (aM (aR results72 rfl ⟨m5,h1,h2,rfl,(zL d4 m6),(aO.arr 2 [0] m7 rfl)⟩))))
   ·refine aJ e6 rfl (aL (aA (cP rfl rfl) (aD (v:=zB (a.Kind == 3)) (aG ?_))))
    rcases aH hm with ⟨f1,hm⟩|⟨f1,hm⟩
    ·refine aN f1 rfl (aL (aA (bC (t':=3) jP rfl rfl) (aA (bP qI y (i:=0) rfl rfl rfl) ?_)));obtain ⟨m9,h4,hm⟩:=aC hm
     refine aA (cQ lJ rfl d8 rfl rfl rfl h4) ?_;obtain ⟨s0,n0,n1⟩:=cI.el (sz:=1) rfl d8 h4
     obtain ⟨n2,n3,rfl,n4⟩:=n1
     refine aA (bZ (t:=0) aFk y n0 rfl rfl) (aI (v:=zS a4 e.length c5) ?_);obtain ⟨s1,n5,hm⟩:=aC hm
     refine aV (vs:=[zS n2 m9.length n3,zS a4 e.length c5]) call109 rfl (aGH n5 y n4 x) ?_
     rintro _ f2 ⟨rfl,h5⟩
     refine aA (gO rfl rfl) (aG ?_)
     rcases aH hm with ⟨f3,hm⟩|⟨f3,hm⟩
     ·refine aN f3 rfl (aL (aI (v:=zS a1 j.length c2) (aI (v:=i64 d) (aI (v:=i64 part) (aA (cH rfl rfl) (aI (v:=zS a4 e.length c5) (aI (v:=zS a7 out.length c8) ?_)))))))
      have n6:aO G K (box g 157 [i64 a.Kind,i64 a.Number,str a.Name,zS b a.Arguments.length c]::J::L) f2:=aO.weak (i:=1) h5 rfl (fun _ h=>bI.mono z h)
      have n7:aO G K (J::box g 157 [i64 a.Kind,i64 a.Number,str a.Name,zS b a.Arguments.length c]::L) f2:=(aO.arr 2 [1,0] n6 rfl)
      obtain ⟨s2,n8,hm⟩:=aC hm
      exact aV (vs:=g0) call72 rfl (ih (Kf:=K) n8 n7 (zR _) V x) cA
     ·refine aJ f3 rfl ?_
      have s3:aO G K (box g 157 [i64 a.Kind,i64 a.Number,str a.Name,zS b a.Arguments.length c]::J::L) f2:=aO.weak (i:=1) h5 rfl (fun _ h=>bI.mono z h)
      exact cA
    ·refine aJ f1 rfl (aL (aA (cP rfl rfl) (aD (v:=zB (a.Kind == 4)) (aG ?_))))
     rcases aH hm with ⟨f4,hm⟩|⟨f4,hm⟩
     ·refine aN f4 rfl (aL (aD (v:=i64 0) (aG (bR [] (fun f w=>∃ c3 c4 d5 d6,Hp.le K c3/\wP c4=some R/\f 4=zS d5 c4.length d6/\aO G c3 (bI 92 c3 d5 d6 c4::L) w) ?_ ?_))))
      ·rintro f s4 ⟨c3,c4,d5,d6,n9,hm,o0,o1⟩
       unfold wP at hm
       exact bN (aB ⟨aU,c3,c4,d5,d6,n9,hm,o0,o1⟩)
      have s5:aO G K (box g 157 [i64 a.Kind,i64 a.Number,str a.Name,zS b a.Arguments.length c]::J::L) b1:=aO.weak (i:=1) y rfl (fun _ h=>bI.mono z h)
      obtain ⟨s6,o2,ho⟩:=aC hm
      refine eG [0,1,2,3,12] o2 (fun p a9 f w=>∃ q r u,Hp.le K q/\f 4=zS r p.length u/\f 14=i64 a9/\aO G q (box g 157 [i64 a.Kind,i64 a.Number,str a.Name,zS b a.Arguments.length c]::bI 92 q r u p::L) w) cA ?_
      ·rintro p a9 s7 f s8 hm hr ⟨q,r,u,b0,h7,f5,f6⟩
       unfold kI at hm
       refine aP (aL (bJ f5 (aA (bC (t':=1) jO rfl rfl) (aA (bP dC f6 (i:=0) rfl rfl rfl) (aA (aAF rfl rfl) (aG ?_))))))
       rcases aH hm with ⟨f7,hm⟩|⟨f7,hm⟩
       ·refine aN f7 rfl (aX (aB (aP (bY (aW (aI (v:=zS a1 j.length c2) (aI (v:=i64 d) (aI (v:=i64 part) (aA (cH rfl rfl) (aI (v:=zS a4 e.length c5) ?_))))))))));obtain ⟨o3,o4,hm⟩:=aC hm
        refine aV (vs:=[zS a4 e.length c5]) call71 rfl (aEq o4 f6 (x.mono b0)) ?_
        rintro _ s9 ⟨o5,o6,rfl,o7⟩
        refine bJ f5 (gA (Kt:=K) (xs:=([a9]:List Int)) (cs:=[i64 a9]) (vs:=[(0,i64 a9)]) gD aEA rfl rfl o7 rfl (by kernel_rfl) rfl rfl rfl ⟨rfl,trivial⟩ (fun o8 o9 (p0:aO G q (bI 2 K o8 1 ([a9]:List Int)::bI 2 K o5 o6 o3::box g 157 [i64 a.Kind,i64 a.Number,str a.Name,zS b a.Arguments.length c]::bI 92 q r u p::L) o9)=>?_));obtain ⟨h8,p1,hm⟩:=aC hm
        refine lB (i:=0) gD underlying75 aEA rfl rfl p0 rfl b0 b0 p1 rfl rfl rfl rfl (fun _ h=>h) (fun h9 i0 d7 (p2:aO G q (bI 2 K h9 i0 h8::box g 157 [i64 a.Kind,i64 a.Number,str a.Name,zS b a.Arguments.length c]::bI 92 q r u p::L) d7)=>(bJ h7 ?_));obtain ⟨b7,f8,p3,f9⟩:=aO.giveSp p2 b0 .head
        replace f9:aO G b7 (box g 157 [i64 a.Kind,i64 a.Number,str a.Name,zS b a.Arguments.length c]::bI 92 q r u p::L) d7:=f9
        have p4:aO G b7 (box g 157 [i64 a.Kind,i64 a.Number,str a.Name,zS b a.Arguments.length c]::bI 92 b7 r u p::L) d7:=aO.weak (i:=1) f9 rfl (fun _ h=>bI.mono f8 h)
        have p5:aO G b7 (bI 92 b7 r u p::box g 157 [i64 a.Kind,i64 a.Number,str a.Name,zS b a.Arguments.length c]::L) d7:=(aO.arr 2 [1,0] p4 rfl)
        obtain ⟨p6,p7,hm⟩:=aC hm
        refine aV (vs:=[zS a1 j.length c2,i64 d,i64 (wr (part+1)),zS h9 h8.length i0,zS r p.length u]) call72 rfl (ih (Kf:=b7) p7 p5 (zR _) (V.mono (zL b0 f8)) p3) ?_
        rintro _ t0 ⟨p8,i1,i2,rfl,p9,q0⟩
        exact aD (v:=zS i1 p6.length i2) (cG (bN (aB (aW (bJ f5 (aA (cH rfl rfl) (aD (v:=i64 (wr (a9+1))) (aG ⟨_,(zI hm).symm,aU,p8,i1,i2,(zL (zL b0 f8) p9),rfl,rfl,(aO.arr 2 [1,0] q0 rfl)⟩))))))))
       ·refine aJ f7 rfl (cK (bF (bF ?_)))
        have q1:=hr _ (zI hm).symm
        subst q1
        have hm:(wP p)=some R:=ho
        clear hr ho
        exact bV (aB ⟨aU,q,p,r,u,b0,hm,h7,(aO.arr 1 [] f6 rfl)⟩)
     ·refine aJ f4 rfl ?_
      have q2:aO G K (box g 157 [i64 a.Kind,i64 a.Number,str a.Name,zS b a.Arguments.length c]::J::L) b1:=aO.weak (i:=1) y rfl (fun _ h=>bI.mono z h)
      exact aX (bN (aB ⟨aU,K,out,a7,c8,(zR _),hm,rfl,(aO.arr 1 [] q2 rfl)⟩))
theorem aHu (n:Nat):∀ {G:qG} {K:Hp} {L:List iZ} {w:World} {Kf:Hp} {a:(List Definition)} {a1:Option Addr} {c2:Nat} {d:Int} {part:Int} {b:(List Int)} {a4:Option Addr} {c5:Nat} {out:(List dK)} {a7:Option Addr} {c8:Nat} {R:(List dK)} (hm:dG n a d part b out=some R) (c:aO G K (bI 92 Kf a7 c8 out::L) w) (e:Hp.le Kf K) (g:cI K a1 c2 a) (h:cI K a4 c5 b),
  Calls prog 72 ([zS a1 a.length c2,i64 d,i64 part,zS a4 b.length c5,zS a7 out.length c8]:List Value).toArray w (eX fun v w'=>∃ i j k,v=zS j R.length k/\Hp.le K i/\aO G i (bI 92 i j k R::L) w'):=by
 induction n with
 |zero=>
  intro G K L w Kf a a1 c2 d part b a4 c5 out a7 c8 R hm c e g h
  unfold dG at hm
  cases hm
 |succ n ih=>
  intro G K L w Kf a a1 c2 d part b a4 c5 out a7 c8 R hm c e g h
  exact aHt (rec_:=dG n) (fun hm c e g h=>ih hm c e g h) hm c e g h
theorem aIP {list:(List Definition)} {d part:Int} {values:(List Int)} {out R:(List dK)} (hm:aCs list d part values out=some R) (hs:aO G K (bI 92 Kf a7 c8 out::L) w) (hKf:Hp.le Kf K) (h3:cI K a1 c2 list) (h6:cI K a4 c5 values):
  Calls prog 72 ([zS a1 list.length c2,i64 d,i64 part,zS a4 values.length c5,zS a7 out.length c8]:List Value).toArray w (eX fun v w'=>∃ K' ra1 rc1,v=zS ra1 R.length rc1/\Hp.le K K'/\aO G K' (bI 92 K' ra1 rc1 R::L) w'):=aHu 100000 hm hs hKf h3 h6
theorem aNW {d:(List Definition)} {p:bO} {b:Nat} {R:((List dK) × Bool)} (hm:aCt d p=some R) (g:aO G K (L) w) (n:cI K a1 c2 d) (a:iQ K a4 b [i64 p.Definition,i64 p.Part,zS a7 p.Values.length c8]) (o:cI K a7 c8 p.Values):
  Calls prog 44 ([zS a1 d.length c2,eN a4 b]:List Value).toArray w (eX fun v w'=>∃ e h i,v=Value.tuple #[zS h R.1.length i,zB R.2]/\Hp.le K e/\aO G e (bI 92 e h i R.1::L) w'):=by
 refine aT func44 rfl (by kernel_rfl) (by show (2:Nat)<=26;decide) ?_;unfold aCt at hm
 refine aL (aD (v:=zS none 0 0) (aD (v:=zB false) (aG (aP (jN (C:=fun w'=>∃ L',aO G K L' w') [(0,0),(1,0),(2,0),(3,0),(4,0),(5,0),(6,0),(7,0),(8,0),(9,0),(10,0),(11,0),(12,0),(13,1),(14,1),(15,0)] cC (by kernel_rfl) (fun _ hg=>⟨_,aO.mono g hg⟩) (fun q j=>?_))))))
 have c:=aO.mono g j
 refine dZ rfl (fun _ _=>bM (v:=zS a1 d.length c2) rfl) (dZ rfl (fun _ _=>bM (v:=eN a4 b) rfl) (dZ rfl (fun _ _=>dT rfl a) (dZ rfl (fun _ _=>cM (k':=b+0) aIB rfl a rfl) (dZ rfl (fun _ ⟨_,c⟩=>bZ (t:=0) dC c a rfl rfl) (dZ rfl (fun _ _=>bM (v:=eN a4 b) rfl) (dZ rfl (fun _ _=>dT rfl a) (dZ rfl (fun _ _=>cM (k':=b+1) aIC rfl a rfl) (dZ rfl (fun _ ⟨_,c⟩=>bZ (t:=1) dC c a rfl rfl) (dZ rfl (fun _ _=>bM (v:=eN a4 b) rfl) (dZ rfl (fun _ _=>dT rfl a) (dZ rfl (fun _ _=>cM (k':=b+2) aID rfl a rfl) (dZ rfl (fun _ ⟨_,c⟩=>bZ (t:=2) aCe c a rfl rfl) (qW rfl (gA (Kt:=K) (xs:=([]:List dK)) (cs:=[]) (vs:=[]) aBv aPq rfl rfl c rfl (by kernel_rfl) rfl rfl rfl trivial (fun k l (m:aO G K (bI 92 K k 0 ([]:List dK)::L) l)=>(cG (aB ⟨⟨_,m⟩,?_⟩)))))))))))))))))
 exact qW rfl cA
theorem aGJ {a:(List bL)} {b:bL} {R:Int} (hm:aCN a b=some R) (e:aO G K (L) w) (g:cI K a1 c2 a):
  Calls prog 75 ([zS a1 a.length c2,str b]:List Value).toArray w (eX fun v w'=>v=i64 R/\aO G K (L) w'):=by
 refine aT func75 rfl (by kernel_rfl) (by show (2:Nat)<=19;decide) ?_;unfold aCN at hm
 refine aL (aD (v:=i64 0) (aG (aP (aL (aD (v:=i64 0) (aG (bR [] (fun f w=>aCu=some R/\aO G K (L) w) cA ?_)))))));obtain ⟨h,c,ho⟩:=aC hm
 exact dS [0,1] c (fun d f w=>f 5=i64 d/\aO G K (L) w) cA cA
end Gv
namespace Gv
open Gv.Hp renaming le_refl→zR
open Go.Value renaming slice→zS,bool→zB
open Option.some renaming inj→zI
open Go Go.Proofs Go.Proofs.Tryz
set_option maxRecDepth 20000
set_option maxHeartbeats 40000000
variable {G:qG} {K Kf:Hp} {L:List iZ} {w:World} {a1 a4 a7:Option Addr} {c2 c5 c8:Nat}
theorem aLP {g R:(List bL)} (hm:aEM g=some R) (hs:aO G K (L) w) (y:cI K a1 c2 g):
  Calls prog 74 ([zS a1 g.length c2]:List Value).toArray w (eX fun v w'=>∃ b0 b1,v=zS b0 R.length b1/\aO G K (bI 9 K b0 b1 R::L) w'):=by
 refine aT func74 rfl (by kernel_rfl) (by show (1:Nat)<=65;decide) ?_;unfold aEM at hm
 refine aL (aD (v:=zS none 0 0) (aG (aL (gA (Kt:=K) (xs:=([([116,97,117]:bL)]:List bL)) (cs:=[str ([116,97,117]:bL)]) (vs:=[(0,str ([116,97,117]:bL))]) dQ aEz rfl rfl hs rfl (by kernel_rfl) rfl rfl rfl ⟨rfl,trivial⟩ (fun a4 w5 (f8:aO G K (bI 9 K a4 1 ([([116,97,117]:bL)]:List bL)::L) w5)=>(aD (v:=zS a4 ([([116,97,117]:bL)]:List bL).length 1) (aG (aP (aL (aD (v:=i64 0) (aG (bR [] (fun f w=>∃ z a8 c9,aCv z=some R/\f 3=zS a8 z.length c9/\aO G K (bI 9 K a8 c9 z::L) w) cA ?_))))))))))))
 obtain ⟨f9,d4,ho⟩:=aC hm
 refine eG [0] d4 (fun c j f w=>∃ d e,f 3=zS d c.length e/\f 4=i64 j/\aO G K (bI 9 K d e c::L) w) cA ?_
 ·rintro c j J f g0 hm hr ⟨d,e,b5,m,b6⟩
  unfold qP at hm
  refine aP (aL (bJ m (aI (v:=zS a1 g.length c2) (aA (bQ (len:=g.length) dQ rfl) (aA (cL rfl rfl) (aG ?_))))))
  rcases aH hm with ⟨b7,hm⟩|⟨b7,hm⟩
  ·refine aN b7 rfl (aX (aB (aP (bR [0,4] (fun f w=>∃ o p q,uH j o=some J/\f 3=zS p o.length q/\aO G K (bI 9 K p q o::L) w) ?_ ?_))))
   ·rintro f g1 ⟨o,p,q,hm,d5,d6⟩
    unfold uH at hm
    exact aB (aW (bJ m (aA (cH rfl rfl) (aD (v:=i64 (wr (j+1))) (aG ⟨_,(zI hm).symm,aU,p,q,d5,rfl,d6⟩)))))
   refine aP (aL (bJ b5 (aI (v:=zS a1 g.length c2) (bJ m ?_))));obtain ⟨k,V,hm⟩:=aC hm
   refine aA (cQ dQ rfl y rfl rfl rfl V) ?_;obtain ⟨g2,b8,d7⟩:=cI.el (sz:=1) rfl y V
   cases d7
   refine aA (bZ (t:=0) fJ b6 b8 rfl rfl) ?_;obtain ⟨g3,g4,d8,d9,e0⟩:=aO.lendSp b6 (zR _) .head
   obtain ⟨g5,e1,hm⟩:=aC hm
   refine aV (vs:=[zS d c.length e,str k]) call75 rfl (aGJ e1 d9 d8) ?_
   rintro _ g6 ⟨rfl,e2⟩
   have g7:=e0 _ _ e2
   refine aA (sJ rfl rfl) (aG ?_)
   rcases aH hm with ⟨b9,hm⟩|⟨b9,hm⟩
   ·exact cA
   ·refine aJ b9 rfl (aX (aB (aL (aD (v:=i64 1) (aG (aP (bR [0,3,4] (fun f w=>∃ r,zY c j k r=some J/\f 5=i64 r/\aO G K (bI 9 K d e c::L) w) ?_ ?_)))))))
    ·rintro f g8 ⟨r,hm,c0,e3⟩
     unfold zY at hm
     refine aB (aL (bJ b5 (gA (Kt:=K) (xs:=([([]:bL)]:List bL)) (cs:=[str ([]:bL)]) (vs:=[(0,str ([]:bL))]) dQ aEz rfl rfl e3 rfl (by kernel_rfl) rfl rfl rfl ⟨rfl,trivial⟩ (fun e4 e5 (e6:aO G K (bI 9 K e4 1 ([([]:bL)]:List bL)::bI 9 K d e c::L) e5)=>?_))));obtain ⟨l,e7,hm⟩:=aC hm
     refine lB (i:=0) dQ underlying25 aEz rfl rfl e6 rfl (zR _) (zR _) e7 rfl rfl rfl rfl (fun _ h=>h) (fun a b e8 (g9:aO G K (bI 9 K a b l::L) e8)=>(aD (v:=zS a l.length b) (aG (aP (aL (aI (v:=zS a l.length b) (aA (bQ (len:=l.length) dQ rfl) (aA (fU rfl rfl) (aD (v:=i64 (wr ((l.length:Int) - 1))) (aG (bR [0,4,5] (fun f w=>∃ u,zW j k r u=some J/\f 3=zS a u.length b/\aO G K (bI 9 K a b u::L) w) ?_ ?_)))))))))))
     ·rintro f h0 ⟨u,hm,c1,Z⟩
      unfold zW at hm
      refine aB (aW (bJ c1 (bJ c0 (aI (v:=zS a1 g.length c2) (bJ m (aA (cQ dQ rfl y rfl rfl rfl V) (aA (bZ (t:=0) fJ Z b8 rfl rfl) ?_)))))));obtain ⟨h1,a0,hm⟩:=aC hm
      have e9:=fD Z (i:=0) rfl a0
      refine aA (gQ dQ rfl e9 rfl rfl rfl a0) ?_;obtain ⟨c3,c4,hm⟩:=aC hm
      exact mF (i:=0) (t:=0) (ns:=[str k]) (e':=(k:bL)) sizeOf9 Z rfl (zR _) rfl rfl rfl a0 c4 rfl rfl (eM rfl) rfl (fun cs h=>by cases h;rfl) (fun f0 (f1:aO G K (bI 9 K a b c3::L) f0)=>(cG (bN (aB ⟨aU,c3,a,b,hm,(Eq.trans c1 (congrArg (fun n=>zS a n b) (cR c4))),f1⟩))))
     obtain ⟨h2,f2,ho⟩:=aC hm
     refine eG [0,4,5] f2 (fun a2 a3 f w=>f 3=zS a a2.length b/\f 6=i64 a3/\aO G K (bI 9 K a b a2::L) w) cA ?_
     ·rintro a2 a3 h4 f h5 hm hr ⟨a5,x,a6⟩
      unfold zX at hm
      refine aP (aL (bJ x (bJ c0 (aA (jU rfl rfl) (aG ?_)))))
      rcases aH hm with ⟨c5,hm⟩|⟨c5,hm⟩
      ·refine aN c5 rfl (aX (aB (aP (bY (aW (bJ a5 (bJ x (bJ a5 (bJ x (aA (fU rfl rfl) ?_))))))))));obtain ⟨c6,a7,hm⟩:=aC hm
       have c7:=fD a6 (i:=0) rfl a7
       refine aA (gQ dQ rfl c7 rfl rfl rfl a7) (aA (aDS (t:=0) fJ a6 (i:=0) rfl a7 rfl rfl rfl) ?_);obtain ⟨h6,c8,hm⟩:=aC hm
       refine aA (gQ dQ rfl c7 rfl rfl rfl c8) ?_;obtain ⟨f3,d0,hm⟩:=aC hm
       exact mF (i:=0) (t:=0) (ns:=[str c6]) (e':=(c6:bL)) sizeOf9 a6 rfl (zR _) rfl rfl rfl c8 d0 rfl rfl (eM rfl) rfl (fun cs h=>by cases h;rfl) (fun f4 (f5:aO G K (bI 9 K a b f3::L) f4)=>(cG (bN (aB (aW (bJ x (aA (fU rfl rfl) (aD (v:=i64 (wr (a3 - 1))) (aG ⟨_,(zI hm).symm,aU,(Eq.trans a5 (congrArg (fun n=>zS a n b) (cR d0))),rfl,f5⟩)))))))))
      ·exact cA
    obtain ⟨h7,f6,ho⟩:=aC hm
    refine dS [0,3,4] f6 (fun a9 f w=>f 5=i64 a9/\aO G K (bI 9 K d e c::L) w) cA ?_
    ·rintro a9 f7 f h8 hm hr ⟨h9,i0⟩
     unfold uJ at hm
     exact aP (aP (cO [0,3,4,5] (fun f w=>∃ d1,uI a9 d1=some f7/\f 35=zB d1/\aO G K (bI 9 K d e c::L) w) cA cA))
  ·exact cA
theorem aGK {a:Edge} {c:Nat} {b:Edge} {d:Nat} {R:Bool} (hm:aCO a b=some R) (e:aO G K (L) w) (g:iQ K a1 c [i64 a.F,i64 a.B,i64 a.To]) (h:iQ K a4 d [i64 b.F,i64 b.B,i64 b.To]):
  Calls prog 78 ([eN a1 c,eN a4 d]:List Value).toArray w (eX fun v w'=>v=zB R/\aO G K (L) w'):=by
 exact cA
theorem aMM {j:(List Edge)} {e:Edge} {R:(List Edge)} (hm:aGu j e=some R) (hs:aO G K (bI 94 K a1 c2 j::L) w):
  Calls prog 76 ([zS a1 j.length c2,Value.agg #[i64 e.F,i64 e.B,i64 e.To]]:List Value).toArray w (eX fun v w'=>∃ b2 b4,v=zS b2 R.length b4/\aO G K (bI 94 K b2 b4 R::L) w'):=by
 let a:=[i64 e.F,i64 e.B,i64 e.To]
 let o:=bI 94 K a1 c2 j
 refine aT func76 rfl (by kernel_rfl) (by show (2:Nat)<=57;decide) ?_;unfold aGu at hm
 refine aL (dR (v:=Value.agg #[i64 e.F,i64 e.B,i64 e.To]) (vs:=a) hs rfl rfl (fun k w4 g2=>(aD (v:=zS none 0 0) (aG (aL (aI (v:=zS a1 j.length c2) (aA (bQ (len:=j.length) iD rfl) (aD (v:=i64 (j.length:Int)) (aG (aP (bR [0,3] (fun f w=>∃ p,aBL j e p=some R/\f 5=i64 p/\aO G K (box k 94 a::o::L) w) ?_ ?_)))))))))))
 ·rintro f w8 ⟨p,hm,J,b⟩
  unfold aBL at hm
  refine aB (aP (aP (cO [0,3,5] (fun f w=>∃ a0,xX j e p a0=some R/\f 30=zB a0/\aO G K (box k 94 a::o::L) w) ?_ ?_)))
  ·rintro f g4 ⟨a0,hm,c7,c8⟩
   unfold xX at hm
   refine aB ?_
   rcases aH hm with ⟨b5,hm⟩|⟨b5,hm⟩
   ·exact cA
   ·refine aJ b5 c7 (aX (aB (aL (aI (v:=zS a1 j.length c2) (aA (iJ (vs:=[]) (cs:=[i64 0,i64 0,i64 0]) bs_94 rfl (by kernel_rfl)) (gA (Kt:=K) (xs:=([⟨0,0,0⟩]:List Edge)) (cs:=[i64 0,i64 0,i64 0]) (vs:=[(0,Value.agg #[i64 0,i64 0,i64 0])]) iD aIF rfl rfl c8 rfl (by kernel_rfl) rfl rfl rfl ⟨rfl,trivial⟩ (fun c9 d0 (d1:aO G K (bI 94 K c9 1 ([⟨0,0,0⟩]:List Edge)::box k 94 a::o::L) d0)=>?_)))))));obtain ⟨u,d2,hm⟩:=aC hm
    refine lB (i:=1) iD underlying29 aIF rfl rfl d1 rfl (zR _) (zR _) d2 rfl rfl rfl rfl (fun _ h=>h) (fun c d d3 (g5:aO G K (box k 94 a::bI 94 K c d u::L) d3)=>(aD (v:=zS c u.length d) (aG (aP (aL (aI (v:=zS c u.length d) (aA (bQ (len:=u.length) iD rfl) (aA (fU rfl rfl) (aD (v:=i64 (wr ((u.length:Int) - 1))) (aG (bR [3,5] (fun f w=>∃ V,aBJ e p V=some R/\f 0=zS c V.length d/\aO G K (box k 94 a::bI 94 K c d V::L) w) ?_ ?_)))))))))))
    ·rintro f g6 ⟨V,hm,b6,a2⟩
     unfold aBJ at hm
     refine aB (aL (bJ b6 (bJ J (aA (eQ (us:=a) aBw a2 (i:=0) rfl rfl rfl rfl) ?_))));obtain ⟨g7,a3,hm⟩:=aC hm
     have d4:=fD a2 (i:=1) rfl a3
     refine aA (gQ iD rfl d4 rfl rfl rfl a3) ?_;obtain ⟨a4,b7,hm⟩:=aC hm
     refine mF (i:=1) (t:=0) (ns:=a) (e':=(⟨e.F,e.B,e.To⟩:Edge)) sizeOf94 a2 rfl (zR _) rfl rfl rfl a3 b7 rfl rfl (eM rfl) rfl (fun cs h=>by cases h;rfl) (fun d5 (d6:aO G K (box k 94 a::bI 94 K c d a4::L) d5)=>(aG (aL (bJ (v:=zS c a4.length d) (Eq.trans b6 (congrArg (fun n=>zS c n d) (cR b7))) (aD (v:=zS c a4.length d) (aG ?_))))));obtain rfl:=zI hm
     exact aY (aR results76 rfl ⟨c,d,rfl,(aO.arr 1 [] d6 rfl)⟩)
    obtain ⟨g8,d8,ho⟩:=aC hm
    refine eG [3,5] d8 (fun a5 a6 f w=>f 0=zS c a5.length d/\f 6=i64 a6/\aO G K (box k 94 a::bI 94 K c d a5::L) w) cA ?_
    ·rintro a5 a6 g9 f h0 hm hr ⟨a7,Z,a8⟩
     unfold aBK at hm
     refine aP (aL (bJ Z (bJ J (aA (jU rfl rfl) (aG ?_)))))
     rcases aH hm with ⟨b8,hm⟩|⟨b8,hm⟩
     ·refine aN b8 rfl (aX (aB (aP (bY (aW (bJ a7 (bJ Z (bJ a7 (bJ Z (aA (fU rfl rfl) ?_))))))))));obtain ⟨l,a9,hm⟩:=aC hm
      have b9:=fD a8 (i:=1) rfl a9
      refine aA (gQ iD rfl b9 rfl rfl rfl a9) (aA (aGh (t:=0) (vs:=[i64 l.F,i64 l.B,i64 l.To]) aBw a8 (i:=1) rfl a9 rfl rfl rfl rfl) ?_);obtain ⟨h1,c0,hm⟩:=aC hm
      refine aA (gQ iD rfl b9 rfl rfl rfl c0) ?_;obtain ⟨d9,c1,hm⟩:=aC hm
      exact mF (i:=1) (t:=0) (ns:=[i64 l.F,i64 l.B,i64 l.To]) (e':=(⟨l.F,l.B,l.To⟩:Edge)) sizeOf94 a8 rfl (zR _) rfl rfl rfl c0 c1 rfl rfl (eM rfl) rfl (fun cs h=>by cases h;rfl) (fun e0 (e1:aO G K (box k 94 a::bI 94 K c d d9::L) e0)=>(cG (bN (aB (aW (bJ Z (aA (fU rfl rfl) (aD (v:=i64 (wr (a6 - 1))) (aG ⟨_,(zI hm).symm,aU,(Eq.trans a7 (congrArg (fun n=>zS c n d) (cR c1))),rfl,e1⟩)))))))))
     ·exact cA
  refine dF (C:=fun w'=>aO G K (box k 94 a::o::L) w') cC (by kernel_rfl) (aO.mono b (dY.drew _)) (aZ (fun _ b=>bM J) (aZ (fun _ b=>jU rfl rfl) (aZ (fun _ b=>bM (v:=zB (decide (0 < p))) rfl) ?_)))
  rcases aH hm with ⟨m,hm⟩|⟨m,hm⟩
  ·refine bT (g:=22) rfl rfl m (aZ (fun _ b=>bM (v:=zS a1 j.length c2) rfl) (bT (g:=22) rfl rfl m (aZ (fun _ b=>bM J) (bT (g:=22) rfl rfl m (aZ (fun _ b=>fU rfl rfl) (bT (g:=22) rfl rfl m ?_))))));obtain ⟨q,b0,hm⟩:=aC hm
   have e2:=fD b (i:=1) rfl b0
   exact aZ (fun _ b=>gQ iD rfl e2 rfl rfl rfl b0) (bT (g:=22) rfl rfl m (aZ (fun _ b=>aGh (t:=0) (vs:=[i64 q.F,i64 q.B,i64 q.To]) aBw b (i:=1) rfl b0 rfl rfl rfl rfl) (bT (g:=22) rfl rfl m (aZ (fun _ b=>eQ (us:=a) aBw b (i:=0) rfl rfl rfl rfl) (bT (g:=22) rfl rfl m (aZ (fun _ b=>R_eqlG (eq_94 (x:=q) (y:=e)) rfl rfl) (aZ (fun _ b=>bH (v:=zB (decide ((q:Edge)=e))) m rfl rfl) (dL (fun h2 e3=>(aB ⟨aU,decide ((q:Edge)=e),hm,rfl,e3⟩))))))))))
  ·exact cA
 obtain ⟨h3,e4,ho⟩:=aC hm
 refine dS [0,3] e4 (fun z f w=>f 5=i64 z/\aO G K (box k 94 a::o::L) w) cA ?_
 ·rintro z e5 f h4 hm hr ⟨c3,c4⟩
  unfold xZ at hm
  refine aP (aP (cO [0,3,5] (fun f w=>∃ c5,xY z c5=some e5/\f 17=zB c5/\aO G K (box k 94 a::o::L) w) cA (aW (bJ c3 (aA (jU rfl rfl) (aI (v:=zB (decide (0 < z))) ?_))))))
  rcases aH hm with ⟨r,hm⟩|⟨r,hm⟩
  ·refine bG r rfl rfl (aI (v:=zS a1 j.length c2) (bG r rfl rfl (bJ c3 (bG r rfl rfl (aA (fU rfl rfl) (bG r rfl rfl ?_))))));obtain ⟨h5,b1,hm⟩:=aC hm
   have e6:=fD c4 (i:=1) rfl b1
   refine aA (gQ iD rfl e6 rfl rfl rfl b1) (bG r rfl rfl ?_);obtain ⟨h6,e8,e9,f0,f1⟩:=aO.lendBp c4 .head
   obtain ⟨h7,f2,f3,f4,f5⟩:=aO.lendSp f0 e8 .head
   obtain ⟨h8,f6,f7⟩:=cI.el (sz:=3) rfl f3 b1
   cases f7
   obtain ⟨h9,f8,hm⟩:=aC hm
   refine aV (vs:=[eN (some ⟨k,0,none⟩) 0,eN a1 ((wr (z - 1)).toNat * 3+0)]) call78 rfl (aGK f8 f4 (e9.mono f2) f6) ?_
   rintro _ i0 ⟨rfl,f9⟩
   have g0:=f5 _ _ f9
   have i1:=f1 _ _ g0
   exact cA
  ·exact cA
theorem aLQ {d e:Int} {texts:(List bL)} {edges:(List Edge)} {R:iW} (hm:aEN d e texts edges=some R) (hs:aO G K (L) w) (r:cI K a1 c2 texts) (y:cI K a4 c5 edges):
  Calls prog 46 ([i64 d,i64 e,zS a1 texts.length c2,zS a4 edges.length c5]:List Value).toArray w (eX fun v w'=>∃ z J V Z,v=Value.agg (zCa R z J V Z)/\aO G K (bI 9 K z J R.L::bI 94 K V Z R.E::L) w'):=by
 let h:=zG
 refine aT func46 rfl (by kernel_rfl) (by show (4:Nat)<=43;decide) ?_;unfold aEN at hm
 refine aL (dA (vs:=h) zeroValue31 hs rfl (fun l w8 b3=>(aG (aL (aI (v:=i64 d) (aI (v:=i64 e) (aI (v:=zS a1 texts.length c2) ?_)))))));obtain ⟨a,b4,hm⟩:=aC hm
 refine aV (vs:=[zS a1 texts.length c2]) call74 rfl (aLP b4 b3 r) ?_
 rintro _ e7 ⟨b,c,rfl,b5⟩
 refine gA (Kt:=K) (xs:=([]:List Edge)) (cs:=[]) (vs:=[]) iD aIF rfl rfl b5 rfl (by kernel_rfl) rfl rfl rfl trivial (fun j b6 (b8:aO G K (bI 94 K j 0 ([]:List Edge)::bI 9 K b c a::box l 31 h::L) b6)=>(aA (iJ (vs:=[(0,i64 d),(1,i64 e),(2,zS b a.length c),(3,zS j ([]:List Edge).length 0)]) (cs:=[i64 d,i64 e,zS b a.length c,zS j ([]:List Edge).length 0]) aGp rfl (by kernel_rfl)) (dA (vs:=h) zeroValue31 b8 rfl (fun p e8 b9=>(cT (i:=0) (ns:=[i64 d,i64 e,zS b a.length c,zS j ([]:List Edge).length 0]) (us:=[i64 d,i64 e,zS b a.length c,zS j ([]:List Edge).length 0]) sizeOf31 b9 rfl rfl rfl rfl rfl (eM rfl) rfl rfl (fun c0 (e9:aO G K (box p 31 [i64 d,i64 e,zS b a.length c,zS j ([]:List Edge).length 0]::bI 94 K j 0 ([]:List Edge)::bI 9 K b c a::box l 31 h::L) c0)=>(aG (aP (aL (aD (v:=i64 0) (aG (bR [8,9] (fun f w=>∃ u a0 a2,aCw d e a u=some R/\aO G K (bI 94 K a0 a2 u::box p 31 [i64 d,i64 e,zS b a.length c,zS a0 u.length a2]::bI 9 K b c a::box l 31 h::L) w) cA ?_))))))))))))
 obtain ⟨f0,c1,ho⟩:=aC hm
 refine eG [2,3,8,9] c1 (fun m a3 f w=>∃ n o,f 10=i64 a3/\aO G K (box p 31 [i64 d,i64 e,zS b a.length c,zS n m.length o]::bI 94 K n o m::bI 9 K b c a::box l 31 h::L) w) cA ?_
 ·rintro m a3 f1 f f2 hm hr ⟨n,o,a5,a6⟩
  unfold uK at hm
  refine aP (aL (bJ a5 (aI (v:=zS a4 edges.length c5) (aA (bQ (len:=edges.length) iD rfl) (aA (cL rfl rfl) (aG ?_))))))
  rcases aH hm with ⟨a7,hm⟩|⟨a7,hm⟩
  ·refine aN a7 rfl (aX (aB (aP (bY (aL (aI (v:=zS a4 edges.length c5) (bJ a5 ?_)))))));obtain ⟨g,a8,hm⟩:=aC hm
   refine aA (cQ iD rfl y rfl rfl rfl a8) ?_;obtain ⟨f3,c3,c4⟩:=cI.el (sz:=3) rfl y a8
   cases c4
   refine aA (eP (t:=0) (vs:=[i64 g.F,i64 g.B,i64 g.To]) aBw a6 c3 rfl rfl rfl) (dA (vs:=[i64 0,i64 0,i64 0]) zeroValue94 a6 rfl (fun c6 f4 c7=>(cT (i:=0) (ns:=[i64 g.F,i64 g.B,i64 g.To]) (us:=[i64 g.F,i64 g.B,i64 g.To]) sizeOf94 c7 rfl rfl rfl rfl rfl (eM rfl) rfl rfl (fun c8 (c9:aO G K (box c6 94 [i64 g.F,i64 g.B,i64 g.To]::box p 31 [i64 d,i64 e,zS b a.length c,zS n m.length o]::bI 94 K n o m::bI 9 K b c a::box l 31 h::L) c8)=>(aG (aP ?_))))))
   obtain ⟨f5,x,d0,d1,d2⟩:=aO.lendBp c9 .head
   obtain ⟨d3,q,d4,a9,d5⟩:=aO.lendBp d1 .head
   refine jN (C:=fun w'=>∃ L',aO G d3 L' w') [(0,0),(1,0),(2,0),(3,0),(4,0),(5,0),(6,0),(7,1),(8,0),(9,2)] cC (by kernel_rfl) (fun _ hg=>⟨_,aO.mono a9 hg⟩) (fun f6 d6=>?_)
   have k:=aO.mono a9 d6
   refine dZ rfl (fun _ _=>bC (t':=2) qK rfl rfl) (dZ rfl (fun _ ⟨_,k⟩=>bZ (t:=2) oR k d4 rfl rfl) (dZ rfl (fun _ _=>bM (v:=zS a1 texts.length c2) rfl) (dZ rfl (fun _ _=>bC (t':=1) rW rfl rfl) (dZ rfl (fun _ ⟨_,k⟩=>bZ (t:=1) dC k (d0.mono q) rfl rfl) ?_))));obtain ⟨d7,b0,hm⟩:=aC hm
   refine dZ rfl (fun _ _=>cQ dQ rfl (r.mono (Hp.le_trans x q)) rfl rfl rfl b0) ?_;obtain ⟨f7,d8,d9⟩:=cI.el (sz:=1) rfl r b0
   cases d9
   refine dZ rfl (fun _ ⟨_,k⟩=>bZ (t:=0) fJ k (d8.mono (Hp.le_trans x q)) rfl rfl) (qW rfl ?_);obtain ⟨f8,f9,e0,e1,e2⟩:=aO.lendSp k (Hp.le_trans x q) zt1
   obtain ⟨g0,e3,hm⟩:=aC hm
   refine aV (vs:=[zS b a.length c,str d7]) call75 rfl (aGJ e3 e1 e0) ?_
   rintro _ g1 ⟨rfl,e4⟩
   have b1:=e2 _ _ e4
   refine cG (aB ⟨⟨_,b1⟩,?_⟩)
   refine dZ rfl (fun _ _=>bC (t':=1) rW rfl rfl) ?_
   have e5:=d5 _ _ b1
   have g2:=d2 _ _ e5
   exact cA
  ·exact cA
theorem aLR {a:bL} {R:Int} (hm:aEO a=some R) (d:aO G K (L) w):
  Calls prog 184 ([str a]:List Value).toArray w (eX fun v w'=>v=i64 R/\aO G K (L) w'):=by
 refine aT func184 rfl (by kernel_rfl) (by show (1:Nat)<=17;decide) ?_;unfold aEO at hm
 refine aL (aD (v:=i64 0) (aG (aP (aL (aD (v:=i64 0) (aG (bR [0] (fun f w=>aCx a=some R/\aO G K (L) w) cA ?_)))))));obtain ⟨e,b,ho⟩:=aC hm
 exact dS [0] b (fun c f w=>f 3=i64 c/\aO G K (L) w) cA cA
theorem aKI {a:bL} {by_:UInt8} {R:(List bL)} (hm:aDq a by_=some R) (x:aO G K (L) w):
  Calls prog 185 ([str a,Value.int .u8 (by_.toNat:Int)]:List Value).toArray w (eX fun v w'=>∃ l m,v=zS l R.length m/\aO G K (bI 9 K l m R::L) w'):=by
 refine aT func185 rfl (by kernel_rfl) (by show (2:Nat)<=35;decide) ?_;unfold aDq at hm
 refine aL (aD (v:=zS none 0 0) (aG (aL (gA (Kt:=K) (xs:=([]:List bL)) (cs:=[]) (vs:=[]) dQ aEz rfl rfl x rfl (by kernel_rfl) rfl rfl rfl trivial (fun n y (a2:aO G K (bI 9 K n 0 ([]:List bL)::L) y)=>(aD (v:=zS n ([]:List bL).length 0) (aG (aL (aD (v:=i64 0) (aG (aP (aL (aD (v:=i64 0) (aG (bR [0] (fun f w=>∃ g o p q,vQ a g o=some R/\f 5=zS p g.length q/\f 6=i64 o/\aO G K (bI 9 K p q g::L) w) cA ?_)))))))))))))))
 obtain ⟨a3,z,ho⟩:=aC hm
 refine mT [0,1] z (fun h r b f w=>∃ i j,f 5=zS i h.length j/\f 6=i64 r/\f 7=i64 b/\aO G K (bI 9 K i j h::L) w) cA ?_
 ·rintro h r b J f a4 hm hr ⟨i,j,a6,a7,t,a8⟩
  unfold aBi at hm
  refine aP (aL (bJ t (aI (v:=str a) (aA (gP runUnderlying9 rfl) (aA (cL rfl rfl) (aG ?_))))))
  rcases aH hm with ⟨u,hm⟩|⟨u,hm⟩
  ·refine aN u rfl (aX (aB (aP (bR [0,1,7] (fun f w=>∃ c k d e,rO b c k=some J/\f 5=zS d c.length e/\f 6=i64 k/\aO G K (bI 9 K d e c::L) w) ?_ ?_))))
   ·rintro f a9 ⟨c,k,d,e,hm,V,Z,a0⟩
    unfold rO at hm
    exact aB (aW (bJ t (aA (cH rfl rfl) (aD (v:=i64 (wr (b+1))) (aG ⟨_,(zI hm).symm,aU,d,e,V,Z,rfl,a0⟩)))))
   exact cA
  ·exact cA
theorem aJF {c:bL} {R:(Int × Bool)} (hm:yA c=some R) (z:aO G K (L) w):
  Calls prog 186 ([str c]:List Value).toArray w (eX fun v w'=>v=Value.tuple #[i64 R.1,zB R.2]/\aO G K (L) w'):=by
 refine aT func186 rfl (by kernel_rfl) (by show (1:Nat)<=62;decide) ?_;unfold yA at hm
 refine aL (aD (v:=i64 0) (aD (v:=zB false) (aG (aL (aD (v:=i64 0) (aG (yI [0] (fun f w=>∃ d,pL c d=some R/\f 4=i64 d/\aO G K (L) w) ?_ ?_)))))))
 ·rintro f J ⟨d,hm,p,V⟩
  unfold pL at hm
  refine aP (aP (cO [0,4] (fun f w=>∃ g,lL c d g=some R/\f 36=zB g/\aO G K (L) w) ?_ ?_))
  ·rintro f Z ⟨g,hm,q,a0⟩
   unfold lL at hm
   refine aB ?_
   rcases aH hm with ⟨j,hm⟩|⟨j,hm⟩
   ·exact cA
   ·refine aJ j q (aX (aB (aL (aD (v:=i64 0) (aG (aP (aL (bJ p (aD (v:=i64 d) (aG (bR [4] (fun f w=>∃ h,sT d h=some R/\f 5=i64 h/\aO G K (L) w) ?_ ?_)))))))))))
    ·rintro f a1 ⟨h,hm,a2,a3⟩
     unfold sT at hm
     exact aB (yI [] (fun f w=>∃ k,aAa k=some R/\f 5=i64 k/\aO G K (L) w) cA cA)
    obtain ⟨a4,r,ho⟩:=aC hm
    refine eG [0,4] r (fun i i32 f w=>f 5=i64 i/\f 6=i64 i32/\aO G K (L) w) cA ?_
    ·rintro i i32 a5 f a6 hm hr ⟨t,e,u⟩
     unfold pK at hm
     refine aP (aL (bJ e (aI (v:=str c) (aA (gP runUnderlying9 rfl) (aA (cL rfl rfl) (aG ?_))))))
     rcases aH hm with ⟨l,hm⟩|⟨l,hm⟩
     ·refine aN l rfl (aX (aB (aP (bY (aP (aL (aI (v:=str c) (bJ e ?_))))))));obtain ⟨c45,m,hm⟩:=aC hm
      refine aA (aEw runUnderlying9 rfl rfl m) ?_;obtain ⟨a7,x,hm⟩:=aC hm
      refine aV (vs:=[Value.int .u8 (c45.toNat:Int)]) call142 rfl (aFS x u) ?_
      rintro _ a8 ⟨rfl,y⟩
      refine aA (dB rfl) (aG ?_)
      rcases aH hm with ⟨n,hm⟩|⟨n,hm⟩
      ·exact cA
      ·exact aJ n rfl (aX (aB (aW (bJ t (aA (R_mul rfl rfl) (aI (v:=str c) (bJ e (aA (aEw runUnderlying9 rfl rfl m) (aA (aRs (a:=c45) (b:=(48:UInt8)) rfl rfl) (aA (aRr runUnderlying2 rfl ⟨_,runUnderlying5⟩) (aA (cH rfl rfl) (aD (v:=i64 (wr ((wr (10 * i))+(wr ((c45 - (48:UInt8)).toNat:Int))))) (cG (bN (aB (aW (bJ e (aA (cH rfl rfl) (aD (v:=i64 (wr (i32+1))) (aG ⟨_,(zI hm).symm,aU,rfl,rfl,y⟩))))))))))))))))))))
     ·exact cA
  exact cA
 exact aP (cO [0,4] (fun f w=>∃ o,pM c o=some R/\f 14=zB o/\aO G K (L) w) cA cA)
theorem aJG {a:bL} {R:((List Int) × Bool)} (hm:aEf a=some R) (hs:aO G K (L) w):
  Calls prog 148 ([str a]:List Value).toArray w (eX fun v w'=>∃ q r,v=Value.tuple #[zS q R.1.length r,zB R.2]/\aO G K (bI 2 K q r R.1::L) w'):=by
 refine aT func148 rfl (by kernel_rfl) (by show (1:Nat)<=70;decide) ?_;unfold aEf at hm
 refine aL (aD (v:=zS none 0 0) (aD (v:=zB false) (aG (aL (aI (v:=str a) ?_)))));obtain ⟨h,q2,hm⟩:=aC hm
 refine aV (vs:=[str a]) call184 rfl (aLR q2 hs) ?_
 rintro _ w3 ⟨rfl,b6⟩
 refine aD (v:=i64 h) (aG (aP (aL (aI (v:=i64 h) (aI (v:=str a) (aA (gP runUnderlying9 rfl) (aA (cP rfl rfl) (aG ?_))))))))
 rcases aH hm with ⟨u,hm⟩|⟨u,hm⟩
 ·exact cA
 ·refine aJ u rfl (aX (aB (aP (aP (cO [0,4] (fun f w=>∃ l,pN a h l=some R/\f 31=zB l/\aO G K (L) w) ?_ ?_)))))
  ·rintro f b7 ⟨l,hm,a3,a4⟩
   unfold pN at hm
   refine aB ?_
   rcases aH hm with ⟨x,hm⟩|⟨x,hm⟩
   ·exact cA
   ·refine aJ x a3 (aX (aB (aL (aI (v:=str a) (aI (v:=i64 h) (aA (cH rfl rfl) (aI (v:=str a) (aA (gP runUnderlying9 rfl) (aA (fU rfl rfl) ?_)))))))));obtain ⟨a5,a6,hm⟩:=aC hm
    refine aA (R_slSLH runUnderlying9 rfl rfl rfl a6) ?_;obtain ⟨b,a7,hm⟩:=aC hm
    refine aV (vs:=[str a5,Value.int .u8 44]) call185 rfl (aKI (by_:=(44:UInt8)) a7 a4) ?_
    rintro _ b8 ⟨c,d,rfl,a8⟩
    refine aD (v:=zS c b.length d) (aG (aL (gA (Kt:=K) (xs:=([]:List Int)) (cs:=[]) (vs:=[]) gD aEA rfl rfl a8 rfl (by kernel_rfl) rfl rfl rfl trivial (fun y a9 (b9:aO G K (bI 2 K y 0 ([]:List Int)::bI 9 K c d b::L) a9)=>(aD (v:=zS y ([]:List Int).length 0) (aG (aP (aL (aD (v:=i64 0) (aG (bR [] (fun f w=>∃ m z J,sU m=some R/\f 6=zS z m.length J/\aO G K (bI 2 K z J m::L) w) cA ?_)))))))))));obtain ⟨c0,b0,ho⟩:=aC hm
    refine eG [5] b0 (fun e n f w=>∃ j k,f 6=zS j e.length k/\f 7=i64 n/\aO G K (bI 2 K j k e::bI 9 K c d b::L) w) cA ?_
    ·rintro e n b1 f c1 hm hr ⟨j,k,c2,V,o⟩
     unfold sW at hm
     refine aP (aL (bJ V (aI (v:=zS c b.length d) (aA (bQ (len:=b.length) dQ rfl) (aA (cL rfl rfl) (aG ?_))))))
     rcases aH hm with ⟨Z,hm⟩|⟨Z,hm⟩
     ·refine aN Z rfl (aX (aB (aP (bY (aL (aI (v:=zS c b.length d) (bJ V ?_)))))));obtain ⟨b2,p,hm⟩:=aC hm
      have b3:=fD o (i:=1) rfl p
      refine aA (gQ dQ rfl b3 rfl rfl rfl p) (aA (aDS (t:=0) fJ o (i:=1) rfl p rfl rfl rfl) ?_);obtain ⟨g,b4,hm⟩:=aC hm
      refine aV (vs:=[str b2]) call186 rfl (aJF b4 o) ?_
      rintro _ c3 ⟨rfl,c4⟩
      exact aI (v:=Value.tuple #[i64 g.1,zB g.2]) (aA (dJ rfl rfl) (aA (dJ rfl rfl) (aD (v:=i64 g.1) (aD (v:=zB g.2) (aG (aP (aP (cO [5,6,7,8] (fun f w=>∃ a0,sV e n g a0=some b1/\f 61=zB a0/\aO G K (bI 2 K j k e::bI 9 K c d b::L) w) cA cA))))))))
     ·exact cA
  exact cA
theorem aKJ {a:bL} {R:Bool} (hm:aDr a=some R) (b:aO G K (L) w):
  Calls prog 110 ([str a]:List Value).toArray w (eX fun v w'=>v=zB R/\aO G K (L) w'):=by
 exact cA
theorem aKK {a:(List bL)} {R:Bool} (hm:aDs a=some R) (l:aO G K (L) w) (m:cI K a1 c2 a):
  Calls prog 77 ([zS a1 a.length c2]:List Value).toArray w (eX fun v w'=>v=zB R/\aO G K (L) w'):=by
 refine aT func77 rfl (by kernel_rfl) (by show (1:Nat)<=53;decide) ?_;unfold aDs at hm
 refine aL (aD (v:=zB false) (aG (aP (aP (cO [0] (fun f w=>∃ b,rP a b=some R/\f 17=zB b/\aO G K (L) w) ?_ ?_)))))
 ·rintro f n ⟨b,hm,h,o⟩
  unfold rP at hm
  refine aB ?_
  rcases aH hm with ⟨d,hm⟩|⟨d,hm⟩
  ·exact cA
  ·refine aJ d h (aX (aB (aP (aL (aD (v:=i64 1) (aG (bR [] (fun f w=>aBj=some R/\aO G K (L) w) cA ?_)))))));obtain ⟨p,i,ho⟩:=aC hm
   refine dS [0] i (fun c f w=>f 3=i64 c/\aO G K (L) w) cA ?_
   ·rintro c j f q hm hr ⟨k,r⟩
    unfold vR at hm
    refine aP (aL (bJ k (aI (v:=zS a1 a.length c2) (aA (bQ (len:=a.length) dQ rfl) (aA (cL rfl rfl) (aG ?_))))))
    rcases aH hm with ⟨e,hm⟩|⟨e,hm⟩
    ·exact aN e rfl (aX (aB (aP (bY (aP (cO [0,3] (fun f w=>∃ g,oM c g=some j/\f 52=zB g/\aO G K (L) w) cA cA))))))
    ·exact cA
 exact cA
theorem aOz {t:iW} {d:Nat} {R:Bool} (hm:aIK t=some R) (hs:aO G K (L) w) (b:iQ K a1 d (zC t a4 c5 a7 c8)) (h6:cI K a4 c5 t.L) (h:cI K a7 c8 t.E):
  Calls prog 47 ([eN a1 d]:List Value).toArray w (eX fun v w'=>v=zB R/\aO G K (L) w'):=by
 refine aT func47 rfl (by kernel_rfl) (by show (1:Nat)<=101;decide) ?_;unfold aIK at hm
 refine aL (aD (v:=zB false) (aG (aP (aP (cO [0] (fun f w=>∃ l,xH t l=some R/\f 39=zB l/\aO G K (L) w) ?_ ?_)))))
 ·rintro f b5 ⟨l,hm,J,b6⟩
  unfold xH at hm
  refine aB ?_
  rcases aH hm with ⟨o,hm⟩|⟨o,hm⟩
  ·exact cA
  ·refine aJ o J (aX (aB (aP (aL (aD (v:=i64 0) (aG (bR [] (fun f w=>aFu=some R/\aO G K (L) w) cA ?_)))))));obtain ⟨b7,V,ho⟩:=aC hm
   refine dS [0] V (fun e f w=>f 3=i64 e/\aO G K (L) w) cA ?_
   ·rintro e p f b8 hm hr ⟨j,k⟩
    unfold aDu at hm
    refine aP (aL (bJ j (aI (v:=eN a1 d) (aA (dT rfl b) (aA (cM (k':=d+3) nH rfl b rfl) (aA (bZ (t:=3) aDf k b rfl rfl) (aA (bQ (len:=t.E.length) iD rfl) (aA (cL rfl rfl) (aG ?_)))))))))
    rcases aH hm with ⟨q,hm⟩|⟨q,hm⟩
    ·refine aN q rfl (aX (aB (aP (bY (aL (aI (v:=eN a1 d) (aA (dT rfl b) (aA (cM (k':=d+3) nH rfl b rfl) (aA (bZ (t:=3) aDf k b rfl rfl) (bJ j ?_))))))))));obtain ⟨a,r,hm⟩:=aC hm
     refine aA (cQ iD rfl h rfl rfl rfl r) ?_;obtain ⟨b9,Z,a0⟩:=cI.el (sz:=3) rfl h r
     cases a0
     refine aA (eP (t:=0) (vs:=[i64 a.F,i64 a.B,i64 a.To]) aBw k Z rfl rfl rfl) (dA (vs:=[i64 0,i64 0,i64 0]) zeroValue94 k rfl (fun m c0 a2=>(cT (i:=0) (ns:=[i64 a.F,i64 a.B,i64 a.To]) (us:=[i64 a.F,i64 a.B,i64 a.To]) sizeOf94 a2 rfl rfl rfl rfl rfl (eM rfl) rfl rfl (fun a3 (c1:aO G K (box m 94 [i64 a.F,i64 a.B,i64 a.To]::L) a3)=>(aG (aP (aP (cO [0,3,4] (fun f w=>∃ n,aAO t e a n=some p/\f 87=zB n/\aO G K (box m 94 [i64 a.F,i64 a.B,i64 a.To]::L) w) ?_ ?_))))))))
     ·rintro f c2 ⟨n,hm,a5,u⟩
      unfold aAO at hm
      refine aB ?_
      rcases aH hm with ⟨x,hm⟩|⟨x,hm⟩
      ·exact cA
      ·refine aJ x a5 (aX (aB (aP (cO [0,3] (fun f w=>∃ y,aDt e y=some p/\f 100=zB y/\aO G K (L) w) cA (aW (bJ j (aA (jU rfl rfl) (aI (v:=zB (decide (0 < e))) ?_))))))))
       rcases aH hm with ⟨c,hm⟩|⟨c,hm⟩
       ·refine bG c rfl rfl (aI (v:=eN a1 d) (bG c rfl rfl (aA (dT rfl b) (bG c rfl rfl (aA (cM (k':=d+3) nH rfl b rfl) (bG c rfl rfl (aA (bZ (t:=3) aDf u b rfl rfl) (bG c rfl rfl (bJ j (bG c rfl rfl (aA (fU rfl rfl) (bG c rfl rfl ?_))))))))))));obtain ⟨c3,z,hm⟩:=aC hm
        refine aA (cQ iD rfl h rfl rfl rfl z) ?_;obtain ⟨c4,a6,a8⟩:=cI.el (sz:=3) rfl h z
        cases a8
        refine bG c rfl rfl ?_;obtain ⟨c6,a9,b0,b1,c7⟩:=aO.lendBp u .head
        obtain ⟨c9,b2,hm⟩:=aC hm
        exact aV (vs:=[eN a7 ((wr (e - 1)).toNat * 3+0),eN (some ⟨m,0,none⟩) 0]) call78 rfl (aGK b2 b1 (a6.mono a9) b0) cA
       ·exact cA
     exact cA
    ·exact cA
 exact cA
theorem aGL {j:(List Definition)} {p:bO} {k:List bO} {a:Int} {R:((List dK) × Bool)} (hm:rC j p=some R) (hs:aO G K (bI 83 Kf a4 c5 k::L) w) (r:Hp.le Kf K) (h3:cI K a1 c2 j) (h8:ix k a=some p) (d:Lies a4):
  Calls prog 44 ([zS a1 j.length c2,eN a4 (a.toNat * 3+0)]:List Value).toArray w (eX fun v w'=>∃ m u x,v=Value.tuple #[zS u R.1.length x,zB R.2]/\Hp.le K m/\aO G m (bI 92 m u x R.1::bI 83 m a4 c5 k::L) w'):=by
 refine aT func44 rfl (by kernel_rfl) (by show (2:Nat)<=26;decide) ?_;unfold rC at hm
 refine aL (aD (v:=zS none 0 0) (aD (v:=zB false) (aG (aP ?_))));obtain ⟨o,y,a9⟩:=aO.rawOpen (n:=2) rfl hs (i:=0) rfl
 have z:aO G K (bI 83 Kf a4 c5 o::L) w:=a9
 refine jN (C:=fun w'=>∃ L',aO G K (bI 83 Kf a4 c5 o::L') w') [(0,0),(1,0),(2,0),(3,0),(4,0),(5,0),(6,0),(7,0),(8,0),(9,0),(10,0),(11,0),(12,0),(13,1),(14,1),(15,0)] cC (by kernel_rfl) (fun _ hg=>⟨_,aO.mono z hg⟩) (fun b6 b0=>?_)
 have c:=aO.mono z b0
 refine dZ rfl (fun _ _=>bM (v:=zS a1 j.length c2) rfl) (dZ rfl (fun _ _=>bM (v:=eN a4 (a.toNat * 3+0)) rfl) (dZ rfl (fun _ _=>R_nilA d rfl) (dZ rfl (fun _ _=>lV (k':=a.toNat * 3+0) aIB d rfl rfl) ?_)));obtain ⟨b7,q,b1⟩:=y.at h8
 obtain ⟨J,V,rfl,b2⟩:=b1
 refine dZ rfl (fun _ ⟨_,c⟩=>R_ldR (t:=0) (v:=i64 p.Definition) dC c (i:=0) rfl q rfl rfl rfl) (dZ rfl (fun _ _=>bM (v:=eN a4 (a.toNat * 3+0)) rfl) (dZ rfl (fun _ _=>R_nilA d rfl) (dZ rfl (fun _ _=>lV (k':=a.toNat * 3+1) aIC d rfl rfl) (dZ rfl (fun _ ⟨_,c⟩=>R_ldR (t:=1) (v:=i64 p.Part) dC c (i:=0) rfl q rfl rfl rfl) (dZ rfl (fun _ _=>bM (v:=eN a4 (a.toNat * 3+0)) rfl) (dZ rfl (fun _ _=>R_nilA d rfl) (dZ rfl (fun _ _=>lV (k':=a.toNat * 3+2) aID d rfl rfl) (dZ rfl (fun _ ⟨_,c⟩=>R_ldR (t:=2) (v:=zS J p.Values.length V) aCe c (i:=0) rfl q rfl rfl rfl) (qW rfl (gA (Kt:=K) (xs:=([]:List dK)) (cs:=[]) (vs:=[]) aBv aPq rfl rfl c rfl (by kernel_rfl) rfl rfl rfl trivial (fun Z b3 (a0:aO G K (bI 92 K Z 0 ([]:List dK)::bI 83 Kf a4 c5 o::L) b3)=>(cG (aB ⟨⟨_,(aO.arr 2 [1,0] a0 rfl)⟩,?_⟩)))))))))))))
 refine qW rfl ?_;obtain ⟨b,b4,hm⟩:=aC hm
 refine aV (vs:=[zS a1 j.length c2,i64 p.Definition,i64 p.Part,zS J p.Values.length V,zS Z ([]:List dK).length 0]) call72 rfl (aIP (Kf:=K) b4 a0 (zR _) h3 (b2.mono r)) ?_
 rintro _ a2 ⟨l,e,g,rfl,a3,a5⟩
 refine cG (aB ⟨⟨_,(aO.weakK (aO.arr 2 [1,0] a5 rfl) a3)⟩,?_⟩)
 refine dZ rfl (fun _ _=>gI (v:=zS e b.length g) rfl) (sK ?_)
 have b5:aO G l (bI 92 l e g b::bI 83 Kf a4 c5 k::L) a2:=aO.rawClose (n:=2) rfl a5 (i:=1) rfl y
 refine aB (aL (aI (v:=zS e b.length g) (aI (v:=zS e b.length g) (aA (bQ (len:=b.length) aBv rfl) (aA (aAF rfl rfl) (aD (v:=zS e b.length g) (aD (v:=zB (decide ((b.length:Int)<=200))) (aG ?_))))))))
 have b8:aO G l (bI 92 l e g b::bI 83 l a4 c5 k::L) a2:=aO.weak (i:=1) b5 rfl (fun _ h=>bI.mono (Hp.le_trans r a3) h)
 exact cA
end Gv
