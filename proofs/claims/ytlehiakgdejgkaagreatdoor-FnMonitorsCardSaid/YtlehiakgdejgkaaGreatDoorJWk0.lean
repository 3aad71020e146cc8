/- Walks, printed by program. -/
import Derived.Test.YtlehiakgdejgkaaGreatDoorJLWa
import Derived.Test.YtlehiakgdejgkaaGreatDoorJMd
set_option linter.all false
namespace Gv
open Go.Value renaming bool→zB
open Option.some renaming inj→zI
open Go Go.Proofs Go.Proofs.Tryz
set_option maxRecDepth 20000
set_option maxHeartbeats 40000000
variable {G:Env} {K:Hp} {L:List iI} {w:World} {a1:Option Addr} {c2:Nat}
theorem aCL {a b:aJ} {R:Int} (hm:aAl a b=some R) (c:aD G K (L) w):
  Calls Tryz.prog 104 ([str a,str b]:List Value).toArray w (dS fun v w'=>v=i64 R/\aD G K (L) w'):=by
 refine iT func104 rfl (by kernel_rfl) (by show (2:Nat)<=18;decide) ?_;unfold aAl at hm
 refine bC (aT (v:=i64 0) (aU (bB (cA (bC (aR (v:=str a) (aR (v:=str b) (aM (aOV rfl rfl) (aT (v:=zB (a == b)) (aU ?_))))))))))
 rcases aG hm with ⟨d,hm⟩|⟨d,hm⟩
 ·refine bP d rfl (bC (aT (v:=i64 0) (aU ?_)));obtain rfl:=zI hm
  exact jJ (fE (bE (nR results104 rfl ⟨rfl,c⟩)))
 ·refine bT d rfl (bC (aR (v:=str a) (aM (aOV rfl rfl) (aT (v:=zB (a == ([116,97,117]:aJ))) (aU ?_)))))
  rcases aG hm with ⟨e,hm⟩|⟨e,hm⟩
  ·refine bP e rfl (bC (aT (v:=i64 (-1)) (aU ?_)));obtain rfl:=zI hm
   exact jJ (fE (bE (nR results104 rfl ⟨rfl,c⟩)))
  ·refine bT e rfl (bC (aR (v:=str b) (aM (aOV rfl rfl) (aT (v:=zB (b == ([116,97,117]:aJ))) (aU ?_)))))
   rcases aG hm with ⟨g,hm⟩|⟨g,hm⟩
   ·refine bP g rfl (bC (aT (v:=i64 1) (aU ?_)));obtain rfl:=zI hm
    exact jJ (fE (bE (nR results104 rfl ⟨rfl,c⟩)))
   ·refine bT g rfl (cN (iC (aC (bC (aR (v:=str a) (aR (v:=str b) ?_))))));obtain ⟨k,l,hm⟩:=aB hm
    refine bO (vs:=[str a,str b]) call146 rfl (aLD c l) ?_
    rintro _ o ⟨rfl,m⟩
    refine aT (v:=i64 k) (aU ?_);obtain rfl:=zI hm
    exact jJ (nR results104 rfl ⟨rfl,m⟩)
theorem sW {a:Int} {R:Bool} (hm:oP a=some R) (b:aD G K (L) w):
  Calls Tryz.prog 162 ([i64 a]:List Value).toArray w (dS fun v w'=>v=zB R/\aD G K (L) w'):=by
 refine iT func162 rfl (by kernel_rfl) (by show (1:Nat)<=6;decide) ?_;unfold oP at hm
 refine bC (aT (v:=zB false) (aU (bC (aR (v:=i64 a) (aR (v:=i64 a) (aM (aIU rfl rfl) (aT (v:=zB (a != a)) (aU ?_))))))));obtain rfl:=zI hm
 exact jJ (nR results162 rfl ⟨rfl,b⟩)
theorem lJ {a y R:Int} (hm:iD a y=some R) (k:aD G K (L) w):
  Calls Tryz.prog 137 ([i64 a,i64 y]:List Value).toArray w (dS fun v w'=>v=i64 R/\aD G K (L) w'):=by
 refine iT func137 rfl (by kernel_rfl) (by show (2:Nat)<=20;decide) ?_;unfold iD at hm
 refine bC (aT (v:=i64 0) (aU (bC (aR (v:=i64 a) ?_))));obtain ⟨j,l,hm⟩:=aB hm
 refine bO (vs:=[i64 a]) call162 rfl (sW l k) ?_
 rintro _ x ⟨rfl,m⟩
 refine aT (v:=zB j) (aU (bC (aR (v:=i64 y) ?_)));obtain ⟨c,n,hm⟩:=aB hm
 refine bO (vs:=[i64 y]) call162 rfl (sW n m) ?_
 rintro _ z ⟨rfl,b⟩
 refine aT (v:=zB c) (aU (bB (bC (aR (v:=zB j) (aU ?_)))))
 rcases aG hm with ⟨d,hm⟩|⟨d,hm⟩
 ·refine bP d rfl (bB (bC (aR (v:=zB c) (aU ?_))))
  rcases aG hm with ⟨e,hm⟩|⟨e,hm⟩
  ·refine bP e rfl (bC (aT (v:=i64 0) (aU ?_)));obtain rfl:=zI hm
   exact jJ (bE (bE (nR results137 rfl ⟨rfl,b⟩)))
  ·refine bT e rfl (cN (aC (bC (aT (v:=i64 (-1)) (aU ?_)))));obtain rfl:=zI hm
   exact jJ (bE (nR results137 rfl ⟨rfl,b⟩))
 ·refine bT d rfl (cN (aC (bB (bC (aR (v:=zB c) (aU ?_))))))
  rcases aG hm with ⟨g,hm⟩|⟨g,hm⟩
  ·refine bP g rfl (bC (aT (v:=i64 1) (aU ?_)));obtain rfl:=zI hm
   exact jJ (bE (nR results137 rfl ⟨rfl,b⟩))
  ·refine bT g rfl (cN (aC (bB (bC (aR (v:=i64 a) (aR (v:=i64 y) (aM (pD rfl rfl) (aU ?_))))))))
   rcases aG hm with ⟨h,hm⟩|⟨h,hm⟩
   ·refine bP h rfl (bC (aT (v:=i64 (-1)) (aU ?_)));obtain rfl:=zI hm
    exact jJ (bE (nR results137 rfl ⟨rfl,b⟩))
   ·refine bT h rfl (cN (aC (bB (bC (aR (v:=i64 a) (aR (v:=i64 y) (aM (aHv rfl rfl) (aU ?_))))))))
    rcases aG hm with ⟨i,hm⟩|⟨i,hm⟩
    ·refine bP i rfl (bC (aT (v:=i64 1) (aU ?_)));obtain rfl:=zI hm
     exact jJ (bE (nR results137 rfl ⟨rfl,b⟩))
    ·refine bT i rfl (cN (aC (bC (aT (v:=i64 0) (aU ?_)))));obtain rfl:=zI hm
     exact jJ (nR results137 rfl ⟨rfl,b⟩)
theorem aEy {a:(List Int)} {R:Int} (hm:zX a=some R) (k:aD G K (L) w) (i:aW K a1 c2 a):
  Calls Tryz.prog 136 ([Value.slice a1 a.length c2]:List Value).toArray w (dS fun v w'=>v=i64 R/\aD G K (L) w'):=by
 refine iT func136 rfl (by kernel_rfl) (by show (1:Nat)<=18;decide) ?_;unfold zX at hm
 refine bC (aT (v:=i64 0) (aU (bC (aT (v:=i64 0) (aU (bB (bC (aR (v:=Value.slice a1 a.length c2) (aM (gU (len:=a.length) aPm rfl) (aR (v:=i64 0) (aU (aK [3] (fun f w=>sG=some R/\aD G K (L) w) ?_ ?_))))))))))))
 ·rintro f x ⟨hm,l⟩
  unfold sG at hm
  refine aC (bC (aR (v:=i64 0) (aT (v:=i64 0) (aU ?_))));obtain rfl:=zI hm
  exact jJ (nR results136 rfl ⟨rfl,l⟩)
 obtain ⟨y,n,ho⟩:=aB hm
 refine dX [3,6,7] n (fun d f w=>f 8=i64 d/\aD G K (L) w) ?_ ?_
 ·exact ⟨rfl,k⟩
 ·rintro d z f J hm hr ⟨e,c⟩
  unfold iO at hm
  refine bC (aM (pD e rfl) (aU (bB ?_)))
  rcases aG hm with ⟨g,hm⟩|⟨g,hm⟩
  ·refine bP g rfl (cN (aC (bB (cA (bC ?_)))));obtain ⟨b,j,hm⟩:=aB hm
   refine aM (aLt aPm rfl i rfl rfl e j) ?_;obtain ⟨V,o,p⟩:=aW.el (sz:=1) rfl i j
   cases p
   refine aM (bU (t:=0) sc_3 c o rfl rfl) (aT (v:=i64 b) (aU (bC (aR (v:=i64 b) (aR (v:=i64 0) (aM (aIU rfl rfl) (aU ?_)))))))
   rcases aG hm with ⟨h,hm⟩|⟨h,hm⟩
   ·refine bP h rfl (bC (aR (v:=i64 b) (aT (v:=i64 b) (aU (jJ (fE (bE (bE ?_))))))))
    have q:=hr _ (zI hm).symm
    subst q
    have hm:(some b)=some R:=ho
    clear hr ho
    obtain rfl:=zI hm
    exact fE (bE (bE (nR results136 rfl ⟨rfl,c⟩)))
   ·exact bT h rfl (cN (iC (aC (bR (aM (rO e rfl) (aR (v:=i64 (wr (d+1))) (aU ⟨_,(zI hm).symm,bD,rfl,c⟩)))))))
  ·refine bT g rfl (aAZ (iW (iW ?_)))
   have u:=hr _ (zI hm).symm
   subst u
   have hm:(sG)=some R:=ho
   clear hr ho
   exact uB (aC ⟨bD,hm,c⟩)
theorem aDk {a b:Edge} {R:Int} (hm:wU a b=some R) (u:aD G K (L) w):
  Calls Tryz.prog 94 ([Value.agg #[i64 a.F,i64 a.B,i64 a.To],Value.agg #[i64 b.F,i64 b.B,i64 b.To]]:List Value).toArray w (dS fun v w'=>v=i64 R/\aD G K (L) w'):=by
 refine iT func94 rfl (by kernel_rfl) (by show (2:Nat)<=22;decide) ?_;unfold wU at hm
 refine bC (aHx (v:=Value.agg #[i64 a.F,i64 a.B,i64 a.To]) (vs:=[i64 a.F,i64 a.B,i64 a.To]) u rfl rfl (fun b1 w2 x=>(aHx (v:=Value.agg #[i64 b.F,i64 b.B,i64 b.To]) (vs:=[i64 b.F,i64 b.B,i64 b.To]) x rfl rfl (fun b4 w5 y=>(aT (v:=i64 0) (aU (bB ?_)))))));obtain ⟨K7,z,i,J,V⟩:=aD.lendBp y .head
 obtain ⟨k,h,j,l,Z⟩:=aD.lendBp J .head
 refine aIB (C:=fun w'=>∃ L',aD G k L' w') [(0,0),(1,0),(2,0),(3,0),(5,0),(6,0),(7,0),(8,0),(10,0),(11,0),(12,0),(13,0),(4,1),(9,1),(14,1),(15,1),(16,1),(17,0)] Tryz_mixed (by kernel_rfl) (fun _ hg=>⟨_,aD.mono l hg⟩) (fun c1 a0=>?_)
 have c:=aD.mono l a0
 refine cI rfl (fun _ _=>dF (t':=0) aPl rfl rfl) (cI rfl (fun _ ⟨_,c⟩=>bU (t:=0) lD c j rfl rfl) (cI rfl (fun _ _=>dF (t':=0) aPl rfl rfl) (cI rfl (fun _ ⟨_,c⟩=>bU (t:=0) lD c (i.mono h) rfl rfl) (cI rfl (fun _ _=>dF (t':=1) aDv rfl rfl) (cI rfl (fun _ ⟨_,c⟩=>bU (t:=1) lD c j rfl rfl) (cI rfl (fun _ _=>dF (t':=1) aDv rfl rfl) (cI rfl (fun _ ⟨_,c⟩=>bU (t:=1) lD c (i.mono h) rfl rfl) (cI rfl (fun _ _=>dF (t':=2) aID rfl rfl) (cI rfl (fun _ ⟨_,c⟩=>bU (t:=2) lD c j rfl rfl) (cI rfl (fun _ _=>dF (t':=2) aID rfl rfl) (cI rfl (fun _ ⟨_,c⟩=>bU (t:=2) lD c (i.mono h) rfl rfl) (eQ rfl ?_))))))))))))
 obtain ⟨d,a1,hm⟩:=aB hm
 refine bO (vs:=[i64 a.F,i64 b.F]) call137 rfl (lJ a1 c) ?_
 rintro _ c2 ⟨rfl,m⟩
 refine aL (aC ⟨⟨_,m⟩,?_⟩)
 refine eQ rfl ?_;obtain ⟨e,a2,hm⟩:=aB hm
 refine bO (vs:=[i64 a.B,i64 b.B]) call137 rfl (lJ a2 m) ?_
 rintro _ c3 ⟨rfl,n⟩
 refine aL (aC ⟨⟨_,n⟩,?_⟩)
 refine eQ rfl ?_;obtain ⟨g,a3,hm⟩:=aB hm
 refine bO (vs:=[i64 a.To,i64 b.To]) call137 rfl (lJ a3 n) ?_
 rintro _ c4 ⟨rfl,o⟩
 refine aL (aC ⟨⟨_,o⟩,?_⟩)
 refine eQ rfl (eR (Kt:=K) (xs:=([d,e,g]:List Int)) (cs:=[i64 d,i64 e,i64 g]) (vs:=[(0,i64 d),(1,i64 e),(2,i64 g)]) aPm ez_3 rfl rfl o rfl (by kernel_rfl) rfl rfl rfl ⟨rfl,rfl,rfl,trivial⟩ (fun p a4 (q:aD G k (aH 3 K p 3 ([d,e,g]:List Int)::L) a4)=>(aL (aC ⟨⟨_,q⟩,?_⟩))))
 refine eQ rfl ?_;obtain ⟨c5,c6,a5,a6,a7⟩:=aD.lendSp q (Hp.le_trans z h) .head
 obtain ⟨a8,a9,hm⟩:=aB hm
 refine bO (vs:=[Value.slice p ([d,e,g]:List Int).length 3]) call136 rfl (aEy a9 a6 a5) ?_
 rintro _ c7 ⟨rfl,b0⟩
 have r:=a7 _ _ b0
 refine aL (aC ⟨⟨_,r⟩,?_⟩)
 refine cI rfl (fun _ _=>fP (v:=i64 a8) rfl) (yO ?_)
 have b2:=Z _ _ r
 have b3:=V _ _ b2
 refine aC ?_;obtain rfl:=zI hm
 exact jJ (nR results94 rfl ⟨rfl,(aD.arr 3 [] b3 rfl)⟩)
end Gv
