/- Walks, printed by program. -/
import Derived.Test.YtigicpgpkmjdpaaGreatDoorJLWa
import Derived.Test.YtigicpgpkmjdpaaGreatDoorJMd
set_option linter.all false
namespace Gv
open Go.Value renaming slice→zS,bool→zB
open Option.some renaming inj→zI
open Gv.Hp renaming le_refl→zR
open Go Go.Proofs Go.Proofs.Tryz
set_option maxRecDepth 20000
set_option maxHeartbeats 40000000
variable {G:zZ} {K:Hp} {L:List jM} {w:World} {a1 a4:Option Addr} {c2 c5:Nat}
theorem sG {a:Int} {R:Bool} (hm:mH a=some R) (b:aF G K (L) w):
  Calls prog 140 ([i64 a]:List Value).toArray w (eZ fun v w'=>v=zB R/\aF G K (L) w'):=by
 refine aO func140 rfl (by kernel_rfl) (by show (1:Nat)<=6;decide) ?_;unfold mH at hm
 refine aK (aJ (v:=zB false) (aH (aK (aG (v:=i64 a) (aG (v:=i64 a) (aD (aFQ rfl rfl) (aJ (v:=zB (a != a)) (aH ?_))))))));obtain rfl:=zI hm
 exact fU (eE results140 rfl ⟨rfl,b⟩)
theorem jV {a y R:Int} (hm:eV a y=some R) (k:aF G K (L) w):
  Calls prog 96 ([i64 a,i64 y]:List Value).toArray w (eZ fun v w'=>v=i64 R/\aF G K (L) w'):=by
 refine aO func96 rfl (by kernel_rfl) (by show (2:Nat)<=20;decide) ?_;unfold eV at hm
 refine aK (aJ (v:=i64 0) (aH (aK (aG (v:=i64 a) ?_))));obtain ⟨j,l,hm⟩:=aB hm
 refine aR (vs:=[i64 a]) call140 rfl (sG l k) ?_
 rintro _ x ⟨rfl,m⟩
 refine aJ (v:=zB j) (aH (aK (aG (v:=i64 y) ?_)));obtain ⟨c,n,hm⟩:=aB hm
 refine aR (vs:=[i64 y]) call140 rfl (sG n m) ?_
 rintro _ z ⟨rfl,b⟩
 refine aJ (v:=zB c) (aH (aM (aK (aG (v:=zB j) (aH ?_)))))
 rcases aN hm with ⟨d,hm⟩|⟨d,hm⟩
 ·refine aS d rfl (aM (aK (aG (v:=zB c) (aH ?_))))
  rcases aN hm with ⟨e,hm⟩|⟨e,hm⟩
  ·refine aS e rfl (aK (aJ (v:=i64 0) (aH ?_)));obtain rfl:=zI hm
   exact fU (cT (cT (eE results96 rfl ⟨rfl,b⟩)))
  ·refine bE e rfl (aY (aC (aK (aJ (v:=i64 (-1)) (aH ?_)))));obtain rfl:=zI hm
   exact fU (cT (eE results96 rfl ⟨rfl,b⟩))
 ·refine bE d rfl (aY (aC (aM (aK (aG (v:=zB c) (aH ?_))))))
  rcases aN hm with ⟨g,hm⟩|⟨g,hm⟩
  ·refine aS g rfl (aK (aJ (v:=i64 1) (aH ?_)));obtain rfl:=zI hm
   exact fU (cT (eE results96 rfl ⟨rfl,b⟩))
  ·refine bE g rfl (aY (aC (aM (aK (aG (v:=i64 a) (aG (v:=i64 y) (aD (cU rfl rfl) (aH ?_))))))))
   rcases aN hm with ⟨h,hm⟩|⟨h,hm⟩
   ·refine aS h rfl (aK (aJ (v:=i64 (-1)) (aH ?_)));obtain rfl:=zI hm
    exact fU (cT (eE results96 rfl ⟨rfl,b⟩))
   ·refine bE h rfl (aY (aC (aM (aK (aG (v:=i64 a) (aG (v:=i64 y) (aD (aAa rfl rfl) (aH ?_))))))))
    rcases aN hm with ⟨i,hm⟩|⟨i,hm⟩
    ·refine aS i rfl (aK (aJ (v:=i64 1) (aH ?_)));obtain rfl:=zI hm
     exact fU (cT (eE results96 rfl ⟨rfl,b⟩))
    ·refine bE i rfl (aY (aC (aK (aJ (v:=i64 0) (aH ?_)))));obtain rfl:=zI hm
     exact fU (eE results96 rfl ⟨rfl,b⟩)
theorem oC {b a:(List Int)} {R:Int} (hm:eP b a=some R) (x:aF G K (L) w) (n:bG K a1 c2 b) (o:bG K a4 c5 a):
  Calls prog 54 ([zS a1 b.length c2,zS a4 a.length c5]:List Value).toArray w (eZ fun v w'=>v=i64 R/\aF G K (L) w'):=by
 refine aO func54 rfl (by kernel_rfl) (by show (2:Nat)<=36;decide) ?_;unfold eP at hm
 refine aK (aJ (v:=i64 0) (aH (aM (aK (aG (v:=zS a1 b.length c2) (aD (bH (len:=b.length) bJ rfl) (aG (v:=i64 0) (aH (aQ [0,1] (fun f w=>dN b a=some R/\aF G K (L) w) ?_ ?_)))))))))
 ·rintro f w7 ⟨hm,p⟩
  unfold dN at hm
  refine aC (aM (aK (aG (v:=zS a1 b.length c2) (aD (bH (len:=b.length) bJ rfl) (aG (v:=zS a4 a.length c5) (aD (bH (len:=a.length) bJ rfl) (aD (cU rfl rfl) (aH ?_))))))))
  rcases aN hm with ⟨h,hm⟩|⟨h,hm⟩
  ·refine aS h rfl (aK (aJ (v:=i64 (-1)) (aH ?_)));obtain rfl:=zI hm
   exact fU (cT (eE results54 rfl ⟨rfl,p⟩))
  ·refine bE h rfl (aY (aC (aK (aJ (v:=i64 0) (aH ?_)))));obtain rfl:=zI hm
   exact fU (eE results54 rfl ⟨rfl,p⟩)
 obtain ⟨b2,J,ho⟩:=aB hm
 refine fK [0,1,9,10] J (fun c f w=>f 11=i64 c/\aF G K (L) w) ?_ ?_
 ·exact ⟨rfl,x⟩
 ·rintro c b3 f b4 hm hr ⟨g,d⟩
  unfold bY at hm
  refine aK (aD (cU g rfl) (aH (aM ?_)))
  rcases aN hm with ⟨i,hm⟩|⟨i,hm⟩
  ·refine aS i rfl (aY (aC (aM (cV (aK (bC g ?_))))));obtain ⟨j,q,hm⟩:=aB hm
   refine aD (dP bJ rfl n rfl rfl g q) ?_;obtain ⟨b5,V,a0⟩:=bG.el (sz:=1) rfl n q
   cases a0
   refine aD (bD (t:=0) dC d V rfl rfl) (aJ (v:=i64 c) (aJ (v:=i64 j) (aH (aM (aK (aG (v:=i64 c) (aG (v:=zS a4 a.length c5) (aD (bH (len:=a.length) bJ rfl) (aD (R_geq rfl rfl) (aH ?_))))))))))
   rcases aN hm with ⟨k,hm⟩|⟨k,hm⟩
   ·refine aS k rfl (aK (aJ (v:=i64 1) (aH (fU (cT (lE (cT (cT ?_))))))))
    have a2:=hr _ (zI hm).symm
    subst a2
    have hm:(some 1)=some R:=ho
    clear hr ho
    obtain rfl:=zI hm
    exact lE (cT (cT (eE results54 rfl ⟨rfl,d⟩)))
   ·refine bE k rfl (aY (aC (aK (aG (v:=zS a4 a.length c5) (aG (v:=i64 c) ?_)))));obtain ⟨l,r,hm⟩:=aB hm
    refine aD (dP bJ rfl o rfl rfl rfl r) ?_;obtain ⟨b6,a5,a6⟩:=bG.el (sz:=1) rfl o r
    cases a6
    refine aD (bD (t:=0) dC d a5 rfl rfl) (aJ (v:=i64 l) (aH (aK (aG (v:=i64 j) (aG (v:=i64 l) ?_)))));obtain ⟨e,a7,hm⟩:=aB hm
    refine aR (vs:=[i64 j,i64 l]) call96 rfl (jV a7 d) ?_
    rintro _ b7 ⟨rfl,u⟩
    refine aJ (v:=i64 e) (aH (aK (aG (v:=i64 e) (aD (aFQ rfl rfl) (aH ?_)))))
    rcases aN hm with ⟨m,hm⟩|⟨m,hm⟩
    ·refine aS m rfl (aK (aG (v:=i64 e) (aJ (v:=i64 e) (aH (fU (lE (cT (cT ?_))))))))
     have a8:=hr _ (zI hm).symm
     subst a8
     have hm:(some e)=some R:=ho
     clear hr ho
     obtain rfl:=zI hm
     exact lE (cT (cT (eE results54 rfl ⟨rfl,u⟩)))
    ·exact bE m rfl (aY (dB (aC (aU (aD (dT g rfl) (aG (v:=i64 (wr (c+1))) (aH ⟨_,(zI hm).symm,bL,rfl,u⟩)))))))
  ·refine bE i rfl (aBe (kO (kO ?_)))
   have b0:=hr _ (zI hm).symm
   subst b0
   have hm:(dN b a)=some R:=ho
   clear hr ho
   exact vL (aC ⟨bL,hm,d⟩)
theorem wB {a b:Int} {p:(List (List Int))} {e:Nat} {R:Int} (hm:pX a b p=some R) (c:aF G K (L) w) (g:fV K a1 e [zS a4 p.length c5]) (d:bG K a4 c5 p):
  Calls prog 53 ([i64 a,i64 b,cR a1 e]:List Value).toArray w (eZ fun v w'=>v=i64 R/\aF G K (L) w'):=by
 refine aO func53 rfl (by kernel_rfl) (by show (3:Nat)<=15;decide) ?_;unfold pX at hm
 refine aK (aJ (v:=i64 0) (aH (aM (mC (C:=fun w'=>aF G K (L) w') Tryz_mixed (by kernel_rfl) (aF.mono c (fJ.drew _)) (bX (fun _ c=>bD (t:=0) aHj c g rfl rfl) (bX (fun _ c=>aW (v:=i64 a) rfl) ?_))))));obtain ⟨k,h,hm⟩:=aB hm
 refine bX (fun _ c=>dP nW rfl d rfl rfl rfl h) ?_;obtain ⟨a3,l,m⟩:=bG.el (sz:=1) rfl d h
 obtain ⟨n,o,rfl,q⟩:=m
 refine bX (fun _ c=>bD (t:=0) aAs c l rfl rfl) (bX (fun _ c=>bD (t:=0) aHj c g rfl rfl) (bX (fun _ c=>aW (v:=i64 b) rfl) ?_));obtain ⟨r,i,hm⟩:=aB hm
 refine bX (fun _ c=>dP nW rfl d rfl rfl rfl i) ?_;obtain ⟨a5,u,x⟩:=bG.el (sz:=1) rfl d i
 obtain ⟨y,z,rfl,J⟩:=x
 refine bX (fun _ c=>bD (t:=0) aAs c u rfl rfl) ?_;obtain ⟨j,V,hm⟩:=aB hm
 refine aIg (vs:=[zS n k.length o,zS y r.length z]) (v:=i64 j) call54 rfl (fun _ c=>(oC V c q J)) (bX (fun _ c=>fW (v:=i64 j) rfl) (vN (fun a6 a0=>(aC ?_))));obtain rfl:=zI hm
 exact fU (eE results53 rfl ⟨rfl,a0⟩)
theorem aBX {a b:aI} {R:Int} (hm:yU a b=some R) (c:aF G K (L) w):
  Calls prog 120 ([str a,str b]:List Value).toArray w (eZ fun v w'=>v=i64 R/\aF G K (L) w'):=by
 refine aO func120 rfl (by kernel_rfl) (by show (2:Nat)<=18;decide) ?_;unfold yU at hm
 refine aK (aJ (v:=i64 0) (aH (aM (cV (aK (aG (v:=str a) (aG (v:=str b) (aD (aFR rfl rfl) (aJ (v:=zB (a == b)) (aH ?_))))))))))
 rcases aN hm with ⟨d,hm⟩|⟨d,hm⟩
 ·refine aS d rfl (aK (aJ (v:=i64 0) (aH ?_)));obtain rfl:=zI hm
  exact fU (lE (cT (eE results120 rfl ⟨rfl,c⟩)))
 ·refine bE d rfl (aK (aG (v:=str a) (aD (aFR rfl rfl) (aJ (v:=zB (a == ([116,97,117]:aI))) (aH ?_)))))
  rcases aN hm with ⟨e,hm⟩|⟨e,hm⟩
  ·refine aS e rfl (aK (aJ (v:=i64 (-1)) (aH ?_)));obtain rfl:=zI hm
   exact fU (lE (cT (eE results120 rfl ⟨rfl,c⟩)))
  ·refine bE e rfl (aK (aG (v:=str b) (aD (aFR rfl rfl) (aJ (v:=zB (b == ([116,97,117]:aI))) (aH ?_)))))
   rcases aN hm with ⟨g,hm⟩|⟨g,hm⟩
   ·refine aS g rfl (aK (aJ (v:=i64 1) (aH ?_)));obtain rfl:=zI hm
    exact fU (lE (cT (eE results120 rfl ⟨rfl,c⟩)))
   ·refine bE g rfl (aY (dB (aC (aK (aG (v:=str a) (aG (v:=str b) ?_))))));obtain ⟨k,l,hm⟩:=aB hm
    refine aR (vs:=[str a,str b]) call168 rfl (aJG c l) ?_
    rintro _ o ⟨rfl,m⟩
    refine aJ (v:=i64 k) (aH ?_);obtain rfl:=zI hm
    exact fU (eE results120 rfl ⟨rfl,m⟩)
theorem aDz {a:(List Int)} {R:Int} (hm:yC a=some R) (k:aF G K (L) w) (i:bG K a1 c2 a):
  Calls prog 111 ([zS a1 a.length c2]:List Value).toArray w (eZ fun v w'=>v=i64 R/\aF G K (L) w'):=by
 refine aO func111 rfl (by kernel_rfl) (by show (1:Nat)<=18;decide) ?_;unfold yC at hm
 refine aK (aJ (v:=i64 0) (aH (aK (aJ (v:=i64 0) (aH (aM (aK (aG (v:=zS a1 a.length c2) (aD (bH (len:=a.length) aNa rfl) (aG (v:=i64 0) (aH (aQ [3] (fun f w=>sE=some R/\aF G K (L) w) ?_ ?_))))))))))))
 ·rintro f x ⟨hm,l⟩
  unfold sE at hm
  refine aC (aK (aG (v:=i64 0) (aJ (v:=i64 0) (aH ?_))));obtain rfl:=zI hm
  exact fU (eE results111 rfl ⟨rfl,l⟩)
 obtain ⟨y,n,ho⟩:=aB hm
 refine fK [3,6,7] n (fun d f w=>f 8=i64 d/\aF G K (L) w) ?_ ?_
 ·exact ⟨rfl,k⟩
 ·rintro d z f J hm hr ⟨e,c⟩
  unfold jS at hm
  refine aK (aD (cU e rfl) (aH (aM ?_)))
  rcases aN hm with ⟨g,hm⟩|⟨g,hm⟩
  ·refine aS g rfl (aY (aC (aM (cV (aK ?_)))));obtain ⟨b,j,hm⟩:=aB hm
   refine aD (dP aNa rfl i rfl rfl e j) ?_;obtain ⟨V,o,p⟩:=bG.el (sz:=1) rfl i j
   cases p
   refine aD (bD (t:=0) sc_3 c o rfl rfl) (aJ (v:=i64 b) (aH (aK (aG (v:=i64 b) (aG (v:=i64 0) (aD (aFQ rfl rfl) (aH ?_)))))))
   rcases aN hm with ⟨h,hm⟩|⟨h,hm⟩
   ·refine aS h rfl (aK (aG (v:=i64 b) (aJ (v:=i64 b) (aH (fU (lE (cT (cT ?_))))))))
    have q:=hr _ (zI hm).symm
    subst q
    have hm:(some b)=some R:=ho
    clear hr ho
    obtain rfl:=zI hm
    exact lE (cT (cT (eE results111 rfl ⟨rfl,c⟩)))
   ·exact bE h rfl (aY (dB (aC (aU (aD (dT e rfl) (aG (v:=i64 (wr (d+1))) (aH ⟨_,(zI hm).symm,bL,rfl,c⟩)))))))
  ·refine bE g rfl (aBe (kO (kO ?_)))
   have u:=hr _ (zI hm).symm
   subst u
   have hm:(sE)=some R:=ho
   clear hr ho
   exact vL (aC ⟨bL,hm,c⟩)
theorem aCv {a b:Edge} {R:Int} (hm:vW a b=some R) (u:aF G K (L) w):
  Calls prog 76 ([Value.agg #[i64 a.F,i64 a.B,i64 a.To],Value.agg #[i64 b.F,i64 b.B,i64 b.To]]:List Value).toArray w (eZ fun v w'=>v=i64 R/\aF G K (L) w'):=by
 refine aO func76 rfl (by kernel_rfl) (by show (2:Nat)<=22;decide) ?_;unfold vW at hm
 refine aK (dJ (v:=Value.agg #[i64 a.F,i64 a.B,i64 a.To]) (vs:=[i64 a.F,i64 a.B,i64 a.To]) u rfl rfl (fun b1 w2 x=>(dJ (v:=Value.agg #[i64 b.F,i64 b.B,i64 b.To]) (vs:=[i64 b.F,i64 b.B,i64 b.To]) x rfl rfl (fun b4 w5 y=>(aJ (v:=i64 0) (aH (aM ?_)))))));obtain ⟨K7,z,i,J,V⟩:=aF.lendBp y .head
 obtain ⟨k,h,j,l,a0⟩:=aF.lendBp J .head
 refine cW (C:=fun w'=>∃ L',aF G k L' w') [(0,0),(1,0),(2,0),(3,0),(5,0),(6,0),(7,0),(8,0),(10,0),(11,0),(12,0),(13,0),(4,1),(9,1),(14,1),(15,1),(16,1),(17,0)] Tryz_mixed (by kernel_rfl) (fun _ hg=>⟨_,aF.mono l hg⟩) (fun c2 a1=>?_)
 have c:=aF.mono l a1
 refine bA rfl (fun _ _=>aV (t':=0) uY rfl rfl) (bA rfl (fun _ ⟨_,c⟩=>bD (t:=0) dC c j rfl rfl) (bA rfl (fun _ _=>aV (t':=0) uY rfl rfl) (bA rfl (fun _ ⟨_,c⟩=>bD (t:=0) dC c (i.mono h) rfl rfl) (bA rfl (fun _ _=>aV (t':=1) wO rfl rfl) (bA rfl (fun _ ⟨_,c⟩=>bD (t:=1) dC c j rfl rfl) (bA rfl (fun _ _=>aV (t':=1) wO rfl rfl) (bA rfl (fun _ ⟨_,c⟩=>bD (t:=1) dC c (i.mono h) rfl rfl) (bA rfl (fun _ _=>aV (t':=2) pQ rfl rfl) (bA rfl (fun _ ⟨_,c⟩=>bD (t:=2) dC c j rfl rfl) (bA rfl (fun _ _=>aV (t':=2) pQ rfl rfl) (bA rfl (fun _ ⟨_,c⟩=>bD (t:=2) dC c (i.mono h) rfl rfl) (jN rfl ?_))))))))))))
 obtain ⟨d,a2,hm⟩:=aB hm
 refine aR (vs:=[i64 a.F,i64 b.F]) call96 rfl (jV a2 c) ?_
 rintro _ c3 ⟨rfl,m⟩
 refine aT (aC ⟨⟨_,m⟩,?_⟩)
 refine jN rfl ?_;obtain ⟨e,a3,hm⟩:=aB hm
 refine aR (vs:=[i64 a.B,i64 b.B]) call96 rfl (jV a3 m) ?_
 rintro _ c4 ⟨rfl,n⟩
 refine aT (aC ⟨⟨_,n⟩,?_⟩)
 refine jN rfl ?_;obtain ⟨g,a4,hm⟩:=aB hm
 refine aR (vs:=[i64 a.To,i64 b.To]) call96 rfl (jV a4 n) ?_
 rintro _ c5 ⟨rfl,o⟩
 refine aT (aC ⟨⟨_,o⟩,?_⟩)
 refine jN rfl (cK (Kt:=K) (xs:=([d,e,g]:List Int)) (cs:=[i64 d,i64 e,i64 g]) (vs:=[(0,i64 d),(1,i64 e),(2,i64 g)]) aNa ez_3 rfl rfl o rfl (by kernel_rfl) rfl rfl rfl ⟨rfl,rfl,rfl,trivial⟩ (fun p a5 (q:aF G k (aL 3 K p 3 ([d,e,g]:List Int)::L) a5)=>(aT (aC ⟨⟨_,q⟩,?_⟩))))
 refine jN rfl ?_;obtain ⟨c6,c7,a6,a7,a8⟩:=aF.lendSp q (Hp.le_trans z h) .head
 obtain ⟨a9,b0,hm⟩:=aB hm
 refine aR (vs:=[zS p ([d,e,g]:List Int).length 3]) call111 rfl (aDz b0 a7 a6) ?_
 rintro _ c8 ⟨rfl,b2⟩
 have r:=a8 _ _ b2
 refine aT (aC ⟨⟨_,r⟩,?_⟩)
 refine bA rfl (fun _ _=>fW (v:=i64 a9) rfl) (oS ?_)
 have b3:=a0 _ _ r
 have b5:=V _ _ b3
 refine aC ?_;obtain rfl:=zI hm
 exact fU (eE results76 rfl ⟨rfl,(aF.arr 3 [] b5 rfl)⟩)
theorem rD {a:aI} {R:Bool} (hm:nZ a=some R) (b:aF G K (L) w):
  Calls prog 202 ([str a]:List Value).toArray w (eZ fun v w'=>v=zB R/\aF G K (L) w'):=by
 refine aO func202 rfl (by kernel_rfl) (by show (1:Nat)<=6;decide) ?_;unfold nZ at hm
 refine aK (aJ (v:=zB false) (aH (aK (aG (v:=str a) (aG (v:=str a) (aD (R_neqS rfl rfl) (aJ (v:=zB (!(a == a))) (aH ?_))))))));obtain rfl:=zI hm
 exact fU (eE results202 rfl ⟨rfl,b⟩)
theorem wC {a y:aI} {R:Int} (hm:pR a y=some R) (k:aF G K (L) w):
  Calls prog 160 ([str a,str y]:List Value).toArray w (eZ fun v w'=>v=i64 R/\aF G K (L) w'):=by
 refine aO func160 rfl (by kernel_rfl) (by show (2:Nat)<=20;decide) ?_;unfold pR at hm
 refine aK (aJ (v:=i64 0) (aH (aK (aG (v:=str a) ?_))));obtain ⟨j,l,hm⟩:=aB hm
 refine aR (vs:=[str a]) call202 rfl (rD l k) ?_
 rintro _ x ⟨rfl,m⟩
 refine aJ (v:=zB j) (aH (aK (aG (v:=str y) ?_)));obtain ⟨c,n,hm⟩:=aB hm
 refine aR (vs:=[str y]) call202 rfl (rD n m) ?_
 rintro _ z ⟨rfl,b⟩
 refine aJ (v:=zB c) (aH (aM (aK (aG (v:=zB j) (aH ?_)))))
 rcases aN hm with ⟨d,hm⟩|⟨d,hm⟩
 ·refine aS d rfl (aM (aK (aG (v:=zB c) (aH ?_))))
  rcases aN hm with ⟨e,hm⟩|⟨e,hm⟩
  ·refine aS e rfl (aK (aJ (v:=i64 0) (aH ?_)));obtain rfl:=zI hm
   exact fU (cT (cT (eE results160 rfl ⟨rfl,b⟩)))
  ·refine bE e rfl (aY (aC (aK (aJ (v:=i64 (-1)) (aH ?_)))));obtain rfl:=zI hm
   exact fU (cT (eE results160 rfl ⟨rfl,b⟩))
 ·refine bE d rfl (aY (aC (aM (aK (aG (v:=zB c) (aH ?_))))))
  rcases aN hm with ⟨g,hm⟩|⟨g,hm⟩
  ·refine aS g rfl (aK (aJ (v:=i64 1) (aH ?_)));obtain rfl:=zI hm
   exact fU (cT (eE results160 rfl ⟨rfl,b⟩))
  ·refine bE g rfl (aY (aC (aM (aK (aG (v:=str a) (aG (v:=str y) (aD (R_lssS rfl rfl) (aH ?_))))))))
   rcases aN hm with ⟨h,hm⟩|⟨h,hm⟩
   ·refine aS h rfl (aK (aJ (v:=i64 (-1)) (aH ?_)));obtain rfl:=zI hm
    exact fU (cT (eE results160 rfl ⟨rfl,b⟩))
   ·refine bE h rfl (aY (aC (aM (aK (aG (v:=str a) (aG (v:=str y) (aD (R_gtrS rfl rfl) (aH ?_))))))))
    rcases aN hm with ⟨i,hm⟩|⟨i,hm⟩
    ·refine aS i rfl (aK (aJ (v:=i64 1) (aH ?_)));obtain rfl:=zI hm
     exact fU (cT (eE results160 rfl ⟨rfl,b⟩))
    ·refine bE i rfl (aY (aC (aK (aJ (v:=i64 0) (aH ?_)))));obtain rfl:=zI hm
     exact fU (eE results160 rfl ⟨rfl,b⟩)
theorem wD {b a:(List aI)} {R:Int} (hm:iG b a=some R) (x:aF G K (L) w) (n:bG K a1 c2 b) (o:bG K a4 c5 a):
  Calls prog 113 ([zS a1 b.length c2,zS a4 a.length c5]:List Value).toArray w (eZ fun v w'=>v=i64 R/\aF G K (L) w'):=by
 refine aO func113 rfl (by kernel_rfl) (by show (2:Nat)<=36;decide) ?_;unfold iG at hm
 refine aK (aJ (v:=i64 0) (aH (aM (aK (aG (v:=zS a1 b.length c2) (aD (bH (len:=b.length) eG rfl) (aG (v:=i64 0) (aH (aQ [0,1] (fun f w=>gI b a=some R/\aF G K (L) w) ?_ ?_)))))))))
 ·rintro f w7 ⟨hm,p⟩
  unfold gI at hm
  refine aC (aM (aK (aG (v:=zS a1 b.length c2) (aD (bH (len:=b.length) eG rfl) (aG (v:=zS a4 a.length c5) (aD (bH (len:=a.length) eG rfl) (aD (cU rfl rfl) (aH ?_))))))))
  rcases aN hm with ⟨h,hm⟩|⟨h,hm⟩
  ·refine aS h rfl (aK (aJ (v:=i64 (-1)) (aH ?_)));obtain rfl:=zI hm
   exact fU (cT (eE results113 rfl ⟨rfl,p⟩))
  ·refine bE h rfl (aY (aC (aK (aJ (v:=i64 0) (aH ?_)))));obtain rfl:=zI hm
   exact fU (eE results113 rfl ⟨rfl,p⟩)
 obtain ⟨b2,J,ho⟩:=aB hm
 refine fK [0,1,9,10] J (fun c f w=>f 11=i64 c/\aF G K (L) w) ?_ ?_
 ·exact ⟨rfl,x⟩
 ·rintro c b3 f b4 hm hr ⟨g,d⟩
  unfold dI at hm
  refine aK (aD (cU g rfl) (aH (aM ?_)))
  rcases aN hm with ⟨i,hm⟩|⟨i,hm⟩
  ·refine aS i rfl (aY (aC (aM (cV (aK (bC g ?_))))));obtain ⟨j,q,hm⟩:=aB hm
   refine aD (dP eG rfl n rfl rfl g q) ?_;obtain ⟨b5,V,a0⟩:=bG.el (sz:=1) rfl n q
   cases a0
   refine aD (bD (t:=0) aAq d V rfl rfl) (aJ (v:=i64 c) (aJ (v:=str j) (aH (aM (aK (aG (v:=i64 c) (aG (v:=zS a4 a.length c5) (aD (bH (len:=a.length) eG rfl) (aD (R_geq rfl rfl) (aH ?_))))))))))
   rcases aN hm with ⟨k,hm⟩|⟨k,hm⟩
   ·refine aS k rfl (aK (aJ (v:=i64 1) (aH (fU (cT (lE (cT (cT ?_))))))))
    have a2:=hr _ (zI hm).symm
    subst a2
    have hm:(some 1)=some R:=ho
    clear hr ho
    obtain rfl:=zI hm
    exact lE (cT (cT (eE results113 rfl ⟨rfl,d⟩)))
   ·refine bE k rfl (aY (aC (aK (aG (v:=zS a4 a.length c5) (aG (v:=i64 c) ?_)))));obtain ⟨l,r,hm⟩:=aB hm
    refine aD (dP eG rfl o rfl rfl rfl r) ?_;obtain ⟨b6,a5,a6⟩:=bG.el (sz:=1) rfl o r
    cases a6
    refine aD (bD (t:=0) aAq d a5 rfl rfl) (aJ (v:=str l) (aH (aK (aG (v:=str j) (aG (v:=str l) ?_)))));obtain ⟨e,a7,hm⟩:=aB hm
    refine aR (vs:=[str j,str l]) call160 rfl (wC a7 d) ?_
    rintro _ b7 ⟨rfl,u⟩
    refine aJ (v:=i64 e) (aH (aK (aG (v:=i64 e) (aD (aFQ rfl rfl) (aH ?_)))))
    rcases aN hm with ⟨m,hm⟩|⟨m,hm⟩
    ·refine aS m rfl (aK (aG (v:=i64 e) (aJ (v:=i64 e) (aH (fU (lE (cT (cT ?_))))))))
     have a8:=hr _ (zI hm).symm
     subst a8
     have hm:(some e)=some R:=ho
     clear hr ho
     obtain rfl:=zI hm
     exact lE (cT (cT (eE results113 rfl ⟨rfl,u⟩)))
    ·exact bE m rfl (aY (dB (aC (aU (aD (dT g rfl) (aG (v:=i64 (wr (c+1))) (aH ⟨_,(zI hm).symm,bL,rfl,u⟩)))))))
  ·refine bE i rfl (aBe (kO (kO ?_)))
   have b0:=hr _ (zI hm).symm
   subst b0
   have hm:(gI b a)=some R:=ho
   clear hr ho
   exact vL (aC ⟨bL,hm,d⟩)
end Gv
