/- Walks, printed by program. -/
import Derived.Test.YtfneiajlaacfoaaGreatDoorJLWa
import Derived.Test.YtfneiajlaacfoaaGreatDoorJMd
set_option linter.all false
namespace Gv
open Gv.Hp renaming le_refl→zR
open Go.Value renaming slice→zS
open Go Go.Proofs Go.Proofs.Tryz
set_option maxRecDepth 20000
set_option maxHeartbeats 40000000
variable {G:rY} {K:Hp} {L:List fD} {w:World} {a1 a4:Option Addr} {c2 c5:Nat}
theorem wF {x_:Int} {R:Bool} (hm:mR x_=some R) (a:aE G K (L) w):
  Calls prog 151 ([i64 x_]:List Value).toArray w (dQ fun v w'=>v=Value.bool R/\aE G K (L) w'):=by
 exact aM
theorem jQ {x_ y R:Int} (hm:dL x_ y=some R) (a:aE G K (L) w):
  Calls prog 111 ([i64 x_,i64 y]:List Value).toArray w (dQ fun v w'=>v=i64 R/\aE G K (L) w'):=by
 refine aN func111 rfl (by kernel_rfl) (by show (2:Nat)<=20;decide) ?_;unfold dL at hm
 refine aL (aH (v:=i64 0) (aI (aL (aG (v:=i64 x_) ?_))));obtain ⟨c,b,hm⟩:=aB hm
 exact aP (vs:=[i64 x_]) call151 rfl (wF b a) aM
theorem aGl {a:(List Int)} {R:Int} (hm:uO a=some R) (d:aE G K (L) w) (e:bL K a1 c2 a):
  Calls prog 134 ([zS a1 a.length c2]:List Value).toArray w (dQ fun v w'=>v=i64 R/\aE G K (L) w'):=by
 refine aN func134 rfl (by kernel_rfl) (by show (1:Nat)<=18;decide) ?_;unfold uO at hm
 refine aL (aH (v:=i64 0) (aI (aL (aH (v:=i64 0) (aI (aJ (aL (aG (v:=zS a1 a.length c2) (aD (bF (len:=a.length) aHt rfl) (aG (v:=i64 0) (aI (aR [3] (fun f w=>yJ=some R/\aE G K (L) w) aM ?_))))))))))));obtain ⟨g,b,ho⟩:=aB hm
 exact dY [3,6,7] b (fun c f w=>f 8=i64 c/\aE G K (L) w) aM aM
theorem aFI {a b:Edge} {R:Int} (hm:sS a b=some R) (p:aE G K (L) w):
  Calls prog 95 ([Value.agg #[i64 a.F,i64 a.B,i64 a.To],Value.agg #[i64 b.F,i64 b.B,i64 b.To]]:List Value).toArray w (dQ fun v w'=>v=i64 R/\aE G K (L) w'):=by
 refine aN func95 rfl (by kernel_rfl) (by show (2:Nat)<=22;decide) ?_;unfold sS at hm
 refine aL (gO (v:=Value.agg #[i64 a.F,i64 a.B,i64 a.To]) (vs:=[i64 a.F,i64 a.B,i64 a.To]) p rfl rfl (fun b1 w2 q=>(gO (v:=Value.agg #[i64 b.F,i64 b.B,i64 b.To]) (vs:=[i64 b.F,i64 b.B,i64 b.To]) q rfl rfl (fun b4 w5 r=>(aH (v:=i64 0) (aI (aJ ?_)))))));obtain ⟨K7,a7,h,u,a8⟩:=aE.lendBp r .head
 obtain ⟨k,i,j,l,a9⟩:=aE.lendBp u .head
 refine cM (C:=fun w'=>∃ L',aE G k L' w') [(0,0),(1,0),(2,0),(3,0),(5,0),(6,0),(7,0),(8,0),(10,0),(11,0),(12,0),(13,0),(4,1),(9,1),(14,1),(15,1),(16,1),(17,0)] Tryz_mixed (by kernel_rfl) (fun _ hg=>⟨_,aE.mono l hg⟩) (fun b0 x=>?_)
 have c:=aE.mono l x
 refine aX rfl (fun _ _=>bU (t':=0) aLt rfl rfl) (aX rfl (fun _ ⟨_,c⟩=>bG (t:=0) dM c j rfl rfl) (aX rfl (fun _ _=>bU (t':=0) aLt rfl rfl) (aX rfl (fun _ ⟨_,c⟩=>bG (t:=0) dM c (h.mono i) rfl rfl) (aX rfl (fun _ _=>bU (t':=1) aDN rfl rfl) (aX rfl (fun _ ⟨_,c⟩=>bG (t:=1) dM c j rfl rfl) (aX rfl (fun _ _=>bU (t':=1) aDN rfl rfl) (aX rfl (fun _ ⟨_,c⟩=>bG (t:=1) dM c (h.mono i) rfl rfl) (aX rfl (fun _ _=>bU (t':=2) aGL rfl rfl) (aX rfl (fun _ ⟨_,c⟩=>bG (t:=2) dM c j rfl rfl) (aX rfl (fun _ _=>bU (t':=2) aGL rfl rfl) (aX rfl (fun _ ⟨_,c⟩=>bG (t:=2) dM c (h.mono i) rfl rfl) (gK rfl ?_))))))))))))
 obtain ⟨d,y,hm⟩:=aB hm
 refine aP (vs:=[i64 a.F,i64 b.F]) call111 rfl (jQ y c) ?_
 rintro _ b2 ⟨rfl,m⟩
 refine aZ (aC ⟨⟨_,m⟩,?_⟩)
 refine gK rfl ?_;obtain ⟨e,z,hm⟩:=aB hm
 refine aP (vs:=[i64 a.B,i64 b.B]) call111 rfl (jQ z m) ?_
 rintro _ b3 ⟨rfl,n⟩
 refine aZ (aC ⟨⟨_,n⟩,?_⟩)
 refine gK rfl ?_;obtain ⟨g,J,hm⟩:=aB hm
 refine aP (vs:=[i64 a.To,i64 b.To]) call111 rfl (jQ J n) ?_
 rintro _ b5 ⟨rfl,o⟩
 refine aZ (aC ⟨⟨_,o⟩,?_⟩)
 refine gK rfl (bM (Kt:=K) (xs:=([d,e,g]:List Int)) (cs:=[i64 d,i64 e,i64 g]) (vs:=[(0,i64 d),(1,i64 e),(2,i64 g)]) aHt ez_3 rfl rfl o rfl (by kernel_rfl) rfl rfl rfl ⟨rfl,rfl,rfl,trivial⟩ (fun Z a0 (a1:aE G k (own 3 K Z 3 ([d,e,g]:List Int)::L) a0)=>(aZ (aC ⟨⟨_,a1⟩,?_⟩))))
 exact gK rfl aM
theorem dG {a b:(List Int)} {R:Int} (hm:fR a b=some R) (e:aE G K (L) w) (g:bL K a1 c2 a) (h:bL K a4 c5 b):
  Calls prog 53 ([zS a1 a.length c2,zS a4 b.length c5]:List Value).toArray w (dQ fun v w'=>v=i64 R/\aE G K (L) w'):=by
 refine aN func53 rfl (by kernel_rfl) (by show (2:Nat)<=36;decide) ?_;unfold fR at hm
 refine aL (aH (v:=i64 0) (aI (aJ (aL (aG (v:=zS a1 a.length c2) (aD (bF (len:=a.length) bJ rfl) (aG (v:=i64 0) (aI (aR [0,1] (fun f w=>fA a b=some R/\aE G K (L) w) aM ?_)))))))));obtain ⟨i,c,ho⟩:=aB hm
 exact dY [0,1,9,10] c (fun d f w=>f 11=i64 d/\aE G K (L) w) aM aM
end Gv
