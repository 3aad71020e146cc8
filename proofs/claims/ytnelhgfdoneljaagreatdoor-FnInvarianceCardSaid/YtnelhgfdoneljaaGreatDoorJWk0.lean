/- Walks, printed by program. -/
import Derived.Test.YtnelhgfdoneljaaGreatDoorJLWa
import Derived.Test.YtnelhgfdoneljaaGreatDoorJMd
set_option linter.all false
namespace Gv
open Gv.Hp renaming le_refl→zR
open Go Go.Proofs Go.Proofs.Tryz
set_option maxRecDepth 20000
set_option maxHeartbeats 40000000
variable {G:tO} {K:Hp} {L:List fJ} {w:World} {a1:Option Addr} {c2:Nat}
theorem aAa {a b:aQ} {R:Int} (hm:aAr a b=some R) (c:aF G K (L) w):
  Calls prog 155 ([str a,str b]:List Value).toArray w (eC fun v w'=>v=i64 R/\aF G K (L) w'):=by
 exact aM
theorem vP {x_:Int} {R:Bool} (hm:pP x_=some R) (a:aF G K (L) w):
  Calls prog 107 ([i64 x_]:List Value).toArray w (eC fun v w'=>v=Value.bool R/\aF G K (L) w'):=by
 exact aM
theorem jF {x_ y R:Int} (hm:fP x_ y=some R) (a:aF G K (L) w):
  Calls prog 70 ([i64 x_,i64 y]:List Value).toArray w (eC fun v w'=>v=i64 R/\aF G K (L) w'):=by
 refine aN func70 rfl (by kernel_rfl) (by show (2:Nat)<=20;decide) ?_;unfold fP at hm
 refine aJ (aI (v:=i64 0) (aH (aJ (aG (v:=i64 x_) ?_))));obtain ⟨c,b,hm⟩:=aB hm
 exact aP (vs:=[i64 x_]) call107 rfl (vP b a) aM
theorem aFX {a:(List Int)} {R:Int} (hm:uA a=some R) (d:aF G K (L) w) (e:bL K a1 c2 a):
  Calls prog 69 ([Value.slice a1 a.length c2]:List Value).toArray w (eC fun v w'=>v=i64 R/\aF G K (L) w'):=by
 refine aN func69 rfl (by kernel_rfl) (by show (1:Nat)<=18;decide) ?_;unfold uA at hm
 refine aJ (aI (v:=i64 0) (aH (aJ (aI (v:=i64 0) (aH (aK (aJ (aG (v:=Value.slice a1 a.length c2) (aD (bC (len:=a.length) aHi rfl) (aG (v:=i64 0) (aH (aO [3] (fun f w=>xS=some R/\aF G K (L) w) aM ?_))))))))))));obtain ⟨g,b,ho⟩:=aB hm
 exact eY [3,6,7] b (fun c f w=>f 8=i64 c/\aF G K (L) w) aM aM
theorem aAz {a b:Edge} {R:Int} (hm:rS a b=some R) (p:aF G K (L) w):
  Calls prog 44 ([Value.agg #[i64 a.F,i64 a.B,i64 a.To],Value.agg #[i64 b.F,i64 b.B,i64 b.To]]:List Value).toArray w (eC fun v w'=>v=i64 R/\aF G K (L) w'):=by
 refine aN func44 rfl (by kernel_rfl) (by show (2:Nat)<=22;decide) ?_;unfold rS at hm
 refine aJ (gF (v:=Value.agg #[i64 a.F,i64 a.B,i64 a.To]) (vs:=[i64 a.F,i64 a.B,i64 a.To]) p rfl rfl (fun b1 w2 q=>(gF (v:=Value.agg #[i64 b.F,i64 b.B,i64 b.To]) (vs:=[i64 b.F,i64 b.B,i64 b.To]) q rfl rfl (fun b4 w5 r=>(aI (v:=i64 0) (aH (aK ?_)))))));obtain ⟨K7,a7,h,u,a8⟩:=aF.lendBp r .head
 obtain ⟨k,i,j,l,a9⟩:=aF.lendBp u .head
 refine cV (C:=fun w'=>∃ L',aF G k L' w') [(0,0),(1,0),(2,0),(3,0),(5,0),(6,0),(7,0),(8,0),(10,0),(11,0),(12,0),(13,0),(4,1),(9,1),(14,1),(15,1),(16,1),(17,0)] Tryz_mixed (by kernel_rfl) (fun _ hg=>⟨_,aF.mono l hg⟩) (fun b0 x=>?_)
 have c:=aF.mono l x
 refine bE rfl (fun _ _=>bH (t':=0) uJ rfl rfl) (bE rfl (fun _ ⟨_,c⟩=>aU (t:=0) cR c j rfl rfl) (bE rfl (fun _ _=>bH (t':=0) uJ rfl rfl) (bE rfl (fun _ ⟨_,c⟩=>aU (t:=0) cR c (h.mono i) rfl rfl) (bE rfl (fun _ _=>bH (t':=1) aCc rfl rfl) (bE rfl (fun _ ⟨_,c⟩=>aU (t:=1) cR c j rfl rfl) (bE rfl (fun _ _=>bH (t':=1) aCc rfl rfl) (bE rfl (fun _ ⟨_,c⟩=>aU (t:=1) cR c (h.mono i) rfl rfl) (bE rfl (fun _ _=>bH (t':=2) uK rfl rfl) (bE rfl (fun _ ⟨_,c⟩=>aU (t:=2) cR c j rfl rfl) (bE rfl (fun _ _=>bH (t':=2) uK rfl rfl) (bE rfl (fun _ ⟨_,c⟩=>aU (t:=2) cR c (h.mono i) rfl rfl) (nT rfl ?_))))))))))))
 obtain ⟨d,y,hm⟩:=aB hm
 refine aP (vs:=[i64 a.F,i64 b.F]) call70 rfl (jF y c) ?_
 rintro _ b2 ⟨rfl,m⟩
 refine aV (aC ⟨⟨_,m⟩,?_⟩)
 refine nT rfl ?_;obtain ⟨e,z,hm⟩:=aB hm
 refine aP (vs:=[i64 a.B,i64 b.B]) call70 rfl (jF z m) ?_
 rintro _ b3 ⟨rfl,n⟩
 refine aV (aC ⟨⟨_,n⟩,?_⟩)
 refine nT rfl ?_;obtain ⟨g,J,hm⟩:=aB hm
 refine aP (vs:=[i64 a.To,i64 b.To]) call70 rfl (jF J n) ?_
 rintro _ b5 ⟨rfl,o⟩
 refine aV (aC ⟨⟨_,o⟩,?_⟩)
 refine nT rfl (bX (Kt:=K) (xs:=([d,e,g]:List Int)) (cs:=[i64 d,i64 e,i64 g]) (vs:=[(0,i64 d),(1,i64 e),(2,i64 g)]) aHi ez_3 rfl rfl o rfl (by kernel_rfl) rfl rfl rfl ⟨rfl,rfl,rfl,trivial⟩ (fun Z a0 (a1:aF G k (own 3 K Z 3 ([d,e,g]:List Int)::L) a0)=>(aV (aC ⟨⟨_,a1⟩,?_⟩))))
 exact nT rfl aM
end Gv
