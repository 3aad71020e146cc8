/- Walks, printed by program. -/
import Derived.Test.YthmfdhgeglgpbaaGreatDoorJLWa
import Derived.Test.YthmfdhgeglgpbaaGreatDoorJMd
set_option linter.all false
namespace Gv
open Gv.Hp renaming le_refl→zR
open Go.Value renaming slice→zS
open Go Go.Proofs Go.Proofs.Tryz
set_option maxRecDepth 20000
set_option maxHeartbeats 40000000
variable {G:rT} {K:Hp} {L:List fM} {w:World} {a1 a4:Option Addr} {c2 c5:Nat}
theorem aAf {x_:Int} {R:Bool} (hm:pD x_=some R) (a:aF G K (L) w):
  Calls prog 172 ([i64 x_]:List Value).toArray w (dL fun v w'=>v=Value.bool R/\aF G K (L) w'):=by
 exact aN
theorem lP {x_ y R:Int} (hm:eI x_ y=some R) (a:aF G K (L) w):
  Calls prog 103 ([i64 x_,i64 y]:List Value).toArray w (dL fun v w'=>v=i64 R/\aF G K (L) w'):=by
 refine aP func103 rfl (by kernel_rfl) (by show (2:Nat)<=20;decide) ?_;unfold eI at hm
 refine aL (aH (v:=i64 0) (aI (aL (aG (v:=i64 x_) ?_))));obtain ⟨c,b,hm⟩:=aB hm
 exact aQ (vs:=[i64 x_]) call172 rfl (aAf b a) aN
theorem aJD {a:(List Int)} {R:Int} (hm:xO a=some R) (d:aF G K (L) w) (e:bI K a1 c2 a):
  Calls prog 102 ([zS a1 a.length c2]:List Value).toArray w (dL fun v w'=>v=i64 R/\aF G K (L) w'):=by
 refine aP func102 rfl (by kernel_rfl) (by show (1:Nat)<=18;decide) ?_;unfold xO at hm
 refine aL (aH (v:=i64 0) (aI (aL (aH (v:=i64 0) (aI (aK (aL (aG (v:=zS a1 a.length c2) (aD (bC (len:=a.length) aKW rfl) (aG (v:=i64 0) (aI (aS [3] (fun f w=>aBq=some R/\aF G K (L) w) aN ?_))))))))))));obtain ⟨g,b,ho⟩:=aB hm
 exact eK [3,6,7] b (fun c f w=>f 8=i64 c/\aF G K (L) w) aN aN
theorem aCD {a b:Edge} {R:Int} (hm:sB a b=some R) (p:aF G K (L) w):
  Calls prog 59 ([Value.agg #[i64 a.F,i64 a.B,i64 a.To],Value.agg #[i64 b.F,i64 b.B,i64 b.To]]:List Value).toArray w (dL fun v w'=>v=i64 R/\aF G K (L) w'):=by
 refine aP func59 rfl (by kernel_rfl) (by show (2:Nat)<=22;decide) ?_;unfold sB at hm
 refine aL (fZ (v:=Value.agg #[i64 a.F,i64 a.B,i64 a.To]) (vs:=[i64 a.F,i64 a.B,i64 a.To]) p rfl rfl (fun b1 w2 q=>(fZ (v:=Value.agg #[i64 b.F,i64 b.B,i64 b.To]) (vs:=[i64 b.F,i64 b.B,i64 b.To]) q rfl rfl (fun b4 w5 r=>(aH (v:=i64 0) (aI (aK ?_)))))));obtain ⟨K7,a7,h,u,a8⟩:=aF.lendBp r .head
 obtain ⟨k,i,j,l,a9⟩:=aF.lendBp u .head
 refine cI (C:=fun w'=>∃ L',aF G k L' w') [(0,0),(1,0),(2,0),(3,0),(5,0),(6,0),(7,0),(8,0),(10,0),(11,0),(12,0),(13,0),(4,1),(9,1),(14,1),(15,1),(16,1),(17,0)] Tryz_mixed (by kernel_rfl) (fun _ hg=>⟨_,aF.mono l hg⟩) (fun b0 x=>?_)
 have c:=aF.mono l x
 refine aZ rfl (fun _ _=>bU (t':=0) aPx rfl rfl) (aZ rfl (fun _ ⟨_,c⟩=>bE (t:=0) dJ c j rfl rfl) (aZ rfl (fun _ _=>bU (t':=0) aPx rfl rfl) (aZ rfl (fun _ ⟨_,c⟩=>bE (t:=0) dJ c (h.mono i) rfl rfl) (aZ rfl (fun _ _=>bU (t':=1) aGt rfl rfl) (aZ rfl (fun _ ⟨_,c⟩=>bE (t:=1) dJ c j rfl rfl) (aZ rfl (fun _ _=>bU (t':=1) aGt rfl rfl) (aZ rfl (fun _ ⟨_,c⟩=>bE (t:=1) dJ c (h.mono i) rfl rfl) (aZ rfl (fun _ _=>bU (t':=2) aKi rfl rfl) (aZ rfl (fun _ ⟨_,c⟩=>bE (t:=2) dJ c j rfl rfl) (aZ rfl (fun _ _=>bU (t':=2) aKi rfl rfl) (aZ rfl (fun _ ⟨_,c⟩=>bE (t:=2) dJ c (h.mono i) rfl rfl) (fR rfl ?_))))))))))))
 obtain ⟨d,y,hm⟩:=aB hm
 refine aQ (vs:=[i64 a.F,i64 b.F]) call103 rfl (lP y c) ?_
 rintro _ b2 ⟨rfl,m⟩
 refine aY (aC ⟨⟨_,m⟩,?_⟩)
 refine fR rfl ?_;obtain ⟨e,z,hm⟩:=aB hm
 refine aQ (vs:=[i64 a.B,i64 b.B]) call103 rfl (lP z m) ?_
 rintro _ b3 ⟨rfl,n⟩
 refine aY (aC ⟨⟨_,n⟩,?_⟩)
 refine fR rfl ?_;obtain ⟨g,J,hm⟩:=aB hm
 refine aQ (vs:=[i64 a.To,i64 b.To]) call103 rfl (lP J n) ?_
 rintro _ b5 ⟨rfl,o⟩
 refine aY (aC ⟨⟨_,o⟩,?_⟩)
 refine fR rfl (bO (Kt:=K) (xs:=([d,e,g]:List Int)) (cs:=[i64 d,i64 e,i64 g]) (vs:=[(0,i64 d),(1,i64 e),(2,i64 g)]) aKW ez_3 rfl rfl o rfl (by kernel_rfl) rfl rfl rfl ⟨rfl,rfl,rfl,trivial⟩ (fun Z a0 (a1:aF G k (own 3 K Z 3 ([d,e,g]:List Int)::L) a0)=>(aY (aC ⟨⟨_,a1⟩,?_⟩))))
 exact fR rfl aN
theorem dZ {a b:(List Int)} {R:Int} (hm:hJ a b=some R) (e:aF G K (L) w) (g:bI K a1 c2 a) (h:bI K a4 c5 b):
  Calls prog 144 ([zS a1 a.length c2,zS a4 b.length c5]:List Value).toArray w (dL fun v w'=>v=i64 R/\aF G K (L) w'):=by
 refine aP func144 rfl (by kernel_rfl) (by show (2:Nat)<=36;decide) ?_;unfold hJ at hm
 refine aL (aH (v:=i64 0) (aI (aK (aL (aG (v:=zS a1 a.length c2) (aD (bC (len:=a.length) bF rfl) (aG (v:=i64 0) (aI (aS [0,1] (fun f w=>gD a b=some R/\aF G K (L) w) aN ?_)))))))));obtain ⟨i,c,ho⟩:=aB hm
 exact eK [0,1,9,10] c (fun d f w=>f 11=i64 d/\aF G K (L) w) aN aN
end Gv
