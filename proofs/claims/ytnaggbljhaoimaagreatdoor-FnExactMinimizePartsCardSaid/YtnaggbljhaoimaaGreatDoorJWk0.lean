/- Walks, printed by program. -/
import Derived.Test.YtnaggbljhaoimaaGreatDoorJLWa
import Derived.Test.YtnaggbljhaoimaaGreatDoorJMd
set_option linter.all false
namespace Gv
open Gv.Hp renaming le_refl→zR
open Go.Value renaming slice→zS
open Go Go.Proofs Go.Proofs.Tryz
set_option maxRecDepth 20000
set_option maxHeartbeats 40000000
variable {G:vF} {K:Hp} {L:List gC} {w:World} {a1 a4:Option Addr} {c2 c5:Nat}
theorem uX {a:Int} {R:Bool} (hm:oW a=some R) (b:aD G K (L) w):
  Calls prog 114 ([i64 a]:List Value).toArray w (dV fun v w'=>v=Value.bool R/\aD G K (L) w'):=by
 exact aK
theorem jI {a y R:Int} (hm:fZ a y=some R) (b:aD G K (L) w):
  Calls prog 86 ([i64 a,i64 y]:List Value).toArray w (dV fun v w'=>v=i64 R/\aD G K (L) w'):=by
 refine aO func86 rfl (by kernel_rfl) (by show (2:Nat)<=20;decide) ?_;unfold fZ at hm
 refine aI (aH (v:=i64 0) (aG (aI (aL (v:=i64 a) ?_))));obtain ⟨d,c,hm⟩:=aB hm
 exact aS (vs:=[i64 a]) call114 rfl (uX c b) aK
theorem aFQ {a:(List Int)} {R:Int} (hm:tJ a=some R) (d:aD G K (L) w) (e:bK K a1 c2 a):
  Calls prog 85 ([zS a1 a.length c2]:List Value).toArray w (dV fun v w'=>v=i64 R/\aD G K (L) w'):=by
 refine aO func85 rfl (by kernel_rfl) (by show (1:Nat)<=18;decide) ?_;unfold tJ at hm
 refine aI (aH (v:=i64 0) (aG (aI (aH (v:=i64 0) (aG (aJ (aI (aL (v:=zS a1 a.length c2) (aF (bE (len:=a.length) sl_143 rfl) (aL (v:=i64 0) (aG (aQ [3] (fun f w=>xG=some R/\aD G K (L) w) aK ?_))))))))))));obtain ⟨g,b,ho⟩:=aB hm
 exact cQ [3,6,7] b (fun c f w=>f 8=i64 c/\aD G K (L) w) aK aK
theorem aAc {a b:Edge} {R:Int} (hm:rG a b=some R) (p:aD G K (L) w):
  Calls prog 68 ([Value.agg #[i64 a.F,i64 a.B,i64 a.To],Value.agg #[i64 b.F,i64 b.B,i64 b.To]]:List Value).toArray w (dV fun v w'=>v=i64 R/\aD G K (L) w'):=by
 refine aO func68 rfl (by kernel_rfl) (by show (2:Nat)<=22;decide) ?_;unfold rG at hm
 refine aI (eQ (v:=Value.agg #[i64 a.F,i64 a.B,i64 a.To]) (vs:=[i64 a.F,i64 a.B,i64 a.To]) p rfl rfl (fun b1 w2 q=>(eQ (v:=Value.agg #[i64 b.F,i64 b.B,i64 b.To]) (vs:=[i64 b.F,i64 b.B,i64 b.To]) q rfl rfl (fun b4 w5 r=>(aH (v:=i64 0) (aG (aJ ?_)))))));obtain ⟨K7,a7,h,u,a8⟩:=aD.lendBp r .head
 obtain ⟨k,i,j,l,a9⟩:=aD.lendBp u .head
 refine fO (C:=fun w'=>∃ L',aD G k L' w') [(0,0),(1,0),(2,0),(3,0),(5,0),(6,0),(7,0),(8,0),(10,0),(11,0),(12,0),(13,0),(4,1),(9,1),(14,1),(15,1),(16,1),(17,0)] Tryz_mixed (by kernel_rfl) (fun _ hg=>⟨_,aD.mono l hg⟩) (fun b0 x=>?_)
 have c:=aD.mono l x
 refine bS rfl (fun _ _=>bM (t':=0) qK rfl rfl) (bS rfl (fun _ ⟨_,c⟩=>bX (t:=0) eZ c j rfl rfl) (bS rfl (fun _ _=>bM (t':=0) qK rfl rfl) (bS rfl (fun _ ⟨_,c⟩=>bX (t:=0) eZ c (h.mono i) rfl rfl) (bS rfl (fun _ _=>bM (t':=1) aAo rfl rfl) (bS rfl (fun _ ⟨_,c⟩=>bX (t:=1) eZ c j rfl rfl) (bS rfl (fun _ _=>bM (t':=1) aAo rfl rfl) (bS rfl (fun _ ⟨_,c⟩=>bX (t:=1) eZ c (h.mono i) rfl rfl) (bS rfl (fun _ _=>bM (t':=2) qL rfl rfl) (bS rfl (fun _ ⟨_,c⟩=>bX (t:=2) eZ c j rfl rfl) (bS rfl (fun _ _=>bM (t':=2) qL rfl rfl) (bS rfl (fun _ ⟨_,c⟩=>bX (t:=2) eZ c (h.mono i) rfl rfl) (qX rfl ?_))))))))))))
 obtain ⟨d,y,hm⟩:=aB hm
 refine aS (vs:=[i64 a.F,i64 b.F]) call86 rfl (jI y c) ?_
 rintro _ b2 ⟨rfl,m⟩
 refine bG (aC ⟨⟨_,m⟩,?_⟩)
 refine qX rfl ?_;obtain ⟨e,z,hm⟩:=aB hm
 refine aS (vs:=[i64 a.B,i64 b.B]) call86 rfl (jI z m) ?_
 rintro _ b3 ⟨rfl,n⟩
 refine bG (aC ⟨⟨_,n⟩,?_⟩)
 refine qX rfl ?_;obtain ⟨g,J,hm⟩:=aB hm
 refine aS (vs:=[i64 a.To,i64 b.To]) call86 rfl (jI J n) ?_
 rintro _ b5 ⟨rfl,o⟩
 refine bG (aC ⟨⟨_,o⟩,?_⟩)
 refine qX rfl (dI (Kt:=K) (xs:=([d,e,g]:List Int)) (cs:=[i64 d,i64 e,i64 g]) (vs:=[(0,i64 d),(1,i64 e),(2,i64 g)]) sl_143 ez_3 rfl rfl o rfl (by kernel_rfl) rfl rfl rfl ⟨rfl,rfl,rfl,trivial⟩ (fun V a0 (a1:aD G k (aM 3 K V 3 ([d,e,g]:List Int)::L) a0)=>(bG (aC ⟨⟨_,a1⟩,?_⟩))))
 exact qX rfl aK
theorem tP {a:aV} {R:Bool} (hm:nR a=some R) (b:aD G K (L) w):
  Calls prog 147 ([str a]:List Value).toArray w (dV fun v w'=>v=Value.bool R/\aD G K (L) w'):=by
 exact aK
theorem aBu {a y:aV} {R:Int} (hm:jJ a y=some R) (b:aD G K (L) w):
  Calls prog 116 ([str a,str y]:List Value).toArray w (dV fun v w'=>v=i64 R/\aD G K (L) w'):=by
 refine aO func116 rfl (by kernel_rfl) (by show (2:Nat)<=20;decide) ?_;unfold jJ at hm
 refine aI (aH (v:=i64 0) (aG (aI (aL (v:=str a) ?_))));obtain ⟨d,c,hm⟩:=aB hm
 exact aS (vs:=[str a]) call147 rfl (tP c b) aK
theorem rN {a b:(List aV)} {R:Int} (hm:fI a b=some R) (e:aD G K (L) w) (g:bK K a1 c2 a) (h:bK K a4 c5 b):
  Calls prog 88 ([zS a1 a.length c2,zS a4 b.length c5]:List Value).toArray w (dV fun v w'=>v=i64 R/\aD G K (L) w'):=by
 refine aO func88 rfl (by kernel_rfl) (by show (2:Nat)<=36;decide) ?_;unfold fI at hm
 refine aI (aH (v:=i64 0) (aG (aJ (aI (aL (v:=zS a1 a.length c2) (aF (bE (len:=a.length) gL rfl) (aL (v:=i64 0) (aG (aQ [0,1] (fun f w=>kR a b=some R/\aD G K (L) w) aK ?_)))))))));obtain ⟨i,c,ho⟩:=aB hm
 exact cQ [0,1,9,10] c (fun d f w=>f 11=i64 d/\aD G K (L) w) aK aK
end Gv
