/- Walks, printed by program. -/
import Derived.Test.YtlechllgdgniaaaGreatDoorJLWa
import Derived.Test.YtlechllgdgniaaaGreatDoorJMd
set_option linter.all false
namespace Gv
open Gv.Hp renaming le_refl→zR
open Go.Value renaming slice→zS
open Go Go.Proofs Go.Proofs.Tryz
set_option maxRecDepth 20000
set_option maxHeartbeats 40000000
variable {G:pJ} {K:Hp} {L:List hQ} {w:World} {a1 a4:Option Addr} {c2 c5:Nat}
theorem aHJ {a b:bK} {R:Int} (hm:xY a b=some R) (c:aN G K (L) w):
  Calls prog 128 ([str a,str b]:List Value).toArray w (eR fun v w'=>v=i64 R/\aN G K (L) w'):=by
 exact cA
theorem zV {x_:Int} {R:Bool} (hm:nO x_=some R) (a:aN G K (L) w):
  Calls prog 221 ([i64 x_]:List Value).toArray w (eR fun v w'=>v=Value.bool R/\aN G K (L) w'):=by
 exact cA
theorem oA {x_ y R:Int} (hm:iT x_ y=some R) (a:aN G K (L) w):
  Calls prog 176 ([i64 x_,i64 y]:List Value).toArray w (eR fun v w'=>v=i64 R/\aN G K (L) w'):=by
 refine aQ func176 rfl (by kernel_rfl) (by show (2:Nat)<=20;decide) ?_;unfold iT at hm
 refine aL (aD (v:=i64 0) (aG (aL (aI (v:=i64 x_) ?_))));obtain ⟨c,b,hm⟩:=aC hm
 exact aT (vs:=[i64 x_]) call221 rfl (zV b a) cA
theorem aJf {a:(List Int)} {R:Int} (hm:wV a=some R) (d:aN G K (L) w) (e:cE K a1 c2 a):
  Calls prog 175 ([zS a1 a.length c2]:List Value).toArray w (eR fun v w'=>v=i64 R/\aN G K (L) w'):=by
 refine aQ func175 rfl (by kernel_rfl) (by show (1:Nat)<=18;decide) ?_;unfold wV at hm
 refine aL (aD (v:=i64 0) (aG (aL (aD (v:=i64 0) (aG (aO (aL (aI (v:=zS a1 a.length c2) (aA (bQ (len:=a.length) sl_276 rfl) (aI (v:=i64 0) (aG (bR [3] (fun f w=>qN=some R/\aN G K (L) w) cA ?_))))))))))));obtain ⟨g,b,ho⟩:=aC hm
 exact dS [3,6,7] b (fun c f w=>f 8=i64 c/\aN G K (L) w) cA cA
theorem aDb {a b:Edge} {R:Int} (hm:tW a b=some R) (p:aN G K (L) w):
  Calls prog 132 ([Value.agg #[i64 a.F,i64 a.B,i64 a.To],Value.agg #[i64 b.F,i64 b.B,i64 b.To]]:List Value).toArray w (eR fun v w'=>v=i64 R/\aN G K (L) w'):=by
 refine aQ func132 rfl (by kernel_rfl) (by show (2:Nat)<=22;decide) ?_;unfold tW at hm
 refine aL (dQ (v:=Value.agg #[i64 a.F,i64 a.B,i64 a.To]) (vs:=[i64 a.F,i64 a.B,i64 a.To]) p rfl rfl (fun b1 w2 q=>(dQ (v:=Value.agg #[i64 b.F,i64 b.B,i64 b.To]) (vs:=[i64 b.F,i64 b.B,i64 b.To]) q rfl rfl (fun b4 w5 r=>(aD (v:=i64 0) (aG (aO ?_)))))));obtain ⟨K7,a6,h,u,a7⟩:=aN.lendBp r .head
 obtain ⟨k,i,j,l,a8⟩:=aN.lendBp u .head
 refine jJ (C:=fun w'=>∃ L',aN G k L' w') [(0,0),(1,0),(2,0),(3,0),(5,0),(6,0),(7,0),(8,0),(10,0),(11,0),(12,0),(13,0),(4,1),(9,1),(14,1),(15,1),(16,1),(17,0)] cB (by kernel_rfl) (fun _ hg=>⟨_,aN.mono l hg⟩) (fun a9 x=>?_)
 have c:=aN.mono l x
 refine dV rfl (fun _ _=>bA (t':=0) rR rfl rfl) (dV rfl (fun _ ⟨_,c⟩=>bX (t:=0) dC c j rfl rfl) (dV rfl (fun _ _=>bA (t':=0) rR rfl rfl) (dV rfl (fun _ ⟨_,c⟩=>bX (t:=0) dC c (h.mono i) rfl rfl) (dV rfl (fun _ _=>bA (t':=1) oL rfl rfl) (dV rfl (fun _ ⟨_,c⟩=>bX (t:=1) dC c j rfl rfl) (dV rfl (fun _ _=>bA (t':=1) oL rfl rfl) (dV rfl (fun _ ⟨_,c⟩=>bX (t:=1) dC c (h.mono i) rfl rfl) (dV rfl (fun _ _=>bA (t':=2) vZ rfl rfl) (dV rfl (fun _ ⟨_,c⟩=>bX (t:=2) dC c j rfl rfl) (dV rfl (fun _ _=>bA (t':=2) vZ rfl rfl) (dV rfl (fun _ ⟨_,c⟩=>bX (t:=2) dC c (h.mono i) rfl rfl) (pP rfl ?_))))))))))))
 obtain ⟨d,y,hm⟩:=aC hm
 refine aT (vs:=[i64 a.F,i64 b.F]) call176 rfl (oA y c) ?_
 rintro _ b0 ⟨rfl,m⟩
 refine cC (aB ⟨⟨_,m⟩,?_⟩)
 refine pP rfl ?_;obtain ⟨e,z,hm⟩:=aC hm
 refine aT (vs:=[i64 a.B,i64 b.B]) call176 rfl (oA z m) ?_
 rintro _ b2 ⟨rfl,n⟩
 refine cC (aB ⟨⟨_,n⟩,?_⟩)
 refine pP rfl ?_;obtain ⟨g,J,hm⟩:=aC hm
 refine aT (vs:=[i64 a.To,i64 b.To]) call176 rfl (oA J n) ?_
 rintro _ b3 ⟨rfl,o⟩
 refine cC (aB ⟨⟨_,o⟩,?_⟩)
 refine pP rfl (eL (Kt:=K) (xs:=([d,e,g]:List Int)) (cs:=[i64 d,i64 e,i64 g]) (vs:=[(0,i64 d),(1,i64 e),(2,i64 g)]) sl_276 ez_3 rfl rfl o rfl (by kernel_rfl) rfl rfl rfl ⟨rfl,rfl,rfl,trivial⟩ (fun V Z (a0:aN G k (bB 3 K V 3 ([d,e,g]:List Int)::L) Z)=>(cC (aB ⟨⟨_,a0⟩,?_⟩))))
 exact pP rfl cA
theorem xI {x_:bK} {R:Bool} (hm:mO x_=some R) (a:aN G K (L) w):
  Calls prog 249 ([str x_]:List Value).toArray w (eR fun v w'=>v=Value.bool R/\aN G K (L) w'):=by
 exact cA
theorem aEw {x_ y:bK} {R:Int} (hm:lA x_ y=some R) (a:aN G K (L) w):
  Calls prog 201 ([str x_,str y]:List Value).toArray w (eR fun v w'=>v=i64 R/\aN G K (L) w'):=by
 refine aQ func201 rfl (by kernel_rfl) (by show (2:Nat)<=20;decide) ?_;unfold lA at hm
 refine aL (aD (v:=i64 0) (aG (aL (aI (v:=str x_) ?_))));obtain ⟨c,b,hm⟩:=aC hm
 exact aT (vs:=[str x_]) call249 rfl (xI b a) cA
theorem uI {a b:(List bK)} {R:Int} (hm:iL a b=some R) (e:aN G K (L) w) (g:cE K a1 c2 a) (h:cE K a4 c5 b):
  Calls prog 169 ([zS a1 a.length c2,zS a4 b.length c5]:List Value).toArray w (eR fun v w'=>v=i64 R/\aN G K (L) w'):=by
 refine aQ func169 rfl (by kernel_rfl) (by show (2:Nat)<=36;decide) ?_;unfold iL at hm
 refine aL (aD (v:=i64 0) (aG (aO (aL (aI (v:=zS a1 a.length c2) (aA (bQ (len:=a.length) dL rfl) (aI (v:=i64 0) (aG (bR [0,1] (fun f w=>gX a b=some R/\aN G K (L) w) cA ?_)))))))));obtain ⟨i,c,ho⟩:=aC hm
 exact dS [0,1,9,10] c (fun d f w=>f 11=i64 d/\aN G K (L) w) cA cA
end Gv
