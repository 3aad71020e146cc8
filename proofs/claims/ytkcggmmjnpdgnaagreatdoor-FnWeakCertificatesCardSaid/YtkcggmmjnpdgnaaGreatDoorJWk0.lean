/- Walks, printed by program. -/
import Derived.Test.YtkcggmmjnpdgnaaGreatDoorJLWa
import Derived.Test.YtkcggmmjnpdgnaaGreatDoorJMd
set_option linter.all false
namespace Gv
open Gv.Hp renaming le_refl→zR
open Go.Value renaming slice→zS
open Go Go.Proofs Go.Proofs.Tryz
set_option maxRecDepth 20000
set_option maxHeartbeats 40000000
variable {G:uK} {K:Hp} {L:List gQ} {w:World} {a1 a4:Option Addr} {c2 c5:Nat}
theorem aAQ {a:Int} {R:Bool} (hm:pF a=some R) (b:aI G K (L) w):
  Calls prog 139 ([i64 a]:List Value).toArray w (eV fun v w'=>v=Value.bool R/\aI G K (L) w'):=by
 exact eB
theorem lT {a y R:Int} (hm:eX a y=some R) (b:aI G K (L) w):
  Calls prog 116 ([i64 a,i64 y]:List Value).toArray w (eV fun v w'=>v=i64 R/\aI G K (L) w'):=by
 refine aR func116 rfl (by kernel_rfl) (by show (2:Nat)<=20;decide) ?_;unfold eX at hm
 refine aK (aE (v:=i64 0) (aG (aK (aF (v:=i64 a) ?_))));obtain ⟨d,c,hm⟩:=aC hm
 exact aP (vs:=[i64 a]) call139 rfl (aAQ c b) eB
theorem aIF {a:(List Int)} {R:Int} (hm:zF a=some R) (d:aI G K (L) w) (e:bW K a1 c2 a):
  Calls prog 115 ([zS a1 a.length c2]:List Value).toArray w (eV fun v w'=>v=i64 R/\aI G K (L) w'):=by
 refine aR func115 rfl (by kernel_rfl) (by show (1:Nat)<=18;decide) ?_;unfold zF at hm
 refine aK (aE (v:=i64 0) (aG (aK (aE (v:=i64 0) (aG (aO (aK (aF (v:=zS a1 a.length c2) (aD (bX (len:=a.length) sl_175 rfl) (aF (v:=i64 0) (aG (aX [3] (fun f w=>aCd=some R/\aI G K (L) w) eB ?_))))))))))));obtain ⟨g,b,ho⟩:=aC hm
 exact fA [3,6,7] b (fun c f w=>f 8=i64 c/\aI G K (L) w) eB eB
theorem aDC {a b:Edge} {R:Int} (hm:wS a b=some R) (p:aI G K (L) w):
  Calls prog 83 ([Value.agg #[i64 a.F,i64 a.B,i64 a.To],Value.agg #[i64 b.F,i64 b.B,i64 b.To]]:List Value).toArray w (eV fun v w'=>v=i64 R/\aI G K (L) w'):=by
 refine aR func83 rfl (by kernel_rfl) (by show (2:Nat)<=22;decide) ?_;unfold wS at hm
 refine aK (fO (v:=Value.agg #[i64 a.F,i64 a.B,i64 a.To]) (vs:=[i64 a.F,i64 a.B,i64 a.To]) p rfl rfl (fun b1 w2 q=>(fO (v:=Value.agg #[i64 b.F,i64 b.B,i64 b.To]) (vs:=[i64 b.F,i64 b.B,i64 b.To]) q rfl rfl (fun b4 w5 r=>(aE (v:=i64 0) (aG (aO ?_)))))));obtain ⟨K7,a6,h,u,a7⟩:=aI.lendBp r .head
 obtain ⟨k,i,j,l,a8⟩:=aI.lendBp u .head
 refine dI (C:=fun w'=>∃ L',aI G k L' w') [(0,0),(1,0),(2,0),(3,0),(5,0),(6,0),(7,0),(8,0),(10,0),(11,0),(12,0),(13,0),(4,1),(9,1),(14,1),(15,1),(16,1),(17,0)] Tryz_mixed (by kernel_rfl) (fun _ hg=>⟨_,aI.mono l hg⟩) (fun a9 x=>?_)
 have c:=aI.mono l x
 refine bL rfl (fun _ _=>bH (t':=0) iY rfl rfl) (bL rfl (fun _ ⟨_,c⟩=>bE (t:=0) cE c j rfl rfl) (bL rfl (fun _ _=>bH (t':=0) iY rfl rfl) (bL rfl (fun _ ⟨_,c⟩=>bE (t:=0) cE c (h.mono i) rfl rfl) (bL rfl (fun _ _=>bH (t':=1) iR rfl rfl) (bL rfl (fun _ ⟨_,c⟩=>bE (t:=1) cE c j rfl rfl) (bL rfl (fun _ _=>bH (t':=1) iR rfl rfl) (bL rfl (fun _ ⟨_,c⟩=>bE (t:=1) cE c (h.mono i) rfl rfl) (bL rfl (fun _ _=>bH (t':=2) gY rfl rfl) (bL rfl (fun _ ⟨_,c⟩=>bE (t:=2) cE c j rfl rfl) (bL rfl (fun _ _=>bH (t':=2) gY rfl rfl) (bL rfl (fun _ ⟨_,c⟩=>bE (t:=2) cE c (h.mono i) rfl rfl) (fT rfl ?_))))))))))))
 obtain ⟨d,y,hm⟩:=aC hm
 refine aP (vs:=[i64 a.F,i64 b.F]) call116 rfl (lT y c) ?_
 rintro _ b0 ⟨rfl,m⟩
 refine bF (aB ⟨⟨_,m⟩,?_⟩)
 refine fT rfl ?_;obtain ⟨e,z,hm⟩:=aC hm
 refine aP (vs:=[i64 a.B,i64 b.B]) call116 rfl (lT z m) ?_
 rintro _ b2 ⟨rfl,n⟩
 refine bF (aB ⟨⟨_,n⟩,?_⟩)
 refine fT rfl ?_;obtain ⟨g,J,hm⟩:=aC hm
 refine aP (vs:=[i64 a.To,i64 b.To]) call116 rfl (lT J n) ?_
 rintro _ b3 ⟨rfl,o⟩
 refine bF (aB ⟨⟨_,o⟩,?_⟩)
 refine fT rfl (bT (Kt:=K) (xs:=([d,e,g]:List Int)) (cs:=[i64 d,i64 e,i64 g]) (vs:=[(0,i64 d),(1,i64 e),(2,i64 g)]) sl_175 ez_3 rfl rfl o rfl (by kernel_rfl) rfl rfl rfl ⟨rfl,rfl,rfl,trivial⟩ (fun V Z (a0:aI G k (aN 3 K V 3 ([d,e,g]:List Int)::L) Z)=>(bF (aB ⟨⟨_,a0⟩,?_⟩))))
 exact fT rfl eB
theorem oA {a b:(List Int)} {R:Int} (hm:fV a b=some R) (e:aI G K (L) w) (g:bW K a1 c2 a) (h:bW K a4 c5 b):
  Calls prog 117 ([zS a1 a.length c2,zS a4 b.length c5]:List Value).toArray w (eV fun v w'=>v=i64 R/\aI G K (L) w'):=by
 refine aR func117 rfl (by kernel_rfl) (by show (2:Nat)<=36;decide) ?_;unfold fV at hm
 refine aK (aE (v:=i64 0) (aG (aO (aK (aF (v:=zS a1 a.length c2) (aD (bX (len:=a.length) bV rfl) (aF (v:=i64 0) (aG (aX [0,1] (fun f w=>jO a b=some R/\aI G K (L) w) eB ?_)))))))));obtain ⟨i,c,ho⟩:=aC hm
 exact fA [0,1,9,10] c (fun d f w=>f 11=i64 d/\aI G K (L) w) eB eB
end Gv
