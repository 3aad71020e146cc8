/- Walks, printed by program. -/
import Derived.Test.YtnpdckpkipjngaaGreatDoorKWk3
import Derived.Test.YtnpdckpkipjngaaGreatDoorKWk4
import Derived.Test.YtnpdckpkipjngaaGreatDoorKWk5
set_option linter.all false
namespace Gv
open Go.Value renaming slice→zS
open Go Go.Proofs
set_option maxRecDepth 20000
set_option maxHeartbeats 40000000
variable {G:Env} {K:Hp} {L:List nD} {w:World} {a1:Option Addr} {c2:Nat}
theorem vP {s_:(List Int)} {R:(List Int)} (hs:aN G K (L) w) (h3:cJ K a1 c2 s_) (hm:dV s_=some R):
  Calls Tryz.prog 101 ([zS a1 s_.length c2]:List Value).toArray w (gV fun v w'=>∃ (ra0:Option Addr) (rc0:Nat),v=zS ra0 R.length rc0∧aN G K (aK 2 K ra0 rc0 R::L) w'):=by
 refine aW Tryz.func101 rfl (by kernel_rfl) (by show (1:Nat)≤8;decide) ?_
 unfold dV at hm
 refine aH (aC (aB (aG (v:=zS none 0 0) rfl) (aD (aA (aH (aH (aC (aB (aF (v:=zS a1 s_.length c2) rfl) (aB (R_isNil cG rfl rfl) (aD (aA ?_)))))))))))
 rcases aLc h3 with ⟨a4,a5,a6⟩|h7
 ·subst a4;subst a5;subst a6
  refine aMG rfl ?_
  replace hm:(some [])=some R:=hm
  refine aH (aC (aB (aG (v:=zS none 0 0) rfl) (aD (aA ?_))))
  have hs18:=aN.nil (α:=Int) hs 2 K
  cases Option.some.inj hm
  exact bC (aS (bA Tryz.results101 rfl ⟨none,0,rfl,hs18⟩))
 ·refine aMH (Eq.trans rfl (congrArg Value.bool h7)) (aY (aA (aH (aC (dA (Kt:=K) (xs:=([]:List Int)) (cs:=[]) (vs:=[]) cG sU rfl rfl hs rfl (by kernel_rfl) rfl rfl rfl trivial (fun a8 w9 (b2:aN G K (aK 2 K a8 0 ([]:List Int)::L) w9)=>(aB (aF (v:=zS a1 s_.length c2) rfl) ?_)))))))
  obtain ⟨a3,b3,hm⟩:=aJ hm
  refine qP (i:=0) cG Tryz.underlying31 sU rfl rfl b2 rfl (Hp.le_refl _) h3 b3 rfl rfl rfl rfl (fun a0 a2 b4 (b5:aN G K (aK 2 K a0 a2 a3::L) b4)=>(aB (aG (v:=zS a0 a3.length a2) rfl) (aD (aA ?_))))
  cases Option.some.inj hm
  exact bC (bA Tryz.results101 rfl ⟨a0,a2,rfl,b5⟩)
end Gv
