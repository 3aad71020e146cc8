/- The program's OrbitTotal returns what the reference's returns, for all arguments: the card FnExactOrbitTotalCardSaid. Conditions: those of the row alone (the listed variables of Go's library hold what their initialisers lay). -/
import Derived.Test.YtokmmhfhaoanmaaGreatDoorJG5
import Derived.Test.YtokmmhfhaoanmaaGreatDoorJGG
set_option linter.all false
namespace Go.Proofs.YtokmmhfhaoanmaaGreatDoor.fnTot
open Go.ChangeShapes Go.WideShapes Go.ChangeAt Go.RowKit
set_option maxRecDepth 100000
set_option maxHeartbeats 4000000
theorem plain (f:FuncId) (fn:Func) (hf:Tryz.pinned.checked.prog.funcNamed "loop.example/g01075/laws.FnExactOrbitTotal"=some f) (hfn:Tryz.pinned.checked.prog.funcs[f]?=some fn):
  true=Tryz.pinned.checked.prog.looks []/\∀ (j:Nat) t,fn.params[j]?=some t->Tryz.pinned.checked.prog.wantsStandIn t=false:=by
 obtain rfl:f=3:=Option.some.inj ((show Tryz.prog.funcNamed "loop.example/g01075/laws.FnExactOrbitTotal"=some 3 by kernel_rfl).symm.trans hf) |>.symm
 obtain rfl:fn=Tryz.f3:=(Option.some.inj (Tryz.func3.symm.trans hfn)).symm
 refine ⟨by kernel_rfl,fun j t ht=>?_⟩
 rw [Tryz.params3] at ht
 have:t=27:=by simpa using Array.mem_of_getElem? ht
 subst this
 exact (show Tryz.prog.wantsStandIn 27=false by kernel_rfl)
theorem card:Rows.FnExactOrbitTotalCardSaid:=
 Claim7.holds_tied_plain_at .later [] _ _ _ _ said (fun _ h=>by cases h) (by as_aux_lemma=>kernel_rfl) (fun _ h=>by cases h) fnExactOrbitTotal_row_tie rfl ⟨rfl,rfl⟩ (by as_aux_lemma=>kernel_rfl) rfl plain goes
#print axioms card
end Go.Proofs.YtokmmhfhaoanmaaGreatDoor.fnTot
