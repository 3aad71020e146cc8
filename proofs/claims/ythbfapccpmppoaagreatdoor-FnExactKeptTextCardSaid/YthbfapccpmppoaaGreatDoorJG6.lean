/- The program's KeptText returns what the reference's returns, for all arguments: the card FnExactKeptTextCardSaid. Conditions: those of the row alone (the listed variables of Go's library hold what their initialisers lay). -/
import Derived.Test.YthbfapccpmppoaaGreatDoorJG5
import Derived.Test.YthbfapccpmppoaaGreatDoorJGG
set_option linter.all false
namespace Go.Proofs.YthbfapccpmppoaaGreatDoor.fnKpT
open Go.ChangeShapes Go.WideShapes Go.ChangeAt Go.RowKit
set_option maxRecDepth 100000
set_option maxHeartbeats 4000000
theorem plain (f:FuncId) (fn:Func) (hf:Tryz.pinned.checked.prog.funcNamed "loop.example/g01075/laws.FnExactKeptText"=some f) (hfn:Tryz.pinned.checked.prog.funcs[f]?=some fn):
  true=Tryz.pinned.checked.prog.looks []/\∀ (j:Nat) t,fn.params[j]?=some t->Tryz.pinned.checked.prog.wantsStandIn t=false:=by
 obtain rfl:f=3:=Option.some.inj ((show Tryz.prog.funcNamed "loop.example/g01075/laws.FnExactKeptText"=some 3 by kernel_rfl).symm.trans hf) |>.symm
 obtain rfl:fn=Tryz.f3:=(Option.some.inj (Tryz.func3.symm.trans hfn)).symm
 refine ⟨by kernel_rfl,fun j t ht=>?_⟩
 rw [Tryz.params3] at ht
 have:t=33:=by simpa using Array.mem_of_getElem? ht
 subst this
 exact (show Tryz.prog.wantsStandIn 33=false by kernel_rfl)
theorem card:Rows.FnExactKeptTextCardSaid:=
 Claim7.holds_tied_plain_at .later [] _ _ _ _ said (fun _ h=>by cases h) (by as_aux_lemma=>kernel_rfl) (fun _ h=>by cases h) fnExactKeptText_row_tie rfl ⟨rfl,rfl⟩ (by as_aux_lemma=>kernel_rfl) rfl plain goes
#print axioms card
end Go.Proofs.YthbfapccpmppoaaGreatDoor.fnKpT
