/- The row's statement, and the card. -/
import Derived.Test.YthbfapccpmppoaaGreatDoorJG3
import Derived.Lay
set_option linter.all false
namespace Go.Proofs.YthbfapccpmppoaaGreatDoor.fnKpT
open Go.ChangeShapes Go.WideShapes Go.ChangeAt Go.RowKit
set_option maxRecDepth 100000
set_option maxHeartbeats 4000000
noncomputable abbrev wit:Array Value:=#[.agg #[.string ⟨#[]⟩,.int .i64 0,.int .i64 0,.int .i64 0,.slice none 0 0,.slice none 0 0,.slice none 0 0,.slice none 0 0,.slice none 0 0,.slice none 0 0,.slice none 0 0,.slice none 0 0]]
theorem laid_met (os:Os):laidMet Tryz.prog Rows.fnExactKeptTextRow.laid ((World.laidAll Tryz.prog os Rows.fnExactKeptTextRow.laid).forCall (fun _ _=>0) ⟨#[],wit,[]⟩).memory:=
 laidMet_laidAll wit (by kernel_rfl) (by kernel_rfl)
theorem reads (os:Os) {H:Type} (enc:TypeId × Value->H):∃ places,DataW.whole enc Tryz.prog ((World.laidAll Tryz.prog os Rows.fnExactKeptTextRow.laid).forCall (fun _ _=>0) ⟨#[],wit,[]⟩).memory Tryz.f3.params.toList Rows.fnExactKeptTextSpec.vars false wit.toList 8=some ([.agg [.lit (.string []),.lit (.int .i64 0),.agg [.lit (.int .i64 0),.lit (.int .i64 0),.nil,.nil],.nil,.agg [.nil,.nil,.nil,.nil,.nil]]],[Rows.laid_loop_example_g01075_impl_operatorTexts,Rows.laid_loop_example_g01075_impl_levels],places):=
 ⟨MemPlace.row ⟨3,0,none⟩ 9++[]++(MemPlace.row ⟨5,0,none⟩ 9++[]++[]),by kernel_rfl⟩
theorem lifted (os:Os) (started:os.Started) (H:Type) (enc:TypeId × Value->H) (F:Stop.Interp):
  ReturnsInHanded {} Tryz.checked os 3 .any ((OpenSpec.ofChange Rows.fnExactKeptTextSpec).preRow enc Tryz.prog Tryz.f3 Rows.fnExactKeptTextRow.domain false Rows.fnExactKeptTextRow.laid) (((OpenSpec.ofChange Rows.fnExactKeptTextSpec).at F).post enc Tryz.prog Tryz.f3 false true false false):=by
 obtain ⟨places,hx⟩:=reads os enc
 refine returnsInHanded_of_row (C:=Tryz.checked) (s:=OpenSpec.ofChange Rows.fnExactKeptTextSpec) aV started (by kernel_rfl) Tryz.func3
  (witness_row_atRef (enc:=enc) (C:=Tryz.checked) false (World.laidAll Tryz.prog os Rows.fnExactKeptTextRow.laid) wit (World.laidAll_os _ _ _) (by kernel_rfl) (by kernel_rfl) (by kernel_rfl)
   (OpenSpec.preRow_of_cond 8 hx (by kernel_rfl) (fun k hk=>by cases hk) (by kernel_rfl) (laid_met os))) ?_
 intro W base args ds gs before hval hW _ _ _ hL hS _
 exact contract H enc W base args ds gs before hval hW hL hS
end Go.Proofs.YthbfapccpmppoaaGreatDoor.fnKpT
