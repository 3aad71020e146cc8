/- Readings of the program's data; what is known of its types. -/
import Derived.Test.YtnpdckpkipjngaaGreatDoorRX
import Derived.Test.YtnpdckpkipjngaaGreatDoorRS
import Derived.Test.YtnpdckpkipjngaaGreatDoorProg
import Derived.KernelRfl
set_option linter.all false
namespace Gv
open Go Go.Proofs
instance : fF Edge where
 sz := 3
 enc d := [i64 d.From, i64 d.Label, i64 d.To]
 len _ := rfl
 one _ v h := by simp at h; rcases h with rfl | rfl | rfl <;> rfl
 pos := by decide
instance : El dC where
 sz := 4
 rd K cs d := ∃ (a0 : Option Addr) (c0 : Nat) (a1 : Option Addr) (c1 : Nat), cs = [i64 d.States, i64 d.Initial, Value.slice a0 d.Labels.length c0, Value.slice a1 d.Edges.length c1] ∧ bX K a0 c0 d.Labels ∧ bX K a1 c1 d.Edges
 mono := fun h ⟨a0, c0, a1, c1, e, h0, h1⟩ => ⟨a0, c0, a1, c1, e, h0.mono h, h1.mono h⟩
 len := fun ⟨_, _, _, _, e, _⟩ => by rw [e]; rfl
 one := fun ⟨_, _, _, _, e, _⟩ v hv => by rw [e] at hv; simp at hv; rcases hv with rfl | rfl | rfl | rfl <;> rfl
 pos := by decide
instance : El dS where
 sz := 5
 rd K cs d := ∃ (a0 : Option Addr) (c0 : Nat) (a1 : Option Addr) (c1 : Nat) (a2 : Option Addr) (c2 : Nat), cs = [i64 d.System.States, i64 d.System.Initial, Value.slice a0 d.System.Labels.length c0, Value.slice a1 d.System.Edges.length c1, Value.slice a2 d.Verdicts.length c2] ∧ bX K a0 c0 d.System.Labels ∧ bX K a1 c1 d.System.Edges ∧ bX K a2 c2 d.Verdicts
 mono := fun h ⟨a0, c0, a1, c1, a2, c2, e, h0, h1, h2⟩ => ⟨a0, c0, a1, c1, a2, c2, e, h0.mono h, h1.mono h, h2.mono h⟩
 len := fun ⟨_, _, _, _, _, _, e, _⟩ => by rw [e]; rfl
 one := fun ⟨_, _, _, _, _, _, e, _⟩ v hv => by rw [e] at hv; simp at hv; rcases hv with rfl | rfl | rfl | rfl | rfl <;> rfl
 pos := by decide
instance : fF lL where
 sz := 3
 enc d := [i64 d.from_, cF d.label, i64 d.to_]
 len _ := rfl
 one _ v h := by simp at h; rcases h with rfl | rfl | rfl <;> rfl
 pos := by decide
instance : El cO where
 sz := 8
 rd K cs d := ∃ (a0 : Option Addr) (c0 : Nat) (a1 : Option Addr) (c1 : Nat) (a2 : Option Addr) (c2 : Nat) (a3 : Option Addr) (c3 : Nat), cs = [i64 d.t.States, i64 d.t.Initial, Value.slice a0 d.t.Labels.length c0, Value.slice a1 d.t.Edges.length c1, i64 d.p.States, i64 d.p.Initial, Value.slice a2 d.p.Labels.length c2, Value.slice a3 d.p.Edges.length c3] ∧ bX K a0 c0 d.t.Labels ∧ bX K a1 c1 d.t.Edges ∧ bX K a2 c2 d.p.Labels ∧ bX K a3 c3 d.p.Edges
 mono := fun h ⟨a0, c0, a1, c1, a2, c2, a3, c3, e, h0, h1, h2, h3⟩ => ⟨a0, c0, a1, c1, a2, c2, a3, c3, e, h0.mono h, h1.mono h, h2.mono h, h3.mono h⟩
 len := fun ⟨_, _, _, _, _, _, _, _, e, _⟩ => by rw [e]; rfl
 one := fun ⟨_, _, _, _, _, _, _, _, e, _⟩ v hv => by rw [e] at hv; simp at hv; rcases hv with rfl | rfl | rfl | rfl | rfl | rfl | rfl | rfl <;> rfl
 pos := by decide
instance : El mR where
 sz := 2
 rd K cs d := ∃ (a0 : Option Addr) (c0 : Nat) (a1 : Option Addr) (c1 : Nat), cs = [Value.slice a0 d.leave.length c0, Value.slice a1 d.stay.length c1] ∧ bX K a0 c0 d.leave ∧ bX K a1 c1 d.stay
 mono := fun h ⟨a0, c0, a1, c1, e, h0, h1⟩ => ⟨a0, c0, a1, c1, e, h0.mono h, h1.mono h⟩
 len := fun ⟨_, _, _, _, e, _⟩ => by rw [e]; rfl
 one := fun ⟨_, _, _, _, e, _⟩ v hv => by rw [e] at hv; simp at hv; rcases hv with rfl | rfl <;> rfl
 pos := by decide
instance : El cB where
 sz := 2
 rd K cs d := ∃ (a0 : Option Addr) (c0 : Nat), cs = [Value.slice a0 d.states.length c0, i64 d.y] ∧ bX K a0 c0 d.states
 mono := fun h ⟨a0, c0, e, h0⟩ => ⟨a0, c0, e, h0.mono h⟩
 len := fun ⟨_, _, e, _⟩ => by rw [e]; rfl
 one := fun ⟨_, _, e, _⟩ v hv => by rw [e] at hv; simp at hv; rcases hv with rfl | rfl <;> rfl
 pos := by decide
theorem cQ : SLT Tryz.prog 22 9 1 := ⟨Tryz.runUnderlying22, Tryz.sizeOf9⟩
theorem oI : SC Tryz.prog 9 := ⟨Tryz.isAgg9, Tryz.sizeOf9⟩
theorem sl_23 : SLT Tryz.prog 23 107 3 := ⟨Tryz.runUnderlying23, Tryz.sizeOf107⟩
theorem fa_25_2 : FA Tryz.prog 25 2 2 := ⟨_, _, _, Tryz.runUnderlying25, rfl, Tryz.sizeOf22, rfl, rfl⟩
theorem nY : SC Tryz.prog 22 := ⟨Tryz.isAgg22, Tryz.sizeOf22⟩
theorem fa_25_3 : FA Tryz.prog 25 3 3 := ⟨_, _, _, Tryz.runUnderlying25, rfl, Tryz.sizeOf23, rfl, rfl⟩
theorem sc_23 : SC Tryz.prog 23 := ⟨Tryz.isAgg23, Tryz.sizeOf23⟩
theorem aCx : EZ Tryz.prog 9 [cF []] := ⟨⟨_, Tryz.zeroValue9, rfl⟩, ⟨Tryz.t9, Tryz.typeInfo9, by show (16 : Nat) ≤ 128; decide, rfl, by kernel_rfl, _, rfl, rfl⟩⟩
theorem cT : SLT Tryz.prog 31 2 1 := ⟨Tryz.runUnderlying31, Tryz.sizeOf2⟩
theorem vJ : EZ Tryz.prog 2 [i64 0] := ⟨⟨_, Tryz.zeroValue2, rfl⟩, ⟨Tryz.t2, Tryz.typeInfo2, by show (8 : Nat) ≤ 128; decide, rfl, by kernel_rfl, _, rfl, rfl⟩⟩
theorem iB : FA Tryz.prog 63 0 0 := ⟨_, _, _, Tryz.runUnderlying63, rfl, Tryz.sizeOf2, rfl, rfl⟩
theorem cM : SC Tryz.prog 2 := ⟨Tryz.isAgg2, Tryz.sizeOf2⟩
theorem fP : FA Tryz.prog 63 1 1 := ⟨_, _, _, Tryz.runUnderlying63, rfl, Tryz.sizeOf2, rfl, rfl⟩
theorem iU : FA Tryz.prog 63 2 2 := ⟨_, _, _, Tryz.runUnderlying63, rfl, Tryz.sizeOf2, rfl, rfl⟩
theorem fX : FA Tryz.prog 30 0 0 := ⟨_, _, _, Tryz.runUnderlying30, rfl, Tryz.sizeOf2, rfl, rfl⟩
theorem xM : FA Tryz.prog 30 1 1 := ⟨_, _, _, Tryz.runUnderlying30, rfl, Tryz.sizeOf2, rfl, rfl⟩
theorem gS : FA Tryz.prog 30 2 2 := ⟨_, _, _, Tryz.runUnderlying30, rfl, Tryz.sizeOf22, rfl, rfl⟩
theorem dI : FA Tryz.prog 30 3 3 := ⟨_, _, _, Tryz.runUnderlying30, rfl, Tryz.sizeOf28, rfl, rfl⟩
theorem iC : SC Tryz.prog 28 := ⟨Tryz.isAgg28, Tryz.sizeOf28⟩
theorem cR : SLT Tryz.prog 28 63 3 := ⟨Tryz.runUnderlying28, Tryz.sizeOf63⟩
theorem qC : AG Tryz.prog 63 3 := ⟨Tryz.isAgg63, Tryz.sizeOf63⟩
theorem iV : SLT Tryz.prog 87 4 1 := ⟨Tryz.runUnderlying87, Tryz.sizeOf4⟩
theorem ez_4 : EZ Tryz.prog 4 [Value.bool false] := ⟨⟨_, Tryz.zeroValue4, rfl⟩, ⟨Tryz.t4, Tryz.typeInfo4, by show (1 : Nat) ≤ 128; decide, rfl, by kernel_rfl, _, rfl, rfl⟩⟩
theorem aBA : SC Tryz.prog 4 := ⟨Tryz.isAgg4, Tryz.sizeOf4⟩
theorem zS : EZ Tryz.prog 63 [i64 0, i64 0, i64 0] := ⟨⟨_, Tryz.zeroValue63, rfl⟩, ⟨Tryz.t63, Tryz.typeInfo63, by show (24 : Nat) ≤ 128; decide, rfl, by kernel_rfl, _, rfl, rfl⟩⟩
theorem aBR : SLT Tryz.prog 49 31 1 := ⟨Tryz.runUnderlying49, Tryz.sizeOf31⟩
theorem ez_31 : EZ Tryz.prog 31 [Value.slice none 0 0] := ⟨⟨_, Tryz.zeroValue31, rfl⟩, ⟨Tryz.t31, Tryz.typeInfo31, by show (24 : Nat) ≤ 128; decide, rfl, by kernel_rfl, _, rfl, rfl⟩⟩
theorem xE : BS Tryz.prog 33 [(0, 4), (4, 1)] [i64 0, i64 0, Value.slice none 0 0, Value.slice none 0 0, Value.slice none 0 0] := ⟨⟨_, Tryz.zeroValue33, rfl⟩, _, Tryz.runUnderlying33, fun w => by simp [Tryz.sizeOf30, Tryz.sizeOf31]⟩
theorem aAu : SC Tryz.prog 31 := ⟨Tryz.isAgg31, Tryz.sizeOf31⟩
theorem zT : FA Tryz.prog 33 1 4 := ⟨_, _, _, Tryz.runUnderlying33, rfl, Tryz.sizeOf31, rfl, rfl⟩
theorem bs_63 : BS Tryz.prog 63 [(0, 1), (1, 1), (2, 1)] [i64 0, i64 0, i64 0] := ⟨⟨_, Tryz.zeroValue63, rfl⟩, _, Tryz.runUnderlying63, fun w => by simp [Tryz.sizeOf2]⟩
theorem bs_30 : BS Tryz.prog 30 [(0, 1), (1, 1), (2, 1), (3, 1)] [i64 0, i64 0, Value.slice none 0 0, Value.slice none 0 0] := ⟨⟨_, Tryz.zeroValue30, rfl⟩, _, Tryz.runUnderlying30, fun w => by simp [Tryz.sizeOf2, Tryz.sizeOf22, Tryz.sizeOf28]⟩
theorem aDn : FA Tryz.prog 33 0 0 := ⟨_, _, _, Tryz.runUnderlying33, rfl, Tryz.sizeOf30, rfl, rfl⟩
theorem lI : AG Tryz.prog 33 5 := ⟨Tryz.isAgg33, Tryz.sizeOf33⟩
theorem fa_107_0 : FA Tryz.prog 107 0 0 := ⟨_, _, _, Tryz.runUnderlying107, rfl, Tryz.sizeOf2, rfl, rfl⟩
theorem fa_107_1 : FA Tryz.prog 107 1 1 := ⟨_, _, _, Tryz.runUnderlying107, rfl, Tryz.sizeOf2, rfl, rfl⟩
theorem fa_107_2 : FA Tryz.prog 107 2 2 := ⟨_, _, _, Tryz.runUnderlying107, rfl, Tryz.sizeOf2, rfl, rfl⟩
theorem ag_107 : AG Tryz.prog 107 3 := ⟨Tryz.isAgg107, Tryz.sizeOf107⟩
theorem fa_25_0 : FA Tryz.prog 25 0 0 := ⟨_, _, _, Tryz.runUnderlying25, rfl, Tryz.sizeOf2, rfl, rfl⟩
theorem fa_25_1 : FA Tryz.prog 25 1 1 := ⟨_, _, _, Tryz.runUnderlying25, rfl, Tryz.sizeOf2, rfl, rfl⟩
theorem gT : AG Tryz.prog 30 4 := ⟨Tryz.isAgg30, Tryz.sizeOf30⟩
theorem sl_199 : SLT Tryz.prog 199 3 1 := ⟨Tryz.runUnderlying199, Tryz.sizeOf3⟩
theorem ez_3 : EZ Tryz.prog 3 [i64 0] := ⟨⟨_, Tryz.zeroValue3, rfl⟩, ⟨Tryz.t3, Tryz.typeInfo3, by show (8 : Nat) ≤ 128; decide, rfl, by kernel_rfl, _, rfl, rfl⟩⟩
theorem sc_3 : SC Tryz.prog 3 := ⟨Tryz.isAgg3, Tryz.sizeOf3⟩
theorem zU : SLT Tryz.prog 68 70 3 := ⟨Tryz.runUnderlying68, Tryz.sizeOf70⟩
theorem ag_70 : AG Tryz.prog 70 3 := ⟨Tryz.isAgg70, Tryz.sizeOf70⟩
theorem fa_70_0 : FA Tryz.prog 70 0 0 := ⟨_, _, _, Tryz.runUnderlying70, rfl, Tryz.sizeOf2, rfl, rfl⟩
theorem fa_70_1 : FA Tryz.prog 70 1 1 := ⟨_, _, _, Tryz.runUnderlying70, rfl, Tryz.sizeOf9, rfl, rfl⟩
theorem fa_70_2 : FA Tryz.prog 70 2 2 := ⟨_, _, _, Tryz.runUnderlying70, rfl, Tryz.sizeOf2, rfl, rfl⟩
theorem aAX : AG Tryz.prog 119 8 := ⟨Tryz.isAgg119, Tryz.sizeOf119⟩
theorem oJ : FA Tryz.prog 119 0 0 := ⟨_, _, _, Tryz.runUnderlying119, rfl, Tryz.sizeOf30, rfl, rfl⟩
theorem qD : SLT Tryz.prog 157 87 1 := ⟨Tryz.runUnderlying157, Tryz.sizeOf87⟩
theorem ez_87 : EZ Tryz.prog 87 [Value.slice none 0 0] := ⟨⟨_, Tryz.zeroValue87, rfl⟩, ⟨Tryz.t87, Tryz.typeInfo87, by show (24 : Nat) ≤ 128; decide, rfl, by kernel_rfl, _, rfl, rfl⟩⟩
theorem qE : SC Tryz.prog 157 := ⟨Tryz.isAgg157, Tryz.sizeOf157⟩
theorem aAv : FA Tryz.prog 119 1 4 := ⟨_, _, _, Tryz.runUnderlying119, rfl, Tryz.sizeOf30, rfl, rfl⟩
theorem aDo : SC Tryz.prog 87 := ⟨Tryz.isAgg87, Tryz.sizeOf87⟩
theorem sc_246 : SC Tryz.prog 246 := ⟨Tryz.isAgg246, Tryz.sizeOf246⟩
theorem bs_159 : BS Tryz.prog 159 [(0, 1), (1, 1)] [Value.slice none 0 0, Value.slice none 0 0] := ⟨⟨_, Tryz.zeroValue159, rfl⟩, _, Tryz.runUnderlying159, fun w => by simp [Tryz.sizeOf157]⟩
theorem ag_159 : AG Tryz.prog 159 2 := ⟨Tryz.isAgg159, Tryz.sizeOf159⟩
theorem aDp : FA Tryz.prog 162 0 0 := ⟨_, _, _, Tryz.runUnderlying162, rfl, Tryz.sizeOf31, rfl, rfl⟩
theorem aDq : FA Tryz.prog 162 1 1 := ⟨_, _, _, Tryz.runUnderlying162, rfl, Tryz.sizeOf2, rfl, rfl⟩
theorem fa_159_0 : FA Tryz.prog 159 0 0 := ⟨_, _, _, Tryz.runUnderlying159, rfl, Tryz.sizeOf157, rfl, rfl⟩
theorem fa_159_1 : FA Tryz.prog 159 1 1 := ⟨_, _, _, Tryz.runUnderlying159, rfl, Tryz.sizeOf157, rfl, rfl⟩
theorem bs_70 : BS Tryz.prog 70 [(0, 1), (1, 1), (2, 1)] [i64 0, cF [], i64 0] := ⟨⟨_, Tryz.zeroValue70, rfl⟩, _, Tryz.runUnderlying70, fun w => by simp [Tryz.sizeOf2, Tryz.sizeOf9]⟩
theorem aCF : EZ Tryz.prog 70 [i64 0, cF [], i64 0] := ⟨⟨_, Tryz.zeroValue70, rfl⟩, ⟨Tryz.t70, Tryz.typeInfo70, by show (32 : Nat) ≤ 128; decide, rfl, by kernel_rfl, _, rfl, rfl⟩⟩
theorem aGN : BS Tryz.prog 162 [(0, 1), (1, 1)] [Value.slice none 0 0, i64 0] := ⟨⟨_, Tryz.zeroValue162, rfl⟩, _, Tryz.runUnderlying162, fun w => by simp [Tryz.sizeOf2, Tryz.sizeOf31]⟩
theorem aCR : AG Tryz.prog 162 2 := ⟨Tryz.isAgg162, Tryz.sizeOf162⟩
theorem bs_223 : BS Tryz.prog 223 [(0, 1), (1, 1), (2, 1), (3, 1)] [Value.slice none 0 0, Value.map none, Value.slice none 0 0, Value.nilFunc] := ⟨⟨_, Tryz.zeroValue223, rfl⟩, _, Tryz.runUnderlying223, fun w => by simp [Tryz.sizeOf165, Tryz.sizeOf166, Tryz.sizeOf221, Tryz.sizeOf68]⟩
theorem yK : SC Tryz.prog 220 := ⟨Tryz.isAgg220, Tryz.sizeOf220⟩
theorem fa_223_3 : FA Tryz.prog 223 3 3 := ⟨_, _, _, Tryz.runUnderlying223, rfl, Tryz.sizeOf165, rfl, rfl⟩
theorem sc_165 : SC Tryz.prog 165 := ⟨Tryz.isAgg165, Tryz.sizeOf165⟩
theorem aHE : FA Tryz.prog 223 1 1 := ⟨_, _, _, Tryz.runUnderlying223, rfl, Tryz.sizeOf221, rfl, rfl⟩
theorem sc_221 : SC Tryz.prog 221 := ⟨Tryz.isAgg221, Tryz.sizeOf221⟩
theorem ko_9 : KeyOk Tryz.prog 9 bF := keyOk_str Tryz.runUnderlying9
theorem wO : FA Tryz.prog 223 0 0 := ⟨_, _, _, Tryz.runUnderlying223, rfl, Tryz.sizeOf166, rfl, rfl⟩
theorem aCS : SC Tryz.prog 166 := ⟨Tryz.isAgg166, Tryz.sizeOf166⟩
theorem aAY : SLT Tryz.prog 166 162 2 := ⟨Tryz.runUnderlying166, Tryz.sizeOf162⟩
theorem ez_162 : EZ Tryz.prog 162 [Value.slice none 0 0, i64 0] := ⟨⟨_, Tryz.zeroValue162, rfl⟩, ⟨Tryz.t162, Tryz.typeInfo162, by show (32 : Nat) ≤ 128; decide, rfl, by kernel_rfl, _, rfl, rfl⟩⟩
theorem aAw : FA Tryz.prog 223 2 2 := ⟨_, _, _, Tryz.runUnderlying223, rfl, Tryz.sizeOf68, rfl, rfl⟩
theorem sc_68 : SC Tryz.prog 68 := ⟨Tryz.isAgg68, Tryz.sizeOf68⟩
theorem bs_119 : BS Tryz.prog 119 [(0, 4), (4, 4)] [i64 0, i64 0, Value.slice none 0 0, Value.slice none 0 0, i64 0, i64 0, Value.slice none 0 0, Value.slice none 0 0] := ⟨⟨_, Tryz.zeroValue119, rfl⟩, _, Tryz.runUnderlying119, fun w => by simp [Tryz.sizeOf30]⟩
theorem sl_122 : SLT Tryz.prog 122 5 1 := ⟨Tryz.runUnderlying122, Tryz.sizeOf5⟩
theorem ez_5 : EZ Tryz.prog 5 [Value.int .u8 0] := ⟨⟨_, Tryz.zeroValue5, rfl⟩, ⟨Tryz.t5, Tryz.typeInfo5, by show (1 : Nat) ≤ 128; decide, rfl, by kernel_rfl, _, rfl, rfl⟩⟩
theorem ag_25 : AG Tryz.prog 25 4 := ⟨Tryz.isAgg25, Tryz.sizeOf25⟩
theorem st_63 : Tryz.prog.stoodInHeld 63 = false := by kernel_rfl
theorem eq_63 {x y : Edge} : EQT Tryz.prog 63 [i64 x.From, i64 x.Label, i64 x.To] [i64 y.From, i64 y.Label, i64 y.To] (decide (x = y)) := by
 refine ⟨by kernel_rfl, fun w => ?_⟩
 have h2 : ∀ (a b : Int), (Op.equalIn 9999 2 (i64 a) (i64 b)).run Tryz.prog w = .ok (a == b) w := fun a b => run_eqInI 9998 (Tryz.runUnderlying2 w)
 have : Op.maxDepth = 9999 + 1 := rfl
 unfold Op.equal
 rw [this]
 unfold Op.equalIn
 simp [Tryz.runUnderlying63, st_63, part, h2, Tryz.isAgg2]
 cases x; cases y
 simp
 repeat' split <;> simp_all
theorem bR : Tryz.prog.follows .mixedOrders = true := by kernel_rfl
end Gv
