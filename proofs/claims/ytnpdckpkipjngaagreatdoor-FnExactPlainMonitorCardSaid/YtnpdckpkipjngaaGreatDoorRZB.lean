/- The arguments of the law's function, opened. -/
import Derived.Test.YtnpdckpkipjngaaGreatDoorRZA
import Derived.Test.YtnpdckpkipjngaaGreatDoorRT
import Derived.Deep.Strs
import Derived.Lib.SmallJoins
set_option linter.all false
namespace Gv
open Go Go.Proofs Go.Deep
theorem len3 {α : Type} {cs : List α} (h : cs.length = 3) : ∃ a b c, cs = [a, b, c] := by
 match cs, h with
 | [a, b, c], _ => exact ⟨a, b, c, rfl⟩
theorem len4 {α : Type} {cs : List α} (h : cs.length = 4) : ∃ a b c d, cs = [a, b, c, d] := by
 match cs, h with
 | [a, b, c, d], _ => exact ⟨a, b, c, d, rfl⟩
section
variable {W : World}
theorem opn_i (W : World) : Opn Tryz.prog W Int 2 i64ok := opn_int (by kernel_rfl)
theorem opn_s (W : World) : Opn Tryz.prog W bF 9 strok := opn_str (by kernel_rfl)
theorem opn_ss (W : World) : Opn Tryz.prog W (List bF) 22 (fun xs => xs.length ≤ 9223372036854775807 ∧ ∀ d ∈ xs, strok d) := aGs (by kernel_rfl) (by kernel_rfl) (opn_s W)
theorem opn_edge (W : World) : Opn Tryz.prog W Edge 107 (fun _ => True) := by
 intro H enc sp hd fuel cs x h
 obtain ⟨xs, n, _, _, hl, hxl, hf⟩ := DataW.trod_struct (fs := #[⟨ "From", 2, 0, false, "", "", 0⟩, ⟨ "Label", 2, 1, false, "", "", 8⟩, ⟨ "To", 2, 2, false, "", "", 16⟩]) (by kernel_rfl) h
 have c2 : Tryz.prog.cellsOf 2 = 1 := by kernel_rfl
 have c : Tryz.prog.cellsOf 107 = 3 := by kernel_rfl
 rw [c] at hl
 obtain ⟨u0, u1, u2, rfl⟩ := len3 hl
 ·
  have g : ∀ i (hi : i < xs.length), xs[i]? = some xs[i] := fun i hi => List.getElem?_eq_getElem hi
  have h0 := hf 0 ⟨ "From", 2, 0, false, "", "", 0⟩ rfl
  have h1 := hf 1 ⟨ "Label", 2, 1, false, "", "", 8⟩ rfl
  have h2 := hf 2 ⟨ "To", 2, 2, false, "", "", 16⟩ rfl
  dsimp only at h0 h1 h2
  rw [c2] at h0 h1 h2
  simp only [List.drop_zero, List.drop_succ_cons, List.take_succ_cons, List.take_zero] at h0 h1 h2
  rw [g 0 (by rw [hxl]; decide)] at h0
  rw [g 1 (by rw [hxl]; decide)] at h1
  rw [g 2 (by rw [hxl]; decide)] at h2
  obtain ⟨d0, e0, _⟩ := opn_i W H enc sp hd _ _ _ h0
  obtain ⟨d1, e1, _⟩ := opn_i W H enc sp hd _ _ _ h1
  obtain ⟨d2, e2, _⟩ := opn_i W H enc sp hd _ _ _ h2
  have e0 : [u0] = [i64 d0] := e0
  have e1 : [u1] = [i64 d1] := e1
  have e2 : [u2] = [i64 d2] := e2
  cases e0; cases e1; cases e2
  exact ⟨⟨d0, d1, d2⟩, rfl, trivial⟩
theorem opn_es (W : World) : Opn Tryz.prog W (List Edge) 23 (fun xs => xs.length ≤ 9223372036854775807 ∧ ∀ d ∈ xs, True) := aGs (by kernel_rfl) (by kernel_rfl) (opn_edge W)
theorem opn_lts (W : World) : Opn Tryz.prog W dC 25 (fun t => t.Labels.length ≤ 9223372036854775807 ∧ (∀ d ∈ t.Labels, strok d) ∧ t.Edges.length ≤ 9223372036854775807) := by
 intro H enc sp hd fuel cs x h
 obtain ⟨xs, n, _, _, hl, hxl, hf⟩ := DataW.trod_struct (fs := #[⟨ "States", 2, 0, false, "", "", 0⟩, ⟨ "Initial", 2, 1, false, "", "", 8⟩, ⟨ "Labels", 22, 2, false, "", "", 16⟩, ⟨ "Edges", 23, 3, false, "", "", 40⟩]) (by kernel_rfl) h
 have c2 : Tryz.prog.cellsOf 2 = 1 := by kernel_rfl
 have c22 : Tryz.prog.cellsOf 22 = 1 := by kernel_rfl
 have c23 : Tryz.prog.cellsOf 23 = 1 := by kernel_rfl
 have c : Tryz.prog.cellsOf 25 = 4 := by kernel_rfl
 rw [c] at hl
 obtain ⟨u0, u1, u2, u3, rfl⟩ := len4 hl
 ·
  have g : ∀ i (hi : i < xs.length), xs[i]? = some xs[i] := fun i hi => List.getElem?_eq_getElem hi
  have h0 := hf 0 ⟨ "States", 2, 0, false, "", "", 0⟩ rfl
  have h1 := hf 1 ⟨ "Initial", 2, 1, false, "", "", 8⟩ rfl
  have h2 := hf 2 ⟨ "Labels", 22, 2, false, "", "", 16⟩ rfl
  have h3 := hf 3 ⟨ "Edges", 23, 3, false, "", "", 40⟩ rfl
  dsimp only at h0 h1 h2 h3
  rw [c2] at h0 h1
  rw [c22] at h2
  rw [c23] at h3
  simp only [List.drop_zero, List.drop_succ_cons, List.take_succ_cons, List.take_zero] at h0 h1 h2 h3
  rw [g 0 (by rw [hxl]; decide)] at h0
  rw [g 1 (by rw [hxl]; decide)] at h1
  rw [g 2 (by rw [hxl]; decide)] at h2
  rw [g 3 (by rw [hxl]; decide)] at h3
  obtain ⟨d0, e0, _⟩ := opn_i W H enc sp hd _ _ _ h0
  obtain ⟨d1, e1, _⟩ := opn_i W H enc sp hd _ _ _ h1
  obtain ⟨d2, ⟨a2, k2, e2, r2⟩, o2⟩ := opn_ss W H enc sp hd _ _ _ h2
  obtain ⟨d3, ⟨a3, k3, e3, r3⟩, o3⟩ := opn_es W H enc sp hd _ _ _ h3
  have e0 : [u0] = [i64 d0] := e0
  have e1 : [u1] = [i64 d1] := e1
  have e2 : [u2] = [Value.slice a2 d2.length k2] := e2
  have e3 : [u3] = [Value.slice a3 d3.length k3] := e3
  cases e0; cases e1; cases e2; cases e3
  exact ⟨⟨d0, d1, d2, d3⟩, ⟨a2, k2, a3, k3, rfl, r2, r3⟩, o2.1, o2.2, o3.1⟩
end
end Gv
