/- The contract of the law's function. -/
import Derived.Test.YtnpdckpkipjngaaGreatDoorRZB
import Derived.Test.YtnpdckpkipjngaaGreatDoorRWk8
import Derived.Test.YtnpdckpkipjngaaGreatDoorRP12
import Derived.Test.YtnpdckpkipjngaaGreatDoorCards
import Derived.Test.YtnpdckpkipjngaaGreatDoorTie
import Derived.WalkKit
import Derived.ProofKit
import Derived.OpenShut
import Derived.Deep.DeepHandedRow
import Derived.Deep.DeepWitnessRowRef
import Derived.Lib.LaidTab
import Derived.LaidLaws
import Derived.Stop.LaidErr
import Derived.Carry
import Derived.Shelf.Vars
set_option linter.all false
namespace Gv
open Go Go.Proofs Go.ChangeShapes Go.WideShapes Go.ChangeAt Go.RowKit
theorem aN.start0 (w : World) (hl : Laid (hp w)) : aN ⟨env w, 0, hp w, hl⟩ (hp w) [] w :=
 ⟨⟨rfl, Nat.zero_le _⟩, fun _ => none, fun _ => .inr rfl, Hp.le_refl _, fun _ => .inr rfl, Hp.le_refl _, fun _ _ h => (by cases h), trivial⟩
theorem aN.below0 {w w' : World} {hl : Laid (hp w)} (s : aN ⟨env w, 0, hp w, hl⟩ (hp w) [] w') : Below w.heap.size w w' := by
 obtain ⟨⟨he, _⟩, _, _, _, _, hk, _⟩ := s
 have hb : ∀ k, k < w.heap.size → w'.heap[k]? = w.heap[k]? := fun k hk' => by
  have := hk k w.heap[k] (by simp [hp, hk'])
  unfold hp at this
  rw [this]; simp [hk']
 simp only [Gv.env, Env0.mk.injEq] at he
 refine ⟨he.1, he.2.1, he.2.2, ?_, hb⟩
 rcases Nat.lt_or_ge w'.heap.size w.heap.size with h | h
 ·have := hb w'.heap.size h
  simp [h] at this
 ·exact h
theorem laid_all {W : World} (h : aCI W) : Laid (hp W) := by
 intro w hle
 obtain ⟨⟨m, h1⟩, ⟨E, fr, h2⟩, ⟨v, h3, h4⟩, u, h5, h6⟩ := h
 have cell : ∀ (b o : Nat) v, W.cell? ⟨b, o, none⟩ = some v → w.cell? ⟨b, o, none⟩ = some v := by
  intro b o v hv
  unfold World.cell? at hv ⊢
  split at hv
  ·rename_i c E fr hc
   have hc' : w.heap[b]? = some (.cells c E fr) := hle b _ hc
   simp only [hc']; exact hv
  ·cases hv
 exact ⟨⟨m, cell _ _ _ h1⟩, ⟨E, fr, hle _ _ h2⟩, ⟨v, cell _ _ _ h3, h4⟩, u, cell _ _ _ h5, h6⟩
theorem walk0 {H : Type} {enc : TypeId × Value → H} {W : World} (hL : aCI W) {c0 : Array Value} {v1 : Value} {d0 d1 : DataW H} {p0 p1 : List MemPlace}
  (h0 : DataW.Trod enc Tryz.prog W 0 (fun _ => true) true 25 (.agg c0) d0 p0) (h1 : DataW.Trod enc Tryz.prog W 0 (fun _ => true) true 22 v1 d1 p1) (hv : v1.cells = #[v1]) :
  Calls Tryz.prog 3 #[.agg c0, v1] W fun e W' => e = .returned (.bool true) ∧ Below W.heap.size W W' := by
 obtain ⟨n0, g0⟩ := h0
 obtain ⟨n1, g1⟩ := h1
 obtain ⟨t, ⟨a0, k0, a1, k1, e0, r0, r1⟩, o1, o2, o3⟩ := opn_lts W H enc _ _ _ _ _ g0
 rw [hv] at g1
 obtain ⟨xs, ⟨a2, k2, e2, r2⟩, o4, o5⟩ := opn_ss W H enc _ _ _ _ _ g1
 have hc : c0 = #[i64 t.States, i64 t.Initial, Value.slice a0 t.Labels.length k0, Value.slice a1 t.Edges.length k1] := by
  have : c0.toList = _ := e0
  exact Array.toList_inj.1 this
 have hx : v1 = Value.slice a2 xs.length k2 := by
  have : [v1] = [Value.slice a2 xs.length k2] := e2
  exact (List.cons.inj this).1
 subst hc hx
 refine (zH (aN.start0 W (laid_all hL)) rfl r0 r1 r2 (law t xs ⟨o1, fun s hs => o2 s hs, o3⟩ o4 (fun s hs => o5 s hs))).mono ?_
 rintro e W' ⟨v, rfl, rfl, hs⟩
 exact ⟨rfl, hs.below0⟩
end Gv
namespace Gv
open Go Go.Proofs Go.ChangeShapes Go.WideShapes Go.ChangeAt Go.RowKit Go.Shelf
theorem starErr : "*" ++ "errors.errorString" = "*errors.errorString" := by decide
theorem rowErr (u : TypeId) (h : Tryz.prog.typeName? 3 u = some "*errors.errorString") : u = 316 :=
 typeName_ptr_named (nm := "errors.errorString") (by rw [starErr]; kernel_rfl) (by kernel_rfl) (by decide) u (by rw [starErr]; exact h)
theorem laid0 {W : World} (hL : laidMetH Tryz.prog YtnpdckpkipjngaaGreatDoor.Rows.fnExactPlainMonitorRow.laid W) (hS : W.ShapedOpen Tryz.prog) : aCI W := by
 have h : laidMet Tryz.prog YtnpdckpkipjngaaGreatDoor.Rows.fnExactPlainMonitorRow.laid W := hL
 have h2 : laidMet Tryz.prog (("internal/strconv.uint64pow10", Lib.tabData .u64 Lib.pow10Tab) :: _) W := h.tail.tail
 have hT := Lib.tabIs_of_head (g := 1) (t := 294) (e := 186) (n := 20) (by kernel_rfl) (by kernel_rfl) (by kernel_rfl) (by kernel_rfl) (by kernel_rfl) (by kernel_rfl) h2
 obtain ⟨a0, s0, hv0, _⟩ := laid_sentinel h2.tail.tail (g := 3) (ti := 254) (ms := #[("Error", 257)]) (tp := 316) (te := 318) (ts := 9) (f := ⟨ "s", 9, 0, false, "", "errors", 0⟩) (by kernel_rfl) (by kernel_rfl) (by kernel_rfl) rowErr (by kernel_rfl) (by kernel_rfl) rfl rfl (by kernel_rfl) (by kernel_rfl) (by kernel_rfl)
 obtain ⟨a1, s1, hv1, _⟩ := laid_sentinel h2.tail.tail.tail (g := 2) (ti := 254) (ms := #[("Error", 257)]) (tp := 316) (te := 318) (ts := 9) (f := ⟨ "s", 9, 0, false, "", "errors", 0⟩) (by kernel_rfl) (by kernel_rfl) (by kernel_rfl) rowErr (by kernel_rfl) (by kernel_rfl) rfl rfl (by kernel_rfl) (by kernel_rfl) (by kernel_rfl)
 refine ⟨cell_of_shapedOpen_int (t := 3) (zero := #[.int .i64 0]) hS (by decide +kernel) (by kernel_rfl) rfl (by kernel_rfl) (by kernel_rfl) (by kernel_rfl), ?_, ⟨_, by have h0 := World.var?_cell (show Tryz.prog.globalNamed "strconv.ErrSyntax" = some 2 by kernel_rfl) hv1 0; simpa using h0, .inr ⟨_, _, rfl⟩⟩, _, by have h0 := World.var?_cell (show Tryz.prog.globalNamed "strconv.ErrRange" = some 3 by kernel_rfl) hv0 0; simpa using h0, .inr ⟨_, _, rfl⟩⟩
 unfold Lib.TabIs World.var? at hT
 rw [show Tryz.prog.globalNamed "internal/strconv.uint64pow10" = some 1 by kernel_rfl] at hT
 simp only [Option.bind_some] at hT
 split at hT
 ·rename_i cs E fr hc
  cases hT
  exact ⟨E, fr, hc⟩
 ·cases hT
end Gv
