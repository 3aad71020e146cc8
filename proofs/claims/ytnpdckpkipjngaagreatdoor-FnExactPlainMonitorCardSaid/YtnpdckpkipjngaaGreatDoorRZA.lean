/- Arguments: what a reading of the statement's kind gives, in words of pieces. -/
import Derived.Test.YtnpdckpkipjngaaGreatDoorRB
import Derived.Deep.Slices
import Derived.ChangeSame
import Derived.Carry
set_option linter.all false
namespace Gv
open Go Go.Deep
def Opn (P : Program) (W : World) (α : Type) [El α] (t : TypeId) (ok : α → Prop) : Prop :=
 ∀ (H : Type) (enc : TypeId × Value → H) (sp : Nat → Bool) (hd : Bool) (fuel : Nat) (cs : List Value) (x : DataW H × List MemPlace), DataW.trod enc P W 0 sp hd fuel t cs = some x → ∃ d : α, El.rd (hp W) cs d ∧ ok d
section
variable {P : Program} {W : World} {t : TypeId}
def i64ok (n : Int) : Prop := -9223372036854775808 ≤ n ∧ n ≤ 9223372036854775807
def strok (s : bF) : Prop := s.length ≤ 9223372036854775807
theorem opn_int (ht : P.underlying t = some (.int .i64)) : Opn P W Int t i64ok := by
 intro H enc sp hd fuel cs x h
 obtain ⟨n, rfl, _, hw⟩ := DataW.trod_int ht h
 refine ⟨n, rfl, ?_⟩
 simp only [Lit.wf, Bool.and_eq_true, decide_eq_true_eq] at hw
 rw [show IntKind.i64.min = -9223372036854775808 by decide, show IntKind.i64.max = 9223372036854775807 by decide] at hw
 exact hw
theorem opn_str (ht : P.underlying t = some .string) : Opn P W bF t strok := by
 intro H enc sp hd fuel cs x h
 obtain ⟨⟨⟨s⟩⟩, rfl, _, hw⟩ := DataW.trod_string ht h
 exact ⟨s, rfl, hw⟩
theorem aCr (a : Addr) (k : Nat) : (a.add k).block = a.block := by unfold Addr.add; split <;> rfl
theorem add_off (a : Addr) (k : Nat) : (a.add k).off = a.off + k := by
 unfold Addr.add; split
 ·rename_i h; subst h; rfl
 ·rfl
theorem aHP {a : Addr} (h : a.spot = none) (k : Nat) : (a.add k).spot = none := by
 unfold Addr.add; split
 ·exact h
 ·rfl
theorem aGs {α : Type} [El α] {e : TypeId} {ok : α → Prop} (ht : P.underlying t = some (.slice e)) (hc : P.cellsOf e = El.sz α) (he : Opn P W α e ok) : Opn P W (List α) t (fun xs => xs.length ≤ 9223372036854775807 ∧ ∀ d ∈ xs, ok d) := by
 intro H enc sp hd fuel cs x h
 rcases open_slice ht h with ⟨rfl, _⟩ | ⟨a, len, cap, m, n, D, Pl, rfl, hb, hl, hm, hmm, _, hx⟩
 ·exact ⟨[], ⟨none, 0, rfl, rdS_nil _⟩, by simp, by simp⟩
 ·have hlm : len ≤ m := by rw [hmm]; split <;> omega
  have hex : ∀ i, i < len → ∃ d : α, (∃ cs', W.cells? 0 (a.add (i * P.cellsOf e)) (P.cellsOf e) = some cs' ∧ El.rd (hp W) cs' d) ∧ ok d := fun i hi => by
   obtain ⟨cs', h1, h2⟩ := hx i (by omega)
   obtain ⟨d, h3, h4⟩ := he H enc sp hd n cs' _ h2
   exact ⟨d, ⟨cs', h1, h3⟩, h4⟩
  have hf : ∃ f : (i : Nat) → i < len → α, ∀ i hi, (∃ cs', W.cells? 0 (a.add (i * P.cellsOf e)) (P.cellsOf e) = some cs' ∧ El.rd (hp W) cs' (f i hi)) ∧ ok (f i hi) :=
   ⟨fun i hi => Classical.choose (hex i hi), fun i hi => Classical.choose_spec (hex i hi)⟩
  obtain ⟨f, hf⟩ := hf
  have hlen : (List.ofFn fun i : Fin len => f i.1 i.2).length = len := by simp
  refine ⟨List.ofFn fun i : Fin len => f i.1 i.2, ⟨some a, cap, by rw [hlen], ⟨by rw [hlen]; exact hl, fun e => (by cases e), fun i d hd' => ?_⟩⟩, ?_, fun d hd' => ?_⟩
  rotate_left
  ·show (List.ofFn fun i : Fin len => f i.1 i.2).length ≤ _
   rw [hlen]
   have : maxLen = 9223372036854775807 := by decide
   omega
  rotate_left
  ·have hi : i < len := by have := (List.getElem?_eq_some_iff.1 hd').1; omega
   rw [List.getElem?_ofFn, dif_pos hi] at hd'
   cases hd'
   obtain ⟨⟨cs', h1, h2⟩, _⟩ := hf i hi
   refine ⟨cs', ?_, h2⟩
   obtain ⟨_, h3, h4⟩ := World.cells?_some h1
   have hz := El.pos (α := α)
   have hasp : a.spot = none := by
    obtain ⟨⟨cs0, g1, _⟩, _⟩ := hf 0 (by omega)
    obtain ⟨_, g3, g4⟩ := World.cells?_some g1
    have g0 := g4 0 (by omega)
    rw [List.getElem?_eq_getElem (by omega)] at g0
    have := World.cell?_spot g0
    simpa [Addr.add] using this
   have h0 := h4 0 (by omega)
   rw [List.getElem?_eq_getElem (by omega)] at h0
   unfold World.cell? at h0
   split at h0
   ·rename_i c E fr hblk
    rw [aCr, aCr] at hblk
    refine ⟨a, c, E, fr, rfl, hasp, hblk, fun j v hv => ?_⟩
    have hj : j < P.cellsOf e := by have := (List.getElem?_eq_some_iff.1 hv).1; omega
    have h5 := h4 j hj
    unfold World.cell? at h5
    rw [aCr, aCr, hblk, aHP (aHP hasp _) _, add_off, add_off, hv, hc] at h5
    simpa using h5
   ·cases h0
  ·rw [List.mem_ofFn] at hd'
   obtain ⟨i, rfl⟩ := hd'
   exact (hf i.1 i.2).2
end
end Gv
