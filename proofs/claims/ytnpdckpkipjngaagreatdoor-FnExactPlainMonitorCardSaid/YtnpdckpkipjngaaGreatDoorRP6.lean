/- Validity of transition systems, on both sides. -/
import Derived.Test.YtnpdckpkipjngaaGreatDoorRP1
set_option linter.all false
namespace Gv
open Go
def vX (xs : List bF) : Prop := 1 ≤ xs.length ∧ xs.length ≤ 12 ∧ (∀ h : 0 < xs.length, xs[0] = eL) ∧ ∀ k, 1 ≤ k → (hk : k < xs.length) → lB xs[k] = true ∧ xs[k] ≠ eL ∧ (2 ≤ k → vI (xs[k - 1]'(by omega)) xs[k] = true)
theorem isLab_tau : lB eL = true := by decide
theorem aHY (xs : List bF) (h2 : ∀ s ∈ xs, s.length < 1000000000) : yO xs = some (cl (vX xs)) := by
 unfold yO
 by_cases h0 : xs.length = 0
 ·rw [if_pos (by simp [h0]), oW (P := vX xs) (fun h => by have := h.1; omega)]; rfl
 rw [if_neg (by simpa using h0)]
 by_cases h12 : 12 < xs.length
 ·rw [if_pos (by simp; omega), oW (P := vX xs) (fun h => by have := h.2.1; omega)]; rfl
 rw [if_neg (by simp; omega), show (0 : Int) = ((0 : Nat) : Int) from rfl, dJ (xs := xs) (k := 0) (by omega), aK, show ([116, 97, 117] : bF) = eL from rfl]
 unfold oZ
 by_cases ht : xs[0]'(by omega) = eL
 ·rw [if_neg (by simp [ht])]
  have := tT (step := fun s => oY xs s) xs.length 1 (fun k => ∀ hk : k < xs.length, 1 ≤ k → lB xs[k] = true ∧ xs[k] ≠ eL ∧ (2 ≤ k → vI (xs[k - 1]'(by omega)) xs[k] = true)) (.inr false) (.inl ()) (by omega) (fun k h0 hk => ?_) (by simp only [oY, cJ]; rfl)
  ·rw [show (1 : Int) = ((1 : Nat) : Int) from rfl, this, aK]
   by_cases hs : ∀ k, 1 ≤ k → k < xs.length → ∀ hk : k < xs.length, 1 ≤ k → lB xs[k] = true ∧ xs[k] ≠ eL ∧ (2 ≤ k → vI (xs[k - 1]'(by omega)) xs[k] = true)
   ·rw [if_pos (tV hs), tV (P := vX xs) ⟨by omega, by omega, fun _ => ht, fun k h1 hk => hs k h1 hk hk h1⟩]; rfl
   ·rw [if_neg (by rw [qZ]; exact hs), oW (P := vX xs) (fun h => hs fun k h1 hk _ _ => h.2.2.2 k h1 hk)]
  ·simp only [oY, cV hk, if_pos, dJ hk, aK, aEA _ (h2 _ (List.getElem_mem hk)), mJ, cN hk (show xs.length < 4611686018427387904 by omega)]
   rw [show ([116, 97, 117] : bF) = eL from rfl]
   by_cases hl : lB xs[k] = true
   ·rw [hl]
    by_cases htk : xs[k] = eL
    ·have : (xs[k] == eL) = true := by simp [htk]
     rw [this, oW (fun h => (h hk h0).2.1 htk)]; rfl
    ·have : (xs[k] == eL) = false := by simp [htk]
     rw [this]
     by_cases hk2 : 2 ≤ k
     ·have hk1 : wr ((k : Int) - 1) = ((k - 1 : Nat) : Int) := by rw [gR (by omega) (by omega)]; omega
      rw [decide_eq_true (p := (1 : Int) < (k : Int)) (by omega), hk1, dJ (xs := xs) (k := k - 1) (by omega)]
      rw [aAQ (b := vI (xs[k - 1]'(by omega)) xs[k]) ⟨fun h _ _ => ⟨hl, htk, fun _ => h⟩, fun h => (h hk h0).2.2 hk2⟩]
      simp only [Bool.not_true, Bool.false_eq_true, if_false, if_pos, aK]
      cases vI (xs[k - 1]'(by omega)) xs[k] <;> rfl
     ·rw [decide_eq_false (p := (1 : Int) < (k : Int)) (by omega), tV (fun _ _ => ⟨hl, htk, fun h => absurd h hk2⟩)]; rfl
   ·rw [oW (fun h => hl (h hk h0).1)]
    rw [Bool.not_eq_true] at hl
    rw [hl]; rfl
 ·rw [if_pos (by simp [ht]), oW (P := vX xs) (fun h => ht (h.2.2.1 (by omega)))]
def xD (t : dC) (e : Edge) : Prop := (0 ≤ e.From ∧ e.From ≤ t.States - 1) ∧ (0 ≤ e.To ∧ e.To ≤ t.States - 1) ∧ 0 ≤ e.Label ∧ e.Label ≤ (t.Labels.length : Int) - 1
def EdgesOk (t : dC) : Prop := t.Edges.length ≤ 300 ∧ ∀ k, (hk : k < t.Edges.length) → xD t t.Edges[k] ∧ (1 ≤ k → gC (t.Edges[k - 1]'(by omega)) t.Edges[k] = true)
def eA (t : dC) : Prop := (1 ≤ t.States ∧ t.States ≤ 40) ∧ (0 ≤ t.Initial ∧ t.Initial ≤ t.States - 1) ∧ vX t.Labels ∧ EdgesOk t
theorem aIN (a b : Edge) : aAz a b = some (gC a b) := by
 obtain ⟨a1, a2, a3⟩ := a; obtain ⟨b1, b2, b3⟩ := b
 simp only [aAz, gC]
 by_cases h1 : a1 = b1 <;> by_cases h2 : a2 = b2 <;> simp [h1, h2]
theorem kB (n a b : Int) : (decide (a ≤ n) && decide (n ≤ b)) = true ↔ a ≤ n ∧ n ≤ b := by simp
theorem rA {n a b : Int} (h : ¬ (a ≤ n ∧ n ≤ b)) : (decide (a ≤ n) && decide (n ≤ b)) = false := by
 cases hx : (decide (a ≤ n) && decide (n ≤ b)) with
 | false => rfl
 | true => exact absurd ((kB _ _ _).1 hx) h
theorem l11Is_eq (t : dC) (hf : kN 999999999 t) : aCk t = some (cl (eA t)) := by
 obtain ⟨f1, f2, f3⟩ := hf
 unfold aCk
 rw [aDJ, aK]
 by_cases na : ¬ (1 ≤ t.States ∧ t.States ≤ 40)
 ·rw [rA na, Bool.not_false, if_pos rfl, oW (P := eA t) (fun h => na h.1)]; rfl
 have a1 : 1 ≤ t.States ∧ t.States ≤ 40 := Classical.not_not.1 na
 have w1 : wr (t.States - 1) = t.States - 1 := gR (by omega) (by omega)
 rw [if_neg (by rw [← kB] at a1; simp [a1]), w1, aDJ, aK]
 by_cases na : ¬ (0 ≤ t.Initial ∧ t.Initial ≤ t.States - 1)
 ·rw [rA na, Bool.not_false, if_pos rfl, oW (P := eA t) (fun h => na h.2.1)]; rfl
 have a2 : 0 ≤ t.Initial ∧ t.Initial ≤ t.States - 1 := Classical.not_not.1 na
 rw [if_neg (by rw [← kB] at a2; simp [a2]), aHY _ (fun s hs => by have := f2 s hs; omega), aK]
 by_cases na : ¬ vX t.Labels
 ·rw [if_pos (by rw [oW na]; rfl), oW (P := eA t) (fun h => na h.2.2.1)]; rfl
 have a3 : vX t.Labels := Classical.not_not.1 na
 rw [if_neg (by rw [tV a3]; simp)]
 unfold tB
 by_cases h300 : 300 < t.Edges.length
 ·rw [if_pos (by simp; omega), oW (P := eA t) (fun h => by have := h.2.2.2.1; omega)]
 rw [if_neg (by simp; omega)]
 have := tT (step := fun s => vR t s) t.Edges.length 0 (fun k => ∀ hk : k < t.Edges.length, xD t t.Edges[k] ∧ (1 ≤ k → gC (t.Edges[k - 1]'(by omega)) t.Edges[k] = true)) (.inr false) (.inl ()) (Nat.zero_le _) (fun k h0 hk => ?_) (by simp only [vR, cJ]; rfl)
 ·rw [show (0 : Int) = ((0 : Nat) : Int) from rfl, this, aK]
  by_cases hs : ∀ k, 0 ≤ k → k < t.Edges.length → ∀ hk : k < t.Edges.length, xD t t.Edges[k] ∧ (1 ≤ k → gC (t.Edges[k - 1]'(by omega)) t.Edges[k] = true)
  ·rw [if_pos (tV hs), tV (P := eA t) ⟨a1, a2, a3, by omega, fun k hk => hs k (by omega) hk hk⟩]; rfl
  ·rw [if_neg (by rw [qZ]; exact hs), oW (P := eA t) (fun h => hs fun k _ hk _ => h.2.2.2.2 k hk)]
 ·have wl : wr ((t.Labels.length : Int) - 1) = (t.Labels.length : Int) - 1 := gR (by omega) (by omega)
  simp only [vR, cV hk, if_pos, dJ hk, aK, aDJ, w1, wl, vQ, yP, aIN, cN hk (show t.Edges.length < 4611686018427387904 by omega)]
  generalize he : t.Edges[k] = e
  by_cases n1 : ¬ (0 ≤ e.From ∧ e.From ≤ t.States - 1)
  ·have : (decide (0 ≤ e.From) && decide (e.From ≤ t.States - 1)) = false := rA n1
   rw [this, oW (fun h => by have := (h hk).1.1; rw [he] at this; exact n1 this)]; rfl
  rw [(kB _ _ _).2 (Classical.not_not.1 n1)]
  by_cases n2 : ¬ (0 ≤ e.To ∧ e.To ≤ t.States - 1)
  ·have : (decide (0 ≤ e.To) && decide (e.To ≤ t.States - 1)) = false := rA n2
   rw [this, oW (fun h => by have := (h hk).1.2.1; rw [he] at this; exact n2 this)]; rfl
  rw [(kB _ _ _).2 (Classical.not_not.1 n2)]
  by_cases n3 : ¬ (0 ≤ e.Label ∧ e.Label ≤ (t.Labels.length : Int) - 1)
  ·have : (decide (0 ≤ e.Label) && decide (e.Label ≤ (t.Labels.length : Int) - 1)) = false := rA n3
   rw [this, oW (fun h => by have := (h hk).1.2.2; rw [he] at this; exact n3 this)]; rfl
  rw [(kB _ _ _).2 (Classical.not_not.1 n3)]
  have hin : xD t t.Edges[k] := by rw [he]; exact ⟨Classical.not_not.1 n1, Classical.not_not.1 n2, Classical.not_not.1 n3⟩
  by_cases h1 : 1 ≤ k
  ·have hk1 : wr ((k : Int) - 1) = ((k - 1 : Nat) : Int) := by rw [gR (by omega) (by omega)]; omega
   rw [decide_eq_true (p := (0 : Int) < (k : Int)) (by omega), hk1, dJ (xs := t.Edges) (k := k - 1) (by omega)]
   rw [aAQ (b := gC (t.Edges[k - 1]'(by omega)) e) ⟨fun h _ => ⟨hin, fun _ => by rw [he]; exact h⟩, fun h => by have := (h hk).2 h1; rw [he] at this; exact this⟩]
   simp only [Bool.not_true, Bool.false_eq_true, if_false, if_pos, aK]
   cases gC (t.Edges[k - 1]'(by omega)) e <;> rfl
  ·rw [decide_eq_false (p := (0 : Int) < (k : Int)) (by omega), tV (fun _ => ⟨hin, fun h => absurd h h1⟩)]
   simp only [Bool.not_true, Bool.false_eq_true, if_false]; rfl
def icmp (a b : Int) : Int := if a < b then -1 else if b < a then 1 else 0
theorem aDa (a b : Int) : gM a b = some (icmp a b) := by
 unfold gM kX icmp
 by_cases h1 : a < b <;> by_cases h2 : b < a <;> simp [h1, h2]
def or3 (a b c : Int) : Int := if a ≠ 0 then a else if b ≠ 0 then b else c
theorem Or_eq (a b c : Int) : sM [a, b, c] = some (or3 a b c) := by
 unfold sM or3
 have s0 : fS [a, b, c] 0 = if a ≠ 0 then some (.inr (.inr a)) else some (.inl 1) := by
  simp only [fS, show ix [a, b, c] 0 = some a from rfl, aK]
  by_cases h : a = 0 <;> simp [h] <;> rfl
 have s1 : fS [a, b, c] 1 = if b ≠ 0 then some (.inr (.inr b)) else some (.inl 2) := by
  simp only [fS, show ix [a, b, c] 1 = some b from rfl, aK]
  by_cases h : b = 0 <;> simp [h] <;> rfl
 have s2 : fS [a, b, c] 2 = if c ≠ 0 then some (.inr (.inr c)) else some (.inl 3) := by
  simp only [fS, show ix [a, b, c] 2 = some c from rfl, aK]
  by_cases h : c = 0 <;> simp [h] <;> rfl
 have s3 : fS [a, b, c] 3 = some (.inr (.inl ())) := rfl
 by_cases h1 : a = 0
 ·by_cases h2 : b = 0
  ·by_cases h3 : c = 0
   ·rw [bS, s0, if_neg (by simp [h1])]; simp only
    rw [bS, s1, if_neg (by simp [h2])]; simp only
    rw [bS, s2, if_neg (by simp [h3])]; simp only
    rw [bS, s3]
    simp [h1, h2, h3, nE]
   ·rw [bS, s0, if_neg (by simp [h1])]; simp only
    rw [bS, s1, if_neg (by simp [h2])]; simp only
    rw [bS, s2, if_pos (by simp [h3])]
    simp [h1, h2]
  ·rw [bS, s0, if_neg (by simp [h1])]; simp only
   rw [bS, s1, if_pos h2]
   simp [h1, h2]
 ·rw [bS, s0, if_pos h1]
  simp [h1]
theorem compareEdges_eq (a b : Edge) : qP a b = some (or3 (icmp a.From b.From) (icmp a.Label b.Label) (icmp a.To b.To)) := by
 unfold qP
 rw [aDa, aK, aDa, aK, aDa, aK, Or_eq]; rfl
theorem cmpE_ge (a b : Edge) : decide (0 ≤ or3 (icmp a.From b.From) (icmp a.Label b.Label) (icmp a.To b.To)) = !gC a b := by
 obtain ⟨a1, a2, a3⟩ := a; obtain ⟨b1, b2, b3⟩ := b
 simp only [gC, or3, icmp]
 rcases Int.lt_trichotomy a1 b1 with h1 | h1 | h1 <;> rcases Int.lt_trichotomy a2 b2 with h2 | h2 | h2 <;> rcases Int.lt_trichotomy a3 b3 with h3 | h3 | h3 <;>
  simp [h1, h2, h3, Int.not_lt_of_ge, Int.le_of_lt, Int.ne_of_lt, Int.ne_of_gt] <;> omega
theorem aFE (t : dC) (k : Int) (h : -9223372036854775807 ≤ t.States ∧ t.States ≤ 9223372036854775807) : mN t k = some (decide (0 ≤ k) && decide (k ≤ t.States - 1)) := by
 unfold mN
 rw [aAP, gR (by omega) (by omega)]; rfl
theorem index_eq (k : Int) (n : Nat) (h : n < 1000000000) : aDu k (n : Int) = some (decide (0 ≤ k) && decide (k ≤ (n : Int) - 1)) := by
 unfold aDu
 rw [aAP, gR (by omega) (by omega)]; rfl
theorem tU (t : dC) (hf : kN 999999999 t) : mQ t = some (cl (eA t)) := by
 obtain ⟨f1, f2, f3⟩ := hf
 unfold mQ
 rw [aAP, aK]
 by_cases na : ¬ (1 ≤ t.States ∧ t.States ≤ 40)
 ·rw [rA na, Bool.not_false, if_pos rfl, oW (P := eA t) (fun h => na h.1)]; rfl
 have a1 : 1 ≤ t.States ∧ t.States ≤ 40 := Classical.not_not.1 na
 have hst : -9223372036854775807 ≤ t.States ∧ t.States ≤ 9223372036854775807 := by omega
 rw [if_neg (by rw [← kB] at a1; simp [a1]), aFE t _ hst, aK]
 by_cases na : ¬ (0 ≤ t.Initial ∧ t.Initial ≤ t.States - 1)
 ·rw [rA na, Bool.not_false, if_pos rfl, oW (P := eA t) (fun h => na h.2.1)]; rfl
 have a2 : 0 ≤ t.Initial ∧ t.Initial ≤ t.States - 1 := Classical.not_not.1 na
 rw [if_neg (by rw [← kB] at a2; simp [a2]), aAP, aK]
 by_cases na : ¬ (1 ≤ (t.Labels.length : Int) ∧ (t.Labels.length : Int) ≤ 12)
 ·rw [rA na, Bool.not_false, if_pos rfl, oW (P := eA t) (fun h => by have h1 := h.2.2.1.1; have h2 := h.2.2.1.2.1; omega)]; rfl
 have a3 : 1 ≤ (t.Labels.length : Int) ∧ (t.Labels.length : Int) ≤ 12 := Classical.not_not.1 na
 rw [if_neg (by rw [← kB] at a3; simp [a3])]
 unfold mP
 by_cases h300 : 300 < t.Edges.length
 ·rw [if_pos (by simp; omega), oW (P := eA t) (fun h => by have := h.2.2.2.1; omega)]
 rw [if_neg (by simp; omega)]
 have hlabs := tT (step := fun s => pL t s) t.Labels.length 0 (fun k => ∀ hk : k < t.Labels.length, lB t.Labels[k] = true ∧ (t.Labels[k] = eL ↔ k = 0) ∧ (2 ≤ k → vI (t.Labels[k - 1]'(by omega)) t.Labels[k] = true)) (.inr false) (.inl ()) (Nat.zero_le _) (fun k h0 hk => ?_) (by simp only [pL, cJ]; rfl)
 ·rw [show (0 : Int) = ((0 : Nat) : Int) from rfl, hlabs, aK]
  by_cases hs : ∀ k, 0 ≤ k → k < t.Labels.length → ∀ hk : k < t.Labels.length, lB t.Labels[k] = true ∧ (t.Labels[k] = eL ↔ k = 0) ∧ (2 ≤ k → vI (t.Labels[k - 1]'(by omega)) t.Labels[k] = true)
  ·rw [if_pos (tV hs)]
   have a4 : vX t.Labels := ⟨by omega, by omega, fun h => (hs 0 (by omega) h h).2.1.2 rfl, fun k h1 hk => ⟨(hs k (by omega) hk hk).1, fun e => by have := (hs k (by omega) hk hk).2.1.1 e; omega, (hs k (by omega) hk hk).2.2⟩⟩
   simp only
   unfold sN
   have := tT (step := fun s => pK t s) t.Edges.length 0 (fun k => ∀ hk : k < t.Edges.length, xD t t.Edges[k] ∧ (1 ≤ k → gC (t.Edges[k - 1]'(by omega)) t.Edges[k] = true)) (.inr false) (.inl ()) (Nat.zero_le _) (fun k h0 hk => ?_) (by simp only [pK, cJ]; rfl)
   ·rw [show (0 : Int) = ((0 : Nat) : Int) from rfl, this, aK]
    by_cases hs : ∀ k, 0 ≤ k → k < t.Edges.length → ∀ hk : k < t.Edges.length, xD t t.Edges[k] ∧ (1 ≤ k → gC (t.Edges[k - 1]'(by omega)) t.Edges[k] = true)
    ·rw [if_pos (tV hs), tV (P := eA t) ⟨a1, a2, a4, by omega, fun k hk => hs k (by omega) hk hk⟩]; rfl
    ·rw [if_neg (by rw [qZ]; exact hs), oW (P := eA t) (fun h => hs fun k _ hk _ => h.2.2.2.2 k hk)]
   ·simp only [pK, cV hk, if_pos, dJ hk, aK, aFE t _ hst, index_eq _ _ (show t.Labels.length < 1000000000 by omega), kQ, compareEdges_eq, cmpE_ge, cN hk (show t.Edges.length < 4611686018427387904 by omega)]
    generalize he : t.Edges[k] = e
    by_cases n1 : ¬ (0 ≤ e.From ∧ e.From ≤ t.States - 1)
    ·have : (decide (0 ≤ e.From) && decide (e.From ≤ t.States - 1)) = false := rA n1
     rw [this, oW (fun h => by have := (h hk).1.1; rw [he] at this; exact n1 this)]; rfl
    rw [(kB _ _ _).2 (Classical.not_not.1 n1)]
    by_cases n2 : ¬ (0 ≤ e.To ∧ e.To ≤ t.States - 1)
    ·have : (decide (0 ≤ e.To) && decide (e.To ≤ t.States - 1)) = false := rA n2
     rw [this, oW (fun h => by have := (h hk).1.2.1; rw [he] at this; exact n2 this)]; rfl
    rw [(kB _ _ _).2 (Classical.not_not.1 n2)]
    by_cases n3 : ¬ (0 ≤ e.Label ∧ e.Label ≤ (t.Labels.length : Int) - 1)
    ·have : (decide (0 ≤ e.Label) && decide (e.Label ≤ (t.Labels.length : Int) - 1)) = false := rA n3
     rw [this, oW (fun h => by have := (h hk).1.2.2; rw [he] at this; exact n3 this)]; rfl
    rw [(kB _ _ _).2 (Classical.not_not.1 n3)]
    have hin : xD t t.Edges[k] := by rw [he]; exact ⟨Classical.not_not.1 n1, Classical.not_not.1 n2, Classical.not_not.1 n3⟩
    by_cases h1 : 1 ≤ k
    ·have hk1 : wr ((k : Int) - 1) = ((k - 1 : Nat) : Int) := by rw [gR (by omega) (by omega)]; omega
     rw [decide_eq_true (p := (0 : Int) < (k : Int)) (by omega), hk1, dJ (xs := t.Edges) (k := k - 1) (by omega)]
     rw [aAQ (b := gC (t.Edges[k - 1]'(by omega)) e) ⟨fun h _ => ⟨hin, fun _ => by rw [he]; exact h⟩, fun h => by have := (h hk).2 h1; rw [he] at this; exact this⟩]
     simp only [Bool.not_true, Bool.false_eq_true, if_false, if_pos, aK]
     cases gC (t.Edges[k - 1]'(by omega)) e <;> rfl
    ·rw [decide_eq_false (p := (0 : Int) < (k : Int)) (by omega), tV (fun _ => ⟨hin, fun h => absurd h h1⟩)]
     simp only [Bool.not_true, Bool.false_eq_true, if_false]; rfl
  ·rw [if_neg (by rw [qZ]; exact hs), oW (P := eA t) (fun h => hs fun k _ hk _ => ?_)]
   obtain ⟨l1, l2, l3, l4⟩ := h.2.2.1
   by_cases hk0 : k = 0
   ·subst hk0
    exact ⟨by rw [l3 hk]; exact isLab_tau, ⟨fun _ => rfl, fun _ => l3 hk⟩, fun h => by omega⟩
   ·have := l4 k (by omega) hk
    exact ⟨this.1, ⟨fun e => absurd e this.2.1, fun e => absurd e hk0⟩, this.2.2⟩
 ·simp only [pL, cV hk, if_pos, dJ hk, aK, aFD _ (show t.Labels[k].length < 1000000000 by have := f2 _ (List.getElem_mem hk); omega), mO, cN hk (show t.Labels.length < 4611686018427387904 by omega), ltB_ge]
  rw [show ([116, 97, 117] : bF) = eL from rfl]
  by_cases hl : lB t.Labels[k] = true
  ·rw [hl]
   have e0 : ((k : Int) == 0) = decide (k = 0) := by by_cases e : k = 0 <;> simp [e]
   by_cases htk : (t.Labels[k] = eL ↔ k = 0)
   ·have : ((t.Labels[k] == eL) != ((k : Int) == 0)) = false := by
     rw [e0]
     by_cases e : k = 0
     ·have := htk.2 e; rw [this]; simp [e]
     ·have : ¬ t.Labels[k] = eL := fun h => e (htk.1 h)
      simp [this, e]
    rw [this]
    by_cases hk2 : 2 ≤ k
    ·have hk1 : wr ((k : Int) - 1) = ((k - 1 : Nat) : Int) := by rw [gR (by omega) (by omega)]; omega
     rw [decide_eq_true (p := (1 : Int) < (k : Int)) (by omega), hk1, dJ (xs := t.Labels) (k := k - 1) (by omega)]
     rw [aAQ (b := vI (t.Labels[k - 1]'(by omega)) t.Labels[k]) ⟨fun h _ => ⟨hl, htk, fun _ => h⟩, fun h => (h hk).2.2 hk2⟩]
     simp only [Bool.not_true, Bool.false_eq_true, if_false, if_pos, aK, ltB_ge]
     cases vI (t.Labels[k - 1]'(by omega)) t.Labels[k] <;> rfl
    ·rw [decide_eq_false (p := (1 : Int) < (k : Int)) (by omega), tV (fun _ => ⟨hl, htk, fun h => absurd h hk2⟩)]; rfl
   ·have : ((t.Labels[k] == eL) != ((k : Int) == 0)) = true := by
     rw [e0]
     by_cases e : k = 0
     ·have : ¬ t.Labels[k] = eL := fun h => htk ⟨fun _ => e, fun _ => h⟩
      rw [beq_false_of_ne this]; simp [e]
     ·have : t.Labels[k] = eL := Classical.byContradiction fun h => htk ⟨fun h' => absurd h' h, fun h' => absurd h' e⟩
      simp [this, e]
    rw [this, oW (fun h => htk (h hk).2.1)]; rfl
  ·rw [oW (fun h => hl (h hk).1)]
   rw [Bool.not_eq_true] at hl
   rw [hl]; rfl
def jI (t : dC) : Prop := ∀ k, (hk : k < t.Edges.length) → t.Edges[k].Label ≠ 0 ∧ (1 ≤ k → ¬ (t.Edges[k].From = (t.Edges[k - 1]'(by omega)).From ∧ t.Edges[k].Label = (t.Edges[k - 1]'(by omega)).Label))
theorem aHf (t : dC) (h : t.Edges.length < 1000000000) : wQ t = some (cl (jI t)) := by
 unfold wQ
 have := tT (step := fun s => nB t s) t.Edges.length 0 (fun k => ∀ hk : k < t.Edges.length, t.Edges[k].Label ≠ 0 ∧ (1 ≤ k → ¬ (t.Edges[k].From = (t.Edges[k - 1]'(by omega)).From ∧ t.Edges[k].Label = (t.Edges[k - 1]'(by omega)).Label))) (.inr false) (.inl ()) (Nat.zero_le _) (fun k h0 hk => ?_) (by simp only [nB, cJ]; rfl)
 ·rw [show (0 : Int) = ((0 : Nat) : Int) from rfl, this, aK]
  by_cases hs : jI t
  ·rw [if_pos (tV fun k _ hk _ => hs k hk), tV hs]; rfl
  ·rw [if_neg (by rw [qZ]; exact fun h => hs fun k hk => h k (by omega) hk hk), oW hs]
 ·simp only [nB, cV hk, if_pos, dJ hk, aK, kW, cN hk (show t.Edges.length < 4611686018427387904 by omega)]
  by_cases hl : t.Edges[k].Label = 0
  ·rw [if_pos (by simpa using hl), oW (fun h => (h hk).1 hl)]; rfl
  ·rw [if_neg (by simpa using hl)]
   by_cases h1 : 1 ≤ k
   ·have hk1 : wr ((k : Int) - 1) = ((k - 1 : Nat) : Int) := by rw [gR (by omega) (by omega)]; omega
    rw [decide_eq_true (p := (0 : Int) < (k : Int)) (by omega), hk1, dJ (xs := t.Edges) (k := k - 1) (by omega)]
    simp only [if_pos, aK]
    by_cases a : t.Edges[k].From = (t.Edges[k - 1]'(by omega)).From
    ·rw [if_pos (by simpa using a)]
     by_cases b : t.Edges[k].Label = (t.Edges[k - 1]'(by omega)).Label
     ·rw [if_pos (by simpa using b), oW (fun h => (h hk).2 h1 ⟨a, b⟩)]; rfl
     ·rw [if_neg (by simpa using b), tV (fun _ => ⟨hl, fun _ h => b h.2⟩)]; rfl
    ·rw [if_neg (by simpa using a), tV (fun _ => ⟨hl, fun _ h => a h.1⟩)]; rfl
   ·rw [decide_eq_false (p := (0 : Int) < (k : Int)) (by omega), tV (fun _ => ⟨hl, fun h => absurd h h1⟩)]; rfl
theorem aHZ (t : dC) (hf : kN 999999999 t) : iH t = some (cl (eA t ∧ jI t)) := by
 unfold iH
 rw [tU t hf, aK]
 by_cases nv : ¬ eA t
 ·rw [if_pos (by rw [oW nv]; rfl), oW (fun h => nv h.1)]
 have hv : eA t := Classical.not_not.1 nv
 have h : t.Edges.length ≤ 300 := hv.2.2.2.1
 rw [if_neg (by rw [tV hv]; simp)]
 have := tT (step := fun s => gD t s) t.Edges.length 0 (fun k => ∀ hk : k < t.Edges.length, t.Edges[k].Label ≠ 0 ∧ (1 ≤ k → ¬ (t.Edges[k].From = (t.Edges[k - 1]'(by omega)).From ∧ t.Edges[k].Label = (t.Edges[k - 1]'(by omega)).Label))) (.inr false) (.inl ()) (Nat.zero_le _) (fun k h0 hk => ?_) (by simp only [gD, cJ]; rfl)
 ·rw [show (0 : Int) = ((0 : Nat) : Int) from rfl, this, aK]
  by_cases hs : jI t
  ·rw [if_pos (tV fun k _ hk _ => hs k hk), tV (P := eA t ∧ jI t) ⟨hv, hs⟩]; rfl
  ·rw [if_neg (by rw [qZ]; exact fun h => hs fun k hk => h k (by omega) hk hk), oW (fun h : eA t ∧ jI t => hs h.2)]
 ·simp only [gD, cV hk, if_pos, dJ hk, aK, fE, cN hk (show t.Edges.length < 4611686018427387904 by omega)]
  by_cases hl : t.Edges[k].Label = 0
  ·rw [if_pos (by simpa using hl), oW (fun h => (h hk).1 hl)]; rfl
  ·rw [if_neg (by simpa using hl)]
   by_cases h1 : 1 ≤ k
   ·have hk1 : wr ((k : Int) - 1) = ((k - 1 : Nat) : Int) := by rw [gR (by omega) (by omega)]; omega
    rw [decide_eq_true (p := (0 : Int) < (k : Int)) (by omega), hk1, dJ (xs := t.Edges) (k := k - 1) (by omega)]
    simp only [if_pos, aK]
    by_cases a : t.Edges[k].From = (t.Edges[k - 1]'(by omega)).From
    ·rw [if_pos (by simpa using a.symm)]
     by_cases b : t.Edges[k].Label = (t.Edges[k - 1]'(by omega)).Label
     ·rw [if_pos (by simpa using b.symm), oW (fun h => (h hk).2 h1 ⟨a, b⟩)]; rfl
     ·rw [if_neg (by simpa using fun h => b (Eq.symm h)), tV (fun _ => ⟨hl, fun _ h => b h.2⟩)]; rfl
    ·rw [if_neg (by simpa using fun h => a (Eq.symm h)), tV (fun _ => ⟨hl, fun _ h => a h.1⟩)]; rfl
   ·rw [decide_eq_false (p := (0 : Int) < (k : Int)) (by omega), tV (fun _ => ⟨hl, fun h => absurd h h1⟩)]; rfl
end Gv
namespace Gv
open Go
theorem chain_pair {α : Type} {R : α → α → Prop} (tr : ∀ {a b c}, R a b → R b c → R a c) {xs : List α} (h : ∀ k, 1 ≤ k → (hk : k < xs.length) → R (xs[k - 1]'(by omega)) xs[k]) {i j : Nat} (hij : i < j) (hj : j < xs.length) : R (xs[i]'(by omega)) xs[j] := by
 induction j with
 | zero => omega
 | succ j ih =>
  have h1 := h (j + 1) (by omega) hj
  simp only [Nat.add_sub_cancel] at h1
  by_cases e : i = j
  ·subst e; exact h1
  ·exact tr (ih (by omega) (by omega)) h1
def txt (t : dC) (e : Edge) : bF := t.Labels.getD e.Label.toNat []
def aBj (a b : Edge) : Prop := a.From < b.From ∨ (a.From = b.From ∧ a.Label < b.Label)
theorem aIO {a b c : Edge} (h1 : aBj a b) (h2 : aBj b c) : aBj a c := by
 unfold aBj at *; omega
theorem edges_fl {t : dC} (hv : eA t) (hs : jI t) {i j : Nat} (hij : i < j) (hj : j < t.Edges.length) : aBj (t.Edges[i]'(by omega)) t.Edges[j] := by
 refine chain_pair (R := aBj) aIO (fun k h1 hk => ?_) hij hj
 have a := (hv.2.2.2.2 k hk).2 h1
 have b := (hs k hk).2 h1
 unfold gC at a
 simp only [Bool.or_eq_true, Bool.and_eq_true, decide_eq_true_eq, beq_iff_eq] at a
 unfold aBj
 rcases a with a | ⟨a1, a | ⟨a2, _⟩⟩
 ·exact .inl a
 ·exact .inr ⟨a1, a⟩
 ·exact absurd ⟨a1.symm, a2.symm⟩ b
theorem labs_lt {xs : List bF} (h : vX xs) {i j : Nat} (hi : 1 ≤ i) (hij : i < j) (hj : j < xs.length) : vI (xs[i]'(by omega)) xs[j] = true := by
 induction j with
 | zero => omega
 | succ j ih =>
  have h1 := (h.2.2.2 (j + 1) (by omega) hj).2.2 (by omega)
  simp only [Nat.add_sub_cancel] at h1
  by_cases e : i = j
  ·subst e; exact h1
  ·exact ltB_trans (ih (by omega) (by omega)) h1
theorem labs_inj {xs : List bF} (h : vX xs) {i j : Nat} (hi : i < xs.length) (hj : j < xs.length) (e : xs[i] = xs[j]) : i = j := by
 have key : ∀ i j, (hij : i < j) → (hj : j < xs.length) → xs[i]'(by omega) ≠ xs[j] := by
  intro i j hij hj e
  by_cases h0 : i = 0
  ·subst h0
   rw [h.2.2.1 (by omega)] at e
   exact (h.2.2.2 j (by omega) hj).2.1 e.symm
  ·have := labs_lt h (by omega) hij hj
   rw [e, ltB_irrefl] at this; cases this
 rcases Nat.lt_trichotomy i j with h1 | h1 | h1
 ·exact absurd e (key i j h1 hj)
 ·exact h1
 ·exact absurd e.symm (key j i h1 hi)
theorem aAd {t : dC} (hv : eA t) {e : Edge} (he : e ∈ t.Edges) : xD t e := by
 obtain ⟨k, hk, rfl⟩ := List.mem_iff_getElem.1 he
 exact (hv.2.2.2.2 k hk).1
theorem aDK {t : dC} {e : Edge} (he : xD t e) : ix t.Labels e.Label = some (txt t e) := by
 obtain ⟨_, _, h1, h2⟩ := he
 rw [ix_of h1 (by omega)]
 unfold txt; rw [List.getD_eq_getElem?_getD, List.getElem?_eq_getElem (by omega)]; rfl
def hit (t : dC) (q : Int) (s : bF) (e : Edge) : Bool := e.From == q && txt t e == s
def vK (t : dC) (q : Int) (s : bF) : Int := match t.Edges.find? (hit t q s) with | some e => e.To | none => -1
theorem goF_neg {t : dC} (hv : eA t) {q : Int} (h : q < 0) (s : bF) : vK t q s = -1 := by
 unfold vK
 rw [List.find?_eq_none.2 fun e he => by
  have := (aAd hv he).1.1
  unfold hit; simp; omega]
theorem aBk {t : dC} (hv : eA t) (q : Int) (s : bF) : -1 ≤ vK t q s ∧ vK t q s ≤ t.States - 1 := by
 unfold vK
 cases hx : t.Edges.find? (hit t q s) with
 | none => have := hv.1; simp only; omega
 | some e => have := (aAd hv (List.mem_of_find?_eq_some hx)).2.1; simp only; omega
theorem aIa {t : dC} (hv : eA t) (q : Int) (s : bF) : aCl t q s = some (vK t q s) := by
 have h300 := hv.2.2.2.1
 unfold aCl
 by_cases hq : 0 ≤ q
 ·have := rR (step := fun k => oD t q s k) t.Edges (fun k (_ : Unit) => (k : Int)) (fun l _ => match l.find? (hit t q s) with | some e => .inr e.To | none => .inl ()) (fun _ _ => True) (fun k a e l hk hx _ => ?_) (fun a _ => by simp only [oD, cJ]; rfl) (a := ()) trivial
  ·rw [show (0 : Int) = ((0 : Nat) : Int) from rfl, this, aK]
   unfold vK
   cases t.Edges.find? (hit t q s) <;> rfl
  ·obtain ⟨hk', rfl⟩ := zI hx
   have hstep : oD t q s (k : Int) = if hit t q s t.Edges[k] = true then some (.inr (.inr t.Edges[k].To)) else some (.inl ((k + 1 : Nat) : Int)) := by
    simp only [oD, cV hk, if_pos, decide_eq_true hq, yR, hx, aK, aDK (aAd hv (List.getElem_mem hk')), yQ, cN hk (show t.Edges.length < 4611686018427387904 by omega)]
    unfold hit
    cases t.Edges[k].From == q <;> cases txt t t.Edges[k] == s <;> rfl
   rw [hstep]
   cases hh : hit t q s t.Edges[k] with
   | true => right; rw [if_pos rfl, List.find?_cons, hh]
   | false => left; exact ⟨(), by rw [if_neg (by simp)], trivial, by rw [List.find?_cons, hh]⟩
 ·rw [goF_neg hv (by omega), bS]
  have : oD t q s 0 = some (.inr (.inl ())) := by
   unfold oD; rw [decide_eq_false hq]
   cases decide ((0 : Int) < (t.Edges.length : Int)) <;> rfl
  rw [this]; rfl
theorem srt_short {α : Type} (lt : α → α → Bool) {xs : List α} (h : xs.length ≤ 1) : srt lt xs = xs := by
 unfold srt
 rcases xs with _ | ⟨a, _ | ⟨b, l⟩⟩
 ·simp
 ·simp
 ·simp at h
theorem aCg {β γ ρ : Type} {step : (List γ × Int) → Option ((List γ × Int) ⊕ ρ)} (xs : List β) (p : β → Bool) (f : β → γ) (e : List γ → ρ)
  (h : ∀ (k : Nat) out x, k < xs.length → out.length ≤ k → ix xs (k : Int) = some x → step (out, (k : Int)) = some (.inl (if p x = true then out ++ [f x] else out, ((k + 1 : Nat) : Int))))
  (h' : ∀ out, step (out, (xs.length : Int)) = some (.inr (e out))) : loop step ([], 0) = some (e ((xs.filter p).map f)) := by
 have := rR (step := step) xs (fun k out => (out, (k : Int))) (fun l out => e (out ++ (l.filter p).map f)) (fun k out => out.length ≤ k) (fun k a x l hk hx hI => ?_) (fun a _ => by simp [h']) (a := []) (by simp)
 ·simpa using this
 ·left; rw [h k a x hk hI hx]
  by_cases hp : p x = true
  ·exact ⟨a ++ [f x], by rw [if_pos hp], by simp; omega, by simp [hp]⟩
  ·exact ⟨a, by rw [if_neg hp], by omega, by simp [hp]⟩
theorem out_eq (t : dC) (q : Int) (h : t.Edges.length < 1000000000) : vU t q = some (t.Edges.filter fun e => e.From == q) := by
 unfold vU
 rw [aCg (step := fun s : List Edge × Int => rL t q s.1 s.2) t.Edges (fun e => e.From == q) id id (fun k out x hk ho hx => ?_) (fun out => by simp only [rL, cJ]; rfl), aK]
 ·simp [uY]
 ·simp only [rL, cV hk, if_pos, hx, aK, uZ, cN hk (show t.Edges.length < 4611686018427387904 by omega)]
  rw [lA (by simp [nX]; omega), aK]
  cases x.From == q <;> rfl
theorem l11Out_eq (t : dC) (q : Int) (h : t.Edges.length < 1000000000) : aBT t q = some (t.Edges.filter fun e => e.From == q) := by
 unfold aBT
 rw [aCg (step := fun s : List Edge × Int => tN t q s.1 s.2) t.Edges (fun e => e.From == q) id id (fun k out x hk ho hx => ?_) (fun out => by simp only [tN, cJ]; rfl), aK]
 ·simp [wR]
 ·simp only [tN, cV hk, if_pos, hx, aK, wS, cN hk (show t.Edges.length < 4611686018427387904 by omega)]
  rw [lA (by simp [nX]; omega), aK]
  cases x.From == q <;> rfl
theorem aGc {xs : List Int} (h : xs.length ≤ 1) : eU xs = some xs := by
 unfold eU; rw [if_pos (by simp; omega)]
theorem aBx {xs : List Int} (h : xs.length ≤ 1) : xZ xs = some xs := by
 unfold xZ; rw [if_pos (by simp [nX]; omega), srt_short _ h]
theorem hit_one {t : dC} (hv : eA t) (hs : jI t) (q : Int) (s : bF) : (t.Edges.filter (hit t q s)) = (t.Edges.find? (hit t q s)).toList := by
 have hp : t.Edges.Pairwise (fun a b => ¬ (hit t q s a = true ∧ hit t q s b = true)) := by
  rw [List.pairwise_iff_getElem]
  intro i j hi hj hij
  have h1 := edges_fl hv hs hij hj
  rintro ⟨ha, hb⟩
  unfold hit at ha hb
  simp only [Bool.and_eq_true, beq_iff_eq] at ha hb
  have ea := aAd hv (List.getElem_mem hi)
  have eb := aAd hv (List.getElem_mem hj)
  have he : txt t t.Edges[i] = txt t t.Edges[j] := ha.2.trans hb.2.symm
  unfold txt at he
  rw [List.getD_eq_getElem?_getD, List.getD_eq_getElem?_getD, List.getElem?_eq_getElem (by have := ea.2.2; omega), List.getElem?_eq_getElem (by have := eb.2.2; omega)] at he
  have := labs_inj hv.2.2.1 (by have := ea.2.2; omega) (by have := eb.2.2; omega) he
  unfold aBj at h1
  have := ea.2.2; have := eb.2.2
  omega
 generalize t.Edges = l at hp
 induction l with
 | nil => rfl
 | cons a l ih =>
  rw [List.pairwise_cons] at hp
  by_cases h : hit t q s a = true
  ·rw [List.filter_cons, if_pos h, List.find?_cons, h]
   simp only [Option.toList_some, List.cons.injEq, true_and]
   exact List.filter_eq_nil_iff.2 fun b hb hh => hp.1 b hb ⟨h, hh⟩
  ·rw [List.filter_cons, if_neg h, List.find?_cons, Bool.eq_false_iff.2 h]
   exact ih hp.2
theorem aEo {t : dC} (hv : eA t) (hs : jI t) (q : Int) (s : bF) : lX t [q] s = some ((t.Edges.find? (hit t q s)).toList.map (·.To)) := by
 have h300 := hv.2.2.2.1
 unfold lX
 rw [aCg (step := fun x : List Int × Int => lO t [q] s x.1 x.2) t.Edges (hit t q s) (·.To) id (fun k out x hk ho hx => ?_) (fun out => by simp only [lO, cJ]; rfl), aK, hit_one hv hs]
 ·have hl : ((t.Edges.find? (hit t q s)).toList.map (·.To)).length ≤ 1 := by
   cases t.Edges.find? (hit t q s) <;> simp
  unfold oN
  simp only [id]
  rw [aBx hl, aK, aGc hl, aK]
 ·obtain ⟨hk', rfl⟩ := zI hx
  simp only [lO, cV hk, if_pos, hx, aK, aDK (aAd hv (List.getElem_mem hk')), aHc [q] _ (by simp), oP, oO, cN hk (show t.Edges.length < 4611686018427387904 by omega)]
  rw [lA (by simp [nX]; omega), aK]
  unfold hit
  have e : ([q].any fun x => t.Edges[k].From == x) = (t.Edges[k].From == q) := by simp
  rw [e]
  cases txt t t.Edges[k] == s <;> cases t.Edges[k].From == q <;> rfl
theorem aHg {t : dC} (hv : eA t) (hs : jI t) (q : Int) (s : bF) : tC t q s = some (vK t q s) := by
 unfold tC
 by_cases hq : q < 0
 ·rw [if_pos (by simpa using hq), goF_neg hv hq]
 ·rw [if_neg (by simpa using hq), aEo hv hs, aK]
  unfold vK
  cases t.Edges.find? (hit t q s) with
  | none => rfl
  | some e => rfl
theorem aIQ {t : dC} (hv : eA t) (hs : jI t) (q : Int) : lX t [q] eL = some [] := by
 rw [aEo hv hs]
 rw [List.find?_eq_none.2 fun e he => ?_]
 ·rfl
 ·obtain ⟨k, hk, rfl⟩ := List.mem_iff_getElem.1 he
  have h1 := (hs k hk).1
  have h2 := (aAd hv he).2.2
  unfold hit
  simp only [Bool.and_eq_true, beq_iff_eq, not_and]
  intro _ e
  unfold txt at e
  rw [List.getD_eq_getElem?_getD, List.getElem?_eq_getElem (by omega)] at e
  exact (hv.2.2.1.2.2.2 _ (by omega) (by omega)).2.1 e
theorem aEC {t : dC} (hv : eA t) (hs : jI t) (xs : List Int) (h : xs.length ≤ 1) : nJ t xs = some xs := by
 unfold nJ gU
 rw [lA (by simp [nX]; omega), aK, List.nil_append, aK]
 have := kM (step := fun s : List Int × Int => jY t s.1 s.2) xs.length (fun k (_ : Unit) => (xs, (k : Int))) (fun _ _ => xs) (fun _ _ => True) (fun k a hk _ => ?_) (fun a _ => by simp only [jY, cJ]; rfl) xs.length 0 () (by omega) trivial
 ·rw [show (0 : Int) = ((0 : Nat) : Int) from rfl, this, aK, mC, aBx h]; rfl
 ·left
  refine ⟨(), ?_, trivial, rfl⟩
  simp only [jY, cV hk, if_pos, dJ hk, aK]
  rw [show ([116, 97, 117] : bF) = eL from rfl, aIQ hv hs, aK, bS]
  simp only [pZ]
  simp [mD, pX]
  exact cN hk (by omega)
theorem aIR {t : dC} (hv : eA t) (hs : jI t) (q : Int) (s : bF) : pN t [q] s = some ((t.Edges.find? (hit t q s)).toList.map (·.To)) := by
 unfold pN
 rw [aEo hv hs, aK, aEC hv hs _ (by cases t.Edges.find? (hit t q s) <;> simp)]; rfl
end Gv
namespace Gv
open Go
theorem zK {σ ρ α : Type} {step : σ → Option (σ ⊕ ρ)} (n : Nat) (g : Nat → α → σ) (I : Nat → α → Prop) (R : ρ → Prop)
  (h : ∀ k a, k < n → I k a → ∃ a', step (g k a) = some (.inl (g (k + 1) a')) ∧ I (k + 1) a')
  (h' : ∀ a, I n a → ∃ r, step (g n a) = some (.inr r) ∧ R r) : ∀ j k a, k + j = n → I k a → ∃ r, loop step (g k a) = some r ∧ R r
 | 0, k, a, e, hI => by
  obtain rfl : k = n := by omega
  obtain ⟨r, h1, h2⟩ := h' a hI
  exact ⟨r, by rw [bS, h1], h2⟩
 | j + 1, k, a, e, hI => by
  obtain ⟨a', h1, h2⟩ := h k a (by omega) hI
  rw [bS, h1]
  exact zK n g I R h h' j (k + 1) a' (by omega) h2
structure Adv (b : Bool) (G : List Bool → Prop) (m0 m : List Bool) (ag : Bool) : Prop where
 good : G m
 le : m.count b ≤ m0.count b
 lt : ag = true → m.count b < m0.count b
 eq : ag = false → m = m0
theorem Adv.refl {b : Bool} {G : List Bool → Prop} {m : List Bool} (h : G m) : Adv b G m m false := ⟨h, Nat.le_refl _, fun h => (by cases h), fun _ => rfl⟩
theorem aFF {b : Bool} : ∀ {m : List Bool} {q : Nat}, m[q]? = some b → (m.set q (!b)).count b < m.count b
 | [], q, h => by simp at h
 | x :: l, 0, h => by
  simp at h; subst h
  cases x <;> simp
 | x :: l, q + 1, h => by
  have := aFF (m := l) (q := q) (by simpa using h)
  simp only [List.set_cons_succ, List.count_cons]; omega
theorem Adv.flip {b : Bool} {G : List Bool → Prop} {m0 m : List Bool} {ag : Bool} (h : Adv b G m0 m ag) {q : Nat} (hq : m[q]? = some b) (hg : G (m.set q (!b))) : Adv b G m0 (m.set q (!b)) true := by
 have := aFF hq
 have := h.le
 exact ⟨hg, by omega, fun _ => by omega, fun h => by cases h⟩
theorem aAe {α : Type} (g : List Bool → α) {step : α × Bool → Option ((α × Bool) ⊕ α)} (b : Bool) (G C : List Bool → Prop)
  (h1 : ∀ m, G m → ∃ m' ag, step (g m, true) = some (.inl (g m', ag)) ∧ Adv b G m m' ag ∧ (ag = false → C m))
  (h2 : ∀ m, step (g m, false) = some (.inr (g m))) : ∀ n m, m.count b ≤ n → G m → ∃ m', loop step (g m, true) = some (g m') ∧ G m' ∧ C m' := by
 intro n
 induction n with
 | zero =>
  intro m hn hG
  obtain ⟨m', ag, e, ha, hc⟩ := h1 m hG
  cases ag with
  | true => have := ha.lt rfl; omega
  | false =>
   obtain rfl := ha.eq rfl
   exact ⟨_, by rw [bS, e]; simp only; rw [bS, h2], hG, hc rfl⟩
 | succ n ih =>
  intro m hn hG
  obtain ⟨m', ag, e, ha, hc⟩ := h1 m hG
  cases ag with
  | true =>
   have := ha.lt rfl
   obtain ⟨m'', e', hG', hC'⟩ := ih m' (by omega) ha.good
   exact ⟨m'', by rw [bS, e]; exact e', hG', hC'⟩
  | false =>
   obtain rfl := ha.eq rfl
   exact ⟨_, by rw [bS, e]; simp only; rw [bS, h2], hG, hc rfl⟩
section
variable (p : dC) (L : List bF)
inductive Lv : Int → Prop
 | out {q : Int} {s : bF} : s ∈ L → vK p q s < 0 → Lv q
 | go {q : Int} {s : bF} : s ∈ L → 0 ≤ vK p q s → Lv (vK p q s) → Lv q
def St (q : Int) : Prop := ∃ S : Int → Prop, S q ∧ ∀ z, S z → L = [] ∨ ∃ s ∈ L, 0 ≤ vK p z s ∧ S (vK p z s)
noncomputable def rY : List Bool := (List.range p.States.toNat).map fun (q : Nat) => cl (Lv p L (q : Int))
noncomputable def rZ : List Bool := (List.range p.States.toNat).map fun (q : Nat) => cl (St p L (q : Int))
def lvB (m : List Bool) (q : Int) : Bool := L.any fun s => decide (vK p q s < 0) || m.getD (vK p q s).toNat false
def stB (m : List Bool) (q : Int) : Bool := L.any fun s => decide (0 ≤ vK p q s) && m.getD (vK p q s).toNat false
def GL (m : List Bool) : Prop := m.length = p.States.toNat ∧ ∀ q : Nat, m[q]? = some true → Lv p L (q : Int)
def CL (m : List Bool) : Prop := ∀ q : Nat, m[q]? = some false → lvB p L m (q : Int) = false
def GS (m : List Bool) : Prop := m.length = p.States.toNat ∧ ∀ q : Nat, m[q]? = some false → ¬ St p L (q : Int)
def CS (m : List Bool) : Prop := ∀ q : Nat, m[q]? = some true → L = [] ∨ stB p L m (q : Int) = true
end
section
variable {p : dC} {L : List bF} {m : List Bool}
theorem GL.flip (h : GL p L m) {q : Nat} (hq : m[q]? = some false) (hb : lvB p L m (q : Int) = true) : GL p L (m.set q (!false)) := by
 refine ⟨by simp [h.1], fun z hz => ?_⟩
 by_cases e : z = q
 ·subst e
  unfold lvB at hb
  rw [List.any_eq_true] at hb
  obtain ⟨s, hs, hb⟩ := hb
  by_cases hn : vK p (z : Int) s < 0
  ·exact .out hs hn
  ·simp only [decide_eq_false hn, Bool.false_or] at hb
   have := h.2 (vK p (z : Int) s).toNat (by
    rw [List.getD_eq_getElem?_getD] at hb
    cases hx : m[(vK p (z : Int) s).toNat]? with
    | none => rw [hx] at hb; cases hb
    | some x => rw [hx] at hb; simp at hb; rw [hb])
   rw [show (((vK p (z : Int) s).toNat : Nat) : Int) = vK p (z : Int) s by omega] at this
   exact .go hs (by omega) this
 ·rw [List.getElem?_set_ne (Ne.symm e)] at hz
  exact h.2 z hz
theorem GL.row (hv : eA p) (h : GL p L m) (hc : CL p L m) : m = rY p L := by
 have key : ∀ z, Lv p L z → 0 ≤ z → z < p.States → m[z.toNat]? = some true := by
  intro z hz
  induction hz with
  | out hs hn =>
   rename_i q s
   intro h0 h1
   cases hx : m[q.toNat]? with
   | none => rw [List.getElem?_eq_none_iff] at hx; have := h.1; omega
   | some x =>
    cases x with
    | true => rfl
    | false =>
     have := hc q.toNat hx
     unfold lvB at this
     rw [List.any_eq_false] at this
     have := this s hs
     rw [show ((q.toNat : Nat) : Int) = q by omega, decide_eq_true hn] at this
     simp at this
  | go hs hn hg ih =>
   rename_i q s
   intro h0 h1
   have := ih hn (by have := (aBk hv q s).2; omega)
   cases hx : m[q.toNat]? with
   | none => rw [List.getElem?_eq_none_iff] at hx; have := h.1; omega
   | some x =>
    cases x with
    | true => rfl
    | false =>
     have hf := hc q.toNat hx
     unfold lvB at hf
     rw [List.any_eq_false] at hf
     have hf := hf s hs
     rw [show ((q.toNat : Nat) : Int) = q by omega, List.getD_eq_getElem?_getD, this] at hf
     simp at hf
 unfold rY
 refine List.ext_getElem? fun q => ?_
 by_cases hq : q < p.States.toNat
 ·have hlen := h.1
  rw [List.getElem?_map, List.getElem?_range hq, Option.map_some]
  cases hx : m[q]? with
  | none => rw [List.getElem?_eq_none_iff] at hx; omega
  | some x =>
   congr 1
   symm
   apply aAQ
   refine ⟨fun e => h.2 q (by rw [hx, e]), fun e => ?_⟩
   have := key (q : Int) e (by omega) (by omega)
   simp only [Int.toNat_natCast] at this
   rw [hx] at this; simpa using this
 ·rw [List.getElem?_eq_none (by have := h.1; omega), List.getElem?_eq_none (by simp; omega)]
theorem GS.flip (h : GS p L m) {q : Nat} (hq : m[q]? = some true) (hL : L ≠ []) (hv : eA p) (hb : stB p L m (q : Int) = false) : GS p L (m.set q (!true)) := by
 refine ⟨by simp [h.1], fun z hz => ?_⟩
 by_cases e : z = q
 ·subst e
  rintro ⟨S, h1, h2⟩
  rcases h2 _ h1 with h3 | ⟨s, hs, h4, h5⟩
  ·exact hL h3
  ·unfold stB at hb
   rw [List.any_eq_false] at hb
   have := hb s hs
   rw [decide_eq_true h4, List.getD_eq_getElem?_getD] at this
   have hlt := (aBk hv (z : Int) s).2
   have hlen := h.1
   cases hx : m[(vK p (z : Int) s).toNat]? with
   | none => rw [List.getElem?_eq_none_iff] at hx; omega
   | some x =>
    rw [hx] at this
    cases x with
    | true => simp at this
    | false =>
     refine h.2 _ hx ⟨S, ?_, h2⟩
     rw [show (((vK p (z : Int) s).toNat : Nat) : Int) = vK p (z : Int) s by omega]
     exact h5
 ·rw [List.getElem?_set_ne (Ne.symm e)] at hz
  exact h.2 z hz
theorem GS.row (h : GS p L m) (hc : CS p L m) : m = rZ p L := by
 unfold rZ
 refine List.ext_getElem? fun q => ?_
 by_cases hq : q < p.States.toNat
 ·have hlen := h.1
  rw [List.getElem?_map, List.getElem?_range hq, Option.map_some]
  cases hx : m[q]? with
  | none => rw [List.getElem?_eq_none_iff] at hx; omega
  | some x =>
   congr 1
   symm
   apply aAQ
   constructor
   ·rintro rfl
    refine ⟨fun z => 0 ≤ z ∧ m[z.toNat]? = some true, ⟨by omega, by simpa using hx⟩, fun z hz => ?_⟩
    rcases hc z.toNat hz.2 with h1 | h1
    ·exact .inl h1
    ·right
     rw [show ((z.toNat : Nat) : Int) = z by omega] at h1
     unfold stB at h1
     rw [List.any_eq_true] at h1
     obtain ⟨s, hs, h2⟩ := h1
     simp only [Bool.and_eq_true, decide_eq_true_eq] at h2
     refine ⟨s, hs, h2.1, h2.1, ?_⟩
     have h3 := h2.2
     rw [List.getD_eq_getElem?_getD] at h3
     cases hy : m[(vK p z s).toNat]? with
     | none => rw [hy] at h3; cases h3
     | some y => rw [hy] at h3; simp at h3; rw [h3]
   ·intro hs
    cases x with
    | true => rfl
    | false => exact absurd hs (h.2 q hx)
 ·rw [List.getElem?_eq_none (by have := h.1; omega), List.getElem?_eq_none (by simp; omega)]
end
end Gv
namespace Gv
open Go
def tx (t : dC) : List bF := t.Edges.map (txt t)
structure One (t : dC) : Prop where
 ok : eA t
 single : jI t
 one : t.States = 1
theorem One.edge {t : dC} (h : One t) {e : Edge} (he : e ∈ t.Edges) : e.From = 0 ∧ e.To = 0 ∧ e.Label ≠ 0 ∧ ix t.Labels e.Label = some (txt t e) ∧ txt t e ∈ tx t := by
 have hi := aAd h.ok he
 have h1 := h.one
 obtain ⟨k, hk, rfl⟩ := List.mem_iff_getElem.1 he
 refine ⟨by have := hi.1; omega, by have := hi.2.1; omega, (h.single k hk).1, aDK hi, List.mem_map_of_mem he⟩
theorem One.len {t : dC} (h : One t) : t.Edges.length ≤ 300 := h.ok.2.2.2.1
theorem aCt (p : dC) (t : dC) (m : List Bool) (q : Int) : lvB p (tx t) m q = t.Edges.any fun e => decide (vK p q (txt t e) < 0) || m.getD (vK p q (txt t e)).toNat false := by
 unfold lvB tx; rw [List.any_map]; rfl
theorem aGy (p : dC) (t : dC) (m : List Bool) (q : Int) : stB p (tx t) m q = t.Edges.any fun e => decide (0 ≤ vK p q (txt t e)) && m.getD (vK p q (txt t e)).toNat false := by
 unfold stB tx; rw [List.any_map]; rfl
theorem at0 {x y : Int} (h : -9223372036854775808 ≤ y) (h' : y ≤ 9223372036854775807) : wr (wr (0 * x) + y) = y := by
 rw [Int.zero_mul, gR (x := 0) (by omega) (by omega), Int.zero_add, gR h h']
theorem aBl {m : List Bool} {q : Int} (h0 : 0 ≤ q) (h : q.toNat < m.length) : ix m q = some (m.getD q.toNat false) := by
 rw [ix_of h0 h, List.getD_eq_getElem?_getD, List.getElem?_eq_getElem h]; rfl
theorem aIb {t p : dC} (ht : One t) (hp : eA p) {e : Edge} (he : e ∈ t.Edges) (q : Int) : aCm t p e q = some (vK p q (txt t e)) := by
 obtain ⟨_, _, h3, h4, _⟩ := ht.edge he
 unfold aCm
 rw [if_neg (by simpa using h3), h4, aK, aIa hp, aK]
def CEd (p t : dC) (e : Edge) (q : Nat) (m : List Bool) : Prop := m[q]? = some false → ¬ (vK p (q : Int) (txt t e) < 0) ∧ m.getD (vK p (q : Int) (txt t e)).toNat false = false
theorem CL_of {p t : dC} {m : List Bool} (h : ∀ e ∈ t.Edges, ∀ q, q < m.length → CEd p t e q m) : CL p (tx t) m := by
 intro q hq
 have hl : q < m.length := (List.getElem?_eq_some_iff.1 hq).1
 rw [aCt, List.any_eq_false]
 intro e he
 obtain ⟨h1, h2⟩ := h e he q hl hq
 rw [decide_eq_false h1, h2]; simp
theorem aFG {p t : dC} (ht : One t) (hp : eA p) {e : Edge} (he : e ∈ t.Edges) {m0 m : List Bool} {ag : Bool} (h : Adv false (GL p (tx t)) m0 m ag) (Q : Prop) (hQ : ag = false → Q) :
  ∃ r, loop (fun s : List Bool × Bool × Int => mK t p e s.1 s.2.1 s.2.2) (m, ag, 0) = some r ∧ Adv false (GL p (tx t)) m0 r.1 r.2 ∧ (r.2 = false → Q ∧ ∀ q, q < p.States.toNat → CEd p t e q m0) := by
 obtain ⟨n, hn⟩ : ∃ n : Nat, p.States = (n : Int) := ⟨p.States.toNat, by have := hp.1; omega⟩
 have hn40 : n ≤ 40 := by have := hp.1; omega
 obtain ⟨e1, e2, _, _, _⟩ := ht.edge he
 have := zK (step := fun s : List Bool × Bool × Int => mK t p e s.1 s.2.1 s.2.2) n (fun q (a : List Bool × Bool) => (a.1, a.2, (q : Int)))
  (fun q a => Adv false (GL p (tx t)) m0 a.1 a.2 ∧ (a.2 = false → Q ∧ ∀ q', q' < q → CEd p t e q' m0)) (fun r => Adv false (GL p (tx t)) m0 r.1 r.2 ∧ (r.2 = false → Q ∧ ∀ q, q < p.States.toNat → CEd p t e q m0)) (fun q a hq hI => ?_) (fun a hI => ?_) n 0 (m, ag) (by omega) ⟨h, fun h => ⟨hQ h, fun q' hq' => by omega⟩⟩
 ·exact this
 ·obtain ⟨m, ag⟩ := a
  obtain ⟨hI1, hI2⟩ := hI
  simp only at hI1 hI2
  have hlen := hI1.good.1
  rw [hn, Int.toNat_natCast] at hlen
  have hqm : q < m.length := by omega
  have hgo := aBk hp (q : Int) (txt t e)
  simp only [mK, hn, cV hq, if_pos, e1, at0 (x := (n : Int)) (y := (q : Int)) (by omega) (by omega), dJ hqm, aK, aIb ht hp he, kO, cN hq (show n < 4611686018427387904 by omega)]
  cases hm : m[q] with
  | true =>
   refine ⟨(m, ag), rfl, hI1, fun hf => ⟨(hI2 hf).1, fun q' hq' => ?_⟩⟩
   by_cases hqq : q' < q
   ·exact (hI2 hf).2 q' hqq
   ·obtain rfl : q' = q := by omega
    intro hc
    rw [← hI1.eq hf, List.getElem?_eq_getElem hqm, hm] at hc
    cases hc
  | false =>
   have hmq : m[q]? = some false := by rw [List.getElem?_eq_getElem hqm, hm]
   have hflip : lvB p (tx t) m (q : Int) = true → ∃ a' : List Bool × Bool, (ob (st m (q : Int) true) fun out => some (Sum.inl (out, true, ((q + 1 : Nat) : Int))) : Option ((List Bool × Bool × Int) ⊕ (List Bool × Bool))) = some (.inl (a'.1, a'.2, ((q + 1 : Nat) : Int))) ∧ Adv false (GL p (tx t)) m0 a'.1 a'.2 ∧ (a'.2 = false → Q ∧ ∀ q', q' < q + 1 → CEd p t e q' m0) := by
    intro hb
    refine ⟨(m.set q true, true), by rw [aAc _ hqm, aK], hI1.flip hmq (hI1.good.flip hmq hb), fun h => by cases h⟩
   simp only [Bool.false_eq_true, if_false]
   by_cases hneg : vK p (q : Int) (txt t e) < 0
   ·rw [if_pos (by simpa using hneg)]
    simp only [pA, if_pos, e1, hn, at0 (x := (n : Int)) (y := (q : Int)) (by omega) (by omega), kO, cN hq (show n < 4611686018427387904 by omega)]
    exact hflip (by rw [aCt, List.any_eq_true]; exact ⟨e, he, by simp [hneg]⟩)
   ·rw [if_neg (by simpa using hneg), e2, at0 (by omega) (by omega), aBl (by omega) (by omega), aK]
    simp only [pA, e1, hn, at0 (x := (n : Int)) (y := (q : Int)) (by omega) (by omega), kO, cN hq (show n < 4611686018427387904 by omega)]
    cases hg : m.getD (vK p (q : Int) (txt t e)).toNat false with
    | true =>
     exact hflip (by rw [aCt, List.any_eq_true]; exact ⟨e, he, by rw [hg]; simp⟩)
    | false =>
     refine ⟨(m, ag), rfl, hI1, fun hf => ⟨(hI2 hf).1, fun q' hq' => ?_⟩⟩
     by_cases hqq : q' < q
     ·exact (hI2 hf).2 q' hqq
     ·obtain rfl : q' = q := by omega
      rw [← hI1.eq hf]
      exact fun _ => ⟨hneg, hg⟩
 ·obtain ⟨m, ag⟩ := a
  refine ⟨_, ?_, hI.1, fun hf => ⟨(hI.2 hf).1, fun q hq => (hI.2 hf).2 q (by omega)⟩⟩
  simp only [mK, hn, cJ]; rfl
theorem aIc {p t : dC} (ht : One t) (hp : eA p) : yS t p = some (rY p (tx t)) := by
 obtain ⟨n, hn⟩ : ∃ n : Nat, p.States = (n : Int) := ⟨p.States.toNat, by have := hp.1; omega⟩
 have hn40 : n ≤ 40 := by have := hp.1; omega
 have h300 := ht.len
 unfold yS
 rw [ht.one, Int.one_mul, gR (by have := hp.1; omega) (by have := hp.1; omega), hn, aEi _ (by simp [nX]; omega), aK]
 have hG0 : GL p (tx t) (List.replicate n false) := ⟨by simp [hn], fun q hq => by rw [List.getElem?_replicate] at hq; split at hq <;> cases hq⟩
 have hset := aAe (α := List Bool) id (step := fun s : List Bool × Bool => qL t p s.1 s.2) false (GL p (tx t)) (CL p (tx t)) (fun m hG => ?_) (fun m => rfl) n (List.replicate n false) (by simp) hG0
 ·obtain ⟨m, hl, hG, hC⟩ := hset
  simp only [id] at hl
  rw [hl, aK, sF, hG.row hp hC]
 ·have := zK (step := fun s : List Bool × Bool × Int => pB t p s.1 s.2.1 s.2.2) t.Edges.length (fun i (a : List Bool × Bool) => (a.1, a.2, (i : Int)))
   (fun i a => Adv false (GL p (tx t)) m a.1 a.2 ∧ (a.2 = false → ∀ i', i' < i → ∀ he : i' < t.Edges.length, ∀ q, q < p.States.toNat → CEd p t t.Edges[i'] q m)) (fun r => Adv false (GL p (tx t)) m r.1 r.2 ∧ (r.2 = false → CL p (tx t) m)) (fun i a hi hI => ?_) (fun a hI => ?_) t.Edges.length 0 (m, false) (by omega) ⟨Adv.refl hG, fun _ i' h => by omega⟩
  ·obtain ⟨r, hr, hA, hc⟩ := this
   simp only [id, qL, if_pos]
   rw [show (0 : Int) = ((0 : Nat) : Int) from rfl, hr]
   exact ⟨r.1, r.2, rfl, hA, hc⟩
  ·obtain ⟨m', ag⟩ := a
   simp only at hI
   have hem : t.Edges[i] ∈ t.Edges := List.getElem_mem hi
   obtain ⟨r, hr, hA, hc⟩ := aFG ht hp hem hI.1 _ hI.2
   refine ⟨r, ?_, hA, fun hf i' hi' he' q hq => ?_⟩
   ·simp only [pB, cV hi, if_pos, dJ hi, aK, hr]
    rw [← cN hi (by omega)]; rfl
   ·by_cases hii : i' < i
    ·exact (hc hf).1 i' hii he' q hq
    ·obtain rfl : i' = i := by omega
     exact (hc hf).2 q hq
  ·refine ⟨a, by simp only [pB, cJ]; rfl, hI.1, fun hf => CL_of fun e he q hq => ?_⟩
   obtain ⟨i', hi', rfl⟩ := List.mem_iff_getElem.1 he
   exact hI.2 hf i' hi' hi' q (by have := hG.1; omega)
theorem aBm {t : dC} (ht : One t) : (t.Edges.filter fun e => e.From == 0) = t.Edges :=
 List.filter_eq_self.2 fun e he => by have := (ht.edge he).1; simp [this]
theorem stay_any {t p : dC} (ht : One t) (hp : eA p) {m : List Bool} (hm : m.length = p.States.toNat) (q : Nat) :
  loop (fun s : Bool × Int => oE t p t.Edges m (q : Int) s.1 s.2) (false, 0) = some (stB p (tx t) m (q : Int)) := by
 have h300 := ht.len
 rw [aGy]
 have := rR (step := fun s : Bool × Int => oE t p t.Edges m (q : Int) s.1 s.2) t.Edges (fun k (b : Bool) => (b, (k : Int))) (fun l b => b || l.any fun e => decide (0 ≤ vK p (q : Int) (txt t e)) && m.getD (vK p (q : Int) (txt t e)).toNat false) (fun _ _ => True) (fun k a e l hk hx _ => ?_) (fun a _ => by simp only [oE, cJ]; simp) (a := false) trivial
 ·simpa using this
 ·left
  obtain ⟨hk', rfl⟩ := zI hx
  have hem : t.Edges[k] ∈ t.Edges := List.getElem_mem hk
  obtain ⟨e1, e2, _, _, _⟩ := ht.edge hem
  have hgo := aBk hp (q : Int) (txt t t.Edges[k])
  refine ⟨a || (decide (0 ≤ vK p (q : Int) (txt t t.Edges[k])) && m.getD (vK p (q : Int) (txt t t.Edges[k])).toNat false), ?_, trivial, ?_⟩
  ·simp only [oE, cV hk, if_pos, hx, aK, aIb ht hp hem, rF, e2, cN hk (show t.Edges.length < 4611686018427387904 by omega)]
   cases a with
   | true => simp
   | false =>
    by_cases h0 : 0 ≤ vK p (q : Int) (txt t t.Edges[k])
    ·rw [decide_eq_true h0, at0 (by omega) (by have := hp.1; omega), aBl h0 (by omega)]; simp
    ·rw [decide_eq_false h0]; simp
  ·rw [List.any_cons, Bool.or_assoc]
theorem aIS {p t : dC} (ht : One t) (hp : eA p) : aAA t p = some (rZ p (tx t)) := by
 obtain ⟨n, hn⟩ : ∃ n : Nat, p.States = (n : Int) := ⟨p.States.toNat, by have := hp.1; omega⟩
 have hn40 : n ≤ 40 := by have := hp.1; omega
 have h300 := ht.len
 have hLe : tx t = [] ↔ t.Edges = [] := by unfold tx; simp
 unfold aAA
 rw [ht.one, Int.one_mul, gR (by have := hp.1; omega) (by have := hp.1; omega), hn, aEi _ (by simp [nX]; omega), aK]
 have hfill := kM (step := fun s : List Bool × Int => pE s.1 s.2) n (fun k (m : List Bool) => (m, (k : Int))) (fun _ _ => List.replicate n true) (fun k m => m.length = n ∧ m.take k = List.replicate k true) (fun k m hk hI => ?_) (fun m hI => ?_) n 0 (List.replicate n false) (by omega) ⟨by simp, by simp⟩
 ·rw [show (0 : Int) = ((0 : Nat) : Int) from rfl, hfill, aK]
  unfold sH
  have hG0 : GS p (tx t) (List.replicate n true) := ⟨by simp [hn], fun q hq => by rw [List.getElem?_replicate] at hq; split at hq <;> cases hq⟩
  have hset := aAe (α := List Bool) id (step := fun s : List Bool × Bool => sG t p s.1 s.2) true (GS p (tx t)) (CS p (tx t)) (fun m hG => ?_) (fun m => rfl) n (List.replicate n true) (by simp) hG0
  ·obtain ⟨m, hl, hG, hC⟩ := hset
   simp only [id] at hl
   rw [hl, aK, uE, hG.row hC]
  ·have hpass := zK (step := fun s : List Bool × Bool × Int => pD t p 0 t.Edges s.1 s.2.1 s.2.2) n (fun q (a : List Bool × Bool) => (a.1, a.2, (q : Int)))
    (fun q a => Adv true (GS p (tx t)) m a.1 a.2 ∧ (a.2 = false → ∀ q', q' < q → m[q']? = some true → tx t = [] ∨ stB p (tx t) m (q' : Int) = true)) (fun r => Adv true (GS p (tx t)) m r.1 r.2 ∧ (r.2 = false → CS p (tx t) m)) (fun q a hq hI => ?_) (fun a hI => ?_) n 0 (m, false) (by omega) ⟨Adv.refl hG, fun _ q' h => by omega⟩
   ·obtain ⟨r, hr, hA, hc⟩ := hpass
    refine ⟨r.1, r.2, ?_, hA, hc⟩
    simp only [id, sG, if_pos]
    have s0 : mL t p m false 0 = some (.inl (r.1, r.2, 1)) := by
     simp only [mL, ht.one]
     rw [if_pos (by decide), l11Out_eq t 0 (by omega), aK, aBm ht]
     rw [show (0 : Int) = ((0 : Nat) : Int) from rfl] at hr ⊢
     rw [hr]; rfl
    have s1 : mL t p r.1 r.2 1 = some (.inr (r.1, r.2)) := by
     simp only [mL, ht.one]; rfl
    rw [bS, s0]
    simp only
    rw [bS, s1]; rfl
   ·obtain ⟨m', ag⟩ := a
    obtain ⟨hI1, hI2⟩ := hI
    simp only at hI1 hI2
    have hlen := hI1.good.1
    rw [hn, Int.toNat_natCast] at hlen
    have hqm : q < m'.length := by omega
    simp only [pD, hn, cV hq, if_pos, at0 (x := (n : Int)) (y := (q : Int)) (by omega) (by omega), dJ hqm, aK, kJ, cN hq (show n < 4611686018427387904 by omega)]
    have hkeep : (m'[q]? = some true → tx t = [] ∨ stB p (tx t) m' (q : Int) = true) → ∃ a' : List Bool × Bool, (some (.inl (m', ag, ((q + 1 : Nat) : Int))) : Option ((List Bool × Bool × Int) ⊕ (List Bool × Bool))) = some (.inl (a'.1, a'.2, ((q + 1 : Nat) : Int))) ∧ Adv true (GS p (tx t)) m a'.1 a'.2 ∧ (a'.2 = false → ∀ q', q' < q + 1 → m[q']? = some true → tx t = [] ∨ stB p (tx t) m (q' : Int) = true) := by
     intro hk
     refine ⟨(m', ag), rfl, hI1, fun hf q' hq' => ?_⟩
     by_cases hqq : q' < q
     ·exact hI2 hf q' hqq
     ·obtain rfl : q' = q := by omega
      rw [← hI1.eq hf]; exact hk
    cases hm : m'[q] with
    | false =>
     simp only [Bool.not_false, if_pos, pC, kJ, cN hq (show n < 4611686018427387904 by omega)]
     exact hkeep fun h => by rw [List.getElem?_eq_getElem hqm, hm] at h; cases h
    | true =>
     simp only [Bool.not_true, Bool.false_eq_true, if_false, pC, kJ, cN hq (show n < 4611686018427387904 by omega)]
     by_cases h0 : t.Edges.length = 0
     ·rw [if_pos (by simp [h0])]
      exact hkeep fun _ => .inl (hLe.2 (List.length_eq_zero_iff.1 h0))
     ·rw [if_neg (by simpa using h0), stay_any ht hp (by rw [hn]; simpa using hlen), aK]
      simp only [uF, hn, at0 (x := (n : Int)) (y := (q : Int)) (by omega) (by omega), dJ hqm, aAc _ hqm, aK, kJ, cN hq (show n < 4611686018427387904 by omega)]
      cases hb : stB p (tx t) m' (q : Int) with
      | true =>
       simp only [Bool.not_true, Bool.false_eq_true, if_false]
       exact hkeep fun _ => .inr hb
      | false =>
       simp only [Bool.not_false, if_pos]
       have hmq : m'[q]? = some true := by rw [List.getElem?_eq_getElem hqm, hm]
       exact ⟨(m'.set q false, true), rfl, hI1.flip hmq (hI1.good.flip hmq (fun e => h0 (by rw [hLe.1 e]; rfl)) hp hb), fun h => by cases h⟩
   ·refine ⟨a, by simp only [pD, hn, cJ]; rfl, hI.1, fun hf q hq => ?_⟩
    have hl : q < m.length := (List.getElem?_eq_some_iff.1 hq).1
    exact hI.2 hf q (by have := hG.1; omega) hq
 ·left
  refine ⟨m.set k true, ?_, ⟨by simp [hI.1], ?_⟩, rfl⟩
  ·simp only [pE, hI.1, cV hk, if_pos, dJ (xs := m) (k := k) (by omega), aAc (xs := m) (k := k) _ (by omega), aK, cN hk (show n < 4611686018427387904 by omega)]
  ·rw [List.take_add_one, List.take_set_of_le (Nat.le_refl _), hI.2, List.replicate_succ']
   simp [hI.1, hk]
 ·have h1 := hI.2
  rw [List.take_of_length_le (by omega)] at h1
  simp only [pE, hI.1, cJ]
  rw [h1]; rfl
end Gv
namespace Gv
open Go
theorem aGz (b : Bool) (n : Nat) (h1 : 1 ≤ n) (h : n ≤ 1000) : eM [b] (n : Int) = some (List.replicate n b) := by
 unfold eM
 rw [if_neg (by simp)]
 unfold gI
 have hm : l_Mul (aDO (([b] : List Bool).length : Int)) (aDO (n : Int)) = some (0, (n : Int)) := by
  have e1 : aDO (([b] : List Bool).length : Int) = 1 := by simp [aDO]
  have e2 : aDO (n : Int) = (n : Int) := by unfold aDO; omega
  rw [e1, e2]; unfold l_Mul
  rw [if_pos ⟨by omega, by omega, by omega, by omega⟩]
  simp only [Int.one_mul, Option.some.injEq, Prod.mk.injEq]
  omega
 rw [hm, aK]
 simp only
 rw [if_neg (by simp), decide_eq_false (p := (9223372036854775807 : Int) < (n : Int)) (by omega)]
 unfold eW
 rw [if_neg (by simp)]
 unfold gH
 simp only
 rw [gR (by omega) (by omega), aEi _ (by simp [nX]; omega), aK]
 have hmin : Nat.min ([b] : List Bool).length (List.replicate n false).length = 1 := by
  show min _ _ = 1
  simp; omega
 rw [hmin]
 have ho : ovw (List.replicate n false) 0 (([b] : List Bool).take 1) = some (b :: List.replicate (n - 1) false) := by
  unfold ovw
  rw [if_pos ⟨by omega, by simp; omega⟩]
  simp
 rw [ho, aK]
 have hL := aBF (step := fun s : List Bool × Int => eV s.1 s.2) (fun s => 1 ≤ s.2 ∧ s.2 ≤ n ∧ s.1.length = n ∧ s.1.take s.2.toNat = List.replicate s.2.toNat b) (fun s => (n - s.2).toNat) (fun r => r = List.replicate n b) (fun s hI => ?_) (s := (b :: List.replicate (n - 1) false, 1)) ⟨by simp, by simp only; omega, by simp; omega, by simp⟩
 ·obtain ⟨r, hr, hR⟩ := hL
  rw [show (((1 : Nat) : Int)) = 1 from rfl, hr, aK, hR]; rfl
 ·obtain ⟨m, i⟩ := s
  obtain ⟨h1, h2, h3, h4⟩ := hI
  simp only at h1 h2 h3 h4 ⊢
  obtain ⟨k, rfl⟩ : ∃ k : Nat, i = (k : Int) := ⟨i.toNat, by omega⟩
  rw [Int.toNat_natCast] at h4
  unfold eV
  by_cases hk : k < n
  ·left
   have s1 : vY m (k : Int) (m.length : Int) = some (m.drop k) := by
    unfold vY; rw [if_pos ⟨by omega, by omega, by omega⟩]
    rw [Int.toNat_natCast, Int.toNat_natCast, List.take_of_length_le (by simp)]
   have s2 : vY m 0 (k : Int) = some (m.take k) := by
    unfold vY; rw [if_pos ⟨by omega, by omega, by omega⟩]; simp
   rw [h3] at s1 ⊢
   rw [if_pos (cV hk), s1, aK, s2, aK, h4]
   have hl : (m.drop k).length = n - k := by simp [h3]
   rw [hl, List.length_replicate]
   generalize hd : Nat.min k (n - k) = d
   have hd1 : d ≤ k ∧ d ≤ n - k ∧ 1 ≤ d := by
    have : Nat.min k (n - k) = min k (n - k) := rfl
    omega
   have hov : ovw m (k : Int) ((List.replicate k b).take d) = some (List.replicate (k + d) b ++ m.drop (k + d)) := by
    unfold ovw
    have hl2 : ((List.replicate k b).take d).length = d := by simp; omega
    rw [if_pos ⟨by omega, by rw [hl2, Int.toNat_natCast]; omega⟩, hl2, Int.toNat_natCast, h4, List.take_replicate]
    rw [show min d k = d by omega, List.replicate_append_replicate]
   rw [hov, aK]
   have hw : wr ((k : Int) + ((d : Nat) : Int)) = ((k + d : Nat) : Int) := by rw [gR (by omega) (by omega)]; omega
   rw [hw]
   refine ⟨_, rfl, ⟨by simp only; omega, by simp only; omega, by simp [h3]; omega, ?_⟩, by simp only; omega⟩
   simp only [Int.toNat_natCast]
   rw [List.take_append_of_le_length (by simp), List.take_of_length_le (by simp)]
  ·right
   obtain rfl : k = n := by omega
   rw [h3, if_neg (by simp)]
   rw [List.take_of_length_le (by omega)] at h4
   exact ⟨_, rfl, h4⟩
theorem has_eq {m : List Bool} {w : Int} (h : w.toNat < m.length) (h' : 0 < m.length) : iI 0 w [m] = some (decide (0 ≤ w) && m.getD w.toNat false) := by
 unfold iI
 by_cases h0 : 0 ≤ w
 ·rw [if_pos (by simpa using h0), show ix [m] 0 = some m from rfl, aK, aBl h0 h, aK, decide_eq_true h0]; rfl
 ·rw [if_neg (by simpa using h0), decide_eq_false h0]; rfl
theorem anyL_eq {m : List Bool} {w : Int} {a : Bool} (h : w.toNat < m.length) (h' : 0 < m.length) : jU 0 w a [m] = some (a || (decide (w < 0) || m.getD w.toNat false)) := by
 unfold jU kK
 cases a with
 | true => rfl
 | false =>
  simp only [Bool.false_eq_true, if_false, Bool.false_or]
  by_cases h0 : w < 0
  ·rw [if_pos (by simpa using h0), decide_eq_true h0]; rfl
  ·rw [if_neg (by simpa using h0), decide_eq_false h0, has_eq h h', decide_eq_true (p := 0 ≤ w) (by omega)]; rfl
theorem anyS_eq {m : List Bool} {w : Int} {a : Bool} (h : w.toNat < m.length) (h' : 0 < m.length) : iL 0 w a [m] = some (a || (decide (0 ≤ w) && m.getD w.toNat false)) := by
 unfold iL
 cases a with
 | true => rfl
 | false =>
  simp only [Bool.false_eq_true, if_false, Bool.false_or]
  rw [has_eq h h']; rfl
theorem movesL_eq {t p : dC} (ht : One t) (hp : eA p) (hps : jI p) {m : List Bool} (hm : m.length = p.States.toNat) (q : Nat) : nF ⟨t, p⟩ 0 (q : Int) false [m] = some (lvB p (tx t) m (q : Int)) := by
 have h300 := ht.len
 have hp1 := hp.1
 unfold nF
 rw [out_eq _ _ (by simp only; omega), aK]
 simp only
 rw [aBm ht, aCt]
 have := rR (step := fun s : Bool × Int => iY ⟨t, p⟩ (q : Int) [m] t.Edges s.1 s.2) t.Edges (fun k (b : Bool) => (b, (k : Int))) (fun l b => b || l.any fun e => decide (vK p (q : Int) (txt t e) < 0) || m.getD (vK p (q : Int) (txt t e)).toNat false) (fun _ _ => True) (fun k a e l hk hx _ => ?_) (fun a _ => by simp only [iY, cJ]; simp) (a := false) trivial
 ·rw [show (0 : Int) = ((0 : Nat) : Int) from rfl, this, aK, Bool.false_or]; rfl
 ·left
  obtain ⟨hk', rfl⟩ := zI hx
  have hem : t.Edges[k] ∈ t.Edges := List.getElem_mem hk
  obtain ⟨e1, e2, e3, e4, _⟩ := ht.edge hem
  have hgo := aBk hp (q : Int) (txt t t.Edges[k])
  refine ⟨_, ?_, trivial, by rw [List.any_cons, ← Bool.or_assoc]⟩
  simp only [iY, cV hk, if_pos, hx, aK, kF, e2, e4, aHg hp hps, cN hk (show t.Edges.length < 4611686018427387904 by omega)]
  rw [if_neg (by simpa using e3), anyL_eq (by omega) (by omega), aK]
theorem movesS_eq {t p : dC} (ht : One t) (hp : eA p) (hps : jI p) {m : List Bool} (hm : m.length = p.States.toNat) (q : Nat) : kH ⟨t, p⟩ 0 (q : Int) false [m] = some (stB p (tx t) m (q : Int)) := by
 have h300 := ht.len
 have hp1 := hp.1
 unfold kH
 rw [out_eq _ _ (by simp only; omega), aK]
 simp only
 rw [aBm ht, aGy]
 have := rR (step := fun s : Bool × Int => gN ⟨t, p⟩ (q : Int) [m] t.Edges s.1 s.2) t.Edges (fun k (b : Bool) => (b, (k : Int))) (fun l b => b || l.any fun e => decide (0 ≤ vK p (q : Int) (txt t e)) && m.getD (vK p (q : Int) (txt t e)).toNat false) (fun _ _ => True) (fun k a e l hk hx _ => ?_) (fun a _ => by simp only [gN, cJ]; simp) (a := false) trivial
 ·rw [show (0 : Int) = ((0 : Nat) : Int) from rfl, this, aK, Bool.false_or]; rfl
 ·left
  obtain ⟨hk', rfl⟩ := zI hx
  have hem : t.Edges[k] ∈ t.Edges := List.getElem_mem hk
  obtain ⟨e1, e2, e3, e4, _⟩ := ht.edge hem
  have hgo := aBk hp (q : Int) (txt t t.Edges[k])
  refine ⟨_, ?_, trivial, by rw [List.any_cons, ← Bool.or_assoc]⟩
  simp only [gN, cV hk, if_pos, hx, aK, iW, e2, e4, aHg hp hps, cN hk (show t.Edges.length < 4611686018427387904 by omega)]
  rw [if_neg (by simpa using e3), anyS_eq (by omega) (by omega), aK]
theorem aId {t p : dC} (ht : One t) (hp : eA p) (hps : jI p) {m : List Bool} (hm : m.length = p.States.toNat) (q : Nat) : kG 0 (q : Int) [m] ⟨t, p⟩ = some (lvB p (tx t) m (q : Int)) := by
 unfold kG vA
 rw [movesL_eq ht hp hps hm]; rfl
theorem aIT {t p : dC} (ht : One t) (hp : eA p) (hps : jI p) {m : List Bool} (hm : m.length = p.States.toNat) (q : Nat) : kY 0 (q : Int) [m] ⟨t, p⟩ = some (decide (0 < t.Edges.length) && !stB p (tx t) m (q : Int)) := by
 have h300 := ht.len
 unfold kY pW
 rw [out_eq _ _ (by simp only; omega), aK]
 simp only
 rw [aBm ht, movesS_eq ht hp hps hm]
 by_cases h0 : 0 < t.Edges.length
 ·rw [if_pos (by simp only [decide_eq_true_eq]; omega), decide_eq_true h0]; rfl
 ·rw [if_neg (by simp only [decide_eq_true_eq]; omega), decide_eq_false h0]; rfl
theorem leave_eq {t p : dC} (ht : One t) (hp : eA p) (hps : jI p) : nG ⟨t, p⟩ = some [rY p (tx t)] := by
 obtain ⟨n, hn⟩ : ∃ n : Nat, p.States = (n : Int) := ⟨p.States.toNat, by have := hp.1; omega⟩
 have hn40 : 1 ≤ n ∧ n ≤ 40 := by have := hp.1; omega
 unfold nG pV
 simp only
 rw [ht.one, show mkz 1 ([] : List Bool) = some [[]] from rfl, aK]
 have sf0 : gW ⟨t, p⟩ false [[]] [[]] 0 = some (.inl ([List.replicate n false], 1)) := by
  simp only [gW, hn, aGz false n hn40.1 (by omega)]; rfl
 have sf1 : gW ⟨t, p⟩ false [[]] [List.replicate n false] 1 = some (.inr [List.replicate n false]) := rfl
 rw [bS, sf0]; simp only
 rw [bS, sf1]; simp only [aK, jD]
 have hG0 : GL p (tx t) (List.replicate n false) := ⟨by simp [hn], fun q hq => by rw [List.getElem?_replicate] at hq; split at hq <;> cases hq⟩
 have hset := aAe (α := List (List Bool)) (fun m => [m]) (step := fun s : List (List Bool) × Bool => jC false ⟨t, p⟩ s.1 s.2) false (GL p (tx t)) (CL p (tx t)) (fun m hG => ?_) (fun m => rfl) n (List.replicate n false) (by simp) hG0
 ·obtain ⟨m, hl, hG, hC⟩ := hset
  rw [hl, aK, jO, hG.row hp hC]; rfl
 ·have hml : m.length = n := by have := hG.1; omega
  have hpass := zK (step := fun s : List (List Bool) × Bool × Int => iJ false ⟨t, p⟩ 0 m s.1 s.2.1 s.2.2) n (fun q (a : List Bool × Bool) => ([a.1], a.2, (q : Int)))
   (fun q a => Adv false (GL p (tx t)) m a.1 a.2 ∧ (a.2 = false → ∀ q', q' < q → m[q']? = some false → lvB p (tx t) m (q' : Int) = false)) (fun r => ∃ m', r.1 = [m'] ∧ Adv false (GL p (tx t)) m m' r.2 ∧ (r.2 = false → CL p (tx t) m)) (fun q a hq hI => ?_) (fun a hI => ?_) n 0 (m, false) (by omega) ⟨Adv.refl hG, fun _ q' h => by omega⟩
  ·obtain ⟨r, hr, m', he, hA, hc⟩ := hpass
   refine ⟨m', r.2, ?_, hA, hc⟩
   simp only [jC, if_pos]
   have s0 : iK false ⟨t, p⟩ [m] [m] false 0 = some (.inl ([m'], r.2, 1)) := by
    simp only [iK, show ix [m] 0 = some m from rfl, aK]
    rw [if_pos (by simp)]
    rw [show (0 : Int) = ((0 : Nat) : Int) from rfl] at hr ⊢
    rw [hr, aK, ← he]; rfl
   have s1 : iK false ⟨t, p⟩ [m] [m'] r.2 1 = some (.inr ([m'], r.2)) := rfl
   rw [bS, s0]
   simp only
   rw [bS, s1]; rfl
  ·obtain ⟨m', ag⟩ := a
   obtain ⟨hI1, hI2⟩ := hI
   simp only at hI1 hI2
   have hlen := hI1.good.1
   rw [hn, Int.toNat_natCast] at hlen
   have hqm : q < m'.length := by omega
   have hkeep : (m'[q]? = some false → lvB p (tx t) m' (q : Int) = false) → ∃ a' : List Bool × Bool, (some (.inl ([m'], ag, ((q + 1 : Nat) : Int))) : Option ((List (List Bool) × Bool × Int) ⊕ (List (List Bool) × Bool))) = some (.inl ([a'.1], a'.2, ((q + 1 : Nat) : Int))) ∧ Adv false (GL p (tx t)) m a'.1 a'.2 ∧ (a'.2 = false → ∀ q', q' < q + 1 → m[q']? = some false → lvB p (tx t) m (q' : Int) = false) := by
    intro hk
    refine ⟨(m', ag), rfl, hI1, fun hf q' hq' => ?_⟩
    by_cases hqq : q' < q
    ·exact hI2 hf q' hqq
    ·obtain rfl : q' = q := by omega
     rw [← hI1.eq hf]; exact hk
   simp only [iJ, hml, cV hq, if_pos, show ix [m'] 0 = some m' from rfl, dJ hqm, aK, aId ht hp hps (m := m') (by rw [hn]; simpa using hlen), jQ, jP, cN hq (show n < 4611686018427387904 by omega), aAc _ hqm]
   cases hm : m'[q] with
   | true =>
    simp only [show ((true == false) = true) = False by simp, if_false, Bool.false_eq_true]
    exact hkeep fun h => by rw [List.getElem?_eq_getElem hqm, hm] at h; cases h
   | false =>
    simp only [BEq.rfl, if_pos]
    cases hb : lvB p (tx t) m' (q : Int) with
    | false =>
     simp only [Bool.false_eq_true, if_false]
     exact hkeep fun _ => hb
    | true =>
     have hmq : m'[q]? = some false := by rw [List.getElem?_eq_getElem hqm, hm]
     exact ⟨(m'.set q true, true), rfl, hI1.flip hmq (hI1.good.flip hmq hb), fun h => by cases h⟩
  ·refine ⟨([a.1], a.2), by simp only [iJ, hml, cJ]; rfl, a.1, rfl, hI.1, fun hf q hq => ?_⟩
   have hl : q < m.length := (List.getElem?_eq_some_iff.1 hq).1
   exact hI.2 hf q (by omega) hq
theorem stay_eq {t p : dC} (ht : One t) (hp : eA p) (hps : jI p) : oQ ⟨t, p⟩ = some [rZ p (tx t)] := by
 obtain ⟨n, hn⟩ : ∃ n : Nat, p.States = (n : Int) := ⟨p.States.toNat, by have := hp.1; omega⟩
 have hn40 : 1 ≤ n ∧ n ≤ 40 := by have := hp.1; omega
 have hLe : tx t = [] ↔ t.Edges = [] := by unfold tx; simp
 unfold oQ mB
 simp only
 rw [ht.one, show mkz 1 ([] : List Bool) = some [[]] from rfl, aK]
 have sf0 : fT ⟨t, p⟩ true [[]] [[]] 0 = some (.inl ([List.replicate n true], 1)) := by
  simp only [fT, hn, aGz true n hn40.1 (by omega)]; rfl
 have sf1 : fT ⟨t, p⟩ true [[]] [List.replicate n true] 1 = some (.inr [List.replicate n true]) := rfl
 rw [bS, sf0]; simp only
 rw [bS, sf1]; simp only [aK, gZ]
 have hG0 : GS p (tx t) (List.replicate n true) := ⟨by simp [hn], fun q hq => by rw [List.getElem?_replicate] at hq; split at hq <;> cases hq⟩
 have hset := aAe (α := List (List Bool)) (fun m => [m]) (step := fun s : List (List Bool) × Bool => gY true ⟨t, p⟩ s.1 s.2) true (GS p (tx t)) (CS p (tx t)) (fun m hG => ?_) (fun m => rfl) n (List.replicate n true) (by simp) hG0
 ·obtain ⟨m, hl, hG, hC⟩ := hset
  rw [hl, aK, iM, hG.row hC]; rfl
 ·have hml : m.length = n := by have := hG.1; omega
  have hpass := zK (step := fun s : List (List Bool) × Bool × Int => gE true ⟨t, p⟩ 0 m s.1 s.2.1 s.2.2) n (fun q (a : List Bool × Bool) => ([a.1], a.2, (q : Int)))
   (fun q a => Adv true (GS p (tx t)) m a.1 a.2 ∧ (a.2 = false → ∀ q', q' < q → m[q']? = some true → tx t = [] ∨ stB p (tx t) m (q' : Int) = true)) (fun r => ∃ m', r.1 = [m'] ∧ Adv true (GS p (tx t)) m m' r.2 ∧ (r.2 = false → CS p (tx t) m)) (fun q a hq hI => ?_) (fun a hI => ?_) n 0 (m, false) (by omega) ⟨Adv.refl hG, fun _ q' h => by omega⟩
  ·obtain ⟨r, hr, m', he, hA, hc⟩ := hpass
   refine ⟨m', r.2, ?_, hA, hc⟩
   simp only [gY, if_pos]
   have s0 : gF true ⟨t, p⟩ [m] [m] false 0 = some (.inl ([m'], r.2, 1)) := by
    simp only [gF, show ix [m] 0 = some m from rfl, aK]
    rw [if_pos (by simp)]
    rw [show (0 : Int) = ((0 : Nat) : Int) from rfl] at hr ⊢
    rw [hr, aK, ← he]; rfl
   have s1 : gF true ⟨t, p⟩ [m] [m'] r.2 1 = some (.inr ([m'], r.2)) := rfl
   rw [bS, s0]
   simp only
   rw [bS, s1]; rfl
  ·obtain ⟨m', ag⟩ := a
   obtain ⟨hI1, hI2⟩ := hI
   simp only at hI1 hI2
   have hlen := hI1.good.1
   rw [hn, Int.toNat_natCast] at hlen
   have hqm : q < m'.length := by omega
   have hkeep : (m'[q]? = some true → tx t = [] ∨ stB p (tx t) m' (q : Int) = true) → ∃ a' : List Bool × Bool, (some (.inl ([m'], ag, ((q + 1 : Nat) : Int))) : Option ((List (List Bool) × Bool × Int) ⊕ (List (List Bool) × Bool))) = some (.inl ([a'.1], a'.2, ((q + 1 : Nat) : Int))) ∧ Adv true (GS p (tx t)) m a'.1 a'.2 ∧ (a'.2 = false → ∀ q', q' < q + 1 → m[q']? = some true → tx t = [] ∨ stB p (tx t) m (q' : Int) = true) := by
    intro hk
    refine ⟨(m', ag), rfl, hI1, fun hf q' hq' => ?_⟩
    by_cases hqq : q' < q
    ·exact hI2 hf q' hqq
    ·obtain rfl : q' = q := by omega
     rw [← hI1.eq hf]; exact hk
   simp only [gE, hml, cV hq, if_pos, show ix [m'] 0 = some m' from rfl, dJ hqm, aK, aIT ht hp hps (m := m') (by rw [hn]; simpa using hlen), iO, iN, cN hq (show n < 4611686018427387904 by omega), aAc _ hqm]
   cases hm : m'[q] with
   | false =>
    simp only [show ((false == true) = true) = False by simp, if_false, Bool.false_eq_true]
    exact hkeep fun h => by rw [List.getElem?_eq_getElem hqm, hm] at h; cases h
   | true =>
    simp only [BEq.rfl, if_pos]
    by_cases h0 : t.Edges = []
    ·have : (decide (0 < t.Edges.length) && !stB p (tx t) m' (q : Int)) = false := by rw [h0]; rfl
     rw [this]
     simp only [Bool.false_eq_true, if_false]
     exact hkeep fun _ => .inl (hLe.2 h0)
    ·have hd : decide (0 < t.Edges.length) = true := by simpa using List.length_pos_iff.2 h0
     rw [hd, Bool.true_and]
     cases hb : stB p (tx t) m' (q : Int) with
     | true =>
      simp only [Bool.not_true, Bool.false_eq_true, if_false]
      exact hkeep fun _ => .inr hb
     | false =>
      have hmq : m'[q]? = some true := by rw [List.getElem?_eq_getElem hqm, hm]
      exact ⟨(m'.set q false, true), rfl, hI1.flip hmq (hI1.good.flip hmq (fun e => h0 (hLe.1 e)) hp hb), fun h => by cases h⟩
  ·refine ⟨([a.1], a.2), by simp only [gE, hml, cJ]; rfl, a.1, rfl, hI.1, fun hf q hq => ?_⟩
   have hl : q < m.length := (List.getElem?_eq_some_iff.1 hq).1
   exact hI.2 hf q (by omega) hq
end Gv
