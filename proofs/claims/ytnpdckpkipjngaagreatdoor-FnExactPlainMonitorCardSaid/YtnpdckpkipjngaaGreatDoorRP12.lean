/- Taking out repetitions, as slices.Compact does; the system made out of labels and arcs. -/
import Derived.Test.YtnpdckpkipjngaaGreatDoorRP11
set_option linter.all false
namespace Gv
open Go
theorem aFH {α : Type} [DecidableEq α] (x y : α) : ∀ xs : List α, mT (xs ++ [x, y]) = if x = y then mT (xs ++ [x]) else mT (xs ++ [x]) ++ [y]
 | [] => by
  simp only [List.nil_append, mT]
  by_cases h : x = y <;> simp [h]
 | [a] => by
  simp only [List.cons_append, List.nil_append, mT]
  by_cases h : x = y <;> by_cases h2 : a = x <;> simp [h, h2]
 | a :: b :: l => by
  have ih := aFH x y (b :: l)
  simp only [List.cons_append] at ih ⊢
  unfold mT
  by_cases h2 : a = b
  ·rw [if_pos h2, if_pos h2]; exact ih
  ·rw [if_neg h2, if_neg h2, ih]
   by_cases h : x = y <;> simp [h]
theorem aFI {α : Type} [DecidableEq α] {s : List α} {m : Nat} (h1 : 1 ≤ m) (hm : m < s.length) : mT (s.take (m + 1)) = if s[m - 1]'(by omega) = s[m] then mT (s.take m) else mT (s.take m) ++ [s[m]] := by
 obtain ⟨k, rfl⟩ : ∃ k, m = k + 1 := ⟨m - 1, by omega⟩
 have e1 : s.take (k + 1) = s.take k ++ [s[k]] := by rw [List.take_add_one]; simp [show k < s.length by omega]
 have e2 : s.take (k + 1 + 1) = s.take k ++ [s[k], s[k + 1]] := by rw [List.take_add_one, e1, List.getElem?_eq_getElem hm, List.append_assoc]; rfl
 rw [e2, e1, aFH]; rfl
theorem aGd {α : Type} [DecidableEq α] {step : (List α × Int × Int) → Option ((List α × Int × Int) ⊕ (List α × Int))} (s : List α) (k : Nat) (h1 : 1 ≤ k) (hk : k < s.length) (hd : mT (s.take (k + 1)) = s.take k)
  (hst : ∀ (j w : Nat) s' x y, 1 ≤ j → k + j < s.length → s'.length = s.length → w < s.length → s'[k + j]? = some x → s'[k + j - 1]? = some y → step (s', (w : Int), (j : Int)) = some (.inl (if x = y then (s', (w : Int), ((j + 1 : Nat) : Int)) else (s'.set w x, ((w + 1 : Nat) : Int), ((j + 1 : Nat) : Int)))))
  (hen : ∀ s' w, step (s', w, ((s.length - k : Nat) : Int)) = some (.inr (s', w))) : ∃ s' w, loop step (s, (k : Int), 1) = some (s', ((w : Nat) : Int)) ∧ s'.length = s.length ∧ w ≤ s.length ∧ s'.take w = mT s := by
 have := zK (step := step) (s.length - k) (fun j (a : List α × Nat) => (a.1, (a.2 : Int), (j : Int))) (fun j a => 1 ≤ j ∧ a.1.length = s.length ∧ a.2 ≤ k + j - 1 ∧ a.1.take a.2 = mT (s.take (k + j)) ∧ ∀ i, k + j - 1 ≤ i → a.1[i]? = s[i]?)
  (fun r => ∃ w : Nat, r.2 = (w : Int) ∧ r.1.length = s.length ∧ w ≤ s.length ∧ r.1.take w = mT s) (fun j a hj hI => ?_) (fun a hI => ?_) (s.length - k - 1) 1 (s, k) (by omega) ⟨Nat.le_refl _, rfl, by simp only; omega, by simp only; rw [hd], fun i _ => rfl⟩
 ·obtain ⟨⟨s', w⟩, hr, w', hw, h2, h3, h4⟩ := this
  simp only at hw h2 h3 h4
  subst hw
  exact ⟨s', w', hr, h2, h3, h4⟩
 ·obtain ⟨s', w⟩ := a
  obtain ⟨i1, i2, i3, i4, i5⟩ := hI
  simp only at i2 i3 i4 i5
  have hkj : k + j < s.length := by omega
  have hx : s'[k + j]? = some s[k + j] := by rw [i5 _ (by omega), List.getElem?_eq_getElem hkj]
  have hy : s'[k + j - 1]? = some (s[k + j - 1]'(by omega)) := by rw [i5 _ (by omega), List.getElem?_eq_getElem (by omega)]
  have hst' := hst j w s' _ _ i1 hkj i2 (by omega) hx hy
  have hdt := aFI (s := s) (m := k + j) (by omega) hkj
  by_cases e : s[k + j] = s[k + j - 1]'(by omega)
  ·rw [if_pos e] at hst'
   rw [if_pos e.symm] at hdt
   refine ⟨(s', w), hst', by omega, i2, by simp only; omega, ?_, fun i hi => i5 i (by omega)⟩
   simp only; rw [i4, ← Nat.add_assoc, hdt]
  ·rw [if_neg e] at hst'
   rw [if_neg (fun h => e h.symm)] at hdt
   refine ⟨(s'.set w s[k + j], w + 1), hst', by omega, by simp [i2], by simp only; omega, ?_, fun i hi => ?_⟩
   ·simp only
    rw [← Nat.add_assoc, hdt, ← i4, List.take_add_one, List.take_set_of_le (Nat.le_refl _)]
    simp [show w < s'.length by omega]
   ·simp only
    rw [List.getElem?_set_ne (by omega)]
    exact i5 i (by omega)
 ·obtain ⟨s', w⟩ := a
  obtain ⟨i1, i2, i3, i4, i5⟩ := hI
  simp only at i2 i3 i4 i5
  refine ⟨_, hen s' _, w, rfl, i2, by omega, ?_⟩
  simp only
  rw [i4, List.take_of_length_le (by omega)]
theorem slc_to {α : Type} {s : List α} {w : Nat} (h : w ≤ s.length) : vY s 0 (w : Int) = some (s.take w) := by
 unfold vY; rw [if_pos ⟨by omega, by omega, by omega⟩]; simp
theorem aFJ {α : Type} {s : List α} {w : Nat} (h : w ≤ s.length) : vY s (w : Int) (s.length : Int) = some (s.drop w) := by
 unfold vY; rw [if_pos ⟨by omega, by omega, by omega⟩]
 rw [Int.toNat_natCast, Int.toNat_natCast, List.take_of_length_le (by simp)]
theorem aIU {α : Type} {s : List α} {w : Nat} (z : α) (h : w ≤ s.length) : ovw s (w : Int) (List.replicate (s.drop w).length z) = some (s.take w ++ List.replicate (s.length - w) z) := by
 unfold ovw
 rw [if_pos ⟨by omega, by simp; omega⟩]
 simp
 omega
theorem aIe {σ ρ α : Type} {step : σ → Option (σ ⊕ ρ)} (n : Nat) (g : Nat → α → σ) (I : Nat → α → Prop) (R : ρ → Prop)
  (h : ∀ k a, k < n → I k a → (∃ a', step (g k a) = some (.inl (g (k + 1) a')) ∧ I (k + 1) a') ∨ ∃ r, step (g k a) = some (.inr r) ∧ R r)
  (h' : ∀ a, I n a → ∃ r, step (g n a) = some (.inr r) ∧ R r) : ∀ j k a, k + j = n → I k a → ∃ r, loop step (g k a) = some r ∧ R r
 | 0, k, a, e, hI => by
  obtain rfl : k = n := by omega
  obtain ⟨r, h1, h2⟩ := h' a hI
  exact ⟨r, by rw [bS, h1], h2⟩
 | j + 1, k, a, e, hI => by
  rcases h k a (by omega) hI with ⟨a', h1, h2⟩ | ⟨r, h1, h2⟩
  ·rw [bS, h1]
   exact aIe n g I R h h' j (k + 1) a' (by omega) h2
  ·exact ⟨r, by rw [bS, h1], h2⟩
theorem aIf (s : List bF) (h : s.length < 1000000000) : eI s = some (mT s) := by
 unfold eI
 by_cases h2 : s.length < 2
 ·rw [if_pos (by simp; omega)]
  rcases s with _ | ⟨a, _ | ⟨b, l⟩⟩
  ·rfl
  ·rfl
  ·simp at h2; omega
 rw [if_neg (by simp; omega)]
 have := aIe (step := fun k => dH s k) s.length (fun k (_ : Unit) => (k : Int)) (fun k _ => 1 ≤ k ∧ mT (s.take k) = s.take k) (fun r => r = .inr (mT s) ∨ (r = .inl () ∧ mT s = s)) (fun k a hk hI => ?_) (fun a hI => ?_) (s.length - 1) 1 () (by omega) ⟨Nat.le_refl _, ?_⟩
 ·obtain ⟨r, hr, hR⟩ := this
  rw [show (1 : Int) = ((1 : Nat) : Int) from rfl, hr, aK]
  rcases hR with rfl | ⟨rfl, h⟩
  ·rfl
  ·rw [h]; rfl
 ·obtain ⟨i1, i2⟩ := hI
  have hk1 : wr ((k : Int) - 1) = ((k - 1 : Nat) : Int) := by rw [gR (by omega) (by omega)]; omega
  have hdt := aFI (s := s) (m := k) i1 hk
  simp only [dH, cV hk, if_pos, dJ hk, aK, hk1, dJ (xs := s) (k := k - 1) (by omega), fA, cN hk (show s.length < 4611686018427387904 by omega)]
  by_cases e : s[k] = s[k - 1]'(by omega)
  ·right
   rw [if_pos e.symm, i2] at hdt
   rw [if_pos (by simpa using e), aFJ (by omega), aK]
   obtain ⟨s', w, hl, g1, g2, g3⟩ := aGd (step := fun x : List bF × Int × Int => dG (k : Int) (s.drop k) x.1 x.2.1 x.2.2) s k i1 hk hdt (fun j w s' x y j1 j2 j3 j4 hx hy => by
    have hl : (s.drop k).length = s.length - k := by simp
    have a1 : (k : Int) + (j : Int) = ((k + j : Nat) : Int) := by omega
    have a2 : wr ((j : Int) - 1) = ((j - 1 : Nat) : Int) := by rw [gR (by omega) (by omega)]; omega
    have a3 : (k : Int) + ((j - 1 : Nat) : Int) = ((k + j - 1 : Nat) : Int) := by omega
    simp only [dG, hl, cV (show j < s.length - k by omega), if_pos, dJ (xs := s.drop k) (k := j) (by omega), aK, a1, vL, hx, a2, List.getElem?_eq_getElem (show j - 1 < (s.drop k).length by omega), a3, hy, dY, cN (show j < s.length - k by omega) (by omega), List.getElem?_eq_getElem (show w < s'.length by omega), aAc (xs := s') (k := w) _ (by omega), cN j4 (show s.length < 4611686018427387904 by omega)]
    by_cases e : x = y <;> simp [e]) (fun s' w => by
     have hl : (s.drop k).length = s.length - k := by simp
     simp only [dG, hl, cJ]; rfl)
   rw [hl, aK]
   unfold dX
   simp only
   rw [aFJ (by omega), aK, aIU _ (by omega), aK, slc_to (by simp; omega), aK]
   refine ⟨_, rfl, .inl ?_⟩
   rw [List.take_append_of_le_length (by simp; omega), List.take_take, Nat.min_self, g3]
  ·left
   rw [if_neg (by simpa using e)]
   refine ⟨(), rfl, by omega, ?_⟩
   rw [hdt, if_neg (fun h => e h.symm), i2, List.take_add_one]
   simp [hk]
 ·refine ⟨_, by simp only [dH, cJ]; rfl, .inr ⟨rfl, ?_⟩⟩
  have := hI.2
  rwa [List.take_of_length_le (by omega)] at this
 ·rcases s with _ | ⟨a, l⟩
  ·rfl
  ·rfl
theorem aHh (s : List Edge) (h : s.length < 1000000000) (hs : s.Pairwise fun a b => gC a b = true) : dO s = some s := by
 unfold dO
 by_cases h2 : s.length < 2
 ·rw [if_pos (by simp; omega)]
 rw [if_neg (by simp; omega)]
 have := kM (step := fun k => cP s k) s.length (fun k (_ : Unit) => (k : Int)) (fun _ _ => .inl ()) (fun k _ => 1 ≤ k) (fun k a hk hI => ?_) (fun a hI => ?_) (s.length - 1) 1 () (by omega) (Nat.le_refl _)
 ·rw [show (1 : Int) = ((1 : Nat) : Int) from rfl, this, aK]; rfl
 ·left
  have hk1 : wr ((k : Int) - 1) = ((k - 1 : Nat) : Int) := by rw [gR (by omega) (by omega)]; omega
  simp only [cP, cV hk, if_pos, dJ hk, aK, hk1, dJ (xs := s) (k := k - 1) (by omega), eC, cN hk (show s.length < 4611686018427387904 by omega)]
  have hne : ¬ s[k] = s[k - 1]'(by omega) := by
   have := List.pairwise_iff_getElem.1 hs (k - 1) k (by omega) hk (by omega)
   exact fun e => edgeLt_ne this e.symm
  rw [if_neg (by simpa using hne)]
  exact ⟨(), rfl, by omega, trivial⟩
 ·simp only [cP, cJ]; rfl
theorem lts_eq {st ini : Int} {labels M : List bF} {arcs : List lL} (hM : aDF M) (hm : ∀ s, s ≠ eL → (s ∈ labels ↔ s ∈ M)) (h1 : labels.length < 2000000) (h2 : arcs.length < 2000000)
  (hs : (arcs.map fun a => (⟨a.from_, pos (eL :: M) a.label, a.to_⟩ : Edge)).Pairwise fun a b => gC a b = true) (h3 : M.length < 2000000) :
  aEt st ini labels arcs = some ⟨st, ini, eL :: M, arcs.map fun a => ⟨a.from_, pos (eL :: M) a.label, a.to_⟩⟩ := by
 unfold aEt
 rw [show ([116, 97, 117] : bF) = eL from rfl, lA (by simp [nX]; omega), aK]
 have e1 : aAt ([eL] ++ labels) = some (srt sC ([eL] ++ labels)) := by unfold aAt; rw [if_pos (by simp [nX]; omega)]
 rw [e1, aK, aIf _ (by unfold srt; rw [List.length_mergeSort]; simp; omega), aK]
 rw [srt_dedup sC labLt_irr labLt_tr labLt_tri hM.lab (fun x => ?_)]
 ·rw [aAO (step := fun s : List Edge × Int => aAF arcs (eL :: M) s.1 s.2) arcs (fun a => (⟨a.from_, pos (eL :: M) a.label, a.to_⟩ : Edge)) id (fun k out x hk ho hx => ?_) (fun out => by simp only [aAF, cJ]; rfl), aK]
  ·unfold aBW
   have e2 : yJ (id (arcs.map fun a => (⟨a.from_, pos (eL :: M) a.label, a.to_⟩ : Edge))) = some (arcs.map fun a => (⟨a.from_, pos (eL :: M) a.label, a.to_⟩ : Edge)) := by
    unfold yJ; rw [if_pos (by simp [nX]; omega), id, srt_self _ aID hs]
   rw [e2, aK, aHh _ (by simp; omega) hs, aK]
  ·simp only [aAF, cV hk, if_pos, hx, aK, aGu _ _ (show (eL :: M).length < 4611686018427387904 by simp; omega), cN hk (show arcs.length < 4611686018427387904 by omega)]
   rw [lA (by simp [nX]; omega), aK]
 ·by_cases e : x = eL
  ·subst e; simp
  ·simp [e, hm x e]
end Gv
namespace Gv
open Go
def dK (L : List bF) : dC := ⟨1, 0, eL :: L, (List.range L.length).map fun (i : Nat) => ⟨0, (i : Int) + 1, 0⟩⟩
theorem aAR (L : List bF) : (dK L).Edges.length = L.length := by simp [dK]
theorem rS {L : List bF} {i : Nat} (h : i < (dK L).Edges.length) : (dK L).Edges[i] = ⟨0, (i : Int) + 1, 0⟩ := by simp [dK]
theorem SetOk.labs {L : List bF} (h : SetOk L) (h11 : L.length ≤ 11) : vX (eL :: L) := by
 refine ⟨by simp, by simp; omega, fun _ => rfl, fun k h1 hk => ?_⟩
 obtain ⟨j, rfl⟩ : ∃ j, k = j + 1 := ⟨k - 1, by omega⟩
 have hj : j < L.length := by simpa using hk
 have := h.1 L[j] (List.getElem_mem hj)
 refine ⟨this.1, this.2, fun h2 => ?_⟩
 obtain ⟨i, rfl⟩ : ∃ i, j = i + 1 := ⟨j - 1, by omega⟩
 exact h.2 (i + 1) (by omega) hj
theorem yF {L : List bF} (hL : SetOk L) (h11 : L.length ≤ 11) : One (dK L) := by
 refine ⟨⟨⟨by simp [dK], by simp [dK]⟩, ⟨by simp [dK], by simp [dK]⟩, hL.labs h11, by rw [aAR]; omega, fun k hk => ?_⟩, fun k hk => ?_, rfl⟩
 ·have hk' : k < L.length := by rw [aAR] at hk; exact hk
  rw [rS hk]
  refine ⟨⟨⟨by simp, by simp [dK]⟩, ⟨by simp, by simp [dK]⟩, by simp; omega, by simp [dK]; omega⟩, fun h1 => ?_⟩
  rw [rS (i := k - 1) (by omega), edgeLt_iff]
  refine .inr ⟨rfl, .inl ?_⟩
  simp only; omega
 ·rw [rS hk]
  refine ⟨by simp only; omega, fun h1 => ?_⟩
  rw [rS (i := k - 1) (by omega)]
  rintro ⟨_, h⟩
  simp only at h; omega
theorem aFK (L : List bF) : tx (dK L) = L := by
 unfold tx
 refine List.ext_getElem (by simp [dK]) fun i h1 h2 => ?_
 rw [List.getElem_map, rS (by simpa using h1)]
 unfold txt dK
 have e : ((i : Int) + 1).toNat = i + 1 := by omega
 simp only [e]
 rw [List.getD_eq_getElem?_getD, List.getElem?_cons_succ, List.getElem?_eq_getElem h2]; rfl
noncomputable def rT (p : dC) (L : List bF) (q : Int) : Int := if q < 0 then 2 else if (rY p L).getD q.toNat false = false then 1 else if (rZ p L).getD q.toNat false = false then 2 else 0
theorem aIg (p : dC) (L : List bF) : (rY p L).length = p.States.toNat := by simp [rY]
theorem aIh (p : dC) (L : List bF) : (rZ p L).length = p.States.toNat := by simp [rZ]
theorem aGe {p : dC} (hp : eA p) (L : List bF) {q : Int} (hq : q ≤ p.States - 1) : uH p (rY p L) (rZ p L) [0] q = some (rT p L q) := by
 have h1 := hp.1
 unfold uH rT
 by_cases h0 : q < 0
 ·rw [if_pos (by simpa using h0), if_pos h0]
 rw [if_neg (by simpa using h0), if_neg h0]
 have s0 : lN p (rY p L) (rZ p L) [0] q false false 0 = some (.inl ((rY p L).getD q.toNat false, (rZ p L).getD q.toNat false, 1)) := by
  simp only [lN, show ix [(0 : Int)] 0 = some 0 from rfl, aK, at0 (x := p.States) (y := q) (by omega) (by omega)]
  rw [if_pos (by simp), if_neg (by simp), aBl (by omega) (by rw [aIg]; omega), aK]
  simp only [oM, show ix [(0 : Int)] 0 = some 0 from rfl, aK, at0 (x := p.States) (y := q) (by omega) (by omega)]
  rw [if_neg (by simp), aBl (by omega) (by rw [aIh]; omega), aK]; rfl
 have s1 : lN p (rY p L) (rZ p L) [0] q ((rY p L).getD q.toNat false) ((rZ p L).getD q.toNat false) 1 = some (.inr ((rY p L).getD q.toNat false, (rZ p L).getD q.toNat false)) := rfl
 rw [bS, s0]; simp only
 rw [bS, s1]; simp only [aK, oL]
 cases (rY p L).getD q.toNat false <;> cases (rZ p L).getD q.toNat false <;> rfl
theorem aIi {p : dC} (hp : eA p) (L : List bF) {q : Int} (hq : q ≤ p.States - 1) : lP ⟨[rY p L], [rZ p L]⟩ [0] q = some (rT p L q) := by
 have h1 := hp.1
 unfold lP rT
 by_cases h0 : q < 0
 ·rw [if_pos (by simpa using h0), if_pos h0]
 rw [if_neg (by simpa using h0), if_neg h0]
 have f2 : dP [0] ⟨[rY p L], [rZ p L]⟩ q = some ((rY p L).getD q.toNat false) := by
  unfold dP fB
  have s0 : cX [0] ⟨[rY p L], [rZ p L]⟩ q 0 = if (rY p L).getD q.toNat false = true then some (.inr (.inr 0)) else some (.inl 1) := by
   simp only [cX, show ix [(0 : Int)] 0 = some 0 from rfl, aK, oF, show ix [rY p L] 0 = some (rY p L) from rfl]
   rw [if_pos (by simp), aBl (by omega) (by rw [aIg]; omega), aK, aK]; rfl
  have s1 : cX [0] ⟨[rY p L], [rZ p L]⟩ q 1 = some (.inr (.inl ())) := rfl
  rw [bS, s0]
  cases (rY p L).getD q.toNat false with
  | true => rfl
  | false => simp only [Bool.false_eq_true, if_false]; rw [bS, s1]; rfl
 have f3 : dQ [0] ⟨[rY p L], [rZ p L]⟩ q = some ((rZ p L).getD q.toNat false) := by
  unfold dQ fC
  have s0 : cY [0] ⟨[rY p L], [rZ p L]⟩ q 0 = if (rZ p L).getD q.toNat false = true then some (.inr (.inr 0)) else some (.inl 1) := by
   simp only [cY, show ix [(0 : Int)] 0 = some 0 from rfl, aK, oG, show ix [rZ p L] 0 = some (rZ p L) from rfl]
   rw [if_pos (by simp), aBl (by omega) (by rw [aIh]; omega), aK, aK]; rfl
  have s1 : cY [0] ⟨[rY p L], [rZ p L]⟩ q 1 = some (.inr (.inl ())) := rfl
  rw [bS, s0]
  cases (rZ p L).getD q.toNat false with
  | true => rfl
  | false => simp only [Bool.false_eq_true, if_false]; rw [bS, s1]; rfl
 rw [f2, aK, f3, aK]
 cases (rY p L).getD q.toNat false <;> cases (rZ p L).getD q.toNat false <;> rfl
def ins (at_ : List Int) (q : Int) : List Int × Int := if 0 ≤ pos at_ q then (at_, pos at_ q) else (at_ ++ [q], (at_.length : Int))
def xin (p : dC) (i : Int) (q : Int) : List bF → Nat → List Int × List Edge → List Int × List Edge
 | [], _, s => s
 | l :: ls, k, s => xin p i q ls (k + 1) ((ins s.1 (vK p q l)).1, s.2 ++ [⟨i, (k : Int) + 1, (ins s.1 (vK p q l)).2⟩])
noncomputable def aBn (p : dC) (L : List bF) : Nat → Nat → List Int × List Edge → List Int × List Edge
 | 0, _, s => s
 | n + 1, i, s => match s.1[i]? with
  | none => s
  | some q => aBn p L n (i + 1) (if rT p L q = 0 then xin p (i : Int) q L 0 s else s)
def WF (p : dC) (at_ : List Int) : Prop := at_.Nodup ∧ ∀ q ∈ at_, -1 ≤ q ∧ q ≤ p.States - 1
theorem WF.len {p : dC} (hp : eA p) {a : List Int} (h : WF p a) : a.length ≤ 41 := by
 have h1 := hp.1
 have := List.Nodup.length_le_of_subset (l₂ := (List.range 41).map fun (i : Nat) => (i : Int) - 1) h.1 (fun q hq => by
  have := h.2 q hq
  rw [List.mem_map]
  exact ⟨(q + 1).toNat, by rw [List.mem_range]; omega, by omega⟩)
 simpa using this
theorem aHi {a : List Int} {q : Int} : 0 ≤ pos a q ↔ q ∈ a := by
 have := aHa a q
 rw [← decide_eq_true_iff (p := 0 ≤ pos a q), this, List.any_eq_true]
 exact ⟨fun ⟨x, hx, e⟩ => by
   have : q = x := by simpa using e
   rw [this]; exact hx, fun h => ⟨q, h, by simp⟩⟩
theorem ins_WF {p : dC} {a : List Int} (h : WF p a) {q : Int} (hq : -1 ≤ q ∧ q ≤ p.States - 1) : WF p (ins a q).1 := by
 unfold ins
 by_cases hp : 0 ≤ pos a q
 ·rw [if_pos hp]; exact h
 ·rw [if_neg hp]
  have hn : q ∉ a := fun h => hp (aHi.2 h)
  refine ⟨?_, fun x hx => ?_⟩
  ·rw [List.nodup_append]
   exact ⟨h.1, by simp, fun x hx y hy => by simp at hy; subst hy; exact fun e => hn (e ▸ hx)⟩
  ·rcases List.mem_append.1 hx with hx | hx
   ·exact h.2 x hx
   ·simp at hx; subst hx; exact hq
theorem ins_pre (a : List Int) (q : Int) : a <+: (ins a q).1 := by
 unfold ins; split
 ·exact List.prefix_refl _
 ·exact List.prefix_append _ _
theorem aHj {p : dC} (hp : eA p) (i q : Int) : ∀ {ls : List bF} {k : Nat} {s : List Int × List Edge}, WF p s.1 → WF p (xin p i q ls k s).1
 | [], _, _, h => h
 | l :: ls, k, s, h => by unfold xin; exact aHj hp i q (ins_WF h (aBk hp q l))
theorem aCu (p : dC) (i q : Int) : ∀ (ls : List bF) (k : Nat) (s : List Int × List Edge), s.1 <+: (xin p i q ls k s).1 ∧ s.2 <+: (xin p i q ls k s).2
 | [], _, _ => ⟨List.prefix_refl _, List.prefix_refl _⟩
 | l :: ls, k, s => by
  unfold xin
  have := aCu p i q ls (k + 1) ((ins s.1 (vK p q l)).1, s.2 ++ [⟨i, (k : Int) + 1, (ins s.1 (vK p q l)).2⟩])
  exact ⟨(ins_pre _ _).trans this.1, (List.prefix_append _ _).trans this.2⟩
theorem aAS (p : dC) (L : List bF) : ∀ (n i : Nat) (s : List Int × List Edge), s.1 <+: (aBn p L n i s).1 ∧ s.2 <+: (aBn p L n i s).2
 | 0, _, _ => ⟨List.prefix_refl _, List.prefix_refl _⟩
 | n + 1, i, s => by
  unfold aBn
  split
  ·exact ⟨List.prefix_refl _, List.prefix_refl _⟩
  ·rename_i q hq
   have := aAS p L n (i + 1) (if rT p L q = 0 then xin p (i : Int) q L 0 s else s)
   split at this
   ·rename_i hv
    rw [if_pos hv]
    have h2 := aCu p (i : Int) q L 0 s
    exact ⟨h2.1.trans this.1, h2.2.trans this.2⟩
   ·rename_i hv
    rw [if_neg hv]; exact this
theorem aEE {t : dC} (ht : One t) (m : List Bool) : vS t m = some m := by
 have h300 := ht.len
 unfold vS
 have hl := kM (step := fun s : List Bool × Bool × Int => pG t s.1 s.2.1 s.2.2) t.Edges.length (fun k (_ : Unit) => (m, false, (k : Int))) (fun _ _ => (m, false)) (fun _ _ => True) (fun k a hk _ => ?_) (fun a _ => by simp only [pG, cJ]; rfl) t.Edges.length 0 () (by omega) trivial
 ·have s0 : pH t m true = some (.inl (m, false)) := by
   unfold pH
   rw [if_pos rfl, show (0 : Int) = ((0 : Nat) : Int) from rfl, hl]; rfl
  have s1 : pH t m false = some (.inr m) := rfl
  rw [bS, s0]; simp only
  rw [bS, s1]; rfl
 ·left
  obtain ⟨_, _, e3, _, _⟩ := ht.edge (List.getElem_mem hk)
  refine ⟨(), ?_, trivial, rfl⟩
  simp only [pG, cV hk, if_pos, dJ hk, aK, pF, sJ, cN hk (show t.Edges.length < 4611686018427387904 by omega)]
  rw [if_neg (by simpa using e3)]; rfl
theorem aEF : yB [true] = some [0] := by
 unfold yB
 have s0 : uG [true] [] 0 = some (.inl ([0], 1)) := rfl
 have s1 : uG [true] [0] 1 = some (.inr [0]) := rfl
 rw [bS, s0]; simp only
 rw [bS, s1]; rfl
theorem aIj {t : dC} (ht : One t) : yU t = some [0] := by
 have hi : t.Initial = 0 := by have := ht.ok.2.1; have := ht.one; omega
 unfold yU
 have hm : yT t [t.Initial] = some [true] := by
  unfold yT
  rw [ht.one, hi, show mkz 1 false = some [false] from rfl, aK]
  have s0 : sI [0] [false] 0 = some (.inl ([true], 1)) := rfl
  have s1 : sI [0] [true] 1 = some (.inr [true]) := rfl
  rw [bS, s0]; simp only
  rw [bS, s1]; rfl
 rw [hm, aK, aEE ht, aK, aEF]; rfl
theorem aIk : aBU [0] 0 = some true := by
 unfold aBU
 have s0 : zX [0] 0 0 = some (.inr (.inr true)) := rfl
 rw [bS, s0]; rfl
theorem aIX {t : dC} (ht : One t) {lab : Int} (h : ∃ e ∈ t.Edges, e.Label = lab) : yC t [0] lab = some [0] := by
 have h300 := ht.len
 unfold yC
 rw [ht.one, show mkz 1 false = some [false] from rfl, aK]
 have hl := rR (step := fun s : List Bool × Int => rG t [0] lab s.1 s.2) t.Edges (fun k (b : Bool) => ([b], (k : Int))) (fun l b => [b || l.any fun e => e.Label == lab]) (fun _ _ => True) (fun k a e l hk hx _ => ?_) (fun a _ => by simp only [rG, cJ]; simp) (a := false) trivial
 ·rw [show (([false] : List Bool), (0 : Int)) = ([false], ((0 : Nat) : Int)) from rfl, hl, aK]
  have : (t.Edges.any fun e => e.Label == lab) = true := by
   obtain ⟨e, he, h⟩ := h
   exact List.any_eq_true.2 ⟨e, he, by simp [h]⟩
  rw [this]
  unfold uI
  simp only [Bool.false_or]
  rw [aEE ht, aK, aEF]; rfl
 ·left
  obtain ⟨hk', rfl⟩ := zI hx
  obtain ⟨e1, e2, _, _, _⟩ := ht.edge (List.getElem_mem hk)
  refine ⟨a || (t.Edges[k].Label == lab), ?_, trivial, by rw [List.any_cons, Bool.or_assoc]⟩
  simp only [rG, cV hk, if_pos, hx, aK, e1, e2, aIk, uK, uJ, cN hk (show t.Edges.length < 4611686018427387904 by omega), show ix [a] 0 = some a from rfl, show st [a] 0 true = some [true] from rfl]
  cases t.Edges[k].Label == lab <;> cases a <;> rfl
theorem aHk : aAB [0] [0] = some true := by
 unfold aAB
 have s0 : uL [0] [0] 0 = some (.inl 1) := rfl
 have s1 : uL [0] [0] 1 = some (.inr (.inl ())) := rfl
 rw [if_neg (by simp), bS, s0]; simp only
 rw [bS, s1]; rfl
end Gv
namespace Gv
open Go
def sT : dS := ⟨⟨0, 0, [], []⟩, []⟩
theorem spot_eq {at_ : List Int} (hn : at_.Nodup) (h : at_.length < 1000) (q : Int) :
  loop (fun s : Int × Int => mM (List.replicate at_.length [0]) at_ [0] q s.1 s.2) (-1, 0) = some (pos at_ q) := by
 have := kM (step := fun s : Int × Int => mM (List.replicate at_.length [0]) at_ [0] q s.1 s.2) at_.length (fun m (to : Int) => (to, (m : Int))) (fun m to => match (at_.drop m).findIdx? (fun x => q == x) with | none => to | some j => ((m + j : Nat) : Int)) (fun _ _ => True) (fun m to hm _ => ?_) (fun to _ => ?_) at_.length 0 (-1) (by omega) trivial
 ·rw [show ((-1, 0) : Int × Int) = (-1, ((0 : Nat) : Int)) from rfl, this]
  unfold pos
  simp only [List.drop_zero]
  cases at_.findIdx? (fun x => q == x) with
  | none => rfl
  | some j => simp
 ·left
  have hl : (List.replicate at_.length [(0 : Int)]).length = at_.length := by simp
  have hs : ix (List.replicate at_.length [(0 : Int)]) (m : Int) = some [0] := by rw [vL, List.getElem?_replicate, if_pos hm]
  simp only [mM, hl, cV hm, if_pos, dJ hm, aK, hs, aHk, uQ, uP, cN hm (show at_.length < 4611686018427387904 by omega)]
  rw [List.drop_eq_getElem_cons hm, List.findIdx?_cons]
  by_cases e : at_[m] = q
  ·rw [if_pos (by simpa using e), if_pos (show (q == at_[m]) = true by simp [e])]
   refine ⟨(m : Int), by simp, trivial, ?_⟩
   have hnm : q ∉ at_.drop (m + 1) := by
    have h1 : (at_.drop m).Nodup := hn.sublist (List.drop_sublist _ _)
    rw [List.drop_eq_getElem_cons hm, List.nodup_cons] at h1
    rw [← e]; exact h1.1
   rw [List.findIdx?_eq_none_iff.2 fun x hx => by
    have : ¬ q = x := fun h => hnm (h ▸ hx)
    simpa using this]
   simp
  ·rw [if_neg (by simpa using e), if_neg (show ¬ (q == at_[m]) = true by simpa using fun h => e (Eq.symm h))]
   refine ⟨to, by simp, trivial, ?_⟩
   cases (at_.drop (m + 1)).findIdx? (fun x => q == x) with
   | none => rfl
   | some j => simp only [Option.map_some]; omega
 ·simp only [mM, List.length_replicate, cJ]
  simp
theorem aDL (p : dC) (i q : Int) (l : bF) (ls : List bF) (k : Nat) (a : List Int) (e : List Edge) : xin p i q (l :: ls) k (a, e) = xin p i q ls (k + 1) ((ins a (vK p q l)).1, e ++ [⟨i, (k : Int) + 1, (ins a (vK p q l)).2⟩]) := rfl
section
variable {p : dC} {L : List bF}
theorem aIY (hp : eA p) (hL : SetOk L) (h11 : L.length ≤ 11) {i : Nat} {q : Int} {at_ : List Int} {ed : List Edge} (hw : WF p at_) (h40 : at_.length ≤ 40) (h300 : ed.length ≤ 300) (hi : at_[i]? = some q) :
  loop (fun s : List (List Int) × List Int × List Edge × Int => iS (dK L) p (i : Int) 0 s.1 s.2.1 s.2.2.1 s.2.2.2) (List.replicate at_.length [0], at_, ed, 1)
   = some (if (xin p (i : Int) q L 0 (at_, ed)).1.length ≤ 40 ∧ (xin p (i : Int) q L 0 (at_, ed)).2.length ≤ 300 then .inl (List.replicate (xin p (i : Int) q L 0 (at_, ed)).1.length [0], xin p (i : Int) q L 0 (at_, ed)) else .inr (sT, false)) := by
 have ht := yF hL h11
 have := kM (step := fun s : List (List Int) × List Int × List Edge × Int => iS (dK L) p (i : Int) 0 s.1 s.2.1 s.2.2.1 s.2.2.2) L.length (fun k (a : List Int × List Edge) => (List.replicate a.1.length [0], a.1, a.2, ((k + 1 : Nat) : Int)))
  (fun k a => if (xin p (i : Int) q (L.drop k) k a).1.length ≤ 40 ∧ (xin p (i : Int) q (L.drop k) k a).2.length ≤ 300 then .inl (List.replicate (xin p (i : Int) q (L.drop k) k a).1.length [0], xin p (i : Int) q (L.drop k) k a) else .inr (sT, false))
  (fun k a => WF p a.1 ∧ a.1.length ≤ 40 ∧ a.2.length ≤ 300 ∧ a.1[i]? = some q) (fun k a hk hI => ?_) (fun a hI => ?_) L.length 0 (at_, ed) (by omega) ⟨hw, h40, h300, hi⟩
 ·exact this
 ·obtain ⟨at_, ed⟩ := a
  obtain ⟨hw, h40, h300, hi⟩ := hI
  simp only at hw h40 h300 hi
  have hil : i < at_.length := (List.getElem?_eq_some_iff.1 hi).1
  have hll : (dK L).Labels.length = L.length + 1 := rfl
  have hxl : ix (dK L).Labels ((k + 1 : Nat) : Int) = some L[k] := by rw [vL]; simp [dK, hk]
  have hnx : yC (dK L) [0] ((k + 1 : Nat) : Int) = some [0] := aIX ht ⟨_, List.getElem_mem (n := k) (by rw [aAR]; exact hk), by rw [rS (by rw [aAR]; exact hk)]; simp only; omega⟩
  have hs : ix (List.replicate at_.length [(0 : Int)]) (i : Int) = some [0] := by rw [vL, List.getElem?_replicate, if_pos hil]
  have ha : ix at_ (i : Int) = some q := by rw [vL]; exact hi
  rw [List.drop_eq_getElem_cons hk]
  simp only [iS, hll, cV (show k + 1 < L.length + 1 by omega), if_pos, BEq.rfl, pI, hs, aK, hnx, ha, hxl, aIa hp, spot_eq hw.1 (show at_.length < 1000 by omega)]
  rw [if_neg (by simp), aDL]
  generalize hq : vK p q L[k] = q'
  have hq' : -1 ≤ q' ∧ q' ≤ p.States - 1 := by rw [← hq]; exact aBk hp q _
  have hwi := ins_WF hw hq'
  have key : rI (i : Int) (List.replicate at_.length [0]) at_ ed ((k + 1 : Nat) : Int) [0] q' (pos at_ q') = rH (i : Int) ed ((k + 1 : Nat) : Int) (List.replicate (ins at_ q').1.length [0]) (ins at_ q').1 (ins at_ q').2 := by
   unfold rI ins
   by_cases h0 : 0 ≤ pos at_ q'
   ·rw [if_neg (by simp; omega), if_pos h0]
   ·rw [if_pos (by simp; omega), if_neg h0, lA (by simp [nX]; omega), aK, lA (by simp [nX]; omega), aK]
    simp only [List.length_replicate, List.length_append, List.length_cons, List.length_nil]
    rw [List.replicate_succ']
  rw [key]
  have h41 := hwi.len hp
  unfold rH
  rw [lA (by simp [nX]; omega), aK]
  have hk1 : ((k + 1 : Nat) : Int) = (k : Int) + 1 := by omega
  have hpre := aCu p (i : Int) q (L.drop (k + 1)) (k + 1) ((ins at_ q').1, ed ++ [⟨(i : Int), (k : Int) + 1, (ins at_ q').2⟩])
  have hpl1 := hpre.1.length_le
  have hpl2 := hpre.2.length_le
  simp only [List.length_append, List.length_cons, List.length_nil] at hpl1 hpl2
  rw [List.length_replicate]
  by_cases hbig : 40 < (ins at_ q').1.length
  ·right
   rw [if_pos (by simp; omega), if_neg (by omega)]; rfl
  ·rw [if_neg (by simp; omega)]
   by_cases hbig2 : 300 < (ed ++ ([⟨(i : Int), ((k + 1 : Nat) : Int), (ins at_ q').2⟩] : List Edge)).length
   ·right
    rw [decide_eq_true (by omega)]
    simp only [List.length_append, List.length_cons, List.length_nil] at hbig2
    rw [if_neg (by omega)]; rfl
   ·left
    rw [decide_eq_false (by omega)]
    simp only [List.length_append, List.length_cons, List.length_nil] at hbig2
    refine ⟨((ins at_ q').1, ed ++ [⟨(i : Int), (k : Int) + 1, (ins at_ q').2⟩]), ?_, ⟨hwi, by simp only; omega, by simp; omega, ?_⟩, rfl⟩
    ·simp only [uO, uN, Bool.false_eq_true, if_false, hk1]
     have : wr ((k : Int) + 1 + 1) = ((k + 1 + 1 : Nat) : Int) := by rw [gR (by omega) (by omega)]; omega
     rw [this]
    ·simp only
     obtain ⟨c, hc⟩ := ins_pre at_ q'
     rw [← hc, List.getElem?_append_left hil]
     exact hi
 ·have hll : (dK L).Labels.length = L.length + 1 := rfl
  simp only [iS, hll, cJ, pI]
  simp [xin, hI.2.1, hI.2.2.1]
noncomputable def iP (p : dC) (L : List bF) : List Int × List Edge := aBn p L 42 0 ([p.Initial], [])
noncomputable def res (p : dC) (L : List bF) : dS × Bool :=
 if (iP p L).1.length ≤ 40 ∧ (iP p L).2.length ≤ 300 then (⟨⟨((iP p L).1.length : Int), 0, eL :: L, (iP p L).2⟩, (iP p L).1.map (rT p L)⟩, true) else (sT, false)
theorem take_pre {a b : List Int} (h : a <+: b) {i : Nat} (hi : i ≤ a.length) : b.take i = a.take i := by
 obtain ⟨c, rfl⟩ := h
 rw [List.take_append_of_le_length hi]
theorem aIZ (hp : eA p) (hL : SetOk L) (h11 : L.length ≤ 11) : aAC (dK L) p = some (res p L) := by
 have ht := yF hL h11
 unfold aAC
 rw [aIc ht hp, aK, aIS ht hp, aK, aIj ht, aK, aFK]
 have hinit : WF p [p.Initial] := ⟨by simp, fun q hq => by simp at hq; subst hq; have := hp.2.1; omega⟩
 have := loop_eq (step := fun s : List (List Int) × List Int × List Int × List Edge × Int => pJ (dK L) p (rY p L) (rZ p L) s.1 s.2.1 s.2.2.1 s.2.2.2.1 s.2.2.2.2)
  (fun s => ∃ (i : Nat) (at_ : List Int) (ed : List Edge), s = (List.replicate at_.length [0], at_, (at_.take i).map (rT p L), ed, (i : Int)) ∧ i ≤ at_.length ∧ WF p at_ ∧ at_.length ≤ 40 ∧ ed.length ≤ 300 ∧ aBn p L (42 - i) i (at_, ed) = iP p L)
  (fun s => 42 - s.2.2.2.2.toNat)
  (if (iP p L).1.length ≤ 40 ∧ (iP p L).2.length ≤ 300 then .inl (List.replicate (iP p L).1.length [0], (iP p L).1.map (rT p L), (iP p L).2) else .inr (sT, false))
  (fun s hI => ?_) (s := ([[0]], [p.Initial], [], [], 0)) ⟨0, [p.Initial], [], rfl, by simp, hinit, by simp, by simp, rfl⟩
 ·rw [this, aK]
  unfold res
  by_cases hok : (iP p L).1.length ≤ 40 ∧ (iP p L).2.length ≤ 300
  ·rw [if_pos hok, if_pos hok]
   simp only [uM, List.length_replicate]
   rw [show (dK L).Labels = eL :: L from rfl, lA (by simp [nX]; omega), aK]; rfl
  ·rw [if_neg hok, if_neg hok]
 ·obtain ⟨i, at_, ed, rfl, hi, hw, h40, h300, hx⟩ := hI
  simp only
  by_cases hil : i < at_.length
  ·have hs : ix (List.replicate at_.length [(0 : Int)]) (i : Int) = some [0] := by rw [vL, List.getElem?_replicate, if_pos hil]
   have hq : at_[i]? = some at_[i] := List.getElem?_eq_getElem hil
   have hqr := hw.2 at_[i] (List.getElem_mem hil)
   rw [show 42 - i = (41 - i) + 1 by omega] at hx
   unfold aBn at hx
   rw [hq] at hx
   simp only at hx
   simp only [pJ, List.length_replicate, cV hil, if_pos, hs, aK, dJ hil, aGe hp L (q := at_[i]) (by omega)]
   rw [lA (by simp [nX]; omega), aK]
   have htk : ∀ b : List Int, at_ <+: b → (at_.take i).map (rT p L) ++ [rT p L at_[i]] = (b.take (i + 1)).map (rT p L) := by
    intro b hb
    rw [take_pre hb (by omega), List.take_add_one, hq, List.map_append]; rfl
   by_cases hv : rT p L at_[i] = 0
   ·rw [if_pos hv] at hx
    rw [hv] at htk ⊢
    rw [aIY hp hL h11 hw h40 h300 hq, aK]
    generalize hr : xin p (i : Int) at_[i] L 0 (at_, ed) = r at hx ⊢
    have hpre : at_ <+: r.1 := by rw [← hr]; exact (aCu p (i : Int) at_[i] L 0 (at_, ed)).1
    have hwr : WF p r.1 := by rw [← hr]; exact aHj hp _ _ hw
    have hxp := aAS p L (41 - i) (i + 1) r
    rw [hx] at hxp
    by_cases hok : r.1.length ≤ 40 ∧ r.2.length ≤ 300
    ·left
     rw [if_pos hok]
     refine ⟨_, rfl, ⟨i + 1, r.1, r.2, ?_, by have := hpre.length_le; omega, hwr, hok.1, hok.2, ?_⟩, ?_⟩
     ·simp only [htk r.1 hpre, cN hil (show at_.length < 4611686018427387904 by omega)]
     ·rw [show 42 - (i + 1) = 41 - i by omega]; exact hx
     ·simp only [cN hil (show at_.length < 4611686018427387904 by omega), Int.toNat_natCast]; omega
    ·right
     rw [if_neg hok]
     simp only
     rw [if_neg (fun h => hok ⟨Nat.le_trans hxp.1.length_le h.1, Nat.le_trans hxp.2.length_le h.2⟩)]
   ·rw [if_neg hv] at hx
    left
    have hend : loop (fun s : List (List Int) × List Int × List Edge × Int => iS (dK L) p (i : Int) (rT p L at_[i]) s.1 s.2.1 s.2.2.1 s.2.2.2) (List.replicate at_.length [0], at_, ed, 1) = some (.inl (List.replicate at_.length [0], at_, ed)) := by
     have s0 : iS (dK L) p (i : Int) (rT p L at_[i]) (List.replicate at_.length [0]) at_ ed 1 = some (.inr (.inl (List.replicate at_.length [0], at_, ed))) := by
      unfold iS
      rw [show (rT p L at_[i] == 0) = false by simpa using hv]
      cases decide ((1 : Int) < ((dK L).Labels.length : Int)) <;> rfl
     rw [bS, s0]
    rw [hend, aK]
    refine ⟨_, rfl, ⟨i + 1, at_, ed, ?_, by omega, hw, h40, h300, ?_⟩, ?_⟩
    ·simp only [htk at_ (List.prefix_refl _), cN hil (show at_.length < 4611686018427387904 by omega)]
    ·rw [show 42 - (i + 1) = 41 - i by omega]; exact hx
    ·simp only [cN hil (show at_.length < 4611686018427387904 by omega), Int.toNat_natCast]; omega
  ·right
   obtain rfl : i = at_.length := by omega
   rw [show 42 - at_.length = (41 - at_.length) + 1 by omega] at hx
   unfold aBn at hx
   rw [List.getElem?_eq_none (Nat.le_refl _)] at hx
   simp only at hx
   rw [← hx]
   simp only [pJ, List.length_replicate, cJ]
   simp [h40, h300]
noncomputable def PM (p : dC) (L : List bF) : dS × Int :=
 if cl (eA p) = false then (sT, 1) else if cl (jI p) = false then (sT, 6) else if cl (SetOk L) = false then (sT, 2) else if 12 ≤ L.length then (sT, 5) else if (res p L).2 = false then (sT, 5) else ((res p L).1, 0)
theorem aDM (p : dC) (L : List bF) (hf : kN 999999999 p) (hl : L.length < 2000000) (hs : ∀ s ∈ L, s.length < 1000000000) : qM p L = some (PM p L) := by
 unfold qM aDs PM
 rw [l11Is_eq p hf, aK, aK]
 cases hv : cl (eA p) with
 | false => simp [tL, sT]
 | true =>
  have hp : eA p := qZ.1 hv
  simp only [Bool.not_true, Bool.false_eq_true, if_false, tL, aHf p (by have := hf.2.2; omega), aK]
  cases hsg : cl (jI p) with
  | false => simp [sT]
  | true =>
   simp only [Bool.not_true, Bool.false_eq_true, if_false, aK, l18Set_eq L (by omega) hs, bne_self_eq_false, reduceCtorEq]
   cases hset : cl (SetOk L) with
   | false => simp [sT]
   | true =>
    have hL : SetOk L := qZ.1 hset
    simp only [Bool.not_true, Bool.false_eq_true, if_false, reduceCtorEq]
    by_cases h12 : 12 ≤ L.length
    ·rw [if_pos (by simp; omega), if_pos h12]; rfl
    ·rw [if_neg (by simp; omega), if_neg h12, show ([116, 97, 117] : bF) = eL from rfl, lA (by simp [nX]; omega), aK]
     have hed := kM (step := fun s : List Edge × Int => jR L s.1 s.2) L.length (fun k (_ : Unit) => ((List.range k).map fun (i : Nat) => (⟨0, (i : Int) + 1, 0⟩ : Edge), (k : Int))) (fun _ _ => (dK L).Edges) (fun _ _ => True) (fun k a hk _ => ?_) (fun a _ => by simp only [jR, cJ]; rfl) L.length 0 () (by omega) trivial
     ·rw [show (([] : List Edge), (0 : Int)) = ((List.range 0).map fun (i : Nat) => (⟨0, (i : Int) + 1, 0⟩ : Edge), ((0 : Nat) : Int)) from rfl, hed, aK]
      unfold lV
      rw [show (⟨1, 0, [eL] ++ L, (dK L).Edges⟩ : dC) = dK L from rfl, aIZ hp hL (by omega), aK]
      cases (res p L).2 <;> rfl
     ·left
      refine ⟨(), ?_, trivial, rfl⟩
      simp only [jR, cV hk, if_pos, cN hk (show L.length < 4611686018427387904 by omega)]
      rw [lA (by simp [nX]; omega), aK, List.range_succ, List.map_append]
      rfl
end
end Gv
namespace Gv
open Go
theorem aCv {α : Type} [BEq α] [LawfulBEq α] {xs : List α} {a : α} (h : a ∈ xs) : ∃ i : Nat, ∃ hi : i < xs.length, pos xs a = (i : Int) ∧ xs[i] = a := by
 unfold pos
 cases hx : xs.findIdx? (fun x => a == x) with
 | none =>
  rw [List.findIdx?_eq_none_iff] at hx
  have := hx a h
  simp at this
 | some i =>
  rw [List.findIdx?_eq_some_iff_getElem] at hx
  obtain ⟨hi, h1, _⟩ := hx
  exact ⟨i, hi, rfl, by simpa using Eq.symm (by simpa using h1)⟩
theorem pos_lt {α : Type} [BEq α] [LawfulBEq α] {R : α → α → Prop} (asy : ∀ {a b}, R a b → ¬ R b a) {xs : List α} (hx : xs.Pairwise R) {a b : α} (ha : a ∈ xs) (hb : b ∈ xs) (hab : R a b) : pos xs a < pos xs b := by
 obtain ⟨i, hi, e1, g1⟩ := aCv ha
 obtain ⟨j, hj, e2, g2⟩ := aCv hb
 rw [e1, e2]
 rcases Nat.lt_trichotomy i j with h | h | h
 ·omega
 ·subst h
  rw [g1] at g2; subst g2
  exact absurd hab (asy hab)
 ·have := List.pairwise_iff_getElem.1 hx j i hj hi h
  rw [g1, g2] at this
  exact absurd this (asy hab)
theorem pos_at {α : Type} [BEq α] [LawfulBEq α] {R : α → α → Prop} (irr : ∀ a, ¬ R a a) {xs : List α} (hx : xs.Pairwise R) {k : Nat} (hk : k < xs.length) : pos xs xs[k] = (k : Int) := by
 obtain ⟨i, hi, e1, g1⟩ := aCv (List.getElem_mem hk)
 rw [e1]
 rcases Nat.lt_trichotomy i k with h | h | h
 ·have := List.pairwise_iff_getElem.1 hx i k hi hk h
  rw [g1] at this; exact absurd this (irr _)
 ·rw [h]
 ·have := List.pairwise_iff_getElem.1 hx k i hk hi h
  rw [g1] at this; exact absurd this (irr _)
theorem aHl : Lib.itoa (-1) = [45, 49] := by
 unfold Lib.itoa
 rw [if_pos (by omega), show (-1 : Int).natAbs = 1 from rfl, Lib.decDigits_one (by omega)]; rfl
theorem aBo {v : Int} (h0 : 0 ≤ v) (h1 : v ≤ 63) : (Lib.itoa v).head? ≠ some 45 ∧ val 0 (Lib.itoa v) = v := by
 unfold Lib.itoa
 rw [if_neg (by omega)]
 have ofn : ∀ n : Nat, n < 10 → (UInt8.ofNat (48 + n)).toNat = 48 + n := by intro n hn; simp; omega
 have ne : ∀ n : Nat, n < 10 → UInt8.ofNat (48 + n) ≠ 45 := by
  intro n hn e
  have := ofn n hn
  rw [e] at this
  have : (45 : UInt8).toNat = 45 := rfl
  omega
 by_cases h : v.toNat < 10
 ·rw [Lib.decDigits_one h]
  refine ⟨by simpa using ne _ h, ?_⟩
  simp only [val, List.foldl_cons, List.foldl_nil, ofn _ h]; omega
 ·rw [Lib.decDigits_two h (by omega)]
  refine ⟨by simpa using ne (v.toNat / 10) (by omega), ?_⟩
  simp only [val, List.foldl_cons, List.foldl_nil, ofn (v.toNat / 10) (by omega), ofn (v.toNat % 10) (by omega)]; omega
theorem itoa_inj {a b : Int} (ha : -1 ≤ a ∧ a ≤ 63) (hb : -1 ≤ b ∧ b ≤ 63) (h : Lib.itoa a = Lib.itoa b) : a = b := by
 by_cases h1 : a = -1 <;> by_cases h2 : b = -1
 ·omega
 ·subst h1
  have := (aBo (v := b) (by omega) (by omega)).1
  rw [← h, aHl] at this; simp at this
 ·subst h2
  have := (aBo (v := a) (by omega) (by omega)).1
  rw [h, aHl] at this; simp at this
 ·have e1 := (aBo (v := a) (by omega) (by omega)).2
  have e2 := (aBo (v := b) (by omega) (by omega)).2
  rw [← e1, ← e2, h]
theorem itoa_len {a : Int} (ha : -1 ≤ a ∧ a ≤ 63) : (Lib.itoa a).length ≤ 2 := by
 by_cases h1 : a = -1
 ·subst h1; rw [aHl]; simp
 ·unfold Lib.itoa
  rw [if_neg (by omega)]
  by_cases h : a.toNat < 10
  ·rw [Lib.decDigits_one h]; simp
  ·rw [Lib.decDigits_two h (by omega)]; simp
def key (q : Int) : bF := [48, 32] ++ Lib.itoa q
theorem key_inj {a b : Int} (ha : -1 ≤ a ∧ a ≤ 63) (hb : -1 ≤ b ∧ b ≤ 63) (h : key a = key b) : a = b := by
 unfold key at h
 exact itoa_inj ha hb (List.append_cancel_left h)
theorem itoa_zero : Lib.itoa 0 = [48] := by
 unfold Lib.itoa
 rw [if_neg (by omega), show (0 : Int).toNat = 0 from rfl, Lib.decDigits_one (by omega)]; rfl
theorem aGf {q : Int} (hq : -1 ≤ q ∧ q ≤ 63) : jE ⟨[0], q⟩ = some (key q) := by
 unfold jE
 have hj : Lib.join (([0] : List Int).map Lib.itoa) [44] = [48] := by
  simp only [List.map_cons, List.map_nil, itoa_zero]
  rw [Lib.join_one]
 have h1 : yV [0] [44] = some [48] := by
  rw [aGv [0] [44] (by simp) (by simp) (by rw [hj]; simp [nX]), hj]
 have hl := itoa_len hq
 have hd : tI q = some (Lib.itoa q) := by unfold tI; rw [if_pos ⟨by omega, by omega⟩]
 simp only
 rw [h1, aK, aCZ (by simp [nX]), aK, hd, aK, aCZ (by simp [nX]; omega), aK]; rfl
def Ws (a : List Int) : List cB := a.map fun q => ⟨[0], q⟩
def mp (k : Nat) : List Int → List (bF × Int)
 | [] => []
 | q :: l => (key q, (k : Int)) :: mp (k + 1) l
theorem mget_mp {q : Int} (hq : -1 ≤ q ∧ q ≤ 63) : ∀ {a : List Int} {k : Nat}, (∀ x ∈ a, -1 ≤ x ∧ x ≤ 63) → aAo (mp k a) (key q) = match a.findIdx? (fun x => q == x) with | none => none | some i => some ((k + i : Nat) : Int)
 | [], k, _ => rfl
 | x :: l, k, h => by
  have ih := mget_mp hq (a := l) (k := k + 1) (fun y hy => h y (by simp [hy]))
  unfold mp aAo
  rw [List.findIdx?_cons]
  by_cases e : x = q
  ·subst e
   rw [if_pos rfl, if_pos (by simp)]; rfl
  ·rw [if_neg (fun hk => e (key_inj (h x (by simp)) hq hk.symm)), if_neg (by simpa using fun h => e (Eq.symm h)), ih]
   cases l.findIdx? (fun x => q == x) with
   | none => rfl
   | some i => simp only [Option.map_some]; congr 2; omega
theorem mput_mp {q : Int} (hq : -1 ≤ q ∧ q ≤ 63) : ∀ {a : List Int} {k : Nat}, (∀ x ∈ a, -1 ≤ x ∧ x ≤ 63) → q ∉ a → mput (mp k a) (key q) ((k + a.length : Nat) : Int) = mp k (a ++ [q])
 | [], k, _, _ => by simp [mp, mput]
 | x :: l, k, h, hn => by
  have ih := mput_mp hq (a := l) (k := k + 1) (fun y hy => h y (by simp [hy])) (fun hy => hn (by simp [hy]))
  have e : ¬ key q = key x := fun hk => hn (by rw [key_inj (h x (by simp)) hq hk.symm]; simp)
  simp only [mp, mput, List.cons_append, if_neg e]
  rw [← ih]
  congr 3
  simp; omega
section
variable {p : dC} {L : List bF}
theorem WF.small (hp : eA p) {a : List Int} (h : WF p a) : ∀ x ∈ a, -1 ≤ x ∧ x ≤ 63 := fun x hx => by
 have := h.2 x hx; have := hp.1; omega
theorem find_eq (hp : eA p) {a : List Int} (h : WF p a) (arcs : List lL) {q : Int} (hq : -1 ≤ q ∧ q ≤ p.States - 1) :
  dE (Ws a) (mp 0 a) arcs ⟨[0], q⟩ = some ((ins a q).2, Ws (ins a q).1, mp 0 (ins a q).1) := by
 have hq' : -1 ≤ q ∧ q ≤ 63 := by have := hp.1; omega
 have hl := h.len hp
 unfold dE
 rw [aGf hq', aK, mget_mp hq' (h.small hp)]
 have hpos : pos a q = match a.findIdx? (fun x => q == x) with | none => -1 | some i => (i : Int) := rfl
 cases hx : a.findIdx? (fun x => q == x) with
 | none =>
  rw [hx] at hpos
  simp only at hpos
  have hn : q ∉ a := fun hm => by have := aHi.2 hm; omega
  have hins : ins a q = (a ++ [q], (a.length : Int)) := by unfold ins; rw [if_neg (by omega)]
  rw [hins]
  simp only [Option.isSome_none, Bool.not_false, if_pos, aK]
  have hwl : (Ws a).length = a.length := by simp [Ws]
  rw [lA (by rw [hwl]; simp [nX]; omega), aK, hwl]
  unfold eG
  have := mput_mp hq' (k := 0) (h.small hp) hn
  rw [Nat.zero_add] at this
  rw [this]
  simp [Ws]
 | some i =>
  rw [hx] at hpos
  simp only at hpos
  have hins : ins a q = (a, (i : Int)) := by unfold ins; rw [if_pos (by omega), hpos]
  rw [hins]
  simp only [Option.isSome_some, Bool.not_true, Bool.false_eq_true, if_false, Option.getD_some, Nat.zero_add]; rfl
def mU (L : List bF) (e : Edge) : lL := ⟨e.From, L.getD (e.Label - 1).toNat [], e.To⟩
theorem aGg (hL : SetOk L) (h11 : L.length ≤ 11) {s : bF} (hs : s ∈ L) : pN (dK L) [0] s = some [0] := by
 have ht := yF hL h11
 rw [aIR ht.ok ht.single]
 have hmem : ∃ e ∈ (dK L).Edges, hit (dK L) 0 s e = true := by
  have := aFK L
  rw [← this] at hs
  obtain ⟨e, he, h⟩ := List.mem_map.1 hs
  refine ⟨e, he, ?_⟩
  unfold hit
  rw [(ht.edge he).1, h]; simp
 cases hx : (dK L).Edges.find? (hit (dK L) 0 s) with
 | none =>
  rw [List.find?_eq_none] at hx
  obtain ⟨e, he, h⟩ := hmem
  exact absurd h (hx e he)
 | some e =>
  have := (ht.edge (List.mem_of_find?_eq_some hx)).2.1
  simp [this]
theorem moves_eq (hp : eA p) (hps : jI p) (hL : SetOk L) (h11 : L.length ≤ 11) {i : Nat} {q : Int} {a : List Int} {ed : List Edge} (hw : WF p a) (hed : ed.length ≤ 100000) (hq : -1 ≤ q ∧ q ≤ p.States - 1) :
  jF ⟨[0], q⟩ (Ws a) (mp 0 a) (ed.map (mU L)) (i : Int) ⟨[rY p L], [rZ p L]⟩ ⟨dK L, p⟩
   = some (true, Ws (if rT p L q = 0 then xin p (i : Int) q L 0 (a, ed) else (a, ed)).1, mp 0 (if rT p L q = 0 then xin p (i : Int) q L 0 (a, ed) else (a, ed)).1, (if rT p L q = 0 then xin p (i : Int) q L 0 (a, ed) else (a, ed)).2.map (mU L)) := by
 have ht := yF hL h11
 unfold jF
 simp only
 rw [aIi hp L (by omega), aK]
 by_cases hv : rT p L q = 0
 ·rw [if_neg (by simp [hv]), if_pos hv]
  have hsl : vY (dK L).Labels 1 ((dK L).Labels.length : Int) = some L := by
   have := aFJ (s := (dK L).Labels) (w := 1) (by simp [dK])
   rw [show ((1 : Nat) : Int) = 1 from rfl] at this
   rw [this]; rfl
  rw [hsl, aK]
  have := kM (step := fun s : List cB × List (bF × Int) × List lL × Int => fU ⟨[0], q⟩ (i : Int) ⟨[rY p L], [rZ p L]⟩ ⟨dK L, p⟩ L s.1 s.2.1 s.2.2.1 s.2.2.2) L.length (fun k (x : List Int × List Edge) => (Ws x.1, mp 0 x.1, x.2.map (mU L), (k : Int)))
   (fun k x => (Ws (xin p (i : Int) q (L.drop k) k x).1, mp 0 (xin p (i : Int) q (L.drop k) k x).1, (xin p (i : Int) q (L.drop k) k x).2.map (mU L))) (fun k x => WF p x.1 ∧ x.2.length ≤ 100000 + k) (fun k x hk hI => ?_) (fun x hI => ?_) L.length 0 (a, ed) (by omega) ⟨hw, by simpa using hed⟩
  ·rw [show (Ws a, mp 0 a, ed.map (mU L), (0 : Int)) = (Ws a, mp 0 a, ed.map (mU L), ((0 : Nat) : Int)) from rfl, this]; rfl
  ·left
   obtain ⟨a, ed⟩ := x
   obtain ⟨hw, hed⟩ := hI
   simp only at hw hed
   have hgo := aBk hp q L[k]
   refine ⟨((ins a (vK p q L[k])).1, ed ++ [⟨(i : Int), (k : Int) + 1, (ins a (vK p q L[k])).2⟩]), ?_, ⟨ins_WF hw hgo, by simp; omega⟩, ?_⟩
   ·simp only [fU, cV hk, if_pos, dJ hk, aK, aGg hL h11 (List.getElem_mem hk), aHg hp hps, iQ, find_eq hp hw _ hgo, gO, hJ, cN hk (show L.length < 4611686018427387904 by omega)]
    rw [if_pos (by simp), lA (by simp [nX]; omega), aK, aK]
    simp only [List.map_append, List.map_cons, List.map_nil]
    have : mU L ⟨(i : Int), (k : Int) + 1, (ins a (vK p q L[k])).2⟩ = ⟨(i : Int), L[k], (ins a (vK p q L[k])).2⟩ := by
     unfold mU
     have e : ((k : Int) + 1 - 1).toNat = k := by omega
     simp only [e]
     rw [List.getD_eq_getElem?_getD, List.getElem?_eq_getElem hk]; rfl
    rw [this]
   ·rw [List.drop_eq_getElem_cons hk, aDL]
  ·simp only [fU, cJ]
   simp [xin]
 ·rw [if_pos (by simpa using hv), if_neg hv]
end
end Gv
namespace Gv
open Go
structure ED (L : List bF) (i k : Int) (n : Nat) (ed : List Edge) : Prop where
 ord : ed.Pairwise aBj
 all : ∀ e ∈ ed, 0 ≤ e.From ∧ (e.From < i ∨ (e.From = i ∧ e.Label ≤ k)) ∧ 1 ≤ e.Label ∧ e.Label ≤ L.length ∧ 0 ≤ e.To ∧ e.To < n
section
variable {p : dC} {L : List bF}
theorem ED.mono {i k : Int} {n m : Nat} {ed : List Edge} (h : ED L i k n ed) (hm : n ≤ m) : ED L i k m ed :=
 ⟨h.ord, fun e he => by have := h.all e he; omega⟩
theorem ED.next {i k : Int} {n : Nat} {ed : List Edge} (h : ED L i k n ed) : ED L (i + 1) 0 n ed :=
 ⟨h.ord, fun e he => by have := h.all e he; omega⟩
theorem ins_to (a : List Int) (q : Int) : 0 ≤ (ins a q).2 ∧ (ins a q).2 < (ins a q).1.length ∧ a.length ≤ (ins a q).1.length := by
 unfold ins
 by_cases h : 0 ≤ pos a q
 ·rw [if_pos h]
  obtain ⟨i, hi, e, _⟩ := aCv (aHi.1 h)
  simp only; omega
 ·rw [if_neg h]; simp; omega
theorem xin_ED (i : Nat) (q : Int) : ∀ {ls : List bF} {k : Nat} {s : List Int × List Edge}, k + ls.length = L.length → ED L (i : Int) (k : Int) s.1.length s.2 → ED L (i : Int) (L.length : Int) (xin p (i : Int) q ls k s).1.length (xin p (i : Int) q ls k s).2
 | [], k, s, e, h => by
  simp only [List.length_nil, Nat.add_zero] at e
  subst e; exact h
 | l :: ls, k, (a, ed), e, h => by
  simp only [List.length_cons] at e
  rw [aDL]
  have ht := ins_to a (vK p q l)
  refine xin_ED i q (by omega) ⟨?_, fun e' he => ?_⟩
  ·simp only
   rw [List.pairwise_append]
   refine ⟨h.ord, by simp, fun x hx y hy => ?_⟩
   simp at hy; subst hy
   have := h.all x hx
   unfold aBj
   simp only; omega
  ·simp only at he ⊢
   rcases List.mem_append.1 he with he | he
   ·have := h.all e' he; simp only at this; omega
   ·simp at he; subst he
    exact ⟨by simp only; omega, .inr ⟨rfl, by simp only; omega⟩, by simp only; omega, by simp only; omega, ht.1, ht.2.1⟩
theorem xout_ED : ∀ {n i : Nat} {s : List Int × List Edge}, ED L (i : Int) 0 s.1.length s.2 → ∃ j : Int, ED L j 0 (aBn p L n i s).1.length (aBn p L n i s).2 ∧ (n + i ≥ 42 → (aBn p L n i s).1.length ≤ 41 → j ≤ (aBn p L n i s).1.length ∨ j = i)
 | 0, i, s, h => ⟨_, h, fun _ _ => .inr rfl⟩
 | n + 1, i, s, h => by
  unfold aBn
  cases hq : s.1[i]? with
  | none => exact ⟨_, h, fun _ _ => .inr rfl⟩
  | some q =>
   simp only
   have hil : i < s.1.length := (List.getElem?_eq_some_iff.1 hq).1
   have hn : ED L ((i + 1 : Nat) : Int) 0 (if rT p L q = 0 then xin p (i : Int) q L 0 s else s).1.length (if rT p L q = 0 then xin p (i : Int) q L 0 s else s).2 := by
    by_cases hv : rT p L q = 0
    ·rw [if_pos hv]
     have := (xin_ED (p := p) i q (ls := L) (k := 0) (s := s) (by omega) h).next
     rwa [show ((i : Nat) : Int) + 1 = ((i + 1 : Nat) : Int) by omega] at this
    ·rw [if_neg hv]
     have := h.next
     rwa [show ((i : Nat) : Int) + 1 = ((i + 1 : Nat) : Int) by omega] at this
   obtain ⟨j, h1, h2⟩ := xout_ED (n := n) hn
   have hp1 : s.1 <+: (if rT p L q = 0 then xin p (i : Int) q L 0 s else s).1 := by
    by_cases hv : rT p L q = 0
    ·rw [if_pos hv]; exact (aCu p (i : Int) q L 0 s).1
    ·rw [if_neg hv]; exact List.prefix_refl _
   have hp2 := (aAS p L n (i + 1) (if rT p L q = 0 then xin p (i : Int) q L 0 s else s)).1
   have hle := (hp1.trans hp2).length_le
   refine ⟨j, h1, fun hn hl => .inl ?_⟩
   rcases h2 (by omega) hl with h3 | h3
   ·exact h3
   ·omega
theorem xout_WF (hp : eA p) : ∀ {n i : Nat} {s : List Int × List Edge}, WF p s.1 → WF p (aBn p L n i s).1
 | 0, _, _, h => h
 | n + 1, i, s, h => by
  unfold aBn
  split
  ·exact h
  ·refine xout_WF hp ?_
   split
   ·exact aHj hp _ _ h
   ·exact h
theorem fin_WF (hp : eA p) : WF p (iP p L).1 := xout_WF hp ⟨by simp, fun q hq => by simp at hq; subst hq; have := hp.2.1; omega⟩
theorem fin_ED (hp : eA p) : (iP p L).2.Pairwise aBj ∧ ∀ e ∈ (iP p L).2, (0 ≤ e.From ∧ e.From < (iP p L).1.length) ∧ (1 ≤ e.Label ∧ e.Label ≤ L.length) ∧ 0 ≤ e.To ∧ e.To < (iP p L).1.length := by
 obtain ⟨j, h, hj⟩ := xout_ED (p := p) (L := L) (n := 42) (i := 0) (s := ([p.Initial], [])) ⟨by simp, fun e he => by simp at he⟩
 have hl := (fin_WF (L := L) hp).len hp
 have hpre := (aAS p L 42 0 ([p.Initial], [])).1.length_le
 simp only [List.length_singleton] at hpre
 have hj' : j ≤ (aBn p L 42 0 ([p.Initial], [])).1.length := by
  rcases hj (by omega) hl with h | h
  ·exact h
  ·omega
 refine ⟨h.ord, fun e he => ?_⟩
 have := h.all e he
 unfold iP
 omega
theorem aEp {a b : Edge} (h : aBj a b) : gC a b = true := by rw [edgeLt_iff]; unfold aBj at h; omega
theorem aJb {ed : List Edge} (h : ∀ e ∈ ed, 1 ≤ e.Label ∧ e.Label ≤ L.length) {a : lL} (ha : a ∈ ed.map (mU L)) : ∃ k, ∃ hk : k < L.length, a.label = L[k] := by
 obtain ⟨e, he, rfl⟩ := List.mem_map.1 ha
 have := h e he
 refine ⟨(e.Label - 1).toNat, by omega, ?_⟩
 unfold mU
 simp only
 rw [List.getD_eq_getElem?_getD, List.getElem?_eq_getElem (by omega)]; rfl
theorem arcs_back (hL : aDF L) {ed : List Edge} (h : ∀ e ∈ ed, 1 ≤ e.Label ∧ e.Label ≤ L.length) : ((ed.map (mU L)).map fun a => (⟨a.from_, pos (eL :: L) a.label, a.to_⟩ : Edge)) = ed := by
 rw [List.map_map]
 conv => rhs; rw [← List.map_id ed]
 refine List.map_congr_left fun e he => ?_
 have hb := h e he
 have hk : (e.Label - 1).toNat < L.length := by omega
 have : pos (eL :: L) (L.getD (e.Label - 1).toNat []) = e.Label := by
  rw [List.getD_eq_getElem?_getD, List.getElem?_eq_getElem hk]
  have := pos_at (R := fun a b => sC a b = true) (fun a h => by rw [labLt_irr] at h; cases h) hL.lab (k := (e.Label - 1).toNat + 1) (by simp; omega)
  simp only [List.getElem_cons_succ] at this
  simp only [Option.getD_some]
  rw [this]; omega
 simp only [Function.comp, mU, this, id]
def aDb (L : List bF) (ed : List Edge) : List bF := L.filter fun s => (ed.map (mU L)).any fun a => a.label == s
theorem aCh {ed : List Edge} (h : ∀ e ∈ ed, 1 ≤ e.Label ∧ e.Label ≤ L.length) {s : bF} : s ∈ aDb L ed ↔ s ∈ (ed.map (mU L)).map (·.label) := by
 unfold aDb
 rw [List.mem_filter, List.any_eq_true, List.mem_map]
 constructor
 ·rintro ⟨_, a, ha, e⟩
  exact ⟨a, ha, by simpa using e⟩
 ·rintro ⟨a, ha, rfl⟩
  obtain ⟨k, hk, e⟩ := aJb h ha
  exact ⟨e ▸ List.getElem_mem hk, a, ha, by simp⟩
theorem SetOk.sub {M : List bF} (hL : SetOk L) (h : M.Sublist L) : SetOk M := by
 refine ⟨fun s hs => hL.1 s (h.mem hs), fun k h1 hk => ?_⟩
 have := hL.strict.1.sublist h
 exact List.pairwise_iff_getElem.1 this (k - 1) k (by omega) hk (by omega)
theorem aFL (hL : SetOk L) {ed : List Edge} (ho : ed.Pairwise aBj) (h : ∀ e ∈ ed, 1 ≤ e.Label ∧ e.Label ≤ L.length) : ((ed.map (mU L)).map fun a => (⟨a.from_, pos (eL :: aDb L ed) a.label, a.to_⟩ : Edge)).Pairwise aBj := by
 rw [List.map_map, List.pairwise_map]
 have hM : SetOk (aDb L ed) := hL.sub List.filter_sublist
 refine ho.imp_of_mem fun {a b} ha hb hab => ?_
 unfold aBj at hab ⊢
 simp only [Function.comp, mU]
 rcases hab with hab | ⟨e, hab⟩
 ·exact .inl hab
 ·refine .inr ⟨e, ?_⟩
  have h1 := h a ha
  have h2 := h b hb
  have m1 : (mU L a).label ∈ aDb L ed := (aCh h).2 (List.mem_map_of_mem (List.mem_map_of_mem ha))
  have m2 : (mU L b).label ∈ aDb L ed := (aCh h).2 (List.mem_map_of_mem (List.mem_map_of_mem hb))
  refine pos_lt (R := fun a b => sC a b = true) (fun {a b} h1 h2 => ?_) hM.strict.lab (List.mem_cons_of_mem _ m1) (List.mem_cons_of_mem _ m2) ?_
  ·have := labLt_tr h1 h2
   rw [labLt_irr] at this; cases this
  ·have hs := hL.strict
   have g1 : (a.Label - 1).toNat < L.length := by omega
   have g2 : (b.Label - 1).toNat < L.length := by omega
   have := List.pairwise_iff_getElem.1 hs.1 _ _ g1 g2 (by omega)
   rw [List.getD_eq_getElem?_getD, List.getElem?_eq_getElem g1, List.getD_eq_getElem?_getD, List.getElem?_eq_getElem g2]
   simp only [Option.getD_some]
   rw [tS]
   refine ⟨fun e => (by rw [e, ltB_irrefl] at this; cases this), .inr ⟨fun e => hs.2 (e ▸ List.getElem_mem g2), this⟩⟩
theorem aIl {arcs : List lL} (h : arcs.length < 2000000) : yZ arcs = some (arcs.map (·.label)) := by
 unfold yZ
 rw [aAO (step := fun s : List bF × Int => pM arcs s.1 s.2) arcs (·.label) id (fun k out x hk ho hx => ?_) (fun out => by simp only [pM, cJ]; rfl), aK]
 ·rfl
 ·simp only [pM, cV hk, if_pos, hx, aK, cN hk (show arcs.length < 4611686018427387904 by omega)]
  rw [lA (by simp [nX]; omega), aK]
theorem arcs_eq {t : dC} (hv : ∀ e ∈ t.Edges, xD t e) (h : t.Edges.length < 2000000) : vV t = some (t.Edges.map fun e => ⟨e.From, txt t e, e.To⟩) := by
 unfold vV
 rw [aAO (step := fun s : List lL × Int => pO t s.1 s.2) t.Edges (fun e => (⟨e.From, txt t e, e.To⟩ : lL)) id (fun k out x hk ho hx => ?_) (fun out => by simp only [pO, cJ]; rfl), aK]
 ·rfl
 ·obtain ⟨hk', rfl⟩ := zI hx
  simp only [pO, cV hk, if_pos, hx, aK, aDK (hv _ (List.getElem_mem hk')), cN hk (show t.Edges.length < 4611686018427387904 by omega)]
  rw [lA (by simp [nX]; omega), aK]
def jJ (L : List bF) (n : Nat) (ed : List Edge) : dC := ⟨(n : Int), 0, eL :: aDb L ed, (ed.map (mU L)).map fun a => ⟨a.from_, pos (eL :: aDb L ed) a.label, a.to_⟩⟩
theorem aJc (hL : SetOk L) (h11 : L.length ≤ 11) {n : Nat} {ed : List Edge} (ho : ed.Pairwise aBj) (h : ∀ e ∈ ed, 1 ≤ e.Label ∧ e.Label ≤ L.length) (hl : ed.length < 2000000) : aEt (n : Int) 0 ((ed.map (mU L)).map (·.label)) (ed.map (mU L)) = some (jJ L n ed) := by
 have hM : SetOk (aDb L ed) := hL.sub List.filter_sublist
 have hMl : (aDb L ed).length ≤ L.length := List.length_filter_le _ _
 exact lts_eq hM.strict (fun s _ => (aCh h).symm) (by simp; omega) (by simp; omega) ((aFL hL ho h).imp aEp) (by omega)
theorem aGA (hL : SetOk L) {n : Nat} {ed : List Edge} (hall : ∀ e ∈ ed, (0 ≤ e.From ∧ e.From < n) ∧ (1 ≤ e.Label ∧ e.Label ≤ L.length) ∧ 0 ≤ e.To ∧ e.To < n) : ∀ e ∈ (jJ L n ed).Edges, xD (jJ L n ed) e := by
 intro e he
 unfold jJ at he
 rw [List.map_map] at he
 obtain ⟨x, hx, rfl⟩ := List.mem_map.1 he
 have := hall x hx
 have m1 : (mU L x).label ∈ aDb L ed := (aCh fun e he => (hall e he).2.1).2 (List.mem_map_of_mem (List.mem_map_of_mem hx))
 obtain ⟨i, hi, e1, _⟩ := aCv (List.mem_cons_of_mem eL m1)
 unfold xD jJ
 simp only [Function.comp]
 simp only [List.length_cons] at hi ⊢
 rw [e1]
 refine ⟨?_, ?_, ?_⟩
 ·unfold mU; simp only; omega
 ·unfold mU; simp only; omega
 ·omega
theorem foundT_ok (hL : SetOk L) (h11 : L.length ≤ 11) {n : Nat} {ed : List Edge} (hn : 1 ≤ n ∧ n ≤ 40) (ho : ed.Pairwise aBj) (hall : ∀ e ∈ ed, (0 ≤ e.From ∧ e.From < n) ∧ (1 ≤ e.Label ∧ e.Label ≤ L.length) ∧ 0 ≤ e.To ∧ e.To < n) : eA (jJ L n ed) ↔ ed.length ≤ 300 := by
 have hel : (jJ L n ed).Edges.length = ed.length := by simp [jJ]
 constructor
 ·intro h; have := h.2.2.2.1; omega
 ·intro h
  have hM : SetOk (aDb L ed) := hL.sub List.filter_sublist
  have hMl : (aDb L ed).length ≤ L.length := List.length_filter_le _ _
  refine ⟨⟨by simp only [jJ]; omega, by simp only [jJ]; omega⟩, ⟨by simp only [jJ]; omega, by simp only [jJ]; omega⟩, hM.labs (by omega), by omega, fun k hk => ⟨aGA hL hall _ (List.getElem_mem hk), fun h1 => ?_⟩⟩
  have := aFL hL ho fun e he => (hall e he).2.1
  exact aEp (List.pairwise_iff_getElem.1 this (k - 1) k (by have := hk; simp only [jJ] at this; omega) hk (by omega))
theorem aIm (hL : SetOk L) {n : Nat} {ed : List Edge} (hl : ed.length < 2000000) (hall : ∀ e ∈ ed, (0 ≤ e.From ∧ e.From < n) ∧ (1 ≤ e.Label ∧ e.Label ≤ L.length) ∧ 0 ≤ e.To ∧ e.To < n) : vV (jJ L n ed) = some (ed.map (mU L)) := by
 rw [arcs_eq (aGA hL hall) (by simp [jJ]; omega)]
 congr 1
 unfold jJ
 simp only
 rw [List.map_map, List.map_map]
 refine List.map_congr_left fun e he => ?_
 have m1 : (mU L e).label ∈ aDb L ed := (aCh fun e he => (hall e he).2.1).2 (List.mem_map_of_mem (List.mem_map_of_mem he))
 obtain ⟨i, hi, e1, e2⟩ := aCv (List.mem_cons_of_mem eL m1)
 simp only [Function.comp, txt, e1]
 rw [Int.toNat_natCast, List.getD_eq_getElem?_getD, List.getElem?_eq_getElem hi, e2]
 simp only [Option.getD_some]
end
end Gv
namespace Gv
open Go
section
variable {p : dC} {L : List bF}
theorem aIn (hp : eA p) (hps : jI p) (hL : SetOk L) (h11 : L.length ≤ 11) (hs : ∀ s ∈ L, s.length < 2000000) :
  hX ⟨[0], p.Initial⟩ ⟨[rY p L], [rZ p L]⟩ ⟨dK L, p⟩ = some (if (iP p L).1.length ≤ 40 then (jJ L (iP p L).1.length (iP p L).2, Ws (iP p L).1, decide ((iP p L).2.length ≤ 300)) else (⟨0, 0, [], []⟩, [], false)) := by
 have hi := hp.2.1
 have hinit : WF p [p.Initial] := ⟨by simp, fun q hq => by simp at hq; subst hq; omega⟩
 unfold hX
 have hf := find_eq hp (a := []) ⟨by simp, by simp⟩ [] (q := p.Initial) (by omega)
 have hins : ins [] p.Initial = ([p.Initial], 0) := rfl
 rw [hins] at hf
 rw [show dE [] [] [] ⟨[0], p.Initial⟩ = _ from hf, aK]
 simp only
 have hloop := loop_eq (step := fun s : List cB × List (bF × Int) × List lL × Int => eS ⟨[rY p L], [rZ p L]⟩ ⟨dK L, p⟩ s.1 s.2.1 s.2.2.1 s.2.2.2)
  (fun s => ∃ (i : Nat) (a : List Int) (ed : List Edge), s = (Ws a, mp 0 a, ed.map (mU L), (i : Int)) ∧ i ≤ a.length ∧ WF p a ∧ a.length ≤ 40 ∧ ed.length ≤ 11 * i ∧ aBn p L (42 - i) i (a, ed) = iP p L)
  (fun s => 42 - s.2.2.2.toNat)
  (if (iP p L).1.length ≤ 40 then .inl (Ws (iP p L).1, mp 0 (iP p L).1, (iP p L).2.map (mU L)) else .inr (⟨0, 0, [], []⟩, [], false))
  (fun s hI => ?_) (s := (Ws [p.Initial], mp 0 [p.Initial], [], 0)) ⟨0, [p.Initial], [], rfl, by simp, hinit, by simp, by simp, rfl⟩
 ·rw [hloop, aK]
  by_cases hok : (iP p L).1.length ≤ 40
  ·rw [if_pos hok, if_pos hok]
   simp only
   have hw := fin_WF (L := L) hp
   obtain ⟨ho, hall⟩ := fin_ED (L := L) hp
   have hn0 : 1 ≤ (iP p L).1.length := by
    have := (aAS p L 42 0 ([p.Initial], [])).1.length_le
    exact this
   have hel : (iP p L).2.length ≤ 1000 := by
    have hsub : ((iP p L).2.map fun e => (e.From, e.Label)).Nodup := by
     unfold List.Nodup
     rw [List.pairwise_map]
     refine ho.imp fun {a b} h e => ?_
     simp only [Prod.mk.injEq] at e
     unfold aBj at h; omega
    have := List.Nodup.length_le_of_subset (l₂ := (List.range 1000).map fun (i : Nat) => (((i / 12 : Nat) : Int), ((i % 12 : Nat) : Int))) hsub (fun x hx => by
     obtain ⟨e, he, rfl⟩ := List.mem_map.1 hx
     have := hall e he
     rw [List.mem_map]
     refine ⟨e.From.toNat * 12 + e.Label.toNat, by rw [List.mem_range]; omega, ?_⟩
     simp only [Prod.mk.injEq]
     omega)
    simpa using this
   unfold gA
   rw [aIl (by simp; omega), aK, show (Ws (iP p L).1).length = (iP p L).1.length by simp [Ws], aJc hL h11 ho (fun e he => (hall e he).2.1) (by omega), aK]
   unfold iR
   rw [show (⟨(jJ L (iP p L).1.length (iP p L).2).States, (jJ L (iP p L).1.length (iP p L).2).Initial, (jJ L (iP p L).1.length (iP p L).2).Labels, (jJ L (iP p L).1.length (iP p L).2).Edges⟩ : dC) = jJ L (iP p L).1.length (iP p L).2 from rfl]
   have hMl : (aDb L (iP p L).2).length ≤ L.length := List.length_filter_le _ _
   rw [tU _ ⟨by simp only [jJ, List.length_cons]; omega, fun s hs' => by
    simp only [jJ] at hs'
    rcases List.mem_cons.1 hs' with rfl | hs'
    ·decide
    ·have := hs s (List.mem_filter.1 hs').1; omega, by simp [jJ]; omega⟩, aK]
   rw [aAQ (b := decide ((iP p L).2.length ≤ 300)) (by rw [decide_eq_true_iff]; exact (foundT_ok hL h11 ⟨hn0, hok⟩ ho hall).symm)]
  ·rw [if_neg hok, if_neg hok]
 ·obtain ⟨i, a, ed, rfl, hia, hw, h40, hed, hx⟩ := hI
  simp only
  have hwl : ∀ a : List Int, (Ws a).length = a.length := fun a => by simp [Ws]
  by_cases hil : i < a.length
  ·have hq : a[i]? = some a[i] := List.getElem?_eq_getElem hil
   have hqr := hw.2 a[i] (List.getElem_mem hil)
   have hwi : ix (Ws a) (i : Int) = some ⟨[0], a[i]⟩ := by rw [vL]; simp [Ws, hil]
   rw [show 42 - i = (41 - i) + 1 by omega] at hx
   unfold aBn at hx
   rw [hq] at hx
   simp only at hx
   simp only [eS, hwl, cV hil, if_pos, hwi, aK, moves_eq hp hps hL h11 (i := i) hw (show ed.length ≤ 100000 by omega) hqr]
   have hpre : a <+: (if rT p L a[i] = 0 then xin p (i : Int) a[i] L 0 (a, ed) else (a, ed)).1 := by
    by_cases hv : rT p L a[i] = 0
    ·rw [if_pos hv]; exact (aCu p (i : Int) a[i] L 0 (a, ed)).1
    ·rw [if_neg hv]; exact List.prefix_refl _
   have hwr : WF p (if rT p L a[i] = 0 then xin p (i : Int) a[i] L 0 (a, ed) else (a, ed)).1 := by
    by_cases hv : rT p L a[i] = 0
    ·rw [if_pos hv]; exact aHj hp _ _ hw
    ·rw [if_neg hv]; exact hw
   have hlr : (if rT p L a[i] = 0 then xin p (i : Int) a[i] L 0 (a, ed) else (a, ed)).2.length ≤ 11 * (i + 1) := by
    have hxl : ∀ (ls : List bF) (k : Nat) (s : List Int × List Edge), (xin p (i : Int) a[i] ls k s).2.length = s.2.length + ls.length := by
     intro ls
     induction ls with
     | nil => intro k s; rfl
     | cons l ls ih => intro k s; obtain ⟨s1, s2⟩ := s; rw [aDL, ih]; simp; omega
    by_cases hv : rT p L a[i] = 0
    ·rw [if_pos hv, hxl]; simp only; omega
    ·rw [if_neg hv]; simp only; omega
   generalize (if rT p L a[i] = 0 then xin p (i : Int) a[i] L 0 (a, ed) else (a, ed)) = r at hx hpre hwr hlr ⊢
   have hxp := (aAS p L (41 - i) (i + 1) r).1.length_le
   rw [hx] at hxp
   simp only [Bool.not_true, Bool.false_eq_true, if_false, gB, hwl]
   by_cases hok : r.1.length ≤ 40
   ·left
    rw [if_neg (by simp; omega)]
    refine ⟨_, rfl, ⟨i + 1, r.1, r.2, ?_, by have := hpre.length_le; omega, hwr, hok, hlr, ?_⟩, ?_⟩
    ·rw [cN hil (by omega)]
    ·rw [show 42 - (i + 1) = 41 - i by omega]; exact hx
    ·simp only [cN hil (show a.length < 4611686018427387904 by omega), Int.toNat_natCast]; omega
   ·right
    rw [if_pos (by simp; omega), if_neg (by omega)]
  ·right
   obtain rfl : i = a.length := by omega
   rw [show 42 - a.length = (41 - a.length) + 1 by omega] at hx
   unfold aBn at hx
   rw [List.getElem?_eq_none (Nat.le_refl _)] at hx
   simp only at hx
   rw [← hx]
   simp only [eS, hwl, cJ]
   rw [if_pos h40]; rfl
theorem aJd (hp : eA p) (hps : jI p) (hL : SetOk L) (h11 : L.length ≤ 11) (hs : ∀ s ∈ L, s.length < 2000000) : kZ ⟨dK L, p⟩ = some (res p L) := by
 have ht := yF hL h11
 unfold kZ rM
 rw [leave_eq ht hp hps, aK, stay_eq ht hp hps, aK, aK, aFK]
 simp only
 rw [show (dK L).Initial = 0 from rfl, aEC ht.ok ht.single [0] (by simp), aK]
 unfold lF
 simp only
 rw [aIn hp hps hL h11 hs, aK]
 unfold res
 by_cases h40 : (iP p L).1.length ≤ 40
 ·rw [if_pos h40]
  simp only
  by_cases h300 : (iP p L).2.length ≤ 300
  ·rw [decide_eq_true h300, if_neg (by simp), if_pos ⟨h40, h300⟩]
   obtain ⟨ho, hall⟩ := fin_ED (L := L) hp
   rw [aIm hL (by omega) hall, aK, show (dK L).Labels = eL :: L from rfl, show (jJ L (iP p L).1.length (iP p L).2).States = ((iP p L).1.length : Int) from rfl]
   have hback := arcs_back hL.strict (ed := (iP p L).2) (fun e he => (hall e he).2.1)
   rw [lts_eq (M := L) hL.strict (fun s hs => by simp [hs]) (by simp; omega) (by simp; omega) (by rw [hback]; exact ho.imp aEp) (by omega), aK, hback]
   unfold lE
   simp only
   have hw := fin_WF (L := L) hp
   rw [aAO (step := fun s : List Int × Int => gX ⟨[rY p L], [rZ p L]⟩ (jJ L (iP p L).1.length (iP p L).2, Ws (iP p L).1, true) s.1 s.2) (Ws (iP p L).1) (fun w => rT p L w.y) id (fun k out x hk ho' hx => ?_) (fun out => by simp only [gX, cJ]; rfl), aK]
   ·unfold jG Ws
    simp [Function.comp_def]
   ·have hwl : (Ws (iP p L).1).length = (iP p L).1.length := by simp [Ws]
    have hx' : x = ⟨[0], (iP p L).1[k]'(by omega)⟩ := by
     rw [dJ hk] at hx
     simp only [Ws, List.getElem_map, Option.some.injEq] at hx
     exact hx.symm
    have hqr := hw.2 _ (List.getElem_mem (l := (iP p L).1) (n := k) (by omega))
    simp only [gX, cV hk, if_pos, hx, aK, cN hk (show (Ws (iP p L).1).length < 4611686018427387904 by omega)]
    rw [hx']
    simp only
    rw [aIi hp L (by omega), aK, lA (by simp [nX, ho']; omega), aK]
  ·rw [decide_eq_false h300, if_pos (by simp), if_neg (fun h => h300 h.2)]; rfl
 ·rw [if_neg h40, if_pos (by simp), if_neg (fun h => h40 h.1)]; rfl
theorem aDN (p : dC) (L : List bF) (hf : kN 999999999 p) (hl : L.length < 2000000) (hs : ∀ s ∈ L, s.length < 2000000) : nK p L = some (PM p L) := by
 have hs' : ∀ s ∈ L, s.length < 1000000000 := fun s h => by have := hs s h; omega
 unfold nK PM
 rw [tU p hf, aK]
 cases hv : cl (eA p) with
 | false => simp [sT]
 | true =>
  have hp : eA p := qZ.1 hv
  simp only [Bool.not_true, Bool.false_eq_true, if_false, aHZ p hf, aK, reduceCtorEq]
  rw [cl_and, hv, Bool.true_and]
  cases hsg : cl (jI p) with
  | false => simp [sT]
  | true =>
   have hps : jI p := qZ.1 hsg
   simp only [Bool.not_true, Bool.false_eq_true, if_false, aK, isSet_eq L (by omega) hs', reduceCtorEq]
   cases hset : cl (SetOk L) with
   | false => simp [sT]
   | true =>
    have hL : SetOk L := qZ.1 hset
    simp only [Bool.not_true, Bool.false_eq_true, if_false, reduceCtorEq]
    rw [aAO (step := fun s : List lL × Int => jZ L s.1 s.2) L (fun s => (⟨0, s, 0⟩ : lL)) id (fun k out x hk ho hx => ?_) (fun out => by simp only [jZ, cJ]; rfl), aK]
    ·have hedges : ((L.map fun s => (⟨0, s, 0⟩ : lL)).map fun a => (⟨a.from_, pos (eL :: L) a.label, a.to_⟩ : Edge)) = (dK L).Edges := by
      refine List.ext_getElem (by simp [dK]) fun i h1 h2 => ?_
      rw [rS h2]
      have hi : i < L.length := by simpa using h1
      simp only [List.getElem_map]
      have := pos_at (R := fun a b => sC a b = true) (fun a h => by rw [labLt_irr] at h; cases h) hL.strict.lab (k := i + 1) (by simp; omega)
      simp only [List.getElem_cons_succ] at this
      rw [this]
      simp
     have hpw : (dK L).Edges.Pairwise fun a b => gC a b = true := by
      rw [List.pairwise_iff_getElem]
      intro i j hi hj hij
      rw [rS hi, rS hj, edgeLt_iff]
      refine .inr ⟨rfl, .inl ?_⟩
      simp only; omega
     unfold mF
     simp only [id]
     rw [lts_eq (M := L) hL.strict (fun s _ => Iff.rfl) (by omega) (by simp; omega) (by rw [hedges]; exact hpw) (by omega), aK, hedges]
     rw [show (⟨1, 0, eL :: L, (dK L).Edges⟩ : dC) = dK L from rfl]
     have hfit : kN 999999999 (dK L) := ⟨by simp [dK]; omega, fun s h => by
      rcases List.mem_cons.1 h with rfl | h
      ·decide
      ·have := hs s h; omega, by rw [aAR]; omega⟩
     rw [tU _ hfit, aK]
     by_cases h12 : 12 ≤ L.length
     ·rw [if_pos h12, oW (P := eA (dK L)) (fun h => by have := h.2.2.1.2.1; simp [dK] at this; omega)]; rfl
     ·have ht := yF hL (by omega)
      rw [if_neg h12, tV ht.ok, if_neg (by simp)]
      unfold wL uX
      rw [tU _ hfit, aK, tV ht.ok]
      simp only [Bool.not_true, Bool.false_eq_true, if_false, tU p hf, aK, hv, lW, aHZ p hf, cl_and, hsg, Bool.and_self, bne_self_eq_false, aJd hp hps hL (show L.length ≤ 11 by omega) hs]
      cases (res p L).2 <;> rfl
    ·simp only [jZ, cV hk, if_pos, hx, aK, cN hk (show L.length < 4611686018427387904 by omega)]
     rw [lA (by simp [nX]; omega), aK]
end
end Gv
namespace Gv
open Go
theorem aFM {t : dC} (hf : kN sz t) (a b : Int) : yE a b t.Labels t.Edges 1 = some ((1 : Int) + t.Labels.length + 3 * t.Edges.length, mS 1 t.Labels.length, mE (1 + t.Labels.length) t.Edges.length) := by
 obtain ⟨f1, _, f3⟩ := hf
 unfold sz at f1 f3
 unfold yE
 rw [aCf (by omega) (by omega) (by omega), aK]
 simp only
 rw [aGW (by omega) (by omega) (by omega), aK]
theorem mark_held {m : dS} (hf : kN sz m.System) (hv : m.Verdicts.length ≤ sz) : ∃ k Ls Es Vs, sQ m.System.States m.System.Initial m.System.Labels m.System.Edges m.Verdicts 1 = some (k, Ls, Es, Vs) ∧ pR ⟨⟨m.System.States, m.System.Initial, Ls, Es⟩, Vs⟩ 1 = some k ∧ 0 ≤ k := by
 have h1 := aFM hf m.System.States m.System.Initial
 obtain ⟨f1, _, f3⟩ := hf
 unfold sz at f1 f3 hv
 refine ⟨(1 : Int) + m.System.Labels.length + 3 * m.System.Edges.length + m.Verdicts.length, mS 1 m.System.Labels.length, mE (1 + m.System.Labels.length) m.System.Edges.length, mI (1 + m.System.Labels.length + 3 * m.System.Edges.length) m.Verdicts.length, ?_, ?_, by omega⟩
 ·unfold sQ
  rw [h1, aK]
  simp only
  rw [aFY (by omega) (by omega) (by omega), aK]
 ·unfold pR aCq
  simp only
  rw [aFt (by omega) (by omega) (by omega), aK, if_neg (by simp only [decide_eq_true_eq]; omega), aGX (by omega) (by omega) (by omega), aK, if_neg (by simp only [decide_eq_true_eq]; omega), aK, if_neg (by simp only [decide_eq_true_eq]; omega), aFZ (by omega) (by omega) (by omega), aK, if_neg (by simp only [decide_eq_true_eq]; omega)]
theorem PM_fits {p : dC} {L : List bF} (hs : ∀ s ∈ L, s.length ≤ sz) : kN sz (PM p L).1.System ∧ (PM p L).1.Verdicts.length ≤ sz := by
 have h0 : kN sz sT.System ∧ sT.Verdicts.length ≤ sz := ⟨⟨by simp [sT], by simp [sT], by simp [sT]⟩, by simp [sT]⟩
 unfold PM
 split
 ·exact h0
 split
 ·exact h0
 split
 ·exact h0
 split
 ·exact h0
 split
 ·exact h0
 ·rename_i h12 _
  simp only
  unfold res
  split
  ·rename_i hok
   refine ⟨⟨?_, fun s h => ?_, ?_⟩, ?_⟩
   ·simp only [List.length_cons]; unfold sz; omega
   ·rcases List.mem_cons.1 h with rfl | h
    ·decide
    ·exact hs s h
   ·simp only; unfold sz; omega
   ·simp only [List.length_map]; unfold sz; omega
  ·exact h0
theorem kN.mono {a b : Nat} {t : dC} (h : kN a t) (hab : a ≤ b) : kN b t := ⟨Nat.le_trans h.1 hab, fun s hs => Nat.le_trans (h.2.1 s hs) hab, Nat.le_trans h.2.2 hab⟩
theorem law (aP : dC) (aL : List bF) (hP : kN 9223372036854775807 aP) (hL : aL.length ≤ 9223372036854775807) (hS : ∀ s ∈ aL, s.length ≤ 9223372036854775807) : lG aP aL = some true := by
 obtain ⟨r, hr, h1⟩ := aIE (t := aP) (left := 1048576) (by omega) (by decide) hP
 unfold lG
 rw [hr, aK]
 by_cases hn : r < 0
 ·rw [if_pos (by simpa using hn)]
 rw [if_neg (by simpa using hn)]
 obtain ⟨hrl, hfit⟩ := h1 (by omega)
 obtain ⟨r', hr', h2⟩ := aCe (a := aL) (left := r) (by omega) (by unfold sz; omega) (by omega) (fun s hs => by have := hS s hs; omega)
 rw [hr', aK]
 by_cases hn' : r' < 0
 ·rw [if_pos (by simpa using hn')]
 rw [if_neg (by simpa using hn')]
 obtain ⟨_, hl, hs⟩ := h2 (by omega)
 have hl' : aL.length ≤ 1048576 := by omega
 have hs' : ∀ s ∈ aL, s.length ≤ sz := fun s h => by have := hs s h; unfold sz; omega
 have hs2 : ∀ s ∈ aL, s.length ≤ 1048576 := fun s h => by have := hs s h; omega
 have t1 := toLts_eq (hfit.mono sz_lim)
 have t2 : kP aL = some aL := aDG (by simp [nX]; omega)
 have s1 := aDM aP aL (hfit.mono (by decide)) (by omega) (fun s h => by have := hs2 s h; omega)
 have i1 := aDN aP aL (hfit.mono (by decide)) (by omega) (fun s h => by have := hs2 s h; omega)
 obtain ⟨pf, pv⟩ := PM_fits (p := aP) (L := aL) hs'
 have e1 := aGV (PM aP aL).1 (PM aP aL).1 (pf.mono (by decide)) (Nat.lt_of_le_of_lt pv (by decide))
 rw [decide_eq_true (p := (PM aP aL).1 = (PM aP aL).1) rfl] at e1
 have e2 := aHT aP aP (hfit.mono (by decide))
 rw [decide_eq_true (p := aP = aP) rfl] at e2
 have e3 := aDH aL aL (by omega)
 rw [decide_eq_true (p := aL = aL) rfl] at e3
 obtain ⟨k, Ls, Es, Vs, m1, m2, m3⟩ := mark_held pf pv
 have k1 := aFM hfit aP.States aP.Initial
 obtain ⟨f1, _, f3⟩ := hfit
 unfold sz at f1 f3
 have k2 := aCf (a := aL) (k := 1 + aP.Labels.length + 3 * aP.Edges.length) (by omega) (by omega) (by omega)
 simp only [t1, t2, s1, i1, e1, aK, Bool.not_true, Bool.false_eq_true, if_false, bne_self_eq_false]
 unfold iA
 simp only [Bool.false_eq_true, if_false, t1, t2, e2, e3, k1, k2, aK, Bool.not_true, e1, bne_self_eq_false]
 rw [if_neg (by simp only [decide_eq_true_eq]; omega)]
 unfold fV
 simp only [Bool.false_eq_true, if_false, m1, m2, aK, bne_self_eq_false, t1, t2, i1, e1, Bool.not_true]
 rw [if_neg (by simp only [decide_eq_true_eq]; omega)]
 unfold hY
 simp only [Bool.false_eq_true, if_false, m2, aK, bne_self_eq_false]
 rw [if_neg (by simp only [decide_eq_true_eq]; omega)]
end Gv
#print axioms Gv.law
