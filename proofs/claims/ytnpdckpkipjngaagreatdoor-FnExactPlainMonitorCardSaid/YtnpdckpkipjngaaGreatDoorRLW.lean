/- Contracts of functions of Go's library, said of heaps of pieces. -/
import Derived.Test.YtnpdckpkipjngaaGreatDoorRLWa
import Derived.Test.YtnpdckpkipjngaaGreatDoorRWk0
import Derived.Test.YtnpdckpkipjngaaGreatDoorRP11
set_option linter.all false
namespace Gv
open Go Go.Proofs Go.RowKit Go.Sort
section
variable {G : Env} {K : Hp} {L : List nV} {w : World}
def cmpL (a b : bF) : Int := if a == b then 0 else if a == eL then -1 else if b == eL then 1 else cmpB a b
theorem cmpL_eq (a b : bF) : sY a b = some (cmpL a b) := by
 unfold sY cmpL
 rw [show ([116, 97, 117] : bF) = eL from rfl]
 cases a == b <;> cases a == eL <;> cases b == eL <;> rfl
theorem aGO (a b : bF) : ltOf cmpL a b = sC a b := by
 unfold ltOf cmpL sC cmpB
 by_cases h1 : a = b
 ·simp [h1]
 ·by_cases h2 : a = eL
  ·subst h2; simp [h1]
  ·by_cases h3 : b = eL
   ·simp [h1, h2, h3]
   ·simp only [h1, h2, h3, beq_iff_eq, if_false]
    cases vI a b <;> rfl
def cmpE (a b : Edge) : Int := or3 (icmp a.From b.From) (icmp a.Label b.Label) (icmp a.To b.To)
theorem aGP (a b : Edge) : ltOf cmpE a b = gC a b := by
 unfold ltOf cmpE
 have := cmpE_ge a b
 cases hx : gC a b with
 | true => rw [hx] at this; simp at this; simpa using this
 | false => rw [hx] at this; simp at this; simpa using this
theorem aFc (a b : Edge) : gC a b = true ∨ a = b ∨ gC b a = true := by
 rw [edgeLt_iff, edgeLt_iff]
 obtain ⟨a1, a2, a3⟩ := a
 obtain ⟨b1, b2, b3⟩ := b
 simp only [Edge.mk.injEq]
 omega
theorem edgeLt_tr {a b c : Edge} (h1 : gC a b = true) (h2 : gC b c = true) : gC a c = true := by
 rw [edgeLt_iff] at *; omega
theorem swo_of {α : Type} {lt lt' : α → α → Bool} (he : ∀ a b, lt' a b = lt a b) (irr : ∀ a, lt a a = false) (tr : ∀ {a b c}, lt a b = true → lt b c = true → lt a c = true) (tri : ∀ a b, lt a b = true ∨ a = b ∨ lt b a = true) : Sort.SWO lt' := by
 obtain rfl : lt' = lt := by funext a b; exact he a b
 refine ⟨irr, fun x y z => tr, fun x y z h1 h2 => ?_⟩
 rcases tri x y with h | h | h
 ·rw [h] at h1; cases h1
 ·subst h; exact h2
 ·rcases tri y z with g | g | g
  ·rw [g] at h2; cases h2
  ·subst g; exact h1
  ·cases hx : lt' x z with
   | false => rfl
   | true =>
    have := tr (tr g h) hx
    rw [irr] at this; cases this
theorem aHL {α : Type} {lt lt' : α → α → Bool} (he : ∀ a b, lt' a b = lt a b) (tri : ∀ a b, lt a b = true ∨ a = b ∨ lt b a = true) (x y : α) (h1 : lt' x y = false) (h2 : lt' y x = false) : x = y := by
 rw [he] at h1 h2
 rcases tri x y with h | h | h
 ·rw [h] at h1; cases h1
 ·exact h
 ·rw [h] at h2; cases h2
theorem aHM {E : TypeId} {xs : List bF} {a : Option Addr} {c : Nat} {R : List bF} (hs : aN G K (aT E K a c xs :: L) w) (hm : aAt xs = some R) :
  Calls Tryz.prog 79 ([Value.slice a xs.length c, Value.func (.func 80) #[] #[]] : List Value).toArray w (fW fun v w' => v = Value.tuple #[] ∧ xs.length = R.length ∧ aN G K (aT E K a c R :: L) w') := by
 unfold aAt at hm
 split at hm
 ·rename_i hl
  cases hm
  unfold nX at hl
  have hlen : (srt sC xs).length = xs.length := List.length_mergeSort _
  have hlay : ∀ b off, a = some ⟨b, off, none⟩ → ∀ (m : Nat) (os : Array Obj) (dk : Array bF), dk.size = xs.length → aN G K (aT E K a c dk.toList :: L) (sortWorld cF w b off m dk os) := by
   rintro b off rfl m os dk hdk
   unfold sortWorld
   rw [aFb]
   refine aN.putRow (i := 0) hs rfl (by simp [hdk]) ?_
   rw [aHJ]; simp
  rcases aDW hs (i := 0) rfl with ⟨rfl, rfl⟩ | ⟨b, off, rfl, hb, hc⟩
  ·refine (Tryz.slices_SortFunc_none_f79 (α := bF) none c _ w).mono ?_
   rintro e w' ⟨rfl, rfl⟩
   exact ⟨_, rfl, rfl, hlen.symm, by simpa [srt] using hs⟩
  ·refine (Tryz.slices_SortFunc_total_f79 (α := bF) cF (fun _ => rfl) cmpL (swo_of aGO labLt_irr labLt_tr labLt_tri) 80 #[] b off c xs.toArray w (enters_of Tryz.func80 (by kernel_rfl) rfl) ?_ ?_ hb (by simp; omega) (aHL aGO labLt_tri)).mono ?_
   ·intro m os dk hdk x y
    have hst := hlay b off rfl m os dk (by simpa using hdk)
    have := aBY (aN.start (sortWorld cF w b off m dk os) G.laid hst.globs) (cmpL_eq x y)
    refine this.mono ?_
    rintro e w' ⟨v, rfl, rfl, hx⟩
    exact ⟨rfl, hx.exact⟩
   ·intro j hj
    have hj' : j < xs.length := by simpa using hj
    have := hc j (cF xs[j]) (by rw [aHJ]; simp [hj'])
    rw [getElem!_pos xs.toArray j hj]
    simpa using this
   ·rintro e w' ⟨rfl, n, os, rfl⟩
    refine ⟨_, rfl, rfl, hlen.symm, ?_⟩
    have := hlay b off rfl n os (srt sC xs).toArray (by simpa using hlen)
    have he : (xs.toArray.toList.mergeSort fun x y => !ltOf cmpL y x) = srt sC xs := by
     unfold srt; congr 1; funext x y; rw [aGO]
    rw [he]
    simpa using this
 ·cases hm
theorem aHN {β : Type} [fF β] : ∀ (l : List β) (i r : Nat) (hi : i < l.length), r < fF.sz β → (iD l)[i * fF.sz β + r]? = (fF.enc l[i])[r]?
 | [], i, r, hi, _ => by simp at hi
 | x :: l, 0, r, hi, hr => by
  unfold iD
  rw [List.flatMap_cons, Nat.zero_mul, Nat.zero_add, List.getElem?_append_left (by rw [fF.len]; exact hr)]; rfl
 | x :: l, i + 1, r, hi, hr => by
  have := aHN l i r (by simpa using hi) hr
  unfold iD at this ⊢
  rw [List.flatMap_cons, Nat.add_mul, Nat.one_mul, List.getElem?_append_right (by rw [fF.len]; omega), fF.len]
  rw [show i * fF.sz β + fF.sz β + r - fF.sz β = i * fF.sz β + r by omega, this]; rfl
theorem aHO {β : Type} [fF β] [Inhabited β] (l : List β) : (flatK fF.enc (fF.sz β) l.toArray).toList = iD l := by
 have hz := fF.pos (α := β)
 refine List.ext_getElem? fun t => ?_
 unfold flatK
 by_cases ht : t < l.length * fF.sz β
 ·have h1 : t / fF.sz β < l.length := Nat.div_lt_of_lt_mul (by rw [Nat.mul_comm]; exact ht)
  have h2 : t % fF.sz β < fF.sz β := Nat.mod_lt _ hz
  have h3 := aHN l (t / fF.sz β) (t % fF.sz β) h1 h2
  rw [Nat.div_add_mod'] at h3
  rw [h3]
  simp only [Array.toList_map, Array.toList_range, List.getElem?_map, List.size_toArray, List.getElem?_range ht, Option.map_some]
  rw [getElem!_pos l.toArray _ (by simpa using h1)]
  have h4 : t % fF.sz β < (fF.enc l[t / fF.sz β]).length := by rw [fF.len]; exact h2
  rw [List.getElem?_eq_getElem h4]
  simp only [List.getElem_toArray]
  rw [getElem!_pos (fF.enc l[t / fF.sz β]) (t % fF.sz β) h4]
 ·rw [List.getElem?_eq_none (by simp; omega), List.getElem?_eq_none (by rw [sA]; omega)]
theorem aGQ {E : TypeId} {xs : List Edge} {a : Option Addr} {c : Nat} {R : List Edge} (hs : aN G K (aT E K a c xs :: L) w) (hm : yJ xs = some R) :
  Calls Tryz.prog 83 ([Value.slice a xs.length c, Value.func (.func 77) #[] #[]] : List Value).toArray w (fW fun v w' => v = Value.tuple #[] ∧ xs.length = R.length ∧ aN G K (aT E K a c R :: L) w') := by
 unfold yJ at hm
 split at hm
 ·rename_i hl
  cases hm
  unfold nX at hl
  have hlen : (srt gC xs).length = xs.length := List.length_mergeSort _
  have hlay : ∀ b off, a = some ⟨b, off, none⟩ → ∀ (m : Nat) (os : Array Obj) (dk : Array Edge), dk.size = xs.length → aN G K (aT E K a c dk.toList :: L) (sortWorldK fF.enc 3 w b off m dk os) := by
   rintro b off rfl m os dk hdk
   unfold sortWorldK putRowK
   refine aN.putRow (i := 0) hs rfl (by simp [hdk]) ?_
   exact aHO dk.toList
  rcases aDW hs (i := 0) rfl with ⟨rfl, rfl⟩ | ⟨b, off, rfl, hb, hc⟩
  ·refine (Tryz.slices_SortFunc_none_f83 (α := Edge) none c _ w).mono ?_
   rintro e w' ⟨rfl, rfl⟩
   exact ⟨_, rfl, rfl, hlen.symm, by simpa [srt] using hs⟩
  ·refine (Tryz.slices_SortFunc_total_f83 (α := Edge) 3 Tryz.isAgg63 Tryz.sizeOf63 fF.enc (fun _ => rfl) (fun x v hv => fF.one x v hv) cmpE (swo_of aGP (fun a => by cases hx : gC a a with | false => rfl | true => exact absurd rfl (edgeLt_ne hx)) edgeLt_tr aFc) 77 #[] b off c xs.toArray w (enters_of Tryz.func77 (by kernel_rfl) rfl) ?_ ?_ hb (by simp; omega) (aHL aGP aFc)).mono ?_
   ·intro m os dk hdk x y
    have hst := hlay b off rfl m os dk (by simpa using hdk)
    have := xF (aN.start (sortWorldK fF.enc 3 w b off m dk os) G.laid hst.globs) (compareEdges_eq x y)
    refine this.mono ?_
    rintro e w' ⟨v, rfl, rfl, hx⟩
    exact ⟨rfl, hx.exact⟩
   ·intro j hj
    have hf := aHO xs
    have hj3 : j < xs.length * 3 := by have h := hj; rw [size_flatK] at h; simpa using h
    have hj2 : j < (iD xs).length := by rw [sA]; exact hj3
    have := hc j (iD xs)[j] (by rw [List.getElem?_eq_getElem hj2])
    have e : (flatK fF.enc 3 xs.toArray)[j]! = (iD xs)[j] := by
     rw [getElem!_pos (flatK fF.enc 3 xs.toArray) j hj]
     have : (flatK fF.enc 3 xs.toArray)[j] = (flatK fF.enc (fF.sz Edge) xs.toArray).toList[j]'(by rw [hf]; exact hj2) := by simp; rfl
     rw [this]
     simp only [hf]
    rw [e]
    exact this
   ·rintro e w' ⟨rfl, n, os, rfl⟩
    refine ⟨_, rfl, rfl, hlen.symm, ?_⟩
    have := hlay b off rfl n os (srt gC xs).toArray (by simpa using hlen)
    have he : (xs.toArray.toList.mergeSort fun x y => !ltOf cmpE y x) = srt gC xs := by
     unfold srt; congr 1; funext x y; rw [aGP]
    rw [he]
    simpa using this
 ·cases hm
end
end Gv
