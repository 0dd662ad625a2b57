/- Plain: lists of numbers, an element taken out, an element put in. -/
import Derived.Test.YthbpflnbgcdmiaaFin1
namespace Go.Proofs.Ythbpflnbgcdmiaa
open Go Go.Proofs.Ythbpflnbgcdmiaa.Sy
set_option linter.unusedSimpArgs false
set_option linter.unusedVariables false

/-- An element is taken out; those behind it, as far as a place, have moved on. -/
def shL (l : List Int) (p j : Nat) : List Int := (List.range l.length).map fun q => if q < p then l.getD q 0 else if q + 1 < j then l.getD (q + 1) 0 else l.getD q 0
theorem shL_len (l : List Int) (p j : Nat) : (shL l p j).length = l.length := by simp [shL]
theorem shL_get (l : List Int) (p j q : Nat) (h : q < l.length) : (shL l p j).getD q 0 = if q < p then l.getD q 0 else if q + 1 < j then l.getD (q + 1) 0 else l.getD q 0 := by
  rw [List.getD_eq_getElem?_getD, shL, List.getElem?_map, List.getElem?_range h]; rfl
theorem getD_ext {l m : List Int} (h : l.length = m.length) (hh : ∀ i, i < l.length → l.getD i 0 = m.getD i 0) : l = m := by
  apply List.ext_getElem h
  intro i h1 h2
  have := hh i h1
  simpa [List.getD_eq_getElem?_getD, h1, h2] using this
theorem shL_zero (l : List Int) (p : Nat) : shL l p (p + 1) = l := by
  refine getD_ext (shL_len _ _ _) fun i hi => ?_
  rw [shL_len] at hi
  rw [shL_get _ _ _ _ hi]
  split
  · rfl
  · rw [if_neg (by omega)]
theorem shL_set (l : List Int) (p j : Nat) (hp : p < j) (hj : j < l.length) : (shL l p j).set (j - 1) (l.getD j 0) = shL l p (j + 1) := by
  refine getD_ext (by simp [shL_len]) fun i hi => ?_
  rw [List.length_set, shL_len] at hi
  rw [shL_get _ _ _ _ hi, List.getD_eq_getElem?_getD, List.getElem?_set]
  by_cases h : j - 1 = i
  · subst h
    rw [if_pos rfl, if_pos (by rw [shL_len]; exact hi), if_neg (by omega), if_pos (by omega)]
    simp only [Option.getD_some]
    congr 1; omega
  · rw [if_neg h, ← List.getD_eq_getElem?_getD, shL_get _ _ _ _ hi]
    by_cases h2 : i < p
    · rw [if_pos h2, if_pos h2]
    · rw [if_neg h2, if_neg h2]
      by_cases h3 : i + 1 < j
      · rw [if_pos h3, if_pos (by omega)]
      · rw [if_neg h3, if_neg (by omega)]
theorem shL_at (l : List Int) (p j q : Nat) (h : q < l.length) (hq : j ≤ q + 1) : (shL l p j).getD q 0 = l.getD q 0 := by
  rw [shL_get _ _ _ _ h]
  split
  · rfl
  · rw [if_neg (by omega)]
theorem shL_all (l : List Int) (p : Nat) (hp : p < l.length) (r : List Int) (hr : r.length = 1) : (Sy.splice (shL l p l.length) (l.length - 1) r).take (l.length - 1) = l.eraseIdx p := by
  have h1 : (Sy.splice (shL l p l.length) (l.length - 1) r).take (l.length - 1) = (shL l p l.length).take (l.length - 1) := by
    unfold Sy.splice
    rw [List.append_assoc, List.take_append_of_le_length (by simp [shL_len]), List.take_take, Nat.min_self]
  rw [h1]
  refine getD_ext (by simp [shL_len, List.length_eraseIdx, hp]) fun i hi => ?_
  simp [shL_len] at hi
  rw [List.getD_eq_getElem?_getD, List.getElem?_take_of_lt (by omega), ← List.getD_eq_getElem?_getD, shL_get _ _ _ _ (by omega), List.getD_eq_getElem?_getD (l := l.eraseIdx p), List.getElem?_eraseIdx]
  by_cases h : i < p
  · rw [if_pos h, if_pos h, List.getD_eq_getElem?_getD]
  · rw [if_neg h, if_pos (by omega), if_neg h, List.getD_eq_getElem?_getD]
/-- An element is put in. -/
def insL (l : List Int) (i : Nat) (x : Int) : List Int := l.take i ++ x :: l.drop i
theorem insL_len (l : List Int) (i : Nat) (x : Int) : (insL l i x).length = l.length + 1 := by simp [insL]; omega
theorem insL_end (l : List Int) (x : Int) : insL l l.length x = l ++ [x] := by simp [insL]
/-- In place: what stands from a place on moves on, and the element is put there. -/
theorem insL_place (l : List Int) (i : Nat) (x : Int) (hi : i < l.length) : Sy.splice (Sy.splice l (i + 1) (sub l i (l.length - i))) i [x] = insL l i x := by
  have e1 : Sy.splice l (i + 1) (sub l i (l.length - i)) = l.take (i + 1) ++ l.drop i := by
    have h0 : sub l i (l.length - i) = l.drop i := by unfold Sy.sub; exact List.take_of_length_le (by simp)
    have h1 : l.drop (i + 1 + (l.drop i).length) = [] := List.drop_eq_nil_of_le (by simp; omega)
    rw [h0]
    unfold Sy.splice
    rw [h1, List.append_nil]
  rw [e1]
  unfold Sy.splice insL
  have h1 : (l.take (i + 1) ++ l.drop i).take i = l.take i := by
    rw [List.take_append_of_le_length (by simp; omega), List.take_take]; congr 1; omega
  have h2 : (l.take (i + 1) ++ l.drop i).drop (i + [x].length) = l.drop i := by
    rw [List.drop_append]
    simp only [List.length_take, List.length_singleton]
    rw [List.drop_eq_nil_of_le (by simp; omega), show i + 1 - min (i + 1) l.length = 0 by omega]
    rfl
  rw [h1, h2]
  simp
/-- In a new row. -/
theorem insL_grow (l : List Int) (i : Nat) (x : Int) (hi : i < l.length) : Sy.splice (Sy.splice (sub l 0 i ++ List.replicate (l.length + 1 - i) 0) i [x]) (i + 1) (sub l i (l.length - i)) = insL l i x := by
  have e1 : sub l i (l.length - i) = l.drop i := by unfold Sy.sub; exact List.take_of_length_le (by simp)
  have e2 : sub l 0 i = l.take i := by simp [Sy.sub]
  have ht : (l.take i).length = i := by simp; omega
  rw [e1, e2]
  have e3 : Sy.splice (l.take i ++ List.replicate (l.length + 1 - i) 0) i [x] = l.take i ++ x :: List.replicate (l.length - i) 0 := by
    unfold Sy.splice
    rw [List.take_left' ht, List.drop_append]
    simp only [ht, List.length_singleton]
    rw [List.drop_eq_nil_of_le (by omega), Nat.add_sub_cancel_left]
    obtain ⟨m, hm⟩ : ∃ m, l.length - i = m := ⟨_, rfl⟩
    rw [show l.length + 1 - i = m + 1 by omega, hm]
    simp [List.replicate_succ]
  rw [e3]
  unfold Sy.splice insL
  have h1 : (l.take i ++ x :: List.replicate (l.length - i) 0).take (i + 1) = l.take i ++ [x] := by
    rw [show l.take i ++ x :: List.replicate (l.length - i) 0 = (l.take i ++ [x]) ++ List.replicate (l.length - i) 0 by simp]
    exact List.take_left' (by simp; omega)
  have h2 : (l.take i ++ x :: List.replicate (l.length - i) 0).drop (i + 1 + (l.drop i).length) = [] := List.drop_eq_nil_of_le (by simp; omega)
  rw [h1, h2]
  simp
end Go.Proofs.Ythbpflnbgcdmiaa
