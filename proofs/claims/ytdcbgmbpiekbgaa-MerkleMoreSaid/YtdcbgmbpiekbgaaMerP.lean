/- Proofs as rows of sums. -/
import Derived.Test.YtdcbgmbpiekbgaaMerM
namespace Go.Proofs.Ytdcbgmbpiekbgaa
open Go Go.Proofs.Ytdcbgmbpiekbgaa.Sy
set_option linter.unusedSimpArgs false
set_option linter.unusedVariables false
set_option maxRecDepth 100000

/-- Rows of 16 each. -/
def A16 (D : List (List Int)) : Prop := ∀ s ∈ D, s.length = 16
theorem A16.nil : A16 [] := fun s h => by cases h
theorem A16.snoc {D : List (List Int)} (h : A16 D) {s : List Int} (hs : s.length = 16) : A16 (D ++ [s]) := fun x hx => by
  rcases List.mem_append.1 hx with hx | hx
  · exact h x hx
  · rw [List.mem_singleton.1 hx]; exact hs
theorem A16.get {D : List (List Int)} (h : A16 D) {p : Nat} (hp : p < D.length) : (D.getD p []).length = 16 := by
  rw [List.getD_eq_getElem?_getD, List.getElem?_eq_getElem hp]; exact h _ (List.getElem_mem hp)
theorem A16.set {D : List (List Int)} (h : A16 D) (p : Nat) {s : List Int} (hs : s.length = 16) : A16 (D.set p s) := fun x hx => by
  rcases List.mem_or_eq_of_mem_set hx with h1 | rfl
  · exact h x h1
  · exact hs
theorem flat_len : ∀ {D : List (List Int)}, A16 D → D.flatten.length = D.length * 16
  | [], _ => rfl
  | s :: D, h => by
    rw [List.flatten_cons, List.length_append, h s (by simp), flat_len (fun x hx => h x (by simp [hx])), List.length_cons]; omega
theorem flat_get : ∀ {D : List (List Int)}, A16 D → ∀ p, p < D.length → sub D.flatten (p * 16) 16 = D.getD p []
  | [], _, p, hp => by simp at hp
  | s :: D, h, 0, _ => by
    rw [List.flatten_cons, Nat.zero_mul, sub_left (h s (by simp))]; rfl
  | s :: D, h, p + 1, hp => by
    have hs := h s (by simp)
    rw [List.flatten_cons, sub_skip (by omega), hs, show (p + 1) * 16 - 16 = p * 16 by omega, flat_get (fun x hx => h x (by simp [hx])) p (by simpa using hp)]
    rfl
theorem flat_set : ∀ {D : List (List Int)}, A16 D → ∀ p (v : List Int), v.length = 16 → p < D.length → Sy.splice D.flatten (p * 16) v = (D.set p v).flatten
  | [], _, p, v, _, hp => by simp at hp
  | s :: D, h, 0, v, hv, _ => by
    have hs := h s (by simp)
    simp [Sy.splice, hv, List.drop_append, List.drop_eq_nil_of_le, hs]
  | s :: D, h, p + 1, v, hv, hp => by
    have hs := h s (by simp)
    have ih := flat_set (D := D) (fun x hx => h x (by simp [hx])) p v hv (by simpa using hp)
    rw [List.set_cons_succ, List.flatten_cons, List.flatten_cons, ← ih]
    unfold Sy.splice
    rw [List.take_append, List.drop_append, hs, hv, List.take_of_length_le (by omega), List.drop_eq_nil_of_le (by omega), show (p + 1) * 16 - 16 = p * 16 by omega, show (p + 1) * 16 + 16 - 16 = p * 16 + 16 by omega]
    simp
/-- The sums that lead from a leaf to the root. -/
def proofF (l : List Int) (o n i : Nat) : List (List Int) :=
  if h : n < 2 then [] else
    if i < (n + 1) / 2 then proofF l o ((n + 1) / 2) i ++ [rootO l (o + (n + 1) / 2 * 16) (n - (n + 1) / 2)]
    else proofF l (o + (n + 1) / 2 * 16) (n - (n + 1) / 2) (i - (n + 1) / 2) ++ [rootO l o ((n + 1) / 2)]
termination_by n
theorem proofF_one (l : List Int) (o i : Nat) : proofF l o 1 i = [] := by unfold proofF; simp
theorem proofF_l (l : List Int) (o : Nat) {n i : Nat} (h : 2 ≤ n) (hi : i < (n + 1) / 2) : proofF l o n i = proofF l o ((n + 1) / 2) i ++ [rootO l (o + (n + 1) / 2 * 16) (n - (n + 1) / 2)] := by
  conv => lhs; unfold proofF
  rw [dif_neg (by omega), if_pos hi]
theorem proofF_r (l : List Int) (o : Nat) {n i : Nat} (h : 2 ≤ n) (hi : ¬ i < (n + 1) / 2) : proofF l o n i = proofF l (o + (n + 1) / 2 * 16) (n - (n + 1) / 2) (i - (n + 1) / 2) ++ [rootO l o ((n + 1) / 2)] := by
  conv => lhs; unfold proofF
  rw [dif_neg (by omega), if_neg hi]
theorem proofF_A (l : List Int) : ∀ (n o i : Nat), A16 (proofF l o n i) ∧ (∀ s ∈ proofF l o n i, AllB s) ∧ (proofF l o n i).length ≤ n := by
  intro n
  induction n using Nat.strongRecOn with
  | _ n ih =>
    intro o i
    by_cases h : n < 2
    · unfold proofF; rw [dif_pos h]; exact ⟨.nil, (fun s h => by cases h), Nat.zero_le _⟩
    · by_cases hi : i < (n + 1) / 2
      · rw [proofF_l _ _ (by omega) hi]
        obtain ⟨h1, h2, h3⟩ := ih ((n + 1) / 2) (by omega) o i
        refine ⟨h1.snoc (rootO_len _ _ _), fun s hs => ?_, by rw [List.length_append, List.length_singleton]; omega⟩
        rcases List.mem_append.1 hs with hs | hs
        · exact h2 s hs
        · rw [List.mem_singleton.1 hs]; exact rootO_B _ _ _
      · rw [proofF_r _ _ (by omega) hi]
        obtain ⟨h1, h2, h3⟩ := ih (n - (n + 1) / 2) (by omega) (o + (n + 1) / 2 * 16) (i - (n + 1) / 2)
        refine ⟨h1.snoc (rootO_len _ _ _), fun s hs => ?_, by rw [List.length_append, List.length_singleton]; omega⟩
        rcases List.mem_append.1 hs with hs | hs
        · exact h2 s hs
        · rw [List.mem_singleton.1 hs]; exact rootO_B _ _ _

/-- A list whose first and last i are the other way round. -/
def revT (D : List (List Int)) (i : Nat) : List (List Int) := (List.range D.length).map fun p => if p < i ∨ D.length - i ≤ p then D.getD (D.length - 1 - p) [] else D.getD p []
theorem revT_len (D : List (List Int)) (i : Nat) : (revT D i).length = D.length := by simp [revT]
theorem revT_get (D : List (List Int)) (i : Nat) {p : Nat} (hp : p < D.length) : (revT D i)[p]? = some (if p < i ∨ D.length - i ≤ p then D.getD (D.length - 1 - p) [] else D.getD p []) := by
  unfold revT
  rw [List.getElem?_map, List.getElem?_range hp]; rfl
theorem revT_zero (D : List (List Int)) : revT D 0 = D := by
  apply List.ext_getElem?
  intro p
  rcases Nat.lt_or_ge p D.length with hp | hp
  · rw [revT_get _ _ hp, if_neg (by omega), List.getD_eq_getElem?_getD, List.getElem?_eq_getElem hp]; rfl
  · rw [List.getElem?_eq_none (by rw [revT_len]; exact hp), List.getElem?_eq_none hp]
theorem revT_end (D : List (List Int)) {i : Nat} (h : D.length ≤ 2 * i + 1) : revT D i = D.reverse := by
  apply List.ext_getElem?
  intro p
  rcases Nat.lt_or_ge p D.length with hp | hp
  · rw [revT_get _ _ hp, List.getElem?_reverse hp]
    split
    · rw [List.getD_eq_getElem?_getD, List.getElem?_eq_getElem (by omega)]; rfl
    · rw [List.getD_eq_getElem?_getD, show D.length - 1 - p = p by omega, List.getElem?_eq_getElem hp]; rfl
  · rw [List.getElem?_eq_none (by rw [revT_len]; exact hp), List.getElem?_eq_none (by simpa using hp)]
theorem revT_A {D : List (List Int)} (h : A16 D) (i : Nat) : A16 (revT D i) := by
  intro s hs
  obtain ⟨p, hp, rfl⟩ := List.mem_map.1 hs
  have hp := List.mem_range.1 hp
  split
  · exact h.get (by omega)
  · exact h.get hp
theorem revT_step (D : List (List Int)) {i : Nat} (h : 2 * i + 1 < D.length) : ((revT D i).set i ((revT D i).getD (D.length - 1 - i) [])).set (D.length - 1 - i) ((revT D i).getD i []) = revT D (i + 1) := by
  have e1 : (revT D i).getD (D.length - 1 - i) [] = D.getD (D.length - 1 - i) [] := by
    rw [List.getD_eq_getElem?_getD, revT_get _ _ (by omega), if_neg (by omega)]; rfl
  have e2 : (revT D i).getD i [] = D.getD i [] := by
    rw [List.getD_eq_getElem?_getD, revT_get _ _ (by omega), if_neg (by omega)]; rfl
  rw [e1, e2]
  apply List.ext_getElem?
  intro p
  rcases Nat.lt_or_ge p D.length with hp | hp
  · rw [revT_get _ _ hp, List.getElem?_set, List.getElem?_set, List.length_set, revT_len]
    by_cases h1 : D.length - 1 - i = p
    · rw [if_pos h1, if_pos (by omega), if_pos (by omega), show D.length - 1 - p = i by omega]
    · rw [if_neg h1]
      by_cases h2 : i = p
      · rw [if_pos h2, if_pos (by omega), if_pos (by omega), h2]
      · rw [if_neg h2, revT_get _ _ hp]
        by_cases h3 : p < i ∨ D.length - i ≤ p
        · rw [if_pos h3, if_pos (by omega)]
        · rw [if_neg h3, if_neg (by omega)]
  · rw [List.getElem?_eq_none (by simp [revT_len]; exact hp), List.getElem?_eq_none (by rw [revT_len]; exact hp)]
end Go.Proofs.Ytdcbgmbpiekbgaa
