/- Plain: a leaf that changes is seen at one place of each proof. -/
import Derived.Test.YtdcbgmbpiekbgaaMerQ
namespace Go.Proofs.Ytdcbgmbpiekbgaa
open Go Go.Proofs.Ytdcbgmbpiekbgaa.Sy
set_option linter.unusedSimpArgs false
set_option linter.unusedVariables false

/-- At how many of the first i places two proofs differ. -/
def cntF (A B : List (List Int)) : Nat → Nat
  | 0 => 0
  | i + 1 => cntF A B i + (if A.getD i [] = B.getD i [] then 0 else 1)
theorem cntF_le (A B : List (List Int)) : ∀ i, cntF A B i ≤ i
  | 0 => Nat.le_refl _
  | i + 1 => by
    have := cntF_le A B i
    rw [cntF]
    split <;> omega
theorem cntF_same (A : List (List Int)) : ∀ i, cntF A A i = 0
  | 0 => rfl
  | i + 1 => by rw [cntF, cntF_same A i, if_pos rfl]
theorem cntF_app {A B A' B' : List (List Int)} : ∀ i, i ≤ A.length → i ≤ B.length → cntF (A ++ A') (B ++ B') i = cntF A B i
  | 0, _, _ => rfl
  | i + 1, h1, h2 => by
    rw [cntF, cntF, cntF_app i (by omega) (by omega)]
    simp only [List.getD_eq_getElem?_getD]
    rw [List.getElem?_append_left (by omega), List.getElem?_append_left (by omega)]
theorem cntF_snoc {A B : List (List Int)} (h : A.length = B.length) (r s : List Int) : cntF (A ++ [r]) (B ++ [s]) (A.length + 1) = cntF A B A.length + (if r = s then 0 else 1) := by
  rw [cntF, cntF_app _ (Nat.le_refl _) (by omega)]
  simp only [List.getD_eq_getElem?_getD]
  rw [List.getElem?_append_right (Nat.le_refl _), List.getElem?_append_right (by omega), Nat.sub_self, ← h, Nat.sub_self]
  simp only [List.getElem?_cons_zero, Option.getD_some]
/-- Two rows of leaves that are one but at the leaf k. -/
def OneOff (l m : List Int) (k : Nat) : Prop := ∀ c, c ≠ k → sub l (c * 16) 16 = sub m (c * 16) 16
theorem root_off {l m : List Int} {k : Nat} (h : OneOff l m k) : ∀ n c, 1 ≤ n → (c + n ≤ k ∨ k < c) → rootO l (c * 16) n = rootO m (c * 16) n := by
  intro n
  induction n using Nat.strongRecOn with
  | _ n ih =>
    intro c hn hk
    rcases (show n = 1 ∨ 2 ≤ n by omega) with rfl | h2
    · rw [rootO_one, rootO_one, h c (by omega)]
    · rw [rootO_two l _ h2, rootO_two m _ h2, ← Nat.add_mul, ih _ (by omega) c (by omega) (by omega), ih _ (by omega) (c + (n + 1) / 2) (by omega) (by omega)]
theorem proof_len (l m : List Int) : ∀ n o j, (proofF l o n j).length = (proofF m o n j).length := by
  intro n
  induction n using Nat.strongRecOn with
  | _ n ih =>
    intro o j
    by_cases h2 : 2 ≤ n
    · by_cases hj : j < (n + 1) / 2
      · rw [proofF_l l _ h2 hj, proofF_l m _ h2 hj, List.length_append, List.length_append, ih _ (by omega), List.length_singleton, List.length_singleton]
      · rw [proofF_r l _ h2 hj, proofF_r m _ h2 hj, List.length_append, List.length_append, ih _ (by omega), List.length_singleton, List.length_singleton]
    · unfold proofF
      rw [dif_pos (by omega), dif_pos (by omega)]
theorem proof_off {l m : List Int} {k : Nat} (h : OneOff l m k) : ∀ n c j, 1 ≤ n → j < n → (c + n ≤ k ∨ k < c ∨ c + j = k) → proofF l (c * 16) n j = proofF m (c * 16) n j := by
  intro n
  induction n using Nat.strongRecOn with
  | _ n ih =>
    intro c j hn hj hk
    rcases (show n = 1 ∨ 2 ≤ n by omega) with rfl | h2
    · rw [proofF_one, proofF_one]
    · by_cases hi : j < (n + 1) / 2
      · rw [proofF_l l _ h2 hi, proofF_l m _ h2 hi, ← Nat.add_mul, ih _ (by omega) c j (by omega) hi (by omega), root_off h _ (c + (n + 1) / 2) (by omega) (by omega)]
      · rw [proofF_r l _ h2 hi, proofF_r m _ h2 hi, ← Nat.add_mul, ih _ (by omega) (c + (n + 1) / 2) (j - (n + 1) / 2) (by omega) (by omega) (by omega), root_off h _ c (by omega) (by omega)]
theorem proof_near {l m : List Int} {k : Nat} (h : OneOff l m k) : ∀ n c j, 1 ≤ n → j < n → cntF (proofF l (c * 16) n j) (proofF m (c * 16) n j) (proofF l (c * 16) n j).length ≤ 1 := by
  intro n
  induction n using Nat.strongRecOn with
  | _ n ih =>
    intro c j hn hj
    rcases (show n = 1 ∨ 2 ≤ n by omega) with rfl | h2
    · rw [proofF_one, proofF_one]; exact Nat.zero_le _
    · by_cases hi : j < (n + 1) / 2
      · have e := ih ((n + 1) / 2) (by omega) c j (by omega) hi
        rw [proofF_l l _ h2 hi, proofF_l m _ h2 hi, ← Nat.add_mul, List.length_append, List.length_singleton, cntF_snoc (proof_len l m _ _ _)]
        by_cases hk : c + (n + 1) / 2 ≤ k
        · rw [proof_off h _ c j (by omega) hi (by omega), cntF_same]
          split <;> omega
        · rw [if_pos (root_off h _ (c + (n + 1) / 2) (by omega) (by omega))]
          exact e
      · have e := ih (n - (n + 1) / 2) (by omega) (c + (n + 1) / 2) (j - (n + 1) / 2) (by omega) (by omega)
        rw [proofF_r l _ h2 hi, proofF_r m _ h2 hi, ← Nat.add_mul, List.length_append, List.length_singleton, cntF_snoc (proof_len l m _ _ _)]
        by_cases hk : k < c + (n + 1) / 2
        · rw [proof_off h _ (c + (n + 1) / 2) (j - (n + 1) / 2) (by omega) (by omega) (by omega), cntF_same]
          split <;> omega
        · rw [if_pos (root_off h _ c (by omega) (by omega))]
          exact e
theorem near_off {l x : List Int} {k n : Nat} (hl : l.length = n * 16) (hx : x.length = 16) (hk : k < n) : OneOff l (Sy.splice l (k * 16) x) k := by
  intro c hc
  apply List.ext_getElem?
  intro i
  simp only [Sy.sub, List.getElem?_take, List.getElem?_drop]
  split
  · rw [Sy.splice_get' (by omega)]
    split
    · rfl
    · rw [if_neg (by omega)]
  · rfl
end Go.Proofs.Ytdcbgmbpiekbgaa
