/- Contracts: the document's proof, same; plain: a proof leads to the root. -/
import Derived.Test.YtdcbgmbpiekbgaaMerL
namespace Go.Proofs.Ytdcbgmbpiekbgaa
open Go Go.Proofs.Ytdcbgmbpiekbgaa.Sy
set_option linter.unusedSimpArgs false
set_option linter.unusedVariables false
set_option maxRecDepth 100000
set_option maxHeartbeats 1000000


theorem climbS_pre (leaf pr q : List Int) : ∀ m n i, m * 16 ≤ pr.length → climbS leaf (pr ++ q) 0 m n i = climbS leaf pr 0 m n i := by
  intro m
  induction m with
  | zero => intro n i _; by_cases h : n = 1
            · subst h; rw [climbS_one, climbS_one]
            · rw [climbS_zero _ _ _ _ h, climbS_zero _ _ _ _ h]
  | succ m ih =>
    intro n i hm
    by_cases h : n = 1
    · subst h; rw [climbS_one, climbS_one]
    · have hs : sub (pr ++ q) (0 + m * 16) 16 = sub pr (0 + m * 16) 16 := by
        simp only [Sy.sub]
        rw [List.drop_append_of_le_length (by omega), List.take_append_of_le_length (by rw [List.length_drop]; omega)]
      by_cases hi : i < (n + 1) / 2
      · rw [climbS_l _ _ _ _ h hi, climbS_l _ _ _ _ h hi, ih _ _ (by omega), hs]
      · rw [climbS_r _ _ _ _ h hi, climbS_r _ _ _ _ h hi, ih _ _ (by omega), hs]
theorem climb_proof (l : List Int) : ∀ n o i, 1 ≤ n → i < n → climbS (sub l (o + i * 16) 16) (proofF l o n i).flatten 0 (proofF l o n i).length n i = (rootO l o n, true) := by
  intro n
  induction n using Nat.strongRecOn with
  | _ n ih =>
    intro o i h1 hi
    rcases (show n = 1 ∨ 2 ≤ n by omega) with rfl | h2
    · obtain rfl : i = 0 := by omega
      rw [proofF_one, climbS_one, rootO_one, Nat.zero_mul, Nat.add_zero]
      rfl
    · by_cases hk : i < (n + 1) / 2
      · have e := ih ((n + 1) / 2) (by omega) o i (by omega) hk
        have hA := proofF_A l ((n + 1) / 2) o i
        have hf := flat_len hA.1
        rw [proofF_l l o h2 hk, List.flatten_append, List.length_append, List.length_singleton, climbS_l _ _ _ _ (by omega) hk, climbS_pre _ _ _ _ _ _ (by omega), e, rootO_two l o h2]
        simp only [List.flatten_cons, List.flatten_nil, List.append_nil, Nat.zero_add]
        rw [show sub ((proofF l o ((n + 1) / 2) i).flatten ++ rootO l (o + (n + 1) / 2 * 16) (n - (n + 1) / 2)) ((proofF l o ((n + 1) / 2) i).length * 16) 16 = rootO l (o + (n + 1) / 2 * 16) (n - (n + 1) / 2) by
          simp only [Sy.sub]
          rw [← hf, List.drop_left, List.take_of_length_le (by rw [rootO_len]; omega)]]
      · have e := ih (n - (n + 1) / 2) (by omega) (o + (n + 1) / 2 * 16) (i - (n + 1) / 2) (by omega) (by omega)
        have hA := proofF_A l (n - (n + 1) / 2) (o + (n + 1) / 2 * 16) (i - (n + 1) / 2)
        have hf := flat_len hA.1
        rw [show o + (n + 1) / 2 * 16 + (i - (n + 1) / 2) * 16 = o + i * 16 by omega] at e
        rw [proofF_r l o h2 hk, List.flatten_append, List.length_append, List.length_singleton, climbS_r _ _ _ _ (by omega) hk, climbS_pre _ _ _ _ _ _ (by omega), e, rootO_two l o h2]
        simp only [List.flatten_cons, List.flatten_nil, List.append_nil, Nat.zero_add]
        rw [show sub ((proofF l (o + (n + 1) / 2 * 16) (n - (n + 1) / 2) (i - (n + 1) / 2)).flatten ++ rootO l o ((n + 1) / 2)) ((proofF l (o + (n + 1) / 2 * 16) (n - (n + 1) / 2) (i - (n + 1) / 2)).length * 16) 16 = rootO l o ((n + 1) / 2) by
          simp only [Sy.sub]
          rw [← hf, List.drop_left, List.take_of_length_le (by rw [rootO_len]; omega)]]
theorem check_proof (l : List Int) {n i : Nat} (hi : i < n) : checkS (rootO l 0 n) (sub l (i * 16) 16) (proofF l 0 n i).flatten 0 (proofF l 0 n i).length n i = true := by
  have := climb_proof l n 0 i (by omega) hi
  rw [Nat.zero_add] at this
  rw [checkS, this]
  simp

theorem bRow0 {ι : Type} (l : List Int) (C : List Int → Prop) : buildRowsI .u8 16 ([] : List (Nat × AV ι)) l C = C l := rfl
end Go.Proofs.Ytdcbgmbpiekbgaa
