/- The round words are what the roots come to. -/
import Derived.Test.YtdcbgmbpiekbgaaShaN
namespace Go.Proofs.Ytdcbgmbpiekbgaa
open Go Go.Proofs.Ytdcbgmbpiekbgaa.Sy
set_option linter.unusedSimpArgs false
set_option linter.unusedVariables false
set_option maxRecDepth 100000

theorem pT_64 : pT 310 = prim64 := by decide +kernel
theorem pT_8 : pT 18 = prim64.take 8 := by decide +kernel
theorem root2 : ∀ i, i < 8 → rootL (prim64.getD i 0) 2 = firstL.getD i 0 := by
  intro i hi
  match i, hi with
  | 0, _ => exact (by decide +kernel)
  | 1, _ => exact (by decide +kernel)
  | 2, _ => exact (by decide +kernel)
  | 3, _ => exact (by decide +kernel)
  | 4, _ => exact (by decide +kernel)
  | 5, _ => exact (by decide +kernel)
  | 6, _ => exact (by decide +kernel)
  | 7, _ => exact (by decide +kernel)
theorem r3_0 : rootL (prim64.getD 0 0) 3 = roundK.getD 0 0 := by decide +kernel
theorem r3_1 : rootL (prim64.getD 1 0) 3 = roundK.getD 1 0 := by decide +kernel
theorem r3_2 : rootL (prim64.getD 2 0) 3 = roundK.getD 2 0 := by decide +kernel
theorem r3_3 : rootL (prim64.getD 3 0) 3 = roundK.getD 3 0 := by decide +kernel
theorem r3_4 : rootL (prim64.getD 4 0) 3 = roundK.getD 4 0 := by decide +kernel
theorem r3_5 : rootL (prim64.getD 5 0) 3 = roundK.getD 5 0 := by decide +kernel
theorem r3_6 : rootL (prim64.getD 6 0) 3 = roundK.getD 6 0 := by decide +kernel
theorem r3_7 : rootL (prim64.getD 7 0) 3 = roundK.getD 7 0 := by decide +kernel
theorem r3_8 : rootL (prim64.getD 8 0) 3 = roundK.getD 8 0 := by decide +kernel
theorem r3_9 : rootL (prim64.getD 9 0) 3 = roundK.getD 9 0 := by decide +kernel
theorem r3_10 : rootL (prim64.getD 10 0) 3 = roundK.getD 10 0 := by decide +kernel
theorem r3_11 : rootL (prim64.getD 11 0) 3 = roundK.getD 11 0 := by decide +kernel
theorem r3_12 : rootL (prim64.getD 12 0) 3 = roundK.getD 12 0 := by decide +kernel
theorem r3_13 : rootL (prim64.getD 13 0) 3 = roundK.getD 13 0 := by decide +kernel
theorem r3_14 : rootL (prim64.getD 14 0) 3 = roundK.getD 14 0 := by decide +kernel
theorem r3_15 : rootL (prim64.getD 15 0) 3 = roundK.getD 15 0 := by decide +kernel
theorem r3_16 : rootL (prim64.getD 16 0) 3 = roundK.getD 16 0 := by decide +kernel
theorem r3_17 : rootL (prim64.getD 17 0) 3 = roundK.getD 17 0 := by decide +kernel
theorem r3_18 : rootL (prim64.getD 18 0) 3 = roundK.getD 18 0 := by decide +kernel
theorem r3_19 : rootL (prim64.getD 19 0) 3 = roundK.getD 19 0 := by decide +kernel
theorem r3_20 : rootL (prim64.getD 20 0) 3 = roundK.getD 20 0 := by decide +kernel
theorem r3_21 : rootL (prim64.getD 21 0) 3 = roundK.getD 21 0 := by decide +kernel
theorem r3_22 : rootL (prim64.getD 22 0) 3 = roundK.getD 22 0 := by decide +kernel
theorem r3_23 : rootL (prim64.getD 23 0) 3 = roundK.getD 23 0 := by decide +kernel
theorem r3_24 : rootL (prim64.getD 24 0) 3 = roundK.getD 24 0 := by decide +kernel
theorem r3_25 : rootL (prim64.getD 25 0) 3 = roundK.getD 25 0 := by decide +kernel
theorem r3_26 : rootL (prim64.getD 26 0) 3 = roundK.getD 26 0 := by decide +kernel
theorem r3_27 : rootL (prim64.getD 27 0) 3 = roundK.getD 27 0 := by decide +kernel
theorem r3_28 : rootL (prim64.getD 28 0) 3 = roundK.getD 28 0 := by decide +kernel
theorem r3_29 : rootL (prim64.getD 29 0) 3 = roundK.getD 29 0 := by decide +kernel
theorem r3_30 : rootL (prim64.getD 30 0) 3 = roundK.getD 30 0 := by decide +kernel
theorem r3_31 : rootL (prim64.getD 31 0) 3 = roundK.getD 31 0 := by decide +kernel
theorem r3_32 : rootL (prim64.getD 32 0) 3 = roundK.getD 32 0 := by decide +kernel
theorem r3_33 : rootL (prim64.getD 33 0) 3 = roundK.getD 33 0 := by decide +kernel
theorem r3_34 : rootL (prim64.getD 34 0) 3 = roundK.getD 34 0 := by decide +kernel
theorem r3_35 : rootL (prim64.getD 35 0) 3 = roundK.getD 35 0 := by decide +kernel
theorem r3_36 : rootL (prim64.getD 36 0) 3 = roundK.getD 36 0 := by decide +kernel
theorem r3_37 : rootL (prim64.getD 37 0) 3 = roundK.getD 37 0 := by decide +kernel
theorem r3_38 : rootL (prim64.getD 38 0) 3 = roundK.getD 38 0 := by decide +kernel
theorem r3_39 : rootL (prim64.getD 39 0) 3 = roundK.getD 39 0 := by decide +kernel
theorem r3_40 : rootL (prim64.getD 40 0) 3 = roundK.getD 40 0 := by decide +kernel
theorem r3_41 : rootL (prim64.getD 41 0) 3 = roundK.getD 41 0 := by decide +kernel
theorem r3_42 : rootL (prim64.getD 42 0) 3 = roundK.getD 42 0 := by decide +kernel
theorem r3_43 : rootL (prim64.getD 43 0) 3 = roundK.getD 43 0 := by decide +kernel
theorem r3_44 : rootL (prim64.getD 44 0) 3 = roundK.getD 44 0 := by decide +kernel
theorem r3_45 : rootL (prim64.getD 45 0) 3 = roundK.getD 45 0 := by decide +kernel
theorem r3_46 : rootL (prim64.getD 46 0) 3 = roundK.getD 46 0 := by decide +kernel
theorem r3_47 : rootL (prim64.getD 47 0) 3 = roundK.getD 47 0 := by decide +kernel
theorem r3_48 : rootL (prim64.getD 48 0) 3 = roundK.getD 48 0 := by decide +kernel
theorem r3_49 : rootL (prim64.getD 49 0) 3 = roundK.getD 49 0 := by decide +kernel
theorem r3_50 : rootL (prim64.getD 50 0) 3 = roundK.getD 50 0 := by decide +kernel
theorem r3_51 : rootL (prim64.getD 51 0) 3 = roundK.getD 51 0 := by decide +kernel
theorem r3_52 : rootL (prim64.getD 52 0) 3 = roundK.getD 52 0 := by decide +kernel
theorem r3_53 : rootL (prim64.getD 53 0) 3 = roundK.getD 53 0 := by decide +kernel
theorem r3_54 : rootL (prim64.getD 54 0) 3 = roundK.getD 54 0 := by decide +kernel
theorem r3_55 : rootL (prim64.getD 55 0) 3 = roundK.getD 55 0 := by decide +kernel
theorem r3_56 : rootL (prim64.getD 56 0) 3 = roundK.getD 56 0 := by decide +kernel
theorem r3_57 : rootL (prim64.getD 57 0) 3 = roundK.getD 57 0 := by decide +kernel
theorem r3_58 : rootL (prim64.getD 58 0) 3 = roundK.getD 58 0 := by decide +kernel
theorem r3_59 : rootL (prim64.getD 59 0) 3 = roundK.getD 59 0 := by decide +kernel
theorem r3_60 : rootL (prim64.getD 60 0) 3 = roundK.getD 60 0 := by decide +kernel
theorem r3_61 : rootL (prim64.getD 61 0) 3 = roundK.getD 61 0 := by decide +kernel
theorem r3_62 : rootL (prim64.getD 62 0) 3 = roundK.getD 62 0 := by decide +kernel
theorem r3_63 : rootL (prim64.getD 63 0) 3 = roundK.getD 63 0 := by decide +kernel
theorem root3 : ∀ i, i < 64 → rootL (prim64.getD i 0) 3 = roundK.getD i 0 := by
  have key : ∀ j ∈ List.range 64, rootL (prim64.getD j 0) 3 = roundK.getD j 0 := by
    rw [show List.range 64 = [0, 1, 2, 3, 4, 5, 6, 7, 8, 9, 10, 11, 12, 13, 14, 15, 16, 17, 18, 19, 20, 21, 22, 23, 24, 25, 26, 27, 28, 29, 30, 31, 32, 33, 34, 35, 36, 37, 38, 39, 40, 41, 42, 43, 44, 45, 46, 47, 48, 49, 50, 51, 52, 53, 54, 55, 56, 57, 58, 59, 60, 61, 62, 63] from rfl]
    simp only [List.forall_mem_cons]
    exact ⟨r3_0, r3_1, r3_2, r3_3, r3_4, r3_5, r3_6, r3_7, r3_8, r3_9, r3_10, r3_11, r3_12, r3_13, r3_14, r3_15, r3_16, r3_17, r3_18, r3_19, r3_20, r3_21, r3_22, r3_23, r3_24, r3_25, r3_26, r3_27, r3_28, r3_29, r3_30, r3_31, r3_32, r3_33, r3_34, r3_35, r3_36, r3_37, r3_38, r3_39, r3_40, r3_41, r3_42, r3_43, r3_44, r3_45, r3_46, r3_47, r3_48, r3_49, r3_50, r3_51, r3_52, r3_53, r3_54, r3_55, r3_56, r3_57, r3_58, r3_59, r3_60, r3_61, r3_62, r3_63, fun _ h => by cases h⟩
  exact fun i hi => key i (List.mem_range.2 hi)
theorem rt_first : rtN 2 8 8 = firstL := ext_getD (by rw [rtN_len]; rfl) fun k hk => by rw [rtN_len] at hk; rw [rtN_get 2 8 8 k hk (Nat.le_refl _), root2 k hk]
theorem rt_rounds : rtN 3 64 64 = roundK := ext_getD (by rw [rtN_len]; rfl) fun k hk => by rw [rtN_len] at hk; rw [rtN_get 3 64 64 k hk (Nat.le_refl _), root3 k hk]
end Go.Proofs.Ytdcbgmbpiekbgaa
