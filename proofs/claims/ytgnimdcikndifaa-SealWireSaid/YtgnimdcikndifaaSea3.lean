/- Chains of rows. -/
import Derived.Test.YtgnimdcikndifaaSea1
namespace Go.Proofs.Ytgnimdcikndifaa
open Go Go.Proofs.Ytgnimdcikndifaa.Sy
set_option linter.unusedVariables false
theorem slsAv_len {ι : Type} (y : Nat → ι) (ls : List (List Int)) : (slsAv y ls).length = ls.length := by simp [slsAv]
theorem slsAv_get {ι : Type} (y : Nat → ι) (ls : List (List Int)) {i : Nat} (h : i < ls.length) : (slsAv y ls).getD i .undef = .slice false (y i) 0 (ls.getD i []).length 1 := by
  rw [slsAv, List.getD_eq_getElem?_getD, List.getElem?_map, List.getElem?_range h]; rfl
theorem slsAv_map {ι κ : Type} (f : ι → κ) (y : Nat → ι) (ls : List (List Int)) : AV.mapL f (slsAv y ls) = slsAv (fun i => f (y i)) ls := by
  rw [AV.mapL_eq, slsAv, slsAv, List.map_map]
  apply List.map_congr_left
  intro i _
  simp only [Function.comp, AV.map]
/-- The chain of the first rows. -/
def chN (s : List Int) (ls : List (List Int)) : Nat → List Int
  | 0 => s
  | i + 1 => sub (sumL (chN s ls i ++ ls.getD i [])) 0 16
theorem chN_zero (s : List Int) (ls : List (List Int)) : chN s ls 0 = s := rfl
theorem chN_succ (s : List Int) (ls : List (List Int)) (i : Nat) : chN s ls (i + 1) = sub (sumL (chN s ls i ++ ls.getD i [])) 0 16 := rfl
theorem ch16 (l : List Int) : (sub (sumL l) 0 16).length = 16 := Sy.length_sub (by rw [sumL_len]; omega)
theorem chN_len {s : List Int} (hs : s.length = 16) (ls : List (List Int)) (i : Nat) : (chN s ls i).length = 16 := by
  cases i with
  | zero => exact hs
  | succ i => exact ch16 _
theorem getD_appL {a b : List (List Int)} (i : Nat) : (a ++ b).getD i [] = if i < a.length then a.getD i [] else b.getD (i - a.length) [] := by
  rw [List.getD_eq_getElem?_getD, List.getElem?_append]
  split <;> rw [← List.getD_eq_getElem?_getD]
theorem chN_pre (s : List Int) (a b : List (List Int)) : ∀ i, i ≤ a.length → chN s (a ++ b) i = chN s a i
  | 0, _ => rfl
  | i + 1, h => by rw [chN_succ, chN_succ, chN_pre s a b i (by omega), getD_appL, if_pos (by omega)]
theorem chN_app (s : List Int) (a b : List (List Int)) : ∀ i, chN s (a ++ b) (a.length + i) = chN (chN s a a.length) b i
  | 0 => chN_pre s a b _ (Nat.le_refl _)
  | i + 1 => by rw [← Nat.add_assoc, chN_succ, chN_succ, chN_app s a b i, getD_appL, if_neg (by omega), Nat.add_sub_cancel_left]
end Go.Proofs.Ytgnimdcikndifaa
