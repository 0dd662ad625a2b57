/- A sum goes on, in plain numbers. -/
import Derived.Test.YtjdfgkjadobaaaaShaR
namespace Go.Proofs.Ytjdfgkjadobaaaa
open Go Go.Proofs.Ytjdfgkjadobaaaa.Sy
set_option linter.unusedSimpArgs false
set_option linter.unusedVariables false

theorem outS_word (h : List Int) (i : Nat) : outS h (4 * (i + 1)) = ((((outS h (4 * i)).set (4 * i) (IntKind.u8.wrap (ishr .u32 (h.getD i 0) 24))).set (4 * i + 1) (IntKind.u8.wrap (ishr .u32 (h.getD i 0) 16))).set (4 * i + 2) (IntKind.u8.wrap (ishr .u32 (h.getD i 0) 8))).set (4 * i + 3) (IntKind.u8.wrap (h.getD i 0)) := by
  have e : ∀ x : Int, IntKind.u8.wrap (ishr .u32 x 0) = IntKind.u8.wrap x := fun x => by simp [ishr, IntKind.bits]
  rw [show 4 * (i + 1) = 4 * i + 1 + 1 + 1 + 1 by omega, outS_succ, outS_succ, outS_succ, outS_succ]
  simp only [outB]
  rw [show 4 * i / 4 = i by omega, show 4 * i % 4 = 0 by omega, show (4 * i + 1) / 4 = i by omega, show (4 * i + 1) % 4 = 1 by omega, show (4 * i + 1 + 1) / 4 = i by omega, show (4 * i + 1 + 1) % 4 = 2 by omega, show (4 * i + 1 + 1 + 1) / 4 = i by omega, show (4 * i + 1 + 1 + 1) % 4 = 3 by omega]
  simp only [Int.ofNat_zero, Nat.add_assoc, Nat.reduceAdd]
  rw [← e (h.getD i 0)]
  rfl
theorem sub_app {l m : List Int} {o n : Nat} (h : o + n ≤ l.length) : sub (l ++ m) o n = sub l o n := by
  simp only [sub]
  rw [List.drop_append_of_le_length (by omega), List.take_append_of_le_length (by simp; omega)]
theorem foldN_pre (h q r : List Int) : ∀ n, 64 * n ≤ q.length → foldN h (q ++ r) n = foldN h q n
  | 0, _ => by rw [foldN_zero, foldN_zero]
  | n + 1, hn => by rw [foldN_succ, foldN_succ, foldN_pre h q r n (by omega), sub_app (by omega)]
/-- The words of a sum, so many bytes. -/
def hwN (s : List Int) : Nat → List Int
  | 0 => List.replicate 8 0
  | k + 1 => (hwN s k).set (k / 4) (ior .u32 (ishl .u32 ((hwN s k).getD (k / 4) 0) 8) (IntKind.u32.wrap (s.getD k 0)))
theorem hwN_zero (s : List Int) : hwN s 0 = List.replicate 8 0 := rfl
theorem hwN_succ (s : List Int) (k : Nat) : hwN s (k + 1) = (hwN s k).set (k / 4) (ior .u32 (ishl .u32 ((hwN s k).getD (k / 4) 0) 8) (IntKind.u32.wrap (s.getD k 0))) := rfl
theorem hwN_len (s : List Int) (k : Nat) : (hwN s k).length = 8 := by
  induction k with
  | zero => rfl
  | succ k ih => rw [hwN_succ, List.length_set, ih]
theorem hwN_tail (s : List Int) : ∀ (k i : Nat), k ≤ 4 * i → (hwN s k).getD i 0 = 0 := by
  intro k
  induction k with
  | zero => intro i _; rw [hwN_zero, getD_rep]
  | succ k ih => intro i hi; rw [hwN_succ, getD_set, if_neg (by omega)]; exact ih i (by omega)
theorem step8 {v b : Nat} (hv : v < 16777216) (hb : b < 256) : ior .u32 (ishl .u32 (v : Int) 8) (IntKind.u32.wrap (b : Int)) = ((256 * v + b : Nat) : Int) := by
  have e : ishl .u32 (v : Int) 8 = ((2 ^ 8 * v : Nat) : Int) := by
    unfold ishl
    rw [wrap_mod]
    simp [IntKind.bits]
    omega
  rw [e, wrap_nat (by omega), ior_nat (by omega) (by omega), or_add 8 _ _ (by omega)]
theorem hwN_four {s : List Int} (x i : Nat) (hx : x < 4294967296) (hi : i < 8) (h0 : s.getD (4 * i) 0 = ((x / 16777216 % 256 : Nat) : Int)) (h1 : s.getD (4 * i + 1) 0 = ((x / 65536 % 256 : Nat) : Int)) (h2 : s.getD (4 * i + 2) 0 = ((x / 256 % 256 : Nat) : Int)) (h3 : s.getD (4 * i + 3) 0 = ((x % 256 : Nat) : Int)) :
    (hwN s (4 * i + 4)).getD i 0 = x := by
  have t := hwN_tail s (4 * i) i (Nat.le_refl _)
  have g : ∀ (k : Nat), k / 4 = i → (hwN s (k + 1)).getD i 0 = ior .u32 (ishl .u32 ((hwN s k).getD i 0) 8) (IntKind.u32.wrap (s.getD k 0)) := fun k hk => by
    rw [hwN_succ, getD_set, if_pos ⟨hk, by rw [hwN_len]; omega⟩, hk]
  rw [show 4 * i + 4 = 4 * i + 3 + 1 by omega, g _ (by omega), show 4 * i + 3 = 4 * i + 2 + 1 by omega, g _ (by omega), show 4 * i + 2 = 4 * i + 1 + 1 by omega, g _ (by omega), g _ (by omega), t, h0]
  rw [show 4 * i + 1 + 1 = 4 * i + 2 by omega, show 4 * i + 2 + 1 = 4 * i + 3 by omega, h1, h2, h3]
  rw [show ((0 : Int)) = ((0 : Nat) : Int) from rfl, step8 (by omega) (by omega), step8 (by omega) (by omega), step8 (by omega) (by omega), step8 (by omega) (by omega)]
  omega
theorem hwN_keep (s : List Int) (i : Nat) : ∀ m, (hwN s (4 * i + 4 + m)).getD i 0 = (hwN s (4 * i + 4)).getD i 0
  | 0 => rfl
  | m + 1 => by rw [← Nat.add_assoc, hwN_succ, getD_set, if_neg (by omega), hwN_keep s i m]
/-- A sum's words are what the sum was made of. -/
theorem hwN_outS {h : List Int} (hh : h.length = 8) (hU : AllU h) : hwN (outS h 32) 32 = h := by
  refine ext_getD (by rw [hwN_len, hh]) fun i hi => ?_
  rw [hwN_len] at hi
  obtain ⟨x, hx, he⟩ := (hU i).nat
  have hb : ∀ j, j < 4 → (outS h 32).getD (4 * i + j) 0 = outB h (4 * i + j) := fun j hj => by rw [outS_get h 32 _ (Nat.le_refl _), if_pos (by omega)]
  have hB : ∀ j, j < 4 → outB h (4 * i + j) = ((x / 2 ^ (24 - 8 * j) % 256 : Nat) : Int) := fun j hj => by
    unfold outB
    rw [show (4 * i + j) / 4 = i by omega, show (4 * i + j) % 4 = j by omega, he, wrap8]
    unfold ishr
    match j, hj with
    | 0, _ => simp [IntKind.bits, Int.fdiv_eq_ediv_of_nonneg]
    | 1, _ => simp [IntKind.bits, Int.fdiv_eq_ediv_of_nonneg]
    | 2, _ => simp [IntKind.bits, Int.fdiv_eq_ediv_of_nonneg]
    | 3, _ => simp [IntKind.bits, Int.fdiv_eq_ediv_of_nonneg]
  have := hwN_four (s := outS h 32) x i hx hi (by have h1 := hb 0 (by omega); have h2 := hB 0 (by omega); simp only [Nat.add_zero] at h1 h2; rw [h1, h2]) (by rw [hb 1 (by omega), hB 1 (by omega)]) (by rw [hb 2 (by omega), hB 2 (by omega)]) (by rw [hb 3 (by omega), hB 3 (by omega)]; simp)
  obtain ⟨m, hm⟩ : ∃ m, 32 = 4 * i + 4 + m := ⟨28 - 4 * i, by omega⟩
  rw [he, ← this, hm, hwN_keep]
theorem hwN_U (s : List Int) : ∀ k, AllU (hwN s k)
  | 0 => by rw [hwN_zero]; exact .rep 8
  | k + 1 => by rw [hwN_succ]; exact (hwN_U s k).set _ (isU_wrap _)
theorem padL_more (q b : List Int) : ∃ r, padL (q ++ b) = q ++ r := ⟨b ++ 128 :: (List.replicate (padZ (q ++ b).length) 0 ++ lenL (q ++ b).length), by rw [padL, List.append_assoc]⟩
attribute [irreducible] hwN
end Go.Proofs.Ytjdfgkjadobaaaa
