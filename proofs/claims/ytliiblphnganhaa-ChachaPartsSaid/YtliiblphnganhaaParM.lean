/- A block's bytes, four by four, are its words. -/
import Derived.Test.YtliiblphnganhaaChaM2
import Derived.Test.YtliiblphnganhaaChaV
import Derived.Test.YtliiblphnganhaaTurM
namespace Go.Proofs.Ytliiblphnganhaa
open Go Go.Proofs.Ytliiblphnganhaa.Sy
set_option linter.unusedSimpArgs false
set_option linter.unusedVariables false
set_option maxRecDepth 100000

def byteOf (w : Int) (j : Nat) : Int := IntKind.u8.wrap (ishr .u32 w (8 * (j : Nat)))
theorem outN_get (s r : List Int) : ∀ (m j : Nat), j < m → m ≤ 64 → (outN s r m).getD j 0 = byteOf (IntKind.u32.wrap (s.getD (j / 4) 0 + r.getD (j / 4) 0)) (j % 4) := by
  intro m
  induction m with
  | zero => intro j hj; omega
  | succ m ih =>
    intro j hj hm
    rw [outN_succ, List.getD_eq_getElem?_getD]
    by_cases h : m = j
    · subst h
      rw [List.getElem?_set_self (by rw [outN_len]; omega)]
      rfl
    · rw [List.getElem?_set_ne h, ← List.getD_eq_getElem?_getD]
      exact ih j (by omega) (by omega)
theorem wrap8 (n : Int) : IntKind.u8.wrap n = n % 256 := by
  simp only [IntKind.wrap, IntKind.signed, IntKind.bits, Bool.false_and]
  simp
theorem byte_nat (w j : Nat) (hj : j < 4) : byteOf w j = ((w / 2 ^ (8 * j) % 256 : Nat) : Int) := by
  unfold byteOf
  rw [wrap8]
  unfold ishr
  match j, hj with
  | 0, _ => simp [IntKind.bits, Int.fdiv_eq_ediv_of_nonneg]
  | 1, _ => simp [IntKind.bits, Int.fdiv_eq_ediv_of_nonneg]
  | 2, _ => simp [IntKind.bits, Int.fdiv_eq_ediv_of_nonneg]
  | 3, _ => simp [IntKind.bits, Int.fdiv_eq_ediv_of_nonneg]
theorem shl_nat (v n : Nat) (hn : n = 8 ∨ n = 16 ∨ n = 24) (hv : v < 256) : ishl .u32 (v : Int) (n : Int) = ((2 ^ n * v : Nat) : Int) := by
  unfold ishl
  rw [wrap_mod]
  rcases hn with rfl | rfl | rfl <;> simp [IntKind.bits] <;> omega
def wordOf (a b c d : Int) : Int := ior .u32 (ior .u32 (ior .u32 (IntKind.u32.wrap a) (ishl .u32 (IntKind.u32.wrap b) 8)) (ishl .u32 (IntKind.u32.wrap c) 16)) (ishl .u32 (IntKind.u32.wrap d) 24)
theorem or_add (i a b : Nat) (h : b < 2 ^ i) : b ||| 2 ^ i * a = 2 ^ i * a + b := by rw [Nat.or_comm, Nat.two_pow_add_eq_or_of_lt h]
theorem word_bytes {w : Int} (hw : U w) : wordOf (byteOf w 0) (byteOf w 1) (byteOf w 2) (byteOf w 3) = w := by
  obtain ⟨n, hn, rfl⟩ := hw
  rw [byte_nat _ _ (by omega), byte_nat _ _ (by omega), byte_nat _ _ (by omega), byte_nat _ _ (by omega)]
  unfold wordOf
  simp only [Nat.mul_zero, Nat.pow_zero, Nat.div_one, Nat.mul_one, Nat.reduceMul]
  rw [wrap_nat (by omega), wrap_nat (by omega), wrap_nat (by omega), wrap_nat (by omega)]
  have e8 := shl_nat (n / 2 ^ 8 % 256) 8 (by omega) (by omega)
  have e16 := shl_nat (n / 2 ^ 16 % 256) 16 (by omega) (by omega)
  have e24 := shl_nat (n / 2 ^ 24 % 256) 24 (by omega) (by omega)
  simp only [Int.cast_ofNat_Int] at e8 e16 e24
  rw [e8, e16, e24, ior_nat (by omega) (by omega), or_add 8 _ _ (by omega), ior_nat (by omega) (by omega), or_add 16 _ _ (by omega), ior_nat (by omega) (by omega), or_add 24 _ _ (by omega)]
  omega
theorem row_U (k : Nat) (hk : k = 0 ∨ k = 1) (s : List Int) (h : s.length = 16) (j : Nat) (hj : j < 16) : U ((rowN k s 4).getD j 0) := by
  obtain ⟨x0, x1, x2, x3, x4, x5, x6, x7, x8, x9, x10, x11, x12, x13, x14, x15, rfl⟩ := sixteen h
  have hA : ∀ a b c d, U (qA a b c d) := fun a b c d => U_wrap _
  have hB : ∀ a b c d, U (qB a b c d) := fun a b c d => U_wrap _
  have hC : ∀ a b c d, U (qC a b c d) := fun a b c d => U_wrap _
  have hD : ∀ a b c d, U (qD a b c d) := fun a b c d => U_wrap _
  have hj' : j = 0 ∨ j = 1 ∨ j = 2 ∨ j = 3 ∨ j = 4 ∨ j = 5 ∨ j = 6 ∨ j = 7 ∨ j = 8 ∨ j = 9 ∨ j = 10 ∨ j = 11 ∨ j = 12 ∨ j = 13 ∨ j = 14 ∨ j = 15 := by omega
  rcases hk with rfl | rfl <;> simp only [rowN_succ, rowN_zero, row1, quarterL_def] <;> (rcases hj' with rfl | rfl | rfl | rfl | rfl | rfl | rfl | rfl | rfl | rfl | rfl | rfl | rfl | rfl | rfl | rfl <;> simp [hA, hB, hC, hD])
theorem rounds_U (s : List Int) (h : s.length = 16) (j : Nat) (hj : j < 16) : U ((roundsL s).getD j 0) := by
  unfold roundsL
  rw [dblN_succ]
  exact row_U 1 (.inr rfl) _ (by rw [rowN_len, dblN_len, h]) j hj
/-- The law, plainly. -/
theorem parts (k : List Int) (c n : Int) (i : Nat) (hi : i < 16) :
    IntKind.u32.wrap (wordOf ((blockL k c n).getD (4 * i) 0) ((blockL k c n).getD (4 * i + 1) 0) ((blockL k c n).getD (4 * i + 2) 0) ((blockL k c n).getD (4 * i + 3) 0) - (stateL k c n).getD i 0) = (roundsL (stateL k c n)).getD i 0 := by
  unfold blockL
  rw [outN_get _ _ 64 _ (by omega) (by omega), outN_get _ _ 64 _ (by omega) (by omega), outN_get _ _ 64 _ (by omega) (by omega), outN_get _ _ 64 _ (by omega) (by omega)]
  rw [show 4 * i / 4 = i by omega, show (4 * i + 1) / 4 = i by omega, show (4 * i + 2) / 4 = i by omega, show (4 * i + 3) / 4 = i by omega, show 4 * i % 4 = 0 by omega, show (4 * i + 1) % 4 = 1 by omega, show (4 * i + 2) % 4 = 2 by omega, show (4 * i + 3) % 4 = 3 by omega]
  rw [word_bytes (U_wrap _), Int.add_comm]
  exact un_add (rounds_U _ (stateL_len _ _ _) i hi)
end Go.Proofs.Ytliiblphnganhaa
