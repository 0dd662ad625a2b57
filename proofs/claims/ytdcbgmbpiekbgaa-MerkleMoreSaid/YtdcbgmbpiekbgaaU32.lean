/- Numbers of 32 bits. -/
import Derived.Test.YtdcbgmbpiekbgaaSyB
namespace Go.Proofs.Ytdcbgmbpiekbgaa
open Go Go.Proofs.Ytdcbgmbpiekbgaa.Sy
set_option linter.unusedSimpArgs false
set_option linter.unusedVariables false

theorem wrap_nat {a : Nat} (h : a < 4294967296) : IntKind.u32.wrap (a : Int) = a := wrap_u32' (by omega) (by omega)
theorem ior_nat {a b : Nat} (ha : a < 4294967296) (hb : b < 4294967296) : ior .u32 a b = ((a ||| b : Nat) : Int) := by
  unfold ior
  have h : (BitVec.ofInt IntKind.u32.bits (a : Int) ||| BitVec.ofInt IntKind.u32.bits (b : Int)).toNat = a ||| b := by
    show (BitVec.ofInt 32 (a : Int) ||| BitVec.ofInt 32 (b : Int)).toNat = a ||| b
    rw [BitVec.toNat_or, BitVec.ofInt_natCast, BitVec.ofInt_natCast, BitVec.toNat_ofNat, BitVec.toNat_ofNat, Nat.mod_eq_of_lt (by omega), Nat.mod_eq_of_lt (by omega)]
  rw [h, wrap_nat (Nat.or_lt_two_pow (n := 32) ha hb)]
theorem ixor_nat {a b : Nat} (ha : a < 4294967296) (hb : b < 4294967296) : ixor .u32 a b = ((a ^^^ b : Nat) : Int) := by
  unfold ixor
  have h : (BitVec.ofInt IntKind.u32.bits (a : Int) ^^^ BitVec.ofInt IntKind.u32.bits (b : Int)).toNat = a ^^^ b := by
    show (BitVec.ofInt 32 (a : Int) ^^^ BitVec.ofInt 32 (b : Int)).toNat = a ^^^ b
    rw [BitVec.toNat_xor, BitVec.ofInt_natCast, BitVec.ofInt_natCast, BitVec.toNat_ofNat, BitVec.toNat_ofNat, Nat.mod_eq_of_lt (by omega), Nat.mod_eq_of_lt (by omega)]
  rw [h, wrap_nat (Nat.xor_lt_two_pow (n := 32) ha hb)]
theorem wrap_mod (n : Int) : IntKind.u32.wrap n = n % 4294967296 := by
  simp only [IntKind.wrap, IntKind.signed, IntKind.bits, Bool.false_and]
  simp
theorem wrap8 (n : Int) : IntKind.u8.wrap n = n % 256 := by
  simp only [IntKind.wrap, IntKind.signed, IntKind.bits, Bool.false_and]
  simp
theorem wrap64 (n : Int) : IntKind.u64.wrap n = n % 18446744073709551616 := by
  simp only [IntKind.wrap, IntKind.signed, IntKind.bits, Bool.false_and]
  simp
def IsU (x : Int) : Prop := 0 ≤ x ∧ x < 4294967296
theorem IsU.nat {x : Int} (h : IsU x) : ∃ n : Nat, n < 4294967296 ∧ x = n := ⟨x.toNat, by have := h.1; have := h.2; omega, by have := h.1; omega⟩
theorem isU_wrap (n : Int) : IsU (IntKind.u32.wrap n) := by rw [wrap_mod]; constructor <;> omega
/-- All of a list. -/
def AllU (l : List Int) : Prop := ∀ i, IsU (l.getD i 0)
theorem AllU.set {l : List Int} (h : AllU l) (i : Nat) {x : Int} (hx : IsU x) : AllU (l.set i x) := by
  intro j
  rw [List.getD_eq_getElem?_getD, List.getElem?_set]
  split
  · split
    · exact hx
    · exact ⟨by simp, by simp⟩
  · rw [← List.getD_eq_getElem?_getD]; exact h j
theorem AllU.cons {l : List Int} {x : Int} (hx : IsU x) (h : AllU l) : AllU (x :: l) := by
  intro i
  cases i with
  | zero => exact hx
  | succ i => exact h i
theorem AllU.nil : AllU [] := fun i => by simp [IsU]
theorem AllU.rep (n : Nat) : AllU (List.replicate n 0) := by
  intro i
  rw [List.getD_eq_getElem?_getD, List.getElem?_replicate]
  split <;> simp [IsU]

/-- Turned round to the right. -/
def rr (x n : Int) : Int := ior .u32 (ishl .u32 x (32 - n)) (ishr .u32 x n)
def RN (n : Nat) : Prop := n = 2 ∨ n = 6 ∨ n = 7 ∨ n = 11 ∨ n = 13 ∨ n = 17 ∨ n = 18 ∨ n = 19 ∨ n = 22 ∨ n = 25
theorem rr_nat {x : Nat} (hx : x < 4294967296) (n : Nat) (hn : RN n) : rr x n = ((x / 2 ^ n + 2 ^ (32 - n) * (x % 2 ^ n) : Nat) : Int) := by
  have h1 : ishl .u32 (x : Int) (32 - n : Int) = ((2 ^ (32 - n) * (x % 2 ^ n) : Nat) : Int) := by
    unfold ishl
    rw [wrap_mod]
    rcases hn with rfl | rfl | rfl | rfl | rfl | rfl | rfl | rfl | rfl | rfl <;> simp [IntKind.bits] <;> omega
  have h2 : ishr .u32 (x : Int) (n : Int) = ((x / 2 ^ n : Nat) : Int) := by
    unfold ishr
    rcases hn with rfl | rfl | rfl | rfl | rfl | rfl | rfl | rfl | rfl | rfl <;> simp [IntKind.bits, Int.fdiv_eq_ediv_of_nonneg]
  have h3 : 2 ^ (32 - n) * (x % 2 ^ n) < 4294967296 := by
    rcases hn with rfl | rfl | rfl | rfl | rfl | rfl | rfl | rfl | rfl | rfl <;> simp <;> omega
  have h4 : x / 2 ^ n < 2 ^ (32 - n) := by
    rcases hn with rfl | rfl | rfl | rfl | rfl | rfl | rfl | rfl | rfl | rfl <;> simp <;> omega
  have h5 : (2 : Nat) ^ (32 - n) ≤ 1073741824 := by rcases hn with rfl | rfl | rfl | rfl | rfl | rfl | rfl | rfl | rfl | rfl <;> simp
  unfold rr
  rw [h1, h2, ior_nat h3 (by omega), ← Nat.two_pow_add_eq_or_of_lt h4, Nat.add_comm]
/-- The reference's turning. -/
theorem rt_eq {x : Int} (hx : IsU x) (n : Nat) (hn : RN n) : IntKind.u32.wrap (IntKind.u32.wrap (x.tdiv (ishl .u32 1 n)) + IntKind.u32.wrap (x * ishl .u32 1 (32 - n))) = rr x n := by
  obtain ⟨y, hy, rfl⟩ := hx.nat
  rw [rr_nat hy n hn, wrap_mod, wrap_mod, wrap_mod]
  have h1 : ishl .u32 1 (n : Int) = ((2 ^ n : Nat) : Int) := by rcases hn with rfl | rfl | rfl | rfl | rfl | rfl | rfl | rfl | rfl | rfl <;> decide
  have h2 : ishl .u32 1 (32 - (n : Int)) = ((2 ^ (32 - n) : Nat) : Int) := by rcases hn with rfl | rfl | rfl | rfl | rfl | rfl | rfl | rfl | rfl | rfl <;> decide
  rw [h1, h2, Int.tdiv_eq_ediv_of_nonneg (by omega)]
  rcases hn with rfl | rfl | rfl | rfl | rfl | rfl | rfl | rfl | rfl | rfl <;> simp <;> omega
theorem shr_eq {x : Int} (hx : IsU x) (n : Nat) (hn : n = 3 ∨ n = 10) : ishr .u32 x n = IntKind.u32.wrap (x.tdiv (2 ^ n)) := by
  obtain ⟨h1, h2⟩ := hx
  rw [wrap_mod, Int.tdiv_eq_ediv_of_nonneg h1]
  unfold ishr
  rcases hn with rfl | rfl <;> simp [IntKind.bits, Int.fdiv_eq_ediv_of_nonneg] <;> omega
theorem not_eq {x : Int} (hx : IsU x) : ixor .u32 IntKind.u32.max x = IntKind.u32.wrap (4294967295 - x) := by
  obtain ⟨y, hy, rfl⟩ := hx.nat
  rw [show IntKind.u32.max = ((4294967295 : Nat) : Int) by decide, ixor_nat (by omega) hy, wrap_mod]
  have : 4294967295 ^^^ y = 4294967295 - y := by
    have h := BitVec.toNat_not (x := BitVec.ofNat 32 y)
    have h2 : (BitVec.allOnes 32 ^^^ BitVec.ofNat 32 y).toNat = 4294967295 ^^^ y := by
      rw [BitVec.toNat_xor, BitVec.toNat_ofNat, Nat.mod_eq_of_lt (by omega)]; rfl
    have h3 : BitVec.allOnes 32 ^^^ BitVec.ofNat 32 y = ~~~ BitVec.ofNat 32 y := by
      rw [BitVec.not_def]
    rw [← h2, h3, h, BitVec.toNat_ofNat, Nat.mod_eq_of_lt (by omega)]
  rw [this]
  omega
end Go.Proofs.Ytdcbgmbpiekbgaa
