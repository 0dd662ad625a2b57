/- A quarter round can be undone, in plain numbers. -/
import Derived.Test.YtliiblphnganhaaChaM
namespace Go.Proofs.Ytliiblphnganhaa
open Go Go.Proofs.Ytliiblphnganhaa.Sy
set_option linter.unusedSimpArgs false
set_option linter.unusedVariables false
set_option linter.unusedSectionVars false

theorem wrap_nat {a : Nat} (h : a < 4294967296) : IntKind.u32.wrap (a : Int) = a := wrap_u32' (by omega) (by omega)
theorem ior_nat {a b : Nat} (ha : a < 4294967296) (hb : b < 4294967296) : ior .u32 a b = ((a ||| b : Nat) : Int) := by
  unfold ior
  have h : (BitVec.ofInt IntKind.u32.bits (a : Int) ||| BitVec.ofInt IntKind.u32.bits (b : Int)).toNat = a ||| b := by
    show (BitVec.ofInt 32 (a : Int) ||| BitVec.ofInt 32 (b : Int)).toNat = a ||| b
    rw [BitVec.toNat_or, BitVec.ofInt_natCast, BitVec.ofInt_natCast, BitVec.toNat_ofNat, BitVec.toNat_ofNat, Nat.mod_eq_of_lt (by omega), Nat.mod_eq_of_lt (by omega)]
  rw [h, wrap_nat (Nat.or_lt_two_pow (n := 32) ha hb)]
theorem ixor_nat {a b : Nat} (ha : a < 4294967296) (hb : b < 4294967296) : ixor .u32 a b = ((a ^^^ b : Nat) : Int) := by
  unfold ixor
  have h : (BitVec.ofInt IntKind.u32.bits (a : Int) ^^^ BitVec.ofInt IntKind.u32.bits (b : Int)).toNat = a ^^^ b := by
    show (BitVec.ofInt 32 (a : Int) ^^^ BitVec.ofInt 32 (b : Int)).toNat = a ^^^ b
    rw [BitVec.toNat_xor, BitVec.ofInt_natCast, BitVec.ofInt_natCast, BitVec.toNat_ofNat, BitVec.toNat_ofNat, Nat.mod_eq_of_lt (by omega), Nat.mod_eq_of_lt (by omega)]
  rw [h, wrap_nat (Nat.xor_lt_two_pow (n := 32) ha hb)]
theorem wrap_mod (n : Int) : IntKind.u32.wrap n = n % 4294967296 := by
  simp only [IntKind.wrap, IntKind.signed, IntKind.bits, Bool.false_and]
  simp
/-- What a turn to the left comes to. -/
def rotN (n x : Nat) : Nat := 2 ^ n * (x % 2 ^ (32 - n)) + x / 2 ^ (32 - n)
def rotB (n x : Nat) : Nat := x / 2 ^ n + 2 ^ (32 - n) * (x % 2 ^ n)
theorem rotl_nat {x : Nat} (hx : x < 4294967296) (n : Nat) (hn : n = 16 ∨ n = 12 ∨ n = 8 ∨ n = 7) : rotl x n = (rotN n x : Nat) := by
  have h1 : ishl .u32 (x : Int) (n : Int) = ((2 ^ n * (x % 2 ^ (32 - n)) : Nat) : Int) := by
    unfold ishl
    rw [wrap_mod]
    rcases hn with rfl | rfl | rfl | rfl <;> simp [IntKind.bits] <;> omega
  have h2 : ishr .u32 (x : Int) (32 - n : Int) = ((x / 2 ^ (32 - n) : Nat) : Int) := by
    unfold ishr
    rcases hn with rfl | rfl | rfl | rfl <;> simp [IntKind.bits, Int.fdiv_eq_ediv_of_nonneg]
  have h3 : 2 ^ n * (x % 2 ^ (32 - n)) < 4294967296 := by
    rcases hn with rfl | rfl | rfl | rfl <;> simp <;> omega
  have h4 : x / 2 ^ (32 - n) < 2 ^ n := by
    rcases hn with rfl | rfl | rfl | rfl <;> simp <;> omega
  have h5 : (2 : Nat) ^ n ≤ 65536 := by rcases hn with rfl | rfl | rfl | rfl <;> simp
  unfold rotl
  rw [h1, h2, ior_nat h3 (by omega), ← Nat.two_pow_add_eq_or_of_lt h4]
  rfl
theorem rotN_lt {x : Nat} (hx : x < 4294967296) (n : Nat) (hn : n = 16 ∨ n = 12 ∨ n = 8 ∨ n = 7) : rotN n x < 4294967296 := by
  rcases hn with rfl | rfl | rfl | rfl <;> simp [rotN] <;> omega
theorem rotB_rotN {x : Nat} (hx : x < 4294967296) (n : Nat) (hn : n = 16 ∨ n = 12 ∨ n = 8 ∨ n = 7) : rotB n (rotN n x) = x := by
  rcases hn with rfl | rfl | rfl | rfl <;> simp [rotN, rotB] <;> omega
/-- Turned the other way, as the law turns. -/
def rotr (x n : Int) : Int := ior .u32 (ishr .u32 x n) (ishl .u32 x (32 - n))
theorem rotr_nat {x : Nat} (hx : x < 4294967296) (n : Nat) (hn : n = 16 ∨ n = 12 ∨ n = 8 ∨ n = 7) : rotr x n = (rotB n x : Nat) := by
  have h1 : ishl .u32 (x : Int) (32 - n : Int) = ((2 ^ (32 - n) * (x % 2 ^ n) : Nat) : Int) := by
    unfold ishl
    rw [wrap_mod]
    rcases hn with rfl | rfl | rfl | rfl <;> simp [IntKind.bits] <;> omega
  have h2 : ishr .u32 (x : Int) (n : Int) = ((x / 2 ^ n : Nat) : Int) := by
    unfold ishr
    rcases hn with rfl | rfl | rfl | rfl <;> simp [IntKind.bits, Int.fdiv_eq_ediv_of_nonneg]
  have h3 : 2 ^ (32 - n) * (x % 2 ^ n) < 4294967296 := by
    rcases hn with rfl | rfl | rfl | rfl <;> simp <;> omega
  have h4 : x / 2 ^ n < 2 ^ (32 - n) := by
    rcases hn with rfl | rfl | rfl | rfl <;> simp <;> omega
  have h5 : (2 : Nat) ^ (32 - n) ≤ 33554432 := by rcases hn with rfl | rfl | rfl | rfl <;> simp
  unfold rotr
  rw [h1, h2, ior_nat (by omega) h3, Nat.or_comm, ← Nat.two_pow_add_eq_or_of_lt h4]
  unfold rotB
  rw [Nat.add_comm]
/-- x, turned and turned back. -/
theorem back_rot {x : Nat} (hx : x < 4294967296) (n : Nat) (hn : n = 16 ∨ n = 12 ∨ n = 8 ∨ n = 7) : rotr (rotl x n) n = x := by
  rw [rotl_nat hx n hn, rotr_nat (rotN_lt hx n hn) n hn, rotB_rotN hx n hn]
theorem xor_xor {a b : Nat} (ha : a < 4294967296) (hb : b < 4294967296) : ixor .u32 (ixor .u32 a b) b = a := by
  rw [ixor_nat ha hb, ixor_nat (Nat.xor_lt_two_pow (n := 32) ha hb) hb, Nat.xor_assoc, Nat.xor_self, Nat.xor_zero]
def U (x : Int) : Prop := ∃ n : Nat, n < 4294967296 ∧ x = n
theorem U_wrap (n : Int) : U (IntKind.u32.wrap n) := ⟨(n % 4294967296).toNat, by omega, by rw [wrap_mod]; omega⟩
theorem U_xor {a b : Int} (ha : U a) (hb : U b) : U (ixor .u32 a b) := by
  obtain ⟨x, hx, rfl⟩ := ha
  obtain ⟨y, hy, rfl⟩ := hb
  exact ⟨x ^^^ y, Nat.xor_lt_two_pow (n := 32) hx hy, ixor_nat hx hy⟩
theorem U_rot {x : Int} (h : U x) (n : Nat) (hn : n = 16 ∨ n = 12 ∨ n = 8 ∨ n = 7) : U (rotl x n) := by
  obtain ⟨y, hy, rfl⟩ := h
  exact ⟨rotN n y, rotN_lt hy n hn, rotl_nat hy n hn⟩
theorem un_rot {x y : Int} (hx : U x) (hy : U y) (n : Nat) (hn : n = 16 ∨ n = 12 ∨ n = 8 ∨ n = 7) : ixor .u32 (rotr (rotl (ixor .u32 x y) n) n) y = x := by
  obtain ⟨z, hz, h⟩ := U_xor hx hy
  rw [h, back_rot hz n hn, ← h]
  obtain ⟨a, ha, rfl⟩ := hx
  obtain ⟨b, hb, rfl⟩ := hy
  exact xor_xor ha hb
theorem un_add {x y : Int} (hx : U x) : IntKind.u32.wrap (IntKind.u32.wrap (x + y) - y) = x := by
  obtain ⟨a, ha, rfl⟩ := hx
  rw [wrap_mod, wrap_mod]
  omega
section
variable {a b c d : Int} (ha : U a) (hb : U b) (hc : U c) (hd : U d)
include ha hb hc hd
theorem uA1 : U (qA1 a b c d) := U_wrap _
theorem uD1 : U (qD1 a b c d) := U_rot (U_xor hd (U_wrap _)) 16 (by omega)
theorem uC1 : U (qC1 a b c d) := U_wrap _
theorem uB1 : U (qB1 a b c d) := U_rot (U_xor hb (U_wrap _)) 12 (by omega)
theorem bk1 : ixor .u32 (rotr (qB a b c d) 7) (qC a b c d) = qB1 a b c d := un_rot (uB1 ha hb hc hd) (U_wrap _) 7 (by omega)
theorem bk2 : IntKind.u32.wrap (qC a b c d - qD a b c d) = qC1 a b c d := un_add (uC1 ha hb hc hd)
theorem bk3 : ixor .u32 (rotr (qD a b c d) 8) (qA a b c d) = qD1 a b c d := un_rot (uD1 ha hb hc hd) (U_wrap _) 8 (by omega)
theorem bk4 : IntKind.u32.wrap (qA a b c d - qB1 a b c d) = qA1 a b c d := un_add (uA1 ha hb hc hd)
theorem bk5 : ixor .u32 (rotr (qB1 a b c d) 12) (qC1 a b c d) = b := un_rot hb (U_wrap _) 12 (by omega)
theorem bk6 : IntKind.u32.wrap (qC1 a b c d - qD1 a b c d) = c := un_add hc
theorem bk7 : ixor .u32 (rotr (qD1 a b c d) 16) (qA1 a b c d) = d := un_rot hd (U_wrap _) 16 (by omega)
theorem bk8 : IntKind.u32.wrap (qA1 a b c d - b) = a := un_add ha
end
end Go.Proofs.Ytliiblphnganhaa
