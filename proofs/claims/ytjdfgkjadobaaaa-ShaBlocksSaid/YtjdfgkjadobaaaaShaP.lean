/- Plain laws of the padding. -/
import Derived.Test.YtjdfgkjadobaaaaShaM
namespace Go.Proofs.Ytjdfgkjadobaaaa
open Go Go.Proofs.Ytjdfgkjadobaaaa.Sy
set_option linter.unusedSimpArgs false
set_option linter.unusedVariables false

theorem padL_tail (b : List Int) (i : Nat) (hi : i < 8) : (padL b).getD (64 * ((b.length + 72) / 64) - 8 + i) 0 = (lenL b.length).getD i 0 := by
  have h := padL_len b
  rw [padL_mod] at h
  rw [padL, getD_app, if_neg (by omega)]
  obtain ⟨k, hk⟩ : ∃ k, 64 * ((b.length + 72) / 64) - 8 + i - b.length = k + 1 := ⟨64 * ((b.length + 72) / 64) - 8 + i - b.length - 1, by omega⟩
  rw [hk, List.getD_cons_succ, getD_app, List.length_replicate, if_neg (by omega)]
  congr 1
  omega
theorem padL_front (b : List Int) : sub (padL b) 0 b.length = b := by simp [sub, padL]
theorem padL_mark (b : List Int) : (padL b).getD b.length 0 = 128 := by rw [padL, getD_app, if_neg (by omega), Nat.sub_self]; rfl
theorem padL_inj {a b : List Int} (ha : a.length ≤ 1000) (hb : b.length ≤ 1000) (h : padL a = padL b) : a = b := by
  have hl : 64 * ((a.length + 72) / 64) = 64 * ((b.length + 72) / 64) := by rw [← padL_mod, ← padL_mod, h]
  have e : ∀ i, i < 8 → (lenL a.length).getD i 0 = (lenL b.length).getD i 0 := by
    intro i hi
    rw [← padL_tail a i hi, ← padL_tail b i hi, h, hl]
  have e6 := e 6 (by omega)
  have e7 := e 7 (by omega)
  simp only [lenL, List.getD_cons_succ, List.getD_cons_zero] at e6 e7
  have hlen : a.length = b.length := by omega
  rw [← padL_front a, ← padL_front b, h, hlen]
theorem lenL_by (n i : Nat) : 0 ≤ (lenL n).getD i 0 ∧ (lenL n).getD i 0 < 256 := by
  match i with
  | 0 => simp only [lenL, List.getD_cons_zero]; omega
  | 1 => simp only [lenL, List.getD_cons_zero, List.getD_cons_succ]; omega
  | 2 => simp only [lenL, List.getD_cons_zero, List.getD_cons_succ]; omega
  | 3 => simp only [lenL, List.getD_cons_zero, List.getD_cons_succ]; omega
  | 4 => simp only [lenL, List.getD_cons_zero, List.getD_cons_succ]; omega
  | 5 => simp only [lenL, List.getD_cons_zero, List.getD_cons_succ]; omega
  | 6 => simp only [lenL, List.getD_cons_zero, List.getD_cons_succ]; omega
  | 7 => simp only [lenL, List.getD_cons_zero, List.getD_cons_succ]; omega
  | i + 8 => simp [lenL]
theorem ior64 {a b : Nat} (ha : a < 4611686018427387904) (hb : b < 4611686018427387904) : ior .i64 a b = ((a ||| b : Nat) : Int) := by
  unfold ior
  have h : (BitVec.ofInt IntKind.i64.bits (a : Int) ||| BitVec.ofInt IntKind.i64.bits (b : Int)).toNat = a ||| b := by
    show (BitVec.ofInt 64 (a : Int) ||| BitVec.ofInt 64 (b : Int)).toNat = a ||| b
    rw [BitVec.toNat_or, BitVec.ofInt_natCast, BitVec.ofInt_natCast, BitVec.toNat_ofNat, BitVec.toNat_ofNat, Nat.mod_eq_of_lt (by omega), Nat.mod_eq_of_lt (by omega)]
  have h2 := Nat.or_lt_two_pow (n := 62) ha hb
  rw [h, wrap_i64' (by omega) (by omega)]
/-- So many bytes of a length. -/
def lenAt (n i : Nat) : Nat := 8 * n / 256 ^ (8 - i)
theorem len_step (n i : Nat) (hn : n ≤ 2000) (hi : i < 8) : ior .i64 (ishl .i64 (lenAt n i : Nat) 8) ((lenL n).getD i 0) = (lenAt n (i + 1) : Nat) := by
  have hs : ∀ a : Nat, a < 1000000 → ishl .i64 (a : Int) 8 = ((256 * a : Nat) : Int) := fun a ha => by
    unfold ishl
    rw [wrap_i64' (by simp [IntKind.bits]; omega) (by simp [IntKind.bits]; omega)]
    simp [IntKind.bits]; omega
  have hor : ∀ a b : Nat, b < 256 → 256 * a ||| b = 256 * a + b := fun a b hb => by rw [show 256 * a = 2 ^ 8 * a by omega, Nat.two_pow_add_eq_or_of_lt (i := 8) hb]
  have key : ∀ a b : Nat, a < 1000000 → b < 256 → ior .i64 (ishl .i64 (a : Int) 8) (b : Int) = ((256 * a + b : Nat) : Int) := fun a b ha hb => by
    rw [hs a ha, ior64 (by omega) (by omega), hor a b hb]
  match i, hi with
  | 0, _ => simp only [lenAt, lenL, List.getD_cons_zero]; rw [key _ _ (by simp; omega) (by omega)]; simp; omega
  | 1, _ => simp only [lenAt, lenL, List.getD_cons_zero, List.getD_cons_succ]; rw [key _ _ (by simp; omega) (by omega)]; simp; omega
  | 2, _ => simp only [lenAt, lenL, List.getD_cons_zero, List.getD_cons_succ]; rw [key _ _ (by simp; omega) (by omega)]; simp; omega
  | 3, _ => simp only [lenAt, lenL, List.getD_cons_zero, List.getD_cons_succ]; rw [key _ _ (by simp; omega) (by omega)]; simp; omega
  | 4, _ => simp only [lenAt, lenL, List.getD_cons_zero, List.getD_cons_succ]; rw [key _ _ (by simp; omega) (by omega)]; simp; omega
  | 5, _ => simp only [lenAt, lenL, List.getD_cons_zero, List.getD_cons_succ]; rw [key _ _ (by simp; omega) (by omega)]; simp; omega
  | 6, _ => simp only [lenAt, lenL, List.getD_cons_zero, List.getD_cons_succ]; rw [key _ _ (by simp; omega) (by omega)]; simp; omega
  | 7, _ => simp only [lenAt, lenL, List.getD_cons_zero, List.getD_cons_succ]; rw [key _ _ (by simp; omega) (by omega)]; simp; omega
end Go.Proofs.Ytjdfgkjadobaaaa
