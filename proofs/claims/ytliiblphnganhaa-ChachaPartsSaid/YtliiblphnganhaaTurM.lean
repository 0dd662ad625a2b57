/- Columns that go some places on, in plain numbers. -/
import Derived.Test.YtliiblphnganhaaChaM
import Derived.KernelRfl
namespace Go.Proofs.Ytliiblphnganhaa
open Go Go.Proofs.Ytliiblphnganhaa.Sy
set_option linter.unusedSimpArgs false
set_option linter.unusedVariables false
set_option maxRecDepth 100000

def turnN (s : List Int) (n : Nat) : Nat → List Int
  | 0 => List.replicate 16 0
  | i + 1 => (turnN s n i).set (i / 4 * 4 + (i + n) % 4) (s.getD i 0)
theorem turnN_len (s : List Int) (n i : Nat) : (turnN s n i).length = 16 := by
  induction i with
  | zero => rfl
  | succ i ih => rw [turnN, List.length_set, ih]
theorem turnN_zero (s : List Int) (n : Nat) : turnN s n 0 = List.replicate 16 0 := rfl
theorem turnN_succ (s : List Int) (n i : Nat) : turnN s n (i + 1) = (turnN s n i).set (i / 4 * 4 + (i + n) % 4) (s.getD i 0) := rfl
def turnL (s : List Int) (n : Nat) : List Int := turnN s n 16
theorem turnL_len (s : List Int) (n : Nat) : (turnL s n).length = 16 := turnN_len s n 16

theorem sixteen {s : List Int} (h : s.length = 16) : ∃ x0 x1 x2 x3 x4 x5 x6 x7 x8 x9 x10 x11 x12 x13 x14 x15, s = [x0, x1, x2, x3, x4, x5, x6, x7, x8, x9, x10, x11, x12, x13, x14, x15] := by
  match s, h with
  | [x0, x1, x2, x3, x4, x5, x6, x7, x8, x9, x10, x11, x12, x13, x14, x15], _ => exact ⟨_, _, _, _, _, _, _, _, _, _, _, _, _, _, _, _, rfl⟩
theorem row_turn (k : Nat) (hk : k = 0 ∨ k = 1) (n : Nat) (hn : n < 4) (s : List Int) (h : s.length = 16) : rowN k (turnL s n) 4 = turnL (rowN k s 4) n := by
  obtain ⟨x0, x1, x2, x3, x4, x5, x6, x7, x8, x9, x10, x11, x12, x13, x14, x15, rfl⟩ := sixteen h
  match n, hn with
  | 0, _ => rcases hk with rfl | rfl <;> simp [turnL, turnN_succ, turnN_zero, rowN_succ, rowN_zero, row1, quarterL_def]
  | 1, _ => rcases hk with rfl | rfl <;> simp [turnL, turnN_succ, turnN_zero, rowN_succ, rowN_zero, row1, quarterL_def]
  | 2, _ => rcases hk with rfl | rfl <;> simp [turnL, turnN_succ, turnN_zero, rowN_succ, rowN_zero, row1, quarterL_def]
  | 3, _ => rcases hk with rfl | rfl <;> simp [turnL, turnN_succ, turnN_zero, rowN_succ, rowN_zero, row1, quarterL_def]
theorem dbl_turn (n : Nat) (hn : n < 4) (s : List Int) (h : s.length = 16) (m : Nat) : dblN (turnL s n) m = turnL (dblN s m) n := by
  induction m with
  | zero => rw [dblN_zero, dblN_zero]
  | succ m ih =>
    rw [dblN_succ, dblN_succ, ih, row_turn 0 (.inl rfl) n hn _ (by rw [dblN_len, h]), row_turn 1 (.inr rfl) n hn _ (by rw [rowN_len, dblN_len, h])]
theorem rounds_turn (n : Nat) (hn : n < 4) (s : List Int) (h : s.length = 16) : roundsL (turnL s n) = turnL (roundsL s) n := by
  unfold roundsL
  exact dbl_turn n hn s h 10
attribute [irreducible] turnN
end Go.Proofs.Ytliiblphnganhaa
