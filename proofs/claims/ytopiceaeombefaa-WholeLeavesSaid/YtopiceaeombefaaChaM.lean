/- The cipher in plain numbers. -/
import Derived.Test.YtopiceaeombefaaSyB
namespace Go.Proofs.Ytopiceaeombefaa
open Go Go.Proofs.Ytopiceaeombefaa.Sy
set_option linter.unusedSimpArgs false
set_option linter.unusedVariables false

/-- Turned by n places. -/
def rotl (x n : Int) : Int := ior .u32 (ishl .u32 x n) (ishr .u32 x (32 - n))
def u32 (n : Int) : Int := IntKind.u32.wrap n

def qA1 (a b c d : Int) : Int := u32 (a + b)
def qD1 (a b c d : Int) : Int := rotl (ixor .u32 d (qA1 a b c d)) 16
def qC1 (a b c d : Int) : Int := u32 (c + qD1 a b c d)
def qB1 (a b c d : Int) : Int := rotl (ixor .u32 b (qC1 a b c d)) 12
def qA (a b c d : Int) : Int := u32 (qA1 a b c d + qB1 a b c d)
def qD (a b c d : Int) : Int := rotl (ixor .u32 (qD1 a b c d) (qA a b c d)) 8
def qC (a b c d : Int) : Int := u32 (qC1 a b c d + qD a b c d)
def qB (a b c d : Int) : Int := rotl (ixor .u32 (qB1 a b c d) (qC a b c d)) 7
/-- A quarter round at four places. -/
def quarterL (s : List Int) (a b c d : Nat) : List Int :=
  (((s.set a (qA (s.getD a 0) (s.getD b 0) (s.getD c 0) (s.getD d 0))).set b (qB (s.getD a 0) (s.getD b 0) (s.getD c 0) (s.getD d 0))).set c (qC (s.getD a 0) (s.getD b 0) (s.getD c 0) (s.getD d 0))).set d (qD (s.getD a 0) (s.getD b 0) (s.getD c 0) (s.getD d 0))
theorem quarterL_len (s : List Int) (a b c d : Nat) : (quarterL s a b c d).length = s.length := by simp [quarterL]

/-- Four quarter rounds, slanted by k. -/
def row1 (k : Nat) (s : List Int) (i : Nat) : List Int := quarterL s i (4 + (i + k) % 4) (8 + (i + 2 * k) % 4) (12 + (i + 3 * k) % 4)
def rowN (k : Nat) (s : List Int) : Nat → List Int
  | 0 => s
  | i + 1 => row1 k (rowN k s i) i
def dblN (s : List Int) : Nat → List Int
  | 0 => s
  | n + 1 => rowN 1 (rowN 0 (dblN s n) 4) 4
def roundsL (s : List Int) : List Int := dblN s 10
theorem row1_len (k : Nat) (s : List Int) (i : Nat) : (row1 k s i).length = s.length := quarterL_len _ _ _ _ _
theorem rowN_len (k : Nat) (s : List Int) (i : Nat) : (rowN k s i).length = s.length := by
  induction i with
  | zero => rfl
  | succ i ih => rw [rowN, row1_len, ih]
theorem dblN_len (s : List Int) (i : Nat) : (dblN s i).length = s.length := by
  induction i with
  | zero => rfl
  | succ i ih => rw [dblN, rowN_len, rowN_len, ih]
theorem roundsL_len (s : List Int) : (roundsL s).length = s.length := dblN_len s 10
theorem row1_zero (s : List Int) (i : Nat) (hi : i < 4) : row1 0 s i = quarterL s i (4 + i) (8 + i) (12 + i) := by
  simp [row1, Nat.mod_eq_of_lt hi]

theorem rowN_succ (k : Nat) (s : List Int) (i : Nat) : rowN k s (i + 1) = row1 k (rowN k s i) i := rfl
theorem dblN_succ (s : List Int) (n : Nat) : dblN s (n + 1) = rowN 1 (rowN 0 (dblN s n) 4) 4 := rfl
theorem rowN_zero (k : Nat) (s : List Int) : rowN k s 0 = s := rfl
theorem dblN_zero (s : List Int) : dblN s 0 = s := rfl
theorem quarterL_def (s : List Int) (a b c d : Nat) : quarterL s a b c d = (((s.set a (qA (s.getD a 0) (s.getD b 0) (s.getD c 0) (s.getD d 0))).set b (qB (s.getD a 0) (s.getD b 0) (s.getD c 0) (s.getD d 0))).set c (qC (s.getD a 0) (s.getD b 0) (s.getD c 0) (s.getD d 0))).set d (qD (s.getD a 0) (s.getD b 0) (s.getD c 0) (s.getD d 0)) := rfl
attribute [irreducible] row1 rowN dblN quarterL roundsL
end Go.Proofs.Ytopiceaeombefaa
