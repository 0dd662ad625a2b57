/- The cipher in plain numbers: state, block, stream. -/
import Derived.Test.YtopiceaeombefaaChaM
namespace Go.Proofs.Ytopiceaeombefaa
open Go Go.Proofs.Ytopiceaeombefaa.Sy
set_option linter.unusedSimpArgs false
set_option linter.unusedVariables false

/-- The reference's rounds. -/
def refN (s : List Int) : Nat → List Int
  | 0 => s
  | n + 1 => rowN (n % 2) (refN s n) 4
theorem refN_len (s : List Int) (i : Nat) : (refN s i).length = s.length := by
  induction i with
  | zero => rfl
  | succ i ih => rw [refN, rowN_len, ih]
theorem refN_two (s : List Int) (n : Nat) : refN s (2 * n) = dblN s n := by
  induction n with
  | zero => simp [refN, dblN_zero]
  | succ n ih =>
    rw [show 2 * (n + 1) = (2 * n + 1) + 1 by omega, refN, refN, ih, dblN_succ]
    rw [show (2 * n) % 2 = 0 by omega, show (2 * n + 1) % 2 = 1 by omega]
theorem refN_succ (s : List Int) (n : Nat) : refN s (n + 1) = rowN (n % 2) (refN s n) 4 := rfl
theorem refN_zero (s : List Int) : refN s 0 = s := rfl

def s0L : List Int := [1634760805, 857760878, 2036477234, 1797285236, 0, 0, 0, 0, 0, 0, 0, 0, 0, 0, 0, 0]
/-- The key's bytes, so many, put into a state. -/
def keyN (k : List Int) : Nat → List Int
  | 0 => s0L
  | i + 1 => (keyN k i).set (4 + i / 4) (ior .u32 ((keyN k i).getD (4 + i / 4) 0) (ishl .u32 (IntKind.u32.wrap (k.getD i 0)) (8 * (i % 4 : Nat))))
theorem keyN_len (k : List Int) (i : Nat) : (keyN k i).length = 16 := by
  induction i with
  | zero => rfl
  | succ i ih => rw [keyN, List.length_set, ih]
theorem keyN_zero (k : List Int) : keyN k 0 = s0L := rfl
theorem keyN_succ (k : List Int) (i : Nat) : keyN k (i + 1) = (keyN k i).set (4 + i / 4) (ior .u32 ((keyN k i).getD (4 + i / 4) 0) (ishl .u32 (IntKind.u32.wrap (k.getD i 0)) (8 * (i % 4 : Nat)))) := rfl
def stateL (k : List Int) (c n : Int) : List Int := (((keyN k 32).set 12 c).set 14 (IntKind.u32.wrap n)).set 15 (IntKind.u32.wrap (ishr .u64 n 32))
theorem stateL_len (k : List Int) (c n : Int) : (stateL k c n).length = 16 := by simp [stateL, keyN_len]
/-- So many bytes of a block. -/
def outN (s r : List Int) : Nat → List Int
  | 0 => List.replicate 64 0
  | i + 1 => (outN s r i).set i (IntKind.u8.wrap (ishr .u32 (IntKind.u32.wrap (s.getD (i / 4) 0 + r.getD (i / 4) 0)) (8 * (i % 4 : Nat))))
theorem outN_len (s r : List Int) (i : Nat) : (outN s r i).length = 64 := by
  induction i with
  | zero => rfl
  | succ i ih => rw [outN, List.length_set, ih]
theorem outN_zero (s r : List Int) : outN s r 0 = List.replicate 64 0 := rfl
theorem outN_succ (s r : List Int) (i : Nat) : outN s r (i + 1) = (outN s r i).set i (IntKind.u8.wrap (ishr .u32 (IntKind.u32.wrap (s.getD (i / 4) 0 + r.getD (i / 4) 0)) (8 * (i % 4 : Nat)))) := rfl
def blockL (k : List Int) (c n : Int) : List Int := outN (stateL k c n) (roundsL (stateL k c n)) 64
theorem blockL_len (k : List Int) (c n : Int) : (blockL k c n).length = 64 := outN_len _ _ _
/-- So many blocks. -/
def catN (k : List Int) (n : Int) : Nat → List Int
  | 0 => []
  | i + 1 => catN k n i ++ blockL k i n
theorem catN_len (k : List Int) (n : Int) (i : Nat) : (catN k n i).length = 64 * i := by
  induction i with
  | zero => rfl
  | succ i ih => rw [catN, List.length_append, ih, blockL_len]; omega
theorem catN_zero (k : List Int) (n : Int) : catN k n 0 = [] := rfl
theorem catN_succ (k : List Int) (n : Int) (i : Nat) : catN k n (i + 1) = catN k n i ++ blockL k i n := rfl
attribute [irreducible] refN keyN outN catN blockL stateL
end Go.Proofs.Ytopiceaeombefaa
