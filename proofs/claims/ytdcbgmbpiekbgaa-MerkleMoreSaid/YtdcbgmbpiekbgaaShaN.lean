/- Primes and roots in plain numbers. -/
import Derived.Test.YtdcbgmbpiekbgaaShaM
namespace Go.Proofs.Ytdcbgmbpiekbgaa
open Go Go.Proofs.Ytdcbgmbpiekbgaa.Sy
set_option linter.unusedSimpArgs false
set_option linter.unusedVariables false
set_option maxRecDepth 100000

/-- No divisor among so many numbers from 2 on. -/
def dv (n : Nat) : Nat → Bool
  | 0 => true
  | k + 1 => dv n k && (n % (k + 2) != 0)
def primeB (n : Nat) : Bool := dv n (n - 2) && decide (1 < n)
theorem dv_zero (n : Nat) : dv n 0 = true := rfl
theorem dv_succ (n k : Nat) : dv n (k + 1) = (dv n k && (n % (k + 2) != 0)) := rfl
theorem dv_false {n k m : Nat} (h : dv n k = false) (hm : k ≤ m) : dv n m = false := by
  obtain ⟨j, rfl⟩ := Nat.exists_eq_add_of_le hm
  induction j with
  | zero => exact h
  | succ j ih => rw [← Nat.add_assoc, dv_succ, ih (by omega)]; rfl
/-- The primes among so many numbers from 2 on. -/
def pT : Nat → List Int
  | 0 => []
  | m + 1 => if primeB (m + 2) then pT m ++ [((m + 2 : Nat) : Int)] else pT m
theorem pT_zero : pT 0 = [] := rfl
theorem pT_succ (m : Nat) : pT (m + 1) = if primeB (m + 2) then pT m ++ [((m + 2 : Nat) : Int)] else pT m := rfl
theorem pT_pre (m j : Nat) : ∃ r, pT (m + j) = pT m ++ r := by
  induction j with
  | zero => exact ⟨[], by simp⟩
  | succ j ih =>
    obtain ⟨r, hr⟩ := ih
    rw [← Nat.add_assoc, pT_succ]
    split
    · exact ⟨r ++ [_], by rw [hr, List.append_assoc]⟩
    · exact ⟨r, hr⟩
theorem pT_end {m N : Nat} (h : m ≤ N) (hl : (pT N).length ≤ (pT m).length) : pT m = pT N := by
  obtain ⟨j, rfl⟩ := Nat.exists_eq_add_of_le h
  obtain ⟨r, hr⟩ := pT_pre m j
  rw [hr, List.length_append] at hl
  have : r = [] := List.eq_nil_of_length_eq_zero (by omega)
  rw [hr, this, List.append_nil]
theorem pT_len (m : Nat) : (pT m).length ≤ m := by
  induction m with
  | zero => exact Nat.le_refl _
  | succ m ih =>
    rw [pT_succ]
    split
    · rw [List.length_append, List.length_singleton]; omega
    · omega
def w64 (n : Int) : Int := IntKind.u64.wrap n
/-- A row of a product: what there is, and what is carried. -/
def inT (a b : List Int) (i : Nat) (out : List Int) : Nat → List Int × Int
  | 0 => (out, 0)
  | k + 1 => match inT a b i out k with
    | (o, c) => (fun x => (o.set (i + k) (x.tmod 65536), IntKind.u64.wrap (x.tdiv 65536))) (IntKind.u64.wrap (IntKind.u64.wrap (o.getD (i + k) 0 + IntKind.u64.wrap (a.getD i 0 * b.getD k 0)) + c))
theorem inT_zero (a b : List Int) (i : Nat) (out : List Int) : inT a b i out 0 = (out, 0) := rfl
theorem inT_succ (a b : List Int) (i : Nat) (out : List Int) (k : Nat) : inT a b i out (k + 1) = ((inT a b i out k).1.set (i + k) ((IntKind.u64.wrap (IntKind.u64.wrap ((inT a b i out k).1.getD (i + k) 0 + IntKind.u64.wrap (a.getD i 0 * b.getD k 0)) + (inT a b i out k).2)).tmod 65536), IntKind.u64.wrap ((IntKind.u64.wrap (IntKind.u64.wrap ((inT a b i out k).1.getD (i + k) 0 + IntKind.u64.wrap (a.getD i 0 * b.getD k 0)) + (inT a b i out k).2)).tdiv 65536)) := rfl
theorem inT_len (a b : List Int) (i : Nat) (out : List Int) (k : Nat) : (inT a b i out k).1.length = out.length := by
  induction k with
  | zero => rfl
  | succ k ih => rw [inT_succ, List.length_set, ih]
def outT (a b : List Int) : Nat → List Int
  | 0 => List.replicate (a.length + b.length) 0
  | i + 1 => (inT a b i (outT a b i) b.length).1.set (i + b.length) (inT a b i (outT a b i) b.length).2
theorem outT_zero (a b : List Int) : outT a b 0 = List.replicate (a.length + b.length) 0 := rfl
theorem outT_succ (a b : List Int) (i : Nat) : outT a b (i + 1) = (inT a b i (outT a b i) b.length).1.set (i + b.length) (inT a b i (outT a b i) b.length).2 := rfl
theorem outT_len (a b : List Int) (i : Nat) : (outT a b i).length = a.length + b.length := by
  induction i with
  | zero => rw [outT_zero, List.length_replicate]
  | succ i ih => rw [outT_succ, List.length_set, inT_len, ih]
def timesL (a b : List Int) : List Int := outT a b a.length
theorem timesL_len (a b : List Int) : (timesL a b).length = a.length + b.length := outT_len a b _
def abN (a b : List Int) : Nat → Bool
  | 0 => false
  | i + 1 => if a.getD i 0 != b.getD i 0 then decide (a.getD i 0 > b.getD i 0) else abN a b i
theorem abN_zero (a b : List Int) : abN a b 0 = false := rfl
theorem abN_succ (a b : List Int) (i : Nat) : abN a b (i + 1) = if a.getD i 0 != b.getD i 0 then decide (a.getD i 0 > b.getD i 0) else abN a b i := rfl
def aboveB (a b : List Int) : Bool := abN a b (max a.length b.length)
def digL (y : Int) : List Int := [y.tmod 65536, (IntKind.u64.wrap (y.tdiv 65536)).tmod 65536, IntKind.u64.wrap ((IntKind.u64.wrap (y.tdiv 65536)).tdiv 65536)]
theorem digL_def (y : Int) : digL y = [y.tmod 65536, (IntKind.u64.wrap (y.tdiv 65536)).tmod 65536, IntKind.u64.wrap ((IntKind.u64.wrap (y.tdiv 65536)).tdiv 65536)] := rfl
def powL (b : Nat) (y : Int) : List Int := if b = 3 then timesL (timesL (digL y) (digL y)) (digL y) else timesL (digL y) (digL y)
def goalL (p : Int) (b : Nat) : List Int := (List.replicate (2 * b + 1) 0).set (2 * b) (IntKind.u64.wrap p)
def stepY (x : Int) (j : Nat) : Int := IntKind.u64.wrap (x + ishl .u64 1 (36 - (j : Int)))
def rootX (goal : List Int) (b : Nat) : Nat → Int
  | 0 => 0
  | j + 1 => (fun x => (fun y => if aboveB (powL b y) goal then x else y) (stepY x j)) (rootX goal b j)
theorem rootX_zero (goal : List Int) (b : Nat) : rootX goal b 0 = 0 := rfl
theorem rootX_succ (goal : List Int) (b j : Nat) : rootX goal b (j + 1) = if aboveB (powL b (stepY (rootX goal b j) j)) goal then rootX goal b j else stepY (rootX goal b j) j := rfl
def rootL (p : Int) (b : Nat) : Int := IntKind.u32.wrap ((rootX (goalL p b) b 37).tmod 4294967296)
def prim64 : List Int := [2, 3, 5, 7, 11, 13, 17, 19, 23, 29, 31, 37, 41, 43, 47, 53, 59, 61, 67, 71, 73, 79, 83, 89, 97, 101, 103, 107, 109, 113, 127, 131, 137, 139, 149, 151, 157, 163, 167, 173, 179, 181, 191, 193, 197, 199, 211, 223, 227, 229, 233, 239, 241, 251, 257, 263, 269, 271, 277, 281, 283, 293, 307, 311]
/-- Roots, one by one. -/
def rtN (b n : Nat) : Nat → List Int
  | 0 => List.replicate n 0
  | i + 1 => (rtN b n i).set i (rootL (prim64.getD i 0) b)
theorem rtN_zero (b n : Nat) : rtN b n 0 = List.replicate n 0 := rfl
theorem rtN_succ (b n i : Nat) : rtN b n (i + 1) = (rtN b n i).set i (rootL (prim64.getD i 0) b) := rfl
theorem rtN_len (b n i : Nat) : (rtN b n i).length = n := by
  induction i with
  | zero => rw [rtN_zero, List.length_replicate]
  | succ i ih => rw [rtN_succ, List.length_set, ih]
theorem rtN_get (b n : Nat) : ∀ (i j : Nat), j < i → i ≤ n → (rtN b n i).getD j 0 = rootL (prim64.getD j 0) b := by
  intro i
  induction i with
  | zero => intro j h; omega
  | succ i ih =>
    intro j hj hi
    rw [rtN_succ, getD_set, rtN_len]
    by_cases h : i = j
    · rw [if_pos ⟨h, by omega⟩, h]
    · rw [if_neg (by omega)]; exact ih j (by omega) (by omega)
attribute [irreducible] pT inT outT rootX rtN rootL dv abN
end Go.Proofs.Ytdcbgmbpiekbgaa
