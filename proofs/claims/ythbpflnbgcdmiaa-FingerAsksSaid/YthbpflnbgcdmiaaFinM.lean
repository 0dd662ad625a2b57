/- Plain: the little cipher's sum. -/
import Derived.Test.YthbpflnbgcdmiaaNm
namespace Go.Proofs.Ythbpflnbgcdmiaa
open Go Go.Proofs.Ythbpflnbgcdmiaa.Sy
set_option linter.unusedSimpArgs false
set_option linter.unusedVariables false

theorem cell_map {ι κ : Type} (f : ι → κ) (r : Row ι) (j : Nat) : (r.map f).cell j = (r.cell j).map f := by
  cases r with
  | mixed l =>
    simp only [Row.map, Row.cell, AV.mapL_eq, List.getD_eq_getElem?_getD, List.getElem?_map]
    cases l[j]? <;> rfl
  | _ => rfl
def ls1 (k : List Int) (x : Int) : Nat → Int
  | 0 => x
  | i + 1 => IntKind.u64.wrap (IntKind.u64.wrap (ls1 k x i + IntKind.u64.wrap (k.getD i 0)) * 1099511628211)
theorem ls1_zero (k : List Int) (x : Int) : ls1 k x 0 = x := rfl
theorem ls1_succ (k : List Int) (x : Int) (i : Nat) : ls1 k x (i + 1) = IntKind.u64.wrap (IntKind.u64.wrap (ls1 k x i + IntKind.u64.wrap (k.getD i 0)) * 1099511628211) := rfl
def ls2 (b : List Int) (x : Int) : Nat → Int
  | 0 => x
  | i + 1 => IntKind.u64.wrap (IntKind.u64.wrap (IntKind.u64.wrap (ls2 b x i + IntKind.u64.wrap (b.getD i 0)) + 1) * 1099511628211)
theorem ls2_zero (b : List Int) (x : Int) : ls2 b x 0 = x := rfl
theorem ls2_succ (b : List Int) (x : Int) (i : Nat) : ls2 b x (i + 1) = IntKind.u64.wrap (IntKind.u64.wrap (IntKind.u64.wrap (ls2 b x i + IntKind.u64.wrap (b.getD i 0)) + 1) * 1099511628211) := rfl
def ls3 (x : Int) : Nat → Int
  | 0 => x
  | i + 1 => IntKind.u64.wrap (IntKind.u64.wrap (ls3 x i * 6364136223846793005) + 1442695040888963407)
theorem ls3_zero (x : Int) : ls3 x 0 = x := rfl
theorem ls3_succ (x : Int) (i : Nat) : ls3 x (i + 1) = IntKind.u64.wrap (IntKind.u64.wrap (ls3 x i * 6364136223846793005) + 1442695040888963407) := rfl
def lsW (x : Int) : Nat → List Int
  | 0 => List.replicate 16 0
  | i + 1 => (lsW x i).set i (IntKind.u8.wrap (ishr .u64 (ls3 x (i + 1)) 56))
theorem lsW_zero (x : Int) : lsW x 0 = List.replicate 16 0 := rfl
theorem lsW_succ (x : Int) (i : Nat) : lsW x (i + 1) = (lsW x i).set i (IntKind.u8.wrap (ishr .u64 (ls3 x (i + 1)) 56)) := rfl
theorem lsW_len (x : Int) : ∀ i, (lsW x i).length = 16
  | 0 => by simp [lsW]
  | i + 1 => by simp [lsW, lsW_len x i]
/-- The little cipher's sum of bytes under a key. -/
def litS (k b : List Int) : List Int := lsW (ls2 b (ls1 k (b.length : Int) 32) b.length) 16
theorem litS_len (k b : List Int) : (litS k b).length = 16 := lsW_len _ 16
/-- Bytes that a row holds from a place on. -/
def Bytes {α : Type} (E : α → Option (Row α)) (x : α) (o n : Nat) (b : List Int) : Prop := ∃ r, E x = some r ∧ r.flat = true ∧ o + n ≤ r.len ∧ b.length = n ∧ ∀ i, i < n → r.cell (o + i) = .int .u8 (b.getD i 0)
theorem Bytes.look {α : Type} {E : α → Option (Row α)} {rows : Sy.Rows α} {x : α} {o n : Nat} {b : List Int} (h : Bytes E x o n b) : Bytes (Sy.look E rows) (.ext x) o n b := by
  obtain ⟨r, h1, h2, h3, h4, h5⟩ := h
  exact ⟨r.map .ext, by simp only [Sy.look, h1, Option.map_some], by rw [Row.flat_map]; exact h2, by rw [Row.len_map]; exact h3, h4, fun i hi => by rw [cell_map, h5 i hi]; rfl⟩
theorem Bytes.ints {α : Type} {E : α → Option (Row α)} {x : α} {l : List Int} (h : E x = some (.ints .u8 l)) {o n : Nat} {b : List Int} (ho : o + n ≤ l.length) (hb : sub l o n = b) : Bytes E x o n b := by
  refine ⟨_, h, rfl, ho, by rw [← hb, Sy.length_sub ho], fun i hi => ?_⟩
  subst hb
  simp only [Row.cell, Sy.sub, List.getD_eq_getElem?_getD, List.getElem?_take_of_lt hi, List.getElem?_drop]
theorem Bytes.all {α : Type} {E : α → Option (Row α)} {x : α} {b : List Int} (h : E x = some (.ints .u8 b)) {n : Nat} (hn : b.length = n) : Bytes E x 0 n b := .ints h (by omega) (sub_all hn)
end Go.Proofs.Ythbpflnbgcdmiaa
