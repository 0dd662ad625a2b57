/- The hash in plain numbers. -/
import Derived.Test.YtdcbgmbpiekbgaaU32
namespace Go.Proofs.Ytdcbgmbpiekbgaa
open Go Go.Proofs.Ytdcbgmbpiekbgaa.Sy
set_option linter.unusedSimpArgs false
set_option linter.unusedVariables false

def firstL : List Int := [1779033703, 3144134277, 1013904242, 2773480762, 1359893119, 2600822924, 528734635, 1541459225]
def roundK : List Int := [1116352408, 1899447441, 3049323471, 3921009573, 961987163, 1508970993, 2453635748, 2870763221, 3624381080, 310598401, 607225278, 1426881987, 1925078388, 2162078206, 2614888103, 3248222580, 3835390401, 4022224774, 264347078, 604807628, 770255983, 1249150122, 1555081692, 1996064986, 2554220882, 2821834349, 2952996808, 3210313671, 3336571891, 3584528711, 113926993, 338241895, 666307205, 773529912, 1294757372, 1396182291, 1695183700, 1986661051, 2177026350, 2456956037, 2730485921, 2820302411, 3259730800, 3345764771, 3516065817, 3600352804, 4094571909, 275423344, 430227734, 506948616, 659060556, 883997877, 958139571, 1322822218, 1537002063, 1747873779, 1955562222, 2024104815, 2227730452, 2361852424, 2428436474, 2756734187, 3204031479, 3329325298]
/-- The word of four bytes. -/
def wordL (a b c d : Int) : Int := ior .u32 (ior .u32 (ior .u32 (ishl .u32 (IntKind.u32.wrap a) 24) (ishl .u32 (IntKind.u32.wrap b) 16)) (ishl .u32 (IntKind.u32.wrap c) 8)) (IntKind.u32.wrap d)
def sg0 (x : Int) : Int := ixor .u32 (ixor .u32 (rr x 7) (rr x 18)) (ishr .u32 x 3)
def sg1 (x : Int) : Int := ixor .u32 (ixor .u32 (rr x 17) (rr x 19)) (ishr .u32 x 10)
def mixL (w : List Int) (i : Nat) : Int := IntKind.u32.wrap (IntKind.u32.wrap (IntKind.u32.wrap (w.getD (i - 16) 0 + w.getD (i - 7) 0) + sg0 (w.getD (i - 15) 0)) + sg1 (w.getD (i - 2) 0))
/-- So many of the words of a block. -/
def wN (b : List Int) : Nat → List Int
  | 0 => List.replicate 64 0
  | i + 1 => (wN b i).set i (if i < 16 then wordL (b.getD (4 * i) 0) (b.getD (4 * i + 1) 0) (b.getD (4 * i + 2) 0) (b.getD (4 * i + 3) 0) else mixL (wN b i) i)
theorem wN_len (b : List Int) (i : Nat) : (wN b i).length = 64 := by
  induction i with
  | zero => rfl
  | succ i ih => rw [wN, List.length_set, ih]
theorem wN_zero (b : List Int) : wN b 0 = List.replicate 64 0 := rfl
theorem wN_lo (b : List Int) (i : Nat) (h : i < 16) : wN b (i + 1) = (wN b i).set i (wordL (b.getD (4 * i) 0) (b.getD (4 * i + 1) 0) (b.getD (4 * i + 2) 0) (b.getD (4 * i + 3) 0)) := by rw [wN, if_pos h]
theorem wN_hi (b : List Int) (i : Nat) (h : 16 ≤ i) : wN b (i + 1) = (wN b i).set i (mixL (wN b i) i) := by rw [wN, if_neg (by omega)]
def t1L (s : List Int) (k w : Int) : Int := IntKind.u32.wrap (IntKind.u32.wrap (IntKind.u32.wrap (IntKind.u32.wrap (s.getD 7 0 + ixor .u32 (ixor .u32 (rr (s.getD 4 0) 6) (rr (s.getD 4 0) 11)) (rr (s.getD 4 0) 25)) + ixor .u32 (iand .u32 (s.getD 4 0) (s.getD 5 0)) (iand .u32 (ixor .u32 IntKind.u32.max (s.getD 4 0)) (s.getD 6 0))) + k) + w)
def t2L (s : List Int) : Int := IntKind.u32.wrap (ixor .u32 (ixor .u32 (rr (s.getD 0 0) 2) (rr (s.getD 0 0) 13)) (rr (s.getD 0 0) 22) + ixor .u32 (ixor .u32 (iand .u32 (s.getD 0 0) (s.getD 1 0)) (iand .u32 (s.getD 0 0) (s.getD 2 0))) (iand .u32 (s.getD 1 0) (s.getD 2 0)))
def round1 (s : List Int) (k w : Int) : List Int := [IntKind.u32.wrap (t1L s k w + t2L s), s.getD 0 0, s.getD 1 0, s.getD 2 0, IntKind.u32.wrap (s.getD 3 0 + t1L s k w), s.getD 4 0, s.getD 5 0, s.getD 6 0]
def rndN (w h : List Int) : Nat → List Int
  | 0 => h
  | i + 1 => round1 (rndN w h i) (roundK.getD i 0) (w.getD i 0)
theorem rndN_zero (w h : List Int) : rndN w h 0 = h := rfl
theorem rndN_succ (w h : List Int) (i : Nat) : rndN w h (i + 1) = round1 (rndN w h i) (roundK.getD i 0) (w.getD i 0) := rfl
theorem rndN_len (w h : List Int) (hh : h.length = 8) (i : Nat) : (rndN w h i).length = 8 := by
  cases i with
  | zero => exact hh
  | succ i => rfl
def addN (s h : List Int) : Nat → List Int
  | 0 => s
  | i + 1 => (addN s h i).set i (IntKind.u32.wrap ((addN s h i).getD i 0 + h.getD i 0))
theorem addN_zero (s h : List Int) : addN s h 0 = s := rfl
theorem addN_succ (s h : List Int) (i : Nat) : addN s h (i + 1) = (addN s h i).set i (IntKind.u32.wrap ((addN s h i).getD i 0 + h.getD i 0)) := rfl
theorem addN_len (s h : List Int) (i : Nat) : (addN s h i).length = s.length := by
  induction i with
  | zero => rfl
  | succ i ih => rw [addN, List.length_set, ih]
def compL (h b : List Int) : List Int := addN (rndN (wN b 64) h 64) h 8
theorem compL_len (h b : List Int) (hh : h.length = 8) : (compL h b).length = 8 := by rw [compL, addN_len, rndN_len _ _ hh]
/-- The blocks, one behind the other. -/
def foldN (h p : List Int) : Nat → List Int
  | 0 => h
  | n + 1 => compL (foldN h p n) (sub p (64 * n) 64)
theorem foldN_zero (h p : List Int) : foldN h p 0 = h := rfl
theorem foldN_succ (h p : List Int) (n : Nat) : foldN h p (n + 1) = compL (foldN h p n) (sub p (64 * n) 64) := rfl
theorem foldN_len (h p : List Int) (hh : h.length = 8) (n : Nat) : (foldN h p n).length = 8 := by
  induction n with
  | zero => exact hh
  | succ n ih => exact compL_len _ _ ih
/-- A sum's bytes. -/
def outB (h : List Int) (i : Nat) : Int := IntKind.u8.wrap (ishr .u32 (h.getD (i / 4) 0) (24 - 8 * (i % 4 : Nat)))
def outS (h : List Int) : Nat → List Int
  | 0 => List.replicate 32 0
  | i + 1 => (outS h i).set i (outB h i)
theorem outS_zero (h : List Int) : outS h 0 = List.replicate 32 0 := rfl
theorem outS_succ (h : List Int) (i : Nat) : outS h (i + 1) = (outS h i).set i (outB h i) := rfl
theorem outS_len (h : List Int) (i : Nat) : (outS h i).length = 32 := by
  induction i with
  | zero => rfl
  | succ i ih => rw [outS, List.length_set, ih]
/-- A padded text. -/
def padZ (n : Nat) : Nat := (64 - (n + 9) % 64) % 64
def lenL (n : Nat) : List Int := [((8 * n / 72057594037927936 % 256 : Nat) : Int), ((8 * n / 281474976710656 % 256 : Nat) : Int), ((8 * n / 1099511627776 % 256 : Nat) : Int), ((8 * n / 4294967296 % 256 : Nat) : Int), ((8 * n / 16777216 % 256 : Nat) : Int), ((8 * n / 65536 % 256 : Nat) : Int), ((8 * n / 256 % 256 : Nat) : Int), ((8 * n % 256 : Nat) : Int)]
def padL (b : List Int) : List Int := b ++ 128 :: (List.replicate (padZ b.length) 0 ++ lenL b.length)
theorem padL_len (b : List Int) : (padL b).length = b.length + 9 + padZ b.length := by simp [padL, lenL]; omega
theorem padL_mod (b : List Int) : (padL b).length = 64 * ((b.length + 72) / 64) := by rw [padL_len, padZ]; omega
def sumL (b : List Int) : List Int := outS (foldN firstL (padL b) ((b.length + 72) / 64)) 32
theorem sumL_len (b : List Int) : (sumL b).length = 32 := outS_len _ _
/-- The padding, as it is made: so many bytes of the length. -/
def padI (b : List Int) : Nat → List Int
  | 0 => (Sy.splice (List.replicate (b.length + 9 + padZ b.length) 0) 0 b).set b.length 128
  | i + 1 => (padI b i).set (b.length + 9 + padZ b.length - 1 - i) (IntKind.u8.wrap (ishr .u64 (IntKind.u64.wrap (b.length * 8)) (8 * i)))
theorem padI_zero (b : List Int) : padI b 0 = (Sy.splice (List.replicate (b.length + 9 + padZ b.length) 0) 0 b).set b.length 128 := rfl
theorem padI_succ (b : List Int) (i : Nat) : padI b (i + 1) = (padI b i).set (b.length + 9 + padZ b.length - 1 - i) (IntKind.u8.wrap (ishr .u64 (IntKind.u64.wrap (b.length * 8)) (8 * i))) := rfl
theorem padI_len (b : List Int) (i : Nat) : (padI b i).length = b.length + 9 + padZ b.length := by
  induction i with
  | zero => rw [padI_zero, List.length_set, Sy.length_splice (by simp; omega)]; simp
  | succ i ih => rw [padI_succ, List.length_set, ih]
theorem ext_getD {l l' : List Int} (h : l.length = l'.length) (h' : ∀ k, k < l.length → l.getD k 0 = l'.getD k 0) : l = l' := by
  apply List.ext_getElem h
  intro i h1 h2
  have := h' i h1
  simpa [List.getD_eq_getElem?_getD, h1, h2] using this
theorem getD_set (l : List Int) (i j : Nat) (x : Int) : (l.set i x).getD j 0 = if i = j ∧ i < l.length then x else l.getD j 0 := by
  rw [List.getD_eq_getElem?_getD, List.getElem?_set]
  split
  · split
    · rw [if_pos ⟨‹_›, ‹_›⟩]; rfl
    · rw [if_neg (by omega), List.getD_eq_getElem?_getD, List.getElem?_eq_none (by omega)]
  · rw [if_neg (by omega), ← List.getD_eq_getElem?_getD]
theorem getD_app (l m : List Int) (j : Nat) : (l ++ m).getD j 0 = if j < l.length then l.getD j 0 else m.getD (j - l.length) 0 := by
  simp only [List.getD_eq_getElem?_getD, List.getElem?_append]
  split <;> rfl
theorem getD_rep (n j : Nat) : (List.replicate n (0 : Int)).getD j 0 = 0 := by
  rw [List.getD_eq_getElem?_getD, List.getElem?_replicate]; split <;> rfl
/-- A byte of a length. -/
theorem len_byte (n i : Nat) (hn : n < 1152921504606846976) (hi : i < 8) : IntKind.u8.wrap (ishr .u64 (IntKind.u64.wrap ((n : Int) * 8)) (8 * i)) = (lenL n).getD (7 - i) 0 := by
  rw [wrap8, wrap64]
  unfold ishr
  have e : ((n : Int) * 8) % 18446744073709551616 = ((8 * n : Nat) : Int) := by omega
  rw [e]
  match i, hi with
  | 0, _ => simp [lenL, IntKind.bits, Int.fdiv_eq_ediv_of_nonneg]
  | 1, _ => simp [lenL, IntKind.bits, Int.fdiv_eq_ediv_of_nonneg]
  | 2, _ => simp [lenL, IntKind.bits, Int.fdiv_eq_ediv_of_nonneg]
  | 3, _ => simp [lenL, IntKind.bits, Int.fdiv_eq_ediv_of_nonneg]
  | 4, _ => simp [lenL, IntKind.bits, Int.fdiv_eq_ediv_of_nonneg]
  | 5, _ => simp [lenL, IntKind.bits, Int.fdiv_eq_ediv_of_nonneg]
  | 6, _ => simp [lenL, IntKind.bits, Int.fdiv_eq_ediv_of_nonneg]
  | 7, _ => simp [lenL, IntKind.bits, Int.fdiv_eq_ediv_of_nonneg]
theorem padI_get (b : List Int) (hb : b.length < 1152921504606846976) : ∀ (i j : Nat), i ≤ 8 → j < b.length + 9 + padZ b.length →
    (padI b i).getD j 0 = if b.length + 9 + padZ b.length - i ≤ j then (lenL b.length).getD (j - (b.length + 1 + padZ b.length)) 0 else if j < b.length then b.getD j 0 else if j = b.length then 128 else 0 := by
  intro i
  induction i with
  | zero =>
    intro j _ hj
    rw [padI_zero, getD_set, Sy.length_splice (by simp; omega), List.length_replicate, if_neg (show ¬ b.length + 9 + padZ b.length - 0 ≤ j by omega)]
    by_cases h : b.length = j
    · rw [if_pos (by omega), if_neg (by omega), if_pos h.symm]
    · rw [if_neg (by omega), List.getD_eq_getElem?_getD, Sy.splice_get' (by simp; omega), if_neg (by omega)]
      by_cases h2 : j < b.length
      · rw [if_pos (by omega), if_pos h2, Nat.sub_zero, ← List.getD_eq_getElem?_getD]
      · rw [if_neg (by omega), if_neg h2, if_neg (fun e => h e.symm), ← List.getD_eq_getElem?_getD, getD_rep]
  | succ i ih =>
    intro j hi hj
    rw [padI_succ, getD_set, padI_len]
    by_cases h : b.length + 9 + padZ b.length - 1 - i = j
    · rw [if_pos (by omega), if_pos (by omega), len_byte _ _ hb (by omega)]
      congr 1
      omega
    · rw [if_neg (by omega), ih j (by omega) hj]
      by_cases h2 : b.length + 9 + padZ b.length - i ≤ j
      · rw [if_pos h2, if_pos (by omega)]
      · rw [if_neg h2, if_neg (show ¬ b.length + 9 + padZ b.length - (i + 1) ≤ j by omega)]
theorem padI_eq (b : List Int) (hb : b.length < 1152921504606846976) : padI b 8 = padL b := by
  refine ext_getD (by rw [padI_len, padL_len]) fun j hj => ?_
  rw [padI_len] at hj
  rw [padI_get b hb 8 j (by omega) hj, padL, getD_app]
  by_cases h1 : j < b.length
  · rw [if_neg (by omega), if_pos h1, if_pos h1]
  · rw [if_neg h1, if_neg h1]
    by_cases h2 : j = b.length
    · rw [if_neg (by omega), if_pos h2, h2, Nat.sub_self]; rfl
    · obtain ⟨k, hk⟩ : ∃ k, j - b.length = k + 1 := ⟨j - b.length - 1, by omega⟩
      rw [if_neg h2, hk, List.getD_cons_succ, getD_app, List.length_replicate, getD_rep]
      by_cases h3 : k < padZ b.length
      · rw [if_neg (by omega), if_pos h3]
      · rw [if_pos (by omega), if_neg h3]
        congr 1
        omega
theorem padZ_int (n : Nat) : (64 - ((n : Int) + 9) % 64) % 64 = (padZ n : Nat) := by unfold padZ; omega
attribute [irreducible] wN rndN addN foldN outS padI
end Go.Proofs.Ytdcbgmbpiekbgaa
