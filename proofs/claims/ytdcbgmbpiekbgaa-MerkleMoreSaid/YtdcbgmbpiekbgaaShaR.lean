/- The reference's words and bytes in plain numbers. -/
import Derived.Test.YtdcbgmbpiekbgaaShaM
namespace Go.Proofs.Ytdcbgmbpiekbgaa
open Go Go.Proofs.Ytdcbgmbpiekbgaa.Sy
set_option linter.unusedSimpArgs false
set_option linter.unusedVariables false

def IsB (x : Int) : Prop := 0 ≤ x ∧ x < 256
def AllB (l : List Int) : Prop := ∀ i, IsB (l.getD i 0)
theorem shl_nat (v n : Nat) (hn : n = 8 ∨ n = 16 ∨ n = 24) (hv : v < 256) : ishl .u32 (v : Int) (n : Int) = ((2 ^ n * v : Nat) : Int) := by
  unfold ishl
  rw [wrap_mod]
  rcases hn with rfl | rfl | rfl <;> simp [IntKind.bits] <;> omega
theorem or_add (i a b : Nat) (h : b < 2 ^ i) : 2 ^ i * a ||| b = 2 ^ i * a + b := by rw [Nat.two_pow_add_eq_or_of_lt h]
theorem wordL_nat {a b c d : Nat} (ha : a < 256) (hb : b < 256) (hc : c < 256) (hd : d < 256) : wordL a b c d = ((16777216 * a + 65536 * b + 256 * c + d : Nat) : Int) := by
  have e8 := shl_nat c 8 (by omega) hc
  have e16 := shl_nat b 16 (by omega) hb
  have e24 := shl_nat a 24 (by omega) ha
  simp only [Int.cast_ofNat_Int] at e8 e16 e24
  unfold wordL
  rw [wrap_nat (by omega), wrap_nat (by omega), wrap_nat (by omega), wrap_nat (by omega), e8, e16, e24, ior_nat (by omega) (by omega), or_add 24 _ _ (by omega), ior_nat (by omega) (by omega), show 2 ^ 24 * a + 2 ^ 16 * b = 2 ^ 16 * (256 * a + b) by omega, or_add 16 _ _ (by omega), ior_nat (by omega) (by omega), show 2 ^ 16 * (256 * a + b) + 2 ^ 8 * c = 2 ^ 8 * (65536 * a + 256 * b + c) by omega, or_add 8 _ _ (by omega)]
/-- A word, byte by byte. -/
def pw (b : List Int) (t : Nat) : Nat → Int
  | 0 => 0
  | j + 1 => IntKind.u32.wrap (IntKind.u32.wrap (pw b t j * 256) + IntKind.u32.wrap (b.getD (4 * t + j) 0))
theorem pw_zero (b : List Int) (t : Nat) : pw b t 0 = 0 := rfl
theorem pw_succ (b : List Int) (t j : Nat) : pw b t (j + 1) = IntKind.u32.wrap (IntKind.u32.wrap (pw b t j * 256) + IntKind.u32.wrap (b.getD (4 * t + j) 0)) := rfl
theorem pw_four {b : List Int} (hb : AllB b) (t : Nat) : pw b t 4 = wordL (b.getD (4 * t) 0) (b.getD (4 * t + 1) 0) (b.getD (4 * t + 2) 0) (b.getD (4 * t + 3) 0) := by
  obtain ⟨a, ha, h0⟩ : ∃ n : Nat, n < 256 ∧ b.getD (4 * t) 0 = n := ⟨(b.getD (4 * t) 0).toNat, by have := hb (4 * t); have := this.1; have := (hb (4 * t)).2; omega, by have := (hb (4 * t)).1; omega⟩
  obtain ⟨c, hc, h1⟩ : ∃ n : Nat, n < 256 ∧ b.getD (4 * t + 1) 0 = n := ⟨(b.getD (4 * t + 1) 0).toNat, by have := (hb (4 * t + 1)).1; have := (hb (4 * t + 1)).2; omega, by have := (hb (4 * t + 1)).1; omega⟩
  obtain ⟨d, hd, h2⟩ : ∃ n : Nat, n < 256 ∧ b.getD (4 * t + 2) 0 = n := ⟨(b.getD (4 * t + 2) 0).toNat, by have := (hb (4 * t + 2)).1; have := (hb (4 * t + 2)).2; omega, by have := (hb (4 * t + 2)).1; omega⟩
  obtain ⟨e, he, h3⟩ : ∃ n : Nat, n < 256 ∧ b.getD (4 * t + 3) 0 = n := ⟨(b.getD (4 * t + 3) 0).toNat, by have := (hb (4 * t + 3)).1; have := (hb (4 * t + 3)).2; omega, by have := (hb (4 * t + 3)).1; omega⟩
  simp only [pw_succ, pw_zero, Nat.add_zero, h0, h1, h2, h3]
  rw [wordL_nat ha hc hd he]
  simp only [wrap_mod]
  omega
theorem wN_succ (b : List Int) (i : Nat) : wN b (i + 1) = (wN b i).set i (if i < 16 then wordL (b.getD (4 * i) 0) (b.getD (4 * i + 1) 0) (b.getD (4 * i + 2) 0) (b.getD (4 * i + 3) 0) else mixL (wN b i) i) := by
  by_cases h : i < 16
  · rw [wN_lo b i h, if_pos h]
  · rw [wN_hi b i (by omega), if_neg h]
theorem wN_tail (b : List Int) : ∀ (i k : Nat), i ≤ k → (wN b i).getD k 0 = 0 := by
  intro i
  induction i with
  | zero => intro k _; rw [wN_zero, getD_rep]
  | succ i ih => intro k hk; rw [wN_succ, getD_set, if_neg (by omega)]; exact ih k (by omega)
theorem wN_idle (b : List Int) (t : Nat) : (wN b t).set t 0 = wN b t := by
  refine ext_getD (by rw [List.length_set]) fun k hk => ?_
  rw [getD_set]
  split
  · rename_i h; rw [← h.1, wN_tail b t t (Nat.le_refl _)]
  · rfl
theorem wN_U (b : List Int) (i : Nat) : AllU (wN b i) := by
  induction i with
  | zero => rw [wN_zero]; exact AllU.rep 64
  | succ i ih =>
    rw [wN_succ]
    refine ih.set i ?_
    split
    · exact isU_wrap _
    · exact isU_wrap _
theorem shr3 {x : Int} (hx : IsU x) : IntKind.u32.wrap (x.tdiv 8) = ishr .u32 x 3 := (shr_eq hx 3 (.inl rfl)).symm
theorem shr10 {x : Int} (hx : IsU x) : IntKind.u32.wrap (x.tdiv 1024) = ishr .u32 x 10 := (shr_eq hx 10 (.inr rfl)).symm
theorem round1_U {s : List Int} (h : AllU s) (k w : Int) : AllU (round1 s k w) :=
  .cons (isU_wrap _) (.cons (h 0) (.cons (h 1) (.cons (h 2) (.cons (isU_wrap _) (.cons (h 4) (.cons (h 5) (.cons (h 6) .nil)))))))
theorem rndN_U {h : List Int} (hh : AllU h) (w : List Int) (i : Nat) : AllU (rndN w h i) := by
  induction i with
  | zero => rw [rndN_zero]; exact hh
  | succ i ih => rw [rndN_succ]; exact round1_U ih _ _
theorem addN_U {s : List Int} (hs : AllU s) (h : List Int) (i : Nat) : AllU (addN s h i) := by
  induction i with
  | zero => rw [addN_zero]; exact hs
  | succ i ih => rw [addN_succ]; exact ih.set i (isU_wrap _)
theorem compL_U {h : List Int} (hh : AllU h) (b : List Int) : AllU (compL h b) := addN_U (rndN_U hh _ _) _ _
theorem foldN_U {h : List Int} (hh : AllU h) (p : List Int) (n : Nat) : AllU (foldN h p n) := by
  induction n with
  | zero => rw [foldN_zero]; exact hh
  | succ n ih => rw [foldN_succ]; exact compL_U ih _
theorem first_U : AllU firstL := by
  intro i
  match i with
  | 0 => exact ⟨by decide, by decide⟩
  | 1 => exact ⟨by decide, by decide⟩
  | 2 => exact ⟨by decide, by decide⟩
  | 3 => exact ⟨by decide, by decide⟩
  | 4 => exact ⟨by decide, by decide⟩
  | 5 => exact ⟨by decide, by decide⟩
  | 6 => exact ⟨by decide, by decide⟩
  | 7 => exact ⟨by decide, by decide⟩
  | i + 8 => exact ⟨by simp [firstL], by simp [firstL]⟩
/-- What a word's quotients come to. -/
def xR (x : Int) : Nat → Int
  | 0 => x
  | j + 1 => IntKind.u32.wrap ((xR x j).tdiv 256)
theorem xR_zero (x : Int) : xR x 0 = x := rfl
theorem xR_succ (x : Int) (j : Nat) : xR x (j + 1) = IntKind.u32.wrap ((xR x j).tdiv 256) := rfl
theorem xR_nat {x : Nat} (hx : x < 4294967296) : ∀ j, xR x j = ((x / 256 ^ j : Nat) : Int)
  | 0 => by simp [xR_zero]
  | j + 1 => by
    have : x / 256 ^ j ≤ x := Nat.div_le_self _ _
    rw [xR_succ, xR_nat hx j, Nat.pow_succ, ← Nat.div_div_eq_div_mul]
    generalize x / 256 ^ j = q at *
    rw [Int.tdiv_eq_ediv_of_nonneg (by omega), wrap_mod]
    omega
theorem out_byte {h : List Int} (hh : AllU h) {i j : Nat} (hj : j < 4) : IntKind.u8.wrap ((xR (h.getD i 0) j).tmod 256) = outB h (4 * i + 3 - j) := by
  obtain ⟨x, hx, he⟩ := (hh i).nat
  unfold outB
  rw [show (4 * i + 3 - j) / 4 = i by omega, show (4 * i + 3 - j) % 4 = 3 - j by omega, he, xR_nat hx, Int.tmod_eq_emod_of_nonneg (Int.natCast_nonneg _), wrap8, wrap8]
  unfold ishr
  match j, hj with
  | 0, _ => simp [IntKind.bits, Int.fdiv_eq_ediv_of_nonneg]
  | 1, _ => simp [IntKind.bits, Int.fdiv_eq_ediv_of_nonneg]
  | 2, _ => simp [IntKind.bits, Int.fdiv_eq_ediv_of_nonneg]
  | 3, _ => simp [IntKind.bits, Int.fdiv_eq_ediv_of_nonneg]
/-- A word's bytes, the last one first. -/
def oR (h : List Int) (i : Nat) : Nat → List Int
  | 0 => outS h (4 * i)
  | j + 1 => (oR h i j).set (4 * i + 3 - j) (outB h (4 * i + 3 - j))
theorem oR_zero (h : List Int) (i : Nat) : oR h i 0 = outS h (4 * i) := rfl
theorem oR_succ (h : List Int) (i j : Nat) : oR h i (j + 1) = (oR h i j).set (4 * i + 3 - j) (outB h (4 * i + 3 - j)) := rfl
theorem oR_len (h : List Int) (i j : Nat) : (oR h i j).length = 32 := by
  induction j with
  | zero => rw [oR_zero, outS_len]
  | succ j ih => rw [oR_succ, List.length_set, ih]
theorem outS_get (h : List Int) : ∀ (n k : Nat), n ≤ 32 → (outS h n).getD k 0 = if k < n then outB h k else 0 := by
  intro n
  induction n with
  | zero => intro k _; rw [outS_zero, getD_rep]; rfl
  | succ n ih =>
    intro k hn
    rw [outS_succ, getD_set, outS_len]
    by_cases hk : n = k
    · rw [if_pos ⟨hk, by omega⟩, if_pos (by omega), hk]
    · rw [if_neg (by omega), ih k (by omega)]
      by_cases h2 : k < n
      · rw [if_pos h2, if_pos (by omega)]
      · rw [if_neg h2, if_neg (by omega)]
theorem oR_four (h : List Int) (i : Nat) (hi : i < 8) : oR h i 4 = outS h (4 * (i + 1)) := by
  refine ext_getD (by rw [oR_len, outS_len]) fun k hk => ?_
  rw [oR_len] at hk
  rw [outS_get h _ k (by omega)]
  simp only [oR_succ, oR_zero, getD_set, List.length_set, outS_len, outS_get h (4 * i) k (by omega)]
  by_cases h1 : k < 4 * i
  · rw [if_neg (by omega), if_neg (by omega), if_neg (by omega), if_neg (by omega), if_pos h1, if_pos (by omega)]
  · by_cases h2 : k < 4 * (i + 1)
    · rw [if_pos h2]
      obtain ⟨j, hj, rfl⟩ : ∃ j, j < 4 ∧ k = 4 * i + j := ⟨k - 4 * i, by omega, by omega⟩
      match j, hj with
      | 0, _ => rw [if_pos (by omega)]; congr 1
      | 1, _ => rw [if_neg (by omega), if_pos (by omega)]; congr 1
      | 2, _ => rw [if_neg (by omega), if_neg (by omega), if_pos (by omega)]; congr 1
      | 3, _ => rw [if_neg (by omega), if_neg (by omega), if_neg (by omega), if_pos (by omega)]; congr 1
    · rw [if_neg (by omega), if_neg (by omega), if_neg (by omega), if_neg (by omega), if_neg h1, if_neg h2]
theorem AllB.sub {l : List Int} (h : AllB l) (o n : Nat) : AllB (sub l o n) := by
  intro i
  rw [List.getD_eq_getElem?_getD, Sy.sub]
  rcases Nat.lt_or_ge i n with hi | hi
  · rw [List.getElem?_take_of_lt hi, List.getElem?_drop, ← List.getD_eq_getElem?_getD]; exact h _
  · rw [List.getElem?_eq_none (by rw [List.length_take]; omega)]; exact ⟨by simp, by simp⟩
theorem AllB.app {l m : List Int} (h : AllB l) (hm : AllB m) : AllB (l ++ m) := by
  intro i
  rw [getD_app]
  split
  · exact h i
  · exact hm _
theorem AllB.cons {a : Int} {l : List Int} (h : IsB a) (hl : AllB l) : AllB (a :: l) := by
  intro i
  cases i with
  | zero => simpa using h
  | succ i => simpa using hl i
theorem AllB.nil : AllB [] := fun i => ⟨by simp, by simp⟩
theorem AllB.rep (n : Nat) : AllB (List.replicate n 0) := fun i => by rw [getD_rep]; exact ⟨by omega, by omega⟩
theorem lenL_B (n : Nat) : AllB (lenL n) := by
  unfold lenL
  exact .cons ⟨by omega, by omega⟩ (.cons ⟨by omega, by omega⟩ (.cons ⟨by omega, by omega⟩ (.cons ⟨by omega, by omega⟩ (.cons ⟨by omega, by omega⟩ (.cons ⟨by omega, by omega⟩ (.cons ⟨by omega, by omega⟩ (.cons ⟨by omega, by omega⟩ .nil)))))))
theorem padL_B {b : List Int} (h : AllB b) : AllB (padL b) := h.app (.cons ⟨by omega, by omega⟩ ((AllB.rep _).app (lenL_B _)))
theorem outS_B (h : List Int) : ∀ n, AllB (outS h n)
  | 0 => by rw [outS_zero]; exact .rep 32
  | n + 1 => by
    intro k
    rw [outS_succ, getD_set]
    split
    · unfold outB; rw [wrap8]; exact ⟨by omega, by omega⟩
    · exact outS_B h n k
theorem sumL_B (b : List Int) : AllB (sumL b) := outS_B _ _
theorem p256 (j : Nat) (hj : j < 7) : IntKind.u64.wrap (((256 ^ j : Nat) : Int) * 256) = ((256 ^ (j + 1) : Nat) : Int) := by
  match j, hj with
  | 0, _ => rfl
  | 1, _ => rfl
  | 2, _ => rfl
  | 3, _ => rfl
  | 4, _ => rfl
  | 5, _ => rfl
  | 6, _ => rfl
theorem byteR (n i : Nat) (hn : n ≤ 1099511627776) (hi : i < 8) : IntKind.u8.wrap ((IntKind.u64.wrap ((n : Int) * 8 / ((256 ^ (7 - i) : Nat) : Int))).tmod 256) = (lenL n).getD i 0 := by
  have key : ∀ d : Nat, 0 < d → IntKind.u8.wrap ((IntKind.u64.wrap ((n : Int) * 8 / (d : Int))).tmod 256) = ((8 * n / d % 256 : Nat) : Int) := fun d hd => by
    have e : (n : Int) * 8 / (d : Int) = ((8 * n / d : Nat) : Int) := by rw [Int.natCast_ediv, show (n : Int) * 8 = ((8 * n : Nat) : Int) by omega]
    have h2 : 8 * n / d ≤ 8 * n := Nat.div_le_self _ _
    rw [e]
    generalize 8 * n / d = q at *
    rw [wrap_u64' (by omega) (by omega), Int.tmod_eq_emod_of_nonneg (Int.natCast_nonneg _), wrap8]
    omega
  rw [key _ (Nat.pow_pos (by omega))]
  match i, hi with
  | 0, _ => rfl
  | 1, _ => rfl
  | 2, _ => rfl
  | 3, _ => rfl
  | 4, _ => rfl
  | 5, _ => rfl
  | 6, _ => rfl
  | 7, _ => simp [lenL]
theorem lenL_take (n i : Nat) (hi : i < 8) : (lenL n).take i ++ [(lenL n).getD i 0] = (lenL n).take (i + 1) := by
  match i, hi with
  | 0, _ => rfl
  | 1, _ => rfl
  | 2, _ => rfl
  | 3, _ => rfl
  | 4, _ => rfl
  | 5, _ => rfl
  | 6, _ => rfl
  | 7, _ => rfl
theorem lenL_tl (n i : Nat) (hi : i ≤ 8) : ((lenL n).take i).length = i := by rw [List.length_take]; simp [lenL]; omega
attribute [irreducible] pw xR oR
end Go.Proofs.Ytdcbgmbpiekbgaa
