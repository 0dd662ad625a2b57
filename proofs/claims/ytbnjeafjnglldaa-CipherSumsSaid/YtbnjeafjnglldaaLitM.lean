/- The little cipher, and bytes put upon bytes, in plain numbers. -/
import Derived.Test.YtbnjeafjnglldaaSyB
namespace Go.Proofs.Ytbnjeafjnglldaa
open Go Go.Proofs.Ytbnjeafjnglldaa.Sy
set_option linter.unusedSimpArgs false
set_option linter.unusedVariables false

/-- The little cipher's number, so many rounds on. -/
def lx (k : List Int) (n : Int) : Nat → Int
  | 0 => IntKind.u64.wrap (IntKind.u64.wrap (IntKind.u64.wrap (IntKind.u64.wrap (k.getD 0 0) + IntKind.u64.wrap (256 * IntKind.u64.wrap (k.getD 1 0))) + IntKind.u64.wrap (65536 * IntKind.u64.wrap (k.getD 2 0))) + 7)
  | i + 1 => IntKind.u64.wrap (IntKind.u64.wrap (IntKind.u64.wrap (IntKind.u64.wrap (lx k n i * 6364136223846793005) + 1442695040888963407) + n) + IntKind.u64.wrap (k.getD i 0))
theorem lx_zero (k : List Int) (n : Int) : lx k n 0 = IntKind.u64.wrap (IntKind.u64.wrap (IntKind.u64.wrap (IntKind.u64.wrap (k.getD 0 0) + IntKind.u64.wrap (256 * IntKind.u64.wrap (k.getD 1 0))) + IntKind.u64.wrap (65536 * IntKind.u64.wrap (k.getD 2 0))) + 7) := rfl
theorem lx_succ (k : List Int) (n : Int) (i : Nat) : lx k n (i + 1) = IntKind.u64.wrap (IntKind.u64.wrap (IntKind.u64.wrap (IntKind.u64.wrap (lx k n i * 6364136223846793005) + 1442695040888963407) + n) + IntKind.u64.wrap (k.getD i 0)) := rfl
/-- The pad, so many bytes of it written. -/
def litW (k : List Int) (n : Int) : Nat → List Int
  | 0 => List.replicate 32 0
  | i + 1 => (litW k n i).set i (IntKind.u8.wrap (ishr .u64 (lx k n (i + 1)) 56))
theorem litW_zero (k : List Int) (n : Int) : litW k n 0 = List.replicate 32 0 := rfl
theorem litW_succ (k : List Int) (n : Int) (i : Nat) : litW k n (i + 1) = (litW k n i).set i (IntKind.u8.wrap (ishr .u64 (lx k n (i + 1)) 56)) := rfl
theorem litW_len (k : List Int) (n : Int) : ∀ i, (litW k n i).length = 32
  | 0 => by simp [litW]
  | i + 1 => by rw [litW_succ, List.length_set, litW_len k n i]
/-- The little cipher's pad. -/
def litP (k : List Int) (n : Int) : List Int := litW k n 32
theorem litP_len (k : List Int) (n : Int) : (litP k n).length = 32 := litW_len k n 32
theorem wrap8' (n : Int) : IntKind.u8.wrap n = n % 256 := by
  simp only [IntKind.wrap, IntKind.signed, IntKind.bits, Bool.false_and]
  simp
/-- Bytes. -/
def BV (l : List Int) : Prop := ∀ i, 0 ≤ l.getD i 0 ∧ l.getD i 0 < 256
theorem BV.set {l : List Int} (h : BV l) (i : Nat) {v : Int} (hv : 0 ≤ v ∧ v < 256) : BV (l.set i v) := by
  intro j
  rw [List.getD_eq_getElem?_getD, List.getElem?_set]
  split
  · split
    · exact hv
    · simp
  · rw [← List.getD_eq_getElem?_getD]; exact h j
theorem BV.rep (n : Nat) : BV (List.replicate n 0) := by
  intro j
  rw [List.getD_eq_getElem?_getD, List.getElem?_replicate]
  split <;> simp
theorem litW_by (k : List Int) (n : Int) : ∀ i, BV (litW k n i)
  | 0 => .rep 32
  | i + 1 => by rw [litW_succ]; exact (litW_by k n i).set _ (by rw [wrap8']; omega)
theorem litP_by (k : List Int) (n : Int) : BV (litP k n) := litW_by k n 32

theorem getD_subL {l : List Int} {o n i : Nat} (hi : i < n) : (sub l o n).getD i 0 = l.getD (o + i) 0 := by
  simp [sub, List.getD_eq_getElem?_getD, List.getElem?_take_of_lt hi]
theorem ne_subL {l l' : List Int} {o o' n i : Nat} (hi : i < n) (h : l.getD (o + i) 0 ≠ l'.getD (o' + i) 0) : sub l o n ≠ sub l' o' n := by
  intro he
  rw [← getD_subL hi, ← getD_subL hi, he] at h
  exact h rfl
theorem eq_subL {l l' : List Int} {o o' n : Nat} (h1 : o + n ≤ l.length) (h2 : o' + n ≤ l'.length) (h : ∀ i, i < n → l.getD (o + i) 0 = l'.getD (o' + i) 0) : sub l o n = sub l' o' n := by
  apply List.ext_getElem
  · rw [length_sub h1, length_sub h2]
  · intro i g1 g2
    rw [length_sub h1] at g1
    have := h i g1
    rw [← getD_subL g1, ← getD_subL g1] at this
    simpa [List.getD_eq_getElem?_getD, *] using this

/-- Bytes upon bytes, the first ones. -/
def xorA (a b : List Int) : Nat → List Int
  | 0 => []
  | i + 1 => xorA a b i ++ [ixor .u8 (a.getD i 0) (b.getD i 0)]
theorem xorA_zero (a b : List Int) : xorA a b 0 = [] := rfl
theorem xorA_succ (a b : List Int) (i : Nat) : xorA a b (i + 1) = xorA a b i ++ [ixor .u8 (a.getD i 0) (b.getD i 0)] := rfl
theorem xorA_len (a b : List Int) : ∀ i, (xorA a b i).length = i
  | 0 => rfl
  | i + 1 => by rw [xorA_succ, List.length_append, xorA_len a b i]; rfl
theorem xorA_get (a b : List Int) : ∀ n j, j < n → (xorA a b n).getD j 0 = ixor .u8 (a.getD j 0) (b.getD j 0)
  | 0, j, h => by omega
  | n + 1, j, h => by
    rw [xorA_succ, List.getD_eq_getElem?_getD, List.getElem?_append, xorA_len]
    by_cases hj : j < n
    · rw [if_pos hj, ← List.getD_eq_getElem?_getD]; exact xorA_get a b n j hj
    · rw [if_neg hj, show j - n = 0 by omega, show j = n by omega]; rfl
def xorF (a b : List Int) (n i : Nat) : List Int := xorA a b i ++ List.replicate (n - i) 0
theorem xorF_zero (a b : List Int) (n : Nat) : xorF a b n 0 = List.replicate n 0 := by simp [xorF, xorA]
theorem xorF_all (a b : List Int) (n : Nat) : xorF a b n n = xorA a b n := by simp [xorF]
theorem xorF_len (a b : List Int) {n i : Nat} (h : i ≤ n) : (xorF a b n i).length = n := by simp [xorF, xorA_len]; omega
theorem xorF_set (a b : List Int) {n i : Nat} (h : i < n) : (xorF a b n i).set i (ixor .u8 (a.getD i 0) (b.getD i 0)) = xorF a b n (i + 1) := by
  unfold xorF
  rw [List.set_append_right _ _ (by rw [xorA_len]; exact Nat.le_refl _), xorA_len, Nat.sub_self, xorA_succ, List.append_assoc]
  congr 1
  rw [show n - i = (n - (i + 1)) + 1 by omega, List.replicate_succ]
  rfl
theorem ixor8_nat {a b : Nat} (ha : a < 256) (hb : b < 256) : ixor .u8 a b = ((a ^^^ b : Nat) : Int) := by
  unfold ixor
  have h : (BitVec.ofInt IntKind.u8.bits (a : Int) ^^^ BitVec.ofInt IntKind.u8.bits (b : Int)).toNat = a ^^^ b := by
    show (BitVec.ofInt 8 (a : Int) ^^^ BitVec.ofInt 8 (b : Int)).toNat = a ^^^ b
    rw [BitVec.toNat_xor, BitVec.ofInt_natCast, BitVec.ofInt_natCast, BitVec.toNat_ofNat, BitVec.toNat_ofNat, Nat.mod_eq_of_lt (by omega), Nat.mod_eq_of_lt (by omega)]
  rw [h, wrap8']
  have := Nat.xor_lt_two_pow (n := 8) ha hb
  omega
theorem by_nat {x : Int} (h : 0 ≤ x ∧ x < 256) : ∃ n : Nat, n < 256 ∧ x = n := ⟨x.toNat, by omega, by omega⟩
theorem ixor_by {a b : Int} (ha : 0 ≤ a ∧ a < 256) (hb : 0 ≤ b ∧ b < 256) : 0 ≤ ixor .u8 a b ∧ ixor .u8 a b < 256 := by
  obtain ⟨x, hx, rfl⟩ := by_nat ha
  obtain ⟨y, hy, rfl⟩ := by_nat hb
  rw [ixor8_nat hx hy]
  have := Nat.xor_lt_two_pow (n := 8) hx hy
  omega
theorem ixor_back {a b : Int} (ha : 0 ≤ a ∧ a < 256) (hb : 0 ≤ b ∧ b < 256) : ixor .u8 (ixor .u8 a b) b = a := by
  obtain ⟨x, hx, rfl⟩ := by_nat ha
  obtain ⟨y, hy, rfl⟩ := by_nat hb
  rw [ixor8_nat hx hy, ixor8_nat (Nat.xor_lt_two_pow (n := 8) hx hy) hy, Nat.xor_assoc, Nat.xor_self, Nat.xor_zero]
theorem ixor_two {a p b q : Int} (ha : 0 ≤ a ∧ a < 256) (hp : 0 ≤ p ∧ p < 256) (hb : 0 ≤ b ∧ b < 256) (hq : 0 ≤ q ∧ q < 256) : ixor .u8 (ixor .u8 a p) (ixor .u8 a (ixor .u8 p q)) = q := by
  obtain ⟨x, hx, rfl⟩ := by_nat ha
  obtain ⟨y, hy, rfl⟩ := by_nat hp
  obtain ⟨z, hz, rfl⟩ := by_nat hq
  have h1 := Nat.xor_lt_two_pow (n := 8) hx hy
  have h2 := Nat.xor_lt_two_pow (n := 8) hy hz
  have h3 := Nat.xor_lt_two_pow (n := 8) hx h2
  rw [ixor8_nat hx hy, ixor8_nat hy hz, ixor8_nat hx h2, ixor8_nat h1 h3]
  congr 1
  rw [Nat.xor_assoc, Nat.xor_comm x (y ^^^ z), ← Nat.xor_assoc, ← Nat.xor_assoc, ← Nat.xor_assoc, Nat.xor_comm (x ^^^ y), ]
  apply Nat.eq_of_testBit_eq
  intro i
  simp only [Nat.testBit_xor]
  cases x.testBit i <;> cases y.testBit i <;> cases z.testBit i <;> rfl
theorem xorA_by {a b : List Int} (ha : BV a) (hb : BV b) (n : Nat) : BV (xorA a b n) := by
  intro j
  rcases Nat.lt_or_ge j n with h | h
  · rw [xorA_get a b n j h]; exact ixor_by (ha j) (hb j)
  · rw [List.getD_eq_getElem?_getD, List.getElem?_eq_none (by rw [xorA_len]; exact h)]; simp
theorem list_ext {a b : List Int} (h : a.length = b.length) (hh : ∀ i, i < a.length → a.getD i 0 = b.getD i 0) : a = b := by
  refine List.ext_getElem h fun i p q => ?_
  have := hh i p
  simpa [List.getD_eq_getElem?_getD, List.getElem?_eq_getElem p, List.getElem?_eq_getElem q] using this
theorem xorA_back {a b : List Int} (ha : BV a) (hb : BV b) : xorA (xorA a b a.length) b a.length = a := by
  refine list_ext (xorA_len _ _ _) fun i hi => ?_
  rw [xorA_len] at hi
  rw [xorA_get _ _ _ _ hi, xorA_get _ _ _ _ hi, ixor_back (ha i) (hb i)]
theorem BV.sub {l : List Int} (h : BV l) (o n : Nat) : BV (sub l o n) := by
  intro i
  rcases Nat.lt_or_ge i n with hi | hi
  · rw [getD_subL hi]; exact h _
  · rw [List.getD_eq_getElem?_getD, Sy.sub, List.getElem?_eq_none (by rw [List.length_take]; omega)]; simp

/-! The reference's bits. -/
def xq (x j : Nat) : Int := ((x / 2 ^ j : Nat) : Int)
def nq (x y j : Nat) : Int := (((x ^^^ y) % 2 ^ j : Nat) : Int)
def bt (j : Nat) : Int := ((2 ^ j % 256 : Nat) : Int)
theorem xq_zero (x : Nat) : xq x 0 = x := by simp [xq]
theorem nq_zero (x y : Nat) : nq x y 0 = 0 := by simp [nq, Nat.mod_one]
theorem bt_zero : bt 0 = 1 := rfl
theorem xq_succ {x : Nat} (hx : x < 256) (j : Nat) : IntKind.u8.wrap ((xq x j).tdiv 2) = xq x (j + 1) := by
  unfold xq
  have : x / 2 ^ j ≤ x := Nat.div_le_self _ _
  rw [wrap8', Nat.pow_succ, ← Nat.div_div_eq_div_mul]
  generalize x / 2 ^ j = q at *
  rw [Int.tdiv_eq_ediv_of_nonneg (by omega)]
  omega
theorem bt_succ {j : Nat} (hj : j < 8) : IntKind.u8.wrap (bt j * 2) = bt (j + 1) := by
  rw [wrap8']
  unfold bt
  rw [Nat.pow_succ]
  omega
theorem xq_mod (x j : Nat) : (xq x j).tmod 2 = ((x / 2 ^ j % 2 : Nat) : Int) := by
  unfold xq
  generalize x / 2 ^ j = q
  rw [Int.tmod_eq_emod_of_nonneg (by omega)]
  omega
theorem xor_bit (x y j : Nat) : (x ^^^ y) / 2 ^ j % 2 = (x / 2 ^ j % 2 + y / 2 ^ j % 2) % 2 := by
  have h := Nat.testBit_xor x y j
  simp only [Nat.testBit_eq_decide_div_mod_eq] at h
  have h1 : (x ^^^ y) / 2 ^ j % 2 < 2 := Nat.mod_lt _ (by decide)
  have h2 : x / 2 ^ j % 2 < 2 := Nat.mod_lt _ (by decide)
  have h3 : y / 2 ^ j % 2 < 2 := Nat.mod_lt _ (by decide)
  generalize (x ^^^ y) / 2 ^ j % 2 = p at *
  generalize x / 2 ^ j % 2 = q at *
  generalize y / 2 ^ j % 2 = r at *
  rcases (show p = 0 ∨ p = 1 by omega) with rfl | rfl <;> rcases (show q = 0 ∨ q = 1 by omega) with rfl | rfl <;> rcases (show r = 0 ∨ r = 1 by omega) with rfl | rfl <;> simp at h <;> rfl
theorem nq_step (x y j : Nat) : nq x y (j + 1) = nq x y j + ((2 ^ j * ((x / 2 ^ j % 2 + y / 2 ^ j % 2) % 2) : Nat) : Int) := by
  unfold nq
  rw [Nat.mod_pow_succ, xor_bit]
  omega
theorem nq_t {x y j : Nat} (hx : x < 256) (hy : y < 256) (hj : j < 8) (h : (xq x j).tmod 2 ≠ (xq y j).tmod 2) : IntKind.u8.wrap (nq x y j + bt j) = nq x y (j + 1) := by
  rw [xq_mod, xq_mod] at h
  rw [nq_step, wrap8']
  have h2 : x / 2 ^ j % 2 < 2 := Nat.mod_lt _ (by decide)
  have h3 : y / 2 ^ j % 2 < 2 := Nat.mod_lt _ (by decide)
  rw [show (x / 2 ^ j % 2 + y / 2 ^ j % 2) % 2 = 1 by omega, Nat.mul_one]
  have h4 : (x ^^^ y) % 2 ^ j < 2 ^ j := Nat.mod_lt _ (Nat.two_pow_pos j)
  have h5 : 2 ^ j ≤ 2 ^ 7 := Nat.pow_le_pow_right (by decide) (by omega)
  unfold nq bt
  omega
theorem nq_f {x y j : Nat} (h : (xq x j).tmod 2 = (xq y j).tmod 2) : nq x y (j + 1) = nq x y j := by
  rw [xq_mod, xq_mod] at h
  rw [nq_step]
  rw [show (x / 2 ^ j % 2 + y / 2 ^ j % 2) % 2 = 0 by omega]
  simp
theorem nq_all {x y : Nat} (hx : x < 256) (hy : y < 256) : nq x y 8 = ixor .u8 x y := by
  rw [ixor8_nat hx hy]
  unfold nq
  rw [Nat.mod_eq_of_lt (Nat.xor_lt_two_pow (n := 8) hx hy)]

/-! The little cipher's value. -/
def padV (a : List Int) (m : Int) (o k : List Int) (n : Int) : List Int := if k = a ∧ n = m then xorA (litP k n) o 32 else litP k n
theorem padV_len (a : List Int) (m : Int) (o k : List Int) (n : Int) : (padV a m o k n).length = 32 := by
  unfold padV
  split
  · exact xorA_len _ _ _
  · exact litP_len _ _
theorem padV_by {a : List Int} {m : Int} {o k : List Int} {n : Int} (ho : BV o) : BV (padV a m o k n) := by
  unfold padV
  split
  · exact xorA_by (litP_by k n) ho 32
  · exact litP_by k n
theorem padV_in {a : List Int} {m : Int} {o k : List Int} {n : Int} (h : k = a ∧ n = m) : padV a m o k n = xorA (litP k n) o 32 := if_pos h
theorem padV_out {a : List Int} {m : Int} {o k : List Int} {n : Int} (h : ¬(k = a ∧ n = m)) : padV a m o k n = litP k n := if_neg h
/-- Bytes upon bytes, where they lie: the first ones. -/
def xorT (p o : List Int) (i : Nat) : List Int := xorA p o i ++ p.drop i
theorem xorT_zero (p o : List Int) : xorT p o 0 = p := by simp [xorT, xorA]
theorem xorT_len (p o : List Int) {i : Nat} (h : i ≤ p.length) : (xorT p o i).length = p.length := by simp [xorT, xorA_len]; omega
theorem xorT_all (p o : List Int) (n : Nat) (h : p.length = n) : xorT p o n = xorA p o n := by
  unfold xorT; rw [List.drop_eq_nil_of_le (by omega), List.append_nil]
theorem xorT_get (p o : List Int) {i : Nat} (h : i < p.length) : (xorT p o i).getD i 0 = p.getD i 0 := by
  unfold xorT
  rw [List.getD_eq_getElem?_getD, List.getElem?_append_right (by rw [xorA_len]; exact Nat.le_refl _), xorA_len, Nat.sub_self, List.getElem?_drop, List.getD_eq_getElem?_getD]
  rfl
theorem xorT_set (p o : List Int) {i : Nat} (h : i < p.length) : (xorT p o i).set i (ixor .u8 (p.getD i 0) (o.getD i 0)) = xorT p o (i + 1) := by
  unfold xorT
  rw [List.set_append_right _ _ (by rw [xorA_len]; exact Nat.le_refl _), xorA_len, Nat.sub_self, xorA_succ, List.append_assoc]
  congr 1
  rw [List.drop_eq_getElem_cons h]
  rfl
/-- The little cipher's value, cell by cell. -/
abbrev litC {ι : Type} (a : List Int) (m : Int) (o : List Int) : List (AV ι) := flatI .u8 a ++ (.int .u64 m :: flatI .u8 o)
theorem litC_at {ι : Type} {a : List Int} (m : Int) (o : List Int) (ha : a.length = 32) : normL (sub (litC a m o : List (AV ι)) 0 32) = .ints .u8 a := by
  rw [sub_left (by rw [flatI_len]; exact ha), normL_flat _ (by intro h; simp [h] at ha)]
theorem litC_n {ι : Type} {a : List Int} (m : Int) (o : List Int) (ha : a.length = 32) : (litC a m o : List (AV ι)).getD 32 .undef = .int .u64 m := by
  rw [getD_skipL _ _ _ (by omega), ha]; rfl
theorem litC_off {ι : Type} {a : List Int} (m : Int) {o : List Int} (ha : a.length = 32) (ho : o.length = 32) {i : Nat} (hi : i < 32) : (litC a m o : List (AV ι)).getD (33 + i) .undef = .int .u8 (o.getD i 0) := by
  rw [getD_skipL _ _ _ (by omega), ha, show 33 + i - 32 = i + 1 by omega, List.getD_cons_succ, ← List.append_nil (flatI _ o), getD_flatL _ _ _ (by omega)]
theorem litC_len {ι : Type} {a : List Int} (m : Int) {o : List Int} (ha : a.length = 32) (ho : o.length = 32) : (litC a m o : List (AV ι)).length = 65 := by
  simp [litC, flatI_len, ha, ho]
theorem xor_zero {a : Int} (ha : 0 ≤ a ∧ a < 256) : ixor .u8 a 0 = a := by
  obtain ⟨x, hx, rfl⟩ := by_nat ha
  have := ixor8_nat hx (show 0 < 256 by decide)
  rw [Nat.xor_zero] at this
  exact this
theorem padV_zero (k : List Int) (n : Int) : padV (List.replicate 32 0) 0 (List.replicate 32 0) k n = litP k n := by
  unfold padV
  split
  · refine list_ext (by rw [xorA_len, litP_len]) fun i hi => ?_
    rw [xorA_len] at hi
    rw [xorA_get _ _ _ _ hi, List.getD_eq_getElem?_getD (l := List.replicate 32 (0 : Int)), List.getElem?_replicate, if_pos hi]
    exact xor_zero (litP_by k n i)
  · rfl
theorem litC_s1 {ι : Type} {a k : List Int} (m : Int) (o : List Int) (ha : a.length = 32) (hk : k.length = 32) : Sy.splice (litC a m o : List (AV ι)) 0 (flatI .u8 k) = litC k m o := by
  simp [Sy.splice, flatI_len, hk, ha, List.drop_append, List.drop_eq_nil_of_le]
theorem litC_s2 {ι : Type} {a : List Int} (m n : Int) (o : List Int) (ha : a.length = 32) : (litC a m o : List (AV ι)).set 32 (.int .u64 n) = litC a n o := by
  rw [List.set_append_right _ _ (by rw [flatI_len]; omega), flatI_len, ha]; rfl
theorem litC_s3 {ι : Type} {a o q : List Int} (m : Int) (ha : a.length = 32) (ho : o.length = 32) (hq : q.length = 32) : Sy.splice (litC a m o : List (AV ι)) 33 (flatI .u8 q) = litC a m q := by
  simp [Sy.splice, flatI_len, hq, ha, ho, List.take_append, List.drop_append, List.drop_eq_nil_of_le, List.take_of_length_le]
theorem ixor_three {a p : Int} (ha : 0 ≤ a ∧ a < 256) (hp : 0 ≤ p ∧ p < 256) : ixor .u8 (ixor .u8 a p) (ixor .u8 (ixor .u8 a 5) p) = 5 := by
  obtain ⟨x, hx, rfl⟩ := by_nat ha
  obtain ⟨y, hy, rfl⟩ := by_nat hp
  have h5 := ixor8_nat hx (show 5 < 256 by decide)
  have h1 := Nat.xor_lt_two_pow (n := 8) hx hy
  have h2 := Nat.xor_lt_two_pow (n := 8) hx (show 5 < 2 ^ 8 by decide)
  have h3 := Nat.xor_lt_two_pow (n := 8) h2 hy
  rw [show ixor .u8 (x : Int) 5 = ((x ^^^ 5 : Nat) : Int) from h5, ixor8_nat hx hy, ixor8_nat h2 hy, ixor8_nat h1 h3]
  have : (x ^^^ y) ^^^ ((x ^^^ 5) ^^^ y) = 5 := by
    apply Nat.eq_of_testBit_eq
    intro i
    simp only [Nat.testBit_xor]
    cases x.testBit i <;> cases y.testBit i <;> cases (5 : Nat).testBit i <;> rfl
  rw [this]; rfl
end Go.Proofs.Ytbnjeafjnglldaa
