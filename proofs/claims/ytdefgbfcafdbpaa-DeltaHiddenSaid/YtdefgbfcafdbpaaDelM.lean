/- Differences of blocks in plain numbers. -/
import Derived.Test.YtdefgbfcafdbpaaSyB
namespace Go.Proofs.Ytdefgbfcafdbpaa
open Go Go.Proofs.Ytdefgbfcafdbpaa.Sy
set_option linter.unusedSimpArgs false
set_option linter.unusedVariables false

/-- Are two blocks unlike at a place? -/
def dif (o w : List Int) (i : Nat) : Bool := o.getD i 0 != w.getD i 0
/-- How many places on are unlike. -/
def runN (d : Nat → Bool) : Nat → Nat → Nat
  | 0, _ => 0
  | f + 1, i => if d i then runN d f (i + 1) + 1 else 0
theorem runN_eq {d : Nat → Bool} : ∀ (f i m : Nat), m ≤ f → (∀ k, k < m → d (i + k) = true) → (m = f ∨ d (i + m) = false) → runN d f i = m
  | 0, i, m, h, _, _ => by simp [runN]; omega
  | f + 1, i, 0, _, _, h => by
    rcases h with h | h
    · omega
    · simp [runN]; simpa using h
  | f + 1, i, m + 1, h, h1, h2 => by
    have h0 := h1 0 (by omega)
    simp only [Nat.add_zero] at h0
    rw [runN, if_pos h0, runN_eq f (i + 1) m (by omega) (fun k hk => by have := h1 (k + 1) (by omega); rwa [show i + 1 + k = i + (k + 1) by omega]) (by
      rcases h2 with h2 | h2
      · exact .inl (by omega)
      · exact .inr (by rwa [show i + 1 + m = i + (m + 1) by omega]))]
theorem runN_le (d : Nat → Bool) : ∀ (f i : Nat), runN d f i ≤ f
  | 0, i => by simp [runN]
  | f + 1, i => by
    rw [runN]
    split
    · have := runN_le d f (i + 1); omega
    · omega
theorem runN_in (d : Nat → Bool) : ∀ (f i k : Nat), k < runN d f i → d (i + k) = true
  | 0, i, k, h => by simp [runN] at h
  | f + 1, i, k, h => by
    rw [runN] at h
    split at h
    · rename_i hd
      cases k with
      | zero => simpa using hd
      | succ k => have := runN_in d f (i + 1) k (by omega); rwa [show i + (k + 1) = i + 1 + k by omega]
    · omega
theorem runN_end (d : Nat → Bool) : ∀ (f i : Nat), runN d f i = f ∨ d (i + runN d f i) = false
  | 0, i => by simp [runN]
  | f + 1, i => by
    rw [runN]
    split
    · rename_i hd
      rcases runN_end d f (i + 1) with h | h
      · exact .inl (by omega)
      · exact .inr (by rwa [show i + (runN d f (i + 1) + 1) = i + 1 + runN d f (i + 1) by omega])
    · rename_i hd; exact .inr (by simpa using hd)
/-- What is told from a place on (so many places are left); p: was the place ahead unlike? -/
def restT (o w : List Int) : Nat → Bool → List Int
  | 0, _ => []
  | m + 1, p => if dif o w (31 - m) && !p then ((31 - m : Nat) : Int) :: (runN (dif o w) (m + 1) (31 - m) : Nat) :: (sub w (31 - m) (runN (dif o w) (m + 1) (31 - m)) ++ restT o w m true) else restT o w m (dif o w (31 - m))
def rawL (o w : List Int) : List Int := restT o w 32 false
def fitB (o w : List Int) : Bool := decide ((rawL o w).length ≤ 20)
def makeL (o w : List Int) : List Int := if fitB o w then rawL o w else []
theorem restT_zero (o w : List Int) (p : Bool) : restT o w 0 p = [] := rfl
theorem restT_eq (o w : List Int) (i : Nat) (h : i < 32) (p : Bool) (hd : dif o w i = false ∨ p = true) : restT o w (32 - i) p = restT o w (31 - i) (dif o w i) := by
  obtain ⟨m, rfl, hm⟩ : ∃ m, i = 31 - m ∧ m < 32 := ⟨31 - i, by omega, by omega⟩
  rw [show 32 - (31 - m) = m + 1 by omega, show 31 - (31 - m) = m by omega, restT, if_neg]
  rcases hd with hd | hd <;> simp [hd]
theorem restT_new (o w : List Int) (i n : Nat) (h : i < 32) (hd : dif o w i = true) (hn : i + n ≤ 32) (h1 : ∀ k, k < n → dif o w (i + k) = true) (h2 : i + n = 32 ∨ dif o w (i + n) = false) :
    restT o w (32 - i) false = (i : Int) :: (n : Int) :: (sub w i n ++ restT o w (31 - i) true) := by
  have hr : runN (dif o w) (32 - i) i = n := runN_eq _ _ _ (by omega) h1 (by rcases h2 with h2 | h2; exact .inl (by omega); exact .inr h2)
  obtain ⟨m, rfl, hm⟩ : ∃ m, i = 31 - m ∧ m < 32 := ⟨31 - i, by omega, by omega⟩
  rw [show 32 - (31 - m) = m + 1 by omega] at hr ⊢
  rw [show 31 - (31 - m) = m by omega, restT, if_pos (by simp [hd]), hr]
/-- Within a run nothing is told. -/
theorem restT_run (o w : List Int) : ∀ (n i : Nat), i + n ≤ 32 → (∀ k, k < n → dif o w (i + k) = true) → restT o w (32 - i) true = restT o w (32 - (i + n)) true
  | 0, i, _, _ => rfl
  | n + 1, i, h, h1 => by
    have h0 := h1 0 (by omega)
    simp only [Nat.add_zero] at h0
    rw [restT_eq o w i (by omega) true (.inr rfl), h0, show 31 - i = 32 - (i + 1) by omega, restT_run o w n (i + 1) (by omega) (fun k hk => by have := h1 (k + 1) (by omega); rwa [show i + 1 + k = i + (k + 1) by omega]), show i + 1 + n = i + (n + 1) by omega]
theorem restT_len (o w : List Int) (hw : w.length = 32) : ∀ (m : Nat) (p : Bool), m ≤ 32 → (restT o w m p).length ≤ 34 * m
  | 0, p, _ => by simp [restT]
  | m + 1, p, h => by
    rw [restT]
    have h1 := restT_len o w hw m true (by omega)
    have h2 := restT_len o w hw m (dif o w (31 - m)) (by omega)
    have h3 := runN_le (dif o w) (m + 1) (31 - m)
    split
    · simp only [List.length_cons, List.length_append]
      rw [Sy.length_sub (by omega)]
      omega
    · omega

/-- A difference is gone through: is it right, and what comes of a block. -/
def runsA : Nat → List Int → Int → List Int → Bool × List Int
  | 0, _, _, b => (true, b)
  | f + 1, d, nx, b => match d with
    | [] => (true, b)
    | [_] => (false, b)
    | a :: n :: r => if n < 1 ∨ (r.length : Int) < n ∨ a < nx ∨ 32 < a + n then (false, b) else runsA f (r.drop n.toNat) (a + n + 1) (Sy.splice b a.toNat (r.take n.toNat))
def goesB (d : List Int) : Bool := decide (d.length ≤ 20) && (runsA (d.length + 1) d 0 []).1
def goesL (d b : List Int) : List Int := (runsA (d.length + 1) d 0 b).2
theorem runsA_fst : ∀ (f : Nat) (d : List Int) (nx : Int) (b b' : List Int), (runsA f d nx b).1 = (runsA f d nx b').1
  | 0, _, _, _, _ => rfl
  | f + 1, [], _, _, _ => rfl
  | f + 1, [_], _, _, _ => rfl
  | f + 1, a :: n :: r, nx, b, b' => by
    simp only [runsA]
    split
    · rfl
    · exact runsA_fst f _ _ _ _
theorem runsA_fuel : ∀ (f f' : Nat) (d : List Int) (nx : Int) (b : List Int), d.length < f → d.length < f' → runsA f d nx b = runsA f' d nx b
  | 0, _, _, _, _, h, _ => by omega
  | _, 0, _, _, _, _, h => by omega
  | f + 1, f' + 1, [], _, _, _, _ => rfl
  | f + 1, f' + 1, [_], _, _, _, _ => rfl
  | f + 1, f' + 1, a :: n :: r, nx, b, h, h' => by
    simp only [List.length_cons] at h h'
    simp only [runsA]
    split
    · rfl
    · exact runsA_fuel f f' _ _ _ (by simp; omega) (by simp; omega)
theorem getD_splice {b s : List Int} {o k : Nat} (h : o + s.length ≤ b.length) : (Sy.splice b o s).getD k 0 = if o ≤ k ∧ k < o + s.length then s.getD (k - o) 0 else b.getD k 0 := by
  simp only [List.getD_eq_getElem?_getD, Sy.splice_get' h]
  split
  · rw [if_neg (by omega)]
  · split
    · rw [if_pos (by omega)]
    · rw [if_neg (by omega)]
theorem ext_getD {l l' : List Int} (h : l.length = l'.length) (h' : ∀ k, k < l.length → l.getD k 0 = l'.getD k 0) : l = l' := by
  apply List.ext_getElem h
  intro i h1 h2
  have := h' i h1
  simpa [List.getD_eq_getElem?_getD, h1, h2] using this
theorem getD_sub {l : List Int} {o n k : Nat} (h : k < n) : (sub l o n).getD k 0 = l.getD (o + k) 0 := by
  simp [sub, List.getD_eq_getElem?_getD, List.getElem?_take_of_lt h]

/-- What is told makes the new block. -/
theorem runs_rest (o w : List Int) (ho : o.length = 32) (hw : w.length = 32) : ∀ (m : Nat) (p : Bool) (f : Nat) (nx : Int) (b : List Int), m ≤ 32 → b.length = 32 → (restT o w m p).length < f →
    (∀ k, k < 32 → b.getD k 0 = w.getD k 0 ∨ (32 - m ≤ k ∧ b.getD k 0 = o.getD k 0 ∧ (p = true → ∃ j, 32 - m ≤ j ∧ j ≤ k ∧ dif o w j = false))) →
    (p = false → nx ≤ ((32 - m : Nat) : Int)) → (p = true → ∀ j, 32 - m ≤ j → j < 32 → dif o w j = false → nx ≤ j + 1) → runsA f (restT o w m p) nx b = (true, w) := by
  intro m
  induction m with
  | zero =>
    intro p f nx b _ hb hf hC _ _
    obtain ⟨f, rfl⟩ : ∃ g, f = g + 1 := ⟨f - 1, by omega⟩
    simp only [restT, runsA, Prod.mk.injEq, true_and]
    refine ext_getD (by omega) fun k hk => ?_
    rcases hC k (by omega) with h | ⟨h, _⟩
    · exact h
    · omega
  | succ m ih =>
    intro p f nx b hm hb hf hC hn1 hn2
    rw [show 32 - (m + 1) = 31 - m by omega] at hC hn1 hn2
    rw [restT] at hf ⊢
    split
    · rename_i hd
      simp only [Bool.and_eq_true, Bool.not_eq_true'] at hd
      obtain ⟨hd, rfl⟩ := hd
      rw [if_pos (by simp [hd])] at hf
      have hle := runN_le (dif o w) (m + 1) (31 - m)
      have hin := runN_in (dif o w) (m + 1) (31 - m)
      have hend := runN_end (dif o w) (m + 1) (31 - m)
      have hpos : 0 < runN (dif o w) (m + 1) (31 - m) := by rw [runN, if_pos hd]; omega
      generalize runN (dif o w) (m + 1) (31 - m) = n at hf hle hin hend hpos ⊢
      have hsl : (sub w (31 - m) n).length = n := Sy.length_sub (by omega)
      obtain ⟨f, rfl⟩ : ∃ g, f = g + 1 := ⟨f - 1, by omega⟩
      have hnx := hn1 rfl
      simp only [List.length_cons, List.length_append, hsl] at hf
      simp only [runsA]
      rw [if_neg (by simp only [List.length_append, hsl]; omega)]
      rw [show ((n : Int)).toNat = n by omega, show (((31 - m : Nat) : Int)).toNat = 31 - m by omega]
      rw [List.drop_append_of_le_length (by omega), List.drop_of_length_le (by omega), List.nil_append, List.take_append_of_le_length (by omega), List.take_of_length_le (by omega)]
      have hsp : 31 - m + (sub w (31 - m) n).length ≤ b.length := by omega
      refine ih true f _ _ (by omega) (by rw [Sy.length_splice hsp, hb]) (by omega) ?_ (by simp) ?_
      · intro k hk
        rw [getD_splice hsp, hsl]
        split
        · rename_i hk'
          left
          rw [getD_sub (by omega), show 31 - m + (k - (31 - m)) = k by omega]
        · rename_i hk'
          rcases hC k hk with h | ⟨h1, h2, _⟩
          · exact .inl h
          · refine .inr ⟨by omega, h2, fun _ => ⟨31 - m + n, by omega, by omega, ?_⟩⟩
            rcases hend with h | h
            · omega
            · exact h
      · intro _ j hj hj' hdj
        rcases Nat.lt_or_ge j (31 - m + n) with h | h
        · have := hin (j - (31 - m)) (by omega)
          rw [show 31 - m + (j - (31 - m)) = j by omega] at this
          rw [this] at hdj; cases hdj
        · omega
    · rename_i hd
      rw [if_neg hd] at hf
      simp only [Bool.and_eq_true, Bool.not_eq_true', not_and, Bool.not_eq_false] at hd
      refine ih (dif o w (31 - m)) f nx b (by omega) hb hf ?_ ?_ ?_
      · intro k hk
        rcases hC k hk with h | ⟨h1, h2, h3⟩
        · exact .inl h
        · by_cases hki : k = 31 - m
          · subst hki
            cases hdi : dif o w (31 - m) with
            | false => left; rw [h2]; simpa [dif] using hdi
            | true =>
              obtain ⟨j, a1, a2, a3⟩ := h3 (hd hdi)
              obtain rfl : j = 31 - m := by omega
              rw [hdi] at a3; cases a3
          · refine .inr ⟨by omega, h2, fun hdi => ?_⟩
            obtain ⟨j, a1, a2, a3⟩ := h3 (hd hdi)
            by_cases hj : j = 31 - m
            · subst hj; rw [hdi] at a3; cases a3
            · exact ⟨j, by omega, a2, a3⟩
      · intro hdi
        cases p with
        | false => have := hn1 rfl; omega
        | true => have := hn2 rfl (31 - m) (by omega) (by omega) hdi; omega
      · intro hdi j hj hj' hdj
        exact hn2 (hd hdi) j (by omega) hj' hdj
theorem runs_raw (o w : List Int) (ho : o.length = 32) (hw : w.length = 32) : runsA ((rawL o w).length + 1) (rawL o w) 0 o = (true, w) :=
  runs_rest o w ho hw 32 false _ 0 o (by omega) ho (by unfold rawL; omega) (fun k hk => .inr ⟨by omega, rfl, by simp⟩) (by simp) (by simp)
theorem goes_raw (o w : List Int) (ho : o.length = 32) (hw : w.length = 32) (h : fitB o w = true) : goesB (rawL o w) = true ∧ goesL (rawL o w) o = w := by
  have := runs_raw o w ho hw
  unfold goesB goesL
  rw [runsA_fst _ _ _ [] o, this]
  exact ⟨by simpa [fitB] using h, rfl⟩

/-- How many of the first places are unlike. -/
def cntN (o w : List Int) : Nat → Nat
  | 0 => 0
  | i + 1 => cntN o w i + (if dif o w i then 1 else 0)
theorem cntN_le (o w : List Int) : ∀ i, cntN o w i ≤ i
  | 0 => by simp [cntN]
  | i + 1 => by have := cntN_le o w i; rw [cntN]; split <;> omega
theorem cntN_run (o w : List Int) : ∀ (n i : Nat), (∀ k, k < n → dif o w (i + k) = true) → cntN o w (i + n) = cntN o w i + n
  | 0, i, _ => rfl
  | n + 1, i, h => by
    rw [← Nat.add_assoc, cntN, cntN_run o w n i (fun k hk => h k (by omega)), if_pos (h n (by omega))]
    omega
theorem cntN_mono (o w : List Int) (i : Nat) : ∀ n, cntN o w i ≤ cntN o w (i + n)
  | 0 => Nat.le_refl _
  | n + 1 => by have := cntN_mono o w i n; rw [← Nat.add_assoc, cntN]; omega
theorem rest_cnt (o w : List Int) (ho : o.length = 32) (hw : w.length = 32) : ∀ (m : Nat) (p : Bool), m ≤ 32 →
    (p = false → cntN o w 32 ≤ cntN o w (32 - m) + (restT o w m p).length ∧ (restT o w m p).length + 3 * cntN o w (32 - m) ≤ 3 * cntN o w 32) ∧
    (p = true → cntN o w 32 ≤ cntN o w (32 - m) + runN (dif o w) m (32 - m) + (restT o w m p).length ∧ (restT o w m p).length + 3 * (cntN o w (32 - m) + runN (dif o w) m (32 - m)) ≤ 3 * cntN o w 32) := by
  intro m
  induction m with
  | zero => intro p _; constructor <;> intro _ <;> simp [restT, runN]
  | succ m ih =>
    intro p hm
    rw [show 32 - (m + 1) = 31 - m by omega, restT]
    have e1 : 32 - m = 31 - m + 1 := by omega
    have e2 : cntN o w (32 - m) = cntN o w (31 - m) + (if dif o w (31 - m) then 1 else 0) := by rw [e1, cntN]
    have e3 : runN (dif o w) (m + 1) (31 - m) = if dif o w (31 - m) then runN (dif o w) m (32 - m) + 1 else 0 := by rw [runN, e1]
    have i1 := ih true (by omega)
    have i2 := ih (dif o w (31 - m)) (by omega)
    have hle := runN_le (dif o w) (m + 1) (31 - m)
    cases hd : dif o w (31 - m) with
    | true =>
      rw [hd] at e2 e3 i2
      simp only [if_true] at e2 e3
      have i1 := i1.2 rfl
      cases p with
      | true =>
        refine ⟨by simp, fun _ => ?_⟩
        simp only [Bool.not_true, Bool.and_false, Bool.false_eq_true, if_false]
        omega
      | false =>
        refine ⟨fun _ => ?_, by simp⟩
        simp only [Bool.not_false, Bool.and_true, if_true, List.length_cons, List.length_append]
        rw [Sy.length_sub (by omega)]
        omega
    | false =>
      rw [hd] at e2 e3 i2
      simp only [Bool.false_eq_true, if_false] at e2 e3
      have i2 := i2.1 rfl
      simp only [Bool.false_and, Bool.false_eq_true, if_false]
      constructor <;> intro _ <;> omega
theorem raw_cnt (o w : List Int) (ho : o.length = 32) (hw : w.length = 32) : cntN o w 32 ≤ (rawL o w).length ∧ (rawL o w).length ≤ 3 * cntN o w 32 := by
  have := (rest_cnt o w ho hw 32 false (by omega)).1 rfl
  have h0 : cntN o w 0 = 0 := rfl
  rw [Nat.sub_self, h0] at this
  unfold rawL
  omega
theorem raw_same (o : List Int) : rawL o o = [] := by
  have : ∀ m p, restT o o m p = [] := by
    intro m
    induction m with
    | zero => intro p; rfl
    | succ m ih => intro p; rw [restT, if_neg (by simp [dif]), ih]
  exact this 32 false

/-! What goes through a block twice. -/
theorem runsA_len : ∀ (f : Nat) (d : List Int) (nx : Int) (b : List Int), 0 ≤ nx → b.length = 32 → (runsA f d nx b).2.length = 32
  | 0, _, _, _, _, h => h
  | f + 1, [], _, _, _, h => h
  | f + 1, [_], _, _, _, h => h
  | f + 1, a :: n :: r, nx, b, h0, h => by
    simp only [runsA]
    split
    · exact h
    · exact runsA_len f _ _ _ (by omega) (by rw [Sy.length_splice (by simp; omega), h])
theorem runsA_keep : ∀ (f : Nat) (d : List Int) (nx : Int) (b : List Int), 0 ≤ nx → b.length = 32 → ∀ k : Nat, (k : Int) < nx → (runsA f d nx b).2.getD k 0 = b.getD k 0
  | 0, _, _, _, _, _, _, _ => rfl
  | f + 1, [], _, _, _, _, _, _ => rfl
  | f + 1, [_], _, _, _, _, _, _ => rfl
  | f + 1, a :: n :: r, nx, b, h0, h, k, hk => by
    simp only [runsA]
    split
    · rfl
    · rw [runsA_keep f _ _ _ (by omega) (by rw [Sy.length_splice (by simp; omega), h]) k (by omega), getD_splice (by simp; omega), if_neg (by simp; omega)]
theorem runsA_twice : ∀ (f : Nat) (d : List Int) (nx : Int) (b b' : List Int), 0 ≤ nx → b.length = 32 → b'.length = 32 → (∀ k : Nat, nx ≤ k → k < 32 → b'.getD k 0 = (runsA f d nx b).2.getD k 0) → (runsA f d nx b).1 = true → (runsA f d nx b').2 = b'
  | 0, _, _, _, _, _, _, _, _, _ => rfl
  | f + 1, [], _, _, _, _, _, _, _, _ => rfl
  | f + 1, [_], _, _, _, _, _, _, _, _ => rfl
  | f + 1, a :: n :: r, nx, b, b', h0, h, h', he, ht => by
    simp only [runsA] at he ht ⊢
    split
    · rfl
    · rename_i hc
      rw [if_neg hc] at he ht
      have hs : Sy.splice b' a.toNat (r.take n.toNat) = b' := by
        refine ext_getD (by rw [Sy.length_splice (by simp; omega)]) fun k hk => ?_
        rw [Sy.length_splice (by simp; omega)] at hk
        rw [getD_splice (by simp; omega)]
        split
        · rename_i hk'
          simp at hk'
          have hk2 := he k (by omega) (by omega)
          rw [hk2, runsA_keep f _ _ _ (by omega) (by rw [Sy.length_splice (by simp; omega), h]) k (by omega), getD_splice (by simp; omega), if_pos (by simp; omega)]
        · rfl
      rw [hs]
      exact runsA_twice f _ _ _ _ (by omega) (by rw [Sy.length_splice (by simp; omega), h]) h' (fun k hk hk' => he k (by omega) hk') ht
theorem goes_twice (d b : List Int) (hb : b.length = 32) (h : goesB d = true) : goesL d (goesL d b) = goesL d b := by
  unfold goesB at h
  simp only [Bool.and_eq_true] at h
  rw [runsA_fst _ _ _ [] b] at h
  exact runsA_twice _ d 0 b _ (by omega) hb (runsA_len _ _ _ _ (by omega) hb) (fun k _ _ => rfl) h.2
theorem cnt_tri (a b c : List Int) : ∀ i, cntN a c i ≤ cntN a b i + cntN b c i
  | 0 => by simp [cntN]
  | i + 1 => by
    have := cnt_tri a b c i
    simp only [cntN]
    have h : dif a c i = true → dif a b i = true ∨ dif b c i = true := by
      simp only [dif, bne_iff_ne, ne_eq]
      intro h
      by_cases h1 : a.getD i 0 = b.getD i 0
      · right; rw [← h1]; exact h
      · exact .inl h1
    cases h1 : dif a c i <;> cases h2 : dif a b i <;> cases h3 : dif b c i <;> simp_all <;> omega
theorem cnt_splice (b s : List Int) (o : Nat) (h : o + s.length ≤ b.length) : ∀ i, cntN b (Sy.splice b o s) i ≤ min (i - o) s.length
  | 0 => by simp [cntN]
  | i + 1 => by
    have := cnt_splice b s o h i
    rw [cntN]
    by_cases hi : o ≤ i ∧ i < o + s.length
    · split <;> omega
    · have : dif b (Sy.splice b o s) i = false := by simp only [dif, getD_splice h, if_neg hi, bne_self_eq_false]
      rw [this]; simp only [Bool.false_eq_true, if_false]; omega
theorem cnt_self (b : List Int) : ∀ i, cntN b b i = 0
  | 0 => rfl
  | i + 1 => by rw [cntN, cnt_self b i]; simp [dif]
theorem runsA_cnt : ∀ (f : Nat) (d : List Int) (nx : Int) (b : List Int), 0 ≤ nx → b.length = 32 → cntN b (runsA f d nx b).2 32 ≤ d.length
  | 0, _, _, b, _, _ => by rw [runsA, cnt_self]; omega
  | f + 1, [], _, b, _, _ => by simp only [runsA]; rw [cnt_self]; omega
  | f + 1, [_], _, b, _, _ => by simp only [runsA]; rw [cnt_self]; omega
  | f + 1, a :: n :: r, nx, b, h0, h => by
    simp only [runsA]
    split
    · rw [cnt_self]; omega
    · have h1 := runsA_cnt f (r.drop n.toNat) (a + n + 1) (Sy.splice b a.toNat (r.take n.toNat)) (by omega) (by rw [Sy.length_splice (by simp; omega), h])
      have h2 := cnt_splice b (r.take n.toNat) a.toNat (by simp; omega) 32
      have h3 := cnt_tri b (Sy.splice b a.toNat (r.take n.toNat)) (runsA f (r.drop n.toNat) (a + n + 1) (Sy.splice b a.toNat (r.take n.toNat))).2 32
      simp only [List.length_cons, List.length_drop, List.length_take] at h1 h2 ⊢
      omega

/-! The other way round. -/
inductive Par : List Int → List Int → Prop where
  | nil : Par [] []
  | more (a : Int) (n : Nat) (s t d e : List Int) (hn : 1 ≤ n) (hs : s.length = n) (ht : t.length = n) (h : Par d e) : Par (a :: (n : Int) :: (s ++ d)) (a :: (n : Int) :: (t ++ e))
theorem dif_comm (o w : List Int) : dif o w = dif w o := by funext i; simp only [dif]; rw [Bool.eq_iff_iff]; simp only [bne_iff_ne, ne_eq]; exact ⟨fun h e => h e.symm, fun h e => h e.symm⟩
theorem par_rest (o w : List Int) (ho : o.length = 32) (hw : w.length = 32) : ∀ (m : Nat) (p : Bool), m ≤ 32 → Par (restT o w m p) (restT w o m p)
  | 0, p, _ => .nil
  | m + 1, p, hm => by
    rw [restT, restT, dif_comm w o]
    split
    · rename_i hd
      simp only [Bool.and_eq_true] at hd
      have hle := runN_le (dif o w) (m + 1) (31 - m)
      exact .more _ _ _ _ _ _ (by rw [runN, if_pos hd.1]; omega) (Sy.length_sub (by omega)) (Sy.length_sub (by omega)) (par_rest o w ho hw m true (by omega))
    · exact par_rest o w ho hw m _ (by omega)
theorem par_raw (o w : List Int) (ho : o.length = 32) (hw : w.length = 32) : Par (rawL o w) (rawL w o) := par_rest o w ho hw 32 false (by omega)
theorem Par.len {d e : List Int} (h : Par d e) : d.length = e.length := by
  induction h with
  | nil => rfl
  | more a n s t d e hn hs ht h ih => simp [hs, ht, ih]
/-! One step at a time. -/
def By (l : List Int) : Prop := ∀ i, 0 ≤ l.getD i 0 ∧ l.getD i 0 < 256
theorem sub_cons {l : List Int} {o m : Nat} (h : o < l.length) : sub l o (m + 1) = l.getD o 0 :: sub l (o + 1) m := by
  simp only [sub]
  rw [List.drop_eq_getElem_cons h, List.take_succ_cons]
  simp [List.getD_eq_getElem?_getD, h]
theorem sub_drop (l : List Int) (o m k : Nat) : (sub l o m).drop k = sub l (o + k) (m - k) := by simp only [sub, List.drop_take, List.drop_drop]
theorem sub_take {l : List Int} {o m k : Nat} (h : k ≤ m) : (sub l o m).take k = sub l o k := by simp only [sub, List.take_take]; rw [Nat.min_eq_left h]
theorem runsA_nil (f : Nat) (l : List Int) (o : Nat) (nx : Int) (b : List Int) : runsA (f + 1) (sub l o 0) nx b = (true, b) := by simp [sub, runsA]
theorem runsA_one (f : Nat) {l : List Int} {o : Nat} (h : o < l.length) (nx : Int) (b : List Int) : runsA (f + 1) (sub l o 1) nx b = (false, b) := by rw [sub_cons h]; simp [sub, runsA]
theorem runsA_step (f : Nat) {l : List Int} {o m : Nat} (h : o + m ≤ l.length) (hm : 2 ≤ m) (nx : Int) (b : List Int) {n : Nat} (hn : (n : Int) = l.getD (o + 1) 0) :
    runsA (f + 1) (sub l o m) nx b = if (n : Int) < 1 ∨ (m : Int) - 2 < n ∨ l.getD o 0 < nx ∨ 32 < l.getD o 0 + n then (false, b) else runsA f (sub l (o + (2 + n)) (m - (2 + n))) (l.getD o 0 + n + 1) (Sy.splice b (l.getD o 0).toNat (sub l (o + 2) n)) := by
  obtain ⟨k, rfl⟩ : ∃ k, m = k + 2 := ⟨m - 2, by omega⟩
  rw [sub_cons (by omega), sub_cons (by omega), ← hn]
  simp only [runsA]
  have hl : (sub l (o + 1 + 1) k).length = k := Sy.length_sub (by omega)
  rw [hl, show ((k + 2 : Nat) : Int) - 2 = k by omega]
  split
  · rfl
  · rename_i hc
    rw [sub_drop, sub_take (by omega), show ((n : Int)).toNat = n by omega, show o + 1 + 1 + n = o + (2 + n) by omega, show k + 2 - (2 + n) = k - n by omega, show o + 1 + 1 = o + 2 by omega]
theorem goesB_of {l : List Int} {o m : Nat} {b : List Int} (h : o + m ≤ l.length) : goesB (sub l o m) = (decide (m ≤ 20) && (runsA (m + 1) (sub l o m) 0 b).1) := by
  unfold goesB
  rw [Sy.length_sub h, runsA_fst _ _ _ [] b]
theorem goesL_of {l : List Int} {o m : Nat} {b : List Int} (h : o + m ≤ l.length) : goesL (sub l o m) b = (runsA (m + 1) (sub l o m) 0 b).2 := by
  unfold goesL
  rw [Sy.length_sub h]
theorem goesL_len {d b : List Int} (hb : b.length = 32) : (goesL d b).length = 32 := runsA_len _ _ _ _ (by omega) hb
theorem By.cons {a : Int} {l : List Int} (h : 0 ≤ a ∧ a < 256) (hl : By l) : By (a :: l) := by
  intro i
  cases i with
  | zero => simpa using h
  | succ i => simpa using hl i
theorem By.app {l m : List Int} (h : By l) (hm : By m) : By (l ++ m) := by
  intro i
  rw [List.getD_eq_getElem?_getD, List.getElem?_append]
  split
  · rw [← List.getD_eq_getElem?_getD]; exact h i
  · rw [← List.getD_eq_getElem?_getD]; exact hm _
theorem By.nil : By [] := by intro i; simp
theorem By.sub {l : List Int} (h : By l) (o n : Nat) : By (sub l o n) := by
  intro i
  rw [List.getD_eq_getElem?_getD, Sy.sub]
  rcases Nat.lt_or_ge i n with hi | hi
  · rw [List.getElem?_take_of_lt hi, List.getElem?_drop, ← List.getD_eq_getElem?_getD]; exact h _
  · rw [List.getElem?_eq_none (by rw [List.length_take]; omega)]; simp
theorem rest_by (o w : List Int) (hy : By w) : ∀ (m : Nat) (p : Bool), m ≤ 32 → By (restT o w m p)
  | 0, p, _ => By.nil
  | m + 1, p, h => by
    have := runN_le (dif o w) (m + 1) (31 - m)
    rw [restT]
    split
    · exact By.cons (by omega) (By.cons (by omega) (By.app (By.sub hy _ _) (rest_by o w hy m true (by omega))))
    · exact rest_by o w hy m _ (by omega)
theorem raw_by (o w : List Int) (ho : o.length = 32) (hw : w.length = 32) (hy : By w) : By (rawL o w) := rest_by o w hy 32 false (by omega)
theorem wfl_by {l : List Int} (h : WfL .u8 l) : By l := by
  intro i
  rw [List.getD_eq_getElem?_getD]
  rcases Nat.lt_or_ge i l.length with hi | hi
  · rw [List.getElem?_eq_getElem hi, Option.getD_some]
    have := h _ (List.getElem_mem hi)
    simp [Lit.wf, IntKind.min, IntKind.max, IntKind.signed, IntKind.bits] at this
    omega
  · rw [List.getElem?_eq_none hi]; simp
theorem goes_cnt {d b : List Int} (hb : b.length = 32) : cntN b (goesL d b) 32 ≤ d.length := runsA_cnt _ _ _ _ (by omega) hb
theorem par_step {d e : List Int} {i : Nat} (h : Par (d.drop i) (e.drop i)) (hi : i < d.length) : ∃ n : Nat, 1 ≤ n ∧ i + 2 + n ≤ d.length ∧ d.getD i 0 = e.getD i 0 ∧ d.getD (i + 1) 0 = n ∧ e.getD (i + 1) 0 = n ∧ Par (d.drop (i + 2 + n)) (e.drop (i + 2 + n)) := by
  have hg : ∀ (l : List Int) (k : Nat), l.getD (i + k) 0 = (l.drop i).getD k 0 := fun l k => by simp [List.getD_eq_getElem?_getD]
  have hdr : ∀ (l : List Int) (k : Nat), l.drop (i + k) = (l.drop i).drop k := fun l k => by rw [List.drop_drop]
  have hl : (d.drop i).length = d.length - i := List.length_drop
  have he2 : ∀ n, i + 2 + n = i + (2 + n) := fun n => by omega
  simp only [he2]
  generalize hD : d.drop i = D at *
  generalize hE : e.drop i = F at *
  cases h with
  | nil => simp at hl; omega
  | more a n s t d' e' hn hs ht h =>
    refine ⟨n, hn, ?_, ?_, ?_, ?_, ?_⟩
    · simp only [List.length_cons, List.length_append, hs] at hl; omega
    · have h1 := hg d 0; have h2 := hg e 0
      rw [hD] at h1; rw [hE] at h2
      simp only [Nat.add_zero] at h1 h2
      rw [h1, h2]; rfl
    · have h1 := hg d 1; rw [hD] at h1; rw [h1]; rfl
    · have h1 := hg e 1; rw [hE] at h1; rw [h1]; rfl
    · rw [hdr d, hdr e, hD, hE]
      rw [show 2 + n = n + 1 + 1 by omega]
      simp only [List.drop_succ_cons]
      rw [List.drop_append_of_le_length (by omega), List.drop_of_length_le (by omega), List.drop_append_of_le_length (by omega), List.drop_of_length_le (by omega)]
      exact h
theorem goes_nil1 : goesB [] = true := rfl
theorem goes_nil2 (b : List Int) : goesL [] b = b := rfl
theorem cntN_succ (o w : List Int) (i : Nat) : cntN o w (i + 1) = cntN o w i + (if dif o w i then 1 else 0) := rfl
theorem cnt_zero (o w : List Int) : cntN o w 0 = 0 := rfl
attribute [irreducible] restT runsA rawL makeL goesB goesL cntN
end Go.Proofs.Ytdefgbfcafdbpaa
