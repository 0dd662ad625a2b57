/- Trees of leaves: what they are, and how they lie in memory. -/
import Derived.Test.YtdcbgmbpiekbgaaMer1
namespace Go.Proofs.Ytdcbgmbpiekbgaa
open Go Go.Proofs.Ytdcbgmbpiekbgaa.Sy
set_option linter.unusedSimpArgs false
set_option linter.unusedVariables false
set_option maxRecDepth 100000

/-- The sum of n leaves that stand from o on. -/
def rootO (l : List Int) (o n : Nat) : List Int :=
  if h : n < 2 then oneS (sub l o 16) else joinS (rootO l o ((n + 1) / 2)) (rootO l (o + (n + 1) / 2 * 16) (n - (n + 1) / 2))
termination_by n
theorem rootO_one (l : List Int) (o : Nat) : rootO l o 1 = oneS (sub l o 16) := by unfold rootO; simp
theorem rootO_two (l : List Int) (o : Nat) {n : Nat} (h : 2 ≤ n) : rootO l o n = joinS (rootO l o ((n + 1) / 2)) (rootO l (o + (n + 1) / 2 * 16) (n - (n + 1) / 2)) := by
  conv => lhs; unfold rootO
  rw [dif_neg (by omega)]
theorem rootO_len (l : List Int) (o n : Nat) : (rootO l o n).length = 16 := by
  unfold rootO
  split
  · exact oneS_len _
  · exact joinS_len _ _
theorem rootO_B (l : List Int) (o n : Nat) : AllB (rootO l o n) := by
  unfold rootO
  split
  · exact oneS_B _
  · exact joinS_B _ _

section
variable {ι κ : Type}
/-- The cells of a part. -/
def nodeC (s : List Int) (n : Int) (p q : AV ι) : List (AV ι) := flatI .u8 s ++ [.int .i64 n, p, q]
theorem nodeC_map (f : ι → κ) (s : List Int) (n : Int) (p q : AV ι) : AV.mapL f (nodeC s n p q) = nodeC s n (p.map f) (q.map f) := by
  unfold nodeC; rw [mapL_flat]; rfl
theorem nodeC_len (s : List Int) (hs : s.length = 16) (n : Int) (p q : AV ι) : (nodeC s n p q).length = 19 := by simp [nodeC, flatI_len, hs]
theorem nodeC_sum (s : List Int) (hs : s.length = 16) (n : Int) (p q : AV ι) : normL (sub (nodeC s n p q) 0 16) = .ints .u8 s := by
  unfold nodeC
  rw [sub_left (by rw [flatI_len]; exact hs), normL_flat _ (by intro h; simp [h] at hs)]
theorem nodeC_n (s : List Int) (hs : s.length = 16) (n : Int) (p q : AV ι) : (nodeC s n p q).getD 16 .undef = .int .i64 n := by
  unfold nodeC; rw [getD_skipL _ _ _ (by omega), hs]; rfl
theorem nodeC_l (s : List Int) (hs : s.length = 16) (n : Int) (p q : AV ι) : (nodeC s n p q).getD 17 .undef = p := by
  unfold nodeC; rw [getD_skipL _ _ _ (by omega), hs]; rfl
theorem nodeC_r (s : List Int) (hs : s.length = 16) (n : Int) (p q : AV ι) : (nodeC s n p q).getD 18 .undef = q := by
  unfold nodeC; rw [getD_skipL _ _ _ (by omega), hs]; rfl
theorem nodeB (s : List Int) (hs : s.length = 16) : Sy.splice (flatI .u8 (List.replicate 16 0) ++ [.int .i64 0, .nilptr, .nilptr] : List (AV ι)) 0 (flatI .u8 s) = nodeC s 0 .nilptr .nilptr := by
  simp [Sy.splice, nodeC, flatI_len, hs, List.drop_append, List.drop_eq_nil_of_le]
theorem nodeC_set16 (s : List Int) (hs : s.length = 16) (n m : Int) (p q : AV ι) : (nodeC s n p q).set 16 (.int .i64 m) = nodeC s m p q := by
  unfold nodeC; rw [List.set_append_right _ _ (by rw [flatI_len]; omega), flatI_len, hs]; rfl
theorem nodeC_set17 (s : List Int) (hs : s.length = 16) (n : Int) (p q v : AV ι) : (nodeC s n p q).set 17 v = nodeC s n v q := by
  unfold nodeC; rw [List.set_append_right _ _ (by rw [flatI_len]; omega), flatI_len, hs]; rfl
theorem nodeC_set18 (s : List Int) (hs : s.length = 16) (n : Int) (p q v : AV ι) : (nodeC s n p q).set 18 v = nodeC s n p v := by
  unfold nodeC; rw [List.set_append_right _ _ (by rw [flatI_len]; omega), flatI_len, hs]; rfl
end

theorem bRow1 {ι : Type} (s : List Int) (hs : s.length = 16) (C : List Int → Prop) : buildRowsI .u8 16 ([(0, .ints .u8 s)] : List (Nat × AV ι)) (List.replicate 16 0) C = C s := by
  simp [buildRowsI, hs, Sy.splice]
theorem bRow3 {ι : Type} (a b c : List Int) (ha : a.length = 16) (hb : b.length = 16) (hc : c.length = 16) (C : List Int → Prop) : buildRowsI .u8 16 ([(0, .ints .u8 a), (1, .ints .u8 b), (2, .ints .u8 c)] : List (Nat × AV ι)) (List.replicate 48 0) C = C (a ++ b ++ c) := by
  have h1 : List.take 32 a = a := List.take_of_length_le (by omega)
  have h2 : List.drop 48 a = [] := List.drop_eq_nil_of_le (by omega)
  have h3 : List.drop 32 b = [] := List.drop_eq_nil_of_le (by omega)
  simp [buildRowsI, ha, hb, hc, Sy.splice, List.take_append, List.drop_append, h1, h2, h3]
section
variable {α β : Type}
/-- The parts of a tree, in the order in which they come to be; b: the first one's name. -/
def growR (l : List Int) (b o n : Nat) : Sy.Rows α :=
  if h : n < 2 then [some (.mixed (nodeC (rootO l o 1) 1 .nilptr .nilptr))]
  else growR l b o ((n + 1) / 2) ++ growR l (b + (2 * ((n + 1) / 2) - 1)) (o + (n + 1) / 2 * 16) (n - (n + 1) / 2) ++
    [some (.mixed (nodeC (rootO l o n) n (.ptr (.own (b + (2 * ((n + 1) / 2) - 2))) 0) (.ptr (.own (b + (2 * ((n + 1) / 2) - 1) + (2 * (n - (n + 1) / 2) - 2))) 0)))]
termination_by n
theorem growR_one (l : List Int) (b o : Nat) : (growR l b o 1 : Sy.Rows α) = [some (.mixed (nodeC (rootO l o 1) 1 .nilptr .nilptr))] := by unfold growR; simp
theorem growR_two (l : List Int) (b o : Nat) {n : Nat} (h : 2 ≤ n) : (growR l b o n : Sy.Rows α) = growR l b o ((n + 1) / 2) ++ growR l (b + (2 * ((n + 1) / 2) - 1)) (o + (n + 1) / 2 * 16) (n - (n + 1) / 2) ++
    [some (.mixed (nodeC (rootO l o n) n (.ptr (.own (b + (2 * ((n + 1) / 2) - 2))) 0) (.ptr (.own (b + (2 * ((n + 1) / 2) - 1) + (2 * (n - (n + 1) / 2) - 2))) 0)))] := by
  conv => lhs; unfold growR
  rw [dif_neg (by omega)]
theorem growR_len (l : List Int) : ∀ (n b o : Nat), 1 ≤ n → (growR l b o n : Sy.Rows α).length = 2 * n - 1 := by
  intro n
  induction n using Nat.strongRecOn with
  | _ n ih =>
    intro b o hn
    rcases (show n = 1 ∨ 2 ≤ n by omega) with rfl | h
    · rw [growR_one]; rfl
    · rw [growR_two _ _ _ h, List.length_append, List.length_append, ih _ (by omega) _ _ (by omega), ih _ (by omega) _ _ (by omega)]
      simp only [List.length_cons, List.length_nil]
      omega
theorem growR_down (l : List Int) (m : Nat) : ∀ (n b o : Nat), 1 ≤ n → (growR l b o n : Sy.Rows (Sy.Id α)).map (Option.map (Row.map (down m))) = (growR l (m + b) o n : Sy.Rows α) := by
  intro n
  induction n using Nat.strongRecOn with
  | _ n ih =>
    intro b o hn
    rcases (show n = 1 ∨ 2 ≤ n by omega) with rfl | h
    · rw [growR_one, growR_one]
      simp only [List.map_cons, List.map_nil, Option.map_some, Row.map, nodeC_map, AV.map]
    · rw [growR_two _ _ _ h, growR_two _ _ _ h, List.map_append, List.map_append, ih _ (by omega) _ _ (by omega), ih _ (by omega) _ _ (by omega)]
      simp only [List.map_cons, List.map_nil, Option.map_some, Row.map, nodeC_map, AV.map, down, Nat.add_assoc]

/-- A tree that lies in rows that are read. -/
inductive TreeE (E : α → Option (Row α)) (l : List Int) : α → Nat → Nat → Prop where
  | leaf {x : α} {o : Nat} (h : E x = some (.mixed (nodeC (rootO l o 1) 1 .nilptr .nilptr))) : TreeE E l x o 1
  | node {x y z : α} {o n : Nat} (h2 : 2 ≤ n) (h : E x = some (.mixed (nodeC (rootO l o n) n (.ptr y 0) (.ptr z 0)))) (hy : TreeE E l y o ((n + 1) / 2)) (hz : TreeE E l z (o + (n + 1) / 2 * 16) (n - (n + 1) / 2)) : TreeE E l x o n
theorem TreeE.pos {E : α → Option (Row α)} {l : List Int} {x : α} {o n : Nat} (h : TreeE E l x o n) : 1 ≤ n := by cases h <;> omega
theorem TreeE.map {E : α → Option (Row α)} {E' : β → Option (Row β)} {l : List Int} (f : α → β) (hf : ∀ x r, E x = some r → E' (f x) = some (r.map f)) {x : α} {o n : Nat} (h : TreeE E l x o n) : TreeE E' l (f x) o n := by
  induction h with
  | leaf h => exact .leaf (by rw [hf _ _ h]; simp only [Row.map, nodeC_map, AV.map])
  | node h2 h hy hz ihy ihz => exact .node h2 (by rw [hf _ _ h]; simp only [Row.map, nodeC_map, AV.map]) ihy ihz
theorem TreeE.look {E : α → Option (Row α)} {l : List Int} {rows : Sy.Rows α} {x : α} {o n : Nat} (h : TreeE E l x o n) : TreeE (Sy.look E rows) l (.ext x) o n :=
  h.map Sy.Id.ext (fun x r hr => by simp only [Sy.look, hr, Option.map_some])
/-- What a tree's root holds. -/
theorem TreeE.top {E : α → Option (Row α)} {l : List Int} {x : α} {o n : Nat} (h : TreeE E l x o n) : ∃ p q, E x = some (.mixed (nodeC (rootO l o n) n p q)) := by
  cases h with
  | leaf h => exact ⟨_, _, h⟩
  | node h2 h _ _ => exact ⟨_, _, h⟩
theorem TreeE.kids {E : α → Option (Row α)} {l : List Int} {x : α} {o n : Nat} (h : TreeE E l x o n) (h2 : 2 ≤ n) : ∃ y z, E x = some (.mixed (nodeC (rootO l o n) n (.ptr y 0) (.ptr z 0))) ∧ TreeE E l y o ((n + 1) / 2) ∧ TreeE E l z (o + (n + 1) / 2 * 16) (n - (n + 1) / 2) := by
  cases h with
  | leaf h => omega
  | node _ h hy hz => exact ⟨_, _, h, hy, hz⟩
/-- Rows that were grown are a tree. -/
theorem tree_own {E : α → Option (Row α)} {rows : Sy.Rows α} (l : List Int) : ∀ (n b o : Nat), 1 ≤ n → (∀ (i : Nat) (r : Row (Sy.Id α)), (growR l b o n : Sy.Rows α)[i]? = some (some r) → Sy.look E rows (.own (b + i)) = some r) → TreeE (Sy.look E rows) l (.own (b + (2 * n - 2))) o n := by
  intro n
  induction n using Nat.strongRecOn with
  | _ n ih =>
    intro b o hn hl
    rcases (show n = 1 ∨ 2 ≤ n by omega) with rfl | h
    · refine .leaf ?_
      exact hl 0 _ (by rw [growR_one]; rfl)
    · have l1 := growR_len (α := α) l ((n + 1) / 2) b o (by omega)
      have l2 := growR_len (α := α) l (n - (n + 1) / 2) (b + (2 * ((n + 1) / 2) - 1)) (o + (n + 1) / 2 * 16) (by omega)
      have hA := ih ((n + 1) / 2) (by omega) b o (by omega) (fun i r hi => hl i r (by
        rw [growR_two _ _ _ h, List.append_assoc, List.getElem?_append_left (List.getElem?_eq_some_iff.1 hi).1]; exact hi))
      have hB := ih (n - (n + 1) / 2) (by omega) (b + (2 * ((n + 1) / 2) - 1)) (o + (n + 1) / 2 * 16) (by omega) (fun i r hi => by
        have hil := (List.getElem?_eq_some_iff.1 hi).1
        have := hl (2 * ((n + 1) / 2) - 1 + i) r (by
          rw [growR_two _ _ _ h, List.append_assoc, List.getElem?_append_right (by omega), l1, show 2 * ((n + 1) / 2) - 1 + i - (2 * ((n + 1) / 2) - 1) = i by omega, List.getElem?_append_left hil]
          exact hi)
        rw [← Nat.add_assoc] at this
        exact this)
      have hT := hl (2 * n - 2) _ (by
        rw [growR_two _ _ _ h, List.getElem?_append_right (by rw [List.length_append, l1, l2]; omega), List.length_append, l1, l2, show 2 * n - 2 - (2 * ((n + 1) / 2) - 1 + (2 * (n - (n + 1) / 2) - 1)) = 0 by omega]
        rfl)
      exact .node h hT hA hB
theorem tree_mid {E : α → Option (Row α)} (pre post : Sy.Rows α) (l : List Int) (n b o : Nat) (hn : 1 ≤ n) (hb : pre.length = b) : TreeE (Sy.look E (pre ++ growR l b o n ++ post)) l (.own (b + (2 * n - 2))) o n := by
  refine tree_own l n b o hn fun i r hi => ?_
  have hil := (List.getElem?_eq_some_iff.1 hi).1
  simp only [Sy.look]
  rw [List.append_assoc, List.getElem?_append_right (by omega), hb, Nat.add_sub_cancel_left, List.getElem?_append_left hil, hi]
  rfl
theorem tree_left {E : α → Option (Row α)} (post : Sy.Rows α) (l : List Int) (n o : Nat) (hn : 1 ≤ n) : TreeE (Sy.look E (growR l 0 o n ++ post)) l (.own (2 * n - 2)) o n := by
  have := tree_mid (E := E) [] post l n 0 o hn rfl
  simpa using this
theorem tree_right {E : α → Option (Row α)} (pre : Sy.Rows α) (l : List Int) (n b o : Nat) (hn : 1 ≤ n) (hb : pre.length = b) : TreeE (Sy.look E (pre ++ growR l b o n)) l (.own (b + (2 * n - 2))) o n := by
  have := tree_mid (E := E) pre [] l n b o hn hb
  simpa using this
end
end Go.Proofs.Ytdcbgmbpiekbgaa
