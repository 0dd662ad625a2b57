/- Plain: an index, and what it holds. -/
import Derived.Test.YthbpflnbgcdmiaaFin3
namespace Go.Proofs.Ythbpflnbgcdmiaa
open Go Go.Proofs.Ythbpflnbgcdmiaa.Sy
set_option linter.unusedSimpArgs false
set_option linter.unusedVariables false

section
variable {α : Type} {n : Sz}
def subTm (tm : Tm (Sy.Id α)) : Tm (Sy.Id α) → Prop
  | [] => True
  | (t, v) :: r => tget tm t = v ∧ subTm tm r
theorem subTm.get {tm : Tm (Sy.Id α)} : ∀ {tm' : Tm (Sy.Id α)}, subTm tm tm' → ∀ s, tget tm' s = tget tm s ∨ tget tm' s = .undef
  | [], _, s => .inr rfl
  | (t, v) :: r, h, s => by
    simp only [tget]
    by_cases hs : t = s
    · subst hs; rw [if_pos rfl]; exact .inl h.1.symm
    · rw [if_neg hs]; exact subTm.get h.2 s
/-- Some of the variables, whatever the rows are. -/
theorem Le.sub {tm tm' : Tm (Sy.Id α)} {rows : Sy.Rows α} (h : subTm tm tm' := by simp only [subTm, tget, Nat.reduceEqDiff, if_true, if_false, and_self]; try (repeat' (first | exact True.intro | rfl | refine And.intro ?_ ?_))) : Le n (⟨tm, rows⟩ : St α) ⟨tm', rows⟩ := by
  rintro c a w ⟨ro, hr⟩
  refine ⟨ro, hr.defers, hr.size, fun s => ?_, hr.sim, hr.rm, hr.pin⟩
  have := hr.tmps s
  rcases h.get s with h1 | h1
  · simp only [h1]; exact this
  · simp only [h1]; exact .undef _
end
/-- A number with a fingerprint; a fingerprint with its numbers. -/
structure NE where
  n : Int
  s : List Int
  b : Int
structure GE where
  s : List Int
  r : Nat
  ns : List Int
  b : Int
def NE.av {ι : Type} (e : NE) : AV ι := .tuple [.int .u64 e.n, .ints .u8 e.s, .int .i64 e.b]
def GE.av {α : Type} (e : GE) : AV (Sy.Id α) := .tuple [.ints .u8 e.s, .slice true (.own e.r) 0 e.ns.length 1, .int .i64 e.b]
abbrev Srt (l : List Int) : Prop := l.Pairwise (· < ·)

/-! ### Searches -/
theorem findN_none {ι : Type} (n : Int) : ∀ (N : List NE) (i : Nat), (∀ e, e ∈ N → e.n ≠ n) → findE (.int .u64 n : AV ι) (N.map NE.av) i = some none
  | [], _, _ => rfl
  | e :: N, i, h => by
    have h1 : (n == e.n) = false := beq_eq_false_iff_ne.2 fun h2 => h e (by simp) h2.symm
    simp only [List.map_cons, NE.av, findE, keyEq, if_true, h1]
    exact findN_none n N (i + 1) fun e' he => h e' (by simp [he])
theorem findN_some {ι : Type} (e : NE) (B : List NE) : ∀ (A : List NE) (i : Nat), (∀ a, a ∈ A → a.n ≠ e.n) → findE (.int .u64 e.n : AV ι) ((A ++ e :: B).map NE.av) i = some (some (i + A.length, .ints .u8 e.s, .int .i64 e.b))
  | [], i, _ => by simp only [List.nil_append, List.map_cons, NE.av, findE, keyEq, if_true, beq_self_eq_true, List.length_nil, Nat.add_zero]
  | a :: A, i, h => by
    have h1 : (e.n == a.n) = false := beq_eq_false_iff_ne.2 fun h2 => h a (by simp) h2.symm
    have := findN_some (ι := ι) e B A (i + 1) fun e' he => h e' (by simp [he])
    simp only [List.cons_append, List.map_cons, NE.av, findE, keyEq, if_true, h1, List.length_cons] at this ⊢
    rw [this, show i + 1 + A.length = i + (A.length + 1) by omega]
theorem findG_none {α : Type} (s : List Int) : ∀ (G : List GE) (i : Nat), (∀ e, e ∈ G → e.s ≠ s) → findE (.ints .u8 s : AV (Sy.Id α)) (G.map GE.av) i = some none
  | [], _, _ => rfl
  | e :: N, i, h => by
    have h1 : (s == e.s) = false := beq_eq_false_iff_ne.2 fun h2 => h e (by simp) h2.symm
    simp only [List.map_cons, GE.av, findE, keyEq, if_true, h1]
    exact findG_none s N (i + 1) fun e' he => h e' (by simp [he])
theorem findG_some {α : Type} (e : GE) (B : List GE) : ∀ (A : List GE) (i : Nat), (∀ a, a ∈ A → a.s ≠ e.s) → findE (.ints .u8 e.s : AV (Sy.Id α)) ((A ++ e :: B).map GE.av) i = some (some (i + A.length, .slice true (.own e.r) 0 e.ns.length 1, .int .i64 e.b))
  | [], i, _ => by simp only [List.nil_append, List.map_cons, GE.av, findE, keyEq, if_true, beq_self_eq_true, List.length_nil, Nat.add_zero]
  | a :: A, i, h => by
    have h1 : (e.s == a.s) = false := beq_eq_false_iff_ne.2 fun h2 => h a (by simp) h2.symm
    have := findG_some (α := α) e B A (i + 1) fun e' he => h e' (by simp [he])
    simp only [List.cons_append, List.map_cons, GE.av, findE, keyEq, if_true, h1, List.length_cons] at this ⊢
    rw [this, show i + 1 + A.length = i + (A.length + 1) by omega]
theorem keysN {ι : Type} : ∀ N : List NE, keysOk Try.prog 29 (N.map NE.av : List (AV ι))
  | [] => trivial
  | e :: N => ⟨by rw [ko_29]; trivial, keysN N⟩
theorem keysG {α : Type} : ∀ G : List GE, (∀ g, g ∈ G → g.s.length = 16) → keysOk Try.prog 48 (G.map GE.av : List (AV (Sy.Id α)))
  | [], _ => trivial
  | e :: G, h => ⟨by rw [ko_48]; exact h e (by simp), keysG G fun g hg => h g (by simp [hg])⟩
theorem eraseMap {β γ : Type} (f : β → γ) (A : List β) (e : β) (B : List β) : ((A ++ e :: B).map f).eraseIdx A.length = (A ++ B).map f := by
  rw [List.map_append, List.map_cons, List.eraseIdx_append_of_length_le (by simp), List.length_map, Nat.sub_self, List.eraseIdx_zero, List.tail_cons, List.map_append]
theorem setMap {β γ : Type} (f : β → γ) (A : List β) (e e' : β) (B : List β) : ((A ++ e :: B).map f).set A.length (f e') = (A ++ e' :: B).map f := by
  rw [List.map_append, List.map_cons, List.set_append_right _ _ (by simp), List.length_map, Nat.sub_self, List.set_cons_zero, List.map_append, List.map_cons]
theorem nodup_le {β : Type} [DecidableEq β] : ∀ {l m : List β}, l.Nodup → (∀ x, x ∈ l → x ∈ m) → l.length ≤ m.length
  | [], _, _, _ => Nat.zero_le _
  | a :: l, m, hn, h => by
    rw [List.nodup_cons] at hn
    have ha : a ∈ m := h a (by simp)
    have := nodup_le (m := m.erase a) hn.2 fun x hx => (List.mem_erase_of_ne fun e => hn.1 (by rw [← e]; exact hx)).2 (h x (by simp [hx]))
    rw [List.length_erase_of_mem ha] at this
    have : 0 < m.length := List.length_pos_of_mem ha
    simp only [List.length_cons]; omega
theorem Srt.nodup {l : List Int} (h : Srt l) : l.Nodup := h.imp fun h => Int.ne_of_lt h
theorem Srt.lt {l : List Int} (h : Srt l) {i j : Nat} (hij : i < j) (hj : j < l.length) : l.getD i 0 < l.getD j 0 := by
  have := List.pairwise_iff_getElem.1 h i j (by omega) hj hij
  simpa [List.getD_eq_getElem?_getD, hj, show i < l.length by omega] using this
/-- Sorted lists of the same numbers are the same. -/
theorem Srt.ext : ∀ {l m : List Int}, Srt l → Srt m → (∀ x, x ∈ l ↔ x ∈ m) → l = m
  | [], [], _, _, _ => rfl
  | [], b :: m, _, _, h => absurd ((h b).2 (by simp)) (by simp)
  | a :: l, [], _, _, h => absurd ((h a).1 (by simp)) (by simp)
  | a :: l, b :: m, hl, hm, h => by
    rw [Srt, List.pairwise_cons] at hl hm
    have hab : a = b := by
      have h1 := (h a).1 (by simp); have h2 := (h b).2 (by simp)
      rw [List.mem_cons] at h1 h2
      rcases h1 with h1 | h1
      · exact h1
      · rcases h2 with h2 | h2
        · exact h2.symm
        · have := hm.1 a h1; have := hl.1 b h2; omega
    subst hab
    rw [Srt.ext hl.2 hm.2 fun x => ?_]
    have := h x
    simp only [List.mem_cons] at this
    by_cases hx : x = a
    · subst hx; exact ⟨fun h1 => absurd (hl.1 _ h1) (Int.lt_irrefl _), fun h1 => absurd (hm.1 _ h1) (Int.lt_irrefl _)⟩
    · simpa [hx] using this
/-- Where a number stands, or would stand. -/
theorem Srt.place : ∀ {l : List Int}, Srt l → ∀ v, v ∉ l → ∃ p, p ≤ l.length ∧ (∀ j, j < p → l.getD j 0 < v) ∧ ∀ j, p ≤ j → j < l.length → v < l.getD j 0
  | [], _, _, _ => ⟨0, Nat.le_refl _, fun j h => absurd h (by omega), fun j _ h => absurd h (by simp)⟩
  | a :: l, h, v, hv => by
    rw [Srt, List.pairwise_cons] at h
    rw [List.mem_cons, not_or] at hv
    by_cases hav : a < v
    · obtain ⟨p, h1, h2, h3⟩ := Srt.place h.2 v hv.2
      refine ⟨p + 1, by simp; omega, fun j hj => ?_, fun j hj hl => ?_⟩
      · match j with
        | 0 => exact hav
        | j + 1 => rw [List.getD_cons_succ]; exact h2 j (by omega)
      · match j with
        | 0 => omega
        | j + 1 => rw [List.getD_cons_succ]; exact h3 j (by omega) (by simpa using hl)
    · refine ⟨0, Nat.zero_le _, fun j h => absurd h (by omega), fun j _ hl => ?_⟩
      match j with
      | 0 => rw [List.getD_cons_zero]; omega
      | j + 1 =>
        rw [List.getD_cons_succ]
        have hj : j < l.length := by simpa using hl
        have := h.1 (l.getD j 0) (by rw [List.getD_eq_getElem?_getD, List.getElem?_eq_getElem hj]; exact List.getElem_mem hj)
        omega
theorem insL_srt {l : List Int} (h : Srt l) {v : Int} {p : Nat} (hp : p ≤ l.length) (h1 : ∀ j, j < p → l.getD j 0 < v) (h2 : ∀ j, p ≤ j → j < l.length → v < l.getD j 0) : Srt (insL l p v) := by
  unfold insL
  have hd : ∀ x, x ∈ l.drop p → v < x := fun x hx => by
    obtain ⟨i, hi, rfl⟩ := List.mem_iff_getElem.1 hx
    rw [List.length_drop] at hi
    have := h2 (p + i) (by omega) (by omega)
    rw [List.getElem_drop]
    rwa [List.getD_eq_getElem?_getD, List.getElem?_eq_getElem (by omega), Option.getD_some] at this
  have ht : ∀ x, x ∈ l.take p → x < v := fun x hx => by
    obtain ⟨i, hi, rfl⟩ := List.mem_iff_getElem.1 hx
    rw [List.length_take] at hi
    have := h1 i (by omega)
    rw [List.getElem_take]
    rwa [List.getD_eq_getElem?_getD, List.getElem?_eq_getElem (by omega), Option.getD_some] at this
  refine List.pairwise_append.2 ⟨h.sublist (List.take_sublist _ _), List.pairwise_cons.2 ⟨hd, h.sublist (List.drop_sublist _ _)⟩, fun a ha b hbb => ?_⟩
  rw [List.mem_cons] at hbb
  rcases hbb with rfl | hbb
  · exact ht a ha
  · exact Int.lt_trans (ht a ha) (hd b hbb)
theorem insL_mem {l : List Int} {v : Int} {p : Nat} (x : Int) : x ∈ insL l p v ↔ x = v ∨ x ∈ l := by
  unfold insL
  rw [List.mem_append, List.mem_cons]
  conv => rhs; rw [← List.take_append_drop p l, List.mem_append]
  constructor
  · rintro (h | h | h)
    · exact .inr (.inl h)
    · exact .inl h
    · exact .inr (.inr h)
  · rintro (h | h | h)
    · exact .inr (.inl h)
    · exact .inl h
    · exact .inr (.inr h)
theorem Srt.erase {l : List Int} (h : Srt l) (p : Nat) : Srt (l.eraseIdx p) := h.sublist (List.eraseIdx_sublist _ _)
theorem Srt.erase_mem {l : List Int} (h : Srt l) {p : Nat} (hp : p < l.length) (x : Int) : x ∈ l.eraseIdx p ↔ x ∈ l ∧ x ≠ l.getD p 0 := by
  rw [List.mem_eraseIdx_iff_getElem]
  constructor
  · rintro ⟨i, hi, hne, rfl⟩
    refine ⟨List.getElem_mem hi, fun he => ?_⟩
    have h0 : l.getD i 0 = l[i] := by rw [List.getD_eq_getElem?_getD, List.getElem?_eq_getElem hi, Option.getD_some]
    rw [← h0] at he
    rcases Nat.lt_or_gt_of_ne hne with h1 | h1
    · have := h.lt h1 hp; omega
    · have := h.lt h1 hi; omega
  · rintro ⟨hx, hne⟩
    obtain ⟨i, hi, rfl⟩ := List.mem_iff_getElem.1 hx
    refine ⟨i, hi, fun he => hne ?_, rfl⟩
    subst he
    rw [List.getD_eq_getElem?_getD, List.getElem?_eq_getElem hi, Option.getD_some]
end Go.Proofs.Ythbpflnbgcdmiaa
