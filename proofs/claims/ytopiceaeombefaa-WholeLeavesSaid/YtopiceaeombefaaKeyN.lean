/- Plain: what is left of a new tree, punctured once. -/
import Derived.Test.YtopiceaeombefaaKey8
namespace Go.Proofs.Ytopiceaeombefaa
open Go Go.Proofs.Ytopiceaeombefaa.Sy
set_option linter.unusedSimpArgs false
set_option linter.unusedVariables false

def itL : Nat → List Int → List Int
  | 0, s => s
  | k + 1, s => spL (itL k s)
theorem itL_add (d : Nat) (s : List Int) : ∀ f, itL f (itL d s) = itL (f + d) s
  | 0 => by rw [Nat.zero_add]; rfl
  | f + 1 => by rw [itL, itL_add d s f, show f + 1 + d = f + d + 1 by omega, itL]
theorem itL_one (f : Nat) (s : List Int) : itL f (spL s) = itL (f + 1) s := itL_add 1 s f
theorem half {h : HN} {f : Nat} (hd : h.d + (f + 1) = 17) : 16 - h.d = f := by omega
theorem two_le {f : Nat} (h : 1 ≤ f) : 2 ≤ 2 ^ f := Nat.le_trans (by decide : 2 ≤ 2 ^ 1) (Nat.pow_le_pow_right (by omega) h)
theorem goK_zero : ∀ (f : Nat) (h : HN), h.d + f = 17 → h.a = 0 → (goK 0 f h).s = itL f h.s
  | 0, _, _, _ => rfl
  | f + 1, h, hd, ha => by
    have hs : stepK 0 h = (kidL h, kidR h) := by
      unfold stepK
      exact if_neg (by rw [half hd]; have := Nat.two_pow_pos f; omega)
    rw [goK, hs, goK_zero f (kidL h) (by show h.d + 1 + f = 17; omega) ha]
    exact itL_one f h.s
theorem goK_one : ∀ (f : Nat) (h : HN), h.d + (f + 1) = 17 → h.a = 0 → (goK 1 (f + 1) h).s = spR (itL f h.s)
  | 0, h, hd, ha => by
    have hs : stepK 1 h = (kidR h, kidL h) := by
      unfold stepK
      exact if_pos (by rw [half hd, ha]; decide)
    rw [goK, hs]; rfl
  | f + 1, h, hd, ha => by
    have hs : stepK 1 h = (kidL h, kidR h) := by
      unfold stepK
      exact if_neg (by rw [half hd]; have := two_le (f := f + 1) (by omega); omega)
    rw [goK, hs, goK_one f (kidL h) (by show h.d + 1 + (f + 1) = 17; omega) ha]
    exact congrArg spR (itL_one f h.s)
theorem stepK_ge {n : Nat} {h : HN} : h.a ≤ (stepK n h).1.a ∧ h.a ≤ (stepK n h).2.a := by
  unfold stepK
  split
  · exact ⟨Nat.le_add_right _ _, Nat.le_refl _⟩
  · exact ⟨Nat.le_refl _, Nat.le_add_right _ _⟩
theorem asK_ge (n : Nat) : ∀ (f : Nat) (h : HN) (e : HN), e ∈ asK n f h → h.a ≤ e.a
  | 0, _, e, he => by cases he
  | f + 1, h, e, he => by
    rw [asK] at he
    rcases List.mem_cons.1 he with rfl | he
    · exact stepK_ge.2
    · exact Nat.le_trans stepK_ge.1 (asK_ge n f _ e he)
/-- The first leaves' node, and all others. -/
theorem asK_left (n : Nat) (s : List Int) (hn : 2 ≤ n) : ∀ (f : Nat) (h : HN), h.d + f = 17 → h.a = 0 → h.s = itL h.d s → n < 2 ^ f → ∃ (d : Nat) (r : List HN), d ≤ 16 ∧ (asK n f h).Perm (⟨d, 0, itL d s⟩ :: r) ∧ ∀ e, e ∈ r → 2 ≤ e.a
  | 0, h, _, _, _, hlt => by simp at hlt; omega
  | f + 1, h, hd, ha, hs, hlt => by
    have hf : 1 ≤ f := by
      rcases Nat.eq_zero_or_pos f with h0 | h0
      · subst h0; simp at hlt; omega
      · exact h0
    have h2 := two_le hf
    by_cases hh : 2 ^ f ≤ n
    · have hst : stepK n h = (kidR h, kidL h) := by
        unfold stepK
        exact if_pos (by rw [half hd]; omega)
      refine ⟨h.d + 1, asK n f (kidR h), by omega, ?_, fun e he => ?_⟩
      · rw [asK, hst]
        have : kidL h = ⟨h.d + 1, 0, itL (h.d + 1) s⟩ := by
          unfold kidL
          rw [ha, hs]; rfl
        show (kidL h :: asK n f (kidR h)).Perm _
        rw [this]
      · have h3 := asK_ge n f (kidR h) e he
        have h4 : (kidR h).a = h.a + 2 ^ (16 - h.d) := rfl
        rw [half hd] at h4
        omega
    · have hst : stepK n h = (kidL h, kidR h) := by
        unfold stepK
        exact if_neg (by rw [half hd]; omega)
      obtain ⟨d, r, h3, h4, h5⟩ := asK_left n s hn f (kidL h) (by show h.d + 1 + f = 17; omega) ha (by show spL h.s = itL (h.d + 1) s; rw [hs]; rfl) (by omega)
      refine ⟨d, kidR h :: r, h3, ?_, fun e he => ?_⟩
      · rw [asK, hst]
        exact (h4.cons _).trans (List.Perm.swap ..)
      · rcases List.mem_cons.1 he with rfl | he
        · have h4 : (kidR h).a = h.a + 2 ^ (16 - h.d) := rfl
          rw [half hd] at h4
          omega
        · exact h5 e he
/-- All but the first leaf. -/
theorem asK_right : ∀ (f : Nat) (h : HN), h.d + (f + 1) = 17 → h.a = 0 → (∀ e, e ∈ asK 0 (f + 1) h → 1 ≤ e.a) ∧ ∃ e, e ∈ asK 0 (f + 1) h ∧ e.a = 1
  | f, h, hd, ha => by
    have hp := Nat.two_pow_pos f
    have hst : stepK 0 h = (kidL h, kidR h) := by
      unfold stepK
      exact if_neg (by rw [half hd]; omega)
    have h4 : (kidR h).a = h.a + 2 ^ (16 - h.d) := rfl
    rw [half hd, ha, Nat.zero_add] at h4
    have has : asK 0 (f + 1) h = kidR h :: asK 0 f (kidL h) := by rw [asK, hst]
    rw [has]
    match f, hd with
    | 0, _ => exact ⟨fun e he => by rw [show asK 0 0 (kidL h) = [] from rfl, List.mem_singleton] at he; subst he; rw [h4]; exact Nat.le_refl _, kidR h, by simp, h4⟩
    | f + 1, hd =>
      obtain ⟨h5, e, h6, h7⟩ := asK_right f (kidL h) (by show h.d + 1 + (f + 1) = 17; omega) ha
      exact ⟨fun e he => by
        rcases List.mem_cons.1 he with rfl | he
        · omega
        · exact h5 e he, e, by simp [h6], h7⟩
/-- A tree in which the first two leaves are in one node, the first. -/
def Good (s : List Int) (l : List HN) : Prop := ∃ (d : Nat) (r : List HN), d ≤ 16 ∧ l = ⟨d, 0, itL d s⟩ :: r ∧ ∀ e, e ∈ r → 2 ≤ e.a
theorem good_root (s : List Int) : Good s [rootN s] := ⟨0, [], by omega, rfl, fun e he => by cases he⟩
theorem good_punc {n : Nat} {s : List Int} {l : List HN} (h1 : 1 < n) (h2 : n < 131072) (hp : l.Perm (asK n 17 (rootN s))) (hs : l.Pairwise fun a b => a.a ≤ b.a) : Good s l := by
  obtain ⟨d, r, h3, h4, h5⟩ := asK_left n s h1 17 (rootN s) rfl rfl rfl (by rw [show (2 : Nat) ^ 17 = 131072 by decide]; exact h2)
  have h6 := hp.trans h4
  cases l with
  | nil => have := h6.length_eq; simp at this
  | cons x tl =>
    have hx : x ∈ (⟨d, 0, itL d s⟩ : HN) :: r := h6.mem_iff.1 (by simp)
    have he : (⟨d, 0, itL d s⟩ : HN) ∈ x :: tl := h6.mem_iff.2 (by simp)
    have hx0 : x.a = 0 := by
      rcases List.mem_cons.1 he with h | h
      · rw [← h]
      · have := (List.pairwise_cons.1 hs).1 _ h
        exact Nat.le_zero.1 this
    have hxe : x = ⟨d, 0, itL d s⟩ := by
      rcases List.mem_cons.1 hx with h | h
      · exact h
      · have := h5 x h; omega
    subst hxe
    refine ⟨d, tl, h3, rfl, fun e he => h5 e ((List.Perm.cons_inv h6).mem_iff.1 he)⟩
end Go.Proofs.Ytopiceaeombefaa
