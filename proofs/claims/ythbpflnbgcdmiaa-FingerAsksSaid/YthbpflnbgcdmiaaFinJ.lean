/- Plain: an index in the rows; a number taken out, put in. -/
import Derived.Test.YthbpflnbgcdmiaaFinI
namespace Go.Proofs.Ythbpflnbgcdmiaa
open Go Go.Proofs.Ythbpflnbgcdmiaa.Sy
set_option linter.unusedSimpArgs false
set_option linter.unusedVariables false

def InN (N : List NE) (n : Int) (s : List Int) : Prop := ∃ e, e ∈ N ∧ e.n = n ∧ e.s = s
def InG (G : List GE) (n : Int) (s : List Int) : Prop := ∃ g, g ∈ G ∧ g.s = s ∧ n ∈ g.ns
/-- What the maps hold: the plain part. -/
structure Ok (N : List NE) (G : List GE) : Prop where
  hN : (N.map NE.n).Nodup
  hG : (G.map GE.s).Nodup
  hR : (G.map GE.r).Nodup
  hs : ∀ g, g ∈ G → g.s.length = 16 ∧ 0 < g.ns.length ∧ Srt g.ns
  hsN : ∀ e, e ∈ N → e.s.length = 16
  hm : ∀ n s, InG G n s ↔ InN N n s
theorem Ok.nil : Ok [] [] := ⟨by simp, by simp, by simp, by simp, by simp, fun n s => ⟨fun ⟨g, h, _⟩ => by simp at h, fun ⟨g, h, _⟩ => by simp at h⟩⟩
theorem nd_mid {β γ : Type} {f : β → γ} {A : List β} {e : β} {B : List β} (h : ((A ++ e :: B).map f).Nodup) : ((A ++ B).map f).Nodup ∧ (∀ a, a ∈ A → f a ≠ f e) ∧ ∀ a, a ∈ A ++ B → f a ≠ f e := by
  rw [List.map_append, List.map_cons, List.nodup_append] at h
  obtain ⟨h1, h2, h3⟩ := h
  rw [List.nodup_cons] at h2
  have hA : ∀ a, a ∈ A → f a ≠ f e := fun a ha => h3 _ (List.mem_map_of_mem ha) _ (by simp)
  refine ⟨?_, hA, fun a ha => ?_⟩
  · rw [List.map_append, List.nodup_append]
    exact ⟨h1, h2.2, fun a ha b hbb => h3 a ha b (by simp [hbb])⟩
  · rcases List.mem_append.1 ha with h4 | h4
    · exact hA a h4
    · intro he; exact h2.1 (he ▸ List.mem_map_of_mem h4)
theorem mem_mid {β : Type} {A B : List β} {e x : β} : x ∈ A ++ e :: B ↔ x = e ∨ x ∈ A ++ B := by
  simp only [List.mem_append, List.mem_cons]
  constructor
  · rintro (h | h | h)
    · exact .inr (.inl h)
    · exact .inl h
    · exact .inr (.inr h)
  · rintro (h | h | h)
    · exact .inr (.inl h)
    · exact .inl h
    · exact .inr (.inr h)
theorem Ok.uniq {N : List NE} {G : List GE} (h : Ok N G) {n : Int} {s s' : List Int} (h1 : InN N n s) (h2 : InN N n s') : s = s' := by
  obtain ⟨e, he, rfl, rfl⟩ := h1
  obtain ⟨e', he', hn, rfl⟩ := h2
  obtain ⟨A, B, rfl⟩ := List.append_of_mem he
  rcases mem_mid.1 he' with rfl | h3
  · rfl
  · exact absurd hn ((nd_mid h.hN).2.2 _ h3)
/-- A number taken out of the first map. -/
theorem inN_drop {A B : List NE} {e : NE} (h : ((A ++ e :: B).map NE.n).Nodup) (n : Int) (s : List Int) : InN (A ++ B) n s ↔ InN (A ++ e :: B) n s ∧ n ≠ e.n := by
  constructor
  · rintro ⟨e', h1, rfl, rfl⟩
    exact ⟨⟨e', mem_mid.2 (.inr h1), rfl, rfl⟩, (nd_mid h).2.2 _ h1⟩
  · rintro ⟨⟨e', h1, rfl, rfl⟩, h2⟩
    rcases mem_mid.1 h1 with rfl | h3
    · exact absurd rfl h2
    · exact ⟨e', h3, rfl, rfl⟩
theorem Ok.other {N : List NE} {C D : List GE} {g : GE} (h : Ok N (C ++ g :: D)) {n : Int} (hn : InN N n g.s) {g' : GE} (hg : g' ∈ C ++ D) : n ∉ g'.ns := fun hm => by
  have h1 : InN N n g'.s := (h.hm n g'.s).1 ⟨g', mem_mid.2 (.inr hg), rfl, hm⟩
  exact (nd_mid h.hG).2.2 _ hg (h.uniq h1 hn)
theorem inG_drop {N : List NE} {C D : List GE} {g : GE} (h : Ok N (C ++ g :: D)) {v : Int} (hn : InN N v g.s) {p : Nat} (hp : p < g.ns.length) (hv : g.ns.getD p 0 = v) (n : Int) (s : List Int) :
    ((g.s = s ∧ n ∈ g.ns.eraseIdx p) ∨ InG (C ++ D) n s) ↔ InG (C ++ g :: D) n s ∧ n ≠ v := by
  have hs := (h.hs g (by simp)).2.2
  constructor
  · rintro (⟨rfl, h1⟩ | ⟨g', h1, rfl, h2⟩)
    · rw [hs.erase_mem hp, hv] at h1
      exact ⟨⟨g, by simp, rfl, h1.1⟩, h1.2⟩
    · exact ⟨⟨g', mem_mid.2 (.inr h1), rfl, h2⟩, fun he => h.other hn h1 (he ▸ h2)⟩
  · rintro ⟨⟨g', h1, rfl, h2⟩, h3⟩
    rcases mem_mid.1 h1 with rfl | h4
    · exact .inl ⟨rfl, (hs.erase_mem hp n).2 ⟨h2, by rw [hv]; exact h3⟩⟩
    · exact .inr ⟨g', h4, rfl, h2⟩
/-- A number goes, and others of its group stay. -/
theorem Ok.drop_keep {A B : List NE} {e : NE} {C D : List GE} {g : GE} (h : Ok (A ++ e :: B) (C ++ g :: D)) (hs : g.s = e.s) {p : Nat} (hp : p < g.ns.length) (hv : g.ns.getD p 0 = e.n) (h2 : 2 ≤ g.ns.length) : Ok (A ++ B) (C ++ { g with ns := g.ns.eraseIdx p } :: D) where
  hN := (nd_mid h.hN).1
  hG := by have := h.hG; simpa using this
  hR := by have := h.hR; simpa using this
  hs := fun g' hg => by
    rcases mem_mid.1 hg with rfl | h1
    · have := h.hs g (by simp)
      exact ⟨this.1, by simp only [List.length_eraseIdx]; split <;> omega, this.2.2.erase p⟩
    · exact h.hs g' (mem_mid.2 (.inr h1))
  hsN := fun e' he => h.hsN e' (mem_mid.2 (.inr he))
  hm := fun n s => by
    have hn : InN (A ++ e :: B) e.n g.s := ⟨e, by simp, rfl, hs.symm⟩
    rw [inN_drop h.hN, ← h.hm, ← inG_drop h hn hp hv n s]
    constructor
    · rintro ⟨g', h1, rfl, h3⟩
      rcases mem_mid.1 h1 with rfl | h4
      · exact .inl ⟨rfl, h3⟩
      · exact .inr ⟨g', h4, rfl, h3⟩
    · rintro (⟨h1, h3⟩ | ⟨g', h1, h3, h4⟩)
      · exact ⟨_, mem_mid.2 (.inl rfl), h1, h3⟩
      · exact ⟨g', mem_mid.2 (.inr h1), h3, h4⟩
/-- A number goes, the only one of its group. -/
theorem Ok.drop_last {A B : List NE} {e : NE} {C D : List GE} {g : GE} (h : Ok (A ++ e :: B) (C ++ g :: D)) (hs : g.s = e.s) {p : Nat} (hp : p < g.ns.length) (hv : g.ns.getD p 0 = e.n) (h2 : g.ns.length = 1) : Ok (A ++ B) (C ++ D) where
  hN := (nd_mid h.hN).1
  hG := (nd_mid h.hG).1
  hR := (nd_mid h.hR).1
  hs := fun g' hg => h.hs g' (mem_mid.2 (.inr hg))
  hsN := fun e' he => h.hsN e' (mem_mid.2 (.inr he))
  hm := fun n s => by
    have hn : InN (A ++ e :: B) e.n g.s := ⟨e, by simp, rfl, hs.symm⟩
    rw [inN_drop h.hN, ← h.hm, ← inG_drop h hn hp hv n s]
    have he : g.ns.eraseIdx p = [] := List.eq_nil_of_length_eq_zero (by rw [List.length_eraseIdx, if_pos hp, h2])
    rw [he]
    simp
theorem inN_put {N : List NE} {e : NE} (n : Int) (s : List Int) : InN (N ++ [e]) n s ↔ InN N n s ∨ (e.n = n ∧ e.s = s) := by
  constructor
  · rintro ⟨e', h1, h2⟩
    rcases List.mem_append.1 h1 with h3 | h3
    · exact .inl ⟨e', h3, h2⟩
    · rw [List.mem_singleton] at h3; subst h3; exact .inr h2
  · rintro (⟨e', h1, h2⟩ | h)
    · exact ⟨e', by simp [h1], h2⟩
    · exact ⟨e, by simp, h⟩
/-- A number comes to a group that is there. -/
theorem Ok.put_in {N : List NE} {C D : List GE} {g : GE} (h : Ok N (C ++ g :: D)) {v : Int} (hv : ∀ e, e ∈ N → e.n ≠ v) (b : Int) {r : Nat} (hr : ∀ g', g' ∈ C ++ D → g'.r ≠ r) {p : Nat} (hp : p ≤ g.ns.length) (h1 : ∀ j, j < p → g.ns.getD j 0 < v) (h2 : ∀ j, p ≤ j → j < g.ns.length → v < g.ns.getD j 0) :
    Ok (N ++ [⟨v, g.s, b⟩]) (C ++ ⟨g.s, r, insL g.ns p v, g.b⟩ :: D) where
  hN := by
    rw [List.map_append, List.nodup_append]
    exact ⟨h.hN, by simp, fun a ha b hbb => by
      simp only [List.map_cons, List.map_nil, List.mem_singleton] at hbb
      obtain ⟨e, he, rfl⟩ := List.mem_map.1 ha
      rw [hbb]; exact hv e he⟩
  hG := by have := h.hG; simpa using this
  hR := by
    have h3 := (nd_mid h.hR).1
    rw [List.map_append, List.nodup_append] at h3
    rw [List.map_append, List.map_cons, List.nodup_append]
    refine ⟨h3.1, List.nodup_cons.2 ⟨fun hm => ?_, h3.2.1⟩, fun a ha b hbb => ?_⟩
    · obtain ⟨g', hg, he⟩ := List.mem_map.1 hm
      exact hr g' (by simp [hg]) he
    · rw [List.mem_cons] at hbb
      rcases hbb with rfl | hbb
      · obtain ⟨g', hg, he⟩ := List.mem_map.1 ha
        rw [← he]; exact hr g' (by simp [hg])
      · exact h3.2.2 a ha b hbb
  hs := fun g' hg => by
    rcases mem_mid.1 hg with rfl | h4
    · have := h.hs g (by simp)
      exact ⟨this.1, by simp only [insL_len]; omega, insL_srt this.2.2 hp h1 h2⟩
    · exact h.hs g' (mem_mid.2 (.inr h4))
  hsN := fun e he => by
    rcases List.mem_append.1 he with h4 | h4
    · exact h.hsN e h4
    · rw [List.mem_singleton] at h4; subst h4; exact (h.hs g (by simp)).1
  hm := fun n s => by
    rw [inN_put, ← h.hm]
    constructor
    · rintro ⟨g', h4, rfl, h5⟩
      rcases mem_mid.1 h4 with rfl | h6
      · rcases insL_mem n |>.1 h5 with rfl | h7
        · exact .inr ⟨rfl, rfl⟩
        · exact .inl ⟨g, by simp, rfl, h7⟩
      · exact .inl ⟨g', mem_mid.2 (.inr h6), rfl, h5⟩
    · rintro (⟨g', h4, rfl, h5⟩ | ⟨rfl, rfl⟩)
      · rcases mem_mid.1 h4 with rfl | h6
        · exact ⟨_, mem_mid.2 (.inl rfl), rfl, insL_mem n |>.2 (.inr h5)⟩
        · exact ⟨g', mem_mid.2 (.inr h6), rfl, h5⟩
      · exact ⟨_, mem_mid.2 (.inl rfl), rfl, insL_mem _ |>.2 (.inl rfl)⟩
/-- A number comes, the first of its group. -/
theorem Ok.put_new {N : List NE} {G : List GE} (h : Ok N G) {v : Int} (hv : ∀ e, e ∈ N → e.n ≠ v) (s : List Int) (hs16 : s.length = 16) (hs : ∀ g, g ∈ G → g.s ≠ s) (b b' : Int) {r : Nat} (hr : ∀ g', g' ∈ G → g'.r ≠ r) :
    Ok (N ++ [⟨v, s, b⟩]) (G ++ [⟨s, r, [v], b'⟩]) where
  hN := by
    rw [List.map_append, List.nodup_append]
    exact ⟨h.hN, by simp, fun a ha b hbb => by
      simp only [List.map_cons, List.map_nil, List.mem_singleton] at hbb
      obtain ⟨e, he, rfl⟩ := List.mem_map.1 ha
      rw [hbb]; exact hv e he⟩
  hG := by
    rw [List.map_append, List.nodup_append]
    exact ⟨h.hG, by simp, fun a ha b hbb => by
      simp only [List.map_cons, List.map_nil, List.mem_singleton] at hbb
      obtain ⟨e, he, rfl⟩ := List.mem_map.1 ha
      rw [hbb]; exact hs e he⟩
  hR := by
    rw [List.map_append, List.nodup_append]
    exact ⟨h.hR, by simp, fun a ha b hbb => by
      simp only [List.map_cons, List.map_nil, List.mem_singleton] at hbb
      obtain ⟨e, he, rfl⟩ := List.mem_map.1 ha
      rw [hbb]; exact hr e he⟩
  hs := fun g' hg => by
    rcases List.mem_append.1 hg with h4 | h4
    · exact h.hs g' h4
    · rw [List.mem_singleton] at h4; subst h4; exact ⟨hs16, by simp, by simp [Srt]⟩
  hsN := fun e he => by
    rcases List.mem_append.1 he with h4 | h4
    · exact h.hsN e h4
    · rw [List.mem_singleton] at h4; subst h4; exact hs16
  hm := fun n t => by
    rw [inN_put, ← h.hm]
    constructor
    · rintro ⟨g', h4, h5, h6⟩
      rcases List.mem_append.1 h4 with h7 | h7
      · exact .inl ⟨g', h7, h5, h6⟩
      · rw [List.mem_singleton] at h7; subst h7
        exact .inr ⟨(List.mem_singleton.1 h6).symm, h5⟩
    · rintro (⟨g', h4, h5, h6⟩ | ⟨h5, h6⟩)
      · exact ⟨g', by simp [h4], h5, h6⟩
      · exact ⟨_, List.mem_append.2 (.inr (List.mem_singleton.2 rfl)), h6, by rw [← h5]; exact List.mem_singleton.2 rfl⟩
/-- The numbers of a group are those with its fingerprint; a group is not longer than all numbers. -/
theorem Ok.len {N : List NE} {G : List GE} (h : Ok N G) {g : GE} (hg : g ∈ G) : g.ns.length ≤ N.length := by
  rw [← List.length_map (f := NE.n)]
  refine nodup_le (h.hs g hg).2.2.nodup fun x hx => ?_
  obtain ⟨e, he, h1, h2⟩ := (h.hm x g.s).1 ⟨g, hg, rfl, hx⟩
  exact h1 ▸ List.mem_map_of_mem he

/-- An index in the rows, with its maps. -/
structure Made {α : Type} (rows : Sy.Rows α) (X p q : Nat) (c : AV (Sy.Id α)) (k : List Int) (c1 c2 : Nat) (N : List NE) (G : List GE) : Prop where
  k32 : k.length = 32
  hX : rows[X]? = some (some (.mixed (idxC c k (.map_ (.own p)) (.map_ (.own q)))))
  hp : rows[p]? = some (some (mapRow c1 (N.map NE.av)))
  hq : rows[q]? = some (some (mapRow c2 (G.map GE.av)))
  hr : ∀ g, g ∈ G → rows[g.r]? = some (some (.ints .u64 g.ns))
  ok : Ok N G
theorem Made.Xp {α : Type} {rows : Sy.Rows α} {X p q : Nat} {c : AV (Sy.Id α)} {k : List Int} {c1 c2 : Nat} {N : List NE} {G : List GE} (h : Made rows X p q c k c1 c2 N G) : X ≠ p := fun e => by have h1 := h.hX; have h2 := h.hp; rw [e, h2] at h1; simp at h1
theorem Made.Xq {α : Type} {rows : Sy.Rows α} {X p q : Nat} {c : AV (Sy.Id α)} {k : List Int} {c1 c2 : Nat} {N : List NE} {G : List GE} (h : Made rows X p q c k c1 c2 N G) : X ≠ q := fun e => by have h1 := h.hX; have h2 := h.hq; rw [e, h2] at h1; simp at h1
theorem Made.rX {α : Type} {rows : Sy.Rows α} {X p q : Nat} {c : AV (Sy.Id α)} {k : List Int} {c1 c2 : Nat} {N : List NE} {G : List GE} (h : Made rows X p q c k c1 c2 N G) {g : GE} (hg : g ∈ G) : g.r ≠ X := fun e => by have h1 := h.hX; have h2 := h.hr g hg; rw [e, h1] at h2; simp at h2
theorem Made.rp {α : Type} {rows : Sy.Rows α} {X p q : Nat} {c : AV (Sy.Id α)} {k : List Int} {c1 c2 : Nat} {N : List NE} {G : List GE} (h : Made rows X p q c k c1 c2 N G) {g : GE} (hg : g ∈ G) : g.r ≠ p := fun e => by have h1 := h.hp; have h2 := h.hr g hg; rw [e, h1] at h2; simp at h2
theorem Made.rq {α : Type} {rows : Sy.Rows α} {X p q : Nat} {c : AV (Sy.Id α)} {k : List Int} {c1 c2 : Nat} {N : List NE} {G : List GE} (h : Made rows X p q c k c1 c2 N G) {g : GE} (hg : g ∈ G) : g.r ≠ q := fun e => by have h1 := h.hq; have h2 := h.hr g hg; rw [e, h1] at h2; simp at h2
/-- An index: which numbers it holds, by which fingerprints; in which rows it lies. -/
def Idx {α : Type} (rows : Sy.Rows α) (S : List Nat) (X : Nat) (c : AV (Sy.Id α)) (k : List Int) (F : Int → List Int → Prop) (cnt : Nat) : Prop :=
  (∃ p q c1 c2 N G, p ≠ q ∧ Made rows X p q c k c1 c2 N G ∧ S = X :: p :: q :: G.map GE.r ∧ (∀ n s, InN N n s ↔ F n s) ∧ N.length = cnt) ∨
  (k.length = 32 ∧ rows[X]? = some (some (.mixed (idxC c k .nilmap .nilmap))) ∧ S = [X] ∧ (∀ n s, ¬ F n s) ∧ cnt = 0)
/-- What a change of an index leaves as it is. -/
structure Fr {α : Type} (rows : Sy.Rows α) (S : List Nat) (rows' : Sy.Rows α) (S' : List Nat) : Prop where
  len : rows.length ≤ rows'.length
  out : ∀ i, i < rows.length → i ∉ S → rows'[i]? = rows[i]?
  new : ∀ i, i ∈ S' → i ∈ S ∨ rows.length ≤ i
theorem Fr.trans {α : Type} {rows rows' rows'' : Sy.Rows α} {S S' S'' : List Nat} (h : Fr rows S rows' S') (h' : Fr rows' S' rows'' S'') : Fr rows S rows'' S'' where
  len := Nat.le_trans h.len h'.len
  out := fun i hi hn => by
    rw [h'.out i (Nat.lt_of_lt_of_le hi h.len) fun h1 => ?_, h.out i hi hn]
    rcases h.new i h1 with h2 | h2
    · exact hn h2
    · omega
  new := fun i hi => by
    rcases h'.new i hi with h1 | h1
    · exact h.new i h1
    · exact .inr (Nat.le_trans h.len h1)
theorem Fr.app {α : Type} {rows : Sy.Rows α} {S : List Nat} (junk : Sy.Rows α) : Fr rows S (rows ++ junk) S := ⟨by simp, fun i hi _ => List.getElem?_append_left hi, fun i h => .inl h⟩
theorem Made.same {α : Type} {rows rows' : Sy.Rows α} {X p q : Nat} {c : AV (Sy.Id α)} {k : List Int} {c1 c2 : Nat} {N : List NE} {G : List GE} (h : Made rows X p q c k c1 c2 N G) (hs : ∀ i, i ∈ X :: p :: q :: G.map GE.r → rows'[i]? = rows[i]?) : Made rows' X p q c k c1 c2 N G :=
  ⟨h.k32, by rw [hs X (by simp), h.hX], by rw [hs p (by simp), h.hp], by rw [hs q (by simp), h.hq], fun g hg => by rw [hs g.r (by simp only [List.mem_cons]; exact .inr (.inr (.inr (List.mem_map_of_mem hg)))), h.hr g hg], h.ok⟩
theorem Idx.same {α : Type} {rows rows' : Sy.Rows α} {S : List Nat} {X : Nat} {c : AV (Sy.Id α)} {k : List Int} {F : Int → List Int → Prop} {cnt : Nat} (h : Idx rows S X c k F cnt) (hs : ∀ i, i ∈ S → rows'[i]? = rows[i]?) : Idx rows' S X c k F cnt := by
  rcases h with ⟨p, q, c1, c2, N, G, hpq, h1, rfl, h2, h3⟩ | ⟨h0, h1, rfl, h2⟩
  · exact .inl ⟨p, q, c1, c2, N, G, hpq, h1.same hs, rfl, h2, h3⟩
  · exact .inr ⟨h0, by rw [hs X (by simp), h1], rfl, h2⟩
theorem Idx.lt {α : Type} {rows : Sy.Rows α} {S : List Nat} {X : Nat} {c : AV (Sy.Id α)} {k : List Int} {F : Int → List Int → Prop} {cnt : Nat} (h : Idx rows S X c k F cnt) {i : Nat} (hi : i ∈ S) : i < rows.length := by
  have key : ∀ {j : Nat} {x : Option (Row (Sy.Id α))}, rows[j]? = some x → j < rows.length := fun h => (List.getElem?_eq_some_iff.1 h).1
  rcases h with ⟨p, q, c1, c2, N, G, hpq, h1, rfl, h2, h3⟩ | ⟨h0, h1, rfl, h2⟩
  · simp only [List.mem_cons, List.mem_map] at hi
    rcases hi with rfl | rfl | rfl | ⟨g, hg, rfl⟩
    · exact key h1.hX
    · exact key h1.hp
    · exact key h1.hq
    · exact key (h1.hr g hg)
  · simp only [List.mem_singleton] at hi; subst hi; exact key h1
theorem Idx.X_mem {α : Type} {rows : Sy.Rows α} {S : List Nat} {X : Nat} {c : AV (Sy.Id α)} {k : List Int} {F : Int → List Int → Prop} {cnt : Nat} (h : Idx rows S X c k F cnt) : X ∈ S := by
  rcases h with ⟨p, q, c1, c2, N, G, hpq, h1, rfl, h2, h3⟩ | ⟨h0, h1, rfl, h2⟩ <;> simp
/-- Rows come behind. -/
theorem Idx.app {α : Type} {rows : Sy.Rows α} {S : List Nat} {X : Nat} {c : AV (Sy.Id α)} {k : List Int} {F : Int → List Int → Prop} {cnt : Nat} (h : Idx rows S X c k F cnt) (junk : Sy.Rows α) : Idx (rows ++ junk) S X c k F cnt := h.same fun i hi => List.getElem?_append_left (h.lt hi)
theorem Idx.iff {α : Type} {rows : Sy.Rows α} {S : List Nat} {X : Nat} {c : AV (Sy.Id α)} {k : List Int} {F F' : Int → List Int → Prop} {cnt : Nat} (h : Idx rows S X c k F cnt) (hF : ∀ n s, F n s ↔ F' n s) : Idx rows S X c k F' cnt := by
  rcases h with ⟨p, q, c1, c2, N, G, hpq, h1, rfl, h2, h3⟩ | ⟨h0, h1, rfl, h2, h3⟩
  · exact .inl ⟨p, q, c1, c2, N, G, hpq, h1, rfl, fun n s => (h2 n s).trans (hF n s), h3⟩
  · exact .inr ⟨h0, h1, rfl, fun n s h => h2 n s ((hF n s).2 h), h3⟩
/-- How many numbers there are. -/
theorem Idx.count {α : Type} {rows : Sy.Rows α} {S : List Nat} {X : Nat} {c : AV (Sy.Id α)} {k : List Int} {F : Int → List Int → Prop} {cnt : Nat} (h : Idx rows S X c k F cnt) {L : List Int} (hn : L.Nodup) (hL : ∀ n, n ∈ L ↔ ∃ s, F n s) : cnt = L.length := by
  rcases h with ⟨p, q, c1, c2, N, G, hpq, h1, rfl, h2, rfl⟩ | ⟨h0, h1, rfl, h2, rfl⟩
  · have hm : ∀ n, n ∈ N.map NE.n ↔ n ∈ L := fun n => by
      rw [hL, List.mem_map]
      exact ⟨fun ⟨e, he, h⟩ => ⟨e.s, (h2 n e.s).1 ⟨e, he, h, rfl⟩⟩, fun ⟨s, hs⟩ => by obtain ⟨e, he, h, _⟩ := (h2 n s).2 hs; exact ⟨e, he, h⟩⟩
    have a := nodup_le h1.ok.hN fun x hx => (hm x).1 hx
    have b := nodup_le hn fun x hx => (hm x).2 hx
    rw [List.length_map] at a b
    omega
  · have : L = [] := List.eq_nil_iff_forall_not_mem.2 fun n hn => by obtain ⟨s, hs⟩ := (hL n).1 hn; exact h2 n s hs
    simp [this]
/-- A number has one fingerprint. -/
theorem Idx.uniq {α : Type} {rows : Sy.Rows α} {S : List Nat} {X : Nat} {c : AV (Sy.Id α)} {k : List Int} {F : Int → List Int → Prop} {cnt : Nat} (h : Idx rows S X c k F cnt) {n : Int} {s s' : List Int} (h1 : F n s) (h2 : F n s') : s = s' := by
  rcases h with ⟨p, q, c1, c2, N, G, hpq, h3, rfl, h4, rfl⟩ | ⟨h0, h3, rfl, h4, rfl⟩
  · exact h3.ok.uniq ((h4 _ _).2 h1) ((h4 _ _).2 h2)
  · exact absurd h1 (h4 _ _)
end Go.Proofs.Ythbpflnbgcdmiaa
