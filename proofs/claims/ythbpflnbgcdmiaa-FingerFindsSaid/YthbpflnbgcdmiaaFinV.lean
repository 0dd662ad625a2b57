/- Plain: a map of blocks beside an index; branches that come together in a state told by a property. -/
import Derived.Test.YthbpflnbgcdmiaaFinT
namespace Go.Proofs.Ythbpflnbgcdmiaa
open Go Go.Proofs.Ythbpflnbgcdmiaa.Sy
set_option linter.unusedSimpArgs false
set_option linter.unusedVariables false

theorem AWp.grpI {α : Type} {P : Program} {E : α → Option (Row α)} {n : Sz} {st : St α} {Q : Exit → St α → Prop} {x y : Code} (I : St α → Prop) (h : ∀ X : St α → Prop, (∀ st' st, Le n st' st → I st → X st') → AWp P E n x st (thenQ X Q)) (hy : ∀ st, I st → AWp P E n y st Q) : AWp P E n (.seq x y) st Q :=
  AWp.grp fun X hX => h X fun st' st hl hI => hX st' (AWp.less hl (hy st hI))
theorem AWp.blkI {α : Type} {P : Program} {E : α → Option (Row α)} {n : Sz} {st : St α} {Q : Exit → St α → Prop} {B : Nat} {body y : Code} (I : St α → Prop) (h : ∀ X : St α → Prop, (∀ st' st, Le n st' st → I st → X st') → AWp P E n body st (bq B X Q)) (hy : ∀ st, I st → AWp P E n y st Q) : AWp P E n (.seq (.block B body) y) st Q :=
  AWp.blk fun X hX => h X fun st' st hl hI => hX st' (AWp.less hl (hy st hI))
/-- The index holds what the map holds. -/
structure Nw {α : Type} (rows : Sy.Rows α) (S : List Nat) (k : List Int) (N : List NE) (c : Nat) : Prop where
  hk : rows[0]? = some (some (.ints .u8 k)) ∧ 0 ∉ S
  hm : rows[2]? = some (some (mapRow c (N.map NE.av))) ∧ 2 ∉ S
  I : Idx rows S 1 litI k (fun n t => ∃ e, e ∈ N ∧ e.n = n ∧ litS k e.s = t) N.length
  nd : (N.map NE.n).Nodup
  W : ∀ e, e ∈ N → e.s.length = 32
  st : ∀ e, e ∈ N → e.b < (c : Int)
  nb : (N.map NE.b).Nodup
/-- A change of both. -/
theorem Nw.step {α : Type} {rows rows1 : Sy.Rows α} {S S1 : List Nat} {k : List Int} {N N1 : List NE} {c c1 cnt : Nat} {F : Int → List Int → Prop} (h : Nw rows S k N c) (hF : Fr rows S rows1 S1) (hI : Idx rows1 S1 1 litI k F cnt) (hFF : ∀ n t, F n t ↔ ∃ e, e ∈ N1 ∧ e.n = n ∧ litS k e.s = t) (nd : (N1.map NE.n).Nodup) (W : ∀ e, e ∈ N1 → e.s.length = 32) (st : ∀ e, e ∈ N1 → e.b < (c1 : Int)) (nb : (N1.map NE.b).Nodup) : Nw (rows1.set 2 (some (mapRow c1 (N1.map NE.av)))) S1 k N1 c1 := by
  have hk := hF.keep h.hk.1 h.hk.2
  have hm := hF.keep h.hm.1 h.hm.2
  have h2 := (List.getElem?_eq_some_iff.1 hm.1).1
  have hc : cnt = N1.length := by
    rw [hI.count (L := N1.map (·.n)) nd fun n => ?_, List.length_map]
    rw [List.mem_map]
    exact ⟨fun ⟨e, he, h⟩ => ⟨_, (hFF n _).2 ⟨e, he, h, rfl⟩⟩, fun ⟨s, hs⟩ => by obtain ⟨e, he, h, _⟩ := (hFF n s).1 hs; exact ⟨e, he, h⟩⟩
  subst hc
  exact ⟨⟨by rw [List.getElem?_set_ne (by omega)]; exact hk.1, hk.2⟩, ⟨List.getElem?_set_self h2, hm.2⟩, (hI.same fun i hi => List.getElem?_set_ne fun e => hm.2 (by rw [e]; exact hi)).iff hFF, nd, W, st, nb⟩
theorem map_nodup_filter {β γ : Type} {f : β → γ} {l : List β} (h : (l.map f).Nodup) (p : β → Bool) : ((l.filter p).map f).Nodup := List.Pairwise.sublist (List.Sublist.map _ List.filter_sublist) h
theorem Nw.drop {α : Type} {rows rows1 : Sy.Rows α} {S S1 : List Nat} {k : List Int} {N : List NE} {c cnt : Nat} {num : Int} (h : Nw rows S k N c) (hF : Fr rows S rows1 S1) (hI : Idx rows1 S1 1 litI k (fun n t => (∃ e, e ∈ N ∧ e.n = n ∧ litS k e.s = t) ∧ n ≠ num) cnt) : Nw (rows1.set 2 (some (mapRow c ((N.filter fun e => e.n != num).map NE.av)))) S1 k (N.filter fun e => e.n != num) c := by
  refine h.step (N1 := N.filter fun e => e.n != num) hF hI (fun n t => ⟨fun ⟨⟨e, he, h1, h2⟩, h3⟩ => ⟨e, List.mem_filter.2 ⟨he, by simp [h1, h3]⟩, h1, h2⟩, fun ⟨e, he, h1, h2⟩ => ?_⟩) (map_nodup_filter h.nd _) (fun e he => h.W e (List.mem_filter.1 he).1) (fun e he => h.st e (List.mem_filter.1 he).1) (map_nodup_filter h.nb _)
  have h3 := List.mem_filter.1 he
  exact ⟨⟨e, h3.1, h1, h2⟩, by have := h3.2; rw [h1] at this; simpa using this⟩
theorem Nw.new {α : Type} {rows rows1 : Sy.Rows α} {S S1 : List Nat} {k b : List Int} {N : List NE} {c cnt : Nat} {num : Int} (h : Nw rows S k N c) (hF : Fr rows S rows1 S1) (hI : Idx rows1 S1 1 litI k (fun n t => ((∃ e, e ∈ N ∧ e.n = n ∧ litS k e.s = t) ∧ n ≠ num) ∨ (n = num ∧ t = litS k b)) cnt) (hb : b.length = 32) (hn : ∀ e, e ∈ N → e.n ≠ num) : Nw (rows1.set 2 (some (mapRow (c + 1) ((N ++ [NE.mk num b c]).map NE.av)))) S1 k (N ++ [NE.mk num b c]) (c + 1) := by
  refine h.step hF hI (fun n t => ?_) ?_ (fun e he => ?_) (fun e he => ?_) ?_
  · constructor
    · rintro (⟨⟨e, he, h1, h2⟩, _⟩ | ⟨rfl, rfl⟩)
      · exact ⟨e, by simp [he], h1, h2⟩
      · exact ⟨⟨n, b, c⟩, by simp, rfl, rfl⟩
    · rintro ⟨e, he, rfl, rfl⟩
      rcases List.mem_append.1 he with h3 | h3
      · exact .inl ⟨⟨e, h3, rfl, rfl⟩, hn e h3⟩
      · rw [List.mem_singleton] at h3; subst h3; exact .inr ⟨rfl, rfl⟩
  · rw [List.map_append, List.nodup_append]
    exact ⟨h.nd, by simp, fun a ha y hy => by
      simp only [List.map_cons, List.map_nil, List.mem_singleton] at hy
      obtain ⟨e, he, rfl⟩ := List.mem_map.1 ha
      rw [hy]; exact hn e he⟩
  · rcases List.mem_append.1 he with h3 | h3
    · exact h.W e h3
    · rw [List.mem_singleton] at h3; subst h3; exact hb
  · rcases List.mem_append.1 he with h3 | h3
    · have := h.st e h3; omega
    · rw [List.mem_singleton] at h3; subst h3; show (c : Int) < ((c + 1 : Nat) : Int); omega
  · rw [List.map_append, List.nodup_append]
    exact ⟨h.nb, by simp, fun a ha y hy => by
      simp only [List.map_cons, List.map_nil, List.mem_singleton] at hy
      obtain ⟨e, he, rfl⟩ := List.mem_map.1 ha
      have := h.st e he
      rw [hy]; show e.b ≠ (c : Int); omega⟩
theorem Nw.over {α : Type} {rows rows1 : Sy.Rows α} {S S1 : List Nat} {k b : List Int} {A B : List NE} {e0 : NE} {c cnt : Nat} {num : Int} (h : Nw rows S k (A ++ e0 :: B) c) (hF : Fr rows S rows1 S1) (hI : Idx rows1 S1 1 litI k (fun n t => ((∃ e, e ∈ A ++ e0 :: B ∧ e.n = n ∧ litS k e.s = t) ∧ n ≠ num) ∨ (n = num ∧ t = litS k b)) cnt) (hb : b.length = 32) (hn : e0.n = num) : Nw (rows1.set 2 (some (mapRow c ((A ++ NE.mk num b e0.b :: B).map NE.av)))) S1 k (A ++ NE.mk num b e0.b :: B) c := by
  subst hn
  refine h.step hF hI (fun n t => ?_) (by have := h.nd; simpa using this) (fun e he => ?_) (fun e he => ?_) (by have := h.nb; simpa using this)
  · constructor
    · rintro (⟨⟨e, he, h1, h2⟩, h3⟩ | ⟨rfl, rfl⟩)
      · rcases mem_mid.1 he with rfl | h4
        · exact absurd h1.symm h3
        · exact ⟨e, mem_mid.2 (.inr h4), h1, h2⟩
      · exact ⟨_, mem_mid.2 (.inl rfl), rfl, rfl⟩
    · rintro ⟨e, he, rfl, rfl⟩
      rcases mem_mid.1 he with rfl | h4
      · exact .inr ⟨rfl, rfl⟩
      · exact .inl ⟨⟨e, mem_mid.2 (.inr h4), rfl, rfl⟩, (nd_mid h.nd).2.2 _ h4⟩
  · rcases mem_mid.1 he with rfl | h4
    · exact hb
    · exact h.W e (mem_mid.2 (.inr h4))
  · rcases mem_mid.1 he with rfl | h4
    · exact h.st e0 (mem_mid.2 (.inl rfl))
    · exact h.st e (mem_mid.2 (.inr h4))
/-- A number is in the list, or it is not. -/
theorem ne_cases (N : List NE) (num : Int) : (∃ A e B, N = A ++ e :: B ∧ e.n = num ∧ ∀ a, a ∈ A → a.n ≠ e.n) ∨ ∀ e, e ∈ N → e.n ≠ num := by
  induction N with
  | nil => exact .inr fun e he => by cases he
  | cons x N ih =>
    by_cases hx : x.n = num
    · exact .inl ⟨[], x, N, rfl, hx, fun a ha => by cases ha⟩
    · rcases ih with ⟨A, e, B, rfl, he, hA⟩ | h
      · refine .inl ⟨x :: A, e, B, rfl, he, fun a ha => ?_⟩
        rcases List.mem_cons.1 ha with rfl | h
        · rw [he]; exact hx
        · exact hA a h
      · refine .inr fun e he => ?_
        rcases List.mem_cons.1 he with rfl | h1
        · exact hx
        · exact h e h1
theorem filter_mid {A B : List NE} {e : NE} (h : ((A ++ e :: B).map NE.n).Nodup) : (A ++ e :: B).filter (fun x => x.n != e.n) = A ++ B := by
  have h1 := (nd_mid h).2.2
  rw [List.filter_append, List.filter_cons_of_neg (by simp), List.filter_eq_self.2 fun a ha => by have := h1 a (by simp [ha]); simpa using this, List.filter_eq_self.2 fun a ha => by have := h1 a (by simp [ha]); simpa using this]
theorem filter_no {N : List NE} {num : Int} (h : ∀ e, e ∈ N → e.n ≠ num) : N.filter (fun x => x.n != num) = N := List.filter_eq_self.2 fun a ha => by have := h a ha; simpa using this
/-- Rows that stay through all that is done later. -/
def Pre {α : Type} (r0 r : Sy.Rows α) : Prop := r0.length ≤ r.length ∧ ∀ i, i < r0.length → r[i]? = r0[i]?
theorem Pre.refl {α : Type} (r : Sy.Rows α) : Pre r r := ⟨Nat.le_refl _, fun _ _ => rfl⟩
theorem Pre.app {α : Type} {r0 r : Sy.Rows α} (h : Pre r0 r) (junk : Sy.Rows α) : Pre r0 (r ++ junk) :=
  ⟨by rw [List.length_append]; have := h.1; omega, fun i hi => by rw [List.getElem?_append_left (by have := h.1; omega)]; exact h.2 i hi⟩
theorem Pre.set {α : Type} {r0 r : Sy.Rows α} (h : Pre r0 r) {q : Nat} (hq : r0.length ≤ q) (v : Option (Row (Sy.Id α))) : Pre r0 (r.set q v) :=
  ⟨by rw [List.length_set]; exact h.1, fun i hi => by rw [List.getElem?_set_ne (by omega)]; exact h.2 i hi⟩
theorem Pre.trans {α : Type} {r0 r r' : Sy.Rows α} (h : Pre r0 r) (h' : Pre r r') : Pre r0 r' :=
  ⟨Nat.le_trans h.1 h'.1, fun i hi => by rw [h'.2 i (Nat.lt_of_lt_of_le hi h.1)]; exact h.2 i hi⟩
theorem Pre.at {α : Type} {r0 r : Sy.Rows α} (h : Pre r0 r) {i : Nat} {x : Option (Row (Sy.Id α))} (hi : r0[i]? = some x) : r[i]? = some x := by
  rw [h.2 i (List.getElem?_eq_some_iff.1 hi).1]; exact hi
theorem Nw.pre {α : Type} {rows r : Sy.Rows α} {S : List Nat} {k : List Int} {N : List NE} {c : Nat} (h : Nw rows S k N c) (hp : Pre rows r) : Nw r S k N c :=
  ⟨⟨hp.at h.hk.1, h.hk.2⟩, ⟨hp.at h.hm.1, h.hm.2⟩, h.I.same fun i hi => hp.2 i (h.I.lt hi), h.nd, h.W, h.st, h.nb⟩
/-- What is found, by a number of the map. -/
theorem Nw.found {α : Type} {rows : Sy.Rows α} {S : List Nat} {k : List Int} {N : List NE} {c : Nat} (h : Nw rows S k N c) {e : NE} (he : e ∈ N) {ns : List Int} (hm : ∀ n, n ∈ ns ↔ ∃ e', e' ∈ N ∧ e'.n = n ∧ litS k e'.s = litS k e.s) {j : Nat} (hj : j < ns.length) : ∃ A e' B, N = A ++ e' :: B ∧ ns[j]? = some e'.n ∧ litS k e'.s = litS k e.s ∧ e'.s.length = 32 ∧ ∀ a, a ∈ A → a.n ≠ e'.n := by
  obtain ⟨e', h1, h2, h3⟩ := (hm ns[j]).1 (List.getElem_mem hj)
  have h4 := h.W e' h1
  obtain ⟨A, B, hN⟩ := List.append_of_mem h1
  have hnd := h.nd
  rw [hN] at hnd
  exact ⟨A, e', B, hN, by rw [List.getElem?_eq_getElem hj, h2], h3, h4, (nd_mid hnd).2.1⟩
theorem bornB_N {α : Type} {n : Nat} : ∀ {N : List NE}, (∀ e, e ∈ N → e.b < (n : Int)) → bornB n (N.map NE.av : List (AV (Sy.Id α)))
  | [], _ => trivial
  | e :: N, h => ⟨h e (by simp), bornB_N fun e' he => h e' (by simp [he])⟩
theorem entryAt_N {ι : Type} {e : NE} : ∀ {N : List NE}, (N.map NE.b).Nodup → e ∈ N → entryAt e.b (N.map NE.av : List (AV ι)) = some (.int .u64 e.n, .ints .u8 e.s)
  | [], _, h => by cases h
  | x :: N, hn, h => by
    rw [List.map_cons, List.nodup_cons] at hn
    simp only [List.map_cons, NE.av, entryAt]
    rcases List.mem_cons.1 h with rfl | h1
    · rw [if_pos rfl]
    · rw [if_neg fun hb => hn.1 (by rw [hb]; exact List.mem_map_of_mem h1)]
      exact entryAt_N hn.2 h1
theorem av_inj {ι : Type} {N : List NE} {i : Nat} {k v : AV ι} {b : Int} (h : (N.map NE.av)[i]? = some (.tuple [k, v, .int .i64 b])) : ∃ e, e ∈ N ∧ e.b = b ∧ k = .int .u64 e.n ∧ v = .ints .u8 e.s := by
  rw [List.getElem?_map] at h
  cases he : N[i]? with
  | none => rw [he] at h; cases h
  | some e =>
    rw [he] at h
    simp only [Option.map_some, NE.av, Option.some.injEq, AV.tuple.injEq, List.cons.injEq, AV.int.injEq, true_and, and_true] at h
    obtain ⟨rfl, rfl, rfl⟩ := h
    exact ⟨e, List.mem_of_getElem? he, rfl, rfl, rfl⟩
/-- Numbers come into a row of their own, behind the rows that were there. -/
theorem NumR.put {α : Type} {n : Sz} {tm : Tm (Sy.Id α)} {rows : Sy.Rows α} {rs : Sy.Rows (Sy.Id α)} {v : AV (Sy.Id (Sy.Id α))} {l : List Int} (h : NumR 0 rs v l) (t : Nat) (ht : tget tm t = v.map (Sy.down rows.length)) :
    ∃ (j : Nat) (junk : Sy.Rows α), Le n (⟨tm, rows ++ rs.map (Option.map (Row.map (Sy.down rows.length)))⟩ : St α) ⟨(t, .slice true (.own j) 0 l.length 1) :: tm, rows ++ junk⟩ ∧ rows.length ≤ j ∧ (rows ++ junk)[j]? = some (some (.ints .u64 l)) := by
  rcases h with ⟨rfl, rfl⟩ | ⟨i, _, rfl, hi⟩
  · refine ⟨(rows ++ rs.map (Option.map (Row.map (Sy.down rows.length)))).length, rs.map (Option.map (Row.map (Sy.down rows.length))) ++ [some (.ints .u64 [])], ?_, by rw [List.length_append]; omega, ?_⟩
    · rw [← List.append_assoc]; exact Le.nil t ht .u64 1
    · rw [← List.append_assoc, ge0]; rfl
  · refine ⟨rows.length + i, rs.map (Option.map (Row.map (Sy.down rows.length))), ?_, by omega, ?_⟩
    · rintro c a w ⟨ro, hr⟩
      refine ⟨ro, hr.defers, hr.size, fun s => ?_, hr.sim, hr.rm, hr.pin⟩
      simp only [tget]
      by_cases hs : t = s
      · subst hs; rw [if_pos rfl]
        have := hr.tmps t
        rw [show tget tm t = .slice true (.own (rows.length + i)) 0 l.length 1 from ht] at this
        exact this
      · rw [if_neg hs]; exact hr.tmps s
    · rw [geN, List.getElem?_map, hi]
      rfl
end Go.Proofs.Ythbpflnbgcdmiaa
