/- A number taken out of an index. -/
import Derived.Test.YthbpflnbgcdmiaaFin6
namespace Go.Proofs.Ythbpflnbgcdmiaa
open Go Go.Proofs.Ythbpflnbgcdmiaa.Sy
set_option linter.unusedSimpArgs false
set_option linter.unusedVariables false

theorem fr_sets {α : Type} {rows : Sy.Rows α} {S S' : List Nat} {p q r : Nat} {a b d : Option (Row (Sy.Id α))} {junk : Sy.Rows α} (hp : p ∈ S) (hq : q ∈ S) (hr : r ∈ S) (hS : ∀ i, i ∈ S' → i ∈ S) : Fr rows S (((rows.set p a).set r b).set q d ++ junk) S' where
  len := by simp
  out := fun i hi hn => by
    have h1 : p ≠ i := fun e => hn (e ▸ hp)
    have h2 : q ≠ i := fun e => hn (e ▸ hq)
    have h3 : r ≠ i := fun e => hn (e ▸ hr)
    rw [List.getElem?_append_left (by simpa using hi), List.getElem?_set_ne h2, List.getElem?_set_ne h3, List.getElem?_set_ne h1]
  new := fun i hi => .inl (hS i hi)
theorem len_erase {l : List Int} {d n : Nat} (h : l.length = n) (hd : d < n) : (l.eraseIdx d).length = n - 1 := by rw [List.length_eraseIdx, if_pos (by omega), h]
theorem drop_idx {α : Type} (E : α → Option (Row α)) (rows : Sy.Rows α) (v : Int) {S : List Nat} {X : Nat} {c : AV (Sy.Id α)} {k : List Int} {F : Int → List Int → Prop} {cnt : Nat} (h : Idx rows S X c k F cnt) (hc : cnt < 1099511627776) :
    FnOkP Try.prog n_finger_Index_Drop E [.ptr (.own X) 0, .int .u64 v] rows (fun res rows' => res = .tuple [] ∧ ∃ S' cnt', Idx rows' S' X c k (fun n s => F n s ∧ n ≠ v) cnt' ∧ cnt' ≤ cnt ∧ Fr rows S rows' S') := by
  have h0 := h
  rcases h with ⟨p, q, c1, c2, N, G, hpq, h1, rfl, h2, rfl⟩ | ⟨hk, h1, rfl, h2, rfl⟩
  · by_cases he : ∃ e, e ∈ N ∧ e.n = v
    · obtain ⟨e, he, rfl⟩ := he
      obtain ⟨g, hg, hgs, hge⟩ := (h1.ok.hm e.n e.s).2 ⟨e, he, rfl, rfl⟩
      obtain ⟨A, B, rfl⟩ := List.append_of_mem he
      obtain ⟨C, D, rfl⟩ := List.append_of_mem hg
      obtain ⟨d, hd, hdv⟩ := List.mem_iff_getElem.1 hge
      obtain ⟨hg16, hg0, hsrt⟩ := h1.ok.hs g hg
      have hdv' : g.ns.getD d 0 = e.n := by rw [List.getD_eq_getElem?_getD, List.getElem?_eq_getElem hd, Option.getD_some, hdv]
      have hne : ∀ j, j < g.ns.length → j ≠ d → g.ns.getD j 0 ≠ e.n := fun j hj hjd => by
        rw [← hdv']
        rcases Nat.lt_or_gt_of_ne hjd with h3 | h3
        · exact Int.ne_of_lt (hsrt.lt h3 hd)
        · exact (Int.ne_of_lt (hsrt.lt h3 hj)).symm
      have hlen := h1.ok.len hg
      have hrr := h1.hr g hg
      have hrX := h1.rX hg; have hrp := h1.rp hg; have hrq := h1.rq hg
      have hfN := findN_some (ι := Sy.Id α) e B A 0 (nd_mid h1.ok.hN).2.1
      have hfG := findG_some (α := α) g D C 0 (nd_mid h1.ok.hG).2.1
      rw [hgs, Nat.zero_add] at hfG
      rw [Nat.zero_add] at hfN
      have hset := setMap (GE.av (α := α)) C g { g with ns := g.ns.eraseIdx d } D
      have hav : GE.av (α := α) { g with ns := g.ns.eraseIdx d } = .tuple [.ints .u8 e.s, .slice true (.own g.r) 0 (g.ns.length - 1) 1, .int .i64 g.b] := by
        simp only [GE.av, hgs, len_erase rfl hd]
      have hkG' : keysOk Try.prog 48 ((C ++ { g with ns := g.ns.eraseIdx d } :: D).map (GE.av (α := α))) := keysG _ fun g' hg' => by
        rcases mem_mid.1 hg' with rfl | h3
        · exact hg16
        · exact (h1.ok.hs g' (mem_mid.2 (.inr h3))).1
      have hfG' : findE (.ints .u8 e.s : AV (Sy.Id α)) ((C ++ { g with ns := g.ns.eraseIdx d } :: D).map GE.av) 0 = some (some (C.length, .slice true (.own g.r) 0 (g.ns.length - 1) 1, .int .i64 g.b)) := by
        have := findG_some (α := α) { g with ns := g.ns.eraseIdx d } D C 0 (nd_mid h1.ok.hG).2.1
        dsimp only at this
        rw [Nat.zero_add, len_erase rfl hd] at this
        rw [← hgs]; exact this
      rw [hav] at hset
      have hFr : ∀ n s, InN (A ++ B) n s ↔ F n s ∧ n ≠ e.n := fun n s => by rw [inN_drop h1.ok.hN, h2]
      have hL : (A ++ B).length ≤ (A ++ e :: B).length := by simp
      have hpS : p ∈ X :: p :: q :: (C ++ g :: D).map GE.r := by simp
      have hqS : q ∈ X :: p :: q :: (C ++ g :: D).map GE.r := by simp
      have hrS : g.r ∈ X :: p :: q :: (C ++ g :: D).map GE.r := by simp
      have hr' : ∀ g', g' ∈ C ++ D → g'.r ≠ g.r ∧ g'.r ≠ p ∧ g'.r ≠ q ∧ rows[g'.r]? = some (some (.ints .u64 g'.ns)) := fun g' hg' =>
        have h3 := mem_mid.2 (.inr hg')
        ⟨(nd_mid h1.ok.hR).2.2 _ hg', h1.rp h3, h1.rq h3, h1.hr g' h3⟩
      by_cases h2n : 2 ≤ g.ns.length
      · refine (drop_keep E rows e.n h1.k32 h1.hX h1.hp (keysN _) hfN (h1.ok.hsN e he) h1.hq (keysG _ fun g hg => (h1.ok.hs g hg).1) hfG hrr h1.Xp hpq hrp hrq hrX.symm h1.Xq rfl hd hdv' hne (by omega) hset hkG' hfG' h2n).mono ?_
        rintro res rows' ⟨h3, junk, rfl⟩
        refine ⟨h3, X :: p :: q :: (C ++ { g with ns := g.ns.eraseIdx d } :: D).map GE.r, (A ++ B).length, .inl ⟨p, q, c1, c2, A ++ B, _, hpq, ⟨h1.k32, ?_, ?_, ?_, fun g' hg' => ?_, h1.ok.drop_keep hgs hd hdv' h2n⟩, rfl, hFr, rfl⟩, hL, fr_sets hpS hqS hrS fun i hi => by simpa using hi⟩
        · exact gl (gn h1.Xq.symm (gn hrX (gn h1.Xp.symm h1.hX)))
        · rw [eraseMap]; exact gl (gn hpq.symm (gn hrp (gself h1.hp)))
        · exact gl (gself (gn hrq (gn hpq h1.hq)))
        · rcases mem_mid.1 hg' with rfl | h4
          · exact gl (gn hrq.symm (gself (gn hrp.symm hrr)))
          · obtain ⟨h5, h6, h7, h8⟩ := hr' g' h4
            exact gl (gn h7.symm (gn h5.symm (gn h6.symm h8)))
      · have h1n : g.ns.length = 1 := by omega
        refine (drop_last E rows e.n h1.k32 h1.hX h1.hp (keysN _) hfN (h1.ok.hsN e he) h1.hq (keysG _ fun g hg => (h1.ok.hs g hg).1) hfG hrr h1.Xp hpq hrp hrq hrX.symm h1.Xq rfl hd hdv' hne (by omega) hset hkG' hfG' h1n).mono ?_
        rintro res rows' ⟨h3, junk, rfl⟩
        refine ⟨h3, X :: p :: q :: (C ++ D).map GE.r, (A ++ B).length, .inl ⟨p, q, c1, c2, A ++ B, C ++ D, hpq, ⟨h1.k32, ?_, ?_, ?_, fun g' hg' => ?_, h1.ok.drop_last hgs hd hdv' h1n⟩, rfl, hFr, rfl⟩, hL, fr_sets hpS hqS hrS fun i hi => ?_⟩
        · exact gl (gn h1.Xq.symm (gn hrX (gn h1.Xp.symm h1.hX)))
        · rw [eraseMap]; exact gl (gn hpq.symm (gn hrp (gself h1.hp)))
        · rw [eraseMap, eraseMap]; exact gl (gself (gn hrq (gn hpq h1.hq)))
        · obtain ⟨h5, h6, h7, h8⟩ := hr' g' hg'
          exact gl (gn h7.symm (gn h5.symm (gn h6.symm h8)))
        · simp only [List.mem_cons, List.mem_map, List.mem_append] at hi ⊢
          rcases hi with h4 | h4 | h4 | ⟨g', h4, h5⟩
          · exact .inl h4
          · exact .inr (.inl h4)
          · exact .inr (.inr (.inl h4))
          · exact .inr (.inr (.inr ⟨g', by rcases h4 with h4 | h4; exact .inl h4; exact .inr (.inr h4), h5⟩))
    · have hv : ∀ e, e ∈ N → e.n ≠ v := fun e h3 h4 => he ⟨e, h3, h4⟩
      refine (drop_absent E rows v h1.k32 h1.hX h1.hp (keysN _) (findN_none v N 0 hv)).mono ?_
      rintro res rows' ⟨h3, junk, rfl⟩
      refine ⟨h3, _, _, (h0.app junk).iff fun n s => ⟨fun h4 => ⟨h4, fun h5 => ?_⟩, fun h4 => h4.1⟩, Nat.le_refl _, Fr.app junk⟩
      obtain ⟨e, h6, h7, _⟩ := (h2 n s).2 h4
      exact hv e h6 (h7.trans h5)
  · refine (drop_bare E rows v hk h1).mono ?_
    rintro res rows' ⟨h3, junk, rfl⟩
    exact ⟨h3, _, _, (h0.app junk).iff fun n s => ⟨fun h4 => absurd h4 (h2 _ _), fun h4 => h4.1⟩, Nat.le_refl _, Fr.app junk⟩
end Go.Proofs.Ythbpflnbgcdmiaa
