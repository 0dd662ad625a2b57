/- Contracts: a number put in. -/
import Derived.Test.YthbpflnbgcdmiaaFin7
namespace Go.Proofs.Ythbpflnbgcdmiaa
open Go Go.Proofs.Ythbpflnbgcdmiaa.Sy
set_option linter.unusedSimpArgs false
set_option linter.unusedVariables false
set_option maxRecDepth 100000
set_option maxHeartbeats 2000000


theorem put_nil {α : Type} (E : α → Option (Row α)) (v : Int) (b : List Int) (rows : Sy.Rows α) : FnOkP Try.prog n_finger_Index_Put E [.nilptr, .int .u64 v, .ints .u8 b] rows (fun res rows' => res = .tuple [] ∧ ∃ junk, rows' = rows ++ junk) := by
  refine FnOkP.intro func_finger_Index_Put call_finger_Index_Put (body := _) rfl nt_finger_Index_Put (by simp) ?_
  refine AWp.reg p_finger_Index_Put_0 [] s_finger_Index_Put_0 rfl rfl fun K hK => st_of ?_
  simp only [s_finger_Index_Put_0, wT, Bool.not_eq_true, ty, zr, Nat.reduceAdd, Nat.reduceSub, Nat.reduceMul, Nat.reduceMod, Nat.reduceDiv, Nat.reduceEqDiff, Nat.reduceLeDiff, Nat.reduceBEq, Int.reduceAdd, Int.reduceSub, Int.reduceMul, Int.reduceNeg, Int.reduceLT, Int.reduceLE, Int.reduceEq, Int.reduceNe, Int.reduceBEq, Int.reduceToNat, Int.reduceTDiv, Int.reduceTMod, Int.reduceOfNat, reduceCtorEq, sty, sui]
  try simp (disch := first | omega | (simp only [List.length_set, List.length_replicate, List.length_append, List.length_nil]; first | done | omega)) only [aT, Int.reduceToNat, List.length_set, List.length_replicate, List.length_append, List.length_nil]
  (repeat ((with_reducible refine And.intro ?_ ?_); (first | omega | exact True.intro | with_reducible rfl | decide | assumption | rfl)))
  refine hK _ ?_; clear hK K
  refine AWp.grp fun G4 hG4 => ?_
  refine AWp.reg p_finger_Index_Put_1 [] s_finger_Index_Put_1 rfl rfl fun K hK => st_of ?_
  simp only [s_finger_Index_Put_1, wT, Bool.not_eq_true, ty, zr, Nat.reduceAdd, Nat.reduceSub, Nat.reduceMul, Nat.reduceMod, Nat.reduceDiv, Nat.reduceEqDiff, Nat.reduceLeDiff, Nat.reduceBEq, Int.reduceAdd, Int.reduceSub, Int.reduceMul, Int.reduceNeg, Int.reduceLT, Int.reduceLE, Int.reduceEq, Int.reduceNe, Int.reduceBEq, Int.reduceToNat, Int.reduceTDiv, Int.reduceTMod, Int.reduceOfNat, reduceCtorEq, sty, sui]
  try simp (disch := first | omega | (simp only [List.length_set, List.length_replicate, List.length_append, List.length_nil]; first | done | omega)) only [aT, Int.reduceToNat, List.length_set, List.length_replicate, List.length_append, List.length_nil]
  (repeat ((with_reducible refine And.intro ?_ ?_); (first | omega | exact True.intro | with_reducible rfl | decide | assumption | rfl)))
  refine hK _ ?_; clear hK K
  refine AWp.iteE rfl (fun hb => ?_) (fun hb => ?_)
  · try simp only [decide_eq_true_eq, decide_eq_false_iff_not, beq_iff_eq, bne_iff_ne, ne_eq, Bool.not_eq_true, beq_eq_false_iff_ne, bne_eq_false_iff_eq, Bool.not_eq_false, Bool.not_eq_eq_eq_not, Bool.not_true, Bool.not_false] at hb
    refine AWp.ret ?_
    try simp only [thenQ, bq, lq, lf, iq, gq, Nat.reduceEqDiff, if_true, if_false]
    simp only [endQ, rs_finger_Index_Put, resC, one, wT, Bool.not_eq_true, ty, zr, Nat.reduceAdd, Nat.reduceSub, Nat.reduceMul, Nat.reduceMod, Nat.reduceDiv, Nat.reduceEqDiff, Nat.reduceLeDiff, Nat.reduceBEq, Int.reduceAdd, Int.reduceSub, Int.reduceMul, Int.reduceNeg, Int.reduceLT, Int.reduceLE, Int.reduceEq, Int.reduceNe, Int.reduceBEq, Int.reduceToNat, Int.reduceTDiv, Int.reduceTMod, Int.reduceOfNat, reduceCtorEq, sty, sui]
    try simp (disch := first | omega | (simp only [List.length_set, List.length_replicate, List.length_append, List.length_nil]; first | done | omega)) only [aT, Int.reduceToNat, List.length_set, List.length_replicate, List.length_append, List.length_nil]
    exact ⟨_, rfl⟩
  · try simp only [decide_eq_true_eq, decide_eq_false_iff_not, beq_iff_eq, bne_iff_ne, ne_eq, Bool.not_eq_true, beq_eq_false_iff_ne, bne_eq_false_iff_eq, Bool.not_eq_false, Bool.not_eq_eq_eq_not, Bool.not_true, Bool.not_false] at hb
    (first | exact absurd trivial hb | exact absurd rfl hb | cases hb | (exfalso; omega) | (simp at hb; done))
theorem idxC_set33 {ι : Type} {k : List Int} (hk : k.length = 32) (c x y z : AV ι) : (idxC c k x y).set 33 z = idxC c k z y := by
  have h1 : (flatI .u8 k : List (AV ι)).length = 32 := by rw [flatI_len, hk]
  show c :: (flatI .u8 k ++ [x, y]).set 32 z = _
  rw [List.set_append_right _ _ (by omega), h1]; rfl
theorem idxC_set34 {ι : Type} {k : List Int} (hk : k.length = 32) (c x y z : AV ι) : (idxC c k x y).set 34 z = idxC c k x z := by
  have h1 : (flatI .u8 k : List (AV ι)).length = 32 := by rw [flatI_len, hk]
  show c :: (flatI .u8 k ++ [x, y]).set 33 z = _
  rw [List.set_append_right _ _ (by omega), h1]; rfl
/-- The maps are there, if need be new ones. -/
theorem put_mid {α : Type} {rows : Sy.Rows α} {S : List Nat} {X : Nat} {c : AV (Sy.Id α)} {k : List Int} {F : Int → List Int → Prop} {cnt : Nat} (h : Idx rows S X c k F cnt) {t : Nat} {r : Row (Sy.Id α)} (ht : rows[t]? = some (some r)) (htS : t ∉ S) :
    ∃ (nb : Bool) (rows2 : Sy.Rows α) (p q c1 c2 : Nat) (N : List NE) (G : List GE), p ≠ q ∧ Made rows2 X p q c k c1 c2 N G ∧ (∀ n s, InN N n s ↔ F n s) ∧ N.length = cnt ∧ Fr rows S rows2 (X :: p :: q :: G.map GE.r) ∧ rows2[t]? = some (some r) ∧ k.length = 32 ∧
      ((nb = true ∧ rows[X]? = some (some (.mixed (idxC c k .nilmap .nilmap))) ∧ rows2 = rows.set X (some (.mixed (idxC c k (.map_ (.own rows.length)) (.map_ (.own (rows.length + 1)))))) ++ [some (mapRow 0 []), some (mapRow 0 [])]) ∨
       (nb = false ∧ rows[X]? = some (some (.mixed (idxC c k (.map_ (.own p)) (.map_ (.own q))))) ∧ rows2 = rows)) := by
  rcases h with ⟨p, q, c1, c2, N, G, hpq, h1, rfl, h2, rfl⟩ | ⟨hk, h1, rfl, h2, rfl⟩
  · exact ⟨false, rows, p, q, c1, c2, N, G, hpq, h1, h2, rfl, ⟨Nat.le_refl _, fun _ _ _ => rfl, fun i hi => .inl hi⟩, ht, h1.k32, .inr ⟨rfl, h1.hX, rfl⟩⟩
  · have hXl := (List.getElem?_eq_some_iff.1 h1).1
    refine ⟨true, _, rows.length, rows.length + 1, 0, 0, [], [], by omega, ⟨hk, ?_, ?_, ?_, fun g hg => by simp at hg, Ok.nil⟩, fun n s => ⟨fun ⟨e, h, _⟩ => by simp at h, fun h => absurd h (h2 _ _)⟩, rfl, ⟨by simp, fun i hi hn => ?_, fun i hi => ?_⟩, ?_, hk, .inl ⟨rfl, h1, rfl⟩⟩
    · exact gl (gself h1)
    · rw [geS]; rfl
    · rw [geSN]; rfl
    · rw [List.getElem?_append_left (by simpa using hi), List.getElem?_set_ne (fun e => hn (by simp [e]))]
    · simp only [List.map_nil, List.mem_cons, List.not_mem_nil, or_false] at hi
      rcases hi with rfl | rfl | rfl
      · exact .inl (by simp)
      · exact .inr (Nat.le_refl _)
      · exact .inr (by omega)
    · exact gl (gn (fun e => htS (by simp [e])) ht)
theorem put_grp {α : Type} {rows3 : Sy.Rows α} {N : List NE} {G : List GE} (h : Ok N G) (hr : ∀ g, g ∈ G → rows3[g.r]? = some (some (.ints .u64 g.ns))) (s : List Int) (v : Int) (hnv : ∀ e, e ∈ N → e.n ≠ v) :
    ∃ (rows4 : Sy.Rows α) (r : Nat) (ns : List Int) (pp : Nat), rows4[r]? = some (some (.ints .u64 ns)) ∧ pp ≤ ns.length ∧ (∀ j, j < pp → ns.getD j 0 < v) ∧ (∀ j, pp ≤ j → j < ns.length → v < ns.getD j 0) ∧ ns.length ≤ N.length ∧ (∀ (i : Nat) x, rows3[i]? = some x → rows4[i]? = some x) ∧
      ((∃ C g D, G = C ++ g :: D ∧ g.s = s ∧ g.r = r ∧ g.ns = ns ∧ rows4 = rows3) ∨ ((∀ g, g ∈ G → g.s ≠ s) ∧ r = rows3.length ∧ ns = [] ∧ pp = 0 ∧ rows4 = rows3 ++ [some (.ints .u64 [])])) := by
  by_cases hg : ∃ g, g ∈ G ∧ g.s = s
  · obtain ⟨g, hg, hgs⟩ := hg
    have hv : v ∉ g.ns := fun hm => by
      obtain ⟨e, he, h1, _⟩ := (h.hm v g.s).1 ⟨g, hg, rfl, hm⟩
      exact hnv e he h1
    obtain ⟨pp, h1, h2, h3⟩ := (h.hs g hg).2.2.place v hv
    obtain ⟨C, D, hG⟩ := List.append_of_mem hg
    exact ⟨rows3, g.r, g.ns, pp, hr g hg, h1, h2, h3, h.len hg, fun i x h => h, .inl ⟨C, g, D, hG, hgs, rfl, rfl, rfl⟩⟩
  · exact ⟨_, rows3.length, [], 0, ge0 _ _, Nat.le_refl _, fun j h => absurd h (by omega), fun j _ h => absurd h (by simp), by simp, fun i x h => gl h, .inr ⟨fun g h1 h2 => hg ⟨g, h1, h2⟩, rfl, rfl, rfl, rfl⟩⟩
theorem av_new {α : Type} (s : List Int) (r : Nat) (ns : List Int) (b : Int) (pp : Nat) (v : Int) : GE.av (α := α) ⟨s, r, insL ns pp v, b⟩ = .tuple [.ints .u8 s, .slice true (.own r) 0 (ns.length + 1) 1, .int .i64 b] := by simp only [GE.av, insL_len]
theorem put_fin {α : Type} {rows0 rows2 rows3 rows4 : Sy.Rows α} {S0 : List Nat} {X p q : Nat} {c : AV (Sy.Id α)} {k : List Int} {c1 c2 : Nat} {N : List NE} {G : List GE} {v : Int} {s ns : List Int} {F : Int → List Int → Prop} {r pp : Nat}
    (hM : Made rows2 X p q c k c1 c2 N G) (hpq : p ≠ q) (hnv : ∀ e, e ∈ N → e.n ≠ v) (hN : ∀ n t, InN N n t ↔ F n t ∧ n ≠ v)
    (hc : (∃ C g D, G = C ++ g :: D ∧ g.s = s ∧ g.r = r ∧ g.ns = ns ∧ rows4 = rows3) ∨ ((∀ g, g ∈ G → g.s ≠ s) ∧ r = rows3.length ∧ ns = [] ∧ pp = 0 ∧ rows4 = rows3 ++ [some (.ints .u64 [])]))
    (hr4 : rows4[r]? = some (some (.ints .u64 ns))) (hX4 : rows4[X]? = some (some (.mixed (idxC c k (.map_ (.own p)) (.map_ (.own q)))))) (hq4 : rows4[q]? = some (some (mapRow c2 (G.map GE.av))))
    (h3 : rows3 = rows2.set p (some (.obj (.func (c1 + 1) (N.map NE.av ++ [.tuple [.int .u64 v, .ints .u8 s, .int .i64 c1]]))))) (h16 : s.length = 16)
    (hpp : pp ≤ ns.length) (hlo : ∀ j, j < pp → ns.getD j 0 < v) (hhi : ∀ j, pp ≤ j → j < ns.length → v < ns.getD j 0) (hF : Fr rows0 S0 rows2 (X :: p :: q :: G.map GE.r)) :
    ∃ (c3 : Nat) (L3 : List (AV (Sy.Id α))),
      ((∃ j vv b2, findE (.ints .u8 s) (G.map (GE.av (α := α))) 0 = some (some (j, vv, b2)) ∧ c3 = c2 ∧ L3 = (G.map GE.av).set j (.tuple [.ints .u8 s, .slice true (.own (rows4.length + 1)) 0 (ns.length + 1) 1, b2])) ∨
       (findE (.ints .u8 s) (G.map (GE.av (α := α))) 0 = some none ∧ c3 = c2 + 1 ∧ L3 = G.map GE.av ++ [.tuple [.ints .u8 s, .slice true (.own (rows4.length + 1)) 0 (ns.length + 1) 1, .int .i64 c2]])) ∧
      ∃ S' cnt', Idx ((rows4.set r none).set q (some (.obj (.func c3 L3))) ++ [none, some (.ints .u64 (insL ns pp v))]) S' X c k (fun n t => (F n t ∧ n ≠ v) ∨ (n = v ∧ t = s)) cnt' ∧ cnt' ≤ N.length + 1 ∧ Fr rows0 S0 ((rows4.set r none).set q (some (.obj (.func c3 L3))) ++ [none, some (.ints .u64 (insL ns pp v))]) S' := by
  have hl3 : rows3.length = rows2.length := by rw [h3, List.length_set]
  have hN' : ∀ n t, InN (N ++ [NE.mk v s c1]) n t ↔ (F n t ∧ n ≠ v) ∨ (n = v ∧ t = s) := fun n t => by
    rw [inN_put, hN]
    constructor
    · rintro (h | ⟨h1, h2⟩)
      · exact .inl h
      · exact .inr ⟨h1.symm, h2.symm⟩
    · rintro (h | ⟨h1, h2⟩)
      · exact .inl h
      · exact .inr ⟨h1.symm, h2.symm⟩
  have hav : (N.map NE.av ++ [.tuple [.int .u64 v, .ints .u8 s, .int .i64 c1]] : List (AV (Sy.Id α))) = (N ++ [NE.mk v s c1]).map NE.av := by rw [List.map_append]; rfl
  have hp3 : rows3[p]? = some (some (mapRow (c1 + 1) ((N ++ [NE.mk v s c1]).map NE.av))) := by rw [h3, hav]; exact gself hM.hp
  have hr3 : ∀ g, g ∈ G → rows3[g.r]? = some (some (.ints .u64 g.ns)) := fun g hg => by rw [h3]; exact gn (hM.rp hg).symm (hM.hr g hg)
  have hrX : r ≠ X := fun e => by rw [e, hX4] at hr4; simp at hr4
  have hrq : r ≠ q := fun e => by rw [e, hq4] at hr4; simp at hr4
  have hlt : ∀ g, g ∈ G → g.r < rows3.length := fun g hg => (List.getElem?_eq_some_iff.1 (hr3 g hg)).1
  rcases hc with ⟨C, g, D, rfl, rfl, rfl, rfl, rfl⟩ | ⟨hng, rfl, rfl, rfl, rfl⟩
  · have hg : g ∈ C ++ g :: D := by simp
    have hfG := findG_some (α := α) g D C 0 (nd_mid hM.ok.hG).2.1
    rw [Nat.zero_add] at hfG
    have hset := setMap (GE.av (α := α)) C g (GE.mk g.s (rows4.length + 1) (insL g.ns pp v) g.b) D
    refine ⟨c2, (C ++ GE.mk g.s (rows4.length + 1) (insL g.ns pp v) g.b :: D).map GE.av, .inl ⟨_, _, _, hfG, rfl, ?_⟩, X :: p :: q :: (C ++ GE.mk g.s (rows4.length + 1) (insL g.ns pp v) g.b :: D).map GE.r, (N ++ [NE.mk v g.s c1]).length,
      .inl ⟨p, q, c1 + 1, c2, N ++ [NE.mk v g.s c1], _, hpq, ⟨hM.k32, ?_, ?_, ?_, fun g' hg' => ?_, ?_⟩, rfl, hN', rfl⟩, by simp, ⟨?_, fun i hi hn => ?_, fun i hi => ?_⟩⟩
    · rw [← hset, av_new]
    · exact gl (gn hM.Xq.symm (gn hrX hX4))
    · exact gl (gn hpq.symm (gn (hM.rp hg) hp3))
    · exact gl (gself (gn hrq hq4))
    · rcases mem_mid.1 hg' with rfl | h5
      · show (_ ++ _)[rows4.length + 1]? = _
        rw [List.getElem?_append_right (by simp), List.length_set, List.length_set, Nat.add_sub_cancel_left]; rfl
      · have h6 : g' ∈ C ++ g :: D := mem_mid.2 (.inr h5)
        exact gl (gn (hM.rq h6).symm (gn ((nd_mid hM.ok.hR).2.2 _ h5).symm (hr3 g' h6)))
    · exact hM.ok.put_in hnv c1 (fun g' hg' => by have := hlt g' (mem_mid.2 (.inr hg')); omega) hpp hlo hhi
    · have := hF.len; simp; omega
    · have h1 := hF.new
      have a1 : q ≠ i := fun e => by subst e; rcases h1 q (by simp) with h | h; exact hn h; omega
      have a2 : g.r ≠ i := fun e => by subst e; rcases h1 g.r (by simp) with h | h; exact hn h; omega
      have a3 : p ≠ i := fun e => by subst e; rcases h1 p (by simp) with h | h; exact hn h; omega
      have := hF.len
      rw [List.getElem?_append_left (by simp; omega), List.getElem?_set_ne a1, List.getElem?_set_ne a2, h3, List.getElem?_set_ne a3, hF.out i hi hn]
    · simp only [List.mem_cons, List.map_append, List.map_cons, List.mem_append] at hi
      have h1 := hF.new
      simp only [List.mem_cons, List.map_append, List.map_cons, List.mem_append] at h1
      have := hF.len
      rcases hi with h | h | h | h | h | h
      · exact h1 i (.inl h)
      · exact h1 i (.inr (.inl h))
      · exact h1 i (.inr (.inr (.inl h)))
      · exact h1 i (.inr (.inr (.inr (.inl h))))
      · exact .inr (by omega)
      · exact h1 i (.inr (.inr (.inr (.inr (.inr h)))))
  · refine ⟨c2 + 1, (G ++ [GE.mk s (rows3.length + 2) [v] c2]).map GE.av, .inr ⟨findG_none s G 0 hng, rfl, ?_⟩, X :: p :: q :: (G ++ [GE.mk s (rows3.length + 2) [v] c2]).map GE.r, (N ++ [NE.mk v s c1]).length,
      .inl ⟨p, q, c1 + 1, c2 + 1, N ++ [NE.mk v s c1], _, hpq, ⟨hM.k32, ?_, ?_, ?_, fun g' hg' => ?_, ?_⟩, rfl, hN', rfl⟩, by simp, ⟨?_, fun i hi hn => ?_, fun i hi => ?_⟩⟩
    · rw [List.map_append, List.length_append]; rfl
    · exact gl (gn hM.Xq.symm (gn hrX hX4))
    · refine gl (gn hpq.symm (gn (fun e => ?_) (gl hp3)))
      have := (List.getElem?_eq_some_iff.1 hp3).1; omega
    · exact gl (gself (gn hrq hq4))
    · rcases List.mem_append.1 hg' with h5 | h5
      · exact gl (gn (hM.rq h5).symm (gn (fun e => by have := hlt g' h5; omega) (gl (hr3 g' h5))))
      · rw [List.mem_singleton] at h5; subst h5
        show (_ ++ _)[rows3.length + 2]? = _
        rw [List.getElem?_append_right (by simp)]; simp [insL]
    · exact hM.ok.put_new hnv s h16 hng c1 c2 (fun g' hg' => by have := hlt g' hg'; omega)
    · have := hF.len; simp; omega
    · have h1 := hF.new
      have := hF.len
      have a1 : q ≠ i := fun e => by subst e; rcases h1 q (by simp) with h | h; exact hn h; omega
      have a2 : rows3.length ≠ i := fun e => by omega
      have a3 : p ≠ i := fun e => by subst e; rcases h1 p (by simp) with h | h; exact hn h; omega
      rw [List.getElem?_append_left (by simp; omega), List.getElem?_set_ne a1, List.getElem?_set_ne a2, List.getElem?_append_left (by omega), h3, List.getElem?_set_ne a3, hF.out i hi hn]
    · simp only [List.mem_cons, List.map_append, List.map_cons, List.map_nil, List.mem_append, List.not_mem_nil, or_false] at hi
      have h1 := hF.new
      simp only [List.mem_cons] at h1
      have := hF.len
      rcases hi with h | h | h | h | h
      · exact h1 i (.inl h)
      · exact h1 i (.inr (.inl h))
      · exact h1 i (.inr (.inr (.inl h)))
      · exact h1 i (.inr (.inr (.inr h)))
      · exact .inr (by omega)
theorem put_idx {α : Type} (E : α → Option (Row α)) (rows : Sy.Rows α) (v : Int) {S : List Nat} {X : Nat} {c : AV (Sy.Id α)} {k b s : List Int} {F : Int → List Int → Prop} {cnt : Nat} (h : Idx rows S X c k F cnt) (hc : cnt < 1099511627770) (hbl : b.length = 32) (h16 : s.length = 16) (hs : SumOk c k b s X) :
    FnOkP Try.prog n_finger_Index_Put E [.ptr (.own X) 0, .int .u64 v, .ints .u8 b] rows (fun res rows' => res = .tuple [] ∧ ∃ S' cnt', Idx rows' S' X c k (fun n t => (F n t ∧ n ≠ v) ∨ (n = v ∧ t = s)) cnt' ∧ cnt' ≤ cnt + 1 ∧ Fr rows S rows' S') := by
  have hsb : sub b 0 32 = b := sub_all hbl
  have hsp : Sy.splice (List.replicate 16 (0 : Int)) 0 s = s := splice_all (by rw [h16, List.length_replicate])
  obtain ⟨u1, u2, hXE⟩ : ∃ u1 u2, rows[X]? = some (some (.mixed (idxC c k u1 u2))) := by
    rcases h with ⟨p, q, c1, c2, N, G, hpq, h1, rfl, h2, rfl⟩ | ⟨hk, h1, rfl, h2, rfl⟩
    · exact ⟨_, _, h1.hX⟩
    · exact ⟨_, _, h1⟩
  refine FnOkP.intro func_finger_Index_Put call_finger_Index_Put (body := _) rfl nt_finger_Index_Put (by simp) ?_
  refine AWp.reg p_finger_Index_Put_0 [] s_finger_Index_Put_0 rfl rfl fun K hK => st_of ?_
  simp only [s_finger_Index_Put_0, wT, Bool.not_eq_true, ty, zr, Nat.reduceAdd, Nat.reduceSub, Nat.reduceMul, Nat.reduceMod, Nat.reduceDiv, Nat.reduceEqDiff, Nat.reduceLeDiff, Nat.reduceBEq, Int.reduceAdd, Int.reduceSub, Int.reduceMul, Int.reduceNeg, Int.reduceLT, Int.reduceLE, Int.reduceEq, Int.reduceNe, Int.reduceBEq, Int.reduceToNat, Int.reduceTDiv, Int.reduceTMod, Int.reduceOfNat, reduceCtorEq, sty, sui]
  try simp (disch := first | omega | (simp only [List.length_set, List.length_replicate, List.length_append, List.length_nil]; first | done | omega)) only [aT, Int.reduceToNat, List.length_set, List.length_replicate, List.length_append, List.length_nil]
  (repeat ((with_reducible refine And.intro ?_ ?_); (first | omega | exact True.intro | with_reducible rfl | decide | assumption | rfl)))
  refine hK _ ?_; clear hK K
  refine AWp.grp fun G4 hG4 => ?_
  refine AWp.reg p_finger_Index_Put_1 [] s_finger_Index_Put_1 rfl rfl fun K hK => st_of ?_
  simp only [s_finger_Index_Put_1, wT, Bool.not_eq_true, ty, zr, Nat.reduceAdd, Nat.reduceSub, Nat.reduceMul, Nat.reduceMod, Nat.reduceDiv, Nat.reduceEqDiff, Nat.reduceLeDiff, Nat.reduceBEq, Int.reduceAdd, Int.reduceSub, Int.reduceMul, Int.reduceNeg, Int.reduceLT, Int.reduceLE, Int.reduceEq, Int.reduceNe, Int.reduceBEq, Int.reduceToNat, Int.reduceTDiv, Int.reduceTMod, Int.reduceOfNat, reduceCtorEq, sty, sui]
  try simp (disch := first | omega | (simp only [List.length_set, List.length_replicate, List.length_append, List.length_nil]; first | done | omega)) only [aT, Int.reduceToNat, List.length_set, List.length_replicate, List.length_append, List.length_nil]
  (repeat ((with_reducible refine And.intro ?_ ?_); (first | omega | exact True.intro | with_reducible rfl | decide | assumption | rfl)))
  refine hK _ ?_; clear hK K
  refine AWp.iteE rfl (fun hb => ?_) (fun hb => ?_)
  · try simp only [decide_eq_true_eq, decide_eq_false_iff_not, beq_iff_eq, bne_iff_ne, ne_eq, Bool.not_eq_true, beq_eq_false_iff_ne, bne_eq_false_iff_eq, Bool.not_eq_false, Bool.not_eq_eq_eq_not, Bool.not_true, Bool.not_false] at hb
    (first | exact absurd trivial hb | exact absurd rfl hb | cases hb | (exfalso; omega) | (simp at hb; done))
  · try simp only [decide_eq_true_eq, decide_eq_false_iff_not, beq_iff_eq, bne_iff_ne, ne_eq, Bool.not_eq_true, beq_eq_false_iff_ne, bne_eq_false_iff_eq, Bool.not_eq_false, Bool.not_eq_eq_eq_not, Bool.not_true, Bool.not_false] at hb
    refine AWp.skip ?_
    try simp only [thenQ, bq, lq, lf, iq, gq, Nat.reduceEqDiff, if_true, if_false]
    refine hG4 _ ?_
    try clear hG4 G4
    refine AWp.reg p_finger_Index_Put_2 [] s_finger_Index_Put_2 rfl rfl fun K hK => st_of ?_
    simp only [s_finger_Index_Put_2, wT, Bool.not_eq_true, ty, zr, Nat.reduceAdd, Nat.reduceSub, Nat.reduceMul, Nat.reduceMod, Nat.reduceDiv, Nat.reduceEqDiff, Nat.reduceLeDiff, Nat.reduceBEq, Int.reduceAdd, Int.reduceSub, Int.reduceMul, Int.reduceNeg, Int.reduceLT, Int.reduceLE, Int.reduceEq, Int.reduceNe, Int.reduceBEq, Int.reduceToNat, Int.reduceTDiv, Int.reduceTMod, Int.reduceOfNat, reduceCtorEq, sty, sui]
    try simp (disch := first | omega | (simp only [List.length_set, List.length_replicate, List.length_append, List.length_nil]; first | done | omega)) only [aT, Int.reduceToNat, List.length_set, List.length_replicate, List.length_append, List.length_nil]
    simp only [ge0, wT, Bool.not_eq_true, ty, zr, Nat.reduceAdd, Nat.reduceSub, Nat.reduceMul, Nat.reduceMod, Nat.reduceDiv, Nat.reduceEqDiff, Nat.reduceLeDiff, Nat.reduceBEq, Int.reduceAdd, Int.reduceSub, Int.reduceMul, Int.reduceNeg, Int.reduceLT, Int.reduceLE, Int.reduceEq, Int.reduceNe, Int.reduceBEq, Int.reduceToNat, Int.reduceTDiv, Int.reduceTMod, Int.reduceOfNat, reduceCtorEq, sty, sui]
    try simp (disch := first | omega | (simp only [List.length_set, List.length_replicate, List.length_append, List.length_nil]; first | done | omega)) only [aT, Int.reduceToNat, List.length_set, List.length_replicate, List.length_append, List.length_nil]
    simp only [hbl, hsb]
    (repeat ((with_reducible refine And.intro ?_ ?_); (first | omega | exact True.intro | with_reducible rfl | decide | assumption | rfl)))
    (repeat ((with_reducible refine And.intro ?_ ?_); (first | omega | exact True.intro | with_reducible rfl | decide | assumption | rfl)))
    refine st_call fun K1 hK1 => ?_
    simp only [calleeC, wT, Bool.not_eq_true, ty, zr, Nat.reduceAdd, Nat.reduceSub, Nat.reduceMul, Nat.reduceMod, Nat.reduceDiv, Nat.reduceEqDiff, Nat.reduceLeDiff, Nat.reduceBEq, Int.reduceAdd, Int.reduceSub, Int.reduceMul, Int.reduceNeg, Int.reduceLT, Int.reduceLE, Int.reduceEq, Int.reduceNe, Int.reduceBEq, Int.reduceToNat, Int.reduceTDiv, Int.reduceTMod, Int.reduceOfNat, reduceCtorEq, sty, sui]
    try simp (disch := first | omega | (simp only [List.length_set, List.length_replicate, List.length_append, List.length_nil]; first | done | omega)) only [aT, Int.reduceToNat, List.length_set, List.length_replicate, List.length_append, List.length_nil]
    refine hK1 _ _ ?_
    clear hK1 K1
    simp only [CallTo, AV.mapL, AV.map, mapL_flat, mapL_flat1]
    refine ⟨_, FnOk.toP (hs _ _ _ (by simp only [Sy.look, gl hXE]; rfl)) ⟨rfl, rfl⟩, ofEq ?_⟩
    simp only [wT, Bool.not_eq_true, ty, zr, Nat.reduceAdd, Nat.reduceSub, Nat.reduceMul, Nat.reduceMod, Nat.reduceDiv, Nat.reduceEqDiff, Nat.reduceLeDiff, Nat.reduceBEq, Int.reduceAdd, Int.reduceSub, Int.reduceMul, Int.reduceNeg, Int.reduceLT, Int.reduceLE, Int.reduceEq, Int.reduceNe, Int.reduceBEq, Int.reduceToNat, Int.reduceTDiv, Int.reduceTMod, Int.reduceOfNat, reduceCtorEq, sty, sui]
    try simp (disch := first | omega | (simp only [List.length_set, List.length_replicate, List.length_append, List.length_nil]; first | done | omega)) only [aT, Int.reduceToNat, List.length_set, List.length_replicate, List.length_append, List.length_nil]
    (repeat ((with_reducible refine And.intro ?_ ?_); (first | omega | exact True.intro | with_reducible rfl | decide | assumption | rfl)))
    simp only [List.append_assoc, geN, gsN, wT, Bool.not_eq_true, ty, zr, Nat.reduceAdd, Nat.reduceSub, Nat.reduceMul, Nat.reduceMod, Nat.reduceDiv, Nat.reduceEqDiff, Nat.reduceLeDiff, Nat.reduceBEq, Int.reduceAdd, Int.reduceSub, Int.reduceMul, Int.reduceNeg, Int.reduceLT, Int.reduceLE, Int.reduceEq, Int.reduceNe, Int.reduceBEq, Int.reduceToNat, Int.reduceTDiv, Int.reduceTMod, Int.reduceOfNat, reduceCtorEq, sty, sui]
    try simp (disch := first | omega | (simp only [List.length_set, List.length_replicate, List.length_append, List.length_nil]; first | done | omega)) only [aT, Int.reduceToNat, List.length_set, List.length_replicate, List.length_append, List.length_nil]
    simp only [hsp, h16, List.length_replicate, wT, Bool.not_eq_true, ty, zr, Nat.reduceAdd, Nat.reduceSub, Nat.reduceMul, Nat.reduceMod, Nat.reduceDiv, Nat.reduceEqDiff, Nat.reduceLeDiff, Nat.reduceBEq, Int.reduceAdd, Int.reduceSub, Int.reduceMul, Int.reduceNeg, Int.reduceLT, Int.reduceLE, Int.reduceEq, Int.reduceNe, Int.reduceBEq, Int.reduceToNat, Int.reduceTDiv, Int.reduceTMod, Int.reduceOfNat, reduceCtorEq, sty, sui]
    try simp (disch := first | omega | (simp only [List.length_set, List.length_replicate, List.length_append, List.length_nil]; first | done | omega)) only [aT, Int.reduceToNat, List.length_set, List.length_replicate, List.length_append, List.length_nil]
    (repeat ((with_reducible refine And.intro ?_ ?_); (first | omega | exact True.intro | with_reducible rfl | decide | assumption | rfl)))
    refine hK _ ?_; clear hK K
    refine AWp.reg p_finger_Index_Put_3 q_finger_Index_Put_3 s_finger_Index_Put_3 rfl rfl fun K hK => st_of ?_
    simp only [s_finger_Index_Put_3, wT, Bool.not_eq_true, ty, zr, Nat.reduceAdd, Nat.reduceSub, Nat.reduceMul, Nat.reduceMod, Nat.reduceDiv, Nat.reduceEqDiff, Nat.reduceLeDiff, Nat.reduceBEq, Int.reduceAdd, Int.reduceSub, Int.reduceMul, Int.reduceNeg, Int.reduceLT, Int.reduceLE, Int.reduceEq, Int.reduceNe, Int.reduceBEq, Int.reduceToNat, Int.reduceTDiv, Int.reduceTMod, Int.reduceOfNat, reduceCtorEq, sty, sui]
    try simp (disch := first | omega | (simp only [List.length_set, List.length_replicate, List.length_append, List.length_nil]; first | done | omega)) only [aT, Int.reduceToNat, List.length_set, List.length_replicate, List.length_append, List.length_nil]
    (repeat ((with_reducible refine And.intro ?_ ?_); (first | omega | exact True.intro | with_reducible rfl | decide | assumption | rfl)))
    refine st_scall fun K1 hK1 => ?_
    simp only [calleeC, wT, Bool.not_eq_true, ty, zr, Nat.reduceAdd, Nat.reduceSub, Nat.reduceMul, Nat.reduceMod, Nat.reduceDiv, Nat.reduceEqDiff, Nat.reduceLeDiff, Nat.reduceBEq, Int.reduceAdd, Int.reduceSub, Int.reduceMul, Int.reduceNeg, Int.reduceLT, Int.reduceLE, Int.reduceEq, Int.reduceNe, Int.reduceBEq, Int.reduceToNat, Int.reduceTDiv, Int.reduceTMod, Int.reduceOfNat, reduceCtorEq, sty, sui]
    try simp (disch := first | omega | (simp only [List.length_set, List.length_replicate, List.length_append, List.length_nil]; first | done | omega)) only [aT, Int.reduceToNat, List.length_set, List.length_replicate, List.length_append, List.length_nil]
    refine hK1 _ _ ?_
    clear hK1 K1
    simp only [SameTo]
    refine ⟨_, drop_idx E (rows ++ [some (Row.ints .u8 b), some (Row.ints .u8 s)]) v (h.app _) (by omega), fun res rows1 ⟨hres, S1, cnt1, hI1, hc1, hF1⟩ => ?_⟩
    subst hres
    have hFF : Fr rows S rows1 S1 := Fr.trans (Fr.app _) hF1
    simp only [wT, Bool.not_eq_true, ty, zr, Nat.reduceAdd, Nat.reduceSub, Nat.reduceMul, Nat.reduceMod, Nat.reduceDiv, Nat.reduceEqDiff, Nat.reduceLeDiff, Nat.reduceBEq, Int.reduceAdd, Int.reduceSub, Int.reduceMul, Int.reduceNeg, Int.reduceLT, Int.reduceLE, Int.reduceEq, Int.reduceNe, Int.reduceBEq, Int.reduceToNat, Int.reduceTDiv, Int.reduceTMod, Int.reduceOfNat, reduceCtorEq, sty, sui]
    try simp (disch := first | omega | (simp only [List.length_set, List.length_replicate, List.length_append, List.length_nil]; first | done | omega)) only [aT, Int.reduceToNat, List.length_set, List.length_replicate, List.length_append, List.length_nil]
    (repeat ((with_reducible refine And.intro ?_ ?_); (first | omega | exact True.intro | with_reducible rfl | decide | assumption | rfl)))
    refine hK _ ?_; clear hK K
    have hts : rows1[rows.length + 1]? = some (some (Row.ints .u8 s)) := by rw [hF1.out _ (by simp) (fun hm => by have := h.lt hm; omega), geN]; rfl
    have htS : rows.length + 1 ∉ S1 := fun hm => by rcases hF1.new _ hm with h3 | h3; have := h.lt h3; omega; simp at h3
    obtain ⟨nb, rows2, p, q, c1, c2, N, G, hpq, hM, hN, hNl, hF2, ht2, hk, hcase⟩ := put_mid hI1 hts htS
    generalize hT : rows.length + 1 = T at *
    refine AWp.grpJ ⟨[(0, .ptr (.own X) 0), (1, .int .u64 v), (6, .ptr (.own T) 0)], rows2⟩ (fun G53 hG53 => ?_) ?_
    · skip
      refine AWp.regJ p_finger_Index_Put_4 [] s_finger_Index_Put_4 ⟨[(0, .ptr (.own X) 0), (1, .int .u64 v), (6, .ptr (.own T) 0), (22, .bool nb)], rows1⟩ rfl rfl (fun K hK => st_of ?_) ?_
      · simp only [s_finger_Index_Put_4, wT, Bool.not_eq_true, ty, zr, Nat.reduceAdd, Nat.reduceSub, Nat.reduceMul, Nat.reduceMod, Nat.reduceDiv, Nat.reduceEqDiff, Nat.reduceLeDiff, Nat.reduceBEq, Int.reduceAdd, Int.reduceSub, Int.reduceMul, Int.reduceNeg, Int.reduceLT, Int.reduceLE, Int.reduceEq, Int.reduceNe, Int.reduceBEq, Int.reduceToNat, Int.reduceTDiv, Int.reduceTMod, Int.reduceOfNat, reduceCtorEq, sty, sui]
        try simp (disch := first | omega | (simp only [List.length_set, List.length_replicate, List.length_append, List.length_nil]; first | done | omega)) only [aT, Int.reduceToNat, List.length_set, List.length_replicate, List.length_append, List.length_nil]
        rcases hcase with ⟨h5, h6, h7⟩ | ⟨h5, h6, h7⟩
        · subst h5
          simp only [h6, idxC_x hk, idxC_len hk, wT, Bool.not_eq_true, ty, zr, Nat.reduceAdd, Nat.reduceSub, Nat.reduceMul, Nat.reduceMod, Nat.reduceDiv, Nat.reduceEqDiff, Nat.reduceLeDiff, Nat.reduceBEq, Int.reduceAdd, Int.reduceSub, Int.reduceMul, Int.reduceNeg, Int.reduceLT, Int.reduceLE, Int.reduceEq, Int.reduceNe, Int.reduceBEq, Int.reduceToNat, Int.reduceTDiv, Int.reduceTMod, Int.reduceOfNat, reduceCtorEq, sty, sui]
          try simp (disch := first | omega | (simp only [List.length_set, List.length_replicate, List.length_append, List.length_nil]; first | done | omega)) only [aT, Int.reduceToNat, List.length_set, List.length_replicate, List.length_append, List.length_nil]
          (repeat ((with_reducible refine And.intro ?_ ?_); (first | omega | exact True.intro | with_reducible rfl | decide | assumption | rfl)))
          exact hK _ Le.sub
        · subst h5
          simp only [h6, idxC_x hk, idxC_len hk, wT, Bool.not_eq_true, ty, zr, Nat.reduceAdd, Nat.reduceSub, Nat.reduceMul, Nat.reduceMod, Nat.reduceDiv, Nat.reduceEqDiff, Nat.reduceLeDiff, Nat.reduceBEq, Int.reduceAdd, Int.reduceSub, Int.reduceMul, Int.reduceNeg, Int.reduceLT, Int.reduceLE, Int.reduceEq, Int.reduceNe, Int.reduceBEq, Int.reduceToNat, Int.reduceTDiv, Int.reduceTMod, Int.reduceOfNat, reduceCtorEq, sty, sui]
          try simp (disch := first | omega | (simp only [List.length_set, List.length_replicate, List.length_append, List.length_nil]; first | done | omega)) only [aT, Int.reduceToNat, List.length_set, List.length_replicate, List.length_append, List.length_nil]
          (repeat ((with_reducible refine And.intro ?_ ?_); (first | omega | exact True.intro | with_reducible rfl | decide | assumption | rfl)))
          exact hK _ Le.sub
      refine AWp.iteE rfl (fun hb => ?_) (fun hb => ?_)
      · try simp only [decide_eq_true_eq, decide_eq_false_iff_not, beq_iff_eq, bne_iff_ne, ne_eq, Bool.not_eq_true, beq_eq_false_iff_ne, bne_eq_false_iff_eq, Bool.not_eq_false, Bool.not_eq_eq_eq_not, Bool.not_true, Bool.not_false] at hb
        have h6 := hcase.resolve_right (fun h => by rw [h.1] at hb; cases hb)
        refine AWp.regE p_finger_Index_Put_5 [] s_finger_Index_Put_5 rfl rfl (st_of ?_)
        simp only [s_finger_Index_Put_5, wT, Bool.not_eq_true, ty, zr, Nat.reduceAdd, Nat.reduceSub, Nat.reduceMul, Nat.reduceMod, Nat.reduceDiv, Nat.reduceEqDiff, Nat.reduceLeDiff, Nat.reduceBEq, Int.reduceAdd, Int.reduceSub, Int.reduceMul, Int.reduceNeg, Int.reduceLT, Int.reduceLE, Int.reduceEq, Int.reduceNe, Int.reduceBEq, Int.reduceToNat, Int.reduceTDiv, Int.reduceTMod, Int.reduceOfNat, reduceCtorEq, sty, sui]
        try simp (disch := first | omega | (simp only [List.length_set, List.length_replicate, List.length_append, List.length_nil]; first | done | omega)) only [aT, Int.reduceToNat, List.length_set, List.length_replicate, List.length_append, List.length_nil]
        simp only [List.append_assoc, gl h6.2.1, gs h6.2.1, gs (gself h6.2.1), gl (gself h6.2.1), List.set_set, idxC_set33 hk, idxC_set34 hk, idxC_len hk, wT, Bool.not_eq_true, ty, zr, Nat.reduceAdd, Nat.reduceSub, Nat.reduceMul, Nat.reduceMod, Nat.reduceDiv, Nat.reduceEqDiff, Nat.reduceLeDiff, Nat.reduceBEq, Int.reduceAdd, Int.reduceSub, Int.reduceMul, Int.reduceNeg, Int.reduceLT, Int.reduceLE, Int.reduceEq, Int.reduceNe, Int.reduceBEq, Int.reduceToNat, Int.reduceTDiv, Int.reduceTMod, Int.reduceOfNat, reduceCtorEq, sty, sui]
        try simp (disch := first | omega | (simp only [List.length_set, List.length_replicate, List.length_append, List.length_nil]; first | done | omega)) only [aT, Int.reduceToNat, List.length_set, List.length_replicate, List.length_append, List.length_nil]
        (repeat ((with_reducible refine And.intro ?_ ?_); (first | omega | exact True.intro | with_reducible rfl | decide | assumption | rfl)))
        try simp only [thenQ, bq, lq, lf, iq, gq, Nat.reduceEqDiff, if_true, if_false]
        refine hG53 _ ?_
        rw [h6.2.2]
        exact Le.sub
      · try simp only [decide_eq_true_eq, decide_eq_false_iff_not, beq_iff_eq, bne_iff_ne, ne_eq, Bool.not_eq_true, beq_eq_false_iff_ne, bne_eq_false_iff_eq, Bool.not_eq_false, Bool.not_eq_eq_eq_not, Bool.not_true, Bool.not_false] at hb
        have h6 := hcase.resolve_left (fun h => by rw [h.1] at hb; cases hb)
        refine AWp.skip ?_
        try simp only [thenQ, bq, lq, lf, iq, gq, Nat.reduceEqDiff, if_true, if_false]
        refine hG53 _ ?_
        rw [h6.2.2]
        exact Le.sub
    have hnv : ∀ e, e ∈ N → e.n ≠ v := fun e he hev => ((hN e.n e.s).1 ⟨e, he, rfl, rfl⟩).2 hev
    obtain ⟨rows3, h3⟩ : ∃ x, x = rows2.set p (some (.obj (.func (c1 + 1) (N.map NE.av ++ [.tuple [.int .u64 v, .ints .u8 s, .int .i64 c1]])))) := ⟨_, rfl⟩
    have hpT : p ≠ T := fun e => by have h4 := hM.hp; rw [e, ht2] at h4; simp at h4
    have hqT : q ≠ T := fun e => by have h4 := hM.hq; rw [e, ht2] at h4; simp at h4
    have hX3 := (congrArg (·[X]?) h3).trans (gn hM.Xp.symm hM.hX)
    have hq3 := (congrArg (·[q]?) h3).trans (gn hpq hM.hq)
    have ht3 := (congrArg (·[T]?) h3).trans (gn hpT ht2)
    have hr3 : ∀ g, g ∈ G → rows3[g.r]? = some (some (.ints .u64 g.ns)) := fun g hg => by rw [h3]; exact gn (hM.rp hg).symm (hM.hr g hg)
    obtain ⟨rows4, r, ns, pp, hr4, hpp, hlo, hhi, hns, h34, hcase2⟩ := put_grp hM.ok hr3 s v hnv
    have hX4 := h34 _ _ hX3
    have hq4 := h34 _ _ hq3
    have ht4 := h34 _ _ ht3
    have hrl : r < rows4.length := (List.getElem?_eq_some_iff.1 hr4).1
    have hrX : r ≠ X := fun e => by rw [e, hX4] at hr4; simp at hr4
    have hrq : r ≠ q := fun e => by rw [e, hq4] at hr4; simp at hr4
    have hkG := keysG (α := α) G fun g hg => (hM.ok.hs g hg).1
    refine AWp.drwP mix p_finger_Index_Put_6 q_finger_Index_Put_6 g_finger_Index_Put_6 s_finger_Index_Put_6 rfl (by decide +kernel) fun K hK => sp_of ?_
    simp only [s_finger_Index_Put_6, wT, Bool.not_eq_true, ty, zr, Nat.reduceAdd, Nat.reduceSub, Nat.reduceMul, Nat.reduceMod, Nat.reduceDiv, Nat.reduceEqDiff, Nat.reduceLeDiff, Nat.reduceBEq, Int.reduceAdd, Int.reduceSub, Int.reduceMul, Int.reduceNeg, Int.reduceLT, Int.reduceLE, Int.reduceEq, Int.reduceNe, Int.reduceBEq, Int.reduceToNat, Int.reduceTDiv, Int.reduceTMod, Int.reduceOfNat, reduceCtorEq, sty, sui]
    try simp (disch := first | omega | (simp only [List.length_set, List.length_replicate, List.length_append, List.length_nil]; first | done | omega)) only [aT, Int.reduceToNat, List.length_set, List.length_replicate, List.length_append, List.length_nil]
    simp only [hM.hX, ht2, idxC_x hk, idxC_len hk, wT, Bool.not_eq_true, ty, zr, Nat.reduceAdd, Nat.reduceSub, Nat.reduceMul, Nat.reduceMod, Nat.reduceDiv, Nat.reduceEqDiff, Nat.reduceLeDiff, Nat.reduceBEq, Int.reduceAdd, Int.reduceSub, Int.reduceMul, Int.reduceNeg, Int.reduceLT, Int.reduceLE, Int.reduceEq, Int.reduceNe, Int.reduceBEq, Int.reduceToNat, Int.reduceTDiv, Int.reduceTMod, Int.reduceOfNat, reduceCtorEq, sty, sui]
    try simp (disch := first | omega | (simp only [List.length_set, List.length_replicate, List.length_append, List.length_nil]; first | done | omega)) only [aT, Int.reduceToNat, List.length_set, List.length_replicate, List.length_append, List.length_nil]
    simp only [hM.hp, h16, sub_all h16, keysN, findN_none v N 0 hnv, wT, Bool.not_eq_true, ty, zr, Nat.reduceAdd, Nat.reduceSub, Nat.reduceMul, Nat.reduceMod, Nat.reduceDiv, Nat.reduceEqDiff, Nat.reduceLeDiff, Nat.reduceBEq, Int.reduceAdd, Int.reduceSub, Int.reduceMul, Int.reduceNeg, Int.reduceLT, Int.reduceLE, Int.reduceEq, Int.reduceNe, Int.reduceBEq, Int.reduceToNat, Int.reduceTDiv, Int.reduceTMod, Int.reduceOfNat, reduceCtorEq, sty, sui]
    try simp (disch := first | omega | (simp only [List.length_set, List.length_replicate, List.length_append, List.length_nil]; first | done | omega)) only [aT, Int.reduceToNat, List.length_set, List.length_replicate, List.length_append, List.length_nil]
    (repeat ((with_reducible refine And.intro ?_ ?_); (first | omega | exact True.intro | with_reducible rfl | decide | assumption | rfl)))
    rw [← h3]
    refine hK _ ?_; clear hK K
    refine AWp.drwJ mix p_finger_Index_Put_7 q_finger_Index_Put_7 g_finger_Index_Put_7 s_finger_Index_Put_7 ⟨[(0, .ptr (.own X) 0), (1, .int .u64 v), (6, .ptr (.own T) 0), (7, .slice true (.own r) 0 ns.length 1)], rows4⟩ rfl (by decide +kernel) (fun K hK => sp_of ?_) ?_
    · simp only [s_finger_Index_Put_7, wT, Bool.not_eq_true, ty, zr, Nat.reduceAdd, Nat.reduceSub, Nat.reduceMul, Nat.reduceMod, Nat.reduceDiv, Nat.reduceEqDiff, Nat.reduceLeDiff, Nat.reduceBEq, Int.reduceAdd, Int.reduceSub, Int.reduceMul, Int.reduceNeg, Int.reduceLT, Int.reduceLE, Int.reduceEq, Int.reduceNe, Int.reduceBEq, Int.reduceToNat, Int.reduceTDiv, Int.reduceTMod, Int.reduceOfNat, reduceCtorEq, sty, sui]
      try simp (disch := first | omega | (simp only [List.length_set, List.length_replicate, List.length_append, List.length_nil]; first | done | omega)) only [aT, Int.reduceToNat, List.length_set, List.length_replicate, List.length_append, List.length_nil]
      simp only [hX3, ht3, idxC_y hk, idxC_len hk, wT, Bool.not_eq_true, ty, zr, Nat.reduceAdd, Nat.reduceSub, Nat.reduceMul, Nat.reduceMod, Nat.reduceDiv, Nat.reduceEqDiff, Nat.reduceLeDiff, Nat.reduceBEq, Int.reduceAdd, Int.reduceSub, Int.reduceMul, Int.reduceNeg, Int.reduceLT, Int.reduceLE, Int.reduceEq, Int.reduceNe, Int.reduceBEq, Int.reduceToNat, Int.reduceTDiv, Int.reduceTMod, Int.reduceOfNat, reduceCtorEq, sty, sui]
      try simp (disch := first | omega | (simp only [List.length_set, List.length_replicate, List.length_append, List.length_nil]; first | done | omega)) only [aT, Int.reduceToNat, List.length_set, List.length_replicate, List.length_append, List.length_nil]
      simp only [hq3, h16, sub_all h16, hkG, wT, Bool.not_eq_true, ty, zr, Nat.reduceAdd, Nat.reduceSub, Nat.reduceMul, Nat.reduceMod, Nat.reduceDiv, Nat.reduceEqDiff, Nat.reduceLeDiff, Nat.reduceBEq, Int.reduceAdd, Int.reduceSub, Int.reduceMul, Int.reduceNeg, Int.reduceLT, Int.reduceLE, Int.reduceEq, Int.reduceNe, Int.reduceBEq, Int.reduceToNat, Int.reduceTDiv, Int.reduceTMod, Int.reduceOfNat, reduceCtorEq, sty, sui]
      try simp (disch := first | omega | (simp only [List.length_set, List.length_replicate, List.length_append, List.length_nil]; first | done | omega)) only [aT, Int.reduceToNat, List.length_set, List.length_replicate, List.length_append, List.length_nil]
      rcases hcase2 with ⟨C, g, D, rfl, rfl, rfl, rfl, rfl⟩ | ⟨hng, rfl, rfl, rfl, rfl⟩
      · have hfG := findG_some (α := α) g D C 0 (nd_mid hM.ok.hG).2.1
        simp only [hfG, wT, Bool.not_eq_true, ty, zr, Nat.reduceAdd, Nat.reduceSub, Nat.reduceMul, Nat.reduceMod, Nat.reduceDiv, Nat.reduceEqDiff, Nat.reduceLeDiff, Nat.reduceBEq, Int.reduceAdd, Int.reduceSub, Int.reduceMul, Int.reduceNeg, Int.reduceLT, Int.reduceLE, Int.reduceEq, Int.reduceNe, Int.reduceBEq, Int.reduceToNat, Int.reduceTDiv, Int.reduceTMod, Int.reduceOfNat, reduceCtorEq, sty, sui]
        try simp (disch := first | omega | (simp only [List.length_set, List.length_replicate, List.length_append, List.length_nil]; first | done | omega)) only [aT, Int.reduceToNat, List.length_set, List.length_replicate, List.length_append, List.length_nil]
        (repeat ((with_reducible refine And.intro ?_ ?_); (first | omega | exact True.intro | with_reducible rfl | decide | assumption | rfl)))
        exact hK _ Le.sub
      · simp only [findG_none s G 0 hng, wT, Bool.not_eq_true, ty, zr, Nat.reduceAdd, Nat.reduceSub, Nat.reduceMul, Nat.reduceMod, Nat.reduceDiv, Nat.reduceEqDiff, Nat.reduceLeDiff, Nat.reduceBEq, Int.reduceAdd, Int.reduceSub, Int.reduceMul, Int.reduceNeg, Int.reduceLT, Int.reduceLE, Int.reduceEq, Int.reduceNe, Int.reduceBEq, Int.reduceToNat, Int.reduceTDiv, Int.reduceTMod, Int.reduceOfNat, reduceCtorEq, sty, sui]
        try simp (disch := first | omega | (simp only [List.length_set, List.length_replicate, List.length_append, List.length_nil]; first | done | omega)) only [aT, Int.reduceToNat, List.length_set, List.length_replicate, List.length_append, List.length_nil]
        (repeat ((with_reducible refine And.intro ?_ ?_); (first | omega | exact True.intro | with_reducible rfl | decide | assumption | rfl)))
        exact hK _ (Le.trans (Le.nil 7 rfl .u64 1) Le.sub)
    refine AWp.reg p_finger_Index_Put_8 [] s_finger_Index_Put_8 rfl rfl fun K hK => st_of ?_
    simp only [s_finger_Index_Put_8, wT, Bool.not_eq_true, ty, zr, Nat.reduceAdd, Nat.reduceSub, Nat.reduceMul, Nat.reduceMod, Nat.reduceDiv, Nat.reduceEqDiff, Nat.reduceLeDiff, Nat.reduceBEq, Int.reduceAdd, Int.reduceSub, Int.reduceMul, Int.reduceNeg, Int.reduceLT, Int.reduceLE, Int.reduceEq, Int.reduceNe, Int.reduceBEq, Int.reduceToNat, Int.reduceTDiv, Int.reduceTMod, Int.reduceOfNat, reduceCtorEq, sty, sui]
    try simp (disch := first | omega | (simp only [List.length_set, List.length_replicate, List.length_append, List.length_nil]; first | done | omega)) only [aT, Int.reduceToNat, List.length_set, List.length_replicate, List.length_append, List.length_nil]
    (repeat ((with_reducible refine And.intro ?_ ?_); (first | omega | exact True.intro | with_reducible rfl | decide | assumption | rfl)))
    refine st_call fun K1 hK1 => ?_
    simp only [calleeC, wT, Bool.not_eq_true, ty, zr, Nat.reduceAdd, Nat.reduceSub, Nat.reduceMul, Nat.reduceMod, Nat.reduceDiv, Nat.reduceEqDiff, Nat.reduceLeDiff, Nat.reduceBEq, Int.reduceAdd, Int.reduceSub, Int.reduceMul, Int.reduceNeg, Int.reduceLT, Int.reduceLE, Int.reduceEq, Int.reduceNe, Int.reduceBEq, Int.reduceToNat, Int.reduceTDiv, Int.reduceTMod, Int.reduceOfNat, reduceCtorEq, sty, sui]
    try simp (disch := first | omega | (simp only [List.length_set, List.length_replicate, List.length_append, List.length_nil]; first | done | omega)) only [aT, Int.reduceToNat, List.length_set, List.length_replicate, List.length_append, List.length_nil]
    refine hK1 _ _ ?_
    clear hK1 K1
    simp only [CallTo, AV.mapL, AV.map, mapL_flat, mapL_flat1]
    refine ⟨_, FnOk.toP (search_ok _ (Sy.Id.own r) ns (by simp only [Sy.look, hr4]; rfl) true ns.length pp v (Nat.le_refl _) hpp hlo hhi (by omega)) ⟨rfl, rfl⟩, ofEq ?_⟩
    simp only [wT, Bool.not_eq_true, ty, zr, Nat.reduceAdd, Nat.reduceSub, Nat.reduceMul, Nat.reduceMod, Nat.reduceDiv, Nat.reduceEqDiff, Nat.reduceLeDiff, Nat.reduceBEq, Int.reduceAdd, Int.reduceSub, Int.reduceMul, Int.reduceNeg, Int.reduceLT, Int.reduceLE, Int.reduceEq, Int.reduceNe, Int.reduceBEq, Int.reduceToNat, Int.reduceTDiv, Int.reduceTMod, Int.reduceOfNat, reduceCtorEq, sty, sui]
    try simp (disch := first | omega | (simp only [List.length_set, List.length_replicate, List.length_append, List.length_nil]; first | done | omega)) only [aT, Int.reduceToNat, List.length_set, List.length_replicate, List.length_append, List.length_nil]
    (repeat ((with_reducible refine And.intro ?_ ?_); (first | omega | exact True.intro | with_reducible rfl | decide | assumption | rfl)))
    refine hK _ ?_; clear hK K
    obtain ⟨c3, L3, hfe, S9, cnt9, fin, fin2, fin3⟩ := put_fin hM hpq hnv hN hcase2 hr4 hX4 hq4 h3 h16 hpp hlo hhi (hFF.trans hF2)
    obtain ⟨rows5, h5⟩ : ∃ x, x = rows4.set r none := ⟨_, rfl⟩
    have hX5 := (congrArg (·[X]?) h5).trans (gn hrX hX4)
    have hq5 := (congrArg (·[q]?) h5).trans (gn hrq hq4)
    have hrT : r ≠ T := fun e => by rw [e, ht4] at hr4; simp only [Option.some.injEq, Row.ints.injEq] at hr4; exact absurd hr4.1 (by decide)
    have ht5 := (congrArg (·[T]?) h5).trans (gn hrT ht4)
    have hins : ((rows4 ++ [some (Row.ints .u64 [v])]).set r none).set rows4.length none = rows5 ++ [none] := by rw [gs hr4, ← h5, List.set_append_right _ _ (by rw [h5, List.length_set]; exact Nat.le_refl _)]; rw [h5, List.length_set, Nat.sub_self]; rfl
    have hg1 : (rows4 ++ [some (Row.ints .u64 [v])])[r]? = some (some (.ints .u64 ns)) := gl hr4
    have hg2 : (rows4 ++ [some (Row.ints .u64 [v])])[rows4.length]? = some (some (.ints .u64 [v])) := ge0 _ _
    rw [← h5] at fin fin3
    refine AWp.drwPE mix p_finger_Index_Put_9 q_finger_Index_Put_9 g_finger_Index_Put_9 s_finger_Index_Put_9 rfl (by decide +kernel) (sp_of ?_)
    simp only [s_finger_Index_Put_9, wT, Bool.not_eq_true, ty, zr, Nat.reduceAdd, Nat.reduceSub, Nat.reduceMul, Nat.reduceMod, Nat.reduceDiv, Nat.reduceEqDiff, Nat.reduceLeDiff, Nat.reduceBEq, Int.reduceAdd, Int.reduceSub, Int.reduceMul, Int.reduceNeg, Int.reduceLT, Int.reduceLE, Int.reduceEq, Int.reduceNe, Int.reduceBEq, Int.reduceToNat, Int.reduceTDiv, Int.reduceTMod, Int.reduceOfNat, reduceCtorEq, sty, sui]
    try simp (disch := first | omega | (simp only [List.length_set, List.length_replicate, List.length_append, List.length_nil]; first | done | omega)) only [aT, Int.reduceToNat, List.length_set, List.length_replicate, List.length_append, List.length_nil]
    simp only [geN, ge0, gl hX4, hX4, gl ht4, ht4, idxC_y hk, idxC_len hk, wT, Bool.not_eq_true, ty, zr, Nat.reduceAdd, Nat.reduceSub, Nat.reduceMul, Nat.reduceMod, Nat.reduceDiv, Nat.reduceEqDiff, Nat.reduceLeDiff, Nat.reduceBEq, Int.reduceAdd, Int.reduceSub, Int.reduceMul, Int.reduceNeg, Int.reduceLT, Int.reduceLE, Int.reduceEq, Int.reduceNe, Int.reduceBEq, Int.reduceToNat, Int.reduceTDiv, Int.reduceTMod, Int.reduceOfNat, reduceCtorEq, sty, sui]
    try simp (disch := first | omega | (simp only [List.length_set, List.length_replicate, List.length_append, List.length_nil]; first | done | omega)) only [aT, Int.reduceToNat, List.length_set, List.length_replicate, List.length_append, List.length_nil]
    simp only [h16, sub_all h16, wT, Bool.not_eq_true, ty, zr, Nat.reduceAdd, Nat.reduceSub, Nat.reduceMul, Nat.reduceMod, Nat.reduceDiv, Nat.reduceEqDiff, Nat.reduceLeDiff, Nat.reduceBEq, Int.reduceAdd, Int.reduceSub, Int.reduceMul, Int.reduceNeg, Int.reduceLT, Int.reduceLE, Int.reduceEq, Int.reduceNe, Int.reduceBEq, Int.reduceToNat, Int.reduceTDiv, Int.reduceTMod, Int.reduceOfNat, reduceCtorEq, sty, sui]
    try simp (disch := first | omega | (simp only [List.length_set, List.length_replicate, List.length_append, List.length_nil]; first | done | omega)) only [aT, Int.reduceToNat, List.length_set, List.length_replicate, List.length_append, List.length_nil]
    repeat' (with_reducible refine And.intro ?_ ?_)
    all_goals (try omega)
    all_goals
      (repeat ((with_reducible refine And.intro ?_ ?_); (first | omega | exact True.intro | with_reducible rfl | decide | assumption | rfl)))
      refine sp_mcall fun K1 hK1 => ?_
      simp only [calleeC, wT, Bool.not_eq_true, ty, zr, Nat.reduceAdd, Nat.reduceSub, Nat.reduceMul, Nat.reduceMod, Nat.reduceDiv, Nat.reduceEqDiff, Nat.reduceLeDiff, Nat.reduceBEq, Int.reduceAdd, Int.reduceSub, Int.reduceMul, Int.reduceNeg, Int.reduceLT, Int.reduceLE, Int.reduceEq, Int.reduceNe, Int.reduceBEq, Int.reduceToNat, Int.reduceTDiv, Int.reduceTMod, Int.reduceOfNat, reduceCtorEq, sty, sui]
      try simp (disch := first | omega | (simp only [List.length_set, List.length_replicate, List.length_append, List.length_nil]; first | done | omega)) only [aT, Int.reduceToNat, List.length_set, List.length_replicate, List.length_append, List.length_nil]
      refine hK1 _ _ ?_
      clear hK1 K1
      simp only [MutTo, AV.mapL, AV.map, mapL_flat, mapL_flat1]
      refine ⟨[r, rows4.length], [.slice true (.own 0) 0 ns.length 1, .int .i64 pp, .slice true (.own 1) 0 1 1], [some (.ints .u64 ns), some (.ints .u64 [v])], _, _, (by first | decide | (simp; done) | (simp; omega)), by simp only [mutRows, mutRow, upM, Row.map, AV.map, AV.mapL, Row.All, AV.All, AV.AllL, inS, mapL_flat, mapL_flat1, allL_flat, allL_flat1]; (repeat' (first | exact trivial | rfl | omega | apply And.intro | simp [mapL_flat, mapL_flat1, allL_flat, allL_flat1])), by simp only [upM, List.map_cons, List.map_nil, AV.map, AV.mapL, mapL_flat, mapL_flat1]; first | done | rfl, by simp only [AV.All, AV.AllL, inS, allL_flat, allL_flat1]; (repeat' (first | exact trivial | rfl | omega | apply And.intro | simp [mapL_flat, mapL_flat1, allL_flat, allL_flat1])), insert_ok _ ns v pp ns.length rfl hpp (by omega), ?_⟩
      simp only [afterM, setM, backM, List.drop_succ_cons, List.drop_zero, List.drop_nil, wT, Bool.not_eq_true, ty, zr, Nat.reduceAdd, Nat.reduceSub, Nat.reduceMul, Nat.reduceMod, Nat.reduceDiv, Nat.reduceEqDiff, Nat.reduceLeDiff, Nat.reduceBEq, Int.reduceAdd, Int.reduceSub, Int.reduceMul, Int.reduceNeg, Int.reduceLT, Int.reduceLE, Int.reduceEq, Int.reduceNe, Int.reduceBEq, Int.reduceToNat, Int.reduceTDiv, Int.reduceTMod, Int.reduceOfNat, reduceCtorEq, sty, sui]
      try simp (disch := first | omega | (simp only [List.length_set, List.length_replicate, List.length_append, List.length_nil]; first | done | omega)) only [aT, Int.reduceToNat, List.length_set, List.length_replicate, List.length_append, List.length_nil]
      simp only [hins, List.append_assoc, List.cons_append, List.nil_append, wT, Bool.not_eq_true, ty, zr, Nat.reduceAdd, Nat.reduceSub, Nat.reduceMul, Nat.reduceMod, Nat.reduceDiv, Nat.reduceEqDiff, Nat.reduceLeDiff, Nat.reduceBEq, Int.reduceAdd, Int.reduceSub, Int.reduceMul, Int.reduceNeg, Int.reduceLT, Int.reduceLE, Int.reduceEq, Int.reduceNe, Int.reduceBEq, Int.reduceToNat, Int.reduceTDiv, Int.reduceTMod, Int.reduceOfNat, reduceCtorEq, sty, sui]
      try simp (disch := first | omega | (simp only [List.length_set, List.length_replicate, List.length_append, List.length_nil]; first | done | omega)) only [aT, Int.reduceToNat, List.length_set, List.length_replicate, List.length_append, List.length_nil]
      try simp only [gl hX5, gl ht5, idxC_y hk, idxC_len hk, wT, Bool.not_eq_true, ty, zr, Nat.reduceAdd, Nat.reduceSub, Nat.reduceMul, Nat.reduceMod, Nat.reduceDiv, Nat.reduceEqDiff, Nat.reduceLeDiff, Nat.reduceBEq, Int.reduceAdd, Int.reduceSub, Int.reduceMul, Int.reduceNeg, Int.reduceLT, Int.reduceLE, Int.reduceEq, Int.reduceNe, Int.reduceBEq, Int.reduceToNat, Int.reduceTDiv, Int.reduceTMod, Int.reduceOfNat, reduceCtorEq, sty, sui]
      simp only [gl hq5, hkG, h16, sub_all h16, wT, Bool.not_eq_true, ty, zr, Nat.reduceAdd, Nat.reduceSub, Nat.reduceMul, Nat.reduceMod, Nat.reduceDiv, Nat.reduceEqDiff, Nat.reduceLeDiff, Nat.reduceBEq, Int.reduceAdd, Int.reduceSub, Int.reduceMul, Int.reduceNeg, Int.reduceLT, Int.reduceLE, Int.reduceEq, Int.reduceNe, Int.reduceBEq, Int.reduceToNat, Int.reduceTDiv, Int.reduceTMod, Int.reduceOfNat, reduceCtorEq, sty, sui]
      try simp (disch := first | omega | (simp only [List.length_set, List.length_replicate, List.length_append, List.length_nil]; first | done | omega)) only [aT, Int.reduceToNat, List.length_set, List.length_replicate, List.length_append, List.length_nil]
      rcases hfe with ⟨j, vv, b2, hf, rfl, rfl⟩ | ⟨hf, rfl, rfl⟩
      · simp only [hf, gs hq5, endQ, rs_finger_Index_Put, resC, one, wT, Bool.not_eq_true, ty, zr, Nat.reduceAdd, Nat.reduceSub, Nat.reduceMul, Nat.reduceMod, Nat.reduceDiv, Nat.reduceEqDiff, Nat.reduceLeDiff, Nat.reduceBEq, Int.reduceAdd, Int.reduceSub, Int.reduceMul, Int.reduceNeg, Int.reduceLT, Int.reduceLE, Int.reduceEq, Int.reduceNe, Int.reduceBEq, Int.reduceToNat, Int.reduceTDiv, Int.reduceTMod, Int.reduceOfNat, reduceCtorEq, sty, sui]
        try simp (disch := first | omega | (simp only [List.length_set, List.length_replicate, List.length_append, List.length_nil]; first | done | omega)) only [aT, Int.reduceToNat, List.length_set, List.length_replicate, List.length_append, List.length_nil]
        (repeat ((with_reducible refine And.intro ?_ ?_); (first | omega | exact True.intro | with_reducible rfl | decide | assumption | rfl)))
        exact ⟨S9, cnt9, fin, by omega, fin3⟩
      · simp only [hf, gs hq5, endQ, rs_finger_Index_Put, resC, one, wT, Bool.not_eq_true, ty, zr, Nat.reduceAdd, Nat.reduceSub, Nat.reduceMul, Nat.reduceMod, Nat.reduceDiv, Nat.reduceEqDiff, Nat.reduceLeDiff, Nat.reduceBEq, Int.reduceAdd, Int.reduceSub, Int.reduceMul, Int.reduceNeg, Int.reduceLT, Int.reduceLE, Int.reduceEq, Int.reduceNe, Int.reduceBEq, Int.reduceToNat, Int.reduceTDiv, Int.reduceTMod, Int.reduceOfNat, reduceCtorEq, sty, sui]
        try simp (disch := first | omega | (simp only [List.length_set, List.length_replicate, List.length_append, List.length_nil]; first | done | omega)) only [aT, Int.reduceToNat, List.length_set, List.length_replicate, List.length_append, List.length_nil]
        (repeat ((with_reducible refine And.intro ?_ ?_); (first | omega | exact True.intro | with_reducible rfl | decide | assumption | rfl)))
        exact ⟨S9, cnt9, fin, by omega, fin3⟩
    -- closed
end Go.Proofs.Ythbpflnbgcdmiaa
