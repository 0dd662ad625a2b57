/- Contracts: the document's answer for the index: an item put in. -/
import Derived.Test.YthbpflnbgcdmiaaFinR
namespace Go.Proofs.Ythbpflnbgcdmiaa
open Go Go.Proofs.Ythbpflnbgcdmiaa.Sy
set_option linter.unusedSimpArgs false
set_option linter.unusedVariables false
set_option maxRecDepth 100000
set_option maxHeartbeats 2000000


theorem ItemV.look {α : Type} {E : α → Option (Row α)} {v : AV α} {l : List Item} (h : ItemV E v l) (rows : Sy.Rows α) : ItemV (Sy.look E rows) (v.map .ext) l := by
  rcases h with ⟨rfl, h⟩ | ⟨f, x, rfl, hx⟩
  · exact .inl ⟨rfl, h⟩
  · exact .inr ⟨f, .ext x, rfl, by simp only [Sy.look, hx, Option.map_some, Row.map, cellsI_map]⟩
theorem ItemO.down {α : Type} {rows : Sy.Rows α} {rs : Sy.Rows (Sy.Id α)} {v : AV (Sy.Id (Sy.Id α))} {l : List Item} (h : ItemO rs v l) : ItemO (rows ++ rs.map (Option.map (Row.map (down rows.length)))) (v.map (down rows.length)) l := by
  rcases h with ⟨rfl, h⟩ | ⟨j, rfl, hj⟩
  · exact .inl ⟨rfl, h⟩
  · refine .inr ⟨rows.length + j, rfl, ?_⟩
    rw [geN, List.getElem?_map, hj]
    simp only [Option.map_some, Row.map, cellsI_map]
theorem ItemO.norm {α : Type} {n : Sz} {tm : Tm (Sy.Id α)} {rows : Sy.Rows α} {v : AV (Sy.Id α)} {l : List Item} (h : ItemO rows v l) (t : Nat) (ht : tget tm t = v) :
    ∃ (j : Nat) (junk : Sy.Rows α), Le n (⟨tm, rows⟩ : St α) ⟨(t, .slice true (.own j) 0 l.length 33) :: tm, rows ++ junk⟩ ∧ (rows ++ junk)[j]? = some (some (.mixed (cellsI l))) := by
  rcases h with ⟨h1, h2⟩ | ⟨j, h1, h2⟩
  · subst h2
    exact ⟨rows.length, [some (.mixed [])], Le.nilM t (ht.trans h1) 33, ge0 _ _⟩
  · refine ⟨j, [], ?_, by rw [List.append_nil]; exact h2⟩
    rw [List.append_nil]
    rintro c a w ⟨ro, hr⟩
    refine ⟨ro, hr.defers, hr.size, fun s => ?_, hr.sim, hr.rm, hr.pin⟩
    simp only [tget]
    by_cases hs : t = s
    · subst hs; rw [if_pos rfl, ← h1, ← ht]; exact hr.tmps t
    · rw [if_neg hs]; exact hr.tmps s
theorem gset0 {β : Type} (G p : List β) (y : β) : (G ++ p).set G.length y = G ++ p.set 0 y := by rw [List.set_append_right _ _ (Nat.le_refl _), Nat.sub_self]
theorem item_splice {ι : Type} (num : Int) {b : List Int} (hb : b.length = 32) : Sy.splice (AV.int IntKind.u64 num :: flatI IntKind.u8 (List.replicate 32 0)) 1 (flatI IntKind.u8 b) = (itC (num, b) : List (AV ι)) := by
  have h1 : (flatI .u8 b : List (AV ι)).length = 32 := by rw [flatI_len, hb]
  unfold Sy.splice
  rw [h1]
  show AV.int IntKind.u64 num :: (flatI .u8 b ++ List.drop 32 (flatI .u8 (List.replicate 32 0))) = _
  rw [List.drop_eq_nil_of_le (by rw [flatI_len]; simp), List.append_nil]; rfl
theorem cells_cut {ι : Type} {its : List Item} (hW : WI its) (k : Nat) (hk : k ≤ its.length) (m : Nat) (hm : m = its.length - k) {e : Item} : (cellsI (its.take k ++ e :: its.drop k) : List (AV ι)) = sub (cellsI its) 0 (k * 33) ++ itC e ++ sub (cellsI its) (k * 33) (m * 33) := by
  have h1 : (cellsI its : List (AV ι)) = cellsI (its.take k) ++ cellsI (its.drop k) := by rw [← cellsI_app, List.take_append_drop]
  have hl1 : (cellsI (its.take k) : List (AV ι)).length = k * 33 := by
    rw [cellsI_len fun e he => hW e (List.mem_of_mem_take he), List.length_take, Nat.min_eq_left hk]
  have hl2 : (cellsI (its.drop k) : List (AV ι)).length = m * 33 := by
    rw [cellsI_len fun e he => hW e (List.mem_of_mem_drop he), List.length_drop, hm]
  have e1 : sub (cellsI its : List (AV ι)) 0 (k * 33) = cellsI (its.take k) := by
    rw [h1]; simp only [Sy.sub, List.drop_zero]; rw [List.take_left' hl1]
  have e2 : sub (cellsI its : List (AV ι)) (k * 33) (m * 33) = cellsI (its.drop k) := by
    rw [h1]; simp only [Sy.sub]; rw [List.drop_left' hl1, List.take_of_length_le (by omega)]
  rw [e1, e2, cellsI_app, cellsI, List.append_assoc]
theorem refPut_ok {α : Type} (E : α → Option (Row α)) (a : AV α) (its its1 : List Item) (num : Int) (b : List Int) (ha : ItemV E a its) (hW : WI its) (hm : its.length < 100000) (hbl : b.length = 32) (hi1 : (its.filter fun e => e.1 != num) = its1) :
    FnOkP Try.prog n_ref21_Put E [a.map .ext, .int .u64 num, .ints .u8 b] [] (fun res rows' => ∃ k, k ≤ its1.length ∧ (∀ i e, i < k → its1[i]? = some e → e.1 < num) ∧ (∀ e, its1[k]? = some e → ¬ e.1 < num) ∧ ItemO rows' res (its1.take k ++ (num, b) :: its1.drop k)) := by
  have hW1 : WI its1 := fun e he => hW e (by rw [← hi1] at he; exact (List.mem_filter.1 he).1)
  have hm1 : its1.length < 100000 := by have := List.length_filter_le (fun e : Item => e.1 != num) its; rw [hi1] at this; omega
  have hcl := cellsI_len (ι := Sy.Id α) hW1
  have hsb : sub b 0 32 = b := sub_all hbl
  obtain ⟨n, hn⟩ : ∃ n, its1.length = n := ⟨_, rfl⟩
  refine FnOkP.intro func_ref21_Put call_ref21_Put (body := _) rfl nt_ref21_Put (by simp) ?_
  refine AWp.reg p_ref21_Put_0 [] s_ref21_Put_0 rfl rfl fun K hK => st_of ?_
  simp only [s_ref21_Put_0, wT, Bool.not_eq_true, ty, zr, Nat.reduceAdd, Nat.reduceSub, Nat.reduceMul, Nat.reduceMod, Nat.reduceDiv, Nat.reduceEqDiff, Nat.reduceLeDiff, Nat.reduceBEq, Int.reduceAdd, Int.reduceSub, Int.reduceMul, Int.reduceNeg, Int.reduceLT, Int.reduceLE, Int.reduceEq, Int.reduceNe, Int.reduceBEq, Int.reduceToNat, Int.reduceTDiv, Int.reduceTMod, Int.reduceOfNat, reduceCtorEq, sty, sui]
  try simp (disch := first | omega | (simp only [List.length_set, List.length_replicate, List.length_append, List.length_nil]; first | done | omega)) only [aT, Int.reduceToNat, List.length_set, List.length_replicate, List.length_append, List.length_nil]
  (repeat ((with_reducible refine And.intro ?_ ?_); (first | omega | exact True.intro | with_reducible rfl | decide | assumption | rfl)))
  refine hK _ ?_; clear hK K
  refine AWp.reg p_ref21_Put_1 [] s_ref21_Put_1 rfl rfl fun K hK => st_of ?_
  simp only [s_ref21_Put_1, wT, Bool.not_eq_true, ty, zr, Nat.reduceAdd, Nat.reduceSub, Nat.reduceMul, Nat.reduceMod, Nat.reduceDiv, Nat.reduceEqDiff, Nat.reduceLeDiff, Nat.reduceBEq, Int.reduceAdd, Int.reduceSub, Int.reduceMul, Int.reduceNeg, Int.reduceLT, Int.reduceLE, Int.reduceEq, Int.reduceNe, Int.reduceBEq, Int.reduceToNat, Int.reduceTDiv, Int.reduceTMod, Int.reduceOfNat, reduceCtorEq, sty, sui]
  try simp (disch := first | omega | (simp only [List.length_set, List.length_replicate, List.length_append, List.length_nil]; first | done | omega)) only [aT, Int.reduceToNat, List.length_set, List.length_replicate, List.length_append, List.length_nil]
  (repeat ((with_reducible refine And.intro ?_ ?_); (first | omega | exact True.intro | with_reducible rfl | decide | assumption | rfl)))
  refine st_call fun K1 hK1 => ?_
  simp only [calleeC, wT, Bool.not_eq_true, ty, zr, Nat.reduceAdd, Nat.reduceSub, Nat.reduceMul, Nat.reduceMod, Nat.reduceDiv, Nat.reduceEqDiff, Nat.reduceLeDiff, Nat.reduceBEq, Int.reduceAdd, Int.reduceSub, Int.reduceMul, Int.reduceNeg, Int.reduceLT, Int.reduceLE, Int.reduceEq, Int.reduceNe, Int.reduceBEq, Int.reduceToNat, Int.reduceTDiv, Int.reduceTMod, Int.reduceOfNat, reduceCtorEq, sty, sui]
  try simp (disch := first | omega | (simp only [List.length_set, List.length_replicate, List.length_append, List.length_nil]; first | done | omega)) only [aT, Int.reduceToNat, List.length_set, List.length_replicate, List.length_append, List.length_nil]
  refine hK1 _ _ ?_
  clear hK1 K1
  simp only [CallTo, AV.mapL, AV.map, mapL_flat, mapL_flat1]
  refine ⟨_, refDrop_ok (Sy.look E [some (.ints .u8 b)]) (a.map .ext) its num (ha.look _) hW hm, fun res rs ho => ?_⟩
  rw [hi1] at ho
  simp only [wT, Bool.not_eq_true, ty, zr, Nat.reduceAdd, Nat.reduceSub, Nat.reduceMul, Nat.reduceMod, Nat.reduceDiv, Nat.reduceEqDiff, Nat.reduceLeDiff, Nat.reduceBEq, Int.reduceAdd, Int.reduceSub, Int.reduceMul, Int.reduceNeg, Int.reduceLT, Int.reduceLE, Int.reduceEq, Int.reduceNe, Int.reduceBEq, Int.reduceToNat, Int.reduceTDiv, Int.reduceTMod, Int.reduceOfNat, reduceCtorEq, sty, sui]
  try simp (disch := first | omega | (simp only [List.length_set, List.length_replicate, List.length_append, List.length_nil]; first | done | omega)) only [aT, Int.reduceToNat, List.length_set, List.length_replicate, List.length_append, List.length_nil]
  (repeat ((with_reducible refine And.intro ?_ ?_); (first | omega | exact True.intro | with_reducible rfl | decide | assumption | rfl)))
  refine hK _ ?_; clear hK K
  have ho1 : ItemO (some (.ints .u8 b) :: rs.map (Option.map (Row.map (down 1)))) (res.map (down 1)) its1 := ho.down (rows := [some (.ints .u8 b)])
  refine AWp.less (Le.sub (tm' := [(0, res.map (down 1)), (1, .int .u64 num), (5, .ptr (.own 0) 0)])) ?_
  obtain ⟨j, junk, hLe, hj⟩ := ho1.norm (n := ⟨40, 0⟩) (tm := [(0, res.map (down 1)), (1, .int .u64 num), (5, .ptr (.own 0) 0)]) 0 rfl
  refine AWp.less hLe ?_
  have h0 : ((some (.ints .u8 b) :: rs.map (Option.map (Row.map (down 1)))) ++ junk)[0]? = some (some (Row.ints .u8 b)) := rfl
  generalize (some (Row.ints .u8 b) :: rs.map (Option.map (Row.map (down 1)))) ++ junk = rows at *
  rw [hn]
  clear hLe
  refine AWp.reg p_ref21_Put_2 [] s_ref21_Put_2 rfl rfl fun K hK => st_of ?_
  simp only [s_ref21_Put_2, wT, Bool.not_eq_true, ty, zr, Nat.reduceAdd, Nat.reduceSub, Nat.reduceMul, Nat.reduceMod, Nat.reduceDiv, Nat.reduceEqDiff, Nat.reduceLeDiff, Nat.reduceBEq, Int.reduceAdd, Int.reduceSub, Int.reduceMul, Int.reduceNeg, Int.reduceLT, Int.reduceLE, Int.reduceEq, Int.reduceNe, Int.reduceBEq, Int.reduceToNat, Int.reduceTDiv, Int.reduceTMod, Int.reduceOfNat, reduceCtorEq, sty, sui]
  try simp (disch := first | omega | (simp only [List.length_set, List.length_replicate, List.length_append, List.length_nil]; first | done | omega)) only [aT, Int.reduceToNat, List.length_set, List.length_replicate, List.length_append, List.length_nil]
  (repeat ((with_reducible refine And.intro ?_ ?_); (first | omega | exact True.intro | with_reducible rfl | decide | assumption | rfl)))
  refine hK _ ?_; clear hK K
  refine AWp.gho (β := Nat) (fun k : Nat => ⟨[(0, .slice true (.own j) 0 n 33), (1, .int .u64 num), (5, .ptr (.own 0) 0), (7, .int .i64 k)], rows⟩) (fun k : Nat => n - k) (fun k : Nat => k ≤ n ∧ ∀ i e, i < k → its1[i]? = some e → e.1 < num) 0 ?_ ?_ fun X0 hX0 y0 hF0 => ?_
  · exact Le.sub
  · exact ⟨Nat.zero_le _, fun i e h => absurd h (Nat.not_lt_zero _)⟩
  revert hF0; revert y0; intro k hF0
  try dsimp only at hF0 ⊢
  obtain ⟨hkn, hlt⟩ := hF0
  obtain ⟨c, hc⟩ : ∃ c : Bool, (match its1[k]? with | some e => decide (e.1 < num) | none => false) = c := ⟨_, rfl⟩
  refine AWp.grp fun G36 hG36 => ?_
  refine AWp.regJ p_ref21_Put_3 [] s_ref21_Put_3 ⟨[(0, .slice true (.own j) 0 n 33), (1, .int .u64 num), (5, .ptr (.own 0) 0), (7, .int .i64 k), (23, .bool c)], rows⟩ rfl rfl (fun K hK => st_of ?_) ?_
  · simp only [s_ref21_Put_3, wT, Bool.not_eq_true, ty, zr, Nat.reduceAdd, Nat.reduceSub, Nat.reduceMul, Nat.reduceMod, Nat.reduceDiv, Nat.reduceEqDiff, Nat.reduceLeDiff, Nat.reduceBEq, Int.reduceAdd, Int.reduceSub, Int.reduceMul, Int.reduceNeg, Int.reduceLT, Int.reduceLE, Int.reduceEq, Int.reduceNe, Int.reduceBEq, Int.reduceToNat, Int.reduceTDiv, Int.reduceTMod, Int.reduceOfNat, reduceCtorEq, sty, sui]
    try simp (disch := first | omega | (simp only [List.length_set, List.length_replicate, List.length_append, List.length_nil]; first | done | omega)) only [aT, Int.reduceToNat, List.length_set, List.length_replicate, List.length_append, List.length_nil]
    refine ⟨fun h => ?_, fun h => ?_⟩
    · have hkl : k < its1.length := by omega
      obtain ⟨e, he1, he2, he3, he4, he5⟩ := cellsI_at (ι := Sy.Id α) hW1 hkl
      rw [he1] at hc
      dsimp only at hc
      simp only [hj, he3, hcl, hc, wT, Bool.not_eq_true, ty, zr, Nat.reduceAdd, Nat.reduceSub, Nat.reduceMul, Nat.reduceMod, Nat.reduceDiv, Nat.reduceEqDiff, Nat.reduceLeDiff, Nat.reduceBEq, Int.reduceAdd, Int.reduceSub, Int.reduceMul, Int.reduceNeg, Int.reduceLT, Int.reduceLE, Int.reduceEq, Int.reduceNe, Int.reduceBEq, Int.reduceToNat, Int.reduceTDiv, Int.reduceTMod, Int.reduceOfNat, reduceCtorEq, sty, sui]
      try simp (disch := first | omega | (simp only [List.length_set, List.length_replicate, List.length_append, List.length_nil]; first | done | omega)) only [aT, Int.reduceToNat, List.length_set, List.length_replicate, List.length_append, List.length_nil]
      repeat' (with_reducible refine And.intro ?_ ?_)
      all_goals (try omega)
      exact hK _ Le.sub
    · rw [List.getElem?_eq_none (by omega)] at hc
      subst hc
      exact hK _ Le.sub
  refine AWp.testE rfl (fun hb => ?_) (fun hb => ?_)
  · try simp only [decide_eq_true_eq, decide_eq_false_iff_not, beq_iff_eq, bne_iff_ne, ne_eq, Bool.not_eq_true, beq_eq_false_iff_ne, bne_eq_false_iff_eq, Bool.not_eq_false, Bool.not_eq_eq_eq_not, Bool.not_true, Bool.not_false] at hb
    subst hb
    obtain ⟨e, he1, he2⟩ : ∃ e, its1[k]? = some e ∧ e.1 < num := by
      cases h : its1[k]? with
      | none => rw [h] at hc; cases hc
      | some e => rw [h] at hc; exact ⟨e, rfl, of_decide_eq_true hc⟩
    have hkl : k < its1.length := (List.getElem?_eq_some_iff.1 he1).1
    try simp only [thenQ, bq, lq, lf, iq, gq, Nat.reduceEqDiff, if_true, if_false]
    refine hG36 _ ?_
    try clear hG36 G36
    refine AWp.blkX fun Y1 hY1 => ?_
    refine AWp.regE p_ref21_Put_4 [] s_ref21_Put_4 rfl rfl (st_of ?_)
    simp only [s_ref21_Put_4, wT, Bool.not_eq_true, ty, zr, Nat.reduceAdd, Nat.reduceSub, Nat.reduceMul, Nat.reduceMod, Nat.reduceDiv, Nat.reduceEqDiff, Nat.reduceLeDiff, Nat.reduceBEq, Int.reduceAdd, Int.reduceSub, Int.reduceMul, Int.reduceNeg, Int.reduceLT, Int.reduceLE, Int.reduceEq, Int.reduceNe, Int.reduceBEq, Int.reduceToNat, Int.reduceTDiv, Int.reduceTMod, Int.reduceOfNat, reduceCtorEq, sty, sui]
    try simp (disch := first | omega | (simp only [List.length_set, List.length_replicate, List.length_append, List.length_nil]; first | done | omega)) only [aT, Int.reduceToNat, List.length_set, List.length_replicate, List.length_append, List.length_nil]
    (repeat ((with_reducible refine And.intro ?_ ?_); (first | omega | exact True.intro | with_reducible rfl | decide | assumption | rfl)))
    try simp only [thenQ, bq, lq, lf, iq, gq, Nat.reduceEqDiff, if_true, if_false]
    refine hY1 _ ?_
    try clear hY1 Y1
    try simp only [thenQ, bq, lq, lf, iq, gq, Nat.reduceEqDiff, if_true, if_false]
    refine ⟨k + 1, ?_, ?_, ?_⟩
    · (try dsimp only); omega
    · refine ⟨by omega, fun i e' hi he' => ?_⟩
      rcases Nat.lt_succ_iff_lt_or_eq.1 hi with h1 | rfl
      · exact hlt i e' h1 he'
      · rw [he1] at he'; cases he'; exact he2
    · try dsimp only
      rw [Int.natCast_add]
      exact Le.sub
  · try simp only [decide_eq_true_eq, decide_eq_false_iff_not, beq_iff_eq, bne_iff_ne, ne_eq, Bool.not_eq_true, beq_eq_false_iff_ne, bne_eq_false_iff_eq, Bool.not_eq_false, Bool.not_eq_eq_eq_not, Bool.not_true, Bool.not_false] at hb
    try simp only [thenQ, bq, lq, lf, iq, gq, Nat.reduceEqDiff, if_true, if_false]
    refine hX0 _ ?_
    try clear hX0 X0
    obtain ⟨z, hz, hz1, hz2⟩ := item_z
    have hfl : ([List.map ofV z.toList].flatten : List (AV (Sy.Id α))).length = 33 := by simp [hz1]
    have hbne : (num, b).2.length = 32 := hbl
    have hil := itC_len (ι := Sy.Id α) hbne
    have hit : Sy.splice (AV.int IntKind.u64 num :: flatI IntKind.u8 (List.replicate 32 0)) 1 (flatI IntKind.u8 b) = (itC (num, b) : List (AV (Sy.Id α))) := item_splice num hbl
    have hspi : Sy.splice ([List.map ofV z.toList].flatten : List (AV (Sy.Id α))) 0 (itC (num, b)) = itC (num, b) := splice_all (by rw [hil]; simp [hz1])
    have hsi : sub (itC (num, b) : List (AV (Sy.Id α))) 0 33 = itC (num, b) := sub_all hil
    have hsl : (sub (cellsI its1 : List (AV (Sy.Id α))) 0 (k * 33)).length = k * 33 := Sy.length_sub (by omega)
    have hss : sub (sub (cellsI its1 : List (AV (Sy.Id α))) 0 (k * 33)) 0 (k * 33) = sub (cellsI its1) 0 (k * 33) := sub_all hsl
    have hge : ∀ e, its1[k]? = some e → ¬ e.1 < num := fun e he => by rw [he] at hc; subst hb; exact of_decide_eq_false hc
    refine AWp.drwI mix p_ref21_Put_5 q_ref21_Put_5 g_ref21_Put_5 s_ref21_Put_5 (fun st => ∃ (rows9 : Sy.Rows α), st = ⟨[(6, .slice true (.own (rows.length + 4)) 0 (k + (1 + (n - k))) 33)], rows9⟩ ∧ (rows9[rows.length + 4]? = some (some (Row.mixed (sub (cellsI its1) 0 (k * 33) ++ itC (num, b) ++ sub (cellsI its1) (k * 33) ((n - k) * 33)))))) rfl (by decide +kernel) (fun K hK => sp_of ?_) ?_
    · simp only [s_ref21_Put_5, wT, Bool.not_eq_true, ty, zr, Nat.reduceAdd, Nat.reduceSub, Nat.reduceMul, Nat.reduceMod, Nat.reduceDiv, Nat.reduceEqDiff, Nat.reduceLeDiff, Nat.reduceBEq, Int.reduceAdd, Int.reduceSub, Int.reduceMul, Int.reduceNeg, Int.reduceLT, Int.reduceLE, Int.reduceEq, Int.reduceNe, Int.reduceBEq, Int.reduceToNat, Int.reduceTDiv, Int.reduceTMod, Int.reduceOfNat, reduceCtorEq, sty, sui]
      try simp (disch := first | omega | (simp only [List.length_set, List.length_replicate, List.length_append, List.length_nil]; first | done | omega)) only [aT, Int.reduceToNat, List.length_set, List.length_replicate, List.length_append, List.length_nil]
      simp only [hz, hz1, hz2, List.flatten_nil, ge0, gset0, List.append_assoc, List.cons_append, List.nil_append, geN, gl hj, gl h0, h0, item_b, wT, Bool.not_eq_true, ty, zr, Nat.reduceAdd, Nat.reduceSub, Nat.reduceMul, Nat.reduceMod, Nat.reduceDiv, Nat.reduceEqDiff, Nat.reduceLeDiff, Nat.reduceBEq, Int.reduceAdd, Int.reduceSub, Int.reduceMul, Int.reduceNeg, Int.reduceLT, Int.reduceLE, Int.reduceEq, Int.reduceNe, Int.reduceBEq, Int.reduceToNat, Int.reduceTDiv, Int.reduceTMod, Int.reduceOfNat, reduceCtorEq, sty, sui]
      try simp (disch := first | omega | (simp only [List.length_set, List.length_replicate, List.length_append, List.length_nil]; first | done | omega)) only [aT, Int.reduceToNat, List.length_set, List.length_replicate, List.length_append, List.length_nil]
      simp only [hcl, hbl, hsb, hfl, hit, hspi, hil, Nat.add_assoc, Nat.reduceAdd, geN, gsN, wT, Bool.not_eq_true, ty, zr, Nat.reduceAdd, Nat.reduceSub, Nat.reduceMul, Nat.reduceMod, Nat.reduceDiv, Nat.reduceEqDiff, Nat.reduceLeDiff, Nat.reduceBEq, Int.reduceAdd, Int.reduceSub, Int.reduceMul, Int.reduceNeg, Int.reduceLT, Int.reduceLE, Int.reduceEq, Int.reduceNe, Int.reduceBEq, Int.reduceToNat, Int.reduceTDiv, Int.reduceTMod, Int.reduceOfNat, reduceCtorEq, sty, sui]
      try simp (disch := first | omega | (simp only [List.length_set, List.length_replicate, List.length_append, List.length_nil]; first | done | omega)) only [aT, Int.reduceToNat, List.length_set, List.length_replicate, List.length_append, List.length_nil]
      simp only [hss, hsl, hsi, hil, ge0, gset0, gl hj, Nat.add_assoc, Nat.reduceAdd, geN, gsN, List.append_assoc, List.cons_append, List.nil_append, hcl, wT, Bool.not_eq_true, ty, zr, Nat.reduceAdd, Nat.reduceSub, Nat.reduceMul, Nat.reduceMod, Nat.reduceDiv, Nat.reduceEqDiff, Nat.reduceLeDiff, Nat.reduceBEq, Int.reduceAdd, Int.reduceSub, Int.reduceMul, Int.reduceNeg, Int.reduceLT, Int.reduceLE, Int.reduceEq, Int.reduceNe, Int.reduceBEq, Int.reduceToNat, Int.reduceTDiv, Int.reduceTMod, Int.reduceOfNat, reduceCtorEq, sty, sui]
      try simp (disch := first | omega | (simp only [List.length_set, List.length_replicate, List.length_append, List.length_nil]; first | done | omega)) only [aT, Int.reduceToNat, List.length_set, List.length_replicate, List.length_append, List.length_nil]
      try simp only [hss, hsl, hsi, hil, ge0, gset0, gl hj, Nat.add_assoc, Nat.reduceAdd, geN, gsN, List.append_assoc, List.cons_append, List.nil_append, hcl, List.length_append, wT, Bool.not_eq_true, ty, zr, Nat.reduceAdd, Nat.reduceSub, Nat.reduceMul, Nat.reduceMod, Nat.reduceDiv, Nat.reduceEqDiff, Nat.reduceLeDiff, Nat.reduceBEq, Int.reduceAdd, Int.reduceSub, Int.reduceMul, Int.reduceNeg, Int.reduceLT, Int.reduceLE, Int.reduceEq, Int.reduceNe, Int.reduceBEq, Int.reduceToNat, Int.reduceTDiv, Int.reduceTMod, Int.reduceOfNat, reduceCtorEq, sty, sui]
      repeat' (with_reducible refine And.intro ?_ ?_)
      all_goals (try rw [hil])
      all_goals (try omega)
      all_goals exact hK _ _ Le.sub ⟨_, rfl, by rw [geN]; first | rfl | (simp only [List.append_assoc]; rfl)⟩
    rintro _ ⟨rows9, rfl, hMX5⟩
    refine AWp.ret ?_
    try simp only [thenQ, bq, lq, lf, iq, gq, Nat.reduceEqDiff, if_true, if_false]
    simp only [endQ, rs_ref21_Put, resC, one, wT, Bool.not_eq_true, ty, zr, Nat.reduceAdd, Nat.reduceSub, Nat.reduceMul, Nat.reduceMod, Nat.reduceDiv, Nat.reduceEqDiff, Nat.reduceLeDiff, Nat.reduceBEq, Int.reduceAdd, Int.reduceSub, Int.reduceMul, Int.reduceNeg, Int.reduceLT, Int.reduceLE, Int.reduceEq, Int.reduceNe, Int.reduceBEq, Int.reduceToNat, Int.reduceTDiv, Int.reduceTMod, Int.reduceOfNat, reduceCtorEq, sty, sui]
    try simp (disch := first | omega | (simp only [List.length_set, List.length_replicate, List.length_append, List.length_nil]; first | done | omega)) only [aT, Int.reduceToNat, List.length_set, List.length_replicate, List.length_append, List.length_nil]
    refine ⟨k, by omega, hlt, hge, .inr ⟨rows.length + 4, ?_, ?_⟩⟩
    · rw [List.length_append, List.length_cons, List.length_take, List.length_drop, hn, Nat.min_eq_left hkn, Nat.add_comm 1 (n - k)]
    · rw [hMX5, cells_cut hW1 k (by omega) (n - k) (by omega)]
end Go.Proofs.Ythbpflnbgcdmiaa
