/- Contracts: the document's answer for the index: what is found. -/
import Derived.Test.YthbpflnbgcdmiaaFinP
namespace Go.Proofs.Ythbpflnbgcdmiaa
open Go Go.Proofs.Ythbpflnbgcdmiaa.Sy
set_option linter.unusedSimpArgs false
set_option linter.unusedVariables false
set_option maxRecDepth 100000
set_option maxHeartbeats 2000000


theorem Bytes.item {α : Type} {E : α → Option (Row α)} {x : α} {its : List Item} (hW : WI its) (h : E x = some (.mixed (cellsI its))) {i : Nat} {e : Item} (hi : i < its.length) (he : its[i]? = some e) : Bytes E x (i * 33 + 1) 32 e.2 := by
  obtain ⟨e', he1, he2, he3, he4, he5⟩ := cellsI_at (ι := α) hW hi
  rw [he] at he1
  cases he1
  have hcl := cellsI_len (ι := α) hW
  refine ⟨_, h, rfl, ?_, he2, fun t ht => ?_⟩
  · simp only [Row.len, hcl]; omega
  · have : (sub (cellsI its : List (AV α)) (i * 33 + 1) 32)[t]? = some (.int .u8 (e.2.getD t 0)) := by
      rw [he5, flatI_get, List.getD_eq_getElem?_getD, List.getElem?_eq_getElem (by omega)]; rfl
    simp only [Sy.sub, List.getElem?_take_of_lt ht, List.getElem?_drop] at this
    simp only [Row.cell, List.getD_eq_getElem?_getD, this]; rfl

theorem refFind_ok {α : Type} (E : α → Option (Row α)) (a : AV α) (its : List Item) (k b : List Int) (ha : ItemV E a its) (hW : WI its) (hm : its.length < 100000) (hk : k.length = 32) (hbl : b.length = 32) :
    FnOkP Try.prog n_ref21_Find E [a.map .ext, .ints .u8 k, .ints .u8 b] [] (fun res rows' => NumR 0 rows' res ((its.filter fun e => litS k e.2 == litS k b).map (·.1))) := by
  have hcl := cellsI_len (ι := Sy.Id α) hW
  have hsk : sub k 0 32 = k := sub_all hk
  have hl := litS_len k b
  have hsp : Sy.splice (List.replicate 16 (0 : Int)) 0 (litS k b) = litS k b := splice_all (by rw [hl, List.length_replicate])
  obtain ⟨n, hn⟩ : ∃ n, its.length = n := ⟨_, rfl⟩
  obtain ⟨f, x, rows, hLe, hx⟩ : ∃ (f : Bool) (x : Sy.Id α) (rows : Sy.Rows α), Le ⟨37, 0⟩ (⟨argTm 0 [a.map .ext, .ints .u8 k, .ints .u8 b], []⟩ : St α) ⟨[(0, .slice f x 0 n 33), (1, .ints .u8 k), (2, .ints .u8 b)], rows⟩ ∧ Sy.look E rows x = some (.mixed (cellsI its)) := by
    rcases ha with ⟨rfl, rfl⟩ | ⟨f, x, rfl, hx⟩
    · subst hn
      exact ⟨true, .own 0, [some (.mixed [])], Le.trans (Le.nilM 0 rfl 33) Le.sub, rfl⟩
    · subst hn
      exact ⟨f, .ext x, [], Le.sub, by simp only [Sy.look, hx, Option.map_some, Row.map, cellsI_map]⟩
  have hr3 : ∀ r1 r2 r3 : Option (Row (Sy.Id α)), (rows ++ [r1, r2, r3]).length = rows.length + 3 := fun _ _ _ => by simp
  refine FnOkP.intro func_ref21_Find call_ref21_Find (body := _) rfl nt_ref21_Find (by simp) ?_
  refine AWp.less hLe ?_
  refine AWp.reg p_ref21_Find_0 [] s_ref21_Find_0 rfl rfl fun K hK => st_of ?_
  simp only [s_ref21_Find_0, wT, Bool.not_eq_true, ty, zr, Nat.reduceAdd, Nat.reduceSub, Nat.reduceMul, Nat.reduceMod, Nat.reduceDiv, Nat.reduceEqDiff, Nat.reduceLeDiff, Nat.reduceBEq, Int.reduceAdd, Int.reduceSub, Int.reduceMul, Int.reduceNeg, Int.reduceLT, Int.reduceLE, Int.reduceEq, Int.reduceNe, Int.reduceBEq, Int.reduceToNat, Int.reduceTDiv, Int.reduceTMod, Int.reduceOfNat, reduceCtorEq, sty, sui]
  try simp (disch := first | omega | (simp only [List.length_set, List.length_replicate, List.length_append, List.length_nil]; first | done | omega)) only [aT, Int.reduceToNat, List.length_set, List.length_replicate, List.length_append, List.length_nil]
  (repeat ((with_reducible refine And.intro ?_ ?_); (first | omega | exact True.intro | with_reducible rfl | decide | assumption | rfl)))
  refine hK _ ?_; clear hK K
  refine AWp.reg p_ref21_Find_1 [] s_ref21_Find_1 rfl rfl fun K hK => st_of ?_
  simp only [s_ref21_Find_1, wT, Bool.not_eq_true, ty, zr, Nat.reduceAdd, Nat.reduceSub, Nat.reduceMul, Nat.reduceMod, Nat.reduceDiv, Nat.reduceEqDiff, Nat.reduceLeDiff, Nat.reduceBEq, Int.reduceAdd, Int.reduceSub, Int.reduceMul, Int.reduceNeg, Int.reduceLT, Int.reduceLE, Int.reduceEq, Int.reduceNe, Int.reduceBEq, Int.reduceToNat, Int.reduceTDiv, Int.reduceTMod, Int.reduceOfNat, reduceCtorEq, sty, sui]
  try simp (disch := first | omega | (simp only [List.length_set, List.length_replicate, List.length_append, List.length_nil]; first | done | omega)) only [aT, Int.reduceToNat, List.length_set, List.length_replicate, List.length_append, List.length_nil]
  (repeat ((with_reducible refine And.intro ?_ ?_); (first | omega | exact True.intro | with_reducible rfl | decide | assumption | rfl)))
  refine hK _ ?_; clear hK K
  refine AWp.drwJ mix p_ref21_Find_2 q_ref21_Find_2 g_ref21_Find_2 s_ref21_Find_2 ⟨[(0, .slice f x 0 n 33), (4, .ptr (.own rows.length) 0), (7, .nilslice), (8, .ptr (.own (rows.length + 2)) 0)], rows ++ [some (.ints .u8 k), some (.ints .u8 b), some (.ints .u8 (litS k b))]⟩ rfl (by decide +kernel) (fun K hK => sp_of ?_) ?_
  · simp only [s_ref21_Find_2, wT, Bool.not_eq_true, ty, zr, Nat.reduceAdd, Nat.reduceSub, Nat.reduceMul, Nat.reduceMod, Nat.reduceDiv, Nat.reduceEqDiff, Nat.reduceLeDiff, Nat.reduceBEq, Int.reduceAdd, Int.reduceSub, Int.reduceMul, Int.reduceNeg, Int.reduceLT, Int.reduceLE, Int.reduceEq, Int.reduceNe, Int.reduceBEq, Int.reduceToNat, Int.reduceTDiv, Int.reduceTMod, Int.reduceOfNat, reduceCtorEq, sty, sui]
    try simp (disch := first | omega | (simp only [List.length_set, List.length_replicate, List.length_append, List.length_nil]; first | done | omega)) only [aT, Int.reduceToNat, List.length_set, List.length_replicate, List.length_append, List.length_nil]
    simp only [ge0, geN, List.append_assoc, List.cons_append, List.nil_append, hk, hsk, wT, Bool.not_eq_true, ty, zr, Nat.reduceAdd, Nat.reduceSub, Nat.reduceMul, Nat.reduceMod, Nat.reduceDiv, Nat.reduceEqDiff, Nat.reduceLeDiff, Nat.reduceBEq, Int.reduceAdd, Int.reduceSub, Int.reduceMul, Int.reduceNeg, Int.reduceLT, Int.reduceLE, Int.reduceEq, Int.reduceNe, Int.reduceBEq, Int.reduceToNat, Int.reduceTDiv, Int.reduceTMod, Int.reduceOfNat, reduceCtorEq, sty, sui]
    try simp (disch := first | omega | (simp only [List.length_set, List.length_replicate, List.length_append, List.length_nil]; first | done | omega)) only [aT, Int.reduceToNat, List.length_set, List.length_replicate, List.length_append, List.length_nil]
    repeat' (with_reducible refine And.intro ?_ ?_)
    all_goals (try omega)
    all_goals
      (repeat ((with_reducible refine And.intro ?_ ?_); (first | omega | exact True.intro | with_reducible rfl | decide | assumption | rfl)))
      refine sp_call fun K1 hK1 => ?_
      simp only [calleeC, wT, Bool.not_eq_true, ty, zr, Nat.reduceAdd, Nat.reduceSub, Nat.reduceMul, Nat.reduceMod, Nat.reduceDiv, Nat.reduceEqDiff, Nat.reduceLeDiff, Nat.reduceBEq, Int.reduceAdd, Int.reduceSub, Int.reduceMul, Int.reduceNeg, Int.reduceLT, Int.reduceLE, Int.reduceEq, Int.reduceNe, Int.reduceBEq, Int.reduceToNat, Int.reduceTDiv, Int.reduceTMod, Int.reduceOfNat, reduceCtorEq, sty, sui]
      try simp (disch := first | omega | (simp only [List.length_set, List.length_replicate, List.length_append, List.length_nil]; first | done | omega)) only [aT, Int.reduceToNat, List.length_set, List.length_replicate, List.length_append, List.length_nil]
      refine hK1 _ _ ?_
      clear hK1 K1
      simp only [CallTo, AV.mapL, AV.map, mapL_flat, mapL_flat1]
      refine ⟨_, FnOk.toP (litsum_ok _ (Sy.Id.own (rows.length + 1)) k b hk 0 32 (Bytes.all (by simp only [Sy.look, List.append_assoc, List.cons_append, List.nil_append, geN]; rfl) hbl) _ (by omega)) ⟨rfl, rfl⟩, ofEq ?_⟩
      simp only [wT, Bool.not_eq_true, ty, zr, Nat.reduceAdd, Nat.reduceSub, Nat.reduceMul, Nat.reduceMod, Nat.reduceDiv, Nat.reduceEqDiff, Nat.reduceLeDiff, Nat.reduceBEq, Int.reduceAdd, Int.reduceSub, Int.reduceMul, Int.reduceNeg, Int.reduceLT, Int.reduceLE, Int.reduceEq, Int.reduceNe, Int.reduceBEq, Int.reduceToNat, Int.reduceTDiv, Int.reduceTMod, Int.reduceOfNat, reduceCtorEq, sty, sui]
      try simp (disch := first | omega | (simp only [List.length_set, List.length_replicate, List.length_append, List.length_nil]; first | done | omega)) only [aT, Int.reduceToNat, List.length_set, List.length_replicate, List.length_append, List.length_nil]
      simp only [geN, gsN, List.append_assoc, List.cons_append, List.nil_append, Nat.add_assoc, Nat.reduceAdd, hsp, hl, List.length_replicate, wT, Bool.not_eq_true, ty, zr, Nat.reduceAdd, Nat.reduceSub, Nat.reduceMul, Nat.reduceMod, Nat.reduceDiv, Nat.reduceEqDiff, Nat.reduceLeDiff, Nat.reduceBEq, Int.reduceAdd, Int.reduceSub, Int.reduceMul, Int.reduceNeg, Int.reduceLT, Int.reduceLE, Int.reduceEq, Int.reduceNe, Int.reduceBEq, Int.reduceToNat, Int.reduceTDiv, Int.reduceTMod, Int.reduceOfNat, reduceCtorEq, sty, sui]
      try simp (disch := first | omega | (simp only [List.length_set, List.length_replicate, List.length_append, List.length_nil]; first | done | omega)) only [aT, Int.reduceToNat, List.length_set, List.length_replicate, List.length_append, List.length_nil]
    all_goals exact hK _ Le.sub
  refine AWp.grp fun G24 hG24 => ?_
  refine AWp.reg p_ref21_Find_3 [] s_ref21_Find_3 rfl rfl fun K hK => st_of ?_
  simp only [s_ref21_Find_3, wT, Bool.not_eq_true, ty, zr, Nat.reduceAdd, Nat.reduceSub, Nat.reduceMul, Nat.reduceMod, Nat.reduceDiv, Nat.reduceEqDiff, Nat.reduceLeDiff, Nat.reduceBEq, Int.reduceAdd, Int.reduceSub, Int.reduceMul, Int.reduceNeg, Int.reduceLT, Int.reduceLE, Int.reduceEq, Int.reduceNe, Int.reduceBEq, Int.reduceToNat, Int.reduceTDiv, Int.reduceTMod, Int.reduceOfNat, reduceCtorEq, sty, sui]
  try simp (disch := first | omega | (simp only [List.length_set, List.length_replicate, List.length_append, List.length_nil]; first | done | omega)) only [aT, Int.reduceToNat, List.length_set, List.length_replicate, List.length_append, List.length_nil]
  (repeat ((with_reducible refine And.intro ?_ ?_); (first | omega | exact True.intro | with_reducible rfl | decide | assumption | rfl)))
  refine hK _ ?_; clear hK K
  refine AWp.ghoX (β := Nat × Sy.Rows α × Nat) (fun gx : Nat × Sy.Rows α × Nat => match gx with | ⟨i, rs, j⟩ => ⟨[(0, .slice f x 0 n 33), (4, .ptr (.own rows.length) 0), (7, .slice true (.own j) 0 (((its.take i).filter fun e => litS k e.2 == litS k b).map (·.1)).length 1), (8, .ptr (.own (rows.length + 2)) 0), (9, .int .i64 i)], rs⟩) (fun gx : Nat × Sy.Rows α × Nat => match gx with | ⟨i, rs, j⟩ => n - i) (fun gx : Nat × Sy.Rows α × Nat => match gx with | ⟨i, rs, j⟩ => i ≤ n ∧ Sy.look E rs x = some (.mixed (cellsI its)) ∧ rs[j]? = some (some (.ints .u64 (((its.take i).filter fun e => litS k e.2 == litS k b).map (·.1)))) ∧ x ≠ .own j ∧ rs[rows.length]? = some (some (.ints .u8 k)) ∧ rs[rows.length + 2]? = some (some (.ints .u8 (litS k b)))) (0, rows ++ [some (.ints .u8 k), some (.ints .u8 b), some (.ints .u8 (litS k b))] ++ [some (.ints .u64 [])], rows.length + 3) ?_ ?_ fun X0 hX0 y0 hF0 => ?_
  · refine Le.trans (Le.nil 7 rfl .u64 1) ?_
    rw [hr3]
    dsimp only
    simp only [List.take_zero, List.filter_nil, List.map_nil, List.length_nil]
    exact Le.sub
  · refine ⟨Nat.zero_le _, look_app (look_app hx _) _, by rw [List.append_assoc, geN]; rfl, fun e => ?_, by rw [List.append_assoc, ge0]; rfl, by rw [List.append_assoc, geN]; rfl⟩
    subst e; simp [Sy.look] at hx
  obtain ⟨i, rs, j⟩ := y0
  dsimp only at hF0 ⊢
  obtain ⟨hi, hlx, hj, hxj, h4, h8⟩ := hF0
  refine AWp.grp fun G40 hG40 => ?_
  refine AWp.reg p_ref21_Find_4 [] s_ref21_Find_4 rfl rfl fun K hK => st_of ?_
  simp only [s_ref21_Find_4, wT, Bool.not_eq_true, ty, zr, Nat.reduceAdd, Nat.reduceSub, Nat.reduceMul, Nat.reduceMod, Nat.reduceDiv, Nat.reduceEqDiff, Nat.reduceLeDiff, Nat.reduceBEq, Int.reduceAdd, Int.reduceSub, Int.reduceMul, Int.reduceNeg, Int.reduceLT, Int.reduceLE, Int.reduceEq, Int.reduceNe, Int.reduceBEq, Int.reduceToNat, Int.reduceTDiv, Int.reduceTMod, Int.reduceOfNat, reduceCtorEq, sty, sui]
  try simp (disch := first | omega | (simp only [List.length_set, List.length_replicate, List.length_append, List.length_nil]; first | done | omega)) only [aT, Int.reduceToNat, List.length_set, List.length_replicate, List.length_append, List.length_nil]
  (repeat ((with_reducible refine And.intro ?_ ?_); (first | omega | exact True.intro | with_reducible rfl | decide | assumption | rfl)))
  refine hK _ ?_; clear hK K
  refine AWp.testE rfl (fun hb => ?_) (fun hb => ?_)
  · try simp only [decide_eq_true_eq, decide_eq_false_iff_not, beq_iff_eq, bne_iff_ne, ne_eq, Bool.not_eq_true, beq_eq_false_iff_ne, bne_eq_false_iff_eq, Bool.not_eq_false, Bool.not_eq_eq_eq_not, Bool.not_true, Bool.not_false] at hb
    have him : i < its.length := by omega
    obtain ⟨e, he1, he2, he3, he4, he5⟩ := cellsI_at (ι := Sy.Id α) hW him
    have hl2 := litS_len k e.2
    have hs16 : sub (litS k b) 0 16 = litS k b := sub_all hl
    have htk : its.take (i + 1) = its.take i ++ [e] := by rw [List.take_add_one, he1]; rfl
    have hfll : (((its.take i).filter fun e => litS k e.2 == litS k b).map (·.1)).length ≤ i := by rw [List.length_map]; exact Nat.le_trans (List.length_filter_le _ _) (by rw [List.length_take]; omega)
    try simp only [thenQ, bq, lq, lf, iq, gq, Nat.reduceEqDiff, if_true, if_false]
    refine hG40 _ ?_
    try clear hG40 G40
    refine AWp.blk fun Y1 hY1 => ?_
    refine AWp.drwP mix p_ref21_Find_6 q_ref21_Find_6 g_ref21_Find_6 s_ref21_Find_6 rfl (by decide +kernel) fun K hK => sp_of ?_
    simp only [s_ref21_Find_6, wT, Bool.not_eq_true, ty, zr, Nat.reduceAdd, Nat.reduceSub, Nat.reduceMul, Nat.reduceMod, Nat.reduceDiv, Nat.reduceEqDiff, Nat.reduceLeDiff, Nat.reduceBEq, Int.reduceAdd, Int.reduceSub, Int.reduceMul, Int.reduceNeg, Int.reduceLT, Int.reduceLE, Int.reduceEq, Int.reduceNe, Int.reduceBEq, Int.reduceToNat, Int.reduceTDiv, Int.reduceTMod, Int.reduceOfNat, reduceCtorEq, sty, sui]
    try simp (disch := first | omega | (simp only [List.length_set, List.length_replicate, List.length_append, List.length_nil]; first | done | omega)) only [aT, Int.reduceToNat, List.length_set, List.length_replicate, List.length_append, List.length_nil]
    simp only [hlx, h4, h8, hk, hsk, hl, hs16, hcl, wT, Bool.not_eq_true, ty, zr, Nat.reduceAdd, Nat.reduceSub, Nat.reduceMul, Nat.reduceMod, Nat.reduceDiv, Nat.reduceEqDiff, Nat.reduceLeDiff, Nat.reduceBEq, Int.reduceAdd, Int.reduceSub, Int.reduceMul, Int.reduceNeg, Int.reduceLT, Int.reduceLE, Int.reduceEq, Int.reduceNe, Int.reduceBEq, Int.reduceToNat, Int.reduceTDiv, Int.reduceTMod, Int.reduceOfNat, reduceCtorEq, sty, sui]
    try simp (disch := first | omega | (simp only [List.length_set, List.length_replicate, List.length_append, List.length_nil]; first | done | omega)) only [aT, Int.reduceToNat, List.length_set, List.length_replicate, List.length_append, List.length_nil]
    repeat' (with_reducible refine And.intro ?_ ?_)
    all_goals (try omega)
    (repeat ((with_reducible refine And.intro ?_ ?_); (first | omega | exact True.intro | with_reducible rfl | decide | assumption | rfl)))
    refine sp_call fun K1 hK1 => ?_
    simp only [calleeC, wT, Bool.not_eq_true, ty, zr, Nat.reduceAdd, Nat.reduceSub, Nat.reduceMul, Nat.reduceMod, Nat.reduceDiv, Nat.reduceEqDiff, Nat.reduceLeDiff, Nat.reduceBEq, Int.reduceAdd, Int.reduceSub, Int.reduceMul, Int.reduceNeg, Int.reduceLT, Int.reduceLE, Int.reduceEq, Int.reduceNe, Int.reduceBEq, Int.reduceToNat, Int.reduceTDiv, Int.reduceTMod, Int.reduceOfNat, reduceCtorEq, sty, sui]
    try simp (disch := first | omega | (simp only [List.length_set, List.length_replicate, List.length_append, List.length_nil]; first | done | omega)) only [aT, Int.reduceToNat, List.length_set, List.length_replicate, List.length_append, List.length_nil]
    refine hK1 _ _ ?_
    clear hK1 K1
    simp only [CallTo, AV.mapL, AV.map, mapL_flat, mapL_flat1]
    refine ⟨_, FnOk.toP (litsum_ok _ x k e.2 hk (i * 33 + 1) 32 (Bytes.item hW hlx him he1) _ (by omega)) ⟨rfl, rfl⟩, ofEq ?_⟩
    simp only [wT, Bool.not_eq_true, ty, zr, Nat.reduceAdd, Nat.reduceSub, Nat.reduceMul, Nat.reduceMod, Nat.reduceDiv, Nat.reduceEqDiff, Nat.reduceLeDiff, Nat.reduceBEq, Int.reduceAdd, Int.reduceSub, Int.reduceMul, Int.reduceNeg, Int.reduceLT, Int.reduceLE, Int.reduceEq, Int.reduceNe, Int.reduceBEq, Int.reduceToNat, Int.reduceTDiv, Int.reduceTMod, Int.reduceOfNat, reduceCtorEq, sty, sui]
    try simp (disch := first | omega | (simp only [List.length_set, List.length_replicate, List.length_append, List.length_nil]; first | done | omega)) only [aT, Int.reduceToNat, List.length_set, List.length_replicate, List.length_append, List.length_nil]
    simp only [h4, h8, hl, hl2, hs16, wT, Bool.not_eq_true, ty, zr, Nat.reduceAdd, Nat.reduceSub, Nat.reduceMul, Nat.reduceMod, Nat.reduceDiv, Nat.reduceEqDiff, Nat.reduceLeDiff, Nat.reduceBEq, Int.reduceAdd, Int.reduceSub, Int.reduceMul, Int.reduceNeg, Int.reduceLT, Int.reduceLE, Int.reduceEq, Int.reduceNe, Int.reduceBEq, Int.reduceToNat, Int.reduceTDiv, Int.reduceTMod, Int.reduceOfNat, reduceCtorEq, sty, sui]
    try simp (disch := first | omega | (simp only [List.length_set, List.length_replicate, List.length_append, List.length_nil]; first | done | omega)) only [aT, Int.reduceToNat, List.length_set, List.length_replicate, List.length_append, List.length_nil]
    refine hK _ ?_; clear hK K
    refine AWp.iteE rfl (fun hb => ?_) (fun hb => ?_)
    · try simp only [decide_eq_true_eq, decide_eq_false_iff_not, beq_iff_eq, bne_iff_ne, ne_eq, Bool.not_eq_true, beq_eq_false_iff_ne, bne_eq_false_iff_eq, Bool.not_eq_false, Bool.not_eq_eq_eq_not, Bool.not_true, Bool.not_false] at hb
      have hf : ((its.take (i + 1)).filter (fun e => litS k e.2 == litS k b)).map (·.1) = ((its.take i).filter (fun e => litS k e.2 == litS k b)).map (·.1) ++ [e.1] := by rw [htk, List.filter_append]; simp [hb]
      refine AWp.regE p_ref21_Find_7 [] s_ref21_Find_7 rfl rfl (st_of ?_)
      simp only [s_ref21_Find_7, wT, Bool.not_eq_true, ty, zr, Nat.reduceAdd, Nat.reduceSub, Nat.reduceMul, Nat.reduceMod, Nat.reduceDiv, Nat.reduceEqDiff, Nat.reduceLeDiff, Nat.reduceBEq, Int.reduceAdd, Int.reduceSub, Int.reduceMul, Int.reduceNeg, Int.reduceLT, Int.reduceLE, Int.reduceEq, Int.reduceNe, Int.reduceBEq, Int.reduceToNat, Int.reduceTDiv, Int.reduceTMod, Int.reduceOfNat, reduceCtorEq, sty, sui]
      try simp (disch := first | omega | (simp only [List.length_set, List.length_replicate, List.length_append, List.length_nil]; first | done | omega)) only [aT, Int.reduceToNat, List.length_set, List.length_replicate, List.length_append, List.length_nil]
      simp only [hlx, he3, hcl, hj, gl hj, ge0, wT, Bool.not_eq_true, ty, zr, Nat.reduceAdd, Nat.reduceSub, Nat.reduceMul, Nat.reduceMod, Nat.reduceDiv, Nat.reduceEqDiff, Nat.reduceLeDiff, Nat.reduceBEq, Int.reduceAdd, Int.reduceSub, Int.reduceMul, Int.reduceNeg, Int.reduceLT, Int.reduceLE, Int.reduceEq, Int.reduceNe, Int.reduceBEq, Int.reduceToNat, Int.reduceTDiv, Int.reduceTMod, Int.reduceOfNat, reduceCtorEq, sty, sui]
      try simp (disch := first | omega | (simp only [List.length_set, List.length_replicate, List.length_append, List.length_nil]; first | done | omega)) only [aT, Int.reduceToNat, List.length_set, List.length_replicate, List.length_append, List.length_nil]
      repeat' (with_reducible refine And.intro ?_ ?_)
      all_goals (try omega)
      · rfl
      try simp only [thenQ, bq, lq, lf, iq, gq, Nat.reduceEqDiff, if_true, if_false]
      refine hY1 _ ?_
      try clear hY1 Y1
      refine AWp.regE p_ref21_Find_5 [] s_ref21_Find_5 rfl rfl (st_of ?_)
      simp only [s_ref21_Find_5, wT, Bool.not_eq_true, ty, zr, Nat.reduceAdd, Nat.reduceSub, Nat.reduceMul, Nat.reduceMod, Nat.reduceDiv, Nat.reduceEqDiff, Nat.reduceLeDiff, Nat.reduceBEq, Int.reduceAdd, Int.reduceSub, Int.reduceMul, Int.reduceNeg, Int.reduceLT, Int.reduceLE, Int.reduceEq, Int.reduceNe, Int.reduceBEq, Int.reduceToNat, Int.reduceTDiv, Int.reduceTMod, Int.reduceOfNat, reduceCtorEq, sty, sui]
      try simp (disch := first | omega | (simp only [List.length_set, List.length_replicate, List.length_append, List.length_nil]; first | done | omega)) only [aT, Int.reduceToNat, List.length_set, List.length_replicate, List.length_append, List.length_nil]
      (repeat ((with_reducible refine And.intro ?_ ?_); (first | omega | exact True.intro | with_reducible rfl | decide | assumption | rfl)))
      try simp only [thenQ, bq, lq, lf, iq, gq, Nat.reduceEqDiff, if_true, if_false]
      refine ⟨(i + 1, List.set (rs ++ [some (Row.ints IntKind.u64 [e.1])]) j none ++ [some (Row.ints .u64 (((its.take i).filter fun e => litS k e.2 == litS k b).map (·.1) ++ [e.1]))], rs.length + 1), ?_, ?_, ?_⟩
      · (try dsimp only); omega
      · dsimp only
        rw [hf]
        have hjr : rows.length ≠ j ∧ rows.length + 2 ≠ j := ⟨fun h => (by rw [← h, h4] at hj; cases hj), fun h => (by rw [← h, h8] at hj; cases hj)⟩
        refine ⟨by omega, look_app (look_set (look_app hlx _) hxj _) _, geL (by simp), fun h => ?_, gl (gn (Ne.symm hjr.1) (gl h4)), gl (gn (Ne.symm hjr.2) (gl h8))⟩
        · rw [h] at hlx
          simp only [Sy.look, List.getElem?_eq_none (show rs.length ≤ rs.length + 1 by omega)] at hlx
          cases hlx
      · try dsimp only
        rw [hf, Int.natCast_add, List.length_append]
        exact Le.sub
    · try simp only [decide_eq_true_eq, decide_eq_false_iff_not, beq_iff_eq, bne_iff_ne, ne_eq, Bool.not_eq_true, beq_eq_false_iff_ne, bne_eq_false_iff_eq, Bool.not_eq_false, Bool.not_eq_eq_eq_not, Bool.not_true, Bool.not_false] at hb
      have hf : ((its.take (i + 1)).filter (fun e => litS k e.2 == litS k b)).map (·.1) = ((its.take i).filter (fun e => litS k e.2 == litS k b)).map (·.1) := by rw [htk, List.filter_append]; simp [hb]
      refine AWp.skip ?_
      try simp only [thenQ, bq, lq, lf, iq, gq, Nat.reduceEqDiff, if_true, if_false]
      refine hY1 _ ?_
      try clear hY1 Y1
      refine AWp.regE p_ref21_Find_5 [] s_ref21_Find_5 rfl rfl (st_of ?_)
      simp only [s_ref21_Find_5, wT, Bool.not_eq_true, ty, zr, Nat.reduceAdd, Nat.reduceSub, Nat.reduceMul, Nat.reduceMod, Nat.reduceDiv, Nat.reduceEqDiff, Nat.reduceLeDiff, Nat.reduceBEq, Int.reduceAdd, Int.reduceSub, Int.reduceMul, Int.reduceNeg, Int.reduceLT, Int.reduceLE, Int.reduceEq, Int.reduceNe, Int.reduceBEq, Int.reduceToNat, Int.reduceTDiv, Int.reduceTMod, Int.reduceOfNat, reduceCtorEq, sty, sui]
      try simp (disch := first | omega | (simp only [List.length_set, List.length_replicate, List.length_append, List.length_nil]; first | done | omega)) only [aT, Int.reduceToNat, List.length_set, List.length_replicate, List.length_append, List.length_nil]
      (repeat ((with_reducible refine And.intro ?_ ?_); (first | omega | exact True.intro | with_reducible rfl | decide | assumption | rfl)))
      try simp only [thenQ, bq, lq, lf, iq, gq, Nat.reduceEqDiff, if_true, if_false]
      refine ⟨(i + 1, rs, j), ?_, ?_, ?_⟩
      · (try dsimp only); omega
      · dsimp only; rw [hf]; exact ⟨by omega, hlx, hj, hxj, h4, h8⟩
      · try dsimp only
        rw [hf, Int.natCast_add]
        exact Le.sub
  · try simp only [decide_eq_true_eq, decide_eq_false_iff_not, beq_iff_eq, bne_iff_ne, ne_eq, Bool.not_eq_true, beq_eq_false_iff_ne, bne_eq_false_iff_eq, Bool.not_eq_false, Bool.not_eq_eq_eq_not, Bool.not_true, Bool.not_false] at hb
    try simp only [thenQ, bq, lq, lf, iq, gq, Nat.reduceEqDiff, if_true, if_false]
    refine hX0 _ ?_
    try clear hX0 X0
    have him : i = n := by omega
    have hall : its.take i = its := List.take_of_length_le (by omega)
    rw [hall] at hj
    simp only [hall]
    try simp only [thenQ, bq, lq, lf, iq, gq, Nat.reduceEqDiff, if_true, if_false]
    refine hG24 _ ?_
    try clear hG24 G24
    refine AWp.reg p_ref21_Find_8 [] s_ref21_Find_8 rfl rfl fun K hK => st_of ?_
    simp only [s_ref21_Find_8, wT, Bool.not_eq_true, ty, zr, Nat.reduceAdd, Nat.reduceSub, Nat.reduceMul, Nat.reduceMod, Nat.reduceDiv, Nat.reduceEqDiff, Nat.reduceLeDiff, Nat.reduceBEq, Int.reduceAdd, Int.reduceSub, Int.reduceMul, Int.reduceNeg, Int.reduceLT, Int.reduceLE, Int.reduceEq, Int.reduceNe, Int.reduceBEq, Int.reduceToNat, Int.reduceTDiv, Int.reduceTMod, Int.reduceOfNat, reduceCtorEq, sty, sui]
    try simp (disch := first | omega | (simp only [List.length_set, List.length_replicate, List.length_append, List.length_nil]; first | done | omega)) only [aT, Int.reduceToNat, List.length_set, List.length_replicate, List.length_append, List.length_nil]
    (repeat ((with_reducible refine And.intro ?_ ?_); (first | omega | exact True.intro | with_reducible rfl | decide | assumption | rfl)))
    refine hK _ ?_; clear hK K
    refine AWp.ret ?_
    try simp only [thenQ, bq, lq, lf, iq, gq, Nat.reduceEqDiff, if_true, if_false]
    simp only [endQ, rs_ref21_Find, resC, one, wT, Bool.not_eq_true, ty, zr, Nat.reduceAdd, Nat.reduceSub, Nat.reduceMul, Nat.reduceMod, Nat.reduceDiv, Nat.reduceEqDiff, Nat.reduceLeDiff, Nat.reduceBEq, Int.reduceAdd, Int.reduceSub, Int.reduceMul, Int.reduceNeg, Int.reduceLT, Int.reduceLE, Int.reduceEq, Int.reduceNe, Int.reduceBEq, Int.reduceToNat, Int.reduceTDiv, Int.reduceTMod, Int.reduceOfNat, reduceCtorEq, sty, sui]
    try simp (disch := first | omega | (simp only [List.length_set, List.length_replicate, List.length_append, List.length_nil]; first | done | omega)) only [aT, Int.reduceToNat, List.length_set, List.length_replicate, List.length_append, List.length_nil]
    exact .inr ⟨j, Nat.zero_le _, rfl, hj⟩
end Go.Proofs.Ythbpflnbgcdmiaa
