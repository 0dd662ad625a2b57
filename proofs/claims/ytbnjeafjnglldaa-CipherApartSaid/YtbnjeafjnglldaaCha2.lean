import Derived.Test.YtbnjeafjnglldaaCha1
import Derived.Test.YtbnjeafjnglldaaChaM2
namespace Go.Proofs.Ytbnjeafjnglldaa
open Go Go.Proofs.Ytbnjeafjnglldaa.Sy
set_option linter.unusedSimpArgs false
set_option linter.unusedVariables false
set_option maxRecDepth 100000


theorem roundsRC_ok {α : Type} (E : α → Option (Row α)) (s : List Int) (hs : s.length = 16) : FnOk Try.prog n_ref02_Rounds E [.ints .u32 s] [] (.ints .u32 (roundsL s)) [] := by
  rw [show roundsL s = refN s 20 by rw [show 20 = 2 * 10 from rfl, refN_two]; unfold roundsL; rfl]
  refine FnOk.pure func_ref02_Rounds call_ref02_Rounds (body := _) rfl nt_ref02_Rounds (by simp) (by simp [AV.solid, AV.solidL]) ?_
  refine AWp.reg p_ref02_Rounds_0 [] s_ref02_Rounds_0 rfl rfl fun K hK => st_of ?_
  simp only [s_ref02_Rounds_0, wT, Bool.not_eq_true, ty, zr, Nat.reduceAdd, Nat.reduceSub, Nat.reduceMul, Nat.reduceMod, Nat.reduceDiv, Nat.reduceEqDiff, Nat.reduceLeDiff, Nat.reduceBEq, Int.reduceAdd, Int.reduceSub, Int.reduceMul, Int.reduceNeg, Int.reduceLT, Int.reduceLE, Int.reduceEq, Int.reduceNe, Int.reduceBEq, Int.reduceToNat, Int.reduceTDiv, Int.reduceTMod, Int.reduceOfNat, reduceCtorEq, sty, sui]
  try simp (disch := first | omega | (simp only [quarterL_len, row1_len, rowN_len, dblN_len, refN_len, roundsL_len, keyN_len, stateL_len, outN_len, blockL_len, catN_len, List.length_set, List.length_replicate, List.length_append]; first | done | omega)) only [wrap_i64', wrap_u64', wrap_u32', wrap_u8', Int.tmod_eq_emod_of_nonneg, Int.tdiv_eq_ediv_of_nonneg, sub_one, sub_all, splice_all, quarterL_len, row1_len, rowN_len, dblN_len, refN_len, roundsL_len, keyN_len, stateL_len, outN_len, blockL_len, catN_len, List.length_set, List.length_replicate, List.length_append]
  (repeat ((with_reducible refine And.intro ?_ ?_); (first | omega | exact True.intro | with_reducible rfl | decide | assumption | rfl)))
  refine hK _ ?_; clear hK K
  refine AWp.grp fun G4 hG4 => ?_
  refine AWp.reg p_ref02_Rounds_1 [] s_ref02_Rounds_1 rfl rfl fun K hK => st_of ?_
  simp only [s_ref02_Rounds_1, wT, Bool.not_eq_true, ty, zr, Nat.reduceAdd, Nat.reduceSub, Nat.reduceMul, Nat.reduceMod, Nat.reduceDiv, Nat.reduceEqDiff, Nat.reduceLeDiff, Nat.reduceBEq, Int.reduceAdd, Int.reduceSub, Int.reduceMul, Int.reduceNeg, Int.reduceLT, Int.reduceLE, Int.reduceEq, Int.reduceNe, Int.reduceBEq, Int.reduceToNat, Int.reduceTDiv, Int.reduceTMod, Int.reduceOfNat, reduceCtorEq, sty, sui]
  try simp (disch := first | omega | (simp only [quarterL_len, row1_len, rowN_len, dblN_len, refN_len, roundsL_len, keyN_len, stateL_len, outN_len, blockL_len, catN_len, List.length_set, List.length_replicate, List.length_append]; first | done | omega)) only [wrap_i64', wrap_u64', wrap_u32', wrap_u8', Int.tmod_eq_emod_of_nonneg, Int.tdiv_eq_ediv_of_nonneg, sub_one, sub_all, splice_all, quarterL_len, row1_len, rowN_len, dblN_len, refN_len, roundsL_len, keyN_len, stateL_len, outN_len, blockL_len, catN_len, List.length_set, List.length_replicate, List.length_append]
  (repeat ((with_reducible refine And.intro ?_ ?_); (first | omega | exact True.intro | with_reducible rfl | decide | assumption | rfl)))
  refine hK _ ?_; clear hK K
  refine AWp.lopX (fun n => ⟨[(1, .ptr (.own 0) 0), (2, .ptr (.own 1) 0), (3, .int .i64 n)], [some (.ints .u32 (refN s n)), some (.ints .u32 (List.replicate 16 0))]⟩) (20) ?_ fun X0 hX0 n hn0 => ?_
  · simp only [refN_zero]
    exact Le.ofA
  refine AWp.grp fun G12 hG12 => ?_
  refine AWp.reg p_ref02_Rounds_2 [] s_ref02_Rounds_2 rfl rfl fun K hK => st_of ?_
  simp only [s_ref02_Rounds_2, wT, Bool.not_eq_true, ty, zr, Nat.reduceAdd, Nat.reduceSub, Nat.reduceMul, Nat.reduceMod, Nat.reduceDiv, Nat.reduceEqDiff, Nat.reduceLeDiff, Nat.reduceBEq, Int.reduceAdd, Int.reduceSub, Int.reduceMul, Int.reduceNeg, Int.reduceLT, Int.reduceLE, Int.reduceEq, Int.reduceNe, Int.reduceBEq, Int.reduceToNat, Int.reduceTDiv, Int.reduceTMod, Int.reduceOfNat, reduceCtorEq, sty, sui]
  try simp (disch := first | omega | (simp only [quarterL_len, row1_len, rowN_len, dblN_len, refN_len, roundsL_len, keyN_len, stateL_len, outN_len, blockL_len, catN_len, List.length_set, List.length_replicate, List.length_append]; first | done | omega)) only [wrap_i64', wrap_u64', wrap_u32', wrap_u8', Int.tmod_eq_emod_of_nonneg, Int.tdiv_eq_ediv_of_nonneg, sub_one, sub_all, splice_all, quarterL_len, row1_len, rowN_len, dblN_len, refN_len, roundsL_len, keyN_len, stateL_len, outN_len, blockL_len, catN_len, List.length_set, List.length_replicate, List.length_append]
  (repeat ((with_reducible refine And.intro ?_ ?_); (first | omega | exact True.intro | with_reducible rfl | decide | assumption | rfl)))
  refine hK _ ?_; clear hK K
  refine AWp.testE rfl (fun hb => ?_) (fun hb => ?_)
  · try simp only [decide_eq_true_eq, decide_eq_false_iff_not, beq_iff_eq, bne_iff_ne, ne_eq, Bool.not_eq_true, beq_eq_false_iff_ne, bne_eq_false_iff_eq, Bool.not_eq_false, Bool.not_eq_eq_eq_not, Bool.not_true, Bool.not_false] at hb
    try simp only [thenQ, bq, lq, lf, iq, gq, Nat.reduceEqDiff, if_true, if_false]
    refine hG12 _ ?_
    try clear hG12 G12
    refine AWp.blk fun Y1 hY1 => ?_
    refine AWp.reg p_ref02_Rounds_4 [] s_ref02_Rounds_4 rfl rfl fun K hK => st_of ?_
    simp only [s_ref02_Rounds_4, wT, Bool.not_eq_true, ty, zr, Nat.reduceAdd, Nat.reduceSub, Nat.reduceMul, Nat.reduceMod, Nat.reduceDiv, Nat.reduceEqDiff, Nat.reduceLeDiff, Nat.reduceBEq, Int.reduceAdd, Int.reduceSub, Int.reduceMul, Int.reduceNeg, Int.reduceLT, Int.reduceLE, Int.reduceEq, Int.reduceNe, Int.reduceBEq, Int.reduceToNat, Int.reduceTDiv, Int.reduceTMod, Int.reduceOfNat, reduceCtorEq, sty, sui]
    try simp (disch := first | omega | (simp only [quarterL_len, row1_len, rowN_len, dblN_len, refN_len, roundsL_len, keyN_len, stateL_len, outN_len, blockL_len, catN_len, List.length_set, List.length_replicate, List.length_append]; first | done | omega)) only [wrap_i64', wrap_u64', wrap_u32', wrap_u8', Int.tmod_eq_emod_of_nonneg, Int.tdiv_eq_ediv_of_nonneg, sub_one, sub_all, splice_all, quarterL_len, row1_len, rowN_len, dblN_len, refN_len, roundsL_len, keyN_len, stateL_len, outN_len, blockL_len, catN_len, List.length_set, List.length_replicate, List.length_append]
    (repeat ((with_reducible refine And.intro ?_ ?_); (first | omega | exact True.intro | with_reducible rfl | decide | assumption | rfl)))
    refine hK _ ?_; clear hK K
    refine AWp.lopX (fun i => ⟨[(1, .ptr (.own 0) 0), (2, .ptr (.own 1) 0), (3, .int .i64 n), (4, .int .i64 i)], [some (.ints .u32 (rowN (n % 2) (refN s n) i)), some (.ints .u32 (List.replicate 16 0))]⟩) (4) ?_ fun X2 hX2 i hn2 => ?_
    · simp only [rowN_zero]
      exact Le.ofA
    refine AWp.grp fun G30 hG30 => ?_
    refine AWp.reg p_ref02_Rounds_5 [] s_ref02_Rounds_5 rfl rfl fun K hK => st_of ?_
    simp only [s_ref02_Rounds_5, wT, Bool.not_eq_true, ty, zr, Nat.reduceAdd, Nat.reduceSub, Nat.reduceMul, Nat.reduceMod, Nat.reduceDiv, Nat.reduceEqDiff, Nat.reduceLeDiff, Nat.reduceBEq, Int.reduceAdd, Int.reduceSub, Int.reduceMul, Int.reduceNeg, Int.reduceLT, Int.reduceLE, Int.reduceEq, Int.reduceNe, Int.reduceBEq, Int.reduceToNat, Int.reduceTDiv, Int.reduceTMod, Int.reduceOfNat, reduceCtorEq, sty, sui]
    try simp (disch := first | omega | (simp only [quarterL_len, row1_len, rowN_len, dblN_len, refN_len, roundsL_len, keyN_len, stateL_len, outN_len, blockL_len, catN_len, List.length_set, List.length_replicate, List.length_append]; first | done | omega)) only [wrap_i64', wrap_u64', wrap_u32', wrap_u8', Int.tmod_eq_emod_of_nonneg, Int.tdiv_eq_ediv_of_nonneg, sub_one, sub_all, splice_all, quarterL_len, row1_len, rowN_len, dblN_len, refN_len, roundsL_len, keyN_len, stateL_len, outN_len, blockL_len, catN_len, List.length_set, List.length_replicate, List.length_append]
    (repeat ((with_reducible refine And.intro ?_ ?_); (first | omega | exact True.intro | with_reducible rfl | decide | assumption | rfl)))
    refine hK _ ?_; clear hK K
    refine AWp.testE rfl (fun hb => ?_) (fun hb => ?_)
    · try simp only [decide_eq_true_eq, decide_eq_false_iff_not, beq_iff_eq, bne_iff_ne, ne_eq, Bool.not_eq_true, beq_eq_false_iff_ne, bne_eq_false_iff_eq, Bool.not_eq_false, Bool.not_eq_eq_eq_not, Bool.not_true, Bool.not_false] at hb
      try simp only [thenQ, bq, lq, lf, iq, gq, Nat.reduceEqDiff, if_true, if_false]
      refine hG30 _ ?_
      try clear hG30 G30
      refine AWp.blk fun Y3 hY3 => ?_
      refine AWp.reg p_ref02_Rounds_7 [] s_ref02_Rounds_7 rfl rfl fun K hK => st_of ?_
      simp only [s_ref02_Rounds_7, wT, Bool.not_eq_true, ty, zr, Nat.reduceAdd, Nat.reduceSub, Nat.reduceMul, Nat.reduceMod, Nat.reduceDiv, Nat.reduceEqDiff, Nat.reduceLeDiff, Nat.reduceBEq, Int.reduceAdd, Int.reduceSub, Int.reduceMul, Int.reduceNeg, Int.reduceLT, Int.reduceLE, Int.reduceEq, Int.reduceNe, Int.reduceBEq, Int.reduceToNat, Int.reduceTDiv, Int.reduceTMod, Int.reduceOfNat, reduceCtorEq, sty, sui]
      try simp (disch := first | omega | (simp only [quarterL_len, row1_len, rowN_len, dblN_len, refN_len, roundsL_len, keyN_len, stateL_len, outN_len, blockL_len, catN_len, List.length_set, List.length_replicate, List.length_append]; first | done | omega)) only [wrap_i64', wrap_u64', wrap_u32', wrap_u8', Int.tmod_eq_emod_of_nonneg, Int.tdiv_eq_ediv_of_nonneg, sub_one, sub_all, splice_all, quarterL_len, row1_len, rowN_len, dblN_len, refN_len, roundsL_len, keyN_len, stateL_len, outN_len, blockL_len, catN_len, List.length_set, List.length_replicate, List.length_append]
      (repeat ((with_reducible refine And.intro ?_ ?_); (first | omega | exact True.intro | with_reducible rfl | decide | assumption | rfl)))
      refine hK _ ?_; clear hK K
      refine AWp.reg p_ref02_Rounds_8 [] s_ref02_Rounds_8 rfl rfl fun K hK => st_of ?_
      simp only [s_ref02_Rounds_8, wT, Bool.not_eq_true, ty, zr, Nat.reduceAdd, Nat.reduceSub, Nat.reduceMul, Nat.reduceMod, Nat.reduceDiv, Nat.reduceEqDiff, Nat.reduceLeDiff, Nat.reduceBEq, Int.reduceAdd, Int.reduceSub, Int.reduceMul, Int.reduceNeg, Int.reduceLT, Int.reduceLE, Int.reduceEq, Int.reduceNe, Int.reduceBEq, Int.reduceToNat, Int.reduceTDiv, Int.reduceTMod, Int.reduceOfNat, reduceCtorEq, sty, sui]
      try simp (disch := first | omega | (simp only [quarterL_len, row1_len, rowN_len, dblN_len, refN_len, roundsL_len, keyN_len, stateL_len, outN_len, blockL_len, catN_len, List.length_set, List.length_replicate, List.length_append]; first | done | omega)) only [wrap_i64', wrap_u64', wrap_u32', wrap_u8', Int.tmod_eq_emod_of_nonneg, Int.tdiv_eq_ediv_of_nonneg, sub_one, sub_all, splice_all, quarterL_len, row1_len, rowN_len, dblN_len, refN_len, roundsL_len, keyN_len, stateL_len, outN_len, blockL_len, catN_len, List.length_set, List.length_replicate, List.length_append]
      (repeat ((with_reducible refine And.intro ?_ ?_); (first | omega | exact True.intro | with_reducible rfl | decide | assumption | rfl)))
      refine hK _ ?_; clear hK K
      refine AWp.drwPE mix p_ref02_Rounds_9 q_ref02_Rounds_9 g_ref02_Rounds_9 s_ref02_Rounds_9 rfl (by decide +kernel) (sp_of ?_)
      simp only [s_ref02_Rounds_9, wT, Bool.not_eq_true, ty, zr, Nat.reduceAdd, Nat.reduceSub, Nat.reduceMul, Nat.reduceMod, Nat.reduceDiv, Nat.reduceEqDiff, Nat.reduceLeDiff, Nat.reduceBEq, Int.reduceAdd, Int.reduceSub, Int.reduceMul, Int.reduceNeg, Int.reduceLT, Int.reduceLE, Int.reduceEq, Int.reduceNe, Int.reduceBEq, Int.reduceToNat, Int.reduceTDiv, Int.reduceTMod, Int.reduceOfNat, reduceCtorEq, sty, sui]
      try simp (disch := first | omega | (simp only [quarterL_len, row1_len, rowN_len, dblN_len, refN_len, roundsL_len, keyN_len, stateL_len, outN_len, blockL_len, catN_len, List.length_set, List.length_replicate, List.length_append]; first | done | omega)) only [wrap_i64', wrap_u64', wrap_u32', wrap_u8', Int.tmod_eq_emod_of_nonneg, Int.tdiv_eq_ediv_of_nonneg, sub_one, sub_all, splice_all, quarterL_len, row1_len, rowN_len, dblN_len, refN_len, roundsL_len, keyN_len, stateL_len, outN_len, blockL_len, catN_len, List.length_set, List.length_replicate, List.length_append]
      (repeat ((with_reducible refine And.intro ?_ ?_); (first | omega | exact True.intro | with_reducible rfl | decide | assumption | rfl)))
      refine sp_call fun K1 hK1 => ?_
      simp only [calleeC, wT, Bool.not_eq_true, ty, zr, Nat.reduceAdd, Nat.reduceSub, Nat.reduceMul, Nat.reduceMod, Nat.reduceDiv, Nat.reduceEqDiff, Nat.reduceLeDiff, Nat.reduceBEq, Int.reduceAdd, Int.reduceSub, Int.reduceMul, Int.reduceNeg, Int.reduceLT, Int.reduceLE, Int.reduceEq, Int.reduceNe, Int.reduceBEq, Int.reduceToNat, Int.reduceTDiv, Int.reduceTMod, Int.reduceOfNat, reduceCtorEq, sty, sui]
      try simp (disch := first | omega | (simp only [quarterL_len, row1_len, rowN_len, dblN_len, refN_len, roundsL_len, keyN_len, stateL_len, outN_len, blockL_len, catN_len, List.length_set, List.length_replicate, List.length_append]; first | done | omega)) only [wrap_i64', wrap_u64', wrap_u32', wrap_u8', Int.tmod_eq_emod_of_nonneg, Int.tdiv_eq_ediv_of_nonneg, sub_one, sub_all, splice_all, quarterL_len, row1_len, rowN_len, dblN_len, refN_len, roundsL_len, keyN_len, stateL_len, outN_len, blockL_len, catN_len, List.length_set, List.length_replicate, List.length_append]
      refine hK1 _ _ ?_
      clear hK1 K1
      simp only [CallTo, AV.mapL, AV.map, mapL_flat, mapL_flat1]
      refine ⟨_, _, quarterR_ok _ _ _ _ _, ?_⟩
      simp only [quarterT, wT, Bool.not_eq_true, ty, zr, Nat.reduceAdd, Nat.reduceSub, Nat.reduceMul, Nat.reduceMod, Nat.reduceDiv, Nat.reduceEqDiff, Nat.reduceLeDiff, Nat.reduceBEq, Int.reduceAdd, Int.reduceSub, Int.reduceMul, Int.reduceNeg, Int.reduceLT, Int.reduceLE, Int.reduceEq, Int.reduceNe, Int.reduceBEq, Int.reduceToNat, Int.reduceTDiv, Int.reduceTMod, Int.reduceOfNat, reduceCtorEq, sty, sui]
      try simp (disch := first | omega | (simp only [quarterL_len, row1_len, rowN_len, dblN_len, refN_len, roundsL_len, keyN_len, stateL_len, outN_len, blockL_len, catN_len, List.length_set, List.length_replicate, List.length_append]; first | done | omega)) only [wrap_i64', wrap_u64', wrap_u32', wrap_u8', Int.tmod_eq_emod_of_nonneg, Int.tdiv_eq_ediv_of_nonneg, sub_one, sub_all, splice_all, quarterL_len, row1_len, rowN_len, dblN_len, refN_len, roundsL_len, keyN_len, stateL_len, outN_len, blockL_len, catN_len, List.length_set, List.length_replicate, List.length_append]
      (repeat ((with_reducible refine And.intro ?_ ?_); (first | omega | exact True.intro | with_reducible rfl | decide | assumption | rfl)))
      try simp only [thenQ, bq, lq, lf, iq, gq, Nat.reduceEqDiff, if_true, if_false]
      refine hY3 _ ?_
      try clear hY3 Y3
      refine AWp.regE p_ref02_Rounds_6 [] s_ref02_Rounds_6 rfl rfl (st_of ?_)
      simp only [s_ref02_Rounds_6, wT, Bool.not_eq_true, ty, zr, Nat.reduceAdd, Nat.reduceSub, Nat.reduceMul, Nat.reduceMod, Nat.reduceDiv, Nat.reduceEqDiff, Nat.reduceLeDiff, Nat.reduceBEq, Int.reduceAdd, Int.reduceSub, Int.reduceMul, Int.reduceNeg, Int.reduceLT, Int.reduceLE, Int.reduceEq, Int.reduceNe, Int.reduceBEq, Int.reduceToNat, Int.reduceTDiv, Int.reduceTMod, Int.reduceOfNat, reduceCtorEq, sty, sui]
      try simp (disch := first | omega | (simp only [quarterL_len, row1_len, rowN_len, dblN_len, refN_len, roundsL_len, keyN_len, stateL_len, outN_len, blockL_len, catN_len, List.length_set, List.length_replicate, List.length_append]; first | done | omega)) only [wrap_i64', wrap_u64', wrap_u32', wrap_u8', Int.tmod_eq_emod_of_nonneg, Int.tdiv_eq_ediv_of_nonneg, sub_one, sub_all, splice_all, quarterL_len, row1_len, rowN_len, dblN_len, refN_len, roundsL_len, keyN_len, stateL_len, outN_len, blockL_len, catN_len, List.length_set, List.length_replicate, List.length_append]
      (repeat ((with_reducible refine And.intro ?_ ?_); (first | omega | exact True.intro | with_reducible rfl | decide | assumption | rfl)))
      try simp only [thenQ, bq, lq, lf, iq, gq, Nat.reduceEqDiff, if_true, if_false]
      simp only [rowN_succ, row1, quarterL_def]
      first | exact ⟨by omega, Le.ofA⟩ | exact Le.ofA
    · try simp only [decide_eq_true_eq, decide_eq_false_iff_not, beq_iff_eq, bne_iff_ne, ne_eq, Bool.not_eq_true, beq_eq_false_iff_ne, bne_eq_false_iff_eq, Bool.not_eq_false, Bool.not_eq_eq_eq_not, Bool.not_true, Bool.not_false] at hb
      try simp only [thenQ, bq, lq, lf, iq, gq, Nat.reduceEqDiff, if_true, if_false]
      refine hX2 _ ?_
      try clear hX2 X2
      obtain rfl : i = 4 := by omega
      try simp only [thenQ, bq, lq, lf, iq, gq, Nat.reduceEqDiff, if_true, if_false]
      refine hY1 _ ?_
      try clear hY1 Y1
      refine AWp.regE p_ref02_Rounds_3 [] s_ref02_Rounds_3 rfl rfl (st_of ?_)
      simp only [s_ref02_Rounds_3, wT, Bool.not_eq_true, ty, zr, Nat.reduceAdd, Nat.reduceSub, Nat.reduceMul, Nat.reduceMod, Nat.reduceDiv, Nat.reduceEqDiff, Nat.reduceLeDiff, Nat.reduceBEq, Int.reduceAdd, Int.reduceSub, Int.reduceMul, Int.reduceNeg, Int.reduceLT, Int.reduceLE, Int.reduceEq, Int.reduceNe, Int.reduceBEq, Int.reduceToNat, Int.reduceTDiv, Int.reduceTMod, Int.reduceOfNat, reduceCtorEq, sty, sui]
      try simp (disch := first | omega | (simp only [quarterL_len, row1_len, rowN_len, dblN_len, refN_len, roundsL_len, keyN_len, stateL_len, outN_len, blockL_len, catN_len, List.length_set, List.length_replicate, List.length_append]; first | done | omega)) only [wrap_i64', wrap_u64', wrap_u32', wrap_u8', Int.tmod_eq_emod_of_nonneg, Int.tdiv_eq_ediv_of_nonneg, sub_one, sub_all, splice_all, quarterL_len, row1_len, rowN_len, dblN_len, refN_len, roundsL_len, keyN_len, stateL_len, outN_len, blockL_len, catN_len, List.length_set, List.length_replicate, List.length_append]
      (repeat ((with_reducible refine And.intro ?_ ?_); (first | omega | exact True.intro | with_reducible rfl | decide | assumption | rfl)))
      try simp only [thenQ, bq, lq, lf, iq, gq, Nat.reduceEqDiff, if_true, if_false]
      simp only [refN_succ]
      first | exact ⟨by omega, Le.ofA⟩ | exact Le.ofA
  · try simp only [decide_eq_true_eq, decide_eq_false_iff_not, beq_iff_eq, bne_iff_ne, ne_eq, Bool.not_eq_true, beq_eq_false_iff_ne, bne_eq_false_iff_eq, Bool.not_eq_false, Bool.not_eq_eq_eq_not, Bool.not_true, Bool.not_false] at hb
    try simp only [thenQ, bq, lq, lf, iq, gq, Nat.reduceEqDiff, if_true, if_false]
    refine hX0 _ ?_
    try clear hX0 X0
    obtain rfl : n = 20 := by omega
    try simp only [thenQ, bq, lq, lf, iq, gq, Nat.reduceEqDiff, if_true, if_false]
    refine hG4 _ ?_
    try clear hG4 G4
    refine AWp.reg p_ref02_Rounds_10 [] s_ref02_Rounds_10 rfl rfl fun K hK => st_of ?_
    simp only [s_ref02_Rounds_10, wT, Bool.not_eq_true, ty, zr, Nat.reduceAdd, Nat.reduceSub, Nat.reduceMul, Nat.reduceMod, Nat.reduceDiv, Nat.reduceEqDiff, Nat.reduceLeDiff, Nat.reduceBEq, Int.reduceAdd, Int.reduceSub, Int.reduceMul, Int.reduceNeg, Int.reduceLT, Int.reduceLE, Int.reduceEq, Int.reduceNe, Int.reduceBEq, Int.reduceToNat, Int.reduceTDiv, Int.reduceTMod, Int.reduceOfNat, reduceCtorEq, sty, sui]
    try simp (disch := first | omega | (simp only [quarterL_len, row1_len, rowN_len, dblN_len, refN_len, roundsL_len, keyN_len, stateL_len, outN_len, blockL_len, catN_len, List.length_set, List.length_replicate, List.length_append]; first | done | omega)) only [wrap_i64', wrap_u64', wrap_u32', wrap_u8', Int.tmod_eq_emod_of_nonneg, Int.tdiv_eq_ediv_of_nonneg, sub_one, sub_all, splice_all, quarterL_len, row1_len, rowN_len, dblN_len, refN_len, roundsL_len, keyN_len, stateL_len, outN_len, blockL_len, catN_len, List.length_set, List.length_replicate, List.length_append]
    (repeat ((with_reducible refine And.intro ?_ ?_); (first | omega | exact True.intro | with_reducible rfl | decide | assumption | rfl)))
    refine hK _ ?_; clear hK K
    refine AWp.ret ?_
    try simp only [thenQ, bq, lq, lf, iq, gq, Nat.reduceEqDiff, if_true, if_false]
    simp only [endQ, rs_ref02_Rounds, resC, one, wT, Bool.not_eq_true, ty, zr, Nat.reduceAdd, Nat.reduceSub, Nat.reduceMul, Nat.reduceMod, Nat.reduceDiv, Nat.reduceEqDiff, Nat.reduceLeDiff, Nat.reduceBEq, Int.reduceAdd, Int.reduceSub, Int.reduceMul, Int.reduceNeg, Int.reduceLT, Int.reduceLE, Int.reduceEq, Int.reduceNe, Int.reduceBEq, Int.reduceToNat, Int.reduceTDiv, Int.reduceTMod, Int.reduceOfNat, reduceCtorEq, sty, sui]
    try simp (disch := first | omega | (simp only [quarterL_len, row1_len, rowN_len, dblN_len, refN_len, roundsL_len, keyN_len, stateL_len, outN_len, blockL_len, catN_len, List.length_set, List.length_replicate, List.length_append]; first | done | omega)) only [wrap_i64', wrap_u64', wrap_u32', wrap_u8', Int.tmod_eq_emod_of_nonneg, Int.tdiv_eq_ediv_of_nonneg, sub_one, sub_all, splice_all, quarterL_len, row1_len, rowN_len, dblN_len, refN_len, roundsL_len, keyN_len, stateL_len, outN_len, blockL_len, catN_len, List.length_set, List.length_replicate, List.length_append]
    repeat' (first | exact True.intro | (with_reducible rfl) | (with_reducible apply And.intro) | omega | rfl)

theorem stateI_ok {α : Type} (E : α → Option (Row α)) (k : List Int) (hk : k.length = 32) (c n : Int) : FnOk Try.prog n_chacha_state E [.ints .u8 k, .int .u32 c, .int .u64 n] [] (.ints .u32 (stateL k c n)) [] := by
  unfold stateL
  refine FnOk.pure func_chacha_state call_chacha_state (body := _) rfl nt_chacha_state (by simp) (by simp [AV.solid, AV.solidL]) ?_
  refine AWp.reg p_chacha_state_0 [] s_chacha_state_0 rfl rfl fun K hK => st_of ?_
  simp only [s_chacha_state_0, wT, Bool.not_eq_true, ty, zr, Nat.reduceAdd, Nat.reduceSub, Nat.reduceMul, Nat.reduceMod, Nat.reduceDiv, Nat.reduceEqDiff, Nat.reduceLeDiff, Nat.reduceBEq, Int.reduceAdd, Int.reduceSub, Int.reduceMul, Int.reduceNeg, Int.reduceLT, Int.reduceLE, Int.reduceEq, Int.reduceNe, Int.reduceBEq, Int.reduceToNat, Int.reduceTDiv, Int.reduceTMod, Int.reduceOfNat, reduceCtorEq, sty, sui]
  try simp (disch := first | omega | (simp only [quarterL_len, row1_len, rowN_len, dblN_len, refN_len, roundsL_len, keyN_len, stateL_len, outN_len, blockL_len, catN_len, List.length_set, List.length_replicate, List.length_append]; first | done | omega)) only [wrap_i64', wrap_u64', wrap_u32', wrap_u8', Int.tmod_eq_emod_of_nonneg, Int.tdiv_eq_ediv_of_nonneg, sub_one, sub_all, splice_all, quarterL_len, row1_len, rowN_len, dblN_len, refN_len, roundsL_len, keyN_len, stateL_len, outN_len, blockL_len, catN_len, List.length_set, List.length_replicate, List.length_append]
  (repeat ((with_reducible refine And.intro ?_ ?_); (first | omega | exact True.intro | with_reducible rfl | decide | assumption | rfl)))
  refine hK _ ?_; clear hK K
  refine AWp.reg p_chacha_state_1 [] s_chacha_state_1 rfl rfl fun K hK => st_of ?_
  simp only [s_chacha_state_1, wT, Bool.not_eq_true, ty, zr, Nat.reduceAdd, Nat.reduceSub, Nat.reduceMul, Nat.reduceMod, Nat.reduceDiv, Nat.reduceEqDiff, Nat.reduceLeDiff, Nat.reduceBEq, Int.reduceAdd, Int.reduceSub, Int.reduceMul, Int.reduceNeg, Int.reduceLT, Int.reduceLE, Int.reduceEq, Int.reduceNe, Int.reduceBEq, Int.reduceToNat, Int.reduceTDiv, Int.reduceTMod, Int.reduceOfNat, reduceCtorEq, sty, sui]
  try simp (disch := first | omega | (simp only [quarterL_len, row1_len, rowN_len, dblN_len, refN_len, roundsL_len, keyN_len, stateL_len, outN_len, blockL_len, catN_len, List.length_set, List.length_replicate, List.length_append]; first | done | omega)) only [wrap_i64', wrap_u64', wrap_u32', wrap_u8', Int.tmod_eq_emod_of_nonneg, Int.tdiv_eq_ediv_of_nonneg, sub_one, sub_all, splice_all, quarterL_len, row1_len, rowN_len, dblN_len, refN_len, roundsL_len, keyN_len, stateL_len, outN_len, blockL_len, catN_len, List.length_set, List.length_replicate, List.length_append]
  (repeat ((with_reducible refine And.intro ?_ ?_); (first | omega | exact True.intro | with_reducible rfl | decide | assumption | rfl)))
  refine hK _ ?_; clear hK K
  refine AWp.grp fun G8 hG8 => ?_
  refine AWp.reg p_chacha_state_2 [] s_chacha_state_2 rfl rfl fun K hK => st_of ?_
  simp only [s_chacha_state_2, wT, Bool.not_eq_true, ty, zr, Nat.reduceAdd, Nat.reduceSub, Nat.reduceMul, Nat.reduceMod, Nat.reduceDiv, Nat.reduceEqDiff, Nat.reduceLeDiff, Nat.reduceBEq, Int.reduceAdd, Int.reduceSub, Int.reduceMul, Int.reduceNeg, Int.reduceLT, Int.reduceLE, Int.reduceEq, Int.reduceNe, Int.reduceBEq, Int.reduceToNat, Int.reduceTDiv, Int.reduceTMod, Int.reduceOfNat, reduceCtorEq, sty, sui]
  try simp (disch := first | omega | (simp only [quarterL_len, row1_len, rowN_len, dblN_len, refN_len, roundsL_len, keyN_len, stateL_len, outN_len, blockL_len, catN_len, List.length_set, List.length_replicate, List.length_append]; first | done | omega)) only [wrap_i64', wrap_u64', wrap_u32', wrap_u8', Int.tmod_eq_emod_of_nonneg, Int.tdiv_eq_ediv_of_nonneg, sub_one, sub_all, splice_all, quarterL_len, row1_len, rowN_len, dblN_len, refN_len, roundsL_len, keyN_len, stateL_len, outN_len, blockL_len, catN_len, List.length_set, List.length_replicate, List.length_append]
  (repeat ((with_reducible refine And.intro ?_ ?_); (first | omega | exact True.intro | with_reducible rfl | decide | assumption | rfl)))
  refine hK _ ?_; clear hK K
  refine AWp.lopX (fun i => ⟨[(3, .ptr (.own 0) 0), (6, .ptr (.own 1) 0), (7, .ptr (.own 2) 0), (1, .int .u32 c), (2, .int .u64 n), (11, .ints .u8 k), (12, .int .i64 i)], [some (.ints .u8 k), some (.ints .u32 (List.replicate 16 0)), some (.ints .u32 (keyN k i))]⟩) (32) ?_ fun X0 hX0 i hn0 => ?_
  · simp only [keyN_zero, s0L]
    exact Le.ofA
  refine AWp.reg p_chacha_state_3 [] s_chacha_state_3 rfl rfl fun K hK => st_of ?_
  simp only [s_chacha_state_3, wT, Bool.not_eq_true, ty, zr, Nat.reduceAdd, Nat.reduceSub, Nat.reduceMul, Nat.reduceMod, Nat.reduceDiv, Nat.reduceEqDiff, Nat.reduceLeDiff, Nat.reduceBEq, Int.reduceAdd, Int.reduceSub, Int.reduceMul, Int.reduceNeg, Int.reduceLT, Int.reduceLE, Int.reduceEq, Int.reduceNe, Int.reduceBEq, Int.reduceToNat, Int.reduceTDiv, Int.reduceTMod, Int.reduceOfNat, reduceCtorEq, sty, sui]
  try simp (disch := first | omega | (simp only [quarterL_len, row1_len, rowN_len, dblN_len, refN_len, roundsL_len, keyN_len, stateL_len, outN_len, blockL_len, catN_len, List.length_set, List.length_replicate, List.length_append]; first | done | omega)) only [wrap_i64', wrap_u64', wrap_u32', wrap_u8', Int.tmod_eq_emod_of_nonneg, Int.tdiv_eq_ediv_of_nonneg, sub_one, sub_all, splice_all, quarterL_len, row1_len, rowN_len, dblN_len, refN_len, roundsL_len, keyN_len, stateL_len, outN_len, blockL_len, catN_len, List.length_set, List.length_replicate, List.length_append]
  (repeat ((with_reducible refine And.intro ?_ ?_); (first | omega | exact True.intro | with_reducible rfl | decide | assumption | rfl)))
  refine hK _ ?_; clear hK K
  refine AWp.test rfl (fun hb => ?_) (fun hb => ?_)
  · try simp only [decide_eq_true_eq, decide_eq_false_iff_not, beq_iff_eq, bne_iff_ne, ne_eq, Bool.not_eq_true, beq_eq_false_iff_ne, bne_eq_false_iff_eq, Bool.not_eq_false, Bool.not_eq_eq_eq_not, Bool.not_true, Bool.not_false] at hb
    refine AWp.blk fun Y1 hY1 => ?_
    refine AWp.reg p_chacha_state_4 [] s_chacha_state_4 rfl rfl fun K hK => st_of ?_
    simp only [s_chacha_state_4, wT, Bool.not_eq_true, ty, zr, Nat.reduceAdd, Nat.reduceSub, Nat.reduceMul, Nat.reduceMod, Nat.reduceDiv, Nat.reduceEqDiff, Nat.reduceLeDiff, Nat.reduceBEq, Int.reduceAdd, Int.reduceSub, Int.reduceMul, Int.reduceNeg, Int.reduceLT, Int.reduceLE, Int.reduceEq, Int.reduceNe, Int.reduceBEq, Int.reduceToNat, Int.reduceTDiv, Int.reduceTMod, Int.reduceOfNat, reduceCtorEq, sty, sui]
    try simp (disch := first | omega | (simp only [quarterL_len, row1_len, rowN_len, dblN_len, refN_len, roundsL_len, keyN_len, stateL_len, outN_len, blockL_len, catN_len, List.length_set, List.length_replicate, List.length_append]; first | done | omega)) only [wrap_i64', wrap_u64', wrap_u32', wrap_u8', Int.tmod_eq_emod_of_nonneg, Int.tdiv_eq_ediv_of_nonneg, sub_one, sub_all, splice_all, quarterL_len, row1_len, rowN_len, dblN_len, refN_len, roundsL_len, keyN_len, stateL_len, outN_len, blockL_len, catN_len, List.length_set, List.length_replicate, List.length_append]
    (repeat ((with_reducible refine And.intro ?_ ?_); (first | omega | exact True.intro | with_reducible rfl | decide | assumption | rfl)))
    refine hK _ ?_; clear hK K
    refine AWp.drwPE mix p_chacha_state_5 q_chacha_state_5 g_chacha_state_5 s_chacha_state_5 rfl (by decide +kernel) (sp_of ?_)
    simp only [s_chacha_state_5, wT, Bool.not_eq_true, ty, zr, Nat.reduceAdd, Nat.reduceSub, Nat.reduceMul, Nat.reduceMod, Nat.reduceDiv, Nat.reduceEqDiff, Nat.reduceLeDiff, Nat.reduceBEq, Int.reduceAdd, Int.reduceSub, Int.reduceMul, Int.reduceNeg, Int.reduceLT, Int.reduceLE, Int.reduceEq, Int.reduceNe, Int.reduceBEq, Int.reduceToNat, Int.reduceTDiv, Int.reduceTMod, Int.reduceOfNat, reduceCtorEq, sty, sui]
    try simp (disch := first | omega | (simp only [quarterL_len, row1_len, rowN_len, dblN_len, refN_len, roundsL_len, keyN_len, stateL_len, outN_len, blockL_len, catN_len, List.length_set, List.length_replicate, List.length_append]; first | done | omega)) only [wrap_i64', wrap_u64', wrap_u32', wrap_u8', Int.tmod_eq_emod_of_nonneg, Int.tdiv_eq_ediv_of_nonneg, sub_one, sub_all, splice_all, quarterL_len, row1_len, rowN_len, dblN_len, refN_len, roundsL_len, keyN_len, stateL_len, outN_len, blockL_len, catN_len, List.length_set, List.length_replicate, List.length_append]
    (repeat ((with_reducible refine And.intro ?_ ?_); (first | omega | exact True.intro | with_reducible rfl | decide | assumption | rfl)))
    try simp only [thenQ, bq, lq, lf, iq, gq, Nat.reduceEqDiff, if_true, if_false]
    refine hY1 _ ?_
    try clear hY1 Y1
    refine AWp.regE p_chacha_state_6 [] s_chacha_state_6 rfl rfl (st_of ?_)
    simp only [s_chacha_state_6, wT, Bool.not_eq_true, ty, zr, Nat.reduceAdd, Nat.reduceSub, Nat.reduceMul, Nat.reduceMod, Nat.reduceDiv, Nat.reduceEqDiff, Nat.reduceLeDiff, Nat.reduceBEq, Int.reduceAdd, Int.reduceSub, Int.reduceMul, Int.reduceNeg, Int.reduceLT, Int.reduceLE, Int.reduceEq, Int.reduceNe, Int.reduceBEq, Int.reduceToNat, Int.reduceTDiv, Int.reduceTMod, Int.reduceOfNat, reduceCtorEq, sty, sui]
    try simp (disch := first | omega | (simp only [quarterL_len, row1_len, rowN_len, dblN_len, refN_len, roundsL_len, keyN_len, stateL_len, outN_len, blockL_len, catN_len, List.length_set, List.length_replicate, List.length_append]; first | done | omega)) only [wrap_i64', wrap_u64', wrap_u32', wrap_u8', Int.tmod_eq_emod_of_nonneg, Int.tdiv_eq_ediv_of_nonneg, sub_one, sub_all, splice_all, quarterL_len, row1_len, rowN_len, dblN_len, refN_len, roundsL_len, keyN_len, stateL_len, outN_len, blockL_len, catN_len, List.length_set, List.length_replicate, List.length_append]
    (repeat ((with_reducible refine And.intro ?_ ?_); (first | omega | exact True.intro | with_reducible rfl | decide | assumption | rfl)))
    try simp only [thenQ, bq, lq, lf, iq, gq, Nat.reduceEqDiff, if_true, if_false]
    simp only [keyN_succ]
    first | exact ⟨by omega, Le.ofA⟩ | exact Le.ofA
  · try simp only [decide_eq_true_eq, decide_eq_false_iff_not, beq_iff_eq, bne_iff_ne, ne_eq, Bool.not_eq_true, beq_eq_false_iff_ne, bne_eq_false_iff_eq, Bool.not_eq_false, Bool.not_eq_eq_eq_not, Bool.not_true, Bool.not_false] at hb
    try simp only [thenQ, bq, lq, lf, iq, gq, Nat.reduceEqDiff, if_true, if_false]
    refine hX0 _ ?_
    try clear hX0 X0
    obtain rfl : i = 32 := by omega
    try simp only [thenQ, bq, lq, lf, iq, gq, Nat.reduceEqDiff, if_true, if_false]
    refine hG8 _ ?_
    try clear hG8 G8
    refine AWp.reg p_chacha_state_7 [] s_chacha_state_7 rfl rfl fun K hK => st_of ?_
    simp only [s_chacha_state_7, wT, Bool.not_eq_true, ty, zr, Nat.reduceAdd, Nat.reduceSub, Nat.reduceMul, Nat.reduceMod, Nat.reduceDiv, Nat.reduceEqDiff, Nat.reduceLeDiff, Nat.reduceBEq, Int.reduceAdd, Int.reduceSub, Int.reduceMul, Int.reduceNeg, Int.reduceLT, Int.reduceLE, Int.reduceEq, Int.reduceNe, Int.reduceBEq, Int.reduceToNat, Int.reduceTDiv, Int.reduceTMod, Int.reduceOfNat, reduceCtorEq, sty, sui]
    try simp (disch := first | omega | (simp only [quarterL_len, row1_len, rowN_len, dblN_len, refN_len, roundsL_len, keyN_len, stateL_len, outN_len, blockL_len, catN_len, List.length_set, List.length_replicate, List.length_append]; first | done | omega)) only [wrap_i64', wrap_u64', wrap_u32', wrap_u8', Int.tmod_eq_emod_of_nonneg, Int.tdiv_eq_ediv_of_nonneg, sub_one, sub_all, splice_all, quarterL_len, row1_len, rowN_len, dblN_len, refN_len, roundsL_len, keyN_len, stateL_len, outN_len, blockL_len, catN_len, List.length_set, List.length_replicate, List.length_append]
    (repeat ((with_reducible refine And.intro ?_ ?_); (first | omega | exact True.intro | with_reducible rfl | decide | assumption | rfl)))
    refine hK _ ?_; clear hK K
    refine AWp.reg p_chacha_state_8 [] s_chacha_state_8 rfl rfl fun K hK => st_of ?_
    simp only [s_chacha_state_8, wT, Bool.not_eq_true, ty, zr, Nat.reduceAdd, Nat.reduceSub, Nat.reduceMul, Nat.reduceMod, Nat.reduceDiv, Nat.reduceEqDiff, Nat.reduceLeDiff, Nat.reduceBEq, Int.reduceAdd, Int.reduceSub, Int.reduceMul, Int.reduceNeg, Int.reduceLT, Int.reduceLE, Int.reduceEq, Int.reduceNe, Int.reduceBEq, Int.reduceToNat, Int.reduceTDiv, Int.reduceTMod, Int.reduceOfNat, reduceCtorEq, sty, sui]
    try simp (disch := first | omega | (simp only [quarterL_len, row1_len, rowN_len, dblN_len, refN_len, roundsL_len, keyN_len, stateL_len, outN_len, blockL_len, catN_len, List.length_set, List.length_replicate, List.length_append]; first | done | omega)) only [wrap_i64', wrap_u64', wrap_u32', wrap_u8', Int.tmod_eq_emod_of_nonneg, Int.tdiv_eq_ediv_of_nonneg, sub_one, sub_all, splice_all, quarterL_len, row1_len, rowN_len, dblN_len, refN_len, roundsL_len, keyN_len, stateL_len, outN_len, blockL_len, catN_len, List.length_set, List.length_replicate, List.length_append]
    (repeat ((with_reducible refine And.intro ?_ ?_); (first | omega | exact True.intro | with_reducible rfl | decide | assumption | rfl)))
    refine hK _ ?_; clear hK K
    refine AWp.ret ?_
    try simp only [thenQ, bq, lq, lf, iq, gq, Nat.reduceEqDiff, if_true, if_false]
    simp only [endQ, rs_chacha_state, resC, one, wT, Bool.not_eq_true, ty, zr, Nat.reduceAdd, Nat.reduceSub, Nat.reduceMul, Nat.reduceMod, Nat.reduceDiv, Nat.reduceEqDiff, Nat.reduceLeDiff, Nat.reduceBEq, Int.reduceAdd, Int.reduceSub, Int.reduceMul, Int.reduceNeg, Int.reduceLT, Int.reduceLE, Int.reduceEq, Int.reduceNe, Int.reduceBEq, Int.reduceToNat, Int.reduceTDiv, Int.reduceTMod, Int.reduceOfNat, reduceCtorEq, sty, sui]
    try simp (disch := first | omega | (simp only [quarterL_len, row1_len, rowN_len, dblN_len, refN_len, roundsL_len, keyN_len, stateL_len, outN_len, blockL_len, catN_len, List.length_set, List.length_replicate, List.length_append]; first | done | omega)) only [wrap_i64', wrap_u64', wrap_u32', wrap_u8', Int.tmod_eq_emod_of_nonneg, Int.tdiv_eq_ediv_of_nonneg, sub_one, sub_all, splice_all, quarterL_len, row1_len, rowN_len, dblN_len, refN_len, roundsL_len, keyN_len, stateL_len, outN_len, blockL_len, catN_len, List.length_set, List.length_replicate, List.length_append]
    repeat' (first | exact True.intro | (with_reducible rfl) | (with_reducible apply And.intro) | omega | rfl)
theorem stateR_ok {α : Type} (E : α → Option (Row α)) (k : List Int) (hk : k.length = 32) (c n : Int) : FnOk Try.prog n_ref02_State E [.ints .u8 k, .int .u32 c, .int .u64 n] [] (.ints .u32 (stateL k c n)) [] := by
  unfold stateL
  refine FnOk.pure func_ref02_State call_ref02_State (body := _) rfl nt_ref02_State (by simp) (by simp [AV.solid, AV.solidL]) ?_
  refine AWp.reg p_ref02_State_0 [] s_ref02_State_0 rfl rfl fun K hK => st_of ?_
  simp only [s_ref02_State_0, wT, Bool.not_eq_true, ty, zr, Nat.reduceAdd, Nat.reduceSub, Nat.reduceMul, Nat.reduceMod, Nat.reduceDiv, Nat.reduceEqDiff, Nat.reduceLeDiff, Nat.reduceBEq, Int.reduceAdd, Int.reduceSub, Int.reduceMul, Int.reduceNeg, Int.reduceLT, Int.reduceLE, Int.reduceEq, Int.reduceNe, Int.reduceBEq, Int.reduceToNat, Int.reduceTDiv, Int.reduceTMod, Int.reduceOfNat, reduceCtorEq, sty, sui]
  try simp (disch := first | omega | (simp only [quarterL_len, row1_len, rowN_len, dblN_len, refN_len, roundsL_len, keyN_len, stateL_len, outN_len, blockL_len, catN_len, List.length_set, List.length_replicate, List.length_append]; first | done | omega)) only [wrap_i64', wrap_u64', wrap_u32', wrap_u8', Int.tmod_eq_emod_of_nonneg, Int.tdiv_eq_ediv_of_nonneg, sub_one, sub_all, splice_all, quarterL_len, row1_len, rowN_len, dblN_len, refN_len, roundsL_len, keyN_len, stateL_len, outN_len, blockL_len, catN_len, List.length_set, List.length_replicate, List.length_append]
  (repeat ((with_reducible refine And.intro ?_ ?_); (first | omega | exact True.intro | with_reducible rfl | decide | assumption | rfl)))
  refine hK _ ?_; clear hK K
  refine AWp.reg p_ref02_State_1 [] s_ref02_State_1 rfl rfl fun K hK => st_of ?_
  simp only [s_ref02_State_1, wT, Bool.not_eq_true, ty, zr, Nat.reduceAdd, Nat.reduceSub, Nat.reduceMul, Nat.reduceMod, Nat.reduceDiv, Nat.reduceEqDiff, Nat.reduceLeDiff, Nat.reduceBEq, Int.reduceAdd, Int.reduceSub, Int.reduceMul, Int.reduceNeg, Int.reduceLT, Int.reduceLE, Int.reduceEq, Int.reduceNe, Int.reduceBEq, Int.reduceToNat, Int.reduceTDiv, Int.reduceTMod, Int.reduceOfNat, reduceCtorEq, sty, sui]
  try simp (disch := first | omega | (simp only [quarterL_len, row1_len, rowN_len, dblN_len, refN_len, roundsL_len, keyN_len, stateL_len, outN_len, blockL_len, catN_len, List.length_set, List.length_replicate, List.length_append]; first | done | omega)) only [wrap_i64', wrap_u64', wrap_u32', wrap_u8', Int.tmod_eq_emod_of_nonneg, Int.tdiv_eq_ediv_of_nonneg, sub_one, sub_all, splice_all, quarterL_len, row1_len, rowN_len, dblN_len, refN_len, roundsL_len, keyN_len, stateL_len, outN_len, blockL_len, catN_len, List.length_set, List.length_replicate, List.length_append]
  (repeat ((with_reducible refine And.intro ?_ ?_); (first | omega | exact True.intro | with_reducible rfl | decide | assumption | rfl)))
  refine hK _ ?_; clear hK K
  refine AWp.grp fun G8 hG8 => ?_
  refine AWp.reg p_ref02_State_2 [] s_ref02_State_2 rfl rfl fun K hK => st_of ?_
  simp only [s_ref02_State_2, wT, Bool.not_eq_true, ty, zr, Nat.reduceAdd, Nat.reduceSub, Nat.reduceMul, Nat.reduceMod, Nat.reduceDiv, Nat.reduceEqDiff, Nat.reduceLeDiff, Nat.reduceBEq, Int.reduceAdd, Int.reduceSub, Int.reduceMul, Int.reduceNeg, Int.reduceLT, Int.reduceLE, Int.reduceEq, Int.reduceNe, Int.reduceBEq, Int.reduceToNat, Int.reduceTDiv, Int.reduceTMod, Int.reduceOfNat, reduceCtorEq, sty, sui]
  try simp (disch := first | omega | (simp only [quarterL_len, row1_len, rowN_len, dblN_len, refN_len, roundsL_len, keyN_len, stateL_len, outN_len, blockL_len, catN_len, List.length_set, List.length_replicate, List.length_append]; first | done | omega)) only [wrap_i64', wrap_u64', wrap_u32', wrap_u8', Int.tmod_eq_emod_of_nonneg, Int.tdiv_eq_ediv_of_nonneg, sub_one, sub_all, splice_all, quarterL_len, row1_len, rowN_len, dblN_len, refN_len, roundsL_len, keyN_len, stateL_len, outN_len, blockL_len, catN_len, List.length_set, List.length_replicate, List.length_append]
  (repeat ((with_reducible refine And.intro ?_ ?_); (first | omega | exact True.intro | with_reducible rfl | decide | assumption | rfl)))
  refine hK _ ?_; clear hK K
  refine AWp.lopX (fun i => ⟨[(3, .ptr (.own 0) 0), (6, .ptr (.own 1) 0), (7, .ptr (.own 2) 0), (1, .int .u32 c), (2, .int .u64 n), (8, .int .i64 i)], [some (.ints .u8 k), some (.ints .u32 (List.replicate 16 0)), some (.ints .u32 (keyN k i))]⟩) (32) ?_ fun X0 hX0 i hn0 => ?_
  · simp only [keyN_zero, s0L]
    exact Le.ofA
  refine AWp.grp fun G16 hG16 => ?_
  refine AWp.reg p_ref02_State_3 [] s_ref02_State_3 rfl rfl fun K hK => st_of ?_
  simp only [s_ref02_State_3, wT, Bool.not_eq_true, ty, zr, Nat.reduceAdd, Nat.reduceSub, Nat.reduceMul, Nat.reduceMod, Nat.reduceDiv, Nat.reduceEqDiff, Nat.reduceLeDiff, Nat.reduceBEq, Int.reduceAdd, Int.reduceSub, Int.reduceMul, Int.reduceNeg, Int.reduceLT, Int.reduceLE, Int.reduceEq, Int.reduceNe, Int.reduceBEq, Int.reduceToNat, Int.reduceTDiv, Int.reduceTMod, Int.reduceOfNat, reduceCtorEq, sty, sui]
  try simp (disch := first | omega | (simp only [quarterL_len, row1_len, rowN_len, dblN_len, refN_len, roundsL_len, keyN_len, stateL_len, outN_len, blockL_len, catN_len, List.length_set, List.length_replicate, List.length_append]; first | done | omega)) only [wrap_i64', wrap_u64', wrap_u32', wrap_u8', Int.tmod_eq_emod_of_nonneg, Int.tdiv_eq_ediv_of_nonneg, sub_one, sub_all, splice_all, quarterL_len, row1_len, rowN_len, dblN_len, refN_len, roundsL_len, keyN_len, stateL_len, outN_len, blockL_len, catN_len, List.length_set, List.length_replicate, List.length_append]
  (repeat ((with_reducible refine And.intro ?_ ?_); (first | omega | exact True.intro | with_reducible rfl | decide | assumption | rfl)))
  refine hK _ ?_; clear hK K
  refine AWp.testE rfl (fun hb => ?_) (fun hb => ?_)
  · try simp only [decide_eq_true_eq, decide_eq_false_iff_not, beq_iff_eq, bne_iff_ne, ne_eq, Bool.not_eq_true, beq_eq_false_iff_ne, bne_eq_false_iff_eq, Bool.not_eq_false, Bool.not_eq_eq_eq_not, Bool.not_true, Bool.not_false] at hb
    try simp only [thenQ, bq, lq, lf, iq, gq, Nat.reduceEqDiff, if_true, if_false]
    refine hG16 _ ?_
    try clear hG16 G16
    refine AWp.blk fun Y1 hY1 => ?_
    refine AWp.drwPE mix p_ref02_State_5 q_ref02_State_5 g_ref02_State_5 s_ref02_State_5 rfl (by decide +kernel) (sp_of ?_)
    simp only [s_ref02_State_5, wT, Bool.not_eq_true, ty, zr, Nat.reduceAdd, Nat.reduceSub, Nat.reduceMul, Nat.reduceMod, Nat.reduceDiv, Nat.reduceEqDiff, Nat.reduceLeDiff, Nat.reduceBEq, Int.reduceAdd, Int.reduceSub, Int.reduceMul, Int.reduceNeg, Int.reduceLT, Int.reduceLE, Int.reduceEq, Int.reduceNe, Int.reduceBEq, Int.reduceToNat, Int.reduceTDiv, Int.reduceTMod, Int.reduceOfNat, reduceCtorEq, sty, sui]
    try simp (disch := first | omega | (simp only [quarterL_len, row1_len, rowN_len, dblN_len, refN_len, roundsL_len, keyN_len, stateL_len, outN_len, blockL_len, catN_len, List.length_set, List.length_replicate, List.length_append]; first | done | omega)) only [wrap_i64', wrap_u64', wrap_u32', wrap_u8', Int.tmod_eq_emod_of_nonneg, Int.tdiv_eq_ediv_of_nonneg, sub_one, sub_all, splice_all, quarterL_len, row1_len, rowN_len, dblN_len, refN_len, roundsL_len, keyN_len, stateL_len, outN_len, blockL_len, catN_len, List.length_set, List.length_replicate, List.length_append]
    (repeat ((with_reducible refine And.intro ?_ ?_); (first | omega | exact True.intro | with_reducible rfl | decide | assumption | rfl)))
    try simp only [thenQ, bq, lq, lf, iq, gq, Nat.reduceEqDiff, if_true, if_false]
    refine hY1 _ ?_
    try clear hY1 Y1
    refine AWp.regE p_ref02_State_4 [] s_ref02_State_4 rfl rfl (st_of ?_)
    simp only [s_ref02_State_4, wT, Bool.not_eq_true, ty, zr, Nat.reduceAdd, Nat.reduceSub, Nat.reduceMul, Nat.reduceMod, Nat.reduceDiv, Nat.reduceEqDiff, Nat.reduceLeDiff, Nat.reduceBEq, Int.reduceAdd, Int.reduceSub, Int.reduceMul, Int.reduceNeg, Int.reduceLT, Int.reduceLE, Int.reduceEq, Int.reduceNe, Int.reduceBEq, Int.reduceToNat, Int.reduceTDiv, Int.reduceTMod, Int.reduceOfNat, reduceCtorEq, sty, sui]
    try simp (disch := first | omega | (simp only [quarterL_len, row1_len, rowN_len, dblN_len, refN_len, roundsL_len, keyN_len, stateL_len, outN_len, blockL_len, catN_len, List.length_set, List.length_replicate, List.length_append]; first | done | omega)) only [wrap_i64', wrap_u64', wrap_u32', wrap_u8', Int.tmod_eq_emod_of_nonneg, Int.tdiv_eq_ediv_of_nonneg, sub_one, sub_all, splice_all, quarterL_len, row1_len, rowN_len, dblN_len, refN_len, roundsL_len, keyN_len, stateL_len, outN_len, blockL_len, catN_len, List.length_set, List.length_replicate, List.length_append]
    (repeat ((with_reducible refine And.intro ?_ ?_); (first | omega | exact True.intro | with_reducible rfl | decide | assumption | rfl)))
    try simp only [thenQ, bq, lq, lf, iq, gq, Nat.reduceEqDiff, if_true, if_false]
    simp only [keyN_succ]
    first | exact ⟨by omega, Le.ofA⟩ | exact Le.ofA
  · try simp only [decide_eq_true_eq, decide_eq_false_iff_not, beq_iff_eq, bne_iff_ne, ne_eq, Bool.not_eq_true, beq_eq_false_iff_ne, bne_eq_false_iff_eq, Bool.not_eq_false, Bool.not_eq_eq_eq_not, Bool.not_true, Bool.not_false] at hb
    try simp only [thenQ, bq, lq, lf, iq, gq, Nat.reduceEqDiff, if_true, if_false]
    refine hX0 _ ?_
    try clear hX0 X0
    obtain rfl : i = 32 := by omega
    try simp only [thenQ, bq, lq, lf, iq, gq, Nat.reduceEqDiff, if_true, if_false]
    refine hG8 _ ?_
    try clear hG8 G8
    refine AWp.reg p_ref02_State_6 [] s_ref02_State_6 rfl rfl fun K hK => st_of ?_
    simp only [s_ref02_State_6, wT, Bool.not_eq_true, ty, zr, Nat.reduceAdd, Nat.reduceSub, Nat.reduceMul, Nat.reduceMod, Nat.reduceDiv, Nat.reduceEqDiff, Nat.reduceLeDiff, Nat.reduceBEq, Int.reduceAdd, Int.reduceSub, Int.reduceMul, Int.reduceNeg, Int.reduceLT, Int.reduceLE, Int.reduceEq, Int.reduceNe, Int.reduceBEq, Int.reduceToNat, Int.reduceTDiv, Int.reduceTMod, Int.reduceOfNat, reduceCtorEq, sty, sui]
    try simp (disch := first | omega | (simp only [quarterL_len, row1_len, rowN_len, dblN_len, refN_len, roundsL_len, keyN_len, stateL_len, outN_len, blockL_len, catN_len, List.length_set, List.length_replicate, List.length_append]; first | done | omega)) only [wrap_i64', wrap_u64', wrap_u32', wrap_u8', Int.tmod_eq_emod_of_nonneg, Int.tdiv_eq_ediv_of_nonneg, sub_one, sub_all, splice_all, quarterL_len, row1_len, rowN_len, dblN_len, refN_len, roundsL_len, keyN_len, stateL_len, outN_len, blockL_len, catN_len, List.length_set, List.length_replicate, List.length_append]
    (repeat ((with_reducible refine And.intro ?_ ?_); (first | omega | exact True.intro | with_reducible rfl | decide | assumption | rfl)))
    refine hK _ ?_; clear hK K
    refine AWp.reg p_ref02_State_7 [] s_ref02_State_7 rfl rfl fun K hK => st_of ?_
    simp only [s_ref02_State_7, wT, Bool.not_eq_true, ty, zr, Nat.reduceAdd, Nat.reduceSub, Nat.reduceMul, Nat.reduceMod, Nat.reduceDiv, Nat.reduceEqDiff, Nat.reduceLeDiff, Nat.reduceBEq, Int.reduceAdd, Int.reduceSub, Int.reduceMul, Int.reduceNeg, Int.reduceLT, Int.reduceLE, Int.reduceEq, Int.reduceNe, Int.reduceBEq, Int.reduceToNat, Int.reduceTDiv, Int.reduceTMod, Int.reduceOfNat, reduceCtorEq, sty, sui]
    try simp (disch := first | omega | (simp only [quarterL_len, row1_len, rowN_len, dblN_len, refN_len, roundsL_len, keyN_len, stateL_len, outN_len, blockL_len, catN_len, List.length_set, List.length_replicate, List.length_append]; first | done | omega)) only [wrap_i64', wrap_u64', wrap_u32', wrap_u8', Int.tmod_eq_emod_of_nonneg, Int.tdiv_eq_ediv_of_nonneg, sub_one, sub_all, splice_all, quarterL_len, row1_len, rowN_len, dblN_len, refN_len, roundsL_len, keyN_len, stateL_len, outN_len, blockL_len, catN_len, List.length_set, List.length_replicate, List.length_append]
    (repeat ((with_reducible refine And.intro ?_ ?_); (first | omega | exact True.intro | with_reducible rfl | decide | assumption | rfl)))
    refine hK _ ?_; clear hK K
    refine AWp.reg p_ref02_State_8 [] s_ref02_State_8 rfl rfl fun K hK => st_of ?_
    simp only [s_ref02_State_8, wT, Bool.not_eq_true, ty, zr, Nat.reduceAdd, Nat.reduceSub, Nat.reduceMul, Nat.reduceMod, Nat.reduceDiv, Nat.reduceEqDiff, Nat.reduceLeDiff, Nat.reduceBEq, Int.reduceAdd, Int.reduceSub, Int.reduceMul, Int.reduceNeg, Int.reduceLT, Int.reduceLE, Int.reduceEq, Int.reduceNe, Int.reduceBEq, Int.reduceToNat, Int.reduceTDiv, Int.reduceTMod, Int.reduceOfNat, reduceCtorEq, sty, sui]
    try simp (disch := first | omega | (simp only [quarterL_len, row1_len, rowN_len, dblN_len, refN_len, roundsL_len, keyN_len, stateL_len, outN_len, blockL_len, catN_len, List.length_set, List.length_replicate, List.length_append]; first | done | omega)) only [wrap_i64', wrap_u64', wrap_u32', wrap_u8', Int.tmod_eq_emod_of_nonneg, Int.tdiv_eq_ediv_of_nonneg, sub_one, sub_all, splice_all, quarterL_len, row1_len, rowN_len, dblN_len, refN_len, roundsL_len, keyN_len, stateL_len, outN_len, blockL_len, catN_len, List.length_set, List.length_replicate, List.length_append]
    (repeat ((with_reducible refine And.intro ?_ ?_); (first | omega | exact True.intro | with_reducible rfl | decide | assumption | rfl)))
    refine hK _ ?_; clear hK K
    refine AWp.reg p_ref02_State_9 [] s_ref02_State_9 rfl rfl fun K hK => st_of ?_
    simp only [s_ref02_State_9, wT, Bool.not_eq_true, ty, zr, Nat.reduceAdd, Nat.reduceSub, Nat.reduceMul, Nat.reduceMod, Nat.reduceDiv, Nat.reduceEqDiff, Nat.reduceLeDiff, Nat.reduceBEq, Int.reduceAdd, Int.reduceSub, Int.reduceMul, Int.reduceNeg, Int.reduceLT, Int.reduceLE, Int.reduceEq, Int.reduceNe, Int.reduceBEq, Int.reduceToNat, Int.reduceTDiv, Int.reduceTMod, Int.reduceOfNat, reduceCtorEq, sty, sui]
    try simp (disch := first | omega | (simp only [quarterL_len, row1_len, rowN_len, dblN_len, refN_len, roundsL_len, keyN_len, stateL_len, outN_len, blockL_len, catN_len, List.length_set, List.length_replicate, List.length_append]; first | done | omega)) only [wrap_i64', wrap_u64', wrap_u32', wrap_u8', Int.tmod_eq_emod_of_nonneg, Int.tdiv_eq_ediv_of_nonneg, sub_one, sub_all, splice_all, quarterL_len, row1_len, rowN_len, dblN_len, refN_len, roundsL_len, keyN_len, stateL_len, outN_len, blockL_len, catN_len, List.length_set, List.length_replicate, List.length_append]
    (repeat ((with_reducible refine And.intro ?_ ?_); (first | omega | exact True.intro | with_reducible rfl | decide | assumption | rfl)))
    refine hK _ ?_; clear hK K
    refine AWp.ret ?_
    try simp only [thenQ, bq, lq, lf, iq, gq, Nat.reduceEqDiff, if_true, if_false]
    simp only [endQ, rs_ref02_State, resC, one, wT, Bool.not_eq_true, ty, zr, Nat.reduceAdd, Nat.reduceSub, Nat.reduceMul, Nat.reduceMod, Nat.reduceDiv, Nat.reduceEqDiff, Nat.reduceLeDiff, Nat.reduceBEq, Int.reduceAdd, Int.reduceSub, Int.reduceMul, Int.reduceNeg, Int.reduceLT, Int.reduceLE, Int.reduceEq, Int.reduceNe, Int.reduceBEq, Int.reduceToNat, Int.reduceTDiv, Int.reduceTMod, Int.reduceOfNat, reduceCtorEq, sty, sui]
    try simp (disch := first | omega | (simp only [quarterL_len, row1_len, rowN_len, dblN_len, refN_len, roundsL_len, keyN_len, stateL_len, outN_len, blockL_len, catN_len, List.length_set, List.length_replicate, List.length_append]; first | done | omega)) only [wrap_i64', wrap_u64', wrap_u32', wrap_u8', Int.tmod_eq_emod_of_nonneg, Int.tdiv_eq_ediv_of_nonneg, sub_one, sub_all, splice_all, quarterL_len, row1_len, rowN_len, dblN_len, refN_len, roundsL_len, keyN_len, stateL_len, outN_len, blockL_len, catN_len, List.length_set, List.length_replicate, List.length_append]
    repeat' (first | exact True.intro | (with_reducible rfl) | (with_reducible apply And.intro) | omega | rfl)

theorem blockI_ok {α : Type} (E : α → Option (Row α)) (k : List Int) (hk : k.length = 32) (c n : Int) : FnOk Try.prog n_chacha_Block E [.ints .u8 k, .int .u32 c, .int .u64 n] [] (.ints .u8 (blockL k c n)) [] := by
  unfold blockL
  refine FnOk.pure func_chacha_Block call_chacha_Block (body := _) rfl nt_chacha_Block (by simp) (by simp [AV.solid, AV.solidL]) ?_
  refine AWp.reg p_chacha_Block_0 [] s_chacha_Block_0 rfl rfl fun K hK => st_of ?_
  simp only [s_chacha_Block_0, wT, Bool.not_eq_true, ty, zr, Nat.reduceAdd, Nat.reduceSub, Nat.reduceMul, Nat.reduceMod, Nat.reduceDiv, Nat.reduceEqDiff, Nat.reduceLeDiff, Nat.reduceBEq, Int.reduceAdd, Int.reduceSub, Int.reduceMul, Int.reduceNeg, Int.reduceLT, Int.reduceLE, Int.reduceEq, Int.reduceNe, Int.reduceBEq, Int.reduceToNat, Int.reduceTDiv, Int.reduceTMod, Int.reduceOfNat, reduceCtorEq, sty, sui]
  try simp (disch := first | omega | (simp only [quarterL_len, row1_len, rowN_len, dblN_len, refN_len, roundsL_len, keyN_len, stateL_len, outN_len, blockL_len, catN_len, List.length_set, List.length_replicate, List.length_append]; first | done | omega)) only [wrap_i64', wrap_u64', wrap_u32', wrap_u8', Int.tmod_eq_emod_of_nonneg, Int.tdiv_eq_ediv_of_nonneg, sub_one, sub_all, splice_all, quarterL_len, row1_len, rowN_len, dblN_len, refN_len, roundsL_len, keyN_len, stateL_len, outN_len, blockL_len, catN_len, List.length_set, List.length_replicate, List.length_append]
  (repeat ((with_reducible refine And.intro ?_ ?_); (first | omega | exact True.intro | with_reducible rfl | decide | assumption | rfl)))
  refine hK _ ?_; clear hK K
  refine AWp.reg p_chacha_Block_1 [] s_chacha_Block_1 rfl rfl fun K hK => st_of ?_
  simp only [s_chacha_Block_1, wT, Bool.not_eq_true, ty, zr, Nat.reduceAdd, Nat.reduceSub, Nat.reduceMul, Nat.reduceMod, Nat.reduceDiv, Nat.reduceEqDiff, Nat.reduceLeDiff, Nat.reduceBEq, Int.reduceAdd, Int.reduceSub, Int.reduceMul, Int.reduceNeg, Int.reduceLT, Int.reduceLE, Int.reduceEq, Int.reduceNe, Int.reduceBEq, Int.reduceToNat, Int.reduceTDiv, Int.reduceTMod, Int.reduceOfNat, reduceCtorEq, sty, sui]
  try simp (disch := first | omega | (simp only [quarterL_len, row1_len, rowN_len, dblN_len, refN_len, roundsL_len, keyN_len, stateL_len, outN_len, blockL_len, catN_len, List.length_set, List.length_replicate, List.length_append]; first | done | omega)) only [wrap_i64', wrap_u64', wrap_u32', wrap_u8', Int.tmod_eq_emod_of_nonneg, Int.tdiv_eq_ediv_of_nonneg, sub_one, sub_all, splice_all, quarterL_len, row1_len, rowN_len, dblN_len, refN_len, roundsL_len, keyN_len, stateL_len, outN_len, blockL_len, catN_len, List.length_set, List.length_replicate, List.length_append]
  (repeat ((with_reducible refine And.intro ?_ ?_); (first | omega | exact True.intro | with_reducible rfl | decide | assumption | rfl)))
  refine st_call fun K1 hK1 => ?_
  simp only [calleeC, wT, Bool.not_eq_true, ty, zr, Nat.reduceAdd, Nat.reduceSub, Nat.reduceMul, Nat.reduceMod, Nat.reduceDiv, Nat.reduceEqDiff, Nat.reduceLeDiff, Nat.reduceBEq, Int.reduceAdd, Int.reduceSub, Int.reduceMul, Int.reduceNeg, Int.reduceLT, Int.reduceLE, Int.reduceEq, Int.reduceNe, Int.reduceBEq, Int.reduceToNat, Int.reduceTDiv, Int.reduceTMod, Int.reduceOfNat, reduceCtorEq, sty, sui]
  try simp (disch := first | omega | (simp only [quarterL_len, row1_len, rowN_len, dblN_len, refN_len, roundsL_len, keyN_len, stateL_len, outN_len, blockL_len, catN_len, List.length_set, List.length_replicate, List.length_append]; first | done | omega)) only [wrap_i64', wrap_u64', wrap_u32', wrap_u8', Int.tmod_eq_emod_of_nonneg, Int.tdiv_eq_ediv_of_nonneg, sub_one, sub_all, splice_all, quarterL_len, row1_len, rowN_len, dblN_len, refN_len, roundsL_len, keyN_len, stateL_len, outN_len, blockL_len, catN_len, List.length_set, List.length_replicate, List.length_append]
  refine hK1 _ _ ?_
  clear hK1 K1
  simp only [CallTo, AV.mapL, AV.map, mapL_flat, mapL_flat1]
  refine ⟨_, _, stateI_ok _ _ hk _ _, ?_⟩
  simp only [wT, Bool.not_eq_true, ty, zr, Nat.reduceAdd, Nat.reduceSub, Nat.reduceMul, Nat.reduceMod, Nat.reduceDiv, Nat.reduceEqDiff, Nat.reduceLeDiff, Nat.reduceBEq, Int.reduceAdd, Int.reduceSub, Int.reduceMul, Int.reduceNeg, Int.reduceLT, Int.reduceLE, Int.reduceEq, Int.reduceNe, Int.reduceBEq, Int.reduceToNat, Int.reduceTDiv, Int.reduceTMod, Int.reduceOfNat, reduceCtorEq, sty, sui]
  try simp (disch := first | omega | (simp only [quarterL_len, row1_len, rowN_len, dblN_len, refN_len, roundsL_len, keyN_len, stateL_len, outN_len, blockL_len, catN_len, List.length_set, List.length_replicate, List.length_append]; first | done | omega)) only [wrap_i64', wrap_u64', wrap_u32', wrap_u8', Int.tmod_eq_emod_of_nonneg, Int.tdiv_eq_ediv_of_nonneg, sub_one, sub_all, splice_all, quarterL_len, row1_len, rowN_len, dblN_len, refN_len, roundsL_len, keyN_len, stateL_len, outN_len, blockL_len, catN_len, List.length_set, List.length_replicate, List.length_append]
  (repeat ((with_reducible refine And.intro ?_ ?_); (first | omega | exact True.intro | with_reducible rfl | decide | assumption | rfl)))
  refine hK _ ?_; clear hK K
  refine AWp.reg p_chacha_Block_2 [] s_chacha_Block_2 rfl rfl fun K hK => st_of ?_
  simp only [s_chacha_Block_2, wT, Bool.not_eq_true, ty, zr, Nat.reduceAdd, Nat.reduceSub, Nat.reduceMul, Nat.reduceMod, Nat.reduceDiv, Nat.reduceEqDiff, Nat.reduceLeDiff, Nat.reduceBEq, Int.reduceAdd, Int.reduceSub, Int.reduceMul, Int.reduceNeg, Int.reduceLT, Int.reduceLE, Int.reduceEq, Int.reduceNe, Int.reduceBEq, Int.reduceToNat, Int.reduceTDiv, Int.reduceTMod, Int.reduceOfNat, reduceCtorEq, sty, sui]
  try simp (disch := first | omega | (simp only [quarterL_len, row1_len, rowN_len, dblN_len, refN_len, roundsL_len, keyN_len, stateL_len, outN_len, blockL_len, catN_len, List.length_set, List.length_replicate, List.length_append]; first | done | omega)) only [wrap_i64', wrap_u64', wrap_u32', wrap_u8', Int.tmod_eq_emod_of_nonneg, Int.tdiv_eq_ediv_of_nonneg, sub_one, sub_all, splice_all, quarterL_len, row1_len, rowN_len, dblN_len, refN_len, roundsL_len, keyN_len, stateL_len, outN_len, blockL_len, catN_len, List.length_set, List.length_replicate, List.length_append]
  (repeat ((with_reducible refine And.intro ?_ ?_); (first | omega | exact True.intro | with_reducible rfl | decide | assumption | rfl)))
  refine st_call fun K1 hK1 => ?_
  simp only [calleeC, wT, Bool.not_eq_true, ty, zr, Nat.reduceAdd, Nat.reduceSub, Nat.reduceMul, Nat.reduceMod, Nat.reduceDiv, Nat.reduceEqDiff, Nat.reduceLeDiff, Nat.reduceBEq, Int.reduceAdd, Int.reduceSub, Int.reduceMul, Int.reduceNeg, Int.reduceLT, Int.reduceLE, Int.reduceEq, Int.reduceNe, Int.reduceBEq, Int.reduceToNat, Int.reduceTDiv, Int.reduceTMod, Int.reduceOfNat, reduceCtorEq, sty, sui]
  try simp (disch := first | omega | (simp only [quarterL_len, row1_len, rowN_len, dblN_len, refN_len, roundsL_len, keyN_len, stateL_len, outN_len, blockL_len, catN_len, List.length_set, List.length_replicate, List.length_append]; first | done | omega)) only [wrap_i64', wrap_u64', wrap_u32', wrap_u8', Int.tmod_eq_emod_of_nonneg, Int.tdiv_eq_ediv_of_nonneg, sub_one, sub_all, splice_all, quarterL_len, row1_len, rowN_len, dblN_len, refN_len, roundsL_len, keyN_len, stateL_len, outN_len, blockL_len, catN_len, List.length_set, List.length_replicate, List.length_append]
  refine hK1 _ _ ?_
  clear hK1 K1
  simp only [CallTo, AV.mapL, AV.map, mapL_flat, mapL_flat1]
  refine ⟨_, _, roundsI_ok _ _ (stateL_len _ _ _), ?_⟩
  simp only [wT, Bool.not_eq_true, ty, zr, Nat.reduceAdd, Nat.reduceSub, Nat.reduceMul, Nat.reduceMod, Nat.reduceDiv, Nat.reduceEqDiff, Nat.reduceLeDiff, Nat.reduceBEq, Int.reduceAdd, Int.reduceSub, Int.reduceMul, Int.reduceNeg, Int.reduceLT, Int.reduceLE, Int.reduceEq, Int.reduceNe, Int.reduceBEq, Int.reduceToNat, Int.reduceTDiv, Int.reduceTMod, Int.reduceOfNat, reduceCtorEq, sty, sui]
  try simp (disch := first | omega | (simp only [quarterL_len, row1_len, rowN_len, dblN_len, refN_len, roundsL_len, keyN_len, stateL_len, outN_len, blockL_len, catN_len, List.length_set, List.length_replicate, List.length_append]; first | done | omega)) only [wrap_i64', wrap_u64', wrap_u32', wrap_u8', Int.tmod_eq_emod_of_nonneg, Int.tdiv_eq_ediv_of_nonneg, sub_one, sub_all, splice_all, quarterL_len, row1_len, rowN_len, dblN_len, refN_len, roundsL_len, keyN_len, stateL_len, outN_len, blockL_len, catN_len, List.length_set, List.length_replicate, List.length_append]
  (repeat ((with_reducible refine And.intro ?_ ?_); (first | omega | exact True.intro | with_reducible rfl | decide | assumption | rfl)))
  refine hK _ ?_; clear hK K
  refine AWp.reg p_chacha_Block_3 [] s_chacha_Block_3 rfl rfl fun K hK => st_of ?_
  simp only [s_chacha_Block_3, wT, Bool.not_eq_true, ty, zr, Nat.reduceAdd, Nat.reduceSub, Nat.reduceMul, Nat.reduceMod, Nat.reduceDiv, Nat.reduceEqDiff, Nat.reduceLeDiff, Nat.reduceBEq, Int.reduceAdd, Int.reduceSub, Int.reduceMul, Int.reduceNeg, Int.reduceLT, Int.reduceLE, Int.reduceEq, Int.reduceNe, Int.reduceBEq, Int.reduceToNat, Int.reduceTDiv, Int.reduceTMod, Int.reduceOfNat, reduceCtorEq, sty, sui]
  try simp (disch := first | omega | (simp only [quarterL_len, row1_len, rowN_len, dblN_len, refN_len, roundsL_len, keyN_len, stateL_len, outN_len, blockL_len, catN_len, List.length_set, List.length_replicate, List.length_append]; first | done | omega)) only [wrap_i64', wrap_u64', wrap_u32', wrap_u8', Int.tmod_eq_emod_of_nonneg, Int.tdiv_eq_ediv_of_nonneg, sub_one, sub_all, splice_all, quarterL_len, row1_len, rowN_len, dblN_len, refN_len, roundsL_len, keyN_len, stateL_len, outN_len, blockL_len, catN_len, List.length_set, List.length_replicate, List.length_append]
  (repeat ((with_reducible refine And.intro ?_ ?_); (first | omega | exact True.intro | with_reducible rfl | decide | assumption | rfl)))
  refine hK _ ?_; clear hK K
  refine AWp.grp fun G32 hG32 => ?_
  refine AWp.reg p_chacha_Block_4 [] s_chacha_Block_4 rfl rfl fun K hK => st_of ?_
  simp only [s_chacha_Block_4, wT, Bool.not_eq_true, ty, zr, Nat.reduceAdd, Nat.reduceSub, Nat.reduceMul, Nat.reduceMod, Nat.reduceDiv, Nat.reduceEqDiff, Nat.reduceLeDiff, Nat.reduceBEq, Int.reduceAdd, Int.reduceSub, Int.reduceMul, Int.reduceNeg, Int.reduceLT, Int.reduceLE, Int.reduceEq, Int.reduceNe, Int.reduceBEq, Int.reduceToNat, Int.reduceTDiv, Int.reduceTMod, Int.reduceOfNat, reduceCtorEq, sty, sui]
  try simp (disch := first | omega | (simp only [quarterL_len, row1_len, rowN_len, dblN_len, refN_len, roundsL_len, keyN_len, stateL_len, outN_len, blockL_len, catN_len, List.length_set, List.length_replicate, List.length_append]; first | done | omega)) only [wrap_i64', wrap_u64', wrap_u32', wrap_u8', Int.tmod_eq_emod_of_nonneg, Int.tdiv_eq_ediv_of_nonneg, sub_one, sub_all, splice_all, quarterL_len, row1_len, rowN_len, dblN_len, refN_len, roundsL_len, keyN_len, stateL_len, outN_len, blockL_len, catN_len, List.length_set, List.length_replicate, List.length_append]
  (repeat ((with_reducible refine And.intro ?_ ?_); (first | omega | exact True.intro | with_reducible rfl | decide | assumption | rfl)))
  refine hK _ ?_; clear hK K
  refine AWp.lopX (fun i => ⟨[(6, .ptr (.own 1) 0), (7, .ptr (.own 2) 0), (8, .ptr (.own 3) 0), (9, .ptr (.own 4) 0), (17, .int .i64 i)], [none, some (.ints .u8 (List.replicate 64 0)), some (.ints .u32 (stateL k c n)), some (.ints .u32 (roundsL (stateL k c n))), some (.ints .u8 (outN (stateL k c n) (roundsL (stateL k c n)) i))]⟩) (64) ?_ fun X0 hX0 i hn0 => ?_
  · simp only [outN_zero]
    exact Le.ofA
  refine AWp.reg p_chacha_Block_5 [] s_chacha_Block_5 rfl rfl fun K hK => st_of ?_
  simp only [s_chacha_Block_5, wT, Bool.not_eq_true, ty, zr, Nat.reduceAdd, Nat.reduceSub, Nat.reduceMul, Nat.reduceMod, Nat.reduceDiv, Nat.reduceEqDiff, Nat.reduceLeDiff, Nat.reduceBEq, Int.reduceAdd, Int.reduceSub, Int.reduceMul, Int.reduceNeg, Int.reduceLT, Int.reduceLE, Int.reduceEq, Int.reduceNe, Int.reduceBEq, Int.reduceToNat, Int.reduceTDiv, Int.reduceTMod, Int.reduceOfNat, reduceCtorEq, sty, sui]
  try simp (disch := first | omega | (simp only [quarterL_len, row1_len, rowN_len, dblN_len, refN_len, roundsL_len, keyN_len, stateL_len, outN_len, blockL_len, catN_len, List.length_set, List.length_replicate, List.length_append]; first | done | omega)) only [wrap_i64', wrap_u64', wrap_u32', wrap_u8', Int.tmod_eq_emod_of_nonneg, Int.tdiv_eq_ediv_of_nonneg, sub_one, sub_all, splice_all, quarterL_len, row1_len, rowN_len, dblN_len, refN_len, roundsL_len, keyN_len, stateL_len, outN_len, blockL_len, catN_len, List.length_set, List.length_replicate, List.length_append]
  (repeat ((with_reducible refine And.intro ?_ ?_); (first | omega | exact True.intro | with_reducible rfl | decide | assumption | rfl)))
  refine hK _ ?_; clear hK K
  refine AWp.test rfl (fun hb => ?_) (fun hb => ?_)
  · try simp only [decide_eq_true_eq, decide_eq_false_iff_not, beq_iff_eq, bne_iff_ne, ne_eq, Bool.not_eq_true, beq_eq_false_iff_ne, bne_eq_false_iff_eq, Bool.not_eq_false, Bool.not_eq_eq_eq_not, Bool.not_true, Bool.not_false] at hb
    refine AWp.blk fun Y1 hY1 => ?_
    refine AWp.reg p_chacha_Block_6 [] s_chacha_Block_6 rfl rfl fun K hK => st_of ?_
    simp only [s_chacha_Block_6, wT, Bool.not_eq_true, ty, zr, Nat.reduceAdd, Nat.reduceSub, Nat.reduceMul, Nat.reduceMod, Nat.reduceDiv, Nat.reduceEqDiff, Nat.reduceLeDiff, Nat.reduceBEq, Int.reduceAdd, Int.reduceSub, Int.reduceMul, Int.reduceNeg, Int.reduceLT, Int.reduceLE, Int.reduceEq, Int.reduceNe, Int.reduceBEq, Int.reduceToNat, Int.reduceTDiv, Int.reduceTMod, Int.reduceOfNat, reduceCtorEq, sty, sui]
    try simp (disch := first | omega | (simp only [quarterL_len, row1_len, rowN_len, dblN_len, refN_len, roundsL_len, keyN_len, stateL_len, outN_len, blockL_len, catN_len, List.length_set, List.length_replicate, List.length_append]; first | done | omega)) only [wrap_i64', wrap_u64', wrap_u32', wrap_u8', Int.tmod_eq_emod_of_nonneg, Int.tdiv_eq_ediv_of_nonneg, sub_one, sub_all, splice_all, quarterL_len, row1_len, rowN_len, dblN_len, refN_len, roundsL_len, keyN_len, stateL_len, outN_len, blockL_len, catN_len, List.length_set, List.length_replicate, List.length_append]
    (repeat ((with_reducible refine And.intro ?_ ?_); (first | omega | exact True.intro | with_reducible rfl | decide | assumption | rfl)))
    refine hK _ ?_; clear hK K
    refine AWp.drwPE mix p_chacha_Block_7 q_chacha_Block_7 g_chacha_Block_7 s_chacha_Block_7 rfl (by decide +kernel) (sp_of ?_)
    simp only [s_chacha_Block_7, wT, Bool.not_eq_true, ty, zr, Nat.reduceAdd, Nat.reduceSub, Nat.reduceMul, Nat.reduceMod, Nat.reduceDiv, Nat.reduceEqDiff, Nat.reduceLeDiff, Nat.reduceBEq, Int.reduceAdd, Int.reduceSub, Int.reduceMul, Int.reduceNeg, Int.reduceLT, Int.reduceLE, Int.reduceEq, Int.reduceNe, Int.reduceBEq, Int.reduceToNat, Int.reduceTDiv, Int.reduceTMod, Int.reduceOfNat, reduceCtorEq, sty, sui]
    try simp (disch := first | omega | (simp only [quarterL_len, row1_len, rowN_len, dblN_len, refN_len, roundsL_len, keyN_len, stateL_len, outN_len, blockL_len, catN_len, List.length_set, List.length_replicate, List.length_append]; first | done | omega)) only [wrap_i64', wrap_u64', wrap_u32', wrap_u8', Int.tmod_eq_emod_of_nonneg, Int.tdiv_eq_ediv_of_nonneg, sub_one, sub_all, splice_all, quarterL_len, row1_len, rowN_len, dblN_len, refN_len, roundsL_len, keyN_len, stateL_len, outN_len, blockL_len, catN_len, List.length_set, List.length_replicate, List.length_append]
    (repeat ((with_reducible refine And.intro ?_ ?_); (first | omega | exact True.intro | with_reducible rfl | decide | assumption | rfl)))
    try simp only [thenQ, bq, lq, lf, iq, gq, Nat.reduceEqDiff, if_true, if_false]
    refine hY1 _ ?_
    try clear hY1 Y1
    refine AWp.regE p_chacha_Block_8 [] s_chacha_Block_8 rfl rfl (st_of ?_)
    simp only [s_chacha_Block_8, wT, Bool.not_eq_true, ty, zr, Nat.reduceAdd, Nat.reduceSub, Nat.reduceMul, Nat.reduceMod, Nat.reduceDiv, Nat.reduceEqDiff, Nat.reduceLeDiff, Nat.reduceBEq, Int.reduceAdd, Int.reduceSub, Int.reduceMul, Int.reduceNeg, Int.reduceLT, Int.reduceLE, Int.reduceEq, Int.reduceNe, Int.reduceBEq, Int.reduceToNat, Int.reduceTDiv, Int.reduceTMod, Int.reduceOfNat, reduceCtorEq, sty, sui]
    try simp (disch := first | omega | (simp only [quarterL_len, row1_len, rowN_len, dblN_len, refN_len, roundsL_len, keyN_len, stateL_len, outN_len, blockL_len, catN_len, List.length_set, List.length_replicate, List.length_append]; first | done | omega)) only [wrap_i64', wrap_u64', wrap_u32', wrap_u8', Int.tmod_eq_emod_of_nonneg, Int.tdiv_eq_ediv_of_nonneg, sub_one, sub_all, splice_all, quarterL_len, row1_len, rowN_len, dblN_len, refN_len, roundsL_len, keyN_len, stateL_len, outN_len, blockL_len, catN_len, List.length_set, List.length_replicate, List.length_append]
    (repeat ((with_reducible refine And.intro ?_ ?_); (first | omega | exact True.intro | with_reducible rfl | decide | assumption | rfl)))
    try simp only [thenQ, bq, lq, lf, iq, gq, Nat.reduceEqDiff, if_true, if_false]
    simp only [outN_succ]
    first | exact ⟨by omega, Le.ofA⟩ | exact Le.ofA
  · try simp only [decide_eq_true_eq, decide_eq_false_iff_not, beq_iff_eq, bne_iff_ne, ne_eq, Bool.not_eq_true, beq_eq_false_iff_ne, bne_eq_false_iff_eq, Bool.not_eq_false, Bool.not_eq_eq_eq_not, Bool.not_true, Bool.not_false] at hb
    try simp only [thenQ, bq, lq, lf, iq, gq, Nat.reduceEqDiff, if_true, if_false]
    refine hX0 _ ?_
    try clear hX0 X0
    obtain rfl : i = 64 := by omega
    try simp only [thenQ, bq, lq, lf, iq, gq, Nat.reduceEqDiff, if_true, if_false]
    refine hG32 _ ?_
    try clear hG32 G32
    refine AWp.reg p_chacha_Block_9 [] s_chacha_Block_9 rfl rfl fun K hK => st_of ?_
    simp only [s_chacha_Block_9, wT, Bool.not_eq_true, ty, zr, Nat.reduceAdd, Nat.reduceSub, Nat.reduceMul, Nat.reduceMod, Nat.reduceDiv, Nat.reduceEqDiff, Nat.reduceLeDiff, Nat.reduceBEq, Int.reduceAdd, Int.reduceSub, Int.reduceMul, Int.reduceNeg, Int.reduceLT, Int.reduceLE, Int.reduceEq, Int.reduceNe, Int.reduceBEq, Int.reduceToNat, Int.reduceTDiv, Int.reduceTMod, Int.reduceOfNat, reduceCtorEq, sty, sui]
    try simp (disch := first | omega | (simp only [quarterL_len, row1_len, rowN_len, dblN_len, refN_len, roundsL_len, keyN_len, stateL_len, outN_len, blockL_len, catN_len, List.length_set, List.length_replicate, List.length_append]; first | done | omega)) only [wrap_i64', wrap_u64', wrap_u32', wrap_u8', Int.tmod_eq_emod_of_nonneg, Int.tdiv_eq_ediv_of_nonneg, sub_one, sub_all, splice_all, quarterL_len, row1_len, rowN_len, dblN_len, refN_len, roundsL_len, keyN_len, stateL_len, outN_len, blockL_len, catN_len, List.length_set, List.length_replicate, List.length_append]
    (repeat ((with_reducible refine And.intro ?_ ?_); (first | omega | exact True.intro | with_reducible rfl | decide | assumption | rfl)))
    refine hK _ ?_; clear hK K
    refine AWp.ret ?_
    try simp only [thenQ, bq, lq, lf, iq, gq, Nat.reduceEqDiff, if_true, if_false]
    simp only [endQ, rs_chacha_Block, resC, one, wT, Bool.not_eq_true, ty, zr, Nat.reduceAdd, Nat.reduceSub, Nat.reduceMul, Nat.reduceMod, Nat.reduceDiv, Nat.reduceEqDiff, Nat.reduceLeDiff, Nat.reduceBEq, Int.reduceAdd, Int.reduceSub, Int.reduceMul, Int.reduceNeg, Int.reduceLT, Int.reduceLE, Int.reduceEq, Int.reduceNe, Int.reduceBEq, Int.reduceToNat, Int.reduceTDiv, Int.reduceTMod, Int.reduceOfNat, reduceCtorEq, sty, sui]
    try simp (disch := first | omega | (simp only [quarterL_len, row1_len, rowN_len, dblN_len, refN_len, roundsL_len, keyN_len, stateL_len, outN_len, blockL_len, catN_len, List.length_set, List.length_replicate, List.length_append]; first | done | omega)) only [wrap_i64', wrap_u64', wrap_u32', wrap_u8', Int.tmod_eq_emod_of_nonneg, Int.tdiv_eq_ediv_of_nonneg, sub_one, sub_all, splice_all, quarterL_len, row1_len, rowN_len, dblN_len, refN_len, roundsL_len, keyN_len, stateL_len, outN_len, blockL_len, catN_len, List.length_set, List.length_replicate, List.length_append]
    repeat' (first | exact True.intro | (with_reducible rfl) | (with_reducible apply And.intro) | omega | rfl)

theorem blockR_ok {α : Type} (E : α → Option (Row α)) (k : List Int) (hk : k.length = 32) (c n : Int) : FnOk Try.prog n_ref02_Block E [.ints .u8 k, .int .u32 c, .int .u64 n] [] (.ints .u8 (blockL k c n)) [] := by
  unfold blockL
  refine FnOk.pure func_ref02_Block call_ref02_Block (body := _) rfl nt_ref02_Block (by simp) (by simp [AV.solid, AV.solidL]) ?_
  refine AWp.reg p_ref02_Block_0 [] s_ref02_Block_0 rfl rfl fun K hK => st_of ?_
  simp only [s_ref02_Block_0, wT, Bool.not_eq_true, ty, zr, Nat.reduceAdd, Nat.reduceSub, Nat.reduceMul, Nat.reduceMod, Nat.reduceDiv, Nat.reduceEqDiff, Nat.reduceLeDiff, Nat.reduceBEq, Int.reduceAdd, Int.reduceSub, Int.reduceMul, Int.reduceNeg, Int.reduceLT, Int.reduceLE, Int.reduceEq, Int.reduceNe, Int.reduceBEq, Int.reduceToNat, Int.reduceTDiv, Int.reduceTMod, Int.reduceOfNat, reduceCtorEq, sty, sui]
  try simp (disch := first | omega | (simp only [quarterL_len, row1_len, rowN_len, dblN_len, refN_len, roundsL_len, keyN_len, stateL_len, outN_len, blockL_len, catN_len, List.length_set, List.length_replicate, List.length_append]; first | done | omega)) only [wrap_i64', wrap_u64', wrap_u32', wrap_u8', Int.tmod_eq_emod_of_nonneg, Int.tdiv_eq_ediv_of_nonneg, sub_one, sub_all, splice_all, quarterL_len, row1_len, rowN_len, dblN_len, refN_len, roundsL_len, keyN_len, stateL_len, outN_len, blockL_len, catN_len, List.length_set, List.length_replicate, List.length_append]
  (repeat ((with_reducible refine And.intro ?_ ?_); (first | omega | exact True.intro | with_reducible rfl | decide | assumption | rfl)))
  refine hK _ ?_; clear hK K
  refine AWp.reg p_ref02_Block_1 [] s_ref02_Block_1 rfl rfl fun K hK => st_of ?_
  simp only [s_ref02_Block_1, wT, Bool.not_eq_true, ty, zr, Nat.reduceAdd, Nat.reduceSub, Nat.reduceMul, Nat.reduceMod, Nat.reduceDiv, Nat.reduceEqDiff, Nat.reduceLeDiff, Nat.reduceBEq, Int.reduceAdd, Int.reduceSub, Int.reduceMul, Int.reduceNeg, Int.reduceLT, Int.reduceLE, Int.reduceEq, Int.reduceNe, Int.reduceBEq, Int.reduceToNat, Int.reduceTDiv, Int.reduceTMod, Int.reduceOfNat, reduceCtorEq, sty, sui]
  try simp (disch := first | omega | (simp only [quarterL_len, row1_len, rowN_len, dblN_len, refN_len, roundsL_len, keyN_len, stateL_len, outN_len, blockL_len, catN_len, List.length_set, List.length_replicate, List.length_append]; first | done | omega)) only [wrap_i64', wrap_u64', wrap_u32', wrap_u8', Int.tmod_eq_emod_of_nonneg, Int.tdiv_eq_ediv_of_nonneg, sub_one, sub_all, splice_all, quarterL_len, row1_len, rowN_len, dblN_len, refN_len, roundsL_len, keyN_len, stateL_len, outN_len, blockL_len, catN_len, List.length_set, List.length_replicate, List.length_append]
  (repeat ((with_reducible refine And.intro ?_ ?_); (first | omega | exact True.intro | with_reducible rfl | decide | assumption | rfl)))
  refine st_call fun K1 hK1 => ?_
  simp only [calleeC, wT, Bool.not_eq_true, ty, zr, Nat.reduceAdd, Nat.reduceSub, Nat.reduceMul, Nat.reduceMod, Nat.reduceDiv, Nat.reduceEqDiff, Nat.reduceLeDiff, Nat.reduceBEq, Int.reduceAdd, Int.reduceSub, Int.reduceMul, Int.reduceNeg, Int.reduceLT, Int.reduceLE, Int.reduceEq, Int.reduceNe, Int.reduceBEq, Int.reduceToNat, Int.reduceTDiv, Int.reduceTMod, Int.reduceOfNat, reduceCtorEq, sty, sui]
  try simp (disch := first | omega | (simp only [quarterL_len, row1_len, rowN_len, dblN_len, refN_len, roundsL_len, keyN_len, stateL_len, outN_len, blockL_len, catN_len, List.length_set, List.length_replicate, List.length_append]; first | done | omega)) only [wrap_i64', wrap_u64', wrap_u32', wrap_u8', Int.tmod_eq_emod_of_nonneg, Int.tdiv_eq_ediv_of_nonneg, sub_one, sub_all, splice_all, quarterL_len, row1_len, rowN_len, dblN_len, refN_len, roundsL_len, keyN_len, stateL_len, outN_len, blockL_len, catN_len, List.length_set, List.length_replicate, List.length_append]
  refine hK1 _ _ ?_
  clear hK1 K1
  simp only [CallTo, AV.mapL, AV.map, mapL_flat, mapL_flat1]
  refine ⟨_, _, stateR_ok _ _ hk _ _, ?_⟩
  simp only [wT, Bool.not_eq_true, ty, zr, Nat.reduceAdd, Nat.reduceSub, Nat.reduceMul, Nat.reduceMod, Nat.reduceDiv, Nat.reduceEqDiff, Nat.reduceLeDiff, Nat.reduceBEq, Int.reduceAdd, Int.reduceSub, Int.reduceMul, Int.reduceNeg, Int.reduceLT, Int.reduceLE, Int.reduceEq, Int.reduceNe, Int.reduceBEq, Int.reduceToNat, Int.reduceTDiv, Int.reduceTMod, Int.reduceOfNat, reduceCtorEq, sty, sui]
  try simp (disch := first | omega | (simp only [quarterL_len, row1_len, rowN_len, dblN_len, refN_len, roundsL_len, keyN_len, stateL_len, outN_len, blockL_len, catN_len, List.length_set, List.length_replicate, List.length_append]; first | done | omega)) only [wrap_i64', wrap_u64', wrap_u32', wrap_u8', Int.tmod_eq_emod_of_nonneg, Int.tdiv_eq_ediv_of_nonneg, sub_one, sub_all, splice_all, quarterL_len, row1_len, rowN_len, dblN_len, refN_len, roundsL_len, keyN_len, stateL_len, outN_len, blockL_len, catN_len, List.length_set, List.length_replicate, List.length_append]
  (repeat ((with_reducible refine And.intro ?_ ?_); (first | omega | exact True.intro | with_reducible rfl | decide | assumption | rfl)))
  refine hK _ ?_; clear hK K
  refine AWp.reg p_ref02_Block_2 [] s_ref02_Block_2 rfl rfl fun K hK => st_of ?_
  simp only [s_ref02_Block_2, wT, Bool.not_eq_true, ty, zr, Nat.reduceAdd, Nat.reduceSub, Nat.reduceMul, Nat.reduceMod, Nat.reduceDiv, Nat.reduceEqDiff, Nat.reduceLeDiff, Nat.reduceBEq, Int.reduceAdd, Int.reduceSub, Int.reduceMul, Int.reduceNeg, Int.reduceLT, Int.reduceLE, Int.reduceEq, Int.reduceNe, Int.reduceBEq, Int.reduceToNat, Int.reduceTDiv, Int.reduceTMod, Int.reduceOfNat, reduceCtorEq, sty, sui]
  try simp (disch := first | omega | (simp only [quarterL_len, row1_len, rowN_len, dblN_len, refN_len, roundsL_len, keyN_len, stateL_len, outN_len, blockL_len, catN_len, List.length_set, List.length_replicate, List.length_append]; first | done | omega)) only [wrap_i64', wrap_u64', wrap_u32', wrap_u8', Int.tmod_eq_emod_of_nonneg, Int.tdiv_eq_ediv_of_nonneg, sub_one, sub_all, splice_all, quarterL_len, row1_len, rowN_len, dblN_len, refN_len, roundsL_len, keyN_len, stateL_len, outN_len, blockL_len, catN_len, List.length_set, List.length_replicate, List.length_append]
  (repeat ((with_reducible refine And.intro ?_ ?_); (first | omega | exact True.intro | with_reducible rfl | decide | assumption | rfl)))
  refine st_call fun K1 hK1 => ?_
  simp only [calleeC, wT, Bool.not_eq_true, ty, zr, Nat.reduceAdd, Nat.reduceSub, Nat.reduceMul, Nat.reduceMod, Nat.reduceDiv, Nat.reduceEqDiff, Nat.reduceLeDiff, Nat.reduceBEq, Int.reduceAdd, Int.reduceSub, Int.reduceMul, Int.reduceNeg, Int.reduceLT, Int.reduceLE, Int.reduceEq, Int.reduceNe, Int.reduceBEq, Int.reduceToNat, Int.reduceTDiv, Int.reduceTMod, Int.reduceOfNat, reduceCtorEq, sty, sui]
  try simp (disch := first | omega | (simp only [quarterL_len, row1_len, rowN_len, dblN_len, refN_len, roundsL_len, keyN_len, stateL_len, outN_len, blockL_len, catN_len, List.length_set, List.length_replicate, List.length_append]; first | done | omega)) only [wrap_i64', wrap_u64', wrap_u32', wrap_u8', Int.tmod_eq_emod_of_nonneg, Int.tdiv_eq_ediv_of_nonneg, sub_one, sub_all, splice_all, quarterL_len, row1_len, rowN_len, dblN_len, refN_len, roundsL_len, keyN_len, stateL_len, outN_len, blockL_len, catN_len, List.length_set, List.length_replicate, List.length_append]
  refine hK1 _ _ ?_
  clear hK1 K1
  simp only [CallTo, AV.mapL, AV.map, mapL_flat, mapL_flat1]
  refine ⟨_, _, roundsRC_ok _ _ (stateL_len _ _ _), ?_⟩
  simp only [wT, Bool.not_eq_true, ty, zr, Nat.reduceAdd, Nat.reduceSub, Nat.reduceMul, Nat.reduceMod, Nat.reduceDiv, Nat.reduceEqDiff, Nat.reduceLeDiff, Nat.reduceBEq, Int.reduceAdd, Int.reduceSub, Int.reduceMul, Int.reduceNeg, Int.reduceLT, Int.reduceLE, Int.reduceEq, Int.reduceNe, Int.reduceBEq, Int.reduceToNat, Int.reduceTDiv, Int.reduceTMod, Int.reduceOfNat, reduceCtorEq, sty, sui]
  try simp (disch := first | omega | (simp only [quarterL_len, row1_len, rowN_len, dblN_len, refN_len, roundsL_len, keyN_len, stateL_len, outN_len, blockL_len, catN_len, List.length_set, List.length_replicate, List.length_append]; first | done | omega)) only [wrap_i64', wrap_u64', wrap_u32', wrap_u8', Int.tmod_eq_emod_of_nonneg, Int.tdiv_eq_ediv_of_nonneg, sub_one, sub_all, splice_all, quarterL_len, row1_len, rowN_len, dblN_len, refN_len, roundsL_len, keyN_len, stateL_len, outN_len, blockL_len, catN_len, List.length_set, List.length_replicate, List.length_append]
  (repeat ((with_reducible refine And.intro ?_ ?_); (first | omega | exact True.intro | with_reducible rfl | decide | assumption | rfl)))
  refine hK _ ?_; clear hK K
  refine AWp.reg p_ref02_Block_3 [] s_ref02_Block_3 rfl rfl fun K hK => st_of ?_
  simp only [s_ref02_Block_3, wT, Bool.not_eq_true, ty, zr, Nat.reduceAdd, Nat.reduceSub, Nat.reduceMul, Nat.reduceMod, Nat.reduceDiv, Nat.reduceEqDiff, Nat.reduceLeDiff, Nat.reduceBEq, Int.reduceAdd, Int.reduceSub, Int.reduceMul, Int.reduceNeg, Int.reduceLT, Int.reduceLE, Int.reduceEq, Int.reduceNe, Int.reduceBEq, Int.reduceToNat, Int.reduceTDiv, Int.reduceTMod, Int.reduceOfNat, reduceCtorEq, sty, sui]
  try simp (disch := first | omega | (simp only [quarterL_len, row1_len, rowN_len, dblN_len, refN_len, roundsL_len, keyN_len, stateL_len, outN_len, blockL_len, catN_len, List.length_set, List.length_replicate, List.length_append]; first | done | omega)) only [wrap_i64', wrap_u64', wrap_u32', wrap_u8', Int.tmod_eq_emod_of_nonneg, Int.tdiv_eq_ediv_of_nonneg, sub_one, sub_all, splice_all, quarterL_len, row1_len, rowN_len, dblN_len, refN_len, roundsL_len, keyN_len, stateL_len, outN_len, blockL_len, catN_len, List.length_set, List.length_replicate, List.length_append]
  (repeat ((with_reducible refine And.intro ?_ ?_); (first | omega | exact True.intro | with_reducible rfl | decide | assumption | rfl)))
  refine hK _ ?_; clear hK K
  refine AWp.grp fun G32 hG32 => ?_
  refine AWp.reg p_ref02_Block_4 [] s_ref02_Block_4 rfl rfl fun K hK => st_of ?_
  simp only [s_ref02_Block_4, wT, Bool.not_eq_true, ty, zr, Nat.reduceAdd, Nat.reduceSub, Nat.reduceMul, Nat.reduceMod, Nat.reduceDiv, Nat.reduceEqDiff, Nat.reduceLeDiff, Nat.reduceBEq, Int.reduceAdd, Int.reduceSub, Int.reduceMul, Int.reduceNeg, Int.reduceLT, Int.reduceLE, Int.reduceEq, Int.reduceNe, Int.reduceBEq, Int.reduceToNat, Int.reduceTDiv, Int.reduceTMod, Int.reduceOfNat, reduceCtorEq, sty, sui]
  try simp (disch := first | omega | (simp only [quarterL_len, row1_len, rowN_len, dblN_len, refN_len, roundsL_len, keyN_len, stateL_len, outN_len, blockL_len, catN_len, List.length_set, List.length_replicate, List.length_append]; first | done | omega)) only [wrap_i64', wrap_u64', wrap_u32', wrap_u8', Int.tmod_eq_emod_of_nonneg, Int.tdiv_eq_ediv_of_nonneg, sub_one, sub_all, splice_all, quarterL_len, row1_len, rowN_len, dblN_len, refN_len, roundsL_len, keyN_len, stateL_len, outN_len, blockL_len, catN_len, List.length_set, List.length_replicate, List.length_append]
  (repeat ((with_reducible refine And.intro ?_ ?_); (first | omega | exact True.intro | with_reducible rfl | decide | assumption | rfl)))
  refine hK _ ?_; clear hK K
  refine AWp.lopX (fun i => ⟨[(6, .ptr (.own 1) 0), (7, .ptr (.own 2) 0), (8, .ptr (.own 3) 0), (9, .ptr (.own 4) 0), (10, .int .i64 i)], [none, some (.ints .u8 (List.replicate 64 0)), some (.ints .u32 (stateL k c n)), some (.ints .u32 (roundsL (stateL k c n))), some (.ints .u8 (outN (stateL k c n) (roundsL (stateL k c n)) i))]⟩) (64) ?_ fun X0 hX0 i hn0 => ?_
  · simp only [outN_zero]
    exact Le.ofA
  refine AWp.grp fun G40 hG40 => ?_
  refine AWp.reg p_ref02_Block_5 [] s_ref02_Block_5 rfl rfl fun K hK => st_of ?_
  simp only [s_ref02_Block_5, wT, Bool.not_eq_true, ty, zr, Nat.reduceAdd, Nat.reduceSub, Nat.reduceMul, Nat.reduceMod, Nat.reduceDiv, Nat.reduceEqDiff, Nat.reduceLeDiff, Nat.reduceBEq, Int.reduceAdd, Int.reduceSub, Int.reduceMul, Int.reduceNeg, Int.reduceLT, Int.reduceLE, Int.reduceEq, Int.reduceNe, Int.reduceBEq, Int.reduceToNat, Int.reduceTDiv, Int.reduceTMod, Int.reduceOfNat, reduceCtorEq, sty, sui]
  try simp (disch := first | omega | (simp only [quarterL_len, row1_len, rowN_len, dblN_len, refN_len, roundsL_len, keyN_len, stateL_len, outN_len, blockL_len, catN_len, List.length_set, List.length_replicate, List.length_append]; first | done | omega)) only [wrap_i64', wrap_u64', wrap_u32', wrap_u8', Int.tmod_eq_emod_of_nonneg, Int.tdiv_eq_ediv_of_nonneg, sub_one, sub_all, splice_all, quarterL_len, row1_len, rowN_len, dblN_len, refN_len, roundsL_len, keyN_len, stateL_len, outN_len, blockL_len, catN_len, List.length_set, List.length_replicate, List.length_append]
  (repeat ((with_reducible refine And.intro ?_ ?_); (first | omega | exact True.intro | with_reducible rfl | decide | assumption | rfl)))
  refine hK _ ?_; clear hK K
  refine AWp.testE rfl (fun hb => ?_) (fun hb => ?_)
  · try simp only [decide_eq_true_eq, decide_eq_false_iff_not, beq_iff_eq, bne_iff_ne, ne_eq, Bool.not_eq_true, beq_eq_false_iff_ne, bne_eq_false_iff_eq, Bool.not_eq_false, Bool.not_eq_eq_eq_not, Bool.not_true, Bool.not_false] at hb
    try simp only [thenQ, bq, lq, lf, iq, gq, Nat.reduceEqDiff, if_true, if_false]
    refine hG40 _ ?_
    try clear hG40 G40
    refine AWp.blk fun Y1 hY1 => ?_
    refine AWp.drwPE mix p_ref02_Block_7 q_ref02_Block_7 g_ref02_Block_7 s_ref02_Block_7 rfl (by decide +kernel) (sp_of ?_)
    simp only [s_ref02_Block_7, wT, Bool.not_eq_true, ty, zr, Nat.reduceAdd, Nat.reduceSub, Nat.reduceMul, Nat.reduceMod, Nat.reduceDiv, Nat.reduceEqDiff, Nat.reduceLeDiff, Nat.reduceBEq, Int.reduceAdd, Int.reduceSub, Int.reduceMul, Int.reduceNeg, Int.reduceLT, Int.reduceLE, Int.reduceEq, Int.reduceNe, Int.reduceBEq, Int.reduceToNat, Int.reduceTDiv, Int.reduceTMod, Int.reduceOfNat, reduceCtorEq, sty, sui]
    try simp (disch := first | omega | (simp only [quarterL_len, row1_len, rowN_len, dblN_len, refN_len, roundsL_len, keyN_len, stateL_len, outN_len, blockL_len, catN_len, List.length_set, List.length_replicate, List.length_append]; first | done | omega)) only [wrap_i64', wrap_u64', wrap_u32', wrap_u8', Int.tmod_eq_emod_of_nonneg, Int.tdiv_eq_ediv_of_nonneg, sub_one, sub_all, splice_all, quarterL_len, row1_len, rowN_len, dblN_len, refN_len, roundsL_len, keyN_len, stateL_len, outN_len, blockL_len, catN_len, List.length_set, List.length_replicate, List.length_append]
    (repeat ((with_reducible refine And.intro ?_ ?_); (first | omega | exact True.intro | with_reducible rfl | decide | assumption | rfl)))
    try simp only [thenQ, bq, lq, lf, iq, gq, Nat.reduceEqDiff, if_true, if_false]
    refine hY1 _ ?_
    try clear hY1 Y1
    refine AWp.regE p_ref02_Block_6 [] s_ref02_Block_6 rfl rfl (st_of ?_)
    simp only [s_ref02_Block_6, wT, Bool.not_eq_true, ty, zr, Nat.reduceAdd, Nat.reduceSub, Nat.reduceMul, Nat.reduceMod, Nat.reduceDiv, Nat.reduceEqDiff, Nat.reduceLeDiff, Nat.reduceBEq, Int.reduceAdd, Int.reduceSub, Int.reduceMul, Int.reduceNeg, Int.reduceLT, Int.reduceLE, Int.reduceEq, Int.reduceNe, Int.reduceBEq, Int.reduceToNat, Int.reduceTDiv, Int.reduceTMod, Int.reduceOfNat, reduceCtorEq, sty, sui]
    try simp (disch := first | omega | (simp only [quarterL_len, row1_len, rowN_len, dblN_len, refN_len, roundsL_len, keyN_len, stateL_len, outN_len, blockL_len, catN_len, List.length_set, List.length_replicate, List.length_append]; first | done | omega)) only [wrap_i64', wrap_u64', wrap_u32', wrap_u8', Int.tmod_eq_emod_of_nonneg, Int.tdiv_eq_ediv_of_nonneg, sub_one, sub_all, splice_all, quarterL_len, row1_len, rowN_len, dblN_len, refN_len, roundsL_len, keyN_len, stateL_len, outN_len, blockL_len, catN_len, List.length_set, List.length_replicate, List.length_append]
    (repeat ((with_reducible refine And.intro ?_ ?_); (first | omega | exact True.intro | with_reducible rfl | decide | assumption | rfl)))
    try simp only [thenQ, bq, lq, lf, iq, gq, Nat.reduceEqDiff, if_true, if_false]
    simp only [outN_succ]
    first | exact ⟨by omega, Le.ofA⟩ | exact Le.ofA
  · try simp only [decide_eq_true_eq, decide_eq_false_iff_not, beq_iff_eq, bne_iff_ne, ne_eq, Bool.not_eq_true, beq_eq_false_iff_ne, bne_eq_false_iff_eq, Bool.not_eq_false, Bool.not_eq_eq_eq_not, Bool.not_true, Bool.not_false] at hb
    try simp only [thenQ, bq, lq, lf, iq, gq, Nat.reduceEqDiff, if_true, if_false]
    refine hX0 _ ?_
    try clear hX0 X0
    obtain rfl : i = 64 := by omega
    try simp only [thenQ, bq, lq, lf, iq, gq, Nat.reduceEqDiff, if_true, if_false]
    refine hG32 _ ?_
    try clear hG32 G32
    refine AWp.reg p_ref02_Block_8 [] s_ref02_Block_8 rfl rfl fun K hK => st_of ?_
    simp only [s_ref02_Block_8, wT, Bool.not_eq_true, ty, zr, Nat.reduceAdd, Nat.reduceSub, Nat.reduceMul, Nat.reduceMod, Nat.reduceDiv, Nat.reduceEqDiff, Nat.reduceLeDiff, Nat.reduceBEq, Int.reduceAdd, Int.reduceSub, Int.reduceMul, Int.reduceNeg, Int.reduceLT, Int.reduceLE, Int.reduceEq, Int.reduceNe, Int.reduceBEq, Int.reduceToNat, Int.reduceTDiv, Int.reduceTMod, Int.reduceOfNat, reduceCtorEq, sty, sui]
    try simp (disch := first | omega | (simp only [quarterL_len, row1_len, rowN_len, dblN_len, refN_len, roundsL_len, keyN_len, stateL_len, outN_len, blockL_len, catN_len, List.length_set, List.length_replicate, List.length_append]; first | done | omega)) only [wrap_i64', wrap_u64', wrap_u32', wrap_u8', Int.tmod_eq_emod_of_nonneg, Int.tdiv_eq_ediv_of_nonneg, sub_one, sub_all, splice_all, quarterL_len, row1_len, rowN_len, dblN_len, refN_len, roundsL_len, keyN_len, stateL_len, outN_len, blockL_len, catN_len, List.length_set, List.length_replicate, List.length_append]
    (repeat ((with_reducible refine And.intro ?_ ?_); (first | omega | exact True.intro | with_reducible rfl | decide | assumption | rfl)))
    refine hK _ ?_; clear hK K
    refine AWp.ret ?_
    try simp only [thenQ, bq, lq, lf, iq, gq, Nat.reduceEqDiff, if_true, if_false]
    simp only [endQ, rs_ref02_Block, resC, one, wT, Bool.not_eq_true, ty, zr, Nat.reduceAdd, Nat.reduceSub, Nat.reduceMul, Nat.reduceMod, Nat.reduceDiv, Nat.reduceEqDiff, Nat.reduceLeDiff, Nat.reduceBEq, Int.reduceAdd, Int.reduceSub, Int.reduceMul, Int.reduceNeg, Int.reduceLT, Int.reduceLE, Int.reduceEq, Int.reduceNe, Int.reduceBEq, Int.reduceToNat, Int.reduceTDiv, Int.reduceTMod, Int.reduceOfNat, reduceCtorEq, sty, sui]
    try simp (disch := first | omega | (simp only [quarterL_len, row1_len, rowN_len, dblN_len, refN_len, roundsL_len, keyN_len, stateL_len, outN_len, blockL_len, catN_len, List.length_set, List.length_replicate, List.length_append]; first | done | omega)) only [wrap_i64', wrap_u64', wrap_u32', wrap_u8', Int.tmod_eq_emod_of_nonneg, Int.tdiv_eq_ediv_of_nonneg, sub_one, sub_all, splice_all, quarterL_len, row1_len, rowN_len, dblN_len, refN_len, roundsL_len, keyN_len, stateL_len, outN_len, blockL_len, catN_len, List.length_set, List.length_replicate, List.length_append]
    repeat' (first | exact True.intro | (with_reducible rfl) | (with_reducible apply And.intro) | omega | rfl)
end Go.Proofs.Ytbnjeafjnglldaa
