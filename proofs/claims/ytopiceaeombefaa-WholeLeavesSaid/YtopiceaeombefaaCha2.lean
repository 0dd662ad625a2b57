import Derived.Test.YtopiceaeombefaaCha1
import Derived.Test.YtopiceaeombefaaChaM2
namespace Go.Proofs.Ytopiceaeombefaa
open Go Go.Proofs.Ytopiceaeombefaa.Sy
set_option linter.unusedSimpArgs false
set_option linter.unusedVariables false
set_option maxRecDepth 100000



theorem stateI_ok {α : Type} (E : α → Option (Row α)) (k : List Int) (hk : k.length = 32) (c n : Int) : FnOk Try.prog n_chacha_state E [.ints .u8 k, .int .u32 c, .int .u64 n] [] (.ints .u32 (stateL k c n)) [] := by
  unfold stateL
  refine FnOk.pure func_chacha_state call_chacha_state (body := _) rfl nt_chacha_state (by simp) (by simp [AV.solid, AV.solidL]) ?_
  refine AWp.reg p_chacha_state_0 [] s_chacha_state_0 rfl rfl fun K hK => st_of ?_
  simp only [s_chacha_state_0, wT, Bool.not_eq_true, ty, zr, Nat.reduceAdd, Nat.reduceSub, Nat.reduceMul, Nat.reduceMod, Nat.reduceDiv, Nat.reduceEqDiff, Nat.reduceLeDiff, Nat.reduceBEq, Int.reduceAdd, Int.reduceSub, Int.reduceMul, Int.reduceNeg, Int.reduceLT, Int.reduceLE, Int.reduceEq, Int.reduceNe, Int.reduceBEq, Int.reduceToNat, Int.reduceTDiv, Int.reduceTMod, Int.reduceOfNat, reduceCtorEq, sty, sui]
  try simp (disch := first | omega | (simp only [quarterL_len, row1_len, rowN_len, dblN_len, refN_len, roundsL_len, keyN_len, stateL_len, outN_len, blockL_len, catN_len, List.length_set, List.length_replicate, List.length_append]; first | done | omega)) only [wrap_i64', wrap_u64', wrap_u32', wrap_u8', Int.tmod_eq_emod_of_nonneg, Int.tdiv_eq_ediv_of_nonneg, sub_one, sub_all, splice_all, quarterL_len, row1_len, rowN_len, dblN_len, refN_len, roundsL_len, keyN_len, stateL_len, outN_len, blockL_len, catN_len, List.length_set, List.length_replicate, List.length_append]
  (repeat ((with_reducible refine And.intro ?_ ?_); (first | omega | exact True.intro | with_reducible rfl | decide | assumption | rfl)))
  refine hK _ ?_; clear hK K
  refine AWp.reg p_chacha_state_1 [] s_chacha_state_1 rfl rfl fun K hK => st_of ?_
  simp only [s_chacha_state_1, wT, Bool.not_eq_true, ty, zr, Nat.reduceAdd, Nat.reduceSub, Nat.reduceMul, Nat.reduceMod, Nat.reduceDiv, Nat.reduceEqDiff, Nat.reduceLeDiff, Nat.reduceBEq, Int.reduceAdd, Int.reduceSub, Int.reduceMul, Int.reduceNeg, Int.reduceLT, Int.reduceLE, Int.reduceEq, Int.reduceNe, Int.reduceBEq, Int.reduceToNat, Int.reduceTDiv, Int.reduceTMod, Int.reduceOfNat, reduceCtorEq, sty, sui]
  try simp (disch := first | omega | (simp only [quarterL_len, row1_len, rowN_len, dblN_len, refN_len, roundsL_len, keyN_len, stateL_len, outN_len, blockL_len, catN_len, List.length_set, List.length_replicate, List.length_append]; first | done | omega)) only [wrap_i64', wrap_u64', wrap_u32', wrap_u8', Int.tmod_eq_emod_of_nonneg, Int.tdiv_eq_ediv_of_nonneg, sub_one, sub_all, splice_all, quarterL_len, row1_len, rowN_len, dblN_len, refN_len, roundsL_len, keyN_len, stateL_len, outN_len, blockL_len, catN_len, List.length_set, List.length_replicate, List.length_append]
  (repeat ((with_reducible refine And.intro ?_ ?_); (first | omega | exact True.intro | with_reducible rfl | decide | assumption | rfl)))
  refine hK _ ?_; clear hK K
  refine AWp.grp fun G8 hG8 => ?_
  refine AWp.reg p_chacha_state_2 [] s_chacha_state_2 rfl rfl fun K hK => st_of ?_
  simp only [s_chacha_state_2, wT, Bool.not_eq_true, ty, zr, Nat.reduceAdd, Nat.reduceSub, Nat.reduceMul, Nat.reduceMod, Nat.reduceDiv, Nat.reduceEqDiff, Nat.reduceLeDiff, Nat.reduceBEq, Int.reduceAdd, Int.reduceSub, Int.reduceMul, Int.reduceNeg, Int.reduceLT, Int.reduceLE, Int.reduceEq, Int.reduceNe, Int.reduceBEq, Int.reduceToNat, Int.reduceTDiv, Int.reduceTMod, Int.reduceOfNat, reduceCtorEq, sty, sui]
  try simp (disch := first | omega | (simp only [quarterL_len, row1_len, rowN_len, dblN_len, refN_len, roundsL_len, keyN_len, stateL_len, outN_len, blockL_len, catN_len, List.length_set, List.length_replicate, List.length_append]; first | done | omega)) only [wrap_i64', wrap_u64', wrap_u32', wrap_u8', Int.tmod_eq_emod_of_nonneg, Int.tdiv_eq_ediv_of_nonneg, sub_one, sub_all, splice_all, quarterL_len, row1_len, rowN_len, dblN_len, refN_len, roundsL_len, keyN_len, stateL_len, outN_len, blockL_len, catN_len, List.length_set, List.length_replicate, List.length_append]
  (repeat ((with_reducible refine And.intro ?_ ?_); (first | omega | exact True.intro | with_reducible rfl | decide | assumption | rfl)))
  refine hK _ ?_; clear hK K
  refine AWp.lopX (fun i => ⟨[(3, .ptr (.own 0) 0), (6, .ptr (.own 1) 0), (7, .ptr (.own 2) 0), (1, .int .u32 c), (2, .int .u64 n), (11, .ints .u8 k), (12, .int .i64 i)], [some (.ints .u8 k), some (.ints .u32 (List.replicate 16 0)), some (.ints .u32 (keyN k i))]⟩) (32) ?_ fun X0 hX0 i hn0 => ?_
  · simp only [keyN_zero, s0L]
    exact Le.ofA
  refine AWp.reg p_chacha_state_3 [] s_chacha_state_3 rfl rfl fun K hK => st_of ?_
  simp only [s_chacha_state_3, wT, Bool.not_eq_true, ty, zr, Nat.reduceAdd, Nat.reduceSub, Nat.reduceMul, Nat.reduceMod, Nat.reduceDiv, Nat.reduceEqDiff, Nat.reduceLeDiff, Nat.reduceBEq, Int.reduceAdd, Int.reduceSub, Int.reduceMul, Int.reduceNeg, Int.reduceLT, Int.reduceLE, Int.reduceEq, Int.reduceNe, Int.reduceBEq, Int.reduceToNat, Int.reduceTDiv, Int.reduceTMod, Int.reduceOfNat, reduceCtorEq, sty, sui]
  try simp (disch := first | omega | (simp only [quarterL_len, row1_len, rowN_len, dblN_len, refN_len, roundsL_len, keyN_len, stateL_len, outN_len, blockL_len, catN_len, List.length_set, List.length_replicate, List.length_append]; first | done | omega)) only [wrap_i64', wrap_u64', wrap_u32', wrap_u8', Int.tmod_eq_emod_of_nonneg, Int.tdiv_eq_ediv_of_nonneg, sub_one, sub_all, splice_all, quarterL_len, row1_len, rowN_len, dblN_len, refN_len, roundsL_len, keyN_len, stateL_len, outN_len, blockL_len, catN_len, List.length_set, List.length_replicate, List.length_append]
  (repeat ((with_reducible refine And.intro ?_ ?_); (first | omega | exact True.intro | with_reducible rfl | decide | assumption | rfl)))
  refine hK _ ?_; clear hK K
  refine AWp.test rfl (fun hb => ?_) (fun hb => ?_)
  · try simp only [decide_eq_true_eq, decide_eq_false_iff_not, beq_iff_eq, bne_iff_ne, ne_eq, Bool.not_eq_true, beq_eq_false_iff_ne, bne_eq_false_iff_eq, Bool.not_eq_false, Bool.not_eq_eq_eq_not, Bool.not_true, Bool.not_false] at hb
    refine AWp.blk fun Y1 hY1 => ?_
    refine AWp.reg p_chacha_state_4 [] s_chacha_state_4 rfl rfl fun K hK => st_of ?_
    simp only [s_chacha_state_4, wT, Bool.not_eq_true, ty, zr, Nat.reduceAdd, Nat.reduceSub, Nat.reduceMul, Nat.reduceMod, Nat.reduceDiv, Nat.reduceEqDiff, Nat.reduceLeDiff, Nat.reduceBEq, Int.reduceAdd, Int.reduceSub, Int.reduceMul, Int.reduceNeg, Int.reduceLT, Int.reduceLE, Int.reduceEq, Int.reduceNe, Int.reduceBEq, Int.reduceToNat, Int.reduceTDiv, Int.reduceTMod, Int.reduceOfNat, reduceCtorEq, sty, sui]
    try simp (disch := first | omega | (simp only [quarterL_len, row1_len, rowN_len, dblN_len, refN_len, roundsL_len, keyN_len, stateL_len, outN_len, blockL_len, catN_len, List.length_set, List.length_replicate, List.length_append]; first | done | omega)) only [wrap_i64', wrap_u64', wrap_u32', wrap_u8', Int.tmod_eq_emod_of_nonneg, Int.tdiv_eq_ediv_of_nonneg, sub_one, sub_all, splice_all, quarterL_len, row1_len, rowN_len, dblN_len, refN_len, roundsL_len, keyN_len, stateL_len, outN_len, blockL_len, catN_len, List.length_set, List.length_replicate, List.length_append]
    (repeat ((with_reducible refine And.intro ?_ ?_); (first | omega | exact True.intro | with_reducible rfl | decide | assumption | rfl)))
    refine hK _ ?_; clear hK K
    refine AWp.drwPE mix p_chacha_state_5 q_chacha_state_5 g_chacha_state_5 s_chacha_state_5 rfl (by decide +kernel) (sp_of ?_)
    simp only [s_chacha_state_5, wT, Bool.not_eq_true, ty, zr, Nat.reduceAdd, Nat.reduceSub, Nat.reduceMul, Nat.reduceMod, Nat.reduceDiv, Nat.reduceEqDiff, Nat.reduceLeDiff, Nat.reduceBEq, Int.reduceAdd, Int.reduceSub, Int.reduceMul, Int.reduceNeg, Int.reduceLT, Int.reduceLE, Int.reduceEq, Int.reduceNe, Int.reduceBEq, Int.reduceToNat, Int.reduceTDiv, Int.reduceTMod, Int.reduceOfNat, reduceCtorEq, sty, sui]
    try simp (disch := first | omega | (simp only [quarterL_len, row1_len, rowN_len, dblN_len, refN_len, roundsL_len, keyN_len, stateL_len, outN_len, blockL_len, catN_len, List.length_set, List.length_replicate, List.length_append]; first | done | omega)) only [wrap_i64', wrap_u64', wrap_u32', wrap_u8', Int.tmod_eq_emod_of_nonneg, Int.tdiv_eq_ediv_of_nonneg, sub_one, sub_all, splice_all, quarterL_len, row1_len, rowN_len, dblN_len, refN_len, roundsL_len, keyN_len, stateL_len, outN_len, blockL_len, catN_len, List.length_set, List.length_replicate, List.length_append]
    (repeat ((with_reducible refine And.intro ?_ ?_); (first | omega | exact True.intro | with_reducible rfl | decide | assumption | rfl)))
    try simp only [thenQ, bq, lq, lf, iq, gq, Nat.reduceEqDiff, if_true, if_false]
    refine hY1 _ ?_
    try clear hY1 Y1
    refine AWp.regE p_chacha_state_6 [] s_chacha_state_6 rfl rfl (st_of ?_)
    simp only [s_chacha_state_6, wT, Bool.not_eq_true, ty, zr, Nat.reduceAdd, Nat.reduceSub, Nat.reduceMul, Nat.reduceMod, Nat.reduceDiv, Nat.reduceEqDiff, Nat.reduceLeDiff, Nat.reduceBEq, Int.reduceAdd, Int.reduceSub, Int.reduceMul, Int.reduceNeg, Int.reduceLT, Int.reduceLE, Int.reduceEq, Int.reduceNe, Int.reduceBEq, Int.reduceToNat, Int.reduceTDiv, Int.reduceTMod, Int.reduceOfNat, reduceCtorEq, sty, sui]
    try simp (disch := first | omega | (simp only [quarterL_len, row1_len, rowN_len, dblN_len, refN_len, roundsL_len, keyN_len, stateL_len, outN_len, blockL_len, catN_len, List.length_set, List.length_replicate, List.length_append]; first | done | omega)) only [wrap_i64', wrap_u64', wrap_u32', wrap_u8', Int.tmod_eq_emod_of_nonneg, Int.tdiv_eq_ediv_of_nonneg, sub_one, sub_all, splice_all, quarterL_len, row1_len, rowN_len, dblN_len, refN_len, roundsL_len, keyN_len, stateL_len, outN_len, blockL_len, catN_len, List.length_set, List.length_replicate, List.length_append]
    (repeat ((with_reducible refine And.intro ?_ ?_); (first | omega | exact True.intro | with_reducible rfl | decide | assumption | rfl)))
    try simp only [thenQ, bq, lq, lf, iq, gq, Nat.reduceEqDiff, if_true, if_false]
    simp only [keyN_succ]
    first | exact ⟨by omega, Le.ofA⟩ | exact Le.ofA
  · try simp only [decide_eq_true_eq, decide_eq_false_iff_not, beq_iff_eq, bne_iff_ne, ne_eq, Bool.not_eq_true, beq_eq_false_iff_ne, bne_eq_false_iff_eq, Bool.not_eq_false, Bool.not_eq_eq_eq_not, Bool.not_true, Bool.not_false] at hb
    try simp only [thenQ, bq, lq, lf, iq, gq, Nat.reduceEqDiff, if_true, if_false]
    refine hX0 _ ?_
    try clear hX0 X0
    obtain rfl : i = 32 := by omega
    try simp only [thenQ, bq, lq, lf, iq, gq, Nat.reduceEqDiff, if_true, if_false]
    refine hG8 _ ?_
    try clear hG8 G8
    refine AWp.reg p_chacha_state_7 [] s_chacha_state_7 rfl rfl fun K hK => st_of ?_
    simp only [s_chacha_state_7, wT, Bool.not_eq_true, ty, zr, Nat.reduceAdd, Nat.reduceSub, Nat.reduceMul, Nat.reduceMod, Nat.reduceDiv, Nat.reduceEqDiff, Nat.reduceLeDiff, Nat.reduceBEq, Int.reduceAdd, Int.reduceSub, Int.reduceMul, Int.reduceNeg, Int.reduceLT, Int.reduceLE, Int.reduceEq, Int.reduceNe, Int.reduceBEq, Int.reduceToNat, Int.reduceTDiv, Int.reduceTMod, Int.reduceOfNat, reduceCtorEq, sty, sui]
    try simp (disch := first | omega | (simp only [quarterL_len, row1_len, rowN_len, dblN_len, refN_len, roundsL_len, keyN_len, stateL_len, outN_len, blockL_len, catN_len, List.length_set, List.length_replicate, List.length_append]; first | done | omega)) only [wrap_i64', wrap_u64', wrap_u32', wrap_u8', Int.tmod_eq_emod_of_nonneg, Int.tdiv_eq_ediv_of_nonneg, sub_one, sub_all, splice_all, quarterL_len, row1_len, rowN_len, dblN_len, refN_len, roundsL_len, keyN_len, stateL_len, outN_len, blockL_len, catN_len, List.length_set, List.length_replicate, List.length_append]
    (repeat ((with_reducible refine And.intro ?_ ?_); (first | omega | exact True.intro | with_reducible rfl | decide | assumption | rfl)))
    refine hK _ ?_; clear hK K
    refine AWp.reg p_chacha_state_8 [] s_chacha_state_8 rfl rfl fun K hK => st_of ?_
    simp only [s_chacha_state_8, wT, Bool.not_eq_true, ty, zr, Nat.reduceAdd, Nat.reduceSub, Nat.reduceMul, Nat.reduceMod, Nat.reduceDiv, Nat.reduceEqDiff, Nat.reduceLeDiff, Nat.reduceBEq, Int.reduceAdd, Int.reduceSub, Int.reduceMul, Int.reduceNeg, Int.reduceLT, Int.reduceLE, Int.reduceEq, Int.reduceNe, Int.reduceBEq, Int.reduceToNat, Int.reduceTDiv, Int.reduceTMod, Int.reduceOfNat, reduceCtorEq, sty, sui]
    try simp (disch := first | omega | (simp only [quarterL_len, row1_len, rowN_len, dblN_len, refN_len, roundsL_len, keyN_len, stateL_len, outN_len, blockL_len, catN_len, List.length_set, List.length_replicate, List.length_append]; first | done | omega)) only [wrap_i64', wrap_u64', wrap_u32', wrap_u8', Int.tmod_eq_emod_of_nonneg, Int.tdiv_eq_ediv_of_nonneg, sub_one, sub_all, splice_all, quarterL_len, row1_len, rowN_len, dblN_len, refN_len, roundsL_len, keyN_len, stateL_len, outN_len, blockL_len, catN_len, List.length_set, List.length_replicate, List.length_append]
    (repeat ((with_reducible refine And.intro ?_ ?_); (first | omega | exact True.intro | with_reducible rfl | decide | assumption | rfl)))
    refine hK _ ?_; clear hK K
    refine AWp.ret ?_
    try simp only [thenQ, bq, lq, lf, iq, gq, Nat.reduceEqDiff, if_true, if_false]
    simp only [endQ, rs_chacha_state, resC, one, wT, Bool.not_eq_true, ty, zr, Nat.reduceAdd, Nat.reduceSub, Nat.reduceMul, Nat.reduceMod, Nat.reduceDiv, Nat.reduceEqDiff, Nat.reduceLeDiff, Nat.reduceBEq, Int.reduceAdd, Int.reduceSub, Int.reduceMul, Int.reduceNeg, Int.reduceLT, Int.reduceLE, Int.reduceEq, Int.reduceNe, Int.reduceBEq, Int.reduceToNat, Int.reduceTDiv, Int.reduceTMod, Int.reduceOfNat, reduceCtorEq, sty, sui]
    try simp (disch := first | omega | (simp only [quarterL_len, row1_len, rowN_len, dblN_len, refN_len, roundsL_len, keyN_len, stateL_len, outN_len, blockL_len, catN_len, List.length_set, List.length_replicate, List.length_append]; first | done | omega)) only [wrap_i64', wrap_u64', wrap_u32', wrap_u8', Int.tmod_eq_emod_of_nonneg, Int.tdiv_eq_ediv_of_nonneg, sub_one, sub_all, splice_all, quarterL_len, row1_len, rowN_len, dblN_len, refN_len, roundsL_len, keyN_len, stateL_len, outN_len, blockL_len, catN_len, List.length_set, List.length_replicate, List.length_append]
    repeat' (first | exact True.intro | (with_reducible rfl) | (with_reducible apply And.intro) | omega | rfl)

theorem blockI_ok {α : Type} (E : α → Option (Row α)) (k : List Int) (hk : k.length = 32) (c n : Int) : FnOk Try.prog n_chacha_Block E [.ints .u8 k, .int .u32 c, .int .u64 n] [] (.ints .u8 (blockL k c n)) [] := by
  unfold blockL
  refine FnOk.pure func_chacha_Block call_chacha_Block (body := _) rfl nt_chacha_Block (by simp) (by simp [AV.solid, AV.solidL]) ?_
  refine AWp.reg p_chacha_Block_0 [] s_chacha_Block_0 rfl rfl fun K hK => st_of ?_
  simp only [s_chacha_Block_0, wT, Bool.not_eq_true, ty, zr, Nat.reduceAdd, Nat.reduceSub, Nat.reduceMul, Nat.reduceMod, Nat.reduceDiv, Nat.reduceEqDiff, Nat.reduceLeDiff, Nat.reduceBEq, Int.reduceAdd, Int.reduceSub, Int.reduceMul, Int.reduceNeg, Int.reduceLT, Int.reduceLE, Int.reduceEq, Int.reduceNe, Int.reduceBEq, Int.reduceToNat, Int.reduceTDiv, Int.reduceTMod, Int.reduceOfNat, reduceCtorEq, sty, sui]
  try simp (disch := first | omega | (simp only [quarterL_len, row1_len, rowN_len, dblN_len, refN_len, roundsL_len, keyN_len, stateL_len, outN_len, blockL_len, catN_len, List.length_set, List.length_replicate, List.length_append]; first | done | omega)) only [wrap_i64', wrap_u64', wrap_u32', wrap_u8', Int.tmod_eq_emod_of_nonneg, Int.tdiv_eq_ediv_of_nonneg, sub_one, sub_all, splice_all, quarterL_len, row1_len, rowN_len, dblN_len, refN_len, roundsL_len, keyN_len, stateL_len, outN_len, blockL_len, catN_len, List.length_set, List.length_replicate, List.length_append]
  (repeat ((with_reducible refine And.intro ?_ ?_); (first | omega | exact True.intro | with_reducible rfl | decide | assumption | rfl)))
  refine hK _ ?_; clear hK K
  refine AWp.reg p_chacha_Block_1 [] s_chacha_Block_1 rfl rfl fun K hK => st_of ?_
  simp only [s_chacha_Block_1, wT, Bool.not_eq_true, ty, zr, Nat.reduceAdd, Nat.reduceSub, Nat.reduceMul, Nat.reduceMod, Nat.reduceDiv, Nat.reduceEqDiff, Nat.reduceLeDiff, Nat.reduceBEq, Int.reduceAdd, Int.reduceSub, Int.reduceMul, Int.reduceNeg, Int.reduceLT, Int.reduceLE, Int.reduceEq, Int.reduceNe, Int.reduceBEq, Int.reduceToNat, Int.reduceTDiv, Int.reduceTMod, Int.reduceOfNat, reduceCtorEq, sty, sui]
  try simp (disch := first | omega | (simp only [quarterL_len, row1_len, rowN_len, dblN_len, refN_len, roundsL_len, keyN_len, stateL_len, outN_len, blockL_len, catN_len, List.length_set, List.length_replicate, List.length_append]; first | done | omega)) only [wrap_i64', wrap_u64', wrap_u32', wrap_u8', Int.tmod_eq_emod_of_nonneg, Int.tdiv_eq_ediv_of_nonneg, sub_one, sub_all, splice_all, quarterL_len, row1_len, rowN_len, dblN_len, refN_len, roundsL_len, keyN_len, stateL_len, outN_len, blockL_len, catN_len, List.length_set, List.length_replicate, List.length_append]
  (repeat ((with_reducible refine And.intro ?_ ?_); (first | omega | exact True.intro | with_reducible rfl | decide | assumption | rfl)))
  refine st_call fun K1 hK1 => ?_
  simp only [calleeC, wT, Bool.not_eq_true, ty, zr, Nat.reduceAdd, Nat.reduceSub, Nat.reduceMul, Nat.reduceMod, Nat.reduceDiv, Nat.reduceEqDiff, Nat.reduceLeDiff, Nat.reduceBEq, Int.reduceAdd, Int.reduceSub, Int.reduceMul, Int.reduceNeg, Int.reduceLT, Int.reduceLE, Int.reduceEq, Int.reduceNe, Int.reduceBEq, Int.reduceToNat, Int.reduceTDiv, Int.reduceTMod, Int.reduceOfNat, reduceCtorEq, sty, sui]
  try simp (disch := first | omega | (simp only [quarterL_len, row1_len, rowN_len, dblN_len, refN_len, roundsL_len, keyN_len, stateL_len, outN_len, blockL_len, catN_len, List.length_set, List.length_replicate, List.length_append]; first | done | omega)) only [wrap_i64', wrap_u64', wrap_u32', wrap_u8', Int.tmod_eq_emod_of_nonneg, Int.tdiv_eq_ediv_of_nonneg, sub_one, sub_all, splice_all, quarterL_len, row1_len, rowN_len, dblN_len, refN_len, roundsL_len, keyN_len, stateL_len, outN_len, blockL_len, catN_len, List.length_set, List.length_replicate, List.length_append]
  refine hK1 _ _ ?_
  clear hK1 K1
  simp only [CallTo, AV.mapL, AV.map, mapL_flat, mapL_flat1]
  refine ⟨_, FnOk.toP (stateI_ok _ _ hk _ _) ⟨rfl, rfl⟩, ofEq ?_⟩
  simp only [wT, Bool.not_eq_true, ty, zr, Nat.reduceAdd, Nat.reduceSub, Nat.reduceMul, Nat.reduceMod, Nat.reduceDiv, Nat.reduceEqDiff, Nat.reduceLeDiff, Nat.reduceBEq, Int.reduceAdd, Int.reduceSub, Int.reduceMul, Int.reduceNeg, Int.reduceLT, Int.reduceLE, Int.reduceEq, Int.reduceNe, Int.reduceBEq, Int.reduceToNat, Int.reduceTDiv, Int.reduceTMod, Int.reduceOfNat, reduceCtorEq, sty, sui]
  try simp (disch := first | omega | (simp only [quarterL_len, row1_len, rowN_len, dblN_len, refN_len, roundsL_len, keyN_len, stateL_len, outN_len, blockL_len, catN_len, List.length_set, List.length_replicate, List.length_append]; first | done | omega)) only [wrap_i64', wrap_u64', wrap_u32', wrap_u8', Int.tmod_eq_emod_of_nonneg, Int.tdiv_eq_ediv_of_nonneg, sub_one, sub_all, splice_all, quarterL_len, row1_len, rowN_len, dblN_len, refN_len, roundsL_len, keyN_len, stateL_len, outN_len, blockL_len, catN_len, List.length_set, List.length_replicate, List.length_append]
  (repeat ((with_reducible refine And.intro ?_ ?_); (first | omega | exact True.intro | with_reducible rfl | decide | assumption | rfl)))
  refine hK _ ?_; clear hK K
  refine AWp.reg p_chacha_Block_2 [] s_chacha_Block_2 rfl rfl fun K hK => st_of ?_
  simp only [s_chacha_Block_2, wT, Bool.not_eq_true, ty, zr, Nat.reduceAdd, Nat.reduceSub, Nat.reduceMul, Nat.reduceMod, Nat.reduceDiv, Nat.reduceEqDiff, Nat.reduceLeDiff, Nat.reduceBEq, Int.reduceAdd, Int.reduceSub, Int.reduceMul, Int.reduceNeg, Int.reduceLT, Int.reduceLE, Int.reduceEq, Int.reduceNe, Int.reduceBEq, Int.reduceToNat, Int.reduceTDiv, Int.reduceTMod, Int.reduceOfNat, reduceCtorEq, sty, sui]
  try simp (disch := first | omega | (simp only [quarterL_len, row1_len, rowN_len, dblN_len, refN_len, roundsL_len, keyN_len, stateL_len, outN_len, blockL_len, catN_len, List.length_set, List.length_replicate, List.length_append]; first | done | omega)) only [wrap_i64', wrap_u64', wrap_u32', wrap_u8', Int.tmod_eq_emod_of_nonneg, Int.tdiv_eq_ediv_of_nonneg, sub_one, sub_all, splice_all, quarterL_len, row1_len, rowN_len, dblN_len, refN_len, roundsL_len, keyN_len, stateL_len, outN_len, blockL_len, catN_len, List.length_set, List.length_replicate, List.length_append]
  (repeat ((with_reducible refine And.intro ?_ ?_); (first | omega | exact True.intro | with_reducible rfl | decide | assumption | rfl)))
  refine st_call fun K1 hK1 => ?_
  simp only [calleeC, wT, Bool.not_eq_true, ty, zr, Nat.reduceAdd, Nat.reduceSub, Nat.reduceMul, Nat.reduceMod, Nat.reduceDiv, Nat.reduceEqDiff, Nat.reduceLeDiff, Nat.reduceBEq, Int.reduceAdd, Int.reduceSub, Int.reduceMul, Int.reduceNeg, Int.reduceLT, Int.reduceLE, Int.reduceEq, Int.reduceNe, Int.reduceBEq, Int.reduceToNat, Int.reduceTDiv, Int.reduceTMod, Int.reduceOfNat, reduceCtorEq, sty, sui]
  try simp (disch := first | omega | (simp only [quarterL_len, row1_len, rowN_len, dblN_len, refN_len, roundsL_len, keyN_len, stateL_len, outN_len, blockL_len, catN_len, List.length_set, List.length_replicate, List.length_append]; first | done | omega)) only [wrap_i64', wrap_u64', wrap_u32', wrap_u8', Int.tmod_eq_emod_of_nonneg, Int.tdiv_eq_ediv_of_nonneg, sub_one, sub_all, splice_all, quarterL_len, row1_len, rowN_len, dblN_len, refN_len, roundsL_len, keyN_len, stateL_len, outN_len, blockL_len, catN_len, List.length_set, List.length_replicate, List.length_append]
  refine hK1 _ _ ?_
  clear hK1 K1
  simp only [CallTo, AV.mapL, AV.map, mapL_flat, mapL_flat1]
  refine ⟨_, FnOk.toP (roundsI_ok _ _ (stateL_len _ _ _)) ⟨rfl, rfl⟩, ofEq ?_⟩
  simp only [wT, Bool.not_eq_true, ty, zr, Nat.reduceAdd, Nat.reduceSub, Nat.reduceMul, Nat.reduceMod, Nat.reduceDiv, Nat.reduceEqDiff, Nat.reduceLeDiff, Nat.reduceBEq, Int.reduceAdd, Int.reduceSub, Int.reduceMul, Int.reduceNeg, Int.reduceLT, Int.reduceLE, Int.reduceEq, Int.reduceNe, Int.reduceBEq, Int.reduceToNat, Int.reduceTDiv, Int.reduceTMod, Int.reduceOfNat, reduceCtorEq, sty, sui]
  try simp (disch := first | omega | (simp only [quarterL_len, row1_len, rowN_len, dblN_len, refN_len, roundsL_len, keyN_len, stateL_len, outN_len, blockL_len, catN_len, List.length_set, List.length_replicate, List.length_append]; first | done | omega)) only [wrap_i64', wrap_u64', wrap_u32', wrap_u8', Int.tmod_eq_emod_of_nonneg, Int.tdiv_eq_ediv_of_nonneg, sub_one, sub_all, splice_all, quarterL_len, row1_len, rowN_len, dblN_len, refN_len, roundsL_len, keyN_len, stateL_len, outN_len, blockL_len, catN_len, List.length_set, List.length_replicate, List.length_append]
  (repeat ((with_reducible refine And.intro ?_ ?_); (first | omega | exact True.intro | with_reducible rfl | decide | assumption | rfl)))
  refine hK _ ?_; clear hK K
  refine AWp.reg p_chacha_Block_3 [] s_chacha_Block_3 rfl rfl fun K hK => st_of ?_
  simp only [s_chacha_Block_3, wT, Bool.not_eq_true, ty, zr, Nat.reduceAdd, Nat.reduceSub, Nat.reduceMul, Nat.reduceMod, Nat.reduceDiv, Nat.reduceEqDiff, Nat.reduceLeDiff, Nat.reduceBEq, Int.reduceAdd, Int.reduceSub, Int.reduceMul, Int.reduceNeg, Int.reduceLT, Int.reduceLE, Int.reduceEq, Int.reduceNe, Int.reduceBEq, Int.reduceToNat, Int.reduceTDiv, Int.reduceTMod, Int.reduceOfNat, reduceCtorEq, sty, sui]
  try simp (disch := first | omega | (simp only [quarterL_len, row1_len, rowN_len, dblN_len, refN_len, roundsL_len, keyN_len, stateL_len, outN_len, blockL_len, catN_len, List.length_set, List.length_replicate, List.length_append]; first | done | omega)) only [wrap_i64', wrap_u64', wrap_u32', wrap_u8', Int.tmod_eq_emod_of_nonneg, Int.tdiv_eq_ediv_of_nonneg, sub_one, sub_all, splice_all, quarterL_len, row1_len, rowN_len, dblN_len, refN_len, roundsL_len, keyN_len, stateL_len, outN_len, blockL_len, catN_len, List.length_set, List.length_replicate, List.length_append]
  (repeat ((with_reducible refine And.intro ?_ ?_); (first | omega | exact True.intro | with_reducible rfl | decide | assumption | rfl)))
  refine hK _ ?_; clear hK K
  refine AWp.grp fun G32 hG32 => ?_
  refine AWp.reg p_chacha_Block_4 [] s_chacha_Block_4 rfl rfl fun K hK => st_of ?_
  simp only [s_chacha_Block_4, wT, Bool.not_eq_true, ty, zr, Nat.reduceAdd, Nat.reduceSub, Nat.reduceMul, Nat.reduceMod, Nat.reduceDiv, Nat.reduceEqDiff, Nat.reduceLeDiff, Nat.reduceBEq, Int.reduceAdd, Int.reduceSub, Int.reduceMul, Int.reduceNeg, Int.reduceLT, Int.reduceLE, Int.reduceEq, Int.reduceNe, Int.reduceBEq, Int.reduceToNat, Int.reduceTDiv, Int.reduceTMod, Int.reduceOfNat, reduceCtorEq, sty, sui]
  try simp (disch := first | omega | (simp only [quarterL_len, row1_len, rowN_len, dblN_len, refN_len, roundsL_len, keyN_len, stateL_len, outN_len, blockL_len, catN_len, List.length_set, List.length_replicate, List.length_append]; first | done | omega)) only [wrap_i64', wrap_u64', wrap_u32', wrap_u8', Int.tmod_eq_emod_of_nonneg, Int.tdiv_eq_ediv_of_nonneg, sub_one, sub_all, splice_all, quarterL_len, row1_len, rowN_len, dblN_len, refN_len, roundsL_len, keyN_len, stateL_len, outN_len, blockL_len, catN_len, List.length_set, List.length_replicate, List.length_append]
  (repeat ((with_reducible refine And.intro ?_ ?_); (first | omega | exact True.intro | with_reducible rfl | decide | assumption | rfl)))
  refine hK _ ?_; clear hK K
  refine AWp.lopX (fun i => ⟨[(6, .ptr (.own 1) 0), (7, .ptr (.own 2) 0), (8, .ptr (.own 3) 0), (9, .ptr (.own 4) 0), (17, .int .i64 i)], [none, some (.ints .u8 (List.replicate 64 0)), some (.ints .u32 (stateL k c n)), some (.ints .u32 (roundsL (stateL k c n))), some (.ints .u8 (outN (stateL k c n) (roundsL (stateL k c n)) i))]⟩) (64) ?_ fun X0 hX0 i hn0 => ?_
  · simp only [outN_zero]
    exact Le.ofA
  refine AWp.reg p_chacha_Block_5 [] s_chacha_Block_5 rfl rfl fun K hK => st_of ?_
  simp only [s_chacha_Block_5, wT, Bool.not_eq_true, ty, zr, Nat.reduceAdd, Nat.reduceSub, Nat.reduceMul, Nat.reduceMod, Nat.reduceDiv, Nat.reduceEqDiff, Nat.reduceLeDiff, Nat.reduceBEq, Int.reduceAdd, Int.reduceSub, Int.reduceMul, Int.reduceNeg, Int.reduceLT, Int.reduceLE, Int.reduceEq, Int.reduceNe, Int.reduceBEq, Int.reduceToNat, Int.reduceTDiv, Int.reduceTMod, Int.reduceOfNat, reduceCtorEq, sty, sui]
  try simp (disch := first | omega | (simp only [quarterL_len, row1_len, rowN_len, dblN_len, refN_len, roundsL_len, keyN_len, stateL_len, outN_len, blockL_len, catN_len, List.length_set, List.length_replicate, List.length_append]; first | done | omega)) only [wrap_i64', wrap_u64', wrap_u32', wrap_u8', Int.tmod_eq_emod_of_nonneg, Int.tdiv_eq_ediv_of_nonneg, sub_one, sub_all, splice_all, quarterL_len, row1_len, rowN_len, dblN_len, refN_len, roundsL_len, keyN_len, stateL_len, outN_len, blockL_len, catN_len, List.length_set, List.length_replicate, List.length_append]
  (repeat ((with_reducible refine And.intro ?_ ?_); (first | omega | exact True.intro | with_reducible rfl | decide | assumption | rfl)))
  refine hK _ ?_; clear hK K
  refine AWp.test rfl (fun hb => ?_) (fun hb => ?_)
  · try simp only [decide_eq_true_eq, decide_eq_false_iff_not, beq_iff_eq, bne_iff_ne, ne_eq, Bool.not_eq_true, beq_eq_false_iff_ne, bne_eq_false_iff_eq, Bool.not_eq_false, Bool.not_eq_eq_eq_not, Bool.not_true, Bool.not_false] at hb
    refine AWp.blk fun Y1 hY1 => ?_
    refine AWp.reg p_chacha_Block_6 [] s_chacha_Block_6 rfl rfl fun K hK => st_of ?_
    simp only [s_chacha_Block_6, wT, Bool.not_eq_true, ty, zr, Nat.reduceAdd, Nat.reduceSub, Nat.reduceMul, Nat.reduceMod, Nat.reduceDiv, Nat.reduceEqDiff, Nat.reduceLeDiff, Nat.reduceBEq, Int.reduceAdd, Int.reduceSub, Int.reduceMul, Int.reduceNeg, Int.reduceLT, Int.reduceLE, Int.reduceEq, Int.reduceNe, Int.reduceBEq, Int.reduceToNat, Int.reduceTDiv, Int.reduceTMod, Int.reduceOfNat, reduceCtorEq, sty, sui]
    try simp (disch := first | omega | (simp only [quarterL_len, row1_len, rowN_len, dblN_len, refN_len, roundsL_len, keyN_len, stateL_len, outN_len, blockL_len, catN_len, List.length_set, List.length_replicate, List.length_append]; first | done | omega)) only [wrap_i64', wrap_u64', wrap_u32', wrap_u8', Int.tmod_eq_emod_of_nonneg, Int.tdiv_eq_ediv_of_nonneg, sub_one, sub_all, splice_all, quarterL_len, row1_len, rowN_len, dblN_len, refN_len, roundsL_len, keyN_len, stateL_len, outN_len, blockL_len, catN_len, List.length_set, List.length_replicate, List.length_append]
    (repeat ((with_reducible refine And.intro ?_ ?_); (first | omega | exact True.intro | with_reducible rfl | decide | assumption | rfl)))
    refine hK _ ?_; clear hK K
    refine AWp.drwPE mix p_chacha_Block_7 q_chacha_Block_7 g_chacha_Block_7 s_chacha_Block_7 rfl (by decide +kernel) (sp_of ?_)
    simp only [s_chacha_Block_7, wT, Bool.not_eq_true, ty, zr, Nat.reduceAdd, Nat.reduceSub, Nat.reduceMul, Nat.reduceMod, Nat.reduceDiv, Nat.reduceEqDiff, Nat.reduceLeDiff, Nat.reduceBEq, Int.reduceAdd, Int.reduceSub, Int.reduceMul, Int.reduceNeg, Int.reduceLT, Int.reduceLE, Int.reduceEq, Int.reduceNe, Int.reduceBEq, Int.reduceToNat, Int.reduceTDiv, Int.reduceTMod, Int.reduceOfNat, reduceCtorEq, sty, sui]
    try simp (disch := first | omega | (simp only [quarterL_len, row1_len, rowN_len, dblN_len, refN_len, roundsL_len, keyN_len, stateL_len, outN_len, blockL_len, catN_len, List.length_set, List.length_replicate, List.length_append]; first | done | omega)) only [wrap_i64', wrap_u64', wrap_u32', wrap_u8', Int.tmod_eq_emod_of_nonneg, Int.tdiv_eq_ediv_of_nonneg, sub_one, sub_all, splice_all, quarterL_len, row1_len, rowN_len, dblN_len, refN_len, roundsL_len, keyN_len, stateL_len, outN_len, blockL_len, catN_len, List.length_set, List.length_replicate, List.length_append]
    (repeat ((with_reducible refine And.intro ?_ ?_); (first | omega | exact True.intro | with_reducible rfl | decide | assumption | rfl)))
    try simp only [thenQ, bq, lq, lf, iq, gq, Nat.reduceEqDiff, if_true, if_false]
    refine hY1 _ ?_
    try clear hY1 Y1
    refine AWp.regE p_chacha_Block_8 [] s_chacha_Block_8 rfl rfl (st_of ?_)
    simp only [s_chacha_Block_8, wT, Bool.not_eq_true, ty, zr, Nat.reduceAdd, Nat.reduceSub, Nat.reduceMul, Nat.reduceMod, Nat.reduceDiv, Nat.reduceEqDiff, Nat.reduceLeDiff, Nat.reduceBEq, Int.reduceAdd, Int.reduceSub, Int.reduceMul, Int.reduceNeg, Int.reduceLT, Int.reduceLE, Int.reduceEq, Int.reduceNe, Int.reduceBEq, Int.reduceToNat, Int.reduceTDiv, Int.reduceTMod, Int.reduceOfNat, reduceCtorEq, sty, sui]
    try simp (disch := first | omega | (simp only [quarterL_len, row1_len, rowN_len, dblN_len, refN_len, roundsL_len, keyN_len, stateL_len, outN_len, blockL_len, catN_len, List.length_set, List.length_replicate, List.length_append]; first | done | omega)) only [wrap_i64', wrap_u64', wrap_u32', wrap_u8', Int.tmod_eq_emod_of_nonneg, Int.tdiv_eq_ediv_of_nonneg, sub_one, sub_all, splice_all, quarterL_len, row1_len, rowN_len, dblN_len, refN_len, roundsL_len, keyN_len, stateL_len, outN_len, blockL_len, catN_len, List.length_set, List.length_replicate, List.length_append]
    (repeat ((with_reducible refine And.intro ?_ ?_); (first | omega | exact True.intro | with_reducible rfl | decide | assumption | rfl)))
    try simp only [thenQ, bq, lq, lf, iq, gq, Nat.reduceEqDiff, if_true, if_false]
    simp only [outN_succ]
    first | exact ⟨by omega, Le.ofA⟩ | exact Le.ofA
  · try simp only [decide_eq_true_eq, decide_eq_false_iff_not, beq_iff_eq, bne_iff_ne, ne_eq, Bool.not_eq_true, beq_eq_false_iff_ne, bne_eq_false_iff_eq, Bool.not_eq_false, Bool.not_eq_eq_eq_not, Bool.not_true, Bool.not_false] at hb
    try simp only [thenQ, bq, lq, lf, iq, gq, Nat.reduceEqDiff, if_true, if_false]
    refine hX0 _ ?_
    try clear hX0 X0
    obtain rfl : i = 64 := by omega
    try simp only [thenQ, bq, lq, lf, iq, gq, Nat.reduceEqDiff, if_true, if_false]
    refine hG32 _ ?_
    try clear hG32 G32
    refine AWp.reg p_chacha_Block_9 [] s_chacha_Block_9 rfl rfl fun K hK => st_of ?_
    simp only [s_chacha_Block_9, wT, Bool.not_eq_true, ty, zr, Nat.reduceAdd, Nat.reduceSub, Nat.reduceMul, Nat.reduceMod, Nat.reduceDiv, Nat.reduceEqDiff, Nat.reduceLeDiff, Nat.reduceBEq, Int.reduceAdd, Int.reduceSub, Int.reduceMul, Int.reduceNeg, Int.reduceLT, Int.reduceLE, Int.reduceEq, Int.reduceNe, Int.reduceBEq, Int.reduceToNat, Int.reduceTDiv, Int.reduceTMod, Int.reduceOfNat, reduceCtorEq, sty, sui]
    try simp (disch := first | omega | (simp only [quarterL_len, row1_len, rowN_len, dblN_len, refN_len, roundsL_len, keyN_len, stateL_len, outN_len, blockL_len, catN_len, List.length_set, List.length_replicate, List.length_append]; first | done | omega)) only [wrap_i64', wrap_u64', wrap_u32', wrap_u8', Int.tmod_eq_emod_of_nonneg, Int.tdiv_eq_ediv_of_nonneg, sub_one, sub_all, splice_all, quarterL_len, row1_len, rowN_len, dblN_len, refN_len, roundsL_len, keyN_len, stateL_len, outN_len, blockL_len, catN_len, List.length_set, List.length_replicate, List.length_append]
    (repeat ((with_reducible refine And.intro ?_ ?_); (first | omega | exact True.intro | with_reducible rfl | decide | assumption | rfl)))
    refine hK _ ?_; clear hK K
    refine AWp.ret ?_
    try simp only [thenQ, bq, lq, lf, iq, gq, Nat.reduceEqDiff, if_true, if_false]
    simp only [endQ, rs_chacha_Block, resC, one, wT, Bool.not_eq_true, ty, zr, Nat.reduceAdd, Nat.reduceSub, Nat.reduceMul, Nat.reduceMod, Nat.reduceDiv, Nat.reduceEqDiff, Nat.reduceLeDiff, Nat.reduceBEq, Int.reduceAdd, Int.reduceSub, Int.reduceMul, Int.reduceNeg, Int.reduceLT, Int.reduceLE, Int.reduceEq, Int.reduceNe, Int.reduceBEq, Int.reduceToNat, Int.reduceTDiv, Int.reduceTMod, Int.reduceOfNat, reduceCtorEq, sty, sui]
    try simp (disch := first | omega | (simp only [quarterL_len, row1_len, rowN_len, dblN_len, refN_len, roundsL_len, keyN_len, stateL_len, outN_len, blockL_len, catN_len, List.length_set, List.length_replicate, List.length_append]; first | done | omega)) only [wrap_i64', wrap_u64', wrap_u32', wrap_u8', Int.tmod_eq_emod_of_nonneg, Int.tdiv_eq_ediv_of_nonneg, sub_one, sub_all, splice_all, quarterL_len, row1_len, rowN_len, dblN_len, refN_len, roundsL_len, keyN_len, stateL_len, outN_len, blockL_len, catN_len, List.length_set, List.length_replicate, List.length_append]
    repeat' (first | exact True.intro | (with_reducible rfl) | (with_reducible apply And.intro) | omega | rfl)

end Go.Proofs.Ytopiceaeombefaa
