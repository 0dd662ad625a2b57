/- Contracts: the little cipher's pad, bytes upon bytes, hiding. -/
import Derived.Test.YtbnjeafjnglldaaNm
import Derived.Test.YtbnjeafjnglldaaLitM
namespace Go.Proofs.Ytbnjeafjnglldaa
open Go Go.Proofs.Ytbnjeafjnglldaa.Sy
set_option linter.unusedSimpArgs false
set_option linter.unusedVariables false
set_option maxRecDepth 100000
set_option maxHeartbeats 4000000


theorem litpad_ok {α : Type} (E : α → Option (Row α)) (k : List Int) (hk : k.length = 32) (n : Int) :
    FnOk Try.prog n_ref05_LitPad E [.ints .u8 k, .int .u64 n] [] (.ints .u8 (litP k n)) [] := by
  refine FnOk.pure func_ref05_LitPad call_ref05_LitPad (body := _) rfl nt_ref05_LitPad (by simp) (by simp [AV.solid, AV.solidL]) ?_
  refine AWp.reg p_ref05_LitPad_0 [] s_ref05_LitPad_0 rfl rfl fun K hK => st_of ?_
  simp only [s_ref05_LitPad_0, wT, Bool.not_eq_true, ty, zr, Nat.reduceAdd, Nat.reduceSub, Nat.reduceMul, Nat.reduceMod, Nat.reduceDiv, Nat.reduceEqDiff, Nat.reduceLeDiff, Nat.reduceBEq, Int.reduceAdd, Int.reduceSub, Int.reduceMul, Int.reduceNeg, Int.reduceLT, Int.reduceLE, Int.reduceEq, Int.reduceNe, Int.reduceBEq, Int.reduceToNat, Int.reduceTDiv, Int.reduceTMod, Int.reduceOfNat, reduceCtorEq, sty, sui]
  try simp (disch := first | omega | (simp only [List.length_set, List.length_replicate, List.length_append, List.length_nil, litP_len, padV_len, xorA_len, flatI_len]; first | done | omega)) only [aT, Int.reduceToNat, List.length_set, List.length_replicate, List.length_append, List.length_nil, litP_len, padV_len, xorA_len, flatI_len]
  (repeat ((with_reducible refine And.intro ?_ ?_); (first | omega | exact True.intro | with_reducible rfl | decide | assumption | rfl)))
  refine hK _ ?_; clear hK K
  refine AWp.reg p_ref05_LitPad_1 [] s_ref05_LitPad_1 rfl rfl fun K hK => st_of ?_
  simp only [s_ref05_LitPad_1, wT, Bool.not_eq_true, ty, zr, Nat.reduceAdd, Nat.reduceSub, Nat.reduceMul, Nat.reduceMod, Nat.reduceDiv, Nat.reduceEqDiff, Nat.reduceLeDiff, Nat.reduceBEq, Int.reduceAdd, Int.reduceSub, Int.reduceMul, Int.reduceNeg, Int.reduceLT, Int.reduceLE, Int.reduceEq, Int.reduceNe, Int.reduceBEq, Int.reduceToNat, Int.reduceTDiv, Int.reduceTMod, Int.reduceOfNat, reduceCtorEq, sty, sui]
  try simp (disch := first | omega | (simp only [List.length_set, List.length_replicate, List.length_append, List.length_nil, litP_len, padV_len, xorA_len, flatI_len]; first | done | omega)) only [aT, Int.reduceToNat, List.length_set, List.length_replicate, List.length_append, List.length_nil, litP_len, padV_len, xorA_len, flatI_len]
  (repeat ((with_reducible refine And.intro ?_ ?_); (first | omega | exact True.intro | with_reducible rfl | decide | assumption | rfl)))
  refine hK _ ?_; clear hK K
  refine AWp.reg p_ref05_LitPad_2 [] s_ref05_LitPad_2 rfl rfl fun K hK => st_of ?_
  simp only [s_ref05_LitPad_2, wT, Bool.not_eq_true, ty, zr, Nat.reduceAdd, Nat.reduceSub, Nat.reduceMul, Nat.reduceMod, Nat.reduceDiv, Nat.reduceEqDiff, Nat.reduceLeDiff, Nat.reduceBEq, Int.reduceAdd, Int.reduceSub, Int.reduceMul, Int.reduceNeg, Int.reduceLT, Int.reduceLE, Int.reduceEq, Int.reduceNe, Int.reduceBEq, Int.reduceToNat, Int.reduceTDiv, Int.reduceTMod, Int.reduceOfNat, reduceCtorEq, sty, sui]
  try simp (disch := first | omega | (simp only [List.length_set, List.length_replicate, List.length_append, List.length_nil, litP_len, padV_len, xorA_len, flatI_len]; first | done | omega)) only [aT, Int.reduceToNat, List.length_set, List.length_replicate, List.length_append, List.length_nil, litP_len, padV_len, xorA_len, flatI_len]
  (repeat ((with_reducible refine And.intro ?_ ?_); (first | omega | exact True.intro | with_reducible rfl | decide | assumption | rfl)))
  refine hK _ ?_; clear hK K
  refine AWp.grp fun G12 hG12 => ?_
  refine AWp.reg p_ref05_LitPad_3 [] s_ref05_LitPad_3 rfl rfl fun K hK => st_of ?_
  simp only [s_ref05_LitPad_3, wT, Bool.not_eq_true, ty, zr, Nat.reduceAdd, Nat.reduceSub, Nat.reduceMul, Nat.reduceMod, Nat.reduceDiv, Nat.reduceEqDiff, Nat.reduceLeDiff, Nat.reduceBEq, Int.reduceAdd, Int.reduceSub, Int.reduceMul, Int.reduceNeg, Int.reduceLT, Int.reduceLE, Int.reduceEq, Int.reduceNe, Int.reduceBEq, Int.reduceToNat, Int.reduceTDiv, Int.reduceTMod, Int.reduceOfNat, reduceCtorEq, sty, sui]
  try simp (disch := first | omega | (simp only [List.length_set, List.length_replicate, List.length_append, List.length_nil, litP_len, padV_len, xorA_len, flatI_len]; first | done | omega)) only [aT, Int.reduceToNat, List.length_set, List.length_replicate, List.length_append, List.length_nil, litP_len, padV_len, xorA_len, flatI_len]
  (repeat ((with_reducible refine And.intro ?_ ?_); (first | omega | exact True.intro | with_reducible rfl | decide | assumption | rfl)))
  refine hK _ ?_; clear hK K
  refine AWp.lopX (fun i => ⟨[(1, .int .u64 n), (2, .ptr (.own 0) 0), (4, .ptr (.own 1) 0), (5, .ptr (.own 2) 0), (6, .int .u64 (lx k n i)), (7, .int .i64 i)], [some (.ints .u8 k), some (.ints .u8 (List.replicate 32 0)), some (.ints .u8 (litW k n i))]⟩) (32) ?_ fun X0 hX0 i hn0 => ?_
  · simp only [lx_zero, litW_zero]
    exact Le.ofA
  have hw := litW_len k n i
  refine AWp.grp fun G21 hG21 => ?_
  refine AWp.reg p_ref05_LitPad_4 [] s_ref05_LitPad_4 rfl rfl fun K hK => st_of ?_
  simp only [s_ref05_LitPad_4, wT, Bool.not_eq_true, ty, zr, Nat.reduceAdd, Nat.reduceSub, Nat.reduceMul, Nat.reduceMod, Nat.reduceDiv, Nat.reduceEqDiff, Nat.reduceLeDiff, Nat.reduceBEq, Int.reduceAdd, Int.reduceSub, Int.reduceMul, Int.reduceNeg, Int.reduceLT, Int.reduceLE, Int.reduceEq, Int.reduceNe, Int.reduceBEq, Int.reduceToNat, Int.reduceTDiv, Int.reduceTMod, Int.reduceOfNat, reduceCtorEq, sty, sui]
  try simp (disch := first | omega | (simp only [List.length_set, List.length_replicate, List.length_append, List.length_nil, litP_len, padV_len, xorA_len, flatI_len]; first | done | omega)) only [aT, Int.reduceToNat, List.length_set, List.length_replicate, List.length_append, List.length_nil, litP_len, padV_len, xorA_len, flatI_len]
  (repeat ((with_reducible refine And.intro ?_ ?_); (first | omega | exact True.intro | with_reducible rfl | decide | assumption | rfl)))
  refine hK _ ?_; clear hK K
  refine AWp.testE rfl (fun hb => ?_) (fun hb => ?_)
  · try simp only [decide_eq_true_eq, decide_eq_false_iff_not, beq_iff_eq, bne_iff_ne, ne_eq, Bool.not_eq_true, beq_eq_false_iff_ne, bne_eq_false_iff_eq, Bool.not_eq_false, Bool.not_eq_eq_eq_not, Bool.not_true, Bool.not_false] at hb
    try simp only [thenQ, bq, lq, lf, iq, gq, Nat.reduceEqDiff, if_true, if_false]
    refine hG21 _ ?_
    try clear hG21 G21
    refine AWp.blk fun Y1 hY1 => ?_
    refine AWp.reg p_ref05_LitPad_6 [] s_ref05_LitPad_6 rfl rfl fun K hK => st_of ?_
    simp only [s_ref05_LitPad_6, wT, Bool.not_eq_true, ty, zr, Nat.reduceAdd, Nat.reduceSub, Nat.reduceMul, Nat.reduceMod, Nat.reduceDiv, Nat.reduceEqDiff, Nat.reduceLeDiff, Nat.reduceBEq, Int.reduceAdd, Int.reduceSub, Int.reduceMul, Int.reduceNeg, Int.reduceLT, Int.reduceLE, Int.reduceEq, Int.reduceNe, Int.reduceBEq, Int.reduceToNat, Int.reduceTDiv, Int.reduceTMod, Int.reduceOfNat, reduceCtorEq, sty, sui]
    try simp (disch := first | omega | (simp only [List.length_set, List.length_replicate, List.length_append, List.length_nil, litP_len, padV_len, xorA_len, flatI_len]; first | done | omega)) only [aT, Int.reduceToNat, List.length_set, List.length_replicate, List.length_append, List.length_nil, litP_len, padV_len, xorA_len, flatI_len]
    simp only [← lx_succ]
    (repeat ((with_reducible refine And.intro ?_ ?_); (first | omega | exact True.intro | with_reducible rfl | decide | assumption | rfl)))
    refine hK _ ?_; clear hK K
    refine AWp.regE p_ref05_LitPad_7 [] s_ref05_LitPad_7 rfl rfl (st_of ?_)
    simp only [s_ref05_LitPad_7, wT, Bool.not_eq_true, ty, zr, Nat.reduceAdd, Nat.reduceSub, Nat.reduceMul, Nat.reduceMod, Nat.reduceDiv, Nat.reduceEqDiff, Nat.reduceLeDiff, Nat.reduceBEq, Int.reduceAdd, Int.reduceSub, Int.reduceMul, Int.reduceNeg, Int.reduceLT, Int.reduceLE, Int.reduceEq, Int.reduceNe, Int.reduceBEq, Int.reduceToNat, Int.reduceTDiv, Int.reduceTMod, Int.reduceOfNat, reduceCtorEq, sty, sui]
    try simp (disch := first | omega | (simp only [List.length_set, List.length_replicate, List.length_append, List.length_nil, litP_len, padV_len, xorA_len, flatI_len]; first | done | omega)) only [aT, Int.reduceToNat, List.length_set, List.length_replicate, List.length_append, List.length_nil, litP_len, padV_len, xorA_len, flatI_len]
    (repeat ((with_reducible refine And.intro ?_ ?_); (first | omega | exact True.intro | with_reducible rfl | decide | assumption | rfl)))
    try simp only [thenQ, bq, lq, lf, iq, gq, Nat.reduceEqDiff, if_true, if_false]
    refine hY1 _ ?_
    try clear hY1 Y1
    refine AWp.regE p_ref05_LitPad_5 [] s_ref05_LitPad_5 rfl rfl (st_of ?_)
    simp only [s_ref05_LitPad_5, wT, Bool.not_eq_true, ty, zr, Nat.reduceAdd, Nat.reduceSub, Nat.reduceMul, Nat.reduceMod, Nat.reduceDiv, Nat.reduceEqDiff, Nat.reduceLeDiff, Nat.reduceBEq, Int.reduceAdd, Int.reduceSub, Int.reduceMul, Int.reduceNeg, Int.reduceLT, Int.reduceLE, Int.reduceEq, Int.reduceNe, Int.reduceBEq, Int.reduceToNat, Int.reduceTDiv, Int.reduceTMod, Int.reduceOfNat, reduceCtorEq, sty, sui]
    try simp (disch := first | omega | (simp only [List.length_set, List.length_replicate, List.length_append, List.length_nil, litP_len, padV_len, xorA_len, flatI_len]; first | done | omega)) only [aT, Int.reduceToNat, List.length_set, List.length_replicate, List.length_append, List.length_nil, litP_len, padV_len, xorA_len, flatI_len]
    (repeat ((with_reducible refine And.intro ?_ ?_); (first | omega | exact True.intro | with_reducible rfl | decide | assumption | rfl)))
    try simp only [thenQ, bq, lq, lf, iq, gq, Nat.reduceEqDiff, if_true, if_false]
    simp only [← litW_succ]
    first | exact ⟨by omega, Le.ofA⟩ | exact Le.ofA
  · try simp only [decide_eq_true_eq, decide_eq_false_iff_not, beq_iff_eq, bne_iff_ne, ne_eq, Bool.not_eq_true, beq_eq_false_iff_ne, bne_eq_false_iff_eq, Bool.not_eq_false, Bool.not_eq_eq_eq_not, Bool.not_true, Bool.not_false] at hb
    try simp only [thenQ, bq, lq, lf, iq, gq, Nat.reduceEqDiff, if_true, if_false]
    refine hX0 _ ?_
    try clear hX0 X0
    obtain rfl : i = 32 := by omega
    rw [show litW k n 32 = litP k n from rfl] at *
    try simp only [thenQ, bq, lq, lf, iq, gq, Nat.reduceEqDiff, if_true, if_false]
    refine hG12 _ ?_
    try clear hG12 G12
    refine AWp.reg p_ref05_LitPad_8 [] s_ref05_LitPad_8 rfl rfl fun K hK => st_of ?_
    simp only [s_ref05_LitPad_8, wT, Bool.not_eq_true, ty, zr, Nat.reduceAdd, Nat.reduceSub, Nat.reduceMul, Nat.reduceMod, Nat.reduceDiv, Nat.reduceEqDiff, Nat.reduceLeDiff, Nat.reduceBEq, Int.reduceAdd, Int.reduceSub, Int.reduceMul, Int.reduceNeg, Int.reduceLT, Int.reduceLE, Int.reduceEq, Int.reduceNe, Int.reduceBEq, Int.reduceToNat, Int.reduceTDiv, Int.reduceTMod, Int.reduceOfNat, reduceCtorEq, sty, sui]
    try simp (disch := first | omega | (simp only [List.length_set, List.length_replicate, List.length_append, List.length_nil, litP_len, padV_len, xorA_len, flatI_len]; first | done | omega)) only [aT, Int.reduceToNat, List.length_set, List.length_replicate, List.length_append, List.length_nil, litP_len, padV_len, xorA_len, flatI_len]
    (repeat ((with_reducible refine And.intro ?_ ?_); (first | omega | exact True.intro | with_reducible rfl | decide | assumption | rfl)))
    refine hK _ ?_; clear hK K
    refine AWp.ret ?_
    try simp only [thenQ, bq, lq, lf, iq, gq, Nat.reduceEqDiff, if_true, if_false]
    simp only [endQ, rs_ref05_LitPad, resC, one, wT, Bool.not_eq_true, ty, zr, Nat.reduceAdd, Nat.reduceSub, Nat.reduceMul, Nat.reduceMod, Nat.reduceDiv, Nat.reduceEqDiff, Nat.reduceLeDiff, Nat.reduceBEq, Int.reduceAdd, Int.reduceSub, Int.reduceMul, Int.reduceNeg, Int.reduceLT, Int.reduceLE, Int.reduceEq, Int.reduceNe, Int.reduceBEq, Int.reduceToNat, Int.reduceTDiv, Int.reduceTMod, Int.reduceOfNat, reduceCtorEq, sty, sui]
    try simp (disch := first | omega | (simp only [List.length_set, List.length_replicate, List.length_append, List.length_nil, litP_len, padV_len, xorA_len, flatI_len]; first | done | omega)) only [aT, Int.reduceToNat, List.length_set, List.length_replicate, List.length_append, List.length_nil, litP_len, padV_len, xorA_len, flatI_len]
    repeat' (first | exact True.intro | (with_reducible rfl) | (with_reducible apply And.intro) | omega | rfl)
theorem same1_ok {α : Type} (E : α → Option (Row α)) (x y : α) (a b : List Int) (hx : E x = some (.ints .u8 a)) (hy : E y = some (.ints .u8 b)) (f g : Bool) (oa la ob lb : Nat) (ha : oa + la ≤ a.length) (hb' : ob + lb ≤ b.length) (hm : la < 9223372036854775807) (hm' : lb < 9223372036854775807) :
    FnOk Try.prog n_ref01_Same E [.slice f (.ext x) oa la 1, .slice g (.ext y) ob lb 1] [] (.bool (sub a oa la == sub b ob lb)) [] := by
  refine FnOk.pure func_ref01_Same call_ref01_Same (body := _) rfl nt_ref01_Same (by simp) (by simp [AV.solid, AV.solidL]) ?_
  refine AWp.reg p_ref01_Same_0 [] s_ref01_Same_0 rfl rfl fun K hK => st_of ?_
  simp only [s_ref01_Same_0, wT, Bool.not_eq_true, ty, zr, Nat.reduceAdd, Nat.reduceSub, Nat.reduceMul, Nat.reduceMod, Nat.reduceDiv, Nat.reduceEqDiff, Nat.reduceLeDiff, Nat.reduceBEq, Int.reduceAdd, Int.reduceSub, Int.reduceMul, Int.reduceNeg, Int.reduceLT, Int.reduceLE, Int.reduceEq, Int.reduceNe, Int.reduceBEq, Int.reduceToNat, Int.reduceTDiv, Int.reduceTMod, Int.reduceOfNat, reduceCtorEq, sty, sui]
  try simp (disch := first | omega | (simp only [List.length_set, List.length_replicate, List.length_append, List.length_nil, litP_len, padV_len, xorA_len, flatI_len]; first | done | omega)) only [aT, Int.reduceToNat, List.length_set, List.length_replicate, List.length_append, List.length_nil, litP_len, padV_len, xorA_len, flatI_len]
  (repeat ((with_reducible refine And.intro ?_ ?_); (first | omega | exact True.intro | with_reducible rfl | decide | assumption | rfl)))
  refine hK _ ?_; clear hK K
  refine AWp.grp fun G4 hG4 => ?_
  refine AWp.reg p_ref01_Same_1 [] s_ref01_Same_1 rfl rfl fun K hK => st_of ?_
  simp only [s_ref01_Same_1, wT, Bool.not_eq_true, ty, zr, Nat.reduceAdd, Nat.reduceSub, Nat.reduceMul, Nat.reduceMod, Nat.reduceDiv, Nat.reduceEqDiff, Nat.reduceLeDiff, Nat.reduceBEq, Int.reduceAdd, Int.reduceSub, Int.reduceMul, Int.reduceNeg, Int.reduceLT, Int.reduceLE, Int.reduceEq, Int.reduceNe, Int.reduceBEq, Int.reduceToNat, Int.reduceTDiv, Int.reduceTMod, Int.reduceOfNat, reduceCtorEq, sty, sui]
  try simp (disch := first | omega | (simp only [List.length_set, List.length_replicate, List.length_append, List.length_nil, litP_len, padV_len, xorA_len, flatI_len]; first | done | omega)) only [aT, Int.reduceToNat, List.length_set, List.length_replicate, List.length_append, List.length_nil, litP_len, padV_len, xorA_len, flatI_len]
  (repeat ((with_reducible refine And.intro ?_ ?_); (first | omega | exact True.intro | with_reducible rfl | decide | assumption | rfl)))
  refine hK _ ?_; clear hK K
  refine AWp.iteE rfl (fun hb => ?_) (fun hb => ?_)
  · try simp only [decide_eq_true_eq, decide_eq_false_iff_not, beq_iff_eq, bne_iff_ne, ne_eq, Bool.not_eq_true, beq_eq_false_iff_ne, bne_eq_false_iff_eq, Bool.not_eq_false, Bool.not_eq_eq_eq_not, Bool.not_true, Bool.not_false] at hb
    refine AWp.reg p_ref01_Same_2 [] s_ref01_Same_2 rfl rfl fun K hK => st_of ?_
    simp only [s_ref01_Same_2, wT, Bool.not_eq_true, ty, zr, Nat.reduceAdd, Nat.reduceSub, Nat.reduceMul, Nat.reduceMod, Nat.reduceDiv, Nat.reduceEqDiff, Nat.reduceLeDiff, Nat.reduceBEq, Int.reduceAdd, Int.reduceSub, Int.reduceMul, Int.reduceNeg, Int.reduceLT, Int.reduceLE, Int.reduceEq, Int.reduceNe, Int.reduceBEq, Int.reduceToNat, Int.reduceTDiv, Int.reduceTMod, Int.reduceOfNat, reduceCtorEq, sty, sui]
    try simp (disch := first | omega | (simp only [List.length_set, List.length_replicate, List.length_append, List.length_nil, litP_len, padV_len, xorA_len, flatI_len]; first | done | omega)) only [aT, Int.reduceToNat, List.length_set, List.length_replicate, List.length_append, List.length_nil, litP_len, padV_len, xorA_len, flatI_len]
    (repeat ((with_reducible refine And.intro ?_ ?_); (first | omega | exact True.intro | with_reducible rfl | decide | assumption | rfl)))
    refine hK _ ?_; clear hK K
    refine AWp.ret ?_
    try simp only [thenQ, bq, lq, lf, iq, gq, Nat.reduceEqDiff, if_true, if_false]
    simp only [endQ, rs_ref01_Same, resC, one, wT, Bool.not_eq_true, ty, zr, Nat.reduceAdd, Nat.reduceSub, Nat.reduceMul, Nat.reduceMod, Nat.reduceDiv, Nat.reduceEqDiff, Nat.reduceLeDiff, Nat.reduceBEq, Int.reduceAdd, Int.reduceSub, Int.reduceMul, Int.reduceNeg, Int.reduceLT, Int.reduceLE, Int.reduceEq, Int.reduceNe, Int.reduceBEq, Int.reduceToNat, Int.reduceTDiv, Int.reduceTMod, Int.reduceOfNat, reduceCtorEq, sty, sui]
    try simp (disch := first | omega | (simp only [List.length_set, List.length_replicate, List.length_append, List.length_nil, litP_len, padV_len, xorA_len, flatI_len]; first | done | omega)) only [aT, Int.reduceToNat, List.length_set, List.length_replicate, List.length_append, List.length_nil, litP_len, padV_len, xorA_len, flatI_len]
    congr 1
    symm
    first | (rw [beq_iff_eq]; exact eq_subL ha hb' hF0) | (rw [beq_eq_false_iff_ne]; first | exact ne_subL (by omega) hb | (intro he; have := congrArg List.length he; rw [length_sub ha, length_sub hb'] at this; omega))
  · try simp only [decide_eq_true_eq, decide_eq_false_iff_not, beq_iff_eq, bne_iff_ne, ne_eq, Bool.not_eq_true, beq_eq_false_iff_ne, bne_eq_false_iff_eq, Bool.not_eq_false, Bool.not_eq_eq_eq_not, Bool.not_true, Bool.not_false] at hb
    obtain rfl : la = lb := by omega
    refine AWp.skip ?_
    try simp only [thenQ, bq, lq, lf, iq, gq, Nat.reduceEqDiff, if_true, if_false]
    refine hG4 _ ?_
    try clear hG4 G4
    refine AWp.grp fun G27 hG27 => ?_
    refine AWp.reg p_ref01_Same_3 [] s_ref01_Same_3 rfl rfl fun K hK => st_of ?_
    simp only [s_ref01_Same_3, wT, Bool.not_eq_true, ty, zr, Nat.reduceAdd, Nat.reduceSub, Nat.reduceMul, Nat.reduceMod, Nat.reduceDiv, Nat.reduceEqDiff, Nat.reduceLeDiff, Nat.reduceBEq, Int.reduceAdd, Int.reduceSub, Int.reduceMul, Int.reduceNeg, Int.reduceLT, Int.reduceLE, Int.reduceEq, Int.reduceNe, Int.reduceBEq, Int.reduceToNat, Int.reduceTDiv, Int.reduceTMod, Int.reduceOfNat, reduceCtorEq, sty, sui]
    try simp (disch := first | omega | (simp only [List.length_set, List.length_replicate, List.length_append, List.length_nil, litP_len, padV_len, xorA_len, flatI_len]; first | done | omega)) only [aT, Int.reduceToNat, List.length_set, List.length_replicate, List.length_append, List.length_nil, litP_len, padV_len, xorA_len, flatI_len]
    (repeat ((with_reducible refine And.intro ?_ ?_); (first | omega | exact True.intro | with_reducible rfl | decide | assumption | rfl)))
    refine hK _ ?_; clear hK K
    refine AWp.lofX (fun i => ⟨[(0, .slice f (.ext x) oa la 1), (1, .slice g (.ext y) ob la 1), (5, .int .i64 i)], []⟩) (fun i => ∀ j, j < i → a.getD (oa + j) 0 = b.getD (ob + j) 0) (la) (Le.ofA) (by simp) fun X0 hX0 i hn0 hF0 => ?_
    refine AWp.grp fun G33 hG33 => ?_
    refine AWp.reg p_ref01_Same_4 [] s_ref01_Same_4 rfl rfl fun K hK => st_of ?_
    simp only [s_ref01_Same_4, wT, Bool.not_eq_true, ty, zr, Nat.reduceAdd, Nat.reduceSub, Nat.reduceMul, Nat.reduceMod, Nat.reduceDiv, Nat.reduceEqDiff, Nat.reduceLeDiff, Nat.reduceBEq, Int.reduceAdd, Int.reduceSub, Int.reduceMul, Int.reduceNeg, Int.reduceLT, Int.reduceLE, Int.reduceEq, Int.reduceNe, Int.reduceBEq, Int.reduceToNat, Int.reduceTDiv, Int.reduceTMod, Int.reduceOfNat, reduceCtorEq, sty, sui]
    try simp (disch := first | omega | (simp only [List.length_set, List.length_replicate, List.length_append, List.length_nil, litP_len, padV_len, xorA_len, flatI_len]; first | done | omega)) only [aT, Int.reduceToNat, List.length_set, List.length_replicate, List.length_append, List.length_nil, litP_len, padV_len, xorA_len, flatI_len]
    (repeat ((with_reducible refine And.intro ?_ ?_); (first | omega | exact True.intro | with_reducible rfl | decide | assumption | rfl)))
    refine hK _ ?_; clear hK K
    refine AWp.testE rfl (fun hb => ?_) (fun hb => ?_)
    · try simp only [decide_eq_true_eq, decide_eq_false_iff_not, beq_iff_eq, bne_iff_ne, ne_eq, Bool.not_eq_true, beq_eq_false_iff_ne, bne_eq_false_iff_eq, Bool.not_eq_false, Bool.not_eq_eq_eq_not, Bool.not_true, Bool.not_false] at hb
      try simp only [thenQ, bq, lq, lf, iq, gq, Nat.reduceEqDiff, if_true, if_false]
      refine hG33 _ ?_
      try clear hG33 G33
      refine AWp.blk fun Y1 hY1 => ?_
      refine AWp.drwP mix p_ref01_Same_6 q_ref01_Same_6 g_ref01_Same_6 s_ref01_Same_6 rfl (by decide +kernel) fun K hK => sp_of ?_
      simp only [s_ref01_Same_6, wT, Bool.not_eq_true, ty, zr, Nat.reduceAdd, Nat.reduceSub, Nat.reduceMul, Nat.reduceMod, Nat.reduceDiv, Nat.reduceEqDiff, Nat.reduceLeDiff, Nat.reduceBEq, Int.reduceAdd, Int.reduceSub, Int.reduceMul, Int.reduceNeg, Int.reduceLT, Int.reduceLE, Int.reduceEq, Int.reduceNe, Int.reduceBEq, Int.reduceToNat, Int.reduceTDiv, Int.reduceTMod, Int.reduceOfNat, reduceCtorEq, sty, sui]
      try simp (disch := first | omega | (simp only [List.length_set, List.length_replicate, List.length_append, List.length_nil, litP_len, padV_len, xorA_len, flatI_len]; first | done | omega)) only [aT, Int.reduceToNat, List.length_set, List.length_replicate, List.length_append, List.length_nil, litP_len, padV_len, xorA_len, flatI_len]
      simp only [hx, hy, Option.map_some, wT, Bool.not_eq_true, ty, zr, Nat.reduceAdd, Nat.reduceSub, Nat.reduceMul, Nat.reduceMod, Nat.reduceDiv, Nat.reduceEqDiff, Nat.reduceLeDiff, Nat.reduceBEq, Int.reduceAdd, Int.reduceSub, Int.reduceMul, Int.reduceNeg, Int.reduceLT, Int.reduceLE, Int.reduceEq, Int.reduceNe, Int.reduceBEq, Int.reduceToNat, Int.reduceTDiv, Int.reduceTMod, Int.reduceOfNat, reduceCtorEq, sty, sui]
      try simp (disch := first | omega | (simp only [List.length_set, List.length_replicate, List.length_append, List.length_nil, litP_len, padV_len, xorA_len, flatI_len]; first | done | omega)) only [aT, Int.reduceToNat, List.length_set, List.length_replicate, List.length_append, List.length_nil, litP_len, padV_len, xorA_len, flatI_len]
      (repeat ((with_reducible refine And.intro ?_ ?_); (first | omega | exact True.intro | with_reducible rfl | decide | assumption | rfl)))
      refine hK _ ?_; clear hK K
      refine AWp.iteE rfl (fun hb => ?_) (fun hb => ?_)
      · try simp only [decide_eq_true_eq, decide_eq_false_iff_not, beq_iff_eq, bne_iff_ne, ne_eq, Bool.not_eq_true, beq_eq_false_iff_ne, bne_eq_false_iff_eq, Bool.not_eq_false, Bool.not_eq_eq_eq_not, Bool.not_true, Bool.not_false] at hb
        refine AWp.reg p_ref01_Same_7 [] s_ref01_Same_7 rfl rfl fun K hK => st_of ?_
        simp only [s_ref01_Same_7, wT, Bool.not_eq_true, ty, zr, Nat.reduceAdd, Nat.reduceSub, Nat.reduceMul, Nat.reduceMod, Nat.reduceDiv, Nat.reduceEqDiff, Nat.reduceLeDiff, Nat.reduceBEq, Int.reduceAdd, Int.reduceSub, Int.reduceMul, Int.reduceNeg, Int.reduceLT, Int.reduceLE, Int.reduceEq, Int.reduceNe, Int.reduceBEq, Int.reduceToNat, Int.reduceTDiv, Int.reduceTMod, Int.reduceOfNat, reduceCtorEq, sty, sui]
        try simp (disch := first | omega | (simp only [List.length_set, List.length_replicate, List.length_append, List.length_nil, litP_len, padV_len, xorA_len, flatI_len]; first | done | omega)) only [aT, Int.reduceToNat, List.length_set, List.length_replicate, List.length_append, List.length_nil, litP_len, padV_len, xorA_len, flatI_len]
        (repeat ((with_reducible refine And.intro ?_ ?_); (first | omega | exact True.intro | with_reducible rfl | decide | assumption | rfl)))
        refine hK _ ?_; clear hK K
        refine AWp.ret ?_
        try simp only [thenQ, bq, lq, lf, iq, gq, Nat.reduceEqDiff, if_true, if_false]
        simp only [endQ, rs_ref01_Same, resC, one, wT, Bool.not_eq_true, ty, zr, Nat.reduceAdd, Nat.reduceSub, Nat.reduceMul, Nat.reduceMod, Nat.reduceDiv, Nat.reduceEqDiff, Nat.reduceLeDiff, Nat.reduceBEq, Int.reduceAdd, Int.reduceSub, Int.reduceMul, Int.reduceNeg, Int.reduceLT, Int.reduceLE, Int.reduceEq, Int.reduceNe, Int.reduceBEq, Int.reduceToNat, Int.reduceTDiv, Int.reduceTMod, Int.reduceOfNat, reduceCtorEq, sty, sui]
        try simp (disch := first | omega | (simp only [List.length_set, List.length_replicate, List.length_append, List.length_nil, litP_len, padV_len, xorA_len, flatI_len]; first | done | omega)) only [aT, Int.reduceToNat, List.length_set, List.length_replicate, List.length_append, List.length_nil, litP_len, padV_len, xorA_len, flatI_len]
        congr 1
        symm
        first | (rw [beq_iff_eq]; exact eq_subL ha hb' hF0) | (rw [beq_eq_false_iff_ne]; first | exact ne_subL (by omega) hb | (intro he; have := congrArg List.length he; rw [length_sub ha, length_sub hb'] at this; omega))
      · try simp only [decide_eq_true_eq, decide_eq_false_iff_not, beq_iff_eq, bne_iff_ne, ne_eq, Bool.not_eq_true, beq_eq_false_iff_ne, bne_eq_false_iff_eq, Bool.not_eq_false, Bool.not_eq_eq_eq_not, Bool.not_true, Bool.not_false] at hb
        refine AWp.skip ?_
        try simp only [thenQ, bq, lq, lf, iq, gq, Nat.reduceEqDiff, if_true, if_false]
        refine hY1 _ ?_
        try clear hY1 Y1
        refine AWp.regE p_ref01_Same_5 [] s_ref01_Same_5 rfl rfl (st_of ?_)
        simp only [s_ref01_Same_5, wT, Bool.not_eq_true, ty, zr, Nat.reduceAdd, Nat.reduceSub, Nat.reduceMul, Nat.reduceMod, Nat.reduceDiv, Nat.reduceEqDiff, Nat.reduceLeDiff, Nat.reduceBEq, Int.reduceAdd, Int.reduceSub, Int.reduceMul, Int.reduceNeg, Int.reduceLT, Int.reduceLE, Int.reduceEq, Int.reduceNe, Int.reduceBEq, Int.reduceToNat, Int.reduceTDiv, Int.reduceTMod, Int.reduceOfNat, reduceCtorEq, sty, sui]
        try simp (disch := first | omega | (simp only [List.length_set, List.length_replicate, List.length_append, List.length_nil, litP_len, padV_len, xorA_len, flatI_len]; first | done | omega)) only [aT, Int.reduceToNat, List.length_set, List.length_replicate, List.length_append, List.length_nil, litP_len, padV_len, xorA_len, flatI_len]
        (repeat ((with_reducible refine And.intro ?_ ?_); (first | omega | exact True.intro | with_reducible rfl | decide | assumption | rfl)))
        try simp only [thenQ, bq, lq, lf, iq, gq, Nat.reduceEqDiff, if_true, if_false]
        first | refine ⟨by omega, ?_, Le.ofA⟩ | refine ⟨?_, Le.ofA⟩
        intro j hj
        rcases Nat.lt_succ_iff_lt_or_eq.1 hj with h | rfl
        · exact hF0 j h
        · exact hb
    · try simp only [decide_eq_true_eq, decide_eq_false_iff_not, beq_iff_eq, bne_iff_ne, ne_eq, Bool.not_eq_true, beq_eq_false_iff_ne, bne_eq_false_iff_eq, Bool.not_eq_false, Bool.not_eq_eq_eq_not, Bool.not_true, Bool.not_false] at hb
      try simp only [thenQ, bq, lq, lf, iq, gq, Nat.reduceEqDiff, if_true, if_false]
      refine hX0 _ ?_
      try clear hX0 X0
      obtain rfl : i = la := by omega
      try simp only [thenQ, bq, lq, lf, iq, gq, Nat.reduceEqDiff, if_true, if_false]
      refine hG27 _ ?_
      try clear hG27 G27
      refine AWp.reg p_ref01_Same_8 [] s_ref01_Same_8 rfl rfl fun K hK => st_of ?_
      simp only [s_ref01_Same_8, wT, Bool.not_eq_true, ty, zr, Nat.reduceAdd, Nat.reduceSub, Nat.reduceMul, Nat.reduceMod, Nat.reduceDiv, Nat.reduceEqDiff, Nat.reduceLeDiff, Nat.reduceBEq, Int.reduceAdd, Int.reduceSub, Int.reduceMul, Int.reduceNeg, Int.reduceLT, Int.reduceLE, Int.reduceEq, Int.reduceNe, Int.reduceBEq, Int.reduceToNat, Int.reduceTDiv, Int.reduceTMod, Int.reduceOfNat, reduceCtorEq, sty, sui]
      try simp (disch := first | omega | (simp only [List.length_set, List.length_replicate, List.length_append, List.length_nil, litP_len, padV_len, xorA_len, flatI_len]; first | done | omega)) only [aT, Int.reduceToNat, List.length_set, List.length_replicate, List.length_append, List.length_nil, litP_len, padV_len, xorA_len, flatI_len]
      (repeat ((with_reducible refine And.intro ?_ ?_); (first | omega | exact True.intro | with_reducible rfl | decide | assumption | rfl)))
      refine hK _ ?_; clear hK K
      refine AWp.ret ?_
      try simp only [thenQ, bq, lq, lf, iq, gq, Nat.reduceEqDiff, if_true, if_false]
      simp only [endQ, rs_ref01_Same, resC, one, wT, Bool.not_eq_true, ty, zr, Nat.reduceAdd, Nat.reduceSub, Nat.reduceMul, Nat.reduceMod, Nat.reduceDiv, Nat.reduceEqDiff, Nat.reduceLeDiff, Nat.reduceBEq, Int.reduceAdd, Int.reduceSub, Int.reduceMul, Int.reduceNeg, Int.reduceLT, Int.reduceLE, Int.reduceEq, Int.reduceNe, Int.reduceBEq, Int.reduceToNat, Int.reduceTDiv, Int.reduceTMod, Int.reduceOfNat, reduceCtorEq, sty, sui]
      try simp (disch := first | omega | (simp only [List.length_set, List.length_replicate, List.length_append, List.length_nil, litP_len, padV_len, xorA_len, flatI_len]; first | done | omega)) only [aT, Int.reduceToNat, List.length_set, List.length_replicate, List.length_append, List.length_nil, litP_len, padV_len, xorA_len, flatI_len]
      congr 1
      symm
      first | (rw [beq_iff_eq]; exact eq_subL ha hb' hF0) | (rw [beq_eq_false_iff_ne]; first | exact ne_subL (by omega) hb | (intro he; have := congrArg List.length he; rw [length_sub ha, length_sub hb'] at this; omega))
theorem same1_nil {α : Type} (E : α → Option (Row α)) : FnOk Try.prog n_ref01_Same E [.nilslice, .nilslice] [] (.bool true) [] := by
  refine FnOk.pure func_ref01_Same call_ref01_Same (body := _) rfl nt_ref01_Same (by simp) (by simp [AV.solid, AV.solidL]) ?_
  refine AWp.reg p_ref01_Same_0 [] s_ref01_Same_0 rfl rfl fun K hK => st_of ?_
  simp only [s_ref01_Same_0, wT, Bool.not_eq_true, ty, zr, Nat.reduceAdd, Nat.reduceSub, Nat.reduceMul, Nat.reduceMod, Nat.reduceDiv, Nat.reduceEqDiff, Nat.reduceLeDiff, Nat.reduceBEq, Int.reduceAdd, Int.reduceSub, Int.reduceMul, Int.reduceNeg, Int.reduceLT, Int.reduceLE, Int.reduceEq, Int.reduceNe, Int.reduceBEq, Int.reduceToNat, Int.reduceTDiv, Int.reduceTMod, Int.reduceOfNat, reduceCtorEq, sty, sui]
  try simp (disch := first | omega | (simp only [List.length_set, List.length_replicate, List.length_append, List.length_nil, litP_len, padV_len, xorA_len, flatI_len]; first | done | omega)) only [aT, Int.reduceToNat, List.length_set, List.length_replicate, List.length_append, List.length_nil, litP_len, padV_len, xorA_len, flatI_len]
  (repeat ((with_reducible refine And.intro ?_ ?_); (first | omega | exact True.intro | with_reducible rfl | decide | assumption | rfl)))
  refine hK _ ?_; clear hK K
  refine AWp.grp fun G4 hG4 => ?_
  refine AWp.reg p_ref01_Same_1 [] s_ref01_Same_1 rfl rfl fun K hK => st_of ?_
  simp only [s_ref01_Same_1, wT, Bool.not_eq_true, ty, zr, Nat.reduceAdd, Nat.reduceSub, Nat.reduceMul, Nat.reduceMod, Nat.reduceDiv, Nat.reduceEqDiff, Nat.reduceLeDiff, Nat.reduceBEq, Int.reduceAdd, Int.reduceSub, Int.reduceMul, Int.reduceNeg, Int.reduceLT, Int.reduceLE, Int.reduceEq, Int.reduceNe, Int.reduceBEq, Int.reduceToNat, Int.reduceTDiv, Int.reduceTMod, Int.reduceOfNat, reduceCtorEq, sty, sui]
  try simp (disch := first | omega | (simp only [List.length_set, List.length_replicate, List.length_append, List.length_nil, litP_len, padV_len, xorA_len, flatI_len]; first | done | omega)) only [aT, Int.reduceToNat, List.length_set, List.length_replicate, List.length_append, List.length_nil, litP_len, padV_len, xorA_len, flatI_len]
  (repeat ((with_reducible refine And.intro ?_ ?_); (first | omega | exact True.intro | with_reducible rfl | decide | assumption | rfl)))
  refine hK _ ?_; clear hK K
  refine AWp.iteE rfl (fun hb => ?_) (fun hb => ?_)
  · try simp only [decide_eq_true_eq, decide_eq_false_iff_not, beq_iff_eq, bne_iff_ne, ne_eq, Bool.not_eq_true, beq_eq_false_iff_ne, bne_eq_false_iff_eq, Bool.not_eq_false, Bool.not_eq_eq_eq_not, Bool.not_true, Bool.not_false] at hb
    simp at hb
  · try simp only [decide_eq_true_eq, decide_eq_false_iff_not, beq_iff_eq, bne_iff_ne, ne_eq, Bool.not_eq_true, beq_eq_false_iff_ne, bne_eq_false_iff_eq, Bool.not_eq_false, Bool.not_eq_eq_eq_not, Bool.not_true, Bool.not_false] at hb
    refine AWp.skip ?_
    try simp only [thenQ, bq, lq, lf, iq, gq, Nat.reduceEqDiff, if_true, if_false]
    refine hG4 _ ?_
    try clear hG4 G4
    refine AWp.grp fun G17 hG17 => ?_
    refine AWp.reg p_ref01_Same_3 [] s_ref01_Same_3 rfl rfl fun K hK => st_of ?_
    simp only [s_ref01_Same_3, wT, Bool.not_eq_true, ty, zr, Nat.reduceAdd, Nat.reduceSub, Nat.reduceMul, Nat.reduceMod, Nat.reduceDiv, Nat.reduceEqDiff, Nat.reduceLeDiff, Nat.reduceBEq, Int.reduceAdd, Int.reduceSub, Int.reduceMul, Int.reduceNeg, Int.reduceLT, Int.reduceLE, Int.reduceEq, Int.reduceNe, Int.reduceBEq, Int.reduceToNat, Int.reduceTDiv, Int.reduceTMod, Int.reduceOfNat, reduceCtorEq, sty, sui]
    try simp (disch := first | omega | (simp only [List.length_set, List.length_replicate, List.length_append, List.length_nil, litP_len, padV_len, xorA_len, flatI_len]; first | done | omega)) only [aT, Int.reduceToNat, List.length_set, List.length_replicate, List.length_append, List.length_nil, litP_len, padV_len, xorA_len, flatI_len]
    (repeat ((with_reducible refine And.intro ?_ ?_); (first | omega | exact True.intro | with_reducible rfl | decide | assumption | rfl)))
    refine hK _ ?_; clear hK K
    refine AWp.lopX (fun i => ⟨[(0, .nilslice), (1, .nilslice), (5, .int .i64 i)], []⟩) (0) (Le.ofA) fun X0 hX0 i hn0 => ?_
    refine AWp.grp fun G23 hG23 => ?_
    refine AWp.reg p_ref01_Same_4 [] s_ref01_Same_4 rfl rfl fun K hK => st_of ?_
    simp only [s_ref01_Same_4, wT, Bool.not_eq_true, ty, zr, Nat.reduceAdd, Nat.reduceSub, Nat.reduceMul, Nat.reduceMod, Nat.reduceDiv, Nat.reduceEqDiff, Nat.reduceLeDiff, Nat.reduceBEq, Int.reduceAdd, Int.reduceSub, Int.reduceMul, Int.reduceNeg, Int.reduceLT, Int.reduceLE, Int.reduceEq, Int.reduceNe, Int.reduceBEq, Int.reduceToNat, Int.reduceTDiv, Int.reduceTMod, Int.reduceOfNat, reduceCtorEq, sty, sui]
    try simp (disch := first | omega | (simp only [List.length_set, List.length_replicate, List.length_append, List.length_nil, litP_len, padV_len, xorA_len, flatI_len]; first | done | omega)) only [aT, Int.reduceToNat, List.length_set, List.length_replicate, List.length_append, List.length_nil, litP_len, padV_len, xorA_len, flatI_len]
    (repeat ((with_reducible refine And.intro ?_ ?_); (first | omega | exact True.intro | with_reducible rfl | decide | assumption | rfl)))
    refine hK _ ?_; clear hK K
    refine AWp.testE rfl (fun hb => ?_) (fun hb => ?_)
    · try simp only [decide_eq_true_eq, decide_eq_false_iff_not, beq_iff_eq, bne_iff_ne, ne_eq, Bool.not_eq_true, beq_eq_false_iff_ne, bne_eq_false_iff_eq, Bool.not_eq_false, Bool.not_eq_eq_eq_not, Bool.not_true, Bool.not_false] at hb
      exfalso; omega
    · try simp only [decide_eq_true_eq, decide_eq_false_iff_not, beq_iff_eq, bne_iff_ne, ne_eq, Bool.not_eq_true, beq_eq_false_iff_ne, bne_eq_false_iff_eq, Bool.not_eq_false, Bool.not_eq_eq_eq_not, Bool.not_true, Bool.not_false] at hb
      try simp only [thenQ, bq, lq, lf, iq, gq, Nat.reduceEqDiff, if_true, if_false]
      refine hX0 _ ?_
      try clear hX0 X0
      obtain rfl : i = 0 := by omega
      try simp only [thenQ, bq, lq, lf, iq, gq, Nat.reduceEqDiff, if_true, if_false]
      refine hG17 _ ?_
      try clear hG17 G17
      refine AWp.reg p_ref01_Same_8 [] s_ref01_Same_8 rfl rfl fun K hK => st_of ?_
      simp only [s_ref01_Same_8, wT, Bool.not_eq_true, ty, zr, Nat.reduceAdd, Nat.reduceSub, Nat.reduceMul, Nat.reduceMod, Nat.reduceDiv, Nat.reduceEqDiff, Nat.reduceLeDiff, Nat.reduceBEq, Int.reduceAdd, Int.reduceSub, Int.reduceMul, Int.reduceNeg, Int.reduceLT, Int.reduceLE, Int.reduceEq, Int.reduceNe, Int.reduceBEq, Int.reduceToNat, Int.reduceTDiv, Int.reduceTMod, Int.reduceOfNat, reduceCtorEq, sty, sui]
      try simp (disch := first | omega | (simp only [List.length_set, List.length_replicate, List.length_append, List.length_nil, litP_len, padV_len, xorA_len, flatI_len]; first | done | omega)) only [aT, Int.reduceToNat, List.length_set, List.length_replicate, List.length_append, List.length_nil, litP_len, padV_len, xorA_len, flatI_len]
      (repeat ((with_reducible refine And.intro ?_ ?_); (first | omega | exact True.intro | with_reducible rfl | decide | assumption | rfl)))
      refine hK _ ?_; clear hK K
      refine AWp.ret ?_
      try simp only [thenQ, bq, lq, lf, iq, gq, Nat.reduceEqDiff, if_true, if_false]
      simp only [endQ, rs_ref01_Same, resC, one, wT, Bool.not_eq_true, ty, zr, Nat.reduceAdd, Nat.reduceSub, Nat.reduceMul, Nat.reduceMod, Nat.reduceDiv, Nat.reduceEqDiff, Nat.reduceLeDiff, Nat.reduceBEq, Int.reduceAdd, Int.reduceSub, Int.reduceMul, Int.reduceNeg, Int.reduceLT, Int.reduceLE, Int.reduceEq, Int.reduceNe, Int.reduceBEq, Int.reduceToNat, Int.reduceTDiv, Int.reduceTMod, Int.reduceOfNat, reduceCtorEq, sty, sui]
      try simp (disch := first | omega | (simp only [List.length_set, List.length_replicate, List.length_append, List.length_nil, litP_len, padV_len, xorA_len, flatI_len]; first | done | omega)) only [aT, Int.reduceToNat, List.length_set, List.length_replicate, List.length_append, List.length_nil, litP_len, padV_len, xorA_len, flatI_len]
      repeat' (first | exact True.intro | (with_reducible rfl) | (with_reducible apply And.intro) | omega | rfl)
theorem xor_ok {α : Type} (E : α → Option (Row α)) (x y : α) (l l' a b : List Int) (hx : E x = some (.ints .u8 l)) (hy : E y = some (.ints .u8 l')) (f g : Bool) (o la p lb n : Nat) (ha : o + la ≤ l.length) (hb' : p + lb ≤ l'.length) (sa : sub l o la = a) (sb : sub l' p lb = b) (hn : min la lb = n) (hm : la ≤ 140737488351232) (hm' : lb ≤ 140737488351232) :
    FnOk Try.prog n_wire_Xor E [.slice f (.ext x) o la 1, .slice g (.ext y) p lb 1] [] (.slice true (.own 0) 0 n 1) [some (.ints .u8 (xorA a b n))] := by
  have ga : ∀ i, i < la → l.getD (o + i) 0 = a.getD i 0 := fun i hi => by rw [← sa, getD_subL hi]
  have gb : ∀ i, i < lb → l'.getD (p + i) 0 = b.getD i 0 := fun i hi => by rw [← sb, getD_subL hi]
  have hmin : (if (lb : Int) < la then (lb : Int) else la) = (n : Int) := by split <;> omega
  refine FnOk.intro func_wire_Xor call_wire_Xor (body := _) rfl nt_wire_Xor (by simp) ?_
  refine AWp.reg p_wire_Xor_0 [] s_wire_Xor_0 rfl rfl fun K hK => st_of ?_
  simp only [s_wire_Xor_0, wT, Bool.not_eq_true, ty, zr, Nat.reduceAdd, Nat.reduceSub, Nat.reduceMul, Nat.reduceMod, Nat.reduceDiv, Nat.reduceEqDiff, Nat.reduceLeDiff, Nat.reduceBEq, Int.reduceAdd, Int.reduceSub, Int.reduceMul, Int.reduceNeg, Int.reduceLT, Int.reduceLE, Int.reduceEq, Int.reduceNe, Int.reduceBEq, Int.reduceToNat, Int.reduceTDiv, Int.reduceTMod, Int.reduceOfNat, reduceCtorEq, sty, sui]
  try simp (disch := first | omega | (simp only [List.length_set, List.length_replicate, List.length_append, List.length_nil, litP_len, padV_len, xorA_len, flatI_len]; first | done | omega)) only [aT, Int.reduceToNat, List.length_set, List.length_replicate, List.length_append, List.length_nil, litP_len, padV_len, xorA_len, flatI_len]
  (repeat ((with_reducible refine And.intro ?_ ?_); (first | omega | exact True.intro | with_reducible rfl | decide | assumption | rfl)))
  refine hK _ ?_; clear hK K
  refine AWp.reg p_wire_Xor_1 [] s_wire_Xor_1 rfl rfl fun K hK => st_of ?_
  simp only [s_wire_Xor_1, wT, Bool.not_eq_true, ty, zr, Nat.reduceAdd, Nat.reduceSub, Nat.reduceMul, Nat.reduceMod, Nat.reduceDiv, Nat.reduceEqDiff, Nat.reduceLeDiff, Nat.reduceBEq, Int.reduceAdd, Int.reduceSub, Int.reduceMul, Int.reduceNeg, Int.reduceLT, Int.reduceLE, Int.reduceEq, Int.reduceNe, Int.reduceBEq, Int.reduceToNat, Int.reduceTDiv, Int.reduceTMod, Int.reduceOfNat, reduceCtorEq, sty, sui]
  try simp (disch := first | omega | (simp only [List.length_set, List.length_replicate, List.length_append, List.length_nil, litP_len, padV_len, xorA_len, flatI_len]; first | done | omega)) only [aT, Int.reduceToNat, List.length_set, List.length_replicate, List.length_append, List.length_nil, litP_len, padV_len, xorA_len, flatI_len]
  simp only [hmin, wT, Bool.not_eq_true, ty, zr, Nat.reduceAdd, Nat.reduceSub, Nat.reduceMul, Nat.reduceMod, Nat.reduceDiv, Nat.reduceEqDiff, Nat.reduceLeDiff, Nat.reduceBEq, Int.reduceAdd, Int.reduceSub, Int.reduceMul, Int.reduceNeg, Int.reduceLT, Int.reduceLE, Int.reduceEq, Int.reduceNe, Int.reduceBEq, Int.reduceToNat, Int.reduceTDiv, Int.reduceTMod, Int.reduceOfNat, reduceCtorEq, sty, sui]
  try simp (disch := first | omega | (simp only [List.length_set, List.length_replicate, List.length_append, List.length_nil, litP_len, padV_len, xorA_len, flatI_len]; first | done | omega)) only [aT, Int.reduceToNat, List.length_set, List.length_replicate, List.length_append, List.length_nil, litP_len, padV_len, xorA_len, flatI_len]
  (repeat ((with_reducible refine And.intro ?_ ?_); (first | omega | exact True.intro | with_reducible rfl | decide | assumption | rfl)))
  refine hK _ ?_; clear hK K
  refine AWp.grp fun G9 hG9 => ?_
  refine AWp.reg p_wire_Xor_2 [] s_wire_Xor_2 rfl rfl fun K hK => st_of ?_
  simp only [s_wire_Xor_2, wT, Bool.not_eq_true, ty, zr, Nat.reduceAdd, Nat.reduceSub, Nat.reduceMul, Nat.reduceMod, Nat.reduceDiv, Nat.reduceEqDiff, Nat.reduceLeDiff, Nat.reduceBEq, Int.reduceAdd, Int.reduceSub, Int.reduceMul, Int.reduceNeg, Int.reduceLT, Int.reduceLE, Int.reduceEq, Int.reduceNe, Int.reduceBEq, Int.reduceToNat, Int.reduceTDiv, Int.reduceTMod, Int.reduceOfNat, reduceCtorEq, sty, sui]
  try simp (disch := first | omega | (simp only [List.length_set, List.length_replicate, List.length_append, List.length_nil, litP_len, padV_len, xorA_len, flatI_len]; first | done | omega)) only [aT, Int.reduceToNat, List.length_set, List.length_replicate, List.length_append, List.length_nil, litP_len, padV_len, xorA_len, flatI_len]
  (repeat ((with_reducible refine And.intro ?_ ?_); (first | omega | exact True.intro | with_reducible rfl | decide | assumption | rfl)))
  refine hK _ ?_; clear hK K
  refine AWp.lopX (fun i => ⟨[(0, .slice f (.ext x) o la 1), (1, .slice g (.ext y) p lb 1), (5, .slice true (.own 0) 0 n 1), (14, .int .i64 n), (15, .int .i64 i)], [some (.ints .u8 (xorF a b n i))]⟩) (n) ?_ fun X0 hX0 i hn0 => ?_
  · simp only [xorF_zero]
    exact Le.ofA
  have hw := xorF_len a b hn0
  refine AWp.reg p_wire_Xor_3 [] s_wire_Xor_3 rfl rfl fun K hK => st_of ?_
  simp only [s_wire_Xor_3, wT, Bool.not_eq_true, ty, zr, Nat.reduceAdd, Nat.reduceSub, Nat.reduceMul, Nat.reduceMod, Nat.reduceDiv, Nat.reduceEqDiff, Nat.reduceLeDiff, Nat.reduceBEq, Int.reduceAdd, Int.reduceSub, Int.reduceMul, Int.reduceNeg, Int.reduceLT, Int.reduceLE, Int.reduceEq, Int.reduceNe, Int.reduceBEq, Int.reduceToNat, Int.reduceTDiv, Int.reduceTMod, Int.reduceOfNat, reduceCtorEq, sty, sui]
  try simp (disch := first | omega | (simp only [List.length_set, List.length_replicate, List.length_append, List.length_nil, litP_len, padV_len, xorA_len, flatI_len]; first | done | omega)) only [aT, Int.reduceToNat, List.length_set, List.length_replicate, List.length_append, List.length_nil, litP_len, padV_len, xorA_len, flatI_len]
  (repeat ((with_reducible refine And.intro ?_ ?_); (first | omega | exact True.intro | with_reducible rfl | decide | assumption | rfl)))
  refine hK _ ?_; clear hK K
  refine AWp.test rfl (fun hb => ?_) (fun hb => ?_)
  · try simp only [decide_eq_true_eq, decide_eq_false_iff_not, beq_iff_eq, bne_iff_ne, ne_eq, Bool.not_eq_true, beq_eq_false_iff_ne, bne_eq_false_iff_eq, Bool.not_eq_false, Bool.not_eq_eq_eq_not, Bool.not_true, Bool.not_false] at hb
    have p1 := ga i (by omega)
    have p2 := gb i (by omega)
    have p3 := xorF_set a b (n := n) (i := i) (by omega)
    refine AWp.blk fun Y1 hY1 => ?_
    refine AWp.reg p_wire_Xor_4 [] s_wire_Xor_4 rfl rfl fun K hK => st_of ?_
    simp only [s_wire_Xor_4, wT, Bool.not_eq_true, ty, zr, Nat.reduceAdd, Nat.reduceSub, Nat.reduceMul, Nat.reduceMod, Nat.reduceDiv, Nat.reduceEqDiff, Nat.reduceLeDiff, Nat.reduceBEq, Int.reduceAdd, Int.reduceSub, Int.reduceMul, Int.reduceNeg, Int.reduceLT, Int.reduceLE, Int.reduceEq, Int.reduceNe, Int.reduceBEq, Int.reduceToNat, Int.reduceTDiv, Int.reduceTMod, Int.reduceOfNat, reduceCtorEq, sty, sui]
    try simp (disch := first | omega | (simp only [List.length_set, List.length_replicate, List.length_append, List.length_nil, litP_len, padV_len, xorA_len, flatI_len]; first | done | omega)) only [aT, Int.reduceToNat, List.length_set, List.length_replicate, List.length_append, List.length_nil, litP_len, padV_len, xorA_len, flatI_len]
    (repeat ((with_reducible refine And.intro ?_ ?_); (first | omega | exact True.intro | with_reducible rfl | decide | assumption | rfl)))
    refine hK _ ?_; clear hK K
    refine AWp.drwPE mix p_wire_Xor_5 q_wire_Xor_5 g_wire_Xor_5 s_wire_Xor_5 rfl (by decide +kernel) (sp_of ?_)
    simp only [s_wire_Xor_5, wT, Bool.not_eq_true, ty, zr, Nat.reduceAdd, Nat.reduceSub, Nat.reduceMul, Nat.reduceMod, Nat.reduceDiv, Nat.reduceEqDiff, Nat.reduceLeDiff, Nat.reduceBEq, Int.reduceAdd, Int.reduceSub, Int.reduceMul, Int.reduceNeg, Int.reduceLT, Int.reduceLE, Int.reduceEq, Int.reduceNe, Int.reduceBEq, Int.reduceToNat, Int.reduceTDiv, Int.reduceTMod, Int.reduceOfNat, reduceCtorEq, sty, sui]
    try simp (disch := first | omega | (simp only [List.length_set, List.length_replicate, List.length_append, List.length_nil, litP_len, padV_len, xorA_len, flatI_len]; first | done | omega)) only [aT, Int.reduceToNat, List.length_set, List.length_replicate, List.length_append, List.length_nil, litP_len, padV_len, xorA_len, flatI_len]
    simp only [hx, hy, Option.map_some, p1, p2, p3, hw, wT, Bool.not_eq_true, ty, zr, Nat.reduceAdd, Nat.reduceSub, Nat.reduceMul, Nat.reduceMod, Nat.reduceDiv, Nat.reduceEqDiff, Nat.reduceLeDiff, Nat.reduceBEq, Int.reduceAdd, Int.reduceSub, Int.reduceMul, Int.reduceNeg, Int.reduceLT, Int.reduceLE, Int.reduceEq, Int.reduceNe, Int.reduceBEq, Int.reduceToNat, Int.reduceTDiv, Int.reduceTMod, Int.reduceOfNat, reduceCtorEq, sty, sui]
    try simp (disch := first | omega | (simp only [List.length_set, List.length_replicate, List.length_append, List.length_nil, litP_len, padV_len, xorA_len, flatI_len]; first | done | omega)) only [aT, Int.reduceToNat, List.length_set, List.length_replicate, List.length_append, List.length_nil, litP_len, padV_len, xorA_len, flatI_len]
    (repeat ((with_reducible refine And.intro ?_ ?_); (first | omega | exact True.intro | with_reducible rfl | decide | assumption | rfl)))
    try simp only [thenQ, bq, lq, lf, iq, gq, Nat.reduceEqDiff, if_true, if_false]
    refine hY1 _ ?_
    try clear hY1 Y1
    refine AWp.regE p_wire_Xor_6 [] s_wire_Xor_6 rfl rfl (st_of ?_)
    simp only [s_wire_Xor_6, wT, Bool.not_eq_true, ty, zr, Nat.reduceAdd, Nat.reduceSub, Nat.reduceMul, Nat.reduceMod, Nat.reduceDiv, Nat.reduceEqDiff, Nat.reduceLeDiff, Nat.reduceBEq, Int.reduceAdd, Int.reduceSub, Int.reduceMul, Int.reduceNeg, Int.reduceLT, Int.reduceLE, Int.reduceEq, Int.reduceNe, Int.reduceBEq, Int.reduceToNat, Int.reduceTDiv, Int.reduceTMod, Int.reduceOfNat, reduceCtorEq, sty, sui]
    try simp (disch := first | omega | (simp only [List.length_set, List.length_replicate, List.length_append, List.length_nil, litP_len, padV_len, xorA_len, flatI_len]; first | done | omega)) only [aT, Int.reduceToNat, List.length_set, List.length_replicate, List.length_append, List.length_nil, litP_len, padV_len, xorA_len, flatI_len]
    (repeat ((with_reducible refine And.intro ?_ ?_); (first | omega | exact True.intro | with_reducible rfl | decide | assumption | rfl)))
    try simp only [thenQ, bq, lq, lf, iq, gq, Nat.reduceEqDiff, if_true, if_false]
    first | exact ⟨by omega, Le.ofA⟩ | exact Le.ofA
  · try simp only [decide_eq_true_eq, decide_eq_false_iff_not, beq_iff_eq, bne_iff_ne, ne_eq, Bool.not_eq_true, beq_eq_false_iff_ne, bne_eq_false_iff_eq, Bool.not_eq_false, Bool.not_eq_eq_eq_not, Bool.not_true, Bool.not_false] at hb
    try simp only [thenQ, bq, lq, lf, iq, gq, Nat.reduceEqDiff, if_true, if_false]
    refine hX0 _ ?_
    try clear hX0 X0
    obtain rfl : i = n := by omega
    rw [xorF_all] at *
    try simp only [thenQ, bq, lq, lf, iq, gq, Nat.reduceEqDiff, if_true, if_false]
    refine hG9 _ ?_
    try clear hG9 G9
    refine AWp.reg p_wire_Xor_7 [] s_wire_Xor_7 rfl rfl fun K hK => st_of ?_
    simp only [s_wire_Xor_7, wT, Bool.not_eq_true, ty, zr, Nat.reduceAdd, Nat.reduceSub, Nat.reduceMul, Nat.reduceMod, Nat.reduceDiv, Nat.reduceEqDiff, Nat.reduceLeDiff, Nat.reduceBEq, Int.reduceAdd, Int.reduceSub, Int.reduceMul, Int.reduceNeg, Int.reduceLT, Int.reduceLE, Int.reduceEq, Int.reduceNe, Int.reduceBEq, Int.reduceToNat, Int.reduceTDiv, Int.reduceTMod, Int.reduceOfNat, reduceCtorEq, sty, sui]
    try simp (disch := first | omega | (simp only [List.length_set, List.length_replicate, List.length_append, List.length_nil, litP_len, padV_len, xorA_len, flatI_len]; first | done | omega)) only [aT, Int.reduceToNat, List.length_set, List.length_replicate, List.length_append, List.length_nil, litP_len, padV_len, xorA_len, flatI_len]
    (repeat ((with_reducible refine And.intro ?_ ?_); (first | omega | exact True.intro | with_reducible rfl | decide | assumption | rfl)))
    refine hK _ ?_; clear hK K
    refine AWp.ret ?_
    try simp only [thenQ, bq, lq, lf, iq, gq, Nat.reduceEqDiff, if_true, if_false]
    simp only [endQ, rs_wire_Xor, resC, one, wT, Bool.not_eq_true, ty, zr, Nat.reduceAdd, Nat.reduceSub, Nat.reduceMul, Nat.reduceMod, Nat.reduceDiv, Nat.reduceEqDiff, Nat.reduceLeDiff, Nat.reduceBEq, Int.reduceAdd, Int.reduceSub, Int.reduceMul, Int.reduceNeg, Int.reduceLT, Int.reduceLE, Int.reduceEq, Int.reduceNe, Int.reduceBEq, Int.reduceToNat, Int.reduceTDiv, Int.reduceTMod, Int.reduceOfNat, reduceCtorEq, sty, sui]
    try simp (disch := first | omega | (simp only [List.length_set, List.length_replicate, List.length_append, List.length_nil, litP_len, padV_len, xorA_len, flatI_len]; first | done | omega)) only [aT, Int.reduceToNat, List.length_set, List.length_replicate, List.length_append, List.length_nil, litP_len, padV_len, xorA_len, flatI_len]
    refine ⟨[0], by decide, by simp, by rfl, ?_⟩; (repeat' (first | exact trivial | rfl | omega | apply And.intro | (simp [AV.All, AV.AllL, inS, AV.map, AV.mapL, renS, selRows, selRow, Row.map, Row.All, mapL_flat, mapL_flat1, allL_flat, allL_flat1]; done)))
theorem xorR_ok {α : Type} (E : α → Option (Row α)) (x y : α) (l l' a b : List Int) (hx : E x = some (.ints .u8 l)) (hy : E y = some (.ints .u8 l')) (f g : Bool) (o la p lb n : Nat) (ha : o + la ≤ l.length) (hb' : p + lb ≤ l'.length) (sa : sub l o la = a) (sb : sub l' p lb = b) (hn : min la lb = n) (hm : la ≤ 1099511627) (hm' : lb ≤ 1099511627) (wa : BV a) (wb : BV b) :
    FnOk Try.prog n_ref01_Xor E [.slice f (.ext x) o la 1, .slice g (.ext y) p lb 1] [] (.slice true (.own 0) 0 n 1) [some (.ints .u8 (xorA a b n))] := by
  have ga : ∀ i, i < la → l.getD (o + i) 0 = a.getD i 0 := fun i hi => by rw [← sa, getD_subL hi]
  have gb : ∀ i, i < lb → l'.getD (p + i) 0 = b.getD i 0 := fun i hi => by rw [← sb, getD_subL hi]
  refine FnOk.intro func_ref01_Xor call_ref01_Xor (body := _) rfl nt_ref01_Xor (by simp) ?_
  refine AWp.reg p_ref01_Xor_0 [] s_ref01_Xor_0 rfl rfl fun K hK => st_of ?_
  simp only [s_ref01_Xor_0, wT, Bool.not_eq_true, ty, zr, Nat.reduceAdd, Nat.reduceSub, Nat.reduceMul, Nat.reduceMod, Nat.reduceDiv, Nat.reduceEqDiff, Nat.reduceLeDiff, Nat.reduceBEq, Int.reduceAdd, Int.reduceSub, Int.reduceMul, Int.reduceNeg, Int.reduceLT, Int.reduceLE, Int.reduceEq, Int.reduceNe, Int.reduceBEq, Int.reduceToNat, Int.reduceTDiv, Int.reduceTMod, Int.reduceOfNat, reduceCtorEq, sty, sui]
  try simp (disch := first | omega | (simp only [List.length_set, List.length_replicate, List.length_append, List.length_nil, litP_len, padV_len, xorA_len, flatI_len]; first | done | omega)) only [aT, Int.reduceToNat, List.length_set, List.length_replicate, List.length_append, List.length_nil, litP_len, padV_len, xorA_len, flatI_len]
  (repeat ((with_reducible refine And.intro ?_ ?_); (first | omega | exact True.intro | with_reducible rfl | decide | assumption | rfl)))
  refine hK _ ?_; clear hK K
  refine AWp.reg p_ref01_Xor_1 [] s_ref01_Xor_1 rfl rfl fun K hK => st_of ?_
  simp only [s_ref01_Xor_1, wT, Bool.not_eq_true, ty, zr, Nat.reduceAdd, Nat.reduceSub, Nat.reduceMul, Nat.reduceMod, Nat.reduceDiv, Nat.reduceEqDiff, Nat.reduceLeDiff, Nat.reduceBEq, Int.reduceAdd, Int.reduceSub, Int.reduceMul, Int.reduceNeg, Int.reduceLT, Int.reduceLE, Int.reduceEq, Int.reduceNe, Int.reduceBEq, Int.reduceToNat, Int.reduceTDiv, Int.reduceTMod, Int.reduceOfNat, reduceCtorEq, sty, sui]
  try simp (disch := first | omega | (simp only [List.length_set, List.length_replicate, List.length_append, List.length_nil, litP_len, padV_len, xorA_len, flatI_len]; first | done | omega)) only [aT, Int.reduceToNat, List.length_set, List.length_replicate, List.length_append, List.length_nil, litP_len, padV_len, xorA_len, flatI_len]
  (repeat ((with_reducible refine And.intro ?_ ?_); (first | omega | exact True.intro | with_reducible rfl | decide | assumption | rfl)))
  refine hK _ ?_; clear hK K
  refine AWp.grp fun G8 hG8 => ?_
  refine AWp.reg p_ref01_Xor_2 [] s_ref01_Xor_2 rfl rfl fun K hK => st_of ?_
  simp only [s_ref01_Xor_2, wT, Bool.not_eq_true, ty, zr, Nat.reduceAdd, Nat.reduceSub, Nat.reduceMul, Nat.reduceMod, Nat.reduceDiv, Nat.reduceEqDiff, Nat.reduceLeDiff, Nat.reduceBEq, Int.reduceAdd, Int.reduceSub, Int.reduceMul, Int.reduceNeg, Int.reduceLT, Int.reduceLE, Int.reduceEq, Int.reduceNe, Int.reduceBEq, Int.reduceToNat, Int.reduceTDiv, Int.reduceTMod, Int.reduceOfNat, reduceCtorEq, sty, sui]
  try simp (disch := first | omega | (simp only [List.length_set, List.length_replicate, List.length_append, List.length_nil, litP_len, padV_len, xorA_len, flatI_len]; first | done | omega)) only [aT, Int.reduceToNat, List.length_set, List.length_replicate, List.length_append, List.length_nil, litP_len, padV_len, xorA_len, flatI_len]
  (repeat ((with_reducible refine And.intro ?_ ?_); (first | omega | exact True.intro | with_reducible rfl | decide | assumption | rfl)))
  refine hK _ ?_; clear hK K
  refine AWp.less (Le.nil 5 rfl .u8 1) ?_
  refine AWp.lopX (fun i => ⟨[(0, .slice f (.ext x) o la 1), (1, .slice g (.ext y) p lb 1), (5, .slice true (.own 0) 0 i 1), (6, .int .i64 i)], [some (.ints .u8 (xorA a b i))]⟩) (n) ?_ fun X0 hX0 i hn0 => ?_
  · show Le _ ⟨_, [some (.ints .u8 [])]⟩ _
    exact Le.ofA
  have hw := xorA_len a b i
  refine AWp.grp fun G18 hG18 => ?_
  refine AWp.regJ p_ref01_Xor_3 [] s_ref01_Xor_3 ⟨[(21, .bool (decide (i < n))), (0, .slice f (.ext x) o la 1), (1, .slice g (.ext y) p lb 1), (5, .slice true (.own 0) 0 i 1), (6, .int .i64 i)], [some (.ints .u8 (xorA a b i))]⟩ rfl rfl (fun K hK => st_of ?_) ?_
  · simp only [s_ref01_Xor_3, wT, Bool.not_eq_true, ty, zr, Nat.reduceAdd, Nat.reduceSub, Nat.reduceMul, Nat.reduceMod, Nat.reduceDiv, Nat.reduceEqDiff, Nat.reduceLeDiff, Nat.reduceBEq, Int.reduceAdd, Int.reduceSub, Int.reduceMul, Int.reduceNeg, Int.reduceLT, Int.reduceLE, Int.reduceEq, Int.reduceNe, Int.reduceBEq, Int.reduceToNat, Int.reduceTDiv, Int.reduceTMod, Int.reduceOfNat, reduceCtorEq, sty, sui]
    try simp (disch := first | omega | (simp only [List.length_set, List.length_replicate, List.length_append, List.length_nil, litP_len, padV_len, xorA_len, flatI_len]; first | done | omega)) only [aT, Int.reduceToNat, List.length_set, List.length_replicate, List.length_append, List.length_nil, litP_len, padV_len, xorA_len, flatI_len]
    refine ⟨fun h => ?_, fun h => ?_⟩
    · rw [show decide ((i : Int) < lb) = decide (i < n) from by rw [decide_eq_decide]; omega]
      exact hK _ (Le.ofA)
    · have e : decide (i < n) = false := decide_eq_false (by omega)
      simp only [e] at hK
      exact hK _ (Le.ofA)
  refine AWp.testE rfl (fun hb => ?_) (fun hb => ?_)
  · try simp only [decide_eq_true_eq, decide_eq_false_iff_not, beq_iff_eq, bne_iff_ne, ne_eq, Bool.not_eq_true, beq_eq_false_iff_ne, bne_eq_false_iff_eq, Bool.not_eq_false, Bool.not_eq_eq_eq_not, Bool.not_true, Bool.not_false] at hb
    obtain ⟨u, hu, eu⟩ := by_nat (wa i)
    obtain ⟨v, hv, ev'⟩ := by_nat (wb i)
    have p1 : l.getD (o + i) 0 = xq u 0 := by rw [ga i (by omega), eu, xq_zero]
    have p2 : l'.getD (p + i) 0 = xq v 0 := by rw [gb i (by omega), ev', xq_zero]
    try simp only [thenQ, bq, lq, lf, iq, gq, Nat.reduceEqDiff, if_true, if_false]
    refine hG18 _ ?_
    try clear hG18 G18
    refine AWp.blk fun Y1 hY1 => ?_
    refine AWp.reg p_ref01_Xor_5 [] s_ref01_Xor_5 rfl rfl fun K hK => st_of ?_
    simp only [s_ref01_Xor_5, wT, Bool.not_eq_true, ty, zr, Nat.reduceAdd, Nat.reduceSub, Nat.reduceMul, Nat.reduceMod, Nat.reduceDiv, Nat.reduceEqDiff, Nat.reduceLeDiff, Nat.reduceBEq, Int.reduceAdd, Int.reduceSub, Int.reduceMul, Int.reduceNeg, Int.reduceLT, Int.reduceLE, Int.reduceEq, Int.reduceNe, Int.reduceBEq, Int.reduceToNat, Int.reduceTDiv, Int.reduceTMod, Int.reduceOfNat, reduceCtorEq, sty, sui]
    try simp (disch := first | omega | (simp only [List.length_set, List.length_replicate, List.length_append, List.length_nil, litP_len, padV_len, xorA_len, flatI_len]; first | done | omega)) only [aT, Int.reduceToNat, List.length_set, List.length_replicate, List.length_append, List.length_nil, litP_len, padV_len, xorA_len, flatI_len]
    simp only [hx, p1, Option.map_some, wT, Bool.not_eq_true, ty, zr, Nat.reduceAdd, Nat.reduceSub, Nat.reduceMul, Nat.reduceMod, Nat.reduceDiv, Nat.reduceEqDiff, Nat.reduceLeDiff, Nat.reduceBEq, Int.reduceAdd, Int.reduceSub, Int.reduceMul, Int.reduceNeg, Int.reduceLT, Int.reduceLE, Int.reduceEq, Int.reduceNe, Int.reduceBEq, Int.reduceToNat, Int.reduceTDiv, Int.reduceTMod, Int.reduceOfNat, reduceCtorEq, sty, sui]
    try simp (disch := first | omega | (simp only [List.length_set, List.length_replicate, List.length_append, List.length_nil, litP_len, padV_len, xorA_len, flatI_len]; first | done | omega)) only [aT, Int.reduceToNat, List.length_set, List.length_replicate, List.length_append, List.length_nil, litP_len, padV_len, xorA_len, flatI_len]
    (repeat ((with_reducible refine And.intro ?_ ?_); (first | omega | exact True.intro | with_reducible rfl | decide | assumption | rfl)))
    refine hK _ ?_; clear hK K
    refine AWp.reg p_ref01_Xor_6 [] s_ref01_Xor_6 rfl rfl fun K hK => st_of ?_
    simp only [s_ref01_Xor_6, wT, Bool.not_eq_true, ty, zr, Nat.reduceAdd, Nat.reduceSub, Nat.reduceMul, Nat.reduceMod, Nat.reduceDiv, Nat.reduceEqDiff, Nat.reduceLeDiff, Nat.reduceBEq, Int.reduceAdd, Int.reduceSub, Int.reduceMul, Int.reduceNeg, Int.reduceLT, Int.reduceLE, Int.reduceEq, Int.reduceNe, Int.reduceBEq, Int.reduceToNat, Int.reduceTDiv, Int.reduceTMod, Int.reduceOfNat, reduceCtorEq, sty, sui]
    try simp (disch := first | omega | (simp only [List.length_set, List.length_replicate, List.length_append, List.length_nil, litP_len, padV_len, xorA_len, flatI_len]; first | done | omega)) only [aT, Int.reduceToNat, List.length_set, List.length_replicate, List.length_append, List.length_nil, litP_len, padV_len, xorA_len, flatI_len]
    simp only [hy, p2, Option.map_some, wT, Bool.not_eq_true, ty, zr, Nat.reduceAdd, Nat.reduceSub, Nat.reduceMul, Nat.reduceMod, Nat.reduceDiv, Nat.reduceEqDiff, Nat.reduceLeDiff, Nat.reduceBEq, Int.reduceAdd, Int.reduceSub, Int.reduceMul, Int.reduceNeg, Int.reduceLT, Int.reduceLE, Int.reduceEq, Int.reduceNe, Int.reduceBEq, Int.reduceToNat, Int.reduceTDiv, Int.reduceTMod, Int.reduceOfNat, reduceCtorEq, sty, sui]
    try simp (disch := first | omega | (simp only [List.length_set, List.length_replicate, List.length_append, List.length_nil, litP_len, padV_len, xorA_len, flatI_len]; first | done | omega)) only [aT, Int.reduceToNat, List.length_set, List.length_replicate, List.length_append, List.length_nil, litP_len, padV_len, xorA_len, flatI_len]
    (repeat ((with_reducible refine And.intro ?_ ?_); (first | omega | exact True.intro | with_reducible rfl | decide | assumption | rfl)))
    refine hK _ ?_; clear hK K
    refine AWp.reg p_ref01_Xor_7 [] s_ref01_Xor_7 rfl rfl fun K hK => st_of ?_
    simp only [s_ref01_Xor_7, wT, Bool.not_eq_true, ty, zr, Nat.reduceAdd, Nat.reduceSub, Nat.reduceMul, Nat.reduceMod, Nat.reduceDiv, Nat.reduceEqDiff, Nat.reduceLeDiff, Nat.reduceBEq, Int.reduceAdd, Int.reduceSub, Int.reduceMul, Int.reduceNeg, Int.reduceLT, Int.reduceLE, Int.reduceEq, Int.reduceNe, Int.reduceBEq, Int.reduceToNat, Int.reduceTDiv, Int.reduceTMod, Int.reduceOfNat, reduceCtorEq, sty, sui]
    try simp (disch := first | omega | (simp only [List.length_set, List.length_replicate, List.length_append, List.length_nil, litP_len, padV_len, xorA_len, flatI_len]; first | done | omega)) only [aT, Int.reduceToNat, List.length_set, List.length_replicate, List.length_append, List.length_nil, litP_len, padV_len, xorA_len, flatI_len]
    (repeat ((with_reducible refine And.intro ?_ ?_); (first | omega | exact True.intro | with_reducible rfl | decide | assumption | rfl)))
    refine hK _ ?_; clear hK K
    refine AWp.reg p_ref01_Xor_8 [] s_ref01_Xor_8 rfl rfl fun K hK => st_of ?_
    simp only [s_ref01_Xor_8, wT, Bool.not_eq_true, ty, zr, Nat.reduceAdd, Nat.reduceSub, Nat.reduceMul, Nat.reduceMod, Nat.reduceDiv, Nat.reduceEqDiff, Nat.reduceLeDiff, Nat.reduceBEq, Int.reduceAdd, Int.reduceSub, Int.reduceMul, Int.reduceNeg, Int.reduceLT, Int.reduceLE, Int.reduceEq, Int.reduceNe, Int.reduceBEq, Int.reduceToNat, Int.reduceTDiv, Int.reduceTMod, Int.reduceOfNat, reduceCtorEq, sty, sui]
    try simp (disch := first | omega | (simp only [List.length_set, List.length_replicate, List.length_append, List.length_nil, litP_len, padV_len, xorA_len, flatI_len]; first | done | omega)) only [aT, Int.reduceToNat, List.length_set, List.length_replicate, List.length_append, List.length_nil, litP_len, padV_len, xorA_len, flatI_len]
    (repeat ((with_reducible refine And.intro ?_ ?_); (first | omega | exact True.intro | with_reducible rfl | decide | assumption | rfl)))
    refine hK _ ?_; clear hK K
    refine AWp.grp fun G55 hG55 => ?_
    refine AWp.reg p_ref01_Xor_9 [] s_ref01_Xor_9 rfl rfl fun K hK => st_of ?_
    simp only [s_ref01_Xor_9, wT, Bool.not_eq_true, ty, zr, Nat.reduceAdd, Nat.reduceSub, Nat.reduceMul, Nat.reduceMod, Nat.reduceDiv, Nat.reduceEqDiff, Nat.reduceLeDiff, Nat.reduceBEq, Int.reduceAdd, Int.reduceSub, Int.reduceMul, Int.reduceNeg, Int.reduceLT, Int.reduceLE, Int.reduceEq, Int.reduceNe, Int.reduceBEq, Int.reduceToNat, Int.reduceTDiv, Int.reduceTMod, Int.reduceOfNat, reduceCtorEq, sty, sui]
    try simp (disch := first | omega | (simp only [List.length_set, List.length_replicate, List.length_append, List.length_nil, litP_len, padV_len, xorA_len, flatI_len]; first | done | omega)) only [aT, Int.reduceToNat, List.length_set, List.length_replicate, List.length_append, List.length_nil, litP_len, padV_len, xorA_len, flatI_len]
    (repeat ((with_reducible refine And.intro ?_ ?_); (first | omega | exact True.intro | with_reducible rfl | decide | assumption | rfl)))
    refine hK _ ?_; clear hK K
    refine AWp.lopX (fun j => ⟨[(0, .slice f (.ext x) o la 1), (1, .slice g (.ext y) p lb 1), (5, .slice true (.own 0) 0 i 1), (6, .int .i64 i), (7, .int .u8 (xq u j)), (8, .int .u8 (xq v j)), (9, .int .u8 (nq u v j)), (10, .int .u8 (bt j)), (11, .int .i64 j)], [some (.ints .u8 (xorA a b i))]⟩) (8) ?_ fun X2 hX2 j hn2 => ?_
    · simp only [nq_zero, bt_zero]
      exact Le.ofA
    have hj8 : j ≤ 8 := hn2
    refine AWp.grp fun G64 hG64 => ?_
    refine AWp.reg p_ref01_Xor_10 [] s_ref01_Xor_10 rfl rfl fun K hK => st_of ?_
    simp only [s_ref01_Xor_10, wT, Bool.not_eq_true, ty, zr, Nat.reduceAdd, Nat.reduceSub, Nat.reduceMul, Nat.reduceMod, Nat.reduceDiv, Nat.reduceEqDiff, Nat.reduceLeDiff, Nat.reduceBEq, Int.reduceAdd, Int.reduceSub, Int.reduceMul, Int.reduceNeg, Int.reduceLT, Int.reduceLE, Int.reduceEq, Int.reduceNe, Int.reduceBEq, Int.reduceToNat, Int.reduceTDiv, Int.reduceTMod, Int.reduceOfNat, reduceCtorEq, sty, sui]
    try simp (disch := first | omega | (simp only [List.length_set, List.length_replicate, List.length_append, List.length_nil, litP_len, padV_len, xorA_len, flatI_len]; first | done | omega)) only [aT, Int.reduceToNat, List.length_set, List.length_replicate, List.length_append, List.length_nil, litP_len, padV_len, xorA_len, flatI_len]
    (repeat ((with_reducible refine And.intro ?_ ?_); (first | omega | exact True.intro | with_reducible rfl | decide | assumption | rfl)))
    refine hK _ ?_; clear hK K
    refine AWp.testE rfl (fun hb => ?_) (fun hb => ?_)
    · try simp only [decide_eq_true_eq, decide_eq_false_iff_not, beq_iff_eq, bne_iff_ne, ne_eq, Bool.not_eq_true, beq_eq_false_iff_ne, bne_eq_false_iff_eq, Bool.not_eq_false, Bool.not_eq_eq_eq_not, Bool.not_true, Bool.not_false] at hb
      have q1 := xq_succ hu j
      have q2 := xq_succ hv j
      have q3 := bt_succ (show j < 8 by omega)
      try simp only [thenQ, bq, lq, lf, iq, gq, Nat.reduceEqDiff, if_true, if_false]
      refine hG64 _ ?_
      try clear hG64 G64
      refine AWp.blk fun Y3 hY3 => ?_
      refine AWp.grp fun G78 hG78 => ?_
      refine AWp.reg p_ref01_Xor_12 [] s_ref01_Xor_12 rfl rfl fun K hK => st_of ?_
      simp only [s_ref01_Xor_12, wT, Bool.not_eq_true, ty, zr, Nat.reduceAdd, Nat.reduceSub, Nat.reduceMul, Nat.reduceMod, Nat.reduceDiv, Nat.reduceEqDiff, Nat.reduceLeDiff, Nat.reduceBEq, Int.reduceAdd, Int.reduceSub, Int.reduceMul, Int.reduceNeg, Int.reduceLT, Int.reduceLE, Int.reduceEq, Int.reduceNe, Int.reduceBEq, Int.reduceToNat, Int.reduceTDiv, Int.reduceTMod, Int.reduceOfNat, reduceCtorEq, sty, sui]
      try simp (disch := first | omega | (simp only [List.length_set, List.length_replicate, List.length_append, List.length_nil, litP_len, padV_len, xorA_len, flatI_len]; first | done | omega)) only [aT, Int.reduceToNat, List.length_set, List.length_replicate, List.length_append, List.length_nil, litP_len, padV_len, xorA_len, flatI_len]
      (repeat ((with_reducible refine And.intro ?_ ?_); (first | omega | exact True.intro | with_reducible rfl | decide | assumption | rfl)))
      refine hK _ ?_; clear hK K
      refine AWp.iteE rfl (fun hb => ?_) (fun hb => ?_)
      · try simp only [decide_eq_true_eq, decide_eq_false_iff_not, beq_iff_eq, bne_iff_ne, ne_eq, Bool.not_eq_true, beq_eq_false_iff_ne, bne_eq_false_iff_eq, Bool.not_eq_false, Bool.not_eq_eq_eq_not, Bool.not_true, Bool.not_false] at hb
        have q4 := nq_t hu hv (show j < 8 by omega) hb
        refine AWp.regE p_ref01_Xor_13 [] s_ref01_Xor_13 rfl rfl (st_of ?_)
        simp only [s_ref01_Xor_13, wT, Bool.not_eq_true, ty, zr, Nat.reduceAdd, Nat.reduceSub, Nat.reduceMul, Nat.reduceMod, Nat.reduceDiv, Nat.reduceEqDiff, Nat.reduceLeDiff, Nat.reduceBEq, Int.reduceAdd, Int.reduceSub, Int.reduceMul, Int.reduceNeg, Int.reduceLT, Int.reduceLE, Int.reduceEq, Int.reduceNe, Int.reduceBEq, Int.reduceToNat, Int.reduceTDiv, Int.reduceTMod, Int.reduceOfNat, reduceCtorEq, sty, sui]
        try simp (disch := first | omega | (simp only [List.length_set, List.length_replicate, List.length_append, List.length_nil, litP_len, padV_len, xorA_len, flatI_len]; first | done | omega)) only [aT, Int.reduceToNat, List.length_set, List.length_replicate, List.length_append, List.length_nil, litP_len, padV_len, xorA_len, flatI_len]
        simp only [q4]
        (repeat ((with_reducible refine And.intro ?_ ?_); (first | omega | exact True.intro | with_reducible rfl | decide | assumption | rfl)))
        try simp only [thenQ, bq, lq, lf, iq, gq, Nat.reduceEqDiff, if_true, if_false]
        refine hG78 _ ?_
        try clear hG78 G78
        refine AWp.reg p_ref01_Xor_14 [] s_ref01_Xor_14 rfl rfl fun K hK => st_of ?_
        simp only [s_ref01_Xor_14, wT, Bool.not_eq_true, ty, zr, Nat.reduceAdd, Nat.reduceSub, Nat.reduceMul, Nat.reduceMod, Nat.reduceDiv, Nat.reduceEqDiff, Nat.reduceLeDiff, Nat.reduceBEq, Int.reduceAdd, Int.reduceSub, Int.reduceMul, Int.reduceNeg, Int.reduceLT, Int.reduceLE, Int.reduceEq, Int.reduceNe, Int.reduceBEq, Int.reduceToNat, Int.reduceTDiv, Int.reduceTMod, Int.reduceOfNat, reduceCtorEq, sty, sui]
        try simp (disch := first | omega | (simp only [List.length_set, List.length_replicate, List.length_append, List.length_nil, litP_len, padV_len, xorA_len, flatI_len]; first | done | omega)) only [aT, Int.reduceToNat, List.length_set, List.length_replicate, List.length_append, List.length_nil, litP_len, padV_len, xorA_len, flatI_len]
        simp only [q1]
        (repeat ((with_reducible refine And.intro ?_ ?_); (first | omega | exact True.intro | with_reducible rfl | decide | assumption | rfl)))
        refine hK _ ?_; clear hK K
        refine AWp.reg p_ref01_Xor_15 [] s_ref01_Xor_15 rfl rfl fun K hK => st_of ?_
        simp only [s_ref01_Xor_15, wT, Bool.not_eq_true, ty, zr, Nat.reduceAdd, Nat.reduceSub, Nat.reduceMul, Nat.reduceMod, Nat.reduceDiv, Nat.reduceEqDiff, Nat.reduceLeDiff, Nat.reduceBEq, Int.reduceAdd, Int.reduceSub, Int.reduceMul, Int.reduceNeg, Int.reduceLT, Int.reduceLE, Int.reduceEq, Int.reduceNe, Int.reduceBEq, Int.reduceToNat, Int.reduceTDiv, Int.reduceTMod, Int.reduceOfNat, reduceCtorEq, sty, sui]
        try simp (disch := first | omega | (simp only [List.length_set, List.length_replicate, List.length_append, List.length_nil, litP_len, padV_len, xorA_len, flatI_len]; first | done | omega)) only [aT, Int.reduceToNat, List.length_set, List.length_replicate, List.length_append, List.length_nil, litP_len, padV_len, xorA_len, flatI_len]
        simp only [q2]
        (repeat ((with_reducible refine And.intro ?_ ?_); (first | omega | exact True.intro | with_reducible rfl | decide | assumption | rfl)))
        refine hK _ ?_; clear hK K
        refine AWp.regE p_ref01_Xor_16 [] s_ref01_Xor_16 rfl rfl (st_of ?_)
        simp only [s_ref01_Xor_16, wT, Bool.not_eq_true, ty, zr, Nat.reduceAdd, Nat.reduceSub, Nat.reduceMul, Nat.reduceMod, Nat.reduceDiv, Nat.reduceEqDiff, Nat.reduceLeDiff, Nat.reduceBEq, Int.reduceAdd, Int.reduceSub, Int.reduceMul, Int.reduceNeg, Int.reduceLT, Int.reduceLE, Int.reduceEq, Int.reduceNe, Int.reduceBEq, Int.reduceToNat, Int.reduceTDiv, Int.reduceTMod, Int.reduceOfNat, reduceCtorEq, sty, sui]
        try simp (disch := first | omega | (simp only [List.length_set, List.length_replicate, List.length_append, List.length_nil, litP_len, padV_len, xorA_len, flatI_len]; first | done | omega)) only [aT, Int.reduceToNat, List.length_set, List.length_replicate, List.length_append, List.length_nil, litP_len, padV_len, xorA_len, flatI_len]
        simp only [q3]
        (repeat ((with_reducible refine And.intro ?_ ?_); (first | omega | exact True.intro | with_reducible rfl | decide | assumption | rfl)))
        try simp only [thenQ, bq, lq, lf, iq, gq, Nat.reduceEqDiff, if_true, if_false]
        refine hY3 _ ?_
        try clear hY3 Y3
        refine AWp.regE p_ref01_Xor_11 [] s_ref01_Xor_11 rfl rfl (st_of ?_)
        simp only [s_ref01_Xor_11, wT, Bool.not_eq_true, ty, zr, Nat.reduceAdd, Nat.reduceSub, Nat.reduceMul, Nat.reduceMod, Nat.reduceDiv, Nat.reduceEqDiff, Nat.reduceLeDiff, Nat.reduceBEq, Int.reduceAdd, Int.reduceSub, Int.reduceMul, Int.reduceNeg, Int.reduceLT, Int.reduceLE, Int.reduceEq, Int.reduceNe, Int.reduceBEq, Int.reduceToNat, Int.reduceTDiv, Int.reduceTMod, Int.reduceOfNat, reduceCtorEq, sty, sui]
        try simp (disch := first | omega | (simp only [List.length_set, List.length_replicate, List.length_append, List.length_nil, litP_len, padV_len, xorA_len, flatI_len]; first | done | omega)) only [aT, Int.reduceToNat, List.length_set, List.length_replicate, List.length_append, List.length_nil, litP_len, padV_len, xorA_len, flatI_len]
        (repeat ((with_reducible refine And.intro ?_ ?_); (first | omega | exact True.intro | with_reducible rfl | decide | assumption | rfl)))
        try simp only [thenQ, bq, lq, lf, iq, gq, Nat.reduceEqDiff, if_true, if_false]
        first | exact ⟨by omega, Le.ofA⟩ | exact Le.ofA
      · try simp only [decide_eq_true_eq, decide_eq_false_iff_not, beq_iff_eq, bne_iff_ne, ne_eq, Bool.not_eq_true, beq_eq_false_iff_ne, bne_eq_false_iff_eq, Bool.not_eq_false, Bool.not_eq_eq_eq_not, Bool.not_true, Bool.not_false] at hb
        have q5 := (nq_f hb).symm
        refine AWp.skip ?_
        try simp only [thenQ, bq, lq, lf, iq, gq, Nat.reduceEqDiff, if_true, if_false]
        refine hG78 _ ?_
        try clear hG78 G78
        refine AWp.reg p_ref01_Xor_14 [] s_ref01_Xor_14 rfl rfl fun K hK => st_of ?_
        simp only [s_ref01_Xor_14, wT, Bool.not_eq_true, ty, zr, Nat.reduceAdd, Nat.reduceSub, Nat.reduceMul, Nat.reduceMod, Nat.reduceDiv, Nat.reduceEqDiff, Nat.reduceLeDiff, Nat.reduceBEq, Int.reduceAdd, Int.reduceSub, Int.reduceMul, Int.reduceNeg, Int.reduceLT, Int.reduceLE, Int.reduceEq, Int.reduceNe, Int.reduceBEq, Int.reduceToNat, Int.reduceTDiv, Int.reduceTMod, Int.reduceOfNat, reduceCtorEq, sty, sui]
        try simp (disch := first | omega | (simp only [List.length_set, List.length_replicate, List.length_append, List.length_nil, litP_len, padV_len, xorA_len, flatI_len]; first | done | omega)) only [aT, Int.reduceToNat, List.length_set, List.length_replicate, List.length_append, List.length_nil, litP_len, padV_len, xorA_len, flatI_len]
        simp only [q1]
        (repeat ((with_reducible refine And.intro ?_ ?_); (first | omega | exact True.intro | with_reducible rfl | decide | assumption | rfl)))
        refine hK _ ?_; clear hK K
        refine AWp.reg p_ref01_Xor_15 [] s_ref01_Xor_15 rfl rfl fun K hK => st_of ?_
        simp only [s_ref01_Xor_15, wT, Bool.not_eq_true, ty, zr, Nat.reduceAdd, Nat.reduceSub, Nat.reduceMul, Nat.reduceMod, Nat.reduceDiv, Nat.reduceEqDiff, Nat.reduceLeDiff, Nat.reduceBEq, Int.reduceAdd, Int.reduceSub, Int.reduceMul, Int.reduceNeg, Int.reduceLT, Int.reduceLE, Int.reduceEq, Int.reduceNe, Int.reduceBEq, Int.reduceToNat, Int.reduceTDiv, Int.reduceTMod, Int.reduceOfNat, reduceCtorEq, sty, sui]
        try simp (disch := first | omega | (simp only [List.length_set, List.length_replicate, List.length_append, List.length_nil, litP_len, padV_len, xorA_len, flatI_len]; first | done | omega)) only [aT, Int.reduceToNat, List.length_set, List.length_replicate, List.length_append, List.length_nil, litP_len, padV_len, xorA_len, flatI_len]
        simp only [q2]
        (repeat ((with_reducible refine And.intro ?_ ?_); (first | omega | exact True.intro | with_reducible rfl | decide | assumption | rfl)))
        refine hK _ ?_; clear hK K
        refine AWp.regE p_ref01_Xor_16 [] s_ref01_Xor_16 rfl rfl (st_of ?_)
        simp only [s_ref01_Xor_16, wT, Bool.not_eq_true, ty, zr, Nat.reduceAdd, Nat.reduceSub, Nat.reduceMul, Nat.reduceMod, Nat.reduceDiv, Nat.reduceEqDiff, Nat.reduceLeDiff, Nat.reduceBEq, Int.reduceAdd, Int.reduceSub, Int.reduceMul, Int.reduceNeg, Int.reduceLT, Int.reduceLE, Int.reduceEq, Int.reduceNe, Int.reduceBEq, Int.reduceToNat, Int.reduceTDiv, Int.reduceTMod, Int.reduceOfNat, reduceCtorEq, sty, sui]
        try simp (disch := first | omega | (simp only [List.length_set, List.length_replicate, List.length_append, List.length_nil, litP_len, padV_len, xorA_len, flatI_len]; first | done | omega)) only [aT, Int.reduceToNat, List.length_set, List.length_replicate, List.length_append, List.length_nil, litP_len, padV_len, xorA_len, flatI_len]
        simp only [q3]
        (repeat ((with_reducible refine And.intro ?_ ?_); (first | omega | exact True.intro | with_reducible rfl | decide | assumption | rfl)))
        try simp only [thenQ, bq, lq, lf, iq, gq, Nat.reduceEqDiff, if_true, if_false]
        refine hY3 _ ?_
        try clear hY3 Y3
        refine AWp.regE p_ref01_Xor_11 [] s_ref01_Xor_11 rfl rfl (st_of ?_)
        simp only [s_ref01_Xor_11, wT, Bool.not_eq_true, ty, zr, Nat.reduceAdd, Nat.reduceSub, Nat.reduceMul, Nat.reduceMod, Nat.reduceDiv, Nat.reduceEqDiff, Nat.reduceLeDiff, Nat.reduceBEq, Int.reduceAdd, Int.reduceSub, Int.reduceMul, Int.reduceNeg, Int.reduceLT, Int.reduceLE, Int.reduceEq, Int.reduceNe, Int.reduceBEq, Int.reduceToNat, Int.reduceTDiv, Int.reduceTMod, Int.reduceOfNat, reduceCtorEq, sty, sui]
        try simp (disch := first | omega | (simp only [List.length_set, List.length_replicate, List.length_append, List.length_nil, litP_len, padV_len, xorA_len, flatI_len]; first | done | omega)) only [aT, Int.reduceToNat, List.length_set, List.length_replicate, List.length_append, List.length_nil, litP_len, padV_len, xorA_len, flatI_len]
        (repeat ((with_reducible refine And.intro ?_ ?_); (first | omega | exact True.intro | with_reducible rfl | decide | assumption | rfl)))
        try simp only [thenQ, bq, lq, lf, iq, gq, Nat.reduceEqDiff, if_true, if_false]
        first | exact ⟨by omega, Le.ofA⟩ | exact Le.ofA
    · try simp only [decide_eq_true_eq, decide_eq_false_iff_not, beq_iff_eq, bne_iff_ne, ne_eq, Bool.not_eq_true, beq_eq_false_iff_ne, bne_eq_false_iff_eq, Bool.not_eq_false, Bool.not_eq_eq_eq_not, Bool.not_true, Bool.not_false] at hb
      try simp only [thenQ, bq, lq, lf, iq, gq, Nat.reduceEqDiff, if_true, if_false]
      refine hX2 _ ?_
      try clear hX2 X2
      obtain rfl : j = 8 := by omega
      have q6 : nq u v 8 = ixor .u8 (a.getD i 0) (b.getD i 0) := by rw [nq_all hu hv, eu, ev']
      try simp only [thenQ, bq, lq, lf, iq, gq, Nat.reduceEqDiff, if_true, if_false]
      refine hG55 _ ?_
      try clear hG55 G55
      refine AWp.regE p_ref01_Xor_17 [] s_ref01_Xor_17 rfl rfl (st_of ?_)
      simp only [s_ref01_Xor_17, wT, Bool.not_eq_true, ty, zr, Nat.reduceAdd, Nat.reduceSub, Nat.reduceMul, Nat.reduceMod, Nat.reduceDiv, Nat.reduceEqDiff, Nat.reduceLeDiff, Nat.reduceBEq, Int.reduceAdd, Int.reduceSub, Int.reduceMul, Int.reduceNeg, Int.reduceLT, Int.reduceLE, Int.reduceEq, Int.reduceNe, Int.reduceBEq, Int.reduceToNat, Int.reduceTDiv, Int.reduceTMod, Int.reduceOfNat, reduceCtorEq, sty, sui]
      try simp (disch := first | omega | (simp only [List.length_set, List.length_replicate, List.length_append, List.length_nil, litP_len, padV_len, xorA_len, flatI_len]; first | done | omega)) only [aT, Int.reduceToNat, List.length_set, List.length_replicate, List.length_append, List.length_nil, litP_len, padV_len, xorA_len, flatI_len]
      simp only [q6, ← xorA_succ, List.set_cons_zero]
      (repeat ((with_reducible refine And.intro ?_ ?_); (first | omega | exact True.intro | with_reducible rfl | decide | assumption | rfl)))
      try simp only [thenQ, bq, lq, lf, iq, gq, Nat.reduceEqDiff, if_true, if_false]
      refine hY1 _ ?_
      try clear hY1 Y1
      refine AWp.regE p_ref01_Xor_4 [] s_ref01_Xor_4 rfl rfl (st_of ?_)
      simp only [s_ref01_Xor_4, wT, Bool.not_eq_true, ty, zr, Nat.reduceAdd, Nat.reduceSub, Nat.reduceMul, Nat.reduceMod, Nat.reduceDiv, Nat.reduceEqDiff, Nat.reduceLeDiff, Nat.reduceBEq, Int.reduceAdd, Int.reduceSub, Int.reduceMul, Int.reduceNeg, Int.reduceLT, Int.reduceLE, Int.reduceEq, Int.reduceNe, Int.reduceBEq, Int.reduceToNat, Int.reduceTDiv, Int.reduceTMod, Int.reduceOfNat, reduceCtorEq, sty, sui]
      try simp (disch := first | omega | (simp only [List.length_set, List.length_replicate, List.length_append, List.length_nil, litP_len, padV_len, xorA_len, flatI_len]; first | done | omega)) only [aT, Int.reduceToNat, List.length_set, List.length_replicate, List.length_append, List.length_nil, litP_len, padV_len, xorA_len, flatI_len]
      (repeat ((with_reducible refine And.intro ?_ ?_); (first | omega | exact True.intro | with_reducible rfl | decide | assumption | rfl)))
      try simp only [thenQ, bq, lq, lf, iq, gq, Nat.reduceEqDiff, if_true, if_false]
      first | exact ⟨by omega, Le.sel [2] (by decide) (by simp) rfl (by simp only [selTm, tget, AV.map, AV.mapL, renS, AV.All, AV.AllL, inS, Nat.reduceEqDiff, if_true, if_false]; repeat' (first | exact trivial | rfl | assumption | apply And.intro | simp [mapL_flat, mapL_flat1, allL_flat, allL_flat1])) (by simp only [selRows, selRow, Row.map, Row.All, AV.AllL, AV.All, inS]; repeat' (first | exact trivial | rfl | assumption | apply And.intro | simp [mapL_flat, mapL_flat1, allL_flat, allL_flat1]))⟩ | exact Le.sel [2] (by decide) (by simp) rfl (by simp only [selTm, tget, AV.map, AV.mapL, renS, AV.All, AV.AllL, inS, Nat.reduceEqDiff, if_true, if_false]; repeat' (first | exact trivial | rfl | assumption | apply And.intro | simp [mapL_flat, mapL_flat1, allL_flat, allL_flat1])) (by simp only [selRows, selRow, Row.map, Row.All, AV.AllL, AV.All, inS]; repeat' (first | exact trivial | rfl | assumption | apply And.intro | simp [mapL_flat, mapL_flat1, allL_flat, allL_flat1]))
  · try simp only [decide_eq_true_eq, decide_eq_false_iff_not, beq_iff_eq, bne_iff_ne, ne_eq, Bool.not_eq_true, beq_eq_false_iff_ne, bne_eq_false_iff_eq, Bool.not_eq_false, Bool.not_eq_eq_eq_not, Bool.not_true, Bool.not_false] at hb
    try simp only [thenQ, bq, lq, lf, iq, gq, Nat.reduceEqDiff, if_true, if_false]
    refine hX0 _ ?_
    try clear hX0 X0
    obtain rfl : i = n := by omega
    try simp only [thenQ, bq, lq, lf, iq, gq, Nat.reduceEqDiff, if_true, if_false]
    refine hG8 _ ?_
    try clear hG8 G8
    refine AWp.reg p_ref01_Xor_18 [] s_ref01_Xor_18 rfl rfl fun K hK => st_of ?_
    simp only [s_ref01_Xor_18, wT, Bool.not_eq_true, ty, zr, Nat.reduceAdd, Nat.reduceSub, Nat.reduceMul, Nat.reduceMod, Nat.reduceDiv, Nat.reduceEqDiff, Nat.reduceLeDiff, Nat.reduceBEq, Int.reduceAdd, Int.reduceSub, Int.reduceMul, Int.reduceNeg, Int.reduceLT, Int.reduceLE, Int.reduceEq, Int.reduceNe, Int.reduceBEq, Int.reduceToNat, Int.reduceTDiv, Int.reduceTMod, Int.reduceOfNat, reduceCtorEq, sty, sui]
    try simp (disch := first | omega | (simp only [List.length_set, List.length_replicate, List.length_append, List.length_nil, litP_len, padV_len, xorA_len, flatI_len]; first | done | omega)) only [aT, Int.reduceToNat, List.length_set, List.length_replicate, List.length_append, List.length_nil, litP_len, padV_len, xorA_len, flatI_len]
    (repeat ((with_reducible refine And.intro ?_ ?_); (first | omega | exact True.intro | with_reducible rfl | decide | assumption | rfl)))
    refine hK _ ?_; clear hK K
    refine AWp.ret ?_
    try simp only [thenQ, bq, lq, lf, iq, gq, Nat.reduceEqDiff, if_true, if_false]
    simp only [endQ, rs_ref01_Xor, resC, one, wT, Bool.not_eq_true, ty, zr, Nat.reduceAdd, Nat.reduceSub, Nat.reduceMul, Nat.reduceMod, Nat.reduceDiv, Nat.reduceEqDiff, Nat.reduceLeDiff, Nat.reduceBEq, Int.reduceAdd, Int.reduceSub, Int.reduceMul, Int.reduceNeg, Int.reduceLT, Int.reduceLE, Int.reduceEq, Int.reduceNe, Int.reduceBEq, Int.reduceToNat, Int.reduceTDiv, Int.reduceTMod, Int.reduceOfNat, reduceCtorEq, sty, sui]
    try simp (disch := first | omega | (simp only [List.length_set, List.length_replicate, List.length_append, List.length_nil, litP_len, padV_len, xorA_len, flatI_len]; first | done | omega)) only [aT, Int.reduceToNat, List.length_set, List.length_replicate, List.length_append, List.length_nil, litP_len, padV_len, xorA_len, flatI_len]
    refine ⟨[0], by decide, by simp, by rfl, ?_⟩; (repeat' (first | exact trivial | rfl | omega | apply And.intro | (simp [AV.All, AV.AllL, inS, AV.map, AV.mapL, renS, selRows, selRow, Row.map, Row.All, mapL_flat, mapL_flat1, allL_flat, allL_flat1]; done)))
theorem hideR_ok {α : Type} (E : α → Option (Row α)) (q : List Int) (hq : q.length = 32) (x : α) (l b : List Int) (hx : E x = some (.ints .u8 l)) (f : Bool) (o n : Nat) (ho : o + n ≤ l.length) (hs : sub l o n = b) (hn : n ≤ 32) (wb : BV b) (wq : BV q) :
    FnOk Try.prog n_ref05_Hide E [.ints .u8 q, .slice f (.ext x) o n 1] [] (.slice true (.own 0) 0 n 1) [some (.ints .u8 (xorA b q n))] := by
  have hsq : sub q 0 32 = q := sub_all hq
  refine FnOk.intro func_ref05_Hide call_ref05_Hide (body := _) rfl nt_ref05_Hide (by simp) ?_
  refine AWp.reg p_ref05_Hide_0 [] s_ref05_Hide_0 rfl rfl fun K hK => st_of ?_
  simp only [s_ref05_Hide_0, wT, Bool.not_eq_true, ty, zr, Nat.reduceAdd, Nat.reduceSub, Nat.reduceMul, Nat.reduceMod, Nat.reduceDiv, Nat.reduceEqDiff, Nat.reduceLeDiff, Nat.reduceBEq, Int.reduceAdd, Int.reduceSub, Int.reduceMul, Int.reduceNeg, Int.reduceLT, Int.reduceLE, Int.reduceEq, Int.reduceNe, Int.reduceBEq, Int.reduceToNat, Int.reduceTDiv, Int.reduceTMod, Int.reduceOfNat, reduceCtorEq, sty, sui]
  try simp (disch := first | omega | (simp only [List.length_set, List.length_replicate, List.length_append, List.length_nil, litP_len, padV_len, xorA_len, flatI_len]; first | done | omega)) only [aT, Int.reduceToNat, List.length_set, List.length_replicate, List.length_append, List.length_nil, litP_len, padV_len, xorA_len, flatI_len]
  (repeat ((with_reducible refine And.intro ?_ ?_); (first | omega | exact True.intro | with_reducible rfl | decide | assumption | rfl)))
  refine hK _ ?_; clear hK K
  refine AWp.grp fun G4 hG4 => ?_
  refine AWp.reg p_ref05_Hide_1 [] s_ref05_Hide_1 rfl rfl fun K hK => st_of ?_
  simp only [s_ref05_Hide_1, wT, Bool.not_eq_true, ty, zr, Nat.reduceAdd, Nat.reduceSub, Nat.reduceMul, Nat.reduceMod, Nat.reduceDiv, Nat.reduceEqDiff, Nat.reduceLeDiff, Nat.reduceBEq, Int.reduceAdd, Int.reduceSub, Int.reduceMul, Int.reduceNeg, Int.reduceLT, Int.reduceLE, Int.reduceEq, Int.reduceNe, Int.reduceBEq, Int.reduceToNat, Int.reduceTDiv, Int.reduceTMod, Int.reduceOfNat, reduceCtorEq, sty, sui]
  try simp (disch := first | omega | (simp only [List.length_set, List.length_replicate, List.length_append, List.length_nil, litP_len, padV_len, xorA_len, flatI_len]; first | done | omega)) only [aT, Int.reduceToNat, List.length_set, List.length_replicate, List.length_append, List.length_nil, litP_len, padV_len, xorA_len, flatI_len]
  (repeat ((with_reducible refine And.intro ?_ ?_); (first | omega | exact True.intro | with_reducible rfl | decide | assumption | rfl)))
  refine hK _ ?_; clear hK K
  refine AWp.iteE rfl (fun hb => ?_) (fun hb => ?_)
  · try simp only [decide_eq_true_eq, decide_eq_false_iff_not, beq_iff_eq, bne_iff_ne, ne_eq, Bool.not_eq_true, beq_eq_false_iff_ne, bne_eq_false_iff_eq, Bool.not_eq_false, Bool.not_eq_eq_eq_not, Bool.not_true, Bool.not_false] at hb
    (first | exact absurd trivial hb | exact absurd rfl hb | cases hb | (exfalso; omega) | (simp at hb; done))
  · try simp only [decide_eq_true_eq, decide_eq_false_iff_not, beq_iff_eq, bne_iff_ne, ne_eq, Bool.not_eq_true, beq_eq_false_iff_ne, bne_eq_false_iff_eq, Bool.not_eq_false, Bool.not_eq_eq_eq_not, Bool.not_true, Bool.not_false] at hb
    refine AWp.skip ?_
    try simp only [thenQ, bq, lq, lf, iq, gq, Nat.reduceEqDiff, if_true, if_false]
    refine hG4 _ ?_
    try clear hG4 G4
    refine AWp.reg p_ref05_Hide_3 [] s_ref05_Hide_3 rfl rfl fun K hK => st_of ?_
    simp only [s_ref05_Hide_3, wT, Bool.not_eq_true, ty, zr, Nat.reduceAdd, Nat.reduceSub, Nat.reduceMul, Nat.reduceMod, Nat.reduceDiv, Nat.reduceEqDiff, Nat.reduceLeDiff, Nat.reduceBEq, Int.reduceAdd, Int.reduceSub, Int.reduceMul, Int.reduceNeg, Int.reduceLT, Int.reduceLE, Int.reduceEq, Int.reduceNe, Int.reduceBEq, Int.reduceToNat, Int.reduceTDiv, Int.reduceTMod, Int.reduceOfNat, reduceCtorEq, sty, sui]
    try simp (disch := first | omega | (simp only [List.length_set, List.length_replicate, List.length_append, List.length_nil, litP_len, padV_len, xorA_len, flatI_len]; first | done | omega)) only [aT, Int.reduceToNat, List.length_set, List.length_replicate, List.length_append, List.length_nil, litP_len, padV_len, xorA_len, flatI_len]
    (repeat ((with_reducible refine And.intro ?_ ?_); (first | omega | exact True.intro | with_reducible rfl | decide | assumption | rfl)))
    refine st_call fun K1 hK1 => ?_
    simp only [calleeC, wT, Bool.not_eq_true, ty, zr, Nat.reduceAdd, Nat.reduceSub, Nat.reduceMul, Nat.reduceMod, Nat.reduceDiv, Nat.reduceEqDiff, Nat.reduceLeDiff, Nat.reduceBEq, Int.reduceAdd, Int.reduceSub, Int.reduceMul, Int.reduceNeg, Int.reduceLT, Int.reduceLE, Int.reduceEq, Int.reduceNe, Int.reduceBEq, Int.reduceToNat, Int.reduceTDiv, Int.reduceTMod, Int.reduceOfNat, reduceCtorEq, sty, sui]
    try simp (disch := first | omega | (simp only [List.length_set, List.length_replicate, List.length_append, List.length_nil, litP_len, padV_len, xorA_len, flatI_len]; first | done | omega)) only [aT, Int.reduceToNat, List.length_set, List.length_replicate, List.length_append, List.length_nil, litP_len, padV_len, xorA_len, flatI_len]
    refine hK1 _ _ ?_
    clear hK1 K1
    simp only [CallTo, AV.mapL, AV.map, mapL_flat, mapL_flat1]
    refine ⟨_, _, xorR_ok _ _ _ l q b q (by simp only [Sy.look, hx, Option.map_some, Row.map]) rfl _ _ o n 0 32 n ho (by omega) hs hsq (by omega) (by omega) (by omega) wb wq, ?_⟩
    simp only [wT, Bool.not_eq_true, ty, zr, Nat.reduceAdd, Nat.reduceSub, Nat.reduceMul, Nat.reduceMod, Nat.reduceDiv, Nat.reduceEqDiff, Nat.reduceLeDiff, Nat.reduceBEq, Int.reduceAdd, Int.reduceSub, Int.reduceMul, Int.reduceNeg, Int.reduceLT, Int.reduceLE, Int.reduceEq, Int.reduceNe, Int.reduceBEq, Int.reduceToNat, Int.reduceTDiv, Int.reduceTMod, Int.reduceOfNat, reduceCtorEq, sty, sui]
    try simp (disch := first | omega | (simp only [List.length_set, List.length_replicate, List.length_append, List.length_nil, litP_len, padV_len, xorA_len, flatI_len]; first | done | omega)) only [aT, Int.reduceToNat, List.length_set, List.length_replicate, List.length_append, List.length_nil, litP_len, padV_len, xorA_len, flatI_len]
    (repeat ((with_reducible refine And.intro ?_ ?_); (first | omega | exact True.intro | with_reducible rfl | decide | assumption | rfl)))
    refine hK _ ?_; clear hK K
    refine AWp.ret ?_
    try simp only [thenQ, bq, lq, lf, iq, gq, Nat.reduceEqDiff, if_true, if_false]
    simp only [endQ, rs_ref05_Hide, resC, one, wT, Bool.not_eq_true, ty, zr, Nat.reduceAdd, Nat.reduceSub, Nat.reduceMul, Nat.reduceMod, Nat.reduceDiv, Nat.reduceEqDiff, Nat.reduceLeDiff, Nat.reduceBEq, Int.reduceAdd, Int.reduceSub, Int.reduceMul, Int.reduceNeg, Int.reduceLT, Int.reduceLE, Int.reduceEq, Int.reduceNe, Int.reduceBEq, Int.reduceToNat, Int.reduceTDiv, Int.reduceTMod, Int.reduceOfNat, reduceCtorEq, sty, sui]
    try simp (disch := first | omega | (simp only [List.length_set, List.length_replicate, List.length_append, List.length_nil, litP_len, padV_len, xorA_len, flatI_len]; first | done | omega)) only [aT, Int.reduceToNat, List.length_set, List.length_replicate, List.length_append, List.length_nil, litP_len, padV_len, xorA_len, flatI_len]
    refine ⟨[1], by decide, by simp, by rfl, ?_⟩; (repeat' (first | exact trivial | rfl | omega | apply And.intro | (simp [AV.All, AV.AllL, inS, AV.map, AV.mapL, renS, selRows, selRow, Row.map, Row.All, mapL_flat, mapL_flat1, allL_flat, allL_flat1]; done)))
theorem hideR_long {α : Type} (E : α → Option (Row α)) (q : List Int) (hq : q.length = 32) (x : α) (f : Bool) (o n : Nat) (hn : 32 < n) :
    FnOk Try.prog n_ref05_Hide E [.ints .u8 q, .slice f (.ext x) o n 1] [] .nilslice [] := by
  refine FnOk.pure func_ref05_Hide call_ref05_Hide (body := _) rfl nt_ref05_Hide (by simp) (by simp [AV.solid, AV.solidL]) ?_
  refine AWp.reg p_ref05_Hide_0 [] s_ref05_Hide_0 rfl rfl fun K hK => st_of ?_
  simp only [s_ref05_Hide_0, wT, Bool.not_eq_true, ty, zr, Nat.reduceAdd, Nat.reduceSub, Nat.reduceMul, Nat.reduceMod, Nat.reduceDiv, Nat.reduceEqDiff, Nat.reduceLeDiff, Nat.reduceBEq, Int.reduceAdd, Int.reduceSub, Int.reduceMul, Int.reduceNeg, Int.reduceLT, Int.reduceLE, Int.reduceEq, Int.reduceNe, Int.reduceBEq, Int.reduceToNat, Int.reduceTDiv, Int.reduceTMod, Int.reduceOfNat, reduceCtorEq, sty, sui]
  try simp (disch := first | omega | (simp only [List.length_set, List.length_replicate, List.length_append, List.length_nil, litP_len, padV_len, xorA_len, flatI_len]; first | done | omega)) only [aT, Int.reduceToNat, List.length_set, List.length_replicate, List.length_append, List.length_nil, litP_len, padV_len, xorA_len, flatI_len]
  (repeat ((with_reducible refine And.intro ?_ ?_); (first | omega | exact True.intro | with_reducible rfl | decide | assumption | rfl)))
  refine hK _ ?_; clear hK K
  refine AWp.grp fun G4 hG4 => ?_
  refine AWp.reg p_ref05_Hide_1 [] s_ref05_Hide_1 rfl rfl fun K hK => st_of ?_
  simp only [s_ref05_Hide_1, wT, Bool.not_eq_true, ty, zr, Nat.reduceAdd, Nat.reduceSub, Nat.reduceMul, Nat.reduceMod, Nat.reduceDiv, Nat.reduceEqDiff, Nat.reduceLeDiff, Nat.reduceBEq, Int.reduceAdd, Int.reduceSub, Int.reduceMul, Int.reduceNeg, Int.reduceLT, Int.reduceLE, Int.reduceEq, Int.reduceNe, Int.reduceBEq, Int.reduceToNat, Int.reduceTDiv, Int.reduceTMod, Int.reduceOfNat, reduceCtorEq, sty, sui]
  try simp (disch := first | omega | (simp only [List.length_set, List.length_replicate, List.length_append, List.length_nil, litP_len, padV_len, xorA_len, flatI_len]; first | done | omega)) only [aT, Int.reduceToNat, List.length_set, List.length_replicate, List.length_append, List.length_nil, litP_len, padV_len, xorA_len, flatI_len]
  (repeat ((with_reducible refine And.intro ?_ ?_); (first | omega | exact True.intro | with_reducible rfl | decide | assumption | rfl)))
  refine hK _ ?_; clear hK K
  refine AWp.iteE rfl (fun hb => ?_) (fun hb => ?_)
  · try simp only [decide_eq_true_eq, decide_eq_false_iff_not, beq_iff_eq, bne_iff_ne, ne_eq, Bool.not_eq_true, beq_eq_false_iff_ne, bne_eq_false_iff_eq, Bool.not_eq_false, Bool.not_eq_eq_eq_not, Bool.not_true, Bool.not_false] at hb
    refine AWp.reg p_ref05_Hide_2 [] s_ref05_Hide_2 rfl rfl fun K hK => st_of ?_
    simp only [s_ref05_Hide_2, wT, Bool.not_eq_true, ty, zr, Nat.reduceAdd, Nat.reduceSub, Nat.reduceMul, Nat.reduceMod, Nat.reduceDiv, Nat.reduceEqDiff, Nat.reduceLeDiff, Nat.reduceBEq, Int.reduceAdd, Int.reduceSub, Int.reduceMul, Int.reduceNeg, Int.reduceLT, Int.reduceLE, Int.reduceEq, Int.reduceNe, Int.reduceBEq, Int.reduceToNat, Int.reduceTDiv, Int.reduceTMod, Int.reduceOfNat, reduceCtorEq, sty, sui]
    try simp (disch := first | omega | (simp only [List.length_set, List.length_replicate, List.length_append, List.length_nil, litP_len, padV_len, xorA_len, flatI_len]; first | done | omega)) only [aT, Int.reduceToNat, List.length_set, List.length_replicate, List.length_append, List.length_nil, litP_len, padV_len, xorA_len, flatI_len]
    (repeat ((with_reducible refine And.intro ?_ ?_); (first | omega | exact True.intro | with_reducible rfl | decide | assumption | rfl)))
    refine hK _ ?_; clear hK K
    refine AWp.ret ?_
    try simp only [thenQ, bq, lq, lf, iq, gq, Nat.reduceEqDiff, if_true, if_false]
    simp only [endQ, rs_ref05_Hide, resC, one, wT, Bool.not_eq_true, ty, zr, Nat.reduceAdd, Nat.reduceSub, Nat.reduceMul, Nat.reduceMod, Nat.reduceDiv, Nat.reduceEqDiff, Nat.reduceLeDiff, Nat.reduceBEq, Int.reduceAdd, Int.reduceSub, Int.reduceMul, Int.reduceNeg, Int.reduceLT, Int.reduceLE, Int.reduceEq, Int.reduceNe, Int.reduceBEq, Int.reduceToNat, Int.reduceTDiv, Int.reduceTMod, Int.reduceOfNat, reduceCtorEq, sty, sui]
    try simp (disch := first | omega | (simp only [List.length_set, List.length_replicate, List.length_append, List.length_nil, litP_len, padV_len, xorA_len, flatI_len]; first | done | omega)) only [aT, Int.reduceToNat, List.length_set, List.length_replicate, List.length_append, List.length_nil, litP_len, padV_len, xorA_len, flatI_len]
    repeat' (first | exact True.intro | (with_reducible rfl) | (with_reducible apply And.intro) | omega | rfl)
  · try simp only [decide_eq_true_eq, decide_eq_false_iff_not, beq_iff_eq, bne_iff_ne, ne_eq, Bool.not_eq_true, beq_eq_false_iff_ne, bne_eq_false_iff_eq, Bool.not_eq_false, Bool.not_eq_eq_eq_not, Bool.not_true, Bool.not_false] at hb
    (first | exact absurd trivial hb | exact absurd rfl hb | cases hb | (exfalso; omega) | (simp at hb; done))
end Go.Proofs.Ytbnjeafjnglldaa
