/-
  PROVED: 'erewhilelaw05.CipherReal' returns true for every input and leaves its arguments as they were. No condition.
-/
import Derived.Test.YtbnjeafjnglldaaRea1
import Derived.Test.YtbnjeafjnglldaaRows
import Derived.WalkKit
import Derived.ProofKit
namespace Go.Proofs.Ytbnjeafjnglldaa
open Go Go.Proofs.Ytbnjeafjnglldaa.Sy
set_option linter.unusedSimpArgs false
set_option linter.unusedVariables false
set_option maxRecDepth 100000
set_option maxHeartbeats 4000000


theorem law_ok {α : Type} (E : α → Option (Row α)) (k : List Int) (hk : k.length = 32) (n : Int) :
    FnOk Try.prog n_law05_CipherReal E [.ints .u8 k, .int .u64 n] [] (.bool true) [] := by
  obtain ⟨l, hl⟩ : ∃ l, sub (blockL k 1 0) 0 32 = l := ⟨_, rfl⟩
  obtain ⟨r, hr⟩ : ∃ r, sub (blockL k 1 0) 32 32 = r := ⟨_, rfl⟩
  obtain ⟨p, hp⟩ : ∃ p, sub (blockL k 0 n) 0 32 = p := ⟨_, rfl⟩
  have ll : l.length = 32 := by rw [← hl]; exact Sy.length_sub (by rw [blockL_len]; omega)
  have lr : r.length = 32 := by rw [← hr]; exact Sy.length_sub (by rw [blockL_len]; omega)
  have lp : p.length = 32 := by rw [← hp]; exact Sy.length_sub (by rw [blockL_len]; omega)
  refine FnOk.pure func_law05_CipherReal call_law05_CipherReal (body := _) rfl nt_law05_CipherReal (by simp) (by simp [AV.solid, AV.solidL]) ?_
  refine AWp.reg p_law05_CipherReal_0 [] s_law05_CipherReal_0 rfl rfl fun K hK => st_of ?_
  simp only [s_law05_CipherReal_0, wT, Bool.not_eq_true, ty, zr, Nat.reduceAdd, Nat.reduceSub, Nat.reduceMul, Nat.reduceMod, Nat.reduceDiv, Nat.reduceEqDiff, Nat.reduceLeDiff, Nat.reduceBEq, Int.reduceAdd, Int.reduceSub, Int.reduceMul, Int.reduceNeg, Int.reduceLT, Int.reduceLE, Int.reduceEq, Int.reduceNe, Int.reduceBEq, Int.reduceToNat, Int.reduceTDiv, Int.reduceTMod, Int.reduceOfNat, reduceCtorEq, sty, sui]
  try simp (disch := first | omega | (simp only [List.length_set, List.length_replicate, List.length_append, List.length_nil, blockL_len, xorA_len]; done) | (simp only [List.length_set, List.length_replicate, List.length_append, List.length_nil, blockL_len, xorA_len]; omega)) only [tn_add, tn_mul, tn_sub, tn_div, tn_mod, Int.toNat_natCast, Int.reduceToNat, wrap_i64', wrap_u64', wrap_u32', wrap_u8', Int.tmod_eq_emod_of_nonneg, Int.tdiv_eq_ediv_of_nonneg, sub_one, sub_all, splice_all, List.length_set, List.length_replicate, List.length_append, List.length_nil, blockL_len, xorA_len]
  (repeat ((with_reducible refine And.intro ?_ ?_); (first | omega | exact True.intro | with_reducible rfl | decide | assumption | rfl)))
  refine hK _ ?_; clear hK K
  refine AWp.grp fun G4 hG4 => ?_
  refine AWp.reg p_law05_CipherReal_1 [] s_law05_CipherReal_1 rfl rfl fun K hK => st_of ?_
  simp only [s_law05_CipherReal_1, wT, Bool.not_eq_true, ty, zr, Nat.reduceAdd, Nat.reduceSub, Nat.reduceMul, Nat.reduceMod, Nat.reduceDiv, Nat.reduceEqDiff, Nat.reduceLeDiff, Nat.reduceBEq, Int.reduceAdd, Int.reduceSub, Int.reduceMul, Int.reduceNeg, Int.reduceLT, Int.reduceLE, Int.reduceEq, Int.reduceNe, Int.reduceBEq, Int.reduceToNat, Int.reduceTDiv, Int.reduceTMod, Int.reduceOfNat, reduceCtorEq, sty, sui]
  try simp (disch := first | omega | (simp only [List.length_set, List.length_replicate, List.length_append, List.length_nil, blockL_len, xorA_len]; done) | (simp only [List.length_set, List.length_replicate, List.length_append, List.length_nil, blockL_len, xorA_len]; omega)) only [tn_add, tn_mul, tn_sub, tn_div, tn_mod, Int.toNat_natCast, Int.reduceToNat, wrap_i64', wrap_u64', wrap_u32', wrap_u8', Int.tmod_eq_emod_of_nonneg, Int.tdiv_eq_ediv_of_nonneg, sub_one, sub_all, splice_all, List.length_set, List.length_replicate, List.length_append, List.length_nil, blockL_len, xorA_len]
  (repeat ((with_reducible refine And.intro ?_ ?_); (first | omega | exact True.intro | with_reducible rfl | decide | assumption | rfl)))
  refine st_call fun K1 hK1 => ?_
  simp only [calleeC, wT, Bool.not_eq_true, ty, zr, Nat.reduceAdd, Nat.reduceSub, Nat.reduceMul, Nat.reduceMod, Nat.reduceDiv, Nat.reduceEqDiff, Nat.reduceLeDiff, Nat.reduceBEq, Int.reduceAdd, Int.reduceSub, Int.reduceMul, Int.reduceNeg, Int.reduceLT, Int.reduceLE, Int.reduceEq, Int.reduceNe, Int.reduceBEq, Int.reduceToNat, Int.reduceTDiv, Int.reduceTMod, Int.reduceOfNat, reduceCtorEq, sty, sui]
  try simp (disch := first | omega | (simp only [List.length_set, List.length_replicate, List.length_append, List.length_nil, blockL_len, xorA_len]; done) | (simp only [List.length_set, List.length_replicate, List.length_append, List.length_nil, blockL_len, xorA_len]; omega)) only [tn_add, tn_mul, tn_sub, tn_div, tn_mod, Int.toNat_natCast, Int.reduceToNat, wrap_i64', wrap_u64', wrap_u32', wrap_u8', Int.tmod_eq_emod_of_nonneg, Int.tdiv_eq_ediv_of_nonneg, sub_one, sub_all, splice_all, List.length_set, List.length_replicate, List.length_append, List.length_nil, blockL_len, xorA_len]
  refine hK1 _ _ ?_
  clear hK1 K1
  simp only [CallTo, AV.mapL, AV.map, mapL_flat, mapL_flat1]
  refine ⟨_, _, awake_ok _, ?_⟩
  simp only [wT, Bool.not_eq_true, ty, zr, Nat.reduceAdd, Nat.reduceSub, Nat.reduceMul, Nat.reduceMod, Nat.reduceDiv, Nat.reduceEqDiff, Nat.reduceLeDiff, Nat.reduceBEq, Int.reduceAdd, Int.reduceSub, Int.reduceMul, Int.reduceNeg, Int.reduceLT, Int.reduceLE, Int.reduceEq, Int.reduceNe, Int.reduceBEq, Int.reduceToNat, Int.reduceTDiv, Int.reduceTMod, Int.reduceOfNat, reduceCtorEq, sty, sui]
  try simp (disch := first | omega | (simp only [List.length_set, List.length_replicate, List.length_append, List.length_nil, blockL_len, xorA_len]; done) | (simp only [List.length_set, List.length_replicate, List.length_append, List.length_nil, blockL_len, xorA_len]; omega)) only [tn_add, tn_mul, tn_sub, tn_div, tn_mod, Int.toNat_natCast, Int.reduceToNat, wrap_i64', wrap_u64', wrap_u32', wrap_u8', Int.tmod_eq_emod_of_nonneg, Int.tdiv_eq_ediv_of_nonneg, sub_one, sub_all, splice_all, List.length_set, List.length_replicate, List.length_append, List.length_nil, blockL_len, xorA_len]
  (repeat ((with_reducible refine And.intro ?_ ?_); (first | omega | exact True.intro | with_reducible rfl | decide | assumption | rfl)))
  refine hK _ ?_; clear hK K
  refine AWp.iteE rfl (fun hb => ?_) (fun hb => ?_)
  · try simp only [decide_eq_true_eq, decide_eq_false_iff_not, beq_iff_eq, bne_iff_ne, ne_eq, Bool.not_eq_true, beq_eq_false_iff_ne, bne_eq_false_iff_eq, Bool.not_eq_false, Bool.not_eq_eq_eq_not, Bool.not_true, Bool.not_false] at hb
    (first | exact absurd trivial hb | exact absurd rfl hb | cases hb | (exfalso; omega) | (simp at hb; done))
  · try simp only [decide_eq_true_eq, decide_eq_false_iff_not, beq_iff_eq, bne_iff_ne, ne_eq, Bool.not_eq_true, beq_eq_false_iff_ne, bne_eq_false_iff_eq, Bool.not_eq_false, Bool.not_eq_eq_eq_not, Bool.not_true, Bool.not_false] at hb
    refine AWp.skip ?_
    try simp only [thenQ, bq, lq, lf, iq, gq, Nat.reduceEqDiff, if_true, if_false]
    refine hG4 _ ?_
    try clear hG4 G4
    refine AWp.reg p_law05_CipherReal_3 [] s_law05_CipherReal_3 rfl rfl fun K hK => st_of ?_
    simp only [s_law05_CipherReal_3, wT, Bool.not_eq_true, ty, zr, Nat.reduceAdd, Nat.reduceSub, Nat.reduceMul, Nat.reduceMod, Nat.reduceDiv, Nat.reduceEqDiff, Nat.reduceLeDiff, Nat.reduceBEq, Int.reduceAdd, Int.reduceSub, Int.reduceMul, Int.reduceNeg, Int.reduceLT, Int.reduceLE, Int.reduceEq, Int.reduceNe, Int.reduceBEq, Int.reduceToNat, Int.reduceTDiv, Int.reduceTMod, Int.reduceOfNat, reduceCtorEq, sty, sui]
    try simp (disch := first | omega | (simp only [List.length_set, List.length_replicate, List.length_append, List.length_nil, blockL_len, xorA_len]; done) | (simp only [List.length_set, List.length_replicate, List.length_append, List.length_nil, blockL_len, xorA_len]; omega)) only [tn_add, tn_mul, tn_sub, tn_div, tn_mod, Int.toNat_natCast, Int.reduceToNat, wrap_i64', wrap_u64', wrap_u32', wrap_u8', Int.tmod_eq_emod_of_nonneg, Int.tdiv_eq_ediv_of_nonneg, sub_one, sub_all, splice_all, List.length_set, List.length_replicate, List.length_append, List.length_nil, blockL_len, xorA_len]
    (repeat ((with_reducible refine And.intro ?_ ?_); (first | omega | exact True.intro | with_reducible rfl | decide | assumption | rfl)))
    refine hK _ ?_; clear hK K
    refine AWp.reg p_law05_CipherReal_4 [] s_law05_CipherReal_4 rfl rfl fun K hK => st_of ?_
    simp only [s_law05_CipherReal_4, wT, Bool.not_eq_true, ty, zr, Nat.reduceAdd, Nat.reduceSub, Nat.reduceMul, Nat.reduceMod, Nat.reduceDiv, Nat.reduceEqDiff, Nat.reduceLeDiff, Nat.reduceBEq, Int.reduceAdd, Int.reduceSub, Int.reduceMul, Int.reduceNeg, Int.reduceLT, Int.reduceLE, Int.reduceEq, Int.reduceNe, Int.reduceBEq, Int.reduceToNat, Int.reduceTDiv, Int.reduceTMod, Int.reduceOfNat, reduceCtorEq, sty, sui]
    try simp (disch := first | omega | (simp only [List.length_set, List.length_replicate, List.length_append, List.length_nil, blockL_len, xorA_len]; done) | (simp only [List.length_set, List.length_replicate, List.length_append, List.length_nil, blockL_len, xorA_len]; omega)) only [tn_add, tn_mul, tn_sub, tn_div, tn_mod, Int.toNat_natCast, Int.reduceToNat, wrap_i64', wrap_u64', wrap_u32', wrap_u8', Int.tmod_eq_emod_of_nonneg, Int.tdiv_eq_ediv_of_nonneg, sub_one, sub_all, splice_all, List.length_set, List.length_replicate, List.length_append, List.length_nil, blockL_len, xorA_len]
    (repeat ((with_reducible refine And.intro ?_ ?_); (first | omega | exact True.intro | with_reducible rfl | decide | assumption | rfl)))
    refine st_call fun K1 hK1 => ?_
    simp only [calleeC, wT, Bool.not_eq_true, ty, zr, Nat.reduceAdd, Nat.reduceSub, Nat.reduceMul, Nat.reduceMod, Nat.reduceDiv, Nat.reduceEqDiff, Nat.reduceLeDiff, Nat.reduceBEq, Int.reduceAdd, Int.reduceSub, Int.reduceMul, Int.reduceNeg, Int.reduceLT, Int.reduceLE, Int.reduceEq, Int.reduceNe, Int.reduceBEq, Int.reduceToNat, Int.reduceTDiv, Int.reduceTMod, Int.reduceOfNat, reduceCtorEq, sty, sui]
    try simp (disch := first | omega | (simp only [List.length_set, List.length_replicate, List.length_append, List.length_nil, blockL_len, xorA_len]; done) | (simp only [List.length_set, List.length_replicate, List.length_append, List.length_nil, blockL_len, xorA_len]; omega)) only [tn_add, tn_mul, tn_sub, tn_div, tn_mod, Int.toNat_natCast, Int.reduceToNat, wrap_i64', wrap_u64', wrap_u32', wrap_u8', Int.tmod_eq_emod_of_nonneg, Int.tdiv_eq_ediv_of_nonneg, sub_one, sub_all, splice_all, List.length_set, List.length_replicate, List.length_append, List.length_nil, blockL_len, xorA_len]
    refine hK1 _ _ ?_
    clear hK1 K1
    simp only [CallTo, AV.mapL, AV.map, mapL_flat, mapL_flat1]
    refine ⟨_, _, realSplit_ok _ k hk, ?_⟩
    simp only [hl, hr, wT, Bool.not_eq_true, ty, zr, Nat.reduceAdd, Nat.reduceSub, Nat.reduceMul, Nat.reduceMod, Nat.reduceDiv, Nat.reduceEqDiff, Nat.reduceLeDiff, Nat.reduceBEq, Int.reduceAdd, Int.reduceSub, Int.reduceMul, Int.reduceNeg, Int.reduceLT, Int.reduceLE, Int.reduceEq, Int.reduceNe, Int.reduceBEq, Int.reduceToNat, Int.reduceTDiv, Int.reduceTMod, Int.reduceOfNat, reduceCtorEq, sty, sui]
    try simp (disch := first | omega | (simp only [List.length_set, List.length_replicate, List.length_append, List.length_nil, blockL_len, xorA_len]; done) | (simp only [List.length_set, List.length_replicate, List.length_append, List.length_nil, blockL_len, xorA_len]; omega)) only [tn_add, tn_mul, tn_sub, tn_div, tn_mod, Int.toNat_natCast, Int.reduceToNat, wrap_i64', wrap_u64', wrap_u32', wrap_u8', Int.tmod_eq_emod_of_nonneg, Int.tdiv_eq_ediv_of_nonneg, sub_one, sub_all, splice_all, List.length_set, List.length_replicate, List.length_append, List.length_nil, blockL_len, xorA_len]
    (repeat ((with_reducible refine And.intro ?_ ?_); (first | omega | exact True.intro | with_reducible rfl | decide | assumption | rfl)))
    refine hK _ ?_; clear hK K
    refine AWp.reg p_law05_CipherReal_5 [] s_law05_CipherReal_5 rfl rfl fun K hK => st_of ?_
    simp only [s_law05_CipherReal_5, wT, Bool.not_eq_true, ty, zr, Nat.reduceAdd, Nat.reduceSub, Nat.reduceMul, Nat.reduceMod, Nat.reduceDiv, Nat.reduceEqDiff, Nat.reduceLeDiff, Nat.reduceBEq, Int.reduceAdd, Int.reduceSub, Int.reduceMul, Int.reduceNeg, Int.reduceLT, Int.reduceLE, Int.reduceEq, Int.reduceNe, Int.reduceBEq, Int.reduceToNat, Int.reduceTDiv, Int.reduceTMod, Int.reduceOfNat, reduceCtorEq, sty, sui]
    try simp (disch := first | omega | (simp only [List.length_set, List.length_replicate, List.length_append, List.length_nil, blockL_len, xorA_len]; done) | (simp only [List.length_set, List.length_replicate, List.length_append, List.length_nil, blockL_len, xorA_len]; omega)) only [tn_add, tn_mul, tn_sub, tn_div, tn_mod, Int.toNat_natCast, Int.reduceToNat, wrap_i64', wrap_u64', wrap_u32', wrap_u8', Int.tmod_eq_emod_of_nonneg, Int.tdiv_eq_ediv_of_nonneg, sub_one, sub_all, splice_all, List.length_set, List.length_replicate, List.length_append, List.length_nil, blockL_len, xorA_len]
    (repeat ((with_reducible refine And.intro ?_ ?_); (first | omega | exact True.intro | with_reducible rfl | decide | assumption | rfl)))
    refine st_call fun K1 hK1 => ?_
    simp only [calleeC, wT, Bool.not_eq_true, ty, zr, Nat.reduceAdd, Nat.reduceSub, Nat.reduceMul, Nat.reduceMod, Nat.reduceDiv, Nat.reduceEqDiff, Nat.reduceLeDiff, Nat.reduceBEq, Int.reduceAdd, Int.reduceSub, Int.reduceMul, Int.reduceNeg, Int.reduceLT, Int.reduceLE, Int.reduceEq, Int.reduceNe, Int.reduceBEq, Int.reduceToNat, Int.reduceTDiv, Int.reduceTMod, Int.reduceOfNat, reduceCtorEq, sty, sui]
    try simp (disch := first | omega | (simp only [List.length_set, List.length_replicate, List.length_append, List.length_nil, blockL_len, xorA_len]; done) | (simp only [List.length_set, List.length_replicate, List.length_append, List.length_nil, blockL_len, xorA_len]; omega)) only [tn_add, tn_mul, tn_sub, tn_div, tn_mod, Int.toNat_natCast, Int.reduceToNat, wrap_i64', wrap_u64', wrap_u32', wrap_u8', Int.tmod_eq_emod_of_nonneg, Int.tdiv_eq_ediv_of_nonneg, sub_one, sub_all, splice_all, List.length_set, List.length_replicate, List.length_append, List.length_nil, blockL_len, xorA_len]
    refine hK1 _ _ ?_
    clear hK1 K1
    simp only [CallTo, AV.mapL, AV.map, mapL_flat, mapL_flat1]
    refine ⟨_, _, refSplit_ok _ k hk, ?_⟩
    simp only [hl, hr, wT, Bool.not_eq_true, ty, zr, Nat.reduceAdd, Nat.reduceSub, Nat.reduceMul, Nat.reduceMod, Nat.reduceDiv, Nat.reduceEqDiff, Nat.reduceLeDiff, Nat.reduceBEq, Int.reduceAdd, Int.reduceSub, Int.reduceMul, Int.reduceNeg, Int.reduceLT, Int.reduceLE, Int.reduceEq, Int.reduceNe, Int.reduceBEq, Int.reduceToNat, Int.reduceTDiv, Int.reduceTMod, Int.reduceOfNat, reduceCtorEq, sty, sui]
    try simp (disch := first | omega | (simp only [List.length_set, List.length_replicate, List.length_append, List.length_nil, blockL_len, xorA_len]; done) | (simp only [List.length_set, List.length_replicate, List.length_append, List.length_nil, blockL_len, xorA_len]; omega)) only [tn_add, tn_mul, tn_sub, tn_div, tn_mod, Int.toNat_natCast, Int.reduceToNat, wrap_i64', wrap_u64', wrap_u32', wrap_u8', Int.tmod_eq_emod_of_nonneg, Int.tdiv_eq_ediv_of_nonneg, sub_one, sub_all, splice_all, List.length_set, List.length_replicate, List.length_append, List.length_nil, blockL_len, xorA_len]
    (repeat ((with_reducible refine And.intro ?_ ?_); (first | omega | exact True.intro | with_reducible rfl | decide | assumption | rfl)))
    refine hK _ ?_; clear hK K
    refine AWp.drwP mix p_law05_CipherReal_6 q_law05_CipherReal_6 g_law05_CipherReal_6 s_law05_CipherReal_6 rfl (by decide +kernel) fun K hK => sp_of ?_
    simp only [s_law05_CipherReal_6, wT, Bool.not_eq_true, ty, zr, Nat.reduceAdd, Nat.reduceSub, Nat.reduceMul, Nat.reduceMod, Nat.reduceDiv, Nat.reduceEqDiff, Nat.reduceLeDiff, Nat.reduceBEq, Int.reduceAdd, Int.reduceSub, Int.reduceMul, Int.reduceNeg, Int.reduceLT, Int.reduceLE, Int.reduceEq, Int.reduceNe, Int.reduceBEq, Int.reduceToNat, Int.reduceTDiv, Int.reduceTMod, Int.reduceOfNat, reduceCtorEq, sty, sui]
    try simp (disch := first | omega | (simp only [List.length_set, List.length_replicate, List.length_append, List.length_nil, blockL_len, xorA_len]; done) | (simp only [List.length_set, List.length_replicate, List.length_append, List.length_nil, blockL_len, xorA_len]; omega)) only [tn_add, tn_mul, tn_sub, tn_div, tn_mod, Int.toNat_natCast, Int.reduceToNat, wrap_i64', wrap_u64', wrap_u32', wrap_u8', Int.tmod_eq_emod_of_nonneg, Int.tdiv_eq_ediv_of_nonneg, sub_one, sub_all, splice_all, List.length_set, List.length_replicate, List.length_append, List.length_nil, blockL_len, xorA_len]
    (repeat ((with_reducible refine And.intro ?_ ?_); (first | omega | exact True.intro | with_reducible rfl | decide | assumption | rfl)))
    refine sp_call fun K1 hK1 => ?_
    simp only [calleeC, wT, Bool.not_eq_true, ty, zr, Nat.reduceAdd, Nat.reduceSub, Nat.reduceMul, Nat.reduceMod, Nat.reduceDiv, Nat.reduceEqDiff, Nat.reduceLeDiff, Nat.reduceBEq, Int.reduceAdd, Int.reduceSub, Int.reduceMul, Int.reduceNeg, Int.reduceLT, Int.reduceLE, Int.reduceEq, Int.reduceNe, Int.reduceBEq, Int.reduceToNat, Int.reduceTDiv, Int.reduceTMod, Int.reduceOfNat, reduceCtorEq, sty, sui]
    try simp (disch := first | omega | (simp only [List.length_set, List.length_replicate, List.length_append, List.length_nil, blockL_len, xorA_len]; done) | (simp only [List.length_set, List.length_replicate, List.length_append, List.length_nil, blockL_len, xorA_len]; omega)) only [tn_add, tn_mul, tn_sub, tn_div, tn_mod, Int.toNat_natCast, Int.reduceToNat, wrap_i64', wrap_u64', wrap_u32', wrap_u8', Int.tmod_eq_emod_of_nonneg, Int.tdiv_eq_ediv_of_nonneg, sub_one, sub_all, splice_all, List.length_set, List.length_replicate, List.length_append, List.length_nil, blockL_len, xorA_len]
    refine hK1 _ _ ?_
    clear hK1 K1
    simp only [CallTo, AV.mapL, AV.map, mapL_flat, mapL_flat1]
    refine ⟨_, _, realPad_ok _ k hk n, ?_⟩
    simp only [hp, wT, Bool.not_eq_true, ty, zr, Nat.reduceAdd, Nat.reduceSub, Nat.reduceMul, Nat.reduceMod, Nat.reduceDiv, Nat.reduceEqDiff, Nat.reduceLeDiff, Nat.reduceBEq, Int.reduceAdd, Int.reduceSub, Int.reduceMul, Int.reduceNeg, Int.reduceLT, Int.reduceLE, Int.reduceEq, Int.reduceNe, Int.reduceBEq, Int.reduceToNat, Int.reduceTDiv, Int.reduceTMod, Int.reduceOfNat, reduceCtorEq, sty, sui]
    try simp (disch := first | omega | (simp only [List.length_set, List.length_replicate, List.length_append, List.length_nil, blockL_len, xorA_len]; done) | (simp only [List.length_set, List.length_replicate, List.length_append, List.length_nil, blockL_len, xorA_len]; omega)) only [tn_add, tn_mul, tn_sub, tn_div, tn_mod, Int.toNat_natCast, Int.reduceToNat, wrap_i64', wrap_u64', wrap_u32', wrap_u8', Int.tmod_eq_emod_of_nonneg, Int.tdiv_eq_ediv_of_nonneg, sub_one, sub_all, splice_all, List.length_set, List.length_replicate, List.length_append, List.length_nil, blockL_len, xorA_len]
    (repeat ((with_reducible refine And.intro ?_ ?_); (first | omega | exact True.intro | with_reducible rfl | decide | assumption | rfl)))
    refine sp_call fun K1 hK1 => ?_
    simp only [calleeC, wT, Bool.not_eq_true, ty, zr, Nat.reduceAdd, Nat.reduceSub, Nat.reduceMul, Nat.reduceMod, Nat.reduceDiv, Nat.reduceEqDiff, Nat.reduceLeDiff, Nat.reduceBEq, Int.reduceAdd, Int.reduceSub, Int.reduceMul, Int.reduceNeg, Int.reduceLT, Int.reduceLE, Int.reduceEq, Int.reduceNe, Int.reduceBEq, Int.reduceToNat, Int.reduceTDiv, Int.reduceTMod, Int.reduceOfNat, reduceCtorEq, sty, sui]
    try simp (disch := first | omega | (simp only [List.length_set, List.length_replicate, List.length_append, List.length_nil, blockL_len, xorA_len]; done) | (simp only [List.length_set, List.length_replicate, List.length_append, List.length_nil, blockL_len, xorA_len]; omega)) only [tn_add, tn_mul, tn_sub, tn_div, tn_mod, Int.toNat_natCast, Int.reduceToNat, wrap_i64', wrap_u64', wrap_u32', wrap_u8', Int.tmod_eq_emod_of_nonneg, Int.tdiv_eq_ediv_of_nonneg, sub_one, sub_all, splice_all, List.length_set, List.length_replicate, List.length_append, List.length_nil, blockL_len, xorA_len]
    refine hK1 _ _ ?_
    clear hK1 K1
    simp only [CallTo, AV.mapL, AV.map, mapL_flat, mapL_flat1]
    refine ⟨_, _, refPad_ok _ k hk n, ?_⟩
    simp only [hp, wT, Bool.not_eq_true, ty, zr, Nat.reduceAdd, Nat.reduceSub, Nat.reduceMul, Nat.reduceMod, Nat.reduceDiv, Nat.reduceEqDiff, Nat.reduceLeDiff, Nat.reduceBEq, Int.reduceAdd, Int.reduceSub, Int.reduceMul, Int.reduceNeg, Int.reduceLT, Int.reduceLE, Int.reduceEq, Int.reduceNe, Int.reduceBEq, Int.reduceToNat, Int.reduceTDiv, Int.reduceTMod, Int.reduceOfNat, reduceCtorEq, sty, sui]
    try simp (disch := first | omega | (simp only [List.length_set, List.length_replicate, List.length_append, List.length_nil, blockL_len, xorA_len]; done) | (simp only [List.length_set, List.length_replicate, List.length_append, List.length_nil, blockL_len, xorA_len]; omega)) only [tn_add, tn_mul, tn_sub, tn_div, tn_mod, Int.toNat_natCast, Int.reduceToNat, wrap_i64', wrap_u64', wrap_u32', wrap_u8', Int.tmod_eq_emod_of_nonneg, Int.tdiv_eq_ediv_of_nonneg, sub_one, sub_all, splice_all, List.length_set, List.length_replicate, List.length_append, List.length_nil, blockL_len, xorA_len]
    (repeat ((with_reducible refine And.intro ?_ ?_); (first | omega | exact True.intro | with_reducible rfl | decide | assumption | rfl)))
    refine hK _ ?_; clear hK K
    refine AWp.ret ?_
    try simp only [thenQ, bq, lq, lf, iq, gq, Nat.reduceEqDiff, if_true, if_false]
    simp only [endQ, rs_law05_CipherReal, resC, one, wT, Bool.not_eq_true, ty, zr, Nat.reduceAdd, Nat.reduceSub, Nat.reduceMul, Nat.reduceMod, Nat.reduceDiv, Nat.reduceEqDiff, Nat.reduceLeDiff, Nat.reduceBEq, Int.reduceAdd, Int.reduceSub, Int.reduceMul, Int.reduceNeg, Int.reduceLT, Int.reduceLE, Int.reduceEq, Int.reduceNe, Int.reduceBEq, Int.reduceToNat, Int.reduceTDiv, Int.reduceTMod, Int.reduceOfNat, reduceCtorEq, sty, sui]
    try simp (disch := first | omega | (simp only [List.length_set, List.length_replicate, List.length_append, List.length_nil, blockL_len, xorA_len]; done) | (simp only [List.length_set, List.length_replicate, List.length_append, List.length_nil, blockL_len, xorA_len]; omega)) only [tn_add, tn_mul, tn_sub, tn_div, tn_mod, Int.toNat_natCast, Int.reduceToNat, wrap_i64', wrap_u64', wrap_u32', wrap_u8', Int.tmod_eq_emod_of_nonneg, Int.tdiv_eq_ediv_of_nonneg, sub_one, sub_all, splice_all, List.length_set, List.length_replicate, List.length_append, List.length_nil, blockL_len, xorA_len]
    repeat' (first | exact True.intro | (with_reducible rfl) | (with_reducible apply And.intro) | omega | rfl)
theorem law_ins (ins : List In) (h : insFit Try.prog [23, 24] ins) : FnOk Try.prog 6 (insE ins) (insAv 0 ins) [] (.bool true) [] := by
  match ins, h with
  | [i0, i1], h =>
    obtain ⟨k, rfl, hk, wk⟩ := fits_arr Try.underlying23 Try.underlying5 h.1
    obtain ⟨n, rfl, wn⟩ := fits_int Try.underlying24 h.2.1
    exact law_ok _ k hk n
open Go.ChangeShapes Go.WideShapes Go.ChangeAt Go.RowKit
theorem own : ownKnob Try.prog.godebug = none := by kernel_rfl
theorem laidOut : laidOutB Try.prog = true := by kernel_rfl
set_option maxRecDepth 100000 in
theorem lifted (os : Os) (started : os.Started) (H : Type) (enc : TypeId × Value → H) :
    ReturnsInHanded {} Try.checked os 6 .any (Rows.cipherRealSpec.pre6 enc Try.prog Try.f6 Rows.cipherRealRow.domain false) (Rows.cipherRealSpec.post enc Try.prog Try.f6 false true false false) := by
  refine returnsInHanded_of_change_sized (C := Try.checked) own started (by kernel_rfl) Try.func6
    (ChangeSpec.witness6 (enc := enc) (C := Try.checked) false ⟨#[], #[.agg #[.int .u8 0, .int .u8 0, .int .u8 0, .int .u8 0, .int .u8 0, .int .u8 0, .int .u8 0, .int .u8 0, .int .u8 0, .int .u8 0, .int .u8 0, .int .u8 0, .int .u8 0, .int .u8 0, .int .u8 0, .int .u8 0, .int .u8 0, .int .u8 0, .int .u8 0, .int .u8 0, .int .u8 0, .int .u8 0, .int .u8 0, .int .u8 0, .int .u8 0, .int .u8 0, .int .u8 0, .int .u8 0, .int .u8 0, .int .u8 0, .int .u8 0, .int .u8 0], .int .u64 0], []⟩ 8 (by kernel_rfl) (by kernel_rfl) (by kernel_rfl) (by kernel_rfl)) ?_
  intro W base args ds gs before hval0 hW hcnd hsz _
  have hW' := hW
  obtain ⟨p, q, hA, hV, rfl, hfz, hnd⟩ := hW
  obtain ⟨rfl, rfl⟩ := trodVars_none hV
  have hA2 := hA
  rw [Try.params6] at hA2
  obtain ⟨ins, hfit, hins⟩ := open_all (P := Try.prog) (W := W) (ts := Try.f6.params.toList) (r := .any) (b0 := base) (by kernel_rfl)
    (fun j t v h1 h2 => hval0 j t v (by simpa using h1) (by simpa using h2))
    (fun j t d h1 h2 => sized_any hsz h1 h2) hA
  rw [Try.params6] at hfit
  obtain ⟨v0, vs0, d0, ds0, p0, q0, ha0, rfl, hp0, k0, r0⟩ := trodAll_cons hA2
  obtain ⟨v1, vs1, d1, ds1, p1, q1, ha1, rfl, hp1, k1, r1⟩ := trodAll_cons r0
  obtain ⟨_, rfl, _⟩ := trodAll_nil r1
  refine (law_calls (law_ins ins hfit) trivial hins).mono fun e W' ⟨v, he, hv, bel⟩ => ?_
  cases hv
  subst he
  exact ⟨_, rfl, _, _, _, [], _, [], hW', trodAll_mk1 (shut_bool Try.underlying4 _), shut_all laidOut bel (by kernel_rfl) hA, rfl, bel.frame _, fun h => by cases h⟩

theorem over : Rows.cipherRealRow.holds Try.pinned (OpenSpec.ofChange Rows.cipherRealSpec) :=
  OpenClaim.holds_of_wide 6 Try.f6 rfl rfl rfl rfl rfl rfl rfl ⟨rfl, rfl, rfl, rfl, rfl⟩ rfl rfl rfl rfl rfl (by kernel_rfl) Try.func6 (by kernel_rfl)
    (of_decide_eq_true (by kernel_rfl)) (by unfold Func.isWrapper; first | (rw [if_pos (by decide +kernel)]; kernel_rfl) | (rw [if_neg (by decide +kernel)]; exact ⟨rfl, rfl⟩))
    (fun os started H enc _ => lifted os started H enc)

/-- The statement. -/
theorem proved : Rows.CipherRealSaid := over
end Go.Proofs.Ytbnjeafjnglldaa
