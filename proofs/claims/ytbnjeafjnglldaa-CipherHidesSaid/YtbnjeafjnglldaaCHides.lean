/-
  PROVED: 'erewhilelaw05.CipherHides' returns true for every input and leaves its arguments as they were. No condition.
-/
import Derived.Test.YtbnjeafjnglldaaLit4
import Derived.Test.YtbnjeafjnglldaaRows
import Derived.WalkKit
import Derived.ProofKit
namespace Go.Proofs.Ytbnjeafjnglldaa
open Go Go.Proofs.Ytbnjeafjnglldaa.Sy
set_option linter.unusedSimpArgs false
set_option linter.unusedVariables false
set_option maxRecDepth 100000
set_option maxHeartbeats 4000000


/-- One more, each of the first ones. -/
def incT (X : List Int) : Nat → List Int
  | 0 => X
  | i + 1 => (incT X i).set i (IntKind.u8.wrap ((incT X i).getD i 0 + 1))
theorem incT_zero (X : List Int) : incT X 0 = X := rfl
theorem incT_succ (X : List Int) (i : Nat) : (incT X i).set i (IntKind.u8.wrap ((incT X i).getD i 0 + 1)) = incT X (i + 1) := rfl
theorem incT_len (X : List Int) : ∀ i, (incT X i).length = X.length
  | 0 => rfl
  | i + 1 => by rw [← incT_succ, List.length_set, incT_len X i]
theorem law_long {α : Type} (E : α → Option (Row α)) (k : List Int) (hk : k.length = 32) (n : Int) (x : α) (b : List Int) (bb : 100 < b.length) :
    FnOk Try.prog n_law05_CipherHides E [.ints .u8 k, .int .u64 n, .slice false (.ext x) 0 b.length 1] [] (.bool true) [] := by
  refine FnOk.pure func_law05_CipherHides call_law05_CipherHides (body := _) rfl nt_law05_CipherHides (by simp) (by simp [AV.solid, AV.solidL]) ?_
  refine AWp.reg p_law05_CipherHides_0 [] s_law05_CipherHides_0 rfl rfl fun K hK => st_of ?_
  simp only [s_law05_CipherHides_0, wT, Bool.not_eq_true, ty, zr, Nat.reduceAdd, Nat.reduceSub, Nat.reduceMul, Nat.reduceMod, Nat.reduceDiv, Nat.reduceEqDiff, Nat.reduceLeDiff, Nat.reduceBEq, Int.reduceAdd, Int.reduceSub, Int.reduceMul, Int.reduceNeg, Int.reduceLT, Int.reduceLE, Int.reduceEq, Int.reduceNe, Int.reduceBEq, Int.reduceToNat, Int.reduceTDiv, Int.reduceTMod, Int.reduceOfNat, reduceCtorEq, sty, sui]
  try simp (disch := first | omega | (simp only [List.length_set, List.length_replicate, List.length_append, List.length_nil, litP_len, padL_len, xorA_len, flatI_len]; done) | (simp only [List.length_set, List.length_replicate, List.length_append, List.length_nil, litP_len, padL_len, xorA_len, flatI_len]; omega)) only [tn_add, tn_mul, tn_sub, tn_div, tn_mod, Int.toNat_natCast, Int.reduceToNat, wrap_i64', wrap_u64', wrap_u32', wrap_u8', Int.tmod_eq_emod_of_nonneg, Int.tdiv_eq_ediv_of_nonneg, sub_one, sub_all, splice_all, List.length_set, List.length_replicate, List.length_append, List.length_nil, litP_len, padL_len, xorA_len, flatI_len]
  (repeat ((with_reducible refine And.intro ?_ ?_); (first | omega | exact True.intro | with_reducible rfl | decide | assumption | rfl)))
  refine hK _ ?_; clear hK K
  refine AWp.grp fun G4 hG4 => ?_
  refine AWp.reg p_law05_CipherHides_1 [] s_law05_CipherHides_1 rfl rfl fun K hK => st_of ?_
  simp only [s_law05_CipherHides_1, wT, Bool.not_eq_true, ty, zr, Nat.reduceAdd, Nat.reduceSub, Nat.reduceMul, Nat.reduceMod, Nat.reduceDiv, Nat.reduceEqDiff, Nat.reduceLeDiff, Nat.reduceBEq, Int.reduceAdd, Int.reduceSub, Int.reduceMul, Int.reduceNeg, Int.reduceLT, Int.reduceLE, Int.reduceEq, Int.reduceNe, Int.reduceBEq, Int.reduceToNat, Int.reduceTDiv, Int.reduceTMod, Int.reduceOfNat, reduceCtorEq, sty, sui]
  try simp (disch := first | omega | (simp only [List.length_set, List.length_replicate, List.length_append, List.length_nil, litP_len, padL_len, xorA_len, flatI_len]; done) | (simp only [List.length_set, List.length_replicate, List.length_append, List.length_nil, litP_len, padL_len, xorA_len, flatI_len]; omega)) only [tn_add, tn_mul, tn_sub, tn_div, tn_mod, Int.toNat_natCast, Int.reduceToNat, wrap_i64', wrap_u64', wrap_u32', wrap_u8', Int.tmod_eq_emod_of_nonneg, Int.tdiv_eq_ediv_of_nonneg, sub_one, sub_all, splice_all, List.length_set, List.length_replicate, List.length_append, List.length_nil, litP_len, padL_len, xorA_len, flatI_len]
  (repeat ((with_reducible refine And.intro ?_ ?_); (first | omega | exact True.intro | with_reducible rfl | decide | assumption | rfl)))
  refine st_call fun K1 hK1 => ?_
  simp only [calleeC, wT, Bool.not_eq_true, ty, zr, Nat.reduceAdd, Nat.reduceSub, Nat.reduceMul, Nat.reduceMod, Nat.reduceDiv, Nat.reduceEqDiff, Nat.reduceLeDiff, Nat.reduceBEq, Int.reduceAdd, Int.reduceSub, Int.reduceMul, Int.reduceNeg, Int.reduceLT, Int.reduceLE, Int.reduceEq, Int.reduceNe, Int.reduceBEq, Int.reduceToNat, Int.reduceTDiv, Int.reduceTMod, Int.reduceOfNat, reduceCtorEq, sty, sui]
  try simp (disch := first | omega | (simp only [List.length_set, List.length_replicate, List.length_append, List.length_nil, litP_len, padL_len, xorA_len, flatI_len]; done) | (simp only [List.length_set, List.length_replicate, List.length_append, List.length_nil, litP_len, padL_len, xorA_len, flatI_len]; omega)) only [tn_add, tn_mul, tn_sub, tn_div, tn_mod, Int.toNat_natCast, Int.reduceToNat, wrap_i64', wrap_u64', wrap_u32', wrap_u8', Int.tmod_eq_emod_of_nonneg, Int.tdiv_eq_ediv_of_nonneg, sub_one, sub_all, splice_all, List.length_set, List.length_replicate, List.length_append, List.length_nil, litP_len, padL_len, xorA_len, flatI_len]
  refine hK1 _ _ ?_
  clear hK1 K1
  simp only [CallTo, AV.mapL, AV.map, mapL_flat, mapL_flat1]
  refine ⟨_, _, awake_ok _, ?_⟩
  simp only [wT, Bool.not_eq_true, ty, zr, Nat.reduceAdd, Nat.reduceSub, Nat.reduceMul, Nat.reduceMod, Nat.reduceDiv, Nat.reduceEqDiff, Nat.reduceLeDiff, Nat.reduceBEq, Int.reduceAdd, Int.reduceSub, Int.reduceMul, Int.reduceNeg, Int.reduceLT, Int.reduceLE, Int.reduceEq, Int.reduceNe, Int.reduceBEq, Int.reduceToNat, Int.reduceTDiv, Int.reduceTMod, Int.reduceOfNat, reduceCtorEq, sty, sui]
  try simp (disch := first | omega | (simp only [List.length_set, List.length_replicate, List.length_append, List.length_nil, litP_len, padL_len, xorA_len, flatI_len]; done) | (simp only [List.length_set, List.length_replicate, List.length_append, List.length_nil, litP_len, padL_len, xorA_len, flatI_len]; omega)) only [tn_add, tn_mul, tn_sub, tn_div, tn_mod, Int.toNat_natCast, Int.reduceToNat, wrap_i64', wrap_u64', wrap_u32', wrap_u8', Int.tmod_eq_emod_of_nonneg, Int.tdiv_eq_ediv_of_nonneg, sub_one, sub_all, splice_all, List.length_set, List.length_replicate, List.length_append, List.length_nil, litP_len, padL_len, xorA_len, flatI_len]
  (repeat ((with_reducible refine And.intro ?_ ?_); (first | omega | exact True.intro | with_reducible rfl | decide | assumption | rfl)))
  refine hK _ ?_; clear hK K
  refine AWp.iteE rfl (fun hb => ?_) (fun hb => ?_)
  · try simp only [decide_eq_true_eq, decide_eq_false_iff_not, beq_iff_eq, bne_iff_ne, ne_eq, Bool.not_eq_true, beq_eq_false_iff_ne, bne_eq_false_iff_eq, Bool.not_eq_false, Bool.not_eq_eq_eq_not, Bool.not_true, Bool.not_false] at hb
    (first | exact absurd trivial hb | exact absurd rfl hb | cases hb | (exfalso; omega) | (simp at hb; done))
  · try simp only [decide_eq_true_eq, decide_eq_false_iff_not, beq_iff_eq, bne_iff_ne, ne_eq, Bool.not_eq_true, beq_eq_false_iff_ne, bne_eq_false_iff_eq, Bool.not_eq_false, Bool.not_eq_eq_eq_not, Bool.not_true, Bool.not_false] at hb
    refine AWp.skip ?_
    try simp only [thenQ, bq, lq, lf, iq, gq, Nat.reduceEqDiff, if_true, if_false]
    refine hG4 _ ?_
    try clear hG4 G4
    refine AWp.grp fun G25 hG25 => ?_
    refine AWp.reg p_law05_CipherHides_3 [] s_law05_CipherHides_3 rfl rfl fun K hK => st_of ?_
    simp only [s_law05_CipherHides_3, wT, Bool.not_eq_true, ty, zr, Nat.reduceAdd, Nat.reduceSub, Nat.reduceMul, Nat.reduceMod, Nat.reduceDiv, Nat.reduceEqDiff, Nat.reduceLeDiff, Nat.reduceBEq, Int.reduceAdd, Int.reduceSub, Int.reduceMul, Int.reduceNeg, Int.reduceLT, Int.reduceLE, Int.reduceEq, Int.reduceNe, Int.reduceBEq, Int.reduceToNat, Int.reduceTDiv, Int.reduceTMod, Int.reduceOfNat, reduceCtorEq, sty, sui]
    try simp (disch := first | omega | (simp only [List.length_set, List.length_replicate, List.length_append, List.length_nil, litP_len, padL_len, xorA_len, flatI_len]; done) | (simp only [List.length_set, List.length_replicate, List.length_append, List.length_nil, litP_len, padL_len, xorA_len, flatI_len]; omega)) only [tn_add, tn_mul, tn_sub, tn_div, tn_mod, Int.toNat_natCast, Int.reduceToNat, wrap_i64', wrap_u64', wrap_u32', wrap_u8', Int.tmod_eq_emod_of_nonneg, Int.tdiv_eq_ediv_of_nonneg, sub_one, sub_all, splice_all, List.length_set, List.length_replicate, List.length_append, List.length_nil, litP_len, padL_len, xorA_len, flatI_len]
    (repeat ((with_reducible refine And.intro ?_ ?_); (first | omega | exact True.intro | with_reducible rfl | decide | assumption | rfl)))
    refine hK _ ?_; clear hK K
    refine AWp.iteE rfl (fun hb => ?_) (fun hb => ?_)
    · try simp only [decide_eq_true_eq, decide_eq_false_iff_not, beq_iff_eq, bne_iff_ne, ne_eq, Bool.not_eq_true, beq_eq_false_iff_ne, bne_eq_false_iff_eq, Bool.not_eq_false, Bool.not_eq_eq_eq_not, Bool.not_true, Bool.not_false] at hb
      refine AWp.reg p_law05_CipherHides_4 [] s_law05_CipherHides_4 rfl rfl fun K hK => st_of ?_
      simp only [s_law05_CipherHides_4, wT, Bool.not_eq_true, ty, zr, Nat.reduceAdd, Nat.reduceSub, Nat.reduceMul, Nat.reduceMod, Nat.reduceDiv, Nat.reduceEqDiff, Nat.reduceLeDiff, Nat.reduceBEq, Int.reduceAdd, Int.reduceSub, Int.reduceMul, Int.reduceNeg, Int.reduceLT, Int.reduceLE, Int.reduceEq, Int.reduceNe, Int.reduceBEq, Int.reduceToNat, Int.reduceTDiv, Int.reduceTMod, Int.reduceOfNat, reduceCtorEq, sty, sui]
      try simp (disch := first | omega | (simp only [List.length_set, List.length_replicate, List.length_append, List.length_nil, litP_len, padL_len, xorA_len, flatI_len]; done) | (simp only [List.length_set, List.length_replicate, List.length_append, List.length_nil, litP_len, padL_len, xorA_len, flatI_len]; omega)) only [tn_add, tn_mul, tn_sub, tn_div, tn_mod, Int.toNat_natCast, Int.reduceToNat, wrap_i64', wrap_u64', wrap_u32', wrap_u8', Int.tmod_eq_emod_of_nonneg, Int.tdiv_eq_ediv_of_nonneg, sub_one, sub_all, splice_all, List.length_set, List.length_replicate, List.length_append, List.length_nil, litP_len, padL_len, xorA_len, flatI_len]
      (repeat ((with_reducible refine And.intro ?_ ?_); (first | omega | exact True.intro | with_reducible rfl | decide | assumption | rfl)))
      refine hK _ ?_; clear hK K
      refine AWp.ret ?_
      try simp only [thenQ, bq, lq, lf, iq, gq, Nat.reduceEqDiff, if_true, if_false]
      simp only [endQ, rs_law05_CipherHides, resC, one, wT, Bool.not_eq_true, ty, zr, Nat.reduceAdd, Nat.reduceSub, Nat.reduceMul, Nat.reduceMod, Nat.reduceDiv, Nat.reduceEqDiff, Nat.reduceLeDiff, Nat.reduceBEq, Int.reduceAdd, Int.reduceSub, Int.reduceMul, Int.reduceNeg, Int.reduceLT, Int.reduceLE, Int.reduceEq, Int.reduceNe, Int.reduceBEq, Int.reduceToNat, Int.reduceTDiv, Int.reduceTMod, Int.reduceOfNat, reduceCtorEq, sty, sui]
      try simp (disch := first | omega | (simp only [List.length_set, List.length_replicate, List.length_append, List.length_nil, litP_len, padL_len, xorA_len, flatI_len]; done) | (simp only [List.length_set, List.length_replicate, List.length_append, List.length_nil, litP_len, padL_len, xorA_len, flatI_len]; omega)) only [tn_add, tn_mul, tn_sub, tn_div, tn_mod, Int.toNat_natCast, Int.reduceToNat, wrap_i64', wrap_u64', wrap_u32', wrap_u8', Int.tmod_eq_emod_of_nonneg, Int.tdiv_eq_ediv_of_nonneg, sub_one, sub_all, splice_all, List.length_set, List.length_replicate, List.length_append, List.length_nil, litP_len, padL_len, xorA_len, flatI_len]
      repeat' (first | exact True.intro | (with_reducible rfl) | (with_reducible apply And.intro) | omega | rfl)
    · try simp only [decide_eq_true_eq, decide_eq_false_iff_not, beq_iff_eq, bne_iff_ne, ne_eq, Bool.not_eq_true, beq_eq_false_iff_ne, bne_eq_false_iff_eq, Bool.not_eq_false, Bool.not_eq_eq_eq_not, Bool.not_true, Bool.not_false] at hb
      (first | exact absurd trivial hb | exact absurd rfl hb | cases hb | (exfalso; omega) | (simp at hb; done))
theorem law_mid {α : Type} (E : α → Option (Row α)) (k : List Int) (hk : k.length = 32) (n : Int) (x : α) (b : List Int) (hx : E x = some (.ints .u8 b)) (bb : 32 < b.length) (bc : b.length ≤ 100) :
    FnOk Try.prog n_law05_CipherHides E [.ints .u8 k, .int .u64 n, .slice false (.ext x) 0 b.length 1] [] (.bool true) [] := by
  have s0 : sub b 0 b.length = b := sub_all rfl
  refine FnOk.pure func_law05_CipherHides call_law05_CipherHides (body := _) rfl nt_law05_CipherHides (by simp) (by simp [AV.solid, AV.solidL]) ?_
  refine AWp.reg p_law05_CipherHides_0 [] s_law05_CipherHides_0 rfl rfl fun K hK => st_of ?_
  simp only [s_law05_CipherHides_0, wT, Bool.not_eq_true, ty, zr, Nat.reduceAdd, Nat.reduceSub, Nat.reduceMul, Nat.reduceMod, Nat.reduceDiv, Nat.reduceEqDiff, Nat.reduceLeDiff, Nat.reduceBEq, Int.reduceAdd, Int.reduceSub, Int.reduceMul, Int.reduceNeg, Int.reduceLT, Int.reduceLE, Int.reduceEq, Int.reduceNe, Int.reduceBEq, Int.reduceToNat, Int.reduceTDiv, Int.reduceTMod, Int.reduceOfNat, reduceCtorEq, sty, sui]
  try simp (disch := first | omega | (simp only [List.length_set, List.length_replicate, List.length_append, List.length_nil, litP_len, padL_len, xorA_len, flatI_len]; done) | (simp only [List.length_set, List.length_replicate, List.length_append, List.length_nil, litP_len, padL_len, xorA_len, flatI_len]; omega)) only [tn_add, tn_mul, tn_sub, tn_div, tn_mod, Int.toNat_natCast, Int.reduceToNat, wrap_i64', wrap_u64', wrap_u32', wrap_u8', Int.tmod_eq_emod_of_nonneg, Int.tdiv_eq_ediv_of_nonneg, sub_one, sub_all, splice_all, List.length_set, List.length_replicate, List.length_append, List.length_nil, litP_len, padL_len, xorA_len, flatI_len]
  (repeat ((with_reducible refine And.intro ?_ ?_); (first | omega | exact True.intro | with_reducible rfl | decide | assumption | rfl)))
  refine hK _ ?_; clear hK K
  refine AWp.grp fun G4 hG4 => ?_
  refine AWp.reg p_law05_CipherHides_1 [] s_law05_CipherHides_1 rfl rfl fun K hK => st_of ?_
  simp only [s_law05_CipherHides_1, wT, Bool.not_eq_true, ty, zr, Nat.reduceAdd, Nat.reduceSub, Nat.reduceMul, Nat.reduceMod, Nat.reduceDiv, Nat.reduceEqDiff, Nat.reduceLeDiff, Nat.reduceBEq, Int.reduceAdd, Int.reduceSub, Int.reduceMul, Int.reduceNeg, Int.reduceLT, Int.reduceLE, Int.reduceEq, Int.reduceNe, Int.reduceBEq, Int.reduceToNat, Int.reduceTDiv, Int.reduceTMod, Int.reduceOfNat, reduceCtorEq, sty, sui]
  try simp (disch := first | omega | (simp only [List.length_set, List.length_replicate, List.length_append, List.length_nil, litP_len, padL_len, xorA_len, flatI_len]; done) | (simp only [List.length_set, List.length_replicate, List.length_append, List.length_nil, litP_len, padL_len, xorA_len, flatI_len]; omega)) only [tn_add, tn_mul, tn_sub, tn_div, tn_mod, Int.toNat_natCast, Int.reduceToNat, wrap_i64', wrap_u64', wrap_u32', wrap_u8', Int.tmod_eq_emod_of_nonneg, Int.tdiv_eq_ediv_of_nonneg, sub_one, sub_all, splice_all, List.length_set, List.length_replicate, List.length_append, List.length_nil, litP_len, padL_len, xorA_len, flatI_len]
  (repeat ((with_reducible refine And.intro ?_ ?_); (first | omega | exact True.intro | with_reducible rfl | decide | assumption | rfl)))
  refine st_call fun K1 hK1 => ?_
  simp only [calleeC, wT, Bool.not_eq_true, ty, zr, Nat.reduceAdd, Nat.reduceSub, Nat.reduceMul, Nat.reduceMod, Nat.reduceDiv, Nat.reduceEqDiff, Nat.reduceLeDiff, Nat.reduceBEq, Int.reduceAdd, Int.reduceSub, Int.reduceMul, Int.reduceNeg, Int.reduceLT, Int.reduceLE, Int.reduceEq, Int.reduceNe, Int.reduceBEq, Int.reduceToNat, Int.reduceTDiv, Int.reduceTMod, Int.reduceOfNat, reduceCtorEq, sty, sui]
  try simp (disch := first | omega | (simp only [List.length_set, List.length_replicate, List.length_append, List.length_nil, litP_len, padL_len, xorA_len, flatI_len]; done) | (simp only [List.length_set, List.length_replicate, List.length_append, List.length_nil, litP_len, padL_len, xorA_len, flatI_len]; omega)) only [tn_add, tn_mul, tn_sub, tn_div, tn_mod, Int.toNat_natCast, Int.reduceToNat, wrap_i64', wrap_u64', wrap_u32', wrap_u8', Int.tmod_eq_emod_of_nonneg, Int.tdiv_eq_ediv_of_nonneg, sub_one, sub_all, splice_all, List.length_set, List.length_replicate, List.length_append, List.length_nil, litP_len, padL_len, xorA_len, flatI_len]
  refine hK1 _ _ ?_
  clear hK1 K1
  simp only [CallTo, AV.mapL, AV.map, mapL_flat, mapL_flat1]
  refine ⟨_, _, awake_ok _, ?_⟩
  simp only [wT, Bool.not_eq_true, ty, zr, Nat.reduceAdd, Nat.reduceSub, Nat.reduceMul, Nat.reduceMod, Nat.reduceDiv, Nat.reduceEqDiff, Nat.reduceLeDiff, Nat.reduceBEq, Int.reduceAdd, Int.reduceSub, Int.reduceMul, Int.reduceNeg, Int.reduceLT, Int.reduceLE, Int.reduceEq, Int.reduceNe, Int.reduceBEq, Int.reduceToNat, Int.reduceTDiv, Int.reduceTMod, Int.reduceOfNat, reduceCtorEq, sty, sui]
  try simp (disch := first | omega | (simp only [List.length_set, List.length_replicate, List.length_append, List.length_nil, litP_len, padL_len, xorA_len, flatI_len]; done) | (simp only [List.length_set, List.length_replicate, List.length_append, List.length_nil, litP_len, padL_len, xorA_len, flatI_len]; omega)) only [tn_add, tn_mul, tn_sub, tn_div, tn_mod, Int.toNat_natCast, Int.reduceToNat, wrap_i64', wrap_u64', wrap_u32', wrap_u8', Int.tmod_eq_emod_of_nonneg, Int.tdiv_eq_ediv_of_nonneg, sub_one, sub_all, splice_all, List.length_set, List.length_replicate, List.length_append, List.length_nil, litP_len, padL_len, xorA_len, flatI_len]
  (repeat ((with_reducible refine And.intro ?_ ?_); (first | omega | exact True.intro | with_reducible rfl | decide | assumption | rfl)))
  refine hK _ ?_; clear hK K
  refine AWp.iteE rfl (fun hb => ?_) (fun hb => ?_)
  · try simp only [decide_eq_true_eq, decide_eq_false_iff_not, beq_iff_eq, bne_iff_ne, ne_eq, Bool.not_eq_true, beq_eq_false_iff_ne, bne_eq_false_iff_eq, Bool.not_eq_false, Bool.not_eq_eq_eq_not, Bool.not_true, Bool.not_false] at hb
    (first | exact absurd trivial hb | exact absurd rfl hb | cases hb | (exfalso; omega) | (simp at hb; done))
  · try simp only [decide_eq_true_eq, decide_eq_false_iff_not, beq_iff_eq, bne_iff_ne, ne_eq, Bool.not_eq_true, beq_eq_false_iff_ne, bne_eq_false_iff_eq, Bool.not_eq_false, Bool.not_eq_eq_eq_not, Bool.not_true, Bool.not_false] at hb
    refine AWp.skip ?_
    try simp only [thenQ, bq, lq, lf, iq, gq, Nat.reduceEqDiff, if_true, if_false]
    refine hG4 _ ?_
    try clear hG4 G4
    refine AWp.grp fun G25 hG25 => ?_
    refine AWp.reg p_law05_CipherHides_3 [] s_law05_CipherHides_3 rfl rfl fun K hK => st_of ?_
    simp only [s_law05_CipherHides_3, wT, Bool.not_eq_true, ty, zr, Nat.reduceAdd, Nat.reduceSub, Nat.reduceMul, Nat.reduceMod, Nat.reduceDiv, Nat.reduceEqDiff, Nat.reduceLeDiff, Nat.reduceBEq, Int.reduceAdd, Int.reduceSub, Int.reduceMul, Int.reduceNeg, Int.reduceLT, Int.reduceLE, Int.reduceEq, Int.reduceNe, Int.reduceBEq, Int.reduceToNat, Int.reduceTDiv, Int.reduceTMod, Int.reduceOfNat, reduceCtorEq, sty, sui]
    try simp (disch := first | omega | (simp only [List.length_set, List.length_replicate, List.length_append, List.length_nil, litP_len, padL_len, xorA_len, flatI_len]; done) | (simp only [List.length_set, List.length_replicate, List.length_append, List.length_nil, litP_len, padL_len, xorA_len, flatI_len]; omega)) only [tn_add, tn_mul, tn_sub, tn_div, tn_mod, Int.toNat_natCast, Int.reduceToNat, wrap_i64', wrap_u64', wrap_u32', wrap_u8', Int.tmod_eq_emod_of_nonneg, Int.tdiv_eq_ediv_of_nonneg, sub_one, sub_all, splice_all, List.length_set, List.length_replicate, List.length_append, List.length_nil, litP_len, padL_len, xorA_len, flatI_len]
    (repeat ((with_reducible refine And.intro ?_ ?_); (first | omega | exact True.intro | with_reducible rfl | decide | assumption | rfl)))
    refine hK _ ?_; clear hK K
    refine AWp.iteE rfl (fun hb => ?_) (fun hb => ?_)
    · try simp only [decide_eq_true_eq, decide_eq_false_iff_not, beq_iff_eq, bne_iff_ne, ne_eq, Bool.not_eq_true, beq_eq_false_iff_ne, bne_eq_false_iff_eq, Bool.not_eq_false, Bool.not_eq_eq_eq_not, Bool.not_true, Bool.not_false] at hb
      (first | exact absurd trivial hb | exact absurd rfl hb | cases hb | (exfalso; omega) | (simp at hb; done))
    · try simp only [decide_eq_true_eq, decide_eq_false_iff_not, beq_iff_eq, bne_iff_ne, ne_eq, Bool.not_eq_true, beq_eq_false_iff_ne, bne_eq_false_iff_eq, Bool.not_eq_false, Bool.not_eq_eq_eq_not, Bool.not_true, Bool.not_false] at hb
      refine AWp.skip ?_
      try simp only [thenQ, bq, lq, lf, iq, gq, Nat.reduceEqDiff, if_true, if_false]
      refine hG25 _ ?_
      try clear hG25 G25
      refine AWp.reg p_law05_CipherHides_5 [] s_law05_CipherHides_5 rfl rfl fun K hK => st_of ?_
      simp only [s_law05_CipherHides_5, wT, Bool.not_eq_true, ty, zr, Nat.reduceAdd, Nat.reduceSub, Nat.reduceMul, Nat.reduceMod, Nat.reduceDiv, Nat.reduceEqDiff, Nat.reduceLeDiff, Nat.reduceBEq, Int.reduceAdd, Int.reduceSub, Int.reduceMul, Int.reduceNeg, Int.reduceLT, Int.reduceLE, Int.reduceEq, Int.reduceNe, Int.reduceBEq, Int.reduceToNat, Int.reduceTDiv, Int.reduceTMod, Int.reduceOfNat, reduceCtorEq, sty, sui]
      try simp (disch := first | omega | (simp only [List.length_set, List.length_replicate, List.length_append, List.length_nil, litP_len, padL_len, xorA_len, flatI_len]; done) | (simp only [List.length_set, List.length_replicate, List.length_append, List.length_nil, litP_len, padL_len, xorA_len, flatI_len]; omega)) only [tn_add, tn_mul, tn_sub, tn_div, tn_mod, Int.toNat_natCast, Int.reduceToNat, wrap_i64', wrap_u64', wrap_u32', wrap_u8', Int.tmod_eq_emod_of_nonneg, Int.tdiv_eq_ediv_of_nonneg, sub_one, sub_all, splice_all, List.length_set, List.length_replicate, List.length_append, List.length_nil, litP_len, padL_len, xorA_len, flatI_len]
      (repeat ((with_reducible refine And.intro ?_ ?_); (first | omega | exact True.intro | with_reducible rfl | decide | assumption | rfl)))
      refine hK _ ?_; clear hK K
      refine AWp.reg p_law05_CipherHides_6 [] s_law05_CipherHides_6 rfl rfl fun K hK => st_of ?_
      simp only [s_law05_CipherHides_6, wT, Bool.not_eq_true, ty, zr, Nat.reduceAdd, Nat.reduceSub, Nat.reduceMul, Nat.reduceMod, Nat.reduceDiv, Nat.reduceEqDiff, Nat.reduceLeDiff, Nat.reduceBEq, Int.reduceAdd, Int.reduceSub, Int.reduceMul, Int.reduceNeg, Int.reduceLT, Int.reduceLE, Int.reduceEq, Int.reduceNe, Int.reduceBEq, Int.reduceToNat, Int.reduceTDiv, Int.reduceTMod, Int.reduceOfNat, reduceCtorEq, sty, sui]
      try simp (disch := first | omega | (simp only [List.length_set, List.length_replicate, List.length_append, List.length_nil, litP_len, padL_len, xorA_len, flatI_len]; done) | (simp only [List.length_set, List.length_replicate, List.length_append, List.length_nil, litP_len, padL_len, xorA_len, flatI_len]; omega)) only [tn_add, tn_mul, tn_sub, tn_div, tn_mod, Int.toNat_natCast, Int.reduceToNat, wrap_i64', wrap_u64', wrap_u32', wrap_u8', Int.tmod_eq_emod_of_nonneg, Int.tdiv_eq_ediv_of_nonneg, sub_one, sub_all, splice_all, List.length_set, List.length_replicate, List.length_append, List.length_nil, litP_len, padL_len, xorA_len, flatI_len]
      simp only [hx, s0, Option.map_some, Row.map, wT, Bool.not_eq_true, ty, zr, Nat.reduceAdd, Nat.reduceSub, Nat.reduceMul, Nat.reduceMod, Nat.reduceDiv, Nat.reduceEqDiff, Nat.reduceLeDiff, Nat.reduceBEq, Int.reduceAdd, Int.reduceSub, Int.reduceMul, Int.reduceNeg, Int.reduceLT, Int.reduceLE, Int.reduceEq, Int.reduceNe, Int.reduceBEq, Int.reduceToNat, Int.reduceTDiv, Int.reduceTMod, Int.reduceOfNat, reduceCtorEq, sty, sui]
      try simp (disch := first | omega | (simp only [List.length_set, List.length_replicate, List.length_append, List.length_nil, litP_len, padL_len, xorA_len, flatI_len]; done) | (simp only [List.length_set, List.length_replicate, List.length_append, List.length_nil, litP_len, padL_len, xorA_len, flatI_len]; omega)) only [tn_add, tn_mul, tn_sub, tn_div, tn_mod, Int.toNat_natCast, Int.reduceToNat, wrap_i64', wrap_u64', wrap_u32', wrap_u8', Int.tmod_eq_emod_of_nonneg, Int.tdiv_eq_ediv_of_nonneg, sub_one, sub_all, splice_all, List.length_set, List.length_replicate, List.length_append, List.length_nil, litP_len, padL_len, xorA_len, flatI_len]
      (repeat ((with_reducible refine And.intro ?_ ?_); (first | omega | exact True.intro | with_reducible rfl | decide | assumption | rfl)))
      refine hK _ ?_; clear hK K
      refine AWp.reg p_law05_CipherHides_7 q_law05_CipherHides_7 s_law05_CipherHides_7 rfl rfl fun K hK => st_of ?_
      simp only [s_law05_CipherHides_7, wT, Bool.not_eq_true, ty, zr, Nat.reduceAdd, Nat.reduceSub, Nat.reduceMul, Nat.reduceMod, Nat.reduceDiv, Nat.reduceEqDiff, Nat.reduceLeDiff, Nat.reduceBEq, Int.reduceAdd, Int.reduceSub, Int.reduceMul, Int.reduceNeg, Int.reduceLT, Int.reduceLE, Int.reduceEq, Int.reduceNe, Int.reduceBEq, Int.reduceToNat, Int.reduceTDiv, Int.reduceTMod, Int.reduceOfNat, reduceCtorEq, sty, sui]
      try simp (disch := first | omega | (simp only [List.length_set, List.length_replicate, List.length_append, List.length_nil, litP_len, padL_len, xorA_len, flatI_len]; done) | (simp only [List.length_set, List.length_replicate, List.length_append, List.length_nil, litP_len, padL_len, xorA_len, flatI_len]; omega)) only [tn_add, tn_mul, tn_sub, tn_div, tn_mod, Int.toNat_natCast, Int.reduceToNat, wrap_i64', wrap_u64', wrap_u32', wrap_u8', Int.tmod_eq_emod_of_nonneg, Int.tdiv_eq_ediv_of_nonneg, sub_one, sub_all, splice_all, List.length_set, List.length_replicate, List.length_append, List.length_nil, litP_len, padL_len, xorA_len, flatI_len]
      (repeat ((with_reducible refine And.intro ?_ ?_); (first | omega | exact True.intro | with_reducible rfl | decide | assumption | rfl)))
      refine st_mcall fun K1 hK1 => ?_
      simp only [calleeC, wT, Bool.not_eq_true, ty, zr, Nat.reduceAdd, Nat.reduceSub, Nat.reduceMul, Nat.reduceMod, Nat.reduceDiv, Nat.reduceEqDiff, Nat.reduceLeDiff, Nat.reduceBEq, Int.reduceAdd, Int.reduceSub, Int.reduceMul, Int.reduceNeg, Int.reduceLT, Int.reduceLE, Int.reduceEq, Int.reduceNe, Int.reduceBEq, Int.reduceToNat, Int.reduceTDiv, Int.reduceTMod, Int.reduceOfNat, reduceCtorEq, sty, sui]
      try simp (disch := first | omega | (simp only [List.length_set, List.length_replicate, List.length_append, List.length_nil, litP_len, padL_len, xorA_len, flatI_len]; done) | (simp only [List.length_set, List.length_replicate, List.length_append, List.length_nil, litP_len, padL_len, xorA_len, flatI_len]; omega)) only [tn_add, tn_mul, tn_sub, tn_div, tn_mod, Int.toNat_natCast, Int.reduceToNat, wrap_i64', wrap_u64', wrap_u32', wrap_u8', Int.tmod_eq_emod_of_nonneg, Int.tdiv_eq_ediv_of_nonneg, sub_one, sub_all, splice_all, List.length_set, List.length_replicate, List.length_append, List.length_nil, litP_len, padL_len, xorA_len, flatI_len]
      refine hK1 _ _ ?_
      clear hK1 K1
      simp only [MutTo, AV.mapL, AV.map, mapL_flat, mapL_flat1]
      refine ⟨[], [.iface 30 (.agg [.ptr (.ext (.own 1)) 0, .ptr (.ext (.own 2)) 0]), .ints .u8 k, .int .u64 n, .slice false (.ext (.ext x)) 0 b.length 1], [], _, _, by decide, by simp only [mutRows, mutRow, upM, Row.map, AV.map, AV.mapL, Row.All, AV.All, AV.AllL, inS, mapL_flat, mapL_flat1, allL_flat, allL_flat1]; (repeat' (first | exact trivial | rfl | omega | apply And.intro | simp [mapL_flat, mapL_flat1, allL_flat, allL_flat1])), by simp only [upM, List.map_cons, List.map_nil, AV.map, AV.mapL, mapL_flat, mapL_flat1]; first | done | rfl, by simp only [AV.All, AV.AllL, inS, allL_flat, allL_flat1]; (repeat' (first | exact trivial | rfl | omega | apply And.intro | simp [mapL_flat, mapL_flat1, allL_flat, allL_flat1])), hide_long _ _ _ k n hk _ _ 0 b.length bb, ?_⟩
      simp only [afterM, setM, backM, List.drop_succ_cons, List.drop_zero, List.drop_nil, wT, Bool.not_eq_true, ty, zr, Nat.reduceAdd, Nat.reduceSub, Nat.reduceMul, Nat.reduceMod, Nat.reduceDiv, Nat.reduceEqDiff, Nat.reduceLeDiff, Nat.reduceBEq, Int.reduceAdd, Int.reduceSub, Int.reduceMul, Int.reduceNeg, Int.reduceLT, Int.reduceLE, Int.reduceEq, Int.reduceNe, Int.reduceBEq, Int.reduceToNat, Int.reduceTDiv, Int.reduceTMod, Int.reduceOfNat, reduceCtorEq, sty, sui]
      try simp (disch := first | omega | (simp only [List.length_set, List.length_replicate, List.length_append, List.length_nil, litP_len, padL_len, xorA_len, flatI_len]; done) | (simp only [List.length_set, List.length_replicate, List.length_append, List.length_nil, litP_len, padL_len, xorA_len, flatI_len]; omega)) only [tn_add, tn_mul, tn_sub, tn_div, tn_mod, Int.toNat_natCast, Int.reduceToNat, wrap_i64', wrap_u64', wrap_u32', wrap_u8', Int.tmod_eq_emod_of_nonneg, Int.tdiv_eq_ediv_of_nonneg, sub_one, sub_all, splice_all, List.length_set, List.length_replicate, List.length_append, List.length_nil, litP_len, padL_len, xorA_len, flatI_len]
      (repeat ((with_reducible refine And.intro ?_ ?_); (first | omega | exact True.intro | with_reducible rfl | decide | assumption | rfl)))
      refine hK _ ?_; clear hK K
      refine AWp.grp fun G59 hG59 => ?_
      refine AWp.reg p_law05_CipherHides_8 [] s_law05_CipherHides_8 rfl rfl fun K hK => st_of ?_
      simp only [s_law05_CipherHides_8, wT, Bool.not_eq_true, ty, zr, Nat.reduceAdd, Nat.reduceSub, Nat.reduceMul, Nat.reduceMod, Nat.reduceDiv, Nat.reduceEqDiff, Nat.reduceLeDiff, Nat.reduceBEq, Int.reduceAdd, Int.reduceSub, Int.reduceMul, Int.reduceNeg, Int.reduceLT, Int.reduceLE, Int.reduceEq, Int.reduceNe, Int.reduceBEq, Int.reduceToNat, Int.reduceTDiv, Int.reduceTMod, Int.reduceOfNat, reduceCtorEq, sty, sui]
      try simp (disch := first | omega | (simp only [List.length_set, List.length_replicate, List.length_append, List.length_nil, litP_len, padL_len, xorA_len, flatI_len]; done) | (simp only [List.length_set, List.length_replicate, List.length_append, List.length_nil, litP_len, padL_len, xorA_len, flatI_len]; omega)) only [tn_add, tn_mul, tn_sub, tn_div, tn_mod, Int.toNat_natCast, Int.reduceToNat, wrap_i64', wrap_u64', wrap_u32', wrap_u8', Int.tmod_eq_emod_of_nonneg, Int.tdiv_eq_ediv_of_nonneg, sub_one, sub_all, splice_all, List.length_set, List.length_replicate, List.length_append, List.length_nil, litP_len, padL_len, xorA_len, flatI_len]
      (repeat ((with_reducible refine And.intro ?_ ?_); (first | omega | exact True.intro | with_reducible rfl | decide | assumption | rfl)))
      (repeat ((with_reducible refine And.intro ?_ ?_); (first | omega | exact True.intro | with_reducible rfl | decide | assumption | rfl)))
      refine st_call fun K1 hK1 => ?_
      simp only [calleeC, wT, Bool.not_eq_true, ty, zr, Nat.reduceAdd, Nat.reduceSub, Nat.reduceMul, Nat.reduceMod, Nat.reduceDiv, Nat.reduceEqDiff, Nat.reduceLeDiff, Nat.reduceBEq, Int.reduceAdd, Int.reduceSub, Int.reduceMul, Int.reduceNeg, Int.reduceLT, Int.reduceLE, Int.reduceEq, Int.reduceNe, Int.reduceBEq, Int.reduceToNat, Int.reduceTDiv, Int.reduceTMod, Int.reduceOfNat, reduceCtorEq, sty, sui]
      try simp (disch := first | omega | (simp only [List.length_set, List.length_replicate, List.length_append, List.length_nil, litP_len, padL_len, xorA_len, flatI_len]; done) | (simp only [List.length_set, List.length_replicate, List.length_append, List.length_nil, litP_len, padL_len, xorA_len, flatI_len]; omega)) only [tn_add, tn_mul, tn_sub, tn_div, tn_mod, Int.toNat_natCast, Int.reduceToNat, wrap_i64', wrap_u64', wrap_u32', wrap_u8', Int.tmod_eq_emod_of_nonneg, Int.tdiv_eq_ediv_of_nonneg, sub_one, sub_all, splice_all, List.length_set, List.length_replicate, List.length_append, List.length_nil, litP_len, padL_len, xorA_len, flatI_len]
      refine hK1 _ _ ?_
      clear hK1 K1
      simp only [CallTo, AV.mapL, AV.map, mapL_flat, mapL_flat1]
      refine ⟨_, _, litpad_ok _ k hk n, ?_⟩
      simp only [wT, Bool.not_eq_true, ty, zr, Nat.reduceAdd, Nat.reduceSub, Nat.reduceMul, Nat.reduceMod, Nat.reduceDiv, Nat.reduceEqDiff, Nat.reduceLeDiff, Nat.reduceBEq, Int.reduceAdd, Int.reduceSub, Int.reduceMul, Int.reduceNeg, Int.reduceLT, Int.reduceLE, Int.reduceEq, Int.reduceNe, Int.reduceBEq, Int.reduceToNat, Int.reduceTDiv, Int.reduceTMod, Int.reduceOfNat, reduceCtorEq, sty, sui]
      try simp (disch := first | omega | (simp only [List.length_set, List.length_replicate, List.length_append, List.length_nil, litP_len, padL_len, xorA_len, flatI_len]; done) | (simp only [List.length_set, List.length_replicate, List.length_append, List.length_nil, litP_len, padL_len, xorA_len, flatI_len]; omega)) only [tn_add, tn_mul, tn_sub, tn_div, tn_mod, Int.toNat_natCast, Int.reduceToNat, wrap_i64', wrap_u64', wrap_u32', wrap_u8', Int.tmod_eq_emod_of_nonneg, Int.tdiv_eq_ediv_of_nonneg, sub_one, sub_all, splice_all, List.length_set, List.length_replicate, List.length_append, List.length_nil, litP_len, padL_len, xorA_len, flatI_len]
      (repeat ((with_reducible refine And.intro ?_ ?_); (first | omega | exact True.intro | with_reducible rfl | decide | assumption | rfl)))
      (repeat ((with_reducible refine And.intro ?_ ?_); (first | omega | exact True.intro | with_reducible rfl | decide | assumption | rfl)))
      refine st_call fun K1 hK1 => ?_
      simp only [calleeC, wT, Bool.not_eq_true, ty, zr, Nat.reduceAdd, Nat.reduceSub, Nat.reduceMul, Nat.reduceMod, Nat.reduceDiv, Nat.reduceEqDiff, Nat.reduceLeDiff, Nat.reduceBEq, Int.reduceAdd, Int.reduceSub, Int.reduceMul, Int.reduceNeg, Int.reduceLT, Int.reduceLE, Int.reduceEq, Int.reduceNe, Int.reduceBEq, Int.reduceToNat, Int.reduceTDiv, Int.reduceTMod, Int.reduceOfNat, reduceCtorEq, sty, sui]
      try simp (disch := first | omega | (simp only [List.length_set, List.length_replicate, List.length_append, List.length_nil, litP_len, padL_len, xorA_len, flatI_len]; done) | (simp only [List.length_set, List.length_replicate, List.length_append, List.length_nil, litP_len, padL_len, xorA_len, flatI_len]; omega)) only [tn_add, tn_mul, tn_sub, tn_div, tn_mod, Int.toNat_natCast, Int.reduceToNat, wrap_i64', wrap_u64', wrap_u32', wrap_u8', Int.tmod_eq_emod_of_nonneg, Int.tdiv_eq_ediv_of_nonneg, sub_one, sub_all, splice_all, List.length_set, List.length_replicate, List.length_append, List.length_nil, litP_len, padL_len, xorA_len, flatI_len]
      refine hK1 _ _ ?_
      clear hK1 K1
      simp only [CallTo, AV.mapL, AV.map, mapL_flat, mapL_flat1]
      refine ⟨_, _, hideR_long _ _ (litP_len k n) _ _ 0 b.length bb, ?_⟩
      simp only [wT, Bool.not_eq_true, ty, zr, Nat.reduceAdd, Nat.reduceSub, Nat.reduceMul, Nat.reduceMod, Nat.reduceDiv, Nat.reduceEqDiff, Nat.reduceLeDiff, Nat.reduceBEq, Int.reduceAdd, Int.reduceSub, Int.reduceMul, Int.reduceNeg, Int.reduceLT, Int.reduceLE, Int.reduceEq, Int.reduceNe, Int.reduceBEq, Int.reduceToNat, Int.reduceTDiv, Int.reduceTMod, Int.reduceOfNat, reduceCtorEq, sty, sui]
      try simp (disch := first | omega | (simp only [List.length_set, List.length_replicate, List.length_append, List.length_nil, litP_len, padL_len, xorA_len, flatI_len]; done) | (simp only [List.length_set, List.length_replicate, List.length_append, List.length_nil, litP_len, padL_len, xorA_len, flatI_len]; omega)) only [tn_add, tn_mul, tn_sub, tn_div, tn_mod, Int.toNat_natCast, Int.reduceToNat, wrap_i64', wrap_u64', wrap_u32', wrap_u8', Int.tmod_eq_emod_of_nonneg, Int.tdiv_eq_ediv_of_nonneg, sub_one, sub_all, splice_all, List.length_set, List.length_replicate, List.length_append, List.length_nil, litP_len, padL_len, xorA_len, flatI_len]
      (repeat ((with_reducible refine And.intro ?_ ?_); (first | omega | exact True.intro | with_reducible rfl | decide | assumption | rfl)))
      (repeat ((with_reducible refine And.intro ?_ ?_); (first | omega | exact True.intro | with_reducible rfl | decide | assumption | rfl)))
      refine st_call fun K1 hK1 => ?_
      simp only [calleeC, wT, Bool.not_eq_true, ty, zr, Nat.reduceAdd, Nat.reduceSub, Nat.reduceMul, Nat.reduceMod, Nat.reduceDiv, Nat.reduceEqDiff, Nat.reduceLeDiff, Nat.reduceBEq, Int.reduceAdd, Int.reduceSub, Int.reduceMul, Int.reduceNeg, Int.reduceLT, Int.reduceLE, Int.reduceEq, Int.reduceNe, Int.reduceBEq, Int.reduceToNat, Int.reduceTDiv, Int.reduceTMod, Int.reduceOfNat, reduceCtorEq, sty, sui]
      try simp (disch := first | omega | (simp only [List.length_set, List.length_replicate, List.length_append, List.length_nil, litP_len, padL_len, xorA_len, flatI_len]; done) | (simp only [List.length_set, List.length_replicate, List.length_append, List.length_nil, litP_len, padL_len, xorA_len, flatI_len]; omega)) only [tn_add, tn_mul, tn_sub, tn_div, tn_mod, Int.toNat_natCast, Int.reduceToNat, wrap_i64', wrap_u64', wrap_u32', wrap_u8', Int.tmod_eq_emod_of_nonneg, Int.tdiv_eq_ediv_of_nonneg, sub_one, sub_all, splice_all, List.length_set, List.length_replicate, List.length_append, List.length_nil, litP_len, padL_len, xorA_len, flatI_len]
      refine hK1 _ _ ?_
      clear hK1 K1
      simp only [CallTo, AV.mapL, AV.map, mapL_flat, mapL_flat1]
      refine ⟨_, _, same1_nil _, ?_⟩
      simp only [wT, Bool.not_eq_true, ty, zr, Nat.reduceAdd, Nat.reduceSub, Nat.reduceMul, Nat.reduceMod, Nat.reduceDiv, Nat.reduceEqDiff, Nat.reduceLeDiff, Nat.reduceBEq, Int.reduceAdd, Int.reduceSub, Int.reduceMul, Int.reduceNeg, Int.reduceLT, Int.reduceLE, Int.reduceEq, Int.reduceNe, Int.reduceBEq, Int.reduceToNat, Int.reduceTDiv, Int.reduceTMod, Int.reduceOfNat, reduceCtorEq, sty, sui]
      try simp (disch := first | omega | (simp only [List.length_set, List.length_replicate, List.length_append, List.length_nil, litP_len, padL_len, xorA_len, flatI_len]; done) | (simp only [List.length_set, List.length_replicate, List.length_append, List.length_nil, litP_len, padL_len, xorA_len, flatI_len]; omega)) only [tn_add, tn_mul, tn_sub, tn_div, tn_mod, Int.toNat_natCast, Int.reduceToNat, wrap_i64', wrap_u64', wrap_u32', wrap_u8', Int.tmod_eq_emod_of_nonneg, Int.tdiv_eq_ediv_of_nonneg, sub_one, sub_all, splice_all, List.length_set, List.length_replicate, List.length_append, List.length_nil, litP_len, padL_len, xorA_len, flatI_len]
      refine ⟨by decide, by decide, fun h => absurd h (by decide), fun _ => ?_⟩
      (repeat ((with_reducible refine And.intro ?_ ?_); (first | omega | exact True.intro | with_reducible rfl | decide | assumption | rfl)))
      (repeat ((with_reducible refine And.intro ?_ ?_); (first | omega | exact True.intro | with_reducible rfl | decide | assumption | rfl)))
      refine st_call fun K1 hK1 => ?_
      simp only [calleeC, wT, Bool.not_eq_true, ty, zr, Nat.reduceAdd, Nat.reduceSub, Nat.reduceMul, Nat.reduceMod, Nat.reduceDiv, Nat.reduceEqDiff, Nat.reduceLeDiff, Nat.reduceBEq, Int.reduceAdd, Int.reduceSub, Int.reduceMul, Int.reduceNeg, Int.reduceLT, Int.reduceLE, Int.reduceEq, Int.reduceNe, Int.reduceBEq, Int.reduceToNat, Int.reduceTDiv, Int.reduceTMod, Int.reduceOfNat, reduceCtorEq, sty, sui]
      try simp (disch := first | omega | (simp only [List.length_set, List.length_replicate, List.length_append, List.length_nil, litP_len, padL_len, xorA_len, flatI_len]; done) | (simp only [List.length_set, List.length_replicate, List.length_append, List.length_nil, litP_len, padL_len, xorA_len, flatI_len]; omega)) only [tn_add, tn_mul, tn_sub, tn_div, tn_mod, Int.toNat_natCast, Int.reduceToNat, wrap_i64', wrap_u64', wrap_u32', wrap_u8', Int.tmod_eq_emod_of_nonneg, Int.tdiv_eq_ediv_of_nonneg, sub_one, sub_all, splice_all, List.length_set, List.length_replicate, List.length_append, List.length_nil, litP_len, padL_len, xorA_len, flatI_len]
      refine hK1 _ _ ?_
      clear hK1 K1
      simp only [CallTo, AV.mapL, AV.map, mapL_flat, mapL_flat1]
      refine ⟨_, _, hide_none _ k n _ hk, ?_⟩
      simp only [wT, Bool.not_eq_true, ty, zr, Nat.reduceAdd, Nat.reduceSub, Nat.reduceMul, Nat.reduceMod, Nat.reduceDiv, Nat.reduceEqDiff, Nat.reduceLeDiff, Nat.reduceBEq, Int.reduceAdd, Int.reduceSub, Int.reduceMul, Int.reduceNeg, Int.reduceLT, Int.reduceLE, Int.reduceEq, Int.reduceNe, Int.reduceBEq, Int.reduceToNat, Int.reduceTDiv, Int.reduceTMod, Int.reduceOfNat, reduceCtorEq, sty, sui]
      try simp (disch := first | omega | (simp only [List.length_set, List.length_replicate, List.length_append, List.length_nil, litP_len, padL_len, xorA_len, flatI_len]; done) | (simp only [List.length_set, List.length_replicate, List.length_append, List.length_nil, litP_len, padL_len, xorA_len, flatI_len]; omega)) only [tn_add, tn_mul, tn_sub, tn_div, tn_mod, Int.toNat_natCast, Int.reduceToNat, wrap_i64', wrap_u64', wrap_u32', wrap_u8', Int.tmod_eq_emod_of_nonneg, Int.tdiv_eq_ediv_of_nonneg, sub_one, sub_all, splice_all, List.length_set, List.length_replicate, List.length_append, List.length_nil, litP_len, padL_len, xorA_len, flatI_len]
      (repeat ((with_reducible refine And.intro ?_ ?_); (first | omega | exact True.intro | with_reducible rfl | decide | assumption | rfl)))
      refine hK _ ?_; clear hK K
      refine AWp.iteE rfl (fun hb => ?_) (fun hb => ?_)
      · try simp only [decide_eq_true_eq, decide_eq_false_iff_not, beq_iff_eq, bne_iff_ne, ne_eq, Bool.not_eq_true, beq_eq_false_iff_ne, bne_eq_false_iff_eq, Bool.not_eq_false, Bool.not_eq_eq_eq_not, Bool.not_true, Bool.not_false] at hb
        (first | exact absurd trivial hb | exact absurd rfl hb | cases hb | (exfalso; omega) | (simp at hb; done))
      · try simp only [decide_eq_true_eq, decide_eq_false_iff_not, beq_iff_eq, bne_iff_ne, ne_eq, Bool.not_eq_true, beq_eq_false_iff_ne, bne_eq_false_iff_eq, Bool.not_eq_false, Bool.not_eq_eq_eq_not, Bool.not_true, Bool.not_false] at hb
        refine AWp.skip ?_
        try simp only [thenQ, bq, lq, lf, iq, gq, Nat.reduceEqDiff, if_true, if_false]
        refine hG59 _ ?_
        try clear hG59 G59
        refine AWp.grp fun G109 hG109 => ?_
        refine AWp.reg p_law05_CipherHides_10 [] s_law05_CipherHides_10 rfl rfl fun K hK => st_of ?_
        simp only [s_law05_CipherHides_10, wT, Bool.not_eq_true, ty, zr, Nat.reduceAdd, Nat.reduceSub, Nat.reduceMul, Nat.reduceMod, Nat.reduceDiv, Nat.reduceEqDiff, Nat.reduceLeDiff, Nat.reduceBEq, Int.reduceAdd, Int.reduceSub, Int.reduceMul, Int.reduceNeg, Int.reduceLT, Int.reduceLE, Int.reduceEq, Int.reduceNe, Int.reduceBEq, Int.reduceToNat, Int.reduceTDiv, Int.reduceTMod, Int.reduceOfNat, reduceCtorEq, sty, sui]
        try simp (disch := first | omega | (simp only [List.length_set, List.length_replicate, List.length_append, List.length_nil, litP_len, padL_len, xorA_len, flatI_len]; done) | (simp only [List.length_set, List.length_replicate, List.length_append, List.length_nil, litP_len, padL_len, xorA_len, flatI_len]; omega)) only [tn_add, tn_mul, tn_sub, tn_div, tn_mod, Int.toNat_natCast, Int.reduceToNat, wrap_i64', wrap_u64', wrap_u32', wrap_u8', Int.tmod_eq_emod_of_nonneg, Int.tdiv_eq_ediv_of_nonneg, sub_one, sub_all, splice_all, List.length_set, List.length_replicate, List.length_append, List.length_nil, litP_len, padL_len, xorA_len, flatI_len]
        (repeat ((with_reducible refine And.intro ?_ ?_); (first | omega | exact True.intro | with_reducible rfl | decide | assumption | rfl)))
        refine hK _ ?_; clear hK K
        refine AWp.lopX (fun i => ⟨[(2, .slice false (.ext x) 0 b.length 1), (9, .slice true (.own 4) 0 b.length 1), (10, .nilslice), (11, .int .i64 i)], [none, none, none, none, some (.ints .u8 b)]⟩) (0) (Le.of (by first | exact Nat.zero_le _ | simp) (by simp only [leTm, tget, AV.All, AV.AllL, inS, Nat.reduceEqDiff, if_true, if_false]; repeat' (first | exact trivial | rfl | assumption | apply And.intro | simp [mapL_flat, mapL_flat1, allL_flat, allL_flat1])) (by simp only [leRows, Row.All, AV.AllL, AV.All, inS]; repeat' (first | exact trivial | rfl | assumption | apply And.intro | simp [mapL_flat, mapL_flat1, allL_flat, allL_flat1]))) fun X0 hX0 i hn0 => ?_
        refine AWp.grp fun G115 hG115 => ?_
        refine AWp.reg p_law05_CipherHides_11 [] s_law05_CipherHides_11 rfl rfl fun K hK => st_of ?_
        simp only [s_law05_CipherHides_11, wT, Bool.not_eq_true, ty, zr, Nat.reduceAdd, Nat.reduceSub, Nat.reduceMul, Nat.reduceMod, Nat.reduceDiv, Nat.reduceEqDiff, Nat.reduceLeDiff, Nat.reduceBEq, Int.reduceAdd, Int.reduceSub, Int.reduceMul, Int.reduceNeg, Int.reduceLT, Int.reduceLE, Int.reduceEq, Int.reduceNe, Int.reduceBEq, Int.reduceToNat, Int.reduceTDiv, Int.reduceTMod, Int.reduceOfNat, reduceCtorEq, sty, sui]
        try simp (disch := first | omega | (simp only [List.length_set, List.length_replicate, List.length_append, List.length_nil, litP_len, padL_len, xorA_len, flatI_len]; done) | (simp only [List.length_set, List.length_replicate, List.length_append, List.length_nil, litP_len, padL_len, xorA_len, flatI_len]; omega)) only [tn_add, tn_mul, tn_sub, tn_div, tn_mod, Int.toNat_natCast, Int.reduceToNat, wrap_i64', wrap_u64', wrap_u32', wrap_u8', Int.tmod_eq_emod_of_nonneg, Int.tdiv_eq_ediv_of_nonneg, sub_one, sub_all, splice_all, List.length_set, List.length_replicate, List.length_append, List.length_nil, litP_len, padL_len, xorA_len, flatI_len]
        (repeat ((with_reducible refine And.intro ?_ ?_); (first | omega | exact True.intro | with_reducible rfl | decide | assumption | rfl)))
        refine hK _ ?_; clear hK K
        refine AWp.testE rfl (fun hb => ?_) (fun hb => ?_)
        · try simp only [decide_eq_true_eq, decide_eq_false_iff_not, beq_iff_eq, bne_iff_ne, ne_eq, Bool.not_eq_true, beq_eq_false_iff_ne, bne_eq_false_iff_eq, Bool.not_eq_false, Bool.not_eq_eq_eq_not, Bool.not_true, Bool.not_false] at hb
          exfalso; omega
        · try simp only [decide_eq_true_eq, decide_eq_false_iff_not, beq_iff_eq, bne_iff_ne, ne_eq, Bool.not_eq_true, beq_eq_false_iff_ne, bne_eq_false_iff_eq, Bool.not_eq_false, Bool.not_eq_eq_eq_not, Bool.not_true, Bool.not_false] at hb
          try simp only [thenQ, bq, lq, lf, iq, gq, Nat.reduceEqDiff, if_true, if_false]
          refine hX0 _ ?_
          try clear hX0 X0
          obtain rfl : i = 0 := by omega
          try simp only [thenQ, bq, lq, lf, iq, gq, Nat.reduceEqDiff, if_true, if_false]
          refine hG109 _ ?_
          try clear hG109 G109
          refine AWp.reg p_law05_CipherHides_14 [] s_law05_CipherHides_14 rfl rfl fun K hK => st_of ?_
          simp only [s_law05_CipherHides_14, wT, Bool.not_eq_true, ty, zr, Nat.reduceAdd, Nat.reduceSub, Nat.reduceMul, Nat.reduceMod, Nat.reduceDiv, Nat.reduceEqDiff, Nat.reduceLeDiff, Nat.reduceBEq, Int.reduceAdd, Int.reduceSub, Int.reduceMul, Int.reduceNeg, Int.reduceLT, Int.reduceLE, Int.reduceEq, Int.reduceNe, Int.reduceBEq, Int.reduceToNat, Int.reduceTDiv, Int.reduceTMod, Int.reduceOfNat, reduceCtorEq, sty, sui]
          try simp (disch := first | omega | (simp only [List.length_set, List.length_replicate, List.length_append, List.length_nil, litP_len, padL_len, xorA_len, flatI_len]; done) | (simp only [List.length_set, List.length_replicate, List.length_append, List.length_nil, litP_len, padL_len, xorA_len, flatI_len]; omega)) only [tn_add, tn_mul, tn_sub, tn_div, tn_mod, Int.toNat_natCast, Int.reduceToNat, wrap_i64', wrap_u64', wrap_u32', wrap_u8', Int.tmod_eq_emod_of_nonneg, Int.tdiv_eq_ediv_of_nonneg, sub_one, sub_all, splice_all, List.length_set, List.length_replicate, List.length_append, List.length_nil, litP_len, padL_len, xorA_len, flatI_len]
          (repeat ((with_reducible refine And.intro ?_ ?_); (first | omega | exact True.intro | with_reducible rfl | decide | assumption | rfl)))
          refine st_call fun K1 hK1 => ?_
          simp only [calleeC, wT, Bool.not_eq_true, ty, zr, Nat.reduceAdd, Nat.reduceSub, Nat.reduceMul, Nat.reduceMod, Nat.reduceDiv, Nat.reduceEqDiff, Nat.reduceLeDiff, Nat.reduceBEq, Int.reduceAdd, Int.reduceSub, Int.reduceMul, Int.reduceNeg, Int.reduceLT, Int.reduceLE, Int.reduceEq, Int.reduceNe, Int.reduceBEq, Int.reduceToNat, Int.reduceTDiv, Int.reduceTMod, Int.reduceOfNat, reduceCtorEq, sty, sui]
          try simp (disch := first | omega | (simp only [List.length_set, List.length_replicate, List.length_append, List.length_nil, litP_len, padL_len, xorA_len, flatI_len]; done) | (simp only [List.length_set, List.length_replicate, List.length_append, List.length_nil, litP_len, padL_len, xorA_len, flatI_len]; omega)) only [tn_add, tn_mul, tn_sub, tn_div, tn_mod, Int.toNat_natCast, Int.reduceToNat, wrap_i64', wrap_u64', wrap_u32', wrap_u8', Int.tmod_eq_emod_of_nonneg, Int.tdiv_eq_ediv_of_nonneg, sub_one, sub_all, splice_all, List.length_set, List.length_replicate, List.length_append, List.length_nil, litP_len, padL_len, xorA_len, flatI_len]
          refine hK1 _ _ ?_
          clear hK1 K1
          simp only [CallTo, AV.mapL, AV.map, mapL_flat, mapL_flat1]
          refine ⟨_, _, same1_ok _ _ _ b b (by simp only [Sy.look, hx, Option.map_some, Row.map]) rfl _ _ 0 b.length 0 b.length (by omega) (by omega) (by omega) (by omega), ?_⟩
          simp only [s0, wT, Bool.not_eq_true, ty, zr, Nat.reduceAdd, Nat.reduceSub, Nat.reduceMul, Nat.reduceMod, Nat.reduceDiv, Nat.reduceEqDiff, Nat.reduceLeDiff, Nat.reduceBEq, Int.reduceAdd, Int.reduceSub, Int.reduceMul, Int.reduceNeg, Int.reduceLT, Int.reduceLE, Int.reduceEq, Int.reduceNe, Int.reduceBEq, Int.reduceToNat, Int.reduceTDiv, Int.reduceTMod, Int.reduceOfNat, reduceCtorEq, sty, sui]
          try simp (disch := first | omega | (simp only [List.length_set, List.length_replicate, List.length_append, List.length_nil, litP_len, padL_len, xorA_len, flatI_len]; done) | (simp only [List.length_set, List.length_replicate, List.length_append, List.length_nil, litP_len, padL_len, xorA_len, flatI_len]; omega)) only [tn_add, tn_mul, tn_sub, tn_div, tn_mod, Int.toNat_natCast, Int.reduceToNat, wrap_i64', wrap_u64', wrap_u32', wrap_u8', Int.tmod_eq_emod_of_nonneg, Int.tdiv_eq_ediv_of_nonneg, sub_one, sub_all, splice_all, List.length_set, List.length_replicate, List.length_append, List.length_nil, litP_len, padL_len, xorA_len, flatI_len]
          (repeat ((with_reducible refine And.intro ?_ ?_); (first | omega | exact True.intro | with_reducible rfl | decide | assumption | rfl)))
          refine hK _ ?_; clear hK K
          refine AWp.ret ?_
          try simp only [thenQ, bq, lq, lf, iq, gq, Nat.reduceEqDiff, if_true, if_false]
          simp only [endQ, rs_law05_CipherHides, resC, one, wT, Bool.not_eq_true, ty, zr, Nat.reduceAdd, Nat.reduceSub, Nat.reduceMul, Nat.reduceMod, Nat.reduceDiv, Nat.reduceEqDiff, Nat.reduceLeDiff, Nat.reduceBEq, Int.reduceAdd, Int.reduceSub, Int.reduceMul, Int.reduceNeg, Int.reduceLT, Int.reduceLE, Int.reduceEq, Int.reduceNe, Int.reduceBEq, Int.reduceToNat, Int.reduceTDiv, Int.reduceTMod, Int.reduceOfNat, reduceCtorEq, sty, sui]
          try simp (disch := first | omega | (simp only [List.length_set, List.length_replicate, List.length_append, List.length_nil, litP_len, padL_len, xorA_len, flatI_len]; done) | (simp only [List.length_set, List.length_replicate, List.length_append, List.length_nil, litP_len, padL_len, xorA_len, flatI_len]; omega)) only [tn_add, tn_mul, tn_sub, tn_div, tn_mod, Int.toNat_natCast, Int.reduceToNat, wrap_i64', wrap_u64', wrap_u32', wrap_u8', Int.tmod_eq_emod_of_nonneg, Int.tdiv_eq_ediv_of_nonneg, sub_one, sub_all, splice_all, List.length_set, List.length_replicate, List.length_append, List.length_nil, litP_len, padL_len, xorA_len, flatI_len]
          repeat' (first | exact True.intro | (with_reducible rfl) | (with_reducible apply And.intro) | omega | rfl)
theorem law_ok {α : Type} (E : α → Option (Row α)) (k : List Int) (hk : k.length = 32) (n : Int) (x : α) (b : List Int) (hx : E x = some (.ints .u8 b)) (wb : BV b) (bb : b.length ≤ 32) :
    FnOk Try.prog n_law05_CipherHides E [.ints .u8 k, .int .u64 n, .slice false (.ext x) 0 b.length 1] [] (.bool true) [] := by
  have s0 : sub b 0 b.length = b := sub_all rfl
  obtain ⟨p, hp⟩ : ∃ p, litP k n = p := ⟨_, rfl⟩
  have wp : BV p := by rw [← hp]; exact litP_by _ _
  have lp : p.length = 32 := by rw [← hp]; exact litP_len _ _
  obtain ⟨X, hX⟩ : ∃ X, xorA b p b.length = X := ⟨_, rfl⟩
  have lX : X.length = b.length := by rw [← hX, xorA_len]
  have sX : sub X 0 b.length = X := sub_all lX
  refine FnOk.pure func_law05_CipherHides call_law05_CipherHides (body := _) rfl nt_law05_CipherHides (by simp) (by simp [AV.solid, AV.solidL]) ?_
  refine AWp.reg p_law05_CipherHides_0 [] s_law05_CipherHides_0 rfl rfl fun K hK => st_of ?_
  simp only [s_law05_CipherHides_0, wT, Bool.not_eq_true, ty, zr, Nat.reduceAdd, Nat.reduceSub, Nat.reduceMul, Nat.reduceMod, Nat.reduceDiv, Nat.reduceEqDiff, Nat.reduceLeDiff, Nat.reduceBEq, Int.reduceAdd, Int.reduceSub, Int.reduceMul, Int.reduceNeg, Int.reduceLT, Int.reduceLE, Int.reduceEq, Int.reduceNe, Int.reduceBEq, Int.reduceToNat, Int.reduceTDiv, Int.reduceTMod, Int.reduceOfNat, reduceCtorEq, sty, sui]
  try simp (disch := first | omega | (simp only [List.length_set, List.length_replicate, List.length_append, List.length_nil, litP_len, padL_len, xorA_len, flatI_len]; done) | (simp only [List.length_set, List.length_replicate, List.length_append, List.length_nil, litP_len, padL_len, xorA_len, flatI_len]; omega)) only [tn_add, tn_mul, tn_sub, tn_div, tn_mod, Int.toNat_natCast, Int.reduceToNat, wrap_i64', wrap_u64', wrap_u32', wrap_u8', Int.tmod_eq_emod_of_nonneg, Int.tdiv_eq_ediv_of_nonneg, sub_one, sub_all, splice_all, List.length_set, List.length_replicate, List.length_append, List.length_nil, litP_len, padL_len, xorA_len, flatI_len]
  (repeat ((with_reducible refine And.intro ?_ ?_); (first | omega | exact True.intro | with_reducible rfl | decide | assumption | rfl)))
  refine hK _ ?_; clear hK K
  refine AWp.grp fun G4 hG4 => ?_
  refine AWp.reg p_law05_CipherHides_1 [] s_law05_CipherHides_1 rfl rfl fun K hK => st_of ?_
  simp only [s_law05_CipherHides_1, wT, Bool.not_eq_true, ty, zr, Nat.reduceAdd, Nat.reduceSub, Nat.reduceMul, Nat.reduceMod, Nat.reduceDiv, Nat.reduceEqDiff, Nat.reduceLeDiff, Nat.reduceBEq, Int.reduceAdd, Int.reduceSub, Int.reduceMul, Int.reduceNeg, Int.reduceLT, Int.reduceLE, Int.reduceEq, Int.reduceNe, Int.reduceBEq, Int.reduceToNat, Int.reduceTDiv, Int.reduceTMod, Int.reduceOfNat, reduceCtorEq, sty, sui]
  try simp (disch := first | omega | (simp only [List.length_set, List.length_replicate, List.length_append, List.length_nil, litP_len, padL_len, xorA_len, flatI_len]; done) | (simp only [List.length_set, List.length_replicate, List.length_append, List.length_nil, litP_len, padL_len, xorA_len, flatI_len]; omega)) only [tn_add, tn_mul, tn_sub, tn_div, tn_mod, Int.toNat_natCast, Int.reduceToNat, wrap_i64', wrap_u64', wrap_u32', wrap_u8', Int.tmod_eq_emod_of_nonneg, Int.tdiv_eq_ediv_of_nonneg, sub_one, sub_all, splice_all, List.length_set, List.length_replicate, List.length_append, List.length_nil, litP_len, padL_len, xorA_len, flatI_len]
  (repeat ((with_reducible refine And.intro ?_ ?_); (first | omega | exact True.intro | with_reducible rfl | decide | assumption | rfl)))
  refine st_call fun K1 hK1 => ?_
  simp only [calleeC, wT, Bool.not_eq_true, ty, zr, Nat.reduceAdd, Nat.reduceSub, Nat.reduceMul, Nat.reduceMod, Nat.reduceDiv, Nat.reduceEqDiff, Nat.reduceLeDiff, Nat.reduceBEq, Int.reduceAdd, Int.reduceSub, Int.reduceMul, Int.reduceNeg, Int.reduceLT, Int.reduceLE, Int.reduceEq, Int.reduceNe, Int.reduceBEq, Int.reduceToNat, Int.reduceTDiv, Int.reduceTMod, Int.reduceOfNat, reduceCtorEq, sty, sui]
  try simp (disch := first | omega | (simp only [List.length_set, List.length_replicate, List.length_append, List.length_nil, litP_len, padL_len, xorA_len, flatI_len]; done) | (simp only [List.length_set, List.length_replicate, List.length_append, List.length_nil, litP_len, padL_len, xorA_len, flatI_len]; omega)) only [tn_add, tn_mul, tn_sub, tn_div, tn_mod, Int.toNat_natCast, Int.reduceToNat, wrap_i64', wrap_u64', wrap_u32', wrap_u8', Int.tmod_eq_emod_of_nonneg, Int.tdiv_eq_ediv_of_nonneg, sub_one, sub_all, splice_all, List.length_set, List.length_replicate, List.length_append, List.length_nil, litP_len, padL_len, xorA_len, flatI_len]
  refine hK1 _ _ ?_
  clear hK1 K1
  simp only [CallTo, AV.mapL, AV.map, mapL_flat, mapL_flat1]
  refine ⟨_, _, awake_ok _, ?_⟩
  simp only [wT, Bool.not_eq_true, ty, zr, Nat.reduceAdd, Nat.reduceSub, Nat.reduceMul, Nat.reduceMod, Nat.reduceDiv, Nat.reduceEqDiff, Nat.reduceLeDiff, Nat.reduceBEq, Int.reduceAdd, Int.reduceSub, Int.reduceMul, Int.reduceNeg, Int.reduceLT, Int.reduceLE, Int.reduceEq, Int.reduceNe, Int.reduceBEq, Int.reduceToNat, Int.reduceTDiv, Int.reduceTMod, Int.reduceOfNat, reduceCtorEq, sty, sui]
  try simp (disch := first | omega | (simp only [List.length_set, List.length_replicate, List.length_append, List.length_nil, litP_len, padL_len, xorA_len, flatI_len]; done) | (simp only [List.length_set, List.length_replicate, List.length_append, List.length_nil, litP_len, padL_len, xorA_len, flatI_len]; omega)) only [tn_add, tn_mul, tn_sub, tn_div, tn_mod, Int.toNat_natCast, Int.reduceToNat, wrap_i64', wrap_u64', wrap_u32', wrap_u8', Int.tmod_eq_emod_of_nonneg, Int.tdiv_eq_ediv_of_nonneg, sub_one, sub_all, splice_all, List.length_set, List.length_replicate, List.length_append, List.length_nil, litP_len, padL_len, xorA_len, flatI_len]
  (repeat ((with_reducible refine And.intro ?_ ?_); (first | omega | exact True.intro | with_reducible rfl | decide | assumption | rfl)))
  refine hK _ ?_; clear hK K
  refine AWp.iteE rfl (fun hb => ?_) (fun hb => ?_)
  · try simp only [decide_eq_true_eq, decide_eq_false_iff_not, beq_iff_eq, bne_iff_ne, ne_eq, Bool.not_eq_true, beq_eq_false_iff_ne, bne_eq_false_iff_eq, Bool.not_eq_false, Bool.not_eq_eq_eq_not, Bool.not_true, Bool.not_false] at hb
    (first | exact absurd trivial hb | exact absurd rfl hb | cases hb | (exfalso; omega) | (simp at hb; done))
  · try simp only [decide_eq_true_eq, decide_eq_false_iff_not, beq_iff_eq, bne_iff_ne, ne_eq, Bool.not_eq_true, beq_eq_false_iff_ne, bne_eq_false_iff_eq, Bool.not_eq_false, Bool.not_eq_eq_eq_not, Bool.not_true, Bool.not_false] at hb
    refine AWp.skip ?_
    try simp only [thenQ, bq, lq, lf, iq, gq, Nat.reduceEqDiff, if_true, if_false]
    refine hG4 _ ?_
    try clear hG4 G4
    refine AWp.grp fun G25 hG25 => ?_
    refine AWp.reg p_law05_CipherHides_3 [] s_law05_CipherHides_3 rfl rfl fun K hK => st_of ?_
    simp only [s_law05_CipherHides_3, wT, Bool.not_eq_true, ty, zr, Nat.reduceAdd, Nat.reduceSub, Nat.reduceMul, Nat.reduceMod, Nat.reduceDiv, Nat.reduceEqDiff, Nat.reduceLeDiff, Nat.reduceBEq, Int.reduceAdd, Int.reduceSub, Int.reduceMul, Int.reduceNeg, Int.reduceLT, Int.reduceLE, Int.reduceEq, Int.reduceNe, Int.reduceBEq, Int.reduceToNat, Int.reduceTDiv, Int.reduceTMod, Int.reduceOfNat, reduceCtorEq, sty, sui]
    try simp (disch := first | omega | (simp only [List.length_set, List.length_replicate, List.length_append, List.length_nil, litP_len, padL_len, xorA_len, flatI_len]; done) | (simp only [List.length_set, List.length_replicate, List.length_append, List.length_nil, litP_len, padL_len, xorA_len, flatI_len]; omega)) only [tn_add, tn_mul, tn_sub, tn_div, tn_mod, Int.toNat_natCast, Int.reduceToNat, wrap_i64', wrap_u64', wrap_u32', wrap_u8', Int.tmod_eq_emod_of_nonneg, Int.tdiv_eq_ediv_of_nonneg, sub_one, sub_all, splice_all, List.length_set, List.length_replicate, List.length_append, List.length_nil, litP_len, padL_len, xorA_len, flatI_len]
    (repeat ((with_reducible refine And.intro ?_ ?_); (first | omega | exact True.intro | with_reducible rfl | decide | assumption | rfl)))
    refine hK _ ?_; clear hK K
    refine AWp.iteE rfl (fun hb => ?_) (fun hb => ?_)
    · try simp only [decide_eq_true_eq, decide_eq_false_iff_not, beq_iff_eq, bne_iff_ne, ne_eq, Bool.not_eq_true, beq_eq_false_iff_ne, bne_eq_false_iff_eq, Bool.not_eq_false, Bool.not_eq_eq_eq_not, Bool.not_true, Bool.not_false] at hb
      exfalso; omega
    · try simp only [decide_eq_true_eq, decide_eq_false_iff_not, beq_iff_eq, bne_iff_ne, ne_eq, Bool.not_eq_true, beq_eq_false_iff_ne, bne_eq_false_iff_eq, Bool.not_eq_false, Bool.not_eq_eq_eq_not, Bool.not_true, Bool.not_false] at hb
      refine AWp.skip ?_
      try simp only [thenQ, bq, lq, lf, iq, gq, Nat.reduceEqDiff, if_true, if_false]
      refine hG25 _ ?_
      try clear hG25 G25
      refine AWp.reg p_law05_CipherHides_5 [] s_law05_CipherHides_5 rfl rfl fun K hK => st_of ?_
      simp only [s_law05_CipherHides_5, wT, Bool.not_eq_true, ty, zr, Nat.reduceAdd, Nat.reduceSub, Nat.reduceMul, Nat.reduceMod, Nat.reduceDiv, Nat.reduceEqDiff, Nat.reduceLeDiff, Nat.reduceBEq, Int.reduceAdd, Int.reduceSub, Int.reduceMul, Int.reduceNeg, Int.reduceLT, Int.reduceLE, Int.reduceEq, Int.reduceNe, Int.reduceBEq, Int.reduceToNat, Int.reduceTDiv, Int.reduceTMod, Int.reduceOfNat, reduceCtorEq, sty, sui]
      try simp (disch := first | omega | (simp only [List.length_set, List.length_replicate, List.length_append, List.length_nil, litP_len, padL_len, xorA_len, flatI_len]; done) | (simp only [List.length_set, List.length_replicate, List.length_append, List.length_nil, litP_len, padL_len, xorA_len, flatI_len]; omega)) only [tn_add, tn_mul, tn_sub, tn_div, tn_mod, Int.toNat_natCast, Int.reduceToNat, wrap_i64', wrap_u64', wrap_u32', wrap_u8', Int.tmod_eq_emod_of_nonneg, Int.tdiv_eq_ediv_of_nonneg, sub_one, sub_all, splice_all, List.length_set, List.length_replicate, List.length_append, List.length_nil, litP_len, padL_len, xorA_len, flatI_len]
      (repeat ((with_reducible refine And.intro ?_ ?_); (first | omega | exact True.intro | with_reducible rfl | decide | assumption | rfl)))
      refine hK _ ?_; clear hK K
      refine AWp.reg p_law05_CipherHides_6 [] s_law05_CipherHides_6 rfl rfl fun K hK => st_of ?_
      simp only [s_law05_CipherHides_6, wT, Bool.not_eq_true, ty, zr, Nat.reduceAdd, Nat.reduceSub, Nat.reduceMul, Nat.reduceMod, Nat.reduceDiv, Nat.reduceEqDiff, Nat.reduceLeDiff, Nat.reduceBEq, Int.reduceAdd, Int.reduceSub, Int.reduceMul, Int.reduceNeg, Int.reduceLT, Int.reduceLE, Int.reduceEq, Int.reduceNe, Int.reduceBEq, Int.reduceToNat, Int.reduceTDiv, Int.reduceTMod, Int.reduceOfNat, reduceCtorEq, sty, sui]
      try simp (disch := first | omega | (simp only [List.length_set, List.length_replicate, List.length_append, List.length_nil, litP_len, padL_len, xorA_len, flatI_len]; done) | (simp only [List.length_set, List.length_replicate, List.length_append, List.length_nil, litP_len, padL_len, xorA_len, flatI_len]; omega)) only [tn_add, tn_mul, tn_sub, tn_div, tn_mod, Int.toNat_natCast, Int.reduceToNat, wrap_i64', wrap_u64', wrap_u32', wrap_u8', Int.tmod_eq_emod_of_nonneg, Int.tdiv_eq_ediv_of_nonneg, sub_one, sub_all, splice_all, List.length_set, List.length_replicate, List.length_append, List.length_nil, litP_len, padL_len, xorA_len, flatI_len]
      simp only [hx, s0, Option.map_some, Row.map, wT, Bool.not_eq_true, ty, zr, Nat.reduceAdd, Nat.reduceSub, Nat.reduceMul, Nat.reduceMod, Nat.reduceDiv, Nat.reduceEqDiff, Nat.reduceLeDiff, Nat.reduceBEq, Int.reduceAdd, Int.reduceSub, Int.reduceMul, Int.reduceNeg, Int.reduceLT, Int.reduceLE, Int.reduceEq, Int.reduceNe, Int.reduceBEq, Int.reduceToNat, Int.reduceTDiv, Int.reduceTMod, Int.reduceOfNat, reduceCtorEq, sty, sui]
      try simp (disch := first | omega | (simp only [List.length_set, List.length_replicate, List.length_append, List.length_nil, litP_len, padL_len, xorA_len, flatI_len]; done) | (simp only [List.length_set, List.length_replicate, List.length_append, List.length_nil, litP_len, padL_len, xorA_len, flatI_len]; omega)) only [tn_add, tn_mul, tn_sub, tn_div, tn_mod, Int.toNat_natCast, Int.reduceToNat, wrap_i64', wrap_u64', wrap_u32', wrap_u8', Int.tmod_eq_emod_of_nonneg, Int.tdiv_eq_ediv_of_nonneg, sub_one, sub_all, splice_all, List.length_set, List.length_replicate, List.length_append, List.length_nil, litP_len, padL_len, xorA_len, flatI_len]
      (repeat ((with_reducible refine And.intro ?_ ?_); (first | omega | exact True.intro | with_reducible rfl | decide | assumption | rfl)))
      refine hK _ ?_; clear hK K
      refine AWp.reg p_law05_CipherHides_7 q_law05_CipherHides_7 s_law05_CipherHides_7 rfl rfl fun K hK => st_of ?_
      simp only [s_law05_CipherHides_7, wT, Bool.not_eq_true, ty, zr, Nat.reduceAdd, Nat.reduceSub, Nat.reduceMul, Nat.reduceMod, Nat.reduceDiv, Nat.reduceEqDiff, Nat.reduceLeDiff, Nat.reduceBEq, Int.reduceAdd, Int.reduceSub, Int.reduceMul, Int.reduceNeg, Int.reduceLT, Int.reduceLE, Int.reduceEq, Int.reduceNe, Int.reduceBEq, Int.reduceToNat, Int.reduceTDiv, Int.reduceTMod, Int.reduceOfNat, reduceCtorEq, sty, sui]
      try simp (disch := first | omega | (simp only [List.length_set, List.length_replicate, List.length_append, List.length_nil, litP_len, padL_len, xorA_len, flatI_len]; done) | (simp only [List.length_set, List.length_replicate, List.length_append, List.length_nil, litP_len, padL_len, xorA_len, flatI_len]; omega)) only [tn_add, tn_mul, tn_sub, tn_div, tn_mod, Int.toNat_natCast, Int.reduceToNat, wrap_i64', wrap_u64', wrap_u32', wrap_u8', Int.tmod_eq_emod_of_nonneg, Int.tdiv_eq_ediv_of_nonneg, sub_one, sub_all, splice_all, List.length_set, List.length_replicate, List.length_append, List.length_nil, litP_len, padL_len, xorA_len, flatI_len]
      (repeat ((with_reducible refine And.intro ?_ ?_); (first | omega | exact True.intro | with_reducible rfl | decide | assumption | rfl)))
      refine st_mcall fun K1 hK1 => ?_
      simp only [calleeC, wT, Bool.not_eq_true, ty, zr, Nat.reduceAdd, Nat.reduceSub, Nat.reduceMul, Nat.reduceMod, Nat.reduceDiv, Nat.reduceEqDiff, Nat.reduceLeDiff, Nat.reduceBEq, Int.reduceAdd, Int.reduceSub, Int.reduceMul, Int.reduceNeg, Int.reduceLT, Int.reduceLE, Int.reduceEq, Int.reduceNe, Int.reduceBEq, Int.reduceToNat, Int.reduceTDiv, Int.reduceTMod, Int.reduceOfNat, reduceCtorEq, sty, sui]
      try simp (disch := first | omega | (simp only [List.length_set, List.length_replicate, List.length_append, List.length_nil, litP_len, padL_len, xorA_len, flatI_len]; done) | (simp only [List.length_set, List.length_replicate, List.length_append, List.length_nil, litP_len, padL_len, xorA_len, flatI_len]; omega)) only [tn_add, tn_mul, tn_sub, tn_div, tn_mod, Int.toNat_natCast, Int.reduceToNat, wrap_i64', wrap_u64', wrap_u32', wrap_u8', Int.tmod_eq_emod_of_nonneg, Int.tdiv_eq_ediv_of_nonneg, sub_one, sub_all, splice_all, List.length_set, List.length_replicate, List.length_append, List.length_nil, litP_len, padL_len, xorA_len, flatI_len]
      refine hK1 _ _ ?_
      clear hK1 K1
      simp only [MutTo, AV.mapL, AV.map, mapL_flat, mapL_flat1]
      refine ⟨[1, 2], [.iface 30 (.agg [.ptr (.own 0) 0, .ptr (.own 1) 0]), .ints .u8 k, .int .u64 n, .slice false (.ext (.ext x)) 0 b.length 1], [some (.ints .i64 [((0 : Nat) : Int)]), some (.ints .i64 [((0 : Nat) : Int)])], _, _, by decide, by simp only [mutRows, mutRow, upM, Row.map, AV.map, AV.mapL, Row.All, AV.All, AV.AllL, inS, mapL_flat, mapL_flat1, allL_flat, allL_flat1]; (repeat' (first | exact trivial | rfl | omega | apply And.intro | simp [mapL_flat, mapL_flat1, allL_flat, allL_flat1])), by simp only [upM, List.map_cons, List.map_nil, AV.map, AV.mapL, mapL_flat, mapL_flat1]; first | done | rfl, by simp only [AV.All, AV.AllL, inS, allL_flat, allL_flat1]; (repeat' (first | exact trivial | rfl | omega | apply And.intro | simp [mapL_flat, mapL_flat1, allL_flat, allL_flat1])), hide_spy _ k n hk _ b b (by simp only [Sy.look, hideM, hx, Option.map_some, Row.map]) _ 0 b.length (by omega) s0 bb 0 0 (by omega), ?_⟩
      simp only [hp, hX, afterM, setM, backM, List.drop_succ_cons, List.drop_zero, List.drop_nil, wT, Bool.not_eq_true, ty, zr, Nat.reduceAdd, Nat.reduceSub, Nat.reduceMul, Nat.reduceMod, Nat.reduceDiv, Nat.reduceEqDiff, Nat.reduceLeDiff, Nat.reduceBEq, Int.reduceAdd, Int.reduceSub, Int.reduceMul, Int.reduceNeg, Int.reduceLT, Int.reduceLE, Int.reduceEq, Int.reduceNe, Int.reduceBEq, Int.reduceToNat, Int.reduceTDiv, Int.reduceTMod, Int.reduceOfNat, reduceCtorEq, sty, sui]
      try simp (disch := first | omega | (simp only [List.length_set, List.length_replicate, List.length_append, List.length_nil, litP_len, padL_len, xorA_len, flatI_len]; done) | (simp only [List.length_set, List.length_replicate, List.length_append, List.length_nil, litP_len, padL_len, xorA_len, flatI_len]; omega)) only [tn_add, tn_mul, tn_sub, tn_div, tn_mod, Int.toNat_natCast, Int.reduceToNat, wrap_i64', wrap_u64', wrap_u32', wrap_u8', Int.tmod_eq_emod_of_nonneg, Int.tdiv_eq_ediv_of_nonneg, sub_one, sub_all, splice_all, List.length_set, List.length_replicate, List.length_append, List.length_nil, litP_len, padL_len, xorA_len, flatI_len]
      (repeat ((with_reducible refine And.intro ?_ ?_); (first | omega | exact True.intro | with_reducible rfl | decide | assumption | rfl)))
      refine hK _ ?_; clear hK K
      refine AWp.grp fun G59 hG59 => ?_
      refine AWp.reg p_law05_CipherHides_8 [] s_law05_CipherHides_8 rfl rfl fun K hK => st_of ?_
      simp only [s_law05_CipherHides_8, wT, Bool.not_eq_true, ty, zr, Nat.reduceAdd, Nat.reduceSub, Nat.reduceMul, Nat.reduceMod, Nat.reduceDiv, Nat.reduceEqDiff, Nat.reduceLeDiff, Nat.reduceBEq, Int.reduceAdd, Int.reduceSub, Int.reduceMul, Int.reduceNeg, Int.reduceLT, Int.reduceLE, Int.reduceEq, Int.reduceNe, Int.reduceBEq, Int.reduceToNat, Int.reduceTDiv, Int.reduceTMod, Int.reduceOfNat, reduceCtorEq, sty, sui]
      try simp (disch := first | omega | (simp only [List.length_set, List.length_replicate, List.length_append, List.length_nil, litP_len, padL_len, xorA_len, flatI_len]; done) | (simp only [List.length_set, List.length_replicate, List.length_append, List.length_nil, litP_len, padL_len, xorA_len, flatI_len]; omega)) only [tn_add, tn_mul, tn_sub, tn_div, tn_mod, Int.toNat_natCast, Int.reduceToNat, wrap_i64', wrap_u64', wrap_u32', wrap_u8', Int.tmod_eq_emod_of_nonneg, Int.tdiv_eq_ediv_of_nonneg, sub_one, sub_all, splice_all, List.length_set, List.length_replicate, List.length_append, List.length_nil, litP_len, padL_len, xorA_len, flatI_len]
      (repeat ((with_reducible refine And.intro ?_ ?_); (first | omega | exact True.intro | with_reducible rfl | decide | assumption | rfl)))
      (repeat ((with_reducible refine And.intro ?_ ?_); (first | omega | exact True.intro | with_reducible rfl | decide | assumption | rfl)))
      refine st_call fun K1 hK1 => ?_
      simp only [calleeC, wT, Bool.not_eq_true, ty, zr, Nat.reduceAdd, Nat.reduceSub, Nat.reduceMul, Nat.reduceMod, Nat.reduceDiv, Nat.reduceEqDiff, Nat.reduceLeDiff, Nat.reduceBEq, Int.reduceAdd, Int.reduceSub, Int.reduceMul, Int.reduceNeg, Int.reduceLT, Int.reduceLE, Int.reduceEq, Int.reduceNe, Int.reduceBEq, Int.reduceToNat, Int.reduceTDiv, Int.reduceTMod, Int.reduceOfNat, reduceCtorEq, sty, sui]
      try simp (disch := first | omega | (simp only [List.length_set, List.length_replicate, List.length_append, List.length_nil, litP_len, padL_len, xorA_len, flatI_len]; done) | (simp only [List.length_set, List.length_replicate, List.length_append, List.length_nil, litP_len, padL_len, xorA_len, flatI_len]; omega)) only [tn_add, tn_mul, tn_sub, tn_div, tn_mod, Int.toNat_natCast, Int.reduceToNat, wrap_i64', wrap_u64', wrap_u32', wrap_u8', Int.tmod_eq_emod_of_nonneg, Int.tdiv_eq_ediv_of_nonneg, sub_one, sub_all, splice_all, List.length_set, List.length_replicate, List.length_append, List.length_nil, litP_len, padL_len, xorA_len, flatI_len]
      refine hK1 _ _ ?_
      clear hK1 K1
      simp only [CallTo, AV.mapL, AV.map, mapL_flat, mapL_flat1]
      refine ⟨_, _, litpad_ok _ k hk n, ?_⟩
      simp only [hp, wT, Bool.not_eq_true, ty, zr, Nat.reduceAdd, Nat.reduceSub, Nat.reduceMul, Nat.reduceMod, Nat.reduceDiv, Nat.reduceEqDiff, Nat.reduceLeDiff, Nat.reduceBEq, Int.reduceAdd, Int.reduceSub, Int.reduceMul, Int.reduceNeg, Int.reduceLT, Int.reduceLE, Int.reduceEq, Int.reduceNe, Int.reduceBEq, Int.reduceToNat, Int.reduceTDiv, Int.reduceTMod, Int.reduceOfNat, reduceCtorEq, sty, sui]
      try simp (disch := first | omega | (simp only [List.length_set, List.length_replicate, List.length_append, List.length_nil, litP_len, padL_len, xorA_len, flatI_len]; done) | (simp only [List.length_set, List.length_replicate, List.length_append, List.length_nil, litP_len, padL_len, xorA_len, flatI_len]; omega)) only [tn_add, tn_mul, tn_sub, tn_div, tn_mod, Int.toNat_natCast, Int.reduceToNat, wrap_i64', wrap_u64', wrap_u32', wrap_u8', Int.tmod_eq_emod_of_nonneg, Int.tdiv_eq_ediv_of_nonneg, sub_one, sub_all, splice_all, List.length_set, List.length_replicate, List.length_append, List.length_nil, litP_len, padL_len, xorA_len, flatI_len]
      (repeat ((with_reducible refine And.intro ?_ ?_); (first | omega | exact True.intro | with_reducible rfl | decide | assumption | rfl)))
      (repeat ((with_reducible refine And.intro ?_ ?_); (first | omega | exact True.intro | with_reducible rfl | decide | assumption | rfl)))
      refine st_call fun K1 hK1 => ?_
      simp only [calleeC, wT, Bool.not_eq_true, ty, zr, Nat.reduceAdd, Nat.reduceSub, Nat.reduceMul, Nat.reduceMod, Nat.reduceDiv, Nat.reduceEqDiff, Nat.reduceLeDiff, Nat.reduceBEq, Int.reduceAdd, Int.reduceSub, Int.reduceMul, Int.reduceNeg, Int.reduceLT, Int.reduceLE, Int.reduceEq, Int.reduceNe, Int.reduceBEq, Int.reduceToNat, Int.reduceTDiv, Int.reduceTMod, Int.reduceOfNat, reduceCtorEq, sty, sui]
      try simp (disch := first | omega | (simp only [List.length_set, List.length_replicate, List.length_append, List.length_nil, litP_len, padL_len, xorA_len, flatI_len]; done) | (simp only [List.length_set, List.length_replicate, List.length_append, List.length_nil, litP_len, padL_len, xorA_len, flatI_len]; omega)) only [tn_add, tn_mul, tn_sub, tn_div, tn_mod, Int.toNat_natCast, Int.reduceToNat, wrap_i64', wrap_u64', wrap_u32', wrap_u8', Int.tmod_eq_emod_of_nonneg, Int.tdiv_eq_ediv_of_nonneg, sub_one, sub_all, splice_all, List.length_set, List.length_replicate, List.length_append, List.length_nil, litP_len, padL_len, xorA_len, flatI_len]
      refine hK1 _ _ ?_
      clear hK1 K1
      simp only [CallTo, AV.mapL, AV.map, mapL_flat, mapL_flat1]
      refine ⟨_, _, hideR_ok _ p lp _ b b (by simp only [Sy.look, hx, Option.map_some, Row.map]) _ 0 b.length (by omega) s0 bb wb wp, ?_⟩
      simp only [hX, wT, Bool.not_eq_true, ty, zr, Nat.reduceAdd, Nat.reduceSub, Nat.reduceMul, Nat.reduceMod, Nat.reduceDiv, Nat.reduceEqDiff, Nat.reduceLeDiff, Nat.reduceBEq, Int.reduceAdd, Int.reduceSub, Int.reduceMul, Int.reduceNeg, Int.reduceLT, Int.reduceLE, Int.reduceEq, Int.reduceNe, Int.reduceBEq, Int.reduceToNat, Int.reduceTDiv, Int.reduceTMod, Int.reduceOfNat, reduceCtorEq, sty, sui]
      try simp (disch := first | omega | (simp only [List.length_set, List.length_replicate, List.length_append, List.length_nil, litP_len, padL_len, xorA_len, flatI_len]; done) | (simp only [List.length_set, List.length_replicate, List.length_append, List.length_nil, litP_len, padL_len, xorA_len, flatI_len]; omega)) only [tn_add, tn_mul, tn_sub, tn_div, tn_mod, Int.toNat_natCast, Int.reduceToNat, wrap_i64', wrap_u64', wrap_u32', wrap_u8', Int.tmod_eq_emod_of_nonneg, Int.tdiv_eq_ediv_of_nonneg, sub_one, sub_all, splice_all, List.length_set, List.length_replicate, List.length_append, List.length_nil, litP_len, padL_len, xorA_len, flatI_len]
      (repeat ((with_reducible refine And.intro ?_ ?_); (first | omega | exact True.intro | with_reducible rfl | decide | assumption | rfl)))
      (repeat ((with_reducible refine And.intro ?_ ?_); (first | omega | exact True.intro | with_reducible rfl | decide | assumption | rfl)))
      refine st_call fun K1 hK1 => ?_
      simp only [calleeC, wT, Bool.not_eq_true, ty, zr, Nat.reduceAdd, Nat.reduceSub, Nat.reduceMul, Nat.reduceMod, Nat.reduceDiv, Nat.reduceEqDiff, Nat.reduceLeDiff, Nat.reduceBEq, Int.reduceAdd, Int.reduceSub, Int.reduceMul, Int.reduceNeg, Int.reduceLT, Int.reduceLE, Int.reduceEq, Int.reduceNe, Int.reduceBEq, Int.reduceToNat, Int.reduceTDiv, Int.reduceTMod, Int.reduceOfNat, reduceCtorEq, sty, sui]
      try simp (disch := first | omega | (simp only [List.length_set, List.length_replicate, List.length_append, List.length_nil, litP_len, padL_len, xorA_len, flatI_len]; done) | (simp only [List.length_set, List.length_replicate, List.length_append, List.length_nil, litP_len, padL_len, xorA_len, flatI_len]; omega)) only [tn_add, tn_mul, tn_sub, tn_div, tn_mod, Int.toNat_natCast, Int.reduceToNat, wrap_i64', wrap_u64', wrap_u32', wrap_u8', Int.tmod_eq_emod_of_nonneg, Int.tdiv_eq_ediv_of_nonneg, sub_one, sub_all, splice_all, List.length_set, List.length_replicate, List.length_append, List.length_nil, litP_len, padL_len, xorA_len, flatI_len]
      refine hK1 _ _ ?_
      clear hK1 K1
      simp only [CallTo, AV.mapL, AV.map, mapL_flat, mapL_flat1]
      refine ⟨_, _, same1_ok _ _ _ X X rfl rfl _ _ 0 b.length 0 b.length (by omega) (by omega) (by omega) (by omega), ?_⟩
      simp only [sX, wT, Bool.not_eq_true, ty, zr, Nat.reduceAdd, Nat.reduceSub, Nat.reduceMul, Nat.reduceMod, Nat.reduceDiv, Nat.reduceEqDiff, Nat.reduceLeDiff, Nat.reduceBEq, Int.reduceAdd, Int.reduceSub, Int.reduceMul, Int.reduceNeg, Int.reduceLT, Int.reduceLE, Int.reduceEq, Int.reduceNe, Int.reduceBEq, Int.reduceToNat, Int.reduceTDiv, Int.reduceTMod, Int.reduceOfNat, reduceCtorEq, sty, sui]
      try simp (disch := first | omega | (simp only [List.length_set, List.length_replicate, List.length_append, List.length_nil, litP_len, padL_len, xorA_len, flatI_len]; done) | (simp only [List.length_set, List.length_replicate, List.length_append, List.length_nil, litP_len, padL_len, xorA_len, flatI_len]; omega)) only [tn_add, tn_mul, tn_sub, tn_div, tn_mod, Int.toNat_natCast, Int.reduceToNat, wrap_i64', wrap_u64', wrap_u32', wrap_u8', Int.tmod_eq_emod_of_nonneg, Int.tdiv_eq_ediv_of_nonneg, sub_one, sub_all, splice_all, List.length_set, List.length_replicate, List.length_append, List.length_nil, litP_len, padL_len, xorA_len, flatI_len]
      refine ⟨by decide, by decide, fun h => absurd h (by decide), fun _ => ?_⟩
      (repeat ((with_reducible refine And.intro ?_ ?_); (first | omega | exact True.intro | with_reducible rfl | decide | assumption | rfl)))
      (repeat ((with_reducible refine And.intro ?_ ?_); (first | omega | exact True.intro | with_reducible rfl | decide | assumption | rfl)))
      refine st_call fun K1 hK1 => ?_
      simp only [calleeC, wT, Bool.not_eq_true, ty, zr, Nat.reduceAdd, Nat.reduceSub, Nat.reduceMul, Nat.reduceMod, Nat.reduceDiv, Nat.reduceEqDiff, Nat.reduceLeDiff, Nat.reduceBEq, Int.reduceAdd, Int.reduceSub, Int.reduceMul, Int.reduceNeg, Int.reduceLT, Int.reduceLE, Int.reduceEq, Int.reduceNe, Int.reduceBEq, Int.reduceToNat, Int.reduceTDiv, Int.reduceTMod, Int.reduceOfNat, reduceCtorEq, sty, sui]
      try simp (disch := first | omega | (simp only [List.length_set, List.length_replicate, List.length_append, List.length_nil, litP_len, padL_len, xorA_len, flatI_len]; done) | (simp only [List.length_set, List.length_replicate, List.length_append, List.length_nil, litP_len, padL_len, xorA_len, flatI_len]; omega)) only [tn_add, tn_mul, tn_sub, tn_div, tn_mod, Int.toNat_natCast, Int.reduceToNat, wrap_i64', wrap_u64', wrap_u32', wrap_u8', Int.tmod_eq_emod_of_nonneg, Int.tdiv_eq_ediv_of_nonneg, sub_one, sub_all, splice_all, List.length_set, List.length_replicate, List.length_append, List.length_nil, litP_len, padL_len, xorA_len, flatI_len]
      refine hK1 _ _ ?_
      clear hK1 K1
      simp only [CallTo, AV.mapL, AV.map, mapL_flat, mapL_flat1]
      refine ⟨_, _, hide_none _ k n _ hk, ?_⟩
      simp only [wT, Bool.not_eq_true, ty, zr, Nat.reduceAdd, Nat.reduceSub, Nat.reduceMul, Nat.reduceMod, Nat.reduceDiv, Nat.reduceEqDiff, Nat.reduceLeDiff, Nat.reduceBEq, Int.reduceAdd, Int.reduceSub, Int.reduceMul, Int.reduceNeg, Int.reduceLT, Int.reduceLE, Int.reduceEq, Int.reduceNe, Int.reduceBEq, Int.reduceToNat, Int.reduceTDiv, Int.reduceTMod, Int.reduceOfNat, reduceCtorEq, sty, sui]
      try simp (disch := first | omega | (simp only [List.length_set, List.length_replicate, List.length_append, List.length_nil, litP_len, padL_len, xorA_len, flatI_len]; done) | (simp only [List.length_set, List.length_replicate, List.length_append, List.length_nil, litP_len, padL_len, xorA_len, flatI_len]; omega)) only [tn_add, tn_mul, tn_sub, tn_div, tn_mod, Int.toNat_natCast, Int.reduceToNat, wrap_i64', wrap_u64', wrap_u32', wrap_u8', Int.tmod_eq_emod_of_nonneg, Int.tdiv_eq_ediv_of_nonneg, sub_one, sub_all, splice_all, List.length_set, List.length_replicate, List.length_append, List.length_nil, litP_len, padL_len, xorA_len, flatI_len]
      (repeat ((with_reducible refine And.intro ?_ ?_); (first | omega | exact True.intro | with_reducible rfl | decide | assumption | rfl)))
      refine hK _ ?_; clear hK K
      refine AWp.iteE rfl (fun hb => ?_) (fun hb => ?_)
      · try simp only [decide_eq_true_eq, decide_eq_false_iff_not, beq_iff_eq, bne_iff_ne, ne_eq, Bool.not_eq_true, beq_eq_false_iff_ne, bne_eq_false_iff_eq, Bool.not_eq_false, Bool.not_eq_eq_eq_not, Bool.not_true, Bool.not_false] at hb
        (first | exact absurd trivial hb | exact absurd rfl hb | cases hb | (exfalso; omega) | (simp at hb; done))
      · try simp only [decide_eq_true_eq, decide_eq_false_iff_not, beq_iff_eq, bne_iff_ne, ne_eq, Bool.not_eq_true, beq_eq_false_iff_ne, bne_eq_false_iff_eq, Bool.not_eq_false, Bool.not_eq_eq_eq_not, Bool.not_true, Bool.not_false] at hb
        refine AWp.skip ?_
        try simp only [thenQ, bq, lq, lf, iq, gq, Nat.reduceEqDiff, if_true, if_false]
        refine hG59 _ ?_
        try clear hG59 G59
        refine AWp.grp fun G109 hG109 => ?_
        refine AWp.reg p_law05_CipherHides_10 [] s_law05_CipherHides_10 rfl rfl fun K hK => st_of ?_
        simp only [s_law05_CipherHides_10, wT, Bool.not_eq_true, ty, zr, Nat.reduceAdd, Nat.reduceSub, Nat.reduceMul, Nat.reduceMod, Nat.reduceDiv, Nat.reduceEqDiff, Nat.reduceLeDiff, Nat.reduceBEq, Int.reduceAdd, Int.reduceSub, Int.reduceMul, Int.reduceNeg, Int.reduceLT, Int.reduceLE, Int.reduceEq, Int.reduceNe, Int.reduceBEq, Int.reduceToNat, Int.reduceTDiv, Int.reduceTMod, Int.reduceOfNat, reduceCtorEq, sty, sui]
        try simp (disch := first | omega | (simp only [List.length_set, List.length_replicate, List.length_append, List.length_nil, litP_len, padL_len, xorA_len, flatI_len]; done) | (simp only [List.length_set, List.length_replicate, List.length_append, List.length_nil, litP_len, padL_len, xorA_len, flatI_len]; omega)) only [tn_add, tn_mul, tn_sub, tn_div, tn_mod, Int.toNat_natCast, Int.reduceToNat, wrap_i64', wrap_u64', wrap_u32', wrap_u8', Int.tmod_eq_emod_of_nonneg, Int.tdiv_eq_ediv_of_nonneg, sub_one, sub_all, splice_all, List.length_set, List.length_replicate, List.length_append, List.length_nil, litP_len, padL_len, xorA_len, flatI_len]
        (repeat ((with_reducible refine And.intro ?_ ?_); (first | omega | exact True.intro | with_reducible rfl | decide | assumption | rfl)))
        refine hK _ ?_; clear hK K
        refine AWp.lopX (fun i => ⟨[(2, .slice false (.ext x) 0 b.length 1), (9, .slice true (.own 4) 0 b.length 1), (10, .slice true (.own 5) 0 b.length 1), (11, .int .i64 i)], [none, none, none, none, some (.ints .u8 b), some (.ints .u8 (incT X i))]⟩) (b.length) ?_ fun X0 hX0 i hn0 => ?_
        · simp only [incT_zero]
          exact Le.of (by first | exact Nat.zero_le _ | simp) (by simp only [leTm, tget, AV.All, AV.AllL, inS, Nat.reduceEqDiff, if_true, if_false]; repeat' (first | exact trivial | rfl | assumption | apply And.intro | simp [mapL_flat, mapL_flat1, allL_flat, allL_flat1])) (by simp only [leRows, Row.All, AV.AllL, AV.All, inS]; repeat' (first | exact trivial | rfl | assumption | apply And.intro | simp [mapL_flat, mapL_flat1, allL_flat, allL_flat1]))
        have hw := incT_len X i
        refine AWp.grp fun G118 hG118 => ?_
        refine AWp.reg p_law05_CipherHides_11 [] s_law05_CipherHides_11 rfl rfl fun K hK => st_of ?_
        simp only [s_law05_CipherHides_11, wT, Bool.not_eq_true, ty, zr, Nat.reduceAdd, Nat.reduceSub, Nat.reduceMul, Nat.reduceMod, Nat.reduceDiv, Nat.reduceEqDiff, Nat.reduceLeDiff, Nat.reduceBEq, Int.reduceAdd, Int.reduceSub, Int.reduceMul, Int.reduceNeg, Int.reduceLT, Int.reduceLE, Int.reduceEq, Int.reduceNe, Int.reduceBEq, Int.reduceToNat, Int.reduceTDiv, Int.reduceTMod, Int.reduceOfNat, reduceCtorEq, sty, sui]
        try simp (disch := first | omega | (simp only [List.length_set, List.length_replicate, List.length_append, List.length_nil, litP_len, padL_len, xorA_len, flatI_len]; done) | (simp only [List.length_set, List.length_replicate, List.length_append, List.length_nil, litP_len, padL_len, xorA_len, flatI_len]; omega)) only [tn_add, tn_mul, tn_sub, tn_div, tn_mod, Int.toNat_natCast, Int.reduceToNat, wrap_i64', wrap_u64', wrap_u32', wrap_u8', Int.tmod_eq_emod_of_nonneg, Int.tdiv_eq_ediv_of_nonneg, sub_one, sub_all, splice_all, List.length_set, List.length_replicate, List.length_append, List.length_nil, litP_len, padL_len, xorA_len, flatI_len]
        (repeat ((with_reducible refine And.intro ?_ ?_); (first | omega | exact True.intro | with_reducible rfl | decide | assumption | rfl)))
        refine hK _ ?_; clear hK K
        refine AWp.testE rfl (fun hb => ?_) (fun hb => ?_)
        · try simp only [decide_eq_true_eq, decide_eq_false_iff_not, beq_iff_eq, bne_iff_ne, ne_eq, Bool.not_eq_true, beq_eq_false_iff_ne, bne_eq_false_iff_eq, Bool.not_eq_false, Bool.not_eq_eq_eq_not, Bool.not_true, Bool.not_false] at hb
          try simp only [thenQ, bq, lq, lf, iq, gq, Nat.reduceEqDiff, if_true, if_false]
          refine hG118 _ ?_
          try clear hG118 G118
          refine AWp.blk fun Y1 hY1 => ?_
          refine AWp.regE p_law05_CipherHides_13 [] s_law05_CipherHides_13 rfl rfl (st_of ?_)
          simp only [s_law05_CipherHides_13, wT, Bool.not_eq_true, ty, zr, Nat.reduceAdd, Nat.reduceSub, Nat.reduceMul, Nat.reduceMod, Nat.reduceDiv, Nat.reduceEqDiff, Nat.reduceLeDiff, Nat.reduceBEq, Int.reduceAdd, Int.reduceSub, Int.reduceMul, Int.reduceNeg, Int.reduceLT, Int.reduceLE, Int.reduceEq, Int.reduceNe, Int.reduceBEq, Int.reduceToNat, Int.reduceTDiv, Int.reduceTMod, Int.reduceOfNat, reduceCtorEq, sty, sui]
          try simp (disch := first | omega | (simp only [List.length_set, List.length_replicate, List.length_append, List.length_nil, litP_len, padL_len, xorA_len, flatI_len]; done) | (simp only [List.length_set, List.length_replicate, List.length_append, List.length_nil, litP_len, padL_len, xorA_len, flatI_len]; omega)) only [tn_add, tn_mul, tn_sub, tn_div, tn_mod, Int.toNat_natCast, Int.reduceToNat, wrap_i64', wrap_u64', wrap_u32', wrap_u8', Int.tmod_eq_emod_of_nonneg, Int.tdiv_eq_ediv_of_nonneg, sub_one, sub_all, splice_all, List.length_set, List.length_replicate, List.length_append, List.length_nil, litP_len, padL_len, xorA_len, flatI_len]
          (repeat ((with_reducible refine And.intro ?_ ?_); (first | omega | exact True.intro | with_reducible rfl | decide | assumption | rfl)))
          try simp only [thenQ, bq, lq, lf, iq, gq, Nat.reduceEqDiff, if_true, if_false]
          refine hY1 _ ?_
          try clear hY1 Y1
          refine AWp.regE p_law05_CipherHides_12 [] s_law05_CipherHides_12 rfl rfl (st_of ?_)
          simp only [s_law05_CipherHides_12, wT, Bool.not_eq_true, ty, zr, Nat.reduceAdd, Nat.reduceSub, Nat.reduceMul, Nat.reduceMod, Nat.reduceDiv, Nat.reduceEqDiff, Nat.reduceLeDiff, Nat.reduceBEq, Int.reduceAdd, Int.reduceSub, Int.reduceMul, Int.reduceNeg, Int.reduceLT, Int.reduceLE, Int.reduceEq, Int.reduceNe, Int.reduceBEq, Int.reduceToNat, Int.reduceTDiv, Int.reduceTMod, Int.reduceOfNat, reduceCtorEq, sty, sui]
          try simp (disch := first | omega | (simp only [List.length_set, List.length_replicate, List.length_append, List.length_nil, litP_len, padL_len, xorA_len, flatI_len]; done) | (simp only [List.length_set, List.length_replicate, List.length_append, List.length_nil, litP_len, padL_len, xorA_len, flatI_len]; omega)) only [tn_add, tn_mul, tn_sub, tn_div, tn_mod, Int.toNat_natCast, Int.reduceToNat, wrap_i64', wrap_u64', wrap_u32', wrap_u8', Int.tmod_eq_emod_of_nonneg, Int.tdiv_eq_ediv_of_nonneg, sub_one, sub_all, splice_all, List.length_set, List.length_replicate, List.length_append, List.length_nil, litP_len, padL_len, xorA_len, flatI_len]
          (repeat ((with_reducible refine And.intro ?_ ?_); (first | omega | exact True.intro | with_reducible rfl | decide | assumption | rfl)))
          try simp only [thenQ, bq, lq, lf, iq, gq, Nat.reduceEqDiff, if_true, if_false]
          simp only [incT_succ]
          first | exact ⟨by omega, Le.of (by first | exact Nat.zero_le _ | simp) (by simp only [leTm, tget, AV.All, AV.AllL, inS, Nat.reduceEqDiff, if_true, if_false]; repeat' (first | exact trivial | rfl | assumption | apply And.intro | simp [mapL_flat, mapL_flat1, allL_flat, allL_flat1])) (by simp only [leRows, Row.All, AV.AllL, AV.All, inS]; repeat' (first | exact trivial | rfl | assumption | apply And.intro | simp [mapL_flat, mapL_flat1, allL_flat, allL_flat1]))⟩ | exact Le.of (by first | exact Nat.zero_le _ | simp) (by simp only [leTm, tget, AV.All, AV.AllL, inS, Nat.reduceEqDiff, if_true, if_false]; repeat' (first | exact trivial | rfl | assumption | apply And.intro | simp [mapL_flat, mapL_flat1, allL_flat, allL_flat1])) (by simp only [leRows, Row.All, AV.AllL, AV.All, inS]; repeat' (first | exact trivial | rfl | assumption | apply And.intro | simp [mapL_flat, mapL_flat1, allL_flat, allL_flat1]))
        · try simp only [decide_eq_true_eq, decide_eq_false_iff_not, beq_iff_eq, bne_iff_ne, ne_eq, Bool.not_eq_true, beq_eq_false_iff_ne, bne_eq_false_iff_eq, Bool.not_eq_false, Bool.not_eq_eq_eq_not, Bool.not_true, Bool.not_false] at hb
          try simp only [thenQ, bq, lq, lf, iq, gq, Nat.reduceEqDiff, if_true, if_false]
          refine hX0 _ ?_
          try clear hX0 X0
          obtain rfl : i = b.length := by omega
          try simp only [thenQ, bq, lq, lf, iq, gq, Nat.reduceEqDiff, if_true, if_false]
          refine hG109 _ ?_
          try clear hG109 G109
          refine AWp.reg p_law05_CipherHides_14 [] s_law05_CipherHides_14 rfl rfl fun K hK => st_of ?_
          simp only [s_law05_CipherHides_14, wT, Bool.not_eq_true, ty, zr, Nat.reduceAdd, Nat.reduceSub, Nat.reduceMul, Nat.reduceMod, Nat.reduceDiv, Nat.reduceEqDiff, Nat.reduceLeDiff, Nat.reduceBEq, Int.reduceAdd, Int.reduceSub, Int.reduceMul, Int.reduceNeg, Int.reduceLT, Int.reduceLE, Int.reduceEq, Int.reduceNe, Int.reduceBEq, Int.reduceToNat, Int.reduceTDiv, Int.reduceTMod, Int.reduceOfNat, reduceCtorEq, sty, sui]
          try simp (disch := first | omega | (simp only [List.length_set, List.length_replicate, List.length_append, List.length_nil, litP_len, padL_len, xorA_len, flatI_len]; done) | (simp only [List.length_set, List.length_replicate, List.length_append, List.length_nil, litP_len, padL_len, xorA_len, flatI_len]; omega)) only [tn_add, tn_mul, tn_sub, tn_div, tn_mod, Int.toNat_natCast, Int.reduceToNat, wrap_i64', wrap_u64', wrap_u32', wrap_u8', Int.tmod_eq_emod_of_nonneg, Int.tdiv_eq_ediv_of_nonneg, sub_one, sub_all, splice_all, List.length_set, List.length_replicate, List.length_append, List.length_nil, litP_len, padL_len, xorA_len, flatI_len]
          (repeat ((with_reducible refine And.intro ?_ ?_); (first | omega | exact True.intro | with_reducible rfl | decide | assumption | rfl)))
          refine st_call fun K1 hK1 => ?_
          simp only [calleeC, wT, Bool.not_eq_true, ty, zr, Nat.reduceAdd, Nat.reduceSub, Nat.reduceMul, Nat.reduceMod, Nat.reduceDiv, Nat.reduceEqDiff, Nat.reduceLeDiff, Nat.reduceBEq, Int.reduceAdd, Int.reduceSub, Int.reduceMul, Int.reduceNeg, Int.reduceLT, Int.reduceLE, Int.reduceEq, Int.reduceNe, Int.reduceBEq, Int.reduceToNat, Int.reduceTDiv, Int.reduceTMod, Int.reduceOfNat, reduceCtorEq, sty, sui]
          try simp (disch := first | omega | (simp only [List.length_set, List.length_replicate, List.length_append, List.length_nil, litP_len, padL_len, xorA_len, flatI_len]; done) | (simp only [List.length_set, List.length_replicate, List.length_append, List.length_nil, litP_len, padL_len, xorA_len, flatI_len]; omega)) only [tn_add, tn_mul, tn_sub, tn_div, tn_mod, Int.toNat_natCast, Int.reduceToNat, wrap_i64', wrap_u64', wrap_u32', wrap_u8', Int.tmod_eq_emod_of_nonneg, Int.tdiv_eq_ediv_of_nonneg, sub_one, sub_all, splice_all, List.length_set, List.length_replicate, List.length_append, List.length_nil, litP_len, padL_len, xorA_len, flatI_len]
          refine hK1 _ _ ?_
          clear hK1 K1
          simp only [CallTo, AV.mapL, AV.map, mapL_flat, mapL_flat1]
          refine ⟨_, _, same1_ok _ _ _ b b (by simp only [Sy.look, hx, Option.map_some, Row.map]) rfl _ _ 0 b.length 0 b.length (by omega) (by omega) (by omega) (by omega), ?_⟩
          simp only [s0, wT, Bool.not_eq_true, ty, zr, Nat.reduceAdd, Nat.reduceSub, Nat.reduceMul, Nat.reduceMod, Nat.reduceDiv, Nat.reduceEqDiff, Nat.reduceLeDiff, Nat.reduceBEq, Int.reduceAdd, Int.reduceSub, Int.reduceMul, Int.reduceNeg, Int.reduceLT, Int.reduceLE, Int.reduceEq, Int.reduceNe, Int.reduceBEq, Int.reduceToNat, Int.reduceTDiv, Int.reduceTMod, Int.reduceOfNat, reduceCtorEq, sty, sui]
          try simp (disch := first | omega | (simp only [List.length_set, List.length_replicate, List.length_append, List.length_nil, litP_len, padL_len, xorA_len, flatI_len]; done) | (simp only [List.length_set, List.length_replicate, List.length_append, List.length_nil, litP_len, padL_len, xorA_len, flatI_len]; omega)) only [tn_add, tn_mul, tn_sub, tn_div, tn_mod, Int.toNat_natCast, Int.reduceToNat, wrap_i64', wrap_u64', wrap_u32', wrap_u8', Int.tmod_eq_emod_of_nonneg, Int.tdiv_eq_ediv_of_nonneg, sub_one, sub_all, splice_all, List.length_set, List.length_replicate, List.length_append, List.length_nil, litP_len, padL_len, xorA_len, flatI_len]
          (repeat ((with_reducible refine And.intro ?_ ?_); (first | omega | exact True.intro | with_reducible rfl | decide | assumption | rfl)))
          refine hK _ ?_; clear hK K
          refine AWp.ret ?_
          try simp only [thenQ, bq, lq, lf, iq, gq, Nat.reduceEqDiff, if_true, if_false]
          simp only [endQ, rs_law05_CipherHides, resC, one, wT, Bool.not_eq_true, ty, zr, Nat.reduceAdd, Nat.reduceSub, Nat.reduceMul, Nat.reduceMod, Nat.reduceDiv, Nat.reduceEqDiff, Nat.reduceLeDiff, Nat.reduceBEq, Int.reduceAdd, Int.reduceSub, Int.reduceMul, Int.reduceNeg, Int.reduceLT, Int.reduceLE, Int.reduceEq, Int.reduceNe, Int.reduceBEq, Int.reduceToNat, Int.reduceTDiv, Int.reduceTMod, Int.reduceOfNat, reduceCtorEq, sty, sui]
          try simp (disch := first | omega | (simp only [List.length_set, List.length_replicate, List.length_append, List.length_nil, litP_len, padL_len, xorA_len, flatI_len]; done) | (simp only [List.length_set, List.length_replicate, List.length_append, List.length_nil, litP_len, padL_len, xorA_len, flatI_len]; omega)) only [tn_add, tn_mul, tn_sub, tn_div, tn_mod, Int.toNat_natCast, Int.reduceToNat, wrap_i64', wrap_u64', wrap_u32', wrap_u8', Int.tmod_eq_emod_of_nonneg, Int.tdiv_eq_ediv_of_nonneg, sub_one, sub_all, splice_all, List.length_set, List.length_replicate, List.length_append, List.length_nil, litP_len, padL_len, xorA_len, flatI_len]
          repeat' (first | exact True.intro | (with_reducible rfl) | (with_reducible apply And.intro) | omega | rfl)
theorem law_ins (ins : List In) (h : insFit Try.prog [23, 24, 25] ins) : FnOk Try.prog 3 (insE ins) (insAv 0 ins) [] (.bool true) [] := by
  match ins, h with
  | [i0, i1, i2], h =>
    obtain ⟨k, rfl, hk, wk⟩ := fits_arr Try.underlying23 Try.underlying5 h.1
    obtain ⟨n, rfl, wn⟩ := fits_int Try.underlying24 h.2.1
    obtain ⟨b, rfl, hb, wb⟩ := fits_slc Try.underlying25 Try.underlying5 h.2.2.1
    have bb : b.length ≤ 140737488351232 := (by have e : Try.prog.bytesOf 5 = 1 := (by kernel_rfl); have := reach_lt; rw [e] at hb; omega)
    by_cases h1 : 100 < b.length
    · exact law_long _ k hk n 2 b h1
    · by_cases h2 : 32 < b.length
      · exact law_mid _ k hk n 2 b rfl h2 (by omega)
      · exact law_ok _ k hk n 2 b rfl (fun i => wfl_u8 wb i) (by omega)
open Go.ChangeShapes Go.WideShapes Go.ChangeAt Go.RowKit
theorem own : ownKnob Try.prog.godebug = none := by kernel_rfl
theorem laidOut : laidOutB Try.prog = true := by kernel_rfl
set_option maxRecDepth 100000 in
theorem lifted (os : Os) (started : os.Started) (H : Type) (enc : TypeId × Value → H) :
    ReturnsInHanded {} Try.checked os 3 .any (Rows.cipherHidesSpec.pre6 enc Try.prog Try.f3 Rows.cipherHidesRow.domain false) (Rows.cipherHidesSpec.post enc Try.prog Try.f3 false true false false) := by
  refine returnsInHanded_of_change_sized (C := Try.checked) own started (by kernel_rfl) Try.func3
    (ChangeSpec.witness6 (enc := enc) (C := Try.checked) false ⟨#[], #[.agg #[.int .u8 0, .int .u8 0, .int .u8 0, .int .u8 0, .int .u8 0, .int .u8 0, .int .u8 0, .int .u8 0, .int .u8 0, .int .u8 0, .int .u8 0, .int .u8 0, .int .u8 0, .int .u8 0, .int .u8 0, .int .u8 0, .int .u8 0, .int .u8 0, .int .u8 0, .int .u8 0, .int .u8 0, .int .u8 0, .int .u8 0, .int .u8 0, .int .u8 0, .int .u8 0, .int .u8 0, .int .u8 0, .int .u8 0, .int .u8 0, .int .u8 0, .int .u8 0], .int .u64 0, .slice none 0 0], []⟩ 8 (by kernel_rfl) (by kernel_rfl) (by kernel_rfl) (by kernel_rfl)) ?_
  intro W base args ds gs before hval0 hW hcnd hsz _
  have hW' := hW
  obtain ⟨p, q, hA, hV, rfl, hfz, hnd⟩ := hW
  obtain ⟨rfl, rfl⟩ := trodVars_none hV
  have hA2 := hA
  rw [Try.params3] at hA2
  obtain ⟨ins, hfit, hins⟩ := open_all (P := Try.prog) (W := W) (ts := Try.f3.params.toList) (r := .any) (b0 := base) (by kernel_rfl)
    (fun j t v h1 h2 => hval0 j t v (by simpa using h1) (by simpa using h2))
    (fun j t d h1 h2 => sized_any hsz h1 h2) hA
  rw [Try.params3] at hfit
  obtain ⟨v0, vs0, d0, ds0, p0, q0, ha0, rfl, hp0, k0, r0⟩ := trodAll_cons hA2
  obtain ⟨v1, vs1, d1, ds1, p1, q1, ha1, rfl, hp1, k1, r1⟩ := trodAll_cons r0
  obtain ⟨v2, vs2, d2, ds2, p2, q2, ha2, rfl, hp2, k2, r2⟩ := trodAll_cons r1
  obtain ⟨_, rfl, _⟩ := trodAll_nil r2
  refine (law_calls (law_ins ins hfit) trivial hins).mono fun e W' ⟨v, he, hv, bel⟩ => ?_
  cases hv
  subst he
  exact ⟨_, rfl, _, _, _, [], _, [], hW', trodAll_mk1 (shut_bool Try.underlying4 _), shut_all laidOut bel (by kernel_rfl) hA, rfl, bel.frame _, fun h => by cases h⟩

theorem over : Rows.cipherHidesRow.holds Try.pinned (OpenSpec.ofChange Rows.cipherHidesSpec) :=
  OpenClaim.holds_of_wide 3 Try.f3 rfl rfl rfl rfl rfl rfl rfl ⟨rfl, rfl, rfl, rfl, rfl⟩ rfl rfl rfl rfl rfl (by kernel_rfl) Try.func3 (by kernel_rfl)
    (of_decide_eq_true (by kernel_rfl)) (by unfold Func.isWrapper; first | (rw [if_pos (by decide +kernel)]; kernel_rfl) | (rw [if_neg (by decide +kernel)]; exact ⟨rfl, rfl⟩))
    (fun os started H enc _ => lifted os started H enc)

/-- The statement. -/
theorem proved : Rows.CipherHidesSaid := over
end Go.Proofs.Ytbnjeafjnglldaa
