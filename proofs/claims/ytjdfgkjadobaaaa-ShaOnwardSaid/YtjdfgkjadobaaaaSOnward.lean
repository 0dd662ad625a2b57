/-
  PROVED: 'erewhilelaw03.ShaOnward' returns true for every input and leaves its arguments as they were. No condition.
-/
import Derived.Test.YtjdfgkjadobaaaaSha3
import Derived.Test.YtjdfgkjadobaaaaShaQ
import Derived.Test.YtjdfgkjadobaaaaRows
import Derived.WalkKit
import Derived.ProofKit
namespace Go.Proofs.Ytjdfgkjadobaaaa
open Go Go.Proofs.Ytjdfgkjadobaaaa.Sy
set_option linter.unusedSimpArgs false
set_option linter.unusedVariables false
set_option maxRecDepth 100000
set_option maxHeartbeats 4000000


theorem law_long {α : Type} (E : α → Option (Row α)) (x y : α) (a b : List Int) (hl : 300 < a.length ∨ 300 < b.length) :
    FnOk Try.prog n_law03_ShaOnward E [.slice false (.ext x) 0 a.length 1, .slice false (.ext y) 0 b.length 1] [] (.bool true) [] := by
  refine FnOk.pure func_law03_ShaOnward call_law03_ShaOnward (body := _) rfl nt_law03_ShaOnward (by simp) (by simp [AV.solid, AV.solidL]) ?_
  refine AWp.reg p_law03_ShaOnward_0 [] s_law03_ShaOnward_0 rfl rfl fun K hK => st_of ?_
  simp only [s_law03_ShaOnward_0, wT, Bool.not_eq_true, ty, zr, Nat.reduceAdd, Nat.reduceSub, Nat.reduceMul, Nat.reduceMod, Nat.reduceDiv, Nat.reduceEqDiff, Nat.reduceLeDiff, Nat.reduceBEq, Int.reduceAdd, Int.reduceSub, Int.reduceMul, Int.reduceNeg, Int.reduceLT, Int.reduceLE, Int.reduceEq, Int.reduceNe, Int.reduceBEq, Int.reduceToNat, Int.reduceTDiv, Int.reduceTMod, Int.reduceOfNat, reduceCtorEq, sty]
  try simp (disch := first | omega | (simp only [List.length_set, List.length_append, List.length_nil, List.length_replicate, outS_len, hwN_len, sumL_len]; done) | (simp only [List.length_set, List.length_append, List.length_nil, List.length_replicate, outS_len, hwN_len, sumL_len]; omega)) only [tn_add, tn_mul, tn_sub, tn_div, tn_mod, Int.toNat_natCast, Int.reduceToNat, wrap_i64', wrap_u64', wrap_u32', wrap_u8', Int.tmod_eq_emod_of_nonneg, Int.tdiv_eq_ediv_of_nonneg, sub_one, sub_all, splice_all, List.length_set, List.length_append, List.length_nil, List.length_replicate, outS_len, hwN_len, sumL_len]
  (repeat ((with_reducible refine And.intro ?_ ?_); (first | omega | exact True.intro | assumption | rfl)))
  refine hK _ ?_; clear hK K
  refine AWp.grp fun G4 hG4 => ?_
  refine AWp.reg p_law03_ShaOnward_1 [] s_law03_ShaOnward_1 rfl rfl fun K hK => st_of ?_
  simp only [s_law03_ShaOnward_1, wT, Bool.not_eq_true, ty, zr, Nat.reduceAdd, Nat.reduceSub, Nat.reduceMul, Nat.reduceMod, Nat.reduceDiv, Nat.reduceEqDiff, Nat.reduceLeDiff, Nat.reduceBEq, Int.reduceAdd, Int.reduceSub, Int.reduceMul, Int.reduceNeg, Int.reduceLT, Int.reduceLE, Int.reduceEq, Int.reduceNe, Int.reduceBEq, Int.reduceToNat, Int.reduceTDiv, Int.reduceTMod, Int.reduceOfNat, reduceCtorEq, sty]
  try simp (disch := first | omega | (simp only [List.length_set, List.length_append, List.length_nil, List.length_replicate, outS_len, hwN_len, sumL_len]; done) | (simp only [List.length_set, List.length_append, List.length_nil, List.length_replicate, outS_len, hwN_len, sumL_len]; omega)) only [tn_add, tn_mul, tn_sub, tn_div, tn_mod, Int.toNat_natCast, Int.reduceToNat, wrap_i64', wrap_u64', wrap_u32', wrap_u8', Int.tmod_eq_emod_of_nonneg, Int.tdiv_eq_ediv_of_nonneg, sub_one, sub_all, splice_all, List.length_set, List.length_append, List.length_nil, List.length_replicate, outS_len, hwN_len, sumL_len]
  (repeat ((with_reducible refine And.intro ?_ ?_); (first | omega | exact True.intro | assumption | rfl)))
  refine st_call fun K1 hK1 => ?_
  simp only [calleeC, wT, Bool.not_eq_true, ty, zr, Nat.reduceAdd, Nat.reduceSub, Nat.reduceMul, Nat.reduceMod, Nat.reduceDiv, Nat.reduceEqDiff, Nat.reduceLeDiff, Nat.reduceBEq, Int.reduceAdd, Int.reduceSub, Int.reduceMul, Int.reduceNeg, Int.reduceLT, Int.reduceLE, Int.reduceEq, Int.reduceNe, Int.reduceBEq, Int.reduceToNat, Int.reduceTDiv, Int.reduceTMod, Int.reduceOfNat, reduceCtorEq, sty]
  try simp (disch := first | omega | (simp only [List.length_set, List.length_append, List.length_nil, List.length_replicate, outS_len, hwN_len, sumL_len]; done) | (simp only [List.length_set, List.length_append, List.length_nil, List.length_replicate, outS_len, hwN_len, sumL_len]; omega)) only [tn_add, tn_mul, tn_sub, tn_div, tn_mod, Int.toNat_natCast, Int.reduceToNat, wrap_i64', wrap_u64', wrap_u32', wrap_u8', Int.tmod_eq_emod_of_nonneg, Int.tdiv_eq_ediv_of_nonneg, sub_one, sub_all, splice_all, List.length_set, List.length_append, List.length_nil, List.length_replicate, outS_len, hwN_len, sumL_len]
  refine hK1 _ _ ?_
  clear hK1 K1
  simp only [CallTo, AV.mapL, AV.map]
  refine ⟨_, _, awake_ok _, ?_⟩
  simp only [wT, Bool.not_eq_true, ty, zr, Nat.reduceAdd, Nat.reduceSub, Nat.reduceMul, Nat.reduceMod, Nat.reduceDiv, Nat.reduceEqDiff, Nat.reduceLeDiff, Nat.reduceBEq, Int.reduceAdd, Int.reduceSub, Int.reduceMul, Int.reduceNeg, Int.reduceLT, Int.reduceLE, Int.reduceEq, Int.reduceNe, Int.reduceBEq, Int.reduceToNat, Int.reduceTDiv, Int.reduceTMod, Int.reduceOfNat, reduceCtorEq, sty]
  try simp (disch := first | omega | (simp only [List.length_set, List.length_append, List.length_nil, List.length_replicate, outS_len, hwN_len, sumL_len]; done) | (simp only [List.length_set, List.length_append, List.length_nil, List.length_replicate, outS_len, hwN_len, sumL_len]; omega)) only [tn_add, tn_mul, tn_sub, tn_div, tn_mod, Int.toNat_natCast, Int.reduceToNat, wrap_i64', wrap_u64', wrap_u32', wrap_u8', Int.tmod_eq_emod_of_nonneg, Int.tdiv_eq_ediv_of_nonneg, sub_one, sub_all, splice_all, List.length_set, List.length_append, List.length_nil, List.length_replicate, outS_len, hwN_len, sumL_len]
  (repeat ((with_reducible refine And.intro ?_ ?_); (first | omega | exact True.intro | assumption | rfl)))
  refine hK _ ?_; clear hK K
  refine AWp.iteE rfl (fun hb => ?_) (fun hb => ?_)
  · try simp only [decide_eq_true_eq, decide_eq_false_iff_not, beq_iff_eq, bne_iff_ne, ne_eq, Bool.not_eq_true, beq_eq_false_iff_ne, bne_eq_false_iff_eq, Bool.not_eq_false, Bool.not_eq_eq_eq_not, Bool.not_true, Bool.not_false] at hb
    (first | exact absurd trivial hb | exact absurd rfl hb | cases hb | (exfalso; omega) | (simp at hb; done))
  · try simp only [decide_eq_true_eq, decide_eq_false_iff_not, beq_iff_eq, bne_iff_ne, ne_eq, Bool.not_eq_true, beq_eq_false_iff_ne, bne_eq_false_iff_eq, Bool.not_eq_false, Bool.not_eq_eq_eq_not, Bool.not_true, Bool.not_false] at hb
    refine AWp.skip ?_
    try simp only [thenQ, bq, lq, lf, iq, gq, Nat.reduceEqDiff, if_true, if_false]
    refine hG4 _ ?_
    try clear hG4 G4
    refine AWp.grp fun G25 hG25 => ?_
    refine AWp.regJ p_law03_ShaOnward_3 [] s_law03_ShaOnward_3 ⟨[(24, .bool true)], []⟩ rfl rfl (fun K hK => st_of ?_) ?_
    · simp only [s_law03_ShaOnward_3, wT, Bool.not_eq_true, ty, zr, Nat.reduceAdd, Nat.reduceSub, Nat.reduceMul, Nat.reduceMod, Nat.reduceDiv, Nat.reduceEqDiff, Nat.reduceLeDiff, Nat.reduceBEq, Int.reduceAdd, Int.reduceSub, Int.reduceMul, Int.reduceNeg, Int.reduceLT, Int.reduceLE, Int.reduceEq, Int.reduceNe, Int.reduceBEq, Int.reduceToNat, Int.reduceTDiv, Int.reduceTMod, Int.reduceOfNat, reduceCtorEq, sty]
      try simp (disch := first | omega | (simp only [List.length_set, List.length_append, List.length_nil, List.length_replicate, outS_len, hwN_len, sumL_len]; done) | (simp only [List.length_set, List.length_append, List.length_nil, List.length_replicate, outS_len, hwN_len, sumL_len]; omega)) only [tn_add, tn_mul, tn_sub, tn_div, tn_mod, Int.toNat_natCast, Int.reduceToNat, wrap_i64', wrap_u64', wrap_u32', wrap_u8', Int.tmod_eq_emod_of_nonneg, Int.tdiv_eq_ediv_of_nonneg, sub_one, sub_all, splice_all, List.length_set, List.length_append, List.length_nil, List.length_replicate, outS_len, hwN_len, sumL_len]
      refine ⟨fun h => ?_, fun h => ?_⟩
      · exact hK _ (Le.of (by first | exact Nat.zero_le _ | simp) (by simp only [leTm, tget, AV.All, AV.AllL, inS, Nat.reduceEqDiff, if_true, if_false]; repeat' (first | exact trivial | rfl | apply And.intro | simp)) (by simp only [leRows, Row.All, AV.AllL, AV.All, inS]; repeat' (first | exact trivial | rfl | apply And.intro | simp)))
      · rw [show decide ((b.length : Int) > 300) = true from decide_eq_true (by omega)]
        exact hK _ (Le.of (by first | exact Nat.zero_le _ | simp) (by simp only [leTm, tget, AV.All, AV.AllL, inS, Nat.reduceEqDiff, if_true, if_false]; repeat' (first | exact trivial | rfl | apply And.intro | simp)) (by simp only [leRows, Row.All, AV.AllL, AV.All, inS]; repeat' (first | exact trivial | rfl | apply And.intro | simp)))
    refine AWp.iteE rfl (fun hb => ?_) (fun hb => ?_)
    · try simp only [decide_eq_true_eq, decide_eq_false_iff_not, beq_iff_eq, bne_iff_ne, ne_eq, Bool.not_eq_true, beq_eq_false_iff_ne, bne_eq_false_iff_eq, Bool.not_eq_false, Bool.not_eq_eq_eq_not, Bool.not_true, Bool.not_false] at hb
      refine AWp.reg p_law03_ShaOnward_4 [] s_law03_ShaOnward_4 rfl rfl fun K hK => st_of ?_
      simp only [s_law03_ShaOnward_4, wT, Bool.not_eq_true, ty, zr, Nat.reduceAdd, Nat.reduceSub, Nat.reduceMul, Nat.reduceMod, Nat.reduceDiv, Nat.reduceEqDiff, Nat.reduceLeDiff, Nat.reduceBEq, Int.reduceAdd, Int.reduceSub, Int.reduceMul, Int.reduceNeg, Int.reduceLT, Int.reduceLE, Int.reduceEq, Int.reduceNe, Int.reduceBEq, Int.reduceToNat, Int.reduceTDiv, Int.reduceTMod, Int.reduceOfNat, reduceCtorEq, sty]
      try simp (disch := first | omega | (simp only [List.length_set, List.length_append, List.length_nil, List.length_replicate, outS_len, hwN_len, sumL_len]; done) | (simp only [List.length_set, List.length_append, List.length_nil, List.length_replicate, outS_len, hwN_len, sumL_len]; omega)) only [tn_add, tn_mul, tn_sub, tn_div, tn_mod, Int.toNat_natCast, Int.reduceToNat, wrap_i64', wrap_u64', wrap_u32', wrap_u8', Int.tmod_eq_emod_of_nonneg, Int.tdiv_eq_ediv_of_nonneg, sub_one, sub_all, splice_all, List.length_set, List.length_append, List.length_nil, List.length_replicate, outS_len, hwN_len, sumL_len]
      (repeat ((with_reducible refine And.intro ?_ ?_); (first | omega | exact True.intro | assumption | rfl)))
      refine hK _ ?_; clear hK K
      refine AWp.ret ?_
      try simp only [thenQ, bq, lq, lf, iq, gq, Nat.reduceEqDiff, if_true, if_false]
      simp only [endQ, rs_law03_ShaOnward, resC, one, wT, Bool.not_eq_true, ty, zr, Nat.reduceAdd, Nat.reduceSub, Nat.reduceMul, Nat.reduceMod, Nat.reduceDiv, Nat.reduceEqDiff, Nat.reduceLeDiff, Nat.reduceBEq, Int.reduceAdd, Int.reduceSub, Int.reduceMul, Int.reduceNeg, Int.reduceLT, Int.reduceLE, Int.reduceEq, Int.reduceNe, Int.reduceBEq, Int.reduceToNat, Int.reduceTDiv, Int.reduceTMod, Int.reduceOfNat, reduceCtorEq, sty]
      try simp (disch := first | omega | (simp only [List.length_set, List.length_append, List.length_nil, List.length_replicate, outS_len, hwN_len, sumL_len]; done) | (simp only [List.length_set, List.length_append, List.length_nil, List.length_replicate, outS_len, hwN_len, sumL_len]; omega)) only [tn_add, tn_mul, tn_sub, tn_div, tn_mod, Int.toNat_natCast, Int.reduceToNat, wrap_i64', wrap_u64', wrap_u32', wrap_u8', Int.tmod_eq_emod_of_nonneg, Int.tdiv_eq_ediv_of_nonneg, sub_one, sub_all, splice_all, List.length_set, List.length_append, List.length_nil, List.length_replicate, outS_len, hwN_len, sumL_len]
      repeat' (first | exact True.intro | (with_reducible rfl) | (with_reducible apply And.intro) | omega | rfl)
    · try simp only [decide_eq_true_eq, decide_eq_false_iff_not, beq_iff_eq, bne_iff_ne, ne_eq, Bool.not_eq_true, beq_eq_false_iff_ne, bne_eq_false_iff_eq, Bool.not_eq_false, Bool.not_eq_eq_eq_not, Bool.not_true, Bool.not_false] at hb
      cases hb
theorem law_ok {α : Type} (E : α → Option (Row α)) (x y : α) (a b : List Int) (hx : E x = some (.ints .u8 a)) (hy : E y = some (.ints .u8 b)) (ha : a.length ≤ 300) (hb0 : b.length ≤ 300) :
    FnOk Try.prog n_law03_ShaOnward E [.slice false (.ext x) 0 a.length 1, .slice false (.ext y) 0 b.length 1] [] (.bool true) [] := by
  have hpl := padL_mod a
  obtain ⟨A, hA⟩ : ∃ A, (a.length + 72) / 64 = A := ⟨_, rfl⟩
  obtain ⟨Kb, hK0⟩ : ∃ Kb, (b.length + 72) / 64 = Kb := ⟨_, rfl⟩
  rw [hA] at hpl
  have hA1 : 1 ≤ A ∧ A ≤ 10 := by omega
  have hK1 : 1 ≤ Kb ∧ Kb ≤ 10 := by omega
  obtain ⟨r, hr⟩ := padL_more (padL a) b
  have hal : (padL a ++ b).length = 64 * A + b.length := by rw [List.length_append, hpl]
  have hNK : ((padL a ++ b).length + 72) / 64 = A + Kb := by rw [hal]; omega
  have hql := padL_mod (padL a ++ b)
  rw [hNK] at hql
  have hpre : foldN firstL (padL (padL a ++ b)) A = foldN firstL (padL a) A := by rw [hr]; exact foldN_pre _ _ _ _ (by omega)
  have hwn : hwN (sumL a) 32 = foldN firstL (padL (padL a ++ b)) A := by
    rw [hpre, show sumL a = outS (foldN firstL (padL a) A) 32 by rw [← hA]; rfl]
    exact hwN_outS (foldN_len _ _ rfl _) (foldN_U first_U _ _)
  have hsum : sumL (padL a ++ b) = outS (foldN firstL (padL (padL a ++ b)) (A + Kb)) 32 := by rw [← hNK]; rfl
  have hs0 : sub (padL a) 0 (64 * A) = padL a := sub_all hpl
  have hsb : sub b 0 b.length = b := sub_all rfl
  have hfl := foldN_len firstL (padL (padL a ++ b)) rfl (A + Kb)
  generalize hJ : padL a ++ b = J at *
  generalize hQ : padL J = Q at *
  have l5 : J.length = 64 * A + b.length := hal
  refine FnOk.pure func_law03_ShaOnward call_law03_ShaOnward (body := _) rfl nt_law03_ShaOnward (by simp) (by simp [AV.solid, AV.solidL]) ?_
  refine AWp.reg p_law03_ShaOnward_0 [] s_law03_ShaOnward_0 rfl rfl fun K hK => st_of ?_
  simp only [s_law03_ShaOnward_0, wT, Bool.not_eq_true, ty, zr, Nat.reduceAdd, Nat.reduceSub, Nat.reduceMul, Nat.reduceMod, Nat.reduceDiv, Nat.reduceEqDiff, Nat.reduceLeDiff, Nat.reduceBEq, Int.reduceAdd, Int.reduceSub, Int.reduceMul, Int.reduceNeg, Int.reduceLT, Int.reduceLE, Int.reduceEq, Int.reduceNe, Int.reduceBEq, Int.reduceToNat, Int.reduceTDiv, Int.reduceTMod, Int.reduceOfNat, reduceCtorEq, sty]
  try simp (disch := first | omega | (simp only [List.length_set, List.length_append, List.length_nil, List.length_replicate, outS_len, hwN_len, sumL_len]; done) | (simp only [List.length_set, List.length_append, List.length_nil, List.length_replicate, outS_len, hwN_len, sumL_len]; omega)) only [tn_add, tn_mul, tn_sub, tn_div, tn_mod, Int.toNat_natCast, Int.reduceToNat, wrap_i64', wrap_u64', wrap_u32', wrap_u8', Int.tmod_eq_emod_of_nonneg, Int.tdiv_eq_ediv_of_nonneg, sub_one, sub_all, splice_all, List.length_set, List.length_append, List.length_nil, List.length_replicate, outS_len, hwN_len, sumL_len]
  (repeat ((with_reducible refine And.intro ?_ ?_); (first | omega | exact True.intro | assumption | rfl)))
  refine hK _ ?_; clear hK K
  refine AWp.grp fun G4 hG4 => ?_
  refine AWp.reg p_law03_ShaOnward_1 [] s_law03_ShaOnward_1 rfl rfl fun K hK => st_of ?_
  simp only [s_law03_ShaOnward_1, wT, Bool.not_eq_true, ty, zr, Nat.reduceAdd, Nat.reduceSub, Nat.reduceMul, Nat.reduceMod, Nat.reduceDiv, Nat.reduceEqDiff, Nat.reduceLeDiff, Nat.reduceBEq, Int.reduceAdd, Int.reduceSub, Int.reduceMul, Int.reduceNeg, Int.reduceLT, Int.reduceLE, Int.reduceEq, Int.reduceNe, Int.reduceBEq, Int.reduceToNat, Int.reduceTDiv, Int.reduceTMod, Int.reduceOfNat, reduceCtorEq, sty]
  try simp (disch := first | omega | (simp only [List.length_set, List.length_append, List.length_nil, List.length_replicate, outS_len, hwN_len, sumL_len]; done) | (simp only [List.length_set, List.length_append, List.length_nil, List.length_replicate, outS_len, hwN_len, sumL_len]; omega)) only [tn_add, tn_mul, tn_sub, tn_div, tn_mod, Int.toNat_natCast, Int.reduceToNat, wrap_i64', wrap_u64', wrap_u32', wrap_u8', Int.tmod_eq_emod_of_nonneg, Int.tdiv_eq_ediv_of_nonneg, sub_one, sub_all, splice_all, List.length_set, List.length_append, List.length_nil, List.length_replicate, outS_len, hwN_len, sumL_len]
  (repeat ((with_reducible refine And.intro ?_ ?_); (first | omega | exact True.intro | assumption | rfl)))
  refine st_call fun K1 hK1 => ?_
  simp only [calleeC, wT, Bool.not_eq_true, ty, zr, Nat.reduceAdd, Nat.reduceSub, Nat.reduceMul, Nat.reduceMod, Nat.reduceDiv, Nat.reduceEqDiff, Nat.reduceLeDiff, Nat.reduceBEq, Int.reduceAdd, Int.reduceSub, Int.reduceMul, Int.reduceNeg, Int.reduceLT, Int.reduceLE, Int.reduceEq, Int.reduceNe, Int.reduceBEq, Int.reduceToNat, Int.reduceTDiv, Int.reduceTMod, Int.reduceOfNat, reduceCtorEq, sty]
  try simp (disch := first | omega | (simp only [List.length_set, List.length_append, List.length_nil, List.length_replicate, outS_len, hwN_len, sumL_len]; done) | (simp only [List.length_set, List.length_append, List.length_nil, List.length_replicate, outS_len, hwN_len, sumL_len]; omega)) only [tn_add, tn_mul, tn_sub, tn_div, tn_mod, Int.toNat_natCast, Int.reduceToNat, wrap_i64', wrap_u64', wrap_u32', wrap_u8', Int.tmod_eq_emod_of_nonneg, Int.tdiv_eq_ediv_of_nonneg, sub_one, sub_all, splice_all, List.length_set, List.length_append, List.length_nil, List.length_replicate, outS_len, hwN_len, sumL_len]
  refine hK1 _ _ ?_
  clear hK1 K1
  simp only [CallTo, AV.mapL, AV.map]
  refine ⟨_, _, awake_ok _, ?_⟩
  simp only [wT, Bool.not_eq_true, ty, zr, Nat.reduceAdd, Nat.reduceSub, Nat.reduceMul, Nat.reduceMod, Nat.reduceDiv, Nat.reduceEqDiff, Nat.reduceLeDiff, Nat.reduceBEq, Int.reduceAdd, Int.reduceSub, Int.reduceMul, Int.reduceNeg, Int.reduceLT, Int.reduceLE, Int.reduceEq, Int.reduceNe, Int.reduceBEq, Int.reduceToNat, Int.reduceTDiv, Int.reduceTMod, Int.reduceOfNat, reduceCtorEq, sty]
  try simp (disch := first | omega | (simp only [List.length_set, List.length_append, List.length_nil, List.length_replicate, outS_len, hwN_len, sumL_len]; done) | (simp only [List.length_set, List.length_append, List.length_nil, List.length_replicate, outS_len, hwN_len, sumL_len]; omega)) only [tn_add, tn_mul, tn_sub, tn_div, tn_mod, Int.toNat_natCast, Int.reduceToNat, wrap_i64', wrap_u64', wrap_u32', wrap_u8', Int.tmod_eq_emod_of_nonneg, Int.tdiv_eq_ediv_of_nonneg, sub_one, sub_all, splice_all, List.length_set, List.length_append, List.length_nil, List.length_replicate, outS_len, hwN_len, sumL_len]
  (repeat ((with_reducible refine And.intro ?_ ?_); (first | omega | exact True.intro | assumption | rfl)))
  refine hK _ ?_; clear hK K
  refine AWp.iteE rfl (fun hb => ?_) (fun hb => ?_)
  · try simp only [decide_eq_true_eq, decide_eq_false_iff_not, beq_iff_eq, bne_iff_ne, ne_eq, Bool.not_eq_true, beq_eq_false_iff_ne, bne_eq_false_iff_eq, Bool.not_eq_false, Bool.not_eq_eq_eq_not, Bool.not_true, Bool.not_false] at hb
    (first | exact absurd trivial hb | exact absurd rfl hb | cases hb | (exfalso; omega) | (simp at hb; done))
  · try simp only [decide_eq_true_eq, decide_eq_false_iff_not, beq_iff_eq, bne_iff_ne, ne_eq, Bool.not_eq_true, beq_eq_false_iff_ne, bne_eq_false_iff_eq, Bool.not_eq_false, Bool.not_eq_eq_eq_not, Bool.not_true, Bool.not_false] at hb
    refine AWp.skip ?_
    try simp only [thenQ, bq, lq, lf, iq, gq, Nat.reduceEqDiff, if_true, if_false]
    refine hG4 _ ?_
    try clear hG4 G4
    refine AWp.grp fun G25 hG25 => ?_
    refine AWp.reg p_law03_ShaOnward_3 [] s_law03_ShaOnward_3 rfl rfl fun K hK => st_of ?_
    simp only [s_law03_ShaOnward_3, wT, Bool.not_eq_true, ty, zr, Nat.reduceAdd, Nat.reduceSub, Nat.reduceMul, Nat.reduceMod, Nat.reduceDiv, Nat.reduceEqDiff, Nat.reduceLeDiff, Nat.reduceBEq, Int.reduceAdd, Int.reduceSub, Int.reduceMul, Int.reduceNeg, Int.reduceLT, Int.reduceLE, Int.reduceEq, Int.reduceNe, Int.reduceBEq, Int.reduceToNat, Int.reduceTDiv, Int.reduceTMod, Int.reduceOfNat, reduceCtorEq, sty]
    try simp (disch := first | omega | (simp only [List.length_set, List.length_append, List.length_nil, List.length_replicate, outS_len, hwN_len, sumL_len]; done) | (simp only [List.length_set, List.length_append, List.length_nil, List.length_replicate, outS_len, hwN_len, sumL_len]; omega)) only [tn_add, tn_mul, tn_sub, tn_div, tn_mod, Int.toNat_natCast, Int.reduceToNat, wrap_i64', wrap_u64', wrap_u32', wrap_u8', Int.tmod_eq_emod_of_nonneg, Int.tdiv_eq_ediv_of_nonneg, sub_one, sub_all, splice_all, List.length_set, List.length_append, List.length_nil, List.length_replicate, outS_len, hwN_len, sumL_len]
    refine ⟨fun hs => by (try simp only [decide_eq_true_eq, decide_eq_false_iff_not, beq_iff_eq, bne_iff_ne, ne_eq, Bool.not_eq_true, beq_eq_false_iff_ne, bne_eq_false_iff_eq, Bool.not_eq_false, Bool.not_eq_eq_eq_not, Bool.not_true, Bool.not_false] at hs); exfalso; omega, fun hs => ?_⟩
    rw [show decide ((b.length : Int) > 300) = false from decide_eq_false (by omega)]
    refine hK _ ?_; clear hK K
    refine AWp.iteE rfl (fun hb => ?_) (fun hb => ?_)
    · try simp only [decide_eq_true_eq, decide_eq_false_iff_not, beq_iff_eq, bne_iff_ne, ne_eq, Bool.not_eq_true, beq_eq_false_iff_ne, bne_eq_false_iff_eq, Bool.not_eq_false, Bool.not_eq_eq_eq_not, Bool.not_true, Bool.not_false] at hb
      (first | exact absurd trivial hb | exact absurd rfl hb | cases hb | (exfalso; omega) | (simp at hb; done))
    · try simp only [decide_eq_true_eq, decide_eq_false_iff_not, beq_iff_eq, bne_iff_ne, ne_eq, Bool.not_eq_true, beq_eq_false_iff_ne, bne_eq_false_iff_eq, Bool.not_eq_false, Bool.not_eq_eq_eq_not, Bool.not_true, Bool.not_false] at hb
      refine AWp.skip ?_
      try simp only [thenQ, bq, lq, lf, iq, gq, Nat.reduceEqDiff, if_true, if_false]
      refine hG25 _ ?_
      try clear hG25 G25
      refine AWp.reg p_law03_ShaOnward_5 [] s_law03_ShaOnward_5 rfl rfl fun K hK => st_of ?_
      simp only [s_law03_ShaOnward_5, wT, Bool.not_eq_true, ty, zr, Nat.reduceAdd, Nat.reduceSub, Nat.reduceMul, Nat.reduceMod, Nat.reduceDiv, Nat.reduceEqDiff, Nat.reduceLeDiff, Nat.reduceBEq, Int.reduceAdd, Int.reduceSub, Int.reduceMul, Int.reduceNeg, Int.reduceLT, Int.reduceLE, Int.reduceEq, Int.reduceNe, Int.reduceBEq, Int.reduceToNat, Int.reduceTDiv, Int.reduceTMod, Int.reduceOfNat, reduceCtorEq, sty]
      try simp (disch := first | omega | (simp only [List.length_set, List.length_append, List.length_nil, List.length_replicate, outS_len, hwN_len, sumL_len]; done) | (simp only [List.length_set, List.length_append, List.length_nil, List.length_replicate, outS_len, hwN_len, sumL_len]; omega)) only [tn_add, tn_mul, tn_sub, tn_div, tn_mod, Int.toNat_natCast, Int.reduceToNat, wrap_i64', wrap_u64', wrap_u32', wrap_u8', Int.tmod_eq_emod_of_nonneg, Int.tdiv_eq_ediv_of_nonneg, sub_one, sub_all, splice_all, List.length_set, List.length_append, List.length_nil, List.length_replicate, outS_len, hwN_len, sumL_len]
      (repeat ((with_reducible refine And.intro ?_ ?_); (first | omega | exact True.intro | assumption | rfl)))
      refine st_call fun K1 hK1 => ?_
      simp only [calleeC, wT, Bool.not_eq_true, ty, zr, Nat.reduceAdd, Nat.reduceSub, Nat.reduceMul, Nat.reduceMod, Nat.reduceDiv, Nat.reduceEqDiff, Nat.reduceLeDiff, Nat.reduceBEq, Int.reduceAdd, Int.reduceSub, Int.reduceMul, Int.reduceNeg, Int.reduceLT, Int.reduceLE, Int.reduceEq, Int.reduceNe, Int.reduceBEq, Int.reduceToNat, Int.reduceTDiv, Int.reduceTMod, Int.reduceOfNat, reduceCtorEq, sty]
      try simp (disch := first | omega | (simp only [List.length_set, List.length_append, List.length_nil, List.length_replicate, outS_len, hwN_len, sumL_len]; done) | (simp only [List.length_set, List.length_append, List.length_nil, List.length_replicate, outS_len, hwN_len, sumL_len]; omega)) only [tn_add, tn_mul, tn_sub, tn_div, tn_mod, Int.toNat_natCast, Int.reduceToNat, wrap_i64', wrap_u64', wrap_u32', wrap_u8', Int.tmod_eq_emod_of_nonneg, Int.tdiv_eq_ediv_of_nonneg, sub_one, sub_all, splice_all, List.length_set, List.length_append, List.length_nil, List.length_replicate, outS_len, hwN_len, sumL_len]
      refine hK1 _ _ ?_
      clear hK1 K1
      simp only [CallTo, AV.mapL, AV.map]
      refine ⟨_, _, pad_ok _ _ a a (by simp only [Sy.look, hx, Option.map_some, Row.map]) 0 (by omega) (sub_all rfl) (by omega) _, ?_⟩
      simp only [wT, Bool.not_eq_true, ty, zr, Nat.reduceAdd, Nat.reduceSub, Nat.reduceMul, Nat.reduceMod, Nat.reduceDiv, Nat.reduceEqDiff, Nat.reduceLeDiff, Nat.reduceBEq, Int.reduceAdd, Int.reduceSub, Int.reduceMul, Int.reduceNeg, Int.reduceLT, Int.reduceLE, Int.reduceEq, Int.reduceNe, Int.reduceBEq, Int.reduceToNat, Int.reduceTDiv, Int.reduceTMod, Int.reduceOfNat, reduceCtorEq, sty]
      try simp (disch := first | omega | (simp only [List.length_set, List.length_append, List.length_nil, List.length_replicate, outS_len, hwN_len, sumL_len]; done) | (simp only [List.length_set, List.length_append, List.length_nil, List.length_replicate, outS_len, hwN_len, sumL_len]; omega)) only [tn_add, tn_mul, tn_sub, tn_div, tn_mod, Int.toNat_natCast, Int.reduceToNat, wrap_i64', wrap_u64', wrap_u32', wrap_u8', Int.tmod_eq_emod_of_nonneg, Int.tdiv_eq_ediv_of_nonneg, sub_one, sub_all, splice_all, List.length_set, List.length_append, List.length_nil, List.length_replicate, outS_len, hwN_len, sumL_len]
      simp only [hA]
      (repeat ((with_reducible refine And.intro ?_ ?_); (first | omega | exact True.intro | assumption | rfl)))
      refine hK _ ?_; clear hK K
      refine AWp.reg p_law03_ShaOnward_6 [] s_law03_ShaOnward_6 rfl rfl fun K hK => st_of ?_
      simp only [s_law03_ShaOnward_6, wT, Bool.not_eq_true, ty, zr, Nat.reduceAdd, Nat.reduceSub, Nat.reduceMul, Nat.reduceMod, Nat.reduceDiv, Nat.reduceEqDiff, Nat.reduceLeDiff, Nat.reduceBEq, Int.reduceAdd, Int.reduceSub, Int.reduceMul, Int.reduceNeg, Int.reduceLT, Int.reduceLE, Int.reduceEq, Int.reduceNe, Int.reduceBEq, Int.reduceToNat, Int.reduceTDiv, Int.reduceTMod, Int.reduceOfNat, reduceCtorEq, sty]
      try simp (disch := first | omega | (simp only [List.length_set, List.length_append, List.length_nil, List.length_replicate, outS_len, hwN_len, sumL_len]; done) | (simp only [List.length_set, List.length_append, List.length_nil, List.length_replicate, outS_len, hwN_len, sumL_len]; omega)) only [tn_add, tn_mul, tn_sub, tn_div, tn_mod, Int.toNat_natCast, Int.reduceToNat, wrap_i64', wrap_u64', wrap_u32', wrap_u8', Int.tmod_eq_emod_of_nonneg, Int.tdiv_eq_ediv_of_nonneg, sub_one, sub_all, splice_all, List.length_set, List.length_append, List.length_nil, List.length_replicate, outS_len, hwN_len, sumL_len]
      simp only [hy, hs0, hsb, hJ, Option.map_some, wT, Bool.not_eq_true, ty, zr, Nat.reduceAdd, Nat.reduceSub, Nat.reduceMul, Nat.reduceMod, Nat.reduceDiv, Nat.reduceEqDiff, Nat.reduceLeDiff, Nat.reduceBEq, Int.reduceAdd, Int.reduceSub, Int.reduceMul, Int.reduceNeg, Int.reduceLT, Int.reduceLE, Int.reduceEq, Int.reduceNe, Int.reduceBEq, Int.reduceToNat, Int.reduceTDiv, Int.reduceTMod, Int.reduceOfNat, reduceCtorEq, sty]
      try simp (disch := first | omega | (simp only [List.length_set, List.length_append, List.length_nil, List.length_replicate, outS_len, hwN_len, sumL_len]; done) | (simp only [List.length_set, List.length_append, List.length_nil, List.length_replicate, outS_len, hwN_len, sumL_len]; omega)) only [tn_add, tn_mul, tn_sub, tn_div, tn_mod, Int.toNat_natCast, Int.reduceToNat, wrap_i64', wrap_u64', wrap_u32', wrap_u8', Int.tmod_eq_emod_of_nonneg, Int.tdiv_eq_ediv_of_nonneg, sub_one, sub_all, splice_all, List.length_set, List.length_append, List.length_nil, List.length_replicate, outS_len, hwN_len, sumL_len]
      (repeat ((with_reducible refine And.intro ?_ ?_); (first | omega | exact True.intro | assumption | rfl)))
      refine hK _ ?_; clear hK K
      refine AWp.reg p_law03_ShaOnward_7 [] s_law03_ShaOnward_7 rfl rfl fun K hK => st_of ?_
      simp only [s_law03_ShaOnward_7, wT, Bool.not_eq_true, ty, zr, Nat.reduceAdd, Nat.reduceSub, Nat.reduceMul, Nat.reduceMod, Nat.reduceDiv, Nat.reduceEqDiff, Nat.reduceLeDiff, Nat.reduceBEq, Int.reduceAdd, Int.reduceSub, Int.reduceMul, Int.reduceNeg, Int.reduceLT, Int.reduceLE, Int.reduceEq, Int.reduceNe, Int.reduceBEq, Int.reduceToNat, Int.reduceTDiv, Int.reduceTMod, Int.reduceOfNat, reduceCtorEq, sty]
      try simp (disch := first | omega | (simp only [List.length_set, List.length_append, List.length_nil, List.length_replicate, outS_len, hwN_len, sumL_len]; done) | (simp only [List.length_set, List.length_append, List.length_nil, List.length_replicate, outS_len, hwN_len, sumL_len]; omega)) only [tn_add, tn_mul, tn_sub, tn_div, tn_mod, Int.toNat_natCast, Int.reduceToNat, wrap_i64', wrap_u64', wrap_u32', wrap_u8', Int.tmod_eq_emod_of_nonneg, Int.tdiv_eq_ediv_of_nonneg, sub_one, sub_all, splice_all, List.length_set, List.length_append, List.length_nil, List.length_replicate, outS_len, hwN_len, sumL_len]
      (repeat ((with_reducible refine And.intro ?_ ?_); (first | omega | exact True.intro | assumption | rfl)))
      refine hK _ ?_; clear hK K
      refine AWp.grp fun G61 hG61 => ?_
      refine AWp.reg p_law03_ShaOnward_8 [] s_law03_ShaOnward_8 rfl rfl fun K hK => st_of ?_
      simp only [s_law03_ShaOnward_8, wT, Bool.not_eq_true, ty, zr, Nat.reduceAdd, Nat.reduceSub, Nat.reduceMul, Nat.reduceMod, Nat.reduceDiv, Nat.reduceEqDiff, Nat.reduceLeDiff, Nat.reduceBEq, Int.reduceAdd, Int.reduceSub, Int.reduceMul, Int.reduceNeg, Int.reduceLT, Int.reduceLE, Int.reduceEq, Int.reduceNe, Int.reduceBEq, Int.reduceToNat, Int.reduceTDiv, Int.reduceTMod, Int.reduceOfNat, reduceCtorEq, sty]
      try simp (disch := first | omega | (simp only [List.length_set, List.length_append, List.length_nil, List.length_replicate, outS_len, hwN_len, sumL_len]; done) | (simp only [List.length_set, List.length_append, List.length_nil, List.length_replicate, outS_len, hwN_len, sumL_len]; omega)) only [tn_add, tn_mul, tn_sub, tn_div, tn_mod, Int.toNat_natCast, Int.reduceToNat, wrap_i64', wrap_u64', wrap_u32', wrap_u8', Int.tmod_eq_emod_of_nonneg, Int.tdiv_eq_ediv_of_nonneg, sub_one, sub_all, splice_all, List.length_set, List.length_append, List.length_nil, List.length_replicate, outS_len, hwN_len, sumL_len]
      (repeat ((with_reducible refine And.intro ?_ ?_); (first | omega | exact True.intro | assumption | rfl)))
      refine st_call fun K1 hK1 => ?_
      simp only [calleeC, wT, Bool.not_eq_true, ty, zr, Nat.reduceAdd, Nat.reduceSub, Nat.reduceMul, Nat.reduceMod, Nat.reduceDiv, Nat.reduceEqDiff, Nat.reduceLeDiff, Nat.reduceBEq, Int.reduceAdd, Int.reduceSub, Int.reduceMul, Int.reduceNeg, Int.reduceLT, Int.reduceLE, Int.reduceEq, Int.reduceNe, Int.reduceBEq, Int.reduceToNat, Int.reduceTDiv, Int.reduceTMod, Int.reduceOfNat, reduceCtorEq, sty]
      try simp (disch := first | omega | (simp only [List.length_set, List.length_append, List.length_nil, List.length_replicate, outS_len, hwN_len, sumL_len]; done) | (simp only [List.length_set, List.length_append, List.length_nil, List.length_replicate, outS_len, hwN_len, sumL_len]; omega)) only [tn_add, tn_mul, tn_sub, tn_div, tn_mod, Int.toNat_natCast, Int.reduceToNat, wrap_i64', wrap_u64', wrap_u32', wrap_u8', Int.tmod_eq_emod_of_nonneg, Int.tdiv_eq_ediv_of_nonneg, sub_one, sub_all, splice_all, List.length_set, List.length_append, List.length_nil, List.length_replicate, outS_len, hwN_len, sumL_len]
      refine hK1 _ _ ?_
      clear hK1 K1
      simp only [CallTo, AV.mapL, AV.map]
      refine ⟨_, _, sum_ok _ _ a a (by simp only [Sy.look, hx, Option.map_some, Row.map]) 0 (by omega) (sub_all rfl) (by omega) _, ?_⟩
      simp only [wT, Bool.not_eq_true, ty, zr, Nat.reduceAdd, Nat.reduceSub, Nat.reduceMul, Nat.reduceMod, Nat.reduceDiv, Nat.reduceEqDiff, Nat.reduceLeDiff, Nat.reduceBEq, Int.reduceAdd, Int.reduceSub, Int.reduceMul, Int.reduceNeg, Int.reduceLT, Int.reduceLE, Int.reduceEq, Int.reduceNe, Int.reduceBEq, Int.reduceToNat, Int.reduceTDiv, Int.reduceTMod, Int.reduceOfNat, reduceCtorEq, sty]
      try simp (disch := first | omega | (simp only [List.length_set, List.length_append, List.length_nil, List.length_replicate, outS_len, hwN_len, sumL_len]; done) | (simp only [List.length_set, List.length_append, List.length_nil, List.length_replicate, outS_len, hwN_len, sumL_len]; omega)) only [tn_add, tn_mul, tn_sub, tn_div, tn_mod, Int.toNat_natCast, Int.reduceToNat, wrap_i64', wrap_u64', wrap_u32', wrap_u8', Int.tmod_eq_emod_of_nonneg, Int.tdiv_eq_ediv_of_nonneg, sub_one, sub_all, splice_all, List.length_set, List.length_append, List.length_nil, List.length_replicate, outS_len, hwN_len, sumL_len]
      (repeat ((with_reducible refine And.intro ?_ ?_); (first | omega | exact True.intro | assumption | rfl)))
      refine hK _ ?_; clear hK K
      refine AWp.lopX (fun i => ⟨[(5, .slice true (.own 0) 0 (64 * A) 1), (6, .slice true (.own 3) 0 (64 * A + b.length) 1), (7, .ptr (.own 4) 0), (33, .ints .u8 (sumL a)), (34, .int .i64 i)], [some (.ints .u8 (padL a)), none, none, some (.ints .u8 J), some (.ints .u32 (hwN (sumL a) i))]⟩) (32) ?_ fun X0 hX0 i hn0 => ?_
      · simp only [hwN_zero]
        exact Le.of (by first | exact Nat.zero_le _ | simp) (by simp only [leTm, tget, AV.All, AV.AllL, inS, Nat.reduceEqDiff, if_true, if_false]; repeat' (first | exact trivial | rfl | apply And.intro | simp)) (by simp only [leRows, Row.All, AV.AllL, AV.All, inS]; repeat' (first | exact trivial | rfl | apply And.intro | simp))
      refine AWp.reg p_law03_ShaOnward_9 [] s_law03_ShaOnward_9 rfl rfl fun K hK => st_of ?_
      simp only [s_law03_ShaOnward_9, wT, Bool.not_eq_true, ty, zr, Nat.reduceAdd, Nat.reduceSub, Nat.reduceMul, Nat.reduceMod, Nat.reduceDiv, Nat.reduceEqDiff, Nat.reduceLeDiff, Nat.reduceBEq, Int.reduceAdd, Int.reduceSub, Int.reduceMul, Int.reduceNeg, Int.reduceLT, Int.reduceLE, Int.reduceEq, Int.reduceNe, Int.reduceBEq, Int.reduceToNat, Int.reduceTDiv, Int.reduceTMod, Int.reduceOfNat, reduceCtorEq, sty]
      try simp (disch := first | omega | (simp only [List.length_set, List.length_append, List.length_nil, List.length_replicate, outS_len, hwN_len, sumL_len]; done) | (simp only [List.length_set, List.length_append, List.length_nil, List.length_replicate, outS_len, hwN_len, sumL_len]; omega)) only [tn_add, tn_mul, tn_sub, tn_div, tn_mod, Int.toNat_natCast, Int.reduceToNat, wrap_i64', wrap_u64', wrap_u32', wrap_u8', Int.tmod_eq_emod_of_nonneg, Int.tdiv_eq_ediv_of_nonneg, sub_one, sub_all, splice_all, List.length_set, List.length_append, List.length_nil, List.length_replicate, outS_len, hwN_len, sumL_len]
      (repeat ((with_reducible refine And.intro ?_ ?_); (first | omega | exact True.intro | assumption | rfl)))
      refine hK _ ?_; clear hK K
      refine AWp.test rfl (fun hb => ?_) (fun hb => ?_)
      · try simp only [decide_eq_true_eq, decide_eq_false_iff_not, beq_iff_eq, bne_iff_ne, ne_eq, Bool.not_eq_true, beq_eq_false_iff_ne, bne_eq_false_iff_eq, Bool.not_eq_false, Bool.not_eq_eq_eq_not, Bool.not_true, Bool.not_false] at hb
        refine AWp.blk fun Y1 hY1 => ?_
        refine AWp.reg p_law03_ShaOnward_10 [] s_law03_ShaOnward_10 rfl rfl fun K hK => st_of ?_
        simp only [s_law03_ShaOnward_10, wT, Bool.not_eq_true, ty, zr, Nat.reduceAdd, Nat.reduceSub, Nat.reduceMul, Nat.reduceMod, Nat.reduceDiv, Nat.reduceEqDiff, Nat.reduceLeDiff, Nat.reduceBEq, Int.reduceAdd, Int.reduceSub, Int.reduceMul, Int.reduceNeg, Int.reduceLT, Int.reduceLE, Int.reduceEq, Int.reduceNe, Int.reduceBEq, Int.reduceToNat, Int.reduceTDiv, Int.reduceTMod, Int.reduceOfNat, reduceCtorEq, sty]
        try simp (disch := first | omega | (simp only [List.length_set, List.length_append, List.length_nil, List.length_replicate, outS_len, hwN_len, sumL_len]; done) | (simp only [List.length_set, List.length_append, List.length_nil, List.length_replicate, outS_len, hwN_len, sumL_len]; omega)) only [tn_add, tn_mul, tn_sub, tn_div, tn_mod, Int.toNat_natCast, Int.reduceToNat, wrap_i64', wrap_u64', wrap_u32', wrap_u8', Int.tmod_eq_emod_of_nonneg, Int.tdiv_eq_ediv_of_nonneg, sub_one, sub_all, splice_all, List.length_set, List.length_append, List.length_nil, List.length_replicate, outS_len, hwN_len, sumL_len]
        (repeat ((with_reducible refine And.intro ?_ ?_); (first | omega | exact True.intro | assumption | rfl)))
        refine hK _ ?_; clear hK K
        refine AWp.regE p_law03_ShaOnward_11 [] s_law03_ShaOnward_11 rfl rfl (st_of ?_)
        simp only [s_law03_ShaOnward_11, wT, Bool.not_eq_true, ty, zr, Nat.reduceAdd, Nat.reduceSub, Nat.reduceMul, Nat.reduceMod, Nat.reduceDiv, Nat.reduceEqDiff, Nat.reduceLeDiff, Nat.reduceBEq, Int.reduceAdd, Int.reduceSub, Int.reduceMul, Int.reduceNeg, Int.reduceLT, Int.reduceLE, Int.reduceEq, Int.reduceNe, Int.reduceBEq, Int.reduceToNat, Int.reduceTDiv, Int.reduceTMod, Int.reduceOfNat, reduceCtorEq, sty]
        try simp (disch := first | omega | (simp only [List.length_set, List.length_append, List.length_nil, List.length_replicate, outS_len, hwN_len, sumL_len]; done) | (simp only [List.length_set, List.length_append, List.length_nil, List.length_replicate, outS_len, hwN_len, sumL_len]; omega)) only [tn_add, tn_mul, tn_sub, tn_div, tn_mod, Int.toNat_natCast, Int.reduceToNat, wrap_i64', wrap_u64', wrap_u32', wrap_u8', Int.tmod_eq_emod_of_nonneg, Int.tdiv_eq_ediv_of_nonneg, sub_one, sub_all, splice_all, List.length_set, List.length_append, List.length_nil, List.length_replicate, outS_len, hwN_len, sumL_len]
        (repeat ((with_reducible refine And.intro ?_ ?_); (first | omega | exact True.intro | assumption | rfl)))
        try simp only [thenQ, bq, lq, lf, iq, gq, Nat.reduceEqDiff, if_true, if_false]
        refine hY1 _ ?_
        try clear hY1 Y1
        refine AWp.regE p_law03_ShaOnward_12 [] s_law03_ShaOnward_12 rfl rfl (st_of ?_)
        simp only [s_law03_ShaOnward_12, wT, Bool.not_eq_true, ty, zr, Nat.reduceAdd, Nat.reduceSub, Nat.reduceMul, Nat.reduceMod, Nat.reduceDiv, Nat.reduceEqDiff, Nat.reduceLeDiff, Nat.reduceBEq, Int.reduceAdd, Int.reduceSub, Int.reduceMul, Int.reduceNeg, Int.reduceLT, Int.reduceLE, Int.reduceEq, Int.reduceNe, Int.reduceBEq, Int.reduceToNat, Int.reduceTDiv, Int.reduceTMod, Int.reduceOfNat, reduceCtorEq, sty]
        try simp (disch := first | omega | (simp only [List.length_set, List.length_append, List.length_nil, List.length_replicate, outS_len, hwN_len, sumL_len]; done) | (simp only [List.length_set, List.length_append, List.length_nil, List.length_replicate, outS_len, hwN_len, sumL_len]; omega)) only [tn_add, tn_mul, tn_sub, tn_div, tn_mod, Int.toNat_natCast, Int.reduceToNat, wrap_i64', wrap_u64', wrap_u32', wrap_u8', Int.tmod_eq_emod_of_nonneg, Int.tdiv_eq_ediv_of_nonneg, sub_one, sub_all, splice_all, List.length_set, List.length_append, List.length_nil, List.length_replicate, outS_len, hwN_len, sumL_len]
        (repeat ((with_reducible refine And.intro ?_ ?_); (first | omega | exact True.intro | assumption | rfl)))
        try simp only [thenQ, bq, lq, lf, iq, gq, Nat.reduceEqDiff, if_true, if_false]
        simp only [hwN_succ]
        first | exact ⟨by omega, Le.of (by first | exact Nat.zero_le _ | simp) (by simp only [leTm, tget, AV.All, AV.AllL, inS, Nat.reduceEqDiff, if_true, if_false]; repeat' (first | exact trivial | rfl | apply And.intro | simp)) (by simp only [leRows, Row.All, AV.AllL, AV.All, inS]; repeat' (first | exact trivial | rfl | apply And.intro | simp))⟩ | exact Le.of (by first | exact Nat.zero_le _ | simp) (by simp only [leTm, tget, AV.All, AV.AllL, inS, Nat.reduceEqDiff, if_true, if_false]; repeat' (first | exact trivial | rfl | apply And.intro | simp)) (by simp only [leRows, Row.All, AV.AllL, AV.All, inS]; repeat' (first | exact trivial | rfl | apply And.intro | simp))
      · try simp only [decide_eq_true_eq, decide_eq_false_iff_not, beq_iff_eq, bne_iff_ne, ne_eq, Bool.not_eq_true, beq_eq_false_iff_ne, bne_eq_false_iff_eq, Bool.not_eq_false, Bool.not_eq_eq_eq_not, Bool.not_true, Bool.not_false] at hb
        try simp only [thenQ, bq, lq, lf, iq, gq, Nat.reduceEqDiff, if_true, if_false]
        refine hX0 _ ?_
        try clear hX0 X0
        obtain rfl : i = 32 := by omega
        try simp only [thenQ, bq, lq, lf, iq, gq, Nat.reduceEqDiff, if_true, if_false]
        refine hG61 _ ?_
        try clear hG61 G61
        refine AWp.reg p_law03_ShaOnward_13 [] s_law03_ShaOnward_13 rfl rfl fun K hK => st_of ?_
        simp only [s_law03_ShaOnward_13, wT, Bool.not_eq_true, ty, zr, Nat.reduceAdd, Nat.reduceSub, Nat.reduceMul, Nat.reduceMod, Nat.reduceDiv, Nat.reduceEqDiff, Nat.reduceLeDiff, Nat.reduceBEq, Int.reduceAdd, Int.reduceSub, Int.reduceMul, Int.reduceNeg, Int.reduceLT, Int.reduceLE, Int.reduceEq, Int.reduceNe, Int.reduceBEq, Int.reduceToNat, Int.reduceTDiv, Int.reduceTMod, Int.reduceOfNat, reduceCtorEq, sty]
        try simp (disch := first | omega | (simp only [List.length_set, List.length_append, List.length_nil, List.length_replicate, outS_len, hwN_len, sumL_len]; done) | (simp only [List.length_set, List.length_append, List.length_nil, List.length_replicate, outS_len, hwN_len, sumL_len]; omega)) only [tn_add, tn_mul, tn_sub, tn_div, tn_mod, Int.toNat_natCast, Int.reduceToNat, wrap_i64', wrap_u64', wrap_u32', wrap_u8', Int.tmod_eq_emod_of_nonneg, Int.tdiv_eq_ediv_of_nonneg, sub_one, sub_all, splice_all, List.length_set, List.length_append, List.length_nil, List.length_replicate, outS_len, hwN_len, sumL_len]
        (repeat ((with_reducible refine And.intro ?_ ?_); (first | omega | exact True.intro | assumption | rfl)))
        refine st_call fun K1 hK1 => ?_
        simp only [calleeC, wT, Bool.not_eq_true, ty, zr, Nat.reduceAdd, Nat.reduceSub, Nat.reduceMul, Nat.reduceMod, Nat.reduceDiv, Nat.reduceEqDiff, Nat.reduceLeDiff, Nat.reduceBEq, Int.reduceAdd, Int.reduceSub, Int.reduceMul, Int.reduceNeg, Int.reduceLT, Int.reduceLE, Int.reduceEq, Int.reduceNe, Int.reduceBEq, Int.reduceToNat, Int.reduceTDiv, Int.reduceTMod, Int.reduceOfNat, reduceCtorEq, sty]
        try simp (disch := first | omega | (simp only [List.length_set, List.length_append, List.length_nil, List.length_replicate, outS_len, hwN_len, sumL_len]; done) | (simp only [List.length_set, List.length_append, List.length_nil, List.length_replicate, outS_len, hwN_len, sumL_len]; omega)) only [tn_add, tn_mul, tn_sub, tn_div, tn_mod, Int.toNat_natCast, Int.reduceToNat, wrap_i64', wrap_u64', wrap_u32', wrap_u8', Int.tmod_eq_emod_of_nonneg, Int.tdiv_eq_ediv_of_nonneg, sub_one, sub_all, splice_all, List.length_set, List.length_append, List.length_nil, List.length_replicate, outS_len, hwN_len, sumL_len]
        refine hK1 _ _ ?_
        clear hK1 K1
        simp only [CallTo, AV.mapL, AV.map]
        rw [← l5]
        refine ⟨_, _, pad_ok _ _ J J rfl 0 (by omega) (sub_all rfl) (by omega) _, ?_⟩
        simp only [wT, Bool.not_eq_true, ty, zr, Nat.reduceAdd, Nat.reduceSub, Nat.reduceMul, Nat.reduceMod, Nat.reduceDiv, Nat.reduceEqDiff, Nat.reduceLeDiff, Nat.reduceBEq, Int.reduceAdd, Int.reduceSub, Int.reduceMul, Int.reduceNeg, Int.reduceLT, Int.reduceLE, Int.reduceEq, Int.reduceNe, Int.reduceBEq, Int.reduceToNat, Int.reduceTDiv, Int.reduceTMod, Int.reduceOfNat, reduceCtorEq, sty]
        try simp (disch := first | omega | (simp only [List.length_set, List.length_append, List.length_nil, List.length_replicate, outS_len, hwN_len, sumL_len]; done) | (simp only [List.length_set, List.length_append, List.length_nil, List.length_replicate, outS_len, hwN_len, sumL_len]; omega)) only [tn_add, tn_mul, tn_sub, tn_div, tn_mod, Int.toNat_natCast, Int.reduceToNat, wrap_i64', wrap_u64', wrap_u32', wrap_u8', Int.tmod_eq_emod_of_nonneg, Int.tdiv_eq_ediv_of_nonneg, sub_one, sub_all, splice_all, List.length_set, List.length_append, List.length_nil, List.length_replicate, outS_len, hwN_len, sumL_len]
        simp only [hNK, hQ, hwn]
        (repeat ((with_reducible refine And.intro ?_ ?_); (first | omega | exact True.intro | assumption | rfl)))
        refine hK _ ?_; clear hK K
        refine AWp.grp fun G122 hG122 => ?_
        refine AWp.reg p_law03_ShaOnward_14 [] s_law03_ShaOnward_14 rfl rfl fun K hK => st_of ?_
        simp only [s_law03_ShaOnward_14, wT, Bool.not_eq_true, ty, zr, Nat.reduceAdd, Nat.reduceSub, Nat.reduceMul, Nat.reduceMod, Nat.reduceDiv, Nat.reduceEqDiff, Nat.reduceLeDiff, Nat.reduceBEq, Int.reduceAdd, Int.reduceSub, Int.reduceMul, Int.reduceNeg, Int.reduceLT, Int.reduceLE, Int.reduceEq, Int.reduceNe, Int.reduceBEq, Int.reduceToNat, Int.reduceTDiv, Int.reduceTMod, Int.reduceOfNat, reduceCtorEq, sty]
        try simp (disch := first | omega | (simp only [List.length_set, List.length_append, List.length_nil, List.length_replicate, outS_len, hwN_len, sumL_len]; done) | (simp only [List.length_set, List.length_append, List.length_nil, List.length_replicate, outS_len, hwN_len, sumL_len]; omega)) only [tn_add, tn_mul, tn_sub, tn_div, tn_mod, Int.toNat_natCast, Int.reduceToNat, wrap_i64', wrap_u64', wrap_u32', wrap_u8', Int.tmod_eq_emod_of_nonneg, Int.tdiv_eq_ediv_of_nonneg, sub_one, sub_all, splice_all, List.length_set, List.length_append, List.length_nil, List.length_replicate, outS_len, hwN_len, sumL_len]
        (repeat ((with_reducible refine And.intro ?_ ?_); (first | omega | exact True.intro | assumption | rfl)))
        refine hK _ ?_; clear hK K
        refine AWp.iteE rfl (fun hb => ?_) (fun hb => ?_)
        · try simp only [decide_eq_true_eq, decide_eq_false_iff_not, beq_iff_eq, bne_iff_ne, ne_eq, Bool.not_eq_true, beq_eq_false_iff_ne, bne_eq_false_iff_eq, Bool.not_eq_false, Bool.not_eq_eq_eq_not, Bool.not_true, Bool.not_false] at hb
          (first | exact absurd trivial hb | exact absurd rfl hb | cases hb | (exfalso; omega) | (simp at hb; done))
        · try simp only [decide_eq_true_eq, decide_eq_false_iff_not, beq_iff_eq, bne_iff_ne, ne_eq, Bool.not_eq_true, beq_eq_false_iff_ne, bne_eq_false_iff_eq, Bool.not_eq_false, Bool.not_eq_eq_eq_not, Bool.not_true, Bool.not_false] at hb
          refine AWp.skip ?_
          try simp only [thenQ, bq, lq, lf, iq, gq, Nat.reduceEqDiff, if_true, if_false]
          refine hG122 _ ?_
          try clear hG122 G122
          refine AWp.grp fun G135 hG135 => ?_
          refine AWp.reg p_law03_ShaOnward_16 [] s_law03_ShaOnward_16 rfl rfl fun K hK => st_of ?_
          simp only [s_law03_ShaOnward_16, wT, Bool.not_eq_true, ty, zr, Nat.reduceAdd, Nat.reduceSub, Nat.reduceMul, Nat.reduceMod, Nat.reduceDiv, Nat.reduceEqDiff, Nat.reduceLeDiff, Nat.reduceBEq, Int.reduceAdd, Int.reduceSub, Int.reduceMul, Int.reduceNeg, Int.reduceLT, Int.reduceLE, Int.reduceEq, Int.reduceNe, Int.reduceBEq, Int.reduceToNat, Int.reduceTDiv, Int.reduceTMod, Int.reduceOfNat, reduceCtorEq, sty]
          try simp (disch := first | omega | (simp only [List.length_set, List.length_append, List.length_nil, List.length_replicate, outS_len, hwN_len, sumL_len]; done) | (simp only [List.length_set, List.length_append, List.length_nil, List.length_replicate, outS_len, hwN_len, sumL_len]; omega)) only [tn_add, tn_mul, tn_sub, tn_div, tn_mod, Int.toNat_natCast, Int.reduceToNat, wrap_i64', wrap_u64', wrap_u32', wrap_u8', Int.tmod_eq_emod_of_nonneg, Int.tdiv_eq_ediv_of_nonneg, sub_one, sub_all, splice_all, List.length_set, List.length_append, List.length_nil, List.length_replicate, outS_len, hwN_len, sumL_len]
          (repeat ((with_reducible refine And.intro ?_ ?_); (first | omega | exact True.intro | assumption | rfl)))
          refine hK _ ?_; clear hK K
          refine AWp.lopX (fun n => ⟨[(6, .slice true (.own 3) 0 (64 * A + b.length) 1), (7, .ptr (.own 4) 0), (10, .slice false (.own 5) (64 * (A + n)) (64 * (A + Kb) - 64 * (A + n)) 1)], [none, none, none, some (.ints .u8 J), some (.ints .u32 (foldN firstL Q (A + n))), some (.ints .u8 Q)]⟩) (Kb) ?_ fun X2 hX2 n hn2 => ?_
          · simp only [l5, Nat.add_zero]
            exact Le.of (by first | exact Nat.zero_le _ | simp) (by simp only [leTm, tget, AV.All, AV.AllL, inS, Nat.reduceEqDiff, if_true, if_false]; repeat' (first | exact trivial | rfl | apply And.intro | simp)) (by simp only [leRows, Row.All, AV.AllL, AV.All, inS]; repeat' (first | exact trivial | rfl | apply And.intro | simp))
          have hfn := foldN_len firstL Q rfl (A + n)
          have hcl := compL_len (foldN firstL Q (A + n)) (sub Q (64 * (A + n)) 64) hfn
          refine AWp.grp fun G145 hG145 => ?_
          refine AWp.reg p_law03_ShaOnward_17 [] s_law03_ShaOnward_17 rfl rfl fun K hK => st_of ?_
          simp only [s_law03_ShaOnward_17, wT, Bool.not_eq_true, ty, zr, Nat.reduceAdd, Nat.reduceSub, Nat.reduceMul, Nat.reduceMod, Nat.reduceDiv, Nat.reduceEqDiff, Nat.reduceLeDiff, Nat.reduceBEq, Int.reduceAdd, Int.reduceSub, Int.reduceMul, Int.reduceNeg, Int.reduceLT, Int.reduceLE, Int.reduceEq, Int.reduceNe, Int.reduceBEq, Int.reduceToNat, Int.reduceTDiv, Int.reduceTMod, Int.reduceOfNat, reduceCtorEq, sty]
          try simp (disch := first | omega | (simp only [List.length_set, List.length_append, List.length_nil, List.length_replicate, outS_len, hwN_len, sumL_len]; done) | (simp only [List.length_set, List.length_append, List.length_nil, List.length_replicate, outS_len, hwN_len, sumL_len]; omega)) only [tn_add, tn_mul, tn_sub, tn_div, tn_mod, Int.toNat_natCast, Int.reduceToNat, wrap_i64', wrap_u64', wrap_u32', wrap_u8', Int.tmod_eq_emod_of_nonneg, Int.tdiv_eq_ediv_of_nonneg, sub_one, sub_all, splice_all, List.length_set, List.length_append, List.length_nil, List.length_replicate, outS_len, hwN_len, sumL_len]
          (repeat ((with_reducible refine And.intro ?_ ?_); (first | omega | exact True.intro | assumption | rfl)))
          refine hK _ ?_; clear hK K
          refine AWp.testE rfl (fun hb => ?_) (fun hb => ?_)
          · try simp only [decide_eq_true_eq, decide_eq_false_iff_not, beq_iff_eq, bne_iff_ne, ne_eq, Bool.not_eq_true, beq_eq_false_iff_ne, bne_eq_false_iff_eq, Bool.not_eq_false, Bool.not_eq_eq_eq_not, Bool.not_true, Bool.not_false] at hb
            have hsl : (sub Q (64 * (A + n)) 64).length = 64 := Sy.length_sub (by omega)
            try simp only [thenQ, bq, lq, lf, iq, gq, Nat.reduceEqDiff, if_true, if_false]
            refine hG145 _ ?_
            try clear hG145 G145
            refine AWp.blk fun Y3 hY3 => ?_
            refine AWp.reg p_law03_ShaOnward_19 [] s_law03_ShaOnward_19 rfl rfl fun K hK => st_of ?_
            simp only [s_law03_ShaOnward_19, wT, Bool.not_eq_true, ty, zr, Nat.reduceAdd, Nat.reduceSub, Nat.reduceMul, Nat.reduceMod, Nat.reduceDiv, Nat.reduceEqDiff, Nat.reduceLeDiff, Nat.reduceBEq, Int.reduceAdd, Int.reduceSub, Int.reduceMul, Int.reduceNeg, Int.reduceLT, Int.reduceLE, Int.reduceEq, Int.reduceNe, Int.reduceBEq, Int.reduceToNat, Int.reduceTDiv, Int.reduceTMod, Int.reduceOfNat, reduceCtorEq, sty]
            try simp (disch := first | omega | (simp only [List.length_set, List.length_append, List.length_nil, List.length_replicate, outS_len, hwN_len, sumL_len]; done) | (simp only [List.length_set, List.length_append, List.length_nil, List.length_replicate, outS_len, hwN_len, sumL_len]; omega)) only [tn_add, tn_mul, tn_sub, tn_div, tn_mod, Int.toNat_natCast, Int.reduceToNat, wrap_i64', wrap_u64', wrap_u32', wrap_u8', Int.tmod_eq_emod_of_nonneg, Int.tdiv_eq_ediv_of_nonneg, sub_one, sub_all, splice_all, List.length_set, List.length_append, List.length_nil, List.length_replicate, outS_len, hwN_len, sumL_len]
            (repeat ((with_reducible refine And.intro ?_ ?_); (first | omega | exact True.intro | assumption | rfl)))
            refine hK _ ?_; clear hK K
            refine AWp.reg p_law03_ShaOnward_20 [] s_law03_ShaOnward_20 rfl rfl fun K hK => st_of ?_
            simp only [s_law03_ShaOnward_20, wT, Bool.not_eq_true, ty, zr, Nat.reduceAdd, Nat.reduceSub, Nat.reduceMul, Nat.reduceMod, Nat.reduceDiv, Nat.reduceEqDiff, Nat.reduceLeDiff, Nat.reduceBEq, Int.reduceAdd, Int.reduceSub, Int.reduceMul, Int.reduceNeg, Int.reduceLT, Int.reduceLE, Int.reduceEq, Int.reduceNe, Int.reduceBEq, Int.reduceToNat, Int.reduceTDiv, Int.reduceTMod, Int.reduceOfNat, reduceCtorEq, sty]
            try simp (disch := first | omega | (simp only [List.length_set, List.length_append, List.length_nil, List.length_replicate, outS_len, hwN_len, sumL_len]; done) | (simp only [List.length_set, List.length_append, List.length_nil, List.length_replicate, outS_len, hwN_len, sumL_len]; omega)) only [tn_add, tn_mul, tn_sub, tn_div, tn_mod, Int.toNat_natCast, Int.reduceToNat, wrap_i64', wrap_u64', wrap_u32', wrap_u8', Int.tmod_eq_emod_of_nonneg, Int.tdiv_eq_ediv_of_nonneg, sub_one, sub_all, splice_all, List.length_set, List.length_append, List.length_nil, List.length_replicate, outS_len, hwN_len, sumL_len]
            simp only [show min (64 * (A + Kb) - 64 * (A + n)) 64 = 64 by omega, wT, Bool.not_eq_true, ty, zr, Nat.reduceAdd, Nat.reduceSub, Nat.reduceMul, Nat.reduceMod, Nat.reduceDiv, Nat.reduceEqDiff, Nat.reduceLeDiff, Nat.reduceBEq, Int.reduceAdd, Int.reduceSub, Int.reduceMul, Int.reduceNeg, Int.reduceLT, Int.reduceLE, Int.reduceEq, Int.reduceNe, Int.reduceBEq, Int.reduceToNat, Int.reduceTDiv, Int.reduceTMod, Int.reduceOfNat, reduceCtorEq, sty]
            try simp (disch := first | omega | (simp only [List.length_set, List.length_append, List.length_nil, List.length_replicate, outS_len, hwN_len, sumL_len]; done) | (simp only [List.length_set, List.length_append, List.length_nil, List.length_replicate, outS_len, hwN_len, sumL_len]; omega)) only [tn_add, tn_mul, tn_sub, tn_div, tn_mod, Int.toNat_natCast, Int.reduceToNat, wrap_i64', wrap_u64', wrap_u32', wrap_u8', Int.tmod_eq_emod_of_nonneg, Int.tdiv_eq_ediv_of_nonneg, sub_one, sub_all, splice_all, List.length_set, List.length_append, List.length_nil, List.length_replicate, outS_len, hwN_len, sumL_len]
            (repeat ((with_reducible refine And.intro ?_ ?_); (first | omega | exact True.intro | assumption | rfl)))
            refine hK _ ?_; clear hK K
            refine AWp.regE p_law03_ShaOnward_21 [] s_law03_ShaOnward_21 rfl rfl (st_of ?_)
            simp only [s_law03_ShaOnward_21, wT, Bool.not_eq_true, ty, zr, Nat.reduceAdd, Nat.reduceSub, Nat.reduceMul, Nat.reduceMod, Nat.reduceDiv, Nat.reduceEqDiff, Nat.reduceLeDiff, Nat.reduceBEq, Int.reduceAdd, Int.reduceSub, Int.reduceMul, Int.reduceNeg, Int.reduceLT, Int.reduceLE, Int.reduceEq, Int.reduceNe, Int.reduceBEq, Int.reduceToNat, Int.reduceTDiv, Int.reduceTMod, Int.reduceOfNat, reduceCtorEq, sty]
            try simp (disch := first | omega | (simp only [List.length_set, List.length_append, List.length_nil, List.length_replicate, outS_len, hwN_len, sumL_len]; done) | (simp only [List.length_set, List.length_append, List.length_nil, List.length_replicate, outS_len, hwN_len, sumL_len]; omega)) only [tn_add, tn_mul, tn_sub, tn_div, tn_mod, Int.toNat_natCast, Int.reduceToNat, wrap_i64', wrap_u64', wrap_u32', wrap_u8', Int.tmod_eq_emod_of_nonneg, Int.tdiv_eq_ediv_of_nonneg, sub_one, sub_all, splice_all, List.length_set, List.length_append, List.length_nil, List.length_replicate, outS_len, hwN_len, sumL_len]
            (repeat ((with_reducible refine And.intro ?_ ?_); (first | omega | exact True.intro | assumption | rfl)))
            refine st_call fun K1 hK1 => ?_
            simp only [calleeC, wT, Bool.not_eq_true, ty, zr, Nat.reduceAdd, Nat.reduceSub, Nat.reduceMul, Nat.reduceMod, Nat.reduceDiv, Nat.reduceEqDiff, Nat.reduceLeDiff, Nat.reduceBEq, Int.reduceAdd, Int.reduceSub, Int.reduceMul, Int.reduceNeg, Int.reduceLT, Int.reduceLE, Int.reduceEq, Int.reduceNe, Int.reduceBEq, Int.reduceToNat, Int.reduceTDiv, Int.reduceTMod, Int.reduceOfNat, reduceCtorEq, sty]
            try simp (disch := first | omega | (simp only [List.length_set, List.length_append, List.length_nil, List.length_replicate, outS_len, hwN_len, sumL_len]; done) | (simp only [List.length_set, List.length_append, List.length_nil, List.length_replicate, outS_len, hwN_len, sumL_len]; omega)) only [tn_add, tn_mul, tn_sub, tn_div, tn_mod, Int.toNat_natCast, Int.reduceToNat, wrap_i64', wrap_u64', wrap_u32', wrap_u8', Int.tmod_eq_emod_of_nonneg, Int.tdiv_eq_ediv_of_nonneg, sub_one, sub_all, splice_all, List.length_set, List.length_append, List.length_nil, List.length_replicate, outS_len, hwN_len, sumL_len]
            refine hK1 _ _ ?_
            clear hK1 K1
            simp only [CallTo, AV.mapL, AV.map]
            refine ⟨_, _, comp_ok _ _ _ hfn hsl, ?_⟩
            simp only [wT, Bool.not_eq_true, ty, zr, Nat.reduceAdd, Nat.reduceSub, Nat.reduceMul, Nat.reduceMod, Nat.reduceDiv, Nat.reduceEqDiff, Nat.reduceLeDiff, Nat.reduceBEq, Int.reduceAdd, Int.reduceSub, Int.reduceMul, Int.reduceNeg, Int.reduceLT, Int.reduceLE, Int.reduceEq, Int.reduceNe, Int.reduceBEq, Int.reduceToNat, Int.reduceTDiv, Int.reduceTMod, Int.reduceOfNat, reduceCtorEq, sty]
            try simp (disch := first | omega | (simp only [List.length_set, List.length_append, List.length_nil, List.length_replicate, outS_len, hwN_len, sumL_len]; done) | (simp only [List.length_set, List.length_append, List.length_nil, List.length_replicate, outS_len, hwN_len, sumL_len]; omega)) only [tn_add, tn_mul, tn_sub, tn_div, tn_mod, Int.toNat_natCast, Int.reduceToNat, wrap_i64', wrap_u64', wrap_u32', wrap_u8', Int.tmod_eq_emod_of_nonneg, Int.tdiv_eq_ediv_of_nonneg, sub_one, sub_all, splice_all, List.length_set, List.length_append, List.length_nil, List.length_replicate, outS_len, hwN_len, sumL_len]
            (repeat ((with_reducible refine And.intro ?_ ?_); (first | omega | exact True.intro | assumption | rfl)))
            try simp only [thenQ, bq, lq, lf, iq, gq, Nat.reduceEqDiff, if_true, if_false]
            refine hY3 _ ?_
            try clear hY3 Y3
            refine AWp.regE p_law03_ShaOnward_18 [] s_law03_ShaOnward_18 rfl rfl (st_of ?_)
            simp only [s_law03_ShaOnward_18, wT, Bool.not_eq_true, ty, zr, Nat.reduceAdd, Nat.reduceSub, Nat.reduceMul, Nat.reduceMod, Nat.reduceDiv, Nat.reduceEqDiff, Nat.reduceLeDiff, Nat.reduceBEq, Int.reduceAdd, Int.reduceSub, Int.reduceMul, Int.reduceNeg, Int.reduceLT, Int.reduceLE, Int.reduceEq, Int.reduceNe, Int.reduceBEq, Int.reduceToNat, Int.reduceTDiv, Int.reduceTMod, Int.reduceOfNat, reduceCtorEq, sty]
            try simp (disch := first | omega | (simp only [List.length_set, List.length_append, List.length_nil, List.length_replicate, outS_len, hwN_len, sumL_len]; done) | (simp only [List.length_set, List.length_append, List.length_nil, List.length_replicate, outS_len, hwN_len, sumL_len]; omega)) only [tn_add, tn_mul, tn_sub, tn_div, tn_mod, Int.toNat_natCast, Int.reduceToNat, wrap_i64', wrap_u64', wrap_u32', wrap_u8', Int.tmod_eq_emod_of_nonneg, Int.tdiv_eq_ediv_of_nonneg, sub_one, sub_all, splice_all, List.length_set, List.length_append, List.length_nil, List.length_replicate, outS_len, hwN_len, sumL_len]
            (repeat ((with_reducible refine And.intro ?_ ?_); (first | omega | exact True.intro | assumption | rfl)))
            try simp only [thenQ, bq, lq, lf, iq, gq, Nat.reduceEqDiff, if_true, if_false]
            simp only [← Nat.add_assoc A n 1, foldN_succ]
            first | exact ⟨by omega, Le.of (by first | exact Nat.zero_le _ | simp) (by simp only [leTm, tget, AV.All, AV.AllL, inS, Nat.reduceEqDiff, if_true, if_false]; repeat' (first | exact trivial | rfl | apply And.intro | simp)) (by simp only [leRows, Row.All, AV.AllL, AV.All, inS]; repeat' (first | exact trivial | rfl | apply And.intro | simp))⟩ | exact Le.of (by first | exact Nat.zero_le _ | simp) (by simp only [leTm, tget, AV.All, AV.AllL, inS, Nat.reduceEqDiff, if_true, if_false]; repeat' (first | exact trivial | rfl | apply And.intro | simp)) (by simp only [leRows, Row.All, AV.AllL, AV.All, inS]; repeat' (first | exact trivial | rfl | apply And.intro | simp))
          · try simp only [decide_eq_true_eq, decide_eq_false_iff_not, beq_iff_eq, bne_iff_ne, ne_eq, Bool.not_eq_true, beq_eq_false_iff_ne, bne_eq_false_iff_eq, Bool.not_eq_false, Bool.not_eq_eq_eq_not, Bool.not_true, Bool.not_false] at hb
            try simp only [thenQ, bq, lq, lf, iq, gq, Nat.reduceEqDiff, if_true, if_false]
            refine hX2 _ ?_
            try clear hX2 X2
            rw [show n = Kb by omega]
            try simp only [thenQ, bq, lq, lf, iq, gq, Nat.reduceEqDiff, if_true, if_false]
            refine hG135 _ ?_
            try clear hG135 G135
            refine AWp.reg p_law03_ShaOnward_22 [] s_law03_ShaOnward_22 rfl rfl fun K hK => st_of ?_
            simp only [s_law03_ShaOnward_22, wT, Bool.not_eq_true, ty, zr, Nat.reduceAdd, Nat.reduceSub, Nat.reduceMul, Nat.reduceMod, Nat.reduceDiv, Nat.reduceEqDiff, Nat.reduceLeDiff, Nat.reduceBEq, Int.reduceAdd, Int.reduceSub, Int.reduceMul, Int.reduceNeg, Int.reduceLT, Int.reduceLE, Int.reduceEq, Int.reduceNe, Int.reduceBEq, Int.reduceToNat, Int.reduceTDiv, Int.reduceTMod, Int.reduceOfNat, reduceCtorEq, sty]
            try simp (disch := first | omega | (simp only [List.length_set, List.length_append, List.length_nil, List.length_replicate, outS_len, hwN_len, sumL_len]; done) | (simp only [List.length_set, List.length_append, List.length_nil, List.length_replicate, outS_len, hwN_len, sumL_len]; omega)) only [tn_add, tn_mul, tn_sub, tn_div, tn_mod, Int.toNat_natCast, Int.reduceToNat, wrap_i64', wrap_u64', wrap_u32', wrap_u8', Int.tmod_eq_emod_of_nonneg, Int.tdiv_eq_ediv_of_nonneg, sub_one, sub_all, splice_all, List.length_set, List.length_append, List.length_nil, List.length_replicate, outS_len, hwN_len, sumL_len]
            (repeat ((with_reducible refine And.intro ?_ ?_); (first | omega | exact True.intro | assumption | rfl)))
            refine hK _ ?_; clear hK K
            refine AWp.grp fun G198 hG198 => ?_
            refine AWp.reg p_law03_ShaOnward_23 [] s_law03_ShaOnward_23 rfl rfl fun K hK => st_of ?_
            simp only [s_law03_ShaOnward_23, wT, Bool.not_eq_true, ty, zr, Nat.reduceAdd, Nat.reduceSub, Nat.reduceMul, Nat.reduceMod, Nat.reduceDiv, Nat.reduceEqDiff, Nat.reduceLeDiff, Nat.reduceBEq, Int.reduceAdd, Int.reduceSub, Int.reduceMul, Int.reduceNeg, Int.reduceLT, Int.reduceLE, Int.reduceEq, Int.reduceNe, Int.reduceBEq, Int.reduceToNat, Int.reduceTDiv, Int.reduceTMod, Int.reduceOfNat, reduceCtorEq, sty]
            try simp (disch := first | omega | (simp only [List.length_set, List.length_append, List.length_nil, List.length_replicate, outS_len, hwN_len, sumL_len]; done) | (simp only [List.length_set, List.length_append, List.length_nil, List.length_replicate, outS_len, hwN_len, sumL_len]; omega)) only [tn_add, tn_mul, tn_sub, tn_div, tn_mod, Int.toNat_natCast, Int.reduceToNat, wrap_i64', wrap_u64', wrap_u32', wrap_u8', Int.tmod_eq_emod_of_nonneg, Int.tdiv_eq_ediv_of_nonneg, sub_one, sub_all, splice_all, List.length_set, List.length_append, List.length_nil, List.length_replicate, outS_len, hwN_len, sumL_len]
            (repeat ((with_reducible refine And.intro ?_ ?_); (first | omega | exact True.intro | assumption | rfl)))
            refine hK _ ?_; clear hK K
            refine AWp.lopX (fun i => ⟨[(6, .slice true (.own 3) 0 (64 * A + b.length) 1), (10, .slice false (.own 5) (64 * (A + Kb)) 0 1), (12, .ptr (.own 6) 0), (72, .ints .u32 (foldN firstL Q (A + Kb))), (73, .int .i64 i)], [none, none, none, some (.ints .u8 J), none, none, some (.ints .u8 (outS (foldN firstL Q (A + Kb)) (4 * i)))]⟩) (8) ?_ fun X4 hX4 i hn4 => ?_
            · simp only [Nat.mul_zero, outS_zero, Nat.sub_self]
              exact Le.of (by first | exact Nat.zero_le _ | simp) (by simp only [leTm, tget, AV.All, AV.AllL, inS, Nat.reduceEqDiff, if_true, if_false]; repeat' (first | exact trivial | rfl | apply And.intro | simp)) (by simp only [leRows, Row.All, AV.AllL, AV.All, inS]; repeat' (first | exact trivial | rfl | apply And.intro | simp))
            refine AWp.reg p_law03_ShaOnward_24 [] s_law03_ShaOnward_24 rfl rfl fun K hK => st_of ?_
            simp only [s_law03_ShaOnward_24, wT, Bool.not_eq_true, ty, zr, Nat.reduceAdd, Nat.reduceSub, Nat.reduceMul, Nat.reduceMod, Nat.reduceDiv, Nat.reduceEqDiff, Nat.reduceLeDiff, Nat.reduceBEq, Int.reduceAdd, Int.reduceSub, Int.reduceMul, Int.reduceNeg, Int.reduceLT, Int.reduceLE, Int.reduceEq, Int.reduceNe, Int.reduceBEq, Int.reduceToNat, Int.reduceTDiv, Int.reduceTMod, Int.reduceOfNat, reduceCtorEq, sty]
            try simp (disch := first | omega | (simp only [List.length_set, List.length_append, List.length_nil, List.length_replicate, outS_len, hwN_len, sumL_len]; done) | (simp only [List.length_set, List.length_append, List.length_nil, List.length_replicate, outS_len, hwN_len, sumL_len]; omega)) only [tn_add, tn_mul, tn_sub, tn_div, tn_mod, Int.toNat_natCast, Int.reduceToNat, wrap_i64', wrap_u64', wrap_u32', wrap_u8', Int.tmod_eq_emod_of_nonneg, Int.tdiv_eq_ediv_of_nonneg, sub_one, sub_all, splice_all, List.length_set, List.length_append, List.length_nil, List.length_replicate, outS_len, hwN_len, sumL_len]
            (repeat ((with_reducible refine And.intro ?_ ?_); (first | omega | exact True.intro | assumption | rfl)))
            refine hK _ ?_; clear hK K
            refine AWp.test rfl (fun hb => ?_) (fun hb => ?_)
            · try simp only [decide_eq_true_eq, decide_eq_false_iff_not, beq_iff_eq, bne_iff_ne, ne_eq, Bool.not_eq_true, beq_eq_false_iff_ne, bne_eq_false_iff_eq, Bool.not_eq_false, Bool.not_eq_eq_eq_not, Bool.not_true, Bool.not_false] at hb
              refine AWp.blk fun Y5 hY5 => ?_
              refine AWp.reg p_law03_ShaOnward_25 [] s_law03_ShaOnward_25 rfl rfl fun K hK => st_of ?_
              simp only [s_law03_ShaOnward_25, wT, Bool.not_eq_true, ty, zr, Nat.reduceAdd, Nat.reduceSub, Nat.reduceMul, Nat.reduceMod, Nat.reduceDiv, Nat.reduceEqDiff, Nat.reduceLeDiff, Nat.reduceBEq, Int.reduceAdd, Int.reduceSub, Int.reduceMul, Int.reduceNeg, Int.reduceLT, Int.reduceLE, Int.reduceEq, Int.reduceNe, Int.reduceBEq, Int.reduceToNat, Int.reduceTDiv, Int.reduceTMod, Int.reduceOfNat, reduceCtorEq, sty]
              try simp (disch := first | omega | (simp only [List.length_set, List.length_append, List.length_nil, List.length_replicate, outS_len, hwN_len, sumL_len]; done) | (simp only [List.length_set, List.length_append, List.length_nil, List.length_replicate, outS_len, hwN_len, sumL_len]; omega)) only [tn_add, tn_mul, tn_sub, tn_div, tn_mod, Int.toNat_natCast, Int.reduceToNat, wrap_i64', wrap_u64', wrap_u32', wrap_u8', Int.tmod_eq_emod_of_nonneg, Int.tdiv_eq_ediv_of_nonneg, sub_one, sub_all, splice_all, List.length_set, List.length_append, List.length_nil, List.length_replicate, outS_len, hwN_len, sumL_len]
              (repeat ((with_reducible refine And.intro ?_ ?_); (first | omega | exact True.intro | assumption | rfl)))
              refine hK _ ?_; clear hK K
              refine AWp.regE p_law03_ShaOnward_26 [] s_law03_ShaOnward_26 rfl rfl (st_of ?_)
              simp only [s_law03_ShaOnward_26, wT, Bool.not_eq_true, ty, zr, Nat.reduceAdd, Nat.reduceSub, Nat.reduceMul, Nat.reduceMod, Nat.reduceDiv, Nat.reduceEqDiff, Nat.reduceLeDiff, Nat.reduceBEq, Int.reduceAdd, Int.reduceSub, Int.reduceMul, Int.reduceNeg, Int.reduceLT, Int.reduceLE, Int.reduceEq, Int.reduceNe, Int.reduceBEq, Int.reduceToNat, Int.reduceTDiv, Int.reduceTMod, Int.reduceOfNat, reduceCtorEq, sty]
              try simp (disch := first | omega | (simp only [List.length_set, List.length_append, List.length_nil, List.length_replicate, outS_len, hwN_len, sumL_len]; done) | (simp only [List.length_set, List.length_append, List.length_nil, List.length_replicate, outS_len, hwN_len, sumL_len]; omega)) only [tn_add, tn_mul, tn_sub, tn_div, tn_mod, Int.toNat_natCast, Int.reduceToNat, wrap_i64', wrap_u64', wrap_u32', wrap_u8', Int.tmod_eq_emod_of_nonneg, Int.tdiv_eq_ediv_of_nonneg, sub_one, sub_all, splice_all, List.length_set, List.length_append, List.length_nil, List.length_replicate, outS_len, hwN_len, sumL_len]
              (repeat ((with_reducible refine And.intro ?_ ?_); (first | omega | exact True.intro | assumption | rfl)))
              try simp only [thenQ, bq, lq, lf, iq, gq, Nat.reduceEqDiff, if_true, if_false]
              refine hY5 _ ?_
              try clear hY5 Y5
              refine AWp.regE p_law03_ShaOnward_27 [] s_law03_ShaOnward_27 rfl rfl (st_of ?_)
              simp only [s_law03_ShaOnward_27, wT, Bool.not_eq_true, ty, zr, Nat.reduceAdd, Nat.reduceSub, Nat.reduceMul, Nat.reduceMod, Nat.reduceDiv, Nat.reduceEqDiff, Nat.reduceLeDiff, Nat.reduceBEq, Int.reduceAdd, Int.reduceSub, Int.reduceMul, Int.reduceNeg, Int.reduceLT, Int.reduceLE, Int.reduceEq, Int.reduceNe, Int.reduceBEq, Int.reduceToNat, Int.reduceTDiv, Int.reduceTMod, Int.reduceOfNat, reduceCtorEq, sty]
              try simp (disch := first | omega | (simp only [List.length_set, List.length_append, List.length_nil, List.length_replicate, outS_len, hwN_len, sumL_len]; done) | (simp only [List.length_set, List.length_append, List.length_nil, List.length_replicate, outS_len, hwN_len, sumL_len]; omega)) only [tn_add, tn_mul, tn_sub, tn_div, tn_mod, Int.toNat_natCast, Int.reduceToNat, wrap_i64', wrap_u64', wrap_u32', wrap_u8', Int.tmod_eq_emod_of_nonneg, Int.tdiv_eq_ediv_of_nonneg, sub_one, sub_all, splice_all, List.length_set, List.length_append, List.length_nil, List.length_replicate, outS_len, hwN_len, sumL_len]
              (repeat ((with_reducible refine And.intro ?_ ?_); (first | omega | exact True.intro | assumption | rfl)))
              try simp only [thenQ, bq, lq, lf, iq, gq, Nat.reduceEqDiff, if_true, if_false]
              simp only [outS_word]
              first | exact ⟨by omega, Le.of (by first | exact Nat.zero_le _ | simp) (by simp only [leTm, tget, AV.All, AV.AllL, inS, Nat.reduceEqDiff, if_true, if_false]; repeat' (first | exact trivial | rfl | apply And.intro | simp)) (by simp only [leRows, Row.All, AV.AllL, AV.All, inS]; repeat' (first | exact trivial | rfl | apply And.intro | simp))⟩ | exact Le.of (by first | exact Nat.zero_le _ | simp) (by simp only [leTm, tget, AV.All, AV.AllL, inS, Nat.reduceEqDiff, if_true, if_false]; repeat' (first | exact trivial | rfl | apply And.intro | simp)) (by simp only [leRows, Row.All, AV.AllL, AV.All, inS]; repeat' (first | exact trivial | rfl | apply And.intro | simp))
            · try simp only [decide_eq_true_eq, decide_eq_false_iff_not, beq_iff_eq, bne_iff_ne, ne_eq, Bool.not_eq_true, beq_eq_false_iff_ne, bne_eq_false_iff_eq, Bool.not_eq_false, Bool.not_eq_eq_eq_not, Bool.not_true, Bool.not_false] at hb
              try simp only [thenQ, bq, lq, lf, iq, gq, Nat.reduceEqDiff, if_true, if_false]
              refine hX4 _ ?_
              try clear hX4 X4
              obtain rfl : i = 8 := by omega
              try simp only [thenQ, bq, lq, lf, iq, gq, Nat.reduceEqDiff, if_true, if_false]
              refine hG198 _ ?_
              try clear hG198 G198
              refine AWp.drwP mix p_law03_ShaOnward_28 q_law03_ShaOnward_28 g_law03_ShaOnward_28 s_law03_ShaOnward_28 rfl (by decide +kernel) fun K hK => sp_of ?_
              simp only [s_law03_ShaOnward_28, wT, Bool.not_eq_true, ty, zr, Nat.reduceAdd, Nat.reduceSub, Nat.reduceMul, Nat.reduceMod, Nat.reduceDiv, Nat.reduceEqDiff, Nat.reduceLeDiff, Nat.reduceBEq, Int.reduceAdd, Int.reduceSub, Int.reduceMul, Int.reduceNeg, Int.reduceLT, Int.reduceLE, Int.reduceEq, Int.reduceNe, Int.reduceBEq, Int.reduceToNat, Int.reduceTDiv, Int.reduceTMod, Int.reduceOfNat, reduceCtorEq, sty]
              try simp (disch := first | omega | (simp only [List.length_set, List.length_append, List.length_nil, List.length_replicate, outS_len, hwN_len, sumL_len]; done) | (simp only [List.length_set, List.length_append, List.length_nil, List.length_replicate, outS_len, hwN_len, sumL_len]; omega)) only [tn_add, tn_mul, tn_sub, tn_div, tn_mod, Int.toNat_natCast, Int.reduceToNat, wrap_i64', wrap_u64', wrap_u32', wrap_u8', Int.tmod_eq_emod_of_nonneg, Int.tdiv_eq_ediv_of_nonneg, sub_one, sub_all, splice_all, List.length_set, List.length_append, List.length_nil, List.length_replicate, outS_len, hwN_len, sumL_len]
              (repeat ((with_reducible refine And.intro ?_ ?_); (first | omega | exact True.intro | assumption | rfl)))
              refine sp_call fun K1 hK1 => ?_
              simp only [calleeC, wT, Bool.not_eq_true, ty, zr, Nat.reduceAdd, Nat.reduceSub, Nat.reduceMul, Nat.reduceMod, Nat.reduceDiv, Nat.reduceEqDiff, Nat.reduceLeDiff, Nat.reduceBEq, Int.reduceAdd, Int.reduceSub, Int.reduceMul, Int.reduceNeg, Int.reduceLT, Int.reduceLE, Int.reduceEq, Int.reduceNe, Int.reduceBEq, Int.reduceToNat, Int.reduceTDiv, Int.reduceTMod, Int.reduceOfNat, reduceCtorEq, sty]
              try simp (disch := first | omega | (simp only [List.length_set, List.length_append, List.length_nil, List.length_replicate, outS_len, hwN_len, sumL_len]; done) | (simp only [List.length_set, List.length_append, List.length_nil, List.length_replicate, outS_len, hwN_len, sumL_len]; omega)) only [tn_add, tn_mul, tn_sub, tn_div, tn_mod, Int.toNat_natCast, Int.reduceToNat, wrap_i64', wrap_u64', wrap_u32', wrap_u8', Int.tmod_eq_emod_of_nonneg, Int.tdiv_eq_ediv_of_nonneg, sub_one, sub_all, splice_all, List.length_set, List.length_append, List.length_nil, List.length_replicate, outS_len, hwN_len, sumL_len]
              refine hK1 _ _ ?_
              clear hK1 K1
              simp only [CallTo, AV.mapL, AV.map]
              rw [← l5]
              refine ⟨_, _, sum_ok _ _ J J rfl 0 (by omega) (sub_all rfl) (by omega) _, ?_⟩
              simp only [hsum, wT, Bool.not_eq_true, ty, zr, Nat.reduceAdd, Nat.reduceSub, Nat.reduceMul, Nat.reduceMod, Nat.reduceDiv, Nat.reduceEqDiff, Nat.reduceLeDiff, Nat.reduceBEq, Int.reduceAdd, Int.reduceSub, Int.reduceMul, Int.reduceNeg, Int.reduceLT, Int.reduceLE, Int.reduceEq, Int.reduceNe, Int.reduceBEq, Int.reduceToNat, Int.reduceTDiv, Int.reduceTMod, Int.reduceOfNat, reduceCtorEq, sty]
              try simp (disch := first | omega | (simp only [List.length_set, List.length_append, List.length_nil, List.length_replicate, outS_len, hwN_len, sumL_len]; done) | (simp only [List.length_set, List.length_append, List.length_nil, List.length_replicate, outS_len, hwN_len, sumL_len]; omega)) only [tn_add, tn_mul, tn_sub, tn_div, tn_mod, Int.toNat_natCast, Int.reduceToNat, wrap_i64', wrap_u64', wrap_u32', wrap_u8', Int.tmod_eq_emod_of_nonneg, Int.tdiv_eq_ediv_of_nonneg, sub_one, sub_all, splice_all, List.length_set, List.length_append, List.length_nil, List.length_replicate, outS_len, hwN_len, sumL_len]
              (repeat ((with_reducible refine And.intro ?_ ?_); (first | omega | exact True.intro | assumption | rfl)))
              refine hK _ ?_; clear hK K
              refine AWp.ret ?_
              try simp only [thenQ, bq, lq, lf, iq, gq, Nat.reduceEqDiff, if_true, if_false]
              simp only [endQ, rs_law03_ShaOnward, resC, one, wT, Bool.not_eq_true, ty, zr, Nat.reduceAdd, Nat.reduceSub, Nat.reduceMul, Nat.reduceMod, Nat.reduceDiv, Nat.reduceEqDiff, Nat.reduceLeDiff, Nat.reduceBEq, Int.reduceAdd, Int.reduceSub, Int.reduceMul, Int.reduceNeg, Int.reduceLT, Int.reduceLE, Int.reduceEq, Int.reduceNe, Int.reduceBEq, Int.reduceToNat, Int.reduceTDiv, Int.reduceTMod, Int.reduceOfNat, reduceCtorEq, sty]
              try simp (disch := first | omega | (simp only [List.length_set, List.length_append, List.length_nil, List.length_replicate, outS_len, hwN_len, sumL_len]; done) | (simp only [List.length_set, List.length_append, List.length_nil, List.length_replicate, outS_len, hwN_len, sumL_len]; omega)) only [tn_add, tn_mul, tn_sub, tn_div, tn_mod, Int.toNat_natCast, Int.reduceToNat, wrap_i64', wrap_u64', wrap_u32', wrap_u8', Int.tmod_eq_emod_of_nonneg, Int.tdiv_eq_ediv_of_nonneg, sub_one, sub_all, splice_all, List.length_set, List.length_append, List.length_nil, List.length_replicate, outS_len, hwN_len, sumL_len]
              repeat' (first | exact True.intro | (with_reducible rfl) | (with_reducible apply And.intro) | omega | rfl)
theorem law_ins (ins : List In) (h : insFit Try.prog [22, 22] ins) : FnOk Try.prog 8 (insE ins) (insAv 0 ins) [] (.bool true) [] := by
  match ins, h with
  | [i0, i1], h =>
    obtain ⟨a, rfl, ha, wa⟩ := fits_slc Try.underlying22 Try.underlying5 h.1
    have ba : a.length ≤ 9223372036854775807 := (by have e : Try.prog.bytesOf 5 = 1 := (by kernel_rfl); have := reach_le; rw [e] at ha; omega)
    obtain ⟨b, rfl, hb, wb⟩ := fits_slc Try.underlying22 Try.underlying5 h.2.1
    have bb : b.length ≤ 9223372036854775807 := (by have e : Try.prog.bytesOf 5 = 1 := (by kernel_rfl); have := reach_le; rw [e] at hb; omega)
    by_cases h1 : 300 < a.length ∨ 300 < b.length
    · exact law_long _ 0 1 a b h1
    · exact law_ok _ 0 1 a b rfl rfl (by omega) (by omega)
open Go.ChangeShapes Go.WideShapes Go.ChangeAt Go.RowKit
theorem own : ownKnob Try.prog.godebug = none := by kernel_rfl
theorem laidOut : laidOutB Try.prog = true := by kernel_rfl
set_option maxRecDepth 100000 in
theorem lifted (os : Os) (started : os.Started) (H : Type) (enc : TypeId × Value → H) :
    ReturnsInHanded {} Try.checked os 8 .any (Rows.shaOnwardSpec.pre6 enc Try.prog Try.f8 Rows.shaOnwardRow.domain false) (Rows.shaOnwardSpec.post enc Try.prog Try.f8 false true false false) := by
  refine returnsInHanded_of_change_sized (C := Try.checked) own started (by kernel_rfl) Try.func8
    (ChangeSpec.witness6 (enc := enc) (C := Try.checked) false ⟨#[], #[.slice none 0 0, .slice none 0 0], []⟩ 8 (by kernel_rfl) (by kernel_rfl) (by kernel_rfl) (by kernel_rfl)) ?_
  intro W base args ds gs before hval0 hW hcnd hsz _
  have hW' := hW
  obtain ⟨p, q, hA, hV, rfl, hfz, hnd⟩ := hW
  obtain ⟨rfl, rfl⟩ := trodVars_none hV
  have hA2 := hA
  rw [Try.params8] at hA2
  obtain ⟨ins, hfit, hins⟩ := open_all (P := Try.prog) (W := W) (ts := Try.f8.params.toList) (r := .any) (b0 := base) (by kernel_rfl)
    (fun j t v h1 h2 => hval0 j t v (by simpa using h1) (by simpa using h2))
    (fun j t el sp h1 h2 e he => sized_slice hsz (j := j) (by rw [List.getElem?_append_left (List.getElem?_eq_some_iff.1 h1).1]; exact h1) (by rw [List.getElem?_append_left (List.getElem?_eq_some_iff.1 h2).1]; exact h2) he) hA
  rw [Try.params8] at hfit
  obtain ⟨v0, vs0, d0, ds0, p0, q0, ha0, rfl, hp0, k0, r0⟩ := trodAll_cons hA2
  obtain ⟨v1, vs1, d1, ds1, p1, q1, ha1, rfl, hp1, k1, r1⟩ := trodAll_cons r0
  obtain ⟨_, rfl, _⟩ := trodAll_nil r1
  refine (law_calls (law_ins ins hfit) trivial hins).mono fun e W' ⟨v, he, hv, bel⟩ => ?_
  cases hv
  subst he
  exact ⟨_, rfl, _, _, _, [], _, [], hW', trodAll_mk1 (shut_bool Try.underlying4 _), shut_all laidOut bel (by kernel_rfl) hA, rfl, bel.frame _, fun h => by cases h⟩

theorem over : Rows.shaOnwardRow.holds Try.pinned (OpenSpec.ofChange Rows.shaOnwardSpec) :=
  OpenClaim.holds_of_wide 8 Try.f8 rfl rfl rfl rfl rfl rfl rfl ⟨rfl, rfl, rfl, rfl, rfl⟩ rfl rfl rfl rfl rfl (by kernel_rfl) Try.func8 (by kernel_rfl)
    (of_decide_eq_true (by kernel_rfl)) (by unfold Func.isWrapper; first | (rw [if_pos (by decide +kernel)]; kernel_rfl) | (rw [if_neg (by decide +kernel)]; exact ⟨rfl, rfl⟩))
    (fun os started H enc _ => lifted os started H enc)

/-- The statement. -/
theorem proved : Rows.ShaOnwardSaid := over
end Go.Proofs.Ytjdfgkjadobaaaa
