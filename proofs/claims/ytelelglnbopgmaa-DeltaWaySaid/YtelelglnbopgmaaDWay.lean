/-
  PROVED: 'erewhilelaw22.DeltaWay' returns true for every input and leaves its arguments as they were. No condition.
-/
import Derived.Test.YtelelglnbopgmaaDel2
import Derived.Test.YtelelglnbopgmaaRows
import Derived.WalkKit
import Derived.ProofKit
namespace Go.Proofs.Ytelelglnbopgmaa
open Go Go.Proofs.Ytelelglnbopgmaa.Sy
set_option linter.unusedSimpArgs false
set_option linter.unusedVariables false
set_option maxRecDepth 100000


theorem law_none {α : Type} (E : α → Option (Row α)) (a b c : List Int) (ha : a.length = 32) (hb0 : b.length = 32) (hc : c.length = 32) (p q : Bool) (hp : fitB a b = p) (hq : fitB b c = q) (hpq : (p && q) = false) :
    FnOk Try.prog n_law22_DeltaWay E [.ints .u8 a, .ints .u8 b, .ints .u8 c] [] (.bool true) [] := by
  refine FnOk.pure func_law22_DeltaWay call_law22_DeltaWay (body := _) rfl nt_law22_DeltaWay (by simp) (by simp [AV.solid, AV.solidL]) ?_
  refine AWp.reg p_law22_DeltaWay_0 [] s_law22_DeltaWay_0 rfl rfl fun K hK => st_of ?_
  simp only [s_law22_DeltaWay_0, wT, Bool.not_eq_true, ty, zr, Nat.reduceAdd, Nat.reduceSub, Nat.reduceMul, Nat.reduceMod, Nat.reduceDiv, Nat.reduceEqDiff, Nat.reduceLeDiff, Nat.reduceBEq, Int.reduceAdd, Int.reduceSub, Int.reduceMul, Int.reduceNeg, Int.reduceLT, Int.reduceLE, Int.reduceEq, Int.reduceNe, Int.reduceBEq, Int.reduceToNat, Int.reduceTDiv, Int.reduceTMod, Int.reduceOfNat, reduceCtorEq]
  try simp (disch := first | omega | (simp only [List.length_set, List.length_replicate]; done) | (simp only [List.length_set, List.length_replicate]; omega)) only [wrap_i64', wrap_u64', wrap_u32', wrap_u8', Int.tmod_eq_emod_of_nonneg, Int.tdiv_eq_ediv_of_nonneg, sub_one, sub_all, splice_all, List.length_set, List.length_replicate]
  (repeat ((with_reducible refine And.intro ?_ ?_); (first | omega | exact True.intro | assumption | rfl)))
  refine hK _ ?_; clear hK K
  refine AWp.grp fun G4 hG4 => ?_
  refine AWp.reg p_law22_DeltaWay_1 [] s_law22_DeltaWay_1 rfl rfl fun K hK => st_of ?_
  simp only [s_law22_DeltaWay_1, wT, Bool.not_eq_true, ty, zr, Nat.reduceAdd, Nat.reduceSub, Nat.reduceMul, Nat.reduceMod, Nat.reduceDiv, Nat.reduceEqDiff, Nat.reduceLeDiff, Nat.reduceBEq, Int.reduceAdd, Int.reduceSub, Int.reduceMul, Int.reduceNeg, Int.reduceLT, Int.reduceLE, Int.reduceEq, Int.reduceNe, Int.reduceBEq, Int.reduceToNat, Int.reduceTDiv, Int.reduceTMod, Int.reduceOfNat, reduceCtorEq]
  try simp (disch := first | omega | (simp only [List.length_set, List.length_replicate]; done) | (simp only [List.length_set, List.length_replicate]; omega)) only [wrap_i64', wrap_u64', wrap_u32', wrap_u8', Int.tmod_eq_emod_of_nonneg, Int.tdiv_eq_ediv_of_nonneg, sub_one, sub_all, splice_all, List.length_set, List.length_replicate]
  (repeat ((with_reducible refine And.intro ?_ ?_); (first | omega | exact True.intro | assumption | rfl)))
  refine st_call fun K1 hK1 => ?_
  simp only [calleeC, wT, Bool.not_eq_true, ty, zr, Nat.reduceAdd, Nat.reduceSub, Nat.reduceMul, Nat.reduceMod, Nat.reduceDiv, Nat.reduceEqDiff, Nat.reduceLeDiff, Nat.reduceBEq, Int.reduceAdd, Int.reduceSub, Int.reduceMul, Int.reduceNeg, Int.reduceLT, Int.reduceLE, Int.reduceEq, Int.reduceNe, Int.reduceBEq, Int.reduceToNat, Int.reduceTDiv, Int.reduceTMod, Int.reduceOfNat, reduceCtorEq]
  try simp (disch := first | omega | (simp only [List.length_set, List.length_replicate]; done) | (simp only [List.length_set, List.length_replicate]; omega)) only [wrap_i64', wrap_u64', wrap_u32', wrap_u8', Int.tmod_eq_emod_of_nonneg, Int.tdiv_eq_ediv_of_nonneg, sub_one, sub_all, splice_all, List.length_set, List.length_replicate]
  refine hK1 _ _ ?_
  clear hK1 K1
  simp only [CallTo, AV.mapL, AV.map]
  refine ⟨_, _, awake_ok _, ?_⟩
  simp only [wT, Bool.not_eq_true, ty, zr, Nat.reduceAdd, Nat.reduceSub, Nat.reduceMul, Nat.reduceMod, Nat.reduceDiv, Nat.reduceEqDiff, Nat.reduceLeDiff, Nat.reduceBEq, Int.reduceAdd, Int.reduceSub, Int.reduceMul, Int.reduceNeg, Int.reduceLT, Int.reduceLE, Int.reduceEq, Int.reduceNe, Int.reduceBEq, Int.reduceToNat, Int.reduceTDiv, Int.reduceTMod, Int.reduceOfNat, reduceCtorEq]
  try simp (disch := first | omega | (simp only [List.length_set, List.length_replicate]; done) | (simp only [List.length_set, List.length_replicate]; omega)) only [wrap_i64', wrap_u64', wrap_u32', wrap_u8', Int.tmod_eq_emod_of_nonneg, Int.tdiv_eq_ediv_of_nonneg, sub_one, sub_all, splice_all, List.length_set, List.length_replicate]
  (repeat ((with_reducible refine And.intro ?_ ?_); (first | omega | exact True.intro | assumption | rfl)))
  refine hK _ ?_; clear hK K
  refine AWp.iteE rfl (fun hb => ?_) (fun hb => ?_)
  · try simp only [decide_eq_true_eq, decide_eq_false_iff_not, beq_iff_eq, bne_iff_ne, ne_eq, Bool.not_eq_true, beq_eq_false_iff_ne, bne_eq_false_iff_eq, Bool.not_eq_false, Bool.not_eq_eq_eq_not, Bool.not_true, Bool.not_false] at hb
    (first | exact absurd trivial hb | exact absurd rfl hb | cases hb | (exfalso; omega) | (simp at hb; done))
  · try simp only [decide_eq_true_eq, decide_eq_false_iff_not, beq_iff_eq, bne_iff_ne, ne_eq, Bool.not_eq_true, beq_eq_false_iff_ne, bne_eq_false_iff_eq, Bool.not_eq_false, Bool.not_eq_eq_eq_not, Bool.not_true, Bool.not_false] at hb
    refine AWp.skip ?_
    try simp only [thenQ, bq, lq, lf, iq, gq, Nat.reduceEqDiff, if_true, if_false]
    refine hG4 _ ?_
    try clear hG4 G4
    refine AWp.reg p_law22_DeltaWay_3 [] s_law22_DeltaWay_3 rfl rfl fun K hK => st_of ?_
    simp only [s_law22_DeltaWay_3, wT, Bool.not_eq_true, ty, zr, Nat.reduceAdd, Nat.reduceSub, Nat.reduceMul, Nat.reduceMod, Nat.reduceDiv, Nat.reduceEqDiff, Nat.reduceLeDiff, Nat.reduceBEq, Int.reduceAdd, Int.reduceSub, Int.reduceMul, Int.reduceNeg, Int.reduceLT, Int.reduceLE, Int.reduceEq, Int.reduceNe, Int.reduceBEq, Int.reduceToNat, Int.reduceTDiv, Int.reduceTMod, Int.reduceOfNat, reduceCtorEq]
    try simp (disch := first | omega | (simp only [List.length_set, List.length_replicate]; done) | (simp only [List.length_set, List.length_replicate]; omega)) only [wrap_i64', wrap_u64', wrap_u32', wrap_u8', Int.tmod_eq_emod_of_nonneg, Int.tdiv_eq_ediv_of_nonneg, sub_one, sub_all, splice_all, List.length_set, List.length_replicate]
    (repeat ((with_reducible refine And.intro ?_ ?_); (first | omega | exact True.intro | assumption | rfl)))
    refine st_call fun K1 hK1 => ?_
    simp only [calleeC, wT, Bool.not_eq_true, ty, zr, Nat.reduceAdd, Nat.reduceSub, Nat.reduceMul, Nat.reduceMod, Nat.reduceDiv, Nat.reduceEqDiff, Nat.reduceLeDiff, Nat.reduceBEq, Int.reduceAdd, Int.reduceSub, Int.reduceMul, Int.reduceNeg, Int.reduceLT, Int.reduceLE, Int.reduceEq, Int.reduceNe, Int.reduceBEq, Int.reduceToNat, Int.reduceTDiv, Int.reduceTMod, Int.reduceOfNat, reduceCtorEq]
    try simp (disch := first | omega | (simp only [List.length_set, List.length_replicate]; done) | (simp only [List.length_set, List.length_replicate]; omega)) only [wrap_i64', wrap_u64', wrap_u32', wrap_u8', Int.tmod_eq_emod_of_nonneg, Int.tdiv_eq_ediv_of_nonneg, sub_one, sub_all, splice_all, List.length_set, List.length_replicate]
    refine hK1 _ _ ?_
    clear hK1 K1
    simp only [CallTo, AV.mapL, AV.map]
    refine ⟨_, _, make_as _ _ p ha hb0 rfl hp, ?_⟩
    simp only [wT, Bool.not_eq_true, ty, zr, Nat.reduceAdd, Nat.reduceSub, Nat.reduceMul, Nat.reduceMod, Nat.reduceDiv, Nat.reduceEqDiff, Nat.reduceLeDiff, Nat.reduceBEq, Int.reduceAdd, Int.reduceSub, Int.reduceMul, Int.reduceNeg, Int.reduceLT, Int.reduceLE, Int.reduceEq, Int.reduceNe, Int.reduceBEq, Int.reduceToNat, Int.reduceTDiv, Int.reduceTMod, Int.reduceOfNat, reduceCtorEq]
    try simp (disch := first | omega | (simp only [List.length_set, List.length_replicate]; done) | (simp only [List.length_set, List.length_replicate]; omega)) only [wrap_i64', wrap_u64', wrap_u32', wrap_u8', Int.tmod_eq_emod_of_nonneg, Int.tdiv_eq_ediv_of_nonneg, sub_one, sub_all, splice_all, List.length_set, List.length_replicate]
    (repeat ((with_reducible refine And.intro ?_ ?_); (first | omega | exact True.intro | assumption | rfl)))
    refine hK _ ?_; clear hK K
    refine AWp.reg p_law22_DeltaWay_4 [] s_law22_DeltaWay_4 rfl rfl fun K hK => st_of ?_
    simp only [s_law22_DeltaWay_4, wT, Bool.not_eq_true, ty, zr, Nat.reduceAdd, Nat.reduceSub, Nat.reduceMul, Nat.reduceMod, Nat.reduceDiv, Nat.reduceEqDiff, Nat.reduceLeDiff, Nat.reduceBEq, Int.reduceAdd, Int.reduceSub, Int.reduceMul, Int.reduceNeg, Int.reduceLT, Int.reduceLE, Int.reduceEq, Int.reduceNe, Int.reduceBEq, Int.reduceToNat, Int.reduceTDiv, Int.reduceTMod, Int.reduceOfNat, reduceCtorEq]
    try simp (disch := first | omega | (simp only [List.length_set, List.length_replicate]; done) | (simp only [List.length_set, List.length_replicate]; omega)) only [wrap_i64', wrap_u64', wrap_u32', wrap_u8', Int.tmod_eq_emod_of_nonneg, Int.tdiv_eq_ediv_of_nonneg, sub_one, sub_all, splice_all, List.length_set, List.length_replicate]
    (repeat ((with_reducible refine And.intro ?_ ?_); (first | omega | exact True.intro | assumption | rfl)))
    refine st_call fun K1 hK1 => ?_
    simp only [calleeC, wT, Bool.not_eq_true, ty, zr, Nat.reduceAdd, Nat.reduceSub, Nat.reduceMul, Nat.reduceMod, Nat.reduceDiv, Nat.reduceEqDiff, Nat.reduceLeDiff, Nat.reduceBEq, Int.reduceAdd, Int.reduceSub, Int.reduceMul, Int.reduceNeg, Int.reduceLT, Int.reduceLE, Int.reduceEq, Int.reduceNe, Int.reduceBEq, Int.reduceToNat, Int.reduceTDiv, Int.reduceTMod, Int.reduceOfNat, reduceCtorEq]
    try simp (disch := first | omega | (simp only [List.length_set, List.length_replicate]; done) | (simp only [List.length_set, List.length_replicate]; omega)) only [wrap_i64', wrap_u64', wrap_u32', wrap_u8', Int.tmod_eq_emod_of_nonneg, Int.tdiv_eq_ediv_of_nonneg, sub_one, sub_all, splice_all, List.length_set, List.length_replicate]
    refine hK1 _ _ ?_
    clear hK1 K1
    simp only [CallTo, AV.mapL, AV.map]
    refine ⟨_, _, make_as _ _ q hb0 hc rfl hq, ?_⟩
    simp only [wT, Bool.not_eq_true, ty, zr, Nat.reduceAdd, Nat.reduceSub, Nat.reduceMul, Nat.reduceMod, Nat.reduceDiv, Nat.reduceEqDiff, Nat.reduceLeDiff, Nat.reduceBEq, Int.reduceAdd, Int.reduceSub, Int.reduceMul, Int.reduceNeg, Int.reduceLT, Int.reduceLE, Int.reduceEq, Int.reduceNe, Int.reduceBEq, Int.reduceToNat, Int.reduceTDiv, Int.reduceTMod, Int.reduceOfNat, reduceCtorEq]
    try simp (disch := first | omega | (simp only [List.length_set, List.length_replicate]; done) | (simp only [List.length_set, List.length_replicate]; omega)) only [wrap_i64', wrap_u64', wrap_u32', wrap_u8', Int.tmod_eq_emod_of_nonneg, Int.tdiv_eq_ediv_of_nonneg, sub_one, sub_all, splice_all, List.length_set, List.length_replicate]
    (repeat ((with_reducible refine And.intro ?_ ?_); (first | omega | exact True.intro | assumption | rfl)))
    refine hK _ ?_; clear hK K
    refine AWp.reg p_law22_DeltaWay_5 [] s_law22_DeltaWay_5 rfl rfl fun K hK => st_of ?_
    simp only [s_law22_DeltaWay_5, wT, Bool.not_eq_true, ty, zr, Nat.reduceAdd, Nat.reduceSub, Nat.reduceMul, Nat.reduceMod, Nat.reduceDiv, Nat.reduceEqDiff, Nat.reduceLeDiff, Nat.reduceBEq, Int.reduceAdd, Int.reduceSub, Int.reduceMul, Int.reduceNeg, Int.reduceLT, Int.reduceLE, Int.reduceEq, Int.reduceNe, Int.reduceBEq, Int.reduceToNat, Int.reduceTDiv, Int.reduceTMod, Int.reduceOfNat, reduceCtorEq]
    try simp (disch := first | omega | (simp only [List.length_set, List.length_replicate]; done) | (simp only [List.length_set, List.length_replicate]; omega)) only [wrap_i64', wrap_u64', wrap_u32', wrap_u8', Int.tmod_eq_emod_of_nonneg, Int.tdiv_eq_ediv_of_nonneg, sub_one, sub_all, splice_all, List.length_set, List.length_replicate]
    (repeat ((with_reducible refine And.intro ?_ ?_); (first | omega | exact True.intro | assumption | rfl)))
    refine st_call fun K1 hK1 => ?_
    simp only [calleeC, wT, Bool.not_eq_true, ty, zr, Nat.reduceAdd, Nat.reduceSub, Nat.reduceMul, Nat.reduceMod, Nat.reduceDiv, Nat.reduceEqDiff, Nat.reduceLeDiff, Nat.reduceBEq, Int.reduceAdd, Int.reduceSub, Int.reduceMul, Int.reduceNeg, Int.reduceLT, Int.reduceLE, Int.reduceEq, Int.reduceNe, Int.reduceBEq, Int.reduceToNat, Int.reduceTDiv, Int.reduceTMod, Int.reduceOfNat, reduceCtorEq]
    try simp (disch := first | omega | (simp only [List.length_set, List.length_replicate]; done) | (simp only [List.length_set, List.length_replicate]; omega)) only [wrap_i64', wrap_u64', wrap_u32', wrap_u8', Int.tmod_eq_emod_of_nonneg, Int.tdiv_eq_ediv_of_nonneg, sub_one, sub_all, splice_all, List.length_set, List.length_replicate]
    refine hK1 _ _ ?_
    clear hK1 K1
    simp only [CallTo, AV.mapL, AV.map]
    refine ⟨_, _, make_as _ _ _ ha hc rfl rfl, ?_⟩
    simp only [wT, Bool.not_eq_true, ty, zr, Nat.reduceAdd, Nat.reduceSub, Nat.reduceMul, Nat.reduceMod, Nat.reduceDiv, Nat.reduceEqDiff, Nat.reduceLeDiff, Nat.reduceBEq, Int.reduceAdd, Int.reduceSub, Int.reduceMul, Int.reduceNeg, Int.reduceLT, Int.reduceLE, Int.reduceEq, Int.reduceNe, Int.reduceBEq, Int.reduceToNat, Int.reduceTDiv, Int.reduceTMod, Int.reduceOfNat, reduceCtorEq]
    try simp (disch := first | omega | (simp only [List.length_set, List.length_replicate]; done) | (simp only [List.length_set, List.length_replicate]; omega)) only [wrap_i64', wrap_u64', wrap_u32', wrap_u8', Int.tmod_eq_emod_of_nonneg, Int.tdiv_eq_ediv_of_nonneg, sub_one, sub_all, splice_all, List.length_set, List.length_replicate]
    (repeat ((with_reducible refine And.intro ?_ ?_); (first | omega | exact True.intro | assumption | rfl)))
    refine hK _ ?_; clear hK K
    refine AWp.grp fun G61 hG61 => ?_
    refine AWp.regJ p_law22_DeltaWay_6 [] s_law22_DeltaWay_6 ⟨[(44, .bool true)], []⟩ rfl rfl (fun K hK => st_of ?_) ?_
    · simp only [s_law22_DeltaWay_6, wT, Bool.not_eq_true, ty, zr, Nat.reduceAdd, Nat.reduceSub, Nat.reduceMul, Nat.reduceMod, Nat.reduceDiv, Nat.reduceEqDiff, Nat.reduceLeDiff, Nat.reduceBEq, Int.reduceAdd, Int.reduceSub, Int.reduceMul, Int.reduceNeg, Int.reduceLT, Int.reduceLE, Int.reduceEq, Int.reduceNe, Int.reduceBEq, Int.reduceToNat, Int.reduceTDiv, Int.reduceTMod, Int.reduceOfNat, reduceCtorEq]
      try simp (disch := first | omega | (simp only [List.length_set, List.length_replicate]; done) | (simp only [List.length_set, List.length_replicate]; omega)) only [wrap_i64', wrap_u64', wrap_u32', wrap_u8', Int.tmod_eq_emod_of_nonneg, Int.tdiv_eq_ediv_of_nonneg, sub_one, sub_all, splice_all, List.length_set, List.length_replicate]
      refine ⟨fun h => ?_, fun h => ?_⟩
      · exact hK _ (Le.of (by first | exact Nat.zero_le _ | simp) (by simp only [leTm, tget, AV.All, AV.AllL, inS, Nat.reduceEqDiff, if_true, if_false]; repeat' (first | exact trivial | rfl | apply And.intro | simp)) (by simp only [leRows, Row.All, AV.AllL, AV.All, inS]; repeat' (first | exact trivial | rfl | apply And.intro | simp)))
      · rw [show q = false by cases p <;> simp_all]
        exact hK _ (Le.of (by first | exact Nat.zero_le _ | simp) (by simp only [leTm, tget, AV.All, AV.AllL, inS, Nat.reduceEqDiff, if_true, if_false]; repeat' (first | exact trivial | rfl | apply And.intro | simp)) (by simp only [leRows, Row.All, AV.AllL, AV.All, inS]; repeat' (first | exact trivial | rfl | apply And.intro | simp)))
    refine AWp.iteE rfl (fun hb => ?_) (fun hb => ?_)
    · try simp only [decide_eq_true_eq, decide_eq_false_iff_not, beq_iff_eq, bne_iff_ne, ne_eq, Bool.not_eq_true, beq_eq_false_iff_ne, bne_eq_false_iff_eq, Bool.not_eq_false, Bool.not_eq_eq_eq_not, Bool.not_true, Bool.not_false] at hb
      refine AWp.reg p_law22_DeltaWay_7 [] s_law22_DeltaWay_7 rfl rfl fun K hK => st_of ?_
      simp only [s_law22_DeltaWay_7, wT, Bool.not_eq_true, ty, zr, Nat.reduceAdd, Nat.reduceSub, Nat.reduceMul, Nat.reduceMod, Nat.reduceDiv, Nat.reduceEqDiff, Nat.reduceLeDiff, Nat.reduceBEq, Int.reduceAdd, Int.reduceSub, Int.reduceMul, Int.reduceNeg, Int.reduceLT, Int.reduceLE, Int.reduceEq, Int.reduceNe, Int.reduceBEq, Int.reduceToNat, Int.reduceTDiv, Int.reduceTMod, Int.reduceOfNat, reduceCtorEq]
      try simp (disch := first | omega | (simp only [List.length_set, List.length_replicate]; done) | (simp only [List.length_set, List.length_replicate]; omega)) only [wrap_i64', wrap_u64', wrap_u32', wrap_u8', Int.tmod_eq_emod_of_nonneg, Int.tdiv_eq_ediv_of_nonneg, sub_one, sub_all, splice_all, List.length_set, List.length_replicate]
      (repeat ((with_reducible refine And.intro ?_ ?_); (first | omega | exact True.intro | assumption | rfl)))
      refine hK _ ?_; clear hK K
      refine AWp.ret ?_
      try simp only [thenQ, bq, lq, lf, iq, gq, Nat.reduceEqDiff, if_true, if_false]
      simp only [endQ, rs_law22_DeltaWay, resC, one, wT, Bool.not_eq_true, ty, zr, Nat.reduceAdd, Nat.reduceSub, Nat.reduceMul, Nat.reduceMod, Nat.reduceDiv, Nat.reduceEqDiff, Nat.reduceLeDiff, Nat.reduceBEq, Int.reduceAdd, Int.reduceSub, Int.reduceMul, Int.reduceNeg, Int.reduceLT, Int.reduceLE, Int.reduceEq, Int.reduceNe, Int.reduceBEq, Int.reduceToNat, Int.reduceTDiv, Int.reduceTMod, Int.reduceOfNat, reduceCtorEq]
      try simp (disch := first | omega | (simp only [List.length_set, List.length_replicate]; done) | (simp only [List.length_set, List.length_replicate]; omega)) only [wrap_i64', wrap_u64', wrap_u32', wrap_u8', Int.tmod_eq_emod_of_nonneg, Int.tdiv_eq_ediv_of_nonneg, sub_one, sub_all, splice_all, List.length_set, List.length_replicate]
      repeat' (first | exact True.intro | (with_reducible rfl) | (with_reducible apply And.intro) | omega | rfl)
    · try simp only [decide_eq_true_eq, decide_eq_false_iff_not, beq_iff_eq, bne_iff_ne, ne_eq, Bool.not_eq_true, beq_eq_false_iff_ne, bne_eq_false_iff_eq, Bool.not_eq_false, Bool.not_eq_eq_eq_not, Bool.not_true, Bool.not_false] at hb
      cases hb
theorem law_ok {α : Type} (E : α → Option (Row α)) (a b c : List Int) (ha : a.length = 32) (hb0 : b.length = 32) (hc : c.length = 32) (hp : fitB a b = true) (hq : fitB b c = true) (d e g z : List Int) (hd : makeL a b = d) (he : makeL b c = e) (hg : makeL a c = g) (hyd : By d) (hye : By e) (hyg : By g)
    (hld : d.length ≤ 1088) (hle : e.length ≤ 1088) (hlg : g.length ≤ 20) (gd : goesB d = true) (ge : goesB e = true) (gg : goesB g = true) (rd : goesL d a = b) (re : goesL e b = c) (rg : goesL g a = z) (hz : z.length = 32) (f : Bool) (hf : fitB a c = f) (hzf : f = true → z = c) :
    FnOk Try.prog n_law22_DeltaWay E [.ints .u8 a, .ints .u8 b, .ints .u8 c] [] (.bool true) [] := by
  have d1 : decide ((g.length : Int) ≤ 20) = true := decide_eq_true (by omega)
  refine FnOk.pure func_law22_DeltaWay call_law22_DeltaWay (body := _) rfl nt_law22_DeltaWay (by simp) (by simp [AV.solid, AV.solidL]) ?_
  refine AWp.reg p_law22_DeltaWay_0 [] s_law22_DeltaWay_0 rfl rfl fun K hK => st_of ?_
  simp only [s_law22_DeltaWay_0, wT, Bool.not_eq_true, ty, zr, Nat.reduceAdd, Nat.reduceSub, Nat.reduceMul, Nat.reduceMod, Nat.reduceDiv, Nat.reduceEqDiff, Nat.reduceLeDiff, Nat.reduceBEq, Int.reduceAdd, Int.reduceSub, Int.reduceMul, Int.reduceNeg, Int.reduceLT, Int.reduceLE, Int.reduceEq, Int.reduceNe, Int.reduceBEq, Int.reduceToNat, Int.reduceTDiv, Int.reduceTMod, Int.reduceOfNat, reduceCtorEq]
  try simp (disch := first | omega | (simp only [List.length_set, List.length_replicate]; done) | (simp only [List.length_set, List.length_replicate]; omega)) only [wrap_i64', wrap_u64', wrap_u32', wrap_u8', Int.tmod_eq_emod_of_nonneg, Int.tdiv_eq_ediv_of_nonneg, sub_one, sub_all, splice_all, List.length_set, List.length_replicate]
  (repeat ((with_reducible refine And.intro ?_ ?_); (first | omega | exact True.intro | assumption | rfl)))
  refine hK _ ?_; clear hK K
  refine AWp.grp fun G4 hG4 => ?_
  refine AWp.reg p_law22_DeltaWay_1 [] s_law22_DeltaWay_1 rfl rfl fun K hK => st_of ?_
  simp only [s_law22_DeltaWay_1, wT, Bool.not_eq_true, ty, zr, Nat.reduceAdd, Nat.reduceSub, Nat.reduceMul, Nat.reduceMod, Nat.reduceDiv, Nat.reduceEqDiff, Nat.reduceLeDiff, Nat.reduceBEq, Int.reduceAdd, Int.reduceSub, Int.reduceMul, Int.reduceNeg, Int.reduceLT, Int.reduceLE, Int.reduceEq, Int.reduceNe, Int.reduceBEq, Int.reduceToNat, Int.reduceTDiv, Int.reduceTMod, Int.reduceOfNat, reduceCtorEq]
  try simp (disch := first | omega | (simp only [List.length_set, List.length_replicate]; done) | (simp only [List.length_set, List.length_replicate]; omega)) only [wrap_i64', wrap_u64', wrap_u32', wrap_u8', Int.tmod_eq_emod_of_nonneg, Int.tdiv_eq_ediv_of_nonneg, sub_one, sub_all, splice_all, List.length_set, List.length_replicate]
  (repeat ((with_reducible refine And.intro ?_ ?_); (first | omega | exact True.intro | assumption | rfl)))
  refine st_call fun K1 hK1 => ?_
  simp only [calleeC, wT, Bool.not_eq_true, ty, zr, Nat.reduceAdd, Nat.reduceSub, Nat.reduceMul, Nat.reduceMod, Nat.reduceDiv, Nat.reduceEqDiff, Nat.reduceLeDiff, Nat.reduceBEq, Int.reduceAdd, Int.reduceSub, Int.reduceMul, Int.reduceNeg, Int.reduceLT, Int.reduceLE, Int.reduceEq, Int.reduceNe, Int.reduceBEq, Int.reduceToNat, Int.reduceTDiv, Int.reduceTMod, Int.reduceOfNat, reduceCtorEq]
  try simp (disch := first | omega | (simp only [List.length_set, List.length_replicate]; done) | (simp only [List.length_set, List.length_replicate]; omega)) only [wrap_i64', wrap_u64', wrap_u32', wrap_u8', Int.tmod_eq_emod_of_nonneg, Int.tdiv_eq_ediv_of_nonneg, sub_one, sub_all, splice_all, List.length_set, List.length_replicate]
  refine hK1 _ _ ?_
  clear hK1 K1
  simp only [CallTo, AV.mapL, AV.map]
  refine ⟨_, _, awake_ok _, ?_⟩
  simp only [wT, Bool.not_eq_true, ty, zr, Nat.reduceAdd, Nat.reduceSub, Nat.reduceMul, Nat.reduceMod, Nat.reduceDiv, Nat.reduceEqDiff, Nat.reduceLeDiff, Nat.reduceBEq, Int.reduceAdd, Int.reduceSub, Int.reduceMul, Int.reduceNeg, Int.reduceLT, Int.reduceLE, Int.reduceEq, Int.reduceNe, Int.reduceBEq, Int.reduceToNat, Int.reduceTDiv, Int.reduceTMod, Int.reduceOfNat, reduceCtorEq]
  try simp (disch := first | omega | (simp only [List.length_set, List.length_replicate]; done) | (simp only [List.length_set, List.length_replicate]; omega)) only [wrap_i64', wrap_u64', wrap_u32', wrap_u8', Int.tmod_eq_emod_of_nonneg, Int.tdiv_eq_ediv_of_nonneg, sub_one, sub_all, splice_all, List.length_set, List.length_replicate]
  (repeat ((with_reducible refine And.intro ?_ ?_); (first | omega | exact True.intro | assumption | rfl)))
  refine hK _ ?_; clear hK K
  refine AWp.iteE rfl (fun hb => ?_) (fun hb => ?_)
  · try simp only [decide_eq_true_eq, decide_eq_false_iff_not, beq_iff_eq, bne_iff_ne, ne_eq, Bool.not_eq_true, beq_eq_false_iff_ne, bne_eq_false_iff_eq, Bool.not_eq_false, Bool.not_eq_eq_eq_not, Bool.not_true, Bool.not_false] at hb
    (first | exact absurd trivial hb | exact absurd rfl hb | cases hb | (exfalso; omega) | (simp at hb; done))
  · try simp only [decide_eq_true_eq, decide_eq_false_iff_not, beq_iff_eq, bne_iff_ne, ne_eq, Bool.not_eq_true, beq_eq_false_iff_ne, bne_eq_false_iff_eq, Bool.not_eq_false, Bool.not_eq_eq_eq_not, Bool.not_true, Bool.not_false] at hb
    refine AWp.skip ?_
    try simp only [thenQ, bq, lq, lf, iq, gq, Nat.reduceEqDiff, if_true, if_false]
    refine hG4 _ ?_
    try clear hG4 G4
    refine AWp.reg p_law22_DeltaWay_3 [] s_law22_DeltaWay_3 rfl rfl fun K hK => st_of ?_
    simp only [s_law22_DeltaWay_3, wT, Bool.not_eq_true, ty, zr, Nat.reduceAdd, Nat.reduceSub, Nat.reduceMul, Nat.reduceMod, Nat.reduceDiv, Nat.reduceEqDiff, Nat.reduceLeDiff, Nat.reduceBEq, Int.reduceAdd, Int.reduceSub, Int.reduceMul, Int.reduceNeg, Int.reduceLT, Int.reduceLE, Int.reduceEq, Int.reduceNe, Int.reduceBEq, Int.reduceToNat, Int.reduceTDiv, Int.reduceTMod, Int.reduceOfNat, reduceCtorEq]
    try simp (disch := first | omega | (simp only [List.length_set, List.length_replicate]; done) | (simp only [List.length_set, List.length_replicate]; omega)) only [wrap_i64', wrap_u64', wrap_u32', wrap_u8', Int.tmod_eq_emod_of_nonneg, Int.tdiv_eq_ediv_of_nonneg, sub_one, sub_all, splice_all, List.length_set, List.length_replicate]
    (repeat ((with_reducible refine And.intro ?_ ?_); (first | omega | exact True.intro | assumption | rfl)))
    refine st_call fun K1 hK1 => ?_
    simp only [calleeC, wT, Bool.not_eq_true, ty, zr, Nat.reduceAdd, Nat.reduceSub, Nat.reduceMul, Nat.reduceMod, Nat.reduceDiv, Nat.reduceEqDiff, Nat.reduceLeDiff, Nat.reduceBEq, Int.reduceAdd, Int.reduceSub, Int.reduceMul, Int.reduceNeg, Int.reduceLT, Int.reduceLE, Int.reduceEq, Int.reduceNe, Int.reduceBEq, Int.reduceToNat, Int.reduceTDiv, Int.reduceTMod, Int.reduceOfNat, reduceCtorEq]
    try simp (disch := first | omega | (simp only [List.length_set, List.length_replicate]; done) | (simp only [List.length_set, List.length_replicate]; omega)) only [wrap_i64', wrap_u64', wrap_u32', wrap_u8', Int.tmod_eq_emod_of_nonneg, Int.tdiv_eq_ediv_of_nonneg, sub_one, sub_all, splice_all, List.length_set, List.length_replicate]
    refine hK1 _ _ ?_
    clear hK1 K1
    simp only [CallTo, AV.mapL, AV.map]
    refine ⟨_, _, make_as _ d true ha hb0 hd hp, ?_⟩
    simp only [wT, Bool.not_eq_true, ty, zr, Nat.reduceAdd, Nat.reduceSub, Nat.reduceMul, Nat.reduceMod, Nat.reduceDiv, Nat.reduceEqDiff, Nat.reduceLeDiff, Nat.reduceBEq, Int.reduceAdd, Int.reduceSub, Int.reduceMul, Int.reduceNeg, Int.reduceLT, Int.reduceLE, Int.reduceEq, Int.reduceNe, Int.reduceBEq, Int.reduceToNat, Int.reduceTDiv, Int.reduceTMod, Int.reduceOfNat, reduceCtorEq]
    try simp (disch := first | omega | (simp only [List.length_set, List.length_replicate]; done) | (simp only [List.length_set, List.length_replicate]; omega)) only [wrap_i64', wrap_u64', wrap_u32', wrap_u8', Int.tmod_eq_emod_of_nonneg, Int.tdiv_eq_ediv_of_nonneg, sub_one, sub_all, splice_all, List.length_set, List.length_replicate]
    (repeat ((with_reducible refine And.intro ?_ ?_); (first | omega | exact True.intro | assumption | rfl)))
    refine hK _ ?_; clear hK K
    refine AWp.reg p_law22_DeltaWay_4 [] s_law22_DeltaWay_4 rfl rfl fun K hK => st_of ?_
    simp only [s_law22_DeltaWay_4, wT, Bool.not_eq_true, ty, zr, Nat.reduceAdd, Nat.reduceSub, Nat.reduceMul, Nat.reduceMod, Nat.reduceDiv, Nat.reduceEqDiff, Nat.reduceLeDiff, Nat.reduceBEq, Int.reduceAdd, Int.reduceSub, Int.reduceMul, Int.reduceNeg, Int.reduceLT, Int.reduceLE, Int.reduceEq, Int.reduceNe, Int.reduceBEq, Int.reduceToNat, Int.reduceTDiv, Int.reduceTMod, Int.reduceOfNat, reduceCtorEq]
    try simp (disch := first | omega | (simp only [List.length_set, List.length_replicate]; done) | (simp only [List.length_set, List.length_replicate]; omega)) only [wrap_i64', wrap_u64', wrap_u32', wrap_u8', Int.tmod_eq_emod_of_nonneg, Int.tdiv_eq_ediv_of_nonneg, sub_one, sub_all, splice_all, List.length_set, List.length_replicate]
    (repeat ((with_reducible refine And.intro ?_ ?_); (first | omega | exact True.intro | assumption | rfl)))
    refine st_call fun K1 hK1 => ?_
    simp only [calleeC, wT, Bool.not_eq_true, ty, zr, Nat.reduceAdd, Nat.reduceSub, Nat.reduceMul, Nat.reduceMod, Nat.reduceDiv, Nat.reduceEqDiff, Nat.reduceLeDiff, Nat.reduceBEq, Int.reduceAdd, Int.reduceSub, Int.reduceMul, Int.reduceNeg, Int.reduceLT, Int.reduceLE, Int.reduceEq, Int.reduceNe, Int.reduceBEq, Int.reduceToNat, Int.reduceTDiv, Int.reduceTMod, Int.reduceOfNat, reduceCtorEq]
    try simp (disch := first | omega | (simp only [List.length_set, List.length_replicate]; done) | (simp only [List.length_set, List.length_replicate]; omega)) only [wrap_i64', wrap_u64', wrap_u32', wrap_u8', Int.tmod_eq_emod_of_nonneg, Int.tdiv_eq_ediv_of_nonneg, sub_one, sub_all, splice_all, List.length_set, List.length_replicate]
    refine hK1 _ _ ?_
    clear hK1 K1
    simp only [CallTo, AV.mapL, AV.map]
    refine ⟨_, _, make_as _ e true hb0 hc he hq, ?_⟩
    simp only [wT, Bool.not_eq_true, ty, zr, Nat.reduceAdd, Nat.reduceSub, Nat.reduceMul, Nat.reduceMod, Nat.reduceDiv, Nat.reduceEqDiff, Nat.reduceLeDiff, Nat.reduceBEq, Int.reduceAdd, Int.reduceSub, Int.reduceMul, Int.reduceNeg, Int.reduceLT, Int.reduceLE, Int.reduceEq, Int.reduceNe, Int.reduceBEq, Int.reduceToNat, Int.reduceTDiv, Int.reduceTMod, Int.reduceOfNat, reduceCtorEq]
    try simp (disch := first | omega | (simp only [List.length_set, List.length_replicate]; done) | (simp only [List.length_set, List.length_replicate]; omega)) only [wrap_i64', wrap_u64', wrap_u32', wrap_u8', Int.tmod_eq_emod_of_nonneg, Int.tdiv_eq_ediv_of_nonneg, sub_one, sub_all, splice_all, List.length_set, List.length_replicate]
    (repeat ((with_reducible refine And.intro ?_ ?_); (first | omega | exact True.intro | assumption | rfl)))
    refine hK _ ?_; clear hK K
    refine AWp.reg p_law22_DeltaWay_5 [] s_law22_DeltaWay_5 rfl rfl fun K hK => st_of ?_
    simp only [s_law22_DeltaWay_5, wT, Bool.not_eq_true, ty, zr, Nat.reduceAdd, Nat.reduceSub, Nat.reduceMul, Nat.reduceMod, Nat.reduceDiv, Nat.reduceEqDiff, Nat.reduceLeDiff, Nat.reduceBEq, Int.reduceAdd, Int.reduceSub, Int.reduceMul, Int.reduceNeg, Int.reduceLT, Int.reduceLE, Int.reduceEq, Int.reduceNe, Int.reduceBEq, Int.reduceToNat, Int.reduceTDiv, Int.reduceTMod, Int.reduceOfNat, reduceCtorEq]
    try simp (disch := first | omega | (simp only [List.length_set, List.length_replicate]; done) | (simp only [List.length_set, List.length_replicate]; omega)) only [wrap_i64', wrap_u64', wrap_u32', wrap_u8', Int.tmod_eq_emod_of_nonneg, Int.tdiv_eq_ediv_of_nonneg, sub_one, sub_all, splice_all, List.length_set, List.length_replicate]
    (repeat ((with_reducible refine And.intro ?_ ?_); (first | omega | exact True.intro | assumption | rfl)))
    refine st_call fun K1 hK1 => ?_
    simp only [calleeC, wT, Bool.not_eq_true, ty, zr, Nat.reduceAdd, Nat.reduceSub, Nat.reduceMul, Nat.reduceMod, Nat.reduceDiv, Nat.reduceEqDiff, Nat.reduceLeDiff, Nat.reduceBEq, Int.reduceAdd, Int.reduceSub, Int.reduceMul, Int.reduceNeg, Int.reduceLT, Int.reduceLE, Int.reduceEq, Int.reduceNe, Int.reduceBEq, Int.reduceToNat, Int.reduceTDiv, Int.reduceTMod, Int.reduceOfNat, reduceCtorEq]
    try simp (disch := first | omega | (simp only [List.length_set, List.length_replicate]; done) | (simp only [List.length_set, List.length_replicate]; omega)) only [wrap_i64', wrap_u64', wrap_u32', wrap_u8', Int.tmod_eq_emod_of_nonneg, Int.tdiv_eq_ediv_of_nonneg, sub_one, sub_all, splice_all, List.length_set, List.length_replicate]
    refine hK1 _ _ ?_
    clear hK1 K1
    simp only [CallTo, AV.mapL, AV.map]
    refine ⟨_, _, make_as _ g f ha hc hg hf, ?_⟩
    simp only [wT, Bool.not_eq_true, ty, zr, Nat.reduceAdd, Nat.reduceSub, Nat.reduceMul, Nat.reduceMod, Nat.reduceDiv, Nat.reduceEqDiff, Nat.reduceLeDiff, Nat.reduceBEq, Int.reduceAdd, Int.reduceSub, Int.reduceMul, Int.reduceNeg, Int.reduceLT, Int.reduceLE, Int.reduceEq, Int.reduceNe, Int.reduceBEq, Int.reduceToNat, Int.reduceTDiv, Int.reduceTMod, Int.reduceOfNat, reduceCtorEq]
    try simp (disch := first | omega | (simp only [List.length_set, List.length_replicate]; done) | (simp only [List.length_set, List.length_replicate]; omega)) only [wrap_i64', wrap_u64', wrap_u32', wrap_u8', Int.tmod_eq_emod_of_nonneg, Int.tdiv_eq_ediv_of_nonneg, sub_one, sub_all, splice_all, List.length_set, List.length_replicate]
    (repeat ((with_reducible refine And.intro ?_ ?_); (first | omega | exact True.intro | assumption | rfl)))
    refine hK _ ?_; clear hK K
    refine AWp.grp fun G61 hG61 => ?_
    refine AWp.reg p_law22_DeltaWay_6 [] s_law22_DeltaWay_6 rfl rfl fun K hK => st_of ?_
    simp only [s_law22_DeltaWay_6, wT, Bool.not_eq_true, ty, zr, Nat.reduceAdd, Nat.reduceSub, Nat.reduceMul, Nat.reduceMod, Nat.reduceDiv, Nat.reduceEqDiff, Nat.reduceLeDiff, Nat.reduceBEq, Int.reduceAdd, Int.reduceSub, Int.reduceMul, Int.reduceNeg, Int.reduceLT, Int.reduceLE, Int.reduceEq, Int.reduceNe, Int.reduceBEq, Int.reduceToNat, Int.reduceTDiv, Int.reduceTMod, Int.reduceOfNat, reduceCtorEq]
    try simp (disch := first | omega | (simp only [List.length_set, List.length_replicate]; done) | (simp only [List.length_set, List.length_replicate]; omega)) only [wrap_i64', wrap_u64', wrap_u32', wrap_u8', Int.tmod_eq_emod_of_nonneg, Int.tdiv_eq_ediv_of_nonneg, sub_one, sub_all, splice_all, List.length_set, List.length_replicate]
    (repeat ((with_reducible refine And.intro ?_ ?_); (first | omega | exact True.intro | assumption | rfl)))
    refine hK _ ?_; clear hK K
    refine AWp.iteE rfl (fun hb => ?_) (fun hb => ?_)
    · try simp only [decide_eq_true_eq, decide_eq_false_iff_not, beq_iff_eq, bne_iff_ne, ne_eq, Bool.not_eq_true, beq_eq_false_iff_ne, bne_eq_false_iff_eq, Bool.not_eq_false, Bool.not_eq_eq_eq_not, Bool.not_true, Bool.not_false] at hb
      (first | exact absurd trivial hb | exact absurd rfl hb | cases hb | (exfalso; omega) | (simp at hb; done))
    · try simp only [decide_eq_true_eq, decide_eq_false_iff_not, beq_iff_eq, bne_iff_ne, ne_eq, Bool.not_eq_true, beq_eq_false_iff_ne, bne_eq_false_iff_eq, Bool.not_eq_false, Bool.not_eq_eq_eq_not, Bool.not_true, Bool.not_false] at hb
      refine AWp.skip ?_
      try simp only [thenQ, bq, lq, lf, iq, gq, Nat.reduceEqDiff, if_true, if_false]
      refine hG61 _ ?_
      try clear hG61 G61
      refine AWp.reg p_law22_DeltaWay_8 [] s_law22_DeltaWay_8 rfl rfl fun K hK => st_of ?_
      simp only [s_law22_DeltaWay_8, wT, Bool.not_eq_true, ty, zr, Nat.reduceAdd, Nat.reduceSub, Nat.reduceMul, Nat.reduceMod, Nat.reduceDiv, Nat.reduceEqDiff, Nat.reduceLeDiff, Nat.reduceBEq, Int.reduceAdd, Int.reduceSub, Int.reduceMul, Int.reduceNeg, Int.reduceLT, Int.reduceLE, Int.reduceEq, Int.reduceNe, Int.reduceBEq, Int.reduceToNat, Int.reduceTDiv, Int.reduceTMod, Int.reduceOfNat, reduceCtorEq]
      try simp (disch := first | omega | (simp only [List.length_set, List.length_replicate]; done) | (simp only [List.length_set, List.length_replicate]; omega)) only [wrap_i64', wrap_u64', wrap_u32', wrap_u8', Int.tmod_eq_emod_of_nonneg, Int.tdiv_eq_ediv_of_nonneg, sub_one, sub_all, splice_all, List.length_set, List.length_replicate]
      (repeat ((with_reducible refine And.intro ?_ ?_); (first | omega | exact True.intro | assumption | rfl)))
      refine st_call fun K1 hK1 => ?_
      simp only [calleeC, wT, Bool.not_eq_true, ty, zr, Nat.reduceAdd, Nat.reduceSub, Nat.reduceMul, Nat.reduceMod, Nat.reduceDiv, Nat.reduceEqDiff, Nat.reduceLeDiff, Nat.reduceBEq, Int.reduceAdd, Int.reduceSub, Int.reduceMul, Int.reduceNeg, Int.reduceLT, Int.reduceLE, Int.reduceEq, Int.reduceNe, Int.reduceBEq, Int.reduceToNat, Int.reduceTDiv, Int.reduceTMod, Int.reduceOfNat, reduceCtorEq]
      try simp (disch := first | omega | (simp only [List.length_set, List.length_replicate]; done) | (simp only [List.length_set, List.length_replicate]; omega)) only [wrap_i64', wrap_u64', wrap_u32', wrap_u8', Int.tmod_eq_emod_of_nonneg, Int.tdiv_eq_ediv_of_nonneg, sub_one, sub_all, splice_all, List.length_set, List.length_replicate]
      refine hK1 _ _ ?_
      clear hK1 K1
      simp only [CallTo, AV.mapL, AV.map]
      refine ⟨_, _, apply_as _ _ d a b rfl hyd ha (by omega) _ gd rd, ?_⟩
      simp only [wT, Bool.not_eq_true, ty, zr, Nat.reduceAdd, Nat.reduceSub, Nat.reduceMul, Nat.reduceMod, Nat.reduceDiv, Nat.reduceEqDiff, Nat.reduceLeDiff, Nat.reduceBEq, Int.reduceAdd, Int.reduceSub, Int.reduceMul, Int.reduceNeg, Int.reduceLT, Int.reduceLE, Int.reduceEq, Int.reduceNe, Int.reduceBEq, Int.reduceToNat, Int.reduceTDiv, Int.reduceTMod, Int.reduceOfNat, reduceCtorEq]
      try simp (disch := first | omega | (simp only [List.length_set, List.length_replicate]; done) | (simp only [List.length_set, List.length_replicate]; omega)) only [wrap_i64', wrap_u64', wrap_u32', wrap_u8', Int.tmod_eq_emod_of_nonneg, Int.tdiv_eq_ediv_of_nonneg, sub_one, sub_all, splice_all, List.length_set, List.length_replicate]
      (repeat ((with_reducible refine And.intro ?_ ?_); (first | omega | exact True.intro | assumption | rfl)))
      refine hK _ ?_; clear hK K
      refine AWp.reg p_law22_DeltaWay_9 [] s_law22_DeltaWay_9 rfl rfl fun K hK => st_of ?_
      simp only [s_law22_DeltaWay_9, wT, Bool.not_eq_true, ty, zr, Nat.reduceAdd, Nat.reduceSub, Nat.reduceMul, Nat.reduceMod, Nat.reduceDiv, Nat.reduceEqDiff, Nat.reduceLeDiff, Nat.reduceBEq, Int.reduceAdd, Int.reduceSub, Int.reduceMul, Int.reduceNeg, Int.reduceLT, Int.reduceLE, Int.reduceEq, Int.reduceNe, Int.reduceBEq, Int.reduceToNat, Int.reduceTDiv, Int.reduceTMod, Int.reduceOfNat, reduceCtorEq]
      try simp (disch := first | omega | (simp only [List.length_set, List.length_replicate]; done) | (simp only [List.length_set, List.length_replicate]; omega)) only [wrap_i64', wrap_u64', wrap_u32', wrap_u8', Int.tmod_eq_emod_of_nonneg, Int.tdiv_eq_ediv_of_nonneg, sub_one, sub_all, splice_all, List.length_set, List.length_replicate]
      (repeat ((with_reducible refine And.intro ?_ ?_); (first | omega | exact True.intro | assumption | rfl)))
      refine st_call fun K1 hK1 => ?_
      simp only [calleeC, wT, Bool.not_eq_true, ty, zr, Nat.reduceAdd, Nat.reduceSub, Nat.reduceMul, Nat.reduceMod, Nat.reduceDiv, Nat.reduceEqDiff, Nat.reduceLeDiff, Nat.reduceBEq, Int.reduceAdd, Int.reduceSub, Int.reduceMul, Int.reduceNeg, Int.reduceLT, Int.reduceLE, Int.reduceEq, Int.reduceNe, Int.reduceBEq, Int.reduceToNat, Int.reduceTDiv, Int.reduceTMod, Int.reduceOfNat, reduceCtorEq]
      try simp (disch := first | omega | (simp only [List.length_set, List.length_replicate]; done) | (simp only [List.length_set, List.length_replicate]; omega)) only [wrap_i64', wrap_u64', wrap_u32', wrap_u8', Int.tmod_eq_emod_of_nonneg, Int.tdiv_eq_ediv_of_nonneg, sub_one, sub_all, splice_all, List.length_set, List.length_replicate]
      refine hK1 _ _ ?_
      clear hK1 K1
      simp only [CallTo, AV.mapL, AV.map]
      refine ⟨_, _, apply_as _ _ e b c rfl hye hb0 (by omega) _ ge re, ?_⟩
      simp only [wT, Bool.not_eq_true, ty, zr, Nat.reduceAdd, Nat.reduceSub, Nat.reduceMul, Nat.reduceMod, Nat.reduceDiv, Nat.reduceEqDiff, Nat.reduceLeDiff, Nat.reduceBEq, Int.reduceAdd, Int.reduceSub, Int.reduceMul, Int.reduceNeg, Int.reduceLT, Int.reduceLE, Int.reduceEq, Int.reduceNe, Int.reduceBEq, Int.reduceToNat, Int.reduceTDiv, Int.reduceTMod, Int.reduceOfNat, reduceCtorEq]
      try simp (disch := first | omega | (simp only [List.length_set, List.length_replicate]; done) | (simp only [List.length_set, List.length_replicate]; omega)) only [wrap_i64', wrap_u64', wrap_u32', wrap_u8', Int.tmod_eq_emod_of_nonneg, Int.tdiv_eq_ediv_of_nonneg, sub_one, sub_all, splice_all, List.length_set, List.length_replicate]
      (repeat ((with_reducible refine And.intro ?_ ?_); (first | omega | exact True.intro | assumption | rfl)))
      refine hK _ ?_; clear hK K
      refine AWp.grp fun G98 hG98 => ?_
      refine AWp.reg p_law22_DeltaWay_10 [] s_law22_DeltaWay_10 rfl rfl fun K hK => st_of ?_
      simp only [s_law22_DeltaWay_10, wT, Bool.not_eq_true, ty, zr, Nat.reduceAdd, Nat.reduceSub, Nat.reduceMul, Nat.reduceMod, Nat.reduceDiv, Nat.reduceEqDiff, Nat.reduceLeDiff, Nat.reduceBEq, Int.reduceAdd, Int.reduceSub, Int.reduceMul, Int.reduceNeg, Int.reduceLT, Int.reduceLE, Int.reduceEq, Int.reduceNe, Int.reduceBEq, Int.reduceToNat, Int.reduceTDiv, Int.reduceTMod, Int.reduceOfNat, reduceCtorEq]
      try simp (disch := first | omega | (simp only [List.length_set, List.length_replicate]; done) | (simp only [List.length_set, List.length_replicate]; omega)) only [wrap_i64', wrap_u64', wrap_u32', wrap_u8', Int.tmod_eq_emod_of_nonneg, Int.tdiv_eq_ediv_of_nonneg, sub_one, sub_all, splice_all, List.length_set, List.length_replicate]
      simp only [hc, wT, Bool.not_eq_true, ty, zr, Nat.reduceAdd, Nat.reduceSub, Nat.reduceMul, Nat.reduceMod, Nat.reduceDiv, Nat.reduceEqDiff, Nat.reduceLeDiff, Nat.reduceBEq, Int.reduceAdd, Int.reduceSub, Int.reduceMul, Int.reduceNeg, Int.reduceLT, Int.reduceLE, Int.reduceEq, Int.reduceNe, Int.reduceBEq, Int.reduceToNat, Int.reduceTDiv, Int.reduceTMod, Int.reduceOfNat, reduceCtorEq]
      try simp (disch := first | omega | (simp only [List.length_set, List.length_replicate]; done) | (simp only [List.length_set, List.length_replicate]; omega)) only [wrap_i64', wrap_u64', wrap_u32', wrap_u8', Int.tmod_eq_emod_of_nonneg, Int.tdiv_eq_ediv_of_nonneg, sub_one, sub_all, splice_all, List.length_set, List.length_replicate]
      (repeat ((with_reducible refine And.intro ?_ ?_); (first | omega | exact True.intro | assumption | rfl)))
      refine hK _ ?_; clear hK K
      refine AWp.iteE rfl (fun hb => ?_) (fun hb => ?_)
      · try simp only [decide_eq_true_eq, decide_eq_false_iff_not, beq_iff_eq, bne_iff_ne, ne_eq, Bool.not_eq_true, beq_eq_false_iff_ne, bne_eq_false_iff_eq, Bool.not_eq_false, Bool.not_eq_eq_eq_not, Bool.not_true, Bool.not_false] at hb
        (first | exact absurd trivial hb | exact absurd rfl hb | cases hb | (exfalso; omega) | (simp at hb; done))
      · try simp only [decide_eq_true_eq, decide_eq_false_iff_not, beq_iff_eq, bne_iff_ne, ne_eq, Bool.not_eq_true, beq_eq_false_iff_ne, bne_eq_false_iff_eq, Bool.not_eq_false, Bool.not_eq_eq_eq_not, Bool.not_true, Bool.not_false] at hb
        refine AWp.skip ?_
        try simp only [thenQ, bq, lq, lf, iq, gq, Nat.reduceEqDiff, if_true, if_false]
        refine hG98 _ ?_
        try clear hG98 G98
        refine AWp.reg p_law22_DeltaWay_12 [] s_law22_DeltaWay_12 rfl rfl fun K hK => st_of ?_
        simp only [s_law22_DeltaWay_12, wT, Bool.not_eq_true, ty, zr, Nat.reduceAdd, Nat.reduceSub, Nat.reduceMul, Nat.reduceMod, Nat.reduceDiv, Nat.reduceEqDiff, Nat.reduceLeDiff, Nat.reduceBEq, Int.reduceAdd, Int.reduceSub, Int.reduceMul, Int.reduceNeg, Int.reduceLT, Int.reduceLE, Int.reduceEq, Int.reduceNe, Int.reduceBEq, Int.reduceToNat, Int.reduceTDiv, Int.reduceTMod, Int.reduceOfNat, reduceCtorEq]
        try simp (disch := first | omega | (simp only [List.length_set, List.length_replicate]; done) | (simp only [List.length_set, List.length_replicate]; omega)) only [wrap_i64', wrap_u64', wrap_u32', wrap_u8', Int.tmod_eq_emod_of_nonneg, Int.tdiv_eq_ediv_of_nonneg, sub_one, sub_all, splice_all, List.length_set, List.length_replicate]
        (repeat ((with_reducible refine And.intro ?_ ?_); (first | omega | exact True.intro | assumption | rfl)))
        refine st_call fun K1 hK1 => ?_
        simp only [calleeC, wT, Bool.not_eq_true, ty, zr, Nat.reduceAdd, Nat.reduceSub, Nat.reduceMul, Nat.reduceMod, Nat.reduceDiv, Nat.reduceEqDiff, Nat.reduceLeDiff, Nat.reduceBEq, Int.reduceAdd, Int.reduceSub, Int.reduceMul, Int.reduceNeg, Int.reduceLT, Int.reduceLE, Int.reduceEq, Int.reduceNe, Int.reduceBEq, Int.reduceToNat, Int.reduceTDiv, Int.reduceTMod, Int.reduceOfNat, reduceCtorEq]
        try simp (disch := first | omega | (simp only [List.length_set, List.length_replicate]; done) | (simp only [List.length_set, List.length_replicate]; omega)) only [wrap_i64', wrap_u64', wrap_u32', wrap_u8', Int.tmod_eq_emod_of_nonneg, Int.tdiv_eq_ediv_of_nonneg, sub_one, sub_all, splice_all, List.length_set, List.length_replicate]
        refine hK1 _ _ ?_
        clear hK1 K1
        simp only [CallTo, AV.mapL, AV.map]
        refine ⟨_, _, apply_as _ _ g a z rfl hyg ha (by omega) _ gg rg, ?_⟩
        simp only [wT, Bool.not_eq_true, ty, zr, Nat.reduceAdd, Nat.reduceSub, Nat.reduceMul, Nat.reduceMod, Nat.reduceDiv, Nat.reduceEqDiff, Nat.reduceLeDiff, Nat.reduceBEq, Int.reduceAdd, Int.reduceSub, Int.reduceMul, Int.reduceNeg, Int.reduceLT, Int.reduceLE, Int.reduceEq, Int.reduceNe, Int.reduceBEq, Int.reduceToNat, Int.reduceTDiv, Int.reduceTMod, Int.reduceOfNat, reduceCtorEq]
        try simp (disch := first | omega | (simp only [List.length_set, List.length_replicate]; done) | (simp only [List.length_set, List.length_replicate]; omega)) only [wrap_i64', wrap_u64', wrap_u32', wrap_u8', Int.tmod_eq_emod_of_nonneg, Int.tdiv_eq_ediv_of_nonneg, sub_one, sub_all, splice_all, List.length_set, List.length_replicate]
        (repeat ((with_reducible refine And.intro ?_ ?_); (first | omega | exact True.intro | assumption | rfl)))
        refine hK _ ?_; clear hK K
        refine AWp.regJ p_law22_DeltaWay_13 [] s_law22_DeltaWay_13 ⟨[(6, .bool true)], []⟩ rfl rfl (fun K hK => st_of ?_) ?_
        · simp only [s_law22_DeltaWay_13, wT, Bool.not_eq_true, ty, zr, Nat.reduceAdd, Nat.reduceSub, Nat.reduceMul, Nat.reduceMod, Nat.reduceDiv, Nat.reduceEqDiff, Nat.reduceLeDiff, Nat.reduceBEq, Int.reduceAdd, Int.reduceSub, Int.reduceMul, Int.reduceNeg, Int.reduceLT, Int.reduceLE, Int.reduceEq, Int.reduceNe, Int.reduceBEq, Int.reduceToNat, Int.reduceTDiv, Int.reduceTMod, Int.reduceOfNat, reduceCtorEq]
          try simp (disch := first | omega | (simp only [List.length_set, List.length_replicate]; done) | (simp only [List.length_set, List.length_replicate]; omega)) only [wrap_i64', wrap_u64', wrap_u32', wrap_u8', Int.tmod_eq_emod_of_nonneg, Int.tdiv_eq_ediv_of_nonneg, sub_one, sub_all, splice_all, List.length_set, List.length_replicate]
          refine ⟨fun h => ?_, fun h => ?_⟩
          · exact hK _ (Le.of (by first | exact Nat.zero_le _ | simp) (by simp only [leTm, tget, AV.All, AV.AllL, inS, Nat.reduceEqDiff, if_true, if_false]; repeat' (first | exact trivial | rfl | apply And.intro | simp)) (by simp only [leRows, Row.All, AV.AllL, AV.All, inS]; repeat' (first | exact trivial | rfl | apply And.intro | simp)))
          · obtain rfl : z = c := hzf (by simpa using h)
            simp only [hz, d1, wT, Bool.not_eq_true, ty, zr, Nat.reduceAdd, Nat.reduceSub, Nat.reduceMul, Nat.reduceMod, Nat.reduceDiv, Nat.reduceEqDiff, Nat.reduceLeDiff, Nat.reduceBEq, Int.reduceAdd, Int.reduceSub, Int.reduceMul, Int.reduceNeg, Int.reduceLT, Int.reduceLE, Int.reduceEq, Int.reduceNe, Int.reduceBEq, Int.reduceToNat, Int.reduceTDiv, Int.reduceTMod, Int.reduceOfNat, reduceCtorEq]
            try simp (disch := first | omega | (simp only [List.length_set, List.length_replicate]; done) | (simp only [List.length_set, List.length_replicate]; omega)) only [wrap_i64', wrap_u64', wrap_u32', wrap_u8', Int.tmod_eq_emod_of_nonneg, Int.tdiv_eq_ediv_of_nonneg, sub_one, sub_all, splice_all, List.length_set, List.length_replicate]
            (repeat ((with_reducible refine And.intro ?_ ?_); (first | omega | exact True.intro | assumption | rfl)))
            exact hK _ (Le.of (by first | exact Nat.zero_le _ | simp) (by simp only [leTm, tget, AV.All, AV.AllL, inS, Nat.reduceEqDiff, if_true, if_false]; repeat' (first | exact trivial | rfl | apply And.intro | simp)) (by simp only [leRows, Row.All, AV.AllL, AV.All, inS]; repeat' (first | exact trivial | rfl | apply And.intro | simp)))
        refine AWp.ret ?_
        try simp only [thenQ, bq, lq, lf, iq, gq, Nat.reduceEqDiff, if_true, if_false]
        simp only [endQ, rs_law22_DeltaWay, resC, one, wT, Bool.not_eq_true, ty, zr, Nat.reduceAdd, Nat.reduceSub, Nat.reduceMul, Nat.reduceMod, Nat.reduceDiv, Nat.reduceEqDiff, Nat.reduceLeDiff, Nat.reduceBEq, Int.reduceAdd, Int.reduceSub, Int.reduceMul, Int.reduceNeg, Int.reduceLT, Int.reduceLE, Int.reduceEq, Int.reduceNe, Int.reduceBEq, Int.reduceToNat, Int.reduceTDiv, Int.reduceTMod, Int.reduceOfNat, reduceCtorEq]
        try simp (disch := first | omega | (simp only [List.length_set, List.length_replicate]; done) | (simp only [List.length_set, List.length_replicate]; omega)) only [wrap_i64', wrap_u64', wrap_u32', wrap_u8', Int.tmod_eq_emod_of_nonneg, Int.tdiv_eq_ediv_of_nonneg, sub_one, sub_all, splice_all, List.length_set, List.length_replicate]
        repeat' (first | exact True.intro | (with_reducible rfl) | (with_reducible apply And.intro) | omega | rfl)
theorem law_ins (ins : List In) (h : insFit Try.prog [23, 23, 23] ins) : FnOk Try.prog 8 (insE ins) (insAv 0 ins) [] (.bool true) [] := by
  match ins, h with
  | [i, j, k], h =>
    obtain ⟨a, rfl, ha, hya⟩ := fits_arr Try.underlying23 Try.underlying5 h.1
    obtain ⟨b, rfl, hb, hyb⟩ := fits_arr Try.underlying23 Try.underlying5 h.2.1
    obtain ⟨c, rfl, hc, hyc⟩ := fits_arr Try.underlying23 Try.underlying5 h.2.2.1
    cases hp : fitB a b with
    | false => exact law_none _ a b c ha hb hc false _ hp rfl rfl
    | true =>
      cases hq : fitB b c with
      | false => exact law_none _ a b c ha hb hc true false hp hq rfl
      | true =>
        obtain ⟨e1, _⟩ := make_shape (o := a) (w := b) rfl (by simpa [fitB] using hp)
        obtain ⟨e2, _⟩ := make_shape (o := b) (w := c) rfl (by simpa [fitB] using hq)
        obtain ⟨g1, g2⟩ := goes_raw a b ha hb hp
        obtain ⟨g3, g4⟩ := goes_raw b c hb hc hq
        cases hf : fitB a c with
        | true =>
          obtain ⟨e3, _⟩ := make_shape (o := a) (w := c) rfl (by simpa [fitB] using hf)
          obtain ⟨g5, g6⟩ := goes_raw a c ha hc hf
          exact law_ok _ a b c ha hb hc hp hq _ _ _ c e1 e2 e3 (raw_by a b ha hb (wfl_by hyb)) (raw_by b c hb hc (wfl_by hyc)) (raw_by a c ha hc (wfl_by hyc)) (raw_le _ _ hb) (raw_le _ _ hc) (by simpa [fitB] using hf) g1 g3 g5 g2 g4 g6 hc true hf (fun _ => rfl)
        | false =>
          obtain ⟨e3, _⟩ := make_none (o := a) (w := c) (by simpa [fitB] using hf)
          exact law_ok _ a b c ha hb hc hp hq _ _ [] a e1 e2 e3 (raw_by a b ha hb (wfl_by hyb)) (raw_by b c hb hc (wfl_by hyc)) By.nil (raw_le _ _ hb) (raw_le _ _ hc) (by simp) g1 g3 goes_nil1 g2 g4 (goes_nil2 a) ha false hf (fun h => by cases h)
open Go.ChangeShapes Go.WideShapes Go.ChangeAt Go.RowKit
theorem own : ownKnob Try.prog.godebug = none := by kernel_rfl
theorem laidOut : laidOutB Try.prog = true := by kernel_rfl
set_option maxRecDepth 100000 in
theorem lifted (os : Os) (started : os.Started) (H : Type) (enc : TypeId × Value → H) :
    ReturnsInHanded {} Try.checked os 8 .any (Rows.deltaWaySpec.pre6 enc Try.prog Try.f8 Rows.deltaWayRow.domain false) (Rows.deltaWaySpec.post enc Try.prog Try.f8 false true false false) := by
  refine returnsInHanded_of_change_sized (C := Try.checked) own started (by kernel_rfl) Try.func8
    (ChangeSpec.witness6 (enc := enc) (C := Try.checked) false ⟨#[], #[.agg #[.int .u8 0, .int .u8 0, .int .u8 0, .int .u8 0, .int .u8 0, .int .u8 0, .int .u8 0, .int .u8 0, .int .u8 0, .int .u8 0, .int .u8 0, .int .u8 0, .int .u8 0, .int .u8 0, .int .u8 0, .int .u8 0, .int .u8 0, .int .u8 0, .int .u8 0, .int .u8 0, .int .u8 0, .int .u8 0, .int .u8 0, .int .u8 0, .int .u8 0, .int .u8 0, .int .u8 0, .int .u8 0, .int .u8 0, .int .u8 0, .int .u8 0, .int .u8 0], .agg #[.int .u8 0, .int .u8 0, .int .u8 0, .int .u8 0, .int .u8 0, .int .u8 0, .int .u8 0, .int .u8 0, .int .u8 0, .int .u8 0, .int .u8 0, .int .u8 0, .int .u8 0, .int .u8 0, .int .u8 0, .int .u8 0, .int .u8 0, .int .u8 0, .int .u8 0, .int .u8 0, .int .u8 0, .int .u8 0, .int .u8 0, .int .u8 0, .int .u8 0, .int .u8 0, .int .u8 0, .int .u8 0, .int .u8 0, .int .u8 0, .int .u8 0, .int .u8 0], .agg #[.int .u8 0, .int .u8 0, .int .u8 0, .int .u8 0, .int .u8 0, .int .u8 0, .int .u8 0, .int .u8 0, .int .u8 0, .int .u8 0, .int .u8 0, .int .u8 0, .int .u8 0, .int .u8 0, .int .u8 0, .int .u8 0, .int .u8 0, .int .u8 0, .int .u8 0, .int .u8 0, .int .u8 0, .int .u8 0, .int .u8 0, .int .u8 0, .int .u8 0, .int .u8 0, .int .u8 0, .int .u8 0, .int .u8 0, .int .u8 0, .int .u8 0, .int .u8 0]], []⟩ 8 (by kernel_rfl) (by kernel_rfl) (by kernel_rfl) (by kernel_rfl)) ?_
  intro W base args ds gs before hval0 hW hcnd hsz _
  have hW' := hW
  obtain ⟨p, q, hA, hV, rfl, hfz, hnd⟩ := hW
  obtain ⟨rfl, rfl⟩ := trodVars_none hV
  have hA2 := hA
  rw [Try.params8] at hA2
  obtain ⟨ins, hfit, hins⟩ := open_all (P := Try.prog) (W := W) (ts := Try.f8.params.toList) (r := .any) (b0 := base) (by kernel_rfl)
    (fun j t v h1 h2 => hval0 j t v (by simpa using h1) (by simpa using h2))
    (fun j t el sp h1 h2 e he => sized_slice hsz (j := j) (by rw [List.getElem?_append_left (List.getElem?_eq_some_iff.1 h1).1]; exact h1) (by rw [List.getElem?_append_left (List.getElem?_eq_some_iff.1 h2).1]; exact h2) he) hA
  rw [Try.params8] at hfit
  obtain ⟨v0, vs0, d0, ds0, p0, q0, ha0, rfl, hp0, k0, r0⟩ := trodAll_cons hA2
  obtain ⟨v1, vs1, d1, ds1, p1, q1, ha1, rfl, hp1, k1, r1⟩ := trodAll_cons r0
  obtain ⟨v2, vs2, d2, ds2, p2, q2, ha2, rfl, hp2, k2, r2⟩ := trodAll_cons r1
  obtain ⟨_, rfl, _⟩ := trodAll_nil r2
  refine (law_calls (law_ins ins hfit) trivial hins).mono fun e W' ⟨v, he, hv, bel⟩ => ?_
  cases hv
  subst he
  exact ⟨_, rfl, _, _, _, [], _, [], hW', trodAll_mk1 (shut_bool Try.underlying4 _), shut_all laidOut bel (by kernel_rfl) hA, rfl, bel.frame _, fun h => by cases h⟩

theorem over : Rows.deltaWayRow.holds Try.pinned (OpenSpec.ofChange Rows.deltaWaySpec) :=
  OpenClaim.holds_of_wide 8 Try.f8 rfl rfl rfl rfl rfl rfl rfl ⟨rfl, rfl, rfl, rfl, rfl⟩ rfl rfl rfl rfl rfl (by kernel_rfl) Try.func8 (by kernel_rfl)
    (of_decide_eq_true (by kernel_rfl)) (by unfold Func.isWrapper; first | (rw [if_pos (by decide +kernel)]; kernel_rfl) | (rw [if_neg (by decide +kernel)]; exact ⟨rfl, rfl⟩))
    (fun os started H enc _ => lifted os started H enc)

/-- The statement. -/
theorem proved : Rows.DeltaWaySaid := over
end Go.Proofs.Ytelelglnbopgmaa
