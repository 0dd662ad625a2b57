/-
  PROVED: 'erewhilelaw22.DeltaNone' returns true for every input and leaves its arguments as they were. No condition.
-/
import Derived.Test.YtelelglnbopgmaaDel2
import Derived.Test.YtelelglnbopgmaaRows
import Derived.WalkKit
import Derived.ProofKit
namespace Go.Proofs.Ytelelglnbopgmaa
open Go Go.Proofs.Ytelelglnbopgmaa.Sy
set_option linter.unusedSimpArgs false
set_option linter.unusedVariables false
set_option maxRecDepth 100000


theorem law_ok {α : Type} (E : α → Option (Row α)) (o : List Int) (ho : o.length = 32) : FnOk Try.prog n_law22_DeltaNone E [.ints .u8 o] [] (.bool true) [] := by
  have hf : fitB o o = true := by simp [fitB, raw_same]
  have hm : makeL o o = [] := by unfold makeL; rw [hf, raw_same]; rfl
  refine FnOk.pure func_law22_DeltaNone call_law22_DeltaNone (body := _) rfl nt_law22_DeltaNone (by simp) (by simp [AV.solid, AV.solidL]) ?_
  refine AWp.reg p_law22_DeltaNone_0 [] s_law22_DeltaNone_0 rfl rfl fun K hK => st_of ?_
  simp only [s_law22_DeltaNone_0, wT, Bool.not_eq_true, ty, zr, Nat.reduceAdd, Nat.reduceSub, Nat.reduceMul, Nat.reduceMod, Nat.reduceDiv, Nat.reduceEqDiff, Nat.reduceLeDiff, Nat.reduceBEq, Int.reduceAdd, Int.reduceSub, Int.reduceMul, Int.reduceNeg, Int.reduceLT, Int.reduceLE, Int.reduceEq, Int.reduceNe, Int.reduceBEq, Int.reduceToNat, Int.reduceTDiv, Int.reduceTMod, Int.reduceOfNat, reduceCtorEq]
  try simp (disch := first | omega | (simp only [List.length_set, List.length_replicate]; done) | (simp only [List.length_set, List.length_replicate]; omega)) only [wrap_i64', wrap_u64', wrap_u32', wrap_u8', Int.tmod_eq_emod_of_nonneg, Int.tdiv_eq_ediv_of_nonneg, sub_one, sub_all, splice_all, List.length_set, List.length_replicate]
  (repeat ((with_reducible refine And.intro ?_ ?_); (first | omega | exact True.intro | assumption | rfl)))
  refine hK _ ?_; clear hK K
  refine AWp.grp fun G4 hG4 => ?_
  refine AWp.reg p_law22_DeltaNone_1 [] s_law22_DeltaNone_1 rfl rfl fun K hK => st_of ?_
  simp only [s_law22_DeltaNone_1, wT, Bool.not_eq_true, ty, zr, Nat.reduceAdd, Nat.reduceSub, Nat.reduceMul, Nat.reduceMod, Nat.reduceDiv, Nat.reduceEqDiff, Nat.reduceLeDiff, Nat.reduceBEq, Int.reduceAdd, Int.reduceSub, Int.reduceMul, Int.reduceNeg, Int.reduceLT, Int.reduceLE, Int.reduceEq, Int.reduceNe, Int.reduceBEq, Int.reduceToNat, Int.reduceTDiv, Int.reduceTMod, Int.reduceOfNat, reduceCtorEq]
  try simp (disch := first | omega | (simp only [List.length_set, List.length_replicate]; done) | (simp only [List.length_set, List.length_replicate]; omega)) only [wrap_i64', wrap_u64', wrap_u32', wrap_u8', Int.tmod_eq_emod_of_nonneg, Int.tdiv_eq_ediv_of_nonneg, sub_one, sub_all, splice_all, List.length_set, List.length_replicate]
  (repeat ((with_reducible refine And.intro ?_ ?_); (first | omega | exact True.intro | assumption | rfl)))
  refine st_call fun K1 hK1 => ?_
  simp only [calleeC, wT, Bool.not_eq_true, ty, zr, Nat.reduceAdd, Nat.reduceSub, Nat.reduceMul, Nat.reduceMod, Nat.reduceDiv, Nat.reduceEqDiff, Nat.reduceLeDiff, Nat.reduceBEq, Int.reduceAdd, Int.reduceSub, Int.reduceMul, Int.reduceNeg, Int.reduceLT, Int.reduceLE, Int.reduceEq, Int.reduceNe, Int.reduceBEq, Int.reduceToNat, Int.reduceTDiv, Int.reduceTMod, Int.reduceOfNat, reduceCtorEq]
  try simp (disch := first | omega | (simp only [List.length_set, List.length_replicate]; done) | (simp only [List.length_set, List.length_replicate]; omega)) only [wrap_i64', wrap_u64', wrap_u32', wrap_u8', Int.tmod_eq_emod_of_nonneg, Int.tdiv_eq_ediv_of_nonneg, sub_one, sub_all, splice_all, List.length_set, List.length_replicate]
  refine hK1 _ _ ?_
  clear hK1 K1
  simp only [CallTo, AV.mapL, AV.map]
  refine ⟨_, _, awake_ok _, ?_⟩
  simp only [wT, Bool.not_eq_true, ty, zr, Nat.reduceAdd, Nat.reduceSub, Nat.reduceMul, Nat.reduceMod, Nat.reduceDiv, Nat.reduceEqDiff, Nat.reduceLeDiff, Nat.reduceBEq, Int.reduceAdd, Int.reduceSub, Int.reduceMul, Int.reduceNeg, Int.reduceLT, Int.reduceLE, Int.reduceEq, Int.reduceNe, Int.reduceBEq, Int.reduceToNat, Int.reduceTDiv, Int.reduceTMod, Int.reduceOfNat, reduceCtorEq]
  try simp (disch := first | omega | (simp only [List.length_set, List.length_replicate]; done) | (simp only [List.length_set, List.length_replicate]; omega)) only [wrap_i64', wrap_u64', wrap_u32', wrap_u8', Int.tmod_eq_emod_of_nonneg, Int.tdiv_eq_ediv_of_nonneg, sub_one, sub_all, splice_all, List.length_set, List.length_replicate]
  (repeat ((with_reducible refine And.intro ?_ ?_); (first | omega | exact True.intro | assumption | rfl)))
  refine hK _ ?_; clear hK K
  refine AWp.iteE rfl (fun hb => ?_) (fun hb => ?_)
  · try simp only [decide_eq_true_eq, decide_eq_false_iff_not, beq_iff_eq, bne_iff_ne, ne_eq, Bool.not_eq_true, beq_eq_false_iff_ne, bne_eq_false_iff_eq, Bool.not_eq_false, Bool.not_eq_eq_eq_not, Bool.not_true, Bool.not_false] at hb
    (first | exact absurd trivial hb | exact absurd rfl hb | cases hb | (exfalso; omega) | (simp at hb; done))
  · try simp only [decide_eq_true_eq, decide_eq_false_iff_not, beq_iff_eq, bne_iff_ne, ne_eq, Bool.not_eq_true, beq_eq_false_iff_ne, bne_eq_false_iff_eq, Bool.not_eq_false, Bool.not_eq_eq_eq_not, Bool.not_true, Bool.not_false] at hb
    refine AWp.skip ?_
    try simp only [thenQ, bq, lq, lf, iq, gq, Nat.reduceEqDiff, if_true, if_false]
    refine hG4 _ ?_
    try clear hG4 G4
    refine AWp.reg p_law22_DeltaNone_3 [] s_law22_DeltaNone_3 rfl rfl fun K hK => st_of ?_
    simp only [s_law22_DeltaNone_3, wT, Bool.not_eq_true, ty, zr, Nat.reduceAdd, Nat.reduceSub, Nat.reduceMul, Nat.reduceMod, Nat.reduceDiv, Nat.reduceEqDiff, Nat.reduceLeDiff, Nat.reduceBEq, Int.reduceAdd, Int.reduceSub, Int.reduceMul, Int.reduceNeg, Int.reduceLT, Int.reduceLE, Int.reduceEq, Int.reduceNe, Int.reduceBEq, Int.reduceToNat, Int.reduceTDiv, Int.reduceTMod, Int.reduceOfNat, reduceCtorEq]
    try simp (disch := first | omega | (simp only [List.length_set, List.length_replicate]; done) | (simp only [List.length_set, List.length_replicate]; omega)) only [wrap_i64', wrap_u64', wrap_u32', wrap_u8', Int.tmod_eq_emod_of_nonneg, Int.tdiv_eq_ediv_of_nonneg, sub_one, sub_all, splice_all, List.length_set, List.length_replicate]
    (repeat ((with_reducible refine And.intro ?_ ?_); (first | omega | exact True.intro | assumption | rfl)))
    refine st_call fun K1 hK1 => ?_
    simp only [calleeC, wT, Bool.not_eq_true, ty, zr, Nat.reduceAdd, Nat.reduceSub, Nat.reduceMul, Nat.reduceMod, Nat.reduceDiv, Nat.reduceEqDiff, Nat.reduceLeDiff, Nat.reduceBEq, Int.reduceAdd, Int.reduceSub, Int.reduceMul, Int.reduceNeg, Int.reduceLT, Int.reduceLE, Int.reduceEq, Int.reduceNe, Int.reduceBEq, Int.reduceToNat, Int.reduceTDiv, Int.reduceTMod, Int.reduceOfNat, reduceCtorEq]
    try simp (disch := first | omega | (simp only [List.length_set, List.length_replicate]; done) | (simp only [List.length_set, List.length_replicate]; omega)) only [wrap_i64', wrap_u64', wrap_u32', wrap_u8', Int.tmod_eq_emod_of_nonneg, Int.tdiv_eq_ediv_of_nonneg, sub_one, sub_all, splice_all, List.length_set, List.length_replicate]
    refine hK1 _ _ ?_
    clear hK1 K1
    simp only [CallTo, AV.mapL, AV.map]
    refine ⟨_, _, make_as _ [] true ho ho hm hf, ?_⟩
    simp only [wT, Bool.not_eq_true, ty, zr, Nat.reduceAdd, Nat.reduceSub, Nat.reduceMul, Nat.reduceMod, Nat.reduceDiv, Nat.reduceEqDiff, Nat.reduceLeDiff, Nat.reduceBEq, Int.reduceAdd, Int.reduceSub, Int.reduceMul, Int.reduceNeg, Int.reduceLT, Int.reduceLE, Int.reduceEq, Int.reduceNe, Int.reduceBEq, Int.reduceToNat, Int.reduceTDiv, Int.reduceTMod, Int.reduceOfNat, reduceCtorEq]
    try simp (disch := first | omega | (simp only [List.length_set, List.length_replicate]; done) | (simp only [List.length_set, List.length_replicate]; omega)) only [wrap_i64', wrap_u64', wrap_u32', wrap_u8', Int.tmod_eq_emod_of_nonneg, Int.tdiv_eq_ediv_of_nonneg, sub_one, sub_all, splice_all, List.length_set, List.length_replicate]
    (repeat ((with_reducible refine And.intro ?_ ?_); (first | omega | exact True.intro | assumption | rfl)))
    refine hK _ ?_; clear hK K
    refine AWp.reg p_law22_DeltaNone_4 [] s_law22_DeltaNone_4 rfl rfl fun K hK => st_of ?_
    simp only [s_law22_DeltaNone_4, wT, Bool.not_eq_true, ty, zr, Nat.reduceAdd, Nat.reduceSub, Nat.reduceMul, Nat.reduceMod, Nat.reduceDiv, Nat.reduceEqDiff, Nat.reduceLeDiff, Nat.reduceBEq, Int.reduceAdd, Int.reduceSub, Int.reduceMul, Int.reduceNeg, Int.reduceLT, Int.reduceLE, Int.reduceEq, Int.reduceNe, Int.reduceBEq, Int.reduceToNat, Int.reduceTDiv, Int.reduceTMod, Int.reduceOfNat, reduceCtorEq]
    try simp (disch := first | omega | (simp only [List.length_set, List.length_replicate]; done) | (simp only [List.length_set, List.length_replicate]; omega)) only [wrap_i64', wrap_u64', wrap_u32', wrap_u8', Int.tmod_eq_emod_of_nonneg, Int.tdiv_eq_ediv_of_nonneg, sub_one, sub_all, splice_all, List.length_set, List.length_replicate]
    (repeat ((with_reducible refine And.intro ?_ ?_); (first | omega | exact True.intro | assumption | rfl)))
    refine st_call fun K1 hK1 => ?_
    simp only [calleeC, wT, Bool.not_eq_true, ty, zr, Nat.reduceAdd, Nat.reduceSub, Nat.reduceMul, Nat.reduceMod, Nat.reduceDiv, Nat.reduceEqDiff, Nat.reduceLeDiff, Nat.reduceBEq, Int.reduceAdd, Int.reduceSub, Int.reduceMul, Int.reduceNeg, Int.reduceLT, Int.reduceLE, Int.reduceEq, Int.reduceNe, Int.reduceBEq, Int.reduceToNat, Int.reduceTDiv, Int.reduceTMod, Int.reduceOfNat, reduceCtorEq]
    try simp (disch := first | omega | (simp only [List.length_set, List.length_replicate]; done) | (simp only [List.length_set, List.length_replicate]; omega)) only [wrap_i64', wrap_u64', wrap_u32', wrap_u8', Int.tmod_eq_emod_of_nonneg, Int.tdiv_eq_ediv_of_nonneg, sub_one, sub_all, splice_all, List.length_set, List.length_replicate]
    refine hK1 _ _ ?_
    clear hK1 K1
    simp only [CallTo, AV.mapL, AV.map]
    refine ⟨_, _, apply_nil _ o ho, ?_⟩
    simp only [wT, Bool.not_eq_true, ty, zr, Nat.reduceAdd, Nat.reduceSub, Nat.reduceMul, Nat.reduceMod, Nat.reduceDiv, Nat.reduceEqDiff, Nat.reduceLeDiff, Nat.reduceBEq, Int.reduceAdd, Int.reduceSub, Int.reduceMul, Int.reduceNeg, Int.reduceLT, Int.reduceLE, Int.reduceEq, Int.reduceNe, Int.reduceBEq, Int.reduceToNat, Int.reduceTDiv, Int.reduceTMod, Int.reduceOfNat, reduceCtorEq]
    try simp (disch := first | omega | (simp only [List.length_set, List.length_replicate]; done) | (simp only [List.length_set, List.length_replicate]; omega)) only [wrap_i64', wrap_u64', wrap_u32', wrap_u8', Int.tmod_eq_emod_of_nonneg, Int.tdiv_eq_ediv_of_nonneg, sub_one, sub_all, splice_all, List.length_set, List.length_replicate]
    (repeat ((with_reducible refine And.intro ?_ ?_); (first | omega | exact True.intro | assumption | rfl)))
    refine hK _ ?_; clear hK K
    refine AWp.reg p_law22_DeltaNone_5 [] s_law22_DeltaNone_5 rfl rfl fun K hK => st_of ?_
    simp only [s_law22_DeltaNone_5, wT, Bool.not_eq_true, ty, zr, Nat.reduceAdd, Nat.reduceSub, Nat.reduceMul, Nat.reduceMod, Nat.reduceDiv, Nat.reduceEqDiff, Nat.reduceLeDiff, Nat.reduceBEq, Int.reduceAdd, Int.reduceSub, Int.reduceMul, Int.reduceNeg, Int.reduceLT, Int.reduceLE, Int.reduceEq, Int.reduceNe, Int.reduceBEq, Int.reduceToNat, Int.reduceTDiv, Int.reduceTMod, Int.reduceOfNat, reduceCtorEq]
    try simp (disch := first | omega | (simp only [List.length_set, List.length_replicate]; done) | (simp only [List.length_set, List.length_replicate]; omega)) only [wrap_i64', wrap_u64', wrap_u32', wrap_u8', Int.tmod_eq_emod_of_nonneg, Int.tdiv_eq_ediv_of_nonneg, sub_one, sub_all, splice_all, List.length_set, List.length_replicate]
    (repeat ((with_reducible refine And.intro ?_ ?_); (first | omega | exact True.intro | assumption | rfl)))
    refine st_call fun K1 hK1 => ?_
    simp only [calleeC, wT, Bool.not_eq_true, ty, zr, Nat.reduceAdd, Nat.reduceSub, Nat.reduceMul, Nat.reduceMod, Nat.reduceDiv, Nat.reduceEqDiff, Nat.reduceLeDiff, Nat.reduceBEq, Int.reduceAdd, Int.reduceSub, Int.reduceMul, Int.reduceNeg, Int.reduceLT, Int.reduceLE, Int.reduceEq, Int.reduceNe, Int.reduceBEq, Int.reduceToNat, Int.reduceTDiv, Int.reduceTMod, Int.reduceOfNat, reduceCtorEq]
    try simp (disch := first | omega | (simp only [List.length_set, List.length_replicate]; done) | (simp only [List.length_set, List.length_replicate]; omega)) only [wrap_i64', wrap_u64', wrap_u32', wrap_u8', Int.tmod_eq_emod_of_nonneg, Int.tdiv_eq_ediv_of_nonneg, sub_one, sub_all, splice_all, List.length_set, List.length_replicate]
    refine hK1 _ _ ?_
    clear hK1 K1
    simp only [CallTo, AV.mapL, AV.map]
    refine ⟨_, _, right_nil _, ?_⟩
    simp only [wT, Bool.not_eq_true, ty, zr, Nat.reduceAdd, Nat.reduceSub, Nat.reduceMul, Nat.reduceMod, Nat.reduceDiv, Nat.reduceEqDiff, Nat.reduceLeDiff, Nat.reduceBEq, Int.reduceAdd, Int.reduceSub, Int.reduceMul, Int.reduceNeg, Int.reduceLT, Int.reduceLE, Int.reduceEq, Int.reduceNe, Int.reduceBEq, Int.reduceToNat, Int.reduceTDiv, Int.reduceTMod, Int.reduceOfNat, reduceCtorEq]
    try simp (disch := first | omega | (simp only [List.length_set, List.length_replicate]; done) | (simp only [List.length_set, List.length_replicate]; omega)) only [wrap_i64', wrap_u64', wrap_u32', wrap_u8', Int.tmod_eq_emod_of_nonneg, Int.tdiv_eq_ediv_of_nonneg, sub_one, sub_all, splice_all, List.length_set, List.length_replicate]
    (repeat ((with_reducible refine And.intro ?_ ?_); (first | omega | exact True.intro | assumption | rfl)))
    refine hK _ ?_; clear hK K
    refine AWp.ret ?_
    try simp only [thenQ, bq, lq, lf, iq, gq, Nat.reduceEqDiff, if_true, if_false]
    simp only [endQ, rs_law22_DeltaNone, resC, one, wT, Bool.not_eq_true, ty, zr, Nat.reduceAdd, Nat.reduceSub, Nat.reduceMul, Nat.reduceMod, Nat.reduceDiv, Nat.reduceEqDiff, Nat.reduceLeDiff, Nat.reduceBEq, Int.reduceAdd, Int.reduceSub, Int.reduceMul, Int.reduceNeg, Int.reduceLT, Int.reduceLE, Int.reduceEq, Int.reduceNe, Int.reduceBEq, Int.reduceToNat, Int.reduceTDiv, Int.reduceTMod, Int.reduceOfNat, reduceCtorEq]
    try simp (disch := first | omega | (simp only [List.length_set, List.length_replicate]; done) | (simp only [List.length_set, List.length_replicate]; omega)) only [wrap_i64', wrap_u64', wrap_u32', wrap_u8', Int.tmod_eq_emod_of_nonneg, Int.tdiv_eq_ediv_of_nonneg, sub_one, sub_all, splice_all, List.length_set, List.length_replicate]
    repeat' (first | exact True.intro | (with_reducible rfl) | (with_reducible apply And.intro) | omega | rfl)
theorem law_ins (ins : List In) (h : insFit Try.prog [23] ins) : FnOk Try.prog 6 (insE ins) (insAv 0 ins) [] (.bool true) [] := by
  match ins, h with
  | [i], h =>
    obtain ⟨o, rfl, ho, _⟩ := fits_arr Try.underlying23 Try.underlying5 h.1
    exact law_ok _ o ho
open Go.ChangeShapes Go.WideShapes Go.ChangeAt Go.RowKit
theorem own : ownKnob Try.prog.godebug = none := by kernel_rfl
theorem laidOut : laidOutB Try.prog = true := by kernel_rfl
set_option maxRecDepth 100000 in
theorem lifted (os : Os) (started : os.Started) (H : Type) (enc : TypeId × Value → H) :
    ReturnsInHanded {} Try.checked os 6 .any (Rows.deltaNoneSpec.pre6 enc Try.prog Try.f6 Rows.deltaNoneRow.domain false) (Rows.deltaNoneSpec.post enc Try.prog Try.f6 false true false false) := by
  refine returnsInHanded_of_change_sized (C := Try.checked) own started (by kernel_rfl) Try.func6
    (ChangeSpec.witness6 (enc := enc) (C := Try.checked) false ⟨#[], #[.agg #[.int .u8 0, .int .u8 0, .int .u8 0, .int .u8 0, .int .u8 0, .int .u8 0, .int .u8 0, .int .u8 0, .int .u8 0, .int .u8 0, .int .u8 0, .int .u8 0, .int .u8 0, .int .u8 0, .int .u8 0, .int .u8 0, .int .u8 0, .int .u8 0, .int .u8 0, .int .u8 0, .int .u8 0, .int .u8 0, .int .u8 0, .int .u8 0, .int .u8 0, .int .u8 0, .int .u8 0, .int .u8 0, .int .u8 0, .int .u8 0, .int .u8 0, .int .u8 0]], []⟩ 8 (by kernel_rfl) (by kernel_rfl) (by kernel_rfl) (by kernel_rfl)) ?_
  intro W base args ds gs before hval0 hW hcnd hsz _
  have hW' := hW
  obtain ⟨p, q, hA, hV, rfl, hfz, hnd⟩ := hW
  obtain ⟨rfl, rfl⟩ := trodVars_none hV
  have hA2 := hA
  rw [Try.params6] at hA2
  obtain ⟨ins, hfit, hins⟩ := open_all (P := Try.prog) (W := W) (ts := Try.f6.params.toList) (r := .any) (b0 := base) (by kernel_rfl)
    (fun j t v h1 h2 => hval0 j t v (by simpa using h1) (by simpa using h2))
    (fun j t el sp h1 h2 e he => sized_slice hsz (j := j) (by rw [List.getElem?_append_left (List.getElem?_eq_some_iff.1 h1).1]; exact h1) (by rw [List.getElem?_append_left (List.getElem?_eq_some_iff.1 h2).1]; exact h2) he) hA
  rw [Try.params6] at hfit
  obtain ⟨v0, vs0, d0, ds0, p0, q0, ha0, rfl, hp0, k0, r0⟩ := trodAll_cons hA2
  obtain ⟨_, rfl, _⟩ := trodAll_nil r0
  refine (law_calls (law_ins ins hfit) trivial hins).mono fun e W' ⟨v, he, hv, bel⟩ => ?_
  cases hv
  subst he
  exact ⟨_, rfl, _, _, _, [], _, [], hW', trodAll_mk1 (shut_bool Try.underlying4 _), shut_all laidOut bel (by kernel_rfl) hA, rfl, bel.frame _, fun h => by cases h⟩

theorem over : Rows.deltaNoneRow.holds Try.pinned (OpenSpec.ofChange Rows.deltaNoneSpec) :=
  OpenClaim.holds_of_wide 6 Try.f6 rfl rfl rfl rfl rfl rfl rfl ⟨rfl, rfl, rfl, rfl, rfl⟩ rfl rfl rfl rfl rfl (by kernel_rfl) Try.func6 (by kernel_rfl)
    (of_decide_eq_true (by kernel_rfl)) (by unfold Func.isWrapper; first | (rw [if_pos (by decide +kernel)]; kernel_rfl) | (rw [if_neg (by decide +kernel)]; exact ⟨rfl, rfl⟩))
    (fun os started H enc _ => lifted os started H enc)

/-- The statement. -/
theorem proved : Rows.DeltaNoneSaid := over
end Go.Proofs.Ytelelglnbopgmaa
