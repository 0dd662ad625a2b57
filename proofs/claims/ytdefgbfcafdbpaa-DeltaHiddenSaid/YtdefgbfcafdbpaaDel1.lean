/- Contracts: the differences. -/
import Derived.Test.YtdefgbfcafdbpaaSam
import Derived.Test.YtdefgbfcafdbpaaDelM
namespace Go.Proofs.Ytdefgbfcafdbpaa
open Go Go.Proofs.Ytdefgbfcafdbpaa.Sy
set_option linter.unusedSimpArgs false
set_option linter.unusedVariables false
set_option maxRecDepth 100000


theorem app_len {c t r : List Int} (h : c ++ t = r) : c.length ≤ r.length := by subst h; simp
theorem raw_le (o w : List Int) (hw : w.length = 32) : (rawL o w).length ≤ 1088 := by unfold rawL; have := restT_len o w hw 32 false (by omega); omega
theorem make_shape {o w c : List Int} (h : c = rawL o w) (hf : (rawL o w).length ≤ 20) : makeL o w = c ∧ fitB o w = true := by
  have : fitB o w = true := by simpa [fitB] using hf
  refine ⟨?_, this⟩
  unfold makeL
  rw [this, if_pos rfl, h]
theorem make_none {o w : List Int} (hf : ¬ (rawL o w).length ≤ 20) : makeL o w = [] ∧ fitB o w = false := by
  have : fitB o w = false := by simpa [fitB] using hf
  refine ⟨?_, this⟩
  unfold makeL
  rw [this]; rfl
def makeV {ι : Type} (id : ι) (o w : List Int) : AV ι := .tuple [.slice true id 0 (makeL o w).length 1, .bool (fitB o w)]

theorem makeI_ok {α : Type} (E : α → Option (Row α)) (o w : List Int) (ho : o.length = 32) (hw : w.length = 32) : FnOk Try.prog n_delta_Make E [.ints .u8 o, .ints .u8 w] [] (.tuple [.slice true (.own 0) 0 (makeL o w).length 1, .bool (fitB o w)]) [some (.ints .u8 (makeL o w))] := by
  have hr := raw_le o w hw
  refine FnOk.intro func_delta_Make call_delta_Make (body := _) rfl nt_delta_Make (by simp) ?_
  refine AWp.reg p_delta_Make_0 [] s_delta_Make_0 rfl rfl fun K hK => st_of ?_
  simp only [s_delta_Make_0, wT, Bool.not_eq_true, ty, zr, Nat.reduceAdd, Nat.reduceSub, Nat.reduceMul, Nat.reduceMod, Nat.reduceDiv, Nat.reduceEqDiff, Nat.reduceLeDiff, Nat.reduceBEq, Int.reduceAdd, Int.reduceSub, Int.reduceMul, Int.reduceNeg, Int.reduceLT, Int.reduceLE, Int.reduceEq, Int.reduceNe, Int.reduceBEq, Int.reduceToNat, Int.reduceTDiv, Int.reduceTMod, Int.reduceOfNat, reduceCtorEq, sty, sui]
  try simp (disch := first | omega | (simp only [List.length_set, List.length_append, List.length_cons, List.length_nil]; done) | (simp only [List.length_set, List.length_append, List.length_cons, List.length_nil]; omega)) only [wrap_i64', wrap_u64', wrap_u32', wrap_u8', Int.tmod_eq_emod_of_nonneg, Int.tdiv_eq_ediv_of_nonneg, sub_one, sub_all, splice_all, List.length_set, List.length_append, List.length_cons, List.length_nil]
  (repeat ((with_reducible refine And.intro ?_ ?_); (first | omega | exact True.intro | with_reducible rfl | decide | assumption | rfl)))
  refine hK _ ?_; clear hK K
  refine AWp.reg p_delta_Make_1 [] s_delta_Make_1 rfl rfl fun K hK => st_of ?_
  simp only [s_delta_Make_1, wT, Bool.not_eq_true, ty, zr, Nat.reduceAdd, Nat.reduceSub, Nat.reduceMul, Nat.reduceMod, Nat.reduceDiv, Nat.reduceEqDiff, Nat.reduceLeDiff, Nat.reduceBEq, Int.reduceAdd, Int.reduceSub, Int.reduceMul, Int.reduceNeg, Int.reduceLT, Int.reduceLE, Int.reduceEq, Int.reduceNe, Int.reduceBEq, Int.reduceToNat, Int.reduceTDiv, Int.reduceTMod, Int.reduceOfNat, reduceCtorEq, sty, sui]
  try simp (disch := first | omega | (simp only [List.length_set, List.length_append, List.length_cons, List.length_nil]; done) | (simp only [List.length_set, List.length_append, List.length_cons, List.length_nil]; omega)) only [wrap_i64', wrap_u64', wrap_u32', wrap_u8', Int.tmod_eq_emod_of_nonneg, Int.tdiv_eq_ediv_of_nonneg, sub_one, sub_all, splice_all, List.length_set, List.length_append, List.length_cons, List.length_nil]
  (repeat ((with_reducible refine And.intro ?_ ?_); (first | omega | exact True.intro | with_reducible rfl | decide | assumption | rfl)))
  refine hK _ ?_; clear hK K
  refine AWp.grp fun G8 hG8 => ?_
  refine AWp.reg p_delta_Make_2 [] s_delta_Make_2 rfl rfl fun K hK => st_of ?_
  simp only [s_delta_Make_2, wT, Bool.not_eq_true, ty, zr, Nat.reduceAdd, Nat.reduceSub, Nat.reduceMul, Nat.reduceMod, Nat.reduceDiv, Nat.reduceEqDiff, Nat.reduceLeDiff, Nat.reduceBEq, Int.reduceAdd, Int.reduceSub, Int.reduceMul, Int.reduceNeg, Int.reduceLT, Int.reduceLE, Int.reduceEq, Int.reduceNe, Int.reduceBEq, Int.reduceToNat, Int.reduceTDiv, Int.reduceTMod, Int.reduceOfNat, reduceCtorEq, sty, sui]
  try simp (disch := first | omega | (simp only [List.length_set, List.length_append, List.length_cons, List.length_nil]; done) | (simp only [List.length_set, List.length_append, List.length_cons, List.length_nil]; omega)) only [wrap_i64', wrap_u64', wrap_u32', wrap_u8', Int.tmod_eq_emod_of_nonneg, Int.tdiv_eq_ediv_of_nonneg, sub_one, sub_all, splice_all, List.length_set, List.length_append, List.length_cons, List.length_nil]
  (repeat ((with_reducible refine And.intro ?_ ?_); (first | omega | exact True.intro | with_reducible rfl | decide | assumption | rfl)))
  refine hK _ ?_; clear hK K
  refine AWp.ghoX (β := Nat × List Int) (fun gx : Nat × List Int => match gx with | ⟨i, c⟩ => ⟨[(2, .ptr (.own 0) 0), (3, .ptr (.own 1) 0), (6, .slice true (.own 2) 0 c.length 1), (7, .int .i64 i)], [some (.ints .u8 o), some (.ints .u8 w), some (.ints .u8 c)]⟩) (fun gx : Nat × List Int => match gx with | ⟨i, c⟩ => 40 - i) (fun gx : Nat × List Int => match gx with | ⟨i, c⟩ => i ≤ 33 ∧ c ++ restT o w (32 - i) false = rawL o w) (0, []) ?_ ?_ fun X0 hX0 y0 hF0 => ?_
  · refine Le.trans (Le.nil 6 rfl .u8 1) ?_
    simp only [List.cons_append, List.nil_append, List.length_cons, List.length_nil, Nat.reduceAdd, Nat.zero_add]
    exact Le.of (by first | exact Nat.zero_le _ | simp) (by simp only [leTm, tget, AV.All, AV.AllL, inS, Nat.reduceEqDiff, if_true, if_false]; repeat' (first | exact trivial | rfl | assumption | apply And.intro | simp [mapL_flat, mapL_flat1, allL_flat, allL_flat1])) (by simp only [leRows, Row.All, AV.AllL, AV.All, inS]; repeat' (first | exact trivial | rfl | assumption | apply And.intro | simp [mapL_flat, mapL_flat1, allL_flat, allL_flat1]))
  · exact ⟨by omega, by unfold rawL; rfl⟩
  obtain ⟨i, c⟩ := y0
  dsimp only at hF0 ⊢
  obtain ⟨hi, hc⟩ := hF0
  have hcl := app_len hc
  refine AWp.grp fun G22 hG22 => ?_
  refine AWp.reg p_delta_Make_3 [] s_delta_Make_3 rfl rfl fun K hK => st_of ?_
  simp only [s_delta_Make_3, wT, Bool.not_eq_true, ty, zr, Nat.reduceAdd, Nat.reduceSub, Nat.reduceMul, Nat.reduceMod, Nat.reduceDiv, Nat.reduceEqDiff, Nat.reduceLeDiff, Nat.reduceBEq, Int.reduceAdd, Int.reduceSub, Int.reduceMul, Int.reduceNeg, Int.reduceLT, Int.reduceLE, Int.reduceEq, Int.reduceNe, Int.reduceBEq, Int.reduceToNat, Int.reduceTDiv, Int.reduceTMod, Int.reduceOfNat, reduceCtorEq, sty, sui]
  try simp (disch := first | omega | (simp only [List.length_set, List.length_append, List.length_cons, List.length_nil]; done) | (simp only [List.length_set, List.length_append, List.length_cons, List.length_nil]; omega)) only [wrap_i64', wrap_u64', wrap_u32', wrap_u8', Int.tmod_eq_emod_of_nonneg, Int.tdiv_eq_ediv_of_nonneg, sub_one, sub_all, splice_all, List.length_set, List.length_append, List.length_cons, List.length_nil]
  (repeat ((with_reducible refine And.intro ?_ ?_); (first | omega | exact True.intro | with_reducible rfl | decide | assumption | rfl)))
  refine hK _ ?_; clear hK K
  refine AWp.testE rfl (fun hb => ?_) (fun hb => ?_)
  · try simp only [decide_eq_true_eq, decide_eq_false_iff_not, beq_iff_eq, bne_iff_ne, ne_eq, Bool.not_eq_true, beq_eq_false_iff_ne, bne_eq_false_iff_eq, Bool.not_eq_false, Bool.not_eq_eq_eq_not, Bool.not_true, Bool.not_false] at hb
    try simp only [thenQ, bq, lq, lf, iq, gq, Nat.reduceEqDiff, if_true, if_false]
    refine hG22 _ ?_
    try clear hG22 G22
    refine AWp.blk fun Y1 hY1 => ?_
    refine AWp.grp fun G33 hG33 => ?_
    refine AWp.drwP mix p_delta_Make_5 q_delta_Make_5 g_delta_Make_5 s_delta_Make_5 rfl (by decide +kernel) fun K hK => sp_of ?_
    simp only [s_delta_Make_5, wT, Bool.not_eq_true, ty, zr, Nat.reduceAdd, Nat.reduceSub, Nat.reduceMul, Nat.reduceMod, Nat.reduceDiv, Nat.reduceEqDiff, Nat.reduceLeDiff, Nat.reduceBEq, Int.reduceAdd, Int.reduceSub, Int.reduceMul, Int.reduceNeg, Int.reduceLT, Int.reduceLE, Int.reduceEq, Int.reduceNe, Int.reduceBEq, Int.reduceToNat, Int.reduceTDiv, Int.reduceTMod, Int.reduceOfNat, reduceCtorEq, sty, sui]
    try simp (disch := first | omega | (simp only [List.length_set, List.length_append, List.length_cons, List.length_nil]; done) | (simp only [List.length_set, List.length_append, List.length_cons, List.length_nil]; omega)) only [wrap_i64', wrap_u64', wrap_u32', wrap_u8', Int.tmod_eq_emod_of_nonneg, Int.tdiv_eq_ediv_of_nonneg, sub_one, sub_all, splice_all, List.length_set, List.length_append, List.length_cons, List.length_nil]
    (repeat ((with_reducible refine And.intro ?_ ?_); (first | omega | exact True.intro | with_reducible rfl | decide | assumption | rfl)))
    refine hK _ ?_; clear hK K
    refine AWp.iteE rfl (fun hb => ?_) (fun hb => ?_)
    · try simp only [decide_eq_true_eq, decide_eq_false_iff_not, beq_iff_eq, bne_iff_ne, ne_eq, Bool.not_eq_true, beq_eq_false_iff_ne, bne_eq_false_iff_eq, Bool.not_eq_false, Bool.not_eq_eq_eq_not, Bool.not_true, Bool.not_false] at hb
      have hdi : dif o w i = false := by simp only [dif, bne_eq_false_iff_eq]; exact hb
      refine AWp.exit ?_
      try simp only [thenQ, bq, lq, lf, iq, gq, Nat.reduceEqDiff, if_true, if_false]
      refine hY1 _ ?_
      try clear hY1 Y1
      refine AWp.regE p_delta_Make_4 [] s_delta_Make_4 rfl rfl (st_of ?_)
      simp only [s_delta_Make_4, wT, Bool.not_eq_true, ty, zr, Nat.reduceAdd, Nat.reduceSub, Nat.reduceMul, Nat.reduceMod, Nat.reduceDiv, Nat.reduceEqDiff, Nat.reduceLeDiff, Nat.reduceBEq, Int.reduceAdd, Int.reduceSub, Int.reduceMul, Int.reduceNeg, Int.reduceLT, Int.reduceLE, Int.reduceEq, Int.reduceNe, Int.reduceBEq, Int.reduceToNat, Int.reduceTDiv, Int.reduceTMod, Int.reduceOfNat, reduceCtorEq, sty, sui]
      try simp (disch := first | omega | (simp only [List.length_set, List.length_append, List.length_cons, List.length_nil]; done) | (simp only [List.length_set, List.length_append, List.length_cons, List.length_nil]; omega)) only [wrap_i64', wrap_u64', wrap_u32', wrap_u8', Int.tmod_eq_emod_of_nonneg, Int.tdiv_eq_ediv_of_nonneg, sub_one, sub_all, splice_all, List.length_set, List.length_append, List.length_cons, List.length_nil]
      (repeat ((with_reducible refine And.intro ?_ ?_); (first | omega | exact True.intro | with_reducible rfl | decide | assumption | rfl)))
      try simp only [thenQ, bq, lq, lf, iq, gq, Nat.reduceEqDiff, if_true, if_false]
      refine ⟨(i + 1, c), ?_, ?_, ?_⟩
      · (try dsimp only); omega
      · exact ⟨by dsimp only; omega, by dsimp only; rw [show 32 - (i + 1) = 31 - i by omega, ← hc, restT_eq o w i (by omega) false (.inl hdi), hdi]⟩
      · try dsimp only
        exact Le.of (by first | exact Nat.zero_le _ | simp) (by simp only [leTm, tget, AV.All, AV.AllL, inS, Nat.reduceEqDiff, if_true, if_false]; repeat' (first | exact trivial | rfl | assumption | apply And.intro | simp [mapL_flat, mapL_flat1, allL_flat, allL_flat1])) (by simp only [leRows, Row.All, AV.AllL, AV.All, inS]; repeat' (first | exact trivial | rfl | assumption | apply And.intro | simp [mapL_flat, mapL_flat1, allL_flat, allL_flat1]))
    · try simp only [decide_eq_true_eq, decide_eq_false_iff_not, beq_iff_eq, bne_iff_ne, ne_eq, Bool.not_eq_true, beq_eq_false_iff_ne, bne_eq_false_iff_eq, Bool.not_eq_false, Bool.not_eq_eq_eq_not, Bool.not_true, Bool.not_false] at hb
      have hdi : dif o w i = true := by simp only [dif, bne_iff_ne, ne_eq]; exact hb
      refine AWp.skip ?_
      try simp only [thenQ, bq, lq, lf, iq, gq, Nat.reduceEqDiff, if_true, if_false]
      refine hG33 _ ?_
      try clear hG33 G33
      refine AWp.reg p_delta_Make_6 [] s_delta_Make_6 rfl rfl fun K hK => st_of ?_
      simp only [s_delta_Make_6, wT, Bool.not_eq_true, ty, zr, Nat.reduceAdd, Nat.reduceSub, Nat.reduceMul, Nat.reduceMod, Nat.reduceDiv, Nat.reduceEqDiff, Nat.reduceLeDiff, Nat.reduceBEq, Int.reduceAdd, Int.reduceSub, Int.reduceMul, Int.reduceNeg, Int.reduceLT, Int.reduceLE, Int.reduceEq, Int.reduceNe, Int.reduceBEq, Int.reduceToNat, Int.reduceTDiv, Int.reduceTMod, Int.reduceOfNat, reduceCtorEq, sty, sui]
      try simp (disch := first | omega | (simp only [List.length_set, List.length_append, List.length_cons, List.length_nil]; done) | (simp only [List.length_set, List.length_append, List.length_cons, List.length_nil]; omega)) only [wrap_i64', wrap_u64', wrap_u32', wrap_u8', Int.tmod_eq_emod_of_nonneg, Int.tdiv_eq_ediv_of_nonneg, sub_one, sub_all, splice_all, List.length_set, List.length_append, List.length_cons, List.length_nil]
      (repeat ((with_reducible refine And.intro ?_ ?_); (first | omega | exact True.intro | with_reducible rfl | decide | assumption | rfl)))
      refine hK _ ?_; clear hK K
      refine AWp.gho (β := Nat) (fun j : Nat => ⟨[(2, .ptr (.own 0) 0), (3, .ptr (.own 1) 0), (6, .slice true (.own 2) 0 c.length 1), (8, .int .i64 i), (7, .int .i64 j)], [some (.ints .u8 o), some (.ints .u8 w), some (.ints .u8 c)]⟩) (fun j : Nat => 40 - j) (fun j : Nat => i ≤ j ∧ j ≤ 32 ∧ ∀ k, k < j - i → dif o w (i + k) = true) i ?_ ?_ fun X2 hX2 y2 hF2 => ?_
      · skip
        exact Le.of (by first | exact Nat.zero_le _ | simp) (by simp only [leTm, tget, AV.All, AV.AllL, inS, Nat.reduceEqDiff, if_true, if_false]; repeat' (first | exact trivial | rfl | assumption | apply And.intro | simp [mapL_flat, mapL_flat1, allL_flat, allL_flat1])) (by simp only [leRows, Row.All, AV.AllL, AV.All, inS]; repeat' (first | exact trivial | rfl | assumption | apply And.intro | simp [mapL_flat, mapL_flat1, allL_flat, allL_flat1]))
      · exact ⟨by omega, by omega, fun k hk => by omega⟩
      revert hF2; revert y2; intro j hF2
      try dsimp only at hF2 ⊢
      obtain ⟨hj1, hj2, hj3⟩ := hF2
      refine AWp.grp fun G71 hG71 => ?_
      refine AWp.drwJ mix p_delta_Make_7 q_delta_Make_7 g_delta_Make_7 s_delta_Make_7 ⟨[(2, .ptr (.own 0) 0), (3, .ptr (.own 1) 0), (6, .slice true (.own 2) 0 c.length 1), (8, .int .i64 i), (7, .int .i64 j), (31, .bool (decide (j < 32) && dif o w j))], [some (.ints .u8 o), some (.ints .u8 w), some (.ints .u8 c)]⟩ rfl (by decide +kernel) (fun K hK => sp_of ?_) ?_
      · simp only [s_delta_Make_7, wT, Bool.not_eq_true, ty, zr, Nat.reduceAdd, Nat.reduceSub, Nat.reduceMul, Nat.reduceMod, Nat.reduceDiv, Nat.reduceEqDiff, Nat.reduceLeDiff, Nat.reduceBEq, Int.reduceAdd, Int.reduceSub, Int.reduceMul, Int.reduceNeg, Int.reduceLT, Int.reduceLE, Int.reduceEq, Int.reduceNe, Int.reduceBEq, Int.reduceToNat, Int.reduceTDiv, Int.reduceTMod, Int.reduceOfNat, reduceCtorEq, sty, sui]
        try simp (disch := first | omega | (simp only [List.length_set, List.length_append, List.length_cons, List.length_nil]; done) | (simp only [List.length_set, List.length_append, List.length_cons, List.length_nil]; omega)) only [wrap_i64', wrap_u64', wrap_u32', wrap_u8', Int.tmod_eq_emod_of_nonneg, Int.tdiv_eq_ediv_of_nonneg, sub_one, sub_all, splice_all, List.length_set, List.length_append, List.length_cons, List.length_nil]
        refine ⟨fun h => ?_, fun h => ?_⟩
        · (repeat ((with_reducible refine And.intro ?_ ?_); (first | omega | exact True.intro | with_reducible rfl | decide | assumption | rfl)))
          rw [show (o.getD j 0 != w.getD j 0) = (decide (j < 32) && dif o w j) by rw [decide_eq_true (show j < 32 by omega)]; rfl]
          exact hK _ (Le.of (by first | exact Nat.zero_le _ | simp) (by simp only [leTm, tget, AV.All, AV.AllL, inS, Nat.reduceEqDiff, if_true, if_false]; repeat' (first | exact trivial | rfl | assumption | apply And.intro | simp [mapL_flat, mapL_flat1, allL_flat, allL_flat1])) (by simp only [leRows, Row.All, AV.AllL, AV.All, inS]; repeat' (first | exact trivial | rfl | assumption | apply And.intro | simp [mapL_flat, mapL_flat1, allL_flat, allL_flat1])))
        · rw [show (false : Bool) = (decide (j < 32) && dif o w j) by rw [decide_eq_false (show ¬ j < 32 by omega)]; rfl]
          exact hK _ (Le.of (by first | exact Nat.zero_le _ | simp) (by simp only [leTm, tget, AV.All, AV.AllL, inS, Nat.reduceEqDiff, if_true, if_false]; repeat' (first | exact trivial | rfl | assumption | apply And.intro | simp [mapL_flat, mapL_flat1, allL_flat, allL_flat1])) (by simp only [leRows, Row.All, AV.AllL, AV.All, inS]; repeat' (first | exact trivial | rfl | assumption | apply And.intro | simp [mapL_flat, mapL_flat1, allL_flat, allL_flat1])))
      refine AWp.testE rfl (fun hb => ?_) (fun hb => ?_)
      · try simp only [decide_eq_true_eq, decide_eq_false_iff_not, beq_iff_eq, bne_iff_ne, ne_eq, Bool.not_eq_true, beq_eq_false_iff_ne, bne_eq_false_iff_eq, Bool.not_eq_false, Bool.not_eq_eq_eq_not, Bool.not_true, Bool.not_false] at hb
        simp only [Bool.and_eq_true, decide_eq_true_eq] at hb
        try simp only [thenQ, bq, lq, lf, iq, gq, Nat.reduceEqDiff, if_true, if_false]
        refine hG71 _ ?_
        try clear hG71 G71
        refine AWp.blkX fun Y3 hY3 => ?_
        refine AWp.regE p_delta_Make_8 [] s_delta_Make_8 rfl rfl (st_of ?_)
        simp only [s_delta_Make_8, wT, Bool.not_eq_true, ty, zr, Nat.reduceAdd, Nat.reduceSub, Nat.reduceMul, Nat.reduceMod, Nat.reduceDiv, Nat.reduceEqDiff, Nat.reduceLeDiff, Nat.reduceBEq, Int.reduceAdd, Int.reduceSub, Int.reduceMul, Int.reduceNeg, Int.reduceLT, Int.reduceLE, Int.reduceEq, Int.reduceNe, Int.reduceBEq, Int.reduceToNat, Int.reduceTDiv, Int.reduceTMod, Int.reduceOfNat, reduceCtorEq, sty, sui]
        try simp (disch := first | omega | (simp only [List.length_set, List.length_append, List.length_cons, List.length_nil]; done) | (simp only [List.length_set, List.length_append, List.length_cons, List.length_nil]; omega)) only [wrap_i64', wrap_u64', wrap_u32', wrap_u8', Int.tmod_eq_emod_of_nonneg, Int.tdiv_eq_ediv_of_nonneg, sub_one, sub_all, splice_all, List.length_set, List.length_append, List.length_cons, List.length_nil]
        (repeat ((with_reducible refine And.intro ?_ ?_); (first | omega | exact True.intro | with_reducible rfl | decide | assumption | rfl)))
        try simp only [thenQ, bq, lq, lf, iq, gq, Nat.reduceEqDiff, if_true, if_false]
        refine hY3 _ ?_
        try clear hY3 Y3
        try simp only [thenQ, bq, lq, lf, iq, gq, Nat.reduceEqDiff, if_true, if_false]
        refine ⟨j + 1, ?_, ?_, ?_⟩
        · (try dsimp only); omega
        · refine ⟨by omega, by omega, fun k hk => ?_⟩
          by_cases hkj : k < j - i
          · exact hj3 k hkj
          · rw [show i + k = j by omega]; exact hb.2
        · try dsimp only
          exact Le.of (by first | exact Nat.zero_le _ | simp) (by simp only [leTm, tget, AV.All, AV.AllL, inS, Nat.reduceEqDiff, if_true, if_false]; repeat' (first | exact trivial | rfl | assumption | apply And.intro | simp [mapL_flat, mapL_flat1, allL_flat, allL_flat1])) (by simp only [leRows, Row.All, AV.AllL, AV.All, inS]; repeat' (first | exact trivial | rfl | assumption | apply And.intro | simp [mapL_flat, mapL_flat1, allL_flat, allL_flat1]))
      · try simp only [decide_eq_true_eq, decide_eq_false_iff_not, beq_iff_eq, bne_iff_ne, ne_eq, Bool.not_eq_true, beq_eq_false_iff_ne, bne_eq_false_iff_eq, Bool.not_eq_false, Bool.not_eq_eq_eq_not, Bool.not_true, Bool.not_false] at hb
        have hb' : j = 32 ∨ dif o w j = false := by
          simp only [Bool.and_eq_false_iff, decide_eq_false_iff_not] at hb
          rcases hb with hb | hb
          · exact .inl (by omega)
          · exact .inr hb
        have hij : i < j := by rcases Nat.lt_or_ge i j with h | h; exact h; (exfalso; have e : j = i := by omega); subst e; rcases hb' with h | h; omega; rw [hdi] at h; cases h
        have e1 := restT_new o w i (j - i) (by omega) hdi (by omega) hj3 (by rw [show i + (j - i) = j by omega]; exact hb')
        have e2 := restT_run o w (j - (i + 1)) (i + 1) (by omega) (fun k hk => by have := hj3 (k + 1) (by omega); rwa [show i + 1 + k = i + (k + 1) by omega])
        have e3 : restT o w (32 - j) true = restT o w (31 - j) false := by
          rcases hb' with h | h
          · subst h; simp [restT_zero]
          · rcases Nat.lt_or_ge j 32 with h' | h'
            · rw [restT_eq o w j h' true (.inr rfl), h]
            · rw [show j = 32 by omega]; simp [restT_zero]
        rw [show 32 - (i + 1) = 31 - i by omega, show i + 1 + (j - (i + 1)) = j by omega] at e2
        try simp only [thenQ, bq, lq, lf, iq, gq, Nat.reduceEqDiff, if_true, if_false]
        refine hX2 _ ?_
        try clear hX2 X2
        refine AWp.drwPE mix p_delta_Make_9 q_delta_Make_9 g_delta_Make_9 s_delta_Make_9 rfl (by decide +kernel) (sp_of ?_)
        simp only [s_delta_Make_9, wT, Bool.not_eq_true, ty, zr, Nat.reduceAdd, Nat.reduceSub, Nat.reduceMul, Nat.reduceMod, Nat.reduceDiv, Nat.reduceEqDiff, Nat.reduceLeDiff, Nat.reduceBEq, Int.reduceAdd, Int.reduceSub, Int.reduceMul, Int.reduceNeg, Int.reduceLT, Int.reduceLE, Int.reduceEq, Int.reduceNe, Int.reduceBEq, Int.reduceToNat, Int.reduceTDiv, Int.reduceTMod, Int.reduceOfNat, reduceCtorEq, sty, sui]
        try simp (disch := first | omega | (simp only [List.length_set, List.length_append, List.length_cons, List.length_nil]; done) | (simp only [List.length_set, List.length_append, List.length_cons, List.length_nil]; omega)) only [wrap_i64', wrap_u64', wrap_u32', wrap_u8', Int.tmod_eq_emod_of_nonneg, Int.tdiv_eq_ediv_of_nonneg, sub_one, sub_all, splice_all, List.length_set, List.length_append, List.length_cons, List.length_nil]
        (repeat ((with_reducible refine And.intro ?_ ?_); (first | omega | exact True.intro | with_reducible rfl | decide | assumption | rfl)))
        try simp only [thenQ, bq, lq, lf, iq, gq, Nat.reduceEqDiff, if_true, if_false]
        refine hY1 _ ?_
        try clear hY1 Y1
        refine AWp.regE p_delta_Make_4 [] s_delta_Make_4 rfl rfl (st_of ?_)
        simp only [s_delta_Make_4, wT, Bool.not_eq_true, ty, zr, Nat.reduceAdd, Nat.reduceSub, Nat.reduceMul, Nat.reduceMod, Nat.reduceDiv, Nat.reduceEqDiff, Nat.reduceLeDiff, Nat.reduceBEq, Int.reduceAdd, Int.reduceSub, Int.reduceMul, Int.reduceNeg, Int.reduceLT, Int.reduceLE, Int.reduceEq, Int.reduceNe, Int.reduceBEq, Int.reduceToNat, Int.reduceTDiv, Int.reduceTMod, Int.reduceOfNat, reduceCtorEq, sty, sui]
        try simp (disch := first | omega | (simp only [List.length_set, List.length_append, List.length_cons, List.length_nil]; done) | (simp only [List.length_set, List.length_append, List.length_cons, List.length_nil]; omega)) only [wrap_i64', wrap_u64', wrap_u32', wrap_u8', Int.tmod_eq_emod_of_nonneg, Int.tdiv_eq_ediv_of_nonneg, sub_one, sub_all, splice_all, List.length_set, List.length_append, List.length_cons, List.length_nil]
        (repeat ((with_reducible refine And.intro ?_ ?_); (first | omega | exact True.intro | with_reducible rfl | decide | assumption | rfl)))
        try simp only [thenQ, bq, lq, lf, iq, gq, Nat.reduceEqDiff, if_true, if_false]
        refine ⟨(j + 1, c ++ [(i : Int), (j : Int) - i] ++ sub w i (j - i)), ?_, ?_, ?_⟩
        · (try dsimp only); omega
        · exact ⟨by dsimp only; omega, by dsimp only; rw [show 32 - (j + 1) = 31 - j by omega, ← hc, e1, e2, e3, show ((j - i : Nat) : Int) = j - i by omega]; simp⟩
        · try dsimp only
          rw [show (c ++ [(i : Int), (j : Int) - i] ++ sub w i (j - i)).length = c.length + 2 + (j - i) by simp only [List.length_append, List.length_cons, List.length_nil]; rw [Sy.length_sub (by omega)]]
          exact Le.sel [0, 1, 5] (by decide) (by simp) rfl (by simp only [selTm, tget, AV.map, AV.mapL, renS, AV.All, AV.AllL, inS, Nat.reduceEqDiff, if_true, if_false]; repeat' (first | exact trivial | rfl | assumption | apply And.intro | simp [mapL_flat, mapL_flat1, allL_flat, allL_flat1])) (by simp only [selRows, selRow, Row.map, Row.All, AV.AllL, AV.All, inS]; repeat' (first | exact trivial | rfl | assumption | apply And.intro | simp [mapL_flat, mapL_flat1, allL_flat, allL_flat1]))
  · try simp only [decide_eq_true_eq, decide_eq_false_iff_not, beq_iff_eq, bne_iff_ne, ne_eq, Bool.not_eq_true, beq_eq_false_iff_ne, bne_eq_false_iff_eq, Bool.not_eq_false, Bool.not_eq_eq_eq_not, Bool.not_true, Bool.not_false] at hb
    try simp only [thenQ, bq, lq, lf, iq, gq, Nat.reduceEqDiff, if_true, if_false]
    refine hX0 _ ?_
    try clear hX0 X0
    have hcr : c = rawL o w := by rw [show 32 - i = 0 by omega, restT_zero, List.append_nil] at hc; exact hc
    try simp only [thenQ, bq, lq, lf, iq, gq, Nat.reduceEqDiff, if_true, if_false]
    refine hG8 _ ?_
    try clear hG8 G8
    refine AWp.grp fun G145 hG145 => ?_
    refine AWp.reg p_delta_Make_10 [] s_delta_Make_10 rfl rfl fun K hK => st_of ?_
    simp only [s_delta_Make_10, wT, Bool.not_eq_true, ty, zr, Nat.reduceAdd, Nat.reduceSub, Nat.reduceMul, Nat.reduceMod, Nat.reduceDiv, Nat.reduceEqDiff, Nat.reduceLeDiff, Nat.reduceBEq, Int.reduceAdd, Int.reduceSub, Int.reduceMul, Int.reduceNeg, Int.reduceLT, Int.reduceLE, Int.reduceEq, Int.reduceNe, Int.reduceBEq, Int.reduceToNat, Int.reduceTDiv, Int.reduceTMod, Int.reduceOfNat, reduceCtorEq, sty, sui]
    try simp (disch := first | omega | (simp only [List.length_set, List.length_append, List.length_cons, List.length_nil]; done) | (simp only [List.length_set, List.length_append, List.length_cons, List.length_nil]; omega)) only [wrap_i64', wrap_u64', wrap_u32', wrap_u8', Int.tmod_eq_emod_of_nonneg, Int.tdiv_eq_ediv_of_nonneg, sub_one, sub_all, splice_all, List.length_set, List.length_append, List.length_cons, List.length_nil]
    (repeat ((with_reducible refine And.intro ?_ ?_); (first | omega | exact True.intro | with_reducible rfl | decide | assumption | rfl)))
    refine hK _ ?_; clear hK K
    refine AWp.iteE rfl (fun hb => ?_) (fun hb => ?_)
    · try simp only [decide_eq_true_eq, decide_eq_false_iff_not, beq_iff_eq, bne_iff_ne, ne_eq, Bool.not_eq_true, beq_eq_false_iff_ne, bne_eq_false_iff_eq, Bool.not_eq_false, Bool.not_eq_eq_eq_not, Bool.not_true, Bool.not_false] at hb
      obtain ⟨e1, e2⟩ := make_none (o := o) (w := w) (by rw [← hcr]; omega)
      refine AWp.reg p_delta_Make_11 [] s_delta_Make_11 rfl rfl fun K hK => st_of ?_
      simp only [s_delta_Make_11, wT, Bool.not_eq_true, ty, zr, Nat.reduceAdd, Nat.reduceSub, Nat.reduceMul, Nat.reduceMod, Nat.reduceDiv, Nat.reduceEqDiff, Nat.reduceLeDiff, Nat.reduceBEq, Int.reduceAdd, Int.reduceSub, Int.reduceMul, Int.reduceNeg, Int.reduceLT, Int.reduceLE, Int.reduceEq, Int.reduceNe, Int.reduceBEq, Int.reduceToNat, Int.reduceTDiv, Int.reduceTMod, Int.reduceOfNat, reduceCtorEq, sty, sui]
      try simp (disch := first | omega | (simp only [List.length_set, List.length_append, List.length_cons, List.length_nil]; done) | (simp only [List.length_set, List.length_append, List.length_cons, List.length_nil]; omega)) only [wrap_i64', wrap_u64', wrap_u32', wrap_u8', Int.tmod_eq_emod_of_nonneg, Int.tdiv_eq_ediv_of_nonneg, sub_one, sub_all, splice_all, List.length_set, List.length_append, List.length_cons, List.length_nil]
      (repeat ((with_reducible refine And.intro ?_ ?_); (first | omega | exact True.intro | with_reducible rfl | decide | assumption | rfl)))
      refine hK _ ?_; clear hK K
      refine AWp.less (Le.nil 4 rfl .u8 1) ?_
      simp only [List.cons_append, List.nil_append, List.length_cons, List.length_nil, Nat.reduceAdd, Nat.zero_add]
      refine AWp.ret ?_
      try simp only [thenQ, bq, lq, lf, iq, gq, Nat.reduceEqDiff, if_true, if_false]
      simp only [endQ, rs_delta_Make, resC, one, wT, Bool.not_eq_true, ty, zr, Nat.reduceAdd, Nat.reduceSub, Nat.reduceMul, Nat.reduceMod, Nat.reduceDiv, Nat.reduceEqDiff, Nat.reduceLeDiff, Nat.reduceBEq, Int.reduceAdd, Int.reduceSub, Int.reduceMul, Int.reduceNeg, Int.reduceLT, Int.reduceLE, Int.reduceEq, Int.reduceNe, Int.reduceBEq, Int.reduceToNat, Int.reduceTDiv, Int.reduceTMod, Int.reduceOfNat, reduceCtorEq, sty, sui]
      try simp (disch := first | omega | (simp only [List.length_set, List.length_append, List.length_cons, List.length_nil]; done) | (simp only [List.length_set, List.length_append, List.length_cons, List.length_nil]; omega)) only [wrap_i64', wrap_u64', wrap_u32', wrap_u8', Int.tmod_eq_emod_of_nonneg, Int.tdiv_eq_ediv_of_nonneg, sub_one, sub_all, splice_all, List.length_set, List.length_append, List.length_cons, List.length_nil]
      rw [e1, e2]
      first | exact ⟨[3], by decide, by simp, rfl, rfl, by simp [AV.All, AV.AllL, inS], ⟨⟨rfl, trivial⟩, trivial⟩⟩ | exact ⟨[2], by decide, by simp, rfl, rfl, by simp [AV.All, AV.AllL, inS], ⟨⟨rfl, trivial⟩, trivial⟩⟩
    · try simp only [decide_eq_true_eq, decide_eq_false_iff_not, beq_iff_eq, bne_iff_ne, ne_eq, Bool.not_eq_true, beq_eq_false_iff_ne, bne_eq_false_iff_eq, Bool.not_eq_false, Bool.not_eq_eq_eq_not, Bool.not_true, Bool.not_false] at hb
      obtain ⟨e1, e2⟩ := make_shape hcr (by rw [← hcr]; omega)
      refine AWp.skip ?_
      try simp only [thenQ, bq, lq, lf, iq, gq, Nat.reduceEqDiff, if_true, if_false]
      refine hG145 _ ?_
      try clear hG145 G145
      refine AWp.reg p_delta_Make_12 [] s_delta_Make_12 rfl rfl fun K hK => st_of ?_
      simp only [s_delta_Make_12, wT, Bool.not_eq_true, ty, zr, Nat.reduceAdd, Nat.reduceSub, Nat.reduceMul, Nat.reduceMod, Nat.reduceDiv, Nat.reduceEqDiff, Nat.reduceLeDiff, Nat.reduceBEq, Int.reduceAdd, Int.reduceSub, Int.reduceMul, Int.reduceNeg, Int.reduceLT, Int.reduceLE, Int.reduceEq, Int.reduceNe, Int.reduceBEq, Int.reduceToNat, Int.reduceTDiv, Int.reduceTMod, Int.reduceOfNat, reduceCtorEq, sty, sui]
      try simp (disch := first | omega | (simp only [List.length_set, List.length_append, List.length_cons, List.length_nil]; done) | (simp only [List.length_set, List.length_append, List.length_cons, List.length_nil]; omega)) only [wrap_i64', wrap_u64', wrap_u32', wrap_u8', Int.tmod_eq_emod_of_nonneg, Int.tdiv_eq_ediv_of_nonneg, sub_one, sub_all, splice_all, List.length_set, List.length_append, List.length_cons, List.length_nil]
      (repeat ((with_reducible refine And.intro ?_ ?_); (first | omega | exact True.intro | with_reducible rfl | decide | assumption | rfl)))
      refine hK _ ?_; clear hK K
      refine AWp.ret ?_
      try simp only [thenQ, bq, lq, lf, iq, gq, Nat.reduceEqDiff, if_true, if_false]
      simp only [endQ, rs_delta_Make, resC, one, wT, Bool.not_eq_true, ty, zr, Nat.reduceAdd, Nat.reduceSub, Nat.reduceMul, Nat.reduceMod, Nat.reduceDiv, Nat.reduceEqDiff, Nat.reduceLeDiff, Nat.reduceBEq, Int.reduceAdd, Int.reduceSub, Int.reduceMul, Int.reduceNeg, Int.reduceLT, Int.reduceLE, Int.reduceEq, Int.reduceNe, Int.reduceBEq, Int.reduceToNat, Int.reduceTDiv, Int.reduceTMod, Int.reduceOfNat, reduceCtorEq, sty, sui]
      try simp (disch := first | omega | (simp only [List.length_set, List.length_append, List.length_cons, List.length_nil]; done) | (simp only [List.length_set, List.length_append, List.length_cons, List.length_nil]; omega)) only [wrap_i64', wrap_u64', wrap_u32', wrap_u8', Int.tmod_eq_emod_of_nonneg, Int.tdiv_eq_ediv_of_nonneg, sub_one, sub_all, splice_all, List.length_set, List.length_append, List.length_cons, List.length_nil]
      rw [e1, e2]
      first | exact ⟨[3], by decide, by simp, rfl, rfl, by simp [AV.All, AV.AllL, inS], ⟨⟨rfl, trivial⟩, trivial⟩⟩ | exact ⟨[2], by decide, by simp, rfl, rfl, by simp [AV.All, AV.AllL, inS], ⟨⟨rfl, trivial⟩, trivial⟩⟩

/-- Was the place ahead unlike? -/
def pv (o w : List Int) : Nat → Bool
  | 0 => false
  | i + 1 => dif o w i
end Go.Proofs.Ytdefgbfcafdbpaa
