/- Contracts: proofs. -/
import Derived.Test.YtdcbgmbpiekbgaaMer5
import Derived.Test.YtdcbgmbpiekbgaaMerP
namespace Go.Proofs.Ytdcbgmbpiekbgaa
open Go Go.Proofs.Ytdcbgmbpiekbgaa.Sy
set_option linter.unusedSimpArgs false
set_option linter.unusedVariables false
set_option maxRecDepth 100000
set_option maxHeartbeats 1000000


theorem Reverse_ok {α : Type} (E : α → Option (Row α)) (D : List (List Int)) (hD : A16 D) (d : Nat) (hd : D.length = d) (hl : d ≤ 1099511627) :
    FnOk Try.prog n_slices_Reverse_api_Sum_api_Sum E [.slice true (.own 0) 0 d 16] [some (.ints .u8 D.flatten)] (.tuple []) [some (.ints .u8 D.reverse.flatten)] := by
  refine FnOk.intro func_slices_Reverse_api_Sum_api_Sum call_slices_Reverse_api_Sum_api_Sum (body := _) rfl nt_slices_Reverse_api_Sum_api_Sum (by simp) ?_
  refine AWp.reg p_slices_Reverse_api_Sum_api_Sum_0 [] s_slices_Reverse_api_Sum_api_Sum_0 rfl rfl fun K hK => st_of ?_
  simp only [s_slices_Reverse_api_Sum_api_Sum_0, wT, Bool.not_eq_true, ty, zr, Nat.reduceAdd, Nat.reduceSub, Nat.reduceMul, Nat.reduceMod, Nat.reduceDiv, Nat.reduceEqDiff, Nat.reduceLeDiff, Nat.reduceBEq, Int.reduceAdd, Int.reduceSub, Int.reduceMul, Int.reduceNeg, Int.reduceLT, Int.reduceLE, Int.reduceEq, Int.reduceNe, Int.reduceBEq, Int.reduceToNat, Int.reduceTDiv, Int.reduceTMod, Int.reduceOfNat, reduceCtorEq, sty, sui]
  try simp (disch := first | omega | (simp only [List.length_set, List.length_replicate, List.length_append, List.length_nil]; first | done | omega)) only [aT, Int.reduceToNat, List.length_set, List.length_replicate, List.length_append, List.length_nil]
  refine hK _ ?_; clear hK K
  refine AWp.lopX (fun i => ⟨[(0, .slice true (.own 0) 0 d 16), (2, .int .i64 i), (3, .int .i64 ((d : Int) - 1 - (i : Int)))], [some (.ints .u8 (revT D i).flatten)]⟩) (d / 2) ?_ fun X0 hX0 i hn0 => ?_
  · simp only [revT_zero]
    exact Le.ofA
  have hw := flat_len (revT_A hD i)
  rw [revT_len, hd] at hw
  refine AWp.grp fun G9 hG9 => ?_
  refine AWp.reg p_slices_Reverse_api_Sum_api_Sum_1 [] s_slices_Reverse_api_Sum_api_Sum_1 rfl rfl fun K hK => st_of ?_
  simp only [s_slices_Reverse_api_Sum_api_Sum_1, wT, Bool.not_eq_true, ty, zr, Nat.reduceAdd, Nat.reduceSub, Nat.reduceMul, Nat.reduceMod, Nat.reduceDiv, Nat.reduceEqDiff, Nat.reduceLeDiff, Nat.reduceBEq, Int.reduceAdd, Int.reduceSub, Int.reduceMul, Int.reduceNeg, Int.reduceLT, Int.reduceLE, Int.reduceEq, Int.reduceNe, Int.reduceBEq, Int.reduceToNat, Int.reduceTDiv, Int.reduceTMod, Int.reduceOfNat, reduceCtorEq, sty, sui]
  refine hK _ ?_; clear hK K
  refine AWp.testE rfl (fun hb => ?_) (fun hb => ?_)
  · try simp only [decide_eq_true_eq, decide_eq_false_iff_not, beq_iff_eq, bne_iff_ne, ne_eq, Bool.not_eq_true, beq_eq_false_iff_ne, bne_eq_false_iff_eq, Bool.not_eq_false, Bool.not_eq_eq_eq_not, Bool.not_true, Bool.not_false] at hb
    have g1 := flat_get (revT_A hD i) (d - 1 - i) (by rw [revT_len]; omega)
    have g2 := flat_get (revT_A hD i) i (by rw [revT_len]; omega)
    have a1 := (revT_A hD i).get (p := d - 1 - i) (by rw [revT_len]; omega)
    have a2 := (revT_A hD i).get (p := i) (by rw [revT_len]; omega)
    have s1 := flat_set (revT_A hD i) i _ a1 (by rw [revT_len]; omega)
    have A2 := (revT_A hD i).set i a1
    have s2 := flat_set A2 (d - 1 - i) _ a2 (by rw [List.length_set, revT_len]; omega)
    have st := revT_step D (i := i) (by omega)
    rw [hd] at st
    rw [st] at s2
    have w2 := flat_len A2
    rw [List.length_set, revT_len, hd] at w2
    try simp only [thenQ, bq, lq, lf, iq, gq, Nat.reduceEqDiff, if_true, if_false]
    refine hG9 _ ?_
    try clear hG9 G9
    refine AWp.blk fun Y1 hY1 => ?_
    refine AWp.drwPE mix p_slices_Reverse_api_Sum_api_Sum_3 q_slices_Reverse_api_Sum_api_Sum_3 g_slices_Reverse_api_Sum_api_Sum_3 s_slices_Reverse_api_Sum_api_Sum_3 rfl (by decide +kernel) (sp_of ?_)
    simp only [s_slices_Reverse_api_Sum_api_Sum_3, wT, Bool.not_eq_true, ty, zr, Nat.reduceAdd, Nat.reduceSub, Nat.reduceMul, Nat.reduceMod, Nat.reduceDiv, Nat.reduceEqDiff, Nat.reduceLeDiff, Nat.reduceBEq, Int.reduceAdd, Int.reduceSub, Int.reduceMul, Int.reduceNeg, Int.reduceLT, Int.reduceLE, Int.reduceEq, Int.reduceNe, Int.reduceBEq, Int.reduceToNat, Int.reduceTDiv, Int.reduceTMod, Int.reduceOfNat, reduceCtorEq, sty, sui]
    try simp (disch := first | omega | (simp only [List.length_set, List.length_replicate, List.length_append, List.length_nil]; first | done | omega)) only [aT, Int.reduceToNat, List.length_set, List.length_replicate, List.length_append, List.length_nil]
    simp only [g1, g2, a1, a2, s1, s2, hw, w2]
    (repeat ((with_reducible refine And.intro ?_ ?_); (first | omega | exact True.intro | with_reducible rfl | decide | assumption | rfl)))
    try simp only [thenQ, bq, lq, lf, iq, gq, Nat.reduceEqDiff, if_true, if_false]
    refine hY1 _ ?_
    try clear hY1 Y1
    refine AWp.regE p_slices_Reverse_api_Sum_api_Sum_2 [] s_slices_Reverse_api_Sum_api_Sum_2 rfl rfl (st_of ?_)
    simp only [s_slices_Reverse_api_Sum_api_Sum_2, wT, Bool.not_eq_true, ty, zr, Nat.reduceAdd, Nat.reduceSub, Nat.reduceMul, Nat.reduceMod, Nat.reduceDiv, Nat.reduceEqDiff, Nat.reduceLeDiff, Nat.reduceBEq, Int.reduceAdd, Int.reduceSub, Int.reduceMul, Int.reduceNeg, Int.reduceLT, Int.reduceLE, Int.reduceEq, Int.reduceNe, Int.reduceBEq, Int.reduceToNat, Int.reduceTDiv, Int.reduceTMod, Int.reduceOfNat, reduceCtorEq, sty, sui]
    try simp (disch := first | omega | (simp only [List.length_set, List.length_replicate, List.length_append, List.length_nil]; first | done | omega)) only [aT, Int.reduceToNat, List.length_set, List.length_replicate, List.length_append, List.length_nil]
    try simp only [thenQ, bq, lq, lf, iq, gq, Nat.reduceEqDiff, if_true, if_false]
    rw [show (d : Int) - 1 - (i : Int) - 1 = (d : Int) - 1 - ((i + 1 : Nat) : Int) by omega]
    first | exact ⟨by omega, Le.ofA⟩ | exact Le.ofA
  · try simp only [decide_eq_true_eq, decide_eq_false_iff_not, beq_iff_eq, bne_iff_ne, ne_eq, Bool.not_eq_true, beq_eq_false_iff_ne, bne_eq_false_iff_eq, Bool.not_eq_false, Bool.not_eq_eq_eq_not, Bool.not_true, Bool.not_false] at hb
    try simp only [thenQ, bq, lq, lf, iq, gq, Nat.reduceEqDiff, if_true, if_false]
    refine hX0 _ ?_
    try clear hX0 X0
    rw [revT_end D (by omega)]
    try simp only [thenQ, bq, lq, lf, iq, gq, Nat.reduceEqDiff, if_true, if_false]
    simp only [endQ, rs_slices_Reverse_api_Sum_api_Sum, resC, one, wT, Bool.not_eq_true, ty, zr, Nat.reduceAdd, Nat.reduceSub, Nat.reduceMul, Nat.reduceMod, Nat.reduceDiv, Nat.reduceEqDiff, Nat.reduceLeDiff, Nat.reduceBEq, Int.reduceAdd, Int.reduceSub, Int.reduceMul, Int.reduceNeg, Int.reduceLT, Int.reduceLE, Int.reduceEq, Int.reduceNe, Int.reduceBEq, Int.reduceToNat, Int.reduceTDiv, Int.reduceTMod, Int.reduceOfNat, reduceCtorEq, sty, sui]
    refine ⟨[0], by decide, by simp, by rfl, ?_⟩; (repeat' (first | exact trivial | rfl | omega | apply And.intro | (simp [AV.All, AV.AllL, inS, AV.map, AV.mapL, renS, selRows, selRow, Row.map, Row.All, mapL_flat, mapL_flat1, allL_flat, allL_flat1]; done)))
theorem Proof_ok {α : Type} (E : α → Option (Row α)) (t y : α) (l : List Int) (n i : Nat) (ht : E t = some (.mixed [.ptr y 0])) (hT : TreeE E l y 0 n) (hi : i < n) (hn : n ≤ 65536) :
    FnOk Try.prog n_merkle_Tree_Proof E [.ptr (.ext t) 0, .int .i64 i] [] (.tuple [.slice true (.own 0) 0 (proofF l 0 n i).length 16, .bool true]) [some (.ints .u8 (proofF l 0 n i).flatten)] := by
  have d1 : decide ((i : Int) ≥ n) = false := decide_eq_false (by omega)
  refine FnOk.intro func_merkle_Tree_Proof call_merkle_Tree_Proof (body := _) rfl nt_merkle_Tree_Proof (by simp) ?_
  refine AWp.reg p_merkle_Tree_Proof_0 [] s_merkle_Tree_Proof_0 rfl rfl fun K hK => st_of ?_
  simp only [s_merkle_Tree_Proof_0, wT, Bool.not_eq_true, ty, zr, Nat.reduceAdd, Nat.reduceSub, Nat.reduceMul, Nat.reduceMod, Nat.reduceDiv, Nat.reduceEqDiff, Nat.reduceLeDiff, Nat.reduceBEq, Int.reduceAdd, Int.reduceSub, Int.reduceMul, Int.reduceNeg, Int.reduceLT, Int.reduceLE, Int.reduceEq, Int.reduceNe, Int.reduceBEq, Int.reduceToNat, Int.reduceTDiv, Int.reduceTMod, Int.reduceOfNat, reduceCtorEq, sty, sui]
  refine hK _ ?_; clear hK K
  refine AWp.grp fun G4 hG4 => ?_
  refine AWp.reg p_merkle_Tree_Proof_1 [] s_merkle_Tree_Proof_1 rfl rfl fun K hK => st_of ?_
  simp only [s_merkle_Tree_Proof_1, wT, Bool.not_eq_true, ty, zr, Nat.reduceAdd, Nat.reduceSub, Nat.reduceMul, Nat.reduceMod, Nat.reduceDiv, Nat.reduceEqDiff, Nat.reduceLeDiff, Nat.reduceBEq, Int.reduceAdd, Int.reduceSub, Int.reduceMul, Int.reduceNeg, Int.reduceLT, Int.reduceLE, Int.reduceEq, Int.reduceNe, Int.reduceBEq, Int.reduceToNat, Int.reduceTDiv, Int.reduceTMod, Int.reduceOfNat, reduceCtorEq, sty, sui]
  refine ⟨fun h1 => by (try simp only [decide_eq_true_eq, decide_eq_false_iff_not, beq_iff_eq, bne_iff_ne, ne_eq, Bool.not_eq_true, beq_eq_false_iff_ne, bne_eq_false_iff_eq, Bool.not_eq_false, Bool.not_eq_eq_eq_not, Bool.not_true, Bool.not_false] at h1); exfalso; omega, fun h1 => ?_⟩
  refine st_call fun K1 hK1 => ?_
  simp only [calleeC, wT, Bool.not_eq_true, ty, zr, Nat.reduceAdd, Nat.reduceSub, Nat.reduceMul, Nat.reduceMod, Nat.reduceDiv, Nat.reduceEqDiff, Nat.reduceLeDiff, Nat.reduceBEq, Int.reduceAdd, Int.reduceSub, Int.reduceMul, Int.reduceNeg, Int.reduceLT, Int.reduceLE, Int.reduceEq, Int.reduceNe, Int.reduceBEq, Int.reduceToNat, Int.reduceTDiv, Int.reduceTMod, Int.reduceOfNat, reduceCtorEq, sty, sui]
  refine hK1 _ _ ?_
  clear hK1 K1
  simp only [CallTo, AV.mapL, AV.map, mapL_flat, mapL_flat1]
  refine ⟨_, _, Len_top _ _ (.ext y) l n (by simp only [Sy.look, ht, Option.map_some, Row.map, AV.map, AV.mapL]) hT.look, ?_⟩
  simp only [wT, Bool.not_eq_true, ty, zr, Nat.reduceAdd, Nat.reduceSub, Nat.reduceMul, Nat.reduceMod, Nat.reduceDiv, Nat.reduceEqDiff, Nat.reduceLeDiff, Nat.reduceBEq, Int.reduceAdd, Int.reduceSub, Int.reduceMul, Int.reduceNeg, Int.reduceLT, Int.reduceLE, Int.reduceEq, Int.reduceNe, Int.reduceBEq, Int.reduceToNat, Int.reduceTDiv, Int.reduceTMod, Int.reduceOfNat, reduceCtorEq, sty, sui]
  simp only [d1]
  refine hK _ ?_; clear hK K
  refine AWp.iteE rfl (fun hb => ?_) (fun hb => ?_)
  · try simp only [decide_eq_true_eq, decide_eq_false_iff_not, beq_iff_eq, bne_iff_ne, ne_eq, Bool.not_eq_true, beq_eq_false_iff_ne, bne_eq_false_iff_eq, Bool.not_eq_false, Bool.not_eq_eq_eq_not, Bool.not_true, Bool.not_false] at hb
    (first | exact absurd trivial hb | exact absurd rfl hb | cases hb | (exfalso; omega) | (simp at hb; done))
  · try simp only [decide_eq_true_eq, decide_eq_false_iff_not, beq_iff_eq, bne_iff_ne, ne_eq, Bool.not_eq_true, beq_eq_false_iff_ne, bne_eq_false_iff_eq, Bool.not_eq_false, Bool.not_eq_eq_eq_not, Bool.not_true, Bool.not_false] at hb
    refine AWp.skip ?_
    try simp only [thenQ, bq, lq, lf, iq, gq, Nat.reduceEqDiff, if_true, if_false]
    refine hG4 _ ?_
    try clear hG4 G4
    refine AWp.reg p_merkle_Tree_Proof_3 [] s_merkle_Tree_Proof_3 rfl rfl fun K hK => st_of ?_
    simp only [s_merkle_Tree_Proof_3, wT, Bool.not_eq_true, ty, zr, Nat.reduceAdd, Nat.reduceSub, Nat.reduceMul, Nat.reduceMod, Nat.reduceDiv, Nat.reduceEqDiff, Nat.reduceLeDiff, Nat.reduceBEq, Int.reduceAdd, Int.reduceSub, Int.reduceMul, Int.reduceNeg, Int.reduceLT, Int.reduceLE, Int.reduceEq, Int.reduceNe, Int.reduceBEq, Int.reduceToNat, Int.reduceTDiv, Int.reduceTMod, Int.reduceOfNat, reduceCtorEq, sty, sui]
    refine hK _ ?_; clear hK K
    refine AWp.grp fun G30 hG30 => ?_
    refine AWp.reg p_merkle_Tree_Proof_4 [] s_merkle_Tree_Proof_4 rfl rfl fun K hK => st_of ?_
    simp only [s_merkle_Tree_Proof_4, wT, Bool.not_eq_true, ty, zr, Nat.reduceAdd, Nat.reduceSub, Nat.reduceMul, Nat.reduceMod, Nat.reduceDiv, Nat.reduceEqDiff, Nat.reduceLeDiff, Nat.reduceBEq, Int.reduceAdd, Int.reduceSub, Int.reduceMul, Int.reduceNeg, Int.reduceLT, Int.reduceLE, Int.reduceEq, Int.reduceNe, Int.reduceBEq, Int.reduceToNat, Int.reduceTDiv, Int.reduceTMod, Int.reduceOfNat, reduceCtorEq, sty, sui]
    refine st_call fun K1 hK1 => ?_
    simp only [calleeC, wT, Bool.not_eq_true, ty, zr, Nat.reduceAdd, Nat.reduceSub, Nat.reduceMul, Nat.reduceMod, Nat.reduceDiv, Nat.reduceEqDiff, Nat.reduceLeDiff, Nat.reduceBEq, Int.reduceAdd, Int.reduceSub, Int.reduceMul, Int.reduceNeg, Int.reduceLT, Int.reduceLE, Int.reduceEq, Int.reduceNe, Int.reduceBEq, Int.reduceToNat, Int.reduceTDiv, Int.reduceTMod, Int.reduceOfNat, reduceCtorEq, sty, sui]
    refine hK1 _ _ ?_
    clear hK1 K1
    simp only [CallTo, AV.mapL, AV.map, mapL_flat, mapL_flat1]
    refine ⟨_, _, root_top _ _ (.ext y) (by simp only [Sy.look, ht, Option.map_some, Row.map, AV.map, AV.mapL]), ?_⟩
    simp only [wT, Bool.not_eq_true, ty, zr, Nat.reduceAdd, Nat.reduceSub, Nat.reduceMul, Nat.reduceMod, Nat.reduceDiv, Nat.reduceEqDiff, Nat.reduceLeDiff, Nat.reduceBEq, Int.reduceAdd, Int.reduceSub, Int.reduceMul, Int.reduceNeg, Int.reduceLT, Int.reduceLE, Int.reduceEq, Int.reduceNe, Int.reduceBEq, Int.reduceToNat, Int.reduceTDiv, Int.reduceTMod, Int.reduceOfNat, reduceCtorEq, sty, sui]
    refine hK _ ?_; clear hK K
    refine AWp.less (Le.nil 6 rfl .u8 16) ?_
    refine AWp.ghoX (β := α × Nat × Nat × Nat × List (List Int)) (fun gx : α × Nat × Nat × Nat × List (List Int) => match gx with | ⟨z, o, m, j, D⟩ => ⟨[(1, .int .i64 j), (6, .slice true (.own 0) 0 D.length 16), (7, .ptr (.ext z) 0)], [some (.ints .u8 D.flatten)]⟩) (fun gx : α × Nat × Nat × Nat × List (List Int) => match gx with | ⟨z, o, m, j, D⟩ => m) (fun gx : α × Nat × Nat × Nat × List (List Int) => match gx with | ⟨z, o, m, j, D⟩ => TreeE E l z o m ∧ j < m ∧ A16 D ∧ D.length + m ≤ n ∧ proofF l 0 n i = proofF l o m j ++ D.reverse) (y, 0, n, i, []) ?_ ?_ fun X0 hX0 y0 hF0 => ?_
    · show Le _ ⟨_, [some (.ints .u8 [])]⟩ _
      exact Le.ofA
    · exact ⟨hT, hi, .nil, by simp, by simp⟩
    obtain ⟨z, o, m, j, D⟩ := y0
    dsimp only at hF0 ⊢
    obtain ⟨hz, hj, hD, hDm, hP⟩ := hF0
    obtain ⟨p, q, hzt⟩ := hz.top
    have hr := rootO_len l o m
    have hfl := flat_len hD
    refine AWp.grp fun G54 hG54 => ?_
    refine AWp.reg p_merkle_Tree_Proof_5 [] s_merkle_Tree_Proof_5 rfl rfl fun K hK => st_of ?_
    simp only [s_merkle_Tree_Proof_5, wT, Bool.not_eq_true, ty, zr, Nat.reduceAdd, Nat.reduceSub, Nat.reduceMul, Nat.reduceMod, Nat.reduceDiv, Nat.reduceEqDiff, Nat.reduceLeDiff, Nat.reduceBEq, Int.reduceAdd, Int.reduceSub, Int.reduceMul, Int.reduceNeg, Int.reduceLT, Int.reduceLE, Int.reduceEq, Int.reduceNe, Int.reduceBEq, Int.reduceToNat, Int.reduceTDiv, Int.reduceTMod, Int.reduceOfNat, reduceCtorEq, sty, sui]
    simp only [hzt, Option.map_some, Row.map, nodeC_map, nodeC_n (ι := Sy.Id α) _ hr, nodeC_len (ι := Sy.Id α) _ hr, wT, Bool.not_eq_true, ty, zr, Nat.reduceAdd, Nat.reduceSub, Nat.reduceMul, Nat.reduceMod, Nat.reduceDiv, Nat.reduceEqDiff, Nat.reduceLeDiff, Nat.reduceBEq, Int.reduceAdd, Int.reduceSub, Int.reduceMul, Int.reduceNeg, Int.reduceLT, Int.reduceLE, Int.reduceEq, Int.reduceNe, Int.reduceBEq, Int.reduceToNat, Int.reduceTDiv, Int.reduceTMod, Int.reduceOfNat, reduceCtorEq, sty, sui]
    (repeat ((with_reducible refine And.intro ?_ ?_); (first | omega | exact True.intro | with_reducible rfl | decide | assumption | rfl)))
    refine hK _ ?_; clear hK K
    refine AWp.testE rfl (fun hb => ?_) (fun hb => ?_)
    · try simp only [decide_eq_true_eq, decide_eq_false_iff_not, beq_iff_eq, bne_iff_ne, ne_eq, Bool.not_eq_true, beq_eq_false_iff_ne, bne_eq_false_iff_eq, Bool.not_eq_false, Bool.not_eq_eq_eq_not, Bool.not_true, Bool.not_false] at hb
      obtain ⟨y1, y2, hzk, hy1, hy2⟩ := hz.kids (by omega)
      obtain ⟨p1, q1, ht1⟩ := hy1.top
      obtain ⟨p2, q2, ht2⟩ := hy2.top
      obtain ⟨k, hk⟩ : ∃ k, (m + 1) / 2 = k := ⟨_, rfl⟩
      rw [hk] at hy1 hy2 ht1 ht2
      have hr1 := rootO_len l o k
      have hr2 := rootO_len l (o + k * 16) (m - k)
      have hs1 : sub (rootO l o k) 0 16 = rootO l o k := sub_all hr1
      have hs2 : sub (rootO l (o + k * 16) (m - k)) 0 16 = rootO l (o + k * 16) (m - k) := sub_all hr2
      have hs : sub D.flatten 0 (D.length * 16) = D.flatten := sub_all hfl
      try simp only [thenQ, bq, lq, lf, iq, gq, Nat.reduceEqDiff, if_true, if_false]
      refine hG54 _ ?_
      try clear hG54 G54
      refine AWp.blkX fun Y1 hY1 => ?_
      refine AWp.reg p_merkle_Tree_Proof_6 [] s_merkle_Tree_Proof_6 rfl rfl fun K hK => st_of ?_
      simp only [s_merkle_Tree_Proof_6, wT, Bool.not_eq_true, ty, zr, Nat.reduceAdd, Nat.reduceSub, Nat.reduceMul, Nat.reduceMod, Nat.reduceDiv, Nat.reduceEqDiff, Nat.reduceLeDiff, Nat.reduceBEq, Int.reduceAdd, Int.reduceSub, Int.reduceMul, Int.reduceNeg, Int.reduceLT, Int.reduceLE, Int.reduceEq, Int.reduceNe, Int.reduceBEq, Int.reduceToNat, Int.reduceTDiv, Int.reduceTMod, Int.reduceOfNat, reduceCtorEq, sty, sui]
      simp only [hzk, ht1, Option.map_some, Row.map, nodeC_map, AV.map, nodeC_l (ι := Sy.Id α) _ hr, nodeC_n (ι := Sy.Id α) _ hr1, nodeC_len (ι := Sy.Id α) _ hr, nodeC_len (ι := Sy.Id α) _ hr1, wT, Bool.not_eq_true, ty, zr, Nat.reduceAdd, Nat.reduceSub, Nat.reduceMul, Nat.reduceMod, Nat.reduceDiv, Nat.reduceEqDiff, Nat.reduceLeDiff, Nat.reduceBEq, Int.reduceAdd, Int.reduceSub, Int.reduceMul, Int.reduceNeg, Int.reduceLT, Int.reduceLE, Int.reduceEq, Int.reduceNe, Int.reduceBEq, Int.reduceToNat, Int.reduceTDiv, Int.reduceTMod, Int.reduceOfNat, reduceCtorEq, sty, sui]
      (repeat ((with_reducible refine And.intro ?_ ?_); (first | omega | exact True.intro | with_reducible rfl | decide | assumption | rfl)))
      refine hK _ ?_; clear hK K
      refine AWp.iteE rfl (fun hb => ?_) (fun hb => ?_)
      · try simp only [decide_eq_true_eq, decide_eq_false_iff_not, beq_iff_eq, bne_iff_ne, ne_eq, Bool.not_eq_true, beq_eq_false_iff_ne, bne_eq_false_iff_eq, Bool.not_eq_false, Bool.not_eq_eq_eq_not, Bool.not_true, Bool.not_false] at hb
        refine AWp.reg p_merkle_Tree_Proof_7 [] s_merkle_Tree_Proof_7 rfl rfl fun K hK => st_of ?_
        simp only [s_merkle_Tree_Proof_7, wT, Bool.not_eq_true, ty, zr, Nat.reduceAdd, Nat.reduceSub, Nat.reduceMul, Nat.reduceMod, Nat.reduceDiv, Nat.reduceEqDiff, Nat.reduceLeDiff, Nat.reduceBEq, Int.reduceAdd, Int.reduceSub, Int.reduceMul, Int.reduceNeg, Int.reduceLT, Int.reduceLE, Int.reduceEq, Int.reduceNe, Int.reduceBEq, Int.reduceToNat, Int.reduceTDiv, Int.reduceTMod, Int.reduceOfNat, reduceCtorEq, sty, sui]
        try simp (disch := first | omega | (simp only [List.length_set, List.length_replicate, List.length_append, List.length_nil]; first | done | omega)) only [aT, Int.reduceToNat, List.length_set, List.length_replicate, List.length_append, List.length_nil]
        simp only [hzk, ht2, Option.map_some, Row.map, nodeC_map, AV.map, nodeC_r (ι := Sy.Id α) _ hr, nodeC_sum (ι := Sy.Id α) _ hr2, nodeC_len (ι := Sy.Id α) _ hr, nodeC_len (ι := Sy.Id α) _ hr2, wT, Bool.not_eq_true, ty, zr, Nat.reduceAdd, Nat.reduceSub, Nat.reduceMul, Nat.reduceMod, Nat.reduceDiv, Nat.reduceEqDiff, Nat.reduceLeDiff, Nat.reduceBEq, Int.reduceAdd, Int.reduceSub, Int.reduceMul, Int.reduceNeg, Int.reduceLT, Int.reduceLE, Int.reduceEq, Int.reduceNe, Int.reduceBEq, Int.reduceToNat, Int.reduceTDiv, Int.reduceTMod, Int.reduceOfNat, reduceCtorEq, sty, sui]
        simp only [bRow1 (ι := Sy.Id α) _ hr2]
        simp only [hs2, hr2, hfl]
        (repeat ((with_reducible refine And.intro ?_ ?_); (first | omega | exact True.intro | with_reducible rfl | decide | assumption | rfl)))
        refine hK _ ?_; clear hK K
        refine AWp.regE p_merkle_Tree_Proof_8 [] s_merkle_Tree_Proof_8 rfl rfl (st_of ?_)
        simp only [s_merkle_Tree_Proof_8, wT, Bool.not_eq_true, ty, zr, Nat.reduceAdd, Nat.reduceSub, Nat.reduceMul, Nat.reduceMod, Nat.reduceDiv, Nat.reduceEqDiff, Nat.reduceLeDiff, Nat.reduceBEq, Int.reduceAdd, Int.reduceSub, Int.reduceMul, Int.reduceNeg, Int.reduceLT, Int.reduceLE, Int.reduceEq, Int.reduceNe, Int.reduceBEq, Int.reduceToNat, Int.reduceTDiv, Int.reduceTMod, Int.reduceOfNat, reduceCtorEq, sty, sui]
        simp only [hzk, Option.map_some, Row.map, nodeC_map, AV.map, nodeC_l (ι := Sy.Id α) _ hr, nodeC_len (ι := Sy.Id α) _ hr, wT, Bool.not_eq_true, ty, zr, Nat.reduceAdd, Nat.reduceSub, Nat.reduceMul, Nat.reduceMod, Nat.reduceDiv, Nat.reduceEqDiff, Nat.reduceLeDiff, Nat.reduceBEq, Int.reduceAdd, Int.reduceSub, Int.reduceMul, Int.reduceNeg, Int.reduceLT, Int.reduceLE, Int.reduceEq, Int.reduceNe, Int.reduceBEq, Int.reduceToNat, Int.reduceTDiv, Int.reduceTMod, Int.reduceOfNat, reduceCtorEq, sty, sui]
        (repeat ((with_reducible refine And.intro ?_ ?_); (first | omega | exact True.intro | with_reducible rfl | decide | assumption | rfl)))
        try simp only [thenQ, bq, lq, lf, iq, gq, Nat.reduceEqDiff, if_true, if_false]
        refine hY1 _ ?_
        try clear hY1 Y1
        try simp only [thenQ, bq, lq, lf, iq, gq, Nat.reduceEqDiff, if_true, if_false]
        refine ⟨(y1, o, k, j, D ++ [rootO l (o + k * 16) (m - k)]), ?_, ?_, ?_⟩
        · (try dsimp only); omega
        · exact ⟨hy1, by dsimp only; omega, hD.snoc hr2, by dsimp only; rw [List.length_append, List.length_singleton]; omega, by dsimp only; rw [hP, proofF_l _ _ (by omega) (by omega), hk]; simp⟩
        · try dsimp only
          rw [show (D ++ [rootO l (o + k * 16) (m - k)]).flatten = D.flatten ++ rootO l (o + k * 16) (m - k) by simp, List.length_append, List.length_singleton]
          exact Le.sel [2] (by decide) (by simp) rfl (by simp only [selTm, tget, AV.map, AV.mapL, renS, AV.All, AV.AllL, inS, Nat.reduceEqDiff, if_true, if_false]; repeat' (first | exact trivial | rfl | assumption | apply And.intro | simp [mapL_flat, mapL_flat1, allL_flat, allL_flat1])) (by simp only [selRows, selRow, Row.map, Row.All, AV.AllL, AV.All, inS]; repeat' (first | exact trivial | rfl | assumption | apply And.intro | simp [mapL_flat, mapL_flat1, allL_flat, allL_flat1]))
      · try simp only [decide_eq_true_eq, decide_eq_false_iff_not, beq_iff_eq, bne_iff_ne, ne_eq, Bool.not_eq_true, beq_eq_false_iff_ne, bne_eq_false_iff_eq, Bool.not_eq_false, Bool.not_eq_eq_eq_not, Bool.not_true, Bool.not_false] at hb
        refine AWp.reg p_merkle_Tree_Proof_9 [] s_merkle_Tree_Proof_9 rfl rfl fun K hK => st_of ?_
        simp only [s_merkle_Tree_Proof_9, wT, Bool.not_eq_true, ty, zr, Nat.reduceAdd, Nat.reduceSub, Nat.reduceMul, Nat.reduceMod, Nat.reduceDiv, Nat.reduceEqDiff, Nat.reduceLeDiff, Nat.reduceBEq, Int.reduceAdd, Int.reduceSub, Int.reduceMul, Int.reduceNeg, Int.reduceLT, Int.reduceLE, Int.reduceEq, Int.reduceNe, Int.reduceBEq, Int.reduceToNat, Int.reduceTDiv, Int.reduceTMod, Int.reduceOfNat, reduceCtorEq, sty, sui]
        try simp (disch := first | omega | (simp only [List.length_set, List.length_replicate, List.length_append, List.length_nil]; first | done | omega)) only [aT, Int.reduceToNat, List.length_set, List.length_replicate, List.length_append, List.length_nil]
        simp only [hzk, ht1, Option.map_some, Row.map, nodeC_map, AV.map, nodeC_l (ι := Sy.Id α) _ hr, nodeC_sum (ι := Sy.Id α) _ hr1, nodeC_len (ι := Sy.Id α) _ hr, nodeC_len (ι := Sy.Id α) _ hr1, wT, Bool.not_eq_true, ty, zr, Nat.reduceAdd, Nat.reduceSub, Nat.reduceMul, Nat.reduceMod, Nat.reduceDiv, Nat.reduceEqDiff, Nat.reduceLeDiff, Nat.reduceBEq, Int.reduceAdd, Int.reduceSub, Int.reduceMul, Int.reduceNeg, Int.reduceLT, Int.reduceLE, Int.reduceEq, Int.reduceNe, Int.reduceBEq, Int.reduceToNat, Int.reduceTDiv, Int.reduceTMod, Int.reduceOfNat, reduceCtorEq, sty, sui]
        simp only [bRow1 (ι := Sy.Id α) _ hr1]
        simp only [hs1, hr1, hfl]
        (repeat ((with_reducible refine And.intro ?_ ?_); (first | omega | exact True.intro | with_reducible rfl | decide | assumption | rfl)))
        refine hK _ ?_; clear hK K
        refine AWp.reg p_merkle_Tree_Proof_10 [] s_merkle_Tree_Proof_10 rfl rfl fun K hK => st_of ?_
        simp only [s_merkle_Tree_Proof_10, wT, Bool.not_eq_true, ty, zr, Nat.reduceAdd, Nat.reduceSub, Nat.reduceMul, Nat.reduceMod, Nat.reduceDiv, Nat.reduceEqDiff, Nat.reduceLeDiff, Nat.reduceBEq, Int.reduceAdd, Int.reduceSub, Int.reduceMul, Int.reduceNeg, Int.reduceLT, Int.reduceLE, Int.reduceEq, Int.reduceNe, Int.reduceBEq, Int.reduceToNat, Int.reduceTDiv, Int.reduceTMod, Int.reduceOfNat, reduceCtorEq, sty, sui]
        simp only [hzk, ht1, Option.map_some, Row.map, nodeC_map, AV.map, nodeC_l (ι := Sy.Id α) _ hr, nodeC_n (ι := Sy.Id α) _ hr1, nodeC_len (ι := Sy.Id α) _ hr, nodeC_len (ι := Sy.Id α) _ hr1, wT, Bool.not_eq_true, ty, zr, Nat.reduceAdd, Nat.reduceSub, Nat.reduceMul, Nat.reduceMod, Nat.reduceDiv, Nat.reduceEqDiff, Nat.reduceLeDiff, Nat.reduceBEq, Int.reduceAdd, Int.reduceSub, Int.reduceMul, Int.reduceNeg, Int.reduceLT, Int.reduceLE, Int.reduceEq, Int.reduceNe, Int.reduceBEq, Int.reduceToNat, Int.reduceTDiv, Int.reduceTMod, Int.reduceOfNat, reduceCtorEq, sty, sui]
        try simp (disch := first | omega | (simp only [List.length_set, List.length_replicate, List.length_append, List.length_nil]; first | done | omega)) only [aT, Int.reduceToNat, List.length_set, List.length_replicate, List.length_append, List.length_nil]
        (repeat ((with_reducible refine And.intro ?_ ?_); (first | omega | exact True.intro | with_reducible rfl | decide | assumption | rfl)))
        refine hK _ ?_; clear hK K
        refine AWp.regE p_merkle_Tree_Proof_11 [] s_merkle_Tree_Proof_11 rfl rfl (st_of ?_)
        simp only [s_merkle_Tree_Proof_11, wT, Bool.not_eq_true, ty, zr, Nat.reduceAdd, Nat.reduceSub, Nat.reduceMul, Nat.reduceMod, Nat.reduceDiv, Nat.reduceEqDiff, Nat.reduceLeDiff, Nat.reduceBEq, Int.reduceAdd, Int.reduceSub, Int.reduceMul, Int.reduceNeg, Int.reduceLT, Int.reduceLE, Int.reduceEq, Int.reduceNe, Int.reduceBEq, Int.reduceToNat, Int.reduceTDiv, Int.reduceTMod, Int.reduceOfNat, reduceCtorEq, sty, sui]
        simp only [hzk, Option.map_some, Row.map, nodeC_map, AV.map, nodeC_r (ι := Sy.Id α) _ hr, nodeC_len (ι := Sy.Id α) _ hr, wT, Bool.not_eq_true, ty, zr, Nat.reduceAdd, Nat.reduceSub, Nat.reduceMul, Nat.reduceMod, Nat.reduceDiv, Nat.reduceEqDiff, Nat.reduceLeDiff, Nat.reduceBEq, Int.reduceAdd, Int.reduceSub, Int.reduceMul, Int.reduceNeg, Int.reduceLT, Int.reduceLE, Int.reduceEq, Int.reduceNe, Int.reduceBEq, Int.reduceToNat, Int.reduceTDiv, Int.reduceTMod, Int.reduceOfNat, reduceCtorEq, sty, sui]
        (repeat ((with_reducible refine And.intro ?_ ?_); (first | omega | exact True.intro | with_reducible rfl | decide | assumption | rfl)))
        try simp only [thenQ, bq, lq, lf, iq, gq, Nat.reduceEqDiff, if_true, if_false]
        refine hY1 _ ?_
        try clear hY1 Y1
        try simp only [thenQ, bq, lq, lf, iq, gq, Nat.reduceEqDiff, if_true, if_false]
        refine ⟨(y2, o + k * 16, m - k, j - k, D ++ [rootO l o k]), ?_, ?_, ?_⟩
        · (try dsimp only); omega
        · exact ⟨hy2, by dsimp only; omega, hD.snoc hr1, by dsimp only; rw [List.length_append, List.length_singleton]; omega, by dsimp only; rw [hP, proofF_r _ _ (by omega) (by omega), hk]; simp⟩
        · try dsimp only
          rw [show (D ++ [rootO l o k]).flatten = D.flatten ++ rootO l o k by simp, List.length_append, List.length_singleton, show ((j - k : Nat) : Int) = (j : Int) - (k : Int) by omega]
          exact Le.sel [2] (by decide) (by simp) rfl (by simp only [selTm, tget, AV.map, AV.mapL, renS, AV.All, AV.AllL, inS, Nat.reduceEqDiff, if_true, if_false]; repeat' (first | exact trivial | rfl | assumption | apply And.intro | simp [mapL_flat, mapL_flat1, allL_flat, allL_flat1])) (by simp only [selRows, selRow, Row.map, Row.All, AV.AllL, AV.All, inS]; repeat' (first | exact trivial | rfl | assumption | apply And.intro | simp [mapL_flat, mapL_flat1, allL_flat, allL_flat1]))
    · try simp only [decide_eq_true_eq, decide_eq_false_iff_not, beq_iff_eq, bne_iff_ne, ne_eq, Bool.not_eq_true, beq_eq_false_iff_ne, bne_eq_false_iff_eq, Bool.not_eq_false, Bool.not_eq_eq_eq_not, Bool.not_true, Bool.not_false] at hb
      try simp only [thenQ, bq, lq, lf, iq, gq, Nat.reduceEqDiff, if_true, if_false]
      refine hX0 _ ?_
      try clear hX0 X0
      obtain rfl : m = 1 := by omega
      rw [proofF_one, List.nil_append] at hP
      try simp only [thenQ, bq, lq, lf, iq, gq, Nat.reduceEqDiff, if_true, if_false]
      refine hG30 _ ?_
      try clear hG30 G30
      refine AWp.reg p_merkle_Tree_Proof_12 q_merkle_Tree_Proof_12 s_merkle_Tree_Proof_12 rfl rfl fun K hK => st_of ?_
      simp only [s_merkle_Tree_Proof_12, wT, Bool.not_eq_true, ty, zr, Nat.reduceAdd, Nat.reduceSub, Nat.reduceMul, Nat.reduceMod, Nat.reduceDiv, Nat.reduceEqDiff, Nat.reduceLeDiff, Nat.reduceBEq, Int.reduceAdd, Int.reduceSub, Int.reduceMul, Int.reduceNeg, Int.reduceLT, Int.reduceLE, Int.reduceEq, Int.reduceNe, Int.reduceBEq, Int.reduceToNat, Int.reduceTDiv, Int.reduceTMod, Int.reduceOfNat, reduceCtorEq, sty, sui]
      refine st_mcall fun K1 hK1 => ?_
      simp only [calleeC, wT, Bool.not_eq_true, ty, zr, Nat.reduceAdd, Nat.reduceSub, Nat.reduceMul, Nat.reduceMod, Nat.reduceDiv, Nat.reduceEqDiff, Nat.reduceLeDiff, Nat.reduceBEq, Int.reduceAdd, Int.reduceSub, Int.reduceMul, Int.reduceNeg, Int.reduceLT, Int.reduceLE, Int.reduceEq, Int.reduceNe, Int.reduceBEq, Int.reduceToNat, Int.reduceTDiv, Int.reduceTMod, Int.reduceOfNat, reduceCtorEq, sty, sui]
      refine hK1 _ _ ?_
      clear hK1 K1
      simp only [MutTo, AV.mapL, AV.map, mapL_flat, mapL_flat1]
      refine ⟨[0], [.slice true (.own 0) 0 D.length 16], [some (.ints .u8 D.flatten)], _, _, by decide, by simp only [mutRows, mutRow, upM, Row.map, AV.map, AV.mapL, Row.All, AV.All, AV.AllL, inS, mapL_flat, mapL_flat1, allL_flat, allL_flat1]; (repeat' (first | exact trivial | rfl | omega | apply And.intro | simp [mapL_flat, mapL_flat1, allL_flat, allL_flat1])), by simp only [upM, List.map_cons, List.map_nil, AV.map, AV.mapL, mapL_flat, mapL_flat1]; first | done | rfl, by simp only [AV.All, AV.AllL, inS, allL_flat, allL_flat1]; (repeat' (first | exact trivial | rfl | omega | apply And.intro | simp [mapL_flat, mapL_flat1, allL_flat, allL_flat1])), Reverse_ok _ D hD D.length rfl (by omega), ?_⟩
      simp only [afterM, setM, backM, List.drop_succ_cons, List.drop_zero, List.drop_nil, wT, Bool.not_eq_true, ty, zr, Nat.reduceAdd, Nat.reduceSub, Nat.reduceMul, Nat.reduceMod, Nat.reduceDiv, Nat.reduceEqDiff, Nat.reduceLeDiff, Nat.reduceBEq, Int.reduceAdd, Int.reduceSub, Int.reduceMul, Int.reduceNeg, Int.reduceLT, Int.reduceLE, Int.reduceEq, Int.reduceNe, Int.reduceBEq, Int.reduceToNat, Int.reduceTDiv, Int.reduceTMod, Int.reduceOfNat, reduceCtorEq, sty, sui]
      refine hK _ ?_; clear hK K
      refine AWp.reg p_merkle_Tree_Proof_13 [] s_merkle_Tree_Proof_13 rfl rfl fun K hK => st_of ?_
      simp only [s_merkle_Tree_Proof_13, wT, Bool.not_eq_true, ty, zr, Nat.reduceAdd, Nat.reduceSub, Nat.reduceMul, Nat.reduceMod, Nat.reduceDiv, Nat.reduceEqDiff, Nat.reduceLeDiff, Nat.reduceBEq, Int.reduceAdd, Int.reduceSub, Int.reduceMul, Int.reduceNeg, Int.reduceLT, Int.reduceLE, Int.reduceEq, Int.reduceNe, Int.reduceBEq, Int.reduceToNat, Int.reduceTDiv, Int.reduceTMod, Int.reduceOfNat, reduceCtorEq, sty, sui]
      refine hK _ ?_; clear hK K
      refine AWp.ret ?_
      try simp only [thenQ, bq, lq, lf, iq, gq, Nat.reduceEqDiff, if_true, if_false]
      simp only [endQ, rs_merkle_Tree_Proof, resC, one, wT, Bool.not_eq_true, ty, zr, Nat.reduceAdd, Nat.reduceSub, Nat.reduceMul, Nat.reduceMod, Nat.reduceDiv, Nat.reduceEqDiff, Nat.reduceLeDiff, Nat.reduceBEq, Int.reduceAdd, Int.reduceSub, Int.reduceMul, Int.reduceNeg, Int.reduceLT, Int.reduceLE, Int.reduceEq, Int.reduceNe, Int.reduceBEq, Int.reduceToNat, Int.reduceTDiv, Int.reduceTMod, Int.reduceOfNat, reduceCtorEq, sty, sui]
      rw [hP, List.length_reverse]
      refine ⟨[0], by decide, by simp, by rfl, ?_⟩; (repeat' (first | exact trivial | rfl | omega | apply And.intro | (simp [AV.All, AV.AllL, inS, AV.map, AV.mapL, renS, selRows, selRow, Row.map, Row.All, mapL_flat, mapL_flat1, allL_flat, allL_flat1]; done)))
end Go.Proofs.Ytdcbgmbpiekbgaa
