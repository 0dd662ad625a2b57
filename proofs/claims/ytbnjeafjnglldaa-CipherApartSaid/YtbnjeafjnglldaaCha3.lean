import Derived.Test.YtbnjeafjnglldaaCha2
import Derived.Test.YtbnjeafjnglldaaSyB
namespace Go.Proofs.Ytbnjeafjnglldaa
open Go Go.Proofs.Ytbnjeafjnglldaa.Sy
set_option linter.unusedSimpArgs false
set_option linter.unusedVariables false
set_option maxRecDepth 100000


theorem sub_getD {l : List Int} {o n i : Nat} (hi : i < n) : (sub l o n).getD i 0 = l.getD (o + i) 0 := by
  simp [sub, List.getD_eq_getElem?_getD, List.getElem?_take_of_lt hi]
theorem sub_ne {l l' : List Int} {o o' n i : Nat} (hi : i < n) (h : l.getD (o + i) 0 ≠ l'.getD (o' + i) 0) : sub l o n ≠ sub l' o' n := by
  intro he
  rw [← sub_getD hi, ← sub_getD hi, he] at h
  exact h rfl
theorem sub_eq {l l' : List Int} {o o' n : Nat} (h1 : o + n ≤ l.length) (h2 : o' + n ≤ l'.length) (h : ∀ i, i < n → l.getD (o + i) 0 = l'.getD (o' + i) 0) : sub l o n = sub l' o' n := by
  apply List.ext_getElem
  · rw [length_sub h1, length_sub h2]
  · intro i g1 g2
    rw [length_sub h1] at g1
    have := h i g1
    rw [← sub_getD g1, ← sub_getD g1] at this
    simpa [List.getD_eq_getElem?_getD, *] using this


theorem streamI_ok {α : Type} (E : α → Option (Row α)) (k : List Int) (hk : k.length = 32) (n : Int) (size : Nat) (h1 : 1 ≤ size) (h2 : size ≤ 65536) :
    FnOk Try.prog n_chacha_Stream E [.ints .u8 k, .int .u64 n, .int .i64 size] [] (.slice true (.own 0) 0 size 1) [some (.ints .u8 (catN k n ((size + 63) / 64)))] := by
  refine FnOk.intro func_chacha_Stream call_chacha_Stream (body := _) rfl nt_chacha_Stream (by simp) ?_
  refine AWp.reg p_chacha_Stream_0 [] s_chacha_Stream_0 rfl rfl fun K hK => st_of ?_
  simp only [s_chacha_Stream_0, wT, Bool.not_eq_true, ty, zr, Nat.reduceAdd, Nat.reduceSub, Nat.reduceMul, Nat.reduceMod, Nat.reduceDiv, Nat.reduceEqDiff, Nat.reduceLeDiff, Nat.reduceBEq, Int.reduceAdd, Int.reduceSub, Int.reduceMul, Int.reduceNeg, Int.reduceLT, Int.reduceLE, Int.reduceEq, Int.reduceNe, Int.reduceBEq, Int.reduceToNat, Int.reduceTDiv, Int.reduceTMod, Int.reduceOfNat, reduceCtorEq, sty, sui]
  try simp (disch := first | omega | (simp only [blockL_len, catN_len, List.length_set, List.length_replicate, List.length_append, List.length_take]; first | done | omega)) only [wrap_i64', wrap_u64', wrap_u32', wrap_u8', Int.tmod_eq_emod_of_nonneg, Int.tdiv_eq_ediv_of_nonneg, sub_one, sub_all, splice_all, blockL_len, catN_len, List.length_set, List.length_replicate, List.length_append, List.length_take]
  (repeat ((with_reducible refine And.intro ?_ ?_); (first | omega | exact True.intro | with_reducible rfl | decide | assumption | rfl)))
  refine hK _ ?_; clear hK K
  refine AWp.grp fun G4 hG4 => ?_
  refine AWp.reg p_chacha_Stream_1 [] s_chacha_Stream_1 rfl rfl fun K hK => st_of ?_
  simp only [s_chacha_Stream_1, wT, Bool.not_eq_true, ty, zr, Nat.reduceAdd, Nat.reduceSub, Nat.reduceMul, Nat.reduceMod, Nat.reduceDiv, Nat.reduceEqDiff, Nat.reduceLeDiff, Nat.reduceBEq, Int.reduceAdd, Int.reduceSub, Int.reduceMul, Int.reduceNeg, Int.reduceLT, Int.reduceLE, Int.reduceEq, Int.reduceNe, Int.reduceBEq, Int.reduceToNat, Int.reduceTDiv, Int.reduceTMod, Int.reduceOfNat, reduceCtorEq, sty, sui]
  try simp (disch := first | omega | (simp only [blockL_len, catN_len, List.length_set, List.length_replicate, List.length_append, List.length_take]; first | done | omega)) only [wrap_i64', wrap_u64', wrap_u32', wrap_u8', Int.tmod_eq_emod_of_nonneg, Int.tdiv_eq_ediv_of_nonneg, sub_one, sub_all, splice_all, blockL_len, catN_len, List.length_set, List.length_replicate, List.length_append, List.length_take]
  refine ⟨fun h => absurd h (by simp; omega), fun h => ?_⟩
  refine hK _ ?_; clear hK K
  refine AWp.iteE rfl (fun hb => ?_) (fun hb => ?_)
  · try simp only [decide_eq_true_eq, decide_eq_false_iff_not, beq_iff_eq, bne_iff_ne, ne_eq, Bool.not_eq_true, beq_eq_false_iff_ne, bne_eq_false_iff_eq, Bool.not_eq_false, Bool.not_eq_eq_eq_not, Bool.not_true, Bool.not_false] at hb
    exfalso; omega
  · try simp only [decide_eq_true_eq, decide_eq_false_iff_not, beq_iff_eq, bne_iff_ne, ne_eq, Bool.not_eq_true, beq_eq_false_iff_ne, bne_eq_false_iff_eq, Bool.not_eq_false, Bool.not_eq_eq_eq_not, Bool.not_true, Bool.not_false] at hb
    refine AWp.skip ?_
    try simp only [thenQ, bq, lq, lf, iq, gq, Nat.reduceEqDiff, if_true, if_false]
    refine hG4 _ ?_
    try clear hG4 G4
    refine AWp.reg p_chacha_Stream_3 [] s_chacha_Stream_3 rfl rfl fun K hK => st_of ?_
    simp only [s_chacha_Stream_3, wT, Bool.not_eq_true, ty, zr, Nat.reduceAdd, Nat.reduceSub, Nat.reduceMul, Nat.reduceMod, Nat.reduceDiv, Nat.reduceEqDiff, Nat.reduceLeDiff, Nat.reduceBEq, Int.reduceAdd, Int.reduceSub, Int.reduceMul, Int.reduceNeg, Int.reduceLT, Int.reduceLE, Int.reduceEq, Int.reduceNe, Int.reduceBEq, Int.reduceToNat, Int.reduceTDiv, Int.reduceTMod, Int.reduceOfNat, reduceCtorEq, sty, sui]
    try simp (disch := first | omega | (simp only [blockL_len, catN_len, List.length_set, List.length_replicate, List.length_append, List.length_take]; first | done | omega)) only [wrap_i64', wrap_u64', wrap_u32', wrap_u8', Int.tmod_eq_emod_of_nonneg, Int.tdiv_eq_ediv_of_nonneg, sub_one, sub_all, splice_all, blockL_len, catN_len, List.length_set, List.length_replicate, List.length_append, List.length_take]
    (repeat ((with_reducible refine And.intro ?_ ?_); (first | omega | exact True.intro | with_reducible rfl | decide | assumption | rfl)))
    refine hK _ ?_; clear hK K
    refine AWp.grp fun G21 hG21 => ?_
    refine AWp.reg p_chacha_Stream_4 [] s_chacha_Stream_4 rfl rfl fun K hK => st_of ?_
    simp only [s_chacha_Stream_4, wT, Bool.not_eq_true, ty, zr, Nat.reduceAdd, Nat.reduceSub, Nat.reduceMul, Nat.reduceMod, Nat.reduceDiv, Nat.reduceEqDiff, Nat.reduceLeDiff, Nat.reduceBEq, Int.reduceAdd, Int.reduceSub, Int.reduceMul, Int.reduceNeg, Int.reduceLT, Int.reduceLE, Int.reduceEq, Int.reduceNe, Int.reduceBEq, Int.reduceToNat, Int.reduceTDiv, Int.reduceTMod, Int.reduceOfNat, reduceCtorEq, sty, sui]
    try simp (disch := first | omega | (simp only [blockL_len, catN_len, List.length_set, List.length_replicate, List.length_append, List.length_take]; first | done | omega)) only [wrap_i64', wrap_u64', wrap_u32', wrap_u8', Int.tmod_eq_emod_of_nonneg, Int.tdiv_eq_ediv_of_nonneg, sub_one, sub_all, splice_all, blockL_len, catN_len, List.length_set, List.length_replicate, List.length_append, List.length_take]
    (repeat ((with_reducible refine And.intro ?_ ?_); (first | omega | exact True.intro | with_reducible rfl | decide | assumption | rfl)))
    refine hK _ ?_; clear hK K
    refine AWp.lopX (fun m => ⟨[(1, .int .u64 n), (2, .int .i64 size), (3, .ptr (.own 0) 0), (7, .slice true (.own 1) 0 (64 * m) 1), (8, .int .u32 m)], [some (.ints .u8 k), some (.ints .u8 (catN k n m))]⟩) ((size + 63) / 64) ?_ fun X0 hX0 m hn0 => ?_
    · refine Le.trans (Le.cut 1 rfl 0) ?_
      simp only [List.set_cons_succ, List.set_cons_zero, List.take_zero, catN_zero]
      exact Le.ofA
    refine AWp.grp fun G30 hG30 => ?_
    refine AWp.reg p_chacha_Stream_5 [] s_chacha_Stream_5 rfl rfl fun K hK => st_of ?_
    simp only [s_chacha_Stream_5, wT, Bool.not_eq_true, ty, zr, Nat.reduceAdd, Nat.reduceSub, Nat.reduceMul, Nat.reduceMod, Nat.reduceDiv, Nat.reduceEqDiff, Nat.reduceLeDiff, Nat.reduceBEq, Int.reduceAdd, Int.reduceSub, Int.reduceMul, Int.reduceNeg, Int.reduceLT, Int.reduceLE, Int.reduceEq, Int.reduceNe, Int.reduceBEq, Int.reduceToNat, Int.reduceTDiv, Int.reduceTMod, Int.reduceOfNat, reduceCtorEq, sty, sui]
    try simp (disch := first | omega | (simp only [blockL_len, catN_len, List.length_set, List.length_replicate, List.length_append, List.length_take]; first | done | omega)) only [wrap_i64', wrap_u64', wrap_u32', wrap_u8', Int.tmod_eq_emod_of_nonneg, Int.tdiv_eq_ediv_of_nonneg, sub_one, sub_all, splice_all, blockL_len, catN_len, List.length_set, List.length_replicate, List.length_append, List.length_take]
    (repeat ((with_reducible refine And.intro ?_ ?_); (first | omega | exact True.intro | with_reducible rfl | decide | assumption | rfl)))
    refine hK _ ?_; clear hK K
    refine AWp.testE rfl (fun hb => ?_) (fun hb => ?_)
    · try simp only [decide_eq_true_eq, decide_eq_false_iff_not, beq_iff_eq, bne_iff_ne, ne_eq, Bool.not_eq_true, beq_eq_false_iff_ne, bne_eq_false_iff_eq, Bool.not_eq_false, Bool.not_eq_eq_eq_not, Bool.not_true, Bool.not_false] at hb
      try simp only [thenQ, bq, lq, lf, iq, gq, Nat.reduceEqDiff, if_true, if_false]
      refine hG30 _ ?_
      try clear hG30 G30
      refine AWp.blk fun Y1 hY1 => ?_
      refine AWp.reg p_chacha_Stream_7 [] s_chacha_Stream_7 rfl rfl fun K hK => st_of ?_
      simp only [s_chacha_Stream_7, wT, Bool.not_eq_true, ty, zr, Nat.reduceAdd, Nat.reduceSub, Nat.reduceMul, Nat.reduceMod, Nat.reduceDiv, Nat.reduceEqDiff, Nat.reduceLeDiff, Nat.reduceBEq, Int.reduceAdd, Int.reduceSub, Int.reduceMul, Int.reduceNeg, Int.reduceLT, Int.reduceLE, Int.reduceEq, Int.reduceNe, Int.reduceBEq, Int.reduceToNat, Int.reduceTDiv, Int.reduceTMod, Int.reduceOfNat, reduceCtorEq, sty, sui]
      try simp (disch := first | omega | (simp only [blockL_len, catN_len, List.length_set, List.length_replicate, List.length_append, List.length_take]; first | done | omega)) only [wrap_i64', wrap_u64', wrap_u32', wrap_u8', Int.tmod_eq_emod_of_nonneg, Int.tdiv_eq_ediv_of_nonneg, sub_one, sub_all, splice_all, blockL_len, catN_len, List.length_set, List.length_replicate, List.length_append, List.length_take]
      (repeat ((with_reducible refine And.intro ?_ ?_); (first | omega | exact True.intro | with_reducible rfl | decide | assumption | rfl)))
      refine st_call fun K1 hK1 => ?_
      simp only [calleeC, wT, Bool.not_eq_true, ty, zr, Nat.reduceAdd, Nat.reduceSub, Nat.reduceMul, Nat.reduceMod, Nat.reduceDiv, Nat.reduceEqDiff, Nat.reduceLeDiff, Nat.reduceBEq, Int.reduceAdd, Int.reduceSub, Int.reduceMul, Int.reduceNeg, Int.reduceLT, Int.reduceLE, Int.reduceEq, Int.reduceNe, Int.reduceBEq, Int.reduceToNat, Int.reduceTDiv, Int.reduceTMod, Int.reduceOfNat, reduceCtorEq, sty, sui]
      try simp (disch := first | omega | (simp only [blockL_len, catN_len, List.length_set, List.length_replicate, List.length_append, List.length_take]; first | done | omega)) only [wrap_i64', wrap_u64', wrap_u32', wrap_u8', Int.tmod_eq_emod_of_nonneg, Int.tdiv_eq_ediv_of_nonneg, sub_one, sub_all, splice_all, blockL_len, catN_len, List.length_set, List.length_replicate, List.length_append, List.length_take]
      refine hK1 _ _ ?_
      clear hK1 K1
      simp only [CallTo, AV.mapL, AV.map, mapL_flat, mapL_flat1]
      refine ⟨_, _, blockI_ok _ _ hk _ _, ?_⟩
      simp only [wT, Bool.not_eq_true, ty, zr, Nat.reduceAdd, Nat.reduceSub, Nat.reduceMul, Nat.reduceMod, Nat.reduceDiv, Nat.reduceEqDiff, Nat.reduceLeDiff, Nat.reduceBEq, Int.reduceAdd, Int.reduceSub, Int.reduceMul, Int.reduceNeg, Int.reduceLT, Int.reduceLE, Int.reduceEq, Int.reduceNe, Int.reduceBEq, Int.reduceToNat, Int.reduceTDiv, Int.reduceTMod, Int.reduceOfNat, reduceCtorEq, sty, sui]
      try simp (disch := first | omega | (simp only [blockL_len, catN_len, List.length_set, List.length_replicate, List.length_append, List.length_take]; first | done | omega)) only [wrap_i64', wrap_u64', wrap_u32', wrap_u8', Int.tmod_eq_emod_of_nonneg, Int.tdiv_eq_ediv_of_nonneg, sub_one, sub_all, splice_all, blockL_len, catN_len, List.length_set, List.length_replicate, List.length_append, List.length_take]
      (repeat ((with_reducible refine And.intro ?_ ?_); (first | omega | exact True.intro | with_reducible rfl | decide | assumption | rfl)))
      refine hK _ ?_; clear hK K
      refine AWp.regE p_chacha_Stream_8 [] s_chacha_Stream_8 rfl rfl (st_of ?_)
      simp only [s_chacha_Stream_8, wT, Bool.not_eq_true, ty, zr, Nat.reduceAdd, Nat.reduceSub, Nat.reduceMul, Nat.reduceMod, Nat.reduceDiv, Nat.reduceEqDiff, Nat.reduceLeDiff, Nat.reduceBEq, Int.reduceAdd, Int.reduceSub, Int.reduceMul, Int.reduceNeg, Int.reduceLT, Int.reduceLE, Int.reduceEq, Int.reduceNe, Int.reduceBEq, Int.reduceToNat, Int.reduceTDiv, Int.reduceTMod, Int.reduceOfNat, reduceCtorEq, sty, sui]
      try simp (disch := first | omega | (simp only [blockL_len, catN_len, List.length_set, List.length_replicate, List.length_append, List.length_take]; first | done | omega)) only [wrap_i64', wrap_u64', wrap_u32', wrap_u8', Int.tmod_eq_emod_of_nonneg, Int.tdiv_eq_ediv_of_nonneg, sub_one, sub_all, splice_all, blockL_len, catN_len, List.length_set, List.length_replicate, List.length_append, List.length_take]
      (repeat ((with_reducible refine And.intro ?_ ?_); (first | omega | exact True.intro | with_reducible rfl | decide | assumption | rfl)))
      try simp only [thenQ, bq, lq, lf, iq, gq, Nat.reduceEqDiff, if_true, if_false]
      refine hY1 _ ?_
      try clear hY1 Y1
      refine AWp.regE p_chacha_Stream_6 [] s_chacha_Stream_6 rfl rfl (st_of ?_)
      simp only [s_chacha_Stream_6, wT, Bool.not_eq_true, ty, zr, Nat.reduceAdd, Nat.reduceSub, Nat.reduceMul, Nat.reduceMod, Nat.reduceDiv, Nat.reduceEqDiff, Nat.reduceLeDiff, Nat.reduceBEq, Int.reduceAdd, Int.reduceSub, Int.reduceMul, Int.reduceNeg, Int.reduceLT, Int.reduceLE, Int.reduceEq, Int.reduceNe, Int.reduceBEq, Int.reduceToNat, Int.reduceTDiv, Int.reduceTMod, Int.reduceOfNat, reduceCtorEq, sty, sui]
      try simp (disch := first | omega | (simp only [blockL_len, catN_len, List.length_set, List.length_replicate, List.length_append, List.length_take]; first | done | omega)) only [wrap_i64', wrap_u64', wrap_u32', wrap_u8', Int.tmod_eq_emod_of_nonneg, Int.tdiv_eq_ediv_of_nonneg, sub_one, sub_all, splice_all, blockL_len, catN_len, List.length_set, List.length_replicate, List.length_append, List.length_take]
      (repeat ((with_reducible refine And.intro ?_ ?_); (first | omega | exact True.intro | with_reducible rfl | decide | assumption | rfl)))
      try simp only [thenQ, bq, lq, lf, iq, gq, Nat.reduceEqDiff, if_true, if_false]
      simp only [catN_succ]
      first | exact ⟨by omega, Le.sel [0, 3] (by decide) (by simp) rfl (by simp only [selTm, tget, AV.map, AV.mapL, renS, AV.All, AV.AllL, inS, Nat.reduceEqDiff, if_true, if_false]; repeat' (first | exact trivial | rfl | assumption | apply And.intro | simp [mapL_flat, mapL_flat1, allL_flat, allL_flat1])) (by simp only [selRows, selRow, Row.map, Row.All, AV.AllL, AV.All, inS]; repeat' (first | exact trivial | rfl | assumption | apply And.intro | simp [mapL_flat, mapL_flat1, allL_flat, allL_flat1]))⟩ | exact Le.sel [0, 3] (by decide) (by simp) rfl (by simp only [selTm, tget, AV.map, AV.mapL, renS, AV.All, AV.AllL, inS, Nat.reduceEqDiff, if_true, if_false]; repeat' (first | exact trivial | rfl | assumption | apply And.intro | simp [mapL_flat, mapL_flat1, allL_flat, allL_flat1])) (by simp only [selRows, selRow, Row.map, Row.All, AV.AllL, AV.All, inS]; repeat' (first | exact trivial | rfl | assumption | apply And.intro | simp [mapL_flat, mapL_flat1, allL_flat, allL_flat1]))
    · try simp only [decide_eq_true_eq, decide_eq_false_iff_not, beq_iff_eq, bne_iff_ne, ne_eq, Bool.not_eq_true, beq_eq_false_iff_ne, bne_eq_false_iff_eq, Bool.not_eq_false, Bool.not_eq_eq_eq_not, Bool.not_true, Bool.not_false] at hb
      try simp only [thenQ, bq, lq, lf, iq, gq, Nat.reduceEqDiff, if_true, if_false]
      refine hX0 _ ?_
      try clear hX0 X0
      obtain rfl : m = (size + 63) / 64 := by omega
      try simp only [thenQ, bq, lq, lf, iq, gq, Nat.reduceEqDiff, if_true, if_false]
      refine hG21 _ ?_
      try clear hG21 G21
      refine AWp.reg p_chacha_Stream_9 [] s_chacha_Stream_9 rfl rfl fun K hK => st_of ?_
      simp only [s_chacha_Stream_9, wT, Bool.not_eq_true, ty, zr, Nat.reduceAdd, Nat.reduceSub, Nat.reduceMul, Nat.reduceMod, Nat.reduceDiv, Nat.reduceEqDiff, Nat.reduceLeDiff, Nat.reduceBEq, Int.reduceAdd, Int.reduceSub, Int.reduceMul, Int.reduceNeg, Int.reduceLT, Int.reduceLE, Int.reduceEq, Int.reduceNe, Int.reduceBEq, Int.reduceToNat, Int.reduceTDiv, Int.reduceTMod, Int.reduceOfNat, reduceCtorEq, sty, sui]
      try simp (disch := first | omega | (simp only [blockL_len, catN_len, List.length_set, List.length_replicate, List.length_append, List.length_take]; first | done | omega)) only [wrap_i64', wrap_u64', wrap_u32', wrap_u8', Int.tmod_eq_emod_of_nonneg, Int.tdiv_eq_ediv_of_nonneg, sub_one, sub_all, splice_all, blockL_len, catN_len, List.length_set, List.length_replicate, List.length_append, List.length_take]
      (repeat ((with_reducible refine And.intro ?_ ?_); (first | omega | exact True.intro | with_reducible rfl | decide | assumption | rfl)))
      refine hK _ ?_; clear hK K
      refine AWp.ret ?_
      try simp only [thenQ, bq, lq, lf, iq, gq, Nat.reduceEqDiff, if_true, if_false]
      simp only [endQ, rs_chacha_Stream, resC, one, wT, Bool.not_eq_true, ty, zr, Nat.reduceAdd, Nat.reduceSub, Nat.reduceMul, Nat.reduceMod, Nat.reduceDiv, Nat.reduceEqDiff, Nat.reduceLeDiff, Nat.reduceBEq, Int.reduceAdd, Int.reduceSub, Int.reduceMul, Int.reduceNeg, Int.reduceLT, Int.reduceLE, Int.reduceEq, Int.reduceNe, Int.reduceBEq, Int.reduceToNat, Int.reduceTDiv, Int.reduceTMod, Int.reduceOfNat, reduceCtorEq, sty, sui]
      try simp (disch := first | omega | (simp only [blockL_len, catN_len, List.length_set, List.length_replicate, List.length_append, List.length_take]; first | done | omega)) only [wrap_i64', wrap_u64', wrap_u32', wrap_u8', Int.tmod_eq_emod_of_nonneg, Int.tdiv_eq_ediv_of_nonneg, sub_one, sub_all, splice_all, blockL_len, catN_len, List.length_set, List.length_replicate, List.length_append, List.length_take]
      exact ⟨[1], by decide, by simp, rfl, rfl, by simp [AV.All, inS], ⟨⟨rfl, trivial⟩, trivial⟩⟩

theorem take_cut {l b : List Int} {i size : Nat} (h : size ≤ l.length + i ∨ b.length ≤ i) : (l ++ b.take i).take size = (l ++ b).take size := by
  rcases h with h | h
  · rw [List.take_append, List.take_append, List.take_take, Nat.min_eq_left (by omega)]
  · rw [List.take_of_length_le h]
theorem take_step {l b : List Int} {i size : Nat} (h : l.length + i < size) (hi : i < b.length) : (l ++ b.take i).take size ++ [b.getD i 0] = (l ++ b.take (i + 1)).take size := by
  have e1 : (l ++ b.take i).take size = l ++ b.take i := List.take_of_length_le (by simp; omega)
  have e2 : (l ++ b.take (i + 1)).take size = l ++ b.take (i + 1) := List.take_of_length_le (by simp; omega)
  rw [e1, e2, List.append_assoc, List.getD_eq_getElem?_getD, List.getElem?_eq_getElem hi, Option.getD_some, List.take_append_getElem hi]
/-- So many bytes of the stream. -/
def streamL (k : List Int) (n : Int) (size : Nat) : List Int := (catN k n ((size + 63) / 64)).take size

theorem streamI_nil {α : Type} (E : α → Option (Row α)) (k : List Int) (hk : k.length = 32) (n size : Int) (h1 : size < 1 ∨ 65536 < size) :
    FnOk Try.prog n_chacha_Stream E [.ints .u8 k, .int .u64 n, .int .i64 size] [] .nilslice [] := by
  refine FnOk.pure func_chacha_Stream call_chacha_Stream (body := _) rfl nt_chacha_Stream (by simp) (by simp [AV.solid, AV.solidL]) ?_
  refine AWp.reg p_chacha_Stream_0 [] s_chacha_Stream_0 rfl rfl fun K hK => st_of ?_
  simp only [s_chacha_Stream_0, wT, Bool.not_eq_true, ty, zr, Nat.reduceAdd, Nat.reduceSub, Nat.reduceMul, Nat.reduceMod, Nat.reduceDiv, Nat.reduceEqDiff, Nat.reduceLeDiff, Nat.reduceBEq, Int.reduceAdd, Int.reduceSub, Int.reduceMul, Int.reduceNeg, Int.reduceLT, Int.reduceLE, Int.reduceEq, Int.reduceNe, Int.reduceBEq, Int.reduceToNat, Int.reduceTDiv, Int.reduceTMod, Int.reduceOfNat, reduceCtorEq, sty, sui]
  try simp (disch := first | omega | (simp only [blockL_len, catN_len, List.length_set, List.length_replicate, List.length_append, List.length_take]; first | done | omega)) only [wrap_i64', wrap_u64', wrap_u32', wrap_u8', Int.tmod_eq_emod_of_nonneg, Int.tdiv_eq_ediv_of_nonneg, sub_one, sub_all, splice_all, blockL_len, catN_len, List.length_set, List.length_replicate, List.length_append, List.length_take]
  (repeat ((with_reducible refine And.intro ?_ ?_); (first | omega | exact True.intro | with_reducible rfl | decide | assumption | rfl)))
  refine hK _ ?_; clear hK K
  refine AWp.grp fun G4 hG4 => ?_
  refine AWp.regJ p_chacha_Stream_1 [] s_chacha_Stream_1 ⟨[(15, .bool true)], []⟩ rfl rfl (fun K hK => st_of ?_) ?_
  · simp only [s_chacha_Stream_1, wT, Bool.not_eq_true, ty, zr, Nat.reduceAdd, Nat.reduceSub, Nat.reduceMul, Nat.reduceMod, Nat.reduceDiv, Nat.reduceEqDiff, Nat.reduceLeDiff, Nat.reduceBEq, Int.reduceAdd, Int.reduceSub, Int.reduceMul, Int.reduceNeg, Int.reduceLT, Int.reduceLE, Int.reduceEq, Int.reduceNe, Int.reduceBEq, Int.reduceToNat, Int.reduceTDiv, Int.reduceTMod, Int.reduceOfNat, reduceCtorEq, sty, sui]
    try simp (disch := first | omega | (simp only [blockL_len, catN_len, List.length_set, List.length_replicate, List.length_append, List.length_take]; first | done | omega)) only [wrap_i64', wrap_u64', wrap_u32', wrap_u8', Int.tmod_eq_emod_of_nonneg, Int.tdiv_eq_ediv_of_nonneg, sub_one, sub_all, splice_all, blockL_len, catN_len, List.length_set, List.length_replicate, List.length_append, List.length_take]
    refine ⟨fun h => hK _ (Le.ofA), fun h => ?_⟩
    rw [show decide (size > 65536) = true from decide_eq_true (by omega)]
    exact hK _ (Le.ofA)
  refine AWp.iteE rfl (fun hb => ?_) (fun hb => ?_)
  · try simp only [decide_eq_true_eq, decide_eq_false_iff_not, beq_iff_eq, bne_iff_ne, ne_eq, Bool.not_eq_true, beq_eq_false_iff_ne, bne_eq_false_iff_eq, Bool.not_eq_false, Bool.not_eq_eq_eq_not, Bool.not_true, Bool.not_false] at hb
    refine AWp.reg p_chacha_Stream_2 [] s_chacha_Stream_2 rfl rfl fun K hK => st_of ?_
    simp only [s_chacha_Stream_2, wT, Bool.not_eq_true, ty, zr, Nat.reduceAdd, Nat.reduceSub, Nat.reduceMul, Nat.reduceMod, Nat.reduceDiv, Nat.reduceEqDiff, Nat.reduceLeDiff, Nat.reduceBEq, Int.reduceAdd, Int.reduceSub, Int.reduceMul, Int.reduceNeg, Int.reduceLT, Int.reduceLE, Int.reduceEq, Int.reduceNe, Int.reduceBEq, Int.reduceToNat, Int.reduceTDiv, Int.reduceTMod, Int.reduceOfNat, reduceCtorEq, sty, sui]
    try simp (disch := first | omega | (simp only [blockL_len, catN_len, List.length_set, List.length_replicate, List.length_append, List.length_take]; first | done | omega)) only [wrap_i64', wrap_u64', wrap_u32', wrap_u8', Int.tmod_eq_emod_of_nonneg, Int.tdiv_eq_ediv_of_nonneg, sub_one, sub_all, splice_all, blockL_len, catN_len, List.length_set, List.length_replicate, List.length_append, List.length_take]
    (repeat ((with_reducible refine And.intro ?_ ?_); (first | omega | exact True.intro | with_reducible rfl | decide | assumption | rfl)))
    refine hK _ ?_; clear hK K
    refine AWp.ret ?_
    try simp only [thenQ, bq, lq, lf, iq, gq, Nat.reduceEqDiff, if_true, if_false]
    simp only [endQ, rs_chacha_Stream, resC, one, wT, Bool.not_eq_true, ty, zr, Nat.reduceAdd, Nat.reduceSub, Nat.reduceMul, Nat.reduceMod, Nat.reduceDiv, Nat.reduceEqDiff, Nat.reduceLeDiff, Nat.reduceBEq, Int.reduceAdd, Int.reduceSub, Int.reduceMul, Int.reduceNeg, Int.reduceLT, Int.reduceLE, Int.reduceEq, Int.reduceNe, Int.reduceBEq, Int.reduceToNat, Int.reduceTDiv, Int.reduceTMod, Int.reduceOfNat, reduceCtorEq, sty, sui]
    try simp (disch := first | omega | (simp only [blockL_len, catN_len, List.length_set, List.length_replicate, List.length_append, List.length_take]; first | done | omega)) only [wrap_i64', wrap_u64', wrap_u32', wrap_u8', Int.tmod_eq_emod_of_nonneg, Int.tdiv_eq_ediv_of_nonneg, sub_one, sub_all, splice_all, blockL_len, catN_len, List.length_set, List.length_replicate, List.length_append, List.length_take]
    repeat' (first | exact True.intro | (with_reducible rfl) | (with_reducible apply And.intro) | omega | rfl)
  · try simp only [decide_eq_true_eq, decide_eq_false_iff_not, beq_iff_eq, bne_iff_ne, ne_eq, Bool.not_eq_true, beq_eq_false_iff_ne, bne_eq_false_iff_eq, Bool.not_eq_false, Bool.not_eq_eq_eq_not, Bool.not_true, Bool.not_false] at hb
    cases hb
end Go.Proofs.Ytbnjeafjnglldaa
