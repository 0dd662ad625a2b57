/- Contracts: slices.Concat of two; the sums under a key. -/
import Derived.Test.YtdcbgmbpiekbgaaSha2
namespace Go.Proofs.Ytdcbgmbpiekbgaa
open Go Go.Proofs.Ytdcbgmbpiekbgaa.Sy
set_option linter.unusedSimpArgs false
set_option linter.unusedVariables false
set_option maxRecDepth 100000
set_option maxHeartbeats 4000000


theorem mapL_getD {ι κ : Type} (f : ι → κ) (l : List (AV ι)) (i : Nat) : (AV.mapL f l).getD i .undef = (l.getD i .undef).map f := by
  rw [AV.mapL_eq, List.getD_eq_getElem?_getD, List.getElem?_map, List.getD_eq_getElem?_getD]
  cases l[i]? <;> rfl
theorem mapL_len {ι κ : Type} (f : ι → κ) (l : List (AV ι)) : (AV.mapL f l).length = l.length := by rw [AV.mapL_eq, List.length_map]
theorem grow_ok {α : Type} (E : α → Option (Row α)) (n : Nat) (h0 : 0 < n) (h1 : n ≤ 1099511627776) :
    FnOk Try.prog n_slices_Grow_byte_byte E [.nilslice, .int .i64 n] [] (.slice true (.own 0) 0 0 1) [some (.ints .u8 (List.replicate n 0))] := by
  refine FnOk.intro func_slices_Grow_byte_byte call_slices_Grow_byte_byte (body := _) rfl nt_slices_Grow_byte_byte (by simp) ?_
  refine AWp.reg p_slices_Grow_byte_byte_0 [] s_slices_Grow_byte_byte_0 rfl rfl fun K hK => st_of ?_
  simp only [s_slices_Grow_byte_byte_0, wT, Bool.not_eq_true, ty, zr, Nat.reduceAdd, Nat.reduceSub, Nat.reduceMul, Nat.reduceMod, Nat.reduceDiv, Nat.reduceEqDiff, Nat.reduceLeDiff, Nat.reduceBEq, Int.reduceAdd, Int.reduceSub, Int.reduceMul, Int.reduceNeg, Int.reduceLT, Int.reduceLE, Int.reduceEq, Int.reduceNe, Int.reduceBEq, Int.reduceToNat, Int.reduceTDiv, Int.reduceTMod, Int.reduceOfNat, reduceCtorEq, sty, sui]
  refine hK _ ?_; clear hK K
  refine AWp.grp fun G4 hG4 => ?_
  refine AWp.reg p_slices_Grow_byte_byte_1 [] s_slices_Grow_byte_byte_1 rfl rfl fun K hK => st_of ?_
  simp only [s_slices_Grow_byte_byte_1, wT, Bool.not_eq_true, ty, zr, Nat.reduceAdd, Nat.reduceSub, Nat.reduceMul, Nat.reduceMod, Nat.reduceDiv, Nat.reduceEqDiff, Nat.reduceLeDiff, Nat.reduceBEq, Int.reduceAdd, Int.reduceSub, Int.reduceMul, Int.reduceNeg, Int.reduceLT, Int.reduceLE, Int.reduceEq, Int.reduceNe, Int.reduceBEq, Int.reduceToNat, Int.reduceTDiv, Int.reduceTMod, Int.reduceOfNat, reduceCtorEq, sty, sui]
  refine hK _ ?_; clear hK K
  refine AWp.iteE rfl (fun hb => ?_) (fun hb => ?_)
  · try simp only [decide_eq_true_eq, decide_eq_false_iff_not, beq_iff_eq, bne_iff_ne, ne_eq, Bool.not_eq_true, beq_eq_false_iff_ne, bne_eq_false_iff_eq, Bool.not_eq_false, Bool.not_eq_eq_eq_not, Bool.not_true, Bool.not_false] at hb
    (first | exact absurd trivial hb | exact absurd rfl hb | cases hb | (exfalso; omega) | (simp at hb; done))
  · try simp only [decide_eq_true_eq, decide_eq_false_iff_not, beq_iff_eq, bne_iff_ne, ne_eq, Bool.not_eq_true, beq_eq_false_iff_ne, bne_eq_false_iff_eq, Bool.not_eq_false, Bool.not_eq_eq_eq_not, Bool.not_true, Bool.not_false] at hb
    refine AWp.skip ?_
    try simp only [thenQ, bq, lq, lf, iq, gq, Nat.reduceEqDiff, if_true, if_false]
    refine hG4 _ ?_
    try clear hG4 G4
    refine AWp.grp fun G17 hG17 => ?_
    refine AWp.reg p_slices_Grow_byte_byte_3 [] s_slices_Grow_byte_byte_3 rfl rfl fun K hK => st_of ?_
    simp only [s_slices_Grow_byte_byte_3, wT, Bool.not_eq_true, ty, zr, Nat.reduceAdd, Nat.reduceSub, Nat.reduceMul, Nat.reduceMod, Nat.reduceDiv, Nat.reduceEqDiff, Nat.reduceLeDiff, Nat.reduceBEq, Int.reduceAdd, Int.reduceSub, Int.reduceMul, Int.reduceNeg, Int.reduceLT, Int.reduceLE, Int.reduceEq, Int.reduceNe, Int.reduceBEq, Int.reduceToNat, Int.reduceTDiv, Int.reduceTMod, Int.reduceOfNat, reduceCtorEq, sty, sui]
    try simp (disch := first | omega | (simp only [List.length_set, List.length_replicate, List.length_append, List.length_nil]; first | done | omega)) only [aT, Int.reduceToNat, List.length_set, List.length_replicate, List.length_append, List.length_nil]
    refine hK _ ?_; clear hK K
    refine AWp.reg p_slices_Grow_byte_byte_4 [] s_slices_Grow_byte_byte_4 rfl rfl fun K hK => st_of ?_
    simp only [s_slices_Grow_byte_byte_4, wT, Bool.not_eq_true, ty, zr, Nat.reduceAdd, Nat.reduceSub, Nat.reduceMul, Nat.reduceMod, Nat.reduceDiv, Nat.reduceEqDiff, Nat.reduceLeDiff, Nat.reduceBEq, Int.reduceAdd, Int.reduceSub, Int.reduceMul, Int.reduceNeg, Int.reduceLT, Int.reduceLE, Int.reduceEq, Int.reduceNe, Int.reduceBEq, Int.reduceToNat, Int.reduceTDiv, Int.reduceTMod, Int.reduceOfNat, reduceCtorEq, sty, sui]
    refine hK _ ?_; clear hK K
    refine AWp.iteE rfl (fun hb => ?_) (fun hb => ?_)
    · try simp only [decide_eq_true_eq, decide_eq_false_iff_not, beq_iff_eq, bne_iff_ne, ne_eq, Bool.not_eq_true, beq_eq_false_iff_ne, bne_eq_false_iff_eq, Bool.not_eq_false, Bool.not_eq_eq_eq_not, Bool.not_true, Bool.not_false] at hb
      refine AWp.regE p_slices_Grow_byte_byte_5 [] s_slices_Grow_byte_byte_5 rfl rfl (st_of ?_)
      simp only [s_slices_Grow_byte_byte_5, wT, Bool.not_eq_true, ty, zr, Nat.reduceAdd, Nat.reduceSub, Nat.reduceMul, Nat.reduceMod, Nat.reduceDiv, Nat.reduceEqDiff, Nat.reduceLeDiff, Nat.reduceBEq, Int.reduceAdd, Int.reduceSub, Int.reduceMul, Int.reduceNeg, Int.reduceLT, Int.reduceLE, Int.reduceEq, Int.reduceNe, Int.reduceBEq, Int.reduceToNat, Int.reduceTDiv, Int.reduceTMod, Int.reduceOfNat, reduceCtorEq, sty, sui]
      try simp (disch := first | omega | (simp only [List.length_set, List.length_replicate, List.length_append, List.length_nil]; first | done | omega)) only [aT, Int.reduceToNat, List.length_set, List.length_replicate, List.length_append, List.length_nil]
      (repeat ((with_reducible refine And.intro ?_ ?_); (first | omega | exact True.intro | with_reducible rfl | decide | assumption | rfl)))
      try simp only [thenQ, bq, lq, lf, iq, gq, Nat.reduceEqDiff, if_true, if_false]
      refine hG17 _ ?_
      try clear hG17 G17
      refine AWp.reg p_slices_Grow_byte_byte_6 [] s_slices_Grow_byte_byte_6 rfl rfl fun K hK => st_of ?_
      simp only [s_slices_Grow_byte_byte_6, wT, Bool.not_eq_true, ty, zr, Nat.reduceAdd, Nat.reduceSub, Nat.reduceMul, Nat.reduceMod, Nat.reduceDiv, Nat.reduceEqDiff, Nat.reduceLeDiff, Nat.reduceBEq, Int.reduceAdd, Int.reduceSub, Int.reduceMul, Int.reduceNeg, Int.reduceLT, Int.reduceLE, Int.reduceEq, Int.reduceNe, Int.reduceBEq, Int.reduceToNat, Int.reduceTDiv, Int.reduceTMod, Int.reduceOfNat, reduceCtorEq, sty, sui]
      refine hK _ ?_; clear hK K
      refine AWp.ret ?_
      try simp only [thenQ, bq, lq, lf, iq, gq, Nat.reduceEqDiff, if_true, if_false]
      simp only [endQ, rs_slices_Grow_byte_byte, resC, one, wT, Bool.not_eq_true, ty, zr, Nat.reduceAdd, Nat.reduceSub, Nat.reduceMul, Nat.reduceMod, Nat.reduceDiv, Nat.reduceEqDiff, Nat.reduceLeDiff, Nat.reduceBEq, Int.reduceAdd, Int.reduceSub, Int.reduceMul, Int.reduceNeg, Int.reduceLT, Int.reduceLE, Int.reduceEq, Int.reduceNe, Int.reduceBEq, Int.reduceToNat, Int.reduceTDiv, Int.reduceTMod, Int.reduceOfNat, reduceCtorEq, sty, sui]
      simp only [Nat.sub_zero]
      refine ⟨[0], by decide, by simp, by rfl, ?_⟩; (repeat' (first | exact trivial | rfl | omega | apply And.intro | (simp [AV.All, AV.AllL, inS, AV.map, AV.mapL, renS, selRows, selRow, Row.map, Row.All, mapL_flat, mapL_flat1, allL_flat, allL_flat1]; done)))
    · try simp only [decide_eq_true_eq, decide_eq_false_iff_not, beq_iff_eq, bne_iff_ne, ne_eq, Bool.not_eq_true, beq_eq_false_iff_ne, bne_eq_false_iff_eq, Bool.not_eq_false, Bool.not_eq_eq_eq_not, Bool.not_true, Bool.not_false] at hb
      (first | exact absurd trivial hb | exact absurd rfl hb | cases hb | (exfalso; omega) | (simp at hb; done))
theorem concat2_ok {α : Type} (E : α → Option (Row α)) (x y0 y1 : α) (f0 f1 : Bool) (o0 o1 : Nat) (l0 l1 a b : List Int) (hx : E x = some (.mixed [.slice f0 y0 o0 a.length 1, .slice f1 y1 o1 b.length 1])) (h0 : E y0 = some (.ints .u8 l0)) (h1 : E y1 = some (.ints .u8 l1))
    (b0 : o0 + a.length ≤ l0.length) (b1 : o1 + b.length ≤ l1.length) (s0 : sub l0 o0 a.length = a) (s1 : sub l1 o1 b.length = b) (ha : 0 < a.length) (hl : a.length + b.length ≤ 1099511627776) (f : Bool) :
    FnOk Try.prog n_slices_Concat_byte_byte E [.slice f (.ext x) 0 2 1] [] (.slice true (.own 0) 0 (a.length + b.length) 1) [some (.ints .u8 (a ++ b))] := by
  have q1 : ∀ i, i < 2 → ∃ (fi : Bool) (yi : α) (oi : Nat) (li c : List Int), ([.slice f0 y0 o0 a.length 1, .slice f1 y1 o1 b.length 1] : List (AV α)).getD i .undef = .slice fi yi oi c.length 1 ∧ E yi = some (.ints .u8 li) ∧ oi + c.length ≤ li.length ∧ sub li oi c.length = c ∧ c.length ≤ 1099511627776 ∧
      (List.take (i + 1) [a.length, b.length]).sum = (List.take i [a.length, b.length]).sum + c.length ∧ (List.take (i + 1) [a, b]).flatten = (List.take i [a, b]).flatten ++ c := by
    intro i hi
    rcases (show i = 0 ∨ i = 1 by omega) with rfl | rfl
    · exact ⟨f0, y0, o0, l0, a, rfl, h0, b0, s0, by omega, by simp, by simp⟩
    · exact ⟨f1, y1, o1, l1, b, rfl, h1, b1, s1, by omega, by simp, by simp⟩
  have q2 : ∀ i, i ≤ 2 → (List.take i [a.length, b.length]).sum ≤ 1099511627776 ∧ (List.take i [a, b]).flatten.length = (List.take i [a.length, b.length]).sum := by
    intro i hi
    rcases (show i = 0 ∨ i = 1 ∨ i = 2 by omega) with rfl | rfl | rfl <;> simp <;> omega
  have q3 : (List.take 2 [a.length, b.length]).sum = a.length + b.length := by simp
  have q4 : (List.take 2 [a, b]).flatten = a ++ b := by simp
  have q5 : (List.take 0 [a.length, b.length]).sum = 0 ∧ (List.take 0 [a, b]).flatten = [] := by simp
  generalize hN : (fun i => (List.take i [a.length, b.length]).sum) = N at *
  generalize hC : (fun i => (List.take i [a, b]).flatten) = C at *
  replace hN : ∀ i, (List.take i [a.length, b.length]).sum = N i := fun i => congrFun hN i
  replace hC : ∀ i, (List.take i [a, b]).flatten = C i := fun i => congrFun hC i
  simp only [hN, hC] at q1 q2 q3 q4 q5
  generalize hS : ([.slice f0 y0 o0 a.length 1, .slice f1 y1 o1 b.length 1] : List (AV α)) = S at *
  have hSl : S.length = 2 := by rw [← hS]; rfl
  clear hN hC hS h0 h1 b0 b1 s0 s1
  refine FnOk.intro func_slices_Concat_byte_byte call_slices_Concat_byte_byte (body := _) rfl nt_slices_Concat_byte_byte (by simp) ?_
  refine AWp.reg p_slices_Concat_byte_byte_0 [] s_slices_Concat_byte_byte_0 rfl rfl fun K hK => st_of ?_
  simp only [s_slices_Concat_byte_byte_0, wT, Bool.not_eq_true, ty, zr, Nat.reduceAdd, Nat.reduceSub, Nat.reduceMul, Nat.reduceMod, Nat.reduceDiv, Nat.reduceEqDiff, Nat.reduceLeDiff, Nat.reduceBEq, Int.reduceAdd, Int.reduceSub, Int.reduceMul, Int.reduceNeg, Int.reduceLT, Int.reduceLE, Int.reduceEq, Int.reduceNe, Int.reduceBEq, Int.reduceToNat, Int.reduceTDiv, Int.reduceTMod, Int.reduceOfNat, reduceCtorEq, sty, sui]
  refine hK _ ?_; clear hK K
  refine AWp.reg p_slices_Concat_byte_byte_1 [] s_slices_Concat_byte_byte_1 rfl rfl fun K hK => st_of ?_
  simp only [s_slices_Concat_byte_byte_1, wT, Bool.not_eq_true, ty, zr, Nat.reduceAdd, Nat.reduceSub, Nat.reduceMul, Nat.reduceMod, Nat.reduceDiv, Nat.reduceEqDiff, Nat.reduceLeDiff, Nat.reduceBEq, Int.reduceAdd, Int.reduceSub, Int.reduceMul, Int.reduceNeg, Int.reduceLT, Int.reduceLE, Int.reduceEq, Int.reduceNe, Int.reduceBEq, Int.reduceToNat, Int.reduceTDiv, Int.reduceTMod, Int.reduceOfNat, reduceCtorEq, sty, sui]
  refine hK _ ?_; clear hK K
  refine AWp.grp fun G8 hG8 => ?_
  refine AWp.reg p_slices_Concat_byte_byte_2 [] s_slices_Concat_byte_byte_2 rfl rfl fun K hK => st_of ?_
  simp only [s_slices_Concat_byte_byte_2, wT, Bool.not_eq_true, ty, zr, Nat.reduceAdd, Nat.reduceSub, Nat.reduceMul, Nat.reduceMod, Nat.reduceDiv, Nat.reduceEqDiff, Nat.reduceLeDiff, Nat.reduceBEq, Int.reduceAdd, Int.reduceSub, Int.reduceMul, Int.reduceNeg, Int.reduceLT, Int.reduceLE, Int.reduceEq, Int.reduceNe, Int.reduceBEq, Int.reduceToNat, Int.reduceTDiv, Int.reduceTMod, Int.reduceOfNat, reduceCtorEq, sty, sui]
  refine hK _ ?_; clear hK K
  refine AWp.lopX (fun i => ⟨[(0, .slice f (.ext x) 0 2 1), (3, .int .i64 (N i)), (9, .slice f (.ext x) 0 2 1), (10, .int .i64 2), (11, .int .i64 i)], []⟩) (2) ?_ fun X0 hX0 i hn0 => ?_
  · simp only [q5.1]
    exact Le.ofA
  obtain ⟨q6, q7⟩ := q2 i (by omega)
  refine AWp.reg p_slices_Concat_byte_byte_3 [] s_slices_Concat_byte_byte_3 rfl rfl fun K hK => st_of ?_
  simp only [s_slices_Concat_byte_byte_3, wT, Bool.not_eq_true, ty, zr, Nat.reduceAdd, Nat.reduceSub, Nat.reduceMul, Nat.reduceMod, Nat.reduceDiv, Nat.reduceEqDiff, Nat.reduceLeDiff, Nat.reduceBEq, Int.reduceAdd, Int.reduceSub, Int.reduceMul, Int.reduceNeg, Int.reduceLT, Int.reduceLE, Int.reduceEq, Int.reduceNe, Int.reduceBEq, Int.reduceToNat, Int.reduceTDiv, Int.reduceTMod, Int.reduceOfNat, reduceCtorEq, sty, sui]
  refine hK _ ?_; clear hK K
  refine AWp.test rfl (fun hb => ?_) (fun hb => ?_)
  · try simp only [decide_eq_true_eq, decide_eq_false_iff_not, beq_iff_eq, bne_iff_ne, ne_eq, Bool.not_eq_true, beq_eq_false_iff_ne, bne_eq_false_iff_eq, Bool.not_eq_false, Bool.not_eq_eq_eq_not, Bool.not_true, Bool.not_false] at hb
    obtain ⟨fi, yi, oi, li, ci, p1, p2, p3, p4, p5, p6, p7⟩ := q1 i (by omega)
    refine AWp.blk fun Y1 hY1 => ?_
    refine AWp.reg p_slices_Concat_byte_byte_4 [] s_slices_Concat_byte_byte_4 rfl rfl fun K hK => st_of ?_
    simp only [s_slices_Concat_byte_byte_4, wT, Bool.not_eq_true, ty, zr, Nat.reduceAdd, Nat.reduceSub, Nat.reduceMul, Nat.reduceMod, Nat.reduceDiv, Nat.reduceEqDiff, Nat.reduceLeDiff, Nat.reduceBEq, Int.reduceAdd, Int.reduceSub, Int.reduceMul, Int.reduceNeg, Int.reduceLT, Int.reduceLE, Int.reduceEq, Int.reduceNe, Int.reduceBEq, Int.reduceToNat, Int.reduceTDiv, Int.reduceTMod, Int.reduceOfNat, reduceCtorEq, sty, sui]
    simp only [hx, Option.map_some, Row.map, Row.cell, Row.len, mapL_getD, mapL_len, hSl, p1, wT, Bool.not_eq_true, ty, zr, Nat.reduceAdd, Nat.reduceSub, Nat.reduceMul, Nat.reduceMod, Nat.reduceDiv, Nat.reduceEqDiff, Nat.reduceLeDiff, Nat.reduceBEq, Int.reduceAdd, Int.reduceSub, Int.reduceMul, Int.reduceNeg, Int.reduceLT, Int.reduceLE, Int.reduceEq, Int.reduceNe, Int.reduceBEq, Int.reduceToNat, Int.reduceTDiv, Int.reduceTMod, Int.reduceOfNat, reduceCtorEq, sty, sui]
    (repeat ((with_reducible refine And.intro ?_ ?_); (first | omega | exact True.intro | with_reducible rfl | decide | assumption | rfl)))
    refine hK _ ?_; clear hK K
    refine AWp.reg p_slices_Concat_byte_byte_5 [] s_slices_Concat_byte_byte_5 rfl rfl fun K hK => st_of ?_
    simp only [s_slices_Concat_byte_byte_5, wT, Bool.not_eq_true, ty, zr, Nat.reduceAdd, Nat.reduceSub, Nat.reduceMul, Nat.reduceMod, Nat.reduceDiv, Nat.reduceEqDiff, Nat.reduceLeDiff, Nat.reduceBEq, Int.reduceAdd, Int.reduceSub, Int.reduceMul, Int.reduceNeg, Int.reduceLT, Int.reduceLE, Int.reduceEq, Int.reduceNe, Int.reduceBEq, Int.reduceToNat, Int.reduceTDiv, Int.reduceTMod, Int.reduceOfNat, reduceCtorEq, sty, sui]
    try simp (disch := first | omega | (simp only [List.length_set, List.length_replicate, List.length_append, List.length_nil]; first | done | omega)) only [aT, Int.reduceToNat, List.length_set, List.length_replicate, List.length_append, List.length_nil]
    refine hK _ ?_; clear hK K
    refine AWp.reg p_slices_Concat_byte_byte_6 [] s_slices_Concat_byte_byte_6 rfl rfl fun K hK => st_of ?_
    simp only [s_slices_Concat_byte_byte_6, wT, Bool.not_eq_true, ty, zr, Nat.reduceAdd, Nat.reduceSub, Nat.reduceMul, Nat.reduceMod, Nat.reduceDiv, Nat.reduceEqDiff, Nat.reduceLeDiff, Nat.reduceBEq, Int.reduceAdd, Int.reduceSub, Int.reduceMul, Int.reduceNeg, Int.reduceLT, Int.reduceLE, Int.reduceEq, Int.reduceNe, Int.reduceBEq, Int.reduceToNat, Int.reduceTDiv, Int.reduceTMod, Int.reduceOfNat, reduceCtorEq, sty, sui]
    refine hK _ ?_; clear hK K
    refine AWp.iteE rfl (fun hb => ?_) (fun hb => ?_)
    · try simp only [decide_eq_true_eq, decide_eq_false_iff_not, beq_iff_eq, bne_iff_ne, ne_eq, Bool.not_eq_true, beq_eq_false_iff_ne, bne_eq_false_iff_eq, Bool.not_eq_false, Bool.not_eq_eq_eq_not, Bool.not_true, Bool.not_false] at hb
      (first | exact absurd trivial hb | exact absurd rfl hb | cases hb | (exfalso; omega) | (simp at hb; done))
    · try simp only [decide_eq_true_eq, decide_eq_false_iff_not, beq_iff_eq, bne_iff_ne, ne_eq, Bool.not_eq_true, beq_eq_false_iff_ne, bne_eq_false_iff_eq, Bool.not_eq_false, Bool.not_eq_eq_eq_not, Bool.not_true, Bool.not_false] at hb
      refine AWp.skip ?_
      try simp only [thenQ, bq, lq, lf, iq, gq, Nat.reduceEqDiff, if_true, if_false]
      refine hY1 _ ?_
      try clear hY1 Y1
      refine AWp.regE p_slices_Concat_byte_byte_8 [] s_slices_Concat_byte_byte_8 rfl rfl (st_of ?_)
      simp only [s_slices_Concat_byte_byte_8, wT, Bool.not_eq_true, ty, zr, Nat.reduceAdd, Nat.reduceSub, Nat.reduceMul, Nat.reduceMod, Nat.reduceDiv, Nat.reduceEqDiff, Nat.reduceLeDiff, Nat.reduceBEq, Int.reduceAdd, Int.reduceSub, Int.reduceMul, Int.reduceNeg, Int.reduceLT, Int.reduceLE, Int.reduceEq, Int.reduceNe, Int.reduceBEq, Int.reduceToNat, Int.reduceTDiv, Int.reduceTMod, Int.reduceOfNat, reduceCtorEq, sty, sui]
      try simp (disch := first | omega | (simp only [List.length_set, List.length_replicate, List.length_append, List.length_nil]; first | done | omega)) only [aT, Int.reduceToNat, List.length_set, List.length_replicate, List.length_append, List.length_nil]
      try simp only [thenQ, bq, lq, lf, iq, gq, Nat.reduceEqDiff, if_true, if_false]
      simp only [p6]
      first | exact ⟨by omega, Le.ofA⟩ | exact Le.ofA
  · try simp only [decide_eq_true_eq, decide_eq_false_iff_not, beq_iff_eq, bne_iff_ne, ne_eq, Bool.not_eq_true, beq_eq_false_iff_ne, bne_eq_false_iff_eq, Bool.not_eq_false, Bool.not_eq_eq_eq_not, Bool.not_true, Bool.not_false] at hb
    try simp only [thenQ, bq, lq, lf, iq, gq, Nat.reduceEqDiff, if_true, if_false]
    refine hX0 _ ?_
    try clear hX0 X0
    rw [show i = 2 by omega, q3]
    try simp only [thenQ, bq, lq, lf, iq, gq, Nat.reduceEqDiff, if_true, if_false]
    refine hG8 _ ?_
    try clear hG8 G8
    refine AWp.reg p_slices_Concat_byte_byte_9 [] s_slices_Concat_byte_byte_9 rfl rfl fun K hK => st_of ?_
    simp only [s_slices_Concat_byte_byte_9, wT, Bool.not_eq_true, ty, zr, Nat.reduceAdd, Nat.reduceSub, Nat.reduceMul, Nat.reduceMod, Nat.reduceDiv, Nat.reduceEqDiff, Nat.reduceLeDiff, Nat.reduceBEq, Int.reduceAdd, Int.reduceSub, Int.reduceMul, Int.reduceNeg, Int.reduceLT, Int.reduceLE, Int.reduceEq, Int.reduceNe, Int.reduceBEq, Int.reduceToNat, Int.reduceTDiv, Int.reduceTMod, Int.reduceOfNat, reduceCtorEq, sty, sui]
    refine st_call fun K1 hK1 => ?_
    simp only [calleeC, wT, Bool.not_eq_true, ty, zr, Nat.reduceAdd, Nat.reduceSub, Nat.reduceMul, Nat.reduceMod, Nat.reduceDiv, Nat.reduceEqDiff, Nat.reduceLeDiff, Nat.reduceBEq, Int.reduceAdd, Int.reduceSub, Int.reduceMul, Int.reduceNeg, Int.reduceLT, Int.reduceLE, Int.reduceEq, Int.reduceNe, Int.reduceBEq, Int.reduceToNat, Int.reduceTDiv, Int.reduceTMod, Int.reduceOfNat, reduceCtorEq, sty, sui]
    refine hK1 _ _ ?_
    clear hK1 K1
    simp only [CallTo, AV.mapL, AV.map, mapL_flat, mapL_flat1]
    refine ⟨_, _, grow_ok _ (a.length + b.length) (by omega) (by omega), ?_⟩
    simp only [wT, Bool.not_eq_true, ty, zr, Nat.reduceAdd, Nat.reduceSub, Nat.reduceMul, Nat.reduceMod, Nat.reduceDiv, Nat.reduceEqDiff, Nat.reduceLeDiff, Nat.reduceBEq, Int.reduceAdd, Int.reduceSub, Int.reduceMul, Int.reduceNeg, Int.reduceLT, Int.reduceLE, Int.reduceEq, Int.reduceNe, Int.reduceBEq, Int.reduceToNat, Int.reduceTDiv, Int.reduceTMod, Int.reduceOfNat, reduceCtorEq, sty, sui]
    refine hK _ ?_; clear hK K
    refine AWp.grp fun G72 hG72 => ?_
    refine AWp.reg p_slices_Concat_byte_byte_10 [] s_slices_Concat_byte_byte_10 rfl rfl fun K hK => st_of ?_
    simp only [s_slices_Concat_byte_byte_10, wT, Bool.not_eq_true, ty, zr, Nat.reduceAdd, Nat.reduceSub, Nat.reduceMul, Nat.reduceMod, Nat.reduceDiv, Nat.reduceEqDiff, Nat.reduceLeDiff, Nat.reduceBEq, Int.reduceAdd, Int.reduceSub, Int.reduceMul, Int.reduceNeg, Int.reduceLT, Int.reduceLE, Int.reduceEq, Int.reduceNe, Int.reduceBEq, Int.reduceToNat, Int.reduceTDiv, Int.reduceTMod, Int.reduceOfNat, reduceCtorEq, sty, sui]
    refine hK _ ?_; clear hK K
    refine AWp.lopX (fun i => ⟨[(0, .slice f (.ext x) 0 2 1), (6, .slice true (.own 0) 0 (N i) 1), (25, .slice f (.ext x) 0 2 1), (26, .int .i64 2), (27, .int .i64 i)], [some (.ints .u8 (C i))]⟩) (2) ?_ fun X2 hX2 i hn2 => ?_
    · refine Le.trans (Le.cut 0 rfl 0) ?_
      simp only [q5.1, q5.2, List.take_zero, List.set_cons_zero]
      exact Le.ofA
    obtain ⟨q6, q7⟩ := q2 i (by omega)
    refine AWp.reg p_slices_Concat_byte_byte_11 [] s_slices_Concat_byte_byte_11 rfl rfl fun K hK => st_of ?_
    simp only [s_slices_Concat_byte_byte_11, wT, Bool.not_eq_true, ty, zr, Nat.reduceAdd, Nat.reduceSub, Nat.reduceMul, Nat.reduceMod, Nat.reduceDiv, Nat.reduceEqDiff, Nat.reduceLeDiff, Nat.reduceBEq, Int.reduceAdd, Int.reduceSub, Int.reduceMul, Int.reduceNeg, Int.reduceLT, Int.reduceLE, Int.reduceEq, Int.reduceNe, Int.reduceBEq, Int.reduceToNat, Int.reduceTDiv, Int.reduceTMod, Int.reduceOfNat, reduceCtorEq, sty, sui]
    refine hK _ ?_; clear hK K
    refine AWp.test rfl (fun hb => ?_) (fun hb => ?_)
    · try simp only [decide_eq_true_eq, decide_eq_false_iff_not, beq_iff_eq, bne_iff_ne, ne_eq, Bool.not_eq_true, beq_eq_false_iff_ne, bne_eq_false_iff_eq, Bool.not_eq_false, Bool.not_eq_eq_eq_not, Bool.not_true, Bool.not_false] at hb
      obtain ⟨fi, yi, oi, li, ci, p1, p2, p3, p4, p5, p6, p7⟩ := q1 i (by omega)
      refine AWp.blk fun Y3 hY3 => ?_
      refine AWp.reg p_slices_Concat_byte_byte_12 [] s_slices_Concat_byte_byte_12 rfl rfl fun K hK => st_of ?_
      simp only [s_slices_Concat_byte_byte_12, wT, Bool.not_eq_true, ty, zr, Nat.reduceAdd, Nat.reduceSub, Nat.reduceMul, Nat.reduceMod, Nat.reduceDiv, Nat.reduceEqDiff, Nat.reduceLeDiff, Nat.reduceBEq, Int.reduceAdd, Int.reduceSub, Int.reduceMul, Int.reduceNeg, Int.reduceLT, Int.reduceLE, Int.reduceEq, Int.reduceNe, Int.reduceBEq, Int.reduceToNat, Int.reduceTDiv, Int.reduceTMod, Int.reduceOfNat, reduceCtorEq, sty, sui]
      simp only [hx, Option.map_some, Row.map, Row.cell, Row.len, mapL_getD, mapL_len, hSl, p1, wT, Bool.not_eq_true, ty, zr, Nat.reduceAdd, Nat.reduceSub, Nat.reduceMul, Nat.reduceMod, Nat.reduceDiv, Nat.reduceEqDiff, Nat.reduceLeDiff, Nat.reduceBEq, Int.reduceAdd, Int.reduceSub, Int.reduceMul, Int.reduceNeg, Int.reduceLT, Int.reduceLE, Int.reduceEq, Int.reduceNe, Int.reduceBEq, Int.reduceToNat, Int.reduceTDiv, Int.reduceTMod, Int.reduceOfNat, reduceCtorEq, sty, sui]
      (repeat ((with_reducible refine And.intro ?_ ?_); (first | omega | exact True.intro | with_reducible rfl | decide | assumption | rfl)))
      refine hK _ ?_; clear hK K
      refine AWp.regE p_slices_Concat_byte_byte_13 [] s_slices_Concat_byte_byte_13 rfl rfl (st_of ?_)
      simp only [s_slices_Concat_byte_byte_13, wT, Bool.not_eq_true, ty, zr, Nat.reduceAdd, Nat.reduceSub, Nat.reduceMul, Nat.reduceMod, Nat.reduceDiv, Nat.reduceEqDiff, Nat.reduceLeDiff, Nat.reduceBEq, Int.reduceAdd, Int.reduceSub, Int.reduceMul, Int.reduceNeg, Int.reduceLT, Int.reduceLE, Int.reduceEq, Int.reduceNe, Int.reduceBEq, Int.reduceToNat, Int.reduceTDiv, Int.reduceTMod, Int.reduceOfNat, reduceCtorEq, sty, sui]
      try simp (disch := first | omega | (simp only [List.length_set, List.length_replicate, List.length_append, List.length_nil]; first | done | omega)) only [aT, Int.reduceToNat, List.length_set, List.length_replicate, List.length_append, List.length_nil]
      simp only [p2, p4, Option.map_some, wT, Bool.not_eq_true, ty, zr, Nat.reduceAdd, Nat.reduceSub, Nat.reduceMul, Nat.reduceMod, Nat.reduceDiv, Nat.reduceEqDiff, Nat.reduceLeDiff, Nat.reduceBEq, Int.reduceAdd, Int.reduceSub, Int.reduceMul, Int.reduceNeg, Int.reduceLT, Int.reduceLE, Int.reduceEq, Int.reduceNe, Int.reduceBEq, Int.reduceToNat, Int.reduceTDiv, Int.reduceTMod, Int.reduceOfNat, reduceCtorEq, sty, sui]
      (repeat ((with_reducible refine And.intro ?_ ?_); (first | omega | exact True.intro | with_reducible rfl | decide | assumption | rfl)))
      try simp only [thenQ, bq, lq, lf, iq, gq, Nat.reduceEqDiff, if_true, if_false]
      refine hY3 _ ?_
      try clear hY3 Y3
      refine AWp.regE p_slices_Concat_byte_byte_14 [] s_slices_Concat_byte_byte_14 rfl rfl (st_of ?_)
      simp only [s_slices_Concat_byte_byte_14, wT, Bool.not_eq_true, ty, zr, Nat.reduceAdd, Nat.reduceSub, Nat.reduceMul, Nat.reduceMod, Nat.reduceDiv, Nat.reduceEqDiff, Nat.reduceLeDiff, Nat.reduceBEq, Int.reduceAdd, Int.reduceSub, Int.reduceMul, Int.reduceNeg, Int.reduceLT, Int.reduceLE, Int.reduceEq, Int.reduceNe, Int.reduceBEq, Int.reduceToNat, Int.reduceTDiv, Int.reduceTMod, Int.reduceOfNat, reduceCtorEq, sty, sui]
      try simp (disch := first | omega | (simp only [List.length_set, List.length_replicate, List.length_append, List.length_nil]; first | done | omega)) only [aT, Int.reduceToNat, List.length_set, List.length_replicate, List.length_append, List.length_nil]
      try simp only [thenQ, bq, lq, lf, iq, gq, Nat.reduceEqDiff, if_true, if_false]
      simp only [p6, p7]
      first | exact ⟨by omega, Le.sel [1] (by decide) (by simp) rfl (by simp only [selTm, tget, AV.map, AV.mapL, renS, AV.All, AV.AllL, inS, Nat.reduceEqDiff, if_true, if_false]; repeat' (first | exact trivial | rfl | assumption | apply And.intro | simp [mapL_flat, mapL_flat1, allL_flat, allL_flat1])) (by simp only [selRows, selRow, Row.map, Row.All, AV.AllL, AV.All, inS]; repeat' (first | exact trivial | rfl | assumption | apply And.intro | simp [mapL_flat, mapL_flat1, allL_flat, allL_flat1]))⟩ | exact Le.sel [1] (by decide) (by simp) rfl (by simp only [selTm, tget, AV.map, AV.mapL, renS, AV.All, AV.AllL, inS, Nat.reduceEqDiff, if_true, if_false]; repeat' (first | exact trivial | rfl | assumption | apply And.intro | simp [mapL_flat, mapL_flat1, allL_flat, allL_flat1])) (by simp only [selRows, selRow, Row.map, Row.All, AV.AllL, AV.All, inS]; repeat' (first | exact trivial | rfl | assumption | apply And.intro | simp [mapL_flat, mapL_flat1, allL_flat, allL_flat1]))
    · try simp only [decide_eq_true_eq, decide_eq_false_iff_not, beq_iff_eq, bne_iff_ne, ne_eq, Bool.not_eq_true, beq_eq_false_iff_ne, bne_eq_false_iff_eq, Bool.not_eq_false, Bool.not_eq_eq_eq_not, Bool.not_true, Bool.not_false] at hb
      try simp only [thenQ, bq, lq, lf, iq, gq, Nat.reduceEqDiff, if_true, if_false]
      refine hX2 _ ?_
      try clear hX2 X2
      rw [show i = 2 by omega, q3, q4]
      try simp only [thenQ, bq, lq, lf, iq, gq, Nat.reduceEqDiff, if_true, if_false]
      refine hG72 _ ?_
      try clear hG72 G72
      refine AWp.reg p_slices_Concat_byte_byte_15 [] s_slices_Concat_byte_byte_15 rfl rfl fun K hK => st_of ?_
      simp only [s_slices_Concat_byte_byte_15, wT, Bool.not_eq_true, ty, zr, Nat.reduceAdd, Nat.reduceSub, Nat.reduceMul, Nat.reduceMod, Nat.reduceDiv, Nat.reduceEqDiff, Nat.reduceLeDiff, Nat.reduceBEq, Int.reduceAdd, Int.reduceSub, Int.reduceMul, Int.reduceNeg, Int.reduceLT, Int.reduceLE, Int.reduceEq, Int.reduceNe, Int.reduceBEq, Int.reduceToNat, Int.reduceTDiv, Int.reduceTMod, Int.reduceOfNat, reduceCtorEq, sty, sui]
      refine hK _ ?_; clear hK K
      refine AWp.ret ?_
      try simp only [thenQ, bq, lq, lf, iq, gq, Nat.reduceEqDiff, if_true, if_false]
      simp only [endQ, rs_slices_Concat_byte_byte, resC, one, wT, Bool.not_eq_true, ty, zr, Nat.reduceAdd, Nat.reduceSub, Nat.reduceMul, Nat.reduceMod, Nat.reduceDiv, Nat.reduceEqDiff, Nat.reduceLeDiff, Nat.reduceBEq, Int.reduceAdd, Int.reduceSub, Int.reduceMul, Int.reduceNeg, Int.reduceLT, Int.reduceLE, Int.reduceEq, Int.reduceNe, Int.reduceBEq, Int.reduceToNat, Int.reduceTDiv, Int.reduceTMod, Int.reduceOfNat, reduceCtorEq, sty, sui]
      refine ⟨[0], by decide, by simp, by rfl, ?_⟩; (repeat' (first | exact trivial | rfl | omega | apply And.intro | (simp [AV.All, AV.AllL, inS, AV.map, AV.mapL, renS, selRows, selRow, Row.map, Row.All, mapL_flat, mapL_flat1, allL_flat, allL_flat1]; done)))

theorem concat2_J {α : Type} (E : α → Option (Row α)) (x y0 y1 : α) (f0 f1 : Bool) (o0 o1 n0 n1 : Nat) (l0 l1 a b J : List Int) (hJ : a ++ b = J) (e0 : a.length = n0) (e1 : b.length = n1) (hx : E x = some (.mixed [.slice f0 y0 o0 n0 1, .slice f1 y1 o1 n1 1])) (h0 : E y0 = some (.ints .u8 l0)) (h1 : E y1 = some (.ints .u8 l1))
    (b0 : o0 + n0 ≤ l0.length) (b1 : o1 + n1 ≤ l1.length) (s0 : sub l0 o0 n0 = a) (s1 : sub l1 o1 n1 = b) (ha : 0 < n0) (hl : n0 + n1 ≤ 1099511627776) (f : Bool) :
    FnOk Try.prog n_slices_Concat_byte_byte E [.slice f (.ext x) 0 2 1] [] (.slice true (.own 0) 0 J.length 1) [some (.ints .u8 J)] := by
  subst hJ e0 e1
  rw [List.length_append]
  exact concat2_ok E x y0 y1 f0 f1 o0 o1 l0 l1 a b hx h0 h1 b0 b1 s0 s1 ha hl f
theorem half_ok {α : Type} (E : α → Option (Row α)) (k : List Int) (hk : k.length = 32) : FnOk Try.prog n_seal_half E [.ints .u8 k] [] (.ints .u8 (sub k 0 16)) [] := by
  have hsl : (sub k 0 16).length = 16 := Sy.length_sub (by omega)
  refine FnOk.pure func_seal_half call_seal_half (body := _) rfl nt_seal_half (by simp) (by simp [AV.solid, AV.solidL]) ?_
  refine AWp.reg p_seal_half_0 [] s_seal_half_0 rfl rfl fun K hK => st_of ?_
  simp only [s_seal_half_0, wT, Bool.not_eq_true, ty, zr, Nat.reduceAdd, Nat.reduceSub, Nat.reduceMul, Nat.reduceMod, Nat.reduceDiv, Nat.reduceEqDiff, Nat.reduceLeDiff, Nat.reduceBEq, Int.reduceAdd, Int.reduceSub, Int.reduceMul, Int.reduceNeg, Int.reduceLT, Int.reduceLE, Int.reduceEq, Int.reduceNe, Int.reduceBEq, Int.reduceToNat, Int.reduceTDiv, Int.reduceTMod, Int.reduceOfNat, reduceCtorEq, sty, sui]
  refine hK _ ?_; clear hK K
  refine AWp.reg p_seal_half_1 [] s_seal_half_1 rfl rfl fun K hK => st_of ?_
  simp only [s_seal_half_1, wT, Bool.not_eq_true, ty, zr, Nat.reduceAdd, Nat.reduceSub, Nat.reduceMul, Nat.reduceMod, Nat.reduceDiv, Nat.reduceEqDiff, Nat.reduceLeDiff, Nat.reduceBEq, Int.reduceAdd, Int.reduceSub, Int.reduceMul, Int.reduceNeg, Int.reduceLT, Int.reduceLE, Int.reduceEq, Int.reduceNe, Int.reduceBEq, Int.reduceToNat, Int.reduceTDiv, Int.reduceTMod, Int.reduceOfNat, reduceCtorEq, sty, sui]
  try simp (disch := first | omega | (simp only [List.length_set, List.length_replicate, List.length_append, List.length_nil]; first | done | omega)) only [aT, Int.reduceToNat, List.length_set, List.length_replicate, List.length_append, List.length_nil]
  (repeat ((with_reducible refine And.intro ?_ ?_); (first | omega | exact True.intro | with_reducible rfl | decide | assumption | rfl)))
  refine hK _ ?_; clear hK K
  refine AWp.ret ?_
  try simp only [thenQ, bq, lq, lf, iq, gq, Nat.reduceEqDiff, if_true, if_false]
  simp only [endQ, rs_seal_half, resC, one, wT, Bool.not_eq_true, ty, zr, Nat.reduceAdd, Nat.reduceSub, Nat.reduceMul, Nat.reduceMod, Nat.reduceDiv, Nat.reduceEqDiff, Nat.reduceLeDiff, Nat.reduceBEq, Int.reduceAdd, Int.reduceSub, Int.reduceMul, Int.reduceNeg, Int.reduceLT, Int.reduceLE, Int.reduceEq, Int.reduceNe, Int.reduceBEq, Int.reduceToNat, Int.reduceTDiv, Int.reduceTMod, Int.reduceOfNat, reduceCtorEq, sty, sui]
  try simp (disch := first | omega | (simp only [List.length_set, List.length_replicate, List.length_append, List.length_nil]; first | done | omega)) only [aT, Int.reduceToNat, List.length_set, List.length_replicate, List.length_append, List.length_nil]
  repeat' (first | exact True.intro | (with_reducible rfl) | (with_reducible apply And.intro) | omega | rfl)
theorem chain_ok {α : Type} (E : α → Option (Row α)) (p : List Int) (hp : p.length = 16) (x : α) (l b : List Int) (hx : E x = some (.ints .u8 l)) (o : Nat) (ho : o + b.length ≤ l.length) (hs : sub l o b.length = b) (hl : b.length ≤ 1099511627) (f : Bool) :
    FnOk Try.prog n_seal_Chain E [.ints .u8 p, .slice f (.ext x) o b.length 1] [] (.ints .u8 (sub (sumL (p ++ b)) 0 16)) [] := by
  have hpb : (p ++ b).length = 16 + b.length := by rw [List.length_append, hp]
  have hsp : sub p 0 16 = p := sub_all hp
  generalize hJ : p ++ b = J at *
  have hsl := sumL_len J
  have hsl2 : (sub (sumL J) 0 16).length = 16 := Sy.length_sub (by omega)
  refine FnOk.pure func_seal_Chain call_seal_Chain (body := _) rfl nt_seal_Chain (by simp) (by simp [AV.solid, AV.solidL]) ?_
  refine AWp.reg p_seal_Chain_0 [] s_seal_Chain_0 rfl rfl fun K hK => st_of ?_
  simp only [s_seal_Chain_0, wT, Bool.not_eq_true, ty, zr, Nat.reduceAdd, Nat.reduceSub, Nat.reduceMul, Nat.reduceMod, Nat.reduceDiv, Nat.reduceEqDiff, Nat.reduceLeDiff, Nat.reduceBEq, Int.reduceAdd, Int.reduceSub, Int.reduceMul, Int.reduceNeg, Int.reduceLT, Int.reduceLE, Int.reduceEq, Int.reduceNe, Int.reduceBEq, Int.reduceToNat, Int.reduceTDiv, Int.reduceTMod, Int.reduceOfNat, reduceCtorEq, sty, sui]
  refine hK _ ?_; clear hK K
  refine AWp.reg p_seal_Chain_1 [] s_seal_Chain_1 rfl rfl fun K hK => st_of ?_
  simp only [s_seal_Chain_1, wT, Bool.not_eq_true, ty, zr, Nat.reduceAdd, Nat.reduceSub, Nat.reduceMul, Nat.reduceMod, Nat.reduceDiv, Nat.reduceEqDiff, Nat.reduceLeDiff, Nat.reduceBEq, Int.reduceAdd, Int.reduceSub, Int.reduceMul, Int.reduceNeg, Int.reduceLT, Int.reduceLE, Int.reduceEq, Int.reduceNe, Int.reduceBEq, Int.reduceToNat, Int.reduceTDiv, Int.reduceTMod, Int.reduceOfNat, reduceCtorEq, sty, sui]
  (repeat ((with_reducible refine And.intro ?_ ?_); (first | omega | exact True.intro | with_reducible rfl | decide | assumption | rfl)))
  refine st_call fun K1 hK1 => ?_
  simp only [calleeC, wT, Bool.not_eq_true, ty, zr, Nat.reduceAdd, Nat.reduceSub, Nat.reduceMul, Nat.reduceMod, Nat.reduceDiv, Nat.reduceEqDiff, Nat.reduceLeDiff, Nat.reduceBEq, Int.reduceAdd, Int.reduceSub, Int.reduceMul, Int.reduceNeg, Int.reduceLT, Int.reduceLE, Int.reduceEq, Int.reduceNe, Int.reduceBEq, Int.reduceToNat, Int.reduceTDiv, Int.reduceTMod, Int.reduceOfNat, reduceCtorEq, sty, sui]
  refine hK1 _ _ ?_
  clear hK1 K1
  simp only [CallTo, AV.mapL, AV.map, mapL_flat, mapL_flat1]
  refine ⟨_, _, concat2_J _ _ _ _ _ _ _ _ _ _ p l p b J hJ hp rfl rfl rfl (by simp only [Sy.look, hx, Option.map_some, Row.map]) (by omega) (by omega) hsp hs (by omega) (by omega) _, ?_⟩
  simp only [wT, Bool.not_eq_true, ty, zr, Nat.reduceAdd, Nat.reduceSub, Nat.reduceMul, Nat.reduceMod, Nat.reduceDiv, Nat.reduceEqDiff, Nat.reduceLeDiff, Nat.reduceBEq, Int.reduceAdd, Int.reduceSub, Int.reduceMul, Int.reduceNeg, Int.reduceLT, Int.reduceLE, Int.reduceEq, Int.reduceNe, Int.reduceBEq, Int.reduceToNat, Int.reduceTDiv, Int.reduceTMod, Int.reduceOfNat, reduceCtorEq, sty, sui]
  refine st_call fun K1 hK1 => ?_
  simp only [calleeC, wT, Bool.not_eq_true, ty, zr, Nat.reduceAdd, Nat.reduceSub, Nat.reduceMul, Nat.reduceMod, Nat.reduceDiv, Nat.reduceEqDiff, Nat.reduceLeDiff, Nat.reduceBEq, Int.reduceAdd, Int.reduceSub, Int.reduceMul, Int.reduceNeg, Int.reduceLT, Int.reduceLE, Int.reduceEq, Int.reduceNe, Int.reduceBEq, Int.reduceToNat, Int.reduceTDiv, Int.reduceTMod, Int.reduceOfNat, reduceCtorEq, sty, sui]
  refine hK1 _ _ ?_
  clear hK1 K1
  simp only [CallTo, AV.mapL, AV.map, mapL_flat, mapL_flat1]
  refine ⟨_, _, sum_ok _ _ J J rfl 0 (by omega) (sub_all rfl) (by omega) _, ?_⟩
  simp only [wT, Bool.not_eq_true, ty, zr, Nat.reduceAdd, Nat.reduceSub, Nat.reduceMul, Nat.reduceMod, Nat.reduceDiv, Nat.reduceEqDiff, Nat.reduceLeDiff, Nat.reduceBEq, Int.reduceAdd, Int.reduceSub, Int.reduceMul, Int.reduceNeg, Int.reduceLT, Int.reduceLE, Int.reduceEq, Int.reduceNe, Int.reduceBEq, Int.reduceToNat, Int.reduceTDiv, Int.reduceTMod, Int.reduceOfNat, reduceCtorEq, sty, sui]
  refine st_call fun K1 hK1 => ?_
  simp only [calleeC, wT, Bool.not_eq_true, ty, zr, Nat.reduceAdd, Nat.reduceSub, Nat.reduceMul, Nat.reduceMod, Nat.reduceDiv, Nat.reduceEqDiff, Nat.reduceLeDiff, Nat.reduceBEq, Int.reduceAdd, Int.reduceSub, Int.reduceMul, Int.reduceNeg, Int.reduceLT, Int.reduceLE, Int.reduceEq, Int.reduceNe, Int.reduceBEq, Int.reduceToNat, Int.reduceTDiv, Int.reduceTMod, Int.reduceOfNat, reduceCtorEq, sty, sui]
  refine hK1 _ _ ?_
  clear hK1 K1
  simp only [CallTo, AV.mapL, AV.map, mapL_flat, mapL_flat1]
  refine ⟨_, _, half_ok _ _ hsl, ?_⟩
  simp only [wT, Bool.not_eq_true, ty, zr, Nat.reduceAdd, Nat.reduceSub, Nat.reduceMul, Nat.reduceMod, Nat.reduceDiv, Nat.reduceEqDiff, Nat.reduceLeDiff, Nat.reduceBEq, Int.reduceAdd, Int.reduceSub, Int.reduceMul, Int.reduceNeg, Int.reduceLT, Int.reduceLE, Int.reduceEq, Int.reduceNe, Int.reduceBEq, Int.reduceToNat, Int.reduceTDiv, Int.reduceTMod, Int.reduceOfNat, reduceCtorEq, sty, sui]
  try simp (disch := first | omega | (simp only [List.length_set, List.length_replicate, List.length_append, List.length_nil]; first | done | omega)) only [aT, Int.reduceToNat, List.length_set, List.length_replicate, List.length_append, List.length_nil]
  (repeat ((with_reducible refine And.intro ?_ ?_); (first | omega | exact True.intro | with_reducible rfl | decide | assumption | rfl)))
  refine hK _ ?_; clear hK K
  refine AWp.ret ?_
  try simp only [thenQ, bq, lq, lf, iq, gq, Nat.reduceEqDiff, if_true, if_false]
  simp only [endQ, rs_seal_Chain, resC, one, wT, Bool.not_eq_true, ty, zr, Nat.reduceAdd, Nat.reduceSub, Nat.reduceMul, Nat.reduceMod, Nat.reduceDiv, Nat.reduceEqDiff, Nat.reduceLeDiff, Nat.reduceBEq, Int.reduceAdd, Int.reduceSub, Int.reduceMul, Int.reduceNeg, Int.reduceLT, Int.reduceLE, Int.reduceEq, Int.reduceNe, Int.reduceBEq, Int.reduceToNat, Int.reduceTDiv, Int.reduceTMod, Int.reduceOfNat, reduceCtorEq, sty, sui]
  try simp (disch := first | omega | (simp only [List.length_set, List.length_replicate, List.length_append, List.length_nil]; first | done | omega)) only [aT, Int.reduceToNat, List.length_set, List.length_replicate, List.length_append, List.length_nil]
  repeat' (first | exact True.intro | (with_reducible rfl) | (with_reducible apply And.intro) | omega | rfl)
end Go.Proofs.Ytdcbgmbpiekbgaa
