/- Contracts: the document's sums under a key. -/
import Derived.Test.YtbnjeafjnglldaaSea1
import Derived.Test.YtbnjeafjnglldaaSha5
namespace Go.Proofs.Ytbnjeafjnglldaa
open Go Go.Proofs.Ytbnjeafjnglldaa.Sy
set_option linter.unusedSimpArgs false
set_option linter.unusedVariables false
set_option maxRecDepth 100000
set_option maxHeartbeats 4000000


theorem take_snoc {k : List Int} {i : Nat} (h : i < k.length) : k.take i ++ [k.getD i 0] = k.take (i + 1) := by
  rw [List.take_add_one, List.getD_eq_getElem?_getD, List.getElem?_eq_getElem h]; rfl
def fillN (n : Nat) (k : List Int) (i : Nat) : List Int := k.take i ++ List.replicate (n - i) 0
theorem fillN_len (n : Nat) (k : List Int) (i : Nat) (hk : n ≤ k.length) (hi : i ≤ n) : (fillN n k i).length = n := by
  simp [fillN]; omega
theorem fillN_zero (n : Nat) (k : List Int) : fillN n k 0 = List.replicate n 0 := by simp [fillN]
theorem fillN_all (n : Nat) (k : List Int) : fillN n k n = k.take n := by simp [fillN]
theorem fillN_succ (n : Nat) (k : List Int) (i : Nat) (hk : n ≤ k.length) (hi : i < n) : (fillN n k i).set i (k.getD i 0) = fillN n k (i + 1) := by
  unfold fillN
  rw [← take_snoc (show i < k.length by omega), List.append_assoc, show n - i = (n - (i + 1)) + 1 by omega, List.replicate_succ, List.set_append_right _ _ (by simp; omega)]
  have : (k.take i).length = i := by simp; omega
  rw [this, Nat.sub_self]
  rfl

theorem firstS_ok {α : Type} (E : α → Option (Row α)) (k : List Int) (hk : k.length = 32) : FnOk Try.prog n_ref04_first E [.ints .u8 k] [] (.ints .u8 (sub k 0 16)) [] := by
  have hsl : (sub k 0 16).length = 16 := Sy.length_sub (by omega)
  have hst : k.take 16 = sub k 0 16 := by simp [sub]
  refine FnOk.pure func_ref04_first call_ref04_first (body := _) rfl nt_ref04_first (by simp) (by simp [AV.solid, AV.solidL]) ?_
  refine AWp.reg p_ref04_first_0 [] s_ref04_first_0 rfl rfl fun K hK => st_of ?_
  simp only [s_ref04_first_0, wT, Bool.not_eq_true, ty, zr, Nat.reduceAdd, Nat.reduceSub, Nat.reduceMul, Nat.reduceMod, Nat.reduceDiv, Nat.reduceEqDiff, Nat.reduceLeDiff, Nat.reduceBEq, Int.reduceAdd, Int.reduceSub, Int.reduceMul, Int.reduceNeg, Int.reduceLT, Int.reduceLE, Int.reduceEq, Int.reduceNe, Int.reduceBEq, Int.reduceToNat, Int.reduceTDiv, Int.reduceTMod, Int.reduceOfNat, reduceCtorEq, sty, sui]
  try simp (disch := first | omega | (simp only [List.length_set, List.length_replicate, List.length_append, List.length_nil]; first | done | omega)) only [aT, Int.reduceToNat, List.length_set, List.length_replicate, List.length_append, List.length_nil]
  (repeat ((with_reducible refine And.intro ?_ ?_); (first | omega | exact True.intro | with_reducible rfl | decide | assumption | rfl)))
  refine hK _ ?_; clear hK K
  refine AWp.reg p_ref04_first_1 [] s_ref04_first_1 rfl rfl fun K hK => st_of ?_
  simp only [s_ref04_first_1, wT, Bool.not_eq_true, ty, zr, Nat.reduceAdd, Nat.reduceSub, Nat.reduceMul, Nat.reduceMod, Nat.reduceDiv, Nat.reduceEqDiff, Nat.reduceLeDiff, Nat.reduceBEq, Int.reduceAdd, Int.reduceSub, Int.reduceMul, Int.reduceNeg, Int.reduceLT, Int.reduceLE, Int.reduceEq, Int.reduceNe, Int.reduceBEq, Int.reduceToNat, Int.reduceTDiv, Int.reduceTMod, Int.reduceOfNat, reduceCtorEq, sty, sui]
  try simp (disch := first | omega | (simp only [List.length_set, List.length_replicate, List.length_append, List.length_nil]; first | done | omega)) only [aT, Int.reduceToNat, List.length_set, List.length_replicate, List.length_append, List.length_nil]
  (repeat ((with_reducible refine And.intro ?_ ?_); (first | omega | exact True.intro | with_reducible rfl | decide | assumption | rfl)))
  refine hK _ ?_; clear hK K
  refine AWp.grp fun G8 hG8 => ?_
  refine AWp.reg p_ref04_first_2 [] s_ref04_first_2 rfl rfl fun K hK => st_of ?_
  simp only [s_ref04_first_2, wT, Bool.not_eq_true, ty, zr, Nat.reduceAdd, Nat.reduceSub, Nat.reduceMul, Nat.reduceMod, Nat.reduceDiv, Nat.reduceEqDiff, Nat.reduceLeDiff, Nat.reduceBEq, Int.reduceAdd, Int.reduceSub, Int.reduceMul, Int.reduceNeg, Int.reduceLT, Int.reduceLE, Int.reduceEq, Int.reduceNe, Int.reduceBEq, Int.reduceToNat, Int.reduceTDiv, Int.reduceTMod, Int.reduceOfNat, reduceCtorEq, sty, sui]
  try simp (disch := first | omega | (simp only [List.length_set, List.length_replicate, List.length_append, List.length_nil]; first | done | omega)) only [aT, Int.reduceToNat, List.length_set, List.length_replicate, List.length_append, List.length_nil]
  (repeat ((with_reducible refine And.intro ?_ ?_); (first | omega | exact True.intro | with_reducible rfl | decide | assumption | rfl)))
  refine hK _ ?_; clear hK K
  refine AWp.lopX (fun i => ⟨[(1, .ptr (.own 0) 0), (2, .ptr (.own 1) 0), (3, .ptr (.own 2) 0), (4, .int .i64 i)], [some (.ints .u8 k), some (.ints .u8 (List.replicate 16 0)), some (.ints .u8 (fillN 16 k i))]⟩) (16) ?_ fun X0 hX0 i hn0 => ?_
  · simp only [fillN_zero]
    exact Le.ofA
  have hfl := fillN_len 16 k i (by omega) (by omega)
  refine AWp.grp fun G17 hG17 => ?_
  refine AWp.reg p_ref04_first_3 [] s_ref04_first_3 rfl rfl fun K hK => st_of ?_
  simp only [s_ref04_first_3, wT, Bool.not_eq_true, ty, zr, Nat.reduceAdd, Nat.reduceSub, Nat.reduceMul, Nat.reduceMod, Nat.reduceDiv, Nat.reduceEqDiff, Nat.reduceLeDiff, Nat.reduceBEq, Int.reduceAdd, Int.reduceSub, Int.reduceMul, Int.reduceNeg, Int.reduceLT, Int.reduceLE, Int.reduceEq, Int.reduceNe, Int.reduceBEq, Int.reduceToNat, Int.reduceTDiv, Int.reduceTMod, Int.reduceOfNat, reduceCtorEq, sty, sui]
  try simp (disch := first | omega | (simp only [List.length_set, List.length_replicate, List.length_append, List.length_nil]; first | done | omega)) only [aT, Int.reduceToNat, List.length_set, List.length_replicate, List.length_append, List.length_nil]
  (repeat ((with_reducible refine And.intro ?_ ?_); (first | omega | exact True.intro | with_reducible rfl | decide | assumption | rfl)))
  refine hK _ ?_; clear hK K
  refine AWp.testE rfl (fun hb => ?_) (fun hb => ?_)
  · try simp only [decide_eq_true_eq, decide_eq_false_iff_not, beq_iff_eq, bne_iff_ne, ne_eq, Bool.not_eq_true, beq_eq_false_iff_ne, bne_eq_false_iff_eq, Bool.not_eq_false, Bool.not_eq_eq_eq_not, Bool.not_true, Bool.not_false] at hb
    try simp only [thenQ, bq, lq, lf, iq, gq, Nat.reduceEqDiff, if_true, if_false]
    refine hG17 _ ?_
    try clear hG17 G17
    refine AWp.blk fun Y1 hY1 => ?_
    refine AWp.regE p_ref04_first_5 [] s_ref04_first_5 rfl rfl (st_of ?_)
    simp only [s_ref04_first_5, wT, Bool.not_eq_true, ty, zr, Nat.reduceAdd, Nat.reduceSub, Nat.reduceMul, Nat.reduceMod, Nat.reduceDiv, Nat.reduceEqDiff, Nat.reduceLeDiff, Nat.reduceBEq, Int.reduceAdd, Int.reduceSub, Int.reduceMul, Int.reduceNeg, Int.reduceLT, Int.reduceLE, Int.reduceEq, Int.reduceNe, Int.reduceBEq, Int.reduceToNat, Int.reduceTDiv, Int.reduceTMod, Int.reduceOfNat, reduceCtorEq, sty, sui]
    try simp (disch := first | omega | (simp only [List.length_set, List.length_replicate, List.length_append, List.length_nil]; first | done | omega)) only [aT, Int.reduceToNat, List.length_set, List.length_replicate, List.length_append, List.length_nil]
    (repeat ((with_reducible refine And.intro ?_ ?_); (first | omega | exact True.intro | with_reducible rfl | decide | assumption | rfl)))
    try simp only [thenQ, bq, lq, lf, iq, gq, Nat.reduceEqDiff, if_true, if_false]
    refine hY1 _ ?_
    try clear hY1 Y1
    refine AWp.regE p_ref04_first_4 [] s_ref04_first_4 rfl rfl (st_of ?_)
    simp only [s_ref04_first_4, wT, Bool.not_eq_true, ty, zr, Nat.reduceAdd, Nat.reduceSub, Nat.reduceMul, Nat.reduceMod, Nat.reduceDiv, Nat.reduceEqDiff, Nat.reduceLeDiff, Nat.reduceBEq, Int.reduceAdd, Int.reduceSub, Int.reduceMul, Int.reduceNeg, Int.reduceLT, Int.reduceLE, Int.reduceEq, Int.reduceNe, Int.reduceBEq, Int.reduceToNat, Int.reduceTDiv, Int.reduceTMod, Int.reduceOfNat, reduceCtorEq, sty, sui]
    try simp (disch := first | omega | (simp only [List.length_set, List.length_replicate, List.length_append, List.length_nil]; first | done | omega)) only [aT, Int.reduceToNat, List.length_set, List.length_replicate, List.length_append, List.length_nil]
    (repeat ((with_reducible refine And.intro ?_ ?_); (first | omega | exact True.intro | with_reducible rfl | decide | assumption | rfl)))
    try simp only [thenQ, bq, lq, lf, iq, gq, Nat.reduceEqDiff, if_true, if_false]
    rw [fillN_succ 16 k i (by omega) (by omega)]
    first | exact ⟨by omega, Le.ofA⟩ | exact Le.ofA
  · try simp only [decide_eq_true_eq, decide_eq_false_iff_not, beq_iff_eq, bne_iff_ne, ne_eq, Bool.not_eq_true, beq_eq_false_iff_ne, bne_eq_false_iff_eq, Bool.not_eq_false, Bool.not_eq_eq_eq_not, Bool.not_true, Bool.not_false] at hb
    try simp only [thenQ, bq, lq, lf, iq, gq, Nat.reduceEqDiff, if_true, if_false]
    refine hX0 _ ?_
    try clear hX0 X0
    rw [show i = 16 by omega, fillN_all, hst]
    try simp only [thenQ, bq, lq, lf, iq, gq, Nat.reduceEqDiff, if_true, if_false]
    refine hG8 _ ?_
    try clear hG8 G8
    refine AWp.reg p_ref04_first_6 [] s_ref04_first_6 rfl rfl fun K hK => st_of ?_
    simp only [s_ref04_first_6, wT, Bool.not_eq_true, ty, zr, Nat.reduceAdd, Nat.reduceSub, Nat.reduceMul, Nat.reduceMod, Nat.reduceDiv, Nat.reduceEqDiff, Nat.reduceLeDiff, Nat.reduceBEq, Int.reduceAdd, Int.reduceSub, Int.reduceMul, Int.reduceNeg, Int.reduceLT, Int.reduceLE, Int.reduceEq, Int.reduceNe, Int.reduceBEq, Int.reduceToNat, Int.reduceTDiv, Int.reduceTMod, Int.reduceOfNat, reduceCtorEq, sty, sui]
    try simp (disch := first | omega | (simp only [List.length_set, List.length_replicate, List.length_append, List.length_nil]; first | done | omega)) only [aT, Int.reduceToNat, List.length_set, List.length_replicate, List.length_append, List.length_nil]
    (repeat ((with_reducible refine And.intro ?_ ?_); (first | omega | exact True.intro | with_reducible rfl | decide | assumption | rfl)))
    refine hK _ ?_; clear hK K
    refine AWp.ret ?_
    try simp only [thenQ, bq, lq, lf, iq, gq, Nat.reduceEqDiff, if_true, if_false]
    simp only [endQ, rs_ref04_first, resC, one, wT, Bool.not_eq_true, ty, zr, Nat.reduceAdd, Nat.reduceSub, Nat.reduceMul, Nat.reduceMod, Nat.reduceDiv, Nat.reduceEqDiff, Nat.reduceLeDiff, Nat.reduceBEq, Int.reduceAdd, Int.reduceSub, Int.reduceMul, Int.reduceNeg, Int.reduceLT, Int.reduceLE, Int.reduceEq, Int.reduceNe, Int.reduceBEq, Int.reduceToNat, Int.reduceTDiv, Int.reduceTMod, Int.reduceOfNat, reduceCtorEq, sty, sui]
    try simp (disch := first | omega | (simp only [List.length_set, List.length_replicate, List.length_append, List.length_nil]; first | done | omega)) only [aT, Int.reduceToNat, List.length_set, List.length_replicate, List.length_append, List.length_nil]
    repeat' (first | exact True.intro | (with_reducible rfl) | (with_reducible apply And.intro) | omega | rfl)
theorem after_ok {α : Type} (E : α → Option (Row α)) (k J : List Int) (hk : k.length = 32) (x : α) (l b : List Int) (hJ : k ++ b = J) (hx : E x = some (.ints .u8 l)) (o n : Nat) (hn : b.length = n) (ho : o + n ≤ l.length) (hs : sub l o n = b) (hl : n ≤ 1099511627) (f : Bool) :
    FnOk Try.prog n_ref04_after E [.ints .u8 k, .slice f (.ext x) o n 1] [] (.slice true (.own 0) 0 J.length 1) [some (.ints .u8 J)] := by
  have hJl : J.length = 32 + n := by rw [← hJ, List.length_append, hk, hn]
  have hkt : k.take 32 = k := List.take_of_length_le (by omega)
  rw [hJl]
  refine FnOk.intro func_ref04_after call_ref04_after (body := _) rfl nt_ref04_after (by simp) ?_
  refine AWp.reg p_ref04_after_0 [] s_ref04_after_0 rfl rfl fun K hK => st_of ?_
  simp only [s_ref04_after_0, wT, Bool.not_eq_true, ty, zr, Nat.reduceAdd, Nat.reduceSub, Nat.reduceMul, Nat.reduceMod, Nat.reduceDiv, Nat.reduceEqDiff, Nat.reduceLeDiff, Nat.reduceBEq, Int.reduceAdd, Int.reduceSub, Int.reduceMul, Int.reduceNeg, Int.reduceLT, Int.reduceLE, Int.reduceEq, Int.reduceNe, Int.reduceBEq, Int.reduceToNat, Int.reduceTDiv, Int.reduceTMod, Int.reduceOfNat, reduceCtorEq, sty, sui]
  try simp (disch := first | omega | (simp only [List.length_set, List.length_replicate, List.length_append, List.length_nil]; first | done | omega)) only [aT, Int.reduceToNat, List.length_set, List.length_replicate, List.length_append, List.length_nil]
  (repeat ((with_reducible refine And.intro ?_ ?_); (first | omega | exact True.intro | with_reducible rfl | decide | assumption | rfl)))
  refine hK _ ?_; clear hK K
  refine AWp.reg p_ref04_after_1 [] s_ref04_after_1 rfl rfl fun K hK => st_of ?_
  simp only [s_ref04_after_1, wT, Bool.not_eq_true, ty, zr, Nat.reduceAdd, Nat.reduceSub, Nat.reduceMul, Nat.reduceMod, Nat.reduceDiv, Nat.reduceEqDiff, Nat.reduceLeDiff, Nat.reduceBEq, Int.reduceAdd, Int.reduceSub, Int.reduceMul, Int.reduceNeg, Int.reduceLT, Int.reduceLE, Int.reduceEq, Int.reduceNe, Int.reduceBEq, Int.reduceToNat, Int.reduceTDiv, Int.reduceTMod, Int.reduceOfNat, reduceCtorEq, sty, sui]
  try simp (disch := first | omega | (simp only [List.length_set, List.length_replicate, List.length_append, List.length_nil]; first | done | omega)) only [aT, Int.reduceToNat, List.length_set, List.length_replicate, List.length_append, List.length_nil]
  (repeat ((with_reducible refine And.intro ?_ ?_); (first | omega | exact True.intro | with_reducible rfl | decide | assumption | rfl)))
  refine hK _ ?_; clear hK K
  refine AWp.grp fun G8 hG8 => ?_
  refine AWp.reg p_ref04_after_2 [] s_ref04_after_2 rfl rfl fun K hK => st_of ?_
  simp only [s_ref04_after_2, wT, Bool.not_eq_true, ty, zr, Nat.reduceAdd, Nat.reduceSub, Nat.reduceMul, Nat.reduceMod, Nat.reduceDiv, Nat.reduceEqDiff, Nat.reduceLeDiff, Nat.reduceBEq, Int.reduceAdd, Int.reduceSub, Int.reduceMul, Int.reduceNeg, Int.reduceLT, Int.reduceLE, Int.reduceEq, Int.reduceNe, Int.reduceBEq, Int.reduceToNat, Int.reduceTDiv, Int.reduceTMod, Int.reduceOfNat, reduceCtorEq, sty, sui]
  try simp (disch := first | omega | (simp only [List.length_set, List.length_replicate, List.length_append, List.length_nil]; first | done | omega)) only [aT, Int.reduceToNat, List.length_set, List.length_replicate, List.length_append, List.length_nil]
  (repeat ((with_reducible refine And.intro ?_ ?_); (first | omega | exact True.intro | with_reducible rfl | decide | assumption | rfl)))
  refine hK _ ?_; clear hK K
  refine AWp.lopX (fun i => ⟨[(1, .slice f (.ext x) o n 1), (2, .ptr (.own 0) 0), (5, .slice true (.own 1) 0 i 1), (6, .int .i64 i)], [some (.ints .u8 k), some (.ints .u8 (k.take i))]⟩) (32) ?_ fun X0 hX0 i hn0 => ?_
  · refine Le.trans (Le.nil 5 rfl .u8 1) ?_
    simp only [List.take_zero, List.cons_append, List.nil_append, List.length_cons, List.length_nil, Nat.reduceAdd, Nat.zero_add]
    exact Le.ofA
  have htl : (k.take i).length = i := by rw [List.length_take]; omega
  refine AWp.grp fun G18 hG18 => ?_
  refine AWp.reg p_ref04_after_3 [] s_ref04_after_3 rfl rfl fun K hK => st_of ?_
  simp only [s_ref04_after_3, wT, Bool.not_eq_true, ty, zr, Nat.reduceAdd, Nat.reduceSub, Nat.reduceMul, Nat.reduceMod, Nat.reduceDiv, Nat.reduceEqDiff, Nat.reduceLeDiff, Nat.reduceBEq, Int.reduceAdd, Int.reduceSub, Int.reduceMul, Int.reduceNeg, Int.reduceLT, Int.reduceLE, Int.reduceEq, Int.reduceNe, Int.reduceBEq, Int.reduceToNat, Int.reduceTDiv, Int.reduceTMod, Int.reduceOfNat, reduceCtorEq, sty, sui]
  try simp (disch := first | omega | (simp only [List.length_set, List.length_replicate, List.length_append, List.length_nil]; first | done | omega)) only [aT, Int.reduceToNat, List.length_set, List.length_replicate, List.length_append, List.length_nil]
  (repeat ((with_reducible refine And.intro ?_ ?_); (first | omega | exact True.intro | with_reducible rfl | decide | assumption | rfl)))
  refine hK _ ?_; clear hK K
  refine AWp.testE rfl (fun hb => ?_) (fun hb => ?_)
  · try simp only [decide_eq_true_eq, decide_eq_false_iff_not, beq_iff_eq, bne_iff_ne, ne_eq, Bool.not_eq_true, beq_eq_false_iff_ne, bne_eq_false_iff_eq, Bool.not_eq_false, Bool.not_eq_eq_eq_not, Bool.not_true, Bool.not_false] at hb
    try simp only [thenQ, bq, lq, lf, iq, gq, Nat.reduceEqDiff, if_true, if_false]
    refine hG18 _ ?_
    try clear hG18 G18
    refine AWp.blk fun Y1 hY1 => ?_
    refine AWp.regE p_ref04_after_5 [] s_ref04_after_5 rfl rfl (st_of ?_)
    simp only [s_ref04_after_5, wT, Bool.not_eq_true, ty, zr, Nat.reduceAdd, Nat.reduceSub, Nat.reduceMul, Nat.reduceMod, Nat.reduceDiv, Nat.reduceEqDiff, Nat.reduceLeDiff, Nat.reduceBEq, Int.reduceAdd, Int.reduceSub, Int.reduceMul, Int.reduceNeg, Int.reduceLT, Int.reduceLE, Int.reduceEq, Int.reduceNe, Int.reduceBEq, Int.reduceToNat, Int.reduceTDiv, Int.reduceTMod, Int.reduceOfNat, reduceCtorEq, sty, sui]
    try simp (disch := first | omega | (simp only [List.length_set, List.length_replicate, List.length_append, List.length_nil]; first | done | omega)) only [aT, Int.reduceToNat, List.length_set, List.length_replicate, List.length_append, List.length_nil]
    rw [take_snoc (by omega)]
    (repeat ((with_reducible refine And.intro ?_ ?_); (first | omega | exact True.intro | with_reducible rfl | decide | assumption | rfl)))
    try simp only [thenQ, bq, lq, lf, iq, gq, Nat.reduceEqDiff, if_true, if_false]
    refine hY1 _ ?_
    try clear hY1 Y1
    refine AWp.regE p_ref04_after_4 [] s_ref04_after_4 rfl rfl (st_of ?_)
    simp only [s_ref04_after_4, wT, Bool.not_eq_true, ty, zr, Nat.reduceAdd, Nat.reduceSub, Nat.reduceMul, Nat.reduceMod, Nat.reduceDiv, Nat.reduceEqDiff, Nat.reduceLeDiff, Nat.reduceBEq, Int.reduceAdd, Int.reduceSub, Int.reduceMul, Int.reduceNeg, Int.reduceLT, Int.reduceLE, Int.reduceEq, Int.reduceNe, Int.reduceBEq, Int.reduceToNat, Int.reduceTDiv, Int.reduceTMod, Int.reduceOfNat, reduceCtorEq, sty, sui]
    try simp (disch := first | omega | (simp only [List.length_set, List.length_replicate, List.length_append, List.length_nil]; first | done | omega)) only [aT, Int.reduceToNat, List.length_set, List.length_replicate, List.length_append, List.length_nil]
    (repeat ((with_reducible refine And.intro ?_ ?_); (first | omega | exact True.intro | with_reducible rfl | decide | assumption | rfl)))
    try simp only [thenQ, bq, lq, lf, iq, gq, Nat.reduceEqDiff, if_true, if_false]
    first | exact ⟨by omega, Le.sel [0, 3] (by decide) (by simp) rfl (by simp only [selTm, tget, AV.map, AV.mapL, renS, AV.All, AV.AllL, inS, Nat.reduceEqDiff, if_true, if_false]; repeat' (first | exact trivial | rfl | assumption | apply And.intro | simp [mapL_flat, mapL_flat1, allL_flat, allL_flat1])) (by simp only [selRows, selRow, Row.map, Row.All, AV.AllL, AV.All, inS]; repeat' (first | exact trivial | rfl | assumption | apply And.intro | simp [mapL_flat, mapL_flat1, allL_flat, allL_flat1]))⟩ | exact Le.sel [0, 3] (by decide) (by simp) rfl (by simp only [selTm, tget, AV.map, AV.mapL, renS, AV.All, AV.AllL, inS, Nat.reduceEqDiff, if_true, if_false]; repeat' (first | exact trivial | rfl | assumption | apply And.intro | simp [mapL_flat, mapL_flat1, allL_flat, allL_flat1])) (by simp only [selRows, selRow, Row.map, Row.All, AV.AllL, AV.All, inS]; repeat' (first | exact trivial | rfl | assumption | apply And.intro | simp [mapL_flat, mapL_flat1, allL_flat, allL_flat1]))
  · try simp only [decide_eq_true_eq, decide_eq_false_iff_not, beq_iff_eq, bne_iff_ne, ne_eq, Bool.not_eq_true, beq_eq_false_iff_ne, bne_eq_false_iff_eq, Bool.not_eq_false, Bool.not_eq_eq_eq_not, Bool.not_true, Bool.not_false] at hb
    try simp only [thenQ, bq, lq, lf, iq, gq, Nat.reduceEqDiff, if_true, if_false]
    refine hX0 _ ?_
    try clear hX0 X0
    rw [show i = 32 by omega, hkt]
    try simp only [thenQ, bq, lq, lf, iq, gq, Nat.reduceEqDiff, if_true, if_false]
    refine hG8 _ ?_
    try clear hG8 G8
    refine AWp.reg p_ref04_after_6 [] s_ref04_after_6 rfl rfl fun K hK => st_of ?_
    simp only [s_ref04_after_6, wT, Bool.not_eq_true, ty, zr, Nat.reduceAdd, Nat.reduceSub, Nat.reduceMul, Nat.reduceMod, Nat.reduceDiv, Nat.reduceEqDiff, Nat.reduceLeDiff, Nat.reduceBEq, Int.reduceAdd, Int.reduceSub, Int.reduceMul, Int.reduceNeg, Int.reduceLT, Int.reduceLE, Int.reduceEq, Int.reduceNe, Int.reduceBEq, Int.reduceToNat, Int.reduceTDiv, Int.reduceTMod, Int.reduceOfNat, reduceCtorEq, sty, sui]
    try simp (disch := first | omega | (simp only [List.length_set, List.length_replicate, List.length_append, List.length_nil]; first | done | omega)) only [aT, Int.reduceToNat, List.length_set, List.length_replicate, List.length_append, List.length_nil]
    simp only [hx, hs, hJ, Option.map_some, wT, Bool.not_eq_true, ty, zr, Nat.reduceAdd, Nat.reduceSub, Nat.reduceMul, Nat.reduceMod, Nat.reduceDiv, Nat.reduceEqDiff, Nat.reduceLeDiff, Nat.reduceBEq, Int.reduceAdd, Int.reduceSub, Int.reduceMul, Int.reduceNeg, Int.reduceLT, Int.reduceLE, Int.reduceEq, Int.reduceNe, Int.reduceBEq, Int.reduceToNat, Int.reduceTDiv, Int.reduceTMod, Int.reduceOfNat, reduceCtorEq, sty, sui]
    try simp (disch := first | omega | (simp only [List.length_set, List.length_replicate, List.length_append, List.length_nil]; first | done | omega)) only [aT, Int.reduceToNat, List.length_set, List.length_replicate, List.length_append, List.length_nil]
    (repeat ((with_reducible refine And.intro ?_ ?_); (first | omega | exact True.intro | with_reducible rfl | decide | assumption | rfl)))
    refine hK _ ?_; clear hK K
    refine AWp.ret ?_
    try simp only [thenQ, bq, lq, lf, iq, gq, Nat.reduceEqDiff, if_true, if_false]
    simp only [endQ, rs_ref04_after, resC, one, wT, Bool.not_eq_true, ty, zr, Nat.reduceAdd, Nat.reduceSub, Nat.reduceMul, Nat.reduceMod, Nat.reduceDiv, Nat.reduceEqDiff, Nat.reduceLeDiff, Nat.reduceBEq, Int.reduceAdd, Int.reduceSub, Int.reduceMul, Int.reduceNeg, Int.reduceLT, Int.reduceLE, Int.reduceEq, Int.reduceNe, Int.reduceBEq, Int.reduceToNat, Int.reduceTDiv, Int.reduceTMod, Int.reduceOfNat, reduceCtorEq, sty, sui]
    try simp (disch := first | omega | (simp only [List.length_set, List.length_replicate, List.length_append, List.length_nil]; first | done | omega)) only [aT, Int.reduceToNat, List.length_set, List.length_replicate, List.length_append, List.length_nil]
    refine ⟨[2], by decide, by simp, by rfl, ?_⟩; (repeat' (first | exact trivial | rfl | omega | apply And.intro | (simp [AV.All, AV.AllL, inS, AV.map, AV.mapL, renS, selRows, selRow, Row.map, Row.All, mapL_flat, mapL_flat1, allL_flat, allL_flat1]; done)))
theorem sumRk_ok {α : Type} (E : α → Option (Row α)) (k : List Int) (hk : k.length = 32) (hkB : AllB k) (x : α) (l b : List Int) (hx : E x = some (.ints .u8 l)) (hbB : AllB b) (o n : Nat) (hn : b.length = n) (ho : o + n ≤ l.length) (hs : sub l o n = b) (hl : n ≤ 1099511627) (f : Bool) :
    FnOk Try.prog n_ref04_Sum E [.ints .u8 k, .slice f (.ext x) o n 1] [] (.ints .u8 (sub (sumL (k ++ sumL (k ++ b))) 0 16)) [] := by
  have hJB : AllB (k ++ b) := hkB.app hbB
  have hIB : AllB (k ++ sumL (k ++ b)) := hkB.app (sumL_B _)
  generalize hJ : k ++ b = J at *
  have hJl : J.length = 32 + n := by rw [← hJ, List.length_append, hk, hn]
  have hsl := sumL_len J
  have hst : (sumL J).take 32 = sumL J := List.take_of_length_le (by omega)
  have hss : sub (sumL J) 0 32 = sumL J := sub_all hsl
  generalize hI : k ++ sumL J = I at *
  have hIl : I.length = 32 + 32 := by rw [← hI, List.length_append, hk, hsl]
  have hsl1 := sumL_len I
  have hsl2 : (sub (sumL I) 0 16).length = 16 := Sy.length_sub (by omega)
  refine FnOk.pure func_ref04_Sum call_ref04_Sum (body := _) rfl nt_ref04_Sum (by simp) (by simp [AV.solid, AV.solidL]) ?_
  refine AWp.reg p_ref04_Sum_0 [] s_ref04_Sum_0 rfl rfl fun K hK => st_of ?_
  simp only [s_ref04_Sum_0, wT, Bool.not_eq_true, ty, zr, Nat.reduceAdd, Nat.reduceSub, Nat.reduceMul, Nat.reduceMod, Nat.reduceDiv, Nat.reduceEqDiff, Nat.reduceLeDiff, Nat.reduceBEq, Int.reduceAdd, Int.reduceSub, Int.reduceMul, Int.reduceNeg, Int.reduceLT, Int.reduceLE, Int.reduceEq, Int.reduceNe, Int.reduceBEq, Int.reduceToNat, Int.reduceTDiv, Int.reduceTMod, Int.reduceOfNat, reduceCtorEq, sty, sui]
  try simp (disch := first | omega | (simp only [List.length_set, List.length_replicate, List.length_append, List.length_nil]; first | done | omega)) only [aT, Int.reduceToNat, List.length_set, List.length_replicate, List.length_append, List.length_nil]
  (repeat ((with_reducible refine And.intro ?_ ?_); (first | omega | exact True.intro | with_reducible rfl | decide | assumption | rfl)))
  refine hK _ ?_; clear hK K
  refine AWp.reg p_ref04_Sum_1 [] s_ref04_Sum_1 rfl rfl fun K hK => st_of ?_
  simp only [s_ref04_Sum_1, wT, Bool.not_eq_true, ty, zr, Nat.reduceAdd, Nat.reduceSub, Nat.reduceMul, Nat.reduceMod, Nat.reduceDiv, Nat.reduceEqDiff, Nat.reduceLeDiff, Nat.reduceBEq, Int.reduceAdd, Int.reduceSub, Int.reduceMul, Int.reduceNeg, Int.reduceLT, Int.reduceLE, Int.reduceEq, Int.reduceNe, Int.reduceBEq, Int.reduceToNat, Int.reduceTDiv, Int.reduceTMod, Int.reduceOfNat, reduceCtorEq, sty, sui]
  try simp (disch := first | omega | (simp only [List.length_set, List.length_replicate, List.length_append, List.length_nil]; first | done | omega)) only [aT, Int.reduceToNat, List.length_set, List.length_replicate, List.length_append, List.length_nil]
  (repeat ((with_reducible refine And.intro ?_ ?_); (first | omega | exact True.intro | with_reducible rfl | decide | assumption | rfl)))
  refine st_call fun K1 hK1 => ?_
  simp only [calleeC, wT, Bool.not_eq_true, ty, zr, Nat.reduceAdd, Nat.reduceSub, Nat.reduceMul, Nat.reduceMod, Nat.reduceDiv, Nat.reduceEqDiff, Nat.reduceLeDiff, Nat.reduceBEq, Int.reduceAdd, Int.reduceSub, Int.reduceMul, Int.reduceNeg, Int.reduceLT, Int.reduceLE, Int.reduceEq, Int.reduceNe, Int.reduceBEq, Int.reduceToNat, Int.reduceTDiv, Int.reduceTMod, Int.reduceOfNat, reduceCtorEq, sty, sui]
  try simp (disch := first | omega | (simp only [List.length_set, List.length_replicate, List.length_append, List.length_nil]; first | done | omega)) only [aT, Int.reduceToNat, List.length_set, List.length_replicate, List.length_append, List.length_nil]
  refine hK1 _ _ ?_
  clear hK1 K1
  simp only [CallTo, AV.mapL, AV.map, mapL_flat, mapL_flat1]
  refine ⟨_, _, after_ok _ k J hk _ l b hJ (by simp only [Sy.look, hx, Option.map_some, Row.map]) o n hn ho hs hl f, ?_⟩
  simp only [wT, Bool.not_eq_true, ty, zr, Nat.reduceAdd, Nat.reduceSub, Nat.reduceMul, Nat.reduceMod, Nat.reduceDiv, Nat.reduceEqDiff, Nat.reduceLeDiff, Nat.reduceBEq, Int.reduceAdd, Int.reduceSub, Int.reduceMul, Int.reduceNeg, Int.reduceLT, Int.reduceLE, Int.reduceEq, Int.reduceNe, Int.reduceBEq, Int.reduceToNat, Int.reduceTDiv, Int.reduceTMod, Int.reduceOfNat, reduceCtorEq, sty, sui]
  try simp (disch := first | omega | (simp only [List.length_set, List.length_replicate, List.length_append, List.length_nil]; first | done | omega)) only [aT, Int.reduceToNat, List.length_set, List.length_replicate, List.length_append, List.length_nil]
  (repeat ((with_reducible refine And.intro ?_ ?_); (first | omega | exact True.intro | with_reducible rfl | decide | assumption | rfl)))
  refine st_call fun K1 hK1 => ?_
  simp only [calleeC, wT, Bool.not_eq_true, ty, zr, Nat.reduceAdd, Nat.reduceSub, Nat.reduceMul, Nat.reduceMod, Nat.reduceDiv, Nat.reduceEqDiff, Nat.reduceLeDiff, Nat.reduceBEq, Int.reduceAdd, Int.reduceSub, Int.reduceMul, Int.reduceNeg, Int.reduceLT, Int.reduceLE, Int.reduceEq, Int.reduceNe, Int.reduceBEq, Int.reduceToNat, Int.reduceTDiv, Int.reduceTMod, Int.reduceOfNat, reduceCtorEq, sty, sui]
  try simp (disch := first | omega | (simp only [List.length_set, List.length_replicate, List.length_append, List.length_nil]; first | done | omega)) only [aT, Int.reduceToNat, List.length_set, List.length_replicate, List.length_append, List.length_nil]
  refine hK1 _ _ ?_
  clear hK1 K1
  simp only [CallTo, AV.mapL, AV.map, mapL_flat, mapL_flat1]
  refine ⟨_, _, sumR_ok _ _ J J rfl 0 (by omega) (sub_all rfl) hJB (by omega) _, ?_⟩
  simp only [wT, Bool.not_eq_true, ty, zr, Nat.reduceAdd, Nat.reduceSub, Nat.reduceMul, Nat.reduceMod, Nat.reduceDiv, Nat.reduceEqDiff, Nat.reduceLeDiff, Nat.reduceBEq, Int.reduceAdd, Int.reduceSub, Int.reduceMul, Int.reduceNeg, Int.reduceLT, Int.reduceLE, Int.reduceEq, Int.reduceNe, Int.reduceBEq, Int.reduceToNat, Int.reduceTDiv, Int.reduceTMod, Int.reduceOfNat, reduceCtorEq, sty, sui]
  try simp (disch := first | omega | (simp only [List.length_set, List.length_replicate, List.length_append, List.length_nil]; first | done | omega)) only [aT, Int.reduceToNat, List.length_set, List.length_replicate, List.length_append, List.length_nil]
  (repeat ((with_reducible refine And.intro ?_ ?_); (first | omega | exact True.intro | with_reducible rfl | decide | assumption | rfl)))
  refine hK _ ?_; clear hK K
  refine AWp.reg p_ref04_Sum_2 [] s_ref04_Sum_2 rfl rfl fun K hK => st_of ?_
  simp only [s_ref04_Sum_2, wT, Bool.not_eq_true, ty, zr, Nat.reduceAdd, Nat.reduceSub, Nat.reduceMul, Nat.reduceMod, Nat.reduceDiv, Nat.reduceEqDiff, Nat.reduceLeDiff, Nat.reduceBEq, Int.reduceAdd, Int.reduceSub, Int.reduceMul, Int.reduceNeg, Int.reduceLT, Int.reduceLE, Int.reduceEq, Int.reduceNe, Int.reduceBEq, Int.reduceToNat, Int.reduceTDiv, Int.reduceTMod, Int.reduceOfNat, reduceCtorEq, sty, sui]
  try simp (disch := first | omega | (simp only [List.length_set, List.length_replicate, List.length_append, List.length_nil]; first | done | omega)) only [aT, Int.reduceToNat, List.length_set, List.length_replicate, List.length_append, List.length_nil]
  (repeat ((with_reducible refine And.intro ?_ ?_); (first | omega | exact True.intro | with_reducible rfl | decide | assumption | rfl)))
  refine hK _ ?_; clear hK K
  refine AWp.grp fun G28 hG28 => ?_
  refine AWp.reg p_ref04_Sum_3 [] s_ref04_Sum_3 rfl rfl fun K hK => st_of ?_
  simp only [s_ref04_Sum_3, wT, Bool.not_eq_true, ty, zr, Nat.reduceAdd, Nat.reduceSub, Nat.reduceMul, Nat.reduceMod, Nat.reduceDiv, Nat.reduceEqDiff, Nat.reduceLeDiff, Nat.reduceBEq, Int.reduceAdd, Int.reduceSub, Int.reduceMul, Int.reduceNeg, Int.reduceLT, Int.reduceLE, Int.reduceEq, Int.reduceNe, Int.reduceBEq, Int.reduceToNat, Int.reduceTDiv, Int.reduceTMod, Int.reduceOfNat, reduceCtorEq, sty, sui]
  try simp (disch := first | omega | (simp only [List.length_set, List.length_replicate, List.length_append, List.length_nil]; first | done | omega)) only [aT, Int.reduceToNat, List.length_set, List.length_replicate, List.length_append, List.length_nil]
  (repeat ((with_reducible refine And.intro ?_ ?_); (first | omega | exact True.intro | with_reducible rfl | decide | assumption | rfl)))
  refine hK _ ?_; clear hK K
  refine AWp.lopX (fun i => ⟨[(1, .slice f (.ext x) o n 1), (2, .ptr (.own 0) 0), (4, .ptr (.own 1) 0), (5, .ptr (.own 2) 0), (6, .slice true (.own 3) 0 i 1), (7, .int .i64 i)], [some (.ints .u8 k), some (.ints .u8 (List.replicate 16 0)), some (.ints .u8 (sumL J)), some (.ints .u8 ((sumL J).take i))]⟩) (32) ?_ fun X0 hX0 i hn0 => ?_
  · refine Le.trans (Le.nil 6 rfl .u8 1) ?_
    simp only [List.take_zero, List.cons_append, List.nil_append, List.length_cons, List.length_nil, Nat.reduceAdd, Nat.zero_add]
    exact Le.sel [0, 1, 3, 4] (by decide) (by simp) rfl (by simp only [selTm, tget, AV.map, AV.mapL, renS, AV.All, AV.AllL, inS, Nat.reduceEqDiff, if_true, if_false]; repeat' (first | exact trivial | rfl | assumption | apply And.intro | simp [mapL_flat, mapL_flat1, allL_flat, allL_flat1])) (by simp only [selRows, selRow, Row.map, Row.All, AV.AllL, AV.All, inS]; repeat' (first | exact trivial | rfl | assumption | apply And.intro | simp [mapL_flat, mapL_flat1, allL_flat, allL_flat1]))
  have htl : ((sumL J).take i).length = i := by rw [List.length_take]; omega
  refine AWp.grp fun G38 hG38 => ?_
  refine AWp.reg p_ref04_Sum_4 [] s_ref04_Sum_4 rfl rfl fun K hK => st_of ?_
  simp only [s_ref04_Sum_4, wT, Bool.not_eq_true, ty, zr, Nat.reduceAdd, Nat.reduceSub, Nat.reduceMul, Nat.reduceMod, Nat.reduceDiv, Nat.reduceEqDiff, Nat.reduceLeDiff, Nat.reduceBEq, Int.reduceAdd, Int.reduceSub, Int.reduceMul, Int.reduceNeg, Int.reduceLT, Int.reduceLE, Int.reduceEq, Int.reduceNe, Int.reduceBEq, Int.reduceToNat, Int.reduceTDiv, Int.reduceTMod, Int.reduceOfNat, reduceCtorEq, sty, sui]
  try simp (disch := first | omega | (simp only [List.length_set, List.length_replicate, List.length_append, List.length_nil]; first | done | omega)) only [aT, Int.reduceToNat, List.length_set, List.length_replicate, List.length_append, List.length_nil]
  (repeat ((with_reducible refine And.intro ?_ ?_); (first | omega | exact True.intro | with_reducible rfl | decide | assumption | rfl)))
  refine hK _ ?_; clear hK K
  refine AWp.testE rfl (fun hb => ?_) (fun hb => ?_)
  · try simp only [decide_eq_true_eq, decide_eq_false_iff_not, beq_iff_eq, bne_iff_ne, ne_eq, Bool.not_eq_true, beq_eq_false_iff_ne, bne_eq_false_iff_eq, Bool.not_eq_false, Bool.not_eq_eq_eq_not, Bool.not_true, Bool.not_false] at hb
    try simp only [thenQ, bq, lq, lf, iq, gq, Nat.reduceEqDiff, if_true, if_false]
    refine hG38 _ ?_
    try clear hG38 G38
    refine AWp.blk fun Y1 hY1 => ?_
    refine AWp.regE p_ref04_Sum_6 [] s_ref04_Sum_6 rfl rfl (st_of ?_)
    simp only [s_ref04_Sum_6, wT, Bool.not_eq_true, ty, zr, Nat.reduceAdd, Nat.reduceSub, Nat.reduceMul, Nat.reduceMod, Nat.reduceDiv, Nat.reduceEqDiff, Nat.reduceLeDiff, Nat.reduceBEq, Int.reduceAdd, Int.reduceSub, Int.reduceMul, Int.reduceNeg, Int.reduceLT, Int.reduceLE, Int.reduceEq, Int.reduceNe, Int.reduceBEq, Int.reduceToNat, Int.reduceTDiv, Int.reduceTMod, Int.reduceOfNat, reduceCtorEq, sty, sui]
    try simp (disch := first | omega | (simp only [List.length_set, List.length_replicate, List.length_append, List.length_nil]; first | done | omega)) only [aT, Int.reduceToNat, List.length_set, List.length_replicate, List.length_append, List.length_nil]
    rw [take_snoc (by omega)]
    (repeat ((with_reducible refine And.intro ?_ ?_); (first | omega | exact True.intro | with_reducible rfl | decide | assumption | rfl)))
    try simp only [thenQ, bq, lq, lf, iq, gq, Nat.reduceEqDiff, if_true, if_false]
    refine hY1 _ ?_
    try clear hY1 Y1
    refine AWp.regE p_ref04_Sum_5 [] s_ref04_Sum_5 rfl rfl (st_of ?_)
    simp only [s_ref04_Sum_5, wT, Bool.not_eq_true, ty, zr, Nat.reduceAdd, Nat.reduceSub, Nat.reduceMul, Nat.reduceMod, Nat.reduceDiv, Nat.reduceEqDiff, Nat.reduceLeDiff, Nat.reduceBEq, Int.reduceAdd, Int.reduceSub, Int.reduceMul, Int.reduceNeg, Int.reduceLT, Int.reduceLE, Int.reduceEq, Int.reduceNe, Int.reduceBEq, Int.reduceToNat, Int.reduceTDiv, Int.reduceTMod, Int.reduceOfNat, reduceCtorEq, sty, sui]
    try simp (disch := first | omega | (simp only [List.length_set, List.length_replicate, List.length_append, List.length_nil]; first | done | omega)) only [aT, Int.reduceToNat, List.length_set, List.length_replicate, List.length_append, List.length_nil]
    (repeat ((with_reducible refine And.intro ?_ ?_); (first | omega | exact True.intro | with_reducible rfl | decide | assumption | rfl)))
    try simp only [thenQ, bq, lq, lf, iq, gq, Nat.reduceEqDiff, if_true, if_false]
    first | exact ⟨by omega, Le.sel [0, 1, 2, 5] (by decide) (by simp) rfl (by simp only [selTm, tget, AV.map, AV.mapL, renS, AV.All, AV.AllL, inS, Nat.reduceEqDiff, if_true, if_false]; repeat' (first | exact trivial | rfl | assumption | apply And.intro | simp [mapL_flat, mapL_flat1, allL_flat, allL_flat1])) (by simp only [selRows, selRow, Row.map, Row.All, AV.AllL, AV.All, inS]; repeat' (first | exact trivial | rfl | assumption | apply And.intro | simp [mapL_flat, mapL_flat1, allL_flat, allL_flat1]))⟩ | exact Le.sel [0, 1, 2, 5] (by decide) (by simp) rfl (by simp only [selTm, tget, AV.map, AV.mapL, renS, AV.All, AV.AllL, inS, Nat.reduceEqDiff, if_true, if_false]; repeat' (first | exact trivial | rfl | assumption | apply And.intro | simp [mapL_flat, mapL_flat1, allL_flat, allL_flat1])) (by simp only [selRows, selRow, Row.map, Row.All, AV.AllL, AV.All, inS]; repeat' (first | exact trivial | rfl | assumption | apply And.intro | simp [mapL_flat, mapL_flat1, allL_flat, allL_flat1]))
  · try simp only [decide_eq_true_eq, decide_eq_false_iff_not, beq_iff_eq, bne_iff_ne, ne_eq, Bool.not_eq_true, beq_eq_false_iff_ne, bne_eq_false_iff_eq, Bool.not_eq_false, Bool.not_eq_eq_eq_not, Bool.not_true, Bool.not_false] at hb
    try simp only [thenQ, bq, lq, lf, iq, gq, Nat.reduceEqDiff, if_true, if_false]
    refine hX0 _ ?_
    try clear hX0 X0
    rw [show i = 32 by omega, hst]
    try simp only [thenQ, bq, lq, lf, iq, gq, Nat.reduceEqDiff, if_true, if_false]
    refine hG28 _ ?_
    try clear hG28 G28
    refine AWp.reg p_ref04_Sum_7 [] s_ref04_Sum_7 rfl rfl fun K hK => st_of ?_
    simp only [s_ref04_Sum_7, wT, Bool.not_eq_true, ty, zr, Nat.reduceAdd, Nat.reduceSub, Nat.reduceMul, Nat.reduceMod, Nat.reduceDiv, Nat.reduceEqDiff, Nat.reduceLeDiff, Nat.reduceBEq, Int.reduceAdd, Int.reduceSub, Int.reduceMul, Int.reduceNeg, Int.reduceLT, Int.reduceLE, Int.reduceEq, Int.reduceNe, Int.reduceBEq, Int.reduceToNat, Int.reduceTDiv, Int.reduceTMod, Int.reduceOfNat, reduceCtorEq, sty, sui]
    try simp (disch := first | omega | (simp only [List.length_set, List.length_replicate, List.length_append, List.length_nil]; first | done | omega)) only [aT, Int.reduceToNat, List.length_set, List.length_replicate, List.length_append, List.length_nil]
    (repeat ((with_reducible refine And.intro ?_ ?_); (first | omega | exact True.intro | with_reducible rfl | decide | assumption | rfl)))
    refine st_call fun K1 hK1 => ?_
    simp only [calleeC, wT, Bool.not_eq_true, ty, zr, Nat.reduceAdd, Nat.reduceSub, Nat.reduceMul, Nat.reduceMod, Nat.reduceDiv, Nat.reduceEqDiff, Nat.reduceLeDiff, Nat.reduceBEq, Int.reduceAdd, Int.reduceSub, Int.reduceMul, Int.reduceNeg, Int.reduceLT, Int.reduceLE, Int.reduceEq, Int.reduceNe, Int.reduceBEq, Int.reduceToNat, Int.reduceTDiv, Int.reduceTMod, Int.reduceOfNat, reduceCtorEq, sty, sui]
    try simp (disch := first | omega | (simp only [List.length_set, List.length_replicate, List.length_append, List.length_nil]; first | done | omega)) only [aT, Int.reduceToNat, List.length_set, List.length_replicate, List.length_append, List.length_nil]
    refine hK1 _ _ ?_
    clear hK1 K1
    simp only [CallTo, AV.mapL, AV.map, mapL_flat, mapL_flat1]
    refine ⟨_, _, after_ok _ k I hk _ (sumL J) (sumL J) hI rfl 0 32 hsl (by omega) hss (by omega) _, ?_⟩
    simp only [wT, Bool.not_eq_true, ty, zr, Nat.reduceAdd, Nat.reduceSub, Nat.reduceMul, Nat.reduceMod, Nat.reduceDiv, Nat.reduceEqDiff, Nat.reduceLeDiff, Nat.reduceBEq, Int.reduceAdd, Int.reduceSub, Int.reduceMul, Int.reduceNeg, Int.reduceLT, Int.reduceLE, Int.reduceEq, Int.reduceNe, Int.reduceBEq, Int.reduceToNat, Int.reduceTDiv, Int.reduceTMod, Int.reduceOfNat, reduceCtorEq, sty, sui]
    try simp (disch := first | omega | (simp only [List.length_set, List.length_replicate, List.length_append, List.length_nil]; first | done | omega)) only [aT, Int.reduceToNat, List.length_set, List.length_replicate, List.length_append, List.length_nil]
    (repeat ((with_reducible refine And.intro ?_ ?_); (first | omega | exact True.intro | with_reducible rfl | decide | assumption | rfl)))
    refine st_call fun K1 hK1 => ?_
    simp only [calleeC, wT, Bool.not_eq_true, ty, zr, Nat.reduceAdd, Nat.reduceSub, Nat.reduceMul, Nat.reduceMod, Nat.reduceDiv, Nat.reduceEqDiff, Nat.reduceLeDiff, Nat.reduceBEq, Int.reduceAdd, Int.reduceSub, Int.reduceMul, Int.reduceNeg, Int.reduceLT, Int.reduceLE, Int.reduceEq, Int.reduceNe, Int.reduceBEq, Int.reduceToNat, Int.reduceTDiv, Int.reduceTMod, Int.reduceOfNat, reduceCtorEq, sty, sui]
    try simp (disch := first | omega | (simp only [List.length_set, List.length_replicate, List.length_append, List.length_nil]; first | done | omega)) only [aT, Int.reduceToNat, List.length_set, List.length_replicate, List.length_append, List.length_nil]
    refine hK1 _ _ ?_
    clear hK1 K1
    simp only [CallTo, AV.mapL, AV.map, mapL_flat, mapL_flat1]
    refine ⟨_, _, sumR_ok _ _ I I rfl 0 (by omega) (sub_all rfl) hIB (by omega) _, ?_⟩
    simp only [wT, Bool.not_eq_true, ty, zr, Nat.reduceAdd, Nat.reduceSub, Nat.reduceMul, Nat.reduceMod, Nat.reduceDiv, Nat.reduceEqDiff, Nat.reduceLeDiff, Nat.reduceBEq, Int.reduceAdd, Int.reduceSub, Int.reduceMul, Int.reduceNeg, Int.reduceLT, Int.reduceLE, Int.reduceEq, Int.reduceNe, Int.reduceBEq, Int.reduceToNat, Int.reduceTDiv, Int.reduceTMod, Int.reduceOfNat, reduceCtorEq, sty, sui]
    try simp (disch := first | omega | (simp only [List.length_set, List.length_replicate, List.length_append, List.length_nil]; first | done | omega)) only [aT, Int.reduceToNat, List.length_set, List.length_replicate, List.length_append, List.length_nil]
    (repeat ((with_reducible refine And.intro ?_ ?_); (first | omega | exact True.intro | with_reducible rfl | decide | assumption | rfl)))
    refine st_call fun K1 hK1 => ?_
    simp only [calleeC, wT, Bool.not_eq_true, ty, zr, Nat.reduceAdd, Nat.reduceSub, Nat.reduceMul, Nat.reduceMod, Nat.reduceDiv, Nat.reduceEqDiff, Nat.reduceLeDiff, Nat.reduceBEq, Int.reduceAdd, Int.reduceSub, Int.reduceMul, Int.reduceNeg, Int.reduceLT, Int.reduceLE, Int.reduceEq, Int.reduceNe, Int.reduceBEq, Int.reduceToNat, Int.reduceTDiv, Int.reduceTMod, Int.reduceOfNat, reduceCtorEq, sty, sui]
    try simp (disch := first | omega | (simp only [List.length_set, List.length_replicate, List.length_append, List.length_nil]; first | done | omega)) only [aT, Int.reduceToNat, List.length_set, List.length_replicate, List.length_append, List.length_nil]
    refine hK1 _ _ ?_
    clear hK1 K1
    simp only [CallTo, AV.mapL, AV.map, mapL_flat, mapL_flat1]
    refine ⟨_, _, firstS_ok _ _ hsl1, ?_⟩
    simp only [wT, Bool.not_eq_true, ty, zr, Nat.reduceAdd, Nat.reduceSub, Nat.reduceMul, Nat.reduceMod, Nat.reduceDiv, Nat.reduceEqDiff, Nat.reduceLeDiff, Nat.reduceBEq, Int.reduceAdd, Int.reduceSub, Int.reduceMul, Int.reduceNeg, Int.reduceLT, Int.reduceLE, Int.reduceEq, Int.reduceNe, Int.reduceBEq, Int.reduceToNat, Int.reduceTDiv, Int.reduceTMod, Int.reduceOfNat, reduceCtorEq, sty, sui]
    try simp (disch := first | omega | (simp only [List.length_set, List.length_replicate, List.length_append, List.length_nil]; first | done | omega)) only [aT, Int.reduceToNat, List.length_set, List.length_replicate, List.length_append, List.length_nil]
    (repeat ((with_reducible refine And.intro ?_ ?_); (first | omega | exact True.intro | with_reducible rfl | decide | assumption | rfl)))
    refine hK _ ?_; clear hK K
    refine AWp.ret ?_
    try simp only [thenQ, bq, lq, lf, iq, gq, Nat.reduceEqDiff, if_true, if_false]
    simp only [endQ, rs_ref04_Sum, resC, one, wT, Bool.not_eq_true, ty, zr, Nat.reduceAdd, Nat.reduceSub, Nat.reduceMul, Nat.reduceMod, Nat.reduceDiv, Nat.reduceEqDiff, Nat.reduceLeDiff, Nat.reduceBEq, Int.reduceAdd, Int.reduceSub, Int.reduceMul, Int.reduceNeg, Int.reduceLT, Int.reduceLE, Int.reduceEq, Int.reduceNe, Int.reduceBEq, Int.reduceToNat, Int.reduceTDiv, Int.reduceTMod, Int.reduceOfNat, reduceCtorEq, sty, sui]
    try simp (disch := first | omega | (simp only [List.length_set, List.length_replicate, List.length_append, List.length_nil]; first | done | omega)) only [aT, Int.reduceToNat, List.length_set, List.length_replicate, List.length_append, List.length_nil]
    repeat' (first | exact True.intro | (with_reducible rfl) | (with_reducible apply And.intro) | omega | rfl)
end Go.Proofs.Ytbnjeafjnglldaa
