/- Contracts: the program's padding and sums. -/
import Derived.Test.YtdcbgmbpiekbgaaSha1
namespace Go.Proofs.Ytdcbgmbpiekbgaa
open Go Go.Proofs.Ytdcbgmbpiekbgaa.Sy
set_option linter.unusedSimpArgs false
set_option linter.unusedVariables false
set_option maxRecDepth 100000


theorem pad_ok {α : Type} (E : α → Option (Row α)) (x : α) (l b : List Int) (hx : E x = some (.ints .u8 l)) (o : Nat) (ho : o + b.length ≤ l.length) (hs : sub l o b.length = b) (hl : b.length ≤ 1099511627776) (f : Bool) :
    FnOk Try.prog n_sha_Pad E [.slice f (.ext x) o b.length 1] [] (.slice true (.own 0) 0 (64 * ((b.length + 72) / 64)) 1) [some (.ints .u8 (padL b))] := by
  have e0 := padZ_int b.length
  have e1 : padZ b.length < 64 := by unfold padZ; omega
  have e2 : min b.length (b.length + 9 + padZ b.length) = b.length := by omega
  have e3 : b.length + 9 + padZ b.length = 64 * ((b.length + 72) / 64) := by unfold padZ; omega
  have e4 : IntKind.u64.wrap ((b.length : Int) * 8) = b.length * 8 := wrap_u64' (by omega) (by omega)
  have e5 : (Sy.splice (List.replicate (b.length + 9 + padZ b.length) (0 : Int)) 0 b).length = b.length + 9 + padZ b.length := by rw [Sy.length_splice (by simp; omega)]; simp
  refine FnOk.intro func_sha_Pad call_sha_Pad (body := _) rfl nt_sha_Pad (by simp) ?_
  refine AWp.reg p_sha_Pad_0 [] s_sha_Pad_0 rfl rfl fun K hK => st_of ?_
  simp only [s_sha_Pad_0, wT, Bool.not_eq_true, ty, zr, Nat.reduceAdd, Nat.reduceSub, Nat.reduceMul, Nat.reduceMod, Nat.reduceDiv, Nat.reduceEqDiff, Nat.reduceLeDiff, Nat.reduceBEq, Int.reduceAdd, Int.reduceSub, Int.reduceMul, Int.reduceNeg, Int.reduceLT, Int.reduceLE, Int.reduceEq, Int.reduceNe, Int.reduceBEq, Int.reduceToNat, Int.reduceTDiv, Int.reduceTMod, Int.reduceOfNat, reduceCtorEq, sty, sui]
  refine hK _ ?_; clear hK K
  refine AWp.reg p_sha_Pad_1 [] s_sha_Pad_1 rfl rfl fun K hK => st_of ?_
  simp only [s_sha_Pad_1, wT, Bool.not_eq_true, ty, zr, Nat.reduceAdd, Nat.reduceSub, Nat.reduceMul, Nat.reduceMod, Nat.reduceDiv, Nat.reduceEqDiff, Nat.reduceLeDiff, Nat.reduceBEq, Int.reduceAdd, Int.reduceSub, Int.reduceMul, Int.reduceNeg, Int.reduceLT, Int.reduceLE, Int.reduceEq, Int.reduceNe, Int.reduceBEq, Int.reduceToNat, Int.reduceTDiv, Int.reduceTMod, Int.reduceOfNat, reduceCtorEq, sty, sui]
  try simp (disch := first | omega | (simp only [List.length_set, List.length_replicate, outS_len, padI_len]; first | done | omega)) only [aT, Int.reduceToNat, List.length_set, List.length_replicate, outS_len, padI_len]
  refine hK _ ?_; clear hK K
  refine AWp.reg p_sha_Pad_2 [] s_sha_Pad_2 rfl rfl fun K hK => st_of ?_
  simp only [s_sha_Pad_2, wT, Bool.not_eq_true, ty, zr, Nat.reduceAdd, Nat.reduceSub, Nat.reduceMul, Nat.reduceMod, Nat.reduceDiv, Nat.reduceEqDiff, Nat.reduceLeDiff, Nat.reduceBEq, Int.reduceAdd, Int.reduceSub, Int.reduceMul, Int.reduceNeg, Int.reduceLT, Int.reduceLE, Int.reduceEq, Int.reduceNe, Int.reduceBEq, Int.reduceToNat, Int.reduceTDiv, Int.reduceTMod, Int.reduceOfNat, reduceCtorEq, sty, sui]
  try simp (disch := first | omega | (simp only [List.length_set, List.length_replicate, outS_len, padI_len]; first | done | omega)) only [aT, Int.reduceToNat, List.length_set, List.length_replicate, outS_len, padI_len]
  simp only [e0, wT, Bool.not_eq_true, ty, zr, Nat.reduceAdd, Nat.reduceSub, Nat.reduceMul, Nat.reduceMod, Nat.reduceDiv, Nat.reduceEqDiff, Nat.reduceLeDiff, Nat.reduceBEq, Int.reduceAdd, Int.reduceSub, Int.reduceMul, Int.reduceNeg, Int.reduceLT, Int.reduceLE, Int.reduceEq, Int.reduceNe, Int.reduceBEq, Int.reduceToNat, Int.reduceTDiv, Int.reduceTMod, Int.reduceOfNat, reduceCtorEq, sty, sui]
  refine hK _ ?_; clear hK K
  refine AWp.reg p_sha_Pad_3 [] s_sha_Pad_3 rfl rfl fun K hK => st_of ?_
  simp only [s_sha_Pad_3, wT, Bool.not_eq_true, ty, zr, Nat.reduceAdd, Nat.reduceSub, Nat.reduceMul, Nat.reduceMod, Nat.reduceDiv, Nat.reduceEqDiff, Nat.reduceLeDiff, Nat.reduceBEq, Int.reduceAdd, Int.reduceSub, Int.reduceMul, Int.reduceNeg, Int.reduceLT, Int.reduceLE, Int.reduceEq, Int.reduceNe, Int.reduceBEq, Int.reduceToNat, Int.reduceTDiv, Int.reduceTMod, Int.reduceOfNat, reduceCtorEq, sty, sui]
  try simp (disch := first | omega | (simp only [List.length_set, List.length_replicate, outS_len, padI_len]; first | done | omega)) only [aT, Int.reduceToNat, List.length_set, List.length_replicate, outS_len, padI_len]
  (repeat ((with_reducible refine And.intro ?_ ?_); (first | omega | exact True.intro | with_reducible rfl | decide | assumption | rfl)))
  refine hK _ ?_; clear hK K
  refine AWp.reg p_sha_Pad_4 [] s_sha_Pad_4 rfl rfl fun K hK => st_of ?_
  simp only [s_sha_Pad_4, wT, Bool.not_eq_true, ty, zr, Nat.reduceAdd, Nat.reduceSub, Nat.reduceMul, Nat.reduceMod, Nat.reduceDiv, Nat.reduceEqDiff, Nat.reduceLeDiff, Nat.reduceBEq, Int.reduceAdd, Int.reduceSub, Int.reduceMul, Int.reduceNeg, Int.reduceLT, Int.reduceLE, Int.reduceEq, Int.reduceNe, Int.reduceBEq, Int.reduceToNat, Int.reduceTDiv, Int.reduceTMod, Int.reduceOfNat, reduceCtorEq, sty, sui]
  simp only [hx, e2, hs, Option.map_some, wT, Bool.not_eq_true, ty, zr, Nat.reduceAdd, Nat.reduceSub, Nat.reduceMul, Nat.reduceMod, Nat.reduceDiv, Nat.reduceEqDiff, Nat.reduceLeDiff, Nat.reduceBEq, Int.reduceAdd, Int.reduceSub, Int.reduceMul, Int.reduceNeg, Int.reduceLT, Int.reduceLE, Int.reduceEq, Int.reduceNe, Int.reduceBEq, Int.reduceToNat, Int.reduceTDiv, Int.reduceTMod, Int.reduceOfNat, reduceCtorEq, sty, sui]
  (repeat ((with_reducible refine And.intro ?_ ?_); (first | omega | exact True.intro | with_reducible rfl | decide | assumption | rfl)))
  refine hK _ ?_; clear hK K
  refine AWp.reg p_sha_Pad_5 [] s_sha_Pad_5 rfl rfl fun K hK => st_of ?_
  simp only [s_sha_Pad_5, wT, Bool.not_eq_true, ty, zr, Nat.reduceAdd, Nat.reduceSub, Nat.reduceMul, Nat.reduceMod, Nat.reduceDiv, Nat.reduceEqDiff, Nat.reduceLeDiff, Nat.reduceBEq, Int.reduceAdd, Int.reduceSub, Int.reduceMul, Int.reduceNeg, Int.reduceLT, Int.reduceLE, Int.reduceEq, Int.reduceNe, Int.reduceBEq, Int.reduceToNat, Int.reduceTDiv, Int.reduceTMod, Int.reduceOfNat, reduceCtorEq, sty, sui]
  (repeat ((with_reducible refine And.intro ?_ ?_); (first | omega | exact True.intro | with_reducible rfl | decide | assumption | rfl)))
  refine hK _ ?_; clear hK K
  refine AWp.grp fun G26 hG26 => ?_
  refine AWp.reg p_sha_Pad_6 [] s_sha_Pad_6 rfl rfl fun K hK => st_of ?_
  simp only [s_sha_Pad_6, wT, Bool.not_eq_true, ty, zr, Nat.reduceAdd, Nat.reduceSub, Nat.reduceMul, Nat.reduceMod, Nat.reduceDiv, Nat.reduceEqDiff, Nat.reduceLeDiff, Nat.reduceBEq, Int.reduceAdd, Int.reduceSub, Int.reduceMul, Int.reduceNeg, Int.reduceLT, Int.reduceLE, Int.reduceEq, Int.reduceNe, Int.reduceBEq, Int.reduceToNat, Int.reduceTDiv, Int.reduceTMod, Int.reduceOfNat, reduceCtorEq, sty, sui]
  refine hK _ ?_; clear hK K
  refine AWp.lopX (fun i => ⟨[(0, .slice f (.ext x) o b.length 1), (3, .int .i64 (b.length + 9 + (padZ b.length : Nat))), (4, .slice true (.own 0) 0 (b.length + 9 + padZ b.length) 1), (24, .int .i64 i)], [some (.ints .u8 (padI b i))]⟩) (8) ?_ fun X0 hX0 i hn0 => ?_
  · simp only [padI_zero]
    exact Le.ofA
  refine AWp.reg p_sha_Pad_7 [] s_sha_Pad_7 rfl rfl fun K hK => st_of ?_
  simp only [s_sha_Pad_7, wT, Bool.not_eq_true, ty, zr, Nat.reduceAdd, Nat.reduceSub, Nat.reduceMul, Nat.reduceMod, Nat.reduceDiv, Nat.reduceEqDiff, Nat.reduceLeDiff, Nat.reduceBEq, Int.reduceAdd, Int.reduceSub, Int.reduceMul, Int.reduceNeg, Int.reduceLT, Int.reduceLE, Int.reduceEq, Int.reduceNe, Int.reduceBEq, Int.reduceToNat, Int.reduceTDiv, Int.reduceTMod, Int.reduceOfNat, reduceCtorEq, sty, sui]
  refine hK _ ?_; clear hK K
  refine AWp.test rfl (fun hb => ?_) (fun hb => ?_)
  · try simp only [decide_eq_true_eq, decide_eq_false_iff_not, beq_iff_eq, bne_iff_ne, ne_eq, Bool.not_eq_true, beq_eq_false_iff_ne, bne_eq_false_iff_eq, Bool.not_eq_false, Bool.not_eq_eq_eq_not, Bool.not_true, Bool.not_false] at hb
    refine AWp.blk fun Y1 hY1 => ?_
    refine AWp.reg p_sha_Pad_8 [] s_sha_Pad_8 rfl rfl fun K hK => st_of ?_
    simp only [s_sha_Pad_8, wT, Bool.not_eq_true, ty, zr, Nat.reduceAdd, Nat.reduceSub, Nat.reduceMul, Nat.reduceMod, Nat.reduceDiv, Nat.reduceEqDiff, Nat.reduceLeDiff, Nat.reduceBEq, Int.reduceAdd, Int.reduceSub, Int.reduceMul, Int.reduceNeg, Int.reduceLT, Int.reduceLE, Int.reduceEq, Int.reduceNe, Int.reduceBEq, Int.reduceToNat, Int.reduceTDiv, Int.reduceTMod, Int.reduceOfNat, reduceCtorEq, sty, sui]
    refine hK _ ?_; clear hK K
    refine AWp.regE p_sha_Pad_9 [] s_sha_Pad_9 rfl rfl (st_of ?_)
    simp only [s_sha_Pad_9, wT, Bool.not_eq_true, ty, zr, Nat.reduceAdd, Nat.reduceSub, Nat.reduceMul, Nat.reduceMod, Nat.reduceDiv, Nat.reduceEqDiff, Nat.reduceLeDiff, Nat.reduceBEq, Int.reduceAdd, Int.reduceSub, Int.reduceMul, Int.reduceNeg, Int.reduceLT, Int.reduceLE, Int.reduceEq, Int.reduceNe, Int.reduceBEq, Int.reduceToNat, Int.reduceTDiv, Int.reduceTMod, Int.reduceOfNat, reduceCtorEq, sty, sui]
    try simp (disch := first | omega | (simp only [List.length_set, List.length_replicate, outS_len, padI_len]; first | done | omega)) only [aT, Int.reduceToNat, List.length_set, List.length_replicate, outS_len, padI_len]
    (repeat ((with_reducible refine And.intro ?_ ?_); (first | omega | exact True.intro | with_reducible rfl | decide | assumption | rfl)))
    try simp only [thenQ, bq, lq, lf, iq, gq, Nat.reduceEqDiff, if_true, if_false]
    refine hY1 _ ?_
    try clear hY1 Y1
    refine AWp.regE p_sha_Pad_10 [] s_sha_Pad_10 rfl rfl (st_of ?_)
    simp only [s_sha_Pad_10, wT, Bool.not_eq_true, ty, zr, Nat.reduceAdd, Nat.reduceSub, Nat.reduceMul, Nat.reduceMod, Nat.reduceDiv, Nat.reduceEqDiff, Nat.reduceLeDiff, Nat.reduceBEq, Int.reduceAdd, Int.reduceSub, Int.reduceMul, Int.reduceNeg, Int.reduceLT, Int.reduceLE, Int.reduceEq, Int.reduceNe, Int.reduceBEq, Int.reduceToNat, Int.reduceTDiv, Int.reduceTMod, Int.reduceOfNat, reduceCtorEq, sty, sui]
    try simp (disch := first | omega | (simp only [List.length_set, List.length_replicate, outS_len, padI_len]; first | done | omega)) only [aT, Int.reduceToNat, List.length_set, List.length_replicate, outS_len, padI_len]
    try simp only [thenQ, bq, lq, lf, iq, gq, Nat.reduceEqDiff, if_true, if_false]
    simp only [padI_succ, e4]
    first | exact ⟨by omega, Le.ofA⟩ | exact Le.ofA
  · try simp only [decide_eq_true_eq, decide_eq_false_iff_not, beq_iff_eq, bne_iff_ne, ne_eq, Bool.not_eq_true, beq_eq_false_iff_ne, bne_eq_false_iff_eq, Bool.not_eq_false, Bool.not_eq_eq_eq_not, Bool.not_true, Bool.not_false] at hb
    try simp only [thenQ, bq, lq, lf, iq, gq, Nat.reduceEqDiff, if_true, if_false]
    refine hX0 _ ?_
    try clear hX0 X0
    obtain rfl : i = 8 := by omega
    try simp only [thenQ, bq, lq, lf, iq, gq, Nat.reduceEqDiff, if_true, if_false]
    refine hG26 _ ?_
    try clear hG26 G26
    refine AWp.reg p_sha_Pad_11 [] s_sha_Pad_11 rfl rfl fun K hK => st_of ?_
    simp only [s_sha_Pad_11, wT, Bool.not_eq_true, ty, zr, Nat.reduceAdd, Nat.reduceSub, Nat.reduceMul, Nat.reduceMod, Nat.reduceDiv, Nat.reduceEqDiff, Nat.reduceLeDiff, Nat.reduceBEq, Int.reduceAdd, Int.reduceSub, Int.reduceMul, Int.reduceNeg, Int.reduceLT, Int.reduceLE, Int.reduceEq, Int.reduceNe, Int.reduceBEq, Int.reduceToNat, Int.reduceTDiv, Int.reduceTMod, Int.reduceOfNat, reduceCtorEq, sty, sui]
    refine hK _ ?_; clear hK K
    refine AWp.ret ?_
    try simp only [thenQ, bq, lq, lf, iq, gq, Nat.reduceEqDiff, if_true, if_false]
    simp only [endQ, rs_sha_Pad, resC, one, wT, Bool.not_eq_true, ty, zr, Nat.reduceAdd, Nat.reduceSub, Nat.reduceMul, Nat.reduceMod, Nat.reduceDiv, Nat.reduceEqDiff, Nat.reduceLeDiff, Nat.reduceBEq, Int.reduceAdd, Int.reduceSub, Int.reduceMul, Int.reduceNeg, Int.reduceLT, Int.reduceLE, Int.reduceEq, Int.reduceNe, Int.reduceBEq, Int.reduceToNat, Int.reduceTDiv, Int.reduceTMod, Int.reduceOfNat, reduceCtorEq, sty, sui]
    rw [← padI_eq b (by omega), ← e3]
    refine ⟨[0], by decide, by simp, by rfl, ?_⟩; (repeat' (first | exact trivial | rfl | omega | apply And.intro | (simp [AV.All, AV.AllL, inS, AV.map, AV.mapL, renS, selRows, selRow, Row.map, Row.All, mapL_flat, mapL_flat1, allL_flat, allL_flat1]; done)))
theorem sum_ok {α : Type} (E : α → Option (Row α)) (x : α) (l b : List Int) (hx : E x = some (.ints .u8 l)) (o : Nat) (ho : o + b.length ≤ l.length) (hs : sub l o b.length = b) (hl : b.length ≤ 1099511627776) (f : Bool) :
    FnOk Try.prog n_sha_Sum E [.slice f (.ext x) o b.length 1] [] (.ints .u8 (sumL b)) [] := by
  have hfi : firstL.length = 8 := rfl
  have hpl := padL_mod b
  unfold sumL
  generalize hN : (b.length + 72) / 64 = N at hpl
  have hfl := foldN_len firstL (padL b) rfl N
  refine FnOk.pure func_sha_Sum call_sha_Sum (body := _) rfl nt_sha_Sum (by simp) (by simp [AV.solid, AV.solidL]) ?_
  refine AWp.reg p_sha_Sum_0 [] s_sha_Sum_0 rfl rfl fun K hK => st_of ?_
  simp only [s_sha_Sum_0, wT, Bool.not_eq_true, ty, zr, Nat.reduceAdd, Nat.reduceSub, Nat.reduceMul, Nat.reduceMod, Nat.reduceDiv, Nat.reduceEqDiff, Nat.reduceLeDiff, Nat.reduceBEq, Int.reduceAdd, Int.reduceSub, Int.reduceMul, Int.reduceNeg, Int.reduceLT, Int.reduceLE, Int.reduceEq, Int.reduceNe, Int.reduceBEq, Int.reduceToNat, Int.reduceTDiv, Int.reduceTMod, Int.reduceOfNat, reduceCtorEq, sty, sui]
  refine hK _ ?_; clear hK K
  refine AWp.reg p_sha_Sum_1 [] s_sha_Sum_1 rfl rfl fun K hK => st_of ?_
  simp only [s_sha_Sum_1, wT, Bool.not_eq_true, ty, zr, Nat.reduceAdd, Nat.reduceSub, Nat.reduceMul, Nat.reduceMod, Nat.reduceDiv, Nat.reduceEqDiff, Nat.reduceLeDiff, Nat.reduceBEq, Int.reduceAdd, Int.reduceSub, Int.reduceMul, Int.reduceNeg, Int.reduceLT, Int.reduceLE, Int.reduceEq, Int.reduceNe, Int.reduceBEq, Int.reduceToNat, Int.reduceTDiv, Int.reduceTMod, Int.reduceOfNat, reduceCtorEq, sty, sui]
  refine st_call fun K1 hK1 => ?_
  simp only [calleeC, wT, Bool.not_eq_true, ty, zr, Nat.reduceAdd, Nat.reduceSub, Nat.reduceMul, Nat.reduceMod, Nat.reduceDiv, Nat.reduceEqDiff, Nat.reduceLeDiff, Nat.reduceBEq, Int.reduceAdd, Int.reduceSub, Int.reduceMul, Int.reduceNeg, Int.reduceLT, Int.reduceLE, Int.reduceEq, Int.reduceNe, Int.reduceBEq, Int.reduceToNat, Int.reduceTDiv, Int.reduceTMod, Int.reduceOfNat, reduceCtorEq, sty, sui]
  refine hK1 _ _ ?_
  clear hK1 K1
  simp only [CallTo, AV.mapL, AV.map, mapL_flat, mapL_flat1]
  refine ⟨_, _, first_ok _, ?_⟩
  simp only [wT, Bool.not_eq_true, ty, zr, Nat.reduceAdd, Nat.reduceSub, Nat.reduceMul, Nat.reduceMod, Nat.reduceDiv, Nat.reduceEqDiff, Nat.reduceLeDiff, Nat.reduceBEq, Int.reduceAdd, Int.reduceSub, Int.reduceMul, Int.reduceNeg, Int.reduceLT, Int.reduceLE, Int.reduceEq, Int.reduceNe, Int.reduceBEq, Int.reduceToNat, Int.reduceTDiv, Int.reduceTMod, Int.reduceOfNat, reduceCtorEq, sty, sui]
  try simp (disch := first | omega | (simp only [List.length_set, List.length_replicate, outS_len, padI_len]; first | done | omega)) only [aT, Int.reduceToNat, List.length_set, List.length_replicate, outS_len, padI_len]
  (repeat ((with_reducible refine And.intro ?_ ?_); (first | omega | exact True.intro | with_reducible rfl | decide | assumption | rfl)))
  refine hK _ ?_; clear hK K
  refine AWp.grp fun G16 hG16 => ?_
  refine AWp.reg p_sha_Sum_2 [] s_sha_Sum_2 rfl rfl fun K hK => st_of ?_
  simp only [s_sha_Sum_2, wT, Bool.not_eq_true, ty, zr, Nat.reduceAdd, Nat.reduceSub, Nat.reduceMul, Nat.reduceMod, Nat.reduceDiv, Nat.reduceEqDiff, Nat.reduceLeDiff, Nat.reduceBEq, Int.reduceAdd, Int.reduceSub, Int.reduceMul, Int.reduceNeg, Int.reduceLT, Int.reduceLE, Int.reduceEq, Int.reduceNe, Int.reduceBEq, Int.reduceToNat, Int.reduceTDiv, Int.reduceTMod, Int.reduceOfNat, reduceCtorEq, sty, sui]
  refine st_call fun K1 hK1 => ?_
  simp only [calleeC, wT, Bool.not_eq_true, ty, zr, Nat.reduceAdd, Nat.reduceSub, Nat.reduceMul, Nat.reduceMod, Nat.reduceDiv, Nat.reduceEqDiff, Nat.reduceLeDiff, Nat.reduceBEq, Int.reduceAdd, Int.reduceSub, Int.reduceMul, Int.reduceNeg, Int.reduceLT, Int.reduceLE, Int.reduceEq, Int.reduceNe, Int.reduceBEq, Int.reduceToNat, Int.reduceTDiv, Int.reduceTMod, Int.reduceOfNat, reduceCtorEq, sty, sui]
  refine hK1 _ _ ?_
  clear hK1 K1
  simp only [CallTo, AV.mapL, AV.map, mapL_flat, mapL_flat1]
  refine ⟨_, _, pad_ok _ _ l b (by simp only [Sy.look, hx, Option.map_some, Row.map]) o ho hs hl f, ?_⟩
  simp only [wT, Bool.not_eq_true, ty, zr, Nat.reduceAdd, Nat.reduceSub, Nat.reduceMul, Nat.reduceMod, Nat.reduceDiv, Nat.reduceEqDiff, Nat.reduceLeDiff, Nat.reduceBEq, Int.reduceAdd, Int.reduceSub, Int.reduceMul, Int.reduceNeg, Int.reduceLT, Int.reduceLE, Int.reduceEq, Int.reduceNe, Int.reduceBEq, Int.reduceToNat, Int.reduceTDiv, Int.reduceTMod, Int.reduceOfNat, reduceCtorEq, sty, sui]
  simp only [hN]
  refine hK _ ?_; clear hK K
  refine AWp.lopX (fun n => ⟨[(2, .ptr (.own 0) 0), (3, .ptr (.own 1) 0), (4, .slice false (.own 2) (64 * n) (64 * N - 64 * n) 1)], [some (.ints .u8 (List.replicate 32 0)), some (.ints .u32 (foldN firstL (padL b) n)), some (.ints .u8 (padL b))]⟩) (N) ?_ fun X0 hX0 n hn0 => ?_
  · refine Le.trans (Le.weakF 4 rfl) ?_
    simp only [foldN_zero]
    exact Le.ofA
  have hfn := foldN_len firstL (padL b) rfl n
  have hcl := compL_len (foldN firstL (padL b) n) (sub (padL b) (64 * n) 64) hfn
  refine AWp.grp fun G36 hG36 => ?_
  refine AWp.reg p_sha_Sum_3 [] s_sha_Sum_3 rfl rfl fun K hK => st_of ?_
  simp only [s_sha_Sum_3, wT, Bool.not_eq_true, ty, zr, Nat.reduceAdd, Nat.reduceSub, Nat.reduceMul, Nat.reduceMod, Nat.reduceDiv, Nat.reduceEqDiff, Nat.reduceLeDiff, Nat.reduceBEq, Int.reduceAdd, Int.reduceSub, Int.reduceMul, Int.reduceNeg, Int.reduceLT, Int.reduceLE, Int.reduceEq, Int.reduceNe, Int.reduceBEq, Int.reduceToNat, Int.reduceTDiv, Int.reduceTMod, Int.reduceOfNat, reduceCtorEq, sty, sui]
  refine hK _ ?_; clear hK K
  refine AWp.testE rfl (fun hb => ?_) (fun hb => ?_)
  · try simp only [decide_eq_true_eq, decide_eq_false_iff_not, beq_iff_eq, bne_iff_ne, ne_eq, Bool.not_eq_true, beq_eq_false_iff_ne, bne_eq_false_iff_eq, Bool.not_eq_false, Bool.not_eq_eq_eq_not, Bool.not_true, Bool.not_false] at hb
    try simp only [thenQ, bq, lq, lf, iq, gq, Nat.reduceEqDiff, if_true, if_false]
    refine hG36 _ ?_
    try clear hG36 G36
    refine AWp.blk fun Y1 hY1 => ?_
    refine AWp.drwPE mix p_sha_Sum_5 q_sha_Sum_5 g_sha_Sum_5 s_sha_Sum_5 rfl (by decide +kernel) (sp_of ?_)
    simp only [s_sha_Sum_5, wT, Bool.not_eq_true, ty, zr, Nat.reduceAdd, Nat.reduceSub, Nat.reduceMul, Nat.reduceMod, Nat.reduceDiv, Nat.reduceEqDiff, Nat.reduceLeDiff, Nat.reduceBEq, Int.reduceAdd, Int.reduceSub, Int.reduceMul, Int.reduceNeg, Int.reduceLT, Int.reduceLE, Int.reduceEq, Int.reduceNe, Int.reduceBEq, Int.reduceToNat, Int.reduceTDiv, Int.reduceTMod, Int.reduceOfNat, reduceCtorEq, sty, sui]
    try simp (disch := first | omega | (simp only [List.length_set, List.length_replicate, outS_len, padI_len]; first | done | omega)) only [aT, Int.reduceToNat, List.length_set, List.length_replicate, outS_len, padI_len]
    (repeat ((with_reducible refine And.intro ?_ ?_); (first | omega | exact True.intro | with_reducible rfl | decide | assumption | rfl)))
    refine sp_call fun K1 hK1 => ?_
    simp only [calleeC, wT, Bool.not_eq_true, ty, zr, Nat.reduceAdd, Nat.reduceSub, Nat.reduceMul, Nat.reduceMod, Nat.reduceDiv, Nat.reduceEqDiff, Nat.reduceLeDiff, Nat.reduceBEq, Int.reduceAdd, Int.reduceSub, Int.reduceMul, Int.reduceNeg, Int.reduceLT, Int.reduceLE, Int.reduceEq, Int.reduceNe, Int.reduceBEq, Int.reduceToNat, Int.reduceTDiv, Int.reduceTMod, Int.reduceOfNat, reduceCtorEq, sty, sui]
    refine hK1 _ _ ?_
    clear hK1 K1
    simp only [CallTo, AV.mapL, AV.map, mapL_flat, mapL_flat1]
    refine ⟨_, _, comp_ok _ _ _ hfn (Sy.length_sub (by omega)), ?_⟩
    simp only [wT, Bool.not_eq_true, ty, zr, Nat.reduceAdd, Nat.reduceSub, Nat.reduceMul, Nat.reduceMod, Nat.reduceDiv, Nat.reduceEqDiff, Nat.reduceLeDiff, Nat.reduceBEq, Int.reduceAdd, Int.reduceSub, Int.reduceMul, Int.reduceNeg, Int.reduceLT, Int.reduceLE, Int.reduceEq, Int.reduceNe, Int.reduceBEq, Int.reduceToNat, Int.reduceTDiv, Int.reduceTMod, Int.reduceOfNat, reduceCtorEq, sty, sui]
    try simp (disch := first | omega | (simp only [List.length_set, List.length_replicate, outS_len, padI_len]; first | done | omega)) only [aT, Int.reduceToNat, List.length_set, List.length_replicate, outS_len, padI_len]
    (repeat ((with_reducible refine And.intro ?_ ?_); (first | omega | exact True.intro | with_reducible rfl | decide | assumption | rfl)))
    try simp only [thenQ, bq, lq, lf, iq, gq, Nat.reduceEqDiff, if_true, if_false]
    refine hY1 _ ?_
    try clear hY1 Y1
    refine AWp.regE p_sha_Sum_4 [] s_sha_Sum_4 rfl rfl (st_of ?_)
    simp only [s_sha_Sum_4, wT, Bool.not_eq_true, ty, zr, Nat.reduceAdd, Nat.reduceSub, Nat.reduceMul, Nat.reduceMod, Nat.reduceDiv, Nat.reduceEqDiff, Nat.reduceLeDiff, Nat.reduceBEq, Int.reduceAdd, Int.reduceSub, Int.reduceMul, Int.reduceNeg, Int.reduceLT, Int.reduceLE, Int.reduceEq, Int.reduceNe, Int.reduceBEq, Int.reduceToNat, Int.reduceTDiv, Int.reduceTMod, Int.reduceOfNat, reduceCtorEq, sty, sui]
    (repeat ((with_reducible refine And.intro ?_ ?_); (first | omega | exact True.intro | with_reducible rfl | decide | assumption | rfl)))
    try simp only [thenQ, bq, lq, lf, iq, gq, Nat.reduceEqDiff, if_true, if_false]
    simp only [foldN_succ]
    first | exact ⟨by omega, Le.ofA⟩ | exact Le.ofA
  · try simp only [decide_eq_true_eq, decide_eq_false_iff_not, beq_iff_eq, bne_iff_ne, ne_eq, Bool.not_eq_true, beq_eq_false_iff_ne, bne_eq_false_iff_eq, Bool.not_eq_false, Bool.not_eq_eq_eq_not, Bool.not_true, Bool.not_false] at hb
    try simp only [thenQ, bq, lq, lf, iq, gq, Nat.reduceEqDiff, if_true, if_false]
    refine hX0 _ ?_
    try clear hX0 X0
    rw [show n = N by omega]
    try simp only [thenQ, bq, lq, lf, iq, gq, Nat.reduceEqDiff, if_true, if_false]
    refine hG16 _ ?_
    try clear hG16 G16
    refine AWp.reg p_sha_Sum_6 [] s_sha_Sum_6 rfl rfl fun K hK => st_of ?_
    simp only [s_sha_Sum_6, wT, Bool.not_eq_true, ty, zr, Nat.reduceAdd, Nat.reduceSub, Nat.reduceMul, Nat.reduceMod, Nat.reduceDiv, Nat.reduceEqDiff, Nat.reduceLeDiff, Nat.reduceBEq, Int.reduceAdd, Int.reduceSub, Int.reduceMul, Int.reduceNeg, Int.reduceLT, Int.reduceLE, Int.reduceEq, Int.reduceNe, Int.reduceBEq, Int.reduceToNat, Int.reduceTDiv, Int.reduceTMod, Int.reduceOfNat, reduceCtorEq, sty, sui]
    refine hK _ ?_; clear hK K
    refine AWp.grp fun G79 hG79 => ?_
    refine AWp.reg p_sha_Sum_7 [] s_sha_Sum_7 rfl rfl fun K hK => st_of ?_
    simp only [s_sha_Sum_7, wT, Bool.not_eq_true, ty, zr, Nat.reduceAdd, Nat.reduceSub, Nat.reduceMul, Nat.reduceMod, Nat.reduceDiv, Nat.reduceEqDiff, Nat.reduceLeDiff, Nat.reduceBEq, Int.reduceAdd, Int.reduceSub, Int.reduceMul, Int.reduceNeg, Int.reduceLT, Int.reduceLE, Int.reduceEq, Int.reduceNe, Int.reduceBEq, Int.reduceToNat, Int.reduceTDiv, Int.reduceTMod, Int.reduceOfNat, reduceCtorEq, sty, sui]
    refine hK _ ?_; clear hK K
    refine AWp.lopX (fun i => ⟨[(2, .ptr (.own 0) 0), (3, .ptr (.own 1) 0), (5, .ptr (.own 3) 0), (21, .int .i64 i)], [some (.ints .u8 (List.replicate 32 0)), some (.ints .u32 (foldN firstL (padL b) N)), none, some (.ints .u8 (outS (foldN firstL (padL b) N) i))]⟩) (32) ?_ fun X2 hX2 i hn2 => ?_
    · simp only [outS_zero]
      exact Le.ofA
    refine AWp.reg p_sha_Sum_8 [] s_sha_Sum_8 rfl rfl fun K hK => st_of ?_
    simp only [s_sha_Sum_8, wT, Bool.not_eq_true, ty, zr, Nat.reduceAdd, Nat.reduceSub, Nat.reduceMul, Nat.reduceMod, Nat.reduceDiv, Nat.reduceEqDiff, Nat.reduceLeDiff, Nat.reduceBEq, Int.reduceAdd, Int.reduceSub, Int.reduceMul, Int.reduceNeg, Int.reduceLT, Int.reduceLE, Int.reduceEq, Int.reduceNe, Int.reduceBEq, Int.reduceToNat, Int.reduceTDiv, Int.reduceTMod, Int.reduceOfNat, reduceCtorEq, sty, sui]
    refine hK _ ?_; clear hK K
    refine AWp.test rfl (fun hb => ?_) (fun hb => ?_)
    · try simp only [decide_eq_true_eq, decide_eq_false_iff_not, beq_iff_eq, bne_iff_ne, ne_eq, Bool.not_eq_true, beq_eq_false_iff_ne, bne_eq_false_iff_eq, Bool.not_eq_false, Bool.not_eq_eq_eq_not, Bool.not_true, Bool.not_false] at hb
      refine AWp.blk fun Y3 hY3 => ?_
      refine AWp.reg p_sha_Sum_9 [] s_sha_Sum_9 rfl rfl fun K hK => st_of ?_
      simp only [s_sha_Sum_9, wT, Bool.not_eq_true, ty, zr, Nat.reduceAdd, Nat.reduceSub, Nat.reduceMul, Nat.reduceMod, Nat.reduceDiv, Nat.reduceEqDiff, Nat.reduceLeDiff, Nat.reduceBEq, Int.reduceAdd, Int.reduceSub, Int.reduceMul, Int.reduceNeg, Int.reduceLT, Int.reduceLE, Int.reduceEq, Int.reduceNe, Int.reduceBEq, Int.reduceToNat, Int.reduceTDiv, Int.reduceTMod, Int.reduceOfNat, reduceCtorEq, sty, sui]
      refine hK _ ?_; clear hK K
      refine AWp.regE p_sha_Sum_10 [] s_sha_Sum_10 rfl rfl (st_of ?_)
      simp only [s_sha_Sum_10, wT, Bool.not_eq_true, ty, zr, Nat.reduceAdd, Nat.reduceSub, Nat.reduceMul, Nat.reduceMod, Nat.reduceDiv, Nat.reduceEqDiff, Nat.reduceLeDiff, Nat.reduceBEq, Int.reduceAdd, Int.reduceSub, Int.reduceMul, Int.reduceNeg, Int.reduceLT, Int.reduceLE, Int.reduceEq, Int.reduceNe, Int.reduceBEq, Int.reduceToNat, Int.reduceTDiv, Int.reduceTMod, Int.reduceOfNat, reduceCtorEq, sty, sui]
      try simp (disch := first | omega | (simp only [List.length_set, List.length_replicate, outS_len, padI_len]; first | done | omega)) only [aT, Int.reduceToNat, List.length_set, List.length_replicate, outS_len, padI_len]
      (repeat ((with_reducible refine And.intro ?_ ?_); (first | omega | exact True.intro | with_reducible rfl | decide | assumption | rfl)))
      try simp only [thenQ, bq, lq, lf, iq, gq, Nat.reduceEqDiff, if_true, if_false]
      refine hY3 _ ?_
      try clear hY3 Y3
      refine AWp.regE p_sha_Sum_11 [] s_sha_Sum_11 rfl rfl (st_of ?_)
      simp only [s_sha_Sum_11, wT, Bool.not_eq_true, ty, zr, Nat.reduceAdd, Nat.reduceSub, Nat.reduceMul, Nat.reduceMod, Nat.reduceDiv, Nat.reduceEqDiff, Nat.reduceLeDiff, Nat.reduceBEq, Int.reduceAdd, Int.reduceSub, Int.reduceMul, Int.reduceNeg, Int.reduceLT, Int.reduceLE, Int.reduceEq, Int.reduceNe, Int.reduceBEq, Int.reduceToNat, Int.reduceTDiv, Int.reduceTMod, Int.reduceOfNat, reduceCtorEq, sty, sui]
      try simp (disch := first | omega | (simp only [List.length_set, List.length_replicate, outS_len, padI_len]; first | done | omega)) only [aT, Int.reduceToNat, List.length_set, List.length_replicate, outS_len, padI_len]
      try simp only [thenQ, bq, lq, lf, iq, gq, Nat.reduceEqDiff, if_true, if_false]
      simp only [outS_succ, outB]
      first | exact ⟨by omega, Le.ofA⟩ | exact Le.ofA
    · try simp only [decide_eq_true_eq, decide_eq_false_iff_not, beq_iff_eq, bne_iff_ne, ne_eq, Bool.not_eq_true, beq_eq_false_iff_ne, bne_eq_false_iff_eq, Bool.not_eq_false, Bool.not_eq_eq_eq_not, Bool.not_true, Bool.not_false] at hb
      try simp only [thenQ, bq, lq, lf, iq, gq, Nat.reduceEqDiff, if_true, if_false]
      refine hX2 _ ?_
      try clear hX2 X2
      obtain rfl : i = 32 := by omega
      try simp only [thenQ, bq, lq, lf, iq, gq, Nat.reduceEqDiff, if_true, if_false]
      refine hG79 _ ?_
      try clear hG79 G79
      refine AWp.reg p_sha_Sum_12 [] s_sha_Sum_12 rfl rfl fun K hK => st_of ?_
      simp only [s_sha_Sum_12, wT, Bool.not_eq_true, ty, zr, Nat.reduceAdd, Nat.reduceSub, Nat.reduceMul, Nat.reduceMod, Nat.reduceDiv, Nat.reduceEqDiff, Nat.reduceLeDiff, Nat.reduceBEq, Int.reduceAdd, Int.reduceSub, Int.reduceMul, Int.reduceNeg, Int.reduceLT, Int.reduceLE, Int.reduceEq, Int.reduceNe, Int.reduceBEq, Int.reduceToNat, Int.reduceTDiv, Int.reduceTMod, Int.reduceOfNat, reduceCtorEq, sty, sui]
      try simp (disch := first | omega | (simp only [List.length_set, List.length_replicate, outS_len, padI_len]; first | done | omega)) only [aT, Int.reduceToNat, List.length_set, List.length_replicate, outS_len, padI_len]
      (repeat ((with_reducible refine And.intro ?_ ?_); (first | omega | exact True.intro | with_reducible rfl | decide | assumption | rfl)))
      refine hK _ ?_; clear hK K
      refine AWp.ret ?_
      try simp only [thenQ, bq, lq, lf, iq, gq, Nat.reduceEqDiff, if_true, if_false]
      simp only [endQ, rs_sha_Sum, resC, one, wT, Bool.not_eq_true, ty, zr, Nat.reduceAdd, Nat.reduceSub, Nat.reduceMul, Nat.reduceMod, Nat.reduceDiv, Nat.reduceEqDiff, Nat.reduceLeDiff, Nat.reduceBEq, Int.reduceAdd, Int.reduceSub, Int.reduceMul, Int.reduceNeg, Int.reduceLT, Int.reduceLE, Int.reduceEq, Int.reduceNe, Int.reduceBEq, Int.reduceToNat, Int.reduceTDiv, Int.reduceTMod, Int.reduceOfNat, reduceCtorEq, sty, sui]
      try simp (disch := first | omega | (simp only [List.length_set, List.length_replicate, outS_len, padI_len]; first | done | omega)) only [aT, Int.reduceToNat, List.length_set, List.length_replicate, outS_len, padI_len]
      repeat' (first | exact True.intro | (with_reducible rfl) | (with_reducible apply And.intro) | omega | rfl)
end Go.Proofs.Ytdcbgmbpiekbgaa
