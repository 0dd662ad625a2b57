/- Contracts: Differ, of two trees of as many leaves. -/
import Derived.Test.YtdcbgmbpiekbgaaMer7
namespace Go.Proofs.Ytdcbgmbpiekbgaa
open Go Go.Proofs.Ytdcbgmbpiekbgaa.Sy
set_option linter.unusedSimpArgs false
set_option linter.unusedVariables false
set_option maxRecDepth 100000
set_option maxHeartbeats 1000000


theorem Differ_eq {α : Type} (E : α → Option (Row α)) (s t x y : α) (la lb : List Int) (n : Nat) (hs : E s = some (.mixed [.ptr x 0])) (ht : E t = some (.mixed [.ptr y 0])) (hx : TreeE E la x 0 n) (hy : TreeE E lb y 0 n) (hn : n ≤ 65536) :
    FnOk Try.prog n_merkle_Differ E [.ptr (.ext s) 0, .ptr (.ext t) 0] [] (.tuple [.slice true (.own 0) 0 (diffF la lb 0 n 0).1.length 1, .int .i64 (diffF la lb 0 n 0).2]) [some (.ints .i64 (diffF la lb 0 n 0).1)] := by
  have h1 := hx.pos
  refine FnOk.intro func_merkle_Differ call_merkle_Differ (body := _) rfl nt_merkle_Differ (by simp) ?_
  refine AWp.reg p_merkle_Differ_0 [] s_merkle_Differ_0 rfl rfl fun K hK => st_of ?_
  simp only [s_merkle_Differ_0, wT, Bool.not_eq_true, ty, zr, Nat.reduceAdd, Nat.reduceSub, Nat.reduceMul, Nat.reduceMod, Nat.reduceDiv, Nat.reduceEqDiff, Nat.reduceLeDiff, Nat.reduceBEq, Int.reduceAdd, Int.reduceSub, Int.reduceMul, Int.reduceNeg, Int.reduceLT, Int.reduceLE, Int.reduceEq, Int.reduceNe, Int.reduceBEq, Int.reduceToNat, Int.reduceTDiv, Int.reduceTMod, Int.reduceOfNat, reduceCtorEq, sty, sui]
  refine hK _ ?_; clear hK K
  refine AWp.grp fun G4 hG4 => ?_
  refine AWp.reg p_merkle_Differ_1 [] s_merkle_Differ_1 rfl rfl fun K hK => st_of ?_
  simp only [s_merkle_Differ_1, wT, Bool.not_eq_true, ty, zr, Nat.reduceAdd, Nat.reduceSub, Nat.reduceMul, Nat.reduceMod, Nat.reduceDiv, Nat.reduceEqDiff, Nat.reduceLeDiff, Nat.reduceBEq, Int.reduceAdd, Int.reduceSub, Int.reduceMul, Int.reduceNeg, Int.reduceLT, Int.reduceLE, Int.reduceEq, Int.reduceNe, Int.reduceBEq, Int.reduceToNat, Int.reduceTDiv, Int.reduceTMod, Int.reduceOfNat, reduceCtorEq, sty, sui]
  refine st_call fun K1 hK1 => ?_
  simp only [calleeC, wT, Bool.not_eq_true, ty, zr, Nat.reduceAdd, Nat.reduceSub, Nat.reduceMul, Nat.reduceMod, Nat.reduceDiv, Nat.reduceEqDiff, Nat.reduceLeDiff, Nat.reduceBEq, Int.reduceAdd, Int.reduceSub, Int.reduceMul, Int.reduceNeg, Int.reduceLT, Int.reduceLE, Int.reduceEq, Int.reduceNe, Int.reduceBEq, Int.reduceToNat, Int.reduceTDiv, Int.reduceTMod, Int.reduceOfNat, reduceCtorEq, sty, sui]
  refine hK1 _ _ ?_
  clear hK1 K1
  simp only [CallTo, AV.mapL, AV.map, mapL_flat, mapL_flat1]
  refine ⟨_, _, Len_top _ _ (.ext x) la n (by simp only [Sy.look, hs, Option.map_some, Row.map, AV.map, AV.mapL]) hx.look, ?_⟩
  simp only [wT, Bool.not_eq_true, ty, zr, Nat.reduceAdd, Nat.reduceSub, Nat.reduceMul, Nat.reduceMod, Nat.reduceDiv, Nat.reduceEqDiff, Nat.reduceLeDiff, Nat.reduceBEq, Int.reduceAdd, Int.reduceSub, Int.reduceMul, Int.reduceNeg, Int.reduceLT, Int.reduceLE, Int.reduceEq, Int.reduceNe, Int.reduceBEq, Int.reduceToNat, Int.reduceTDiv, Int.reduceTMod, Int.reduceOfNat, reduceCtorEq, sty, sui]
  refine st_call fun K1 hK1 => ?_
  simp only [calleeC, wT, Bool.not_eq_true, ty, zr, Nat.reduceAdd, Nat.reduceSub, Nat.reduceMul, Nat.reduceMod, Nat.reduceDiv, Nat.reduceEqDiff, Nat.reduceLeDiff, Nat.reduceBEq, Int.reduceAdd, Int.reduceSub, Int.reduceMul, Int.reduceNeg, Int.reduceLT, Int.reduceLE, Int.reduceEq, Int.reduceNe, Int.reduceBEq, Int.reduceToNat, Int.reduceTDiv, Int.reduceTMod, Int.reduceOfNat, reduceCtorEq, sty, sui]
  refine hK1 _ _ ?_
  clear hK1 K1
  simp only [CallTo, AV.mapL, AV.map, mapL_flat, mapL_flat1]
  refine ⟨_, _, Len_top _ _ (.ext y) lb n (by simp only [Sy.look, ht, Option.map_some, Row.map, AV.map, AV.mapL]) hy.look, ?_⟩
  simp only [wT, Bool.not_eq_true, ty, zr, Nat.reduceAdd, Nat.reduceSub, Nat.reduceMul, Nat.reduceMod, Nat.reduceDiv, Nat.reduceEqDiff, Nat.reduceLeDiff, Nat.reduceBEq, Int.reduceAdd, Int.reduceSub, Int.reduceMul, Int.reduceNeg, Int.reduceLT, Int.reduceLE, Int.reduceEq, Int.reduceNe, Int.reduceBEq, Int.reduceToNat, Int.reduceTDiv, Int.reduceTMod, Int.reduceOfNat, reduceCtorEq, sty, sui]
  refine hK _ ?_; clear hK K
  refine AWp.iteE rfl (fun hb => ?_) (fun hb => ?_)
  · try simp only [decide_eq_true_eq, decide_eq_false_iff_not, beq_iff_eq, bne_iff_ne, ne_eq, Bool.not_eq_true, beq_eq_false_iff_ne, bne_eq_false_iff_eq, Bool.not_eq_false, Bool.not_eq_eq_eq_not, Bool.not_true, Bool.not_false] at hb
    refine AWp.grp fun G27 hG27 => ?_
    refine AWp.reg p_merkle_Differ_2 [] s_merkle_Differ_2 rfl rfl fun K hK => st_of ?_
    simp only [s_merkle_Differ_2, wT, Bool.not_eq_true, ty, zr, Nat.reduceAdd, Nat.reduceSub, Nat.reduceMul, Nat.reduceMod, Nat.reduceDiv, Nat.reduceEqDiff, Nat.reduceLeDiff, Nat.reduceBEq, Int.reduceAdd, Int.reduceSub, Int.reduceMul, Int.reduceNeg, Int.reduceLT, Int.reduceLE, Int.reduceEq, Int.reduceNe, Int.reduceBEq, Int.reduceToNat, Int.reduceTDiv, Int.reduceTMod, Int.reduceOfNat, reduceCtorEq, sty, sui]
    refine st_call fun K1 hK1 => ?_
    simp only [calleeC, wT, Bool.not_eq_true, ty, zr, Nat.reduceAdd, Nat.reduceSub, Nat.reduceMul, Nat.reduceMod, Nat.reduceDiv, Nat.reduceEqDiff, Nat.reduceLeDiff, Nat.reduceBEq, Int.reduceAdd, Int.reduceSub, Int.reduceMul, Int.reduceNeg, Int.reduceLT, Int.reduceLE, Int.reduceEq, Int.reduceNe, Int.reduceBEq, Int.reduceToNat, Int.reduceTDiv, Int.reduceTMod, Int.reduceOfNat, reduceCtorEq, sty, sui]
    refine hK1 _ _ ?_
    clear hK1 K1
    simp only [CallTo, AV.mapL, AV.map, mapL_flat, mapL_flat1]
    refine ⟨_, _, Len_top _ _ (.ext x) la n (by simp only [Sy.look, hs, Option.map_some, Row.map, AV.map, AV.mapL]) hx.look, ?_⟩
    simp only [wT, Bool.not_eq_true, ty, zr, Nat.reduceAdd, Nat.reduceSub, Nat.reduceMul, Nat.reduceMod, Nat.reduceDiv, Nat.reduceEqDiff, Nat.reduceLeDiff, Nat.reduceBEq, Int.reduceAdd, Int.reduceSub, Int.reduceMul, Int.reduceNeg, Int.reduceLT, Int.reduceLE, Int.reduceEq, Int.reduceNe, Int.reduceBEq, Int.reduceToNat, Int.reduceTDiv, Int.reduceTMod, Int.reduceOfNat, reduceCtorEq, sty, sui]
    refine hK _ ?_; clear hK K
    refine AWp.iteE rfl (fun hb => ?_) (fun hb => ?_)
    · try simp only [decide_eq_true_eq, decide_eq_false_iff_not, beq_iff_eq, bne_iff_ne, ne_eq, Bool.not_eq_true, beq_eq_false_iff_ne, bne_eq_false_iff_eq, Bool.not_eq_false, Bool.not_eq_eq_eq_not, Bool.not_true, Bool.not_false] at hb
      exfalso; omega
    · try simp only [decide_eq_true_eq, decide_eq_false_iff_not, beq_iff_eq, bne_iff_ne, ne_eq, Bool.not_eq_true, beq_eq_false_iff_ne, bne_eq_false_iff_eq, Bool.not_eq_false, Bool.not_eq_eq_eq_not, Bool.not_true, Bool.not_false] at hb
      refine AWp.skip ?_
      try simp only [thenQ, bq, lq, lf, iq, gq, Nat.reduceEqDiff, if_true, if_false]
      refine hG27 _ ?_
      try clear hG27 G27
      refine AWp.reg p_merkle_Differ_4 [] s_merkle_Differ_4 rfl rfl fun K hK => st_of ?_
      simp only [s_merkle_Differ_4, wT, Bool.not_eq_true, ty, zr, Nat.reduceAdd, Nat.reduceSub, Nat.reduceMul, Nat.reduceMod, Nat.reduceDiv, Nat.reduceEqDiff, Nat.reduceLeDiff, Nat.reduceBEq, Int.reduceAdd, Int.reduceSub, Int.reduceMul, Int.reduceNeg, Int.reduceLT, Int.reduceLE, Int.reduceEq, Int.reduceNe, Int.reduceBEq, Int.reduceToNat, Int.reduceTDiv, Int.reduceTMod, Int.reduceOfNat, reduceCtorEq, sty, sui]
      refine st_call fun K1 hK1 => ?_
      simp only [calleeC, wT, Bool.not_eq_true, ty, zr, Nat.reduceAdd, Nat.reduceSub, Nat.reduceMul, Nat.reduceMod, Nat.reduceDiv, Nat.reduceEqDiff, Nat.reduceLeDiff, Nat.reduceBEq, Int.reduceAdd, Int.reduceSub, Int.reduceMul, Int.reduceNeg, Int.reduceLT, Int.reduceLE, Int.reduceEq, Int.reduceNe, Int.reduceBEq, Int.reduceToNat, Int.reduceTDiv, Int.reduceTMod, Int.reduceOfNat, reduceCtorEq, sty, sui]
      refine hK1 _ _ ?_
      clear hK1 K1
      simp only [CallTo, AV.mapL, AV.map, mapL_flat, mapL_flat1]
      refine ⟨_, _, root_top _ _ (.ext x) (by simp only [Sy.look, hs, Option.map_some, Row.map, AV.map, AV.mapL]), ?_⟩
      simp only [wT, Bool.not_eq_true, ty, zr, Nat.reduceAdd, Nat.reduceSub, Nat.reduceMul, Nat.reduceMod, Nat.reduceDiv, Nat.reduceEqDiff, Nat.reduceLeDiff, Nat.reduceBEq, Int.reduceAdd, Int.reduceSub, Int.reduceMul, Int.reduceNeg, Int.reduceLT, Int.reduceLE, Int.reduceEq, Int.reduceNe, Int.reduceBEq, Int.reduceToNat, Int.reduceTDiv, Int.reduceTMod, Int.reduceOfNat, reduceCtorEq, sty, sui]
      refine st_call fun K1 hK1 => ?_
      simp only [calleeC, wT, Bool.not_eq_true, ty, zr, Nat.reduceAdd, Nat.reduceSub, Nat.reduceMul, Nat.reduceMod, Nat.reduceDiv, Nat.reduceEqDiff, Nat.reduceLeDiff, Nat.reduceBEq, Int.reduceAdd, Int.reduceSub, Int.reduceMul, Int.reduceNeg, Int.reduceLT, Int.reduceLE, Int.reduceEq, Int.reduceNe, Int.reduceBEq, Int.reduceToNat, Int.reduceTDiv, Int.reduceTMod, Int.reduceOfNat, reduceCtorEq, sty, sui]
      refine hK1 _ _ ?_
      clear hK1 K1
      simp only [CallTo, AV.mapL, AV.map, mapL_flat, mapL_flat1]
      refine ⟨_, _, root_top _ _ (.ext y) (by simp only [Sy.look, ht, Option.map_some, Row.map, AV.map, AV.mapL]), ?_⟩
      simp only [wT, Bool.not_eq_true, ty, zr, Nat.reduceAdd, Nat.reduceSub, Nat.reduceMul, Nat.reduceMod, Nat.reduceDiv, Nat.reduceEqDiff, Nat.reduceLeDiff, Nat.reduceBEq, Int.reduceAdd, Int.reduceSub, Int.reduceMul, Int.reduceNeg, Int.reduceLT, Int.reduceLE, Int.reduceEq, Int.reduceNe, Int.reduceBEq, Int.reduceToNat, Int.reduceTDiv, Int.reduceTMod, Int.reduceOfNat, reduceCtorEq, sty, sui]
      refine st_call fun K1 hK1 => ?_
      simp only [calleeC, wT, Bool.not_eq_true, ty, zr, Nat.reduceAdd, Nat.reduceSub, Nat.reduceMul, Nat.reduceMod, Nat.reduceDiv, Nat.reduceEqDiff, Nat.reduceLeDiff, Nat.reduceBEq, Int.reduceAdd, Int.reduceSub, Int.reduceMul, Int.reduceNeg, Int.reduceLT, Int.reduceLE, Int.reduceEq, Int.reduceNe, Int.reduceBEq, Int.reduceToNat, Int.reduceTDiv, Int.reduceTMod, Int.reduceOfNat, reduceCtorEq, sty, sui]
      refine hK1 _ _ ?_
      clear hK1 K1
      simp only [CallTo, AV.mapL, AV.map, mapL_flat, mapL_flat1]
      refine ⟨_, _, differ_ok n _ _ (Sy.Id.ext x) (Sy.Id.ext y) la lb 0 0 hx.look hy.look h1 hn (by omega), ?_⟩
      simp only [wT, Bool.not_eq_true, ty, zr, Nat.reduceAdd, Nat.reduceSub, Nat.reduceMul, Nat.reduceMod, Nat.reduceDiv, Nat.reduceEqDiff, Nat.reduceLeDiff, Nat.reduceBEq, Int.reduceAdd, Int.reduceSub, Int.reduceMul, Int.reduceNeg, Int.reduceLT, Int.reduceLE, Int.reduceEq, Int.reduceNe, Int.reduceBEq, Int.reduceToNat, Int.reduceTDiv, Int.reduceTMod, Int.reduceOfNat, reduceCtorEq, sty, sui]
      refine hK _ ?_; clear hK K
      refine AWp.ret ?_
      try simp only [thenQ, bq, lq, lf, iq, gq, Nat.reduceEqDiff, if_true, if_false]
      simp only [endQ, rs_merkle_Differ, resC, one, wT, Bool.not_eq_true, ty, zr, Nat.reduceAdd, Nat.reduceSub, Nat.reduceMul, Nat.reduceMod, Nat.reduceDiv, Nat.reduceEqDiff, Nat.reduceLeDiff, Nat.reduceBEq, Int.reduceAdd, Int.reduceSub, Int.reduceMul, Int.reduceNeg, Int.reduceLT, Int.reduceLE, Int.reduceEq, Int.reduceNe, Int.reduceBEq, Int.reduceToNat, Int.reduceTDiv, Int.reduceTMod, Int.reduceOfNat, reduceCtorEq, sty, sui]
      refine ⟨[0], by decide, by simp, by rfl, ?_⟩; (repeat' (first | exact trivial | rfl | omega | apply And.intro | (simp [AV.All, AV.AllL, inS, AV.map, AV.mapL, renS, selRows, selRow, Row.map, Row.All, mapL_flat, mapL_flat1, allL_flat, allL_flat1]; done)))
  · try simp only [decide_eq_true_eq, decide_eq_false_iff_not, beq_iff_eq, bne_iff_ne, ne_eq, Bool.not_eq_true, beq_eq_false_iff_ne, bne_eq_false_iff_eq, Bool.not_eq_false, Bool.not_eq_eq_eq_not, Bool.not_true, Bool.not_false] at hb
    (first | exact absurd trivial hb | exact absurd rfl hb | cases hb | (exfalso; omega) | (simp at hb; done))

theorem growR3 {α : Type} (l : List Int) (b : Nat) : ∃ g0 g1 g2 g3 g4, (growR l b 0 3 : Sy.Rows α) = [g0, g1, g2, g3, g4] := by
  match h : (growR l b 0 3 : Sy.Rows α), growR_len (α := α) l 3 b 0 (by decide) with
  | [a, b, c, d, e], _ => exact ⟨a, b, c, d, e, rfl⟩
theorem new3 {α : Type} (E : α → Option (Row α)) (x : α) (l : List Int) (hx : E x = some (.ints .u8 l)) (f : Bool) (h : 48 ≤ l.length) :
    FnOk Try.prog n_merkle_New E [.slice f (.ext x) 0 3 16] [] (.ptr (.own 5) 0) (growR l 0 0 3 ++ [some (.mixed [.ptr (.own 4) 0])]) := new_ok E x l hx f 3 (by decide) (by decide) (by omega)
def lA : List Int := (List.replicate 16 0).set 0 1
def lB : List Int := (List.replicate 16 0).set 0 2
def lC : List Int := (List.replicate 16 0).set 0 3
theorem rootO3 (l : List Int) : rootO l 0 3 = joinS (joinS (oneS (sub l 0 16)) (oneS (sub l 16 16))) (oneS (sub l 32 16)) := by
  rw [rootO_two l 0 (n := 3) (by decide), rootO_two l 0 (n := (3 + 1) / 2) (by decide), rootO_one, rootO_one, rootO_one]
theorem rootO2 (l : List Int) : rootO l 0 2 = joinS (oneS (sub l 0 16)) (oneS (sub l 16 16)) := by
  rw [rootO_two l 0 (n := 2) (by decide), rootO_one, rootO_one]
theorem awk_diff : diffF (lA ++ lB ++ lC) (lA ++ lC ++ lC) 0 3 0 = ([1], 5) := by
  have h3 : rootO (lA ++ lB ++ lC) 0 3 ≠ rootO (lA ++ lC ++ lC) 0 3 := by rw [rootO3, rootO3]; decide +kernel
  have h2 : rootO (lA ++ lB ++ lC) 0 2 ≠ rootO (lA ++ lC ++ lC) 0 2 := by rw [rootO2, rootO2]; decide +kernel
  have h1 : rootO (lA ++ lB ++ lC) 16 1 ≠ rootO (lA ++ lC ++ lC) 16 1 := by rw [rootO_one, rootO_one]; decide +kernel
  have h0 : rootO (lA ++ lB ++ lC) 0 1 = rootO (lA ++ lC ++ lC) 0 1 := by rw [rootO_one, rootO_one]; rfl
  have h4 : rootO (lA ++ lB ++ lC) 32 1 = rootO (lA ++ lC ++ lC) 32 1 := by rw [rootO_one, rootO_one]; rfl
  rw [diffF_two h3 (by decide)]
  simp only [show (3 + 1) / 2 = 2 from rfl, show 3 - 2 = 1 from rfl]
  rw [diffF_two h2 (by decide)]
  simp only [show (2 + 1) / 2 = 1 from rfl, show 2 - 1 = 1 from rfl]
  rw [diffF_eq h0, diffF_one h1, diffF_eq h4]
  rfl
theorem awk_proof : proofF (lA ++ lB ++ lC) 0 3 2 = [rootO (lA ++ lB ++ lC) 0 2] := by
  rw [proofF_r _ _ (by decide) (by decide), show 3 - (3 + 1) / 2 = 1 from rfl, proofF_one]
  rfl
theorem awk_check : checkS (rootO (lA ++ lB ++ lC) 0 3) lC (rootO (lA ++ lB ++ lC) 0 2) 0 1 3 2 = true := by
  have h1 : climbS lC (rootO (lA ++ lB ++ lC) 0 2) 0 1 3 2 = (rootO (lA ++ lB ++ lC) 0 3, true) := by
    rw [climbS_r _ _ _ _ (by decide) (by decide), show 3 - (3 + 1) / 2 = 1 from rfl, climbS_one, rootO_two _ _ (n := 3) (by decide), show 3 - (3 + 1) / 2 = 1 from rfl, show (3 + 1) / 2 = 2 from rfl, rootO_one, show 0 + 0 * 16 = 0 from rfl, sub_all (rootO_len _ _ _)]
    rfl
  rw [checkS, h1]
  simp
end Go.Proofs.Ytdcbgmbpiekbgaa
