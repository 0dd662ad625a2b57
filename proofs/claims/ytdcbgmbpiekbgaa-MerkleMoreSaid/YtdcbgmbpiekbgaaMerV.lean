/- Contracts: the leaves of a part. -/
import Derived.Test.YtdcbgmbpiekbgaaMerQ
namespace Go.Proofs.Ytdcbgmbpiekbgaa
open Go Go.Proofs.Ytdcbgmbpiekbgaa.Sy
set_option linter.unusedSimpArgs false
set_option linter.unusedVariables false
set_option maxRecDepth 100000
set_option maxHeartbeats 1000000


/-- The sums of the leaves, in their order. -/
def leavesL (l : List Int) (o n : Nat) : List Int :=
  if h : n < 2 then rootO l o 1 else leavesL l o ((n + 1) / 2) ++ leavesL l (o + (n + 1) / 2 * 16) (n - (n + 1) / 2)
termination_by n
theorem leavesL_one (l : List Int) (o : Nat) : leavesL l o 1 = rootO l o 1 := by unfold leavesL; simp
theorem leavesL_two (l : List Int) (o : Nat) {n : Nat} (h : 2 ≤ n) : leavesL l o n = leavesL l o ((n + 1) / 2) ++ leavesL l (o + (n + 1) / 2 * 16) (n - (n + 1) / 2) := by
  conv => lhs; unfold leavesL
  rw [dif_neg (by omega)]
theorem leavesL_len (l : List Int) : ∀ n o, 1 ≤ n → (leavesL l o n).length = n * 16 := by
  intro n
  induction n using Nat.strongRecOn with
  | _ n ih =>
    intro o h1
    rcases (show n = 1 ∨ 2 ≤ n by omega) with rfl | h2
    · rw [leavesL_one, rootO_len]
    · rw [leavesL_two _ _ h2, List.length_append, ih _ (by omega) _ (by omega), ih _ (by omega) _ (by omega)]
      omega
theorem leavesL_get (l : List Int) : ∀ n o i, i < n → sub (leavesL l o n) (i * 16) 16 = oneS (sub l (o + i * 16) 16) := by
  intro n
  induction n using Nat.strongRecOn with
  | _ n ih =>
    intro o i hi
    rcases (show n = 1 ∨ 2 ≤ n by omega) with rfl | h2
    · obtain rfl : i = 0 := by omega
      rw [leavesL_one, Nat.zero_mul, Nat.add_zero, sub_all (rootO_len _ _ _), rootO_one]
    · have ha := leavesL_len l ((n + 1) / 2) o (by omega)
      rw [leavesL_two _ _ h2]
      by_cases hk : i < (n + 1) / 2
      · rw [← ih ((n + 1) / 2) (by omega) o i hk]
        simp only [Sy.sub]
        rw [List.drop_append_of_le_length (by omega), List.take_append_of_le_length (by rw [List.length_drop]; omega)]
      · rw [show o + i * 16 = (o + (n + 1) / 2 * 16) + (i - (n + 1) / 2) * 16 by omega, ← ih (n - (n + 1) / 2) (by omega) (o + (n + 1) / 2 * 16) (i - (n + 1) / 2) (by omega)]
        simp only [Sy.sub]
        rw [show i * 16 = (leavesL l o ((n + 1) / 2)).length + (i - (n + 1) / 2) * 16 by omega, ← List.drop_drop, List.drop_left]
theorem leaves_nil {α : Type} (E : α → Option (Row α)) : FnOk Try.prog n_merkle_part_leaves E [.nilptr] [] .nilslice [] := by
  refine FnOk.pure func_merkle_part_leaves call_merkle_part_leaves (body := _) rfl nt_merkle_part_leaves (by simp) (by simp [AV.solid, AV.solidL]) ?_
  refine AWp.reg p_merkle_part_leaves_0 [] s_merkle_part_leaves_0 rfl rfl fun K hK => st_of ?_
  simp only [s_merkle_part_leaves_0, wT, Bool.not_eq_true, ty, zr, Nat.reduceAdd, Nat.reduceSub, Nat.reduceMul, Nat.reduceMod, Nat.reduceDiv, Nat.reduceEqDiff, Nat.reduceLeDiff, Nat.reduceBEq, Int.reduceAdd, Int.reduceSub, Int.reduceMul, Int.reduceNeg, Int.reduceLT, Int.reduceLE, Int.reduceEq, Int.reduceNe, Int.reduceBEq, Int.reduceToNat, Int.reduceTDiv, Int.reduceTMod, Int.reduceOfNat, reduceCtorEq, sty, sui]
  refine hK _ ?_; clear hK K
  refine AWp.blk fun Y0 hY0 => ?_
  refine AWp.reg p_merkle_part_leaves_1 [] s_merkle_part_leaves_1 rfl rfl fun K hK => st_of ?_
  simp only [s_merkle_part_leaves_1, wT, Bool.not_eq_true, ty, zr, Nat.reduceAdd, Nat.reduceSub, Nat.reduceMul, Nat.reduceMod, Nat.reduceDiv, Nat.reduceEqDiff, Nat.reduceLeDiff, Nat.reduceBEq, Int.reduceAdd, Int.reduceSub, Int.reduceMul, Int.reduceNeg, Int.reduceLT, Int.reduceLE, Int.reduceEq, Int.reduceNe, Int.reduceBEq, Int.reduceToNat, Int.reduceTDiv, Int.reduceTMod, Int.reduceOfNat, reduceCtorEq, sty, sui]
  refine hK _ ?_; clear hK K
  refine AWp.iteE rfl (fun hb => ?_) (fun hb => ?_)
  · try simp only [decide_eq_true_eq, decide_eq_false_iff_not, beq_iff_eq, bne_iff_ne, ne_eq, Bool.not_eq_true, beq_eq_false_iff_ne, bne_eq_false_iff_eq, Bool.not_eq_false, Bool.not_eq_eq_eq_not, Bool.not_true, Bool.not_false] at hb
    refine AWp.reg p_merkle_part_leaves_2 [] s_merkle_part_leaves_2 rfl rfl fun K hK => st_of ?_
    simp only [s_merkle_part_leaves_2, wT, Bool.not_eq_true, ty, zr, Nat.reduceAdd, Nat.reduceSub, Nat.reduceMul, Nat.reduceMod, Nat.reduceDiv, Nat.reduceEqDiff, Nat.reduceLeDiff, Nat.reduceBEq, Int.reduceAdd, Int.reduceSub, Int.reduceMul, Int.reduceNeg, Int.reduceLT, Int.reduceLE, Int.reduceEq, Int.reduceNe, Int.reduceBEq, Int.reduceToNat, Int.reduceTDiv, Int.reduceTMod, Int.reduceOfNat, reduceCtorEq, sty, sui]
    refine hK _ ?_; clear hK K
    refine AWp.ret ?_
    try simp only [thenQ, bq, lq, lf, iq, gq, Nat.reduceEqDiff, if_true, if_false]
    simp only [endQ, rs_merkle_part_leaves, resC, one, wT, Bool.not_eq_true, ty, zr, Nat.reduceAdd, Nat.reduceSub, Nat.reduceMul, Nat.reduceMod, Nat.reduceDiv, Nat.reduceEqDiff, Nat.reduceLeDiff, Nat.reduceBEq, Int.reduceAdd, Int.reduceSub, Int.reduceMul, Int.reduceNeg, Int.reduceLT, Int.reduceLE, Int.reduceEq, Int.reduceNe, Int.reduceBEq, Int.reduceToNat, Int.reduceTDiv, Int.reduceTMod, Int.reduceOfNat, reduceCtorEq, sty, sui]
    repeat' (first | exact True.intro | (with_reducible rfl) | (with_reducible apply And.intro) | omega | rfl)
  · try simp only [decide_eq_true_eq, decide_eq_false_iff_not, beq_iff_eq, bne_iff_ne, ne_eq, Bool.not_eq_true, beq_eq_false_iff_ne, bne_eq_false_iff_eq, Bool.not_eq_false, Bool.not_eq_eq_eq_not, Bool.not_true, Bool.not_false] at hb
    (first | exact absurd trivial hb | exact absurd rfl hb | cases hb | (exfalso; omega) | (simp at hb; done))
theorem leaves_one {α : Type} (E : α → Option (Row α)) (x : α) (l : List Int) (o : Nat) (hx : TreeE E l x o 1) : FnOk Try.prog n_merkle_part_leaves E [.ptr (.ext x) 0] [] (.slice true (.own 0) 0 1 16) [some (.ints .u8 (leavesL l o 1))] := by
  obtain ⟨p, q, hxt⟩ := hx.top
  have hr := rootO_len l o 1
  have sr : sub (rootO l o 1) 0 16 = rootO l o 1 := sub_all hr
  rw [leavesL_one]
  refine FnOk.intro func_merkle_part_leaves call_merkle_part_leaves (body := _) rfl nt_merkle_part_leaves (by simp) ?_
  refine AWp.reg p_merkle_part_leaves_0 [] s_merkle_part_leaves_0 rfl rfl fun K hK => st_of ?_
  simp only [s_merkle_part_leaves_0, wT, Bool.not_eq_true, ty, zr, Nat.reduceAdd, Nat.reduceSub, Nat.reduceMul, Nat.reduceMod, Nat.reduceDiv, Nat.reduceEqDiff, Nat.reduceLeDiff, Nat.reduceBEq, Int.reduceAdd, Int.reduceSub, Int.reduceMul, Int.reduceNeg, Int.reduceLT, Int.reduceLE, Int.reduceEq, Int.reduceNe, Int.reduceBEq, Int.reduceToNat, Int.reduceTDiv, Int.reduceTMod, Int.reduceOfNat, reduceCtorEq, sty, sui]
  refine hK _ ?_; clear hK K
  refine AWp.blk fun Y0 hY0 => ?_
  refine AWp.reg p_merkle_part_leaves_1 [] s_merkle_part_leaves_1 rfl rfl fun K hK => st_of ?_
  simp only [s_merkle_part_leaves_1, wT, Bool.not_eq_true, ty, zr, Nat.reduceAdd, Nat.reduceSub, Nat.reduceMul, Nat.reduceMod, Nat.reduceDiv, Nat.reduceEqDiff, Nat.reduceLeDiff, Nat.reduceBEq, Int.reduceAdd, Int.reduceSub, Int.reduceMul, Int.reduceNeg, Int.reduceLT, Int.reduceLE, Int.reduceEq, Int.reduceNe, Int.reduceBEq, Int.reduceToNat, Int.reduceTDiv, Int.reduceTMod, Int.reduceOfNat, reduceCtorEq, sty, sui]
  refine hK _ ?_; clear hK K
  refine AWp.iteE rfl (fun hb => ?_) (fun hb => ?_)
  · try simp only [decide_eq_true_eq, decide_eq_false_iff_not, beq_iff_eq, bne_iff_ne, ne_eq, Bool.not_eq_true, beq_eq_false_iff_ne, bne_eq_false_iff_eq, Bool.not_eq_false, Bool.not_eq_eq_eq_not, Bool.not_true, Bool.not_false] at hb
    (first | exact absurd trivial hb | exact absurd rfl hb | cases hb | (exfalso; omega) | (simp at hb; done))
  · try simp only [decide_eq_true_eq, decide_eq_false_iff_not, beq_iff_eq, bne_iff_ne, ne_eq, Bool.not_eq_true, beq_eq_false_iff_ne, bne_eq_false_iff_eq, Bool.not_eq_false, Bool.not_eq_eq_eq_not, Bool.not_true, Bool.not_false] at hb
    refine AWp.reg p_merkle_part_leaves_3 [] s_merkle_part_leaves_3 rfl rfl fun K hK => st_of ?_
    simp only [s_merkle_part_leaves_3, wT, Bool.not_eq_true, ty, zr, Nat.reduceAdd, Nat.reduceSub, Nat.reduceMul, Nat.reduceMod, Nat.reduceDiv, Nat.reduceEqDiff, Nat.reduceLeDiff, Nat.reduceBEq, Int.reduceAdd, Int.reduceSub, Int.reduceMul, Int.reduceNeg, Int.reduceLT, Int.reduceLE, Int.reduceEq, Int.reduceNe, Int.reduceBEq, Int.reduceToNat, Int.reduceTDiv, Int.reduceTMod, Int.reduceOfNat, reduceCtorEq, sty, sui]
    simp only [hxt, Option.map_some, Row.map, nodeC_map, nodeC_n (ι := Sy.Id α) _ hr, nodeC_len (ι := Sy.Id α) _ hr, wT, Bool.not_eq_true, ty, zr, Nat.reduceAdd, Nat.reduceSub, Nat.reduceMul, Nat.reduceMod, Nat.reduceDiv, Nat.reduceEqDiff, Nat.reduceLeDiff, Nat.reduceBEq, Int.reduceAdd, Int.reduceSub, Int.reduceMul, Int.reduceNeg, Int.reduceLT, Int.reduceLE, Int.reduceEq, Int.reduceNe, Int.reduceBEq, Int.reduceToNat, Int.reduceTDiv, Int.reduceTMod, Int.reduceOfNat, reduceCtorEq, sty, sui]
    (repeat ((with_reducible refine And.intro ?_ ?_); (first | omega | exact True.intro | with_reducible rfl | decide | assumption | rfl)))
    refine hK _ ?_; clear hK K
    refine AWp.iteE rfl (fun hb => ?_) (fun hb => ?_)
    · try simp only [decide_eq_true_eq, decide_eq_false_iff_not, beq_iff_eq, bne_iff_ne, ne_eq, Bool.not_eq_true, beq_eq_false_iff_ne, bne_eq_false_iff_eq, Bool.not_eq_false, Bool.not_eq_eq_eq_not, Bool.not_true, Bool.not_false] at hb
      refine AWp.reg p_merkle_part_leaves_4 [] s_merkle_part_leaves_4 rfl rfl fun K hK => st_of ?_
      simp only [s_merkle_part_leaves_4, wT, Bool.not_eq_true, ty, zr, Nat.reduceAdd, Nat.reduceSub, Nat.reduceMul, Nat.reduceMod, Nat.reduceDiv, Nat.reduceEqDiff, Nat.reduceLeDiff, Nat.reduceBEq, Int.reduceAdd, Int.reduceSub, Int.reduceMul, Int.reduceNeg, Int.reduceLT, Int.reduceLE, Int.reduceEq, Int.reduceNe, Int.reduceBEq, Int.reduceToNat, Int.reduceTDiv, Int.reduceTMod, Int.reduceOfNat, reduceCtorEq, sty, sui]
      simp only [hxt, Option.map_some, Row.map, nodeC_map, nodeC_sum (ι := Sy.Id α) _ hr, nodeC_len (ι := Sy.Id α) _ hr, hr, wT, Bool.not_eq_true, ty, zr, Nat.reduceAdd, Nat.reduceSub, Nat.reduceMul, Nat.reduceMod, Nat.reduceDiv, Nat.reduceEqDiff, Nat.reduceLeDiff, Nat.reduceBEq, Int.reduceAdd, Int.reduceSub, Int.reduceMul, Int.reduceNeg, Int.reduceLT, Int.reduceLE, Int.reduceEq, Int.reduceNe, Int.reduceBEq, Int.reduceToNat, Int.reduceTDiv, Int.reduceTMod, Int.reduceOfNat, reduceCtorEq, sty, sui]
      simp only [bRow1 (ι := Sy.Id α) _ hr]
      (repeat ((with_reducible refine And.intro ?_ ?_); (first | omega | exact True.intro | with_reducible rfl | decide | assumption | rfl)))
      refine hK _ ?_; clear hK K
      refine AWp.ret ?_
      try simp only [thenQ, bq, lq, lf, iq, gq, Nat.reduceEqDiff, if_true, if_false]
      simp only [endQ, rs_merkle_part_leaves, resC, one, wT, Bool.not_eq_true, ty, zr, Nat.reduceAdd, Nat.reduceSub, Nat.reduceMul, Nat.reduceMod, Nat.reduceDiv, Nat.reduceEqDiff, Nat.reduceLeDiff, Nat.reduceBEq, Int.reduceAdd, Int.reduceSub, Int.reduceMul, Int.reduceNeg, Int.reduceLT, Int.reduceLE, Int.reduceEq, Int.reduceNe, Int.reduceBEq, Int.reduceToNat, Int.reduceTDiv, Int.reduceTMod, Int.reduceOfNat, reduceCtorEq, sty, sui]
      refine ⟨[0], by decide, by simp, by rfl, ?_⟩; (repeat' (first | exact trivial | rfl | omega | apply And.intro | (simp [AV.All, AV.AllL, inS, AV.map, AV.mapL, renS, selRows, selRow, Row.map, Row.All, mapL_flat, mapL_flat1, allL_flat, allL_flat1]; done)))
    · try simp only [decide_eq_true_eq, decide_eq_false_iff_not, beq_iff_eq, bne_iff_ne, ne_eq, Bool.not_eq_true, beq_eq_false_iff_ne, bne_eq_false_iff_eq, Bool.not_eq_false, Bool.not_eq_eq_eq_not, Bool.not_true, Bool.not_false] at hb
      (first | exact absurd trivial hb | exact absurd rfl hb | cases hb | (exfalso; omega) | (simp at hb; done))
theorem leaves_step {α : Type} (n : Nat) (e : ∀ m, m < n → 1 ≤ m → ∀ (β : Type) (E : β → Option (Row β)) (x : β) (l : List Int) (o : Nat), TreeE E l x o m → FnOk Try.prog n_merkle_part_leaves E [.ptr (.ext x) 0] [] (.slice true (.own 0) 0 m 16) [some (.ints .u8 (leavesL l o m))])
    (E : α → Option (Row α)) (x : α) (l : List Int) (o : Nat) (hx : TreeE E l x o n) (hn : n ≤ 65536) (h2 : 2 ≤ n) : FnOk Try.prog n_merkle_part_leaves E [.ptr (.ext x) 0] [] (.slice true (.own 0) 0 n 16) [some (.ints .u8 (leavesL l o n))] := by
  obtain ⟨p, q, hxt⟩ := hx.top
  have hr := rootO_len l o n
  obtain ⟨k, hk⟩ : ∃ k, (n + 1) / 2 = k := ⟨_, rfl⟩
  obtain ⟨x1, x2, hxk, hx1, hx2⟩ := hx.kids h2
  have e1 := e k (by omega) (by omega)
  have e2 := e (n - k) (by omega) (by omega)
  clear e
  rw [leavesL_two _ _ h2]
  rw [hk] at hx1 hx2 ⊢
  have ha := leavesL_len l k o (by omega)
  have hb := leavesL_len l (n - k) (o + k * 16) (by omega)
  obtain ⟨A, hA⟩ : ∃ A, leavesL l o k = A := ⟨_, rfl⟩
  obtain ⟨B, hB⟩ : ∃ B, leavesL l (o + k * 16) (n - k) = B := ⟨_, rfl⟩
  rw [hA] at ha ⊢
  rw [hB] at hb ⊢
  have sA : sub A 0 (k * 16) = A := sub_all ha
  have sB : sub B 0 ((n - k) * 16) = B := sub_all hb
  have ek : k + (n - k) = n := by omega
  refine FnOk.intro func_merkle_part_leaves call_merkle_part_leaves (body := _) rfl nt_merkle_part_leaves (by simp) ?_
  refine AWp.reg p_merkle_part_leaves_0 [] s_merkle_part_leaves_0 rfl rfl fun K hK => st_of ?_
  simp only [s_merkle_part_leaves_0, wT, Bool.not_eq_true, ty, zr, Nat.reduceAdd, Nat.reduceSub, Nat.reduceMul, Nat.reduceMod, Nat.reduceDiv, Nat.reduceEqDiff, Nat.reduceLeDiff, Nat.reduceBEq, Int.reduceAdd, Int.reduceSub, Int.reduceMul, Int.reduceNeg, Int.reduceLT, Int.reduceLE, Int.reduceEq, Int.reduceNe, Int.reduceBEq, Int.reduceToNat, Int.reduceTDiv, Int.reduceTMod, Int.reduceOfNat, reduceCtorEq, sty, sui]
  refine hK _ ?_; clear hK K
  refine AWp.blk fun Y0 hY0 => ?_
  refine AWp.reg p_merkle_part_leaves_1 [] s_merkle_part_leaves_1 rfl rfl fun K hK => st_of ?_
  simp only [s_merkle_part_leaves_1, wT, Bool.not_eq_true, ty, zr, Nat.reduceAdd, Nat.reduceSub, Nat.reduceMul, Nat.reduceMod, Nat.reduceDiv, Nat.reduceEqDiff, Nat.reduceLeDiff, Nat.reduceBEq, Int.reduceAdd, Int.reduceSub, Int.reduceMul, Int.reduceNeg, Int.reduceLT, Int.reduceLE, Int.reduceEq, Int.reduceNe, Int.reduceBEq, Int.reduceToNat, Int.reduceTDiv, Int.reduceTMod, Int.reduceOfNat, reduceCtorEq, sty, sui]
  refine hK _ ?_; clear hK K
  refine AWp.iteE rfl (fun hb => ?_) (fun hb => ?_)
  · try simp only [decide_eq_true_eq, decide_eq_false_iff_not, beq_iff_eq, bne_iff_ne, ne_eq, Bool.not_eq_true, beq_eq_false_iff_ne, bne_eq_false_iff_eq, Bool.not_eq_false, Bool.not_eq_eq_eq_not, Bool.not_true, Bool.not_false] at hb
    (first | exact absurd trivial hb | exact absurd rfl hb | cases hb | (exfalso; omega) | (simp at hb; done))
  · try simp only [decide_eq_true_eq, decide_eq_false_iff_not, beq_iff_eq, bne_iff_ne, ne_eq, Bool.not_eq_true, beq_eq_false_iff_ne, bne_eq_false_iff_eq, Bool.not_eq_false, Bool.not_eq_eq_eq_not, Bool.not_true, Bool.not_false] at hb
    refine AWp.reg p_merkle_part_leaves_3 [] s_merkle_part_leaves_3 rfl rfl fun K hK => st_of ?_
    simp only [s_merkle_part_leaves_3, wT, Bool.not_eq_true, ty, zr, Nat.reduceAdd, Nat.reduceSub, Nat.reduceMul, Nat.reduceMod, Nat.reduceDiv, Nat.reduceEqDiff, Nat.reduceLeDiff, Nat.reduceBEq, Int.reduceAdd, Int.reduceSub, Int.reduceMul, Int.reduceNeg, Int.reduceLT, Int.reduceLE, Int.reduceEq, Int.reduceNe, Int.reduceBEq, Int.reduceToNat, Int.reduceTDiv, Int.reduceTMod, Int.reduceOfNat, reduceCtorEq, sty, sui]
    simp only [hxt, Option.map_some, Row.map, nodeC_map, nodeC_n (ι := Sy.Id α) _ hr, nodeC_len (ι := Sy.Id α) _ hr, wT, Bool.not_eq_true, ty, zr, Nat.reduceAdd, Nat.reduceSub, Nat.reduceMul, Nat.reduceMod, Nat.reduceDiv, Nat.reduceEqDiff, Nat.reduceLeDiff, Nat.reduceBEq, Int.reduceAdd, Int.reduceSub, Int.reduceMul, Int.reduceNeg, Int.reduceLT, Int.reduceLE, Int.reduceEq, Int.reduceNe, Int.reduceBEq, Int.reduceToNat, Int.reduceTDiv, Int.reduceTMod, Int.reduceOfNat, reduceCtorEq, sty, sui]
    (repeat ((with_reducible refine And.intro ?_ ?_); (first | omega | exact True.intro | with_reducible rfl | decide | assumption | rfl)))
    refine hK _ ?_; clear hK K
    refine AWp.iteE rfl (fun hb => ?_) (fun hb => ?_)
    · try simp only [decide_eq_true_eq, decide_eq_false_iff_not, beq_iff_eq, bne_iff_ne, ne_eq, Bool.not_eq_true, beq_eq_false_iff_ne, bne_eq_false_iff_eq, Bool.not_eq_false, Bool.not_eq_eq_eq_not, Bool.not_true, Bool.not_false] at hb
      exfalso; omega
    · try simp only [decide_eq_true_eq, decide_eq_false_iff_not, beq_iff_eq, bne_iff_ne, ne_eq, Bool.not_eq_true, beq_eq_false_iff_ne, bne_eq_false_iff_eq, Bool.not_eq_false, Bool.not_eq_eq_eq_not, Bool.not_true, Bool.not_false] at hb
      refine AWp.skip ?_
      try simp only [thenQ, bq, lq, lf, iq, gq, Nat.reduceEqDiff, if_true, if_false]
      refine hY0 _ ?_
      try clear hY0 Y0
      refine AWp.drwP mix p_merkle_part_leaves_5 q_merkle_part_leaves_5 g_merkle_part_leaves_5 s_merkle_part_leaves_5 rfl (by decide +kernel) fun K hK => sp_of ?_
      simp only [s_merkle_part_leaves_5, wT, Bool.not_eq_true, ty, zr, Nat.reduceAdd, Nat.reduceSub, Nat.reduceMul, Nat.reduceMod, Nat.reduceDiv, Nat.reduceEqDiff, Nat.reduceLeDiff, Nat.reduceBEq, Int.reduceAdd, Int.reduceSub, Int.reduceMul, Int.reduceNeg, Int.reduceLT, Int.reduceLE, Int.reduceEq, Int.reduceNe, Int.reduceBEq, Int.reduceToNat, Int.reduceTDiv, Int.reduceTMod, Int.reduceOfNat, reduceCtorEq, sty, sui]
      simp only [hxk, Option.map_some, Row.map, nodeC_map, AV.map, nodeC_l (ι := Sy.Id α) _ hr, nodeC_r (ι := Sy.Id α) _ hr, nodeC_len (ι := Sy.Id α) _ hr, wT, Bool.not_eq_true, ty, zr, Nat.reduceAdd, Nat.reduceSub, Nat.reduceMul, Nat.reduceMod, Nat.reduceDiv, Nat.reduceEqDiff, Nat.reduceLeDiff, Nat.reduceBEq, Int.reduceAdd, Int.reduceSub, Int.reduceMul, Int.reduceNeg, Int.reduceLT, Int.reduceLE, Int.reduceEq, Int.reduceNe, Int.reduceBEq, Int.reduceToNat, Int.reduceTDiv, Int.reduceTMod, Int.reduceOfNat, reduceCtorEq, sty, sui]
      (repeat ((with_reducible refine And.intro ?_ ?_); (first | omega | exact True.intro | with_reducible rfl | decide | assumption | rfl)))
      refine sp_call fun K1 hK1 => ?_
      simp only [calleeC, wT, Bool.not_eq_true, ty, zr, Nat.reduceAdd, Nat.reduceSub, Nat.reduceMul, Nat.reduceMod, Nat.reduceDiv, Nat.reduceEqDiff, Nat.reduceLeDiff, Nat.reduceBEq, Int.reduceAdd, Int.reduceSub, Int.reduceMul, Int.reduceNeg, Int.reduceLT, Int.reduceLE, Int.reduceEq, Int.reduceNe, Int.reduceBEq, Int.reduceToNat, Int.reduceTDiv, Int.reduceTMod, Int.reduceOfNat, reduceCtorEq, sty, sui]
      refine hK1 _ _ ?_
      clear hK1 K1
      simp only [CallTo, AV.mapL, AV.map, mapL_flat, mapL_flat1]
      refine ⟨_, _, e1 _ _ _ l o hx1.look, ?_⟩
      simp only [hA, wT, Bool.not_eq_true, ty, zr, Nat.reduceAdd, Nat.reduceSub, Nat.reduceMul, Nat.reduceMod, Nat.reduceDiv, Nat.reduceEqDiff, Nat.reduceLeDiff, Nat.reduceBEq, Int.reduceAdd, Int.reduceSub, Int.reduceMul, Int.reduceNeg, Int.reduceLT, Int.reduceLE, Int.reduceEq, Int.reduceNe, Int.reduceBEq, Int.reduceToNat, Int.reduceTDiv, Int.reduceTMod, Int.reduceOfNat, reduceCtorEq, sty, sui]
      refine sp_call fun K1 hK1 => ?_
      simp only [calleeC, wT, Bool.not_eq_true, ty, zr, Nat.reduceAdd, Nat.reduceSub, Nat.reduceMul, Nat.reduceMod, Nat.reduceDiv, Nat.reduceEqDiff, Nat.reduceLeDiff, Nat.reduceBEq, Int.reduceAdd, Int.reduceSub, Int.reduceMul, Int.reduceNeg, Int.reduceLT, Int.reduceLE, Int.reduceEq, Int.reduceNe, Int.reduceBEq, Int.reduceToNat, Int.reduceTDiv, Int.reduceTMod, Int.reduceOfNat, reduceCtorEq, sty, sui]
      refine hK1 _ _ ?_
      clear hK1 K1
      simp only [CallTo, AV.mapL, AV.map, mapL_flat, mapL_flat1]
      refine ⟨_, _, e2 _ _ _ l (o + k * 16) hx2.look, ?_⟩
      simp only [hB, wT, Bool.not_eq_true, ty, zr, Nat.reduceAdd, Nat.reduceSub, Nat.reduceMul, Nat.reduceMod, Nat.reduceDiv, Nat.reduceEqDiff, Nat.reduceLeDiff, Nat.reduceBEq, Int.reduceAdd, Int.reduceSub, Int.reduceMul, Int.reduceNeg, Int.reduceLT, Int.reduceLE, Int.reduceEq, Int.reduceNe, Int.reduceBEq, Int.reduceToNat, Int.reduceTDiv, Int.reduceTMod, Int.reduceOfNat, reduceCtorEq, sty, sui]
      try simp (disch := first | omega | (simp only [List.length_set, List.length_replicate, List.length_append, List.length_nil]; first | done | omega)) only [aT, Int.reduceToNat, List.length_set, List.length_replicate, List.length_append, List.length_nil]
      simp only [ha, hb, sA, sB, ek]
      (repeat ((with_reducible refine And.intro ?_ ?_); (first | omega | exact True.intro | with_reducible rfl | decide | assumption | rfl)))
      refine hK _ ?_; clear hK K
      refine AWp.ret ?_
      try simp only [thenQ, bq, lq, lf, iq, gq, Nat.reduceEqDiff, if_true, if_false]
      simp only [endQ, rs_merkle_part_leaves, resC, one, wT, Bool.not_eq_true, ty, zr, Nat.reduceAdd, Nat.reduceSub, Nat.reduceMul, Nat.reduceMod, Nat.reduceDiv, Nat.reduceEqDiff, Nat.reduceLeDiff, Nat.reduceBEq, Int.reduceAdd, Int.reduceSub, Int.reduceMul, Int.reduceNeg, Int.reduceLT, Int.reduceLE, Int.reduceEq, Int.reduceNe, Int.reduceBEq, Int.reduceToNat, Int.reduceTDiv, Int.reduceTMod, Int.reduceOfNat, reduceCtorEq, sty, sui]
      refine ⟨[2], by decide, by simp, by rfl, ?_⟩; (repeat' (first | exact trivial | rfl | omega | apply And.intro | (simp [AV.All, AV.AllL, inS, AV.map, AV.mapL, renS, selRows, selRow, Row.map, Row.All, mapL_flat, mapL_flat1, allL_flat, allL_flat1]; done)))
theorem leaves_ok : ∀ (n : Nat) (α : Type) (E : α → Option (Row α)) (x : α) (l : List Int) (o : Nat), TreeE E l x o n → 1 ≤ n → n ≤ 65536 → FnOk Try.prog n_merkle_part_leaves E [.ptr (.ext x) 0] [] (.slice true (.own 0) 0 n 16) [some (.ints .u8 (leavesL l o n))] := by
  intro n
  induction n using Nat.strongRecOn with
  | _ n ih =>
    intro α E x l o hx h1 hn
    rcases (show n = 1 ∨ 2 ≤ n by omega) with rfl | h2
    · exact leaves_one E x l o hx
    · exact leaves_step n (fun m hm hm1 β E x l o hx => ih m hm β E x l o hx hm1 (by omega)) E x l o hx hn h2
end Go.Proofs.Ytdcbgmbpiekbgaa
