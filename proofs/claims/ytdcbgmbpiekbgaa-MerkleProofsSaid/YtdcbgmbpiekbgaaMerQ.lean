/- Contracts: the document's proof, same; plain: a proof leads to the root. -/
import Derived.Test.YtdcbgmbpiekbgaaMerL
namespace Go.Proofs.Ytdcbgmbpiekbgaa
open Go Go.Proofs.Ytdcbgmbpiekbgaa.Sy
set_option linter.unusedSimpArgs false
set_option linter.unusedVariables false
set_option maxRecDepth 100000
set_option maxHeartbeats 1000000


theorem climbS_pre (leaf pr q : List Int) : ∀ m n i, m * 16 ≤ pr.length → climbS leaf (pr ++ q) 0 m n i = climbS leaf pr 0 m n i := by
  intro m
  induction m with
  | zero => intro n i _; by_cases h : n = 1
            · subst h; rw [climbS_one, climbS_one]
            · rw [climbS_zero _ _ _ _ h, climbS_zero _ _ _ _ h]
  | succ m ih =>
    intro n i hm
    by_cases h : n = 1
    · subst h; rw [climbS_one, climbS_one]
    · have hs : sub (pr ++ q) (0 + m * 16) 16 = sub pr (0 + m * 16) 16 := by
        simp only [Sy.sub]
        rw [List.drop_append_of_le_length (by omega), List.take_append_of_le_length (by rw [List.length_drop]; omega)]
      by_cases hi : i < (n + 1) / 2
      · rw [climbS_l _ _ _ _ h hi, climbS_l _ _ _ _ h hi, ih _ _ (by omega), hs]
      · rw [climbS_r _ _ _ _ h hi, climbS_r _ _ _ _ h hi, ih _ _ (by omega), hs]
theorem climb_proof (l : List Int) : ∀ n o i, 1 ≤ n → i < n → climbS (sub l (o + i * 16) 16) (proofF l o n i).flatten 0 (proofF l o n i).length n i = (rootO l o n, true) := by
  intro n
  induction n using Nat.strongRecOn with
  | _ n ih =>
    intro o i h1 hi
    rcases (show n = 1 ∨ 2 ≤ n by omega) with rfl | h2
    · obtain rfl : i = 0 := by omega
      rw [proofF_one, climbS_one, rootO_one, Nat.zero_mul, Nat.add_zero]
      rfl
    · by_cases hk : i < (n + 1) / 2
      · have e := ih ((n + 1) / 2) (by omega) o i (by omega) hk
        have hA := proofF_A l ((n + 1) / 2) o i
        have hf := flat_len hA.1
        rw [proofF_l l o h2 hk, List.flatten_append, List.length_append, List.length_singleton, climbS_l _ _ _ _ (by omega) hk, climbS_pre _ _ _ _ _ _ (by omega), e, rootO_two l o h2]
        simp only [List.flatten_cons, List.flatten_nil, List.append_nil, Nat.zero_add]
        rw [show sub ((proofF l o ((n + 1) / 2) i).flatten ++ rootO l (o + (n + 1) / 2 * 16) (n - (n + 1) / 2)) ((proofF l o ((n + 1) / 2) i).length * 16) 16 = rootO l (o + (n + 1) / 2 * 16) (n - (n + 1) / 2) by
          simp only [Sy.sub]
          rw [← hf, List.drop_left, List.take_of_length_le (by rw [rootO_len]; omega)]]
      · have e := ih (n - (n + 1) / 2) (by omega) (o + (n + 1) / 2 * 16) (i - (n + 1) / 2) (by omega) (by omega)
        have hA := proofF_A l (n - (n + 1) / 2) (o + (n + 1) / 2 * 16) (i - (n + 1) / 2)
        have hf := flat_len hA.1
        rw [show o + (n + 1) / 2 * 16 + (i - (n + 1) / 2) * 16 = o + i * 16 by omega] at e
        rw [proofF_r l o h2 hk, List.flatten_append, List.length_append, List.length_singleton, climbS_r _ _ _ _ (by omega) hk, climbS_pre _ _ _ _ _ _ (by omega), e, rootO_two l o h2]
        simp only [List.flatten_cons, List.flatten_nil, List.append_nil, Nat.zero_add]
        rw [show sub ((proofF l (o + (n + 1) / 2 * 16) (n - (n + 1) / 2) (i - (n + 1) / 2)).flatten ++ rootO l o ((n + 1) / 2)) ((proofF l (o + (n + 1) / 2 * 16) (n - (n + 1) / 2) (i - (n + 1) / 2)).length * 16) 16 = rootO l o ((n + 1) / 2) by
          simp only [Sy.sub]
          rw [← hf, List.drop_left, List.take_of_length_le (by rw [rootO_len]; omega)]]
theorem check_proof (l : List Int) {n i : Nat} (hi : i < n) : checkS (rootO l 0 n) (sub l (i * 16) 16) (proofF l 0 n i).flatten 0 (proofF l 0 n i).length n i = true := by
  have := climb_proof l n 0 i (by omega) hi
  rw [Nat.zero_add] at this
  rw [checkS, this]
  simp

theorem bRow0 {ι : Type} (l : List Int) (C : List Int → Prop) : buildRowsI .u8 16 ([] : List (Nat × AV ι)) l C = C l := rfl
theorem same_ok {α : Type} (E : α → Option (Row α)) (x y : α) (l : List Int) (hx : E x = some (.ints .u8 l)) (hy : E y = some (.ints .u8 l)) (f g : Bool) (d : Nat) (hl : l.length = d * 16) (hd : d ≤ 1099511627) :
    FnOk Try.prog n_law47_same E [.slice f (.ext x) 0 d 16, .slice g (.ext y) 0 d 16] [] (.bool true) [] := by
  refine FnOk.pure func_law47_same call_law47_same (body := _) rfl nt_law47_same (by simp) (by simp [AV.solid, AV.solidL]) ?_
  refine AWp.reg p_law47_same_0 [] s_law47_same_0 rfl rfl fun K hK => st_of ?_
  simp only [s_law47_same_0, wT, Bool.not_eq_true, ty, zr, Nat.reduceAdd, Nat.reduceSub, Nat.reduceMul, Nat.reduceMod, Nat.reduceDiv, Nat.reduceEqDiff, Nat.reduceLeDiff, Nat.reduceBEq, Int.reduceAdd, Int.reduceSub, Int.reduceMul, Int.reduceNeg, Int.reduceLT, Int.reduceLE, Int.reduceEq, Int.reduceNe, Int.reduceBEq, Int.reduceToNat, Int.reduceTDiv, Int.reduceTMod, Int.reduceOfNat, reduceCtorEq, sty, sui]
  refine hK _ ?_; clear hK K
  refine AWp.grp fun G4 hG4 => ?_
  refine AWp.reg p_law47_same_1 [] s_law47_same_1 rfl rfl fun K hK => st_of ?_
  simp only [s_law47_same_1, wT, Bool.not_eq_true, ty, zr, Nat.reduceAdd, Nat.reduceSub, Nat.reduceMul, Nat.reduceMod, Nat.reduceDiv, Nat.reduceEqDiff, Nat.reduceLeDiff, Nat.reduceBEq, Int.reduceAdd, Int.reduceSub, Int.reduceMul, Int.reduceNeg, Int.reduceLT, Int.reduceLE, Int.reduceEq, Int.reduceNe, Int.reduceBEq, Int.reduceToNat, Int.reduceTDiv, Int.reduceTMod, Int.reduceOfNat, reduceCtorEq, sty, sui]
  refine hK _ ?_; clear hK K
  refine AWp.iteE rfl (fun hb => ?_) (fun hb => ?_)
  · try simp only [decide_eq_true_eq, decide_eq_false_iff_not, beq_iff_eq, bne_iff_ne, ne_eq, Bool.not_eq_true, beq_eq_false_iff_ne, bne_eq_false_iff_eq, Bool.not_eq_false, Bool.not_eq_eq_eq_not, Bool.not_true, Bool.not_false] at hb
    (first | exact absurd trivial hb | exact absurd rfl hb | cases hb | (exfalso; omega) | (simp at hb; done))
  · try simp only [decide_eq_true_eq, decide_eq_false_iff_not, beq_iff_eq, bne_iff_ne, ne_eq, Bool.not_eq_true, beq_eq_false_iff_ne, bne_eq_false_iff_eq, Bool.not_eq_false, Bool.not_eq_eq_eq_not, Bool.not_true, Bool.not_false] at hb
    refine AWp.skip ?_
    try simp only [thenQ, bq, lq, lf, iq, gq, Nat.reduceEqDiff, if_true, if_false]
    refine hG4 _ ?_
    try clear hG4 G4
    refine AWp.grp fun G17 hG17 => ?_
    refine AWp.reg p_law47_same_3 [] s_law47_same_3 rfl rfl fun K hK => st_of ?_
    simp only [s_law47_same_3, wT, Bool.not_eq_true, ty, zr, Nat.reduceAdd, Nat.reduceSub, Nat.reduceMul, Nat.reduceMod, Nat.reduceDiv, Nat.reduceEqDiff, Nat.reduceLeDiff, Nat.reduceBEq, Int.reduceAdd, Int.reduceSub, Int.reduceMul, Int.reduceNeg, Int.reduceLT, Int.reduceLE, Int.reduceEq, Int.reduceNe, Int.reduceBEq, Int.reduceToNat, Int.reduceTDiv, Int.reduceTMod, Int.reduceOfNat, reduceCtorEq, sty, sui]
    refine hK _ ?_; clear hK K
    refine AWp.lopX (fun i => ⟨[(0, .slice f (.ext x) 0 d 16), (1, .slice g (.ext y) 0 d 16), (12, .int .i64 d), (13, .int .i64 i)], []⟩) (d) (Le.ofA) fun X0 hX0 i hn0 => ?_
    refine AWp.reg p_law47_same_4 [] s_law47_same_4 rfl rfl fun K hK => st_of ?_
    simp only [s_law47_same_4, wT, Bool.not_eq_true, ty, zr, Nat.reduceAdd, Nat.reduceSub, Nat.reduceMul, Nat.reduceMod, Nat.reduceDiv, Nat.reduceEqDiff, Nat.reduceLeDiff, Nat.reduceBEq, Int.reduceAdd, Int.reduceSub, Int.reduceMul, Int.reduceNeg, Int.reduceLT, Int.reduceLE, Int.reduceEq, Int.reduceNe, Int.reduceBEq, Int.reduceToNat, Int.reduceTDiv, Int.reduceTMod, Int.reduceOfNat, reduceCtorEq, sty, sui]
    refine hK _ ?_; clear hK K
    refine AWp.test rfl (fun hb => ?_) (fun hb => ?_)
    · try simp only [decide_eq_true_eq, decide_eq_false_iff_not, beq_iff_eq, bne_iff_ne, ne_eq, Bool.not_eq_true, beq_eq_false_iff_ne, bne_eq_false_iff_eq, Bool.not_eq_false, Bool.not_eq_eq_eq_not, Bool.not_true, Bool.not_false] at hb
      have h16 : (sub l (i * 16) 16).length = 16 := Sy.length_sub (by omega)
      refine AWp.blk fun Y1 hY1 => ?_
      refine AWp.reg p_law47_same_5 [] s_law47_same_5 rfl rfl fun K hK => st_of ?_
      simp only [s_law47_same_5, wT, Bool.not_eq_true, ty, zr, Nat.reduceAdd, Nat.reduceSub, Nat.reduceMul, Nat.reduceMod, Nat.reduceDiv, Nat.reduceEqDiff, Nat.reduceLeDiff, Nat.reduceBEq, Int.reduceAdd, Int.reduceSub, Int.reduceMul, Int.reduceNeg, Int.reduceLT, Int.reduceLE, Int.reduceEq, Int.reduceNe, Int.reduceBEq, Int.reduceToNat, Int.reduceTDiv, Int.reduceTMod, Int.reduceOfNat, reduceCtorEq, sty, sui]
      refine hK _ ?_; clear hK K
      refine AWp.drwP mix p_law47_same_6 q_law47_same_6 g_law47_same_6 s_law47_same_6 rfl (by decide +kernel) fun K hK => sp_of ?_
      simp only [s_law47_same_6, wT, Bool.not_eq_true, ty, zr, Nat.reduceAdd, Nat.reduceSub, Nat.reduceMul, Nat.reduceMod, Nat.reduceDiv, Nat.reduceEqDiff, Nat.reduceLeDiff, Nat.reduceBEq, Int.reduceAdd, Int.reduceSub, Int.reduceMul, Int.reduceNeg, Int.reduceLT, Int.reduceLE, Int.reduceEq, Int.reduceNe, Int.reduceBEq, Int.reduceToNat, Int.reduceTDiv, Int.reduceTMod, Int.reduceOfNat, reduceCtorEq, sty, sui]
      simp only [hx, hy, hl, Option.map_some, Row.map, wT, Bool.not_eq_true, ty, zr, Nat.reduceAdd, Nat.reduceSub, Nat.reduceMul, Nat.reduceMod, Nat.reduceDiv, Nat.reduceEqDiff, Nat.reduceLeDiff, Nat.reduceBEq, Int.reduceAdd, Int.reduceSub, Int.reduceMul, Int.reduceNeg, Int.reduceLT, Int.reduceLE, Int.reduceEq, Int.reduceNe, Int.reduceBEq, Int.reduceToNat, Int.reduceTDiv, Int.reduceTMod, Int.reduceOfNat, reduceCtorEq, sty, sui]
      (repeat ((with_reducible refine And.intro ?_ ?_); (first | omega | exact True.intro | with_reducible rfl | decide | assumption | rfl)))
      refine hK _ ?_; clear hK K
      refine AWp.iteE rfl (fun hb => ?_) (fun hb => ?_)
      · try simp only [decide_eq_true_eq, decide_eq_false_iff_not, beq_iff_eq, bne_iff_ne, ne_eq, Bool.not_eq_true, beq_eq_false_iff_ne, bne_eq_false_iff_eq, Bool.not_eq_false, Bool.not_eq_eq_eq_not, Bool.not_true, Bool.not_false] at hb
        (first | exact absurd trivial hb | exact absurd rfl hb | cases hb | (exfalso; omega) | (simp at hb; done))
      · try simp only [decide_eq_true_eq, decide_eq_false_iff_not, beq_iff_eq, bne_iff_ne, ne_eq, Bool.not_eq_true, beq_eq_false_iff_ne, bne_eq_false_iff_eq, Bool.not_eq_false, Bool.not_eq_eq_eq_not, Bool.not_true, Bool.not_false] at hb
        refine AWp.skip ?_
        try simp only [thenQ, bq, lq, lf, iq, gq, Nat.reduceEqDiff, if_true, if_false]
        refine hY1 _ ?_
        try clear hY1 Y1
        refine AWp.regE p_law47_same_8 [] s_law47_same_8 rfl rfl (st_of ?_)
        simp only [s_law47_same_8, wT, Bool.not_eq_true, ty, zr, Nat.reduceAdd, Nat.reduceSub, Nat.reduceMul, Nat.reduceMod, Nat.reduceDiv, Nat.reduceEqDiff, Nat.reduceLeDiff, Nat.reduceBEq, Int.reduceAdd, Int.reduceSub, Int.reduceMul, Int.reduceNeg, Int.reduceLT, Int.reduceLE, Int.reduceEq, Int.reduceNe, Int.reduceBEq, Int.reduceToNat, Int.reduceTDiv, Int.reduceTMod, Int.reduceOfNat, reduceCtorEq, sty, sui]
        try simp (disch := first | omega | (simp only [List.length_set, List.length_replicate, List.length_append, List.length_nil]; first | done | omega)) only [aT, Int.reduceToNat, List.length_set, List.length_replicate, List.length_append, List.length_nil]
        try simp only [thenQ, bq, lq, lf, iq, gq, Nat.reduceEqDiff, if_true, if_false]
        first | exact ⟨by omega, Le.ofA⟩ | exact Le.ofA
    · try simp only [decide_eq_true_eq, decide_eq_false_iff_not, beq_iff_eq, bne_iff_ne, ne_eq, Bool.not_eq_true, beq_eq_false_iff_ne, bne_eq_false_iff_eq, Bool.not_eq_false, Bool.not_eq_eq_eq_not, Bool.not_true, Bool.not_false] at hb
      try simp only [thenQ, bq, lq, lf, iq, gq, Nat.reduceEqDiff, if_true, if_false]
      refine hX0 _ ?_
      try clear hX0 X0
      obtain rfl : i = d := by omega
      try simp only [thenQ, bq, lq, lf, iq, gq, Nat.reduceEqDiff, if_true, if_false]
      refine hG17 _ ?_
      try clear hG17 G17
      refine AWp.reg p_law47_same_9 [] s_law47_same_9 rfl rfl fun K hK => st_of ?_
      simp only [s_law47_same_9, wT, Bool.not_eq_true, ty, zr, Nat.reduceAdd, Nat.reduceSub, Nat.reduceMul, Nat.reduceMod, Nat.reduceDiv, Nat.reduceEqDiff, Nat.reduceLeDiff, Nat.reduceBEq, Int.reduceAdd, Int.reduceSub, Int.reduceMul, Int.reduceNeg, Int.reduceLT, Int.reduceLE, Int.reduceEq, Int.reduceNe, Int.reduceBEq, Int.reduceToNat, Int.reduceTDiv, Int.reduceTMod, Int.reduceOfNat, reduceCtorEq, sty, sui]
      refine hK _ ?_; clear hK K
      refine AWp.ret ?_
      try simp only [thenQ, bq, lq, lf, iq, gq, Nat.reduceEqDiff, if_true, if_false]
      simp only [endQ, rs_law47_same, resC, one, wT, Bool.not_eq_true, ty, zr, Nat.reduceAdd, Nat.reduceSub, Nat.reduceMul, Nat.reduceMod, Nat.reduceDiv, Nat.reduceEqDiff, Nat.reduceLeDiff, Nat.reduceBEq, Int.reduceAdd, Int.reduceSub, Int.reduceMul, Int.reduceNeg, Int.reduceLT, Int.reduceLE, Int.reduceEq, Int.reduceNe, Int.reduceBEq, Int.reduceToNat, Int.reduceTDiv, Int.reduceTMod, Int.reduceOfNat, reduceCtorEq, sty, sui]
      repeat' (first | exact True.intro | (with_reducible rfl) | (with_reducible apply And.intro) | omega | rfl)
theorem refProof_one {α : Type} (E : α → Option (Row α)) (x : Sy.Id α) (l : List Int) (o i : Nat) (f : Bool) :
    FnOk Try.prog n_ref47_Proof E [.slice f x o 1 16, .int .i64 i] [] (.slice true (.own 0) 0 (proofF l o 1 i).length 16) [some (.ints .u8 (proofF l o 1 i).flatten)] := by
  rw [proofF_one]
  refine FnOk.intro func_ref47_Proof call_ref47_Proof (body := _) rfl nt_ref47_Proof (by simp) ?_
  refine AWp.reg p_ref47_Proof_0 [] s_ref47_Proof_0 rfl rfl fun K hK => st_of ?_
  simp only [s_ref47_Proof_0, wT, Bool.not_eq_true, ty, zr, Nat.reduceAdd, Nat.reduceSub, Nat.reduceMul, Nat.reduceMod, Nat.reduceDiv, Nat.reduceEqDiff, Nat.reduceLeDiff, Nat.reduceBEq, Int.reduceAdd, Int.reduceSub, Int.reduceMul, Int.reduceNeg, Int.reduceLT, Int.reduceLE, Int.reduceEq, Int.reduceNe, Int.reduceBEq, Int.reduceToNat, Int.reduceTDiv, Int.reduceTMod, Int.reduceOfNat, reduceCtorEq, sty, sui]
  refine hK _ ?_; clear hK K
  refine AWp.grp fun G4 hG4 => ?_
  refine AWp.reg p_ref47_Proof_1 [] s_ref47_Proof_1 rfl rfl fun K hK => st_of ?_
  simp only [s_ref47_Proof_1, wT, Bool.not_eq_true, ty, zr, Nat.reduceAdd, Nat.reduceSub, Nat.reduceMul, Nat.reduceMod, Nat.reduceDiv, Nat.reduceEqDiff, Nat.reduceLeDiff, Nat.reduceBEq, Int.reduceAdd, Int.reduceSub, Int.reduceMul, Int.reduceNeg, Int.reduceLT, Int.reduceLE, Int.reduceEq, Int.reduceNe, Int.reduceBEq, Int.reduceToNat, Int.reduceTDiv, Int.reduceTMod, Int.reduceOfNat, reduceCtorEq, sty, sui]
  refine hK _ ?_; clear hK K
  refine AWp.iteE rfl (fun hb => ?_) (fun hb => ?_)
  · try simp only [decide_eq_true_eq, decide_eq_false_iff_not, beq_iff_eq, bne_iff_ne, ne_eq, Bool.not_eq_true, beq_eq_false_iff_ne, bne_eq_false_iff_eq, Bool.not_eq_false, Bool.not_eq_eq_eq_not, Bool.not_true, Bool.not_false] at hb
    refine AWp.reg p_ref47_Proof_2 [] s_ref47_Proof_2 rfl rfl fun K hK => st_of ?_
    simp only [s_ref47_Proof_2, wT, Bool.not_eq_true, ty, zr, Nat.reduceAdd, Nat.reduceSub, Nat.reduceMul, Nat.reduceMod, Nat.reduceDiv, Nat.reduceEqDiff, Nat.reduceLeDiff, Nat.reduceBEq, Int.reduceAdd, Int.reduceSub, Int.reduceMul, Int.reduceNeg, Int.reduceLT, Int.reduceLE, Int.reduceEq, Int.reduceNe, Int.reduceBEq, Int.reduceToNat, Int.reduceTDiv, Int.reduceTMod, Int.reduceOfNat, reduceCtorEq, sty, sui]
    simp only [bRow0]
    (repeat ((with_reducible refine And.intro ?_ ?_); (first | omega | exact True.intro | with_reducible rfl | decide | assumption | rfl)))
    refine hK _ ?_; clear hK K
    refine AWp.ret ?_
    try simp only [thenQ, bq, lq, lf, iq, gq, Nat.reduceEqDiff, if_true, if_false]
    simp only [endQ, rs_ref47_Proof, resC, one, wT, Bool.not_eq_true, ty, zr, Nat.reduceAdd, Nat.reduceSub, Nat.reduceMul, Nat.reduceMod, Nat.reduceDiv, Nat.reduceEqDiff, Nat.reduceLeDiff, Nat.reduceBEq, Int.reduceAdd, Int.reduceSub, Int.reduceMul, Int.reduceNeg, Int.reduceLT, Int.reduceLE, Int.reduceEq, Int.reduceNe, Int.reduceBEq, Int.reduceToNat, Int.reduceTDiv, Int.reduceTMod, Int.reduceOfNat, reduceCtorEq, sty, sui]
    refine ⟨[0], by decide, by simp, by rfl, ?_⟩; (repeat' (first | exact trivial | rfl | omega | apply And.intro | (simp [AV.All, AV.AllL, inS, AV.map, AV.mapL, renS, selRows, selRow, Row.map, Row.All, mapL_flat, mapL_flat1, allL_flat, allL_flat1]; done)))
  · try simp only [decide_eq_true_eq, decide_eq_false_iff_not, beq_iff_eq, bne_iff_ne, ne_eq, Bool.not_eq_true, beq_eq_false_iff_ne, bne_eq_false_iff_eq, Bool.not_eq_false, Bool.not_eq_eq_eq_not, Bool.not_true, Bool.not_false] at hb
    (first | exact absurd trivial hb | exact absurd rfl hb | cases hb | (exfalso; omega) | (simp at hb; done))
theorem refProof_l {α : Type} (n k : Nat) (hk : (n + 1) / 2 = k) (k1 : 1 ≤ k) (k2 : k < n) (k3 : n ≤ 2 * k) (h2 : 2 ≤ n)
    (e : ∀ m, m < n → ∀ (β : Type) (E : β → Option (Row β)) (x : β) (l : List Int), E x = some (.ints .u8 l) → AllB l → ∀ (o i : Nat) (f : Bool), i < m → m ≤ 65536 → o + m * 16 ≤ l.length →
      FnOk Try.prog n_ref47_Proof E [.slice f (.ext x) o m 16, .int .i64 i] [] (.slice true (.own 0) 0 (proofF l o m i).length 16) [some (.ints .u8 (proofF l o m i).flatten)])
    (E : α → Option (Row α)) (x : α) (l : List Int) (hx : E x = some (.ints .u8 l)) (hB : AllB l) (o i : Nat) (f : Bool) (h1 : i < n) (hn : n ≤ 65536) (ho : o + n * 16 ≤ l.length) (hi : i < k) :
    FnOk Try.prog n_ref47_Proof E [.slice f (.ext x) o n 16, .int .i64 i] [] (.slice true (.own 0) 0 (proofF l o n i).length 16) [some (.ints .u8 (proofF l o n i).flatten)] := by
  have e1 := e k k2
  have e2 := e (n - k) (by omega)
  clear e
  have q := proofF_l l o h2 (i := i) (by omega)
  rw [hk] at q
  rw [q]
  obtain ⟨A, A2, A3⟩ := proofF_A l k o i
  obtain ⟨D, hD⟩ : ∃ D, proofF l o k i = D := ⟨_, rfl⟩
  rw [hD] at A A2 A3 ⊢
  obtain ⟨r, hr⟩ : ∃ r, rootO l (o + k * 16) (n - k) = r := ⟨_, rfl⟩
  have lr : r.length = 16 := by rw [← hr]; exact rootO_len _ _ _
  have sr : sub r 0 16 = r := sub_all lr
  rw [hr, List.flatten_append, List.length_append, List.length_singleton]
  simp only [List.flatten_cons, List.flatten_nil, List.append_nil]
  have hf := flat_len A
  have hs : sub D.flatten 0 (D.length * 16) = D.flatten := sub_all hf
  refine FnOk.intro func_ref47_Proof call_ref47_Proof (body := _) rfl nt_ref47_Proof (by simp) ?_
  refine AWp.reg p_ref47_Proof_0 [] s_ref47_Proof_0 rfl rfl fun K hK => st_of ?_
  simp only [s_ref47_Proof_0, wT, Bool.not_eq_true, ty, zr, Nat.reduceAdd, Nat.reduceSub, Nat.reduceMul, Nat.reduceMod, Nat.reduceDiv, Nat.reduceEqDiff, Nat.reduceLeDiff, Nat.reduceBEq, Int.reduceAdd, Int.reduceSub, Int.reduceMul, Int.reduceNeg, Int.reduceLT, Int.reduceLE, Int.reduceEq, Int.reduceNe, Int.reduceBEq, Int.reduceToNat, Int.reduceTDiv, Int.reduceTMod, Int.reduceOfNat, reduceCtorEq, sty, sui]
  refine hK _ ?_; clear hK K
  refine AWp.grp fun G4 hG4 => ?_
  refine AWp.reg p_ref47_Proof_1 [] s_ref47_Proof_1 rfl rfl fun K hK => st_of ?_
  simp only [s_ref47_Proof_1, wT, Bool.not_eq_true, ty, zr, Nat.reduceAdd, Nat.reduceSub, Nat.reduceMul, Nat.reduceMod, Nat.reduceDiv, Nat.reduceEqDiff, Nat.reduceLeDiff, Nat.reduceBEq, Int.reduceAdd, Int.reduceSub, Int.reduceMul, Int.reduceNeg, Int.reduceLT, Int.reduceLE, Int.reduceEq, Int.reduceNe, Int.reduceBEq, Int.reduceToNat, Int.reduceTDiv, Int.reduceTMod, Int.reduceOfNat, reduceCtorEq, sty, sui]
  refine hK _ ?_; clear hK K
  refine AWp.iteE rfl (fun hb => ?_) (fun hb => ?_)
  · try simp only [decide_eq_true_eq, decide_eq_false_iff_not, beq_iff_eq, bne_iff_ne, ne_eq, Bool.not_eq_true, beq_eq_false_iff_ne, bne_eq_false_iff_eq, Bool.not_eq_false, Bool.not_eq_eq_eq_not, Bool.not_true, Bool.not_false] at hb
    exfalso; omega
  · try simp only [decide_eq_true_eq, decide_eq_false_iff_not, beq_iff_eq, bne_iff_ne, ne_eq, Bool.not_eq_true, beq_eq_false_iff_ne, bne_eq_false_iff_eq, Bool.not_eq_false, Bool.not_eq_eq_eq_not, Bool.not_true, Bool.not_false] at hb
    refine AWp.skip ?_
    try simp only [thenQ, bq, lq, lf, iq, gq, Nat.reduceEqDiff, if_true, if_false]
    refine hG4 _ ?_
    try clear hG4 G4
    refine AWp.reg p_ref47_Proof_3 [] s_ref47_Proof_3 rfl rfl fun K hK => st_of ?_
    simp only [s_ref47_Proof_3, wT, Bool.not_eq_true, ty, zr, Nat.reduceAdd, Nat.reduceSub, Nat.reduceMul, Nat.reduceMod, Nat.reduceDiv, Nat.reduceEqDiff, Nat.reduceLeDiff, Nat.reduceBEq, Int.reduceAdd, Int.reduceSub, Int.reduceMul, Int.reduceNeg, Int.reduceLT, Int.reduceLE, Int.reduceEq, Int.reduceNe, Int.reduceBEq, Int.reduceToNat, Int.reduceTDiv, Int.reduceTMod, Int.reduceOfNat, reduceCtorEq, sty, sui]
    refine st_call fun K1 hK1 => ?_
    simp only [calleeC, wT, Bool.not_eq_true, ty, zr, Nat.reduceAdd, Nat.reduceSub, Nat.reduceMul, Nat.reduceMod, Nat.reduceDiv, Nat.reduceEqDiff, Nat.reduceLeDiff, Nat.reduceBEq, Int.reduceAdd, Int.reduceSub, Int.reduceMul, Int.reduceNeg, Int.reduceLT, Int.reduceLE, Int.reduceEq, Int.reduceNe, Int.reduceBEq, Int.reduceToNat, Int.reduceTDiv, Int.reduceTMod, Int.reduceOfNat, reduceCtorEq, sty, sui]
    refine hK1 _ _ ?_
    clear hK1 K1
    simp only [CallTo, AV.mapL, AV.map, mapL_flat, mapL_flat1]
    refine ⟨_, _, half_ok' _ n (by omega), ?_⟩
    simp only [hk, wT, Bool.not_eq_true, ty, zr, Nat.reduceAdd, Nat.reduceSub, Nat.reduceMul, Nat.reduceMod, Nat.reduceDiv, Nat.reduceEqDiff, Nat.reduceLeDiff, Nat.reduceBEq, Int.reduceAdd, Int.reduceSub, Int.reduceMul, Int.reduceNeg, Int.reduceLT, Int.reduceLE, Int.reduceEq, Int.reduceNe, Int.reduceBEq, Int.reduceToNat, Int.reduceTDiv, Int.reduceTMod, Int.reduceOfNat, reduceCtorEq, sty, sui]
    refine hK _ ?_; clear hK K
    refine AWp.grp fun G29 hG29 => ?_
    refine AWp.reg p_ref47_Proof_4 [] s_ref47_Proof_4 rfl rfl fun K hK => st_of ?_
    simp only [s_ref47_Proof_4, wT, Bool.not_eq_true, ty, zr, Nat.reduceAdd, Nat.reduceSub, Nat.reduceMul, Nat.reduceMod, Nat.reduceDiv, Nat.reduceEqDiff, Nat.reduceLeDiff, Nat.reduceBEq, Int.reduceAdd, Int.reduceSub, Int.reduceMul, Int.reduceNeg, Int.reduceLT, Int.reduceLE, Int.reduceEq, Int.reduceNe, Int.reduceBEq, Int.reduceToNat, Int.reduceTDiv, Int.reduceTMod, Int.reduceOfNat, reduceCtorEq, sty, sui]
    refine hK _ ?_; clear hK K
    refine AWp.iteE rfl (fun hb => ?_) (fun hb => ?_)
    · try simp only [decide_eq_true_eq, decide_eq_false_iff_not, beq_iff_eq, bne_iff_ne, ne_eq, Bool.not_eq_true, beq_eq_false_iff_ne, bne_eq_false_iff_eq, Bool.not_eq_false, Bool.not_eq_eq_eq_not, Bool.not_true, Bool.not_false] at hb
      refine AWp.drwP mix p_ref47_Proof_5 q_ref47_Proof_5 g_ref47_Proof_5 s_ref47_Proof_5 rfl (by decide +kernel) fun K hK => sp_of ?_
      simp only [s_ref47_Proof_5, wT, Bool.not_eq_true, ty, zr, Nat.reduceAdd, Nat.reduceSub, Nat.reduceMul, Nat.reduceMod, Nat.reduceDiv, Nat.reduceEqDiff, Nat.reduceLeDiff, Nat.reduceBEq, Int.reduceAdd, Int.reduceSub, Int.reduceMul, Int.reduceNeg, Int.reduceLT, Int.reduceLE, Int.reduceEq, Int.reduceNe, Int.reduceBEq, Int.reduceToNat, Int.reduceTDiv, Int.reduceTMod, Int.reduceOfNat, reduceCtorEq, sty, sui]
      (repeat ((with_reducible refine And.intro ?_ ?_); (first | omega | exact True.intro | with_reducible rfl | decide | assumption | rfl)))
      refine sp_call fun K1 hK1 => ?_
      simp only [calleeC, wT, Bool.not_eq_true, ty, zr, Nat.reduceAdd, Nat.reduceSub, Nat.reduceMul, Nat.reduceMod, Nat.reduceDiv, Nat.reduceEqDiff, Nat.reduceLeDiff, Nat.reduceBEq, Int.reduceAdd, Int.reduceSub, Int.reduceMul, Int.reduceNeg, Int.reduceLT, Int.reduceLE, Int.reduceEq, Int.reduceNe, Int.reduceBEq, Int.reduceToNat, Int.reduceTDiv, Int.reduceTMod, Int.reduceOfNat, reduceCtorEq, sty, sui]
      refine hK1 _ _ ?_
      clear hK1 K1
      simp only [CallTo, AV.mapL, AV.map, mapL_flat, mapL_flat1]
      refine ⟨_, _, e1 _ _ _ l (by simp only [Sy.look, hx, Option.map_some, Row.map]) hB o i _ hi (by omega) (by omega), ?_⟩
      simp only [hD, wT, Bool.not_eq_true, ty, zr, Nat.reduceAdd, Nat.reduceSub, Nat.reduceMul, Nat.reduceMod, Nat.reduceDiv, Nat.reduceEqDiff, Nat.reduceLeDiff, Nat.reduceBEq, Int.reduceAdd, Int.reduceSub, Int.reduceMul, Int.reduceNeg, Int.reduceLT, Int.reduceLE, Int.reduceEq, Int.reduceNe, Int.reduceBEq, Int.reduceToNat, Int.reduceTDiv, Int.reduceTMod, Int.reduceOfNat, reduceCtorEq, sty, sui]
      refine sp_call fun K1 hK1 => ?_
      simp only [calleeC, wT, Bool.not_eq_true, ty, zr, Nat.reduceAdd, Nat.reduceSub, Nat.reduceMul, Nat.reduceMod, Nat.reduceDiv, Nat.reduceEqDiff, Nat.reduceLeDiff, Nat.reduceBEq, Int.reduceAdd, Int.reduceSub, Int.reduceMul, Int.reduceNeg, Int.reduceLT, Int.reduceLE, Int.reduceEq, Int.reduceNe, Int.reduceBEq, Int.reduceToNat, Int.reduceTDiv, Int.reduceTMod, Int.reduceOfNat, reduceCtorEq, sty, sui]
      refine hK1 _ _ ?_
      clear hK1 K1
      simp only [CallTo, AV.mapL, AV.map, mapL_flat, mapL_flat1]
      refine ⟨_, _, refRoot_ok (n - k) _ (Sy.Id.ext x) l (by simp only [Sy.look, hx, Option.map_some, Row.map]) hB (o + k * 16) _ (by omega) (by omega) (by omega), ?_⟩
      simp only [hr, wT, Bool.not_eq_true, ty, zr, Nat.reduceAdd, Nat.reduceSub, Nat.reduceMul, Nat.reduceMod, Nat.reduceDiv, Nat.reduceEqDiff, Nat.reduceLeDiff, Nat.reduceBEq, Int.reduceAdd, Int.reduceSub, Int.reduceMul, Int.reduceNeg, Int.reduceLT, Int.reduceLE, Int.reduceEq, Int.reduceNe, Int.reduceBEq, Int.reduceToNat, Int.reduceTDiv, Int.reduceTMod, Int.reduceOfNat, reduceCtorEq, sty, sui]
      try simp (disch := first | omega | (simp only [List.length_set, List.length_replicate, List.length_append, List.length_nil]; first | done | omega)) only [aT, Int.reduceToNat, List.length_set, List.length_replicate, List.length_append, List.length_nil]
      simp only [bRow1 (ι := Sy.Id α) _ lr, sr, wT, Bool.not_eq_true, ty, zr, Nat.reduceAdd, Nat.reduceSub, Nat.reduceMul, Nat.reduceMod, Nat.reduceDiv, Nat.reduceEqDiff, Nat.reduceLeDiff, Nat.reduceBEq, Int.reduceAdd, Int.reduceSub, Int.reduceMul, Int.reduceNeg, Int.reduceLT, Int.reduceLE, Int.reduceEq, Int.reduceNe, Int.reduceBEq, Int.reduceToNat, Int.reduceTDiv, Int.reduceTMod, Int.reduceOfNat, reduceCtorEq, sty, sui]
      simp only [lr, hf, hs, sr]
      (repeat ((with_reducible refine And.intro ?_ ?_); (first | omega | exact True.intro | with_reducible rfl | decide | assumption | rfl)))
      refine hK _ ?_; clear hK K
      refine AWp.ret ?_
      try simp only [thenQ, bq, lq, lf, iq, gq, Nat.reduceEqDiff, if_true, if_false]
      simp only [endQ, rs_ref47_Proof, resC, one, wT, Bool.not_eq_true, ty, zr, Nat.reduceAdd, Nat.reduceSub, Nat.reduceMul, Nat.reduceMod, Nat.reduceDiv, Nat.reduceEqDiff, Nat.reduceLeDiff, Nat.reduceBEq, Int.reduceAdd, Int.reduceSub, Int.reduceMul, Int.reduceNeg, Int.reduceLT, Int.reduceLE, Int.reduceEq, Int.reduceNe, Int.reduceBEq, Int.reduceToNat, Int.reduceTDiv, Int.reduceTMod, Int.reduceOfNat, reduceCtorEq, sty, sui]
      refine ⟨[2], by decide, by simp, by rfl, ?_⟩; (repeat' (first | exact trivial | rfl | omega | apply And.intro | (simp [AV.All, AV.AllL, inS, AV.map, AV.mapL, renS, selRows, selRow, Row.map, Row.All, mapL_flat, mapL_flat1, allL_flat, allL_flat1]; done)))
    · try simp only [decide_eq_true_eq, decide_eq_false_iff_not, beq_iff_eq, bne_iff_ne, ne_eq, Bool.not_eq_true, beq_eq_false_iff_ne, bne_eq_false_iff_eq, Bool.not_eq_false, Bool.not_eq_eq_eq_not, Bool.not_true, Bool.not_false] at hb
      exfalso; omega
theorem refProof_r {α : Type} (n k : Nat) (hk : (n + 1) / 2 = k) (k1 : 1 ≤ k) (k2 : k < n) (k3 : n ≤ 2 * k) (h2 : 2 ≤ n)
    (e : ∀ m, m < n → ∀ (β : Type) (E : β → Option (Row β)) (x : β) (l : List Int), E x = some (.ints .u8 l) → AllB l → ∀ (o i : Nat) (f : Bool), i < m → m ≤ 65536 → o + m * 16 ≤ l.length →
      FnOk Try.prog n_ref47_Proof E [.slice f (.ext x) o m 16, .int .i64 i] [] (.slice true (.own 0) 0 (proofF l o m i).length 16) [some (.ints .u8 (proofF l o m i).flatten)])
    (E : α → Option (Row α)) (x : α) (l : List Int) (hx : E x = some (.ints .u8 l)) (hB : AllB l) (o i : Nat) (f : Bool) (h1 : i < n) (hn : n ≤ 65536) (ho : o + n * 16 ≤ l.length) (hi : ¬ i < k) :
    FnOk Try.prog n_ref47_Proof E [.slice f (.ext x) o n 16, .int .i64 i] [] (.slice true (.own 0) 0 (proofF l o n i).length 16) [some (.ints .u8 (proofF l o n i).flatten)] := by
  have e1 := e k k2
  have e2 := e (n - k) (by omega)
  clear e
  have q := proofF_r l o h2 (i := i) (by omega)
  rw [hk] at q
  rw [q]
  have hik : (i : Int) - (k : Int) = ((i - k : Nat) : Int) := by omega
  obtain ⟨A, A2, A3⟩ := proofF_A l (n - k) (o + k * 16) (i - k)
  obtain ⟨D, hD⟩ : ∃ D, proofF l (o + k * 16) (n - k) (i - k) = D := ⟨_, rfl⟩
  rw [hD] at A A2 A3 ⊢
  obtain ⟨r, hr⟩ : ∃ r, rootO l o k = r := ⟨_, rfl⟩
  have lr : r.length = 16 := by rw [← hr]; exact rootO_len _ _ _
  have sr : sub r 0 16 = r := sub_all lr
  rw [hr, List.flatten_append, List.length_append, List.length_singleton]
  simp only [List.flatten_cons, List.flatten_nil, List.append_nil]
  have hf := flat_len A
  have hs : sub D.flatten 0 (D.length * 16) = D.flatten := sub_all hf
  refine FnOk.intro func_ref47_Proof call_ref47_Proof (body := _) rfl nt_ref47_Proof (by simp) ?_
  refine AWp.reg p_ref47_Proof_0 [] s_ref47_Proof_0 rfl rfl fun K hK => st_of ?_
  simp only [s_ref47_Proof_0, wT, Bool.not_eq_true, ty, zr, Nat.reduceAdd, Nat.reduceSub, Nat.reduceMul, Nat.reduceMod, Nat.reduceDiv, Nat.reduceEqDiff, Nat.reduceLeDiff, Nat.reduceBEq, Int.reduceAdd, Int.reduceSub, Int.reduceMul, Int.reduceNeg, Int.reduceLT, Int.reduceLE, Int.reduceEq, Int.reduceNe, Int.reduceBEq, Int.reduceToNat, Int.reduceTDiv, Int.reduceTMod, Int.reduceOfNat, reduceCtorEq, sty, sui]
  refine hK _ ?_; clear hK K
  refine AWp.grp fun G4 hG4 => ?_
  refine AWp.reg p_ref47_Proof_1 [] s_ref47_Proof_1 rfl rfl fun K hK => st_of ?_
  simp only [s_ref47_Proof_1, wT, Bool.not_eq_true, ty, zr, Nat.reduceAdd, Nat.reduceSub, Nat.reduceMul, Nat.reduceMod, Nat.reduceDiv, Nat.reduceEqDiff, Nat.reduceLeDiff, Nat.reduceBEq, Int.reduceAdd, Int.reduceSub, Int.reduceMul, Int.reduceNeg, Int.reduceLT, Int.reduceLE, Int.reduceEq, Int.reduceNe, Int.reduceBEq, Int.reduceToNat, Int.reduceTDiv, Int.reduceTMod, Int.reduceOfNat, reduceCtorEq, sty, sui]
  refine hK _ ?_; clear hK K
  refine AWp.iteE rfl (fun hb => ?_) (fun hb => ?_)
  · try simp only [decide_eq_true_eq, decide_eq_false_iff_not, beq_iff_eq, bne_iff_ne, ne_eq, Bool.not_eq_true, beq_eq_false_iff_ne, bne_eq_false_iff_eq, Bool.not_eq_false, Bool.not_eq_eq_eq_not, Bool.not_true, Bool.not_false] at hb
    exfalso; omega
  · try simp only [decide_eq_true_eq, decide_eq_false_iff_not, beq_iff_eq, bne_iff_ne, ne_eq, Bool.not_eq_true, beq_eq_false_iff_ne, bne_eq_false_iff_eq, Bool.not_eq_false, Bool.not_eq_eq_eq_not, Bool.not_true, Bool.not_false] at hb
    refine AWp.skip ?_
    try simp only [thenQ, bq, lq, lf, iq, gq, Nat.reduceEqDiff, if_true, if_false]
    refine hG4 _ ?_
    try clear hG4 G4
    refine AWp.reg p_ref47_Proof_3 [] s_ref47_Proof_3 rfl rfl fun K hK => st_of ?_
    simp only [s_ref47_Proof_3, wT, Bool.not_eq_true, ty, zr, Nat.reduceAdd, Nat.reduceSub, Nat.reduceMul, Nat.reduceMod, Nat.reduceDiv, Nat.reduceEqDiff, Nat.reduceLeDiff, Nat.reduceBEq, Int.reduceAdd, Int.reduceSub, Int.reduceMul, Int.reduceNeg, Int.reduceLT, Int.reduceLE, Int.reduceEq, Int.reduceNe, Int.reduceBEq, Int.reduceToNat, Int.reduceTDiv, Int.reduceTMod, Int.reduceOfNat, reduceCtorEq, sty, sui]
    refine st_call fun K1 hK1 => ?_
    simp only [calleeC, wT, Bool.not_eq_true, ty, zr, Nat.reduceAdd, Nat.reduceSub, Nat.reduceMul, Nat.reduceMod, Nat.reduceDiv, Nat.reduceEqDiff, Nat.reduceLeDiff, Nat.reduceBEq, Int.reduceAdd, Int.reduceSub, Int.reduceMul, Int.reduceNeg, Int.reduceLT, Int.reduceLE, Int.reduceEq, Int.reduceNe, Int.reduceBEq, Int.reduceToNat, Int.reduceTDiv, Int.reduceTMod, Int.reduceOfNat, reduceCtorEq, sty, sui]
    refine hK1 _ _ ?_
    clear hK1 K1
    simp only [CallTo, AV.mapL, AV.map, mapL_flat, mapL_flat1]
    refine ⟨_, _, half_ok' _ n (by omega), ?_⟩
    simp only [hk, wT, Bool.not_eq_true, ty, zr, Nat.reduceAdd, Nat.reduceSub, Nat.reduceMul, Nat.reduceMod, Nat.reduceDiv, Nat.reduceEqDiff, Nat.reduceLeDiff, Nat.reduceBEq, Int.reduceAdd, Int.reduceSub, Int.reduceMul, Int.reduceNeg, Int.reduceLT, Int.reduceLE, Int.reduceEq, Int.reduceNe, Int.reduceBEq, Int.reduceToNat, Int.reduceTDiv, Int.reduceTMod, Int.reduceOfNat, reduceCtorEq, sty, sui]
    refine hK _ ?_; clear hK K
    refine AWp.grp fun G29 hG29 => ?_
    refine AWp.reg p_ref47_Proof_4 [] s_ref47_Proof_4 rfl rfl fun K hK => st_of ?_
    simp only [s_ref47_Proof_4, wT, Bool.not_eq_true, ty, zr, Nat.reduceAdd, Nat.reduceSub, Nat.reduceMul, Nat.reduceMod, Nat.reduceDiv, Nat.reduceEqDiff, Nat.reduceLeDiff, Nat.reduceBEq, Int.reduceAdd, Int.reduceSub, Int.reduceMul, Int.reduceNeg, Int.reduceLT, Int.reduceLE, Int.reduceEq, Int.reduceNe, Int.reduceBEq, Int.reduceToNat, Int.reduceTDiv, Int.reduceTMod, Int.reduceOfNat, reduceCtorEq, sty, sui]
    refine hK _ ?_; clear hK K
    refine AWp.iteE rfl (fun hb => ?_) (fun hb => ?_)
    · try simp only [decide_eq_true_eq, decide_eq_false_iff_not, beq_iff_eq, bne_iff_ne, ne_eq, Bool.not_eq_true, beq_eq_false_iff_ne, bne_eq_false_iff_eq, Bool.not_eq_false, Bool.not_eq_eq_eq_not, Bool.not_true, Bool.not_false] at hb
      exfalso; omega
    · try simp only [decide_eq_true_eq, decide_eq_false_iff_not, beq_iff_eq, bne_iff_ne, ne_eq, Bool.not_eq_true, beq_eq_false_iff_ne, bne_eq_false_iff_eq, Bool.not_eq_false, Bool.not_eq_eq_eq_not, Bool.not_true, Bool.not_false] at hb
      refine AWp.skip ?_
      try simp only [thenQ, bq, lq, lf, iq, gq, Nat.reduceEqDiff, if_true, if_false]
      refine hG29 _ ?_
      try clear hG29 G29
      refine AWp.drwP mix p_ref47_Proof_6 q_ref47_Proof_6 g_ref47_Proof_6 s_ref47_Proof_6 rfl (by decide +kernel) fun K hK => sp_of ?_
      simp only [s_ref47_Proof_6, wT, Bool.not_eq_true, ty, zr, Nat.reduceAdd, Nat.reduceSub, Nat.reduceMul, Nat.reduceMod, Nat.reduceDiv, Nat.reduceEqDiff, Nat.reduceLeDiff, Nat.reduceBEq, Int.reduceAdd, Int.reduceSub, Int.reduceMul, Int.reduceNeg, Int.reduceLT, Int.reduceLE, Int.reduceEq, Int.reduceNe, Int.reduceBEq, Int.reduceToNat, Int.reduceTDiv, Int.reduceTMod, Int.reduceOfNat, reduceCtorEq, sty, sui]
      try simp (disch := first | omega | (simp only [List.length_set, List.length_replicate, List.length_append, List.length_nil]; first | done | omega)) only [aT, Int.reduceToNat, List.length_set, List.length_replicate, List.length_append, List.length_nil]
      simp only [hik]
      (repeat ((with_reducible refine And.intro ?_ ?_); (first | omega | exact True.intro | with_reducible rfl | decide | assumption | rfl)))
      refine sp_call fun K1 hK1 => ?_
      simp only [calleeC, wT, Bool.not_eq_true, ty, zr, Nat.reduceAdd, Nat.reduceSub, Nat.reduceMul, Nat.reduceMod, Nat.reduceDiv, Nat.reduceEqDiff, Nat.reduceLeDiff, Nat.reduceBEq, Int.reduceAdd, Int.reduceSub, Int.reduceMul, Int.reduceNeg, Int.reduceLT, Int.reduceLE, Int.reduceEq, Int.reduceNe, Int.reduceBEq, Int.reduceToNat, Int.reduceTDiv, Int.reduceTMod, Int.reduceOfNat, reduceCtorEq, sty, sui]
      refine hK1 _ _ ?_
      clear hK1 K1
      simp only [CallTo, AV.mapL, AV.map, mapL_flat, mapL_flat1]
      refine ⟨_, _, e2 _ _ _ l (by simp only [Sy.look, hx, Option.map_some, Row.map]) hB (o + k * 16) (i - k) _ (by omega) (by omega) (by omega), ?_⟩
      simp only [hD, wT, Bool.not_eq_true, ty, zr, Nat.reduceAdd, Nat.reduceSub, Nat.reduceMul, Nat.reduceMod, Nat.reduceDiv, Nat.reduceEqDiff, Nat.reduceLeDiff, Nat.reduceBEq, Int.reduceAdd, Int.reduceSub, Int.reduceMul, Int.reduceNeg, Int.reduceLT, Int.reduceLE, Int.reduceEq, Int.reduceNe, Int.reduceBEq, Int.reduceToNat, Int.reduceTDiv, Int.reduceTMod, Int.reduceOfNat, reduceCtorEq, sty, sui]
      refine sp_call fun K1 hK1 => ?_
      simp only [calleeC, wT, Bool.not_eq_true, ty, zr, Nat.reduceAdd, Nat.reduceSub, Nat.reduceMul, Nat.reduceMod, Nat.reduceDiv, Nat.reduceEqDiff, Nat.reduceLeDiff, Nat.reduceBEq, Int.reduceAdd, Int.reduceSub, Int.reduceMul, Int.reduceNeg, Int.reduceLT, Int.reduceLE, Int.reduceEq, Int.reduceNe, Int.reduceBEq, Int.reduceToNat, Int.reduceTDiv, Int.reduceTMod, Int.reduceOfNat, reduceCtorEq, sty, sui]
      refine hK1 _ _ ?_
      clear hK1 K1
      simp only [CallTo, AV.mapL, AV.map, mapL_flat, mapL_flat1]
      refine ⟨_, _, refRoot_ok k _ (Sy.Id.ext x) l (by simp only [Sy.look, hx, Option.map_some, Row.map]) hB o _ (by omega) (by omega) (by omega), ?_⟩
      simp only [hr, wT, Bool.not_eq_true, ty, zr, Nat.reduceAdd, Nat.reduceSub, Nat.reduceMul, Nat.reduceMod, Nat.reduceDiv, Nat.reduceEqDiff, Nat.reduceLeDiff, Nat.reduceBEq, Int.reduceAdd, Int.reduceSub, Int.reduceMul, Int.reduceNeg, Int.reduceLT, Int.reduceLE, Int.reduceEq, Int.reduceNe, Int.reduceBEq, Int.reduceToNat, Int.reduceTDiv, Int.reduceTMod, Int.reduceOfNat, reduceCtorEq, sty, sui]
      try simp (disch := first | omega | (simp only [List.length_set, List.length_replicate, List.length_append, List.length_nil]; first | done | omega)) only [aT, Int.reduceToNat, List.length_set, List.length_replicate, List.length_append, List.length_nil]
      simp only [bRow1 (ι := Sy.Id α) _ lr, sr, wT, Bool.not_eq_true, ty, zr, Nat.reduceAdd, Nat.reduceSub, Nat.reduceMul, Nat.reduceMod, Nat.reduceDiv, Nat.reduceEqDiff, Nat.reduceLeDiff, Nat.reduceBEq, Int.reduceAdd, Int.reduceSub, Int.reduceMul, Int.reduceNeg, Int.reduceLT, Int.reduceLE, Int.reduceEq, Int.reduceNe, Int.reduceBEq, Int.reduceToNat, Int.reduceTDiv, Int.reduceTMod, Int.reduceOfNat, reduceCtorEq, sty, sui]
      simp only [lr, hf, hs, sr]
      (repeat ((with_reducible refine And.intro ?_ ?_); (first | omega | exact True.intro | with_reducible rfl | decide | assumption | rfl)))
      refine hK _ ?_; clear hK K
      refine AWp.ret ?_
      try simp only [thenQ, bq, lq, lf, iq, gq, Nat.reduceEqDiff, if_true, if_false]
      simp only [endQ, rs_ref47_Proof, resC, one, wT, Bool.not_eq_true, ty, zr, Nat.reduceAdd, Nat.reduceSub, Nat.reduceMul, Nat.reduceMod, Nat.reduceDiv, Nat.reduceEqDiff, Nat.reduceLeDiff, Nat.reduceBEq, Int.reduceAdd, Int.reduceSub, Int.reduceMul, Int.reduceNeg, Int.reduceLT, Int.reduceLE, Int.reduceEq, Int.reduceNe, Int.reduceBEq, Int.reduceToNat, Int.reduceTDiv, Int.reduceTMod, Int.reduceOfNat, reduceCtorEq, sty, sui]
      refine ⟨[2], by decide, by simp, by rfl, ?_⟩; (repeat' (first | exact trivial | rfl | omega | apply And.intro | (simp [AV.All, AV.AllL, inS, AV.map, AV.mapL, renS, selRows, selRow, Row.map, Row.All, mapL_flat, mapL_flat1, allL_flat, allL_flat1]; done)))
theorem refProof_ok : ∀ (n : Nat) {α : Type} (E : α → Option (Row α)) (x : α) (l : List Int), E x = some (.ints .u8 l) → AllB l → ∀ (o i : Nat) (f : Bool), i < n → n ≤ 65536 → o + n * 16 ≤ l.length →
    FnOk Try.prog n_ref47_Proof E [.slice f (.ext x) o n 16, .int .i64 i] [] (.slice true (.own 0) 0 (proofF l o n i).length 16) [some (.ints .u8 (proofF l o n i).flatten)] := by
  intro n
  induction n using Nat.strongRecOn with
  | _ n ih =>
  intro α E x l hx hB o i f h1 hn ho
  rcases (show n = 1 ∨ 2 ≤ n by omega) with rfl | h2
  · exact refProof_one E _ l o i f
  by_cases hi : i < (n + 1) / 2
  · exact refProof_l n _ rfl (by omega) (by omega) (by omega) h2 (fun m hm β => @ih m hm β) E x l hx hB o i f h1 hn ho hi
  · exact refProof_r n _ rfl (by omega) (by omega) (by omega) h2 (fun m hm β => @ih m hm β) E x l hx hB o i f h1 hn ho hi
end Go.Proofs.Ytdcbgmbpiekbgaa
