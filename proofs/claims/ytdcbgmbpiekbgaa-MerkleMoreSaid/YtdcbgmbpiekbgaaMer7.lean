/- Contracts: where two trees differ. -/
import Derived.Test.YtdcbgmbpiekbgaaMer6
namespace Go.Proofs.Ytdcbgmbpiekbgaa
open Go Go.Proofs.Ytdcbgmbpiekbgaa.Sy
set_option linter.unusedSimpArgs false
set_option linter.unusedVariables false
set_option maxRecDepth 100000
set_option maxHeartbeats 1000000


/-- At which places two trees of as many leaves differ, and how many parts are looked at. -/
def diffF (la lb : List Int) (o n p : Nat) : List Int × Nat :=
  if rootO la o n = rootO lb o n then ([], 1)
  else if h : n < 2 then ([(p : Int)], 1)
  else ((diffF la lb o ((n + 1) / 2) p).1 ++ (diffF la lb (o + (n + 1) / 2 * 16) (n - (n + 1) / 2) (p + (n + 1) / 2)).1,
    (diffF la lb o ((n + 1) / 2) p).2 + (diffF la lb (o + (n + 1) / 2 * 16) (n - (n + 1) / 2) (p + (n + 1) / 2)).2 + 1)
termination_by n
theorem diffF_eq {la lb : List Int} {o n p : Nat} (h : rootO la o n = rootO lb o n) : diffF la lb o n p = ([], 1) := by unfold diffF; rw [if_pos h]
theorem diffF_one {la lb : List Int} {o p : Nat} (h : rootO la o 1 ≠ rootO lb o 1) : diffF la lb o 1 p = ([(p : Int)], 1) := by unfold diffF; rw [if_neg h]; rfl
theorem diffF_two {la lb : List Int} {o n p : Nat} (h : rootO la o n ≠ rootO lb o n) (h2 : 2 ≤ n) : diffF la lb o n p = ((diffF la lb o ((n + 1) / 2) p).1 ++ (diffF la lb (o + (n + 1) / 2 * 16) (n - (n + 1) / 2) (p + (n + 1) / 2)).1,
    (diffF la lb o ((n + 1) / 2) p).2 + (diffF la lb (o + (n + 1) / 2 * 16) (n - (n + 1) / 2) (p + (n + 1) / 2)).2 + 1) := by
  conv => lhs; unfold diffF
  rw [if_neg h, dif_neg (by omega)]
theorem diffF_le (la lb : List Int) : ∀ (n o p : Nat), 1 ≤ n → (diffF la lb o n p).1.length ≤ n ∧ (diffF la lb o n p).2 + 1 ≤ 2 * n := by
  intro n
  induction n using Nat.strongRecOn with
  | _ n ih =>
    intro o p hn
    by_cases h : rootO la o n = rootO lb o n
    · rw [diffF_eq h]; exact ⟨Nat.zero_le _, by show 1 + 1 ≤ 2 * n; omega⟩
    · rcases (show n = 1 ∨ 2 ≤ n by omega) with rfl | h2
      · rw [diffF_one h]; exact ⟨Nat.le_refl _, by show 1 + 1 ≤ 2 * 1; omega⟩
      · rw [diffF_two h h2]
        obtain ⟨a1, a2⟩ := ih ((n + 1) / 2) (by omega) o p (by omega)
        obtain ⟨b1, b2⟩ := ih (n - (n + 1) / 2) (by omega) (o + (n + 1) / 2 * 16) (p + (n + 1) / 2) (by omega)
        refine ⟨by rw [List.length_append]; omega, ?_⟩
        show _ + _ + 1 + 1 ≤ 2 * n
        omega
theorem differ_same {α : Type} (E : α → Option (Row α)) (x y : α) (la lb : List Int) (o n p : Nat) (hx : TreeE E la x o n) (hy : TreeE E lb y o n) (h : rootO la o n = rootO lb o n) :
    FnOk Try.prog n_merkle_differ E [.ptr (.ext x) 0, .ptr (.ext y) 0, .int .i64 p] [] (.tuple [.slice true (.own 0) 0 (diffF la lb o n p).1.length 1, .int .i64 (diffF la lb o n p).2]) [some (.ints .i64 (diffF la lb o n p).1)] := by
  obtain ⟨p1, q1, hxt⟩ := hx.top
  obtain ⟨p2, q2, hyt⟩ := hy.top
  have hr1 := rootO_len la o n
  have hr2 := rootO_len lb o n
  rw [diffF_eq h]
  refine FnOk.intro func_merkle_differ call_merkle_differ (body := _) rfl nt_merkle_differ (by simp) ?_
  refine AWp.reg p_merkle_differ_0 [] s_merkle_differ_0 rfl rfl fun K hK => st_of ?_
  simp only [s_merkle_differ_0, wT, Bool.not_eq_true, ty, zr, Nat.reduceAdd, Nat.reduceSub, Nat.reduceMul, Nat.reduceMod, Nat.reduceDiv, Nat.reduceEqDiff, Nat.reduceLeDiff, Nat.reduceBEq, Int.reduceAdd, Int.reduceSub, Int.reduceMul, Int.reduceNeg, Int.reduceLT, Int.reduceLE, Int.reduceEq, Int.reduceNe, Int.reduceBEq, Int.reduceToNat, Int.reduceTDiv, Int.reduceTMod, Int.reduceOfNat, reduceCtorEq, sty, sui]
  refine hK _ ?_; clear hK K
  refine AWp.blk fun Y0 hY0 => ?_
  refine AWp.drwP mix p_merkle_differ_1 q_merkle_differ_1 g_merkle_differ_1 s_merkle_differ_1 rfl (by decide +kernel) fun K hK => sp_of ?_
  simp only [s_merkle_differ_1, wT, Bool.not_eq_true, ty, zr, Nat.reduceAdd, Nat.reduceSub, Nat.reduceMul, Nat.reduceMod, Nat.reduceDiv, Nat.reduceEqDiff, Nat.reduceLeDiff, Nat.reduceBEq, Int.reduceAdd, Int.reduceSub, Int.reduceMul, Int.reduceNeg, Int.reduceLT, Int.reduceLE, Int.reduceEq, Int.reduceNe, Int.reduceBEq, Int.reduceToNat, Int.reduceTDiv, Int.reduceTMod, Int.reduceOfNat, reduceCtorEq, sty, sui]
  simp only [hxt, hyt, Option.map_some, Row.map, nodeC_map, nodeC_sum (ι := Sy.Id α) _ hr1, nodeC_sum (ι := Sy.Id α) _ hr2, nodeC_len (ι := Sy.Id α) _ hr1, nodeC_len (ι := Sy.Id α) _ hr2, hr1, hr2, h, wT, Bool.not_eq_true, ty, zr, Nat.reduceAdd, Nat.reduceSub, Nat.reduceMul, Nat.reduceMod, Nat.reduceDiv, Nat.reduceEqDiff, Nat.reduceLeDiff, Nat.reduceBEq, Int.reduceAdd, Int.reduceSub, Int.reduceMul, Int.reduceNeg, Int.reduceLT, Int.reduceLE, Int.reduceEq, Int.reduceNe, Int.reduceBEq, Int.reduceToNat, Int.reduceTDiv, Int.reduceTMod, Int.reduceOfNat, reduceCtorEq, sty, sui]
  refine hK _ ?_; clear hK K
  refine AWp.iteE rfl (fun hb => ?_) (fun hb => ?_)
  · try simp only [decide_eq_true_eq, decide_eq_false_iff_not, beq_iff_eq, bne_iff_ne, ne_eq, Bool.not_eq_true, beq_eq_false_iff_ne, bne_eq_false_iff_eq, Bool.not_eq_false, Bool.not_eq_eq_eq_not, Bool.not_true, Bool.not_false] at hb
    refine AWp.reg p_merkle_differ_2 [] s_merkle_differ_2 rfl rfl fun K hK => st_of ?_
    simp only [s_merkle_differ_2, wT, Bool.not_eq_true, ty, zr, Nat.reduceAdd, Nat.reduceSub, Nat.reduceMul, Nat.reduceMod, Nat.reduceDiv, Nat.reduceEqDiff, Nat.reduceLeDiff, Nat.reduceBEq, Int.reduceAdd, Int.reduceSub, Int.reduceMul, Int.reduceNeg, Int.reduceLT, Int.reduceLE, Int.reduceEq, Int.reduceNe, Int.reduceBEq, Int.reduceToNat, Int.reduceTDiv, Int.reduceTMod, Int.reduceOfNat, reduceCtorEq, sty, sui]
    refine hK _ ?_; clear hK K
    refine AWp.less (Le.nil 6 rfl .i64 1) ?_
    refine AWp.ret ?_
    try simp only [thenQ, bq, lq, lf, iq, gq, Nat.reduceEqDiff, if_true, if_false]
    simp only [endQ, rs_merkle_differ, resC, one, wT, Bool.not_eq_true, ty, zr, Nat.reduceAdd, Nat.reduceSub, Nat.reduceMul, Nat.reduceMod, Nat.reduceDiv, Nat.reduceEqDiff, Nat.reduceLeDiff, Nat.reduceBEq, Int.reduceAdd, Int.reduceSub, Int.reduceMul, Int.reduceNeg, Int.reduceLT, Int.reduceLE, Int.reduceEq, Int.reduceNe, Int.reduceBEq, Int.reduceToNat, Int.reduceTDiv, Int.reduceTMod, Int.reduceOfNat, reduceCtorEq, sty, sui]
    refine ⟨[0], by decide, by simp, by rfl, ?_⟩; (repeat' (first | exact trivial | rfl | omega | apply And.intro | (simp [AV.All, AV.AllL, inS, AV.map, AV.mapL, renS, selRows, selRow, Row.map, Row.All, mapL_flat, mapL_flat1, allL_flat, allL_flat1]; done)))
  · try simp only [decide_eq_true_eq, decide_eq_false_iff_not, beq_iff_eq, bne_iff_ne, ne_eq, Bool.not_eq_true, beq_eq_false_iff_ne, bne_eq_false_iff_eq, Bool.not_eq_false, Bool.not_eq_eq_eq_not, Bool.not_true, Bool.not_false] at hb
    (first | exact absurd trivial hb | exact absurd rfl hb | cases hb | (exfalso; omega) | (simp at hb; done))
theorem differ_one {α : Type} (E : α → Option (Row α)) (x y : α) (la lb : List Int) (o p : Nat) (hx : TreeE E la x o 1) (hy : TreeE E lb y o 1) (h : rootO la o 1 ≠ rootO lb o 1) :
    FnOk Try.prog n_merkle_differ E [.ptr (.ext x) 0, .ptr (.ext y) 0, .int .i64 p] [] (.tuple [.slice true (.own 0) 0 (diffF la lb o 1 p).1.length 1, .int .i64 (diffF la lb o 1 p).2]) [some (.ints .i64 (diffF la lb o 1 p).1)] := by
  obtain ⟨p1, q1, hxt⟩ := hx.top
  obtain ⟨p2, q2, hyt⟩ := hy.top
  have hr1 := rootO_len la o 1
  have hr2 := rootO_len lb o 1
  have hne : (rootO la o 1 == rootO lb o 1) = false := by rw [beq_eq_false_iff_ne]; exact h
  rw [diffF_one h]
  refine FnOk.intro func_merkle_differ call_merkle_differ (body := _) rfl nt_merkle_differ (by simp) ?_
  refine AWp.reg p_merkle_differ_0 [] s_merkle_differ_0 rfl rfl fun K hK => st_of ?_
  simp only [s_merkle_differ_0, wT, Bool.not_eq_true, ty, zr, Nat.reduceAdd, Nat.reduceSub, Nat.reduceMul, Nat.reduceMod, Nat.reduceDiv, Nat.reduceEqDiff, Nat.reduceLeDiff, Nat.reduceBEq, Int.reduceAdd, Int.reduceSub, Int.reduceMul, Int.reduceNeg, Int.reduceLT, Int.reduceLE, Int.reduceEq, Int.reduceNe, Int.reduceBEq, Int.reduceToNat, Int.reduceTDiv, Int.reduceTMod, Int.reduceOfNat, reduceCtorEq, sty, sui]
  refine hK _ ?_; clear hK K
  refine AWp.blk fun Y0 hY0 => ?_
  refine AWp.drwP mix p_merkle_differ_1 q_merkle_differ_1 g_merkle_differ_1 s_merkle_differ_1 rfl (by decide +kernel) fun K hK => sp_of ?_
  simp only [s_merkle_differ_1, wT, Bool.not_eq_true, ty, zr, Nat.reduceAdd, Nat.reduceSub, Nat.reduceMul, Nat.reduceMod, Nat.reduceDiv, Nat.reduceEqDiff, Nat.reduceLeDiff, Nat.reduceBEq, Int.reduceAdd, Int.reduceSub, Int.reduceMul, Int.reduceNeg, Int.reduceLT, Int.reduceLE, Int.reduceEq, Int.reduceNe, Int.reduceBEq, Int.reduceToNat, Int.reduceTDiv, Int.reduceTMod, Int.reduceOfNat, reduceCtorEq, sty, sui]
  simp only [hxt, hyt, Option.map_some, Row.map, nodeC_map, nodeC_sum (ι := Sy.Id α) _ hr1, nodeC_sum (ι := Sy.Id α) _ hr2, nodeC_len (ι := Sy.Id α) _ hr1, nodeC_len (ι := Sy.Id α) _ hr2, hr1, hr2, hne, wT, Bool.not_eq_true, ty, zr, Nat.reduceAdd, Nat.reduceSub, Nat.reduceMul, Nat.reduceMod, Nat.reduceDiv, Nat.reduceEqDiff, Nat.reduceLeDiff, Nat.reduceBEq, Int.reduceAdd, Int.reduceSub, Int.reduceMul, Int.reduceNeg, Int.reduceLT, Int.reduceLE, Int.reduceEq, Int.reduceNe, Int.reduceBEq, Int.reduceToNat, Int.reduceTDiv, Int.reduceTMod, Int.reduceOfNat, reduceCtorEq, sty, sui]
  refine hK _ ?_; clear hK K
  refine AWp.iteE rfl (fun hb => ?_) (fun hb => ?_)
  · try simp only [decide_eq_true_eq, decide_eq_false_iff_not, beq_iff_eq, bne_iff_ne, ne_eq, Bool.not_eq_true, beq_eq_false_iff_ne, bne_eq_false_iff_eq, Bool.not_eq_false, Bool.not_eq_eq_eq_not, Bool.not_true, Bool.not_false] at hb
    (first | exact absurd trivial hb | exact absurd rfl hb | cases hb | (exfalso; omega) | (simp at hb; done))
  · try simp only [decide_eq_true_eq, decide_eq_false_iff_not, beq_iff_eq, bne_iff_ne, ne_eq, Bool.not_eq_true, beq_eq_false_iff_ne, bne_eq_false_iff_eq, Bool.not_eq_false, Bool.not_eq_eq_eq_not, Bool.not_true, Bool.not_false] at hb
    refine AWp.reg p_merkle_differ_3 [] s_merkle_differ_3 rfl rfl fun K hK => st_of ?_
    simp only [s_merkle_differ_3, wT, Bool.not_eq_true, ty, zr, Nat.reduceAdd, Nat.reduceSub, Nat.reduceMul, Nat.reduceMod, Nat.reduceDiv, Nat.reduceEqDiff, Nat.reduceLeDiff, Nat.reduceBEq, Int.reduceAdd, Int.reduceSub, Int.reduceMul, Int.reduceNeg, Int.reduceLT, Int.reduceLE, Int.reduceEq, Int.reduceNe, Int.reduceBEq, Int.reduceToNat, Int.reduceTDiv, Int.reduceTMod, Int.reduceOfNat, reduceCtorEq, sty, sui]
    simp only [hxt, Option.map_some, Row.map, nodeC_map, nodeC_n (ι := Sy.Id α) _ hr1, nodeC_len (ι := Sy.Id α) _ hr1, wT, Bool.not_eq_true, ty, zr, Nat.reduceAdd, Nat.reduceSub, Nat.reduceMul, Nat.reduceMod, Nat.reduceDiv, Nat.reduceEqDiff, Nat.reduceLeDiff, Nat.reduceBEq, Int.reduceAdd, Int.reduceSub, Int.reduceMul, Int.reduceNeg, Int.reduceLT, Int.reduceLE, Int.reduceEq, Int.reduceNe, Int.reduceBEq, Int.reduceToNat, Int.reduceTDiv, Int.reduceTMod, Int.reduceOfNat, reduceCtorEq, sty, sui]
    (repeat ((with_reducible refine And.intro ?_ ?_); (first | omega | exact True.intro | with_reducible rfl | decide | assumption | rfl)))
    refine hK _ ?_; clear hK K
    refine AWp.iteE rfl (fun hb => ?_) (fun hb => ?_)
    · try simp only [decide_eq_true_eq, decide_eq_false_iff_not, beq_iff_eq, bne_iff_ne, ne_eq, Bool.not_eq_true, beq_eq_false_iff_ne, bne_eq_false_iff_eq, Bool.not_eq_false, Bool.not_eq_eq_eq_not, Bool.not_true, Bool.not_false] at hb
      refine AWp.reg p_merkle_differ_4 [] s_merkle_differ_4 rfl rfl fun K hK => st_of ?_
      simp only [s_merkle_differ_4, wT, Bool.not_eq_true, ty, zr, Nat.reduceAdd, Nat.reduceSub, Nat.reduceMul, Nat.reduceMod, Nat.reduceDiv, Nat.reduceEqDiff, Nat.reduceLeDiff, Nat.reduceBEq, Int.reduceAdd, Int.reduceSub, Int.reduceMul, Int.reduceNeg, Int.reduceLT, Int.reduceLE, Int.reduceEq, Int.reduceNe, Int.reduceBEq, Int.reduceToNat, Int.reduceTDiv, Int.reduceTMod, Int.reduceOfNat, reduceCtorEq, sty, sui]
      (repeat ((with_reducible refine And.intro ?_ ?_); (first | omega | exact True.intro | with_reducible rfl | decide | assumption | rfl)))
      refine hK _ ?_; clear hK K
      refine AWp.ret ?_
      try simp only [thenQ, bq, lq, lf, iq, gq, Nat.reduceEqDiff, if_true, if_false]
      simp only [endQ, rs_merkle_differ, resC, one, wT, Bool.not_eq_true, ty, zr, Nat.reduceAdd, Nat.reduceSub, Nat.reduceMul, Nat.reduceMod, Nat.reduceDiv, Nat.reduceEqDiff, Nat.reduceLeDiff, Nat.reduceBEq, Int.reduceAdd, Int.reduceSub, Int.reduceMul, Int.reduceNeg, Int.reduceLT, Int.reduceLE, Int.reduceEq, Int.reduceNe, Int.reduceBEq, Int.reduceToNat, Int.reduceTDiv, Int.reduceTMod, Int.reduceOfNat, reduceCtorEq, sty, sui]
      refine ⟨[0], by decide, by simp, by rfl, ?_⟩; (repeat' (first | exact trivial | rfl | omega | apply And.intro | (simp [AV.All, AV.AllL, inS, AV.map, AV.mapL, renS, selRows, selRow, Row.map, Row.All, mapL_flat, mapL_flat1, allL_flat, allL_flat1]; done)))
    · try simp only [decide_eq_true_eq, decide_eq_false_iff_not, beq_iff_eq, bne_iff_ne, ne_eq, Bool.not_eq_true, beq_eq_false_iff_ne, bne_eq_false_iff_eq, Bool.not_eq_false, Bool.not_eq_eq_eq_not, Bool.not_true, Bool.not_false] at hb
      (first | exact absurd trivial hb | exact absurd rfl hb | cases hb | (exfalso; omega) | (simp at hb; done))
theorem differ_step {α : Type} (n : Nat) (e : ∀ m, m < n → 1 ≤ m → ∀ (β : Type) (E : β → Option (Row β)) (x y : β) (la lb : List Int) (o p : Nat), TreeE E la x o m → TreeE E lb y o m → m ≤ 65536 → p + m ≤ 1099511627 → FnOk Try.prog n_merkle_differ E [.ptr (.ext x) 0, .ptr (.ext y) 0, .int .i64 p] [] (.tuple [.slice true (.own 0) 0 (diffF la lb o m p).1.length 1, .int .i64 (diffF la lb o m p).2]) [some (.ints .i64 (diffF la lb o m p).1)])
    (E : α → Option (Row α)) (x y : α) (la lb : List Int) (o p : Nat) (hx : TreeE E la x o n) (hy : TreeE E lb y o n) (hn : n ≤ 65536) (hp : p + n ≤ 1099511627) (h : rootO la o n ≠ rootO lb o n) (h2 : 2 ≤ n) :
    FnOk Try.prog n_merkle_differ E [.ptr (.ext x) 0, .ptr (.ext y) 0, .int .i64 p] [] (.tuple [.slice true (.own 0) 0 (diffF la lb o n p).1.length 1, .int .i64 (diffF la lb o n p).2]) [some (.ints .i64 (diffF la lb o n p).1)] := by
  obtain ⟨p1, q1, hxt⟩ := hx.top
  obtain ⟨p2, q2, hyt⟩ := hy.top
  obtain ⟨k, hk⟩ : ∃ k, (n + 1) / 2 = k := ⟨_, rfl⟩
  obtain ⟨x1, x2, hxk, hx1, hx2⟩ := hx.kids h2
  obtain ⟨y1, y2, hyk, hy1, hy2⟩ := hy.kids h2
  rw [diffF_two h h2]
  rw [hk] at hx1 hx2 hy1 hy2 ⊢
  obtain ⟨p3, q3, hxl⟩ := hx1.top
  have hr1 := rootO_len la o n
  have hr2 := rootO_len lb o n
  have hr3 := rootO_len la o k
  have hne : (rootO la o n == rootO lb o n) = false := by rw [beq_eq_false_iff_ne]; exact h
  obtain ⟨a1, a2⟩ := diffF_le la lb k o p (by omega)
  obtain ⟨b1, b2⟩ := diffF_le la lb (n - k) (o + k * 16) (p + k) (by omega)
  have e1 := e k (by omega) (by omega)
  have e2 := e (n - k) (by omega) (by omega)
  clear e
  generalize hA : diffF la lb o k p = A at *
  generalize hB : diffF la lb (o + k * 16) (n - k) (p + k) = B at *
  have sA : sub A.1 0 A.1.length = A.1 := sub_all rfl
  have sB : sub B.1 0 B.1.length = B.1 := sub_all rfl
  have hct : ((A.2 + B.2 + 1 : Nat) : Int) = (A.2 : Int) + (B.2 : Int) + 1 := by omega
  show FnOk Try.prog n_merkle_differ E _ [] (.tuple [.slice true (.own 0) 0 (A.1 ++ B.1).length 1, .int .i64 ((A.2 + B.2 + 1 : Nat) : Int)]) [some (.ints .i64 (A.1 ++ B.1))]
  rw [hct, List.length_append]
  have hpk : (p : Int) + (k : Int) = ((p + k : Nat) : Int) := by omega
  refine FnOk.intro func_merkle_differ call_merkle_differ (body := _) rfl nt_merkle_differ (by simp) ?_
  refine AWp.reg p_merkle_differ_0 [] s_merkle_differ_0 rfl rfl fun K hK => st_of ?_
  simp only [s_merkle_differ_0, wT, Bool.not_eq_true, ty, zr, Nat.reduceAdd, Nat.reduceSub, Nat.reduceMul, Nat.reduceMod, Nat.reduceDiv, Nat.reduceEqDiff, Nat.reduceLeDiff, Nat.reduceBEq, Int.reduceAdd, Int.reduceSub, Int.reduceMul, Int.reduceNeg, Int.reduceLT, Int.reduceLE, Int.reduceEq, Int.reduceNe, Int.reduceBEq, Int.reduceToNat, Int.reduceTDiv, Int.reduceTMod, Int.reduceOfNat, reduceCtorEq, sty, sui]
  refine hK _ ?_; clear hK K
  refine AWp.blk fun Y0 hY0 => ?_
  refine AWp.drwP mix p_merkle_differ_1 q_merkle_differ_1 g_merkle_differ_1 s_merkle_differ_1 rfl (by decide +kernel) fun K hK => sp_of ?_
  simp only [s_merkle_differ_1, wT, Bool.not_eq_true, ty, zr, Nat.reduceAdd, Nat.reduceSub, Nat.reduceMul, Nat.reduceMod, Nat.reduceDiv, Nat.reduceEqDiff, Nat.reduceLeDiff, Nat.reduceBEq, Int.reduceAdd, Int.reduceSub, Int.reduceMul, Int.reduceNeg, Int.reduceLT, Int.reduceLE, Int.reduceEq, Int.reduceNe, Int.reduceBEq, Int.reduceToNat, Int.reduceTDiv, Int.reduceTMod, Int.reduceOfNat, reduceCtorEq, sty, sui]
  simp only [hxt, hyt, Option.map_some, Row.map, nodeC_map, nodeC_sum (ι := Sy.Id α) _ hr1, nodeC_sum (ι := Sy.Id α) _ hr2, nodeC_len (ι := Sy.Id α) _ hr1, nodeC_len (ι := Sy.Id α) _ hr2, hr1, hr2, hne, wT, Bool.not_eq_true, ty, zr, Nat.reduceAdd, Nat.reduceSub, Nat.reduceMul, Nat.reduceMod, Nat.reduceDiv, Nat.reduceEqDiff, Nat.reduceLeDiff, Nat.reduceBEq, Int.reduceAdd, Int.reduceSub, Int.reduceMul, Int.reduceNeg, Int.reduceLT, Int.reduceLE, Int.reduceEq, Int.reduceNe, Int.reduceBEq, Int.reduceToNat, Int.reduceTDiv, Int.reduceTMod, Int.reduceOfNat, reduceCtorEq, sty, sui]
  refine hK _ ?_; clear hK K
  refine AWp.iteE rfl (fun hb => ?_) (fun hb => ?_)
  · try simp only [decide_eq_true_eq, decide_eq_false_iff_not, beq_iff_eq, bne_iff_ne, ne_eq, Bool.not_eq_true, beq_eq_false_iff_ne, bne_eq_false_iff_eq, Bool.not_eq_false, Bool.not_eq_eq_eq_not, Bool.not_true, Bool.not_false] at hb
    (first | exact absurd trivial hb | exact absurd rfl hb | cases hb | (exfalso; omega) | (simp at hb; done))
  · try simp only [decide_eq_true_eq, decide_eq_false_iff_not, beq_iff_eq, bne_iff_ne, ne_eq, Bool.not_eq_true, beq_eq_false_iff_ne, bne_eq_false_iff_eq, Bool.not_eq_false, Bool.not_eq_eq_eq_not, Bool.not_true, Bool.not_false] at hb
    refine AWp.reg p_merkle_differ_3 [] s_merkle_differ_3 rfl rfl fun K hK => st_of ?_
    simp only [s_merkle_differ_3, wT, Bool.not_eq_true, ty, zr, Nat.reduceAdd, Nat.reduceSub, Nat.reduceMul, Nat.reduceMod, Nat.reduceDiv, Nat.reduceEqDiff, Nat.reduceLeDiff, Nat.reduceBEq, Int.reduceAdd, Int.reduceSub, Int.reduceMul, Int.reduceNeg, Int.reduceLT, Int.reduceLE, Int.reduceEq, Int.reduceNe, Int.reduceBEq, Int.reduceToNat, Int.reduceTDiv, Int.reduceTMod, Int.reduceOfNat, reduceCtorEq, sty, sui]
    simp only [hxt, Option.map_some, Row.map, nodeC_map, nodeC_n (ι := Sy.Id α) _ hr1, nodeC_len (ι := Sy.Id α) _ hr1, wT, Bool.not_eq_true, ty, zr, Nat.reduceAdd, Nat.reduceSub, Nat.reduceMul, Nat.reduceMod, Nat.reduceDiv, Nat.reduceEqDiff, Nat.reduceLeDiff, Nat.reduceBEq, Int.reduceAdd, Int.reduceSub, Int.reduceMul, Int.reduceNeg, Int.reduceLT, Int.reduceLE, Int.reduceEq, Int.reduceNe, Int.reduceBEq, Int.reduceToNat, Int.reduceTDiv, Int.reduceTMod, Int.reduceOfNat, reduceCtorEq, sty, sui]
    (repeat ((with_reducible refine And.intro ?_ ?_); (first | omega | exact True.intro | with_reducible rfl | decide | assumption | rfl)))
    refine hK _ ?_; clear hK K
    refine AWp.iteE rfl (fun hb => ?_) (fun hb => ?_)
    · try simp only [decide_eq_true_eq, decide_eq_false_iff_not, beq_iff_eq, bne_iff_ne, ne_eq, Bool.not_eq_true, beq_eq_false_iff_ne, bne_eq_false_iff_eq, Bool.not_eq_false, Bool.not_eq_eq_eq_not, Bool.not_true, Bool.not_false] at hb
      exfalso; omega
    · try simp only [decide_eq_true_eq, decide_eq_false_iff_not, beq_iff_eq, bne_iff_ne, ne_eq, Bool.not_eq_true, beq_eq_false_iff_ne, bne_eq_false_iff_eq, Bool.not_eq_false, Bool.not_eq_eq_eq_not, Bool.not_true, Bool.not_false] at hb
      refine AWp.skip ?_
      try simp only [thenQ, bq, lq, lf, iq, gq, Nat.reduceEqDiff, if_true, if_false]
      refine hY0 _ ?_
      try clear hY0 Y0
      refine AWp.drwP mix p_merkle_differ_5 q_merkle_differ_5 g_merkle_differ_5 s_merkle_differ_5 rfl (by decide +kernel) fun K hK => sp_of ?_
      simp only [s_merkle_differ_5, wT, Bool.not_eq_true, ty, zr, Nat.reduceAdd, Nat.reduceSub, Nat.reduceMul, Nat.reduceMod, Nat.reduceDiv, Nat.reduceEqDiff, Nat.reduceLeDiff, Nat.reduceBEq, Int.reduceAdd, Int.reduceSub, Int.reduceMul, Int.reduceNeg, Int.reduceLT, Int.reduceLE, Int.reduceEq, Int.reduceNe, Int.reduceBEq, Int.reduceToNat, Int.reduceTDiv, Int.reduceTMod, Int.reduceOfNat, reduceCtorEq, sty, sui]
      simp only [hxk, hyk, Option.map_some, Row.map, nodeC_map, AV.map, nodeC_l (ι := Sy.Id α) _ hr1, nodeC_l (ι := Sy.Id α) _ hr2, nodeC_len (ι := Sy.Id α) _ hr1, nodeC_len (ι := Sy.Id α) _ hr2, wT, Bool.not_eq_true, ty, zr, Nat.reduceAdd, Nat.reduceSub, Nat.reduceMul, Nat.reduceMod, Nat.reduceDiv, Nat.reduceEqDiff, Nat.reduceLeDiff, Nat.reduceBEq, Int.reduceAdd, Int.reduceSub, Int.reduceMul, Int.reduceNeg, Int.reduceLT, Int.reduceLE, Int.reduceEq, Int.reduceNe, Int.reduceBEq, Int.reduceToNat, Int.reduceTDiv, Int.reduceTMod, Int.reduceOfNat, reduceCtorEq, sty, sui]
      (repeat ((with_reducible refine And.intro ?_ ?_); (first | omega | exact True.intro | with_reducible rfl | decide | assumption | rfl)))
      refine sp_call fun K1 hK1 => ?_
      simp only [calleeC, wT, Bool.not_eq_true, ty, zr, Nat.reduceAdd, Nat.reduceSub, Nat.reduceMul, Nat.reduceMod, Nat.reduceDiv, Nat.reduceEqDiff, Nat.reduceLeDiff, Nat.reduceBEq, Int.reduceAdd, Int.reduceSub, Int.reduceMul, Int.reduceNeg, Int.reduceLT, Int.reduceLE, Int.reduceEq, Int.reduceNe, Int.reduceBEq, Int.reduceToNat, Int.reduceTDiv, Int.reduceTMod, Int.reduceOfNat, reduceCtorEq, sty, sui]
      refine hK1 _ _ ?_
      clear hK1 K1
      simp only [CallTo, AV.mapL, AV.map, mapL_flat, mapL_flat1]
      refine ⟨_, _, e1 _ _ _ _ la lb o p hx1.look hy1.look (by omega) (by omega), ?_⟩
      simp only [hA, wT, Bool.not_eq_true, ty, zr, Nat.reduceAdd, Nat.reduceSub, Nat.reduceMul, Nat.reduceMod, Nat.reduceDiv, Nat.reduceEqDiff, Nat.reduceLeDiff, Nat.reduceBEq, Int.reduceAdd, Int.reduceSub, Int.reduceMul, Int.reduceNeg, Int.reduceLT, Int.reduceLE, Int.reduceEq, Int.reduceNe, Int.reduceBEq, Int.reduceToNat, Int.reduceTDiv, Int.reduceTMod, Int.reduceOfNat, reduceCtorEq, sty, sui]
      refine hK _ ?_; clear hK K
      refine AWp.drwP mix p_merkle_differ_6 q_merkle_differ_6 g_merkle_differ_6 s_merkle_differ_6 rfl (by decide +kernel) fun K hK => sp_of ?_
      simp only [s_merkle_differ_6, wT, Bool.not_eq_true, ty, zr, Nat.reduceAdd, Nat.reduceSub, Nat.reduceMul, Nat.reduceMod, Nat.reduceDiv, Nat.reduceEqDiff, Nat.reduceLeDiff, Nat.reduceBEq, Int.reduceAdd, Int.reduceSub, Int.reduceMul, Int.reduceNeg, Int.reduceLT, Int.reduceLE, Int.reduceEq, Int.reduceNe, Int.reduceBEq, Int.reduceToNat, Int.reduceTDiv, Int.reduceTMod, Int.reduceOfNat, reduceCtorEq, sty, sui]
      simp only [hxk, hyk, hxl, Option.map_some, Row.map, nodeC_map, AV.map, nodeC_l (ι := Sy.Id α) _ hr1, nodeC_r (ι := Sy.Id α) _ hr1, nodeC_r (ι := Sy.Id α) _ hr2, nodeC_n (ι := Sy.Id α) _ hr3, nodeC_len (ι := Sy.Id α) _ hr1, nodeC_len (ι := Sy.Id α) _ hr2, nodeC_len (ι := Sy.Id α) _ hr3, hpk, wT, Bool.not_eq_true, ty, zr, Nat.reduceAdd, Nat.reduceSub, Nat.reduceMul, Nat.reduceMod, Nat.reduceDiv, Nat.reduceEqDiff, Nat.reduceLeDiff, Nat.reduceBEq, Int.reduceAdd, Int.reduceSub, Int.reduceMul, Int.reduceNeg, Int.reduceLT, Int.reduceLE, Int.reduceEq, Int.reduceNe, Int.reduceBEq, Int.reduceToNat, Int.reduceTDiv, Int.reduceTMod, Int.reduceOfNat, reduceCtorEq, sty, sui]
      try simp (disch := first | omega | (simp only [List.length_set, List.length_replicate, List.length_append, List.length_nil]; first | done | omega)) only [aT, Int.reduceToNat, List.length_set, List.length_replicate, List.length_append, List.length_nil]
      (repeat ((with_reducible refine And.intro ?_ ?_); (first | omega | exact True.intro | with_reducible rfl | decide | assumption | rfl)))
      refine sp_call fun K1 hK1 => ?_
      simp only [calleeC, wT, Bool.not_eq_true, ty, zr, Nat.reduceAdd, Nat.reduceSub, Nat.reduceMul, Nat.reduceMod, Nat.reduceDiv, Nat.reduceEqDiff, Nat.reduceLeDiff, Nat.reduceBEq, Int.reduceAdd, Int.reduceSub, Int.reduceMul, Int.reduceNeg, Int.reduceLT, Int.reduceLE, Int.reduceEq, Int.reduceNe, Int.reduceBEq, Int.reduceToNat, Int.reduceTDiv, Int.reduceTMod, Int.reduceOfNat, reduceCtorEq, sty, sui]
      refine hK1 _ _ ?_
      clear hK1 K1
      simp only [CallTo, AV.mapL, AV.map, mapL_flat, mapL_flat1]
      refine ⟨_, _, e2 _ _ _ _ la lb (o + k * 16) (p + k) hx2.look hy2.look (by omega) (by omega), ?_⟩
      simp only [hB, wT, Bool.not_eq_true, ty, zr, Nat.reduceAdd, Nat.reduceSub, Nat.reduceMul, Nat.reduceMod, Nat.reduceDiv, Nat.reduceEqDiff, Nat.reduceLeDiff, Nat.reduceBEq, Int.reduceAdd, Int.reduceSub, Int.reduceMul, Int.reduceNeg, Int.reduceLT, Int.reduceLE, Int.reduceEq, Int.reduceNe, Int.reduceBEq, Int.reduceToNat, Int.reduceTDiv, Int.reduceTMod, Int.reduceOfNat, reduceCtorEq, sty, sui]
      refine hK _ ?_; clear hK K
      refine AWp.reg p_merkle_differ_7 [] s_merkle_differ_7 rfl rfl fun K hK => st_of ?_
      simp only [s_merkle_differ_7, wT, Bool.not_eq_true, ty, zr, Nat.reduceAdd, Nat.reduceSub, Nat.reduceMul, Nat.reduceMod, Nat.reduceDiv, Nat.reduceEqDiff, Nat.reduceLeDiff, Nat.reduceBEq, Int.reduceAdd, Int.reduceSub, Int.reduceMul, Int.reduceNeg, Int.reduceLT, Int.reduceLE, Int.reduceEq, Int.reduceNe, Int.reduceBEq, Int.reduceToNat, Int.reduceTDiv, Int.reduceTMod, Int.reduceOfNat, reduceCtorEq, sty, sui]
      try simp (disch := first | omega | (simp only [List.length_set, List.length_replicate, List.length_append, List.length_nil]; first | done | omega)) only [aT, Int.reduceToNat, List.length_set, List.length_replicate, List.length_append, List.length_nil]
      skip
      (repeat ((with_reducible refine And.intro ?_ ?_); (first | omega | exact True.intro | with_reducible rfl | decide | assumption | rfl)))
      refine hK _ ?_; clear hK K
      refine AWp.ret ?_
      try simp only [thenQ, bq, lq, lf, iq, gq, Nat.reduceEqDiff, if_true, if_false]
      simp only [endQ, rs_merkle_differ, resC, one, wT, Bool.not_eq_true, ty, zr, Nat.reduceAdd, Nat.reduceSub, Nat.reduceMul, Nat.reduceMod, Nat.reduceDiv, Nat.reduceEqDiff, Nat.reduceLeDiff, Nat.reduceBEq, Int.reduceAdd, Int.reduceSub, Int.reduceMul, Int.reduceNeg, Int.reduceLT, Int.reduceLE, Int.reduceEq, Int.reduceNe, Int.reduceBEq, Int.reduceToNat, Int.reduceTDiv, Int.reduceTMod, Int.reduceOfNat, reduceCtorEq, sty, sui]
      refine ⟨[2], by decide, by simp, by rfl, ?_⟩; (repeat' (first | exact trivial | rfl | omega | apply And.intro | (simp [AV.All, AV.AllL, inS, AV.map, AV.mapL, renS, selRows, selRow, Row.map, Row.All, mapL_flat, mapL_flat1, allL_flat, allL_flat1]; done)))
theorem differ_ok : ∀ (n : Nat) (α : Type) (E : α → Option (Row α)) (x y : α) (la lb : List Int) (o p : Nat), TreeE E la x o n → TreeE E lb y o n → 1 ≤ n → n ≤ 65536 → p + n ≤ 1099511627 → FnOk Try.prog n_merkle_differ E [.ptr (.ext x) 0, .ptr (.ext y) 0, .int .i64 p] [] (.tuple [.slice true (.own 0) 0 (diffF la lb o n p).1.length 1, .int .i64 (diffF la lb o n p).2]) [some (.ints .i64 (diffF la lb o n p).1)] := by
  intro n
  induction n using Nat.strongRecOn with
  | _ n ih =>
    intro α E x y la lb o p hx hy h1 hn hp
    by_cases h : rootO la o n = rootO lb o n
    · exact differ_same E x y la lb o n p hx hy h
    · rcases (show n = 1 ∨ 2 ≤ n by omega) with rfl | h2
      · exact differ_one E x y la lb o p hx hy h
      · exact differ_step n (fun m hm hm1 β E x y la lb o p hx hy hn hp => ih m hm β E x y la lb o p hx hy hm1 hn hp) E x y la lb o p hx hy hn hp h h2
end Go.Proofs.Ytdcbgmbpiekbgaa
