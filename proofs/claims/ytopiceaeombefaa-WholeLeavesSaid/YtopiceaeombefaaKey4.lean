/- Contracts: a node's two. -/
import Derived.Test.YtopiceaeombefaaKey3
namespace Go.Proofs.Ytopiceaeombefaa
open Go Go.Proofs.Ytopiceaeombefaa.Sy
set_option linter.unusedSimpArgs false
set_option linter.unusedVariables false
set_option maxRecDepth 100000
set_option maxHeartbeats 1000000


abbrev realC {ι : Type} : AV ι := .iface 56 (.agg [])
theorem mo_Real_Split : MethodOk Try.prog 56 "Split" n_cipher_Real_Split := fun v w => by kernel_rfl
theorem splice_hC {ι : Type} (d a : Int) {b : List Int} (hb : b.length = 32) : Sy.splice (AV.int IntKind.i64 d :: AV.int IntKind.u64 a :: flatI IntKind.u8 (List.replicate 32 0)) 2 (flatI IntKind.u8 b) = (AV.int IntKind.i64 d :: AV.int IntKind.u64 a :: flatI .u8 b : List (AV ι)) := by
  have h1 : (flatI .u8 b : List (AV ι)).length = 32 := by rw [flatI_len, hb]
  unfold Sy.splice
  rw [h1]
  show AV.int IntKind.i64 d :: AV.int IntKind.u64 a :: (flatI .u8 b ++ List.drop 32 (flatI .u8 (List.replicate 32 0))) = _
  rw [List.drop_eq_nil_of_le (by rw [flatI_len]; simp), List.append_nil]
theorem hC_solid {ι : Type} (e : HN) : AV.solidL (hC e : List (AV ι)) := by
  refine ⟨trivial, trivial, ?_⟩
  rw [← List.append_nil (flatI _ _), solidL_flat]
  trivial
abbrev zH {ι : Type} : List (AV ι) := .int .i64 0 :: .int .u64 0 :: flatI .u8 (List.replicate 32 0)
theorem spL_def (s : List Int) : spL s = sub (blockL s 1 0) 0 32 := rfl
theorem spR_def (s : List Int) : spR s = sub (blockL s 1 0) 32 32 := rfl
theorem split1_ok {α : Type} (E : α → Option (Row α)) (B X : α) (sl : AV α) (h : HN) (hs : h.s.length = 32) (hd : h.d < 17) (ha : h.a < 131072) (hB : E B = some (.mixed [.ptr X 0])) (hX : E X = some (.mixed [realC, sl])) :
    FnOk Try.prog n_keytree_Tree_down_1 E [.agg (hC h), .ptr (.ext B) 0] [] (.tuple [.agg (hC (kidL h)), .agg (hC (kidR h))]) [] := by
  have hl := hC_len (ι := Sy.Id α) hs
  have hL := spL_len h.s
  have hR := spR_len h.s
  have hsL : sub (spL h.s) 0 32 = spL h.s := sub_all hL
  have hsR : sub (spR h.s) 0 32 = spR h.s := sub_all hR
  have hpL : Sy.splice (List.replicate 32 (0 : Int)) 0 (spL h.s) = spL h.s := splice_all (by rw [hL, List.length_replicate])
  have hpR : Sy.splice (List.replicate 32 (0 : Int)) 0 (spR h.s) = spR h.s := splice_all (by rw [hR, List.length_replicate])
  have hll := hC_len (ι := Sy.Id α) (e := kidL h) hL
  have hlr := hC_len (ι := Sy.Id α) (e := kidR h) hR
  refine FnOk.pure func_keytree_Tree_down_1 call_keytree_Tree_down_1 (body := _) rfl nt_keytree_Tree_down_1 (by simp) (by simp [AV.solid, AV.solidL, hC_solid]) ?_
  refine AWp.reg p_keytree_Tree_down_1_0 [] s_keytree_Tree_down_1_0 rfl rfl fun K hK => st_of ?_
  simp only [s_keytree_Tree_down_1_0, wT, Bool.not_eq_true, ty, zr, Nat.reduceAdd, Nat.reduceSub, Nat.reduceMul, Nat.reduceMod, Nat.reduceDiv, Nat.reduceEqDiff, Nat.reduceLeDiff, Nat.reduceBEq, Int.reduceAdd, Int.reduceSub, Int.reduceMul, Int.reduceNeg, Int.reduceLT, Int.reduceLE, Int.reduceEq, Int.reduceNe, Int.reduceBEq, Int.reduceToNat, Int.reduceTDiv, Int.reduceTMod, Int.reduceOfNat, reduceCtorEq, sty, sui]
  try simp (disch := first | omega | (simp only [List.length_set, List.length_replicate, List.length_append, List.length_nil]; first | done | omega)) only [aT, Int.reduceToNat, List.length_set, List.length_replicate, List.length_append, List.length_nil]
  (repeat ((with_reducible refine And.intro ?_ ?_); (first | omega | exact True.intro | with_reducible rfl | decide | assumption | rfl)))
  refine hK _ ?_; clear hK K
  refine AWp.drwI mix p_keytree_Tree_down_1_1 q_keytree_Tree_down_1_1 g_keytree_Tree_down_1_1 s_keytree_Tree_down_1_1 (fun st => ∃ (p : Nat) (q : Nat) (rw : Sy.Rows α), st = ⟨[(2, .ptr (.own 0) 0), (3, .ptr (.own 1) 0), (4, .ptr (.own 2) 0), (5, .ptr (.own p) 0), (6, .ptr (.own q) 0)], rw⟩ ∧ (rw[0]? = some (some (.mixed (hC h))) ∧ rw[1]? = some (some (.mixed zH)) ∧ rw[2]? = some (some (.mixed zH)) ∧ rw[p]? = some (some (.ints .u8 (spL h.s))) ∧ rw[q]? = some (some (.ints .u8 (spR h.s))))) rfl (by decide +kernel) (fun K hK => sp_of ?_) ?_
  · simp only [s_keytree_Tree_down_1_1, wT, Bool.not_eq_true, ty, zr, Nat.reduceAdd, Nat.reduceSub, Nat.reduceMul, Nat.reduceMod, Nat.reduceDiv, Nat.reduceEqDiff, Nat.reduceLeDiff, Nat.reduceBEq, Int.reduceAdd, Int.reduceSub, Int.reduceMul, Int.reduceNeg, Int.reduceLT, Int.reduceLE, Int.reduceEq, Int.reduceNe, Int.reduceBEq, Int.reduceToNat, Int.reduceTDiv, Int.reduceTMod, Int.reduceOfNat, reduceCtorEq, sty, sui]
    try simp (disch := first | omega | (simp only [List.length_set, List.length_replicate, List.length_append, List.length_nil]; first | done | omega)) only [aT, Int.reduceToNat, List.length_set, List.length_replicate, List.length_append, List.length_nil]
    simp only [hB, hX, Option.map_some, Row.map, AV.mapL, AV.map, hC_s hs, hl, wT, Bool.not_eq_true, ty, zr, Nat.reduceAdd, Nat.reduceSub, Nat.reduceMul, Nat.reduceMod, Nat.reduceDiv, Nat.reduceEqDiff, Nat.reduceLeDiff, Nat.reduceBEq, Int.reduceAdd, Int.reduceSub, Int.reduceMul, Int.reduceNeg, Int.reduceLT, Int.reduceLE, Int.reduceEq, Int.reduceNe, Int.reduceBEq, Int.reduceToNat, Int.reduceTDiv, Int.reduceTMod, Int.reduceOfNat, reduceCtorEq, sty, sui]
    try simp (disch := first | omega | (simp only [List.length_set, List.length_replicate, List.length_append, List.length_nil]; first | done | omega)) only [aT, Int.reduceToNat, List.length_set, List.length_replicate, List.length_append, List.length_nil]
    repeat' (with_reducible refine And.intro ?_ ?_)
    all_goals (try omega)
    all_goals
      (repeat ((with_reducible refine And.intro ?_ ?_); (first | omega | exact True.intro | with_reducible rfl | decide | assumption | rfl)))
      refine sp_call fun K1 hK1 => ?_
      simp only [calleeC, wT, Bool.not_eq_true, ty, zr, Nat.reduceAdd, Nat.reduceSub, Nat.reduceMul, Nat.reduceMod, Nat.reduceDiv, Nat.reduceEqDiff, Nat.reduceLeDiff, Nat.reduceBEq, Int.reduceAdd, Int.reduceSub, Int.reduceMul, Int.reduceNeg, Int.reduceLT, Int.reduceLE, Int.reduceEq, Int.reduceNe, Int.reduceBEq, Int.reduceToNat, Int.reduceTDiv, Int.reduceTMod, Int.reduceOfNat, reduceCtorEq, sty, sui]
      try simp (disch := first | omega | (simp only [List.length_set, List.length_replicate, List.length_append, List.length_nil]; first | done | omega)) only [aT, Int.reduceToNat, List.length_set, List.length_replicate, List.length_append, List.length_nil]
      refine ⟨_, mo_Real_Split, hK1 _ _ ?_⟩
      clear hK1 K1
      simp only [CallTo, AV.mapL, AV.map, mapL_flat, mapL_flat1]
      refine ⟨_, FnOk.toP (realSplit_ok _ h.s hs) ⟨rfl, rfl⟩, ofEq ?_⟩
      simp only [wT, Bool.not_eq_true, ty, zr, Nat.reduceAdd, Nat.reduceSub, Nat.reduceMul, Nat.reduceMod, Nat.reduceDiv, Nat.reduceEqDiff, Nat.reduceLeDiff, Nat.reduceBEq, Int.reduceAdd, Int.reduceSub, Int.reduceMul, Int.reduceNeg, Int.reduceLT, Int.reduceLE, Int.reduceEq, Int.reduceNe, Int.reduceBEq, Int.reduceToNat, Int.reduceTDiv, Int.reduceTMod, Int.reduceOfNat, reduceCtorEq, sty, sui]
      try simp (disch := first | omega | (simp only [List.length_set, List.length_replicate, List.length_append, List.length_nil]; first | done | omega)) only [aT, Int.reduceToNat, List.length_set, List.length_replicate, List.length_append, List.length_nil]
      try simp only [wT, Bool.not_eq_true, ty, zr, Nat.reduceAdd, Nat.reduceSub, Nat.reduceMul, Nat.reduceMod, Nat.reduceDiv, Nat.reduceEqDiff, Nat.reduceLeDiff, Nat.reduceBEq, Int.reduceAdd, Int.reduceSub, Int.reduceMul, Int.reduceNeg, Int.reduceLT, Int.reduceLE, Int.reduceEq, Int.reduceNe, Int.reduceBEq, Int.reduceToNat, Int.reduceTDiv, Int.reduceTMod, Int.reduceOfNat, reduceCtorEq, sty, sui]
      simp only [← spL_def, ← spR_def, hL, hR, hsL, hsR, hpL, hpR, wT, Bool.not_eq_true, ty, zr, Nat.reduceAdd, Nat.reduceSub, Nat.reduceMul, Nat.reduceMod, Nat.reduceDiv, Nat.reduceEqDiff, Nat.reduceLeDiff, Nat.reduceBEq, Int.reduceAdd, Int.reduceSub, Int.reduceMul, Int.reduceNeg, Int.reduceLT, Int.reduceLE, Int.reduceEq, Int.reduceNe, Int.reduceBEq, Int.reduceToNat, Int.reduceTDiv, Int.reduceTMod, Int.reduceOfNat, reduceCtorEq, sty, sui]
      try simp (disch := first | omega | (simp only [List.length_set, List.length_replicate, List.length_append, List.length_nil]; first | done | omega)) only [aT, Int.reduceToNat, List.length_set, List.length_replicate, List.length_append, List.length_nil]
      repeat' (with_reducible refine And.intro ?_ ?_)
      all_goals (try omega)
      all_goals exact hK _ _ Le.sub ⟨_, _, _, rfl, rfl, rfl, rfl, rfl, rfl⟩
  rintro _ ⟨p, q, rw, rfl, hMX1⟩
  obtain ⟨g0, g1, g2, gp, gq⟩ := hMX1
  have h1q : (1 : Nat) ≠ q := fun e => by rw [← e, g1] at gq; simp at gq
  have k0 : ∀ x, (rw.set 1 x)[0]? = some (some (.mixed (hC h))) := fun x => gn (by omega) g0
  have k2 : ∀ x, (rw.set 1 x)[2]? = some (some (.mixed zH)) := fun x => gn (by omega) g2
  have kq : ∀ x, (rw.set 1 x)[q]? = some (some (.ints .u8 (spR h.s))) := fun x => gn h1q gq
  have hpe : 17 - (h.d + 1) = 16 - h.d := by omega
  have hpw : 2 ^ (16 - h.d) ≤ 2 ^ 16 := Nat.pow_le_pow_right (by omega) (by omega)
  have hpw2 : (2 : Nat) ^ 16 = 65536 := by decide
  have hwr : IntKind.u64.wrap ((h.a : Int) + ((2 ^ (16 - h.d) : Nat) : Int)) = (h.a : Int) + ((2 ^ (16 - h.d) : Nat) : Int) := by
    have h9 : ((2 ^ (16 - h.d) : Nat) : Int) ≤ 65536 := Int.ofNat_le.2 (Nat.le_trans hpw (Nat.le_of_eq hpw2))
    have h10 : 0 ≤ ((2 ^ (16 - h.d) : Nat) : Int) := Int.natCast_nonneg _
    generalize ((2 ^ (16 - h.d) : Nat) : Int) = P at h9 h10 ⊢
    exact wrap_u64' (by omega) (by omega)
  have hcast : ((h.d + 1 : Nat) : Int) = (h.d : Int) + 1 := by omega
  have hs1 : Sy.splice zH 0 (AV.int .i64 ((h.d : Int) + 1) :: AV.int .u64 (h.a : Int) :: flatI .u8 (spL h.s) : List (AV (Sy.Id α))) = (AV.int .i64 ((h.d : Int) + 1) :: AV.int .u64 (h.a : Int) :: flatI .u8 (spL h.s) : List (AV (Sy.Id α))) := splice_all (by simp [flatI_len, hL])
  have hs2 : Sy.splice zH 0 (AV.int .i64 ((h.d : Int) + 1) :: AV.int .u64 ((h.a : Int) + ((2 ^ (16 - h.d) : Nat) : Int)) :: flatI .u8 (spR h.s) : List (AV (Sy.Id α))) = (AV.int .i64 ((h.d : Int) + 1) :: AV.int .u64 ((h.a : Int) + ((2 ^ (16 - h.d) : Nat) : Int)) :: flatI .u8 (spR h.s) : List (AV (Sy.Id α))) := splice_all (by simp [flatI_len, hR])
  refine AWp.drwJ mix p_keytree_Tree_down_1_2 q_keytree_Tree_down_1_2 g_keytree_Tree_down_1_2 s_keytree_Tree_down_1_2 ⟨[(3, .ptr (.own 1) 0), (4, .ptr (.own 2) 0)], (rw.set 1 (some (.mixed (AV.int .i64 ((h.d : Int) + 1) :: AV.int .u64 (h.a : Int) :: flatI .u8 (spL h.s))))).set 2 (some (.mixed (AV.int .i64 ((h.d : Int) + 1) :: AV.int .u64 ((h.a : Int) + ((2 ^ (16 - h.d) : Nat) : Int)) :: flatI .u8 (spR h.s))))⟩ rfl (by decide +kernel) (fun K hK => sp_of ?_) ?_
  · simp only [s_keytree_Tree_down_1_2, wT, Bool.not_eq_true, ty, zr, Nat.reduceAdd, Nat.reduceSub, Nat.reduceMul, Nat.reduceMod, Nat.reduceDiv, Nat.reduceEqDiff, Nat.reduceLeDiff, Nat.reduceBEq, Int.reduceAdd, Int.reduceSub, Int.reduceMul, Int.reduceNeg, Int.reduceLT, Int.reduceLE, Int.reduceEq, Int.reduceNe, Int.reduceBEq, Int.reduceToNat, Int.reduceTDiv, Int.reduceTMod, Int.reduceOfNat, reduceCtorEq, sty, sui]
    try simp (disch := first | omega | (simp only [List.length_set, List.length_replicate, List.length_append, List.length_nil]; first | done | omega)) only [aT, Int.reduceToNat, List.length_set, List.length_replicate, List.length_append, List.length_nil]
    simp only [g0, gp, hC_d, hC_a, hl, hL, hsL, splice_hC _ _ hL, wT, Bool.not_eq_true, ty, zr, Nat.reduceAdd, Nat.reduceSub, Nat.reduceMul, Nat.reduceMod, Nat.reduceDiv, Nat.reduceEqDiff, Nat.reduceLeDiff, Nat.reduceBEq, Int.reduceAdd, Int.reduceSub, Int.reduceMul, Int.reduceNeg, Int.reduceLT, Int.reduceLE, Int.reduceEq, Int.reduceNe, Int.reduceBEq, Int.reduceToNat, Int.reduceTDiv, Int.reduceTMod, Int.reduceOfNat, reduceCtorEq, sty, sui]
    try simp (disch := first | omega | (simp only [List.length_set, List.length_replicate, List.length_append, List.length_nil]; first | done | omega)) only [aT, Int.reduceToNat, List.length_set, List.length_replicate, List.length_append, List.length_nil]
    repeat' (with_reducible refine And.intro ?_ ?_)
    all_goals (try omega)
    (repeat ((with_reducible refine And.intro ?_ ?_); (first | omega | exact True.intro | with_reducible rfl | decide | assumption | rfl)))
    refine sp_quiet fun K1 hK1 => ?_
    simp only [calleeC, wT, Bool.not_eq_true, ty, zr, Nat.reduceAdd, Nat.reduceSub, Nat.reduceMul, Nat.reduceMod, Nat.reduceDiv, Nat.reduceEqDiff, Nat.reduceLeDiff, Nat.reduceBEq, Int.reduceAdd, Int.reduceSub, Int.reduceMul, Int.reduceNeg, Int.reduceLT, Int.reduceLE, Int.reduceEq, Int.reduceNe, Int.reduceBEq, Int.reduceToNat, Int.reduceTDiv, Int.reduceTMod, Int.reduceOfNat, reduceCtorEq, sty, sui]
    try simp (disch := first | omega | (simp only [List.length_set, List.length_replicate, List.length_append, List.length_nil]; first | done | omega)) only [aT, Int.reduceToNat, List.length_set, List.length_replicate, List.length_append, List.length_nil]
    refine hK1 _ _ ?_
    clear hK1 K1
    simp only [QuietTo, AV.mapL, AV.map, mapL_flat, mapL_flat1]
    rw [show ((h.d : Int) + 1) = ((h.d + 1 : Nat) : Int) from by omega]
    refine ⟨_, many_ok _ (h.d + 1) (by omega), trivial, ?_⟩
    simp only [wT, Bool.not_eq_true, ty, zr, Nat.reduceAdd, Nat.reduceSub, Nat.reduceMul, Nat.reduceMod, Nat.reduceDiv, Nat.reduceEqDiff, Nat.reduceLeDiff, Nat.reduceBEq, Int.reduceAdd, Int.reduceSub, Int.reduceMul, Int.reduceNeg, Int.reduceLT, Int.reduceLE, Int.reduceEq, Int.reduceNe, Int.reduceBEq, Int.reduceToNat, Int.reduceTDiv, Int.reduceTMod, Int.reduceOfNat, reduceCtorEq, sty, sui]
    try simp (disch := first | omega | (simp only [List.length_set, List.length_replicate, List.length_append, List.length_nil]; first | done | omega)) only [aT, Int.reduceToNat, List.length_set, List.length_replicate, List.length_append, List.length_nil]
    rw [hpe]
    simp only [g0, g1, gq, k0, k2, kq, hC_d, hC_a, hl, hL, hR, hsR, splice_hC _ _ hR, wT, Bool.not_eq_true, ty, zr, Nat.reduceAdd, Nat.reduceSub, Nat.reduceMul, Nat.reduceMod, Nat.reduceDiv, Nat.reduceEqDiff, Nat.reduceLeDiff, Nat.reduceBEq, Int.reduceAdd, Int.reduceSub, Int.reduceMul, Int.reduceNeg, Int.reduceLT, Int.reduceLE, Int.reduceEq, Int.reduceNe, Int.reduceBEq, Int.reduceToNat, Int.reduceTDiv, Int.reduceTMod, Int.reduceOfNat, reduceCtorEq, sty, sui]
    try simp (disch := first | omega | (simp only [List.length_set, List.length_replicate, List.length_append, List.length_nil]; first | done | omega)) only [aT, Int.reduceToNat, List.length_set, List.length_replicate, List.length_append, List.length_nil]
    repeat' (with_reducible refine And.intro ?_ ?_)
    all_goals (try omega)
    all_goals (simp only [hwr, hcast, hs1, hs2])
    all_goals exact hK _ Le.sub
  refine AWp.ret ?_
  try simp only [thenQ, bq, lq, lf, iq, gq, Nat.reduceEqDiff, if_true, if_false]
  simp only [endQ, rs_keytree_Tree_down_1, resC, one, wT, Bool.not_eq_true, ty, zr, Nat.reduceAdd, Nat.reduceSub, Nat.reduceMul, Nat.reduceMod, Nat.reduceDiv, Nat.reduceEqDiff, Nat.reduceLeDiff, Nat.reduceBEq, Int.reduceAdd, Int.reduceSub, Int.reduceMul, Int.reduceNeg, Int.reduceLT, Int.reduceLE, Int.reduceEq, Int.reduceNe, Int.reduceBEq, Int.reduceToNat, Int.reduceTDiv, Int.reduceTMod, Int.reduceOfNat, reduceCtorEq, sty, sui]
  try simp (disch := first | omega | (simp only [List.length_set, List.length_replicate, List.length_append, List.length_nil]; first | done | omega)) only [aT, Int.reduceToNat, List.length_set, List.length_replicate, List.length_append, List.length_nil]
  rw [gn (x := some (Row.mixed (AV.int .i64 ((h.d : Int) + 1) :: AV.int .u64 ((h.a : Int) + ((2 ^ (16 - h.d) : Nat) : Int)) :: flatI .u8 (spR h.s) : List (AV (Sy.Id α))))) (show (2 : Nat) ≠ 1 by omega) (gself (x := some (Row.mixed (AV.int .i64 ((h.d : Int) + 1) :: AV.int .u64 (h.a : Int) :: flatI .u8 (spL h.s) : List (AV (Sy.Id α))))) g1), gself (x := some (Row.mixed (AV.int .i64 ((h.d : Int) + 1) :: AV.int .u64 ((h.a : Int) + ((2 ^ (16 - h.d) : Nat) : Int)) :: flatI .u8 (spR h.s) : List (AV (Sy.Id α))))) (k2 _)]
  simp only [wT, Bool.not_eq_true, ty, zr, Nat.reduceAdd, Nat.reduceSub, Nat.reduceMul, Nat.reduceMod, Nat.reduceDiv, Nat.reduceEqDiff, Nat.reduceLeDiff, Nat.reduceBEq, Int.reduceAdd, Int.reduceSub, Int.reduceMul, Int.reduceNeg, Int.reduceLT, Int.reduceLE, Int.reduceEq, Int.reduceNe, Int.reduceBEq, Int.reduceToNat, Int.reduceTDiv, Int.reduceTMod, Int.reduceOfNat, reduceCtorEq, sty, sui]
  try simp (disch := first | omega | (simp only [List.length_set, List.length_replicate, List.length_append, List.length_nil]; first | done | omega)) only [aT, Int.reduceToNat, List.length_set, List.length_replicate, List.length_append, List.length_nil]
  refine ⟨by omega, by omega, ?_⟩
  rw [sub_all (by simp [flatI_len, hL]), sub_all (by simp [flatI_len, hR])]
  simp only [hC, kidL, kidR, Int.natCast_add]
  rfl
end Go.Proofs.Ytopiceaeombefaa
