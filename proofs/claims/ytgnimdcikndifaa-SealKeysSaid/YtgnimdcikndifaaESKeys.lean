/-
  PROVED: 'erewhilelaw04.SealKeys' returns true for every input and leaves its arguments as they were. No condition.
-/
import Derived.Test.YtgnimdcikndifaaSea1
import Derived.Test.YtgnimdcikndifaaRows
import Derived.WalkKit
import Derived.ProofKit
namespace Go.Proofs.Ytgnimdcikndifaa
open Go Go.Proofs.Ytgnimdcikndifaa.Sy
set_option linter.unusedSimpArgs false
set_option linter.unusedVariables false
set_option maxRecDepth 100000
set_option maxHeartbeats 4000000


theorem writeN {α : Type} (E : α → Option (Row α)) (x : α) (l c b J : List Int) (n m q : Nat) (hb : b.length = n) (hc : c.length = m) (hJ : c ++ b = J) (hq : J.length = q) (hx : E x = some (.ints .u8 l)) (o : Nat) (ho : o + n ≤ l.length) (hs : sub l o n = b) (hl : m + n ≤ 1099511627776) (f : Bool) :
    FnOk Try.prog n_sha_Hash_Write E [.ptr (.own 0) 0, .slice f (.ext x) o n 1] [some (.mixed [.slice true (.own 1) 0 m 1]), some (.ints .u8 c)] (.tuple []) [some (.mixed [.slice true (.own 2) 0 q 1]), none, some (.ints .u8 J)] := by
  subst hb hc hJ hq
  exact write_ok E x l c b hx o ho hs hl f
theorem hsumN {α : Type} (E : α → Option (Row α)) (x y : α) (c : List Int) (f : Bool) (n : Nat) (hn : c.length = n) (hx : E x = some (.mixed [.slice f y 0 n 1])) (hy : E y = some (.ints .u8 c)) (hl : n ≤ 1099511627776) :
    FnOk Try.prog n_sha_Hash_Sum E [.ptr (.ext x) 0] [] (.ints .u8 (sumL c)) [] := by
  subst hn
  exact hsum_ok E x y c f hx hy hl
theorem law_long {α : Type} (E : α → Option (Row α)) (k : List Int) (hk : k.length = 32) (x : α) (b : List Int) (y : Int) (bb : 200 < b.length) :
    FnOk Try.prog n_law04_SealKeys E [.ints .u8 k, .slice false (.ext x) 0 b.length 1, .int .u8 y] [] (.bool true) [] := by
  refine FnOk.pure func_law04_SealKeys call_law04_SealKeys (body := _) rfl nt_law04_SealKeys (by simp) (by simp [AV.solid, AV.solidL]) ?_
  refine AWp.reg p_law04_SealKeys_0 [] s_law04_SealKeys_0 rfl rfl fun K hK => st_of ?_
  simp only [s_law04_SealKeys_0, wT, Bool.not_eq_true, ty, zr, Nat.reduceAdd, Nat.reduceSub, Nat.reduceMul, Nat.reduceMod, Nat.reduceDiv, Nat.reduceEqDiff, Nat.reduceLeDiff, Nat.reduceBEq, Int.reduceAdd, Int.reduceSub, Int.reduceMul, Int.reduceNeg, Int.reduceLT, Int.reduceLE, Int.reduceEq, Int.reduceNe, Int.reduceBEq, Int.reduceToNat, Int.reduceTDiv, Int.reduceTMod, Int.reduceOfNat, reduceCtorEq, sty]
  try simp (disch := first | omega | (simp only [List.length_set, List.length_replicate, List.length_append, List.length_nil]; done) | (simp only [List.length_set, List.length_replicate, List.length_append, List.length_nil]; omega)) only [tn_add, tn_mul, tn_sub, tn_div, tn_mod, Int.toNat_natCast, Int.reduceToNat, wrap_i64', wrap_u64', wrap_u32', wrap_u8', Int.tmod_eq_emod_of_nonneg, Int.tdiv_eq_ediv_of_nonneg, sub_one, sub_all, splice_all, List.length_set, List.length_replicate, List.length_append, List.length_nil]
  (repeat ((with_reducible refine And.intro ?_ ?_); (first | omega | exact True.intro | assumption | rfl)))
  refine hK _ ?_; clear hK K
  refine AWp.grp fun G4 hG4 => ?_
  refine AWp.reg p_law04_SealKeys_1 [] s_law04_SealKeys_1 rfl rfl fun K hK => st_of ?_
  simp only [s_law04_SealKeys_1, wT, Bool.not_eq_true, ty, zr, Nat.reduceAdd, Nat.reduceSub, Nat.reduceMul, Nat.reduceMod, Nat.reduceDiv, Nat.reduceEqDiff, Nat.reduceLeDiff, Nat.reduceBEq, Int.reduceAdd, Int.reduceSub, Int.reduceMul, Int.reduceNeg, Int.reduceLT, Int.reduceLE, Int.reduceEq, Int.reduceNe, Int.reduceBEq, Int.reduceToNat, Int.reduceTDiv, Int.reduceTMod, Int.reduceOfNat, reduceCtorEq, sty]
  try simp (disch := first | omega | (simp only [List.length_set, List.length_replicate, List.length_append, List.length_nil]; done) | (simp only [List.length_set, List.length_replicate, List.length_append, List.length_nil]; omega)) only [tn_add, tn_mul, tn_sub, tn_div, tn_mod, Int.toNat_natCast, Int.reduceToNat, wrap_i64', wrap_u64', wrap_u32', wrap_u8', Int.tmod_eq_emod_of_nonneg, Int.tdiv_eq_ediv_of_nonneg, sub_one, sub_all, splice_all, List.length_set, List.length_replicate, List.length_append, List.length_nil]
  (repeat ((with_reducible refine And.intro ?_ ?_); (first | omega | exact True.intro | assumption | rfl)))
  refine st_call fun K1 hK1 => ?_
  simp only [calleeC, wT, Bool.not_eq_true, ty, zr, Nat.reduceAdd, Nat.reduceSub, Nat.reduceMul, Nat.reduceMod, Nat.reduceDiv, Nat.reduceEqDiff, Nat.reduceLeDiff, Nat.reduceBEq, Int.reduceAdd, Int.reduceSub, Int.reduceMul, Int.reduceNeg, Int.reduceLT, Int.reduceLE, Int.reduceEq, Int.reduceNe, Int.reduceBEq, Int.reduceToNat, Int.reduceTDiv, Int.reduceTMod, Int.reduceOfNat, reduceCtorEq, sty]
  try simp (disch := first | omega | (simp only [List.length_set, List.length_replicate, List.length_append, List.length_nil]; done) | (simp only [List.length_set, List.length_replicate, List.length_append, List.length_nil]; omega)) only [tn_add, tn_mul, tn_sub, tn_div, tn_mod, Int.toNat_natCast, Int.reduceToNat, wrap_i64', wrap_u64', wrap_u32', wrap_u8', Int.tmod_eq_emod_of_nonneg, Int.tdiv_eq_ediv_of_nonneg, sub_one, sub_all, splice_all, List.length_set, List.length_replicate, List.length_append, List.length_nil]
  refine hK1 _ _ ?_
  clear hK1 K1
  simp only [CallTo, AV.mapL, AV.map]
  refine ⟨_, _, awake_ok _, ?_⟩
  simp only [wT, Bool.not_eq_true, ty, zr, Nat.reduceAdd, Nat.reduceSub, Nat.reduceMul, Nat.reduceMod, Nat.reduceDiv, Nat.reduceEqDiff, Nat.reduceLeDiff, Nat.reduceBEq, Int.reduceAdd, Int.reduceSub, Int.reduceMul, Int.reduceNeg, Int.reduceLT, Int.reduceLE, Int.reduceEq, Int.reduceNe, Int.reduceBEq, Int.reduceToNat, Int.reduceTDiv, Int.reduceTMod, Int.reduceOfNat, reduceCtorEq, sty]
  try simp (disch := first | omega | (simp only [List.length_set, List.length_replicate, List.length_append, List.length_nil]; done) | (simp only [List.length_set, List.length_replicate, List.length_append, List.length_nil]; omega)) only [tn_add, tn_mul, tn_sub, tn_div, tn_mod, Int.toNat_natCast, Int.reduceToNat, wrap_i64', wrap_u64', wrap_u32', wrap_u8', Int.tmod_eq_emod_of_nonneg, Int.tdiv_eq_ediv_of_nonneg, sub_one, sub_all, splice_all, List.length_set, List.length_replicate, List.length_append, List.length_nil]
  (repeat ((with_reducible refine And.intro ?_ ?_); (first | omega | exact True.intro | assumption | rfl)))
  refine hK _ ?_; clear hK K
  refine AWp.iteE rfl (fun hb => ?_) (fun hb => ?_)
  · try simp only [decide_eq_true_eq, decide_eq_false_iff_not, beq_iff_eq, bne_iff_ne, ne_eq, Bool.not_eq_true, beq_eq_false_iff_ne, bne_eq_false_iff_eq, Bool.not_eq_false, Bool.not_eq_eq_eq_not, Bool.not_true, Bool.not_false] at hb
    (first | exact absurd trivial hb | exact absurd rfl hb | cases hb | (exfalso; omega) | (simp at hb; done))
  · try simp only [decide_eq_true_eq, decide_eq_false_iff_not, beq_iff_eq, bne_iff_ne, ne_eq, Bool.not_eq_true, beq_eq_false_iff_ne, bne_eq_false_iff_eq, Bool.not_eq_false, Bool.not_eq_eq_eq_not, Bool.not_true, Bool.not_false] at hb
    refine AWp.skip ?_
    try simp only [thenQ, bq, lq, lf, iq, gq, Nat.reduceEqDiff, if_true, if_false]
    refine hG4 _ ?_
    try clear hG4 G4
    refine AWp.grp fun G25 hG25 => ?_
    refine AWp.reg p_law04_SealKeys_3 [] s_law04_SealKeys_3 rfl rfl fun K hK => st_of ?_
    simp only [s_law04_SealKeys_3, wT, Bool.not_eq_true, ty, zr, Nat.reduceAdd, Nat.reduceSub, Nat.reduceMul, Nat.reduceMod, Nat.reduceDiv, Nat.reduceEqDiff, Nat.reduceLeDiff, Nat.reduceBEq, Int.reduceAdd, Int.reduceSub, Int.reduceMul, Int.reduceNeg, Int.reduceLT, Int.reduceLE, Int.reduceEq, Int.reduceNe, Int.reduceBEq, Int.reduceToNat, Int.reduceTDiv, Int.reduceTMod, Int.reduceOfNat, reduceCtorEq, sty]
    try simp (disch := first | omega | (simp only [List.length_set, List.length_replicate, List.length_append, List.length_nil]; done) | (simp only [List.length_set, List.length_replicate, List.length_append, List.length_nil]; omega)) only [tn_add, tn_mul, tn_sub, tn_div, tn_mod, Int.toNat_natCast, Int.reduceToNat, wrap_i64', wrap_u64', wrap_u32', wrap_u8', Int.tmod_eq_emod_of_nonneg, Int.tdiv_eq_ediv_of_nonneg, sub_one, sub_all, splice_all, List.length_set, List.length_replicate, List.length_append, List.length_nil]
    (repeat ((with_reducible refine And.intro ?_ ?_); (first | omega | exact True.intro | assumption | rfl)))
    refine hK _ ?_; clear hK K
    refine AWp.iteE rfl (fun hb => ?_) (fun hb => ?_)
    · try simp only [decide_eq_true_eq, decide_eq_false_iff_not, beq_iff_eq, bne_iff_ne, ne_eq, Bool.not_eq_true, beq_eq_false_iff_ne, bne_eq_false_iff_eq, Bool.not_eq_false, Bool.not_eq_eq_eq_not, Bool.not_true, Bool.not_false] at hb
      refine AWp.reg p_law04_SealKeys_4 [] s_law04_SealKeys_4 rfl rfl fun K hK => st_of ?_
      simp only [s_law04_SealKeys_4, wT, Bool.not_eq_true, ty, zr, Nat.reduceAdd, Nat.reduceSub, Nat.reduceMul, Nat.reduceMod, Nat.reduceDiv, Nat.reduceEqDiff, Nat.reduceLeDiff, Nat.reduceBEq, Int.reduceAdd, Int.reduceSub, Int.reduceMul, Int.reduceNeg, Int.reduceLT, Int.reduceLE, Int.reduceEq, Int.reduceNe, Int.reduceBEq, Int.reduceToNat, Int.reduceTDiv, Int.reduceTMod, Int.reduceOfNat, reduceCtorEq, sty]
      try simp (disch := first | omega | (simp only [List.length_set, List.length_replicate, List.length_append, List.length_nil]; done) | (simp only [List.length_set, List.length_replicate, List.length_append, List.length_nil]; omega)) only [tn_add, tn_mul, tn_sub, tn_div, tn_mod, Int.toNat_natCast, Int.reduceToNat, wrap_i64', wrap_u64', wrap_u32', wrap_u8', Int.tmod_eq_emod_of_nonneg, Int.tdiv_eq_ediv_of_nonneg, sub_one, sub_all, splice_all, List.length_set, List.length_replicate, List.length_append, List.length_nil]
      (repeat ((with_reducible refine And.intro ?_ ?_); (first | omega | exact True.intro | assumption | rfl)))
      refine hK _ ?_; clear hK K
      refine AWp.ret ?_
      try simp only [thenQ, bq, lq, lf, iq, gq, Nat.reduceEqDiff, if_true, if_false]
      simp only [endQ, rs_law04_SealKeys, resC, one, wT, Bool.not_eq_true, ty, zr, Nat.reduceAdd, Nat.reduceSub, Nat.reduceMul, Nat.reduceMod, Nat.reduceDiv, Nat.reduceEqDiff, Nat.reduceLeDiff, Nat.reduceBEq, Int.reduceAdd, Int.reduceSub, Int.reduceMul, Int.reduceNeg, Int.reduceLT, Int.reduceLE, Int.reduceEq, Int.reduceNe, Int.reduceBEq, Int.reduceToNat, Int.reduceTDiv, Int.reduceTMod, Int.reduceOfNat, reduceCtorEq, sty]
      try simp (disch := first | omega | (simp only [List.length_set, List.length_replicate, List.length_append, List.length_nil]; done) | (simp only [List.length_set, List.length_replicate, List.length_append, List.length_nil]; omega)) only [tn_add, tn_mul, tn_sub, tn_div, tn_mod, Int.toNat_natCast, Int.reduceToNat, wrap_i64', wrap_u64', wrap_u32', wrap_u8', Int.tmod_eq_emod_of_nonneg, Int.tdiv_eq_ediv_of_nonneg, sub_one, sub_all, splice_all, List.length_set, List.length_replicate, List.length_append, List.length_nil]
      repeat' (first | exact True.intro | (with_reducible rfl) | (with_reducible apply And.intro) | omega | rfl)
    · try simp only [decide_eq_true_eq, decide_eq_false_iff_not, beq_iff_eq, bne_iff_ne, ne_eq, Bool.not_eq_true, beq_eq_false_iff_ne, bne_eq_false_iff_eq, Bool.not_eq_false, Bool.not_eq_eq_eq_not, Bool.not_true, Bool.not_false] at hb
      (first | exact absurd trivial hb | exact absurd rfl hb | cases hb | (exfalso; omega) | (simp at hb; done))
theorem law_ok {α : Type} (E : α → Option (Row α)) (k : List Int) (hk : k.length = 32) (x : α) (b : List Int) (y : Nat) (hx : E x = some (.ints .u8 b)) (bb : b.length ≤ 200) (hy : y < 256) :
    FnOk Try.prog n_law04_SealKeys E [.ints .u8 k, .slice false (.ext x) 0 b.length 1, .int .u8 y] [] (.bool true) [] := by
  obtain ⟨n, hn⟩ : ∃ n, y % (b.length + 1) = n := ⟨_, rfl⟩
  have hnb : n ≤ b.length := by have := Nat.mod_lt y (show 0 < b.length + 1 by omega); omega
  have hJ1 : k ++ sub b 0 n ++ sub b n (b.length - n) = k ++ b := by
    rw [List.append_assoc]; congr 1
    simp [Sy.sub, List.take_of_length_le (show (b.drop n).length ≤ b.length - n by simp)]
  have hni : (y : Int) % ((b.length : Int) + 1) = n := by rw [← hn]; simp
  have hkk : sub k 0 32 = k := sub_all hk
  have hb1 : (sub b 0 n).length = n := Sy.length_sub (by omega)
  have hb2 : (sub b n (b.length - n)).length = b.length - n := Sy.length_sub (by omega)
  obtain ⟨A, hA⟩ : ∃ A, k ++ sub b 0 n = A := ⟨_, rfl⟩
  have hAl : A.length = 32 + n := by rw [← hA, List.length_append, hk, hb1]
  obtain ⟨J, hJ⟩ : ∃ J, k ++ b = J := ⟨_, rfl⟩
  have hJl : J.length = 32 + b.length := by rw [← hJ, List.length_append, hk]
  rw [hA, hJ] at hJ1
  have hsl := sumL_len J
  have hss : sub (sumL J) 0 32 = sumL J := sub_all hsl
  obtain ⟨I, hI⟩ : ∃ I, k ++ sumL J = I := ⟨_, rfl⟩
  have hIl : I.length = 32 + 32 := by rw [← hI, List.length_append, hk, hsl]
  have hs1 := sumL_len I
  have hs2 : (sub (sumL I) 0 16).length = 16 := Sy.length_sub (by omega)
  have hs0 : sub b 0 b.length = b := sub_all rfl
  refine FnOk.pure func_law04_SealKeys call_law04_SealKeys (body := _) rfl nt_law04_SealKeys (by simp) (by simp [AV.solid, AV.solidL]) ?_
  refine AWp.reg p_law04_SealKeys_0 [] s_law04_SealKeys_0 rfl rfl fun K hK => st_of ?_
  simp only [s_law04_SealKeys_0, wT, Bool.not_eq_true, ty, zr, Nat.reduceAdd, Nat.reduceSub, Nat.reduceMul, Nat.reduceMod, Nat.reduceDiv, Nat.reduceEqDiff, Nat.reduceLeDiff, Nat.reduceBEq, Int.reduceAdd, Int.reduceSub, Int.reduceMul, Int.reduceNeg, Int.reduceLT, Int.reduceLE, Int.reduceEq, Int.reduceNe, Int.reduceBEq, Int.reduceToNat, Int.reduceTDiv, Int.reduceTMod, Int.reduceOfNat, reduceCtorEq, sty]
  try simp (disch := first | omega | (simp only [List.length_set, List.length_replicate, List.length_append, List.length_nil]; done) | (simp only [List.length_set, List.length_replicate, List.length_append, List.length_nil]; omega)) only [tn_add, tn_mul, tn_sub, tn_div, tn_mod, Int.toNat_natCast, Int.reduceToNat, wrap_i64', wrap_u64', wrap_u32', wrap_u8', Int.tmod_eq_emod_of_nonneg, Int.tdiv_eq_ediv_of_nonneg, sub_one, sub_all, splice_all, List.length_set, List.length_replicate, List.length_append, List.length_nil]
  (repeat ((with_reducible refine And.intro ?_ ?_); (first | omega | exact True.intro | assumption | rfl)))
  refine hK _ ?_; clear hK K
  refine AWp.grp fun G4 hG4 => ?_
  refine AWp.reg p_law04_SealKeys_1 [] s_law04_SealKeys_1 rfl rfl fun K hK => st_of ?_
  simp only [s_law04_SealKeys_1, wT, Bool.not_eq_true, ty, zr, Nat.reduceAdd, Nat.reduceSub, Nat.reduceMul, Nat.reduceMod, Nat.reduceDiv, Nat.reduceEqDiff, Nat.reduceLeDiff, Nat.reduceBEq, Int.reduceAdd, Int.reduceSub, Int.reduceMul, Int.reduceNeg, Int.reduceLT, Int.reduceLE, Int.reduceEq, Int.reduceNe, Int.reduceBEq, Int.reduceToNat, Int.reduceTDiv, Int.reduceTMod, Int.reduceOfNat, reduceCtorEq, sty]
  try simp (disch := first | omega | (simp only [List.length_set, List.length_replicate, List.length_append, List.length_nil]; done) | (simp only [List.length_set, List.length_replicate, List.length_append, List.length_nil]; omega)) only [tn_add, tn_mul, tn_sub, tn_div, tn_mod, Int.toNat_natCast, Int.reduceToNat, wrap_i64', wrap_u64', wrap_u32', wrap_u8', Int.tmod_eq_emod_of_nonneg, Int.tdiv_eq_ediv_of_nonneg, sub_one, sub_all, splice_all, List.length_set, List.length_replicate, List.length_append, List.length_nil]
  (repeat ((with_reducible refine And.intro ?_ ?_); (first | omega | exact True.intro | assumption | rfl)))
  refine st_call fun K1 hK1 => ?_
  simp only [calleeC, wT, Bool.not_eq_true, ty, zr, Nat.reduceAdd, Nat.reduceSub, Nat.reduceMul, Nat.reduceMod, Nat.reduceDiv, Nat.reduceEqDiff, Nat.reduceLeDiff, Nat.reduceBEq, Int.reduceAdd, Int.reduceSub, Int.reduceMul, Int.reduceNeg, Int.reduceLT, Int.reduceLE, Int.reduceEq, Int.reduceNe, Int.reduceBEq, Int.reduceToNat, Int.reduceTDiv, Int.reduceTMod, Int.reduceOfNat, reduceCtorEq, sty]
  try simp (disch := first | omega | (simp only [List.length_set, List.length_replicate, List.length_append, List.length_nil]; done) | (simp only [List.length_set, List.length_replicate, List.length_append, List.length_nil]; omega)) only [tn_add, tn_mul, tn_sub, tn_div, tn_mod, Int.toNat_natCast, Int.reduceToNat, wrap_i64', wrap_u64', wrap_u32', wrap_u8', Int.tmod_eq_emod_of_nonneg, Int.tdiv_eq_ediv_of_nonneg, sub_one, sub_all, splice_all, List.length_set, List.length_replicate, List.length_append, List.length_nil]
  refine hK1 _ _ ?_
  clear hK1 K1
  simp only [CallTo, AV.mapL, AV.map]
  refine ⟨_, _, awake_ok _, ?_⟩
  simp only [wT, Bool.not_eq_true, ty, zr, Nat.reduceAdd, Nat.reduceSub, Nat.reduceMul, Nat.reduceMod, Nat.reduceDiv, Nat.reduceEqDiff, Nat.reduceLeDiff, Nat.reduceBEq, Int.reduceAdd, Int.reduceSub, Int.reduceMul, Int.reduceNeg, Int.reduceLT, Int.reduceLE, Int.reduceEq, Int.reduceNe, Int.reduceBEq, Int.reduceToNat, Int.reduceTDiv, Int.reduceTMod, Int.reduceOfNat, reduceCtorEq, sty]
  try simp (disch := first | omega | (simp only [List.length_set, List.length_replicate, List.length_append, List.length_nil]; done) | (simp only [List.length_set, List.length_replicate, List.length_append, List.length_nil]; omega)) only [tn_add, tn_mul, tn_sub, tn_div, tn_mod, Int.toNat_natCast, Int.reduceToNat, wrap_i64', wrap_u64', wrap_u32', wrap_u8', Int.tmod_eq_emod_of_nonneg, Int.tdiv_eq_ediv_of_nonneg, sub_one, sub_all, splice_all, List.length_set, List.length_replicate, List.length_append, List.length_nil]
  (repeat ((with_reducible refine And.intro ?_ ?_); (first | omega | exact True.intro | assumption | rfl)))
  refine hK _ ?_; clear hK K
  refine AWp.iteE rfl (fun hb => ?_) (fun hb => ?_)
  · try simp only [decide_eq_true_eq, decide_eq_false_iff_not, beq_iff_eq, bne_iff_ne, ne_eq, Bool.not_eq_true, beq_eq_false_iff_ne, bne_eq_false_iff_eq, Bool.not_eq_false, Bool.not_eq_eq_eq_not, Bool.not_true, Bool.not_false] at hb
    (first | exact absurd trivial hb | exact absurd rfl hb | cases hb | (exfalso; omega) | (simp at hb; done))
  · try simp only [decide_eq_true_eq, decide_eq_false_iff_not, beq_iff_eq, bne_iff_ne, ne_eq, Bool.not_eq_true, beq_eq_false_iff_ne, bne_eq_false_iff_eq, Bool.not_eq_false, Bool.not_eq_eq_eq_not, Bool.not_true, Bool.not_false] at hb
    refine AWp.skip ?_
    try simp only [thenQ, bq, lq, lf, iq, gq, Nat.reduceEqDiff, if_true, if_false]
    refine hG4 _ ?_
    try clear hG4 G4
    refine AWp.grp fun G25 hG25 => ?_
    refine AWp.reg p_law04_SealKeys_3 [] s_law04_SealKeys_3 rfl rfl fun K hK => st_of ?_
    simp only [s_law04_SealKeys_3, wT, Bool.not_eq_true, ty, zr, Nat.reduceAdd, Nat.reduceSub, Nat.reduceMul, Nat.reduceMod, Nat.reduceDiv, Nat.reduceEqDiff, Nat.reduceLeDiff, Nat.reduceBEq, Int.reduceAdd, Int.reduceSub, Int.reduceMul, Int.reduceNeg, Int.reduceLT, Int.reduceLE, Int.reduceEq, Int.reduceNe, Int.reduceBEq, Int.reduceToNat, Int.reduceTDiv, Int.reduceTMod, Int.reduceOfNat, reduceCtorEq, sty]
    try simp (disch := first | omega | (simp only [List.length_set, List.length_replicate, List.length_append, List.length_nil]; done) | (simp only [List.length_set, List.length_replicate, List.length_append, List.length_nil]; omega)) only [tn_add, tn_mul, tn_sub, tn_div, tn_mod, Int.toNat_natCast, Int.reduceToNat, wrap_i64', wrap_u64', wrap_u32', wrap_u8', Int.tmod_eq_emod_of_nonneg, Int.tdiv_eq_ediv_of_nonneg, sub_one, sub_all, splice_all, List.length_set, List.length_replicate, List.length_append, List.length_nil]
    (repeat ((with_reducible refine And.intro ?_ ?_); (first | omega | exact True.intro | assumption | rfl)))
    refine hK _ ?_; clear hK K
    refine AWp.iteE rfl (fun hb => ?_) (fun hb => ?_)
    · try simp only [decide_eq_true_eq, decide_eq_false_iff_not, beq_iff_eq, bne_iff_ne, ne_eq, Bool.not_eq_true, beq_eq_false_iff_ne, bne_eq_false_iff_eq, Bool.not_eq_false, Bool.not_eq_eq_eq_not, Bool.not_true, Bool.not_false] at hb
      (first | exact absurd trivial hb | exact absurd rfl hb | cases hb | (exfalso; omega) | (simp at hb; done))
    · try simp only [decide_eq_true_eq, decide_eq_false_iff_not, beq_iff_eq, bne_iff_ne, ne_eq, Bool.not_eq_true, beq_eq_false_iff_ne, bne_eq_false_iff_eq, Bool.not_eq_false, Bool.not_eq_eq_eq_not, Bool.not_true, Bool.not_false] at hb
      refine AWp.skip ?_
      try simp only [thenQ, bq, lq, lf, iq, gq, Nat.reduceEqDiff, if_true, if_false]
      refine hG25 _ ?_
      try clear hG25 G25
      refine AWp.reg p_law04_SealKeys_5 [] s_law04_SealKeys_5 rfl rfl fun K hK => st_of ?_
      simp only [s_law04_SealKeys_5, wT, Bool.not_eq_true, ty, zr, Nat.reduceAdd, Nat.reduceSub, Nat.reduceMul, Nat.reduceMod, Nat.reduceDiv, Nat.reduceEqDiff, Nat.reduceLeDiff, Nat.reduceBEq, Int.reduceAdd, Int.reduceSub, Int.reduceMul, Int.reduceNeg, Int.reduceLT, Int.reduceLE, Int.reduceEq, Int.reduceNe, Int.reduceBEq, Int.reduceToNat, Int.reduceTDiv, Int.reduceTMod, Int.reduceOfNat, reduceCtorEq, sty]
      try simp (disch := first | omega | (simp only [List.length_set, List.length_replicate, List.length_append, List.length_nil]; done) | (simp only [List.length_set, List.length_replicate, List.length_append, List.length_nil]; omega)) only [tn_add, tn_mul, tn_sub, tn_div, tn_mod, Int.toNat_natCast, Int.reduceToNat, wrap_i64', wrap_u64', wrap_u32', wrap_u8', Int.tmod_eq_emod_of_nonneg, Int.tdiv_eq_ediv_of_nonneg, sub_one, sub_all, splice_all, List.length_set, List.length_replicate, List.length_append, List.length_nil]
      simp only [hni]
      (repeat ((with_reducible refine And.intro ?_ ?_); (first | omega | exact True.intro | assumption | rfl)))
      refine hK _ ?_; clear hK K
      refine AWp.reg p_law04_SealKeys_6 [] s_law04_SealKeys_6 rfl rfl fun K hK => st_of ?_
      simp only [s_law04_SealKeys_6, wT, Bool.not_eq_true, ty, zr, Nat.reduceAdd, Nat.reduceSub, Nat.reduceMul, Nat.reduceMod, Nat.reduceDiv, Nat.reduceEqDiff, Nat.reduceLeDiff, Nat.reduceBEq, Int.reduceAdd, Int.reduceSub, Int.reduceMul, Int.reduceNeg, Int.reduceLT, Int.reduceLE, Int.reduceEq, Int.reduceNe, Int.reduceBEq, Int.reduceToNat, Int.reduceTDiv, Int.reduceTMod, Int.reduceOfNat, reduceCtorEq, sty]
      try simp (disch := first | omega | (simp only [List.length_set, List.length_replicate, List.length_append, List.length_nil]; done) | (simp only [List.length_set, List.length_replicate, List.length_append, List.length_nil]; omega)) only [tn_add, tn_mul, tn_sub, tn_div, tn_mod, Int.toNat_natCast, Int.reduceToNat, wrap_i64', wrap_u64', wrap_u32', wrap_u8', Int.tmod_eq_emod_of_nonneg, Int.tdiv_eq_ediv_of_nonneg, sub_one, sub_all, splice_all, List.length_set, List.length_replicate, List.length_append, List.length_nil]
      (repeat ((with_reducible refine And.intro ?_ ?_); (first | omega | exact True.intro | assumption | rfl)))
      refine st_call fun K1 hK1 => ?_
      simp only [calleeC, wT, Bool.not_eq_true, ty, zr, Nat.reduceAdd, Nat.reduceSub, Nat.reduceMul, Nat.reduceMod, Nat.reduceDiv, Nat.reduceEqDiff, Nat.reduceLeDiff, Nat.reduceBEq, Int.reduceAdd, Int.reduceSub, Int.reduceMul, Int.reduceNeg, Int.reduceLT, Int.reduceLE, Int.reduceEq, Int.reduceNe, Int.reduceBEq, Int.reduceToNat, Int.reduceTDiv, Int.reduceTMod, Int.reduceOfNat, reduceCtorEq, sty]
      try simp (disch := first | omega | (simp only [List.length_set, List.length_replicate, List.length_append, List.length_nil]; done) | (simp only [List.length_set, List.length_replicate, List.length_append, List.length_nil]; omega)) only [tn_add, tn_mul, tn_sub, tn_div, tn_mod, Int.toNat_natCast, Int.reduceToNat, wrap_i64', wrap_u64', wrap_u32', wrap_u8', Int.tmod_eq_emod_of_nonneg, Int.tdiv_eq_ediv_of_nonneg, sub_one, sub_all, splice_all, List.length_set, List.length_replicate, List.length_append, List.length_nil]
      refine hK1 _ _ ?_
      clear hK1 K1
      simp only [CallTo, AV.mapL, AV.map]
      refine ⟨_, _, new_ok _, ?_⟩
      simp only [wT, Bool.not_eq_true, ty, zr, Nat.reduceAdd, Nat.reduceSub, Nat.reduceMul, Nat.reduceMod, Nat.reduceDiv, Nat.reduceEqDiff, Nat.reduceLeDiff, Nat.reduceBEq, Int.reduceAdd, Int.reduceSub, Int.reduceMul, Int.reduceNeg, Int.reduceLT, Int.reduceLE, Int.reduceEq, Int.reduceNe, Int.reduceBEq, Int.reduceToNat, Int.reduceTDiv, Int.reduceTMod, Int.reduceOfNat, reduceCtorEq, sty]
      try simp (disch := first | omega | (simp only [List.length_set, List.length_replicate, List.length_append, List.length_nil]; done) | (simp only [List.length_set, List.length_replicate, List.length_append, List.length_nil]; omega)) only [tn_add, tn_mul, tn_sub, tn_div, tn_mod, Int.toNat_natCast, Int.reduceToNat, wrap_i64', wrap_u64', wrap_u32', wrap_u8', Int.tmod_eq_emod_of_nonneg, Int.tdiv_eq_ediv_of_nonneg, sub_one, sub_all, splice_all, List.length_set, List.length_replicate, List.length_append, List.length_nil]
      (repeat ((with_reducible refine And.intro ?_ ?_); (first | omega | exact True.intro | assumption | rfl)))
      refine hK _ ?_; clear hK K
      refine AWp.reg p_law04_SealKeys_7 q_law04_SealKeys_7 s_law04_SealKeys_7 rfl rfl fun K hK => st_of ?_
      simp only [s_law04_SealKeys_7, wT, Bool.not_eq_true, ty, zr, Nat.reduceAdd, Nat.reduceSub, Nat.reduceMul, Nat.reduceMod, Nat.reduceDiv, Nat.reduceEqDiff, Nat.reduceLeDiff, Nat.reduceBEq, Int.reduceAdd, Int.reduceSub, Int.reduceMul, Int.reduceNeg, Int.reduceLT, Int.reduceLE, Int.reduceEq, Int.reduceNe, Int.reduceBEq, Int.reduceToNat, Int.reduceTDiv, Int.reduceTMod, Int.reduceOfNat, reduceCtorEq, sty]
      try simp (disch := first | omega | (simp only [List.length_set, List.length_replicate, List.length_append, List.length_nil]; done) | (simp only [List.length_set, List.length_replicate, List.length_append, List.length_nil]; omega)) only [tn_add, tn_mul, tn_sub, tn_div, tn_mod, Int.toNat_natCast, Int.reduceToNat, wrap_i64', wrap_u64', wrap_u32', wrap_u8', Int.tmod_eq_emod_of_nonneg, Int.tdiv_eq_ediv_of_nonneg, sub_one, sub_all, splice_all, List.length_set, List.length_replicate, List.length_append, List.length_nil]
      (repeat ((with_reducible refine And.intro ?_ ?_); (first | omega | exact True.intro | assumption | rfl)))
      refine st_mcall fun K1 hK1 => ?_
      simp only [calleeC, wT, Bool.not_eq_true, ty, zr, Nat.reduceAdd, Nat.reduceSub, Nat.reduceMul, Nat.reduceMod, Nat.reduceDiv, Nat.reduceEqDiff, Nat.reduceLeDiff, Nat.reduceBEq, Int.reduceAdd, Int.reduceSub, Int.reduceMul, Int.reduceNeg, Int.reduceLT, Int.reduceLE, Int.reduceEq, Int.reduceNe, Int.reduceBEq, Int.reduceToNat, Int.reduceTDiv, Int.reduceTMod, Int.reduceOfNat, reduceCtorEq, sty]
      try simp (disch := first | omega | (simp only [List.length_set, List.length_replicate, List.length_append, List.length_nil]; done) | (simp only [List.length_set, List.length_replicate, List.length_append, List.length_nil]; omega)) only [tn_add, tn_mul, tn_sub, tn_div, tn_mod, Int.toNat_natCast, Int.reduceToNat, wrap_i64', wrap_u64', wrap_u32', wrap_u8', Int.tmod_eq_emod_of_nonneg, Int.tdiv_eq_ediv_of_nonneg, sub_one, sub_all, splice_all, List.length_set, List.length_replicate, List.length_append, List.length_nil]
      refine hK1 _ _ ?_
      clear hK1 K1
      simp only [MutTo, AV.mapL, AV.map]
      refine ⟨[1, 2], [.ptr (.own 0) 0, .slice false (.ext (.own 0)) 0 32 1], [some (.mixed [.slice true (.own 1) 0 0 1]), some (.ints .u8 [])], _, _, by decide, by simp only [mutRows, mutRow, upM, Row.map, AV.map, AV.mapL, Row.All, AV.All, AV.AllL, inS]; (repeat' (first | exact trivial | rfl | omega | apply And.intro | simp)), by simp only [upM, List.map_cons, List.map_nil, AV.map, AV.mapL]; first | done | rfl, by simp only [AV.All, AV.AllL, inS]; (repeat' (first | exact trivial | rfl | omega | apply And.intro | simp)), writeN _ _ k [] k k 32 0 32 hk rfl rfl hk rfl 0 (by omega) hkk (by omega) _, ?_⟩
      simp only [afterM, setM, backM, List.drop_succ_cons, List.drop_zero, List.drop_nil, wT, Bool.not_eq_true, ty, zr, Nat.reduceAdd, Nat.reduceSub, Nat.reduceMul, Nat.reduceMod, Nat.reduceDiv, Nat.reduceEqDiff, Nat.reduceLeDiff, Nat.reduceBEq, Int.reduceAdd, Int.reduceSub, Int.reduceMul, Int.reduceNeg, Int.reduceLT, Int.reduceLE, Int.reduceEq, Int.reduceNe, Int.reduceBEq, Int.reduceToNat, Int.reduceTDiv, Int.reduceTMod, Int.reduceOfNat, reduceCtorEq, sty]
      try simp (disch := first | omega | (simp only [List.length_set, List.length_replicate, List.length_append, List.length_nil]; done) | (simp only [List.length_set, List.length_replicate, List.length_append, List.length_nil]; omega)) only [tn_add, tn_mul, tn_sub, tn_div, tn_mod, Int.toNat_natCast, Int.reduceToNat, wrap_i64', wrap_u64', wrap_u32', wrap_u8', Int.tmod_eq_emod_of_nonneg, Int.tdiv_eq_ediv_of_nonneg, sub_one, sub_all, splice_all, List.length_set, List.length_replicate, List.length_append, List.length_nil]
      (repeat ((with_reducible refine And.intro ?_ ?_); (first | omega | exact True.intro | assumption | rfl)))
      refine hK _ ?_; clear hK K
      refine AWp.reg p_law04_SealKeys_8 q_law04_SealKeys_8 s_law04_SealKeys_8 rfl rfl fun K hK => st_of ?_
      simp only [s_law04_SealKeys_8, wT, Bool.not_eq_true, ty, zr, Nat.reduceAdd, Nat.reduceSub, Nat.reduceMul, Nat.reduceMod, Nat.reduceDiv, Nat.reduceEqDiff, Nat.reduceLeDiff, Nat.reduceBEq, Int.reduceAdd, Int.reduceSub, Int.reduceMul, Int.reduceNeg, Int.reduceLT, Int.reduceLE, Int.reduceEq, Int.reduceNe, Int.reduceBEq, Int.reduceToNat, Int.reduceTDiv, Int.reduceTMod, Int.reduceOfNat, reduceCtorEq, sty]
      try simp (disch := first | omega | (simp only [List.length_set, List.length_replicate, List.length_append, List.length_nil]; done) | (simp only [List.length_set, List.length_replicate, List.length_append, List.length_nil]; omega)) only [tn_add, tn_mul, tn_sub, tn_div, tn_mod, Int.toNat_natCast, Int.reduceToNat, wrap_i64', wrap_u64', wrap_u32', wrap_u8', Int.tmod_eq_emod_of_nonneg, Int.tdiv_eq_ediv_of_nonneg, sub_one, sub_all, splice_all, List.length_set, List.length_replicate, List.length_append, List.length_nil]
      (repeat ((with_reducible refine And.intro ?_ ?_); (first | omega | exact True.intro | assumption | rfl)))
      refine st_mcall fun K1 hK1 => ?_
      simp only [calleeC, wT, Bool.not_eq_true, ty, zr, Nat.reduceAdd, Nat.reduceSub, Nat.reduceMul, Nat.reduceMod, Nat.reduceDiv, Nat.reduceEqDiff, Nat.reduceLeDiff, Nat.reduceBEq, Int.reduceAdd, Int.reduceSub, Int.reduceMul, Int.reduceNeg, Int.reduceLT, Int.reduceLE, Int.reduceEq, Int.reduceNe, Int.reduceBEq, Int.reduceToNat, Int.reduceTDiv, Int.reduceTMod, Int.reduceOfNat, reduceCtorEq, sty]
      try simp (disch := first | omega | (simp only [List.length_set, List.length_replicate, List.length_append, List.length_nil]; done) | (simp only [List.length_set, List.length_replicate, List.length_append, List.length_nil]; omega)) only [tn_add, tn_mul, tn_sub, tn_div, tn_mod, Int.toNat_natCast, Int.reduceToNat, wrap_i64', wrap_u64', wrap_u32', wrap_u8', Int.tmod_eq_emod_of_nonneg, Int.tdiv_eq_ediv_of_nonneg, sub_one, sub_all, splice_all, List.length_set, List.length_replicate, List.length_append, List.length_nil]
      refine hK1 _ _ ?_
      clear hK1 K1
      simp only [MutTo, AV.mapL, AV.map]
      refine ⟨[1, 3], [.ptr (.own 0) 0, .slice false (.ext (.ext x)) 0 n 1], [some (.mixed [.slice true (.own 1) 0 32 1]), some (.ints .u8 k)], _, _, by decide, by simp only [mutRows, mutRow, upM, Row.map, AV.map, AV.mapL, Row.All, AV.All, AV.AllL, inS]; (repeat' (first | exact trivial | rfl | omega | apply And.intro | simp)), by simp only [upM, List.map_cons, List.map_nil, AV.map, AV.mapL]; first | done | rfl, by simp only [AV.All, AV.AllL, inS]; (repeat' (first | exact trivial | rfl | omega | apply And.intro | simp)), writeN _ _ b k (sub b 0 n) A n 32 (32 + n) hb1 hk hA hAl (by simp only [Sy.look, hx, Option.map_some, Row.map]) 0 (by omega) rfl (by omega) _, ?_⟩
      simp only [afterM, setM, backM, List.drop_succ_cons, List.drop_zero, List.drop_nil, wT, Bool.not_eq_true, ty, zr, Nat.reduceAdd, Nat.reduceSub, Nat.reduceMul, Nat.reduceMod, Nat.reduceDiv, Nat.reduceEqDiff, Nat.reduceLeDiff, Nat.reduceBEq, Int.reduceAdd, Int.reduceSub, Int.reduceMul, Int.reduceNeg, Int.reduceLT, Int.reduceLE, Int.reduceEq, Int.reduceNe, Int.reduceBEq, Int.reduceToNat, Int.reduceTDiv, Int.reduceTMod, Int.reduceOfNat, reduceCtorEq, sty]
      try simp (disch := first | omega | (simp only [List.length_set, List.length_replicate, List.length_append, List.length_nil]; done) | (simp only [List.length_set, List.length_replicate, List.length_append, List.length_nil]; omega)) only [tn_add, tn_mul, tn_sub, tn_div, tn_mod, Int.toNat_natCast, Int.reduceToNat, wrap_i64', wrap_u64', wrap_u32', wrap_u8', Int.tmod_eq_emod_of_nonneg, Int.tdiv_eq_ediv_of_nonneg, sub_one, sub_all, splice_all, List.length_set, List.length_replicate, List.length_append, List.length_nil]
      (repeat ((with_reducible refine And.intro ?_ ?_); (first | omega | exact True.intro | assumption | rfl)))
      refine hK _ ?_; clear hK K
      refine AWp.reg p_law04_SealKeys_9 q_law04_SealKeys_9 s_law04_SealKeys_9 rfl rfl fun K hK => st_of ?_
      simp only [s_law04_SealKeys_9, wT, Bool.not_eq_true, ty, zr, Nat.reduceAdd, Nat.reduceSub, Nat.reduceMul, Nat.reduceMod, Nat.reduceDiv, Nat.reduceEqDiff, Nat.reduceLeDiff, Nat.reduceBEq, Int.reduceAdd, Int.reduceSub, Int.reduceMul, Int.reduceNeg, Int.reduceLT, Int.reduceLE, Int.reduceEq, Int.reduceNe, Int.reduceBEq, Int.reduceToNat, Int.reduceTDiv, Int.reduceTMod, Int.reduceOfNat, reduceCtorEq, sty]
      try simp (disch := first | omega | (simp only [List.length_set, List.length_replicate, List.length_append, List.length_nil]; done) | (simp only [List.length_set, List.length_replicate, List.length_append, List.length_nil]; omega)) only [tn_add, tn_mul, tn_sub, tn_div, tn_mod, Int.toNat_natCast, Int.reduceToNat, wrap_i64', wrap_u64', wrap_u32', wrap_u8', Int.tmod_eq_emod_of_nonneg, Int.tdiv_eq_ediv_of_nonneg, sub_one, sub_all, splice_all, List.length_set, List.length_replicate, List.length_append, List.length_nil]
      (repeat ((with_reducible refine And.intro ?_ ?_); (first | omega | exact True.intro | assumption | rfl)))
      refine st_mcall fun K1 hK1 => ?_
      simp only [calleeC, wT, Bool.not_eq_true, ty, zr, Nat.reduceAdd, Nat.reduceSub, Nat.reduceMul, Nat.reduceMod, Nat.reduceDiv, Nat.reduceEqDiff, Nat.reduceLeDiff, Nat.reduceBEq, Int.reduceAdd, Int.reduceSub, Int.reduceMul, Int.reduceNeg, Int.reduceLT, Int.reduceLE, Int.reduceEq, Int.reduceNe, Int.reduceBEq, Int.reduceToNat, Int.reduceTDiv, Int.reduceTMod, Int.reduceOfNat, reduceCtorEq, sty]
      try simp (disch := first | omega | (simp only [List.length_set, List.length_replicate, List.length_append, List.length_nil]; done) | (simp only [List.length_set, List.length_replicate, List.length_append, List.length_nil]; omega)) only [tn_add, tn_mul, tn_sub, tn_div, tn_mod, Int.toNat_natCast, Int.reduceToNat, wrap_i64', wrap_u64', wrap_u32', wrap_u8', Int.tmod_eq_emod_of_nonneg, Int.tdiv_eq_ediv_of_nonneg, sub_one, sub_all, splice_all, List.length_set, List.length_replicate, List.length_append, List.length_nil]
      refine hK1 _ _ ?_
      clear hK1 K1
      simp only [MutTo, AV.mapL, AV.map]
      refine ⟨[1, 4], [.ptr (.own 0) 0, .slice false (.ext (.ext x)) n (b.length - n) 1], [some (.mixed [.slice true (.own 1) 0 (32 + n) 1]), some (.ints .u8 A)], _, _, by decide, by simp only [mutRows, mutRow, upM, Row.map, AV.map, AV.mapL, Row.All, AV.All, AV.AllL, inS]; (repeat' (first | exact trivial | rfl | omega | apply And.intro | simp)), by simp only [upM, List.map_cons, List.map_nil, AV.map, AV.mapL]; first | done | rfl, by simp only [AV.All, AV.AllL, inS]; (repeat' (first | exact trivial | rfl | omega | apply And.intro | simp)), writeN _ _ b A (sub b n (b.length - n)) J (b.length - n) (32 + n) (32 + b.length) hb2 hAl hJ1 hJl (by simp only [Sy.look, hx, Option.map_some, Row.map]) n (by omega) rfl (by omega) _, ?_⟩
      simp only [afterM, setM, backM, List.drop_succ_cons, List.drop_zero, List.drop_nil, wT, Bool.not_eq_true, ty, zr, Nat.reduceAdd, Nat.reduceSub, Nat.reduceMul, Nat.reduceMod, Nat.reduceDiv, Nat.reduceEqDiff, Nat.reduceLeDiff, Nat.reduceBEq, Int.reduceAdd, Int.reduceSub, Int.reduceMul, Int.reduceNeg, Int.reduceLT, Int.reduceLE, Int.reduceEq, Int.reduceNe, Int.reduceBEq, Int.reduceToNat, Int.reduceTDiv, Int.reduceTMod, Int.reduceOfNat, reduceCtorEq, sty]
      try simp (disch := first | omega | (simp only [List.length_set, List.length_replicate, List.length_append, List.length_nil]; done) | (simp only [List.length_set, List.length_replicate, List.length_append, List.length_nil]; omega)) only [tn_add, tn_mul, tn_sub, tn_div, tn_mod, Int.toNat_natCast, Int.reduceToNat, wrap_i64', wrap_u64', wrap_u32', wrap_u8', Int.tmod_eq_emod_of_nonneg, Int.tdiv_eq_ediv_of_nonneg, sub_one, sub_all, splice_all, List.length_set, List.length_replicate, List.length_append, List.length_nil]
      (repeat ((with_reducible refine And.intro ?_ ?_); (first | omega | exact True.intro | assumption | rfl)))
      refine hK _ ?_; clear hK K
      refine AWp.reg p_law04_SealKeys_10 [] s_law04_SealKeys_10 rfl rfl fun K hK => st_of ?_
      simp only [s_law04_SealKeys_10, wT, Bool.not_eq_true, ty, zr, Nat.reduceAdd, Nat.reduceSub, Nat.reduceMul, Nat.reduceMod, Nat.reduceDiv, Nat.reduceEqDiff, Nat.reduceLeDiff, Nat.reduceBEq, Int.reduceAdd, Int.reduceSub, Int.reduceMul, Int.reduceNeg, Int.reduceLT, Int.reduceLE, Int.reduceEq, Int.reduceNe, Int.reduceBEq, Int.reduceToNat, Int.reduceTDiv, Int.reduceTMod, Int.reduceOfNat, reduceCtorEq, sty]
      try simp (disch := first | omega | (simp only [List.length_set, List.length_replicate, List.length_append, List.length_nil]; done) | (simp only [List.length_set, List.length_replicate, List.length_append, List.length_nil]; omega)) only [tn_add, tn_mul, tn_sub, tn_div, tn_mod, Int.toNat_natCast, Int.reduceToNat, wrap_i64', wrap_u64', wrap_u32', wrap_u8', Int.tmod_eq_emod_of_nonneg, Int.tdiv_eq_ediv_of_nonneg, sub_one, sub_all, splice_all, List.length_set, List.length_replicate, List.length_append, List.length_nil]
      (repeat ((with_reducible refine And.intro ?_ ?_); (first | omega | exact True.intro | assumption | rfl)))
      refine st_call fun K1 hK1 => ?_
      simp only [calleeC, wT, Bool.not_eq_true, ty, zr, Nat.reduceAdd, Nat.reduceSub, Nat.reduceMul, Nat.reduceMod, Nat.reduceDiv, Nat.reduceEqDiff, Nat.reduceLeDiff, Nat.reduceBEq, Int.reduceAdd, Int.reduceSub, Int.reduceMul, Int.reduceNeg, Int.reduceLT, Int.reduceLE, Int.reduceEq, Int.reduceNe, Int.reduceBEq, Int.reduceToNat, Int.reduceTDiv, Int.reduceTMod, Int.reduceOfNat, reduceCtorEq, sty]
      try simp (disch := first | omega | (simp only [List.length_set, List.length_replicate, List.length_append, List.length_nil]; done) | (simp only [List.length_set, List.length_replicate, List.length_append, List.length_nil]; omega)) only [tn_add, tn_mul, tn_sub, tn_div, tn_mod, Int.toNat_natCast, Int.reduceToNat, wrap_i64', wrap_u64', wrap_u32', wrap_u8', Int.tmod_eq_emod_of_nonneg, Int.tdiv_eq_ediv_of_nonneg, sub_one, sub_all, splice_all, List.length_set, List.length_replicate, List.length_append, List.length_nil]
      refine hK1 _ _ ?_
      clear hK1 K1
      simp only [CallTo, AV.mapL, AV.map]
      refine ⟨_, _, hsumN _ _ _ J true (32 + b.length) hJl rfl rfl (by omega), ?_⟩
      simp only [wT, Bool.not_eq_true, ty, zr, Nat.reduceAdd, Nat.reduceSub, Nat.reduceMul, Nat.reduceMod, Nat.reduceDiv, Nat.reduceEqDiff, Nat.reduceLeDiff, Nat.reduceBEq, Int.reduceAdd, Int.reduceSub, Int.reduceMul, Int.reduceNeg, Int.reduceLT, Int.reduceLE, Int.reduceEq, Int.reduceNe, Int.reduceBEq, Int.reduceToNat, Int.reduceTDiv, Int.reduceTMod, Int.reduceOfNat, reduceCtorEq, sty]
      try simp (disch := first | omega | (simp only [List.length_set, List.length_replicate, List.length_append, List.length_nil]; done) | (simp only [List.length_set, List.length_replicate, List.length_append, List.length_nil]; omega)) only [tn_add, tn_mul, tn_sub, tn_div, tn_mod, Int.toNat_natCast, Int.reduceToNat, wrap_i64', wrap_u64', wrap_u32', wrap_u8', Int.tmod_eq_emod_of_nonneg, Int.tdiv_eq_ediv_of_nonneg, sub_one, sub_all, splice_all, List.length_set, List.length_replicate, List.length_append, List.length_nil]
      (repeat ((with_reducible refine And.intro ?_ ?_); (first | omega | exact True.intro | assumption | rfl)))
      refine hK _ ?_; clear hK K
      refine AWp.reg p_law04_SealKeys_11 [] s_law04_SealKeys_11 rfl rfl fun K hK => st_of ?_
      simp only [s_law04_SealKeys_11, wT, Bool.not_eq_true, ty, zr, Nat.reduceAdd, Nat.reduceSub, Nat.reduceMul, Nat.reduceMod, Nat.reduceDiv, Nat.reduceEqDiff, Nat.reduceLeDiff, Nat.reduceBEq, Int.reduceAdd, Int.reduceSub, Int.reduceMul, Int.reduceNeg, Int.reduceLT, Int.reduceLE, Int.reduceEq, Int.reduceNe, Int.reduceBEq, Int.reduceToNat, Int.reduceTDiv, Int.reduceTMod, Int.reduceOfNat, reduceCtorEq, sty]
      try simp (disch := first | omega | (simp only [List.length_set, List.length_replicate, List.length_append, List.length_nil]; done) | (simp only [List.length_set, List.length_replicate, List.length_append, List.length_nil]; omega)) only [tn_add, tn_mul, tn_sub, tn_div, tn_mod, Int.toNat_natCast, Int.reduceToNat, wrap_i64', wrap_u64', wrap_u32', wrap_u8', Int.tmod_eq_emod_of_nonneg, Int.tdiv_eq_ediv_of_nonneg, sub_one, sub_all, splice_all, List.length_set, List.length_replicate, List.length_append, List.length_nil]
      (repeat ((with_reducible refine And.intro ?_ ?_); (first | omega | exact True.intro | assumption | rfl)))
      refine st_call fun K1 hK1 => ?_
      simp only [calleeC, wT, Bool.not_eq_true, ty, zr, Nat.reduceAdd, Nat.reduceSub, Nat.reduceMul, Nat.reduceMod, Nat.reduceDiv, Nat.reduceEqDiff, Nat.reduceLeDiff, Nat.reduceBEq, Int.reduceAdd, Int.reduceSub, Int.reduceMul, Int.reduceNeg, Int.reduceLT, Int.reduceLE, Int.reduceEq, Int.reduceNe, Int.reduceBEq, Int.reduceToNat, Int.reduceTDiv, Int.reduceTMod, Int.reduceOfNat, reduceCtorEq, sty]
      try simp (disch := first | omega | (simp only [List.length_set, List.length_replicate, List.length_append, List.length_nil]; done) | (simp only [List.length_set, List.length_replicate, List.length_append, List.length_nil]; omega)) only [tn_add, tn_mul, tn_sub, tn_div, tn_mod, Int.toNat_natCast, Int.reduceToNat, wrap_i64', wrap_u64', wrap_u32', wrap_u8', Int.tmod_eq_emod_of_nonneg, Int.tdiv_eq_ediv_of_nonneg, sub_one, sub_all, splice_all, List.length_set, List.length_replicate, List.length_append, List.length_nil]
      refine hK1 _ _ ?_
      clear hK1 K1
      simp only [CallTo, AV.mapL, AV.map]
      refine ⟨_, _, new_ok _, ?_⟩
      simp only [wT, Bool.not_eq_true, ty, zr, Nat.reduceAdd, Nat.reduceSub, Nat.reduceMul, Nat.reduceMod, Nat.reduceDiv, Nat.reduceEqDiff, Nat.reduceLeDiff, Nat.reduceBEq, Int.reduceAdd, Int.reduceSub, Int.reduceMul, Int.reduceNeg, Int.reduceLT, Int.reduceLE, Int.reduceEq, Int.reduceNe, Int.reduceBEq, Int.reduceToNat, Int.reduceTDiv, Int.reduceTMod, Int.reduceOfNat, reduceCtorEq, sty]
      try simp (disch := first | omega | (simp only [List.length_set, List.length_replicate, List.length_append, List.length_nil]; done) | (simp only [List.length_set, List.length_replicate, List.length_append, List.length_nil]; omega)) only [tn_add, tn_mul, tn_sub, tn_div, tn_mod, Int.toNat_natCast, Int.reduceToNat, wrap_i64', wrap_u64', wrap_u32', wrap_u8', Int.tmod_eq_emod_of_nonneg, Int.tdiv_eq_ediv_of_nonneg, sub_one, sub_all, splice_all, List.length_set, List.length_replicate, List.length_append, List.length_nil]
      (repeat ((with_reducible refine And.intro ?_ ?_); (first | omega | exact True.intro | assumption | rfl)))
      refine hK _ ?_; clear hK K
      refine AWp.reg p_law04_SealKeys_12 q_law04_SealKeys_12 s_law04_SealKeys_12 rfl rfl fun K hK => st_of ?_
      simp only [s_law04_SealKeys_12, wT, Bool.not_eq_true, ty, zr, Nat.reduceAdd, Nat.reduceSub, Nat.reduceMul, Nat.reduceMod, Nat.reduceDiv, Nat.reduceEqDiff, Nat.reduceLeDiff, Nat.reduceBEq, Int.reduceAdd, Int.reduceSub, Int.reduceMul, Int.reduceNeg, Int.reduceLT, Int.reduceLE, Int.reduceEq, Int.reduceNe, Int.reduceBEq, Int.reduceToNat, Int.reduceTDiv, Int.reduceTMod, Int.reduceOfNat, reduceCtorEq, sty]
      try simp (disch := first | omega | (simp only [List.length_set, List.length_replicate, List.length_append, List.length_nil]; done) | (simp only [List.length_set, List.length_replicate, List.length_append, List.length_nil]; omega)) only [tn_add, tn_mul, tn_sub, tn_div, tn_mod, Int.toNat_natCast, Int.reduceToNat, wrap_i64', wrap_u64', wrap_u32', wrap_u8', Int.tmod_eq_emod_of_nonneg, Int.tdiv_eq_ediv_of_nonneg, sub_one, sub_all, splice_all, List.length_set, List.length_replicate, List.length_append, List.length_nil]
      (repeat ((with_reducible refine And.intro ?_ ?_); (first | omega | exact True.intro | assumption | rfl)))
      refine st_mcall fun K1 hK1 => ?_
      simp only [calleeC, wT, Bool.not_eq_true, ty, zr, Nat.reduceAdd, Nat.reduceSub, Nat.reduceMul, Nat.reduceMod, Nat.reduceDiv, Nat.reduceEqDiff, Nat.reduceLeDiff, Nat.reduceBEq, Int.reduceAdd, Int.reduceSub, Int.reduceMul, Int.reduceNeg, Int.reduceLT, Int.reduceLE, Int.reduceEq, Int.reduceNe, Int.reduceBEq, Int.reduceToNat, Int.reduceTDiv, Int.reduceTMod, Int.reduceOfNat, reduceCtorEq, sty]
      try simp (disch := first | omega | (simp only [List.length_set, List.length_replicate, List.length_append, List.length_nil]; done) | (simp only [List.length_set, List.length_replicate, List.length_append, List.length_nil]; omega)) only [tn_add, tn_mul, tn_sub, tn_div, tn_mod, Int.toNat_natCast, Int.reduceToNat, wrap_i64', wrap_u64', wrap_u32', wrap_u8', Int.tmod_eq_emod_of_nonneg, Int.tdiv_eq_ediv_of_nonneg, sub_one, sub_all, splice_all, List.length_set, List.length_replicate, List.length_append, List.length_nil]
      refine hK1 _ _ ?_
      clear hK1 K1
      simp only [MutTo, AV.mapL, AV.map]
      refine ⟨[7, 8], [.ptr (.own 0) 0, .slice false (.ext (.own 0)) 0 32 1], [some (.mixed [.slice true (.own 1) 0 0 1]), some (.ints .u8 [])], _, _, by decide, by simp only [mutRows, mutRow, upM, Row.map, AV.map, AV.mapL, Row.All, AV.All, AV.AllL, inS]; (repeat' (first | exact trivial | rfl | omega | apply And.intro | simp)), by simp only [upM, List.map_cons, List.map_nil, AV.map, AV.mapL]; first | done | rfl, by simp only [AV.All, AV.AllL, inS]; (repeat' (first | exact trivial | rfl | omega | apply And.intro | simp)), writeN _ _ k [] k k 32 0 32 hk rfl rfl hk rfl 0 (by omega) hkk (by omega) _, ?_⟩
      simp only [afterM, setM, backM, List.drop_succ_cons, List.drop_zero, List.drop_nil, wT, Bool.not_eq_true, ty, zr, Nat.reduceAdd, Nat.reduceSub, Nat.reduceMul, Nat.reduceMod, Nat.reduceDiv, Nat.reduceEqDiff, Nat.reduceLeDiff, Nat.reduceBEq, Int.reduceAdd, Int.reduceSub, Int.reduceMul, Int.reduceNeg, Int.reduceLT, Int.reduceLE, Int.reduceEq, Int.reduceNe, Int.reduceBEq, Int.reduceToNat, Int.reduceTDiv, Int.reduceTMod, Int.reduceOfNat, reduceCtorEq, sty]
      try simp (disch := first | omega | (simp only [List.length_set, List.length_replicate, List.length_append, List.length_nil]; done) | (simp only [List.length_set, List.length_replicate, List.length_append, List.length_nil]; omega)) only [tn_add, tn_mul, tn_sub, tn_div, tn_mod, Int.toNat_natCast, Int.reduceToNat, wrap_i64', wrap_u64', wrap_u32', wrap_u8', Int.tmod_eq_emod_of_nonneg, Int.tdiv_eq_ediv_of_nonneg, sub_one, sub_all, splice_all, List.length_set, List.length_replicate, List.length_append, List.length_nil]
      (repeat ((with_reducible refine And.intro ?_ ?_); (first | omega | exact True.intro | assumption | rfl)))
      refine hK _ ?_; clear hK K
      refine AWp.reg p_law04_SealKeys_13 q_law04_SealKeys_13 s_law04_SealKeys_13 rfl rfl fun K hK => st_of ?_
      simp only [s_law04_SealKeys_13, wT, Bool.not_eq_true, ty, zr, Nat.reduceAdd, Nat.reduceSub, Nat.reduceMul, Nat.reduceMod, Nat.reduceDiv, Nat.reduceEqDiff, Nat.reduceLeDiff, Nat.reduceBEq, Int.reduceAdd, Int.reduceSub, Int.reduceMul, Int.reduceNeg, Int.reduceLT, Int.reduceLE, Int.reduceEq, Int.reduceNe, Int.reduceBEq, Int.reduceToNat, Int.reduceTDiv, Int.reduceTMod, Int.reduceOfNat, reduceCtorEq, sty]
      try simp (disch := first | omega | (simp only [List.length_set, List.length_replicate, List.length_append, List.length_nil]; done) | (simp only [List.length_set, List.length_replicate, List.length_append, List.length_nil]; omega)) only [tn_add, tn_mul, tn_sub, tn_div, tn_mod, Int.toNat_natCast, Int.reduceToNat, wrap_i64', wrap_u64', wrap_u32', wrap_u8', Int.tmod_eq_emod_of_nonneg, Int.tdiv_eq_ediv_of_nonneg, sub_one, sub_all, splice_all, List.length_set, List.length_replicate, List.length_append, List.length_nil]
      (repeat ((with_reducible refine And.intro ?_ ?_); (first | omega | exact True.intro | assumption | rfl)))
      refine st_mcall fun K1 hK1 => ?_
      simp only [calleeC, wT, Bool.not_eq_true, ty, zr, Nat.reduceAdd, Nat.reduceSub, Nat.reduceMul, Nat.reduceMod, Nat.reduceDiv, Nat.reduceEqDiff, Nat.reduceLeDiff, Nat.reduceBEq, Int.reduceAdd, Int.reduceSub, Int.reduceMul, Int.reduceNeg, Int.reduceLT, Int.reduceLE, Int.reduceEq, Int.reduceNe, Int.reduceBEq, Int.reduceToNat, Int.reduceTDiv, Int.reduceTMod, Int.reduceOfNat, reduceCtorEq, sty]
      try simp (disch := first | omega | (simp only [List.length_set, List.length_replicate, List.length_append, List.length_nil]; done) | (simp only [List.length_set, List.length_replicate, List.length_append, List.length_nil]; omega)) only [tn_add, tn_mul, tn_sub, tn_div, tn_mod, Int.toNat_natCast, Int.reduceToNat, wrap_i64', wrap_u64', wrap_u32', wrap_u8', Int.tmod_eq_emod_of_nonneg, Int.tdiv_eq_ediv_of_nonneg, sub_one, sub_all, splice_all, List.length_set, List.length_replicate, List.length_append, List.length_nil]
      refine hK1 _ _ ?_
      clear hK1 K1
      simp only [MutTo, AV.mapL, AV.map]
      refine ⟨[7, 9], [.ptr (.own 0) 0, .slice false (.ext (.own 6)) 0 32 1], [some (.mixed [.slice true (.own 1) 0 32 1]), some (.ints .u8 k)], _, _, by decide, by simp only [mutRows, mutRow, upM, Row.map, AV.map, AV.mapL, Row.All, AV.All, AV.AllL, inS]; (repeat' (first | exact trivial | rfl | omega | apply And.intro | simp)), by simp only [upM, List.map_cons, List.map_nil, AV.map, AV.mapL]; first | done | rfl, by simp only [AV.All, AV.AllL, inS]; (repeat' (first | exact trivial | rfl | omega | apply And.intro | simp)), writeN _ _ (sumL J) k (sumL J) I 32 32 (32 + 32) hsl hk hI hIl rfl 0 (by omega) hss (by omega) _, ?_⟩
      simp only [afterM, setM, backM, List.drop_succ_cons, List.drop_zero, List.drop_nil, wT, Bool.not_eq_true, ty, zr, Nat.reduceAdd, Nat.reduceSub, Nat.reduceMul, Nat.reduceMod, Nat.reduceDiv, Nat.reduceEqDiff, Nat.reduceLeDiff, Nat.reduceBEq, Int.reduceAdd, Int.reduceSub, Int.reduceMul, Int.reduceNeg, Int.reduceLT, Int.reduceLE, Int.reduceEq, Int.reduceNe, Int.reduceBEq, Int.reduceToNat, Int.reduceTDiv, Int.reduceTMod, Int.reduceOfNat, reduceCtorEq, sty]
      try simp (disch := first | omega | (simp only [List.length_set, List.length_replicate, List.length_append, List.length_nil]; done) | (simp only [List.length_set, List.length_replicate, List.length_append, List.length_nil]; omega)) only [tn_add, tn_mul, tn_sub, tn_div, tn_mod, Int.toNat_natCast, Int.reduceToNat, wrap_i64', wrap_u64', wrap_u32', wrap_u8', Int.tmod_eq_emod_of_nonneg, Int.tdiv_eq_ediv_of_nonneg, sub_one, sub_all, splice_all, List.length_set, List.length_replicate, List.length_append, List.length_nil]
      (repeat ((with_reducible refine And.intro ?_ ?_); (first | omega | exact True.intro | assumption | rfl)))
      refine hK _ ?_; clear hK K
      refine AWp.reg p_law04_SealKeys_14 [] s_law04_SealKeys_14 rfl rfl fun K hK => st_of ?_
      simp only [s_law04_SealKeys_14, wT, Bool.not_eq_true, ty, zr, Nat.reduceAdd, Nat.reduceSub, Nat.reduceMul, Nat.reduceMod, Nat.reduceDiv, Nat.reduceEqDiff, Nat.reduceLeDiff, Nat.reduceBEq, Int.reduceAdd, Int.reduceSub, Int.reduceMul, Int.reduceNeg, Int.reduceLT, Int.reduceLE, Int.reduceEq, Int.reduceNe, Int.reduceBEq, Int.reduceToNat, Int.reduceTDiv, Int.reduceTMod, Int.reduceOfNat, reduceCtorEq, sty]
      try simp (disch := first | omega | (simp only [List.length_set, List.length_replicate, List.length_append, List.length_nil]; done) | (simp only [List.length_set, List.length_replicate, List.length_append, List.length_nil]; omega)) only [tn_add, tn_mul, tn_sub, tn_div, tn_mod, Int.toNat_natCast, Int.reduceToNat, wrap_i64', wrap_u64', wrap_u32', wrap_u8', Int.tmod_eq_emod_of_nonneg, Int.tdiv_eq_ediv_of_nonneg, sub_one, sub_all, splice_all, List.length_set, List.length_replicate, List.length_append, List.length_nil]
      (repeat ((with_reducible refine And.intro ?_ ?_); (first | omega | exact True.intro | assumption | rfl)))
      refine st_call fun K1 hK1 => ?_
      simp only [calleeC, wT, Bool.not_eq_true, ty, zr, Nat.reduceAdd, Nat.reduceSub, Nat.reduceMul, Nat.reduceMod, Nat.reduceDiv, Nat.reduceEqDiff, Nat.reduceLeDiff, Nat.reduceBEq, Int.reduceAdd, Int.reduceSub, Int.reduceMul, Int.reduceNeg, Int.reduceLT, Int.reduceLE, Int.reduceEq, Int.reduceNe, Int.reduceBEq, Int.reduceToNat, Int.reduceTDiv, Int.reduceTMod, Int.reduceOfNat, reduceCtorEq, sty]
      try simp (disch := first | omega | (simp only [List.length_set, List.length_replicate, List.length_append, List.length_nil]; done) | (simp only [List.length_set, List.length_replicate, List.length_append, List.length_nil]; omega)) only [tn_add, tn_mul, tn_sub, tn_div, tn_mod, Int.toNat_natCast, Int.reduceToNat, wrap_i64', wrap_u64', wrap_u32', wrap_u8', Int.tmod_eq_emod_of_nonneg, Int.tdiv_eq_ediv_of_nonneg, sub_one, sub_all, splice_all, List.length_set, List.length_replicate, List.length_append, List.length_nil]
      refine hK1 _ _ ?_
      clear hK1 K1
      simp only [CallTo, AV.mapL, AV.map]
      refine ⟨_, _, hsumN _ _ _ I true (32 + 32) hIl rfl rfl (by omega), ?_⟩
      simp only [wT, Bool.not_eq_true, ty, zr, Nat.reduceAdd, Nat.reduceSub, Nat.reduceMul, Nat.reduceMod, Nat.reduceDiv, Nat.reduceEqDiff, Nat.reduceLeDiff, Nat.reduceBEq, Int.reduceAdd, Int.reduceSub, Int.reduceMul, Int.reduceNeg, Int.reduceLT, Int.reduceLE, Int.reduceEq, Int.reduceNe, Int.reduceBEq, Int.reduceToNat, Int.reduceTDiv, Int.reduceTMod, Int.reduceOfNat, reduceCtorEq, sty]
      try simp (disch := first | omega | (simp only [List.length_set, List.length_replicate, List.length_append, List.length_nil]; done) | (simp only [List.length_set, List.length_replicate, List.length_append, List.length_nil]; omega)) only [tn_add, tn_mul, tn_sub, tn_div, tn_mod, Int.toNat_natCast, Int.reduceToNat, wrap_i64', wrap_u64', wrap_u32', wrap_u8', Int.tmod_eq_emod_of_nonneg, Int.tdiv_eq_ediv_of_nonneg, sub_one, sub_all, splice_all, List.length_set, List.length_replicate, List.length_append, List.length_nil]
      (repeat ((with_reducible refine And.intro ?_ ?_); (first | omega | exact True.intro | assumption | rfl)))
      refine hK _ ?_; clear hK K
      refine AWp.drwP mix p_law04_SealKeys_15 q_law04_SealKeys_15 g_law04_SealKeys_15 s_law04_SealKeys_15 rfl (by decide +kernel) fun K hK => sp_of ?_
      simp only [s_law04_SealKeys_15, wT, Bool.not_eq_true, ty, zr, Nat.reduceAdd, Nat.reduceSub, Nat.reduceMul, Nat.reduceMod, Nat.reduceDiv, Nat.reduceEqDiff, Nat.reduceLeDiff, Nat.reduceBEq, Int.reduceAdd, Int.reduceSub, Int.reduceMul, Int.reduceNeg, Int.reduceLT, Int.reduceLE, Int.reduceEq, Int.reduceNe, Int.reduceBEq, Int.reduceToNat, Int.reduceTDiv, Int.reduceTMod, Int.reduceOfNat, reduceCtorEq, sty]
      try simp (disch := first | omega | (simp only [List.length_set, List.length_replicate, List.length_append, List.length_nil]; done) | (simp only [List.length_set, List.length_replicate, List.length_append, List.length_nil]; omega)) only [tn_add, tn_mul, tn_sub, tn_div, tn_mod, Int.toNat_natCast, Int.reduceToNat, wrap_i64', wrap_u64', wrap_u32', wrap_u8', Int.tmod_eq_emod_of_nonneg, Int.tdiv_eq_ediv_of_nonneg, sub_one, sub_all, splice_all, List.length_set, List.length_replicate, List.length_append, List.length_nil]
      (repeat ((with_reducible refine And.intro ?_ ?_); (first | omega | exact True.intro | assumption | rfl)))
      refine sp_call fun K1 hK1 => ?_
      simp only [calleeC, wT, Bool.not_eq_true, ty, zr, Nat.reduceAdd, Nat.reduceSub, Nat.reduceMul, Nat.reduceMod, Nat.reduceDiv, Nat.reduceEqDiff, Nat.reduceLeDiff, Nat.reduceBEq, Int.reduceAdd, Int.reduceSub, Int.reduceMul, Int.reduceNeg, Int.reduceLT, Int.reduceLE, Int.reduceEq, Int.reduceNe, Int.reduceBEq, Int.reduceToNat, Int.reduceTDiv, Int.reduceTMod, Int.reduceOfNat, reduceCtorEq, sty]
      try simp (disch := first | omega | (simp only [List.length_set, List.length_replicate, List.length_append, List.length_nil]; done) | (simp only [List.length_set, List.length_replicate, List.length_append, List.length_nil]; omega)) only [tn_add, tn_mul, tn_sub, tn_div, tn_mod, Int.toNat_natCast, Int.reduceToNat, wrap_i64', wrap_u64', wrap_u32', wrap_u8', Int.tmod_eq_emod_of_nonneg, Int.tdiv_eq_ediv_of_nonneg, sub_one, sub_all, splice_all, List.length_set, List.length_replicate, List.length_append, List.length_nil]
      refine hK1 _ _ ?_
      clear hK1 K1
      simp only [CallTo, AV.mapL, AV.map]
      refine ⟨_, _, seal_sum_ok _ k hk _ b b (by simp only [Sy.look, hx, Option.map_some, Row.map]) 0 (by omega) hs0 (by omega) _, ?_⟩
      simp only [hJ, hI, wT, Bool.not_eq_true, ty, zr, Nat.reduceAdd, Nat.reduceSub, Nat.reduceMul, Nat.reduceMod, Nat.reduceDiv, Nat.reduceEqDiff, Nat.reduceLeDiff, Nat.reduceBEq, Int.reduceAdd, Int.reduceSub, Int.reduceMul, Int.reduceNeg, Int.reduceLT, Int.reduceLE, Int.reduceEq, Int.reduceNe, Int.reduceBEq, Int.reduceToNat, Int.reduceTDiv, Int.reduceTMod, Int.reduceOfNat, reduceCtorEq, sty]
      try simp (disch := first | omega | (simp only [List.length_set, List.length_replicate, List.length_append, List.length_nil]; done) | (simp only [List.length_set, List.length_replicate, List.length_append, List.length_nil]; omega)) only [tn_add, tn_mul, tn_sub, tn_div, tn_mod, Int.toNat_natCast, Int.reduceToNat, wrap_i64', wrap_u64', wrap_u32', wrap_u8', Int.tmod_eq_emod_of_nonneg, Int.tdiv_eq_ediv_of_nonneg, sub_one, sub_all, splice_all, List.length_set, List.length_replicate, List.length_append, List.length_nil]
      (repeat ((with_reducible refine And.intro ?_ ?_); (first | omega | exact True.intro | assumption | rfl)))
      refine hK _ ?_; clear hK K
      refine AWp.ret ?_
      try simp only [thenQ, bq, lq, lf, iq, gq, Nat.reduceEqDiff, if_true, if_false]
      simp only [endQ, rs_law04_SealKeys, resC, one, wT, Bool.not_eq_true, ty, zr, Nat.reduceAdd, Nat.reduceSub, Nat.reduceMul, Nat.reduceMod, Nat.reduceDiv, Nat.reduceEqDiff, Nat.reduceLeDiff, Nat.reduceBEq, Int.reduceAdd, Int.reduceSub, Int.reduceMul, Int.reduceNeg, Int.reduceLT, Int.reduceLE, Int.reduceEq, Int.reduceNe, Int.reduceBEq, Int.reduceToNat, Int.reduceTDiv, Int.reduceTMod, Int.reduceOfNat, reduceCtorEq, sty]
      try simp (disch := first | omega | (simp only [List.length_set, List.length_replicate, List.length_append, List.length_nil]; done) | (simp only [List.length_set, List.length_replicate, List.length_append, List.length_nil]; omega)) only [tn_add, tn_mul, tn_sub, tn_div, tn_mod, Int.toNat_natCast, Int.reduceToNat, wrap_i64', wrap_u64', wrap_u32', wrap_u8', Int.tmod_eq_emod_of_nonneg, Int.tdiv_eq_ediv_of_nonneg, sub_one, sub_all, splice_all, List.length_set, List.length_replicate, List.length_append, List.length_nil]
      repeat' (first | exact True.intro | (with_reducible rfl) | (with_reducible apply And.intro) | omega | rfl)
theorem law_ins (ins : List In) (h : insFit Try.prog [31, 24, 5] ins) : FnOk Try.prog 8 (insE ins) (insAv 0 ins) [] (.bool true) [] := by
  match ins, h with
  | [i0, i1, i2], h =>
    obtain ⟨k, rfl, hk, wk⟩ := fits_arr Try.underlying31 Try.underlying5 h.1
    obtain ⟨b, rfl, hb, wb⟩ := fits_slc Try.underlying24 Try.underlying5 h.2.1
    have bb : b.length ≤ 9223372036854775807 := (by have e : Try.prog.bytesOf 5 = 1 := (by kernel_rfl); have := reach_le; rw [e] at hb; omega)
    obtain ⟨y, rfl, wy⟩ := fits_int Try.underlying5 h.2.2.1
    by_cases h1 : 200 < b.length
    · exact law_long _ k hk 1 b y h1
    · have := wf_u8 wy
      obtain ⟨z, rfl⟩ : ∃ z : Nat, y = z := ⟨y.toNat, by omega⟩
      exact law_ok _ k hk 1 b z rfl (by omega) (by omega)
open Go.ChangeShapes Go.WideShapes Go.ChangeAt Go.RowKit
theorem own : ownKnob Try.prog.godebug = none := by kernel_rfl
theorem laidOut : laidOutB Try.prog = true := by kernel_rfl
set_option maxRecDepth 100000 in
theorem lifted (os : Os) (started : os.Started) (H : Type) (enc : TypeId × Value → H) :
    ReturnsInHanded {} Try.checked os 8 .any (Rows.sealKeysSpec.pre6 enc Try.prog Try.f8 Rows.sealKeysRow.domain false) (Rows.sealKeysSpec.post enc Try.prog Try.f8 false true false false) := by
  refine returnsInHanded_of_change_sized (C := Try.checked) own started (by kernel_rfl) Try.func8
    (ChangeSpec.witness6 (enc := enc) (C := Try.checked) false ⟨#[], #[.agg #[.int .u8 0, .int .u8 0, .int .u8 0, .int .u8 0, .int .u8 0, .int .u8 0, .int .u8 0, .int .u8 0, .int .u8 0, .int .u8 0, .int .u8 0, .int .u8 0, .int .u8 0, .int .u8 0, .int .u8 0, .int .u8 0, .int .u8 0, .int .u8 0, .int .u8 0, .int .u8 0, .int .u8 0, .int .u8 0, .int .u8 0, .int .u8 0, .int .u8 0, .int .u8 0, .int .u8 0, .int .u8 0, .int .u8 0, .int .u8 0, .int .u8 0, .int .u8 0], .slice none 0 0, .int .u8 0], []⟩ 8 (by kernel_rfl) (by kernel_rfl) (by kernel_rfl) (by kernel_rfl)) ?_
  intro W base args ds gs before hval0 hW hcnd hsz _
  have hW' := hW
  obtain ⟨p, q, hA, hV, rfl, hfz, hnd⟩ := hW
  obtain ⟨rfl, rfl⟩ := trodVars_none hV
  have hA2 := hA
  rw [Try.params8] at hA2
  obtain ⟨ins, hfit, hins⟩ := open_all (P := Try.prog) (W := W) (ts := Try.f8.params.toList) (r := .any) (b0 := base) (by kernel_rfl)
    (fun j t v h1 h2 => hval0 j t v (by simpa using h1) (by simpa using h2))
    (fun j t el sp h1 h2 e he => sized_slice hsz (j := j) (by rw [List.getElem?_append_left (List.getElem?_eq_some_iff.1 h1).1]; exact h1) (by rw [List.getElem?_append_left (List.getElem?_eq_some_iff.1 h2).1]; exact h2) he) hA
  rw [Try.params8] at hfit
  obtain ⟨v0, vs0, d0, ds0, p0, q0, ha0, rfl, hp0, k0, r0⟩ := trodAll_cons hA2
  obtain ⟨v1, vs1, d1, ds1, p1, q1, ha1, rfl, hp1, k1, r1⟩ := trodAll_cons r0
  obtain ⟨v2, vs2, d2, ds2, p2, q2, ha2, rfl, hp2, k2, r2⟩ := trodAll_cons r1
  obtain ⟨_, rfl, _⟩ := trodAll_nil r2
  refine (law_calls (law_ins ins hfit) trivial hins).mono fun e W' ⟨v, he, hv, bel⟩ => ?_
  cases hv
  subst he
  exact ⟨_, rfl, _, _, _, [], _, [], hW', trodAll_mk1 (shut_bool Try.underlying4 _), shut_all laidOut bel (by kernel_rfl) hA, rfl, bel.frame _, fun h => by cases h⟩

theorem over : Rows.sealKeysRow.holds Try.pinned (OpenSpec.ofChange Rows.sealKeysSpec) :=
  OpenClaim.holds_of_wide 8 Try.f8 rfl rfl rfl rfl rfl rfl rfl ⟨rfl, rfl, rfl, rfl, rfl⟩ rfl rfl rfl rfl rfl (by kernel_rfl) Try.func8 (by kernel_rfl)
    (of_decide_eq_true (by kernel_rfl)) (by unfold Func.isWrapper; first | (rw [if_pos (by decide +kernel)]; kernel_rfl) | (rw [if_neg (by decide +kernel)]; exact ⟨rfl, rfl⟩))
    (fun os started H enc _ => lifted os started H enc)

/-- The statement. -/
theorem proved : Rows.SealKeysSaid := over
end Go.Proofs.Ytgnimdcikndifaa
