/-
  PROVED: 'erewhilelaw47.MerkleNear' returns true for every input and leaves its arguments as they were. No condition.
-/
import Derived.Test.YtdcbgmbpiekbgaaMerN
import Derived.Test.YtdcbgmbpiekbgaaRows
import Derived.WalkKit
import Derived.ProofKit
namespace Go.Proofs.Ytdcbgmbpiekbgaa
open Go Go.Proofs.Ytdcbgmbpiekbgaa.Sy
set_option linter.unusedSimpArgs false
set_option linter.unusedVariables false
set_option maxRecDepth 100000
set_option maxHeartbeats 4000000


theorem leRows_pre {α : Type} {k : Nat} {post : Sy.Rows α} : ∀ {rows : Sy.Rows α}, (∀ r, some r ∈ rows → r.All (inS k)) → leRows k (rows ++ post) rows
  | [], _ => by cases post <;> simp [leRows]
  | none :: rs, h => by
    rw [List.cons_append]
    unfold leRows
    exact ⟨trivial, leRows_pre fun r hr => h r (List.mem_cons_of_mem _ hr)⟩
  | some q :: rs, h => by
    rw [List.cons_append]
    unfold leRows
    exact ⟨⟨rfl, h q (List.mem_cons_self ..)⟩, leRows_pre fun r hr => h r (List.mem_cons_of_mem _ hr)⟩
theorem law_long {α : Type} (E : α → Option (Row α)) (y : List Int) (hy : y.length = 16) (x : α) (m : Nat) (i : Int) (bb : m = 0 ∨ 40 < m) :
    FnOk Try.prog n_law47_MerkleNear E [.slice false (.ext x) 0 m 16, .int .u8 i, .ints .u8 y] [] (.bool true) [] := by
  refine FnOk.pure func_law47_MerkleNear call_law47_MerkleNear (body := _) rfl nt_law47_MerkleNear (by simp) (by simp [AV.solid, AV.solidL]) ?_
  refine AWp.reg p_law47_MerkleNear_0 [] s_law47_MerkleNear_0 rfl rfl fun K hK => st_of ?_
  simp only [s_law47_MerkleNear_0, wT, Bool.not_eq_true, ty, zr, Nat.reduceAdd, Nat.reduceSub, Nat.reduceMul, Nat.reduceMod, Nat.reduceDiv, Nat.reduceEqDiff, Nat.reduceLeDiff, Nat.reduceBEq, Int.reduceAdd, Int.reduceSub, Int.reduceMul, Int.reduceNeg, Int.reduceLT, Int.reduceLE, Int.reduceEq, Int.reduceNe, Int.reduceBEq, Int.reduceToNat, Int.reduceTDiv, Int.reduceTMod, Int.reduceOfNat, reduceCtorEq, sty, sui]
  refine hK _ ?_; clear hK K
  refine AWp.grp fun G4 hG4 => ?_
  refine AWp.reg p_law47_MerkleNear_1 [] s_law47_MerkleNear_1 rfl rfl fun K hK => st_of ?_
  simp only [s_law47_MerkleNear_1, wT, Bool.not_eq_true, ty, zr, Nat.reduceAdd, Nat.reduceSub, Nat.reduceMul, Nat.reduceMod, Nat.reduceDiv, Nat.reduceEqDiff, Nat.reduceLeDiff, Nat.reduceBEq, Int.reduceAdd, Int.reduceSub, Int.reduceMul, Int.reduceNeg, Int.reduceLT, Int.reduceLE, Int.reduceEq, Int.reduceNe, Int.reduceBEq, Int.reduceToNat, Int.reduceTDiv, Int.reduceTMod, Int.reduceOfNat, reduceCtorEq, sty, sui]
  refine st_call fun K1 hK1 => ?_
  simp only [calleeC, wT, Bool.not_eq_true, ty, zr, Nat.reduceAdd, Nat.reduceSub, Nat.reduceMul, Nat.reduceMod, Nat.reduceDiv, Nat.reduceEqDiff, Nat.reduceLeDiff, Nat.reduceBEq, Int.reduceAdd, Int.reduceSub, Int.reduceMul, Int.reduceNeg, Int.reduceLT, Int.reduceLE, Int.reduceEq, Int.reduceNe, Int.reduceBEq, Int.reduceToNat, Int.reduceTDiv, Int.reduceTMod, Int.reduceOfNat, reduceCtorEq, sty, sui]
  refine hK1 _ _ ?_
  clear hK1 K1
  simp only [CallTo, AV.mapL, AV.map, mapL_flat, mapL_flat1]
  refine ⟨_, _, awake_ok _, ?_⟩
  simp only [wT, Bool.not_eq_true, ty, zr, Nat.reduceAdd, Nat.reduceSub, Nat.reduceMul, Nat.reduceMod, Nat.reduceDiv, Nat.reduceEqDiff, Nat.reduceLeDiff, Nat.reduceBEq, Int.reduceAdd, Int.reduceSub, Int.reduceMul, Int.reduceNeg, Int.reduceLT, Int.reduceLE, Int.reduceEq, Int.reduceNe, Int.reduceBEq, Int.reduceToNat, Int.reduceTDiv, Int.reduceTMod, Int.reduceOfNat, reduceCtorEq, sty, sui]
  refine hK _ ?_; clear hK K
  refine AWp.iteE rfl (fun hb => ?_) (fun hb => ?_)
  · try simp only [decide_eq_true_eq, decide_eq_false_iff_not, beq_iff_eq, bne_iff_ne, ne_eq, Bool.not_eq_true, beq_eq_false_iff_ne, bne_eq_false_iff_eq, Bool.not_eq_false, Bool.not_eq_eq_eq_not, Bool.not_true, Bool.not_false] at hb
    (first | exact absurd trivial hb | exact absurd rfl hb | cases hb | (exfalso; omega) | (simp at hb; done))
  · try simp only [decide_eq_true_eq, decide_eq_false_iff_not, beq_iff_eq, bne_iff_ne, ne_eq, Bool.not_eq_true, beq_eq_false_iff_ne, bne_eq_false_iff_eq, Bool.not_eq_false, Bool.not_eq_eq_eq_not, Bool.not_true, Bool.not_false] at hb
    refine AWp.skip ?_
    try simp only [thenQ, bq, lq, lf, iq, gq, Nat.reduceEqDiff, if_true, if_false]
    refine hG4 _ ?_
    try clear hG4 G4
    refine AWp.grp fun G25 hG25 => ?_
    refine AWp.regJ p_law47_MerkleNear_3 [] s_law47_MerkleNear_3 ⟨[(27, .bool true)], []⟩ rfl rfl (fun K hK => st_of ?_) ?_
    · simp only [s_law47_MerkleNear_3, wT, Bool.not_eq_true, ty, zr, Nat.reduceAdd, Nat.reduceSub, Nat.reduceMul, Nat.reduceMod, Nat.reduceDiv, Nat.reduceEqDiff, Nat.reduceLeDiff, Nat.reduceBEq, Int.reduceAdd, Int.reduceSub, Int.reduceMul, Int.reduceNeg, Int.reduceLT, Int.reduceLE, Int.reduceEq, Int.reduceNe, Int.reduceBEq, Int.reduceToNat, Int.reduceTDiv, Int.reduceTMod, Int.reduceOfNat, reduceCtorEq, sty, sui]
      refine ⟨fun h1 => ?_, fun h1 => ?_⟩
      · exact hK _ (Le.ofA)
      · rw [show decide ((m : Int) > 40) = true from decide_eq_true (by have := beq_eq_false_iff_ne.1 h1; omega)]
        exact hK _ (Le.ofA)
    refine AWp.iteE rfl (fun hb => ?_) (fun hb => ?_)
    · try simp only [decide_eq_true_eq, decide_eq_false_iff_not, beq_iff_eq, bne_iff_ne, ne_eq, Bool.not_eq_true, beq_eq_false_iff_ne, bne_eq_false_iff_eq, Bool.not_eq_false, Bool.not_eq_eq_eq_not, Bool.not_true, Bool.not_false] at hb
      refine AWp.reg p_law47_MerkleNear_4 [] s_law47_MerkleNear_4 rfl rfl fun K hK => st_of ?_
      simp only [s_law47_MerkleNear_4, wT, Bool.not_eq_true, ty, zr, Nat.reduceAdd, Nat.reduceSub, Nat.reduceMul, Nat.reduceMod, Nat.reduceDiv, Nat.reduceEqDiff, Nat.reduceLeDiff, Nat.reduceBEq, Int.reduceAdd, Int.reduceSub, Int.reduceMul, Int.reduceNeg, Int.reduceLT, Int.reduceLE, Int.reduceEq, Int.reduceNe, Int.reduceBEq, Int.reduceToNat, Int.reduceTDiv, Int.reduceTMod, Int.reduceOfNat, reduceCtorEq, sty, sui]
      refine hK _ ?_; clear hK K
      refine AWp.ret ?_
      try simp only [thenQ, bq, lq, lf, iq, gq, Nat.reduceEqDiff, if_true, if_false]
      simp only [endQ, rs_law47_MerkleNear, resC, one, wT, Bool.not_eq_true, ty, zr, Nat.reduceAdd, Nat.reduceSub, Nat.reduceMul, Nat.reduceMod, Nat.reduceDiv, Nat.reduceEqDiff, Nat.reduceLeDiff, Nat.reduceBEq, Int.reduceAdd, Int.reduceSub, Int.reduceMul, Int.reduceNeg, Int.reduceLT, Int.reduceLE, Int.reduceEq, Int.reduceNe, Int.reduceBEq, Int.reduceToNat, Int.reduceTDiv, Int.reduceTMod, Int.reduceOfNat, reduceCtorEq, sty, sui]
      repeat' (first | exact True.intro | (with_reducible rfl) | (with_reducible apply And.intro) | omega | rfl)
    · try simp only [decide_eq_true_eq, decide_eq_false_iff_not, beq_iff_eq, bne_iff_ne, ne_eq, Bool.not_eq_true, beq_eq_false_iff_ne, bne_eq_false_iff_eq, Bool.not_eq_false, Bool.not_eq_eq_eq_not, Bool.not_true, Bool.not_false] at hb
      (first | exact absurd trivial hb | exact absurd rfl hb | cases hb | (exfalso; omega) | (simp at hb; done))
theorem law_ok {α : Type} (E : α → Option (Row α)) (y : List Int) (hy : y.length = 16) (yB : AllB y) (x : α) (n : Nat) (l : List Int) (hx : E x = some (.ints .u8 l)) (hl : l.length = n * 16) (lB : AllB l) (h1 : 1 ≤ n) (hn : n ≤ 40) (i : Nat) (hi : i < 256) :
    FnOk Try.prog n_law47_MerkleNear E [.slice false (.ext x) 0 n 16, .int .u8 i, .ints .u8 y] [] (.bool true) [] := by
  have h1' := h1
  obtain ⟨k, hk⟩ : ∃ k, i % n = k := ⟨_, rfl⟩
  have hik : (i : Int) % (n : Int) = (k : Int) := by rw [← hk]; exact (Int.natCast_emod i n).symm
  have hkn : k < n := by rw [← hk]; exact Nat.mod_lt _ (by omega)
  obtain ⟨m, hm⟩ : ∃ m, Sy.splice l (k * 16) y = m := ⟨_, rfl⟩
  have lm : m.length = n * 16 := by rw [← hm, Sy.length_splice (by rw [hl, hy]; omega), hl]
  have sl : sub l 0 (n * 16) = l := sub_all hl
  have sy : sub y 0 16 = y := sub_all hy
  have hgl := growR_len (α := α) l n 2 0 h1
  have hgm := growR_len (α := α) m n (2 * n + 2) 0 h1
  have hdl := growR_down (α := α) l 2 n 0 0 h1
  have hdm := growR_down (α := α) m (2 * n + 2) n 0 0 h1
  rw [Nat.add_zero] at hdl hdm
  have e1 : 2 + (2 * n - 1) = 2 * n + 1 := by omega
  have e2 : 2 + (2 * n - 2) = 2 * n := by omega
  have e3 : 2 * n + 2 + (2 * n - 1) = 4 * n + 1 := by omega
  have e4 : 2 * n + 2 + (2 * n - 2) = 4 * n := by omega
  have e5 : 2 * n - 1 + 1 + 1 + 1 = 2 * n + 2 := by omega
  have hoff : OneOff l m k := by rw [← hm]; exact near_off hl hy hkn
  obtain ⟨RR, hRR⟩ : ∃ RR, (growR l 2 0 n ++ [some (.mixed [.ptr (.own (2 * n)) 0])] ++ (growR m (2 * n + 2) 0 n ++ [some (.mixed [.ptr (.own (4 * n)) 0])]) : Sy.Rows α) = RR := ⟨_, rfl⟩
  have lRR : RR.length = 4 * n := by rw [← hRR]; simp only [List.length_append, List.length_cons, List.length_nil, hgl, hgm]; omega
  have LA : ∀ (a b : Option (Row (Sy.Id α))) (post : Sy.Rows α), Sy.look E (a :: b :: (RR ++ post)) (.own (2 * n + 1)) = some (.mixed [.ptr (.own (2 * n)) 0]) := fun a b post => by
    rw [← hRR, show 2 * n + 1 = (2 * n - 1) + 1 + 1 by omega]
    simp only [Sy.look, List.getElem?_cons_succ, List.append_assoc]
    rw [List.getElem?_append_right (by omega), hgl, Nat.sub_self]
    rfl
  have LB : ∀ (a b : Option (Row (Sy.Id α))) (post : Sy.Rows α), Sy.look E (a :: b :: (RR ++ post)) (.own (4 * n + 1)) = some (.mixed [.ptr (.own (4 * n)) 0]) := fun a b post => by
    rw [← hRR, show 4 * n + 1 = (4 * n - 1) + 1 + 1 by omega]
    simp only [Sy.look, List.getElem?_cons_succ, List.append_assoc]
    rw [List.getElem?_append_right (by omega), hgl, List.getElem?_append_right (by simp; omega), List.getElem?_append_right (by simp only [List.length_cons, List.length_nil]; omega), hgm, show 4 * n - 1 - (2 * n - 1) - [(some (Row.mixed [.ptr (.own (2 * n)) 0]) : Option (Row (Sy.Id α)))].length - (2 * n - 1) = 0 by simp only [List.length_cons, List.length_nil]; omega]
    rfl
  have TA : ∀ (a b : Option (Row (Sy.Id α))) (post : Sy.Rows α), TreeE (Sy.look E (a :: b :: (RR ++ post))) l (.own (2 * n)) 0 n := fun a b post => by
    have := tree_mid (E := E) [a, b] ([some (.mixed [.ptr (.own (2 * n)) 0])] ++ (growR m (2 * n + 2) 0 n ++ [some (.mixed [.ptr (.own (4 * n)) 0])]) ++ post) l n 2 0 h1 rfl
    rw [e2] at this
    rw [← hRR]
    simpa [List.append_assoc] using this
  have TB : ∀ (a b : Option (Row (Sy.Id α))) (post : Sy.Rows α), TreeE (Sy.look E (a :: b :: (RR ++ post))) m (.own (4 * n)) 0 n := fun a b post => by
    have := tree_mid (E := E) ([a, b] ++ growR l 2 0 n ++ [some (.mixed [.ptr (.own (2 * n)) 0])]) ([some (.mixed [.ptr (.own (4 * n)) 0])] ++ post) m n (2 * n + 2) 0 h1 (by simp only [List.length_append, List.length_cons, List.length_nil, hgl]; omega)
    rw [e4] at this
    rw [← hRR]
    simpa [List.append_assoc] using this
  have hRin : ∀ t, 4 * n + 2 ≤ t → ∀ r, some r ∈ RR → r.All (inS t) := fun t ht r hr => by
    rw [← hRR] at hr
    simp only [List.mem_append, List.mem_singleton] at hr
    rcases hr with (hr | hr) | (hr | hr)
    · exact growR_in l n 2 0 _ h1 (by omega) r hr
    · cases hr; exact ⟨by show 2 * n < t; omega, trivial⟩
    · exact growR_in m n (2 * n + 2) 0 _ h1 (by omega) r hr
    · cases hr; exact ⟨by show 4 * n < t; omega, trivial⟩
  have q1 : 4 * n + 1 < List.length RR + 1 + 1 := by omega
  have q2 : 2 * n + 1 < List.length RR + 1 + 1 := by omega
  have lR2 : leRows (List.length RR + 1 + 1) RR RR := leRows_self (hRin _ (by omega))
  have LA0 : ∀ (a b : Option (Row (Sy.Id α))), Sy.look E (a :: b :: RR) (.own (2 * n + 1)) = some (.mixed [.ptr (.own (2 * n)) 0]) := fun a b => by have := LA a b []; rwa [List.append_nil] at this
  have TA0 : ∀ (a b : Option (Row (Sy.Id α))), TreeE (Sy.look E (a :: b :: RR)) l (.own (2 * n)) 0 n := fun a b => by have := TA a b []; rwa [List.append_nil] at this
  refine FnOk.pure func_law47_MerkleNear call_law47_MerkleNear (body := _) rfl nt_law47_MerkleNear (by simp) (by simp [AV.solid, AV.solidL]) ?_
  refine AWp.reg p_law47_MerkleNear_0 [] s_law47_MerkleNear_0 rfl rfl fun K hK => st_of ?_
  simp only [s_law47_MerkleNear_0, wT, Bool.not_eq_true, ty, zr, Nat.reduceAdd, Nat.reduceSub, Nat.reduceMul, Nat.reduceMod, Nat.reduceDiv, Nat.reduceEqDiff, Nat.reduceLeDiff, Nat.reduceBEq, Int.reduceAdd, Int.reduceSub, Int.reduceMul, Int.reduceNeg, Int.reduceLT, Int.reduceLE, Int.reduceEq, Int.reduceNe, Int.reduceBEq, Int.reduceToNat, Int.reduceTDiv, Int.reduceTMod, Int.reduceOfNat, reduceCtorEq, sty, sui]
  refine hK _ ?_; clear hK K
  refine AWp.grp fun G4 hG4 => ?_
  refine AWp.reg p_law47_MerkleNear_1 [] s_law47_MerkleNear_1 rfl rfl fun K hK => st_of ?_
  simp only [s_law47_MerkleNear_1, wT, Bool.not_eq_true, ty, zr, Nat.reduceAdd, Nat.reduceSub, Nat.reduceMul, Nat.reduceMod, Nat.reduceDiv, Nat.reduceEqDiff, Nat.reduceLeDiff, Nat.reduceBEq, Int.reduceAdd, Int.reduceSub, Int.reduceMul, Int.reduceNeg, Int.reduceLT, Int.reduceLE, Int.reduceEq, Int.reduceNe, Int.reduceBEq, Int.reduceToNat, Int.reduceTDiv, Int.reduceTMod, Int.reduceOfNat, reduceCtorEq, sty, sui]
  refine st_call fun K1 hK1 => ?_
  simp only [calleeC, wT, Bool.not_eq_true, ty, zr, Nat.reduceAdd, Nat.reduceSub, Nat.reduceMul, Nat.reduceMod, Nat.reduceDiv, Nat.reduceEqDiff, Nat.reduceLeDiff, Nat.reduceBEq, Int.reduceAdd, Int.reduceSub, Int.reduceMul, Int.reduceNeg, Int.reduceLT, Int.reduceLE, Int.reduceEq, Int.reduceNe, Int.reduceBEq, Int.reduceToNat, Int.reduceTDiv, Int.reduceTMod, Int.reduceOfNat, reduceCtorEq, sty, sui]
  refine hK1 _ _ ?_
  clear hK1 K1
  simp only [CallTo, AV.mapL, AV.map, mapL_flat, mapL_flat1]
  refine ⟨_, _, awake_ok _, ?_⟩
  simp only [wT, Bool.not_eq_true, ty, zr, Nat.reduceAdd, Nat.reduceSub, Nat.reduceMul, Nat.reduceMod, Nat.reduceDiv, Nat.reduceEqDiff, Nat.reduceLeDiff, Nat.reduceBEq, Int.reduceAdd, Int.reduceSub, Int.reduceMul, Int.reduceNeg, Int.reduceLT, Int.reduceLE, Int.reduceEq, Int.reduceNe, Int.reduceBEq, Int.reduceToNat, Int.reduceTDiv, Int.reduceTMod, Int.reduceOfNat, reduceCtorEq, sty, sui]
  refine hK _ ?_; clear hK K
  refine AWp.iteE rfl (fun hb => ?_) (fun hb => ?_)
  · try simp only [decide_eq_true_eq, decide_eq_false_iff_not, beq_iff_eq, bne_iff_ne, ne_eq, Bool.not_eq_true, beq_eq_false_iff_ne, bne_eq_false_iff_eq, Bool.not_eq_false, Bool.not_eq_eq_eq_not, Bool.not_true, Bool.not_false] at hb
    (first | exact absurd trivial hb | exact absurd rfl hb | cases hb | (exfalso; omega) | (simp at hb; done))
  · try simp only [decide_eq_true_eq, decide_eq_false_iff_not, beq_iff_eq, bne_iff_ne, ne_eq, Bool.not_eq_true, beq_eq_false_iff_ne, bne_eq_false_iff_eq, Bool.not_eq_false, Bool.not_eq_eq_eq_not, Bool.not_true, Bool.not_false] at hb
    refine AWp.skip ?_
    try simp only [thenQ, bq, lq, lf, iq, gq, Nat.reduceEqDiff, if_true, if_false]
    refine hG4 _ ?_
    try clear hG4 G4
    refine AWp.grp fun G25 hG25 => ?_
    refine AWp.reg p_law47_MerkleNear_3 [] s_law47_MerkleNear_3 rfl rfl fun K hK => st_of ?_
    simp only [s_law47_MerkleNear_3, wT, Bool.not_eq_true, ty, zr, Nat.reduceAdd, Nat.reduceSub, Nat.reduceMul, Nat.reduceMod, Nat.reduceDiv, Nat.reduceEqDiff, Nat.reduceLeDiff, Nat.reduceBEq, Int.reduceAdd, Int.reduceSub, Int.reduceMul, Int.reduceNeg, Int.reduceLT, Int.reduceLE, Int.reduceEq, Int.reduceNe, Int.reduceBEq, Int.reduceToNat, Int.reduceTDiv, Int.reduceTMod, Int.reduceOfNat, reduceCtorEq, sty, sui]
    refine ⟨fun h1 => by exfalso; omega, fun h1 => ?_⟩
    rw [show decide ((n : Int) > 40) = false from decide_eq_false (by omega)]
    refine hK _ ?_; clear hK K
    refine AWp.iteE rfl (fun hb => ?_) (fun hb => ?_)
    · try simp only [decide_eq_true_eq, decide_eq_false_iff_not, beq_iff_eq, bne_iff_ne, ne_eq, Bool.not_eq_true, beq_eq_false_iff_ne, bne_eq_false_iff_eq, Bool.not_eq_false, Bool.not_eq_eq_eq_not, Bool.not_true, Bool.not_false] at hb
      (first | exact absurd trivial hb | exact absurd rfl hb | cases hb | (exfalso; omega) | (simp at hb; done))
    · try simp only [decide_eq_true_eq, decide_eq_false_iff_not, beq_iff_eq, bne_iff_ne, ne_eq, Bool.not_eq_true, beq_eq_false_iff_ne, bne_eq_false_iff_eq, Bool.not_eq_false, Bool.not_eq_eq_eq_not, Bool.not_true, Bool.not_false] at hb
      refine AWp.skip ?_
      try simp only [thenQ, bq, lq, lf, iq, gq, Nat.reduceEqDiff, if_true, if_false]
      refine hG25 _ ?_
      try clear hG25 G25
      refine AWp.reg p_law47_MerkleNear_5 [] s_law47_MerkleNear_5 rfl rfl fun K hK => st_of ?_
      simp only [s_law47_MerkleNear_5, wT, Bool.not_eq_true, ty, zr, Nat.reduceAdd, Nat.reduceSub, Nat.reduceMul, Nat.reduceMod, Nat.reduceDiv, Nat.reduceEqDiff, Nat.reduceLeDiff, Nat.reduceBEq, Int.reduceAdd, Int.reduceSub, Int.reduceMul, Int.reduceNeg, Int.reduceLT, Int.reduceLE, Int.reduceEq, Int.reduceNe, Int.reduceBEq, Int.reduceToNat, Int.reduceTDiv, Int.reduceTMod, Int.reduceOfNat, reduceCtorEq, sty, sui]
      try simp (disch := first | omega | (simp only [List.length_set, List.length_replicate, List.length_append, List.length_nil]; first | done | omega)) only [aT, Int.reduceToNat, List.length_set, List.length_replicate, List.length_append, List.length_nil]
      simp only [hik]
      refine ⟨by omega, ?_⟩
      refine hK _ ?_; clear hK K
      refine AWp.regJ p_law47_MerkleNear_6 [] s_law47_MerkleNear_6 ⟨[(0, .slice false (.ext x) 0 n 16), (5, .ptr (.own 0) 0), (7, .int .i64 k), (8, .slice true (.own 1) 0 n 16)], [some (.ints .u8 y), some (.ints .u8 l)]⟩ rfl rfl (fun K hK => st_of ?_) ?_
      · simp only [s_law47_MerkleNear_6, wT, Bool.not_eq_true, ty, zr, Nat.reduceAdd, Nat.reduceSub, Nat.reduceMul, Nat.reduceMod, Nat.reduceDiv, Nat.reduceEqDiff, Nat.reduceLeDiff, Nat.reduceBEq, Int.reduceAdd, Int.reduceSub, Int.reduceMul, Int.reduceNeg, Int.reduceLT, Int.reduceLE, Int.reduceEq, Int.reduceNe, Int.reduceBEq, Int.reduceToNat, Int.reduceTDiv, Int.reduceTMod, Int.reduceOfNat, reduceCtorEq, sty, sui]
        simp only [hx, Option.map_some, Row.map, wT, Bool.not_eq_true, ty, zr, Nat.reduceAdd, Nat.reduceSub, Nat.reduceMul, Nat.reduceMod, Nat.reduceDiv, Nat.reduceEqDiff, Nat.reduceLeDiff, Nat.reduceBEq, Int.reduceAdd, Int.reduceSub, Int.reduceMul, Int.reduceNeg, Int.reduceLT, Int.reduceLE, Int.reduceEq, Int.reduceNe, Int.reduceBEq, Int.reduceToNat, Int.reduceTDiv, Int.reduceTMod, Int.reduceOfNat, reduceCtorEq, sty, sui]
        try simp (disch := first | omega | (simp only [List.length_set, List.length_replicate, List.length_append, List.length_nil]; first | done | omega)) only [aT, Int.reduceToNat, List.length_set, List.length_replicate, List.length_append, List.length_nil]
        simp only [bRow0]
        (repeat ((with_reducible refine And.intro ?_ ?_); (first | omega | exact True.intro | with_reducible rfl | decide | assumption | rfl)))
        try simp only [sl, List.nil_append, List.append_nil]
        exact hK _ (Le.sel [0, 2] (by decide) (by simp) rfl (by simp only [selTm, tget, AV.map, AV.mapL, renS, AV.All, AV.AllL, inS, Nat.reduceEqDiff, if_true, if_false]; repeat' (first | exact trivial | rfl | assumption | apply And.intro | simp [mapL_flat, mapL_flat1, allL_flat, allL_flat1])) (by simp only [selRows, selRow, Row.map, Row.All, AV.AllL, AV.All, inS]; repeat' (first | exact trivial | rfl | assumption | apply And.intro | simp [mapL_flat, mapL_flat1, allL_flat, allL_flat1])))
      refine AWp.reg p_law47_MerkleNear_7 [] s_law47_MerkleNear_7 rfl rfl fun K hK => st_of ?_
      simp only [s_law47_MerkleNear_7, wT, Bool.not_eq_true, ty, zr, Nat.reduceAdd, Nat.reduceSub, Nat.reduceMul, Nat.reduceMod, Nat.reduceDiv, Nat.reduceEqDiff, Nat.reduceLeDiff, Nat.reduceBEq, Int.reduceAdd, Int.reduceSub, Int.reduceMul, Int.reduceNeg, Int.reduceLT, Int.reduceLE, Int.reduceEq, Int.reduceNe, Int.reduceBEq, Int.reduceToNat, Int.reduceTDiv, Int.reduceTMod, Int.reduceOfNat, reduceCtorEq, sty, sui]
      try simp (disch := first | omega | (simp only [List.length_set, List.length_replicate, List.length_append, List.length_nil]; first | done | omega)) only [aT, Int.reduceToNat, List.length_set, List.length_replicate, List.length_append, List.length_nil]
      simp only [sy, hm, wT, Bool.not_eq_true, ty, zr, Nat.reduceAdd, Nat.reduceSub, Nat.reduceMul, Nat.reduceMod, Nat.reduceDiv, Nat.reduceEqDiff, Nat.reduceLeDiff, Nat.reduceBEq, Int.reduceAdd, Int.reduceSub, Int.reduceMul, Int.reduceNeg, Int.reduceLT, Int.reduceLE, Int.reduceEq, Int.reduceNe, Int.reduceBEq, Int.reduceToNat, Int.reduceTDiv, Int.reduceTMod, Int.reduceOfNat, reduceCtorEq, sty, sui]
      (repeat ((with_reducible refine And.intro ?_ ?_); (first | omega | exact True.intro | with_reducible rfl | decide | assumption | rfl)))
      refine hK _ ?_; clear hK K
      refine AWp.reg p_law47_MerkleNear_8 [] s_law47_MerkleNear_8 rfl rfl fun K hK => st_of ?_
      simp only [s_law47_MerkleNear_8, wT, Bool.not_eq_true, ty, zr, Nat.reduceAdd, Nat.reduceSub, Nat.reduceMul, Nat.reduceMod, Nat.reduceDiv, Nat.reduceEqDiff, Nat.reduceLeDiff, Nat.reduceBEq, Int.reduceAdd, Int.reduceSub, Int.reduceMul, Int.reduceNeg, Int.reduceLT, Int.reduceLE, Int.reduceEq, Int.reduceNe, Int.reduceBEq, Int.reduceToNat, Int.reduceTDiv, Int.reduceTMod, Int.reduceOfNat, reduceCtorEq, sty, sui]
      refine st_call fun K1 hK1 => ?_
      simp only [calleeC, wT, Bool.not_eq_true, ty, zr, Nat.reduceAdd, Nat.reduceSub, Nat.reduceMul, Nat.reduceMod, Nat.reduceDiv, Nat.reduceEqDiff, Nat.reduceLeDiff, Nat.reduceBEq, Int.reduceAdd, Int.reduceSub, Int.reduceMul, Int.reduceNeg, Int.reduceLT, Int.reduceLE, Int.reduceEq, Int.reduceNe, Int.reduceBEq, Int.reduceToNat, Int.reduceTDiv, Int.reduceTMod, Int.reduceOfNat, reduceCtorEq, sty, sui]
      refine hK1 _ _ ?_
      clear hK1 K1
      simp only [CallTo, AV.mapL, AV.map, mapL_flat, mapL_flat1]
      refine ⟨_, _, new_ok _ (Sy.Id.ext x) l (by simp only [Sy.look, hx, Option.map_some, Row.map]) _ n h1' (by omega) (by omega), ?_⟩
      simp only [wT, Bool.not_eq_true, ty, zr, Nat.reduceAdd, Nat.reduceSub, Nat.reduceMul, Nat.reduceMod, Nat.reduceDiv, Nat.reduceEqDiff, Nat.reduceLeDiff, Nat.reduceBEq, Int.reduceAdd, Int.reduceSub, Int.reduceMul, Int.reduceNeg, Int.reduceLT, Int.reduceLE, Int.reduceEq, Int.reduceNe, Int.reduceBEq, Int.reduceToNat, Int.reduceTDiv, Int.reduceTMod, Int.reduceOfNat, reduceCtorEq, sty, sui]
      simp only [List.map_append, hdl, hgl, e1, e2, wT, Bool.not_eq_true, ty, zr, Nat.reduceAdd, Nat.reduceSub, Nat.reduceMul, Nat.reduceMod, Nat.reduceDiv, Nat.reduceEqDiff, Nat.reduceLeDiff, Nat.reduceBEq, Int.reduceAdd, Int.reduceSub, Int.reduceMul, Int.reduceNeg, Int.reduceLT, Int.reduceLE, Int.reduceEq, Int.reduceNe, Int.reduceBEq, Int.reduceToNat, Int.reduceTDiv, Int.reduceTMod, Int.reduceOfNat, reduceCtorEq, sty, sui]
      refine st_call fun K1 hK1 => ?_
      simp only [calleeC, wT, Bool.not_eq_true, ty, zr, Nat.reduceAdd, Nat.reduceSub, Nat.reduceMul, Nat.reduceMod, Nat.reduceDiv, Nat.reduceEqDiff, Nat.reduceLeDiff, Nat.reduceBEq, Int.reduceAdd, Int.reduceSub, Int.reduceMul, Int.reduceNeg, Int.reduceLT, Int.reduceLE, Int.reduceEq, Int.reduceNe, Int.reduceBEq, Int.reduceToNat, Int.reduceTDiv, Int.reduceTMod, Int.reduceOfNat, reduceCtorEq, sty, sui]
      refine hK1 _ _ ?_
      clear hK1 K1
      simp only [CallTo, AV.mapL, AV.map, mapL_flat, mapL_flat1]
      refine ⟨_, _, new_ok _ (Sy.Id.own 1) m rfl _ n h1' (by omega) (by omega), ?_⟩
      simp only [wT, Bool.not_eq_true, ty, zr, Nat.reduceAdd, Nat.reduceSub, Nat.reduceMul, Nat.reduceMod, Nat.reduceDiv, Nat.reduceEqDiff, Nat.reduceLeDiff, Nat.reduceBEq, Int.reduceAdd, Int.reduceSub, Int.reduceMul, Int.reduceNeg, Int.reduceLT, Int.reduceLE, Int.reduceEq, Int.reduceNe, Int.reduceBEq, Int.reduceToNat, Int.reduceTDiv, Int.reduceTMod, Int.reduceOfNat, reduceCtorEq, sty, sui]
      simp only [List.map_append, hdm, hgm, hgl, e3, e4, e5, wT, Bool.not_eq_true, ty, zr, Nat.reduceAdd, Nat.reduceSub, Nat.reduceMul, Nat.reduceMod, Nat.reduceDiv, Nat.reduceEqDiff, Nat.reduceLeDiff, Nat.reduceBEq, Int.reduceAdd, Int.reduceSub, Int.reduceMul, Int.reduceNeg, Int.reduceLT, Int.reduceLE, Int.reduceEq, Int.reduceNe, Int.reduceBEq, Int.reduceToNat, Int.reduceTDiv, Int.reduceTMod, Int.reduceOfNat, reduceCtorEq, sty, sui]
      simp only [hRR]
      refine hK _ ?_; clear hK K
      refine AWp.grp fun G81 hG81 => ?_
      refine AWp.reg p_law47_MerkleNear_9 [] s_law47_MerkleNear_9 rfl rfl fun K hK => st_of ?_
      simp only [s_law47_MerkleNear_9, wT, Bool.not_eq_true, ty, zr, Nat.reduceAdd, Nat.reduceSub, Nat.reduceMul, Nat.reduceMod, Nat.reduceDiv, Nat.reduceEqDiff, Nat.reduceLeDiff, Nat.reduceBEq, Int.reduceAdd, Int.reduceSub, Int.reduceMul, Int.reduceNeg, Int.reduceLT, Int.reduceLE, Int.reduceEq, Int.reduceNe, Int.reduceBEq, Int.reduceToNat, Int.reduceTDiv, Int.reduceTMod, Int.reduceOfNat, reduceCtorEq, sty, sui]
      refine hK _ ?_; clear hK K
      refine AWp.lopX (fun j => ⟨[(0, .slice false (.ext x) 0 n 16), (7, .int .i64 k), (8, .slice true (.own 1) 0 n 16), (9, .ptr (.own (2 * n + 1)) 0), (10, .ptr (.own (4 * n + 1)) 0), (45, .int .i64 n), (46, .int .i64 j)], some (.ints .u8 y) :: some (.ints .u8 m) :: RR⟩) (n) (Le.ofA) fun X0 hX0 j hn0 => ?_
      refine AWp.reg p_law47_MerkleNear_10 [] s_law47_MerkleNear_10 rfl rfl fun K hK => st_of ?_
      simp only [s_law47_MerkleNear_10, wT, Bool.not_eq_true, ty, zr, Nat.reduceAdd, Nat.reduceSub, Nat.reduceMul, Nat.reduceMod, Nat.reduceDiv, Nat.reduceEqDiff, Nat.reduceLeDiff, Nat.reduceBEq, Int.reduceAdd, Int.reduceSub, Int.reduceMul, Int.reduceNeg, Int.reduceLT, Int.reduceLE, Int.reduceEq, Int.reduceNe, Int.reduceBEq, Int.reduceToNat, Int.reduceTDiv, Int.reduceTMod, Int.reduceOfNat, reduceCtorEq, sty, sui]
      refine hK _ ?_; clear hK K
      refine AWp.test rfl (fun hb => ?_) (fun hb => ?_)
      · try simp only [decide_eq_true_eq, decide_eq_false_iff_not, beq_iff_eq, bne_iff_ne, ne_eq, Bool.not_eq_true, beq_eq_false_iff_ne, bne_eq_false_iff_eq, Bool.not_eq_false, Bool.not_eq_eq_eq_not, Bool.not_true, Bool.not_false] at hb
        have hj : j < n := by omega
        have hA := proofF_A l n 0 j
        have hB := proofF_A m n 0 j
        have hfA := flat_len hA.1
        have hfB := flat_len hB.1
        have hlen := (proof_len l m n 0 j).symm
        have hnear : cntF (proofF l 0 n j) (proofF m 0 n j) (proofF l 0 n j).length ≤ 1 := by have := proof_near hoff n 0 j h1' hj; rwa [Nat.zero_mul] at this
        have hown : j = k → cntF (proofF l 0 n j) (proofF m 0 n j) (proofF l 0 n j).length = 0 := fun e => by have := proof_off hoff n 0 j h1' hj (by omega); rw [Nat.zero_mul] at this; rw [this]; exact cntF_same _ _
        have hc := check_proof m hj
        obtain ⟨D, hD⟩ : ∃ D, proofF l 0 n j = D := ⟨_, rfl⟩
        obtain ⟨F, hF⟩ : ∃ F, proofF m 0 n j = F := ⟨_, rfl⟩
        rw [hD] at hA hfA hlen hnear hown
        rw [hF] at hB hfB hlen hnear hown hc
        have q3 : 4 * n < List.length RR + 3 := by omega
        have q4 : 2 * n < List.length RR + 3 := by omega
        have q5 : List.length RR + 2 < List.length RR + 1 + 1 + 1 + 1 := by omega
        have q6 : List.length RR + 3 < List.length RR + 1 + 1 + 1 + 1 := by omega
        have lR4 : leRows (List.length RR + 2 + 1 + 1) (RR ++ [some (.ints .u8 D.flatten), some (.ints .u8 F.flatten)]) (RR ++ [some (.ints .u8 D.flatten), some (.ints .u8 F.flatten)]) := leRows_self fun r hr => by
          simp only [List.mem_append, List.mem_cons, List.not_mem_nil, or_false] at hr
          rcases hr with hr | hr | hr
          · exact hRin _ (by omega) r hr
          · cases hr; trivial
          · cases hr; trivial
        have lR5 : leRows (List.length RR + 1 + 1) (RR ++ [some (.ints .u8 D.flatten)] ++ [some (.ints .u8 F.flatten)]) RR := by rw [List.append_assoc]; exact leRows_pre (hRin _ (by omega))
        have gP : (RR ++ [some (.ints .u8 D.flatten)] ++ [some (.ints .u8 F.flatten)] : Sy.Rows α)[List.length RR]? = some (some (.ints .u8 D.flatten)) := by rw [List.append_assoc, List.getElem?_append_right (Nat.le_refl _), Nat.sub_self]; rfl
        have gQ : (RR ++ [some (.ints .u8 D.flatten)] ++ [some (.ints .u8 F.flatten)] : Sy.Rows α)[List.length RR + 1]? = some (some (.ints .u8 F.flatten)) := by rw [List.append_assoc, List.getElem?_append_right (by omega), Nat.add_sub_cancel_left]; rfl
        rw [hlen] at hc
        have hDn := hA.2.2
        have hR := rootO_len m 0 n
        have h16 : (sub m (j * 16) 16).length = 16 := Sy.length_sub (by omega)
        have lR6 : leRows (List.length RR + 2) (RR ++ [some (.ints .u8 D.flatten), some (.ints .u8 F.flatten)]) RR := leRows_pre (hRin _ (by omega))
        have lR7 : leRows (List.length RR + 1 + 1) (RR ++ [some (.ints .u8 D.flatten), some (.ints .u8 F.flatten)]) RR := leRows_pre (hRin _ (by omega))
        have q7 : 4 * n < List.length RR + 1 := by omega
        have q8 : 2 * n < List.length RR + 1 := by omega
        have LB2 : ∀ (a b t u : Option (Row (Sy.Id α))), Sy.look E (a :: b :: (RR ++ [t] ++ [u])) (.own (4 * n + 1)) = some (.mixed [.ptr (.own (4 * n)) 0]) := fun a b t u => by rw [List.append_assoc]; exact LB a b _
        have TB2 : ∀ (a b t u : Option (Row (Sy.Id α))), TreeE (Sy.look E (a :: b :: (RR ++ [t] ++ [u]))) m (.own (4 * n)) 0 n := fun a b t u => by rw [List.append_assoc]; exact TB a b _
        refine AWp.blk fun Y1 hY1 => ?_
        refine AWp.reg p_law47_MerkleNear_11 [] s_law47_MerkleNear_11 rfl rfl fun K hK => st_of ?_
        simp only [s_law47_MerkleNear_11, wT, Bool.not_eq_true, ty, zr, Nat.reduceAdd, Nat.reduceSub, Nat.reduceMul, Nat.reduceMod, Nat.reduceDiv, Nat.reduceEqDiff, Nat.reduceLeDiff, Nat.reduceBEq, Int.reduceAdd, Int.reduceSub, Int.reduceMul, Int.reduceNeg, Int.reduceLT, Int.reduceLE, Int.reduceEq, Int.reduceNe, Int.reduceBEq, Int.reduceToNat, Int.reduceTDiv, Int.reduceTMod, Int.reduceOfNat, reduceCtorEq, sty, sui]
        refine hK _ ?_; clear hK K
        refine AWp.reg p_law47_MerkleNear_12 [] s_law47_MerkleNear_12 rfl rfl fun K hK => st_of ?_
        simp only [s_law47_MerkleNear_12, wT, Bool.not_eq_true, ty, zr, Nat.reduceAdd, Nat.reduceSub, Nat.reduceMul, Nat.reduceMod, Nat.reduceDiv, Nat.reduceEqDiff, Nat.reduceLeDiff, Nat.reduceBEq, Int.reduceAdd, Int.reduceSub, Int.reduceMul, Int.reduceNeg, Int.reduceLT, Int.reduceLE, Int.reduceEq, Int.reduceNe, Int.reduceBEq, Int.reduceToNat, Int.reduceTDiv, Int.reduceTMod, Int.reduceOfNat, reduceCtorEq, sty, sui]
        refine st_call fun K1 hK1 => ?_
        simp only [calleeC, wT, Bool.not_eq_true, ty, zr, Nat.reduceAdd, Nat.reduceSub, Nat.reduceMul, Nat.reduceMod, Nat.reduceDiv, Nat.reduceEqDiff, Nat.reduceLeDiff, Nat.reduceBEq, Int.reduceAdd, Int.reduceSub, Int.reduceMul, Int.reduceNeg, Int.reduceLT, Int.reduceLE, Int.reduceEq, Int.reduceNe, Int.reduceBEq, Int.reduceToNat, Int.reduceTDiv, Int.reduceTMod, Int.reduceOfNat, reduceCtorEq, sty, sui]
        refine hK1 _ _ ?_
        clear hK1 K1
        simp only [CallTo, AV.mapL, AV.map, mapL_flat, mapL_flat1]
        refine ⟨_, _, Proof_ok _ _ _ l n j (LA0 _ _) (TA0 _ _) hj (by omega), ?_⟩
        simp only [hD, wT, Bool.not_eq_true, ty, zr, Nat.reduceAdd, Nat.reduceSub, Nat.reduceMul, Nat.reduceMod, Nat.reduceDiv, Nat.reduceEqDiff, Nat.reduceLeDiff, Nat.reduceBEq, Int.reduceAdd, Int.reduceSub, Int.reduceMul, Int.reduceNeg, Int.reduceLT, Int.reduceLE, Int.reduceEq, Int.reduceNe, Int.reduceBEq, Int.reduceToNat, Int.reduceTDiv, Int.reduceTMod, Int.reduceOfNat, reduceCtorEq, sty, sui]
        refine hK _ ?_; clear hK K
        refine AWp.reg p_law47_MerkleNear_13 [] s_law47_MerkleNear_13 rfl rfl fun K hK => st_of ?_
        simp only [s_law47_MerkleNear_13, wT, Bool.not_eq_true, ty, zr, Nat.reduceAdd, Nat.reduceSub, Nat.reduceMul, Nat.reduceMod, Nat.reduceDiv, Nat.reduceEqDiff, Nat.reduceLeDiff, Nat.reduceBEq, Int.reduceAdd, Int.reduceSub, Int.reduceMul, Int.reduceNeg, Int.reduceLT, Int.reduceLE, Int.reduceEq, Int.reduceNe, Int.reduceBEq, Int.reduceToNat, Int.reduceTDiv, Int.reduceTMod, Int.reduceOfNat, reduceCtorEq, sty, sui]
        refine st_call fun K1 hK1 => ?_
        simp only [calleeC, wT, Bool.not_eq_true, ty, zr, Nat.reduceAdd, Nat.reduceSub, Nat.reduceMul, Nat.reduceMod, Nat.reduceDiv, Nat.reduceEqDiff, Nat.reduceLeDiff, Nat.reduceBEq, Int.reduceAdd, Int.reduceSub, Int.reduceMul, Int.reduceNeg, Int.reduceLT, Int.reduceLE, Int.reduceEq, Int.reduceNe, Int.reduceBEq, Int.reduceToNat, Int.reduceTDiv, Int.reduceTMod, Int.reduceOfNat, reduceCtorEq, sty, sui]
        refine hK1 _ _ ?_
        clear hK1 K1
        simp only [CallTo, AV.mapL, AV.map, mapL_flat, mapL_flat1]
        refine ⟨_, _, Proof_ok _ _ _ m n j (LB _ _ _) (TB _ _ _) hj (by omega), ?_⟩
        simp only [hF, hlen, wT, Bool.not_eq_true, ty, zr, Nat.reduceAdd, Nat.reduceSub, Nat.reduceMul, Nat.reduceMod, Nat.reduceDiv, Nat.reduceEqDiff, Nat.reduceLeDiff, Nat.reduceBEq, Int.reduceAdd, Int.reduceSub, Int.reduceMul, Int.reduceNeg, Int.reduceLT, Int.reduceLE, Int.reduceEq, Int.reduceNe, Int.reduceBEq, Int.reduceToNat, Int.reduceTDiv, Int.reduceTMod, Int.reduceOfNat, reduceCtorEq, sty, sui]
        refine hK _ ?_; clear hK K
        refine AWp.grp fun G160 hG160 => ?_
        refine AWp.reg p_law47_MerkleNear_14 [] s_law47_MerkleNear_14 rfl rfl fun K hK => st_of ?_
        simp only [s_law47_MerkleNear_14, wT, Bool.not_eq_true, ty, zr, Nat.reduceAdd, Nat.reduceSub, Nat.reduceMul, Nat.reduceMod, Nat.reduceDiv, Nat.reduceEqDiff, Nat.reduceLeDiff, Nat.reduceBEq, Int.reduceAdd, Int.reduceSub, Int.reduceMul, Int.reduceNeg, Int.reduceLT, Int.reduceLE, Int.reduceEq, Int.reduceNe, Int.reduceBEq, Int.reduceToNat, Int.reduceTDiv, Int.reduceTMod, Int.reduceOfNat, reduceCtorEq, sty, sui]
        refine hK _ ?_; clear hK K
        refine AWp.iteE rfl (fun hb => ?_) (fun hb => ?_)
        · try simp only [decide_eq_true_eq, decide_eq_false_iff_not, beq_iff_eq, bne_iff_ne, ne_eq, Bool.not_eq_true, beq_eq_false_iff_ne, bne_eq_false_iff_eq, Bool.not_eq_false, Bool.not_eq_eq_eq_not, Bool.not_true, Bool.not_false] at hb
          (first | exact absurd trivial hb | exact absurd rfl hb | cases hb | (exfalso; omega) | (simp at hb; done))
        · try simp only [decide_eq_true_eq, decide_eq_false_iff_not, beq_iff_eq, bne_iff_ne, ne_eq, Bool.not_eq_true, beq_eq_false_iff_ne, bne_eq_false_iff_eq, Bool.not_eq_false, Bool.not_eq_eq_eq_not, Bool.not_true, Bool.not_false] at hb
          refine AWp.skip ?_
          try simp only [thenQ, bq, lq, lf, iq, gq, Nat.reduceEqDiff, if_true, if_false]
          refine hG160 _ ?_
          try clear hG160 G160
          refine AWp.reg p_law47_MerkleNear_16 [] s_law47_MerkleNear_16 rfl rfl fun K hK => st_of ?_
          simp only [s_law47_MerkleNear_16, wT, Bool.not_eq_true, ty, zr, Nat.reduceAdd, Nat.reduceSub, Nat.reduceMul, Nat.reduceMod, Nat.reduceDiv, Nat.reduceEqDiff, Nat.reduceLeDiff, Nat.reduceBEq, Int.reduceAdd, Int.reduceSub, Int.reduceMul, Int.reduceNeg, Int.reduceLT, Int.reduceLE, Int.reduceEq, Int.reduceNe, Int.reduceBEq, Int.reduceToNat, Int.reduceTDiv, Int.reduceTMod, Int.reduceOfNat, reduceCtorEq, sty, sui]
          refine hK _ ?_; clear hK K
          refine AWp.grp fun G177 hG177 => ?_
          refine AWp.reg p_law47_MerkleNear_17 [] s_law47_MerkleNear_17 rfl rfl fun K hK => st_of ?_
          simp only [s_law47_MerkleNear_17, wT, Bool.not_eq_true, ty, zr, Nat.reduceAdd, Nat.reduceSub, Nat.reduceMul, Nat.reduceMod, Nat.reduceDiv, Nat.reduceEqDiff, Nat.reduceLeDiff, Nat.reduceBEq, Int.reduceAdd, Int.reduceSub, Int.reduceMul, Int.reduceNeg, Int.reduceLT, Int.reduceLE, Int.reduceEq, Int.reduceNe, Int.reduceBEq, Int.reduceToNat, Int.reduceTDiv, Int.reduceTMod, Int.reduceOfNat, reduceCtorEq, sty, sui]
          refine hK _ ?_; clear hK K
          refine AWp.lopX (fun c => ⟨[(0, .slice false (.ext x) 0 n 16), (7, .int .i64 k), (8, .slice true (.own 1) 0 n 16), (9, .ptr (.own (2 * n + 1)) 0), (10, .ptr (.own (4 * n + 1)) 0), (11, .int .i64 j), (12, .slice true (.own (List.length RR + 2)) 0 D.length 16), (14, .slice true (.own (List.length RR + 3)) 0 D.length 16), (16, .int .i64 (cntF D F c)), (45, .int .i64 n), (46, .int .i64 j), (75, .int .i64 D.length), (76, .int .i64 c)], some (.ints .u8 y) :: some (.ints .u8 m) :: (RR ++ [some (.ints .u8 D.flatten)] ++ [some (.ints .u8 F.flatten)])⟩) (D.length) (Le.ofA) fun X2 hX2 c hn2 => ?_
          refine AWp.reg p_law47_MerkleNear_18 [] s_law47_MerkleNear_18 rfl rfl fun K hK => st_of ?_
          simp only [s_law47_MerkleNear_18, wT, Bool.not_eq_true, ty, zr, Nat.reduceAdd, Nat.reduceSub, Nat.reduceMul, Nat.reduceMod, Nat.reduceDiv, Nat.reduceEqDiff, Nat.reduceLeDiff, Nat.reduceBEq, Int.reduceAdd, Int.reduceSub, Int.reduceMul, Int.reduceNeg, Int.reduceLT, Int.reduceLE, Int.reduceEq, Int.reduceNe, Int.reduceBEq, Int.reduceToNat, Int.reduceTDiv, Int.reduceTMod, Int.reduceOfNat, reduceCtorEq, sty, sui]
          refine hK _ ?_; clear hK K
          refine AWp.test rfl (fun hb => ?_) (fun hb => ?_)
          · try simp only [decide_eq_true_eq, decide_eq_false_iff_not, beq_iff_eq, bne_iff_ne, ne_eq, Bool.not_eq_true, beq_eq_false_iff_ne, bne_eq_false_iff_eq, Bool.not_eq_false, Bool.not_eq_eq_eq_not, Bool.not_true, Bool.not_false] at hb
            have hcl := cntF_le D F c
            have hDn := hA.2.2
            have hcD : c < D.length := by omega
            have fD := flat_get hA.1 c hcD
            have fF := flat_get hB.1 c (by omega)
            have aD := hA.1.get hcD
            have aF := hB.1.get (p := c) (by omega)
            refine AWp.blk fun Y3 hY3 => ?_
            refine AWp.reg p_law47_MerkleNear_19 [] s_law47_MerkleNear_19 rfl rfl fun K hK => st_of ?_
            simp only [s_law47_MerkleNear_19, wT, Bool.not_eq_true, ty, zr, Nat.reduceAdd, Nat.reduceSub, Nat.reduceMul, Nat.reduceMod, Nat.reduceDiv, Nat.reduceEqDiff, Nat.reduceLeDiff, Nat.reduceBEq, Int.reduceAdd, Int.reduceSub, Int.reduceMul, Int.reduceNeg, Int.reduceLT, Int.reduceLE, Int.reduceEq, Int.reduceNe, Int.reduceBEq, Int.reduceToNat, Int.reduceTDiv, Int.reduceTMod, Int.reduceOfNat, reduceCtorEq, sty, sui]
            refine hK _ ?_; clear hK K
            refine AWp.drwP mix p_law47_MerkleNear_20 q_law47_MerkleNear_20 g_law47_MerkleNear_20 s_law47_MerkleNear_20 rfl (by decide +kernel) fun K hK => sp_of ?_
            simp only [s_law47_MerkleNear_20, wT, Bool.not_eq_true, ty, zr, Nat.reduceAdd, Nat.reduceSub, Nat.reduceMul, Nat.reduceMod, Nat.reduceDiv, Nat.reduceEqDiff, Nat.reduceLeDiff, Nat.reduceBEq, Int.reduceAdd, Int.reduceSub, Int.reduceMul, Int.reduceNeg, Int.reduceLT, Int.reduceLE, Int.reduceEq, Int.reduceNe, Int.reduceBEq, Int.reduceToNat, Int.reduceTDiv, Int.reduceTMod, Int.reduceOfNat, reduceCtorEq, sty, sui]
            simp only [gP, gQ, hfA, hfB, hlen, fD, fF, aD, aF, wT, Bool.not_eq_true, ty, zr, Nat.reduceAdd, Nat.reduceSub, Nat.reduceMul, Nat.reduceMod, Nat.reduceDiv, Nat.reduceEqDiff, Nat.reduceLeDiff, Nat.reduceBEq, Int.reduceAdd, Int.reduceSub, Int.reduceMul, Int.reduceNeg, Int.reduceLT, Int.reduceLE, Int.reduceEq, Int.reduceNe, Int.reduceBEq, Int.reduceToNat, Int.reduceTDiv, Int.reduceTMod, Int.reduceOfNat, reduceCtorEq, sty, sui]
            (repeat ((with_reducible refine And.intro ?_ ?_); (first | omega | exact True.intro | with_reducible rfl | decide | assumption | rfl)))
            refine hK _ ?_; clear hK K
            refine AWp.iteE rfl (fun hb => ?_) (fun hb => ?_)
            · try simp only [decide_eq_true_eq, decide_eq_false_iff_not, beq_iff_eq, bne_iff_ne, ne_eq, Bool.not_eq_true, beq_eq_false_iff_ne, bne_eq_false_iff_eq, Bool.not_eq_false, Bool.not_eq_eq_eq_not, Bool.not_true, Bool.not_false] at hb
              have hcn : (cntF D F c : Int) + 1 = ((cntF D F (c + 1) : Nat) : Int) := by rw [cntF, if_neg hb]; rfl
              refine AWp.regE p_law47_MerkleNear_21 [] s_law47_MerkleNear_21 rfl rfl (st_of ?_)
              simp only [s_law47_MerkleNear_21, wT, Bool.not_eq_true, ty, zr, Nat.reduceAdd, Nat.reduceSub, Nat.reduceMul, Nat.reduceMod, Nat.reduceDiv, Nat.reduceEqDiff, Nat.reduceLeDiff, Nat.reduceBEq, Int.reduceAdd, Int.reduceSub, Int.reduceMul, Int.reduceNeg, Int.reduceLT, Int.reduceLE, Int.reduceEq, Int.reduceNe, Int.reduceBEq, Int.reduceToNat, Int.reduceTDiv, Int.reduceTMod, Int.reduceOfNat, reduceCtorEq, sty, sui]
              try simp (disch := first | omega | (simp only [List.length_set, List.length_replicate, List.length_append, List.length_nil]; first | done | omega)) only [aT, Int.reduceToNat, List.length_set, List.length_replicate, List.length_append, List.length_nil]
              try simp only [thenQ, bq, lq, lf, iq, gq, Nat.reduceEqDiff, if_true, if_false]
              refine hY3 _ ?_
              try clear hY3 Y3
              refine AWp.regE p_law47_MerkleNear_22 [] s_law47_MerkleNear_22 rfl rfl (st_of ?_)
              simp only [s_law47_MerkleNear_22, wT, Bool.not_eq_true, ty, zr, Nat.reduceAdd, Nat.reduceSub, Nat.reduceMul, Nat.reduceMod, Nat.reduceDiv, Nat.reduceEqDiff, Nat.reduceLeDiff, Nat.reduceBEq, Int.reduceAdd, Int.reduceSub, Int.reduceMul, Int.reduceNeg, Int.reduceLT, Int.reduceLE, Int.reduceEq, Int.reduceNe, Int.reduceBEq, Int.reduceToNat, Int.reduceTDiv, Int.reduceTMod, Int.reduceOfNat, reduceCtorEq, sty, sui]
              try simp (disch := first | omega | (simp only [List.length_set, List.length_replicate, List.length_append, List.length_nil]; first | done | omega)) only [aT, Int.reduceToNat, List.length_set, List.length_replicate, List.length_append, List.length_nil]
              try simp only [thenQ, bq, lq, lf, iq, gq, Nat.reduceEqDiff, if_true, if_false]
              first | exact ⟨by omega, Le.ofA⟩ | exact Le.ofA
            · try simp only [decide_eq_true_eq, decide_eq_false_iff_not, beq_iff_eq, bne_iff_ne, ne_eq, Bool.not_eq_true, beq_eq_false_iff_ne, bne_eq_false_iff_eq, Bool.not_eq_false, Bool.not_eq_eq_eq_not, Bool.not_true, Bool.not_false] at hb
              have hcn : (cntF D F c : Int) = ((cntF D F (c + 1) : Nat) : Int) := by rw [cntF, if_pos hb]; rfl
              refine AWp.skip ?_
              try simp only [thenQ, bq, lq, lf, iq, gq, Nat.reduceEqDiff, if_true, if_false]
              refine hY3 _ ?_
              try clear hY3 Y3
              refine AWp.regE p_law47_MerkleNear_22 [] s_law47_MerkleNear_22 rfl rfl (st_of ?_)
              simp only [s_law47_MerkleNear_22, wT, Bool.not_eq_true, ty, zr, Nat.reduceAdd, Nat.reduceSub, Nat.reduceMul, Nat.reduceMod, Nat.reduceDiv, Nat.reduceEqDiff, Nat.reduceLeDiff, Nat.reduceBEq, Int.reduceAdd, Int.reduceSub, Int.reduceMul, Int.reduceNeg, Int.reduceLT, Int.reduceLE, Int.reduceEq, Int.reduceNe, Int.reduceBEq, Int.reduceToNat, Int.reduceTDiv, Int.reduceTMod, Int.reduceOfNat, reduceCtorEq, sty, sui]
              try simp (disch := first | omega | (simp only [List.length_set, List.length_replicate, List.length_append, List.length_nil]; first | done | omega)) only [aT, Int.reduceToNat, List.length_set, List.length_replicate, List.length_append, List.length_nil]
              try simp only [thenQ, bq, lq, lf, iq, gq, Nat.reduceEqDiff, if_true, if_false]
              first | exact ⟨by omega, Le.ofA⟩ | exact Le.ofA
          · try simp only [decide_eq_true_eq, decide_eq_false_iff_not, beq_iff_eq, bne_iff_ne, ne_eq, Bool.not_eq_true, beq_eq_false_iff_ne, bne_eq_false_iff_eq, Bool.not_eq_false, Bool.not_eq_eq_eq_not, Bool.not_true, Bool.not_false] at hb
            try simp only [thenQ, bq, lq, lf, iq, gq, Nat.reduceEqDiff, if_true, if_false]
            refine hX2 _ ?_
            try clear hX2 X2
            obtain rfl : c = D.length := by omega
            try simp only [thenQ, bq, lq, lf, iq, gq, Nat.reduceEqDiff, if_true, if_false]
            refine hG177 _ ?_
            try clear hG177 G177
            refine AWp.drwJ mix p_law47_MerkleNear_23 q_law47_MerkleNear_23 g_law47_MerkleNear_23 s_law47_MerkleNear_23 ⟨[(0, .slice false (.ext x) 0 n 16), (7, .int .i64 k), (8, .slice true (.own 1) 0 n 16), (9, .ptr (.own (2 * n + 1)) 0), (10, .ptr (.own (4 * n + 1)) 0), (45, .int .i64 n), (46, .int .i64 j), (115, .bool false)], some (.ints .u8 y) :: some (.ints .u8 m) :: RR⟩ rfl (by decide +kernel) (fun K hK => sp_of ?_) ?_
            · simp only [s_law47_MerkleNear_23, wT, Bool.not_eq_true, ty, zr, Nat.reduceAdd, Nat.reduceSub, Nat.reduceMul, Nat.reduceMod, Nat.reduceDiv, Nat.reduceEqDiff, Nat.reduceLeDiff, Nat.reduceBEq, Int.reduceAdd, Int.reduceSub, Int.reduceMul, Int.reduceNeg, Int.reduceLT, Int.reduceLE, Int.reduceEq, Int.reduceNe, Int.reduceBEq, Int.reduceToNat, Int.reduceTDiv, Int.reduceTMod, Int.reduceOfNat, reduceCtorEq, sty, sui]
              refine ⟨fun h => by exfalso; omega, fun h2 => ⟨fun h3 => ⟨fun h4 => by exfalso; have := hown (by omega); omega, fun h4 => ?_⟩, fun h3 => ?_⟩⟩
              · refine ⟨⟨by omega, by omega⟩, by rw [lm]; omega, ?_⟩
                refine sp_call fun K1 hK1 => ?_
                simp only [calleeC, wT, Bool.not_eq_true, ty, zr, Nat.reduceAdd, Nat.reduceSub, Nat.reduceMul, Nat.reduceMod, Nat.reduceDiv, Nat.reduceEqDiff, Nat.reduceLeDiff, Nat.reduceBEq, Int.reduceAdd, Int.reduceSub, Int.reduceMul, Int.reduceNeg, Int.reduceLT, Int.reduceLE, Int.reduceEq, Int.reduceNe, Int.reduceBEq, Int.reduceToNat, Int.reduceTDiv, Int.reduceTMod, Int.reduceOfNat, reduceCtorEq, sty, sui]
                refine hK1 _ _ ?_
                clear hK1 K1
                simp only [CallTo, AV.mapL, AV.map, mapL_flat, mapL_flat1]
                refine ⟨_, _, Root_top _ _ _ m n (LB2 _ _ _ _) (TB2 _ _ _ _), ?_⟩
                simp only [wT, Bool.not_eq_true, ty, zr, Nat.reduceAdd, Nat.reduceSub, Nat.reduceMul, Nat.reduceMod, Nat.reduceDiv, Nat.reduceEqDiff, Nat.reduceLeDiff, Nat.reduceBEq, Int.reduceAdd, Int.reduceSub, Int.reduceMul, Int.reduceNeg, Int.reduceLT, Int.reduceLE, Int.reduceEq, Int.reduceNe, Int.reduceBEq, Int.reduceToNat, Int.reduceTDiv, Int.reduceTMod, Int.reduceOfNat, reduceCtorEq, sty, sui]
                try simp only [hR, h16]
                refine sp_call fun K1 hK1 => ?_
                simp only [calleeC, wT, Bool.not_eq_true, ty, zr, Nat.reduceAdd, Nat.reduceSub, Nat.reduceMul, Nat.reduceMod, Nat.reduceDiv, Nat.reduceEqDiff, Nat.reduceLeDiff, Nat.reduceBEq, Int.reduceAdd, Int.reduceSub, Int.reduceMul, Int.reduceNeg, Int.reduceLT, Int.reduceLE, Int.reduceEq, Int.reduceNe, Int.reduceBEq, Int.reduceToNat, Int.reduceTDiv, Int.reduceTMod, Int.reduceOfNat, reduceCtorEq, sty, sui]
                refine hK1 _ _ ?_
                clear hK1 K1
                simp only [CallTo, AV.mapL, AV.map, mapL_flat, mapL_flat1]
                refine ⟨_, _, Check_ok _ _ _ F.flatten hR h16 _ (by simp only [Sy.look, List.getElem?_cons_succ]; rw [gQ]; rfl) 0 D.length n j _ hj (by omega) (by omega) (by omega), ?_⟩
                simp only [hc, wT, Bool.not_eq_true, ty, zr, Nat.reduceAdd, Nat.reduceSub, Nat.reduceMul, Nat.reduceMod, Nat.reduceDiv, Nat.reduceEqDiff, Nat.reduceLeDiff, Nat.reduceBEq, Int.reduceAdd, Int.reduceSub, Int.reduceMul, Int.reduceNeg, Int.reduceLT, Int.reduceLE, Int.reduceEq, Int.reduceNe, Int.reduceBEq, Int.reduceToNat, Int.reduceTDiv, Int.reduceTMod, Int.reduceOfNat, reduceCtorEq, sty, sui]
                exact hK _ (Le.ofA)
              · refine ⟨⟨by omega, by omega⟩, by rw [lm]; omega, ?_⟩
                refine sp_call fun K1 hK1 => ?_
                simp only [calleeC, wT, Bool.not_eq_true, ty, zr, Nat.reduceAdd, Nat.reduceSub, Nat.reduceMul, Nat.reduceMod, Nat.reduceDiv, Nat.reduceEqDiff, Nat.reduceLeDiff, Nat.reduceBEq, Int.reduceAdd, Int.reduceSub, Int.reduceMul, Int.reduceNeg, Int.reduceLT, Int.reduceLE, Int.reduceEq, Int.reduceNe, Int.reduceBEq, Int.reduceToNat, Int.reduceTDiv, Int.reduceTMod, Int.reduceOfNat, reduceCtorEq, sty, sui]
                refine hK1 _ _ ?_
                clear hK1 K1
                simp only [CallTo, AV.mapL, AV.map, mapL_flat, mapL_flat1]
                refine ⟨_, _, Root_top _ _ _ m n (LB2 _ _ _ _) (TB2 _ _ _ _), ?_⟩
                simp only [wT, Bool.not_eq_true, ty, zr, Nat.reduceAdd, Nat.reduceSub, Nat.reduceMul, Nat.reduceMod, Nat.reduceDiv, Nat.reduceEqDiff, Nat.reduceLeDiff, Nat.reduceBEq, Int.reduceAdd, Int.reduceSub, Int.reduceMul, Int.reduceNeg, Int.reduceLT, Int.reduceLE, Int.reduceEq, Int.reduceNe, Int.reduceBEq, Int.reduceToNat, Int.reduceTDiv, Int.reduceTMod, Int.reduceOfNat, reduceCtorEq, sty, sui]
                try simp only [hR, h16]
                refine sp_call fun K1 hK1 => ?_
                simp only [calleeC, wT, Bool.not_eq_true, ty, zr, Nat.reduceAdd, Nat.reduceSub, Nat.reduceMul, Nat.reduceMod, Nat.reduceDiv, Nat.reduceEqDiff, Nat.reduceLeDiff, Nat.reduceBEq, Int.reduceAdd, Int.reduceSub, Int.reduceMul, Int.reduceNeg, Int.reduceLT, Int.reduceLE, Int.reduceEq, Int.reduceNe, Int.reduceBEq, Int.reduceToNat, Int.reduceTDiv, Int.reduceTMod, Int.reduceOfNat, reduceCtorEq, sty, sui]
                refine hK1 _ _ ?_
                clear hK1 K1
                simp only [CallTo, AV.mapL, AV.map, mapL_flat, mapL_flat1]
                refine ⟨_, _, Check_ok _ _ _ F.flatten hR h16 _ (by simp only [Sy.look, List.getElem?_cons_succ]; rw [gQ]; rfl) 0 D.length n j _ hj (by omega) (by omega) (by omega), ?_⟩
                simp only [hc, wT, Bool.not_eq_true, ty, zr, Nat.reduceAdd, Nat.reduceSub, Nat.reduceMul, Nat.reduceMod, Nat.reduceDiv, Nat.reduceEqDiff, Nat.reduceLeDiff, Nat.reduceBEq, Int.reduceAdd, Int.reduceSub, Int.reduceMul, Int.reduceNeg, Int.reduceLT, Int.reduceLE, Int.reduceEq, Int.reduceNe, Int.reduceBEq, Int.reduceToNat, Int.reduceTDiv, Int.reduceTMod, Int.reduceOfNat, reduceCtorEq, sty, sui]
                exact hK _ (Le.ofA)
            refine AWp.iteE rfl (fun hb => ?_) (fun hb => ?_)
            · try simp only [decide_eq_true_eq, decide_eq_false_iff_not, beq_iff_eq, bne_iff_ne, ne_eq, Bool.not_eq_true, beq_eq_false_iff_ne, bne_eq_false_iff_eq, Bool.not_eq_false, Bool.not_eq_eq_eq_not, Bool.not_true, Bool.not_false] at hb
              (first | exact absurd trivial hb | exact absurd rfl hb | cases hb | (exfalso; omega) | (simp at hb; done))
            · try simp only [decide_eq_true_eq, decide_eq_false_iff_not, beq_iff_eq, bne_iff_ne, ne_eq, Bool.not_eq_true, beq_eq_false_iff_ne, bne_eq_false_iff_eq, Bool.not_eq_false, Bool.not_eq_eq_eq_not, Bool.not_true, Bool.not_false] at hb
              refine AWp.skip ?_
              try simp only [thenQ, bq, lq, lf, iq, gq, Nat.reduceEqDiff, if_true, if_false]
              refine hY1 _ ?_
              try clear hY1 Y1
              refine AWp.regE p_law47_MerkleNear_25 [] s_law47_MerkleNear_25 rfl rfl (st_of ?_)
              simp only [s_law47_MerkleNear_25, wT, Bool.not_eq_true, ty, zr, Nat.reduceAdd, Nat.reduceSub, Nat.reduceMul, Nat.reduceMod, Nat.reduceDiv, Nat.reduceEqDiff, Nat.reduceLeDiff, Nat.reduceBEq, Int.reduceAdd, Int.reduceSub, Int.reduceMul, Int.reduceNeg, Int.reduceLT, Int.reduceLE, Int.reduceEq, Int.reduceNe, Int.reduceBEq, Int.reduceToNat, Int.reduceTDiv, Int.reduceTMod, Int.reduceOfNat, reduceCtorEq, sty, sui]
              try simp (disch := first | omega | (simp only [List.length_set, List.length_replicate, List.length_append, List.length_nil]; first | done | omega)) only [aT, Int.reduceToNat, List.length_set, List.length_replicate, List.length_append, List.length_nil]
              try simp only [thenQ, bq, lq, lf, iq, gq, Nat.reduceEqDiff, if_true, if_false]
              first | exact ⟨by omega, Le.ofA⟩ | exact Le.ofA
      · try simp only [decide_eq_true_eq, decide_eq_false_iff_not, beq_iff_eq, bne_iff_ne, ne_eq, Bool.not_eq_true, beq_eq_false_iff_ne, bne_eq_false_iff_eq, Bool.not_eq_false, Bool.not_eq_eq_eq_not, Bool.not_true, Bool.not_false] at hb
        try simp only [thenQ, bq, lq, lf, iq, gq, Nat.reduceEqDiff, if_true, if_false]
        refine hX0 _ ?_
        try clear hX0 X0
        obtain rfl : j = n := by omega
        try simp only [thenQ, bq, lq, lf, iq, gq, Nat.reduceEqDiff, if_true, if_false]
        refine hG81 _ ?_
        try clear hG81 G81
        refine AWp.reg p_law47_MerkleNear_26 [] s_law47_MerkleNear_26 rfl rfl fun K hK => st_of ?_
        simp only [s_law47_MerkleNear_26, wT, Bool.not_eq_true, ty, zr, Nat.reduceAdd, Nat.reduceSub, Nat.reduceMul, Nat.reduceMod, Nat.reduceDiv, Nat.reduceEqDiff, Nat.reduceLeDiff, Nat.reduceBEq, Int.reduceAdd, Int.reduceSub, Int.reduceMul, Int.reduceNeg, Int.reduceLT, Int.reduceLE, Int.reduceEq, Int.reduceNe, Int.reduceBEq, Int.reduceToNat, Int.reduceTDiv, Int.reduceTMod, Int.reduceOfNat, reduceCtorEq, sty, sui]
        refine hK _ ?_; clear hK K
        refine AWp.ret ?_
        try simp only [thenQ, bq, lq, lf, iq, gq, Nat.reduceEqDiff, if_true, if_false]
        simp only [endQ, rs_law47_MerkleNear, resC, one, wT, Bool.not_eq_true, ty, zr, Nat.reduceAdd, Nat.reduceSub, Nat.reduceMul, Nat.reduceMod, Nat.reduceDiv, Nat.reduceEqDiff, Nat.reduceLeDiff, Nat.reduceBEq, Int.reduceAdd, Int.reduceSub, Int.reduceMul, Int.reduceNeg, Int.reduceLT, Int.reduceLE, Int.reduceEq, Int.reduceNe, Int.reduceBEq, Int.reduceToNat, Int.reduceTDiv, Int.reduceTMod, Int.reduceOfNat, reduceCtorEq, sty, sui]
        repeat' (first | exact True.intro | (with_reducible rfl) | (with_reducible apply And.intro) | omega | rfl)
theorem law_ins (ins : List In) (h : insFit Try.prog [22, 5, 27] ins) : FnOk Try.prog 7 (insE ins) (insAv 0 ins) [] (.bool true) [] := by
  match ins, h with
  | [i0, i1, i2], h =>
    obtain ⟨ln, l, rfl, bl, hl, wl⟩ := fits_slca Try.underlying22 Try.underlying27 Try.underlying5 h.1
    replace bl : ln ≤ 140737488351232 := (by have e : Try.prog.bytesOf 27 = 16 := (by kernel_rfl); have := reach_lt; rw [e] at bl; omega)
    obtain ⟨i, rfl, wi⟩ := fits_int Try.underlying5 h.2.1
    obtain ⟨y, rfl, hy, wy⟩ := fits_arr Try.underlying27 Try.underlying5 h.2.2.1
    by_cases h1 : ln = 0 ∨ 40 < ln
    · exact law_long _ y hy 0 ln i h1
    · have hi : 0 ≤ i ∧ i < 256 := wf_u8 wi
      obtain ⟨i, rfl⟩ : ∃ k : Nat, (k : Int) = i := ⟨i.toNat, by omega⟩
      exact law_ok _ y hy (fun i => wfl_u8 wy i) 0 ln l rfl hl (fun i => wfl_u8 wl i) (by omega) (by omega) i (by omega)
open Go.ChangeShapes Go.WideShapes Go.ChangeAt Go.RowKit
theorem own : ownKnob Try.prog.godebug = none := by kernel_rfl
theorem laidOut : laidOutB Try.prog = true := by kernel_rfl
set_option maxRecDepth 100000 in
theorem lifted (os : Os) (started : os.Started) (H : Type) (enc : TypeId × Value → H) :
    ReturnsInHanded {} Try.checked os 7 .any (Rows.merkleNearSpec.pre6 enc Try.prog Try.f7 Rows.merkleNearRow.domain false) (Rows.merkleNearSpec.post enc Try.prog Try.f7 false true false false) := by
  refine returnsInHanded_of_change_sized (C := Try.checked) own started (by kernel_rfl) Try.func7
    (ChangeSpec.witness6 (enc := enc) (C := Try.checked) false ⟨#[], #[.slice none 0 0, .int .u8 0, .agg #[.int .u8 0, .int .u8 0, .int .u8 0, .int .u8 0, .int .u8 0, .int .u8 0, .int .u8 0, .int .u8 0, .int .u8 0, .int .u8 0, .int .u8 0, .int .u8 0, .int .u8 0, .int .u8 0, .int .u8 0, .int .u8 0]], []⟩ 8 (by kernel_rfl) (by kernel_rfl) (by kernel_rfl) (by kernel_rfl)) ?_
  intro W base args ds gs before hval0 hW hcnd hsz _
  have hW' := hW
  obtain ⟨p, q, hA, hV, rfl, hfz, hnd⟩ := hW
  obtain ⟨rfl, rfl⟩ := trodVars_none hV
  have hA2 := hA
  rw [Try.params7] at hA2
  obtain ⟨ins, hfit, hins⟩ := open_all (P := Try.prog) (W := W) (ts := Try.f7.params.toList) (r := .any) (b0 := base) (by kernel_rfl)
    (fun j t v h1 h2 => hval0 j t v (by simpa using h1) (by simpa using h2))
    (fun j t d h1 h2 => sized_any hsz h1 h2) hA
  rw [Try.params7] at hfit
  obtain ⟨v0, vs0, d0, ds0, p0, q0, ha0, rfl, hp0, k0, r0⟩ := trodAll_cons hA2
  obtain ⟨v1, vs1, d1, ds1, p1, q1, ha1, rfl, hp1, k1, r1⟩ := trodAll_cons r0
  obtain ⟨v2, vs2, d2, ds2, p2, q2, ha2, rfl, hp2, k2, r2⟩ := trodAll_cons r1
  obtain ⟨_, rfl, _⟩ := trodAll_nil r2
  refine (law_calls (law_ins ins hfit) trivial hins).mono fun e W' ⟨v, he, hv, bel⟩ => ?_
  cases hv
  subst he
  exact ⟨_, rfl, _, _, _, [], _, [], hW', trodAll_mk1 (shut_bool Try.underlying4 _), shut_all laidOut bel (by kernel_rfl) hA, rfl, bel.frame _, fun h => by cases h⟩

theorem over : Rows.merkleNearRow.holds Try.pinned (OpenSpec.ofChange Rows.merkleNearSpec) :=
  OpenClaim.holds_of_wide 7 Try.f7 rfl rfl rfl rfl rfl rfl rfl ⟨rfl, rfl, rfl, rfl, rfl⟩ rfl rfl rfl rfl rfl (by kernel_rfl) Try.func7 (by kernel_rfl)
    (of_decide_eq_true (by kernel_rfl)) (by unfold Func.isWrapper; first | (rw [if_pos (by decide +kernel)]; kernel_rfl) | (rw [if_neg (by decide +kernel)]; exact ⟨rfl, rfl⟩))
    (fun os started H enc _ => lifted os started H enc)

/-- The statement. -/
theorem proved : Rows.MerkleNearSaid := over
end Go.Proofs.Ytdcbgmbpiekbgaa
