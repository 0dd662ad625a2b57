/- Contracts: a new tree; a leaf punctured. -/
import Derived.Test.YtopiceaeombefaaKey7
namespace Go.Proofs.Ytopiceaeombefaa
open Go Go.Proofs.Ytopiceaeombefaa.Sy
set_option linter.unusedSimpArgs false
set_option linter.unusedVariables false
set_option maxRecDepth 100000
set_option maxHeartbeats 2000000


theorem asK_W (n : Nat) : ∀ (f : Nat) (h : HN), h.d + f = 17 → h.a + 2 ^ f ≤ 131072 → WH (asK n f h)
  | 0, _, _, _ => fun e he => by cases he
  | f + 1, h, h1, h2 => by
    have hf : 16 - h.d = f := by omega
    have h3 : 2 ^ (f + 1) = 2 ^ f + 2 ^ f := by rw [Nat.pow_succ]; omega
    have hp : 0 < 2 ^ f := Nat.two_pow_pos f
    have hst : ((stepK n h).1.a + 2 ^ f ≤ 131072) ∧ (stepK n h).2.a < 131072 := by
      unfold stepK
      split
      · exact ⟨by show h.a + 2 ^ (16 - h.d) + 2 ^ f ≤ 131072; rw [hf]; omega, by show h.a < 131072; omega⟩
      · exact ⟨by show h.a + 2 ^ f ≤ 131072; omega, by show h.a + 2 ^ (16 - h.d) < 131072; rw [hf]; omega⟩
    have hd := stepK_d n h
    intro e he
    rw [asK] at he
    rcases List.mem_cons.1 he with rfl | he
    · exact ⟨(stepK_s n h).2, by rw [hd.2]; omega, hst.2⟩
    · exact asK_W n f (stepK n h).1 (by rw [hd.1]; omega) hst.1 e he
def rootN (s : List Int) : HN := ⟨0, 0, s⟩
theorem find_root {α : Type} (E : α → Option (Row α)) (X y : α) (c : AV α) (s : List Int) (hs : s.length = 32) (f : Bool) (hX : E X = some (.mixed [c, .slice f y 0 1 34])) (hy : E y = some (.mixed (cellsH [rootN s]))) (t : Nat) (ht : t < 18446744073709551616) :
    FnOk Try.prog n_keytree_Tree_find E [.ptr (.ext X) 0, .int .u64 (t : Int)] [] (.tuple [.int .i64 (0 : Nat), .bool (decide (t < 131072))]) [] := by
  have hW : WH [rootN s] := fun e he => by rw [List.mem_singleton] at he; subst he; exact ⟨hs, Nat.zero_le _, by show (0 : Nat) < 131072; omega⟩
  by_cases h0 : t = 0
  · subst h0
    exact find_ok E X y c [rootN s] hW f 1 0 0 true hX hy rfl (Nat.zero_le _) (fun j e h => absurd h (Nat.not_lt_zero _)) (fun j e _ _ => Nat.zero_le _) rfl (by omega) 0 true rfl ht
  · refine find_ok E X y c [rootN s] hW f 1 1 t false hX hy rfl (Nat.le_refl _) (fun j e h he => ?_) (fun j e h he => ?_) rfl (by omega) 0 _ ?_ ht
    · obtain rfl : j = 0 := by omega
      cases he
      show 0 < t; omega
    · rw [List.getElem?_eq_none (by simpa using h)] at he; cases he
    · unfold findK
      by_cases h1 : 131072 ≤ t
      · rw [if_pos h1, decide_eq_false (by omega)]
      · rw [if_neg h1, if_neg (by decide), decide_eq_true (by omega)]
        show (if 2 ^ 17 ≤ t - 0 then (0, false) else (0, true)) = _
        rw [if_neg (by omega)]
theorem hC_all {ι : Type} (p : ι → Prop) (e : HN) : AV.AllL p (hC e : List (AV ι)) := by
  refine ⟨trivial, trivial, ?_⟩
  rw [← List.append_nil (flatI _ _), allL_flat]
  trivial
theorem newT_ok {α : Type} (E : α → Option (Row α)) (s : List Int) (hs : s.length = 32) :
    FnOk Try.prog n_keytree_New E [realC, .ints .u8 s] [] (.ptr (.own 0) 0) [some (.mixed [realC, .slice true (.own 1) 0 1 34]), some (.mixed (cellsH [rootN s]))] := by
  have hsk : sub s 0 32 = s := sub_all hs
  obtain ⟨z, hz, hz1, hz2⟩ := node_z
  have hfl : ([List.map ofV z.toList].flatten : List (AV (Sy.Id α))).length = 34 := by simp [hz1]
  have hrc : (AV.int IntKind.i64 0 :: AV.int IntKind.u64 0 :: flatI .u8 s : List (AV (Sy.Id α))) = hC (rootN s) := rfl
  have hl := hC_len (ι := Sy.Id α) (e := rootN s) hs
  have hsp : Sy.splice ([List.map ofV z.toList].flatten : List (AV (Sy.Id α))) 0 (hC (rootN s)) = hC (rootN s) := splice_all (by rw [hl]; simp [hz1])
  refine FnOk.intro func_keytree_New call_keytree_New (body := _) rfl nt_keytree_New (by simp) ?_
  refine AWp.reg p_keytree_New_0 [] s_keytree_New_0 rfl rfl fun K hK => st_of ?_
  simp only [s_keytree_New_0, wT, Bool.not_eq_true, ty, zr, Nat.reduceAdd, Nat.reduceSub, Nat.reduceMul, Nat.reduceMod, Nat.reduceDiv, Nat.reduceEqDiff, Nat.reduceLeDiff, Nat.reduceBEq, Int.reduceAdd, Int.reduceSub, Int.reduceMul, Int.reduceNeg, Int.reduceLT, Int.reduceLE, Int.reduceEq, Int.reduceNe, Int.reduceBEq, Int.reduceToNat, Int.reduceTDiv, Int.reduceTMod, Int.reduceOfNat, reduceCtorEq, sty, sui]
  try simp (disch := first | omega | (simp only [List.length_set, List.length_replicate, List.length_append, List.length_nil]; first | done | omega)) only [aT, Int.reduceToNat, List.length_set, List.length_replicate, List.length_append, List.length_nil]
  (repeat ((with_reducible refine And.intro ?_ ?_); (first | omega | exact True.intro | with_reducible rfl | decide | assumption | rfl)))
  refine hK _ ?_; clear hK K
  refine AWp.grp fun G4 hG4 => ?_
  refine AWp.reg p_keytree_New_1 [] s_keytree_New_1 rfl rfl fun K hK => st_of ?_
  simp only [s_keytree_New_1, wT, Bool.not_eq_true, ty, zr, Nat.reduceAdd, Nat.reduceSub, Nat.reduceMul, Nat.reduceMod, Nat.reduceDiv, Nat.reduceEqDiff, Nat.reduceLeDiff, Nat.reduceBEq, Int.reduceAdd, Int.reduceSub, Int.reduceMul, Int.reduceNeg, Int.reduceLT, Int.reduceLE, Int.reduceEq, Int.reduceNe, Int.reduceBEq, Int.reduceToNat, Int.reduceTDiv, Int.reduceTMod, Int.reduceOfNat, reduceCtorEq, sty, sui]
  try simp (disch := first | omega | (simp only [List.length_set, List.length_replicate, List.length_append, List.length_nil]; first | done | omega)) only [aT, Int.reduceToNat, List.length_set, List.length_replicate, List.length_append, List.length_nil]
  (repeat ((with_reducible refine And.intro ?_ ?_); (first | omega | exact True.intro | with_reducible rfl | decide | assumption | rfl)))
  refine hK _ ?_; clear hK K
  refine AWp.iteE rfl (fun hb => ?_) (fun hb => ?_)
  · try simp only [decide_eq_true_eq, decide_eq_false_iff_not, beq_iff_eq, bne_iff_ne, ne_eq, Bool.not_eq_true, beq_eq_false_iff_ne, bne_eq_false_iff_eq, Bool.not_eq_false, Bool.not_eq_eq_eq_not, Bool.not_true, Bool.not_false] at hb
    (first | exact absurd trivial hb | exact absurd rfl hb | cases hb | (exfalso; omega) | (simp at hb; done))
  · try simp only [decide_eq_true_eq, decide_eq_false_iff_not, beq_iff_eq, bne_iff_ne, ne_eq, Bool.not_eq_true, beq_eq_false_iff_ne, bne_eq_false_iff_eq, Bool.not_eq_false, Bool.not_eq_eq_eq_not, Bool.not_true, Bool.not_false] at hb
    refine AWp.skip ?_
    try simp only [thenQ, bq, lq, lf, iq, gq, Nat.reduceEqDiff, if_true, if_false]
    refine hG4 _ ?_
    try clear hG4 G4
    refine AWp.reg p_keytree_New_3 [] s_keytree_New_3 rfl rfl fun K hK => st_of ?_
    simp only [s_keytree_New_3, wT, Bool.not_eq_true, ty, zr, Nat.reduceAdd, Nat.reduceSub, Nat.reduceMul, Nat.reduceMod, Nat.reduceDiv, Nat.reduceEqDiff, Nat.reduceLeDiff, Nat.reduceBEq, Int.reduceAdd, Int.reduceSub, Int.reduceMul, Int.reduceNeg, Int.reduceLT, Int.reduceLE, Int.reduceEq, Int.reduceNe, Int.reduceBEq, Int.reduceToNat, Int.reduceTDiv, Int.reduceTMod, Int.reduceOfNat, reduceCtorEq, sty, sui]
    try simp (disch := first | omega | (simp only [List.length_set, List.length_replicate, List.length_append, List.length_nil]; first | done | omega)) only [aT, Int.reduceToNat, List.length_set, List.length_replicate, List.length_append, List.length_nil]
    simp only [splice_hC _ _ hs, hrc, hz, hz1, hz2, hl, hfl, hsp, hs, hsk, wT, Bool.not_eq_true, ty, zr, Nat.reduceAdd, Nat.reduceSub, Nat.reduceMul, Nat.reduceMod, Nat.reduceDiv, Nat.reduceEqDiff, Nat.reduceLeDiff, Nat.reduceBEq, Int.reduceAdd, Int.reduceSub, Int.reduceMul, Int.reduceNeg, Int.reduceLT, Int.reduceLE, Int.reduceEq, Int.reduceNe, Int.reduceBEq, Int.reduceToNat, Int.reduceTDiv, Int.reduceTMod, Int.reduceOfNat, reduceCtorEq, sty, sui]
    try simp (disch := first | omega | (simp only [List.length_set, List.length_replicate, List.length_append, List.length_nil]; first | done | omega)) only [aT, Int.reduceToNat, List.length_set, List.length_replicate, List.length_append, List.length_nil]
    repeat' (with_reducible refine And.intro ?_ ?_)
    all_goals (try omega)
    refine hK _ ?_; clear hK K
    refine AWp.ret ?_
    try simp only [thenQ, bq, lq, lf, iq, gq, Nat.reduceEqDiff, if_true, if_false]
    simp only [endQ, rs_keytree_New, resC, one, wT, Bool.not_eq_true, ty, zr, Nat.reduceAdd, Nat.reduceSub, Nat.reduceMul, Nat.reduceMod, Nat.reduceDiv, Nat.reduceEqDiff, Nat.reduceLeDiff, Nat.reduceBEq, Int.reduceAdd, Int.reduceSub, Int.reduceMul, Int.reduceNeg, Int.reduceLT, Int.reduceLE, Int.reduceEq, Int.reduceNe, Int.reduceBEq, Int.reduceToNat, Int.reduceTDiv, Int.reduceTMod, Int.reduceOfNat, reduceCtorEq, sty, sui]
    try simp (disch := first | omega | (simp only [List.length_set, List.length_replicate, List.length_append, List.length_nil]; first | done | omega)) only [aT, Int.reduceToNat, List.length_set, List.length_replicate, List.length_append, List.length_nil]
    refine ⟨[2, 1], by decide, by simp, by rfl, ?_⟩
    refine ⟨rfl, by simp [AV.All, inS], ?_⟩
    simp only [selRows, selRow, List.getElem?_cons_zero, List.getElem?_cons_succ, Option.some.injEq]
    refine ⟨⟨rfl, by simp [Row.All, AV.AllL, AV.All, inS]⟩, ⟨?_, ?_⟩, trivial⟩
    · rw [Row.map, cellsH_map, cellsH_one]
    · rw [Row.All, cellsH_one]; exact hC_all _ _
theorem zr90 {ι : Type} : (zrow Try.prog 90 : Option (Row ι)) = some (.mixed [.nilslice]) := by kernel_rfl
theorem insert_ok2 {α : Type} (E : α → Option (Row α)) (rows : Sy.Rows α) (j k : Nat) (L2 : List (AV (Sy.Id α))) (l : List HN) (m : Nat) (hlm : l.length = m) (hW : WH l) (hj : rows[j]? = some (some (.mixed L2))) (hk : rows[k]? = some (some (.mixed (cellsH l)))) (h0 : 0 < m) (hm : m < 1000) :
    FnOkP Try.prog n_slices_Insert_keytree_Held_keytree_Held E [.slice true (.own j) 0 0 34, .int .i64 0, .slice true (.own k) 0 m 34] rows (fun res rows' => res = .slice true (.own rows.length) 0 m 34 ∧ rows' = rows.set j none ++ [some (.mixed (cellsH l))]) := by
  subst hlm
  exact insert_ok E rows j k L2 l hW hj hk h0 hm
/-- A leaf is punctured in a new tree. -/
theorem punc_ok {α : Type} (E : α → Option (Row α)) (rows : Sy.Rows α) (X j : Nat) (s : List Int) (hs : s.length = 32) (n : Nat) (hn : n < 131072) (hX : rows[X]? = some (some (.mixed [realC, .slice true (.own j) 0 1 34]))) (hj : rows[j]? = some (some (.mixed (cellsH [rootN s])))) (hXj : X ≠ j) :
    FnOkP Try.prog n_keytree_Tree_Puncture E [.ptr (.own X) 0, .int .u64 (n : Int)] rows (fun res rows' => res = .bool true ∧ ∃ (j' : Nat) (l' : List HN), rows'[X]? = some (some (.mixed [realC, .slice true (.own j') 0 17 34])) ∧ rows'[j']? = some (some (.mixed (cellsH l'))) ∧ X ≠ j' ∧ l'.Perm (asK n 17 (rootN s)) ∧ (l'.Pairwise fun a b => a.a ≤ b.a) ∧ rows.length ≤ rows'.length ∧ ∀ i, i < rows.length → i ≠ X → i ≠ j → rows'[i]? = rows[i]?) := by
  have hl := hC_len (ι := Sy.Id α) (e := rootN s) hs
  have hW := asK_W n 17 (rootN s) rfl (by show 0 + 2 ^ 17 ≤ 131072; decide)
  have hal := asK_len n 17 (rootN s)
  have hXl : X < rows.length := (List.getElem?_eq_some_iff.1 hX).1
  have hjl : j < rows.length := (List.getElem?_eq_some_iff.1 hj).1
  have hj' : rows[j]? = some (some (.mixed (hC (rootN s)))) := by rw [hj, cellsH_one]
  refine FnOkP.intro func_keytree_Tree_Puncture call_keytree_Tree_Puncture (body := _) rfl nt_keytree_Tree_Puncture (by simp) ?_
  refine AWp.reg p_keytree_Tree_Puncture_0 [] s_keytree_Tree_Puncture_0 rfl rfl fun K hK => st_of ?_
  simp only [s_keytree_Tree_Puncture_0, wT, Bool.not_eq_true, ty, zr, Nat.reduceAdd, Nat.reduceSub, Nat.reduceMul, Nat.reduceMod, Nat.reduceDiv, Nat.reduceEqDiff, Nat.reduceLeDiff, Nat.reduceBEq, Int.reduceAdd, Int.reduceSub, Int.reduceMul, Int.reduceNeg, Int.reduceLT, Int.reduceLE, Int.reduceEq, Int.reduceNe, Int.reduceBEq, Int.reduceToNat, Int.reduceTDiv, Int.reduceTMod, Int.reduceOfNat, reduceCtorEq, sty, sui]
  try simp (disch := first | omega | (simp only [List.length_set, List.length_replicate, List.length_append, List.length_nil]; first | done | omega)) only [aT, Int.reduceToNat, List.length_set, List.length_replicate, List.length_append, List.length_nil]
  (repeat ((with_reducible refine And.intro ?_ ?_); (first | omega | exact True.intro | with_reducible rfl | decide | assumption | rfl)))
  refine hK _ ?_; clear hK K
  refine AWp.reg p_keytree_Tree_Puncture_1 [] s_keytree_Tree_Puncture_1 rfl rfl fun K hK => st_of ?_
  simp only [s_keytree_Tree_Puncture_1, wT, Bool.not_eq_true, ty, zr, Nat.reduceAdd, Nat.reduceSub, Nat.reduceMul, Nat.reduceMod, Nat.reduceDiv, Nat.reduceEqDiff, Nat.reduceLeDiff, Nat.reduceBEq, Int.reduceAdd, Int.reduceSub, Int.reduceMul, Int.reduceNeg, Int.reduceLT, Int.reduceLE, Int.reduceEq, Int.reduceNe, Int.reduceBEq, Int.reduceToNat, Int.reduceTDiv, Int.reduceTMod, Int.reduceOfNat, reduceCtorEq, sty, sui]
  try simp (disch := first | omega | (simp only [List.length_set, List.length_replicate, List.length_append, List.length_nil]; first | done | omega)) only [aT, Int.reduceToNat, List.length_set, List.length_replicate, List.length_append, List.length_nil]
  (repeat ((with_reducible refine And.intro ?_ ?_); (first | omega | exact True.intro | with_reducible rfl | decide | assumption | rfl)))
  refine st_call fun K1 hK1 => ?_
  simp only [calleeC, wT, Bool.not_eq_true, ty, zr, Nat.reduceAdd, Nat.reduceSub, Nat.reduceMul, Nat.reduceMod, Nat.reduceDiv, Nat.reduceEqDiff, Nat.reduceLeDiff, Nat.reduceBEq, Int.reduceAdd, Int.reduceSub, Int.reduceMul, Int.reduceNeg, Int.reduceLT, Int.reduceLE, Int.reduceEq, Int.reduceNe, Int.reduceBEq, Int.reduceToNat, Int.reduceTDiv, Int.reduceTMod, Int.reduceOfNat, reduceCtorEq, sty, sui]
  try simp (disch := first | omega | (simp only [List.length_set, List.length_replicate, List.length_append, List.length_nil]; first | done | omega)) only [aT, Int.reduceToNat, List.length_set, List.length_replicate, List.length_append, List.length_nil]
  refine hK1 _ _ ?_
  clear hK1 K1
  simp only [CallTo, AV.mapL, AV.map, mapL_flat, mapL_flat1]
  refine ⟨_, FnOk.toP (find_root _ (Sy.Id.own X) (Sy.Id.own j) realC s hs true (by simp only [Sy.look, hX, Option.join_some]) (by simp only [Sy.look, hj, Option.join_some]) n (by omega)) ⟨rfl, rfl⟩, ofEq ?_⟩
  simp only [wT, Bool.not_eq_true, ty, zr, Nat.reduceAdd, Nat.reduceSub, Nat.reduceMul, Nat.reduceMod, Nat.reduceDiv, Nat.reduceEqDiff, Nat.reduceLeDiff, Nat.reduceBEq, Int.reduceAdd, Int.reduceSub, Int.reduceMul, Int.reduceNeg, Int.reduceLT, Int.reduceLE, Int.reduceEq, Int.reduceNe, Int.reduceBEq, Int.reduceToNat, Int.reduceTDiv, Int.reduceTMod, Int.reduceOfNat, reduceCtorEq, sty, sui]
  try simp (disch := first | omega | (simp only [List.length_set, List.length_replicate, List.length_append, List.length_nil]; first | done | omega)) only [aT, Int.reduceToNat, List.length_set, List.length_replicate, List.length_append, List.length_nil]
  (repeat ((with_reducible refine And.intro ?_ ?_); (first | omega | exact True.intro | with_reducible rfl | decide | assumption | rfl)))
  refine hK _ ?_; clear hK K
  refine AWp.grp fun G16 hG16 => ?_
  refine AWp.reg p_keytree_Tree_Puncture_2 [] s_keytree_Tree_Puncture_2 rfl rfl fun K hK => st_of ?_
  simp only [s_keytree_Tree_Puncture_2, wT, Bool.not_eq_true, ty, zr, Nat.reduceAdd, Nat.reduceSub, Nat.reduceMul, Nat.reduceMod, Nat.reduceDiv, Nat.reduceEqDiff, Nat.reduceLeDiff, Nat.reduceBEq, Int.reduceAdd, Int.reduceSub, Int.reduceMul, Int.reduceNeg, Int.reduceLT, Int.reduceLE, Int.reduceEq, Int.reduceNe, Int.reduceBEq, Int.reduceToNat, Int.reduceTDiv, Int.reduceTMod, Int.reduceOfNat, reduceCtorEq, sty, sui]
  try simp (disch := first | omega | (simp only [List.length_set, List.length_replicate, List.length_append, List.length_nil]; first | done | omega)) only [aT, Int.reduceToNat, List.length_set, List.length_replicate, List.length_append, List.length_nil]
  (repeat ((with_reducible refine And.intro ?_ ?_); (first | omega | exact True.intro | with_reducible rfl | decide | assumption | rfl)))
  refine hK _ ?_; clear hK K
  refine AWp.iteE rfl (fun hb => ?_) (fun hb => ?_)
  · try simp only [decide_eq_true_eq, decide_eq_false_iff_not, beq_iff_eq, bne_iff_ne, ne_eq, Bool.not_eq_true, beq_eq_false_iff_ne, bne_eq_false_iff_eq, Bool.not_eq_false, Bool.not_eq_eq_eq_not, Bool.not_true, Bool.not_false] at hb
    exfalso; simp at hb; omega
  · try simp only [decide_eq_true_eq, decide_eq_false_iff_not, beq_iff_eq, bne_iff_ne, ne_eq, Bool.not_eq_true, beq_eq_false_iff_ne, bne_eq_false_iff_eq, Bool.not_eq_false, Bool.not_eq_eq_eq_not, Bool.not_true, Bool.not_false] at hb
    refine AWp.skip ?_
    try simp only [thenQ, bq, lq, lf, iq, gq, Nat.reduceEqDiff, if_true, if_false]
    refine hG16 _ ?_
    try clear hG16 G16
    refine AWp.reg p_keytree_Tree_Puncture_4 [] s_keytree_Tree_Puncture_4 rfl rfl fun K hK => st_of ?_
    simp only [s_keytree_Tree_Puncture_4, wT, Bool.not_eq_true, ty, zr, Nat.reduceAdd, Nat.reduceSub, Nat.reduceMul, Nat.reduceMod, Nat.reduceDiv, Nat.reduceEqDiff, Nat.reduceLeDiff, Nat.reduceBEq, Int.reduceAdd, Int.reduceSub, Int.reduceMul, Int.reduceNeg, Int.reduceLT, Int.reduceLE, Int.reduceEq, Int.reduceNe, Int.reduceBEq, Int.reduceToNat, Int.reduceTDiv, Int.reduceTMod, Int.reduceOfNat, reduceCtorEq, sty, sui]
    try simp (disch := first | omega | (simp only [List.length_set, List.length_replicate, List.length_append, List.length_nil]; first | done | omega)) only [aT, Int.reduceToNat, List.length_set, List.length_replicate, List.length_append, List.length_nil]
    simp only [zr90, wT, Bool.not_eq_true, ty, zr, Nat.reduceAdd, Nat.reduceSub, Nat.reduceMul, Nat.reduceMod, Nat.reduceDiv, Nat.reduceEqDiff, Nat.reduceLeDiff, Nat.reduceBEq, Int.reduceAdd, Int.reduceSub, Int.reduceMul, Int.reduceNeg, Int.reduceLT, Int.reduceLE, Int.reduceEq, Int.reduceNe, Int.reduceBEq, Int.reduceToNat, Int.reduceTDiv, Int.reduceTMod, Int.reduceOfNat, reduceCtorEq, sty, sui]
    try simp (disch := first | omega | (simp only [List.length_set, List.length_replicate, List.length_append, List.length_nil]; first | done | omega)) only [aT, Int.reduceToNat, List.length_set, List.length_replicate, List.length_append, List.length_nil]
    refine hK _ ?_; clear hK K
    refine AWp.reg p_keytree_Tree_Puncture_5 q_keytree_Tree_Puncture_5 s_keytree_Tree_Puncture_5 rfl rfl fun K hK => st_of ?_
    simp only [s_keytree_Tree_Puncture_5, wT, Bool.not_eq_true, ty, zr, Nat.reduceAdd, Nat.reduceSub, Nat.reduceMul, Nat.reduceMod, Nat.reduceDiv, Nat.reduceEqDiff, Nat.reduceLeDiff, Nat.reduceBEq, Int.reduceAdd, Int.reduceSub, Int.reduceMul, Int.reduceNeg, Int.reduceLT, Int.reduceLE, Int.reduceEq, Int.reduceNe, Int.reduceBEq, Int.reduceToNat, Int.reduceTDiv, Int.reduceTMod, Int.reduceOfNat, reduceCtorEq, sty, sui]
    try simp (disch := first | omega | (simp only [List.length_set, List.length_replicate, List.length_append, List.length_nil]; first | done | omega)) only [aT, Int.reduceToNat, List.length_set, List.length_replicate, List.length_append, List.length_nil]
    simp only [gl hX, gl hj', hl, normL_hC (e := rootN s) hs, wT, Bool.not_eq_true, ty, zr, Nat.reduceAdd, Nat.reduceSub, Nat.reduceMul, Nat.reduceMod, Nat.reduceDiv, Nat.reduceEqDiff, Nat.reduceLeDiff, Nat.reduceBEq, Int.reduceAdd, Int.reduceSub, Int.reduceMul, Int.reduceNeg, Int.reduceLT, Int.reduceLE, Int.reduceEq, Int.reduceNe, Int.reduceBEq, Int.reduceToNat, Int.reduceTDiv, Int.reduceTMod, Int.reduceOfNat, reduceCtorEq, sty, sui]
    try simp (disch := first | omega | (simp only [List.length_set, List.length_replicate, List.length_append, List.length_nil]; first | done | omega)) only [aT, Int.reduceToNat, List.length_set, List.length_replicate, List.length_append, List.length_nil]
    repeat' (with_reducible refine And.intro ?_ ?_)
    all_goals (try omega)
    (repeat ((with_reducible refine And.intro ?_ ?_); (first | omega | exact True.intro | with_reducible rfl | decide | assumption | rfl)))
    refine st_scall fun K1 hK1 => ?_
    simp only [calleeC, wT, Bool.not_eq_true, ty, zr, Nat.reduceAdd, Nat.reduceSub, Nat.reduceMul, Nat.reduceMod, Nat.reduceDiv, Nat.reduceEqDiff, Nat.reduceLeDiff, Nat.reduceBEq, Int.reduceAdd, Int.reduceSub, Int.reduceMul, Int.reduceNeg, Int.reduceLT, Int.reduceLE, Int.reduceEq, Int.reduceNe, Int.reduceBEq, Int.reduceToNat, Int.reduceTDiv, Int.reduceTMod, Int.reduceOfNat, reduceCtorEq, sty, sui]
    try simp (disch := first | omega | (simp only [List.length_set, List.length_replicate, List.length_append, List.length_nil]; first | done | omega)) only [aT, Int.reduceToNat, List.length_set, List.length_replicate, List.length_append, List.length_nil]
    refine hK1 _ _ ?_
    clear hK1 K1
    simp only [SameTo]
    refine ⟨_, down_ok E (rows ++ [some (.mixed [.nilslice])]) X _ [rows.length] (.func n_keytree_Tree_Puncture_1 [.ptr (.own rows.length) 0]) (fun r S l => Rest r S rows.length l) (rootN s) n 17 hs rfl (by show (0 : Nat) < 131072; omega) hn (gl hX) (by simp; omega) (keep_ok E rows.length) (.inl ⟨rfl, rfl, ge0 _ _⟩) (fun r S l junk h => h.app junk) (fun r S l i x h hi => h.set hi x) (fun r S l i h hi => h.lt hi) hW, fun res rows1 ⟨hres, S1, hR, hF⟩ => ?_⟩
    subst hres
    simp only [wT, Bool.not_eq_true, ty, zr, Nat.reduceAdd, Nat.reduceSub, Nat.reduceMul, Nat.reduceMod, Nat.reduceDiv, Nat.reduceEqDiff, Nat.reduceLeDiff, Nat.reduceBEq, Int.reduceAdd, Int.reduceSub, Int.reduceMul, Int.reduceNeg, Int.reduceLT, Int.reduceLE, Int.reduceEq, Int.reduceNe, Int.reduceBEq, Int.reduceToNat, Int.reduceTDiv, Int.reduceTMod, Int.reduceOfNat, reduceCtorEq, sty, sui]
    try simp (disch := first | omega | (simp only [List.length_set, List.length_replicate, List.length_append, List.length_nil]; first | done | omega)) only [aT, Int.reduceToNat, List.length_set, List.length_replicate, List.length_append, List.length_nil]
    (repeat ((with_reducible refine And.intro ?_ ?_); (first | omega | exact True.intro | with_reducible rfl | decide | assumption | rfl)))
    refine hK _ ?_; clear hK K
    have kX := hF.keep (gl hX) (by simp; omega)
    have kj := hF.keep (gl hj) (by simp; omega)
    obtain ⟨j2, h2R, hS1, hR1, hj2⟩ : ∃ j2, j2 ≠ rows.length ∧ S1 = [rows.length, j2] ∧ rows1[rows.length]? = some (some (.mixed [.slice true (.own j2) 0 (asK n 17 (rootN s)).length 34])) ∧ rows1[j2]? = some (some (.mixed (cellsH (asK n 17 (rootN s))))) := by
      rcases hR with ⟨_, h, _⟩ | h
      · rw [h] at hal; cases hal
      · exact h
    have hXj2 : X ≠ j2 := fun e => kX.2 (by rw [hS1, e]; simp)
    have hjj2 : j ≠ j2 := fun e => kj.2 (by rw [hS1, e]; simp)
    refine AWp.reg p_keytree_Tree_Puncture_6 q_keytree_Tree_Puncture_6 s_keytree_Tree_Puncture_6 rfl rfl fun K hK => st_of ?_
    simp only [s_keytree_Tree_Puncture_6, wT, Bool.not_eq_true, ty, zr, Nat.reduceAdd, Nat.reduceSub, Nat.reduceMul, Nat.reduceMod, Nat.reduceDiv, Nat.reduceEqDiff, Nat.reduceLeDiff, Nat.reduceBEq, Int.reduceAdd, Int.reduceSub, Int.reduceMul, Int.reduceNeg, Int.reduceLT, Int.reduceLE, Int.reduceEq, Int.reduceNe, Int.reduceBEq, Int.reduceToNat, Int.reduceTDiv, Int.reduceTMod, Int.reduceOfNat, reduceCtorEq, sty, sui]
    try simp (disch := first | omega | (simp only [List.length_set, List.length_replicate, List.length_append, List.length_nil]; first | done | omega)) only [aT, Int.reduceToNat, List.length_set, List.length_replicate, List.length_append, List.length_nil]
    simp only [hR1, wT, Bool.not_eq_true, ty, zr, Nat.reduceAdd, Nat.reduceSub, Nat.reduceMul, Nat.reduceMod, Nat.reduceDiv, Nat.reduceEqDiff, Nat.reduceLeDiff, Nat.reduceBEq, Int.reduceAdd, Int.reduceSub, Int.reduceMul, Int.reduceNeg, Int.reduceLT, Int.reduceLE, Int.reduceEq, Int.reduceNe, Int.reduceBEq, Int.reduceToNat, Int.reduceTDiv, Int.reduceTMod, Int.reduceOfNat, reduceCtorEq, sty, sui]
    try simp (disch := first | omega | (simp only [List.length_set, List.length_replicate, List.length_append, List.length_nil]; first | done | omega)) only [aT, Int.reduceToNat, List.length_set, List.length_replicate, List.length_append, List.length_nil]
    repeat' (with_reducible refine And.intro ?_ ?_)
    all_goals (try omega)
    (repeat ((with_reducible refine And.intro ?_ ?_); (first | omega | exact True.intro | with_reducible rfl | decide | assumption | rfl)))
    refine st_scall fun K1 hK1 => ?_
    simp only [calleeC, wT, Bool.not_eq_true, ty, zr, Nat.reduceAdd, Nat.reduceSub, Nat.reduceMul, Nat.reduceMod, Nat.reduceDiv, Nat.reduceEqDiff, Nat.reduceLeDiff, Nat.reduceBEq, Int.reduceAdd, Int.reduceSub, Int.reduceMul, Int.reduceNeg, Int.reduceLT, Int.reduceLE, Int.reduceEq, Int.reduceNe, Int.reduceBEq, Int.reduceToNat, Int.reduceTDiv, Int.reduceTMod, Int.reduceOfNat, reduceCtorEq, sty, sui]
    try simp (disch := first | omega | (simp only [List.length_set, List.length_replicate, List.length_append, List.length_nil]; first | done | omega)) only [aT, Int.reduceToNat, List.length_set, List.length_replicate, List.length_append, List.length_nil]
    refine hK1 _ _ ?_
    clear hK1 K1
    simp only [SameTo]
    refine ⟨_, sort_ok E rows1 j2 (asK n 17 (rootN s)) hW hj2 (by omega) (by omega), fun res rows2 ⟨hres, l', hr2, hperm, hsrt⟩ => ?_⟩
    subst hres
    simp only [wT, Bool.not_eq_true, ty, zr, Nat.reduceAdd, Nat.reduceSub, Nat.reduceMul, Nat.reduceMod, Nat.reduceDiv, Nat.reduceEqDiff, Nat.reduceLeDiff, Nat.reduceBEq, Int.reduceAdd, Int.reduceSub, Int.reduceMul, Int.reduceNeg, Int.reduceLT, Int.reduceLE, Int.reduceEq, Int.reduceNe, Int.reduceBEq, Int.reduceToNat, Int.reduceTDiv, Int.reduceTMod, Int.reduceOfNat, reduceCtorEq, sty, sui]
    try simp (disch := first | omega | (simp only [List.length_set, List.length_replicate, List.length_append, List.length_nil]; first | done | omega)) only [aT, Int.reduceToNat, List.length_set, List.length_replicate, List.length_append, List.length_nil]
    (repeat ((with_reducible refine And.intro ?_ ?_); (first | omega | exact True.intro | with_reducible rfl | decide | assumption | rfl)))
    refine hK _ ?_; clear hK K
    have hl'17 : l'.length = 17 := by rw [hperm.length_eq, hal]
    have hW' : WH l' := fun e he => hW e (hperm.mem_iff.1 he)
    have mX : rows2[X]? = some (some (.mixed [realC, .slice true (.own j) 0 1 34])) := by rw [hr2]; exact gn hXj2.symm kX.1
    have mj : rows2[j]? = some (some (.mixed (cellsH [rootN s]))) := by rw [hr2]; exact gn hjj2.symm kj.1
    have mR : rows2[rows.length]? = some (some (.mixed [.slice true (.own j2) 0 (asK n 17 (rootN s)).length 34])) := by rw [hr2]; exact gn h2R hR1
    have m2 : rows2[j2]? = some (some (.mixed (cellsH l'))) := by rw [hr2]; exact gself hj2
    rw [hal] at mR
    have hj2l : rows.length ≤ j2 := by
      rcases hF.new j2 (by rw [hS1]; simp) with h | h
      · rw [List.mem_singleton] at h; omega
      · rw [List.length_append] at h; omega
    have hf2 : ∀ i, i < rows.length → rows2[i]? = rows[i]? := fun i hi => by
      rw [hr2, List.getElem?_set_ne (by omega), hF.out i (by rw [List.length_append]; omega) (by simp; omega), List.getElem?_append_left hi]
    have hl2 : rows.length ≤ rows2.length := by have := hF.len; rw [List.length_append] at this; rw [hr2, List.length_set]; omega
    refine AWp.drwI mix p_keytree_Tree_Puncture_7 q_keytree_Tree_Puncture_7 g_keytree_Tree_Puncture_7 s_keytree_Tree_Puncture_7 (fun st => ∃ (rows9 : Sy.Rows α), st = ⟨[], rows9⟩ ∧ (∃ (j' : Nat), rows9[X]? = some (some (.mixed [realC, .slice true (.own j') 0 17 34])) ∧ rows9[j']? = some (some (.mixed (cellsH l'))) ∧ X ≠ j' ∧ rows.length ≤ rows9.length ∧ ∀ i, i < rows.length → i ≠ X → i ≠ j → rows9[i]? = rows[i]?)) rfl (by decide +kernel) (fun K hK => sp_of ?_) ?_
    · simp only [s_keytree_Tree_Puncture_7, wT, Bool.not_eq_true, ty, zr, Nat.reduceAdd, Nat.reduceSub, Nat.reduceMul, Nat.reduceMod, Nat.reduceDiv, Nat.reduceEqDiff, Nat.reduceLeDiff, Nat.reduceBEq, Int.reduceAdd, Int.reduceSub, Int.reduceMul, Int.reduceNeg, Int.reduceLT, Int.reduceLE, Int.reduceEq, Int.reduceNe, Int.reduceBEq, Int.reduceToNat, Int.reduceTDiv, Int.reduceTMod, Int.reduceOfNat, reduceCtorEq, sty, sui]
      try simp (disch := first | omega | (simp only [List.length_set, List.length_replicate, List.length_append, List.length_nil]; first | done | omega)) only [aT, Int.reduceToNat, List.length_set, List.length_replicate, List.length_append, List.length_nil]
      simp only [mX, mR, wT, Bool.not_eq_true, ty, zr, Nat.reduceAdd, Nat.reduceSub, Nat.reduceMul, Nat.reduceMod, Nat.reduceDiv, Nat.reduceEqDiff, Nat.reduceLeDiff, Nat.reduceBEq, Int.reduceAdd, Int.reduceSub, Int.reduceMul, Int.reduceNeg, Int.reduceLT, Int.reduceLE, Int.reduceEq, Int.reduceNe, Int.reduceBEq, Int.reduceToNat, Int.reduceTDiv, Int.reduceTMod, Int.reduceOfNat, reduceCtorEq, sty, sui]
      try simp (disch := first | omega | (simp only [List.length_set, List.length_replicate, List.length_append, List.length_nil]; first | done | omega)) only [aT, Int.reduceToNat, List.length_set, List.length_replicate, List.length_append, List.length_nil]
      repeat' (with_reducible refine And.intro ?_ ?_)
      all_goals (try omega)
      all_goals
        (repeat ((with_reducible refine And.intro ?_ ?_); (first | omega | exact True.intro | with_reducible rfl | decide | assumption | rfl)))
        refine sp_scall fun K1 hK1 => ?_
        simp only [calleeC, wT, Bool.not_eq_true, ty, zr, Nat.reduceAdd, Nat.reduceSub, Nat.reduceMul, Nat.reduceMod, Nat.reduceDiv, Nat.reduceEqDiff, Nat.reduceLeDiff, Nat.reduceBEq, Int.reduceAdd, Int.reduceSub, Int.reduceMul, Int.reduceNeg, Int.reduceLT, Int.reduceLE, Int.reduceEq, Int.reduceNe, Int.reduceBEq, Int.reduceToNat, Int.reduceTDiv, Int.reduceTMod, Int.reduceOfNat, reduceCtorEq, sty, sui]
        try simp (disch := first | omega | (simp only [List.length_set, List.length_replicate, List.length_append, List.length_nil]; first | done | omega)) only [aT, Int.reduceToNat, List.length_set, List.length_replicate, List.length_append, List.length_nil]
        refine hK1 _ _ ?_
        clear hK1 K1
        simp only [SameTo]
        refine ⟨_, delete_ok E rows2 j (hC (rootN s)) (by rw [mj, cellsH_one]) hl, fun res rows3 ⟨hres, L2, hL2, hr3⟩ => ?_⟩
        subst hres
        have nX : rows3[X]? = some (some (.mixed [realC, .slice true (.own j) 0 1 34])) := by rw [hr3]; exact gn hXj.symm mX
        have nj : rows3[j]? = some (some (.mixed L2)) := by rw [hr3]; exact gself mj
        have nR : rows3[rows.length]? = some (some (.mixed [.slice true (.own j2) 0 17 34])) := by rw [hr3]; exact gn (by omega) mR
        have n2 : rows3[j2]? = some (some (.mixed (cellsH l'))) := by rw [hr3]; exact gn hjj2 m2
        have hl3 : rows2.length = rows3.length := by rw [hr3, List.length_set]
        simp only [wT, Bool.not_eq_true, ty, zr, Nat.reduceAdd, Nat.reduceSub, Nat.reduceMul, Nat.reduceMod, Nat.reduceDiv, Nat.reduceEqDiff, Nat.reduceLeDiff, Nat.reduceBEq, Int.reduceAdd, Int.reduceSub, Int.reduceMul, Int.reduceNeg, Int.reduceLT, Int.reduceLE, Int.reduceEq, Int.reduceNe, Int.reduceBEq, Int.reduceToNat, Int.reduceTDiv, Int.reduceTMod, Int.reduceOfNat, reduceCtorEq, sty, sui]
        try simp (disch := first | omega | (simp only [List.length_set, List.length_replicate, List.length_append, List.length_nil]; first | done | omega)) only [aT, Int.reduceToNat, List.length_set, List.length_replicate, List.length_append, List.length_nil]
        (try simp only [nR, wT, Bool.not_eq_true, ty, zr, Nat.reduceAdd, Nat.reduceSub, Nat.reduceMul, Nat.reduceMod, Nat.reduceDiv, Nat.reduceEqDiff, Nat.reduceLeDiff, Nat.reduceBEq, Int.reduceAdd, Int.reduceSub, Int.reduceMul, Int.reduceNeg, Int.reduceLT, Int.reduceLE, Int.reduceEq, Int.reduceNe, Int.reduceBEq, Int.reduceToNat, Int.reduceTDiv, Int.reduceTMod, Int.reduceOfNat, reduceCtorEq, sty, sui])
        repeat' (with_reducible refine And.intro ?_ ?_)
        all_goals (try omega)
        (repeat ((with_reducible refine And.intro ?_ ?_); (first | omega | exact True.intro | with_reducible rfl | decide | assumption | rfl)))
        refine sp_scall fun K1 hK1 => ?_
        simp only [calleeC, wT, Bool.not_eq_true, ty, zr, Nat.reduceAdd, Nat.reduceSub, Nat.reduceMul, Nat.reduceMod, Nat.reduceDiv, Nat.reduceEqDiff, Nat.reduceLeDiff, Nat.reduceBEq, Int.reduceAdd, Int.reduceSub, Int.reduceMul, Int.reduceNeg, Int.reduceLT, Int.reduceLE, Int.reduceEq, Int.reduceNe, Int.reduceBEq, Int.reduceToNat, Int.reduceTDiv, Int.reduceTMod, Int.reduceOfNat, reduceCtorEq, sty, sui]
        try simp (disch := first | omega | (simp only [List.length_set, List.length_replicate, List.length_append, List.length_nil]; first | done | omega)) only [aT, Int.reduceToNat, List.length_set, List.length_replicate, List.length_append, List.length_nil]
        refine hK1 _ _ ?_
        clear hK1 K1
        simp only [SameTo]
        refine ⟨_, insert_ok2 E rows3 j j2 L2 l' 17 hl'17 hW' nj n2 (by omega) (by omega), fun res rows4 ⟨hres, hr4⟩ => ?_⟩
        subst hres
        have oX : rows4[X]? = some (some (.mixed [realC, .slice true (.own j) 0 1 34])) := by rw [hr4]; exact gl (gn hXj.symm nX)
        have oj : rows4[rows3.length]? = some (some (.mixed (cellsH l'))) := by rw [hr4]; exact geL (by rw [List.length_set])
        have hl4 : rows4.length = rows3.length + 1 := by rw [hr4, List.length_append, List.length_set]; rfl
        simp only [wT, Bool.not_eq_true, ty, zr, Nat.reduceAdd, Nat.reduceSub, Nat.reduceMul, Nat.reduceMod, Nat.reduceDiv, Nat.reduceEqDiff, Nat.reduceLeDiff, Nat.reduceBEq, Int.reduceAdd, Int.reduceSub, Int.reduceMul, Int.reduceNeg, Int.reduceLT, Int.reduceLE, Int.reduceEq, Int.reduceNe, Int.reduceBEq, Int.reduceToNat, Int.reduceTDiv, Int.reduceTMod, Int.reduceOfNat, reduceCtorEq, sty, sui]
        try simp (disch := first | omega | (simp only [List.length_set, List.length_replicate, List.length_append, List.length_nil]; first | done | omega)) only [aT, Int.reduceToNat, List.length_set, List.length_replicate, List.length_append, List.length_nil]
        simp only [oX, wT, Bool.not_eq_true, ty, zr, Nat.reduceAdd, Nat.reduceSub, Nat.reduceMul, Nat.reduceMod, Nat.reduceDiv, Nat.reduceEqDiff, Nat.reduceLeDiff, Nat.reduceBEq, Int.reduceAdd, Int.reduceSub, Int.reduceMul, Int.reduceNeg, Int.reduceLT, Int.reduceLE, Int.reduceEq, Int.reduceNe, Int.reduceBEq, Int.reduceToNat, Int.reduceTDiv, Int.reduceTMod, Int.reduceOfNat, reduceCtorEq, sty, sui]
        try simp (disch := first | omega | (simp only [List.length_set, List.length_replicate, List.length_append, List.length_nil]; first | done | omega)) only [aT, Int.reduceToNat, List.length_set, List.length_replicate, List.length_append, List.length_nil]
        repeat' (with_reducible refine And.intro ?_ ?_)
        all_goals (try omega)
        refine hK _ _ Le.sub ⟨_, rfl, rows3.length, gself oX, gn (by omega) oj, by omega, by rw [List.length_set]; omega, fun i hi h1 h2 => ?_⟩
        rw [List.getElem?_set_ne (fun e => h1 e.symm), hr4, List.getElem?_append_left (by rw [List.length_set]; omega), List.getElem?_set_ne (fun e => h2 e.symm), hr3, List.getElem?_set_ne (fun e => h2 e.symm), hf2 i hi]
    rintro _ ⟨rows9, rfl, hMX7⟩
    obtain ⟨j', f1, f2, f3, f4, f5⟩ := hMX7
    refine AWp.reg p_keytree_Tree_Puncture_8 [] s_keytree_Tree_Puncture_8 rfl rfl fun K hK => st_of ?_
    simp only [s_keytree_Tree_Puncture_8, wT, Bool.not_eq_true, ty, zr, Nat.reduceAdd, Nat.reduceSub, Nat.reduceMul, Nat.reduceMod, Nat.reduceDiv, Nat.reduceEqDiff, Nat.reduceLeDiff, Nat.reduceBEq, Int.reduceAdd, Int.reduceSub, Int.reduceMul, Int.reduceNeg, Int.reduceLT, Int.reduceLE, Int.reduceEq, Int.reduceNe, Int.reduceBEq, Int.reduceToNat, Int.reduceTDiv, Int.reduceTMod, Int.reduceOfNat, reduceCtorEq, sty, sui]
    try simp (disch := first | omega | (simp only [List.length_set, List.length_replicate, List.length_append, List.length_nil]; first | done | omega)) only [aT, Int.reduceToNat, List.length_set, List.length_replicate, List.length_append, List.length_nil]
    (repeat ((with_reducible refine And.intro ?_ ?_); (first | omega | exact True.intro | with_reducible rfl | decide | assumption | rfl)))
    refine hK _ ?_; clear hK K
    refine AWp.ret ?_
    try simp only [thenQ, bq, lq, lf, iq, gq, Nat.reduceEqDiff, if_true, if_false]
    simp only [endQ, rs_keytree_Tree_Puncture, resC, one, wT, Bool.not_eq_true, ty, zr, Nat.reduceAdd, Nat.reduceSub, Nat.reduceMul, Nat.reduceMod, Nat.reduceDiv, Nat.reduceEqDiff, Nat.reduceLeDiff, Nat.reduceBEq, Int.reduceAdd, Int.reduceSub, Int.reduceMul, Int.reduceNeg, Int.reduceLT, Int.reduceLE, Int.reduceEq, Int.reduceNe, Int.reduceBEq, Int.reduceToNat, Int.reduceTDiv, Int.reduceTMod, Int.reduceOfNat, reduceCtorEq, sty, sui]
    try simp (disch := first | omega | (simp only [List.length_set, List.length_replicate, List.length_append, List.length_nil]; first | done | omega)) only [aT, Int.reduceToNat, List.length_set, List.length_replicate, List.length_append, List.length_nil]
    exact ⟨rfl, j', l', f1, f2, f3, hperm, hsrt, f4, f5⟩
end Go.Proofs.Ytopiceaeombefaa
