/- Contracts: a leaf's key; is there a leaf? -/
import Derived.Test.YtopiceaeombefaaKeyN
namespace Go.Proofs.Ytopiceaeombefaa
open Go Go.Proofs.Ytopiceaeombefaa.Sy
set_option linter.unusedSimpArgs false
set_option linter.unusedVariables false
set_option maxRecDepth 100000
set_option maxHeartbeats 2000000


theorem goK_s (n : Nat) : ∀ (f : Nat) (h : HN), h.s.length = 32 → (goK n f h).s.length = 32
  | 0, _, h => h
  | f + 1, h, _ => goK_s n f _ (stepK_s n h).1
theorem punc_no {α : Type} (E : α → Option (Row α)) (rows : Sy.Rows α) (X j : Nat) (s : List Int) (hs : s.length = 32) (n : Nat) (hn : 131072 ≤ n) (hn2 : n < 18446744073709551616) (hX : rows[X]? = some (some (.mixed [realC, .slice true (.own j) 0 1 34]))) (hj : rows[j]? = some (some (.mixed (cellsH [rootN s])))) :
    FnOkP Try.prog n_keytree_Tree_Puncture E [.ptr (.own X) 0, .int .u64 (n : Int)] rows (fun res rows' => res = .bool false ∧ rows' = rows) := by
  refine FnOkP.intro func_keytree_Tree_Puncture call_keytree_Tree_Puncture (body := _) rfl nt_keytree_Tree_Puncture (by simp) ?_
  refine AWp.reg p_keytree_Tree_Puncture_0 [] s_keytree_Tree_Puncture_0 rfl rfl fun K hK => st_of ?_
  simp only [s_keytree_Tree_Puncture_0, wT, Bool.not_eq_true, ty, zr, Nat.reduceAdd, Nat.reduceSub, Nat.reduceMul, Nat.reduceMod, Nat.reduceDiv, Nat.reduceEqDiff, Nat.reduceLeDiff, Nat.reduceBEq, Int.reduceAdd, Int.reduceSub, Int.reduceMul, Int.reduceNeg, Int.reduceLT, Int.reduceLE, Int.reduceEq, Int.reduceNe, Int.reduceBEq, Int.reduceToNat, Int.reduceTDiv, Int.reduceTMod, Int.reduceOfNat, reduceCtorEq, sty, sui]
  try simp (disch := first | omega | (simp only [List.length_set, List.length_replicate, List.length_append, List.length_nil]; first | done | omega)) only [aT, Int.reduceToNat, List.length_set, List.length_replicate, List.length_append, List.length_nil]
  (repeat ((with_reducible refine And.intro ?_ ?_); (first | omega | exact True.intro | with_reducible rfl | decide | assumption | rfl)))
  refine hK _ ?_; clear hK K
  refine AWp.reg p_keytree_Tree_Puncture_1 [] s_keytree_Tree_Puncture_1 rfl rfl fun K hK => st_of ?_
  simp only [s_keytree_Tree_Puncture_1, wT, Bool.not_eq_true, ty, zr, Nat.reduceAdd, Nat.reduceSub, Nat.reduceMul, Nat.reduceMod, Nat.reduceDiv, Nat.reduceEqDiff, Nat.reduceLeDiff, Nat.reduceBEq, Int.reduceAdd, Int.reduceSub, Int.reduceMul, Int.reduceNeg, Int.reduceLT, Int.reduceLE, Int.reduceEq, Int.reduceNe, Int.reduceBEq, Int.reduceToNat, Int.reduceTDiv, Int.reduceTMod, Int.reduceOfNat, reduceCtorEq, sty, sui]
  try simp (disch := first | omega | (simp only [List.length_set, List.length_replicate, List.length_append, List.length_nil]; first | done | omega)) only [aT, Int.reduceToNat, List.length_set, List.length_replicate, List.length_append, List.length_nil]
  (repeat ((with_reducible refine And.intro ?_ ?_); (first | omega | exact True.intro | with_reducible rfl | decide | assumption | rfl)))
  refine st_call fun K1 hK1 => ?_
  simp only [calleeC, wT, Bool.not_eq_true, ty, zr, Nat.reduceAdd, Nat.reduceSub, Nat.reduceMul, Nat.reduceMod, Nat.reduceDiv, Nat.reduceEqDiff, Nat.reduceLeDiff, Nat.reduceBEq, Int.reduceAdd, Int.reduceSub, Int.reduceMul, Int.reduceNeg, Int.reduceLT, Int.reduceLE, Int.reduceEq, Int.reduceNe, Int.reduceBEq, Int.reduceToNat, Int.reduceTDiv, Int.reduceTMod, Int.reduceOfNat, reduceCtorEq, sty, sui]
  try simp (disch := first | omega | (simp only [List.length_set, List.length_replicate, List.length_append, List.length_nil]; first | done | omega)) only [aT, Int.reduceToNat, List.length_set, List.length_replicate, List.length_append, List.length_nil]
  refine hK1 _ _ ?_
  clear hK1 K1
  simp only [CallTo, AV.mapL, AV.map, mapL_flat, mapL_flat1]
  refine ⟨_, FnOk.toP (find_root _ (Sy.Id.own X) (Sy.Id.own j) realC s hs true (by simp only [Sy.look, hX, Option.join_some]) (by simp only [Sy.look, hj, Option.join_some]) n hn2) ⟨rfl, rfl⟩, ofEq ?_⟩
  simp only [wT, Bool.not_eq_true, ty, zr, Nat.reduceAdd, Nat.reduceSub, Nat.reduceMul, Nat.reduceMod, Nat.reduceDiv, Nat.reduceEqDiff, Nat.reduceLeDiff, Nat.reduceBEq, Int.reduceAdd, Int.reduceSub, Int.reduceMul, Int.reduceNeg, Int.reduceLT, Int.reduceLE, Int.reduceEq, Int.reduceNe, Int.reduceBEq, Int.reduceToNat, Int.reduceTDiv, Int.reduceTMod, Int.reduceOfNat, reduceCtorEq, sty, sui]
  try simp (disch := first | omega | (simp only [List.length_set, List.length_replicate, List.length_append, List.length_nil]; first | done | omega)) only [aT, Int.reduceToNat, List.length_set, List.length_replicate, List.length_append, List.length_nil]
  (repeat ((with_reducible refine And.intro ?_ ?_); (first | omega | exact True.intro | with_reducible rfl | decide | assumption | rfl)))
  refine hK _ ?_; clear hK K
  refine AWp.grp fun G16 hG16 => ?_
  refine AWp.reg p_keytree_Tree_Puncture_2 [] s_keytree_Tree_Puncture_2 rfl rfl fun K hK => st_of ?_
  simp only [s_keytree_Tree_Puncture_2, wT, Bool.not_eq_true, ty, zr, Nat.reduceAdd, Nat.reduceSub, Nat.reduceMul, Nat.reduceMod, Nat.reduceDiv, Nat.reduceEqDiff, Nat.reduceLeDiff, Nat.reduceBEq, Int.reduceAdd, Int.reduceSub, Int.reduceMul, Int.reduceNeg, Int.reduceLT, Int.reduceLE, Int.reduceEq, Int.reduceNe, Int.reduceBEq, Int.reduceToNat, Int.reduceTDiv, Int.reduceTMod, Int.reduceOfNat, reduceCtorEq, sty, sui]
  try simp (disch := first | omega | (simp only [List.length_set, List.length_replicate, List.length_append, List.length_nil]; first | done | omega)) only [aT, Int.reduceToNat, List.length_set, List.length_replicate, List.length_append, List.length_nil]
  (repeat ((with_reducible refine And.intro ?_ ?_); (first | omega | exact True.intro | with_reducible rfl | decide | assumption | rfl)))
  refine hK _ ?_; clear hK K
  refine AWp.iteE rfl (fun hb => ?_) (fun hb => ?_)
  · try simp only [decide_eq_true_eq, decide_eq_false_iff_not, beq_iff_eq, bne_iff_ne, ne_eq, Bool.not_eq_true, beq_eq_false_iff_ne, bne_eq_false_iff_eq, Bool.not_eq_false, Bool.not_eq_eq_eq_not, Bool.not_true, Bool.not_false] at hb
    refine AWp.reg p_keytree_Tree_Puncture_3 [] s_keytree_Tree_Puncture_3 rfl rfl fun K hK => st_of ?_
    simp only [s_keytree_Tree_Puncture_3, wT, Bool.not_eq_true, ty, zr, Nat.reduceAdd, Nat.reduceSub, Nat.reduceMul, Nat.reduceMod, Nat.reduceDiv, Nat.reduceEqDiff, Nat.reduceLeDiff, Nat.reduceBEq, Int.reduceAdd, Int.reduceSub, Int.reduceMul, Int.reduceNeg, Int.reduceLT, Int.reduceLE, Int.reduceEq, Int.reduceNe, Int.reduceBEq, Int.reduceToNat, Int.reduceTDiv, Int.reduceTMod, Int.reduceOfNat, reduceCtorEq, sty, sui]
    try simp (disch := first | omega | (simp only [List.length_set, List.length_replicate, List.length_append, List.length_nil]; first | done | omega)) only [aT, Int.reduceToNat, List.length_set, List.length_replicate, List.length_append, List.length_nil]
    (repeat ((with_reducible refine And.intro ?_ ?_); (first | omega | exact True.intro | with_reducible rfl | decide | assumption | rfl)))
    refine hK _ ?_; clear hK K
    refine AWp.ret ?_
    try simp only [thenQ, bq, lq, lf, iq, gq, Nat.reduceEqDiff, if_true, if_false]
    simp only [endQ, rs_keytree_Tree_Puncture, resC, one, wT, Bool.not_eq_true, ty, zr, Nat.reduceAdd, Nat.reduceSub, Nat.reduceMul, Nat.reduceMod, Nat.reduceDiv, Nat.reduceEqDiff, Nat.reduceLeDiff, Nat.reduceBEq, Int.reduceAdd, Int.reduceSub, Int.reduceMul, Int.reduceNeg, Int.reduceLT, Int.reduceLE, Int.reduceEq, Int.reduceNe, Int.reduceBEq, Int.reduceToNat, Int.reduceTDiv, Int.reduceTMod, Int.reduceOfNat, reduceCtorEq, sty, sui]
    try simp (disch := first | omega | (simp only [List.length_set, List.length_replicate, List.length_append, List.length_nil]; first | done | omega)) only [aT, Int.reduceToNat, List.length_set, List.length_replicate, List.length_append, List.length_nil]
    exact rfl
  · try simp only [decide_eq_true_eq, decide_eq_false_iff_not, beq_iff_eq, bne_iff_ne, ne_eq, Bool.not_eq_true, beq_eq_false_iff_ne, bne_eq_false_iff_eq, Bool.not_eq_false, Bool.not_eq_eq_eq_not, Bool.not_true, Bool.not_false] at hb
    exfalso; first | omega | (simp at hb; omega)
theorem has_ok {α : Type} (E : α → Option (Row α)) (X y : α) (c : AV α) (l : List HN) (hW : WH l) (f : Bool) (n p t : Nat) (ok : Bool) (hX : E X = some (.mixed [c, .slice f y 0 n 34])) (hy : E y = some (.mixed (cellsH l))) (hn : l.length = n) (hp : p ≤ n) (hlo : ∀ j e, j < p → l[j]? = some e → e.a < t) (hhi : ∀ j e, p ≤ j → l[j]? = some e → t ≤ e.a) (hok : (match l[p]? with | some e => decide (e.a = t) | none => false) = ok) (hm : n < 1000000) (r : Nat) (b : Bool) (hr : findK l t p ok = (r, b)) (ht : t < 18446744073709551616) :
    FnOk Try.prog n_keytree_Tree_Has E [.ptr (.ext X) 0, .int .u64 (t : Int)] [] (.bool b) [] := by
  refine FnOk.pure func_keytree_Tree_Has call_keytree_Tree_Has (body := _) rfl nt_keytree_Tree_Has (by simp) (by simp [AV.solid, AV.solidL]) ?_
  refine AWp.reg p_keytree_Tree_Has_0 [] s_keytree_Tree_Has_0 rfl rfl fun K hK => st_of ?_
  simp only [s_keytree_Tree_Has_0, wT, Bool.not_eq_true, ty, zr, Nat.reduceAdd, Nat.reduceSub, Nat.reduceMul, Nat.reduceMod, Nat.reduceDiv, Nat.reduceEqDiff, Nat.reduceLeDiff, Nat.reduceBEq, Int.reduceAdd, Int.reduceSub, Int.reduceMul, Int.reduceNeg, Int.reduceLT, Int.reduceLE, Int.reduceEq, Int.reduceNe, Int.reduceBEq, Int.reduceToNat, Int.reduceTDiv, Int.reduceTMod, Int.reduceOfNat, reduceCtorEq, sty, sui]
  try simp (disch := first | omega | (simp only [List.length_set, List.length_replicate, List.length_append, List.length_nil]; first | done | omega)) only [aT, Int.reduceToNat, List.length_set, List.length_replicate, List.length_append, List.length_nil]
  (repeat ((with_reducible refine And.intro ?_ ?_); (first | omega | exact True.intro | with_reducible rfl | decide | assumption | rfl)))
  refine hK _ ?_; clear hK K
  refine AWp.reg p_keytree_Tree_Has_1 [] s_keytree_Tree_Has_1 rfl rfl fun K hK => st_of ?_
  simp only [s_keytree_Tree_Has_1, wT, Bool.not_eq_true, ty, zr, Nat.reduceAdd, Nat.reduceSub, Nat.reduceMul, Nat.reduceMod, Nat.reduceDiv, Nat.reduceEqDiff, Nat.reduceLeDiff, Nat.reduceBEq, Int.reduceAdd, Int.reduceSub, Int.reduceMul, Int.reduceNeg, Int.reduceLT, Int.reduceLE, Int.reduceEq, Int.reduceNe, Int.reduceBEq, Int.reduceToNat, Int.reduceTDiv, Int.reduceTMod, Int.reduceOfNat, reduceCtorEq, sty, sui]
  try simp (disch := first | omega | (simp only [List.length_set, List.length_replicate, List.length_append, List.length_nil]; first | done | omega)) only [aT, Int.reduceToNat, List.length_set, List.length_replicate, List.length_append, List.length_nil]
  (repeat ((with_reducible refine And.intro ?_ ?_); (first | omega | exact True.intro | with_reducible rfl | decide | assumption | rfl)))
  refine st_call fun K1 hK1 => ?_
  simp only [calleeC, wT, Bool.not_eq_true, ty, zr, Nat.reduceAdd, Nat.reduceSub, Nat.reduceMul, Nat.reduceMod, Nat.reduceDiv, Nat.reduceEqDiff, Nat.reduceLeDiff, Nat.reduceBEq, Int.reduceAdd, Int.reduceSub, Int.reduceMul, Int.reduceNeg, Int.reduceLT, Int.reduceLE, Int.reduceEq, Int.reduceNe, Int.reduceBEq, Int.reduceToNat, Int.reduceTDiv, Int.reduceTMod, Int.reduceOfNat, reduceCtorEq, sty, sui]
  try simp (disch := first | omega | (simp only [List.length_set, List.length_replicate, List.length_append, List.length_nil]; first | done | omega)) only [aT, Int.reduceToNat, List.length_set, List.length_replicate, List.length_append, List.length_nil]
  refine hK1 _ _ ?_
  clear hK1 K1
  simp only [CallTo, AV.mapL, AV.map, mapL_flat, mapL_flat1]
  refine ⟨_, FnOk.toP (find_ok _ (Sy.Id.ext X) (Sy.Id.ext y) (c.map .ext) l hW f n p t ok (by simp only [Sy.look, hX, Option.map_some, Row.map, AV.mapL, AV.map]) (by simp only [Sy.look, hy, Option.map_some, Row.map, cellsH_map]) hn hp hlo hhi hok hm r b hr ht) ⟨rfl, rfl⟩, ofEq ?_⟩
  simp only [wT, Bool.not_eq_true, ty, zr, Nat.reduceAdd, Nat.reduceSub, Nat.reduceMul, Nat.reduceMod, Nat.reduceDiv, Nat.reduceEqDiff, Nat.reduceLeDiff, Nat.reduceBEq, Int.reduceAdd, Int.reduceSub, Int.reduceMul, Int.reduceNeg, Int.reduceLT, Int.reduceLE, Int.reduceEq, Int.reduceNe, Int.reduceBEq, Int.reduceToNat, Int.reduceTDiv, Int.reduceTMod, Int.reduceOfNat, reduceCtorEq, sty, sui]
  try simp (disch := first | omega | (simp only [List.length_set, List.length_replicate, List.length_append, List.length_nil]; first | done | omega)) only [aT, Int.reduceToNat, List.length_set, List.length_replicate, List.length_append, List.length_nil]
  (repeat ((with_reducible refine And.intro ?_ ?_); (first | omega | exact True.intro | with_reducible rfl | decide | assumption | rfl)))
  refine hK _ ?_; clear hK K
  refine AWp.reg p_keytree_Tree_Has_2 [] s_keytree_Tree_Has_2 rfl rfl fun K hK => st_of ?_
  simp only [s_keytree_Tree_Has_2, wT, Bool.not_eq_true, ty, zr, Nat.reduceAdd, Nat.reduceSub, Nat.reduceMul, Nat.reduceMod, Nat.reduceDiv, Nat.reduceEqDiff, Nat.reduceLeDiff, Nat.reduceBEq, Int.reduceAdd, Int.reduceSub, Int.reduceMul, Int.reduceNeg, Int.reduceLT, Int.reduceLE, Int.reduceEq, Int.reduceNe, Int.reduceBEq, Int.reduceToNat, Int.reduceTDiv, Int.reduceTMod, Int.reduceOfNat, reduceCtorEq, sty, sui]
  try simp (disch := first | omega | (simp only [List.length_set, List.length_replicate, List.length_append, List.length_nil]; first | done | omega)) only [aT, Int.reduceToNat, List.length_set, List.length_replicate, List.length_append, List.length_nil]
  (repeat ((with_reducible refine And.intro ?_ ?_); (first | omega | exact True.intro | with_reducible rfl | decide | assumption | rfl)))
  refine hK _ ?_; clear hK K
  refine AWp.ret ?_
  try simp only [thenQ, bq, lq, lf, iq, gq, Nat.reduceEqDiff, if_true, if_false]
  simp only [endQ, rs_keytree_Tree_Has, resC, one, wT, Bool.not_eq_true, ty, zr, Nat.reduceAdd, Nat.reduceSub, Nat.reduceMul, Nat.reduceMod, Nat.reduceDiv, Nat.reduceEqDiff, Nat.reduceLeDiff, Nat.reduceBEq, Int.reduceAdd, Int.reduceSub, Int.reduceMul, Int.reduceNeg, Int.reduceLT, Int.reduceLE, Int.reduceEq, Int.reduceNe, Int.reduceBEq, Int.reduceToNat, Int.reduceTDiv, Int.reduceTMod, Int.reduceOfNat, reduceCtorEq, sty, sui]
  try simp (disch := first | omega | (simp only [List.length_set, List.length_replicate, List.length_append, List.length_nil]; first | done | omega)) only [aT, Int.reduceToNat, List.length_set, List.length_replicate, List.length_append, List.length_nil]
  repeat' (first | exact True.intro | (with_reducible rfl) | (with_reducible apply And.intro) | omega | rfl)
theorem key_ok {α : Type} (E : α → Option (Row α)) (rows : Sy.Rows α) (X j : Nat) (l : List HN) (hW : WH l) (n p t : Nat) (ok : Bool) (hX : rows[X]? = some (some (.mixed [realC, .slice true (.own j) 0 n 34]))) (hj : rows[j]? = some (some (.mixed (cellsH l)))) (hn : l.length = n) (hp : p ≤ n) (hlo : ∀ j e, j < p → l[j]? = some e → e.a < t) (hhi : ∀ j e, p ≤ j → l[j]? = some e → t ≤ e.a) (hok : (match l[p]? with | some e => decide (e.a = t) | none => false) = ok) (hm : n < 1000000) (r f : Nat) (e : HN) (hr : findK l t p ok = (r, true)) (hre : l[r]? = some e) (hf : e.d + f = 17) (hea : e.a + 2 ^ f ≤ 131072) (ht : t < 131072) :
    FnOkP Try.prog n_keytree_Tree_Key E [.ptr (.own X) 0, .int .u64 (t : Int)] rows (fun res rows' => res = .tuple [.ints .u8 (goK t f e).s, .bool true] ∧ rows.length ≤ rows'.length ∧ ∀ i, i < rows.length → rows'[i]? = rows[i]?) := by
  have hcl := cellsH_len (ι := Sy.Id α) hW
  have hrl : r < l.length := (List.getElem?_eq_some_iff.1 hre).1
  have hWe := hW e (List.mem_of_getElem? hre)
  have hl := hC_len (ι := Sy.Id α) hWe.1
  have hXl : X < rows.length := (List.getElem?_eq_some_iff.1 hX).1
  have hWa := asK_W t f e hf hea
  obtain ⟨e', h1, h2, h3, h4, h5⟩ := cellsH_at (ι := Sy.Id α) hW hrl
  rw [hre] at h1
  cases h1
  obtain ⟨g, hg⟩ : ∃ g, goK t f e = g := ⟨_, rfl⟩
  have hgl : g.s.length = 32 := by rw [← hg]; exact goK_s t f e hWe.1
  have hgs : Sy.splice (List.replicate 32 (0 : Int)) 0 g.s = g.s := splice_all (by rw [hgl, List.length_replicate])
  have hgb : sub g.s 0 32 = g.s := sub_all hgl
  rw [hg]
  refine FnOkP.intro func_keytree_Tree_Key call_keytree_Tree_Key (body := _) rfl nt_keytree_Tree_Key (by simp) ?_
  refine AWp.reg p_keytree_Tree_Key_0 [] s_keytree_Tree_Key_0 rfl rfl fun K hK => st_of ?_
  simp only [s_keytree_Tree_Key_0, wT, Bool.not_eq_true, ty, zr, Nat.reduceAdd, Nat.reduceSub, Nat.reduceMul, Nat.reduceMod, Nat.reduceDiv, Nat.reduceEqDiff, Nat.reduceLeDiff, Nat.reduceBEq, Int.reduceAdd, Int.reduceSub, Int.reduceMul, Int.reduceNeg, Int.reduceLT, Int.reduceLE, Int.reduceEq, Int.reduceNe, Int.reduceBEq, Int.reduceToNat, Int.reduceTDiv, Int.reduceTMod, Int.reduceOfNat, reduceCtorEq, sty, sui]
  try simp (disch := first | omega | (simp only [List.length_set, List.length_replicate, List.length_append, List.length_nil]; first | done | omega)) only [aT, Int.reduceToNat, List.length_set, List.length_replicate, List.length_append, List.length_nil]
  (repeat ((with_reducible refine And.intro ?_ ?_); (first | omega | exact True.intro | with_reducible rfl | decide | assumption | rfl)))
  refine hK _ ?_; clear hK K
  refine AWp.reg p_keytree_Tree_Key_1 [] s_keytree_Tree_Key_1 rfl rfl fun K hK => st_of ?_
  simp only [s_keytree_Tree_Key_1, wT, Bool.not_eq_true, ty, zr, Nat.reduceAdd, Nat.reduceSub, Nat.reduceMul, Nat.reduceMod, Nat.reduceDiv, Nat.reduceEqDiff, Nat.reduceLeDiff, Nat.reduceBEq, Int.reduceAdd, Int.reduceSub, Int.reduceMul, Int.reduceNeg, Int.reduceLT, Int.reduceLE, Int.reduceEq, Int.reduceNe, Int.reduceBEq, Int.reduceToNat, Int.reduceTDiv, Int.reduceTMod, Int.reduceOfNat, reduceCtorEq, sty, sui]
  try simp (disch := first | omega | (simp only [List.length_set, List.length_replicate, List.length_append, List.length_nil]; first | done | omega)) only [aT, Int.reduceToNat, List.length_set, List.length_replicate, List.length_append, List.length_nil]
  (repeat ((with_reducible refine And.intro ?_ ?_); (first | omega | exact True.intro | with_reducible rfl | decide | assumption | rfl)))
  refine st_call fun K1 hK1 => ?_
  simp only [calleeC, wT, Bool.not_eq_true, ty, zr, Nat.reduceAdd, Nat.reduceSub, Nat.reduceMul, Nat.reduceMod, Nat.reduceDiv, Nat.reduceEqDiff, Nat.reduceLeDiff, Nat.reduceBEq, Int.reduceAdd, Int.reduceSub, Int.reduceMul, Int.reduceNeg, Int.reduceLT, Int.reduceLE, Int.reduceEq, Int.reduceNe, Int.reduceBEq, Int.reduceToNat, Int.reduceTDiv, Int.reduceTMod, Int.reduceOfNat, reduceCtorEq, sty, sui]
  try simp (disch := first | omega | (simp only [List.length_set, List.length_replicate, List.length_append, List.length_nil]; first | done | omega)) only [aT, Int.reduceToNat, List.length_set, List.length_replicate, List.length_append, List.length_nil]
  refine hK1 _ _ ?_
  clear hK1 K1
  simp only [CallTo, AV.mapL, AV.map, mapL_flat, mapL_flat1]
  refine ⟨_, FnOk.toP (find_ok _ (Sy.Id.own X) (Sy.Id.own j) realC l hW true n p t ok (by simp only [Sy.look, gl hX, Option.join_some]) (by simp only [Sy.look, gl hj, Option.join_some]) hn hp hlo hhi hok hm r true hr (by omega)) ⟨rfl, rfl⟩, ofEq ?_⟩
  simp only [wT, Bool.not_eq_true, ty, zr, Nat.reduceAdd, Nat.reduceSub, Nat.reduceMul, Nat.reduceMod, Nat.reduceDiv, Nat.reduceEqDiff, Nat.reduceLeDiff, Nat.reduceBEq, Int.reduceAdd, Int.reduceSub, Int.reduceMul, Int.reduceNeg, Int.reduceLT, Int.reduceLE, Int.reduceEq, Int.reduceNe, Int.reduceBEq, Int.reduceToNat, Int.reduceTDiv, Int.reduceTMod, Int.reduceOfNat, reduceCtorEq, sty, sui]
  try simp (disch := first | omega | (simp only [List.length_set, List.length_replicate, List.length_append, List.length_nil]; first | done | omega)) only [aT, Int.reduceToNat, List.length_set, List.length_replicate, List.length_append, List.length_nil]
  (repeat ((with_reducible refine And.intro ?_ ?_); (first | omega | exact True.intro | with_reducible rfl | decide | assumption | rfl)))
  refine hK _ ?_; clear hK K
  refine AWp.grp fun G16 hG16 => ?_
  refine AWp.reg p_keytree_Tree_Key_2 [] s_keytree_Tree_Key_2 rfl rfl fun K hK => st_of ?_
  simp only [s_keytree_Tree_Key_2, wT, Bool.not_eq_true, ty, zr, Nat.reduceAdd, Nat.reduceSub, Nat.reduceMul, Nat.reduceMod, Nat.reduceDiv, Nat.reduceEqDiff, Nat.reduceLeDiff, Nat.reduceBEq, Int.reduceAdd, Int.reduceSub, Int.reduceMul, Int.reduceNeg, Int.reduceLT, Int.reduceLE, Int.reduceEq, Int.reduceNe, Int.reduceBEq, Int.reduceToNat, Int.reduceTDiv, Int.reduceTMod, Int.reduceOfNat, reduceCtorEq, sty, sui]
  try simp (disch := first | omega | (simp only [List.length_set, List.length_replicate, List.length_append, List.length_nil]; first | done | omega)) only [aT, Int.reduceToNat, List.length_set, List.length_replicate, List.length_append, List.length_nil]
  (repeat ((with_reducible refine And.intro ?_ ?_); (first | omega | exact True.intro | with_reducible rfl | decide | assumption | rfl)))
  refine hK _ ?_; clear hK K
  refine AWp.iteE rfl (fun hb => ?_) (fun hb => ?_)
  · try simp only [decide_eq_true_eq, decide_eq_false_iff_not, beq_iff_eq, bne_iff_ne, ne_eq, Bool.not_eq_true, beq_eq_false_iff_ne, bne_eq_false_iff_eq, Bool.not_eq_false, Bool.not_eq_eq_eq_not, Bool.not_true, Bool.not_false] at hb
    (first | exact absurd trivial hb | exact absurd rfl hb | cases hb | (exfalso; omega) | (simp at hb; done))
  · try simp only [decide_eq_true_eq, decide_eq_false_iff_not, beq_iff_eq, bne_iff_ne, ne_eq, Bool.not_eq_true, beq_eq_false_iff_ne, bne_eq_false_iff_eq, Bool.not_eq_false, Bool.not_eq_eq_eq_not, Bool.not_true, Bool.not_false] at hb
    refine AWp.skip ?_
    try simp only [thenQ, bq, lq, lf, iq, gq, Nat.reduceEqDiff, if_true, if_false]
    refine hG16 _ ?_
    try clear hG16 G16
    refine AWp.reg p_keytree_Tree_Key_4 q_keytree_Tree_Key_4 s_keytree_Tree_Key_4 rfl rfl fun K hK => st_of ?_
    simp only [s_keytree_Tree_Key_4, wT, Bool.not_eq_true, ty, zr, Nat.reduceAdd, Nat.reduceSub, Nat.reduceMul, Nat.reduceMod, Nat.reduceDiv, Nat.reduceEqDiff, Nat.reduceLeDiff, Nat.reduceBEq, Int.reduceAdd, Int.reduceSub, Int.reduceMul, Int.reduceNeg, Int.reduceLT, Int.reduceLE, Int.reduceEq, Int.reduceNe, Int.reduceBEq, Int.reduceToNat, Int.reduceTDiv, Int.reduceTMod, Int.reduceOfNat, reduceCtorEq, sty, sui]
    try simp (disch := first | omega | (simp only [List.length_set, List.length_replicate, List.length_append, List.length_nil]; first | done | omega)) only [aT, Int.reduceToNat, List.length_set, List.length_replicate, List.length_append, List.length_nil]
    simp only [gl hX, gl hj, h5, hcl, normL_hC h2, wT, Bool.not_eq_true, ty, zr, Nat.reduceAdd, Nat.reduceSub, Nat.reduceMul, Nat.reduceMod, Nat.reduceDiv, Nat.reduceEqDiff, Nat.reduceLeDiff, Nat.reduceBEq, Int.reduceAdd, Int.reduceSub, Int.reduceMul, Int.reduceNeg, Int.reduceLT, Int.reduceLE, Int.reduceEq, Int.reduceNe, Int.reduceBEq, Int.reduceToNat, Int.reduceTDiv, Int.reduceTMod, Int.reduceOfNat, reduceCtorEq, sty, sui]
    try simp (disch := first | omega | (simp only [List.length_set, List.length_replicate, List.length_append, List.length_nil]; first | done | omega)) only [aT, Int.reduceToNat, List.length_set, List.length_replicate, List.length_append, List.length_nil]
    repeat' (with_reducible refine And.intro ?_ ?_)
    all_goals (try omega)
    (repeat ((with_reducible refine And.intro ?_ ?_); (first | omega | exact True.intro | with_reducible rfl | decide | assumption | rfl)))
    refine st_scall fun K1 hK1 => ?_
    simp only [calleeC, wT, Bool.not_eq_true, ty, zr, Nat.reduceAdd, Nat.reduceSub, Nat.reduceMul, Nat.reduceMod, Nat.reduceDiv, Nat.reduceEqDiff, Nat.reduceLeDiff, Nat.reduceBEq, Int.reduceAdd, Int.reduceSub, Int.reduceMul, Int.reduceNeg, Int.reduceLT, Int.reduceLE, Int.reduceEq, Int.reduceNe, Int.reduceBEq, Int.reduceToNat, Int.reduceTDiv, Int.reduceTMod, Int.reduceOfNat, reduceCtorEq, sty, sui]
    try simp (disch := first | omega | (simp only [List.length_set, List.length_replicate, List.length_append, List.length_nil]; first | done | omega)) only [aT, Int.reduceToNat, List.length_set, List.length_replicate, List.length_append, List.length_nil]
    refine hK1 _ _ ?_
    clear hK1 K1
    simp only [SameTo]
    refine ⟨_, down_ok E (rows ++ [some (.ints .u8 (List.replicate 32 0))]) X _ [] (.func n_keytree_Tree_Key_1 []) (fun _ S _ => S = []) e t f hWe.1 hf hWe.2.2 ht (gl hX) (by simp) (noop_ok E) rfl (fun _ _ _ _ h => h) (fun _ _ _ _ _ h _ => h) (fun _ _ _ _ h hi => by rw [h] at hi; cases hi) hWa, fun res rows1 ⟨hres, S1, hI1, hF1⟩ => ?_⟩
    subst hres
    have k4 := (hF1.keep (i := rows.length) (ge0 _ _) (by simp)).1
    have k4 : rows1[rows.length]? = some (some (.ints .u8 (List.replicate 32 0))) := k4
    simp only [wT, Bool.not_eq_true, ty, zr, Nat.reduceAdd, Nat.reduceSub, Nat.reduceMul, Nat.reduceMod, Nat.reduceDiv, Nat.reduceEqDiff, Nat.reduceLeDiff, Nat.reduceBEq, Int.reduceAdd, Int.reduceSub, Int.reduceMul, Int.reduceNeg, Int.reduceLT, Int.reduceLE, Int.reduceEq, Int.reduceNe, Int.reduceBEq, Int.reduceToNat, Int.reduceTDiv, Int.reduceTMod, Int.reduceOfNat, reduceCtorEq, sty, sui]
    try simp (disch := first | omega | (simp only [List.length_set, List.length_replicate, List.length_append, List.length_nil]; first | done | omega)) only [aT, Int.reduceToNat, List.length_set, List.length_replicate, List.length_append, List.length_nil]
    simp only [hg, k4, hgl, hgs, wT, Bool.not_eq_true, ty, zr, Nat.reduceAdd, Nat.reduceSub, Nat.reduceMul, Nat.reduceMod, Nat.reduceDiv, Nat.reduceEqDiff, Nat.reduceLeDiff, Nat.reduceBEq, Int.reduceAdd, Int.reduceSub, Int.reduceMul, Int.reduceNeg, Int.reduceLT, Int.reduceLE, Int.reduceEq, Int.reduceNe, Int.reduceBEq, Int.reduceToNat, Int.reduceTDiv, Int.reduceTMod, Int.reduceOfNat, reduceCtorEq, sty, sui]
    try simp (disch := first | omega | (simp only [List.length_set, List.length_replicate, List.length_append, List.length_nil]; first | done | omega)) only [aT, Int.reduceToNat, List.length_set, List.length_replicate, List.length_append, List.length_nil]
    repeat' (with_reducible refine And.intro ?_ ?_)
    all_goals (try omega)
    refine hK _ ?_; clear hK K
    refine AWp.ret ?_
    try simp only [thenQ, bq, lq, lf, iq, gq, Nat.reduceEqDiff, if_true, if_false]
    simp only [endQ, rs_keytree_Tree_Key, resC, one, wT, Bool.not_eq_true, ty, zr, Nat.reduceAdd, Nat.reduceSub, Nat.reduceMul, Nat.reduceMod, Nat.reduceDiv, Nat.reduceEqDiff, Nat.reduceLeDiff, Nat.reduceBEq, Int.reduceAdd, Int.reduceSub, Int.reduceMul, Int.reduceNeg, Int.reduceLT, Int.reduceLE, Int.reduceEq, Int.reduceNe, Int.reduceBEq, Int.reduceToNat, Int.reduceTDiv, Int.reduceTMod, Int.reduceOfNat, reduceCtorEq, sty, sui]
    try simp (disch := first | omega | (simp only [List.length_set, List.length_replicate, List.length_append, List.length_nil]; first | done | omega)) only [aT, Int.reduceToNat, List.length_set, List.length_replicate, List.length_append, List.length_nil]
    simp only [gself k4, hgl, hgb, wT, Bool.not_eq_true, ty, zr, Nat.reduceAdd, Nat.reduceSub, Nat.reduceMul, Nat.reduceMod, Nat.reduceDiv, Nat.reduceEqDiff, Nat.reduceLeDiff, Nat.reduceBEq, Int.reduceAdd, Int.reduceSub, Int.reduceMul, Int.reduceNeg, Int.reduceLT, Int.reduceLE, Int.reduceEq, Int.reduceNe, Int.reduceBEq, Int.reduceToNat, Int.reduceTDiv, Int.reduceTMod, Int.reduceOfNat, reduceCtorEq, sty, sui]
    try simp (disch := first | omega | (simp only [List.length_set, List.length_replicate, List.length_append, List.length_nil]; first | done | omega)) only [aT, Int.reduceToNat, List.length_set, List.length_replicate, List.length_append, List.length_nil]
    refine ⟨rfl, by have := hF1.len; rw [List.length_append] at this; omega, fun i hi => ?_⟩
    rw [List.getElem?_set_ne (by omega), hF1.out i (by rw [List.length_append]; omega) (by simp), List.getElem?_append_left hi]
end Go.Proofs.Ytopiceaeombefaa
