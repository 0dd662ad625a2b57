/- Contracts: the way down to a leaf. -/
import Derived.Test.YtopiceaeombefaaKey4
namespace Go.Proofs.Ytopiceaeombefaa
open Go Go.Proofs.Ytopiceaeombefaa.Sy
set_option linter.unusedSimpArgs false
set_option linter.unusedVariables false
set_option maxRecDepth 100000
set_option maxHeartbeats 2000000


/-- What a change leaves as it is: all rows but those of a list. -/
structure Fr {α : Type} (rows : Sy.Rows α) (S : List Nat) (rows' : Sy.Rows α) (S' : List Nat) : Prop where
  len : rows.length ≤ rows'.length
  out : ∀ i, i < rows.length → i ∉ S → rows'[i]? = rows[i]?
  new : ∀ i, i ∈ S' → i ∈ S ∨ rows.length ≤ i
theorem Fr.refl {α : Type} (rows : Sy.Rows α) (S : List Nat) : Fr rows S rows S := ⟨Nat.le_refl _, fun _ _ _ => rfl, fun _ h => .inl h⟩
theorem Fr.trans {α : Type} {rows rows' rows'' : Sy.Rows α} {S S' S'' : List Nat} (h : Fr rows S rows' S') (h' : Fr rows' S' rows'' S'') : Fr rows S rows'' S'' where
  len := Nat.le_trans h.len h'.len
  out := fun i hi hn => by
    rw [h'.out i (Nat.lt_of_lt_of_le hi h.len) fun h1 => ?_, h.out i hi hn]
    rcases h.new i h1 with h2 | h2
    · exact hn h2
    · omega
  new := fun i hi => by
    rcases h'.new i hi with h1 | h1
    · exact h.new i h1
    · exact .inr (Nat.le_trans h.len h1)
theorem Fr.app {α : Type} {rows : Sy.Rows α} {S : List Nat} (junk : Sy.Rows α) : Fr rows S (rows ++ junk) S := ⟨by simp, fun i hi _ => List.getElem?_append_left hi, fun i h => .inl h⟩
theorem Fr.keep {α : Type} {rows rows' : Sy.Rows α} {S S' : List Nat} (h : Fr rows S rows' S') {i : Nat} {x : Option (Row (Sy.Id α))} (hi : rows[i]? = some x) (hn : i ∉ S) : rows'[i]? = some x ∧ i ∉ S' := by
  have hl := (List.getElem?_eq_some_iff.1 hi).1
  refine ⟨by rw [h.out i hl hn]; exact hi, fun hm => ?_⟩
  rcases h.new i hm with h1 | h1
  · exact hn h1
  · omega
/-- What is set aside: a variable's row, and the row of what it holds. -/
def Rest {α : Type} (rows : Sy.Rows α) (S : List Nat) (R : Nat) (l : List HN) : Prop :=
  (S = [R] ∧ l = [] ∧ rows[R]? = some (some (.mixed [.nilslice]))) ∨ ∃ j, j ≠ R ∧ S = [R, j] ∧ rows[R]? = some (some (.mixed [.slice true (.own j) 0 l.length 34])) ∧ rows[j]? = some (some (.mixed (cellsH l)))
theorem Rest.app {α : Type} {rows : Sy.Rows α} {S : List Nat} {R : Nat} {l : List HN} (h : Rest rows S R l) (junk : Sy.Rows α) : Rest (rows ++ junk) S R l := by
  rcases h with ⟨h1, h2, h3⟩ | ⟨j, h0, h1, h2, h3⟩
  · exact .inl ⟨h1, h2, gl h3⟩
  · exact .inr ⟨j, h0, h1, gl h2, gl h3⟩
theorem Rest.lt {α : Type} {rows : Sy.Rows α} {S : List Nat} {R : Nat} {l : List HN} (h : Rest rows S R l) {i : Nat} (hi : i ∈ S) : i < rows.length := by
  rcases h with ⟨rfl, h2, h3⟩ | ⟨j, h0, rfl, h2, h3⟩
  · rw [List.mem_singleton] at hi; subst hi; exact (List.getElem?_eq_some_iff.1 h3).1
  · simp only [List.mem_cons, List.not_mem_nil, or_false] at hi
    rcases hi with rfl | rfl
    · exact (List.getElem?_eq_some_iff.1 h2).1
    · exact (List.getElem?_eq_some_iff.1 h3).1
theorem Rest.set {α : Type} {rows : Sy.Rows α} {S : List Nat} {R : Nat} {l : List HN} (h : Rest rows S R l) {i : Nat} (hi : i ∉ S) (x : Option (Row (Sy.Id α))) : Rest (rows.set i x) S R l := by
  rcases h with ⟨rfl, h2, h3⟩ | ⟨j, h0, rfl, h2, h3⟩
  · exact .inl ⟨rfl, h2, gn (fun e => hi (by simp [e])) h3⟩
  · exact .inr ⟨j, h0, rfl, gn (fun e => hi (by simp [e])) h2, gn (fun e => hi (by simp [e])) h3⟩
/-- A function value that is handed each node that is set aside. -/
def AsOk {α : Type} (E : α → Option (Row α)) (fv : AV (Sy.Id α)) (I : Sy.Rows α → List Nat → List HN → Prop) : Prop :=
  ∃ (f : FuncId) (caps : List (AV (Sy.Id α))), fv = .func f caps ∧ ∀ (rows : Sy.Rows α) (S : List Nat) (l : List HN) (e : HN), e.s.length = 32 → I rows S l → l.length < 100 → WH l →
    FnOkP Try.prog f E (.agg (hC e) :: caps) rows (fun res rows' => res = .tuple [] ∧ ∃ S', I rows' S' (l ++ [e]) ∧ Fr rows S rows' S')
theorem noop_ok {α : Type} (E : α → Option (Row α)) : AsOk E (.func n_keytree_Tree_Key_1 []) (fun _ S _ => S = []) := by
  refine ⟨_, _, rfl, fun rows S l e he hI _ _ => ?_⟩
  subst hI
  refine FnOkP.intro func_keytree_Tree_Key_1 call_keytree_Tree_Key_1 (body := _) rfl nt_keytree_Tree_Key_1 (by simp) ?_
  refine AWp.regE p_keytree_Tree_Key_1_0 [] s_keytree_Tree_Key_1_0 rfl rfl (st_of ?_)
  simp only [s_keytree_Tree_Key_1_0, wT, Bool.not_eq_true, ty, zr, Nat.reduceAdd, Nat.reduceSub, Nat.reduceMul, Nat.reduceMod, Nat.reduceDiv, Nat.reduceEqDiff, Nat.reduceLeDiff, Nat.reduceBEq, Int.reduceAdd, Int.reduceSub, Int.reduceMul, Int.reduceNeg, Int.reduceLT, Int.reduceLE, Int.reduceEq, Int.reduceNe, Int.reduceBEq, Int.reduceToNat, Int.reduceTDiv, Int.reduceTMod, Int.reduceOfNat, reduceCtorEq, sty, sui]
  try simp (disch := first | omega | (simp only [List.length_set, List.length_replicate, List.length_append, List.length_nil]; first | done | omega)) only [aT, Int.reduceToNat, List.length_set, List.length_replicate, List.length_append, List.length_nil]
  (repeat ((with_reducible refine And.intro ?_ ?_); (first | omega | exact True.intro | with_reducible rfl | decide | assumption | rfl)))
  try simp only [thenQ, bq, lq, lf, iq, gq, Nat.reduceEqDiff, if_true, if_false]
  simp only [endQ, rs_keytree_Tree_Key_1, resC, one, wT, Bool.not_eq_true, ty, zr, Nat.reduceAdd, Nat.reduceSub, Nat.reduceMul, Nat.reduceMod, Nat.reduceDiv, Nat.reduceEqDiff, Nat.reduceLeDiff, Nat.reduceBEq, Int.reduceAdd, Int.reduceSub, Int.reduceMul, Int.reduceNeg, Int.reduceLT, Int.reduceLE, Int.reduceEq, Int.reduceNe, Int.reduceBEq, Int.reduceToNat, Int.reduceTDiv, Int.reduceTMod, Int.reduceOfNat, reduceCtorEq, sty, sui]
  try simp (disch := first | omega | (simp only [List.length_set, List.length_replicate, List.length_append, List.length_nil]; first | done | omega)) only [aT, Int.reduceToNat, List.length_set, List.length_replicate, List.length_append, List.length_nil]
  exact ⟨[], rfl, Fr.app _⟩
/-- The rest in a new row, three rows behind. -/
theorem Rest.new {α : Type} {rows rows1 : Sy.Rows α} {S : List Nat} {R : Nat} {l : List HN} {a b : Option (Row (Sy.Id α))} (hR : R ∈ S) (hl : rows1.length = rows.length) (hout : ∀ i, i ∉ S → rows1[i]? = rows[i]?) (h1 : rows1[R]? = some (some (.mixed [.slice true (.own (rows.length + 2)) 0 l.length 34]))) : ∃ S', Rest (rows1 ++ [a, b, some (.mixed (cellsH l))]) S' R l ∧ Fr rows S (rows1 ++ [a, b, some (.mixed (cellsH l))]) S' := by
  have hRl : R < rows.length := by have := (List.getElem?_eq_some_iff.1 h1).1; omega
  refine ⟨[R, rows.length + 2], .inr ⟨rows.length + 2, by omega, rfl, gl h1, by rw [← hl, geN]; rfl⟩, ⟨by rw [List.length_append]; omega, fun i hi hn => ?_, fun i hi => ?_⟩⟩
  · rw [List.getElem?_append_left (by omega)]; exact hout i hn
  · simp only [List.mem_cons, List.not_mem_nil, or_false] at hi
    rcases hi with rfl | rfl
    · exact .inl hR
    · exact .inr (by omega)
theorem set_out {β : Type} {G : List β} {R i : Nat} {x : β} (h : i ∉ [R]) : (G.set R x)[i]? = G[i]? := List.getElem?_set_ne (fun e => h (by rw [e]; exact List.mem_singleton.2 rfl))
theorem node_z : ∃ z, zeroCellsOf Try.prog 89 = some z ∧ z.size = 34 ∧ oneCells z = true :=
  ⟨(.int .i64 0 :: .int .u64 0 :: List.replicate 32 (.int .u8 0)).toArray, by kernel_rfl, rfl, by kernel_rfl⟩
theorem node_b : Try.prog.bytesOf 89 = 48 := by kernel_rfl
theorem keep_ok {α : Type} (E : α → Option (Row α)) (R : Nat) : AsOk E (.func n_keytree_Tree_Puncture_1 [.ptr (.own R) 0]) (fun rows S l => Rest rows S R l) := by
  refine ⟨_, _, rfl, fun rows S l e he hI hlen hW => ?_⟩
  have hl := hC_len (ι := Sy.Id α) he
  have hcl := cellsH_len (ι := Sy.Id α) hW
  obtain ⟨z, hz, hz1, hz2⟩ := node_z
  have hfl : ([List.map ofV z.toList].flatten : List (AV (Sy.Id α))).length = 34 := by simp [hz1]
  have hsp : Sy.splice ([List.map ofV z.toList].flatten : List (AV (Sy.Id α))) 0 (hC e) = hC e := splice_all (by rw [hl]; simp [hz1])
  have hse : sub (hC e : List (AV (Sy.Id α))) 0 34 = hC e := sub_all hl
  refine FnOkP.intro func_keytree_Tree_Puncture_1 call_keytree_Tree_Puncture_1 (body := _) rfl nt_keytree_Tree_Puncture_1 (by simp) ?_
  refine AWp.reg p_keytree_Tree_Puncture_1_0 [] s_keytree_Tree_Puncture_1_0 rfl rfl fun K hK => st_of ?_
  simp only [s_keytree_Tree_Puncture_1_0, wT, Bool.not_eq_true, ty, zr, Nat.reduceAdd, Nat.reduceSub, Nat.reduceMul, Nat.reduceMod, Nat.reduceDiv, Nat.reduceEqDiff, Nat.reduceLeDiff, Nat.reduceBEq, Int.reduceAdd, Int.reduceSub, Int.reduceMul, Int.reduceNeg, Int.reduceLT, Int.reduceLE, Int.reduceEq, Int.reduceNe, Int.reduceBEq, Int.reduceToNat, Int.reduceTDiv, Int.reduceTMod, Int.reduceOfNat, reduceCtorEq, sty, sui]
  try simp (disch := first | omega | (simp only [List.length_set, List.length_replicate, List.length_append, List.length_nil]; first | done | omega)) only [aT, Int.reduceToNat, List.length_set, List.length_replicate, List.length_append, List.length_nil]
  (repeat ((with_reducible refine And.intro ?_ ?_); (first | omega | exact True.intro | with_reducible rfl | decide | assumption | rfl)))
  refine hK _ ?_; clear hK K
  refine AWp.regE p_keytree_Tree_Puncture_1_1 [] s_keytree_Tree_Puncture_1_1 rfl rfl (st_of ?_)
  simp only [s_keytree_Tree_Puncture_1_1, wT, Bool.not_eq_true, ty, zr, Nat.reduceAdd, Nat.reduceSub, Nat.reduceMul, Nat.reduceMod, Nat.reduceDiv, Nat.reduceEqDiff, Nat.reduceLeDiff, Nat.reduceBEq, Int.reduceAdd, Int.reduceSub, Int.reduceMul, Int.reduceNeg, Int.reduceLT, Int.reduceLE, Int.reduceEq, Int.reduceNe, Int.reduceBEq, Int.reduceToNat, Int.reduceTDiv, Int.reduceTMod, Int.reduceOfNat, reduceCtorEq, sty, sui]
  try simp (disch := first | omega | (simp only [List.length_set, List.length_replicate, List.length_append, List.length_nil]; first | done | omega)) only [aT, Int.reduceToNat, List.length_set, List.length_replicate, List.length_append, List.length_nil]
  -- closed
  rcases hI with ⟨rfl, rfl, h3⟩ | ⟨j, h0, rfl, h2, h3⟩
  · simp only [gl h3, ge0, hl, hz, hz1, hz2, hfl, hsp, hse, node_b, List.append_assoc, List.cons_append, List.nil_append, wT, Bool.not_eq_true, ty, zr, Nat.reduceAdd, Nat.reduceSub, Nat.reduceMul, Nat.reduceMod, Nat.reduceDiv, Nat.reduceEqDiff, Nat.reduceLeDiff, Nat.reduceBEq, Int.reduceAdd, Int.reduceSub, Int.reduceMul, Int.reduceNeg, Int.reduceLT, Int.reduceLE, Int.reduceEq, Int.reduceNe, Int.reduceBEq, Int.reduceToNat, Int.reduceTDiv, Int.reduceTMod, Int.reduceOfNat, reduceCtorEq, sty, sui]
    try simp (disch := first | omega | (simp only [List.length_set, List.length_replicate, List.length_append, List.length_nil]; first | done | omega)) only [aT, Int.reduceToNat, List.length_set, List.length_replicate, List.length_append, List.length_nil]
    simp only [geN, hl, hse, endQ, rs_keytree_Tree_Puncture_1, resC, one, Nat.add_assoc, Nat.reduceAdd, wT, Bool.not_eq_true, ty, zr, Nat.reduceAdd, Nat.reduceSub, Nat.reduceMul, Nat.reduceMod, Nat.reduceDiv, Nat.reduceEqDiff, Nat.reduceLeDiff, Nat.reduceBEq, Int.reduceAdd, Int.reduceSub, Int.reduceMul, Int.reduceNeg, Int.reduceLT, Int.reduceLE, Int.reduceEq, Int.reduceNe, Int.reduceBEq, Int.reduceToNat, Int.reduceTDiv, Int.reduceTMod, Int.reduceOfNat, reduceCtorEq, sty, sui]
    try simp (disch := first | omega | (simp only [List.length_set, List.length_replicate, List.length_append, List.length_nil]; first | done | omega)) only [aT, Int.reduceToNat, List.length_set, List.length_replicate, List.length_append, List.length_nil]
    repeat' (with_reducible refine And.intro ?_ ?_)
    all_goals (try omega)
    rw [gs h3]
    have hfin := Rest.new (S := [R]) (a := some (.mixed (hC e))) (b := some (.mixed (hC e))) (l := [e]) (List.mem_singleton.2 rfl) (List.length_set ..) (fun i hi => set_out hi) (gself (x := some (Row.mixed [AV.slice true (Sy.Id.own (rows.length + 2)) 0 1 34])) h3)
    rw [cellsH_one] at hfin
    exact hfin
  · simp only [gl h2, ge0, hl, hz, hz1, hz2, hfl, hsp, hse, node_b, List.append_assoc, List.cons_append, List.nil_append, wT, Bool.not_eq_true, ty, zr, Nat.reduceAdd, Nat.reduceSub, Nat.reduceMul, Nat.reduceMod, Nat.reduceDiv, Nat.reduceEqDiff, Nat.reduceLeDiff, Nat.reduceBEq, Int.reduceAdd, Int.reduceSub, Int.reduceMul, Int.reduceNeg, Int.reduceLT, Int.reduceLE, Int.reduceEq, Int.reduceNe, Int.reduceBEq, Int.reduceToNat, Int.reduceTDiv, Int.reduceTMod, Int.reduceOfNat, reduceCtorEq, sty, sui]
    try simp (disch := first | omega | (simp only [List.length_set, List.length_replicate, List.length_append, List.length_nil]; first | done | omega)) only [aT, Int.reduceToNat, List.length_set, List.length_replicate, List.length_append, List.length_nil]
    simp only [gl h3, geN, hl, hse, hcl, Nat.add_assoc, Nat.reduceAdd, wT, Bool.not_eq_true, ty, zr, Nat.reduceAdd, Nat.reduceSub, Nat.reduceMul, Nat.reduceMod, Nat.reduceDiv, Nat.reduceEqDiff, Nat.reduceLeDiff, Nat.reduceBEq, Int.reduceAdd, Int.reduceSub, Int.reduceMul, Int.reduceNeg, Int.reduceLT, Int.reduceLE, Int.reduceEq, Int.reduceNe, Int.reduceBEq, Int.reduceToNat, Int.reduceTDiv, Int.reduceTMod, Int.reduceOfNat, reduceCtorEq, sty, sui]
    try simp (disch := first | omega | (simp only [List.length_set, List.length_replicate, List.length_append, List.length_nil]; first | done | omega)) only [aT, Int.reduceToNat, List.length_set, List.length_replicate, List.length_append, List.length_nil]
    repeat' (with_reducible refine And.intro ?_ ?_)
    all_goals (try omega)
    have hj2 := gn (x := none) h0 h2
    simp only [gs h3, List.append_assoc, List.cons_append, List.nil_append, gl hj2, gs hj2, endQ, rs_keytree_Tree_Puncture_1, resC, one, wT, Bool.not_eq_true, ty, zr, Nat.reduceAdd, Nat.reduceSub, Nat.reduceMul, Nat.reduceMod, Nat.reduceDiv, Nat.reduceEqDiff, Nat.reduceLeDiff, Nat.reduceBEq, Int.reduceAdd, Int.reduceSub, Int.reduceMul, Int.reduceNeg, Int.reduceLT, Int.reduceLE, Int.reduceEq, Int.reduceNe, Int.reduceBEq, Int.reduceToNat, Int.reduceTDiv, Int.reduceTMod, Int.reduceOfNat, reduceCtorEq, sty, sui]
    try simp (disch := first | omega | (simp only [List.length_set, List.length_replicate, List.length_append, List.length_nil]; first | done | omega)) only [aT, Int.reduceToNat, List.length_set, List.length_replicate, List.length_append, List.length_nil]
    repeat' (with_reducible refine And.intro ?_ ?_)
    all_goals (try omega)
    have hce : (cellsH l ++ hC e : List (AV (Sy.Id α))) = cellsH (l ++ [e]) := by rw [cellsH_app, cellsH_one]
    rw [hce]
    refine Rest.new (S := [R, j]) (l := l ++ [e]) (by simp) (by rw [List.length_set, List.length_set]) (fun i hi => ?_) (by rw [gself hj2, List.length_append]; rfl)
    rw [List.getElem?_set_ne (fun h => hi (by simp [h])), List.getElem?_set_ne (fun h => hi (by simp [h]))]
theorem Fr.set {α : Type} {rows r : Sy.Rows α} {S S' : List Nat} (h : Fr rows S r S') {i : Nat} (hi : rows.length ≤ i) (x : Option (Row (Sy.Id α))) : Fr rows S (r.set i x) S' :=
  ⟨by rw [List.length_set]; exact h.len, fun j hj hn => by rw [List.getElem?_set_ne (by omega)]; exact h.out j hj hn, h.new⟩
theorem asK_len (n : Nat) : ∀ (f : Nat) (h : HN), (asK n f h).length = f
  | 0, _ => rfl
  | f + 1, h => by rw [asK, List.length_cons, asK_len n f]
theorem stepK_a {n : Nat} {e : HN} (he : e.a < 131072) (hd : e.d < 17) (hn : n < 131072) : (stepK n e).1.a < 131072 := by
  unfold stepK
  split
  · rename_i h; show e.a + 2 ^ (16 - e.d) < 131072; omega
  · exact he
theorem down_ok {α : Type} (E : α → Option (Row α)) (rows : Sy.Rows α) (X : Nat) (sl : AV (Sy.Id α)) (S0 : List Nat) (fv : AV (Sy.Id α)) (I : Sy.Rows α → List Nat → List HN → Prop) (h0 : HN) (n f : Nat) (hs : h0.s.length = 32) (hf : h0.d + f = 17) (ha : h0.a < 131072) (hn : n < 131072) (hX : rows[X]? = some (some (.mixed [realC, sl]))) (hXS : X ∉ S0) (hfv : AsOk E fv I) (hI : I rows S0 []) (hIa : ∀ r S l junk, I r S l → I (r ++ junk) S l) (hIs : ∀ r S l i x, I r S l → i ∉ S → I (r.set i x) S l) (hIl : ∀ r S l i, I r S l → i ∈ S → i < r.length) (hWa : WH (asK n f h0)) :
    FnOkP Try.prog n_keytree_Tree_down E [.ptr (.own X) 0, .agg (hC h0), .int .u64 (n : Int), fv] rows (fun res rows' => res = .ints .u8 (goK n f h0).s ∧ ∃ S', I rows' S' (asK n f h0) ∧ Fr rows S0 rows' S') := by
  obtain ⟨ff, caps, rfl, hcall⟩ := hfv
  have hl := hC_len (ι := Sy.Id α) hs
  refine FnOkP.intro func_keytree_Tree_down call_keytree_Tree_down (body := _) rfl nt_keytree_Tree_down (by simp) ?_
  refine AWp.reg p_keytree_Tree_down_0 [] s_keytree_Tree_down_0 rfl rfl fun K hK => st_of ?_
  simp only [s_keytree_Tree_down_0, wT, Bool.not_eq_true, ty, zr, Nat.reduceAdd, Nat.reduceSub, Nat.reduceMul, Nat.reduceMod, Nat.reduceDiv, Nat.reduceEqDiff, Nat.reduceLeDiff, Nat.reduceBEq, Int.reduceAdd, Int.reduceSub, Int.reduceMul, Int.reduceNeg, Int.reduceLT, Int.reduceLE, Int.reduceEq, Int.reduceNe, Int.reduceBEq, Int.reduceToNat, Int.reduceTDiv, Int.reduceTMod, Int.reduceOfNat, reduceCtorEq, sty, sui]
  try simp (disch := first | omega | (simp only [List.length_set, List.length_replicate, List.length_append, List.length_nil]; first | done | omega)) only [aT, Int.reduceToNat, List.length_set, List.length_replicate, List.length_append, List.length_nil]
  (repeat ((with_reducible refine And.intro ?_ ?_); (first | omega | exact True.intro | with_reducible rfl | decide | assumption | rfl)))
  refine hK _ ?_; clear hK K
  refine AWp.reg p_keytree_Tree_down_1 [] s_keytree_Tree_down_1 rfl rfl fun K hK => st_of ?_
  simp only [s_keytree_Tree_down_1, wT, Bool.not_eq_true, ty, zr, Nat.reduceAdd, Nat.reduceSub, Nat.reduceMul, Nat.reduceMod, Nat.reduceDiv, Nat.reduceEqDiff, Nat.reduceLeDiff, Nat.reduceBEq, Int.reduceAdd, Int.reduceSub, Int.reduceMul, Int.reduceNeg, Int.reduceLT, Int.reduceLE, Int.reduceEq, Int.reduceNe, Int.reduceBEq, Int.reduceToNat, Int.reduceTDiv, Int.reduceTMod, Int.reduceOfNat, reduceCtorEq, sty, sui]
  try simp (disch := first | omega | (simp only [List.length_set, List.length_replicate, List.length_append, List.length_nil]; first | done | omega)) only [aT, Int.reduceToNat, List.length_set, List.length_replicate, List.length_append, List.length_nil]
  (repeat ((with_reducible refine And.intro ?_ ?_); (first | omega | exact True.intro | with_reducible rfl | decide | assumption | rfl)))
  refine hK _ ?_; clear hK K
  refine AWp.gho (β := Nat × HN × Sy.Rows α × List Nat × List HN) (fun gx : Nat × HN × Sy.Rows α × List Nat × List HN => match gx with | ⟨g, h, rs, S, l⟩ => ⟨[(2, .int .u64 (n : Int)), (3, .func ff caps), (4, .ptr (.own rows.length) 0), (5, .ptr (.own (rows.length + 1)) 0), (8, .ptr (.own (rows.length + 2)) 0), (9, .func n_keytree_Tree_down_1 [.ptr (.own rows.length) 0])], rs⟩) (fun gx : Nat × HN × Sy.Rows α × List Nat × List HN => match gx with | ⟨g, h, rs, S, l⟩ => g) (fun gx : Nat × HN × Sy.Rows α × List Nat × List HN => match gx with | ⟨g, h, rs, S, l⟩ => h.d + g = 17 ∧ h.s.length = 32 ∧ h.a < 131072 ∧ (rs[X]? = some (some (.mixed [realC, sl])) ∧ X ∉ S) ∧ (rs[rows.length]? = some (some (.mixed [.ptr (.own X) 0])) ∧ rows.length ∉ S) ∧ (rs[rows.length + 1]? = some (some (.mixed (hC h))) ∧ rows.length + 1 ∉ S) ∧ (rs[rows.length + 2]? = some (some (.ints .u8 (List.replicate 32 0))) ∧ rows.length + 2 ∉ S) ∧ I rs S l ∧ l ++ asK n g h = asK n f h0 ∧ goK n g h = goK n f h0 ∧ Fr rows S0 rs S) (f, h0, rows ++ [some (.mixed [.ptr (.own X) 0]), some (.mixed (hC h0)), some (.ints .u8 (List.replicate 32 0))], S0, []) ?_ ?_ fun X0 hX0 y0 hF0 => ?_
  · dsimp only
    simp only [List.append_assoc, List.cons_append, List.nil_append, Nat.add_assoc, Nat.reduceAdd]
    exact Le.sub
  · have hS0 : ∀ i, i ∈ S0 → i < rows.length := fun i hi => hIl rows S0 [] i hI hi
    exact ⟨hf, hs, ha, ⟨gl hX, hXS⟩, ⟨ge0 _ _, fun h => by have := hS0 _ h; omega⟩, ⟨by rw [geN]; rfl, fun h => by have := hS0 _ h; omega⟩, ⟨by rw [geN]; rfl, fun h => by have := hS0 _ h; omega⟩, hIa _ _ _ _ hI, rfl, rfl, Fr.app _⟩
  obtain ⟨g, h, rs, S, l⟩ := y0
  dsimp only at hF0 ⊢
  obtain ⟨hg, hhs, hha, ⟨gX, nX⟩, ⟨g4, n4⟩, ⟨g5, n5⟩, ⟨g8, n8⟩, hIr, hgo, hgk, hF⟩ := hF0
  have hhl := hC_len (ι := Sy.Id α) hhs
  refine AWp.grp fun G18 hG18 => ?_
  refine AWp.reg p_keytree_Tree_down_2 [] s_keytree_Tree_down_2 rfl rfl fun K hK => st_of ?_
  simp only [s_keytree_Tree_down_2, wT, Bool.not_eq_true, ty, zr, Nat.reduceAdd, Nat.reduceSub, Nat.reduceMul, Nat.reduceMod, Nat.reduceDiv, Nat.reduceEqDiff, Nat.reduceLeDiff, Nat.reduceBEq, Int.reduceAdd, Int.reduceSub, Int.reduceMul, Int.reduceNeg, Int.reduceLT, Int.reduceLE, Int.reduceEq, Int.reduceNe, Int.reduceBEq, Int.reduceToNat, Int.reduceTDiv, Int.reduceTMod, Int.reduceOfNat, reduceCtorEq, sty, sui]
  try simp (disch := first | omega | (simp only [List.length_set, List.length_replicate, List.length_append, List.length_nil]; first | done | omega)) only [aT, Int.reduceToNat, List.length_set, List.length_replicate, List.length_append, List.length_nil]
  simp only [g5, hC_d, hhl, wT, Bool.not_eq_true, ty, zr, Nat.reduceAdd, Nat.reduceSub, Nat.reduceMul, Nat.reduceMod, Nat.reduceDiv, Nat.reduceEqDiff, Nat.reduceLeDiff, Nat.reduceBEq, Int.reduceAdd, Int.reduceSub, Int.reduceMul, Int.reduceNeg, Int.reduceLT, Int.reduceLE, Int.reduceEq, Int.reduceNe, Int.reduceBEq, Int.reduceToNat, Int.reduceTDiv, Int.reduceTMod, Int.reduceOfNat, reduceCtorEq, sty, sui]
  try simp (disch := first | omega | (simp only [List.length_set, List.length_replicate, List.length_append, List.length_nil]; first | done | omega)) only [aT, Int.reduceToNat, List.length_set, List.length_replicate, List.length_append, List.length_nil]
  (repeat ((with_reducible refine And.intro ?_ ?_); (first | omega | exact True.intro | with_reducible rfl | decide | assumption | rfl)))
  refine hK _ ?_; clear hK K
  refine AWp.testE rfl (fun hb => ?_) (fun hb => ?_)
  · try simp only [decide_eq_true_eq, decide_eq_false_iff_not, beq_iff_eq, bne_iff_ne, ne_eq, Bool.not_eq_true, beq_eq_false_iff_ne, bne_eq_false_iff_eq, Bool.not_eq_false, Bool.not_eq_eq_eq_not, Bool.not_true, Bool.not_false] at hb
    obtain ⟨g, rfl⟩ : ∃ m, g = m + 1 := ⟨g - 1, by omega⟩
    have hd17 : h.d < 17 := by omega
    have hlL := hC_len (ι := Sy.Id α) (e := kidL h) (spL_len _)
    have hlR := hC_len (ι := Sy.Id α) (e := kidR h) (spR_len _)
    have hsL : Sy.splice zH 0 (hC (kidL h) : List (AV (Sy.Id α))) = hC (kidL h) := splice_all (by rw [hlL]; simp [flatI_len])
    have hsR : Sy.splice zH 0 (hC (kidR h) : List (AV (Sy.Id α))) = hC (kidR h) := splice_all (by rw [hlR]; simp [flatI_len])
    try simp only [thenQ, bq, lq, lf, iq, gq, Nat.reduceEqDiff, if_true, if_false]
    refine hG18 _ ?_
    try clear hG18 G18
    refine AWp.blkX fun Y1 hY1 => ?_
    refine AWp.reg p_keytree_Tree_down_3 [] s_keytree_Tree_down_3 rfl rfl fun K hK => st_of ?_
    simp only [s_keytree_Tree_down_3, wT, Bool.not_eq_true, ty, zr, Nat.reduceAdd, Nat.reduceSub, Nat.reduceMul, Nat.reduceMod, Nat.reduceDiv, Nat.reduceEqDiff, Nat.reduceLeDiff, Nat.reduceBEq, Int.reduceAdd, Int.reduceSub, Int.reduceMul, Int.reduceNeg, Int.reduceLT, Int.reduceLE, Int.reduceEq, Int.reduceNe, Int.reduceBEq, Int.reduceToNat, Int.reduceTDiv, Int.reduceTMod, Int.reduceOfNat, reduceCtorEq, sty, sui]
    try simp (disch := first | omega | (simp only [List.length_set, List.length_replicate, List.length_append, List.length_nil]; first | done | omega)) only [aT, Int.reduceToNat, List.length_set, List.length_replicate, List.length_append, List.length_nil]
    simp only [g5, hhl, wT, Bool.not_eq_true, ty, zr, Nat.reduceAdd, Nat.reduceSub, Nat.reduceMul, Nat.reduceMod, Nat.reduceDiv, Nat.reduceEqDiff, Nat.reduceLeDiff, Nat.reduceBEq, Int.reduceAdd, Int.reduceSub, Int.reduceMul, Int.reduceNeg, Int.reduceLT, Int.reduceLE, Int.reduceEq, Int.reduceNe, Int.reduceBEq, Int.reduceToNat, Int.reduceTDiv, Int.reduceTMod, Int.reduceOfNat, reduceCtorEq, sty, sui]
    try simp (disch := first | omega | (simp only [List.length_set, List.length_replicate, List.length_append, List.length_nil]; first | done | omega)) only [aT, Int.reduceToNat, List.length_set, List.length_replicate, List.length_append, List.length_nil]
    (repeat ((with_reducible refine And.intro ?_ ?_); (first | omega | exact True.intro | with_reducible rfl | decide | assumption | rfl)))
    (repeat ((with_reducible refine And.intro ?_ ?_); (first | omega | exact True.intro | with_reducible rfl | decide | assumption | rfl)))
    refine st_call fun K1 hK1 => ?_
    simp only [calleeC, wT, Bool.not_eq_true, ty, zr, Nat.reduceAdd, Nat.reduceSub, Nat.reduceMul, Nat.reduceMod, Nat.reduceDiv, Nat.reduceEqDiff, Nat.reduceLeDiff, Nat.reduceBEq, Int.reduceAdd, Int.reduceSub, Int.reduceMul, Int.reduceNeg, Int.reduceLT, Int.reduceLE, Int.reduceEq, Int.reduceNe, Int.reduceBEq, Int.reduceToNat, Int.reduceTDiv, Int.reduceTMod, Int.reduceOfNat, reduceCtorEq, sty, sui]
    try simp (disch := first | omega | (simp only [List.length_set, List.length_replicate, List.length_append, List.length_nil]; first | done | omega)) only [aT, Int.reduceToNat, List.length_set, List.length_replicate, List.length_append, List.length_nil]
    refine hK1 _ _ ?_
    clear hK1 K1
    simp only [CallTo, AV.mapL, AV.map, mapL_flat, mapL_flat1]
    simp only [hC_map]
    refine ⟨_, FnOk.toP (split1_ok _ (Sy.Id.own rows.length) (Sy.Id.own X) sl h hhs hd17 hha (by simp only [Sy.look, g4, Option.join_some]) (by simp only [Sy.look, gX, Option.join_some])) ⟨rfl, rfl⟩, ofEq ?_⟩
    simp only [hC_map, wT, Bool.not_eq_true, ty, zr, Nat.reduceAdd, Nat.reduceSub, Nat.reduceMul, Nat.reduceMod, Nat.reduceDiv, Nat.reduceEqDiff, Nat.reduceLeDiff, Nat.reduceBEq, Int.reduceAdd, Int.reduceSub, Int.reduceMul, Int.reduceNeg, Int.reduceLT, Int.reduceLE, Int.reduceEq, Int.reduceNe, Int.reduceBEq, Int.reduceToNat, Int.reduceTDiv, Int.reduceTMod, Int.reduceOfNat, reduceCtorEq, sty, sui]
    try simp (disch := first | omega | (simp only [List.length_set, List.length_replicate, List.length_append, List.length_nil]; first | done | omega)) only [aT, Int.reduceToNat, List.length_set, List.length_replicate, List.length_append, List.length_nil]
    simp only [List.append_assoc, List.cons_append, List.nil_append, ge0, geN, gset0, gsN, hlL, hlR, hsL, hsR, wT, Bool.not_eq_true, ty, zr, Nat.reduceAdd, Nat.reduceSub, Nat.reduceMul, Nat.reduceMod, Nat.reduceDiv, Nat.reduceEqDiff, Nat.reduceLeDiff, Nat.reduceBEq, Int.reduceAdd, Int.reduceSub, Int.reduceMul, Int.reduceNeg, Int.reduceLT, Int.reduceLE, Int.reduceEq, Int.reduceNe, Int.reduceBEq, Int.reduceToNat, Int.reduceTDiv, Int.reduceTMod, Int.reduceOfNat, reduceCtorEq, sty, sui]
    try simp (disch := first | omega | (simp only [List.length_set, List.length_replicate, List.length_append, List.length_nil]; first | done | omega)) only [aT, Int.reduceToNat, List.length_set, List.length_replicate, List.length_append, List.length_nil]
    repeat' (with_reducible refine And.intro ?_ ?_)
    all_goals (try omega)
    refine hK _ ?_; clear hK K
    refine AWp.grpJ ⟨[(2, .int .u64 (n : Int)), (3, .func ff caps), (4, .ptr (.own rows.length) 0), (5, .ptr (.own (rows.length + 1)) 0), (8, .ptr (.own (rows.length + 2)) 0), (9, .func n_keytree_Tree_down_1 [.ptr (.own rows.length) 0]), (10, .ptr (.own rs.length) 0), (11, .ptr (.own (rs.length + 1)) 0)], rs ++ [some (.mixed (hC (stepK n h).1)), some (.mixed (hC (stepK n h).2))]⟩ (fun G53 hG53 => ?_) ?_
    · skip
      refine AWp.reg p_keytree_Tree_down_4 [] s_keytree_Tree_down_4 rfl rfl fun K hK => st_of ?_
      simp only [s_keytree_Tree_down_4, wT, Bool.not_eq_true, ty, zr, Nat.reduceAdd, Nat.reduceSub, Nat.reduceMul, Nat.reduceMod, Nat.reduceDiv, Nat.reduceEqDiff, Nat.reduceLeDiff, Nat.reduceBEq, Int.reduceAdd, Int.reduceSub, Int.reduceMul, Int.reduceNeg, Int.reduceLT, Int.reduceLE, Int.reduceEq, Int.reduceNe, Int.reduceBEq, Int.reduceToNat, Int.reduceTDiv, Int.reduceTMod, Int.reduceOfNat, reduceCtorEq, sty, sui]
      try simp (disch := first | omega | (simp only [List.length_set, List.length_replicate, List.length_append, List.length_nil]; first | done | omega)) only [aT, Int.reduceToNat, List.length_set, List.length_replicate, List.length_append, List.length_nil]
      simp only [geN, hC_a, hlR, wT, Bool.not_eq_true, ty, zr, Nat.reduceAdd, Nat.reduceSub, Nat.reduceMul, Nat.reduceMod, Nat.reduceDiv, Nat.reduceEqDiff, Nat.reduceLeDiff, Nat.reduceBEq, Int.reduceAdd, Int.reduceSub, Int.reduceMul, Int.reduceNeg, Int.reduceLT, Int.reduceLE, Int.reduceEq, Int.reduceNe, Int.reduceBEq, Int.reduceToNat, Int.reduceTDiv, Int.reduceTMod, Int.reduceOfNat, reduceCtorEq, sty, sui]
      try simp (disch := first | omega | (simp only [List.length_set, List.length_replicate, List.length_append, List.length_nil]; first | done | omega)) only [aT, Int.reduceToNat, List.length_set, List.length_replicate, List.length_append, List.length_nil]
      repeat' (with_reducible refine And.intro ?_ ?_)
      all_goals (try omega)
      refine hK _ ?_; clear hK K
      refine AWp.iteE rfl (fun hb => ?_) (fun hb => ?_)
      · try simp only [decide_eq_true_eq, decide_eq_false_iff_not, beq_iff_eq, bne_iff_ne, ne_eq, Bool.not_eq_true, beq_eq_false_iff_ne, bne_eq_false_iff_eq, Bool.not_eq_false, Bool.not_eq_eq_eq_not, Bool.not_true, Bool.not_false] at hb
        have hst : stepK n h = (kidR h, kidL h) := by
          unfold stepK
          exact if_pos (show (kidR h).a ≤ n by omega)
        have sL : Sy.splice (hC (kidL h) : List (AV (Sy.Id α))) 0 (hC (kidR h)) = hC (kidR h) := splice_all (by rw [hlL, hlR])
        have sR : Sy.splice (hC (kidR h) : List (AV (Sy.Id α))) 0 (hC (kidL h)) = hC (kidL h) := splice_all (by rw [hlL, hlR])
        refine AWp.regE p_keytree_Tree_down_5 [] s_keytree_Tree_down_5 rfl rfl (st_of ?_)
        simp only [s_keytree_Tree_down_5, wT, Bool.not_eq_true, ty, zr, Nat.reduceAdd, Nat.reduceSub, Nat.reduceMul, Nat.reduceMod, Nat.reduceDiv, Nat.reduceEqDiff, Nat.reduceLeDiff, Nat.reduceBEq, Int.reduceAdd, Int.reduceSub, Int.reduceMul, Int.reduceNeg, Int.reduceLT, Int.reduceLE, Int.reduceEq, Int.reduceNe, Int.reduceBEq, Int.reduceToNat, Int.reduceTDiv, Int.reduceTMod, Int.reduceOfNat, reduceCtorEq, sty, sui]
        try simp (disch := first | omega | (simp only [List.length_set, List.length_replicate, List.length_append, List.length_nil]; first | done | omega)) only [aT, Int.reduceToNat, List.length_set, List.length_replicate, List.length_append, List.length_nil]
        simp only [ge0, geN, gset0, gsN, hlL, hlR, sL, sR, wT, Bool.not_eq_true, ty, zr, Nat.reduceAdd, Nat.reduceSub, Nat.reduceMul, Nat.reduceMod, Nat.reduceDiv, Nat.reduceEqDiff, Nat.reduceLeDiff, Nat.reduceBEq, Int.reduceAdd, Int.reduceSub, Int.reduceMul, Int.reduceNeg, Int.reduceLT, Int.reduceLE, Int.reduceEq, Int.reduceNe, Int.reduceBEq, Int.reduceToNat, Int.reduceTDiv, Int.reduceTMod, Int.reduceOfNat, reduceCtorEq, sty, sui]
        try simp (disch := first | omega | (simp only [List.length_set, List.length_replicate, List.length_append, List.length_nil]; first | done | omega)) only [aT, Int.reduceToNat, List.length_set, List.length_replicate, List.length_append, List.length_nil]
        repeat' (with_reducible refine And.intro ?_ ?_)
        all_goals (try omega)
        try simp only [thenQ, bq, lq, lf, iq, gq, Nat.reduceEqDiff, if_true, if_false]
        refine hG53 _ ?_
        rw [hst]
        exact Le.sub
      · try simp only [decide_eq_true_eq, decide_eq_false_iff_not, beq_iff_eq, bne_iff_ne, ne_eq, Bool.not_eq_true, beq_eq_false_iff_ne, bne_eq_false_iff_eq, Bool.not_eq_false, Bool.not_eq_eq_eq_not, Bool.not_true, Bool.not_false] at hb
        have hst : stepK n h = (kidL h, kidR h) := by
          unfold stepK
          exact if_neg (show ¬ (kidR h).a ≤ n by omega)
        refine AWp.skip ?_
        try simp only [thenQ, bq, lq, lf, iq, gq, Nat.reduceEqDiff, if_true, if_false]
        refine hG53 _ ?_
        rw [hst]
        exact Le.sub
    have hs1 := stepK_s n h
    have hd1 := stepK_d n h
    have hl1 := hC_len (ι := Sy.Id α) hs1.1
    have hl2 := hC_len (ι := Sy.Id α) hs1.2
    have hlen : l.length < 100 := by have := congrArg List.length hgo; rw [List.length_append, asK_len, asK_len] at this; omega
    have hWl : WH l := fun e he => hWa e (by rw [← hgo]; simp [he])
    refine AWp.reg p_keytree_Tree_down_6 q_keytree_Tree_down_6 s_keytree_Tree_down_6 rfl rfl fun K hK => st_of ?_
    simp only [s_keytree_Tree_down_6, wT, Bool.not_eq_true, ty, zr, Nat.reduceAdd, Nat.reduceSub, Nat.reduceMul, Nat.reduceMod, Nat.reduceDiv, Nat.reduceEqDiff, Nat.reduceLeDiff, Nat.reduceBEq, Int.reduceAdd, Int.reduceSub, Int.reduceMul, Int.reduceNeg, Int.reduceLT, Int.reduceLE, Int.reduceEq, Int.reduceNe, Int.reduceBEq, Int.reduceToNat, Int.reduceTDiv, Int.reduceTMod, Int.reduceOfNat, reduceCtorEq, sty, sui]
    try simp (disch := first | omega | (simp only [List.length_set, List.length_replicate, List.length_append, List.length_nil]; first | done | omega)) only [aT, Int.reduceToNat, List.length_set, List.length_replicate, List.length_append, List.length_nil]
    simp only [ge0, geN, hl1, hl2, wT, Bool.not_eq_true, ty, zr, Nat.reduceAdd, Nat.reduceSub, Nat.reduceMul, Nat.reduceMod, Nat.reduceDiv, Nat.reduceEqDiff, Nat.reduceLeDiff, Nat.reduceBEq, Int.reduceAdd, Int.reduceSub, Int.reduceMul, Int.reduceNeg, Int.reduceLT, Int.reduceLE, Int.reduceEq, Int.reduceNe, Int.reduceBEq, Int.reduceToNat, Int.reduceTDiv, Int.reduceTMod, Int.reduceOfNat, reduceCtorEq, sty, sui]
    try simp (disch := first | omega | (simp only [List.length_set, List.length_replicate, List.length_append, List.length_nil]; first | done | omega)) only [aT, Int.reduceToNat, List.length_set, List.length_replicate, List.length_append, List.length_nil]
    repeat' (with_reducible refine And.intro ?_ ?_)
    all_goals (try omega)
    (repeat ((with_reducible refine And.intro ?_ ?_); (first | omega | exact True.intro | with_reducible rfl | decide | assumption | rfl)))
    refine st_scall fun K1 hK1 => ?_
    simp only [calleeC, wT, Bool.not_eq_true, ty, zr, Nat.reduceAdd, Nat.reduceSub, Nat.reduceMul, Nat.reduceMod, Nat.reduceDiv, Nat.reduceEqDiff, Nat.reduceLeDiff, Nat.reduceBEq, Int.reduceAdd, Int.reduceSub, Int.reduceMul, Int.reduceNeg, Int.reduceLT, Int.reduceLE, Int.reduceEq, Int.reduceNe, Int.reduceBEq, Int.reduceToNat, Int.reduceTDiv, Int.reduceTMod, Int.reduceOfNat, reduceCtorEq, sty, sui]
    try simp (disch := first | omega | (simp only [List.length_set, List.length_replicate, List.length_append, List.length_nil]; first | done | omega)) only [aT, Int.reduceToNat, List.length_set, List.length_replicate, List.length_append, List.length_nil]
    refine hK1 _ _ ?_
    clear hK1 K1
    simp only [SameTo]
    refine ⟨_, hcall (rs ++ [some (.mixed (hC (stepK n h).1)), some (.mixed (hC (stepK n h).2))]) S l (stepK n h).2 hs1.2 (hIa _ _ _ _ hIr) hlen hWl, fun res rs2 ⟨hres, S2, hI2, hF2⟩ => ?_⟩
    subst hres
    simp only [wT, Bool.not_eq_true, ty, zr, Nat.reduceAdd, Nat.reduceSub, Nat.reduceMul, Nat.reduceMod, Nat.reduceDiv, Nat.reduceEqDiff, Nat.reduceLeDiff, Nat.reduceBEq, Int.reduceAdd, Int.reduceSub, Int.reduceMul, Int.reduceNeg, Int.reduceLT, Int.reduceLE, Int.reduceEq, Int.reduceNe, Int.reduceBEq, Int.reduceToNat, Int.reduceTDiv, Int.reduceTMod, Int.reduceOfNat, reduceCtorEq, sty, sui]
    try simp (disch := first | omega | (simp only [List.length_set, List.length_replicate, List.length_append, List.length_nil]; first | done | omega)) only [aT, Int.reduceToNat, List.length_set, List.length_replicate, List.length_append, List.length_nil]
    (repeat ((with_reducible refine And.intro ?_ ?_); (first | omega | exact True.intro | with_reducible rfl | decide | assumption | rfl)))
    refine hK _ ?_; clear hK K
    have kX := hF2.keep (gl gX) nX
    have k4 := hF2.keep (gl g4) n4
    have k5 := hF2.keep (gl g5) n5
    have k8 := hF2.keep (gl g8) n8
    have k10 := hF2.keep (i := rs.length) (ge0 _ _) (fun hm => by have := hIl _ _ _ _ hIr hm; omega)
    have hXl : X < rows.length := (List.getElem?_eq_some_iff.1 hX).1
    have s5 : Sy.splice (hC h : List (AV (Sy.Id α))) 0 (hC (stepK n h).1) = hC (stepK n h).1 := splice_all (by rw [hhl, hl1])
    refine AWp.regE p_keytree_Tree_down_7 [] s_keytree_Tree_down_7 rfl rfl (st_of ?_)
    simp only [s_keytree_Tree_down_7, wT, Bool.not_eq_true, ty, zr, Nat.reduceAdd, Nat.reduceSub, Nat.reduceMul, Nat.reduceMod, Nat.reduceDiv, Nat.reduceEqDiff, Nat.reduceLeDiff, Nat.reduceBEq, Int.reduceAdd, Int.reduceSub, Int.reduceMul, Int.reduceNeg, Int.reduceLT, Int.reduceLE, Int.reduceEq, Int.reduceNe, Int.reduceBEq, Int.reduceToNat, Int.reduceTDiv, Int.reduceTMod, Int.reduceOfNat, reduceCtorEq, sty, sui]
    try simp (disch := first | omega | (simp only [List.length_set, List.length_replicate, List.length_append, List.length_nil]; first | done | omega)) only [aT, Int.reduceToNat, List.length_set, List.length_replicate, List.length_append, List.length_nil]
    simp only [k10.1, k5.1, hhl, hl1, s5, wT, Bool.not_eq_true, ty, zr, Nat.reduceAdd, Nat.reduceSub, Nat.reduceMul, Nat.reduceMod, Nat.reduceDiv, Nat.reduceEqDiff, Nat.reduceLeDiff, Nat.reduceBEq, Int.reduceAdd, Int.reduceSub, Int.reduceMul, Int.reduceNeg, Int.reduceLT, Int.reduceLE, Int.reduceEq, Int.reduceNe, Int.reduceBEq, Int.reduceToNat, Int.reduceTDiv, Int.reduceTMod, Int.reduceOfNat, reduceCtorEq, sty, sui]
    try simp (disch := first | omega | (simp only [List.length_set, List.length_replicate, List.length_append, List.length_nil]; first | done | omega)) only [aT, Int.reduceToNat, List.length_set, List.length_replicate, List.length_append, List.length_nil]
    repeat' (with_reducible refine And.intro ?_ ?_)
    all_goals (try omega)
    try simp only [thenQ, bq, lq, lf, iq, gq, Nat.reduceEqDiff, if_true, if_false]
    refine hY1 _ ?_
    try clear hY1 Y1
    try simp only [thenQ, bq, lq, lf, iq, gq, Nat.reduceEqDiff, if_true, if_false]
    refine ⟨(g, (stepK n h).1, rs2.set (rows.length + 1) (some (.mixed (hC (stepK n h).1))), S2, l ++ [(stepK n h).2]), ?_, ?_, ?_⟩
    · (try dsimp only); omega
    · refine ⟨by rw [hd1.1]; omega, hs1.1, stepK_a hha hd17 hn, ⟨gn (by omega) kX.1, kX.2⟩, ⟨gn (by omega) k4.1, k4.2⟩, ⟨gself k5.1, k5.2⟩, ⟨gn (by omega) k8.1, k8.2⟩, hIs _ _ _ _ _ hI2 k5.2, ?_, hgk, ((hF.trans (Fr.app _)).trans hF2).set (by omega) _⟩
      rw [← hgo, List.append_assoc]; rfl
    · try dsimp only
      exact Le.sub
  · try simp only [decide_eq_true_eq, decide_eq_false_iff_not, beq_iff_eq, bne_iff_ne, ne_eq, Bool.not_eq_true, beq_eq_false_iff_ne, bne_eq_false_iff_eq, Bool.not_eq_false, Bool.not_eq_eq_eq_not, Bool.not_true, Bool.not_false] at hb
    try simp only [thenQ, bq, lq, lf, iq, gq, Nat.reduceEqDiff, if_true, if_false]
    refine hX0 _ ?_
    try clear hX0 X0
    obtain rfl : g = 0 := by omega
    have hgo2 : l = asK n f h0 := by rw [← hgo]; exact (List.append_nil _).symm
    subst hgo2
    have hhs2 : Sy.splice (List.replicate 32 (0 : Int)) 0 h.s = h.s := splice_all (by rw [hhs, List.length_replicate])
    have hsh : sub h.s 0 32 = h.s := sub_all hhs
    refine AWp.reg p_keytree_Tree_down_8 [] s_keytree_Tree_down_8 rfl rfl fun K hK => st_of ?_
    simp only [s_keytree_Tree_down_8, wT, Bool.not_eq_true, ty, zr, Nat.reduceAdd, Nat.reduceSub, Nat.reduceMul, Nat.reduceMod, Nat.reduceDiv, Nat.reduceEqDiff, Nat.reduceLeDiff, Nat.reduceBEq, Int.reduceAdd, Int.reduceSub, Int.reduceMul, Int.reduceNeg, Int.reduceLT, Int.reduceLE, Int.reduceEq, Int.reduceNe, Int.reduceBEq, Int.reduceToNat, Int.reduceTDiv, Int.reduceTMod, Int.reduceOfNat, reduceCtorEq, sty, sui]
    try simp (disch := first | omega | (simp only [List.length_set, List.length_replicate, List.length_append, List.length_nil]; first | done | omega)) only [aT, Int.reduceToNat, List.length_set, List.length_replicate, List.length_append, List.length_nil]
    simp only [g5, g8, hC_s hhs, hhl, hhs, hhs2, wT, Bool.not_eq_true, ty, zr, Nat.reduceAdd, Nat.reduceSub, Nat.reduceMul, Nat.reduceMod, Nat.reduceDiv, Nat.reduceEqDiff, Nat.reduceLeDiff, Nat.reduceBEq, Int.reduceAdd, Int.reduceSub, Int.reduceMul, Int.reduceNeg, Int.reduceLT, Int.reduceLE, Int.reduceEq, Int.reduceNe, Int.reduceBEq, Int.reduceToNat, Int.reduceTDiv, Int.reduceTMod, Int.reduceOfNat, reduceCtorEq, sty, sui]
    try simp (disch := first | omega | (simp only [List.length_set, List.length_replicate, List.length_append, List.length_nil]; first | done | omega)) only [aT, Int.reduceToNat, List.length_set, List.length_replicate, List.length_append, List.length_nil]
    repeat' (with_reducible refine And.intro ?_ ?_)
    all_goals (try omega)
    refine hK _ ?_; clear hK K
    refine AWp.ret ?_
    try simp only [thenQ, bq, lq, lf, iq, gq, Nat.reduceEqDiff, if_true, if_false]
    simp only [endQ, rs_keytree_Tree_down, resC, one, wT, Bool.not_eq_true, ty, zr, Nat.reduceAdd, Nat.reduceSub, Nat.reduceMul, Nat.reduceMod, Nat.reduceDiv, Nat.reduceEqDiff, Nat.reduceLeDiff, Nat.reduceBEq, Int.reduceAdd, Int.reduceSub, Int.reduceMul, Int.reduceNeg, Int.reduceLT, Int.reduceLE, Int.reduceEq, Int.reduceNe, Int.reduceBEq, Int.reduceToNat, Int.reduceTDiv, Int.reduceTMod, Int.reduceOfNat, reduceCtorEq, sty, sui]
    try simp (disch := first | omega | (simp only [List.length_set, List.length_replicate, List.length_append, List.length_nil]; first | done | omega)) only [aT, Int.reduceToNat, List.length_set, List.length_replicate, List.length_append, List.length_nil]
    simp only [gself g8, hhs, hsh, wT, Bool.not_eq_true, ty, zr, Nat.reduceAdd, Nat.reduceSub, Nat.reduceMul, Nat.reduceMod, Nat.reduceDiv, Nat.reduceEqDiff, Nat.reduceLeDiff, Nat.reduceBEq, Int.reduceAdd, Int.reduceSub, Int.reduceMul, Int.reduceNeg, Int.reduceLT, Int.reduceLE, Int.reduceEq, Int.reduceNe, Int.reduceBEq, Int.reduceToNat, Int.reduceTDiv, Int.reduceTMod, Int.reduceOfNat, reduceCtorEq, sty, sui]
    try simp (disch := first | omega | (simp only [List.length_set, List.length_replicate, List.length_append, List.length_nil]; first | done | omega)) only [aT, Int.reduceToNat, List.length_set, List.length_replicate, List.length_append, List.length_nil]
    exact ⟨by rw [← hgk]; rfl, S, hIs _ _ _ _ _ hIr n8, hF.set (by omega) _⟩
end Go.Proofs.Ytopiceaeombefaa
