/- Contracts: the document's answer for the index, a list of items. -/
import Derived.Test.YthbpflnbgcdmiaaFinC
namespace Go.Proofs.Ythbpflnbgcdmiaa
open Go Go.Proofs.Ythbpflnbgcdmiaa.Sy
set_option linter.unusedSimpArgs false
set_option linter.unusedVariables false
set_option maxRecDepth 100000
set_option maxHeartbeats 2000000


theorem Le.nilM {α : Type} {n : Sz} {tm : Tm (Sy.Id α)} {rows : Sy.Rows α} (t : Nat) (ht : tget tm t = .nilslice) (esz : Nat) : Le n (⟨tm, rows⟩ : St α) ⟨(t, .slice true (.own rows.length) 0 0 esz) :: tm, rows ++ [some (.mixed [])]⟩ := by
  rintro c a w ⟨ro, hr⟩
  have hs := hr.sim.pushNone (.mixed []) rfl 0
  refine ⟨_, hr.defers, hr.size, fun s => ?_, hs, hr.rm, fun j L hj => ?_⟩
  · have mono := addr_push c ro ⟨0, 0, 0⟩
    simp only [tget]
    by_cases h : t = s
    · subst h
      rw [if_pos rfl]
      have := hr.tmps t
      simp only [ht] at this
      generalize a.tmps.getD t undef = u at this
      cases this
      exact .empty true 0 esz (L := ⟨0, 0, 0⟩) (by simp only [Cx.addr]; exact last_eq hr.sim.len)
    · rw [if_neg h]
      exact (hr.tmps s).mono mono
  · have hl := hr.pin j L hj
    rw [List.getElem?_append_left (List.getElem?_eq_some_iff.1 hl).1]
    exact hl
/-- Items as cells. -/
abbrev Item := Int × List Int
def itC {ι : Type} (e : Item) : List (AV ι) := .int .u64 e.1 :: flatI .u8 e.2
def cellsI {ι : Type} : List Item → List (AV ι)
  | [] => []
  | e :: l => itC e ++ cellsI l
def WI (its : List Item) : Prop := ∀ e, e ∈ its → e.2.length = 32
theorem itC_len {ι : Type} {e : Item} (h : e.2.length = 32) : (itC e : List (AV ι)).length = 33 := by simp [itC, flatI_len, h]
theorem cellsI_len {ι : Type} : ∀ {its : List Item}, WI its → (cellsI its : List (AV ι)).length = its.length * 33
  | [], _ => rfl
  | e :: l, h => by rw [cellsI, List.length_append, itC_len (h e (by simp)), cellsI_len fun e' h' => h e' (by simp [h']), List.length_cons]; omega
theorem cellsI_app {ι : Type} : ∀ (l m : List Item), (cellsI (l ++ m) : List (AV ι)) = cellsI l ++ cellsI m
  | [], _ => rfl
  | e :: l, m => by rw [List.cons_append, cellsI, cellsI, cellsI_app l m, List.append_assoc]
theorem cellsI_one {ι : Type} (e : Item) : (cellsI [e] : List (AV ι)) = itC e := by simp [cellsI]
theorem mapL_app' {ι κ : Type} (f : ι → κ) (l m : List (AV ι)) : AV.mapL f (l ++ m) = AV.mapL f l ++ AV.mapL f m := by simp only [AV.mapL_eq, List.map_append]
theorem cellsI_map {ι κ : Type} (f : ι → κ) : ∀ l : List Item, AV.mapL f (cellsI l) = cellsI l
  | [] => rfl
  | e :: l => by rw [cellsI, mapL_app', cellsI_map f l, cellsI, itC]; simp only [AV.mapL, mapL_flat1, AV.map]; rfl
theorem sub_at {β : Type} (l m : List β) (i k : Nat) (h : l.length = i) : sub (l ++ m) (i + k) = sub m k := by
  funext n
  simp only [Sy.sub, List.drop_append, h]
  rw [List.drop_eq_nil_of_le (by omega), List.nil_append, Nat.add_sub_cancel_left]
/-- An item at its place. -/
theorem cellsI_at {ι : Type} {its : List Item} (h : WI its) {i : Nat} (hi : i < its.length) : ∃ e, its[i]? = some e ∧ e.2.length = 32 ∧ (cellsI its : List (AV ι)).getD (i * 33) .undef = .int .u64 e.1 ∧ sub (cellsI its : List (AV ι)) (i * 33) 33 = itC e ∧ sub (cellsI its : List (AV ι)) (i * 33 + 1) 32 = flatI .u8 e.2 := by
  obtain ⟨A, e, B, rfl, hA⟩ : ∃ A e B, its = A ++ e :: B ∧ A.length = i := ⟨its.take i, its[i], its.drop (i + 1), by rw [List.getElem_cons_drop, List.take_append_drop], by simp; omega⟩
  have hWA : WI A := fun e' h' => h e' (by simp [h'])
  have he : e.2.length = 32 := h e (by simp)
  have hl : (cellsI A : List (AV ι)).length = i * 33 := by rw [cellsI_len hWA, hA]
  have hc : (cellsI (A ++ e :: B) : List (AV ι)) = cellsI A ++ (itC e ++ cellsI B) := by rw [cellsI_app, cellsI]
  have hi33 : (itC e : List (AV ι)).length = 33 := itC_len he
  refine ⟨e, by rw [List.getElem?_append_right (by omega), hA, Nat.sub_self]; rfl, he, ?_, ?_, ?_⟩
  · rw [hc, List.getD_eq_getElem?_getD, List.getElem?_append_right (by omega), hl, Nat.sub_self]; rfl
  · have := sub_at (cellsI A : List (AV ι)) (itC e ++ cellsI B) (i * 33) 0 hl
    rw [hc, show i * 33 = i * 33 + 0 from rfl, this]
    simp only [Sy.sub, List.drop_zero]
    rw [List.take_left' hi33]
  · rw [hc, sub_at _ _ _ _ hl]
    simp only [Sy.sub, itC, List.cons_append, List.drop_succ_cons, List.drop_zero]
    rw [List.take_left' (by rw [flatI_len, he])]
theorem intsAV_item {ι : Type} (n : Int) {b : List Int} (h : b ≠ []) : intsAV (.int .u64 n :: flatI .u8 b : List (AV ι)) = none := by
  cases b with
  | nil => exact absurd rfl h
  | cons x l =>
    have h1 : (flatI .u8 (x :: l) : List (AV ι)) ≠ [] := by simp [flatI]
    unfold intsAV
    have := intsAV_flat (ι := ι) .u8 (l := x :: l) (by simp)
    simp only [flatI, List.map_cons] at this ⊢
    simp [this]
theorem normL_item {ι : Type} {e : Item} (h : e.2.length = 32) : normL (itC e : List (AV ι)) = .agg (itC e) := by
  unfold normL itC
  rw [intsAV_item _ (fun h0 => by rw [h0] at h; cases h)]
/-- A list of items, as a value. -/
def ItemV {α : Type} (E : α → Option (Row α)) (v : AV α) (l : List Item) : Prop := (v = .nilslice ∧ l = []) ∨ ∃ f x, v = .slice f x 0 l.length 33 ∧ E x = some (.mixed (cellsI l))
def ItemO {α : Type} (rows : Sy.Rows α) (v : AV (Sy.Id α)) (l : List Item) : Prop := (v = .nilslice ∧ l = []) ∨ ∃ j, v = .slice true (.own j) 0 l.length 33 ∧ rows[j]? = some (some (.mixed (cellsI l)))
theorem look_app {α : Type} {E : α → Option (Row α)} {rows : Sy.Rows α} {x : Sy.Id α} {r : Row (Sy.Id α)} (h : Sy.look E rows x = some r) (junk : Sy.Rows α) : Sy.look E (rows ++ junk) x = some r := by
  cases x with
  | own k =>
    simp only [Sy.look] at h ⊢
    have : k < rows.length := by
      rcases Nat.lt_or_ge k rows.length with h1 | h1
      · exact h1
      · rw [List.getElem?_eq_none h1] at h; cases h
    rw [List.getElem?_append_left this]; exact h
  | ext x => exact h
theorem look_set {α : Type} {E : α → Option (Row α)} {rows : Sy.Rows α} {x : Sy.Id α} {r : Row (Sy.Id α)} (h : Sy.look E rows x = some r) {j : Nat} (hx : x ≠ .own j) (y : Option (Row (Sy.Id α))) : Sy.look E (rows.set j y) x = some r := by
  cases x with
  | own k =>
    simp only [Sy.look] at h ⊢
    rw [List.getElem?_set_ne (fun e => hx (by rw [e]))]; exact h
  | ext x => exact h
theorem item_z : ∃ z, zeroCellsOf Try.prog 69 = some z ∧ z.size = 33 ∧ oneCells z = true :=
  ⟨(.int .u64 0 :: List.replicate 32 (.int .u8 0)).toArray, by kernel_rfl, rfl, by kernel_rfl⟩
theorem item_b : Try.prog.bytesOf 69 = 40 := by kernel_rfl
theorem refDrop_ok {α : Type} (E : α → Option (Row α)) (a : AV α) (its : List Item) (num : Int) (ha : ItemV E a its) (hW : WI its) (hm : its.length < 100000) :
    FnOkP Try.prog n_ref21_Drop E [a.map .ext, .int .u64 num] [] (fun res rows' => ItemO rows' res (its.filter fun e => e.1 != num)) := by
  obtain ⟨n, hn⟩ : ∃ n, its.length = n := ⟨_, rfl⟩
  obtain ⟨f, x, rows, hLe, hx⟩ : ∃ (f : Bool) (x : Sy.Id α) (rows : Sy.Rows α), Le ⟨28, 0⟩ (⟨argTm 0 [a.map .ext, .int .u64 num], []⟩ : St α) ⟨[(0, .slice f x 0 n 33), (1, .int .u64 num)], rows⟩ ∧ Sy.look E rows x = some (.mixed (cellsI its)) := by
    rcases ha with ⟨rfl, rfl⟩ | ⟨f, x, rfl, hx⟩
    · subst hn
      exact ⟨true, .own 0, [some (.mixed [])], Le.trans (Le.nilM 0 rfl 33) Le.sub, rfl⟩
    · subst hn
      exact ⟨f, .ext x, [], Le.sub, by simp only [Sy.look, hx, Option.map_some, Row.map, cellsI_map]⟩
  refine FnOkP.intro func_ref21_Drop call_ref21_Drop (body := _) rfl nt_ref21_Drop (by simp) ?_
  refine AWp.less hLe ?_
  refine AWp.reg p_ref21_Drop_0 [] s_ref21_Drop_0 rfl rfl fun K hK => st_of ?_
  simp only [s_ref21_Drop_0, wT, Bool.not_eq_true, ty, zr, Nat.reduceAdd, Nat.reduceSub, Nat.reduceMul, Nat.reduceMod, Nat.reduceDiv, Nat.reduceEqDiff, Nat.reduceLeDiff, Nat.reduceBEq, Int.reduceAdd, Int.reduceSub, Int.reduceMul, Int.reduceNeg, Int.reduceLT, Int.reduceLE, Int.reduceEq, Int.reduceNe, Int.reduceBEq, Int.reduceToNat, Int.reduceTDiv, Int.reduceTMod, Int.reduceOfNat, reduceCtorEq, sty, sui]
  try simp (disch := first | omega | (simp only [List.length_set, List.length_replicate, List.length_append, List.length_nil]; first | done | omega)) only [aT, Int.reduceToNat, List.length_set, List.length_replicate, List.length_append, List.length_nil]
  (repeat ((with_reducible refine And.intro ?_ ?_); (first | omega | exact True.intro | with_reducible rfl | decide | assumption | rfl)))
  refine hK _ ?_; clear hK K
  refine AWp.reg p_ref21_Drop_1 [] s_ref21_Drop_1 rfl rfl fun K hK => st_of ?_
  simp only [s_ref21_Drop_1, wT, Bool.not_eq_true, ty, zr, Nat.reduceAdd, Nat.reduceSub, Nat.reduceMul, Nat.reduceMod, Nat.reduceDiv, Nat.reduceEqDiff, Nat.reduceLeDiff, Nat.reduceBEq, Int.reduceAdd, Int.reduceSub, Int.reduceMul, Int.reduceNeg, Int.reduceLT, Int.reduceLE, Int.reduceEq, Int.reduceNe, Int.reduceBEq, Int.reduceToNat, Int.reduceTDiv, Int.reduceTMod, Int.reduceOfNat, reduceCtorEq, sty, sui]
  try simp (disch := first | omega | (simp only [List.length_set, List.length_replicate, List.length_append, List.length_nil]; first | done | omega)) only [aT, Int.reduceToNat, List.length_set, List.length_replicate, List.length_append, List.length_nil]
  (repeat ((with_reducible refine And.intro ?_ ?_); (first | omega | exact True.intro | with_reducible rfl | decide | assumption | rfl)))
  refine hK _ ?_; clear hK K
  refine AWp.grp fun G8 hG8 => ?_
  refine AWp.reg p_ref21_Drop_2 [] s_ref21_Drop_2 rfl rfl fun K hK => st_of ?_
  simp only [s_ref21_Drop_2, wT, Bool.not_eq_true, ty, zr, Nat.reduceAdd, Nat.reduceSub, Nat.reduceMul, Nat.reduceMod, Nat.reduceDiv, Nat.reduceEqDiff, Nat.reduceLeDiff, Nat.reduceBEq, Int.reduceAdd, Int.reduceSub, Int.reduceMul, Int.reduceNeg, Int.reduceLT, Int.reduceLE, Int.reduceEq, Int.reduceNe, Int.reduceBEq, Int.reduceToNat, Int.reduceTDiv, Int.reduceTMod, Int.reduceOfNat, reduceCtorEq, sty, sui]
  try simp (disch := first | omega | (simp only [List.length_set, List.length_replicate, List.length_append, List.length_nil]; first | done | omega)) only [aT, Int.reduceToNat, List.length_set, List.length_replicate, List.length_append, List.length_nil]
  (repeat ((with_reducible refine And.intro ?_ ?_); (first | omega | exact True.intro | with_reducible rfl | decide | assumption | rfl)))
  refine hK _ ?_; clear hK K
  refine AWp.ghoX (β := Nat × Sy.Rows α × Nat) (fun gx : Nat × Sy.Rows α × Nat => match gx with | ⟨i, rs, j⟩ => ⟨[(0, .slice f x 0 n 33), (1, .int .u64 num), (5, .slice true (.own j) 0 ((its.take i).filter fun e => e.1 != num).length 33), (6, .int .i64 i)], rs⟩) (fun gx : Nat × Sy.Rows α × Nat => match gx with | ⟨i, rs, j⟩ => n - i) (fun gx : Nat × Sy.Rows α × Nat => match gx with | ⟨i, rs, j⟩ => i ≤ n ∧ Sy.look E rs x = some (.mixed (cellsI its)) ∧ rs[j]? = some (some (.mixed (cellsI ((its.take i).filter fun e => e.1 != num)))) ∧ x ≠ .own j) (0, rows ++ [some (.mixed [])], rows.length) ?_ ?_ fun X0 hX0 y0 hF0 => ?_
  · exact Le.trans (Le.nilM 5 rfl 33) Le.sub
  · refine ⟨Nat.zero_le _, look_app hx _, ge0 _ _, fun e => ?_⟩
    subst e; simp [Sy.look] at hx
  obtain ⟨i, rs, j⟩ := y0
  dsimp only at hF0 ⊢
  obtain ⟨hi, hlx, hj, hxj⟩ := hF0
  refine AWp.grp fun G20 hG20 => ?_
  refine AWp.reg p_ref21_Drop_3 [] s_ref21_Drop_3 rfl rfl fun K hK => st_of ?_
  simp only [s_ref21_Drop_3, wT, Bool.not_eq_true, ty, zr, Nat.reduceAdd, Nat.reduceSub, Nat.reduceMul, Nat.reduceMod, Nat.reduceDiv, Nat.reduceEqDiff, Nat.reduceLeDiff, Nat.reduceBEq, Int.reduceAdd, Int.reduceSub, Int.reduceMul, Int.reduceNeg, Int.reduceLT, Int.reduceLE, Int.reduceEq, Int.reduceNe, Int.reduceBEq, Int.reduceToNat, Int.reduceTDiv, Int.reduceTMod, Int.reduceOfNat, reduceCtorEq, sty, sui]
  try simp (disch := first | omega | (simp only [List.length_set, List.length_replicate, List.length_append, List.length_nil]; first | done | omega)) only [aT, Int.reduceToNat, List.length_set, List.length_replicate, List.length_append, List.length_nil]
  (repeat ((with_reducible refine And.intro ?_ ?_); (first | omega | exact True.intro | with_reducible rfl | decide | assumption | rfl)))
  refine hK _ ?_; clear hK K
  refine AWp.testE rfl (fun hb => ?_) (fun hb => ?_)
  · try simp only [decide_eq_true_eq, decide_eq_false_iff_not, beq_iff_eq, bne_iff_ne, ne_eq, Bool.not_eq_true, beq_eq_false_iff_ne, bne_eq_false_iff_eq, Bool.not_eq_false, Bool.not_eq_eq_eq_not, Bool.not_true, Bool.not_false] at hb
    have him : i < its.length := by omega
    obtain ⟨e, he1, he2, he3, he4, he5⟩ := cellsI_at (ι := Sy.Id α) hW him
    have hcl := cellsI_len (ι := Sy.Id α) hW
    obtain ⟨z, hz, hz1, hz2⟩ := item_z
    have hfl : ([List.map ofV z.toList].flatten : List (AV (Sy.Id α))).length = 33 := by simp [hz1]
    have hsp : Sy.splice ([List.map ofV z.toList].flatten : List (AV (Sy.Id α))) 0 (itC e) = itC e := splice_all (by rw [itC_len he2]; simp [hz1])
    have hfll : ((its.take i).filter fun e => e.1 != num).length ≤ i := Nat.le_trans (List.length_filter_le _ _) (by rw [List.length_take]; omega)
    have hWf : WI ((its.take i).filter fun e => e.1 != num) := fun e' h' => hW e' (List.mem_of_mem_take (List.mem_filter.1 h').1)
    have hclf := cellsI_len (ι := Sy.Id α) hWf
    have htk : its.take (i + 1) = its.take i ++ [e] := by rw [List.take_add_one, he1]; rfl
    try simp only [thenQ, bq, lq, lf, iq, gq, Nat.reduceEqDiff, if_true, if_false]
    refine hG20 _ ?_
    try clear hG20 G20
    refine AWp.blk fun Y1 hY1 => ?_
    refine AWp.reg p_ref21_Drop_5 [] s_ref21_Drop_5 rfl rfl fun K hK => st_of ?_
    simp only [s_ref21_Drop_5, wT, Bool.not_eq_true, ty, zr, Nat.reduceAdd, Nat.reduceSub, Nat.reduceMul, Nat.reduceMod, Nat.reduceDiv, Nat.reduceEqDiff, Nat.reduceLeDiff, Nat.reduceBEq, Int.reduceAdd, Int.reduceSub, Int.reduceMul, Int.reduceNeg, Int.reduceLT, Int.reduceLE, Int.reduceEq, Int.reduceNe, Int.reduceBEq, Int.reduceToNat, Int.reduceTDiv, Int.reduceTMod, Int.reduceOfNat, reduceCtorEq, sty, sui]
    try simp (disch := first | omega | (simp only [List.length_set, List.length_replicate, List.length_append, List.length_nil]; first | done | omega)) only [aT, Int.reduceToNat, List.length_set, List.length_replicate, List.length_append, List.length_nil]
    simp only [hlx, he3, hcl, wT, Bool.not_eq_true, ty, zr, Nat.reduceAdd, Nat.reduceSub, Nat.reduceMul, Nat.reduceMod, Nat.reduceDiv, Nat.reduceEqDiff, Nat.reduceLeDiff, Nat.reduceBEq, Int.reduceAdd, Int.reduceSub, Int.reduceMul, Int.reduceNeg, Int.reduceLT, Int.reduceLE, Int.reduceEq, Int.reduceNe, Int.reduceBEq, Int.reduceToNat, Int.reduceTDiv, Int.reduceTMod, Int.reduceOfNat, reduceCtorEq, sty, sui]
    try simp (disch := first | omega | (simp only [List.length_set, List.length_replicate, List.length_append, List.length_nil]; first | done | omega)) only [aT, Int.reduceToNat, List.length_set, List.length_replicate, List.length_append, List.length_nil]
    repeat' (with_reducible refine And.intro ?_ ?_)
    all_goals (try omega)
    refine hK _ ?_; clear hK K
    refine AWp.iteE rfl (fun hb => ?_) (fun hb => ?_)
    · try simp only [decide_eq_true_eq, decide_eq_false_iff_not, beq_iff_eq, bne_iff_ne, ne_eq, Bool.not_eq_true, beq_eq_false_iff_ne, bne_eq_false_iff_eq, Bool.not_eq_false, Bool.not_eq_eq_eq_not, Bool.not_true, Bool.not_false] at hb
      have hf : (its.take (i + 1)).filter (fun e => e.1 != num) = (its.take i).filter (fun e => e.1 != num) ++ [e] := by rw [htk, List.filter_append]; simp [hb]
      refine AWp.regE p_ref21_Drop_6 [] s_ref21_Drop_6 rfl rfl (st_of ?_)
      simp only [s_ref21_Drop_6, wT, Bool.not_eq_true, ty, zr, Nat.reduceAdd, Nat.reduceSub, Nat.reduceMul, Nat.reduceMod, Nat.reduceDiv, Nat.reduceEqDiff, Nat.reduceLeDiff, Nat.reduceBEq, Int.reduceAdd, Int.reduceSub, Int.reduceMul, Int.reduceNeg, Int.reduceLT, Int.reduceLE, Int.reduceEq, Int.reduceNe, Int.reduceBEq, Int.reduceToNat, Int.reduceTDiv, Int.reduceTMod, Int.reduceOfNat, reduceCtorEq, sty, sui]
      try simp (disch := first | omega | (simp only [List.length_set, List.length_replicate, List.length_append, List.length_nil]; first | done | omega)) only [aT, Int.reduceToNat, List.length_set, List.length_replicate, List.length_append, List.length_nil]
      simp only [hlx, he3, he4, hcl, normL_item he2, wT, Bool.not_eq_true, ty, zr, Nat.reduceAdd, Nat.reduceSub, Nat.reduceMul, Nat.reduceMod, Nat.reduceDiv, Nat.reduceEqDiff, Nat.reduceLeDiff, Nat.reduceBEq, Int.reduceAdd, Int.reduceSub, Int.reduceMul, Int.reduceNeg, Int.reduceLT, Int.reduceLE, Int.reduceEq, Int.reduceNe, Int.reduceBEq, Int.reduceToNat, Int.reduceTDiv, Int.reduceTMod, Int.reduceOfNat, reduceCtorEq, sty, sui]
      try simp (disch := first | omega | (simp only [List.length_set, List.length_replicate, List.length_append, List.length_nil]; first | done | omega)) only [aT, Int.reduceToNat, List.length_set, List.length_replicate, List.length_append, List.length_nil]
      repeat' (with_reducible refine And.intro ?_ ?_)
      all_goals (try omega)
      simp only [hz, hz1, hz2, hsp, hfl, itC_len he2, gl hj, ge0, item_b, wT, Bool.not_eq_true, ty, zr, Nat.reduceAdd, Nat.reduceSub, Nat.reduceMul, Nat.reduceMod, Nat.reduceDiv, Nat.reduceEqDiff, Nat.reduceLeDiff, Nat.reduceBEq, Int.reduceAdd, Int.reduceSub, Int.reduceMul, Int.reduceNeg, Int.reduceLT, Int.reduceLE, Int.reduceEq, Int.reduceNe, Int.reduceBEq, Int.reduceToNat, Int.reduceTDiv, Int.reduceTMod, Int.reduceOfNat, reduceCtorEq, sty, sui]
      try simp (disch := first | omega | (simp only [List.length_set, List.length_replicate, List.length_append, List.length_nil]; first | done | omega)) only [aT, Int.reduceToNat, List.length_set, List.length_replicate, List.length_append, List.length_nil]
      repeat' (with_reducible refine And.intro ?_ ?_)
      all_goals (try omega)
      rw [show sub (itC e : List (AV (Sy.Id α))) 0 33 = itC e from sub_all (itC_len he2)]
      try simp only [thenQ, bq, lq, lf, iq, gq, Nat.reduceEqDiff, if_true, if_false]
      refine hY1 _ ?_
      try clear hY1 Y1
      refine AWp.regE p_ref21_Drop_4 [] s_ref21_Drop_4 rfl rfl (st_of ?_)
      simp only [s_ref21_Drop_4, wT, Bool.not_eq_true, ty, zr, Nat.reduceAdd, Nat.reduceSub, Nat.reduceMul, Nat.reduceMod, Nat.reduceDiv, Nat.reduceEqDiff, Nat.reduceLeDiff, Nat.reduceBEq, Int.reduceAdd, Int.reduceSub, Int.reduceMul, Int.reduceNeg, Int.reduceLT, Int.reduceLE, Int.reduceEq, Int.reduceNe, Int.reduceBEq, Int.reduceToNat, Int.reduceTDiv, Int.reduceTMod, Int.reduceOfNat, reduceCtorEq, sty, sui]
      try simp (disch := first | omega | (simp only [List.length_set, List.length_replicate, List.length_append, List.length_nil]; first | done | omega)) only [aT, Int.reduceToNat, List.length_set, List.length_replicate, List.length_append, List.length_nil]
      (repeat ((with_reducible refine And.intro ?_ ?_); (first | omega | exact True.intro | with_reducible rfl | decide | assumption | rfl)))
      try simp only [thenQ, bq, lq, lf, iq, gq, Nat.reduceEqDiff, if_true, if_false]
      refine ⟨(i + 1, List.set (rs ++ [some (Row.mixed (itC e))]) j none ++ [some (Row.mixed (cellsI ((its.take i).filter fun e => e.1 != num) ++ itC e))], rs.length + 1), ?_, ?_, ?_⟩
      · (try dsimp only); omega
      · dsimp only
        rw [hf]
        refine ⟨by omega, look_app (look_set (look_app hlx _) hxj _) _, ?_, fun h => ?_⟩
        · rw [cellsI_app, cellsI_one]; exact geL (by simp)
        · rw [h] at hlx
          simp only [Sy.look, List.getElem?_eq_none (show rs.length ≤ rs.length + 1 by omega)] at hlx
          cases hlx
      · try dsimp only
        rw [hf, Int.natCast_add, List.length_append]
        exact Le.sub
    · try simp only [decide_eq_true_eq, decide_eq_false_iff_not, beq_iff_eq, bne_iff_ne, ne_eq, Bool.not_eq_true, beq_eq_false_iff_ne, bne_eq_false_iff_eq, Bool.not_eq_false, Bool.not_eq_eq_eq_not, Bool.not_true, Bool.not_false] at hb
      have hf : (its.take (i + 1)).filter (fun e => e.1 != num) = (its.take i).filter (fun e => e.1 != num) := by rw [htk, List.filter_append]; simp [hb]
      refine AWp.skip ?_
      try simp only [thenQ, bq, lq, lf, iq, gq, Nat.reduceEqDiff, if_true, if_false]
      refine hY1 _ ?_
      try clear hY1 Y1
      refine AWp.regE p_ref21_Drop_4 [] s_ref21_Drop_4 rfl rfl (st_of ?_)
      simp only [s_ref21_Drop_4, wT, Bool.not_eq_true, ty, zr, Nat.reduceAdd, Nat.reduceSub, Nat.reduceMul, Nat.reduceMod, Nat.reduceDiv, Nat.reduceEqDiff, Nat.reduceLeDiff, Nat.reduceBEq, Int.reduceAdd, Int.reduceSub, Int.reduceMul, Int.reduceNeg, Int.reduceLT, Int.reduceLE, Int.reduceEq, Int.reduceNe, Int.reduceBEq, Int.reduceToNat, Int.reduceTDiv, Int.reduceTMod, Int.reduceOfNat, reduceCtorEq, sty, sui]
      try simp (disch := first | omega | (simp only [List.length_set, List.length_replicate, List.length_append, List.length_nil]; first | done | omega)) only [aT, Int.reduceToNat, List.length_set, List.length_replicate, List.length_append, List.length_nil]
      (repeat ((with_reducible refine And.intro ?_ ?_); (first | omega | exact True.intro | with_reducible rfl | decide | assumption | rfl)))
      try simp only [thenQ, bq, lq, lf, iq, gq, Nat.reduceEqDiff, if_true, if_false]
      refine ⟨(i + 1, rs, j), ?_, ?_, ?_⟩
      · (try dsimp only); omega
      · dsimp only; rw [hf]; exact ⟨by omega, hlx, hj, hxj⟩
      · try dsimp only
        rw [hf, Int.natCast_add]
        exact Le.sub
  · try simp only [decide_eq_true_eq, decide_eq_false_iff_not, beq_iff_eq, bne_iff_ne, ne_eq, Bool.not_eq_true, beq_eq_false_iff_ne, bne_eq_false_iff_eq, Bool.not_eq_false, Bool.not_eq_eq_eq_not, Bool.not_true, Bool.not_false] at hb
    try simp only [thenQ, bq, lq, lf, iq, gq, Nat.reduceEqDiff, if_true, if_false]
    refine hX0 _ ?_
    try clear hX0 X0
    have him : i = n := by omega
    have hall : its.take i = its := List.take_of_length_le (by omega)
    rw [hall] at hj
    simp only [hall]
    try simp only [thenQ, bq, lq, lf, iq, gq, Nat.reduceEqDiff, if_true, if_false]
    refine hG8 _ ?_
    try clear hG8 G8
    refine AWp.reg p_ref21_Drop_7 [] s_ref21_Drop_7 rfl rfl fun K hK => st_of ?_
    simp only [s_ref21_Drop_7, wT, Bool.not_eq_true, ty, zr, Nat.reduceAdd, Nat.reduceSub, Nat.reduceMul, Nat.reduceMod, Nat.reduceDiv, Nat.reduceEqDiff, Nat.reduceLeDiff, Nat.reduceBEq, Int.reduceAdd, Int.reduceSub, Int.reduceMul, Int.reduceNeg, Int.reduceLT, Int.reduceLE, Int.reduceEq, Int.reduceNe, Int.reduceBEq, Int.reduceToNat, Int.reduceTDiv, Int.reduceTMod, Int.reduceOfNat, reduceCtorEq, sty, sui]
    try simp (disch := first | omega | (simp only [List.length_set, List.length_replicate, List.length_append, List.length_nil]; first | done | omega)) only [aT, Int.reduceToNat, List.length_set, List.length_replicate, List.length_append, List.length_nil]
    (repeat ((with_reducible refine And.intro ?_ ?_); (first | omega | exact True.intro | with_reducible rfl | decide | assumption | rfl)))
    refine hK _ ?_; clear hK K
    refine AWp.ret ?_
    try simp only [thenQ, bq, lq, lf, iq, gq, Nat.reduceEqDiff, if_true, if_false]
    simp only [endQ, rs_ref21_Drop, resC, one, wT, Bool.not_eq_true, ty, zr, Nat.reduceAdd, Nat.reduceSub, Nat.reduceMul, Nat.reduceMod, Nat.reduceDiv, Nat.reduceEqDiff, Nat.reduceLeDiff, Nat.reduceBEq, Int.reduceAdd, Int.reduceSub, Int.reduceMul, Int.reduceNeg, Int.reduceLT, Int.reduceLE, Int.reduceEq, Int.reduceNe, Int.reduceBEq, Int.reduceToNat, Int.reduceTDiv, Int.reduceTMod, Int.reduceOfNat, reduceCtorEq, sty, sui]
    try simp (disch := first | omega | (simp only [List.length_set, List.length_replicate, List.length_append, List.length_nil]; first | done | omega)) only [aT, Int.reduceToNat, List.length_set, List.length_replicate, List.length_append, List.length_nil]
    exact .inr ⟨j, rfl, hj⟩
end Go.Proofs.Ythbpflnbgcdmiaa
