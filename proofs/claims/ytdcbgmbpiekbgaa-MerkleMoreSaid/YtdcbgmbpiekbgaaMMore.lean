/-
  PROVED: 'erewhilelaw47.MerkleMore' returns true for every input and leaves its arguments as they were. No condition.
-/
import Derived.Test.YtdcbgmbpiekbgaaMerW
import Derived.Test.YtdcbgmbpiekbgaaRows
import Derived.WalkKit
import Derived.ProofKit
namespace Go.Proofs.Ytdcbgmbpiekbgaa
open Go Go.Proofs.Ytdcbgmbpiekbgaa.Sy
set_option linter.unusedSimpArgs false
set_option linter.unusedVariables false
set_option maxRecDepth 100000
set_option maxHeartbeats 4000000


theorem leRows_pre {α : Type} {k : Nat} {post : Sy.Rows α} : ∀ {rows : Sy.Rows α}, (∀ r, some r ∈ rows → r.All (inS k)) → leRows k (rows ++ post) rows
  | [], _ => by cases post <;> simp [leRows]
  | none :: rs, h => by
    rw [List.cons_append]
    unfold leRows
    exact ⟨trivial, leRows_pre fun r hr => h r (List.mem_cons_of_mem _ hr)⟩
  | some q :: rs, h => by
    rw [List.cons_append]
    unfold leRows
    exact ⟨⟨rfl, h q (List.mem_cons_self ..)⟩, leRows_pre fun r hr => h r (List.mem_cons_of_mem _ hr)⟩
theorem gG {β : Type} (G p : List β) (k : Nat) : (G ++ p)[G.length + k]? = p[k]? := by rw [List.getElem?_append_right (by omega), Nat.add_sub_cancel_left]
theorem gG0 {β : Type} (G p : List β) : (G ++ p)[G.length]? = p[0]? := gG G p 0
theorem sG {β : Type} (G p : List β) (k : Nat) (v : β) : (G ++ p).set (G.length + k) v = G ++ p.set k v := by rw [List.set_append_right _ _ (by omega), Nat.add_sub_cancel_left]
theorem sG0 {β : Type} (G p : List β) (v : β) : (G ++ p).set G.length v = G ++ p.set 0 v := sG G p 0 v
theorem bc41 {ι : Type} (i j : ι) (C : AV ι → Prop) : buildC Try.prog 41 [(0, .ptr i 0), (1, .ptr j 0)] C = C (.agg [.ptr i 0, .ptr j 0]) := by
  have h1 : Try.prog.cellsOf 24 = 1 := by kernel_rfl
  have h2 : zeroCellsOf Try.prog 41 = some (Array.replicate 2 (.pointer none)) := by kernel_rfl
  unfold buildC
  simp only [Try.underlying41, Try.underlying24, h1, h2, buildVals, scalar, true_and]
  simp
theorem bw41 {α : Type} (i j : Sy.Id α) (rows : Sy.Rows α) (C : Eff α) : buildWideC Try.prog 41 2 [(0, .agg [.ptr i 0, .ptr j 0]), (1, .agg [.ptr j 0, .ptr i 0])] rows C = C (.slice true (.own rows.length) 0 2 2) (rows ++ [some (.mixed [.ptr i 0, .ptr j 0, .ptr j 0, .ptr i 0])]) := by
  have h1 : Try.prog.cellsOf 41 = 2 := by kernel_rfl
  have h2 : zeroCellsOf Try.prog 41 = some (Array.replicate 2 (.pointer none)) := by kernel_rfl
  have h3 : oneCells (Array.replicate 2 (Value.pointer none)) = true := by unfold oneCells; rw [Array.all_eq_true]; intro i hi; rw [Array.getElem_replicate]; rfl
  unfold buildWideC
  simp only [h1, h2, h3, buildWide, wideL]
  simp [Sy.splice, ofV]
theorem zr41 {α : Type} : (zrow Try.prog 41 : Option (Row (Sy.Id α))) = some (.mixed [.nilptr, .nilptr]) := by
  have h2 : zeroCellsOf Try.prog 41 = some (Array.replicate 2 (.pointer none)) := by kernel_rfl
  have h3 : oneCells (Array.replicate 2 (Value.pointer none)) = true := by unfold oneCells; rw [Array.all_eq_true]; intro i hi; rw [Array.getElem_replicate]; rfl
  unfold zrow
  simp only [h2, h3, if_true]
  rfl
/-- The rows of a new tree of so many leaves. -/
def newR {α : Type} (l : List Int) (n b : Nat) : Sy.Rows α := if n = 0 then [some (.mixed [.nilptr])] else growR l b 0 n ++ [some (.mixed [.ptr (.own (b + (2 * n - 2))) 0])]
def newN (n : Nat) : Nat := if n = 0 then 0 else 2 * n - 1
theorem newR_len {α : Type} (l : List Int) (n b : Nat) : (newR l n b : Sy.Rows α).length = newN n + 1 := by
  unfold newR newN
  split
  · rfl
  · rw [List.length_append, growR_len (α := α) l n b 0 (by omega)]; rfl
theorem newR_down {α : Type} (l : List Int) (n m : Nat) : (newR l n 0 : Sy.Rows (Sy.Id α)).map (Option.map (Row.map (down m))) = (newR l n m : Sy.Rows α) := by
  unfold newR
  split
  · rfl
  · rw [List.map_append, growR_down l m n 0 0 (by omega)]
    simp only [Nat.add_zero, Nat.zero_add, List.map_cons, List.map_nil, Option.map_some, Row.map, AV.mapL, AV.map, down]
theorem new_any {α : Type} (E : α → Option (Row α)) (x : α) (l : List Int) (hx : E x = some (.ints .u8 l)) (f : Bool) (n : Nat) (hn : n ≤ 65536) (ho : n * 16 ≤ l.length) :
    FnOk Try.prog n_merkle_New E [.slice f (.ext x) 0 n 16] [] (.ptr (.own (newN n)) 0) (newR l n 0) := by
  unfold newR newN
  by_cases h : n = 0
  · subst h
    exact new_zero E f (.ext x) 0
  · rw [if_neg h, if_neg h, Nat.zero_add]
    exact new_ok E x l hx f n (by omega) hn ho
theorem newR_in {α : Type} (l : List Int) (n b k : Nat) (hk : b + newN n < k) : ∀ r, some r ∈ (newR l n b : Sy.Rows α) → r.All (inS k) := by
  unfold newR newN at *
  by_cases h : n = 0
  · rw [if_pos h]
    intro r hr
    rw [List.mem_singleton] at hr
    cases hr
    exact ⟨trivial, trivial⟩
  · rw [if_neg h] at hk ⊢
    intro r hr
    rw [List.mem_append, List.mem_singleton] at hr
    rcases hr with hr | hr
    · exact growR_in l n b 0 _ (by omega) (by omega) r hr
    · cases hr; exact ⟨by show b + (2 * n - 2) < k; omega, trivial⟩
theorem new_look {α : Type} {E : α → Option (Row α)} (pre post : Sy.Rows α) (l : List Int) (n b : Nat) (hn : 1 ≤ n) (hb : pre.length = b) :
    Sy.look E (pre ++ (newR l n b ++ post)) (.own (b + newN n)) = some (.mixed [.ptr (.own (b + (2 * n - 2))) 0]) ∧ TreeE (Sy.look E (pre ++ (newR l n b ++ post))) l (.own (b + (2 * n - 2))) 0 n := by
  unfold newR newN
  rw [if_neg (by omega), if_neg (by omega)]
  refine ⟨?_, ?_⟩
  · simp only [Sy.look]
    rw [List.getElem?_append_right (by omega), hb, Nat.add_sub_cancel_left, List.append_assoc, List.getElem?_append_right (by rw [growR_len (α := α) l n b 0 hn]; omega), growR_len (α := α) l n b 0 hn, Nat.sub_self]
    rfl
  · have := tree_mid (E := E) pre ([some (.mixed [.ptr (.own (b + (2 * n - 2))) 0])] ++ post) l n b 0 hn hb
    rw [List.append_assoc] at this
    rw [List.append_assoc]
    exact this
theorem new_look0 {α : Type} {E : α → Option (Row α)} (pre post : Sy.Rows α) (l : List Int) (b : Nat) (hb : pre.length = b) : Sy.look E (pre ++ (newR l 0 b ++ post)) (.own (b + newN 0)) = some (.mixed [.nilptr]) := by
  unfold newR newN
  rw [if_pos rfl, if_pos rfl]
  simp only [Sy.look]
  rw [Nat.add_zero, ← hb, gG0]
  rfl
/-- The places that one tree has more, told in both orders. -/
theorem differ_any {α : Type} (E : α → Option (Row α)) (l m : List Int) (n k : Nat) (hl : l.length = n * 16) (hm : m.length = k * 16) (k1 : 1 ≤ k) (hn : n ≤ 40) (hk : k ≤ 40) (X : List (Option (Row (Sy.Id α)))) (hX : X.length = 3) (post : Sy.Rows α) :
    FnOk Try.prog n_merkle_Differ (Sy.look E (newR l n 0 ++ (X ++ (newR (l ++ m) (n + k) (newN n + 1 + 3) ++ post)))) [.ptr (.ext (.own (newN n))) 0, .ptr (.ext (.own (newN n + 1 + 3 + newN (n + k)))) 0] [] (.tuple [.slice true (.own 0) 0 k 1, .int .i64 0]) [some (.ints .i64 (moreL n k))] ∧
    FnOk Try.prog n_merkle_Differ (Sy.look E (newR l n 0 ++ (X ++ (newR (l ++ m) (n + k) (newN n + 1 + 3) ++ post)))) [.ptr (.ext (.own (newN n + 1 + 3 + newN (n + k)))) 0, .ptr (.ext (.own (newN n))) 0] [] (.tuple [.slice true (.own 0) 0 k 1, .int .i64 0]) [some (.ints .i64 (moreL n k))] := by
  have hb := new_look (E := E) (newR l n 0 ++ X) post (l ++ m) (n + k) (newN n + 1 + 3) (by omega) (by rw [List.length_append, newR_len, hX])
  rw [List.append_assoc] at hb
  obtain ⟨hb, tb⟩ := hb
  by_cases h0 : n = 0
  · subst h0
    have ha := new_look0 (E := E) [] (X ++ (newR (l ++ m) (0 + k) (newN 0 + 1 + 3) ++ post)) l 0 rfl
    rw [List.nil_append, Nat.zero_add] at ha
    rw [Nat.zero_add] at hb tb ha ⊢
    exact ⟨Differ_zl _ _ _ _ _ k ha hb tb (by omega), Differ_zr _ _ _ _ _ k hb ha tb (by omega)⟩
  · have ha := new_look (E := E) [] (X ++ (newR (l ++ m) (n + k) (newN n + 1 + 3) ++ post)) l n 0 (by omega) rfl
    rw [List.nil_append, Nat.zero_add] at ha
    obtain ⟨ha, ta⟩ := ha
    have hs : ∀ i, i < n → sub (l ++ m) (i * 16) 16 = sub l (i * 16) 16 := fun i hi => by
      simp only [Sy.sub]
      rw [List.drop_append_of_le_length (by omega), List.take_append_of_le_length (by rw [List.length_drop]; omega)]
    have d1 := Differ_two _ _ _ _ _ _ _ n (n + k) ha hb ta tb (by omega) (by omega) (by omega) (fun i hi => hs i (by omega))
    have d2 := Differ_two _ _ _ _ _ _ _ (n + k) n hb ha tb ta (by omega) (by omega) (by omega) (fun i hi => (hs i (by omega)).symm)
    rw [show min n (n + k) = n by omega, show max n (n + k) - n = k by omega] at d1
    rw [show min (n + k) n = n by omega, show max (n + k) n - n = k by omega] at d2
    exact ⟨d1, d2⟩
theorem law_long {α : Type} (E : α → Option (Row α)) (x y : α) (n k : Nat) (bb : 40 < n ∨ k = 0 ∨ 40 < k) :
    FnOk Try.prog n_law47_MerkleMore E [.slice false (.ext x) 0 n 16, .slice false (.ext y) 0 k 16] [] (.bool true) [] := by
  refine FnOk.pure func_law47_MerkleMore call_law47_MerkleMore (body := _) rfl nt_law47_MerkleMore (by simp) (by simp [AV.solid, AV.solidL]) ?_
  refine AWp.reg p_law47_MerkleMore_0 [] s_law47_MerkleMore_0 rfl rfl fun K hK => st_of ?_
  simp only [s_law47_MerkleMore_0, wT, Bool.not_eq_true, ty, zr, Nat.reduceAdd, Nat.reduceSub, Nat.reduceMul, Nat.reduceMod, Nat.reduceDiv, Nat.reduceEqDiff, Nat.reduceLeDiff, Nat.reduceBEq, Int.reduceAdd, Int.reduceSub, Int.reduceMul, Int.reduceNeg, Int.reduceLT, Int.reduceLE, Int.reduceEq, Int.reduceNe, Int.reduceBEq, Int.reduceToNat, Int.reduceTDiv, Int.reduceTMod, Int.reduceOfNat, reduceCtorEq, sty, sui]
  refine hK _ ?_; clear hK K
  refine AWp.grp fun G4 hG4 => ?_
  refine AWp.reg p_law47_MerkleMore_1 [] s_law47_MerkleMore_1 rfl rfl fun K hK => st_of ?_
  simp only [s_law47_MerkleMore_1, wT, Bool.not_eq_true, ty, zr, Nat.reduceAdd, Nat.reduceSub, Nat.reduceMul, Nat.reduceMod, Nat.reduceDiv, Nat.reduceEqDiff, Nat.reduceLeDiff, Nat.reduceBEq, Int.reduceAdd, Int.reduceSub, Int.reduceMul, Int.reduceNeg, Int.reduceLT, Int.reduceLE, Int.reduceEq, Int.reduceNe, Int.reduceBEq, Int.reduceToNat, Int.reduceTDiv, Int.reduceTMod, Int.reduceOfNat, reduceCtorEq, sty, sui]
  refine st_call fun K1 hK1 => ?_
  simp only [calleeC, wT, Bool.not_eq_true, ty, zr, Nat.reduceAdd, Nat.reduceSub, Nat.reduceMul, Nat.reduceMod, Nat.reduceDiv, Nat.reduceEqDiff, Nat.reduceLeDiff, Nat.reduceBEq, Int.reduceAdd, Int.reduceSub, Int.reduceMul, Int.reduceNeg, Int.reduceLT, Int.reduceLE, Int.reduceEq, Int.reduceNe, Int.reduceBEq, Int.reduceToNat, Int.reduceTDiv, Int.reduceTMod, Int.reduceOfNat, reduceCtorEq, sty, sui]
  refine hK1 _ _ ?_
  clear hK1 K1
  simp only [CallTo, AV.mapL, AV.map, mapL_flat, mapL_flat1]
  refine ⟨_, _, awake_ok _, ?_⟩
  simp only [wT, Bool.not_eq_true, ty, zr, Nat.reduceAdd, Nat.reduceSub, Nat.reduceMul, Nat.reduceMod, Nat.reduceDiv, Nat.reduceEqDiff, Nat.reduceLeDiff, Nat.reduceBEq, Int.reduceAdd, Int.reduceSub, Int.reduceMul, Int.reduceNeg, Int.reduceLT, Int.reduceLE, Int.reduceEq, Int.reduceNe, Int.reduceBEq, Int.reduceToNat, Int.reduceTDiv, Int.reduceTMod, Int.reduceOfNat, reduceCtorEq, sty, sui]
  refine hK _ ?_; clear hK K
  refine AWp.iteE rfl (fun hb => ?_) (fun hb => ?_)
  · try simp only [decide_eq_true_eq, decide_eq_false_iff_not, beq_iff_eq, bne_iff_ne, ne_eq, Bool.not_eq_true, beq_eq_false_iff_ne, bne_eq_false_iff_eq, Bool.not_eq_false, Bool.not_eq_eq_eq_not, Bool.not_true, Bool.not_false] at hb
    (first | exact absurd trivial hb | exact absurd rfl hb | cases hb | (exfalso; omega) | (simp at hb; done))
  · try simp only [decide_eq_true_eq, decide_eq_false_iff_not, beq_iff_eq, bne_iff_ne, ne_eq, Bool.not_eq_true, beq_eq_false_iff_ne, bne_eq_false_iff_eq, Bool.not_eq_false, Bool.not_eq_eq_eq_not, Bool.not_true, Bool.not_false] at hb
    refine AWp.skip ?_
    try simp only [thenQ, bq, lq, lf, iq, gq, Nat.reduceEqDiff, if_true, if_false]
    refine hG4 _ ?_
    try clear hG4 G4
    refine AWp.grp fun G25 hG25 => ?_
    refine AWp.regJ p_law47_MerkleMore_3 [] s_law47_MerkleMore_3 ⟨[(26, .bool true)], []⟩ rfl rfl (fun K hK => st_of ?_) ?_
    · simp only [s_law47_MerkleMore_3, wT, Bool.not_eq_true, ty, zr, Nat.reduceAdd, Nat.reduceSub, Nat.reduceMul, Nat.reduceMod, Nat.reduceDiv, Nat.reduceEqDiff, Nat.reduceLeDiff, Nat.reduceBEq, Int.reduceAdd, Int.reduceSub, Int.reduceMul, Int.reduceNeg, Int.reduceLT, Int.reduceLE, Int.reduceEq, Int.reduceNe, Int.reduceBEq, Int.reduceToNat, Int.reduceTDiv, Int.reduceTMod, Int.reduceOfNat, reduceCtorEq, sty, sui]
      refine ⟨fun h1 => hK _ (Le.ofA), fun h1 => ⟨fun h2 => hK _ (Le.ofA), fun h2 => ?_⟩⟩
      rw [show decide ((k : Int) > 40) = true from decide_eq_true (by have := beq_eq_false_iff_ne.1 h2; omega)]
      exact hK _ (Le.ofA)
    refine AWp.iteE rfl (fun hb => ?_) (fun hb => ?_)
    · try simp only [decide_eq_true_eq, decide_eq_false_iff_not, beq_iff_eq, bne_iff_ne, ne_eq, Bool.not_eq_true, beq_eq_false_iff_ne, bne_eq_false_iff_eq, Bool.not_eq_false, Bool.not_eq_eq_eq_not, Bool.not_true, Bool.not_false] at hb
      refine AWp.reg p_law47_MerkleMore_4 [] s_law47_MerkleMore_4 rfl rfl fun K hK => st_of ?_
      simp only [s_law47_MerkleMore_4, wT, Bool.not_eq_true, ty, zr, Nat.reduceAdd, Nat.reduceSub, Nat.reduceMul, Nat.reduceMod, Nat.reduceDiv, Nat.reduceEqDiff, Nat.reduceLeDiff, Nat.reduceBEq, Int.reduceAdd, Int.reduceSub, Int.reduceMul, Int.reduceNeg, Int.reduceLT, Int.reduceLE, Int.reduceEq, Int.reduceNe, Int.reduceBEq, Int.reduceToNat, Int.reduceTDiv, Int.reduceTMod, Int.reduceOfNat, reduceCtorEq, sty, sui]
      refine hK _ ?_; clear hK K
      refine AWp.ret ?_
      try simp only [thenQ, bq, lq, lf, iq, gq, Nat.reduceEqDiff, if_true, if_false]
      simp only [endQ, rs_law47_MerkleMore, resC, one, wT, Bool.not_eq_true, ty, zr, Nat.reduceAdd, Nat.reduceSub, Nat.reduceMul, Nat.reduceMod, Nat.reduceDiv, Nat.reduceEqDiff, Nat.reduceLeDiff, Nat.reduceBEq, Int.reduceAdd, Int.reduceSub, Int.reduceMul, Int.reduceNeg, Int.reduceLT, Int.reduceLE, Int.reduceEq, Int.reduceNe, Int.reduceBEq, Int.reduceToNat, Int.reduceTDiv, Int.reduceTMod, Int.reduceOfNat, reduceCtorEq, sty, sui]
      repeat' (first | exact True.intro | (with_reducible rfl) | (with_reducible apply And.intro) | omega | rfl)
    · try simp only [decide_eq_true_eq, decide_eq_false_iff_not, beq_iff_eq, bne_iff_ne, ne_eq, Bool.not_eq_true, beq_eq_false_iff_ne, bne_eq_false_iff_eq, Bool.not_eq_false, Bool.not_eq_eq_eq_not, Bool.not_true, Bool.not_false] at hb
      (first | exact absurd trivial hb | exact absurd rfl hb | cases hb | (exfalso; omega) | (simp at hb; done))
theorem law_ok {α : Type} (E : α → Option (Row α)) (x y : α) (l m : List Int) (n k : Nat) (hx : E x = some (.ints .u8 l)) (hy : E y = some (.ints .u8 m)) (hl : l.length = n * 16) (hm : m.length = k * 16) (k1 : 1 ≤ k) (hn : n ≤ 40) (hk : k ≤ 40) :
    FnOk Try.prog n_law47_MerkleMore E [.slice false (.ext x) 0 n 16, .slice false (.ext y) 0 k 16] [] (.bool true) [] := by
  have sl : sub l 0 (n * 16) = l := sub_all hl
  have sm : sub m 0 (k * 16) = m := sub_all hm
  have hlm : (l ++ m).length = (n + k) * 16 := by rw [List.length_append]; omega
  obtain ⟨G, hG⟩ : ∃ G : Sy.Rows α, newR l n 0 = G := ⟨_, rfl⟩
  have dG := newR_down (α := α) l n 0
  rw [hG] at dG
  have lG : G.length = newN n + 1 := by rw [← hG]; exact newR_len l n 0
  obtain ⟨RR, hRR⟩ : ∃ RR : Sy.Rows α, G ++ none :: none :: some (.ints .u8 (l ++ m)) :: newR (l ++ m) (n + k) (G.length + 3) = RR := ⟨_, rfl⟩
  have lRR : RR.length = G.length + 3 + newN (n + k) + 1 := by rw [← hRR]; simp only [List.length_append, List.length_cons, newR_len]; omega
  have hRin : ∀ t, RR.length ≤ t → ∀ r, some r ∈ RR → r.All (inS t) := fun t ht r hr => by
    rw [← hRR] at hr
    simp only [List.mem_append, List.mem_cons, reduceCtorEq, false_or, Option.some.injEq] at hr
    rcases hr with hr | rfl | hr
    · rw [← hG] at hr; exact newR_in l n 0 t (by omega) r hr
    · trivial
    · exact newR_in (l ++ m) (n + k) _ t (by omega) r hr
  have hD : ∀ post : Sy.Rows α, FnOk Try.prog n_merkle_Differ (Sy.look E (RR ++ post)) [.ptr (.ext (.own (newN n))) 0, .ptr (.ext (.own (G.length + 3 + newN (n + k)))) 0] [] (.tuple [.slice true (.own 0) 0 k 1, .int .i64 0]) [some (.ints .i64 (moreL n k))] ∧
      FnOk Try.prog n_merkle_Differ (Sy.look E (RR ++ post)) [.ptr (.ext (.own (G.length + 3 + newN (n + k)))) 0, .ptr (.ext (.own (newN n))) 0] [] (.tuple [.slice true (.own 0) 0 k 1, .int .i64 0]) [some (.ints .i64 (moreL n k))] := fun post => by
    have := differ_any E l m n k hl hm k1 hn hk [none, none, some (.ints .u8 (l ++ m))] rfl post
    rw [hG, ← lG] at this
    rw [← hRR, List.append_assoc]
    exact this
  obtain ⟨pa, hpa⟩ : ∃ pa, newN n = pa := ⟨_, rfl⟩
  obtain ⟨pb, hpb⟩ : ∃ pb, G.length + 3 + newN (n + k) = pb := ⟨_, rfl⟩
  rw [hpa, hpb] at hD
  have qa : pa < RR.length := by omega
  have qb : pb < RR.length := by omega
  have lR : leRows RR.length RR RR := leRows_self (hRin _ (Nat.le_refl _))
  have lR1' : ∀ r, some r ∈ (RR ++ [some (.mixed [.ptr (.own pa) 0, .ptr (.own pb) 0, .ptr (.own pb) 0, .ptr (.own pa) 0])] : Sy.Rows α) → r.All (inS (RR ++ [some (.mixed [.ptr (.own pa) 0, .ptr (.own pb) 0, .ptr (.own pb) 0, .ptr (.own pa) 0])] : Sy.Rows α).length) := fun r hr => by
    rw [List.length_append, List.length_singleton]
    rw [List.mem_append, List.mem_singleton] at hr
    rcases hr with hr | hr
    · exact hRin _ (by omega) r hr
    · cases hr; exact ⟨Nat.lt_succ_of_lt qa, Nat.lt_succ_of_lt qb, Nat.lt_succ_of_lt qb, Nat.lt_succ_of_lt qa, trivial⟩
  have lR1 : leRows (RR ++ [some (.mixed [.ptr (.own pa) 0, .ptr (.own pb) 0, .ptr (.own pb) 0, .ptr (.own pa) 0])] : Sy.Rows α).length (RR ++ [some (.mixed [.ptr (.own pa) 0, .ptr (.own pb) 0, .ptr (.own pb) 0, .ptr (.own pa) 0])] : Sy.Rows α) (RR ++ [some (.mixed [.ptr (.own pa) 0, .ptr (.own pb) 0, .ptr (.own pb) 0, .ptr (.own pa) 0])]) := leRows_self lR1'
  refine FnOk.pure func_law47_MerkleMore call_law47_MerkleMore (body := _) rfl nt_law47_MerkleMore (by simp) (by simp [AV.solid, AV.solidL]) ?_
  refine AWp.reg p_law47_MerkleMore_0 [] s_law47_MerkleMore_0 rfl rfl fun K hK => st_of ?_
  simp only [s_law47_MerkleMore_0, wT, Bool.not_eq_true, ty, zr, Nat.reduceAdd, Nat.reduceSub, Nat.reduceMul, Nat.reduceMod, Nat.reduceDiv, Nat.reduceEqDiff, Nat.reduceLeDiff, Nat.reduceBEq, Int.reduceAdd, Int.reduceSub, Int.reduceMul, Int.reduceNeg, Int.reduceLT, Int.reduceLE, Int.reduceEq, Int.reduceNe, Int.reduceBEq, Int.reduceToNat, Int.reduceTDiv, Int.reduceTMod, Int.reduceOfNat, reduceCtorEq, sty, sui]
  refine hK _ ?_; clear hK K
  refine AWp.grp fun G4 hG4 => ?_
  refine AWp.reg p_law47_MerkleMore_1 [] s_law47_MerkleMore_1 rfl rfl fun K hK => st_of ?_
  simp only [s_law47_MerkleMore_1, wT, Bool.not_eq_true, ty, zr, Nat.reduceAdd, Nat.reduceSub, Nat.reduceMul, Nat.reduceMod, Nat.reduceDiv, Nat.reduceEqDiff, Nat.reduceLeDiff, Nat.reduceBEq, Int.reduceAdd, Int.reduceSub, Int.reduceMul, Int.reduceNeg, Int.reduceLT, Int.reduceLE, Int.reduceEq, Int.reduceNe, Int.reduceBEq, Int.reduceToNat, Int.reduceTDiv, Int.reduceTMod, Int.reduceOfNat, reduceCtorEq, sty, sui]
  refine st_call fun K1 hK1 => ?_
  simp only [calleeC, wT, Bool.not_eq_true, ty, zr, Nat.reduceAdd, Nat.reduceSub, Nat.reduceMul, Nat.reduceMod, Nat.reduceDiv, Nat.reduceEqDiff, Nat.reduceLeDiff, Nat.reduceBEq, Int.reduceAdd, Int.reduceSub, Int.reduceMul, Int.reduceNeg, Int.reduceLT, Int.reduceLE, Int.reduceEq, Int.reduceNe, Int.reduceBEq, Int.reduceToNat, Int.reduceTDiv, Int.reduceTMod, Int.reduceOfNat, reduceCtorEq, sty, sui]
  refine hK1 _ _ ?_
  clear hK1 K1
  simp only [CallTo, AV.mapL, AV.map, mapL_flat, mapL_flat1]
  refine ⟨_, _, awake_ok _, ?_⟩
  simp only [wT, Bool.not_eq_true, ty, zr, Nat.reduceAdd, Nat.reduceSub, Nat.reduceMul, Nat.reduceMod, Nat.reduceDiv, Nat.reduceEqDiff, Nat.reduceLeDiff, Nat.reduceBEq, Int.reduceAdd, Int.reduceSub, Int.reduceMul, Int.reduceNeg, Int.reduceLT, Int.reduceLE, Int.reduceEq, Int.reduceNe, Int.reduceBEq, Int.reduceToNat, Int.reduceTDiv, Int.reduceTMod, Int.reduceOfNat, reduceCtorEq, sty, sui]
  refine hK _ ?_; clear hK K
  refine AWp.iteE rfl (fun hb => ?_) (fun hb => ?_)
  · try simp only [decide_eq_true_eq, decide_eq_false_iff_not, beq_iff_eq, bne_iff_ne, ne_eq, Bool.not_eq_true, beq_eq_false_iff_ne, bne_eq_false_iff_eq, Bool.not_eq_false, Bool.not_eq_eq_eq_not, Bool.not_true, Bool.not_false] at hb
    (first | exact absurd trivial hb | exact absurd rfl hb | cases hb | (exfalso; omega) | (simp at hb; done))
  · try simp only [decide_eq_true_eq, decide_eq_false_iff_not, beq_iff_eq, bne_iff_ne, ne_eq, Bool.not_eq_true, beq_eq_false_iff_ne, bne_eq_false_iff_eq, Bool.not_eq_false, Bool.not_eq_eq_eq_not, Bool.not_true, Bool.not_false] at hb
    refine AWp.skip ?_
    try simp only [thenQ, bq, lq, lf, iq, gq, Nat.reduceEqDiff, if_true, if_false]
    refine hG4 _ ?_
    try clear hG4 G4
    refine AWp.grp fun G25 hG25 => ?_
    refine AWp.reg p_law47_MerkleMore_3 [] s_law47_MerkleMore_3 rfl rfl fun K hK => st_of ?_
    simp only [s_law47_MerkleMore_3, wT, Bool.not_eq_true, ty, zr, Nat.reduceAdd, Nat.reduceSub, Nat.reduceMul, Nat.reduceMod, Nat.reduceDiv, Nat.reduceEqDiff, Nat.reduceLeDiff, Nat.reduceBEq, Int.reduceAdd, Int.reduceSub, Int.reduceMul, Int.reduceNeg, Int.reduceLT, Int.reduceLE, Int.reduceEq, Int.reduceNe, Int.reduceBEq, Int.reduceToNat, Int.reduceTDiv, Int.reduceTMod, Int.reduceOfNat, reduceCtorEq, sty, sui]
    refine ⟨fun h1 => by exfalso; omega, fun h1 => ⟨fun h2 => by exfalso; omega, fun h2 => ?_⟩⟩
    refine hK _ ?_; clear hK K
    refine AWp.iteE rfl (fun hb => ?_) (fun hb => ?_)
    · try simp only [decide_eq_true_eq, decide_eq_false_iff_not, beq_iff_eq, bne_iff_ne, ne_eq, Bool.not_eq_true, beq_eq_false_iff_ne, bne_eq_false_iff_eq, Bool.not_eq_false, Bool.not_eq_eq_eq_not, Bool.not_true, Bool.not_false] at hb
      (first | exact absurd trivial hb | exact absurd rfl hb | cases hb | (exfalso; omega) | (simp at hb; done))
    · try simp only [decide_eq_true_eq, decide_eq_false_iff_not, beq_iff_eq, bne_iff_ne, ne_eq, Bool.not_eq_true, beq_eq_false_iff_ne, bne_eq_false_iff_eq, Bool.not_eq_false, Bool.not_eq_eq_eq_not, Bool.not_true, Bool.not_false] at hb
      refine AWp.skip ?_
      try simp only [thenQ, bq, lq, lf, iq, gq, Nat.reduceEqDiff, if_true, if_false]
      refine hG25 _ ?_
      try clear hG25 G25
      refine AWp.regJ p_law47_MerkleMore_5 [] s_law47_MerkleMore_5 ⟨[(0, .slice false (.ext x) 0 n 16), (1, .slice false (.ext y) 0 k 16), (5, .ptr (.own pa) 0), (6, .ptr (.own pb) 0)], RR⟩ rfl rfl (fun K hK => st_of ?_) ?_
      · simp only [s_law47_MerkleMore_5, wT, Bool.not_eq_true, ty, zr, Nat.reduceAdd, Nat.reduceSub, Nat.reduceMul, Nat.reduceMod, Nat.reduceDiv, Nat.reduceEqDiff, Nat.reduceLeDiff, Nat.reduceBEq, Int.reduceAdd, Int.reduceSub, Int.reduceMul, Int.reduceNeg, Int.reduceLT, Int.reduceLE, Int.reduceEq, Int.reduceNe, Int.reduceBEq, Int.reduceToNat, Int.reduceTDiv, Int.reduceTMod, Int.reduceOfNat, reduceCtorEq, sty, sui]
        refine st_call fun K1 hK1 => ?_
        simp only [calleeC, wT, Bool.not_eq_true, ty, zr, Nat.reduceAdd, Nat.reduceSub, Nat.reduceMul, Nat.reduceMod, Nat.reduceDiv, Nat.reduceEqDiff, Nat.reduceLeDiff, Nat.reduceBEq, Int.reduceAdd, Int.reduceSub, Int.reduceMul, Int.reduceNeg, Int.reduceLT, Int.reduceLE, Int.reduceEq, Int.reduceNe, Int.reduceBEq, Int.reduceToNat, Int.reduceTDiv, Int.reduceTMod, Int.reduceOfNat, reduceCtorEq, sty, sui]
        refine hK1 _ _ ?_
        clear hK1 K1
        simp only [CallTo, AV.mapL, AV.map, mapL_flat, mapL_flat1]
        refine ⟨_, _, new_any _ (Sy.Id.ext x) l (by simp only [Sy.look, hx, Option.map_some, Row.map]) _ n (by omega) (by omega), ?_⟩
        simp only [wT, Bool.not_eq_true, ty, zr, Nat.reduceAdd, Nat.reduceSub, Nat.reduceMul, Nat.reduceMod, Nat.reduceDiv, Nat.reduceEqDiff, Nat.reduceLeDiff, Nat.reduceBEq, Int.reduceAdd, Int.reduceSub, Int.reduceMul, Int.reduceNeg, Int.reduceLT, Int.reduceLE, Int.reduceEq, Int.reduceNe, Int.reduceBEq, Int.reduceToNat, Int.reduceTDiv, Int.reduceTMod, Int.reduceOfNat, reduceCtorEq, sty, sui]
        simp only [dG, Nat.zero_add, wT, Bool.not_eq_true, ty, zr, Nat.reduceAdd, Nat.reduceSub, Nat.reduceMul, Nat.reduceMod, Nat.reduceDiv, Nat.reduceEqDiff, Nat.reduceLeDiff, Nat.reduceBEq, Int.reduceAdd, Int.reduceSub, Int.reduceMul, Int.reduceNeg, Int.reduceLT, Int.reduceLE, Int.reduceEq, Int.reduceNe, Int.reduceBEq, Int.reduceToNat, Int.reduceTDiv, Int.reduceTMod, Int.reduceOfNat, reduceCtorEq, sty, sui]
        simp only [bRow0, gG, gG0, sG, sG0, hx, hy, Option.map_some, Row.map, List.append_assoc, wT, Bool.not_eq_true, ty, zr, Nat.reduceAdd, Nat.reduceSub, Nat.reduceMul, Nat.reduceMod, Nat.reduceDiv, Nat.reduceEqDiff, Nat.reduceLeDiff, Nat.reduceBEq, Int.reduceAdd, Int.reduceSub, Int.reduceMul, Int.reduceNeg, Int.reduceLT, Int.reduceLE, Int.reduceEq, Int.reduceNe, Int.reduceBEq, Int.reduceToNat, Int.reduceTDiv, Int.reduceTMod, Int.reduceOfNat, reduceCtorEq, sty, sui]
        try simp (disch := first | omega | (simp only [List.length_set, List.length_replicate, List.length_append, List.length_nil]; first | done | omega)) only [aT, Int.reduceToNat, List.length_set, List.length_replicate, List.length_append, List.length_nil]
        simp only [show sub ([] : List Int) 0 0 = [] from rfl, List.nil_append, sl, hl, hm, sm, wT, Bool.not_eq_true, ty, zr, Nat.reduceAdd, Nat.reduceSub, Nat.reduceMul, Nat.reduceMod, Nat.reduceDiv, Nat.reduceEqDiff, Nat.reduceLeDiff, Nat.reduceBEq, Int.reduceAdd, Int.reduceSub, Int.reduceMul, Int.reduceNeg, Int.reduceLT, Int.reduceLE, Int.reduceEq, Int.reduceNe, Int.reduceBEq, Int.reduceToNat, Int.reduceTDiv, Int.reduceTMod, Int.reduceOfNat, reduceCtorEq, sty, sui]
        (repeat ((with_reducible refine And.intro ?_ ?_); (first | omega | exact True.intro | with_reducible rfl | decide | assumption | rfl)))
        refine st_call fun K1 hK1 => ?_
        simp only [calleeC, wT, Bool.not_eq_true, ty, zr, Nat.reduceAdd, Nat.reduceSub, Nat.reduceMul, Nat.reduceMod, Nat.reduceDiv, Nat.reduceEqDiff, Nat.reduceLeDiff, Nat.reduceBEq, Int.reduceAdd, Int.reduceSub, Int.reduceMul, Int.reduceNeg, Int.reduceLT, Int.reduceLE, Int.reduceEq, Int.reduceNe, Int.reduceBEq, Int.reduceToNat, Int.reduceTDiv, Int.reduceTMod, Int.reduceOfNat, reduceCtorEq, sty, sui]
        refine hK1 _ _ ?_
        clear hK1 K1
        simp only [CallTo, AV.mapL, AV.map, mapL_flat, mapL_flat1]
        refine ⟨_, _, new_any _ (Sy.Id.own (G.length + 1 + 1)) (l ++ m) (by simp only [Sy.look]; rw [Nat.add_assoc, gG]; rfl) _ (n + k) (by omega) (by omega), ?_⟩
        simp only [wT, Bool.not_eq_true, ty, zr, Nat.reduceAdd, Nat.reduceSub, Nat.reduceMul, Nat.reduceMod, Nat.reduceDiv, Nat.reduceEqDiff, Nat.reduceLeDiff, Nat.reduceBEq, Int.reduceAdd, Int.reduceSub, Int.reduceMul, Int.reduceNeg, Int.reduceLT, Int.reduceLE, Int.reduceEq, Int.reduceNe, Int.reduceBEq, Int.reduceToNat, Int.reduceTDiv, Int.reduceTMod, Int.reduceOfNat, reduceCtorEq, sty, sui]
        simp only [List.append_assoc, List.cons_append, List.nil_append]
        simp only [newR_down, hRR, hpa, hpb]
        exact hK _ (Le.of (Nat.zero_le _) (by simp only [leTm, tget, AV.All, AV.AllL, inS, Nat.reduceEqDiff, if_true, if_false]; repeat' (first | exact trivial | rfl | assumption | apply And.intro)) lR)
      refine AWp.grp fun G64 hG64 => ?_
      refine AWp.reg p_law47_MerkleMore_6 [] s_law47_MerkleMore_6 rfl rfl fun K hK => st_of ?_
      simp only [s_law47_MerkleMore_6, wT, Bool.not_eq_true, ty, zr, Nat.reduceAdd, Nat.reduceSub, Nat.reduceMul, Nat.reduceMod, Nat.reduceDiv, Nat.reduceEqDiff, Nat.reduceLeDiff, Nat.reduceBEq, Int.reduceAdd, Int.reduceSub, Int.reduceMul, Int.reduceNeg, Int.reduceLT, Int.reduceLE, Int.reduceEq, Int.reduceNe, Int.reduceBEq, Int.reduceToNat, Int.reduceTDiv, Int.reduceTMod, Int.reduceOfNat, reduceCtorEq, sty, sui]
      simp only [bc41, bw41, wT, Bool.not_eq_true, ty, zr, Nat.reduceAdd, Nat.reduceSub, Nat.reduceMul, Nat.reduceMod, Nat.reduceDiv, Nat.reduceEqDiff, Nat.reduceLeDiff, Nat.reduceBEq, Int.reduceAdd, Int.reduceSub, Int.reduceMul, Int.reduceNeg, Int.reduceLT, Int.reduceLE, Int.reduceEq, Int.reduceNe, Int.reduceBEq, Int.reduceToNat, Int.reduceTDiv, Int.reduceTMod, Int.reduceOfNat, reduceCtorEq, sty, sui]
      refine hK _ ?_; clear hK K
      refine AWp.lopX (fun j => ⟨[(0, .slice false (.ext x) 0 n 16), (1, .slice false (.ext y) 0 k 16), (41, .slice true (.own RR.length) 0 2 2), (42, .int .i64 2), (43, .int .i64 j)], RR ++ [some (.mixed [.ptr (.own pa) 0, .ptr (.own pb) 0, .ptr (.own pb) 0, .ptr (.own pa) 0])]⟩) (2) ?_ fun X0 hX0 j hn0 => ?_
      · exact Le.of (Nat.zero_le _) (by simp only [leTm, tget, AV.All, AV.AllL, inS, Nat.reduceEqDiff, if_true, if_false, List.length_append, List.length_cons, List.length_nil]; repeat' (first | exact trivial | rfl | assumption | omega | apply And.intro)) lR1
      refine AWp.reg p_law47_MerkleMore_7 [] s_law47_MerkleMore_7 rfl rfl fun K hK => st_of ?_
      simp only [s_law47_MerkleMore_7, wT, Bool.not_eq_true, ty, zr, Nat.reduceAdd, Nat.reduceSub, Nat.reduceMul, Nat.reduceMod, Nat.reduceDiv, Nat.reduceEqDiff, Nat.reduceLeDiff, Nat.reduceBEq, Int.reduceAdd, Int.reduceSub, Int.reduceMul, Int.reduceNeg, Int.reduceLT, Int.reduceLE, Int.reduceEq, Int.reduceNe, Int.reduceBEq, Int.reduceToNat, Int.reduceTDiv, Int.reduceTMod, Int.reduceOfNat, reduceCtorEq, sty, sui]
      refine hK _ ?_; clear hK K
      refine AWp.test rfl (fun hb => ?_) (fun hb => ?_)
      · try simp only [decide_eq_true_eq, decide_eq_false_iff_not, beq_iff_eq, bne_iff_ne, ne_eq, Bool.not_eq_true, beq_eq_false_iff_ne, bne_eq_false_iff_eq, Bool.not_eq_false, Bool.not_eq_eq_eq_not, Bool.not_true, Bool.not_false] at hb
        have hj : j < 2 := by omega
        obtain ⟨u, v, hsub, qu, qv, hD2⟩ : ∃ u v, Sy.sub [(.ptr (.own pa) 0 : AV (Sy.Id α)), .ptr (.own pb) 0, .ptr (.own pb) 0, .ptr (.own pa) 0] (j * 2) 2 = [.ptr (.own u) 0, .ptr (.own v) 0] ∧ u < RR.length ∧ v < RR.length ∧ ∀ post : Sy.Rows α, FnOk Try.prog n_merkle_Differ (Sy.look E (RR ++ post)) [.ptr (.ext (.own u)) 0, .ptr (.ext (.own v)) 0] [] (.tuple [.slice true (.own 0) 0 k 1, .int .i64 0]) [some (.ints .i64 (moreL n k))] := by
          rcases (show j = 0 ∨ j = 1 by omega) with rfl | rfl
          · exact ⟨pa, pb, rfl, qa, qb, fun post => (hD post).1⟩
          · exact ⟨pb, pa, rfl, qb, qa, fun post => (hD post).2⟩
        refine AWp.blk fun Y1 hY1 => ?_
        refine AWp.reg p_law47_MerkleMore_8 [] s_law47_MerkleMore_8 rfl rfl fun K hK => st_of ?_
        simp only [s_law47_MerkleMore_8, wT, Bool.not_eq_true, ty, zr, Nat.reduceAdd, Nat.reduceSub, Nat.reduceMul, Nat.reduceMod, Nat.reduceDiv, Nat.reduceEqDiff, Nat.reduceLeDiff, Nat.reduceBEq, Int.reduceAdd, Int.reduceSub, Int.reduceMul, Int.reduceNeg, Int.reduceLT, Int.reduceLE, Int.reduceEq, Int.reduceNe, Int.reduceBEq, Int.reduceToNat, Int.reduceTDiv, Int.reduceTMod, Int.reduceOfNat, reduceCtorEq, sty, sui]
        simp only [gG0, gG, hsub, Row.subN, normL, intsAV, wT, Bool.not_eq_true, ty, zr, Nat.reduceAdd, Nat.reduceSub, Nat.reduceMul, Nat.reduceMod, Nat.reduceDiv, Nat.reduceEqDiff, Nat.reduceLeDiff, Nat.reduceBEq, Int.reduceAdd, Int.reduceSub, Int.reduceMul, Int.reduceNeg, Int.reduceLT, Int.reduceLE, Int.reduceEq, Int.reduceNe, Int.reduceBEq, Int.reduceToNat, Int.reduceTDiv, Int.reduceTMod, Int.reduceOfNat, reduceCtorEq, sty, sui]
        simp only [zr41, List.append_assoc, gG, sG, wT, Bool.not_eq_true, ty, zr, Nat.reduceAdd, Nat.reduceSub, Nat.reduceMul, Nat.reduceMod, Nat.reduceDiv, Nat.reduceEqDiff, Nat.reduceLeDiff, Nat.reduceBEq, Int.reduceAdd, Int.reduceSub, Int.reduceMul, Int.reduceNeg, Int.reduceLT, Int.reduceLE, Int.reduceEq, Int.reduceNe, Int.reduceBEq, Int.reduceToNat, Int.reduceTDiv, Int.reduceTMod, Int.reduceOfNat, reduceCtorEq, sty, sui]
        simp only [show Sy.splice [(.nilptr : AV (Sy.Id α)), .nilptr] 0 [.ptr (.own u) 0, .ptr (.own v) 0] = [.ptr (.own u) 0, .ptr (.own v) 0] from rfl, wT, Bool.not_eq_true, ty, zr, Nat.reduceAdd, Nat.reduceSub, Nat.reduceMul, Nat.reduceMod, Nat.reduceDiv, Nat.reduceEqDiff, Nat.reduceLeDiff, Nat.reduceBEq, Int.reduceAdd, Int.reduceSub, Int.reduceMul, Int.reduceNeg, Int.reduceLT, Int.reduceLE, Int.reduceEq, Int.reduceNe, Int.reduceBEq, Int.reduceToNat, Int.reduceTDiv, Int.reduceTMod, Int.reduceOfNat, reduceCtorEq, sty, sui]
        (repeat ((with_reducible refine And.intro ?_ ?_); (first | omega | exact True.intro | with_reducible rfl | decide | assumption | rfl)))
        refine hK _ ?_; clear hK K
        refine AWp.reg p_law47_MerkleMore_9 [] s_law47_MerkleMore_9 rfl rfl fun K hK => st_of ?_
        simp only [s_law47_MerkleMore_9, wT, Bool.not_eq_true, ty, zr, Nat.reduceAdd, Nat.reduceSub, Nat.reduceMul, Nat.reduceMod, Nat.reduceDiv, Nat.reduceEqDiff, Nat.reduceLeDiff, Nat.reduceBEq, Int.reduceAdd, Int.reduceSub, Int.reduceMul, Int.reduceNeg, Int.reduceLT, Int.reduceLE, Int.reduceEq, Int.reduceNe, Int.reduceBEq, Int.reduceToNat, Int.reduceTDiv, Int.reduceTMod, Int.reduceOfNat, reduceCtorEq, sty, sui]
        simp only [gG, gG0, wT, Bool.not_eq_true, ty, zr, Nat.reduceAdd, Nat.reduceSub, Nat.reduceMul, Nat.reduceMod, Nat.reduceDiv, Nat.reduceEqDiff, Nat.reduceLeDiff, Nat.reduceBEq, Int.reduceAdd, Int.reduceSub, Int.reduceMul, Int.reduceNeg, Int.reduceLT, Int.reduceLE, Int.reduceEq, Int.reduceNe, Int.reduceBEq, Int.reduceToNat, Int.reduceTDiv, Int.reduceTMod, Int.reduceOfNat, reduceCtorEq, sty, sui]
        (repeat ((with_reducible refine And.intro ?_ ?_); (first | omega | exact True.intro | with_reducible rfl | decide | assumption | rfl)))
        refine st_call fun K1 hK1 => ?_
        simp only [calleeC, wT, Bool.not_eq_true, ty, zr, Nat.reduceAdd, Nat.reduceSub, Nat.reduceMul, Nat.reduceMod, Nat.reduceDiv, Nat.reduceEqDiff, Nat.reduceLeDiff, Nat.reduceBEq, Int.reduceAdd, Int.reduceSub, Int.reduceMul, Int.reduceNeg, Int.reduceLT, Int.reduceLE, Int.reduceEq, Int.reduceNe, Int.reduceBEq, Int.reduceToNat, Int.reduceTDiv, Int.reduceTMod, Int.reduceOfNat, reduceCtorEq, sty, sui]
        refine hK1 _ _ ?_
        clear hK1 K1
        simp only [CallTo, AV.mapL, AV.map, mapL_flat, mapL_flat1]
        refine ⟨_, _, hD2 _, ?_⟩
        simp only [wT, Bool.not_eq_true, ty, zr, Nat.reduceAdd, Nat.reduceSub, Nat.reduceMul, Nat.reduceMod, Nat.reduceDiv, Nat.reduceEqDiff, Nat.reduceLeDiff, Nat.reduceBEq, Int.reduceAdd, Int.reduceSub, Int.reduceMul, Int.reduceNeg, Int.reduceLT, Int.reduceLE, Int.reduceEq, Int.reduceNe, Int.reduceBEq, Int.reduceToNat, Int.reduceTDiv, Int.reduceTMod, Int.reduceOfNat, reduceCtorEq, sty, sui]
        simp only [List.append_assoc, List.cons_append, List.nil_append]
        refine hK _ ?_; clear hK K
        refine AWp.grp fun G104 hG104 => ?_
        refine AWp.reg p_law47_MerkleMore_10 [] s_law47_MerkleMore_10 rfl rfl fun K hK => st_of ?_
        simp only [s_law47_MerkleMore_10, wT, Bool.not_eq_true, ty, zr, Nat.reduceAdd, Nat.reduceSub, Nat.reduceMul, Nat.reduceMod, Nat.reduceDiv, Nat.reduceEqDiff, Nat.reduceLeDiff, Nat.reduceBEq, Int.reduceAdd, Int.reduceSub, Int.reduceMul, Int.reduceNeg, Int.reduceLT, Int.reduceLE, Int.reduceEq, Int.reduceNe, Int.reduceBEq, Int.reduceToNat, Int.reduceTDiv, Int.reduceTMod, Int.reduceOfNat, reduceCtorEq, sty, sui]
        refine hK _ ?_; clear hK K
        refine AWp.iteE rfl (fun hb => ?_) (fun hb => ?_)
        · try simp only [decide_eq_true_eq, decide_eq_false_iff_not, beq_iff_eq, bne_iff_ne, ne_eq, Bool.not_eq_true, beq_eq_false_iff_ne, bne_eq_false_iff_eq, Bool.not_eq_false, Bool.not_eq_eq_eq_not, Bool.not_true, Bool.not_false] at hb
          (first | exact absurd trivial hb | exact absurd rfl hb | cases hb | (exfalso; omega) | (simp at hb; done))
        · try simp only [decide_eq_true_eq, decide_eq_false_iff_not, beq_iff_eq, bne_iff_ne, ne_eq, Bool.not_eq_true, beq_eq_false_iff_ne, bne_eq_false_iff_eq, Bool.not_eq_false, Bool.not_eq_eq_eq_not, Bool.not_true, Bool.not_false] at hb
          have lR3 : leRows (RR ++ [some (.mixed [.ptr (.own pa) 0, .ptr (.own pb) 0, .ptr (.own pb) 0, .ptr (.own pa) 0]), some (.mixed [.ptr (.own u) 0, .ptr (.own v) 0]), some (.ints .i64 (moreL n k))] : Sy.Rows α).length (RR ++ [some (.mixed [.ptr (.own pa) 0, .ptr (.own pb) 0, .ptr (.own pb) 0, .ptr (.own pa) 0]), some (.mixed [.ptr (.own u) 0, .ptr (.own v) 0]), some (.ints .i64 (moreL n k))] : Sy.Rows α) (RR ++ [some (.mixed [.ptr (.own pa) 0, .ptr (.own pb) 0, .ptr (.own pb) 0, .ptr (.own pa) 0]), some (.mixed [.ptr (.own u) 0, .ptr (.own v) 0]), some (.ints .i64 (moreL n k))]) := leRows_self (by
            rw [List.length_append, List.length_cons, List.length_cons, List.length_singleton]
            intro r hr
            simp only [List.mem_append, List.mem_cons, List.not_mem_nil, or_false, Option.some.injEq] at hr
            rcases hr with hr | rfl | rfl | rfl
            · exact hRin _ (by omega) r hr
            · exact ⟨by show pa < _; omega, by show pb < _; omega, by show pb < _; omega, by show pa < _; omega, trivial⟩
            · exact ⟨by show u < _; omega, by show v < _; omega, trivial⟩
            · trivial)
          have lR4 : leRows (RR ++ [some (.mixed [.ptr (.own pa) 0, .ptr (.own pb) 0, .ptr (.own pb) 0, .ptr (.own pa) 0])] : Sy.Rows α).length (RR ++ [some (.mixed [.ptr (.own pa) 0, .ptr (.own pb) 0, .ptr (.own pb) 0, .ptr (.own pa) 0]), some (.mixed [.ptr (.own u) 0, .ptr (.own v) 0]), some (.ints .i64 (moreL n k))] : Sy.Rows α) (RR ++ [some (.mixed [.ptr (.own pa) 0, .ptr (.own pb) 0, .ptr (.own pb) 0, .ptr (.own pa) 0])]) := by
            have e : (RR ++ [some (.mixed [.ptr (.own pa) 0, .ptr (.own pb) 0, .ptr (.own pb) 0, .ptr (.own pa) 0]), some (.mixed [.ptr (.own u) 0, .ptr (.own v) 0]), some (.ints .i64 (moreL n k))] : Sy.Rows α) = (RR ++ [some (.mixed [.ptr (.own pa) 0, .ptr (.own pb) 0, .ptr (.own pb) 0, .ptr (.own pa) 0])]) ++ [some (.mixed [.ptr (.own u) 0, .ptr (.own v) 0]), some (.ints .i64 (moreL n k))] := by simp
            rw [e]
            exact leRows_pre lR1'
          refine AWp.skip ?_
          try simp only [thenQ, bq, lq, lf, iq, gq, Nat.reduceEqDiff, if_true, if_false]
          refine hG104 _ ?_
          try clear hG104 G104
          refine AWp.reg p_law47_MerkleMore_12 [] s_law47_MerkleMore_12 rfl rfl fun K hK => st_of ?_
          simp only [s_law47_MerkleMore_12, wT, Bool.not_eq_true, ty, zr, Nat.reduceAdd, Nat.reduceSub, Nat.reduceMul, Nat.reduceMod, Nat.reduceDiv, Nat.reduceEqDiff, Nat.reduceLeDiff, Nat.reduceBEq, Int.reduceAdd, Int.reduceSub, Int.reduceMul, Int.reduceNeg, Int.reduceLT, Int.reduceLE, Int.reduceEq, Int.reduceNe, Int.reduceBEq, Int.reduceToNat, Int.reduceTDiv, Int.reduceTMod, Int.reduceOfNat, reduceCtorEq, sty, sui]
          refine hK _ ?_; clear hK K
          refine AWp.lopX (fun c => ⟨[(0, .slice false (.ext x) 0 n 16), (1, .slice false (.ext y) 0 k 16), (41, .slice true (.own RR.length) 0 2 2), (42, .int .i64 2), (43, .int .i64 j), (9, .slice true (.own (RR.length + 2)) 0 k 1), (65, .int .i64 k), (66, .int .i64 c)], RR ++ [some (.mixed [.ptr (.own pa) 0, .ptr (.own pb) 0, .ptr (.own pb) 0, .ptr (.own pa) 0]), some (.mixed [.ptr (.own u) 0, .ptr (.own v) 0]), some (.ints .i64 (moreL n k))]⟩) (k) ?_ fun X2 hX2 c hn2 => ?_
          · exact Le.of (Nat.zero_le _) (by simp only [leTm, tget, AV.All, AV.AllL, inS, Nat.reduceEqDiff, if_true, if_false, List.length_append, List.length_cons, List.length_nil]; repeat' (first | exact trivial | rfl | assumption | omega | apply And.intro)) lR3
          refine AWp.reg p_law47_MerkleMore_13 [] s_law47_MerkleMore_13 rfl rfl fun K hK => st_of ?_
          simp only [s_law47_MerkleMore_13, wT, Bool.not_eq_true, ty, zr, Nat.reduceAdd, Nat.reduceSub, Nat.reduceMul, Nat.reduceMod, Nat.reduceDiv, Nat.reduceEqDiff, Nat.reduceLeDiff, Nat.reduceBEq, Int.reduceAdd, Int.reduceSub, Int.reduceMul, Int.reduceNeg, Int.reduceLT, Int.reduceLE, Int.reduceEq, Int.reduceNe, Int.reduceBEq, Int.reduceToNat, Int.reduceTDiv, Int.reduceTMod, Int.reduceOfNat, reduceCtorEq, sty, sui]
          refine hK _ ?_; clear hK K
          refine AWp.test rfl (fun hb => ?_) (fun hb => ?_)
          · try simp only [decide_eq_true_eq, decide_eq_false_iff_not, beq_iff_eq, bne_iff_ne, ne_eq, Bool.not_eq_true, beq_eq_false_iff_ne, bne_eq_false_iff_eq, Bool.not_eq_false, Bool.not_eq_eq_eq_not, Bool.not_true, Bool.not_false] at hb
            have hck : c < k := by omega
            have hg := moreL_get n k c hck
            have hnc : (n : Int) + (c : Int) = ((n + c : Nat) : Int) := by omega
            refine AWp.blk fun Y3 hY3 => ?_
            refine AWp.reg p_law47_MerkleMore_14 [] s_law47_MerkleMore_14 rfl rfl fun K hK => st_of ?_
            simp only [s_law47_MerkleMore_14, wT, Bool.not_eq_true, ty, zr, Nat.reduceAdd, Nat.reduceSub, Nat.reduceMul, Nat.reduceMod, Nat.reduceDiv, Nat.reduceEqDiff, Nat.reduceLeDiff, Nat.reduceBEq, Int.reduceAdd, Int.reduceSub, Int.reduceMul, Int.reduceNeg, Int.reduceLT, Int.reduceLE, Int.reduceEq, Int.reduceNe, Int.reduceBEq, Int.reduceToNat, Int.reduceTDiv, Int.reduceTMod, Int.reduceOfNat, reduceCtorEq, sty, sui]
            refine hK _ ?_; clear hK K
            refine AWp.reg p_law47_MerkleMore_15 [] s_law47_MerkleMore_15 rfl rfl fun K hK => st_of ?_
            simp only [s_law47_MerkleMore_15, wT, Bool.not_eq_true, ty, zr, Nat.reduceAdd, Nat.reduceSub, Nat.reduceMul, Nat.reduceMod, Nat.reduceDiv, Nat.reduceEqDiff, Nat.reduceLeDiff, Nat.reduceBEq, Int.reduceAdd, Int.reduceSub, Int.reduceMul, Int.reduceNeg, Int.reduceLT, Int.reduceLE, Int.reduceEq, Int.reduceNe, Int.reduceBEq, Int.reduceToNat, Int.reduceTDiv, Int.reduceTMod, Int.reduceOfNat, reduceCtorEq, sty, sui]
            try simp (disch := first | omega | (simp only [List.length_set, List.length_replicate, List.length_append, List.length_nil]; first | done | omega)) only [aT, Int.reduceToNat, List.length_set, List.length_replicate, List.length_append, List.length_nil]
            simp only [gG, hg, moreL_len, wT, Bool.not_eq_true, ty, zr, Nat.reduceAdd, Nat.reduceSub, Nat.reduceMul, Nat.reduceMod, Nat.reduceDiv, Nat.reduceEqDiff, Nat.reduceLeDiff, Nat.reduceBEq, Int.reduceAdd, Int.reduceSub, Int.reduceMul, Int.reduceNeg, Int.reduceLT, Int.reduceLE, Int.reduceEq, Int.reduceNe, Int.reduceBEq, Int.reduceToNat, Int.reduceTDiv, Int.reduceTMod, Int.reduceOfNat, reduceCtorEq, sty, sui]
            simp only [hnc]
            (repeat ((with_reducible refine And.intro ?_ ?_); (first | omega | exact True.intro | with_reducible rfl | decide | assumption | rfl)))
            refine hK _ ?_; clear hK K
            refine AWp.iteE rfl (fun hb => ?_) (fun hb => ?_)
            · try simp only [decide_eq_true_eq, decide_eq_false_iff_not, beq_iff_eq, bne_iff_ne, ne_eq, Bool.not_eq_true, beq_eq_false_iff_ne, bne_eq_false_iff_eq, Bool.not_eq_false, Bool.not_eq_eq_eq_not, Bool.not_true, Bool.not_false] at hb
              (first | exact absurd trivial hb | exact absurd rfl hb | cases hb | (exfalso; omega) | (simp at hb; done))
            · try simp only [decide_eq_true_eq, decide_eq_false_iff_not, beq_iff_eq, bne_iff_ne, ne_eq, Bool.not_eq_true, beq_eq_false_iff_ne, bne_eq_false_iff_eq, Bool.not_eq_false, Bool.not_eq_eq_eq_not, Bool.not_true, Bool.not_false] at hb
              refine AWp.skip ?_
              try simp only [thenQ, bq, lq, lf, iq, gq, Nat.reduceEqDiff, if_true, if_false]
              refine hY3 _ ?_
              try clear hY3 Y3
              refine AWp.regE p_law47_MerkleMore_17 [] s_law47_MerkleMore_17 rfl rfl (st_of ?_)
              simp only [s_law47_MerkleMore_17, wT, Bool.not_eq_true, ty, zr, Nat.reduceAdd, Nat.reduceSub, Nat.reduceMul, Nat.reduceMod, Nat.reduceDiv, Nat.reduceEqDiff, Nat.reduceLeDiff, Nat.reduceBEq, Int.reduceAdd, Int.reduceSub, Int.reduceMul, Int.reduceNeg, Int.reduceLT, Int.reduceLE, Int.reduceEq, Int.reduceNe, Int.reduceBEq, Int.reduceToNat, Int.reduceTDiv, Int.reduceTMod, Int.reduceOfNat, reduceCtorEq, sty, sui]
              try simp (disch := first | omega | (simp only [List.length_set, List.length_replicate, List.length_append, List.length_nil]; first | done | omega)) only [aT, Int.reduceToNat, List.length_set, List.length_replicate, List.length_append, List.length_nil]
              try simp only [thenQ, bq, lq, lf, iq, gq, Nat.reduceEqDiff, if_true, if_false]
              first | exact ⟨by omega, Le.of (Nat.zero_le _) (by simp only [leTm, tget, AV.All, AV.AllL, inS, Nat.reduceEqDiff, if_true, if_false, List.length_append, List.length_cons, List.length_nil]; repeat' (first | exact trivial | rfl | assumption | omega | apply And.intro)) lR3⟩ | exact Le.of (Nat.zero_le _) (by simp only [leTm, tget, AV.All, AV.AllL, inS, Nat.reduceEqDiff, if_true, if_false, List.length_append, List.length_cons, List.length_nil]; repeat' (first | exact trivial | rfl | assumption | omega | apply And.intro)) lR3
          · try simp only [decide_eq_true_eq, decide_eq_false_iff_not, beq_iff_eq, bne_iff_ne, ne_eq, Bool.not_eq_true, beq_eq_false_iff_ne, bne_eq_false_iff_eq, Bool.not_eq_false, Bool.not_eq_eq_eq_not, Bool.not_true, Bool.not_false] at hb
            try simp only [thenQ, bq, lq, lf, iq, gq, Nat.reduceEqDiff, if_true, if_false]
            refine hX2 _ ?_
            try clear hX2 X2
            obtain rfl : c = k := by omega
            try simp only [thenQ, bq, lq, lf, iq, gq, Nat.reduceEqDiff, if_true, if_false]
            refine hY1 _ ?_
            try clear hY1 Y1
            refine AWp.regE p_law47_MerkleMore_18 [] s_law47_MerkleMore_18 rfl rfl (st_of ?_)
            simp only [s_law47_MerkleMore_18, wT, Bool.not_eq_true, ty, zr, Nat.reduceAdd, Nat.reduceSub, Nat.reduceMul, Nat.reduceMod, Nat.reduceDiv, Nat.reduceEqDiff, Nat.reduceLeDiff, Nat.reduceBEq, Int.reduceAdd, Int.reduceSub, Int.reduceMul, Int.reduceNeg, Int.reduceLT, Int.reduceLE, Int.reduceEq, Int.reduceNe, Int.reduceBEq, Int.reduceToNat, Int.reduceTDiv, Int.reduceTMod, Int.reduceOfNat, reduceCtorEq, sty, sui]
            try simp (disch := first | omega | (simp only [List.length_set, List.length_replicate, List.length_append, List.length_nil]; first | done | omega)) only [aT, Int.reduceToNat, List.length_set, List.length_replicate, List.length_append, List.length_nil]
            try simp only [thenQ, bq, lq, lf, iq, gq, Nat.reduceEqDiff, if_true, if_false]
            first | exact ⟨by omega, Le.of (Nat.zero_le _) (by simp only [leTm, tget, AV.All, AV.AllL, inS, Nat.reduceEqDiff, if_true, if_false, List.length_append, List.length_cons, List.length_nil]; repeat' (first | exact trivial | rfl | assumption | omega | apply And.intro)) lR4⟩ | exact Le.of (Nat.zero_le _) (by simp only [leTm, tget, AV.All, AV.AllL, inS, Nat.reduceEqDiff, if_true, if_false, List.length_append, List.length_cons, List.length_nil]; repeat' (first | exact trivial | rfl | assumption | omega | apply And.intro)) lR4
      · try simp only [decide_eq_true_eq, decide_eq_false_iff_not, beq_iff_eq, bne_iff_ne, ne_eq, Bool.not_eq_true, beq_eq_false_iff_ne, bne_eq_false_iff_eq, Bool.not_eq_false, Bool.not_eq_eq_eq_not, Bool.not_true, Bool.not_false] at hb
        try simp only [thenQ, bq, lq, lf, iq, gq, Nat.reduceEqDiff, if_true, if_false]
        refine hX0 _ ?_
        try clear hX0 X0
        obtain rfl : j = 2 := by omega
        try simp only [thenQ, bq, lq, lf, iq, gq, Nat.reduceEqDiff, if_true, if_false]
        refine hG64 _ ?_
        try clear hG64 G64
        refine AWp.reg p_law47_MerkleMore_19 [] s_law47_MerkleMore_19 rfl rfl fun K hK => st_of ?_
        simp only [s_law47_MerkleMore_19, wT, Bool.not_eq_true, ty, zr, Nat.reduceAdd, Nat.reduceSub, Nat.reduceMul, Nat.reduceMod, Nat.reduceDiv, Nat.reduceEqDiff, Nat.reduceLeDiff, Nat.reduceBEq, Int.reduceAdd, Int.reduceSub, Int.reduceMul, Int.reduceNeg, Int.reduceLT, Int.reduceLE, Int.reduceEq, Int.reduceNe, Int.reduceBEq, Int.reduceToNat, Int.reduceTDiv, Int.reduceTMod, Int.reduceOfNat, reduceCtorEq, sty, sui]
        refine hK _ ?_; clear hK K
        refine AWp.ret ?_
        try simp only [thenQ, bq, lq, lf, iq, gq, Nat.reduceEqDiff, if_true, if_false]
        simp only [endQ, rs_law47_MerkleMore, resC, one, wT, Bool.not_eq_true, ty, zr, Nat.reduceAdd, Nat.reduceSub, Nat.reduceMul, Nat.reduceMod, Nat.reduceDiv, Nat.reduceEqDiff, Nat.reduceLeDiff, Nat.reduceBEq, Int.reduceAdd, Int.reduceSub, Int.reduceMul, Int.reduceNeg, Int.reduceLT, Int.reduceLE, Int.reduceEq, Int.reduceNe, Int.reduceBEq, Int.reduceToNat, Int.reduceTDiv, Int.reduceTMod, Int.reduceOfNat, reduceCtorEq, sty, sui]
        repeat' (first | exact True.intro | (with_reducible rfl) | (with_reducible apply And.intro) | omega | rfl)
theorem law_ins (ins : List In) (h : insFit Try.prog [22, 22] ins) : FnOk Try.prog 6 (insE ins) (insAv 0 ins) [] (.bool true) [] := by
  match ins, h with
  | [i0, i1], h =>
    obtain ⟨ln, l, rfl, bl, hl, wl⟩ := fits_slca Try.underlying22 Try.underlying27 Try.underlying5 h.1
    replace bl : ln ≤ 140737488351232 := (by have e : Try.prog.bytesOf 27 = 16 := (by kernel_rfl); have := reach_lt; rw [e] at bl; omega)
    obtain ⟨mn, m, rfl, bm, hm, wm⟩ := fits_slca Try.underlying22 Try.underlying27 Try.underlying5 h.2.1
    replace bm : mn ≤ 140737488351232 := (by have e : Try.prog.bytesOf 27 = 16 := (by kernel_rfl); have := reach_lt; rw [e] at bm; omega)
    by_cases h1 : 40 < ln ∨ mn = 0 ∨ 40 < mn
    · exact law_long _ 0 1 ln mn h1
    · exact law_ok _ 0 1 l m ln mn rfl rfl hl hm (by omega) (by omega) (by omega)
open Go.ChangeShapes Go.WideShapes Go.ChangeAt Go.RowKit
theorem own : ownKnob Try.prog.godebug = none := by kernel_rfl
theorem laidOut : laidOutB Try.prog = true := by kernel_rfl
set_option maxRecDepth 100000 in
theorem lifted (os : Os) (started : os.Started) (H : Type) (enc : TypeId × Value → H) :
    ReturnsInHanded {} Try.checked os 6 .any (Rows.merkleMoreSpec.pre6 enc Try.prog Try.f6 Rows.merkleMoreRow.domain false) (Rows.merkleMoreSpec.post enc Try.prog Try.f6 false true false false) := by
  refine returnsInHanded_of_change_sized (C := Try.checked) own started (by kernel_rfl) Try.func6
    (ChangeSpec.witness6 (enc := enc) (C := Try.checked) false ⟨#[], #[.slice none 0 0, .slice none 0 0], []⟩ 8 (by kernel_rfl) (by kernel_rfl) (by kernel_rfl) (by kernel_rfl)) ?_
  intro W base args ds gs before hval0 hW hcnd hsz _
  have hW' := hW
  obtain ⟨p, q, hA, hV, rfl, hfz, hnd⟩ := hW
  obtain ⟨rfl, rfl⟩ := trodVars_none hV
  have hA2 := hA
  rw [Try.params6] at hA2
  obtain ⟨ins, hfit, hins⟩ := open_all (P := Try.prog) (W := W) (ts := Try.f6.params.toList) (r := .any) (b0 := base) (by kernel_rfl)
    (fun j t v h1 h2 => hval0 j t v (by simpa using h1) (by simpa using h2))
    (fun j t d h1 h2 => sized_any hsz h1 h2) hA
  rw [Try.params6] at hfit
  obtain ⟨v0, vs0, d0, ds0, p0, q0, ha0, rfl, hp0, k0, r0⟩ := trodAll_cons hA2
  obtain ⟨v1, vs1, d1, ds1, p1, q1, ha1, rfl, hp1, k1, r1⟩ := trodAll_cons r0
  obtain ⟨_, rfl, _⟩ := trodAll_nil r1
  refine (law_calls (law_ins ins hfit) trivial hins).mono fun e W' ⟨v, he, hv, bel⟩ => ?_
  cases hv
  subst he
  exact ⟨_, rfl, _, _, _, [], _, [], hW', trodAll_mk1 (shut_bool Try.underlying4 _), shut_all laidOut bel (by kernel_rfl) hA, rfl, bel.frame _, fun h => by cases h⟩

theorem over : Rows.merkleMoreRow.holds Try.pinned (OpenSpec.ofChange Rows.merkleMoreSpec) :=
  OpenClaim.holds_of_wide 6 Try.f6 rfl rfl rfl rfl rfl rfl rfl ⟨rfl, rfl, rfl, rfl, rfl⟩ rfl rfl rfl rfl rfl (by kernel_rfl) Try.func6 (by kernel_rfl)
    (of_decide_eq_true (by kernel_rfl)) (by unfold Func.isWrapper; first | (rw [if_pos (by decide +kernel)]; kernel_rfl) | (rw [if_neg (by decide +kernel)]; exact ⟨rfl, rfl⟩))
    (fun os started H enc _ => lifted os started H enc)

/-- The statement. -/
theorem proved : Rows.MerkleMoreSaid := over
end Go.Proofs.Ytdcbgmbpiekbgaa
