/- Plain: nodes of a tree of keys, as cells; the way down to a leaf. -/
import Derived.Test.YtopiceaeombefaaCha2
namespace Go.Proofs.Ytopiceaeombefaa
open Go Go.Proofs.Ytopiceaeombefaa.Sy
set_option linter.unusedSimpArgs false
set_option linter.unusedVariables false

theorem gl {β : Type} {G p : List β} {i : Nat} {x : β} (h : G[i]? = some x) : (G ++ p)[i]? = some x := by rw [List.getElem?_append_left (List.getElem?_eq_some_iff.1 h).1]; exact h
theorem ge0 {β : Type} (G p : List β) : (G ++ p)[G.length]? = p[0]? := by rw [List.getElem?_append_right (Nat.le_refl _), Nat.sub_self]
theorem geN {β : Type} (G p : List β) (j : Nat) : (G ++ p)[G.length + j]? = p[j]? := by rw [List.getElem?_append_right (by omega), Nat.add_sub_cancel_left]
theorem gs {β : Type} {G p : List β} {i : Nat} {x y : β} (h : G[i]? = some y) : (G ++ p).set i x = G.set i x ++ p := by rw [List.set_append_left _ _ (List.getElem?_eq_some_iff.1 h).1]
theorem gn {β : Type} {G : List β} {i j : Nat} {x y : β} (hij : i ≠ j) (h : G[j]? = some y) : (G.set i x)[j]? = some y := by rw [List.getElem?_set_ne hij]; exact h
theorem gself {β : Type} {G : List β} {i : Nat} {x y : β} (h : G[i]? = some y) : (G.set i x)[i]? = some x := List.getElem?_set_self (List.getElem?_eq_some_iff.1 h).1
theorem gsN {β : Type} (G p : List β) (j : Nat) (x : β) : (G ++ p).set (G.length + j) x = G ++ p.set j x := by rw [List.set_append_right _ _ (by omega), Nat.add_sub_cancel_left]
theorem gset0 {β : Type} (G p : List β) (y : β) : (G ++ p).set G.length y = G ++ p.set 0 y := by rw [List.set_append_right _ _ (Nat.le_refl _), Nat.sub_self]
theorem geL {β : Type} {G : List β} {x : β} {m : Nat} (h : G.length = m) : (G ++ [x])[m]? = some x := by subst h; exact ge0 _ _
section
variable {α : Type} {n : Sz}
def subTm (tm : Tm (Sy.Id α)) : Tm (Sy.Id α) → Prop
  | [] => True
  | (t, v) :: r => tget tm t = v ∧ subTm tm r
theorem subTm.get {tm : Tm (Sy.Id α)} : ∀ {tm' : Tm (Sy.Id α)}, subTm tm tm' → ∀ s, tget tm' s = tget tm s ∨ tget tm' s = .undef
  | [], _, s => .inr rfl
  | (t, v) :: r, h, s => by
    simp only [tget]
    by_cases hs : t = s
    · subst hs; rw [if_pos rfl]; exact .inl h.1.symm
    · rw [if_neg hs]; exact subTm.get h.2 s
/-- Some of the variables, whatever the rows are. -/
theorem Le.sub {tm tm' : Tm (Sy.Id α)} {rows : Sy.Rows α} (h : subTm tm tm' := by simp only [subTm, tget, Nat.reduceEqDiff, if_true, if_false, and_self]; try (repeat' (first | exact True.intro | rfl | refine And.intro ?_ ?_))) : Le n (⟨tm, rows⟩ : St α) ⟨tm', rows⟩ := by
  rintro c a w ⟨ro, hr⟩
  refine ⟨ro, hr.defers, hr.size, fun s => ?_, hr.sim, hr.rm, hr.pin⟩
  have := hr.tmps s
  rcases h.get s with h1 | h1
  · simp only [h1]; exact this
  · simp only [h1]; exact .undef _
end
theorem AWp.drwI {α : Type} {P : Program} {E : α → Option (Row α)} {n : Sz} {st : St α} {Q : Exit → St α → Prop} {id : Nat} {ops : Array Oper} {y : Code} (hmix : P.follows .mixedOrders = true) (pc : PC) (qs : List Nat) (dg : List Dg) (sp : SP) (I : St α → Prop) (hm : mkSP ops qs n.n pc = some sp) (hp : pcB ops qs dg pc = true)
    (h : ∀ K : St α → Prop, (∀ st' st, Le n st' st → I st → K st') → sp.wp P E st K) (hy : ∀ st, I st → AWp P E n y st Q) : AWp P E n (.seq (.region id ops true) y) st Q :=
  AWp.drwP hmix pc qs dg sp hm hp fun K hK => h K fun st' st hl hI => hK st' (AWp.less hl (hy st hI))
theorem AWp.regI {α : Type} {P : Program} {E : α → Option (Row α)} {n : Sz} {st : St α} {Q : Exit → St α → Prop} {id : Nat} {ops : Array Oper} {y : Code} (plan qs : List Nat) (steps : List AStep) (I : St α → Prop) (hm : mkSteps ops qs n.n plan = some steps) (hp : plan = List.range ops.size)
    (h : ∀ K : St α → Prop, (∀ st' st, Le n st' st → I st → K st') → stepsC P E steps st K) (hy : ∀ st, I st → AWp P E n y st Q) : AWp P E n (.seq (.region id ops false) y) st Q :=
  AWp.reg plan qs steps hm hp fun K hK => h K fun st' st hl hI => hK st' (AWp.less hl (hy st hI))
theorem AWp.grpI {α : Type} {P : Program} {E : α → Option (Row α)} {n : Sz} {st : St α} {Q : Exit → St α → Prop} {x y : Code} (I : St α → Prop) (h : ∀ X : St α → Prop, (∀ st' st, Le n st' st → I st → X st') → AWp P E n x st (thenQ X Q)) (hy : ∀ st, I st → AWp P E n y st Q) : AWp P E n (.seq x y) st Q :=
  AWp.grp fun X hX => h X fun st' st hl hI => hX st' (AWp.less hl (hy st hI))
theorem AWp.blkI {α : Type} {P : Program} {E : α → Option (Row α)} {n : Sz} {st : St α} {Q : Exit → St α → Prop} {B : Nat} {body y : Code} (I : St α → Prop) (h : ∀ X : St α → Prop, (∀ st' st, Le n st' st → I st → X st') → AWp P E n body st (bq B X Q)) (hy : ∀ st, I st → AWp P E n y st Q) : AWp P E n (.seq (.block B body) y) st Q :=
  AWp.blk fun X hX => h X fun st' st hl hI => hX st' (AWp.less hl (hy st hI))
/-- A node that is held. -/
structure HN where
  d : Nat
  a : Nat
  s : List Int
def hC {ι : Type} (e : HN) : List (AV ι) := .int .i64 (e.d : Int) :: .int .u64 (e.a : Int) :: flatI .u8 e.s
def cellsH {ι : Type} : List HN → List (AV ι)
  | [] => []
  | e :: l => hC e ++ cellsH l
def WH (l : List HN) : Prop := ∀ e, e ∈ l → e.s.length = 32 ∧ e.d ≤ 17 ∧ e.a < 131072
theorem hC_len {ι : Type} {e : HN} (h : e.s.length = 32) : (hC e : List (AV ι)).length = 34 := by simp [hC, flatI_len, h]
theorem hC_d {ι : Type} (e : HN) : (hC e : List (AV ι)).getD 0 .undef = .int .i64 (e.d : Int) := rfl
theorem hC_a {ι : Type} (e : HN) : (hC e : List (AV ι)).getD 1 .undef = .int .u64 (e.a : Int) := rfl
theorem hC_s {ι : Type} {e : HN} (h : e.s.length = 32) : normL (sub (hC e : List (AV ι)) 2 32) = .ints .u8 e.s := by
  have : sub (hC e : List (AV ι)) 2 32 = flatI .u8 e.s := by
    simp only [Sy.sub, hC, List.drop_succ_cons, List.drop_zero]
    exact List.take_of_length_le (by rw [flatI_len, h]; exact Nat.le_refl _)
  rw [this, normL_flat]
  intro h'; rw [h'] at h; cases h
theorem cellsH_len {ι : Type} : ∀ {l : List HN}, WH l → (cellsH l : List (AV ι)).length = l.length * 34
  | [], _ => rfl
  | e :: l, h => by rw [cellsH, List.length_append, hC_len (h e (by simp)).1, cellsH_len fun e' h' => h e' (by simp [h']), List.length_cons]; omega
theorem cellsH_app {ι : Type} : ∀ (l m : List HN), (cellsH (l ++ m) : List (AV ι)) = cellsH l ++ cellsH m
  | [], _ => rfl
  | e :: l, m => by rw [List.cons_append, cellsH, cellsH, cellsH_app l m, List.append_assoc]
theorem cellsH_one {ι : Type} (e : HN) : (cellsH [e] : List (AV ι)) = hC e := by simp [cellsH]
theorem mapL_app' {ι κ : Type} (f : ι → κ) (l m : List (AV ι)) : AV.mapL f (l ++ m) = AV.mapL f l ++ AV.mapL f m := by simp only [AV.mapL_eq, List.map_append]
theorem hC_map {ι κ : Type} (f : ι → κ) (e : HN) : AV.mapL f (hC e) = hC e := by simp only [hC, AV.mapL, AV.map, mapL_flat1, mapL_flat]
theorem cellsH_map {ι κ : Type} (f : ι → κ) : ∀ l : List HN, AV.mapL f (cellsH l) = cellsH l
  | [] => rfl
  | e :: l => by rw [cellsH, mapL_app', cellsH_map f l, cellsH, hC_map]
theorem sub_at {β : Type} (l m : List β) (i k : Nat) (h : l.length = i) : sub (l ++ m) (i + k) = sub m k := by
  funext n
  simp only [Sy.sub, List.drop_append, h]
  rw [List.drop_eq_nil_of_le (by omega), List.nil_append, Nat.add_sub_cancel_left]
/-- A node at its place. -/
theorem cellsH_at {ι : Type} {l : List HN} (h : WH l) {i : Nat} (hi : i < l.length) : ∃ e, l[i]? = some e ∧ e.s.length = 32 ∧ (cellsH l : List (AV ι)).getD (i * 34) .undef = .int .i64 (e.d : Int) ∧ (cellsH l : List (AV ι)).getD (i * 34 + 1) .undef = .int .u64 (e.a : Int) ∧ sub (cellsH l : List (AV ι)) (i * 34) 34 = hC e := by
  obtain ⟨A, e, B, rfl, hA⟩ : ∃ A e B, l = A ++ e :: B ∧ A.length = i := ⟨l.take i, l[i], l.drop (i + 1), by rw [List.getElem_cons_drop, List.take_append_drop], by simp; omega⟩
  have hWA : WH A := fun e' h' => h e' (by simp [h'])
  have he : e.s.length = 32 := (h e (by simp)).1
  have hl : (cellsH A : List (AV ι)).length = i * 34 := by rw [cellsH_len hWA, hA]
  have hc : (cellsH (A ++ e :: B) : List (AV ι)) = cellsH A ++ (hC e ++ cellsH B) := by rw [cellsH_app, cellsH]
  have hi34 : (hC e : List (AV ι)).length = 34 := hC_len he
  refine ⟨e, by rw [List.getElem?_append_right (by omega), hA, Nat.sub_self]; rfl, he, ?_, ?_, ?_⟩
  · rw [hc, List.getD_eq_getElem?_getD, List.getElem?_append_right (by omega), hl, Nat.sub_self]; rfl
  · rw [hc, List.getD_eq_getElem?_getD, List.getElem?_append_right (by omega), hl, Nat.add_sub_cancel_left]; rfl
  · have := sub_at (cellsH A : List (AV ι)) (hC e ++ cellsH B) (i * 34) 0 hl
    rw [hc, show i * 34 = i * 34 + 0 from rfl, this]
    simp only [Sy.sub, List.drop_zero]
    rw [List.take_left' hi34]
theorem intsAV_hC {ι : Type} (n m : Int) {b : List Int} (h : b ≠ []) : intsAV (.int .i64 n :: .int .u64 m :: flatI .u8 b : List (AV ι)) = none := by
  cases b with
  | nil => exact absurd rfl h
  | cons x l =>
    have h1 : (flatI .u8 (x :: l) : List (AV ι)) ≠ [] := by simp [flatI]
    have := intsAV_flat (ι := ι) .u8 (l := x :: l) (by simp)
    simp only [flatI, List.map_cons] at this ⊢
    unfold intsAV
    unfold intsAV
    simp [this]
theorem normL_hC {ι : Type} {e : HN} (h : e.s.length = 32) : normL (hC e : List (AV ι)) = .agg (hC e) := by
  unfold normL hC
  rw [intsAV_hC _ _ (fun h0 => by rw [h0] at h; cases h)]
/-- The real cipher's split. -/
def spL (s : List Int) : List Int := sub (blockL s 1 0) 0 32
def spR (s : List Int) : List Int := sub (blockL s 1 0) 32 32
theorem spL_len (s : List Int) : (spL s).length = 32 := Sy.length_sub (by rw [blockL_len]; omega)
theorem spR_len (s : List Int) : (spR s).length = 32 := Sy.length_sub (by rw [blockL_len]; omega)
def kidL (e : HN) : HN := ⟨e.d + 1, e.a, spL e.s⟩
def kidR (e : HN) : HN := ⟨e.d + 1, e.a + 2 ^ (16 - e.d), spR e.s⟩
/-- One step down to a leaf: where it goes on, and what is set aside. -/
def stepK (n : Nat) (e : HN) : HN × HN := if e.a + 2 ^ (16 - e.d) ≤ n then (kidR e, kidL e) else (kidL e, kidR e)
def goK (n : Nat) : Nat → HN → HN
  | 0, e => e
  | f + 1, e => goK n f (stepK n e).1
def asK (n : Nat) : Nat → HN → List HN
  | 0, _ => []
  | f + 1, e => (stepK n e).2 :: asK n f (stepK n e).1
theorem stepK_d (n : Nat) (e : HN) : (stepK n e).1.d = e.d + 1 ∧ (stepK n e).2.d = e.d + 1 := by unfold stepK; split <;> exact ⟨rfl, rfl⟩
theorem stepK_s (n : Nat) (e : HN) : (stepK n e).1.s.length = 32 ∧ (stepK n e).2.s.length = 32 := by
  unfold stepK; split
  · exact ⟨spR_len _, spL_len _⟩
  · exact ⟨spL_len _, spR_len _⟩
end Go.Proofs.Ytopiceaeombefaa
