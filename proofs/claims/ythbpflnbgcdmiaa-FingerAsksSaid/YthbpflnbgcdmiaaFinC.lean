/- Regions whose branches come together in a state that is told by a property; rows of acts. -/
import Derived.Test.YthbpflnbgcdmiaaFinB
namespace Go.Proofs.Ythbpflnbgcdmiaa
open Go Go.Proofs.Ythbpflnbgcdmiaa.Sy
set_option linter.unusedSimpArgs false
set_option linter.unusedVariables false

theorem AWp.regI {α : Type} {P : Program} {E : α → Option (Row α)} {n : Sz} {st : St α} {Q : Exit → St α → Prop} {id : Nat} {ops : Array Oper} {y : Code} (plan qs : List Nat) (steps : List AStep) (I : St α → Prop) (hm : mkSteps ops qs n.n plan = some steps) (hp : plan = List.range ops.size)
    (h : ∀ K : St α → Prop, (∀ st' st, Le n st' st → I st → K st') → stepsC P E steps st K) (hy : ∀ st, I st → AWp P E n y st Q) : AWp P E n (.seq (.region id ops false) y) st Q :=
  AWp.reg plan qs steps hm hp fun K hK => h K fun st' st hl hI => hK st' (AWp.less hl (hy st hI))
/-- A list of numbers in a row beside an index. -/
def NumS {α : Type} (rows : Sy.Rows α) (S : List Nat) (v : AV (Sy.Id α)) (l : List Int) : Prop := (v = .nilslice ∧ l = []) ∨ ∃ i, i ∉ S ∧ v = .slice true (.own i) 0 l.length 1 ∧ rows[i]? = some (some (.ints .u64 l))
theorem NumR.toS {α : Type} {L : Nat} {rows : Sy.Rows α} {S : List Nat} {v : AV (Sy.Id α)} {l : List Int} (h : NumR L rows v l) (hS : ∀ i, i ∈ S → i < L) : NumS rows S v l := by
  rcases h with h | ⟨i, h0, h1, h2⟩
  · exact .inl h
  · exact .inr ⟨i, fun hm => by have := hS i hm; omega, h1, h2⟩
theorem NumS.toV {α : Type} {E : α → Option (Row α)} {rows : Sy.Rows α} {S : List Nat} {v : AV (Sy.Id α)} {l : List Int} (h : NumS rows S v l) : NumV (Sy.look E rows) v l := by
  rcases h with h | ⟨i, _, h1, h2⟩
  · exact .inl h
  · exact .inr ⟨true, .own i, h1, by simp only [Sy.look, h2, Option.join_some]⟩
theorem NumS.keep {α : Type} {rows rows' : Sy.Rows α} {S S' : List Nat} {v : AV (Sy.Id α)} {l : List Int} (h : NumS rows S v l) (hF : Fr rows S rows' S') : NumS rows' S' v l := by
  rcases h with h | ⟨i, h0, h1, h2⟩
  · exact .inl h
  · have h3 := hF.keep h2 h0
    exact .inr ⟨i, h3.2, h1, h3.1⟩
theorem NumS.app {α : Type} {rows : Sy.Rows α} {S : List Nat} {v : AV (Sy.Id α)} {l : List Int} (h : NumS rows S v l) (junk : Sy.Rows α) : NumS (rows ++ junk) S v l := h.keep (Fr.app junk)
/-- A nil list is an empty one. -/
theorem NumS.norm {α : Type} {n : Sz} {tm : Tm (Sy.Id α)} {rows : Sy.Rows α} {S : List Nat} {v : AV (Sy.Id α)} {l : List Int} (h : NumS rows S v l) (hS : ∀ i, i ∈ S → i < rows.length) (t : Nat) (ht : tget tm t = v) :
    ∃ (i : Nat) (junk : Sy.Rows α), Le n (⟨tm, rows⟩ : St α) ⟨(t, .slice true (.own i) 0 l.length 1) :: tm, rows ++ junk⟩ ∧ NumS (rows ++ junk) S (.slice true (.own i) 0 l.length 1) l := by
  rcases h with ⟨h1, h2⟩ | ⟨i, h0, h1, h2⟩
  · subst h2
    exact ⟨rows.length, [some (.ints .u64 [])], Le.nil t (ht.trans h1) .u64 1, .inr ⟨rows.length, fun hm => by have := hS _ hm; omega, rfl, ge0 _ _⟩⟩
  · refine ⟨i, [], ?_, by rw [List.append_nil]; exact .inr ⟨i, h0, rfl, h2⟩⟩
    rw [List.append_nil]
    rintro c a w ⟨ro, hr⟩
    refine ⟨ro, hr.defers, hr.size, fun s => ?_, hr.sim, hr.rm, hr.pin⟩
    simp only [tget]
    by_cases hs : t = s
    · subst hs; rw [if_pos rfl, ← h1, ← ht]; exact hr.tmps t
    · rw [if_neg hs]; exact hr.tmps s
/-- Acts: whether it drops, the number, the block. -/
def Acts {ι : Type} (M : List (AV ι)) (m : Nat) (dr : Nat → Bool) (nm : Nat → Int) (bl : Nat → List Int) : Prop :=
  M.length = m * 34 ∧ ∀ i, i < m → M.getD (i * 34) .undef = .bool (dr i) ∧ M.getD (i * 34 + 1) .undef = .int .u64 (nm i) ∧ sub M (i * 34 + 2) 32 = flatI .u8 (bl i) ∧ (bl i).length = 32
theorem mapL_ofV {ι κ : Type} (f : ι → κ) (l : List Value) : AV.mapL f (l.map ofV) = l.map ofV := by
  rw [AV.mapL_eq, List.map_map]
  apply List.map_congr_left
  intro v _
  simp only [Function.comp]
  unfold ofV
  split <;> rfl
theorem acts_of {ι : Type} {m : Nat} {l : List Value} (hl : l.length = m * 34) (hk : ∀ (p : Nat) (kd : Option IntKind), p < m * 34 → (none :: some IntKind.u64 :: List.replicate 32 (some IntKind.u8) : List (Option IntKind))[p % 34]? = some kd → Sy.kindOk kd (l.getD p undef)) :
    ∃ dr nm bl, Acts (l.map ofV : List (AV ι)) m dr nm bl := by
  refine ⟨fun i => match l.getD (i * 34) undef with | .bool b => b | _ => false, fun i => match l.getD (i * 34 + 1) undef with | .int _ n => n | _ => 0, fun i => (List.range 32).map fun c => match l.getD (i * 34 + 2 + c) undef with | .int _ n => n | _ => 0, by rw [List.length_map, hl], fun i hi => ?_⟩
  have hg : ∀ p, p < m * 34 → (l.map ofV : List (AV ι)).getD p .undef = ofV (l.getD p undef) := fun p hp => by
    rw [List.getD_eq_getElem?_getD, List.getElem?_map, List.getD_eq_getElem?_getD, List.getElem?_eq_getElem (by omega)]; rfl
  refine ⟨?_, ?_, ?_, by simp⟩
  · have h := hk (i * 34) none (by omega) (by rw [Nat.mul_mod_left]; rfl)
    rw [hg _ (by omega)]
    obtain ⟨b, h⟩ := h
    simp only [h, ofV]
  · have h := hk (i * 34 + 1) (some .u64) (by omega) (by rw [show (i * 34 + 1) % 34 = 1 by omega]; rfl)
    rw [hg _ (by omega)]
    obtain ⟨b, h, _⟩ := h
    simp only [h, ofV]
  · have hlen : (sub (l.map ofV : List (AV ι)) (i * 34 + 2) 32).length = 32 := Sy.length_sub (by rw [List.length_map, hl]; omega)
    apply List.ext_getElem
    · rw [hlen, flatI_len]; simp
    · intro c h1 h2
      have hc : c < 32 := by omega
      have h := hk (i * 34 + 2 + c) (some .u8) (by omega) (by
        rw [show (i * 34 + 2 + c) % 34 = c + 2 by omega, List.getElem?_cons_succ, List.getElem?_cons_succ, List.getElem?_replicate, if_pos hc])
      obtain ⟨b, h, _⟩ := h
      have h5 := hg (i * 34 + 2 + c) (by omega)
      rw [h] at h5
      have h6 : (sub (l.map ofV : List (AV ι)) (i * 34 + 2) 32)[c] = (l.map ofV : List (AV ι)).getD (i * 34 + 2 + c) .undef := by
        rw [List.getD_eq_getElem?_getD]
        simp only [Sy.sub, List.getElem_take, List.getElem_drop]
        rw [List.getElem?_eq_getElem (by rw [List.length_map, hl]; omega)]; rfl
      rw [h6, h5]
      simp only [flatI, List.getElem_map, List.getElem_range, h, ofV]
end Go.Proofs.Ythbpflnbgcdmiaa
