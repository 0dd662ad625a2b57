/- States that know of values and rows only what a proof needs; what the operations do to them. -/
import Derived.Orders
import Derived.Below
import Derived.WalkKit
import Derived.WalkSpells
import Derived.WalkLawsBesides
import Derived.Laws.CopyOwn
import Derived.Deep.MidRow
import Derived.Deep.WholeRow
import Derived.ChangeKeysEq
import Derived.WideKeyRuns
import Derived.Lib.AppendZerosOnto
import Derived.Maps.RangeRun
namespace Go.Proofs.Ytopiceaeombefaa.Sy
open Go Go.RowKit

/-- Everything that was there is as it was. -/
abbrev Kp (w w' : World) : Prop := Below w.heap.size w w'
theorem Kp.refl (w : World) : Kp w w := Below.refl _ _
theorem Kp.trans {a b c : World} (h : Kp a b) (k : Kp b c) : Kp a c := Below.trans h (Below.mono k h.size)

/-- The operation yields v here, and nothing that was there changes. -/
def calmAt (P : Program) (o : Oper) (a : Act) (w : World) (v : Value) : Prop :=
  match (execOp a.eval o).run P w with
  | .ok (.value u) w' => w' = w ∧ u = v
  | .ok .skip w' => w' = w ∧ v = undef
  | .ok (.enter f args) w' => w' = w ∧ Calls P f args w (fun e w'' => e = .returned v ∧ Kp w w'')
  | _ => False

section
variable {P : Program} {ops : Array Oper} {Q : Exit → Act → World → Prop} {md : Region.Mode}

/-- Whatever order is picked, whatever else has been made meanwhile. -/
def wpAnyS (P : Program) (md : Region.Mode) (ops : Array Oper) (Q : Exit → Act → World → Prop) (mild : Nat → Bool) : Nat → Array Bool → Act → World → Prop
  | 0, listed, a, w => Region.ready md ops listed = [] ∧ ∀ w3, Kp w w3 → Q .normal a w3
  | n + 1, listed, a, w => ∀ w3, Kp w w3 →
    (Region.ready md ops listed = [] → Q .normal a w3) ∧
    ∀ i ∈ Region.ready md ops listed, wpOp P ops Q i (fun a' w' => (mild i = true → Kp w3 w') ∧ wpAnyS P md ops Q mild n (listed.setIfInBounds i true) a' w') a w3

theorem wpAnyS.closed {mild : Nat → Bool} : ∀ {n : Nat} {listed : Array Bool} {a : Act} {w w3 : World}, wpAnyS P md ops Q mild n listed a w → Kp w w3 → wpAnyS P md ops Q mild n listed a w3
  | 0, _, _, _, _, h, k => ⟨h.1, fun w4 k4 => h.2 w4 (k.trans k4)⟩
  | _ + 1, _, _, _, _, h, k => fun w4 k4 => h w4 (k.trans k4)

theorem wpAnyS.sound {mild : Nat → Bool} : ∀ (n : Nat) (listed : Array Bool) (a : Act) (w : World), wpAnyS P md ops Q mild n listed a w → wpAny P md ops Q n listed a w
  | 0, _, _, w, h => ⟨h.1, h.2 w (Kp.refl w)⟩
  | n + 1, _, _, w, h => ⟨(h w (Kp.refl w)).1, fun i hi => wpOp_mono (fun a' w' h' => wpAnyS.sound n _ a' w' h'.2) ((h w (Kp.refl w)).2 i hi)⟩

def YieldsS (P : Program) (ops : Array Oper) (S : World → Prop) (o : Oper) (v : Value) (a : Act) : Prop :=
  (Region.wanted o (yielded ops a.tmps) = true ∧ ∀ w, S w → calmAt P o a w v) ∨
  (Region.wanted o (yielded ops a.tmps) = false ∧ v = undef)

theorem YieldsS.of_same {S S' : World → Prop} {o : Oper} {v : Value} {a a' : Act} (hy : YieldsS P ops S o v a) (hS : ∀ w, S' w → S w) (he : execOp a'.eval o = execOp a.eval o)
    (hw : Region.wanted o (yielded ops a'.tmps) = Region.wanted o (yielded ops a.tmps)) : YieldsS P ops S' o v a' := by
  unfold YieldsS calmAt at *
  rw [he, hw]
  rcases hy with ⟨h1, h2⟩ | h
  · exact .inl ⟨h1, fun w h => h2 w (hS w h)⟩
  · exact .inr h

theorem wpOp_putS {j : Nat} {oi oj : Oper} {v : Value} {S : World → Prop} (hj : ops[j]? = some oj) (hap : oi.apart ops oj = true)
    (hsi : ∀ cs b, oi.op ≠ .select cs b) (hsj : ∀ cs b, oj.op ≠ .select cs b)
    (hQ : ∀ c a w, ¬ Q (.panic c) a w) {K : Act → World → Prop} {a : Act} {w : World}
    (hy : YieldsS P ops S oi v a) (h : wpOp P ops Q j K (a.put oi.dst v) w) :
    wpOp P ops Q j (fun a' w' => YieldsS P ops S oi v a' ∧ K (a'.put oi.dst v) w') a w := by
  obtain ⟨h1, h2, h3⟩ := Oper.apart_spec hap
  have keep : ∀ (a : Act), YieldsS P ops S oi v a → ∀ u, YieldsS P ops S oi v (a.put oj.dst u) := fun a hy u =>
    hy.of_same (fun _ h => h) (execOp_put oi hsi a oj.dst u h3) (wanted_put oi a oj.dst u h3)
  have keepD : ∀ d, YieldsS P ops S oi v { a with defers := d :: a.defers } := fun d => hy.of_same (fun _ h => h) rfl rfl
  unfold wpOp at *
  simp only [hj] at *
  rw [wanted_put oj a oi.dst v h1] at h
  split
  · rename_i hw
    simp only [hw, if_true] at h
    rcases h with h | ⟨hasks, hlets⟩
    case inr => exact .inr ⟨by unfold Oper.asks at *; rw [execOp_put oj hsj a oi.dst v h1] at hasks; exact hasks, hlets⟩
    refine .inl ?_
    unfold Oper.wp at *
    rw [execOp_put oj hsj a oi.dst v h1] at h
    generalize (execOp a.eval oj).run P w = r at *
    cases r with
    | ok n w' =>
      cases n <;> simp only [Oper.upon] at h ⊢
      case value u => exact ⟨keep a hy u, by rw [← Act.put_comm a v u h2]; exact h⟩
      case skip => exact ⟨keep a hy _, by rw [← Act.put_comm a v undef h2]; exact h⟩
      case defer d =>
        refine ⟨keep _ (keepD d) _, ?_⟩
        rw [← Act.put_comm _ v undef h2, ← Act.put_defers]
        exact h
      case enter f args =>
        refine Calls.mono h fun e w'' he => ?_
        cases e with
        | returned u => exact ⟨keep a hy u, by rw [← Act.put_comm a v u h2]; exact he⟩
        | panicked c => exact (hQ _ _ _ he).elim
        | outgrown => exact he
      case row row args => exact Rows.mono h fun u w'' he => ⟨keep a hy u, by rw [← Act.put_comm a v u h2]; exact he⟩
    | halt x w' =>
      cases x <;> simp only [Oper.upon] at h ⊢
      case panic u => exact (hQ _ _ _ h).elim
  · rename_i hw
    simp only [hw] at h
    exact ⟨keep a hy _, by rw [← Act.put_comm a v undef h2]; exact h⟩

theorem calmAt.wp {o : Oper} {a : Act} {w : World} {v : Value} {K : Act → World → Prop} (h : calmAt P o a w v) (hK : ∀ w', Kp w w' → K (a.put o.dst v) w') : o.wp P a w K Q := by
  unfold calmAt at h
  unfold Oper.wp
  generalize (execOp a.eval o).run P w = r at *
  cases r with
  | ok n w' =>
    cases n <;> simp only [Oper.upon] at h ⊢
    case value u => obtain ⟨rfl, rfl⟩ := h; exact hK _ (Kp.refl _)
    case skip => obtain ⟨rfl, rfl⟩ := h; exact hK _ (Kp.refl _)
    case enter f args =>
      obtain ⟨rfl, hc⟩ := h
      exact hc.mono fun e w'' ⟨he, hk⟩ => by subst he; exact hK _ hk
  | halt x w' => exact h.elim

theorem YieldsS.wpOp {i : Nat} {o : Oper} {v : Value} {a : Act} {S : World → Prop} {w : World} (hi : ops[i]? = some o) (hy : YieldsS P ops S o v a) (hS : S w) {K : Act → World → Prop}
    (hK : ∀ w', Kp w w' → K (a.put o.dst v) w') : wpOp P ops Q i K a w := by
  unfold Go.wpOp
  simp only [hi]
  rcases hy with ⟨hw, hv⟩ | ⟨hw, rfl⟩
  · simp only [hw, if_true]; exact .inl ((hv w hS).wp hK)
  · simp only [hw, Bool.false_eq_true, if_false]; exact hK w (Kp.refl w)

/-- An operation may be taken first: those that can't wait for it leave it alone. D: those that wait for it. -/
theorem wpAnyS.first {mild : Nat → Bool} {i : Nat} {oi : Oper} {v : Value} {S : World → Prop} {D : Nat → Bool} (hi : ops[i]? = some oi) (hsel : ∀ (j : Nat) (o : Oper) cs b, ops[j]? = some o → o.op ≠ .select cs b)
    (hQ : ∀ c a w, ¬ Q (.panic c) a w) (hSk : ∀ w w', S w → Kp w w' → S w')
    (hD : ∀ j, D j = true → ∀ oj, ops[j]? = some oj → ∃ e ∈ oj.after, Region.binds md e = true ∧ (e.on = i ∨ D e.on = true))
    (hfree : ∀ j oj, ops[j]? = some oj → j ≠ i → D j = false → oi.apart ops oj = true ∧ ∀ w w', S w → (mild j = true → Kp w w') → S w') :
    ∀ (fuel : Nat) (listed : Array Bool) (a : Act) (w : World),
      (∀ j, D j = true → listed.getD j false = false) → i ∈ Region.ready md ops listed → YieldsS P ops S oi v a → S w →
      wpAnyS P md ops Q mild fuel (listed.setIfInBounds i true) (a.put oi.dst v) w → wpAnyS P md ops Q mild (fuel + 1) listed a w := by
  have hfree' : ∀ (listed : Array Bool), (∀ j, D j = true → listed.getD j false = false) → i ∈ Region.ready md ops listed → ∀ j, j ≠ i → j ∈ Region.ready md ops listed → D j = false := by
    intro listed hDl hr j hji hj
    cases hDj : D j with
    | false => rfl
    | true =>
      obtain ⟨hjun, oj, hoj, hall⟩ := mem_ready.1 hj
      obtain ⟨e, he, hb, hon⟩ := hD j hDj oj hoj
      have h1 := hall e he hb
      have h0 := (mem_ready.1 hr).1
      rcases hon with hon | hon
      · rw [hon] at h1
        rcases Nat.lt_or_ge i listed.size with h' | h'
        · simp [h'] at h0 h1; rw [h0] at h1; cases h1
        · simp [Array.getElem?_eq_none h'] at h1
      · rw [hDl _ hon] at h1; cases h1
  intro fuel
  induction fuel with
  | zero =>
    intro listed a w hDl hr hy hS H w3 hk
    refine ⟨fun h => (by rw [h] at hr; cases hr), fun j hj => ?_⟩
    by_cases hji : j = i
    · subst hji
      exact hy.wpOp hi (hSk _ _ hS hk) fun w' hk' => ⟨fun _ => hk', H.closed (hk.trans hk')⟩
    · have := ready_mono hj hji
      rw [H.1] at this
      cases this
  | succ fuel ih =>
    intro listed a w hDl hr hy hS H w3 hk
    refine ⟨fun h => (by rw [h] at hr; cases hr), fun j hj => ?_⟩
    by_cases hji : j = i
    · subst hji
      exact hy.wpOp hi (hSk _ _ hS hk) fun w' hk' => ⟨fun _ => hk', H.closed (hk.trans hk')⟩
    · have h1 := (H w3 hk).2 j (ready_mono hj hji)
      obtain ⟨hjun, oj, hoj, hall⟩ := mem_ready.1 hj
      have hDj := hfree' listed hDl hr j hji hj
      obtain ⟨hap, hS'⟩ := hfree j oj hoj hji hDj
      have h2 := wpOp_putS hoj hap (fun cs b => hsel i oi cs b hi) (fun cs b => hsel j oj cs b hoj) hQ hy h1
      refine wpOp_mono (fun a' w' h3 => ⟨h3.2.1, ih (listed.setIfInBounds j true) a' w' ?_ (ready_mono hr (Ne.symm hji)) h3.1 (hS' w3 w' (hSk _ _ hS hk) h3.2.1) ?_⟩) h2
      · intro j' hj'
        by_cases hjj : j = j'
        · subst hjj; rw [hDj] at hj'; cases hj'
        · rw [getD_set_ne false hjj]; exact hDl j' hj'
      · rw [Array.setIfInBounds_comm _ _ hji]
        exact h3.2.2

theorem getD_set_tt (l : Array Bool) (j : Nat) : (l.setIfInBounds j true).getD j true = true := by
  rcases Nat.lt_or_ge j l.size with h | h
  · simp [h]
  · simp [Array.getD, Nat.not_lt.2 h]

/-- The same; freedom is asked only of those that have not come up at the beginning. -/
theorem wpAnyS.firstL {mild : Nat → Bool} {i : Nat} {oi : Oper} {v : Value} {S : World → Prop} {D : Nat → Bool} {listed : Array Bool} (hi : ops[i]? = some oi) (hsel : ∀ (j : Nat) (o : Oper) cs b, ops[j]? = some o → o.op ≠ .select cs b)
    (hQ : ∀ c a w, ¬ Q (.panic c) a w) (hSk : ∀ w w', S w → Kp w w' → S w')
    (hD : ∀ j, D j = true → ∀ oj, ops[j]? = some oj → ∃ e ∈ oj.after, Region.binds md e = true ∧ (e.on = i ∨ D e.on = true))
    (hDl : ∀ j, D j = true → listed.getD j true = false)
    (hfree : ∀ j oj, ops[j]? = some oj → j ≠ i → listed.getD j true = false → D j = false → oi.apart ops oj = true ∧ ∀ w w', S w → (mild j = true → Kp w w') → S w')
    (fuel : Nat) (a : Act) (w : World) (hr : i ∈ Region.ready md ops listed) (hy : YieldsS P ops S oi v a) (hS : S w)
    (H : wpAnyS P md ops Q mild fuel (listed.setIfInBounds i true) (a.put oi.dst v) w) : wpAnyS P md ops Q mild (fuel + 1) listed a w := by
  have key : ∀ (fuel : Nat) (lis : Array Bool) (a : Act) (w : World), (∀ j, listed.getD j true = true → lis.getD j true = true) → (∀ j, D j = true → lis.getD j false = false) → i ∈ Region.ready md ops lis → YieldsS P ops S oi v a → S w →
      wpAnyS P md ops Q mild fuel (lis.setIfInBounds i true) (a.put oi.dst v) w → wpAnyS P md ops Q mild (fuel + 1) lis a w := by
    have hfree' : ∀ (lis : Array Bool), (∀ j, D j = true → lis.getD j false = false) → i ∈ Region.ready md ops lis → ∀ j, j ≠ i → j ∈ Region.ready md ops lis → D j = false := by
      intro lis hDl hr j hji hj
      cases hDj : D j with
      | false => rfl
      | true =>
        obtain ⟨hjun, oj, hoj, hall⟩ := mem_ready.1 hj
        obtain ⟨e, he, hb, hon⟩ := hD j hDj oj hoj
        have h1 := hall e he hb
        have h0 := (mem_ready.1 hr).1
        rcases hon with hon | hon
        · rw [hon] at h1
          rcases Nat.lt_or_ge i lis.size with h' | h'
          · simp [h'] at h0 h1; rw [h0] at h1; cases h1
          · simp [Array.getElem?_eq_none h'] at h1
        · rw [hDl _ hon] at h1; cases h1
    intro fuel
    induction fuel with
    | zero =>
      intro lis a w hsub hDl hr hy hS H w3 hk
      refine ⟨fun h => (by rw [h] at hr; cases hr), fun j hj => ?_⟩
      by_cases hji : j = i
      · subst hji
        exact hy.wpOp hi (hSk _ _ hS hk) fun w' hk' => ⟨fun _ => hk', H.closed (hk.trans hk')⟩
      · have := ready_mono hj hji
        rw [H.1] at this
        cases this
    | succ fuel ih =>
      intro lis a w hsub hDl hr hy hS H w3 hk
      refine ⟨fun h => (by rw [h] at hr; cases hr), fun j hj => ?_⟩
      by_cases hji : j = i
      · subst hji
        exact hy.wpOp hi (hSk _ _ hS hk) fun w' hk' => ⟨fun _ => hk', H.closed (hk.trans hk')⟩
      · have h1 := (H w3 hk).2 j (ready_mono hj hji)
        obtain ⟨hjun, oj, hoj, hall⟩ := mem_ready.1 hj
        have hDj := hfree' lis hDl hr j hji hj
        have hlj : listed.getD j true = false := by
          cases hl : listed.getD j true with
          | false => rfl
          | true => rw [hsub j hl] at hjun; cases hjun
        obtain ⟨hap, hS'⟩ := hfree j oj hoj hji hlj hDj
        have h2 := wpOp_putS hoj hap (fun cs b => hsel i oi cs b hi) (fun cs b => hsel j oj cs b hoj) hQ hy h1
        refine wpOp_mono (fun a' w' h3 => ⟨h3.2.1, ih (lis.setIfInBounds j true) a' w' ?_ ?_ (ready_mono hr (Ne.symm hji)) h3.1 (hS' w3 w' (hSk _ _ hS hk) h3.2.1) ?_⟩) h2
        · intro j' hj'
          by_cases hjj : j = j'
          · subst hjj; exact getD_set_tt _ _
          · rw [getD_set_ne true hjj]; exact hsub j' hj'
        · intro j' hj'
          by_cases hjj : j = j'
          · subst hjj; rw [hDj] at hj'; cases hj'
          · rw [getD_set_ne false hjj]; exact hDl j' hj'
        · rw [Array.setIfInBounds_comm _ _ hji]
          exact h3.2.2
  refine key fuel listed a w (fun _ h => h) (fun j hj => ?_) hr hy hS H
  have := hDl j hj
  rcases Nat.lt_or_ge j listed.size with h' | h'
  · simp [h'] at this ⊢; exact this
  · simp [Array.getElem?_eq_none h'] at this

end
end Go.Proofs.Ytopiceaeombefaa.Sy

namespace Go.Proofs.Ytopiceaeombefaa.Sy
open Go Go.RowKit

inductive Id (α : Type) where
  | own (k : Nat)
  | ext (x : α)

/-- Abstract values. slice: x: its address is known although it is empty; off: in cells; esz: cells of an element. -/
inductive AV (ι : Type) where
  | undef
  | bool (b : Bool)
  | int (k : IntKind) (n : Int)
  | str (s : ByteArray)
  | nilptr
  | ptr (id : ι) (off : Nat)
  | nilslice
  | slice (x : Bool) (id : ι) (off len esz : Nat)
  | ints (k : IntKind) (l : List Int)
  | agg (l : List (AV ι))
  | tuple (l : List (AV ι))
  | nilfunc
  | func (f : FuncId) (cap : List (AV ι))
  | niliface
  | iface (t : TypeId) (v : AV ι)
  | nilmap
  | map_ (id : ι)
  | slc (id : ι) (off len cap esz : Nat)
instance {ι : Type} : Inhabited (AV ι) := ⟨.undef⟩

structure Loc where
  b : Nat
  base : Nat
  lim : Nat

abbrev Loc.at (L : Loc) (off : Nat) : Addr := ⟨L.b, L.base + off, none⟩

section
variable {ι : Type}

inductive VR (A : ι → Option Loc) : AV ι → Value → Prop where
  | undef (v : Value) : VR A .undef v
  | bool (b : Bool) : VR A (.bool b) (.bool b)
  | int (k : IntKind) (n : Int) : VR A (.int k n) (.int k n)
  | str (s : ByteArray) : VR A (.str s) (.string s)
  | nilptr : VR A .nilptr (.pointer none)
  | ptr {id : ι} {L : Loc} (off : Nat) (h : A id = some L) : VR A (.ptr id off) (.pointer (some (L.at off)))
  | nilslice : VR A .nilslice (.slice none 0 0)
  | empty {id : ι} {L : Loc} (x : Bool) (off esz : Nat) (h : A id = some L) : VR A (.slice x id off 0 esz) (.slice none 0 0)
  | slice {id : ι} {L : Loc} {x : Bool} {off len esz cap : Nat} {a : Addr} (h : A id = some L) (hc : len ≤ cap) (hx : x = true ∨ 0 < len → a = L.at off) (hl : x = true → L.base + off + cap * esz ≤ L.lim) : VR A (.slice x id off len esz) (.slice (some a) len cap)
  | ints (k : IntKind) (l : List Int) : VR A (.ints k l) (.agg (l.map (.int k)).toArray)
  | agg {l : List (AV ι)} {vs : Array Value} (hl : l.length = vs.size) (h : ∀ (i : Nat) (h1 : i < l.length) (h2 : i < vs.size), VR A l[i] vs[i]) (ho : ∀ (i : Nat) (h2 : i < vs.size), vs[i].oneCell' = true) : VR A (.agg l) (.agg vs)
  | tuple {l : List (AV ι)} {vs : Array Value} (hl : l.length = vs.size) (h : ∀ (i : Nat) (h1 : i < l.length) (h2 : i < vs.size), VR A l[i] vs[i]) : VR A (.tuple l) (.tuple vs)
  | nilfunc : VR A .nilfunc .nilFunc
  | func {f : FuncId} {l : List (AV ι)} {vs : Array Value} (hl : l.length = vs.size) (h : ∀ (i : Nat) (h1 : i < l.length) (h2 : i < vs.size), VR A l[i] vs[i]) : VR A (.func f l) (.func (.func f) #[] vs)
  | niliface : VR A .niliface .nilIface
  | iface {t : TypeId} {v : AV ι} {u : Value} (h : VR A v u) : VR A (.iface t v) (.iface t u)
  | nilmap : VR A .nilmap (.map none)
  | map_ {id : ι} {L : Loc} (h : A id = some L) : VR A (.map_ id) (.map (some L.b))
  | slc {id : ι} {L : Loc} {off len cap esz : Nat} (h : A id = some L) (hc : len ≤ cap) (hl : L.base + off + cap * esz ≤ L.lim) : VR A (.slc id off len cap esz) (.slice (some (L.at off)) len cap)

theorem VR.mono {A A' : ι → Option Loc} (hA : ∀ id L, A id = some L → A' id = some L) {v : AV ι} {u : Value} (h : VR A v u) : VR A' v u := by
  induction h with
  | undef v => exact .undef v
  | bool b => exact .bool b
  | int k n => exact .int k n
  | str s => exact .str s
  | nilptr => exact .nilptr
  | ptr off h => exact .ptr off (hA _ _ h)
  | nilslice => exact .nilslice
  | empty x off esz h => exact .empty x off esz (hA _ _ h)
  | slice h hc hx hl => exact .slice (hA _ _ h) hc hx hl
  | ints k l => exact .ints k l
  | agg hl h ho ih => exact .agg hl ih ho
  | tuple hl h ih => exact .tuple hl ih
  | nilfunc => exact .nilfunc
  | func hl h ih => exact .func hl ih
  | niliface => exact .niliface
  | iface h ih => exact .iface ih
  | nilmap => exact .nilmap
  | map_ h => exact .map_ (hA _ _ h)
  | slc h hc hl => exact .slc (hA _ _ h) hc hl

/-- Rows of memory. -/
inductive Row (ι : Type) where
  | ints (k : IntKind) (l : List Int)
  | mixed (l : List (AV ι))
  | frz (k : IntKind) (l : List Int)
  | obj (v : AV ι)
/-- May it be written? -/
def Row.hot : Row ι → Bool
  | .frz _ _ => false
  | .obj _ => false
  | _ => true
/-- The kinds of rows: those that may be written, those that may not, objects. -/
inductive Kd where
  | hot | cold | obj
def Row.kd : Row ι → Kd
  | .frz _ _ => .cold
  | .obj _ => .obj
  | _ => .hot
/-- Are these cells? -/
def Row.flat : Row ι → Bool
  | .obj _ => false
  | _ => true

def Row.len : Row ι → Nat
  | .ints _ l => l.length
  | .mixed l => l.length
  | .frz _ l => l.length
  | .obj _ => 1
def Row.get? : Row ι → Nat → Option (AV ι)
  | .ints k l, j => l[j]?.map (AV.int k)
  | .mixed l, j => l[j]?
  | .frz k l, j => l[j]?.map (AV.int k)
  | .obj v, j => if j = 0 then some v else none
/-- One cell. -/
def Row.cell : Row ι → Nat → AV ι
  | .ints k l, j => .int k (l.getD j 0)
  | .mixed l, j => l.getD j .undef
  | .frz k l, j => .int k (l.getD j 0)
  | .obj v, _ => v
def sub {β : Type} (l : List β) (off n : Nat) : List β := (l.drop off).take n
/-- Several cells, as a value. -/
def Row.sub : Row ι → Nat → Nat → AV ι
  | .ints k l, off, n => .ints k (Sy.sub l off n)
  | .mixed l, off, n => .agg (Sy.sub l off n)
  | .frz k l, off, n => .ints k (Sy.sub l off n)
  | .obj v, off, n => .agg (Sy.sub [v] off n)

theorem sub_all {β : Type} {l : List β} {n : Nat} (h : l.length = n) : sub l 0 n = l := by
  subst h; simp [sub]

/-- What a cell holds. -/
def CR (A : ι → Option Loc) (v : AV ι) (u : Value) : Prop := VR A v u ∧ u.oneCell' = true
theorem CR.mono {A A' : ι → Option Loc} (hA : ∀ id L, A id = some L → A' id = some L) {v : AV ι} {u : Value} (h : CR A v u) : CR A' v u := ⟨h.1.mono hA, h.2⟩

theorem Row.get?_lt {r : Row ι} {j : Nat} {v : AV ι} (h : r.get? j = some v) : j < r.len := by
  cases r with
  | ints k l => simp only [Row.get?, Option.map_eq_some_iff] at h; obtain ⟨x, hx, _⟩ := h; exact (List.getElem?_eq_some_iff.1 hx).1
  | mixed l => exact (List.getElem?_eq_some_iff.1 h).1
  | frz k l => simp only [Row.get?, Option.map_eq_some_iff] at h; obtain ⟨x, hx, _⟩ := h; exact (List.getElem?_eq_some_iff.1 hx).1
  | obj v => simp only [Row.get?] at h; split at h; (subst_vars; exact Nat.zero_lt_one); cases h
theorem Row.get?_cell {r : Row ι} {j : Nat} (h : j < r.len) : r.get? j = some (r.cell j) := by
  cases r with
  | ints k l => simp only [Row.len] at h; simp [Row.get?, Row.cell, List.getElem?_eq_getElem h]
  | mixed l => simp only [Row.len] at h; simp [Row.get?, Row.cell, List.getElem?_eq_getElem h]
  | frz k l => simp only [Row.len] at h; simp [Row.get?, Row.cell, List.getElem?_eq_getElem h]
  | obj v => simp only [Row.len] at h; simp only [Row.get?, Row.cell]; rw [if_pos (by omega)]

/-- What a slice is of: a row, from a cell on, so many elements of so many cells. -/
def sview : AV ι → Option (ι × Nat × Nat × Nat)
  | .slice _ id off n esz => some (id, off, n, esz)
  | .slc id off n _ esz => some (id, off, n, esz)
  | _ => none
theorem sview_VR {A : ι → Option Loc} {v : AV ι} {u : Value} {id : ι} {off n esz : Nat} (h : VR A v u) (hs : sview v = some (id, off, n, esz)) : ∃ L a cap, A id = some L ∧ u = .slice a n cap ∧ (0 < n → a = some (L.at off)) := by
  cases h <;> simp only [sview, Option.some.injEq, Prod.mk.injEq, reduceCtorEq] at hs
  · obtain ⟨rfl, rfl, rfl, rfl⟩ := hs
    rename_i h
    exact ⟨_, _, _, h, rfl, fun h => absurd h (by omega)⟩
  · obtain ⟨rfl, rfl, rfl, rfl⟩ := hs
    rename_i h hc hx hl
    exact ⟨_, _, _, h, rfl, fun h => by rw [hx (.inr h)]⟩
  · obtain ⟨rfl, rfl, rfl, rfl⟩ := hs
    rename_i h hc hl
    exact ⟨_, _, _, h, rfl, fun _ => rfl⟩
/-- Constants. -/
def ofV : Value → AV ι
  | .bool b => .bool b
  | .int k n => .int k n
  | .string s => .str s
  | .pointer none => .nilptr
  | .slice none 0 0 => .nilslice
  | .nilFunc => .nilfunc
  | .nilIface => .niliface
  | .map none => .nilmap
  | _ => .undef
theorem ofV_VR (A : ι → Option Loc) (v : Value) : VR A (ofV v) v := by
  unfold ofV
  split <;> constructor

/-- A frame: slots and what they hold, the newest ahead; a slot that is not listed holds anything. -/
abbrev Tm (ι : Type) := List (Nat × AV ι)
def tget : Tm ι → Nat → AV ι
  | [], _ => .undef
  | (s, v) :: r, t => if s = t then v else tget r t

def ev (tmps : Tm ι) : Operand → AV ι
  | .tmp t => tget tmps t
  | .const v => ofV v
  | .func f => .func f []
  | .global _ => .undef

end

def splice {β : Type} (l : List β) (off : Nat) (l' : List β) : List β := l.take off ++ l' ++ l.drop (off + l'.length)
theorem splice_all {β : Type} {l l' : List β} (h : l'.length = l.length) : splice l 0 l' = l' := by
  simp [splice, h]
theorem splice_nil {β : Type} (l : List β) (off : Nat) : splice l off [] = l := by simp [splice]
theorem length_splice {β : Type} {l l' : List β} {off : Nat} (h : off + l'.length ≤ l.length) : (splice l off l').length = l.length := by
  simp [splice]; omega
theorem splice_get' {β : Type} {l l' : List β} {off j : Nat} (hl : off + l'.length ≤ l.length) :
    (splice l off l')[j]? = if j < off then l[j]? else if j < off + l'.length then l'[j - off]? else l[j]? := by
  unfold splice
  have hoff : (l.take off).length = off := by simp; omega
  rw [List.append_assoc, List.getElem?_append, hoff]
  split
  · rename_i hj
    rw [List.getElem?_take_of_lt hj]
  · rename_i hj
    rw [List.getElem?_append]
    by_cases h2 : j < off + l'.length
    · rw [if_pos (by omega), if_pos h2]
    · rw [if_neg (by omega), if_neg h2, List.getElem?_drop]; congr 1; omega

theorem splice_getW' {β : Type} {l l' : List β} {off j : Nat} (hl : off ≤ l.length) :
    (splice l off l')[j]? = if j < off then l[j]? else if j < off + l'.length then l'[j - off]? else l[j]? := by
  unfold splice
  have hoff : (l.take off).length = off := by simp; omega
  rw [List.append_assoc, List.getElem?_append, hoff]
  split
  · rename_i hj
    rw [List.getElem?_take_of_lt hj]
  · rename_i hj
    rw [List.getElem?_append]
    by_cases h2 : j < off + l'.length
    · rw [if_pos (by omega), if_pos h2]
    · rw [if_neg (by omega), if_neg h2, List.getElem?_drop]; congr 1; omega
theorem splice_getW {β : Type} {l l' : List β} {off j : Nat} {x : β} (hl : off ≤ l.length) (h : (splice l off l')[j]? = some x) :
    ((j < off ∨ off + l'.length ≤ j) ∧ l[j]? = some x) ∨ (off ≤ j ∧ j < off + l'.length ∧ l'[j - off]? = some x) := by
  rw [splice_getW' hl] at h
  split at h
  · exact .inl ⟨.inl (by assumption), h⟩
  · split at h
    · exact .inr ⟨by omega, by assumption, h⟩
    · exact .inl ⟨.inr (by omega), h⟩
theorem splice_get {β : Type} {l l' : List β} {off j : Nat} {x : β} (hl : off + l'.length ≤ l.length) (h : (splice l off l')[j]? = some x) :
    ((j < off ∨ off + l'.length ≤ j) ∧ l[j]? = some x) ∨ (off ≤ j ∧ j < off + l'.length ∧ l'[j - off]? = some x) := by
  rw [splice_get' hl] at h
  split at h
  · exact .inl ⟨.inl (by assumption), h⟩
  · split at h
    · exact .inr ⟨by omega, by assumption, h⟩
    · exact .inl ⟨.inr (by omega), h⟩


section
variable {ι : Type}
/-- Numbers, cell by cell. -/
def flatI (k : IntKind) (l : List Int) : List (AV ι) := l.map (AV.int k)
theorem flatI_len (k : IntKind) (l : List Int) : (flatI k l : List (AV ι)).length = l.length := by simp [flatI]
theorem flatI_get (k : IntKind) (l : List Int) (i : Nat) : (flatI k l : List (AV ι))[i]? = l[i]?.map (AV.int k) := by simp [flatI]
/-- Cells that are numbers of one kind. -/
def intsAV : List (AV ι) → Option (IntKind × List Int)
  | [] => none
  | .int k n :: r => (match r with
      | [] => some (k, [n])
      | _ => (match intsAV r with
          | some (k', l) => if k' = k then some (k, n :: l) else none
          | none => none))
  | _ :: _ => none
theorem intsAV_some : ∀ {l : List (AV ι)} {k : IntKind} {l' : List Int}, intsAV l = some (k, l') → l = flatI k l'
  | [], k, l', h => by simp [intsAV] at h
  | v :: r, k, l', h => by
    cases v with
    | int k0 n =>
      unfold intsAV at h
      split at h
      · simp at h; obtain ⟨rfl, rfl⟩ := h; rfl
      · split at h
        · rename_i k1 l1 h1
          split at h
          · rename_i hk
            subst hk
            simp at h
            obtain ⟨rfl, rfl⟩ := h
            rw [intsAV_some h1]
            rfl
          · cases h
        · cases h
    | _ => simp [intsAV] at h
theorem intsAV_flat (k : IntKind) : ∀ {l : List Int}, l ≠ [] → intsAV (flatI k l : List (AV ι)) = some (k, l)
  | [], h => absurd rfl h
  | [n], _ => rfl
  | n :: m :: l, _ => by
    show intsAV (AV.int k n :: flatI k (m :: l)) = _
    unfold intsAV
    rw [intsAV_flat k (by simp)]
    simp [flatI]
def normL (l : List (AV ι)) : AV ι := match intsAV l with | some (k, l) => .ints k l | none => .agg l
theorem normL_flat (k : IntKind) {l : List Int} (h : l ≠ []) : normL (flatI k l : List (AV ι)) = .ints k l := by unfold normL; rw [intsAV_flat k h]
theorem VR.norm {A : ι → Option Loc} {l : List (AV ι)} {u : Value} (h : VR A (.agg l) u) : VR A (normL l) u := by
  unfold normL
  split
  · rename_i k l' hl
    rw [intsAV_some hl] at h
    cases h with
    | agg hl h ho =>
      rename_i vs
      have : vs = (l'.map (Value.int k)).toArray := by
        apply Array.ext
        · rw [← hl, flatI_len]; simp
        · intro i h1 h2
          have h3 := h i (by rw [hl]; exact h1) h1
          simp only [flatI, List.getElem_map] at h3
          simp only [List.getElem_toArray, List.getElem_map]
          generalize vs[i] = q at h3
          cases h3
          rfl
      rw [this]
      exact .ints _ _
  · exact h
def Row.subN : Row ι → Nat → Nat → AV ι
  | .ints k l, off, n => .ints k (Sy.sub l off n)
  | .mixed l, off, n => normL (Sy.sub l off n)
  | .frz k l, off, n => .ints k (Sy.sub l off n)
  | .obj v, off, n => .agg (Sy.sub [v] off n)
theorem Row.subN_VR {A : ι → Option Loc} {r : Row ι} {off n : Nat} {u : Value} (h : VR A (r.sub off n) u) : VR A (r.subN off n) u := by
  cases r with
  | ints k l => exact h
  | mixed l => exact h.norm
  | frz k l => exact h
  | obj v => exact h
/-- The cells of a value of several cells. -/
def wideL : AV ι → Option (List (AV ι))
  | .ints k l => some (flatI k l)
  | .agg l => some l
  | _ => none
theorem sub_left {β : Type} {a b : List β} {n : Nat} (h : a.length = n) : sub (a ++ b) 0 n = a := by subst h; simp [sub]
theorem sub_right {β : Type} {a b : List β} {m n : Nat} (h : a.length = m) (h2 : b.length = n) : sub (a ++ b) m n = b := by subst h h2; simp [sub]
theorem sub_skip {β : Type} {a b : List β} {m n : Nat} (h : a.length ≤ m) : sub (a ++ b) m n = sub b (m - a.length) n := by
  simp [sub, List.drop_append, List.drop_eq_nil_of_le h]
theorem getD_flatL {ι : Type} (k : IntKind) (l : List Int) (r : List (AV ι)) {i : Nat} (h : i < l.length) : (flatI k l ++ r).getD i .undef = .int k (l.getD i 0) := by
  rw [List.getD_eq_getElem?_getD, List.getElem?_append_left (by rw [flatI_len]; exact h), flatI_get, List.getElem?_eq_getElem h, List.getD_eq_getElem?_getD, List.getElem?_eq_getElem h]; rfl
theorem getD_skipL {ι : Type} (k : IntKind) (l : List Int) (r : List (AV ι)) {i : Nat} (h : l.length ≤ i) : (flatI k l ++ r).getD i .undef = r.getD (i - l.length) .undef := by
  rw [List.getD_eq_getElem?_getD, List.getElem?_append_right (by rw [flatI_len]; exact h), flatI_len, List.getD_eq_getElem?_getD]
end
end Go.Proofs.Ytopiceaeombefaa.Sy

namespace Go.Proofs.Ytopiceaeombefaa.Sy
open Go Go.RowKit

def iand (k : IntKind) (a b : Int) : Int := k.wrap ((BitVec.ofInt k.bits a &&& BitVec.ofInt k.bits b).toNat)
def ior (k : IntKind) (a b : Int) : Int := k.wrap ((BitVec.ofInt k.bits a ||| BitVec.ofInt k.bits b).toNat)
def ixor (k : IntKind) (a b : Int) : Int := k.wrap ((BitVec.ofInt k.bits a ^^^ BitVec.ofInt k.bits b).toNat)
def iandNot (k : IntKind) (a b : Int) : Int := k.wrap ((BitVec.ofInt k.bits a &&& ~~~BitVec.ofInt k.bits b).toNat)
def ishl (k : IntKind) (a b : Int) : Int := k.wrap (a * 2 ^ (min b.toNat k.bits))
def ishr (k : IntKind) (a b : Int) : Int := a.fdiv (2 ^ (min b.toNat k.bits))

theorem info_of {P : Program} {t : TypeId} {d : TypeDesc} (h : P.underlying t = some d) : ∃ i, P.info? t = some i := by
  unfold Program.underlying at h
  split at h
  · rename_i hh; exact ⟨_, hh⟩
  · rename_i hh; exact ⟨_, hh⟩
  · cases h

theorem run_size {P : Program} {t : TypeId} {d : TypeDesc} (h : P.underlying t = some d) (w : World) : (sizeOf t).run P w = .ok (P.cellsOf t) w := by
  obtain ⟨i, hi⟩ := info_of h
  exact run_sizeOf w hi

def isAggT (P : Program) (t : TypeId) : Bool := match P.underlying t with | some (.struct _) => true | some (.array _ _) => true | _ => false
theorem run_isAgg {P : Program} {t : TypeId} {d : TypeDesc} (h : P.underlying t = some d) (w : World) : (isAgg t).run P w = .ok (isAggT P t) w := by
  unfold isAgg isAggT
  simp only [Sem.run_bind, run_underlying h, Result.andThen_ok, h]
  cases d <;> rfl

section
variable {ι : Type} (P : Program)

def binInt (op : BinOp) (k : IntKind) (a b : Int) (C : AV ι → Prop) : Prop :=
  match op with
  | .add => C (.int k (k.wrap (a + b)))
  | .sub => C (.int k (k.wrap (a - b)))
  | .mul => C (.int k (k.wrap (a * b)))
  | .quo => b ≠ 0 ∧ C (.int k (k.wrap (a.tdiv b)))
  | .rem => b ≠ 0 ∧ C (.int k (a.tmod b))
  | .and => C (.int k (iand k a b))
  | .or => C (.int k (ior k a b))
  | .xor => C (.int k (ixor k a b))
  | .andNot => C (.int k (iandNot k a b))
  | .eql => C (.bool (a == b))
  | .neq => C (.bool (a != b))
  | .lss => C (.bool (decide (a < b)))
  | .leq => C (.bool (decide (a ≤ b)))
  | .gtr => C (.bool (decide (a > b)))
  | .geq => C (.bool (decide (a ≥ b)))
  | _ => False

/-- '==' of two values of a type; cst: one operand is a constant. -/
def eqC (t : TypeId) (cst : Bool) (x y : AV ι) (C : Bool → Prop) : Prop :=
  match x, y with
  | .bool a, .bool b => (match P.underlying t with | some .bool => C (a == b) | _ => False)
  | .ints k l, .ints k' l' => (match P.underlying t with
      | some (.array n e) => (match P.underlying e with
          | some (.int _) => k = k' ∧ l.length = n ∧ l'.length = n ∧ P.cellsOf e = 1 ∧ P.eqGuardType P.depth t = false ∧ C (l == l')
          | _ => False)
      | _ => False)
  | .nilptr, .nilptr => (match P.underlying t with | some (.pointer _) => C true | _ => False)
  | .nilptr, .ptr _ _ => (match P.underlying t with | some (.pointer _) => C false | _ => False)
  | .ptr _ _, .nilptr => (match P.underlying t with | some (.pointer _) => C false | _ => False)
  | .niliface, .niliface => (match P.underlying t with | some (.interface _) => cst = true ∧ C true | _ => False)
  | .niliface, .iface _ _ => (match P.underlying t with | some (.interface _) => C false | _ => False)
  | .iface _ _, .niliface => (match P.underlying t with | some (.interface _) => C false | _ => False)
  | .nilmap, .nilmap => (match P.underlying t with | some (.map _ _) => C true | _ => False)
  | .map_ _, .nilmap => (match P.underlying t with | some (.map _ _) => C false | _ => False)
  | .nilslice, .nilslice => (match P.underlying t with | some (.slice _) => C true | _ => False)
  | .slice _ _ _ len _, .nilslice => (match P.underlying t with | some (.slice _) => 0 < len ∧ C false | _ => False)
  | _, _ => False

def binC (op : BinOp) (t : TypeId) (cst : Bool) (x y : AV ι) (C : AV ι → Prop) : Prop :=
  match x, y with
  | .int k a, .int k' b => (match op with
      | .shl => 0 ≤ b ∧ C (.int k (ishl k a b))
      | .shr => 0 ≤ b ∧ C (.int k (ishr k a b))
      | _ => k = k' ∧ binInt op k a b C)
  | .str a, .str b => (match op with
      | .eql => C (.bool (a.toList == b.toList))
      | .neq => C (.bool (!(a.toList == b.toList)))
      | _ => False)
  | _, _ => (match op with
      | .eql => eqC P t cst x y (fun b => C (.bool b))
      | .neq => eqC P t cst x y (fun b => C (.bool (!b)))
      | _ => False)

def isConst : Operand → Bool
  | .const _ => true
  | _ => false

end

section
variable {ι : Type} {P : Program} {A : ι → Option Loc}

theorem part_one {P : Program} {e : TypeId} {k : IntKind} (he : P.underlying e = some (.int k)) (cs : Array Value) (j : Nat) (v : Value) (h : cs[j]? = some v) (w : World) : (part e cs j).run P w = .ok v w := by
  unfold part
  simp only [Sem.run_bind, run_isAgg he, Result.andThen_ok, isAggT, he, h]
  simp

theorem run_eqItems_ints {e : TypeId} {k kk : IntKind} (he : P.underlying e = some (.int k)) (h1 : P.cellsOf e = 1) (d : Nat) (l l' : List Int) (w : World) :
    ∀ (is : List Nat), (∀ i ∈ is, i < l.length ∧ i < l'.length) →
      (Op.eqItems (d + 1) e (P.cellsOf e) (l.map (Value.int kk)).toArray (l'.map (Value.int kk)).toArray is).run P w = .ok (is.all fun i => l[i]? == l'[i]?) w := by
  intro is
  induction is with
  | nil => intro _; simp [Op.eqItems]
  | cons i is ih =>
    intro hi
    obtain ⟨h2, h3⟩ := hi i (by simp)
    have p1 : (l.map (Value.int kk)).toArray[i * 1]? = some (.int kk l[i]) := by simp [List.getElem?_eq_getElem h2]
    have p2 : (l'.map (Value.int kk)).toArray[i * 1]? = some (.int kk l'[i]) := by simp [List.getElem?_eq_getElem h3]
    simp only [Op.eqItems, Sem.run_bind, h1, part_one he _ _ _ p1, part_one he _ _ _ p2, Result.andThen_ok, run_equalIn_int w d e kk k _ _ he]
    rw [h1] at ih
    have := ih (fun j hj => hi j (by simp [hj]))
    simp only [List.all_cons, List.getElem?_eq_getElem h2, List.getElem?_eq_getElem h3]
    have hb : (some l[i] == some l'[i]) = (l[i] == l'[i]) := rfl
    rw [hb]
    cases hc : (l[i] == l'[i])
    · simp
    · simpa using this

theorem all_range_eq (l l' : List Int) (h : l.length = l'.length) : (List.range l.length).all (fun i => l[i]? == l'[i]?) = (l == l') := by
  rw [Bool.eq_iff_iff]
  simp only [List.all_eq_true, List.mem_range, beq_iff_eq]
  constructor
  · intro hh
    apply List.ext_getElem? 
    intro i
    rcases Nat.lt_or_ge i l.length with hi | hi
    · exact hh i hi
    · rw [List.getElem?_eq_none hi, List.getElem?_eq_none (by omega)]
  · intro hh i _
    rw [hh]

theorem equalIn_nn {t e : TypeId} (ht : P.underlying t = some (.pointer e)) (w : World) (d : Nat) : (Op.equalIn (d + 1) t (.pointer none) (.pointer none)).run P w = .ok true w := by
  simp [Op.equalIn, run_underlying ht]
theorem equalIn_np {t e : TypeId} (ht : P.underlying t = some (.pointer e)) (w : World) (d : Nat) {a : Addr} : (Op.equalIn (d + 1) t (.pointer none) (.pointer (some a))).run P w = .ok false w := by
  simp [Op.equalIn, run_underlying ht]
theorem equalIn_pn {t e : TypeId} (ht : P.underlying t = some (.pointer e)) (w : World) (d : Nat) {a : Addr} : (Op.equalIn (d + 1) t (.pointer (some a)) (.pointer none)).run P w = .ok false w := by
  simp [Op.equalIn, run_underlying ht]
theorem equalIn_ii {t : TypeId} {ms} (ht : P.underlying t = some (.interface ms)) (w : World) (d : Nat) : (Op.equalIn (d + 1) t .nilIface .nilIface).run P w = .ok true w := by
  simp [Op.equalIn, run_underlying ht]
theorem equalIn_ni {t : TypeId} {ms} (ht : P.underlying t = some (.interface ms)) (w : World) (d : Nat) {u : TypeId} {x : Value} : (Op.equalIn (d + 1) t .nilIface (.iface u x)).run P w = .ok false w := by
  simp [Op.equalIn, run_underlying ht]
theorem equalIn_in {t : TypeId} {ms} (ht : P.underlying t = some (.interface ms)) (w : World) (d : Nat) {u : TypeId} {x : Value} : (Op.equalIn (d + 1) t (.iface u x) .nilIface).run P w = .ok false w := by
  simp [Op.equalIn, run_underlying ht]

theorem equalIn_mm {t k e : TypeId} (ht : P.underlying t = some (.map k e)) (w : World) (d : Nat) : (Op.equalIn (d + 1) t (.map none) (.map none)).run P w = .ok true w := by
  simp [Op.equalIn, run_underlying ht]
theorem equalIn_ms {t k e : TypeId} (ht : P.underlying t = some (.map k e)) (w : World) (d : Nat) {b : Nat} : (Op.equalIn (d + 1) t (.map (some b)) (.map none)).run P w = .ok false w := by
  simp [Op.equalIn, run_underlying ht]

theorem equalIn_ss {t e : TypeId} (ht : P.underlying t = some (.slice e)) (w : World) (d : Nat) : (Op.equalIn (d + 1) t (.slice none 0 0) (.slice none 0 0)).run P w = .ok true w := by
  simp [Op.equalIn, run_underlying ht]
theorem equalIn_sn {t e : TypeId} (ht : P.underlying t = some (.slice e)) (w : World) (d : Nat) {a : Addr} {l c : Nat} : (Op.equalIn (d + 1) t (.slice (some a) l c) (.slice none 0 0)).run P w = .ok false w := by
  simp [Op.equalIn, run_underlying ht]
theorem eqC_sound {t : TypeId} {cst : Bool} {x y : AV ι} {u v : Value} {C : Bool → Prop} (h : eqC P t cst x y C) (hx : VR A x u) (hy : VR A y v) :
    ∃ b, C b ∧ (∀ op, op = .eql ∨ op = .neq → ∀ ox oy, cst = (isConst ox || isConst oy) → ∀ w, (eqGuard op t ox oy u v).run P w = .ok () w) ∧ ∀ w, (Op.equal t u v).run P w = .ok b w := by
  unfold eqC at h
  split at h
  · -- bools
    cases hx; cases hy
    split at h <;> try exact h.elim
    rename_i ht
    exact ⟨_, h, fun op hop ox oy _ w => by rcases hop with rfl | rfl <;> rfl, fun w => run_equal_bool w t _ _ ht⟩
  · -- ints
    rename_i k l k' l'
    split at h <;> try exact h.elim
    rename_i n e ht
    split at h <;> try exact h.elim
    rename_i k2 he
    obtain ⟨rfl, h1, h2, h3, h4, h5⟩ := h
    cases hx; cases hy
    obtain ⟨i, hi⟩ := info_of he
    refine ⟨_, h5, ?_, ?_⟩
    · intro op hop ox oy _ w
      rcases hop with rfl | rfl <;> simp [eqGuard, h4]
    · intro w
      unfold Op.equal
      show (Op.equalIn (9999 + 1) t _ _).run P w = _
      rw [run_equalIn_array w 9999 _ _ ht hi, run_eqItems_ints he h3 9998 l l' w (List.range n) (by intro j hj; rw [List.mem_range] at hj; omega)]
      rw [← h1, all_range_eq l l' (by omega)]
  · cases hx; cases hy
    split at h <;> try exact h.elim
    rename_i p ht
    refine ⟨_, h, fun op hop ox oy _ w => by rcases hop with rfl | rfl <;> rfl, fun w => ?_⟩
    exact equalIn_nn ht w 9999
  · cases hx; cases hy
    split at h <;> try exact h.elim
    rename_i p ht
    refine ⟨_, h, fun op hop ox oy _ w => by rcases hop with rfl | rfl <;> rfl, fun w => ?_⟩
    exact equalIn_np ht w 9999
  · cases hx; cases hy
    split at h <;> try exact h.elim
    rename_i p ht
    refine ⟨_, h, fun op hop ox oy _ w => by rcases hop with rfl | rfl <;> rfl, fun w => ?_⟩
    exact equalIn_pn ht w 9999
  · cases hx; cases hy
    split at h <;> try exact h.elim
    rename_i p ht
    obtain ⟨h0, h⟩ := h
    refine ⟨_, h, fun op hop ox oy hc w => ?_, fun w => ?_⟩
    · rw [h0] at hc
      rcases hop with rfl | rfl <;> cases ox <;> cases oy <;> simp [isConst] at hc <;> simp [eqGuard]
    · exact equalIn_ii ht w 9999
  · cases hx; cases hy
    split at h <;> try exact h.elim
    rename_i p ht
    refine ⟨_, h, fun op hop ox oy hc w => by rcases hop with rfl | rfl <;> rfl, fun w => ?_⟩
    exact equalIn_ni ht w 9999
  · cases hx; cases hy
    split at h <;> try exact h.elim
    rename_i p ht
    refine ⟨_, h, fun op hop ox oy hc w => by rcases hop with rfl | rfl <;> rfl, fun w => ?_⟩
    exact equalIn_in ht w 9999
  · cases hx; cases hy
    split at h <;> try exact h.elim
    rename_i p q ht
    refine ⟨_, h, fun op hop ox oy _ w => by rcases hop with rfl | rfl <;> rfl, fun w => ?_⟩
    exact equalIn_mm ht w 9999
  · cases hx; cases hy
    split at h <;> try exact h.elim
    rename_i p q ht
    refine ⟨_, h, fun op hop ox oy _ w => by rcases hop with rfl | rfl <;> rfl, fun w => ?_⟩
    exact equalIn_ms ht w 9999
  · cases hx; cases hy
    split at h <;> try exact h.elim
    rename_i p ht
    refine ⟨_, h, fun op hop ox oy _ w => by rcases hop with rfl | rfl <;> rfl, fun w => ?_⟩
    exact equalIn_ss ht w 9999
  · cases hy
    split at h <;> try exact h.elim
    rename_i p ht
    cases hx with
    | empty => exact (Nat.lt_irrefl _ h.1).elim
    | slice =>
      refine ⟨_, h.2, fun op hop ox oy _ w => by rcases hop with rfl | rfl <;> rfl, fun w => ?_⟩
      exact equalIn_sn ht w 9999
  · exact h.elim

theorem binInt_sound {op : BinOp} {k : IntKind} {a b : Int} {C : AV ι → Prop} (h : binInt op k a b C) :
    ∃ v u, C v ∧ VR A v u ∧ ∀ t w, (binOp op t (.int k a) (.int k b)).run P w = .ok u w := by
  unfold binInt at h
  split at h
  case h_4 => obtain ⟨h0, h⟩ := h; exact ⟨_, _, h, .int _ _, fun t w => by simp [binOp, Op.intDiv, h0]⟩
  case h_5 => obtain ⟨h0, h⟩ := h; exact ⟨_, _, h, .int _ _, fun t w => by simp [binOp, Op.intDiv, h0]⟩
  case h_16 => exact h.elim
  all_goals first
    | (refine ⟨_, _, h, .int _ _, fun t w => ?_⟩; simp [binOp, Op.intArith]; done)
    | (refine ⟨_, _, h, .bool _, fun t w => ?_⟩; simp [binOp, Op.intCmp]; done)
    | (refine ⟨_, _, h, .int _ _, fun t w => ?_⟩; simp [binOp]; rfl)

theorem binC_sound {op : BinOp} {t : TypeId} {cst : Bool} {x y : AV ι} {u v : Value} {C : AV ι → Prop} (h : binC P op t cst x y C) (hx : VR A x u) (hy : VR A y v) :
    ∃ r s, C r ∧ VR A r s ∧ ∀ ox oy, cst = (isConst ox || isConst oy) → ∀ w, (do eqGuard op t ox oy u v; binOp op t u v).run P w = .ok s w := by
  unfold binC at h
  split at h
  · cases hx; cases hy
    have hg : ∀ ox oy w k a v, (eqGuard op t ox oy (.int k a) v).run P w = .ok () w := fun ox oy w k a v => by rw [eqGuard_at_int]; rfl
    split at h
    · obtain ⟨h0, h⟩ := h
      exact ⟨_, _, h, .int _ _, fun ox oy _ w => by rw [Sem.run_bind, hg]; simp [binOp, Op.shift, ishl, show ¬ (_ : Int) < 0 from Int.not_lt.2 h0]⟩
    · obtain ⟨h0, h⟩ := h
      exact ⟨_, _, h, .int _ _, fun ox oy _ w => by rw [Sem.run_bind, hg]; simp [binOp, Op.shift, ishr, show ¬ (_ : Int) < 0 from Int.not_lt.2 h0]⟩
    · obtain ⟨rfl, h⟩ := h
      obtain ⟨r, s, h1, h2, h3⟩ := binInt_sound (P := P) (A := A) h
      exact ⟨r, s, h1, h2, fun ox oy _ w => by rw [Sem.run_bind, hg]; exact h3 t w⟩
  · cases hx; cases hy
    have hg : ∀ ox oy w a v, (eqGuard op t ox oy (.string a) v).run P w = .ok () w := fun ox oy w a v => by rw [eqGuard_at_string]; rfl
    split at h
    · exact ⟨_, _, h, .bool _, fun ox oy _ w => by rw [Sem.run_bind, hg]; simp [binOp, Op.stringOp]⟩
    · exact ⟨_, _, h, .bool _, fun ox oy _ w => by rw [Sem.run_bind, hg]; simp [binOp, Op.stringOp]⟩
    · exact h.elim
  · rename_i hn1 hn2
    have he : ∀ b w, (Op.equal t u v).run P w = .ok b w → (∃ C' : Bool → Prop, eqC P t cst x y C') → (binOp .eql t u v).run P w = .ok (.bool b) w ∧ (binOp .neq t u v).run P w = .ok (.bool (!b)) w := by
      intro b w hb ⟨C', hC⟩
      unfold eqC at hC
      split at hC <;> first | (exact hC.elim) | skip
      all_goals (cases hx <;> cases hy <;> constructor <;> simp [binOp, hb])
    split at h
    · obtain ⟨b, h1, h2, h3⟩ := eqC_sound h hx hy
      exact ⟨_, _, h1, .bool _, fun ox oy hc w => by rw [Sem.run_bind, h2 _ (.inl rfl) ox oy hc w]; exact (he b w (h3 w) ⟨_, h⟩).1⟩
    · obtain ⟨b, h1, h2, h3⟩ := eqC_sound h hx hy
      exact ⟨_, _, h1, .bool _, fun ox oy hc w => by rw [Sem.run_bind, h2 _ (.inr rfl) ox oy hc w]; exact (he b w (h3 w) ⟨_, h⟩).2⟩
    · exact h.elim
end
end Go.Proofs.Ytopiceaeombefaa.Sy

namespace Go.Proofs.Ytopiceaeombefaa.Sy
open Go Go.RowKit

section
variable {ι : Type} (P : Program)

def bnd (x : Option (AV ι)) (dflt hi : Nat) (C : Nat → Prop) : Prop :=
  match x with
  | none => C dflt
  | some (.int _ i) => (0 ≤ i ∧ i ≤ (hi : Int)) ∧ C i.toNat
  | _ => False
def bndsC (N : Nat) (lo hi mx : Option (AV ι)) (C : Nat → Nat → Prop) : Prop :=
  match mx with
  | none => bnd hi N N fun h => bnd lo 0 h fun l => l ≤ h ∧ C l h
  | some _ => hi.isSome = true ∧ bnd mx 0 N fun m => bnd hi 0 m fun h => bnd lo 0 h fun l => l ≤ h ∧ C l h

def sliceC (t : TypeId) (x : AV ι) (lo hi mx : Option (AV ι)) (C : AV ι → Prop) : Prop :=
  match x with
  | .ptr id off => (match P.underlying t with
      | some (.array n e) => (P.underlying e).isSome = true ∧ bndsC n lo hi mx fun l h => C (.slice false id (off + l * P.cellsOf e) (h - l) (P.cellsOf e))
      | _ => False)
  | .slice x id off len esz => (match P.underlying t with
      | some (.slice e) => (P.underlying e).isSome = true ∧ esz = P.cellsOf e ∧ bndsC len lo hi mx fun l h => (match lo with
          | none => C (.slice x id off h esz)
          | some _ => C (.slice false id (off + l * esz) (h - l) esz))
      | _ => False)
  | .nilslice => (match P.underlying t with
      | some (.slice e) => (P.underlying e).isSome = true ∧ bndsC 0 lo hi mx fun _ _ => C .nilslice
      | _ => False)
  | .slc id off len cap esz => (match P.underlying t with
      | some (.slice e) => (P.underlying e).isSome = true ∧ esz = P.cellsOf e ∧ mx.isNone = true ∧ bnd hi len cap fun h => bnd lo 0 h fun l => if l = h ∧ lo.isSome = true then C (.slice false id (off + l * esz) 0 esz) else (l ≤ h ∧ l < cap) ∧ C (.slc id (off + l * esz) (h - l) (cap - l) esz)
      | _ => False)
  | .str s => (match P.underlying t with
      | some .string => mx.isNone = true ∧ bndsC s.size lo hi none fun l h => C (.str (s.extract l h))
      | _ => False)
  | _ => False

def indexAddrC (t : TypeId) (x i : AV ι) (C : AV ι → Prop) : Prop :=
  match i with
  | .int _ i => (match x with
      | .ptr id off => (match P.underlying t with
          | some (.array n e) => (P.underlying e).isSome = true ∧ (0 ≤ i ∧ i < (n : Int)) ∧ C (.ptr id (off + i.toNat * P.cellsOf e))
          | _ => False)
      | .slice _ id off len esz => (match P.underlying t with
          | some (.slice e) => (P.underlying e).isSome = true ∧ esz = P.cellsOf e ∧ (0 ≤ i ∧ i < (len : Int)) ∧ C (.ptr id (off + i.toNat * esz))
          | _ => False)
      | _ => False)
  | _ => False

def indexC (t : TypeId) (x i : AV ι) (C : AV ι → Prop) : Prop :=
  match i with
  | .int _ i => (match x with
      | .ints k l => (match P.underlying t with
          | some (.array n e) => (match P.underlying e with
              | some (.int _) => P.cellsOf e = 1 ∧ l.length = n ∧ (0 ≤ i ∧ i < (n : Int)) ∧ C (.int k (l.getD i.toNat 0))
              | _ => False)
          | _ => False)
      | .str s => (match P.underlying t with
          | some .string => (0 ≤ i ∧ i < (s.size : Int)) ∧ C (.int .u8 ((s.data.getD i.toNat 0).toNat : Int))
          | _ => False)
      | _ => False)
  | _ => False

def fieldAddrC (s : TypeId) (x : AV ι) (f : Nat) (C : AV ι → Prop) : Prop :=
  match x with
  | .ptr id off => (match P.underlying s with
      | some (.struct fs) => (match fs[f]? with
          | some fl => (P.underlying fl.type).isSome = true ∧ P.cellsOf fl.type ≠ 0 ∧ C (.ptr id (off + fl.offset))
          | none => False)
      | _ => False)
  | _ => False

def fieldC (s : TypeId) (x : AV ι) (f : Nat) (C : AV ι → Prop) : Prop :=
  match x with
  | .agg l => (match P.underlying s with
      | some (.struct fs) => (match fs[f]? with
          | some fl => (P.underlying fl.type).isSome = true ∧ isAggT P fl.type = false ∧ (match l[fl.offset]? with | some v => C v | none => False)
          | none => False)
      | _ => False)
  | _ => False

/-- A part of an array of integers each. -/
def buildInts (k : IntKind) : List (Nat × AV ι) → List Int → (List Int → Prop) → Prop
  | [], l, C => C l
  | (i, .int k' v) :: r, l, C => k' = k ∧ i < l.length ∧ buildInts k r (l.set i v) C
  | _, _, _ => False
/-- Rows of as many integers each. -/
def buildRowsI (k : IntKind) (m : Nat) : List (Nat × AV ι) → List Int → (List Int → Prop) → Prop
  | [], l, C => C l
  | (i, .ints k' v) :: r, l, C => k' = k ∧ v.length = m ∧ i * m + m ≤ l.length ∧ buildRowsI k m r (splice l (i * m) v) C
  | _, _, _ => False
def scalar : AV ι → Bool
  | .agg _ | .tuple _ | .ints _ _ | .undef => false
  | _ => true
/-- Elements of one cell each. -/
def buildVals : List (Nat × AV ι) → List (AV ι) → (List (AV ι) → Prop) → Prop
  | [], l, C => C l
  | (i, v) :: r, l, C => scalar v = true ∧ i < l.length ∧ buildVals r (l.set i v) C
/-- Fields of one cell each. -/
def buildCells (fs : Array Field) : List (Nat × AV ι) → List (AV ι) → (List (AV ι) → Prop) → Prop
  | [], l, C => C l
  | (i, v) :: r, l, C => (match fs[i]? with
      | some fl => (match isAggT P fl.type with
          | false => (P.underlying fl.type).isSome = true ∧ P.cellsOf fl.type = 1 ∧ scalar v = true ∧ fl.offset < l.length ∧ buildCells fs r (l.set fl.offset v) C
          | true => (match wideL v with
              | some xs => P.cellsOf fl.type = xs.length ∧ fl.offset + xs.length ≤ l.length ∧ buildCells fs r (splice l fl.offset xs) C
              | none => False))
      | none => False)
/-- Elements of several cells each. -/
def buildWide (m : Nat) : List (Nat × AV ι) → List (AV ι) → (List (AV ι) → Prop) → Prop
  | [], l, C => C l
  | (i, v) :: r, l, C => (match wideL v with
      | some xs => xs.length = m ∧ i * m + m ≤ l.length ∧ buildWide m r (splice l (i * m) xs) C
      | none => False)
def zeroCellsOf (t : TypeId) : Option (Array Value) :=
  match P.info? t with
  | some i => i.zero.map (·.cells)
  | none => none
def oneCells (z : Array Value) : Bool := z.all (·.oneCell')
def buildC (t : TypeId) (parts : List (Nat × AV ι)) (C : AV ι → Prop) : Prop :=
  match P.underlying t with
  | some (.array n e) => (match P.underlying e with
      | some (.int k) => P.cellsOf e = 1 ∧ zeroCellsOf P t = some (Array.replicate n (.int k 0)) ∧ buildInts k parts (List.replicate n 0) fun l => C (.ints k l)
      | some (.pointer _) => P.cellsOf e = 1 ∧ zeroCellsOf P t = some (Array.replicate n (.pointer none)) ∧ buildVals parts (List.replicate n .nilptr) fun l => C (.agg l)
      | _ => False)
  | some (.struct fs) => (match zeroCellsOf P t with
      | some z => oneCells z = true ∧ (fs.toList.all fun fl => (P.underlying fl.type).isSome) = true ∧ buildCells P fs parts (z.toList.map ofV) fun l => C (.agg l)
      | none => False)
  | _ => False

def lenC (t : TypeId) (x : AV ι) (C : AV ι → Prop) : Prop :=
  match P.underlying t with
  | some .string => (match x with | .str s => C (.int .i64 s.size) | _ => False)
  | some (.array n _) => C (.int .i64 n)
  | some (.slice _) => (match x with | .slice _ _ _ len _ => C (.int .i64 len) | .nilslice => C (.int .i64 0) | .slc _ _ len _ _ => C (.int .i64 len) | _ => False)
  | _ => False

def capC (t : TypeId) (x : AV ι) (C : AV ι → Prop) : Prop :=
  match P.underlying t with
  | some (.slice _) => (match x with | .nilslice => C (.int .i64 0) | .slc _ _ _ cap _ => C (.int .i64 cap) | _ => False)
  | _ => False

def pickK (v : AV ι) (C : AV ι → Prop) (x y : AV ι) : Prop :=
  match v with
  | .bool b' => (b' = true → C x) ∧ (b' = false → C y)
  | _ => False
theorem pickK_t {C : AV ι → Prop} {x y : AV ι} : pickK (.bool true) C x y = C x := by simp [pickK]
theorem pickK_f {C : AV ι → Prop} {x y : AV ι} : pickK (.bool false) C x y = C y := by simp [pickK]
theorem pickK_d {C : AV ι → Prop} {x y : AV ι} {p : Prop} [Decidable p] : pickK (.bool (decide p)) C x y = ((decide p = true → C x) ∧ (decide p = false → C y)) := by simp [pickK]
theorem pickK_e {C : AV ι → Prop} {x y : AV ι} {a b : Int} : pickK (.bool (a == b)) C x y = (((a == b) = true → C x) ∧ ((a == b) = false → C y)) := by simp [pickK]
theorem pickK_n {C : AV ι → Prop} {x y : AV ι} {a b : Int} : pickK (.bool (a != b)) C x y = (((a != b) = true → C x) ∧ ((a != b) = false → C y)) := by simp [pickK]
theorem pickK_l {C : AV ι → Prop} {x y : AV ι} {a b : List Int} : pickK (.bool (a == b)) C x y = (((a == b) = true → C x) ∧ ((a == b) = false → C y)) := by simp [pickK]
theorem pickK_b {C : AV ι → Prop} {x y : AV ι} {b : Bool} : pickK (.bool (!b)) C x y = (((!b) = true → C x) ∧ ((!b) = false → C y)) := by simp [pickK]

def pureC (op : Op) (e : Operand → AV ι) (C : AV ι → Prop) : Prop :=
  match op with
  | .move x => C (e x)
  | .assign x => C (e x)
  | .pick c a b => pickK (e c) C (e a) (e b)
  | .binOp op t x y _ => binC P op t (isConst x || isConst y) (e x) (e y) C
  | .unOp op _ x => (match op, e x with
      | .not, .bool b => C (.bool (!b))
      | .neg, .int k n => C (.int k (k.wrap (0 - n)))
      | .xor, .int k n => C (.int k (ixor k (if k.signed then -1 else k.max) n))
      | _, _ => False)
  | .convert s d x => (match e x with
      | .int _ n => P.underlying s ≠ none ∧ (match P.underlying d with | some (.int k) => C (.int k (k.wrap n)) | _ => False)
      | _ => False)
  | .extract t i => (match e t with | .tuple l => (match l[i]? with | some v => C v | none => False) | _ => False)
  | .build t parts => buildC P t (parts.toList.map fun p => (p.1, e p.2)) C
  | .slice t x lo hi mx => sliceC P t (e x) (lo.map e) (hi.map e) (mx.map e) C
  | .indexAddr t x i => indexAddrC P t (e x) (e i) C
  | .index t x i => indexC P t (e x) (e i) C
  | .fieldAddr s x f => fieldAddrC P s (e x) f C
  | .field s x f => fieldC P s (e x) f C
  | .nilCheck x => (match e x with | .ptr id off => C (.ptr id off) | .iface t v => C (.iface t v) | _ => False)
  | .sliceToArrayPointer arr x => (match e x with
      | .slice _ id off len _ => (match P.underlying arr with | some (.array n _) => (0 < n ∧ n ≤ len) ∧ C (.ptr id off) | _ => False)
      | _ => False)
  | .makeFunc fn first cap => (match fn with | .func f => first = #[] ∧ C (.func f (cap.toList.map e)) | _ => False)
  | .makeInterface t x => (match P.underlying t with | some (.interface _) => False | none => False | _ => C (.iface t (e x)))
  | .call c => (match c.callee with
      | .builtin .len => (match c.args.toList, c.argTypes.toList with | [x], [t] => lenC P t (e x) C | _, _ => False)
      | .builtin .min => (match c.args.toList with
          | [x, y] => (match e x, e y with | .int k a, .int _ b => C (.int k (if b < a then b else a)) | _, _ => False)
          | _ => False)
      | .builtin .max => (match c.args.toList with
          | [x, y] => (match e x, e y with | .int k a, .int _ b => C (.int k (if b > a then b else a)) | _, _ => False)
          | _ => False)
      | .builtin .cap => (match c.args.toList, c.argTypes.toList with | [x], [t] => capC P t (e x) C | _, _ => False)
      | _ => False)
  | _ => False
end

section
variable {ι : Type} {P : Program} {A : ι → Option Loc}

theorem Loc.at_add (L : Loc) (off n : Nat) : (L.at off).add n = L.at (off + n) := by
  unfold Addr.add Loc.at
  split
  · subst_vars; rfl
  · simp [Nat.add_assoc]

inductive OR (A : ι → Option Loc) : Option (AV ι) → Option Value → Prop where
  | none : OR A none none
  | some {v : AV ι} {u : Value} (h : VR A v u) : OR A (some v) (some u)

theorem OR.map {e : Operand → AV ι} {ρ : Operand → Value} (he : ∀ x, VR A (e x) (ρ x)) (x : Option Operand) : OR A (x.map e) (x.map ρ) := by
  cases x with
  | none => exact .none
  | some x => exact .some (he x)

theorem run_sliceBound (k : IntKind) (i : Int) (y : Nat) (code : BoundsCode) (h0 : 0 ≤ i) (h1 : i ≤ (y : Int)) (w : World) : (Instr.sliceBound (.int k i) y code).run P w = .ok i.toNat w := by
  simp [Instr.sliceBound, asIntOf, h0, h1]

theorem bndsC_sound {N len cap : Nat} {isSlice : Bool} {lo hi mx : Option (AV ι)} {lo' hi' mx' : Option Value} {C : Nat → Nat → Prop} (hc : N ≤ cap) (hlen : len = N) (h : bndsC N lo hi mx C)
    (r1 : OR A lo lo') (r2 : OR A hi hi') (r3 : OR A mx mx') :
    ∃ l h m, C l h ∧ l ≤ h ∧ h ≤ N ∧ h ≤ m ∧ m ≤ cap ∧ (lo = none → l = 0) ∧ ∀ w, (Instr.sliceBounds isSlice len cap lo' hi' mx').run P w = .ok (l, h, m) w := by
  subst hlen
  unfold bndsC at h
  cases r3 with
  | none =>
    simp only [] at h
    cases r2 with
    | none =>
      simp only [bnd] at h
      cases r1 with
      | none =>
        simp only [] at h
        exact ⟨0, len, cap, h.2, Nat.zero_le _, Nat.le_refl _, hc, Nat.le_refl _, fun _ => rfl, fun w => by simp [Instr.sliceBounds]⟩
      | some hv =>
        cases hv <;> simp only [] at h <;> try exact h.elim
        obtain ⟨⟨h1, h2⟩, h3, h4⟩ := h
        exact ⟨_, len, cap, h4, h3, Nat.le_refl _, hc, Nat.le_refl _, (fun h => by cases h), fun w => by simp [Instr.sliceBounds, run_sliceBound _ _ _ _ h1 h2]⟩
    | some hv =>
      cases hv <;> simp only [bnd] at h <;> try exact h.elim
      obtain ⟨⟨g1, g2⟩, h⟩ := h
      have g2' : ∀ n : Int, n ≤ (len : Int) → n ≤ (cap : Int) := fun n hn => by omega
      cases r1 with
      | none =>
        simp only [] at h
        refine ⟨0, _, cap, h.2, Nat.zero_le _, by omega, by omega, Nat.le_refl _, fun _ => rfl, fun w => ?_⟩
        cases isSlice <;> simp [Instr.sliceBounds, run_sliceBound _ _ _ _ g1 (g2' _ g2)]
      | some hv =>
        cases hv <;> simp only [] at h <;> try exact h.elim
        obtain ⟨⟨h1, h2⟩, h3, h4⟩ := h
        refine ⟨_, _, cap, h4, h3, by omega, by omega, Nat.le_refl _, (fun h => by cases h), fun w => ?_⟩
        cases isSlice <;> simp [Instr.sliceBounds, run_sliceBound _ _ _ _ g1 (g2' _ g2), run_sliceBound _ _ _ _ h1 h2]
  | some hv =>
    cases hv <;> simp only [bnd] at h <;> try exact h.2.elim
    rename_i kx ix
    obtain ⟨hs, ⟨f1, f2⟩, h⟩ := h
    have f2' : ∀ n : Int, n ≤ (len : Int) → n ≤ (cap : Int) := fun n hn => by omega
    cases r2 with
    | none => simp at hs
    | some hv =>
      cases hv <;> simp only [] at h <;> try exact h.elim
      obtain ⟨⟨g1, g2⟩, h⟩ := h
      cases r1 with
      | none =>
        simp only [] at h
        refine ⟨0, _, ix.toNat, h.2, Nat.zero_le _, by omega, by omega, by omega, fun _ => rfl, fun w => ?_⟩
        cases isSlice <;> simp [Instr.sliceBounds, run_sliceBound _ _ _ _ f1 (f2' _ f2), run_sliceBound _ _ _ _ g1 g2]
      | some hv =>
        cases hv <;> simp only [] at h <;> try exact h.elim
        obtain ⟨⟨h1, h2⟩, h3, h4⟩ := h
        refine ⟨_, _, ix.toNat, h4, h3, by omega, by omega, by omega, (fun h => by cases h), fun w => ?_⟩
        cases isSlice <;> simp [Instr.sliceBounds, run_sliceBound _ _ _ _ f1 (f2' _ f2), run_sliceBound _ _ _ _ g1 g2, run_sliceBound _ _ _ _ h1 h2]

theorem some_of {β : Type} {o : Option β} (h : o.isSome = true) : ∃ d, o = some d := Option.isSome_iff_exists.1 h

theorem sliceC_sound {t : TypeId} {x : AV ι} {u : Value} {lo hi mx : Option (AV ι)} {lo' hi' mx' : Option Value} {C : AV ι → Prop} (h : sliceC P t x lo hi mx C) (hx : VR A x u)
    (r1 : OR A lo lo') (r2 : OR A hi hi') (r3 : OR A mx mx') : ∃ r s, C r ∧ VR A r s ∧ ∀ w, (Instr.sliceAt t u lo' hi' mx').run P w = .ok s w := by
  unfold sliceC at h
  split at h
  · rename_i id off
    cases hx; rename_i L hL
    split at h <;> try exact h.elim
    rename_i n e ht
    obtain ⟨he, h⟩ := h
    obtain ⟨d, he⟩ := some_of he
    obtain ⟨l, hh, m, hC, h1, h2, h3, h4, h5, hr⟩ := bndsC_sound (P := P) (isSlice := false) (Nat.le_refl n) rfl h r1 r2 r3
    refine ⟨_, .slice (some (if m = l then L.at off else (L.at off).add (l * P.cellsOf e))) (hh - l) (m - l), hC, ?_, fun w => by simp only [Instr.sliceAt, Sem.run_bind, run_underlying ht, Result.andThen_ok, Instr.sureAddr, Sem.run_pure, hr, run_size he]⟩
    refine .slice hL (by omega) (fun hz => ?_) (fun hx => by cases hx)
    have : 0 < hh - l := hz.resolve_left (by simp)
    rw [if_neg (by omega), Loc.at_add]
  · split at h <;> try exact h.elim
    rename_i x id off len esz n e ht
    obtain ⟨he, rfl, h⟩ := h
    obtain ⟨d, he⟩ := some_of he
    cases hx with
    | empty x off esz hL =>
      obtain ⟨l, hh, m, hC, h1, h2, h3, h4, h5, hr⟩ := bndsC_sound (P := P) (isSlice := true) (Nat.le_refl 0) rfl h r1 r2 r3
      obtain rfl : hh = 0 := by omega
      obtain rfl : l = 0 := by omega
      obtain rfl : m = 0 := by omega
      cases r1 with
      | none => exact ⟨_, _, hC, .empty _ _ _ hL, fun w => by simp [Instr.sliceAt, Instr.slice, run_underlying ht, hr, run_size he]⟩
      | some hv => exact ⟨_, _, hC, .empty _ _ _ hL, fun w => by simp [Instr.sliceAt, Instr.slice, run_underlying ht, hr, run_size he]⟩
    | slice hL hc hx hl =>
      rename_i L cap a
      obtain ⟨l, hh, m, hC, h1, h2, h3, h4, h5, hr⟩ := bndsC_sound (P := P) (isSlice := true) hc rfl h r1 r2 r3
      have hrun : ∀ w, (Instr.sliceAt t (.slice (some a) len cap) lo' hi' mx').run P w = .ok (.slice (if m = l then some a else (some a).map (·.add (l * P.cellsOf e))) (hh - l) (m - l)) w := fun w => by
        simp only [Instr.sliceAt, Instr.slice, Sem.run_bind, run_underlying ht, Result.andThen_ok, hr, run_size he, Sem.run_pure]
      cases r1 with
      | none =>
        obtain rfl := h5 rfl
        refine ⟨_, _, hC, ?_, hrun⟩
        have hz : (if m = 0 then some a else (some a).map (·.add (0 * P.cellsOf e))) = some a := by
          split
          · rfl
          · simp [Addr.add]
        rw [hz]
        refine .slice hL (by omega) (fun hq => hx (hq.imp (fun z => z) (by omega))) (fun hq => ?_)
        have := hl hq
        have : (m - 0) * P.cellsOf e ≤ cap * P.cellsOf e := Nat.mul_le_mul_right _ (by omega)
        omega
      | some hv =>
        refine ⟨_, _, hC, ?_, hrun⟩
        by_cases hz : m = l
        · rw [if_pos hz]
          refine .slice hL (by omega) (fun hq => ?_) (fun hq => by cases hq)
          have : 0 < hh - l := hq.resolve_left (by simp)
          omega
        · rw [if_neg hz]
          refine .slice hL (by omega) (fun hq => ?_) (fun hq => by cases hq)
          have h0 : 0 < hh - l := hq.resolve_left (by simp)
          rw [hx (.inr (by omega))]; exact Loc.at_add _ _ _
  · cases hx
    split at h <;> try exact h.elim
    rename_i e ht
    obtain ⟨he, h⟩ := h
    obtain ⟨d, he⟩ := some_of he
    obtain ⟨l, hh, m, hC, h1, h2, h3, h4, h5, hr⟩ := bndsC_sound (P := P) (isSlice := true) (Nat.le_refl 0) rfl h r1 r2 r3
    obtain rfl : hh = 0 := by omega
    obtain rfl : l = 0 := by omega
    obtain rfl : m = 0 := by omega
    exact ⟨_, _, hC, .nilslice, fun w => by simp [Instr.sliceAt, Instr.slice, run_underlying ht, hr, run_size he]⟩
  · rename_i id off len cap esz
    split at h <;> try exact h.elim
    rename_i e ht
    obtain ⟨he, rfl, hm, h⟩ := h
    obtain ⟨d, he⟩ := some_of he
    cases hx with
    | slc hL hc hl =>
      rename_i L
      have key : ∃ l hh, ((l = hh ∧ C (.slice false id (off + l * P.cellsOf e) 0 (P.cellsOf e))) ∨ (l < cap ∧ C (.slc id (off + l * P.cellsOf e) (hh - l) (cap - l) (P.cellsOf e)))) ∧ l ≤ hh ∧ hh ≤ cap ∧ ∀ w, (Instr.sliceBounds true len cap lo' hi' mx').run P w = .ok (l, hh, cap) w := by
        have fin : ∀ l hh : Nat, l ≤ hh → ∀ b : Bool, (if l = hh ∧ b = true then C (.slice false id (off + l * P.cellsOf e) 0 (P.cellsOf e)) else (l ≤ hh ∧ l < cap) ∧ C (.slc id (off + l * P.cellsOf e) (hh - l) (cap - l) (P.cellsOf e))) → (l = hh ∧ C (.slice false id (off + l * P.cellsOf e) 0 (P.cellsOf e))) ∨ (l < cap ∧ C (.slc id (off + l * P.cellsOf e) (hh - l) (cap - l) (P.cellsOf e))) := fun l hh _ b h => by
          split at h
          · rename_i h1; exact .inl ⟨h1.1, h⟩
          · exact .inr ⟨h.1.2, h.2⟩
        cases r3 with
        | some => simp at hm
        | none =>
          cases r2 with
          | none =>
            simp only [bnd] at h
            cases r1 with
            | none =>
              simp only [] at h
              exact ⟨0, len, fin _ _ (Nat.zero_le _) _ h, Nat.zero_le _, hc, fun w => by simp [Instr.sliceBounds]⟩
            | some hv =>
              cases hv <;> simp only [] at h <;> try exact h.elim
              obtain ⟨⟨h1, h2⟩, h3⟩ := h
              exact ⟨_, len, fin _ _ (by omega) _ h3, by omega, hc, fun w => by simp [Instr.sliceBounds, run_sliceBound _ _ _ _ h1 h2]⟩
          | some hv =>
            cases hv <;> simp only [bnd] at h <;> try exact h.elim
            obtain ⟨⟨g1, g2⟩, h⟩ := h
            cases r1 with
            | none =>
              simp only [] at h
              exact ⟨0, _, fin _ _ (Nat.zero_le _) _ h, Nat.zero_le _, by omega, fun w => by simp [Instr.sliceBounds, run_sliceBound _ _ _ _ g1 g2]⟩
            | some hv =>
              cases hv <;> simp only [] at h <;> try exact h.elim
              obtain ⟨⟨h1, h2⟩, h3⟩ := h
              exact ⟨_, _, fin _ _ (by omega) _ h3, by omega, by omega, fun w => by simp [Instr.sliceBounds, run_sliceBound _ _ _ _ g1 g2, run_sliceBound _ _ _ _ h1 h2]⟩
      obtain ⟨l, hh, hC, h1, h2, hr⟩ := key
      rcases hC with ⟨h3, hC⟩ | ⟨h3, hC⟩
      · subst h3
        by_cases hlc : l < cap
        · refine ⟨_, .slice (some (L.at (off + l * P.cellsOf e))) 0 (cap - l), hC, .slice hL (Nat.zero_le _) (fun h => by rcases h with h | h; cases h; omega) (fun h => by cases h), fun w => ?_⟩
          simp only [Instr.sliceAt, Instr.slice, Sem.run_bind, run_underlying ht, Result.andThen_ok, hr, run_size he, Sem.run_pure]
          rw [if_neg (by omega)]
          simp only [Option.map_some, Loc.at_add, Nat.sub_self]
        · refine ⟨_, .slice (some (L.at off)) 0 (cap - l), hC, .slice hL (Nat.zero_le _) (fun h => by rcases h with h | h; cases h; omega) (fun h => by cases h), fun w => ?_⟩
          simp only [Instr.sliceAt, Instr.slice, Sem.run_bind, run_underlying ht, Result.andThen_ok, hr, run_size he, Sem.run_pure]
          rw [if_pos (by omega)]
          simp only [Nat.sub_self]
      · refine ⟨_, _, hC, .slc hL (by omega) ?_, fun w => ?_⟩
        · have e1 : (cap - l) * P.cellsOf e + l * P.cellsOf e = cap * P.cellsOf e := by rw [← Nat.add_mul, Nat.sub_add_cancel (by omega)]
          omega
        · simp only [Instr.sliceAt, Instr.slice, Sem.run_bind, run_underlying ht, Result.andThen_ok, hr, run_size he, Sem.run_pure]
          rw [if_neg (by omega)]
          simp only [Option.map_some, Loc.at_add]
  · cases hx
    rename_i s
    split at h <;> try exact h.elim
    rename_i ht
    obtain ⟨hm, h⟩ := h
    cases r3 with
    | some => simp at hm
    | none =>
      obtain ⟨l, hh, m, hC, h1, h2, h3, h4, h5, hr⟩ := bndsC_sound (P := P) (isSlice := false) (Nat.le_refl s.size) rfl h r1 r2 .none
      exact ⟨_, _, hC, .str _, fun w => by simp [Instr.sliceAt, Instr.slice, run_underlying ht, hr]⟩
  · exact h.elim

theorem indexAddrC_sound {t : TypeId} {x i : AV ι} {u j : Value} {C : AV ι → Prop} (h : indexAddrC P t x i C) (hx : VR A x u) (hi : VR A i j) :
    ∃ r s, C r ∧ VR A r s ∧ ∀ w, (Instr.indexAt t u j).run P w = .ok s w := by
  unfold indexAddrC at h
  split at h <;> try exact h.elim
  cases hi
  split at h <;> try exact h.elim
  · cases hx; rename_i L hL
    split at h <;> try exact h.elim
    rename_i n e ht
    obtain ⟨he, ⟨h0, h1⟩, hC⟩ := h
    obtain ⟨d, he⟩ := some_of he
    refine ⟨_, _, hC, .ptr _ hL, fun w => ?_⟩
    simp [Instr.indexAt, asIntOf, run_underlying ht, Instr.sureAddr, h0, h1, run_size he, Loc.at_add]
  · rename_i k n x id off len esz
    split at h <;> try exact h.elim
    rename_i e ht
    obtain ⟨he, rfl, ⟨h0, h1⟩, hC⟩ := h
    obtain ⟨d, he⟩ := some_of he
    cases hx with
    | empty => omega
    | slice hL hc hx hl =>
      refine ⟨_, _, hC, .ptr _ hL, fun w => ?_⟩
      have := hx (.inr (by omega))
      simp [Instr.indexAt, asIntOf, run_underlying ht, h0, h1, run_size he, this, Loc.at_add]

theorem indexC_sound {t : TypeId} {x i : AV ι} {u j : Value} {C : AV ι → Prop} (h : indexC P t x i C) (hx : VR A x u) (hi : VR A i j) :
    ∃ r s, C r ∧ VR A r s ∧ ∀ w, (Instr.index t u j).run P w = .ok s w := by
  unfold indexC at h
  split at h <;> try exact h.elim
  rename_i ki i
  cases hi
  split at h <;> try exact h.elim
  · rename_i k l
    cases hx
    split at h <;> try exact h.elim
    rename_i n e ht
    split at h <;> try exact h.elim
    rename_i kk he
    obtain ⟨h1, h2, ⟨h3, h4⟩, hC⟩ := h
    refine ⟨_, _, hC, .int _ _, fun w => ?_⟩
    have hj : i.toNat < l.length := by omega
    simp only [Instr.index, Sem.run_bind, asIntOf, Sem.run_pure, Result.andThen_ok, run_underlying ht]
    rw [if_pos ⟨h3, h4⟩]
    simp only [Sem.run_bind, run_size he, Result.andThen_ok, h1]
    rw [part_one he (v := .int k (l.getD i.toNat 0))]
    simp [List.getElem?_eq_getElem hj]
  · rename_i s
    cases hx
    split at h <;> try exact h.elim
    rename_i ht
    obtain ⟨⟨h3, h4⟩, hC⟩ := h
    refine ⟨_, _, hC, .int _ _, fun w => ?_⟩
    have hj : i.toNat < s.size := by omega
    have hj' : i.toNat < s.data.size := hj
    simp only [Instr.index, Sem.run_bind, asIntOf, Sem.run_pure, Result.andThen_ok, run_underlying ht]
    rw [if_pos h3]
    have e1 : s[i.toNat]? = some (s.data.getD i.toNat 0) := by
      rw [getElem?_pos s i.toNat hj]
      rw [Array.getD, dif_pos hj']
      rfl
    rw [e1]
    rfl

theorem fieldAddrC_sound {s : TypeId} {x : AV ι} {u : Value} {f : Nat} {C : AV ι → Prop} (h : fieldAddrC P s x f C) (hx : VR A x u) :
    ∃ r v, C r ∧ VR A r v ∧ ∀ w, (Instr.fieldAt s u f).run P w = .ok v w := by
  unfold fieldAddrC at h
  split at h <;> try exact h.elim
  cases hx; rename_i L hL
  split at h <;> try exact h.elim
  rename_i fs hs
  split at h <;> try exact h.elim
  rename_i fl hf
  obtain ⟨he, h1, hC⟩ := h
  obtain ⟨d, he⟩ := some_of he
  refine ⟨_, _, hC, .ptr _ hL, fun w => ?_⟩
  simp [Instr.fieldAt, run_underlying hs, hf, Instr.sureAddr, fieldPlace, run_size he, h1, Loc.at_add]

theorem fieldC_sound {s : TypeId} {x : AV ι} {u : Value} {f : Nat} {C : AV ι → Prop} (h : fieldC P s x f C) (hx : VR A x u) :
    ∃ r v, C r ∧ VR A r v ∧ ∀ w, (Instr.field s u f).run P w = .ok v w := by
  unfold fieldC at h
  split at h <;> try exact h.elim
  cases hx; rename_i l vs ho hl hv
  split at h <;> try exact h.elim
  rename_i fs hs
  split at h <;> try exact h.elim
  rename_i fl hf
  obtain ⟨he, h1, h⟩ := h
  obtain ⟨d, he⟩ := some_of he
  split at h <;> try exact h.elim
  rename_i v hv'
  obtain ⟨hj, rfl⟩ := List.getElem?_eq_some_iff.1 hv'
  have hj2 : fl.offset < vs.size := by omega
  refine ⟨_, _, h, hv _ hj hj2, fun w => ?_⟩
  simp [Instr.field, run_underlying hs, hf, asAgg, part, run_isAgg he, h1, Array.getElem?_eq_getElem hj2]

theorem buildInts_sound {k : IntKind} {C : List Int → Prop} : ∀ (parts : List (Nat × AV ι)) (vs : List (Nat × Value)) (l : List Int), buildInts k parts l C →
    parts.length = vs.length → (∀ (i : Nat) (p : Nat × AV ι) (q : Nat × Value), parts[i]? = some p → vs[i]? = some q → p.1 = q.1 ∧ VR A p.2 q.2) →
    ∃ l', C l' ∧ Instr.fill (fun i => some (i * 1, 1)) (l.map (Value.int k)).toArray vs = some (l'.map (Value.int k)).toArray := by
  intro parts
  induction parts with
  | nil =>
    intro vs l h hl _
    cases vs with
    | nil => exact ⟨l, h, rfl⟩
    | cons => simp at hl
  | cons p parts ih =>
    intro vs l h hl hv
    cases vs with
    | nil => simp at hl
    | cons q vs =>
      obtain ⟨i, x⟩ := p
      obtain ⟨j, u⟩ := q
      obtain ⟨hij, hu⟩ := hv 0 _ _ rfl rfl
      simp only at hij
      subst hij
      unfold buildInts at h
      split at h <;> try exact h.elim
      · rename_i he; cases he
      · rename_i he
        simp only [List.cons.injEq, Prod.mk.injEq] at he
        obtain ⟨⟨rfl, rfl⟩, rfl⟩ := he
        obtain ⟨rfl, h1, h2⟩ := h
        simp only at hu
        cases hu
        obtain ⟨l', hC, hf⟩ := ih vs _ h2 (by simpa using hl) (fun i p q hp hq => hv (i + 1) p q (by simpa using hp) (by simpa using hq))
        refine ⟨l', hC, ?_⟩
        simp only [Instr.fill, Value.cells]
        simp
        refine ⟨by omega, ?_⟩
        rw [← hf]
        simp [List.map_set]

theorem VR_scalar {v : AV ι} {u : Value} (h : VR A v u) (hs : scalar v = true) : u.cells = #[u] ∧ u.oneCell' = true := by
  cases h <;> simp [scalar] at hs <;> exact ⟨rfl, rfl⟩

def VRs (A : ι → Option Loc) (l : List (AV ι)) (vs : Array Value) : Prop := l.length = vs.size ∧ ∀ (i : Nat) (h1 : i < l.length) (h2 : i < vs.size), CR A l[i] vs[i]

theorem VRs.set {l : List (AV ι)} {vs : Array Value} (h : VRs A l vs) (i : Nat) {v : AV ι} {u : Value} (hv : CR A v u) : VRs A (l.set i v) (vs.setIfInBounds i u) := by
  refine ⟨by simp [h.1], fun j h1 h2 => ?_⟩
  simp only [List.length_set] at h1
  simp only [Array.size_setIfInBounds] at h2
  by_cases hij : i = j
  · subst hij; simp [hv]
  · rw [List.getElem_set_ne hij]
    rw [Array.getElem_setIfInBounds_ne h2 hij]
    exact h.2 j h1 h2

theorem foldl_cells (off : Nat) : ∀ (xs : List Value) (k : Nat) (cs : Array Value),
    ((xs.zipIdx k).foldl (fun (cs : Array Value) (p : Value × Nat) => cs.setIfInBounds (off + p.2) p.1) cs).size = cs.size ∧
    ∀ j, ((xs.zipIdx k).foldl (fun (cs : Array Value) (p : Value × Nat) => cs.setIfInBounds (off + p.2) p.1) cs)[j]? = if off + k ≤ j ∧ j < off + k + xs.length ∧ j < cs.size then xs[j - (off + k)]? else cs[j]?
  | [], k, cs => ⟨rfl, fun j => by rw [if_neg (by simp only [List.length_nil]; omega)]; rfl⟩
  | x :: xs, k, cs => by
    obtain ⟨h1, h2⟩ := foldl_cells off xs (k + 1) (cs.setIfInBounds (off + k) x)
    simp only [List.zipIdx_cons, List.foldl_cons]
    refine ⟨by rw [h1]; simp, fun j => ?_⟩
    rw [h2]
    simp only [Array.size_setIfInBounds, List.length_cons]
    by_cases hj : j = off + k
    · subst hj
      rw [if_neg (by omega)]
      by_cases hs : off + k < cs.size
      · rw [if_pos ⟨by omega, by omega, hs⟩]
        simp [hs]
      · rw [if_neg (by omega)]
        simp [hs]
    · by_cases hc : off + (k + 1) ≤ j ∧ j < off + (k + 1) + xs.length ∧ j < cs.size
      · rw [if_pos hc, if_pos ⟨by omega, by omega, by omega⟩]
        rw [show j - (off + k) = (j - (off + (k + 1))) + 1 by omega, List.getElem?_cons_succ]
      · rw [if_neg hc, if_neg (by omega), Array.getElem?_setIfInBounds_ne (by omega)]
theorem buildRowsI_sound {k : IntKind} {m : Nat} {C : List Int → Prop} : ∀ (parts : List (Nat × AV ι)) (vs : List (Nat × Value)) (l : List Int), buildRowsI k m parts l C →
    parts.length = vs.length → (∀ (i : Nat) (p : Nat × AV ι) (q : Nat × Value), parts[i]? = some p → vs[i]? = some q → p.1 = q.1 ∧ VR A p.2 q.2) →
    ∃ l', C l' ∧ l'.length = l.length ∧ Instr.fill (fun i => some (i * m, m)) (l.map (Value.int k)).toArray vs = some (l'.map (Value.int k)).toArray := by
  intro parts
  induction parts with
  | nil =>
    intro vs l h hl _
    cases vs with
    | nil => exact ⟨l, h, rfl, rfl⟩
    | cons => simp at hl
  | cons p parts ih =>
    intro vs l h hl hv
    cases vs with
    | nil => simp at hl
    | cons q vs =>
      obtain ⟨i, x⟩ := p
      obtain ⟨j, u⟩ := q
      obtain ⟨hij, hu⟩ := hv 0 _ _ rfl rfl
      simp only at hij
      subst hij
      unfold buildRowsI at h
      split at h <;> try exact h.elim
      · rename_i he; cases he
      · rename_i l C x0 l9 C9 i' k' v r he
        simp only [List.cons.injEq, Prod.mk.injEq] at he
        obtain ⟨⟨rfl, rfl⟩, rfl⟩ := he
        obtain ⟨rfl, h1, h2, h3⟩ := h
        simp only at hu
        cases hu
        obtain ⟨l', hC, hl', hf⟩ := ih vs _ h3 (by simpa using hl) (fun i p q hp hq => hv (i + 1) p q (by simpa using hp) (by simpa using hq))
        refine ⟨l', hC, by rw [hl', length_splice (by omega)], ?_⟩
        have hsz : (Value.agg (v.map (Value.int k')).toArray).cells.size = m := by simp [Value.cells, h1]
        have hc2 : (decide ((Value.agg (v.map (Value.int k')).toArray).cells.size ≠ m) || decide (i * m + (Value.agg (v.map (Value.int k')).toArray).cells.size > (l.map (Value.int k')).toArray.size)) = false := by
          rw [Bool.or_eq_false_iff, decide_eq_false_iff_not, decide_eq_false_iff_not, hsz]; exact ⟨by simp, by simp; omega⟩
        simp only [Instr.fill]
        rw [hc2, if_neg (by decide), ← hf]
        congr 1
        obtain ⟨g1, g2⟩ := foldl_cells (i * m) (v.map (Value.int k')) 0 (l.map (Value.int k')).toArray
        rw [← Array.foldl_toList, Array.toList_zipIdx]
        have e0 : (Value.agg (v.map (Value.int k')).toArray).cells.toList = v.map (Value.int k') := by simp [Value.cells]
        rw [e0]
        apply Array.ext_getElem?
        intro j
        rw [g2]
        have e1 := splice_get' (l := l) (l' := v) (off := i * m) (j := j) (by omega)
        simp only [List.getElem?_toArray, List.getElem?_map, e1, List.size_toArray, List.length_map, Nat.add_zero]
        by_cases ha : j < i * m
        · rw [if_neg (by omega), if_pos ha]
        · rw [if_neg ha]
          by_cases hb : j < i * m + v.length
          · have hcc : i * m ≤ j ∧ j < i * m + v.length ∧ j < l.length := ⟨by omega, by omega, by omega⟩
            rw [if_pos hcc, if_pos hb]
          · rw [if_neg (by omega), if_neg hb]
theorem wide_cells {v : AV ι} {u : Value} {xs : List (AV ι)} (hw : wideL v = some xs) (h : VR A v u) : VRs A xs u.cells := by
  cases v <;> simp only [wideL, Option.some.injEq] at hw <;> try cases hw
  · rename_i k l
    cases h
    refine ⟨by simp [Value.cells, flatI_len], fun i h1 h2 => ?_⟩
    simp [Value.cells, flatI]
    exact ⟨.int _ _, rfl⟩
  · cases h with
    | agg hl hv ho => exact ⟨hl, fun i h1 h2 => ⟨hv i h1 h2, ho i h2⟩⟩
theorem buildCells_sound {fs : Array Field} {C : List (AV ι) → Prop} {places : Array (Nat × Nat)} (hp : ∀ (i : Nat) (fl : Field), fs[i]? = some fl → places[i]? = some (fl.offset, P.cellsOf fl.type)) :
    ∀ (parts : List (Nat × AV ι)) (vs : List (Nat × Value)) (l : List (AV ι)) (cs : Array Value), buildCells P fs parts l C →
    parts.length = vs.length → (∀ (i : Nat) (p : Nat × AV ι) (q : Nat × Value), parts[i]? = some p → vs[i]? = some q → p.1 = q.1 ∧ VR A p.2 q.2) → VRs A l cs →
    ∃ l' cs', C l' ∧ VRs A l' cs' ∧ Instr.fill (places[·]?) cs vs = some cs' := by
  intro parts
  induction parts with
  | nil =>
    intro vs l cs h hl _ hr
    cases vs with
    | nil => exact ⟨l, cs, h, hr, rfl⟩
    | cons => simp at hl
  | cons p parts ih =>
    intro vs l cs h hl hv hr
    cases vs with
    | nil => simp at hl
    | cons q vs =>
      obtain ⟨i, x⟩ := p
      obtain ⟨j, u⟩ := q
      obtain ⟨hij, hu⟩ := hv 0 _ _ rfl rfl
      simp only at hij
      subst hij
      unfold buildCells at h
      split at h <;> try exact h.elim
      rename_i fl hf
      split at h
      · obtain ⟨he, h1, h2, h3, h4⟩ := h
        obtain ⟨hc, ho⟩ := VR_scalar hu h2
        obtain ⟨l', cs', hC, hr', hf'⟩ := ih vs _ (cs.setIfInBounds fl.offset u) h4 (by simpa using hl) (fun i p q hp hq => hv (i + 1) p q (by simpa using hp) (by simpa using hq)) (hr.set _ ⟨hu, ho⟩)
        refine ⟨l', cs', hC, hr', ?_⟩
        have hsz := hr.1
        simp only [Instr.fill, hp _ _ hf, h1, hc]
        simp
        exact ⟨by omega, hf'⟩
      · split at h <;> try exact h.elim
        rename_i xs hw
        obtain ⟨h1, h2, h4⟩ := h
        have hx : VRs A xs u.cells := wide_cells hw hu
        obtain ⟨g1, g2⟩ := foldl_cells fl.offset u.cells.toList 0 cs
        have hsz := hr.1
        have hxl := hx.1
        have hr2 : VRs A (splice l fl.offset xs) ((u.cells.toList.zipIdx 0).foldl (fun (cs : Array Value) (p : Value × Nat) => cs.setIfInBounds (fl.offset + p.2) p.1) cs) := by
          refine ⟨by rw [g1, length_splice h2]; exact hr.1, fun i h5 h6 => ?_⟩
          have e1 := splice_get' (j := i) h2
          have e2 := g2 i
          rw [List.getElem?_eq_getElem h5] at e1
          rw [Array.getElem?_eq_getElem h6] at e2
          rw [g1] at h6
          simp only [Nat.add_zero, Array.length_toList] at e2
          by_cases ha : i < fl.offset
          · rw [if_pos ha, List.getElem?_eq_getElem (by omega)] at e1
            rw [if_neg (by omega), Array.getElem?_eq_getElem h6] at e2
            rw [Option.some.inj e1, Option.some.inj e2]
            exact hr.2 i _ h6
          · rw [if_neg ha] at e1
            by_cases hb : i < fl.offset + xs.length
            · rw [if_pos hb, List.getElem?_eq_getElem (by omega)] at e1
              have hcnd : fl.offset ≤ i ∧ i < fl.offset + u.cells.size ∧ i < cs.size := ⟨by omega, by omega, h6⟩
              rw [if_pos hcnd, Array.getElem?_toList, Array.getElem?_eq_getElem (by omega)] at e2
              rw [Option.some.inj e1, Option.some.inj e2]
              exact hx.2 _ _ _
            · rw [if_neg hb, List.getElem?_eq_getElem (by omega)] at e1
              rw [if_neg (by omega), Array.getElem?_eq_getElem h6] at e2
              rw [Option.some.inj e1, Option.some.inj e2]
              exact hr.2 i _ h6
        obtain ⟨l', cs', hC, hr', hf'⟩ := ih vs _ _ h4 (by simpa using hl) (fun i p q hp hq => hv (i + 1) p q (by simpa using hp) (by simpa using hq)) hr2
        refine ⟨l', cs', hC, hr', ?_⟩
        simp only [Instr.fill, hp _ _ hf, h1]
        have hc2 : (decide (u.cells.size ≠ xs.length) || decide (fl.offset + u.cells.size > cs.size)) = false := by
          rw [Bool.or_eq_false_iff, decide_eq_false_iff_not, decide_eq_false_iff_not]; exact ⟨by omega, by omega⟩
        rw [hc2, if_neg (by decide)]
        rw [← hf']
        congr 1
        rw [← Array.foldl_toList, Array.toList_zipIdx]

theorem VRs_splice {l xs : List (AV ι)} {cs us : Array Value} {off : Nat} (hr : VRs A l cs) (hx : VRs A xs us) (h2 : off + xs.length ≤ l.length) :
    VRs A (splice l off xs) ((us.toList.zipIdx 0).foldl (fun (cs : Array Value) (p : Value × Nat) => cs.setIfInBounds (off + p.2) p.1) cs) := by
  obtain ⟨g1, g2⟩ := foldl_cells off us.toList 0 cs
  have hsz := hr.1
  have hxl := hx.1
  refine ⟨by rw [g1, length_splice h2]; exact hr.1, fun i h5 h6 => ?_⟩
  have e1 := splice_get' (j := i) h2
  have e2 := g2 i
  rw [List.getElem?_eq_getElem h5] at e1
  rw [Array.getElem?_eq_getElem h6] at e2
  rw [g1] at h6
  simp only [Nat.add_zero, Array.length_toList] at e2
  by_cases ha : i < off
  · rw [if_pos ha, List.getElem?_eq_getElem (by omega)] at e1
    rw [if_neg (by omega), Array.getElem?_eq_getElem h6] at e2
    rw [Option.some.inj e1, Option.some.inj e2]
    exact hr.2 i _ h6
  · rw [if_neg ha] at e1
    by_cases hb : i < off + xs.length
    · rw [if_pos hb, List.getElem?_eq_getElem (by omega)] at e1
      have hcnd : off ≤ i ∧ i < off + us.size ∧ i < cs.size := ⟨by omega, by omega, h6⟩
      rw [if_pos hcnd, Array.getElem?_toList, Array.getElem?_eq_getElem (by omega)] at e2
      rw [Option.some.inj e1, Option.some.inj e2]
      exact hx.2 _ _ _
    · rw [if_neg hb, List.getElem?_eq_getElem (by omega)] at e1
      rw [if_neg (by omega), Array.getElem?_eq_getElem h6] at e2
      rw [Option.some.inj e1, Option.some.inj e2]
      exact hr.2 i _ h6
theorem buildWide_sound {m : Nat} {C : List (AV ι) → Prop} :
    ∀ (parts : List (Nat × AV ι)) (vs : List (Nat × Value)) (l : List (AV ι)) (cs : Array Value), buildWide m parts l C →
    parts.length = vs.length → (∀ (i : Nat) (p : Nat × AV ι) (q : Nat × Value), parts[i]? = some p → vs[i]? = some q → p.1 = q.1 ∧ VR A p.2 q.2) → VRs A l cs →
    ∃ l' cs', C l' ∧ VRs A l' cs' ∧ l'.length = l.length ∧ Instr.fill (fun i => some (i * m, m)) cs vs = some cs' := by
  intro parts
  induction parts with
  | nil =>
    intro vs l cs h hl _ hr
    cases vs with
    | nil => exact ⟨l, cs, h, hr, rfl, rfl⟩
    | cons => simp at hl
  | cons p parts ih =>
    intro vs l cs h hl hv hr
    cases vs with
    | nil => simp at hl
    | cons q vs =>
      obtain ⟨i, x⟩ := p
      obtain ⟨j, u⟩ := q
      obtain ⟨hij, hu⟩ := hv 0 _ _ rfl rfl
      simp only at hij
      subst hij
      unfold buildWide at h
      split at h <;> try exact h.elim
      rename_i xs hw
      obtain ⟨h1, h2, h4⟩ := h
      subst h1
      have hx : VRs A xs u.cells := wide_cells hw hu
      have hsz := hr.1
      have hxl := hx.1
      obtain ⟨l', cs', hC, hr', hll, hf'⟩ := ih vs _ _ h4 (by simpa using hl) (fun i p q hp hq => hv (i + 1) p q (by simpa using hp) (by simpa using hq)) (VRs_splice hr hx h2)
      refine ⟨l', cs', hC, hr', by rw [hll, length_splice h2], ?_⟩
      simp only [Instr.fill]
      have hc2 : (decide (u.cells.size ≠ xs.length) || decide (i * xs.length + u.cells.size > cs.size)) = false := by
        rw [Bool.or_eq_false_iff, decide_eq_false_iff_not, decide_eq_false_iff_not]; exact ⟨by omega, by omega⟩
      rw [hc2, if_neg (by decide)]
      rw [← hf']
      congr 1
      rw [← Array.foldl_toList, Array.toList_zipIdx]
theorem rep_get {β : Type} [Inhabited β] (l : List β) (hl : 0 < l.length) : ∀ (n i : Nat), i < n * l.length → (List.replicate n l).flatten[i]? = some l[i % l.length]!
  | 0, i, h => by simp at h
  | n + 1, i, h => by
    rw [List.replicate_succ, List.flatten_cons]
    rcases Nat.lt_or_ge i l.length with h1 | h1
    · rw [List.getElem?_append_left h1, Nat.mod_eq_of_lt h1, List.getElem?_eq_getElem h1, getElem!_pos l i h1]
    · have hm : (n + 1) * l.length = n * l.length + l.length := Nat.succ_mul n _
      rw [List.getElem?_append_right h1, rep_get l hl n (i - l.length) (by omega), Nat.mod_eq_sub_mod h1]
theorem rep_cells (z : Array Value) (n : Nat) (hz : 0 < z.size) : (Array.range (n * z.size)).map (z[· % z.size]!) = (List.replicate n z.toList).flatten.toArray := by
  apply Array.ext
  · simp
  · intro i h1 h2
    have h3 : i < n * z.size := by simpa using h1
    have h4 := rep_get z.toList (by simpa using hz) n i (by simpa using h3)
    have h5 : i % z.size < z.size := Nat.mod_lt _ hz
    simp only [List.getElem_toArray, Array.getElem_map, Array.getElem_range]
    rw [List.getElem?_eq_getElem (by simpa using h2)] at h4
    rw [Option.some.inj h4]
    simp only [Array.length_toList]
    rw [getElem!_pos z _ h5, getElem!_pos z.toList _ (by simpa using h5)]
    simp
theorem rep_VRs (z : Array Value) (ho : oneCells z = true) : ∀ n, VRs A ((List.replicate n (z.toList.map ofV)).flatten : List (AV ι)) (List.replicate n z.toList).flatten.toArray := by
  intro n
  have he : ((List.replicate n (z.toList.map ofV)).flatten : List (AV ι)) = (List.replicate n z.toList).flatten.map ofV := by
    rw [List.map_flatten, List.map_replicate]
  rw [he]
  refine ⟨by simp, fun i h1 h2 => ?_⟩
  simp only [List.getElem_map, List.getElem_toArray]
  refine ⟨ofV_VR A _, ?_⟩
  have hm : (List.replicate n z.toList).flatten[i]'(by simpa using h2) ∈ z.toList := by
    have := List.getElem_mem (l := (List.replicate n z.toList).flatten) (n := i) (by simpa using h2)
    rw [List.mem_flatten] at this
    obtain ⟨l, hl, hi⟩ := this
    rw [(List.mem_replicate.1 hl).2] at hi
    exact hi
  unfold oneCells at ho
  rw [Array.all_eq_true'] at ho
  exact ho _ (by simpa using hm)

/-- Elements of one cell each. -/
theorem buildVals_sound {C : List (AV ι) → Prop} :
    ∀ (parts : List (Nat × AV ι)) (vs : List (Nat × Value)) (l : List (AV ι)) (cs : Array Value), buildVals parts l C →
    parts.length = vs.length → (∀ (i : Nat) (p : Nat × AV ι) (q : Nat × Value), parts[i]? = some p → vs[i]? = some q → p.1 = q.1 ∧ VR A p.2 q.2) → VRs A l cs →
    ∃ l' cs', C l' ∧ VRs A l' cs' ∧ l'.length = l.length ∧ Instr.fill (fun i => some (i * 1, 1)) cs vs = some cs' := by
  intro parts
  induction parts with
  | nil =>
    intro vs l cs h hl _ hr
    cases vs with
    | nil => exact ⟨l, cs, h, hr, rfl, rfl⟩
    | cons => simp at hl
  | cons p parts ih =>
    intro vs l cs h hl hv hr
    cases vs with
    | nil => simp at hl
    | cons q vs =>
      obtain ⟨i, x⟩ := p
      obtain ⟨j, u⟩ := q
      obtain ⟨hij, hu⟩ := hv 0 _ _ rfl rfl
      simp only at hij
      subst hij
      unfold buildVals at h
      obtain ⟨h2, h3, h4⟩ := h
      obtain ⟨hc, ho⟩ := VR_scalar hu h2
      obtain ⟨l', cs', hC, hr', hll, hf'⟩ := ih vs _ (cs.setIfInBounds i u) h4 (by simpa using hl) (fun i p q hp hq => hv (i + 1) p q (by simpa using hp) (by simpa using hq)) (hr.set _ ⟨hu, ho⟩)
      refine ⟨l', cs', hC, hr', by simpa using hll, ?_⟩
      have hsz := hr.1
      simp only [Instr.fill, hc]
      simp
      exact ⟨by omega, by simpa using hf'⟩

theorem run_zero {t : TypeId} {z : Array Value} (h : zeroCellsOf P t = some z) (w : World) : ∃ v, (zeroValue t).run P w = .ok v w ∧ v.cells = z := by
  unfold zeroCellsOf at h
  split at h
  · rename_i i hi
    obtain ⟨v, hv, rfl⟩ := Option.map_eq_some_iff.1 h
    exact ⟨v, by simp [zeroValue, typeInfo, hi, hv], rfl⟩
  · cases h

theorem mapM_places {fs : Array Field} (h : (fs.toList.all fun fl => (P.underlying fl.type).isSome) = true) (w : World) :
    (fs.mapM fun f => (do pure (f.offset, ← sizeOf f.type) : Sem (Nat × Nat))).run P w = .ok (fs.map fun f => (f.offset, P.cellsOf f.type)) w := by
  rw [Array.mapM_eq_mapM_toList]
  simp only [Sem.run_map]
  have : ∀ l : List Field, (l.all fun fl => (P.underlying fl.type).isSome) = true → (l.mapM fun f => (do pure (f.offset, ← sizeOf f.type) : Sem (Nat × Nat))).run P w = .ok (l.map fun f => (f.offset, P.cellsOf f.type)) w := by
    intro l
    induction l with
    | nil => intro _; rfl
    | cons f l ih =>
      intro h
      simp only [List.all_cons, Bool.and_eq_true] at h
      obtain ⟨d, hd⟩ := some_of h.1
      rw [List.mapM_cons]
      simp only [Sem.run_bind, run_size hd, Result.andThen_ok, Sem.run_pure, ih h.2, List.map_cons]
  rw [this _ h]
  simp only [Result.andThen_ok]
  congr 1
  rw [← Array.toArray_toList (xs := Array.map _ fs)]
  simp

theorem buildC_sound {t : TypeId} {parts : List (Nat × AV ι)} {vs : List (Nat × Value)} {C : AV ι → Prop} (h : buildC P t parts C)
    (hl : parts.length = vs.length) (hv : ∀ (i : Nat) (p : Nat × AV ι) (q : Nat × Value), parts[i]? = some p → vs[i]? = some q → p.1 = q.1 ∧ VR A p.2 q.2) :
    ∃ r s, C r ∧ VR A r s ∧ ∀ w, (Instr.build t vs.toArray).run P w = .ok s w := by
  unfold buildC at h
  split at h <;> try exact h.elim
  · rename_i n e ht
    split at h <;> try exact h.elim
    · rename_i k he
      obtain ⟨h1, h2, h⟩ := h
      obtain ⟨l', hC, hf⟩ := buildInts_sound parts vs _ h hl hv
      refine ⟨_, _, hC, .ints _ _, fun w => ?_⟩
      obtain ⟨z, hz, hz2⟩ := run_zero h2 w
      simp only [Instr.build, Sem.run_bind, hz, Result.andThen_ok, run_underlying ht, run_size he, h1, hz2]
      have e1 : (List.map (Value.int k) (List.replicate n 0)).toArray = Array.replicate n (Value.int k 0) := by simp
      rw [e1] at hf
      rw [hf]
      rfl
    · rename_i k he
      obtain ⟨h1, h2, h⟩ := h
      have h0 : VRs A (List.replicate n .nilptr : List (AV ι)) (Array.replicate n (Value.pointer none)) := ⟨by simp, fun i h1 h2 => by simp; exact ⟨.nilptr, rfl⟩⟩
      obtain ⟨l', cs', hC, hr', hlen, hf⟩ := buildVals_sound parts vs _ _ h hl hv h0
      refine ⟨_, .agg cs', hC, .agg hr'.1 (fun i h1 h2 => (hr'.2 i h1 h2).1) (fun i h2 => (hr'.2 i (by rw [hr'.1]; exact h2) h2).2), fun w => ?_⟩
      obtain ⟨z, hz, hz2⟩ := run_zero h2 w
      simp only [Instr.build, Sem.run_bind, hz, Result.andThen_ok, run_underlying ht, run_size he, h1, hz2]
      rw [hf]
      rfl
  · rename_i fs ht
    split at h <;> try exact h.elim
    rename_i z hz
    obtain ⟨hone, h1, h⟩ := h
    obtain ⟨l', cs', hC, hr, hf⟩ := buildCells_sound (places := fs.map fun f => (f.offset, P.cellsOf f.type)) (fun i fl hi => by simp [hi]) parts vs _ z h hl hv
      ⟨by simp, fun i h1 h2 => ⟨by simp; exact ofV_VR A _, by unfold oneCells at hone; rw [Array.all_eq_true] at hone; exact hone i h2⟩⟩
    refine ⟨_, .agg cs', hC, .agg hr.1 (fun i h1 h2 => (hr.2 i h1 h2).1) (fun i h2 => (hr.2 i (by rw [hr.1]; exact h2) h2).2), fun w => ?_⟩
    obtain ⟨v, hv, rfl⟩ := run_zero hz w
    simp only [Instr.build, Sem.run_bind, hv, Result.andThen_ok, run_underlying ht, mapM_places h1]
    simp only [hf]
    rfl

theorem lenC_sound {t : TypeId} {x : AV ι} {u : Value} {C : AV ι → Prop} (h : lenC P t x C) (hx : VR A x u) (tt : TypeId) : ∃ r s, C r ∧ VR A r s ∧ ∀ w, (Builtin.len_ #[t] tt #[u]).run P w = .ok s w := by
  unfold lenC at h
  split at h <;> try exact h.elim
  · rename_i ht
    split at h <;> try exact h.elim
    cases hx
    exact ⟨_, _, h, .int _ _, fun w => by simp [Builtin.len_, run_underlying ht, goInt]⟩
  · rename_i n e ht
    exact ⟨_, _, h, .int _ _, fun w => by simp [Builtin.len_, run_underlying ht, goInt]⟩
  · rename_i ht
    split at h <;> try exact h.elim
    · cases hx with
      | empty => exact ⟨_, _, h, .int _ _, fun w => by simp [Builtin.len_, run_underlying ht, goInt]⟩
      | slice => exact ⟨_, _, h, .int _ _, fun w => by simp [Builtin.len_, run_underlying ht, goInt]⟩
    · cases hx
      exact ⟨_, _, h, .int _ _, fun w => by simp [Builtin.len_, run_underlying ht, goInt]⟩
    · cases hx
      exact ⟨_, _, h, .int _ _, fun w => by simp [Builtin.len_, run_underlying ht, goInt]⟩

theorem capC_sound {t : TypeId} {x : AV ι} {u : Value} {C : AV ι → Prop} (h : capC P t x C) (hx : VR A x u) (tt : TypeId) : ∃ r s, C r ∧ VR A r s ∧ ∀ w, (Builtin.cap_ #[t] tt #[u]).run P w = .ok s w := by
  unfold capC at h
  split at h <;> try exact h.elim
  rename_i ht
  split at h <;> try exact h.elim
  · cases hx
    exact ⟨_, _, h, .int _ _, fun w => by simp [Builtin.cap_, run_underlying ht, goInt]⟩
  · cases hx
    exact ⟨_, _, h, .int _ _, fun w => by simp [Builtin.cap_, run_underlying ht, goInt]⟩

theorem pureC_sound {e : Operand → AV ι} {ρ : Operand → Value} (he : ∀ x, VR A (e x) (ρ x)) (o : Oper) {C : AV ι → Prop} (h : pureC P o.op e C) :
    ∃ v u, C v ∧ VR A v u ∧ ∀ w, (execOp ρ o).run P w = .ok (.value u) w := by
  unfold pureC at h
  split at h
  all_goals (rename_i ho)
  · exact ⟨_, _, h, he _, fun w => by simp [execOp, ho]⟩
  · exact ⟨_, _, h, he _, fun w => by simp [execOp, ho]⟩
  · -- pick
    rename_i c a b
    have hc := he c
    unfold pickK at h
    split at h <;> try exact h.elim
    rename_i b' hb
    rw [hb] at hc
    obtain ⟨h1, h2⟩ := h
    generalize hρ : ρ c = rc at hc
    cases hc
    cases b' with
    | true => exact ⟨_, _, h1 rfl, he _, fun w => by simp [execOp, ho, hρ, asBool]⟩
    | false => exact ⟨_, _, h2 rfl, he _, fun w => by simp [execOp, ho, hρ, asBool]⟩
  · rename_i op t x y ty
    obtain ⟨r, s, h1, h2, h3⟩ := binC_sound h (he x) (he y)
    exact ⟨r, s, h1, h2, fun w => by simp only [execOp, ho]; rw [Sem.run_bind, h3 x y rfl w]; rfl⟩
  · rename_i op t x
    have hx := he x
    split at h <;> try exact h.elim
    all_goals (rename_i hb; rw [hb] at hx; generalize hρ : ρ x = rx at hx; cases hx)
    · exact ⟨_, _, h, .bool _, fun w => by simp [execOp, ho, hρ, Op.unary]⟩
    · exact ⟨_, _, h, .int _ _, fun w => by simp [execOp, ho, hρ, Op.unary, Op.intArith]⟩
    · exact ⟨_, _, h, .int _ _, fun w => by simp [execOp, ho, hρ, Op.unary]; rfl⟩
  · -- convert
    rename_i s d x
    have hx := he x
    split at h <;> try exact h.elim
    rename_i hb
    rw [hb] at hx
    generalize hρ : ρ x = rx at hx
    cases hx
    obtain ⟨hs, h⟩ := h
    split at h <;> try exact h.elim
    rename_i k hd
    obtain ⟨ds, hs⟩ := Option.ne_none_iff_exists'.1 hs
    exact ⟨_, _, h, .int _ _, fun w => by simp [execOp, ho, hρ, convert, run_underlying hs, run_underlying hd, Conv.intToInt]⟩
  · -- extract
    rename_i t i
    have hx := he t
    split at h <;> try exact h.elim
    rename_i l hb
    rw [hb] at hx
    generalize hρ : ρ t = rx at hx
    cases hx with
    | tuple hl hv =>
      rename_i vs
      split at h <;> try exact h.elim
      rename_i v hv'
      obtain ⟨hj, rfl⟩ := List.getElem?_eq_some_iff.1 hv'
      have hj2 : i < vs.size := by omega
      exact ⟨_, _, h, hv _ hj hj2, fun w => by simp [execOp, ho, hρ, Instr.extract, Array.getElem?_eq_getElem hj2]⟩
  · -- build
    rename_i t parts
    obtain ⟨r, s, h1, h2, h3⟩ := buildC_sound (vs := parts.toList.map fun p => (p.1, ρ p.2)) h (by simp) (by
      intro i p q hp hq
      simp only [List.getElem?_map, Option.map_eq_some_iff] at hp hq
      obtain ⟨z, hz, rfl⟩ := hp
      obtain ⟨z', hz', rfl⟩ := hq
      rw [hz] at hz'
      cases hz'
      exact ⟨rfl, he _⟩)
    refine ⟨r, s, h1, h2, fun w => ?_⟩
    have e1 : (parts.map fun (i, x) => (i, ρ x)) = (parts.toList.map fun p => (p.1, ρ p.2)).toArray := by
      rw [← Array.toArray_toList (xs := Array.map _ parts)]
      simp
    simp only [execOp, ho]
    rw [e1, Sem.run_bind, h3 w]
    rfl
  · rename_i t x lo hi mx
    obtain ⟨r, s, h1, h2, h3⟩ := sliceC_sound h (he x) (OR.map he lo) (OR.map he hi) (OR.map he mx)
    exact ⟨r, s, h1, h2, fun w => by simp only [execOp, ho]; rw [Sem.run_bind, h3 w]; rfl⟩
  · rename_i t x i
    obtain ⟨r, s, h1, h2, h3⟩ := indexAddrC_sound h (he x) (he i)
    exact ⟨r, s, h1, h2, fun w => by simp only [execOp, ho]; rw [Sem.run_bind, h3 w]; rfl⟩
  · rename_i t x i
    obtain ⟨r, s, h1, h2, h3⟩ := indexC_sound h (he x) (he i)
    exact ⟨r, s, h1, h2, fun w => by simp only [execOp, ho]; rw [Sem.run_bind, h3 w]; rfl⟩
  · rename_i s x f
    obtain ⟨r, s, h1, h2, h3⟩ := fieldAddrC_sound h (he x)
    exact ⟨r, s, h1, h2, fun w => by simp only [execOp, ho]; rw [Sem.run_bind, h3 w]; rfl⟩
  · rename_i s x f
    obtain ⟨r, s, h1, h2, h3⟩ := fieldC_sound h (he x)
    exact ⟨r, s, h1, h2, fun w => by simp only [execOp, ho]; rw [Sem.run_bind, h3 w]; rfl⟩
  · -- nilCheck
    rename_i x
    have hx := he x
    split at h <;> try exact h.elim
    all_goals (rename_i hb; rw [hb] at hx; generalize hρ : ρ x = rx at hx; cases hx)
    · rename_i L hL
      exact ⟨_, _, h, .ptr _ hL, fun w => by simp [execOp, ho, hρ]⟩
    · rename_i hv
      exact ⟨_, _, h, .iface hv, fun w => by simp [execOp, ho, hρ]⟩
  · -- sliceToArrayPointer
    rename_i arr x
    have hx := he x
    split at h <;> try exact h.elim
    rename_i xx id off len esz hb
    rw [hb] at hx
    generalize hρ : ρ x = rx at hx
    split at h <;> try exact h.elim
    rename_i n e ht
    obtain ⟨⟨h0, h1⟩, h⟩ := h
    cases hx with
    | empty => omega
    | slice hL hc hx hl =>
      refine ⟨_, _, h, .ptr _ hL, fun w => ?_⟩
      have := hx (.inr (by omega))
      simp [execOp, ho, hρ, Instr.arrayAt, run_underlying ht, this]
      omega
  · -- makeFunc
    rename_i fn first cap
    split at h <;> try exact h.elim
    obtain ⟨rfl, h⟩ := h
    refine ⟨_, .func (.func _) #[] (cap.map ρ), h, .func (by simp) (fun i h1 h2 => by simp; exact he _), fun w => by simp [execOp, ho, Instr.makeFunc]⟩
  · -- makeInterface
    rename_i t x
    split at h
    · exact h.elim
    · exact h.elim
    · rename_i h1 h2
      refine ⟨_, _, h, .iface (he x), fun w => ?_⟩
      cases ht : P.underlying t with
      | none => exact (h2 ht).elim
      | some d =>
        simp only [execOp, ho, Instr.makeInterface, Sem.run_bind, run_underlying ht, Result.andThen_ok]
        cases d <;> first | exact (h1 _ ht).elim | rfl
  · -- builtins
    rename_i c
    split at h
    · rename_i hc
      split at h <;> try exact h.elim
      rename_i x t ha hat
      obtain ⟨r, s, h1, h2, h3⟩ := lenC_sound h (he x) o.type
      refine ⟨r, s, h1, h2, fun w => ?_⟩
      have ha' : c.args = #[x] := by rw [← Array.toArray_toList (xs := c.args), ha]
      have hat' : c.argTypes = #[t] := by rw [← Array.toArray_toList (xs := c.argTypes), hat]
      simp [execOp, ho, resolve, hc, invoke, builtin, ha', hat', h3 w]
    · rename_i hc
      split at h <;> try exact h.elim
      rename_i x y ha
      have ha' : c.args = #[x, y] := by rw [← Array.toArray_toList (xs := c.args), ha]
      have hx := he x
      have hy := he y
      split at h <;> try exact h.elim
      rename_i e1 e2
      rw [e1] at hx
      rw [e2] at hy
      generalize hρ : ρ x = rx at hx
      generalize hρ' : ρ y = ry at hy
      cases hx; cases hy
      exact ⟨_, _, h, .int _ _, fun w => by simp [execOp, ho, resolve, hc, invoke, builtin, ha', hρ, hρ', Builtin.min_, Builtin.min2]⟩
    · rename_i hc
      split at h <;> try exact h.elim
      rename_i x y ha
      have ha' : c.args = #[x, y] := by rw [← Array.toArray_toList (xs := c.args), ha]
      have hx := he x
      have hy := he y
      split at h <;> try exact h.elim
      rename_i e1 e2
      rw [e1] at hx
      rw [e2] at hy
      generalize hρ : ρ x = rx at hx
      generalize hρ' : ρ y = ry at hy
      cases hx; cases hy
      exact ⟨_, _, h, .int _ _, fun w => by simp [execOp, ho, resolve, hc, invoke, builtin, ha', hρ, hρ', Builtin.max_, Builtin.max2]⟩
    · rename_i hc
      split at h <;> try exact h.elim
      rename_i x t ha hat
      obtain ⟨r, s, h1, h2, h3⟩ := capC_sound h (he x) o.type
      refine ⟨r, s, h1, h2, fun w => ?_⟩
      have ha' : c.args = #[x] := by rw [← Array.toArray_toList (xs := c.args), ha]
      have hat' : c.argTypes = #[t] := by rw [← Array.toArray_toList (xs := c.argTypes), hat]
      simp [execOp, ho, resolve, hc, invoke, builtin, ha', hat', h3 w]
    · exact h.elim
  · exact h.elim
end
end Go.Proofs.Ytopiceaeombefaa.Sy

namespace Go.Proofs.Ytopiceaeombefaa.Sy
open Go Go.RowKit

section
variable {ι κ : Type}

mutual
def AV.map (f : ι → κ) : AV ι → AV κ
  | .undef => .undef
  | .bool b => .bool b
  | .int k n => .int k n
  | .str s => .str s
  | .nilptr => .nilptr
  | .ptr id off => .ptr (f id) off
  | .nilslice => .nilslice
  | .slice x id off len esz => .slice x (f id) off len esz
  | .ints k l => .ints k l
  | .agg l => .agg (AV.mapL f l)
  | .tuple l => .tuple (AV.mapL f l)
  | .nilfunc => .nilfunc
  | .func g l => .func g (AV.mapL f l)
  | .niliface => .niliface
  | .iface t v => .iface t (AV.map f v)
  | .nilmap => .nilmap
  | .map_ id => .map_ (f id)
  | .slc id off len cap esz => .slc (f id) off len cap esz
def AV.mapL (f : ι → κ) : List (AV ι) → List (AV κ)
  | [] => []
  | v :: r => AV.map f v :: AV.mapL f r
end

theorem AV.mapL_eq (f : ι → κ) (l : List (AV ι)) : AV.mapL f l = l.map (AV.map f) := by
  induction l with
  | nil => rfl
  | cons v l ih => simp only [AV.mapL, List.map_cons, ih]

theorem VR.map {A : ι → Option Loc} {A' : κ → Option Loc} {f : ι → κ} (hA : ∀ id L, A id = some L → A' (f id) = some L) {v : AV ι} {u : Value} (h : VR A v u) : VR A' (v.map f) u := by
  induction h with
  | undef v => exact .undef v
  | bool b => exact .bool b
  | int k n => exact .int k n
  | str s => exact .str s
  | nilptr => exact .nilptr
  | ptr off h => exact .ptr off (hA _ _ h)
  | nilslice => exact .nilslice
  | empty x off esz h => exact .empty x off esz (hA _ _ h)
  | slice h hc hx hl => exact .slice (hA _ _ h) hc hx hl
  | ints k l => exact .ints k l
  | agg hl h ho ih =>
    simp only [AV.map, AV.mapL_eq]
    exact .agg (by simpa using hl) (fun i h1 h2 => by simpa using ih i (by simpa using h1) h2) ho
  | tuple hl h ih =>
    simp only [AV.map, AV.mapL_eq]
    exact .tuple (by simpa using hl) (fun i h1 h2 => by simpa using ih i (by simpa using h1) h2)
  | nilfunc => exact .nilfunc
  | func hl h ih =>
    simp only [AV.map, AV.mapL_eq]
    exact .func (by simpa using hl) (fun i h1 h2 => by simpa using ih i (by simpa using h1) h2)
  | niliface => exact .niliface
  | iface h ih => exact .iface ih
  | nilmap => exact .nilmap
  | map_ h => exact .map_ (hA _ _ h)
  | slc h hc hl => exact .slc (hA _ _ h) hc hl

def Row.map (f : ι → κ) : Row ι → Row κ
  | .ints k l => .ints k l
  | .mixed l => .mixed (AV.mapL f l)
  | .frz k l => .frz k l
  | .obj v => .obj (AV.map f v)
theorem Row.flat_map (f : ι → κ) (r : Row ι) : (r.map f).flat = r.flat := by cases r <;> rfl
theorem Row.kd_map (f : ι → κ) (r : Row ι) : (r.map f).kd = r.kd := by cases r <;> rfl
theorem Row.hot_map (f : ι → κ) (r : Row ι) : (r.map f).hot = r.hot := by cases r <;> rfl

theorem Row.get?_map (f : ι → κ) (r : Row ι) (j : Nat) : (r.map f).get? j = (r.get? j).map (AV.map f) := by
  cases r with
  | ints k l => simp only [Row.map, Row.get?, Option.map_map]; rfl
  | mixed l => simp only [Row.map, Row.get?, AV.mapL_eq, List.getElem?_map]
  | frz k l => simp only [Row.map, Row.get?, Option.map_map]; rfl
  | obj v => simp only [Row.map, Row.get?]; split <;> rfl
theorem Row.len_map (f : ι → κ) (r : Row ι) : (r.map f).len = r.len := by
  cases r with
  | ints k l => rfl
  | mixed l => simp [Row.map, Row.len, AV.mapL_eq]
  | frz k l => rfl
  | obj v => rfl
end

abbrev Rows (α : Type) := List (Option (Row (Id α)))

/-- What does not change during a call. E: rows that are read; re: where; rm: where the rows lie that may be changed; w0: the world at the beginning. -/
structure Cx (α : Type) where
  E : α → Option (Row α)
  re : α → Option Loc
  rm : List Loc
  w0 : World

section
variable {α : Type}

def Cx.addr (c : Cx α) (ro : List Loc) : Id α → Option Loc
  | .own k => ro[k]?
  | .ext x => c.re x

def look (E : α → Option (Row α)) (rows : Rows α) : Id α → Option (Row (Id α))
  | .own k => rows[k]?.join
  | .ext x => (E x).map (Row.map .ext)

/-- What a map, or a step through a map, holds, as one value. -/
def entVal (e : MapEntry) : Value := .tuple #[e.key, e.val, .int .i64 e.born]
def objVal : Obj → Option Value
  | .map es clock => some (.func (.func clock) #[] (es.map entVal))
  | .mapIter (some m) since seen last => some (.iface 0 (.tuple #[.pointer (some ⟨m, 0, none⟩), .int .i64 since, .int .i64 last, .agg (seen.map fun (n : Nat) => Value.int .i64 (n : Int))]))
  | _ => none
/-- A cell of a row; an object's one cell is what it holds. -/
def vcell? (w : World) (flat : Bool) (a : Addr) : Option Value := match flat with
  | true => w.cell? a
  | false => if a.off = 0 then (match w.heap[a.block]? with | some o => objVal o | none => none) else none
structure CxOk (c : Cx α) : Prop where
  ext : ∀ x r, c.E x = some r → ∃ L, c.re x = some L ∧ ∀ j v, r.get? j = some v → ∃ u, vcell? c.w0 r.flat (L.at j) = some u ∧ CR c.re v u
  apart : ∀ x r L, c.E x = some r → c.re x = some L → 0 < r.len → ∀ M ∈ c.rm, M.lim ≠ 0 → L.b ≠ M.b

/-- The block of a row. -/
def Cel (w : World) (b : Nat) (cs : Array Value) (ty : TypeId) : Kd → Prop
  | .hot => w.heap[b]? = some (.cells cs ty (0, 0))
  | .cold => ∃ fz, w.heap[b]? = some (.cells cs ty fz)
  | .obj => ∃ o v, w.heap[b]? = some o ∧ objVal o = some v ∧ cs = #[v]
theorem Cel.cells {w : World} {b : Nat} {cs : Array Value} {ty : TypeId} {k : Kd} (h : Cel w b cs ty k) (hk : k ≠ .obj) : ∃ fz, w.heap[b]? = some (.cells cs ty fz) ∧ (k = .hot → fz = (0, 0)) := by
  cases k with
  | hot => exact ⟨_, h, fun _ => rfl⟩
  | cold => obtain ⟨fz, h⟩ := h; exact ⟨fz, h, fun h => by cases h⟩
  | obj => exact absurd rfl hk
theorem Cel.lt {w : World} {b : Nat} {cs : Array Value} {ty : TypeId} {k : Kd} (h : Cel w b cs ty k) : b < w.heap.size := by
  cases k with
  | hot => exact (Array.getElem?_eq_some_iff.1 h).1
  | cold => obtain ⟨_, h⟩ := h; exact (Array.getElem?_eq_some_iff.1 h).1
  | obj => obtain ⟨_, _, h, _⟩ := h; exact (Array.getElem?_eq_some_iff.1 h).1
theorem Cel.of {w w' : World} {b : Nat} {cs : Array Value} {ty : TypeId} {k : Kd} (h : Cel w b cs ty k) (he : w'.heap[b]? = w.heap[b]?) : Cel w' b cs ty k := by
  cases k with
  | hot => exact he.trans h
  | cold => obtain ⟨fz, h⟩ := h; exact ⟨fz, he.trans h⟩
  | obj => obtain ⟨o, v, h, h2⟩ := h; exact ⟨o, v, he.trans h, h2⟩
theorem Cel.weak {w : World} {b : Nat} {cs : Array Value} {ty : TypeId} {k k' : Kd} (h : Cel w b cs ty k) (hh : k' = k ∨ (k' = .cold ∧ k = .hot)) : Cel w b cs ty k' := by
  rcases hh with rfl | ⟨rfl, rfl⟩
  · exact h
  · exact ⟨_, h⟩
theorem vcell?_lt {w : World} {flat : Bool} {a : Addr} {u : Value} (h : vcell? w flat a = some u) : a.block < w.heap.size := by
  cases flat with
  | true => exact World.block_lt_of_cell? _ _ h
  | false =>
    unfold vcell? at h
    simp only at h
    split at h
    · split at h
      · rename_i ho; exact (Array.getElem?_eq_some_iff.1 ho).1
      · cases h
    · cases h
theorem vcell?_of {w w' : World} {flat : Bool} {a : Addr} (h : w'.heap[a.block]? = w.heap[a.block]?) : vcell? w' flat a = vcell? w flat a := by
  cases flat with
  | true => exact World.cell?_of_block h
  | false => unfold vcell?; simp only; rw [h]
theorem Cel.vcell {ι : Type} {w : World} {b : Nat} {cs : Array Value} {ty : TypeId} {r : Row ι} (h : Cel w b cs ty r.kd) {j : Nat} {u : Value} (hj : j < r.len) (hu : cs[j]? = some u) : vcell? w r.flat ⟨b, j, none⟩ = some u := by
  cases r with
  | obj v =>
    obtain ⟨o, v', h1, h2, rfl⟩ := h
    have : j = 0 := by simp only [Row.len] at hj; omega
    subst this
    simp at hu
    subst hu
    show (if 0 = 0 then (match w.heap[b]? with | some o => objVal o | none => none) else none) = _
    rw [if_pos rfl, h1]
    exact h2
  | _ =>
    obtain ⟨fz, h1, _⟩ := h.cells (by simp [Row.kd])
    show w.cell? _ = _
    simp [World.cell?, h1, hu]

structure Sim (c : Cx α) (ro : List Loc) (rows : Rows α) (w : World) : Prop where
  len : ro.length = rows.length
  os : w.os = c.w0.os
  tape : w.tape = c.w0.tape
  output : w.output = c.w0.output
  size : c.w0.heap.size ≤ w.heap.size
  frame : ∀ b, b < c.w0.heap.size → (∀ M ∈ c.rm, M.lim ≠ 0 → b ≠ M.b) → w.heap[b]? = c.w0.heap[b]?
  own : ∀ (k : Nat) (r : Row (Id α)), rows[k]? = some (some r) → ∃ L : Loc, ro[k]? = some L ∧ L.base = 0 ∧ r.len ≤ L.lim ∧
    (L.lim ≠ 0 → ∃ (cs : Array Value) (ty : TypeId), Cel w L.b cs ty r.kd ∧ cs.size = L.lim ∧ ∀ j v, r.get? j = some v → ∃ u, cs[j]? = some u ∧ CR (c.addr ro) v u)
  inj : ∀ (k k' : Nat) (r r' : Row (Id α)) (L L' : Loc), k ≠ k' → rows[k]? = some (some r) → rows[k']? = some (some r') → ro[k]? = some L → ro[k']? = some L' → L.lim ≠ 0 → L'.lim ≠ 0 → L.b ≠ L'.b
  fra : ∀ (k : Nat) (L : Loc), ro[k]? = some L → L.lim ≠ 0 → c.w0.heap.size ≤ L.b ∨ ∃ M ∈ c.rm, M.lim ≠ 0 ∧ M.b = L.b

theorem Sim.fresh {c : Cx α} {ro : List Loc} {rows : Rows α} {w : World} (h : Sim c ro rows w) (k : Nat) (r : Row (Id α)) (L : Loc) (_ : rows[k]? = some (some r)) (hL : ro[k]? = some L) (z : L.lim ≠ 0) : c.w0.heap.size ≤ L.b ∨ ∃ M ∈ c.rm, M.lim ≠ 0 ∧ M.b = L.b := h.fra k L hL z
theorem snoc_get {ro : List Loc} {L M : Loc} {k : Nat} (h : (ro ++ [L])[k]? = some M) : ro[k]? = some M ∨ M = L := by
  rcases Nat.lt_or_ge k ro.length with h1 | h1
  · rw [List.getElem?_append_left h1] at h; exact .inl h
  · rw [List.getElem?_append_right h1] at h
    have : k - ro.length = 0 := by have := (List.getElem?_eq_some_iff.1 h).1; simp at this; omega
    rw [this] at h
    exact .inr (by simpa using h.symm)
theorem addr_push (c : Cx α) (ro : List Loc) (L : Loc) : ∀ id M, c.addr ro id = some M → c.addr (ro ++ [L]) id = some M := by
  intro id M h
  cases id with
  | own k =>
    simp only [Cx.addr] at h ⊢
    rw [List.getElem?_append_left (List.getElem?_eq_some_iff.1 h).1]
    exact h
  | ext x => exact h

theorem Sim.kp {c : Cx α} {ro : List Loc} {rows : Rows α} {w w' : World} (h : Sim c ro rows w) (hk : Kp w w') : Sim c ro rows w' where
  len := h.len
  os := hk.os.trans h.os
  tape := hk.tape.trans h.tape
  output := hk.output.trans h.output
  size := Nat.le_trans h.size hk.size
  frame := fun b hb hm => (hk.block b (Nat.lt_of_lt_of_le hb h.size)).trans (h.frame b hb hm)
  own := fun k r hr => by
    obtain ⟨L, h1, h2, h3, h4⟩ := h.own k r hr
    refine ⟨L, h1, h2, h3, fun h0 => ?_⟩
    obtain ⟨cs, ty, h5, h6, h7⟩ := h4 h0
    exact ⟨cs, ty, h5.of (hk.block L.b h5.lt), h6, h7⟩
  inj := h.inj
  fra := h.fra

/-- A cell of a row that is known. -/
theorem Sim.cell {c : Cx α} {ro : List Loc} {rows : Rows α} {w : World} (hc : CxOk c) (h : Sim c ro rows w) {id : Id α} {r : Row (Id α)} (hl : look c.E rows id = some r) :
    ∃ L, c.addr ro id = some L ∧ ∀ j v, r.get? j = some v → ∃ u, vcell? w r.flat (L.at j) = some u ∧ CR (c.addr ro) v u := by
  cases id with
  | own k =>
    have hr : rows[k]? = some (some r) := by
      simp only [look] at hl
      cases hk : rows[k]? with
      | none => rw [hk] at hl; cases hl
      | some o => rw [hk] at hl; simp only [Option.join] at hl; cases o <;> simp_all
    obtain ⟨L, h1, h2, h3, h4⟩ := h.own k r hr
    refine ⟨L, h1, fun j v hv => ?_⟩
    have hj := Row.get?_lt hv
    obtain ⟨cs, ty, h5, h6, h7⟩ := h4 (by omega)
    obtain ⟨u, hu, hcr⟩ := h7 j v hv
    refine ⟨u, ?_, hcr⟩
    have := h5.vcell hj hu
    simpa [Loc.at, h2] using this
  | ext x =>
    simp only [look, Option.map_eq_some_iff] at hl
    obtain ⟨r0, hr0, rfl⟩ := hl
    obtain ⟨L, h1, h2⟩ := hc.ext x r0 hr0
    refine ⟨L, h1, fun j v hv => ?_⟩
    rw [Row.get?_map, Option.map_eq_some_iff] at hv
    obtain ⟨v0, hv0, rfl⟩ := hv
    obtain ⟨u, hu, hcr, ho⟩ := h2 j v0 hv0
    have hb := vcell?_lt hu
    refine ⟨u, ?_, VR.map (A' := c.addr ro) (f := Id.ext) (fun id L h => h) hcr, ho⟩
    rw [Row.flat_map, ← hu]
    exact vcell?_of (h.frame L.b hb fun M hM hz => hc.apart x r0 L hr0 h1 (by have := Row.get?_lt hv0; omega) M hM hz)

theorem Sim.cellF {c : Cx α} {ro : List Loc} {rows : Rows α} {w : World} (hc : CxOk c) (h : Sim c ro rows w) {id : Id α} {r : Row (Id α)} (hl : look c.E rows id = some r) (hf : r.flat = true) :
    ∃ L, c.addr ro id = some L ∧ ∀ j v, r.get? j = some v → ∃ u, w.cell? (L.at j) = some u ∧ CR (c.addr ro) v u := by
  obtain ⟨L, h1, h2⟩ := h.cell hc hl
  rw [hf] at h2
  exact ⟨L, h1, h2⟩
/-- One more name. -/
theorem last_split {rows : Rows α} {r : Row (Id α)} {k : Nat} {r' : Row (Id α)} (hk : (rows ++ [some r])[k]? = some (some r')) : (k < rows.length ∧ rows[k]? = some (some r')) ∨ (k = rows.length ∧ r' = r) := by
  rcases Nat.lt_or_ge k rows.length with hlt | hge
  · rw [List.getElem?_append_left hlt] at hk; exact .inl ⟨hlt, hk⟩
  · rw [List.getElem?_append_right hge] at hk
    have hlt : k - rows.length < 1 := by have := (List.getElem?_eq_some_iff.1 hk).1; simpa using this
    have : k = rows.length := by omega
    subst this
    simp at hk
    exact .inr ⟨rfl, hk.symm⟩
theorem last_lt {ro : List Loc} {L M : Loc} {k : Nat} (h : k < ro.length) (hM : (ro ++ [L])[k]? = some M) : ro[k]? = some M := by
  rwa [List.getElem?_append_left h] at hM
theorem last_eq {ro : List Loc} {L : Loc} {n : Nat} (h : ro.length = n) : (ro ++ [L])[n]? = some L := by
  subst h; simp

/-- A new row. -/
theorem Sim.push {c : Cx α} {ro : List Loc} {rows : Rows α} {w : World} (h : Sim c ro rows w) (r : Row (Id α)) (cs : Array Value) (ty : TypeId)
    (hr : ∀ j v, r.get? j = some v → ∃ u, cs[j]? = some u ∧ CR (c.addr ro) v u) (hfl : r.kd = .hot ∨ r.kd = .cold := by first | exact .inl rfl | exact .inr rfl | assumption) :
    Sim c (ro ++ [⟨w.heap.size, 0, cs.size⟩]) (rows ++ [some r]) (w.alloc (.cells cs ty)) := by
  have mono := addr_push c ro ⟨w.heap.size, 0, cs.size⟩
  have hold : ∀ k, k < w.heap.size → (w.alloc (.cells cs ty)).heap[k]? = w.heap[k]? := fun k hk => Below.heap_alloc _ _ _ hk
  have hlt : ∀ (k : Nat) (r1 : Row (Id α)) (L : Loc), rows[k]? = some (some r1) → ro[k]? = some L → L.lim ≠ 0 → L.b < w.heap.size := by
    intro k r1 L hk hL h0
    obtain ⟨L1, e1, _, _, e4⟩ := h.own k r1 hk
    rw [hL] at e1; cases e1
    obtain ⟨cs1, ty1, e5, _⟩ := e4 h0
    exact e5.lt
  have hrl : r.len ≤ cs.size := by
    rcases Nat.eq_zero_or_pos r.len with h0 | h0
    · omega
    · obtain ⟨u, hu, _⟩ := hr (r.len - 1) _ (Row.get?_cell (by omega))
      have := (Array.getElem?_eq_some_iff.1 hu).1
      omega
  exact {
    len := by simp [h.len]
    os := h.os, tape := h.tape, output := h.output
    size := by rw [World.size_alloc]; have := h.size; omega
    frame := fun b hb hm => (hold b (Nat.lt_of_lt_of_le hb h.size)).trans (h.frame b hb hm)
    own := fun k r' hk => by
      rcases last_split hk with ⟨hkl, hk⟩ | ⟨rfl, rfl⟩
      · obtain ⟨L, h1, h2, h3, h4⟩ := h.own k r' hk
        refine ⟨L, ?_, h2, h3, fun h0 => ?_⟩
        · rw [List.getElem?_append_left (List.getElem?_eq_some_iff.1 h1).1]; exact h1
        · obtain ⟨cs1, ty1, h5, h6, h7⟩ := h4 h0
          refine ⟨cs1, ty1, ?_, h6, fun j v hv => ?_⟩
          · exact h5.of (hold L.b h5.lt)
          · obtain ⟨u, hu, hcr⟩ := h7 j v hv
            exact ⟨u, hu, hcr.mono mono⟩
      · refine ⟨_, last_eq h.len, rfl, hrl, fun _ => ⟨cs, ty, (by rcases hfl with h | h <;> rw [h]; exact heap_alloc_new w _; exact ⟨_, heap_alloc_new w _⟩), rfl, fun j v hv => ?_⟩⟩
        obtain ⟨u, hu, hcr⟩ := hr j v hv
        exact ⟨u, hu, hcr.mono mono⟩
    inj := fun k k' r1 r2 L1 L2 hne hk hk' hL hL' z1 z2 => by
      rcases last_split hk with ⟨hkl, hk1⟩ | ⟨rfl, rfl⟩
      · have g1 := last_lt (by rw [h.len]; exact hkl) hL
        rcases last_split hk' with ⟨hkl', hk2⟩ | ⟨rfl, rfl⟩
        · exact h.inj k k' r1 r2 L1 L2 hne hk1 hk2 g1 (last_lt (by rw [h.len]; exact hkl') hL') z1 z2
        · rw [last_eq h.len] at hL'; cases hL'
          have := hlt k r1 L1 hk1 g1 z1
          simp; omega
      · rw [last_eq h.len] at hL; cases hL
        rcases last_split hk' with ⟨hkl', hk2⟩ | ⟨rfl, rfl⟩
        · have g2 := last_lt (by rw [h.len]; exact hkl') hL'
          have := hlt k' r2 L2 hk2 g2 z2
          simp; omega
        · exact absurd rfl hne
    fra := fun k L hL z => by
      rcases snoc_get hL with hL | rfl
      · exact h.fra k L hL z
      · exact .inl h.size }

theorem Sim.pushObj {c : Cx α} {ro : List Loc} {rows : Rows α} {w : World} (h : Sim c ro rows w) (ob : Obj) (x : AV (Id α)) (y : Value) (hob : objVal ob = some y) (hxy : CR (c.addr ro) x y) :
    Sim c (ro ++ [⟨w.heap.size, 0, 1⟩]) (rows ++ [some (.obj x)]) (w.alloc ob) := by
  have hr : ∀ j v, (Row.obj x).get? j = some v → ∃ u, (#[y] : Array Value)[j]? = some u ∧ CR (c.addr ro) v u := fun j v hv => by
    simp only [Row.get?] at hv
    split at hv
    · cases hv; subst_vars; exact ⟨y, rfl, hxy⟩
    · cases hv
  have mono := addr_push c ro ⟨w.heap.size, 0, 1⟩
  have hold : ∀ k, k < w.heap.size → (w.alloc ob).heap[k]? = w.heap[k]? := fun k hk => Below.heap_alloc _ _ _ hk
  have hlt : ∀ (k : Nat) (r1 : Row (Id α)) (L : Loc), rows[k]? = some (some r1) → ro[k]? = some L → L.lim ≠ 0 → L.b < w.heap.size := by
    intro k r1 L hk hL h0
    obtain ⟨L1, e1, _, _, e4⟩ := h.own k r1 hk
    rw [hL] at e1; cases e1
    obtain ⟨cs1, ty1, e5, _⟩ := e4 h0
    exact e5.lt
  have hrl : (Row.obj x).len ≤ 1 := Nat.le_refl _
  exact {
    len := by simp [h.len]
    os := h.os, tape := h.tape, output := h.output
    size := by rw [World.size_alloc]; have := h.size; omega
    frame := fun b hb hm => (hold b (Nat.lt_of_lt_of_le hb h.size)).trans (h.frame b hb hm)
    own := fun k r' hk => by
      rcases last_split hk with ⟨hkl, hk⟩ | ⟨rfl, rfl⟩
      · obtain ⟨L, h1, h2, h3, h4⟩ := h.own k r' hk
        refine ⟨L, ?_, h2, h3, fun h0 => ?_⟩
        · rw [List.getElem?_append_left (List.getElem?_eq_some_iff.1 h1).1]; exact h1
        · obtain ⟨cs1, ty1, h5, h6, h7⟩ := h4 h0
          refine ⟨cs1, ty1, ?_, h6, fun j v hv => ?_⟩
          · exact h5.of (hold L.b h5.lt)
          · obtain ⟨u, hu, hcr⟩ := h7 j v hv
            exact ⟨u, hu, hcr.mono mono⟩
      · refine ⟨_, last_eq h.len, rfl, hrl, fun _ => ⟨#[y], 0, ⟨ob, y, heap_alloc_new w _, hob, rfl⟩, rfl, fun j v hv => ?_⟩⟩
        obtain ⟨u, hu, hcr⟩ := hr j v hv
        exact ⟨u, hu, hcr.mono mono⟩
    inj := fun k k' r1 r2 L1 L2 hne hk hk' hL hL' z1 z2 => by
      rcases last_split hk with ⟨hkl, hk1⟩ | ⟨rfl, rfl⟩
      · have g1 := last_lt (by rw [h.len]; exact hkl) hL
        rcases last_split hk' with ⟨hkl', hk2⟩ | ⟨rfl, rfl⟩
        · exact h.inj k k' r1 r2 L1 L2 hne hk1 hk2 g1 (last_lt (by rw [h.len]; exact hkl') hL') z1 z2
        · rw [last_eq h.len] at hL'; cases hL'
          have := hlt k r1 L1 hk1 g1 z1
          simp; omega
      · rw [last_eq h.len] at hL; cases hL
        rcases last_split hk' with ⟨hkl', hk2⟩ | ⟨rfl, rfl⟩
        · have g2 := last_lt (by rw [h.len]; exact hkl') hL'
          have := hlt k' r2 L2 hk2 g2 z2
          simp; omega
        · exact absurd rfl hne
    fra := fun k L hL z => by
      rcases snoc_get hL with hL | rfl
      · exact h.fra k L hL z
      · exact .inl h.size }

/-- A new row without a cell: it needs no block. -/
theorem Sim.pushNone {c : Cx α} {ro : List Loc} {rows : Rows α} {w : World} (h : Sim c ro rows w) (r : Row (Id α)) (hr : r.len = 0) (b : Nat) :
    Sim c (ro ++ [⟨b, 0, 0⟩]) (rows ++ [some r]) w := by
  have mono := addr_push c ro ⟨b, 0, 0⟩
  exact {
    len := by simp [h.len]
    os := h.os, tape := h.tape, output := h.output, size := h.size, frame := h.frame
    own := fun k r' hk => by
      rcases last_split hk with ⟨hkl, hk⟩ | ⟨rfl, rfl⟩
      · obtain ⟨L, h1, h2, h3, h4⟩ := h.own k r' hk
        refine ⟨L, ?_, h2, h3, fun h0 => ?_⟩
        · rw [List.getElem?_append_left (List.getElem?_eq_some_iff.1 h1).1]; exact h1
        · obtain ⟨cs1, ty1, h5, h6, h7⟩ := h4 h0
          exact ⟨cs1, ty1, h5, h6, fun j v hv => let ⟨u, hu, hcr⟩ := h7 j v hv; ⟨u, hu, hcr.mono mono⟩⟩
      · exact ⟨_, last_eq h.len, rfl, by omega, fun h0 => absurd rfl h0⟩
    inj := fun k k' r1 r2 L1 L2 hne hk hk' hL hL' z1 z2 => by
      rcases last_split hk with ⟨hkl, hk1⟩ | ⟨rfl, rfl⟩
      · rcases last_split hk' with ⟨hkl', hk2⟩ | ⟨rfl, rfl⟩
        · exact h.inj k k' r1 r2 L1 L2 hne hk1 hk2 (last_lt (by rw [h.len]; exact hkl) hL) (last_lt (by rw [h.len]; exact hkl') hL') z1 z2
        · rw [last_eq h.len] at hL'; cases hL'; exact absurd rfl z2
      · rw [last_eq h.len] at hL; cases hL; exact absurd rfl z1
    fra := fun k L hL z => by
      rcases snoc_get hL with hL | rfl
      · exact h.fra k L hL z
      · exact absurd rfl z }

/-- Rows are forgotten, or parts of them. -/
theorem Sim.less {c : Cx α} {ro : List Loc} {rows rows' : Rows α} {w : World} (h : Sim c ro rows w) (hl : rows'.length = rows.length)
    (hs : ∀ (j : Nat) (r : Row (Id α)), rows'[j]? = some (some r) → ∃ r0, rows[j]? = some (some r0) ∧ r.len ≤ r0.len ∧ (∀ i v, r.get? i = some v → r0.get? i = some v) ∧ (r.kd = r0.kd ∨ (r.kd = .cold ∧ r0.kd = .hot))) : Sim c ro rows' w where
  len := by rw [hl]; exact h.len
  os := h.os
  tape := h.tape
  output := h.output
  size := h.size
  frame := h.frame
  own := fun j r hj => by
    obtain ⟨r0, h0, h1, h2, h3⟩ := hs j r hj
    obtain ⟨L, g1, g2, g3, g4⟩ := h.own j r0 h0
    refine ⟨L, g1, g2, by omega, fun hz => ?_⟩
    obtain ⟨cs, ty, g5, g6, g7⟩ := g4 hz
    exact ⟨cs, ty, g5.weak h3, g6, fun i v hv => g7 i v (h2 i v hv)⟩
  inj := fun j j' r r' L L' hne hj hj' => by
    obtain ⟨r0, h0, _⟩ := hs j r hj
    obtain ⟨r1, h1, _⟩ := hs j' r' hj'
    exact h.inj j j' r0 r1 L L' hne h0 h1
  fra := h.fra

theorem Row.hot_kd {ι : Type} {r : Row ι} (h : r.hot = true) : r.kd = .hot := by cases r <;> first | rfl | cases h
/-- The cells of an own row are written anew. -/
theorem Sim.setRow {c : Cx α} {ro : List Loc} {rows : Rows α} {w : World} (h : Sim c ro rows w) {k : Nat} {r : Row (Id α)} (hk : rows[k]? = some (some r)) {L : Loc} (hL : ro[k]? = some L) (h0 : L.lim ≠ 0) (hhot : r.hot = true)
    (r' : Row (Id α)) (cs' : Array Value) (hsz : cs'.size = L.lim) (hr : ∀ j v, r'.get? j = some v → ∃ u, cs'[j]? = some u ∧ CR (c.addr ro) v u) (hhot' : r'.kd = .hot := by first | rfl | assumption) :
    Sim c ro (rows.set k (some r')) (w.setRow L.b cs') := by
  obtain ⟨L0, e1, e2, e3, e4⟩ := h.own k r hk
  rw [hL] at e1; cases e1
  obtain ⟨cs, ty, e5, e6, e7⟩ := e4 h0
  have hlt : k < rows.length := (List.getElem?_eq_some_iff.1 hk).1
  have hrl : r'.len ≤ L.lim := by
    rcases Nat.eq_zero_or_pos r'.len with h0 | h0
    · omega
    · obtain ⟨u, hu, _⟩ := hr (r'.len - 1) _ (Row.get?_cell (by omega))
      have := (Array.getElem?_eq_some_iff.1 hu).1
      omega
  have hs : ∀ (j : Nat) (r1 : Row (Id α)), (rows.set k (some r'))[j]? = some (some r1) → (j = k ∧ r1 = r') ∨ (j ≠ k ∧ rows[j]? = some (some r1)) := by
    intro j r1 hj
    by_cases hjk : j = k
    · subst hjk; rw [List.getElem?_set_self hlt] at hj; simp at hj; exact .inl ⟨rfl, hj.symm⟩
    · rw [List.getElem?_set_ne (Ne.symm hjk)] at hj; exact .inr ⟨hjk, hj⟩
  have hs' : ∀ (j : Nat) (r1 : Row (Id α)), (rows.set k (some r'))[j]? = some (some r1) → ∃ r0, rows[j]? = some (some r0) := by
    intro j r1 hj
    rcases hs j r1 hj with ⟨rfl, _⟩ | ⟨_, h⟩
    · exact ⟨r, hk⟩
    · exact ⟨r1, h⟩
  exact {
    len := by simp [h.len]
    os := h.os, tape := h.tape, output := h.output
    size := by rw [setRow_size]; exact h.size
    frame := fun b hb hm => by
      rw [setRow_other]
      · exact h.frame b hb hm
      · intro hbe
        subst hbe
        rcases h.fresh k r L hk hL h0 with h1 | ⟨M, hM, hz, h1⟩
        · omega
        · exact hm M hM hz h1.symm
    own := fun j r1 hj => by
      rcases hs j r1 hj with ⟨rfl, rfl⟩ | ⟨hne, hj⟩
      · exact ⟨L, hL, e2, hrl, fun _ => ⟨cs', ty, by rw [hhot']; rw [Row.hot_kd hhot] at e5; exact setRow_heap w L.b cs cs' ty _ e5, hsz, hr⟩⟩
      · obtain ⟨L1, h1, h2, h3, h4⟩ := h.own j r1 hj
        refine ⟨L1, h1, h2, h3, fun hz => ?_⟩
        obtain ⟨cs1, ty1, h5, h6, h7⟩ := h4 hz
        exact ⟨cs1, ty1, h5.of (setRow_other _ _ _ _ (h.inj j k r1 r L1 L hne hj hk h1 hL hz h0)), h6, h7⟩
    inj := fun j j' r1 r2 L1 L2 hne hj hj' => by
      obtain ⟨r3, h3⟩ := hs' j r1 hj
      obtain ⟨r4, h4⟩ := hs' j' r2 hj'
      exact h.inj j j' r3 r4 L1 L2 hne h3 h4
    fra := h.fra }

/-- A block is written anew. -/
def setBlk (w : World) (b : Nat) (o : Obj) : World := { w with heap := w.heap.setIfInBounds b o }
theorem setBlk_same (w : World) (b : Nat) (o : Obj) (h : b < w.heap.size) : (setBlk w b o).heap[b]? = some o := by simp [setBlk, h]
theorem setBlk_other (w : World) (b k : Nat) (o : Obj) (h : k ≠ b) : (setBlk w b o).heap[k]? = w.heap[k]? := by simp [setBlk, Array.getElem?_setIfInBounds_ne (Ne.symm h)]
theorem setBlk_size (w : World) (b : Nat) (o : Obj) : (setBlk w b o).heap.size = w.heap.size := by simp [setBlk]
theorem Sim.setObj {c : Cx α} {ro : List Loc} {rows : Rows α} {w : World} (h : Sim c ro rows w) {k : Nat} {x0 : AV (Id α)} (hk : rows[k]? = some (some (.obj x0))) {L : Loc} (hL : ro[k]? = some L) (ob : Obj) (x : AV (Id α)) (y : Value) (hob : objVal ob = some y) (hxy : CR (c.addr ro) x y) :
    Sim c ro (rows.set k (some (.obj x))) (setBlk w L.b ob) := by
  obtain ⟨r', hr'⟩ : ∃ r' : Row (Id α), r' = .obj x := ⟨_, rfl⟩
  rw [← hr']
  have h0 : L.lim ≠ 0 := by
    obtain ⟨L0, e1, _, e3, _⟩ := h.own k _ hk
    rw [hL] at e1; cases e1
    simp only [Row.len] at e3
    omega
  obtain ⟨r, hr0⟩ : ∃ r : Row (Id α), r = .obj x0 := ⟨_, rfl⟩
  rw [← hr0] at hk
  obtain ⟨L0, e1, e2, e3, e4⟩ := h.own k r hk
  rw [hL] at e1; cases e1
  obtain ⟨cs, ty, e5, e6, e7⟩ := e4 h0
  have hlt : k < rows.length := (List.getElem?_eq_some_iff.1 hk).1
  have hrl : r'.len ≤ L.lim := by rw [hr']; simp only [Row.len]; omega
  have hb : L.b < w.heap.size := e5.lt
  have hsz1 : L.lim = 1 := by
    rw [hr0] at e5
    obtain ⟨_, _, _, _, e9⟩ := e5
    rw [e9] at e6
    exact e6.symm
  have hs : ∀ (j : Nat) (r1 : Row (Id α)), (rows.set k (some r'))[j]? = some (some r1) → (j = k ∧ r1 = r') ∨ (j ≠ k ∧ rows[j]? = some (some r1)) := by
    intro j r1 hj
    by_cases hjk : j = k
    · subst hjk; rw [List.getElem?_set_self hlt] at hj; simp at hj; exact .inl ⟨rfl, hj.symm⟩
    · rw [List.getElem?_set_ne (Ne.symm hjk)] at hj; exact .inr ⟨hjk, hj⟩
  have hs' : ∀ (j : Nat) (r1 : Row (Id α)), (rows.set k (some r'))[j]? = some (some r1) → ∃ r0, rows[j]? = some (some r0) := by
    intro j r1 hj
    rcases hs j r1 hj with ⟨rfl, _⟩ | ⟨_, h⟩
    · exact ⟨r, hk⟩
    · exact ⟨r1, h⟩
  exact {
    len := by simp [h.len]
    os := h.os, tape := h.tape, output := h.output
    size := by rw [setBlk_size]; exact h.size
    frame := fun b hb hm => by
      rw [setBlk_other]
      · exact h.frame b hb hm
      · intro hbe
        subst hbe
        rcases h.fresh k r L hk hL h0 with h1 | ⟨M, hM, hz, h1⟩
        · omega
        · exact hm M hM hz h1.symm
    own := fun j r1 hj => by
      rcases hs j r1 hj with ⟨rfl, rfl⟩ | ⟨hne, hj⟩
      · exact ⟨L, hL, e2, hrl, fun _ => ⟨#[y], ty, by subst hr'; exact ⟨ob, y, setBlk_same w L.b ob hb, hob, rfl⟩, by simp [hsz1], fun j v hv => by
          subst hr'
          simp only [Row.get?] at hv
          split at hv
          · cases hv; subst_vars; exact ⟨y, rfl, hxy⟩
          · cases hv⟩⟩
      · obtain ⟨L1, h1, h2, h3, h4⟩ := h.own j r1 hj
        refine ⟨L1, h1, h2, h3, fun hz => ?_⟩
        obtain ⟨cs1, ty1, h5, h6, h7⟩ := h4 hz
        exact ⟨cs1, ty1, h5.of (setBlk_other _ _ _ _ (h.inj j k r1 r L1 L hne hj hk h1 hL hz h0)), h6, h7⟩
    inj := fun j j' r1 r2 L1 L2 hne hj hj' => by
      obtain ⟨r3, h3⟩ := hs' j r1 hj
      obtain ⟨r4, h4⟩ := hs' j' r2 hj'
      exact h.inj j j' r3 r4 L1 L2 hne h3 h4
    fra := h.fra }

/-- An own row goes on under a new name. -/
theorem Sim.rename {c : Cx α} {ro : List Loc} {rows : Rows α} {w : World} (h : Sim c ro rows w) {k : Nat} {r : Row (Id α)} (hk : rows[k]? = some (some r)) {L : Loc} (hL : ro[k]? = some L) :
    Sim c (ro ++ [L]) (rows.set k none ++ [some r]) w := by
  have mono := addr_push c ro L
  have hlt : k < rows.length := (List.getElem?_eq_some_iff.1 hk).1
  have hlen' : (rows.set k none).length = rows.length := by simp
  have hs : ∀ (j : Nat) (r1 : Row (Id α)), (rows.set k none ++ [some r])[j]? = some (some r1) → (j = rows.length ∧ r1 = r) ∨ (j < rows.length ∧ j ≠ k ∧ rows[j]? = some (some r1)) := by
    intro j r1 hj
    rcases last_split hj with ⟨hj1, hj2⟩ | ⟨h1, h2⟩
    · by_cases hjk : j = k
      · subst hjk; rw [List.getElem?_set_self hlt] at hj2; simp at hj2
      · rw [List.getElem?_set_ne (Ne.symm hjk)] at hj2
        exact .inr ⟨by rw [hlen'] at hj1; exact hj1, hjk, hj2⟩
    · exact .inl ⟨by rw [hlen'] at h1; exact h1, h2⟩
  have hro : ∀ (j : Nat) (M : Loc), j < rows.length → (ro ++ [L])[j]? = some M → ro[j]? = some M := fun j M hj hM => last_lt (by rw [h.len]; exact hj) hM
  exact {
    len := by simp [h.len]
    os := h.os, tape := h.tape, output := h.output, size := h.size, frame := h.frame
    own := fun j r1 hj => by
      rcases hs j r1 hj with ⟨rfl, rfl⟩ | ⟨hj1, hj2, hj3⟩
      · obtain ⟨L1, g1, g2, g3, g4⟩ := h.own k r1 hk
        rw [hL] at g1; cases g1
        refine ⟨L, last_eq h.len, g2, g3, fun hz => ?_⟩
        obtain ⟨cs1, ty1, g5, g6, g7⟩ := g4 hz
        exact ⟨cs1, ty1, g5, g6, fun i v hv => let ⟨u, hu, hcr⟩ := g7 i v hv; ⟨u, hu, hcr.mono mono⟩⟩
      · obtain ⟨L1, g1, g2, g3, g4⟩ := h.own j r1 hj3
        refine ⟨L1, ?_, g2, g3, fun hz => ?_⟩
        · rw [List.getElem?_append_left (by rw [h.len]; exact hj1)]; exact g1
        · obtain ⟨cs1, ty1, g5, g6, g7⟩ := g4 hz
          exact ⟨cs1, ty1, g5, g6, fun i v hv => let ⟨u, hu, hcr⟩ := g7 i v hv; ⟨u, hu, hcr.mono mono⟩⟩
    inj := fun j j' r1 r2 L1 L2 hne hj hj' hL1 hL2 => by
      rcases hs j r1 hj with ⟨rfl, rfl⟩ | ⟨a1, a2, a3⟩
      · rw [last_eq h.len] at hL1; cases hL1
        rcases hs j' r2 hj' with ⟨rfl, rfl⟩ | ⟨b1, b2, b3⟩
        · exact absurd rfl hne
        · exact h.inj k j' _ _ L L2 (Ne.symm b2) hk b3 hL (hro j' L2 b1 hL2)
      · have c1 := hro j L1 a1 hL1
        rcases hs j' r2 hj' with ⟨rfl, rfl⟩ | ⟨b1, b2, b3⟩
        · rw [last_eq h.len] at hL2; cases hL2
          exact h.inj j k _ _ L1 L a2 a3 hk c1 hL
        · exact h.inj j j' _ _ L1 L2 hne a3 b3 c1 (hro j' L2 b1 hL2)
    fra := fun j L1 hL1 => by
      rcases snoc_get hL1 with hL1 | rfl
      · exact h.fra j L1 hL1
      · exact h.fra k _ hL }
end
end Go.Proofs.Ytopiceaeombefaa.Sy

namespace Go.Proofs.Ytopiceaeombefaa.Sy
open Go Go.RowKit

section
variable {ι : Type}

def sizeV : AV ι → Nat
  | .ints _ l => l.length
  | .agg l => l.length
  | _ => 1
def vcell : AV ι → Nat → Option (AV ι)
  | .ints k l, i => l[i]?.map (AV.int k)
  | .agg l, i => l[i]?
  | v, i => if i = 0 then some v else none

def storeRow (r : Row ι) (off : Nat) (v : AV ι) (C : Row ι → Prop) : Prop :=
  match r, v with
  | .ints k l, .int k' n => k' = k ∧ off < l.length ∧ C (.ints k (l.set off n))
  | .ints k l, .ints k' l' => k' = k ∧ off + l'.length ≤ l.length ∧ C (.ints k (splice l off l'))
  | .mixed l, .agg l' => off + l'.length ≤ l.length ∧ C (.mixed (splice l off l'))
  | .mixed l, v => scalar v = true ∧ off < l.length ∧ C (.mixed (l.set off v))
  | _, _ => False

theorem VR_cells {A : ι → Option Loc} {v : AV ι} {u : Value} (h : VR A v u) (hs : scalar v = true ∨ (∃ k l, v = .ints k l) ∨ (∃ l, v = .agg l)) :
    u.cells.size = sizeV v ∧ (∀ x ∈ u.cells.toList, x.oneCell' = true) ∧ ∀ i x, vcell v i = some x → ∃ y, u.cells[i]? = some y ∧ CR A x y := by
  rcases hs with hs | ⟨k, l, rfl⟩ | ⟨l, rfl⟩
  · obtain ⟨h1, h2⟩ := VR_scalar h hs
    rw [h1]
    have hz : sizeV v = 1 := by cases v <;> first | rfl | simp [scalar] at hs
    refine ⟨by simp [hz], by simp [h2], fun i x hx => ?_⟩
    have : vcell v i = if i = 0 then some v else none := by cases v <;> first | rfl | simp [scalar] at hs
    rw [this] at hx
    split at hx
    · subst_vars; cases hx; exact ⟨u, rfl, h, h2⟩
    · cases hx
  · cases h
    refine ⟨by simp [Value.cells, sizeV], ?_, fun i x hx => ?_⟩
    · simp [Value.cells, Value.oneCell']
    · simp only [vcell, Option.map_eq_some_iff] at hx
      obtain ⟨n, hn, rfl⟩ := hx
      exact ⟨.int k n, by simp [Value.cells, hn], .int _ _, rfl⟩
  · cases h with
    | agg hl hv ho =>
      refine ⟨by simp [Value.cells, sizeV, hl], ?_, fun i x hx => ?_⟩
      · intro x hx
        simp only [Value.cells] at hx
        obtain ⟨i, hi, rfl⟩ := List.mem_iff_getElem.1 hx
        simpa using ho i (by simpa using hi)
      · simp only [vcell] at hx
        obtain ⟨h1, rfl⟩ := List.getElem?_eq_some_iff.1 hx
        have h2 := h1
        rw [hl] at h2
        exact ⟨_, by simp only [Value.cells]; exact Array.getElem?_eq_getElem h2, hv i h1 h2, ho i h2⟩

theorem storeRow_spec {r : Row ι} {off : Nat} {v : AV ι} {C : Row ι → Prop} (h : storeRow r off v C) :
    (scalar v = true ∨ (∃ k l, v = .ints k l) ∨ (∃ l, v = .agg l)) ∧ off + sizeV v ≤ r.len ∧ ∃ r', C r' ∧ r'.kd = .hot ∧ ∀ j x, r'.get? j = some x →
      ((j < off ∨ off + sizeV v ≤ j) ∧ r.get? j = some x) ∨ (off ≤ j ∧ j < off + sizeV v ∧ vcell v (j - off) = some x) := by
  unfold storeRow at h
  split at h
  · obtain ⟨rfl, h1, h2⟩ := h
    rename_i l k n
    refine ⟨.inl rfl, by simp [sizeV, Row.len]; omega, _, h2, rfl, fun j x hx => ?_⟩
    simp only [Row.get?, Option.map_eq_some_iff, sizeV] at hx ⊢
    obtain ⟨m, hm, rfl⟩ := hx
    by_cases hj : off = j
    · subst hj
      rw [List.getElem?_set_self h1] at hm
      cases hm
      exact .inr ⟨Nat.le_refl _, by omega, by simp [vcell]⟩
    · rw [List.getElem?_set_ne hj] at hm
      exact .inl ⟨by omega, m, hm, rfl⟩
  · obtain ⟨rfl, h1, h2⟩ := h
    refine ⟨.inr (.inl ⟨_, _, rfl⟩), h1, _, h2, rfl, fun j x hx => ?_⟩
    simp only [Row.get?, Option.map_eq_some_iff, sizeV] at hx ⊢
    obtain ⟨m, hm, rfl⟩ := hx
    rcases splice_get h1 hm with ⟨a, b⟩ | ⟨a, b, c⟩
    · exact .inl ⟨a, m, b, rfl⟩
    · exact .inr ⟨a, b, by simp [vcell, c]⟩
  · obtain ⟨h1, h2⟩ := h
    refine ⟨.inr (.inr ⟨_, rfl⟩), h1, _, h2, rfl, fun j x hx => ?_⟩
    simp only [Row.get?, sizeV] at hx ⊢
    rcases splice_get h1 hx with ⟨a, b⟩ | ⟨a, b, c⟩
    · exact .inl ⟨a, b⟩
    · exact .inr ⟨a, b, by simp [vcell, c]⟩
  · rename_i l _
    obtain ⟨h1, h2, h3⟩ := h
    have hz : sizeV v = 1 := by cases v <;> first | rfl | simp [scalar] at h1
    have hv : ∀ i, vcell v i = if i = 0 then some v else none := by intro i; cases v <;> first | rfl | simp [scalar] at h1
    refine ⟨.inl h1, by simp only [hz, Row.len]; omega, _, h3, rfl, fun j x hx => ?_⟩
    simp only [Row.get?, hz, hv] at hx ⊢
    by_cases hj : off = j
    · subst hj
      rw [List.getElem?_set_self h2] at hx
      exact .inr ⟨Nat.le_refl _, by omega, by simpa using hx⟩
    · rw [List.getElem?_set_ne hj] at hx
      exact .inl ⟨by omega, hx⟩
  · exact h.elim

def intsOf : List Value → Option (IntKind × List Int)
  | [] => none
  | .int k n :: r => (match r with
      | [] => some (k, [n])
      | _ => (match intsOf r with
          | some (k', l) => if k = k' then some (k, n :: l) else none
          | none => none))
  | _ => none
def rowOf (l : List Value) : Row ι := match intsOf l with
  | some (k, l) => .ints k l
  | none => .mixed (l.map ofV)
theorem intsOf_spec : ∀ (l : List Value) (k : IntKind) (m : List Int), intsOf l = some (k, m) → l = m.map (Value.int k)
  | [], k, m, h => by simp [intsOf] at h
  | v :: r, k, m, h => by
    unfold intsOf at h
    split at h
    · cases h
    · rename_i k' n r' he
      simp only [List.cons.injEq] at he
      obtain ⟨rfl, rfl⟩ := he
      split at h
      · simp at h; obtain ⟨rfl, rfl⟩ := h; rfl
      · split at h
        · rename_i k2 l hl
          split at h
          · simp at h
            obtain ⟨rfl, rfl⟩ := h
            subst_vars
            rw [intsOf_spec r _ _ hl]; rfl
          · cases h
        · cases h
    · cases h
theorem rowOf_spec (A : ι → Option Loc) (l : List Value) (ho : ∀ x ∈ l, x.oneCell' = true) (j : Nat) (v : AV ι) (h : (rowOf l).get? j = some v) : ∃ u, l[j]? = some u ∧ CR A v u := by
  unfold rowOf at h
  split at h
  · rename_i k m hm
    have := intsOf_spec _ _ _ hm
    subst this
    simp only [Row.get?, Option.map_eq_some_iff] at h
    obtain ⟨n, hn, rfl⟩ := h
    exact ⟨.int k n, by simp [hn], .int _ _, rfl⟩
  · simp only [Row.get?, List.getElem?_map, Option.map_eq_some_iff] at h
    obtain ⟨u, hu, rfl⟩ := h
    exact ⟨u, hu, ofV_VR A u, ho u (List.mem_of_getElem? hu)⟩

def zrow (P : Program) (t : TypeId) : Option (Row ι) := match zeroCellsOf P t with
  | some z => if oneCells z then some (rowOf z.toList) else none
  | none => none

theorem rowOf_kd (l : List Value) : (rowOf l : Row ι).kd = .hot := by unfold rowOf; split <;> rfl
theorem zrow_kd {P : Program} {t : TypeId} {r : Row ι} (h : zrow P t = some r) : r.kd = .hot := by
  unfold zrow at h
  split at h
  · split at h
    · cases h; exact rowOf_kd _
    · cases h
  · cases h
def Row.subR : Row ι → Nat → Nat → Row ι
  | .ints k l, off, n => .ints k (Sy.sub l off n)
  | .mixed l, off, n => .mixed (Sy.sub l off n)
  | .frz k l, off, n => .ints k (Sy.sub l off n)
  | .obj v, off, n => .mixed (Sy.sub [v] off n)
def rowCat : Row ι → Row ι → Option (Row ι)
  | .ints k l, .ints k' l' => if k = k' then some (.ints k (l ++ l')) else none
  | .mixed l, .mixed l' => some (.mixed (l ++ l'))
  | _, _ => none
def spliceR : Row ι → Nat → Row ι → Option (Row ι)
  | .ints k l, off, .ints k' l' => if k = k' then some (.ints k (splice l off l')) else none
  | .mixed l, off, .mixed l' => some (.mixed (splice l off l'))
  | _, _, _ => none

theorem subR_kd {r : Row ι} {off n : Nat} : (r.subR off n).kd = .hot := by cases r <;> rfl
theorem rowCat_kd {r r' q : Row ι} (h : rowCat r r' = some q) : q.kd = .hot := by
  unfold rowCat at h
  split at h
  · split at h <;> simp at h
    subst h; rfl
  · simp at h; subst h; rfl
  · cases h
theorem spliceR_kd {r r' q : Row ι} {off : Nat} (h : spliceR r off r' = some q) : q.kd = .hot := by
  unfold spliceR at h
  split at h
  · split at h <;> simp at h
    subst h; rfl
  · simp at h; subst h; rfl
  · cases h
theorem Row.hot_flat {r : Row ι} (h : r.hot = true) : r.flat = true := by cases r <;> first | rfl | cases h
theorem sub_get {β : Type} {l : List β} {off n j : Nat} {x : β} (h : (sub l off n)[j]? = some x) : j < n ∧ l[off + j]? = some x := by
  unfold sub at h
  have hj : j < n := by have := (List.getElem?_eq_some_iff.1 h).1; simp at this; omega
  rw [List.getElem?_take_of_lt hj, List.getElem?_drop] at h
  exact ⟨hj, h⟩
theorem length_sub {β : Type} {l : List β} {off n : Nat} (h : off + n ≤ l.length) : (sub l off n).length = n := by simp [sub]; omega
theorem subR_get {r : Row ι} {off n j : Nat} {x : AV ι} (h : (r.subR off n).get? j = some x) : j < n ∧ r.get? (off + j) = some x := by
  cases r with
  | ints k l =>
    simp only [Row.subR, Row.get?, Option.map_eq_some_iff] at h ⊢
    obtain ⟨m, hm, rfl⟩ := h
    obtain ⟨h1, h2⟩ := sub_get hm
    exact ⟨h1, m, h2, rfl⟩
  | mixed l => exact sub_get h
  | frz k l =>
    simp only [Row.subR, Row.get?, Option.map_eq_some_iff] at h ⊢
    obtain ⟨m, hm, rfl⟩ := h
    obtain ⟨h1, h2⟩ := sub_get hm
    exact ⟨h1, m, h2, rfl⟩
  | obj v =>
    obtain ⟨h1, h2⟩ := sub_get h
    refine ⟨h1, ?_⟩
    simp only [Row.get?]
    cases hk : off + j with
    | zero => rw [hk] at h2; simpa using h2
    | succ m => rw [hk] at h2; simp at h2
theorem subR_len {r : Row ι} {off n : Nat} (h : off + n ≤ r.len) : (r.subR off n).len = n := by
  cases r with
  | ints k l => exact length_sub h
  | mixed l => exact length_sub h
  | frz k l => exact length_sub h
  | obj v => exact length_sub (l := [v]) h
theorem rowCat_get {r r' q : Row ι} (h : rowCat r r' = some q) : q.len = r.len + r'.len ∧ ∀ j x, q.get? j = some x → (j < r.len ∧ r.get? j = some x) ∨ (r.len ≤ j ∧ r'.get? (j - r.len) = some x) := by
  unfold rowCat at h
  split at h
  · split at h <;> simp at h
    subst h
    subst_vars
    refine ⟨by simp [Row.len], fun j x hx => ?_⟩
    simp only [Row.get?, Option.map_eq_some_iff, Row.len] at hx ⊢
    obtain ⟨m, hm, rfl⟩ := hx
    rw [List.getElem?_append] at hm
    split at hm
    · exact .inl ⟨by assumption, m, hm, rfl⟩
    · exact .inr ⟨by omega, m, hm, rfl⟩
  · simp at h
    subst h
    refine ⟨by simp [Row.len], fun j x hx => ?_⟩
    simp only [Row.get?, Row.len] at hx ⊢
    rw [List.getElem?_append] at hx
    split at hx
    · exact .inl ⟨by assumption, hx⟩
    · exact .inr ⟨by omega, hx⟩
  · cases h
theorem spliceR_getW {r r' q : Row ι} {off : Nat} (h : spliceR r off r' = some q) (hl : off ≤ r.len) : ∀ j x, q.get? j = some x → ((j < off ∨ off + r'.len ≤ j) ∧ r.get? j = some x) ∨ (off ≤ j ∧ j < off + r'.len ∧ r'.get? (j - off) = some x) := by
  unfold spliceR at h
  split at h
  · split at h <;> simp at h
    subst h
    subst_vars
    simp only [Row.len] at hl
    intro j x hx
    simp only [Row.get?, Option.map_eq_some_iff, Row.len] at hx ⊢
    obtain ⟨m, hm, rfl⟩ := hx
    rcases splice_getW hl hm with ⟨a, b⟩ | ⟨a, b, c⟩
    · exact .inl ⟨a, m, b, rfl⟩
    · exact .inr ⟨a, b, m, c, rfl⟩
  · simp at h
    subst h
    simp only [Row.len] at hl
    intro j x hx
    simp only [Row.get?, Row.len] at hx ⊢
    exact splice_getW hl hx
  · cases h
theorem spliceR_get {r r' q : Row ι} {off : Nat} (h : spliceR r off r' = some q) (hl : off + r'.len ≤ r.len) : q.len = r.len ∧ ∀ j x, q.get? j = some x → ((j < off ∨ off + r'.len ≤ j) ∧ r.get? j = some x) ∨ (off ≤ j ∧ j < off + r'.len ∧ r'.get? (j - off) = some x) := by
  unfold spliceR at h
  split at h
  · split at h <;> simp at h
    subst h
    subst_vars
    simp only [Row.len] at hl
    refine ⟨by simp only [Row.len]; exact length_splice hl, fun j x hx => ?_⟩
    simp only [Row.get?, Option.map_eq_some_iff, Row.len] at hx ⊢
    obtain ⟨m, hm, rfl⟩ := hx
    rcases splice_get hl hm with ⟨a, b⟩ | ⟨a, b, c⟩
    · exact .inl ⟨a, m, b, rfl⟩
    · exact .inr ⟨a, b, m, c, rfl⟩
  · simp at h
    subst h
    simp only [Row.len] at hl
    refine ⟨by simp only [Row.len]; exact length_splice hl, fun j x hx => ?_⟩
    simp only [Row.get?, Row.len] at hx ⊢
    exact splice_get hl hx
  · cases h
end
end Go.Proofs.Ytopiceaeombefaa.Sy

namespace Go.Proofs.Ytopiceaeombefaa.Sy
open Go Go.RowKit

section
variable {ι : Type}

/-- Are two keys the same? none: that is not known here. -/
def keyEq : AV ι → AV ι → Option Bool
  | .int k a, .int k' b => if k = k' then some (a == b) else none
  | .ints k l, .ints k' l' => if k = k' then some (l == l') else none
  | _, _ => none
/-- The entry of a key: its place, its value, its stamp. -/
def findE (key : AV ι) : List (AV ι) → Nat → Option (Option (Nat × AV ι × AV ι))
  | [], _ => some none
  | .tuple [k, v, b] :: r, i => (match keyEq key k with
      | some true => some (some (i, v, b))
      | some false => findE key r (i + 1)
      | none => none)
  | _ :: _, _ => none
def keyOk (P : Program) (t : TypeId) : AV ι → Prop
  | .int k _ => P.underlying t = some (.int k)
  | .ints k l => ∃ e, P.underlying t = some (.array l.length e) ∧ P.underlying e = some (.int k) ∧ P.cellsOf e = 1
  | _ => False
def keysOk (P : Program) (t : TypeId) : List (AV ι) → Prop
  | [] => True
  | .tuple [k, _, _] :: r => keyOk P t k ∧ keysOk P t r
  | _ :: _ => False

variable {P : Program} {A : ι → Option Loc}

/-- An entry. -/
def ER (A : ι → Option Loc) (v : AV ι) (e : MapEntry) : Prop := VR A v (entVal e)
def ERs (A : ι → Option Loc) (l : List (AV ι)) (es : List MapEntry) : Prop := l.length = es.length ∧ ∀ (i : Nat) (h1 : i < l.length) (h2 : i < es.length), ER A l[i] es[i]
theorem ERs.nil : ERs A [] [] := ⟨rfl, fun i h => absurd h (by simp)⟩
theorem ERs.cons {v : AV ι} {l : List (AV ι)} {e : MapEntry} {es : List MapEntry} (h : ERs A (v :: l) (e :: es)) : ER A v e ∧ ERs A l es :=
  ⟨h.2 0 (by simp) (by simp), by have := h.1; simpa using this, fun i h1 h2 => h.2 (i + 1) (by simpa using h1) (by simpa using h2)⟩
theorem ER.of {k v b : AV ι} {e : MapEntry} (h : ER A (.tuple [k, v, b]) e) : VR A k e.key ∧ VR A v e.val ∧ VR A b (.int .i64 e.born) := by
  unfold ER entVal at h
  cases h with
  | tuple hl h => exact ⟨h 0 (by simp) (by simp), h 1 (by simp) (by simp), h 2 (by simp) (by simp)⟩
theorem VR_three {a b c : AV ι} {x y z : Value} (h1 : VR A a x) (h2 : VR A b y) (h3 : VR A c z) : VR A (.tuple [a, b, c]) (.tuple #[x, y, z]) := by
  refine .tuple rfl fun i g1 g2 => ?_
  match i, g1 with
  | 0, _ => exact h1
  | 1, _ => exact h2
  | 2, _ => exact h3
theorem ER.mk {k v b : AV ι} {e : MapEntry} (h1 : VR A k e.key) (h2 : VR A v e.val) (h3 : VR A b (.int .i64 e.born)) : ER A (.tuple [k, v, b]) e := VR_three h1 h2 h3

/-- What the model's search hands back. -/
def gotE (es : List MapEntry) (i : Nat) : Option (Nat × AV ι × AV ι) → Option (Nat × Value)
  | some (j, _, _) => (es[j - i]?).map fun e => (j, e.val)
  | none => none
theorem findNow_nil (d : TypeDesc) (k : Value) (i : Nat) : Instr.findNow d k [] i = some none := rfl

/-- The search of the model, at keys of whole numbers. -/
theorem findNow_int {kk : IntKind} {a : Int} : ∀ {l : List (AV ι)} {es : List MapEntry} {i : Nat} {r : Option (Nat × AV ι × AV ι)}, findE (.int kk a) l i = some r → ERs A l es →
    Instr.findNow (.int kk) (.int kk a) es i = some (gotE es i r) ∧
    (match r with | some (j, v, b) => i ≤ j ∧ ∃ e k, es[j - i]? = some e ∧ l[j - i]? = some (.tuple [k, v, b]) ∧ keyEq (.int kk a) k = some true | none => True)
  | [], [], i, r, h, _ => by
    simp only [findE, Option.some.injEq] at h
    subst h
    exact ⟨rfl, trivial⟩
  | [], _ :: _, _, _, _, hr => by have := hr.1; simp at this
  | _ :: _, [], _, _, _, hr => by have := hr.1; simp at this
  | x :: l, e :: es, i, r, h, hr => by
    obtain ⟨h1, h2⟩ := hr.cons
    cases x with
    | tuple xs =>
      match xs, h, h1 with
      | [k, v, b], h, h1 =>
        obtain ⟨hk, hv, hb⟩ := h1.of
        simp only [findE] at h
        cases k with
        | int k' n =>
          simp only [keyEq] at h
          by_cases hkk : kk = k'
          · subst hkk
            simp only [if_true] at h
            generalize hq : e.key = q at hk
            cases hk
            by_cases han : a = n
            · subst han
              simp only [beq_self_eq_true, Option.some.injEq] at h
              subst h
              simp only [Instr.findNow, hq, Instr.sameNow, if_true, beq_self_eq_true, gotE, Nat.sub_self, List.getElem?_cons_zero, Option.map_some]
              exact ⟨trivial, Nat.le_refl _, e, _, rfl, rfl, by simp [keyEq]⟩
            · have hf : (a == n) = false := by simpa using han
              simp only [hf] at h
              obtain ⟨g1, g2⟩ := findNow_int h h2
              simp only [Instr.findNow, hq, Instr.sameNow, if_true, hf]
              rw [g1]
              cases r with
              | none => exact ⟨rfl, trivial⟩
              | some t =>
                obtain ⟨j, v', b'⟩ := t
                obtain ⟨h3, e', k', h4, h5, h6⟩ := g2
                have hj : j - i = (j - (i + 1)) + 1 := by omega
                refine ⟨?_, by omega, e', k', ?_, ?_, h6⟩
                · simp only [gotE, hj, List.getElem?_cons_succ]
                · rw [hj, List.getElem?_cons_succ]; exact h4
                · rw [hj, List.getElem?_cons_succ]; exact h5
          · simp [hkk] at h
        | _ => simp [keyEq] at h
      | [], h, _ => simp [findE] at h
      | [_], h, _ => simp [findE] at h
      | [_, _], h, _ => simp [findE] at h
      | _ :: _ :: _ :: _ :: _, h, _ => simp [findE] at h
    | _ => simp [findE] at h

theorem eq_ints {t e : TypeId} {kk : IntKind} {l l' : List Int} (ht : P.underlying t = some (.array l.length e)) (he : P.underlying e = some (.int kk)) (h1 : P.cellsOf e = 1) (hl : l'.length = l.length) (w : World) :
    (Op.equal t (.agg (l.map (.int kk)).toArray) (.agg (l'.map (.int kk)).toArray)).run P w = .ok (l == l') w := by
  obtain ⟨i, hi⟩ := info_of he
  unfold Op.equal
  show (Op.equalIn (9999 + 1) t _ _).run P w = _
  rw [run_equalIn_array w 9999 _ _ ht hi, run_eqItems_ints he h1 9998 l l' w (List.range l.length) (by intro j hj; rw [List.mem_range] at hj; omega)]
  rw [all_range_eq l l' hl.symm]

/-- The same at keys that are rows of whole numbers. -/
theorem findAsking_ints {t : TypeId} {kk : IntKind} {q : List Int} (hk0 : keyOk P t (.ints kk q : AV ι)) (w : World) : ∀ {l : List (AV ι)} {es : List MapEntry} {i : Nat} {r : Option (Nat × AV ι × AV ι)}, findE (.ints kk q) l i = some r → keysOk P t l → ERs A l es →
    (Instr.findAsking t (.agg (q.map (.int kk)).toArray) es i).run P w = .ok (gotE es i r) w ∧
    (match r with | some (j, v, b) => i ≤ j ∧ ∃ e k, es[j - i]? = some e ∧ l[j - i]? = some (.tuple [k, v, b]) ∧ keyEq (.ints kk q) k = some true | none => True)
  | [], [], i, r, h, _, _ => by
    simp only [findE, Option.some.injEq] at h
    subst h
    exact ⟨by simp [Instr.findAsking, gotE], trivial⟩
  | [], _ :: _, _, _, _, _, hr => by have := hr.1; simp at this
  | _ :: _, [], _, _, _, _, hr => by have := hr.1; simp at this
  | x :: l, e :: es, i, r, h, hko, hr => by
    obtain ⟨h1, h2⟩ := hr.cons
    cases x with
    | tuple xs =>
      match xs, h, h1, hko with
      | [k, v, b], h, h1, hko =>
        obtain ⟨hk, hv, hb⟩ := h1.of
        obtain ⟨hko1, hko2⟩ := hko
        simp only [findE] at h
        cases k with
        | ints k' n =>
          simp only [keyEq] at h
          by_cases hkk : kk = k'
          · subst hkk
            simp only [if_true] at h
            obtain ⟨el, g1, g2, g3⟩ := hk0
            obtain ⟨el', g1', g2', g3'⟩ := hko1
            rw [g1] at g1'
            have hln : n.length = q.length := by
              simp only [Option.some.injEq, TypeDesc.array.injEq] at g1'
              exact g1'.1.symm
            generalize hq : e.key = qq at hk
            cases hk
            have he := eq_ints (P := P) g1 g2 g3 hln w
            by_cases han : q = n
            · subst han
              simp only [beq_self_eq_true, Option.some.injEq] at h
              subst h
              simp only [Instr.findAsking, hq, Sem.run_bind, he, Result.andThen_ok, beq_self_eq_true, if_true, Sem.run_pure, gotE, Nat.sub_self, List.getElem?_cons_zero, Option.map_some]
              exact ⟨trivial, Nat.le_refl _, e, _, rfl, rfl, by simp [keyEq]⟩
            · have hf : (q == n) = false := by simpa using han
              simp only [hf] at h
              obtain ⟨g4, g5⟩ := findAsking_ints ⟨el, g1, g2, g3⟩ w h hko2 h2
              simp only [Instr.findAsking, hq, Sem.run_bind, he, Result.andThen_ok, hf, Bool.false_eq_true, if_false]
              rw [g4]
              cases r with
              | none => exact ⟨rfl, trivial⟩
              | some t =>
                obtain ⟨j, v', b'⟩ := t
                obtain ⟨h3, e', k', h4, h5, h6⟩ := g5
                have hj : j - i = (j - (i + 1)) + 1 := by omega
                refine ⟨?_, by omega, e', k', ?_, ?_, h6⟩
                · simp only [gotE, hj, List.getElem?_cons_succ]
                · rw [hj, List.getElem?_cons_succ]; exact h4
                · rw [hj, List.getElem?_cons_succ]; exact h5
          · simp [hkk] at h
        | _ => simp [keyEq] at h
      | [], h, _, _ => simp [findE] at h
      | [_], h, _, _ => simp [findE] at h
      | [_, _], h, _, _ => simp [findE] at h
      | _ :: _ :: _ :: _ :: _, h, _, _ => simp [findE] at h
    | _ => simp [findE] at h

/-- The search of a map's key. -/
theorem findKey_ok {t : TypeId} {k : AV ι} {u : Value} (hk0 : keyOk P t k) (hu : VR A k u) (w : World) {l : List (AV ι)} {es : List MapEntry} {r : Option (Nat × AV ι × AV ι)} (h : findE k l 0 = some r) (hko : keysOk P t l) (hr : ERs A l es) :
    (Instr.findKey t u es).run P w = .ok (gotE es 0 r) w ∧
    (match r with | some (j, v, b) => ∃ e k', es[j]? = some e ∧ l[j]? = some (.tuple [k', v, b]) ∧ keyEq k k' = some true | none => True) := by
  cases k with
  | int kk a =>
    cases hu
    obtain ⟨g1, g2⟩ := findNow_int h hr
    have ht : P.underlying t = some (.int kk) := hk0
    simp only [Instr.findKey, Sem.run_bind, run_underlying ht, Result.andThen_ok, g1, Sem.run_pure]
    refine ⟨trivial, ?_⟩
    cases r with
    | none => trivial
    | some x => obtain ⟨j, v, b⟩ := x; simpa using g2.2
  | ints kk q =>
    cases hu
    obtain ⟨g1, g2⟩ := findAsking_ints hk0 w h hko hr
    obtain ⟨el, h1, h2, h3⟩ := hk0
    rw [run_findKey_eq w (by rw [h1])]
    rw [g1]
    refine ⟨rfl, ?_⟩
    cases r with
    | none => trivial
    | some x => obtain ⟨j, v, b⟩ := x; simpa using g2.2
  | _ => exact hk0.elim

theorem checkKey_int {t : TypeId} {kk : IntKind} (ht : P.underlying t = some (.int kk)) (a : Int) (em : Bool) (n : Nat) (w : World) : (Instr.checkKey em (n + 1) t (.int kk a)).run P w = .ok () w := by
  simp [Instr.checkKey, run_underlying ht]
/-- A key of these kinds is a key. -/
theorem checkKey_any {t : TypeId} {k : AV ι} {u : Value} (hk0 : keyOk P t k) (hu : VR A k u) (em : Bool) (n : Nat) (w : World) : (Instr.checkKey em (n + 1 + 1) t u).run P w = .ok () w := by
  cases k with
  | int kk a =>
    cases hu
    exact checkKey_int hk0 _ _ _ _
  | ints kk q =>
    cases hu
    obtain ⟨el, h1, h2, h3⟩ := hk0
    rw [Instr.checkKey]
    simp only [Sem.run_bind, run_underlying h1, Result.andThen_ok]
    simp only [Std.Legacy.Range.forIn_eq_forIn_range', Std.Legacy.Range.size, Nat.sub_zero, Nat.add_one_sub_one, Nat.div_one]
    have each : ∀ j ∈ List.range' 0 q.length, j < q.length := fun j hj => by rw [List.mem_range'_1] at hj; omega
    generalize List.range' 0 q.length = is at each
    induction is with
    | nil => simp
    | cons j is ih =>
      have hj := each j (by simp)
      have p1 : (q.map (Value.int kk)).toArray[j * 1]? = some (.int kk q[j]) := by simp [List.getElem?_eq_getElem hj]
      have p2 : (Instr.checkKey em (n + 1) el (.int kk q[j])).run P w = .ok () w := checkKey_int h2 _ _ _ _
      simp only [List.forIn_cons, Sem.run_bind, run_size h2, h3, part_one h2 _ _ _ p1, Result.andThen_ok, p2, Sem.run_pure]
      exact ih (fun y hy => each y (by simp [hy]))
  | _ => exact hk0.elim
theorem checkKey_ok {t : TypeId} {k : AV ι} {u : Value} (hk0 : keyOk P t k) (hu : VR A k u) (em : Bool) (w : World) : (Instr.checkKey em 10000 t u).run P w = .ok () w := checkKey_any hk0 hu em 9998 w
theorem sameBits_ok {k k' : AV ι} {u u' : Value} (h : keyEq k k' = some true) (hu : VR A k u) (hu' : VR A k' u') : u = u' ∧ Instr.sameBits 10000 u' u = true := by
  cases k with
  | int kk a =>
    cases k' with
    | int kk' b =>
      cases hu; cases hu'
      simp only [keyEq] at h
      split at h
      · simp at h; subst_vars; simp [Instr.sameBits]
      · cases h
    | _ => simp [keyEq] at h
  | ints kk q =>
    cases k' with
    | ints kk' q' =>
      cases hu; cases hu'
      simp only [keyEq] at h
      split at h
      · simp at h; subst_vars
        refine ⟨rfl, ?_⟩
        rw [show (10000 : Nat) = 9999 + 1 from rfl]
        simp only [Instr.sameBits, beq_self_eq_true, Bool.true_and, List.all_eq_true]
        intro p hp
        obtain ⟨x, y⟩ := p
        have hxy : x = y := by
          have := List.of_mem_zip hp
          have h2 : ∀ {l : List Value} {x y : Value}, (x, y) ∈ l.zip l → x = y := by
            intro l
            induction l with
            | nil => intro x y h; simp at h
            | cons a l ih => intro x y h; simp only [List.zip_cons_cons, List.mem_cons, Prod.mk.injEq] at h; rcases h with ⟨rfl, rfl⟩ | h; rfl; exact ih h
          exact h2 hp
        subst hxy
        have hx := (List.of_mem_zip hp).1
        simp only [List.mem_map] at hx
        obtain ⟨n, _, rfl⟩ := hx
        simp [Instr.sameBits]
      · cases h
    | _ => simp [keyEq] at h
  | _ => simp [keyEq] at h

/-- The zero value of a type. -/
def avOf (v : Value) : Option (AV ι) := match v with
  | .agg cs => (match intsOf cs.toList with
      | some (k, l) => some (.ints k l)
      | none => if oneCells cs then some (.agg (cs.toList.map ofV)) else none)
  | .tuple _ => none
  | v => some (ofV v)
def zeroAV (P : Program) (t : TypeId) : Option (AV ι) := match P.info? t with
  | some i => i.zero.bind avOf
  | none => none
theorem avOf_VR {v : Value} {a : AV ι} (h : avOf v = some a) : VR A a v := by
  unfold avOf at h
  split at h
  · rename_i cs
    split at h
    · rename_i k l hl
      cases h
      have := intsOf_spec _ _ _ hl
      have h2 : cs = (l.map (Value.int k)).toArray := by rw [← this]
      rw [h2]
      exact .ints _ _
    · split at h
      · rename_i ho
        cases h
        unfold oneCells at ho
        rw [Array.all_eq_true] at ho
        exact .agg (by simp) (fun i h1 h2 => by simp; exact ofV_VR A _) (fun i h2 => ho i h2)
      · cases h
  · cases h
  · cases h; exact ofV_VR A _
theorem zeroAV_run {t : TypeId} {a : AV ι} (h : zeroAV P t = some a) (w : World) : ∃ v, (zeroValue t).run P w = .ok v w ∧ VR A a v := by
  unfold zeroAV at h
  split at h
  · rename_i i hi
    obtain ⟨v, hv, ha⟩ := Option.bind_eq_some_iff.1 h
    exact ⟨v, by simp [zeroValue, typeInfo, hi, hv], avOf_VR ha⟩
  · cases h
end
end Go.Proofs.Ytopiceaeombefaa.Sy

namespace Go.Proofs.Ytopiceaeombefaa.Sy
open Go Go.RowKit

section
variable {α : Type} (P : Program) (E : α → Option (Row α))

/-- The bytes of a string. -/
def bstr (l : List Int) : ByteArray := l.foldl (fun r n => r.push (UInt8.ofNat n.toNat)) ByteArray.empty
def strC (s d : TypeId) (x : AV (Id α)) (rows : Rows α) (C : AV (Id α) → Prop) : Prop :=
  match P.underlying s with
  | some (.slice e) => P.underlying e = some (.int .u8) ∧ P.underlying d = some .string ∧ (match x with
      | .nilslice => C (.str (bstr []))
      | .slice _ id off n esz => (match look E rows id with
          | some r => (match r with
              | .ints k l => k = .u8 ∧ esz = 1 ∧ off + n ≤ l.length ∧ C (.str (bstr (Sy.sub l off n)))
              | .frz k l => k = .u8 ∧ esz = 1 ∧ off + n ≤ l.length ∧ C (.str (bstr (Sy.sub l off n)))
              | _ => False)
          | none => False)
      | _ => False)
  | _ => False

/-- What a search in a map hands back. -/
def okV (b : Bool) (v : AV (Id α)) (ok : Bool) : AV (Id α) := match b with | true => .tuple [v, .bool ok] | false => v
def lookupC (t : TypeId) (m k : AV (Id α)) (b : Bool) (rows : Rows α) (C : AV (Id α) → Prop) : Prop :=
  match P.underlying t with
  | some (.map kt et) => keyOk P kt k ∧ (match m with
      | .nilmap => (match zeroAV P et with | some z => C (okV b z false) | none => False)
      | .map_ id => (match look E rows id with
          | some (.obj (.func _ l)) => keysOk P kt l ∧ (match findE k l 0 with
              | some (some (_, v, _)) => C (okV b v true)
              | some none => (match zeroAV P et with | some z => C (okV b z false) | none => False)
              | none => False)
          | _ => False)
      | _ => False)
  | _ => False
def mlenC (t : TypeId) (x : AV (Id α)) (rows : Rows α) (C : AV (Id α) → Prop) : Prop :=
  match P.underlying t with
  | some (.map _ _) => (match x with
      | .nilmap => C (.int .i64 0)
      | .map_ id => (match look E rows id with
          | some (.obj (.func _ l)) => C (.int .i64 l.length)
          | _ => False)
      | _ => False)
  | _ => False
def readC (rows : Rows α) (op : Op) (e : Operand → AV (Id α)) (C : AV (Id α) → Prop) : Prop :=
  match op with
  | .load t a => (match e a with
      | .ptr id off => (match look E rows id with
          | some r => r.flat = true ∧ (P.underlying t).isSome = true ∧ (match isAggT P t with
              | true => off + P.cellsOf t ≤ r.len ∧ (match P.underlying t with
                  | some (.array _ _) => C (r.subN off (P.cellsOf t))
                  | _ => C (r.sub off (P.cellsOf t)))
              | false => off < r.len ∧ C (r.cell off))
          | none => False)
      | _ => False)
  | .convert s d x => strC P E s d (e x) rows C
  | .lookup t m k b => lookupC P E t (e m) (e k) b rows C
  | .call c => (match c.callee, c.args.toList, c.argTypes.toList with | .builtin .len, [x], [t] => mlenC P E t (e x) rows C | _, _, _ => False)
  | _ => False

/-- The value and the rows behind an operation. -/
abbrev Eff (α : Type) := AV (Id α) → Rows α → Prop

def boxRow (v : AV (Id α)) : Option (Row (Id α)) :=
  match v with
  | .ints k l => some (.ints k l)
  | .agg l => some (.mixed l)
  | .int k n => some (.ints k [n])
  | v => if scalar v then some (.mixed [v]) else none

/-- A new slice of elements of several cells. -/
def buildWideC (e : TypeId) (n : Nat) (parts : List (Nat × AV (Id α))) (rows : Rows α) (C : Eff α) : Prop :=
  match zeroCellsOf P e with
  | some z => z.size = P.cellsOf e ∧ 0 < P.cellsOf e ∧ oneCells z = true ∧ n * P.cellsOf e ≤ 16777216 ∧ buildWide (P.cellsOf e) parts ((List.replicate n (z.toList.map ofV)).flatten) fun l => C (.slice true (.own rows.length) 0 n (P.cellsOf e)) (rows ++ [some (.mixed l)])
  | none => False
def buildSliceC (t : TypeId) (n : Nat) (parts : List (Nat × AV (Id α))) (rows : Rows α) (C : Eff α) : Prop :=
  match P.underlying t with
  | some (.slice e) => (match P.underlying e with
      | some (.int k) => P.cellsOf e = 1 ∧ n ≤ 16777216 ∧ zeroCellsOf P e = some #[.int k 0] ∧ buildInts k parts (List.replicate n 0) fun l => C (.slice true (.own rows.length) 0 n 1) (rows ++ [some (.ints k l)])
      | some (.slice _) => P.cellsOf e = 1 ∧ n ≤ 16777216 ∧ zeroCellsOf P e = some #[.slice none 0 0] ∧ buildVals parts (List.replicate n .nilslice) fun l => C (.slice true (.own rows.length) 0 n 1) (rows ++ [some (.mixed l)])
      | some (.array m ee) => (match P.underlying ee with
          | some (.int k) => P.cellsOf e = m ∧ 0 < m ∧ n * m ≤ 16777216 ∧ zeroCellsOf P e = some (Array.replicate m (.int k 0)) ∧ buildRowsI k m parts (List.replicate (n * m) 0) fun l => C (.slice true (.own rows.length) 0 n m) (rows ++ [some (.ints k l)])
          | some (.pointer _) => buildWideC P e n parts rows C
          | _ => False)
      | some (.struct _) => buildWideC P e n parts rows C
      | _ => False)
  | _ => False

def makeSliceC (t : TypeId) (l c : AV (Id α)) (rows : Rows α) (C : Eff α) : Prop :=
  match l, c with
  | .int _ l, .int _ c => (match P.underlying t with
      | some (.slice e) => (P.underlying e).isSome = true ∧ (match zeroCellsOf P e with
          | some z => (match intsOf z.toList with
              | some (k, m) => m = List.replicate (P.cellsOf e) 0 ∧ 0 < P.cellsOf e ∧ (0 ≤ l ∧ l ≤ c ∧ (P.bytesOf e : Int) * c ≤ 281474976710656 ∧ c ≤ 9223372036854775807) ∧
                  C (.slice true (.own rows.length) 0 l.toNat (P.cellsOf e)) (rows ++ [some (.ints k (List.replicate (c.toNat * P.cellsOf e) 0))])
              | none => False)
          | none => False)
      | _ => False)
  | _, _ => False

def storeC (t : TypeId) (a x : AV (Id α)) (rows : Rows α) (C : Eff α) : Prop :=
  match a with
  | .ptr (.own k) off => (match rows[k]? with
      | some (some r) => (P.underlying t).isSome = true ∧ sizeV x = P.cellsOf t ∧ P.cellsOf t ≠ 0 ∧ storeRow r off x fun r' => C .undef (rows.set k (some r'))
      | _ => False)
  | _ => False

def appendC (ts : TypeId) (s x : AV (Id α)) (rows : Rows α) (C : Eff α) : Prop :=
  match P.underlying ts with
  | some (.slice e) => (P.underlying e).isSome = true ∧ (zeroCellsOf P e).isSome = true ∧ (match zeroCellsOf P e with | some z => z.size = P.cellsOf e | none => False) ∧ (match s, x with
      | .nilslice, .nilslice => C .nilslice rows
      | .nilslice, .slice _ id off n esz => (match look E rows id with
          | some r => r.flat = true ∧ esz = P.cellsOf e ∧ off + n * esz ≤ r.len ∧ n * P.bytesOf e ≤ 140737488355328 ∧ n ≤ 9223372036854775807 ∧ C (.slice true (.own rows.length) 0 n esz) (rows ++ [some (r.subR off (n * esz))])
          | none => False)
      | .slice true (.own k) off0 len esz, .slice _ id off n esz' => (match rows[k]? with
          | some (some r) => (match look E rows id with
              | some r2 => r2.flat = true ∧ off0 = 0 ∧ r.hot = true ∧ esz = P.cellsOf e ∧ esz' = esz ∧ len * esz ≤ r.len ∧ off + n * esz ≤ r2.len ∧ (len + n) * P.bytesOf e ≤ 140737488355328 ∧ len + n ≤ 9223372036854775807 ∧
                  (match rowCat (r.subR 0 (len * esz)) (r2.subR off (n * esz)) with
                    | some r3 => C (.slice true (.own rows.length) 0 (len + n) esz) (rows.set k none ++ [some r3])
                    | none => False)
              | none => False)
          | _ => False)
      | .slice true id off0 len esz, .nilslice => C (.slice true id off0 len esz) rows
      | .slc id off0 len cap esz, .slice _ _ _ 0 _ => C (.slc id off0 len cap esz) rows
      | _, _ => False)
  | _ => False

/-- append(nil, make([]T, n)...). -/
def appendZC (ts tx : TypeId) (s x : AV (Id α)) (rows : Rows α) (C : Eff α) : Prop :=
  match P.underlying ts with
  | some (.slice e) => (P.underlying e).isSome = true ∧ (match P.underlying tx with
      | some (.int _) => (match zeroCellsOf P e with
          | some z => (match intsOf z.toList with
              | some (k, m) => m = List.replicate (P.cellsOf e) 0 ∧ 0 < P.cellsOf e ∧ (match s, x with
                  | .nilslice, .int _ n => (0 < n ∧ n * (P.bytesOf e : Int) ≤ 281474976710656 ∧ n ≤ 9223372036854775807) ∧
                      C (.slice true (.own rows.length) 0 n.toNat (P.cellsOf e)) (rows ++ [some (.ints k (List.replicate (n.toNat * P.cellsOf e) 0))])
                  | .slc id off len cap esz, .int _ n => (match look E rows id with
                      | some (.ints k' l) => (k' = k ∧ esz = P.cellsOf e ∧ off + len * esz ≤ l.length) ∧ (0 < n ∧ (cap : Int) < len + n ∧ (len + n) * (P.bytesOf e : Int) ≤ 140737488355328 ∧ len + n ≤ 9223372036854775807) ∧
                          C (.slice true (.own rows.length) 0 (len + n.toNat) esz) (rows ++ [some (.ints k (Sy.sub l off (len * esz) ++ List.replicate (n.toNat * esz) 0))])
                      | _ => False)
                  | _, _ => False)
              | none => False)
          | none => False)
      | _ => False)
  | _ => False

def copyC (td : TypeId) (d x : AV (Id α)) (rows : Rows α) (C : Eff α) : Prop :=
  match P.underlying td with
  | some (.slice e) => (P.underlying e).isSome = true ∧ (match d, x with
      | .slice _ (.own k) off len esz, .slice _ id off2 n esz' => (match rows[k]? with
          | some (some r) => (match look E rows id with
              | some r2 => r2.flat = true ∧ esz = P.cellsOf e ∧ esz' = esz ∧ off + (min n len) * esz ≤ r.len ∧ off2 + (min n len) * esz ≤ r2.len ∧
                  (match spliceR r off (r2.subR off2 ((min n len) * esz)) with
                    | some r3 => C (.int .i64 ((min n len : Nat) : Int)) (rows.set k (some r3))
                    | none => False)
              | none => False)
          | _ => False)
      | .slice _ _ _ _ _, .nilslice => C (.int .i64 0) rows
      | .nilslice, .slice _ _ _ _ _ => C (.int .i64 0) rows
      | .slc (.own k) off len cap esz, x => (match sview x with
          | some (id, off2, n, esz') => (match rows[k]? with
              | some (some r) => (match look E rows id with
                  | some r2 => (r2.flat = true ∧ esz = P.cellsOf e ∧ esz' = esz ∧ off ≤ r.len ∧ 0 < min n len * esz ∧ off2 + (min n len) * esz ≤ r2.len) ∧
                      (match spliceR r off (r2.subR off2 ((min n len) * esz)) with
                        | some r3 => C (.int .i64 ((min n len : Nat) : Int)) (rows.set k (some r3))
                        | none => False)
                  | none => False)
              | _ => False)
          | none => False)
      | _, _ => False)
  | _ => False

/-- clear, of a slice. -/
def clearC (t : TypeId) (x : AV (Id α)) (rows : Rows α) (C : Eff α) : Prop :=
  match P.underlying t with
  | some (.slice e) => (P.underlying e).isSome = true ∧ (match zeroCellsOf P e with
      | some z => (match intsOf z.toList with
          | some (k, m) => m = List.replicate (P.cellsOf e) 0 ∧ 0 < P.cellsOf e ∧ (match x with
              | .nilslice => C (.tuple []) rows
              | .slice _ (.own j) off n esz => (match rows[j]? with
                  | some (some (.ints k' l)) => (k' = k ∧ esz = P.cellsOf e ∧ off + n * esz ≤ l.length) ∧ C (.tuple []) (rows.set j (some (.ints k (splice l off (List.replicate (n * esz) 0)))))
                  | _ => False)
              | _ => False)
          | none => (match x with
              | .slc (.own j) off n _ esz => (match rows[j]? with
                  | some (some (.mixed l)) => (n = 1 ∧ oneCells z = true ∧ z.size = P.cellsOf e ∧ 0 < P.cellsOf e ∧ esz = P.cellsOf e ∧ off + esz ≤ l.length) ∧ C (.tuple []) (rows.set j (some (.mixed (splice l off (z.toList.map ofV)))))
                  | _ => False)
              | _ => False))
      | none => False)
  | _ => False

def mapUpdateC (t : TypeId) (m k v : AV (Id α)) (rows : Rows α) (C : Eff α) : Prop :=
  match P.underlying t with
  | some (.map kt _) => keyOk P kt k ∧ (match m with
      | .map_ (.own j) => (match rows[j]? with
          | some (some (.obj (.func clock l))) => keysOk P kt l ∧ (match findE k l 0 with
              | some (some (i, _, b)) => C .undef (rows.set j (some (.obj (.func clock (l.set i (.tuple [k, v, b]))))))
              | some none => C .undef (rows.set j (some (.obj (.func (clock + 1) (l ++ [.tuple [k, v, .int .i64 clock]])))))
              | none => False)
          | _ => False)
      | _ => False)
  | _ => False
def deleteC (t : TypeId) (m k : AV (Id α)) (rows : Rows α) (C : Eff α) : Prop :=
  match P.underlying t with
  | some (.map kt _) => keyOk P kt k ∧ (match m with
      | .nilmap => C (.tuple []) rows
      | .map_ (.own j) => (match rows[j]? with
          | some (some (.obj (.func clock l))) => keysOk P kt l ∧ (match findE k l 0 with
              | some (some (i, _, _)) => C (.tuple []) (rows.set j (some (.obj (.func clock (l.eraseIdx i)))))
              | some none => C (.tuple []) rows
              | none => False)
          | _ => False)
      | _ => False)
  | _ => False
/-- The row of a map; of a walk through a map. -/
abbrev mapRow {ι : Type} (clock : Nat) (l : List (AV ι)) : Row ι := .obj (.func clock l)
abbrev iterRow {ι : Type} (m : ι) (since last : Nat) (seen : List Int) : Row ι := .obj (.iface 0 (.tuple [.ptr m 0, .int .i64 since, .int .i64 last, .ints .i64 seen]))
def rangeC (t : TypeId) (x : AV (Id α)) (rows : Rows α) (C : Eff α) : Prop :=
  match P.underlying t with
  | some (.map _ _) => (match x with
      | .map_ (.own j) => (match rows[j]? with
          | some (some (.obj (.func clock _))) => C (.ptr (.own rows.length) 0) (rows ++ [some (iterRow (.own j) clock clock [])])
          | _ => False)
      | _ => False)
  | _ => False
/-- The stamps of the entries lie below a bound. -/
def bornB (n : Nat) : List (AV (Id α)) → Prop
  | [] => True
  | .tuple [_, _, .int .i64 b] :: r => b < n ∧ bornB n r
  | _ :: _ => False
def nextC (x : AV (Id α)) (rows : Rows α) (C : Eff α) : Prop :=
  match x with
  | .ptr (.own q) 0 => (match rows[q]? with
      | some (some (.obj (.iface 0 (.tuple [.ptr (.own j) 0, .int .i64 since, .int .i64 last, .ints .i64 seen])))) => (match rows[j]? with
          | some (some (.obj (.func clock l))) => bornB since.toNat l ∧ (0 ≤ since ∧ since ≤ last) ∧
              (∀ (i : Nat) (k v : AV (Id α)) (b : Int), l[i]? = some (AV.tuple [k, v, .int .i64 b]) → b ∉ seen → C (.tuple [.bool true, k, v]) (rows.set q (some (.obj (.iface 0 (.tuple [.ptr (.own j) 0, .int .i64 since, .int .i64 clock, .ints .i64 (seen ++ [b])])))))) ∧
              ((∀ (i : Nat) (k v : AV (Id α)) (b : Int), l[i]? = some (AV.tuple [k, v, .int .i64 b]) → b ∈ seen) → C (.tuple [.bool false]) rows)
          | _ => False)
      | _ => False)
  | _ => False

/-- The entry with a stamp. -/
def entryAt {ι : Type} (b : Int) : List (AV ι) → Option (AV ι × AV ι)
  | [] => none
  | .tuple [k, v, .int .i64 b'] :: r => if b' = b then some (k, v) else entryAt b r
  | _ :: _ => none
def entryC (x : AV (Id α)) (rows : Rows α) (C : Eff α) : Prop :=
  match x with
  | .ptr (.own q) 0 => (match rows[q]? with
      | some (some (.obj (.iface 0 (.tuple [.ptr (.own j) 0, .int .i64 _, .int .i64 last, .ints .i64 seen])))) => (match rows[j]? with
          | some (some (.obj (.func clock l))) => (clock : Int) = last ∧ ∃ b k v, seen.getLast? = some b ∧ entryAt b l = some (k, v) ∧ C (.tuple [k, v]) rows
          | _ => False)
      | _ => False)
  | _ => False

/-- A conversion of bytes of one's own: they may not be written any more. -/
def convC (s d : TypeId) (x : AV (Id α)) (rows : Rows α) (C : Eff α) : Prop :=
  match x with
  | .slice f (.own k) off n esz => (match P.underlying s with
      | some (.slice e) => P.underlying e = some (.int .u8) ∧ s = d ∧ 0 < n ∧ 0 < esz ∧ (match rows[k]? with
          | some (some (.ints kk l)) => off + n * esz ≤ l.length ∧ C (.slice f (.own k) off n esz) (rows.set k (some (.frz kk l)))
          | _ => False)
      | _ => False)
  | _ => False

def effC (rows : Rows α) (op : Op) (e : Operand → AV (Id α)) (C : Eff α) : Prop :=
  match op with
  | .alloc t => (match zrow P t with | some r => C (.ptr (.own rows.length) 0) (rows ++ [some r]) | none => False)
  | .box _ x => (match boxRow (e x) with | some r => C (.ptr (.own rows.length) 0) (rows ++ [some r]) | none => False)
  | .buildSlice t n parts => buildSliceC P t n (parts.toList.map fun p => (p.1, e p.2)) rows C
  | .makeSlice t l c => makeSliceC P t (e l) (e c) rows C
  | .store t a x => storeC P t (e a) (e x) rows C
  | .convert s d x => convC P s d (e x) rows C
  | .makeMap _ none => C (.map_ (.own rows.length)) (rows ++ [some (mapRow 0 [])])
  | .mapUpdate t m k x => mapUpdateC P t (e m) (e k) (e x) rows C
  | .range t x => rangeC P t (e x) rows C
  | .next it false => nextC (e it) rows C
  | .entry it => entryC (e it) rows C
  | .call c => (match c.callee with
      | .builtin .append => (match c.args.toList, c.argTypes.toList with | [s, x], [ts, tx] => if ts = tx then appendC P E ts (e s) (e x) rows C else appendZC P E ts tx (e s) (e x) rows C | _, _ => False)
      | .builtin .copy => (match c.args.toList, c.argTypes.toList with | [d, x], [td, _] => copyC P E td (e d) (e x) rows C | _, _ => False)
      | .builtin .clear => (match c.args.toList, c.argTypes.toList with | [x], [t] => clearC P t (e x) rows C | _, _ => False)
      | .builtin .delete => (match c.args.toList, c.argTypes.toList with | [m, k], [t, _] => deleteC P t (e m) (e k) rows C | _, _ => False)
      | _ => False)
  | _ => False
end

section
variable {α : Type} {P : Program} {c : Cx α} {ro : List Loc} {rows : Rows α} {w : World}

theorem cellD {L : Loc} {j : Nat} {u : Value} (h : w.cell? (L.at j) = some u) : w.cell? (L.at j) = some ((w.cell? (L.at j)).getD undef) := by rw [h]; rfl

/-- The cells of a stretch of a row. -/
theorem stretch {A : Id α → Option Loc} {r : Row (Id α)} {L : Loc} {off n : Nat} (hl : off + n ≤ r.len) (h : ∀ j v, r.get? j = some v → ∃ u, w.cell? (L.at j) = some u ∧ CR A v u) :
    ∃ f : Nat → Value, (∀ j, j < n → w.cell? ((L.at off).add j) = some (f j) ∧ CR A (r.cell (off + j)) (f j)) := by
  refine ⟨fun j => (w.cell? (L.at (off + j))).getD undef, fun j hj => ?_⟩
  obtain ⟨u, hu, hcr⟩ := h (off + j) _ (Row.get?_cell (by omega))
  show w.cell? ((L.at off).add j) = some ((w.cell? (L.at (off + j))).getD undef) ∧ CR A (r.cell (off + j)) ((w.cell? (L.at (off + j))).getD undef)
  rw [Loc.at_add, hu]
  exact ⟨rfl, hcr⟩

theorem cells_ints {A : Id α → Option Loc} {k : IntKind} {l : List Int} {off n : Nat} {f : Nat → Value} (hl : off + n ≤ l.length) (h : ∀ j, j < n → CR A ((Row.ints k l : Row (Id α)).cell (off + j)) (f j)) :
    (List.range n).map f = (sub l off n).map (Value.int k) := by
  apply List.ext_getElem
  · simp [length_sub hl]
  · intro j h1 h2
    simp at h1
    have := (h j h1).1
    simp only [Row.cell] at this
    generalize hf : f j = u at this
    cases this
    simp only [List.getElem_map, List.getElem_range, hf, sub, List.getElem_take, List.getElem_drop]
    congr 1
    rw [List.getD_eq_getElem?_getD, List.getElem?_eq_getElem (by omega)]
    rfl

theorem VR_sub {A : Id α → Option Loc} {r : Row (Id α)} {off n : Nat} {f : Nat → Value} (hl : off + n ≤ r.len) (h : ∀ j, j < n → CR A (r.cell (off + j)) (f j)) :
    VR A (r.sub off n) (.agg ((List.range n).map f).toArray) := by
  cases r with
  | ints k l =>
    rw [cells_ints (k := k) (l := l) hl h]
    exact .ints k _
  | frz k l =>
    rw [cells_ints (k := k) (l := l) hl h]
    exact .ints k _
  | obj v =>
    refine .agg ?_ ?_ ?_
    · simp [length_sub (show off + n ≤ [v].length from hl)]
    · intro i h1 h2
      have hi : i < n := by simpa using h2
      have := (h i hi).1
      have hz : off + i = 0 := by simp only [Row.len] at hl; omega
      have hlen : off + i < [v].length := by simp [hz]
      have he : (Sy.sub [v] off n)[i]'h1 = v := by
        have h3 : (Sy.sub [v] off n)[i]? = some ((Sy.sub [v] off n)[i]'h1) := List.getElem?_eq_getElem h1
        have h4 := (sub_get h3).2
        rw [hz] at h4
        simpa using h4.symm
      rw [he]
      simpa [Row.cell] using this
    · intro i h2
      have hi : i < n := by simpa using h2
      simpa using (h i hi).2
  | mixed l =>
    refine .agg ?_ ?_ ?_
    · simp [length_sub (show off + n ≤ l.length from hl)]
    · intro i h1 h2
      have hi : i < n := by simpa using h2
      have := (h i hi).1
      simp only [Row.cell, List.getD_eq_getElem?_getD] at this
      simp only [Row.len] at hl
      rw [List.getElem?_eq_getElem (by omega)] at this
      simpa [Sy.sub] using this
    · intro i h2
      have hi : i < n := by simpa using h2
      simpa using (h i hi).2

theorem at_same {L : Loc} {j : Nat} {u : Value} {w' : World} (h : w.cell? (L.at j) = some u) (hk : Kp w w') : w'.cell? (L.at j) = some u := by
  rw [← h]
  exact World.cell?_of_block (hk.block L.b (World.block_lt_of_cell? w (L.at j) h))

theorem VR_get_ints {A : Id α → Option Loc} {k : IntKind} {l : List Int} {off n : Nat} {f : Nat → Value} (hl : off + n ≤ l.length) (hf : ∀ j, j < n → CR A (.int k (l.getD (off + j) 0)) (f j)) :
    (List.range n).map f = (Sy.sub l off n).map (Value.int k) := by
  apply List.ext_getElem
  · simp [Sy.length_sub hl]
  · intro j h1 h2
    have hj : j < n := by simpa using h1
    have := (hf j hj).1
    generalize hu : f j = u at this
    cases this
    simp only [List.getElem_map, List.getElem_range, hu]
    congr 1
    simp [Sy.sub, List.getD_eq_getElem?_getD, List.getElem?_eq_getElem (show off + j < l.length by omega)]

theorem str_run {A : Id α → Option Loc} {L : Loc} {l : List Int} {off n cap : Nat} {a : Addr} {w' : World} (ha : 0 < n → a = L.at off) (hlen : off + n ≤ l.length)
    (hcell : ∀ j v, l[j]?.map (AV.int IntKind.u8 : Int → AV (Id α)) = some v → ∃ u, w'.cell? (L.at j) = some u ∧ CR A v u) :
    (Conv.bytesToString (.slice (some a) n cap)).run P w' = .ok (.string (bstr (Sy.sub l off n))) w' := by
  by_cases hn : n = 0
  · subst hn
    have := run_bytesToString (P := P) w' a 0 cap [] (by simp [loadCells, loadCellsFrom])
    simpa [bstr, Sy.sub] using this
  · have := ha (by omega)
    subst this
    refine run_bytesToString (P := P) w' (L.at off) n cap _ ?_
    let f : Nat → Value := fun j => (w'.cell? (L.at (off + j))).getD undef
    have hf : ∀ j, j < n → w'.cell? ((L.at off).add j) = some (f j) ∧ CR A (.int .u8 (l.getD (off + j) 0)) (f j) := by
      intro j hj
      obtain ⟨u, hu, hcr⟩ := hcell (off + j) (.int .u8 (l.getD (off + j) 0)) (by simp [List.getD_eq_getElem?_getD, List.getElem?_eq_getElem (show off + j < l.length by omega)])
      rw [Loc.at_add]
      simp only [f, hu, Option.getD_some]
      exact ⟨trivial, hcr⟩
    rw [← VR_get_ints hlen fun j hj => (hf j hj).2]
    have hl := run_loadCells (P := P) w' (L.at off) n f fun j hj => (hf j hj).1
    simpa using hl

theorem strC_sound (hc : CxOk c) (hs : Sim c ro rows w) {s d : TypeId} {x : AV (Id α)} {u : Value} {C : AV (Id α) → Prop} (h : strC P c.E s d x rows C) (hx : VR (c.addr ro) x u) {ρ : Operand → Value} {o : Oper} {xx : Operand} (ho : o.op = .convert s d xx) (hu : ρ xx = u) :
    ∃ v u, C v ∧ VR (c.addr ro) v u ∧ ∀ w', Kp w w' → (execOp ρ o).run P w' = .ok (.value u) w' := by
  unfold strC at h
  split at h <;> try exact h.elim
  rename_i e ht
  obtain ⟨he, hd, h⟩ := h
  split at h <;> try exact h.elim
  · cases hx
    refine ⟨_, _, h, .str _, fun w' _ => ?_⟩
    have hcv := run_convert_bytes_string (P := P) w' s d e none 0 0 ht he hd
    simp only [execOp, ho, hu, Sem.run_bind, hcv]
    simp [Conv.bytesToString, bstr]
  · rename_i xf id off n esz
    split at h <;> try exact h.elim
    rename_i r hr
    have key : ∀ (l : List Int), r.flat = true → off + n ≤ l.length → (∀ j v, l[j]?.map (AV.int IntKind.u8 : Int → AV (Id α)) = some v → r.get? j = some v) → C (.str (bstr (Sy.sub l off n))) →
        ∃ v u, C v ∧ VR (c.addr ro) v u ∧ ∀ w', Kp w w' → (execOp ρ o).run P w' = .ok (.value u) w' := by
      intro l hflat hlen hget hC
      obtain ⟨L, hL, hcell⟩ := hs.cellF hc hr hflat
      refine ⟨_, _, hC, .str _, fun w' hk => ?_⟩
      have hcell' : ∀ j v, l[j]?.map (AV.int IntKind.u8 : Int → AV (Id α)) = some v → ∃ u, w'.cell? (L.at j) = some u ∧ CR (c.addr ro) v u := fun j v hv => by
        obtain ⟨u, h1, h2⟩ := hcell j v (hget j v hv)
        exact ⟨u, at_same h1 hk, h2⟩
      cases hx with
      | empty =>
        have hcv := run_convert_bytes_string (P := P) w' s d e none 0 0 ht he hd
        simp only [execOp, ho, hu, Sem.run_bind, hcv]
        simp [Conv.bytesToString, bstr, Sy.sub]
      | slice hA hcap hxx hlim =>
        rename_i L' cap a
        rw [hL] at hA; cases hA
        have hcv := run_convert_bytes_string (P := P) w' s d e (some a) n cap ht he hd
        simp only [execOp, ho, hu, Sem.run_bind, hcv, str_run (P := P) (A := c.addr ro) (cap := cap) (fun hn => hxx (.inr hn)) hlen hcell']
        rfl
    split at h <;> try exact h.elim
    · obtain ⟨rfl, rfl, hlen, hC⟩ := h
      exact key _ rfl hlen (fun j v hv => hv) hC
    · obtain ⟨rfl, rfl, hlen, hC⟩ := h
      exact key _ rfl hlen (fun j v hv => hv) hC

theorem obj_cell (hc : CxOk c) (hs : Sim c ro rows w) {id : Id α} {v : AV (Id α)} (hl : look c.E rows id = some (.obj v)) : ∃ L o u, c.addr ro id = some L ∧ w.heap[L.b]? = some o ∧ objVal o = some u ∧ VR (c.addr ro) v u := by
  obtain ⟨L, h1, h2⟩ := hs.cell hc hl
  obtain ⟨u, h3, h4⟩ := h2 0 v rfl
  simp only [Row.flat, vcell?] at h3
  split at h3
  · split at h3
    · rename_i o ho
      exact ⟨L, o, u, h1, ho, h3, h4.1⟩
    · cases h3
  · cases h3
theorem ERs.of_VRs {A : Id α → Option Loc} {l : List (AV (Id α))} {es : Array MapEntry} (hl : l.length = (es.map entVal).size) (h : ∀ (i : Nat) (h1 : i < l.length) (h2 : i < (es.map entVal).size), VR A l[i] (es.map entVal)[i]) : ERs A l es.toList :=
  ⟨by simpa using hl, fun i h1 h2 => by have := h i h1 (by simpa using h2); simpa [ER] using this⟩
theorem map_cell (hc : CxOk c) (hs : Sim c ro rows w) {id : Id α} {clock : Nat} {l : List (AV (Id α))} (hl : look c.E rows id = some (.obj (.func clock l))) : ∃ L es, c.addr ro id = some L ∧ w.heap[L.b]? = some (.map es clock) ∧ ERs (c.addr ro) l es.toList := by
  obtain ⟨L, o, u, h1, h2, h3, h4⟩ := obj_cell hc hs hl
  cases h4 with
  | func hl' h' =>
    unfold objVal at h3
    split at h3
    · rename_i es ck
      simp only [Option.some.injEq, Value.func.injEq, Fn.func.injEq] at h3
      obtain ⟨rfl, _, rfl⟩ := h3
      exact ⟨L, es, h1, h2, .of_VRs hl' h'⟩
    · simp at h3
    · cases h3
theorem okV_VR {A : Id α → Option Loc} {v : AV (Id α)} {u : Value} (h : VR A v u) (b ok : Bool) : VR A (okV b v ok) (if b then .tuple #[u, .bool ok] else u) := by
  cases b with
  | false => simpa [okV] using h
  | true =>
    simp only [okV, if_true]
    refine .tuple rfl fun i g1 g2 => ?_
    match i, g1 with
    | 0, _ => exact h
    | 1, _ => exact .bool _
theorem lookupC_sound (hc : CxOk c) (hs : Sim c ro rows w) {t : TypeId} {m k : AV (Id α)} {um uk : Value} {b : Bool} {C : AV (Id α) → Prop} (h : lookupC P c.E t m k b rows C) (hm : VR (c.addr ro) m um) (hk : VR (c.addr ro) k uk) :
    ∃ v u, C v ∧ VR (c.addr ro) v u ∧ ∀ w', Kp w w' → (Instr.lookup t um uk b).run P w' = .ok u w' := by
  unfold lookupC at h
  split at h <;> try exact h.elim
  rename_i kt et ht
  obtain ⟨hko, h⟩ := h
  split at h <;> try exact h.elim
  · cases hm
    split at h <;> try exact h.elim
    rename_i z hz
    obtain ⟨v, hv, hvr⟩ := zeroAV_run (A := c.addr ro) hz w
    refine ⟨_, _, h, okV_VR hvr b false, fun w' _ => ?_⟩
    obtain ⟨v', hv', _⟩ := zeroAV_run (A := c.addr ro) hz w'
    have hvv : v' = v := by
      unfold zeroAV at hz
      split at hz
      · rename_i i hi
        obtain ⟨q, hq, _⟩ := Option.bind_eq_some_iff.1 hz
        simp [zeroValue, typeInfo, hi, hq] at hv hv'
        rw [← hv, ← hv']
      · cases hz
    subst hvv
    obtain ⟨g1, _⟩ := findKey_ok hko hk w' (l := ([] : List (AV (Id α)))) (es := []) (r := none) rfl trivial (ERs.nil (A := c.addr ro))
    simp only [Instr.lookup, Sem.run_bind, run_underlying ht, Result.andThen_ok, Sem.run_pure, checkKey_ok hko hk, g1, gotE, hv']
  · rename_i id
    split at h <;> try exact h.elim
    rename_i clock l hl
    obtain ⟨hks, h⟩ := h
    obtain ⟨L, es, h1, h2, h3⟩ := map_cell hc hs hl
    cases hm
    rename_i L' hL'
    rw [h1] at hL'; cases hL'
    have hheap : ∀ w', Kp w w' → w'.heap[L.b]? = some (.map es clock) := fun w' hk' => by rw [hk'.block L.b (Array.getElem?_eq_some_iff.1 h2).1]; exact h2
    split at h <;> try exact h.elim
    · rename_i i v bb hf
      obtain ⟨_, e, k', g2, g3, g4⟩ := findKey_ok hko hk w hf hks h3
      have hil := (List.getElem?_eq_some_iff.1 g3)
      have hie := (List.getElem?_eq_some_iff.1 g2)
      have her := h3.2 i hil.1 hie.1
      rw [hil.2, hie.2] at her
      refine ⟨_, _, h, okV_VR her.of.2.1 b true, fun w' hk' => ?_⟩
      obtain ⟨g1, _⟩ := findKey_ok hko hk w' hf hks h3
      simp only [Instr.lookup, Sem.run_bind, run_underlying ht, Result.andThen_ok, Sem.run_pure, getObj, Sem.run, hheap w' hk', checkKey_ok hko hk, g1, gotE, Nat.sub_zero, g2, Option.map_some]
    · rename_i hf
      split at h <;> try exact h.elim
      rename_i z hz
      obtain ⟨v, hv, hvr⟩ := zeroAV_run (A := c.addr ro) hz w
      refine ⟨_, _, h, okV_VR hvr b false, fun w' hk' => ?_⟩
      obtain ⟨v', hv', _⟩ := zeroAV_run (A := c.addr ro) hz w'
      have hvv : v' = v := by
        unfold zeroAV at hz
        split at hz
        · rename_i i hi
          obtain ⟨q, hq, _⟩ := Option.bind_eq_some_iff.1 hz
          simp [zeroValue, typeInfo, hi, hq] at hv hv'
          rw [← hv, ← hv']
        · cases hz
      subst hvv
      obtain ⟨g1, _⟩ := findKey_ok hko hk w' hf hks h3
      simp only [Instr.lookup, Sem.run_bind, run_underlying ht, Result.andThen_ok, Sem.run_pure, getObj, Sem.run, hheap w' hk', checkKey_ok hko hk, g1, gotE, hv']
theorem mlenC_sound (hc : CxOk c) (hs : Sim c ro rows w) {t tt : TypeId} {x : AV (Id α)} {u : Value} {C : AV (Id α) → Prop} (h : mlenC P c.E t x rows C) (hx : VR (c.addr ro) x u) :
    ∃ v z, C v ∧ VR (c.addr ro) v z ∧ ∀ w', Kp w w' → (Builtin.len_ #[t] tt #[u]).run P w' = .ok z w' := by
  unfold mlenC at h
  split at h <;> try exact h.elim
  rename_i kt et ht
  split at h <;> try exact h.elim
  · cases hx
    exact ⟨_, _, h, .int _ _, fun w' _ => by simp [Builtin.len_, run_underlying ht, goInt]⟩
  · rename_i id
    split at h <;> try exact h.elim
    rename_i clock l hl
    obtain ⟨L, es, h1, h2, h3⟩ := map_cell hc hs hl
    cases hx
    rename_i L' hL'
    rw [h1] at hL'; cases hL'
    refine ⟨_, _, h, .int _ _, fun w' hk' => ?_⟩
    have hheap : w'.heap[L.b]? = some (.map es clock) := by rw [hk'.block L.b (Array.getElem?_eq_some_iff.1 h2).1]; exact h2
    have hlen : (es.size : Int) = l.length := by have := h3.1; simp at this; omega
    simp [Builtin.len_, run_underlying ht, goInt, getObj, Sem.run, hheap, hlen]

theorem readC_sound (hc : CxOk c) (hs : Sim c ro rows w) {e : Operand → AV (Id α)} {ρ : Operand → Value} (he : ∀ x, VR (c.addr ro) (e x) (ρ x)) (o : Oper) {C : AV (Id α) → Prop} (h : readC P c.E rows o.op e C) :
    ∃ v u, C v ∧ VR (c.addr ro) v u ∧ ∀ w', Kp w w' → (execOp ρ o).run P w' = .ok (.value u) w' := by
  unfold readC at h
  split at h <;> try exact h.elim
  case' h_2 => rename_i s d x ho; exact strC_sound hc hs h (he x) ho rfl
  case' h_3 =>
    rename_i t m k b ho
    obtain ⟨v, u, h1, h2, h3⟩ := lookupC_sound hc hs h (he m) (he k)
    exact ⟨v, u, h1, h2, fun w' hk => by simp [execOp, ho, h3 w' hk]⟩
  case' h_4 =>
    rename_i cl ho
    split at h <;> try exact h.elim
    rename_i x t hcal ha hat
    have ha' : cl.args = #[x] := by rw [← Array.toArray_toList (xs := cl.args), ha]
    have hat' : cl.argTypes = #[t] := by rw [← Array.toArray_toList (xs := cl.argTypes), hat]
    obtain ⟨v, u, h1, h2, h3⟩ := mlenC_sound (tt := o.type) hc hs h (he x)
    exact ⟨v, u, h1, h2, fun w' hk => by simp [execOp, ho, resolve, hcal, invoke, builtin, ha', hat', h3 w' hk]⟩
  rename_i t a ho
  have ha := he a
  split at h <;> try exact h.elim
  rename_i id off hea
  rw [hea] at ha
  generalize hρ : ρ a = ra at ha
  cases ha
  rename_i L hL
  split at h <;> try exact h.elim
  rename_i r hr
  obtain ⟨hflat, ht, h⟩ := h
  obtain ⟨L', hL', hcell⟩ := hs.cellF hc hr hflat
  rw [hL] at hL'; cases hL'
  obtain ⟨d, ht⟩ := some_of ht
  split at h
  · rename_i hag
    obtain ⟨hlen, hC⟩ := h
    obtain ⟨f, hf⟩ := stretch hlen hcell
    have hvr := VR_sub hlen fun j hj => (hf j hj).2
    obtain ⟨v, hC, hvr⟩ : ∃ v, C v ∧ VR (c.addr ro) v _ := by
      split at hC
      · exact ⟨_, hC, Row.subN_VR hvr⟩
      · exact ⟨_, hC, hvr⟩
    refine ⟨_, _, hC, hvr, fun w' hk => ?_⟩
    have hl := run_loadCells (P := P) w' (L.at off) (P.cellsOf t) f fun j hj => by
      have := (hf j hj).1
      rw [Loc.at_add] at this ⊢
      exact at_same this hk
    simp [execOp, ho, hρ, Instr.loadAt, Instr.sureAddr, loadVar, run_isAgg ht, hag, run_size ht, hl]
  · rename_i hag
    obtain ⟨hlen, hC⟩ := h
    obtain ⟨u, hu, hcr⟩ := hcell off _ (Row.get?_cell hlen)
    refine ⟨_, u, hC, hcr.1, fun w' hk => ?_⟩
    have := at_same hu hk
    simp [execOp, ho, hρ, Instr.loadAt, Instr.sureAddr, loadVar, run_isAgg ht, hag, this]

/-- What an operation that acts comes to. -/
structure Done (c : Cx α) (ro : List Loc) (w : World) (C : Eff α) (v : AV (Id α)) (u : Value) (rows' : Rows α) (ro' : List Loc) (w' : World) : Prop where
  post : C v rows'
  val : VR (c.addr ro') v u
  sim : Sim c ro' rows' w'
  mono : ∀ id L, c.addr ro id = some L → c.addr ro' id = some L

def mildOp : Op → Bool
  | .alloc _ | .box _ _ | .buildSlice _ _ _ | .makeSlice _ _ _ | .makeMap _ _ => true
  | _ => false

theorem Kp.alloc (w : World) (o : Obj) : Kp w (w.alloc o) := (Below.refl _ _).alloc (Nat.le_refl _) o
theorem Kp.drew (w : World) : Kp w w.drew := (Below.refl _ _).drew

theorem new_own (hs : Sim c ro rows w) (M : Loc) : c.addr (ro ++ [M]) (.own rows.length) = some M := by
  simp only [Cx.addr]
  rw [List.getElem?_append_right (by rw [hs.len]; exact Nat.le_refl _), hs.len]
  simp

theorem zrow_spec {t : TypeId} {r : Row (Id α)} (h : zrow P t = some r) : ∃ z, zeroCellsOf P t = some z ∧ ∀ (A : Id α → Option Loc) (j : Nat) (v : AV (Id α)), r.get? j = some v → ∃ u, z[j]? = some u ∧ CR A v u := by
  unfold zrow at h
  split at h
  · rename_i z hz
    split at h
    · rename_i ho
      simp at h
      subst h
      refine ⟨z, hz, fun A j v hv => ?_⟩
      obtain ⟨u, hu, hcr⟩ := rowOf_spec A z.toList (by unfold oneCells at ho; rw [Array.all_eq_true'] at ho; intro x hx; exact ho x (by simpa using hx)) j v hv
      exact ⟨u, by simpa using hu, hcr⟩
    · cases h
  · cases h

theorem boxRow_kd {v : AV (Id α)} {r : Row (Id α)} (h : boxRow v = some r) : r.kd = .hot := by
  unfold boxRow at h
  split at h
  · cases h; rfl
  · cases h; rfl
  · cases h; rfl
  · split at h <;> cases h; rfl
theorem boxRow_spec {A : Id α → Option Loc} {v : AV (Id α)} {u : Value} {r : Row (Id α)} (h : boxRow v = some r) (hv : VR A v u) : ∀ j x, r.get? j = some x → ∃ y, u.cells[j]? = some y ∧ CR A x y := by
  unfold boxRow at h
  split at h
  · simp at h; subst h
    intro j x hx
    exact (VR_cells hv (.inr (.inl ⟨_, _, rfl⟩))).2.2 j x hx
  · simp at h; subst h
    intro j x hx
    exact (VR_cells hv (.inr (.inr ⟨_, rfl⟩))).2.2 j x hx
  · simp at h; subst h
    intro j x hx
    refine (VR_cells hv (.inl rfl)).2.2 j x ?_
    simp only [Row.get?, Option.map_eq_some_iff] at hx
    obtain ⟨n, hn, rfl⟩ := hx
    cases j with
    | zero => simp at hn; subst hn; rfl
    | succ j => simp at hn
  · split at h
    · rename_i hsc
      simp at h; subst h
      intro j x hx
      refine (VR_cells hv (.inl hsc)).2.2 j x ?_
      cases j with
      | zero => simp [Row.get?] at hx; subst hx; cases v <;> first | rfl | simp [scalar] at hsc
      | succ j => simp [Row.get?] at hx
    · cases h

/-- The values of a stretch. -/
theorem stretchL {A : Id α → Option Loc} {r : Row (Id α)} {L : Loc} {off n : Nat} (hl : off + n ≤ r.len) (h : ∀ j v, r.get? j = some v → ∃ u, w.cell? (L.at j) = some u ∧ CR A v u) :
    ∃ l : List Value, l.length = n ∧ (∀ j u, l[j]? = some u → w.cell? ((L.at off).add j) = some u) ∧ (∀ x ∈ l, x.oneCell' = true) ∧ ∀ j v, (r.subR off n).get? j = some v → ∃ u, l[j]? = some u ∧ CR A v u := by
  obtain ⟨f, hf⟩ := stretch hl h
  refine ⟨(List.range n).map f, by simp, fun j u hu => ?_, fun x hx => ?_, fun j v hv => ?_⟩
  · simp only [List.getElem?_map, Option.map_eq_some_iff] at hu
    obtain ⟨i, hi, rfl⟩ := hu
    obtain ⟨hj, hi⟩ := List.getElem?_eq_some_iff.1 hi
    simp at hj hi
    subst hi
    exact (hf j hj).1
  · simp only [List.mem_map, List.mem_range] at hx
    obtain ⟨i, hi, rfl⟩ := hx
    exact (hf i hi).2.2
  · obtain ⟨hj, hv⟩ := subR_get hv
    refine ⟨f j, by simp [hj], ?_⟩
    have := (hf j hj).2
    rw [Row.get?_cell (by omega)] at hv
    cases hv
    exact this

theorem own_row (hs : Sim c ro rows w) {k : Nat} {r : Row (Id α)} (hr : rows[k]? = some (some r)) {L : Loc} (hL : ro[k]? = some L) (h0 : L.lim ≠ 0) (hhot : r.hot = true) :
    ∃ cs ty, L.base = 0 ∧ w.heap[L.b]? = some (.cells cs ty (0, 0)) ∧ cs.size = L.lim ∧ r.len ≤ cs.size ∧ ∀ j v, r.get? j = some v → ∃ u, cs[j]? = some u ∧ CR (c.addr ro) v u := by
  obtain ⟨L', g1, g2, g3, g4⟩ := hs.own k r hr
  rw [hL] at g1; cases g1
  obtain ⟨cs, ty, g5, g6, g7⟩ := g4 h0
  rw [Row.hot_kd hhot] at g5
  exact ⟨cs, ty, g2, g5, g6, by omega, g7⟩
theorem own_len (hs : Sim c ro rows w) {k : Nat} {r : Row (Id α)} (hr : rows[k]? = some (some r)) {L : Loc} (hL : ro[k]? = some L) : L.base = 0 ∧ r.len ≤ L.lim := by
  obtain ⟨L', g1, g2, g3, g4⟩ := hs.own k r hr
  rw [hL] at g1; cases g1
  exact ⟨g2, g3⟩

theorem look_own {E : α → Option (Row α)} {k : Nat} {r : Row (Id α)} (h : rows[k]? = some (some r)) : look E rows (.own k) = some r := by
  simp [look, h]

theorem addr_new (c : Cx α) {id : Id α} {L : Loc} (h : c.addr ro id = some L) (M : Loc) : c.addr (ro ++ [M]) id = some L := addr_push c ro M id L h

theorem appendC_sound (hc : CxOk c) (hs : Sim c ro rows w) {ts : TypeId} {s x : AV (Id α)} {u y : Value} {C : Eff α} (h : appendC P c.E ts s x rows C) (hsu : VR (c.addr ro) s u) (hxy : VR (c.addr ro) x y) (ty : TypeId) :
    ∃ v z rows' ro' w', (Builtin.append_ #[ts, ts] ty #[u, y]).run P w = .ok z w' ∧ Done c ro w C v z rows' ro' w' := by
  unfold appendC at h
  split at h <;> try exact h.elim
  rename_i e ht
  obtain ⟨he, hz, hzs, h⟩ := h
  obtain ⟨d, he⟩ := some_of he
  obtain ⟨i, hi⟩ := info_of he
  have hcells : P.cellsOf e = i.size := by simp [Program.cellsOf, hi]
  have hbytes : P.bytesOf e = i.bytes := by simp [Program.bytesOf, hi]
  obtain ⟨z, hz⟩ := some_of hz
  rw [hz] at hzs
  simp only at hzs
  unfold zeroCellsOf at hz
  rw [hi] at hz
  obtain ⟨zv, hzv, rfl⟩ := Option.map_eq_some_iff.1 hz
  split at h <;> try exact h.elim
  · -- nil, nil
    cases hsu; cases hxy
    refine ⟨_, _, _, ro, w, ?_, ⟨h, .nilslice, hs, fun _ _ h => h⟩⟩
    simp [Builtin.append_, run_underlying ht, sizeOf, typeInfo, hi, Builtin.lenOf, Builtin.firstCells]
  · -- nil, a slice
    rename_i _ id off n esz
    cases hsu
    split at h <;> try exact h.elim
    rename_i r hr
    obtain ⟨hflat, rfl, hlen, hb, h63, hC⟩ := h
    obtain ⟨L, hL, hcell⟩ := hs.cellF hc hr hflat
    obtain ⟨l, hl1, hl2, hl3, hl4⟩ := stretchL hlen hcell
    by_cases hn : n = 0
    · subst hn
      have hl0 : l = [] := List.eq_nil_of_length_eq_zero (by simpa using hl1)
      subst hl0
      have hrun : (Builtin.append_ #[ts, ts] ty #[.slice none 0 0, y]).run P w = .ok (.slice none 0 0) w := by
        cases hxy with
        | empty => simp [Builtin.append_, run_underlying ht, sizeOf, typeInfo, hi, Builtin.lenOf, Builtin.firstCells]
        | slice => simp [Builtin.append_, run_underlying ht, sizeOf, typeInfo, hi, Builtin.lenOf, Builtin.firstCells, loadCells, loadCellsFrom]
      have hp' := hs.pushNone (r.subR off (0 * P.cellsOf e)) (by rw [subR_len hlen]; simp) 0
      exact ⟨_, _, _, _, w, hrun, ⟨hC, .empty _ _ _ (new_own hs _), hp', addr_push c ro _⟩⟩
    · cases hxy with
      | empty => exact absurd rfl hn
      | slice hA hcap hx hlim =>
        rename_i L' cap a
        rw [hL] at hA; cases hA
        have ha := hx (.inr (by omega))
        subst ha
        have hrun := run_append_nil (P := P) w ts ty e i zv ht hi hzv (L.at off) n cap l (by rw [hl1, hcells]) hl2 (by omega) (by omega) (by rw [← hbytes]; omega)
        have hge := grownCap_ge w n 0 e
        have hkd : (r.subR off (n * P.cellsOf e)).kd = .hot ∨ (r.subR off (n * P.cellsOf e)).kd = .cold := .inl subR_kd
        have hp := (hs.kp (Kp.drew w)).push (r.subR off (n * P.cellsOf e)) (l.toArray ++ Builtin.zeroCells zv.cells (grownCap w n 0 e - n)) e (fun j v hv => by
          obtain ⟨u, hu, hcr⟩ := hl4 j v hv
          refine ⟨u, ?_, hcr⟩
          rw [Array.getElem?_append_left (by have := (List.getElem?_eq_some_iff.1 hu).1; simpa using this)]
          simpa using hu)
        refine ⟨_, _, _, _, _, hrun, ⟨hC, .slice (new_own hs _) hge (fun _ => rfl) (fun _ => ?_), hp, addr_push c ro _⟩⟩
        simp only [Array.size_append, List.size_toArray, size_zeroCells, hl1, hzs, Nat.zero_add, ← Nat.add_mul]
        exact Nat.mul_le_mul_right _ (by omega)
  · -- a slice of one's own, a slice
    rename_i _ k off0 len esz xx id off n esz'
    split at h <;> try exact h.elim
    rename_i r hr
    split at h <;> try exact h.elim
    rename_i r2 hr2
    obtain ⟨hflat, rfl, hhot, rfl, rfl, hlen1, hlen2, hb, h63, h⟩ := h
    split at h <;> try exact h.elim
    rename_i r3 hr3
    obtain ⟨hq1, hq2⟩ := rowCat_get hr3
    have hkd3 : r3.kd = .hot ∨ r3.kd = .cold := .inl (rowCat_kd hr3)
    have hk3 : r3.kd = .hot := rowCat_kd hr3
    have hl1 : (r.subR 0 (len * P.cellsOf e)).len = len * P.cellsOf e := subR_len (by omega)
    have hl2 : (r2.subR off (n * P.cellsOf e)).len = n * P.cellsOf e := subR_len hlen2
    rw [hl1, hl2] at hq1
    rw [hl1] at hq2
    obtain ⟨L, hL, hcell⟩ := hs.cellF hc (look_own (E := c.E) hr) (Row.hot_flat hhot)
    have hL' : ro[k]? = some L := hL
    obtain ⟨hbase, hrl⟩ := own_len hs hr hL'
    obtain ⟨L2, hL2, hcell2⟩ := hs.cellF hc hr2 hflat
    obtain ⟨olds, ho1, ho2, ho3, ho4⟩ := stretchL (off := 0) (n := len * P.cellsOf e) (by omega) hcell
    obtain ⟨news, hn1, hn2, hn3, hn4⟩ := stretchL hlen2 hcell2
    -- the new row's cells
    have hnew : ∀ j v, r3.get? j = some v → ∃ u, (olds ++ news)[j]? = some u ∧ CR (c.addr ro) v u := by
      intro j v hv
      rcases hq2 j v hv with ⟨hj, hv⟩ | ⟨hj, hv⟩
      · obtain ⟨u, hu, hcr⟩ := ho4 j v hv
        exact ⟨u, by rw [List.getElem?_append_left (by rw [ho1]; exact hj)]; exact hu, hcr⟩
      · obtain ⟨u, hu, hcr⟩ := hn4 _ v hv
        exact ⟨u, by rw [List.getElem?_append_right (by rw [ho1]; exact hj), ho1]; exact hu, hcr⟩
    have hnl : (olds ++ news).length = (len + n) * P.cellsOf e := by rw [List.length_append, ho1, hn1, Nat.add_mul]
    have mono := addr_push c ro
    -- nothing is appended
    by_cases hn0 : n = 0
    · subst hn0
      have hnn : news = [] := List.eq_nil_of_length_eq_zero (by simpa using hn1)
      have hrun : (Builtin.append_ #[ts, ts] ty #[u, y]).run P w = .ok u w := by
        have hy : (∃ a m, y = .slice a 0 m) := by cases hxy with | empty => exact ⟨_, _, rfl⟩ | slice => exact ⟨_, _, rfl⟩
        obtain ⟨a, m, rfl⟩ := hy
        cases hsu with
        | empty => cases a <;> simp [Builtin.append_, run_underlying ht, sizeOf, typeInfo, hi, Builtin.lenOf, Builtin.firstCells, loadCells, loadCellsFrom]
        | slice hA hcap hx hlim => cases a <;> simp [Builtin.append_, run_underlying ht, sizeOf, typeInfo, hi, Builtin.lenOf, Builtin.firstCells, loadCells, loadCellsFrom, hcap, storeCells]
      have h3 : ∀ j v, r3.get? j = some v → r.get? j = some v := by
        intro j v hv
        rcases hq2 j v hv with ⟨hj, hv⟩ | ⟨hj, hv⟩
        · have := (subR_get hv).2
          simpa using this
        · have := (subR_get hv).1
          simp at this
      have hs1 : Sim c ro (rows.set k (some r3)) w := hs.less (by simp) (fun j r1 hj => by
        by_cases hjk : j = k
        · subst hjk
          rw [List.getElem?_set_self (List.getElem?_eq_some_iff.1 hr).1] at hj
          simp at hj
          subst hj
          exact ⟨r, hr, by rw [hq1]; simp; omega, h3, .inl ((rowCat_kd hr3).trans (Row.hot_kd hhot).symm)⟩
        · rw [List.getElem?_set_ne (Ne.symm hjk)] at hj
          exact ⟨r1, hj, Nat.le_refl _, fun _ _ h => h, .inl rfl⟩)
      have hs2 := hs1.rename (k := k) (r := r3) (by rw [List.getElem?_set_self (List.getElem?_eq_some_iff.1 hr).1]) hL'
      rw [List.set_set] at hs2
      refine ⟨_, _, _, _, w, hrun, ⟨h, ?_, hs2, mono L⟩⟩
      cases hsu with
      | empty => exact .empty _ _ _ (new_own hs _)
      | slice hA hcap hx hlim =>
        rw [hL] at hA; cases hA
        exact .slice (new_own hs _) (by omega) (fun hq => hx (hq.imp (fun z => z) (by omega))) (fun hq => hlim hq)
    · cases hxy with
      | empty => exact absurd rfl hn0
      | slice hA2 hcap2 hx2 hlim2 =>
        rename_i L2' cap2 a2
        rw [hL2] at hA2; cases hA2
        have ha2 := hx2 (.inr (by omega))
        subst ha2
        cases hsu with
        | empty _ _ _ hA =>
          -- nil after all
          have ho0 : olds = [] := List.eq_nil_of_length_eq_zero (by simpa using ho1)
          subst ho0
          simp only [List.nil_append, Nat.zero_add] at hnew hnl hb h63
          have hrun := run_append_nil (P := P) w ts ty e i zv ht hi hzv (L2.at off) n cap2 news (by rw [hn1, hcells]) hn2 (by omega) (by omega) (by rw [← hbytes]; omega)
          have hge := grownCap_ge w n 0 e
          have hp := ((hs.kp (Kp.drew w)).less (rows' := rows.set k none) (by simp) (fun j r1 hj => by
            by_cases hjk : j = k
            · subst hjk; rw [List.getElem?_set_self (List.getElem?_eq_some_iff.1 hr).1] at hj; simp at hj
            · rw [List.getElem?_set_ne (Ne.symm hjk)] at hj; exact ⟨r1, hj, Nat.le_refl _, fun _ _ h => h, .inl rfl⟩)).push r3 (news.toArray ++ Builtin.zeroCells zv.cells (grownCap w n 0 e - n)) e (fun j v hv => by
            obtain ⟨u, hu, hcr⟩ := hnew j v hv
            refine ⟨u, ?_, hcr⟩
            rw [Array.getElem?_append_left (by have := (List.getElem?_eq_some_iff.1 hu).1; simpa using this)]
            simpa using hu)
          refine ⟨_, _, _, _, _, hrun, ⟨h, ?_, hp, mono _⟩⟩
          rw [Nat.zero_add]
          refine .slice (new_own hs _) hge (fun _ => rfl) (fun _ => ?_)
          simp only [Array.size_append, List.size_toArray, size_zeroCells, hn1, hzs, Nat.zero_add, ← Nat.add_mul]
          exact Nat.mul_le_mul_right _ (by omega)
        | slice hA hcap hx hlim =>
          rename_i L' cap a
          rw [hL] at hA; cases hA
          have ha := hx (.inl rfl)
          subst ha
          have hlim' := hlim rfl
          rw [hbase] at hlim'
          simp only [Nat.add_zero, Nat.zero_add] at hlim'
          have hat : L.at 0 = ⟨L.b, 0, none⟩ := by simp [Loc.at, hbase]
          by_cases hroom : len + n ≤ cap
          · -- there is room
            by_cases hL0 : L.lim = 0
            · -- an element of no cell
              have he0 : P.cellsOf e = 0 := by
                rcases Nat.eq_zero_or_pos (P.cellsOf e) with h0 | h0
                · exact h0
                · have : 1 * 1 ≤ cap * P.cellsOf e := Nat.mul_le_mul (by omega) h0
                  omega
              have ho0 : olds = [] := List.eq_nil_of_length_eq_zero (by rw [ho1, he0]; simp)
              have hnn0 : news = [] := List.eq_nil_of_length_eq_zero (by rw [hn1, he0]; simp)
              have hi0 : i.size = 0 := by rw [← hcells]; exact he0
              have hrun : (Builtin.append_ #[ts, ts] ty #[.slice (some (L.at 0)) len cap, .slice (some (L2.at off)) n cap2]).run P w = .ok (.slice (some (L.at 0)) (len + n) cap) w := by
                simp [Builtin.append_, run_underlying ht, sizeOf, typeInfo, hi, Builtin.lenOf, Builtin.firstCells, hroom, hi0, loadCells, loadCellsFrom, storeCells]
              have hs1 := (hs.less (rows' := rows.set k none) (by simp) (fun j r1 hj => by
                by_cases hjk : j = k
                · subst hjk; rw [List.getElem?_set_self (List.getElem?_eq_some_iff.1 hr).1] at hj; simp at hj
                · rw [List.getElem?_set_ne (Ne.symm hjk)] at hj; exact ⟨r1, hj, Nat.le_refl _, fun _ _ h => h, .inl rfl⟩)).pushNone r3 (by rw [hq1, he0]; simp) L.b
              refine ⟨_, _, _, _, w, hrun, ⟨h, .slice (new_own hs _) hroom (fun _ => ?_) (fun _ => by simp [he0]), hs1, mono _⟩⟩
              simp [Loc.at, hbase]
            · obtain ⟨cs, ty0, _, g3, g4, g5, g6⟩ := own_row hs hr hL' hL0 hhot
              have hfit : len * i.size + news.length ≤ cs.size := by
                rw [hn1, ← hcells, ← Nat.add_mul, g4]
                exact Nat.le_trans (Nat.mul_le_mul_right _ hroom) (by omega)
              have hst := run_storeCells_at P L.b (len * P.cellsOf e) ty0 news 0 cs w g3 (by rw [hcells]; simpa using hfit) hn3
              simp only [Nat.add_zero] at hst
              have hload := run_loadCells_list (P := P) w (L2.at off) news hn2
              rw [hn1] at hload
              have hrun : (Builtin.append_ #[ts, ts] ty #[.slice (some (L.at 0)) len cap, .slice (some (L2.at off)) n cap2]).run P w =
                  .ok (.slice (some (L.at 0)) (len + n) cap) (w.setRow L.b (cs.toList.take (len * P.cellsOf e) ++ news ++ cs.toList.drop (len * P.cellsOf e + news.length)).toArray) := by
                have hadd : (L.at 0).add (len * P.cellsOf e) = ⟨L.b, len * P.cellsOf e, none⟩ := by rw [Loc.at_add]; simp [Loc.at, hbase]
                simp only [Builtin.append_, List.getElem?_toArray, List.getElem?_cons_zero, List.getElem?_cons_succ, Sem.run_bind, run_underlying ht, Result.andThen_ok, run_size he, Sem.run_pure, Builtin.lenOf]
                simp [hroom, Builtin.firstCells, hload, hadd, hst]
              have hset := hs.setRow hr hL' hL0 hhot r3 (cs.toList.take (len * P.cellsOf e) ++ news ++ cs.toList.drop (len * P.cellsOf e + news.length)).toArray (by simp [← g4]; rw [hcells]; omega) (fun j v hv => by
                have hcs : len * P.cellsOf e + news.length ≤ cs.toList.length := by rw [hcells]; simpa using hfit
                have hsp := splice_get' (l := cs.toList) (l' := news) (off := len * P.cellsOf e) (j := j) hcs
                simp only [splice] at hsp
                simp only [List.getElem?_toArray]
                rw [hsp]
                rcases hq2 j v hv with ⟨hj, hv⟩ | ⟨hj, hv⟩
                · rw [if_pos hj]
                  have := (subR_get hv).2
                  simp only [Nat.zero_add] at this
                  obtain ⟨u, hu, hcr⟩ := g6 j v this
                  exact ⟨u, by simpa using hu, hcr⟩
                · have hlt := (subR_get hv).1
                  rw [if_neg (by omega), if_pos (by rw [hn1]; omega)]
                  exact hn4 _ v hv)
              have hs2 := hset.rename (k := k) (r := r3) (by rw [List.getElem?_set_self (List.getElem?_eq_some_iff.1 hr).1]) hL'
              rw [List.set_set] at hs2
              exact ⟨_, _, _, _, _, hrun, ⟨h, .slice (new_own hs _) hroom (fun _ => rfl) (fun _ => by omega), hs2, mono L⟩⟩
          · -- it grows
            have hrun := run_append_grow (P := P) w ts ty e i zv ht hi hzv (L.at 0) len cap olds (by rw [ho1, hcells]) ho2 (L2.at off) n cap2 news (by rw [hn1, hcells]) hn2 (by omega) (by omega) (growslice_fits (by omega) (by rw [← hbytes]; exact hb))
            have hge := grownCap_ge w (len + n) cap e
            have hp := ((hs.kp (Kp.drew w)).less (rows' := rows.set k none) (by simp) (fun j r1 hj => by
              by_cases hjk : j = k
              · subst hjk; rw [List.getElem?_set_self (List.getElem?_eq_some_iff.1 hr).1] at hj; simp at hj
              · rw [List.getElem?_set_ne (Ne.symm hjk)] at hj; exact ⟨r1, hj, Nat.le_refl _, fun _ _ h => h, .inl rfl⟩)).push r3 (olds.toArray ++ news.toArray ++ Builtin.zeroCells zv.cells (grownCap w (len + n) cap e - (len + n))) e (fun j v hv => by
              obtain ⟨u, hu, hcr⟩ := hnew j v hv
              refine ⟨u, ?_, hcr⟩
              rw [Array.getElem?_append_left (by have := (List.getElem?_eq_some_iff.1 hu).1; simpa using this)]
              simpa using hu)
            refine ⟨_, _, _, _, _, hrun, ⟨h, .slice (new_own hs _) hge (fun _ => rfl) (fun _ => ?_), hp, mono _⟩⟩
            simp only [Array.size_append, List.size_toArray, size_zeroCells, hn1, ho1, hzs, Nat.zero_add, ← Nat.add_mul]
            exact Nat.mul_le_mul_right _ (by omega)
  · -- nothing is appended to a slice
    rename_i _ id off0 len esz
    cases hxy
    refine ⟨_, u, _, ro, w, ?_, ⟨h, hsu, hs, fun _ _ h => h⟩⟩
    cases hsu with
    | empty => simp [Builtin.append_, run_underlying ht, sizeOf, typeInfo, hi, Builtin.lenOf, Builtin.firstCells]
    | slice hA hcap hx hlim => simp [Builtin.append_, run_underlying ht, sizeOf, typeInfo, hi, Builtin.lenOf, Builtin.firstCells, hcap, storeCells]
  · -- nothing is appended to a slice of known capacity
    refine ⟨_, u, _, ro, w, ?_, ⟨h, hsu, hs, fun _ _ h => h⟩⟩
    cases hsu with
    | slc hA hcap hlim =>
      cases hxy with
      | empty => simp [Builtin.append_, run_underlying ht, sizeOf, typeInfo, hi, Builtin.lenOf, Builtin.firstCells, hcap, storeCells, loadCells, loadCellsFrom]
      | slice hA2 hcap2 hx2 hlim2 => simp [Builtin.append_, run_underlying ht, sizeOf, typeInfo, hi, Builtin.lenOf, Builtin.firstCells, hcap, storeCells, loadCells, loadCellsFrom]

theorem copyC_sound (hc : CxOk c) (hs : Sim c ro rows w) {td : TypeId} {d x : AV (Id α)} {u y : Value} {C : Eff α} (h : copyC P c.E td d x rows C) (hsu : VR (c.addr ro) d u) (hxy : VR (c.addr ro) x y) (tx ty : TypeId) :
    ∃ v z rows' ro' w', (Builtin.copy_ #[td, tx] ty #[u, y]).run P w = .ok z w' ∧ Done c ro w C v z rows' ro' w' := by
  unfold copyC at h
  split at h <;> try exact h.elim
  rename_i e ht
  obtain ⟨he, h⟩ := h
  obtain ⟨dd, he⟩ := some_of he
  obtain ⟨i, hi⟩ := info_of he
  have hcells : P.cellsOf e = i.size := by simp [Program.cellsOf, hi]
  split at h <;> try exact h.elim
  · rename_i _ x1 k off len esz x2 id off2 n esz'
    split at h <;> try exact h.elim
    rename_i r hr
    split at h <;> try exact h.elim
    rename_i r2 hr2
    obtain ⟨hflat, rfl, rfl, hlen1, hlen2, h⟩ := h
    split at h <;> try exact h.elim
    rename_i r3 hr3
    have hl2 : (r2.subR off2 (min n len * P.cellsOf e)).len = min n len * P.cellsOf e := subR_len hlen2
    have hhot : r.hot = true := by
      cases r with
      | frz k l => exact absurd hr3 (by simp [spliceR])
      | obj v => exact absurd hr3 (by simp [spliceR])
      | _ => rfl
    obtain ⟨hq1, hq2⟩ := spliceR_get hr3 (by rw [hl2]; exact hlen1)
    have hk3 : r3.kd = .hot := spliceR_kd hr3
    rw [hl2] at hq2
    obtain ⟨L, hL, hcell⟩ := hs.cellF hc (look_own (E := c.E) hr) (Row.hot_flat hhot)
    have hL' : ro[k]? = some L := hL
    obtain ⟨hbase, hrl⟩ := own_len hs hr hL'
    obtain ⟨L2, hL2, hcell2⟩ := hs.cellF hc hr2 hflat
    obtain ⟨news, hn1, hn2, hn3, hn4⟩ := stretchL hlen2 hcell2
    by_cases h0 : min n len * P.cellsOf e = 0
    · -- no cell is copied
      have hnn : news = [] := List.eq_nil_of_length_eq_zero (by rw [hn1]; exact h0)
      have hrun : (Builtin.copy_ #[td, tx] ty #[u, y]).run P w = .ok (goInt ((min n len : Nat) : Int)) w := by
        have hu : ∃ a m, u = .slice a len m := by cases hsu with | empty => exact ⟨_, _, rfl⟩ | slice => exact ⟨_, _, rfl⟩
        have hy : ∃ a m, y = .slice a n m := by cases hxy with | empty => exact ⟨_, _, rfl⟩ | slice => exact ⟨_, _, rfl⟩
        obtain ⟨a, m, rfl⟩ := hu
        obtain ⟨a', m', rfl⟩ := hy
        have h0' : n.min len * P.cellsOf e = 0 := h0
        cases a <;> cases a' <;> simp [Builtin.copy_, run_underlying ht, run_size he, Builtin.lenOf, Builtin.firstCells, h0', loadCells, loadCellsFrom, storeCells] <;> rfl
      have hs1 : Sim c ro (rows.set k (some r3)) w := hs.less (by simp) (fun j r1 hj => by
        by_cases hjk : j = k
        · subst hjk
          rw [List.getElem?_set_self (List.getElem?_eq_some_iff.1 hr).1] at hj
          simp at hj
          subst hj
          refine ⟨r, hr, by omega, fun i v hv => ?_, .inl (hk3.trans (Row.hot_kd hhot).symm)⟩
          rcases hq2 i v hv with ⟨_, hv⟩ | ⟨h1, h2, _⟩
          · exact hv
          · omega
        · rw [List.getElem?_set_ne (Ne.symm hjk)] at hj
          exact ⟨r1, hj, Nat.le_refl _, fun _ _ h => h, .inl rfl⟩)
      exact ⟨_, _, _, ro, w, hrun, ⟨h, .int _ _, hs1, fun _ _ h => h⟩⟩
    · have hpos : 0 < min n len := by
        rcases Nat.eq_zero_or_pos (min n len) with h1 | h1
        · rw [h1] at h0; simp at h0
        · exact h1
      have hL0 : L.lim ≠ 0 := by omega
      cases hxy with
      | empty => simp at hpos
      | slice hA2 hcap2 hx2 hlim2 =>
        rename_i L2' cap2 a2
        rw [hL2] at hA2; cases hA2
        have ha2 := hx2 (.inr (by omega))
        subst ha2
        cases hsu with
        | empty => simp at hpos
        | slice hA hcap hx hlim =>
          rename_i L' cap a
          rw [hL] at hA; cases hA
          have ha := hx (.inr (by omega))
          subst ha
          obtain ⟨cs, ty0, _, g3, g4, g5, g6⟩ := own_row hs hr hL' hL0 hhot
          have hst := run_storeCells_at P L.b off ty0 news 0 cs w g3 (by rw [hn1]; omega) hn3
          simp only [Nat.add_zero] at hst
          have hload := run_loadCells_list (P := P) w (L2.at off2) news hn2
          rw [hn1] at hload
          have hat : L.at off = ⟨L.b, off, none⟩ := by simp [Loc.at, hbase]
          have hload' : (loadCells (L2.at off2) (n.min len * P.cellsOf e)).run P w = .ok news.toArray w := hload
          have hrun : (Builtin.copy_ #[td, tx] ty #[.slice (some (L.at off)) len cap, .slice (some (L2.at off2)) n cap2]).run P w =
              .ok (goInt ((min n len : Nat) : Int)) (w.setRow L.b (cs.toList.take off ++ news ++ cs.toList.drop (off + news.length)).toArray) := by
            simp only [Builtin.copy_, List.getElem?_toArray, List.getElem?_cons_zero, List.getElem?_cons_succ, Sem.run_bind, run_underlying ht, Result.andThen_ok, run_size he, Sem.run_pure, Builtin.lenOf, Builtin.firstCells, hload', hat]
            simp [hst]
          have hset := hs.setRow hr hL' hL0 hhot r3 (cs.toList.take off ++ news ++ cs.toList.drop (off + news.length)).toArray (by simp [← g4, hn1]; omega) (fun j v hv => by
            have hcs : off + news.length ≤ cs.toList.length := by rw [hn1]; simp; omega
            have hsp := splice_get' (l := cs.toList) (l' := news) (off := off) (j := j) hcs
            simp only [splice] at hsp
            simp only [List.getElem?_toArray]
            rw [hsp, hn1]
            rcases hq2 j v hv with ⟨hj, hv⟩ | ⟨hj1, hj2, hv⟩
            · obtain ⟨u, hu, hcr⟩ := g6 j v hv
              refine ⟨u, ?_, hcr⟩
              rcases hj with hj | hj
              · rw [if_pos hj]; simpa using hu
              · rw [if_neg (by omega), if_neg (by omega)]; simpa using hu
            · rw [if_neg (by omega), if_pos hj2]
              exact hn4 _ v hv)
          exact ⟨_, _, _, ro, _, hrun, ⟨h, .int _ _, hset, fun _ _ h => h⟩⟩
  · -- nil is copied
    rename_i _ x1 id off len esz
    cases hxy
    refine ⟨_, _, _, ro, w, ?_, ⟨h, .int _ _, hs, fun _ _ h => h⟩⟩
    cases hsu <;> simp [Builtin.copy_, run_underlying ht, run_size he, Builtin.lenOf, Builtin.firstCells, storeCells, goInt]
  · rename_i _ x1 id off len esz
    cases hsu
    refine ⟨_, _, _, ro, w, ?_, ⟨h, .int _ _, hs, fun _ _ h => h⟩⟩
    cases hxy <;> simp [Builtin.copy_, run_underlying ht, run_size he, Builtin.lenOf, Builtin.firstCells, goInt, loadCells, loadCellsFrom]
  · rename_i _ k off len cap esz
    split at h <;> try exact h.elim
    rename_i id off2 n esz' hsv
    split at h <;> try exact h.elim
    rename_i r hr
    split at h <;> try exact h.elim
    rename_i r2 hr2
    obtain ⟨⟨hflat, rfl, rfl, hoff, hpos0, hlen2⟩, h⟩ := h
    split at h <;> try exact h.elim
    rename_i r3 hr3
    have hl2 : (r2.subR off2 (min n len * P.cellsOf e)).len = min n len * P.cellsOf e := subR_len hlen2
    have hhot : r.hot = true := by
      cases r with
      | frz k l => exact absurd hr3 (by simp [spliceR])
      | obj v => exact absurd hr3 (by simp [spliceR])
      | _ => rfl
    have hq2 := spliceR_getW hr3 hoff
    have hk3 : r3.kd = .hot := spliceR_kd hr3
    rw [hl2] at hq2
    obtain ⟨L, hL, hcell⟩ := hs.cellF hc (look_own (E := c.E) hr) (Row.hot_flat hhot)
    have hL' : ro[k]? = some L := hL
    obtain ⟨hbase, hrl⟩ := own_len hs hr hL'
    obtain ⟨L2, hL2, hcell2⟩ := hs.cellF hc hr2 hflat
    obtain ⟨news, hn1, hn2, hn3, hn4⟩ := stretchL hlen2 hcell2
    have hpos : 0 < min n len := by
      rcases Nat.eq_zero_or_pos (min n len) with h1 | h1
      · rw [h1] at hpos0; simp at hpos0
      · exact h1
    obtain ⟨L2', a2, cap2, hA2, rfl, ha2⟩ := sview_VR hxy hsv
    rw [hL2] at hA2; cases hA2
    have ha2 := ha2 (by omega)
    subst ha2
    cases hsu with
    | slc hA hcap hlim =>
      rename_i L'
      rw [hL] at hA; cases hA
      have hmc : min n len * P.cellsOf e ≤ cap * P.cellsOf e := Nat.mul_le_mul_right _ (by omega)
      have hfit : off + min n len * P.cellsOf e ≤ L.lim := by omega
      have hL0 : L.lim ≠ 0 := by omega
      obtain ⟨cs, ty0, _, g3, g4, g5, g6⟩ := own_row hs hr hL' hL0 hhot
      have hst := run_storeCells_at P L.b off ty0 news 0 cs w g3 (by rw [hn1]; omega) hn3
      simp only [Nat.add_zero] at hst
      have hload := run_loadCells_list (P := P) w (L2.at off2) news hn2
      rw [hn1] at hload
      have hat : L.at off = ⟨L.b, off, none⟩ := by simp [Loc.at, hbase]
      have hload' : (loadCells (L2.at off2) (n.min len * P.cellsOf e)).run P w = .ok news.toArray w := hload
      have hrun : (Builtin.copy_ #[td, tx] ty #[.slice (some (L.at off)) len cap, .slice (some (L2.at off2)) n cap2]).run P w =
          .ok (goInt ((min n len : Nat) : Int)) (w.setRow L.b (cs.toList.take off ++ news ++ cs.toList.drop (off + news.length)).toArray) := by
        simp only [Builtin.copy_, List.getElem?_toArray, List.getElem?_cons_zero, List.getElem?_cons_succ, Sem.run_bind, run_underlying ht, Result.andThen_ok, run_size he, Sem.run_pure, Builtin.lenOf, Builtin.firstCells, hload', hat]
        simp [hst]
      have hset := hs.setRow hr hL' hL0 hhot r3 (cs.toList.take off ++ news ++ cs.toList.drop (off + news.length)).toArray (by simp [← g4, hn1]; omega) (fun j v hv => by
        have hcs : off + news.length ≤ cs.toList.length := by rw [hn1]; simp; omega
        have hsp := splice_get' (l := cs.toList) (l' := news) (off := off) (j := j) hcs
        simp only [splice] at hsp
        simp only [List.getElem?_toArray]
        rw [hsp, hn1]
        rcases hq2 j v hv with ⟨hj, hv⟩ | ⟨hj1, hj2, hv⟩
        · obtain ⟨u, hu, hcr⟩ := g6 j v hv
          refine ⟨u, ?_, hcr⟩
          rcases hj with hj | hj
          · rw [if_pos hj]; simpa using hu
          · rw [if_neg (by omega), if_neg (by omega)]; simpa using hu
        · rw [if_neg (by omega), if_pos hj2]
          exact hn4 _ v hv)
      exact ⟨_, _, _, ro, _, hrun, ⟨h, .int _ _, hset, fun _ _ h => h⟩⟩

theorem freeze_heap {w : World} {b m : Nat} {cs : Array Value} {ty : TypeId} (h : w.heap[b]? = some (.cells cs ty (0, 0))) :
    ∃ w' : World, (markStringish ⟨b, m, none⟩).run P w = .ok () w' ∧ w'.os = w.os ∧ w'.tape = w.tape ∧ w'.output = w.output ∧ w'.heap.size = w.heap.size ∧ (∃ fz', w'.heap[b]? = some (.cells cs ty fz')) ∧ ∀ j, j ≠ b → w'.heap[j]? = w.heap[j]? := by
  have hlt := (Array.getElem?_eq_some_iff.1 h).1
  have hsh : w.shape? b = some (ty, cs.size) := by simp [World.shape?, h]
  refine ⟨w.freeze ⟨b, cs.size, none⟩ 1, ?_, ?_⟩
  · simp [markStringish, hsh]
  · unfold World.freeze
    rw [if_neg (by decide)]
    refine ⟨rfl, rfl, rfl, by simp, ?_, fun j hj => ?_⟩
    · rw [Array.getElem?_eq_some_iff] at h
      obtain ⟨h1, h2⟩ := h
      refine ⟨(cs.size, cs.size + 1), ?_⟩
      rw [Array.getElem?_modify]
      rw [Array.getElem?_eq_getElem h1, h2]
      simp
    · rw [Array.getElem?_modify]
      simp [Ne.symm hj]
theorem Sim.frz {k : Nat} {kk : IntKind} {l : List Int} (h : Sim c ro rows w) (hk : rows[k]? = some (some (.ints kk l))) {L : Loc} (hL : ro[k]? = some L) (h0 : L.lim ≠ 0) {w' : World} {cs : Array Value} {ty : TypeId} {fz fz' : Nat × Nat}
    (h1 : w'.os = w.os) (h2 : w'.tape = w.tape) (h3 : w'.output = w.output) (h4 : w'.heap.size = w.heap.size) (h5 : w.heap[L.b]? = some (.cells cs ty fz)) (h6 : w'.heap[L.b]? = some (.cells cs ty fz')) (h7 : ∀ j, j ≠ L.b → w'.heap[j]? = w.heap[j]?) :
    Sim c ro (rows.set k (some (.frz kk l))) w' := by
  have hlt : k < rows.length := (List.getElem?_eq_some_iff.1 hk).1
  have hs : ∀ (j : Nat) (r1 : Row (Id α)), (rows.set k (some (.frz kk l)))[j]? = some (some r1) → (j = k ∧ r1 = .frz kk l) ∨ (j ≠ k ∧ rows[j]? = some (some r1)) := by
    intro j r1 hj
    by_cases hjk : j = k
    · subst hjk; rw [List.getElem?_set_self hlt] at hj; simp at hj; exact .inl ⟨rfl, hj.symm⟩
    · rw [List.getElem?_set_ne (Ne.symm hjk)] at hj; exact .inr ⟨hjk, hj⟩
  have hs' : ∀ (j : Nat) (r1 : Row (Id α)), (rows.set k (some (.frz kk l)))[j]? = some (some r1) → ∃ r0, rows[j]? = some (some r0) := by
    intro j r1 hj
    rcases hs j r1 hj with ⟨rfl, _⟩ | ⟨_, h⟩
    · exact ⟨_, hk⟩
    · exact ⟨r1, h⟩
  exact {
    len := by simp [h.len]
    os := h1.trans h.os, tape := h2.trans h.tape, output := h3.trans h.output
    size := by rw [h4]; exact h.size
    frame := fun b hb hm => by
      rw [h7]
      · exact h.frame b hb hm
      · intro hbe
        subst hbe
        rcases h.fresh k _ L hk hL h0 with h1 | ⟨M, hM, hz, h1⟩
        · omega
        · exact hm M hM hz h1.symm
    own := fun j r1 hj => by
      rcases hs j r1 hj with ⟨rfl, rfl⟩ | ⟨hne, hj⟩
      · obtain ⟨L1, g1, g2, g3, g4⟩ := h.own j _ hk
        rw [hL] at g1; cases g1
        refine ⟨L, hL, g2, g3, fun hz => ?_⟩
        obtain ⟨cs1, ty1, g5, g6, g7⟩ := g4 hz
        have g5 : w.heap[L.b]? = some (.cells cs1 ty1 (0, 0)) := g5
        rw [h5] at g5
        cases g5
        exact ⟨cs, ty, ⟨fz', h6⟩, g6, g7⟩
      · obtain ⟨L1, g1, g2, g3, g4⟩ := h.own j r1 hj
        refine ⟨L1, g1, g2, g3, fun hz => ?_⟩
        obtain ⟨cs1, ty1, g5, g6, g7⟩ := g4 hz
        exact ⟨cs1, ty1, g5.of (h7 _ (h.inj j k r1 _ L1 L hne hj hk g1 hL hz h0)), g6, g7⟩
    inj := fun j j' r1 r2 L1 L2 hne hj hj' => by
      obtain ⟨r3, h3⟩ := hs' j r1 hj
      obtain ⟨r4, h4⟩ := hs' j' r2 hj'
      exact h.inj j j' r3 r4 L1 L2 hne h3 h4
    fra := h.fra }
theorem appendZC_sound (hc : CxOk c) (hs : Sim c ro rows w) {ts tx : TypeId} {s x : AV (Id α)} {u y : Value} {C : Eff α} (h : appendZC P c.E ts tx s x rows C) (hsu : VR (c.addr ro) s u) (hxy : VR (c.addr ro) x y) (ty : TypeId) :
    ∃ v z rows' ro' w', (Builtin.append_ #[ts, tx] ty #[u, y]).run P w = .ok z w' ∧ Done c ro w C v z rows' ro' w' := by
  unfold appendZC at h
  split at h <;> try exact h.elim
  rename_i e ht
  obtain ⟨he, h⟩ := h
  obtain ⟨d, he⟩ := some_of he
  obtain ⟨i, hi⟩ := info_of he
  have hcells : P.cellsOf e = i.size := by simp [Program.cellsOf, hi]
  have hbytes : P.bytesOf e = i.bytes := by simp [Program.bytesOf, hi]
  split at h <;> try exact h.elim
  rename_i kn htx
  split at h <;> try exact h.elim
  rename_i z hz
  split at h <;> try exact h.elim
  rename_i k m hm
  obtain ⟨hm1, hpos, h⟩ := h
  unfold zeroCellsOf at hz
  rw [hi] at hz
  obtain ⟨zv, hzv, rfl⟩ := Option.map_eq_some_iff.1 hz
  have hzl := intsOf_spec _ _ _ hm
  have hzs : zv.cells.size = P.cellsOf e := by
    have := congrArg List.length hzl
    rw [hm1] at this
    simpa using this
  have hz0 : ∀ j, j < zv.cells.size → zv.cells[j]! = .int k 0 := by
    intro j hj
    have h1 : zv.cells.toList[j]? = some (.int k 0) := by
      rw [hzl, hm1, List.map_replicate, List.getElem?_replicate, if_pos (by rw [← hzs]; exact hj)]
    rw [getElem!_pos zv.cells j hj]
    rw [List.getElem?_eq_getElem (by simpa using hj)] at h1
    simpa using h1
  split at h <;> try exact h.elim
  case' h_2 =>
    rename_i id off len cap esz kx n
    split at h <;> try exact h.elim
    rename_i k' l hl
    obtain ⟨⟨rfl, rfl, hlen⟩, ⟨b0, b1, b2, b3⟩, hC⟩ := h
    cases hxy
    cases hsu with
    | slc hL hcl hlim =>
      rename_i L
      obtain ⟨L', hL', hcell⟩ := hs.cellF hc hl rfl
      rw [hL] at hL'; cases hL'
      obtain ⟨olds, ho1, ho2, ho3, ho4⟩ := stretchL (r := .ints k' l) (n := len * P.cellsOf e) (off := off) hlen hcell
      obtain ⟨nn, rfl⟩ : ∃ nn : Nat, n = nn := ⟨n.toNat, by omega⟩
      have hold := run_firstCells_some (P := P) w.drew i.size len (L.at off) len cap olds (by rw [ho1, hcells]) ho2
      have hb2 : (len + nn) * i.bytes ≤ 140737488355328 := by
        rw [hbytes] at b2
        have : (((len + nn) * i.bytes : Nat) : Int) ≤ 140737488355328 := by rw [Int.natCast_mul]; exact b2
        omega
      have hb3 : nn * i.bytes ≤ (len + nn) * i.bytes := Nat.mul_le_mul_right _ (by omega)
      have hrun := Lib.run_append_grow_zeros (P := P) w ts tx ty e i zv kx kn ht htx hi hzv (some (L.at off)) len cap olds hold nn (by omega) (by rw [← hcells]; exact hpos) (by omega) (by omega) (by omega) (growslice_fits (by omega) hb2)
      have hge := grownCap_ge w (len + nn) cap e
      have hzsz : (Builtin.zeroCells zv.cells nn).size = nn * P.cellsOf e := by rw [size_zeroCells, hzs]
      have hsub : (Sy.sub l off (len * P.cellsOf e)).length = len * P.cellsOf e := length_sub hlen
      have hp := (hs.kp (Kp.drew w)).push (.ints k' (Sy.sub l off (len * P.cellsOf e) ++ List.replicate (nn * P.cellsOf e) 0)) (olds.toArray ++ Builtin.zeroCells zv.cells nn ++ Builtin.zeroCells zv.cells (grownCap w (len + nn) cap e - (len + nn))) e (fun j x hx => by
        simp only [Row.get?, Option.map_eq_some_iff] at hx
        obtain ⟨q, hq, rfl⟩ := hx
        have hjl := (List.getElem?_eq_some_iff.1 hq).1
        simp only [List.length_append, hsub, List.length_replicate] at hjl
        rw [Array.getElem?_append_left (by simp [ho1, hzsz]; omega)]
        rw [List.getElem?_append] at hq
        split at hq
        · rename_i hj
          obtain ⟨u, hu, hcr⟩ := ho4 j (.int k' q) (by simp only [Row.subR, Row.get?, hq, Option.map_some])
          refine ⟨u, ?_, hcr⟩
          rw [Array.getElem?_append_left (by have := (List.getElem?_eq_some_iff.1 hu).1; simpa using this)]
          simpa using hu
        · rename_i hj
          obtain ⟨hj2, hq⟩ := List.getElem?_eq_some_iff.1 hq
          simp at hj2 hq
          subst hq
          refine ⟨.int k' 0, ?_, .int _ _, rfl⟩
          rw [hsub] at hj hj2
          rw [Array.getElem?_append_right (by simp [ho1]; omega)]
          simp only [Builtin.zeroCells, Array.getElem?_map, List.size_toArray, ho1]
          rw [Array.getElem?_eq_getElem (by simp [hzs]; omega)]
          simp only [Array.getElem_range, Option.map_some]
          rw [hz0 _ (Nat.mod_lt _ (by rw [hzs]; exact hpos))])
      refine ⟨_, _, _, _, _, hrun, ⟨hC, ?_, by simpa using hp, addr_push c ro _⟩⟩
      simp only [Int.toNat_natCast]
      refine .slice (new_own hs _) hge (fun _ => rfl) (fun _ => ?_)
      simp only [Array.size_append, List.size_toArray, ho1, size_zeroCells, hzs, Nat.zero_add, ← Nat.add_mul]
      exact Nat.mul_le_mul_right _ (by omega)
  rename_i kx n
  obtain ⟨⟨b1, b2, b3⟩, hC⟩ := h
  cases hsu; cases hxy
  obtain ⟨nn, rfl⟩ : ∃ nn : Nat, n = nn := ⟨n.toNat, by omega⟩
  have hrun := Lib.run_append_nil_zeros (P := P) w ts tx ty e i zv kx kn ht htx hi hzv nn (by omega) (by rw [← hcells]; exact hpos) b3 (by rw [← hbytes, ← Int.natCast_mul] at *; omega)
  have hge := grownCap_ge w nn 0 e
  have hzsz : (Builtin.zeroCells zv.cells nn).size = nn * P.cellsOf e := by rw [size_zeroCells, hzs]
  have hp := (hs.kp (Kp.drew w)).push (.ints k (List.replicate (nn * P.cellsOf e) 0)) (Builtin.zeroCells zv.cells nn ++ Builtin.zeroCells zv.cells (grownCap w nn 0 e - nn)) e (fun j x hx => by
    simp only [Row.get?, Option.map_eq_some_iff] at hx
    obtain ⟨q, hq, rfl⟩ := hx
    obtain ⟨hj, hq⟩ := List.getElem?_eq_some_iff.1 hq
    simp at hj hq
    subst hq
    refine ⟨.int k 0, ?_, .int _ _, rfl⟩
    rw [Array.getElem?_append_left (by rw [hzsz]; exact hj)]
    simp only [Builtin.zeroCells, Array.getElem?_map]
    rw [Array.getElem?_eq_getElem (by simpa [hzs] using hj)]
    simp only [Array.getElem_range, Option.map_some]
    rw [hz0 _ (Nat.mod_lt _ (by rw [hzs]; exact hpos))])
  refine ⟨_, _, _, _, _, hrun, ⟨hC, ?_, by simpa using hp, addr_push c ro _⟩⟩
  simp only [Int.toNat_natCast]
  refine .slice (new_own hs _) hge (fun _ => rfl) (fun _ => ?_)
  simp only [size_zeroCells, hzs, Nat.zero_add, ← Nat.add_mul]
  exact Nat.mul_le_mul_right _ (by omega)

theorem buildWideC_sound (hs : Sim c ro rows w) {e : Operand → AV (Id α)} {ρ : Operand → Value} (he : ∀ x, VR (c.addr ro) (e x) (ρ x)) {t el : TypeId} {d : TypeDesc} {n : Nat} {parts : Array (Nat × Operand)} {C : Eff α}
    (ht : P.underlying t = some (.slice el)) (hel : P.underlying el = some d) (h : buildWideC P el n (parts.toList.map fun p => (p.1, e p.2)) rows C) :
    ∃ v u rows' ro' w', (Instr.buildSlice t n (parts.map fun (i, x) => (i, ρ x))).run P w = .ok u w' ∧ Done c ro w C v u rows' ro' w' ∧ Kp w w' := by
  unfold buildWideC at h
  split at h <;> try exact h.elim
  rename_i z hz
  obtain ⟨h1, hm0, ho1, hn, h⟩ := h
  obtain ⟨v, hv, hvc⟩ := run_zero hz w
  obtain ⟨l', cs', hC, hr', hlen, hf⟩ := buildWide_sound (A := c.addr ro) (parts.toList.map fun p => (p.1, e p.2)) (parts.toList.map fun p => (p.1, ρ p.2)) _ _ h (by simp) (by
    intro i p q hp hq
    simp only [List.getElem?_map, Option.map_eq_some_iff] at hp hq
    obtain ⟨z, hz, rfl⟩ := hp
    obtain ⟨z', hz', rfl⟩ := hq
    rw [hz] at hz'
    cases hz'
    exact ⟨rfl, he _⟩) (rep_VRs z ho1 n)
  have hp := hs.push (.mixed l') cs' el (fun j x hx => by
    obtain ⟨hj, rfl⟩ := List.getElem?_eq_some_iff.1 hx
    have hj2 : j < cs'.size := by rw [← hr'.1]; exact hj
    exact ⟨_, Array.getElem?_eq_getElem hj2, hr'.2 j hj hj2⟩)
  have hsz' : cs'.size = n * P.cellsOf el := by
    rw [← hr'.1, hlen]
    simp [h1]
  refine ⟨_, _, _, _, _, ?_, ⟨hC, .slice (new_own hs _) (Nat.le_refl _) (fun _ => rfl) (fun _ => by simp [hsz']), hp, addr_push c ro _⟩, Kp.alloc _ _⟩
  have e1 : (parts.map fun (i, x) => (i, ρ x)) = (parts.toList.map fun p => (p.1, ρ p.2)).toArray := by
    rw [← Array.toArray_toList (xs := Array.map _ parts)]
    simp
  have hsz : ¬ (n * P.cellsOf el > 2 ^ 24) := by simp; exact hn
  simp only [Instr.buildSlice, Sem.run_bind, run_underlying ht, Result.andThen_ok, run_size hel]
  rw [if_neg hsz]
  by_cases hn0 : n = 0
  · subst hn0
    simp only [Nat.zero_mul, if_true, Sem.run_bind, Sem.run_pure, Result.andThen_ok]
    have e3 : (Array.range 0).map ((#[] : Array Value)[· % (#[] : Array Value).size]!) = (List.replicate 0 z.toList).flatten.toArray := by simp
    rw [e3, e1]
    simp only []
    rw [hf]
    simp [newRow, Loc.at]
  · have hnm : n * P.cellsOf el ≠ 0 := Nat.mul_ne_zero hn0 (by omega)
    rw [if_neg hnm]
    simp only [Sem.run_bind, hv, Result.andThen_ok, Sem.run_pure, hvc]
    have e2 := rep_cells z n (by omega)
    rw [h1] at e2
    rw [h1, e2, e1]
    simp only []
    rw [hf]
    simp [newRow, Loc.at]

theorem set_same {β : Type} {l : List β} {i : Nat} {a : β} (h : l[i]? = some a) : l.set i a = l := by
  apply List.ext_getElem?
  intro j
  by_cases hj : i = j
  · subst hj; rw [List.getElem?_set_self (List.getElem?_eq_some_iff.1 h).1, h]
  · rw [List.getElem?_set_ne hj]
theorem run_setObj_map {w : World} {r : Nat} {es : Array MapEntry} {ck : Nat} (hr : w.heap[r]? = some (.map es ck)) (o : Obj) : (setObj r o).run P w = .ok () (setBlk w r o) := by
  simp [setObj, Sem.run, hr, setBlk]
theorem own_map (hc : CxOk c) (hs : Sim c ro rows w) {j clock : Nat} {l : List (AV (Id α))} (hr : rows[j]? = some (some (.obj (.func clock l)))) :
    ∃ L es, ro[j]? = some L ∧ w.heap[L.b]? = some (.map es clock) ∧ ERs (c.addr ro) l es.toList := by
  obtain ⟨L, es, h1, h2, h3⟩ := map_cell hc hs (id := .own j) (look_own (E := c.E) hr)
  exact ⟨L, es, h1, h2, h3⟩
theorem VR_ents {A : Id α → Option Loc} {l : List (AV (Id α))} {es : Array MapEntry} (h : ERs A l es.toList) (clock : Nat) : CR A (.func clock l) (.func (.func clock) #[] (es.map entVal)) :=
  ⟨.func (by simpa using h.1) (fun i h1 h2 => by have := h.2 i h1 (by simpa using h2); simpa [ER] using this), rfl⟩
theorem mapUpdateC_sound (hc : CxOk c) (hs : Sim c ro rows w) {t : TypeId} {m k x : AV (Id α)} {um uk ux : Value} {C : Eff α} (h : mapUpdateC P t m k x rows C) (hm : VR (c.addr ro) m um) (hk : VR (c.addr ro) k uk) (hx : VR (c.addr ro) x ux) :
    ∃ rows' w', (Instr.mapUpdate t um uk ux).run P w = .ok () w' ∧ Done c ro w C .undef undef rows' ro w' := by
  unfold mapUpdateC at h
  split at h <;> try exact h.elim
  rename_i kt et ht
  obtain ⟨hko, h⟩ := h
  split at h <;> try exact h.elim
  rename_i j
  split at h <;> try exact h.elim
  rename_i clock l hr
  obtain ⟨hks, h⟩ := h
  obtain ⟨L, es, h1, h2, h3⟩ := own_map hc hs hr
  cases hm
  rename_i L' hL'
  have hL2 : ro[j]? = some L' := hL'
  rw [h1] at hL2; cases hL2
  split at h <;> try exact h.elim
  · rename_i i v bb hf
    obtain ⟨g1, e, k', g2, g3, g4⟩ := findKey_ok hko hk w hf hks h3
    have hil := List.getElem?_eq_some_iff.1 g3
    have hie := List.getElem?_eq_some_iff.1 g2
    have her := h3.2 i hil.1 hie.1
    rw [hil.2, hie.2] at her
    obtain ⟨e1, e2, e3⟩ := her.of
    obtain ⟨q1, q2⟩ := sameBits_ok g4 hk e1
    have g2a : es[i]? = some e := by simpa using g2
    have hnew : ERs (c.addr ro) (l.set i (.tuple [k, x, bb])) (es.modify i fun e => { e with key := uk, val := ux }).toList := by
      refine ⟨by simpa using h3.1, fun q r1 r2 => ?_⟩
      simp only [Array.toList_modify, List.getElem_modify, List.getElem_set]
      by_cases hq : i = q
      · subst hq
        rw [if_pos rfl, if_pos rfl]
        have := hie.2
        rw [this]
        exact ER.mk hk hx e3
      · rw [if_neg hq, if_neg hq]
        exact h3.2 q _ _
    have hset := hs.setObj hr h1 (.map (es.modify i fun e => { e with key := uk, val := ux }) clock) (.func clock (l.set i (.tuple [k, x, bb]))) _ rfl (VR_ents hnew clock)
    refine ⟨_, _, ?_, ⟨h, .undef _, hset, fun _ _ h => h⟩⟩
    simp only [Instr.mapUpdate, Sem.run_bind, run_underlying ht, Result.andThen_ok, getObj, Sem.run, h2, checkKey_ok hko hk, g1, gotE, Nat.sub_zero, g2, Option.map_some, g2a, Option.getD_some, Instr.keyThatStays, q2, if_true, Sem.run_pure, run_setObj_map h2]
  · rename_i hf
    obtain ⟨g1, _⟩ := findKey_ok hko hk w hf hks h3
    have hnew : ERs (c.addr ro) (l ++ [.tuple [k, x, .int .i64 clock]]) (es.push { key := uk, val := ux, born := clock }).toList := by
      refine ⟨by simpa using h3.1, fun q r1 r2 => ?_⟩
      simp only [Array.toList_push]
      rw [List.getElem_append, List.getElem_append]
      by_cases hq : q < l.length
      · rw [dif_pos hq, dif_pos (by rw [← h3.1]; exact hq)]
        exact h3.2 q _ _
      · rw [dif_neg hq, dif_neg (by rw [← h3.1]; exact hq)]
        simp only [List.getElem_singleton]
        exact ER.mk hk hx (.int _ _)
    have hset := hs.setObj hr h1 (.map (es.push { key := uk, val := ux, born := clock }) (clock + 1)) (.func (clock + 1) (l ++ [.tuple [k, x, .int .i64 clock]])) _ rfl (VR_ents hnew (clock + 1))
    refine ⟨_, _, ?_, ⟨h, .undef _, hset, fun _ _ h => h⟩⟩
    simp only [Instr.mapUpdate, Sem.run_bind, run_underlying ht, Result.andThen_ok, getObj, Sem.run, h2, checkKey_ok hko hk, g1, gotE, Sem.run_pure, run_setObj_map h2]
theorem deleteC_sound (hc : CxOk c) (hs : Sim c ro rows w) {t tk ty : TypeId} {m k : AV (Id α)} {um uk : Value} {C : Eff α} (h : deleteC P t m k rows C) (hm : VR (c.addr ro) m um) (hk : VR (c.addr ro) k uk) :
    ∃ rows' w', (Builtin.delete_ #[t, tk] ty #[um, uk]).run P w = .ok (.tuple #[]) w' ∧ Done c ro w C (.tuple []) (.tuple #[]) rows' ro w' := by
  have hv0 : VR (c.addr ro) (.tuple []) (.tuple #[]) := .tuple rfl fun i h1 _ => absurd h1 (by simp)
  unfold deleteC at h
  split at h <;> try exact h.elim
  rename_i kt et ht
  obtain ⟨hko, h⟩ := h
  split at h <;> try exact h.elim
  · cases hm
    refine ⟨_, w, ?_, ⟨h, hv0, hs, fun _ _ h => h⟩⟩
    simp [Builtin.delete_, run_underlying ht, checkKey_ok hko hk]
  rename_i j
  split at h <;> try exact h.elim
  rename_i clock l hr
  obtain ⟨hks, h⟩ := h
  obtain ⟨L, es, h1, h2, h3⟩ := own_map hc hs hr
  cases hm
  rename_i L' hL'
  have hL2 : ro[j]? = some L' := hL'
  rw [h1] at hL2; cases hL2
  split at h <;> try exact h.elim
  · rename_i i v bb hf
    obtain ⟨g1, e, k', g2, g3, g4⟩ := findKey_ok hko hk w hf hks h3
    have hil := List.getElem?_eq_some_iff.1 g3
    have hnew : ERs (c.addr ro) (l.eraseIdx i) (es.eraseIdxIfInBounds i).toList := by
      have hes : (es.eraseIdxIfInBounds i).toList = es.toList.eraseIdx i := by simp
      rw [hes]
      refine ⟨by rw [List.length_eraseIdx, List.length_eraseIdx, h3.1], fun q r1 r2 => ?_⟩
      rw [List.getElem_eraseIdx, List.getElem_eraseIdx]
      by_cases hq : q < i
      · rw [dif_pos hq, dif_pos hq]; exact h3.2 q _ _
      · rw [dif_neg hq, dif_neg hq]; exact h3.2 (q + 1) _ _
    have hset := hs.setObj hr h1 (.map (es.eraseIdxIfInBounds i) clock) (.func clock (l.eraseIdx i)) _ rfl (VR_ents hnew clock)
    refine ⟨_, _, ?_, ⟨h, hv0, hset, fun _ _ h => h⟩⟩
    simp only [Builtin.delete_, List.getElem?_toArray, List.getElem?_cons_zero, List.getElem?_cons_succ, Sem.run_bind, run_underlying ht, Result.andThen_ok, getObj, Sem.run, h2, checkKey_ok hko hk, g1, gotE, Nat.sub_zero, g2, Option.map_some, Sem.run_pure, run_setObj_map h2]
  · rename_i hf
    obtain ⟨g1, _⟩ := findKey_ok hko hk w hf hks h3
    have hset := hs.setObj hr h1 (.map es clock) (.func clock l) _ rfl (VR_ents h3 clock)
    rw [set_same hr] at hset
    refine ⟨_, _, ?_, ⟨h, hv0, hset, fun _ _ h => h⟩⟩
    simp only [Builtin.delete_, List.getElem?_toArray, List.getElem?_cons_zero, List.getElem?_cons_succ, Sem.run_bind, run_underlying ht, Result.andThen_ok, getObj, Sem.run, h2, checkKey_ok hko hk, g1, gotE, Sem.run_pure, run_setObj_map h2]
theorem rangeC_sound (hc : CxOk c) (hs : Sim c ro rows w) {t : TypeId} {x : AV (Id α)} {u : Value} {C : Eff α} (h : rangeC P t x rows C) (hx : VR (c.addr ro) x u) :
    ∃ v z rows' ro' w', (Instr.range t u).run P w = .ok z w' ∧ Done c ro w C v z rows' ro' w' := by
  unfold rangeC at h
  split at h <;> try exact h.elim
  rename_i kt et ht
  split at h <;> try exact h.elim
  rename_i j
  split at h <;> try exact h.elim
  rename_i clock l hr
  obtain ⟨L, es, h1, h2, h3⟩ := own_map hc hs hr
  cases hx
  rename_i L' hL'
  have hL2 : ro[j]? = some L' := hL'
  rw [h1] at hL2; cases hL2
  obtain ⟨hbase, _⟩ := own_len hs hr h1
  have hat : L.at 0 = ⟨L.b, 0, none⟩ := by simp [Loc.at, hbase]
  have hv : CR (c.addr ro) (.iface 0 (.tuple [.ptr (.own j) 0, .int .i64 (clock : Int), .int .i64 (clock : Int), .ints .i64 []]) : AV (Id α)) (.iface 0 (.tuple #[.pointer (some ⟨L.b, 0, none⟩), .int .i64 (clock : Int), .int .i64 (clock : Int), .agg ((#[] : Array Nat).map fun (n : Nat) => Value.int .i64 (n : Int))])) := by
    refine ⟨.iface (.tuple rfl fun i g1 g2 => ?_), rfl⟩
    match i, g1 with
    | 0, _ => rw [← hat]; exact .ptr 0 hL'
    | 1, _ => exact .int _ _
    | 2, _ => exact .int _ _
    | 3, _ => simpa using VR.ints (A := c.addr ro) IntKind.i64 []
  have hp := hs.pushObj (.mapIter (some L.b) clock #[] clock) _ _ rfl hv
  refine ⟨_, _, _, _, _, ?_, ⟨h, .ptr 0 (new_own hs _), hp, addr_push c ro _⟩⟩
  simp [Instr.range, run_underlying ht, getObj, Sem.run, h2, newObj, Loc.at]
theorem bornB_get {n : Nat} : ∀ {l : List (AV (Id α))}, bornB n l → ∀ (i : Nat) (h : i < l.length), ∃ k v b, l[i] = .tuple [k, v, .int .i64 b] ∧ b < (n : Int)
  | x :: l, h, i, hi => by
    unfold bornB at h
    split at h
    · cases ‹_ :: _ = []›
    · rename_i k v b r heq
      simp only [List.cons.injEq] at heq
      obtain ⟨rfl, rfl⟩ := heq
      cases i with
      | zero => exact ⟨k, v, b, rfl, h.1⟩
      | succ i => exact bornB_get h.2 i (by simpa using hi)
    · exact h.elim
theorem nextC_sound (hc : CxOk c) (hs : Sim c ro rows w) {x : AV (Id α)} {u : Value} {ty : TypeId} {C : Eff α} (h : nextC x rows C) (hx : VR (c.addr ro) x u) :
    ∃ v z rows' ro' w', (Instr.next u false ty).run P w = .ok z w' ∧ Done c ro w C v z rows' ro' w' := by
  unfold nextC at h
  split at h <;> try exact h.elim
  rename_i q
  split at h <;> try exact h.elim
  rename_i j since last seen hq
  split at h <;> try exact h.elim
  rename_i clock l hr
  obtain ⟨hborn, hsl, hC1, hC2⟩ := h
  obtain ⟨L, es, h1, h2, h3⟩ := own_map hc hs hr
  obtain ⟨Lq, o, y, k1, k2, k3, k4⟩ := obj_cell hc hs (id := .own q) (look_own (E := c.E) hq)
  have k1' : ro[q]? = some Lq := k1
  obtain ⟨hbase, _⟩ := own_len hs hr h1
  obtain ⟨hbaseq, _⟩ := own_len hs hq k1'
  have hat : L.at 0 = ⟨L.b, 0, none⟩ := by simp [Loc.at, hbase]
  -- the iterator's block
  have hit : ∃ (s c0 : Nat) (sn : Array Nat), o = .mapIter (some L.b) s sn c0 ∧ (s : Int) = since ∧ (c0 : Int) = last ∧ seen = sn.toList.map fun (n : Nat) => (n : Int) := by
    unfold objVal at k3
    split at k3
    · simp only [Option.some.injEq] at k3
      subst k3
      cases k4
    · rename_i mm s sn c0
      simp only [Option.some.injEq] at k3
      subst k3
      cases k4 with
      | iface k5 =>
        cases k5 with
        | tuple hl hv =>
          have v0 := hv 0 (by simp) (by simp)
          have v1 := hv 1 (by simp) (by simp)
          have v2 := hv 2 (by simp) (by simp)
          have v3 := hv 3 (by simp) (by simp)
          simp only [List.getElem_cons_zero, List.getElem_cons_succ, List.getElem_toArray] at v0 v1 v2 v3
          refine ⟨s, c0, sn, ?_, ?_, ?_, ?_⟩
          · generalize hp : Value.pointer (some ⟨mm, 0, none⟩) = pp at v0
            cases v0
            rename_i L3 hL3
            have hL4 : ro[j]? = some L3 := hL3
            rw [h1] at hL4; cases hL4
            rw [hat] at hp
            simp only [Value.pointer.injEq, Option.some.injEq, Addr.mk.injEq, and_true] at hp
            rw [hp]
          · cases v1; rfl
          · cases v2; rfl
          · generalize hp : Value.agg (sn.map fun (n : Nat) => Value.int .i64 (n : Int)) = pp at v3
            cases v3
            simp only [Value.agg.injEq] at hp
            have := congrArg Array.toList hp
            simp only [Array.toList_map] at this
            have h5 : (sn.toList.map fun (n : Nat) => (n : Int)).map (Value.int .i64) = seen.map (Value.int .i64) := by rw [List.map_map]; exact this
            exact ((List.map_inj_right (fun a b h => by cases h; rfl)).1 h5).symm
    · cases k3
  obtain ⟨s, c0, sn, rfl, rfl, rfl, rfl⟩ := hit
  have hold : ∀ e ∈ es.toList, e.born < s := fun e he => by
    obtain ⟨i, hi, rfl⟩ := List.mem_iff_getElem.1 he
    obtain ⟨k, v, b, e1, e2⟩ := bornB_get hborn i (by rw [h3.1]; exact hi)
    have := h3.2 i (by rw [h3.1]; exact hi) hi
    rw [e1] at this
    have e3 := this.of.2.2
    generalize hz : Value.int IntKind.i64 ((es.toList[i].born : Nat) : Int) = z at e3
    cases e3
    simp only [Value.int.injEq, true_and] at hz
    simp only [Int.toNat_natCast] at e2
    omega
  have hent : ∀ (i : Nat) (hi : i < es.toList.length), ∃ k v, l[i]? = some (.tuple [k, v, .int .i64 ((es.toList[i].born : Nat) : Int)]) ∧ VR (c.addr ro) k es.toList[i].key ∧ VR (c.addr ro) v es.toList[i].val := fun i hi => by
    have hil : i < l.length := by rw [h3.1]; exact hi
    obtain ⟨k, v, b, e1, e2⟩ := bornB_get hborn i hil
    have := h3.2 i hil hi
    rw [e1] at this
    obtain ⟨g1, g2, g3⟩ := this.of
    generalize hz : Value.int IntKind.i64 ((es.toList[i].born : Nat) : Int) = z at g3
    cases g3
    simp only [Value.int.injEq, true_and] at hz
    exact ⟨k, v, by rw [List.getElem?_eq_getElem hil, e1, hz], g1, g2⟩
  cases hx
  rename_i L5 hL5
  have hL6 : ro[q]? = some L5 := hL5
  rw [k1'] at hL6; cases hL6
  have hatq : Lq.at 0 = ⟨Lq.b, 0, none⟩ := by simp [Loc.at, hbaseq]
  rw [hatq]
  rcases run_next_at (P := P) w ty Lq.b L.b s c0 sn es clock k2 h2 hold (by omega) with ⟨hz, hrun⟩ | ⟨e, he, w1, hw1, hrun⟩
  · refine ⟨_, _, _, ro, w, hrun, ⟨hC2 fun i k v b hi => ?_, ?_, hs, fun _ _ h => h⟩⟩
    · have hil := (List.getElem?_eq_some_iff.1 hi).1
      obtain ⟨k', v', e1, _⟩ := hent i (by rw [← h3.1]; exact hil)
      rw [hi] at e1
      simp only [Option.some.injEq, AV.tuple.injEq, List.cons.injEq, AV.int.injEq, true_and, and_true] at e1
      obtain ⟨_, _, rfl⟩ := e1
      simp only [List.mem_map]
      refine ⟨_, ?_, rfl⟩
      have hempty : leftOf es sn = #[] := Array.eq_empty_of_size_eq_zero hz
      unfold leftOf at hempty
      rw [Array.filter_eq_empty_iff] at hempty
      have := hempty (es.toList[i]'(by rw [← h3.1]; exact hil)) (by simp)
      simpa using this
    · exact .tuple rfl fun i g1 g2 => by
        match i, g1 with
        | 0, _ => exact .bool _
  · unfold leftOf at he
    simp only [Array.toList_filter, List.mem_filter] at he
    obtain ⟨he1, he2⟩ := he
    obtain ⟨i, hi, rfl⟩ := List.mem_iff_getElem.1 he1
    obtain ⟨k, v, e1, e2, e3⟩ := hent i hi
    have hs1 : Sim c ro rows w1 := by
      rcases hw1 with rfl | rfl
      · exact hs
      · exact hs.kp (Kp.drew w)
    have hv : CR (c.addr ro) (.iface 0 (.tuple [.ptr (.own j) 0, .int .i64 (s : Int), .int .i64 (clock : Int), .ints .i64 ((sn.toList.map fun (n : Nat) => (n : Int)) ++ [((es.toList[i].born : Nat) : Int)])]) : AV (Id α)) (.iface 0 (.tuple #[.pointer (some ⟨L.b, 0, none⟩), .int .i64 (s : Int), .int .i64 (clock : Int), .agg ((sn.push es.toList[i].born).map fun (n : Nat) => Value.int .i64 (n : Int))])) := by
      refine ⟨.iface (.tuple rfl fun qi g1 g2 => ?_), rfl⟩
      match qi, g1 with
      | 0, _ => rw [← hat]; exact .ptr 0 h1
      | 1, _ => exact .int _ _
      | 2, _ => exact .int _ _
      | 3, _ =>
        simp only [List.getElem_cons_zero, List.getElem_cons_succ, List.getElem_toArray]
        have : ((sn.push es.toList[i].born).map fun (n : Nat) => Value.int .i64 (n : Int)) = (((sn.toList.map fun (n : Nat) => (n : Int)) ++ [((es.toList[i].born : Nat) : Int)]).map (Value.int .i64)).toArray := by
          apply Array.toList_inj.1
          simp
        rw [this]
        exact .ints _ _
    have hset := hs1.setObj hq k1' (.mapIter (some L.b) s (sn.push es.toList[i].born) clock) _ _ rfl hv
    refine ⟨_, _, _, ro, _, hrun, ⟨hC1 i k v _ e1 ?_, ?_, hset, fun _ _ h => h⟩⟩
    · simp only [List.mem_map, not_exists, not_and]
      intro n hn hne
      have : n = es.toList[i].born := by omega
      subst this
      simp at he2
      exact he2 (by simpa using hn)
    · exact .tuple rfl fun i g1 g2 => by
        match i, g1 with
        | 0, _ => exact .bool _
        | 1, _ => exact e2
        | 2, _ => exact e3
theorem entryAt_ok {A : Id α → Option Loc} {b : Int} {k v : AV (Id α)} {t : Nat} (ht : (t : Int) = b) : ∀ {l : List (AV (Id α))} {es : List MapEntry}, ERs A l es → entryAt b l = some (k, v) → ∃ e, es.find? (fun e => e.born == t) = some e ∧ VR A k e.key ∧ VR A v e.val
  | [], es, _, h => by cases h
  | x :: l, [], h, _ => by have := h.1; simp at this
  | x :: l, e :: es, h, h' => by
    obtain ⟨h1, h2⟩ := h.cons
    unfold entryAt at h'
    split at h'
    · cases ‹_ :: _ = []›
    · rename_i k0 v0 b0 r heq
      simp only [List.cons.injEq] at heq
      obtain ⟨rfl, rfl⟩ := heq
      obtain ⟨g1, g2, g3⟩ := h1.of
      have hb : b0 = (e.born : Int) := by
        generalize hz : Value.int IntKind.i64 ((e.born : Nat) : Int) = z at g3
        cases g3
        simp only [Value.int.injEq, true_and] at hz
        exact hz.symm
      by_cases hbb : b0 = b
      · rw [if_pos hbb] at h'
        cases h'
        exact ⟨e, by rw [List.find?_cons_of_pos (by simp; omega)], g1, g2⟩
      · rw [if_neg hbb] at h'
        obtain ⟨e', q1, q2⟩ := entryAt_ok ht h2 h'
        exact ⟨e', by rw [List.find?_cons_of_neg (by simp; omega)]; exact q1, q2⟩
    · cases h'
theorem entryC_sound (hc : CxOk c) (hs : Sim c ro rows w) {x : AV (Id α)} {u : Value} {C : Eff α} (h : entryC x rows C) (hx : VR (c.addr ro) x u) :
    ∃ v z rows' ro' w', (Instr.entry u).run P w = .ok z w' ∧ Done c ro w C v z rows' ro' w' := by
  unfold entryC at h
  split at h <;> try exact h.elim
  rename_i q
  split at h <;> try exact h.elim
  rename_i j since last seen hq
  split at h <;> try exact h.elim
  rename_i clock l hr
  obtain ⟨hcl, b, k, v, hlast, hent, hC⟩ := h
  obtain ⟨L, es, h1, h2, h3⟩ := own_map hc hs hr
  obtain ⟨Lq, o, y, k1, k2, k3, k4⟩ := obj_cell hc hs (id := .own q) (look_own (E := c.E) hq)
  have k1' : ro[q]? = some Lq := k1
  obtain ⟨hbase, _⟩ := own_len hs hr h1
  obtain ⟨hbaseq, _⟩ := own_len hs hq k1'
  have hat : L.at 0 = ⟨L.b, 0, none⟩ := by simp [Loc.at, hbase]
  -- the iterator's block
  have hit : ∃ (s c0 : Nat) (sn : Array Nat), o = .mapIter (some L.b) s sn c0 ∧ (s : Int) = since ∧ (c0 : Int) = last ∧ seen = sn.toList.map fun (n : Nat) => (n : Int) := by
    unfold objVal at k3
    split at k3
    · simp only [Option.some.injEq] at k3
      subst k3
      cases k4
    · rename_i mm s sn c0
      simp only [Option.some.injEq] at k3
      subst k3
      cases k4 with
      | iface k5 =>
        cases k5 with
        | tuple hl hv =>
          have v0 := hv 0 (by simp) (by simp)
          have v1 := hv 1 (by simp) (by simp)
          have v2 := hv 2 (by simp) (by simp)
          have v3 := hv 3 (by simp) (by simp)
          simp only [List.getElem_cons_zero, List.getElem_cons_succ, List.getElem_toArray] at v0 v1 v2 v3
          refine ⟨s, c0, sn, ?_, ?_, ?_, ?_⟩
          · generalize hp : Value.pointer (some ⟨mm, 0, none⟩) = pp at v0
            cases v0
            rename_i L3 hL3
            have hL4 : ro[j]? = some L3 := hL3
            rw [h1] at hL4; cases hL4
            rw [hat] at hp
            simp only [Value.pointer.injEq, Option.some.injEq, Addr.mk.injEq, and_true] at hp
            rw [hp]
          · cases v1; rfl
          · cases v2; rfl
          · generalize hp : Value.agg (sn.map fun (n : Nat) => Value.int .i64 (n : Int)) = pp at v3
            cases v3
            simp only [Value.agg.injEq] at hp
            have := congrArg Array.toList hp
            simp only [Array.toList_map] at this
            have h5 : (sn.toList.map fun (n : Nat) => (n : Int)).map (Value.int .i64) = seen.map (Value.int .i64) := by rw [List.map_map]; exact this
            exact ((List.map_inj_right (fun a b h => by cases h; rfl)).1 h5).symm
    · cases k3
  obtain ⟨s, c0, sn, rfl, rfl, rfl, rfl⟩ := hit
  cases hx
  rename_i L5 hL5
  have hL6 : ro[q]? = some L5 := hL5
  rw [k1'] at hL6; cases hL6
  have hatq : Lq.at 0 = ⟨Lq.b, 0, none⟩ := by simp [Loc.at, hbaseq]
  rw [hatq]
  have hcc : clock = c0 := by exact_mod_cast hcl
  subst hcc
  obtain ⟨t, ht1, ht2⟩ : ∃ t, sn.back? = some t ∧ (t : Int) = b := by
    rw [List.getLast?_map] at hlast
    cases hsn : sn.toList.getLast? with
    | none => rw [hsn] at hlast; cases hlast
    | some t =>
      rw [hsn] at hlast
      exact ⟨t, by rw [← Array.getLast?_toList]; exact hsn, by simpa using hlast⟩
  obtain ⟨e, he1, he2, he3⟩ := entryAt_ok ht2 h3 hent
  refine ⟨_, .tuple #[e.key, e.val], _, ro, w, ?_, ⟨hC, ?_, hs, fun _ _ h => h⟩⟩
  · have he4 : es.find? (fun e => e.born == t) = some e := by rw [← Array.find?_toList]; exact he1
    simp [Instr.entry, getObj, Sem.run, k2, ht1, h2, he4]
  · exact .tuple rfl fun i g1 g2 => by
      match i, g1 with
      | 0, _ => exact he2
      | 1, _ => exact he3
theorem oneCells_get {z : Array Value} (h : oneCells z = true) : ∀ x, x ∈ z.toList → x.oneCell' = true := by
  unfold oneCells at h; rw [Array.all_eq_true'] at h; intro x hx; exact h x (by simpa using hx)
theorem clearC_sound (hs : Sim c ro rows w) {t ty : TypeId} {x : AV (Id α)} {u : Value} {C : Eff α} (h : clearC P t x rows C) (hx : VR (c.addr ro) x u) :
    ∃ rows' w', (Builtin.clear_ #[t] ty #[u]).run P w = .ok (.tuple #[]) w' ∧ Done c ro w C (.tuple []) (.tuple #[]) rows' ro w' := by
  have hv0 : VR (c.addr ro) (.tuple []) (.tuple #[]) := .tuple rfl fun i h1 _ => absurd h1 (by simp)
  unfold clearC at h
  split at h <;> try exact h.elim
  rename_i e ht
  obtain ⟨he, h⟩ := h
  obtain ⟨d, he⟩ := some_of he
  split at h <;> try exact h.elim
  rename_i z hz
  split at h
  rotate_left
  · rename_i hm
    split at h <;> try exact h.elim
    rename_i j off n cap0 esz
    split at h <;> try exact h.elim
    rename_i l hr
    obtain ⟨⟨rfl, hone, hzs, hpos, rfl, hlen⟩, hC⟩ := h
    cases hx with
    | slc hL hcap hlim =>
      rename_i L
      have hL' : ro[j]? = some L := hL
      obtain ⟨hbase, hrl⟩ := own_len hs hr hL'
      have hL0 : L.lim ≠ 0 := by simp only [Row.len] at hrl; omega
      obtain ⟨cs, ty0, _, g3, g4, g5, g6⟩ := own_row hs hr hL' hL0 rfl
      simp only [Row.len] at g5
      unfold zeroCellsOf at hz
      obtain ⟨i, hi⟩ := info_of he
      rw [hi] at hz
      obtain ⟨zv, hzv, rfl⟩ := Option.map_eq_some_iff.1 hz
      have hzc : (Builtin.zeroCells zv.cells 1).toList = zv.cells.toList := by
        apply List.ext_getElem?
        intro q
        simp only [Builtin.zeroCells, Array.toList_map, Array.toList_range, List.getElem?_map, Nat.one_mul]
        rcases Nat.lt_or_ge q zv.cells.size with hq | hq
        · rw [List.getElem?_range hq]
          simp only [Option.map_some]
          rw [Nat.mod_eq_of_lt hq, getElem!_pos zv.cells _ hq, List.getElem?_eq_getElem (by simpa using hq)]
          simp
        · rw [List.getElem?_eq_none (by simpa using hq), List.getElem?_eq_none (by simpa using hq)]
          rfl
      have hlz : (Builtin.zeroCells zv.cells 1).toList.length = P.cellsOf e := by rw [hzc]; simpa using hzs
      have hst := run_storeCells_at P L.b off ty0 (Builtin.zeroCells zv.cells 1).toList 0 cs w g3 (by rw [hlz]; omega) (by rw [hzc]; intro x hx; exact oneCells_get hone x hx)
      simp only [Nat.add_zero] at hst
      have hat : L.at off = ⟨L.b, off, none⟩ := by simp [Loc.at, hbase]
      have hset := hs.setRow hr hL' hL0 rfl (.mixed (splice l off (zv.cells.toList.map ofV))) (cs.toList.take off ++ (Builtin.zeroCells zv.cells 1).toList ++ cs.toList.drop (off + (Builtin.zeroCells zv.cells 1).toList.length)).toArray (by simp [← g4, hlz]; omega) (fun q v hv => by
        have hcs : off + (Builtin.zeroCells zv.cells 1).toList.length ≤ cs.toList.length := by rw [hlz]; simp; omega
        have hsp := splice_get' (l := cs.toList) (l' := (Builtin.zeroCells zv.cells 1).toList) (off := off) (j := q) hcs
        simp only [splice] at hsp
        simp only [List.getElem?_toArray]
        rw [hsp, hlz]
        simp only [Row.get?] at hv
        have hle : off + (zv.cells.toList.map (ofV (ι := Id α))).length ≤ l.length := by simpa [hzs] using hlen
        rcases splice_get hle hv with ⟨hj, hx⟩ | ⟨hj1, hj2, hx⟩
        · obtain ⟨u, hu, hcr⟩ := g6 q v (by simp only [Row.get?, hx])
          refine ⟨u, ?_, hcr⟩
          simp only [List.length_map, Array.length_toList, hzs] at hj
          rcases hj with hj | hj
          · rw [if_pos hj]; simpa using hu
          · rw [if_neg (by omega), if_neg (by omega)]; simpa using hu
        · simp only [List.length_map, Array.length_toList, hzs] at hj2
          rw [if_neg (by omega), if_pos hj2, hzc]
          rw [List.getElem?_map] at hx
          obtain ⟨u, hu, rfl⟩ := Option.map_eq_some_iff.1 hx
          exact ⟨u, hu, ofV_VR _ u, oneCells_get hone u (List.mem_of_getElem? hu)⟩)
      refine ⟨_, _, ?_, ⟨hC, hv0, hset, fun _ _ h => h⟩⟩
      have hzr : (zeroValue e).run P w = .ok zv w := by simp [zeroValue, typeInfo, hi, hzv]
      simp only [Builtin.clear_, List.getElem?_toArray, List.getElem?_cons_zero, Sem.run_bind, run_underlying ht, Result.andThen_ok, hzr, hat, hst, Sem.run_pure]
  rename_i k m hm
  obtain ⟨hm1, hpos, h⟩ := h
  split at h <;> try exact h.elim
  · cases hx
    exact ⟨_, w, by simp [Builtin.clear_, run_underlying ht], ⟨h, hv0, hs, fun _ _ h => h⟩⟩
  rename_i f j off n esz
  split at h <;> try exact h.elim
  rename_i k' l hr
  obtain ⟨⟨rfl, rfl, hlen⟩, hC⟩ := h
  by_cases hn : n = 0
  · subst hn
    have hsame : splice l off (List.replicate (0 * P.cellsOf e) 0) = l := by simp [splice]
    rw [hsame, set_same hr] at hC
    cases hx with
    | empty => exact ⟨_, w, by simp [Builtin.clear_, run_underlying ht], ⟨hC, hv0, hs, fun _ _ h => h⟩⟩
    | slice => exact ⟨_, w, by simp [Builtin.clear_, run_underlying ht], ⟨hC, hv0, hs, fun _ _ h => h⟩⟩
  · cases hx with
    | empty => exact absurd rfl hn
    | slice hL hcap hxx hlim =>
      rename_i L cap a
      have ha := hxx (.inr (by omega))
      subst ha
      have hL' : ro[j]? = some L := hL
      obtain ⟨hbase, hrl⟩ := own_len hs hr hL'
      have hpos2 : 0 < n * P.cellsOf e := Nat.mul_pos (by omega) hpos
      have hL0 : L.lim ≠ 0 := by simp only [Row.len] at hrl; omega
      obtain ⟨cs, ty0, _, g3, g4, g5, g6⟩ := own_row hs hr hL' hL0 rfl
      simp only [Row.len] at g5
      unfold zeroCellsOf at hz
      obtain ⟨i, hi⟩ := info_of he
      rw [hi] at hz
      obtain ⟨zv, hzv, rfl⟩ := Option.map_eq_some_iff.1 hz
      have hzl := intsOf_spec _ _ _ hm
      have hzs : zv.cells.size = P.cellsOf e := by
        have := congrArg List.length hzl
        rw [hm1] at this
        simpa using this
      have hzc : (Builtin.zeroCells zv.cells n).toList = (List.replicate (n * P.cellsOf e) 0).map (Value.int k') := by
        apply List.ext_getElem?
        intro q
        simp only [Builtin.zeroCells, Array.toList_map, Array.toList_range, List.getElem?_map]
        rcases Nat.lt_or_ge q (n * P.cellsOf e) with hq | hq
        · rw [List.getElem?_range (by rw [hzs]; exact hq), List.getElem?_replicate, if_pos hq]
          simp only [Option.map_some, Option.some.injEq]
          have hlt : q % zv.cells.size < zv.cells.size := Nat.mod_lt _ (by rw [hzs]; exact hpos)
          have h1 : zv.cells.toList[q % zv.cells.size]? = some (.int k' 0) := by
            rw [hzl, hm1, List.map_replicate, List.getElem?_replicate, if_pos (by rw [← hzs]; exact hlt)]
          rw [getElem!_pos zv.cells _ hlt]
          rw [List.getElem?_eq_getElem (by simpa using hlt)] at h1
          simpa using h1
        · rw [List.getElem?_eq_none (by simp [hzs]; exact hq), List.getElem?_eq_none (by simp; exact hq)]
          rfl
      have hlz : (Builtin.zeroCells zv.cells n).toList.length = n * P.cellsOf e := by rw [hzc]; simp
      have hst := run_storeCells_at P L.b off ty0 (Builtin.zeroCells zv.cells n).toList 0 cs w g3 (by rw [hlz]; omega) (by rw [hzc]; intro x hx; simp at hx; rw [hx.2]; rfl)
      simp only [Nat.add_zero] at hst
      have hat : L.at off = ⟨L.b, off, none⟩ := by simp [Loc.at, hbase]
      have hset := hs.setRow hr hL' hL0 rfl (.ints k' (splice l off (List.replicate (n * P.cellsOf e) 0))) (cs.toList.take off ++ (Builtin.zeroCells zv.cells n).toList ++ cs.toList.drop (off + (Builtin.zeroCells zv.cells n).toList.length)).toArray (by simp [← g4, hlz]; omega) (fun q v hv => by
        have hcs : off + (Builtin.zeroCells zv.cells n).toList.length ≤ cs.toList.length := by rw [hlz]; simp; omega
        have hsp := splice_get' (l := cs.toList) (l' := (Builtin.zeroCells zv.cells n).toList) (off := off) (j := q) hcs
        simp only [splice] at hsp
        simp only [List.getElem?_toArray]
        rw [hsp, hlz]
        simp only [Row.get?, Option.map_eq_some_iff] at hv
        obtain ⟨x, hx, rfl⟩ := hv
        rcases splice_get (by simpa using hlen) hx with ⟨hj, hx⟩ | ⟨hj1, hj2, hx⟩
        · obtain ⟨u, hu, hcr⟩ := g6 q (.int k' x) (by simp only [Row.get?, hx, Option.map_some])
          refine ⟨u, ?_, hcr⟩
          simp only [List.length_replicate] at hj
          rcases hj with hj | hj
          · rw [if_pos hj]; simpa using hu
          · rw [if_neg (by omega), if_neg (by omega)]; simpa using hu
        · simp only [List.length_replicate] at hj2
          rw [if_neg (by omega), if_pos hj2, hzc, List.getElem?_map, hx]
          exact ⟨_, rfl, .int _ _, rfl⟩)
      refine ⟨_, _, ?_, ⟨hC, hv0, hset, fun _ _ h => h⟩⟩
      obtain ⟨n', rfl⟩ : ∃ n', n = n' + 1 := ⟨n - 1, by omega⟩
      have hzr : (zeroValue e).run P w = .ok zv w := by simp [zeroValue, typeInfo, hi, hzv]
      simp only [Builtin.clear_, List.getElem?_toArray, List.getElem?_cons_zero, Sem.run_bind, run_underlying ht, Result.andThen_ok, hzr, hat, hst, Sem.run_pure]

theorem effC_sound (hc : CxOk c) (hs : Sim c ro rows w) {e : Operand → AV (Id α)} {ρ : Operand → Value} (he : ∀ x, VR (c.addr ro) (e x) (ρ x)) (o : Oper) {C : Eff α} (h : effC P c.E rows o.op e C) :
    ∃ v u rows' ro' w', ((execOp ρ o).run P w = .ok (.value u) w' ∨ ((execOp ρ o).run P w = .ok .skip w' ∧ u = undef)) ∧ Done c ro w C v u rows' ro' w' ∧ (mildOp o.op = true → Kp w w') := by
  unfold effC at h
  split at h
  all_goals (rename_i ho)
  · -- alloc
    rename_i t
    split at h <;> try exact h.elim
    rename_i r hr
    obtain ⟨z, hz, hspec⟩ := zrow_spec hr
    obtain ⟨v, hv, rfl⟩ := run_zero hz w
    have hp := hs.push r v.cells t (fun j x hx => hspec _ j x hx) (.inl (zrow_kd hr))
    refine ⟨_, _, _, _, _, .inl ?_, ⟨h, .ptr 0 (new_own hs _), hp, addr_push c ro _⟩, fun _ => Kp.alloc _ _⟩
    simp [execOp, ho, Instr.alloc, hv, newVar, newRow]
  · -- box
    rename_i t x
    split at h <;> try exact h.elim
    rename_i r hr
    have hp := hs.push r (ρ x).cells t (boxRow_spec hr (he x)) (.inl (boxRow_kd hr))
    refine ⟨_, _, _, _, _, .inl ?_, ⟨h, .ptr 0 (new_own hs _), hp, addr_push c ro _⟩, fun _ => Kp.alloc _ _⟩
    simp [execOp, ho, Instr.box, newVar, newRow]
  · -- buildSlice
    rename_i t n parts
    unfold buildSliceC at h
    split at h <;> try exact h.elim
    rename_i el ht
    split at h <;> try exact h.elim
    · rename_i k hel
      obtain ⟨h1, hn, hz, h⟩ := h
      obtain ⟨l', hC, hf⟩ := buildInts_sound (A := c.addr ro) (parts.toList.map fun p => (p.1, e p.2)) (parts.toList.map fun p => (p.1, ρ p.2)) _ h (by simp) (by
        intro i p q hp hq
        simp only [List.getElem?_map, Option.map_eq_some_iff] at hp hq
        obtain ⟨z, hz, rfl⟩ := hp
        obtain ⟨z', hz', rfl⟩ := hq
        rw [hz] at hz'
        cases hz'
        exact ⟨rfl, he _⟩)
      have hp := hs.push (.ints k l') (l'.map (Value.int k)).toArray el (fun j x hx => by
        simp only [Row.get?, Option.map_eq_some_iff] at hx
        obtain ⟨m, hm, rfl⟩ := hx
        exact ⟨.int k m, by simp [hm], .int _ _, rfl⟩)
      have hlen : l'.length = n := by
        have key : ∀ (ps : List (Nat × AV (Id α))) (l : List Int) (C : List Int → Prop), buildInts k ps l C → ∃ l', l'.length = l.length ∧ C l' := by
          intro ps
          induction ps with
          | nil => intro l C h; exact ⟨l, rfl, h⟩
          | cons p ps ih =>
            intro l C h
            obtain ⟨i, x⟩ := p
            cases x <;> simp only [buildInts] at h <;> try exact h.elim
            obtain ⟨_, _, h⟩ := h
            obtain ⟨l2, h2, h3⟩ := ih _ _ h
            exact ⟨l2, by simpa using h2, h3⟩
        have fillsz : ∀ (vs : List (Nat × Value)) (cs cs' : Array Value) (pl : Nat → Option (Nat × Nat)), Instr.fill pl cs vs = some cs' → cs'.size = cs.size := by
          intro vs
          induction vs with
          | nil => intro cs cs' pl h; simp [Instr.fill] at h; rw [h]
          | cons p vs ih =>
            intro cs cs' pl h
            obtain ⟨i, v⟩ := p
            simp only [Instr.fill] at h
            split at h
            · cases h
            · split at h
              · cases h
              · have := ih _ _ _ h
                rw [this]
                have fold : ∀ (l : List (Value × Nat)) (off : Nat) (cs : Array Value), (l.foldl (fun cs p => cs.setIfInBounds (off + p.2) p.1) cs).size = cs.size := by
                  intro l
                  induction l with
                  | nil => intro off cs; rfl
                  | cons p l ih => intro off cs; simp only [List.foldl_cons]; rw [ih]; simp
                rename_i off size _ _
                have := fold v.cells.zipIdx.toList off cs
                rw [Array.foldl_toList] at this
                exact this
        have := fillsz _ _ _ _ hf
        simpa using this
      refine ⟨_, _, _, _, _, .inl ?_, ⟨hC, .slice (new_own hs _) (Nat.le_refl _) (fun _ => rfl) (fun _ => by simp [hlen]), hp, addr_push c ro _⟩, fun _ => Kp.alloc _ _⟩
      have e1 : (parts.map fun (i, x) => (i, ρ x)) = (parts.toList.map fun p => (p.1, ρ p.2)).toArray := by
        rw [← Array.toArray_toList (xs := Array.map _ parts)]
        simp
      obtain ⟨v, hv, hvc⟩ := run_zero hz w
      have hsz : ¬ (n * 1 > 2 ^ 24) := by simp; exact hn
      have e2 : (Array.range (n * 1)).map (#[Value.int k 0][· % (#[Value.int k 0] : Array Value).size]!) = (List.map (Value.int k) (List.replicate n 0)).toArray := by
        apply Array.ext
        · simp
        · intro i h1 h2
          simp [Nat.mod_one]
      simp only [execOp, ho, Instr.buildSlice, Sem.run_bind, run_underlying ht, Result.andThen_ok, run_size hel, h1]
      rw [if_neg hsz]
      by_cases hn0 : n = 0
      · subst hn0
        simp only [Nat.zero_mul, if_true, Sem.run_bind, Sem.run_pure, Result.andThen_ok]
        have e3 : (Array.range 0).map ((#[] : Array Value)[· % (#[] : Array Value).size]!) = (List.map (Value.int k) (List.replicate 0 0)).toArray := by simp
        rw [e3, e1]
        simp only []
        rw [hf]
        simp [newRow, Loc.at]
      · rw [if_neg (by omega)]
        simp only [Sem.run_bind, hv, Result.andThen_ok, Sem.run_pure, hvc]
        rw [e2, e1]
        simp only []
        rw [hf]
        simp [newRow, Loc.at]
    · -- slices
      rename_i k hel
      obtain ⟨h1, hn, hz, h⟩ := h
      obtain ⟨v, hv, hvc⟩ := run_zero hz w
      have h0 : VRs (c.addr ro) (List.replicate n .nilslice : List (AV (Id α))) (Array.replicate n (Value.slice none 0 0)) := ⟨by simp, fun i h1 h2 => by simp; exact ⟨.nilslice, rfl⟩⟩
      obtain ⟨l', cs', hC, hr', hlen, hf⟩ := buildVals_sound (A := c.addr ro) (parts.toList.map fun p => (p.1, e p.2)) (parts.toList.map fun p => (p.1, ρ p.2)) _ _ h (by simp) (by
        intro i p q hp hq
        simp only [List.getElem?_map, Option.map_eq_some_iff] at hp hq
        obtain ⟨z, hz, rfl⟩ := hp
        obtain ⟨z', hz', rfl⟩ := hq
        rw [hz] at hz'
        cases hz'
        exact ⟨rfl, he _⟩) h0
      simp only [List.length_replicate] at hlen
      have hp := hs.push (.mixed l') cs' el (fun j x hx => by
        obtain ⟨hj, rfl⟩ := List.getElem?_eq_some_iff.1 hx
        have hj2 : j < cs'.size := by rw [← hr'.1]; exact hj
        exact ⟨_, Array.getElem?_eq_getElem hj2, hr'.2 j hj hj2⟩)
      refine ⟨_, _, _, _, _, .inl ?_, ⟨hC, .slice (new_own hs _) (Nat.le_refl _) (fun _ => rfl) (fun _ => by simp [← hr'.1, hlen]), hp, addr_push c ro _⟩, fun _ => Kp.alloc _ _⟩
      have e1 : (parts.map fun (i, x) => (i, ρ x)) = (parts.toList.map fun p => (p.1, ρ p.2)).toArray := by
        rw [← Array.toArray_toList (xs := Array.map _ parts)]
        simp
      have hsz : ¬ (n * 1 > 2 ^ 24) := by simp; exact hn
      have e2 : (Array.range (n * 1)).map (#[Value.slice none 0 0][· % (#[Value.slice none 0 0] : Array Value).size]!) = Array.replicate n (Value.slice none 0 0) := by
        apply Array.ext
        · simp
        · intro i h1 h2
          simp [Nat.mod_one]
      simp only [execOp, ho, Instr.buildSlice, Sem.run_bind, run_underlying ht, Result.andThen_ok, run_size hel, h1]
      rw [if_neg hsz]
      by_cases hn0 : n = 0
      · subst hn0
        simp only [Nat.zero_mul, if_true, Sem.run_bind, Sem.run_pure, Result.andThen_ok]
        have e3 : (Array.range 0).map ((#[] : Array Value)[· % (#[] : Array Value).size]!) = Array.replicate 0 (Value.slice none 0 0) := by simp
        rw [e3, e1]
        simp only []
        rw [hf]
        simp [newRow, Loc.at]
      · rw [if_neg (by omega)]
        simp only [Sem.run_bind, hv, Result.andThen_ok, Sem.run_pure, hvc]
        rw [e2, e1]
        simp only []
        rw [hf]
        simp [newRow, Loc.at]
    · -- rows of integers
      rename_i m ee hel
      split at h <;> try exact h.elim
      · rename_i k hee
        obtain ⟨h1, hm0, hn, hz, h⟩ := h
        obtain ⟨v, hv, hvc⟩ := run_zero hz w
        obtain ⟨l', hC, hlen, hf⟩ := buildRowsI_sound (A := c.addr ro) (parts.toList.map fun p => (p.1, e p.2)) (parts.toList.map fun p => (p.1, ρ p.2)) _ h (by simp) (by
          intro i p q hp hq
          simp only [List.getElem?_map, Option.map_eq_some_iff] at hp hq
          obtain ⟨z, hz, rfl⟩ := hp
          obtain ⟨z', hz', rfl⟩ := hq
          rw [hz] at hz'
          cases hz'
          exact ⟨rfl, he _⟩)
        rw [List.length_replicate] at hlen
        have hp := hs.push (.ints k l') (l'.map (Value.int k)).toArray el (fun j x hx => by
          simp only [Row.get?, Option.map_eq_some_iff] at hx
          obtain ⟨m, hm, rfl⟩ := hx
          exact ⟨.int k m, by simp [hm], .int _ _, rfl⟩)
        refine ⟨_, _, _, _, _, .inl ?_, ⟨hC, .slice (new_own hs _) (Nat.le_refl _) (fun _ => rfl) (fun _ => by simp [hlen]), hp, addr_push c ro _⟩, fun _ => Kp.alloc _ _⟩
        have e1 : (parts.map fun (i, x) => (i, ρ x)) = (parts.toList.map fun p => (p.1, ρ p.2)).toArray := by
          rw [← Array.toArray_toList (xs := Array.map _ parts)]
          simp
        have hsz : ¬ (n * m > 2 ^ 24) := by simp; exact hn
        have e2 : (Array.range (n * m)).map ((Array.replicate m (Value.int k 0))[· % (Array.replicate m (Value.int k 0)).size]!) = (List.map (Value.int k) (List.replicate (n * m) 0)).toArray := by
          apply Array.ext
          · simp
          · intro i h1 h2
            have hlt : i % m < m := Nat.mod_lt _ hm0
            simp [hlt]
        simp only [execOp, ho, Instr.buildSlice, Sem.run_bind, run_underlying ht, Result.andThen_ok, run_size hel, h1]
        rw [if_neg hsz]
        by_cases hn0 : n = 0
        · subst hn0
          simp only [Nat.zero_mul, if_true, Sem.run_bind, Sem.run_pure, Result.andThen_ok]
          have e3 : (Array.range 0).map ((#[] : Array Value)[· % (#[] : Array Value).size]!) = (List.map (Value.int k) (List.replicate (0 * m) 0)).toArray := by simp
          rw [e3, e1]
          simp only []
          rw [hf]
          simp [newRow, Loc.at]
        · have hnm : n * m ≠ 0 := Nat.mul_ne_zero hn0 (by omega)
          rw [if_neg hnm]
          simp only [Sem.run_bind, hv, Result.andThen_ok, Sem.run_pure, hvc]
          rw [e2, e1]
          simp only []
          rw [hf]
          simp [newRow, Loc.at]
      · rename_i k hee
        obtain ⟨v, u, rows', ro', w', h1, h2, h3⟩ := buildWideC_sound hs he ht hel h
        exact ⟨v, u, rows', ro', w', .inl (by simp only [execOp, ho, h1, Sem.run_bind, Result.andThen_ok]; rfl), h2, fun _ => h3⟩
    · -- structs
      rename_i fs hel
      obtain ⟨v, u, rows', ro', w', h1, h2, h3⟩ := buildWideC_sound hs he ht hel h
      exact ⟨v, u, rows', ro', w', .inl (by simp only [execOp, ho, h1, Sem.run_bind, Result.andThen_ok]; rfl), h2, fun _ => h3⟩
  · -- makeSlice
    rename_i t l cc
    have hl := he l
    have hcc := he cc
    unfold makeSliceC at h
    split at h <;> try exact h.elim
    rename_i k1 l1 k2 c1 e1 e2
    rw [e1] at hl
    rw [e2] at hcc
    generalize hρ : ρ l = rl at hl
    generalize hρ' : ρ cc = rc at hcc
    cases hl; cases hcc
    split at h <;> try exact h.elim
    rename_i el ht
    obtain ⟨hel, h⟩ := h
    obtain ⟨d, hel⟩ := some_of hel
    split at h <;> try exact h.elim
    rename_i z hz
    split at h <;> try exact h.elim
    rename_i k m hm
    obtain ⟨hm1, hpos, ⟨b1, b2, b3, b4⟩, hC⟩ := h
    obtain ⟨i, hi⟩ := info_of hel
    have hcells : P.cellsOf el = i.size := by simp [Program.cellsOf, hi]
    have hbytes : P.bytesOf el = i.bytes := by simp [Program.bytesOf, hi]
    unfold zeroCellsOf at hz
    rw [hi] at hz
    obtain ⟨zv, hzv, rfl⟩ := Option.map_eq_some_iff.1 hz
    have hzl := intsOf_spec _ _ _ hm
    have hr := run_make (P := P) w t el i zv ht hi hzv k1 k2 l1 c1 b1 b2 (by rw [← hbytes]; exact b3) b4
    have hzs : zv.cells.size = P.cellsOf el := by
      have := congrArg List.length hzl
      rw [hm1] at this
      simpa using this
    have hz0 : ∀ j, j < zv.cells.size → zv.cells[j]! = .int k 0 := by
      intro j hj
      have h1 : zv.cells.toList[j]? = some (.int k 0) := by
        rw [hzl, hm1, List.map_replicate, List.getElem?_replicate, if_pos (by rw [← hzs]; exact hj)]
      rw [getElem!_pos zv.cells j hj]
      rw [List.getElem?_eq_getElem (by simpa using hj)] at h1
      simpa using h1
    have hp := hs.push (.ints k (List.replicate (c1.toNat * P.cellsOf el) 0)) (madeCells zv.cells (c1.toNat * i.size)) el (fun j x hx => by
      simp only [Row.get?, Option.map_eq_some_iff] at hx
      obtain ⟨n, hn, rfl⟩ := hx
      obtain ⟨hj, hn⟩ := List.getElem?_eq_some_iff.1 hn
      simp at hj hn
      subst hn
      refine ⟨.int k 0, ?_, .int _ _, rfl⟩
      have hj' : j < c1.toNat * i.size := by rw [← hcells]; exact hj
      simp only [madeCells, Array.getElem?_map]
      rw [Array.getElem?_eq_getElem (by simpa using hj')]
      simp only [Array.getElem_range, Option.map_some]
      rw [hz0 _ (Nat.mod_lt _ (by rw [hzs]; exact hpos))])
    refine ⟨_, _, _, _, _, .inl ?_, ⟨hC, .slice (cap := c1.toNat) (new_own hs _) (by omega) (fun _ => rfl) (fun _ => by simp [size_madeCells, hcells]), hp, addr_push c ro _⟩, fun _ => Kp.alloc _ _⟩
    simp [execOp, ho, hρ, hρ', hr, Loc.at]
  · -- store
    rename_i t a x
    have ha := he a
    have hx := he x
    unfold storeC at h
    split at h <;> try exact h.elim
    rename_i k off hea
    rw [hea] at ha
    generalize hρ : ρ a = ra at ha
    cases ha
    rename_i L hL
    split at h <;> try exact h.elim
    rename_i r hr
    obtain ⟨ht, hsz, hnz, h⟩ := h
    obtain ⟨d, ht⟩ := some_of ht
    have hhot : r.hot = true := by
      cases r with
      | frz k l => exact absurd h (by simp [storeRow])
      | obj v => exact absurd h (by simp [storeRow])
      | _ => rfl
    obtain ⟨hk, hlen, r', hC, hk3, hget⟩ := storeRow_spec h
    obtain ⟨c1, c2, c3⟩ := VR_cells hx hk
    have hL' : ro[k]? = some L := hL
    obtain ⟨_, hrl0⟩ := own_len hs hr hL'
    have hL0 : L.lim ≠ 0 := by omega
    obtain ⟨cs, ty, g2, g3, g4, hrl, g5⟩ := own_row hs hr hL' hL0 hhot
    have hst := run_storeCells_at P L.b off ty (ρ x).cells.toList 0 cs w g3 (by simp [c1]; omega) c2
    simp only [Nat.add_zero] at hst
    have hset := hs.setRow hr hL' hL0 hhot r' (cs.toList.take off ++ (ρ x).cells.toList ++ cs.toList.drop (off + (ρ x).cells.toList.length)).toArray (by simp [c1, ← g4]; omega) (fun j v hv => by
      have hcs : off + (ρ x).cells.toList.length ≤ cs.toList.length := by simp [c1]; omega
      have hsp := splice_get' (l := cs.toList) (l' := (ρ x).cells.toList) (off := off) (j := j) hcs
      simp only [splice] at hsp
      simp only [List.getElem?_toArray]
      rw [hsp]
      have hcl : (ρ x).cells.toList.length = sizeV (e x) := by simp [c1]
      rcases hget j v hv with ⟨hj, hv'⟩ | ⟨hj1, hj2, hv'⟩
      · obtain ⟨u, hu, hcr⟩ := g5 j v hv'
        refine ⟨u, ?_, hcr⟩
        rw [hcl]
        have hu' : cs.toList[j]? = some u := by simpa using hu
        rcases hj with hj | hj
        · rw [if_pos hj]; exact hu'
        · rw [if_neg (by omega), if_neg (by omega)]; exact hu'
      · obtain ⟨y, hy, hcr⟩ := c3 _ _ hv'
        refine ⟨y, ?_, hcr⟩
        rw [if_neg (by omega), if_pos (by omega)]
        simpa using hy)
    refine ⟨.undef, undef, _, ro, _, .inr ⟨?_, rfl⟩, ⟨hC, .undef _, hset, fun _ _ h => h⟩, by intro hm; rw [ho] at hm; cases hm⟩
    have hsz' : ¬ ((ρ x).cells.size ≠ P.cellsOf t) := by rw [c1, hsz]; simp
    have hat : L.at off = ⟨L.b, off, none⟩ := by simp [Loc.at, g2]
    simp only [execOp, ho, hρ, Instr.storeAt, Instr.sureAddr, storeVar, Sem.run_bind, Sem.run_pure, Result.andThen_ok, run_size ht]
    rw [if_neg hsz']
    simp only [hat, hst, Result.andThen_ok]
  · -- convert
    rename_i s d x
    have hx := he x
    unfold convC at h
    split at h <;> try exact h.elim
    rename_i f k off n esz hex
    rw [hex] at hx
    split at h <;> try exact h.elim
    rename_i e ht
    obtain ⟨hel, rfl, hn, hz, h⟩ := h
    split at h <;> try exact h.elim
    rename_i kk l hr
    obtain ⟨hlen, hC⟩ := h
    generalize hρ : ρ x = rx at hx
    have hnz : 0 < n * esz := Nat.mul_pos hn hz
    cases hx with
    | empty => omega
    | slice hA hcap hxx hlim =>
      rename_i L cap a
      have ha := hxx (.inr hn)
      subst ha
      have hL' : ro[k]? = some L := hA
      obtain ⟨hbase, hrl0⟩ := own_len hs hr hL'
      have hL0 : L.lim ≠ 0 := by simp only [Row.len] at hrl0; omega
      obtain ⟨cs, ty, g2, g3, g4, hrl, g5⟩ := own_row hs hr hL' hL0 rfl
      obtain ⟨w', f1, f2, f3, f4, f5, ⟨fz', f6⟩, f7⟩ := freeze_heap (P := P) (m := L.base + off) g3
      refine ⟨_, _, _, ro, w', .inl ?_, ⟨hC, .slice hA hcap hxx hlim, hs.frz hr hL' hL0 f2 f3 f4 f5 g3 f6 f7, fun _ _ h => h⟩, by intro hm; rw [ho] at hm; cases hm⟩
      simp [execOp, ho, hρ, convert, run_underlying ht, run_underlying hel, f1]
  · -- makeMap
    have hp := hs.pushObj (.map #[] 0) (.func 0 [] : AV (Id α)) _ rfl (VR_ents (es := #[]) ERs.nil 0)
    refine ⟨_, _, _, _, _, .inl ?_, ⟨h, .map_ (new_own hs _), hp, addr_push c ro _⟩, fun _ => Kp.alloc _ _⟩
    simp [execOp, ho, run_makeMap]
  · -- mapUpdate
    rename_i t m k x
    obtain ⟨rows', w', h1, h2⟩ := mapUpdateC_sound hc hs h (he m) (he k) (he x)
    refine ⟨_, _, _, _, _, .inr ⟨?_, rfl⟩, h2, by intro hm; rw [ho] at hm; cases hm⟩
    simp [execOp, ho, h1]
  · -- range
    rename_i t x
    obtain ⟨v, z, rows', ro', w', h1, h2⟩ := rangeC_sound hc hs h (he x)
    refine ⟨v, z, rows', ro', w', .inl ?_, h2, by intro hm; rw [ho] at hm; cases hm⟩
    simp [execOp, ho, h1]
  · -- next
    rename_i x
    obtain ⟨v, z, rows', ro', w', h1, h2⟩ := nextC_sound (P := P) (ty := o.type) hc hs h (he x)
    refine ⟨v, z, rows', ro', w', .inl ?_, h2, by intro hm; rw [ho] at hm; cases hm⟩
    simp [execOp, ho, h1]
  · -- entry
    rename_i x
    obtain ⟨v, z, rows', ro', w', h1, h2⟩ := entryC_sound (P := P) hc hs h (he x)
    refine ⟨v, z, rows', ro', w', .inl ?_, h2, by intro hm; rw [ho] at hm; cases hm⟩
    simp [execOp, ho, h1]
  · -- append, copy
    rename_i cl
    split at h
    · rename_i hcal
      split at h <;> try exact h.elim
      rename_i s x ts tx ha hat
      have ha' : cl.args = #[s, x] := by rw [← Array.toArray_toList (xs := cl.args), ha]
      have hat' : cl.argTypes = #[ts, tx] := by rw [← Array.toArray_toList (xs := cl.argTypes), hat]
      split at h
      · rename_i htt
        subst htt
        obtain ⟨v, u, rows', ro', w', h1, h2⟩ := appendC_sound hc hs h (he s) (he x) o.type
        refine ⟨v, u, rows', ro', w', .inl ?_, h2, by intro hm; rw [ho] at hm; cases hm⟩
        simp [execOp, ho, resolve, hcal, invoke, builtin, ha', hat', h1]
      · obtain ⟨v, u, rows', ro', w', h1, h2⟩ := appendZC_sound hc hs h (he s) (he x) o.type
        refine ⟨v, u, rows', ro', w', .inl ?_, h2, by intro hm; rw [ho] at hm; cases hm⟩
        simp [execOp, ho, resolve, hcal, invoke, builtin, ha', hat', h1]
    · rename_i hcal
      split at h <;> try exact h.elim
      rename_i s x ts tx ha hat
      have ha' : cl.args = #[s, x] := by rw [← Array.toArray_toList (xs := cl.args), ha]
      have hat' : cl.argTypes = #[ts, tx] := by rw [← Array.toArray_toList (xs := cl.argTypes), hat]
      obtain ⟨v, u, rows', ro', w', h1, h2⟩ := copyC_sound hc hs h (he s) (he x) tx o.type
      refine ⟨v, u, rows', ro', w', .inl ?_, h2, by intro hm; rw [ho] at hm; cases hm⟩
      simp [execOp, ho, resolve, hcal, invoke, builtin, ha', hat', h1]
    · rename_i hcal
      split at h <;> try exact h.elim
      rename_i x t ha hat
      have ha' : cl.args = #[x] := by rw [← Array.toArray_toList (xs := cl.args), ha]
      have hat' : cl.argTypes = #[t] := by rw [← Array.toArray_toList (xs := cl.argTypes), hat]
      obtain ⟨rows', w', h1, h2⟩ := clearC_sound (ty := o.type) hs h (he x)
      refine ⟨_, _, _, _, _, .inl ?_, h2, by intro hm; rw [ho] at hm; cases hm⟩
      simp [execOp, ho, resolve, hcal, invoke, builtin, ha', hat', h1]
    · rename_i hcal
      split at h <;> try exact h.elim
      rename_i m k t tk ha hat
      have ha' : cl.args = #[m, k] := by rw [← Array.toArray_toList (xs := cl.args), ha]
      have hat' : cl.argTypes = #[t, tk] := by rw [← Array.toArray_toList (xs := cl.argTypes), hat]
      obtain ⟨rows', w', h1, h2⟩ := deleteC_sound (tk := tk) (ty := o.type) hc hs h (he m) (he k)
      refine ⟨_, _, _, _, _, .inl ?_, h2, by intro hm; rw [ho] at hm; cases hm⟩
      simp [execOp, ho, resolve, hcal, invoke, builtin, ha', hat', h1]
    · exact h.elim
  · exact h.elim
end
end Go.Proofs.Ytopiceaeombefaa.Sy
