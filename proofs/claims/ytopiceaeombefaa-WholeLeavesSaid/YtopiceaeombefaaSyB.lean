/- Contracts of functions, rules for code, drawn orders, laws. -/
import Derived.Test.YtopiceaeombefaaSyA
import Derived.Laws.ResultCell
import Derived.ProofKit
import Derived.OpenShut
import Derived.ChangeOld
import Derived.SizedLaws
import Derived.Carry
import Derived.Deep.Matrix
namespace Go.Proofs.Ytopiceaeombefaa.Sy
open Go Go.RowKit

/-! ### ids of a value -/
section
variable {ι κ : Type}
mutual
def AV.All (p : ι → Prop) : AV ι → Prop
  | .undef => True
  | .bool _ => True
  | .int _ _ => True
  | .str _ => True
  | .nilptr => True
  | .ptr id _ => p id
  | .nilslice => True
  | .slice _ id _ _ _ => p id
  | .ints _ _ => True
  | .agg l => AV.AllL p l
  | .tuple l => AV.AllL p l
  | .nilfunc => True
  | .func _ l => AV.AllL p l
  | .niliface => True
  | .iface _ v => AV.All p v
  | .nilmap => True
  | .map_ id => p id
  | .slc id _ _ _ _ => p id
def AV.AllL (p : ι → Prop) : List (AV ι) → Prop
  | [] => True
  | v :: r => AV.All p v ∧ AV.AllL p r
end
theorem AV.AllL_iff (p : ι → Prop) (l : List (AV ι)) : AV.AllL p l ↔ ∀ i (h : i < l.length), AV.All p l[i] := by
  induction l with
  | nil => simp [AV.AllL]
  | cons v l ih =>
    simp only [AV.AllL, ih]
    constructor
    · rintro ⟨h1, h2⟩ i hi
      cases i with
      | zero => exact h1
      | succ i => exact h2 i (by simpa using hi)
    · intro h
      exact ⟨h 0 (by simp), fun i hi => h (i + 1) (by simpa using hi)⟩

theorem VR.all {A A' : ι → Option Loc} {v : AV ι} {u : Value} (h : VR A v u) (ha : v.All fun id => ∀ L, A id = some L → A' id = some L) : VR A' v u := by
  induction h with
  | undef v => exact .undef v
  | bool b => exact .bool b
  | int k n => exact .int k n
  | str s => exact .str s
  | nilptr => exact .nilptr
  | ptr off h => exact .ptr off (ha _ h)
  | nilslice => exact .nilslice
  | empty x off esz h => exact .empty x off esz (ha _ h)
  | slice h hc hx hl => exact .slice (ha _ h) hc hx hl
  | ints k l => exact .ints k l
  | agg hl h ho ih => simp only [AV.All, AV.AllL_iff] at ha; exact .agg hl (fun i h1 h2 => ih i h1 h2 (ha i h1)) ho
  | tuple hl h ih => simp only [AV.All, AV.AllL_iff] at ha; exact .tuple hl (fun i h1 h2 => ih i h1 h2 (ha i h1))
  | nilfunc => exact .nilfunc
  | func hl h ih => simp only [AV.All, AV.AllL_iff] at ha; exact .func hl (fun i h1 h2 => ih i h1 h2 (ha i h1))
  | niliface => exact .niliface
  | iface h ih => exact .iface (ih ha)
  | nilmap => exact .nilmap
  | map_ h => exact .map_ (ha _ h)
  | slc h hc hl => exact .slc (ha _ h) hc hl

-- A value that leads to no memory, and is known whole.
mutual
def AV.solid : AV ι → Prop
  | .undef => False
  | .bool _ => True
  | .int _ _ => True
  | .str _ => True
  | .nilptr => True
  | .ptr _ _ => False
  | .nilslice => True
  | .slice _ _ _ _ _ => False
  | .ints _ _ => True
  | .agg l => AV.solidL l
  | .tuple l => AV.solidL l
  | .nilfunc => True
  | .func _ l => AV.solidL l
  | .niliface => True
  | .iface _ v => AV.solid v
  | .nilmap => True
  | .map_ _ => False
  | .slc _ _ _ _ _ => False
def AV.solidL : List (AV ι) → Prop
  | [] => True
  | v :: r => AV.solid v ∧ AV.solidL r
end
theorem AV.solidL_iff (l : List (AV ι)) : AV.solidL l ↔ ∀ i (h : i < l.length), AV.solid l[i] := by
  induction l with
  | nil => simp [AV.solidL]
  | cons v l ih =>
    simp only [AV.solidL, ih]
    constructor
    · rintro ⟨h1, h2⟩ i hi
      cases i with
      | zero => exact h1
      | succ i => exact h2 i (by simpa using hi)
    · intro h
      exact ⟨h 0 (by simp), fun i hi => h (i + 1) (by simpa using hi)⟩

theorem VR.solid_map {A : ι → Option Loc} {v : AV ι} {u : Value} (h : VR A v u) (hs : v.solid) {A' : κ → Option Loc} (f : ι → κ) : VR A' (v.map f) u := by
  induction h with
  | undef v => exact hs.elim
  | bool b => exact .bool b
  | int k n => exact .int k n
  | str s => exact .str s
  | nilptr => exact .nilptr
  | ptr off h => exact hs.elim
  | nilslice => exact .nilslice
  | empty x off esz h => exact hs.elim
  | slice h hc hx hl => exact hs.elim
  | ints k l => exact .ints k l
  | agg hl h ho ih =>
    simp only [AV.solid, AV.solidL_iff] at hs
    simp only [AV.map, AV.mapL_eq]
    exact .agg (by simpa using hl) (fun i h1 h2 => by simpa using ih i (by simpa using h1) h2 (hs i (by simpa using h1))) ho
  | tuple hl h ih =>
    simp only [AV.solid, AV.solidL_iff] at hs
    simp only [AV.map, AV.mapL_eq]
    exact .tuple (by simpa using hl) (fun i h1 h2 => by simpa using ih i (by simpa using h1) h2 (hs i (by simpa using h1)))
  | nilfunc => exact .nilfunc
  | func hl h ih =>
    simp only [AV.solid, AV.solidL_iff] at hs
    simp only [AV.map, AV.mapL_eq]
    exact .func (by simpa using hl) (fun i h1 h2 => by simpa using ih i (by simpa using h1) h2 (hs i (by simpa using h1)))
  | niliface => exact .niliface
  | iface h ih => exact .iface (ih hs)
  | nilmap => exact .nilmap
  | map_ h => exact hs.elim
  | slc h hc hl => exact hs.elim

/-- A solid value is one value. -/
theorem VR.solid_one {A A' : ι → Option Loc} {v : AV ι} {u u' : Value} (h : VR A v u) (hs : v.solid) (h' : VR A' v u') : u = u' := by
  induction h generalizing u' with
  | undef v => exact hs.elim
  | bool b => cases h'; rfl
  | int k n => cases h'; rfl
  | str s => cases h'; rfl
  | nilptr => cases h'; rfl
  | ptr off h => exact hs.elim
  | nilslice => cases h'; rfl
  | empty x off esz h => exact hs.elim
  | slice h hc hx hl => exact hs.elim
  | ints k l => cases h'; rfl
  | agg hl h ho ih =>
    simp only [AV.solid, AV.solidL_iff] at hs
    cases h' with
    | agg hl' h' ho' =>
      congr 1
      apply Array.ext
      · omega
      · intro i h1 h2
        exact ih i (by omega) h1 (hs i (by omega)) (h' i (by omega) h2)
  | tuple hl h ih =>
    simp only [AV.solid, AV.solidL_iff] at hs
    cases h' with
    | tuple hl' h' =>
      congr 1
      apply Array.ext
      · omega
      · intro i h1 h2
        exact ih i (by omega) h1 (hs i (by omega)) (h' i (by omega) h2)
  | nilfunc => cases h'; rfl
  | func hl h ih =>
    simp only [AV.solid, AV.solidL_iff] at hs
    cases h' with
    | func hl' h' =>
      congr 1
      apply Array.ext
      · omega
      · intro i h1 h2
        exact ih i (by omega) h1 (hs i (by omega)) (h' i (by omega) h2)
  | niliface => cases h'; rfl
  | iface h ih => cases h' with | iface h' => rw [ih hs h']
  | nilmap => cases h'; rfl
  | map_ h => exact hs.elim
  | slc h hc hl => exact hs.elim
end

structure St (α : Type) where
  tmps : Tm (Id α)
  rows : Rows α

def St.put {α : Type} (st : St α) (d : Option Tmp) (v : AV (Id α)) : St α :=
  match d with
  | some d => ⟨(d, v) :: st.tmps, st.rows⟩
  | none => st

section
variable {α : Type}

def VRa (A : Id α → Option Loc) (l : List (AV (Id α))) (vs : Array Value) : Prop := l.length = vs.size ∧ ∀ (i : Nat) (h1 : i < l.length) (h2 : i < vs.size), VR A l[i] vs[i]

theorem VRa.mono {A A' : Id α → Option Loc} (hA : ∀ id L, A id = some L → A' id = some L) {l : List (AV (Id α))} {vs : Array Value} (h : VRa A l vs) : VRa A' l vs := ⟨h.1, fun i h1 h2 => (h.2 i h1 h2).mono hA⟩

/-- n: how many slots the frame has; m: how many rows may be changed. -/
structure Sz where
  n : Nat
  m : Nat
structure RelAt (c : Cx α) (n : Sz) (ro : List Loc) (st : St α) (a : Act) (w : World) : Prop where
  defers : a.defers = []
  size : a.tmps.size = n.n
  tmps : ∀ t, VR (c.addr ro) (tget st.tmps t) (a.tmps.getD t undef)
  sim : Sim c ro st.rows w
  rm : c.rm.length = n.m
  pin : ∀ (k : Nat) (L : Loc), c.rm[k]? = some L → ro[k]? = some L
def Rel (c : Cx α) (n : Sz) (st : St α) (a : Act) (w : World) : Prop := ∃ ro, RelAt c n ro st a w

theorem RelAt.ev {c : Cx α} {n : Sz} {ro : List Loc} {st : St α} {a : Act} {w : World} (h : RelAt c n ro st a w) (x : Operand) : VR (c.addr ro) (ev st.tmps x) (a.eval x) := by
  cases x with
  | tmp t => exact h.tmps t
  | const v => exact ofV_VR _ v
  | global g => exact .undef _
  | func f => exact .func rfl (fun i h1 h2 => by simp at h1)

theorem RelAt.kp {c : Cx α} {n : Sz} {ro : List Loc} {st : St α} {a : Act} {w w' : World} (h : RelAt c n ro st a w) (hk : Kp w w') : RelAt c n ro st a w' := ⟨h.defers, h.size, h.tmps, h.sim.kp hk, h.rm, h.pin⟩
theorem Rel.kp {c : Cx α} {n : Sz} {st : St α} {a : Act} {w w' : World} (h : Rel c n st a w) (hk : Kp w w') : Rel c n st a w' := let ⟨ro, h⟩ := h; ⟨ro, h.kp hk⟩
def dstOk (n : Nat) : Option Tmp → Prop
  | none => True
  | some d => d < n
theorem RelAt.put {c : Cx α} {n : Sz} {ro : List Loc} {st : St α} {a : Act} {w : World} (h : RelAt c n ro st a w) {d : Option Tmp} (hd : dstOk n.n d) {v : AV (Id α)} {u : Value} (hv : VR (c.addr ro) v u) : RelAt c n ro (st.put d v) (a.put d u) w := by
  cases d with
  | none => exact h
  | some d =>
    have hd' : d < a.tmps.size := by rw [h.size]; exact hd
    refine ⟨h.defers, by simp [Act.put, h.size], fun t => ?_, h.sim, h.rm, h.pin⟩
    simp only [St.put, tget, Act.put]
    by_cases hdt : d = t
    · subst hdt
      rw [if_pos rfl]
      simpa [Array.getD, hd'] using hv
    · rw [if_neg hdt]
      have := h.tmps t
      simpa [Array.getD_eq_getD_getElem?, Array.getElem?_setIfInBounds_ne hdt] using this

/-! ### Contracts -/
/-- The function, called: what it hands back, and the rows behind the call. muts: rows that it may change. -/
def FnOk (P : Program) (f : FuncId) (E : α → Option (Row α)) (args : List (AV (Id α))) (muts : Rows α) (res : AV (Id α)) (rows' : Rows α) : Prop :=
  (∀ args w, (callFunc f args).run P w = .ok (.enter f args) w) ∧
  ∀ (re : α → Option Loc) (ro : List Loc) (w0 : World) (vs : Array Value), CxOk ⟨E, re, ro, w0⟩ → Sim ⟨E, re, ro, w0⟩ ro muts w0 → VRa (Cx.addr ⟨E, re, ro, w0⟩ ro) args vs →
    Calls P f vs w0 fun e w' => ∃ v ro', e = .returned v ∧ VR (Cx.addr ⟨E, re, ro, w0⟩ ro') res v ∧ Sim ⟨E, re, ro, w0⟩ ro' rows' w' ∧ (∀ id L, Cx.addr ⟨E, re, ro, w0⟩ ro id = some L → Cx.addr ⟨E, re, ro, w0⟩ ro' id = some L)

/-- The same, where what is handed back, and the rows behind, are told by a property. -/
def FnOkP (P : Program) (f : FuncId) (E : α → Option (Row α)) (args : List (AV (Id α))) (muts : Rows α) (R : AV (Id α) → Rows α → Prop) : Prop :=
  (∀ args w, (callFunc f args).run P w = .ok (.enter f args) w) ∧
  ∀ (re : α → Option Loc) (ro : List Loc) (w0 : World) (vs : Array Value), CxOk ⟨E, re, ro, w0⟩ → Sim ⟨E, re, ro, w0⟩ ro muts w0 → VRa (Cx.addr ⟨E, re, ro, w0⟩ ro) args vs →
    Calls P f vs w0 fun e w' => ∃ v ro' res rows', R res rows' ∧ e = .returned v ∧ VR (Cx.addr ⟨E, re, ro, w0⟩ ro') res v ∧ Sim ⟨E, re, ro, w0⟩ ro' rows' w' ∧ (∀ id L, Cx.addr ⟨E, re, ro, w0⟩ ro id = some L → Cx.addr ⟨E, re, ro, w0⟩ ro' id = some L)
theorem FnOk.toP {P : Program} {f : FuncId} {E : α → Option (Row α)} {args : List (AV (Id α))} {muts : Rows α} {res : AV (Id α)} {rows' : Rows α} (h : FnOk P f E args muts res rows') {R : AV (Id α) → Rows α → Prop} (hR : R res rows') : FnOkP P f E args muts R :=
  ⟨h.1, fun re ro w0 vs hc hs hv => (h.2 re ro w0 vs hc hs hv).mono fun e w' ⟨v, ro', h1, h2, h3, h4⟩ => ⟨v, ro', res, rows', hR, h1, h2, h3, h4⟩⟩
theorem FnOkP.mono {P : Program} {f : FuncId} {E : α → Option (Row α)} {args : List (AV (Id α))} {muts : Rows α} {R R' : AV (Id α) → Rows α → Prop} (h : FnOkP P f E args muts R) (hR : ∀ res rows', R res rows' → R' res rows') : FnOkP P f E args muts R' :=
  ⟨h.1, fun re ro w0 vs hc hs hv => (h.2 re ro w0 vs hc hs hv).mono fun e w' ⟨v, ro', res, rows', h0, h1, h2, h3, h4⟩ => ⟨v, ro', res, rows', hR _ _ h0, h1, h2, h3, h4⟩⟩

/-- Back in the caller: the callee's new rows come behind the caller's. -/
def down (n : Nat) : Id (Id α) → Id α
  | .own k => .own (n + k)
  | .ext x => x

theorem call_pureP {P : Program} {c : Cx α} {ro : List Loc} {rows : Rows α} {w : World} (hc : CxOk c) (hs : Sim c ro rows w) {f : FuncId} {args : List (AV (Id α))} {vs : Array Value} (hv : VRa (c.addr ro) args vs)
    {R : AV (Id (Id α)) → Rows (Id α) → Prop} (h : FnOkP P f (look c.E rows) (AV.mapL .ext args) [] R) :
    Calls P f vs w fun e w' => ∃ res rows' v ro', R res rows' ∧ e = .returned v ∧ VR (c.addr ro') (res.map (down rows.length)) v ∧ Sim c ro' (rows ++ rows'.map (Option.map (Row.map (down rows.length)))) w' ∧ (∀ id L, c.addr ro id = some L → c.addr ro' id = some L) ∧ Kp w w' ∧ ∃ A0, VR A0 res v := by
  have hcok : CxOk (⟨look c.E rows, c.addr ro, [], w⟩ : Cx (Id α)) := ⟨fun x r hr => hs.cell hc hr, fun x r L _ _ _ M hM => by cases hM⟩
  have hs0 : Sim (⟨look c.E rows, c.addr ro, [], w⟩ : Cx (Id α)) [] [] w := ⟨rfl, rfl, rfl, rfl, Nat.le_refl _, fun _ _ _ => rfl, fun k r h => by simp at h, fun k k' r r' L L' _ h => by simp at h, fun k L h => by simp at h⟩
  refine (h.2 (c.addr ro) [] w vs hcok hs0 ⟨by rw [AV.mapL_eq]; simpa using hv.1, fun i h1 h2 => ?_⟩).mono ?_
  · simp only [AV.mapL_eq, List.getElem_map]
    exact VR.map (f := Id.ext) (fun id L h => h) (hv.2 i (by simpa [AV.mapL_eq] using h1) h2)
  · rintro e w' ⟨v, ro', res, rows', hR, rfl, hvr, hsim, _⟩
    have hk : Kp w w' := ⟨hsim.os, hsim.tape, hsim.output, hsim.size, fun b hb => hsim.frame b hb (fun M hM => by cases hM)⟩
    have hsk := hs.kp hk
    have hlen : (ro ++ ro').length = (rows ++ rows'.map (Option.map (Row.map (down rows.length)))).length := by simp [hs.len, hsim.len]
    have mono : ∀ id L, c.addr ro id = some L → c.addr (ro ++ ro') id = some L := by
      intro id M h
      cases id with
      | own k => simp only [Cx.addr] at h ⊢; rw [List.getElem?_append_left (List.getElem?_eq_some_iff.1 h).1]; exact h
      | ext x => exact h
    have hdown : ∀ id L, Cx.addr (⟨look c.E rows, c.addr ro, [], w⟩ : Cx (Id α)) ro' id = some L → c.addr (ro ++ ro') (down rows.length id) = some L := by
      intro id L h
      cases id with
      | own k =>
        simp only [Cx.addr, down] at h ⊢
        rw [List.getElem?_append_right (by rw [hs.len]; omega), hs.len]
        rw [show rows.length + k - rows.length = k by omega]; exact h
      | ext x => exact mono _ _ h
    -- a live row is an old one or a new one
    have hsp : ∀ (k : Nat) (r : Row (Id α)), (rows ++ rows'.map (Option.map (Row.map (down rows.length))))[k]? = some (some r) →
        (k < rows.length ∧ rows[k]? = some (some r)) ∨ (rows.length ≤ k ∧ ∃ r0, rows'[k - rows.length]? = some (some r0) ∧ r = r0.map (down rows.length)) := by
      intro k r hk
      rcases Nat.lt_or_ge k rows.length with h1 | h1
      · rw [List.getElem?_append_left h1] at hk; exact .inl ⟨h1, hk⟩
      · rw [List.getElem?_append_right h1, List.getElem?_map, Option.map_eq_some_iff] at hk
        obtain ⟨o, ho, h2⟩ := hk
        cases o with
        | none => simp at h2
        | some r0 => simp at h2; exact .inr ⟨h1, r0, ho, h2.symm⟩
    have hol : ∀ (k : Nat) (L : Loc), k < rows.length → (ro ++ ro')[k]? = some L → ro[k]? = some L := fun k L hk hL => by rwa [List.getElem?_append_left (by rw [hs.len]; exact hk)] at hL
    have hor : ∀ (k : Nat) (L : Loc), rows.length ≤ k → (ro ++ ro')[k]? = some L → ro'[k - rows.length]? = some L := fun k L hk hL => by rwa [List.getElem?_append_right (by rw [hs.len]; exact hk), hs.len] at hL
    have holdb : ∀ (k : Nat) (r : Row (Id α)) (L : Loc), rows[k]? = some (some r) → ro[k]? = some L → L.lim ≠ 0 → L.b < w.heap.size := by
      intro k r L hk hL h0
      obtain ⟨L1, e1, _, _, e4⟩ := hs.own k r hk
      rw [hL] at e1; cases e1
      obtain ⟨cs1, ty1, e5, _⟩ := e4 h0
      exact e5.lt
    have hnewb : ∀ (k : Nat) (r : Row (Id (Id α))) (L : Loc), rows'[k]? = some (some r) → ro'[k]? = some L → L.lim ≠ 0 → w.heap.size ≤ L.b := by
      intro k r L hk hL h0
      rcases hsim.fresh k r L hk hL h0 with h | ⟨M, hM, _⟩
      · exact h
      · cases hM
    refine ⟨res, rows', v, ro ++ ro', hR, rfl, hvr.map hdown, ?_, mono, hk, _, hvr⟩
    exact {
      len := hlen, os := hsk.os, tape := hsk.tape, output := hsk.output, size := hsk.size, frame := hsk.frame
      own := fun k r hr => by
        rcases hsp k r hr with ⟨h1, h2⟩ | ⟨h1, r0, h2, rfl⟩
        · obtain ⟨L, g1, g2, g3, g4⟩ := hsk.own k r h2
          refine ⟨L, by rw [List.getElem?_append_left (by rw [hs.len]; exact h1)]; exact g1, g2, g3, fun h0 => ?_⟩
          obtain ⟨cs, ty, g5, g6, g7⟩ := g4 h0
          exact ⟨cs, ty, g5, g6, fun j v hv => let ⟨u, hu, hcr⟩ := g7 j v hv; ⟨u, hu, hcr.mono mono⟩⟩
        · obtain ⟨L, g1, g2, g3, g4⟩ := hsim.own _ r0 h2
          refine ⟨L, by rw [List.getElem?_append_right (by rw [hs.len]; exact h1), hs.len]; exact g1, g2, by rw [Row.len_map]; exact g3, fun h0 => ?_⟩
          obtain ⟨cs, ty, g5, g6, g7⟩ := g4 h0
          refine ⟨cs, ty, by rw [Row.kd_map]; exact g5, g6, fun j v hv => ?_⟩
          rw [Row.get?_map, Option.map_eq_some_iff] at hv
          obtain ⟨v0, hv0, rfl⟩ := hv
          obtain ⟨u, hu, hcr⟩ := g7 j v0 hv0
          exact ⟨u, hu, hcr.1.map hdown, hcr.2⟩
      inj := fun k k' r r' L L' hne hr hr' hL hL' z z' => by
        rcases hsp k r hr with ⟨h1, h2⟩ | ⟨h1, r0, h2, rfl⟩
        · rcases hsp k' r' hr' with ⟨h1', h2'⟩ | ⟨h1', r0', h2', rfl⟩
          · exact hs.inj k k' r r' L L' hne h2 h2' (hol k L h1 hL) (hol k' L' h1' hL') z z'
          · have a1 := holdb k r L h2 (hol k L h1 hL) z
            have a2 := hnewb _ r0' L' h2' (hor k' L' h1' hL') z'
            omega
        · rcases hsp k' r' hr' with ⟨h1', h2'⟩ | ⟨h1', r0', h2', rfl⟩
          · have a1 := holdb k' r' L' h2' (hol k' L' h1' hL') z'
            have a2 := hnewb _ r0 L h2 (hor k L h1 hL) z
            omega
          · exact hsim.inj (k - rows.length) (k' - rows.length) r0 r0' L L' (by omega) h2 h2' (hor k L h1 hL) (hor k' L' h1' hL') z z'
      fra := fun k L hL z => by
        rcases Nat.lt_or_ge k rows.length with h1 | h1
        · exact hs.fra k L (hol k L h1 hL) z
        · rcases hsim.fra _ L (hor k L h1 hL) z with h | ⟨M, hM, _⟩
          · exact .inl (Nat.le_trans hs.size h)
          · cases hM }
theorem call_pure {P : Program} {c : Cx α} {ro : List Loc} {rows : Rows α} {w : World} (hc : CxOk c) (hs : Sim c ro rows w) {f : FuncId} {args : List (AV (Id α))} {vs : Array Value} (hv : VRa (c.addr ro) args vs)
    {res : AV (Id (Id α))} {rows' : Rows (Id α)} (h : FnOk P f (look c.E rows) (AV.mapL .ext args) [] res rows') :
    Calls P f vs w fun e w' => ∃ v ro', e = .returned v ∧ VR (c.addr ro') (res.map (down rows.length)) v ∧ Sim c ro' (rows ++ rows'.map (Option.map (Row.map (down rows.length)))) w' ∧ (∀ id L, c.addr ro id = some L → c.addr ro' id = some L) ∧ Kp w w' ∧ ∃ A0, VR A0 res v := by
  refine (call_pureP hc hs hv (h.toP (R := fun r s => r = res ∧ s = rows') ⟨rfl, rfl⟩)).mono ?_
  rintro e w' ⟨r, s, v, ro', ⟨rfl, rfl⟩, hh⟩
  exact ⟨v, ro', hh⟩
end
end Go.Proofs.Ytopiceaeombefaa.Sy

namespace Go.Proofs.Ytopiceaeombefaa.Sy
open Go Go.RowKit

section
variable {ι κ : Type}
theorem VR.unmap {A : κ → Option Loc} {A' : ι → Option Loc} {f : ι → κ} {x : AV κ} {u : Value} (h : VR A x u) : ∀ v : AV ι, x = v.map f → (v.All fun id => ∀ L, A (f id) = some L → A' id = some L) → VR A' v u := by
  induction h with
  | undef u => intro v hv ha; cases v <;> simp [AV.map] at hv; exact .undef _
  | bool b => intro v hv ha; cases v <;> simp [AV.map] at hv; subst hv; exact .bool _
  | int k n => intro v hv ha; cases v <;> simp [AV.map] at hv; obtain ⟨rfl, rfl⟩ := hv; exact .int _ _
  | str s => intro v hv ha; cases v <;> simp [AV.map] at hv; subst hv; exact .str _
  | nilptr => intro v hv ha; cases v <;> simp [AV.map] at hv; exact .nilptr
  | ptr off h => intro v hv ha; cases v <;> simp [AV.map] at hv; obtain ⟨rfl, rfl⟩ := hv; exact .ptr _ (ha _ h)
  | nilslice => intro v hv ha; cases v <;> simp [AV.map] at hv; exact .nilslice
  | empty x off esz h => intro v hv ha; cases v <;> simp [AV.map] at hv; obtain ⟨rfl, rfl, rfl, rfl, rfl⟩ := hv; exact .empty _ _ _ (ha _ h)
  | slice h hc hx hl => intro v hv ha; cases v <;> simp [AV.map] at hv; obtain ⟨rfl, rfl, rfl, rfl, rfl⟩ := hv; exact .slice (ha _ h) hc hx hl
  | ints k l => intro v hv ha; cases v <;> simp [AV.map] at hv; obtain ⟨rfl, rfl⟩ := hv; exact .ints _ _
  | agg hl h ho ih =>
    intro v hv ha
    cases v <;> simp [AV.map] at hv
    rename_i l'
    subst hv
    rw [AV.mapL_eq] at hl ih
    simp only [AV.All, AV.AllL_iff] at ha
    refine .agg (by simpa using hl) (fun i h1 h2 => ih i (by simpa using h1) h2 _ (by simp) (ha i h1)) ho
  | tuple hl h ih =>
    intro v hv ha
    cases v <;> simp [AV.map] at hv
    rename_i l'
    subst hv
    rw [AV.mapL_eq] at hl ih
    simp only [AV.All, AV.AllL_iff] at ha
    refine .tuple (by simpa using hl) (fun i h1 h2 => ih i (by simpa using h1) h2 _ (by simp) (ha i h1))
  | nilfunc => intro v hv ha; cases v <;> simp [AV.map] at hv; exact .nilfunc
  | func hl h ih =>
    intro v hv ha
    cases v <;> simp [AV.map] at hv
    rename_i g l'
    obtain ⟨rfl, hv⟩ := hv
    subst hv
    rw [AV.mapL_eq] at hl ih
    simp only [AV.All, AV.AllL_iff] at ha
    refine .func (by simpa using hl) (fun i h1 h2 => ih i (by simpa using h1) h2 _ (by simp) (ha i h1))
  | niliface => intro v hv ha; cases v <;> simp [AV.map] at hv; exact .niliface
  | iface h ih =>
    intro v hv ha
    cases v <;> simp [AV.map] at hv
    obtain ⟨rfl, rfl⟩ := hv
    exact .iface (ih _ rfl ha)
  | nilmap => intro v hv ha; cases v <;> simp [AV.map] at hv; exact .nilmap
  | map_ h => intro v hv ha; cases v <;> simp [AV.map] at hv; subst hv; exact .map_ (ha _ h)
  | slc h hc hl => intro v hv ha; cases v <;> simp [AV.map] at hv; obtain ⟨rfl, rfl, rfl, rfl, rfl⟩ := hv; exact .slc (ha _ h) hc hl

def Row.All (p : ι → Prop) : Row ι → Prop
  | .ints _ _ => True
  | .mixed l => AV.AllL p l
  | .frz _ _ => True
  | .obj v => v.All p
theorem Row.All_get {p : ι → Prop} {r : Row ι} (h : r.All p) {j : Nat} {v : AV ι} (hv : r.get? j = some v) : v.All p := by
  cases r with
  | ints k l => simp only [Row.get?, Option.map_eq_some_iff] at hv; obtain ⟨n, _, rfl⟩ := hv; trivial
  | frz k l => simp only [Row.get?, Option.map_eq_some_iff] at hv; obtain ⟨n, _, rfl⟩ := hv; trivial
  | mixed l =>
    simp only [Row.All, AV.AllL_iff] at h
    obtain ⟨h1, rfl⟩ := List.getElem?_eq_some_iff.1 hv
    exact h j h1
  | obj v => simp only [Row.get?] at hv; split at hv <;> cases hv; exact h

mutual
theorem AV.All.imp {p q : ι → Prop} (h : ∀ id, p id → q id) : ∀ v : AV ι, v.All p → v.All q
  | .undef, hv => hv
  | .bool _, hv => hv
  | .int _ _, hv => hv
  | .str _, hv => hv
  | .nilptr, hv => hv
  | .ptr _ _, hv => h _ hv
  | .nilslice, hv => hv
  | .slice _ _ _ _ _, hv => h _ hv
  | .ints _ _, hv => hv
  | .agg l, hv => AV.AllL.imp h l hv
  | .tuple l, hv => AV.AllL.imp h l hv
  | .nilfunc, hv => hv
  | .func _ l, hv => AV.AllL.imp h l hv
  | .niliface, hv => hv
  | .iface _ v, hv => AV.All.imp h v hv
  | .nilmap, hv => hv
  | .map_ _, hv => h _ hv
  | .slc _ _ _ _ _, hv => h _ hv
theorem AV.AllL.imp {p q : ι → Prop} (h : ∀ id, p id → q id) : ∀ l : List (AV ι), AV.AllL p l → AV.AllL q l
  | [], hv => hv
  | v :: r, hv => ⟨AV.All.imp h v hv.1, AV.AllL.imp h r hv.2⟩
end
end

section
variable {α : Type}

/-- own names below n alone. -/
def inS (n : Nat) : Id α → Prop
  | .own k => k < n
  | .ext _ => True

/-! ### A call that changes rows of its caller -/
/-- The callee's names, seen from the caller: its rows are the caller's rows ms. -/
def upM (ms : List Nat) : Id (Id α) → Id α
  | .own j => .own (ms.getD j 0)
  | .ext x => x
/-- Back in the caller: new rows come behind. -/
def backM (n : Nat) (ms : List Nat) : Id (Id α) → Id α
  | .own j => if j < ms.length then .own (ms.getD j 0) else .own (n + (j - ms.length))
  | .ext x => x
def hideM : List Nat → Rows α → Rows α
  | [], rows => rows
  | m :: ms, rows => hideM ms (rows.set m none)
def mutRow (rows : Rows α) (ms : List Nat) (s : Nat) : Option (Row (Id (Id α))) → Prop
  | none => False
  | some q => rows[s]? = some (some (q.map (upM ms))) ∧ q.All (inS ms.length)
def mutRows (rows : Rows α) (ms : List Nat) : List Nat → Rows (Id α) → Prop
  | [], [] => True
  | s :: ss, r :: rs => mutRow rows ms s r ∧ mutRows rows ms ss rs
  | _, _ => False
def setM : List Nat → Rows α → Rows α → Rows α
  | m :: ms, r :: rs, rows => setM ms rs (rows.set m r)
  | _, _, rows => rows
/-- The rows behind the call. -/
def afterM (ms : List Nat) (rows : Rows α) (rows' : Rows (Id α)) : Rows α :=
  setM ms (rows'.map (Option.map (Row.map (backM rows.length ms)))) rows ++ (rows'.map (Option.map (Row.map (backM rows.length ms)))).drop ms.length

theorem mutRows_get {rows : Rows α} {ms : List Nat} : ∀ {ss : List Nat} {rows' : Rows (Id α)}, mutRows rows ms ss rows' → rows'.length = ss.length ∧ (∀ (k : Nat) (s : Nat), ss[k]? = some s → ∃ r, rows[s]? = some (some r)) ∧ ∀ (k : Nat) (r : Row (Id (Id α))), rows'[k]? = some (some r) → ∃ s, ss[k]? = some s ∧ rows[s]? = some (some (r.map (upM ms))) ∧ r.All (inS ms.length)
  | [], [], _ => ⟨rfl, fun k s h => by simp at h, fun k r h => by simp at h⟩
  | [], _ :: _, h => h.elim
  | _ :: _, [], h => h.elim
  | s :: ss, r' :: rs', h => by
    obtain ⟨h1, h2⟩ := h
    obtain ⟨h3, h5, h4⟩ := mutRows_get h2
    cases r' with
    | none => exact h1.elim
    | some q =>
      refine ⟨by simp [h3], fun k t hk => ?_, fun k r hk => ?_⟩
      · cases k with
        | zero => simp at hk; subst hk; exact ⟨_, h1.1⟩
        | succ k => exact h5 k t (by simpa using hk)
      · cases k with
        | zero =>
          simp at hk
          subst hk
          exact ⟨s, by simp, h1.1, h1.2⟩
        | succ k => simpa using h4 k r (by simpa using hk)
theorem hideM_get : ∀ {ms : List Nat} {rows : Rows α} {k : Nat} {r : Row (Id α)}, (hideM ms rows)[k]? = some (some r) → k ∉ ms ∧ rows[k]? = some (some r)
  | [], rows, k, r, h => ⟨by simp, h⟩
  | m :: ms, rows, k, r, h => by
    obtain ⟨h1, h2⟩ := hideM_get (ms := ms) h
    rw [List.getElem?_set] at h2
    split at h2
    · split at h2 <;> cases h2
    · rename_i hne
      exact ⟨by simp only [List.mem_cons, not_or]; exact ⟨fun e => hne e.symm, h1⟩, h2⟩
theorem setM_len : ∀ {ms : List Nat} {R rows : Rows α}, (setM ms R rows).length = rows.length
  | [], R, rows => by simp [setM]
  | m :: ms, [], rows => by simp [setM]
  | m :: ms, r :: R, rows => by rw [setM, setM_len, List.length_set]
theorem setM_off : ∀ {ms : List Nat} {R rows : Rows α} {k : Nat}, k ∉ ms → (setM ms R rows)[k]? = rows[k]?
  | [], R, rows, k, h => by simp [setM]
  | m :: ms, [], rows, k, h => by simp [setM]
  | m :: ms, r :: R, rows, k, h => by
    simp only [List.mem_cons, not_or] at h
    rw [setM, setM_off h.2, List.getElem?_set_ne (fun e => h.1 e.symm)]
theorem setM_on : ∀ {ms : List Nat} {R rows : Rows α} {j k : Nat}, ms.Nodup → ms.length ≤ R.length → ms[j]? = some k → k < rows.length → (setM ms R rows)[k]? = R[j]?
  | [], R, rows, j, k, _, _, h, _ => by simp at h
  | m :: ms, [], rows, j, k, _, hl, _, _ => by simp at hl
  | m :: ms, r :: R, rows, j, k, hn, hl, h, hk => by
    rw [setM]
    rw [List.nodup_cons] at hn
    cases j with
    | zero =>
      simp at h; subst h
      rw [setM_off hn.1, List.getElem?_set_self hk]
      rfl
    | succ j =>
      rw [setM_on hn.2 (by simpa using hl) (by simpa using h) (by simpa using hk)]
      simp

theorem call_mut {P : Program} {c : Cx α} {ro : List Loc} {rows : Rows α} {w : World} (hc : CxOk c) (hs : Sim c ro rows w) {f : FuncId} {args : List (AV (Id (Id α)))} {vs : Array Value} {ms : List Nat} {muts : Rows (Id α)}
    (hn : ms.Nodup) (hm : mutRows rows ms ms muts) (hv : VRa (c.addr ro) (args.map (AV.map (upM ms))) vs) (ha : AV.AllL (inS ms.length) args)
    {res : AV (Id (Id α))} {rows' : Rows (Id α)} (h : FnOk P f (look c.E (hideM ms rows)) args muts res rows') :
    Calls P f vs w fun e w' => ∃ v ro', e = .returned v ∧ VR (c.addr ro') (res.map (backM rows.length ms)) v ∧ Sim c ro' (afterM ms rows rows') w' ∧ (∀ id L, c.addr ro id = some L → c.addr ro' id = some L) := by
  obtain ⟨hml, hmlive, hmrow⟩ := mutRows_get hm
  -- the callee's rows
  have hlt : ∀ (j k : Nat), ms[j]? = some k → k < ro.length := fun j k hj => by
    obtain ⟨r, hr⟩ := hmlive j k hj
    rw [hs.len]; exact (List.getElem?_eq_some_iff.1 hr).1
  obtain ⟨rm, hrm⟩ : ∃ rm : List Loc, rm = ms.map fun s => ro.getD s ⟨0, 0, 0⟩ := ⟨_, rfl⟩
  have hrl : rm.length = ms.length := by rw [hrm]; simp
  have hget : ∀ (j k : Nat) (L : Loc), ms[j]? = some k → ro[k]? = some L → rm[j]? = some L := by
    intro j k L hj hL
    rw [hrm, List.getElem?_map, hj]
    simp [List.getD_eq_getElem?_getD, hL]
  have hback : ∀ (j : Nat) (L : Loc), rm[j]? = some L → ∃ k, ms[j]? = some k ∧ ro[k]? = some L := by
    intro j L hL
    rw [hrm, List.getElem?_map, Option.map_eq_some_iff] at hL
    obtain ⟨k, hk, hL⟩ := hL
    have := hlt j k hk
    refine ⟨k, hk, ?_⟩
    rw [List.getElem?_eq_getElem this]
    rw [List.getD_eq_getElem?_getD, List.getElem?_eq_getElem this] at hL
    simpa using hL
  have hmem : ∀ M ∈ rm, ∃ (j k : Nat), ms[j]? = some k ∧ ro[k]? = some M := fun M hM => by
    obtain ⟨j, hj⟩ := List.getElem?_of_mem hM
    obtain ⟨k, hk⟩ := hback j M hj
    exact ⟨j, k, hk⟩
  have hgetD : ∀ (j k : Nat), ms[j]? = some k → ms.getD j 0 = k := fun j k hj => by rw [List.getD_eq_getElem?_getD, hj]; rfl
  have hA : ∀ (v : AV (Id (Id α))) (u : Value), VR (c.addr ro) (v.map (upM ms)) u → v.All (inS ms.length) → VR (Cx.addr (⟨look c.E (hideM ms rows), c.addr ro, rm, w⟩ : Cx (Id α)) rm) v u := by
    intro v u hv ha
    refine VR.unmap hv v rfl (AV.All.imp (fun id hid L hL => ?_) v ha)
    cases id with
    | own j =>
      have hj : j < ms.length := hid
      simp only [upM, Cx.addr] at hL ⊢
      have e : ms[j]? = some (ms.getD j 0) := by rw [List.getD_eq_getElem?_getD, List.getElem?_eq_getElem hj]; rfl
      exact hget j _ L e hL
    | ext x => exact hL
  have hold : ∀ (k : Nat) (r : Row (Id α)) (L : Loc), rows[k]? = some (some r) → ro[k]? = some L → L.lim ≠ 0 → L.b < w.heap.size := by
    intro k r L hk hL h0
    obtain ⟨L1, e1, _, _, e4⟩ := hs.own k r hk
    rw [hL] at e1; cases e1
    obtain ⟨cs1, ty1, e5, _⟩ := e4 h0
    exact e5.lt
  -- an old row that isn't handed over lies apart from those that are
  have hoff : ∀ (k : Nat) (r : Row (Id α)) (L : Loc), k ∉ ms → rows[k]? = some (some r) → ro[k]? = some L → L.lim ≠ 0 → ∀ M ∈ rm, M.lim ≠ 0 → L.b ≠ M.b := by
    intro k r L hk hr hL h0 M hM h0'
    obtain ⟨j, k', hj, hL'⟩ := hmem M hM
    obtain ⟨r', hr'⟩ := hmlive j k' hj
    exact hs.inj k k' r r' L M (fun e => hk (e ▸ List.mem_of_getElem? hj)) hr hr' hL hL' h0 h0'
  have hcok : CxOk (⟨look c.E (hideM ms rows), c.addr ro, rm, w⟩ : Cx (Id α)) := by
    refine ⟨fun x r hr => ?_, fun x r L hr hL hlen M hM h0 => ?_⟩
    · have hl : look c.E rows x = some r := by
        cases x with
        | own k =>
          simp only [look] at hr ⊢
          cases ho : (hideM ms rows)[k]? with
          | none => rw [ho] at hr; cases hr
          | some o =>
            cases o with
            | none => rw [ho] at hr; cases hr
            | some r' => rw [ho] at hr; rw [(hideM_get ho).2]; exact hr
        | ext x => exact hr
      exact hs.cell hc hl
    · cases x with
      | own k =>
        simp only [look, Cx.addr] at hr hL
        cases ho : (hideM ms rows)[k]? with
        | none => rw [ho] at hr; cases hr
        | some o =>
          cases o with
          | none => rw [ho] at hr; cases hr
          | some r' =>
            rw [ho] at hr
            cases hr
            obtain ⟨g1, g2⟩ := hideM_get ho
            obtain ⟨L1, e1, _, e3, _⟩ := hs.own k r g2
            rw [hL] at e1; cases e1
            exact hoff k r L g1 g2 hL (by omega) M hM h0
      | ext x =>
        simp only [look, Cx.addr, Option.map_eq_some_iff] at hr hL
        obtain ⟨r0, hr0, rfl⟩ := hr
        rw [Row.len_map] at hlen
        obtain ⟨j, k', hj, hL'⟩ := hmem M hM
        obtain ⟨r', hr'⟩ := hmlive j k' hj
        rcases hs.fresh k' r' M hr' hL' h0 with h1 | ⟨M2, h1, h2, h3⟩
        · obtain ⟨L1, e1, e2⟩ := hc.ext x r0 hr0
          rw [hL] at e1; cases e1
          obtain ⟨u, hu, _⟩ := e2 0 _ (Row.get?_cell hlen)
          have := vcell?_lt hu
          simp only at this
          omega
        · rw [← h3]; exact hc.apart x r0 L hr0 hL hlen M2 h1 h2
  have hs0 : Sim (⟨look c.E (hideM ms rows), c.addr ro, rm, w⟩ : Cx (Id α)) rm muts w := {
    len := by rw [hrl, hml], os := rfl, tape := rfl, output := rfl, size := Nat.le_refl _, frame := fun _ _ _ => rfl
    own := fun j r hj => by
      obtain ⟨k, g0, g, hall⟩ := hmrow j r hj
      obtain ⟨L, g1, g2, g3, g4⟩ := hs.own k _ g
      refine ⟨L, hget j k L g0 g1, g2, by rw [Row.len_map] at g3; exact g3, fun h0 => ?_⟩
      obtain ⟨cs, ty, g5, g6, g7⟩ := g4 h0
      refine ⟨cs, ty, by rw [Row.kd_map] at g5; exact g5, g6, fun i v hv => ?_⟩
      obtain ⟨u, hu, hcr⟩ := g7 i (v.map (upM ms)) (by rw [Row.get?_map, hv]; rfl)
      exact ⟨u, hu, hA v u hcr.1 (Row.All_get hall hv), hcr.2⟩
    inj := fun j j' r r' L L' hne hj hj' hL hL' => by
      obtain ⟨k, g0, g, _⟩ := hmrow j r hj
      obtain ⟨k', g0', g', _⟩ := hmrow j' r' hj'
      obtain ⟨k2, a1, a2⟩ := hback j L hL
      obtain ⟨k2', a1', a2'⟩ := hback j' L' hL'
      rw [g0] at a1; cases a1
      rw [g0'] at a1'; cases a1'
      refine hs.inj k k' _ _ L L' ?_ g g' a2 a2'
      intro e
      subst e
      obtain ⟨b1, b2⟩ := List.getElem?_eq_some_iff.1 g0
      obtain ⟨b3, b4⟩ := List.getElem?_eq_some_iff.1 g0'
      exact hne ((List.getElem_inj hn).1 (b2.trans b4.symm))
    fra := fun j L hL h0 => .inr ⟨L, List.mem_of_getElem? hL, h0, rfl⟩ }
  refine (h.2 (c.addr ro) rm w vs hcok hs0 ⟨by simpa using hv.1, fun i h1 h2 => ?_⟩).mono ?_
  · have := hv.2 i (by simpa using h1) h2
    simp only [List.getElem_map] at this
    exact hA _ _ this ((AV.AllL_iff _ _).1 ha i h1)
  · rintro e w' ⟨v, ro', rfl, hvr, hsim, hpin⟩
    have hpin' : ∀ (j k : Nat) (L : Loc), ms[j]? = some k → ro[k]? = some L → ro'[j]? = some L := fun j k L hj hL => hpin (.own j) L (hget j k L hj hL)
    have hml' : ms.length ≤ ro'.length := by
      rcases Nat.lt_or_ge ro'.length ms.length with hx | hx
      · exfalso
        have hj : ms[ro'.length]? = some ms[ro'.length] := List.getElem?_eq_getElem hx
        have hk := hlt _ _ hj
        have := hpin' _ _ _ hj (List.getElem?_eq_getElem hk)
        simp at this
      · exact hx
    have hlen' : rows'.length = ro'.length := hsim.len.symm
    generalize hN : rows.length = N
    have hroN : ro.length = N := by rw [hs.len, hN]
    generalize hR : rows'.map (Option.map (Row.map (backM N ms))) = R
    have hRl : R.length = rows'.length := by rw [← hR]; simp
    have hRget : ∀ (j : Nat) (r : Row (Id α)), R[j]? = some (some r) → ∃ r0, rows'[j]? = some (some r0) ∧ r = r0.map (backM N ms) := by
      intro j r hj
      rw [← hR, List.getElem?_map, Option.map_eq_some_iff] at hj
      obtain ⟨o, ho, h2⟩ := hj
      cases o with
      | none => simp at h2
      | some r0 => simp at h2; exact ⟨r0, ho, h2.symm⟩
    -- where the callee's rows stand
    obtain ⟨bk, hbk⟩ : ∃ bk : Nat → Nat, ∀ j, bk j = if j < ms.length then ms.getD j 0 else N + (j - ms.length) := ⟨_, fun _ => rfl⟩
    have hbkid : ∀ j, (backM N ms (.own j) : Id α) = .own (bk j) := fun j => by rw [hbk]; simp only [backM]; split <;> rfl
    have F1 : ∀ (j : Nat) (L : Loc), ro'[j]? = some L → (ro ++ ro'.drop ms.length)[bk j]? = some L := by
      intro j L hL
      rw [hbk]
      split
      · rename_i hj
        have e : ms[j]? = some (ms.getD j 0) := by rw [List.getD_eq_getElem?_getD, List.getElem?_eq_getElem hj]; rfl
        have hk := hlt _ _ e
        rw [List.getElem?_append_left hk]
        have := hpin' _ _ _ e (List.getElem?_eq_getElem hk)
        rw [hL] at this; cases this
        exact List.getElem?_eq_getElem hk
      · rename_i hj
        rw [List.getElem?_append_right (by omega), hroN, List.getElem?_drop]
        rw [show ms.length + (N + (j - ms.length) - N) = j by omega]
        exact hL
    have F2 : ∀ (j : Nat) (r : Row (Id (Id α))) (L : Loc), rows'[j]? = some (some r) → (ro ++ ro'.drop ms.length)[bk j]? = some L → ro'[j]? = some L := by
      intro j r L hj hL
      have hjl : j < ro'.length := by rw [← hlen']; exact (List.getElem?_eq_some_iff.1 hj).1
      have := F1 j _ (List.getElem?_eq_getElem hjl)
      rw [hL] at this; cases this
      exact List.getElem?_eq_getElem hjl
    have mono : ∀ id L, c.addr ro id = some L → c.addr (ro ++ ro'.drop ms.length) id = some L := by
      intro id M h
      cases id with
      | own k => simp only [Cx.addr] at h ⊢; rw [List.getElem?_append_left (List.getElem?_eq_some_iff.1 h).1]; exact h
      | ext x => exact h
    have hdown : ∀ id L, Cx.addr (⟨look c.E (hideM ms rows), c.addr ro, rm, w⟩ : Cx (Id α)) ro' id = some L → c.addr (ro ++ ro'.drop ms.length) (backM N ms id) = some L := by
      intro id L h
      cases id with
      | own j => rw [hbkid]; exact F1 j L h
      | ext x => exact mono _ _ h
    have hsp : ∀ (k : Nat) (r : Row (Id α)), (setM ms R rows ++ R.drop ms.length)[k]? = some (some r) →
        (k < N ∧ k ∉ ms ∧ rows[k]? = some (some r)) ∨ (∃ j r0, bk j = k ∧ rows'[j]? = some (some r0) ∧ r = r0.map (backM N ms)) := by
      intro k r hk
      rcases Nat.lt_or_ge k N with h1 | h1
      · rw [List.getElem?_append_left (by rw [setM_len, hN]; exact h1)] at hk
        by_cases hkm : k ∈ ms
        · obtain ⟨j, hj⟩ := List.getElem?_of_mem hkm
          rw [setM_on hn (by omega) hj (by omega)] at hk
          obtain ⟨r0, a1, a2⟩ := hRget j r hk
          refine .inr ⟨j, r0, ?_, a1, a2⟩
          rw [hbk, if_pos (List.getElem?_eq_some_iff.1 hj).1, hgetD j k hj]
        · rw [setM_off hkm] at hk
          exact .inl ⟨h1, hkm, hk⟩
      · rw [List.getElem?_append_right (by rw [setM_len, hN]; exact h1), setM_len, hN, List.getElem?_drop] at hk
        obtain ⟨r0, a1, a2⟩ := hRget _ r hk
        refine .inr ⟨_, r0, ?_, a1, a2⟩
        rw [hbk, if_neg (by omega)]
        omega
    have F3 : ∀ (k : Nat) (L : Loc), k < N → (ro ++ ro'.drop ms.length)[k]? = some L → ro[k]? = some L := fun k L hk hL => by rwa [List.getElem?_append_left (by rw [hroN]; exact hk)] at hL
    have hkeep : ∀ (k : Nat) (r : Row (Id α)) (L : Loc), k ∉ ms → rows[k]? = some (some r) → ro[k]? = some L → L.lim ≠ 0 → w'.heap[L.b]? = w.heap[L.b]? := fun k r L hk hr hL h0 =>
      hsim.frame L.b (hold k r L hr hL h0) (fun M hM h0' => hoff k r L hk hr hL h0 M hM h0')
    have hcross : ∀ (k : Nat) (r : Row (Id α)) (L : Loc) (j : Nat) (r0 : Row (Id (Id α))) (L' : Loc), k ∉ ms → rows[k]? = some (some r) → ro[k]? = some L → L.lim ≠ 0 → rows'[j]? = some (some r0) → ro'[j]? = some L' → L'.lim ≠ 0 → L.b ≠ L'.b := by
      intro k r L j r0 L' hk hr hL h0 hj hL' h0'
      rcases hsim.fresh j r0 L' hj hL' h0' with h1 | ⟨M, hM, h2, h3⟩
      · have := hold k r L hr hL h0
        simp only at h1
        omega
      · rw [← h3]; exact hoff k r L hk hr hL h0 M hM h2
    refine ⟨v, ro ++ ro'.drop ms.length, rfl, hvr.map hdown, ?_, mono⟩
    unfold afterM
    rw [hN, hR]
    exact {
      len := by simp [setM_len, hN, hroN, hRl, hlen']
      os := hsim.os.trans hs.os, tape := hsim.tape.trans hs.tape, output := hsim.output.trans hs.output, size := Nat.le_trans hs.size hsim.size
      frame := fun b hb hm' => by
        refine (hsim.frame b (Nat.lt_of_lt_of_le hb hs.size) (fun M hM h0 => ?_)).trans (hs.frame b hb hm')
        obtain ⟨j, k, hj, hL⟩ := hmem M hM
        obtain ⟨r, hr⟩ := hmlive j k hj
        rcases hs.fresh k r M hr hL h0 with h1 | ⟨M2, h1, h2, h3⟩
        · omega
        · rw [← h3]; exact hm' M2 h1 h2
      own := fun k r hr => by
        rcases hsp k r hr with ⟨h1, hkm, h2⟩ | ⟨j, r0, rfl, h2, rfl⟩
        · obtain ⟨L, g1, g2, g3, g4⟩ := hs.own k r h2
          refine ⟨L, by rw [List.getElem?_append_left (by rw [hroN]; exact h1)]; exact g1, g2, g3, fun h0 => ?_⟩
          obtain ⟨cs, ty, g5, g6, g7⟩ := g4 h0
          exact ⟨cs, ty, g5.of (hkeep k r L hkm h2 g1 h0), g6, fun j v hv => let ⟨u, hu, hcr⟩ := g7 j v hv; ⟨u, hu, hcr.mono mono⟩⟩
        · obtain ⟨L, g1, g2, g3, g4⟩ := hsim.own _ r0 h2
          refine ⟨L, F1 j L g1, g2, by rw [Row.len_map]; exact g3, fun h0 => ?_⟩
          obtain ⟨cs, ty, g5, g6, g7⟩ := g4 h0
          refine ⟨cs, ty, by rw [Row.kd_map]; exact g5, g6, fun i v hv => ?_⟩
          rw [Row.get?_map, Option.map_eq_some_iff] at hv
          obtain ⟨v0, hv0, rfl⟩ := hv
          obtain ⟨u, hu, hcr⟩ := g7 i v0 hv0
          exact ⟨u, hu, hcr.1.map hdown, hcr.2⟩
      inj := fun k k' r r' L L' hne hr hr' hL hL' z z' => by
        rcases hsp k r hr with ⟨h1, hkm, h2⟩ | ⟨j, r0, rfl, h2, rfl⟩
        · rcases hsp k' r' hr' with ⟨h1', hkm', h2'⟩ | ⟨j', r0', rfl, h2', rfl⟩
          · exact hs.inj k k' r r' L L' hne h2 h2' (F3 k L h1 hL) (F3 k' L' h1' hL') z z'
          · exact hcross k r L j' r0' L' hkm h2 (F3 k L h1 hL) z h2' (F2 j' r0' L' h2' hL') z'
        · rcases hsp k' r' hr' with ⟨h1', hkm', h2'⟩ | ⟨j', r0', rfl, h2', rfl⟩
          · exact (hcross k' r' L' j r0 L hkm' h2' (F3 k' L' h1' hL') z' h2 (F2 j r0 L h2 hL) z).symm
          · exact hsim.inj j j' r0 r0' L L' (fun e => hne (by rw [e])) h2 h2' (F2 j r0 L h2 hL) (F2 j' r0' L' h2' hL') z z'
      fra := fun k L hL z => by
        rcases Nat.lt_or_ge k N with h1 | h1
        · exact hs.fra k L (F3 k L h1 hL) z
        · rw [List.getElem?_append_right (by rw [hroN]; exact h1), List.getElem?_drop] at hL
          rcases hsim.fra _ L hL z with h3 | ⟨M, hM, h4, h5⟩
          · exact .inl (Nat.le_trans hs.size h3)
          · obtain ⟨i, k, hi, hLM⟩ := hmem M hM
            rw [← h5]
            exact hs.fra k M hLM h4 }

/-- A call that may change all rows of its caller: the callee knows them by the same names. -/
theorem call_same {P : Program} {c : Cx α} {ro : List Loc} {rows : Rows α} {w : World} (hc : CxOk c) (hs : Sim c ro rows w) {f : FuncId} {args : List (AV (Id α))} {vs : Array Value} (hv : VRa (c.addr ro) args vs)
    {R : AV (Id α) → Rows α → Prop} (h : FnOkP P f c.E args rows R) :
    Calls P f vs w fun e w' => ∃ v ro' res rows', R res rows' ∧ e = .returned v ∧ VR (c.addr ro') res v ∧ Sim c ro' rows' w' ∧ (∀ id L, c.addr ro id = some L → c.addr ro' id = some L) := by
  have hcok : CxOk (⟨c.E, c.re, ro, w⟩ : Cx α) := by
    refine ⟨fun x r hr => ?_, fun x r L hr hL hlen M hM h0 => ?_⟩
    · obtain ⟨L, h1, h2⟩ := hc.ext x r hr
      refine ⟨L, h1, fun j v hv => ?_⟩
      obtain ⟨u, hu, hcr⟩ := h2 j v hv
      have hb := vcell?_lt hu
      refine ⟨u, ?_, hcr⟩
      rw [← hu]
      exact vcell?_of (hs.frame L.b hb fun M hM hz => hc.apart x r L hr h1 (by have := Row.get?_lt hv; omega) M hM hz)
    · obtain ⟨L1, e1, e2⟩ := hc.ext x r hr
      have hL' : c.re x = some L := hL
      rw [hL'] at e1; cases e1
      obtain ⟨k, hk⟩ := List.getElem?_of_mem hM
      rcases hs.fra k M hk h0 with h1 | ⟨M2, h1, h2, h3⟩
      · obtain ⟨u, hu, _⟩ := e2 0 _ (Row.get?_cell hlen)
        have := vcell?_lt hu
        simp only at this
        omega
      · rw [← h3]; exact hc.apart x r L hr hL' hlen M2 h1 h2
  have haddr : ∀ ro2, Cx.addr (⟨c.E, c.re, ro, w⟩ : Cx α) ro2 = c.addr ro2 := fun ro2 => by funext id; cases id <;> rfl
  have hs0 : Sim (⟨c.E, c.re, ro, w⟩ : Cx α) ro rows w := {
    len := hs.len, os := rfl, tape := rfl, output := rfl, size := Nat.le_refl _, frame := fun _ _ _ => rfl
    own := by rw [haddr]; exact hs.own
    inj := hs.inj
    fra := fun k L hL h0 => .inr ⟨L, List.mem_of_getElem? hL, h0, rfl⟩ }
  refine (h.2 c.re ro w vs hcok hs0 (by rw [haddr]; exact hv)).mono ?_
  rintro e w' ⟨v, ro', res, rows', hR, rfl, hvr, hsim, hpin⟩
  rw [haddr] at hvr
  refine ⟨v, ro', res, rows', hR, rfl, hvr, ?_, fun id L hL => ?_⟩
  · exact {
      len := hsim.len, os := hsim.os.trans hs.os, tape := hsim.tape.trans hs.tape, output := hsim.output.trans hs.output, size := Nat.le_trans hs.size hsim.size
      frame := fun b hb hm => by
        refine (hsim.frame b (Nat.lt_of_lt_of_le hb hs.size) (fun M hM h0 => ?_)).trans (hs.frame b hb hm)
        obtain ⟨k, hk⟩ := List.getElem?_of_mem hM
        rcases hs.fra k M hk h0 with h1 | ⟨M2, h1, h2, h3⟩
        · omega
        · rw [← h3]; exact hm M2 h1 h2
      own := by have := hsim.own; rw [haddr] at this; exact this
      inj := hsim.inj
      fra := fun k L hL h0 => by
        rcases hsim.fra k L hL h0 with h1 | ⟨M, hM, h2, h3⟩
        · exact .inl (Nat.le_trans hs.size h1)
        · obtain ⟨k2, hk2⟩ := List.getElem?_of_mem hM
          rw [← h3]
          exact hs.fra k2 M hk2 h2 }
  · have := hpin id L (by rw [haddr]; exact hL)
    rw [haddr] at this
    exact this
end
end Go.Proofs.Ytopiceaeombefaa.Sy

namespace Go.Proofs.Ytopiceaeombefaa.Sy
open Go Go.RowKit

/-! ### Steps of a region -/
inductive AStep where
  | pure (d : Option Tmp) (src : Bool) (op : Op)
  | read (d : Option Tmp) (src : Bool) (op : Op)
  | eff (d : Option Tmp) (op : Op)
  | quiet (d : Option Tmp) (src : Bool) (c : Call)
  | call (d : Option Tmp) (src : Bool) (c : Call)
  | mcall (d : Option Tmp) (src : Bool) (c : Call)
  | guard (t : Tmp) (want : Bool) (s : AStep)

section
variable {α : Type} (P : Program) (E : α → Option (Row α))

def putC (src : Bool) (st : St α) (d : Option Tmp) (v : AV (Id α)) (K : St α → Prop) : Prop :=
  match src with
  | false => K (st.put d v)
  | true => (match v with
      | .bool b => (b = true → K (st.put d (.bool true))) ∧ (b = false → K (st.put d (.bool false)))
      | v => K (st.put d v))

/-- A method that is found, and takes the value as it lies. -/
def MethodOk (t : TypeId) (name : String) (f : FuncId) : Prop := ∀ (v : Value) (w : World), (method (P.types.size + Made.depth) t v name).run P w = .ok (f, v) w

def calleeC (tm : Tm (Id α)) (c : Call) (C : FuncId → List (AV (Id α)) → Prop) : Prop :=
  match c.callee with
  | .value x => (match ev tm x with
      | .func f caps => C f ((c.args.toList.map (ev tm)) ++ caps)
      | _ => False)
  | .invoke r name => (match ev tm r with
      | .iface t v => ∃ f, MethodOk P t name f ∧ C f (v :: (c.args.toList.map (ev tm)))
      | _ => False)
  | .builtin _ => False

/-- A function of the library that the model tells at once: it hands back a value and leaves all as it is. -/
def ExtOk (f : FuncId) (args : List (AV (Id α))) (rows : Rows α) (res : AV (Id α)) : Prop :=
  ∀ (c : Cx α) (ro : List Loc) (w : World) (vs : Array Value), c.E = E → CxOk c → Sim c ro rows w → VRa (c.addr ro) args vs → ∃ v, (callFunc f vs).run P w = .ok (.value v) w ∧ VR (c.addr ro) res v

def AStep.wp : AStep → St α → (St α → Prop) → Prop
  | .pure d src op, st, K => pureC P op (ev st.tmps) fun v => putC src st d v K
  | .read d src op, st, K => readC P E st.rows op (ev st.tmps) fun v => putC src st d v K
  | .eff d op, st, K => effC P E st.rows op (ev st.tmps) fun v rows => K ((⟨st.tmps, rows⟩ : St α).put d v)
  | .quiet d src c, st, K => calleeC P st.tmps c fun f args => ∃ res : AV (Id (Id α)), FnOk P f (look E st.rows) (AV.mapL .ext args) [] res [] ∧ res.solid ∧ putC src st d (res.map (down 0)) K
  | .call d src c, st, K => calleeC P st.tmps c fun f args => ∃ R : AV (Id (Id α)) → Rows (Id α) → Prop, FnOkP P f (look E st.rows) (AV.mapL .ext args) [] R ∧
      ∀ res rows', R res rows' → putC src ⟨st.tmps, st.rows ++ rows'.map (Option.map (Row.map (down st.rows.length)))⟩ d (res.map (down st.rows.length)) K
  | .mcall d src c, st, K => calleeC P st.tmps c fun f args => (∃ R : AV (Id α) → Rows α → Prop, FnOkP P f E args st.rows R ∧ ∀ res rows', R res rows' → putC src ⟨st.tmps, rows'⟩ d res K) ∨ (∃ res : AV (Id α), ExtOk P E f args st.rows res ∧ putC src st d res K) ∨ ∃ (ms : List Nat) (args' : List (AV (Id (Id α)))) (muts : Rows (Id α)) (res : AV (Id (Id α))) (rows' : Rows (Id α)), ms.Nodup ∧ mutRows st.rows ms ms muts ∧ args'.map (AV.map (upM ms)) = args ∧ AV.AllL (inS ms.length) args' ∧
      FnOk P f (look E (hideM ms st.rows)) args' muts res rows' ∧ putC src ⟨st.tmps, afterM ms st.rows rows'⟩ d (res.map (backM st.rows.length ms)) K
  | .guard t want s, st, K => (match tget st.tmps t with
      | .bool b => (b = want → s.wp st K) ∧ (b = (!want) → match s with
          | .pure d _ _ | .read d _ _ | .eff d _ | .quiet d _ _ | .call d _ _ | .mcall d _ _ => K (st.put d (.tuple []))
          | .guard _ _ _ => False)
      | .tuple [] => (match s with
          | .pure d _ _ | .read d _ _ | .eff d _ | .quiet d _ _ | .call d _ _ | .mcall d _ _ => K (st.put d (.tuple []))
          | .guard _ _ _ => False)
      | _ => False)

def stepsC : List AStep → St α → (St α → Prop) → Prop
  | [], st, K => K st
  | s :: r, st, K => s.wp P E st fun st' => stepsC r st' K

inductive Cl where
  | pure | read | quiet | eff | call
  deriving DecidableEq

def clsOf (quiet : Bool) : Op → Cl
  | .load _ _ => .read
  | .alloc _ => .eff
  | .box _ _ => .eff
  | .buildSlice _ _ _ => .eff
  | .makeSlice _ _ _ => .eff
  | .store _ _ _ => .eff
  | .lookup _ _ _ _ => .read
  | .makeMap _ _ => .eff
  | .mapUpdate _ _ _ _ => .eff
  | .range _ _ => .eff
  | .next _ _ => .eff
  | .entry _ => .eff
  | .convert s d _ => if s == d then .eff else if quiet then .read else .pure
  | .call c => (match c.callee with
      | .builtin .append => .eff
      | .builtin .copy => .eff
      | .builtin .clear => .eff
      | .builtin .delete => .eff
      | .builtin .len => if quiet then .read else .pure
      | .builtin _ => .pure
      | _ => if quiet then .quiet else .call)
  | _ => .pure

def isSrc (ops : Array Oper) (i : Nat) : Bool := ops.toList.any fun o => match o.guard with | some (g, _) => g == i | none => false

/-- The step of an operation, without its guard. -/
def bareOf (ops : Array Oper) (qs : List Nat) (i : Nat) (o : Oper) : AStep :=
  match clsOf (qs.contains i) o.op with
  | .pure => .pure o.dst (isSrc ops i) o.op
  | .read => .read o.dst (isSrc ops i) o.op
  | .eff => .eff o.dst o.op
  | .quiet => (match o.op with | .call c => .quiet o.dst (isSrc ops i) c | _ => .pure o.dst (isSrc ops i) o.op)
  | .call => (match o.op with | .call c => (if qs.contains (i + 1000) then .mcall o.dst (isSrc ops i) c else .call o.dst (isSrc ops i) c) | _ => .pure o.dst (isSrc ops i) o.op)
def dstB (n : Nat) : Option Tmp → Bool
  | some d => decide (d < n)
  | none => true
/-- The step of an operation. -/
def stepOf (ops : Array Oper) (qs : List Nat) (n : Nat) (i : Nat) : Option AStep :=
  match ops[i]? with
  | none => none
  | some o =>
    if dstB n o.dst then
      match o.guard with
      | none => some (bareOf ops qs i o)
      | some (g, want) => (match ops[g]? with
          | some og => (match og.dst with | some t => some (.guard t want (bareOf ops qs i o)) | none => none)
          | none => none)
    else none
def mkSteps (ops : Array Oper) (qs : List Nat) (n : Nat) : List Nat → Option (List AStep)
  | [] => some []
  | i :: r => match stepOf ops qs n i with
    | none => none
    | some s => (match mkSteps ops qs n r with | none => none | some l => some (s :: l))

/-- May it run ahead of others without turning what they read? -/
def mildB (ops : Array Oper) (qs : List Nat) (i : Nat) : Bool :=
  match ops[i]? with
  | none => true
  | some o => (match clsOf (qs.contains i) o.op with | .pure => true | .read => true | .quiet => true | .eff => mildOp o.op | .call => !qs.contains (i + 1000))

def waits (ops : Array Oper) (listed : Array Bool) (i : Nat) : Array Bool :=
  (List.range ops.size).foldl (fun D j => D.push (!listed.getD j true && (match ops[j]? with | some o => o.after.toList.any (fun e => Region.binds .any e && (e.on == i || D.getD e.on false)) | none => false))) #[]
def waitsOk (ops : Array Oper) (listed : Array Bool) (i : Nat) (D : Array Bool) : Bool :=
  (D.size == ops.size) && (List.range ops.size).all fun j => !D.getD j false || (!listed.getD j true && (match ops[j]? with | some o => o.after.toList.any (fun e => Region.binds .any e && (e.on == i || D.getD e.on false)) | none => false))
def freeB (ops : Array Oper) (qs : List Nat) (D : Array Bool) (i : Nat) (oi : Oper) (pure : Bool) : Bool :=
  (List.range ops.size).all fun j => j == i || D.getD j false || (match ops[j]? with | some oj => oi.apart ops oj && (pure || mildB ops qs j) | none => true)
/-- Is the plan an order that serves for every order? -/
def planB (ops : Array Oper) (qs : List Nat) : List Nat → Array Bool → Bool
  | [], listed => (Region.ready .any ops listed).isEmpty
  | i :: rest, listed => (match ops[i]? with
      | none => false
      | some o => (Region.ready .any ops listed).contains i &&
          (match clsOf (qs.contains i) o.op with
            | .eff => Region.ready .any ops listed == [i]
            | .call => Region.ready .any ops listed == [i]
            | .pure => (let D := waits ops listed i; waitsOk ops listed i D && freeB ops qs (D.mapIdx fun j b => b || listed.getD j true) i o true)
            | _ => (let D := waits ops listed i; waitsOk ops listed i D && freeB ops qs (D.mapIdx fun j b => b || listed.getD j true) i o false)) &&
          planB ops qs rest (listed.setIfInBounds i true))
end

section
variable {α : Type} {P : Program} {c : Cx α} {n : Sz}

theorem putC_done {src : Bool} {st : St α} {d : Option Tmp} {v : AV (Id α)} {K : St α → Prop} {A : Id α → Option Loc} {u : Value} (h : putC src st d v K) (hv : VR A v u) :
    ∃ v', K (st.put d v') ∧ VR A v' u := by
  unfold putC at h
  split at h
  · exact ⟨v, h, hv⟩
  · split at h
    · rename_i b
      cases b with
      | true => exact ⟨_, h.1 rfl, hv⟩
      | false => exact ⟨_, h.2 rfl, hv⟩
    · exact ⟨v, h, hv⟩

/-- What a call comes to: the function that is entered. -/
theorem calleeC_run {st : St α} {ro : List Loc} {a : Act} {w : World} (h : RelAt c n ro st a w) {o : Oper} {cl : Call} (ho : o.op = .call cl) {C : FuncId → List (AV (Id α)) → Prop} (hC : calleeC P st.tmps cl C) :
    ∃ f args vs, C f args ∧ VRa (c.addr ro) args vs ∧ ∀ w', (execOp a.eval o).run P w' = (callFunc f vs).run P w' := by
  unfold calleeC at hC
  have hargs : VRa (c.addr ro) (cl.args.toList.map (ev st.tmps)) (cl.args.map a.eval) := ⟨by simp, fun i h1 h2 => by simp; exact h.ev _⟩
  split at hC
  · rename_i x hcal
    have hx := h.ev x
    split at hC <;> try exact hC.elim
    rename_i f caps hex
    rw [hex] at hx
    generalize hρ : a.eval x = rx at hx
    cases hx with
    | func hl hv =>
      rename_i cs
      refine ⟨_, _, cl.args.map a.eval ++ cs, hC, ⟨by simp [hl], fun i h1 h2 => ?_⟩, fun w' => ?_⟩
      · rcases Nat.lt_or_ge i cl.args.size with hi | hi
        · rw [List.getElem_append_left (by simpa using hi), Array.getElem_append_left (by simpa using hi)]
          exact hargs.2 i (by simpa using hi) (by simpa using hi)
        · rw [List.getElem_append_right (by simpa using hi), Array.getElem_append_right (by simpa using hi)]
          simp only [List.length_map, Array.length_toList, Array.size_map]
          exact hv _ _ _
      · simp [execOp, ho, resolve, hcal, hρ, Deferred.ofValue, invoke]
  · rename_i r name hcal
    have hx := h.ev r
    split at hC <;> try exact hC.elim
    rename_i t v hex
    obtain ⟨f, hm, hC⟩ := hC
    rw [hex] at hx
    generalize hρ : a.eval r = rx at hx
    cases hx with
    | iface hv =>
      rename_i u
      refine ⟨_, _, #[u] ++ cl.args.map a.eval, hC, ⟨by simp; omega, fun i h1 h2 => ?_⟩, fun w' => ?_⟩
      · cases i with
        | zero => simpa using hv
        | succ i =>
          have hi : i < cl.args.size := by simp at h1; exact h1
          rw [Array.getElem_append_right (by simp)]
          simp only [List.getElem_cons_succ]
          exact hargs.2 i (by simpa using hi) (by simpa using hi)
      · have e0 : (#[Value.iface t u] ++ cl.args.map a.eval)[0]? = some (Value.iface t u) := by simp [Array.getElem?_append]
        have e1 : (#[Value.iface t u] ++ cl.args.map a.eval).extract 1 (#[Value.iface t u] ++ cl.args.map a.eval).size = cl.args.map a.eval := by simp
        simp only [execOp, ho, resolve, hcal, hρ, Sem.run_bind, Sem.run_pure, Result.andThen_ok, invoke, e0, e1, callMethod, run_program, hm u w']
  · exact hC.elim

theorem calleeC_sound {st : St α} {ro : List Loc} {a : Act} {w : World} (h : RelAt c n ro st a w) {o : Oper} {cl : Call} (ho : o.op = .call cl) {C : FuncId → List (AV (Id α)) → Prop} (hC : calleeC P st.tmps cl C) :
    ∃ f args vs, C f args ∧ VRa (c.addr ro) args vs ∧ ((∀ args w, (callFunc f args).run P w = .ok (.enter f args) w) → ∀ w', (execOp a.eval o).run P w' = .ok (.enter f vs) w') := by
  obtain ⟨f, args, vs, h1, h2, h3⟩ := calleeC_run h ho hC
  exact ⟨f, args, vs, h1, h2, fun hcall w' => by rw [h3 w']; exact hcall vs w'⟩

/-- A step that reads at most. -/
def AStep.calm : AStep → Bool
  | .pure _ _ _ | .read _ _ _ | .quiet _ _ _ => true
  | _ => false

def AStep.dst : AStep → Option Tmp
  | .pure d _ _ | .read d _ _ | .eff d _ | .quiet d _ _ | .call d _ _ | .mcall d _ _ => d
  | .guard _ _ s => s.dst

theorem stepOf_spec {ops : Array Oper} {qs : List Nat} {n i : Nat} {s : AStep} (h : stepOf ops qs n i = some s) :
    ∃ o, ops[i]? = some o ∧ dstOk n o.dst ∧ ((o.guard = none ∧ s = bareOf ops qs i o) ∨ ∃ g want og t, o.guard = some (g, want) ∧ ops[g]? = some og ∧ og.dst = some t ∧ s = .guard t want (bareOf ops qs i o)) := by
  unfold stepOf at h
  split at h
  · cases h
  · rename_i o ho
    refine ⟨o, ho, ?_⟩
    split at h
    · rename_i hok
      refine ⟨?_, ?_⟩
      · cases hd : o.dst with
        | none => trivial
        | some d => rw [hd] at hok; simpa [dstB, dstOk] using hok
      · split at h
        · rename_i hg
          simp at h
          exact .inl ⟨hg, h.symm⟩
        · rename_i g want hg
          split at h
          · rename_i og hog
            split at h
            · rename_i t ht
              simp at h
              exact .inr ⟨g, want, og, t, hg, hog, ht, h.symm⟩
            · cases h
          · cases h
    · cases h

theorem bareOf_dst (ops : Array Oper) (qs : List Nat) (i : Nat) (o : Oper) : (bareOf ops qs i o).dst = o.dst := by
  unfold bareOf
  split <;> (try split) <;> (try split) <;> rfl

/-- A calm step: one value, whatever else has been made meanwhile. -/
theorem calm_sound (hc : CxOk c) {ro : List Loc} {st : St α} {a : Act} {w : World} (h : RelAt c n ro st a w) {ops : Array Oper} {qs : List Nat} {i : Nat} {o : Oper} {K : St α → Prop}
    (hq : clsOf (qs.contains i) o.op = .pure ∨ clsOf (qs.contains i) o.op = .read ∨ clsOf (qs.contains i) o.op = .quiet) (hs : (bareOf ops qs i o).wp P c.E st K) :
    ∃ v u, K (st.put o.dst v) ∧ VR (c.addr ro) v u ∧ (clsOf (qs.contains i) o.op = .pure → ∀ w', calmAt P o a w' u) ∧ ∀ w', Kp w w' → calmAt P o a w' u := by
  have hpure : ∀ {K' : AV (Id α) → Prop}, pureC P o.op (ev st.tmps) K' → ∃ v u, K' v ∧ VR (c.addr ro) v u ∧ ∀ w', calmAt P o a w' u := by
    intro K' hp
    obtain ⟨v, u, h1, h2, h3⟩ := pureC_sound (fun x => h.ev x) o hp
    refine ⟨v, u, h1, h2, fun w' => ?_⟩
    unfold calmAt; rw [h3 w']; exact ⟨rfl, rfl⟩
  unfold bareOf at hs
  split at hs
  · obtain ⟨v, u, h1, h2, h3⟩ := hpure hs
    obtain ⟨v', h4, h5⟩ := putC_done h1 h2
    exact ⟨v', u, h4, h5, fun _ => h3, fun w' _ => h3 w'⟩
  · rename_i hcl
    obtain ⟨v, u, h1, h2, h3⟩ := readC_sound hc h.sim (fun x => h.ev x) o hs
    obtain ⟨v', h4, h5⟩ := putC_done h1 h2
    refine ⟨v', u, h4, h5, (fun hp => by rw [hcl] at hp; cases hp), fun w' hk => ?_⟩
    unfold calmAt; rw [h3 w' hk]; exact ⟨rfl, rfl⟩
  · rename_i hcl; rw [hcl] at hq; simp at hq
  · rename_i hcl
    split at hs
    · rename_i cl ho
      obtain ⟨f, args, vs, ⟨res, hfn, hsol, hput⟩, hva, henter⟩ := calleeC_sound h ho hs
      have henter := henter hfn.1
      have hcall := fun w' (hk : Kp w w') => call_pure hc (h.sim.kp hk) hva hfn
      -- the value
      obtain ⟨e0, w0', fr, hR, _⟩ := hcall w (Kp.refl w) []
      obtain ⟨u, ro', rfl, _, _, _, _, A0, hvr⟩ := hR
      have hval : ∀ {A : Id α → Option Loc}, VR A (res.map (down 0)) u := fun {A} => hvr.solid_map hsol _
      obtain ⟨v', h4, h5⟩ := putC_done hput (hval (A := c.addr ro))
      refine ⟨v', u, h4, h5, (fun hp => by rw [hcl] at hp; cases hp), fun w' hk => ?_⟩
      unfold calmAt
      rw [henter w']
      refine ⟨rfl, (hcall w' hk).mono ?_⟩
      rintro e w'' ⟨v2, ro2, rfl, _, _, _, hk2, A1, hv2⟩
      rw [hv2.solid_one hsol (A' := A0) (VR.solid_one hvr hsol hvr ▸ hvr)]
      exact ⟨rfl, hk2⟩
    · obtain ⟨v, u, h1, h2, h3⟩ := hpure hs
      obtain ⟨v', h4, h5⟩ := putC_done h1 h2
      exact ⟨v', u, h4, h5, fun _ => h3, fun w' _ => h3 w'⟩
  · rename_i hcl; rw [hcl] at hq; simp at hq
end
end Go.Proofs.Ytopiceaeombefaa.Sy

namespace Go.Proofs.Ytopiceaeombefaa.Sy
open Go Go.RowKit

section
variable {α : Type} {P : Program} {c : Cx α} {n : Sz}

theorem VR.skip {ι : Type} {A : ι → Option Loc} : VR A (.tuple []) Go.undef := .tuple (vs := #[]) rfl fun i h1 _ => absurd h1 (by simp)
/-- A step that acts. -/
theorem act_sound (hc : CxOk c) {ro : List Loc} {st : St α} {a : Act} {w : World} (h : RelAt c n ro st a w) {ops : Array Oper} {qs : List Nat} {i : Nat} {o : Oper} (hd : dstOk n.n o.dst) {K : St α → Prop} {Q : Exit → Act → World → Prop}
    (hq : clsOf (qs.contains i) o.op = .eff ∨ clsOf (qs.contains i) o.op = .call) (hs : (bareOf ops qs i o).wp P c.E st K) :
    o.wp P a w (fun a' w' => (((clsOf (qs.contains i) o.op = .call ∧ qs.contains (i + 1000) = false) ∨ mildOp o.op = true) → Kp w w') ∧ ∃ st', K st' ∧ Rel c n st' a' w') Q := by
  unfold bareOf at hs
  split at hs
  · rename_i hcl; rw [hcl] at hq; simp at hq
  · rename_i hcl; rw [hcl] at hq; simp at hq
  · rename_i hcl0
    obtain ⟨v, u, rows', ro', w', h1, h2, h3⟩ := effC_sound hc h.sim (fun x => h.ev x) o hs
    have hrel : RelAt c n ro' ((⟨st.tmps, rows'⟩ : St α).put o.dst v) (a.put o.dst u) w' :=
      RelAt.put (st := ⟨st.tmps, rows'⟩) ⟨h.defers, h.size, fun t => (h.tmps t).mono h2.mono, h2.sim, h.rm, fun k L hk => h2.mono (.own k) L (h.pin k L hk)⟩ hd h2.val
    unfold Oper.wp
    rcases h1 with h1 | ⟨h1, rfl⟩
    · rw [h1]; exact ⟨fun hm => h3 (hm.resolve_left (by rw [hcl0]; simp)), _, h2.post, ro', hrel⟩
    · rw [h1]; exact ⟨fun hm => h3 (hm.resolve_left (by rw [hcl0]; simp)), _, h2.post, ro', hrel⟩
  · rename_i hcl; rw [hcl] at hq; simp at hq
  · rename_i hcl
    split at hs
    · rename_i cl ho
      by_cases hmu : qs.contains (i + 1000) = true
      · rw [if_pos hmu] at hs
        obtain ⟨f, args, vs, hcall, hva, hrun⟩ := calleeC_run h ho hs
        have henter : (∀ args w, (callFunc f args).run P w = .ok (.enter f args) w) → ∀ w', (execOp a.eval o).run P w' = .ok (.enter f vs) w' := fun hcall w' => by rw [hrun w']; exact hcall vs w'
        rcases hcall with ⟨R, hfn, hput⟩ | ⟨res, hex, hput⟩ | ⟨ms, args', muts, res, rows', hn, hmr, rfl, hal, hfn, hput⟩
        rotate_left
        · obtain ⟨v, hv1, hv2⟩ := hex c ro w vs rfl hc h.sim hva
          obtain ⟨v', h4, h5⟩ := putC_done hput hv2
          unfold Oper.wp
          rw [hrun w, hv1]
          refine ⟨fun _ => Kp.refl w, _, h4, ro, h.put hd h5⟩
        rotate_left
        · have henter := henter hfn.1
          unfold Oper.wp
          rw [henter w]
          refine (call_same hc h.sim hva hfn).mono ?_
          rintro e w' ⟨u, ro', res, rows', hR, rfl, hv, hsim, hmono⟩
          obtain ⟨v', h4, h5⟩ := putC_done (hput _ _ hR) hv
          refine ⟨fun hm => ?_, _, h4, ro', RelAt.put (st := ⟨st.tmps, rows'⟩) ⟨h.defers, h.size, fun t => (h.tmps t).mono hmono, hsim, h.rm, fun k L hk => hmono (.own k) L (h.pin k L hk)⟩ hd h5⟩
          rcases hm with ⟨_, hm⟩ | hm
          · rw [hmu] at hm; cases hm
          · rw [ho] at hm; cases hm
        have henter := henter hfn.1
        unfold Oper.wp
        rw [henter w]
        refine (call_mut hc h.sim hn hmr hva hal hfn).mono ?_
        rintro e w' ⟨u, ro', rfl, hv, hsim, hmono⟩
        obtain ⟨v', h4, h5⟩ := putC_done hput hv
        refine ⟨fun hm => ?_, _, h4, ro', RelAt.put (st := ⟨st.tmps, afterM ms st.rows rows'⟩) ⟨h.defers, h.size, fun t => (h.tmps t).mono hmono, hsim, h.rm, fun k L hk => hmono (.own k) L (h.pin k L hk)⟩ hd h5⟩
        rcases hm with ⟨_, hm⟩ | hm
        · rw [hmu] at hm; cases hm
        · rw [ho] at hm; cases hm
      · rw [if_neg hmu] at hs
        obtain ⟨f, args, vs, ⟨R, hfn, hput⟩, hva, henter⟩ := calleeC_sound h ho hs
        have henter := henter hfn.1
        unfold Oper.wp
        rw [henter w]
        refine (call_pureP hc h.sim hva hfn).mono ?_
        rintro e w' ⟨res, rows', u, ro', hR, rfl, hv, hsim, hmono, hk, _⟩
        obtain ⟨v', h4, h5⟩ := putC_done (hput res rows' hR) hv
        refine ⟨fun _ => hk, _, h4, ro', RelAt.put (st := ⟨st.tmps, st.rows ++ rows'.map (Option.map (Row.map (down st.rows.length)))⟩) ⟨h.defers, h.size, fun t => (h.tmps t).mono hmono, hsim, h.rm, fun k L hk => hmono (.own k) L (h.pin k L hk)⟩ hd h5⟩
    · rename_i o' hno
      obtain ⟨v, u, h1, h2, h3⟩ := pureC_sound (fun x => h.ev x) o hs
      obtain ⟨v', h4, h5⟩ := putC_done h1 h2
      unfold Oper.wp
      rw [h3 w]
      exact ⟨fun _ => Kp.refl w, _, h4, ro, h.put hd h5⟩

/-- A guard. -/
theorem guard_spec {ro : List Loc} {st : St α} {a : Act} {w : World} (h : RelAt c n ro st a w) {ops : Array Oper} {qs : List Nat} {i g t : Nat} {want : Bool} {o og : Oper} (hg : o.guard = some (g, want)) (hog : ops[g]? = some og) (ht : og.dst = some t) {K : St α → Prop}
    (hs : (AStep.guard t want (bareOf ops qs i o)).wp P c.E st K) :
    (Region.wanted o (yielded ops a.tmps) = true ∧ (bareOf ops qs i o).wp P c.E st K) ∨ (Region.wanted o (yielded ops a.tmps) = false ∧ K (st.put o.dst (.tuple []))) := by
  unfold AStep.wp at hs
  have hv := h.tmps t
  split at hs <;> try exact hs.elim
  rotate_left
  · rename_i hb
    rw [hb] at hv
    have hy : yielded ops a.tmps g = none := by
      unfold yielded
      simp only [hog, Option.bind_some, ht]
      generalize hu : a.tmps.getD t undef = u at hv
      cases hv
      rw [Array.getD_eq_getD_getElem?] at hu
      cases hx : a.tmps[t]? with
      | none => rfl
      | some y => rw [hx] at hu; simp at hu; rw [hu]
    have hw : Region.wanted o (yielded ops a.tmps) = false := by
      unfold Region.wanted
      simp only [hg, hy]
      rfl
    refine .inr ⟨hw, ?_⟩
    have hd := bareOf_dst ops qs i o
    revert hs hd
    generalize bareOf ops qs i o = s
    cases s <;> simp only [AStep.dst] <;> intro h hd <;> first | (rw [← hd]; exact h) | exact h.elim
  rename_i b hb
  rw [hb] at hv
  have hy : yielded ops a.tmps g = some b := by
    unfold yielded
    simp only [hog, Option.bind_some, ht]
    generalize hu : a.tmps.getD t undef = u at hv
    cases hv
    have : a.tmps[t]? = some (.bool b) := by
      rw [Array.getD_eq_getD_getElem?] at hu
      cases hx : a.tmps[t]? with
      | none => rw [hx] at hu; simp [undef] at hu
      | some y => rw [hx] at hu; simp at hu; rw [hu]
    rw [this]
  have hw : Region.wanted o (yielded ops a.tmps) = (b == want) := by
    unfold Region.wanted
    simp only [hg, hy]
    rfl
  obtain ⟨h1, h2⟩ := hs
  by_cases hbw : b = want
  · exact .inl ⟨by rw [hw]; simp [hbw], h1 hbw⟩
  · refine .inr ⟨by rw [hw]; simp [hbw], ?_⟩
    have := h2 (by cases b <;> cases want <;> simp_all)
    have hd := bareOf_dst ops qs i o
    revert this hd
    generalize bareOf ops qs i o = s
    cases s <;> simp only [AStep.dst] <;> intro h hd <;> first | (rw [← hd]; exact h) | exact h.elim

/-- A step, carried out. -/
theorem step_sound (hc : CxOk c) {ro : List Loc} {st : St α} {a : Act} {w : World} (h : RelAt c n ro st a w) {ops : Array Oper} {qs : List Nat} {i : Nat} {s : AStep} (hst : stepOf ops qs n.n i = some s) {K : St α → Prop} {Q : Exit → Act → World → Prop}
    (hs : s.wp P c.E st K) : wpOp P ops Q i (fun a' w' => (mildB ops qs i = true → Kp w w') ∧ ∃ st', K st' ∧ Rel c n st' a' w') a w := by
  obtain ⟨o, ho, hd, hcase⟩ := stepOf_spec hst
  have hmain : (bareOf ops qs i o).wp P c.E st K → o.wp P a w (fun a' w' => (mildB ops qs i = true → Kp w w') ∧ ∃ st', K st' ∧ Rel c n st' a' w') Q := by
    intro hs
    have hcalm : (clsOf (qs.contains i) o.op = .pure ∨ clsOf (qs.contains i) o.op = .read ∨ clsOf (qs.contains i) o.op = .quiet) → o.wp P a w (fun a' w' => (mildB ops qs i = true → Kp w w') ∧ ∃ st', K st' ∧ Rel c n st' a' w') Q := by
      intro hq
      obtain ⟨v, u, h1, h2, _, h3⟩ := calm_sound hc h hq hs
      exact (h3 w (Kp.refl w)).wp fun w' hk => ⟨fun _ => hk, _, h1, ro, (h.put hd h2).kp hk⟩
    have hact : (clsOf (qs.contains i) o.op = .eff ∨ clsOf (qs.contains i) o.op = .call) → o.wp P a w (fun a' w' => (mildB ops qs i = true → Kp w w') ∧ ∃ st', K st' ∧ Rel c n st' a' w') Q := by
      intro hq
      refine Oper.wp_mono (fun a' w' hh => ⟨fun hm => hh.1 ?_, hh.2⟩) (act_sound hc h hd hq hs)
      unfold mildB at hm
      rw [ho] at hm
      simp only at hm
      rcases hq with hq | hq
      · rw [hq] at hm; exact .inr hm
      · rw [hq] at hm
        simp only [Bool.not_eq_true'] at hm
        exact .inl ⟨hq, hm⟩
    cases hcl : clsOf (qs.contains i) o.op with
    | pure => exact hcalm (.inl hcl)
    | read => exact hcalm (.inr (.inl hcl))
    | quiet => exact hcalm (.inr (.inr hcl))
    | eff => exact hact (.inl hcl)
    | call => exact hact (.inr hcl)
  unfold wpOp
  simp only [ho]
  rcases hcase with ⟨hg, rfl⟩ | ⟨g, want, og, t, hg, hog, ht, rfl⟩
  · have hw : Region.wanted o (yielded ops a.tmps) = true := by unfold Region.wanted; rw [hg]
    rw [if_pos hw]
    exact .inl (hmain hs)
  · rcases guard_spec h hg hog ht hs with ⟨hw, hs⟩ | ⟨hw, hK⟩
    · rw [if_pos hw]; exact .inl (hmain hs)
    · rw [if_neg (by rw [hw]; simp)]
      exact ⟨fun _ => Kp.refl w, _, hK, ro, h.put hd VR.skip⟩

/-- A calm step, to be taken first. -/
theorem step_yields (hc : CxOk c) {ro : List Loc} {st : St α} {a : Act} {w : World} (h : RelAt c n ro st a w) {ops : Array Oper} {qs : List Nat} {i : Nat} {s : AStep} (hst : stepOf ops qs n.n i = some s) {o : Oper} (ho : ops[i]? = some o) {K : St α → Prop}
    (hq : clsOf (qs.contains i) o.op = .pure ∨ clsOf (qs.contains i) o.op = .read ∨ clsOf (qs.contains i) o.op = .quiet) (hs : s.wp P c.E st K) :
    ∃ v u, K (st.put o.dst v) ∧ VR (c.addr ro) v u ∧ dstOk n.n o.dst ∧ (clsOf (qs.contains i) o.op = .pure → YieldsS P ops (fun _ => True) o u a) ∧ YieldsS P ops (Kp w) o u a := by
  obtain ⟨o', ho', hd, hcase⟩ := stepOf_spec hst
  rw [ho] at ho'; cases ho'
  rcases hcase with ⟨hg, rfl⟩ | ⟨g, want, og, t, hg, hog, ht, rfl⟩
  · have hw : Region.wanted o (yielded ops a.tmps) = true := by unfold Region.wanted; rw [hg]
    obtain ⟨v, u, h1, h2, h3, h4⟩ := calm_sound hc h hq hs
    exact ⟨v, u, h1, h2, hd, fun hp => .inl ⟨hw, fun w' _ => h3 hp w'⟩, .inl ⟨hw, fun w' hk => h4 w' hk⟩⟩
  · rcases guard_spec h hg hog ht hs with ⟨hw, hs⟩ | ⟨hw, hK⟩
    · obtain ⟨v, u, h1, h2, h3, h4⟩ := calm_sound hc h hq hs
      exact ⟨v, u, h1, h2, hd, fun hp => .inl ⟨hw, fun w' _ => h3 hp w'⟩, .inl ⟨hw, fun w' hk => h4 w' hk⟩⟩
    · exact ⟨.tuple [], Go.undef, hK, VR.skip, hd, fun _ => .inr ⟨hw, rfl⟩, .inr ⟨hw, rfl⟩⟩

/-- The operations one after the other. -/
theorem ops_sound (hc : CxOk c) {ops : Array Oper} {qs : List Nat} {Q : Exit → Act → World → Prop} {K : St α → Prop} (hQ : ∀ st a w, K st → Rel c n st a w → Q .normal a w) :
    ∀ (plan : List Nat) (steps : List AStep) (st : St α) (a : Act) (w : World), mkSteps ops qs n.n plan = some steps → Rel c n st a w → stepsC P c.E steps st K → wpOps P ops Q plan a w := by
  intro plan
  induction plan with
  | nil =>
    intro steps st a w hm hr hs
    simp [mkSteps] at hm
    subst hm
    exact hQ st a w hs hr
  | cons i rest ih =>
    intro steps st a w hm ⟨ro, hr⟩ hs
    unfold mkSteps at hm
    split at hm <;> try cases hm
    rename_i s hst
    split at hm <;> try cases hm
    rename_i l hl
    rw [wpOps_cons]
    exact wpOp_mono (fun a' w' ⟨_, st', hK, hr'⟩ => ih l st' a' w' hl hr' hK) (step_sound hc hr hst hs)

/-- Whatever order is drawn. -/
theorem plan_sound (hc : CxOk c) {ops : Array Oper} {qs : List Nat} {Q : Exit → Act → World → Prop} (hQp : ∀ ch a w, ¬ Q (.panic ch) a w) (hsel : Region.noSelect ops = true) {K : St α → Prop} (hQ : ∀ st a w, K st → Rel c n st a w → Q .normal a w) :
    ∀ (plan : List Nat) (steps : List AStep) (listed : Array Bool) (st : St α) (a : Act) (w : World), planB ops qs plan listed = true → mkSteps ops qs n.n plan = some steps → Rel c n st a w → stepsC P c.E steps st K →
      wpAnyS P .any ops Q (mildB ops qs) plan.length listed a w := by
  intro plan
  induction plan with
  | nil =>
    intro steps listed st a w hp hm hr hs
    simp [mkSteps] at hm
    subst hm
    simp only [planB, List.isEmpty_iff] at hp
    exact ⟨hp, fun w3 hk => hQ st a w3 hs (hr.kp hk)⟩
  | cons i rest ih =>
    intro steps listed st a w hp hm hr hs
    unfold mkSteps at hm
    split at hm <;> try cases hm
    rename_i s hst
    split at hm <;> try cases hm
    rename_i l hl
    simp only [planB] at hp
    split at hp <;> try cases hp
    rename_i o ho
    simp only [Bool.and_eq_true] at hp
    obtain ⟨⟨hready, hclass⟩, hrest⟩ := hp
    have hready' : i ∈ Region.ready .any ops listed := by simpa using hready
    -- an operation that acts: it is the only one that may come up
    have hact : Region.ready .any ops listed = [i] → wpAnyS P .any ops Q (mildB ops qs) (rest.length + 1) listed a w := by
      intro hone w3 hk
      refine ⟨(fun h0 => by rw [hone] at h0; cases h0), fun j hj => ?_⟩
      rw [hone] at hj
      simp at hj
      subst hj
      obtain ⟨ro, hr3⟩ := hr.kp hk
      exact wpOp_mono (fun a' w' ⟨hm, st', hK, hr'⟩ => ⟨hm, ih l _ st' a' w' hrest hl hr' hK⟩) (step_sound hc hr3 hst hs)
    -- one that is calm: it may be taken first
    have hcalm : ∀ (pure : Bool), (clsOf (qs.contains i) o.op = .pure ∨ clsOf (qs.contains i) o.op = .read ∨ clsOf (qs.contains i) o.op = .quiet) → (pure = true → clsOf (qs.contains i) o.op = .pure) →
        waitsOk ops listed i (waits ops listed i) = true → freeB ops qs ((waits ops listed i).mapIdx fun j b => b || listed.getD j true) i o pure = true → wpAnyS P .any ops Q (mildB ops qs) (rest.length + 1) listed a w := by
      intro pure hq hpure hw hf
      obtain ⟨ro, hr⟩ := hr
      obtain ⟨v, u, hK, hv, hd, hy1, hy2⟩ := step_yields hc hr hst ho hq hs
      simp only [waitsOk, Bool.and_eq_true, beq_iff_eq, List.all_eq_true, List.mem_range] at hw
      obtain ⟨hDs, hDw⟩ := hw
      simp only [freeB, List.all_eq_true, List.mem_range] at hf
      generalize waits ops listed i = D at hDs hDw hf
      have hD1 : ∀ j, D.getD j false = true → j < ops.size ∧ listed.getD j true = false ∧ ∀ oj, ops[j]? = some oj → ∃ e ∈ oj.after, Region.binds .any e = true ∧ (e.on = i ∨ D.getD e.on false = true) := by
        intro j hj
        have hlt : j < ops.size := by
          rcases Nat.lt_or_ge j ops.size with h | h
          · exact h
          · rw [Array.getD_eq_getD_getElem?, Array.getElem?_eq_none (by omega)] at hj; cases hj
        have := hDw j hlt
        rw [hj] at this
        simp only [Bool.not_true, Bool.false_or, Bool.and_eq_true, Bool.not_eq_true'] at this
        refine ⟨hlt, this.1, fun oj hoj => ?_⟩
        have h2 := this.2
        rw [hoj] at h2
        simp only [List.any_eq_true, Bool.and_eq_true, Bool.or_eq_true, beq_iff_eq] at h2
        obtain ⟨e, he, h3, h4⟩ := h2
        exact ⟨e, by simpa using he, h3, h4⟩
      have hfree : ∀ j oj, ops[j]? = some oj → j ≠ i → listed.getD j true = false → D.getD j false = false → o.apart ops oj = true ∧ (pure = true ∨ mildB ops qs j = true) := by
        intro j oj hoj hji hlj hDj
        have hlt : j < ops.size := (Array.getElem?_eq_some_iff.1 hoj).1
        have := hf j hlt
        rw [hoj] at this
        have hm : (D.mapIdx fun j b => b || listed.getD j true).getD j false = false := by
          have hjD : j < D.size := by omega
          rw [Array.getD_eq_getD_getElem?] at hDj ⊢
          rw [Array.getElem?_eq_getElem hjD] at hDj
          simp only [Option.getD_some] at hDj
          rw [Array.getElem?_mapIdx, Array.getElem?_eq_getElem hjD]
          simp only [Option.map_some, Option.getD_some, hDj, Bool.false_or]
          exact hlj
        simp only [hm, Bool.or_false, Bool.or_eq_true, beq_iff_eq, Bool.and_eq_true] at this
        rcases this with h | h
        · exact absurd h hji
        · exact ⟨h.1, h.2⟩
      -- 'listed' ones need no freedom: they are told apart by a set that holds them
      have hnext := ih l (listed.setIfInBounds i true) (st.put o.dst v) (a.put o.dst u) w hrest hl ⟨ro, hr.put hd hv⟩ hK
      have hS : ∃ S : World → Prop, S w ∧ YieldsS P ops S o u a ∧ (∀ w w', S w → Kp w w' → S w') ∧ ∀ j, (pure = true ∨ mildB ops qs j = true) → ∀ w w', S w → (mildB ops qs j = true → Kp w w') → S w' := by
        cases hpb : pure with
        | true => exact ⟨fun _ => True, trivial, hy1 (hpure hpb), fun _ _ _ _ => trivial, fun _ _ _ _ _ _ => trivial⟩
        | false => exact ⟨Kp w, Kp.refl w, hy2, fun _ _ h k => h.trans k, fun j hj w1 w2 h k => h.trans (k (by simpa using hj))⟩
      obtain ⟨S, hSw, hy, hSk, hSm⟩ := hS
      exact wpAnyS.firstL (D := fun j => D.getD j false) ho (Region.noSelect_spec hsel) hQp hSk (fun j hj oj hoj => (hD1 j hj).2.2 oj hoj) (fun j hj => (hD1 j hj).2.1)
        (fun j oj hoj hji hlj hDj => ⟨(hfree j oj hoj hji hlj hDj).1, hSm j (hfree j oj hoj hji hlj hDj).2⟩) rest.length a w hready' hy hSw hnext
    have : (i :: rest).length = rest.length + 1 := rfl
    rw [this]
    cases hcl : clsOf (qs.contains i) o.op with
    | pure =>
      rw [hcl] at hclass
      simp only [Bool.and_eq_true] at hclass
      exact hcalm true (.inl hcl) (fun _ => hcl) hclass.1 hclass.2
    | read =>
      rw [hcl] at hclass
      simp only [Bool.and_eq_true] at hclass
      exact hcalm false (.inr (.inl hcl)) (fun h => by cases h) hclass.1 hclass.2
    | quiet =>
      rw [hcl] at hclass
      simp only [Bool.and_eq_true] at hclass
      exact hcalm false (.inr (.inr hcl)) (fun h => by cases h) hclass.1 hclass.2
    | eff => rw [hcl] at hclass; exact hact (by simpa using hclass)
    | call => rw [hcl] at hclass; exact hact (by simpa using hclass)
end
end Go.Proofs.Ytopiceaeombefaa.Sy

namespace Go.Proofs.Ytopiceaeombefaa.Sy
open Go Go.RowKit

def exitOk : Exit → Prop
  | .panic _ => False
  | .outgrown => False
  | .goto _ => False
  | _ => True

section
variable {α : Type}

def Post (c : Cx α) (n : Sz) (Q : Exit → St α → Prop) : Exit → Act → World → Prop := fun e a w => exitOk e ∧ ∃ st, Q e st ∧ Rel c n st a w

/-- From this state the code comes to Q. n: how many slots the frame has. -/
def AWp (P : Program) (E : α → Option (Row α)) (n : Sz) (code : Code) (st : St α) (Q : Exit → St α → Prop) : Prop :=
  ∀ c : Cx α, c.E = E → CxOk c → ∀ a w, Rel c n st a w → code.wp P (Post c n Q) a w

variable {P : Program} {E : α → Option (Row α)} {n : Sz} {st : St α} {Q : Exit → St α → Prop}

theorem AWp.mono {code : Code} {Q' : Exit → St α → Prop} (h : AWp P E n code st Q) (hq : ∀ e st, Q e st → Q' e st) : AWp P E n code st Q' :=
  fun c hE hc a w hr => wp_mono (h c hE hc a w hr) fun _ _ _ ⟨he, st', hQ, hr'⟩ => ⟨he, st', hq _ _ hQ, hr'⟩

theorem AWp.skip (h : Q .normal st) : AWp P E n .skip st Q := fun _ _ _ _ _ hr => wp_skip ⟨trivial, st, h, hr⟩
theorem AWp.ret (h : Q .ret st) : AWp P E n .ret st Q := fun _ _ _ _ _ hr => wp_ret ⟨trivial, st, h, hr⟩
theorem AWp.exit {id : Nat} (h : Q (.exit id) st) : AWp P E n (.exit id) st Q := fun _ _ _ _ _ hr => wp_exit ⟨trivial, st, h, hr⟩
theorem AWp.label {l : Nat} (h : Q .normal st) : AWp P E n (.label l) st Q := fun _ _ _ _ _ hr => wp_label ⟨trivial, st, h, hr⟩

def thenQ (K : St α → Prop) (Q : Exit → St α → Prop) : Exit → St α → Prop
  | .normal, st => K st
  | e, st => Q e st
theorem AWp.seq {x y : Code} (h : AWp P E n x st (thenQ (fun st' => AWp P E n y st' Q) Q)) : AWp P E n (.seq x y) st Q :=
  fun c hE hc a w hr => wp_seq (wp_mono (h c hE hc a w hr) fun e a' w' ⟨he, st', hQ, hr'⟩ => by
    cases e with
    | normal => exact hQ c hE hc a' w' hr'
    | exit id => exact ⟨he, st', hQ, hr'⟩
    | ret => exact ⟨he, st', hQ, hr'⟩
    | goto l => exact he.elim
    | panic ch => exact he.elim
    | outgrown => exact he.elim)

theorem AWp.cond {x : Operand} {b : Bool} {thn els : Code} (hx : ev st.tmps x = .bool b) (ht : b = true → AWp P E n thn st Q) (hf : b = false → AWp P E n els st Q) : AWp P E n (.cond x thn els) st Q :=
  fun c hE hc a w hr => by
    obtain ⟨ro, hr'⟩ := hr
    have hv := hr'.ev x
    rw [hx] at hv
    generalize hu : a.eval x = u at hv
    cases hv
    cases b with
    | true => exact wp_cond hu (ht rfl c hE hc a w ⟨ro, hr'⟩)
    | false => exact wp_cond hu (hf rfl c hE hc a w ⟨ro, hr'⟩)

def blockQ (id : Nat) (Q : Exit → St α → Prop) : Exit → St α → Prop
  | .exit id', st => (if id' = id then Q .normal st else Q (.exit id') st)
  | e, st => Q e st
theorem AWp.block {id : Nat} {body : Code} (h : AWp P E n body st (blockQ id Q)) : AWp P E n (.block id body) st Q :=
  fun c hE hc a w hr => wp_block (wp_mono (h c hE hc a w hr) fun e a' w' ⟨he, st', hQ, hr'⟩ => by
    cases e with
    | normal => exact ⟨he, st', hQ, hr'⟩
    | exit id' =>
      simp only [blockQ] at hQ
      simp only [Exit.inBlock]
      by_cases hid : id' = id
      · rw [if_pos hid] at hQ ⊢; exact ⟨trivial, st', hQ, hr'⟩
      · rw [if_neg hid] at hQ ⊢; exact ⟨trivial, st', hQ, hr'⟩
    | ret => exact ⟨he, st', hQ, hr'⟩
    | goto l => exact he.elim
    | panic ch => exact he.elim
    | outgrown => exact he.elim)

/-- A state says less than another one. -/
def Le (n : Sz) (st st' : St α) : Prop := ∀ (c : Cx α) (a : Act) (w : World), Rel c n st a w → Rel c n st' a w
theorem Le.refl (n : Sz) (st : St α) : Le n st st := fun _ _ _ h => h
theorem Le.trans {n : Sz} {a b c : St α} (h : Le n a b) (k : Le n b c) : Le n a c := fun x y z h' => k x y z (h x y z h')
theorem AWp.less {code : Code} {st' : St α} (hl : Le n st st') (h : AWp P E n code st' Q) : AWp P E n code st Q := fun c hE hc a w hr => h c hE hc a w (hl c a w hr)

/-- A loop: the states at each round's head; it leaves in the last one at the latest. -/
def loopQ (n : Sz) (I : St α → Nat → Prop) (m : Nat) (Q : Exit → St α → Prop) : Exit → St α → Prop
  | .normal, st => ∃ m' st', m' < m ∧ Le n st st' ∧ I st' m'
  | e, st => Q e st
theorem AWp.loop {body : Code} (I : St α → Nat → Prop) {m : Nat} (h0 : I st m) (h : ∀ m st, I st m → AWp P E n body st (loopQ n I m Q)) : AWp P E n (.loop body) st Q :=
  fun c hE hc a w hr => by
    have key : ∀ (m : Nat) (a : Act) (w : World), (∃ st, I st m ∧ Rel c n st a w) → (Code.loop body).wp P (Post c n Q) a w := by
      intro m a w hI
      -- the measure is carried by the invariant
      intro b k cs
      have key2 : ∀ (m : Nat) (a : Act) (w : World) (st : St α), I st m → Rel c n st a w →
          ∃ e a' w', Post c n Q e a' w' ∧ Arrives P (lone (b.at a (.code body :: .inLoop body :: k)) cs w) b k cs e a' w' := by
        intro m
        induction m using Nat.strongRecOn with
        | _ m ih =>
          intro a w st hI hr
          obtain ⟨e, a₁, w₁, ⟨he, st1, hQ, hr1⟩, harr⟩ := h m st hI c hE hc a w hr b (.inLoop body :: k) cs
          cases e with
          | normal =>
            obtain ⟨m', st', hlt, hle, hI'⟩ := hQ
            obtain ⟨e₂, a₂, w₂, hq₂, harr₂⟩ := ih m' hlt a₁ w₁ st' hI' (hle c a₁ w₁ hr1)
            exact ⟨e₂, a₂, w₂, hq₂, .of_steps (Steps.trans harr (.one step_inLoop)) harr₂⟩
          | exit id => exact ⟨_, a₁, w₁, ⟨he, st1, hQ, hr1⟩, .pass (x := .inLoop body) rfl (fun _ _ => .inl (by simp)) harr⟩
          | ret => exact ⟨_, a₁, w₁, ⟨he, st1, hQ, hr1⟩, .pass (x := .inLoop body) rfl (fun _ _ => .inl (by simp)) harr⟩
          | goto l => exact he.elim
          | panic ch => exact he.elim
          | outgrown => exact he.elim
      obtain ⟨st, hI, hr⟩ := hI
      obtain ⟨e, a', w', hq, harr⟩ := key2 m a w st hI hr
      exact ⟨e, a', w', hq, .of_steps (.one step_loop) harr⟩
    exact key m a w ⟨st, h0, hr⟩

/-- A counted loop: state S k at the head of round k; it leaves at k = N at the latest. -/
def roundQ (n : Sz) (S : Nat → St α) (k N : Nat) (Q : Exit → St α → Prop) : Exit → St α → Prop
  | .normal, st => k < N ∧ Le n st (S (k + 1))
  | e, st => Q e st
theorem AWp.rounds {body : Code} (S : Nat → St α) (N : Nat) (h0 : Le n st (S 0)) (h : ∀ k, k ≤ N → AWp P E n body (S k) (roundQ n S k N Q)) : AWp P E n (.loop body) st Q := by
  refine AWp.less h0 (AWp.loop (fun st m => ∃ k, k ≤ N ∧ m = N - k ∧ st = S k) (m := N) ⟨0, Nat.zero_le _, rfl, rfl⟩ ?_)
  rintro m st ⟨k, hk, rfl, rfl⟩
  refine (h k hk).mono fun e st' hq => ?_
  cases e with
  | normal => exact ⟨N - (k + 1), S (k + 1), by have := hq.1; omega, hq.2, k + 1, by have := hq.1; omega, rfl, rfl⟩
  | _ => exact hq

/-- A region. plan: an order of its operations; steps: what they are; qs: the calls that only read. -/
theorem AWp.region {id : Nat} {ops : Array Oper} (plan qs : List Nat) (steps : List AStep) (hm : mkSteps ops qs n.n plan = some steps) (hp : plan = List.range ops.size) (h : stepsC P E steps st fun st' => Q .normal st') : AWp P E n (.region id ops false) st Q := by
  intro c hE hc a w hr
  subst hE
  refine wp_region ?_
  rw [← hp]
  exact ops_sound hc (fun st a w hK hr => ⟨trivial, st, hK, hr⟩) plan steps st a w hm hr h
theorem AWp.draws {id : Nat} {ops : Array Oper} (hmix : P.follows .mixedOrders = true) (plan qs : List Nat) (steps : List AStep) (hm : mkSteps ops qs n.n plan = some steps) (hp : (plan.length == ops.size && Region.noSelect ops && planB ops qs plan (Array.replicate ops.size false)) = true)
    (h : stepsC P E steps st fun st' => Q .normal st') : AWp P E n (.region id ops true) st Q := by
  intro c hE hc a w hr
  subst hE
  simp only [Bool.and_eq_true, beq_iff_eq] at hp
  obtain ⟨⟨hlen, hsel⟩, hpl⟩ := hp
  refine wp_region_any hmix ?_
  rw [← hlen]
  have hk : Kp w { w with drawn := w.drawn + 1 } := Kp.drew w
  have := plan_sound (P := P) (n := n) hc (Q := Post c n Q) (fun ch a w h => h.1) hsel (K := fun st' => Q .normal st') (fun st a w hK hr => ⟨trivial, st, hK, hr⟩) plan steps (Array.replicate ops.size false) st a _ hpl hm (hr.kp hk) h
  rw [← hlen] at this
  exact this.sound _ _ _ _
end
end Go.Proofs.Ytopiceaeombefaa.Sy

namespace Go.Proofs.Ytopiceaeombefaa.Sy
open Go Go.RowKit

section
variable {ι : Type}
mutual
theorem solid_all {p : ι → Prop} : ∀ v : AV ι, v.solid → v.All p
  | .undef, hv => hv.elim
  | .bool _, _ => trivial
  | .int _ _, _ => trivial
  | .str _, _ => trivial
  | .nilptr, _ => trivial
  | .ptr _ _, hv => hv.elim
  | .nilslice, _ => trivial
  | .slice _ _ _ _ _, hv => hv.elim
  | .ints _ _, _ => trivial
  | .agg l, hv => solid_allL l hv
  | .tuple l, hv => solid_allL l hv
  | .nilfunc, _ => trivial
  | .func _ l, hv => solid_allL l hv
  | .niliface, _ => trivial
  | .iface _ v, hv => solid_all v hv
  | .nilmap, _ => trivial
  | .map_ _, hv => hv.elim
  | .slc _ _ _ _ _, hv => hv.elim
theorem solid_allL {p : ι → Prop} : ∀ l : List (AV ι), AV.solidL l → AV.AllL p l
  | [], _ => trivial
  | v :: r, hv => ⟨solid_all v hv.1, solid_allL r hv.2⟩
end
end

section
variable {α : Type}


def leTm (tm : Tm (Id α)) (n : Nat) : Tm (Id α) → Prop
  | [] => True
  | (t, v) :: r => (tget tm t = v ∧ v.All (inS n)) ∧ leTm tm n r
def leRows (n : Nat) : Rows α → Rows α → Prop
  | _, [] => True
  | [], _ :: _ => False
  | r :: rs, r' :: rs' => (match r' with | none => True | some q => r = some q ∧ q.All (inS n)) ∧ leRows n rs rs'

theorem leTm_get {tm tm' : Tm (Id α)} {n : Nat} (h : leTm tm n tm') (t : Nat) : tget tm' t = .undef ∨ (tget tm' t = tget tm t ∧ (tget tm' t).All (inS n)) := by
  induction tm' with
  | nil => exact .inl rfl
  | cons p r ih =>
    obtain ⟨s, v⟩ := p
    obtain ⟨⟨h1, h2⟩, h3⟩ := h
    simp only [tget]
    by_cases hs : s = t
    · subst hs
      rw [if_pos rfl]
      exact .inr ⟨h1.symm, h2⟩
    · rw [if_neg hs]; exact ih h3
theorem leRows_get {n : Nat} : ∀ {rows rows' : Rows α}, leRows n rows rows' → rows'.length ≤ rows.length ∧ ∀ (k : Nat) (r : Row (Id α)), rows'[k]? = some (some r) → rows[k]? = some (some r) ∧ r.All (inS n)
  | _, [], _ => ⟨by simp, fun k r h => by simp at h⟩
  | [], _ :: _, h => h.elim
  | r0 :: rs, r' :: rs', h => by
    obtain ⟨h1, h2⟩ := h
    obtain ⟨h3, h4⟩ := leRows_get h2
    refine ⟨by simp; exact h3, fun k r hk => ?_⟩
    cases k with
    | zero =>
      simp at hk
      subst hk
      simp only at h1
      exact ⟨by simp [h1.1], h1.2⟩
    | succ k => simpa using h4 k r (by simpa using hk)

theorem Le.of {n : Sz} {tm tm' : Tm (Id α)} {rows rows' : Rows α} (h0 : n.m ≤ rows'.length) (h1 : leTm tm rows'.length tm') (h2 : leRows rows'.length rows rows') : Le n (⟨tm, rows⟩ : St α) ⟨tm', rows'⟩ := by
  intro c a w ⟨ro, hr⟩
  obtain ⟨hlen, hrow⟩ := leRows_get h2
  have hsim := hr.sim
  have htake : ∀ k L, k < rows'.length → ro[k]? = some L → (ro.take rows'.length)[k]? = some L := fun k L hk hL => by rw [List.getElem?_take_of_lt hk]; exact hL
  have hback : ∀ (k : Nat) (L : Loc), (ro.take rows'.length)[k]? = some L → ro[k]? = some L := fun k L hL => by
    have hk : k < rows'.length := by have := (List.getElem?_eq_some_iff.1 hL).1; simp at this; omega
    rwa [List.getElem?_take_of_lt hk] at hL
  have hA : ∀ v : AV (Id α), v.All (inS rows'.length) → v.All fun id => ∀ L, c.addr ro id = some L → c.addr (ro.take rows'.length) id = some L := fun v hv =>
    AV.All.imp (fun id hid L hL => by
      cases id with
      | own k => exact htake k L hid hL
      | ext x => exact hL) v hv
  refine ⟨ro.take rows'.length, hr.defers, hr.size, fun t => ?_, ?_, hr.rm, fun k L hk => htake k L (by have := (List.getElem?_eq_some_iff.1 hk).1; have := hr.rm; omega) (hr.pin k L hk)⟩
  · rcases leTm_get h1 t with h | ⟨h, hall⟩
    · simp only; rw [h]; exact .undef _
    · simp only
      have := hr.tmps t
      simp only at this
      rw [← h] at this
      exact this.all (hA _ hall)
  · have hl' : (ro.take rows'.length).length = rows'.length := by
      have := hsim.len
      simp only at this
      simp [this]; omega
    exact {
      len := hl', os := hsim.os, tape := hsim.tape, output := hsim.output, size := hsim.size, frame := hsim.frame
      own := fun k r hk => by
        obtain ⟨g, hall⟩ := hrow k r hk
        obtain ⟨L, g1, g2, g3, g4⟩ := hsim.own k r g
        refine ⟨L, htake k L (List.getElem?_eq_some_iff.1 hk).1 g1, g2, g3, fun h0 => ?_⟩
        obtain ⟨cs, ty, g5, g6, g7⟩ := g4 h0
        exact ⟨cs, ty, g5, g6, fun j v hv => let ⟨u, hu, hcr⟩ := g7 j v hv; ⟨u, hu, hcr.1.all (hA _ (Row.All_get hall hv)), hcr.2⟩⟩
      inj := fun k k' r r' L L' hne hk hk' hL hL' => hsim.inj k k' r r' L L' hne (hrow k r hk).1 (hrow k' r' hk').1 (hback k L hL) (hback k' L' hL')
      fra := fun k L hL => hsim.fra k L (hback k L hL) }

/-! ### A function's end and its beginning -/
section
variable (P : Program) (E : α → Option (Row α))
def resC : List ResultVar → St α → (List (AV (Id α)) → Prop) → Prop
  | [], _, C => C []
  | .tmp t :: r, st, C => resC r st fun l => C (tget st.tmps t :: l)
  | .cell a ty :: r, st, C => readC P E st.rows (.load ty (.tmp a)) (ev st.tmps) fun v => resC r st fun l => C (v :: l)
def one (l : List (AV (Id α))) : AV (Id α) :=
  match l with
  | [v] => v
  | l => .tuple l
end

variable {P : Program} {E : α → Option (Row α)}

theorem loadVar_of {c : Cx α} {n : Sz} {ro : List Loc} {st : St α} {a : Act} {w : World} (hc : CxOk c) (h : RelAt c n ro st a w) {t : Nat} {ty : TypeId} {C : AV (Id α) → Prop} (hC : readC P c.E st.rows (.load ty (.tmp t)) (ev st.tmps) C) :
    ∃ v u, C v ∧ VR (c.addr ro) v u ∧ (do loadVar ty (← asAddr (a.tmps.getD t undef))).run P w = .ok u w := by
  obtain ⟨v, u, h1, h2, h3⟩ := readC_sound hc h.sim (fun x => h.ev x) { (default : Oper) with op := .load ty (.tmp t) } hC
  refine ⟨v, u, h1, h2, ?_⟩
  have := h3 w (Kp.refl w)
  have hv := h.tmps t
  unfold readC at hC
  simp only [ev] at hC
  split at hC <;> try exact hC.elim
  rename_i id off hid
  rw [hid] at hv
  generalize hu : a.tmps.getD t undef = q at hv
  cases hv
  rename_i L hL
  simp only [execOp, Act.eval, hu, Instr.loadAt, Instr.sureAddr, Sem.run_bind, Sem.run_pure, Result.andThen_ok] at this
  simp only [asAddr, Sem.run_bind, Sem.run_pure, Result.andThen_ok]
  cases hr : (loadVar ty (L.at off)).run P w with
  | ok x w' => rw [hr] at this; simp only [Result.andThen_ok, Result.ok.injEq, Next.value.injEq] at this; rw [this.1, this.2]
  | halt x w' => rw [hr] at this; simp [Result.andThen] at this

def resVal (a : Act) : ResultVar → Sem Value
  | .tmp t => Pure.pure (a.tmps.getD t undef)
  | .cell x t => do loadVar t (← asAddr (a.tmps.getD x undef))
theorem resC_sound {c : Cx α} {n : Sz} {ro : List Loc} {st : St α} {a : Act} {w : World} (hc : CxOk c) (h : RelAt c n ro st a w) :
    ∀ (rs : List ResultVar) (C : List (AV (Id α)) → Prop), resC P c.E rs st C → ∃ (l : List (AV (Id α))) (vs : List Value), C l ∧ l.length = vs.length ∧ (∀ (i : Nat) (h1 : i < l.length) (h2 : i < vs.length), VR (c.addr ro) l[i] vs[i]) ∧
      (rs.mapM (resVal a)).run P w = .ok vs w := by
  intro rs
  induction rs with
  | nil => intro C hC; exact ⟨[], [], hC, rfl, fun i h1 => by simp at h1, by simp⟩
  | cons r rs ih =>
    intro C hC
    cases r with
    | tmp t =>
      obtain ⟨l, vs, h1, h2, h3, h4⟩ := ih _ hC
      refine ⟨_, a.tmps.getD t undef :: vs, h1, by simp [h2], fun i g1 g2 => ?_, ?_⟩
      · cases i with
        | zero => exact h.tmps t
        | succ i => exact h3 i (by simpa using g1) (by simpa using g2)
      · rw [List.mapM_cons]
        simp only [resVal, Sem.run_bind, Sem.run_pure, Result.andThen_ok, h4]
    | cell x ty =>
      obtain ⟨v, u, h1, h2, h3⟩ := loadVar_of hc h hC
      obtain ⟨l, vs, g1, g2, g3, g4⟩ := ih _ h1
      refine ⟨_, u :: vs, g1, by simp [g2], fun i k1 k2 => ?_, ?_⟩
      · cases i with
        | zero => exact h2
        | succ i => exact g3 i (by simpa using k1) (by simpa using k2)
      · rw [List.mapM_cons]
        have e1 : (resVal a (.cell x ty)).run P w = .ok u w := h3
        simp only [Sem.run_bind, e1, Result.andThen_ok, g4, Sem.run_pure]

theorem results_of {c : Cx α} {n : Sz} {ro : List Loc} {st : St α} {a : Act} {w : World} (hc : CxOk c) (h : RelAt c n ro st a w) {fn : Func} {C : List (AV (Id α)) → Prop} (hC : resC P c.E fn.results.toList st C) :
    ∃ l v, C l ∧ VR (c.addr ro) (one l) v ∧ (results fn a.tmps).run P w = .ok v w := by
  obtain ⟨l, vs, h1, h2, h3, h4⟩ := resC_sound hc h _ C hC
  have hrun : (results fn a.tmps).run P w = .ok (if h : vs.toArray.size = 1 then vs.toArray[0] else .tuple vs.toArray) w := by
    unfold results
    rw [Array.mapM_eq_mapM_toList]
    simp only [Sem.run_bind, Sem.run_map]
    have e : ∀ g : ResultVar → Sem Value, (∀ x, g x = resVal a x) → List.mapM g fn.results.toList = List.mapM (resVal a) fn.results.toList := fun g hg => by rw [funext hg]
    rw [e _ (fun x => by cases x <;> rfl), h4]
    simp only [Result.andThen_ok, Sem.run_pure]
  refine ⟨l, _, h1, ?_, hrun⟩
  by_cases hone : vs.length = 1
  · rw [dif_pos (by simpa using hone)]
    obtain ⟨u, rfl⟩ := List.length_eq_one_iff.1 hone
    obtain ⟨v, rfl⟩ := List.length_eq_one_iff.1 (h2.trans hone)
    exact h3 0 (by simp) (by simp)
  · rw [dif_neg (by simpa using hone)]
    have : one l = .tuple l := by
      unfold one
      split
      · simp at h2; omega
      · rfl
    rw [this]
    exact .tuple (by simpa using h2) (fun i g1 g2 => by simpa using h3 i g1 (by simpa using g2))

/-- The frame at the beginning. -/
def argTm : Nat → List (AV (Id α)) → Tm (Id α)
  | _, [] => []
  | i, v :: r => (i, v) :: argTm (i + 1) r
theorem argTm_get : ∀ (l : List (AV (Id α))) (i t : Nat), tget (argTm i l) t = if i ≤ t then l.getD (t - i) .undef else .undef
  | [], i, t => by simp [argTm, tget]
  | v :: r, i, t => by
    simp only [argTm, tget]
    by_cases h : i = t
    · subst h; simp
    · rw [if_neg h, argTm_get r (i + 1) t]
      by_cases h2 : i ≤ t
      · rw [if_pos (by omega), if_pos h2]
        rw [show t - i = (t - (i + 1)) + 1 by omega]
        simp
      · rw [if_neg (by omega), if_neg h2]

theorem start {c : Cx α} {ro : List Loc} {rows : Rows α} {w : World} (hs : Sim c ro rows w) {args : List (AV (Id α))} {vs : Array Value} (hv : VRa (c.addr ro) args vs) {n : Nat} (hn : args.length ≤ n) (hrm : c.rm = ro) :
    RelAt c ⟨n, rows.length⟩ ro ⟨argTm 0 args, rows⟩ { tmps := vs ++ Array.replicate (n - vs.size) undef, defers := [] } w := by
  refine ⟨rfl, by have := hv.1; simp; omega, fun t => ?_, hs, by rw [hrm]; exact hs.len, fun k L hk => by rw [hrm] at hk; exact hk⟩
  simp only [argTm_get, Nat.zero_le, if_true, Nat.sub_zero]
  rcases Nat.lt_or_ge t args.length with ht | ht
  · have ht' : t < vs.size := by rw [← hv.1]; exact ht
    have := hv.2 t ht ht'
    rw [List.getD_eq_getElem?_getD, List.getElem?_eq_getElem ht, Array.getD_eq_getD_getElem?, Array.getElem?_append_left ht', Array.getElem?_eq_getElem ht']
    exact this
  · rw [List.getD_eq_getElem?_getD, List.getElem?_eq_none ht]
    exact .undef _

/-- What is asked at the end. -/
def endQ (K : St α → Prop) : Exit → St α → Prop
  | .normal, st => K st
  | .ret, st => K st
  | _, _ => False

theorem fn_body {f : FuncId} {fn : Func} {body : Code} {n : Nat} (hf : P.funcs[f]? = some fn) (hb : fn.body = some body) (hn : fn.ntmps = n) {args : List (AV (Id α))} {muts : Rows α} (hlen : args.length ≤ n) {K : St α → Prop}
    (h : AWp P E ⟨n, muts.length⟩ body ⟨argTm 0 args, muts⟩ (endQ K)) {R : Ending → World → Prop} {c : Cx α} (hE : c.E = E) (hc : CxOk c) {ro : List Loc} (hrm : c.rm = ro) {w : World} (hs : Sim c ro muts w) {vs : Array Value} (hv : VRa (c.addr ro) args vs)
    (hK : ∀ st a w', K st → Rel c ⟨n, muts.length⟩ st a w' → ∃ v, (results fn a.tmps).run P w' = .ok v w' ∧ R (.returned v) w') : Calls P f vs w R := by
  refine calls_of_wp hf hb (wp_mono (h c hE hc _ w ⟨ro, by rw [hn]; exact start hs hv hlen hrm⟩) ?_)
  rintro e a w' ⟨he, st, hQ, hr⟩
  have hd : a.defers = [] := by obtain ⟨_, h⟩ := hr; exact h.defers
  cases e with
  | normal => exact ⟨hd, hK st a w' hQ hr⟩
  | ret => exact ⟨hd, hK st a w' hQ hr⟩
  | exit id => exact hQ.elim
  | goto l => exact he.elim
  | panic ch => exact he.elim
  | outgrown => exact he.elim

/-- A function whose result leads to no memory. -/
theorem FnOk.pure {f : FuncId} {fn : Func} {body : Code} {n : Nat} (hf : P.funcs[f]? = some fn) (hcall : ∀ args w, (callFunc f args).run P w = .ok (.enter f args) w) (hb : fn.body = some body) (hn : fn.ntmps = n) {args : List (AV (Id α))} (hlen : args.length ≤ n) {res : AV (Id α)} (hsol : res.solid)
    (h : AWp P E ⟨n, 0⟩ body ⟨argTm 0 args, []⟩ (endQ fun st => resC P E fn.results.toList st fun l => one l = res)) : FnOk P f E args [] res [] := by
  refine ⟨hcall, fun re ro w0 vs hc hs hv => ?_⟩
  refine fn_body hf hb hn hlen h (c := ⟨E, re, ro, w0⟩) rfl hc rfl hs hv ?_
  rintro st a w' hK ⟨ro', hr⟩
  obtain ⟨l, v, h1, h2, h3⟩ := results_of hc hr hK
  refine ⟨v, h3, v, [], rfl, ?_, ?_, ?_⟩
  · rw [h1] at h2
    exact h2.all (solid_all _ hsol)
  · have hsim := hr.sim
    exact ⟨rfl, hsim.os, hsim.tape, hsim.output, hsim.size, hsim.frame, fun k r h => by simp at h, fun k k' r r' L L' _ h => by simp at h, fun k L h => by simp at h⟩
  · intro id L hL
    cases id with
    | own k =>
      have := hs.len
      simp at this
      subst this
      simp [Cx.addr] at hL
    | ext x => exact hL
end
end Go.Proofs.Ytopiceaeombefaa.Sy

namespace Go.Proofs.Ytopiceaeombefaa.Sy
open Go Go.RowKit

section
variable {α : Type} {P : Program} {E : α → Option (Row α)} {n : Sz} {st : St α} {Q : Exit → St α → Prop}

/-- A region, and what follows behind a letter. -/
theorem AWp.reg {id : Nat} {ops : Array Oper} {y : Code} (plan qs : List Nat) (steps : List AStep) (hm : mkSteps ops qs n.n plan = some steps) (hp : plan = List.range ops.size)
    (h : ∀ K : St α → Prop, (∀ st, AWp P E n y st Q → K st) → stepsC P E steps st K) : AWp P E n (.seq (.region id ops false) y) st Q :=
  AWp.seq (AWp.region plan qs steps hm hp (h _ fun _ h => h))
theorem AWp.drw {id : Nat} {ops : Array Oper} {y : Code} (hmix : P.follows .mixedOrders = true) (plan qs : List Nat) (steps : List AStep) (hm : mkSteps ops qs n.n plan = some steps) (hp : (plan.length == ops.size && Region.noSelect ops && planB ops qs plan (Array.replicate ops.size false)) = true)
    (h : ∀ K : St α → Prop, (∀ st, AWp P E n y st Q → K st) → stepsC P E steps st K) : AWp P E n (.seq (.region id ops true) y) st Q :=
  AWp.seq (AWp.draws hmix plan qs steps hm hp (h _ fun _ h => h))
/-- A region at the end. -/
theorem AWp.regE {id : Nat} {ops : Array Oper} (plan qs : List Nat) (steps : List AStep) (hm : mkSteps ops qs n.n plan = some steps) (hp : plan = List.range ops.size)
    (h : stepsC P E steps st fun st => Q .normal st) : AWp P E n (.region id ops false) st Q :=
  AWp.region plan qs steps hm hp h
theorem AWp.drwE {id : Nat} {ops : Array Oper} (hmix : P.follows .mixedOrders = true) (plan qs : List Nat) (steps : List AStep) (hm : mkSteps ops qs n.n plan = some steps) (hp : (plan.length == ops.size && Region.noSelect ops && planB ops qs plan (Array.replicate ops.size false)) = true)
    (h : stepsC P E steps st fun st => Q .normal st) : AWp P E n (.region id ops true) st Q :=
  AWp.draws hmix plan qs steps hm hp h
/-- Slots and rows that are not wanted any more are forgotten. -/
theorem AWp.forget {code : Code} {tm : Tm (Id α)} {rows : Rows α} (tm' : Tm (Id α)) (rows' : Rows α) (h0 : n.m ≤ rows'.length) (h1 : leTm tm rows'.length tm') (h2 : leRows rows'.length rows rows') (h : AWp P E n code ⟨tm', rows'⟩ Q) : AWp P E n code ⟨tm, rows⟩ Q :=
  AWp.less (Le.of h0 h1 h2) h

/-- 'if x {t}', and what follows. -/
theorem AWp.ite {x : Operand} {b : Bool} {thn y : Code} (hx : ev st.tmps x = .bool b) (ht : b = true → ∀ X : St α → Prop, (∀ st, AWp P E n y st Q → X st) → AWp P E n thn st (thenQ X Q)) (hf : b = false → AWp P E n y st Q) : AWp P E n (.seq (.cond x thn .skip) y) st Q :=
  AWp.seq (AWp.cond hx (fun hb => ht hb _ fun _ h => h) (fun hb => AWp.skip (hf hb)))
/-- 'if x {t} else {e}', and what follows. -/
theorem AWp.ite2 {x : Operand} {b : Bool} {thn els y : Code} (hx : ev st.tmps x = .bool b) (ht : b = true → ∀ X : St α → Prop, (∀ st, AWp P E n y st Q → X st) → AWp P E n thn st (thenQ X Q)) (hf : b = false → ∀ X : St α → Prop, (∀ st, AWp P E n y st Q → X st) → AWp P E n els st (thenQ X Q)) : AWp P E n (.seq (.cond x thn els) y) st Q :=
  AWp.seq (AWp.cond hx (fun hb => ht hb _ fun _ h => h) (fun hb => hf hb _ fun _ h => h))
/-- A loop's test. -/
theorem AWp.test {x : Operand} {b : Bool} {B : Nat} {y : Code} (hx : ev st.tmps x = .bool b) (ht : b = true → AWp P E n y st Q) (hf : b = false → Q (.exit B) st) : AWp P E n (.seq (.cond x .skip (.exit B)) y) st Q :=
  AWp.seq (AWp.cond hx (fun hb => AWp.skip (ht hb)) (fun hb => AWp.exit (hf hb)))

def bq (B : Nat) (X : St α → Prop) (Q : Exit → St α → Prop) : Exit → St α → Prop
  | .normal, st => X st
  | .exit id, st => (if id = B then X st else Q (.exit id) st)
  | e, st => Q e st
/-- A block, and what follows. -/
theorem AWp.blk {B : Nat} {body y : Code} (h : ∀ X : St α → Prop, (∀ st, AWp P E n y st Q → X st) → AWp P E n body st (bq B X Q)) : AWp P E n (.seq (.block B body) y) st Q :=
  AWp.seq (AWp.block ((h _ fun _ h => h).mono fun e st' hq => by
    cases e with
    | normal => exact hq
    | exit id =>
      simp only [bq] at hq
      simp only [blockQ, thenQ]
      split
      · rename_i h; rw [if_pos h] at hq; exact hq
      · rename_i h; rw [if_neg h] at hq; exact hq
    | _ => exact hq))
theorem AWp.blkE {B : Nat} {body : Code} (h : AWp P E n body st (bq B (fun st => Q .normal st) Q)) : AWp P E n (.block B body) st Q :=
  AWp.block (h.mono fun e st' hq => by
    cases e with
    | exit id =>
      simp only [bq] at hq
      simp only [blockQ]
      split
      · rename_i h; rw [if_pos h] at hq; exact hq
      · rename_i h; rw [if_neg h] at hq; exact hq
    | _ => exact hq)

/-- behind a round. -/
def lq (n : Sz) (S : Nat → St α) (k N B : Nat) (X : St α → Prop) (Q : Exit → St α → Prop) : Exit → St α → Prop
  | .normal, st => k < N ∧ Le n st (S (k + 1))
  | .exit id, st => (if id = B then X st else Q (.exit id) st)
  | e, st => Q e st
/-- A counted loop, and what follows. -/
theorem AWp.lop {B : Nat} {body y : Code} (S : Nat → St α) (N : Nat) (h0 : Le n st (S 0)) (h : ∀ X : St α → Prop, (∀ st, AWp P E n y st Q → X st) → ∀ k, k ≤ N → AWp P E n body (S k) (lq n S k N B X Q)) : AWp P E n (.seq (.block B (.loop body)) y) st Q :=
  AWp.seq (AWp.block (AWp.rounds S N h0 fun k hk => (h _ (fun _ h => h) k hk).mono fun e st' hq => by
    cases e with
    | exit id =>
      simp only [lq] at hq
      simp only [roundQ, blockQ, thenQ]
      split
      · rename_i h; rw [if_pos h] at hq; exact hq
      · rename_i h; rw [if_neg h] at hq; exact hq
    | _ => exact hq))
/-- A loop with an invariant and a measure, and what follows. -/
def iq (n : Sz) (I : Nat → St α → Prop) (m B : Nat) (X : St α → Prop) (Q : Exit → St α → Prop) : Exit → St α → Prop
  | .normal, st => ∃ m' st', m' < m ∧ Le n st st' ∧ I m' st'
  | .exit id, st => (if id = B then X st else Q (.exit id) st)
  | e, st => Q e st
theorem AWp.inv {B : Nat} {body y : Code} (I : Nat → St α → Prop) {st0 : St α} (m : Nat) (h0 : Le n st st0) (h1 : I m st0) (h : ∀ X : St α → Prop, (∀ st, AWp P E n y st Q → X st) → ∀ m st, I m st → AWp P E n body st (iq n I m B X Q)) : AWp P E n (.seq (.block B (.loop body)) y) st Q :=
  AWp.seq (AWp.block (AWp.less h0 (AWp.loop (fun st m => I m st) h1 fun m st hI => (h _ (fun _ h => h) m st hI).mono fun e st' hq => by
    cases e with
    | exit id =>
      simp only [iq] at hq
      simp only [loopQ, blockQ, thenQ]
      split
      · rename_i h; rw [if_pos h] at hq; exact hq
      · rename_i h; rw [if_neg h] at hq; exact hq
    | _ => exact hq)))
theorem lq_next {S : Nat → St α} {k N B : Nat} {X : St α → Prop} {tm tm' : Tm (Id α)} {rows rows' : Rows α} (hk : k < N) (hs : S (k + 1) = ⟨tm', rows'⟩) (h0 : n.m ≤ rows'.length) (h1 : leTm tm rows'.length tm') (h2 : leRows rows'.length rows rows') : lq n S k N B X Q .normal ⟨tm, rows⟩ :=
  ⟨hk, by rw [hs]; exact Le.of h0 h1 h2⟩
theorem lq_exit {S : Nat → St α} {k N B : Nat} {X : St α → Prop} {st : St α} (h : X st) : lq n S k N B X Q (.exit B) st := by
  show (if B = B then X st else Q (.exit B) st); rw [if_pos rfl]; exact h
theorem bq_exit {B : Nat} {X : St α → Prop} {st : St α} (h : X st) : bq B X Q (.exit B) st := by
  show (if B = B then X st else Q (.exit B) st); rw [if_pos rfl]; exact h
theorem iq_exit {I : Nat → St α → Prop} {m B : Nat} {X : St α → Prop} {st : St α} (h : X st) : iq n I m B X Q (.exit B) st := by
  show (if B = B then X st else Q (.exit B) st); rw [if_pos rfl]; exact h
theorem iq_next {I : Nat → St α → Prop} {m B : Nat} {X : St α → Prop} {tm : Tm (Id α)} {rows : Rows α} (m' : Nat) (tm' : Tm (Id α)) (rows' : Rows α) (hm : m' < m) (h0 : n.m ≤ rows'.length) (h1 : leTm tm rows'.length tm') (h2 : leRows rows'.length rows rows') (hI : I m' ⟨tm', rows'⟩) : iq n I m B X Q .normal ⟨tm, rows⟩ :=
  ⟨m', _, hm, Le.of h0 h1 h2, hI⟩
end

theorem wrap_i64' {n : Int} (h1 : -9223372036854775808 ≤ n) (h2 : n ≤ 9223372036854775807) : IntKind.i64.wrap n = n := by
  rw [IntKind.wrap_i64]; omega
theorem wrap_u64' {n : Int} (h1 : 0 ≤ n) (h2 : n ≤ 18446744073709551615) : IntKind.u64.wrap n = n := by
  simp only [IntKind.wrap, IntKind.signed, IntKind.bits, Bool.false_and]
  simp
  omega
theorem wrap_u8' {n : Int} (h1 : 0 ≤ n) (h2 : n ≤ 255) : IntKind.u8.wrap n = n := by
  simp only [IntKind.wrap, IntKind.signed, IntKind.bits, Bool.false_and]
  simp
  omega
theorem tn_add {a b : Int} (ha : 0 ≤ a) (hb : 0 ≤ b) : (a + b).toNat = a.toNat + b.toNat := by omega
theorem tn_mul {a b : Int} (ha : 0 ≤ a) (hb : 0 ≤ b) : (a * b).toNat = a.toNat * b.toNat := Int.toNat_mul ha hb
theorem tn_sub {a b : Int} (hb : 0 ≤ b) (h : b ≤ a) : (a - b).toNat = a.toNat - b.toNat := by omega
theorem tn_div {a b : Int} (ha : 0 ≤ a) (hb : 0 ≤ b) : (a / b).toNat = a.toNat / b.toNat := by obtain ⟨x, rfl⟩ := Int.eq_ofNat_of_zero_le ha; obtain ⟨y, rfl⟩ := Int.eq_ofNat_of_zero_le hb; simp only [Int.toNat_natCast]; exact Int.toNat_natCast (x / y)
theorem tn_mod {a b : Int} (ha : 0 ≤ a) (hb : 0 ≤ b) : (a % b).toNat = a.toNat % b.toNat := Int.toNat_emod ha hb
theorem wrap_u32' {n : Int} (h1 : 0 ≤ n) (h2 : n ≤ 4294967295) : IntKind.u32.wrap n = n := by
  simp only [IntKind.wrap, IntKind.signed, IntKind.bits, Bool.false_and]
  simp
  omega
end Go.Proofs.Ytopiceaeombefaa.Sy

namespace Go.Proofs.Ytopiceaeombefaa.Sy
open Go Go.RowKit

section
variable {α : Type}

/-- The name at a place of a list of names. -/
def renS (sel : List Nat) : Id α → Id α
  | .own j => .own (sel.getD j 0)
  | .ext x => .ext x

def selTm (tm : Tm (Id α)) (sel : List Nat) : Tm (Id α) → Prop
  | [] => True
  | (t, v) :: r => (tget tm t = v.map (renS sel) ∧ v.All (inS sel.length)) ∧ selTm tm sel r
def selRow (rows : Rows α) (sel : List Nat) (s : Nat) : Option (Row (Id α)) → Prop
  | none => True
  | some q => rows[s]? = some (some (q.map (renS sel))) ∧ q.All (inS sel.length)
def selRows (rows : Rows α) (sel : List Nat) : List Nat → Rows α → Prop
  | [], [] => True
  | s :: ss, r :: rs => selRow rows sel s r ∧ selRows rows sel ss rs
  | _, _ => False

theorem selTm_get {tm tm' : Tm (Id α)} {sel : List Nat} (h : selTm tm sel tm') (t : Nat) : tget tm' t = .undef ∨ (tget tm t = (tget tm' t).map (renS sel) ∧ (tget tm' t).All (inS sel.length)) := by
  induction tm' with
  | nil => exact .inl rfl
  | cons p r ih =>
    obtain ⟨s, v⟩ := p
    obtain ⟨⟨h1, h2⟩, h3⟩ := h
    simp only [tget]
    by_cases hs : s = t
    · subst hs
      rw [if_pos rfl]
      exact .inr ⟨h1, h2⟩
    · rw [if_neg hs]; exact ih h3
theorem selRows_get {rows : Rows α} {sel : List Nat} : ∀ {ss : List Nat} {rows' : Rows α}, selRows rows sel ss rows' → rows'.length = ss.length ∧ ∀ (k : Nat) (r : Row (Id α)), rows'[k]? = some (some r) → ∃ s, ss[k]? = some s ∧ rows[s]? = some (some (r.map (renS sel))) ∧ r.All (inS sel.length)
  | [], [], _ => ⟨rfl, fun k r h => by simp at h⟩
  | [], _ :: _, h => h.elim
  | _ :: _, [], h => h.elim
  | s :: ss, r' :: rs', h => by
    obtain ⟨h1, h2⟩ := h
    obtain ⟨h3, h4⟩ := selRows_get h2
    refine ⟨by simp [h3], fun k r hk => ?_⟩
    cases k with
    | zero =>
      simp at hk
      subst hk
      exact ⟨s, by simp, h1.1, h1.2⟩
    | succ k => simpa using h4 k r (by simpa using hk)

theorem Row.unmap_get {f : Id α → Id α} {r : Row (Id α)} {j : Nat} {v : AV (Id α)} (h : r.get? j = some v) : (r.map f).get? j = some (v.map f) := by
  rw [Row.get?_map, h]; rfl

/-- The selected rows, under new names. -/
theorem Sim.sel {c : Cx α} {ro : List Loc} {rows rows' : Rows α} {w : World} (hsim : Sim c ro rows w) {sel : List Nat} (hn : sel.Nodup) (hlt : ∀ s ∈ sel, s < rows.length) (h : selRows rows sel sel rows') :
    Sim c (sel.map fun s => ro.getD s ⟨0, 0, 0⟩) rows' w ∧ ∀ (v : AV (Id α)) (u : Value), VR (c.addr ro) (v.map (renS sel)) u → v.All (inS sel.length) → VR (c.addr (sel.map fun s => ro.getD s ⟨0, 0, 0⟩)) v u := by
  obtain ⟨hlen, hrow⟩ := selRows_get h
  have hget : ∀ (k : Nat) (L : Loc), k < sel.length → ro[sel.getD k 0]? = some L → (sel.map fun s => ro.getD s ⟨0, 0, 0⟩)[k]? = some L := by
    intro k L hk hL
    rw [List.getElem?_map, List.getElem?_eq_getElem hk]
    rw [List.getD_eq_getElem?_getD, List.getElem?_eq_getElem hk] at hL
    simp only [Option.getD_some] at hL
    simp [List.getD_eq_getElem?_getD, hL]
  have hback : ∀ (k s : Nat) (L : Loc), sel[k]? = some s → (sel.map fun s => ro.getD s ⟨0, 0, 0⟩)[k]? = some L → ro[s]? = some L := by
    intro k s L hs hL
    rw [List.getElem?_map, hs] at hL
    simp only [Option.map_some, Option.some.injEq] at hL
    have : s < ro.length := by rw [hsim.len]; exact hlt s (List.mem_of_getElem? hs)
    rw [List.getElem?_eq_getElem this]
    rw [List.getD_eq_getElem?_getD, List.getElem?_eq_getElem this] at hL
    simpa using hL
  have hA : ∀ (v : AV (Id α)) (u : Value), VR (c.addr ro) (v.map (renS sel)) u → v.All (inS sel.length) → VR (c.addr (sel.map fun s => ro.getD s ⟨0, 0, 0⟩)) v u := by
    intro v u hv ha
    refine VR.unmap hv v rfl (AV.All.imp (fun id hid L hL => ?_) v ha)
    cases id with
    | own k => exact hget k L hid hL
    | ext x => exact hL
  refine ⟨?_, hA⟩
  have hinj : ∀ (k k' s s' : Nat), k ≠ k' → sel[k]? = some s → sel[k']? = some s' → s ≠ s' := by
    intro k k' s s' hne h1 h2 he
    subst he
    obtain ⟨a1, a2⟩ := List.getElem?_eq_some_iff.1 h1
    obtain ⟨b1, b2⟩ := List.getElem?_eq_some_iff.1 h2
    exact hne ((List.getElem_inj hn).1 (a2.trans b2.symm))
  exact {
    len := by simp [hlen], os := hsim.os, tape := hsim.tape, output := hsim.output, size := hsim.size, frame := hsim.frame
    own := fun k r hk => by
      obtain ⟨s, g0, g, hall⟩ := hrow k r hk
      obtain ⟨L, g1, g2, g3, g4⟩ := hsim.own s _ g
      have hkl : k < sel.length := (List.getElem?_eq_some_iff.1 g0).1
      have hsd : sel.getD k 0 = s := by rw [List.getD_eq_getElem?_getD, g0]; rfl
      refine ⟨L, hget k L hkl (by rw [hsd]; exact g1), g2, by rw [Row.len_map] at g3; exact g3, fun h0 => ?_⟩
      obtain ⟨cs, ty, g5, g6, g7⟩ := g4 h0
      refine ⟨cs, ty, by rw [Row.kd_map] at g5; exact g5, g6, fun j v hv => ?_⟩
      obtain ⟨u, hu, hcr⟩ := g7 j _ (Row.unmap_get hv)
      exact ⟨u, hu, hA v u hcr.1 (Row.All_get hall hv), hcr.2⟩
    inj := fun k k' r r' L L' hne hk hk' hL hL' => by
      obtain ⟨s, g0, g, _⟩ := hrow k r hk
      obtain ⟨s', g0', g', _⟩ := hrow k' r' hk'
      exact hsim.inj s s' _ _ L L' (hinj k k' s s' hne g0 g0') g g' (hback k s L g0 hL) (hback k' s' L' g0' hL')
    fra := fun k L hL => by
      rw [List.getElem?_map, Option.map_eq_some_iff] at hL
      obtain ⟨s, hs, hL⟩ := hL
      rw [List.getD_eq_getElem?_getD] at hL
      cases hr : ro[s]? with
      | none => rw [hr] at hL; simp only [Option.getD_none] at hL; subst hL; exact fun h => absurd rfl h
      | some M => rw [hr] at hL; simp only [Option.getD_some] at hL; subst hL; exact hsim.fra s M hr }

theorem sel_pin {sel : List Nat} {m : Nat} (hm : sel.take m = List.range m) {ro : List Loc} {k : Nat} {L : Loc} (hk : k < m) (hL : ro[k]? = some L) : (sel.map fun s => ro.getD s ⟨0, 0, 0⟩)[k]? = some L := by
  have h : sel[k]? = some k := by
    have := congrArg (fun l : List Nat => l[k]?) hm
    simp only [List.getElem?_take_of_lt hk] at this
    rw [this]
    simp [hk]
  rw [List.getElem?_map, h]
  simp [List.getD_eq_getElem?_getD, hL]
theorem Le.sel {n : Sz} {tm tm' : Tm (Id α)} {rows rows' : Rows α} (sel : List Nat) (hn : sel.Nodup) (hlt : ∀ s ∈ sel, s < rows.length) (hm : sel.take n.m = List.range n.m) (h1 : selTm tm sel tm') (h2 : selRows rows sel sel rows') : Le n (⟨tm, rows⟩ : St α) ⟨tm', rows'⟩ := by
  intro c a w ⟨ro, hr⟩
  obtain ⟨hs, hA⟩ := hr.sim.sel hn hlt h2
  refine ⟨_, hr.defers, hr.size, fun t => ?_, hs, hr.rm, fun k L hk => sel_pin hm (by have := (List.getElem?_eq_some_iff.1 hk).1; have := hr.rm; omega) (hr.pin k L hk)⟩
  rcases selTm_get h1 t with h | ⟨h, hall⟩
  · simp only; rw [h]; exact .undef _
  · have := hr.tmps t
    simp only at this
    rw [h] at this
    exact hA _ _ this hall

variable {P : Program} {E : α → Option (Row α)}

/-- A function: its result, and the rows behind it: those of its rows that are selected. -/
theorem FnOk.intro {f : FuncId} {fn : Func} {body : Code} {n : Nat} (hf : P.funcs[f]? = some fn) (hcall : ∀ args w, (callFunc f args).run P w = .ok (.enter f args) w) (hb : fn.body = some body) (hn : fn.ntmps = n) {args : List (AV (Id α))} (hlen : args.length ≤ n) {muts : Rows α} {res : AV (Id α)} {rows' : Rows α}
    (h : AWp P E ⟨n, muts.length⟩ body ⟨argTm 0 args, muts⟩ (endQ fun st => resC P E fn.results.toList st fun l => ∃ sel : List Nat, sel.Nodup ∧ (∀ s ∈ sel, s < st.rows.length) ∧ sel.take muts.length = List.range muts.length ∧ one l = res.map (renS sel) ∧ res.All (inS sel.length) ∧ selRows st.rows sel sel rows')) : FnOk P f E args muts res rows' := by
  refine ⟨hcall, fun re ro w0 vs hc hs hv => ?_⟩
  refine fn_body hf hb hn hlen h (c := ⟨E, re, ro, w0⟩) rfl hc rfl hs hv ?_
  rintro st a w' hK ⟨ro', hr⟩
  obtain ⟨l, v, ⟨sel, h1, h2, h3, h4, h5, h6⟩, h7, h8⟩ := results_of hc hr hK
  obtain ⟨g1, g2⟩ := hr.sim.sel h1 h2 h6
  rw [h4] at h7
  refine ⟨v, h8, v, _, rfl, g2 _ _ h7 h5, g1, ?_⟩
  intro id L hL
  cases id with
  | own k =>
    have hk : k < muts.length := by rw [← hs.len]; exact (List.getElem?_eq_some_iff.1 hL).1
    exact sel_pin h3 hk (hr.pin k L hL)
  | ext x => exact hL
end
end Go.Proofs.Ytopiceaeombefaa.Sy

namespace Go.Proofs.Ytopiceaeombefaa.Sy
open Go Go.RowKit Go.ChangeShapes Go.WideShapes Go.ChangeAt

/-- An argument of a law. -/
inductive In where
  | bool (b : Bool)
  | int (k : IntKind) (n : Int)
  | arr (k : IntKind) (l : List Int)
  | slc (k : IntKind) (l : List Int)
  | slcs (k : IntKind) (ls : List (List Int))
  | slca (k : IntKind) (m n : Nat) (l : List Int)
  | slcm (m n : Nat) (l : List Value)

/-- The kinds of the cells of a type of plain fields. none: a bool. -/
def kindT (P : Program) (t : TypeId) : Option (List (Option IntKind)) := match P.underlying t with
  | some .bool => some [none]
  | some (.int k) => some [some k]
  | some (.array n e) => (match P.underlying e with | some (.int k) => if P.cellsOf e = 1 then some (List.replicate n (some k)) else none | _ => none)
  | _ => none
def flatS (P : Program) : List Field → Nat → Option (List (Option IntKind))
  | [], _ => some []
  | f :: r, o => if f.offset = o then (match kindT P f.type, flatS P r (o + P.cellsOf f.type) with | some a, some b => if a.length = P.cellsOf f.type then some (a ++ b) else none | _, _ => none) else none
def kindOk : Option IntKind → Value → Prop
  | none, v => ∃ b, v = .bool b
  | some k, v => ∃ n, v = .int k n ∧ (Lit.int k n).wf = true
def WfL (k : IntKind) (l : List Int) : Prop := ∀ n ∈ l, (Lit.int k n).wf = true

def In.fits (P : Program) (t : TypeId) : In → Prop
  | .bool _ => P.underlying t = some .bool
  | .int k n => P.underlying t = some (.int k) ∧ (Lit.int k n).wf = true
  | .arr k l => ∃ m e, P.underlying t = some (.array m e) ∧ P.underlying e = some (.int k) ∧ l.length = m ∧ WfL k l
  | .slc k l => ∃ e, P.underlying t = some (.slice e) ∧ P.underlying e = some (.int k) ∧ l.length * P.bytesOf e ≤ reachBytes ∧ WfL k l
  | .slcs k ls => ∃ e q, P.underlying t = some (.slice e) ∧ P.underlying e = some (.slice q) ∧ P.underlying q = some (.int k) ∧ ls.length * P.bytesOf e ≤ reachBytes ∧ ∀ l ∈ ls, l.length * P.bytesOf q ≤ reachBytes ∧ WfL k l
  | .slca k m n l => ∃ e q, P.underlying t = some (.slice e) ∧ P.underlying e = some (.array m q) ∧ P.underlying q = some (.int k) ∧ n * P.bytesOf e ≤ reachBytes ∧ l.length = n * m ∧ WfL k l
  | .slcm m n l => ∃ e fs ks, P.underlying t = some (.slice e) ∧ P.underlying e = some (.struct fs) ∧ flatS P fs.toList 0 = some ks ∧ ks.length = m ∧ n * P.bytesOf e ≤ reachBytes ∧ l.length = n * m ∧ ∀ (p : Nat) (kd : Option IntKind), p < n * m → ks[p % m]? = some kd → kindOk kd (l.getD p undef)
def insFit (P : Program) : List TypeId → List In → Prop
  | [], [] => True
  | t :: ts, i :: is => i.fits P t ∧ insFit P ts is
  | _, _ => False
def openB (P : Program) (t : TypeId) : Bool :=
  match P.underlying t with
  | some .bool => true
  | some (.int _) => true
  | some (.array n e) => (match P.underlying e with | some (.int _) => P.cellsOf e == 1 && P.cellsOf t == n | _ => false)
  | some (.slice e) => (match P.underlying e with
      | some (.int _) => P.cellsOf e == 1
      | some (.slice q) => (match P.underlying q with | some (.int _) => P.cellsOf e == 1 && P.cellsOf q == 1 | _ => false)
      | some (.array m q) => (match P.underlying q with | some (.int _) => P.cellsOf q == 1 && P.cellsOf e == m && decide (0 < m) | _ => false)
      | some (.struct fs) => (match flatS P fs.toList 0 with | some ks => ks.length == P.cellsOf e && decide (0 < ks.length) | none => false)
      | _ => false)
  | _ => false

def slcVal (W : World) (k : IntKind) (l : List Int) (v : Value) : Prop := (v = .slice none 0 0 ∧ l = []) ∨ ∃ a cap, v = .slice (some a) l.length cap ∧ l.length ≤ cap ∧ ∀ i, i < l.length → W.cell? (a.add i) = some (.int k (l.getD i 0))
def In.val (W : World) : In → Value → Prop
  | .bool b, v => v = .bool b
  | .int k n, v => v = .int k n
  | .arr k l, v => v = .agg (l.map (.int k)).toArray
  | .slc k l, v => (v = .slice none 0 0 ∧ l = []) ∨ ∃ a cap, v = .slice (some a) l.length cap ∧ l.length ≤ cap ∧ ∀ i, i < l.length → W.cell? (a.add i) = some (.int k (l.getD i 0))
  | .slcs k ls, v => (v = .slice none 0 0 ∧ ls = []) ∨ ∃ a cap, v = .slice (some a) ls.length cap ∧ ls.length ≤ cap ∧ ∀ i, i < ls.length → ∃ u, W.cell? (a.add i) = some u ∧ slcVal W k (ls.getD i []) u
  | .slca k m n l, v => l.length = n * m ∧ 0 < m ∧ ((v = .slice none 0 0 ∧ n = 0) ∨ ∃ a cap, v = .slice (some a) n cap ∧ n ≤ cap ∧ ∀ i, i < n * m → W.cell? (a.add i) = some (.int k (l.getD i 0)))
  | .slcm m n l, v => l.length = n * m ∧ 0 < m ∧ ((v = .slice none 0 0 ∧ n = 0) ∨ ∃ a cap, v = .slice (some a) n cap ∧ n ≤ cap ∧ ∀ i, i < n * m → W.cell? (a.add i) = some (l.getD i undef) ∧ (l.getD i undef).oneCell' = true)
def insVal (W : World) : List In → List Value → Prop
  | [], [] => True
  | i :: is, v :: vs => i.val W v ∧ insVal W is vs
  | _, _ => False

section
variable {H : Type} {enc : TypeId × Value → H} {P : Program} {W : World}

theorem ints_list {k : IntKind} : ∀ {cs : List Value}, (∀ (i : Nat) (v : Value), cs[i]? = some v → ∃ n, v = .int k n ∧ (Lit.int k n).wf = true) → ∃ l : List Int, cs = l.map (Value.int k) ∧ WfL k l
  | [], _ => ⟨[], rfl, fun n h => by cases h⟩
  | c :: cs, h => by
    obtain ⟨n, rfl, hn⟩ := h 0 c rfl
    obtain ⟨l, rfl, hl⟩ := ints_list (cs := cs) fun i v hi => h (i + 1) v (by simpa using hi)
    exact ⟨n :: l, rfl, fun m hm => by
      rcases List.mem_cons.1 hm with rfl | hm
      · exact hn
      · exact hl m hm⟩

theorem add_add' (a : Addr) (i j : Nat) : (a.add i).add j = a.add (i + j) := by
  obtain ⟨b, off, spot⟩ := a
  by_cases hi : i = 0
  · subst hi; simp [Addr.add]
  · by_cases hj : j = 0
    · subst hj; simp [Addr.add, hi]
    · simp [Addr.add, hi, hj, Nat.add_assoc]
theorem sized_any {ts ts' : List TypeId} {ds ds' : List (DataW H)} (h : (DataW.weightsEach P (ts ++ ts') (ds ++ ds')).all (· ≤ reachBytes) = true) {j : Nat} {t : TypeId} {d : DataW H} (ht : ts[j]? = some t) (hd : ds[j]? = some d) : ∀ n ∈ d.weights P t, n ≤ reachBytes := by
  intro n hn
  have := List.all_eq_true.1 h _ (DataW.weights_mem_each (by rw [List.getElem?_append_left (List.getElem?_eq_some_iff.1 ht).1]; exact ht) (by rw [List.getElem?_append_left (List.getElem?_eq_some_iff.1 hd).1]; exact hd) n hn)
  simpa using this
theorem weights_slice {t e : TypeId} (ht : P.underlying t = some (.slice e)) {el sp : List (DataW H)} (hw : ∀ n ∈ (DataW.slice el sp).weights P t, n ≤ reachBytes) : el.length * P.bytesOf e ≤ reachBytes :=
  Nat.le_trans (Nat.mul_le_mul_right _ (Nat.le_add_right _ _)) (hw ((el.length + sp.length) * P.bytesOf e) (by simp [DataW.weights, ht]))
theorem weights_all {e : TypeId} : ∀ {l : List (DataW H)} {d : DataW H}, d ∈ l → ∀ n ∈ d.weights P e, n ∈ DataW.weightsAll P e l
  | x :: l, d, hd, n, hn => by
    simp only [DataW.weightsAll, List.mem_append]
    rcases List.mem_cons.1 hd with rfl | h
    · exact .inl hn
    · exact .inr (weights_all h n hn)
theorem weights_in {t e : TypeId} (ht : P.underlying t = some (.slice e)) {el sp : List (DataW H)} (hw : ∀ n ∈ (DataW.slice el sp).weights P t, n ≤ reachBytes) {d : DataW H} (hd : d ∈ el) : ∀ n ∈ d.weights P e, n ≤ reachBytes :=
  fun n hn => hw n (by simp only [DataW.weights, ht, List.mem_cons, List.mem_append]; exact .inr (.inl (weights_all hd n hn)))
theorem open_kind {enc : TypeId × Value → H} {fuel : Nat} {t : TypeId} {cs : List Value} {x : DataW H × List MemPlace} {ks : List (Option IntKind)} (hk : kindT P t = some ks) (hl : ks.length = P.cellsOf t) (h : DataW.trod enc P W 0 (fun _ => true) true fuel t cs = some x) :
    ∀ (c : Nat) (kd : Option IntKind), ks[c]? = some kd → ∃ v, cs[c]? = some v ∧ kindOk kd v := by
  unfold kindT at hk
  split at hk
  · rename_i ht
    simp only [Option.some.injEq] at hk; subst hk
    obtain ⟨b, rfl, _⟩ := DataW.trod_bool ht h
    intro c kd hc
    match c, hc with
    | 0, hc => simp only [List.getElem?_cons_zero, Option.some.injEq] at hc; subst hc; exact ⟨_, rfl, b, rfl⟩
  · rename_i k ht
    simp only [Option.some.injEq] at hk; subst hk
    obtain ⟨n, rfl, _, hw⟩ := DataW.trod_int ht h
    intro c kd hc
    match c, hc with
    | 0, hc => simp only [List.getElem?_cons_zero, Option.some.injEq] at hc; subst hc; exact ⟨_, rfl, n, rfl, hw⟩
  · rename_i n e ht
    split at hk <;> try cases hk
    rename_i k he
    split at hk <;> try cases hk
    rename_i h1
    obtain ⟨xs, m, _, _, hcl, hxl, hall⟩ := DataW.trod_array ht h
    intro c kd hc
    have hcn : c < n := by have := (List.getElem?_eq_some_iff.1 hc).1; simpa using this
    rw [List.getElem?_replicate, if_pos hcn, Option.some.injEq] at hc
    subst hc
    have h2 := hall c hcn
    rw [h1, Nat.mul_one, List.getElem?_eq_getElem (by omega)] at h2
    obtain ⟨n', h3, _, h4⟩ := DataW.trod_int he h2
    have hcc : c < cs.length := by rw [hcl, ← hl]; simpa using hcn
    rw [List.drop_eq_getElem_cons hcc] at h3
    simp only [List.take_succ_cons, List.take_zero, List.cons.injEq, and_true] at h3
    exact ⟨_, List.getElem?_eq_getElem hcc, n', h3, h4⟩
  · cases hk
theorem open_flat {enc : TypeId × Value → H} {cs : List Value} : ∀ {fs : List Field} {o : Nat} {ks : List (Option IntKind)}, flatS P fs o = some ks →
    (∀ f, f ∈ fs → ∃ n x, DataW.trod enc P W 0 (fun _ => true) true n f.type ((cs.drop f.offset).take (P.cellsOf f.type)) = some x) → ∀ (c : Nat) (kd : Option IntKind), ks[c]? = some kd → ∃ v, cs[o + c]? = some v ∧ kindOk kd v
  | [], o, ks, h, _ => by
    simp only [flatS, Option.some.injEq] at h; subst h
    intro c kd hc; simp at hc
  | f :: r, o, ks, h, hf => by
    simp only [flatS] at h
    split at h <;> try cases h
    rename_i ho
    split at h <;> try cases h
    rename_i a b ha hb
    split at h <;> try cases h
    rename_i hal
    intro c kd hc
    obtain ⟨n, x, hx⟩ := hf f (by simp)
    rcases Nat.lt_or_ge c a.length with h1 | h1
    · rw [List.getElem?_append_left h1] at hc
      obtain ⟨v, h2, h3⟩ := open_kind ha hal hx c kd hc
      rw [List.getElem?_take_of_lt (by omega), List.getElem?_drop, ho] at h2
      exact ⟨v, h2, h3⟩
    · rw [List.getElem?_append_right h1] at hc
      obtain ⟨v, h2, h3⟩ := open_flat hb (fun f' hf' => hf f' (by simp [hf'])) (c - a.length) kd hc
      rw [← hal, show o + a.length + (c - a.length) = o + c by omega] at h2
      exact ⟨v, h2, h3⟩
theorem open_one {r : Reach} {b0 : Nat} {t : TypeId} {v : Value} {d : DataW H} {p : List MemPlace} (hB : openB P t = true) (hval : Value.okWide P W r b0 t v) (h : DataW.Trod enc P W 0 (fun _ => true) true t v d p)
    (hw : ∀ n ∈ d.weights P t, n ≤ reachBytes) : ∃ i : In, i.fits P t ∧ i.val W v := by
  unfold openB at hB
  split at hB
  · rename_i ht
    obtain ⟨b, rfl, _⟩ := open_bool ht hval h
    exact ⟨.bool b, ht, rfl⟩
  · rename_i k ht
    obtain ⟨n, rfl, _, _, hn⟩ := open_int ht hval h
    exact ⟨.int k n, ⟨ht, hn⟩, rfl⟩
  · rename_i n e ht
    split at hB <;> try cases hB
    rename_i k he
    simp only [Bool.and_eq_true, beq_iff_eq] at hB
    obtain ⟨h1, h2⟩ := hB
    unfold Value.okWide at hval
    simp only [ht] at hval
    obtain ⟨cs, rfl, hsz, _⟩ := hval
    obtain ⟨fuel, hf⟩ := h
    obtain ⟨xs, m, rfl, _, hl, hx, hall⟩ := DataW.trod_array ht hf
    simp only [Value.cells, h1, Nat.mul_one] at hall hl
    obtain ⟨l, hl2, hwf⟩ := ints_list (k := k) (cs := cs.toList) (by
      intro i v hi
      have hin : i < n := by
        have := (List.getElem?_eq_some_iff.1 hi).1
        simp only [Array.length_toList] at this
        omega
      have hxi := hall i hin
      rw [List.getElem?_eq_getElem (by omega)] at hxi
      have hd1 : (cs.toList.drop i).take 1 = [v] := by
        obtain ⟨h3, h4⟩ := List.getElem?_eq_some_iff.1 hi
        rw [List.drop_eq_getElem_cons h3, h4]
        rfl
      rw [hd1] at hxi
      obtain ⟨n', h5, _, h6⟩ := DataW.trod_int he hxi
      simp only [List.cons.injEq, and_true] at h5
      exact ⟨n', h5, h6⟩)
    refine ⟨.arr k l, ⟨n, e, ht, he, ?_, hwf⟩, ?_⟩
    · have : cs.toList.length = l.length := by rw [hl2]; simp
      rw [← this]
      simp only [Array.length_toList]
      omega
    · show Value.agg cs = _
      rw [← hl2]
  · rename_i e ht
    split at hB <;> try cases hB
    · rename_i k he
      simp only [beq_iff_eq] at hB
      obtain ⟨a0, len, cap, rfl⟩ := okWide_slice ht hval
      obtain ⟨fuel, hf⟩ := h
      rcases open_ints ht he hB hf with ⟨hcs, hx⟩ | ⟨x, l, c, zs, hcs, _, hl, hm, hz, hx, hcell, hwz⟩
      · simp [Value.cells] at hcs
        obtain ⟨rfl, rfl, rfl⟩ := hcs
        exact ⟨.slc k [], ⟨e, ht, he, by simp, fun n h => by cases h⟩, .inl ⟨rfl, rfl⟩⟩
      · simp [Value.cells] at hcs
        obtain ⟨rfl, rfl, rfl⟩ := hcs
        simp only [if_true] at hz
        simp only [Prod.mk.injEq] at hx
        have hlen : (zs.take len).length = len := by simp; omega
        refine ⟨.slc k (zs.take len), ⟨e, ht, he, ?_, fun n hn => hwz n (List.mem_of_mem_take hn)⟩, .inr ⟨x, cap, by rw [hlen], by omega, fun i hi => ?_⟩⟩
        · rw [hx.1] at hw
          have h7 := weights_slice ht hw
          have h8 : (lits (H := H) k (zs.take len)).length = (zs.take len).length := by simp [lits]
          rw [h8] at h7
          exact h7
        · have hi' : i < len := by omega
          rw [hcell i (by omega)]
          simp [List.getElem?_take_of_lt hi']
    · rename_i q he
      split at hB <;> try cases hB
      rename_i k hq
      simp only [Bool.and_eq_true, beq_iff_eq] at hB
      obtain ⟨ce, cq⟩ := hB
      obtain ⟨a0, len, cap, rfl⟩ := okWide_slice ht hval
      obtain ⟨fuel, hf⟩ := h
      rcases Go.Deep.open_int_rows ht he hq ce cq hf with ⟨hcs, hx⟩ | ⟨a, len', cap', A, L, C, Z, hcs, _, hl, hm, hx, hrow⟩
      · simp [Value.cells] at hcs
        obtain ⟨rfl, rfl, rfl⟩ := hcs
        exact ⟨.slcs k [], ⟨e, q, ht, he, hq, by simp, fun l h => by cases h⟩, .inl ⟨rfl, rfl⟩⟩
      · simp [Value.cells] at hcs
        obtain ⟨rfl, rfl, rfl⟩ := hcs
        have hmax : maxLen = 9223372036854775807 := rfl
        have hlen : ((List.range len).map fun r => (Z r).take (L r)).length = len := by simp
        simp only [Prod.mk.injEq] at hx
        rw [hx.1] at hw
        have h7 := weights_slice ht hw
        rw [List.length_map, List.length_range] at h7
        refine ⟨.slcs k ((List.range len).map fun r => (Z r).take (L r)), ⟨e, q, ht, he, hq, by rw [hlen]; exact h7, fun l hl' => ?_⟩, .inr ⟨a, cap, by rw [hlen], by omega, fun i hi => ?_⟩⟩
        · obtain ⟨r, hr, rfl⟩ := List.mem_map.1 hl'
          have hr' := List.mem_range.1 hr
          obtain ⟨_, r1, r2, r3, r4, _, _⟩ := hrow r (by omega)
          refine ⟨?_, fun n hn => r4 n (List.mem_of_mem_take hn)⟩
          have h8 := weights_in ht hw (d := Go.Deep.intRow k (A r) (L r) (Z r)) (List.mem_map.2 ⟨r, hr, rfl⟩)
          cases hA : A r with
          | none =>
            obtain ⟨_, _, _, _, _, r5, _⟩ := hrow r (by omega)
            have h9 := r5 hA
            have : ((Z r).take (L r)).length = 0 := by rw [List.length_take]; omega
            rw [this, Nat.zero_mul]
            exact Nat.zero_le _
          | some a' =>
            rw [hA] at h8
            have h9 := weights_slice he h8
            rw [show (lits (H := H) k ((Z r).take (L r))).length = ((Z r).take (L r)).length by simp [lits]] at h9
            exact h9
        · have hi' : i < len := by omega
          obtain ⟨c1, r1, r2, r3, r4, r5, r6⟩ := hrow i (by omega)
          refine ⟨_, c1, ?_⟩
          have hg : ((List.range len).map fun r => (Z r).take (L r)).getD i [] = (Z i).take (L i) := by
            rw [List.getD_eq_getElem?_getD, List.getElem?_map, List.getElem?_range hi']; rfl
          rw [hg]
          have htl : ((Z i).take (L i)).length = L i := by rw [List.length_take]; omega
          cases hA : A i with
          | none =>
            have h0 := r5 hA
            have hL0 : L i = 0 := by omega
            exact .inl ⟨by rw [hL0, h0], by rw [hL0]; rfl⟩
          | some a' =>
            refine .inr ⟨a', C i, by rw [htl], by omega, fun m hm' => ?_⟩
            rw [(r6 a' hA).2 m (by omega)]
            rw [htl] at hm'
            simp [List.getElem?_take_of_lt hm']
    · rename_i m q he
      split at hB <;> try cases hB
      rename_i k hq
      simp only [Bool.and_eq_true, beq_iff_eq, decide_eq_true_eq] at hB
      obtain ⟨⟨cq, ce⟩, hm0⟩ := hB
      obtain ⟨a0, len, cap, rfl⟩ := okWide_slice ht hval
      obtain ⟨fuel, hf⟩ := h
      rcases Go.Deep.open_slice ht hf with ⟨hcs, hx⟩ | ⟨a, len', cap', mm, nf, D, Pl, hcs, _, hl, hm, hmm, hx, hall⟩
      · simp [Value.cells] at hcs
        obtain ⟨rfl, rfl, rfl⟩ := hcs
        exact ⟨.slca k m 0 [], ⟨e, q, ht, he, hq, by simp, by simp, fun l h => by cases h⟩, by simp, hm0, .inl ⟨rfl, rfl⟩⟩
      · simp [Value.cells] at hcs
        obtain ⟨rfl, rfl, rfl⟩ := hcs
        simp only [if_true] at hmm
        subst hmm
        simp only [Prod.mk.injEq] at hx
        rw [hx.1] at hw
        have h7 := weights_slice ht hw
        rw [List.length_map, List.length_range] at h7
        have each : ∀ i, i < mm → ∃ z : List Int, z.length = m ∧ WfL k z ∧ ∀ c, c < m → W.cell? ((a.add (i * m)).add c) = some (.int k (z.getD c 0)) := by
          intro i hi
          obtain ⟨cs', h1, h2⟩ := hall i hi
          rw [ce] at h1
          obtain ⟨_, hlen, hcell⟩ := World.cells?_some h1
          obtain ⟨xs, m2, _, _, _, hxl, hx2⟩ := DataW.trod_array he h2
          obtain ⟨z, hz, hwf⟩ := ints_list (k := k) (cs := cs') (by
            intro c v hc
            have hcl : c < m := by have := (List.getElem?_eq_some_iff.1 hc).1; omega
            have h3 := hx2 c hcl
            rw [cq, Nat.mul_one, List.getElem?_eq_getElem (by omega)] at h3
            have hd1 : (cs'.drop c).take 1 = [v] := by
              obtain ⟨h4, h5⟩ := List.getElem?_eq_some_iff.1 hc
              rw [List.drop_eq_getElem_cons h4, h5]
              rfl
            rw [hd1] at h3
            obtain ⟨n', h5, _, h6⟩ := DataW.trod_int hq h3
            simp only [List.cons.injEq, and_true] at h5
            exact ⟨n', h5, h6⟩)
          have hzl : z.length = m := by have := congrArg List.length hz; simp at this; omega
          refine ⟨z, hzl, hwf, fun c hc => ?_⟩
          rw [hcell c hc, hz, List.getElem?_map, List.getD_eq_getElem?_getD, List.getElem?_eq_getElem (by omega)]
          rfl
        obtain ⟨Z, hZ⟩ : ∃ Z : Nat → List Int, ∀ i, i < mm → (Z i).length = m ∧ WfL k (Z i) ∧ ∀ c, c < m → W.cell? ((a.add (i * m)).add c) = some (.int k ((Z i).getD c 0)) :=
          ⟨fun i => if h : i < mm then Classical.choose (each i h) else [], fun i hi => by simp only [dif_pos hi]; exact Classical.choose_spec (each i hi)⟩
        have hdm : ∀ p, p < len * m → p / m < len ∧ p % m < m := fun p hp => ⟨Nat.div_lt_of_lt_mul (by rw [Nat.mul_comm]; exact hp), Nat.mod_lt _ hm0⟩
        refine ⟨.slca k m len ((List.range (len * m)).map fun p => (Z (p / m)).getD (p % m) 0), ⟨e, q, ht, he, hq, h7, by simp, fun x hx => ?_⟩, by simp, hm0, .inr ⟨a, mm, rfl, by omega, fun p hp => ?_⟩⟩
        · obtain ⟨p, hp, rfl⟩ := List.mem_map.1 hx
          obtain ⟨h1, h2⟩ := hdm p (List.mem_range.1 hp)
          obtain ⟨z1, z2, _⟩ := hZ (p / m) (by omega)
          refine z2 _ ?_
          rw [List.getD_eq_getElem?_getD, List.getElem?_eq_getElem (by omega)]
          simp
        · obtain ⟨h1, h2⟩ := hdm p hp
          obtain ⟨z1, z2, z3⟩ := hZ (p / m) (by omega)
          have h3 := z3 (p % m) h2
          have h4 : (a.add (p / m * m)).add (p % m) = a.add p := by
            have : p / m * m + p % m = p := Nat.div_add_mod' p m
            rw [add_add', this]
          rw [h4] at h3
          have h5 : ((List.range (len * m)).map fun p => (Z (p / m)).getD (p % m) 0).getD p 0 = (Z (p / m)).getD (p % m) 0 := by
            rw [List.getD_eq_getElem?_getD, List.getElem?_map, List.getElem?_range hp]; rfl
          rw [h3, h5]
    · rename_i fs he
      split at hB <;> try cases hB
      rename_i ks hks
      simp only [Bool.and_eq_true, beq_iff_eq, decide_eq_true_eq] at hB
      obtain ⟨ce, hm0⟩ := hB
      obtain ⟨a0, len, cap, rfl⟩ := okWide_slice ht hval
      obtain ⟨fuel, hf⟩ := h
      rcases Go.Deep.open_slice ht hf with ⟨hcs, hx⟩ | ⟨a, len', cap', mm, nf, D, Pl, hcs, _, hl, hm, hmm, hx, hall⟩
      · simp [Value.cells] at hcs
        obtain ⟨rfl, rfl, rfl⟩ := hcs
        exact ⟨.slcm ks.length 0 [], ⟨e, fs, ks, ht, he, hks, rfl, by simp, by simp, fun p kd h => by simp at h⟩, by simp, hm0, .inl ⟨rfl, rfl⟩⟩
      · simp [Value.cells] at hcs
        obtain ⟨rfl, rfl, rfl⟩ := hcs
        simp only [if_true] at hmm
        subst hmm
        simp only [Prod.mk.injEq] at hx
        rw [hx.1] at hw
        have h7 := weights_slice ht hw
        rw [List.length_map, List.length_range] at h7
        have each : ∀ i, i < mm → ∃ z : List Value, z.length = ks.length ∧ (∀ (c : Nat) (kd : Option IntKind), ks[c]? = some kd → kindOk kd (z.getD c undef)) ∧ ∀ c, c < ks.length → W.cell? ((a.add (i * ks.length)).add c) = some (z.getD c undef) := by
          intro i hi
          obtain ⟨cs', h1, h2⟩ := hall i hi
          rw [← ce] at h1
          obtain ⟨_, hlen, hcell⟩ := World.cells?_some h1
          obtain ⟨xs, m2, _, _, _, hxl, hx2⟩ := DataW.trod_struct he h2
          have h3 := open_flat (cs := cs') hks fun f hf => by
            obtain ⟨j, hj, rfl⟩ := List.mem_iff_getElem.1 hf
            have hjs : j < fs.size := by simpa using hj
            have h4 := hx2 j fs[j] (by rw [Array.getElem?_eq_getElem hjs])
            rw [List.getElem?_eq_getElem (by omega)] at h4
            exact ⟨_, _, by simpa using h4⟩
          refine ⟨cs', hlen, fun c kd hc => ?_, fun c hc => ?_⟩
          · obtain ⟨v, h5, h6⟩ := h3 c kd hc
            rw [Nat.zero_add] at h5
            rw [List.getD_eq_getElem?_getD, h5]; exact h6
          · rw [hcell c hc, List.getD_eq_getElem?_getD, List.getElem?_eq_getElem (by omega)]; rfl
        obtain ⟨Z, hZ⟩ : ∃ Z : Nat → List Value, ∀ i, i < mm → (Z i).length = ks.length ∧ (∀ (c : Nat) (kd : Option IntKind), ks[c]? = some kd → kindOk kd ((Z i).getD c undef)) ∧ ∀ c, c < ks.length → W.cell? ((a.add (i * ks.length)).add c) = some ((Z i).getD c undef) :=
          ⟨fun i => if h : i < mm then Classical.choose (each i h) else [], fun i hi => by simp only [dif_pos hi]; exact Classical.choose_spec (each i hi)⟩
        have hdm : ∀ p, p < len * ks.length → p / ks.length < len ∧ p % ks.length < ks.length := fun p hp => ⟨Nat.div_lt_of_lt_mul (by rw [Nat.mul_comm]; exact hp), Nat.mod_lt _ hm0⟩
        have h5 : ∀ p, p < len * ks.length → ((List.range (len * ks.length)).map fun p => (Z (p / ks.length)).getD (p % ks.length) undef).getD p undef = (Z (p / ks.length)).getD (p % ks.length) undef := fun p hp => by
          rw [List.getD_eq_getElem?_getD, List.getElem?_map, List.getElem?_range hp]; rfl
        refine ⟨.slcm ks.length len ((List.range (len * ks.length)).map fun p => (Z (p / ks.length)).getD (p % ks.length) undef), ⟨e, fs, ks, ht, he, hks, rfl, h7, by simp, fun p kd hp hkd => ?_⟩, by simp, hm0, .inr ⟨a, mm, rfl, by omega, fun p hp => ?_⟩⟩
        · obtain ⟨h1, h2⟩ := hdm p hp
          obtain ⟨z1, z2, _⟩ := hZ (p / ks.length) (by omega)
          rw [h5 p hp]
          exact z2 _ kd hkd
        · obtain ⟨h1, h2⟩ := hdm p hp
          obtain ⟨z1, z2, z3⟩ := hZ (p / ks.length) (by omega)
          have h3 := z3 (p % ks.length) h2
          have h4 : (a.add (p / ks.length * ks.length)).add (p % ks.length) = a.add p := by
            have : p / ks.length * ks.length + p % ks.length = p := Nat.div_add_mod' p ks.length
            rw [add_add', this]
          rw [h4] at h3
          rw [h5 p hp]
          refine ⟨h3, ?_⟩
          have h6 := z2 (p % ks.length) _ (List.getElem?_eq_getElem h2)
          revert h6
          generalize (Z (p / ks.length)).getD (p % ks.length) undef = u
          cases ks[p % ks.length] with
          | none => rintro ⟨b, rfl⟩; rfl
          | some k => rintro ⟨n, rfl, _⟩; rfl
  · cases hB

theorem open_all {r : Reach} {b0 : Nat} : ∀ {ts : List TypeId} {vs : List Value} {ds : List (DataW H)} {p : List MemPlace}, ts.all (openB P) = true → (∀ (j : Nat) t v, ts[j]? = some t → vs[j]? = some v → Value.okWide P W r b0 t v) →
    (∀ (j : Nat) t d, ts[j]? = some t → ds[j]? = some d → ∀ n ∈ d.weights P t, n ≤ reachBytes) →
    DataW.TrodAll enc P W 0 (fun _ => true) true ts vs ds p → ∃ ins, insFit P ts ins ∧ insVal W ins vs
  | [], vs, ds, p, _, _, _, h => by
    obtain ⟨rfl, _⟩ := trodAll_nil h
    exact ⟨[], trivial, trivial⟩
  | t :: ts, vs, ds, p, hB, hv, hw, h => by
    obtain ⟨v, vs', d, ds', q, q', rfl, rfl, rfl, h0, h1⟩ := trodAll_cons h
    simp only [List.all_cons, Bool.and_eq_true] at hB
    obtain ⟨i, hi1, hi2⟩ := open_one hB.1 (hv 0 t v rfl rfl) h0 (hw 0 t d rfl rfl)
    obtain ⟨is, g1, g2⟩ := open_all hB.2 (fun j t' v' ht' hv' => hv (j + 1) t' v' (by simpa using ht') (by simpa using hv')) (fun j t' d' ht' hd' => hw (j + 1) t' d' (by simpa using ht') (by simpa using hd')) h1
    exact ⟨i :: is, ⟨hi1, g1⟩, ⟨hi2, g2⟩⟩

theorem shut_all {W' : World} (hl : laidOutB P = true) (hb : Below W.heap.size W W') : ∀ {ts : List TypeId} {vs : List Value} {ds : List (DataW H)} {p : List MemPlace}, (ts.all fun t => P.readableRec t && decide (t < P.types.size)) = true →
    DataW.TrodAll enc P W 0 (fun _ => true) true ts vs ds p → DataW.TrodAll enc P W' 0 (fun b => decide (b < W.heap.size)) true ts vs ds p
  | [], vs, ds, p, _, h => by
    obtain ⟨rfl, rfl, rfl⟩ := trodAll_nil h
    exact trodAll_mk0
  | t :: ts, vs, ds, p, hB, h => by
    obtain ⟨v, vs', d, ds', q, q', rfl, rfl, rfl, h0, h1⟩ := trodAll_cons h
    simp only [List.all_cons, Bool.and_eq_true, decide_eq_true_eq] at hB
    have hlt : ∀ x ∈ q, x.block < W.heap.size := by obtain ⟨m, hm⟩ := h0; exact DataW.trod_lt m _ _ _ hm
    exact trodAll_cons_mk (Below.trod hl hB.1.1 hB.1.2 h0 hb hlt) (shut_all hl hb hB.2 h1)
end

/-! ### A law -/
def In.av (j : Nat) : In → AV (Id Nat)
  | .bool b => .bool b
  | .int k n => .int k n
  | .arr k l => .ints k l
  | .slc _ l => .slice false (.ext j) 0 l.length 1
  | .slcs _ ls => .slice false (.ext j) 0 ls.length 1
  | .slca _ m n _ => .slice false (.ext j) 0 n m
  | .slcm m n _ => .slice false (.ext j) 0 n m
/-- Slices, one behind the other. -/
def slsAv {ι : Type} (y : Nat → ι) (ls : List (List Int)) : List (AV ι) := (List.range ls.length).map fun i => .slice false (y i) 0 (ls.getD i []).length 1
/-- The name of a slice in the argument j of n. -/
def inId (n j i : Nat) : Nat := n + (j + n * i)
def In.row (n j : Nat) : In → Option (Row Nat)
  | .slc k l => some (.ints k l)
  | .slcs _ ls => some (.mixed (slsAv (inId n j) ls))
  | .slca k _ _ l => some (.ints k l)
  | .slcm _ _ l => some (.mixed (l.map ofV))
  | _ => none
def insAv : Nat → List In → List (AV (Id Nat))
  | _, [] => []
  | j, i :: is => i.av j :: insAv (j + 1) is
def In.inner (i : Nat) : In → Option (Row Nat)
  | .slcs k ls => if i < ls.length then some (.ints k (ls.getD i [])) else none
  | _ => none
def insE (ins : List In) (x : Nat) : Option (Row Nat) := match ins[x]? with
  | some i => i.row ins.length x
  | none => ins[(x - ins.length) % ins.length]?.bind (In.inner ((x - ins.length) / ins.length))
theorem inId_get {n j i : Nat} (hj : j < n) : ¬ inId n j i < n ∧ (inId n j i - n) % n = j ∧ (inId n j i - n) / n = i := by
  have h0 : inId n j i - n = j + n * i := by unfold inId; omega
  refine ⟨by unfold inId; omega, ?_, ?_⟩
  · rw [h0, Nat.add_mul_mod_self_left, Nat.mod_eq_of_lt hj]
  · rw [h0, Nat.add_mul_div_left _ _ (by omega), Nat.div_eq_of_lt hj, Nat.zero_add]
/-- The rows of the slices of an argument. -/
theorem insE_in {ins : List In} {j : Nat} {k : IntKind} {ls : List (List Int)} (hj : ins[j]? = some (.slcs k ls)) {i : Nat} (hi : i < ls.length) : insE ins (inId ins.length j i) = some (.ints k (ls.getD i [])) := by
  have hjl := (List.getElem?_eq_some_iff.1 hj).1
  obtain ⟨h1, h2, h3⟩ := inId_get (i := i) hjl
  unfold insE
  rw [List.getElem?_eq_none (by omega)]
  simp only [h2, h3, hj, Option.bind_some, In.inner, if_pos hi]

def valLoc : Value → Option Loc
  | .slice (some a) _ _ => some ⟨a.block, a.off, 0⟩
  | .slice none _ _ => some ⟨0, 0, 0⟩
  | _ => none

def innerLoc (W : World) (i : Nat) : Value → Option Loc
  | .slice (some a) _ _ => (W.cell? (a.add i)).bind valLoc
  | _ => none
def reAt (W : World) (args : List Value) (x : Nat) : Option Loc := match args[x]? with
  | some v => valLoc v
  | none => args[(x - args.length) % args.length]?.bind (innerLoc W ((x - args.length) / args.length))

theorem insVal_get {W : World} : ∀ {ins : List In} {vs : List Value}, insVal W ins vs → ins.length = vs.length ∧ ∀ (j : Nat) (i : In), ins[j]? = some i → ∃ v, vs[j]? = some v ∧ i.val W v
  | [], [], _ => ⟨rfl, fun j i h => by simp at h⟩
  | [], _ :: _, h => h.elim
  | _ :: _, [], h => h.elim
  | i :: is, v :: vs, h => by
    obtain ⟨h1, h2⟩ := insVal_get h.2
    refine ⟨by simp [h1], fun j i' hj => ?_⟩
    cases j with
    | zero => simp at hj; subst hj; exact ⟨v, rfl, h.1⟩
    | succ j => simpa using h2 j i' (by simpa using hj)
theorem insAv_get : ∀ (ins : List In) (m j : Nat), (insAv m ins)[j]? = ins[j]?.map (In.av (m + j))
  | [], m, j => by simp [insAv]
  | i :: is, m, 0 => by simp [insAv]
  | i :: is, m, j + 1 => by
    simp only [insAv, List.getElem?_cons_succ]
    rw [insAv_get is (m + 1) j, show m + 1 + j = m + (j + 1) by omega]
theorem insAv_length : ∀ (ins : List In) (m : Nat), (insAv m ins).length = ins.length
  | [], _ => rfl
  | _ :: is, m => by simp [insAv, insAv_length is]

theorem add_spot {W : World} {a : Addr} {i : Nat} {v : Value} (h : W.cell? (a.add i) = some v) : a.add i = ⟨a.block, a.off + i, none⟩ := by
  obtain ⟨b, off, spot⟩ := a
  have hspot := World.cell?_spot h
  by_cases hi : i = 0
  · subst hi
    have : spot = none := by simpa [Addr.add] using hspot
    subst this
    rfl
  · simp [Addr.add, hi]
theorem zero_spot {W : World} {a : Addr} {v : Value} (h : W.cell? (a.add 0) = some v) : a.spot = none := by
  have hspot := World.cell?_spot h
  simpa [Addr.add] using hspot

theorem law_calls {P : Program} {f : FuncId} {ins : List In} {res : AV (Id Nat)} (h : FnOk P f (insE ins) (insAv 0 ins) [] res []) (hs : res.solid) {W : World} {args : Array Value} (hv : insVal W ins args.toList) :
    Calls P f args W fun e W' => ∃ v, e = .returned v ∧ VR (fun _ : Unit => none) (res.map fun _ => ()) v ∧ Below W.heap.size W W' := by
  obtain ⟨hl, hget⟩ := insVal_get hv
  have hc : CxOk (⟨insE ins, reAt W args.toList, [], W⟩ : Cx Nat) := by
    have hre : ∀ (x : Nat) (v : Value), args.toList[x]? = some v → reAt W args.toList x = valLoc v := fun x v hv => by unfold reAt; rw [hv]
    have hin : ∀ (j i : Nat) (v : Value), args.toList[j]? = some v → reAt W args.toList (inId args.toList.length j i) = innerLoc W i v := fun j i v hv => by
      obtain ⟨h1, h2, h3⟩ := inId_get (i := i) (List.getElem?_eq_some_iff.1 hv).1
      unfold reAt
      rw [List.getElem?_eq_none (by omega)]
      simp only [h2, h3, hv, Option.bind_some]
    have one : ∀ (k : IntKind) (l : List Int) (u : Value), slcVal W k l u → ∃ L, valLoc u = some L ∧ ∀ j v, (Row.ints k l : Row Nat).get? j = some v → ∃ u, W.cell? (L.at j) = some u ∧ CR (reAt W args.toList) v u := by
      intro k l u hu
      rcases hu with ⟨rfl, rfl⟩ | ⟨a, cap, rfl, _, hcell⟩
      · exact ⟨_, rfl, fun j v hj => by simp [Row.get?] at hj⟩
      · refine ⟨_, rfl, fun j v hj => ?_⟩
        simp only [Row.get?, Option.map_eq_some_iff] at hj
        obtain ⟨n, hn, rfl⟩ := hj
        have hjl := (List.getElem?_eq_some_iff.1 hn).1
        have hcj := hcell j hjl
        rw [add_spot hcj] at hcj
        refine ⟨_, hcj, ?_, rfl⟩
        rw [List.getD_eq_getElem?_getD, hn]
        exact .int _ _
    refine ⟨fun x r hr => ?_, fun x r L _ _ _ M hM => by cases hM⟩
    replace hr : insE ins x = some r := hr
    unfold insE at hr
    split at hr
    · rename_i i hi
      obtain ⟨v, hv1, hv2⟩ := hget x i hi
      show ∃ L, reAt W args.toList x = some L ∧ _
      rw [hre x v hv1]
      cases i with
      | slc k l =>
        simp only [In.row, Option.some.injEq] at hr
        subst hr
        exact one k l v hv2
      | slca k m n l =>
        simp only [In.row, Option.some.injEq] at hr
        subst hr
        obtain ⟨hln, _, hv2⟩ := hv2
        rcases hv2 with ⟨rfl, rfl⟩ | ⟨a, cap, rfl, hcp, hcell⟩
        · exact one k l _ (.inl ⟨rfl, List.length_eq_zero_iff.1 (by rw [hln, Nat.zero_mul])⟩)
        · refine ⟨_, rfl, fun j v hj => ?_⟩
          simp only [Row.get?, Option.map_eq_some_iff] at hj
          obtain ⟨n', hn, rfl⟩ := hj
          have hjl := (List.getElem?_eq_some_iff.1 hn).1
          have hcj := hcell j (by omega)
          rw [add_spot hcj] at hcj
          refine ⟨_, hcj, ?_, rfl⟩
          rw [List.getD_eq_getElem?_getD, hn]
          exact .int _ _
      | slcm m n l =>
        simp only [In.row, Option.some.injEq] at hr
        subst hr
        obtain ⟨hln, _, hv2⟩ := hv2
        rcases hv2 with ⟨rfl, rfl⟩ | ⟨a, cap, rfl, hcp, hcell⟩
        · have h0 : l = [] := List.length_eq_zero_iff.1 (by rw [hln, Nat.zero_mul])
          subst h0
          exact ⟨_, rfl, fun j v hj => by simp [Row.get?] at hj⟩
        · refine ⟨_, rfl, fun j v hj => ?_⟩
          simp only [Row.get?, List.getElem?_map, Option.map_eq_some_iff] at hj
          obtain ⟨n', hn, rfl⟩ := hj
          have hjl := (List.getElem?_eq_some_iff.1 hn).1
          obtain ⟨hcj, ho⟩ := hcell j (by omega)
          rw [add_spot hcj] at hcj
          refine ⟨_, hcj, ?_, ho⟩
          rw [List.getD_eq_getElem?_getD, hn]
          exact ofV_VR _ _
      | slcs k ls =>
        simp only [In.row, Option.some.injEq] at hr
        subst hr
        rcases hv2 with ⟨rfl, rfl⟩ | ⟨a, cap, rfl, _, hcell⟩
        · exact ⟨_, rfl, fun j v hj => by simp [Row.get?, slsAv] at hj⟩
        · refine ⟨_, rfl, fun j v hj => ?_⟩
          simp only [Row.get?, slsAv, List.getElem?_map, Option.map_eq_some_iff] at hj
          obtain ⟨n, hn, rfl⟩ := hj
          obtain ⟨hjl, hn⟩ := List.getElem?_eq_some_iff.1 hn
          simp at hjl hn
          subst hn
          obtain ⟨u, hcj, hu⟩ := hcell j hjl
          have hloc : reAt W args.toList (inId ins.length x j) = valLoc u := by
            rw [hl, hin x j _ hv1]
            simp only [innerLoc, hcj, Option.bind_some]
          rw [add_spot hcj] at hcj
          refine ⟨u, hcj, ?_⟩
          rcases hu with ⟨rfl, hln⟩ | ⟨a', cap', rfl, hcap', hcell'⟩
          · refine ⟨?_, rfl⟩
            rw [hln]
            exact .empty false 0 1 hloc
          · refine ⟨.slice (x := false) hloc hcap' (fun hx => ?_) (fun hx => by cases hx), rfl⟩
            rcases hx with hx | hx
            · cases hx
            · have := zero_spot (hcell' 0 hx)
              obtain ⟨b, off, spot⟩ := a'
              simp only at this
              subst this
              rfl
      | _ => simp [In.row] at hr
    · rename_i hi
      simp only [Option.bind_eq_some_iff] at hr
      obtain ⟨i, hi2, hr⟩ := hr
      obtain ⟨v, hv1, hv2⟩ := hget _ i hi2
      cases i with
      | slcs k ls =>
        simp only [In.inner] at hr
        split at hr <;> simp at hr
        rename_i hlt
        subst hr
        have hxn : ins.length ≤ x := by rcases Nat.lt_or_ge x ins.length with h | h
                                        · rw [List.getElem?_eq_getElem h] at hi; cases hi
                                        · exact h
        have hre2 : reAt W args.toList x = innerLoc W ((x - ins.length) / ins.length) v := by
          unfold reAt
          rw [List.getElem?_eq_none (by omega), ← hl]
          simp only [hv1, Option.bind_some]
        show ∃ L, reAt W args.toList x = some L ∧ _
        rw [hre2]
        rcases hv2 with ⟨rfl, rfl⟩ | ⟨a, cap, rfl, _, hcell⟩
        · simp at hlt
        · obtain ⟨u, hcj, hu⟩ := hcell _ hlt
          simp only [innerLoc, hcj, Option.bind_some]
          exact one k _ u hu
      | _ => simp [In.inner] at hr
  refine (h.2 (reAt W args.toList) [] W args hc ⟨rfl, rfl, rfl, rfl, Nat.le_refl _, fun _ _ _ => rfl, fun k r h => by simp at h, fun k k' r r' L L' _ h => by simp at h, fun k L h => by simp at h⟩ ?_).mono ?_
  · refine ⟨by rw [insAv_length, hl]; simp, fun i h1 h2 => ?_⟩
    have hi : i < ins.length := by rw [insAv_length] at h1; exact h1
    obtain ⟨v, hv1, hv2⟩ := hget i ins[i] (List.getElem?_eq_getElem hi)
    have e1 : (insAv 0 ins)[i] = ins[i].av i := by
      have := insAv_get ins 0 i
      rw [List.getElem?_eq_getElem h1, List.getElem?_eq_getElem hi] at this
      simpa using this
    have e2 : args[i] = v := by
      rw [List.getElem?_eq_getElem (by simpa using h2)] at hv1
      simpa using hv1
    rw [e1, e2]
    generalize hI : ins[i] = I at hv2
    have hloc : (Cx.addr (⟨insE ins, reAt W args.toList, [], W⟩ : Cx Nat) [] (.ext i)) = valLoc v := by
      simp only [Cx.addr, reAt, hv1]
    cases I with
    | bool b => cases hv2; exact .bool b
    | int k n => cases hv2; exact .int k n
    | arr k l => cases hv2; exact .ints k l
    | slc k l =>
      rcases hv2 with ⟨rfl, rfl⟩ | ⟨a, cap, rfl, hcap, hcell⟩
      · exact .empty false 0 1 hloc
      · refine .slice (x := false) hloc hcap (fun hx => ?_) (fun hx => by cases hx)
        rcases hx with hx | hx
        · cases hx
        · have := zero_spot (hcell 0 hx)
          obtain ⟨b, off, spot⟩ := a
          simp only at this
          subst this
          rfl
    | slca k m n l =>
      obtain ⟨hln, hm0, hv2⟩ := hv2
      rcases hv2 with ⟨rfl, rfl⟩ | ⟨a, cap, rfl, hcap, hcell⟩
      · exact .empty false 0 m hloc
      · refine .slice (x := false) hloc hcap (fun hx => ?_) (fun hx => by cases hx)
        rcases hx with hx | hx
        · cases hx
        · have := zero_spot (hcell 0 (Nat.mul_pos hx hm0))
          obtain ⟨b, off, spot⟩ := a
          simp only at this
          subst this
          rfl
    | slcm m n l =>
      obtain ⟨hln, hm0, hv2⟩ := hv2
      rcases hv2 with ⟨rfl, rfl⟩ | ⟨a, cap, rfl, hcap, hcell⟩
      · exact .empty false 0 m hloc
      · refine .slice (x := false) hloc hcap (fun hx => ?_) (fun hx => by cases hx)
        rcases hx with hx | hx
        · cases hx
        · have := zero_spot (hcell 0 (Nat.mul_pos hx hm0)).1
          obtain ⟨b, off, spot⟩ := a
          simp only at this
          subst this
          rfl
    | slcs k ls =>
      rcases hv2 with ⟨rfl, rfl⟩ | ⟨a, cap, rfl, hcap, hcell⟩
      · exact .empty false 0 1 hloc
      · refine .slice (x := false) hloc hcap (fun hx => ?_) (fun hx => by cases hx)
        rcases hx with hx | hx
        · cases hx
        · obtain ⟨u, hu, _⟩ := hcell 0 hx
          have := zero_spot hu
          obtain ⟨b, off, spot⟩ := a
          simp only at this
          subst this
          rfl
  · rintro e w' ⟨v, ro', rfl, hvr, hsim, _⟩
    exact ⟨v, rfl, hvr.solid_map hs _, hsim.os, hsim.tape, hsim.output, hsim.size, fun b hb => hsim.frame b hb fun M hM => by cases hM⟩
end Go.Proofs.Ytopiceaeombefaa.Sy

namespace Go.Proofs.Ytopiceaeombefaa.Sy
open Go Go.RowKit

/-! ### Regions whose order is drawn: a plan, checked by numbers -/
def bits (l : List Nat) : Nat := l.foldr (fun t s => 2 ^ t ||| s) 0
theorem testBit_bits (l : List Nat) (t : Nat) : (bits l).testBit t = l.contains t := by
  induction l with
  | nil => simp [bits]
  | cons a l ih =>
    have : bits (a :: l) = 2 ^ a ||| bits l := rfl
    rw [this, Nat.testBit_or, ih, Nat.testBit_two_pow, List.contains_cons]
    congr 1
    by_cases h : a = t
    · subst h; simp
    · have h' : ¬ t = a := fun e => h e.symm
      simp [h, h']

structure Dg where
  aft : Nat
  look : Nat
  dst : Nat
  cls : Cl
  mild : Bool
  deriving DecidableEq

def aftOf (o : Oper) : List Nat := (o.after.toList.filter (Region.binds .any)).map (·.on)
def dgOf (ops : Array Oper) (qs : List Nat) (i : Nat) (o : Oper) : Dg := ⟨bits (aftOf o), bits (o.looksAt ops), bits o.dst.toList, clsOf (qs.contains i) o.op, mildB ops qs i⟩
def digest (ops : Array Oper) (qs : List Nat) : List Dg := ops.toList.mapIdx (dgOf ops qs)

/-- A plan: calm ones may be taken first (with those that wait for them); of those that act there is one at a time, or two. -/
inductive PC where
  | done
  | calm (i D : Nat) (r : PC)
  | act (i : Nat) (r : PC)
  | fork (i : Nat) (a : PC) (j : Nat) (b : PC)
  | tri (i : Nat) (a : PC) (j : Nat) (b : PC) (k : Nat) (d : PC)
  | quad (i : Nat) (a : PC) (j : Nat) (b : PC) (k : Nat) (d : PC) (l : Nat) (e : PC)
inductive SP where
  | done
  | one (s : AStep) (r : SP)
  | two (s : AStep) (a : SP) (t : AStep) (b : SP)
  | three (s : AStep) (a : SP) (t : AStep) (b : SP) (u : AStep) (d : SP)
  | four (s : AStep) (a : SP) (t : AStep) (b : SP) (u : AStep) (d : SP) (v : AStep) (e : SP)

def dgReady (d : Dg) (m : Nat) : Bool := d.aft &&& m == d.aft
def dgApart (x y : Dg) : Bool := (x.dst &&& (y.look ||| y.dst) == 0) && (y.dst &&& x.look == 0)
def actB : Cl → Bool
  | .eff => true
  | .call => true
  | _ => false
/-- Are these the only ones that may come up? -/
def onlyB (p : Nat → Bool) (m : Nat) : Nat → List Dg → Bool
  | _, [] => true
  | j, d :: r => (m.testBit j || p j || !dgReady d m) && onlyB p m (j + 1) r
def calmB (m i D : Nat) (x : Dg) : Nat → List Dg → Bool
  | _, [] => true
  | j, d :: r => (if D.testBit j then !m.testBit j && (d.aft &&& (D ||| 2 ^ i) != 0) else (j == i || m.testBit j || (dgApart x d && (x.cls == .pure || d.mild)))) && calmB m i D x (j + 1) r
def PC.ok (dg : List Dg) : PC → Nat → Bool
  | .done, m => onlyB (fun _ => false) m 0 dg
  | .calm i D r, m => (match dg[i]? with
      | some x => !m.testBit i && dgReady x m && !actB x.cls && decide (D < 2 ^ dg.length) && calmB m i D x 0 dg && r.ok dg (m ||| 2 ^ i)
      | none => false)
  | .act i r, m => (match dg[i]? with
      | some x => !m.testBit i && dgReady x m && onlyB (fun j => j == i) m 0 dg && r.ok dg (m ||| 2 ^ i)
      | none => false)
  | .fork i a j b, m => (match dg[i]?, dg[j]? with
      | some x, some _ => !m.testBit i && dgReady x m && onlyB (fun k => k == i || k == j) m 0 dg && a.ok dg (m ||| 2 ^ i) && b.ok dg (m ||| 2 ^ j)
      | _, _ => false)
  | .tri i a j b k d, m => (match dg[i]?, dg[j]?, dg[k]? with
      | some x, some _, some _ => !m.testBit i && dgReady x m && onlyB (fun q => q == i || q == j || q == k) m 0 dg && a.ok dg (m ||| 2 ^ i) && b.ok dg (m ||| 2 ^ j) && d.ok dg (m ||| 2 ^ k)
      | _, _, _ => false)
  | .quad i a j b k d l e, m => (match dg[i]?, dg[j]?, dg[k]?, dg[l]? with
      | some x, some _, some _, some _ => !m.testBit i && dgReady x m && onlyB (fun q => q == i || q == j || q == k || q == l) m 0 dg && a.ok dg (m ||| 2 ^ i) && b.ok dg (m ||| 2 ^ j) && d.ok dg (m ||| 2 ^ k) && e.ok dg (m ||| 2 ^ l)
      | _, _, _, _ => false)
def PC.size : PC → Nat
  | .done => 0
  | .calm _ _ r => r.size + 1
  | .act _ r => r.size + 1
  | .fork _ a _ _ => a.size + 1
  | .tri _ a _ _ _ _ => a.size + 1
  | .quad _ a _ _ _ _ _ _ => a.size + 1
def PC.even : PC → Bool
  | .done => true
  | .calm _ _ r => r.even
  | .act _ r => r.even
  | .fork _ a _ b => a.size == b.size && a.even && b.even
  | .tri _ a _ b _ d => a.size == b.size && a.size == d.size && a.even && b.even && d.even
  | .quad _ a _ b _ d _ e => a.size == b.size && a.size == d.size && a.size == e.size && a.even && b.even && d.even && e.even
def mkSP (ops : Array Oper) (qs : List Nat) (n : Nat) : PC → Option SP
  | .done => some .done
  | .calm i _ r | .act i r => (match stepOf ops qs n i with | none => none | some s => (match mkSP ops qs n r with | none => none | some l => some (.one s l)))
  | .fork i a j b => (match stepOf ops qs n i, stepOf ops qs n j with
      | some s, some t => (match mkSP ops qs n a, mkSP ops qs n b with
          | some l, some k => some (.two s l t k)
          | _, _ => none)
      | _, _ => none)
  | .tri i a j b k d => (match stepOf ops qs n i, stepOf ops qs n j, stepOf ops qs n k with
      | some s, some t, some u => (match mkSP ops qs n a, mkSP ops qs n b, mkSP ops qs n d with
          | some l, some p, some q => some (.three s l t p u q)
          | _, _, _ => none)
      | _, _, _ => none)
  | .quad i a j b k d i4 e => (match stepOf ops qs n i, stepOf ops qs n j, stepOf ops qs n k, stepOf ops qs n i4 with
      | some s, some t, some u, some v => (match mkSP ops qs n a, mkSP ops qs n b, mkSP ops qs n d, mkSP ops qs n e with
          | some l, some p, some q, some r => some (.four s l t p u q v r)
          | _, _, _, _ => none)
      | _, _, _, _ => none)

section
variable {α : Type} {P : Program} {c : Cx α} {n : Sz}

def SP.wp (P : Program) (E : α → Option (Row α)) : SP → St α → (St α → Prop) → Prop
  | .done, st, K => K st
  | .one s r, st, K => s.wp P E st fun st' => r.wp P E st' K
  | .two s a t b, st, K => s.wp P E st (fun st' => a.wp P E st' K) ∧ t.wp P E st (fun st' => b.wp P E st' K)
  | .three s a t b u d, st, K => s.wp P E st (fun st' => a.wp P E st' K) ∧ t.wp P E st (fun st' => b.wp P E st' K) ∧ u.wp P E st (fun st' => d.wp P E st' K)
  | .four s a t b u d v e, st, K => s.wp P E st (fun st' => a.wp P E st' K) ∧ t.wp P E st (fun st' => b.wp P E st' K) ∧ u.wp P E st (fun st' => d.wp P E st' K) ∧ v.wp P E st (fun st' => e.wp P E st' K)

/-- The list and the number tell the same. -/
def Same (ops : Array Oper) (listed : Array Bool) (m : Nat) : Prop := (∀ j, listed.getD j true = (decide (ops.size ≤ j) || m.testBit j)) ∧ (∀ j, listed.getD j false = m.testBit j) ∧ ∀ j, m.testBit j = true → j < ops.size

theorem same_zero (ops : Array Oper) : Same ops (Array.replicate ops.size false) 0 := by
  refine ⟨fun j => ?_, fun j => ?_, fun j h => by simp at h⟩
  · rw [Array.getD_eq_getD_getElem?]
    rcases Nat.lt_or_ge j ops.size with h | h
    · rw [Array.getElem?_eq_getElem (by simpa using h)]; simp; omega
    · rw [Array.getElem?_eq_none (by simpa using h)]; simp; omega
  · rw [Array.getD_eq_getD_getElem?]
    rcases Nat.lt_or_ge j ops.size with h | h
    · rw [Array.getElem?_eq_getElem (by simpa using h)]; simp
    · rw [Array.getElem?_eq_none (by simpa using h)]; simp

theorem Same.set {ops : Array Oper} {listed : Array Bool} {m i : Nat} (h : Same ops listed m) (hi : i < ops.size) : Same ops (listed.setIfInBounds i true) (m ||| 2 ^ i) := by
  obtain ⟨h1, h2, h3⟩ := h
  have hsz : i < listed.size := by
    rcases Nat.lt_or_ge i listed.size with h | h
    · exact h
    · have a := h1 i; have b := h2 i
      rw [Array.getD_eq_getD_getElem?, Array.getElem?_eq_none h] at a b
      simp only [Option.getD_none] at a b
      rw [← b] at a
      simp at a; omega
  have hb : ∀ j, (m ||| 2 ^ i).testBit j = (m.testBit j || decide (i = j)) := fun j => by rw [Nat.testBit_or, Nat.testBit_two_pow]
  have hset : ∀ j d, (listed.setIfInBounds i true).getD j d = (if i = j then true else listed.getD j d) := by
    intro j d
    simp only [Array.getD_eq_getD_getElem?, Array.getElem?_setIfInBounds]
    by_cases hij : i = j
    · subst hij; simp [hsz]
    · simp [hij]
  refine ⟨fun j => ?_, fun j => ?_, fun j hj => ?_⟩
  · rw [hset, hb, h1]
    by_cases hij : i = j
    · subst hij; simp
    · simp [hij]
  · rw [hset, hb, h2]
    by_cases hij : i = j
    · subst hij; simp
    · simp [hij]
  · rw [hb] at hj
    simp only [Bool.or_eq_true, decide_eq_true_eq] at hj
    rcases hj with hj | rfl
    · exact h3 j hj
    · exact hi

theorem dgReady_iff {ops : Array Oper} {qs : List Nat} {i m : Nat} {o : Oper} : dgReady (dgOf ops qs i o) m = true ↔ ∀ e ∈ o.after, Region.binds .any e = true → m.testBit e.on = true := by
  have key : (bits (aftOf o) &&& m == bits (aftOf o)) = true ↔ ∀ t, t ∈ aftOf o → m.testBit t = true := by
    rw [beq_iff_eq]
    constructor
    · intro h t ht
      have := congrArg (fun x => Nat.testBit x t) h
      simp only [Nat.testBit_and, testBit_bits] at this
      have ht' : (aftOf o).contains t = true := by simpa using ht
      rw [ht'] at this
      simpa using this
    · intro h
      apply Nat.eq_of_testBit_eq
      intro t
      rw [Nat.testBit_and, testBit_bits]
      cases hc : (aftOf o).contains t with
      | false => rfl
      | true => rw [h t (by simpa using hc)]; rfl
  unfold dgReady dgOf
  rw [key]
  simp only [aftOf, List.mem_map, List.mem_filter, Array.mem_toList_iff]
  constructor
  · intro h e he hb
    exact h e.on ⟨e, ⟨he, hb⟩, rfl⟩
  · rintro h t ⟨e, ⟨he, hb⟩, rfl⟩
    exact h e he hb

theorem digest_get {ops : Array Oper} {qs : List Nat} {i : Nat} {x : Dg} : (digest ops qs)[i]? = some x ↔ ∃ o, ops[i]? = some o ∧ x = dgOf ops qs i o := by
  unfold digest
  rw [List.getElem?_mapIdx]
  simp only [Array.getElem?_toList, Option.map_eq_some_iff]
  constructor
  · rintro ⟨o, h, rfl⟩; exact ⟨o, h, rfl⟩
  · rintro ⟨o, h, rfl⟩; exact ⟨o, h, rfl⟩

theorem ready_same {ops : Array Oper} {qs : List Nat} {listed : Array Bool} {m j : Nat} (h : Same ops listed m) : j ∈ Region.ready .any ops listed ↔ m.testBit j = false ∧ ∃ o, ops[j]? = some o ∧ dgReady (dgOf ops qs j o) m = true := by
  rw [mem_ready, h.1 j]
  constructor
  · rintro ⟨h1, o, ho, h2⟩
    simp only [Bool.or_eq_false_iff, decide_eq_false_iff_not] at h1
    refine ⟨h1.2, o, ho, dgReady_iff.2 fun e he hb => ?_⟩
    rw [← h.2.1]; exact h2 e he hb
  · rintro ⟨h1, o, ho, h2⟩
    refine ⟨?_, o, ho, fun e he hb => by rw [h.2.1]; exact dgReady_iff.1 h2 e he hb⟩
    have := (Array.getElem?_eq_some_iff.1 ho).1
    simp [h1]; exact this

theorem onlyB_get {p : Nat → Bool} {m : Nat} : ∀ {l : List Dg} {k : Nat}, onlyB p m k l = true → ∀ j d, l[j]? = some d → m.testBit (k + j) = true ∨ p (k + j) = true ∨ dgReady d m = false
  | [], _, _, j, d, h => by simp at h
  | x :: r, k, h, j, d, hj => by
    simp only [onlyB, Bool.and_eq_true, Bool.or_eq_true, Bool.not_eq_true'] at h
    cases j with
    | zero => simp at hj; subst hj; rcases h.1 with (h | h) | h
              · exact .inl h
              · exact .inr (.inl h)
              · exact .inr (.inr h)
    | succ j =>
      have := onlyB_get h.2 j d (by simpa using hj)
      rwa [show k + 1 + j = k + (j + 1) by omega] at this
theorem calmB_get {m i D : Nat} {x : Dg} : ∀ {l : List Dg} {k : Nat}, calmB m i D x k l = true → ∀ j d, l[j]? = some d →
    (D.testBit (k + j) = true → m.testBit (k + j) = false ∧ (d.aft &&& (D ||| 2 ^ i)) ≠ 0) ∧ (D.testBit (k + j) = false → k + j = i ∨ m.testBit (k + j) = true ∨ (dgApart x d = true ∧ (x.cls = .pure ∨ d.mild = true)))
  | [], _, _, j, d, h => by simp at h
  | y :: r, k, h, j, d, hj => by
    simp only [calmB, Bool.and_eq_true] at h
    cases j with
    | zero =>
      simp at hj; subst hj
      have h1 := h.1
      simp only [Nat.add_zero]
      constructor
      · intro hD
        rw [if_pos hD] at h1
        simpa using h1
      · intro hD
        rw [if_neg (by rw [hD]; simp)] at h1
        simp only [Bool.or_eq_true, beq_iff_eq, Bool.and_eq_true] at h1
        rcases h1 with (h1 | h1) | h1
        · exact .inl h1
        · exact .inr (.inl h1)
        · exact .inr (.inr h1)
    | succ j =>
      have := calmB_get h.2 j d (by simpa using hj)
      rwa [show k + 1 + j = k + (j + 1) by omega] at this

theorem dgApart_of {ops : Array Oper} {qs : List Nat} {i j : Nat} {o o' : Oper} (h : dgApart (dgOf ops qs i o) (dgOf ops qs j o') = true) : o.apart ops o' = true := by
  have hz : ∀ (l l' : List Nat), (bits l &&& bits l' == 0) = true → ∀ t ∈ l, t ∉ l' := by
    intro l l' h t ht ht'
    rw [beq_iff_eq] at h
    have := congrArg (fun x => Nat.testBit x t) h
    simp only [Nat.testBit_and, testBit_bits, Nat.zero_testBit] at this
    have a : l.contains t = true := by simpa using ht
    have b : l'.contains t = true := by simpa using ht'
    rw [a, b] at this
    cases this
  have hor : ∀ (l l' : List Nat), bits l ||| bits l' = bits (l ++ l') := by
    intro l l'
    apply Nat.eq_of_testBit_eq
    intro t
    rw [Nat.testBit_or, testBit_bits, testBit_bits, testBit_bits]
    simp
  unfold dgApart dgOf at h
  simp only [hor, Bool.and_eq_true] at h
  have h1 := hz _ _ h.1
  have h2 := hz _ _ h.2
  unfold Oper.apart
  simp only [Bool.and_eq_true]
  constructor
  · cases hd : o.dst with
    | none => rfl
    | some d =>
      have := h1 d (by simp [hd])
      simp only [List.mem_append, not_or] at this
      simp only [Bool.and_eq_true, Bool.not_eq_true', bne_iff_ne]
      refine ⟨by simpa using this.1, fun e => this.2 (by simp [e])⟩
  · cases hd : o'.dst with
    | none => rfl
    | some d =>
      have := h2 d (by simp [hd])
      simpa using this

theorem pc_sound (hc : CxOk c) {ops : Array Oper} {qs : List Nat} {Q : Exit → Act → World → Prop} (hQp : ∀ ch a w, ¬ Q (.panic ch) a w) (hsel : Region.noSelect ops = true) {K : St α → Prop} (hQ : ∀ st a w, K st → Rel c n st a w → Q .normal a w) :
    ∀ (pc : PC) (sp : SP) (listed : Array Bool) (m : Nat) (st : St α) (a : Act) (w : World), Same ops listed m → pc.ok (digest ops qs) m = true → pc.even = true → mkSP ops qs n.n pc = some sp → Rel c n st a w → sp.wp P c.E st K →
      wpAnyS P .any ops Q (mildB ops qs) pc.size listed a w := by
  intro pc
  induction pc with
  | done =>
    intro sp listed m st a w hS hp _ hm hr hs
    simp only [mkSP, Option.some.injEq] at hm
    subst hm
    refine ⟨?_, fun w3 hk => hQ st a w3 hs (hr.kp hk)⟩
    rw [List.eq_nil_iff_forall_not_mem]
    intro j hj
    obtain ⟨h1, o, ho, h2⟩ := (ready_same (qs := qs) hS).1 hj
    simp only [PC.ok] at hp
    rcases onlyB_get hp j _ (digest_get.2 ⟨o, ho, rfl⟩) with h | h | h
    · rw [Nat.zero_add, h1] at h; cases h
    · cases h
    · rw [h2] at h; cases h
  | calm i D r ih =>
    intro sp listed m st a w hS hp he hm ⟨ro, hr⟩ hs
    simp only [PC.ok] at hp
    split at hp <;> try cases hp
    rename_i x hx
    obtain ⟨o, ho, rfl⟩ := digest_get.1 hx
    simp only [Bool.and_eq_true, Bool.not_eq_true', decide_eq_true_eq] at hp
    obtain ⟨⟨⟨⟨⟨h1, h2⟩, h3⟩, h4⟩, h5⟩, h6⟩ := hp
    simp only [mkSP] at hm
    split at hm <;> try cases hm
    rename_i s hst
    split at hm <;> try cases hm
    rename_i l hl
    have hlt : i < ops.size := (Array.getElem?_eq_some_iff.1 ho).1
    have hq : clsOf (qs.contains i) o.op = .pure ∨ clsOf (qs.contains i) o.op = .read ∨ clsOf (qs.contains i) o.op = .quiet := by
      simp only [dgOf] at h3
      cases hcl : clsOf (qs.contains i) o.op <;> rw [hcl] at h3 <;> simp [actB] at h3 <;> simp
    obtain ⟨v, u, hK, hv, hd, hy1, hy2⟩ := step_yields hc hr hst ho hq hs
    have hnext := ih l (listed.setIfInBounds i true) (m ||| 2 ^ i) (st.put o.dst v) (a.put o.dst u) w (hS.set hlt) h6 he hl ⟨ro, hr.put hd hv⟩ hK
    have hlen : (digest ops qs).length = ops.size := by simp [digest]
    have hDlt : ∀ j, D.testBit j = true → j < ops.size := by
      intro j hj
      rcases Nat.lt_or_ge j ops.size with h | h
      · exact h
      · rw [Nat.testBit_lt_two_pow (Nat.lt_of_lt_of_le h4 (Nat.pow_le_pow_right (by omega) (by rw [hlen]; exact h)))] at hj; cases hj
    have hcg : ∀ j oj, ops[j]? = some oj → _ := fun j oj hoj => calmB_get h5 j _ (digest_get.2 ⟨oj, hoj, rfl⟩)
    simp only [Nat.zero_add] at hcg
    have hD : ∀ j, D.testBit j = true → ∀ oj, ops[j]? = some oj → ∃ e ∈ oj.after, Region.binds .any e = true ∧ (e.on = i ∨ D.testBit e.on = true) := by
      intro j hj oj hoj
      have h := ((hcg j oj hoj).1 hj).2
      have : ∃ t, ((bits (aftOf oj)) &&& (D ||| 2 ^ i)).testBit t = true := Nat.exists_testBit_of_ne_zero h
      obtain ⟨t, ht⟩ := this
      simp only [Nat.testBit_and, testBit_bits, Nat.testBit_or, Nat.testBit_two_pow, Bool.and_eq_true, Bool.or_eq_true, decide_eq_true_eq] at ht
      have ht1 : t ∈ aftOf oj := by simpa using ht.1
      simp only [aftOf, List.mem_map, List.mem_filter, Array.mem_toList_iff] at ht1
      obtain ⟨e, ⟨he1, he2⟩, rfl⟩ := ht1
      refine ⟨e, he1, he2, ?_⟩
      rcases ht.2 with h | h
      · exact .inr h
      · exact .inl h.symm
    have hDl : ∀ j, D.testBit j = true → listed.getD j true = false := by
      intro j hj
      have hjl := hDlt j hj
      have := ((hcg j ops[j] (Array.getElem?_eq_getElem hjl)).1 hj).1
      rw [hS.1, this]
      simp; exact hjl
    have hfree : ∀ j oj, ops[j]? = some oj → j ≠ i → listed.getD j true = false → D.testBit j = false → o.apart ops oj = true ∧ ((clsOf (qs.contains i) o.op = .pure) ∨ mildB ops qs j = true) := by
      intro j oj hoj hji hlj hDj
      rcases (hcg j oj hoj).2 hDj with h | h | h
      · exact absurd h hji
      · rw [hS.1, h] at hlj; simp at hlj
      · exact ⟨dgApart_of h.1, h.2⟩
    have hS' : ∃ S : World → Prop, S w ∧ YieldsS P ops S o u a ∧ (∀ w w', S w → Kp w w' → S w') ∧ ∀ j, (clsOf (qs.contains i) o.op = .pure ∨ mildB ops qs j = true) → ∀ w w', S w → (mildB ops qs j = true → Kp w w') → S w' := by
      by_cases hpb : clsOf (qs.contains i) o.op = .pure
      · exact ⟨fun _ => True, trivial, hy1 hpb, fun _ _ _ _ => trivial, fun _ _ _ _ _ _ => trivial⟩
      · exact ⟨Kp w, Kp.refl w, hy2, fun _ _ h k => h.trans k, fun j hj w1 w2 h k => h.trans (k (hj.resolve_left hpb))⟩
    obtain ⟨S, hSw, hy, hSk, hSm⟩ := hS'
    have hready : i ∈ Region.ready .any ops listed := (ready_same (qs := qs) hS).2 ⟨h1, o, ho, h2⟩
    exact wpAnyS.firstL (D := fun j => D.testBit j) ho (Region.noSelect_spec hsel) hQp hSk (fun j hj oj hoj => hD j hj oj hoj) (fun j hj => hDl j hj)
      (fun j oj hoj hji hlj hDj => ⟨(hfree j oj hoj hji hlj hDj).1, hSm j (hfree j oj hoj hji hlj hDj).2⟩) r.size a w hready hy hSw hnext
  | act i r ih =>
    intro sp listed m st a w hS hp he hm hr hs
    simp only [PC.ok] at hp
    split at hp <;> try cases hp
    rename_i x hx
    obtain ⟨o, ho, rfl⟩ := digest_get.1 hx
    simp only [Bool.and_eq_true, Bool.not_eq_true'] at hp
    obtain ⟨⟨⟨h1, h2⟩, h5⟩, h6⟩ := hp
    simp only [mkSP] at hm
    split at hm <;> try cases hm
    rename_i s hst
    split at hm <;> try cases hm
    rename_i l hl
    have hlt : i < ops.size := (Array.getElem?_eq_some_iff.1 ho).1
    have hready : i ∈ Region.ready .any ops listed := (ready_same (qs := qs) hS).2 ⟨h1, o, ho, h2⟩
    intro w3 hk
    refine ⟨(fun h0 => by rw [h0] at hready; cases hready), fun j hj => ?_⟩
    obtain ⟨g1, oj, hoj, g2⟩ := (ready_same (qs := qs) hS).1 hj
    have hji : j = i := by
      rcases onlyB_get h5 j _ (digest_get.2 ⟨oj, hoj, rfl⟩) with h | h | h
      · rw [Nat.zero_add, g1] at h; cases h
      · simpa using h
      · rw [g2] at h; cases h
    subst hji
    obtain ⟨ro, hr3⟩ := hr.kp hk
    exact wpOp_mono (fun a' w' ⟨hm, st', hK, hr'⟩ => ⟨hm, ih l _ _ st' a' w' (hS.set hlt) h6 he hl hr' hK⟩) (step_sound hc hr3 hst hs)
  | fork i ra j rb iha ihb =>
    intro sp listed m st a w hS hp he hm hr hs
    simp only [PC.ok] at hp
    split at hp <;> try cases hp
    rename_i x y hx hy
    obtain ⟨o, ho, rfl⟩ := digest_get.1 hx
    obtain ⟨o', ho', rfl⟩ := digest_get.1 hy
    simp only [Bool.and_eq_true, Bool.not_eq_true'] at hp
    obtain ⟨⟨⟨⟨h1, h2⟩, h5⟩, h6⟩, h7⟩ := hp
    simp only [PC.even, Bool.and_eq_true, beq_iff_eq] at he
    obtain ⟨⟨e1, e2⟩, e3⟩ := he
    simp only [mkSP] at hm
    split at hm <;> try cases hm
    rename_i s t hst hst'
    split at hm <;> try cases hm
    rename_i l k hl hk'
    have hlt : i < ops.size := (Array.getElem?_eq_some_iff.1 ho).1
    have hlt' : j < ops.size := (Array.getElem?_eq_some_iff.1 ho').1
    have hready : i ∈ Region.ready .any ops listed := (ready_same (qs := qs) hS).2 ⟨h1, o, ho, h2⟩
    intro w3 hk
    refine ⟨(fun h0 => by rw [h0] at hready; cases hready), fun q hq => ?_⟩
    obtain ⟨g1, oq, hoq, g2⟩ := (ready_same (qs := qs) hS).1 hq
    have hqi : q = i ∨ q = j := by
      rcases onlyB_get h5 q _ (digest_get.2 ⟨oq, hoq, rfl⟩) with h | h | h
      · rw [Nat.zero_add, g1] at h; cases h
      · simpa using h
      · rw [g2] at h; cases h
    obtain ⟨ro, hr3⟩ := hr.kp hk
    rcases hqi with rfl | rfl
    · exact wpOp_mono (fun a' w' ⟨hm, st', hK, hr'⟩ => ⟨hm, iha l _ _ st' a' w' (hS.set hlt) h6 e2 hl hr' hK⟩) (step_sound hc hr3 hst hs.1)
    · exact wpOp_mono (fun a' w' ⟨hm, st', hK, hr'⟩ => ⟨hm, by
        have := ihb k _ _ st' a' w' (hS.set hlt') h7 e3 hk' hr' hK
        rw [← e1] at this
        exact this⟩) (step_sound hc hr3 hst' hs.2)
  | tri i ra j rb z rd iha ihb ihd =>
    intro sp listed m st a w hS hp he hm hr hs
    simp only [PC.ok] at hp
    split at hp <;> try cases hp
    rename_i x y x3 hx hy hz
    obtain ⟨o, ho, rfl⟩ := digest_get.1 hx
    obtain ⟨o', ho', rfl⟩ := digest_get.1 hy
    obtain ⟨o3, ho3, rfl⟩ := digest_get.1 hz
    simp only [Bool.and_eq_true, Bool.not_eq_true'] at hp
    obtain ⟨⟨⟨⟨⟨h1, h2⟩, h5⟩, h6⟩, h7⟩, h8⟩ := hp
    simp only [PC.even, Bool.and_eq_true, beq_iff_eq] at he
    obtain ⟨⟨⟨⟨e1, e4⟩, e2⟩, e3⟩, e5⟩ := he
    simp only [mkSP] at hm
    split at hm <;> try cases hm
    rename_i s t u hst hst' hst3
    split at hm <;> try cases hm
    rename_i l k q3 hl hk' hq3
    have hlt : i < ops.size := (Array.getElem?_eq_some_iff.1 ho).1
    have hlt' : j < ops.size := (Array.getElem?_eq_some_iff.1 ho').1
    have hlt3 : z < ops.size := (Array.getElem?_eq_some_iff.1 ho3).1
    have hready : i ∈ Region.ready .any ops listed := (ready_same (qs := qs) hS).2 ⟨h1, o, ho, h2⟩
    intro w3 hk
    refine ⟨(fun h0 => by rw [h0] at hready; cases hready), fun q hq => ?_⟩
    obtain ⟨g1, oq, hoq, g2⟩ := (ready_same (qs := qs) hS).1 hq
    have hqi : q = i ∨ q = j ∨ q = z := by
      rcases onlyB_get h5 q _ (digest_get.2 ⟨oq, hoq, rfl⟩) with h | h | h
      · rw [Nat.zero_add, g1] at h; cases h
      · have h' : (q = i ∨ q = j) ∨ q = z := by simpa using h
        exact or_assoc.1 h'
      · rw [g2] at h; cases h
    obtain ⟨ro, hr3⟩ := hr.kp hk
    rcases hqi with rfl | rfl | rfl
    · exact wpOp_mono (fun a' w' ⟨hm, st', hK, hr'⟩ => ⟨hm, iha l _ _ st' a' w' (hS.set hlt) h6 e2 hl hr' hK⟩) (step_sound hc hr3 hst hs.1)
    · exact wpOp_mono (fun a' w' ⟨hm, st', hK, hr'⟩ => ⟨hm, by
        have := ihb k _ _ st' a' w' (hS.set hlt') h7 e3 hk' hr' hK
        rw [← e1] at this
        exact this⟩) (step_sound hc hr3 hst' hs.2.1)
    · exact wpOp_mono (fun a' w' ⟨hm, st', hK, hr'⟩ => ⟨hm, by
        have := ihd q3 _ _ st' a' w' (hS.set hlt3) h8 e5 hq3 hr' hK
        rw [← e4] at this
        exact this⟩) (step_sound hc hr3 hst3 hs.2.2)

  | quad i ra j rb z rd z4 re iha ihb ihd ihe =>
    intro sp listed m st a w hS hp he hm hr hs
    simp only [PC.ok] at hp
    split at hp <;> try cases hp
    rename_i x y x3 x4 hx hy hz hz4
    obtain ⟨o, ho, rfl⟩ := digest_get.1 hx
    obtain ⟨o', ho', rfl⟩ := digest_get.1 hy
    obtain ⟨o3, ho3, rfl⟩ := digest_get.1 hz
    obtain ⟨o4, ho4, rfl⟩ := digest_get.1 hz4
    simp only [Bool.and_eq_true, Bool.not_eq_true'] at hp
    obtain ⟨⟨⟨⟨⟨⟨h1, h2⟩, h5⟩, h6⟩, h7⟩, h8⟩, h9⟩ := hp
    simp only [PC.even, Bool.and_eq_true, beq_iff_eq] at he
    obtain ⟨⟨⟨⟨⟨⟨e1, e4⟩, e6⟩, e2⟩, e3⟩, e5⟩, e7⟩ := he
    simp only [mkSP] at hm
    split at hm <;> try cases hm
    rename_i s t u v hst hst' hst3 hst4
    split at hm <;> try cases hm
    rename_i l k q3 q4 hl hk' hq3 hq4
    have hlt : i < ops.size := (Array.getElem?_eq_some_iff.1 ho).1
    have hlt' : j < ops.size := (Array.getElem?_eq_some_iff.1 ho').1
    have hlt3 : z < ops.size := (Array.getElem?_eq_some_iff.1 ho3).1
    have hlt4 : z4 < ops.size := (Array.getElem?_eq_some_iff.1 ho4).1
    have hready : i ∈ Region.ready .any ops listed := (ready_same (qs := qs) hS).2 ⟨h1, o, ho, h2⟩
    intro w3 hk
    refine ⟨(fun h0 => by rw [h0] at hready; cases hready), fun q hq => ?_⟩
    obtain ⟨g1, oq, hoq, g2⟩ := (ready_same (qs := qs) hS).1 hq
    have hqi : q = i ∨ q = j ∨ q = z ∨ q = z4 := by
      rcases onlyB_get h5 q _ (digest_get.2 ⟨oq, hoq, rfl⟩) with h | h | h
      · rw [Nat.zero_add, g1] at h; cases h
      · have h' : ((q = i ∨ q = j) ∨ q = z) ∨ q = z4 := by simpa using h
        rcases h' with ((h | h) | h) | h
        · exact .inl h
        · exact .inr (.inl h)
        · exact .inr (.inr (.inl h))
        · exact .inr (.inr (.inr h))
      · rw [g2] at h; cases h
    obtain ⟨ro, hr3⟩ := hr.kp hk
    rcases hqi with rfl | rfl | rfl | rfl
    · exact wpOp_mono (fun a' w' ⟨hm, st', hK, hr'⟩ => ⟨hm, iha l _ _ st' a' w' (hS.set hlt) h6 e2 hl hr' hK⟩) (step_sound hc hr3 hst hs.1)
    · exact wpOp_mono (fun a' w' ⟨hm, st', hK, hr'⟩ => ⟨hm, by
        have := ihb k _ _ st' a' w' (hS.set hlt') h7 e3 hk' hr' hK
        rw [← e1] at this
        exact this⟩) (step_sound hc hr3 hst' hs.2.1)
    · exact wpOp_mono (fun a' w' ⟨hm, st', hK, hr'⟩ => ⟨hm, by
        have := ihd q3 _ _ st' a' w' (hS.set hlt3) h8 e5 hq3 hr' hK
        rw [← e4] at this
        exact this⟩) (step_sound hc hr3 hst3 hs.2.2.1)
    · exact wpOp_mono (fun a' w' ⟨hm, st', hK, hr'⟩ => ⟨hm, by
        have := ihe q4 _ _ st' a' w' (hS.set hlt4) h9 e7 hq4 hr' hK
        rw [← e6] at this
        exact this⟩) (step_sound hc hr3 hst4 hs.2.2.2)

def pcB (ops : Array Oper) (qs : List Nat) (dg : List Dg) (pc : PC) : Bool := decide (digest ops qs = dg) && pc.ok dg 0 && pc.even && (pc.size == ops.size) && Region.noSelect ops

variable {E : α → Option (Row α)} {st : St α}
theorem AWp.drawsP {Q : Exit → St α → Prop} {id : Nat} {ops : Array Oper} (hmix : P.follows .mixedOrders = true) (pc : PC) (qs : List Nat) (dg : List Dg) (sp : SP) (hm : mkSP ops qs n.n pc = some sp) (hp : pcB ops qs dg pc = true)
    (h : sp.wp P E st fun st' => Q .normal st') : AWp P E n (.region id ops true) st Q := by
  intro c hE hc a w hr
  subst hE
  simp only [pcB, Bool.and_eq_true, beq_iff_eq, decide_eq_true_eq] at hp
  obtain ⟨⟨⟨⟨hdg, hpl⟩, hev⟩, hlen⟩, hsel⟩ := hp
  subst hdg
  refine wp_region_any hmix ?_
  rw [← hlen]
  have hk : Kp w { w with drawn := w.drawn + 1 } := Kp.drew w
  have := pc_sound (P := P) (n := n) hc (Q := Post c n Q) (fun ch a w h => h.1) hsel (K := fun st' => Q .normal st') (fun st a w hK hr => ⟨trivial, st, hK, hr⟩) pc sp (Array.replicate ops.size false) 0 st a _ (same_zero ops) hpl hev hm (hr.kp hk) h
  rw [← hlen] at this
  exact this.sound _ _ _ _
theorem AWp.drwP {Q : Exit → St α → Prop} {id : Nat} {ops : Array Oper} {y : Code} (hmix : P.follows .mixedOrders = true) (pc : PC) (qs : List Nat) (dg : List Dg) (sp : SP) (hm : mkSP ops qs n.n pc = some sp) (hp : pcB ops qs dg pc = true)
    (h : ∀ K : St α → Prop, (∀ st, AWp P E n y st Q → K st) → sp.wp P E st K) : AWp P E n (.seq (.region id ops true) y) st Q :=
  AWp.seq (AWp.drawsP hmix pc qs dg sp hm hp (h _ fun _ h => h))
theorem AWp.drwPE {Q : Exit → St α → Prop} {id : Nat} {ops : Array Oper} (hmix : P.follows .mixedOrders = true) (pc : PC) (qs : List Nat) (dg : List Dg) (sp : SP) (hm : mkSP ops qs n.n pc = some sp) (hp : pcB ops qs dg pc = true)
    (h : sp.wp P E st fun st => Q .normal st) : AWp P E n (.region id ops true) st Q :=
  AWp.drawsP hmix pc qs dg sp hm hp h
end
end Go.Proofs.Ytopiceaeombefaa.Sy

namespace Go.Proofs.Ytopiceaeombefaa.Sy
open Go Go.RowKit

section
variable {α : Type} {P : Program} {E : α → Option (Row α)} {st : St α} {K : St α → Prop}

/-- The steps, the state last: nothing is opened behind a step before it is taken. -/
def go (P : Program) (E : α → Option (Row α)) (l : List AStep) (K : St α → Prop) (st : St α) : Prop := stepsC P E l st K
def gp (P : Program) (E : α → Option (Row α)) (l : SP) (K : St α → Prop) (st : St α) : Prop := SP.wp P E l st K
def putK (src : Bool) (st : St α) (d : Option Tmp) (K : St α → Prop) (v : AV (Id α)) : Prop := putC src st d v K
def effK (st : St α) (d : Option Tmp) (K : St α → Prop) (v : AV (Id α)) (rows : Rows α) : Prop := K ((⟨st.tmps, rows⟩ : St α).put d v)
def guardC (v : AV (Id α)) (want : Bool) (A B : St α → Prop) (s t : St α) : Prop :=
  match v with
  | .bool b => (b = want → A s) ∧ (b = (!want) → B t)
  | .tuple [] => B t
  | _ => False
theorem guardC_n {want : Bool} {A B : St α → Prop} {s t} : guardC (α := α) (.tuple []) want A B s t = B t := id rfl
theorem guardC_tt {A B : St α → Prop} {s t} : guardC (α := α) (.bool true) true A B s t = A s := by simp [guardC]
theorem guardC_tf {A B : St α → Prop} {s t} : guardC (α := α) (.bool true) false A B s t = B t := by simp [guardC]
theorem guardC_ft {A B : St α → Prop} {s t} : guardC (α := α) (.bool false) true A B s t = B t := by simp [guardC]
theorem guardC_ff {A B : St α → Prop} {s t} : guardC (α := α) (.bool false) false A B s t = A s := by simp [guardC]
theorem putK_f {d : Option Tmp} {v : AV (Id α)} : putK false st d K v = K (st.put d v) := id rfl
theorem putK_t {d : Option Tmp} : putK true st d K (.bool true) = K (st.put d (.bool true)) := by simp [putK, putC]
theorem putK_ff {d : Option Tmp} : putK true st d K (.bool false) = K (st.put d (.bool false)) := by simp [putK, putC]
theorem putK_b {d : Option Tmp} {b : Bool} : putK true st d K (.bool b) = ((b = true → K (st.put d (.bool true))) ∧ (b = false → K (st.put d (.bool false)))) := id rfl
theorem putK_d {d : Option Tmp} {p : Prop} [Decidable p] : putK true st d K (.bool (decide p)) = ((decide p = true → K (st.put d (.bool true))) ∧ (decide p = false → K (st.put d (.bool false)))) := id rfl
theorem putK_e {d : Option Tmp} {a b : Int} : putK true st d K (.bool (a == b)) = (((a == b) = true → K (st.put d (.bool true))) ∧ ((a == b) = false → K (st.put d (.bool false)))) := id rfl
theorem putK_n {d : Option Tmp} {a b : Int} : putK true st d K (.bool (a != b)) = (((a != b) = true → K (st.put d (.bool true))) ∧ ((a != b) = false → K (st.put d (.bool false)))) := id rfl
theorem putK_l {d : Option Tmp} {a b : List Int} : putK true st d K (.bool (a == b)) = (((a == b) = true → K (st.put d (.bool true))) ∧ ((a == b) = false → K (st.put d (.bool false)))) := id rfl
theorem putK_nb {d : Option Tmp} {b : Bool} : putK true st d K (.bool (!b)) = (((!b) = true → K (st.put d (.bool true))) ∧ ((!b) = false → K (st.put d (.bool false)))) := id rfl
theorem putK_i {d : Option Tmp} {k : IntKind} {n : Int} : putK true st d K (.int k n) = K (st.put d (.int k n)) := id rfl

theorem st_of {l : List AStep} (h : go P E l K st) : stepsC P E l st K := h
theorem sp_of {l : SP} (h : gp P E l K st) : SP.wp P E l st K := h
theorem st_nil : go P E [] K st = K st := id rfl
theorem st_pure {d src op r} : go P E (.pure d src op :: r) K st = pureC P op (ev st.tmps) (putK src st d (go P E r K)) := id rfl
theorem st_read {d src op r} : go P E (.read d src op :: r) K st = readC P E st.rows op (ev st.tmps) (putK src st d (go P E r K)) := id rfl
theorem st_eff {d op r} : go P E (.eff d op :: r) K st = effC P E st.rows op (ev st.tmps) (effK st d (go P E r K)) := id rfl
theorem st_gpure {t want d src op r} : go P E (.guard t want (.pure d src op) :: r) K st = guardC (tget st.tmps t) want (go P E (.pure d src op :: r) K) (go P E r K) st (st.put d (.tuple [])) := id rfl
theorem st_gread {t want d src op r} : go P E (.guard t want (.read d src op) :: r) K st = guardC (tget st.tmps t) want (go P E (.read d src op :: r) K) (go P E r K) st (st.put d (.tuple [])) := id rfl
theorem st_geff {t want d op r} : go P E (.guard t want (.eff d op) :: r) K st = guardC (tget st.tmps t) want (go P E (.eff d op :: r) K) (go P E r K) st (st.put d (.tuple [])) := id rfl
theorem st_gcall {t want d src c r} : go P E (.guard t want (.call d src c) :: r) K st = guardC (tget st.tmps t) want (go P E (.call d src c :: r) K) (go P E r K) st (st.put d (.tuple [])) := id rfl
theorem st_gquiet {t want d src c r} : go P E (.guard t want (.quiet d src c) :: r) K st = guardC (tget st.tmps t) want (go P E (.quiet d src c :: r) K) (go P E r K) st (st.put d (.tuple [])) := id rfl

theorem sp_nil : gp P E .done K st = K st := id rfl
theorem sp_pure {d src op r} : gp P E (.one (.pure d src op) r) K st = pureC P op (ev st.tmps) (putK src st d (gp P E r K)) := id rfl
theorem sp_read {d src op r} : gp P E (.one (.read d src op) r) K st = readC P E st.rows op (ev st.tmps) (putK src st d (gp P E r K)) := id rfl
theorem sp_eff {d op r} : gp P E (.one (.eff d op) r) K st = effC P E st.rows op (ev st.tmps) (effK st d (gp P E r K)) := id rfl
theorem sp_two {s t a b} : gp P E (.two s a t b) K st = (gp P E (.one s a) K st ∧ gp P E (.one t b) K st) := id rfl
theorem sp_three {s t u a b d} : gp P E (.three s a t b u d) K st = (gp P E (.one s a) K st ∧ gp P E (.one t b) K st ∧ gp P E (.one u d) K st) := id rfl
theorem sp_four {s t u v a b d e} : gp P E (.four s a t b u d v e) K st = (gp P E (.one s a) K st ∧ gp P E (.one t b) K st ∧ gp P E (.one u d) K st ∧ gp P E (.one v e) K st) := id rfl
theorem sp_gpure {t want d src op r} : gp P E (.one (.guard t want (.pure d src op)) r) K st = guardC (tget st.tmps t) want (gp P E (.one (.pure d src op) r) K) (gp P E r K) st (st.put d (.tuple [])) := id rfl
theorem sp_gread {t want d src op r} : gp P E (.one (.guard t want (.read d src op)) r) K st = guardC (tget st.tmps t) want (gp P E (.one (.read d src op) r) K) (gp P E r K) st (st.put d (.tuple [])) := id rfl
theorem sp_geff {t want d op r} : gp P E (.one (.guard t want (.eff d op)) r) K st = guardC (tget st.tmps t) want (gp P E (.one (.eff d op) r) K) (gp P E r K) st (st.put d (.tuple [])) := id rfl
theorem sp_gcall {t want d src c r} : gp P E (.one (.guard t want (.call d src c)) r) K st = guardC (tget st.tmps t) want (gp P E (.one (.call d src c) r) K) (gp P E r K) st (st.put d (.tuple [])) := id rfl
theorem sp_gquiet {t want d src c r} : gp P E (.one (.guard t want (.quiet d src c)) r) K st = guardC (tget st.tmps t) want (gp P E (.one (.quiet d src c) r) K) (gp P E r K) st (st.put d (.tuple [])) := id rfl

theorem st_gmcall {t want d src c r} : go P E (.guard t want (.mcall d src c) :: r) K st = guardC (tget st.tmps t) want (go P E (.mcall d src c :: r) K) (go P E r K) st (st.put d (.tuple [])) := rfl
theorem sp_gmcall {t want d src c r} : gp P E (.one (.guard t want (.mcall d src c)) r) K st = guardC (tget st.tmps t) want (gp P E (.one (.mcall d src c) r) K) (gp P E r K) st (st.put d (.tuple [])) := rfl
/-- A call of f that may change rows. -/
def MutTo (P : Program) (E : α → Option (Row α)) (st : St α) (d : Option Tmp) (src : Bool) (K : St α → Prop) (f : FuncId) (args : List (AV (Id α))) : Prop :=
  ∃ (ms : List Nat) (args' : List (AV (Id (Id α)))) (muts : Rows (Id α)) (res : AV (Id (Id α))) (rows' : Rows (Id α)), ms.Nodup ∧ mutRows st.rows ms ms muts ∧ args'.map (AV.map (upM ms)) = args ∧ AV.AllL (inS ms.length) args' ∧
      FnOk P f (look E (hideM ms st.rows)) args' muts res rows' ∧ putK src ⟨st.tmps, afterM ms st.rows rows'⟩ d K (res.map (backM st.rows.length ms))
def ExtTo (P : Program) (E : α → Option (Row α)) (st : St α) (d : Option Tmp) (src : Bool) (K : St α → Prop) (f : FuncId) (args : List (AV (Id α))) : Prop :=
  ∃ res : AV (Id α), ExtOk P E f args st.rows res ∧ putK src st d K res
/-- A call that may change all rows. -/
def SameTo (P : Program) (E : α → Option (Row α)) (st : St α) (d : Option Tmp) (src : Bool) (K : St α → Prop) (f : FuncId) (args : List (AV (Id α))) : Prop :=
  ∃ R : AV (Id α) → Rows α → Prop, FnOkP P f E args st.rows R ∧ ∀ res rows', R res rows' → putK src ⟨st.tmps, rows'⟩ d K res
theorem SameTo.of {d : Option Tmp} {src : Bool} {f : FuncId} {args : List (AV (Id α))} {res : AV (Id α)} {rows' : Rows α} (h : FnOk P f E args st.rows res rows') (hK : putK src ⟨st.tmps, rows'⟩ d K res) : SameTo P E st d src K f args :=
  ⟨fun r s => r = res ∧ s = rows', h.toP ⟨rfl, rfl⟩, fun r s h => by rw [h.1, h.2]; exact hK⟩
theorem st_scall {d src c r} (h : ∀ K' : FuncId → List (AV (Id α)) → Prop, (∀ f args, SameTo P E st d src (go P E r K) f args → K' f args) → calleeC P st.tmps c K') : go P E (.mcall d src c :: r) K st := h (fun f args => SameTo P E st d src (go P E r K) f args ∨ ExtTo P E st d src (go P E r K) f args ∨ MutTo P E st d src (go P E r K) f args) fun _ _ h => Or.inl h
theorem sp_scall {d src c r} (h : ∀ K' : FuncId → List (AV (Id α)) → Prop, (∀ f args, SameTo P E st d src (gp P E r K) f args → K' f args) → calleeC P st.tmps c K') : gp P E (.one (.mcall d src c) r) K st := h (fun f args => SameTo P E st d src (gp P E r K) f args ∨ ExtTo P E st d src (gp P E r K) f args ∨ MutTo P E st d src (gp P E r K) f args) fun _ _ h => Or.inl h
theorem st_xcall {d src c r} (h : ∀ K' : FuncId → List (AV (Id α)) → Prop, (∀ f args, ExtTo P E st d src (go P E r K) f args → K' f args) → calleeC P st.tmps c K') : go P E (.mcall d src c :: r) K st := h (fun f args => SameTo P E st d src (go P E r K) f args ∨ ExtTo P E st d src (go P E r K) f args ∨ MutTo P E st d src (go P E r K) f args) fun _ _ h => Or.inr (Or.inl h)
theorem sp_xcall {d src c r} (h : ∀ K' : FuncId → List (AV (Id α)) → Prop, (∀ f args, ExtTo P E st d src (gp P E r K) f args → K' f args) → calleeC P st.tmps c K') : gp P E (.one (.mcall d src c) r) K st := h (fun f args => SameTo P E st d src (gp P E r K) f args ∨ ExtTo P E st d src (gp P E r K) f args ∨ MutTo P E st d src (gp P E r K) f args) fun _ _ h => Or.inr (Or.inl h)
theorem st_mcall {d src c r} (h : ∀ K' : FuncId → List (AV (Id α)) → Prop, (∀ f args, MutTo P E st d src (go P E r K) f args → K' f args) → calleeC P st.tmps c K') : go P E (.mcall d src c :: r) K st := h (fun f args => SameTo P E st d src (go P E r K) f args ∨ ExtTo P E st d src (go P E r K) f args ∨ MutTo P E st d src (go P E r K) f args) fun _ _ h => Or.inr (Or.inr h)
theorem sp_mcall {d src c r} (h : ∀ K' : FuncId → List (AV (Id α)) → Prop, (∀ f args, MutTo P E st d src (gp P E r K) f args → K' f args) → calleeC P st.tmps c K') : gp P E (.one (.mcall d src c) r) K st := h (fun f args => SameTo P E st d src (gp P E r K) f args ∨ ExtTo P E st d src (gp P E r K) f args ∨ MutTo P E st d src (gp P E r K) f args) fun _ _ h => Or.inr (Or.inr h)
theorem ofEq {β γ : Type} {a : β} {b : γ} {C : β → γ → Prop} (h : C a b) : ∀ r s, (r = a ∧ s = b) → C r s := fun r s h2 => by rw [h2.1, h2.2]; exact h
/-- A call of f. -/
def CallTo (P : Program) (E : α → Option (Row α)) (st : St α) (d : Option Tmp) (src : Bool) (K : St α → Prop) (f : FuncId) (args : List (AV (Id α))) : Prop :=
  ∃ R : AV (Id (Id α)) → Rows (Id α) → Prop, FnOkP P f (look E st.rows) (AV.mapL .ext args) [] R ∧
      ∀ res rows', R res rows' → putK src ⟨st.tmps, st.rows ++ rows'.map (Option.map (Row.map (down st.rows.length)))⟩ d K (res.map (down st.rows.length))
def QuietTo (P : Program) (E : α → Option (Row α)) (st : St α) (d : Option Tmp) (src : Bool) (K : St α → Prop) (f : FuncId) (args : List (AV (Id α))) : Prop :=
  ∃ (res : AV (Id (Id α))), FnOk P f (look E st.rows) (AV.mapL .ext args) [] res [] ∧ res.solid ∧ putK src st d K (res.map (down 0))

theorem st_call {d src c r} (h : ∀ K' : FuncId → List (AV (Id α)) → Prop, (∀ f args, CallTo P E st d src (go P E r K) f args → K' f args) → calleeC P st.tmps c K') : go P E (.call d src c :: r) K st := h _ fun _ _ h => h
theorem sp_call {d src c r} (h : ∀ K' : FuncId → List (AV (Id α)) → Prop, (∀ f args, CallTo P E st d src (gp P E r K) f args → K' f args) → calleeC P st.tmps c K') : gp P E (.one (.call d src c) r) K st := h _ fun _ _ h => h
theorem st_quiet {d src c r} (h : ∀ K' : FuncId → List (AV (Id α)) → Prop, (∀ f args, QuietTo P E st d src (go P E r K) f args → K' f args) → calleeC P st.tmps c K') : go P E (.quiet d src c :: r) K st := h _ fun _ _ h => h
theorem sp_quiet {d src c r} (h : ∀ K' : FuncId → List (AV (Id α)) → Prop, (∀ f args, QuietTo P E st d src (gp P E r K) f args → K' f args) → calleeC P st.tmps c K') : gp P E (.one (.quiet d src c) r) K st := h _ fun _ _ h => h

variable {n : Sz} {Q : Exit → St α → Prop}
theorem AWp.grp {x y : Code} (h : ∀ X : St α → Prop, (∀ st, AWp P E n y st Q → X st) → AWp P E n x st (thenQ X Q)) : AWp P E n (.seq x y) st Q := AWp.seq (h _ fun _ h => h)
theorem AWp.testE {x : Operand} {b : Bool} {B : Nat} (hx : ev st.tmps x = .bool b) (ht : b = true → Q .normal st) (hf : b = false → Q (.exit B) st) : AWp P E n (.cond x .skip (.exit B)) st Q :=
  AWp.cond hx (fun hb => AWp.skip (ht hb)) (fun hb => AWp.exit (hf hb))
theorem AWp.iteE {x : Operand} {b : Bool} {thn els : Code} (hx : ev st.tmps x = .bool b) (ht : b = true → AWp P E n thn st Q) (hf : b = false → AWp P E n els st Q) : AWp P E n (.cond x thn els) st Q := AWp.cond hx ht hf
theorem AWp.blkX {B : Nat} {body : Code} (h : ∀ X : St α → Prop, (∀ st, Q .normal st → X st) → AWp P E n body st (bq B X Q)) : AWp P E n (.block B body) st Q := AWp.blkE (h _ fun _ h => h)
theorem AWp.lopX {B : Nat} {body : Code} (S : Nat → St α) (N : Nat) (h0 : Le n st (S 0)) (h : ∀ X : St α → Prop, (∀ st, Q .normal st → X st) → ∀ k, k ≤ N → AWp P E n body (S k) (lq n S k N B X Q)) : AWp P E n (.block B (.loop body)) st Q :=
  AWp.block (AWp.rounds S N h0 fun k hk => (h _ (fun _ h => h) k hk).mono fun e st' hq => by
    cases e with
    | exit id =>
      simp only [lq] at hq
      simp only [roundQ, blockQ]
      split
      · rename_i h; rw [if_pos h] at hq; exact hq
      · rename_i h; rw [if_neg h] at hq; exact hq
    | _ => exact hq)
theorem AWp.invX {B : Nat} {body : Code} (I : Nat → St α → Prop) {st0 : St α} (m : Nat) (h0 : Le n st st0) (h1 : I m st0) (h : ∀ X : St α → Prop, (∀ st, Q .normal st → X st) → ∀ m st, I m st → AWp P E n body st (iq n I m B X Q)) : AWp P E n (.block B (.loop body)) st Q :=
  AWp.block (AWp.less h0 (AWp.loop (fun st m => I m st) h1 fun m st hI => (h _ (fun _ h => h) m st hI).mono fun e st' hq => by
    cases e with
    | exit id =>
      simp only [iq] at hq
      simp only [loopQ, blockQ]
      split
      · rename_i h; rw [if_pos h] at hq; exact hq
      · rename_i h; rw [if_neg h] at hq; exact hq
    | _ => exact hq))
end
end Go.Proofs.Ytopiceaeombefaa.Sy

namespace Go.Proofs.Ytopiceaeombefaa.Sy
open Go Go.RowKit

def unC {ι : Type} (op : UnOp) (v : AV ι) (C : AV ι → Prop) : Prop := match op, v with
  | .not, .bool b => C (.bool (!b))
  | .neg, .int k n => C (.int k (k.wrap (0 - n)))
  | .xor, .int k n => C (.int k (ixor k (if k.signed then -1 else k.max) n))
  | _, _ => False
theorem pureC_un {ι : Type} {P : Program} {op : UnOp} {t : TypeId} {x : Operand} {e : Operand → AV ι} {C : AV ι → Prop} : pureC P (.unOp op t x) e C = unC op (e x) C := by
  cases op with
  | not => cases h : e x with
    | bool b => rw [pureC.eq_5 P e C t x b h]; rfl
    | _ => rw [pureC.eq_8 P e C t x .not (by simp [h]) (by simp) (by simp)]; rfl
  | neg => cases h : e x with
    | int k n => rw [pureC.eq_6 P e C t x k n h]; rfl
    | _ => rw [pureC.eq_8 P e C t x .neg (by simp) (by simp [h]) (by simp)]; rfl
  | xor => cases h : e x with
    | int k n => rw [pureC.eq_7 P e C t x k n h]; rfl
    | _ => rw [pureC.eq_8 P e C t x .xor (by simp) (by simp) (by simp [h])]; rfl
  | plus => rw [pureC.eq_8 P e C t x .plus (by simp) (by simp) (by simp)]; cases e x <;> rfl
theorem unC_b {ι : Type} {b : Bool} {C : AV ι → Prop} : unC .not (.bool b) C = C (.bool (!b)) := id rfl
theorem unC_n {ι : Type} {k : IntKind} {n : Int} {C : AV ι → Prop} : unC .neg (.int k n) C = C (.int k (k.wrap (0 - n))) := id rfl
theorem unC_x {ι : Type} {n : Int} {C : AV ι → Prop} : unC .xor (.int .u32 n) C = C (.int .u32 (ixor .u32 IntKind.u32.max n)) := id rfl
theorem rep2 {β : Type} {x : β} : List.replicate 2 x = [x, x] := id rfl
theorem rep3 {β : Type} {x : β} : List.replicate 3 x = [x, x, x] := id rfl
theorem sub_one {β : Type} {x : β} : sub [x] 0 1 = [x] := rfl

section
variable {α : Type} {P : Program} {E : α → Option (Row α)} {n : Sz} {st : St α} {Q : Exit → St α → Prop}

/-- behind a round, with a fact. -/
def lf (n : Sz) (S : Nat → St α) (F : Nat → Prop) (k N B : Nat) (X : St α → Prop) (Q : Exit → St α → Prop) : Exit → St α → Prop
  | .normal, st => k < N ∧ F (k + 1) ∧ Le n st (S (k + 1))
  | .exit id, st => (if id = B then X st else Q (.exit id) st)
  | e, st => Q e st
theorem AWp.lofX {B : Nat} {body : Code} (S : Nat → St α) (F : Nat → Prop) (N : Nat) (h0 : Le n st (S 0)) (f0 : F 0) (h : ∀ X : St α → Prop, (∀ st, Q .normal st → X st) → ∀ k, k ≤ N → F k → AWp P E n body (S k) (lf n S F k N B X Q)) : AWp P E n (.block B (.loop body)) st Q := by
  refine AWp.block (AWp.less h0 (AWp.loop (fun st m => ∃ k, k ≤ N ∧ m = N - k ∧ F k ∧ st = S k) (m := N) ⟨0, Nat.zero_le _, rfl, f0, rfl⟩ ?_))
  rintro m st ⟨k, hk, rfl, hF, rfl⟩
  refine (h _ (fun _ h => h) k hk hF).mono fun e st' hq => ?_
  cases e with
  | normal => exact ⟨N - (k + 1), S (k + 1), by have := hq.1; omega, hq.2.2, k + 1, by have := hq.1; omega, rfl, hq.2.1, rfl⟩
  | exit id =>
    simp only [lf] at hq
    simp only [loopQ, blockQ]
    split
    · rename_i h; rw [if_pos h] at hq; exact hq
    · rename_i h; rw [if_neg h] at hq; exact hq
  | _ => exact hq
theorem AWp.lof {B : Nat} {body y : Code} (S : Nat → St α) (F : Nat → Prop) (N : Nat) (h0 : Le n st (S 0)) (f0 : F 0) (h : ∀ X : St α → Prop, (∀ st, AWp P E n y st Q → X st) → ∀ k, k ≤ N → F k → AWp P E n body (S k) (lf n S F k N B X Q)) : AWp P E n (.seq (.block B (.loop body)) y) st Q := by
  refine AWp.seq (AWp.lofX S F N h0 f0 fun X hX k hk hF => ?_)
  refine (h _ (fun st h => h) k hk hF).mono fun e st' hq => ?_
  cases e with
  | exit id =>
    simp only [lf] at hq ⊢
    split
    · rename_i h; rw [if_pos h] at hq; exact hX _ hq
    · rename_i h; rw [if_neg h] at hq; exact hq
  | _ => exact hq

/-- A loop whose heads are told by something that is not in the program; with a measure. -/
def gq {β : Type} (n : Sz) (S : β → St α) (μ : β → Nat) (F : β → Prop) (x : β) (B : Nat) (X : St α → Prop) (Q : Exit → St α → Prop) : Exit → St α → Prop
  | .normal, st => ∃ x', μ x' < μ x ∧ F x' ∧ Le n st (S x')
  | .exit id, st => (if id = B then X st else Q (.exit id) st)
  | e, st => Q e st
theorem AWp.ghoX {β : Type} {B : Nat} {body : Code} (S : β → St α) (μ : β → Nat) (F : β → Prop) (x0 : β) (h0 : Le n st (S x0)) (f0 : F x0) (h : ∀ X : St α → Prop, (∀ st, Q .normal st → X st) → ∀ x, F x → AWp P E n body (S x) (gq n S μ F x B X Q)) : AWp P E n (.block B (.loop body)) st Q := by
  refine AWp.block (AWp.less h0 (AWp.loop (fun st m => ∃ x, m = μ x ∧ F x ∧ st = S x) (m := μ x0) ⟨x0, rfl, f0, rfl⟩ ?_))
  rintro m st ⟨x, rfl, hF, rfl⟩
  refine (h _ (fun _ h => h) x hF).mono fun e st' hq => ?_
  cases e with
  | normal => obtain ⟨x', h1, h2, h3⟩ := hq; exact ⟨μ x', S x', h1, h3, x', rfl, h2, rfl⟩
  | exit id =>
    simp only [gq] at hq
    simp only [loopQ, blockQ]
    split
    · rename_i h; rw [if_pos h] at hq; exact hq
    · rename_i h; rw [if_neg h] at hq; exact hq
  | _ => exact hq
theorem AWp.gho {β : Type} {B : Nat} {body y : Code} (S : β → St α) (μ : β → Nat) (F : β → Prop) (x0 : β) (h0 : Le n st (S x0)) (f0 : F x0) (h : ∀ X : St α → Prop, (∀ st, AWp P E n y st Q → X st) → ∀ x, F x → AWp P E n body (S x) (gq n S μ F x B X Q)) : AWp P E n (.seq (.block B (.loop body)) y) st Q := by
  refine AWp.seq (AWp.ghoX S μ F x0 h0 f0 fun X hX x hF => ?_)
  refine (h _ (fun st h => h) x hF).mono fun e st' hq => ?_
  cases e with
  | exit id =>
    simp only [gq] at hq ⊢
    split
    · rename_i h; rw [if_pos h] at hq; exact hX _ hq
    · rename_i h; rw [if_neg h] at hq; exact hq
  | _ => exact hq

/-- A slice that is nil may be called an empty one of a row of its own. -/
theorem Le.nil {tm : Tm (Id α)} {rows : Rows α} (t : Nat) (ht : tget tm t = .nilslice) (k : IntKind) (esz : Nat) : Le n (⟨tm, rows⟩ : St α) ⟨(t, .slice true (.own rows.length) 0 0 esz) :: tm, rows ++ [some (.ints k [])]⟩ := by
  rintro c a w ⟨ro, hr⟩
  have hs := hr.sim.pushNone (.ints k []) rfl 0
  refine ⟨_, hr.defers, hr.size, fun s => ?_, hs, hr.rm, fun j L hj => ?_⟩
  · have mono := addr_push c ro ⟨0, 0, 0⟩
    simp only [tget]
    by_cases h : t = s
    · subst h
      rw [if_pos rfl]
      have := hr.tmps t
      simp only [ht] at this
      generalize a.tmps.getD t undef = u at this
      cases this
      exact .empty true 0 esz (L := ⟨0, 0, 0⟩) (by simp only [Cx.addr]; exact last_eq hr.sim.len)
    · rw [if_neg h]
      exact (hr.tmps s).mono mono
  · have hl := hr.pin j L hj
    rw [List.getElem?_append_left (List.getElem?_eq_some_iff.1 hl).1]
    exact hl

/-- A nil slice within a row may be called an empty one of a row of its own. -/
theorem Le.nilIn {tm : Tm (Id α)} {rows : Rows α} (j i : Nat) {l : List (AV (Id α))} (hj : rows[j]? = some (some (.mixed l))) (hi : l[i]? = some .nilslice) (k : IntKind) (esz : Nat) : Le n (⟨tm, rows⟩ : St α) ⟨tm, rows.set j (some (.mixed (l.set i (.slice true (.own rows.length) 0 0 esz)))) ++ [some (.ints k [])]⟩ := by
  rintro c a w ⟨ro, hr⟩
  have hs := hr.sim.pushNone (.ints k []) rfl 0
  have mono := addr_push c ro ⟨0, 0, 0⟩
  have hjl : j < rows.length := (List.getElem?_eq_some_iff.1 hj).1
  have hown : c.addr (ro ++ [⟨0, 0, 0⟩]) (.own rows.length) = some ⟨0, 0, 0⟩ := by simp only [Cx.addr]; exact last_eq hr.sim.len
  have hset : ∀ (m : Nat) (r : Row (Id α)), (rows.set j (some (.mixed (l.set i (.slice true (.own rows.length) 0 0 esz)))) ++ [some (.ints k [])])[m]? = some (some r) → (m ≠ j ∧ (rows ++ [some (.ints k [])])[m]? = some (some r)) ∨ (m = j ∧ r = .mixed (l.set i (.slice true (.own rows.length) 0 0 esz))) := by
    intro m r hm
    by_cases h : m = j
    · subst h
      rw [List.getElem?_append_left (by simpa using hjl), List.getElem?_set_self hjl] at hm
      cases hm
      exact .inr ⟨rfl, rfl⟩
    · refine .inl ⟨h, ?_⟩
      rcases Nat.lt_or_ge m rows.length with h1 | h1
      · rw [List.getElem?_append_left (by simpa using h1), List.getElem?_set_ne (fun e => h e.symm)] at hm
        rw [List.getElem?_append_left h1]; exact hm
      · rw [List.getElem?_append_right (by simpa using h1)] at hm
        rw [List.getElem?_append_right h1]; simpa using hm
  have hj2 : (rows ++ [some (.ints k [])])[j]? = some (some (.mixed l)) := by rw [List.getElem?_append_left hjl]; exact hj
  have hlive : ∀ (m : Nat) (r : Row (Id α)), (rows.set j (some (.mixed (l.set i (.slice true (.own rows.length) 0 0 esz)))) ++ [some (.ints k [])])[m]? = some (some r) → ∃ r', (rows ++ [some (.ints k [])])[m]? = some (some r') ∧ r'.len = r.len := by
    intro m r hm
    rcases hset m r hm with ⟨_, h2⟩ | ⟨rfl, rfl⟩
    · exact ⟨r, h2, rfl⟩
    · exact ⟨_, hj2, by simp [Row.len]⟩
  refine ⟨_, hr.defers, hr.size, fun s => (hr.tmps s).mono mono, ?_, hr.rm, fun m L hm => ?_⟩
  · exact {
      len := by simp [hr.sim.len], os := hs.os, tape := hs.tape, output := hs.output, size := hs.size, frame := hs.frame
      own := fun m r hm => by
        rcases hset m r hm with ⟨_, h2⟩ | ⟨rfl, rfl⟩
        · exact hs.own m r h2
        · obtain ⟨L, g1, g2, g3, g4⟩ := hs.own m _ hj2
          refine ⟨L, g1, g2, by simpa [Row.len] using g3, fun h0 => ?_⟩
          obtain ⟨cs, ty, g5, g6, g7⟩ := g4 h0
          refine ⟨cs, ty, g5, g6, fun q v hv => ?_⟩
          simp only [Row.get?] at hv
          rw [List.getElem?_set] at hv
          split at hv
          · rename_i hq
            subst hq
            split at hv
            · cases hv
              obtain ⟨u, hu, hcr⟩ := g7 i .nilslice hi
              refine ⟨u, hu, ?_, hcr.2⟩
              have := hcr.1
              cases this
              exact .empty true 0 esz hown
            · cases hv
          · exact g7 q v hv
      inj := fun m m' r r' L L' hne hm hm' => by
        obtain ⟨s, h1, _⟩ := hlive m r hm
        obtain ⟨s', h2, _⟩ := hlive m' r' hm'
        exact hs.inj m m' s s' L L' hne h1 h2
      fra := hs.fra }
  · have hl := hr.pin m L hm
    rw [List.getElem?_append_left (List.getElem?_eq_some_iff.1 hl).1]
    exact hl

/-- A slice's flag may be forgotten. -/
theorem Le.weakF {tm : Tm (Id α)} {rows : Rows α} (t : Nat) {f : Bool} {id : Id α} {off len esz : Nat} (ht : tget tm t = .slice f id off len esz) : Le n (⟨tm, rows⟩ : St α) ⟨(t, .slice false id off len esz) :: tm, rows⟩ := by
  rintro c a w ⟨ro, hr⟩
  refine ⟨ro, hr.defers, hr.size, fun s => ?_, hr.sim, hr.rm, hr.pin⟩
  simp only [tget]
  by_cases h : t = s
  · subst h
    rw [if_pos rfl]
    have := hr.tmps t
    simp only [ht] at this
    generalize a.tmps.getD t undef = u at this
    cases this with
    | empty x off esz h => exact .empty false off esz h
    | slice h hc hx hl => exact .slice h hc (fun h' => hx (h'.elim (fun e => by cases e) .inr)) (fun e => by cases e)
  · rw [if_neg h]
    exact hr.tmps s

/-- A region whose branches come together in one state. -/
theorem AWp.regJ {id : Nat} {ops : Array Oper} {y : Code} (plan qs : List Nat) (steps : List AStep) (S : St α) (hm : mkSteps ops qs n.n plan = some steps) (hp : plan = List.range ops.size)
    (h : ∀ K : St α → Prop, (∀ st, Le n st S → K st) → stepsC P E steps st K) (hy : AWp P E n y S Q) : AWp P E n (.seq (.region id ops false) y) st Q :=
  AWp.reg plan qs steps hm hp fun K hK => h K fun st hl => hK st (AWp.less hl hy)
theorem AWp.drwJ {id : Nat} {ops : Array Oper} {y : Code} (hmix : P.follows .mixedOrders = true) (pc : PC) (qs : List Nat) (dg : List Dg) (sp : SP) (S : St α) (hm : mkSP ops qs n.n pc = some sp) (hp : pcB ops qs dg pc = true)
    (h : ∀ K : St α → Prop, (∀ st, Le n st S → K st) → sp.wp P E st K) (hy : AWp P E n y S Q) : AWp P E n (.seq (.region id ops true) y) st Q :=
  AWp.drwP hmix pc qs dg sp hm hp fun K hK => h K fun st hl => hK st (AWp.less hl hy)
/-- A test whose branches come together in one state. -/
theorem AWp.iteJ {x : Operand} {b : Bool} {thn y : Code} (S : St α) (hx : ev st.tmps x = .bool b) (ht : b = true → ∀ X : St α → Prop, (∀ st', Le n st' S → X st') → AWp P E n thn st (thenQ X Q)) (hf : b = false → Le n st S) (hy : AWp P E n y S Q) : AWp P E n (.seq (.cond x thn .skip) y) st Q :=
  AWp.ite hx (fun hb X hX => ht hb X fun st' hl => hX st' (AWp.less hl hy)) fun hb => AWp.less (hf hb) hy
theorem AWp.ite2J {x : Operand} {b : Bool} {thn els y : Code} (S : St α) (hx : ev st.tmps x = .bool b) (ht : b = true → ∀ X : St α → Prop, (∀ st', Le n st' S → X st') → AWp P E n thn st (thenQ X Q)) (hf : b = false → ∀ X : St α → Prop, (∀ st', Le n st' S → X st') → AWp P E n els st (thenQ X Q)) (hy : AWp P E n y S Q) : AWp P E n (.seq (.cond x thn els) y) st Q :=
  AWp.ite2 hx (fun hb X hX => ht hb X fun st' hl => hX st' (AWp.less hl hy)) (fun hb X hX => hf hb X fun st' hl => hX st' (AWp.less hl hy))
/-- A group whose ways come together in one state. -/
theorem AWp.grpJ {x y : Code} (S : St α) (h : ∀ X : St α → Prop, (∀ st', Le n st' S → X st') → AWp P E n x st (thenQ X Q)) (hy : AWp P E n y S Q) : AWp P E n (.seq x y) st Q :=
  AWp.grp fun X hX => h X fun st' hl => hX st' (AWp.less hl hy)
/-- A row may be cut. -/
theorem AWp.blkJ {B : Nat} {body y : Code} (S : St α) (h : ∀ X : St α → Prop, (∀ st', Le n st' S → X st') → AWp P E n body st (bq B X Q)) (hy : AWp P E n y S Q) : AWp P E n (.seq (.block B body) y) st Q :=
  AWp.blk fun X hX => h X fun _ hl => hX _ (AWp.less hl hy)
theorem Le.cut {tm : Tm (Id α)} {rows : Rows α} (k : Nat) {kk : IntKind} {l : List Int} (hk : rows[k]? = some (some (.ints kk l))) (m : Nat) : Le n (⟨tm, rows⟩ : St α) ⟨tm, rows.set k (some (.ints kk (l.take m)))⟩ := by
  rintro c a w ⟨ro, hr⟩
  have hlt := (List.getElem?_eq_some_iff.1 hk).1
  refine ⟨ro, hr.defers, hr.size, hr.tmps, hr.sim.less (by simp) fun j r hj => ?_, hr.rm, hr.pin⟩
  by_cases hjk : j = k
  · subst hjk
    rw [List.getElem?_set_self hlt] at hj
    simp only [Option.some.injEq] at hj
    subst hj
    refine ⟨_, hk, by simp [Row.len]; omega, fun i v hv => ?_, .inl rfl⟩
    simp only [Row.get?, Option.map_eq_some_iff] at hv ⊢
    obtain ⟨x, hx, rfl⟩ := hv
    have hi : i < m := by have := (List.getElem?_eq_some_iff.1 hx).1; simp at this; omega
    rw [List.getElem?_take_of_lt hi] at hx
    exact ⟨x, hx, rfl⟩
  · rw [List.getElem?_set_ne (Ne.symm hjk)] at hj
    exact ⟨r, hj, Nat.le_refl _, fun i v hv => hv, .inl rfl⟩
end

section
variable {α : Type} {P : Program} {E : α → Option (Row α)} {n : Sz} {Q : Exit → St α → Prop}
theorem tm_cons {c : Cx α} {ro : List Loc} {tm : Tm (Id α)} {a : Act} (h : ∀ t, VR (c.addr ro) (tget tm t) (a.tmps.getD t undef)) {t : Nat} {v : AV (Id α)} (hv : VR (c.addr ro) v (a.tmps.getD t undef)) : ∀ s, VR (c.addr ro) (tget ((t, v) :: tm) s) (a.tmps.getD s undef) := by
  intro s
  simp only [tget]
  by_cases hs : t = s
  · subst hs; rw [if_pos rfl]; exact hv
  · rw [if_neg hs]; exact h s
/-- What a slice's capacity is may be known; whatever it is. -/
theorem AWp.cap {code : Code} {tm : Tm (Id α)} {rows : Rows α} (t : Nat) {id : Id α} {off len esz : Nat} (ht : tget tm t = .slice true id off len esz) (h0 : 0 < len) (h : ∀ cap, len ≤ cap → AWp P E n code ⟨(t, .slc id off len cap esz) :: tm, rows⟩ Q) : AWp P E n code ⟨tm, rows⟩ Q := by
  intro c hE hc a w ⟨ro, hr⟩
  have hv := hr.tmps t
  simp only [ht] at hv
  generalize hu : a.tmps.getD t undef = u at hv
  cases hv with
  | empty => exact (Nat.lt_irrefl _ h0).elim
  | slice hA hcap hx hl =>
    rename_i L cap ad
    have ha := hx (.inl rfl)
    subst ha
    exact h cap hcap c hE hc a w ⟨ro, hr.defers, hr.size, tm_cons hr.tmps (by rw [hu]; exact .slc hA hcap (hl rfl)), hr.sim, hr.rm, hr.pin⟩
/-- .. and may be forgotten. -/
theorem Le.uncap {tm : Tm (Id α)} {rows : Rows α} (t : Nat) {id : Id α} {off len cap esz : Nat} (ht : tget tm t = .slc id off len cap esz) : Le n (⟨tm, rows⟩ : St α) ⟨(t, .slice true id off len esz) :: tm, rows⟩ := by
  rintro c a w ⟨ro, hr⟩
  have hv := hr.tmps t
  simp only [ht] at hv
  refine ⟨ro, hr.defers, hr.size, tm_cons hr.tmps ?_, hr.sim, hr.rm, hr.pin⟩
  generalize a.tmps.getD t undef = u at hv
  cases hv with
  | slc hA hcap hl => exact .slice hA hcap (fun _ => rfl) (fun _ => hl)
end

/-- A row of numbers goes on under a new name. -/
theorem Le.renamed {α : Type} {n : Sz} {tm : Tm (Id α)} {rows : Rows α} (t k : Nat) {x : Bool} {off len esz : Nat} (ht : tget tm t = .slice x (.own k) off len esz) {kk : IntKind} {l : List Int} (hk : rows[k]? = some (some (.ints kk l))) :
    Le n (⟨tm, rows⟩ : St α) ⟨(t, .slice x (.own rows.length) off len esz) :: tm, rows.set k none ++ [some (.ints kk l)]⟩ := by
  rintro c a w ⟨ro, hr⟩
  obtain ⟨L, hL, _⟩ := hr.sim.own k _ hk
  have hs := hr.sim.rename hk hL
  have mono := addr_push c ro L
  refine ⟨_, hr.defers, hr.size, tm_cons (fun s => (hr.tmps s).mono mono) ?_, hs, hr.rm, fun j M hj => ?_⟩
  · have hv := hr.tmps t
    simp only [ht] at hv
    have hnew : c.addr (ro ++ [L]) (.own rows.length) = some L := by simp only [Cx.addr]; exact last_eq hr.sim.len
    generalize a.tmps.getD t undef = u at hv
    have hL' : c.addr ro (.own k) = some L := hL
    cases hv with
    | empty x off esz h => exact .empty x off esz hnew
    | slice h hc hx hl => rw [hL'] at h; cases h; exact .slice hnew hc hx hl
  · have hl := hr.pin j M hj
    rw [List.getElem?_append_left (List.getElem?_eq_some_iff.1 hl).1]
    exact hl

/-- A function, where what it hands back, and its rows, are told by a property. -/
theorem FnOkP.intro {α : Type} {P : Program} {E : α → Option (Row α)} {f : FuncId} {fn : Func} {body : Code} {n : Nat} (hf : P.funcs[f]? = some fn) (hcall : ∀ args w, (callFunc f args).run P w = .ok (.enter f args) w) (hb : fn.body = some body) (hn : fn.ntmps = n) {args : List (AV (Id α))} (hlen : args.length ≤ n) {muts : Rows α} {R : AV (Id α) → Rows α → Prop}
    (h : AWp P E ⟨n, muts.length⟩ body ⟨argTm 0 args, muts⟩ (endQ fun st => resC P E fn.results.toList st fun l => R (one l) st.rows)) : FnOkP P f E args muts R := by
  refine ⟨hcall, fun re ro w0 vs hc hs hv => ?_⟩
  refine fn_body hf hb hn hlen h (c := ⟨E, re, ro, w0⟩) rfl hc rfl hs hv ?_
  rintro st a w' hK ⟨ro', hr⟩
  obtain ⟨l, v, h1, h2, h3⟩ := results_of hc hr hK
  refine ⟨v, h3, v, ro', _, _, h1, rfl, h2, hr.sim, ?_⟩
  intro id L hL
  cases id with
  | own k =>
    have hk : ro[k]? = some L := hL
    exact hr.pin k L hk
  | ext x => exact hL

/-- What is read may be known in other words. -/
theorem FnOk.weakE {α : Type} {P : Program} {f : FuncId} {E E' : α → Option (Row α)} {args : List (AV (Id α))} {muts : Rows α} {res : AV (Id α)} {rows' : Rows α} (hE : ∀ x r, E x = some r → ∃ r', E' x = some r' ∧ r'.flat = r.flat ∧ ∀ j v, r.get? j = some v → r'.get? j = some v) (h : FnOk P f E args muts res rows') : FnOk P f E' args muts res rows' := by
  refine ⟨h.1, fun re ro w0 vs hc hs hv => ?_⟩
  have hc' : CxOk (⟨E, re, ro, w0⟩ : Cx α) := by
    refine ⟨fun x r hr => ?_, fun x r L hr hL hlen M hM h0 => ?_⟩
    · obtain ⟨r', h1, hf, h2⟩ := hE x r hr
      obtain ⟨L, h3, h4⟩ := hc.ext x r' h1
      rw [hf] at h4
      exact ⟨L, h3, fun j v hj => h4 j v (h2 j v hj)⟩
    · obtain ⟨r', h1, _, h2⟩ := hE x r hr
      exact hc.apart x r' L h1 hL (Nat.lt_of_le_of_lt (Nat.zero_le _) (Row.get?_lt (h2 0 _ (Row.get?_cell hlen)))) M hM h0
  have hs' : Sim (⟨E, re, ro, w0⟩ : Cx α) ro muts w0 := ⟨hs.len, hs.os, hs.tape, hs.output, hs.size, hs.frame, hs.own, hs.inj, hs.fra⟩
  refine (h.2 re ro w0 vs hc' hs' hv).mono ?_
  rintro e w' ⟨v, ro', h1, h2, h3, h4⟩
  exact ⟨v, ro', h1, h2, ⟨h3.len, h3.os, h3.tape, h3.output, h3.size, h3.frame, h3.own, h3.inj, h3.fra⟩, h4⟩
def thaw {ι : Type} : Row ι → Row ι
  | .frz k l => .ints k l
  | r => r
theorem FnOk.thaw {α : Type} {P : Program} {f : FuncId} {E : α → Option (Row α)} {args : List (AV (Id α))} {muts : Rows α} {res : AV (Id α)} {rows' : Rows α} (h : FnOk P f (fun x => (E x).map Sy.thaw) args muts res rows') : FnOk P f E args muts res rows' := by
  refine FnOk.weakE (fun x r hr => ?_) h
  obtain ⟨r', h1, rfl⟩ := Option.map_eq_some_iff.1 hr
  refine ⟨r', h1, by cases r' <;> rfl, fun j v hj => ?_⟩
  cases r' <;> exact hj

theorem fits_arr {P : Program} {t e : TypeId} {m : Nat} {k : IntKind} {i : In} (ht : P.underlying t = some (.array m e)) (he : P.underlying e = some (.int k)) (h : i.fits P t) : ∃ l, i = .arr k l ∧ l.length = m ∧ WfL k l := by
  cases i with
  | arr k' l =>
    obtain ⟨m', e', h1, h2, h3, h4⟩ := h
    rw [ht] at h1; cases h1
    rw [he] at h2; cases h2
    exact ⟨l, rfl, h3, h4⟩
  | bool b => rw [In.fits, ht] at h; cases h
  | int k n => rw [In.fits, ht] at h; cases h.1
  | slc k l => obtain ⟨e', h1, _⟩ := h; rw [ht] at h1; cases h1
  | slcs k l => obtain ⟨e', q', h1, _⟩ := h; rw [ht] at h1; cases h1
  | slca k m n l => obtain ⟨e', q', h1, _⟩ := h; rw [ht] at h1; cases h1
  | slcm m n l => obtain ⟨e', fs', ks', h1, _⟩ := h; rw [ht] at h1; cases h1
theorem fits_slc {P : Program} {t e : TypeId} {k : IntKind} {i : In} (ht : P.underlying t = some (.slice e)) (he : P.underlying e = some (.int k)) (h : i.fits P t) : ∃ l, i = .slc k l ∧ l.length * P.bytesOf e ≤ reachBytes ∧ WfL k l := by
  cases i with
  | slc k' l =>
    obtain ⟨e', h1, h2, h3, h4⟩ := h
    rw [ht] at h1; cases h1
    rw [he] at h2; cases h2
    exact ⟨l, rfl, h3, h4⟩
  | bool b => rw [In.fits, ht] at h; cases h
  | int k n => rw [In.fits, ht] at h; cases h.1
  | arr k l => obtain ⟨m', e', h1, _⟩ := h; rw [ht] at h1; cases h1
  | slcs k l => obtain ⟨e', q', h1, h2, _⟩ := h; rw [ht] at h1; cases h1; rw [he] at h2; cases h2
  | slca k m n l => obtain ⟨e', q', h1, h2, _⟩ := h; rw [ht] at h1; cases h1; rw [he] at h2; cases h2
  | slcm m n l => obtain ⟨e', fs', ks', h1, h2, _⟩ := h; rw [ht] at h1; cases h1; rw [he] at h2; cases h2
theorem fits_slcs {P : Program} {t e q : TypeId} {k : IntKind} {i : In} (ht : P.underlying t = some (.slice e)) (he : P.underlying e = some (.slice q)) (hq : P.underlying q = some (.int k)) (h : i.fits P t) : ∃ ls, i = .slcs k ls ∧ ls.length * P.bytesOf e ≤ reachBytes ∧ ∀ l ∈ ls, l.length * P.bytesOf q ≤ reachBytes ∧ WfL k l := by
  cases i with
  | slcs k' ls =>
    obtain ⟨e', q', h1, h2, h3, h4, h5⟩ := h
    rw [ht] at h1; cases h1
    rw [he] at h2; cases h2
    rw [hq] at h3; cases h3
    exact ⟨ls, rfl, h4, h5⟩
  | bool b => rw [In.fits, ht] at h; cases h
  | int k n => rw [In.fits, ht] at h; cases h.1
  | arr k l => obtain ⟨m', e', h1, _⟩ := h; rw [ht] at h1; cases h1
  | slc k l => obtain ⟨e', h1, h2, _⟩ := h; rw [ht] at h1; cases h1; rw [he] at h2; cases h2
  | slca k m n l => obtain ⟨e', q', h1, h2, _⟩ := h; rw [ht] at h1; cases h1; rw [he] at h2; cases h2
  | slcm m n l => obtain ⟨e', fs', ks', h1, h2, _⟩ := h; rw [ht] at h1; cases h1; rw [he] at h2; cases h2
theorem fits_slca {P : Program} {t e q : TypeId} {k : IntKind} {m : Nat} {i : In} (ht : P.underlying t = some (.slice e)) (he : P.underlying e = some (.array m q)) (hq : P.underlying q = some (.int k)) (h : i.fits P t) : ∃ n l, i = .slca k m n l ∧ n * P.bytesOf e ≤ reachBytes ∧ l.length = n * m ∧ WfL k l := by
  cases i with
  | slca k' m' n l =>
    obtain ⟨e', q', h1, h2, h3, h4, h5, h6⟩ := h
    rw [ht] at h1; cases h1
    rw [he] at h2; cases h2
    rw [hq] at h3; cases h3
    exact ⟨n, l, rfl, h4, h5, h6⟩
  | bool b => rw [In.fits, ht] at h; cases h
  | int k n => rw [In.fits, ht] at h; cases h.1
  | arr k l => obtain ⟨m', e', h1, _⟩ := h; rw [ht] at h1; cases h1
  | slc k l => obtain ⟨e', h1, h2, _⟩ := h; rw [ht] at h1; cases h1; rw [he] at h2; cases h2
  | slcs k l => obtain ⟨e', q', h1, h2, _⟩ := h; rw [ht] at h1; cases h1; rw [he] at h2; cases h2
  | slcm m n l => obtain ⟨e', fs', ks', h1, h2, _⟩ := h; rw [ht] at h1; cases h1; rw [he] at h2; cases h2
theorem fits_slcm {P : Program} {t e : TypeId} {fs : Array Field} {ks : List (Option IntKind)} {i : In} (ht : P.underlying t = some (.slice e)) (he : P.underlying e = some (.struct fs)) (hk : flatS P fs.toList 0 = some ks) (h : i.fits P t) :
    ∃ n l, i = .slcm ks.length n l ∧ n * P.bytesOf e ≤ reachBytes ∧ l.length = n * ks.length ∧ ∀ (p : Nat) (kd : Option IntKind), p < n * ks.length → ks[p % ks.length]? = some kd → kindOk kd (l.getD p undef) := by
  cases i with
  | slcm m n l =>
    obtain ⟨e', fs', ks', h1, h2, h3, h4, h5, h6, h7⟩ := h
    rw [ht] at h1; cases h1
    rw [he] at h2; cases h2
    rw [hk] at h3; cases h3
    subst h4
    exact ⟨n, l, rfl, h5, h6, h7⟩
  | bool b => rw [In.fits, ht] at h; cases h
  | int k n => rw [In.fits, ht] at h; cases h.1
  | arr k l => obtain ⟨m', e', h1, _⟩ := h; rw [ht] at h1; cases h1
  | slc k l => obtain ⟨e', h1, h2, _⟩ := h; rw [ht] at h1; cases h1; rw [he] at h2; cases h2
  | slcs k l => obtain ⟨e', q', h1, h2, _⟩ := h; rw [ht] at h1; cases h1; rw [he] at h2; cases h2
  | slca k m n l => obtain ⟨e', q', h1, h2, _⟩ := h; rw [ht] at h1; cases h1; rw [he] at h2; cases h2
theorem fits_int {P : Program} {t : TypeId} {k : IntKind} {i : In} (ht : P.underlying t = some (.int k)) (h : i.fits P t) : ∃ n, i = .int k n ∧ (Lit.int k n).wf = true := by
  cases i with
  | int k' n =>
    obtain ⟨h1, h2⟩ := h
    rw [ht] at h1; cases h1
    exact ⟨n, rfl, h2⟩
  | bool b => rw [In.fits, ht] at h; cases h
  | arr k l => obtain ⟨m', e', h1, _⟩ := h; rw [ht] at h1; cases h1
  | slc k l => obtain ⟨e', h1, _⟩ := h; rw [ht] at h1; cases h1
  | slcs k l => obtain ⟨e', q', h1, _⟩ := h; rw [ht] at h1; cases h1
  | slca k m n l => obtain ⟨e', q', h1, _⟩ := h; rw [ht] at h1; cases h1
  | slcm m n l => obtain ⟨e', fs', ks', h1, _⟩ := h; rw [ht] at h1; cases h1
theorem fits_bool {P : Program} {t : TypeId} {i : In} (ht : P.underlying t = some .bool) (h : i.fits P t) : ∃ b, i = .bool b := by
  cases i with
  | bool b => exact ⟨b, rfl⟩
  | int k n => simp [In.fits, ht] at h
  | arr k l => simp [In.fits, ht] at h
  | slc k l => simp [In.fits, ht] at h
  | slcs k l => simp [In.fits, ht] at h
  | slca k m n l => simp [In.fits, ht] at h
  | slcm m n l => simp [In.fits, ht] at h
theorem wf_u8 {n : Int} (h : (Lit.int .u8 n).wf = true) : 0 ≤ n ∧ n < 256 := by
  simp [Lit.wf, IntKind.min, IntKind.max, IntKind.signed, IntKind.bits] at h; omega
theorem wf_u16 {n : Int} (h : (Lit.int .u16 n).wf = true) : 0 ≤ n ∧ n < 65536 := by
  simp [Lit.wf, IntKind.min, IntKind.max, IntKind.signed, IntKind.bits] at h; omega
theorem wf_u32 {n : Int} (h : (Lit.int .u32 n).wf = true) : 0 ≤ n ∧ n < 4294967296 := by
  simp [Lit.wf, IntKind.min, IntKind.max, IntKind.signed, IntKind.bits] at h; omega
theorem wf_u64 {n : Int} (h : (Lit.int .u64 n).wf = true) : 0 ≤ n ∧ n < 18446744073709551616 := by
  simp [Lit.wf, IntKind.min, IntKind.max, IntKind.signed, IntKind.bits] at h; omega
theorem wf_i64 {n : Int} (h : (Lit.int .i64 n).wf = true) : -9223372036854775808 ≤ n ∧ n < 9223372036854775808 := by
  simp [Lit.wf, IntKind.min, IntKind.max, IntKind.signed, IntKind.bits] at h; omega
theorem wfl_get {p : Int → Prop} {l : List Int} (h : ∀ n ∈ l, p n) (h0 : p 0) (i : Nat) : p (l.getD i 0) := by
  rw [List.getD_eq_getElem?_getD]
  rcases Nat.lt_or_ge i l.length with hi | hi
  · rw [List.getElem?_eq_getElem hi]; exact h _ (List.getElem_mem hi)
  · rw [List.getElem?_eq_none hi]; exact h0
theorem wfl_u8 {l : List Int} (h : WfL .u8 l) (i : Nat) : 0 ≤ l.getD i 0 ∧ l.getD i 0 < 256 := wfl_get (p := fun x => 0 ≤ x ∧ x < 256) (fun n hn => wf_u8 (h n hn)) (by omega) i
theorem wfl_u32 {l : List Int} (h : WfL .u32 l) (i : Nat) : 0 ≤ l.getD i 0 ∧ l.getD i 0 < 4294967296 := wfl_get (p := fun x => 0 ≤ x ∧ x < 4294967296) (fun n hn => wf_u32 (h n hn)) (by omega) i
theorem reach_le : reachBytes ≤ 9223372036854775807 := by decide
theorem reach_lt : reachBytes ≤ 140737488351232 := by decide

section
variable {ι κ : Type}
theorem mapL_flat (f : ι → κ) (k : IntKind) (l : List Int) (r : List (AV ι)) : AV.mapL f (flatI k l ++ r) = flatI k l ++ AV.mapL f r := by
  simp only [AV.mapL_eq, List.map_append, flatI, List.map_map]
  rfl
theorem mapL_flat1 (f : ι → κ) (k : IntKind) (l : List Int) : AV.mapL f (flatI k l) = flatI k l := by
  simp only [AV.mapL_eq, flatI, List.map_map]
  rfl
theorem allL_app (p : ι → Prop) : ∀ (l r : List (AV ι)), AV.AllL p (l ++ r) ↔ AV.AllL p l ∧ AV.AllL p r
  | [], r => by simp [AV.AllL]
  | v :: l, r => by simp only [List.cons_append, AV.AllL, allL_app p l r, and_assoc]
theorem allL_flat1 (p : ι → Prop) (k : IntKind) : ∀ l : List Int, AV.AllL p (flatI k l) = True
  | [] => rfl
  | n :: l => by
    show (True ∧ AV.AllL p (flatI k l)) = True
    rw [allL_flat1 p k l, and_true]
theorem allL_flat (p : ι → Prop) (k : IntKind) (l : List Int) (r : List (AV ι)) : AV.AllL p (flatI k l ++ r) = AV.AllL p r := by
  rw [propext (allL_app p _ _), allL_flat1, true_and]
theorem solidL_flat (k : IntKind) : ∀ (l : List Int) (r : List (AV ι)), AV.solidL (flatI k l ++ r) = AV.solidL r
  | [], r => rfl
  | n :: l, r => by
    show (True ∧ AV.solidL (flatI k l ++ r)) = _
    rw [solidL_flat k l r, true_and]
end

section
variable {α : Type} {n : Sz}
theorem Le.ofA {tm tm' : Tm (Id α)} {rows rows' : Rows α} (h0 : n.m ≤ rows'.length := by first | exact Nat.zero_le _ | simp)
    (h1 : leTm tm rows'.length tm' := by simp only [leTm, tget, AV.All, AV.AllL, inS, Nat.reduceEqDiff, if_true, if_false]; repeat' (first | exact trivial | rfl | assumption | apply And.intro | simp [mapL_flat, mapL_flat1, allL_flat, allL_flat1]))
    (h2 : leRows rows'.length rows rows' := by simp only [leRows, Row.All, AV.AllL, AV.All, inS]; repeat' (first | exact trivial | rfl | assumption | apply And.intro | simp [mapL_flat, mapL_flat1, allL_flat, allL_flat1])) : Le n (⟨tm, rows⟩ : St α) ⟨tm', rows'⟩ := Le.of h0 h1 h2
end

section
variable {α : Type} {P : Program} {E : α → Option (Row α)}
/-- A function whose rows all stay as they are. -/
theorem FnOk.introA {f : FuncId} {fn : Func} {body : Code} {n : Nat} (hf : P.funcs[f]? = some fn) (hcall : ∀ args w, (callFunc f args).run P w = .ok (.enter f args) w) (hb : fn.body = some body) (hn : fn.ntmps = n) {args : List (AV (Id α))} (hlen : args.length ≤ n) {muts : Rows α} {res : AV (Id α)} {rows' : Rows α}
    (h : AWp P E ⟨n, muts.length⟩ body ⟨argTm 0 args, muts⟩ (endQ fun st => resC P E fn.results.toList st fun l => one l = res ∧ st.rows = rows')) : FnOk P f E args muts res rows' := by
  refine ⟨hcall, fun re ro w0 vs hc hs hv => ?_⟩
  refine fn_body hf hb hn hlen h (c := ⟨E, re, ro, w0⟩) rfl hc rfl hs hv ?_
  rintro st a w' hK ⟨ro', hr⟩
  obtain ⟨l, v, ⟨h1, h2⟩, h7, h8⟩ := results_of hc hr hK
  rw [h1] at h7
  refine ⟨v, h8, v, ro', rfl, h7, by rw [← h2]; exact hr.sim, ?_⟩
  intro id L hL
  cases id with
  | own k => exact hr.pin k L hL
  | ext x => exact hL
/-- A name keeps what it stands for when rows come behind. -/
theorem look_app {rows more : Rows α} {id : Id α} {r : Row (Id α)} (h : look E rows id = some r) : look E (rows ++ more) id = some r := by
  cases id with
  | own k =>
    simp only [look] at h ⊢
    cases hk : rows[k]? with
    | none => rw [hk] at h; cases h
    | some o => rw [List.getElem?_append_left (List.getElem?_eq_some_iff.1 hk).1, hk]; rw [hk] at h; exact h
  | ext x => exact h
end
end Go.Proofs.Ytopiceaeombefaa.Sy

namespace Go.Proofs.Ytopiceaeombefaa.Sy
open Go Go.RowKit
set_option maxRecDepth 100000
/-- The lemmas of the steps, as one. -/
theorem wT : (((((((((type_of% @st_nil) ∧ (type_of% @st_pure)) ∧ ((type_of% @st_read) ∧ ((type_of% @st_eff) ∧ (type_of% @st_gpure)))) ∧ (((type_of% @st_gread) ∧ ((type_of% @st_geff) ∧ (type_of% @st_gcall))) ∧ ((type_of% @st_gquiet) ∧ ((type_of% @st_gmcall) ∧ (type_of% @sp_gmcall))))) ∧ ((((type_of% @sp_nil) ∧ (type_of% @sp_pure)) ∧ ((type_of% @sp_read) ∧ ((type_of% @sp_eff) ∧ (type_of% @sp_two)))) ∧ (((type_of% @sp_three) ∧ ((type_of% @sp_four) ∧ (type_of% @sp_gpure))) ∧ ((type_of% @sp_gread) ∧ ((type_of% @sp_geff) ∧ (type_of% @sp_gcall)))))) ∧ (((((type_of% @sp_gquiet) ∧ (type_of% @guardC_n)) ∧ ((type_of% @guardC_tt) ∧ ((type_of% @guardC_tf) ∧ (type_of% @guardC_ft)))) ∧ (((type_of% @guardC_ff) ∧ ((type_of% @putK_f) ∧ (type_of% @putK_t))) ∧ ((type_of% @putK_ff) ∧ ((type_of% @putK_d) ∧ (type_of% @putK_e))))) ∧ ((((type_of% @putK_n) ∧ ((type_of% @putK_l) ∧ (type_of% @putK_nb))) ∧ ((type_of% @putK_i) ∧ ((type_of% @pickK_t) ∧ (type_of% @pickK_f)))) ∧ (((type_of% @pickK_d) ∧ ((type_of% @pickK_e) ∧ (type_of% @pickK_n))) ∧ ((type_of% @pickK_l) ∧ ((type_of% @pickK_b) ∧ (type_of% @effK.eq_1))))))) ∧ ((((((type_of% @pureC_un) ∧ (type_of% @unC_b)) ∧ ((type_of% @unC_n) ∧ ((type_of% @unC_x) ∧ (type_of% @pureC.eq_1)))) ∧ (((type_of% @pureC.eq_2) ∧ ((type_of% @pureC.eq_3) ∧ (type_of% @pureC.eq_4))) ∧ ((type_of% @pureC.eq_9) ∧ ((type_of% @pureC.eq_10) ∧ (type_of% @pureC.eq_11))))) ∧ ((((type_of% @pureC.eq_12) ∧ ((type_of% @pureC.eq_13) ∧ (type_of% @pureC.eq_14))) ∧ ((type_of% @pureC.eq_15) ∧ ((type_of% @pureC.eq_16) ∧ (type_of% @pureC.eq_17)))) ∧ (((type_of% @pureC.eq_18) ∧ ((type_of% @pureC.eq_19) ∧ (type_of% @pureC.eq_20))) ∧ ((type_of% @pureC.eq_21) ∧ ((type_of% @pureC.eq_22) ∧ (type_of% @pureC.eq_23)))))) ∧ (((((type_of% @ev.eq_1) ∧ (type_of% @ev.eq_2)) ∧ ((type_of% @ev.eq_3) ∧ ((type_of% @ev.eq_4) ∧ (type_of% @ofV.eq_1)))) ∧ (((type_of% @ofV.eq_2) ∧ ((type_of% @ofV.eq_3) ∧ (type_of% @ofV.eq_4))) ∧ ((type_of% @ofV.eq_5) ∧ ((type_of% @ofV.eq_6) ∧ (type_of% @ofV.eq_7))))) ∧ ((((type_of% @ofV.eq_8) ∧ ((type_of% @ofV.eq_9) ∧ (type_of% @St.put.eq_1))) ∧ ((type_of% @St.put.eq_2) ∧ ((type_of% @argTm.eq_1) ∧ (type_of% @argTm.eq_2)))) ∧ (((type_of% @tget.eq_1) ∧ ((type_of% @tget.eq_2) ∧ (type_of% @binC.eq_1))) ∧ ((type_of% @binC.eq_2) ∧ ((type_of% @binC.eq_3) ∧ (type_of% @binC.eq_4)))))))) ∧ (((((((type_of% @binC.eq_5) ∧ (type_of% @binC.eq_6)) ∧ ((type_of% @binC.eq_7) ∧ ((type_of% @binC.eq_8) ∧ (type_of% @binC.eq_9)))) ∧ (((type_of% @binInt.eq_1) ∧ ((type_of% @binInt.eq_2) ∧ (type_of% @binInt.eq_3))) ∧ ((type_of% @binInt.eq_4) ∧ ((type_of% @binInt.eq_5) ∧ (type_of% @binInt.eq_6))))) ∧ ((((type_of% @binInt.eq_7) ∧ ((type_of% @binInt.eq_8) ∧ (type_of% @binInt.eq_9))) ∧ ((type_of% @binInt.eq_10) ∧ ((type_of% @binInt.eq_11) ∧ (type_of% @binInt.eq_12)))) ∧ (((type_of% @binInt.eq_13) ∧ ((type_of% @binInt.eq_14) ∧ (type_of% @binInt.eq_15))) ∧ ((type_of% @binInt.eq_16) ∧ ((type_of% @eqC.eq_1) ∧ (type_of% @eqC.eq_2)))))) ∧ (((((type_of% @eqC.eq_3) ∧ (type_of% @eqC.eq_4)) ∧ ((type_of% @eqC.eq_5) ∧ ((type_of% @eqC.eq_6) ∧ (type_of% @eqC.eq_7)))) ∧ (((type_of% @eqC.eq_8) ∧ ((type_of% @eqC.eq_9) ∧ (type_of% @eqC.eq_10))) ∧ ((type_of% @eqC.eq_11) ∧ ((type_of% @eqC.eq_12) ∧ (type_of% @eqC.eq_13))))) ∧ ((((type_of% @isConst.eq_1) ∧ ((type_of% @isConst.eq_2) ∧ (type_of% @sliceC.eq_1))) ∧ ((type_of% @sliceC.eq_2) ∧ ((type_of% @sliceC.eq_3) ∧ (type_of% @sliceC.eq_4)))) ∧ (((type_of% @sliceC.eq_5) ∧ ((type_of% @sliceC.eq_6) ∧ (type_of% @bndsC.eq_1))) ∧ ((type_of% @bndsC.eq_2) ∧ ((type_of% @bnd.eq_1) ∧ (type_of% @bnd.eq_2))))))) ∧ ((((((type_of% @bnd.eq_3) ∧ (type_of% @indexAddrC.eq_1)) ∧ ((type_of% @indexAddrC.eq_2) ∧ ((type_of% @indexAddrC.eq_3) ∧ (type_of% @indexAddrC.eq_4)))) ∧ (((type_of% @indexC.eq_1) ∧ ((type_of% @indexC.eq_2) ∧ (type_of% @indexC.eq_3))) ∧ ((type_of% @indexC.eq_4) ∧ ((type_of% @buildInts.eq_1) ∧ (type_of% @buildInts.eq_2))))) ∧ ((((type_of% @buildInts.eq_3) ∧ ((type_of% @buildVals.eq_1) ∧ (type_of% @buildVals.eq_2))) ∧ ((type_of% @buildCells.eq_1) ∧ ((type_of% @lenC.eq_1) ∧ (type_of% @lenC.eq_2)))) ∧ (((type_of% @lenC.eq_3) ∧ ((type_of% @lenC.eq_4) ∧ (type_of% @lenC.eq_5))) ∧ ((type_of% @capC.eq_1) ∧ ((type_of% @capC.eq_2) ∧ (type_of% @capC.eq_3)))))) ∧ (((((type_of% @readC.eq_1) ∧ (type_of% @readC.eq_2)) ∧ ((type_of% @readC.eq_3) ∧ ((type_of% @readC.eq_4) ∧ (type_of% @readC.eq_5)))) ∧ (((type_of% @strC.eq_1) ∧ ((type_of% @strC.eq_2) ∧ (type_of% @strC.eq_3))) ∧ ((type_of% @effC.eq_1) ∧ ((type_of% @effC.eq_2) ∧ (type_of% @effC.eq_3))))) ∧ ((((type_of% @effC.eq_4) ∧ ((type_of% @effC.eq_5) ∧ (type_of% @effC.eq_6))) ∧ ((type_of% @effC.eq_7) ∧ ((type_of% @effC.eq_8) ∧ (type_of% @effC.eq_9)))) ∧ (((type_of% @effC.eq_10) ∧ ((type_of% @effC.eq_11) ∧ (type_of% @effC.eq_12))) ∧ ((type_of% @effC.eq_13) ∧ ((type_of% @boxRow.eq_1) ∧ (type_of% @boxRow.eq_2))))))))) ∧ ((((((((type_of% @boxRow.eq_3) ∧ (type_of% @boxRow.eq_4)) ∧ ((type_of% @buildSliceC.eq_1) ∧ ((type_of% @makeSliceC.eq_1) ∧ (type_of% @makeSliceC.eq_2)))) ∧ (((type_of% @storeC.eq_1) ∧ ((type_of% @storeC.eq_2) ∧ (type_of% @storeRow.eq_1))) ∧ ((type_of% @storeRow.eq_2) ∧ ((type_of% @storeRow.eq_3) ∧ (type_of% @storeRow.eq_4))))) ∧ ((((type_of% @storeRow.eq_5) ∧ ((type_of% @appendC.eq_1) ∧ (type_of% @appendZC.eq_1))) ∧ ((type_of% @copyC.eq_1) ∧ ((type_of% @look.eq_1) ∧ (type_of% @look.eq_2)))) ∧ (((type_of% @Row.sub.eq_1) ∧ ((type_of% @Row.sub.eq_2) ∧ (type_of% @Row.sub.eq_3))) ∧ ((type_of% @Row.sub.eq_4) ∧ ((type_of% @Row.subN.eq_1) ∧ (type_of% @Row.subN.eq_2)))))) ∧ (((((type_of% @Row.subN.eq_3) ∧ (type_of% @Row.subN.eq_4)) ∧ ((type_of% @Row.cell.eq_1) ∧ ((type_of% @Row.cell.eq_2) ∧ (type_of% @Row.cell.eq_3)))) ∧ (((type_of% @Row.cell.eq_4) ∧ ((type_of% @Row.len.eq_1) ∧ (type_of% @Row.len.eq_2))) ∧ ((type_of% @Row.len.eq_3) ∧ ((type_of% @Row.len.eq_4) ∧ (type_of% @sizeV.eq_1))))) ∧ ((((type_of% @sizeV.eq_2) ∧ ((type_of% @sizeV.eq_3) ∧ (type_of% @isAggT.eq_1))) ∧ ((type_of% @Row.map.eq_1) ∧ ((type_of% @Row.map.eq_2) ∧ (type_of% @Row.map.eq_3)))) ∧ (((type_of% @Row.map.eq_4) ∧ ((type_of% @AV.map.eq_1) ∧ (type_of% @AV.map.eq_2))) ∧ ((type_of% @AV.map.eq_3) ∧ ((type_of% @AV.map.eq_4) ∧ (type_of% @AV.map.eq_5))))))) ∧ ((((((type_of% @AV.map.eq_6) ∧ (type_of% @AV.map.eq_7)) ∧ ((type_of% @AV.map.eq_8) ∧ ((type_of% @AV.map.eq_9) ∧ (type_of% @AV.map.eq_10)))) ∧ (((type_of% @AV.map.eq_11) ∧ ((type_of% @AV.map.eq_12) ∧ (type_of% @AV.map.eq_13))) ∧ ((type_of% @AV.map.eq_14) ∧ ((type_of% @AV.map.eq_15) ∧ (type_of% @AV.map.eq_16))))) ∧ ((((type_of% @AV.map.eq_17) ∧ ((type_of% @AV.map.eq_18) ∧ (type_of% @AV.mapL.eq_1))) ∧ ((type_of% @AV.mapL.eq_2) ∧ ((type_of% @down.eq_1) ∧ (type_of% @down.eq_2)))) ∧ (((type_of% @intsOf.eq_1) ∧ ((type_of% @intsOf.eq_2) ∧ (type_of% @intsOf.eq_3))) ∧ ((type_of% @intsOf.eq_4) ∧ ((type_of% @rowCat.eq_1) ∧ (type_of% @rowCat.eq_2)))))) ∧ (((((type_of% @rowCat.eq_3) ∧ (type_of% @Row.subR.eq_1)) ∧ ((type_of% @Row.subR.eq_2) ∧ ((type_of% @Row.subR.eq_3) ∧ (type_of% @Row.subR.eq_4)))) ∧ (((type_of% @Row.hot.eq_1) ∧ ((type_of% @Row.hot.eq_2) ∧ (type_of% @Row.hot.eq_3))) ∧ ((type_of% @convC.eq_1) ∧ ((type_of% @convC.eq_2) ∧ (type_of% @spliceR.eq_1))))) ∧ ((((type_of% @spliceR.eq_2) ∧ ((type_of% @spliceR.eq_3) ∧ (type_of% @scalar.eq_1))) ∧ ((type_of% @scalar.eq_2) ∧ ((type_of% @scalar.eq_3) ∧ (type_of% @scalar.eq_4)))) ∧ (((type_of% @scalar.eq_5) ∧ ((type_of% @Row.flat.eq_1) ∧ (type_of% @Row.flat.eq_2))) ∧ ((type_of% @lookupC.eq_1) ∧ ((type_of% @mlenC.eq_1) ∧ (type_of% @mlenC.eq_2)))))))) ∧ (((((((type_of% @mlenC.eq_3) ∧ (type_of% @okV.eq_1)) ∧ ((type_of% @okV.eq_2) ∧ ((type_of% @mapUpdateC.eq_1) ∧ (type_of% @deleteC.eq_1)))) ∧ (((type_of% @rangeC.eq_1) ∧ ((type_of% @rangeC.eq_2) ∧ (type_of% @nextC.eq_1))) ∧ ((type_of% @nextC.eq_2) ∧ ((type_of% @entryC.eq_1) ∧ (type_of% @entryC.eq_2))))) ∧ ((((type_of% @clearC.eq_1) ∧ ((type_of% @buildWide.eq_1) ∧ (type_of% @buildWide.eq_2))) ∧ ((type_of% @buildWideC.eq_1) ∧ ((type_of% @sview.eq_1) ∧ (type_of% @sview.eq_2)))) ∧ (((type_of% @sview.eq_3) ∧ ((type_of% @wideL.eq_1) ∧ (type_of% @wideL.eq_2))) ∧ ((type_of% @wideL.eq_3) ∧ ((type_of% @if_true.{1}) ∧ (type_of% @if_false.{1})))))) ∧ (((((type_of% @true_imp_iff) ∧ (type_of% @false_imp_iff)) ∧ ((type_of% @true_and) ∧ ((type_of% @and_true) ∧ (type_of% @Bool.or_false)))) ∧ (((type_of% @Bool.false_or) ∧ ((type_of% @Bool.or_true) ∧ (type_of% @Bool.true_or))) ∧ ((type_of% @Bool.false_eq_true) ∧ ((type_of% @List.map_cons.{0, 0}) ∧ (type_of% @List.map_nil.{0, 0}))))) ∧ ((((type_of% @List.append_nil.{0}) ∧ ((type_of% @List.nil_append.{0}) ∧ (type_of% @List.cons_append.{0}))) ∧ ((type_of% @List.length_cons.{0}) ∧ ((type_of% @List.length_nil.{0}) ∧ (type_of% @List.length_append.{0})))) ∧ (((type_of% @List.length_set.{0}) ∧ ((type_of% @List.length_replicate.{0}) ∧ (type_of% @List.replicate_zero.{0}))) ∧ ((type_of% @List.replicate_one.{0}) ∧ ((type_of% @rep2) ∧ (type_of% @rep3))))))) ∧ ((((((type_of% @List.getElem?_cons_zero.{0}) ∧ (type_of% @List.getD_cons_zero.{0})) ∧ ((type_of% @List.getD_cons_succ.{0}) ∧ ((type_of% @List.getElem?_cons_succ.{0}) ∧ (type_of% @List.set_cons_zero.{0})))) ∧ (((type_of% @List.set_cons_succ.{0}) ∧ ((type_of% @Option.map_some.{0, 0}) ∧ (type_of% @Option.map_none.{0, 0}))) ∧ ((type_of% @Option.join_some.{0}) ∧ ((type_of% @Option.isSome_some.{0}) ∧ (type_of% @Option.isSome_none.{0}))))) ∧ ((((type_of% @Option.isNone_none.{0}) ∧ ((type_of% @Int.cast_ofNat_Int) ∧ (type_of% @Int.toNat_natCast))) ∧ ((type_of% @Int.toNat_zero) ∧ ((type_of% @Int.toNat_one) ∧ (type_of% @Nat.zero_add)))) ∧ (((type_of% @Nat.add_zero) ∧ ((type_of% @Nat.mul_one) ∧ (type_of% @Nat.one_mul))) ∧ ((type_of% @Nat.zero_mul) ∧ ((type_of% @ne_eq.{1}) ∧ (type_of% @not_false_eq_true)))))) ∧ (((((type_of% @and_self) ∧ (type_of% @bne_self_eq_false.{0})) ∧ ((type_of% @not_true_eq_false) ∧ ((type_of% @not_false_eq_true) ∧ (type_of% @beq_self_eq_true.{0})))) ∧ (((type_of% @decide_true) ∧ ((type_of% @decide_false) ∧ (type_of% @decide_eq_true_eq))) ∧ ((type_of% @decide_eq_false_iff_not) ∧ ((type_of% @Bool.true_eq_false) ∧ (type_of% @Bool.not_true))))) ∧ ((((type_of% @Bool.not_false) ∧ ((type_of% @beq_iff_eq.{0}) ∧ (type_of% @bne_iff_ne.{0}))) ∧ ((type_of% @Nat.le_refl) ∧ ((type_of% @Nat.lt_irrefl) ∧ (type_of% @List.map_map.{0, 0, 0})))) ∧ (((type_of% @mapL_flat) ∧ ((type_of% @mapL_flat1) ∧ (type_of% @allL_flat))) ∧ ((type_of% @allL_flat1) ∧ ((type_of% @solidL_flat) ∧ (type_of% @flatI_len)))))))))) := ⟨⟨⟨⟨⟨⟨⟨⟨@st_nil, @st_pure⟩, ⟨@st_read, ⟨@st_eff, @st_gpure⟩⟩⟩, ⟨⟨@st_gread, ⟨@st_geff, @st_gcall⟩⟩, ⟨@st_gquiet, ⟨@st_gmcall, @sp_gmcall⟩⟩⟩⟩, ⟨⟨⟨@sp_nil, @sp_pure⟩, ⟨@sp_read, ⟨@sp_eff, @sp_two⟩⟩⟩, ⟨⟨@sp_three, ⟨@sp_four, @sp_gpure⟩⟩, ⟨@sp_gread, ⟨@sp_geff, @sp_gcall⟩⟩⟩⟩⟩, ⟨⟨⟨⟨@sp_gquiet, @guardC_n⟩, ⟨@guardC_tt, ⟨@guardC_tf, @guardC_ft⟩⟩⟩, ⟨⟨@guardC_ff, ⟨@putK_f, @putK_t⟩⟩, ⟨@putK_ff, ⟨@putK_d, @putK_e⟩⟩⟩⟩, ⟨⟨⟨@putK_n, ⟨@putK_l, @putK_nb⟩⟩, ⟨@putK_i, ⟨@pickK_t, @pickK_f⟩⟩⟩, ⟨⟨@pickK_d, ⟨@pickK_e, @pickK_n⟩⟩, ⟨@pickK_l, ⟨@pickK_b, @effK.eq_1⟩⟩⟩⟩⟩⟩, ⟨⟨⟨⟨⟨@pureC_un, @unC_b⟩, ⟨@unC_n, ⟨@unC_x, @pureC.eq_1⟩⟩⟩, ⟨⟨@pureC.eq_2, ⟨@pureC.eq_3, @pureC.eq_4⟩⟩, ⟨@pureC.eq_9, ⟨@pureC.eq_10, @pureC.eq_11⟩⟩⟩⟩, ⟨⟨⟨@pureC.eq_12, ⟨@pureC.eq_13, @pureC.eq_14⟩⟩, ⟨@pureC.eq_15, ⟨@pureC.eq_16, @pureC.eq_17⟩⟩⟩, ⟨⟨@pureC.eq_18, ⟨@pureC.eq_19, @pureC.eq_20⟩⟩, ⟨@pureC.eq_21, ⟨@pureC.eq_22, @pureC.eq_23⟩⟩⟩⟩⟩, ⟨⟨⟨⟨@ev.eq_1, @ev.eq_2⟩, ⟨@ev.eq_3, ⟨@ev.eq_4, @ofV.eq_1⟩⟩⟩, ⟨⟨@ofV.eq_2, ⟨@ofV.eq_3, @ofV.eq_4⟩⟩, ⟨@ofV.eq_5, ⟨@ofV.eq_6, @ofV.eq_7⟩⟩⟩⟩, ⟨⟨⟨@ofV.eq_8, ⟨@ofV.eq_9, @St.put.eq_1⟩⟩, ⟨@St.put.eq_2, ⟨@argTm.eq_1, @argTm.eq_2⟩⟩⟩, ⟨⟨@tget.eq_1, ⟨@tget.eq_2, @binC.eq_1⟩⟩, ⟨@binC.eq_2, ⟨@binC.eq_3, @binC.eq_4⟩⟩⟩⟩⟩⟩⟩, ⟨⟨⟨⟨⟨⟨@binC.eq_5, @binC.eq_6⟩, ⟨@binC.eq_7, ⟨@binC.eq_8, @binC.eq_9⟩⟩⟩, ⟨⟨@binInt.eq_1, ⟨@binInt.eq_2, @binInt.eq_3⟩⟩, ⟨@binInt.eq_4, ⟨@binInt.eq_5, @binInt.eq_6⟩⟩⟩⟩, ⟨⟨⟨@binInt.eq_7, ⟨@binInt.eq_8, @binInt.eq_9⟩⟩, ⟨@binInt.eq_10, ⟨@binInt.eq_11, @binInt.eq_12⟩⟩⟩, ⟨⟨@binInt.eq_13, ⟨@binInt.eq_14, @binInt.eq_15⟩⟩, ⟨@binInt.eq_16, ⟨@eqC.eq_1, @eqC.eq_2⟩⟩⟩⟩⟩, ⟨⟨⟨⟨@eqC.eq_3, @eqC.eq_4⟩, ⟨@eqC.eq_5, ⟨@eqC.eq_6, @eqC.eq_7⟩⟩⟩, ⟨⟨@eqC.eq_8, ⟨@eqC.eq_9, @eqC.eq_10⟩⟩, ⟨@eqC.eq_11, ⟨@eqC.eq_12, @eqC.eq_13⟩⟩⟩⟩, ⟨⟨⟨@isConst.eq_1, ⟨@isConst.eq_2, @sliceC.eq_1⟩⟩, ⟨@sliceC.eq_2, ⟨@sliceC.eq_3, @sliceC.eq_4⟩⟩⟩, ⟨⟨@sliceC.eq_5, ⟨@sliceC.eq_6, @bndsC.eq_1⟩⟩, ⟨@bndsC.eq_2, ⟨@bnd.eq_1, @bnd.eq_2⟩⟩⟩⟩⟩⟩, ⟨⟨⟨⟨⟨@bnd.eq_3, @indexAddrC.eq_1⟩, ⟨@indexAddrC.eq_2, ⟨@indexAddrC.eq_3, @indexAddrC.eq_4⟩⟩⟩, ⟨⟨@indexC.eq_1, ⟨@indexC.eq_2, @indexC.eq_3⟩⟩, ⟨@indexC.eq_4, ⟨@buildInts.eq_1, @buildInts.eq_2⟩⟩⟩⟩, ⟨⟨⟨@buildInts.eq_3, ⟨@buildVals.eq_1, @buildVals.eq_2⟩⟩, ⟨@buildCells.eq_1, ⟨@lenC.eq_1, @lenC.eq_2⟩⟩⟩, ⟨⟨@lenC.eq_3, ⟨@lenC.eq_4, @lenC.eq_5⟩⟩, ⟨@capC.eq_1, ⟨@capC.eq_2, @capC.eq_3⟩⟩⟩⟩⟩, ⟨⟨⟨⟨@readC.eq_1, @readC.eq_2⟩, ⟨@readC.eq_3, ⟨@readC.eq_4, @readC.eq_5⟩⟩⟩, ⟨⟨@strC.eq_1, ⟨@strC.eq_2, @strC.eq_3⟩⟩, ⟨@effC.eq_1, ⟨@effC.eq_2, @effC.eq_3⟩⟩⟩⟩, ⟨⟨⟨@effC.eq_4, ⟨@effC.eq_5, @effC.eq_6⟩⟩, ⟨@effC.eq_7, ⟨@effC.eq_8, @effC.eq_9⟩⟩⟩, ⟨⟨@effC.eq_10, ⟨@effC.eq_11, @effC.eq_12⟩⟩, ⟨@effC.eq_13, ⟨@boxRow.eq_1, @boxRow.eq_2⟩⟩⟩⟩⟩⟩⟩⟩, ⟨⟨⟨⟨⟨⟨⟨@boxRow.eq_3, @boxRow.eq_4⟩, ⟨@buildSliceC.eq_1, ⟨@makeSliceC.eq_1, @makeSliceC.eq_2⟩⟩⟩, ⟨⟨@storeC.eq_1, ⟨@storeC.eq_2, @storeRow.eq_1⟩⟩, ⟨@storeRow.eq_2, ⟨@storeRow.eq_3, @storeRow.eq_4⟩⟩⟩⟩, ⟨⟨⟨@storeRow.eq_5, ⟨@appendC.eq_1, @appendZC.eq_1⟩⟩, ⟨@copyC.eq_1, ⟨@look.eq_1, @look.eq_2⟩⟩⟩, ⟨⟨@Row.sub.eq_1, ⟨@Row.sub.eq_2, @Row.sub.eq_3⟩⟩, ⟨@Row.sub.eq_4, ⟨@Row.subN.eq_1, @Row.subN.eq_2⟩⟩⟩⟩⟩, ⟨⟨⟨⟨@Row.subN.eq_3, @Row.subN.eq_4⟩, ⟨@Row.cell.eq_1, ⟨@Row.cell.eq_2, @Row.cell.eq_3⟩⟩⟩, ⟨⟨@Row.cell.eq_4, ⟨@Row.len.eq_1, @Row.len.eq_2⟩⟩, ⟨@Row.len.eq_3, ⟨@Row.len.eq_4, @sizeV.eq_1⟩⟩⟩⟩, ⟨⟨⟨@sizeV.eq_2, ⟨@sizeV.eq_3, @isAggT.eq_1⟩⟩, ⟨@Row.map.eq_1, ⟨@Row.map.eq_2, @Row.map.eq_3⟩⟩⟩, ⟨⟨@Row.map.eq_4, ⟨@AV.map.eq_1, @AV.map.eq_2⟩⟩, ⟨@AV.map.eq_3, ⟨@AV.map.eq_4, @AV.map.eq_5⟩⟩⟩⟩⟩⟩, ⟨⟨⟨⟨⟨@AV.map.eq_6, @AV.map.eq_7⟩, ⟨@AV.map.eq_8, ⟨@AV.map.eq_9, @AV.map.eq_10⟩⟩⟩, ⟨⟨@AV.map.eq_11, ⟨@AV.map.eq_12, @AV.map.eq_13⟩⟩, ⟨@AV.map.eq_14, ⟨@AV.map.eq_15, @AV.map.eq_16⟩⟩⟩⟩, ⟨⟨⟨@AV.map.eq_17, ⟨@AV.map.eq_18, @AV.mapL.eq_1⟩⟩, ⟨@AV.mapL.eq_2, ⟨@down.eq_1, @down.eq_2⟩⟩⟩, ⟨⟨@intsOf.eq_1, ⟨@intsOf.eq_2, @intsOf.eq_3⟩⟩, ⟨@intsOf.eq_4, ⟨@rowCat.eq_1, @rowCat.eq_2⟩⟩⟩⟩⟩, ⟨⟨⟨⟨@rowCat.eq_3, @Row.subR.eq_1⟩, ⟨@Row.subR.eq_2, ⟨@Row.subR.eq_3, @Row.subR.eq_4⟩⟩⟩, ⟨⟨@Row.hot.eq_1, ⟨@Row.hot.eq_2, @Row.hot.eq_3⟩⟩, ⟨@convC.eq_1, ⟨@convC.eq_2, @spliceR.eq_1⟩⟩⟩⟩, ⟨⟨⟨@spliceR.eq_2, ⟨@spliceR.eq_3, @scalar.eq_1⟩⟩, ⟨@scalar.eq_2, ⟨@scalar.eq_3, @scalar.eq_4⟩⟩⟩, ⟨⟨@scalar.eq_5, ⟨@Row.flat.eq_1, @Row.flat.eq_2⟩⟩, ⟨@lookupC.eq_1, ⟨@mlenC.eq_1, @mlenC.eq_2⟩⟩⟩⟩⟩⟩⟩, ⟨⟨⟨⟨⟨⟨@mlenC.eq_3, @okV.eq_1⟩, ⟨@okV.eq_2, ⟨@mapUpdateC.eq_1, @deleteC.eq_1⟩⟩⟩, ⟨⟨@rangeC.eq_1, ⟨@rangeC.eq_2, @nextC.eq_1⟩⟩, ⟨@nextC.eq_2, ⟨@entryC.eq_1, @entryC.eq_2⟩⟩⟩⟩, ⟨⟨⟨@clearC.eq_1, ⟨@buildWide.eq_1, @buildWide.eq_2⟩⟩, ⟨@buildWideC.eq_1, ⟨@sview.eq_1, @sview.eq_2⟩⟩⟩, ⟨⟨@sview.eq_3, ⟨@wideL.eq_1, @wideL.eq_2⟩⟩, ⟨@wideL.eq_3, ⟨@if_true.{1}, @if_false.{1}⟩⟩⟩⟩⟩, ⟨⟨⟨⟨@true_imp_iff, @false_imp_iff⟩, ⟨@true_and, ⟨@and_true, @Bool.or_false⟩⟩⟩, ⟨⟨@Bool.false_or, ⟨@Bool.or_true, @Bool.true_or⟩⟩, ⟨@Bool.false_eq_true, ⟨@List.map_cons.{0, 0}, @List.map_nil.{0, 0}⟩⟩⟩⟩, ⟨⟨⟨@List.append_nil.{0}, ⟨@List.nil_append.{0}, @List.cons_append.{0}⟩⟩, ⟨@List.length_cons.{0}, ⟨@List.length_nil.{0}, @List.length_append.{0}⟩⟩⟩, ⟨⟨@List.length_set.{0}, ⟨@List.length_replicate.{0}, @List.replicate_zero.{0}⟩⟩, ⟨@List.replicate_one.{0}, ⟨@rep2, @rep3⟩⟩⟩⟩⟩⟩, ⟨⟨⟨⟨⟨@List.getElem?_cons_zero.{0}, @List.getD_cons_zero.{0}⟩, ⟨@List.getD_cons_succ.{0}, ⟨@List.getElem?_cons_succ.{0}, @List.set_cons_zero.{0}⟩⟩⟩, ⟨⟨@List.set_cons_succ.{0}, ⟨@Option.map_some.{0, 0}, @Option.map_none.{0, 0}⟩⟩, ⟨@Option.join_some.{0}, ⟨@Option.isSome_some.{0}, @Option.isSome_none.{0}⟩⟩⟩⟩, ⟨⟨⟨@Option.isNone_none.{0}, ⟨@Int.cast_ofNat_Int, @Int.toNat_natCast⟩⟩, ⟨@Int.toNat_zero, ⟨@Int.toNat_one, @Nat.zero_add⟩⟩⟩, ⟨⟨@Nat.add_zero, ⟨@Nat.mul_one, @Nat.one_mul⟩⟩, ⟨@Nat.zero_mul, ⟨@ne_eq.{1}, @not_false_eq_true⟩⟩⟩⟩⟩, ⟨⟨⟨⟨@and_self, @bne_self_eq_false.{0}⟩, ⟨@not_true_eq_false, ⟨@not_false_eq_true, @beq_self_eq_true.{0}⟩⟩⟩, ⟨⟨@decide_true, ⟨@decide_false, @decide_eq_true_eq⟩⟩, ⟨@decide_eq_false_iff_not, ⟨@Bool.true_eq_false, @Bool.not_true⟩⟩⟩⟩, ⟨⟨⟨@Bool.not_false, ⟨@beq_iff_eq.{0}, @bne_iff_ne.{0}⟩⟩, ⟨@Nat.le_refl, ⟨@Nat.lt_irrefl, @List.map_map.{0, 0, 0}⟩⟩⟩, ⟨⟨@mapL_flat, ⟨@mapL_flat1, @allL_flat⟩⟩, ⟨@allL_flat1, ⟨@solidL_flat, @flatI_len⟩⟩⟩⟩⟩⟩⟩⟩⟩
/-- The lemmas of the numbers, as one. -/
theorem aT : ((((type_of% @tn_add) ∧ ((type_of% @tn_mul) ∧ (type_of% @tn_sub))) ∧ (((type_of% @tn_div) ∧ (type_of% @tn_mod)) ∧ ((type_of% @Int.toNat_natCast) ∧ (type_of% @wrap_i64')))) ∧ ((((type_of% @wrap_u64') ∧ (type_of% @wrap_u32')) ∧ ((type_of% @wrap_u8') ∧ (type_of% @Int.tmod_eq_emod_of_nonneg))) ∧ (((type_of% @Int.tdiv_eq_ediv_of_nonneg) ∧ (type_of% @sub_one)) ∧ ((type_of% @sub_all) ∧ (type_of% @splice_all))))) := ⟨⟨⟨@tn_add, ⟨@tn_mul, @tn_sub⟩⟩, ⟨⟨@tn_div, @tn_mod⟩, ⟨@Int.toNat_natCast, @wrap_i64'⟩⟩⟩, ⟨⟨⟨@wrap_u64', @wrap_u32'⟩, ⟨@wrap_u8', @Int.tmod_eq_emod_of_nonneg⟩⟩, ⟨⟨@Int.tdiv_eq_ediv_of_nonneg, @sub_one⟩, ⟨@sub_all, @splice_all⟩⟩⟩⟩
end Go.Proofs.Ytopiceaeombefaa.Sy
