/- The library's sort, laid at this program (written by a tool of the kit), and its comparing; nodes sorted. -/
import Derived.Test.YtopiceaeombefaaKey5
import Derived.Shelf.SlSortCmp.WholeK
namespace Go.Proofs.Ytopiceaeombefaa
open Go Go.Proofs.Ytopiceaeombefaa.Sy Go.Shelf Go.RowKit Go.Lib Go.Sort
set_option linter.unusedSimpArgs false
set_option linter.unusedVariables false
set_option maxRecDepth 100000
set_option maxHeartbeats 1000000

def sortH_ren : Go.Shelf.Ren := ⟨fun | 6 => 31 | 15 => 54 | 14 => 53 | 28 => 77 | 29 => 78 | 20 => 69 | 21 => 70 | 22 => 71 | 23 => 72 | 24 => 73 | 25 => 74 | 26 => 75 | 27 => 76 | 46 => 90 | 47 => 91 | 48 => 92 | 49 => 93 | 50 => 94 | 57 => 102 | n => n, fun | 22 => 90 | 24 => 89 | 25 => 103 | 3 => 3 | 39 => 138 | 0 => 0 | 53 => 95 | 55 => 29 | 4 => 4 | 46 => 154 | 45 => 153 | 50 => 97 | 5 => 5 | 9 => 9 | 66 => 175 | 70 => 179 | 76 => 186 | 77 => 187 | n => n, fun | n => n⟩
theorem sortH : Go.Proofs.SlLaysF0.n6 Try.prog sortH_ren := {
  mixed := by kernel_rfl,
  f6 := ⟨Try.f31.name, by decide, Try.func31.trans (congrArg some (by kernel_rfl))⟩,
  f14 := ⟨Try.f53.name, by decide, Try.func53.trans (congrArg some (by kernel_rfl))⟩,
  f15 := Try.func54.trans (congrArg some (by kernel_rfl)),
  f20 := ⟨Try.f69.name, by decide, Try.func69.trans (congrArg some (by kernel_rfl))⟩,
  f21 := ⟨Try.f70.name, by decide, Try.func70.trans (congrArg some (by kernel_rfl))⟩,
  f22 := ⟨Try.f71.name, by decide, Try.func71.trans (congrArg some (by kernel_rfl))⟩,
  f23 := ⟨Try.f72.name, by decide, Try.func72.trans (congrArg some (by kernel_rfl))⟩,
  f24 := ⟨Try.f73.name, by decide, Try.func73.trans (congrArg some (by kernel_rfl))⟩,
  f25 := ⟨Try.f74.name, by decide, Try.func74.trans (congrArg some (by kernel_rfl))⟩,
  f26 := ⟨Try.f75.name, by decide, Try.func75.trans (congrArg some (by kernel_rfl))⟩,
  f27 := ⟨Try.f76.name, by decide, Try.func76.trans (congrArg some (by kernel_rfl))⟩,
  f28 := Try.func77.trans (congrArg some (by kernel_rfl)),
  f29 := Try.func78.trans (congrArg some (by kernel_rfl)),
  f46 := ⟨Try.f90.name, by decide, Try.func90.trans (congrArg some (by kernel_rfl))⟩,
  f47 := Try.func91.trans (congrArg some (by kernel_rfl)),
  f48 := Try.func92.trans (congrArg some (by kernel_rfl)),
  f49 := ⟨Try.f93.name, by decide, Try.func93.trans (congrArg some (by kernel_rfl))⟩,
  f50 := ⟨Try.f94.name, by decide, Try.func94.trans (congrArg some (by kernel_rfl))⟩,
  f57 := ⟨Try.f102.name, by decide, Try.func102.trans (congrArg some (by kernel_rfl))⟩,
  t0 := Try.underlying0,
  a0 := Try.isAgg0,
  z0 := Try.sizeOf0,
  v0 := Try.zeroValue0,
  t3 := Try.underlying3,
  a3 := Try.isAgg3,
  z3 := Try.sizeOf3,
  v3 := Try.zeroValue3,
  t4 := Try.underlying4,
  a4 := Try.isAgg4,
  z4 := Try.sizeOf4,
  v4 := Try.zeroValue4,
  t5 := Try.underlying5,
  a5 := Try.isAgg5,
  z5 := Try.sizeOf5,
  v5 := Try.zeroValue5,
  t9 := Try.underlying9,
  a9 := Try.isAgg9,
  z9 := Try.sizeOf9,
  v9 := Try.zeroValue9,
  t22 := Try.underlying90,
  a22 := Try.isAgg90,
  z22 := Try.sizeOf90,
  v22 := Try.zeroValue90,
  t25 := Try.underlying103,
  a25 := Try.isAgg103,
  z25 := Try.sizeOf103,
  v25 := Try.zeroValue103,
  t39 := Try.underlying138,
  a39 := Try.isAgg138,
  z39 := Try.sizeOf138,
  v39 := Try.zeroValue138,
  t45 := Try.underlying153,
  a45 := Try.isAgg153,
  z45 := Try.sizeOf153,
  v45 := Try.zeroValue153,
  t46 := Try.underlying154,
  a46 := Try.isAgg154,
  z46 := Try.sizeOf154,
  v46 := Try.zeroValue154,
  t50 := Try.underlying97,
  a50 := Try.isAgg97,
  z50 := Try.sizeOf97,
  v50 := Try.zeroValue97,
  t53 := Try.underlying95,
  a53 := Try.isAgg95,
  z53 := Try.sizeOf95,
  v53 := Try.zeroValue95,
  t55 := Try.underlying29,
  a55 := Try.isAgg29,
  z55 := Try.sizeOf29,
  v55 := Try.zeroValue29,
  t66 := Try.underlying175,
  a66 := Try.isAgg175,
  z66 := Try.sizeOf175,
  v66 := Try.zeroValue175,
  t70 := Try.underlying179,
  a70 := Try.isAgg179,
  z70 := Try.sizeOf179,
  v70 := Try.zeroValue179,
  t76 := Try.underlying186,
  a76 := Try.isAgg186,
  z76 := Try.sizeOf186,
  v76 := Try.zeroValue186,
  t77 := Try.underlying187,
  a77 := Try.isAgg187,
  z77 := Try.sizeOf187,
  v77 := Try.zeroValue187 }
theorem nan55 (x : Int) (w : World) : Calls Try.prog 55 #[.int .u64 x] w fun e w' => e = .returned (.bool false) ∧ w' = w := by
  go_enter Try.func55, Try.ntmps55
  go_wp2
  go_ret
  exact ⟨rfl, rfl⟩
theorem cmp33 (x y : Int) (w : World) : Calls Try.prog 33 #[.int .u64 x, .int .u64 y] w fun e w' => e = .returned (.int .i64 (cmpI x y)) ∧ w' = w := by
  have h1 := fun z W => nan55 z W
  go_enter Try.func33, Try.ntmps33
  go_wp2_with (go_at_call 55; refine (h1 _ _).mono ?_; rintro e w' ⟨rfl, rfl⟩)
  all_goals (go_ret; refine ⟨?_, rfl⟩; unfold cmpI; (repeat' split) <;> first | rfl | (exfalso; omega))
/-- A node's cells, as values. -/
structure HV where
  d : Int
  a : Int
  s : Nat → Int
instance : Inhabited HV := ⟨⟨0, 0, fun _ => 0⟩⟩
def encH (x : HV) : List Value := .int .i64 x.d :: .int .u64 x.a :: (List.range 32).map fun i => .int .u8 (x.s i)
theorem closure32 (x y : HV) (W : World) : Calls Try.prog 32 #[.agg (encH x).toArray, .agg (encH y).toArray] W fun e w' => e = .returned (.int .i64 (cmpI x.a y.a)) ∧ ∃ q os', w' = grow (W.drewN q) os' := by
  have hcon := fun W' => cmp33 x.a y.a W'
  generalize cmpI x.a y.a = r at hcon ⊢
  have e1 : (encH x).toArray = #[.int .i64 x.d, .int .u64 x.a, .int .u8 (x.s 0), .int .u8 (x.s 1), .int .u8 (x.s 2), .int .u8 (x.s 3), .int .u8 (x.s 4), .int .u8 (x.s 5), .int .u8 (x.s 6), .int .u8 (x.s 7), .int .u8 (x.s 8), .int .u8 (x.s 9), .int .u8 (x.s 10), .int .u8 (x.s 11), .int .u8 (x.s 12), .int .u8 (x.s 13), .int .u8 (x.s 14), .int .u8 (x.s 15), .int .u8 (x.s 16), .int .u8 (x.s 17), .int .u8 (x.s 18), .int .u8 (x.s 19), .int .u8 (x.s 20), .int .u8 (x.s 21), .int .u8 (x.s 22), .int .u8 (x.s 23), .int .u8 (x.s 24), .int .u8 (x.s 25), .int .u8 (x.s 26), .int .u8 (x.s 27), .int .u8 (x.s 28), .int .u8 (x.s 29), .int .u8 (x.s 30), .int .u8 (x.s 31)] := rfl
  have e2 : (encH y).toArray = #[.int .i64 y.d, .int .u64 y.a, .int .u8 (y.s 0), .int .u8 (y.s 1), .int .u8 (y.s 2), .int .u8 (y.s 3), .int .u8 (y.s 4), .int .u8 (y.s 5), .int .u8 (y.s 6), .int .u8 (y.s 7), .int .u8 (y.s 8), .int .u8 (y.s 9), .int .u8 (y.s 10), .int .u8 (y.s 11), .int .u8 (y.s 12), .int .u8 (y.s 13), .int .u8 (y.s 14), .int .u8 (y.s 15), .int .u8 (y.s 16), .int .u8 (y.s 17), .int .u8 (y.s 18), .int .u8 (y.s 19), .int .u8 (y.s 20), .int .u8 (y.s 21), .int .u8 (y.s 22), .int .u8 (y.s 23), .int .u8 (y.s 24), .int .u8 (y.s 25), .int .u8 (y.s 26), .int .u8 (y.s 27), .int .u8 (y.s 28), .int .u8 (y.s 29), .int .u8 (y.s 30), .int .u8 (y.s 31)] := rfl
  rw [e1, e2]
  go_enter Try.func32, Try.ntmps32
  go_wp2_with (go_at_call 33; refine (hcon _).mono ?_; rintro e w' ⟨rfl, rfl⟩)
  go_ret
  exact ⟨rfl, 0, _, by rw [alloc_eq_grow, alloc_eq_grow, grow_grow]; rfl⟩
theorem cmpLays32 (blk off size : Nat) (w : World) : CmpLays Try.prog 32 #[] encH 34 (fun x y => cmpI x.a y.a) blk off size w :=
  fun _ _ _ _ x y => closure32 x y _
theorem ltA (x y : HV) : ltOf (fun x y : HV => cmpI x.a y.a) x y = decide (x.a < y.a) := by
  unfold ltOf cmpI
  by_cases h1 : x.a < y.a
  · simp [h1]
  · by_cases h2 : y.a < x.a <;> simp [h1, h2]
theorem swoA : SWO (ltOf fun x y : HV => cmpI x.a y.a) where
  irrefl x := by rw [ltA]; simp
  trans x y z h1 h2 := by rw [ltA] at *; simp at *; omega
  ntrans x y z h1 h2 := by rw [ltA] at *; simp at *; omega
def hv (e : HN) : HV := ⟨e.d, e.a, fun i => e.s.getD i 0⟩
theorem encH_len (x : HV) : (encH x).length = 34 := by simp [encH]
theorem enc_val {ι : Type} {e : HN} (he : e.s.length = 32) {t : Nat} (ht : t < 34) : ∃ k x, (hC e : List (AV ι))[t]? = some (.int k x) ∧ (encH (hv e))[t]? = some (.int k x) := by
  match t, ht with
  | 0, _ => exact ⟨.i64, e.d, rfl, rfl⟩
  | 1, _ => exact ⟨.u64, e.a, rfl, rfl⟩
  | t + 2, ht =>
    refine ⟨.u8, e.s.getD t 0, ?_, ?_⟩
    · show (flatI .u8 e.s : List (AV ι))[t]? = _
      rw [flatI_get, List.getD_eq_getElem?_getD, List.getElem?_eq_getElem (by omega)]; rfl
    · show ((List.range 32).map fun i => Value.int .u8 ((hv e).s i))[t]? = _
      rw [List.getElem?_map, List.getElem?_range (by omega)]; rfl
theorem cells_val {ι : Type} {l : List HN} (hW : WH l) {q : Nat} (hq : q < l.length * 34) : ∃ k x, (cellsH l : List (AV ι))[q]? = some (.int k x) ∧ (flatK encH 34 (l.map hv).toArray)[q]! = .int k x := by
  have hi : q / 34 < l.length := by omega
  obtain ⟨e, he1, he2, he3, he4, he5⟩ := cellsH_at (ι := ι) hW hi
  have ht : q % 34 < 34 := by omega
  obtain ⟨k, x, h1, h2⟩ := enc_val (ι := ι) he2 ht
  refine ⟨k, x, ?_, ?_⟩
  · rw [← h1, ← he5]
    simp only [Sy.sub, List.getElem?_take_of_lt ht, List.getElem?_drop]
    congr 1; omega
  · rw [get_flatK _ _ _ _ (by simpa using hq)]
    have hd : (l.map hv).toArray[q / 34]! = hv e := by
      rw [getElem!_pos _ _ (by simpa using hi)]
      simp only [List.getElem_toArray, List.getElem_map]
      congr 1
      rw [List.getElem?_eq_getElem hi] at he1
      exact Option.some.inj he1
    rw [hd, List.getElem!_eq_getElem?_getD, h2]; rfl
theorem perm_back {β γ : Type} {f : β → γ} {a b : List γ} (h : a.Perm b) : ∀ l : List β, l.map f = a → ∃ l' : List β, l'.Perm l ∧ l'.map f = b := by
  induction h with
  | nil => intro l hl; exact ⟨l, List.Perm.refl _, hl⟩
  | cons x _ ih =>
    intro l hl
    cases l with
    | nil => cases hl
    | cons y l =>
      simp only [List.map_cons, List.cons.injEq] at hl
      obtain ⟨l', h1, h2⟩ := ih l hl.2
      exact ⟨y :: l', h1.cons y, by simp [hl.1, h2]⟩
  | swap x y r =>
    intro l hl
    match l, hl with
    | p :: q :: l, hl =>
      simp only [List.map_cons, List.cons.injEq] at hl
      exact ⟨q :: p :: l, List.Perm.swap .., by simp [hl.1, hl.2.1, hl.2.2]⟩
  | trans _ _ ih1 ih2 =>
    intro l hl
    obtain ⟨l1, h1, h2⟩ := ih1 l hl
    obtain ⟨l2, h3, h4⟩ := ih2 l1 h2
    exact ⟨l2, h3.trans h1, h4⟩
theorem ahead_kp (w : World) (n : Nat) : Kp w (Go.Sort.ahead w n) := ⟨rfl, rfl, rfl, Nat.le_refl _, fun _ _ => rfl⟩
theorem grow_kp (w : World) (os : Array Obj) : Kp w (grow w os) := ⟨rfl, rfl, rfl, by simp [grow], fun k hk => by simp [grow, Array.getElem?_append, hk]⟩
theorem putCells_get {F cs : Array Value} {q : Nat} {v : Value} (hq : q < F.size) (hs : F.size ≤ cs.size) (hv : F[q]! = v) : (putCells id 0 F cs)[q]? = some v := by
  simp only [putCells, Array.getElem?_mapIdx, Array.getElem?_eq_getElem (show q < cs.size by omega), Option.map_some, Nat.zero_add, Nat.sub_zero, id]
  rw [if_pos ⟨Nat.zero_le _, hq⟩, hv]
/-- slices.SortFunc of nodes. -/
theorem sort_ok {α : Type} (E : α → Option (Row α)) (rows : Sy.Rows α) (j : Nat) (l : List HN) (hW : WH l) (hj : rows[j]? = some (some (.mixed (cellsH l)))) (h0 : 0 < l.length) (hm : l.length < 1000) :
    FnOkP Try.prog n_slices_SortFunc_keytree_Held_keytree_Held E [.slice true (.own j) 0 l.length 34, .func n_keytree_Tree_Puncture_2 []] rows (fun res rows' => res = .tuple [] ∧ ∃ l' : List HN, rows' = rows.set j (some (.mixed (cellsH l'))) ∧ l'.Perm l ∧ l'.Pairwise fun a b => a.a ≤ b.a) := by
  refine ⟨call_slices_SortFunc_keytree_Held_keytree_Held, fun re ro w0 vs hc hs hv => ?_⟩
  have hcl := cellsH_len (ι := Sy.Id α) hW
  obtain ⟨hvl, hvv⟩ := hv
  match vs, hvl with
  | ⟨[u1, u2]⟩, _ =>
    have v1 := hvv 0 (by simp) (by simp)
    have v2 := hvv 1 (by simp) (by simp)
    simp only [List.getElem_cons_zero, List.getElem_cons_succ, List.getElem_toArray] at v1 v2
    cases v2 with
    | @func _ _ cb hl2 h2 =>
      have hcb : cb = #[] := Array.eq_empty_of_size_eq_zero (by simpa using hl2.symm)
      subst hcb
      generalize hlen : l.length = n at v1
      cases v1 with
      | empty => omega
      | @slice _ L _ _ _ _ cap a hA hcap hx hlim =>
        have ha := hx (.inl rfl)
        subst ha
        have hL : ro[j]? = some L := hA
        obtain ⟨hbase, hrl⟩ := own_len hs hj hL
        have hL0 : L.lim ≠ 0 := by simp only [Row.len, hcl] at hrl; omega
        obtain ⟨cs, ty, _, g3, g4, g5, g6⟩ := own_row hs hj hL hL0 rfl
        simp only [Row.len, hcl] at g5
        have hat : L.at 0 = ⟨L.b, 0, none⟩ := by simp [Loc.at, hbase]
        obtain ⟨d, hd⟩ : ∃ d, d = (l.map hv).toArray := ⟨_, rfl⟩
        have hds : d.size = n := by rw [hd, ← hlen]; simp
        have hcell : ∀ q, q < n * 34 → cs[q]? = some ((flatK encH 34 d)[q]!) := fun q hq => by
          obtain ⟨k, x, c1, c2⟩ := cells_val (ι := Sy.Id α) hW (q := q) (by rw [hlen]; exact hq)
          obtain ⟨u, hu, hcr⟩ := g6 q _ (by simpa only [Row.get?] using c1)
          have := hcr.1
          cases this
          rw [hu, hd, c2]
        have hH : HoldsK encH 34 w0 L.b 0 d := fun q hq => by
          have hq' : q < n * 34 := by rw [size_flatK, hds] at hq; exact hq
          refine ⟨?_, ?_⟩
          · simp only [World.cell?, g3, Nat.zero_add, Option.isSome_none, Bool.false_eq_true, if_false, id]
            exact hcell q hq'
          · simp [World.frozen?, g3]
        have hblk : L.b < w0.heap.size := (Array.getElem?_eq_some_iff.1 g3).1
        have hcon := AnyQ.slices_SortFunc sortH 34 (fun w => Try.isAgg89 w) (fun w => Try.sizeOf89 w) encH encH_len (fun x v hv => by simp only [encH, List.mem_cons, List.mem_map] at hv; rcases hv with rfl | rfl | ⟨_, _, rfl⟩ <;> rfl) (fun x y => cmpI x.a y.a) swoA 32 #[] L.b 0 cap d w0 call_keytree_Tree_Puncture_2 (cmpLays32 L.b 0 d.size w0) hH hblk (by rw [hds]; omega)
        rw [hds] at hcon
        rw [hat]
        refine hcon.mono ?_
        rintro e w' ⟨rfl, d', m, os, hp, hso, rfl⟩
        have hds' : d'.size = n := by rw [hp.1, hds]
        have hpl : (l.map hv).Perm d'.toList := by
          have h2 := hp.2.2
          rw [Array.extract_eq_self_of_le (by omega), Array.extract_eq_self_of_le (by omega), hd] at h2
          exact h2.symm
        obtain ⟨l', hl1, hl2⟩ := perm_back hpl l rfl
        have hW' : WH l' := fun e he => hW e (hl1.mem_iff.1 he)
        have hd' : d' = (l'.map hv).toArray := by rw [hl2]
        have hn' : l'.length = n := by rw [hl1.length_eq, hlen]
        have hcl' := cellsH_len (ι := Sy.Id α) hW'
        have hsrt : l'.Pairwise fun a b => a.a ≤ b.a := by
          rw [List.pairwise_iff_getElem]
          intro i k hi hk hik
          have h3 := hso i k (Nat.zero_le _) hik (by omega)
          rw [ltA, hd'] at h3
          have g : ∀ q (hq : q < l'.length), (l'.map hv).toArray[q]! = hv l'[q] := fun q hq => by
            rw [getElem!_pos _ _ (by simpa using hq)]
            simp
          rw [g i hi, g k hk] at h3
          have h4 := of_decide_eq_false h3
          simp only [hv] at h4
          omega
        have hset := (hs.kp (ahead_kp w0 m)).setRow hj hL hL0 rfl (.mixed (cellsH l')) (putCells id 0 (flatK encH 34 d') cs) (by simp [putCells, g4]) (fun q v hq => by
          have hql : q < n * 34 := by
            have := Row.get?_lt hq
            simp only [Row.len, hcl', hn'] at this
            exact this
          obtain ⟨k, x, c1, c2⟩ := cells_val (ι := Sy.Id α) hW' (q := q) (by rw [hn']; exact hql)
          simp only [Row.get?] at hq
          rw [c1] at hq
          cases hq
          exact ⟨_, putCells_get (by rw [size_flatK, hds']; exact hql) (by rw [size_flatK, hds', g4] ; omega) (by rw [hd']; exact c2), .int _ _, rfl⟩)
        have hw : sortWorldK encH 34 w0 L.b 0 m d' os = grow ((Go.Sort.ahead w0 m).setRow L.b (putCells id 0 (flatK encH 34 d') cs)) os := by
          have h5 : mapBlock (Go.Sort.ahead w0 m) L.b (putCells id 0 (flatK encH 34 d')) = (Go.Sort.ahead w0 m).setRow L.b (putCells id 0 (flatK encH 34 d') cs) := by
            rw [mapBlock_congr _ _ _ (fun _ => putCells id 0 (flatK encH 34 d') cs) (fun c e fr hh => by
              have hh2 : w0.heap[L.b]? = _ := hh
              rw [g3] at hh2
              cases hh2
              rfl)]
            unfold mapBlock World.setRow
            congr 2
          unfold sortWorldK putRowK putRow
          rw [h5]
        rw [hw]
        exact ⟨_, ro, .tuple [], _, ⟨rfl, l', rfl, hl1, hsrt⟩, rfl, .tuple rfl fun i h1 _ => absurd h1 (by simp), hset.kp (grow_kp _ os), fun _ _ h => h⟩
end Go.Proofs.Ytopiceaeombefaa
