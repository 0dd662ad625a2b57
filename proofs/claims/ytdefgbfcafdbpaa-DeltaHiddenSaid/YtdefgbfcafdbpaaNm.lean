/- The names of the functions, the steps of their regions, and facts on types, printed by a program out of the loaded program. -/
import Derived.Test.YtdefgbfcafdbpaaSyB
import Derived.Test.YtdefgbfcafdbpaaProg
import Derived.KernelRfl
namespace Go.Proofs.Ytdefgbfcafdbpaa
open Go Go.Proofs.Ytdefgbfcafdbpaa.Sy
set_option linter.unusedVariables false

/-- The types. -/
theorem ty0 : Try.prog.underlying 3 = some (.int .i64) := Try.underlying3
theorem ty1 : Try.prog.underlying 5 = some (.int .u8) := Try.underlying5
theorem ty2 : Try.prog.underlying 23 = some (.array 32 5) := Try.underlying23
theorem ty3 : Try.prog.underlying 24 = some (.array 32 5) := Try.underlying24
theorem ty4 : Try.prog.underlying 25 = some (.int .u64) := Try.underlying25
theorem ty5 : Try.prog.underlying 27 = some (.slice 5) := Try.underlying27
theorem ty6 : Try.prog.underlying 33 = some (.int .i64) := Try.underlying33
theorem ty7 : Try.prog.cellsOf 3 = 1 := by kernel_rfl
theorem ty8 : Try.prog.cellsOf 5 = 1 := by kernel_rfl
theorem ty9 : Try.prog.cellsOf 23 = 32 := by kernel_rfl
theorem ty10 : Try.prog.cellsOf 24 = 32 := by kernel_rfl
theorem ty11 : Try.prog.cellsOf 25 = 1 := by kernel_rfl
theorem ty12 : Try.prog.cellsOf 27 = 1 := by kernel_rfl
theorem ty13 : Try.prog.cellsOf 32 = 65 := by kernel_rfl
theorem ty14 : Try.prog.cellsOf 33 = 1 := by kernel_rfl
theorem ty15 : Try.prog.cellsOf 40 = 1 := by kernel_rfl
theorem ty16 : Try.prog.cellsOf 44 = 1 := by kernel_rfl
theorem ty17 : Try.prog.bytesOf 5 = 1 := by kernel_rfl
theorem ty18 : zeroCellsOf Try.prog 3 = some (#[.int .i64 0]) := by kernel_rfl
theorem ty19 : zeroCellsOf Try.prog 5 = some (#[.int .u8 0]) := by kernel_rfl
theorem ty20 : zeroCellsOf Try.prog 23 = some (Array.replicate 32 (.int .u8 0)) := by kernel_rfl
theorem ty21 : Try.prog.eqGuardType Try.prog.depth 23 = false := by kernel_rfl
theorem ty22 : zeroCellsOf Try.prog 24 = some (Array.replicate 32 (.int .u8 0)) := by kernel_rfl
theorem ty23 : Try.prog.eqGuardType Try.prog.depth 24 = false := by kernel_rfl
theorem ty24 : zeroCellsOf Try.prog 25 = some (#[.int .u64 0]) := by kernel_rfl
theorem ty25 : zeroCellsOf Try.prog 27 = some #[.slice none 0 0] := by kernel_rfl
theorem ty26 : zeroCellsOf Try.prog 33 = some (#[.int .i64 0]) := by kernel_rfl
theorem ty : (Try.prog.underlying 3 = some (.int .i64)) ∧ (Try.prog.underlying 5 = some (.int .u8)) ∧ (Try.prog.underlying 23 = some (.array 32 5)) ∧ (Try.prog.underlying 24 = some (.array 32 5)) ∧ (Try.prog.underlying 25 = some (.int .u64)) ∧ (Try.prog.underlying 27 = some (.slice 5)) ∧ (Try.prog.underlying 33 = some (.int .i64)) ∧ (Try.prog.cellsOf 3 = 1) ∧ (Try.prog.cellsOf 5 = 1) ∧ (Try.prog.cellsOf 23 = 32) ∧ (Try.prog.cellsOf 24 = 32) ∧ (Try.prog.cellsOf 25 = 1) ∧ (Try.prog.cellsOf 27 = 1) ∧ (Try.prog.cellsOf 32 = 65) ∧ (Try.prog.cellsOf 33 = 1) ∧ (Try.prog.cellsOf 40 = 1) ∧ (Try.prog.cellsOf 44 = 1) ∧ (Try.prog.bytesOf 5 = 1) ∧ (zeroCellsOf Try.prog 3 = some (#[.int .i64 0])) ∧ (zeroCellsOf Try.prog 5 = some (#[.int .u8 0])) ∧ (zeroCellsOf Try.prog 23 = some (Array.replicate 32 (.int .u8 0))) ∧ (Try.prog.eqGuardType Try.prog.depth 23 = false) ∧ (zeroCellsOf Try.prog 24 = some (Array.replicate 32 (.int .u8 0))) ∧ (Try.prog.eqGuardType Try.prog.depth 24 = false) ∧ (zeroCellsOf Try.prog 25 = some (#[.int .u64 0])) ∧ (zeroCellsOf Try.prog 27 = some #[.slice none 0 0]) ∧ (zeroCellsOf Try.prog 33 = some (#[.int .i64 0])) := ⟨ty0, ty1, ty2, ty3, ty4, ty5, ty6, ty7, ty8, ty9, ty10, ty11, ty12, ty13, ty14, ty15, ty16, ty17, ty18, ty19, ty20, ty21, ty22, ty23, ty24, ty25, ty26⟩
theorem ui_32 : type_of% Try.underlying32 := Try.underlying32
theorem ui_40 : type_of% Try.underlying40 := Try.underlying40
theorem ui_44 : type_of% Try.underlying44 := Try.underlying44
theorem zr0 {ι : Type} : (zrow Try.prog 3 : Option (Row ι)) = some (.ints .i64 (List.replicate 1 0)) := by kernel_rfl
theorem zr1 {ι : Type} : (zrow Try.prog 5 : Option (Row ι)) = some (.ints .u8 (List.replicate 1 0)) := by kernel_rfl
theorem zr2 {ι : Type} : (zrow Try.prog 23 : Option (Row ι)) = some (.ints .u8 (List.replicate 32 0)) := by kernel_rfl
theorem zr3 {ι : Type} : (zrow Try.prog 24 : Option (Row ι)) = some (.ints .u8 (List.replicate 32 0)) := by kernel_rfl
theorem zr4 {ι : Type} : (zrow Try.prog 25 : Option (Row ι)) = some (.ints .u64 (List.replicate 1 0)) := by kernel_rfl
theorem zr5 {ι : Type} : (zrow Try.prog 33 : Option (Row ι)) = some (.ints .i64 (List.replicate 1 0)) := by kernel_rfl
theorem zr {ι : Type} : ((zrow Try.prog 3 : Option (Row ι)) = some (.ints .i64 (List.replicate 1 0))) ∧ ((zrow Try.prog 5 : Option (Row ι)) = some (.ints .u8 (List.replicate 1 0))) ∧ ((zrow Try.prog 23 : Option (Row ι)) = some (.ints .u8 (List.replicate 32 0))) ∧ ((zrow Try.prog 24 : Option (Row ι)) = some (.ints .u8 (List.replicate 32 0))) ∧ ((zrow Try.prog 25 : Option (Row ι)) = some (.ints .u64 (List.replicate 1 0))) ∧ ((zrow Try.prog 33 : Option (Row ι)) = some (.ints .i64 (List.replicate 1 0))) := ⟨zr0, zr1, zr2, zr3, zr4, zr5⟩
abbrev fs_32 : Array Field := #[{ name := "At", type := 24, offset := 0, embedded := false, tag := "", pkgPath := "", byteOffset := 0 }, { name := "N", type := 25, offset := 32, embedded := false, tag := "", pkgPath := "", byteOffset := 32 }, { name := "Off", type := 23, offset := 33, embedded := false, tag := "", pkgPath := "", byteOffset := 40 }]
theorem us_32 : Try.prog.underlying 32 = some (.struct fs_32) := Try.underlying32
theorem fa_32_0 {ι : Type} : ∀ (id : ι) (off : Nat) (C : AV ι → Prop), fieldAddrC Try.prog 32 (.ptr id off) 0 C = C (.ptr id (off + 0)) := fun id off C => by
  simp only [fieldAddrC, us_32]; exact propext ⟨fun h => h.2.2, fun h => ⟨by kernel_rfl, by decide +kernel, h⟩⟩
theorem bw_32_0 {ι : Type} : ∀ (v : List Int) (r : List (Nat × AV ι)) (l : List (AV ι)) (C : List (AV ι) → Prop), buildCells Try.prog fs_32 ((0, .ints .u8 v) :: r) l C = (32 = v.length ∧ 0 + v.length ≤ l.length ∧ buildCells Try.prog fs_32 r (Sy.splice l 0 (flatI .u8 v)) C) := fun v r l C => by
  have hf : fs_32[0]? = some { name := "At", type := 24, offset := 0, embedded := false, tag := "", pkgPath := "", byteOffset := 0 } := rfl
  have ha : isAggT Try.prog 24 = true := by kernel_rfl
  have hc : Try.prog.cellsOf 24 = 32 := by kernel_rfl
  simp only [buildCells, hf, ha, wideL, hc, flatI_len]
theorem fa_32_1 {ι : Type} : ∀ (id : ι) (off : Nat) (C : AV ι → Prop), fieldAddrC Try.prog 32 (.ptr id off) 1 C = C (.ptr id (off + 32)) := fun id off C => by
  simp only [fieldAddrC, us_32]; exact propext ⟨fun h => h.2.2, fun h => ⟨by kernel_rfl, by decide +kernel, h⟩⟩
theorem fv_32_1 {ι : Type} : ∀ (l : List (AV ι)) (C : AV ι → Prop), fieldC Try.prog 32 (.agg l) 1 C = (match l[32]? with | some v => C v | none => False) := fun l C => by
  simp only [fieldC, us_32]; exact propext ⟨fun h => h.2.2, fun h => ⟨by kernel_rfl, by kernel_rfl, h⟩⟩
theorem bc_32_1 {ι : Type} : ∀ (v : AV ι) (r : List (Nat × AV ι)) (l : List (AV ι)) (C : List (AV ι) → Prop), buildCells Try.prog fs_32 ((1, v) :: r) l C = (scalar v = true ∧ 32 < l.length ∧ buildCells Try.prog fs_32 r (l.set 32 v) C) := fun v r l C => by
  have hf : fs_32[1]? = some { name := "N", type := 25, offset := 32, embedded := false, tag := "", pkgPath := "", byteOffset := 32 } := rfl
  have ha : isAggT Try.prog 25 = false := by kernel_rfl
  simp only [buildCells, hf, ha]; exact propext ⟨fun h => h.2.2, fun h => ⟨by kernel_rfl, by decide +kernel, h⟩⟩
theorem fa_32_2 {ι : Type} : ∀ (id : ι) (off : Nat) (C : AV ι → Prop), fieldAddrC Try.prog 32 (.ptr id off) 2 C = C (.ptr id (off + 33)) := fun id off C => by
  simp only [fieldAddrC, us_32]; exact propext ⟨fun h => h.2.2, fun h => ⟨by kernel_rfl, by decide +kernel, h⟩⟩
theorem bw_32_2 {ι : Type} : ∀ (v : List Int) (r : List (Nat × AV ι)) (l : List (AV ι)) (C : List (AV ι) → Prop), buildCells Try.prog fs_32 ((2, .ints .u8 v) :: r) l C = (32 = v.length ∧ 33 + v.length ≤ l.length ∧ buildCells Try.prog fs_32 r (Sy.splice l 33 (flatI .u8 v)) C) := fun v r l C => by
  have hf : fs_32[2]? = some { name := "Off", type := 23, offset := 33, embedded := false, tag := "", pkgPath := "", byteOffset := 40 } := rfl
  have ha : isAggT Try.prog 23 = true := by kernel_rfl
  have hc : Try.prog.cellsOf 23 = 32 := by kernel_rfl
  simp only [buildCells, hf, ha, wideL, hc, flatI_len]
theorem zc_32 : zeroCellsOf Try.prog 32 = some #[.int .u8 0, .int .u8 0, .int .u8 0, .int .u8 0, .int .u8 0, .int .u8 0, .int .u8 0, .int .u8 0, .int .u8 0, .int .u8 0, .int .u8 0, .int .u8 0, .int .u8 0, .int .u8 0, .int .u8 0, .int .u8 0, .int .u8 0, .int .u8 0, .int .u8 0, .int .u8 0, .int .u8 0, .int .u8 0, .int .u8 0, .int .u8 0, .int .u8 0, .int .u8 0, .int .u8 0, .int .u8 0, .int .u8 0, .int .u8 0, .int .u8 0, .int .u8 0, .int .u64 0, .int .u8 0, .int .u8 0, .int .u8 0, .int .u8 0, .int .u8 0, .int .u8 0, .int .u8 0, .int .u8 0, .int .u8 0, .int .u8 0, .int .u8 0, .int .u8 0, .int .u8 0, .int .u8 0, .int .u8 0, .int .u8 0, .int .u8 0, .int .u8 0, .int .u8 0, .int .u8 0, .int .u8 0, .int .u8 0, .int .u8 0, .int .u8 0, .int .u8 0, .int .u8 0, .int .u8 0, .int .u8 0, .int .u8 0, .int .u8 0, .int .u8 0, .int .u8 0] := by kernel_rfl
theorem bd_32 {ι : Type} : ∀ (r : List (Nat × AV ι)) (C : AV ι → Prop), buildC Try.prog 32 r C = buildCells Try.prog fs_32 r (flatI .u8 (List.replicate 32 0) ++ (.int .u64 0 :: (flatI .u8 (List.replicate 32 0)))) (fun l => C (.agg l)) := fun r C => by
  unfold buildC; rw [us_32]; simp only [zc_32]; exact propext ⟨fun h => h.2.2, fun h => ⟨by decide +kernel, by kernel_rfl, h⟩⟩
theorem zs_32 {ι : Type} : (zrow Try.prog 32 : Option (Row ι)) = some (.mixed (flatI .u8 (List.replicate 32 0) ++ (.int .u64 0 :: (flatI .u8 (List.replicate 32 0))))) := by kernel_rfl
theorem ba_23 {ι : Type} : ∀ (r : List (Nat × AV ι)) (C : AV ι → Prop), buildC Try.prog 23 r C = buildInts .u8 r (List.replicate 32 0) (fun l => C (.ints .u8 l)) := fun r C => by
  unfold buildC; rw [Try.underlying23]; simp only [Try.underlying5]; exact propext ⟨fun h => h.2.2, fun h => ⟨by kernel_rfl, by kernel_rfl, h⟩⟩
theorem ba_24 {ι : Type} : ∀ (r : List (Nat × AV ι)) (C : AV ι → Prop), buildC Try.prog 24 r C = buildInts .u8 r (List.replicate 32 0) (fun l => C (.ints .u8 l)) := fun r C => by
  unfold buildC; rw [Try.underlying24]; simp only [Try.underlying5]; exact propext ⟨fun h => h.2.2, fun h => ⟨by kernel_rfl, by kernel_rfl, h⟩⟩
theorem sui : (type_of% ui_32) ∧ (type_of% ui_40) ∧ (type_of% ui_44) := ⟨ui_32, ui_40, ui_44⟩
theorem sty {ι : Type} : (type_of% (@fa_32_0 ι)) ∧ (type_of% (@bw_32_0 ι)) ∧ (type_of% (@fa_32_1 ι)) ∧ (type_of% (@fv_32_1 ι)) ∧ (type_of% (@bc_32_1 ι)) ∧ (type_of% (@fa_32_2 ι)) ∧ (type_of% (@bw_32_2 ι)) ∧ (type_of% (@bd_32 ι)) ∧ (type_of% (@zs_32 ι)) ∧ (type_of% (@ba_23 ι)) ∧ (type_of% (@ba_24 ι)) := ⟨@fa_32_0 ι, @bw_32_0 ι, @fa_32_1 ι, @fv_32_1 ι, @bc_32_1 ι, @fa_32_2 ι, @bw_32_2 ι, @bd_32 ι, @zs_32 ι, @ba_23 ι, @ba_24 ι⟩
theorem mix : Try.prog.follows .mixedOrders = true := by kernel_rfl

/-! erewhile/erewhilelaw22.DeltaHidden -/
abbrev n_law22_DeltaHidden : Nat := 3
theorem func_law22_DeltaHidden : Try.prog.funcs[n_law22_DeltaHidden]? = some Try.f3 := Try.func3
theorem call_law22_DeltaHidden : ∀ args w, (callFunc n_law22_DeltaHidden args).run Try.prog w = .ok (.enter n_law22_DeltaHidden args) w := Try.call3
theorem nt_law22_DeltaHidden : Try.f3.ntmps = 68 := Try.ntmps3
theorem rs_law22_DeltaHidden : Try.f3.results.toList = [.tmp 8] := by rw [Try.results3]
def s_law22_DeltaHidden_0 : List AStep := [.eff (some 4) (.box 23 (.tmp 0)), .eff (some 5) (.box 23 (.tmp 1)), .eff (some 6) (.box 24 (.tmp 2)), .pure (some 8) false (.assign (.const (.bool false)))]
abbrev p_law22_DeltaHidden_0 : List Nat := [0, 1, 2, 3]
def s_law22_DeltaHidden_1 : List AStep := [.call (some 14) false ⟨.value (.func 4), #[], #[]⟩, .pure (some 15) false (.unOp .not 4 (.tmp 14))]
abbrev p_law22_DeltaHidden_1 : List Nat := [0, 1]
def s_law22_DeltaHidden_2 : List AStep := [.pure (some 8) false (.assign (.const (.bool false)))]
abbrev p_law22_DeltaHidden_2 : List Nat := [0]
def s_law22_DeltaHidden_3 : List AStep := [.read (some 17) false (.load 23 (.tmp 4)), .read (some 18) false (.load 23 (.tmp 5)), .call (some 19) false ⟨.value (.func 5), #[.tmp 17, .tmp 18], #[23, 23]⟩, .pure (some 16) false (.move (.tmp 19)), .pure (some 20) false (.extract (.tmp 16) 0), .pure (some 21) false (.extract (.tmp 16) 1), .pure (some 9) false (.assign (.tmp 20)), .pure (some 10) false (.assign (.tmp 21))]
abbrev p_law22_DeltaHidden_3 : List Nat := [0, 1, 2, 3, 4, 5, 6, 7]
def s_law22_DeltaHidden_4 : List AStep := [.pure (some 22) false (.move (.tmp 10)), .pure (some 23) false (.unOp .not 4 (.tmp 22))]
abbrev p_law22_DeltaHidden_4 : List Nat := [0, 1]
def s_law22_DeltaHidden_5 : List AStep := [.pure (some 8) false (.assign (.const (.bool true)))]
abbrev p_law22_DeltaHidden_5 : List Nat := [0]
def s_law22_DeltaHidden_6 : List AStep := [.pure (some 24) false (.build 32 #[]), .pure (some 25) false (.makeInterface 32 (.tmp 24)), .read (some 26) false (.load 24 (.tmp 6)), .pure (some 27) false (.move (.tmp 3)), .pure (some 28) false (.move (.tmp 9)), .call (some 29) false ⟨.value (.func 6), #[.tmp 25, .tmp 26, .tmp 27, .tmp 28], #[40, 24, 25, 27]⟩, .pure (some 11) false (.assign (.tmp 29))]
abbrev p_law22_DeltaHidden_6 : List Nat := [0, 1, 2, 3, 4, 5, 6]
def s_law22_DeltaHidden_7 : SP := (.one (.pure (some 32) false (.build 32 #[])) (.one (.pure (some 33) false (.makeInterface 32 (.tmp 32))) (.one (.pure (some 35) false (.move (.tmp 3))) (.one (.pure (some 36) false (.move (.tmp 11))) (.one (.read (some 31) false (.load 23 (.tmp 4))) (.one (.read (some 34) false (.load 24 (.tmp 6))) (.two (.call (some 37) false ⟨.value (.func 6), #[.tmp 33, .tmp 34, .tmp 35, .tmp 36], #[40, 24, 25, 27]⟩) (.two (.call (some 38) false ⟨.value (.func 7), #[.tmp 31, .tmp 37], #[23, 27]⟩) (.one (.pure (some 30) false (.move (.tmp 38))) (.one (.pure (some 39) false (.extract (.tmp 30) 0)) (.one (.pure (some 40) false (.extract (.tmp 30) 1)) (.one (.eff (some 12) (.alloc 23)) (.one (.eff none (.store 23 (.tmp 12) (.tmp 39))) (.one (.pure (some 13) false (.assign (.tmp 40))) .done)))))) (.eff (some 12) (.alloc 23)) (.one (.call (some 38) false ⟨.value (.func 7), #[.tmp 31, .tmp 37], #[23, 27]⟩) (.one (.pure (some 30) false (.move (.tmp 38))) (.one (.pure (some 39) false (.extract (.tmp 30) 0)) (.one (.pure (some 40) false (.extract (.tmp 30) 1)) (.one (.eff none (.store 23 (.tmp 12) (.tmp 39))) (.one (.pure (some 13) false (.assign (.tmp 40))) .done))))))) (.eff (some 12) (.alloc 23)) (.one (.call (some 37) false ⟨.value (.func 6), #[.tmp 33, .tmp 34, .tmp 35, .tmp 36], #[40, 24, 25, 27]⟩) (.one (.call (some 38) false ⟨.value (.func 7), #[.tmp 31, .tmp 37], #[23, 27]⟩) (.one (.pure (some 30) false (.move (.tmp 38))) (.one (.pure (some 39) false (.extract (.tmp 30) 0)) (.one (.pure (some 40) false (.extract (.tmp 30) 1)) (.one (.eff none (.store 23 (.tmp 12) (.tmp 39))) (.one (.pure (some 13) false (.assign (.tmp 40))) .done))))))))))))))
abbrev p_law22_DeltaHidden_7 : PC := (.calm 1 14276 (.calm 2 14272 (.calm 4 14272 (.calm 5 14272 (.calm 0 14208 (.calm 3 14272 (.fork 6 (.fork 7 (.calm 8 13824 (.calm 9 12288 (.calm 10 8192 (.act 11 (.act 12 (.calm 13 0 .done)))))) 11 (.act 7 (.calm 8 13824 (.calm 9 12288 (.calm 10 8192 (.act 12 (.calm 13 0 .done))))))) 11 (.act 6 (.act 7 (.calm 8 13824 (.calm 9 12288 (.calm 10 8192 (.act 12 (.calm 13 0 .done))))))))))))))
abbrev g_law22_DeltaHidden_7 : List Dg := [⟨0, 16, 2147483648, .read, true⟩, ⟨0, 0, 4294967296, .pure, true⟩, ⟨2, 4294967296, 8589934592, .pure, true⟩, ⟨0, 64, 17179869184, .read, true⟩, ⟨0, 8, 34359738368, .pure, true⟩, ⟨0, 2048, 68719476736, .pure, true⟩, ⟨60, 128849018880, 137438953472, .call, true⟩, ⟨65, 139586437120, 274877906944, .call, true⟩, ⟨128, 274877906944, 1073741824, .pure, true⟩, ⟨256, 1073741824, 549755813888, .pure, true⟩, ⟨256, 1073741824, 1099511627776, .pure, true⟩, ⟨0, 0, 4096, .eff, true⟩, ⟨3071, 549755817984, 0, .eff, false⟩, ⟨8191, 1099511627776, 8192, .pure, true⟩]
abbrev q_law22_DeltaHidden_7 : List Nat := []
def s_law22_DeltaHidden_8 : List AStep := [.pure (some 41) false (.move (.tmp 11)), .pure (some 42) false (.call (.mk (.builtin .len) #[.tmp 41] #[27])), .pure (some 43) false (.move (.tmp 9)), .pure (some 44) false (.call (.mk (.builtin .len) #[.tmp 43] #[27])), .pure (some 45) false (.binOp .eql 3 (.tmp 42) (.tmp 44) 3), .pure (some 46) true (.move (.tmp 45)), .guard 46 true (.pure (some 47) false (.build 32 #[])), .guard 46 true (.pure (some 48) false (.makeInterface 32 (.tmp 47))), .guard 46 true (.read (some 49) false (.load 24 (.tmp 6))), .guard 46 true (.pure (some 50) false (.move (.tmp 3))), .guard 46 true (.pure (some 51) false (.binOp .add 25 (.tmp 50) (.const (.int .u64 1)) 25)), .guard 46 true (.pure (some 52) false (.move (.tmp 9))), .guard 46 true (.call (some 53) false ⟨.value (.func 6), #[.tmp 48, .tmp 49, .tmp 51, .tmp 52], #[40, 24, 25, 27]⟩), .guard 46 true (.pure (some 54) false (.call (.mk (.builtin .len) #[.tmp 53] #[27]))), .guard 46 true (.pure (some 55) false (.move (.tmp 9))), .guard 46 true (.pure (some 56) false (.call (.mk (.builtin .len) #[.tmp 55] #[27]))), .guard 46 true (.pure (some 57) false (.binOp .eql 3 (.tmp 54) (.tmp 56) 3)), .pure (some 58) false (.pick (.tmp 46) (.tmp 57) (.const (.bool false))), .pure (some 59) true (.move (.tmp 58)), .guard 59 true (.pure (some 60) false (.move (.tmp 13))), .guard 59 true (.pure (some 61) false (.binOp .eql 33 (.tmp 60) (.const (.int .i64 0)) 33)), .pure (some 62) false (.pick (.tmp 59) (.tmp 61) (.const (.bool false))), .pure (some 63) true (.move (.tmp 62)), .guard 63 true (.read (some 64) false (.load 23 (.tmp 12))), .guard 63 true (.read (some 65) false (.load 23 (.tmp 5))), .guard 63 true (.pure (some 66) false (.binOp .eql 23 (.tmp 64) (.tmp 65) 23)), .pure (some 67) false (.pick (.tmp 63) (.tmp 66) (.const (.bool false))), .pure (some 8) false (.assign (.tmp 67))]
abbrev p_law22_DeltaHidden_8 : List Nat := [0, 1, 2, 3, 4, 5, 6, 7, 8, 9, 10, 11, 12, 13, 14, 15, 16, 17, 18, 19, 20, 21, 22, 23, 24, 25, 26, 27]

/-! erewhile/erewhilelaw22.awake -/
abbrev n_law22_awake : Nat := 4
theorem func_law22_awake : Try.prog.funcs[n_law22_awake]? = some Try.f4 := Try.func4
theorem call_law22_awake : ∀ args w, (callFunc n_law22_awake args).run Try.prog w = .ok (.enter n_law22_awake args) w := Try.call4
theorem nt_law22_awake : Try.f4.ntmps = 24 := Try.ntmps4
theorem rs_law22_awake : Try.f4.results.toList = [.tmp 0] := by rw [Try.results4]
def s_law22_awake_0 : List AStep := [.pure (some 0) false (.assign (.const (.bool false)))]
abbrev p_law22_awake_0 : List Nat := [0]
def s_law22_awake_1 : List AStep := [.pure (some 4) false (.build 23 #[]), .pure (some 5) false (.build 23 #[(5, .const (.int .u8 7))]), .call (some 6) false ⟨.value (.func 5), #[.tmp 4, .tmp 5], #[23, 23]⟩, .pure (some 3) false (.move (.tmp 6)), .pure (some 7) false (.extract (.tmp 3) 0), .pure (some 8) false (.extract (.tmp 3) 1), .pure (some 1) false (.assign (.tmp 7)), .pure (some 2) false (.assign (.tmp 8))]
abbrev p_law22_awake_1 : List Nat := [0, 1, 2, 3, 4, 5, 6, 7]
def s_law22_awake_2 : List AStep := [.pure (some 9) false (.move (.tmp 2)), .pure (some 10) true (.move (.tmp 9)), .guard 10 true (.pure (some 11) false (.move (.tmp 1))), .guard 10 true (.eff (some 12) (.buildSlice 27 3 #[(0, .const (.int .u8 5)), (1, .const (.int .u8 1)), (2, .const (.int .u8 7))])), .guard 10 true (.call (some 13) false ⟨.value (.func 8), #[.tmp 11, .tmp 12], #[27, 27]⟩), .pure (some 14) false (.pick (.tmp 10) (.tmp 13) (.const (.bool false))), .pure (some 15) true (.move (.tmp 14)), .guard 15 true (.pure (some 16) false (.move (.tmp 1))), .guard 15 true (.call (some 17) false ⟨.value (.func 9), #[.tmp 16], #[27]⟩), .pure (some 18) false (.pick (.tmp 15) (.tmp 17) (.const (.bool false))), .pure (some 19) true (.move (.tmp 18)), .guard 19 true (.eff (some 20) (.buildSlice 27 2 #[(0, .const (.int .u8 5)), (1, .const (.int .u8 0))])), .guard 19 true (.call (some 21) false ⟨.value (.func 9), #[.tmp 20], #[27]⟩), .guard 19 true (.pure (some 22) false (.unOp .not 4 (.tmp 21))), .pure (some 23) false (.pick (.tmp 19) (.tmp 22) (.const (.bool false))), .pure (some 0) false (.assign (.tmp 23))]
abbrev p_law22_awake_2 : List Nat := [0, 1, 2, 3, 4, 5, 6, 7, 8, 9, 10, 11, 12, 13, 14, 15]

/-! erewhile/delta.Make -/
abbrev n_delta_Make : Nat := 5
theorem func_delta_Make : Try.prog.funcs[n_delta_Make]? = some Try.f5 := Try.func5
theorem call_delta_Make : ∀ args w, (callFunc n_delta_Make args).run Try.prog w = .ok (.enter n_delta_Make args) w := Try.call5
theorem nt_delta_Make : Try.f5.ntmps = 51 := Try.ntmps5
theorem rs_delta_Make : Try.f5.results.toList = [.tmp 4, .tmp 5] := by rw [Try.results5]
def s_delta_Make_0 : List AStep := [.eff (some 2) (.box 23 (.tmp 0)), .eff (some 3) (.box 23 (.tmp 1)), .pure (some 4) false (.assign (.const (.slice none 0 0))), .pure (some 5) false (.assign (.const (.bool false)))]
abbrev p_delta_Make_0 : List Nat := [0, 1, 2, 3]
def s_delta_Make_1 : List AStep := [.pure (some 6) false (.assign (.const (.slice none 0 0)))]
abbrev p_delta_Make_1 : List Nat := [0]
def s_delta_Make_2 : List AStep := [.pure (some 7) false (.assign (.const (.int .i64 0)))]
abbrev p_delta_Make_2 : List Nat := [0]
def s_delta_Make_3 : List AStep := [.pure (some 9) false (.move (.tmp 7)), .pure (some 10) false (.binOp .lss 3 (.tmp 9) (.const (.int .i64 32)) 3)]
abbrev p_delta_Make_3 : List Nat := [0, 1]
def s_delta_Make_5 : SP := (.one (.pure (some 13) false (.move (.tmp 7))) (.one (.pure (some 14) false (.indexAddr 23 (.tmp 2) (.tmp 13))) (.one (.pure (some 16) false (.move (.tmp 7))) (.one (.pure (some 17) false (.indexAddr 23 (.tmp 3) (.tmp 16))) (.one (.read (some 15) false (.load 5 (.tmp 14))) (.one (.read (some 18) false (.load 5 (.tmp 17))) (.one (.pure (some 19) false (.binOp .eql 5 (.tmp 15) (.tmp 18) 5)) .done)))))))
abbrev p_delta_Make_5 : PC := (.calm 0 70 (.calm 1 68 (.calm 3 112 (.calm 4 96 (.calm 2 64 (.calm 5 64 (.calm 6 0 .done)))))))
abbrev g_delta_Make_5 : List Dg := [⟨0, 128, 8192, .pure, true⟩, ⟨1, 8196, 16384, .pure, true⟩, ⟨2, 16384, 32768, .read, true⟩, ⟨0, 128, 65536, .pure, true⟩, ⟨8, 65544, 131072, .pure, true⟩, ⟨16, 131072, 262144, .read, true⟩, ⟨36, 294912, 524288, .pure, true⟩]
abbrev q_delta_Make_5 : List Nat := []
def s_delta_Make_6 : List AStep := [.pure (some 20) false (.move (.tmp 7)), .pure (some 8) false (.assign (.tmp 20))]
abbrev p_delta_Make_6 : List Nat := [0, 1]
def s_delta_Make_7 : SP := (.one (.pure (some 21) false (.move (.tmp 7))) (.one (.pure (some 22) false (.binOp .lss 3 (.tmp 21) (.const (.int .i64 32)) 3)) (.one (.pure (some 23) true (.move (.tmp 22))) (.one (.guard 23 true (.pure (some 24) false (.move (.tmp 7)))) (.one (.guard 23 true (.pure (some 25) false (.indexAddr 23 (.tmp 2) (.tmp 24)))) (.one (.guard 23 true (.pure (some 27) false (.move (.tmp 7)))) (.one (.guard 23 true (.pure (some 28) false (.indexAddr 23 (.tmp 3) (.tmp 27)))) (.one (.guard 23 true (.read (some 26) false (.load 5 (.tmp 25)))) (.one (.guard 23 true (.read (some 29) false (.load 5 (.tmp 28)))) (.one (.guard 23 true (.pure (some 30) false (.binOp .neq 5 (.tmp 26) (.tmp 29) 5))) (.one (.pure (some 31) false (.pick (.tmp 23) (.tmp 30) (.const (.bool false)))) .done)))))))))))
abbrev p_delta_Make_7 : PC := (.calm 0 2046 (.calm 1 2044 (.calm 2 2040 (.calm 3 1584 (.calm 4 1568 (.calm 6 1920 (.calm 7 1792 (.calm 5 1536 (.calm 8 1536 (.calm 9 1024 (.calm 10 0 .done)))))))))))
abbrev g_delta_Make_7 : List Dg := [⟨0, 128, 2097152, .pure, true⟩, ⟨1, 2097152, 4194304, .pure, true⟩, ⟨2, 4194304, 8388608, .pure, true⟩, ⟨4, 8388736, 16777216, .pure, true⟩, ⟨12, 25165828, 33554432, .pure, true⟩, ⟨20, 41943040, 67108864, .read, true⟩, ⟨4, 8388736, 134217728, .pure, true⟩, ⟨68, 142606344, 268435456, .pure, true⟩, ⟨132, 276824064, 536870912, .read, true⟩, ⟨292, 612368384, 1073741824, .pure, true⟩, ⟨516, 1082130432, 2147483648, .pure, true⟩]
abbrev q_delta_Make_7 : List Nat := []
def s_delta_Make_8 : List AStep := [.pure (some 32) false (.move (.tmp 7)), .pure (some 33) false (.binOp .add 3 (.tmp 32) (.const (.int .i64 1)) 3), .pure (some 7) false (.assign (.tmp 33))]
abbrev p_delta_Make_8 : List Nat := [0, 1, 2]
def s_delta_Make_9 : SP := (.one (.pure (some 34) false (.move (.tmp 6))) (.one (.pure (some 35) false (.move (.tmp 8))) (.one (.pure (some 36) false (.convert 3 5 (.tmp 35))) (.one (.pure (some 37) false (.move (.tmp 7))) (.one (.pure (some 38) false (.move (.tmp 8))) (.one (.pure (some 39) false (.binOp .sub 3 (.tmp 37) (.tmp 38) 3)) (.one (.pure (some 40) false (.convert 3 5 (.tmp 39))) (.one (.pure (some 43) false (.move (.tmp 8))) (.one (.pure (some 44) false (.move (.tmp 7))) (.one (.pure (some 45) false (.slice 23 (.tmp 3) (some (.tmp 43)) (some (.tmp 44)) none)) (.one (.eff (some 41) (.buildSlice 27 2 #[(0, .tmp 36), (1, .tmp 40)])) (.one (.eff (some 42) (.call (.mk (.builtin .append) #[.tmp 34, .tmp 41] #[27, 27]))) (.one (.eff (some 46) (.call (.mk (.builtin .append) #[.tmp 42, .tmp 45] #[27, 27]))) (.one (.pure (some 6) false (.assign (.tmp 46))) .done))))))))))))))
abbrev p_delta_Make_9 : PC := (.calm 0 12544 (.calm 1 12676 (.calm 2 12672 (.calm 3 12768 (.calm 4 12768 (.calm 5 12736 (.calm 6 12672 (.calm 9 14336 (.calm 10 14336 (.calm 11 12288 (.act 7 (.act 8 (.act 12 (.calm 13 0 .done))))))))))))))
abbrev g_delta_Make_9 : List Dg := [⟨0, 64, 17179869184, .pure, true⟩, ⟨0, 256, 34359738368, .pure, true⟩, ⟨2, 34359738368, 68719476736, .pure, true⟩, ⟨0, 128, 137438953472, .pure, true⟩, ⟨0, 256, 274877906944, .pure, true⟩, ⟨24, 412316860416, 549755813888, .pure, true⟩, ⟨32, 549755813888, 1099511627776, .pure, true⟩, ⟨68, 1168231104512, 2199023255552, .eff, true⟩, ⟨129, 2216203124736, 4398046511104, .eff, false⟩, ⟨0, 256, 8796093022208, .pure, true⟩, ⟨0, 128, 17592186044416, .pure, true⟩, ⟨1536, 26388279066632, 35184372088832, .pure, true⟩, ⟨2304, 39582418599936, 70368744177664, .eff, false⟩, ⟨8191, 70368744177664, 64, .pure, true⟩]
abbrev q_delta_Make_9 : List Nat := []
def s_delta_Make_4 : List AStep := [.pure (some 11) false (.move (.tmp 7)), .pure (some 12) false (.binOp .add 3 (.tmp 11) (.const (.int .i64 1)) 3), .pure (some 7) false (.assign (.tmp 12))]
abbrev p_delta_Make_4 : List Nat := [0, 1, 2]
def s_delta_Make_10 : List AStep := [.pure (some 47) false (.move (.tmp 6)), .pure (some 48) false (.call (.mk (.builtin .len) #[.tmp 47] #[27])), .pure (some 49) false (.binOp .gtr 3 (.tmp 48) (.const (.int .i64 20)) 3)]
abbrev p_delta_Make_10 : List Nat := [0, 1, 2]
def s_delta_Make_11 : List AStep := [.pure (some 4) false (.assign (.const (.slice none 0 0))), .pure (some 5) false (.assign (.const (.bool false)))]
abbrev p_delta_Make_11 : List Nat := [0, 1]
def s_delta_Make_12 : List AStep := [.pure (some 50) false (.move (.tmp 6)), .pure (some 4) false (.assign (.tmp 50)), .pure (some 5) false (.assign (.const (.bool true)))]
abbrev p_delta_Make_12 : List Nat := [0, 1, 2]

/-! erewhile/cipher.Hide -/
abbrev n_cipher_Hide : Nat := 6
theorem func_cipher_Hide : Try.prog.funcs[n_cipher_Hide]? = some Try.f6 := Try.func6
theorem call_cipher_Hide : ∀ args w, (callFunc n_cipher_Hide args).run Try.prog w = .ok (.enter n_cipher_Hide args) w := Try.call6
theorem nt_cipher_Hide : Try.f6.ntmps = 24 := Try.ntmps6
theorem rs_cipher_Hide : Try.f6.results.toList = [.tmp 8] := by rw [Try.results6]
def s_cipher_Hide_0 : List AStep := [.eff (some 5) (.box 24 (.tmp 1)), .pure (some 8) false (.assign (.const (.slice none 0 0)))]
abbrev p_cipher_Hide_0 : List Nat := [0, 1]
def s_cipher_Hide_1 : List AStep := [.pure (some 10) false (.move (.tmp 0)), .pure (some 11) false (.binOp .eql 40 (.tmp 10) (.const .nilIface) 40), .pure (some 12) true (.move (.tmp 11)), .guard 12 false (.pure (some 13) false (.move (.tmp 3))), .guard 12 false (.pure (some 14) false (.call (.mk (.builtin .len) #[.tmp 13] #[27]))), .guard 12 false (.pure (some 15) false (.binOp .gtr 3 (.tmp 14) (.const (.int .i64 32)) 3)), .pure (some 16) false (.pick (.tmp 12) (.const (.bool true)) (.tmp 15))]
abbrev p_cipher_Hide_1 : List Nat := [0, 1, 2, 3, 4, 5, 6]
def s_cipher_Hide_2 : List AStep := [.pure (some 8) false (.assign (.const (.slice none 0 0)))]
abbrev p_cipher_Hide_2 : List Nat := [0]
abbrev q_cipher_Hide_3 : List Nat := [1003]
def s_cipher_Hide_3 : List AStep := [.pure (some 17) false (.move (.tmp 0)), .read (some 18) false (.load 24 (.tmp 5)), .pure (some 19) false (.move (.tmp 2)), .mcall (some 20) false ⟨.invoke (.tmp 17) "Pad", #[.tmp 18, .tmp 19], #[24, 25]⟩, .eff (some 9) (.alloc 23), .eff none (.store 23 (.tmp 9) (.tmp 20))]
abbrev p_cipher_Hide_3 : List Nat := [0, 1, 2, 3, 4, 5]
def s_cipher_Hide_4 : List AStep := [.pure (some 21) false (.move (.tmp 3)), .pure (some 22) false (.slice 23 (.tmp 9) none none none), .call (some 23) false ⟨.value (.func 10), #[.tmp 21, .tmp 22], #[27, 27]⟩, .pure (some 8) false (.assign (.tmp 23))]
abbrev p_cipher_Hide_4 : List Nat := [0, 1, 2, 3]

/-! erewhile/delta.Apply -/
abbrev n_delta_Apply : Nat := 7
theorem func_delta_Apply : Try.prog.funcs[n_delta_Apply]? = some Try.f7 := Try.func7
theorem call_delta_Apply : ∀ args w, (callFunc n_delta_Apply args).run Try.prog w = .ok (.enter n_delta_Apply args) w := Try.call7
theorem nt_delta_Apply : Try.f7.ntmps = 14 := Try.ntmps7
theorem rs_delta_Apply : Try.f7.results.toList = [.cell 4 23, .tmp 5] := by rw [Try.results7]
def s_delta_Apply_0 : List AStep := [.eff (some 2) (.box 23 (.tmp 0)), .eff (some 4) (.alloc 23), .pure (some 5) false (.assign (.const (.int .i64 0)))]
abbrev p_delta_Apply_0 : List Nat := [0, 1, 2]
def s_delta_Apply_1 : List AStep := [.read (some 7) false (.load 23 (.tmp 2)), .eff (some 6) (.alloc 23), .eff none (.store 23 (.tmp 6) (.tmp 7))]
abbrev p_delta_Apply_1 : List Nat := [0, 1, 2]
abbrev q_delta_Apply_2 : List Nat := [1002]
def s_delta_Apply_2 : List AStep := [.pure (some 8) false (.move (.tmp 1)), .pure (some 9) false (.makeFunc (.func 12) #[] #[.tmp 6]), .mcall (some 10) false ⟨.value (.func 11), #[.tmp 8, .tmp 9], #[27, 44]⟩, .pure (some 11) false (.unOp .not 4 (.tmp 10))]
abbrev p_delta_Apply_2 : List Nat := [0, 1, 2, 3]
def s_delta_Apply_3 : List AStep := [.pure (some 12) false (.build 23 #[]), .eff none (.store 23 (.tmp 4) (.tmp 12)), .pure (some 5) false (.assign (.const (.int .i64 3)))]
abbrev p_delta_Apply_3 : List Nat := [0, 1, 2]
def s_delta_Apply_4 : List AStep := [.read (some 13) false (.load 23 (.tmp 6)), .eff none (.store 23 (.tmp 4) (.tmp 13)), .pure (some 5) false (.assign (.const (.int .i64 0)))]
abbrev p_delta_Apply_4 : List Nat := [0, 1, 2]

/-! erewhile/erewhileref02.Same -/
abbrev n_ref02_Same : Nat := 8
theorem func_ref02_Same : Try.prog.funcs[n_ref02_Same]? = some Try.f8 := Try.func8
theorem call_ref02_Same : ∀ args w, (callFunc n_ref02_Same args).run Try.prog w = .ok (.enter n_ref02_Same args) w := Try.call8
theorem nt_ref02_Same : Try.f8.ntmps = 26 := Try.ntmps8
theorem rs_ref02_Same : Try.f8.results.toList = [.tmp 4] := by rw [Try.results8]
def s_ref02_Same_0 : List AStep := [.pure (some 4) false (.assign (.const (.bool false)))]
abbrev p_ref02_Same_0 : List Nat := [0]
def s_ref02_Same_1 : List AStep := [.pure (some 6) false (.move (.tmp 0)), .pure (some 7) false (.call (.mk (.builtin .len) #[.tmp 6] #[27])), .pure (some 8) false (.move (.tmp 1)), .pure (some 9) false (.call (.mk (.builtin .len) #[.tmp 8] #[27])), .pure (some 10) false (.binOp .neq 3 (.tmp 7) (.tmp 9) 3)]
abbrev p_ref02_Same_1 : List Nat := [0, 1, 2, 3, 4]
def s_ref02_Same_2 : List AStep := [.pure (some 4) false (.assign (.const (.bool false)))]
abbrev p_ref02_Same_2 : List Nat := [0]
def s_ref02_Same_3 : List AStep := [.pure (some 5) false (.assign (.const (.int .i64 0)))]
abbrev p_ref02_Same_3 : List Nat := [0]
def s_ref02_Same_4 : List AStep := [.pure (some 11) false (.move (.tmp 5)), .pure (some 12) false (.move (.tmp 0)), .pure (some 13) false (.call (.mk (.builtin .len) #[.tmp 12] #[27])), .pure (some 14) false (.binOp .lss 3 (.tmp 11) (.tmp 13) 3)]
abbrev p_ref02_Same_4 : List Nat := [0, 1, 2, 3]
def s_ref02_Same_6 : SP := (.one (.pure (some 17) false (.move (.tmp 0))) (.one (.pure (some 18) false (.move (.tmp 5))) (.one (.pure (some 19) false (.indexAddr 27 (.tmp 17) (.tmp 18))) (.one (.pure (some 21) false (.move (.tmp 1))) (.one (.pure (some 22) false (.move (.tmp 5))) (.one (.pure (some 23) false (.indexAddr 27 (.tmp 21) (.tmp 22))) (.one (.read (some 20) false (.load 5 (.tmp 19))) (.one (.read (some 24) false (.load 5 (.tmp 23))) (.one (.pure (some 25) false (.binOp .neq 5 (.tmp 20) (.tmp 24) 5)) .done)))))))))
abbrev p_ref02_Same_6 : PC := (.calm 0 268 (.calm 1 268 (.calm 2 264 (.calm 4 448 (.calm 5 448 (.calm 6 384 (.calm 3 256 (.calm 7 256 (.calm 8 0 .done)))))))))
abbrev g_ref02_Same_6 : List Dg := [⟨0, 1, 131072, .pure, true⟩, ⟨0, 32, 262144, .pure, true⟩, ⟨3, 393216, 524288, .pure, true⟩, ⟨4, 524288, 1048576, .read, true⟩, ⟨0, 2, 2097152, .pure, true⟩, ⟨0, 32, 4194304, .pure, true⟩, ⟨48, 6291456, 8388608, .pure, true⟩, ⟨64, 8388608, 16777216, .read, true⟩, ⟨136, 17825792, 33554432, .pure, true⟩]
abbrev q_ref02_Same_6 : List Nat := []
def s_ref02_Same_7 : List AStep := [.pure (some 4) false (.assign (.const (.bool false)))]
abbrev p_ref02_Same_7 : List Nat := [0]
def s_ref02_Same_5 : List AStep := [.pure (some 15) false (.move (.tmp 5)), .pure (some 16) false (.binOp .add 3 (.tmp 15) (.const (.int .i64 1)) 3), .pure (some 5) false (.assign (.tmp 16))]
abbrev p_ref02_Same_5 : List Nat := [0, 1, 2]
def s_ref02_Same_8 : List AStep := [.pure (some 4) false (.assign (.const (.bool true)))]
abbrev p_ref02_Same_8 : List Nat := [0]

/-! erewhile/delta.Right -/
abbrev n_delta_Right : Nat := 9
theorem func_delta_Right : Try.prog.funcs[n_delta_Right]? = some Try.f9 := Try.func9
theorem call_delta_Right : ∀ args w, (callFunc n_delta_Right args).run Try.prog w = .ok (.enter n_delta_Right args) w := Try.call9
theorem nt_delta_Right : Try.f9.ntmps = 5 := Try.ntmps9
theorem rs_delta_Right : Try.f9.results.toList = [.tmp 2] := by rw [Try.results9]
def s_delta_Right_0 : List AStep := [.pure (some 2) false (.assign (.const (.bool false)))]
abbrev p_delta_Right_0 : List Nat := [0]
abbrev q_delta_Right_1 : List Nat := [1001]
def s_delta_Right_1 : List AStep := [.pure (some 3) false (.move (.tmp 0)), .mcall (some 4) false ⟨.value (.func 11), #[.tmp 3, .func 13], #[27, 44]⟩, .pure (some 2) false (.assign (.tmp 4))]
abbrev p_delta_Right_1 : List Nat := [0, 1, 2]

/-! erewhile/wire.Xor -/
abbrev n_wire_Xor : Nat := 10
theorem func_wire_Xor : Try.prog.funcs[n_wire_Xor]? = some Try.f10 := Try.func10
theorem call_wire_Xor : ∀ args w, (callFunc n_wire_Xor args).run Try.prog w = .ok (.enter n_wire_Xor args) w := Try.call10
theorem nt_wire_Xor : Try.f10.ntmps = 32 := Try.ntmps10
theorem rs_wire_Xor : Try.f10.results.toList = [.tmp 4] := by rw [Try.results10]
def s_wire_Xor_0 : List AStep := [.pure (some 4) false (.assign (.const (.slice none 0 0)))]
abbrev p_wire_Xor_0 : List Nat := [0]
def s_wire_Xor_1 : List AStep := [.pure (some 7) false (.move (.tmp 0)), .pure (some 8) false (.call (.mk (.builtin .len) #[.tmp 7] #[27])), .pure (some 9) false (.move (.tmp 1)), .pure (some 10) false (.call (.mk (.builtin .len) #[.tmp 9] #[27])), .pure (some 11) false (.call (.mk (.builtin .min) #[.tmp 8, .tmp 10] #[3, 3])), .eff (some 12) (.makeSlice 27 (.tmp 11) (.tmp 11)), .pure (some 5) false (.assign (.tmp 12))]
abbrev p_wire_Xor_1 : List Nat := [0, 1, 2, 3, 4, 5, 6]
def s_wire_Xor_2 : List AStep := [.pure (some 13) false (.move (.tmp 5)), .pure (some 14) false (.call (.mk (.builtin .len) #[.tmp 13] #[27])), .pure (some 15) false (.move (.const (.int .i64 0)))]
abbrev p_wire_Xor_2 : List Nat := [0, 1, 2]
def s_wire_Xor_3 : List AStep := [.pure (some 16) false (.binOp .lss 3 (.tmp 15) (.tmp 14) 3)]
abbrev p_wire_Xor_3 : List Nat := [0]
def s_wire_Xor_4 : List AStep := [.pure (some 17) false (.move (.tmp 15)), .pure (some 6) false (.assign (.tmp 17))]
abbrev p_wire_Xor_4 : List Nat := [0, 1]
def s_wire_Xor_5 : SP := (.one (.pure (some 18) false (.move (.tmp 5))) (.one (.pure (some 19) false (.move (.tmp 6))) (.one (.pure (some 20) false (.move (.tmp 0))) (.one (.pure (some 21) false (.move (.tmp 6))) (.one (.pure (some 22) false (.indexAddr 27 (.tmp 20) (.tmp 21))) (.one (.pure (some 24) false (.move (.tmp 1))) (.one (.pure (some 25) false (.move (.tmp 6))) (.one (.pure (some 26) false (.indexAddr 27 (.tmp 24) (.tmp 25))) (.one (.read (some 23) false (.load 5 (.tmp 22))) (.one (.read (some 27) false (.load 5 (.tmp 26))) (.one (.pure (some 28) false (.binOp .xor 5 (.tmp 23) (.tmp 27) 5)) (.one (.pure (some 29) false (.indexAddr 27 (.tmp 18) (.tmp 19))) (.one (.eff none (.store 5 (.tmp 29) (.tmp 28))) .done)))))))))))))
abbrev p_wire_Xor_5 : PC := (.calm 0 6144 (.calm 1 6144 (.calm 2 7216 (.calm 3 7216 (.calm 4 7200 (.calm 6 7936 (.calm 7 7936 (.calm 8 7680 (.calm 5 7168 (.calm 9 7168 (.calm 10 6144 (.calm 11 4096 (.act 12 .done)))))))))))))
abbrev g_wire_Xor_5 : List Dg := [⟨0, 32, 262144, .pure, true⟩, ⟨0, 64, 524288, .pure, true⟩, ⟨0, 1, 1048576, .pure, true⟩, ⟨0, 64, 2097152, .pure, true⟩, ⟨12, 3145728, 4194304, .pure, true⟩, ⟨16, 4194304, 8388608, .read, true⟩, ⟨0, 2, 16777216, .pure, true⟩, ⟨0, 64, 33554432, .pure, true⟩, ⟨192, 50331648, 67108864, .pure, true⟩, ⟨256, 67108864, 134217728, .read, true⟩, ⟨544, 142606336, 268435456, .pure, true⟩, ⟨2047, 786432, 536870912, .pure, true⟩, ⟨4095, 805306368, 0, .eff, false⟩]
abbrev q_wire_Xor_5 : List Nat := []
def s_wire_Xor_6 : List AStep := [.pure (some 30) false (.binOp .add 3 (.tmp 15) (.const (.int .i64 1)) 3), .pure (some 15) false (.move (.tmp 30))]
abbrev p_wire_Xor_6 : List Nat := [0, 1]
def s_wire_Xor_7 : List AStep := [.pure (some 31) false (.move (.tmp 5)), .pure (some 4) false (.assign (.tmp 31))]
abbrev p_wire_Xor_7 : List Nat := [0, 1]

/-! erewhile/delta.runs -/
abbrev n_delta_runs : Nat := 11
theorem func_delta_runs : Try.prog.funcs[n_delta_runs]? = some Try.f11 := Try.func11
theorem call_delta_runs : ∀ args w, (callFunc n_delta_runs args).run Try.prog w = .ok (.enter n_delta_runs args) w := Try.call11
theorem nt_delta_runs : Try.f11.ntmps = 60 := Try.ntmps11
theorem rs_delta_runs : Try.f11.results.toList = [.tmp 4] := by rw [Try.results11]
def s_delta_runs_0 : List AStep := [.pure (some 4) false (.assign (.const (.bool false)))]
abbrev p_delta_runs_0 : List Nat := [0]
def s_delta_runs_1 : List AStep := [.pure (some 8) false (.move (.tmp 0)), .pure (some 9) false (.call (.mk (.builtin .len) #[.tmp 8] #[27])), .pure (some 10) false (.binOp .gtr 3 (.tmp 9) (.const (.int .i64 20)) 3)]
abbrev p_delta_runs_1 : List Nat := [0, 1, 2]
def s_delta_runs_2 : List AStep := [.pure (some 4) false (.assign (.const (.bool false)))]
abbrev p_delta_runs_2 : List Nat := [0]
def s_delta_runs_3 : List AStep := [.pure (some 5) false (.assign (.const (.int .i64 0)))]
abbrev p_delta_runs_3 : List Nat := [0]
def s_delta_runs_4 : List AStep := [.pure (some 11) false (.move (.tmp 0)), .pure (some 12) false (.call (.mk (.builtin .len) #[.tmp 11] #[27])), .pure (some 13) false (.binOp .gtr 3 (.tmp 12) (.const (.int .i64 0)) 3)]
abbrev p_delta_runs_4 : List Nat := [0, 1, 2]
def s_delta_runs_5 : List AStep := [.pure (some 14) false (.move (.tmp 0)), .pure (some 15) false (.call (.mk (.builtin .len) #[.tmp 14] #[27])), .pure (some 16) false (.binOp .lss 3 (.tmp 15) (.const (.int .i64 2)) 3)]
abbrev p_delta_runs_5 : List Nat := [0, 1, 2]
def s_delta_runs_6 : List AStep := [.pure (some 4) false (.assign (.const (.bool false)))]
abbrev p_delta_runs_6 : List Nat := [0]
def s_delta_runs_7 : SP := (.one (.pure (some 17) false (.move (.tmp 0))) (.one (.pure (some 18) false (.indexAddr 27 (.tmp 17) (.const (.int .i64 0)))) (.one (.pure (some 21) false (.move (.tmp 0))) (.one (.pure (some 22) false (.indexAddr 27 (.tmp 21) (.const (.int .i64 1)))) (.one (.read (some 19) false (.load 5 (.tmp 18))) (.one (.pure (some 20) false (.convert 5 3 (.tmp 19))) (.one (.pure (some 6) false (.assign (.tmp 20))) (.one (.read (some 23) false (.load 5 (.tmp 22))) (.one (.pure (some 24) false (.convert 5 3 (.tmp 23))) (.one (.pure (some 7) false (.assign (.tmp 24))) .done))))))))))
abbrev p_delta_runs_7 : PC := (.calm 0 782 (.calm 1 780 (.calm 4 736 (.calm 5 704 (.calm 2 776 (.calm 3 768 (.calm 8 512 (.calm 6 640 (.calm 7 512 (.calm 9 0 .done))))))))))
abbrev g_delta_runs_7 : List Dg := [⟨0, 1, 131072, .pure, true⟩, ⟨1, 131072, 262144, .pure, true⟩, ⟨2, 262144, 524288, .read, true⟩, ⟨4, 524288, 1048576, .pure, true⟩, ⟨0, 1, 2097152, .pure, true⟩, ⟨16, 2097152, 4194304, .pure, true⟩, ⟨32, 4194304, 8388608, .read, true⟩, ⟨64, 8388608, 16777216, .pure, true⟩, ⟨15, 1048576, 64, .pure, true⟩, ⟨511, 16777216, 128, .pure, true⟩]
abbrev q_delta_runs_7 : List Nat := []
def s_delta_runs_8 : List AStep := [.pure (some 25) false (.move (.tmp 7)), .pure (some 26) false (.binOp .lss 3 (.tmp 25) (.const (.int .i64 1)) 3), .pure (some 27) true (.move (.tmp 26)), .guard 27 false (.pure (some 28) false (.move (.tmp 7))), .guard 27 false (.pure (some 29) false (.move (.tmp 0))), .guard 27 false (.pure (some 30) false (.call (.mk (.builtin .len) #[.tmp 29] #[27]))), .guard 27 false (.pure (some 31) false (.binOp .sub 3 (.tmp 30) (.const (.int .i64 2)) 3)), .guard 27 false (.pure (some 32) false (.binOp .gtr 3 (.tmp 28) (.tmp 31) 3)), .pure (some 33) false (.pick (.tmp 27) (.const (.bool true)) (.tmp 32)), .pure (some 34) true (.move (.tmp 33)), .guard 34 false (.pure (some 35) false (.move (.tmp 6))), .guard 34 false (.pure (some 36) false (.move (.tmp 5))), .guard 34 false (.pure (some 37) false (.binOp .lss 3 (.tmp 35) (.tmp 36) 3)), .pure (some 38) false (.pick (.tmp 34) (.const (.bool true)) (.tmp 37)), .pure (some 39) true (.move (.tmp 38)), .guard 39 false (.pure (some 40) false (.move (.tmp 6))), .guard 39 false (.pure (some 41) false (.move (.tmp 7))), .guard 39 false (.pure (some 42) false (.binOp .add 3 (.tmp 40) (.tmp 41) 3)), .guard 39 false (.pure (some 43) false (.binOp .gtr 3 (.tmp 42) (.const (.int .i64 32)) 3)), .pure (some 44) false (.pick (.tmp 39) (.const (.bool true)) (.tmp 43))]
abbrev p_delta_runs_8 : List Nat := [0, 1, 2, 3, 4, 5, 6, 7, 8, 9, 10, 11, 12, 13, 14, 15, 16, 17, 18, 19]
def s_delta_runs_9 : List AStep := [.pure (some 4) false (.assign (.const (.bool false)))]
abbrev p_delta_runs_9 : List Nat := [0]
abbrev q_delta_runs_10 : List Nat := [1006]
def s_delta_runs_10 : List AStep := [.pure (some 45) false (.move (.tmp 1)), .pure (some 46) false (.move (.tmp 6)), .pure (some 47) false (.move (.tmp 0)), .pure (some 48) false (.move (.tmp 7)), .pure (some 49) false (.binOp .add 3 (.const (.int .i64 2)) (.tmp 48) 3), .pure (some 50) false (.slice 27 (.tmp 47) (some (.const (.int .i64 2))) (some (.tmp 49)) none), .mcall (some 51) false ⟨.value (.tmp 45), #[.tmp 46, .tmp 50], #[3, 27]⟩]
abbrev p_delta_runs_10 : List Nat := [0, 1, 2, 3, 4, 5, 6]
def s_delta_runs_11 : List AStep := [.pure (some 52) false (.move (.tmp 0)), .pure (some 53) false (.move (.tmp 7)), .pure (some 54) false (.binOp .add 3 (.const (.int .i64 2)) (.tmp 53) 3), .pure (some 55) false (.slice 27 (.tmp 52) (some (.tmp 54)) none none), .pure (some 56) false (.move (.tmp 6)), .pure (some 57) false (.move (.tmp 7)), .pure (some 58) false (.binOp .add 3 (.tmp 56) (.tmp 57) 3), .pure (some 59) false (.binOp .add 3 (.tmp 58) (.const (.int .i64 1)) 3), .pure (some 0) false (.assign (.tmp 55)), .pure (some 5) false (.assign (.tmp 59))]
abbrev p_delta_runs_11 : List Nat := [0, 1, 2, 3, 4, 5, 6, 7, 8, 9]
def s_delta_runs_12 : List AStep := [.pure (some 4) false (.assign (.const (.bool true)))]
abbrev p_delta_runs_12 : List Nat := [0]

/-! erewhile/delta.Apply$1 -/
abbrev n_delta_Apply_1 : Nat := 12
theorem func_delta_Apply_1 : Try.prog.funcs[n_delta_Apply_1]? = some Try.f12 := Try.func12
theorem call_delta_Apply_1 : ∀ args w, (callFunc n_delta_Apply_1 args).run Try.prog w = .ok (.enter n_delta_Apply_1 args) w := Try.call12
theorem nt_delta_Apply_1 : Try.f12.ntmps = 9 := Try.ntmps12
theorem rs_delta_Apply_1 : Try.f12.results.toList = [] := by rw [Try.results12]
def s_delta_Apply_1_0 : List AStep := [.pure (some 5) false (.move (.tmp 0)), .pure (some 6) false (.slice 23 (.tmp 2) (some (.tmp 5)) none none), .pure (some 7) false (.move (.tmp 1)), .eff (some 8) (.call (.mk (.builtin .copy) #[.tmp 6, .tmp 7] #[27, 27]))]
abbrev p_delta_Apply_1_0 : List Nat := [0, 1, 2, 3]

/-! erewhile/delta.Right$1 -/
abbrev n_delta_Right_1 : Nat := 13
theorem func_delta_Right_1 : Try.prog.funcs[n_delta_Right_1]? = some Try.f13 := Try.func13
theorem call_delta_Right_1 : ∀ args w, (callFunc n_delta_Right_1 args).run Try.prog w = .ok (.enter n_delta_Right_1 args) w := Try.call13
theorem nt_delta_Right_1 : Try.f13.ntmps = 4 := Try.ntmps13
theorem rs_delta_Right_1 : Try.f13.results.toList = [] := by rw [Try.results13]

/-! (erewhile/erewhilelaw05.Lit).Pad -/
abbrev n_law05_Lit_Pad : Nat := 29
theorem func_law05_Lit_Pad : Try.prog.funcs[n_law05_Lit_Pad]? = some Try.f29 := Try.func29
theorem call_law05_Lit_Pad : ∀ args w, (callFunc n_law05_Lit_Pad args).run Try.prog w = .ok (.enter n_law05_Lit_Pad args) w := Try.call29
theorem nt_law05_Lit_Pad : Try.f29.ntmps = 36 := Try.ntmps29
theorem rs_law05_Lit_Pad : Try.f29.results.toList = [.cell 6 23] := by rw [Try.results29]
def s_law05_Lit_Pad_0 : List AStep := [.eff (some 3) (.box 32 (.tmp 0)), .eff (some 4) (.box 24 (.tmp 1)), .eff (some 6) (.alloc 23)]
abbrev p_law05_Lit_Pad_0 : List Nat := [0, 1, 2]
def s_law05_Lit_Pad_1 : List AStep := [.read (some 9) false (.load 24 (.tmp 4)), .pure (some 10) false (.move (.tmp 2)), .call (some 11) false ⟨.value (.func 30), #[.tmp 9, .tmp 10], #[24, 25]⟩, .eff (some 7) (.alloc 23), .eff none (.store 23 (.tmp 7) (.tmp 11))]
abbrev p_law05_Lit_Pad_1 : List Nat := [0, 1, 2, 3, 4]
def s_law05_Lit_Pad_2 : List AStep := [.read (some 12) false (.load 24 (.tmp 4)), .pure (some 13) false (.fieldAddr 32 (.tmp 3) 0), .read (some 14) false (.load 24 (.tmp 13)), .pure (some 15) false (.binOp .eql 24 (.tmp 12) (.tmp 14) 24), .pure (some 16) true (.move (.tmp 15)), .guard 16 true (.pure (some 17) false (.move (.tmp 2))), .guard 16 true (.pure (some 18) false (.fieldAddr 32 (.tmp 3) 1)), .guard 16 true (.read (some 19) false (.load 25 (.tmp 18))), .guard 16 true (.pure (some 20) false (.binOp .eql 25 (.tmp 17) (.tmp 19) 25)), .pure (some 21) false (.pick (.tmp 16) (.tmp 20) (.const (.bool false)))]
abbrev p_law05_Lit_Pad_2 : List Nat := [0, 1, 2, 3, 4, 5, 6, 7, 8, 9]
def s_law05_Lit_Pad_3 : List AStep := [.pure (some 8) false (.assign (.const (.int .i64 0)))]
abbrev p_law05_Lit_Pad_3 : List Nat := [0]
def s_law05_Lit_Pad_4 : List AStep := [.pure (some 22) false (.move (.tmp 8)), .pure (some 23) false (.binOp .lss 3 (.tmp 22) (.const (.int .i64 32)) 3)]
abbrev p_law05_Lit_Pad_4 : List Nat := [0, 1]
def s_law05_Lit_Pad_6 : SP := (.one (.pure (some 26) false (.move (.tmp 8))) (.one (.pure (some 27) false (.indexAddr 23 (.tmp 7) (.tmp 26))) (.one (.pure (some 29) false (.move (.tmp 8))) (.one (.pure (some 30) false (.fieldAddr 32 (.tmp 3) 2)) (.one (.pure (some 31) false (.indexAddr 23 (.tmp 30) (.tmp 29))) (.one (.read (some 28) false (.load 5 (.tmp 27))) (.one (.read (some 32) false (.load 5 (.tmp 31))) (.one (.pure (some 33) false (.binOp .xor 5 (.tmp 28) (.tmp 32) 5)) (.one (.pure (some 34) false (.indexAddr 23 (.tmp 7) (.tmp 26))) (.one (.eff none (.store 5 (.tmp 34) (.tmp 33))) .done))))))))))
abbrev p_law05_Lit_Pad_6 : PC := (.calm 0 902 (.calm 1 900 (.calm 3 992 (.calm 4 992 (.calm 5 960 (.calm 2 896 (.calm 6 896 (.calm 7 768 (.calm 8 512 (.act 9 .done))))))))))
abbrev g_law05_Lit_Pad_6 : List Dg := [⟨0, 256, 67108864, .pure, true⟩, ⟨1, 67108992, 134217728, .pure, true⟩, ⟨2, 134217728, 268435456, .read, true⟩, ⟨0, 256, 536870912, .pure, true⟩, ⟨0, 8, 1073741824, .pure, true⟩, ⟨24, 1610612736, 2147483648, .pure, true⟩, ⟨32, 2147483648, 4294967296, .read, true⟩, ⟨68, 4563402752, 8589934592, .pure, true⟩, ⟨255, 67108992, 17179869184, .pure, true⟩, ⟨511, 25769803776, 0, .eff, false⟩]
abbrev q_law05_Lit_Pad_6 : List Nat := []
def s_law05_Lit_Pad_5 : List AStep := [.pure (some 24) false (.move (.tmp 8)), .pure (some 25) false (.binOp .add 3 (.tmp 24) (.const (.int .i64 1)) 3), .pure (some 8) false (.assign (.tmp 25))]
abbrev p_law05_Lit_Pad_5 : List Nat := [0, 1, 2]
def s_law05_Lit_Pad_7 : List AStep := [.read (some 35) false (.load 23 (.tmp 7)), .eff none (.store 23 (.tmp 6) (.tmp 35))]
abbrev p_law05_Lit_Pad_7 : List Nat := [0, 1]

/-! erewhile/erewhileref05.LitPad -/
abbrev n_ref05_LitPad : Nat := 30
theorem func_ref05_LitPad : Try.prog.funcs[n_ref05_LitPad]? = some Try.f30 := Try.func30
theorem call_ref05_LitPad : ∀ args w, (callFunc n_ref05_LitPad args).run Try.prog w = .ok (.enter n_ref05_LitPad args) w := Try.call30
theorem nt_ref05_LitPad : Try.f30.ntmps = 42 := Try.ntmps30
theorem rs_ref05_LitPad : Try.f30.results.toList = [.cell 4 23] := by rw [Try.results30]
def s_ref05_LitPad_0 : List AStep := [.eff (some 2) (.box 24 (.tmp 0)), .eff (some 4) (.alloc 23)]
abbrev p_ref05_LitPad_0 : List Nat := [0, 1]
def s_ref05_LitPad_1 : List AStep := [.eff (some 5) (.alloc 23)]
abbrev p_ref05_LitPad_1 : List Nat := [0]
def s_ref05_LitPad_2 : List AStep := [.pure (some 8) false (.indexAddr 24 (.tmp 2) (.const (.int .i64 0))), .read (some 9) false (.load 5 (.tmp 8)), .pure (some 10) false (.convert 5 25 (.tmp 9)), .pure (some 11) false (.indexAddr 24 (.tmp 2) (.const (.int .i64 1))), .read (some 12) false (.load 5 (.tmp 11)), .pure (some 13) false (.convert 5 25 (.tmp 12)), .pure (some 14) false (.binOp .mul 25 (.const (.int .u64 256)) (.tmp 13) 25), .pure (some 15) false (.binOp .add 25 (.tmp 10) (.tmp 14) 25), .pure (some 16) false (.indexAddr 24 (.tmp 2) (.const (.int .i64 2))), .read (some 17) false (.load 5 (.tmp 16)), .pure (some 18) false (.convert 5 25 (.tmp 17)), .pure (some 19) false (.binOp .mul 25 (.const (.int .u64 65536)) (.tmp 18) 25), .pure (some 20) false (.binOp .add 25 (.tmp 15) (.tmp 19) 25), .pure (some 21) false (.binOp .add 25 (.tmp 20) (.const (.int .u64 7)) 25), .pure (some 6) false (.assign (.tmp 21))]
abbrev p_ref05_LitPad_2 : List Nat := [0, 1, 2, 3, 4, 5, 6, 7, 8, 9, 10, 11, 12, 13, 14]
def s_ref05_LitPad_3 : List AStep := [.pure (some 7) false (.assign (.const (.int .i64 0)))]
abbrev p_ref05_LitPad_3 : List Nat := [0]
def s_ref05_LitPad_4 : List AStep := [.pure (some 22) false (.move (.tmp 7)), .pure (some 23) false (.binOp .lss 3 (.tmp 22) (.const (.int .i64 32)) 3)]
abbrev p_ref05_LitPad_4 : List Nat := [0, 1]
def s_ref05_LitPad_6 : List AStep := [.pure (some 26) false (.move (.tmp 6)), .pure (some 27) false (.binOp .mul 25 (.tmp 26) (.const (.int .u64 6364136223846793005)) 25), .pure (some 28) false (.binOp .add 25 (.tmp 27) (.const (.int .u64 1442695040888963407)) 25), .pure (some 29) false (.move (.tmp 1)), .pure (some 30) false (.binOp .add 25 (.tmp 28) (.tmp 29) 25), .pure (some 31) false (.move (.tmp 7)), .pure (some 32) false (.indexAddr 24 (.tmp 2) (.tmp 31)), .read (some 33) false (.load 5 (.tmp 32)), .pure (some 34) false (.convert 5 25 (.tmp 33)), .pure (some 35) false (.binOp .add 25 (.tmp 30) (.tmp 34) 25), .pure (some 6) false (.assign (.tmp 35))]
abbrev p_ref05_LitPad_6 : List Nat := [0, 1, 2, 3, 4, 5, 6, 7, 8, 9, 10]
def s_ref05_LitPad_7 : List AStep := [.pure (some 36) false (.move (.tmp 7)), .pure (some 37) false (.move (.tmp 6)), .pure (some 38) false (.binOp .shr 25 (.tmp 37) (.const (.int .u64 56)) 61), .pure (some 39) false (.convert 25 5 (.tmp 38)), .pure (some 40) false (.indexAddr 23 (.tmp 5) (.tmp 36)), .eff none (.store 5 (.tmp 40) (.tmp 39))]
abbrev p_ref05_LitPad_7 : List Nat := [0, 1, 2, 3, 4, 5]
def s_ref05_LitPad_5 : List AStep := [.pure (some 24) false (.move (.tmp 7)), .pure (some 25) false (.binOp .add 3 (.tmp 24) (.const (.int .i64 1)) 3), .pure (some 7) false (.assign (.tmp 25))]
abbrev p_ref05_LitPad_5 : List Nat := [0, 1, 2]
def s_ref05_LitPad_8 : List AStep := [.read (some 41) false (.load 23 (.tmp 5)), .eff none (.store 23 (.tmp 4) (.tmp 41))]
abbrev p_ref05_LitPad_8 : List Nat := [0, 1]

end Go.Proofs.Ytdefgbfcafdbpaa
