/- The names of the functions, the steps of their regions, and facts on types, printed by a program out of the loaded program. -/
import Derived.Test.YtopiceaeombefaaSyB
import Derived.Test.YtopiceaeombefaaProg
import Derived.KernelRfl
namespace Go.Proofs.Ytopiceaeombefaa
open Go Go.Proofs.Ytopiceaeombefaa.Sy
set_option linter.unusedVariables false

/-- The types. -/
theorem ty0 : Try.prog.underlying 3 = some (.int .i64) := Try.underlying3
theorem ty1 : Try.prog.underlying 5 = some (.int .u8) := Try.underlying5
theorem ty2 : Try.prog.underlying 29 = some (.int .u64) := Try.underlying29
theorem ty3 : Try.prog.underlying 52 = some (.array 32 5) := Try.underlying52
theorem ty4 : Try.prog.underlying 53 = some (.pointer 92) := Try.underlying53
theorem ty5 : Try.prog.underlying 90 = some (.slice 89) := Try.underlying90
theorem ty6 : Try.prog.underlying 93 = some (.array 64 5) := Try.underlying93
theorem ty7 : Try.prog.underlying 95 = some (.int .u32) := Try.underlying95
theorem ty8 : Try.prog.underlying 96 = some (.slice 5) := Try.underlying96
theorem ty9 : Try.prog.underlying 128 = some (.array 16 95) := Try.underlying128
theorem ty10 : Try.prog.underlying 138 = some (.int .u64) := Try.underlying138
theorem ty11 : Try.prog.cellsOf 3 = 1 := by kernel_rfl
theorem ty12 : Try.prog.cellsOf 5 = 1 := by kernel_rfl
theorem ty13 : Try.prog.cellsOf 29 = 1 := by kernel_rfl
theorem ty14 : Try.prog.cellsOf 52 = 32 := by kernel_rfl
theorem ty15 : Try.prog.cellsOf 53 = 1 := by kernel_rfl
theorem ty16 : Try.prog.cellsOf 56 = 0 := by kernel_rfl
theorem ty17 : Try.prog.cellsOf 87 = 1 := by kernel_rfl
theorem ty18 : Try.prog.cellsOf 89 = 34 := by kernel_rfl
theorem ty19 : Try.prog.cellsOf 90 = 1 := by kernel_rfl
theorem ty20 : Try.prog.cellsOf 92 = 2 := by kernel_rfl
theorem ty21 : Try.prog.cellsOf 93 = 64 := by kernel_rfl
theorem ty22 : Try.prog.cellsOf 95 = 1 := by kernel_rfl
theorem ty23 : Try.prog.cellsOf 96 = 1 := by kernel_rfl
theorem ty24 : Try.prog.cellsOf 100 = 1 := by kernel_rfl
theorem ty25 : Try.prog.cellsOf 103 = 1 := by kernel_rfl
theorem ty26 : Try.prog.cellsOf 128 = 16 := by kernel_rfl
theorem ty27 : Try.prog.cellsOf 133 = 1 := by kernel_rfl
theorem ty28 : Try.prog.cellsOf 138 = 1 := by kernel_rfl
theorem ty29 : Try.prog.bytesOf 5 = 1 := by kernel_rfl
theorem ty30 : zeroCellsOf Try.prog 3 = some (#[.int .i64 0]) := by kernel_rfl
theorem ty31 : zeroCellsOf Try.prog 5 = some (#[.int .u8 0]) := by kernel_rfl
theorem ty32 : zeroCellsOf Try.prog 29 = some (#[.int .u64 0]) := by kernel_rfl
theorem ty33 : zeroCellsOf Try.prog 52 = some (Array.replicate 32 (.int .u8 0)) := by kernel_rfl
theorem ty34 : Try.prog.eqGuardType Try.prog.depth 52 = false := by kernel_rfl
theorem ty35 : zeroCellsOf Try.prog 53 = some #[.pointer none] := by kernel_rfl
theorem ty36 : zeroCellsOf Try.prog 90 = some #[.slice none 0 0] := by kernel_rfl
theorem ty37 : zeroCellsOf Try.prog 93 = some (Array.replicate 64 (.int .u8 0)) := by kernel_rfl
theorem ty38 : Try.prog.eqGuardType Try.prog.depth 93 = false := by kernel_rfl
theorem ty39 : zeroCellsOf Try.prog 95 = some (#[.int .u32 0]) := by kernel_rfl
theorem ty40 : zeroCellsOf Try.prog 96 = some #[.slice none 0 0] := by kernel_rfl
theorem ty41 : zeroCellsOf Try.prog 128 = some (Array.replicate 16 (.int .u32 0)) := by kernel_rfl
theorem ty42 : Try.prog.eqGuardType Try.prog.depth 128 = false := by kernel_rfl
theorem ty43 : zeroCellsOf Try.prog 138 = some (#[.int .u64 0]) := by kernel_rfl
theorem ty : (Try.prog.underlying 3 = some (.int .i64)) ∧ (Try.prog.underlying 5 = some (.int .u8)) ∧ (Try.prog.underlying 29 = some (.int .u64)) ∧ (Try.prog.underlying 52 = some (.array 32 5)) ∧ (Try.prog.underlying 53 = some (.pointer 92)) ∧ (Try.prog.underlying 90 = some (.slice 89)) ∧ (Try.prog.underlying 93 = some (.array 64 5)) ∧ (Try.prog.underlying 95 = some (.int .u32)) ∧ (Try.prog.underlying 96 = some (.slice 5)) ∧ (Try.prog.underlying 128 = some (.array 16 95)) ∧ (Try.prog.underlying 138 = some (.int .u64)) ∧ (Try.prog.cellsOf 3 = 1) ∧ (Try.prog.cellsOf 5 = 1) ∧ (Try.prog.cellsOf 29 = 1) ∧ (Try.prog.cellsOf 52 = 32) ∧ (Try.prog.cellsOf 53 = 1) ∧ (Try.prog.cellsOf 56 = 0) ∧ (Try.prog.cellsOf 87 = 1) ∧ (Try.prog.cellsOf 89 = 34) ∧ (Try.prog.cellsOf 90 = 1) ∧ (Try.prog.cellsOf 92 = 2) ∧ (Try.prog.cellsOf 93 = 64) ∧ (Try.prog.cellsOf 95 = 1) ∧ (Try.prog.cellsOf 96 = 1) ∧ (Try.prog.cellsOf 100 = 1) ∧ (Try.prog.cellsOf 103 = 1) ∧ (Try.prog.cellsOf 128 = 16) ∧ (Try.prog.cellsOf 133 = 1) ∧ (Try.prog.cellsOf 138 = 1) ∧ (Try.prog.bytesOf 5 = 1) ∧ (zeroCellsOf Try.prog 3 = some (#[.int .i64 0])) ∧ (zeroCellsOf Try.prog 5 = some (#[.int .u8 0])) ∧ (zeroCellsOf Try.prog 29 = some (#[.int .u64 0])) ∧ (zeroCellsOf Try.prog 52 = some (Array.replicate 32 (.int .u8 0))) ∧ (Try.prog.eqGuardType Try.prog.depth 52 = false) ∧ (zeroCellsOf Try.prog 53 = some #[.pointer none]) ∧ (zeroCellsOf Try.prog 90 = some #[.slice none 0 0]) ∧ (zeroCellsOf Try.prog 93 = some (Array.replicate 64 (.int .u8 0))) ∧ (Try.prog.eqGuardType Try.prog.depth 93 = false) ∧ (zeroCellsOf Try.prog 95 = some (#[.int .u32 0])) ∧ (zeroCellsOf Try.prog 96 = some #[.slice none 0 0]) ∧ (zeroCellsOf Try.prog 128 = some (Array.replicate 16 (.int .u32 0))) ∧ (Try.prog.eqGuardType Try.prog.depth 128 = false) ∧ (zeroCellsOf Try.prog 138 = some (#[.int .u64 0])) := ⟨ty0, ty1, ty2, ty3, ty4, ty5, ty6, ty7, ty8, ty9, ty10, ty11, ty12, ty13, ty14, ty15, ty16, ty17, ty18, ty19, ty20, ty21, ty22, ty23, ty24, ty25, ty26, ty27, ty28, ty29, ty30, ty31, ty32, ty33, ty34, ty35, ty36, ty37, ty38, ty39, ty40, ty41, ty42, ty43⟩
theorem ui_56 : type_of% Try.underlying56 := Try.underlying56
theorem ui_87 : type_of% Try.underlying87 := Try.underlying87
theorem ui_89 : type_of% Try.underlying89 := Try.underlying89
theorem ui_100 : type_of% Try.underlying100 := Try.underlying100
theorem ui_103 : type_of% Try.underlying103 := Try.underlying103
theorem ui_133 : type_of% Try.underlying133 := Try.underlying133
theorem zr0 {ι : Type} : (zrow Try.prog 3 : Option (Row ι)) = some (.ints .i64 (List.replicate 1 0)) := by kernel_rfl
theorem zr1 {ι : Type} : (zrow Try.prog 5 : Option (Row ι)) = some (.ints .u8 (List.replicate 1 0)) := by kernel_rfl
theorem zr2 {ι : Type} : (zrow Try.prog 29 : Option (Row ι)) = some (.ints .u64 (List.replicate 1 0)) := by kernel_rfl
theorem zr3 {ι : Type} : (zrow Try.prog 52 : Option (Row ι)) = some (.ints .u8 (List.replicate 32 0)) := by kernel_rfl
theorem zr4 {ι : Type} : (zrow Try.prog 93 : Option (Row ι)) = some (.ints .u8 (List.replicate 64 0)) := by kernel_rfl
theorem zr5 {ι : Type} : (zrow Try.prog 95 : Option (Row ι)) = some (.ints .u32 (List.replicate 1 0)) := by kernel_rfl
theorem zr6 {ι : Type} : (zrow Try.prog 128 : Option (Row ι)) = some (.ints .u32 (List.replicate 16 0)) := by kernel_rfl
theorem zr7 {ι : Type} : (zrow Try.prog 138 : Option (Row ι)) = some (.ints .u64 (List.replicate 1 0)) := by kernel_rfl
theorem zr {ι : Type} : ((zrow Try.prog 3 : Option (Row ι)) = some (.ints .i64 (List.replicate 1 0))) ∧ ((zrow Try.prog 5 : Option (Row ι)) = some (.ints .u8 (List.replicate 1 0))) ∧ ((zrow Try.prog 29 : Option (Row ι)) = some (.ints .u64 (List.replicate 1 0))) ∧ ((zrow Try.prog 52 : Option (Row ι)) = some (.ints .u8 (List.replicate 32 0))) ∧ ((zrow Try.prog 93 : Option (Row ι)) = some (.ints .u8 (List.replicate 64 0))) ∧ ((zrow Try.prog 95 : Option (Row ι)) = some (.ints .u32 (List.replicate 1 0))) ∧ ((zrow Try.prog 128 : Option (Row ι)) = some (.ints .u32 (List.replicate 16 0))) ∧ ((zrow Try.prog 138 : Option (Row ι)) = some (.ints .u64 (List.replicate 1 0))) := ⟨zr0, zr1, zr2, zr3, zr4, zr5, zr6, zr7⟩
abbrev fs_56 : Array Field := #[]
theorem us_56 : Try.prog.underlying 56 = some (.struct fs_56) := Try.underlying56
theorem zc_56 : zeroCellsOf Try.prog 56 = some #[] := by kernel_rfl
theorem bd_56 {ι : Type} : ∀ (r : List (Nat × AV ι)) (C : AV ι → Prop), buildC Try.prog 56 r C = buildCells Try.prog fs_56 r [] (fun l => C (.agg l)) := fun r C => by
  unfold buildC; rw [us_56]; simp only [zc_56]; exact propext ⟨fun h => h.2.2, fun h => ⟨by decide +kernel, by kernel_rfl, h⟩⟩
theorem zs_56 {ι : Type} : (zrow Try.prog 56 : Option (Row ι)) = some (.mixed []) := by kernel_rfl
abbrev fs_89 : Array Field := #[{ name := "Depth", type := 3, offset := 0, embedded := false, tag := "", pkgPath := "", byteOffset := 0 }, { name := "At", type := 29, offset := 1, embedded := false, tag := "", pkgPath := "", byteOffset := 8 }, { name := "Seed", type := 52, offset := 2, embedded := false, tag := "", pkgPath := "", byteOffset := 16 }]
theorem us_89 : Try.prog.underlying 89 = some (.struct fs_89) := Try.underlying89
theorem fa_89_0 {ι : Type} : ∀ (id : ι) (off : Nat) (C : AV ι → Prop), fieldAddrC Try.prog 89 (.ptr id off) 0 C = C (.ptr id (off + 0)) := fun id off C => by
  simp only [fieldAddrC, us_89]; exact propext ⟨fun h => h.2.2, fun h => ⟨by kernel_rfl, by decide +kernel, h⟩⟩
theorem fv_89_0 {ι : Type} : ∀ (l : List (AV ι)) (C : AV ι → Prop), fieldC Try.prog 89 (.agg l) 0 C = (match l[0]? with | some v => C v | none => False) := fun l C => by
  simp only [fieldC, us_89]; exact propext ⟨fun h => h.2.2, fun h => ⟨by kernel_rfl, by kernel_rfl, h⟩⟩
theorem bc_89_0 {ι : Type} : ∀ (v : AV ι) (r : List (Nat × AV ι)) (l : List (AV ι)) (C : List (AV ι) → Prop), buildCells Try.prog fs_89 ((0, v) :: r) l C = (scalar v = true ∧ 0 < l.length ∧ buildCells Try.prog fs_89 r (l.set 0 v) C) := fun v r l C => by
  have hf : fs_89[0]? = some { name := "Depth", type := 3, offset := 0, embedded := false, tag := "", pkgPath := "", byteOffset := 0 } := rfl
  have ha : isAggT Try.prog 3 = false := by kernel_rfl
  simp only [buildCells, hf, ha]; exact propext ⟨fun h => h.2.2, fun h => ⟨by kernel_rfl, by decide +kernel, h⟩⟩
theorem fa_89_1 {ι : Type} : ∀ (id : ι) (off : Nat) (C : AV ι → Prop), fieldAddrC Try.prog 89 (.ptr id off) 1 C = C (.ptr id (off + 1)) := fun id off C => by
  simp only [fieldAddrC, us_89]; exact propext ⟨fun h => h.2.2, fun h => ⟨by kernel_rfl, by decide +kernel, h⟩⟩
theorem fv_89_1 {ι : Type} : ∀ (l : List (AV ι)) (C : AV ι → Prop), fieldC Try.prog 89 (.agg l) 1 C = (match l[1]? with | some v => C v | none => False) := fun l C => by
  simp only [fieldC, us_89]; exact propext ⟨fun h => h.2.2, fun h => ⟨by kernel_rfl, by kernel_rfl, h⟩⟩
theorem bc_89_1 {ι : Type} : ∀ (v : AV ι) (r : List (Nat × AV ι)) (l : List (AV ι)) (C : List (AV ι) → Prop), buildCells Try.prog fs_89 ((1, v) :: r) l C = (scalar v = true ∧ 1 < l.length ∧ buildCells Try.prog fs_89 r (l.set 1 v) C) := fun v r l C => by
  have hf : fs_89[1]? = some { name := "At", type := 29, offset := 1, embedded := false, tag := "", pkgPath := "", byteOffset := 8 } := rfl
  have ha : isAggT Try.prog 29 = false := by kernel_rfl
  simp only [buildCells, hf, ha]; exact propext ⟨fun h => h.2.2, fun h => ⟨by kernel_rfl, by decide +kernel, h⟩⟩
theorem fa_89_2 {ι : Type} : ∀ (id : ι) (off : Nat) (C : AV ι → Prop), fieldAddrC Try.prog 89 (.ptr id off) 2 C = C (.ptr id (off + 2)) := fun id off C => by
  simp only [fieldAddrC, us_89]; exact propext ⟨fun h => h.2.2, fun h => ⟨by kernel_rfl, by decide +kernel, h⟩⟩
theorem bw_89_2 {ι : Type} : ∀ (v : List Int) (r : List (Nat × AV ι)) (l : List (AV ι)) (C : List (AV ι) → Prop), buildCells Try.prog fs_89 ((2, .ints .u8 v) :: r) l C = (32 = v.length ∧ 2 + v.length ≤ l.length ∧ buildCells Try.prog fs_89 r (Sy.splice l 2 (flatI .u8 v)) C) := fun v r l C => by
  have hf : fs_89[2]? = some { name := "Seed", type := 52, offset := 2, embedded := false, tag := "", pkgPath := "", byteOffset := 16 } := rfl
  have ha : isAggT Try.prog 52 = true := by kernel_rfl
  have hc : Try.prog.cellsOf 52 = 32 := by kernel_rfl
  simp only [buildCells, hf, ha, wideL, hc, flatI_len]
theorem zc_89 : zeroCellsOf Try.prog 89 = some #[.int .i64 0, .int .u64 0, .int .u8 0, .int .u8 0, .int .u8 0, .int .u8 0, .int .u8 0, .int .u8 0, .int .u8 0, .int .u8 0, .int .u8 0, .int .u8 0, .int .u8 0, .int .u8 0, .int .u8 0, .int .u8 0, .int .u8 0, .int .u8 0, .int .u8 0, .int .u8 0, .int .u8 0, .int .u8 0, .int .u8 0, .int .u8 0, .int .u8 0, .int .u8 0, .int .u8 0, .int .u8 0, .int .u8 0, .int .u8 0, .int .u8 0, .int .u8 0, .int .u8 0, .int .u8 0] := by kernel_rfl
theorem bd_89 {ι : Type} : ∀ (r : List (Nat × AV ι)) (C : AV ι → Prop), buildC Try.prog 89 r C = buildCells Try.prog fs_89 r (.int .i64 0 :: (.int .u64 0 :: (flatI .u8 (List.replicate 32 0)))) (fun l => C (.agg l)) := fun r C => by
  unfold buildC; rw [us_89]; simp only [zc_89]; exact propext ⟨fun h => h.2.2, fun h => ⟨by decide +kernel, by kernel_rfl, h⟩⟩
theorem zs_89 {ι : Type} : (zrow Try.prog 89 : Option (Row ι)) = some (.mixed (.int .i64 0 :: (.int .u64 0 :: (flatI .u8 (List.replicate 32 0))))) := by kernel_rfl
abbrev fs_92 : Array Field := #[{ name := "c", type := 87, offset := 0, embedded := false, tag := "", pkgPath := "erewhile/keytree", byteOffset := 0 }, { name := "held", type := 90, offset := 1, embedded := false, tag := "", pkgPath := "erewhile/keytree", byteOffset := 16 }]
theorem us_92 : Try.prog.underlying 92 = some (.struct fs_92) := Try.underlying92
theorem fa_92_0 {ι : Type} : ∀ (id : ι) (off : Nat) (C : AV ι → Prop), fieldAddrC Try.prog 92 (.ptr id off) 0 C = C (.ptr id (off + 0)) := fun id off C => by
  simp only [fieldAddrC, us_92]; exact propext ⟨fun h => h.2.2, fun h => ⟨by kernel_rfl, by decide +kernel, h⟩⟩
theorem fv_92_0 {ι : Type} : ∀ (l : List (AV ι)) (C : AV ι → Prop), fieldC Try.prog 92 (.agg l) 0 C = (match l[0]? with | some v => C v | none => False) := fun l C => by
  simp only [fieldC, us_92]; exact propext ⟨fun h => h.2.2, fun h => ⟨by kernel_rfl, by kernel_rfl, h⟩⟩
theorem bc_92_0 {ι : Type} : ∀ (v : AV ι) (r : List (Nat × AV ι)) (l : List (AV ι)) (C : List (AV ι) → Prop), buildCells Try.prog fs_92 ((0, v) :: r) l C = (scalar v = true ∧ 0 < l.length ∧ buildCells Try.prog fs_92 r (l.set 0 v) C) := fun v r l C => by
  have hf : fs_92[0]? = some { name := "c", type := 87, offset := 0, embedded := false, tag := "", pkgPath := "erewhile/keytree", byteOffset := 0 } := rfl
  have ha : isAggT Try.prog 87 = false := by kernel_rfl
  simp only [buildCells, hf, ha]; exact propext ⟨fun h => h.2.2, fun h => ⟨by kernel_rfl, by decide +kernel, h⟩⟩
theorem fa_92_1 {ι : Type} : ∀ (id : ι) (off : Nat) (C : AV ι → Prop), fieldAddrC Try.prog 92 (.ptr id off) 1 C = C (.ptr id (off + 1)) := fun id off C => by
  simp only [fieldAddrC, us_92]; exact propext ⟨fun h => h.2.2, fun h => ⟨by kernel_rfl, by decide +kernel, h⟩⟩
theorem fv_92_1 {ι : Type} : ∀ (l : List (AV ι)) (C : AV ι → Prop), fieldC Try.prog 92 (.agg l) 1 C = (match l[1]? with | some v => C v | none => False) := fun l C => by
  simp only [fieldC, us_92]; exact propext ⟨fun h => h.2.2, fun h => ⟨by kernel_rfl, by kernel_rfl, h⟩⟩
theorem bc_92_1 {ι : Type} : ∀ (v : AV ι) (r : List (Nat × AV ι)) (l : List (AV ι)) (C : List (AV ι) → Prop), buildCells Try.prog fs_92 ((1, v) :: r) l C = (scalar v = true ∧ 1 < l.length ∧ buildCells Try.prog fs_92 r (l.set 1 v) C) := fun v r l C => by
  have hf : fs_92[1]? = some { name := "held", type := 90, offset := 1, embedded := false, tag := "", pkgPath := "erewhile/keytree", byteOffset := 16 } := rfl
  have ha : isAggT Try.prog 90 = false := by kernel_rfl
  simp only [buildCells, hf, ha]; exact propext ⟨fun h => h.2.2, fun h => ⟨by kernel_rfl, by decide +kernel, h⟩⟩
theorem zc_92 : zeroCellsOf Try.prog 92 = some #[.nilIface, .slice none 0 0] := by kernel_rfl
theorem bd_92 {ι : Type} : ∀ (r : List (Nat × AV ι)) (C : AV ι → Prop), buildC Try.prog 92 r C = buildCells Try.prog fs_92 r [.niliface, .nilslice] (fun l => C (.agg l)) := fun r C => by
  unfold buildC; rw [us_92]; simp only [zc_92]; exact propext ⟨fun h => h.2.2, fun h => ⟨by decide +kernel, by kernel_rfl, h⟩⟩
theorem zs_92 {ι : Type} : (zrow Try.prog 92 : Option (Row ι)) = some (.mixed [.niliface, .nilslice]) := by kernel_rfl
theorem ba_52 {ι : Type} : ∀ (r : List (Nat × AV ι)) (C : AV ι → Prop), buildC Try.prog 52 r C = buildInts .u8 r (List.replicate 32 0) (fun l => C (.ints .u8 l)) := fun r C => by
  unfold buildC; rw [Try.underlying52]; simp only [Try.underlying5]; exact propext ⟨fun h => h.2.2, fun h => ⟨by kernel_rfl, by kernel_rfl, h⟩⟩
theorem ba_93 {ι : Type} : ∀ (r : List (Nat × AV ι)) (C : AV ι → Prop), buildC Try.prog 93 r C = buildInts .u8 r (List.replicate 64 0) (fun l => C (.ints .u8 l)) := fun r C => by
  unfold buildC; rw [Try.underlying93]; simp only [Try.underlying5]; exact propext ⟨fun h => h.2.2, fun h => ⟨by kernel_rfl, by kernel_rfl, h⟩⟩
theorem ba_128 {ι : Type} : ∀ (r : List (Nat × AV ι)) (C : AV ι → Prop), buildC Try.prog 128 r C = buildInts .u32 r (List.replicate 16 0) (fun l => C (.ints .u32 l)) := fun r C => by
  unfold buildC; rw [Try.underlying128]; simp only [Try.underlying95]; exact propext ⟨fun h => h.2.2, fun h => ⟨by kernel_rfl, by kernel_rfl, h⟩⟩
theorem sui : (type_of% ui_56) ∧ (type_of% ui_87) ∧ (type_of% ui_89) ∧ (type_of% ui_100) ∧ (type_of% ui_103) ∧ (type_of% ui_133) := ⟨ui_56, ui_87, ui_89, ui_100, ui_103, ui_133⟩
theorem sty {ι : Type} : (type_of% (@bd_56 ι)) ∧ (type_of% (@zs_56 ι)) ∧ (type_of% (@fa_89_0 ι)) ∧ (type_of% (@fv_89_0 ι)) ∧ (type_of% (@bc_89_0 ι)) ∧ (type_of% (@fa_89_1 ι)) ∧ (type_of% (@fv_89_1 ι)) ∧ (type_of% (@bc_89_1 ι)) ∧ (type_of% (@fa_89_2 ι)) ∧ (type_of% (@bw_89_2 ι)) ∧ (type_of% (@bd_89 ι)) ∧ (type_of% (@zs_89 ι)) ∧ (type_of% (@fa_92_0 ι)) ∧ (type_of% (@fv_92_0 ι)) ∧ (type_of% (@bc_92_0 ι)) ∧ (type_of% (@fa_92_1 ι)) ∧ (type_of% (@fv_92_1 ι)) ∧ (type_of% (@bc_92_1 ι)) ∧ (type_of% (@bd_92 ι)) ∧ (type_of% (@zs_92 ι)) ∧ (type_of% (@ba_52 ι)) ∧ (type_of% (@ba_93 ι)) ∧ (type_of% (@ba_128 ι)) := ⟨@bd_56 ι, @zs_56 ι, @fa_89_0 ι, @fv_89_0 ι, @bc_89_0 ι, @fa_89_1 ι, @fv_89_1 ι, @bc_89_1 ι, @fa_89_2 ι, @bw_89_2 ι, @bd_89 ι, @zs_89 ι, @fa_92_0 ι, @fv_92_0 ι, @bc_92_0 ι, @fa_92_1 ι, @fv_92_1 ι, @bc_92_1 ι, @bd_92 ι, @zs_92 ι, @ba_52 ι, @ba_93 ι, @ba_128 ι⟩
theorem mix : Try.prog.follows .mixedOrders = true := by kernel_rfl

/-! erewhile/erewhiletop.WholeLeaves -/
abbrev n_top_WholeLeaves : Nat := 4
theorem func_top_WholeLeaves : Try.prog.funcs[n_top_WholeLeaves]? = some Try.f4 := Try.func4
theorem call_top_WholeLeaves : ∀ args w, (callFunc n_top_WholeLeaves args).run Try.prog w = .ok (.enter n_top_WholeLeaves args) w := Try.call4
theorem nt_top_WholeLeaves : Try.f4.ntmps = 66 := Try.ntmps4
theorem rs_top_WholeLeaves : Try.f4.results.toList = [.tmp 4] := by rw [Try.results4]
def s_top_WholeLeaves_0 : List AStep := [.eff (some 2) (.box 52 (.tmp 0)), .pure (some 4) false (.assign (.const (.bool false)))]
abbrev p_top_WholeLeaves_0 : List Nat := [0, 1]
def s_top_WholeLeaves_1 : List AStep := [.call (some 14) false ⟨.value (.func 13), #[], #[]⟩, .pure (some 15) false (.unOp .not 4 (.tmp 14))]
abbrev p_top_WholeLeaves_1 : List Nat := [0, 1]
def s_top_WholeLeaves_2 : List AStep := [.pure (some 4) false (.assign (.const (.bool false)))]
abbrev p_top_WholeLeaves_2 : List Nat := [0]
def s_top_WholeLeaves_3 : List AStep := [.pure (some 16) false (.build 56 #[]), .pure (some 17) false (.makeInterface 56 (.tmp 16)), .read (some 18) false (.load 52 (.tmp 2)), .call (some 19) false ⟨.value (.func 14), #[.tmp 17, .tmp 18], #[87, 52]⟩, .pure (some 5) false (.assign (.tmp 19))]
abbrev p_top_WholeLeaves_3 : List Nat := [0, 1, 2, 3, 4]
def s_top_WholeLeaves_4 : List AStep := [.read (some 20) false (.load 52 (.tmp 2)), .eff (some 6) (.alloc 52), .eff none (.store 52 (.tmp 6) (.tmp 20))]
abbrev p_top_WholeLeaves_4 : List Nat := [0, 1, 2]
def s_top_WholeLeaves_5 : List AStep := [.pure (some 7) false (.assign (.const (.int .i64 0)))]
abbrev p_top_WholeLeaves_5 : List Nat := [0]
def s_top_WholeLeaves_6 : List AStep := [.pure (some 21) false (.move (.tmp 7)), .pure (some 22) false (.binOp .lss 3 (.tmp 21) (.const (.int .i64 16)) 3)]
abbrev p_top_WholeLeaves_6 : List Nat := [0, 1]
def s_top_WholeLeaves_8 : List AStep := [.pure (some 26) false (.build 56 #[]), .read (some 27) false (.load 52 (.tmp 6)), .call (some 28) false ⟨.value (.func 15), #[.tmp 26, .tmp 27], #[56, 52]⟩, .pure (some 25) false (.move (.tmp 28)), .pure (some 29) false (.extract (.tmp 25) 0), .pure (some 30) false (.extract (.tmp 25) 1), .eff none (.store 52 (.tmp 6) (.tmp 29))]
abbrev p_top_WholeLeaves_8 : List Nat := [0, 1, 2, 3, 4, 5, 6]
def s_top_WholeLeaves_7 : List AStep := [.pure (some 23) false (.move (.tmp 7)), .pure (some 24) false (.binOp .add 3 (.tmp 23) (.const (.int .i64 1)) 3), .pure (some 7) false (.assign (.tmp 24))]
abbrev p_top_WholeLeaves_7 : List Nat := [0, 1, 2]
def s_top_WholeLeaves_9 : List AStep := [.pure (some 32) false (.build 56 #[]), .read (some 33) false (.load 52 (.tmp 6)), .call (some 34) false ⟨.value (.func 15), #[.tmp 32, .tmp 33], #[56, 52]⟩, .pure (some 31) false (.move (.tmp 34)), .pure (some 35) false (.extract (.tmp 31) 0), .pure (some 36) false (.extract (.tmp 31) 1), .eff (some 8) (.alloc 52), .eff (some 9) (.alloc 52), .eff none (.store 52 (.tmp 8) (.tmp 35)), .eff none (.store 52 (.tmp 9) (.tmp 36))]
abbrev p_top_WholeLeaves_9 : List Nat := [0, 1, 2, 3, 4, 5, 6, 7, 8, 9]
def s_top_WholeLeaves_10 : List AStep := [.pure (some 37) false (.move (.tmp 1)), .pure (some 38) false (.binOp .gtr 29 (.tmp 37) (.const (.int .u64 1)) 29)]
abbrev p_top_WholeLeaves_10 : List Nat := [0, 1]
abbrev q_top_WholeLeaves_11 : List Nat := [1002]
def s_top_WholeLeaves_11 : List AStep := [.pure (some 39) false (.move (.tmp 5)), .pure (some 40) false (.move (.tmp 1)), .mcall (some 41) false ⟨.value (.func 16), #[.tmp 39, .tmp 40], #[53, 29]⟩]
abbrev p_top_WholeLeaves_11 : List Nat := [0, 1, 2]
abbrev q_top_WholeLeaves_12 : List Nat := [1001]
def s_top_WholeLeaves_12 : List AStep := [.pure (some 43) false (.move (.tmp 5)), .mcall (some 44) false ⟨.value (.func 17), #[.tmp 43, .const (.int .u64 0)], #[53, 29]⟩, .pure (some 42) false (.move (.tmp 44)), .pure (some 45) false (.extract (.tmp 42) 0), .pure (some 46) false (.extract (.tmp 42) 1), .eff (some 10) (.alloc 52), .eff none (.store 52 (.tmp 10) (.tmp 45)), .pure (some 11) false (.assign (.tmp 46))]
abbrev p_top_WholeLeaves_12 : List Nat := [0, 1, 2, 3, 4, 5, 6, 7]
abbrev q_top_WholeLeaves_13 : List Nat := [1001]
def s_top_WholeLeaves_13 : List AStep := [.pure (some 48) false (.move (.tmp 5)), .mcall (some 49) false ⟨.value (.func 17), #[.tmp 48, .const (.int .u64 1)], #[53, 29]⟩, .pure (some 47) false (.move (.tmp 49)), .pure (some 50) false (.extract (.tmp 47) 0), .pure (some 51) false (.extract (.tmp 47) 1), .eff (some 12) (.alloc 52), .eff none (.store 52 (.tmp 12) (.tmp 50)), .pure (some 13) false (.assign (.tmp 51))]
abbrev p_top_WholeLeaves_13 : List Nat := [0, 1, 2, 3, 4, 5, 6, 7]
def s_top_WholeLeaves_14 : List AStep := [.pure (some 52) false (.move (.tmp 11)), .pure (some 53) true (.move (.tmp 52)), .guard 53 true (.pure (some 54) false (.move (.tmp 13))), .pure (some 55) false (.pick (.tmp 53) (.tmp 54) (.const (.bool false))), .pure (some 56) true (.move (.tmp 55)), .guard 56 true (.read (some 57) false (.load 52 (.tmp 10))), .guard 56 true (.read (some 58) false (.load 52 (.tmp 8))), .guard 56 true (.pure (some 59) false (.binOp .eql 52 (.tmp 57) (.tmp 58) 52)), .pure (some 60) false (.pick (.tmp 56) (.tmp 59) (.const (.bool false))), .pure (some 61) true (.move (.tmp 60)), .guard 61 true (.read (some 62) false (.load 52 (.tmp 12))), .guard 61 true (.read (some 63) false (.load 52 (.tmp 9))), .guard 61 true (.pure (some 64) false (.binOp .eql 52 (.tmp 62) (.tmp 63) 52)), .pure (some 65) false (.pick (.tmp 61) (.tmp 64) (.const (.bool false))), .pure (some 4) false (.assign (.tmp 65))]
abbrev p_top_WholeLeaves_14 : List Nat := [0, 1, 2, 3, 4, 5, 6, 7, 8, 9, 10, 11, 12, 13, 14]

/-! erewhile/erewhiletop.awakeKeys -/
abbrev n_top_awakeKeys : Nat := 13
theorem func_top_awakeKeys : Try.prog.funcs[n_top_awakeKeys]? = some Try.f13 := Try.func13
theorem call_top_awakeKeys : ∀ args w, (callFunc n_top_awakeKeys args).run Try.prog w = .ok (.enter n_top_awakeKeys args) w := Try.call13
theorem nt_top_awakeKeys : Try.f13.ntmps = 21 := Try.ntmps13
theorem rs_top_awakeKeys : Try.f13.results.toList = [.tmp 0] := by rw [Try.results13]
def s_top_awakeKeys_0 : List AStep := [.pure (some 0) false (.assign (.const (.bool false)))]
abbrev p_top_awakeKeys_0 : List Nat := [0]
def s_top_awakeKeys_1 : List AStep := [.pure (some 3) false (.build 56 #[]), .pure (some 4) false (.makeInterface 56 (.tmp 3)), .pure (some 5) false (.build 52 #[(0, .const (.int .u8 1))]), .call (some 6) false ⟨.value (.func 14), #[.tmp 4, .tmp 5], #[87, 52]⟩, .pure (some 1) false (.assign (.tmp 6))]
abbrev p_top_awakeKeys_1 : List Nat := [0, 1, 2, 3, 4]
def s_top_awakeKeys_2 : List AStep := [.pure (some 7) false (.move (.tmp 1)), .call (some 8) false ⟨.value (.func 26), #[.tmp 7, .const (.int .u64 0)], #[53, 29]⟩, .pure (some 2) false (.assign (.tmp 8))]
abbrev p_top_awakeKeys_2 : List Nat := [0, 1, 2]
abbrev q_top_awakeKeys_3 : List Nat := [1001]
def s_top_awakeKeys_3 : List AStep := [.pure (some 9) false (.move (.tmp 1)), .mcall (some 10) false ⟨.value (.func 16), #[.tmp 9, .const (.int .u64 0)], #[53, 29]⟩]
abbrev p_top_awakeKeys_3 : List Nat := [0, 1]
def s_top_awakeKeys_4 : List AStep := [.pure (some 11) false (.move (.tmp 2)), .pure (some 12) true (.move (.tmp 11)), .guard 12 true (.pure (some 13) false (.move (.tmp 1))), .guard 12 true (.call (some 14) false ⟨.value (.func 26), #[.tmp 13, .const (.int .u64 0)], #[53, 29]⟩), .guard 12 true (.pure (some 15) false (.unOp .not 4 (.tmp 14))), .pure (some 16) false (.pick (.tmp 12) (.tmp 15) (.const (.bool false))), .pure (some 17) true (.move (.tmp 16)), .guard 17 true (.pure (some 18) false (.move (.tmp 1))), .guard 17 true (.call (some 19) false ⟨.value (.func 26), #[.tmp 18, .const (.int .u64 1)], #[53, 29]⟩), .pure (some 20) false (.pick (.tmp 17) (.tmp 19) (.const (.bool false))), .pure (some 0) false (.assign (.tmp 20))]
abbrev p_top_awakeKeys_4 : List Nat := [0, 1, 2, 3, 4, 5, 6, 7, 8, 9, 10]

/-! erewhile/keytree.New -/
abbrev n_keytree_New : Nat := 14
theorem func_keytree_New : Try.prog.funcs[n_keytree_New]? = some Try.f14 := Try.func14
theorem call_keytree_New : ∀ args w, (callFunc n_keytree_New args).run Try.prog w = .ok (.enter n_keytree_New args) w := Try.call14
theorem nt_keytree_New : Try.f14.ntmps = 13 := Try.ntmps14
theorem rs_keytree_New : Try.f14.results.toList = [.tmp 4] := by rw [Try.results14]
def s_keytree_New_0 : List AStep := [.eff (some 3) (.box 52 (.tmp 1)), .pure (some 4) false (.assign (.const (.pointer none)))]
abbrev p_keytree_New_0 : List Nat := [0, 1]
def s_keytree_New_1 : List AStep := [.pure (some 5) false (.move (.tmp 0)), .pure (some 6) false (.binOp .eql 87 (.tmp 5) (.const .nilIface) 87)]
abbrev p_keytree_New_1 : List Nat := [0, 1]
def s_keytree_New_2 : List AStep := [.pure (some 4) false (.assign (.const (.pointer none)))]
abbrev p_keytree_New_2 : List Nat := [0]
def s_keytree_New_3 : List AStep := [.pure (some 7) false (.move (.tmp 0)), .read (some 8) false (.load 52 (.tmp 3)), .pure (some 9) false (.build 89 #[(2, .tmp 8)]), .eff (some 10) (.buildSlice 90 1 #[(0, .tmp 9)]), .pure (some 11) false (.build 92 #[(0, .tmp 7), (1, .tmp 10)]), .eff (some 12) (.box 92 (.tmp 11)), .pure (some 4) false (.assign (.tmp 12))]
abbrev p_keytree_New_3 : List Nat := [0, 1, 2, 3, 4, 5, 6]

/-! (erewhile/cipher.Real).Split -/
abbrev n_cipher_Real_Split : Nat := 15
theorem func_cipher_Real_Split : Try.prog.funcs[n_cipher_Real_Split]? = some Try.f15 := Try.func15
theorem call_cipher_Real_Split : ∀ args w, (callFunc n_cipher_Real_Split args).run Try.prog w = .ok (.enter n_cipher_Real_Split args) w := Try.call15
theorem nt_cipher_Real_Split : Try.f15.ntmps = 17 := Try.ntmps15
theorem rs_cipher_Real_Split : Try.f15.results.toList = [.cell 4 52, .cell 5 52] := by rw [Try.results15]
def s_cipher_Real_Split_0 : List AStep := [.eff (some 2) (.box 56 (.tmp 0)), .eff (some 3) (.box 52 (.tmp 1)), .eff (some 4) (.alloc 52), .eff (some 5) (.alloc 52)]
abbrev p_cipher_Real_Split_0 : List Nat := [0, 1, 2, 3]
def s_cipher_Real_Split_1 : List AStep := [.read (some 7) false (.load 52 (.tmp 3)), .call (some 8) false ⟨.value (.func 27), #[.tmp 7, .const (.int .u32 1), .const (.int .u64 0)], #[52, 95, 29]⟩, .eff (some 6) (.alloc 93), .eff none (.store 93 (.tmp 6) (.tmp 8))]
abbrev p_cipher_Real_Split_1 : List Nat := [0, 1, 2, 3]
def s_cipher_Real_Split_2 : SP := (.one (.pure (some 9) false (.slice 52 (.tmp 4) none none none)) (.one (.pure (some 10) false (.slice 93 (.tmp 6) none (some (.const (.int .i64 32))) none)) (.one (.eff (some 11) (.call (.mk (.builtin .copy) #[.tmp 9, .tmp 10] #[96, 96]))) .done)))
abbrev p_cipher_Real_Split_2 : PC := (.calm 0 4 (.calm 1 4 (.act 2 .done)))
abbrev g_cipher_Real_Split_2 : List Dg := [⟨0, 16, 512, .pure, true⟩, ⟨0, 64, 1024, .pure, true⟩, ⟨3, 1536, 2048, .eff, false⟩]
abbrev q_cipher_Real_Split_2 : List Nat := []
def s_cipher_Real_Split_3 : SP := (.one (.pure (some 12) false (.slice 52 (.tmp 5) none none none)) (.one (.pure (some 13) false (.slice 93 (.tmp 6) (some (.const (.int .i64 32))) none none)) (.one (.eff (some 14) (.call (.mk (.builtin .copy) #[.tmp 12, .tmp 13] #[96, 96]))) .done)))
abbrev p_cipher_Real_Split_3 : PC := (.calm 0 4 (.calm 1 4 (.act 2 .done)))
abbrev g_cipher_Real_Split_3 : List Dg := [⟨0, 32, 4096, .pure, true⟩, ⟨0, 64, 8192, .pure, true⟩, ⟨3, 12288, 16384, .eff, false⟩]
abbrev q_cipher_Real_Split_3 : List Nat := []
def s_cipher_Real_Split_4 : List AStep := [.read (some 15) false (.load 52 (.tmp 4)), .read (some 16) false (.load 52 (.tmp 5)), .eff none (.store 52 (.tmp 4) (.tmp 15)), .eff none (.store 52 (.tmp 5) (.tmp 16))]
abbrev p_cipher_Real_Split_4 : List Nat := [0, 1, 2, 3]

/-! (*erewhile/keytree.Tree).Puncture -/
abbrev n_keytree_Tree_Puncture : Nat := 16
theorem func_keytree_Tree_Puncture : Try.prog.funcs[n_keytree_Tree_Puncture]? = some Try.f16 := Try.func16
theorem call_keytree_Tree_Puncture : ∀ args w, (callFunc n_keytree_Tree_Puncture args).run Try.prog w = .ok (.enter n_keytree_Tree_Puncture args) w := Try.call16
theorem nt_keytree_Tree_Puncture : Try.f16.ntmps = 43 := Try.ntmps16
theorem rs_keytree_Tree_Puncture : Try.f16.results.toList = [.tmp 4] := by rw [Try.results16]
def s_keytree_Tree_Puncture_0 : List AStep := [.pure (some 4) false (.assign (.const (.bool false)))]
abbrev p_keytree_Tree_Puncture_0 : List Nat := [0]
def s_keytree_Tree_Puncture_1 : List AStep := [.pure (some 9) false (.move (.tmp 0)), .pure (some 10) false (.move (.tmp 1)), .call (some 11) false ⟨.value (.func 28), #[.tmp 9, .tmp 10], #[53, 29]⟩, .pure (some 8) false (.move (.tmp 11)), .pure (some 12) false (.extract (.tmp 8) 0), .pure (some 13) false (.extract (.tmp 8) 1), .pure (some 5) false (.assign (.tmp 12)), .pure (some 6) false (.assign (.tmp 13))]
abbrev p_keytree_Tree_Puncture_1 : List Nat := [0, 1, 2, 3, 4, 5, 6, 7]
def s_keytree_Tree_Puncture_2 : List AStep := [.pure (some 14) false (.move (.tmp 6)), .pure (some 15) false (.unOp .not 4 (.tmp 14))]
abbrev p_keytree_Tree_Puncture_2 : List Nat := [0, 1]
def s_keytree_Tree_Puncture_3 : List AStep := [.pure (some 4) false (.assign (.const (.bool false)))]
abbrev p_keytree_Tree_Puncture_3 : List Nat := [0]
def s_keytree_Tree_Puncture_4 : List AStep := [.eff (some 7) (.alloc 90)]
abbrev p_keytree_Tree_Puncture_4 : List Nat := [0]
abbrev q_keytree_Tree_Puncture_5 : List Nat := [1010]
def s_keytree_Tree_Puncture_5 : List AStep := [.pure (some 16) false (.move (.tmp 0)), .pure (some 17) false (.move (.tmp 0)), .pure (some 18) false (.nilCheck (.tmp 17)), .pure (some 19) false (.fieldAddr 92 (.tmp 18) 1), .read (some 20) false (.load 90 (.tmp 19)), .pure (some 21) false (.move (.tmp 5)), .pure (some 22) false (.indexAddr 90 (.tmp 20) (.tmp 21)), .read (some 23) false (.load 89 (.tmp 22)), .pure (some 24) false (.move (.tmp 1)), .pure (some 25) false (.makeFunc (.func 30) #[] #[.tmp 7]), .mcall (some 26) false ⟨.value (.func 29), #[.tmp 16, .tmp 23, .tmp 24, .tmp 25], #[53, 89, 29, 100]⟩]
abbrev p_keytree_Tree_Puncture_5 : List Nat := [0, 1, 2, 3, 4, 5, 6, 7, 8, 9, 10]
abbrev q_keytree_Tree_Puncture_6 : List Nat := [1001]
def s_keytree_Tree_Puncture_6 : List AStep := [.read (some 27) false (.load 90 (.tmp 7)), .mcall (some 28) false ⟨.value (.func 31), #[.tmp 27, .func 32], #[90, 103]⟩]
abbrev p_keytree_Tree_Puncture_6 : List Nat := [0, 1]
def s_keytree_Tree_Puncture_7 : SP := (.one (.pure (some 29) false (.move (.tmp 0))) (.one (.pure (some 30) false (.move (.tmp 0))) (.one (.pure (some 31) false (.nilCheck (.tmp 30))) (.one (.pure (some 32) false (.fieldAddr 92 (.tmp 31) 1)) (.one (.pure (some 34) false (.move (.tmp 5))) (.one (.pure (some 35) false (.move (.tmp 5))) (.one (.pure (some 36) false (.binOp .add 3 (.tmp 35) (.const (.int .i64 1)) 3)) (.one (.pure (some 38) false (.move (.tmp 5))) (.one (.read (some 33) false (.load 90 (.tmp 32))) (.two (.mcall (some 37) false ⟨.value (.func 35), #[.tmp 33, .tmp 34, .tmp 36], #[90, 3, 3]⟩) (.one (.read (some 39) false (.load 90 (.tmp 7))) (.one (.mcall (some 40) false ⟨.value (.func 34), #[.tmp 37, .tmp 38, .tmp 39], #[90, 3, 90]⟩) (.one (.pure (some 41) false (.nilCheck (.tmp 29))) (.one (.pure (some 42) false (.fieldAddr 92 (.tmp 41) 1)) (.one (.eff none (.store 90 (.tmp 42) (.tmp 40))) .done))))) (.read (some 39) false (.load 90 (.tmp 7))) (.one (.mcall (some 37) false ⟨.value (.func 35), #[.tmp 33, .tmp 34, .tmp 36], #[90, 3, 3]⟩) (.one (.mcall (some 40) false ⟨.value (.func 34), #[.tmp 37, .tmp 38, .tmp 39], #[90, 3, 90]⟩) (.one (.pure (some 41) false (.nilCheck (.tmp 29))) (.one (.pure (some 42) false (.fieldAddr 92 (.tmp 41) 1)) (.one (.eff none (.store 90 (.tmp 42) (.tmp 40))) .done)))))))))))))))
abbrev p_keytree_Tree_Puncture_7 : PC := (.calm 0 28672 (.calm 1 31004 (.calm 2 31000 (.calm 3 30992 (.calm 5 30976 (.calm 6 31104 (.calm 7 30976 (.calm 9 30720 (.calm 4 30976 (.fork 8 (.calm 10 30720 (.act 11 (.calm 12 24576 (.calm 13 16384 (.act 14 .done))))) 10 (.act 8 (.act 11 (.calm 12 24576 (.calm 13 16384 (.act 14 .done)))))))))))))))
abbrev g_keytree_Tree_Puncture_7 : List Dg := [⟨0, 1, 536870912, .pure, true⟩, ⟨0, 1, 1073741824, .pure, true⟩, ⟨2, 1073741824, 2147483648, .pure, true⟩, ⟨4, 2147483648, 4294967296, .pure, true⟩, ⟨8, 4294967296, 8589934592, .read, true⟩, ⟨0, 32, 17179869184, .pure, true⟩, ⟨0, 32, 34359738368, .pure, true⟩, ⟨64, 34359738368, 68719476736, .pure, true⟩, ⟨176, 94489280512, 137438953472, .call, false⟩, ⟨0, 32, 274877906944, .pure, true⟩, ⟨0, 128, 549755813888, .read, true⟩, ⟨1792, 962072674304, 1099511627776, .call, false⟩, ⟨4095, 536870912, 2199023255552, .pure, true⟩, ⟨8191, 2199023255552, 4398046511104, .pure, true⟩, ⟨12287, 5497558138880, 0, .eff, false⟩]
abbrev q_keytree_Tree_Puncture_7 : List Nat := [1008, 1011]
def s_keytree_Tree_Puncture_8 : List AStep := [.pure (some 4) false (.assign (.const (.bool true)))]
abbrev p_keytree_Tree_Puncture_8 : List Nat := [0]

/-! (*erewhile/keytree.Tree).Key -/
abbrev n_keytree_Tree_Key : Nat := 17
theorem func_keytree_Tree_Key : Try.prog.funcs[n_keytree_Tree_Key]? = some Try.f17 := Try.func17
theorem call_keytree_Tree_Key : ∀ args w, (callFunc n_keytree_Tree_Key args).run Try.prog w = .ok (.enter n_keytree_Tree_Key args) w := Try.call17
theorem nt_keytree_Tree_Key : Try.f17.ntmps = 27 := Try.ntmps17
theorem rs_keytree_Tree_Key : Try.f17.results.toList = [.cell 4 52, .tmp 5] := by rw [Try.results17]
def s_keytree_Tree_Key_0 : List AStep := [.eff (some 4) (.alloc 52), .pure (some 5) false (.assign (.const (.bool false)))]
abbrev p_keytree_Tree_Key_0 : List Nat := [0, 1]
def s_keytree_Tree_Key_1 : List AStep := [.pure (some 9) false (.move (.tmp 0)), .pure (some 10) false (.move (.tmp 1)), .call (some 11) false ⟨.value (.func 28), #[.tmp 9, .tmp 10], #[53, 29]⟩, .pure (some 8) false (.move (.tmp 11)), .pure (some 12) false (.extract (.tmp 8) 0), .pure (some 13) false (.extract (.tmp 8) 1), .pure (some 6) false (.assign (.tmp 12)), .pure (some 7) false (.assign (.tmp 13))]
abbrev p_keytree_Tree_Key_1 : List Nat := [0, 1, 2, 3, 4, 5, 6, 7]
def s_keytree_Tree_Key_2 : List AStep := [.pure (some 14) false (.move (.tmp 7)), .pure (some 15) false (.unOp .not 4 (.tmp 14))]
abbrev p_keytree_Tree_Key_2 : List Nat := [0, 1]
def s_keytree_Tree_Key_3 : List AStep := [.pure (some 16) false (.build 52 #[]), .eff none (.store 52 (.tmp 4) (.tmp 16)), .pure (some 5) false (.assign (.const (.bool false)))]
abbrev p_keytree_Tree_Key_3 : List Nat := [0, 1, 2]
abbrev q_keytree_Tree_Key_4 : List Nat := [1009]
def s_keytree_Tree_Key_4 : List AStep := [.pure (some 17) false (.move (.tmp 0)), .pure (some 18) false (.move (.tmp 0)), .pure (some 19) false (.nilCheck (.tmp 18)), .pure (some 20) false (.fieldAddr 92 (.tmp 19) 1), .read (some 21) false (.load 90 (.tmp 20)), .pure (some 22) false (.move (.tmp 6)), .pure (some 23) false (.indexAddr 90 (.tmp 21) (.tmp 22)), .read (some 24) false (.load 89 (.tmp 23)), .pure (some 25) false (.move (.tmp 1)), .mcall (some 26) false ⟨.value (.func 29), #[.tmp 17, .tmp 24, .tmp 25, .func 36], #[53, 89, 29, 100]⟩, .eff none (.store 52 (.tmp 4) (.tmp 26)), .pure (some 5) false (.assign (.const (.bool true)))]
abbrev p_keytree_Tree_Key_4 : List Nat := [0, 1, 2, 3, 4, 5, 6, 7, 8, 9, 10, 11]

/-! (*erewhile/keytree.Tree).Has -/
abbrev n_keytree_Tree_Has : Nat := 26
theorem func_keytree_Tree_Has : Try.prog.funcs[n_keytree_Tree_Has]? = some Try.f26 := Try.func26
theorem call_keytree_Tree_Has : ∀ args w, (callFunc n_keytree_Tree_Has args).run Try.prog w = .ok (.enter n_keytree_Tree_Has args) w := Try.call26
theorem nt_keytree_Tree_Has : Try.f26.ntmps = 14 := Try.ntmps26
theorem rs_keytree_Tree_Has : Try.f26.results.toList = [.tmp 4] := by rw [Try.results26]
def s_keytree_Tree_Has_0 : List AStep := [.pure (some 4) false (.assign (.const (.bool false)))]
abbrev p_keytree_Tree_Has_0 : List Nat := [0]
def s_keytree_Tree_Has_1 : List AStep := [.pure (some 8) false (.move (.tmp 0)), .pure (some 9) false (.move (.tmp 1)), .call (some 10) false ⟨.value (.func 28), #[.tmp 8, .tmp 9], #[53, 29]⟩, .pure (some 7) false (.move (.tmp 10)), .pure (some 11) false (.extract (.tmp 7) 0), .pure (some 12) false (.extract (.tmp 7) 1), .pure (some 5) false (.assign (.tmp 11)), .pure (some 6) false (.assign (.tmp 12))]
abbrev p_keytree_Tree_Has_1 : List Nat := [0, 1, 2, 3, 4, 5, 6, 7]
def s_keytree_Tree_Has_2 : List AStep := [.pure (some 13) false (.move (.tmp 6)), .pure (some 4) false (.assign (.tmp 13))]
abbrev p_keytree_Tree_Has_2 : List Nat := [0, 1]

/-! erewhile/chacha.Block -/
abbrev n_chacha_Block : Nat := 27
theorem func_chacha_Block : Try.prog.funcs[n_chacha_Block]? = some Try.f27 := Try.func27
theorem call_chacha_Block : ∀ args w, (callFunc n_chacha_Block args).run Try.prog w = .ok (.enter n_chacha_Block args) w := Try.call27
theorem nt_chacha_Block : Try.f27.ntmps = 38 := Try.ntmps27
theorem rs_chacha_Block : Try.f27.results.toList = [.cell 6 93] := by rw [Try.results27]
def s_chacha_Block_0 : List AStep := [.eff (some 3) (.box 52 (.tmp 0)), .eff (some 6) (.alloc 93)]
abbrev p_chacha_Block_0 : List Nat := [0, 1]
def s_chacha_Block_1 : List AStep := [.read (some 11) false (.load 52 (.tmp 3)), .pure (some 12) false (.move (.tmp 1)), .pure (some 13) false (.move (.tmp 2)), .call (some 14) false ⟨.value (.func 47), #[.tmp 11, .tmp 12, .tmp 13], #[52, 95, 29]⟩, .eff (some 7) (.alloc 128), .eff none (.store 128 (.tmp 7) (.tmp 14))]
abbrev p_chacha_Block_1 : List Nat := [0, 1, 2, 3, 4, 5]
def s_chacha_Block_2 : List AStep := [.read (some 15) false (.load 128 (.tmp 7)), .call (some 16) false ⟨.value (.func 48), #[.tmp 15], #[128]⟩, .eff (some 8) (.alloc 128), .eff none (.store 128 (.tmp 8) (.tmp 16))]
abbrev p_chacha_Block_2 : List Nat := [0, 1, 2, 3]
def s_chacha_Block_3 : List AStep := [.eff (some 9) (.alloc 93)]
abbrev p_chacha_Block_3 : List Nat := [0]
def s_chacha_Block_4 : List AStep := [.pure (some 17) false (.move (.const (.int .i64 0)))]
abbrev p_chacha_Block_4 : List Nat := [0]
def s_chacha_Block_5 : List AStep := [.pure (some 18) false (.binOp .lss 3 (.tmp 17) (.const (.int .i64 64)) 3)]
abbrev p_chacha_Block_5 : List Nat := [0]
def s_chacha_Block_6 : List AStep := [.pure (some 19) false (.move (.tmp 17)), .pure (some 10) false (.assign (.tmp 19))]
abbrev p_chacha_Block_6 : List Nat := [0, 1]
def s_chacha_Block_7 : SP := (.one (.pure (some 20) false (.move (.tmp 10))) (.one (.pure (some 21) false (.move (.tmp 10))) (.one (.pure (some 22) false (.binOp .quo 3 (.tmp 21) (.const (.int .i64 4)) 3)) (.one (.pure (some 23) false (.indexAddr 128 (.tmp 7) (.tmp 22))) (.one (.pure (some 25) false (.move (.tmp 10))) (.one (.pure (some 26) false (.binOp .quo 3 (.tmp 25) (.const (.int .i64 4)) 3)) (.one (.pure (some 27) false (.indexAddr 128 (.tmp 8) (.tmp 26))) (.one (.pure (some 30) false (.move (.tmp 10))) (.one (.pure (some 31) false (.binOp .rem 3 (.tmp 30) (.const (.int .i64 4)) 3)) (.one (.pure (some 32) false (.binOp .mul 3 (.const (.int .i64 8)) (.tmp 31) 3)) (.one (.read (some 24) false (.load 95 (.tmp 23))) (.one (.read (some 28) false (.load 95 (.tmp 27))) (.one (.pure (some 29) false (.binOp .add 95 (.tmp 24) (.tmp 28) 95)) (.one (.pure (some 33) false (.binOp .shr 95 (.tmp 29) (.tmp 32) 3)) (.one (.pure (some 34) false (.convert 95 5 (.tmp 33))) (.one (.pure (some 35) false (.indexAddr 93 (.tmp 9) (.tmp 20))) (.one (.eff none (.store 5 (.tmp 35) (.tmp 34))) .done)))))))))))))))))
abbrev p_chacha_Block_7 : PC := (.calm 0 98304 (.calm 1 123420 (.calm 2 123416 (.calm 3 123408 (.calm 5 123840 (.calm 6 123776 (.calm 7 123648 (.calm 10 129024 (.calm 11 126976 (.calm 12 122880 (.calm 4 123392 (.calm 8 123392 (.calm 9 122880 (.calm 13 114688 (.calm 14 98304 (.calm 15 65536 (.act 16 .done)))))))))))))))))
abbrev g_chacha_Block_7 : List Dg := [⟨0, 1024, 1048576, .pure, true⟩, ⟨0, 1024, 2097152, .pure, true⟩, ⟨2, 2097152, 4194304, .pure, true⟩, ⟨4, 4194432, 8388608, .pure, true⟩, ⟨8, 8388608, 16777216, .read, true⟩, ⟨0, 1024, 33554432, .pure, true⟩, ⟨32, 33554432, 67108864, .pure, true⟩, ⟨64, 67109120, 134217728, .pure, true⟩, ⟨128, 134217728, 268435456, .read, true⟩, ⟨272, 285212672, 536870912, .pure, true⟩, ⟨0, 1024, 1073741824, .pure, true⟩, ⟨1024, 1073741824, 2147483648, .pure, true⟩, ⟨2048, 2147483648, 4294967296, .pure, true⟩, ⟨4608, 4831838208, 8589934592, .pure, true⟩, ⟨8192, 8589934592, 17179869184, .pure, true⟩, ⟨32767, 1049088, 34359738368, .pure, true⟩, ⟨65535, 51539607552, 0, .eff, false⟩]
abbrev q_chacha_Block_7 : List Nat := []
def s_chacha_Block_8 : List AStep := [.pure (some 36) false (.binOp .add 3 (.tmp 17) (.const (.int .i64 1)) 3), .pure (some 17) false (.move (.tmp 36))]
abbrev p_chacha_Block_8 : List Nat := [0, 1]
def s_chacha_Block_9 : List AStep := [.read (some 37) false (.load 93 (.tmp 9)), .eff none (.store 93 (.tmp 6) (.tmp 37))]
abbrev p_chacha_Block_9 : List Nat := [0, 1]

/-! (*erewhile/keytree.Tree).find -/
abbrev n_keytree_Tree_find : Nat := 28
theorem func_keytree_Tree_find : Try.prog.funcs[n_keytree_Tree_find]? = some Try.f28 := Try.func28
theorem call_keytree_Tree_find : ∀ args w, (callFunc n_keytree_Tree_find args).run Try.prog w = .ok (.enter n_keytree_Tree_find args) w := Try.call28
theorem nt_keytree_Tree_find : Try.f28.ntmps = 54 := Try.ntmps28
theorem rs_keytree_Tree_find : Try.f28.results.toList = [.tmp 4, .tmp 5] := by rw [Try.results28]
def s_keytree_Tree_find_0 : List AStep := [.pure (some 4) false (.assign (.const (.int .i64 0))), .pure (some 5) false (.assign (.const (.bool false)))]
abbrev p_keytree_Tree_find_0 : List Nat := [0, 1]
def s_keytree_Tree_find_1 : List AStep := [.pure (some 8) false (.move (.tmp 0)), .pure (some 9) false (.binOp .eql 53 (.tmp 8) (.const (.pointer none)) 53), .pure (some 10) true (.move (.tmp 9)), .guard 10 false (.pure (some 11) false (.move (.tmp 1))), .guard 10 false (.call (some 12) false ⟨.value (.func 49), #[.const (.int .i64 0)], #[3]⟩), .guard 10 false (.pure (some 13) false (.binOp .geq 29 (.tmp 11) (.tmp 12) 29)), .pure (some 14) false (.pick (.tmp 10) (.const (.bool true)) (.tmp 13))]
abbrev p_keytree_Tree_find_1 : List Nat := [0, 1, 2, 3, 4, 5, 6]
def s_keytree_Tree_find_2 : List AStep := [.pure (some 4) false (.assign (.const (.int .i64 0))), .pure (some 5) false (.assign (.const (.bool false)))]
abbrev p_keytree_Tree_find_2 : List Nat := [0, 1]
def s_keytree_Tree_find_3 : List AStep := [.pure (some 16) false (.move (.tmp 0)), .pure (some 17) false (.nilCheck (.tmp 16)), .pure (some 18) false (.fieldAddr 92 (.tmp 17) 1), .read (some 19) false (.load 90 (.tmp 18)), .pure (some 20) false (.move (.tmp 1)), .call (some 21) false ⟨.value (.func 50), #[.tmp 19, .tmp 20, .func 51], #[90, 29, 133]⟩, .pure (some 15) false (.move (.tmp 21)), .pure (some 22) false (.extract (.tmp 15) 0), .pure (some 23) false (.extract (.tmp 15) 1), .pure (some 6) false (.assign (.tmp 22)), .pure (some 7) false (.assign (.tmp 23))]
abbrev p_keytree_Tree_find_3 : List Nat := [0, 1, 2, 3, 4, 5, 6, 7, 8, 9, 10]
def s_keytree_Tree_find_4 : List AStep := [.pure (some 24) false (.move (.tmp 7))]
abbrev p_keytree_Tree_find_4 : List Nat := [0]
def s_keytree_Tree_find_5 : List AStep := [.pure (some 25) false (.move (.tmp 6)), .pure (some 4) false (.assign (.tmp 25)), .pure (some 5) false (.assign (.const (.bool true)))]
abbrev p_keytree_Tree_find_5 : List Nat := [0, 1, 2]
def s_keytree_Tree_find_6 : SP := (.one (.pure (some 26) false (.move (.tmp 6))) (.one (.pure (some 27) false (.binOp .eql 3 (.tmp 26) (.const (.int .i64 0)) 3)) (.one (.pure (some 28) true (.move (.tmp 27))) (.one (.guard 28 false (.pure (some 29) false (.move (.tmp 1)))) (.one (.guard 28 false (.pure (some 30) false (.move (.tmp 0)))) (.one (.guard 28 false (.pure (some 31) false (.nilCheck (.tmp 30)))) (.one (.guard 28 false (.pure (some 32) false (.fieldAddr 92 (.tmp 31) 1))) (.one (.guard 28 false (.pure (some 34) false (.move (.tmp 6)))) (.one (.guard 28 false (.pure (some 35) false (.binOp .sub 3 (.tmp 34) (.const (.int .i64 1)) 3))) (.one (.guard 28 false (.pure (some 40) false (.move (.tmp 0)))) (.one (.guard 28 false (.pure (some 41) false (.nilCheck (.tmp 40)))) (.one (.guard 28 false (.pure (some 42) false (.fieldAddr 92 (.tmp 41) 1))) (.one (.guard 28 false (.pure (some 44) false (.move (.tmp 6)))) (.one (.guard 28 false (.pure (some 45) false (.binOp .sub 3 (.tmp 44) (.const (.int .i64 1)) 3))) (.one (.guard 28 false (.read (some 33) false (.load 90 (.tmp 32)))) (.one (.guard 28 false (.pure (some 36) false (.indexAddr 90 (.tmp 33) (.tmp 35)))) (.one (.guard 28 false (.pure (some 37) false (.fieldAddr 89 (.tmp 36) 1))) (.one (.guard 28 false (.read (some 38) false (.load 29 (.tmp 37)))) (.one (.guard 28 false (.pure (some 39) false (.binOp .sub 29 (.tmp 29) (.tmp 38) 29))) (.one (.guard 28 false (.read (some 43) false (.load 90 (.tmp 42)))) (.one (.guard 28 false (.pure (some 46) false (.indexAddr 90 (.tmp 43) (.tmp 45)))) (.one (.guard 28 false (.pure (some 47) false (.fieldAddr 89 (.tmp 46) 0))) (.one (.guard 28 false (.read (some 48) false (.load 3 (.tmp 47)))) (.one (.guard 28 false (.call (some 49) false ⟨.value (.func 49), #[.tmp 48], #[3]⟩)) (.one (.guard 28 false (.pure (some 50) false (.binOp .geq 29 (.tmp 39) (.tmp 49) 29))) (.one (.pure (some 51) false (.pick (.tmp 28) (.const (.bool true)) (.tmp 50))) .done))))))))))))))))))))))))))
abbrev p_keytree_Tree_find_6 : PC := (.calm 0 67108862 (.calm 1 67108860 (.calm 2 67108856 (.calm 3 50339840 (.calm 4 50347232 (.calm 5 50347200 (.calm 6 50347136 (.calm 8 50347520 (.calm 9 50347008 (.calm 14 66289664 (.calm 15 66256896 (.calm 16 66191360 (.calm 18 66584576 (.calm 19 66060288 (.calm 7 50347008 (.calm 10 50345984 (.calm 11 50343936 (.calm 12 50339840 (.calm 13 50331648 (.calm 17 66060288 (.calm 20 65011712 (.calm 21 62914560 (.calm 22 58720256 (.act 23 (.calm 24 33554432 (.calm 25 0 .done))))))))))))))))))))))))))
abbrev g_keytree_Tree_find_6 : List Dg := [⟨0, 64, 67108864, .pure, true⟩, ⟨1, 67108864, 134217728, .pure, true⟩, ⟨2, 134217728, 268435456, .pure, true⟩, ⟨4, 268435458, 536870912, .pure, true⟩, ⟨4, 268435457, 1073741824, .pure, true⟩, ⟨20, 1342177280, 2147483648, .pure, true⟩, ⟨36, 2415919104, 4294967296, .pure, true⟩, ⟨68, 4563402752, 8589934592, .read, true⟩, ⟨4, 268435520, 17179869184, .pure, true⟩, ⟨260, 17448304640, 34359738368, .pure, true⟩, ⟨644, 43218108416, 68719476736, .pure, true⟩, ⟨1028, 68987912192, 137438953472, .pure, true⟩, ⟨2052, 137707388928, 274877906944, .read, true⟩, ⟨4108, 275683213312, 549755813888, .pure, true⟩, ⟨4, 268435457, 1099511627776, .pure, true⟩, ⟨16388, 1099780063232, 2199023255552, .pure, true⟩, ⟨32772, 2199291691008, 4398046511104, .pure, true⟩, ⟨65540, 4398314946560, 8796093022208, .read, true⟩, ⟨4, 268435520, 17592186044416, .pure, true⟩, ⟨262148, 17592454479872, 35184372088832, .pure, true⟩, ⟨655364, 43980733546496, 70368744177664, .pure, true⟩, ⟨1048580, 70369012613120, 140737488355328, .pure, true⟩, ⟨2097156, 140737756790784, 281474976710656, .read, true⟩, ⟨4194308, 281475245146112, 562949953421312, .call, true⟩, ⟨8396804, 563499977670656, 1125899906842624, .pure, true⟩, ⟨16777220, 1125900175278080, 2251799813685248, .pure, true⟩]
abbrev q_keytree_Tree_find_6 : List Nat := []
def s_keytree_Tree_find_7 : List AStep := [.pure (some 4) false (.assign (.const (.int .i64 0))), .pure (some 5) false (.assign (.const (.bool false)))]
abbrev p_keytree_Tree_find_7 : List Nat := [0, 1]
def s_keytree_Tree_find_8 : List AStep := [.pure (some 52) false (.move (.tmp 6)), .pure (some 53) false (.binOp .sub 3 (.tmp 52) (.const (.int .i64 1)) 3), .pure (some 4) false (.assign (.tmp 53)), .pure (some 5) false (.assign (.const (.bool true)))]
abbrev p_keytree_Tree_find_8 : List Nat := [0, 1, 2, 3]

/-! (*erewhile/keytree.Tree).down -/
abbrev n_keytree_Tree_down : Nat := 29
theorem func_keytree_Tree_down : Try.prog.funcs[n_keytree_Tree_down]? = some Try.f29 := Try.func29
theorem call_keytree_Tree_down : ∀ args w, (callFunc n_keytree_Tree_down args).run Try.prog w = .ok (.enter n_keytree_Tree_down args) w := Try.call29
theorem nt_keytree_Tree_down : Try.f29.ntmps = 34 := Try.ntmps29
theorem rs_keytree_Tree_down : Try.f29.results.toList = [.cell 8 52] := by rw [Try.results29]
def s_keytree_Tree_down_0 : List AStep := [.eff (some 4) (.box 53 (.tmp 0)), .eff (some 5) (.box 89 (.tmp 1)), .eff (some 8) (.alloc 52)]
abbrev p_keytree_Tree_down_0 : List Nat := [0, 1, 2]
def s_keytree_Tree_down_1 : List AStep := [.pure (some 12) false (.makeFunc (.func 52) #[] #[.tmp 4]), .pure (some 9) false (.assign (.tmp 12))]
abbrev p_keytree_Tree_down_1 : List Nat := [0, 1]
def s_keytree_Tree_down_2 : List AStep := [.pure (some 13) false (.fieldAddr 89 (.tmp 5) 0), .read (some 14) false (.load 3 (.tmp 13)), .pure (some 15) false (.binOp .lss 3 (.tmp 14) (.const (.int .i64 17)) 3)]
abbrev p_keytree_Tree_down_2 : List Nat := [0, 1, 2]
def s_keytree_Tree_down_3 : List AStep := [.pure (some 17) false (.move (.tmp 9)), .read (some 18) false (.load 89 (.tmp 5)), .call (some 19) false ⟨.value (.tmp 17), #[.tmp 18], #[89]⟩, .pure (some 16) false (.move (.tmp 19)), .pure (some 20) false (.extract (.tmp 16) 0), .pure (some 21) false (.extract (.tmp 16) 1), .eff (some 10) (.alloc 89), .eff (some 11) (.alloc 89), .eff none (.store 89 (.tmp 10) (.tmp 20)), .eff none (.store 89 (.tmp 11) (.tmp 21))]
abbrev p_keytree_Tree_down_3 : List Nat := [0, 1, 2, 3, 4, 5, 6, 7, 8, 9]
def s_keytree_Tree_down_4 : List AStep := [.pure (some 22) false (.move (.tmp 2)), .pure (some 23) false (.fieldAddr 89 (.tmp 11) 1), .read (some 24) false (.load 29 (.tmp 23)), .pure (some 25) false (.binOp .geq 29 (.tmp 22) (.tmp 24) 29)]
abbrev p_keytree_Tree_down_4 : List Nat := [0, 1, 2, 3]
def s_keytree_Tree_down_5 : List AStep := [.read (some 26) false (.load 89 (.tmp 11)), .read (some 27) false (.load 89 (.tmp 10)), .eff none (.store 89 (.tmp 10) (.tmp 26)), .eff none (.store 89 (.tmp 11) (.tmp 27))]
abbrev p_keytree_Tree_down_5 : List Nat := [0, 1, 2, 3]
abbrev q_keytree_Tree_down_6 : List Nat := [1002]
def s_keytree_Tree_down_6 : List AStep := [.pure (some 28) false (.move (.tmp 3)), .read (some 29) false (.load 89 (.tmp 11)), .mcall (some 30) false ⟨.value (.tmp 28), #[.tmp 29], #[89]⟩]
abbrev p_keytree_Tree_down_6 : List Nat := [0, 1, 2]
def s_keytree_Tree_down_7 : List AStep := [.read (some 31) false (.load 89 (.tmp 10)), .eff none (.store 89 (.tmp 5) (.tmp 31))]
abbrev p_keytree_Tree_down_7 : List Nat := [0, 1]
def s_keytree_Tree_down_8 : List AStep := [.pure (some 32) false (.fieldAddr 89 (.tmp 5) 2), .read (some 33) false (.load 52 (.tmp 32)), .eff none (.store 52 (.tmp 8) (.tmp 33))]
abbrev p_keytree_Tree_down_8 : List Nat := [0, 1, 2]

/-! (*erewhile/keytree.Tree).Puncture$1 -/
abbrev n_keytree_Tree_Puncture_1 : Nat := 30
theorem func_keytree_Tree_Puncture_1 : Try.prog.funcs[n_keytree_Tree_Puncture_1]? = some Try.f30 := Try.func30
theorem call_keytree_Tree_Puncture_1 : ∀ args w, (callFunc n_keytree_Tree_Puncture_1 args).run Try.prog w = .ok (.enter n_keytree_Tree_Puncture_1 args) w := Try.call30
theorem nt_keytree_Tree_Puncture_1 : Try.f30.ntmps = 7 := Try.ntmps30
theorem rs_keytree_Tree_Puncture_1 : Try.f30.results.toList = [] := by rw [Try.results30]
def s_keytree_Tree_Puncture_1_0 : List AStep := [.eff (some 2) (.box 89 (.tmp 0))]
abbrev p_keytree_Tree_Puncture_1_0 : List Nat := [0]
def s_keytree_Tree_Puncture_1_1 : List AStep := [.read (some 3) false (.load 90 (.tmp 1)), .read (some 4) false (.load 89 (.tmp 2)), .eff (some 5) (.buildSlice 90 1 #[(0, .tmp 4)]), .eff (some 6) (.call (.mk (.builtin .append) #[.tmp 3, .tmp 5] #[90, 90])), .eff none (.store 90 (.tmp 1) (.tmp 6))]
abbrev p_keytree_Tree_Puncture_1_1 : List Nat := [0, 1, 2, 3, 4]

/-! slices.SortFunc[[]erewhile/keytree.Held,erewhile/keytree.Held] -/
abbrev n_slices_SortFunc_keytree_Held_keytree_Held : Nat := 31
theorem func_slices_SortFunc_keytree_Held_keytree_Held : Try.prog.funcs[n_slices_SortFunc_keytree_Held_keytree_Held]? = some Try.f31 := Try.func31
theorem call_slices_SortFunc_keytree_Held_keytree_Held : ∀ args w, (callFunc n_slices_SortFunc_keytree_Held_keytree_Held args).run Try.prog w = .ok (.enter n_slices_SortFunc_keytree_Held_keytree_Held args) w := Try.call31
theorem nt_slices_SortFunc_keytree_Held_keytree_Held : Try.f31.ntmps = 14 := Try.ntmps31
theorem rs_slices_SortFunc_keytree_Held_keytree_Held : Try.f31.results.toList = [] := by rw [Try.results31]
def s_slices_SortFunc_keytree_Held_keytree_Held_0 : List AStep := [.pure (some 5) false (.move (.tmp 0)), .pure (some 6) false (.call (.mk (.builtin .len) #[.tmp 5] #[90])), .pure (some 4) false (.assign (.tmp 6))]
abbrev p_slices_SortFunc_keytree_Held_keytree_Held_0 : List Nat := [0, 1, 2]
def s_slices_SortFunc_keytree_Held_keytree_Held_1 : List AStep := [.pure (some 7) false (.move (.tmp 0)), .pure (some 8) false (.move (.tmp 4)), .pure (some 9) false (.move (.tmp 4)), .pure (some 10) false (.convert 3 138 (.tmp 9)), .call (some 11) false ⟨.value (.func 54), #[.tmp 10], #[138]⟩, .pure (some 12) false (.move (.tmp 1)), .call (some 13) false ⟨.value (.func 53), #[.tmp 7, .const (.int .i64 0), .tmp 8, .tmp 11, .tmp 12], #[90, 3, 3, 3, 103]⟩]
abbrev p_slices_SortFunc_keytree_Held_keytree_Held_1 : List Nat := [0, 1, 2, 3, 4, 5, 6]

/-! (*erewhile/keytree.Tree).Puncture$2 -/
abbrev n_keytree_Tree_Puncture_2 : Nat := 32
theorem func_keytree_Tree_Puncture_2 : Try.prog.funcs[n_keytree_Tree_Puncture_2]? = some Try.f32 := Try.func32
theorem call_keytree_Tree_Puncture_2 : ∀ args w, (callFunc n_keytree_Tree_Puncture_2 args).run Try.prog w = .ok (.enter n_keytree_Tree_Puncture_2 args) w := Try.call32
theorem nt_keytree_Tree_Puncture_2 : Try.f32.ntmps = 10 := Try.ntmps32
theorem rs_keytree_Tree_Puncture_2 : Try.f32.results.toList = [.tmp 4] := by rw [Try.results32]
def s_keytree_Tree_Puncture_2_0 : List AStep := [.eff (some 2) (.box 89 (.tmp 0)), .eff (some 3) (.box 89 (.tmp 1)), .pure (some 4) false (.assign (.const (.int .i64 0)))]
abbrev p_keytree_Tree_Puncture_2_0 : List Nat := [0, 1, 2]
def s_keytree_Tree_Puncture_2_1 : List AStep := [.pure (some 5) false (.fieldAddr 89 (.tmp 2) 1), .read (some 6) false (.load 29 (.tmp 5)), .pure (some 7) false (.fieldAddr 89 (.tmp 3) 1), .read (some 8) false (.load 29 (.tmp 7)), .call (some 9) false ⟨.value (.func 33), #[.tmp 6, .tmp 8], #[29, 29]⟩, .pure (some 4) false (.assign (.tmp 9))]
abbrev p_keytree_Tree_Puncture_2_1 : List Nat := [0, 1, 2, 3, 4, 5]

/-! cmp.Compare[uint64] -/
abbrev n_cmp_Compare_uint64 : Nat := 33
theorem func_cmp_Compare_uint64 : Try.prog.funcs[n_cmp_Compare_uint64]? = some Try.f33 := Try.func33
theorem call_cmp_Compare_uint64 : ∀ args w, (callFunc n_cmp_Compare_uint64 args).run Try.prog w = .ok (.enter n_cmp_Compare_uint64 args) w := Try.call33
theorem nt_cmp_Compare_uint64 : Try.f33.ntmps = 20 := Try.ntmps33
theorem rs_cmp_Compare_uint64 : Try.f33.results.toList = [.tmp 4] := by rw [Try.results33]
def s_cmp_Compare_uint64_0 : List AStep := [.pure (some 4) false (.assign (.const (.int .i64 0)))]
abbrev p_cmp_Compare_uint64_0 : List Nat := [0]
def s_cmp_Compare_uint64_1 : List AStep := [.pure (some 7) false (.move (.tmp 0)), .call (some 8) false ⟨.value (.func 55), #[.tmp 7], #[29]⟩, .pure (some 5) false (.assign (.tmp 8))]
abbrev p_cmp_Compare_uint64_1 : List Nat := [0, 1, 2]
def s_cmp_Compare_uint64_2 : List AStep := [.pure (some 9) false (.move (.tmp 1)), .call (some 10) false ⟨.value (.func 55), #[.tmp 9], #[29]⟩, .pure (some 6) false (.assign (.tmp 10))]
abbrev p_cmp_Compare_uint64_2 : List Nat := [0, 1, 2]
def s_cmp_Compare_uint64_3 : List AStep := [.pure (some 11) false (.move (.tmp 5))]
abbrev p_cmp_Compare_uint64_3 : List Nat := [0]
def s_cmp_Compare_uint64_4 : List AStep := [.pure (some 12) false (.move (.tmp 6))]
abbrev p_cmp_Compare_uint64_4 : List Nat := [0]
def s_cmp_Compare_uint64_5 : List AStep := [.pure (some 4) false (.assign (.const (.int .i64 0)))]
abbrev p_cmp_Compare_uint64_5 : List Nat := [0]
def s_cmp_Compare_uint64_6 : List AStep := [.pure (some 4) false (.assign (.const (.int .i64 (-1))))]
abbrev p_cmp_Compare_uint64_6 : List Nat := [0]
def s_cmp_Compare_uint64_7 : List AStep := [.pure (some 13) false (.move (.tmp 6))]
abbrev p_cmp_Compare_uint64_7 : List Nat := [0]
def s_cmp_Compare_uint64_8 : List AStep := [.pure (some 4) false (.assign (.const (.int .i64 1)))]
abbrev p_cmp_Compare_uint64_8 : List Nat := [0]
def s_cmp_Compare_uint64_9 : List AStep := [.pure (some 14) false (.move (.tmp 0)), .pure (some 15) false (.move (.tmp 1)), .pure (some 16) false (.binOp .lss 29 (.tmp 14) (.tmp 15) 29)]
abbrev p_cmp_Compare_uint64_9 : List Nat := [0, 1, 2]
def s_cmp_Compare_uint64_10 : List AStep := [.pure (some 4) false (.assign (.const (.int .i64 (-1))))]
abbrev p_cmp_Compare_uint64_10 : List Nat := [0]
def s_cmp_Compare_uint64_11 : List AStep := [.pure (some 17) false (.move (.tmp 0)), .pure (some 18) false (.move (.tmp 1)), .pure (some 19) false (.binOp .gtr 29 (.tmp 17) (.tmp 18) 29)]
abbrev p_cmp_Compare_uint64_11 : List Nat := [0, 1, 2]
def s_cmp_Compare_uint64_12 : List AStep := [.pure (some 4) false (.assign (.const (.int .i64 1)))]
abbrev p_cmp_Compare_uint64_12 : List Nat := [0]
def s_cmp_Compare_uint64_13 : List AStep := [.pure (some 4) false (.assign (.const (.int .i64 0)))]
abbrev p_cmp_Compare_uint64_13 : List Nat := [0]

/-! slices.Insert[[]erewhile/keytree.Held,erewhile/keytree.Held] -/
abbrev n_slices_Insert_keytree_Held_keytree_Held : Nat := 34
theorem func_slices_Insert_keytree_Held_keytree_Held : Try.prog.funcs[n_slices_Insert_keytree_Held_keytree_Held]? = some Try.f34 := Try.func34
theorem call_slices_Insert_keytree_Held_keytree_Held : ∀ args w, (callFunc n_slices_Insert_keytree_Held_keytree_Held args).run Try.prog w = .ok (.enter n_slices_Insert_keytree_Held_keytree_Held args) w := Try.call34
theorem nt_slices_Insert_keytree_Held_keytree_Held : Try.f34.ntmps = 95 := Try.ntmps34
theorem rs_slices_Insert_keytree_Held_keytree_Held : Try.f34.results.toList = [.tmp 6] := by rw [Try.results34]
def s_slices_Insert_keytree_Held_keytree_Held_0 : List AStep := [.pure (some 6) false (.assign (.const (.slice none 0 0)))]
abbrev p_slices_Insert_keytree_Held_keytree_Held_0 : List Nat := [0]
def s_slices_Insert_keytree_Held_keytree_Held_1 : List AStep := [.pure (some 10) false (.move (.tmp 0)), .pure (some 11) false (.move (.tmp 1)), .pure (some 12) false (.slice 90 (.tmp 10) (some (.tmp 11)) none none)]
abbrev p_slices_Insert_keytree_Held_keytree_Held_1 : List Nat := [0, 1, 2]
def s_slices_Insert_keytree_Held_keytree_Held_2 : List AStep := [.pure (some 13) false (.move (.tmp 2)), .pure (some 14) false (.call (.mk (.builtin .len) #[.tmp 13] #[90])), .pure (some 7) false (.assign (.tmp 14))]
abbrev p_slices_Insert_keytree_Held_keytree_Held_2 : List Nat := [0, 1, 2]
def s_slices_Insert_keytree_Held_keytree_Held_3 : List AStep := [.pure (some 15) false (.move (.tmp 7)), .pure (some 16) false (.binOp .eql 3 (.tmp 15) (.const (.int .i64 0)) 3)]
abbrev p_slices_Insert_keytree_Held_keytree_Held_3 : List Nat := [0, 1]
def s_slices_Insert_keytree_Held_keytree_Held_4 : List AStep := [.pure (some 17) false (.move (.tmp 0)), .pure (some 6) false (.assign (.tmp 17))]
abbrev p_slices_Insert_keytree_Held_keytree_Held_4 : List Nat := [0, 1]
def s_slices_Insert_keytree_Held_keytree_Held_5 : List AStep := [.pure (some 18) false (.move (.tmp 0)), .pure (some 19) false (.call (.mk (.builtin .len) #[.tmp 18] #[90])), .pure (some 8) false (.assign (.tmp 19))]
abbrev p_slices_Insert_keytree_Held_keytree_Held_5 : List Nat := [0, 1, 2]
def s_slices_Insert_keytree_Held_keytree_Held_6 : List AStep := [.pure (some 20) false (.move (.tmp 1)), .pure (some 21) false (.move (.tmp 8)), .pure (some 22) false (.binOp .eql 3 (.tmp 20) (.tmp 21) 3)]
abbrev p_slices_Insert_keytree_Held_keytree_Held_6 : List Nat := [0, 1, 2]
def s_slices_Insert_keytree_Held_keytree_Held_7 : List AStep := [.pure (some 23) false (.move (.tmp 0)), .pure (some 24) false (.move (.tmp 2)), .eff (some 25) (.call (.mk (.builtin .append) #[.tmp 23, .tmp 24] #[90, 90])), .pure (some 6) false (.assign (.tmp 25))]
abbrev p_slices_Insert_keytree_Held_keytree_Held_7 : List Nat := [0, 1, 2, 3]
def s_slices_Insert_keytree_Held_keytree_Held_8 : List AStep := [.pure (some 26) false (.move (.tmp 8)), .pure (some 27) false (.move (.tmp 7)), .pure (some 28) false (.binOp .add 3 (.tmp 26) (.tmp 27) 3), .pure (some 29) false (.move (.tmp 0)), .pure (some 30) false (.call (.mk (.builtin .cap) #[.tmp 29] #[90])), .pure (some 31) false (.binOp .gtr 3 (.tmp 28) (.tmp 30) 3)]
abbrev p_slices_Insert_keytree_Held_keytree_Held_8 : List Nat := [0, 1, 2, 3, 4, 5]
def s_slices_Insert_keytree_Held_keytree_Held_9 : List AStep := [.pure (some 32) false (.move (.tmp 0)), .pure (some 33) false (.move (.tmp 1)), .pure (some 34) false (.slice 90 (.tmp 32) none (some (.tmp 33)) none), .pure (some 35) false (.move (.tmp 8)), .pure (some 36) false (.move (.tmp 7)), .pure (some 37) false (.binOp .add 3 (.tmp 35) (.tmp 36) 3), .pure (some 38) false (.move (.tmp 1)), .pure (some 39) false (.binOp .sub 3 (.tmp 37) (.tmp 38) 3), .eff (some 40) (.call (.mk (.builtin .append) #[.tmp 34, .tmp 39] #[90, 3])), .pure (some 9) false (.assign (.tmp 40))]
abbrev p_slices_Insert_keytree_Held_keytree_Held_9 : List Nat := [0, 1, 2, 3, 4, 5, 6, 7, 8, 9]
def s_slices_Insert_keytree_Held_keytree_Held_10 : List AStep := [.pure (some 41) false (.move (.tmp 9)), .pure (some 42) false (.move (.tmp 1)), .pure (some 43) false (.slice 90 (.tmp 41) (some (.tmp 42)) none none), .pure (some 44) false (.move (.tmp 2)), .eff (some 45) (.call (.mk (.builtin .copy) #[.tmp 43, .tmp 44] #[90, 90]))]
abbrev p_slices_Insert_keytree_Held_keytree_Held_10 : List Nat := [0, 1, 2, 3, 4]
def s_slices_Insert_keytree_Held_keytree_Held_11 : SP := (.one (.pure (some 46) false (.move (.tmp 9))) (.one (.pure (some 47) false (.move (.tmp 1))) (.one (.pure (some 48) false (.move (.tmp 7))) (.one (.pure (some 49) false (.binOp .add 3 (.tmp 47) (.tmp 48) 3)) (.one (.pure (some 50) false (.slice 90 (.tmp 46) (some (.tmp 49)) none none)) (.one (.pure (some 51) false (.move (.tmp 0))) (.one (.pure (some 52) false (.move (.tmp 1))) (.one (.pure (some 53) false (.slice 90 (.tmp 51) (some (.tmp 52)) none none)) (.one (.eff (some 54) (.call (.mk (.builtin .copy) #[.tmp 50, .tmp 53] #[90, 90]))) .done)))))))))
abbrev p_slices_Insert_keytree_Held_keytree_Held_11 : PC := (.calm 0 272 (.calm 1 280 (.calm 2 280 (.calm 3 272 (.calm 4 256 (.calm 5 384 (.calm 6 384 (.calm 7 256 (.act 8 .done)))))))))
abbrev g_slices_Insert_keytree_Held_keytree_Held_11 : List Dg := [⟨0, 512, 70368744177664, .pure, true⟩, ⟨0, 2, 140737488355328, .pure, true⟩, ⟨0, 128, 281474976710656, .pure, true⟩, ⟨6, 422212465065984, 562949953421312, .pure, true⟩, ⟨9, 633318697598976, 1125899906842624, .pure, true⟩, ⟨0, 1, 2251799813685248, .pure, true⟩, ⟨0, 2, 4503599627370496, .pure, true⟩, ⟨96, 6755399441055744, 9007199254740992, .pure, true⟩, ⟨144, 10133099161583616, 18014398509481984, .eff, false⟩]
abbrev q_slices_Insert_keytree_Held_keytree_Held_11 : List Nat := []
def s_slices_Insert_keytree_Held_keytree_Held_12 : List AStep := [.pure (some 55) false (.move (.tmp 9)), .pure (some 6) false (.assign (.tmp 55))]
abbrev p_slices_Insert_keytree_Held_keytree_Held_12 : List Nat := [0, 1]
def s_slices_Insert_keytree_Held_keytree_Held_13 : List AStep := [.pure (some 56) false (.move (.tmp 0)), .pure (some 57) false (.move (.tmp 8)), .pure (some 58) false (.move (.tmp 7)), .pure (some 59) false (.binOp .add 3 (.tmp 57) (.tmp 58) 3), .pure (some 60) false (.slice 90 (.tmp 56) none (some (.tmp 59)) none), .pure (some 0) false (.assign (.tmp 60))]
abbrev p_slices_Insert_keytree_Held_keytree_Held_13 : List Nat := [0, 1, 2, 3, 4, 5]
def s_slices_Insert_keytree_Held_keytree_Held_14 : List AStep := [.pure (some 61) false (.move (.tmp 2)), .pure (some 62) false (.move (.tmp 0)), .pure (some 63) false (.move (.tmp 1)), .pure (some 64) false (.move (.tmp 7)), .pure (some 65) false (.binOp .add 3 (.tmp 63) (.tmp 64) 3), .pure (some 66) false (.slice 90 (.tmp 62) (some (.tmp 65)) none none), .call (some 67) false ⟨.value (.func 56), #[.tmp 61, .tmp 66], #[90, 90]⟩, .pure (some 68) false (.unOp .not 4 (.tmp 67))]
abbrev p_slices_Insert_keytree_Held_keytree_Held_14 : List Nat := [0, 1, 2, 3, 4, 5, 6, 7]
def s_slices_Insert_keytree_Held_keytree_Held_15 : SP := (.one (.pure (some 69) false (.move (.tmp 0))) (.one (.pure (some 70) false (.move (.tmp 1))) (.one (.pure (some 71) false (.move (.tmp 7))) (.one (.pure (some 72) false (.binOp .add 3 (.tmp 70) (.tmp 71) 3)) (.one (.pure (some 73) false (.slice 90 (.tmp 69) (some (.tmp 72)) none none)) (.one (.pure (some 74) false (.move (.tmp 0))) (.one (.pure (some 75) false (.move (.tmp 1))) (.one (.pure (some 76) false (.slice 90 (.tmp 74) (some (.tmp 75)) none none)) (.one (.eff (some 77) (.call (.mk (.builtin .copy) #[.tmp 73, .tmp 76] #[90, 90]))) .done)))))))))
abbrev p_slices_Insert_keytree_Held_keytree_Held_15 : PC := (.calm 0 272 (.calm 1 280 (.calm 2 280 (.calm 3 272 (.calm 4 256 (.calm 5 384 (.calm 6 384 (.calm 7 256 (.act 8 .done)))))))))
abbrev g_slices_Insert_keytree_Held_keytree_Held_15 : List Dg := [⟨0, 1, 590295810358705651712, .pure, true⟩, ⟨0, 2, 1180591620717411303424, .pure, true⟩, ⟨0, 128, 2361183241434822606848, .pure, true⟩, ⟨6, 3541774862152233910272, 4722366482869645213696, .pure, true⟩, ⟨9, 5312662293228350865408, 9444732965739290427392, .pure, true⟩, ⟨0, 1, 18889465931478580854784, .pure, true⟩, ⟨0, 2, 37778931862957161709568, .pure, true⟩, ⟨96, 56668397794435742564352, 75557863725914323419136, .pure, true⟩, ⟨144, 85002596691653613846528, 151115727451828646838272, .eff, false⟩]
abbrev q_slices_Insert_keytree_Held_keytree_Held_15 : List Nat := []
def s_slices_Insert_keytree_Held_keytree_Held_16 : List AStep := [.pure (some 78) false (.move (.tmp 0)), .pure (some 79) false (.move (.tmp 1)), .pure (some 80) false (.slice 90 (.tmp 78) (some (.tmp 79)) none none), .pure (some 81) false (.move (.tmp 2)), .eff (some 82) (.call (.mk (.builtin .copy) #[.tmp 80, .tmp 81] #[90, 90]))]
abbrev p_slices_Insert_keytree_Held_keytree_Held_16 : List Nat := [0, 1, 2, 3, 4]
def s_slices_Insert_keytree_Held_keytree_Held_17 : List AStep := [.pure (some 83) false (.move (.tmp 0)), .pure (some 6) false (.assign (.tmp 83))]
abbrev p_slices_Insert_keytree_Held_keytree_Held_17 : List Nat := [0, 1]
def s_slices_Insert_keytree_Held_keytree_Held_18 : List AStep := [.pure (some 84) false (.move (.tmp 0)), .pure (some 85) false (.move (.tmp 8)), .pure (some 86) false (.slice 90 (.tmp 84) (some (.tmp 85)) none none), .pure (some 87) false (.move (.tmp 2)), .eff (some 88) (.call (.mk (.builtin .copy) #[.tmp 86, .tmp 87] #[90, 90]))]
abbrev p_slices_Insert_keytree_Held_keytree_Held_18 : List Nat := [0, 1, 2, 3, 4]
def s_slices_Insert_keytree_Held_keytree_Held_19 : List AStep := [.pure (some 89) false (.move (.tmp 0)), .pure (some 90) false (.move (.tmp 1)), .pure (some 91) false (.slice 90 (.tmp 89) (some (.tmp 90)) none none), .pure (some 92) false (.move (.tmp 7)), .call (some 93) false ⟨.value (.func 57), #[.tmp 91, .tmp 92], #[90, 3]⟩]
abbrev p_slices_Insert_keytree_Held_keytree_Held_19 : List Nat := [0, 1, 2, 3, 4]
def s_slices_Insert_keytree_Held_keytree_Held_20 : List AStep := [.pure (some 94) false (.move (.tmp 0)), .pure (some 6) false (.assign (.tmp 94))]
abbrev p_slices_Insert_keytree_Held_keytree_Held_20 : List Nat := [0, 1]

/-! slices.Delete[[]erewhile/keytree.Held,erewhile/keytree.Held] -/
abbrev n_slices_Delete_keytree_Held_keytree_Held : Nat := 35
theorem func_slices_Delete_keytree_Held_keytree_Held : Try.prog.funcs[n_slices_Delete_keytree_Held_keytree_Held]? = some Try.f35 := Try.func35
theorem call_slices_Delete_keytree_Held_keytree_Held : ∀ args w, (callFunc n_slices_Delete_keytree_Held_keytree_Held args).run Try.prog w = .ok (.enter n_slices_Delete_keytree_Held_keytree_Held args) w := Try.call35
theorem nt_slices_Delete_keytree_Held_keytree_Held : Try.f35.ntmps = 33 := Try.ntmps35
theorem rs_slices_Delete_keytree_Held_keytree_Held : Try.f35.results.toList = [.tmp 6] := by rw [Try.results35]
def s_slices_Delete_keytree_Held_keytree_Held_0 : List AStep := [.pure (some 6) false (.assign (.const (.slice none 0 0)))]
abbrev p_slices_Delete_keytree_Held_keytree_Held_0 : List Nat := [0]
def s_slices_Delete_keytree_Held_keytree_Held_1 : List AStep := [.pure (some 8) false (.move (.tmp 0)), .pure (some 9) false (.move (.tmp 1)), .pure (some 10) false (.move (.tmp 2)), .pure (some 11) false (.move (.tmp 0)), .pure (some 12) false (.call (.mk (.builtin .len) #[.tmp 11] #[90])), .pure (some 13) false (.slice 90 (.tmp 8) (some (.tmp 9)) (some (.tmp 10)) (some (.tmp 12)))]
abbrev p_slices_Delete_keytree_Held_keytree_Held_1 : List Nat := [0, 1, 2, 3, 4, 5]
def s_slices_Delete_keytree_Held_keytree_Held_2 : List AStep := [.pure (some 14) false (.move (.tmp 1)), .pure (some 15) false (.move (.tmp 2)), .pure (some 16) false (.binOp .eql 3 (.tmp 14) (.tmp 15) 3)]
abbrev p_slices_Delete_keytree_Held_keytree_Held_2 : List Nat := [0, 1, 2]
def s_slices_Delete_keytree_Held_keytree_Held_3 : List AStep := [.pure (some 17) false (.move (.tmp 0)), .pure (some 6) false (.assign (.tmp 17))]
abbrev p_slices_Delete_keytree_Held_keytree_Held_3 : List Nat := [0, 1]
def s_slices_Delete_keytree_Held_keytree_Held_4 : List AStep := [.pure (some 18) false (.move (.tmp 0)), .pure (some 19) false (.call (.mk (.builtin .len) #[.tmp 18] #[90])), .pure (some 7) false (.assign (.tmp 19))]
abbrev p_slices_Delete_keytree_Held_keytree_Held_4 : List Nat := [0, 1, 2]
def s_slices_Delete_keytree_Held_keytree_Held_5 : SP := (.one (.pure (some 20) false (.move (.tmp 0))) (.one (.pure (some 21) false (.move (.tmp 1))) (.one (.pure (some 22) false (.slice 90 (.tmp 20) none (some (.tmp 21)) none)) (.one (.pure (some 23) false (.move (.tmp 0))) (.one (.pure (some 24) false (.move (.tmp 2))) (.one (.pure (some 25) false (.slice 90 (.tmp 23) (some (.tmp 24)) none none)) (.one (.eff (some 26) (.call (.mk (.builtin .append) #[.tmp 22, .tmp 25] #[90, 90]))) (.one (.pure (some 0) false (.assign (.tmp 26))) .done))))))))
abbrev p_slices_Delete_keytree_Held_keytree_Held_5 : PC := (.calm 0 196 (.calm 1 196 (.calm 2 192 (.calm 3 224 (.calm 4 224 (.calm 5 192 (.act 6 (.calm 7 0 .done))))))))
abbrev g_slices_Delete_keytree_Held_keytree_Held_5 : List Dg := [⟨0, 1, 1048576, .pure, true⟩, ⟨0, 2, 2097152, .pure, true⟩, ⟨3, 3145728, 4194304, .pure, true⟩, ⟨0, 1, 8388608, .pure, true⟩, ⟨0, 4, 16777216, .pure, true⟩, ⟨24, 25165824, 33554432, .pure, true⟩, ⟨36, 37748736, 67108864, .eff, false⟩, ⟨127, 67108864, 1, .pure, true⟩]
abbrev q_slices_Delete_keytree_Held_keytree_Held_5 : List Nat := []
def s_slices_Delete_keytree_Held_keytree_Held_6 : List AStep := [.pure (some 27) false (.move (.tmp 0)), .pure (some 28) false (.move (.tmp 0)), .pure (some 29) false (.call (.mk (.builtin .len) #[.tmp 28] #[90])), .pure (some 30) false (.move (.tmp 7)), .pure (some 31) false (.slice 90 (.tmp 27) (some (.tmp 29)) (some (.tmp 30)) none), .eff none (.call (.mk (.builtin .clear) #[.tmp 31] #[90]))]
abbrev p_slices_Delete_keytree_Held_keytree_Held_6 : List Nat := [0, 1, 2, 3, 4, 5]
def s_slices_Delete_keytree_Held_keytree_Held_7 : List AStep := [.pure (some 32) false (.move (.tmp 0)), .pure (some 6) false (.assign (.tmp 32))]
abbrev p_slices_Delete_keytree_Held_keytree_Held_7 : List Nat := [0, 1]

/-! (*erewhile/keytree.Tree).Key$1 -/
abbrev n_keytree_Tree_Key_1 : Nat := 36
theorem func_keytree_Tree_Key_1 : Try.prog.funcs[n_keytree_Tree_Key_1]? = some Try.f36 := Try.func36
theorem call_keytree_Tree_Key_1 : ∀ args w, (callFunc n_keytree_Tree_Key_1 args).run Try.prog w = .ok (.enter n_keytree_Tree_Key_1 args) w := Try.call36
theorem nt_keytree_Tree_Key_1 : Try.f36.ntmps = 2 := Try.ntmps36
theorem rs_keytree_Tree_Key_1 : Try.f36.results.toList = [] := by rw [Try.results36]
def s_keytree_Tree_Key_1_0 : List AStep := [.eff (some 1) (.box 89 (.tmp 0))]
abbrev p_keytree_Tree_Key_1_0 : List Nat := [0]

/-! erewhile/chacha.state -/
abbrev n_chacha_state : Nat := 47
theorem func_chacha_state : Try.prog.funcs[n_chacha_state]? = some Try.f47 := Try.func47
theorem call_chacha_state : ∀ args w, (callFunc n_chacha_state args).run Try.prog w = .ok (.enter n_chacha_state args) w := Try.call47
theorem nt_chacha_state : Try.f47.ntmps = 40 := Try.ntmps47
theorem rs_chacha_state : Try.f47.results.toList = [.cell 6 128] := by rw [Try.results47]
def s_chacha_state_0 : List AStep := [.eff (some 3) (.box 52 (.tmp 0)), .eff (some 6) (.alloc 128)]
abbrev p_chacha_state_0 : List Nat := [0, 1]
def s_chacha_state_1 : List AStep := [.pure (some 10) false (.build 128 #[(0, .const (.int .u32 1634760805)), (1, .const (.int .u32 857760878)), (2, .const (.int .u32 2036477234)), (3, .const (.int .u32 1797285236))]), .eff (some 7) (.alloc 128), .eff none (.store 128 (.tmp 7) (.tmp 10))]
abbrev p_chacha_state_1 : List Nat := [0, 1, 2]
def s_chacha_state_2 : List AStep := [.read (some 11) false (.load 52 (.tmp 3)), .pure (some 12) false (.move (.const (.int .i64 0)))]
abbrev p_chacha_state_2 : List Nat := [0, 1]
def s_chacha_state_3 : List AStep := [.pure (some 13) false (.binOp .lss 3 (.tmp 12) (.const (.int .i64 32)) 3)]
abbrev p_chacha_state_3 : List Nat := [0]
def s_chacha_state_4 : List AStep := [.pure (some 14) false (.move (.tmp 12)), .pure (some 15) false (.index 52 (.tmp 11) (.tmp 12)), .pure (some 8) false (.assign (.tmp 14)), .pure (some 9) false (.assign (.tmp 15))]
abbrev p_chacha_state_4 : List Nat := [0, 1, 2, 3]
def s_chacha_state_5 : SP := (.one (.pure (some 16) false (.move (.tmp 8))) (.one (.pure (some 17) false (.binOp .quo 3 (.tmp 16) (.const (.int .i64 4)) 3)) (.one (.pure (some 18) false (.binOp .add 3 (.const (.int .i64 4)) (.tmp 17) 3)) (.one (.pure (some 19) false (.indexAddr 128 (.tmp 7) (.tmp 18))) (.one (.pure (some 21) false (.move (.tmp 9))) (.one (.pure (some 22) false (.convert 5 95 (.tmp 21))) (.one (.pure (some 23) false (.move (.tmp 8))) (.one (.pure (some 24) false (.binOp .rem 3 (.tmp 23) (.const (.int .i64 4)) 3)) (.one (.pure (some 25) false (.binOp .mul 3 (.const (.int .i64 8)) (.tmp 24) 3)) (.one (.pure (some 26) false (.binOp .shl 95 (.tmp 22) (.tmp 25) 3)) (.one (.read (some 20) false (.load 95 (.tmp 19))) (.one (.pure (some 27) false (.binOp .or 95 (.tmp 20) (.tmp 26) 95)) (.one (.pure (some 28) false (.indexAddr 128 (.tmp 7) (.tmp 18))) (.one (.eff none (.store 95 (.tmp 28) (.tmp 27))) .done))))))))))))))
abbrev p_chacha_state_5 : PC := (.calm 0 14366 (.calm 1 14364 (.calm 2 14360 (.calm 3 14352 (.calm 5 15424 (.calm 6 15360 (.calm 7 16128 (.calm 8 15872 (.calm 9 15360 (.calm 10 14336 (.calm 4 14336 (.calm 11 12288 (.calm 12 8192 (.act 13 .done))))))))))))))
abbrev g_chacha_state_5 : List Dg := [⟨0, 256, 65536, .pure, true⟩, ⟨1, 65536, 131072, .pure, true⟩, ⟨2, 131072, 262144, .pure, true⟩, ⟨4, 262272, 524288, .pure, true⟩, ⟨8, 524288, 1048576, .read, true⟩, ⟨0, 512, 2097152, .pure, true⟩, ⟨32, 2097152, 4194304, .pure, true⟩, ⟨0, 256, 8388608, .pure, true⟩, ⟨128, 8388608, 16777216, .pure, true⟩, ⟨256, 16777216, 33554432, .pure, true⟩, ⟨576, 37748736, 67108864, .pure, true⟩, ⟨1040, 68157440, 134217728, .pure, true⟩, ⟨4095, 262272, 268435456, .pure, true⟩, ⟨8191, 402653184, 0, .eff, false⟩]
abbrev q_chacha_state_5 : List Nat := []
def s_chacha_state_6 : List AStep := [.pure (some 29) false (.binOp .add 3 (.tmp 12) (.const (.int .i64 1)) 3), .pure (some 12) false (.move (.tmp 29))]
abbrev p_chacha_state_6 : List Nat := [0, 1]
def s_chacha_state_7 : List AStep := [.pure (some 30) false (.move (.tmp 1)), .pure (some 31) false (.move (.tmp 2)), .pure (some 32) false (.convert 29 95 (.tmp 31)), .pure (some 33) false (.move (.tmp 2)), .pure (some 34) false (.binOp .shr 29 (.tmp 33) (.const (.int .u64 32)) 138), .pure (some 35) false (.convert 29 95 (.tmp 34)), .pure (some 36) false (.indexAddr 128 (.tmp 7) (.const (.int .i64 12))), .eff none (.store 95 (.tmp 36) (.tmp 30)), .pure (some 37) false (.indexAddr 128 (.tmp 7) (.const (.int .i64 14))), .eff none (.store 95 (.tmp 37) (.tmp 32)), .pure (some 38) false (.indexAddr 128 (.tmp 7) (.const (.int .i64 15))), .eff none (.store 95 (.tmp 38) (.tmp 35))]
abbrev p_chacha_state_7 : List Nat := [0, 1, 2, 3, 4, 5, 6, 7, 8, 9, 10, 11]
def s_chacha_state_8 : List AStep := [.read (some 39) false (.load 128 (.tmp 7)), .eff none (.store 128 (.tmp 6) (.tmp 39))]
abbrev p_chacha_state_8 : List Nat := [0, 1]

/-! erewhile/chacha.Rounds -/
abbrev n_chacha_Rounds : Nat := 48
theorem func_chacha_Rounds : Try.prog.funcs[n_chacha_Rounds]? = some Try.f48 := Try.func48
theorem call_chacha_Rounds : ∀ args w, (callFunc n_chacha_Rounds args).run Try.prog w = .ok (.enter n_chacha_Rounds args) w := Try.call48
theorem nt_chacha_Rounds : Try.f48.ntmps = 41 := Try.ntmps48
theorem rs_chacha_Rounds : Try.f48.results.toList = [.cell 2 128] := by rw [Try.results48]
def s_chacha_Rounds_0 : List AStep := [.eff (some 1) (.box 128 (.tmp 0)), .eff (some 2) (.alloc 128)]
abbrev p_chacha_Rounds_0 : List Nat := [0, 1]
def s_chacha_Rounds_1 : List AStep := [.pure (some 5) false (.move (.const (.int .i64 0)))]
abbrev p_chacha_Rounds_1 : List Nat := [0]
def s_chacha_Rounds_2 : List AStep := [.pure (some 6) false (.binOp .lss 3 (.tmp 5) (.const (.int .i64 10)) 3)]
abbrev p_chacha_Rounds_2 : List Nat := [0]
def s_chacha_Rounds_3 : List AStep := [.pure (some 7) false (.move (.const (.int .i64 0)))]
abbrev p_chacha_Rounds_3 : List Nat := [0]
def s_chacha_Rounds_4 : List AStep := [.pure (some 8) false (.binOp .lss 3 (.tmp 7) (.const (.int .i64 4)) 3)]
abbrev p_chacha_Rounds_4 : List Nat := [0]
def s_chacha_Rounds_5 : List AStep := [.pure (some 9) false (.move (.tmp 7)), .pure (some 3) false (.assign (.tmp 9))]
abbrev p_chacha_Rounds_5 : List Nat := [0, 1]
def s_chacha_Rounds_6 : List AStep := [.read (some 10) false (.load 128 (.tmp 1)), .pure (some 11) false (.move (.tmp 3)), .pure (some 12) false (.move (.tmp 3)), .pure (some 13) false (.binOp .add 3 (.const (.int .i64 4)) (.tmp 12) 3), .pure (some 14) false (.move (.tmp 3)), .pure (some 15) false (.binOp .add 3 (.const (.int .i64 8)) (.tmp 14) 3), .pure (some 16) false (.move (.tmp 3)), .pure (some 17) false (.binOp .add 3 (.const (.int .i64 12)) (.tmp 16) 3), .call (some 18) false ⟨.value (.func 68), #[.tmp 10, .tmp 11, .tmp 13, .tmp 15, .tmp 17], #[128, 3, 3, 3, 3]⟩, .eff none (.store 128 (.tmp 1) (.tmp 18))]
abbrev p_chacha_Rounds_6 : List Nat := [0, 1, 2, 3, 4, 5, 6, 7, 8, 9]
def s_chacha_Rounds_7 : List AStep := [.pure (some 19) false (.binOp .add 3 (.tmp 7) (.const (.int .i64 1)) 3), .pure (some 7) false (.move (.tmp 19))]
abbrev p_chacha_Rounds_7 : List Nat := [0, 1]
def s_chacha_Rounds_8 : List AStep := [.pure (some 20) false (.move (.const (.int .i64 0)))]
abbrev p_chacha_Rounds_8 : List Nat := [0]
def s_chacha_Rounds_9 : List AStep := [.pure (some 21) false (.binOp .lss 3 (.tmp 20) (.const (.int .i64 4)) 3)]
abbrev p_chacha_Rounds_9 : List Nat := [0]
def s_chacha_Rounds_10 : List AStep := [.pure (some 22) false (.move (.tmp 20)), .pure (some 4) false (.assign (.tmp 22))]
abbrev p_chacha_Rounds_10 : List Nat := [0, 1]
def s_chacha_Rounds_11 : List AStep := [.read (some 23) false (.load 128 (.tmp 1)), .pure (some 24) false (.move (.tmp 4)), .pure (some 25) false (.move (.tmp 4)), .pure (some 26) false (.binOp .add 3 (.tmp 25) (.const (.int .i64 1)) 3), .pure (some 27) false (.binOp .rem 3 (.tmp 26) (.const (.int .i64 4)) 3), .pure (some 28) false (.binOp .add 3 (.const (.int .i64 4)) (.tmp 27) 3), .pure (some 29) false (.move (.tmp 4)), .pure (some 30) false (.binOp .add 3 (.tmp 29) (.const (.int .i64 2)) 3), .pure (some 31) false (.binOp .rem 3 (.tmp 30) (.const (.int .i64 4)) 3), .pure (some 32) false (.binOp .add 3 (.const (.int .i64 8)) (.tmp 31) 3), .pure (some 33) false (.move (.tmp 4)), .pure (some 34) false (.binOp .add 3 (.tmp 33) (.const (.int .i64 3)) 3), .pure (some 35) false (.binOp .rem 3 (.tmp 34) (.const (.int .i64 4)) 3), .pure (some 36) false (.binOp .add 3 (.const (.int .i64 12)) (.tmp 35) 3), .call (some 37) false ⟨.value (.func 68), #[.tmp 23, .tmp 24, .tmp 28, .tmp 32, .tmp 36], #[128, 3, 3, 3, 3]⟩, .eff none (.store 128 (.tmp 1) (.tmp 37))]
abbrev p_chacha_Rounds_11 : List Nat := [0, 1, 2, 3, 4, 5, 6, 7, 8, 9, 10, 11, 12, 13, 14, 15]
def s_chacha_Rounds_12 : List AStep := [.pure (some 38) false (.binOp .add 3 (.tmp 20) (.const (.int .i64 1)) 3), .pure (some 20) false (.move (.tmp 38))]
abbrev p_chacha_Rounds_12 : List Nat := [0, 1]
def s_chacha_Rounds_13 : List AStep := [.pure (some 39) false (.binOp .add 3 (.tmp 5) (.const (.int .i64 1)) 3), .pure (some 5) false (.move (.tmp 39))]
abbrev p_chacha_Rounds_13 : List Nat := [0, 1]
def s_chacha_Rounds_14 : List AStep := [.read (some 40) false (.load 128 (.tmp 1)), .eff none (.store 128 (.tmp 2) (.tmp 40))]
abbrev p_chacha_Rounds_14 : List Nat := [0, 1]

/-! erewhile/keytree.many -/
abbrev n_keytree_many : Nat := 49
theorem func_keytree_many : Try.prog.funcs[n_keytree_many]? = some Try.f49 := Try.func49
theorem call_keytree_many : ∀ args w, (callFunc n_keytree_many args).run Try.prog w = .ok (.enter n_keytree_many args) w := Try.call49
theorem nt_keytree_many : Try.f49.ntmps = 7 := Try.ntmps49
theorem rs_keytree_many : Try.f49.results.toList = [.tmp 2] := by rw [Try.results49]
def s_keytree_many_0 : List AStep := [.pure (some 2) false (.assign (.const (.int .u64 0)))]
abbrev p_keytree_many_0 : List Nat := [0]
def s_keytree_many_1 : List AStep := [.pure (some 3) false (.move (.tmp 0)), .pure (some 4) false (.binOp .sub 3 (.const (.int .i64 17)) (.tmp 3) 3), .pure (some 5) false (.convert 3 138 (.tmp 4)), .pure (some 6) false (.binOp .shl 29 (.const (.int .u64 1)) (.tmp 5) 138), .pure (some 2) false (.assign (.tmp 6))]
abbrev p_keytree_many_1 : List Nat := [0, 1, 2, 3, 4]

/-! slices.BinarySearchFunc[[]erewhile/keytree.Held,erewhile/keytree.Held,uint64] -/
abbrev n_slices_BinarySearchFunc_keytree_Held_keytree_Held_uint64 : Nat := 50
theorem func_slices_BinarySearchFunc_keytree_Held_keytree_Held_uint64 : Try.prog.funcs[n_slices_BinarySearchFunc_keytree_Held_keytree_Held_uint64]? = some Try.f50 := Try.func50
theorem call_slices_BinarySearchFunc_keytree_Held_keytree_Held_uint64 : ∀ args w, (callFunc n_slices_BinarySearchFunc_keytree_Held_keytree_Held_uint64 args).run Try.prog w = .ok (.enter n_slices_BinarySearchFunc_keytree_Held_keytree_Held_uint64 args) w := Try.call50
theorem nt_slices_BinarySearchFunc_keytree_Held_keytree_Held_uint64 : Try.f50.ntmps = 49 := Try.ntmps50
theorem rs_slices_BinarySearchFunc_keytree_Held_keytree_Held_uint64 : Try.f50.results.toList = [.tmp 6, .tmp 7] := by rw [Try.results50]
def s_slices_BinarySearchFunc_keytree_Held_keytree_Held_uint64_0 : List AStep := [.pure (some 6) false (.assign (.const (.int .i64 0))), .pure (some 7) false (.assign (.const (.bool false)))]
abbrev p_slices_BinarySearchFunc_keytree_Held_keytree_Held_uint64_0 : List Nat := [0, 1]
def s_slices_BinarySearchFunc_keytree_Held_keytree_Held_uint64_1 : List AStep := [.pure (some 12) false (.move (.tmp 0)), .pure (some 13) false (.call (.mk (.builtin .len) #[.tmp 12] #[90])), .pure (some 8) false (.assign (.tmp 13))]
abbrev p_slices_BinarySearchFunc_keytree_Held_keytree_Held_uint64_1 : List Nat := [0, 1, 2]
def s_slices_BinarySearchFunc_keytree_Held_keytree_Held_uint64_2 : List AStep := [.pure (some 14) false (.move (.tmp 8)), .pure (some 9) false (.assign (.const (.int .i64 0))), .pure (some 10) false (.assign (.tmp 14))]
abbrev p_slices_BinarySearchFunc_keytree_Held_keytree_Held_uint64_2 : List Nat := [0, 1, 2]
def s_slices_BinarySearchFunc_keytree_Held_keytree_Held_uint64_3 : List AStep := [.pure (some 15) false (.move (.tmp 9)), .pure (some 16) false (.move (.tmp 10)), .pure (some 17) false (.binOp .lss 3 (.tmp 15) (.tmp 16) 3)]
abbrev p_slices_BinarySearchFunc_keytree_Held_keytree_Held_uint64_3 : List Nat := [0, 1, 2]
def s_slices_BinarySearchFunc_keytree_Held_keytree_Held_uint64_4 : List AStep := [.pure (some 18) false (.move (.tmp 9)), .pure (some 19) false (.move (.tmp 10)), .pure (some 20) false (.binOp .add 3 (.tmp 18) (.tmp 19) 3), .pure (some 21) false (.convert 3 138 (.tmp 20)), .pure (some 22) false (.binOp .shr 138 (.tmp 21) (.const (.int .u64 1)) 138), .pure (some 23) false (.convert 138 3 (.tmp 22)), .pure (some 11) false (.assign (.tmp 23))]
abbrev p_slices_BinarySearchFunc_keytree_Held_keytree_Held_uint64_4 : List Nat := [0, 1, 2, 3, 4, 5, 6]
def s_slices_BinarySearchFunc_keytree_Held_keytree_Held_uint64_5 : List AStep := [.pure (some 24) false (.move (.tmp 2)), .pure (some 25) false (.move (.tmp 0)), .pure (some 26) false (.move (.tmp 11)), .pure (some 27) false (.indexAddr 90 (.tmp 25) (.tmp 26)), .read (some 28) false (.load 89 (.tmp 27)), .pure (some 29) false (.move (.tmp 1)), .call (some 30) false ⟨.value (.tmp 24), #[.tmp 28, .tmp 29], #[89, 29]⟩, .pure (some 31) false (.binOp .lss 3 (.tmp 30) (.const (.int .i64 0)) 3)]
abbrev p_slices_BinarySearchFunc_keytree_Held_keytree_Held_uint64_5 : List Nat := [0, 1, 2, 3, 4, 5, 6, 7]
def s_slices_BinarySearchFunc_keytree_Held_keytree_Held_uint64_6 : List AStep := [.pure (some 32) false (.move (.tmp 11)), .pure (some 33) false (.binOp .add 3 (.tmp 32) (.const (.int .i64 1)) 3), .pure (some 9) false (.assign (.tmp 33))]
abbrev p_slices_BinarySearchFunc_keytree_Held_keytree_Held_uint64_6 : List Nat := [0, 1, 2]
def s_slices_BinarySearchFunc_keytree_Held_keytree_Held_uint64_7 : List AStep := [.pure (some 34) false (.move (.tmp 11)), .pure (some 10) false (.assign (.tmp 34))]
abbrev p_slices_BinarySearchFunc_keytree_Held_keytree_Held_uint64_7 : List Nat := [0, 1]
def s_slices_BinarySearchFunc_keytree_Held_keytree_Held_uint64_8 : List AStep := [.pure (some 35) false (.move (.tmp 9)), .pure (some 36) false (.move (.tmp 9)), .pure (some 37) false (.move (.tmp 8)), .pure (some 38) false (.binOp .lss 3 (.tmp 36) (.tmp 37) 3), .pure (some 39) true (.move (.tmp 38)), .guard 39 true (.pure (some 40) false (.move (.tmp 2))), .guard 39 true (.pure (some 41) false (.move (.tmp 0))), .guard 39 true (.pure (some 42) false (.move (.tmp 9))), .guard 39 true (.pure (some 43) false (.indexAddr 90 (.tmp 41) (.tmp 42))), .guard 39 true (.read (some 44) false (.load 89 (.tmp 43))), .guard 39 true (.pure (some 45) false (.move (.tmp 1))), .guard 39 true (.call (some 46) false ⟨.value (.tmp 40), #[.tmp 44, .tmp 45], #[89, 29]⟩), .guard 39 true (.pure (some 47) false (.binOp .eql 3 (.tmp 46) (.const (.int .i64 0)) 3)), .pure (some 48) false (.pick (.tmp 39) (.tmp 47) (.const (.bool false))), .pure (some 6) false (.assign (.tmp 35)), .pure (some 7) false (.assign (.tmp 48))]
abbrev p_slices_BinarySearchFunc_keytree_Held_keytree_Held_uint64_8 : List Nat := [0, 1, 2, 3, 4, 5, 6, 7, 8, 9, 10, 11, 12, 13, 14, 15]

/-! (*erewhile/keytree.Tree).find$1 -/
abbrev n_keytree_Tree_find_1 : Nat := 51
theorem func_keytree_Tree_find_1 : Try.prog.funcs[n_keytree_Tree_find_1]? = some Try.f51 := Try.func51
theorem call_keytree_Tree_find_1 : ∀ args w, (callFunc n_keytree_Tree_find_1 args).run Try.prog w = .ok (.enter n_keytree_Tree_find_1 args) w := Try.call51
theorem nt_keytree_Tree_find_1 : Try.f51.ntmps = 9 := Try.ntmps51
theorem rs_keytree_Tree_find_1 : Try.f51.results.toList = [.tmp 4] := by rw [Try.results51]
def s_keytree_Tree_find_1_0 : List AStep := [.eff (some 2) (.box 89 (.tmp 0)), .pure (some 4) false (.assign (.const (.int .i64 0)))]
abbrev p_keytree_Tree_find_1_0 : List Nat := [0, 1]
def s_keytree_Tree_find_1_1 : List AStep := [.pure (some 5) false (.fieldAddr 89 (.tmp 2) 1), .read (some 6) false (.load 29 (.tmp 5)), .pure (some 7) false (.move (.tmp 1)), .call (some 8) false ⟨.value (.func 33), #[.tmp 6, .tmp 7], #[29, 29]⟩, .pure (some 4) false (.assign (.tmp 8))]
abbrev p_keytree_Tree_find_1_1 : List Nat := [0, 1, 2, 3, 4]

/-! (*erewhile/keytree.Tree).down$1 -/
abbrev n_keytree_Tree_down_1 : Nat := 52
theorem func_keytree_Tree_down_1 : Try.prog.funcs[n_keytree_Tree_down_1]? = some Try.f52 := Try.func52
theorem call_keytree_Tree_down_1 : ∀ args w, (callFunc n_keytree_Tree_down_1 args).run Try.prog w = .ok (.enter n_keytree_Tree_down_1 args) w := Try.call52
theorem nt_keytree_Tree_down_1 : Try.f52.ntmps = 36 := Try.ntmps52
theorem rs_keytree_Tree_down_1 : Try.f52.results.toList = [.cell 3 89, .cell 4 89] := by rw [Try.results52]
def s_keytree_Tree_down_1_0 : List AStep := [.eff (some 2) (.box 89 (.tmp 0)), .eff (some 3) (.alloc 89), .eff (some 4) (.alloc 89)]
abbrev p_keytree_Tree_down_1_0 : List Nat := [0, 1, 2]
def s_keytree_Tree_down_1_1 : SP := (.one (.pure (some 12) false (.fieldAddr 89 (.tmp 2) 2)) (.one (.read (some 8) false (.load 53 (.tmp 1))) (.one (.pure (some 9) false (.nilCheck (.tmp 8))) (.one (.pure (some 10) false (.fieldAddr 92 (.tmp 9) 0)) (.one (.read (some 11) false (.load 87 (.tmp 10))) (.one (.read (some 13) false (.load 52 (.tmp 12))) (.three (.call (some 14) false ⟨.invoke (.tmp 11) "Split", #[.tmp 13], #[52]⟩) (.one (.pure (some 7) false (.move (.tmp 14))) (.one (.pure (some 15) false (.extract (.tmp 7) 0)) (.one (.pure (some 16) false (.extract (.tmp 7) 1)) (.two (.eff (some 5) (.alloc 52)) (.one (.eff (some 6) (.alloc 52)) (.one (.eff none (.store 52 (.tmp 5) (.tmp 15))) (.one (.eff none (.store 52 (.tmp 6) (.tmp 16))) .done))) (.eff (some 6) (.alloc 52)) (.one (.eff (some 5) (.alloc 52)) (.one (.eff none (.store 52 (.tmp 5) (.tmp 15))) (.one (.eff none (.store 52 (.tmp 6) (.tmp 16))) .done))))))) (.eff (some 5) (.alloc 52)) (.two (.call (some 14) false ⟨.invoke (.tmp 11) "Split", #[.tmp 13], #[52]⟩) (.one (.pure (some 7) false (.move (.tmp 14))) (.one (.pure (some 15) false (.extract (.tmp 7) 0)) (.one (.pure (some 16) false (.extract (.tmp 7) 1)) (.one (.eff (some 6) (.alloc 52)) (.one (.eff none (.store 52 (.tmp 5) (.tmp 15))) (.one (.eff none (.store 52 (.tmp 6) (.tmp 16))) .done)))))) (.eff (some 6) (.alloc 52)) (.one (.call (some 14) false ⟨.invoke (.tmp 11) "Split", #[.tmp 13], #[52]⟩) (.one (.pure (some 7) false (.move (.tmp 14))) (.one (.pure (some 15) false (.extract (.tmp 7) 0)) (.one (.pure (some 16) false (.extract (.tmp 7) 1)) (.one (.eff none (.store 52 (.tmp 5) (.tmp 15))) (.one (.eff none (.store 52 (.tmp 6) (.tmp 16))) .done))))))) (.eff (some 6) (.alloc 52)) (.two (.call (some 14) false ⟨.invoke (.tmp 11) "Split", #[.tmp 13], #[52]⟩) (.one (.pure (some 7) false (.move (.tmp 14))) (.one (.pure (some 15) false (.extract (.tmp 7) 0)) (.one (.pure (some 16) false (.extract (.tmp 7) 1)) (.one (.eff (some 5) (.alloc 52)) (.one (.eff none (.store 52 (.tmp 5) (.tmp 15))) (.one (.eff none (.store 52 (.tmp 6) (.tmp 16))) .done)))))) (.eff (some 5) (.alloc 52)) (.one (.call (some 14) false ⟨.invoke (.tmp 11) "Split", #[.tmp 13], #[52]⟩) (.one (.pure (some 7) false (.move (.tmp 14))) (.one (.pure (some 15) false (.extract (.tmp 7) 0)) (.one (.pure (some 16) false (.extract (.tmp 7) 1)) (.one (.eff none (.store 52 (.tmp 5) (.tmp 15))) (.one (.eff none (.store 52 (.tmp 6) (.tmp 16))) .done))))))))))))))
abbrev p_keytree_Tree_down_1_1 : PC := (.calm 4 13280 (.calm 0 13262 (.calm 1 13260 (.calm 2 13256 (.calm 3 13248 (.calm 5 13248 (.tri 6 (.calm 7 13056 (.calm 8 12288 (.calm 9 8192 (.fork 10 (.act 11 (.act 12 (.act 13 .done))) 11 (.act 10 (.act 12 (.act 13 .done))))))) 10 (.fork 6 (.calm 7 13056 (.calm 8 12288 (.calm 9 8192 (.act 11 (.act 12 (.act 13 .done)))))) 11 (.act 6 (.calm 7 13056 (.calm 8 12288 (.calm 9 8192 (.act 12 (.act 13 .done))))))) 11 (.fork 6 (.calm 7 13056 (.calm 8 12288 (.calm 9 8192 (.act 10 (.act 12 (.act 13 .done)))))) 10 (.act 6 (.calm 7 13056 (.calm 8 12288 (.calm 9 8192 (.act 12 (.act 13 .done))))))))))))))
abbrev g_keytree_Tree_down_1_1 : List Dg := [⟨0, 2, 256, .read, true⟩, ⟨1, 256, 512, .pure, true⟩, ⟨2, 512, 1024, .pure, true⟩, ⟨4, 1024, 2048, .read, true⟩, ⟨0, 4, 4096, .pure, true⟩, ⟨16, 4096, 8192, .read, true⟩, ⟨40, 10240, 16384, .call, true⟩, ⟨64, 16384, 128, .pure, true⟩, ⟨128, 128, 32768, .pure, true⟩, ⟨128, 128, 65536, .pure, true⟩, ⟨0, 0, 32, .eff, true⟩, ⟨0, 0, 64, .eff, true⟩, ⟨3583, 32800, 0, .eff, false⟩, ⟨8191, 65600, 0, .eff, false⟩]
abbrev q_keytree_Tree_down_1_1 : List Nat := []
def s_keytree_Tree_down_1_2 : SP := (.one (.pure (some 17) false (.fieldAddr 89 (.tmp 2) 0)) (.one (.pure (some 20) false (.fieldAddr 89 (.tmp 2) 1)) (.one (.pure (some 24) false (.fieldAddr 89 (.tmp 2) 0)) (.one (.pure (some 27) false (.fieldAddr 89 (.tmp 2) 1)) (.one (.pure (some 29) false (.fieldAddr 89 (.tmp 2) 0)) (.one (.read (some 18) false (.load 3 (.tmp 17))) (.one (.pure (some 19) false (.binOp .add 3 (.tmp 18) (.const (.int .i64 1)) 3)) (.one (.read (some 21) false (.load 29 (.tmp 20))) (.one (.read (some 22) false (.load 52 (.tmp 5))) (.one (.pure (some 23) false (.build 89 #[(0, .tmp 19), (1, .tmp 21), (2, .tmp 22)])) (.one (.read (some 30) false (.load 3 (.tmp 29))) (.one (.pure (some 31) false (.binOp .add 3 (.tmp 30) (.const (.int .i64 1)) 3)) (.one (.quiet (some 32) false ⟨.value (.func 49), #[.tmp 31], #[3]⟩) (.four (.read (some 25) false (.load 3 (.tmp 24))) (.one (.pure (some 26) false (.binOp .add 3 (.tmp 25) (.const (.int .i64 1)) 3)) (.three (.read (some 28) false (.load 29 (.tmp 27))) (.one (.pure (some 33) false (.binOp .add 29 (.tmp 28) (.tmp 32) 29)) (.two (.read (some 34) false (.load 52 (.tmp 6))) (.one (.pure (some 35) false (.build 89 #[(0, .tmp 26), (1, .tmp 33), (2, .tmp 34)])) (.one (.eff none (.store 89 (.tmp 3) (.tmp 23))) (.one (.eff none (.store 89 (.tmp 4) (.tmp 35))) .done))) (.eff none (.store 89 (.tmp 3) (.tmp 23))) (.one (.read (some 34) false (.load 52 (.tmp 6))) (.one (.pure (some 35) false (.build 89 #[(0, .tmp 26), (1, .tmp 33), (2, .tmp 34)])) (.one (.eff none (.store 89 (.tmp 4) (.tmp 35))) .done))))) (.read (some 34) false (.load 52 (.tmp 6))) (.two (.read (some 28) false (.load 29 (.tmp 27))) (.one (.pure (some 33) false (.binOp .add 29 (.tmp 28) (.tmp 32) 29)) (.one (.pure (some 35) false (.build 89 #[(0, .tmp 26), (1, .tmp 33), (2, .tmp 34)])) (.one (.eff none (.store 89 (.tmp 3) (.tmp 23))) (.one (.eff none (.store 89 (.tmp 4) (.tmp 35))) .done)))) (.eff none (.store 89 (.tmp 3) (.tmp 23))) (.one (.read (some 28) false (.load 29 (.tmp 27))) (.one (.pure (some 33) false (.binOp .add 29 (.tmp 28) (.tmp 32) 29)) (.one (.pure (some 35) false (.build 89 #[(0, .tmp 26), (1, .tmp 33), (2, .tmp 34)])) (.one (.eff none (.store 89 (.tmp 4) (.tmp 35))) .done))))) (.eff none (.store 89 (.tmp 3) (.tmp 23))) (.one (.read (some 28) false (.load 29 (.tmp 27))) (.one (.pure (some 33) false (.binOp .add 29 (.tmp 28) (.tmp 32) 29)) (.one (.read (some 34) false (.load 52 (.tmp 6))) (.one (.pure (some 35) false (.build 89 #[(0, .tmp 26), (1, .tmp 33), (2, .tmp 34)])) (.one (.eff none (.store 89 (.tmp 4) (.tmp 35))) .done))))))) (.read (some 28) false (.load 29 (.tmp 27))) (.one (.pure (some 33) false (.binOp .add 29 (.tmp 28) (.tmp 32) 29)) (.three (.read (some 25) false (.load 3 (.tmp 24))) (.one (.pure (some 26) false (.binOp .add 3 (.tmp 25) (.const (.int .i64 1)) 3)) (.two (.read (some 34) false (.load 52 (.tmp 6))) (.one (.pure (some 35) false (.build 89 #[(0, .tmp 26), (1, .tmp 33), (2, .tmp 34)])) (.one (.eff none (.store 89 (.tmp 3) (.tmp 23))) (.one (.eff none (.store 89 (.tmp 4) (.tmp 35))) .done))) (.eff none (.store 89 (.tmp 3) (.tmp 23))) (.one (.read (some 34) false (.load 52 (.tmp 6))) (.one (.pure (some 35) false (.build 89 #[(0, .tmp 26), (1, .tmp 33), (2, .tmp 34)])) (.one (.eff none (.store 89 (.tmp 4) (.tmp 35))) .done))))) (.read (some 34) false (.load 52 (.tmp 6))) (.two (.read (some 25) false (.load 3 (.tmp 24))) (.one (.pure (some 26) false (.binOp .add 3 (.tmp 25) (.const (.int .i64 1)) 3)) (.one (.pure (some 35) false (.build 89 #[(0, .tmp 26), (1, .tmp 33), (2, .tmp 34)])) (.one (.eff none (.store 89 (.tmp 3) (.tmp 23))) (.one (.eff none (.store 89 (.tmp 4) (.tmp 35))) .done)))) (.eff none (.store 89 (.tmp 3) (.tmp 23))) (.one (.read (some 25) false (.load 3 (.tmp 24))) (.one (.pure (some 26) false (.binOp .add 3 (.tmp 25) (.const (.int .i64 1)) 3)) (.one (.pure (some 35) false (.build 89 #[(0, .tmp 26), (1, .tmp 33), (2, .tmp 34)])) (.one (.eff none (.store 89 (.tmp 4) (.tmp 35))) .done))))) (.eff none (.store 89 (.tmp 3) (.tmp 23))) (.one (.read (some 25) false (.load 3 (.tmp 24))) (.one (.pure (some 26) false (.binOp .add 3 (.tmp 25) (.const (.int .i64 1)) 3)) (.one (.read (some 34) false (.load 52 (.tmp 6))) (.one (.pure (some 35) false (.build 89 #[(0, .tmp 26), (1, .tmp 33), (2, .tmp 34)])) (.one (.eff none (.store 89 (.tmp 4) (.tmp 35))) .done))))))) (.read (some 34) false (.load 52 (.tmp 6))) (.three (.read (some 25) false (.load 3 (.tmp 24))) (.one (.pure (some 26) false (.binOp .add 3 (.tmp 25) (.const (.int .i64 1)) 3)) (.two (.read (some 28) false (.load 29 (.tmp 27))) (.one (.pure (some 33) false (.binOp .add 29 (.tmp 28) (.tmp 32) 29)) (.one (.pure (some 35) false (.build 89 #[(0, .tmp 26), (1, .tmp 33), (2, .tmp 34)])) (.one (.eff none (.store 89 (.tmp 3) (.tmp 23))) (.one (.eff none (.store 89 (.tmp 4) (.tmp 35))) .done)))) (.eff none (.store 89 (.tmp 3) (.tmp 23))) (.one (.read (some 28) false (.load 29 (.tmp 27))) (.one (.pure (some 33) false (.binOp .add 29 (.tmp 28) (.tmp 32) 29)) (.one (.pure (some 35) false (.build 89 #[(0, .tmp 26), (1, .tmp 33), (2, .tmp 34)])) (.one (.eff none (.store 89 (.tmp 4) (.tmp 35))) .done)))))) (.read (some 28) false (.load 29 (.tmp 27))) (.one (.pure (some 33) false (.binOp .add 29 (.tmp 28) (.tmp 32) 29)) (.two (.read (some 25) false (.load 3 (.tmp 24))) (.one (.pure (some 26) false (.binOp .add 3 (.tmp 25) (.const (.int .i64 1)) 3)) (.one (.pure (some 35) false (.build 89 #[(0, .tmp 26), (1, .tmp 33), (2, .tmp 34)])) (.one (.eff none (.store 89 (.tmp 3) (.tmp 23))) (.one (.eff none (.store 89 (.tmp 4) (.tmp 35))) .done)))) (.eff none (.store 89 (.tmp 3) (.tmp 23))) (.one (.read (some 25) false (.load 3 (.tmp 24))) (.one (.pure (some 26) false (.binOp .add 3 (.tmp 25) (.const (.int .i64 1)) 3)) (.one (.pure (some 35) false (.build 89 #[(0, .tmp 26), (1, .tmp 33), (2, .tmp 34)])) (.one (.eff none (.store 89 (.tmp 4) (.tmp 35))) .done)))))) (.eff none (.store 89 (.tmp 3) (.tmp 23))) (.one (.read (some 25) false (.load 3 (.tmp 24))) (.one (.pure (some 26) false (.binOp .add 3 (.tmp 25) (.const (.int .i64 1)) 3)) (.one (.read (some 28) false (.load 29 (.tmp 27))) (.one (.pure (some 33) false (.binOp .add 29 (.tmp 28) (.tmp 32) 29)) (.one (.pure (some 35) false (.build 89 #[(0, .tmp 26), (1, .tmp 33), (2, .tmp 34)])) (.one (.eff none (.store 89 (.tmp 4) (.tmp 35))) .done))))))) (.eff none (.store 89 (.tmp 3) (.tmp 23))) (.one (.read (some 25) false (.load 3 (.tmp 24))) (.one (.pure (some 26) false (.binOp .add 3 (.tmp 25) (.const (.int .i64 1)) 3)) (.one (.read (some 28) false (.load 29 (.tmp 27))) (.one (.pure (some 33) false (.binOp .add 29 (.tmp 28) (.tmp 32) 29)) (.one (.read (some 34) false (.load 52 (.tmp 6))) (.one (.pure (some 35) false (.build 89 #[(0, .tmp 26), (1, .tmp 33), (2, .tmp 34)])) (.one (.eff none (.store 89 (.tmp 4) (.tmp 35))) .done)))))))))))))))))))))
abbrev p_keytree_Tree_down_1_2 : PC := (.calm 0 1572934 (.calm 3 1572944 (.calm 7 1311488 (.calm 10 1378304 (.calm 12 1957888 (.calm 1 1572932 (.calm 2 1572928 (.calm 4 1572928 (.calm 5 1572928 (.calm 6 1572864 (.calm 13 1949696 (.calm 14 1933312 (.calm 15 1900544 (.quad 8 (.calm 9 1310720 (.tri 11 (.calm 16 1310720 (.fork 17 (.calm 18 1048576 (.act 19 (.act 20 .done))) 19 (.calm 17 1310720 (.calm 18 1048576 (.act 20 .done))))) 17 (.fork 11 (.calm 16 1310720 (.calm 18 1048576 (.act 19 (.act 20 .done)))) 19 (.calm 11 1376256 (.calm 16 1310720 (.calm 18 1048576 (.act 20 .done))))) 19 (.calm 11 1376256 (.calm 16 1310720 (.calm 17 1310720 (.calm 18 1048576 (.act 20 .done))))))) 11 (.calm 16 1310720 (.tri 8 (.calm 9 1310720 (.fork 17 (.calm 18 1048576 (.act 19 (.act 20 .done))) 19 (.calm 17 1310720 (.calm 18 1048576 (.act 20 .done))))) 17 (.fork 8 (.calm 9 1310720 (.calm 18 1048576 (.act 19 (.act 20 .done)))) 19 (.calm 8 1311232 (.calm 9 1310720 (.calm 18 1048576 (.act 20 .done))))) 19 (.calm 8 1311232 (.calm 9 1310720 (.calm 17 1310720 (.calm 18 1048576 (.act 20 .done))))))) 17 (.tri 8 (.calm 9 1310720 (.fork 11 (.calm 16 1310720 (.calm 18 1048576 (.act 19 (.act 20 .done)))) 19 (.calm 11 1376256 (.calm 16 1310720 (.calm 18 1048576 (.act 20 .done)))))) 11 (.calm 16 1310720 (.fork 8 (.calm 9 1310720 (.calm 18 1048576 (.act 19 (.act 20 .done)))) 19 (.calm 8 1311232 (.calm 9 1310720 (.calm 18 1048576 (.act 20 .done)))))) 19 (.calm 8 1311232 (.calm 9 1310720 (.calm 11 1376256 (.calm 16 1310720 (.calm 18 1048576 (.act 20 .done))))))) 19 (.calm 8 1311232 (.calm 9 1310720 (.calm 11 1376256 (.calm 16 1310720 (.calm 17 1310720 (.calm 18 1048576 (.act 20 .done)))))))))))))))))))))
abbrev g_keytree_Tree_down_1_2 : List Dg := [⟨0, 4, 131072, .pure, true⟩, ⟨1, 131072, 262144, .read, true⟩, ⟨2, 262144, 524288, .pure, true⟩, ⟨0, 4, 1048576, .pure, true⟩, ⟨8, 1048576, 2097152, .read, true⟩, ⟨0, 32, 4194304, .read, true⟩, ⟨52, 6815744, 8388608, .pure, true⟩, ⟨0, 4, 16777216, .pure, true⟩, ⟨128, 16777216, 33554432, .read, true⟩, ⟨256, 33554432, 67108864, .pure, true⟩, ⟨0, 4, 134217728, .pure, true⟩, ⟨1024, 134217728, 268435456, .read, true⟩, ⟨0, 4, 536870912, .pure, true⟩, ⟨4096, 536870912, 1073741824, .read, true⟩, ⟨8192, 1073741824, 2147483648, .pure, true⟩, ⟨16384, 2147483648, 4294967296, .quiet, true⟩, ⟨34816, 4563402752, 8589934592, .pure, true⟩, ⟨0, 64, 17179869184, .read, true⟩, ⟨197120, 25836912640, 34359738368, .pure, true⟩, ⟨32895, 8388616, 0, .eff, false⟩, ⟨1048575, 34359738384, 0, .eff, false⟩]
abbrev q_keytree_Tree_down_1_2 : List Nat := [15]

/-! cmp.isNaN[uint64] -/
abbrev n_cmp_isNaN_uint64 : Nat := 55
theorem func_cmp_isNaN_uint64 : Try.prog.funcs[n_cmp_isNaN_uint64]? = some Try.f55 := Try.func55
theorem call_cmp_isNaN_uint64 : ∀ args w, (callFunc n_cmp_isNaN_uint64 args).run Try.prog w = .ok (.enter n_cmp_isNaN_uint64 args) w := Try.call55
theorem nt_cmp_isNaN_uint64 : Try.f55.ntmps = 6 := Try.ntmps55
theorem rs_cmp_isNaN_uint64 : Try.f55.results.toList = [.tmp 2] := by rw [Try.results55]
def s_cmp_isNaN_uint64_0 : List AStep := [.pure (some 2) false (.assign (.const (.bool false)))]
abbrev p_cmp_isNaN_uint64_0 : List Nat := [0]
def s_cmp_isNaN_uint64_1 : List AStep := [.pure (some 3) false (.move (.tmp 0)), .pure (some 4) false (.move (.tmp 0)), .pure (some 5) false (.binOp .neq 29 (.tmp 3) (.tmp 4) 29), .pure (some 2) false (.assign (.tmp 5))]
abbrev p_cmp_isNaN_uint64_1 : List Nat := [0, 1, 2, 3]

/-! erewhile/chacha.quarter -/
abbrev n_chacha_quarter : Nat := 68
theorem func_chacha_quarter : Try.prog.funcs[n_chacha_quarter]? = some Try.f68 := Try.func68
theorem call_chacha_quarter : ∀ args w, (callFunc n_chacha_quarter args).run Try.prog w = .ok (.enter n_chacha_quarter args) w := Try.call68
theorem nt_chacha_quarter : Try.f68.ntmps = 38 := Try.ntmps68
theorem rs_chacha_quarter : Try.f68.results.toList = [.cell 10 128] := by rw [Try.results68]
def s_chacha_quarter_0 : List AStep := [.eff (some 5) (.box 128 (.tmp 0)), .eff (some 10) (.alloc 128)]
abbrev p_chacha_quarter_0 : List Nat := [0, 1]
def s_chacha_quarter_1 : SP := (.one (.pure (some 12) false (.move (.tmp 1))) (.one (.pure (some 13) false (.move (.tmp 2))) (.one (.pure (some 14) false (.move (.tmp 3))) (.one (.pure (some 15) false (.move (.tmp 4))) (.one (.pure (some 16) false (.move (.tmp 1))) (.one (.pure (some 17) false (.indexAddr 128 (.tmp 5) (.tmp 16))) (.one (.pure (some 19) false (.move (.tmp 2))) (.one (.pure (some 20) false (.indexAddr 128 (.tmp 5) (.tmp 19))) (.one (.pure (some 22) false (.move (.tmp 3))) (.one (.pure (some 23) false (.indexAddr 128 (.tmp 5) (.tmp 22))) (.one (.pure (some 25) false (.move (.tmp 4))) (.one (.pure (some 26) false (.indexAddr 128 (.tmp 5) (.tmp 25))) (.one (.read (some 18) false (.load 95 (.tmp 17))) (.one (.read (some 21) false (.load 95 (.tmp 20))) (.one (.read (some 24) false (.load 95 (.tmp 23))) (.one (.read (some 27) false (.load 95 (.tmp 26))) (.one (.call (some 28) false ⟨.value (.func 89), #[.tmp 18, .tmp 21, .tmp 24, .tmp 27], #[95, 95, 95, 95]⟩) (.one (.pure (some 11) false (.move (.tmp 28))) (.one (.pure (some 29) false (.extract (.tmp 11) 0)) (.one (.pure (some 30) false (.extract (.tmp 11) 1)) (.one (.pure (some 31) false (.extract (.tmp 11) 2)) (.one (.pure (some 32) false (.extract (.tmp 11) 3)) (.one (.pure (some 33) false (.indexAddr 128 (.tmp 5) (.tmp 12))) (.one (.eff none (.store 95 (.tmp 33) (.tmp 29))) (.one (.pure (some 34) false (.indexAddr 128 (.tmp 5) (.tmp 13))) (.one (.eff none (.store 95 (.tmp 34) (.tmp 30))) (.one (.pure (some 35) false (.indexAddr 128 (.tmp 5) (.tmp 14))) (.one (.eff none (.store 95 (.tmp 35) (.tmp 31))) (.one (.pure (some 36) false (.indexAddr 128 (.tmp 5) (.tmp 15))) (.one (.eff none (.store 95 (.tmp 36) (.tmp 32))) .done))))))))))))))))))))))))))))))
abbrev p_chacha_quarter_1 : PC := (.calm 0 1069547520 (.calm 1 1056964608 (.calm 2 1006632960 (.calm 3 805306368 (.calm 4 1073676384 (.calm 5 1073676352 (.calm 7 1073677056 (.calm 8 1073676800 (.calm 10 1073682432 (.calm 11 1073680384 (.calm 13 1073725440 (.calm 14 1073709056 (.calm 6 1073676288 (.calm 9 1073676288 (.calm 12 1073676288 (.calm 15 1073676288 (.act 16 (.calm 17 1073479680 (.calm 18 1069547520 (.calm 19 1056964608 (.calm 20 1006632960 (.calm 21 805306368 (.calm 22 1065353216 (.act 23 (.calm 24 1040187392 (.act 25 (.calm 26 939524096 (.act 27 (.calm 28 536870912 (.act 29 .done))))))))))))))))))))))))))))))
abbrev g_chacha_quarter_1 : List Dg := [⟨0, 2, 4096, .pure, true⟩, ⟨0, 4, 8192, .pure, true⟩, ⟨0, 8, 16384, .pure, true⟩, ⟨0, 16, 32768, .pure, true⟩, ⟨0, 2, 65536, .pure, true⟩, ⟨16, 65568, 131072, .pure, true⟩, ⟨32, 131072, 262144, .read, true⟩, ⟨0, 4, 524288, .pure, true⟩, ⟨128, 524320, 1048576, .pure, true⟩, ⟨256, 1048576, 2097152, .read, true⟩, ⟨0, 8, 4194304, .pure, true⟩, ⟨1024, 4194336, 8388608, .pure, true⟩, ⟨2048, 8388608, 16777216, .read, true⟩, ⟨0, 16, 33554432, .pure, true⟩, ⟨8192, 33554464, 67108864, .pure, true⟩, ⟨16384, 67108864, 134217728, .read, true⟩, ⟨37440, 153354240, 268435456, .call, true⟩, ⟨65536, 268435456, 2048, .pure, true⟩, ⟨131072, 2048, 536870912, .pure, true⟩, ⟨131072, 2048, 1073741824, .pure, true⟩, ⟨131072, 2048, 2147483648, .pure, true⟩, ⟨131072, 2048, 4294967296, .pure, true⟩, ⟨524273, 4128, 8589934592, .pure, true⟩, ⟨4718577, 9126805504, 0, .eff, false⟩, ⟨13631475, 8224, 17179869184, .pure, true⟩, ⟨30408691, 18253611008, 0, .eff, false⟩, ⟨65011703, 16416, 34359738368, .pure, true⟩, ⟨132120567, 36507222016, 0, .eff, false⟩, ⟨268435455, 32800, 68719476736, .pure, true⟩, ⟨536870911, 73014444032, 0, .eff, false⟩]
abbrev q_chacha_quarter_1 : List Nat := []
def s_chacha_quarter_2 : List AStep := [.read (some 37) false (.load 128 (.tmp 5)), .eff none (.store 128 (.tmp 10) (.tmp 37))]
abbrev p_chacha_quarter_2 : List Nat := [0, 1]

/-! erewhile/chacha.Quarter -/
abbrev n_chacha_Quarter : Nat := 89
theorem func_chacha_Quarter : Try.prog.funcs[n_chacha_Quarter]? = some Try.f89 := Try.func89
theorem call_chacha_Quarter : ∀ args w, (callFunc n_chacha_Quarter args).run Try.prog w = .ok (.enter n_chacha_Quarter args) w := Try.call89
theorem nt_chacha_Quarter : Try.f89.ntmps = 44 := Try.ntmps89
theorem rs_chacha_Quarter : Try.f89.results.toList = [.tmp 8, .tmp 9, .tmp 10, .tmp 11] := by rw [Try.results89]
def s_chacha_Quarter_0 : List AStep := [.pure (some 8) false (.assign (.const (.int .u32 0))), .pure (some 9) false (.assign (.const (.int .u32 0))), .pure (some 10) false (.assign (.const (.int .u32 0))), .pure (some 11) false (.assign (.const (.int .u32 0)))]
abbrev p_chacha_Quarter_0 : List Nat := [0, 1, 2, 3]
def s_chacha_Quarter_1 : List AStep := [.pure (some 12) false (.move (.tmp 0)), .pure (some 13) false (.move (.tmp 1)), .pure (some 14) false (.binOp .add 95 (.tmp 12) (.tmp 13) 95), .pure (some 0) false (.assign (.tmp 14))]
abbrev p_chacha_Quarter_1 : List Nat := [0, 1, 2, 3]
def s_chacha_Quarter_2 : List AStep := [.pure (some 15) false (.move (.tmp 3)), .pure (some 16) false (.move (.tmp 0)), .pure (some 17) false (.binOp .xor 95 (.tmp 15) (.tmp 16) 95), .call (some 18) false ⟨.value (.func 101), #[.tmp 17, .const (.int .i64 16)], #[95, 3]⟩, .pure (some 3) false (.assign (.tmp 18))]
abbrev p_chacha_Quarter_2 : List Nat := [0, 1, 2, 3, 4]
def s_chacha_Quarter_3 : List AStep := [.pure (some 19) false (.move (.tmp 2)), .pure (some 20) false (.move (.tmp 3)), .pure (some 21) false (.binOp .add 95 (.tmp 19) (.tmp 20) 95), .pure (some 2) false (.assign (.tmp 21))]
abbrev p_chacha_Quarter_3 : List Nat := [0, 1, 2, 3]
def s_chacha_Quarter_4 : List AStep := [.pure (some 22) false (.move (.tmp 1)), .pure (some 23) false (.move (.tmp 2)), .pure (some 24) false (.binOp .xor 95 (.tmp 22) (.tmp 23) 95), .call (some 25) false ⟨.value (.func 101), #[.tmp 24, .const (.int .i64 12)], #[95, 3]⟩, .pure (some 1) false (.assign (.tmp 25))]
abbrev p_chacha_Quarter_4 : List Nat := [0, 1, 2, 3, 4]
def s_chacha_Quarter_5 : List AStep := [.pure (some 26) false (.move (.tmp 0)), .pure (some 27) false (.move (.tmp 1)), .pure (some 28) false (.binOp .add 95 (.tmp 26) (.tmp 27) 95), .pure (some 0) false (.assign (.tmp 28))]
abbrev p_chacha_Quarter_5 : List Nat := [0, 1, 2, 3]
def s_chacha_Quarter_6 : List AStep := [.pure (some 29) false (.move (.tmp 3)), .pure (some 30) false (.move (.tmp 0)), .pure (some 31) false (.binOp .xor 95 (.tmp 29) (.tmp 30) 95), .call (some 32) false ⟨.value (.func 101), #[.tmp 31, .const (.int .i64 8)], #[95, 3]⟩, .pure (some 3) false (.assign (.tmp 32))]
abbrev p_chacha_Quarter_6 : List Nat := [0, 1, 2, 3, 4]
def s_chacha_Quarter_7 : List AStep := [.pure (some 33) false (.move (.tmp 2)), .pure (some 34) false (.move (.tmp 3)), .pure (some 35) false (.binOp .add 95 (.tmp 33) (.tmp 34) 95), .pure (some 2) false (.assign (.tmp 35))]
abbrev p_chacha_Quarter_7 : List Nat := [0, 1, 2, 3]
def s_chacha_Quarter_8 : List AStep := [.pure (some 36) false (.move (.tmp 1)), .pure (some 37) false (.move (.tmp 2)), .pure (some 38) false (.binOp .xor 95 (.tmp 36) (.tmp 37) 95), .call (some 39) false ⟨.value (.func 101), #[.tmp 38, .const (.int .i64 7)], #[95, 3]⟩, .pure (some 1) false (.assign (.tmp 39))]
abbrev p_chacha_Quarter_8 : List Nat := [0, 1, 2, 3, 4]
def s_chacha_Quarter_9 : List AStep := [.pure (some 40) false (.move (.tmp 0)), .pure (some 41) false (.move (.tmp 1)), .pure (some 42) false (.move (.tmp 2)), .pure (some 43) false (.move (.tmp 3)), .pure (some 8) false (.assign (.tmp 40)), .pure (some 9) false (.assign (.tmp 41)), .pure (some 10) false (.assign (.tmp 42)), .pure (some 11) false (.assign (.tmp 43))]
abbrev p_chacha_Quarter_9 : List Nat := [0, 1, 2, 3, 4, 5, 6, 7]

/-! math/bits.RotateLeft32 -/
abbrev n_bits_RotateLeft32 : Nat := 101
theorem func_bits_RotateLeft32 : Try.prog.funcs[n_bits_RotateLeft32]? = some Try.f101 := Try.func101
theorem call_bits_RotateLeft32 : ∀ args w, (callFunc n_bits_RotateLeft32 args).run Try.prog w = .ok (.enter n_bits_RotateLeft32 args) w := Try.call101
theorem nt_bits_RotateLeft32 : Try.f101.ntmps = 17 := Try.ntmps101
theorem rs_bits_RotateLeft32 : Try.f101.results.toList = [.tmp 4] := by rw [Try.results101]
def s_bits_RotateLeft32_0 : List AStep := [.pure (some 4) false (.assign (.const (.int .u32 0)))]
abbrev p_bits_RotateLeft32_0 : List Nat := [0]
def s_bits_RotateLeft32_1 : List AStep := [.pure (some 6) false (.move (.tmp 1)), .pure (some 7) false (.convert 3 138 (.tmp 6)), .pure (some 8) false (.binOp .and 138 (.tmp 7) (.const (.int .u64 31)) 138), .pure (some 5) false (.assign (.tmp 8))]
abbrev p_bits_RotateLeft32_1 : List Nat := [0, 1, 2, 3]
def s_bits_RotateLeft32_2 : List AStep := [.pure (some 9) false (.move (.tmp 0)), .pure (some 10) false (.move (.tmp 5)), .pure (some 11) false (.binOp .shl 95 (.tmp 9) (.tmp 10) 138), .pure (some 12) false (.move (.tmp 0)), .pure (some 13) false (.move (.tmp 5)), .pure (some 14) false (.binOp .sub 138 (.const (.int .u64 32)) (.tmp 13) 138), .pure (some 15) false (.binOp .shr 95 (.tmp 12) (.tmp 14) 138), .pure (some 16) false (.binOp .or 95 (.tmp 11) (.tmp 15) 95), .pure (some 4) false (.assign (.tmp 16))]
abbrev p_bits_RotateLeft32_2 : List Nat := [0, 1, 2, 3, 4, 5, 6, 7, 8]

end Go.Proofs.Ytopiceaeombefaa
