/- The names of the functions, the steps of their regions, and facts on types, printed by a program out of the loaded program. -/
import Derived.Test.YtbnjeafjnglldaaSyB
import Derived.Test.YtbnjeafjnglldaaProg
import Derived.KernelRfl
namespace Go.Proofs.Ytbnjeafjnglldaa
open Go Go.Proofs.Ytbnjeafjnglldaa.Sy
set_option linter.unusedVariables false

/-- The types. -/
theorem ty0 : Try.prog.underlying 3 = some (.int .i64) := Try.underlying3
theorem ty1 : Try.prog.underlying 5 = some (.int .u8) := Try.underlying5
theorem ty2 : Try.prog.underlying 9 = some (.string) := Try.underlying9
theorem ty3 : Try.prog.underlying 22 = some (.array 32 5) := Try.underlying22
theorem ty4 : Try.prog.underlying 23 = some (.array 32 5) := Try.underlying23
theorem ty5 : Try.prog.underlying 24 = some (.int .u64) := Try.underlying24
theorem ty6 : Try.prog.underlying 25 = some (.slice 5) := Try.underlying25
theorem ty7 : Try.prog.underlying 33 = some (.array 32 5) := Try.underlying33
theorem ty8 : Try.prog.underlying 48 = some (.array 16 5) := Try.underlying48
theorem ty9 : Try.prog.underlying 54 = some (.int .u64) := Try.underlying54
theorem ty10 : Try.prog.underlying 55 = some (.array 64 5) := Try.underlying55
theorem ty11 : Try.prog.underlying 57 = some (.int .u32) := Try.underlying57
theorem ty12 : Try.prog.underlying 59 = some (.array 8 57) := Try.underlying59
theorem ty13 : Try.prog.underlying 63 = some (.array 16 57) := Try.underlying63
theorem ty14 : Try.prog.underlying 70 = some (.array 64 57) := Try.underlying70
theorem ty15 : Try.prog.underlying 77 = some (.slice 25) := Try.underlying77
theorem ty16 : Try.prog.cellsOf 3 = 1 := by kernel_rfl
theorem ty17 : Try.prog.cellsOf 5 = 1 := by kernel_rfl
theorem ty18 : Try.prog.cellsOf 9 = 1 := by kernel_rfl
theorem ty19 : Try.prog.cellsOf 22 = 32 := by kernel_rfl
theorem ty20 : Try.prog.cellsOf 23 = 32 := by kernel_rfl
theorem ty21 : Try.prog.cellsOf 24 = 1 := by kernel_rfl
theorem ty22 : Try.prog.cellsOf 25 = 1 := by kernel_rfl
theorem ty23 : Try.prog.cellsOf 33 = 32 := by kernel_rfl
theorem ty24 : Try.prog.cellsOf 37 = 65 := by kernel_rfl
theorem ty25 : Try.prog.cellsOf 41 = 0 := by kernel_rfl
theorem ty26 : Try.prog.cellsOf 48 = 16 := by kernel_rfl
theorem ty27 : Try.prog.cellsOf 53 = 1 := by kernel_rfl
theorem ty28 : Try.prog.cellsOf 54 = 1 := by kernel_rfl
theorem ty29 : Try.prog.cellsOf 55 = 64 := by kernel_rfl
theorem ty30 : Try.prog.cellsOf 57 = 1 := by kernel_rfl
theorem ty31 : Try.prog.cellsOf 59 = 8 := by kernel_rfl
theorem ty32 : Try.prog.cellsOf 63 = 16 := by kernel_rfl
theorem ty33 : Try.prog.cellsOf 70 = 64 := by kernel_rfl
theorem ty34 : Try.prog.cellsOf 77 = 1 := by kernel_rfl
theorem ty35 : Try.prog.bytesOf 5 = 1 := by kernel_rfl
theorem ty36 : Try.prog.bytesOf 25 = 24 := by kernel_rfl
theorem ty37 : zeroCellsOf Try.prog 3 = some (#[.int .i64 0]) := by kernel_rfl
theorem ty38 : zeroCellsOf Try.prog 5 = some (#[.int .u8 0]) := by kernel_rfl
theorem ty39 : zeroCellsOf Try.prog 9 = some #[.string ⟨#[]⟩] := by kernel_rfl
theorem ty40 : zeroCellsOf Try.prog 22 = some (Array.replicate 32 (.int .u8 0)) := by kernel_rfl
theorem ty41 : Try.prog.eqGuardType Try.prog.depth 22 = false := by kernel_rfl
theorem ty42 : zeroCellsOf Try.prog 23 = some (Array.replicate 32 (.int .u8 0)) := by kernel_rfl
theorem ty43 : Try.prog.eqGuardType Try.prog.depth 23 = false := by kernel_rfl
theorem ty44 : zeroCellsOf Try.prog 24 = some (#[.int .u64 0]) := by kernel_rfl
theorem ty45 : zeroCellsOf Try.prog 25 = some #[.slice none 0 0] := by kernel_rfl
theorem ty46 : zeroCellsOf Try.prog 33 = some (Array.replicate 32 (.int .u8 0)) := by kernel_rfl
theorem ty47 : Try.prog.eqGuardType Try.prog.depth 33 = false := by kernel_rfl
theorem ty48 : zeroCellsOf Try.prog 48 = some (Array.replicate 16 (.int .u8 0)) := by kernel_rfl
theorem ty49 : Try.prog.eqGuardType Try.prog.depth 48 = false := by kernel_rfl
theorem ty50 : zeroCellsOf Try.prog 54 = some (#[.int .u64 0]) := by kernel_rfl
theorem ty51 : zeroCellsOf Try.prog 55 = some (Array.replicate 64 (.int .u8 0)) := by kernel_rfl
theorem ty52 : Try.prog.eqGuardType Try.prog.depth 55 = false := by kernel_rfl
theorem ty53 : zeroCellsOf Try.prog 57 = some (#[.int .u32 0]) := by kernel_rfl
theorem ty54 : zeroCellsOf Try.prog 59 = some (Array.replicate 8 (.int .u32 0)) := by kernel_rfl
theorem ty55 : Try.prog.eqGuardType Try.prog.depth 59 = false := by kernel_rfl
theorem ty56 : zeroCellsOf Try.prog 63 = some (Array.replicate 16 (.int .u32 0)) := by kernel_rfl
theorem ty57 : Try.prog.eqGuardType Try.prog.depth 63 = false := by kernel_rfl
theorem ty58 : zeroCellsOf Try.prog 70 = some (Array.replicate 64 (.int .u32 0)) := by kernel_rfl
theorem ty59 : Try.prog.eqGuardType Try.prog.depth 70 = false := by kernel_rfl
theorem ty60 : zeroCellsOf Try.prog 77 = some #[.slice none 0 0] := by kernel_rfl
theorem ty : (Try.prog.underlying 3 = some (.int .i64)) ∧ (Try.prog.underlying 5 = some (.int .u8)) ∧ (Try.prog.underlying 9 = some (.string)) ∧ (Try.prog.underlying 22 = some (.array 32 5)) ∧ (Try.prog.underlying 23 = some (.array 32 5)) ∧ (Try.prog.underlying 24 = some (.int .u64)) ∧ (Try.prog.underlying 25 = some (.slice 5)) ∧ (Try.prog.underlying 33 = some (.array 32 5)) ∧ (Try.prog.underlying 48 = some (.array 16 5)) ∧ (Try.prog.underlying 54 = some (.int .u64)) ∧ (Try.prog.underlying 55 = some (.array 64 5)) ∧ (Try.prog.underlying 57 = some (.int .u32)) ∧ (Try.prog.underlying 59 = some (.array 8 57)) ∧ (Try.prog.underlying 63 = some (.array 16 57)) ∧ (Try.prog.underlying 70 = some (.array 64 57)) ∧ (Try.prog.underlying 77 = some (.slice 25)) ∧ (Try.prog.cellsOf 3 = 1) ∧ (Try.prog.cellsOf 5 = 1) ∧ (Try.prog.cellsOf 9 = 1) ∧ (Try.prog.cellsOf 22 = 32) ∧ (Try.prog.cellsOf 23 = 32) ∧ (Try.prog.cellsOf 24 = 1) ∧ (Try.prog.cellsOf 25 = 1) ∧ (Try.prog.cellsOf 33 = 32) ∧ (Try.prog.cellsOf 37 = 65) ∧ (Try.prog.cellsOf 41 = 0) ∧ (Try.prog.cellsOf 48 = 16) ∧ (Try.prog.cellsOf 53 = 1) ∧ (Try.prog.cellsOf 54 = 1) ∧ (Try.prog.cellsOf 55 = 64) ∧ (Try.prog.cellsOf 57 = 1) ∧ (Try.prog.cellsOf 59 = 8) ∧ (Try.prog.cellsOf 63 = 16) ∧ (Try.prog.cellsOf 70 = 64) ∧ (Try.prog.cellsOf 77 = 1) ∧ (Try.prog.bytesOf 5 = 1) ∧ (Try.prog.bytesOf 25 = 24) ∧ (zeroCellsOf Try.prog 3 = some (#[.int .i64 0])) ∧ (zeroCellsOf Try.prog 5 = some (#[.int .u8 0])) ∧ (zeroCellsOf Try.prog 9 = some #[.string ⟨#[]⟩]) ∧ (zeroCellsOf Try.prog 22 = some (Array.replicate 32 (.int .u8 0))) ∧ (Try.prog.eqGuardType Try.prog.depth 22 = false) ∧ (zeroCellsOf Try.prog 23 = some (Array.replicate 32 (.int .u8 0))) ∧ (Try.prog.eqGuardType Try.prog.depth 23 = false) ∧ (zeroCellsOf Try.prog 24 = some (#[.int .u64 0])) ∧ (zeroCellsOf Try.prog 25 = some #[.slice none 0 0]) ∧ (zeroCellsOf Try.prog 33 = some (Array.replicate 32 (.int .u8 0))) ∧ (Try.prog.eqGuardType Try.prog.depth 33 = false) ∧ (zeroCellsOf Try.prog 48 = some (Array.replicate 16 (.int .u8 0))) ∧ (Try.prog.eqGuardType Try.prog.depth 48 = false) ∧ (zeroCellsOf Try.prog 54 = some (#[.int .u64 0])) ∧ (zeroCellsOf Try.prog 55 = some (Array.replicate 64 (.int .u8 0))) ∧ (Try.prog.eqGuardType Try.prog.depth 55 = false) ∧ (zeroCellsOf Try.prog 57 = some (#[.int .u32 0])) ∧ (zeroCellsOf Try.prog 59 = some (Array.replicate 8 (.int .u32 0))) ∧ (Try.prog.eqGuardType Try.prog.depth 59 = false) ∧ (zeroCellsOf Try.prog 63 = some (Array.replicate 16 (.int .u32 0))) ∧ (Try.prog.eqGuardType Try.prog.depth 63 = false) ∧ (zeroCellsOf Try.prog 70 = some (Array.replicate 64 (.int .u32 0))) ∧ (Try.prog.eqGuardType Try.prog.depth 70 = false) ∧ (zeroCellsOf Try.prog 77 = some #[.slice none 0 0]) := ⟨ty0, ty1, ty2, ty3, ty4, ty5, ty6, ty7, ty8, ty9, ty10, ty11, ty12, ty13, ty14, ty15, ty16, ty17, ty18, ty19, ty20, ty21, ty22, ty23, ty24, ty25, ty26, ty27, ty28, ty29, ty30, ty31, ty32, ty33, ty34, ty35, ty36, ty37, ty38, ty39, ty40, ty41, ty42, ty43, ty44, ty45, ty46, ty47, ty48, ty49, ty50, ty51, ty52, ty53, ty54, ty55, ty56, ty57, ty58, ty59, ty60⟩
theorem ui_9 : type_of% Try.underlying9 := Try.underlying9
theorem ui_37 : type_of% Try.underlying37 := Try.underlying37
theorem ui_41 : type_of% Try.underlying41 := Try.underlying41
theorem ui_53 : type_of% Try.underlying53 := Try.underlying53
theorem zr0 {ι : Type} : (zrow Try.prog 3 : Option (Row ι)) = some (.ints .i64 (List.replicate 1 0)) := by kernel_rfl
theorem zr1 {ι : Type} : (zrow Try.prog 5 : Option (Row ι)) = some (.ints .u8 (List.replicate 1 0)) := by kernel_rfl
theorem zr2 {ι : Type} : (zrow Try.prog 22 : Option (Row ι)) = some (.ints .u8 (List.replicate 32 0)) := by kernel_rfl
theorem zr3 {ι : Type} : (zrow Try.prog 23 : Option (Row ι)) = some (.ints .u8 (List.replicate 32 0)) := by kernel_rfl
theorem zr4 {ι : Type} : (zrow Try.prog 24 : Option (Row ι)) = some (.ints .u64 (List.replicate 1 0)) := by kernel_rfl
theorem zr5 {ι : Type} : (zrow Try.prog 33 : Option (Row ι)) = some (.ints .u8 (List.replicate 32 0)) := by kernel_rfl
theorem zr6 {ι : Type} : (zrow Try.prog 48 : Option (Row ι)) = some (.ints .u8 (List.replicate 16 0)) := by kernel_rfl
theorem zr7 {ι : Type} : (zrow Try.prog 54 : Option (Row ι)) = some (.ints .u64 (List.replicate 1 0)) := by kernel_rfl
theorem zr8 {ι : Type} : (zrow Try.prog 55 : Option (Row ι)) = some (.ints .u8 (List.replicate 64 0)) := by kernel_rfl
theorem zr9 {ι : Type} : (zrow Try.prog 57 : Option (Row ι)) = some (.ints .u32 (List.replicate 1 0)) := by kernel_rfl
theorem zr10 {ι : Type} : (zrow Try.prog 59 : Option (Row ι)) = some (.ints .u32 (List.replicate 8 0)) := by kernel_rfl
theorem zr11 {ι : Type} : (zrow Try.prog 63 : Option (Row ι)) = some (.ints .u32 (List.replicate 16 0)) := by kernel_rfl
theorem zr12 {ι : Type} : (zrow Try.prog 70 : Option (Row ι)) = some (.ints .u32 (List.replicate 64 0)) := by kernel_rfl
theorem zr {ι : Type} : ((zrow Try.prog 3 : Option (Row ι)) = some (.ints .i64 (List.replicate 1 0))) ∧ ((zrow Try.prog 5 : Option (Row ι)) = some (.ints .u8 (List.replicate 1 0))) ∧ ((zrow Try.prog 22 : Option (Row ι)) = some (.ints .u8 (List.replicate 32 0))) ∧ ((zrow Try.prog 23 : Option (Row ι)) = some (.ints .u8 (List.replicate 32 0))) ∧ ((zrow Try.prog 24 : Option (Row ι)) = some (.ints .u64 (List.replicate 1 0))) ∧ ((zrow Try.prog 33 : Option (Row ι)) = some (.ints .u8 (List.replicate 32 0))) ∧ ((zrow Try.prog 48 : Option (Row ι)) = some (.ints .u8 (List.replicate 16 0))) ∧ ((zrow Try.prog 54 : Option (Row ι)) = some (.ints .u64 (List.replicate 1 0))) ∧ ((zrow Try.prog 55 : Option (Row ι)) = some (.ints .u8 (List.replicate 64 0))) ∧ ((zrow Try.prog 57 : Option (Row ι)) = some (.ints .u32 (List.replicate 1 0))) ∧ ((zrow Try.prog 59 : Option (Row ι)) = some (.ints .u32 (List.replicate 8 0))) ∧ ((zrow Try.prog 63 : Option (Row ι)) = some (.ints .u32 (List.replicate 16 0))) ∧ ((zrow Try.prog 70 : Option (Row ι)) = some (.ints .u32 (List.replicate 64 0))) := ⟨zr0, zr1, zr2, zr3, zr4, zr5, zr6, zr7, zr8, zr9, zr10, zr11, zr12⟩
abbrev fs_37 : Array Field := #[{ name := "At", type := 23, offset := 0, embedded := false, tag := "", pkgPath := "", byteOffset := 0 }, { name := "N", type := 24, offset := 32, embedded := false, tag := "", pkgPath := "", byteOffset := 32 }, { name := "Off", type := 33, offset := 33, embedded := false, tag := "", pkgPath := "", byteOffset := 40 }]
theorem us_37 : Try.prog.underlying 37 = some (.struct fs_37) := Try.underlying37
theorem fa_37_0 {ι : Type} : ∀ (id : ι) (off : Nat) (C : AV ι → Prop), fieldAddrC Try.prog 37 (.ptr id off) 0 C = C (.ptr id (off + 0)) := fun id off C => by
  simp only [fieldAddrC, us_37]; exact propext ⟨fun h => h.2.2, fun h => ⟨by kernel_rfl, by decide +kernel, h⟩⟩
theorem bw_37_0 {ι : Type} : ∀ (v : List Int) (r : List (Nat × AV ι)) (l : List (AV ι)) (C : List (AV ι) → Prop), buildCells Try.prog fs_37 ((0, .ints .u8 v) :: r) l C = (32 = v.length ∧ 0 + v.length ≤ l.length ∧ buildCells Try.prog fs_37 r (Sy.splice l 0 (flatI .u8 v)) C) := fun v r l C => by
  have hf : fs_37[0]? = some { name := "At", type := 23, offset := 0, embedded := false, tag := "", pkgPath := "", byteOffset := 0 } := rfl
  have ha : isAggT Try.prog 23 = true := by kernel_rfl
  have hc : Try.prog.cellsOf 23 = 32 := by kernel_rfl
  simp only [buildCells, hf, ha, wideL, hc, flatI_len]
theorem fa_37_1 {ι : Type} : ∀ (id : ι) (off : Nat) (C : AV ι → Prop), fieldAddrC Try.prog 37 (.ptr id off) 1 C = C (.ptr id (off + 32)) := fun id off C => by
  simp only [fieldAddrC, us_37]; exact propext ⟨fun h => h.2.2, fun h => ⟨by kernel_rfl, by decide +kernel, h⟩⟩
theorem fv_37_1 {ι : Type} : ∀ (l : List (AV ι)) (C : AV ι → Prop), fieldC Try.prog 37 (.agg l) 1 C = (match l[32]? with | some v => C v | none => False) := fun l C => by
  simp only [fieldC, us_37]; exact propext ⟨fun h => h.2.2, fun h => ⟨by kernel_rfl, by kernel_rfl, h⟩⟩
theorem bc_37_1 {ι : Type} : ∀ (v : AV ι) (r : List (Nat × AV ι)) (l : List (AV ι)) (C : List (AV ι) → Prop), buildCells Try.prog fs_37 ((1, v) :: r) l C = (scalar v = true ∧ 32 < l.length ∧ buildCells Try.prog fs_37 r (l.set 32 v) C) := fun v r l C => by
  have hf : fs_37[1]? = some { name := "N", type := 24, offset := 32, embedded := false, tag := "", pkgPath := "", byteOffset := 32 } := rfl
  have ha : isAggT Try.prog 24 = false := by kernel_rfl
  simp only [buildCells, hf, ha]; exact propext ⟨fun h => h.2.2, fun h => ⟨by kernel_rfl, by decide +kernel, h⟩⟩
theorem fa_37_2 {ι : Type} : ∀ (id : ι) (off : Nat) (C : AV ι → Prop), fieldAddrC Try.prog 37 (.ptr id off) 2 C = C (.ptr id (off + 33)) := fun id off C => by
  simp only [fieldAddrC, us_37]; exact propext ⟨fun h => h.2.2, fun h => ⟨by kernel_rfl, by decide +kernel, h⟩⟩
theorem bw_37_2 {ι : Type} : ∀ (v : List Int) (r : List (Nat × AV ι)) (l : List (AV ι)) (C : List (AV ι) → Prop), buildCells Try.prog fs_37 ((2, .ints .u8 v) :: r) l C = (32 = v.length ∧ 33 + v.length ≤ l.length ∧ buildCells Try.prog fs_37 r (Sy.splice l 33 (flatI .u8 v)) C) := fun v r l C => by
  have hf : fs_37[2]? = some { name := "Off", type := 33, offset := 33, embedded := false, tag := "", pkgPath := "", byteOffset := 40 } := rfl
  have ha : isAggT Try.prog 33 = true := by kernel_rfl
  have hc : Try.prog.cellsOf 33 = 32 := by kernel_rfl
  simp only [buildCells, hf, ha, wideL, hc, flatI_len]
theorem zc_37 : zeroCellsOf Try.prog 37 = some #[.int .u8 0, .int .u8 0, .int .u8 0, .int .u8 0, .int .u8 0, .int .u8 0, .int .u8 0, .int .u8 0, .int .u8 0, .int .u8 0, .int .u8 0, .int .u8 0, .int .u8 0, .int .u8 0, .int .u8 0, .int .u8 0, .int .u8 0, .int .u8 0, .int .u8 0, .int .u8 0, .int .u8 0, .int .u8 0, .int .u8 0, .int .u8 0, .int .u8 0, .int .u8 0, .int .u8 0, .int .u8 0, .int .u8 0, .int .u8 0, .int .u8 0, .int .u8 0, .int .u64 0, .int .u8 0, .int .u8 0, .int .u8 0, .int .u8 0, .int .u8 0, .int .u8 0, .int .u8 0, .int .u8 0, .int .u8 0, .int .u8 0, .int .u8 0, .int .u8 0, .int .u8 0, .int .u8 0, .int .u8 0, .int .u8 0, .int .u8 0, .int .u8 0, .int .u8 0, .int .u8 0, .int .u8 0, .int .u8 0, .int .u8 0, .int .u8 0, .int .u8 0, .int .u8 0, .int .u8 0, .int .u8 0, .int .u8 0, .int .u8 0, .int .u8 0, .int .u8 0] := by kernel_rfl
theorem bd_37 {ι : Type} : ∀ (r : List (Nat × AV ι)) (C : AV ι → Prop), buildC Try.prog 37 r C = buildCells Try.prog fs_37 r (flatI .u8 (List.replicate 32 0) ++ (.int .u64 0 :: (flatI .u8 (List.replicate 32 0)))) (fun l => C (.agg l)) := fun r C => by
  unfold buildC; rw [us_37]; simp only [zc_37]; exact propext ⟨fun h => h.2.2, fun h => ⟨by decide +kernel, by kernel_rfl, h⟩⟩
theorem zs_37 {ι : Type} : (zrow Try.prog 37 : Option (Row ι)) = some (.mixed (flatI .u8 (List.replicate 32 0) ++ (.int .u64 0 :: (flatI .u8 (List.replicate 32 0))))) := by kernel_rfl
abbrev fs_41 : Array Field := #[]
theorem us_41 : Try.prog.underlying 41 = some (.struct fs_41) := Try.underlying41
theorem zc_41 : zeroCellsOf Try.prog 41 = some #[] := by kernel_rfl
theorem bd_41 {ι : Type} : ∀ (r : List (Nat × AV ι)) (C : AV ι → Prop), buildC Try.prog 41 r C = buildCells Try.prog fs_41 r [] (fun l => C (.agg l)) := fun r C => by
  unfold buildC; rw [us_41]; simp only [zc_41]; exact propext ⟨fun h => h.2.2, fun h => ⟨by decide +kernel, by kernel_rfl, h⟩⟩
theorem zs_41 {ι : Type} : (zrow Try.prog 41 : Option (Row ι)) = some (.mixed []) := by kernel_rfl
theorem ba_22 {ι : Type} : ∀ (r : List (Nat × AV ι)) (C : AV ι → Prop), buildC Try.prog 22 r C = buildInts .u8 r (List.replicate 32 0) (fun l => C (.ints .u8 l)) := fun r C => by
  unfold buildC; rw [Try.underlying22]; simp only [Try.underlying5]; exact propext ⟨fun h => h.2.2, fun h => ⟨by kernel_rfl, by kernel_rfl, h⟩⟩
theorem ba_23 {ι : Type} : ∀ (r : List (Nat × AV ι)) (C : AV ι → Prop), buildC Try.prog 23 r C = buildInts .u8 r (List.replicate 32 0) (fun l => C (.ints .u8 l)) := fun r C => by
  unfold buildC; rw [Try.underlying23]; simp only [Try.underlying5]; exact propext ⟨fun h => h.2.2, fun h => ⟨by kernel_rfl, by kernel_rfl, h⟩⟩
theorem ba_33 {ι : Type} : ∀ (r : List (Nat × AV ι)) (C : AV ι → Prop), buildC Try.prog 33 r C = buildInts .u8 r (List.replicate 32 0) (fun l => C (.ints .u8 l)) := fun r C => by
  unfold buildC; rw [Try.underlying33]; simp only [Try.underlying5]; exact propext ⟨fun h => h.2.2, fun h => ⟨by kernel_rfl, by kernel_rfl, h⟩⟩
theorem ba_48 {ι : Type} : ∀ (r : List (Nat × AV ι)) (C : AV ι → Prop), buildC Try.prog 48 r C = buildInts .u8 r (List.replicate 16 0) (fun l => C (.ints .u8 l)) := fun r C => by
  unfold buildC; rw [Try.underlying48]; simp only [Try.underlying5]; exact propext ⟨fun h => h.2.2, fun h => ⟨by kernel_rfl, by kernel_rfl, h⟩⟩
theorem ba_55 {ι : Type} : ∀ (r : List (Nat × AV ι)) (C : AV ι → Prop), buildC Try.prog 55 r C = buildInts .u8 r (List.replicate 64 0) (fun l => C (.ints .u8 l)) := fun r C => by
  unfold buildC; rw [Try.underlying55]; simp only [Try.underlying5]; exact propext ⟨fun h => h.2.2, fun h => ⟨by kernel_rfl, by kernel_rfl, h⟩⟩
theorem ba_59 {ι : Type} : ∀ (r : List (Nat × AV ι)) (C : AV ι → Prop), buildC Try.prog 59 r C = buildInts .u32 r (List.replicate 8 0) (fun l => C (.ints .u32 l)) := fun r C => by
  unfold buildC; rw [Try.underlying59]; simp only [Try.underlying57]; exact propext ⟨fun h => h.2.2, fun h => ⟨by kernel_rfl, by kernel_rfl, h⟩⟩
theorem ba_63 {ι : Type} : ∀ (r : List (Nat × AV ι)) (C : AV ι → Prop), buildC Try.prog 63 r C = buildInts .u32 r (List.replicate 16 0) (fun l => C (.ints .u32 l)) := fun r C => by
  unfold buildC; rw [Try.underlying63]; simp only [Try.underlying57]; exact propext ⟨fun h => h.2.2, fun h => ⟨by kernel_rfl, by kernel_rfl, h⟩⟩
theorem ba_70 {ι : Type} : ∀ (r : List (Nat × AV ι)) (C : AV ι → Prop), buildC Try.prog 70 r C = buildInts .u32 r (List.replicate 64 0) (fun l => C (.ints .u32 l)) := fun r C => by
  unfold buildC; rw [Try.underlying70]; simp only [Try.underlying57]; exact propext ⟨fun h => h.2.2, fun h => ⟨by kernel_rfl, by kernel_rfl, h⟩⟩
theorem sui : (type_of% ui_9) ∧ (type_of% ui_37) ∧ (type_of% ui_41) ∧ (type_of% ui_53) := ⟨ui_9, ui_37, ui_41, ui_53⟩
theorem sty {ι : Type} : (type_of% (@fa_37_0 ι)) ∧ (type_of% (@bw_37_0 ι)) ∧ (type_of% (@fa_37_1 ι)) ∧ (type_of% (@fv_37_1 ι)) ∧ (type_of% (@bc_37_1 ι)) ∧ (type_of% (@fa_37_2 ι)) ∧ (type_of% (@bw_37_2 ι)) ∧ (type_of% (@bd_37 ι)) ∧ (type_of% (@zs_37 ι)) ∧ (type_of% (@bd_41 ι)) ∧ (type_of% (@zs_41 ι)) ∧ (type_of% (@ba_22 ι)) ∧ (type_of% (@ba_23 ι)) ∧ (type_of% (@ba_33 ι)) ∧ (type_of% (@ba_48 ι)) ∧ (type_of% (@ba_55 ι)) ∧ (type_of% (@ba_59 ι)) ∧ (type_of% (@ba_63 ι)) ∧ (type_of% (@ba_70 ι)) := ⟨@fa_37_0 ι, @bw_37_0 ι, @fa_37_1 ι, @fv_37_1 ι, @bc_37_1 ι, @fa_37_2 ι, @bw_37_2 ι, @bd_37 ι, @zs_37 ι, @bd_41 ι, @zs_41 ι, @ba_22 ι, @ba_23 ι, @ba_33 ι, @ba_48 ι, @ba_55 ι, @ba_59 ι, @ba_63 ι, @ba_70 ι⟩
theorem mix : Try.prog.follows .mixedOrders = true := by kernel_rfl

/-! erewhile/erewhilelaw05.CipherApart -/
abbrev n_law05_CipherApart : Nat := 9
theorem func_law05_CipherApart : Try.prog.funcs[n_law05_CipherApart]? = some Try.f9 := Try.func9
theorem call_law05_CipherApart : ∀ args w, (callFunc n_law05_CipherApart args).run Try.prog w = .ok (.enter n_law05_CipherApart args) w := Try.call9
theorem nt_law05_CipherApart : Try.f9.ntmps = 68 := Try.ntmps9
theorem rs_law05_CipherApart : Try.f9.results.toList = [.tmp 4] := by rw [Try.results9]
def s_law05_CipherApart_0 : List AStep := [.eff (some 2) (.box 23 (.tmp 0)), .pure (some 4) false (.assign (.const (.bool false)))]
abbrev p_law05_CipherApart_0 : List Nat := [0, 1]
def s_law05_CipherApart_1 : List AStep := [.call (some 12) false ⟨.value (.func 10), #[], #[]⟩, .pure (some 13) false (.unOp .not 4 (.tmp 12))]
abbrev p_law05_CipherApart_1 : List Nat := [0, 1]
def s_law05_CipherApart_2 : List AStep := [.pure (some 4) false (.assign (.const (.bool false)))]
abbrev p_law05_CipherApart_2 : List Nat := [0]
def s_law05_CipherApart_3 : List AStep := [.pure (some 14) false (.move (.tmp 1)), .pure (some 15) false (.call (.mk (.builtin .len) #[.tmp 14] #[25])), .pure (some 16) false (.binOp .gtr 3 (.tmp 15) (.const (.int .i64 80)) 3)]
abbrev p_law05_CipherApart_3 : List Nat := [0, 1, 2]
def s_law05_CipherApart_4 : List AStep := [.pure (some 4) false (.assign (.const (.bool true)))]
abbrev p_law05_CipherApart_4 : List Nat := [0]
def s_law05_CipherApart_5 : List AStep := [.eff (some 5) (.alloc 41)]
abbrev p_law05_CipherApart_5 : List Nat := [0]
def s_law05_CipherApart_6 : List AStep := [.read (some 18) false (.load 41 (.tmp 5)), .read (some 19) false (.load 23 (.tmp 2)), .call (some 20) false ⟨.value (.func 15), #[.tmp 18, .tmp 19], #[41, 23]⟩, .pure (some 17) false (.move (.tmp 20)), .pure (some 21) false (.extract (.tmp 17) 0), .pure (some 22) false (.extract (.tmp 17) 1), .eff (some 6) (.alloc 23), .eff (some 7) (.alloc 23), .eff none (.store 23 (.tmp 6) (.tmp 21)), .eff none (.store 23 (.tmp 7) (.tmp 22))]
abbrev p_law05_CipherApart_6 : List Nat := [0, 1, 2, 3, 4, 5, 6, 7, 8, 9]
def s_law05_CipherApart_7 : List AStep := [.read (some 24) false (.load 41 (.tmp 5)), .read (some 25) false (.load 23 (.tmp 2)), .call (some 26) false ⟨.value (.func 15), #[.tmp 24, .tmp 25], #[41, 23]⟩, .pure (some 23) false (.move (.tmp 26)), .pure (some 27) false (.extract (.tmp 23) 0), .pure (some 28) false (.extract (.tmp 23) 1), .eff (some 8) (.alloc 23), .eff (some 9) (.alloc 23), .eff none (.store 23 (.tmp 8) (.tmp 27)), .eff none (.store 23 (.tmp 9) (.tmp 28))]
abbrev p_law05_CipherApart_7 : List Nat := [0, 1, 2, 3, 4, 5, 6, 7, 8, 9]
def s_law05_CipherApart_8 : List AStep := [.eff (some 29) (.buildSlice 25 0 #[]), .pure (some 30) false (.slice 23 (.tmp 2) none none none), .eff (some 31) (.call (.mk (.builtin .append) #[.tmp 29, .tmp 30] #[25, 25])), .pure (some 32) false (.move (.tmp 1)), .eff (some 33) (.call (.mk (.builtin .append) #[.tmp 31, .tmp 32] #[25, 25])), .call (some 34) false ⟨.value (.func 23), #[.tmp 33], #[25]⟩, .eff (some 10) (.alloc 23), .eff none (.store 23 (.tmp 10) (.tmp 34))]
abbrev p_law05_CipherApart_8 : List Nat := [0, 1, 2, 3, 4, 5, 6, 7]
def s_law05_CipherApart_9 : SP := (.one (.pure (some 36) false (.slice 23 (.tmp 2) none none none)) (.one (.pure (some 38) false (.slice 23 (.tmp 10) none none none)) (.two (.eff (some 35) (.buildSlice 25 0 #[])) (.two (.eff (some 37) (.call (.mk (.builtin .append) #[.tmp 35, .tmp 36] #[25, 25]))) (.two (.eff (some 39) (.call (.mk (.builtin .append) #[.tmp 37, .tmp 38] #[25, 25]))) (.two (.call (some 40) false ⟨.value (.func 23), #[.tmp 39], #[25]⟩) (.one (.eff (some 11) (.alloc 23)) (.one (.eff none (.store 23 (.tmp 11) (.tmp 40))) .done)) (.eff (some 11) (.alloc 23)) (.one (.call (some 40) false ⟨.value (.func 23), #[.tmp 39], #[25]⟩) (.one (.eff none (.store 23 (.tmp 11) (.tmp 40))) .done))) (.eff (some 11) (.alloc 23)) (.one (.eff (some 39) (.call (.mk (.builtin .append) #[.tmp 37, .tmp 38] #[25, 25]))) (.one (.call (some 40) false ⟨.value (.func 23), #[.tmp 39], #[25]⟩) (.one (.eff none (.store 23 (.tmp 11) (.tmp 40))) .done)))) (.eff (some 11) (.alloc 23)) (.one (.eff (some 37) (.call (.mk (.builtin .append) #[.tmp 35, .tmp 36] #[25, 25]))) (.one (.eff (some 39) (.call (.mk (.builtin .append) #[.tmp 37, .tmp 38] #[25, 25]))) (.one (.call (some 40) false ⟨.value (.func 23), #[.tmp 39], #[25]⟩) (.one (.eff none (.store 23 (.tmp 11) (.tmp 40))) .done))))) (.eff (some 11) (.alloc 23)) (.one (.eff (some 35) (.buildSlice 25 0 #[])) (.one (.eff (some 37) (.call (.mk (.builtin .append) #[.tmp 35, .tmp 36] #[25, 25]))) (.one (.eff (some 39) (.call (.mk (.builtin .append) #[.tmp 37, .tmp 38] #[25, 25]))) (.one (.call (some 40) false ⟨.value (.func 23), #[.tmp 39], #[25]⟩) (.one (.eff none (.store 23 (.tmp 11) (.tmp 40))) .done))))))))
abbrev p_law05_CipherApart_9 : PC := (.calm 1 180 (.calm 3 176 (.fork 0 (.fork 2 (.fork 4 (.fork 5 (.act 6 (.act 7 .done)) 6 (.act 5 (.act 7 .done))) 6 (.act 4 (.act 5 (.act 7 .done)))) 6 (.act 2 (.act 4 (.act 5 (.act 7 .done))))) 6 (.act 0 (.act 2 (.act 4 (.act 5 (.act 7 .done))))))))
abbrev g_law05_CipherApart_9 : List Dg := [⟨0, 0, 34359738368, .eff, true⟩, ⟨0, 4, 68719476736, .pure, true⟩, ⟨3, 103079215104, 137438953472, .eff, false⟩, ⟨0, 1024, 274877906944, .pure, true⟩, ⟨12, 412316860416, 549755813888, .eff, false⟩, ⟨16, 549755813888, 1099511627776, .call, true⟩, ⟨0, 0, 2048, .eff, true⟩, ⟨127, 1099511629824, 0, .eff, false⟩]
abbrev q_law05_CipherApart_9 : List Nat := []
def s_law05_CipherApart_10 : SP := (.one (.read (some 41) false (.load 23 (.tmp 6))) (.one (.read (some 42) false (.load 23 (.tmp 8))) (.one (.pure (some 43) false (.binOp .eql 23 (.tmp 41) (.tmp 42) 23)) (.one (.pure (some 44) true (.move (.tmp 43))) (.one (.guard 44 true (.read (some 45) false (.load 23 (.tmp 7)))) (.one (.guard 44 true (.read (some 46) false (.load 23 (.tmp 9)))) (.one (.guard 44 true (.pure (some 47) false (.binOp .eql 23 (.tmp 45) (.tmp 46) 23))) (.one (.pure (some 48) false (.pick (.tmp 44) (.tmp 47) (.const (.bool false)))) (.one (.pure (some 49) true (.move (.tmp 48))) (.one (.guard 49 true (.read (some 50) false (.load 41 (.tmp 5)))) (.one (.guard 49 true (.read (some 51) false (.load 23 (.tmp 2)))) (.one (.guard 49 true (.read (some 53) false (.load 41 (.tmp 5)))) (.one (.guard 49 true (.read (some 54) false (.load 23 (.tmp 2)))) (.one (.guard 49 true (.call (some 52) false ⟨.value (.func 17), #[.tmp 50, .tmp 51, .const (.int .u64 1)], #[41, 23, 24]⟩)) (.one (.guard 49 true (.call (some 55) false ⟨.value (.func 17), #[.tmp 53, .tmp 54, .const (.int .u64 1)], #[41, 23, 24]⟩)) (.one (.guard 49 true (.pure (some 56) false (.binOp .eql 33 (.tmp 52) (.tmp 55) 33))) (.one (.pure (some 57) false (.pick (.tmp 49) (.tmp 56) (.const (.bool false)))) (.one (.pure (some 58) true (.move (.tmp 57))) (.one (.guard 58 true (.pure (some 61) false (.move (.tmp 1)))) (.one (.guard 58 true (.pure (some 63) false (.slice 23 (.tmp 11) none (some (.const (.int .i64 16))) none))) (.one (.guard 58 true (.pure (some 64) false (.sliceToArrayPointer 48 (.tmp 63)))) (.one (.guard 58 true (.read (some 59) false (.load 41 (.tmp 5)))) (.one (.guard 58 true (.read (some 60) false (.load 23 (.tmp 2)))) (.one (.guard 58 true (.read (some 65) false (.load 48 (.tmp 64)))) (.one (.guard 58 true (.call (some 62) false ⟨.value (.func 21), #[.tmp 59, .tmp 60, .tmp 61], #[41, 23, 25]⟩)) (.one (.guard 58 true (.pure (some 66) false (.binOp .eql 48 (.tmp 62) (.tmp 65) 48))) (.one (.pure (some 67) false (.pick (.tmp 58) (.tmp 66) (.const (.bool false)))) (.one (.pure (some 4) false (.assign (.tmp 67))) .done))))))))))))))))))))))))))))
abbrev p_law05_CipherApart_10 : PC := (.calm 0 268435452 (.calm 1 268435452 (.calm 2 268435448 (.calm 3 268435440 (.calm 4 268435392 (.calm 5 268435392 (.calm 6 268435328 (.calm 7 268435200 (.calm 8 268434944 (.calm 9 268421120 (.calm 10 268421120 (.calm 12 268419072 (.calm 13 268419072 (.act 11 (.act 14 (.calm 15 268369920 (.calm 16 268304384 (.calm 17 268173312 (.calm 20 236978176 (.calm 22 260046848 (.calm 23 251658240 (.calm 18 236978176 (.calm 19 236978176 (.calm 24 234881024 (.act 21 (.calm 25 201326592 (.calm 26 134217728 (.calm 27 0 .done))))))))))))))))))))))))))))
abbrev g_law05_CipherApart_10 : List Dg := [⟨0, 64, 2199023255552, .read, true⟩, ⟨0, 256, 4398046511104, .read, true⟩, ⟨3, 6597069766656, 8796093022208, .pure, true⟩, ⟨4, 8796093022208, 17592186044416, .pure, true⟩, ⟨8, 17592186044544, 35184372088832, .read, true⟩, ⟨8, 17592186044928, 70368744177664, .read, true⟩, ⟨56, 123145302310912, 140737488355328, .pure, true⟩, ⟨72, 158329674399744, 281474976710656, .pure, true⟩, ⟨136, 281474976710656, 562949953421312, .pure, true⟩, ⟨256, 562949953421344, 1125899906842624, .read, true⟩, ⟨256, 562949953421316, 2251799813685248, .read, true⟩, ⟨1792, 3940649673949184, 4503599627370496, .call, true⟩, ⟨256, 562949953421344, 9007199254740992, .read, true⟩, ⟨256, 562949953421316, 18014398509481984, .read, true⟩, ⟨14592, 27584547717644288, 36028797018963968, .call, true⟩, ⟨18688, 41095346599755776, 72057594037927936, .pure, true⟩, ⟨33024, 72620543991349248, 144115188075855872, .pure, true⟩, ⟨81920, 144115188075855872, 288230376151711744, .pure, true⟩, ⟨131072, 288230376151711776, 576460752303423488, .read, true⟩, ⟨131072, 288230376151711748, 1152921504606846976, .read, true⟩, ⟨131072, 288230376151711746, 2305843009213693952, .pure, true⟩, ⟨1966080, 4323455642275676160, 4611686018427387904, .call, true⟩, ⟨131072, 288230376151713792, 9223372036854775808, .pure, true⟩, ⟨4325376, 9511602413006487552, 18446744073709551616, .pure, true⟩, ⟨8519680, 18734974449861263360, 36893488147419103232, .read, true⟩, ⟨19005440, 41793404541998202880, 73786976294838206464, .pure, true⟩, ⟨33685504, 74075206670989918208, 147573952589676412928, .pure, true⟩, ⟨134217727, 147573952589676412928, 16, .pure, true⟩]
abbrev q_law05_CipherApart_10 : List Nat := []

/-! erewhile/erewhilelaw05.awake -/
abbrev n_law05_awake : Nat := 10
theorem func_law05_awake : Try.prog.funcs[n_law05_awake]? = some Try.f10 := Try.func10
theorem call_law05_awake : ∀ args w, (callFunc n_law05_awake args).run Try.prog w = .ok (.enter n_law05_awake args) w := Try.call10
theorem nt_law05_awake : Try.f10.ntmps = 31 := Try.ntmps10
theorem rs_law05_awake : Try.f10.results.toList = [.tmp 0] := by rw [Try.results10]
def s_law05_awake_0 : List AStep := [.pure (some 0) false (.assign (.const (.bool false)))]
abbrev p_law05_awake_0 : List Nat := [0]
def s_law05_awake_1 : List AStep := [.pure (some 3) false (.build 37 #[]), .pure (some 4) false (.makeInterface 37 (.tmp 3)), .pure (some 5) false (.build 23 #[(0, .const (.int .u8 1))]), .eff (some 6) (.buildSlice 25 2 #[(0, .const (.int .u8 5)), (1, .const (.int .u8 6))]), .call (some 7) false ⟨.value (.func 11), #[.tmp 4, .tmp 5, .const (.int .u64 3), .tmp 6], #[53, 23, 24, 25]⟩, .pure (some 1) false (.assign (.tmp 7))]
abbrev p_law05_awake_1 : List Nat := [0, 1, 2, 3, 4, 5]
def s_law05_awake_2 : List AStep := [.pure (some 8) false (.build 23 #[(0, .const (.int .u8 1))]), .call (some 9) false ⟨.value (.func 14), #[.tmp 8, .const (.int .u64 3)], #[23, 24]⟩, .eff (some 2) (.alloc 33), .eff none (.store 33 (.tmp 2) (.tmp 9))]
abbrev p_law05_awake_2 : List Nat := [0, 1, 2, 3]
def s_law05_awake_3 : SP := (.one (.pure (some 10) false (.move (.tmp 1))) (.one (.pure (some 11) false (.call (.mk (.builtin .len) #[.tmp 10] #[25]))) (.one (.pure (some 12) false (.binOp .eql 3 (.tmp 11) (.const (.int .i64 2)) 3)) (.one (.pure (some 13) true (.move (.tmp 12))) (.one (.guard 13 true (.pure (some 14) false (.move (.tmp 1)))) (.one (.guard 13 true (.pure (some 15) false (.indexAddr 25 (.tmp 14) (.const (.int .i64 0))))) (.one (.guard 13 true (.pure (some 17) false (.indexAddr 33 (.tmp 2) (.const (.int .i64 0))))) (.one (.guard 13 true (.read (some 16) false (.load 5 (.tmp 15)))) (.one (.guard 13 true (.read (some 18) false (.load 5 (.tmp 17)))) (.one (.guard 13 true (.pure (some 19) false (.binOp .xor 5 (.const (.int .u8 5)) (.tmp 18) 5))) (.one (.guard 13 true (.pure (some 20) false (.binOp .eql 5 (.tmp 16) (.tmp 19) 5))) (.one (.pure (some 21) false (.pick (.tmp 13) (.tmp 20) (.const (.bool false)))) (.one (.pure (some 22) true (.move (.tmp 21))) (.one (.guard 22 true (.pure (some 23) false (.move (.tmp 1)))) (.one (.guard 22 true (.pure (some 24) false (.indexAddr 25 (.tmp 23) (.const (.int .i64 1))))) (.one (.guard 22 true (.pure (some 26) false (.indexAddr 33 (.tmp 2) (.const (.int .i64 1))))) (.one (.guard 22 true (.read (some 25) false (.load 5 (.tmp 24)))) (.one (.guard 22 true (.read (some 27) false (.load 5 (.tmp 26)))) (.one (.guard 22 true (.pure (some 28) false (.binOp .xor 5 (.const (.int .u8 6)) (.tmp 27) 5))) (.one (.guard 22 true (.pure (some 29) false (.binOp .eql 5 (.tmp 25) (.tmp 28) 5))) (.one (.pure (some 30) false (.pick (.tmp 22) (.tmp 29) (.const (.bool false)))) (.one (.pure (some 0) false (.assign (.tmp 30))) .done))))))))))))))))))))))
abbrev p_law05_awake_3 : PC := (.calm 0 4194302 (.calm 1 4194300 (.calm 2 4194296 (.calm 3 4194288 (.calm 4 4193376 (.calm 5 4193344 (.calm 7 4194048 (.calm 6 4193280 (.calm 8 4193792 (.calm 9 4193280 (.calm 10 4192256 (.calm 11 4190208 (.calm 12 4186112 (.calm 13 3719168 (.calm 14 3702784 (.calm 16 4063232 (.calm 15 3670016 (.calm 17 3932160 (.calm 18 3670016 (.calm 19 3145728 (.calm 20 2097152 (.calm 21 0 .done))))))))))))))))))))))
abbrev g_law05_awake_3 : List Dg := [⟨0, 2, 1024, .pure, true⟩, ⟨1, 1024, 2048, .pure, true⟩, ⟨2, 2048, 4096, .pure, true⟩, ⟨4, 4096, 8192, .pure, true⟩, ⟨8, 8194, 16384, .pure, true⟩, ⟨24, 24576, 32768, .pure, true⟩, ⟨40, 40960, 65536, .read, true⟩, ⟨8, 8196, 131072, .pure, true⟩, ⟨136, 139264, 262144, .read, true⟩, ⟨264, 270336, 524288, .pure, true⟩, ⟨584, 598016, 1048576, .pure, true⟩, ⟨1032, 1056768, 2097152, .pure, true⟩, ⟨2056, 2097152, 4194304, .pure, true⟩, ⟨4096, 4194306, 8388608, .pure, true⟩, ⟨12288, 12582912, 16777216, .pure, true⟩, ⟨20480, 20971520, 33554432, .read, true⟩, ⟨4096, 4194308, 67108864, .pure, true⟩, ⟨69632, 71303168, 134217728, .read, true⟩, ⟨135168, 138412032, 268435456, .pure, true⟩, ⟨299008, 306184192, 536870912, .pure, true⟩, ⟨528384, 541065216, 1073741824, .pure, true⟩, ⟨2097151, 1073741824, 1, .pure, true⟩]
abbrev q_law05_awake_3 : List Nat := []

/-! erewhile/cipher.Hide -/
abbrev n_cipher_Hide : Nat := 11
theorem func_cipher_Hide : Try.prog.funcs[n_cipher_Hide]? = some Try.f11 := Try.func11
theorem call_cipher_Hide : ∀ args w, (callFunc n_cipher_Hide args).run Try.prog w = .ok (.enter n_cipher_Hide args) w := Try.call11
theorem nt_cipher_Hide : Try.f11.ntmps = 24 := Try.ntmps11
theorem rs_cipher_Hide : Try.f11.results.toList = [.tmp 8] := by rw [Try.results11]
def s_cipher_Hide_0 : List AStep := [.eff (some 5) (.box 23 (.tmp 1)), .pure (some 8) false (.assign (.const (.slice none 0 0)))]
abbrev p_cipher_Hide_0 : List Nat := [0, 1]
def s_cipher_Hide_1 : List AStep := [.pure (some 10) false (.move (.tmp 0)), .pure (some 11) false (.binOp .eql 53 (.tmp 10) (.const .nilIface) 53), .pure (some 12) true (.move (.tmp 11)), .guard 12 false (.pure (some 13) false (.move (.tmp 3))), .guard 12 false (.pure (some 14) false (.call (.mk (.builtin .len) #[.tmp 13] #[25]))), .guard 12 false (.pure (some 15) false (.binOp .gtr 3 (.tmp 14) (.const (.int .i64 32)) 3)), .pure (some 16) false (.pick (.tmp 12) (.const (.bool true)) (.tmp 15))]
abbrev p_cipher_Hide_1 : List Nat := [0, 1, 2, 3, 4, 5, 6]
def s_cipher_Hide_2 : List AStep := [.pure (some 8) false (.assign (.const (.slice none 0 0)))]
abbrev p_cipher_Hide_2 : List Nat := [0]
abbrev q_cipher_Hide_3 : List Nat := [1003]
def s_cipher_Hide_3 : List AStep := [.pure (some 17) false (.move (.tmp 0)), .read (some 18) false (.load 23 (.tmp 5)), .pure (some 19) false (.move (.tmp 2)), .mcall (some 20) false ⟨.invoke (.tmp 17) "Pad", #[.tmp 18, .tmp 19], #[23, 24]⟩, .eff (some 9) (.alloc 33), .eff none (.store 33 (.tmp 9) (.tmp 20))]
abbrev p_cipher_Hide_3 : List Nat := [0, 1, 2, 3, 4, 5]
def s_cipher_Hide_4 : List AStep := [.pure (some 21) false (.move (.tmp 3)), .pure (some 22) false (.slice 33 (.tmp 9) none none none), .call (some 23) false ⟨.value (.func 19), #[.tmp 21, .tmp 22], #[25, 25]⟩, .pure (some 8) false (.assign (.tmp 23))]
abbrev p_cipher_Hide_4 : List Nat := [0, 1, 2, 3]

/-! erewhile/erewhileref01.Same -/
abbrev n_ref01_Same : Nat := 12
theorem func_ref01_Same : Try.prog.funcs[n_ref01_Same]? = some Try.f12 := Try.func12
theorem call_ref01_Same : ∀ args w, (callFunc n_ref01_Same args).run Try.prog w = .ok (.enter n_ref01_Same args) w := Try.call12
theorem nt_ref01_Same : Try.f12.ntmps = 26 := Try.ntmps12
theorem rs_ref01_Same : Try.f12.results.toList = [.tmp 4] := by rw [Try.results12]
def s_ref01_Same_0 : List AStep := [.pure (some 4) false (.assign (.const (.bool false)))]
abbrev p_ref01_Same_0 : List Nat := [0]
def s_ref01_Same_1 : List AStep := [.pure (some 6) false (.move (.tmp 0)), .pure (some 7) false (.call (.mk (.builtin .len) #[.tmp 6] #[25])), .pure (some 8) false (.move (.tmp 1)), .pure (some 9) false (.call (.mk (.builtin .len) #[.tmp 8] #[25])), .pure (some 10) false (.binOp .neq 3 (.tmp 7) (.tmp 9) 3)]
abbrev p_ref01_Same_1 : List Nat := [0, 1, 2, 3, 4]
def s_ref01_Same_2 : List AStep := [.pure (some 4) false (.assign (.const (.bool false)))]
abbrev p_ref01_Same_2 : List Nat := [0]
def s_ref01_Same_3 : List AStep := [.pure (some 5) false (.assign (.const (.int .i64 0)))]
abbrev p_ref01_Same_3 : List Nat := [0]
def s_ref01_Same_4 : List AStep := [.pure (some 11) false (.move (.tmp 5)), .pure (some 12) false (.move (.tmp 0)), .pure (some 13) false (.call (.mk (.builtin .len) #[.tmp 12] #[25])), .pure (some 14) false (.binOp .lss 3 (.tmp 11) (.tmp 13) 3)]
abbrev p_ref01_Same_4 : List Nat := [0, 1, 2, 3]
def s_ref01_Same_6 : SP := (.one (.pure (some 17) false (.move (.tmp 0))) (.one (.pure (some 18) false (.move (.tmp 5))) (.one (.pure (some 19) false (.indexAddr 25 (.tmp 17) (.tmp 18))) (.one (.pure (some 21) false (.move (.tmp 1))) (.one (.pure (some 22) false (.move (.tmp 5))) (.one (.pure (some 23) false (.indexAddr 25 (.tmp 21) (.tmp 22))) (.one (.read (some 20) false (.load 5 (.tmp 19))) (.one (.read (some 24) false (.load 5 (.tmp 23))) (.one (.pure (some 25) false (.binOp .neq 5 (.tmp 20) (.tmp 24) 5)) .done)))))))))
abbrev p_ref01_Same_6 : PC := (.calm 0 268 (.calm 1 268 (.calm 2 264 (.calm 4 448 (.calm 5 448 (.calm 6 384 (.calm 3 256 (.calm 7 256 (.calm 8 0 .done)))))))))
abbrev g_ref01_Same_6 : List Dg := [⟨0, 1, 131072, .pure, true⟩, ⟨0, 32, 262144, .pure, true⟩, ⟨3, 393216, 524288, .pure, true⟩, ⟨4, 524288, 1048576, .read, true⟩, ⟨0, 2, 2097152, .pure, true⟩, ⟨0, 32, 4194304, .pure, true⟩, ⟨48, 6291456, 8388608, .pure, true⟩, ⟨64, 8388608, 16777216, .read, true⟩, ⟨136, 17825792, 33554432, .pure, true⟩]
abbrev q_ref01_Same_6 : List Nat := []
def s_ref01_Same_7 : List AStep := [.pure (some 4) false (.assign (.const (.bool false)))]
abbrev p_ref01_Same_7 : List Nat := [0]
def s_ref01_Same_5 : List AStep := [.pure (some 15) false (.move (.tmp 5)), .pure (some 16) false (.binOp .add 3 (.tmp 15) (.const (.int .i64 1)) 3), .pure (some 5) false (.assign (.tmp 16))]
abbrev p_ref01_Same_5 : List Nat := [0, 1, 2]
def s_ref01_Same_8 : List AStep := [.pure (some 4) false (.assign (.const (.bool true)))]
abbrev p_ref01_Same_8 : List Nat := [0]

/-! erewhile/erewhileref05.Hide -/
abbrev n_ref05_Hide : Nat := 13
theorem func_ref05_Hide : Try.prog.funcs[n_ref05_Hide]? = some Try.f13 := Try.func13
theorem call_ref05_Hide : ∀ args w, (callFunc n_ref05_Hide args).run Try.prog w = .ok (.enter n_ref05_Hide args) w := Try.call13
theorem nt_ref05_Hide : Try.f13.ntmps = 11 := Try.ntmps13
theorem rs_ref05_Hide : Try.f13.results.toList = [.tmp 4] := by rw [Try.results13]
def s_ref05_Hide_0 : List AStep := [.eff (some 2) (.box 33 (.tmp 0)), .pure (some 4) false (.assign (.const (.slice none 0 0)))]
abbrev p_ref05_Hide_0 : List Nat := [0, 1]
def s_ref05_Hide_1 : List AStep := [.pure (some 5) false (.move (.tmp 1)), .pure (some 6) false (.call (.mk (.builtin .len) #[.tmp 5] #[25])), .pure (some 7) false (.binOp .gtr 3 (.tmp 6) (.const (.int .i64 32)) 3)]
abbrev p_ref05_Hide_1 : List Nat := [0, 1, 2]
def s_ref05_Hide_2 : List AStep := [.pure (some 4) false (.assign (.const (.slice none 0 0)))]
abbrev p_ref05_Hide_2 : List Nat := [0]
def s_ref05_Hide_3 : List AStep := [.pure (some 8) false (.move (.tmp 1)), .pure (some 9) false (.slice 33 (.tmp 2) none none none), .call (some 10) false ⟨.value (.func 24), #[.tmp 8, .tmp 9], #[25, 25]⟩, .pure (some 4) false (.assign (.tmp 10))]
abbrev p_ref05_Hide_3 : List Nat := [0, 1, 2, 3]

/-! erewhile/erewhileref05.LitPad -/
abbrev n_ref05_LitPad : Nat := 14
theorem func_ref05_LitPad : Try.prog.funcs[n_ref05_LitPad]? = some Try.f14 := Try.func14
theorem call_ref05_LitPad : ∀ args w, (callFunc n_ref05_LitPad args).run Try.prog w = .ok (.enter n_ref05_LitPad args) w := Try.call14
theorem nt_ref05_LitPad : Try.f14.ntmps = 42 := Try.ntmps14
theorem rs_ref05_LitPad : Try.f14.results.toList = [.cell 4 33] := by rw [Try.results14]
def s_ref05_LitPad_0 : List AStep := [.eff (some 2) (.box 23 (.tmp 0)), .eff (some 4) (.alloc 33)]
abbrev p_ref05_LitPad_0 : List Nat := [0, 1]
def s_ref05_LitPad_1 : List AStep := [.eff (some 5) (.alloc 33)]
abbrev p_ref05_LitPad_1 : List Nat := [0]
def s_ref05_LitPad_2 : List AStep := [.pure (some 8) false (.indexAddr 23 (.tmp 2) (.const (.int .i64 0))), .read (some 9) false (.load 5 (.tmp 8)), .pure (some 10) false (.convert 5 24 (.tmp 9)), .pure (some 11) false (.indexAddr 23 (.tmp 2) (.const (.int .i64 1))), .read (some 12) false (.load 5 (.tmp 11)), .pure (some 13) false (.convert 5 24 (.tmp 12)), .pure (some 14) false (.binOp .mul 24 (.const (.int .u64 256)) (.tmp 13) 24), .pure (some 15) false (.binOp .add 24 (.tmp 10) (.tmp 14) 24), .pure (some 16) false (.indexAddr 23 (.tmp 2) (.const (.int .i64 2))), .read (some 17) false (.load 5 (.tmp 16)), .pure (some 18) false (.convert 5 24 (.tmp 17)), .pure (some 19) false (.binOp .mul 24 (.const (.int .u64 65536)) (.tmp 18) 24), .pure (some 20) false (.binOp .add 24 (.tmp 15) (.tmp 19) 24), .pure (some 21) false (.binOp .add 24 (.tmp 20) (.const (.int .u64 7)) 24), .pure (some 6) false (.assign (.tmp 21))]
abbrev p_ref05_LitPad_2 : List Nat := [0, 1, 2, 3, 4, 5, 6, 7, 8, 9, 10, 11, 12, 13, 14]
def s_ref05_LitPad_3 : List AStep := [.pure (some 7) false (.assign (.const (.int .i64 0)))]
abbrev p_ref05_LitPad_3 : List Nat := [0]
def s_ref05_LitPad_4 : List AStep := [.pure (some 22) false (.move (.tmp 7)), .pure (some 23) false (.binOp .lss 3 (.tmp 22) (.const (.int .i64 32)) 3)]
abbrev p_ref05_LitPad_4 : List Nat := [0, 1]
def s_ref05_LitPad_6 : List AStep := [.pure (some 26) false (.move (.tmp 6)), .pure (some 27) false (.binOp .mul 24 (.tmp 26) (.const (.int .u64 6364136223846793005)) 24), .pure (some 28) false (.binOp .add 24 (.tmp 27) (.const (.int .u64 1442695040888963407)) 24), .pure (some 29) false (.move (.tmp 1)), .pure (some 30) false (.binOp .add 24 (.tmp 28) (.tmp 29) 24), .pure (some 31) false (.move (.tmp 7)), .pure (some 32) false (.indexAddr 23 (.tmp 2) (.tmp 31)), .read (some 33) false (.load 5 (.tmp 32)), .pure (some 34) false (.convert 5 24 (.tmp 33)), .pure (some 35) false (.binOp .add 24 (.tmp 30) (.tmp 34) 24), .pure (some 6) false (.assign (.tmp 35))]
abbrev p_ref05_LitPad_6 : List Nat := [0, 1, 2, 3, 4, 5, 6, 7, 8, 9, 10]
def s_ref05_LitPad_7 : List AStep := [.pure (some 36) false (.move (.tmp 7)), .pure (some 37) false (.move (.tmp 6)), .pure (some 38) false (.binOp .shr 24 (.tmp 37) (.const (.int .u64 56)) 54), .pure (some 39) false (.convert 24 5 (.tmp 38)), .pure (some 40) false (.indexAddr 33 (.tmp 5) (.tmp 36)), .eff none (.store 5 (.tmp 40) (.tmp 39))]
abbrev p_ref05_LitPad_7 : List Nat := [0, 1, 2, 3, 4, 5]
def s_ref05_LitPad_5 : List AStep := [.pure (some 24) false (.move (.tmp 7)), .pure (some 25) false (.binOp .add 3 (.tmp 24) (.const (.int .i64 1)) 3), .pure (some 7) false (.assign (.tmp 25))]
abbrev p_ref05_LitPad_5 : List Nat := [0, 1, 2]
def s_ref05_LitPad_8 : List AStep := [.read (some 41) false (.load 33 (.tmp 5)), .eff none (.store 33 (.tmp 4) (.tmp 41))]
abbrev p_ref05_LitPad_8 : List Nat := [0, 1]

/-! (erewhile/cipher.Real).Split -/
abbrev n_cipher_Real_Split : Nat := 15
theorem func_cipher_Real_Split : Try.prog.funcs[n_cipher_Real_Split]? = some Try.f15 := Try.func15
theorem call_cipher_Real_Split : ∀ args w, (callFunc n_cipher_Real_Split args).run Try.prog w = .ok (.enter n_cipher_Real_Split args) w := Try.call15
theorem nt_cipher_Real_Split : Try.f15.ntmps = 17 := Try.ntmps15
theorem rs_cipher_Real_Split : Try.f15.results.toList = [.cell 4 23, .cell 5 23] := by rw [Try.results15]
def s_cipher_Real_Split_0 : List AStep := [.eff (some 2) (.box 41 (.tmp 0)), .eff (some 3) (.box 23 (.tmp 1)), .eff (some 4) (.alloc 23), .eff (some 5) (.alloc 23)]
abbrev p_cipher_Real_Split_0 : List Nat := [0, 1, 2, 3]
def s_cipher_Real_Split_1 : List AStep := [.read (some 7) false (.load 23 (.tmp 3)), .call (some 8) false ⟨.value (.func 25), #[.tmp 7, .const (.int .u32 1), .const (.int .u64 0)], #[23, 57, 24]⟩, .eff (some 6) (.alloc 55), .eff none (.store 55 (.tmp 6) (.tmp 8))]
abbrev p_cipher_Real_Split_1 : List Nat := [0, 1, 2, 3]
def s_cipher_Real_Split_2 : SP := (.one (.pure (some 9) false (.slice 23 (.tmp 4) none none none)) (.one (.pure (some 10) false (.slice 55 (.tmp 6) none (some (.const (.int .i64 32))) none)) (.one (.eff (some 11) (.call (.mk (.builtin .copy) #[.tmp 9, .tmp 10] #[25, 25]))) .done)))
abbrev p_cipher_Real_Split_2 : PC := (.calm 0 4 (.calm 1 4 (.act 2 .done)))
abbrev g_cipher_Real_Split_2 : List Dg := [⟨0, 16, 512, .pure, true⟩, ⟨0, 64, 1024, .pure, true⟩, ⟨3, 1536, 2048, .eff, false⟩]
abbrev q_cipher_Real_Split_2 : List Nat := []
def s_cipher_Real_Split_3 : SP := (.one (.pure (some 12) false (.slice 23 (.tmp 5) none none none)) (.one (.pure (some 13) false (.slice 55 (.tmp 6) (some (.const (.int .i64 32))) none none)) (.one (.eff (some 14) (.call (.mk (.builtin .copy) #[.tmp 12, .tmp 13] #[25, 25]))) .done)))
abbrev p_cipher_Real_Split_3 : PC := (.calm 0 4 (.calm 1 4 (.act 2 .done)))
abbrev g_cipher_Real_Split_3 : List Dg := [⟨0, 32, 4096, .pure, true⟩, ⟨0, 64, 8192, .pure, true⟩, ⟨3, 12288, 16384, .eff, false⟩]
abbrev q_cipher_Real_Split_3 : List Nat := []
def s_cipher_Real_Split_4 : List AStep := [.read (some 15) false (.load 23 (.tmp 4)), .read (some 16) false (.load 23 (.tmp 5)), .eff none (.store 23 (.tmp 4) (.tmp 15)), .eff none (.store 23 (.tmp 5) (.tmp 16))]
abbrev p_cipher_Real_Split_4 : List Nat := [0, 1, 2, 3]

/-! erewhile/erewhileref05.Split -/
abbrev n_ref05_Split : Nat := 16
theorem func_ref05_Split : Try.prog.funcs[n_ref05_Split]? = some Try.f16 := Try.func16
theorem call_ref05_Split : ∀ args w, (callFunc n_ref05_Split args).run Try.prog w = .ok (.enter n_ref05_Split args) w := Try.call16
theorem nt_ref05_Split : Try.f16.ntmps = 27 := Try.ntmps16
theorem rs_ref05_Split : Try.f16.results.toList = [.cell 2 23, .cell 3 23] := by rw [Try.results16]
def s_ref05_Split_0 : List AStep := [.eff (some 1) (.box 23 (.tmp 0)), .eff (some 2) (.alloc 23), .eff (some 3) (.alloc 23)]
abbrev p_ref05_Split_0 : List Nat := [0, 1, 2]
def s_ref05_Split_1 : List AStep := [.read (some 8) false (.load 23 (.tmp 1)), .call (some 9) false ⟨.value (.func 26), #[.tmp 8, .const (.int .u32 1), .const (.int .u64 0)], #[22, 57, 24]⟩, .eff (some 4) (.alloc 55), .eff none (.store 55 (.tmp 4) (.tmp 9))]
abbrev p_ref05_Split_1 : List Nat := [0, 1, 2, 3]
def s_ref05_Split_2 : List AStep := [.eff (some 5) (.alloc 23)]
abbrev p_ref05_Split_2 : List Nat := [0]
def s_ref05_Split_3 : List AStep := [.eff (some 6) (.alloc 23)]
abbrev p_ref05_Split_3 : List Nat := [0]
def s_ref05_Split_4 : List AStep := [.pure (some 7) false (.assign (.const (.int .i64 0)))]
abbrev p_ref05_Split_4 : List Nat := [0]
def s_ref05_Split_5 : List AStep := [.pure (some 10) false (.move (.tmp 7)), .pure (some 11) false (.binOp .lss 3 (.tmp 10) (.const (.int .i64 32)) 3)]
abbrev p_ref05_Split_5 : List Nat := [0, 1]
def s_ref05_Split_7 : List AStep := [.pure (some 14) false (.move (.tmp 7)), .pure (some 15) false (.move (.tmp 7)), .pure (some 16) false (.indexAddr 55 (.tmp 4) (.tmp 15)), .read (some 17) false (.load 5 (.tmp 16)), .pure (some 18) false (.indexAddr 23 (.tmp 5) (.tmp 14)), .eff none (.store 5 (.tmp 18) (.tmp 17))]
abbrev p_ref05_Split_7 : List Nat := [0, 1, 2, 3, 4, 5]
def s_ref05_Split_8 : List AStep := [.pure (some 19) false (.move (.tmp 7)), .pure (some 20) false (.move (.tmp 7)), .pure (some 21) false (.binOp .add 3 (.const (.int .i64 32)) (.tmp 20) 3), .pure (some 22) false (.indexAddr 55 (.tmp 4) (.tmp 21)), .read (some 23) false (.load 5 (.tmp 22)), .pure (some 24) false (.indexAddr 23 (.tmp 6) (.tmp 19)), .eff none (.store 5 (.tmp 24) (.tmp 23))]
abbrev p_ref05_Split_8 : List Nat := [0, 1, 2, 3, 4, 5, 6]
def s_ref05_Split_6 : List AStep := [.pure (some 12) false (.move (.tmp 7)), .pure (some 13) false (.binOp .add 3 (.tmp 12) (.const (.int .i64 1)) 3), .pure (some 7) false (.assign (.tmp 13))]
abbrev p_ref05_Split_6 : List Nat := [0, 1, 2]
def s_ref05_Split_9 : SP := (.one (.read (some 25) false (.load 23 (.tmp 5))) (.two (.read (some 26) false (.load 23 (.tmp 6))) (.one (.eff none (.store 23 (.tmp 2) (.tmp 25))) (.one (.eff none (.store 23 (.tmp 3) (.tmp 26))) .done)) (.eff none (.store 23 (.tmp 2) (.tmp 25))) (.one (.read (some 26) false (.load 23 (.tmp 6))) (.one (.eff none (.store 23 (.tmp 3) (.tmp 26))) .done))))
abbrev p_ref05_Split_9 : PC := (.calm 0 12 (.fork 1 (.act 2 (.act 3 .done)) 2 (.calm 1 8 (.act 3 .done))))
abbrev g_ref05_Split_9 : List Dg := [⟨0, 32, 33554432, .read, true⟩, ⟨0, 64, 67108864, .read, true⟩, ⟨1, 33554436, 0, .eff, false⟩, ⟨7, 67108872, 0, .eff, false⟩]
abbrev q_ref05_Split_9 : List Nat := []

/-! (erewhile/cipher.Real).Pad -/
abbrev n_cipher_Real_Pad : Nat := 17
theorem func_cipher_Real_Pad : Try.prog.funcs[n_cipher_Real_Pad]? = some Try.f17 := Try.func17
theorem call_cipher_Real_Pad : ∀ args w, (callFunc n_cipher_Real_Pad args).run Try.prog w = .ok (.enter n_cipher_Real_Pad args) w := Try.call17
theorem nt_cipher_Real_Pad : Try.f17.ntmps = 16 := Try.ntmps17
theorem rs_cipher_Real_Pad : Try.f17.results.toList = [.cell 6 33] := by rw [Try.results17]
def s_cipher_Real_Pad_0 : List AStep := [.eff (some 3) (.box 41 (.tmp 0)), .eff (some 4) (.box 23 (.tmp 1)), .eff (some 6) (.alloc 33)]
abbrev p_cipher_Real_Pad_0 : List Nat := [0, 1, 2]
def s_cipher_Real_Pad_1 : List AStep := [.read (some 9) false (.load 23 (.tmp 4)), .pure (some 10) false (.move (.tmp 2)), .call (some 11) false ⟨.value (.func 25), #[.tmp 9, .const (.int .u32 0), .tmp 10], #[23, 57, 24]⟩, .eff (some 7) (.alloc 55), .eff none (.store 55 (.tmp 7) (.tmp 11))]
abbrev p_cipher_Real_Pad_1 : List Nat := [0, 1, 2, 3, 4]
def s_cipher_Real_Pad_2 : List AStep := [.eff (some 8) (.alloc 33)]
abbrev p_cipher_Real_Pad_2 : List Nat := [0]
def s_cipher_Real_Pad_3 : SP := (.one (.pure (some 12) false (.slice 33 (.tmp 8) none none none)) (.one (.pure (some 13) false (.slice 55 (.tmp 7) none none none)) (.one (.eff (some 14) (.call (.mk (.builtin .copy) #[.tmp 12, .tmp 13] #[25, 25]))) .done)))
abbrev p_cipher_Real_Pad_3 : PC := (.calm 0 4 (.calm 1 4 (.act 2 .done)))
abbrev g_cipher_Real_Pad_3 : List Dg := [⟨0, 256, 4096, .pure, true⟩, ⟨0, 128, 8192, .pure, true⟩, ⟨3, 12288, 16384, .eff, false⟩]
abbrev q_cipher_Real_Pad_3 : List Nat := []
def s_cipher_Real_Pad_4 : List AStep := [.read (some 15) false (.load 33 (.tmp 8)), .eff none (.store 33 (.tmp 6) (.tmp 15))]
abbrev p_cipher_Real_Pad_4 : List Nat := [0, 1]

/-! erewhile/erewhileref05.Pad -/
abbrev n_ref05_Pad : Nat := 18
theorem func_ref05_Pad : Try.prog.funcs[n_ref05_Pad]? = some Try.f18 := Try.func18
theorem call_ref05_Pad : ∀ args w, (callFunc n_ref05_Pad args).run Try.prog w = .ok (.enter n_ref05_Pad args) w := Try.call18
theorem nt_ref05_Pad : Try.f18.ntmps = 21 := Try.ntmps18
theorem rs_ref05_Pad : Try.f18.results.toList = [.cell 4 33] := by rw [Try.results18]
def s_ref05_Pad_0 : List AStep := [.eff (some 2) (.box 23 (.tmp 0)), .eff (some 4) (.alloc 33)]
abbrev p_ref05_Pad_0 : List Nat := [0, 1]
def s_ref05_Pad_1 : List AStep := [.read (some 8) false (.load 23 (.tmp 2)), .pure (some 9) false (.move (.tmp 1)), .call (some 10) false ⟨.value (.func 26), #[.tmp 8, .const (.int .u32 0), .tmp 9], #[22, 57, 24]⟩, .eff (some 5) (.alloc 55), .eff none (.store 55 (.tmp 5) (.tmp 10))]
abbrev p_ref05_Pad_1 : List Nat := [0, 1, 2, 3, 4]
def s_ref05_Pad_2 : List AStep := [.eff (some 6) (.alloc 33)]
abbrev p_ref05_Pad_2 : List Nat := [0]
def s_ref05_Pad_3 : List AStep := [.pure (some 7) false (.assign (.const (.int .i64 0)))]
abbrev p_ref05_Pad_3 : List Nat := [0]
def s_ref05_Pad_4 : List AStep := [.pure (some 11) false (.move (.tmp 7)), .pure (some 12) false (.binOp .lss 3 (.tmp 11) (.const (.int .i64 32)) 3)]
abbrev p_ref05_Pad_4 : List Nat := [0, 1]
def s_ref05_Pad_6 : List AStep := [.pure (some 15) false (.move (.tmp 7)), .pure (some 16) false (.move (.tmp 7)), .pure (some 17) false (.indexAddr 55 (.tmp 5) (.tmp 16)), .read (some 18) false (.load 5 (.tmp 17)), .pure (some 19) false (.indexAddr 33 (.tmp 6) (.tmp 15)), .eff none (.store 5 (.tmp 19) (.tmp 18))]
abbrev p_ref05_Pad_6 : List Nat := [0, 1, 2, 3, 4, 5]
def s_ref05_Pad_5 : List AStep := [.pure (some 13) false (.move (.tmp 7)), .pure (some 14) false (.binOp .add 3 (.tmp 13) (.const (.int .i64 1)) 3), .pure (some 7) false (.assign (.tmp 14))]
abbrev p_ref05_Pad_5 : List Nat := [0, 1, 2]
def s_ref05_Pad_7 : List AStep := [.read (some 20) false (.load 33 (.tmp 6)), .eff none (.store 33 (.tmp 4) (.tmp 20))]
abbrev p_ref05_Pad_7 : List Nat := [0, 1]

/-! erewhile/wire.Xor -/
abbrev n_wire_Xor : Nat := 19
theorem func_wire_Xor : Try.prog.funcs[n_wire_Xor]? = some Try.f19 := Try.func19
theorem call_wire_Xor : ∀ args w, (callFunc n_wire_Xor args).run Try.prog w = .ok (.enter n_wire_Xor args) w := Try.call19
theorem nt_wire_Xor : Try.f19.ntmps = 32 := Try.ntmps19
theorem rs_wire_Xor : Try.f19.results.toList = [.tmp 4] := by rw [Try.results19]
def s_wire_Xor_0 : List AStep := [.pure (some 4) false (.assign (.const (.slice none 0 0)))]
abbrev p_wire_Xor_0 : List Nat := [0]
def s_wire_Xor_1 : List AStep := [.pure (some 7) false (.move (.tmp 0)), .pure (some 8) false (.call (.mk (.builtin .len) #[.tmp 7] #[25])), .pure (some 9) false (.move (.tmp 1)), .pure (some 10) false (.call (.mk (.builtin .len) #[.tmp 9] #[25])), .pure (some 11) false (.call (.mk (.builtin .min) #[.tmp 8, .tmp 10] #[3, 3])), .eff (some 12) (.makeSlice 25 (.tmp 11) (.tmp 11)), .pure (some 5) false (.assign (.tmp 12))]
abbrev p_wire_Xor_1 : List Nat := [0, 1, 2, 3, 4, 5, 6]
def s_wire_Xor_2 : List AStep := [.pure (some 13) false (.move (.tmp 5)), .pure (some 14) false (.call (.mk (.builtin .len) #[.tmp 13] #[25])), .pure (some 15) false (.move (.const (.int .i64 0)))]
abbrev p_wire_Xor_2 : List Nat := [0, 1, 2]
def s_wire_Xor_3 : List AStep := [.pure (some 16) false (.binOp .lss 3 (.tmp 15) (.tmp 14) 3)]
abbrev p_wire_Xor_3 : List Nat := [0]
def s_wire_Xor_4 : List AStep := [.pure (some 17) false (.move (.tmp 15)), .pure (some 6) false (.assign (.tmp 17))]
abbrev p_wire_Xor_4 : List Nat := [0, 1]
def s_wire_Xor_5 : SP := (.one (.pure (some 18) false (.move (.tmp 5))) (.one (.pure (some 19) false (.move (.tmp 6))) (.one (.pure (some 20) false (.move (.tmp 0))) (.one (.pure (some 21) false (.move (.tmp 6))) (.one (.pure (some 22) false (.indexAddr 25 (.tmp 20) (.tmp 21))) (.one (.pure (some 24) false (.move (.tmp 1))) (.one (.pure (some 25) false (.move (.tmp 6))) (.one (.pure (some 26) false (.indexAddr 25 (.tmp 24) (.tmp 25))) (.one (.read (some 23) false (.load 5 (.tmp 22))) (.one (.read (some 27) false (.load 5 (.tmp 26))) (.one (.pure (some 28) false (.binOp .xor 5 (.tmp 23) (.tmp 27) 5)) (.one (.pure (some 29) false (.indexAddr 25 (.tmp 18) (.tmp 19))) (.one (.eff none (.store 5 (.tmp 29) (.tmp 28))) .done)))))))))))))
abbrev p_wire_Xor_5 : PC := (.calm 0 6144 (.calm 1 6144 (.calm 2 7216 (.calm 3 7216 (.calm 4 7200 (.calm 6 7936 (.calm 7 7936 (.calm 8 7680 (.calm 5 7168 (.calm 9 7168 (.calm 10 6144 (.calm 11 4096 (.act 12 .done)))))))))))))
abbrev g_wire_Xor_5 : List Dg := [⟨0, 32, 262144, .pure, true⟩, ⟨0, 64, 524288, .pure, true⟩, ⟨0, 1, 1048576, .pure, true⟩, ⟨0, 64, 2097152, .pure, true⟩, ⟨12, 3145728, 4194304, .pure, true⟩, ⟨16, 4194304, 8388608, .read, true⟩, ⟨0, 2, 16777216, .pure, true⟩, ⟨0, 64, 33554432, .pure, true⟩, ⟨192, 50331648, 67108864, .pure, true⟩, ⟨256, 67108864, 134217728, .read, true⟩, ⟨544, 142606336, 268435456, .pure, true⟩, ⟨2047, 786432, 536870912, .pure, true⟩, ⟨4095, 805306368, 0, .eff, false⟩]
abbrev q_wire_Xor_5 : List Nat := []
def s_wire_Xor_6 : List AStep := [.pure (some 30) false (.binOp .add 3 (.tmp 15) (.const (.int .i64 1)) 3), .pure (some 15) false (.move (.tmp 30))]
abbrev p_wire_Xor_6 : List Nat := [0, 1]
def s_wire_Xor_7 : List AStep := [.pure (some 31) false (.move (.tmp 5)), .pure (some 4) false (.assign (.tmp 31))]
abbrev p_wire_Xor_7 : List Nat := [0, 1]

/-! erewhile/chacha.Stream -/
abbrev n_chacha_Stream : Nat := 20
theorem func_chacha_Stream : Try.prog.funcs[n_chacha_Stream]? = some Try.f20 := Try.func20
theorem call_chacha_Stream : ∀ args w, (callFunc n_chacha_Stream args).run Try.prog w = .ok (.enter n_chacha_Stream args) w := Try.call20
theorem nt_chacha_Stream : Try.f20.ntmps = 36 := Try.ntmps20
theorem rs_chacha_Stream : Try.f20.results.toList = [.tmp 6] := by rw [Try.results20]
def s_chacha_Stream_0 : List AStep := [.eff (some 3) (.box 23 (.tmp 0)), .pure (some 6) false (.assign (.const (.slice none 0 0)))]
abbrev p_chacha_Stream_0 : List Nat := [0, 1]
def s_chacha_Stream_1 : List AStep := [.pure (some 10) false (.move (.tmp 2)), .pure (some 11) false (.binOp .lss 3 (.tmp 10) (.const (.int .i64 1)) 3), .pure (some 12) true (.move (.tmp 11)), .guard 12 false (.pure (some 13) false (.move (.tmp 2))), .guard 12 false (.pure (some 14) false (.binOp .gtr 3 (.tmp 13) (.const (.int .i64 65536)) 3)), .pure (some 15) false (.pick (.tmp 12) (.const (.bool true)) (.tmp 14))]
abbrev p_chacha_Stream_1 : List Nat := [0, 1, 2, 3, 4, 5]
def s_chacha_Stream_2 : List AStep := [.pure (some 6) false (.assign (.const (.slice none 0 0)))]
abbrev p_chacha_Stream_2 : List Nat := [0]
def s_chacha_Stream_3 : List AStep := [.pure (some 16) false (.move (.tmp 2)), .pure (some 17) false (.binOp .add 3 (.tmp 16) (.const (.int .i64 64)) 3), .eff (some 18) (.makeSlice 25 (.const (.int .i64 0)) (.tmp 17)), .pure (some 7) false (.assign (.tmp 18))]
abbrev p_chacha_Stream_3 : List Nat := [0, 1, 2, 3]
def s_chacha_Stream_4 : List AStep := [.pure (some 8) false (.assign (.const (.int .u32 0)))]
abbrev p_chacha_Stream_4 : List Nat := [0]
def s_chacha_Stream_5 : List AStep := [.pure (some 19) false (.move (.tmp 7)), .pure (some 20) false (.call (.mk (.builtin .len) #[.tmp 19] #[25])), .pure (some 21) false (.move (.tmp 2)), .pure (some 22) false (.binOp .lss 3 (.tmp 20) (.tmp 21) 3)]
abbrev p_chacha_Stream_5 : List Nat := [0, 1, 2, 3]
def s_chacha_Stream_7 : List AStep := [.read (some 25) false (.load 23 (.tmp 3)), .pure (some 26) false (.move (.tmp 8)), .pure (some 27) false (.move (.tmp 1)), .call (some 28) false ⟨.value (.func 25), #[.tmp 25, .tmp 26, .tmp 27], #[23, 57, 24]⟩, .eff (some 9) (.alloc 55), .eff none (.store 55 (.tmp 9) (.tmp 28))]
abbrev p_chacha_Stream_7 : List Nat := [0, 1, 2, 3, 4, 5]
def s_chacha_Stream_8 : List AStep := [.pure (some 29) false (.move (.tmp 7)), .pure (some 30) false (.slice 55 (.tmp 9) none none none), .eff (some 31) (.call (.mk (.builtin .append) #[.tmp 29, .tmp 30] #[25, 25])), .pure (some 7) false (.assign (.tmp 31))]
abbrev p_chacha_Stream_8 : List Nat := [0, 1, 2, 3]
def s_chacha_Stream_6 : List AStep := [.pure (some 23) false (.move (.tmp 8)), .pure (some 24) false (.binOp .add 57 (.tmp 23) (.const (.int .u32 1)) 57), .pure (some 8) false (.assign (.tmp 24))]
abbrev p_chacha_Stream_6 : List Nat := [0, 1, 2]
def s_chacha_Stream_9 : List AStep := [.pure (some 32) false (.move (.tmp 7)), .pure (some 33) false (.move (.tmp 2)), .pure (some 34) false (.move (.tmp 2)), .pure (some 35) false (.slice 25 (.tmp 32) none (some (.tmp 33)) (some (.tmp 34))), .pure (some 6) false (.assign (.tmp 35))]
abbrev p_chacha_Stream_9 : List Nat := [0, 1, 2, 3, 4]

/-! (erewhile/cipher.Real).Sum -/
abbrev n_cipher_Real_Sum : Nat := 21
theorem func_cipher_Real_Sum : Try.prog.funcs[n_cipher_Real_Sum]? = some Try.f21 := Try.func21
theorem call_cipher_Real_Sum : ∀ args w, (callFunc n_cipher_Real_Sum args).run Try.prog w = .ok (.enter n_cipher_Real_Sum args) w := Try.call21
theorem nt_cipher_Real_Sum : Try.f21.ntmps = 10 := Try.ntmps21
theorem rs_cipher_Real_Sum : Try.f21.results.toList = [.cell 6 48] := by rw [Try.results21]
def s_cipher_Real_Sum_0 : List AStep := [.eff (some 3) (.box 41 (.tmp 0)), .eff (some 4) (.box 23 (.tmp 1)), .eff (some 6) (.alloc 48)]
abbrev p_cipher_Real_Sum_0 : List Nat := [0, 1, 2]
def s_cipher_Real_Sum_1 : List AStep := [.read (some 7) false (.load 23 (.tmp 4)), .pure (some 8) false (.move (.tmp 2)), .call (some 9) false ⟨.value (.func 27), #[.tmp 7, .tmp 8], #[23, 25]⟩, .eff none (.store 48 (.tmp 6) (.tmp 9))]
abbrev p_cipher_Real_Sum_1 : List Nat := [0, 1, 2, 3]

/-! erewhile/sha.Sum -/
abbrev n_sha_Sum : Nat := 23
theorem func_sha_Sum : Try.prog.funcs[n_sha_Sum]? = some Try.f23 := Try.func23
theorem call_sha_Sum : ∀ args w, (callFunc n_sha_Sum args).run Try.prog w = .ok (.enter n_sha_Sum args) w := Try.call23
theorem nt_sha_Sum : Try.f23.ntmps = 38 := Try.ntmps23
theorem rs_sha_Sum : Try.f23.results.toList = [.cell 2 23] := by rw [Try.results23]
def s_sha_Sum_0 : List AStep := [.eff (some 2) (.alloc 23)]
abbrev p_sha_Sum_0 : List Nat := [0]
def s_sha_Sum_1 : List AStep := [.call (some 7) false ⟨.value (.func 29), #[], #[]⟩, .eff (some 3) (.alloc 59), .eff none (.store 59 (.tmp 3) (.tmp 7))]
abbrev p_sha_Sum_1 : List Nat := [0, 1, 2]
def s_sha_Sum_2 : List AStep := [.pure (some 8) false (.move (.tmp 0)), .call (some 9) false ⟨.value (.func 30), #[.tmp 8], #[25]⟩, .pure (some 4) false (.assign (.tmp 9))]
abbrev p_sha_Sum_2 : List Nat := [0, 1, 2]
def s_sha_Sum_3 : List AStep := [.pure (some 10) false (.move (.tmp 4)), .pure (some 11) false (.call (.mk (.builtin .len) #[.tmp 10] #[25])), .pure (some 12) false (.binOp .gtr 3 (.tmp 11) (.const (.int .i64 0)) 3)]
abbrev p_sha_Sum_3 : List Nat := [0, 1, 2]
def s_sha_Sum_5 : SP := (.one (.pure (some 16) false (.move (.tmp 4))) (.one (.pure (some 17) false (.slice 25 (.tmp 16) none (some (.const (.int .i64 64))) none)) (.one (.pure (some 18) false (.sliceToArrayPointer 55 (.tmp 17))) (.one (.read (some 15) false (.load 59 (.tmp 3))) (.one (.read (some 19) false (.load 55 (.tmp 18))) (.one (.call (some 20) false ⟨.value (.func 31), #[.tmp 15, .tmp 19], #[59, 55]⟩) (.one (.eff none (.store 59 (.tmp 3) (.tmp 20))) .done)))))))
abbrev p_sha_Sum_5 : PC := (.calm 1 124 (.calm 2 120 (.calm 3 112 (.calm 0 96 (.calm 4 96 (.act 5 (.act 6 .done)))))))
abbrev g_sha_Sum_5 : List Dg := [⟨0, 8, 32768, .read, true⟩, ⟨0, 16, 65536, .pure, true⟩, ⟨2, 65536, 131072, .pure, true⟩, ⟨4, 131072, 262144, .pure, true⟩, ⟨8, 262144, 524288, .read, true⟩, ⟨17, 557056, 1048576, .call, true⟩, ⟨63, 1048584, 0, .eff, false⟩]
abbrev q_sha_Sum_5 : List Nat := []
def s_sha_Sum_4 : List AStep := [.pure (some 13) false (.move (.tmp 4)), .pure (some 14) false (.slice 25 (.tmp 13) (some (.const (.int .i64 64))) none none), .pure (some 4) false (.assign (.tmp 14))]
abbrev p_sha_Sum_4 : List Nat := [0, 1, 2]
def s_sha_Sum_6 : List AStep := [.eff (some 5) (.alloc 23)]
abbrev p_sha_Sum_6 : List Nat := [0]
def s_sha_Sum_7 : List AStep := [.pure (some 21) false (.move (.const (.int .i64 0)))]
abbrev p_sha_Sum_7 : List Nat := [0]
def s_sha_Sum_8 : List AStep := [.pure (some 22) false (.binOp .lss 3 (.tmp 21) (.const (.int .i64 32)) 3)]
abbrev p_sha_Sum_8 : List Nat := [0]
def s_sha_Sum_9 : List AStep := [.pure (some 23) false (.move (.tmp 21)), .pure (some 6) false (.assign (.tmp 23))]
abbrev p_sha_Sum_9 : List Nat := [0, 1]
def s_sha_Sum_10 : List AStep := [.pure (some 24) false (.move (.tmp 6)), .pure (some 25) false (.move (.tmp 6)), .pure (some 26) false (.binOp .quo 3 (.tmp 25) (.const (.int .i64 4)) 3), .pure (some 27) false (.indexAddr 59 (.tmp 3) (.tmp 26)), .read (some 28) false (.load 57 (.tmp 27)), .pure (some 29) false (.move (.tmp 6)), .pure (some 30) false (.binOp .rem 3 (.tmp 29) (.const (.int .i64 4)) 3), .pure (some 31) false (.binOp .mul 3 (.const (.int .i64 8)) (.tmp 30) 3), .pure (some 32) false (.binOp .sub 3 (.const (.int .i64 24)) (.tmp 31) 3), .pure (some 33) false (.binOp .shr 57 (.tmp 28) (.tmp 32) 3), .pure (some 34) false (.convert 57 5 (.tmp 33)), .pure (some 35) false (.indexAddr 23 (.tmp 5) (.tmp 24)), .eff none (.store 5 (.tmp 35) (.tmp 34))]
abbrev p_sha_Sum_10 : List Nat := [0, 1, 2, 3, 4, 5, 6, 7, 8, 9, 10, 11, 12]
def s_sha_Sum_11 : List AStep := [.pure (some 36) false (.binOp .add 3 (.tmp 21) (.const (.int .i64 1)) 3), .pure (some 21) false (.move (.tmp 36))]
abbrev p_sha_Sum_11 : List Nat := [0, 1]
def s_sha_Sum_12 : List AStep := [.read (some 37) false (.load 23 (.tmp 5)), .eff none (.store 23 (.tmp 2) (.tmp 37))]
abbrev p_sha_Sum_12 : List Nat := [0, 1]

/-! erewhile/erewhileref01.Xor -/
abbrev n_ref01_Xor : Nat := 24
theorem func_ref01_Xor : Try.prog.funcs[n_ref01_Xor]? = some Try.f24 := Try.func24
theorem call_ref01_Xor : ∀ args w, (callFunc n_ref01_Xor args).run Try.prog w = .ok (.enter n_ref01_Xor args) w := Try.call24
theorem nt_ref01_Xor : Try.f24.ntmps = 55 := Try.ntmps24
theorem rs_ref01_Xor : Try.f24.results.toList = [.tmp 4] := by rw [Try.results24]
def s_ref01_Xor_0 : List AStep := [.pure (some 4) false (.assign (.const (.slice none 0 0)))]
abbrev p_ref01_Xor_0 : List Nat := [0]
def s_ref01_Xor_1 : List AStep := [.pure (some 5) false (.assign (.const (.slice none 0 0)))]
abbrev p_ref01_Xor_1 : List Nat := [0]
def s_ref01_Xor_2 : List AStep := [.pure (some 6) false (.assign (.const (.int .i64 0)))]
abbrev p_ref01_Xor_2 : List Nat := [0]
def s_ref01_Xor_3 : List AStep := [.pure (some 12) false (.move (.tmp 6)), .pure (some 13) false (.move (.tmp 0)), .pure (some 14) false (.call (.mk (.builtin .len) #[.tmp 13] #[25])), .pure (some 15) false (.binOp .lss 3 (.tmp 12) (.tmp 14) 3), .pure (some 16) true (.move (.tmp 15)), .guard 16 true (.pure (some 17) false (.move (.tmp 6))), .guard 16 true (.pure (some 18) false (.move (.tmp 1))), .guard 16 true (.pure (some 19) false (.call (.mk (.builtin .len) #[.tmp 18] #[25]))), .guard 16 true (.pure (some 20) false (.binOp .lss 3 (.tmp 17) (.tmp 19) 3)), .pure (some 21) false (.pick (.tmp 16) (.tmp 20) (.const (.bool false)))]
abbrev p_ref01_Xor_3 : List Nat := [0, 1, 2, 3, 4, 5, 6, 7, 8, 9]
def s_ref01_Xor_5 : List AStep := [.pure (some 24) false (.move (.tmp 0)), .pure (some 25) false (.move (.tmp 6)), .pure (some 26) false (.indexAddr 25 (.tmp 24) (.tmp 25)), .read (some 27) false (.load 5 (.tmp 26)), .pure (some 7) false (.assign (.tmp 27))]
abbrev p_ref01_Xor_5 : List Nat := [0, 1, 2, 3, 4]
def s_ref01_Xor_6 : List AStep := [.pure (some 28) false (.move (.tmp 1)), .pure (some 29) false (.move (.tmp 6)), .pure (some 30) false (.indexAddr 25 (.tmp 28) (.tmp 29)), .read (some 31) false (.load 5 (.tmp 30)), .pure (some 8) false (.assign (.tmp 31))]
abbrev p_ref01_Xor_6 : List Nat := [0, 1, 2, 3, 4]
def s_ref01_Xor_7 : List AStep := [.pure (some 9) false (.assign (.const (.int .u8 0)))]
abbrev p_ref01_Xor_7 : List Nat := [0]
def s_ref01_Xor_8 : List AStep := [.pure (some 10) false (.assign (.const (.int .u8 1)))]
abbrev p_ref01_Xor_8 : List Nat := [0]
def s_ref01_Xor_9 : List AStep := [.pure (some 11) false (.assign (.const (.int .i64 0)))]
abbrev p_ref01_Xor_9 : List Nat := [0]
def s_ref01_Xor_10 : List AStep := [.pure (some 32) false (.move (.tmp 11)), .pure (some 33) false (.binOp .lss 3 (.tmp 32) (.const (.int .i64 8)) 3)]
abbrev p_ref01_Xor_10 : List Nat := [0, 1]
def s_ref01_Xor_12 : List AStep := [.pure (some 36) false (.move (.tmp 7)), .pure (some 37) false (.binOp .rem 5 (.tmp 36) (.const (.int .u8 2)) 5), .pure (some 38) false (.move (.tmp 8)), .pure (some 39) false (.binOp .rem 5 (.tmp 38) (.const (.int .u8 2)) 5), .pure (some 40) false (.binOp .neq 5 (.tmp 37) (.tmp 39) 5)]
abbrev p_ref01_Xor_12 : List Nat := [0, 1, 2, 3, 4]
def s_ref01_Xor_13 : List AStep := [.pure (some 41) false (.move (.tmp 9)), .pure (some 42) false (.move (.tmp 10)), .pure (some 43) false (.binOp .add 5 (.tmp 41) (.tmp 42) 5), .pure (some 9) false (.assign (.tmp 43))]
abbrev p_ref01_Xor_13 : List Nat := [0, 1, 2, 3]
def s_ref01_Xor_14 : List AStep := [.pure (some 44) false (.move (.tmp 7)), .pure (some 45) false (.binOp .quo 5 (.tmp 44) (.const (.int .u8 2)) 5), .pure (some 7) false (.assign (.tmp 45))]
abbrev p_ref01_Xor_14 : List Nat := [0, 1, 2]
def s_ref01_Xor_15 : List AStep := [.pure (some 46) false (.move (.tmp 8)), .pure (some 47) false (.binOp .quo 5 (.tmp 46) (.const (.int .u8 2)) 5), .pure (some 8) false (.assign (.tmp 47))]
abbrev p_ref01_Xor_15 : List Nat := [0, 1, 2]
def s_ref01_Xor_16 : List AStep := [.pure (some 48) false (.move (.tmp 10)), .pure (some 49) false (.binOp .mul 5 (.tmp 48) (.const (.int .u8 2)) 5), .pure (some 10) false (.assign (.tmp 49))]
abbrev p_ref01_Xor_16 : List Nat := [0, 1, 2]
def s_ref01_Xor_11 : List AStep := [.pure (some 34) false (.move (.tmp 11)), .pure (some 35) false (.binOp .add 3 (.tmp 34) (.const (.int .i64 1)) 3), .pure (some 11) false (.assign (.tmp 35))]
abbrev p_ref01_Xor_11 : List Nat := [0, 1, 2]
def s_ref01_Xor_17 : List AStep := [.pure (some 50) false (.move (.tmp 5)), .pure (some 51) false (.move (.tmp 9)), .eff (some 52) (.buildSlice 25 1 #[(0, .tmp 51)]), .eff (some 53) (.call (.mk (.builtin .append) #[.tmp 50, .tmp 52] #[25, 25])), .pure (some 5) false (.assign (.tmp 53))]
abbrev p_ref01_Xor_17 : List Nat := [0, 1, 2, 3, 4]
def s_ref01_Xor_4 : List AStep := [.pure (some 22) false (.move (.tmp 6)), .pure (some 23) false (.binOp .add 3 (.tmp 22) (.const (.int .i64 1)) 3), .pure (some 6) false (.assign (.tmp 23))]
abbrev p_ref01_Xor_4 : List Nat := [0, 1, 2]
def s_ref01_Xor_18 : List AStep := [.pure (some 54) false (.move (.tmp 5)), .pure (some 4) false (.assign (.tmp 54))]
abbrev p_ref01_Xor_18 : List Nat := [0, 1]

/-! erewhile/chacha.Block -/
abbrev n_chacha_Block : Nat := 25
theorem func_chacha_Block : Try.prog.funcs[n_chacha_Block]? = some Try.f25 := Try.func25
theorem call_chacha_Block : ∀ args w, (callFunc n_chacha_Block args).run Try.prog w = .ok (.enter n_chacha_Block args) w := Try.call25
theorem nt_chacha_Block : Try.f25.ntmps = 38 := Try.ntmps25
theorem rs_chacha_Block : Try.f25.results.toList = [.cell 6 55] := by rw [Try.results25]
def s_chacha_Block_0 : List AStep := [.eff (some 3) (.box 23 (.tmp 0)), .eff (some 6) (.alloc 55)]
abbrev p_chacha_Block_0 : List Nat := [0, 1]
def s_chacha_Block_1 : List AStep := [.read (some 11) false (.load 23 (.tmp 3)), .pure (some 12) false (.move (.tmp 1)), .pure (some 13) false (.move (.tmp 2)), .call (some 14) false ⟨.value (.func 32), #[.tmp 11, .tmp 12, .tmp 13], #[23, 57, 24]⟩, .eff (some 7) (.alloc 63), .eff none (.store 63 (.tmp 7) (.tmp 14))]
abbrev p_chacha_Block_1 : List Nat := [0, 1, 2, 3, 4, 5]
def s_chacha_Block_2 : List AStep := [.read (some 15) false (.load 63 (.tmp 7)), .call (some 16) false ⟨.value (.func 33), #[.tmp 15], #[63]⟩, .eff (some 8) (.alloc 63), .eff none (.store 63 (.tmp 8) (.tmp 16))]
abbrev p_chacha_Block_2 : List Nat := [0, 1, 2, 3]
def s_chacha_Block_3 : List AStep := [.eff (some 9) (.alloc 55)]
abbrev p_chacha_Block_3 : List Nat := [0]
def s_chacha_Block_4 : List AStep := [.pure (some 17) false (.move (.const (.int .i64 0)))]
abbrev p_chacha_Block_4 : List Nat := [0]
def s_chacha_Block_5 : List AStep := [.pure (some 18) false (.binOp .lss 3 (.tmp 17) (.const (.int .i64 64)) 3)]
abbrev p_chacha_Block_5 : List Nat := [0]
def s_chacha_Block_6 : List AStep := [.pure (some 19) false (.move (.tmp 17)), .pure (some 10) false (.assign (.tmp 19))]
abbrev p_chacha_Block_6 : List Nat := [0, 1]
def s_chacha_Block_7 : SP := (.one (.pure (some 20) false (.move (.tmp 10))) (.one (.pure (some 21) false (.move (.tmp 10))) (.one (.pure (some 22) false (.binOp .quo 3 (.tmp 21) (.const (.int .i64 4)) 3)) (.one (.pure (some 23) false (.indexAddr 63 (.tmp 7) (.tmp 22))) (.one (.pure (some 25) false (.move (.tmp 10))) (.one (.pure (some 26) false (.binOp .quo 3 (.tmp 25) (.const (.int .i64 4)) 3)) (.one (.pure (some 27) false (.indexAddr 63 (.tmp 8) (.tmp 26))) (.one (.pure (some 30) false (.move (.tmp 10))) (.one (.pure (some 31) false (.binOp .rem 3 (.tmp 30) (.const (.int .i64 4)) 3)) (.one (.pure (some 32) false (.binOp .mul 3 (.const (.int .i64 8)) (.tmp 31) 3)) (.one (.read (some 24) false (.load 57 (.tmp 23))) (.one (.read (some 28) false (.load 57 (.tmp 27))) (.one (.pure (some 29) false (.binOp .add 57 (.tmp 24) (.tmp 28) 57)) (.one (.pure (some 33) false (.binOp .shr 57 (.tmp 29) (.tmp 32) 3)) (.one (.pure (some 34) false (.convert 57 5 (.tmp 33))) (.one (.pure (some 35) false (.indexAddr 55 (.tmp 9) (.tmp 20))) (.one (.eff none (.store 5 (.tmp 35) (.tmp 34))) .done)))))))))))))))))
abbrev p_chacha_Block_7 : PC := (.calm 0 98304 (.calm 1 123420 (.calm 2 123416 (.calm 3 123408 (.calm 5 123840 (.calm 6 123776 (.calm 7 123648 (.calm 10 129024 (.calm 11 126976 (.calm 12 122880 (.calm 4 123392 (.calm 8 123392 (.calm 9 122880 (.calm 13 114688 (.calm 14 98304 (.calm 15 65536 (.act 16 .done)))))))))))))))))
abbrev g_chacha_Block_7 : List Dg := [⟨0, 1024, 1048576, .pure, true⟩, ⟨0, 1024, 2097152, .pure, true⟩, ⟨2, 2097152, 4194304, .pure, true⟩, ⟨4, 4194432, 8388608, .pure, true⟩, ⟨8, 8388608, 16777216, .read, true⟩, ⟨0, 1024, 33554432, .pure, true⟩, ⟨32, 33554432, 67108864, .pure, true⟩, ⟨64, 67109120, 134217728, .pure, true⟩, ⟨128, 134217728, 268435456, .read, true⟩, ⟨272, 285212672, 536870912, .pure, true⟩, ⟨0, 1024, 1073741824, .pure, true⟩, ⟨1024, 1073741824, 2147483648, .pure, true⟩, ⟨2048, 2147483648, 4294967296, .pure, true⟩, ⟨4608, 4831838208, 8589934592, .pure, true⟩, ⟨8192, 8589934592, 17179869184, .pure, true⟩, ⟨32767, 1049088, 34359738368, .pure, true⟩, ⟨65535, 51539607552, 0, .eff, false⟩]
abbrev q_chacha_Block_7 : List Nat := []
def s_chacha_Block_8 : List AStep := [.pure (some 36) false (.binOp .add 3 (.tmp 17) (.const (.int .i64 1)) 3), .pure (some 17) false (.move (.tmp 36))]
abbrev p_chacha_Block_8 : List Nat := [0, 1]
def s_chacha_Block_9 : List AStep := [.read (some 37) false (.load 55 (.tmp 9)), .eff none (.store 55 (.tmp 6) (.tmp 37))]
abbrev p_chacha_Block_9 : List Nat := [0, 1]

/-! erewhile/erewhileref02.Block -/
abbrev n_ref02_Block : Nat := 26
theorem func_ref02_Block : Try.prog.funcs[n_ref02_Block]? = some Try.f26 := Try.func26
theorem call_ref02_Block : ∀ args w, (callFunc n_ref02_Block args).run Try.prog w = .ok (.enter n_ref02_Block args) w := Try.call26
theorem nt_ref02_Block : Try.f26.ntmps = 39 := Try.ntmps26
theorem rs_ref02_Block : Try.f26.results.toList = [.cell 6 55] := by rw [Try.results26]
def s_ref02_Block_0 : List AStep := [.eff (some 3) (.box 22 (.tmp 0)), .eff (some 6) (.alloc 55)]
abbrev p_ref02_Block_0 : List Nat := [0, 1]
def s_ref02_Block_1 : List AStep := [.read (some 11) false (.load 22 (.tmp 3)), .pure (some 12) false (.move (.tmp 1)), .pure (some 13) false (.move (.tmp 2)), .call (some 14) false ⟨.value (.func 34), #[.tmp 11, .tmp 12, .tmp 13], #[22, 57, 24]⟩, .eff (some 7) (.alloc 63), .eff none (.store 63 (.tmp 7) (.tmp 14))]
abbrev p_ref02_Block_1 : List Nat := [0, 1, 2, 3, 4, 5]
def s_ref02_Block_2 : List AStep := [.read (some 15) false (.load 63 (.tmp 7)), .call (some 16) false ⟨.value (.func 35), #[.tmp 15], #[63]⟩, .eff (some 8) (.alloc 63), .eff none (.store 63 (.tmp 8) (.tmp 16))]
abbrev p_ref02_Block_2 : List Nat := [0, 1, 2, 3]
def s_ref02_Block_3 : List AStep := [.eff (some 9) (.alloc 55)]
abbrev p_ref02_Block_3 : List Nat := [0]
def s_ref02_Block_4 : List AStep := [.pure (some 10) false (.assign (.const (.int .i64 0)))]
abbrev p_ref02_Block_4 : List Nat := [0]
def s_ref02_Block_5 : List AStep := [.pure (some 17) false (.move (.tmp 10)), .pure (some 18) false (.binOp .lss 3 (.tmp 17) (.const (.int .i64 64)) 3)]
abbrev p_ref02_Block_5 : List Nat := [0, 1]
def s_ref02_Block_7 : SP := (.one (.pure (some 21) false (.move (.tmp 10))) (.one (.pure (some 22) false (.move (.tmp 10))) (.one (.pure (some 23) false (.binOp .quo 3 (.tmp 22) (.const (.int .i64 4)) 3)) (.one (.pure (some 24) false (.indexAddr 63 (.tmp 7) (.tmp 23))) (.one (.pure (some 26) false (.move (.tmp 10))) (.one (.pure (some 27) false (.binOp .quo 3 (.tmp 26) (.const (.int .i64 4)) 3)) (.one (.pure (some 28) false (.indexAddr 63 (.tmp 8) (.tmp 27))) (.one (.pure (some 31) false (.move (.tmp 10))) (.one (.pure (some 32) false (.binOp .rem 3 (.tmp 31) (.const (.int .i64 4)) 3)) (.one (.pure (some 33) false (.binOp .mul 3 (.const (.int .i64 8)) (.tmp 32) 3)) (.one (.pure (some 34) false (.convert 3 54 (.tmp 33))) (.one (.read (some 25) false (.load 57 (.tmp 24))) (.one (.read (some 29) false (.load 57 (.tmp 28))) (.one (.pure (some 30) false (.binOp .add 57 (.tmp 25) (.tmp 29) 57)) (.one (.pure (some 35) false (.binOp .shr 57 (.tmp 30) (.tmp 34) 54)) (.one (.pure (some 36) false (.convert 57 5 (.tmp 35))) (.one (.pure (some 37) false (.indexAddr 55 (.tmp 9) (.tmp 21))) (.one (.eff none (.store 5 (.tmp 37) (.tmp 36))) .done))))))))))))))))))
abbrev p_ref02_Block_7 : PC := (.calm 0 196608 (.calm 1 246300 (.calm 2 246296 (.calm 3 246288 (.calm 5 246720 (.calm 6 246656 (.calm 7 246528 (.calm 10 260096 (.calm 11 258048 (.calm 12 253952 (.calm 13 245760 (.calm 4 246272 (.calm 8 246272 (.calm 9 245760 (.calm 14 229376 (.calm 15 196608 (.calm 16 131072 (.act 17 .done))))))))))))))))))
abbrev g_ref02_Block_7 : List Dg := [⟨0, 1024, 2097152, .pure, true⟩, ⟨0, 1024, 4194304, .pure, true⟩, ⟨2, 4194304, 8388608, .pure, true⟩, ⟨4, 8388736, 16777216, .pure, true⟩, ⟨8, 16777216, 33554432, .read, true⟩, ⟨0, 1024, 67108864, .pure, true⟩, ⟨32, 67108864, 134217728, .pure, true⟩, ⟨64, 134217984, 268435456, .pure, true⟩, ⟨128, 268435456, 536870912, .read, true⟩, ⟨272, 570425344, 1073741824, .pure, true⟩, ⟨0, 1024, 2147483648, .pure, true⟩, ⟨1024, 2147483648, 4294967296, .pure, true⟩, ⟨2048, 4294967296, 8589934592, .pure, true⟩, ⟨4096, 8589934592, 17179869184, .pure, true⟩, ⟨8704, 18253611008, 34359738368, .pure, true⟩, ⟨16384, 34359738368, 68719476736, .pure, true⟩, ⟨65535, 2097664, 137438953472, .pure, true⟩, ⟨131071, 206158430208, 0, .eff, false⟩]
abbrev q_ref02_Block_7 : List Nat := []
def s_ref02_Block_6 : List AStep := [.pure (some 19) false (.move (.tmp 10)), .pure (some 20) false (.binOp .add 3 (.tmp 19) (.const (.int .i64 1)) 3), .pure (some 10) false (.assign (.tmp 20))]
abbrev p_ref02_Block_6 : List Nat := [0, 1, 2]
def s_ref02_Block_8 : List AStep := [.read (some 38) false (.load 55 (.tmp 9)), .eff none (.store 55 (.tmp 6) (.tmp 38))]
abbrev p_ref02_Block_8 : List Nat := [0, 1]

/-! erewhile/seal.Sum -/
abbrev n_seal_Sum : Nat := 27
theorem func_seal_Sum : Try.prog.funcs[n_seal_Sum]? = some Try.f27 := Try.func27
theorem call_seal_Sum : ∀ args w, (callFunc n_seal_Sum args).run Try.prog w = .ok (.enter n_seal_Sum args) w := Try.call27
theorem nt_seal_Sum : Try.f27.ntmps = 17 := Try.ntmps27
theorem rs_seal_Sum : Try.f27.results.toList = [.cell 4 48] := by rw [Try.results27]
def s_seal_Sum_0 : List AStep := [.eff (some 2) (.box 23 (.tmp 0)), .eff (some 4) (.alloc 48)]
abbrev p_seal_Sum_0 : List Nat := [0, 1]
def s_seal_Sum_1 : List AStep := [.pure (some 6) false (.slice 23 (.tmp 2) none none none), .pure (some 7) false (.move (.tmp 1)), .eff (some 8) (.buildSlice 77 2 #[(0, .tmp 6), (1, .tmp 7)]), .call (some 9) false ⟨.value (.func 36), #[.tmp 8], #[77]⟩, .call (some 10) false ⟨.value (.func 23), #[.tmp 9], #[25]⟩, .eff (some 5) (.alloc 23), .eff none (.store 23 (.tmp 5) (.tmp 10))]
abbrev p_seal_Sum_1 : List Nat := [0, 1, 2, 3, 4, 5, 6]
def s_seal_Sum_2 : SP := (.one (.pure (some 11) false (.slice 23 (.tmp 2) none none none)) (.one (.pure (some 12) false (.slice 23 (.tmp 5) none none none)) (.one (.eff (some 13) (.buildSlice 77 2 #[(0, .tmp 11), (1, .tmp 12)])) (.one (.call (some 14) false ⟨.value (.func 36), #[.tmp 13], #[77]⟩) (.one (.call (some 15) false ⟨.value (.func 23), #[.tmp 14], #[25]⟩) (.one (.call (some 16) false ⟨.value (.func 37), #[.tmp 15], #[23]⟩) (.one (.eff none (.store 48 (.tmp 4) (.tmp 16))) .done)))))))
abbrev p_seal_Sum_2 : PC := (.calm 0 124 (.calm 1 124 (.act 2 (.act 3 (.act 4 (.act 5 (.act 6 .done)))))))
abbrev g_seal_Sum_2 : List Dg := [⟨0, 4, 2048, .pure, true⟩, ⟨0, 32, 4096, .pure, true⟩, ⟨3, 6144, 8192, .eff, true⟩, ⟨4, 8192, 16384, .call, true⟩, ⟨8, 16384, 32768, .call, true⟩, ⟨16, 32768, 65536, .call, true⟩, ⟨63, 65552, 0, .eff, false⟩]
abbrev q_seal_Sum_2 : List Nat := []

/-! erewhile/sha.first -/
abbrev n_sha_first : Nat := 29
theorem func_sha_first : Try.prog.funcs[n_sha_first]? = some Try.f29 := Try.func29
theorem call_sha_first : ∀ args w, (callFunc n_sha_first args).run Try.prog w = .ok (.enter n_sha_first args) w := Try.call29
theorem nt_sha_first : Try.f29.ntmps = 2 := Try.ntmps29
theorem rs_sha_first : Try.f29.results.toList = [.cell 0 59] := by rw [Try.results29]
def s_sha_first_0 : List AStep := [.eff (some 0) (.alloc 59)]
abbrev p_sha_first_0 : List Nat := [0]
def s_sha_first_1 : List AStep := [.pure (some 1) false (.build 59 #[(0, .const (.int .u32 1779033703)), (1, .const (.int .u32 3144134277)), (2, .const (.int .u32 1013904242)), (3, .const (.int .u32 2773480762)), (4, .const (.int .u32 1359893119)), (5, .const (.int .u32 2600822924)), (6, .const (.int .u32 528734635)), (7, .const (.int .u32 1541459225))]), .eff none (.store 59 (.tmp 0) (.tmp 1))]
abbrev p_sha_first_1 : List Nat := [0, 1]

/-! erewhile/sha.Pad -/
abbrev n_sha_Pad : Nat := 30
theorem func_sha_Pad : Try.prog.funcs[n_sha_Pad]? = some Try.f30 := Try.func30
theorem call_sha_Pad : ∀ args w, (callFunc n_sha_Pad args).run Try.prog w = .ok (.enter n_sha_Pad args) w := Try.call30
theorem nt_sha_Pad : Try.f30.ntmps = 43 := Try.ntmps30
theorem rs_sha_Pad : Try.f30.results.toList = [.tmp 2] := by rw [Try.results30]
def s_sha_Pad_0 : List AStep := [.pure (some 2) false (.assign (.const (.slice none 0 0)))]
abbrev p_sha_Pad_0 : List Nat := [0]
def s_sha_Pad_1 : List AStep := [.pure (some 6) false (.move (.tmp 0)), .pure (some 7) false (.call (.mk (.builtin .len) #[.tmp 6] #[25])), .pure (some 8) false (.binOp .add 3 (.tmp 7) (.const (.int .i64 9)) 3), .pure (some 3) false (.assign (.tmp 8))]
abbrev p_sha_Pad_1 : List Nat := [0, 1, 2, 3]
def s_sha_Pad_2 : List AStep := [.pure (some 9) false (.move (.tmp 3)), .pure (some 10) false (.move (.tmp 3)), .pure (some 11) false (.binOp .rem 3 (.tmp 10) (.const (.int .i64 64)) 3), .pure (some 12) false (.binOp .sub 3 (.const (.int .i64 64)) (.tmp 11) 3), .pure (some 13) false (.binOp .rem 3 (.tmp 12) (.const (.int .i64 64)) 3), .pure (some 14) false (.binOp .add 3 (.tmp 9) (.tmp 13) 3), .pure (some 3) false (.assign (.tmp 14))]
abbrev p_sha_Pad_2 : List Nat := [0, 1, 2, 3, 4, 5, 6]
def s_sha_Pad_3 : List AStep := [.pure (some 15) false (.move (.tmp 3)), .eff (some 16) (.makeSlice 25 (.tmp 15) (.tmp 15)), .pure (some 4) false (.assign (.tmp 16))]
abbrev p_sha_Pad_3 : List Nat := [0, 1, 2]
def s_sha_Pad_4 : List AStep := [.pure (some 17) false (.move (.tmp 4)), .pure (some 18) false (.move (.tmp 0)), .eff (some 19) (.call (.mk (.builtin .copy) #[.tmp 17, .tmp 18] #[25, 25]))]
abbrev p_sha_Pad_4 : List Nat := [0, 1, 2]
def s_sha_Pad_5 : List AStep := [.pure (some 20) false (.move (.tmp 4)), .pure (some 21) false (.move (.tmp 0)), .pure (some 22) false (.call (.mk (.builtin .len) #[.tmp 21] #[25])), .pure (some 23) false (.indexAddr 25 (.tmp 20) (.tmp 22)), .eff none (.store 5 (.tmp 23) (.const (.int .u8 128)))]
abbrev p_sha_Pad_5 : List Nat := [0, 1, 2, 3, 4]
def s_sha_Pad_6 : List AStep := [.pure (some 24) false (.move (.const (.int .i64 0)))]
abbrev p_sha_Pad_6 : List Nat := [0]
def s_sha_Pad_7 : List AStep := [.pure (some 25) false (.binOp .lss 3 (.tmp 24) (.const (.int .i64 8)) 3)]
abbrev p_sha_Pad_7 : List Nat := [0]
def s_sha_Pad_8 : List AStep := [.pure (some 26) false (.move (.tmp 24)), .pure (some 5) false (.assign (.tmp 26))]
abbrev p_sha_Pad_8 : List Nat := [0, 1]
def s_sha_Pad_9 : List AStep := [.pure (some 27) false (.move (.tmp 4)), .pure (some 28) false (.move (.tmp 3)), .pure (some 29) false (.binOp .sub 3 (.tmp 28) (.const (.int .i64 1)) 3), .pure (some 30) false (.move (.tmp 5)), .pure (some 31) false (.binOp .sub 3 (.tmp 29) (.tmp 30) 3), .pure (some 32) false (.move (.tmp 0)), .pure (some 33) false (.call (.mk (.builtin .len) #[.tmp 32] #[25])), .pure (some 34) false (.convert 3 24 (.tmp 33)), .pure (some 35) false (.binOp .mul 24 (.tmp 34) (.const (.int .u64 8)) 24), .pure (some 36) false (.move (.tmp 5)), .pure (some 37) false (.binOp .mul 3 (.const (.int .i64 8)) (.tmp 36) 3), .pure (some 38) false (.binOp .shr 24 (.tmp 35) (.tmp 37) 3), .pure (some 39) false (.convert 24 5 (.tmp 38)), .pure (some 40) false (.indexAddr 25 (.tmp 27) (.tmp 31)), .eff none (.store 5 (.tmp 40) (.tmp 39))]
abbrev p_sha_Pad_9 : List Nat := [0, 1, 2, 3, 4, 5, 6, 7, 8, 9, 10, 11, 12, 13, 14]
def s_sha_Pad_10 : List AStep := [.pure (some 41) false (.binOp .add 3 (.tmp 24) (.const (.int .i64 1)) 3), .pure (some 24) false (.move (.tmp 41))]
abbrev p_sha_Pad_10 : List Nat := [0, 1]
def s_sha_Pad_11 : List AStep := [.pure (some 42) false (.move (.tmp 4)), .pure (some 2) false (.assign (.tmp 42))]
abbrev p_sha_Pad_11 : List Nat := [0, 1]

/-! erewhile/sha.Compress -/
abbrev n_sha_Compress : Nat := 31
theorem func_sha_Compress : Try.prog.funcs[n_sha_Compress]? = some Try.f31 := Try.func31
theorem call_sha_Compress : ∀ args w, (callFunc n_sha_Compress args).run Try.prog w = .ok (.enter n_sha_Compress args) w := Try.call31
theorem nt_sha_Compress : Try.f31.ntmps = 164 := Try.ntmps31
theorem rs_sha_Compress : Try.f31.results.toList = [.cell 4 59] := by rw [Try.results31]
def s_sha_Compress_0 : List AStep := [.eff (some 2) (.box 59 (.tmp 0)), .eff (some 3) (.box 55 (.tmp 1)), .eff (some 4) (.alloc 59)]
abbrev p_sha_Compress_0 : List Nat := [0, 1, 2]
def s_sha_Compress_1 : List AStep := [.eff (some 5) (.alloc 70)]
abbrev p_sha_Compress_1 : List Nat := [0]
def s_sha_Compress_2 : List AStep := [.pure (some 22) false (.move (.const (.int .i64 0)))]
abbrev p_sha_Compress_2 : List Nat := [0]
def s_sha_Compress_3 : List AStep := [.pure (some 23) false (.binOp .lss 3 (.tmp 22) (.const (.int .i64 64)) 3)]
abbrev p_sha_Compress_3 : List Nat := [0]
def s_sha_Compress_4 : List AStep := [.pure (some 24) false (.move (.tmp 22)), .pure (some 6) false (.assign (.tmp 24))]
abbrev p_sha_Compress_4 : List Nat := [0, 1]
def s_sha_Compress_5 : List AStep := [.pure (some 25) false (.move (.tmp 6)), .pure (some 26) false (.binOp .lss 3 (.tmp 25) (.const (.int .i64 16)) 3)]
abbrev p_sha_Compress_5 : List Nat := [0, 1]
def s_sha_Compress_6 : List AStep := [.pure (some 27) false (.move (.tmp 6)), .pure (some 28) false (.move (.tmp 6)), .pure (some 29) false (.binOp .mul 3 (.const (.int .i64 4)) (.tmp 28) 3), .pure (some 30) false (.slice 55 (.tmp 3) (some (.tmp 29)) none none), .call (some 31) false ⟨.value (.func 41), #[.tmp 30], #[25]⟩, .pure (some 32) false (.indexAddr 70 (.tmp 5) (.tmp 27)), .eff none (.store 57 (.tmp 32) (.tmp 31))]
abbrev p_sha_Compress_6 : List Nat := [0, 1, 2, 3, 4, 5, 6]
def s_sha_Compress_7 : SP := (.one (.pure (some 33) false (.move (.tmp 6))) (.one (.pure (some 34) false (.binOp .sub 3 (.tmp 33) (.const (.int .i64 15)) 3)) (.one (.pure (some 35) false (.indexAddr 70 (.tmp 5) (.tmp 34))) (.one (.pure (some 37) false (.move (.tmp 6))) (.one (.pure (some 38) false (.binOp .sub 3 (.tmp 37) (.const (.int .i64 2)) 3)) (.one (.pure (some 39) false (.indexAddr 70 (.tmp 5) (.tmp 38))) (.one (.read (some 36) false (.load 57 (.tmp 35))) (.one (.pure (some 7) false (.assign (.tmp 36))) (.one (.read (some 40) false (.load 57 (.tmp 39))) (.one (.pure (some 8) false (.assign (.tmp 40))) .done))))))))))
abbrev p_sha_Compress_7 : PC := (.calm 0 782 (.calm 1 780 (.calm 2 776 (.calm 4 736 (.calm 5 704 (.calm 6 640 (.calm 3 768 (.calm 8 512 (.calm 7 512 (.calm 9 0 .done))))))))))
abbrev g_sha_Compress_7 : List Dg := [⟨0, 64, 8589934592, .pure, true⟩, ⟨1, 8589934592, 17179869184, .pure, true⟩, ⟨2, 17179869216, 34359738368, .pure, true⟩, ⟨4, 34359738368, 68719476736, .read, true⟩, ⟨0, 64, 137438953472, .pure, true⟩, ⟨16, 137438953472, 274877906944, .pure, true⟩, ⟨32, 274877906976, 549755813888, .pure, true⟩, ⟨64, 549755813888, 1099511627776, .read, true⟩, ⟨15, 68719476736, 128, .pure, true⟩, ⟨511, 1099511627776, 256, .pure, true⟩]
abbrev q_sha_Compress_7 : List Nat := []
def s_sha_Compress_8 : SP := (.one (.pure (some 41) false (.move (.tmp 6))) (.one (.pure (some 42) false (.move (.tmp 6))) (.one (.pure (some 43) false (.binOp .sub 3 (.tmp 42) (.const (.int .i64 16)) 3)) (.one (.pure (some 44) false (.indexAddr 70 (.tmp 5) (.tmp 43))) (.one (.pure (some 46) false (.move (.tmp 6))) (.one (.pure (some 47) false (.binOp .sub 3 (.tmp 46) (.const (.int .i64 7)) 3)) (.one (.pure (some 48) false (.indexAddr 70 (.tmp 5) (.tmp 47))) (.one (.pure (some 51) false (.move (.tmp 7))) (.one (.pure (some 53) false (.move (.tmp 7))) (.one (.pure (some 56) false (.move (.tmp 7))) (.one (.pure (some 57) false (.binOp .shr 57 (.tmp 56) (.const (.int .u64 3)) 54)) (.one (.pure (some 60) false (.move (.tmp 8))) (.one (.pure (some 62) false (.move (.tmp 8))) (.one (.pure (some 65) false (.move (.tmp 8))) (.one (.pure (some 66) false (.binOp .shr 57 (.tmp 65) (.const (.int .u64 10)) 54)) (.one (.read (some 45) false (.load 57 (.tmp 44))) (.one (.read (some 49) false (.load 57 (.tmp 48))) (.one (.pure (some 50) false (.binOp .add 57 (.tmp 45) (.tmp 49) 57)) (.one (.call (some 52) false ⟨.value (.func 42), #[.tmp 51, .const (.int .i64 7)], #[57, 3]⟩) (.one (.call (some 54) false ⟨.value (.func 42), #[.tmp 53, .const (.int .i64 18)], #[57, 3]⟩) (.one (.pure (some 55) false (.binOp .xor 57 (.tmp 52) (.tmp 54) 57)) (.one (.pure (some 58) false (.binOp .xor 57 (.tmp 55) (.tmp 57) 57)) (.one (.pure (some 59) false (.binOp .add 57 (.tmp 50) (.tmp 58) 57)) (.one (.call (some 61) false ⟨.value (.func 42), #[.tmp 60, .const (.int .i64 17)], #[57, 3]⟩) (.one (.call (some 63) false ⟨.value (.func 42), #[.tmp 62, .const (.int .i64 19)], #[57, 3]⟩) (.one (.pure (some 64) false (.binOp .xor 57 (.tmp 61) (.tmp 63) 57)) (.one (.pure (some 67) false (.binOp .xor 57 (.tmp 64) (.tmp 66) 57)) (.one (.pure (some 68) false (.binOp .add 57 (.tmp 59) (.tmp 67) 57)) (.one (.pure (some 69) false (.indexAddr 70 (.tmp 5) (.tmp 41))) (.one (.eff none (.store 57 (.tmp 69) (.tmp 68))) .done))))))))))))))))))))))))))))))
abbrev p_sha_Compress_8 : PC := (.calm 0 805306368 (.calm 1 939786780 (.calm 2 939786776 (.calm 3 939786768 (.calm 5 939787200 (.calm 6 939787136 (.calm 7 939787008 (.calm 10 1020684288 (.calm 12 1020682240 (.calm 15 939982848 (.calm 16 939917312 (.calm 19 1020264448 (.calm 21 1019215872 (.calm 24 1040187392 (.calm 25 1006632960 (.calm 4 939786752 (.calm 8 939786752 (.calm 9 939786240 (.act 11 (.act 13 (.calm 14 939917312 (.calm 17 939786240 (.calm 18 939524096 (.act 20 (.act 22 (.calm 23 1006632960 (.calm 26 939524096 (.calm 27 805306368 (.calm 28 536870912 (.act 29 .done))))))))))))))))))))))))))))))
abbrev g_sha_Compress_8 : List Dg := [⟨0, 64, 2199023255552, .pure, true⟩, ⟨0, 64, 4398046511104, .pure, true⟩, ⟨2, 4398046511104, 8796093022208, .pure, true⟩, ⟨4, 8796093022240, 17592186044416, .pure, true⟩, ⟨8, 17592186044416, 35184372088832, .read, true⟩, ⟨0, 64, 70368744177664, .pure, true⟩, ⟨32, 70368744177664, 140737488355328, .pure, true⟩, ⟨64, 140737488355360, 281474976710656, .pure, true⟩, ⟨128, 281474976710656, 562949953421312, .read, true⟩, ⟨272, 598134325510144, 1125899906842624, .pure, true⟩, ⟨0, 128, 2251799813685248, .pure, true⟩, ⟨1024, 2251799813685248, 4503599627370496, .call, true⟩, ⟨0, 128, 9007199254740992, .pure, true⟩, ⟨6144, 9007199254740992, 18014398509481984, .call, true⟩, ⟨10240, 22517998136852480, 36028797018963968, .pure, true⟩, ⟨0, 128, 72057594037927936, .pure, true⟩, ⟨32768, 72057594037927936, 144115188075855872, .pure, true⟩, ⟨81920, 180143985094819840, 288230376151711744, .pure, true⟩, ⟨131584, 289356276058554368, 576460752303423488, .pure, true⟩, ⟨0, 256, 1152921504606846976, .pure, true⟩, ⟨532480, 1152921504606846976, 2305843009213693952, .call, true⟩, ⟨0, 256, 4611686018427387904, .pure, true⟩, ⟨3145728, 4611686018427387904, 9223372036854775808, .call, true⟩, ⟨5242880, 11529215046068469760, 18446744073709551616, .pure, true⟩, ⟨0, 256, 36893488147419103232, .pure, true⟩, ⟨16777216, 36893488147419103232, 73786976294838206464, .pure, true⟩, ⟨41943040, 92233720368547758080, 147573952589676412928, .pure, true⟩, ⟨67371008, 148150413341979836416, 295147905179352825856, .pure, true⟩, ⟨268435455, 2199023255584, 590295810358705651712, .pure, true⟩, ⟨536870911, 885443715538058477568, 0, .eff, false⟩]
abbrev q_sha_Compress_8 : List Nat := []
def s_sha_Compress_9 : List AStep := [.pure (some 70) false (.binOp .add 3 (.tmp 22) (.const (.int .i64 1)) 3), .pure (some 22) false (.move (.tmp 70))]
abbrev p_sha_Compress_9 : List Nat := [0, 1]
def s_sha_Compress_10 : List AStep := [.read (some 71) false (.load 59 (.tmp 2)), .eff (some 9) (.alloc 59), .eff none (.store 59 (.tmp 9) (.tmp 71))]
abbrev p_sha_Compress_10 : List Nat := [0, 1, 2]
def s_sha_Compress_11 : List AStep := [.call (some 72) false ⟨.value (.func 43), #[], #[]⟩, .pure (some 73) false (.move (.const (.int .i64 0)))]
abbrev p_sha_Compress_11 : List Nat := [0, 1]
def s_sha_Compress_12 : List AStep := [.pure (some 74) false (.binOp .lss 3 (.tmp 73) (.const (.int .i64 64)) 3)]
abbrev p_sha_Compress_12 : List Nat := [0]
def s_sha_Compress_13 : List AStep := [.pure (some 75) false (.move (.tmp 73)), .pure (some 76) false (.index 70 (.tmp 72) (.tmp 73)), .pure (some 10) false (.assign (.tmp 75)), .pure (some 11) false (.assign (.tmp 76))]
abbrev p_sha_Compress_13 : List Nat := [0, 1, 2, 3]
def s_sha_Compress_14 : SP := (.one (.pure (some 77) false (.indexAddr 59 (.tmp 9) (.const (.int .i64 0)))) (.one (.pure (some 79) false (.indexAddr 59 (.tmp 9) (.const (.int .i64 1)))) (.one (.pure (some 81) false (.indexAddr 59 (.tmp 9) (.const (.int .i64 2)))) (.one (.pure (some 83) false (.indexAddr 59 (.tmp 9) (.const (.int .i64 3)))) (.one (.pure (some 85) false (.indexAddr 59 (.tmp 9) (.const (.int .i64 4)))) (.one (.pure (some 87) false (.indexAddr 59 (.tmp 9) (.const (.int .i64 5)))) (.one (.pure (some 89) false (.indexAddr 59 (.tmp 9) (.const (.int .i64 6)))) (.one (.read (some 78) false (.load 57 (.tmp 77))) (.one (.pure (some 12) false (.assign (.tmp 78))) (.one (.read (some 80) false (.load 57 (.tmp 79))) (.one (.pure (some 13) false (.assign (.tmp 80))) (.one (.read (some 82) false (.load 57 (.tmp 81))) (.one (.pure (some 14) false (.assign (.tmp 82))) (.one (.read (some 84) false (.load 57 (.tmp 83))) (.one (.pure (some 15) false (.assign (.tmp 84))) (.one (.read (some 86) false (.load 57 (.tmp 85))) (.one (.pure (some 16) false (.assign (.tmp 86))) (.one (.read (some 88) false (.load 57 (.tmp 87))) (.one (.pure (some 17) false (.assign (.tmp 88))) (.one (.read (some 90) false (.load 57 (.tmp 89))) (.one (.pure (some 18) false (.assign (.tmp 90))) .done)))))))))))))))))))))
abbrev p_sha_Compress_14 : PC := (.calm 0 2080770 (.calm 2 2064392 (.calm 4 2031648 (.calm 6 1966208 (.calm 8 1835520 (.calm 10 1574912 (.calm 12 1056768 (.calm 1 2080768 (.calm 14 2064384 (.calm 3 2064384 (.calm 15 2031616 (.calm 5 2031616 (.calm 16 1966080 (.calm 7 1966080 (.calm 17 1835008 (.calm 9 1835008 (.calm 18 1572864 (.calm 11 1572864 (.calm 19 1048576 (.calm 13 1048576 (.calm 20 0 .done)))))))))))))))))))))
abbrev g_sha_Compress_14 : List Dg := [⟨0, 512, 151115727451828646838272, .pure, true⟩, ⟨1, 151115727451828646838272, 302231454903657293676544, .read, true⟩, ⟨0, 512, 604462909807314587353088, .pure, true⟩, ⟨4, 604462909807314587353088, 1208925819614629174706176, .read, true⟩, ⟨0, 512, 2417851639229258349412352, .pure, true⟩, ⟨16, 2417851639229258349412352, 4835703278458516698824704, .read, true⟩, ⟨0, 512, 9671406556917033397649408, .pure, true⟩, ⟨64, 9671406556917033397649408, 19342813113834066795298816, .read, true⟩, ⟨0, 512, 38685626227668133590597632, .pure, true⟩, ⟨256, 38685626227668133590597632, 77371252455336267181195264, .read, true⟩, ⟨0, 512, 154742504910672534362390528, .pure, true⟩, ⟨1024, 154742504910672534362390528, 309485009821345068724781056, .read, true⟩, ⟨0, 512, 618970019642690137449562112, .pure, true⟩, ⟨4096, 618970019642690137449562112, 1237940039285380274899124224, .read, true⟩, ⟨3, 302231454903657293676544, 4096, .pure, true⟩, ⟨16399, 1208925819614629174706176, 8192, .pure, true⟩, ⟨49215, 4835703278458516698824704, 16384, .pure, true⟩, ⟨114943, 19342813113834066795298816, 32768, .pure, true⟩, ⟨246783, 77371252455336267181195264, 65536, .pure, true⟩, ⟨511999, 309485009821345068724781056, 131072, .pure, true⟩, ⟨1048575, 1237940039285380274899124224, 262144, .pure, true⟩]
abbrev q_sha_Compress_14 : List Nat := []
def s_sha_Compress_15 : SP := (.one (.pure (some 91) false (.indexAddr 59 (.tmp 9) (.const (.int .i64 7)))) (.one (.pure (some 93) false (.move (.tmp 16))) (.one (.pure (some 95) false (.move (.tmp 16))) (.one (.pure (some 98) false (.move (.tmp 16))) (.one (.pure (some 102) false (.move (.tmp 16))) (.one (.pure (some 103) false (.move (.tmp 17))) (.one (.pure (some 104) false (.binOp .and 57 (.tmp 102) (.tmp 103) 57)) (.one (.pure (some 105) false (.move (.tmp 16))) (.one (.pure (some 106) false (.unOp .xor 57 (.tmp 105))) (.one (.pure (some 107) false (.move (.tmp 18))) (.one (.pure (some 108) false (.binOp .and 57 (.tmp 106) (.tmp 107) 57)) (.one (.pure (some 109) false (.binOp .xor 57 (.tmp 104) (.tmp 108) 57)) (.one (.pure (some 111) false (.move (.tmp 11))) (.one (.pure (some 113) false (.move (.tmp 10))) (.one (.pure (some 114) false (.indexAddr 70 (.tmp 5) (.tmp 113))) (.one (.read (some 92) false (.load 57 (.tmp 91))) (.one (.read (some 115) false (.load 57 (.tmp 114))) (.one (.call (some 94) false ⟨.value (.func 42), #[.tmp 93, .const (.int .i64 6)], #[57, 3]⟩) (.one (.call (some 96) false ⟨.value (.func 42), #[.tmp 95, .const (.int .i64 11)], #[57, 3]⟩) (.one (.pure (some 97) false (.binOp .xor 57 (.tmp 94) (.tmp 96) 57)) (.one (.call (some 99) false ⟨.value (.func 42), #[.tmp 98, .const (.int .i64 25)], #[57, 3]⟩) (.one (.pure (some 100) false (.binOp .xor 57 (.tmp 97) (.tmp 99) 57)) (.one (.pure (some 101) false (.binOp .add 57 (.tmp 92) (.tmp 100) 57)) (.one (.pure (some 110) false (.binOp .add 57 (.tmp 101) (.tmp 109) 57)) (.one (.pure (some 112) false (.binOp .add 57 (.tmp 110) (.tmp 111) 57)) (.one (.pure (some 116) false (.binOp .add 57 (.tmp 112) (.tmp 115) 57)) (.one (.pure (some 19) false (.assign (.tmp 116))) .done)))))))))))))))))))))))))))
abbrev p_sha_Compress_15 : PC := (.calm 0 103285762 (.calm 2 103286632 (.calm 4 103286624 (.calm 7 103286528 (.calm 11 103555072 (.calm 12 103555072 (.calm 13 103546880 (.calm 14 103710720 (.calm 15 103677952 (.calm 16 103677952 (.calm 17 103546880 (.calm 18 103284736 (.calm 20 102760448 (.calm 22 125829120 (.calm 23 117440512 (.calm 1 103285760 (.calm 24 100663296 (.act 3 (.act 5 (.calm 6 103286272 (.act 8 (.calm 9 103285760 (.calm 10 103284736 (.calm 19 102760448 (.calm 21 100663296 (.calm 25 67108864 (.calm 26 0 .done)))))))))))))))))))))))))))
abbrev g_sha_Compress_15 : List Dg := [⟨0, 512, 2475880078570760549798248448, .pure, true⟩, ⟨1, 2475880078570760549798248448, 4951760157141521099596496896, .read, true⟩, ⟨0, 65536, 9903520314283042199192993792, .pure, true⟩, ⟨4, 9903520314283042199192993792, 19807040628566084398385987584, .call, true⟩, ⟨0, 65536, 39614081257132168796771975168, .pure, true⟩, ⟨24, 39614081257132168796771975168, 79228162514264337593543950336, .call, true⟩, ⟨40, 99035203142830421991929937920, 158456325028528675187087900672, .pure, true⟩, ⟨0, 65536, 316912650057057350374175801344, .pure, true⟩, ⟨160, 316912650057057350374175801344, 633825300114114700748351602688, .call, true⟩, ⟨320, 792281625142643375935439503360, 1267650600228229401496703205376, .pure, true⟩, ⟨514, 1272602360385370922596299702272, 2535301200456458802993406410752, .pure, true⟩, ⟨0, 65536, 5070602400912917605986812821504, .pure, true⟩, ⟨0, 131072, 10141204801825835211973625643008, .pure, true⟩, ⟨6144, 15211807202738752817960438464512, 20282409603651670423947251286016, .pure, true⟩, ⟨0, 65536, 40564819207303340847894502572032, .pure, true⟩, ⟨16384, 40564819207303340847894502572032, 81129638414606681695789005144064, .pure, true⟩, ⟨0, 262144, 162259276829213363391578010288128, .pure, true⟩, ⟨98304, 243388915243820045087367015432192, 324518553658426726783156020576256, .pure, true⟩, ⟨139264, 344800963262078397207103271862272, 649037107316853453566312041152512, .pure, true⟩, ⟨263168, 651572408517309912369305447563264, 1298074214633706907132624082305024, .pure, true⟩, ⟨0, 2048, 2596148429267413814265248164610048, .pure, true⟩, ⟨1572864, 3894222643901120721397872246915072, 5192296858534827628530496329220096, .pure, true⟩, ⟨0, 1024, 10384593717069655257060992658440192, .pure, true⟩, ⟨4194304, 10384593717069655257060992658440224, 20769187434139310514121985316880384, .pure, true⟩, ⟨8388608, 20769187434139310514121985316880384, 41538374868278621028243970633760768, .read, true⟩, ⟨18874368, 46730671726813448656774466962980864, 83076749736557242056487941267521536, .pure, true⟩, ⟨67108863, 83076749736557242056487941267521536, 524288, .pure, true⟩]
abbrev q_sha_Compress_15 : List Nat := []
def s_sha_Compress_16 : List AStep := [.pure (some 117) false (.move (.tmp 12)), .call (some 118) false ⟨.value (.func 42), #[.tmp 117, .const (.int .i64 2)], #[57, 3]⟩, .pure (some 119) false (.move (.tmp 12)), .call (some 120) false ⟨.value (.func 42), #[.tmp 119, .const (.int .i64 13)], #[57, 3]⟩, .pure (some 121) false (.binOp .xor 57 (.tmp 118) (.tmp 120) 57), .pure (some 122) false (.move (.tmp 12)), .call (some 123) false ⟨.value (.func 42), #[.tmp 122, .const (.int .i64 22)], #[57, 3]⟩, .pure (some 124) false (.binOp .xor 57 (.tmp 121) (.tmp 123) 57), .pure (some 125) false (.move (.tmp 12)), .pure (some 126) false (.move (.tmp 13)), .pure (some 127) false (.binOp .and 57 (.tmp 125) (.tmp 126) 57), .pure (some 128) false (.move (.tmp 12)), .pure (some 129) false (.move (.tmp 14)), .pure (some 130) false (.binOp .and 57 (.tmp 128) (.tmp 129) 57), .pure (some 131) false (.binOp .xor 57 (.tmp 127) (.tmp 130) 57), .pure (some 132) false (.move (.tmp 13)), .pure (some 133) false (.move (.tmp 14)), .pure (some 134) false (.binOp .and 57 (.tmp 132) (.tmp 133) 57), .pure (some 135) false (.binOp .xor 57 (.tmp 131) (.tmp 134) 57), .pure (some 136) false (.binOp .add 57 (.tmp 124) (.tmp 135) 57), .pure (some 20) false (.assign (.tmp 136))]
abbrev p_sha_Compress_16 : List Nat := [0, 1, 2, 3, 4, 5, 6, 7, 8, 9, 10, 11, 12, 13, 14, 15, 16, 17, 18, 19, 20]
def s_sha_Compress_17 : List AStep := [.pure (some 137) false (.move (.tmp 19)), .pure (some 138) false (.move (.tmp 20)), .pure (some 139) false (.binOp .add 57 (.tmp 137) (.tmp 138) 57), .pure (some 140) false (.move (.tmp 12)), .pure (some 141) false (.move (.tmp 13)), .pure (some 142) false (.move (.tmp 14)), .pure (some 143) false (.move (.tmp 15)), .pure (some 144) false (.move (.tmp 19)), .pure (some 145) false (.binOp .add 57 (.tmp 143) (.tmp 144) 57), .pure (some 146) false (.move (.tmp 16)), .pure (some 147) false (.move (.tmp 17)), .pure (some 148) false (.move (.tmp 18)), .pure (some 149) false (.build 59 #[(0, .tmp 139), (1, .tmp 140), (2, .tmp 141), (3, .tmp 142), (4, .tmp 145), (5, .tmp 146), (6, .tmp 147), (7, .tmp 148)]), .eff none (.store 59 (.tmp 9) (.tmp 149))]
abbrev p_sha_Compress_17 : List Nat := [0, 1, 2, 3, 4, 5, 6, 7, 8, 9, 10, 11, 12, 13]
def s_sha_Compress_18 : List AStep := [.pure (some 150) false (.binOp .add 3 (.tmp 73) (.const (.int .i64 1)) 3), .pure (some 73) false (.move (.tmp 150))]
abbrev p_sha_Compress_18 : List Nat := [0, 1]
def s_sha_Compress_19 : List AStep := [.pure (some 151) false (.move (.const (.int .i64 0)))]
abbrev p_sha_Compress_19 : List Nat := [0]
def s_sha_Compress_20 : List AStep := [.pure (some 152) false (.binOp .lss 3 (.tmp 151) (.const (.int .i64 8)) 3)]
abbrev p_sha_Compress_20 : List Nat := [0]
def s_sha_Compress_21 : List AStep := [.pure (some 153) false (.move (.tmp 151)), .pure (some 21) false (.assign (.tmp 153))]
abbrev p_sha_Compress_21 : List Nat := [0, 1]
def s_sha_Compress_22 : SP := (.one (.pure (some 154) false (.move (.tmp 21))) (.one (.pure (some 155) false (.indexAddr 59 (.tmp 9) (.tmp 154))) (.one (.pure (some 157) false (.move (.tmp 21))) (.one (.pure (some 158) false (.indexAddr 59 (.tmp 2) (.tmp 157))) (.one (.read (some 156) false (.load 57 (.tmp 155))) (.one (.read (some 159) false (.load 57 (.tmp 158))) (.one (.pure (some 160) false (.binOp .add 57 (.tmp 156) (.tmp 159) 57)) (.one (.pure (some 161) false (.indexAddr 59 (.tmp 9) (.tmp 154))) (.one (.eff none (.store 57 (.tmp 161) (.tmp 160))) .done)))))))))
abbrev p_sha_Compress_22 : PC := (.calm 0 454 (.calm 1 452 (.calm 3 496 (.calm 4 480 (.calm 2 448 (.calm 5 448 (.calm 6 384 (.calm 7 256 (.act 8 .done)))))))))
abbrev g_sha_Compress_22 : List Dg := [⟨0, 2097152, 22835963083295358096932575511191922182123945984, .pure, true⟩, ⟨1, 22835963083295358096932575511191922182123946496, 45671926166590716193865151022383844364247891968, .pure, true⟩, ⟨2, 45671926166590716193865151022383844364247891968, 91343852333181432387730302044767688728495783936, .read, true⟩, ⟨0, 2097152, 182687704666362864775460604089535377456991567872, .pure, true⟩, ⟨8, 182687704666362864775460604089535377456991567876, 365375409332725729550921208179070754913983135744, .pure, true⟩, ⟨16, 365375409332725729550921208179070754913983135744, 730750818665451459101842416358141509827966271488, .read, true⟩, ⟨36, 822094670998632891489572718402909198556462055424, 1461501637330902918203684832716283019655932542976, .pure, true⟩, ⟨127, 22835963083295358096932575511191922182123946496, 2923003274661805836407369665432566039311865085952, .pure, true⟩, ⟨255, 4384504911992708754611054498148849058967797628928, 0, .eff, false⟩]
abbrev q_sha_Compress_22 : List Nat := []
def s_sha_Compress_23 : List AStep := [.pure (some 162) false (.binOp .add 3 (.tmp 151) (.const (.int .i64 1)) 3), .pure (some 151) false (.move (.tmp 162))]
abbrev p_sha_Compress_23 : List Nat := [0, 1]
def s_sha_Compress_24 : List AStep := [.read (some 163) false (.load 59 (.tmp 9)), .eff none (.store 59 (.tmp 4) (.tmp 163))]
abbrev p_sha_Compress_24 : List Nat := [0, 1]

/-! erewhile/chacha.state -/
abbrev n_chacha_state : Nat := 32
theorem func_chacha_state : Try.prog.funcs[n_chacha_state]? = some Try.f32 := Try.func32
theorem call_chacha_state : ∀ args w, (callFunc n_chacha_state args).run Try.prog w = .ok (.enter n_chacha_state args) w := Try.call32
theorem nt_chacha_state : Try.f32.ntmps = 40 := Try.ntmps32
theorem rs_chacha_state : Try.f32.results.toList = [.cell 6 63] := by rw [Try.results32]
def s_chacha_state_0 : List AStep := [.eff (some 3) (.box 23 (.tmp 0)), .eff (some 6) (.alloc 63)]
abbrev p_chacha_state_0 : List Nat := [0, 1]
def s_chacha_state_1 : List AStep := [.pure (some 10) false (.build 63 #[(0, .const (.int .u32 1634760805)), (1, .const (.int .u32 857760878)), (2, .const (.int .u32 2036477234)), (3, .const (.int .u32 1797285236))]), .eff (some 7) (.alloc 63), .eff none (.store 63 (.tmp 7) (.tmp 10))]
abbrev p_chacha_state_1 : List Nat := [0, 1, 2]
def s_chacha_state_2 : List AStep := [.read (some 11) false (.load 23 (.tmp 3)), .pure (some 12) false (.move (.const (.int .i64 0)))]
abbrev p_chacha_state_2 : List Nat := [0, 1]
def s_chacha_state_3 : List AStep := [.pure (some 13) false (.binOp .lss 3 (.tmp 12) (.const (.int .i64 32)) 3)]
abbrev p_chacha_state_3 : List Nat := [0]
def s_chacha_state_4 : List AStep := [.pure (some 14) false (.move (.tmp 12)), .pure (some 15) false (.index 23 (.tmp 11) (.tmp 12)), .pure (some 8) false (.assign (.tmp 14)), .pure (some 9) false (.assign (.tmp 15))]
abbrev p_chacha_state_4 : List Nat := [0, 1, 2, 3]
def s_chacha_state_5 : SP := (.one (.pure (some 16) false (.move (.tmp 8))) (.one (.pure (some 17) false (.binOp .quo 3 (.tmp 16) (.const (.int .i64 4)) 3)) (.one (.pure (some 18) false (.binOp .add 3 (.const (.int .i64 4)) (.tmp 17) 3)) (.one (.pure (some 19) false (.indexAddr 63 (.tmp 7) (.tmp 18))) (.one (.pure (some 21) false (.move (.tmp 9))) (.one (.pure (some 22) false (.convert 5 57 (.tmp 21))) (.one (.pure (some 23) false (.move (.tmp 8))) (.one (.pure (some 24) false (.binOp .rem 3 (.tmp 23) (.const (.int .i64 4)) 3)) (.one (.pure (some 25) false (.binOp .mul 3 (.const (.int .i64 8)) (.tmp 24) 3)) (.one (.pure (some 26) false (.binOp .shl 57 (.tmp 22) (.tmp 25) 3)) (.one (.read (some 20) false (.load 57 (.tmp 19))) (.one (.pure (some 27) false (.binOp .or 57 (.tmp 20) (.tmp 26) 57)) (.one (.pure (some 28) false (.indexAddr 63 (.tmp 7) (.tmp 18))) (.one (.eff none (.store 57 (.tmp 28) (.tmp 27))) .done))))))))))))))
abbrev p_chacha_state_5 : PC := (.calm 0 14366 (.calm 1 14364 (.calm 2 14360 (.calm 3 14352 (.calm 5 15424 (.calm 6 15360 (.calm 7 16128 (.calm 8 15872 (.calm 9 15360 (.calm 10 14336 (.calm 4 14336 (.calm 11 12288 (.calm 12 8192 (.act 13 .done))))))))))))))
abbrev g_chacha_state_5 : List Dg := [⟨0, 256, 65536, .pure, true⟩, ⟨1, 65536, 131072, .pure, true⟩, ⟨2, 131072, 262144, .pure, true⟩, ⟨4, 262272, 524288, .pure, true⟩, ⟨8, 524288, 1048576, .read, true⟩, ⟨0, 512, 2097152, .pure, true⟩, ⟨32, 2097152, 4194304, .pure, true⟩, ⟨0, 256, 8388608, .pure, true⟩, ⟨128, 8388608, 16777216, .pure, true⟩, ⟨256, 16777216, 33554432, .pure, true⟩, ⟨576, 37748736, 67108864, .pure, true⟩, ⟨1040, 68157440, 134217728, .pure, true⟩, ⟨4095, 262272, 268435456, .pure, true⟩, ⟨8191, 402653184, 0, .eff, false⟩]
abbrev q_chacha_state_5 : List Nat := []
def s_chacha_state_6 : List AStep := [.pure (some 29) false (.binOp .add 3 (.tmp 12) (.const (.int .i64 1)) 3), .pure (some 12) false (.move (.tmp 29))]
abbrev p_chacha_state_6 : List Nat := [0, 1]
def s_chacha_state_7 : List AStep := [.pure (some 30) false (.move (.tmp 1)), .pure (some 31) false (.move (.tmp 2)), .pure (some 32) false (.convert 24 57 (.tmp 31)), .pure (some 33) false (.move (.tmp 2)), .pure (some 34) false (.binOp .shr 24 (.tmp 33) (.const (.int .u64 32)) 54), .pure (some 35) false (.convert 24 57 (.tmp 34)), .pure (some 36) false (.indexAddr 63 (.tmp 7) (.const (.int .i64 12))), .eff none (.store 57 (.tmp 36) (.tmp 30)), .pure (some 37) false (.indexAddr 63 (.tmp 7) (.const (.int .i64 14))), .eff none (.store 57 (.tmp 37) (.tmp 32)), .pure (some 38) false (.indexAddr 63 (.tmp 7) (.const (.int .i64 15))), .eff none (.store 57 (.tmp 38) (.tmp 35))]
abbrev p_chacha_state_7 : List Nat := [0, 1, 2, 3, 4, 5, 6, 7, 8, 9, 10, 11]
def s_chacha_state_8 : List AStep := [.read (some 39) false (.load 63 (.tmp 7)), .eff none (.store 63 (.tmp 6) (.tmp 39))]
abbrev p_chacha_state_8 : List Nat := [0, 1]

/-! erewhile/chacha.Rounds -/
abbrev n_chacha_Rounds : Nat := 33
theorem func_chacha_Rounds : Try.prog.funcs[n_chacha_Rounds]? = some Try.f33 := Try.func33
theorem call_chacha_Rounds : ∀ args w, (callFunc n_chacha_Rounds args).run Try.prog w = .ok (.enter n_chacha_Rounds args) w := Try.call33
theorem nt_chacha_Rounds : Try.f33.ntmps = 41 := Try.ntmps33
theorem rs_chacha_Rounds : Try.f33.results.toList = [.cell 2 63] := by rw [Try.results33]
def s_chacha_Rounds_0 : List AStep := [.eff (some 1) (.box 63 (.tmp 0)), .eff (some 2) (.alloc 63)]
abbrev p_chacha_Rounds_0 : List Nat := [0, 1]
def s_chacha_Rounds_1 : List AStep := [.pure (some 5) false (.move (.const (.int .i64 0)))]
abbrev p_chacha_Rounds_1 : List Nat := [0]
def s_chacha_Rounds_2 : List AStep := [.pure (some 6) false (.binOp .lss 3 (.tmp 5) (.const (.int .i64 10)) 3)]
abbrev p_chacha_Rounds_2 : List Nat := [0]
def s_chacha_Rounds_3 : List AStep := [.pure (some 7) false (.move (.const (.int .i64 0)))]
abbrev p_chacha_Rounds_3 : List Nat := [0]
def s_chacha_Rounds_4 : List AStep := [.pure (some 8) false (.binOp .lss 3 (.tmp 7) (.const (.int .i64 4)) 3)]
abbrev p_chacha_Rounds_4 : List Nat := [0]
def s_chacha_Rounds_5 : List AStep := [.pure (some 9) false (.move (.tmp 7)), .pure (some 3) false (.assign (.tmp 9))]
abbrev p_chacha_Rounds_5 : List Nat := [0, 1]
def s_chacha_Rounds_6 : List AStep := [.read (some 10) false (.load 63 (.tmp 1)), .pure (some 11) false (.move (.tmp 3)), .pure (some 12) false (.move (.tmp 3)), .pure (some 13) false (.binOp .add 3 (.const (.int .i64 4)) (.tmp 12) 3), .pure (some 14) false (.move (.tmp 3)), .pure (some 15) false (.binOp .add 3 (.const (.int .i64 8)) (.tmp 14) 3), .pure (some 16) false (.move (.tmp 3)), .pure (some 17) false (.binOp .add 3 (.const (.int .i64 12)) (.tmp 16) 3), .call (some 18) false ⟨.value (.func 44), #[.tmp 10, .tmp 11, .tmp 13, .tmp 15, .tmp 17], #[63, 3, 3, 3, 3]⟩, .eff none (.store 63 (.tmp 1) (.tmp 18))]
abbrev p_chacha_Rounds_6 : List Nat := [0, 1, 2, 3, 4, 5, 6, 7, 8, 9]
def s_chacha_Rounds_7 : List AStep := [.pure (some 19) false (.binOp .add 3 (.tmp 7) (.const (.int .i64 1)) 3), .pure (some 7) false (.move (.tmp 19))]
abbrev p_chacha_Rounds_7 : List Nat := [0, 1]
def s_chacha_Rounds_8 : List AStep := [.pure (some 20) false (.move (.const (.int .i64 0)))]
abbrev p_chacha_Rounds_8 : List Nat := [0]
def s_chacha_Rounds_9 : List AStep := [.pure (some 21) false (.binOp .lss 3 (.tmp 20) (.const (.int .i64 4)) 3)]
abbrev p_chacha_Rounds_9 : List Nat := [0]
def s_chacha_Rounds_10 : List AStep := [.pure (some 22) false (.move (.tmp 20)), .pure (some 4) false (.assign (.tmp 22))]
abbrev p_chacha_Rounds_10 : List Nat := [0, 1]
def s_chacha_Rounds_11 : List AStep := [.read (some 23) false (.load 63 (.tmp 1)), .pure (some 24) false (.move (.tmp 4)), .pure (some 25) false (.move (.tmp 4)), .pure (some 26) false (.binOp .add 3 (.tmp 25) (.const (.int .i64 1)) 3), .pure (some 27) false (.binOp .rem 3 (.tmp 26) (.const (.int .i64 4)) 3), .pure (some 28) false (.binOp .add 3 (.const (.int .i64 4)) (.tmp 27) 3), .pure (some 29) false (.move (.tmp 4)), .pure (some 30) false (.binOp .add 3 (.tmp 29) (.const (.int .i64 2)) 3), .pure (some 31) false (.binOp .rem 3 (.tmp 30) (.const (.int .i64 4)) 3), .pure (some 32) false (.binOp .add 3 (.const (.int .i64 8)) (.tmp 31) 3), .pure (some 33) false (.move (.tmp 4)), .pure (some 34) false (.binOp .add 3 (.tmp 33) (.const (.int .i64 3)) 3), .pure (some 35) false (.binOp .rem 3 (.tmp 34) (.const (.int .i64 4)) 3), .pure (some 36) false (.binOp .add 3 (.const (.int .i64 12)) (.tmp 35) 3), .call (some 37) false ⟨.value (.func 44), #[.tmp 23, .tmp 24, .tmp 28, .tmp 32, .tmp 36], #[63, 3, 3, 3, 3]⟩, .eff none (.store 63 (.tmp 1) (.tmp 37))]
abbrev p_chacha_Rounds_11 : List Nat := [0, 1, 2, 3, 4, 5, 6, 7, 8, 9, 10, 11, 12, 13, 14, 15]
def s_chacha_Rounds_12 : List AStep := [.pure (some 38) false (.binOp .add 3 (.tmp 20) (.const (.int .i64 1)) 3), .pure (some 20) false (.move (.tmp 38))]
abbrev p_chacha_Rounds_12 : List Nat := [0, 1]
def s_chacha_Rounds_13 : List AStep := [.pure (some 39) false (.binOp .add 3 (.tmp 5) (.const (.int .i64 1)) 3), .pure (some 5) false (.move (.tmp 39))]
abbrev p_chacha_Rounds_13 : List Nat := [0, 1]
def s_chacha_Rounds_14 : List AStep := [.read (some 40) false (.load 63 (.tmp 1)), .eff none (.store 63 (.tmp 2) (.tmp 40))]
abbrev p_chacha_Rounds_14 : List Nat := [0, 1]

/-! erewhile/erewhileref02.State -/
abbrev n_ref02_State : Nat := 34
theorem func_ref02_State : Try.prog.funcs[n_ref02_State]? = some Try.f34 := Try.func34
theorem call_ref02_State : ∀ args w, (callFunc n_ref02_State args).run Try.prog w = .ok (.enter n_ref02_State args) w := Try.call34
theorem nt_ref02_State : Try.f34.ntmps = 43 := Try.ntmps34
theorem rs_ref02_State : Try.f34.results.toList = [.cell 6 63] := by rw [Try.results34]
def s_ref02_State_0 : List AStep := [.eff (some 3) (.box 22 (.tmp 0)), .eff (some 6) (.alloc 63)]
abbrev p_ref02_State_0 : List Nat := [0, 1]
def s_ref02_State_1 : List AStep := [.pure (some 9) false (.build 63 #[(0, .const (.int .u32 1634760805)), (1, .const (.int .u32 857760878)), (2, .const (.int .u32 2036477234)), (3, .const (.int .u32 1797285236))]), .eff (some 7) (.alloc 63), .eff none (.store 63 (.tmp 7) (.tmp 9))]
abbrev p_ref02_State_1 : List Nat := [0, 1, 2]
def s_ref02_State_2 : List AStep := [.pure (some 8) false (.assign (.const (.int .i64 0)))]
abbrev p_ref02_State_2 : List Nat := [0]
def s_ref02_State_3 : List AStep := [.pure (some 10) false (.move (.tmp 8)), .pure (some 11) false (.binOp .lss 3 (.tmp 10) (.const (.int .i64 32)) 3)]
abbrev p_ref02_State_3 : List Nat := [0, 1]
def s_ref02_State_5 : SP := (.one (.pure (some 14) false (.move (.tmp 8))) (.one (.pure (some 15) false (.binOp .quo 3 (.tmp 14) (.const (.int .i64 4)) 3)) (.one (.pure (some 16) false (.binOp .add 3 (.const (.int .i64 4)) (.tmp 15) 3)) (.one (.pure (some 17) false (.move (.tmp 8))) (.one (.pure (some 18) false (.binOp .quo 3 (.tmp 17) (.const (.int .i64 4)) 3)) (.one (.pure (some 19) false (.binOp .add 3 (.const (.int .i64 4)) (.tmp 18) 3)) (.one (.pure (some 20) false (.indexAddr 63 (.tmp 7) (.tmp 19))) (.one (.pure (some 22) false (.move (.tmp 8))) (.one (.pure (some 23) false (.indexAddr 22 (.tmp 3) (.tmp 22))) (.one (.pure (some 26) false (.move (.tmp 8))) (.one (.pure (some 27) false (.binOp .rem 3 (.tmp 26) (.const (.int .i64 4)) 3)) (.one (.pure (some 28) false (.binOp .mul 3 (.const (.int .i64 8)) (.tmp 27) 3)) (.one (.pure (some 29) false (.convert 3 54 (.tmp 28))) (.one (.read (some 21) false (.load 57 (.tmp 20))) (.one (.read (some 24) false (.load 5 (.tmp 23))) (.one (.pure (some 25) false (.convert 5 57 (.tmp 24))) (.one (.pure (some 30) false (.binOp .shl 57 (.tmp 25) (.tmp 29) 54)) (.one (.pure (some 31) false (.binOp .or 57 (.tmp 21) (.tmp 30) 57)) (.one (.pure (some 32) false (.indexAddr 63 (.tmp 7) (.tmp 16))) (.one (.eff none (.store 57 (.tmp 32) (.tmp 31))) .done))))))))))))))))))))
abbrev p_ref02_State_5 : PC := (.calm 0 786438 (.calm 1 786436 (.calm 2 786432 (.calm 3 917744 (.calm 4 917728 (.calm 5 917696 (.calm 6 917632 (.calm 8 986624 (.calm 9 986112 (.calm 12 1040384 (.calm 13 1032192 (.calm 14 1015808 (.calm 15 983040 (.calm 7 917504 (.calm 10 985088 (.calm 11 983040 (.calm 16 917504 (.calm 17 786432 (.calm 18 524288 (.act 19 .done))))))))))))))))))))
abbrev g_ref02_State_5 : List Dg := [⟨0, 256, 16384, .pure, true⟩, ⟨1, 16384, 32768, .pure, true⟩, ⟨2, 32768, 65536, .pure, true⟩, ⟨0, 256, 131072, .pure, true⟩, ⟨8, 131072, 262144, .pure, true⟩, ⟨16, 262144, 524288, .pure, true⟩, ⟨32, 524416, 1048576, .pure, true⟩, ⟨64, 1048576, 2097152, .read, true⟩, ⟨0, 256, 4194304, .pure, true⟩, ⟨256, 4194312, 8388608, .pure, true⟩, ⟨512, 8388608, 16777216, .read, true⟩, ⟨1024, 16777216, 33554432, .pure, true⟩, ⟨0, 256, 67108864, .pure, true⟩, ⟨4096, 67108864, 134217728, .pure, true⟩, ⟨8192, 134217728, 268435456, .pure, true⟩, ⟨16384, 268435456, 536870912, .pure, true⟩, ⟨34816, 570425344, 1073741824, .pure, true⟩, ⟨65664, 1075838976, 2147483648, .pure, true⟩, ⟨262143, 65664, 4294967296, .pure, true⟩, ⟨524287, 6442450944, 0, .eff, false⟩]
abbrev q_ref02_State_5 : List Nat := []
def s_ref02_State_4 : List AStep := [.pure (some 12) false (.move (.tmp 8)), .pure (some 13) false (.binOp .add 3 (.tmp 12) (.const (.int .i64 1)) 3), .pure (some 8) false (.assign (.tmp 13))]
abbrev p_ref02_State_4 : List Nat := [0, 1, 2]
def s_ref02_State_6 : List AStep := [.pure (some 33) false (.move (.tmp 1)), .pure (some 34) false (.indexAddr 63 (.tmp 7) (.const (.int .i64 12))), .eff none (.store 57 (.tmp 34) (.tmp 33))]
abbrev p_ref02_State_6 : List Nat := [0, 1, 2]
def s_ref02_State_7 : List AStep := [.pure (some 35) false (.move (.tmp 2)), .pure (some 36) false (.convert 24 57 (.tmp 35)), .pure (some 37) false (.indexAddr 63 (.tmp 7) (.const (.int .i64 14))), .eff none (.store 57 (.tmp 37) (.tmp 36))]
abbrev p_ref02_State_7 : List Nat := [0, 1, 2, 3]
def s_ref02_State_8 : List AStep := [.pure (some 38) false (.move (.tmp 2)), .pure (some 39) false (.binOp .shr 24 (.tmp 38) (.const (.int .u64 32)) 54), .pure (some 40) false (.convert 24 57 (.tmp 39)), .pure (some 41) false (.indexAddr 63 (.tmp 7) (.const (.int .i64 15))), .eff none (.store 57 (.tmp 41) (.tmp 40))]
abbrev p_ref02_State_8 : List Nat := [0, 1, 2, 3, 4]
def s_ref02_State_9 : List AStep := [.read (some 42) false (.load 63 (.tmp 7)), .eff none (.store 63 (.tmp 6) (.tmp 42))]
abbrev p_ref02_State_9 : List Nat := [0, 1]

/-! erewhile/erewhileref02.Rounds -/
abbrev n_ref02_Rounds : Nat := 35
theorem func_ref02_Rounds : Try.prog.funcs[n_ref02_Rounds]? = some Try.f35 := Try.func35
theorem call_ref02_Rounds : ∀ args w, (callFunc n_ref02_Rounds args).run Try.prog w = .ok (.enter n_ref02_Rounds args) w := Try.call35
theorem nt_ref02_Rounds : Try.f35.ntmps = 65 := Try.ntmps35
theorem rs_ref02_Rounds : Try.f35.results.toList = [.cell 2 63] := by rw [Try.results35]
def s_ref02_Rounds_0 : List AStep := [.eff (some 1) (.box 63 (.tmp 0)), .eff (some 2) (.alloc 63)]
abbrev p_ref02_Rounds_0 : List Nat := [0, 1]
def s_ref02_Rounds_1 : List AStep := [.pure (some 3) false (.assign (.const (.int .i64 0)))]
abbrev p_ref02_Rounds_1 : List Nat := [0]
def s_ref02_Rounds_2 : List AStep := [.pure (some 10) false (.move (.tmp 3)), .pure (some 11) false (.binOp .lss 3 (.tmp 10) (.const (.int .i64 20)) 3)]
abbrev p_ref02_Rounds_2 : List Nat := [0, 1]
def s_ref02_Rounds_4 : List AStep := [.pure (some 4) false (.assign (.const (.int .i64 0)))]
abbrev p_ref02_Rounds_4 : List Nat := [0]
def s_ref02_Rounds_5 : List AStep := [.pure (some 14) false (.move (.tmp 4)), .pure (some 15) false (.binOp .lss 3 (.tmp 14) (.const (.int .i64 4)) 3)]
abbrev p_ref02_Rounds_5 : List Nat := [0, 1]
def s_ref02_Rounds_7 : List AStep := [.pure (some 18) false (.move (.tmp 3)), .pure (some 19) false (.binOp .rem 3 (.tmp 18) (.const (.int .i64 2)) 3), .pure (some 5) false (.assign (.tmp 19))]
abbrev p_ref02_Rounds_7 : List Nat := [0, 1, 2]
def s_ref02_Rounds_8 : List AStep := [.pure (some 20) false (.move (.tmp 4)), .pure (some 21) false (.move (.tmp 4)), .pure (some 22) false (.move (.tmp 5)), .pure (some 23) false (.binOp .add 3 (.tmp 21) (.tmp 22) 3), .pure (some 24) false (.binOp .rem 3 (.tmp 23) (.const (.int .i64 4)) 3), .pure (some 25) false (.binOp .add 3 (.const (.int .i64 4)) (.tmp 24) 3), .pure (some 26) false (.move (.tmp 4)), .pure (some 27) false (.move (.tmp 5)), .pure (some 28) false (.binOp .mul 3 (.const (.int .i64 2)) (.tmp 27) 3), .pure (some 29) false (.binOp .add 3 (.tmp 26) (.tmp 28) 3), .pure (some 30) false (.binOp .rem 3 (.tmp 29) (.const (.int .i64 4)) 3), .pure (some 31) false (.binOp .add 3 (.const (.int .i64 8)) (.tmp 30) 3), .pure (some 32) false (.move (.tmp 4)), .pure (some 33) false (.move (.tmp 5)), .pure (some 34) false (.binOp .mul 3 (.const (.int .i64 3)) (.tmp 33) 3), .pure (some 35) false (.binOp .add 3 (.tmp 32) (.tmp 34) 3), .pure (some 36) false (.binOp .rem 3 (.tmp 35) (.const (.int .i64 4)) 3), .pure (some 37) false (.binOp .add 3 (.const (.int .i64 12)) (.tmp 36) 3), .pure (some 6) false (.assign (.tmp 20)), .pure (some 7) false (.assign (.tmp 25)), .pure (some 8) false (.assign (.tmp 31)), .pure (some 9) false (.assign (.tmp 37))]
abbrev p_ref02_Rounds_8 : List Nat := [0, 1, 2, 3, 4, 5, 6, 7, 8, 9, 10, 11, 12, 13, 14, 15, 16, 17, 18, 19, 20, 21]
def s_ref02_Rounds_9 : SP := (.one (.pure (some 39) false (.move (.tmp 6))) (.one (.pure (some 40) false (.move (.tmp 7))) (.one (.pure (some 41) false (.move (.tmp 8))) (.one (.pure (some 42) false (.move (.tmp 9))) (.one (.pure (some 43) false (.move (.tmp 6))) (.one (.pure (some 44) false (.indexAddr 63 (.tmp 1) (.tmp 43))) (.one (.pure (some 46) false (.move (.tmp 7))) (.one (.pure (some 47) false (.indexAddr 63 (.tmp 1) (.tmp 46))) (.one (.pure (some 49) false (.move (.tmp 8))) (.one (.pure (some 50) false (.indexAddr 63 (.tmp 1) (.tmp 49))) (.one (.pure (some 52) false (.move (.tmp 9))) (.one (.pure (some 53) false (.indexAddr 63 (.tmp 1) (.tmp 52))) (.one (.read (some 45) false (.load 57 (.tmp 44))) (.one (.read (some 48) false (.load 57 (.tmp 47))) (.one (.read (some 51) false (.load 57 (.tmp 50))) (.one (.read (some 54) false (.load 57 (.tmp 53))) (.one (.call (some 55) false ⟨.value (.func 45), #[.tmp 45, .tmp 48, .tmp 51, .tmp 54], #[57, 57, 57, 57]⟩) (.one (.pure (some 38) false (.move (.tmp 55))) (.one (.pure (some 56) false (.extract (.tmp 38) 0)) (.one (.pure (some 57) false (.extract (.tmp 38) 1)) (.one (.pure (some 58) false (.extract (.tmp 38) 2)) (.one (.pure (some 59) false (.extract (.tmp 38) 3)) (.one (.pure (some 60) false (.indexAddr 63 (.tmp 1) (.tmp 39))) (.one (.eff none (.store 57 (.tmp 60) (.tmp 56))) (.one (.pure (some 61) false (.indexAddr 63 (.tmp 1) (.tmp 40))) (.one (.eff none (.store 57 (.tmp 61) (.tmp 57))) (.one (.pure (some 62) false (.indexAddr 63 (.tmp 1) (.tmp 41))) (.one (.eff none (.store 57 (.tmp 62) (.tmp 58))) (.one (.pure (some 63) false (.indexAddr 63 (.tmp 1) (.tmp 42))) (.one (.eff none (.store 57 (.tmp 63) (.tmp 59))) .done))))))))))))))))))))))))))))))
abbrev p_ref02_Rounds_9 : PC := (.calm 0 1069547520 (.calm 1 1056964608 (.calm 2 1006632960 (.calm 3 805306368 (.calm 4 1073676384 (.calm 5 1073676352 (.calm 7 1073677056 (.calm 8 1073676800 (.calm 10 1073682432 (.calm 11 1073680384 (.calm 13 1073725440 (.calm 14 1073709056 (.calm 6 1073676288 (.calm 9 1073676288 (.calm 12 1073676288 (.calm 15 1073676288 (.act 16 (.calm 17 1073479680 (.calm 18 1069547520 (.calm 19 1056964608 (.calm 20 1006632960 (.calm 21 805306368 (.calm 22 1065353216 (.act 23 (.calm 24 1040187392 (.act 25 (.calm 26 939524096 (.act 27 (.calm 28 536870912 (.act 29 .done))))))))))))))))))))))))))))))
abbrev g_ref02_Rounds_9 : List Dg := [⟨0, 64, 549755813888, .pure, true⟩, ⟨0, 128, 1099511627776, .pure, true⟩, ⟨0, 256, 2199023255552, .pure, true⟩, ⟨0, 512, 4398046511104, .pure, true⟩, ⟨0, 64, 8796093022208, .pure, true⟩, ⟨16, 8796093022210, 17592186044416, .pure, true⟩, ⟨32, 17592186044416, 35184372088832, .read, true⟩, ⟨0, 128, 70368744177664, .pure, true⟩, ⟨128, 70368744177666, 140737488355328, .pure, true⟩, ⟨256, 140737488355328, 281474976710656, .read, true⟩, ⟨0, 256, 562949953421312, .pure, true⟩, ⟨1024, 562949953421314, 1125899906842624, .pure, true⟩, ⟨2048, 1125899906842624, 2251799813685248, .read, true⟩, ⟨0, 512, 4503599627370496, .pure, true⟩, ⟨8192, 4503599627370498, 9007199254740992, .pure, true⟩, ⟨16384, 9007199254740992, 18014398509481984, .read, true⟩, ⟨37440, 20582857671966720, 36028797018963968, .call, true⟩, ⟨65536, 36028797018963968, 274877906944, .pure, true⟩, ⟨131072, 274877906944, 72057594037927936, .pure, true⟩, ⟨131072, 274877906944, 144115188075855872, .pure, true⟩, ⟨131072, 274877906944, 288230376151711744, .pure, true⟩, ⟨131072, 274877906944, 576460752303423488, .pure, true⟩, ⟨524273, 549755813890, 1152921504606846976, .pure, true⟩, ⟨4718577, 1224979098644774912, 0, .eff, false⟩, ⟨13631475, 1099511627778, 2305843009213693952, .pure, true⟩, ⟨30408691, 2449958197289549824, 0, .eff, false⟩, ⟨65011703, 2199023255554, 4611686018427387904, .pure, true⟩, ⟨132120567, 4899916394579099648, 0, .eff, false⟩, ⟨268435455, 4398046511106, 9223372036854775808, .pure, true⟩, ⟨536870911, 9799832789158199296, 0, .eff, false⟩]
abbrev q_ref02_Rounds_9 : List Nat := []
def s_ref02_Rounds_6 : List AStep := [.pure (some 16) false (.move (.tmp 4)), .pure (some 17) false (.binOp .add 3 (.tmp 16) (.const (.int .i64 1)) 3), .pure (some 4) false (.assign (.tmp 17))]
abbrev p_ref02_Rounds_6 : List Nat := [0, 1, 2]
def s_ref02_Rounds_3 : List AStep := [.pure (some 12) false (.move (.tmp 3)), .pure (some 13) false (.binOp .add 3 (.tmp 12) (.const (.int .i64 1)) 3), .pure (some 3) false (.assign (.tmp 13))]
abbrev p_ref02_Rounds_3 : List Nat := [0, 1, 2]
def s_ref02_Rounds_10 : List AStep := [.read (some 64) false (.load 63 (.tmp 1)), .eff none (.store 63 (.tmp 2) (.tmp 64))]
abbrev p_ref02_Rounds_10 : List Nat := [0, 1]

/-! slices.Concat[[]byte,byte] -/
abbrev n_slices_Concat_byte_byte : Nat := 36
theorem func_slices_Concat_byte_byte : Try.prog.funcs[n_slices_Concat_byte_byte]? = some Try.f36 := Try.func36
theorem call_slices_Concat_byte_byte : ∀ args w, (callFunc n_slices_Concat_byte_byte args).run Try.prog w = .ok (.enter n_slices_Concat_byte_byte args) w := Try.call36
theorem nt_slices_Concat_byte_byte : Try.f36.ntmps = 36 := Try.ntmps36
theorem rs_slices_Concat_byte_byte : Try.f36.results.toList = [.tmp 2] := by rw [Try.results36]
def s_slices_Concat_byte_byte_0 : List AStep := [.pure (some 2) false (.assign (.const (.slice none 0 0)))]
abbrev p_slices_Concat_byte_byte_0 : List Nat := [0]
def s_slices_Concat_byte_byte_1 : List AStep := [.pure (some 3) false (.assign (.const (.int .i64 0)))]
abbrev p_slices_Concat_byte_byte_1 : List Nat := [0]
def s_slices_Concat_byte_byte_2 : List AStep := [.pure (some 9) false (.move (.tmp 0)), .pure (some 10) false (.call (.mk (.builtin .len) #[.tmp 9] #[77])), .pure (some 11) false (.move (.const (.int .i64 0)))]
abbrev p_slices_Concat_byte_byte_2 : List Nat := [0, 1, 2]
def s_slices_Concat_byte_byte_3 : List AStep := [.pure (some 12) false (.binOp .lss 3 (.tmp 11) (.tmp 10) 3)]
abbrev p_slices_Concat_byte_byte_3 : List Nat := [0]
def s_slices_Concat_byte_byte_4 : List AStep := [.pure (some 13) false (.indexAddr 77 (.tmp 9) (.tmp 11)), .read (some 14) false (.load 25 (.tmp 13)), .pure (some 5) false (.assign (.tmp 14))]
abbrev p_slices_Concat_byte_byte_4 : List Nat := [0, 1, 2]
def s_slices_Concat_byte_byte_5 : List AStep := [.pure (some 15) false (.move (.tmp 3)), .pure (some 16) false (.move (.tmp 5)), .pure (some 17) false (.call (.mk (.builtin .len) #[.tmp 16] #[25])), .pure (some 18) false (.binOp .add 3 (.tmp 15) (.tmp 17) 3), .pure (some 3) false (.assign (.tmp 18))]
abbrev p_slices_Concat_byte_byte_5 : List Nat := [0, 1, 2, 3, 4]
def s_slices_Concat_byte_byte_6 : List AStep := [.pure (some 19) false (.move (.tmp 3)), .pure (some 20) false (.binOp .lss 3 (.tmp 19) (.const (.int .i64 0)) 3)]
abbrev p_slices_Concat_byte_byte_6 : List Nat := [0, 1]
def s_slices_Concat_byte_byte_7 : List AStep := [.pure (some 21) false (.makeInterface 9 (.const (.string (ByteArray.mk #[108, 101, 110, 32, 111, 117, 116, 32, 111, 102, 32, 114, 97, 110, 103, 101])))), .pure none false (.panic (.tmp 21))]
abbrev p_slices_Concat_byte_byte_7 : List Nat := [0, 1]
def s_slices_Concat_byte_byte_8 : List AStep := [.pure (some 22) false (.binOp .add 3 (.tmp 11) (.const (.int .i64 1)) 3), .pure (some 11) false (.move (.tmp 22))]
abbrev p_slices_Concat_byte_byte_8 : List Nat := [0, 1]
def s_slices_Concat_byte_byte_9 : List AStep := [.pure (some 23) false (.move (.tmp 3)), .call (some 24) false ⟨.value (.func 46), #[.const (.slice none 0 0), .tmp 23], #[25, 3]⟩, .pure (some 6) false (.assign (.tmp 24))]
abbrev p_slices_Concat_byte_byte_9 : List Nat := [0, 1, 2]
def s_slices_Concat_byte_byte_10 : List AStep := [.pure (some 25) false (.move (.tmp 0)), .pure (some 26) false (.call (.mk (.builtin .len) #[.tmp 25] #[77])), .pure (some 27) false (.move (.const (.int .i64 0)))]
abbrev p_slices_Concat_byte_byte_10 : List Nat := [0, 1, 2]
def s_slices_Concat_byte_byte_11 : List AStep := [.pure (some 28) false (.binOp .lss 3 (.tmp 27) (.tmp 26) 3)]
abbrev p_slices_Concat_byte_byte_11 : List Nat := [0]
def s_slices_Concat_byte_byte_12 : List AStep := [.pure (some 29) false (.indexAddr 77 (.tmp 25) (.tmp 27)), .read (some 30) false (.load 25 (.tmp 29)), .pure (some 8) false (.assign (.tmp 30))]
abbrev p_slices_Concat_byte_byte_12 : List Nat := [0, 1, 2]
def s_slices_Concat_byte_byte_13 : List AStep := [.pure (some 31) false (.move (.tmp 6)), .pure (some 32) false (.move (.tmp 8)), .eff (some 33) (.call (.mk (.builtin .append) #[.tmp 31, .tmp 32] #[25, 25])), .pure (some 6) false (.assign (.tmp 33))]
abbrev p_slices_Concat_byte_byte_13 : List Nat := [0, 1, 2, 3]
def s_slices_Concat_byte_byte_14 : List AStep := [.pure (some 34) false (.binOp .add 3 (.tmp 27) (.const (.int .i64 1)) 3), .pure (some 27) false (.move (.tmp 34))]
abbrev p_slices_Concat_byte_byte_14 : List Nat := [0, 1]
def s_slices_Concat_byte_byte_15 : List AStep := [.pure (some 35) false (.move (.tmp 6)), .pure (some 2) false (.assign (.tmp 35))]
abbrev p_slices_Concat_byte_byte_15 : List Nat := [0, 1]

/-! erewhile/seal.half -/
abbrev n_seal_half : Nat := 37
theorem func_seal_half : Try.prog.funcs[n_seal_half]? = some Try.f37 := Try.func37
theorem call_seal_half : ∀ args w, (callFunc n_seal_half args).run Try.prog w = .ok (.enter n_seal_half args) w := Try.call37
theorem nt_seal_half : Try.f37.ntmps = 6 := Try.ntmps37
theorem rs_seal_half : Try.f37.results.toList = [.cell 2 48] := by rw [Try.results37]
def s_seal_half_0 : List AStep := [.eff (some 1) (.box 23 (.tmp 0)), .eff (some 2) (.alloc 48)]
abbrev p_seal_half_0 : List Nat := [0, 1]
def s_seal_half_1 : List AStep := [.pure (some 3) false (.slice 23 (.tmp 1) none (some (.const (.int .i64 16))) none), .pure (some 4) false (.sliceToArrayPointer 48 (.tmp 3)), .read (some 5) false (.load 48 (.tmp 4)), .eff none (.store 48 (.tmp 2) (.tmp 5))]
abbrev p_seal_half_1 : List Nat := [0, 1, 2, 3]

/-! erewhile/sha.word -/
abbrev n_sha_word : Nat := 41
theorem func_sha_word : Try.prog.funcs[n_sha_word]? = some Try.f41 := Try.func41
theorem call_sha_word : ∀ args w, (callFunc n_sha_word args).run Try.prog w = .ok (.enter n_sha_word args) w := Try.call41
theorem nt_sha_word : Try.f41.ntmps = 25 := Try.ntmps41
theorem rs_sha_word : Try.f41.results.toList = [.tmp 2] := by rw [Try.results41]
def s_sha_word_0 : List AStep := [.pure (some 2) false (.assign (.const (.int .u32 0)))]
abbrev p_sha_word_0 : List Nat := [0]
def s_sha_word_1 : SP := (.one (.pure (some 3) false (.move (.tmp 0))) (.one (.pure (some 4) false (.indexAddr 25 (.tmp 3) (.const (.int .i64 0)))) (.one (.pure (some 8) false (.move (.tmp 0))) (.one (.pure (some 9) false (.indexAddr 25 (.tmp 8) (.const (.int .i64 1)))) (.one (.pure (some 14) false (.move (.tmp 0))) (.one (.pure (some 15) false (.indexAddr 25 (.tmp 14) (.const (.int .i64 2)))) (.one (.pure (some 20) false (.move (.tmp 0))) (.one (.pure (some 21) false (.indexAddr 25 (.tmp 20) (.const (.int .i64 3)))) (.one (.read (some 5) false (.load 5 (.tmp 4))) (.one (.pure (some 6) false (.convert 5 57 (.tmp 5))) (.one (.pure (some 7) false (.binOp .shl 57 (.tmp 6) (.const (.int .u64 24)) 54)) (.one (.read (some 10) false (.load 5 (.tmp 9))) (.one (.pure (some 11) false (.convert 5 57 (.tmp 10))) (.one (.pure (some 12) false (.binOp .shl 57 (.tmp 11) (.const (.int .u64 16)) 54)) (.one (.pure (some 13) false (.binOp .or 57 (.tmp 7) (.tmp 12) 57)) (.one (.read (some 16) false (.load 5 (.tmp 15))) (.one (.pure (some 17) false (.convert 5 57 (.tmp 16))) (.one (.pure (some 18) false (.binOp .shl 57 (.tmp 17) (.const (.int .u64 8)) 54)) (.one (.pure (some 19) false (.binOp .or 57 (.tmp 13) (.tmp 18) 57)) (.one (.read (some 22) false (.load 5 (.tmp 21))) (.one (.pure (some 23) false (.convert 5 57 (.tmp 22))) (.one (.pure (some 24) false (.binOp .or 57 (.tmp 19) (.tmp 23) 57)) (.one (.pure (some 2) false (.assign (.tmp 24))) .done)))))))))))))))))))))))
abbrev p_sha_word_1 : PC := (.calm 0 6358046 (.calm 1 6358044 (.calm 5 6358976 (.calm 6 6358912 (.calm 11 6418432 (.calm 12 6414336 (.calm 17 8126464 (.calm 18 7864320 (.calm 2 6358040 (.calm 3 6358032 (.calm 4 6358016 (.calm 7 6358784 (.calm 8 6358528 (.calm 9 6358016 (.calm 10 6356992 (.calm 13 6406144 (.calm 14 6389760 (.calm 15 6356992 (.calm 16 6291456 (.calm 19 7340032 (.calm 20 6291456 (.calm 21 4194304 (.calm 22 0 .done)))))))))))))))))))))))
abbrev g_sha_word_1 : List Dg := [⟨0, 1, 8, .pure, true⟩, ⟨1, 8, 16, .pure, true⟩, ⟨2, 16, 32, .read, true⟩, ⟨4, 32, 64, .pure, true⟩, ⟨8, 64, 128, .pure, true⟩, ⟨0, 1, 256, .pure, true⟩, ⟨32, 256, 512, .pure, true⟩, ⟨64, 512, 1024, .read, true⟩, ⟨128, 1024, 2048, .pure, true⟩, ⟨256, 2048, 4096, .pure, true⟩, ⟨528, 4224, 8192, .pure, true⟩, ⟨0, 1, 16384, .pure, true⟩, ⟨2048, 16384, 32768, .pure, true⟩, ⟨4096, 32768, 65536, .read, true⟩, ⟨8192, 65536, 131072, .pure, true⟩, ⟨16384, 131072, 262144, .pure, true⟩, ⟨33792, 270336, 524288, .pure, true⟩, ⟨0, 1, 1048576, .pure, true⟩, ⟨131072, 1048576, 2097152, .pure, true⟩, ⟨262144, 2097152, 4194304, .read, true⟩, ⟨524288, 4194304, 8388608, .pure, true⟩, ⟨1114112, 8912896, 16777216, .pure, true⟩, ⟨4194303, 16777216, 4, .pure, true⟩]
abbrev q_sha_word_1 : List Nat := []

/-! erewhile/sha.turn -/
abbrev n_sha_turn : Nat := 42
theorem func_sha_turn : Try.prog.funcs[n_sha_turn]? = some Try.f42 := Try.func42
theorem call_sha_turn : ∀ args w, (callFunc n_sha_turn args).run Try.prog w = .ok (.enter n_sha_turn args) w := Try.call42
theorem nt_sha_turn : Try.f42.ntmps = 9 := Try.ntmps42
theorem rs_sha_turn : Try.f42.results.toList = [.tmp 4] := by rw [Try.results42]
def s_sha_turn_0 : List AStep := [.pure (some 4) false (.assign (.const (.int .u32 0)))]
abbrev p_sha_turn_0 : List Nat := [0]
def s_sha_turn_1 : List AStep := [.pure (some 5) false (.move (.tmp 0)), .pure (some 6) false (.move (.tmp 1)), .pure (some 7) false (.unOp .neg 3 (.tmp 6)), .call (some 8) false ⟨.value (.func 50), #[.tmp 5, .tmp 7], #[57, 3]⟩, .pure (some 4) false (.assign (.tmp 8))]
abbrev p_sha_turn_1 : List Nat := [0, 1, 2, 3, 4]

/-! erewhile/sha.rounds -/
abbrev n_sha_rounds : Nat := 43
theorem func_sha_rounds : Try.prog.funcs[n_sha_rounds]? = some Try.f43 := Try.func43
theorem call_sha_rounds : ∀ args w, (callFunc n_sha_rounds args).run Try.prog w = .ok (.enter n_sha_rounds args) w := Try.call43
theorem nt_sha_rounds : Try.f43.ntmps = 2 := Try.ntmps43
theorem rs_sha_rounds : Try.f43.results.toList = [.cell 0 70] := by rw [Try.results43]
def s_sha_rounds_0 : List AStep := [.eff (some 0) (.alloc 70)]
abbrev p_sha_rounds_0 : List Nat := [0]
def s_sha_rounds_1 : List AStep := [.pure (some 1) false (.build 70 #[(0, .const (.int .u32 1116352408)), (1, .const (.int .u32 1899447441)), (2, .const (.int .u32 3049323471)), (3, .const (.int .u32 3921009573)), (4, .const (.int .u32 961987163)), (5, .const (.int .u32 1508970993)), (6, .const (.int .u32 2453635748)), (7, .const (.int .u32 2870763221)), (8, .const (.int .u32 3624381080)), (9, .const (.int .u32 310598401)), (10, .const (.int .u32 607225278)), (11, .const (.int .u32 1426881987)), (12, .const (.int .u32 1925078388)), (13, .const (.int .u32 2162078206)), (14, .const (.int .u32 2614888103)), (15, .const (.int .u32 3248222580)), (16, .const (.int .u32 3835390401)), (17, .const (.int .u32 4022224774)), (18, .const (.int .u32 264347078)), (19, .const (.int .u32 604807628)), (20, .const (.int .u32 770255983)), (21, .const (.int .u32 1249150122)), (22, .const (.int .u32 1555081692)), (23, .const (.int .u32 1996064986)), (24, .const (.int .u32 2554220882)), (25, .const (.int .u32 2821834349)), (26, .const (.int .u32 2952996808)), (27, .const (.int .u32 3210313671)), (28, .const (.int .u32 3336571891)), (29, .const (.int .u32 3584528711)), (30, .const (.int .u32 113926993)), (31, .const (.int .u32 338241895)), (32, .const (.int .u32 666307205)), (33, .const (.int .u32 773529912)), (34, .const (.int .u32 1294757372)), (35, .const (.int .u32 1396182291)), (36, .const (.int .u32 1695183700)), (37, .const (.int .u32 1986661051)), (38, .const (.int .u32 2177026350)), (39, .const (.int .u32 2456956037)), (40, .const (.int .u32 2730485921)), (41, .const (.int .u32 2820302411)), (42, .const (.int .u32 3259730800)), (43, .const (.int .u32 3345764771)), (44, .const (.int .u32 3516065817)), (45, .const (.int .u32 3600352804)), (46, .const (.int .u32 4094571909)), (47, .const (.int .u32 275423344)), (48, .const (.int .u32 430227734)), (49, .const (.int .u32 506948616)), (50, .const (.int .u32 659060556)), (51, .const (.int .u32 883997877)), (52, .const (.int .u32 958139571)), (53, .const (.int .u32 1322822218)), (54, .const (.int .u32 1537002063)), (55, .const (.int .u32 1747873779)), (56, .const (.int .u32 1955562222)), (57, .const (.int .u32 2024104815)), (58, .const (.int .u32 2227730452)), (59, .const (.int .u32 2361852424)), (60, .const (.int .u32 2428436474)), (61, .const (.int .u32 2756734187)), (62, .const (.int .u32 3204031479)), (63, .const (.int .u32 3329325298))]), .eff none (.store 70 (.tmp 0) (.tmp 1))]
abbrev p_sha_rounds_1 : List Nat := [0, 1]

/-! erewhile/chacha.quarter -/
abbrev n_chacha_quarter : Nat := 44
theorem func_chacha_quarter : Try.prog.funcs[n_chacha_quarter]? = some Try.f44 := Try.func44
theorem call_chacha_quarter : ∀ args w, (callFunc n_chacha_quarter args).run Try.prog w = .ok (.enter n_chacha_quarter args) w := Try.call44
theorem nt_chacha_quarter : Try.f44.ntmps = 38 := Try.ntmps44
theorem rs_chacha_quarter : Try.f44.results.toList = [.cell 10 63] := by rw [Try.results44]
def s_chacha_quarter_0 : List AStep := [.eff (some 5) (.box 63 (.tmp 0)), .eff (some 10) (.alloc 63)]
abbrev p_chacha_quarter_0 : List Nat := [0, 1]
def s_chacha_quarter_1 : SP := (.one (.pure (some 12) false (.move (.tmp 1))) (.one (.pure (some 13) false (.move (.tmp 2))) (.one (.pure (some 14) false (.move (.tmp 3))) (.one (.pure (some 15) false (.move (.tmp 4))) (.one (.pure (some 16) false (.move (.tmp 1))) (.one (.pure (some 17) false (.indexAddr 63 (.tmp 5) (.tmp 16))) (.one (.pure (some 19) false (.move (.tmp 2))) (.one (.pure (some 20) false (.indexAddr 63 (.tmp 5) (.tmp 19))) (.one (.pure (some 22) false (.move (.tmp 3))) (.one (.pure (some 23) false (.indexAddr 63 (.tmp 5) (.tmp 22))) (.one (.pure (some 25) false (.move (.tmp 4))) (.one (.pure (some 26) false (.indexAddr 63 (.tmp 5) (.tmp 25))) (.one (.read (some 18) false (.load 57 (.tmp 17))) (.one (.read (some 21) false (.load 57 (.tmp 20))) (.one (.read (some 24) false (.load 57 (.tmp 23))) (.one (.read (some 27) false (.load 57 (.tmp 26))) (.one (.call (some 28) false ⟨.value (.func 51), #[.tmp 18, .tmp 21, .tmp 24, .tmp 27], #[57, 57, 57, 57]⟩) (.one (.pure (some 11) false (.move (.tmp 28))) (.one (.pure (some 29) false (.extract (.tmp 11) 0)) (.one (.pure (some 30) false (.extract (.tmp 11) 1)) (.one (.pure (some 31) false (.extract (.tmp 11) 2)) (.one (.pure (some 32) false (.extract (.tmp 11) 3)) (.one (.pure (some 33) false (.indexAddr 63 (.tmp 5) (.tmp 12))) (.one (.eff none (.store 57 (.tmp 33) (.tmp 29))) (.one (.pure (some 34) false (.indexAddr 63 (.tmp 5) (.tmp 13))) (.one (.eff none (.store 57 (.tmp 34) (.tmp 30))) (.one (.pure (some 35) false (.indexAddr 63 (.tmp 5) (.tmp 14))) (.one (.eff none (.store 57 (.tmp 35) (.tmp 31))) (.one (.pure (some 36) false (.indexAddr 63 (.tmp 5) (.tmp 15))) (.one (.eff none (.store 57 (.tmp 36) (.tmp 32))) .done))))))))))))))))))))))))))))))
abbrev p_chacha_quarter_1 : PC := (.calm 0 1069547520 (.calm 1 1056964608 (.calm 2 1006632960 (.calm 3 805306368 (.calm 4 1073676384 (.calm 5 1073676352 (.calm 7 1073677056 (.calm 8 1073676800 (.calm 10 1073682432 (.calm 11 1073680384 (.calm 13 1073725440 (.calm 14 1073709056 (.calm 6 1073676288 (.calm 9 1073676288 (.calm 12 1073676288 (.calm 15 1073676288 (.act 16 (.calm 17 1073479680 (.calm 18 1069547520 (.calm 19 1056964608 (.calm 20 1006632960 (.calm 21 805306368 (.calm 22 1065353216 (.act 23 (.calm 24 1040187392 (.act 25 (.calm 26 939524096 (.act 27 (.calm 28 536870912 (.act 29 .done))))))))))))))))))))))))))))))
abbrev g_chacha_quarter_1 : List Dg := [⟨0, 2, 4096, .pure, true⟩, ⟨0, 4, 8192, .pure, true⟩, ⟨0, 8, 16384, .pure, true⟩, ⟨0, 16, 32768, .pure, true⟩, ⟨0, 2, 65536, .pure, true⟩, ⟨16, 65568, 131072, .pure, true⟩, ⟨32, 131072, 262144, .read, true⟩, ⟨0, 4, 524288, .pure, true⟩, ⟨128, 524320, 1048576, .pure, true⟩, ⟨256, 1048576, 2097152, .read, true⟩, ⟨0, 8, 4194304, .pure, true⟩, ⟨1024, 4194336, 8388608, .pure, true⟩, ⟨2048, 8388608, 16777216, .read, true⟩, ⟨0, 16, 33554432, .pure, true⟩, ⟨8192, 33554464, 67108864, .pure, true⟩, ⟨16384, 67108864, 134217728, .read, true⟩, ⟨37440, 153354240, 268435456, .call, true⟩, ⟨65536, 268435456, 2048, .pure, true⟩, ⟨131072, 2048, 536870912, .pure, true⟩, ⟨131072, 2048, 1073741824, .pure, true⟩, ⟨131072, 2048, 2147483648, .pure, true⟩, ⟨131072, 2048, 4294967296, .pure, true⟩, ⟨524273, 4128, 8589934592, .pure, true⟩, ⟨4718577, 9126805504, 0, .eff, false⟩, ⟨13631475, 8224, 17179869184, .pure, true⟩, ⟨30408691, 18253611008, 0, .eff, false⟩, ⟨65011703, 16416, 34359738368, .pure, true⟩, ⟨132120567, 36507222016, 0, .eff, false⟩, ⟨268435455, 32800, 68719476736, .pure, true⟩, ⟨536870911, 73014444032, 0, .eff, false⟩]
abbrev q_chacha_quarter_1 : List Nat := []
def s_chacha_quarter_2 : List AStep := [.read (some 37) false (.load 63 (.tmp 5)), .eff none (.store 63 (.tmp 10) (.tmp 37))]
abbrev p_chacha_quarter_2 : List Nat := [0, 1]

/-! erewhile/erewhileref02.Quarter -/
abbrev n_ref02_Quarter : Nat := 45
theorem func_ref02_Quarter : Try.prog.funcs[n_ref02_Quarter]? = some Try.f45 := Try.func45
theorem call_ref02_Quarter : ∀ args w, (callFunc n_ref02_Quarter args).run Try.prog w = .ok (.enter n_ref02_Quarter args) w := Try.call45
theorem nt_ref02_Quarter : Try.f45.ntmps = 44 := Try.ntmps45
theorem rs_ref02_Quarter : Try.f45.results.toList = [.tmp 8, .tmp 9, .tmp 10, .tmp 11] := by rw [Try.results45]
def s_ref02_Quarter_0 : List AStep := [.pure (some 8) false (.assign (.const (.int .u32 0))), .pure (some 9) false (.assign (.const (.int .u32 0))), .pure (some 10) false (.assign (.const (.int .u32 0))), .pure (some 11) false (.assign (.const (.int .u32 0)))]
abbrev p_ref02_Quarter_0 : List Nat := [0, 1, 2, 3]
def s_ref02_Quarter_1 : List AStep := [.pure (some 12) false (.move (.tmp 0)), .pure (some 13) false (.move (.tmp 1)), .pure (some 14) false (.binOp .add 57 (.tmp 12) (.tmp 13) 57), .pure (some 0) false (.assign (.tmp 14))]
abbrev p_ref02_Quarter_1 : List Nat := [0, 1, 2, 3]
def s_ref02_Quarter_2 : List AStep := [.pure (some 15) false (.move (.tmp 3)), .pure (some 16) false (.move (.tmp 0)), .pure (some 17) false (.binOp .xor 57 (.tmp 15) (.tmp 16) 57), .call (some 18) false ⟨.value (.func 52), #[.tmp 17, .const (.int .i64 16)], #[57, 3]⟩, .pure (some 3) false (.assign (.tmp 18))]
abbrev p_ref02_Quarter_2 : List Nat := [0, 1, 2, 3, 4]
def s_ref02_Quarter_3 : List AStep := [.pure (some 19) false (.move (.tmp 2)), .pure (some 20) false (.move (.tmp 3)), .pure (some 21) false (.binOp .add 57 (.tmp 19) (.tmp 20) 57), .pure (some 2) false (.assign (.tmp 21))]
abbrev p_ref02_Quarter_3 : List Nat := [0, 1, 2, 3]
def s_ref02_Quarter_4 : List AStep := [.pure (some 22) false (.move (.tmp 1)), .pure (some 23) false (.move (.tmp 2)), .pure (some 24) false (.binOp .xor 57 (.tmp 22) (.tmp 23) 57), .call (some 25) false ⟨.value (.func 52), #[.tmp 24, .const (.int .i64 12)], #[57, 3]⟩, .pure (some 1) false (.assign (.tmp 25))]
abbrev p_ref02_Quarter_4 : List Nat := [0, 1, 2, 3, 4]
def s_ref02_Quarter_5 : List AStep := [.pure (some 26) false (.move (.tmp 0)), .pure (some 27) false (.move (.tmp 1)), .pure (some 28) false (.binOp .add 57 (.tmp 26) (.tmp 27) 57), .pure (some 0) false (.assign (.tmp 28))]
abbrev p_ref02_Quarter_5 : List Nat := [0, 1, 2, 3]
def s_ref02_Quarter_6 : List AStep := [.pure (some 29) false (.move (.tmp 3)), .pure (some 30) false (.move (.tmp 0)), .pure (some 31) false (.binOp .xor 57 (.tmp 29) (.tmp 30) 57), .call (some 32) false ⟨.value (.func 52), #[.tmp 31, .const (.int .i64 8)], #[57, 3]⟩, .pure (some 3) false (.assign (.tmp 32))]
abbrev p_ref02_Quarter_6 : List Nat := [0, 1, 2, 3, 4]
def s_ref02_Quarter_7 : List AStep := [.pure (some 33) false (.move (.tmp 2)), .pure (some 34) false (.move (.tmp 3)), .pure (some 35) false (.binOp .add 57 (.tmp 33) (.tmp 34) 57), .pure (some 2) false (.assign (.tmp 35))]
abbrev p_ref02_Quarter_7 : List Nat := [0, 1, 2, 3]
def s_ref02_Quarter_8 : List AStep := [.pure (some 36) false (.move (.tmp 1)), .pure (some 37) false (.move (.tmp 2)), .pure (some 38) false (.binOp .xor 57 (.tmp 36) (.tmp 37) 57), .call (some 39) false ⟨.value (.func 52), #[.tmp 38, .const (.int .i64 7)], #[57, 3]⟩, .pure (some 1) false (.assign (.tmp 39))]
abbrev p_ref02_Quarter_8 : List Nat := [0, 1, 2, 3, 4]
def s_ref02_Quarter_9 : List AStep := [.pure (some 40) false (.move (.tmp 0)), .pure (some 41) false (.move (.tmp 1)), .pure (some 42) false (.move (.tmp 2)), .pure (some 43) false (.move (.tmp 3)), .pure (some 8) false (.assign (.tmp 40)), .pure (some 9) false (.assign (.tmp 41)), .pure (some 10) false (.assign (.tmp 42)), .pure (some 11) false (.assign (.tmp 43))]
abbrev p_ref02_Quarter_9 : List Nat := [0, 1, 2, 3, 4, 5, 6, 7]

/-! slices.Grow[[]byte,byte] -/
abbrev n_slices_Grow_byte_byte : Nat := 46
theorem func_slices_Grow_byte_byte : Try.prog.funcs[n_slices_Grow_byte_byte]? = some Try.f46 := Try.func46
theorem call_slices_Grow_byte_byte : ∀ args w, (callFunc n_slices_Grow_byte_byte args).run Try.prog w = .ok (.enter n_slices_Grow_byte_byte args) w := Try.call46
theorem nt_slices_Grow_byte_byte : Try.f46.ntmps = 27 := Try.ntmps46
theorem rs_slices_Grow_byte_byte : Try.f46.results.toList = [.tmp 4] := by rw [Try.results46]
def s_slices_Grow_byte_byte_0 : List AStep := [.pure (some 4) false (.assign (.const (.slice none 0 0)))]
abbrev p_slices_Grow_byte_byte_0 : List Nat := [0]
def s_slices_Grow_byte_byte_1 : List AStep := [.pure (some 5) false (.move (.tmp 1)), .pure (some 6) false (.binOp .lss 3 (.tmp 5) (.const (.int .i64 0)) 3)]
abbrev p_slices_Grow_byte_byte_1 : List Nat := [0, 1]
def s_slices_Grow_byte_byte_2 : List AStep := [.pure (some 7) false (.makeInterface 9 (.const (.string (ByteArray.mk #[99, 97, 110, 110, 111, 116, 32, 98, 101, 32, 110, 101, 103, 97, 116, 105, 118, 101])))), .pure none false (.panic (.tmp 7))]
abbrev p_slices_Grow_byte_byte_2 : List Nat := [0, 1]
def s_slices_Grow_byte_byte_3 : List AStep := [.pure (some 8) false (.move (.tmp 1)), .pure (some 9) false (.move (.tmp 0)), .pure (some 10) false (.call (.mk (.builtin .cap) #[.tmp 9] #[25])), .pure (some 11) false (.move (.tmp 0)), .pure (some 12) false (.call (.mk (.builtin .len) #[.tmp 11] #[25])), .pure (some 13) false (.binOp .sub 3 (.tmp 10) (.tmp 12) 3), .pure (some 14) false (.binOp .sub 3 (.tmp 8) (.tmp 13) 3), .pure (some 1) false (.assign (.tmp 14))]
abbrev p_slices_Grow_byte_byte_3 : List Nat := [0, 1, 2, 3, 4, 5, 6, 7]
def s_slices_Grow_byte_byte_4 : List AStep := [.pure (some 15) false (.move (.tmp 1)), .pure (some 16) false (.binOp .gtr 3 (.tmp 15) (.const (.int .i64 0)) 3)]
abbrev p_slices_Grow_byte_byte_4 : List Nat := [0, 1]
def s_slices_Grow_byte_byte_5 : List AStep := [.pure (some 17) false (.move (.tmp 0)), .pure (some 18) false (.move (.tmp 0)), .pure (some 19) false (.call (.mk (.builtin .cap) #[.tmp 18] #[25])), .pure (some 20) false (.slice 25 (.tmp 17) none (some (.tmp 19)) none), .pure (some 21) false (.move (.tmp 1)), .eff (some 22) (.call (.mk (.builtin .append) #[.tmp 20, .tmp 21] #[25, 3])), .pure (some 23) false (.move (.tmp 0)), .pure (some 24) false (.call (.mk (.builtin .len) #[.tmp 23] #[25])), .pure (some 25) false (.slice 25 (.tmp 22) none (some (.tmp 24)) none), .pure (some 0) false (.assign (.tmp 25))]
abbrev p_slices_Grow_byte_byte_5 : List Nat := [0, 1, 2, 3, 4, 5, 6, 7, 8, 9]
def s_slices_Grow_byte_byte_6 : List AStep := [.pure (some 26) false (.move (.tmp 0)), .pure (some 4) false (.assign (.tmp 26))]
abbrev p_slices_Grow_byte_byte_6 : List Nat := [0, 1]

/-! math/bits.RotateLeft32 -/
abbrev n_bits_RotateLeft32 : Nat := 50
theorem func_bits_RotateLeft32 : Try.prog.funcs[n_bits_RotateLeft32]? = some Try.f50 := Try.func50
theorem call_bits_RotateLeft32 : ∀ args w, (callFunc n_bits_RotateLeft32 args).run Try.prog w = .ok (.enter n_bits_RotateLeft32 args) w := Try.call50
theorem nt_bits_RotateLeft32 : Try.f50.ntmps = 17 := Try.ntmps50
theorem rs_bits_RotateLeft32 : Try.f50.results.toList = [.tmp 4] := by rw [Try.results50]
def s_bits_RotateLeft32_0 : List AStep := [.pure (some 4) false (.assign (.const (.int .u32 0)))]
abbrev p_bits_RotateLeft32_0 : List Nat := [0]
def s_bits_RotateLeft32_1 : List AStep := [.pure (some 6) false (.move (.tmp 1)), .pure (some 7) false (.convert 3 54 (.tmp 6)), .pure (some 8) false (.binOp .and 54 (.tmp 7) (.const (.int .u64 31)) 54), .pure (some 5) false (.assign (.tmp 8))]
abbrev p_bits_RotateLeft32_1 : List Nat := [0, 1, 2, 3]
def s_bits_RotateLeft32_2 : List AStep := [.pure (some 9) false (.move (.tmp 0)), .pure (some 10) false (.move (.tmp 5)), .pure (some 11) false (.binOp .shl 57 (.tmp 9) (.tmp 10) 54), .pure (some 12) false (.move (.tmp 0)), .pure (some 13) false (.move (.tmp 5)), .pure (some 14) false (.binOp .sub 54 (.const (.int .u64 32)) (.tmp 13) 54), .pure (some 15) false (.binOp .shr 57 (.tmp 12) (.tmp 14) 54), .pure (some 16) false (.binOp .or 57 (.tmp 11) (.tmp 15) 57), .pure (some 4) false (.assign (.tmp 16))]
abbrev p_bits_RotateLeft32_2 : List Nat := [0, 1, 2, 3, 4, 5, 6, 7, 8]

/-! erewhile/chacha.Quarter -/
abbrev n_chacha_Quarter : Nat := 51
theorem func_chacha_Quarter : Try.prog.funcs[n_chacha_Quarter]? = some Try.f51 := Try.func51
theorem call_chacha_Quarter : ∀ args w, (callFunc n_chacha_Quarter args).run Try.prog w = .ok (.enter n_chacha_Quarter args) w := Try.call51
theorem nt_chacha_Quarter : Try.f51.ntmps = 44 := Try.ntmps51
theorem rs_chacha_Quarter : Try.f51.results.toList = [.tmp 8, .tmp 9, .tmp 10, .tmp 11] := by rw [Try.results51]
def s_chacha_Quarter_0 : List AStep := [.pure (some 8) false (.assign (.const (.int .u32 0))), .pure (some 9) false (.assign (.const (.int .u32 0))), .pure (some 10) false (.assign (.const (.int .u32 0))), .pure (some 11) false (.assign (.const (.int .u32 0)))]
abbrev p_chacha_Quarter_0 : List Nat := [0, 1, 2, 3]
def s_chacha_Quarter_1 : List AStep := [.pure (some 12) false (.move (.tmp 0)), .pure (some 13) false (.move (.tmp 1)), .pure (some 14) false (.binOp .add 57 (.tmp 12) (.tmp 13) 57), .pure (some 0) false (.assign (.tmp 14))]
abbrev p_chacha_Quarter_1 : List Nat := [0, 1, 2, 3]
def s_chacha_Quarter_2 : List AStep := [.pure (some 15) false (.move (.tmp 3)), .pure (some 16) false (.move (.tmp 0)), .pure (some 17) false (.binOp .xor 57 (.tmp 15) (.tmp 16) 57), .call (some 18) false ⟨.value (.func 50), #[.tmp 17, .const (.int .i64 16)], #[57, 3]⟩, .pure (some 3) false (.assign (.tmp 18))]
abbrev p_chacha_Quarter_2 : List Nat := [0, 1, 2, 3, 4]
def s_chacha_Quarter_3 : List AStep := [.pure (some 19) false (.move (.tmp 2)), .pure (some 20) false (.move (.tmp 3)), .pure (some 21) false (.binOp .add 57 (.tmp 19) (.tmp 20) 57), .pure (some 2) false (.assign (.tmp 21))]
abbrev p_chacha_Quarter_3 : List Nat := [0, 1, 2, 3]
def s_chacha_Quarter_4 : List AStep := [.pure (some 22) false (.move (.tmp 1)), .pure (some 23) false (.move (.tmp 2)), .pure (some 24) false (.binOp .xor 57 (.tmp 22) (.tmp 23) 57), .call (some 25) false ⟨.value (.func 50), #[.tmp 24, .const (.int .i64 12)], #[57, 3]⟩, .pure (some 1) false (.assign (.tmp 25))]
abbrev p_chacha_Quarter_4 : List Nat := [0, 1, 2, 3, 4]
def s_chacha_Quarter_5 : List AStep := [.pure (some 26) false (.move (.tmp 0)), .pure (some 27) false (.move (.tmp 1)), .pure (some 28) false (.binOp .add 57 (.tmp 26) (.tmp 27) 57), .pure (some 0) false (.assign (.tmp 28))]
abbrev p_chacha_Quarter_5 : List Nat := [0, 1, 2, 3]
def s_chacha_Quarter_6 : List AStep := [.pure (some 29) false (.move (.tmp 3)), .pure (some 30) false (.move (.tmp 0)), .pure (some 31) false (.binOp .xor 57 (.tmp 29) (.tmp 30) 57), .call (some 32) false ⟨.value (.func 50), #[.tmp 31, .const (.int .i64 8)], #[57, 3]⟩, .pure (some 3) false (.assign (.tmp 32))]
abbrev p_chacha_Quarter_6 : List Nat := [0, 1, 2, 3, 4]
def s_chacha_Quarter_7 : List AStep := [.pure (some 33) false (.move (.tmp 2)), .pure (some 34) false (.move (.tmp 3)), .pure (some 35) false (.binOp .add 57 (.tmp 33) (.tmp 34) 57), .pure (some 2) false (.assign (.tmp 35))]
abbrev p_chacha_Quarter_7 : List Nat := [0, 1, 2, 3]
def s_chacha_Quarter_8 : List AStep := [.pure (some 36) false (.move (.tmp 1)), .pure (some 37) false (.move (.tmp 2)), .pure (some 38) false (.binOp .xor 57 (.tmp 36) (.tmp 37) 57), .call (some 39) false ⟨.value (.func 50), #[.tmp 38, .const (.int .i64 7)], #[57, 3]⟩, .pure (some 1) false (.assign (.tmp 39))]
abbrev p_chacha_Quarter_8 : List Nat := [0, 1, 2, 3, 4]
def s_chacha_Quarter_9 : List AStep := [.pure (some 40) false (.move (.tmp 0)), .pure (some 41) false (.move (.tmp 1)), .pure (some 42) false (.move (.tmp 2)), .pure (some 43) false (.move (.tmp 3)), .pure (some 8) false (.assign (.tmp 40)), .pure (some 9) false (.assign (.tmp 41)), .pure (some 10) false (.assign (.tmp 42)), .pure (some 11) false (.assign (.tmp 43))]
abbrev p_chacha_Quarter_9 : List Nat := [0, 1, 2, 3, 4, 5, 6, 7]

/-! erewhile/erewhileref02.turned -/
abbrev n_ref02_turned : Nat := 52
theorem func_ref02_turned : Try.prog.funcs[n_ref02_turned]? = some Try.f52 := Try.func52
theorem call_ref02_turned : ∀ args w, (callFunc n_ref02_turned args).run Try.prog w = .ok (.enter n_ref02_turned args) w := Try.call52
theorem nt_ref02_turned : Try.f52.ntmps = 15 := Try.ntmps52
theorem rs_ref02_turned : Try.f52.results.toList = [.tmp 4] := by rw [Try.results52]
def s_ref02_turned_0 : List AStep := [.pure (some 4) false (.assign (.const (.int .u32 0)))]
abbrev p_ref02_turned_0 : List Nat := [0]
def s_ref02_turned_1 : List AStep := [.pure (some 5) false (.move (.tmp 0)), .pure (some 6) false (.move (.tmp 1)), .pure (some 7) false (.convert 3 54 (.tmp 6)), .pure (some 8) false (.binOp .shl 57 (.tmp 5) (.tmp 7) 54), .pure (some 9) false (.move (.tmp 0)), .pure (some 10) false (.move (.tmp 1)), .pure (some 11) false (.binOp .sub 3 (.const (.int .i64 32)) (.tmp 10) 3), .pure (some 12) false (.convert 3 54 (.tmp 11)), .pure (some 13) false (.binOp .shr 57 (.tmp 9) (.tmp 12) 54), .pure (some 14) false (.binOp .or 57 (.tmp 8) (.tmp 13) 57), .pure (some 4) false (.assign (.tmp 14))]
abbrev p_ref02_turned_1 : List Nat := [0, 1, 2, 3, 4, 5, 6, 7, 8, 9, 10]

/-! (erewhile/erewhilelaw05.Lit).Pad -/
abbrev n_law05_Lit_Pad : Nat := 76
theorem func_law05_Lit_Pad : Try.prog.funcs[n_law05_Lit_Pad]? = some Try.f76 := Try.func76
theorem call_law05_Lit_Pad : ∀ args w, (callFunc n_law05_Lit_Pad args).run Try.prog w = .ok (.enter n_law05_Lit_Pad args) w := Try.call76
theorem nt_law05_Lit_Pad : Try.f76.ntmps = 36 := Try.ntmps76
theorem rs_law05_Lit_Pad : Try.f76.results.toList = [.cell 6 33] := by rw [Try.results76]
def s_law05_Lit_Pad_0 : List AStep := [.eff (some 3) (.box 37 (.tmp 0)), .eff (some 4) (.box 23 (.tmp 1)), .eff (some 6) (.alloc 33)]
abbrev p_law05_Lit_Pad_0 : List Nat := [0, 1, 2]
def s_law05_Lit_Pad_1 : List AStep := [.read (some 9) false (.load 23 (.tmp 4)), .pure (some 10) false (.move (.tmp 2)), .call (some 11) false ⟨.value (.func 14), #[.tmp 9, .tmp 10], #[23, 24]⟩, .eff (some 7) (.alloc 33), .eff none (.store 33 (.tmp 7) (.tmp 11))]
abbrev p_law05_Lit_Pad_1 : List Nat := [0, 1, 2, 3, 4]
def s_law05_Lit_Pad_2 : List AStep := [.read (some 12) false (.load 23 (.tmp 4)), .pure (some 13) false (.fieldAddr 37 (.tmp 3) 0), .read (some 14) false (.load 23 (.tmp 13)), .pure (some 15) false (.binOp .eql 23 (.tmp 12) (.tmp 14) 23), .pure (some 16) true (.move (.tmp 15)), .guard 16 true (.pure (some 17) false (.move (.tmp 2))), .guard 16 true (.pure (some 18) false (.fieldAddr 37 (.tmp 3) 1)), .guard 16 true (.read (some 19) false (.load 24 (.tmp 18))), .guard 16 true (.pure (some 20) false (.binOp .eql 24 (.tmp 17) (.tmp 19) 24)), .pure (some 21) false (.pick (.tmp 16) (.tmp 20) (.const (.bool false)))]
abbrev p_law05_Lit_Pad_2 : List Nat := [0, 1, 2, 3, 4, 5, 6, 7, 8, 9]
def s_law05_Lit_Pad_3 : List AStep := [.pure (some 8) false (.assign (.const (.int .i64 0)))]
abbrev p_law05_Lit_Pad_3 : List Nat := [0]
def s_law05_Lit_Pad_4 : List AStep := [.pure (some 22) false (.move (.tmp 8)), .pure (some 23) false (.binOp .lss 3 (.tmp 22) (.const (.int .i64 32)) 3)]
abbrev p_law05_Lit_Pad_4 : List Nat := [0, 1]
def s_law05_Lit_Pad_6 : SP := (.one (.pure (some 26) false (.move (.tmp 8))) (.one (.pure (some 27) false (.indexAddr 33 (.tmp 7) (.tmp 26))) (.one (.pure (some 29) false (.move (.tmp 8))) (.one (.pure (some 30) false (.fieldAddr 37 (.tmp 3) 2)) (.one (.pure (some 31) false (.indexAddr 33 (.tmp 30) (.tmp 29))) (.one (.read (some 28) false (.load 5 (.tmp 27))) (.one (.read (some 32) false (.load 5 (.tmp 31))) (.one (.pure (some 33) false (.binOp .xor 5 (.tmp 28) (.tmp 32) 5)) (.one (.pure (some 34) false (.indexAddr 33 (.tmp 7) (.tmp 26))) (.one (.eff none (.store 5 (.tmp 34) (.tmp 33))) .done))))))))))
abbrev p_law05_Lit_Pad_6 : PC := (.calm 0 902 (.calm 1 900 (.calm 3 992 (.calm 4 992 (.calm 5 960 (.calm 2 896 (.calm 6 896 (.calm 7 768 (.calm 8 512 (.act 9 .done))))))))))
abbrev g_law05_Lit_Pad_6 : List Dg := [⟨0, 256, 67108864, .pure, true⟩, ⟨1, 67108992, 134217728, .pure, true⟩, ⟨2, 134217728, 268435456, .read, true⟩, ⟨0, 256, 536870912, .pure, true⟩, ⟨0, 8, 1073741824, .pure, true⟩, ⟨24, 1610612736, 2147483648, .pure, true⟩, ⟨32, 2147483648, 4294967296, .read, true⟩, ⟨68, 4563402752, 8589934592, .pure, true⟩, ⟨255, 67108992, 17179869184, .pure, true⟩, ⟨511, 25769803776, 0, .eff, false⟩]
abbrev q_law05_Lit_Pad_6 : List Nat := []
def s_law05_Lit_Pad_5 : List AStep := [.pure (some 24) false (.move (.tmp 8)), .pure (some 25) false (.binOp .add 3 (.tmp 24) (.const (.int .i64 1)) 3), .pure (some 8) false (.assign (.tmp 25))]
abbrev p_law05_Lit_Pad_5 : List Nat := [0, 1, 2]
def s_law05_Lit_Pad_7 : List AStep := [.read (some 35) false (.load 33 (.tmp 7)), .eff none (.store 33 (.tmp 6) (.tmp 35))]
abbrev p_law05_Lit_Pad_7 : List Nat := [0, 1]

end Go.Proofs.Ytbnjeafjnglldaa
