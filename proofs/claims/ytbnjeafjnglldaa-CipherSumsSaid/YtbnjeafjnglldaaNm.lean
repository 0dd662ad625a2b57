/- The names of the functions, the steps of their regions, and facts on types, printed by a program out of the loaded program. -/
import Derived.Test.YtbnjeafjnglldaaSyB
import Derived.Test.YtbnjeafjnglldaaProg
import Derived.KernelRfl
namespace Go.Proofs.Ytbnjeafjnglldaa
open Go Go.Proofs.Ytbnjeafjnglldaa.Sy
set_option linter.unusedVariables false

/-- The types. -/
theorem ty0 : Try.prog.underlying 3 = some (.int .i64) := Try.underlying3
theorem ty1 : Try.prog.underlying 5 = some (.int .u8) := Try.underlying5
theorem ty2 : Try.prog.underlying 9 = some (.string) := Try.underlying9
theorem ty3 : Try.prog.underlying 23 = some (.array 32 5) := Try.underlying23
theorem ty4 : Try.prog.underlying 24 = some (.int .u64) := Try.underlying24
theorem ty5 : Try.prog.underlying 25 = some (.slice 5) := Try.underlying25
theorem ty6 : Try.prog.underlying 33 = some (.array 32 5) := Try.underlying33
theorem ty7 : Try.prog.underlying 48 = some (.array 16 5) := Try.underlying48
theorem ty8 : Try.prog.underlying 54 = some (.int .u64) := Try.underlying54
theorem ty9 : Try.prog.underlying 55 = some (.array 64 5) := Try.underlying55
theorem ty10 : Try.prog.underlying 57 = some (.int .u32) := Try.underlying57
theorem ty11 : Try.prog.underlying 59 = some (.array 8 57) := Try.underlying59
theorem ty12 : Try.prog.underlying 70 = some (.array 64 57) := Try.underlying70
theorem ty13 : Try.prog.underlying 77 = some (.slice 25) := Try.underlying77
theorem ty14 : Try.prog.underlying 79 = some (.slice 3) := Try.underlying79
theorem ty15 : Try.prog.underlying 84 = some (.slice 24) := Try.underlying84
theorem ty16 : Try.prog.cellsOf 3 = 1 := by kernel_rfl
theorem ty17 : Try.prog.cellsOf 5 = 1 := by kernel_rfl
theorem ty18 : Try.prog.cellsOf 9 = 1 := by kernel_rfl
theorem ty19 : Try.prog.cellsOf 23 = 32 := by kernel_rfl
theorem ty20 : Try.prog.cellsOf 24 = 1 := by kernel_rfl
theorem ty21 : Try.prog.cellsOf 25 = 1 := by kernel_rfl
theorem ty22 : Try.prog.cellsOf 33 = 32 := by kernel_rfl
theorem ty23 : Try.prog.cellsOf 37 = 65 := by kernel_rfl
theorem ty24 : Try.prog.cellsOf 41 = 0 := by kernel_rfl
theorem ty25 : Try.prog.cellsOf 48 = 16 := by kernel_rfl
theorem ty26 : Try.prog.cellsOf 53 = 1 := by kernel_rfl
theorem ty27 : Try.prog.cellsOf 54 = 1 := by kernel_rfl
theorem ty28 : Try.prog.cellsOf 55 = 64 := by kernel_rfl
theorem ty29 : Try.prog.cellsOf 57 = 1 := by kernel_rfl
theorem ty30 : Try.prog.cellsOf 59 = 8 := by kernel_rfl
theorem ty31 : Try.prog.cellsOf 70 = 64 := by kernel_rfl
theorem ty32 : Try.prog.cellsOf 77 = 1 := by kernel_rfl
theorem ty33 : Try.prog.cellsOf 79 = 1 := by kernel_rfl
theorem ty34 : Try.prog.cellsOf 84 = 1 := by kernel_rfl
theorem ty35 : Try.prog.bytesOf 3 = 8 := by kernel_rfl
theorem ty36 : Try.prog.bytesOf 5 = 1 := by kernel_rfl
theorem ty37 : Try.prog.bytesOf 24 = 8 := by kernel_rfl
theorem ty38 : Try.prog.bytesOf 25 = 24 := by kernel_rfl
theorem ty39 : zeroCellsOf Try.prog 3 = some (#[.int .i64 0]) := by kernel_rfl
theorem ty40 : zeroCellsOf Try.prog 5 = some (#[.int .u8 0]) := by kernel_rfl
theorem ty41 : zeroCellsOf Try.prog 9 = some #[.string ⟨#[]⟩] := by kernel_rfl
theorem ty42 : zeroCellsOf Try.prog 23 = some (Array.replicate 32 (.int .u8 0)) := by kernel_rfl
theorem ty43 : Try.prog.eqGuardType Try.prog.depth 23 = false := by kernel_rfl
theorem ty44 : zeroCellsOf Try.prog 24 = some (#[.int .u64 0]) := by kernel_rfl
theorem ty45 : zeroCellsOf Try.prog 25 = some #[.slice none 0 0] := by kernel_rfl
theorem ty46 : zeroCellsOf Try.prog 33 = some (Array.replicate 32 (.int .u8 0)) := by kernel_rfl
theorem ty47 : Try.prog.eqGuardType Try.prog.depth 33 = false := by kernel_rfl
theorem ty48 : zeroCellsOf Try.prog 48 = some (Array.replicate 16 (.int .u8 0)) := by kernel_rfl
theorem ty49 : Try.prog.eqGuardType Try.prog.depth 48 = false := by kernel_rfl
theorem ty50 : zeroCellsOf Try.prog 54 = some (#[.int .u64 0]) := by kernel_rfl
theorem ty51 : zeroCellsOf Try.prog 55 = some (Array.replicate 64 (.int .u8 0)) := by kernel_rfl
theorem ty52 : Try.prog.eqGuardType Try.prog.depth 55 = false := by kernel_rfl
theorem ty53 : zeroCellsOf Try.prog 57 = some (#[.int .u32 0]) := by kernel_rfl
theorem ty54 : zeroCellsOf Try.prog 59 = some (Array.replicate 8 (.int .u32 0)) := by kernel_rfl
theorem ty55 : Try.prog.eqGuardType Try.prog.depth 59 = false := by kernel_rfl
theorem ty56 : zeroCellsOf Try.prog 70 = some (Array.replicate 64 (.int .u32 0)) := by kernel_rfl
theorem ty57 : Try.prog.eqGuardType Try.prog.depth 70 = false := by kernel_rfl
theorem ty58 : zeroCellsOf Try.prog 77 = some #[.slice none 0 0] := by kernel_rfl
theorem ty59 : zeroCellsOf Try.prog 79 = some #[.slice none 0 0] := by kernel_rfl
theorem ty60 : zeroCellsOf Try.prog 84 = some #[.slice none 0 0] := by kernel_rfl
theorem ty : (Try.prog.underlying 3 = some (.int .i64)) ∧ (Try.prog.underlying 5 = some (.int .u8)) ∧ (Try.prog.underlying 9 = some (.string)) ∧ (Try.prog.underlying 23 = some (.array 32 5)) ∧ (Try.prog.underlying 24 = some (.int .u64)) ∧ (Try.prog.underlying 25 = some (.slice 5)) ∧ (Try.prog.underlying 33 = some (.array 32 5)) ∧ (Try.prog.underlying 48 = some (.array 16 5)) ∧ (Try.prog.underlying 54 = some (.int .u64)) ∧ (Try.prog.underlying 55 = some (.array 64 5)) ∧ (Try.prog.underlying 57 = some (.int .u32)) ∧ (Try.prog.underlying 59 = some (.array 8 57)) ∧ (Try.prog.underlying 70 = some (.array 64 57)) ∧ (Try.prog.underlying 77 = some (.slice 25)) ∧ (Try.prog.underlying 79 = some (.slice 3)) ∧ (Try.prog.underlying 84 = some (.slice 24)) ∧ (Try.prog.cellsOf 3 = 1) ∧ (Try.prog.cellsOf 5 = 1) ∧ (Try.prog.cellsOf 9 = 1) ∧ (Try.prog.cellsOf 23 = 32) ∧ (Try.prog.cellsOf 24 = 1) ∧ (Try.prog.cellsOf 25 = 1) ∧ (Try.prog.cellsOf 33 = 32) ∧ (Try.prog.cellsOf 37 = 65) ∧ (Try.prog.cellsOf 41 = 0) ∧ (Try.prog.cellsOf 48 = 16) ∧ (Try.prog.cellsOf 53 = 1) ∧ (Try.prog.cellsOf 54 = 1) ∧ (Try.prog.cellsOf 55 = 64) ∧ (Try.prog.cellsOf 57 = 1) ∧ (Try.prog.cellsOf 59 = 8) ∧ (Try.prog.cellsOf 70 = 64) ∧ (Try.prog.cellsOf 77 = 1) ∧ (Try.prog.cellsOf 79 = 1) ∧ (Try.prog.cellsOf 84 = 1) ∧ (Try.prog.bytesOf 3 = 8) ∧ (Try.prog.bytesOf 5 = 1) ∧ (Try.prog.bytesOf 24 = 8) ∧ (Try.prog.bytesOf 25 = 24) ∧ (zeroCellsOf Try.prog 3 = some (#[.int .i64 0])) ∧ (zeroCellsOf Try.prog 5 = some (#[.int .u8 0])) ∧ (zeroCellsOf Try.prog 9 = some #[.string ⟨#[]⟩]) ∧ (zeroCellsOf Try.prog 23 = some (Array.replicate 32 (.int .u8 0))) ∧ (Try.prog.eqGuardType Try.prog.depth 23 = false) ∧ (zeroCellsOf Try.prog 24 = some (#[.int .u64 0])) ∧ (zeroCellsOf Try.prog 25 = some #[.slice none 0 0]) ∧ (zeroCellsOf Try.prog 33 = some (Array.replicate 32 (.int .u8 0))) ∧ (Try.prog.eqGuardType Try.prog.depth 33 = false) ∧ (zeroCellsOf Try.prog 48 = some (Array.replicate 16 (.int .u8 0))) ∧ (Try.prog.eqGuardType Try.prog.depth 48 = false) ∧ (zeroCellsOf Try.prog 54 = some (#[.int .u64 0])) ∧ (zeroCellsOf Try.prog 55 = some (Array.replicate 64 (.int .u8 0))) ∧ (Try.prog.eqGuardType Try.prog.depth 55 = false) ∧ (zeroCellsOf Try.prog 57 = some (#[.int .u32 0])) ∧ (zeroCellsOf Try.prog 59 = some (Array.replicate 8 (.int .u32 0))) ∧ (Try.prog.eqGuardType Try.prog.depth 59 = false) ∧ (zeroCellsOf Try.prog 70 = some (Array.replicate 64 (.int .u32 0))) ∧ (Try.prog.eqGuardType Try.prog.depth 70 = false) ∧ (zeroCellsOf Try.prog 77 = some #[.slice none 0 0]) ∧ (zeroCellsOf Try.prog 79 = some #[.slice none 0 0]) ∧ (zeroCellsOf Try.prog 84 = some #[.slice none 0 0]) := ⟨ty0, ty1, ty2, ty3, ty4, ty5, ty6, ty7, ty8, ty9, ty10, ty11, ty12, ty13, ty14, ty15, ty16, ty17, ty18, ty19, ty20, ty21, ty22, ty23, ty24, ty25, ty26, ty27, ty28, ty29, ty30, ty31, ty32, ty33, ty34, ty35, ty36, ty37, ty38, ty39, ty40, ty41, ty42, ty43, ty44, ty45, ty46, ty47, ty48, ty49, ty50, ty51, ty52, ty53, ty54, ty55, ty56, ty57, ty58, ty59, ty60⟩
theorem ui_9 : type_of% Try.underlying9 := Try.underlying9
theorem ui_37 : type_of% Try.underlying37 := Try.underlying37
theorem ui_53 : type_of% Try.underlying53 := Try.underlying53
theorem zr0 {ι : Type} : (zrow Try.prog 3 : Option (Row ι)) = some (.ints .i64 (List.replicate 1 0)) := by kernel_rfl
theorem zr1 {ι : Type} : (zrow Try.prog 5 : Option (Row ι)) = some (.ints .u8 (List.replicate 1 0)) := by kernel_rfl
theorem zr2 {ι : Type} : (zrow Try.prog 23 : Option (Row ι)) = some (.ints .u8 (List.replicate 32 0)) := by kernel_rfl
theorem zr3 {ι : Type} : (zrow Try.prog 24 : Option (Row ι)) = some (.ints .u64 (List.replicate 1 0)) := by kernel_rfl
theorem zr4 {ι : Type} : (zrow Try.prog 33 : Option (Row ι)) = some (.ints .u8 (List.replicate 32 0)) := by kernel_rfl
theorem zr5 {ι : Type} : (zrow Try.prog 48 : Option (Row ι)) = some (.ints .u8 (List.replicate 16 0)) := by kernel_rfl
theorem zr6 {ι : Type} : (zrow Try.prog 54 : Option (Row ι)) = some (.ints .u64 (List.replicate 1 0)) := by kernel_rfl
theorem zr7 {ι : Type} : (zrow Try.prog 55 : Option (Row ι)) = some (.ints .u8 (List.replicate 64 0)) := by kernel_rfl
theorem zr8 {ι : Type} : (zrow Try.prog 57 : Option (Row ι)) = some (.ints .u32 (List.replicate 1 0)) := by kernel_rfl
theorem zr9 {ι : Type} : (zrow Try.prog 59 : Option (Row ι)) = some (.ints .u32 (List.replicate 8 0)) := by kernel_rfl
theorem zr10 {ι : Type} : (zrow Try.prog 70 : Option (Row ι)) = some (.ints .u32 (List.replicate 64 0)) := by kernel_rfl
theorem zr {ι : Type} : ((zrow Try.prog 3 : Option (Row ι)) = some (.ints .i64 (List.replicate 1 0))) ∧ ((zrow Try.prog 5 : Option (Row ι)) = some (.ints .u8 (List.replicate 1 0))) ∧ ((zrow Try.prog 23 : Option (Row ι)) = some (.ints .u8 (List.replicate 32 0))) ∧ ((zrow Try.prog 24 : Option (Row ι)) = some (.ints .u64 (List.replicate 1 0))) ∧ ((zrow Try.prog 33 : Option (Row ι)) = some (.ints .u8 (List.replicate 32 0))) ∧ ((zrow Try.prog 48 : Option (Row ι)) = some (.ints .u8 (List.replicate 16 0))) ∧ ((zrow Try.prog 54 : Option (Row ι)) = some (.ints .u64 (List.replicate 1 0))) ∧ ((zrow Try.prog 55 : Option (Row ι)) = some (.ints .u8 (List.replicate 64 0))) ∧ ((zrow Try.prog 57 : Option (Row ι)) = some (.ints .u32 (List.replicate 1 0))) ∧ ((zrow Try.prog 59 : Option (Row ι)) = some (.ints .u32 (List.replicate 8 0))) ∧ ((zrow Try.prog 70 : Option (Row ι)) = some (.ints .u32 (List.replicate 64 0))) := ⟨zr0, zr1, zr2, zr3, zr4, zr5, zr6, zr7, zr8, zr9, zr10⟩
abbrev fs_37 : Array Field := #[{ name := "At", type := 23, offset := 0, embedded := false, tag := "", pkgPath := "", byteOffset := 0 }, { name := "N", type := 24, offset := 32, embedded := false, tag := "", pkgPath := "", byteOffset := 32 }, { name := "Off", type := 33, offset := 33, embedded := false, tag := "", pkgPath := "", byteOffset := 40 }]
theorem us_37 : Try.prog.underlying 37 = some (.struct fs_37) := Try.underlying37
theorem fa_37_0 {ι : Type} : ∀ (id : ι) (off : Nat) (C : AV ι → Prop), fieldAddrC Try.prog 37 (.ptr id off) 0 C = C (.ptr id (off + 0)) := fun id off C => by
  simp only [fieldAddrC, us_37]; exact propext ⟨fun h => h.2.2, fun h => ⟨by kernel_rfl, by decide +kernel, h⟩⟩
theorem bw_37_0 {ι : Type} : ∀ (v : List Int) (r : List (Nat × AV ι)) (l : List (AV ι)) (C : List (AV ι) → Prop), buildCells Try.prog fs_37 ((0, .ints .u8 v) :: r) l C = (32 = v.length ∧ 0 + v.length ≤ l.length ∧ buildCells Try.prog fs_37 r (Sy.splice l 0 (flatI .u8 v)) C) := fun v r l C => by
  have hf : fs_37[0]? = some { name := "At", type := 23, offset := 0, embedded := false, tag := "", pkgPath := "", byteOffset := 0 } := rfl
  have ha : isAggT Try.prog 23 = true := by kernel_rfl
  have hc : Try.prog.cellsOf 23 = 32 := by kernel_rfl
  simp only [buildCells, hf, ha, wideL, hc, flatI_len]
theorem fa_37_1 {ι : Type} : ∀ (id : ι) (off : Nat) (C : AV ι → Prop), fieldAddrC Try.prog 37 (.ptr id off) 1 C = C (.ptr id (off + 32)) := fun id off C => by
  simp only [fieldAddrC, us_37]; exact propext ⟨fun h => h.2.2, fun h => ⟨by kernel_rfl, by decide +kernel, h⟩⟩
theorem fv_37_1 {ι : Type} : ∀ (l : List (AV ι)) (C : AV ι → Prop), fieldC Try.prog 37 (.agg l) 1 C = (match l[32]? with | some v => C v | none => False) := fun l C => by
  simp only [fieldC, us_37]; exact propext ⟨fun h => h.2.2, fun h => ⟨by kernel_rfl, by kernel_rfl, h⟩⟩
theorem bc_37_1 {ι : Type} : ∀ (v : AV ι) (r : List (Nat × AV ι)) (l : List (AV ι)) (C : List (AV ι) → Prop), buildCells Try.prog fs_37 ((1, v) :: r) l C = (scalar v = true ∧ 32 < l.length ∧ buildCells Try.prog fs_37 r (l.set 32 v) C) := fun v r l C => by
  have hf : fs_37[1]? = some { name := "N", type := 24, offset := 32, embedded := false, tag := "", pkgPath := "", byteOffset := 32 } := rfl
  have ha : isAggT Try.prog 24 = false := by kernel_rfl
  simp only [buildCells, hf, ha]; exact propext ⟨fun h => h.2.2, fun h => ⟨by kernel_rfl, by decide +kernel, h⟩⟩
theorem fa_37_2 {ι : Type} : ∀ (id : ι) (off : Nat) (C : AV ι → Prop), fieldAddrC Try.prog 37 (.ptr id off) 2 C = C (.ptr id (off + 33)) := fun id off C => by
  simp only [fieldAddrC, us_37]; exact propext ⟨fun h => h.2.2, fun h => ⟨by kernel_rfl, by decide +kernel, h⟩⟩
theorem bw_37_2 {ι : Type} : ∀ (v : List Int) (r : List (Nat × AV ι)) (l : List (AV ι)) (C : List (AV ι) → Prop), buildCells Try.prog fs_37 ((2, .ints .u8 v) :: r) l C = (32 = v.length ∧ 33 + v.length ≤ l.length ∧ buildCells Try.prog fs_37 r (Sy.splice l 33 (flatI .u8 v)) C) := fun v r l C => by
  have hf : fs_37[2]? = some { name := "Off", type := 33, offset := 33, embedded := false, tag := "", pkgPath := "", byteOffset := 40 } := rfl
  have ha : isAggT Try.prog 33 = true := by kernel_rfl
  have hc : Try.prog.cellsOf 33 = 32 := by kernel_rfl
  simp only [buildCells, hf, ha, wideL, hc, flatI_len]
theorem zc_37 : zeroCellsOf Try.prog 37 = some #[.int .u8 0, .int .u8 0, .int .u8 0, .int .u8 0, .int .u8 0, .int .u8 0, .int .u8 0, .int .u8 0, .int .u8 0, .int .u8 0, .int .u8 0, .int .u8 0, .int .u8 0, .int .u8 0, .int .u8 0, .int .u8 0, .int .u8 0, .int .u8 0, .int .u8 0, .int .u8 0, .int .u8 0, .int .u8 0, .int .u8 0, .int .u8 0, .int .u8 0, .int .u8 0, .int .u8 0, .int .u8 0, .int .u8 0, .int .u8 0, .int .u8 0, .int .u8 0, .int .u64 0, .int .u8 0, .int .u8 0, .int .u8 0, .int .u8 0, .int .u8 0, .int .u8 0, .int .u8 0, .int .u8 0, .int .u8 0, .int .u8 0, .int .u8 0, .int .u8 0, .int .u8 0, .int .u8 0, .int .u8 0, .int .u8 0, .int .u8 0, .int .u8 0, .int .u8 0, .int .u8 0, .int .u8 0, .int .u8 0, .int .u8 0, .int .u8 0, .int .u8 0, .int .u8 0, .int .u8 0, .int .u8 0, .int .u8 0, .int .u8 0, .int .u8 0, .int .u8 0] := by kernel_rfl
theorem bd_37 {ι : Type} : ∀ (r : List (Nat × AV ι)) (C : AV ι → Prop), buildC Try.prog 37 r C = buildCells Try.prog fs_37 r (flatI .u8 (List.replicate 32 0) ++ (.int .u64 0 :: (flatI .u8 (List.replicate 32 0)))) (fun l => C (.agg l)) := fun r C => by
  unfold buildC; rw [us_37]; simp only [zc_37]; exact propext ⟨fun h => h.2.2, fun h => ⟨by decide +kernel, by kernel_rfl, h⟩⟩
theorem zs_37 {ι : Type} : (zrow Try.prog 37 : Option (Row ι)) = some (.mixed (flatI .u8 (List.replicate 32 0) ++ (.int .u64 0 :: (flatI .u8 (List.replicate 32 0))))) := by kernel_rfl
abbrev fs_41 : Array Field := #[]
theorem us_41 : Try.prog.underlying 41 = some (.struct fs_41) := Try.underlying41
theorem zc_41 : zeroCellsOf Try.prog 41 = some #[] := by kernel_rfl
theorem bd_41 {ι : Type} : ∀ (r : List (Nat × AV ι)) (C : AV ι → Prop), buildC Try.prog 41 r C = buildCells Try.prog fs_41 r [] (fun l => C (.agg l)) := fun r C => by
  unfold buildC; rw [us_41]; simp only [zc_41]; exact propext ⟨fun h => h.2.2, fun h => ⟨by decide +kernel, by kernel_rfl, h⟩⟩
theorem zs_41 {ι : Type} : (zrow Try.prog 41 : Option (Row ι)) = some (.mixed []) := by kernel_rfl
theorem ba_23 {ι : Type} : ∀ (r : List (Nat × AV ι)) (C : AV ι → Prop), buildC Try.prog 23 r C = buildInts .u8 r (List.replicate 32 0) (fun l => C (.ints .u8 l)) := fun r C => by
  unfold buildC; rw [Try.underlying23]; simp only [Try.underlying5]; exact propext ⟨fun h => h.2.2, fun h => ⟨by kernel_rfl, by kernel_rfl, h⟩⟩
theorem ba_33 {ι : Type} : ∀ (r : List (Nat × AV ι)) (C : AV ι → Prop), buildC Try.prog 33 r C = buildInts .u8 r (List.replicate 32 0) (fun l => C (.ints .u8 l)) := fun r C => by
  unfold buildC; rw [Try.underlying33]; simp only [Try.underlying5]; exact propext ⟨fun h => h.2.2, fun h => ⟨by kernel_rfl, by kernel_rfl, h⟩⟩
theorem ba_48 {ι : Type} : ∀ (r : List (Nat × AV ι)) (C : AV ι → Prop), buildC Try.prog 48 r C = buildInts .u8 r (List.replicate 16 0) (fun l => C (.ints .u8 l)) := fun r C => by
  unfold buildC; rw [Try.underlying48]; simp only [Try.underlying5]; exact propext ⟨fun h => h.2.2, fun h => ⟨by kernel_rfl, by kernel_rfl, h⟩⟩
theorem ba_55 {ι : Type} : ∀ (r : List (Nat × AV ι)) (C : AV ι → Prop), buildC Try.prog 55 r C = buildInts .u8 r (List.replicate 64 0) (fun l => C (.ints .u8 l)) := fun r C => by
  unfold buildC; rw [Try.underlying55]; simp only [Try.underlying5]; exact propext ⟨fun h => h.2.2, fun h => ⟨by kernel_rfl, by kernel_rfl, h⟩⟩
theorem ba_59 {ι : Type} : ∀ (r : List (Nat × AV ι)) (C : AV ι → Prop), buildC Try.prog 59 r C = buildInts .u32 r (List.replicate 8 0) (fun l => C (.ints .u32 l)) := fun r C => by
  unfold buildC; rw [Try.underlying59]; simp only [Try.underlying57]; exact propext ⟨fun h => h.2.2, fun h => ⟨by kernel_rfl, by kernel_rfl, h⟩⟩
theorem ba_70 {ι : Type} : ∀ (r : List (Nat × AV ι)) (C : AV ι → Prop), buildC Try.prog 70 r C = buildInts .u32 r (List.replicate 64 0) (fun l => C (.ints .u32 l)) := fun r C => by
  unfold buildC; rw [Try.underlying70]; simp only [Try.underlying57]; exact propext ⟨fun h => h.2.2, fun h => ⟨by kernel_rfl, by kernel_rfl, h⟩⟩
theorem sui : (type_of% ui_9) ∧ (type_of% ui_37) ∧ (type_of% ui_53) := ⟨ui_9, ui_37, ui_53⟩
theorem sty {ι : Type} : (type_of% (@fa_37_0 ι)) ∧ (type_of% (@bw_37_0 ι)) ∧ (type_of% (@fa_37_1 ι)) ∧ (type_of% (@fv_37_1 ι)) ∧ (type_of% (@bc_37_1 ι)) ∧ (type_of% (@fa_37_2 ι)) ∧ (type_of% (@bw_37_2 ι)) ∧ (type_of% (@bd_37 ι)) ∧ (type_of% (@zs_37 ι)) ∧ (type_of% (@bd_41 ι)) ∧ (type_of% (@zs_41 ι)) ∧ (type_of% (@ba_23 ι)) ∧ (type_of% (@ba_33 ι)) ∧ (type_of% (@ba_48 ι)) ∧ (type_of% (@ba_55 ι)) ∧ (type_of% (@ba_59 ι)) ∧ (type_of% (@ba_70 ι)) := ⟨@fa_37_0 ι, @bw_37_0 ι, @fa_37_1 ι, @fv_37_1 ι, @bc_37_1 ι, @fa_37_2 ι, @bw_37_2 ι, @bd_37 ι, @zs_37 ι, @bd_41 ι, @zs_41 ι, @ba_23 ι, @ba_33 ι, @ba_48 ι, @ba_55 ι, @ba_59 ι, @ba_70 ι⟩
theorem mix : Try.prog.follows .mixedOrders = true := by kernel_rfl

/-! erewhile/erewhilelaw05.CipherSums -/
abbrev n_law05_CipherSums : Nat := 8
theorem func_law05_CipherSums : Try.prog.funcs[n_law05_CipherSums]? = some Try.f8 := Try.func8
theorem call_law05_CipherSums : ∀ args w, (callFunc n_law05_CipherSums args).run Try.prog w = .ok (.enter n_law05_CipherSums args) w := Try.call8
theorem nt_law05_CipherSums : Try.f8.ntmps = 18 := Try.ntmps8
theorem rs_law05_CipherSums : Try.f8.results.toList = [.tmp 4] := by rw [Try.results8]
def s_law05_CipherSums_0 : List AStep := [.eff (some 2) (.box 23 (.tmp 0)), .pure (some 4) false (.assign (.const (.bool false)))]
abbrev p_law05_CipherSums_0 : List Nat := [0, 1]
def s_law05_CipherSums_1 : List AStep := [.call (some 5) false ⟨.value (.func 10), #[], #[]⟩, .pure (some 6) false (.unOp .not 4 (.tmp 5))]
abbrev p_law05_CipherSums_1 : List Nat := [0, 1]
def s_law05_CipherSums_2 : List AStep := [.pure (some 4) false (.assign (.const (.bool false)))]
abbrev p_law05_CipherSums_2 : List Nat := [0]
def s_law05_CipherSums_3 : List AStep := [.pure (some 7) false (.move (.tmp 1)), .pure (some 8) false (.call (.mk (.builtin .len) #[.tmp 7] #[25])), .pure (some 9) false (.binOp .gtr 3 (.tmp 8) (.const (.int .i64 80)) 3)]
abbrev p_law05_CipherSums_3 : List Nat := [0, 1, 2]
def s_law05_CipherSums_4 : List AStep := [.pure (some 4) false (.assign (.const (.bool true)))]
abbrev p_law05_CipherSums_4 : List Nat := [0]
def s_law05_CipherSums_5 : SP := (.one (.pure (some 10) false (.build 41 #[])) (.one (.pure (some 12) false (.move (.tmp 1))) (.one (.pure (some 15) false (.move (.tmp 1))) (.one (.read (some 11) false (.load 23 (.tmp 2))) (.one (.read (some 14) false (.load 23 (.tmp 2))) (.one (.call (some 13) false ⟨.value (.func 21), #[.tmp 10, .tmp 11, .tmp 12], #[41, 23, 25]⟩) (.one (.call (some 16) false ⟨.value (.func 22), #[.tmp 14, .tmp 15], #[23, 25]⟩) (.one (.pure (some 17) false (.binOp .eql 48 (.tmp 13) (.tmp 16) 48)) (.one (.pure (some 4) false (.assign (.tmp 17))) .done)))))))))
abbrev p_law05_CipherSums_5 : PC := (.calm 0 456 (.calm 2 456 (.calm 5 448 (.calm 1 456 (.calm 4 448 (.act 3 (.act 6 (.calm 7 256 (.calm 8 0 .done)))))))))
abbrev g_law05_CipherSums_5 : List Dg := [⟨0, 0, 1024, .pure, true⟩, ⟨0, 4, 2048, .read, true⟩, ⟨0, 2, 4096, .pure, true⟩, ⟨7, 7168, 8192, .call, true⟩, ⟨0, 4, 16384, .read, true⟩, ⟨0, 2, 32768, .pure, true⟩, ⟨56, 49152, 65536, .call, true⟩, ⟨72, 73728, 131072, .pure, true⟩, ⟨255, 131072, 16, .pure, true⟩]
abbrev q_law05_CipherSums_5 : List Nat := []

/-! erewhile/erewhilelaw05.awake -/
abbrev n_law05_awake : Nat := 10
theorem func_law05_awake : Try.prog.funcs[n_law05_awake]? = some Try.f10 := Try.func10
theorem call_law05_awake : ∀ args w, (callFunc n_law05_awake args).run Try.prog w = .ok (.enter n_law05_awake args) w := Try.call10
theorem nt_law05_awake : Try.f10.ntmps = 31 := Try.ntmps10
theorem rs_law05_awake : Try.f10.results.toList = [.tmp 0] := by rw [Try.results10]
def s_law05_awake_0 : List AStep := [.pure (some 0) false (.assign (.const (.bool false)))]
abbrev p_law05_awake_0 : List Nat := [0]
def s_law05_awake_1 : List AStep := [.pure (some 3) false (.build 37 #[]), .pure (some 4) false (.makeInterface 37 (.tmp 3)), .pure (some 5) false (.build 23 #[(0, .const (.int .u8 1))]), .eff (some 6) (.buildSlice 25 2 #[(0, .const (.int .u8 5)), (1, .const (.int .u8 6))]), .call (some 7) false ⟨.value (.func 11), #[.tmp 4, .tmp 5, .const (.int .u64 3), .tmp 6], #[53, 23, 24, 25]⟩, .pure (some 1) false (.assign (.tmp 7))]
abbrev p_law05_awake_1 : List Nat := [0, 1, 2, 3, 4, 5]
def s_law05_awake_2 : List AStep := [.pure (some 8) false (.build 23 #[(0, .const (.int .u8 1))]), .call (some 9) false ⟨.value (.func 14), #[.tmp 8, .const (.int .u64 3)], #[23, 24]⟩, .eff (some 2) (.alloc 33), .eff none (.store 33 (.tmp 2) (.tmp 9))]
abbrev p_law05_awake_2 : List Nat := [0, 1, 2, 3]
def s_law05_awake_3 : SP := (.one (.pure (some 10) false (.move (.tmp 1))) (.one (.pure (some 11) false (.call (.mk (.builtin .len) #[.tmp 10] #[25]))) (.one (.pure (some 12) false (.binOp .eql 3 (.tmp 11) (.const (.int .i64 2)) 3)) (.one (.pure (some 13) true (.move (.tmp 12))) (.one (.guard 13 true (.pure (some 14) false (.move (.tmp 1)))) (.one (.guard 13 true (.pure (some 15) false (.indexAddr 25 (.tmp 14) (.const (.int .i64 0))))) (.one (.guard 13 true (.pure (some 17) false (.indexAddr 33 (.tmp 2) (.const (.int .i64 0))))) (.one (.guard 13 true (.read (some 16) false (.load 5 (.tmp 15)))) (.one (.guard 13 true (.read (some 18) false (.load 5 (.tmp 17)))) (.one (.guard 13 true (.pure (some 19) false (.binOp .xor 5 (.const (.int .u8 5)) (.tmp 18) 5))) (.one (.guard 13 true (.pure (some 20) false (.binOp .eql 5 (.tmp 16) (.tmp 19) 5))) (.one (.pure (some 21) false (.pick (.tmp 13) (.tmp 20) (.const (.bool false)))) (.one (.pure (some 22) true (.move (.tmp 21))) (.one (.guard 22 true (.pure (some 23) false (.move (.tmp 1)))) (.one (.guard 22 true (.pure (some 24) false (.indexAddr 25 (.tmp 23) (.const (.int .i64 1))))) (.one (.guard 22 true (.pure (some 26) false (.indexAddr 33 (.tmp 2) (.const (.int .i64 1))))) (.one (.guard 22 true (.read (some 25) false (.load 5 (.tmp 24)))) (.one (.guard 22 true (.read (some 27) false (.load 5 (.tmp 26)))) (.one (.guard 22 true (.pure (some 28) false (.binOp .xor 5 (.const (.int .u8 6)) (.tmp 27) 5))) (.one (.guard 22 true (.pure (some 29) false (.binOp .eql 5 (.tmp 25) (.tmp 28) 5))) (.one (.pure (some 30) false (.pick (.tmp 22) (.tmp 29) (.const (.bool false)))) (.one (.pure (some 0) false (.assign (.tmp 30))) .done))))))))))))))))))))))
abbrev p_law05_awake_3 : PC := (.calm 0 4194302 (.calm 1 4194300 (.calm 2 4194296 (.calm 3 4194288 (.calm 4 4193376 (.calm 5 4193344 (.calm 7 4194048 (.calm 6 4193280 (.calm 8 4193792 (.calm 9 4193280 (.calm 10 4192256 (.calm 11 4190208 (.calm 12 4186112 (.calm 13 3719168 (.calm 14 3702784 (.calm 16 4063232 (.calm 15 3670016 (.calm 17 3932160 (.calm 18 3670016 (.calm 19 3145728 (.calm 20 2097152 (.calm 21 0 .done))))))))))))))))))))))
abbrev g_law05_awake_3 : List Dg := [⟨0, 2, 1024, .pure, true⟩, ⟨1, 1024, 2048, .pure, true⟩, ⟨2, 2048, 4096, .pure, true⟩, ⟨4, 4096, 8192, .pure, true⟩, ⟨8, 8194, 16384, .pure, true⟩, ⟨24, 24576, 32768, .pure, true⟩, ⟨40, 40960, 65536, .read, true⟩, ⟨8, 8196, 131072, .pure, true⟩, ⟨136, 139264, 262144, .read, true⟩, ⟨264, 270336, 524288, .pure, true⟩, ⟨584, 598016, 1048576, .pure, true⟩, ⟨1032, 1056768, 2097152, .pure, true⟩, ⟨2056, 2097152, 4194304, .pure, true⟩, ⟨4096, 4194306, 8388608, .pure, true⟩, ⟨12288, 12582912, 16777216, .pure, true⟩, ⟨20480, 20971520, 33554432, .read, true⟩, ⟨4096, 4194308, 67108864, .pure, true⟩, ⟨69632, 71303168, 134217728, .read, true⟩, ⟨135168, 138412032, 268435456, .pure, true⟩, ⟨299008, 306184192, 536870912, .pure, true⟩, ⟨528384, 541065216, 1073741824, .pure, true⟩, ⟨2097151, 1073741824, 1, .pure, true⟩]
abbrev q_law05_awake_3 : List Nat := []

/-! erewhile/cipher.Hide -/
abbrev n_cipher_Hide : Nat := 11
theorem func_cipher_Hide : Try.prog.funcs[n_cipher_Hide]? = some Try.f11 := Try.func11
theorem call_cipher_Hide : ∀ args w, (callFunc n_cipher_Hide args).run Try.prog w = .ok (.enter n_cipher_Hide args) w := Try.call11
theorem nt_cipher_Hide : Try.f11.ntmps = 24 := Try.ntmps11
theorem rs_cipher_Hide : Try.f11.results.toList = [.tmp 8] := by rw [Try.results11]
def s_cipher_Hide_0 : List AStep := [.eff (some 5) (.box 23 (.tmp 1)), .pure (some 8) false (.assign (.const (.slice none 0 0)))]
abbrev p_cipher_Hide_0 : List Nat := [0, 1]
def s_cipher_Hide_1 : List AStep := [.pure (some 10) false (.move (.tmp 0)), .pure (some 11) false (.binOp .eql 53 (.tmp 10) (.const .nilIface) 53), .pure (some 12) true (.move (.tmp 11)), .guard 12 false (.pure (some 13) false (.move (.tmp 3))), .guard 12 false (.pure (some 14) false (.call (.mk (.builtin .len) #[.tmp 13] #[25]))), .guard 12 false (.pure (some 15) false (.binOp .gtr 3 (.tmp 14) (.const (.int .i64 32)) 3)), .pure (some 16) false (.pick (.tmp 12) (.const (.bool true)) (.tmp 15))]
abbrev p_cipher_Hide_1 : List Nat := [0, 1, 2, 3, 4, 5, 6]
def s_cipher_Hide_2 : List AStep := [.pure (some 8) false (.assign (.const (.slice none 0 0)))]
abbrev p_cipher_Hide_2 : List Nat := [0]
abbrev q_cipher_Hide_3 : List Nat := [1003]
def s_cipher_Hide_3 : List AStep := [.pure (some 17) false (.move (.tmp 0)), .read (some 18) false (.load 23 (.tmp 5)), .pure (some 19) false (.move (.tmp 2)), .mcall (some 20) false ⟨.invoke (.tmp 17) "Pad", #[.tmp 18, .tmp 19], #[23, 24]⟩, .eff (some 9) (.alloc 33), .eff none (.store 33 (.tmp 9) (.tmp 20))]
abbrev p_cipher_Hide_3 : List Nat := [0, 1, 2, 3, 4, 5]
def s_cipher_Hide_4 : List AStep := [.pure (some 21) false (.move (.tmp 3)), .pure (some 22) false (.slice 33 (.tmp 9) none none none), .call (some 23) false ⟨.value (.func 19), #[.tmp 21, .tmp 22], #[25, 25]⟩, .pure (some 8) false (.assign (.tmp 23))]
abbrev p_cipher_Hide_4 : List Nat := [0, 1, 2, 3]

/-! erewhile/erewhileref01.Same -/
abbrev n_ref01_Same : Nat := 12
theorem func_ref01_Same : Try.prog.funcs[n_ref01_Same]? = some Try.f12 := Try.func12
theorem call_ref01_Same : ∀ args w, (callFunc n_ref01_Same args).run Try.prog w = .ok (.enter n_ref01_Same args) w := Try.call12
theorem nt_ref01_Same : Try.f12.ntmps = 26 := Try.ntmps12
theorem rs_ref01_Same : Try.f12.results.toList = [.tmp 4] := by rw [Try.results12]
def s_ref01_Same_0 : List AStep := [.pure (some 4) false (.assign (.const (.bool false)))]
abbrev p_ref01_Same_0 : List Nat := [0]
def s_ref01_Same_1 : List AStep := [.pure (some 6) false (.move (.tmp 0)), .pure (some 7) false (.call (.mk (.builtin .len) #[.tmp 6] #[25])), .pure (some 8) false (.move (.tmp 1)), .pure (some 9) false (.call (.mk (.builtin .len) #[.tmp 8] #[25])), .pure (some 10) false (.binOp .neq 3 (.tmp 7) (.tmp 9) 3)]
abbrev p_ref01_Same_1 : List Nat := [0, 1, 2, 3, 4]
def s_ref01_Same_2 : List AStep := [.pure (some 4) false (.assign (.const (.bool false)))]
abbrev p_ref01_Same_2 : List Nat := [0]
def s_ref01_Same_3 : List AStep := [.pure (some 5) false (.assign (.const (.int .i64 0)))]
abbrev p_ref01_Same_3 : List Nat := [0]
def s_ref01_Same_4 : List AStep := [.pure (some 11) false (.move (.tmp 5)), .pure (some 12) false (.move (.tmp 0)), .pure (some 13) false (.call (.mk (.builtin .len) #[.tmp 12] #[25])), .pure (some 14) false (.binOp .lss 3 (.tmp 11) (.tmp 13) 3)]
abbrev p_ref01_Same_4 : List Nat := [0, 1, 2, 3]
def s_ref01_Same_6 : SP := (.one (.pure (some 17) false (.move (.tmp 0))) (.one (.pure (some 18) false (.move (.tmp 5))) (.one (.pure (some 19) false (.indexAddr 25 (.tmp 17) (.tmp 18))) (.one (.pure (some 21) false (.move (.tmp 1))) (.one (.pure (some 22) false (.move (.tmp 5))) (.one (.pure (some 23) false (.indexAddr 25 (.tmp 21) (.tmp 22))) (.one (.read (some 20) false (.load 5 (.tmp 19))) (.one (.read (some 24) false (.load 5 (.tmp 23))) (.one (.pure (some 25) false (.binOp .neq 5 (.tmp 20) (.tmp 24) 5)) .done)))))))))
abbrev p_ref01_Same_6 : PC := (.calm 0 268 (.calm 1 268 (.calm 2 264 (.calm 4 448 (.calm 5 448 (.calm 6 384 (.calm 3 256 (.calm 7 256 (.calm 8 0 .done)))))))))
abbrev g_ref01_Same_6 : List Dg := [⟨0, 1, 131072, .pure, true⟩, ⟨0, 32, 262144, .pure, true⟩, ⟨3, 393216, 524288, .pure, true⟩, ⟨4, 524288, 1048576, .read, true⟩, ⟨0, 2, 2097152, .pure, true⟩, ⟨0, 32, 4194304, .pure, true⟩, ⟨48, 6291456, 8388608, .pure, true⟩, ⟨64, 8388608, 16777216, .read, true⟩, ⟨136, 17825792, 33554432, .pure, true⟩]
abbrev q_ref01_Same_6 : List Nat := []
def s_ref01_Same_7 : List AStep := [.pure (some 4) false (.assign (.const (.bool false)))]
abbrev p_ref01_Same_7 : List Nat := [0]
def s_ref01_Same_5 : List AStep := [.pure (some 15) false (.move (.tmp 5)), .pure (some 16) false (.binOp .add 3 (.tmp 15) (.const (.int .i64 1)) 3), .pure (some 5) false (.assign (.tmp 16))]
abbrev p_ref01_Same_5 : List Nat := [0, 1, 2]
def s_ref01_Same_8 : List AStep := [.pure (some 4) false (.assign (.const (.bool true)))]
abbrev p_ref01_Same_8 : List Nat := [0]

/-! erewhile/erewhileref05.Hide -/
abbrev n_ref05_Hide : Nat := 13
theorem func_ref05_Hide : Try.prog.funcs[n_ref05_Hide]? = some Try.f13 := Try.func13
theorem call_ref05_Hide : ∀ args w, (callFunc n_ref05_Hide args).run Try.prog w = .ok (.enter n_ref05_Hide args) w := Try.call13
theorem nt_ref05_Hide : Try.f13.ntmps = 11 := Try.ntmps13
theorem rs_ref05_Hide : Try.f13.results.toList = [.tmp 4] := by rw [Try.results13]
def s_ref05_Hide_0 : List AStep := [.eff (some 2) (.box 33 (.tmp 0)), .pure (some 4) false (.assign (.const (.slice none 0 0)))]
abbrev p_ref05_Hide_0 : List Nat := [0, 1]
def s_ref05_Hide_1 : List AStep := [.pure (some 5) false (.move (.tmp 1)), .pure (some 6) false (.call (.mk (.builtin .len) #[.tmp 5] #[25])), .pure (some 7) false (.binOp .gtr 3 (.tmp 6) (.const (.int .i64 32)) 3)]
abbrev p_ref05_Hide_1 : List Nat := [0, 1, 2]
def s_ref05_Hide_2 : List AStep := [.pure (some 4) false (.assign (.const (.slice none 0 0)))]
abbrev p_ref05_Hide_2 : List Nat := [0]
def s_ref05_Hide_3 : List AStep := [.pure (some 8) false (.move (.tmp 1)), .pure (some 9) false (.slice 33 (.tmp 2) none none none), .call (some 10) false ⟨.value (.func 24), #[.tmp 8, .tmp 9], #[25, 25]⟩, .pure (some 4) false (.assign (.tmp 10))]
abbrev p_ref05_Hide_3 : List Nat := [0, 1, 2, 3]

/-! erewhile/erewhileref05.LitPad -/
abbrev n_ref05_LitPad : Nat := 14
theorem func_ref05_LitPad : Try.prog.funcs[n_ref05_LitPad]? = some Try.f14 := Try.func14
theorem call_ref05_LitPad : ∀ args w, (callFunc n_ref05_LitPad args).run Try.prog w = .ok (.enter n_ref05_LitPad args) w := Try.call14
theorem nt_ref05_LitPad : Try.f14.ntmps = 42 := Try.ntmps14
theorem rs_ref05_LitPad : Try.f14.results.toList = [.cell 4 33] := by rw [Try.results14]
def s_ref05_LitPad_0 : List AStep := [.eff (some 2) (.box 23 (.tmp 0)), .eff (some 4) (.alloc 33)]
abbrev p_ref05_LitPad_0 : List Nat := [0, 1]
def s_ref05_LitPad_1 : List AStep := [.eff (some 5) (.alloc 33)]
abbrev p_ref05_LitPad_1 : List Nat := [0]
def s_ref05_LitPad_2 : List AStep := [.pure (some 8) false (.indexAddr 23 (.tmp 2) (.const (.int .i64 0))), .read (some 9) false (.load 5 (.tmp 8)), .pure (some 10) false (.convert 5 24 (.tmp 9)), .pure (some 11) false (.indexAddr 23 (.tmp 2) (.const (.int .i64 1))), .read (some 12) false (.load 5 (.tmp 11)), .pure (some 13) false (.convert 5 24 (.tmp 12)), .pure (some 14) false (.binOp .mul 24 (.const (.int .u64 256)) (.tmp 13) 24), .pure (some 15) false (.binOp .add 24 (.tmp 10) (.tmp 14) 24), .pure (some 16) false (.indexAddr 23 (.tmp 2) (.const (.int .i64 2))), .read (some 17) false (.load 5 (.tmp 16)), .pure (some 18) false (.convert 5 24 (.tmp 17)), .pure (some 19) false (.binOp .mul 24 (.const (.int .u64 65536)) (.tmp 18) 24), .pure (some 20) false (.binOp .add 24 (.tmp 15) (.tmp 19) 24), .pure (some 21) false (.binOp .add 24 (.tmp 20) (.const (.int .u64 7)) 24), .pure (some 6) false (.assign (.tmp 21))]
abbrev p_ref05_LitPad_2 : List Nat := [0, 1, 2, 3, 4, 5, 6, 7, 8, 9, 10, 11, 12, 13, 14]
def s_ref05_LitPad_3 : List AStep := [.pure (some 7) false (.assign (.const (.int .i64 0)))]
abbrev p_ref05_LitPad_3 : List Nat := [0]
def s_ref05_LitPad_4 : List AStep := [.pure (some 22) false (.move (.tmp 7)), .pure (some 23) false (.binOp .lss 3 (.tmp 22) (.const (.int .i64 32)) 3)]
abbrev p_ref05_LitPad_4 : List Nat := [0, 1]
def s_ref05_LitPad_6 : List AStep := [.pure (some 26) false (.move (.tmp 6)), .pure (some 27) false (.binOp .mul 24 (.tmp 26) (.const (.int .u64 6364136223846793005)) 24), .pure (some 28) false (.binOp .add 24 (.tmp 27) (.const (.int .u64 1442695040888963407)) 24), .pure (some 29) false (.move (.tmp 1)), .pure (some 30) false (.binOp .add 24 (.tmp 28) (.tmp 29) 24), .pure (some 31) false (.move (.tmp 7)), .pure (some 32) false (.indexAddr 23 (.tmp 2) (.tmp 31)), .read (some 33) false (.load 5 (.tmp 32)), .pure (some 34) false (.convert 5 24 (.tmp 33)), .pure (some 35) false (.binOp .add 24 (.tmp 30) (.tmp 34) 24), .pure (some 6) false (.assign (.tmp 35))]
abbrev p_ref05_LitPad_6 : List Nat := [0, 1, 2, 3, 4, 5, 6, 7, 8, 9, 10]
def s_ref05_LitPad_7 : List AStep := [.pure (some 36) false (.move (.tmp 7)), .pure (some 37) false (.move (.tmp 6)), .pure (some 38) false (.binOp .shr 24 (.tmp 37) (.const (.int .u64 56)) 54), .pure (some 39) false (.convert 24 5 (.tmp 38)), .pure (some 40) false (.indexAddr 33 (.tmp 5) (.tmp 36)), .eff none (.store 5 (.tmp 40) (.tmp 39))]
abbrev p_ref05_LitPad_7 : List Nat := [0, 1, 2, 3, 4, 5]
def s_ref05_LitPad_5 : List AStep := [.pure (some 24) false (.move (.tmp 7)), .pure (some 25) false (.binOp .add 3 (.tmp 24) (.const (.int .i64 1)) 3), .pure (some 7) false (.assign (.tmp 25))]
abbrev p_ref05_LitPad_5 : List Nat := [0, 1, 2]
def s_ref05_LitPad_8 : List AStep := [.read (some 41) false (.load 33 (.tmp 5)), .eff none (.store 33 (.tmp 4) (.tmp 41))]
abbrev p_ref05_LitPad_8 : List Nat := [0, 1]

/-! erewhile/wire.Xor -/
abbrev n_wire_Xor : Nat := 19
theorem func_wire_Xor : Try.prog.funcs[n_wire_Xor]? = some Try.f19 := Try.func19
theorem call_wire_Xor : ∀ args w, (callFunc n_wire_Xor args).run Try.prog w = .ok (.enter n_wire_Xor args) w := Try.call19
theorem nt_wire_Xor : Try.f19.ntmps = 32 := Try.ntmps19
theorem rs_wire_Xor : Try.f19.results.toList = [.tmp 4] := by rw [Try.results19]
def s_wire_Xor_0 : List AStep := [.pure (some 4) false (.assign (.const (.slice none 0 0)))]
abbrev p_wire_Xor_0 : List Nat := [0]
def s_wire_Xor_1 : List AStep := [.pure (some 7) false (.move (.tmp 0)), .pure (some 8) false (.call (.mk (.builtin .len) #[.tmp 7] #[25])), .pure (some 9) false (.move (.tmp 1)), .pure (some 10) false (.call (.mk (.builtin .len) #[.tmp 9] #[25])), .pure (some 11) false (.call (.mk (.builtin .min) #[.tmp 8, .tmp 10] #[3, 3])), .eff (some 12) (.makeSlice 25 (.tmp 11) (.tmp 11)), .pure (some 5) false (.assign (.tmp 12))]
abbrev p_wire_Xor_1 : List Nat := [0, 1, 2, 3, 4, 5, 6]
def s_wire_Xor_2 : List AStep := [.pure (some 13) false (.move (.tmp 5)), .pure (some 14) false (.call (.mk (.builtin .len) #[.tmp 13] #[25])), .pure (some 15) false (.move (.const (.int .i64 0)))]
abbrev p_wire_Xor_2 : List Nat := [0, 1, 2]
def s_wire_Xor_3 : List AStep := [.pure (some 16) false (.binOp .lss 3 (.tmp 15) (.tmp 14) 3)]
abbrev p_wire_Xor_3 : List Nat := [0]
def s_wire_Xor_4 : List AStep := [.pure (some 17) false (.move (.tmp 15)), .pure (some 6) false (.assign (.tmp 17))]
abbrev p_wire_Xor_4 : List Nat := [0, 1]
def s_wire_Xor_5 : SP := (.one (.pure (some 18) false (.move (.tmp 5))) (.one (.pure (some 19) false (.move (.tmp 6))) (.one (.pure (some 20) false (.move (.tmp 0))) (.one (.pure (some 21) false (.move (.tmp 6))) (.one (.pure (some 22) false (.indexAddr 25 (.tmp 20) (.tmp 21))) (.one (.pure (some 24) false (.move (.tmp 1))) (.one (.pure (some 25) false (.move (.tmp 6))) (.one (.pure (some 26) false (.indexAddr 25 (.tmp 24) (.tmp 25))) (.one (.read (some 23) false (.load 5 (.tmp 22))) (.one (.read (some 27) false (.load 5 (.tmp 26))) (.one (.pure (some 28) false (.binOp .xor 5 (.tmp 23) (.tmp 27) 5)) (.one (.pure (some 29) false (.indexAddr 25 (.tmp 18) (.tmp 19))) (.one (.eff none (.store 5 (.tmp 29) (.tmp 28))) .done)))))))))))))
abbrev p_wire_Xor_5 : PC := (.calm 0 6144 (.calm 1 6144 (.calm 2 7216 (.calm 3 7216 (.calm 4 7200 (.calm 6 7936 (.calm 7 7936 (.calm 8 7680 (.calm 5 7168 (.calm 9 7168 (.calm 10 6144 (.calm 11 4096 (.act 12 .done)))))))))))))
abbrev g_wire_Xor_5 : List Dg := [⟨0, 32, 262144, .pure, true⟩, ⟨0, 64, 524288, .pure, true⟩, ⟨0, 1, 1048576, .pure, true⟩, ⟨0, 64, 2097152, .pure, true⟩, ⟨12, 3145728, 4194304, .pure, true⟩, ⟨16, 4194304, 8388608, .read, true⟩, ⟨0, 2, 16777216, .pure, true⟩, ⟨0, 64, 33554432, .pure, true⟩, ⟨192, 50331648, 67108864, .pure, true⟩, ⟨256, 67108864, 134217728, .read, true⟩, ⟨544, 142606336, 268435456, .pure, true⟩, ⟨2047, 786432, 536870912, .pure, true⟩, ⟨4095, 805306368, 0, .eff, false⟩]
abbrev q_wire_Xor_5 : List Nat := []
def s_wire_Xor_6 : List AStep := [.pure (some 30) false (.binOp .add 3 (.tmp 15) (.const (.int .i64 1)) 3), .pure (some 15) false (.move (.tmp 30))]
abbrev p_wire_Xor_6 : List Nat := [0, 1]
def s_wire_Xor_7 : List AStep := [.pure (some 31) false (.move (.tmp 5)), .pure (some 4) false (.assign (.tmp 31))]
abbrev p_wire_Xor_7 : List Nat := [0, 1]

/-! (erewhile/cipher.Real).Sum -/
abbrev n_cipher_Real_Sum : Nat := 21
theorem func_cipher_Real_Sum : Try.prog.funcs[n_cipher_Real_Sum]? = some Try.f21 := Try.func21
theorem call_cipher_Real_Sum : ∀ args w, (callFunc n_cipher_Real_Sum args).run Try.prog w = .ok (.enter n_cipher_Real_Sum args) w := Try.call21
theorem nt_cipher_Real_Sum : Try.f21.ntmps = 10 := Try.ntmps21
theorem rs_cipher_Real_Sum : Try.f21.results.toList = [.cell 6 48] := by rw [Try.results21]
def s_cipher_Real_Sum_0 : List AStep := [.eff (some 3) (.box 41 (.tmp 0)), .eff (some 4) (.box 23 (.tmp 1)), .eff (some 6) (.alloc 48)]
abbrev p_cipher_Real_Sum_0 : List Nat := [0, 1, 2]
def s_cipher_Real_Sum_1 : List AStep := [.read (some 7) false (.load 23 (.tmp 4)), .pure (some 8) false (.move (.tmp 2)), .call (some 9) false ⟨.value (.func 27), #[.tmp 7, .tmp 8], #[23, 25]⟩, .eff none (.store 48 (.tmp 6) (.tmp 9))]
abbrev p_cipher_Real_Sum_1 : List Nat := [0, 1, 2, 3]

/-! erewhile/erewhileref05.Sum -/
abbrev n_ref05_Sum : Nat := 22
theorem func_ref05_Sum : Try.prog.funcs[n_ref05_Sum]? = some Try.f22 := Try.func22
theorem call_ref05_Sum : ∀ args w, (callFunc n_ref05_Sum args).run Try.prog w = .ok (.enter n_ref05_Sum args) w := Try.call22
theorem nt_ref05_Sum : Try.f22.ntmps = 8 := Try.ntmps22
theorem rs_ref05_Sum : Try.f22.results.toList = [.cell 4 48] := by rw [Try.results22]
def s_ref05_Sum_0 : List AStep := [.eff (some 2) (.box 23 (.tmp 0)), .eff (some 4) (.alloc 48)]
abbrev p_ref05_Sum_0 : List Nat := [0, 1]
def s_ref05_Sum_1 : List AStep := [.read (some 5) false (.load 23 (.tmp 2)), .pure (some 6) false (.move (.tmp 1)), .call (some 7) false ⟨.value (.func 28), #[.tmp 5, .tmp 6], #[23, 25]⟩, .eff none (.store 48 (.tmp 4) (.tmp 7))]
abbrev p_ref05_Sum_1 : List Nat := [0, 1, 2, 3]

/-! erewhile/sha.Sum -/
abbrev n_sha_Sum : Nat := 23
theorem func_sha_Sum : Try.prog.funcs[n_sha_Sum]? = some Try.f23 := Try.func23
theorem call_sha_Sum : ∀ args w, (callFunc n_sha_Sum args).run Try.prog w = .ok (.enter n_sha_Sum args) w := Try.call23
theorem nt_sha_Sum : Try.f23.ntmps = 38 := Try.ntmps23
theorem rs_sha_Sum : Try.f23.results.toList = [.cell 2 23] := by rw [Try.results23]
def s_sha_Sum_0 : List AStep := [.eff (some 2) (.alloc 23)]
abbrev p_sha_Sum_0 : List Nat := [0]
def s_sha_Sum_1 : List AStep := [.call (some 7) false ⟨.value (.func 29), #[], #[]⟩, .eff (some 3) (.alloc 59), .eff none (.store 59 (.tmp 3) (.tmp 7))]
abbrev p_sha_Sum_1 : List Nat := [0, 1, 2]
def s_sha_Sum_2 : List AStep := [.pure (some 8) false (.move (.tmp 0)), .call (some 9) false ⟨.value (.func 30), #[.tmp 8], #[25]⟩, .pure (some 4) false (.assign (.tmp 9))]
abbrev p_sha_Sum_2 : List Nat := [0, 1, 2]
def s_sha_Sum_3 : List AStep := [.pure (some 10) false (.move (.tmp 4)), .pure (some 11) false (.call (.mk (.builtin .len) #[.tmp 10] #[25])), .pure (some 12) false (.binOp .gtr 3 (.tmp 11) (.const (.int .i64 0)) 3)]
abbrev p_sha_Sum_3 : List Nat := [0, 1, 2]
def s_sha_Sum_5 : SP := (.one (.pure (some 16) false (.move (.tmp 4))) (.one (.pure (some 17) false (.slice 25 (.tmp 16) none (some (.const (.int .i64 64))) none)) (.one (.pure (some 18) false (.sliceToArrayPointer 55 (.tmp 17))) (.one (.read (some 15) false (.load 59 (.tmp 3))) (.one (.read (some 19) false (.load 55 (.tmp 18))) (.one (.call (some 20) false ⟨.value (.func 31), #[.tmp 15, .tmp 19], #[59, 55]⟩) (.one (.eff none (.store 59 (.tmp 3) (.tmp 20))) .done)))))))
abbrev p_sha_Sum_5 : PC := (.calm 1 124 (.calm 2 120 (.calm 3 112 (.calm 0 96 (.calm 4 96 (.act 5 (.act 6 .done)))))))
abbrev g_sha_Sum_5 : List Dg := [⟨0, 8, 32768, .read, true⟩, ⟨0, 16, 65536, .pure, true⟩, ⟨2, 65536, 131072, .pure, true⟩, ⟨4, 131072, 262144, .pure, true⟩, ⟨8, 262144, 524288, .read, true⟩, ⟨17, 557056, 1048576, .call, true⟩, ⟨63, 1048584, 0, .eff, false⟩]
abbrev q_sha_Sum_5 : List Nat := []
def s_sha_Sum_4 : List AStep := [.pure (some 13) false (.move (.tmp 4)), .pure (some 14) false (.slice 25 (.tmp 13) (some (.const (.int .i64 64))) none none), .pure (some 4) false (.assign (.tmp 14))]
abbrev p_sha_Sum_4 : List Nat := [0, 1, 2]
def s_sha_Sum_6 : List AStep := [.eff (some 5) (.alloc 23)]
abbrev p_sha_Sum_6 : List Nat := [0]
def s_sha_Sum_7 : List AStep := [.pure (some 21) false (.move (.const (.int .i64 0)))]
abbrev p_sha_Sum_7 : List Nat := [0]
def s_sha_Sum_8 : List AStep := [.pure (some 22) false (.binOp .lss 3 (.tmp 21) (.const (.int .i64 32)) 3)]
abbrev p_sha_Sum_8 : List Nat := [0]
def s_sha_Sum_9 : List AStep := [.pure (some 23) false (.move (.tmp 21)), .pure (some 6) false (.assign (.tmp 23))]
abbrev p_sha_Sum_9 : List Nat := [0, 1]
def s_sha_Sum_10 : List AStep := [.pure (some 24) false (.move (.tmp 6)), .pure (some 25) false (.move (.tmp 6)), .pure (some 26) false (.binOp .quo 3 (.tmp 25) (.const (.int .i64 4)) 3), .pure (some 27) false (.indexAddr 59 (.tmp 3) (.tmp 26)), .read (some 28) false (.load 57 (.tmp 27)), .pure (some 29) false (.move (.tmp 6)), .pure (some 30) false (.binOp .rem 3 (.tmp 29) (.const (.int .i64 4)) 3), .pure (some 31) false (.binOp .mul 3 (.const (.int .i64 8)) (.tmp 30) 3), .pure (some 32) false (.binOp .sub 3 (.const (.int .i64 24)) (.tmp 31) 3), .pure (some 33) false (.binOp .shr 57 (.tmp 28) (.tmp 32) 3), .pure (some 34) false (.convert 57 5 (.tmp 33)), .pure (some 35) false (.indexAddr 23 (.tmp 5) (.tmp 24)), .eff none (.store 5 (.tmp 35) (.tmp 34))]
abbrev p_sha_Sum_10 : List Nat := [0, 1, 2, 3, 4, 5, 6, 7, 8, 9, 10, 11, 12]
def s_sha_Sum_11 : List AStep := [.pure (some 36) false (.binOp .add 3 (.tmp 21) (.const (.int .i64 1)) 3), .pure (some 21) false (.move (.tmp 36))]
abbrev p_sha_Sum_11 : List Nat := [0, 1]
def s_sha_Sum_12 : List AStep := [.read (some 37) false (.load 23 (.tmp 5)), .eff none (.store 23 (.tmp 2) (.tmp 37))]
abbrev p_sha_Sum_12 : List Nat := [0, 1]

/-! erewhile/erewhileref01.Xor -/
abbrev n_ref01_Xor : Nat := 24
theorem func_ref01_Xor : Try.prog.funcs[n_ref01_Xor]? = some Try.f24 := Try.func24
theorem call_ref01_Xor : ∀ args w, (callFunc n_ref01_Xor args).run Try.prog w = .ok (.enter n_ref01_Xor args) w := Try.call24
theorem nt_ref01_Xor : Try.f24.ntmps = 55 := Try.ntmps24
theorem rs_ref01_Xor : Try.f24.results.toList = [.tmp 4] := by rw [Try.results24]
def s_ref01_Xor_0 : List AStep := [.pure (some 4) false (.assign (.const (.slice none 0 0)))]
abbrev p_ref01_Xor_0 : List Nat := [0]
def s_ref01_Xor_1 : List AStep := [.pure (some 5) false (.assign (.const (.slice none 0 0)))]
abbrev p_ref01_Xor_1 : List Nat := [0]
def s_ref01_Xor_2 : List AStep := [.pure (some 6) false (.assign (.const (.int .i64 0)))]
abbrev p_ref01_Xor_2 : List Nat := [0]
def s_ref01_Xor_3 : List AStep := [.pure (some 12) false (.move (.tmp 6)), .pure (some 13) false (.move (.tmp 0)), .pure (some 14) false (.call (.mk (.builtin .len) #[.tmp 13] #[25])), .pure (some 15) false (.binOp .lss 3 (.tmp 12) (.tmp 14) 3), .pure (some 16) true (.move (.tmp 15)), .guard 16 true (.pure (some 17) false (.move (.tmp 6))), .guard 16 true (.pure (some 18) false (.move (.tmp 1))), .guard 16 true (.pure (some 19) false (.call (.mk (.builtin .len) #[.tmp 18] #[25]))), .guard 16 true (.pure (some 20) false (.binOp .lss 3 (.tmp 17) (.tmp 19) 3)), .pure (some 21) false (.pick (.tmp 16) (.tmp 20) (.const (.bool false)))]
abbrev p_ref01_Xor_3 : List Nat := [0, 1, 2, 3, 4, 5, 6, 7, 8, 9]
def s_ref01_Xor_5 : List AStep := [.pure (some 24) false (.move (.tmp 0)), .pure (some 25) false (.move (.tmp 6)), .pure (some 26) false (.indexAddr 25 (.tmp 24) (.tmp 25)), .read (some 27) false (.load 5 (.tmp 26)), .pure (some 7) false (.assign (.tmp 27))]
abbrev p_ref01_Xor_5 : List Nat := [0, 1, 2, 3, 4]
def s_ref01_Xor_6 : List AStep := [.pure (some 28) false (.move (.tmp 1)), .pure (some 29) false (.move (.tmp 6)), .pure (some 30) false (.indexAddr 25 (.tmp 28) (.tmp 29)), .read (some 31) false (.load 5 (.tmp 30)), .pure (some 8) false (.assign (.tmp 31))]
abbrev p_ref01_Xor_6 : List Nat := [0, 1, 2, 3, 4]
def s_ref01_Xor_7 : List AStep := [.pure (some 9) false (.assign (.const (.int .u8 0)))]
abbrev p_ref01_Xor_7 : List Nat := [0]
def s_ref01_Xor_8 : List AStep := [.pure (some 10) false (.assign (.const (.int .u8 1)))]
abbrev p_ref01_Xor_8 : List Nat := [0]
def s_ref01_Xor_9 : List AStep := [.pure (some 11) false (.assign (.const (.int .i64 0)))]
abbrev p_ref01_Xor_9 : List Nat := [0]
def s_ref01_Xor_10 : List AStep := [.pure (some 32) false (.move (.tmp 11)), .pure (some 33) false (.binOp .lss 3 (.tmp 32) (.const (.int .i64 8)) 3)]
abbrev p_ref01_Xor_10 : List Nat := [0, 1]
def s_ref01_Xor_12 : List AStep := [.pure (some 36) false (.move (.tmp 7)), .pure (some 37) false (.binOp .rem 5 (.tmp 36) (.const (.int .u8 2)) 5), .pure (some 38) false (.move (.tmp 8)), .pure (some 39) false (.binOp .rem 5 (.tmp 38) (.const (.int .u8 2)) 5), .pure (some 40) false (.binOp .neq 5 (.tmp 37) (.tmp 39) 5)]
abbrev p_ref01_Xor_12 : List Nat := [0, 1, 2, 3, 4]
def s_ref01_Xor_13 : List AStep := [.pure (some 41) false (.move (.tmp 9)), .pure (some 42) false (.move (.tmp 10)), .pure (some 43) false (.binOp .add 5 (.tmp 41) (.tmp 42) 5), .pure (some 9) false (.assign (.tmp 43))]
abbrev p_ref01_Xor_13 : List Nat := [0, 1, 2, 3]
def s_ref01_Xor_14 : List AStep := [.pure (some 44) false (.move (.tmp 7)), .pure (some 45) false (.binOp .quo 5 (.tmp 44) (.const (.int .u8 2)) 5), .pure (some 7) false (.assign (.tmp 45))]
abbrev p_ref01_Xor_14 : List Nat := [0, 1, 2]
def s_ref01_Xor_15 : List AStep := [.pure (some 46) false (.move (.tmp 8)), .pure (some 47) false (.binOp .quo 5 (.tmp 46) (.const (.int .u8 2)) 5), .pure (some 8) false (.assign (.tmp 47))]
abbrev p_ref01_Xor_15 : List Nat := [0, 1, 2]
def s_ref01_Xor_16 : List AStep := [.pure (some 48) false (.move (.tmp 10)), .pure (some 49) false (.binOp .mul 5 (.tmp 48) (.const (.int .u8 2)) 5), .pure (some 10) false (.assign (.tmp 49))]
abbrev p_ref01_Xor_16 : List Nat := [0, 1, 2]
def s_ref01_Xor_11 : List AStep := [.pure (some 34) false (.move (.tmp 11)), .pure (some 35) false (.binOp .add 3 (.tmp 34) (.const (.int .i64 1)) 3), .pure (some 11) false (.assign (.tmp 35))]
abbrev p_ref01_Xor_11 : List Nat := [0, 1, 2]
def s_ref01_Xor_17 : List AStep := [.pure (some 50) false (.move (.tmp 5)), .pure (some 51) false (.move (.tmp 9)), .eff (some 52) (.buildSlice 25 1 #[(0, .tmp 51)]), .eff (some 53) (.call (.mk (.builtin .append) #[.tmp 50, .tmp 52] #[25, 25])), .pure (some 5) false (.assign (.tmp 53))]
abbrev p_ref01_Xor_17 : List Nat := [0, 1, 2, 3, 4]
def s_ref01_Xor_4 : List AStep := [.pure (some 22) false (.move (.tmp 6)), .pure (some 23) false (.binOp .add 3 (.tmp 22) (.const (.int .i64 1)) 3), .pure (some 6) false (.assign (.tmp 23))]
abbrev p_ref01_Xor_4 : List Nat := [0, 1, 2]
def s_ref01_Xor_18 : List AStep := [.pure (some 54) false (.move (.tmp 5)), .pure (some 4) false (.assign (.tmp 54))]
abbrev p_ref01_Xor_18 : List Nat := [0, 1]

/-! erewhile/seal.Sum -/
abbrev n_seal_Sum : Nat := 27
theorem func_seal_Sum : Try.prog.funcs[n_seal_Sum]? = some Try.f27 := Try.func27
theorem call_seal_Sum : ∀ args w, (callFunc n_seal_Sum args).run Try.prog w = .ok (.enter n_seal_Sum args) w := Try.call27
theorem nt_seal_Sum : Try.f27.ntmps = 17 := Try.ntmps27
theorem rs_seal_Sum : Try.f27.results.toList = [.cell 4 48] := by rw [Try.results27]
def s_seal_Sum_0 : List AStep := [.eff (some 2) (.box 23 (.tmp 0)), .eff (some 4) (.alloc 48)]
abbrev p_seal_Sum_0 : List Nat := [0, 1]
def s_seal_Sum_1 : List AStep := [.pure (some 6) false (.slice 23 (.tmp 2) none none none), .pure (some 7) false (.move (.tmp 1)), .eff (some 8) (.buildSlice 77 2 #[(0, .tmp 6), (1, .tmp 7)]), .call (some 9) false ⟨.value (.func 36), #[.tmp 8], #[77]⟩, .call (some 10) false ⟨.value (.func 23), #[.tmp 9], #[25]⟩, .eff (some 5) (.alloc 23), .eff none (.store 23 (.tmp 5) (.tmp 10))]
abbrev p_seal_Sum_1 : List Nat := [0, 1, 2, 3, 4, 5, 6]
def s_seal_Sum_2 : SP := (.one (.pure (some 11) false (.slice 23 (.tmp 2) none none none)) (.one (.pure (some 12) false (.slice 23 (.tmp 5) none none none)) (.one (.eff (some 13) (.buildSlice 77 2 #[(0, .tmp 11), (1, .tmp 12)])) (.one (.call (some 14) false ⟨.value (.func 36), #[.tmp 13], #[77]⟩) (.one (.call (some 15) false ⟨.value (.func 23), #[.tmp 14], #[25]⟩) (.one (.call (some 16) false ⟨.value (.func 37), #[.tmp 15], #[23]⟩) (.one (.eff none (.store 48 (.tmp 4) (.tmp 16))) .done)))))))
abbrev p_seal_Sum_2 : PC := (.calm 0 124 (.calm 1 124 (.act 2 (.act 3 (.act 4 (.act 5 (.act 6 .done)))))))
abbrev g_seal_Sum_2 : List Dg := [⟨0, 4, 2048, .pure, true⟩, ⟨0, 32, 4096, .pure, true⟩, ⟨3, 6144, 8192, .eff, true⟩, ⟨4, 8192, 16384, .call, true⟩, ⟨8, 16384, 32768, .call, true⟩, ⟨16, 32768, 65536, .call, true⟩, ⟨63, 65552, 0, .eff, false⟩]
abbrev q_seal_Sum_2 : List Nat := []

/-! erewhile/erewhileref04.Sum -/
abbrev n_ref04_Sum : Nat := 28
theorem func_ref04_Sum : Try.prog.funcs[n_ref04_Sum]? = some Try.f28 := Try.func28
theorem call_ref04_Sum : ∀ args w, (callFunc n_ref04_Sum args).run Try.prog w = .ok (.enter n_ref04_Sum args) w := Try.call28
theorem nt_ref04_Sum : Try.f28.ntmps = 27 := Try.ntmps28
theorem rs_ref04_Sum : Try.f28.results.toList = [.cell 4 48] := by rw [Try.results28]
def s_ref04_Sum_0 : List AStep := [.eff (some 2) (.box 23 (.tmp 0)), .eff (some 4) (.alloc 48)]
abbrev p_ref04_Sum_0 : List Nat := [0, 1]
def s_ref04_Sum_1 : List AStep := [.read (some 8) false (.load 23 (.tmp 2)), .pure (some 9) false (.move (.tmp 1)), .call (some 10) false ⟨.value (.func 39), #[.tmp 8, .tmp 9], #[23, 25]⟩, .call (some 11) false ⟨.value (.func 38), #[.tmp 10], #[25]⟩, .eff (some 5) (.alloc 23), .eff none (.store 23 (.tmp 5) (.tmp 11))]
abbrev p_ref04_Sum_1 : List Nat := [0, 1, 2, 3, 4, 5]
def s_ref04_Sum_2 : List AStep := [.pure (some 6) false (.assign (.const (.slice none 0 0)))]
abbrev p_ref04_Sum_2 : List Nat := [0]
def s_ref04_Sum_3 : List AStep := [.pure (some 7) false (.assign (.const (.int .i64 0)))]
abbrev p_ref04_Sum_3 : List Nat := [0]
def s_ref04_Sum_4 : List AStep := [.pure (some 12) false (.move (.tmp 7)), .pure (some 13) false (.binOp .lss 3 (.tmp 12) (.const (.int .i64 32)) 3)]
abbrev p_ref04_Sum_4 : List Nat := [0, 1]
def s_ref04_Sum_6 : List AStep := [.pure (some 16) false (.move (.tmp 6)), .pure (some 17) false (.move (.tmp 7)), .pure (some 18) false (.indexAddr 23 (.tmp 5) (.tmp 17)), .read (some 19) false (.load 5 (.tmp 18)), .eff (some 20) (.buildSlice 25 1 #[(0, .tmp 19)]), .eff (some 21) (.call (.mk (.builtin .append) #[.tmp 16, .tmp 20] #[25, 25])), .pure (some 6) false (.assign (.tmp 21))]
abbrev p_ref04_Sum_6 : List Nat := [0, 1, 2, 3, 4, 5, 6]
def s_ref04_Sum_5 : List AStep := [.pure (some 14) false (.move (.tmp 7)), .pure (some 15) false (.binOp .add 3 (.tmp 14) (.const (.int .i64 1)) 3), .pure (some 7) false (.assign (.tmp 15))]
abbrev p_ref04_Sum_5 : List Nat := [0, 1, 2]
def s_ref04_Sum_7 : List AStep := [.read (some 22) false (.load 23 (.tmp 2)), .pure (some 23) false (.move (.tmp 6)), .call (some 24) false ⟨.value (.func 39), #[.tmp 22, .tmp 23], #[23, 25]⟩, .call (some 25) false ⟨.value (.func 38), #[.tmp 24], #[25]⟩, .call (some 26) false ⟨.value (.func 40), #[.tmp 25], #[23]⟩, .eff none (.store 48 (.tmp 4) (.tmp 26))]
abbrev p_ref04_Sum_7 : List Nat := [0, 1, 2, 3, 4, 5]

/-! erewhile/sha.first -/
abbrev n_sha_first : Nat := 29
theorem func_sha_first : Try.prog.funcs[n_sha_first]? = some Try.f29 := Try.func29
theorem call_sha_first : ∀ args w, (callFunc n_sha_first args).run Try.prog w = .ok (.enter n_sha_first args) w := Try.call29
theorem nt_sha_first : Try.f29.ntmps = 2 := Try.ntmps29
theorem rs_sha_first : Try.f29.results.toList = [.cell 0 59] := by rw [Try.results29]
def s_sha_first_0 : List AStep := [.eff (some 0) (.alloc 59)]
abbrev p_sha_first_0 : List Nat := [0]
def s_sha_first_1 : List AStep := [.pure (some 1) false (.build 59 #[(0, .const (.int .u32 1779033703)), (1, .const (.int .u32 3144134277)), (2, .const (.int .u32 1013904242)), (3, .const (.int .u32 2773480762)), (4, .const (.int .u32 1359893119)), (5, .const (.int .u32 2600822924)), (6, .const (.int .u32 528734635)), (7, .const (.int .u32 1541459225))]), .eff none (.store 59 (.tmp 0) (.tmp 1))]
abbrev p_sha_first_1 : List Nat := [0, 1]

/-! erewhile/sha.Pad -/
abbrev n_sha_Pad : Nat := 30
theorem func_sha_Pad : Try.prog.funcs[n_sha_Pad]? = some Try.f30 := Try.func30
theorem call_sha_Pad : ∀ args w, (callFunc n_sha_Pad args).run Try.prog w = .ok (.enter n_sha_Pad args) w := Try.call30
theorem nt_sha_Pad : Try.f30.ntmps = 43 := Try.ntmps30
theorem rs_sha_Pad : Try.f30.results.toList = [.tmp 2] := by rw [Try.results30]
def s_sha_Pad_0 : List AStep := [.pure (some 2) false (.assign (.const (.slice none 0 0)))]
abbrev p_sha_Pad_0 : List Nat := [0]
def s_sha_Pad_1 : List AStep := [.pure (some 6) false (.move (.tmp 0)), .pure (some 7) false (.call (.mk (.builtin .len) #[.tmp 6] #[25])), .pure (some 8) false (.binOp .add 3 (.tmp 7) (.const (.int .i64 9)) 3), .pure (some 3) false (.assign (.tmp 8))]
abbrev p_sha_Pad_1 : List Nat := [0, 1, 2, 3]
def s_sha_Pad_2 : List AStep := [.pure (some 9) false (.move (.tmp 3)), .pure (some 10) false (.move (.tmp 3)), .pure (some 11) false (.binOp .rem 3 (.tmp 10) (.const (.int .i64 64)) 3), .pure (some 12) false (.binOp .sub 3 (.const (.int .i64 64)) (.tmp 11) 3), .pure (some 13) false (.binOp .rem 3 (.tmp 12) (.const (.int .i64 64)) 3), .pure (some 14) false (.binOp .add 3 (.tmp 9) (.tmp 13) 3), .pure (some 3) false (.assign (.tmp 14))]
abbrev p_sha_Pad_2 : List Nat := [0, 1, 2, 3, 4, 5, 6]
def s_sha_Pad_3 : List AStep := [.pure (some 15) false (.move (.tmp 3)), .eff (some 16) (.makeSlice 25 (.tmp 15) (.tmp 15)), .pure (some 4) false (.assign (.tmp 16))]
abbrev p_sha_Pad_3 : List Nat := [0, 1, 2]
def s_sha_Pad_4 : List AStep := [.pure (some 17) false (.move (.tmp 4)), .pure (some 18) false (.move (.tmp 0)), .eff (some 19) (.call (.mk (.builtin .copy) #[.tmp 17, .tmp 18] #[25, 25]))]
abbrev p_sha_Pad_4 : List Nat := [0, 1, 2]
def s_sha_Pad_5 : List AStep := [.pure (some 20) false (.move (.tmp 4)), .pure (some 21) false (.move (.tmp 0)), .pure (some 22) false (.call (.mk (.builtin .len) #[.tmp 21] #[25])), .pure (some 23) false (.indexAddr 25 (.tmp 20) (.tmp 22)), .eff none (.store 5 (.tmp 23) (.const (.int .u8 128)))]
abbrev p_sha_Pad_5 : List Nat := [0, 1, 2, 3, 4]
def s_sha_Pad_6 : List AStep := [.pure (some 24) false (.move (.const (.int .i64 0)))]
abbrev p_sha_Pad_6 : List Nat := [0]
def s_sha_Pad_7 : List AStep := [.pure (some 25) false (.binOp .lss 3 (.tmp 24) (.const (.int .i64 8)) 3)]
abbrev p_sha_Pad_7 : List Nat := [0]
def s_sha_Pad_8 : List AStep := [.pure (some 26) false (.move (.tmp 24)), .pure (some 5) false (.assign (.tmp 26))]
abbrev p_sha_Pad_8 : List Nat := [0, 1]
def s_sha_Pad_9 : List AStep := [.pure (some 27) false (.move (.tmp 4)), .pure (some 28) false (.move (.tmp 3)), .pure (some 29) false (.binOp .sub 3 (.tmp 28) (.const (.int .i64 1)) 3), .pure (some 30) false (.move (.tmp 5)), .pure (some 31) false (.binOp .sub 3 (.tmp 29) (.tmp 30) 3), .pure (some 32) false (.move (.tmp 0)), .pure (some 33) false (.call (.mk (.builtin .len) #[.tmp 32] #[25])), .pure (some 34) false (.convert 3 24 (.tmp 33)), .pure (some 35) false (.binOp .mul 24 (.tmp 34) (.const (.int .u64 8)) 24), .pure (some 36) false (.move (.tmp 5)), .pure (some 37) false (.binOp .mul 3 (.const (.int .i64 8)) (.tmp 36) 3), .pure (some 38) false (.binOp .shr 24 (.tmp 35) (.tmp 37) 3), .pure (some 39) false (.convert 24 5 (.tmp 38)), .pure (some 40) false (.indexAddr 25 (.tmp 27) (.tmp 31)), .eff none (.store 5 (.tmp 40) (.tmp 39))]
abbrev p_sha_Pad_9 : List Nat := [0, 1, 2, 3, 4, 5, 6, 7, 8, 9, 10, 11, 12, 13, 14]
def s_sha_Pad_10 : List AStep := [.pure (some 41) false (.binOp .add 3 (.tmp 24) (.const (.int .i64 1)) 3), .pure (some 24) false (.move (.tmp 41))]
abbrev p_sha_Pad_10 : List Nat := [0, 1]
def s_sha_Pad_11 : List AStep := [.pure (some 42) false (.move (.tmp 4)), .pure (some 2) false (.assign (.tmp 42))]
abbrev p_sha_Pad_11 : List Nat := [0, 1]

/-! erewhile/sha.Compress -/
abbrev n_sha_Compress : Nat := 31
theorem func_sha_Compress : Try.prog.funcs[n_sha_Compress]? = some Try.f31 := Try.func31
theorem call_sha_Compress : ∀ args w, (callFunc n_sha_Compress args).run Try.prog w = .ok (.enter n_sha_Compress args) w := Try.call31
theorem nt_sha_Compress : Try.f31.ntmps = 164 := Try.ntmps31
theorem rs_sha_Compress : Try.f31.results.toList = [.cell 4 59] := by rw [Try.results31]
def s_sha_Compress_0 : List AStep := [.eff (some 2) (.box 59 (.tmp 0)), .eff (some 3) (.box 55 (.tmp 1)), .eff (some 4) (.alloc 59)]
abbrev p_sha_Compress_0 : List Nat := [0, 1, 2]
def s_sha_Compress_1 : List AStep := [.eff (some 5) (.alloc 70)]
abbrev p_sha_Compress_1 : List Nat := [0]
def s_sha_Compress_2 : List AStep := [.pure (some 22) false (.move (.const (.int .i64 0)))]
abbrev p_sha_Compress_2 : List Nat := [0]
def s_sha_Compress_3 : List AStep := [.pure (some 23) false (.binOp .lss 3 (.tmp 22) (.const (.int .i64 64)) 3)]
abbrev p_sha_Compress_3 : List Nat := [0]
def s_sha_Compress_4 : List AStep := [.pure (some 24) false (.move (.tmp 22)), .pure (some 6) false (.assign (.tmp 24))]
abbrev p_sha_Compress_4 : List Nat := [0, 1]
def s_sha_Compress_5 : List AStep := [.pure (some 25) false (.move (.tmp 6)), .pure (some 26) false (.binOp .lss 3 (.tmp 25) (.const (.int .i64 16)) 3)]
abbrev p_sha_Compress_5 : List Nat := [0, 1]
def s_sha_Compress_6 : List AStep := [.pure (some 27) false (.move (.tmp 6)), .pure (some 28) false (.move (.tmp 6)), .pure (some 29) false (.binOp .mul 3 (.const (.int .i64 4)) (.tmp 28) 3), .pure (some 30) false (.slice 55 (.tmp 3) (some (.tmp 29)) none none), .call (some 31) false ⟨.value (.func 41), #[.tmp 30], #[25]⟩, .pure (some 32) false (.indexAddr 70 (.tmp 5) (.tmp 27)), .eff none (.store 57 (.tmp 32) (.tmp 31))]
abbrev p_sha_Compress_6 : List Nat := [0, 1, 2, 3, 4, 5, 6]
def s_sha_Compress_7 : SP := (.one (.pure (some 33) false (.move (.tmp 6))) (.one (.pure (some 34) false (.binOp .sub 3 (.tmp 33) (.const (.int .i64 15)) 3)) (.one (.pure (some 35) false (.indexAddr 70 (.tmp 5) (.tmp 34))) (.one (.pure (some 37) false (.move (.tmp 6))) (.one (.pure (some 38) false (.binOp .sub 3 (.tmp 37) (.const (.int .i64 2)) 3)) (.one (.pure (some 39) false (.indexAddr 70 (.tmp 5) (.tmp 38))) (.one (.read (some 36) false (.load 57 (.tmp 35))) (.one (.pure (some 7) false (.assign (.tmp 36))) (.one (.read (some 40) false (.load 57 (.tmp 39))) (.one (.pure (some 8) false (.assign (.tmp 40))) .done))))))))))
abbrev p_sha_Compress_7 : PC := (.calm 0 782 (.calm 1 780 (.calm 2 776 (.calm 4 736 (.calm 5 704 (.calm 6 640 (.calm 3 768 (.calm 8 512 (.calm 7 512 (.calm 9 0 .done))))))))))
abbrev g_sha_Compress_7 : List Dg := [⟨0, 64, 8589934592, .pure, true⟩, ⟨1, 8589934592, 17179869184, .pure, true⟩, ⟨2, 17179869216, 34359738368, .pure, true⟩, ⟨4, 34359738368, 68719476736, .read, true⟩, ⟨0, 64, 137438953472, .pure, true⟩, ⟨16, 137438953472, 274877906944, .pure, true⟩, ⟨32, 274877906976, 549755813888, .pure, true⟩, ⟨64, 549755813888, 1099511627776, .read, true⟩, ⟨15, 68719476736, 128, .pure, true⟩, ⟨511, 1099511627776, 256, .pure, true⟩]
abbrev q_sha_Compress_7 : List Nat := []
def s_sha_Compress_8 : SP := (.one (.pure (some 41) false (.move (.tmp 6))) (.one (.pure (some 42) false (.move (.tmp 6))) (.one (.pure (some 43) false (.binOp .sub 3 (.tmp 42) (.const (.int .i64 16)) 3)) (.one (.pure (some 44) false (.indexAddr 70 (.tmp 5) (.tmp 43))) (.one (.pure (some 46) false (.move (.tmp 6))) (.one (.pure (some 47) false (.binOp .sub 3 (.tmp 46) (.const (.int .i64 7)) 3)) (.one (.pure (some 48) false (.indexAddr 70 (.tmp 5) (.tmp 47))) (.one (.pure (some 51) false (.move (.tmp 7))) (.one (.pure (some 53) false (.move (.tmp 7))) (.one (.pure (some 56) false (.move (.tmp 7))) (.one (.pure (some 57) false (.binOp .shr 57 (.tmp 56) (.const (.int .u64 3)) 54)) (.one (.pure (some 60) false (.move (.tmp 8))) (.one (.pure (some 62) false (.move (.tmp 8))) (.one (.pure (some 65) false (.move (.tmp 8))) (.one (.pure (some 66) false (.binOp .shr 57 (.tmp 65) (.const (.int .u64 10)) 54)) (.one (.read (some 45) false (.load 57 (.tmp 44))) (.one (.read (some 49) false (.load 57 (.tmp 48))) (.one (.pure (some 50) false (.binOp .add 57 (.tmp 45) (.tmp 49) 57)) (.one (.call (some 52) false ⟨.value (.func 42), #[.tmp 51, .const (.int .i64 7)], #[57, 3]⟩) (.one (.call (some 54) false ⟨.value (.func 42), #[.tmp 53, .const (.int .i64 18)], #[57, 3]⟩) (.one (.pure (some 55) false (.binOp .xor 57 (.tmp 52) (.tmp 54) 57)) (.one (.pure (some 58) false (.binOp .xor 57 (.tmp 55) (.tmp 57) 57)) (.one (.pure (some 59) false (.binOp .add 57 (.tmp 50) (.tmp 58) 57)) (.one (.call (some 61) false ⟨.value (.func 42), #[.tmp 60, .const (.int .i64 17)], #[57, 3]⟩) (.one (.call (some 63) false ⟨.value (.func 42), #[.tmp 62, .const (.int .i64 19)], #[57, 3]⟩) (.one (.pure (some 64) false (.binOp .xor 57 (.tmp 61) (.tmp 63) 57)) (.one (.pure (some 67) false (.binOp .xor 57 (.tmp 64) (.tmp 66) 57)) (.one (.pure (some 68) false (.binOp .add 57 (.tmp 59) (.tmp 67) 57)) (.one (.pure (some 69) false (.indexAddr 70 (.tmp 5) (.tmp 41))) (.one (.eff none (.store 57 (.tmp 69) (.tmp 68))) .done))))))))))))))))))))))))))))))
abbrev p_sha_Compress_8 : PC := (.calm 0 805306368 (.calm 1 939786780 (.calm 2 939786776 (.calm 3 939786768 (.calm 5 939787200 (.calm 6 939787136 (.calm 7 939787008 (.calm 10 1020684288 (.calm 12 1020682240 (.calm 15 939982848 (.calm 16 939917312 (.calm 19 1020264448 (.calm 21 1019215872 (.calm 24 1040187392 (.calm 25 1006632960 (.calm 4 939786752 (.calm 8 939786752 (.calm 9 939786240 (.act 11 (.act 13 (.calm 14 939917312 (.calm 17 939786240 (.calm 18 939524096 (.act 20 (.act 22 (.calm 23 1006632960 (.calm 26 939524096 (.calm 27 805306368 (.calm 28 536870912 (.act 29 .done))))))))))))))))))))))))))))))
abbrev g_sha_Compress_8 : List Dg := [⟨0, 64, 2199023255552, .pure, true⟩, ⟨0, 64, 4398046511104, .pure, true⟩, ⟨2, 4398046511104, 8796093022208, .pure, true⟩, ⟨4, 8796093022240, 17592186044416, .pure, true⟩, ⟨8, 17592186044416, 35184372088832, .read, true⟩, ⟨0, 64, 70368744177664, .pure, true⟩, ⟨32, 70368744177664, 140737488355328, .pure, true⟩, ⟨64, 140737488355360, 281474976710656, .pure, true⟩, ⟨128, 281474976710656, 562949953421312, .read, true⟩, ⟨272, 598134325510144, 1125899906842624, .pure, true⟩, ⟨0, 128, 2251799813685248, .pure, true⟩, ⟨1024, 2251799813685248, 4503599627370496, .call, true⟩, ⟨0, 128, 9007199254740992, .pure, true⟩, ⟨6144, 9007199254740992, 18014398509481984, .call, true⟩, ⟨10240, 22517998136852480, 36028797018963968, .pure, true⟩, ⟨0, 128, 72057594037927936, .pure, true⟩, ⟨32768, 72057594037927936, 144115188075855872, .pure, true⟩, ⟨81920, 180143985094819840, 288230376151711744, .pure, true⟩, ⟨131584, 289356276058554368, 576460752303423488, .pure, true⟩, ⟨0, 256, 1152921504606846976, .pure, true⟩, ⟨532480, 1152921504606846976, 2305843009213693952, .call, true⟩, ⟨0, 256, 4611686018427387904, .pure, true⟩, ⟨3145728, 4611686018427387904, 9223372036854775808, .call, true⟩, ⟨5242880, 11529215046068469760, 18446744073709551616, .pure, true⟩, ⟨0, 256, 36893488147419103232, .pure, true⟩, ⟨16777216, 36893488147419103232, 73786976294838206464, .pure, true⟩, ⟨41943040, 92233720368547758080, 147573952589676412928, .pure, true⟩, ⟨67371008, 148150413341979836416, 295147905179352825856, .pure, true⟩, ⟨268435455, 2199023255584, 590295810358705651712, .pure, true⟩, ⟨536870911, 885443715538058477568, 0, .eff, false⟩]
abbrev q_sha_Compress_8 : List Nat := []
def s_sha_Compress_9 : List AStep := [.pure (some 70) false (.binOp .add 3 (.tmp 22) (.const (.int .i64 1)) 3), .pure (some 22) false (.move (.tmp 70))]
abbrev p_sha_Compress_9 : List Nat := [0, 1]
def s_sha_Compress_10 : List AStep := [.read (some 71) false (.load 59 (.tmp 2)), .eff (some 9) (.alloc 59), .eff none (.store 59 (.tmp 9) (.tmp 71))]
abbrev p_sha_Compress_10 : List Nat := [0, 1, 2]
def s_sha_Compress_11 : List AStep := [.call (some 72) false ⟨.value (.func 43), #[], #[]⟩, .pure (some 73) false (.move (.const (.int .i64 0)))]
abbrev p_sha_Compress_11 : List Nat := [0, 1]
def s_sha_Compress_12 : List AStep := [.pure (some 74) false (.binOp .lss 3 (.tmp 73) (.const (.int .i64 64)) 3)]
abbrev p_sha_Compress_12 : List Nat := [0]
def s_sha_Compress_13 : List AStep := [.pure (some 75) false (.move (.tmp 73)), .pure (some 76) false (.index 70 (.tmp 72) (.tmp 73)), .pure (some 10) false (.assign (.tmp 75)), .pure (some 11) false (.assign (.tmp 76))]
abbrev p_sha_Compress_13 : List Nat := [0, 1, 2, 3]
def s_sha_Compress_14 : SP := (.one (.pure (some 77) false (.indexAddr 59 (.tmp 9) (.const (.int .i64 0)))) (.one (.pure (some 79) false (.indexAddr 59 (.tmp 9) (.const (.int .i64 1)))) (.one (.pure (some 81) false (.indexAddr 59 (.tmp 9) (.const (.int .i64 2)))) (.one (.pure (some 83) false (.indexAddr 59 (.tmp 9) (.const (.int .i64 3)))) (.one (.pure (some 85) false (.indexAddr 59 (.tmp 9) (.const (.int .i64 4)))) (.one (.pure (some 87) false (.indexAddr 59 (.tmp 9) (.const (.int .i64 5)))) (.one (.pure (some 89) false (.indexAddr 59 (.tmp 9) (.const (.int .i64 6)))) (.one (.read (some 78) false (.load 57 (.tmp 77))) (.one (.pure (some 12) false (.assign (.tmp 78))) (.one (.read (some 80) false (.load 57 (.tmp 79))) (.one (.pure (some 13) false (.assign (.tmp 80))) (.one (.read (some 82) false (.load 57 (.tmp 81))) (.one (.pure (some 14) false (.assign (.tmp 82))) (.one (.read (some 84) false (.load 57 (.tmp 83))) (.one (.pure (some 15) false (.assign (.tmp 84))) (.one (.read (some 86) false (.load 57 (.tmp 85))) (.one (.pure (some 16) false (.assign (.tmp 86))) (.one (.read (some 88) false (.load 57 (.tmp 87))) (.one (.pure (some 17) false (.assign (.tmp 88))) (.one (.read (some 90) false (.load 57 (.tmp 89))) (.one (.pure (some 18) false (.assign (.tmp 90))) .done)))))))))))))))))))))
abbrev p_sha_Compress_14 : PC := (.calm 0 2080770 (.calm 2 2064392 (.calm 4 2031648 (.calm 6 1966208 (.calm 8 1835520 (.calm 10 1574912 (.calm 12 1056768 (.calm 1 2080768 (.calm 14 2064384 (.calm 3 2064384 (.calm 15 2031616 (.calm 5 2031616 (.calm 16 1966080 (.calm 7 1966080 (.calm 17 1835008 (.calm 9 1835008 (.calm 18 1572864 (.calm 11 1572864 (.calm 19 1048576 (.calm 13 1048576 (.calm 20 0 .done)))))))))))))))))))))
abbrev g_sha_Compress_14 : List Dg := [⟨0, 512, 151115727451828646838272, .pure, true⟩, ⟨1, 151115727451828646838272, 302231454903657293676544, .read, true⟩, ⟨0, 512, 604462909807314587353088, .pure, true⟩, ⟨4, 604462909807314587353088, 1208925819614629174706176, .read, true⟩, ⟨0, 512, 2417851639229258349412352, .pure, true⟩, ⟨16, 2417851639229258349412352, 4835703278458516698824704, .read, true⟩, ⟨0, 512, 9671406556917033397649408, .pure, true⟩, ⟨64, 9671406556917033397649408, 19342813113834066795298816, .read, true⟩, ⟨0, 512, 38685626227668133590597632, .pure, true⟩, ⟨256, 38685626227668133590597632, 77371252455336267181195264, .read, true⟩, ⟨0, 512, 154742504910672534362390528, .pure, true⟩, ⟨1024, 154742504910672534362390528, 309485009821345068724781056, .read, true⟩, ⟨0, 512, 618970019642690137449562112, .pure, true⟩, ⟨4096, 618970019642690137449562112, 1237940039285380274899124224, .read, true⟩, ⟨3, 302231454903657293676544, 4096, .pure, true⟩, ⟨16399, 1208925819614629174706176, 8192, .pure, true⟩, ⟨49215, 4835703278458516698824704, 16384, .pure, true⟩, ⟨114943, 19342813113834066795298816, 32768, .pure, true⟩, ⟨246783, 77371252455336267181195264, 65536, .pure, true⟩, ⟨511999, 309485009821345068724781056, 131072, .pure, true⟩, ⟨1048575, 1237940039285380274899124224, 262144, .pure, true⟩]
abbrev q_sha_Compress_14 : List Nat := []
def s_sha_Compress_15 : SP := (.one (.pure (some 91) false (.indexAddr 59 (.tmp 9) (.const (.int .i64 7)))) (.one (.pure (some 93) false (.move (.tmp 16))) (.one (.pure (some 95) false (.move (.tmp 16))) (.one (.pure (some 98) false (.move (.tmp 16))) (.one (.pure (some 102) false (.move (.tmp 16))) (.one (.pure (some 103) false (.move (.tmp 17))) (.one (.pure (some 104) false (.binOp .and 57 (.tmp 102) (.tmp 103) 57)) (.one (.pure (some 105) false (.move (.tmp 16))) (.one (.pure (some 106) false (.unOp .xor 57 (.tmp 105))) (.one (.pure (some 107) false (.move (.tmp 18))) (.one (.pure (some 108) false (.binOp .and 57 (.tmp 106) (.tmp 107) 57)) (.one (.pure (some 109) false (.binOp .xor 57 (.tmp 104) (.tmp 108) 57)) (.one (.pure (some 111) false (.move (.tmp 11))) (.one (.pure (some 113) false (.move (.tmp 10))) (.one (.pure (some 114) false (.indexAddr 70 (.tmp 5) (.tmp 113))) (.one (.read (some 92) false (.load 57 (.tmp 91))) (.one (.read (some 115) false (.load 57 (.tmp 114))) (.one (.call (some 94) false ⟨.value (.func 42), #[.tmp 93, .const (.int .i64 6)], #[57, 3]⟩) (.one (.call (some 96) false ⟨.value (.func 42), #[.tmp 95, .const (.int .i64 11)], #[57, 3]⟩) (.one (.pure (some 97) false (.binOp .xor 57 (.tmp 94) (.tmp 96) 57)) (.one (.call (some 99) false ⟨.value (.func 42), #[.tmp 98, .const (.int .i64 25)], #[57, 3]⟩) (.one (.pure (some 100) false (.binOp .xor 57 (.tmp 97) (.tmp 99) 57)) (.one (.pure (some 101) false (.binOp .add 57 (.tmp 92) (.tmp 100) 57)) (.one (.pure (some 110) false (.binOp .add 57 (.tmp 101) (.tmp 109) 57)) (.one (.pure (some 112) false (.binOp .add 57 (.tmp 110) (.tmp 111) 57)) (.one (.pure (some 116) false (.binOp .add 57 (.tmp 112) (.tmp 115) 57)) (.one (.pure (some 19) false (.assign (.tmp 116))) .done)))))))))))))))))))))))))))
abbrev p_sha_Compress_15 : PC := (.calm 0 103285762 (.calm 2 103286632 (.calm 4 103286624 (.calm 7 103286528 (.calm 11 103555072 (.calm 12 103555072 (.calm 13 103546880 (.calm 14 103710720 (.calm 15 103677952 (.calm 16 103677952 (.calm 17 103546880 (.calm 18 103284736 (.calm 20 102760448 (.calm 22 125829120 (.calm 23 117440512 (.calm 1 103285760 (.calm 24 100663296 (.act 3 (.act 5 (.calm 6 103286272 (.act 8 (.calm 9 103285760 (.calm 10 103284736 (.calm 19 102760448 (.calm 21 100663296 (.calm 25 67108864 (.calm 26 0 .done)))))))))))))))))))))))))))
abbrev g_sha_Compress_15 : List Dg := [⟨0, 512, 2475880078570760549798248448, .pure, true⟩, ⟨1, 2475880078570760549798248448, 4951760157141521099596496896, .read, true⟩, ⟨0, 65536, 9903520314283042199192993792, .pure, true⟩, ⟨4, 9903520314283042199192993792, 19807040628566084398385987584, .call, true⟩, ⟨0, 65536, 39614081257132168796771975168, .pure, true⟩, ⟨24, 39614081257132168796771975168, 79228162514264337593543950336, .call, true⟩, ⟨40, 99035203142830421991929937920, 158456325028528675187087900672, .pure, true⟩, ⟨0, 65536, 316912650057057350374175801344, .pure, true⟩, ⟨160, 316912650057057350374175801344, 633825300114114700748351602688, .call, true⟩, ⟨320, 792281625142643375935439503360, 1267650600228229401496703205376, .pure, true⟩, ⟨514, 1272602360385370922596299702272, 2535301200456458802993406410752, .pure, true⟩, ⟨0, 65536, 5070602400912917605986812821504, .pure, true⟩, ⟨0, 131072, 10141204801825835211973625643008, .pure, true⟩, ⟨6144, 15211807202738752817960438464512, 20282409603651670423947251286016, .pure, true⟩, ⟨0, 65536, 40564819207303340847894502572032, .pure, true⟩, ⟨16384, 40564819207303340847894502572032, 81129638414606681695789005144064, .pure, true⟩, ⟨0, 262144, 162259276829213363391578010288128, .pure, true⟩, ⟨98304, 243388915243820045087367015432192, 324518553658426726783156020576256, .pure, true⟩, ⟨139264, 344800963262078397207103271862272, 649037107316853453566312041152512, .pure, true⟩, ⟨263168, 651572408517309912369305447563264, 1298074214633706907132624082305024, .pure, true⟩, ⟨0, 2048, 2596148429267413814265248164610048, .pure, true⟩, ⟨1572864, 3894222643901120721397872246915072, 5192296858534827628530496329220096, .pure, true⟩, ⟨0, 1024, 10384593717069655257060992658440192, .pure, true⟩, ⟨4194304, 10384593717069655257060992658440224, 20769187434139310514121985316880384, .pure, true⟩, ⟨8388608, 20769187434139310514121985316880384, 41538374868278621028243970633760768, .read, true⟩, ⟨18874368, 46730671726813448656774466962980864, 83076749736557242056487941267521536, .pure, true⟩, ⟨67108863, 83076749736557242056487941267521536, 524288, .pure, true⟩]
abbrev q_sha_Compress_15 : List Nat := []
def s_sha_Compress_16 : List AStep := [.pure (some 117) false (.move (.tmp 12)), .call (some 118) false ⟨.value (.func 42), #[.tmp 117, .const (.int .i64 2)], #[57, 3]⟩, .pure (some 119) false (.move (.tmp 12)), .call (some 120) false ⟨.value (.func 42), #[.tmp 119, .const (.int .i64 13)], #[57, 3]⟩, .pure (some 121) false (.binOp .xor 57 (.tmp 118) (.tmp 120) 57), .pure (some 122) false (.move (.tmp 12)), .call (some 123) false ⟨.value (.func 42), #[.tmp 122, .const (.int .i64 22)], #[57, 3]⟩, .pure (some 124) false (.binOp .xor 57 (.tmp 121) (.tmp 123) 57), .pure (some 125) false (.move (.tmp 12)), .pure (some 126) false (.move (.tmp 13)), .pure (some 127) false (.binOp .and 57 (.tmp 125) (.tmp 126) 57), .pure (some 128) false (.move (.tmp 12)), .pure (some 129) false (.move (.tmp 14)), .pure (some 130) false (.binOp .and 57 (.tmp 128) (.tmp 129) 57), .pure (some 131) false (.binOp .xor 57 (.tmp 127) (.tmp 130) 57), .pure (some 132) false (.move (.tmp 13)), .pure (some 133) false (.move (.tmp 14)), .pure (some 134) false (.binOp .and 57 (.tmp 132) (.tmp 133) 57), .pure (some 135) false (.binOp .xor 57 (.tmp 131) (.tmp 134) 57), .pure (some 136) false (.binOp .add 57 (.tmp 124) (.tmp 135) 57), .pure (some 20) false (.assign (.tmp 136))]
abbrev p_sha_Compress_16 : List Nat := [0, 1, 2, 3, 4, 5, 6, 7, 8, 9, 10, 11, 12, 13, 14, 15, 16, 17, 18, 19, 20]
def s_sha_Compress_17 : List AStep := [.pure (some 137) false (.move (.tmp 19)), .pure (some 138) false (.move (.tmp 20)), .pure (some 139) false (.binOp .add 57 (.tmp 137) (.tmp 138) 57), .pure (some 140) false (.move (.tmp 12)), .pure (some 141) false (.move (.tmp 13)), .pure (some 142) false (.move (.tmp 14)), .pure (some 143) false (.move (.tmp 15)), .pure (some 144) false (.move (.tmp 19)), .pure (some 145) false (.binOp .add 57 (.tmp 143) (.tmp 144) 57), .pure (some 146) false (.move (.tmp 16)), .pure (some 147) false (.move (.tmp 17)), .pure (some 148) false (.move (.tmp 18)), .pure (some 149) false (.build 59 #[(0, .tmp 139), (1, .tmp 140), (2, .tmp 141), (3, .tmp 142), (4, .tmp 145), (5, .tmp 146), (6, .tmp 147), (7, .tmp 148)]), .eff none (.store 59 (.tmp 9) (.tmp 149))]
abbrev p_sha_Compress_17 : List Nat := [0, 1, 2, 3, 4, 5, 6, 7, 8, 9, 10, 11, 12, 13]
def s_sha_Compress_18 : List AStep := [.pure (some 150) false (.binOp .add 3 (.tmp 73) (.const (.int .i64 1)) 3), .pure (some 73) false (.move (.tmp 150))]
abbrev p_sha_Compress_18 : List Nat := [0, 1]
def s_sha_Compress_19 : List AStep := [.pure (some 151) false (.move (.const (.int .i64 0)))]
abbrev p_sha_Compress_19 : List Nat := [0]
def s_sha_Compress_20 : List AStep := [.pure (some 152) false (.binOp .lss 3 (.tmp 151) (.const (.int .i64 8)) 3)]
abbrev p_sha_Compress_20 : List Nat := [0]
def s_sha_Compress_21 : List AStep := [.pure (some 153) false (.move (.tmp 151)), .pure (some 21) false (.assign (.tmp 153))]
abbrev p_sha_Compress_21 : List Nat := [0, 1]
def s_sha_Compress_22 : SP := (.one (.pure (some 154) false (.move (.tmp 21))) (.one (.pure (some 155) false (.indexAddr 59 (.tmp 9) (.tmp 154))) (.one (.pure (some 157) false (.move (.tmp 21))) (.one (.pure (some 158) false (.indexAddr 59 (.tmp 2) (.tmp 157))) (.one (.read (some 156) false (.load 57 (.tmp 155))) (.one (.read (some 159) false (.load 57 (.tmp 158))) (.one (.pure (some 160) false (.binOp .add 57 (.tmp 156) (.tmp 159) 57)) (.one (.pure (some 161) false (.indexAddr 59 (.tmp 9) (.tmp 154))) (.one (.eff none (.store 57 (.tmp 161) (.tmp 160))) .done)))))))))
abbrev p_sha_Compress_22 : PC := (.calm 0 454 (.calm 1 452 (.calm 3 496 (.calm 4 480 (.calm 2 448 (.calm 5 448 (.calm 6 384 (.calm 7 256 (.act 8 .done)))))))))
abbrev g_sha_Compress_22 : List Dg := [⟨0, 2097152, 22835963083295358096932575511191922182123945984, .pure, true⟩, ⟨1, 22835963083295358096932575511191922182123946496, 45671926166590716193865151022383844364247891968, .pure, true⟩, ⟨2, 45671926166590716193865151022383844364247891968, 91343852333181432387730302044767688728495783936, .read, true⟩, ⟨0, 2097152, 182687704666362864775460604089535377456991567872, .pure, true⟩, ⟨8, 182687704666362864775460604089535377456991567876, 365375409332725729550921208179070754913983135744, .pure, true⟩, ⟨16, 365375409332725729550921208179070754913983135744, 730750818665451459101842416358141509827966271488, .read, true⟩, ⟨36, 822094670998632891489572718402909198556462055424, 1461501637330902918203684832716283019655932542976, .pure, true⟩, ⟨127, 22835963083295358096932575511191922182123946496, 2923003274661805836407369665432566039311865085952, .pure, true⟩, ⟨255, 4384504911992708754611054498148849058967797628928, 0, .eff, false⟩]
abbrev q_sha_Compress_22 : List Nat := []
def s_sha_Compress_23 : List AStep := [.pure (some 162) false (.binOp .add 3 (.tmp 151) (.const (.int .i64 1)) 3), .pure (some 151) false (.move (.tmp 162))]
abbrev p_sha_Compress_23 : List Nat := [0, 1]
def s_sha_Compress_24 : List AStep := [.read (some 163) false (.load 59 (.tmp 9)), .eff none (.store 59 (.tmp 4) (.tmp 163))]
abbrev p_sha_Compress_24 : List Nat := [0, 1]

/-! slices.Concat[[]byte,byte] -/
abbrev n_slices_Concat_byte_byte : Nat := 36
theorem func_slices_Concat_byte_byte : Try.prog.funcs[n_slices_Concat_byte_byte]? = some Try.f36 := Try.func36
theorem call_slices_Concat_byte_byte : ∀ args w, (callFunc n_slices_Concat_byte_byte args).run Try.prog w = .ok (.enter n_slices_Concat_byte_byte args) w := Try.call36
theorem nt_slices_Concat_byte_byte : Try.f36.ntmps = 36 := Try.ntmps36
theorem rs_slices_Concat_byte_byte : Try.f36.results.toList = [.tmp 2] := by rw [Try.results36]
def s_slices_Concat_byte_byte_0 : List AStep := [.pure (some 2) false (.assign (.const (.slice none 0 0)))]
abbrev p_slices_Concat_byte_byte_0 : List Nat := [0]
def s_slices_Concat_byte_byte_1 : List AStep := [.pure (some 3) false (.assign (.const (.int .i64 0)))]
abbrev p_slices_Concat_byte_byte_1 : List Nat := [0]
def s_slices_Concat_byte_byte_2 : List AStep := [.pure (some 9) false (.move (.tmp 0)), .pure (some 10) false (.call (.mk (.builtin .len) #[.tmp 9] #[77])), .pure (some 11) false (.move (.const (.int .i64 0)))]
abbrev p_slices_Concat_byte_byte_2 : List Nat := [0, 1, 2]
def s_slices_Concat_byte_byte_3 : List AStep := [.pure (some 12) false (.binOp .lss 3 (.tmp 11) (.tmp 10) 3)]
abbrev p_slices_Concat_byte_byte_3 : List Nat := [0]
def s_slices_Concat_byte_byte_4 : List AStep := [.pure (some 13) false (.indexAddr 77 (.tmp 9) (.tmp 11)), .read (some 14) false (.load 25 (.tmp 13)), .pure (some 5) false (.assign (.tmp 14))]
abbrev p_slices_Concat_byte_byte_4 : List Nat := [0, 1, 2]
def s_slices_Concat_byte_byte_5 : List AStep := [.pure (some 15) false (.move (.tmp 3)), .pure (some 16) false (.move (.tmp 5)), .pure (some 17) false (.call (.mk (.builtin .len) #[.tmp 16] #[25])), .pure (some 18) false (.binOp .add 3 (.tmp 15) (.tmp 17) 3), .pure (some 3) false (.assign (.tmp 18))]
abbrev p_slices_Concat_byte_byte_5 : List Nat := [0, 1, 2, 3, 4]
def s_slices_Concat_byte_byte_6 : List AStep := [.pure (some 19) false (.move (.tmp 3)), .pure (some 20) false (.binOp .lss 3 (.tmp 19) (.const (.int .i64 0)) 3)]
abbrev p_slices_Concat_byte_byte_6 : List Nat := [0, 1]
def s_slices_Concat_byte_byte_7 : List AStep := [.pure (some 21) false (.makeInterface 9 (.const (.string (ByteArray.mk #[108, 101, 110, 32, 111, 117, 116, 32, 111, 102, 32, 114, 97, 110, 103, 101])))), .pure none false (.panic (.tmp 21))]
abbrev p_slices_Concat_byte_byte_7 : List Nat := [0, 1]
def s_slices_Concat_byte_byte_8 : List AStep := [.pure (some 22) false (.binOp .add 3 (.tmp 11) (.const (.int .i64 1)) 3), .pure (some 11) false (.move (.tmp 22))]
abbrev p_slices_Concat_byte_byte_8 : List Nat := [0, 1]
def s_slices_Concat_byte_byte_9 : List AStep := [.pure (some 23) false (.move (.tmp 3)), .call (some 24) false ⟨.value (.func 46), #[.const (.slice none 0 0), .tmp 23], #[25, 3]⟩, .pure (some 6) false (.assign (.tmp 24))]
abbrev p_slices_Concat_byte_byte_9 : List Nat := [0, 1, 2]
def s_slices_Concat_byte_byte_10 : List AStep := [.pure (some 25) false (.move (.tmp 0)), .pure (some 26) false (.call (.mk (.builtin .len) #[.tmp 25] #[77])), .pure (some 27) false (.move (.const (.int .i64 0)))]
abbrev p_slices_Concat_byte_byte_10 : List Nat := [0, 1, 2]
def s_slices_Concat_byte_byte_11 : List AStep := [.pure (some 28) false (.binOp .lss 3 (.tmp 27) (.tmp 26) 3)]
abbrev p_slices_Concat_byte_byte_11 : List Nat := [0]
def s_slices_Concat_byte_byte_12 : List AStep := [.pure (some 29) false (.indexAddr 77 (.tmp 25) (.tmp 27)), .read (some 30) false (.load 25 (.tmp 29)), .pure (some 8) false (.assign (.tmp 30))]
abbrev p_slices_Concat_byte_byte_12 : List Nat := [0, 1, 2]
def s_slices_Concat_byte_byte_13 : List AStep := [.pure (some 31) false (.move (.tmp 6)), .pure (some 32) false (.move (.tmp 8)), .eff (some 33) (.call (.mk (.builtin .append) #[.tmp 31, .tmp 32] #[25, 25])), .pure (some 6) false (.assign (.tmp 33))]
abbrev p_slices_Concat_byte_byte_13 : List Nat := [0, 1, 2, 3]
def s_slices_Concat_byte_byte_14 : List AStep := [.pure (some 34) false (.binOp .add 3 (.tmp 27) (.const (.int .i64 1)) 3), .pure (some 27) false (.move (.tmp 34))]
abbrev p_slices_Concat_byte_byte_14 : List Nat := [0, 1]
def s_slices_Concat_byte_byte_15 : List AStep := [.pure (some 35) false (.move (.tmp 6)), .pure (some 2) false (.assign (.tmp 35))]
abbrev p_slices_Concat_byte_byte_15 : List Nat := [0, 1]

/-! erewhile/seal.half -/
abbrev n_seal_half : Nat := 37
theorem func_seal_half : Try.prog.funcs[n_seal_half]? = some Try.f37 := Try.func37
theorem call_seal_half : ∀ args w, (callFunc n_seal_half args).run Try.prog w = .ok (.enter n_seal_half args) w := Try.call37
theorem nt_seal_half : Try.f37.ntmps = 6 := Try.ntmps37
theorem rs_seal_half : Try.f37.results.toList = [.cell 2 48] := by rw [Try.results37]
def s_seal_half_0 : List AStep := [.eff (some 1) (.box 23 (.tmp 0)), .eff (some 2) (.alloc 48)]
abbrev p_seal_half_0 : List Nat := [0, 1]
def s_seal_half_1 : List AStep := [.pure (some 3) false (.slice 23 (.tmp 1) none (some (.const (.int .i64 16))) none), .pure (some 4) false (.sliceToArrayPointer 48 (.tmp 3)), .read (some 5) false (.load 48 (.tmp 4)), .eff none (.store 48 (.tmp 2) (.tmp 5))]
abbrev p_seal_half_1 : List Nat := [0, 1, 2, 3]

/-! erewhile/erewhileref03.Sum -/
abbrev n_ref03_Sum : Nat := 38
theorem func_ref03_Sum : Try.prog.funcs[n_ref03_Sum]? = some Try.f38 := Try.func38
theorem call_ref03_Sum : ∀ args w, (callFunc n_ref03_Sum args).run Try.prog w = .ok (.enter n_ref03_Sum args) w := Try.call38
theorem nt_ref03_Sum : Try.f38.ntmps = 54 := Try.ntmps38
theorem rs_ref03_Sum : Try.f38.results.toList = [.cell 2 23] := by rw [Try.results38]
def s_ref03_Sum_0 : List AStep := [.eff (some 2) (.alloc 23)]
abbrev p_ref03_Sum_0 : List Nat := [0]
def s_ref03_Sum_1 : List AStep := [.call (some 11) false ⟨.value (.func 47), #[], #[]⟩, .eff (some 3) (.alloc 59), .eff none (.store 59 (.tmp 3) (.tmp 11))]
abbrev p_ref03_Sum_1 : List Nat := [0, 1, 2]
def s_ref03_Sum_2 : List AStep := [.pure (some 12) false (.move (.tmp 0)), .call (some 13) false ⟨.value (.func 48), #[.tmp 12], #[25]⟩, .pure (some 4) false (.assign (.tmp 13))]
abbrev p_ref03_Sum_2 : List Nat := [0, 1, 2]
def s_ref03_Sum_3 : List AStep := [.pure (some 5) false (.assign (.const (.int .i64 0)))]
abbrev p_ref03_Sum_3 : List Nat := [0]
def s_ref03_Sum_4 : List AStep := [.pure (some 14) false (.move (.tmp 5)), .pure (some 15) false (.move (.tmp 4)), .pure (some 16) false (.call (.mk (.builtin .len) #[.tmp 15] #[25])), .pure (some 17) false (.binOp .lss 3 (.tmp 14) (.tmp 16) 3)]
abbrev p_ref03_Sum_4 : List Nat := [0, 1, 2, 3]
def s_ref03_Sum_6 : List AStep := [.pure (some 20) false (.build 55 #[]), .eff (some 6) (.alloc 55), .eff none (.store 55 (.tmp 6) (.tmp 20))]
abbrev p_ref03_Sum_6 : List Nat := [0, 1, 2]
def s_ref03_Sum_7 : SP := (.one (.pure (some 21) false (.slice 55 (.tmp 6) none none none)) (.one (.pure (some 22) false (.move (.tmp 4))) (.one (.pure (some 23) false (.move (.tmp 5))) (.one (.pure (some 24) false (.move (.tmp 5))) (.one (.pure (some 25) false (.binOp .add 3 (.tmp 24) (.const (.int .i64 64)) 3)) (.one (.pure (some 26) false (.slice 25 (.tmp 22) (some (.tmp 23)) (some (.tmp 25)) none)) (.one (.eff (some 27) (.call (.mk (.builtin .copy) #[.tmp 21, .tmp 26] #[25, 25]))) .done)))))))
abbrev p_ref03_Sum_7 : PC := (.calm 0 64 (.calm 1 96 (.calm 2 96 (.calm 3 112 (.calm 4 96 (.calm 5 64 (.act 6 .done)))))))
abbrev g_ref03_Sum_7 : List Dg := [⟨0, 64, 2097152, .pure, true⟩, ⟨0, 16, 4194304, .pure, true⟩, ⟨0, 32, 8388608, .pure, true⟩, ⟨0, 32, 16777216, .pure, true⟩, ⟨8, 16777216, 33554432, .pure, true⟩, ⟨22, 46137344, 67108864, .pure, true⟩, ⟨33, 69206016, 134217728, .eff, false⟩]
abbrev q_ref03_Sum_7 : List Nat := []
def s_ref03_Sum_8 : List AStep := [.read (some 28) false (.load 59 (.tmp 3)), .read (some 29) false (.load 55 (.tmp 6)), .call (some 30) false ⟨.value (.func 49), #[.tmp 28, .tmp 29], #[59, 55]⟩, .eff none (.store 59 (.tmp 3) (.tmp 30))]
abbrev p_ref03_Sum_8 : List Nat := [0, 1, 2, 3]
def s_ref03_Sum_5 : List AStep := [.pure (some 18) false (.move (.tmp 5)), .pure (some 19) false (.binOp .add 3 (.tmp 18) (.const (.int .i64 64)) 3), .pure (some 5) false (.assign (.tmp 19))]
abbrev p_ref03_Sum_5 : List Nat := [0, 1, 2]
def s_ref03_Sum_9 : List AStep := [.pure (some 31) false (.build 23 #[]), .eff (some 7) (.alloc 23), .eff none (.store 23 (.tmp 7) (.tmp 31))]
abbrev p_ref03_Sum_9 : List Nat := [0, 1, 2]
def s_ref03_Sum_10 : List AStep := [.pure (some 8) false (.assign (.const (.int .i64 0)))]
abbrev p_ref03_Sum_10 : List Nat := [0]
def s_ref03_Sum_11 : List AStep := [.pure (some 32) false (.move (.tmp 8)), .pure (some 33) false (.binOp .lss 3 (.tmp 32) (.const (.int .i64 8)) 3)]
abbrev p_ref03_Sum_11 : List Nat := [0, 1]
def s_ref03_Sum_13 : List AStep := [.pure (some 36) false (.move (.tmp 8)), .pure (some 37) false (.indexAddr 59 (.tmp 3) (.tmp 36)), .read (some 38) false (.load 57 (.tmp 37)), .pure (some 9) false (.assign (.tmp 38))]
abbrev p_ref03_Sum_13 : List Nat := [0, 1, 2, 3]
def s_ref03_Sum_14 : List AStep := [.pure (some 10) false (.assign (.const (.int .i64 3)))]
abbrev p_ref03_Sum_14 : List Nat := [0]
def s_ref03_Sum_15 : List AStep := [.pure (some 39) false (.move (.tmp 10)), .pure (some 40) false (.binOp .geq 3 (.tmp 39) (.const (.int .i64 0)) 3)]
abbrev p_ref03_Sum_15 : List Nat := [0, 1]
def s_ref03_Sum_17 : List AStep := [.pure (some 43) false (.move (.tmp 8)), .pure (some 44) false (.binOp .mul 3 (.const (.int .i64 4)) (.tmp 43) 3), .pure (some 45) false (.move (.tmp 10)), .pure (some 46) false (.binOp .add 3 (.tmp 44) (.tmp 45) 3), .pure (some 47) false (.move (.tmp 9)), .pure (some 48) false (.binOp .rem 57 (.tmp 47) (.const (.int .u32 256)) 57), .pure (some 49) false (.convert 57 5 (.tmp 48)), .pure (some 50) false (.indexAddr 23 (.tmp 7) (.tmp 46)), .eff none (.store 5 (.tmp 50) (.tmp 49))]
abbrev p_ref03_Sum_17 : List Nat := [0, 1, 2, 3, 4, 5, 6, 7, 8]
def s_ref03_Sum_18 : List AStep := [.pure (some 51) false (.move (.tmp 9)), .pure (some 52) false (.binOp .quo 57 (.tmp 51) (.const (.int .u32 256)) 57), .pure (some 9) false (.assign (.tmp 52))]
abbrev p_ref03_Sum_18 : List Nat := [0, 1, 2]
def s_ref03_Sum_16 : List AStep := [.pure (some 41) false (.move (.tmp 10)), .pure (some 42) false (.binOp .sub 3 (.tmp 41) (.const (.int .i64 1)) 3), .pure (some 10) false (.assign (.tmp 42))]
abbrev p_ref03_Sum_16 : List Nat := [0, 1, 2]
def s_ref03_Sum_12 : List AStep := [.pure (some 34) false (.move (.tmp 8)), .pure (some 35) false (.binOp .add 3 (.tmp 34) (.const (.int .i64 1)) 3), .pure (some 8) false (.assign (.tmp 35))]
abbrev p_ref03_Sum_12 : List Nat := [0, 1, 2]
def s_ref03_Sum_19 : List AStep := [.read (some 53) false (.load 23 (.tmp 7)), .eff none (.store 23 (.tmp 2) (.tmp 53))]
abbrev p_ref03_Sum_19 : List Nat := [0, 1]

/-! erewhile/erewhileref04.after -/
abbrev n_ref04_after : Nat := 39
theorem func_ref04_after : Try.prog.funcs[n_ref04_after]? = some Try.f39 := Try.func39
theorem call_ref04_after : ∀ args w, (callFunc n_ref04_after args).run Try.prog w = .ok (.enter n_ref04_after args) w := Try.call39
theorem nt_ref04_after : Try.f39.ntmps = 20 := Try.ntmps39
theorem rs_ref04_after : Try.f39.results.toList = [.tmp 4] := by rw [Try.results39]
def s_ref04_after_0 : List AStep := [.eff (some 2) (.box 23 (.tmp 0)), .pure (some 4) false (.assign (.const (.slice none 0 0)))]
abbrev p_ref04_after_0 : List Nat := [0, 1]
def s_ref04_after_1 : List AStep := [.pure (some 5) false (.assign (.const (.slice none 0 0)))]
abbrev p_ref04_after_1 : List Nat := [0]
def s_ref04_after_2 : List AStep := [.pure (some 6) false (.assign (.const (.int .i64 0)))]
abbrev p_ref04_after_2 : List Nat := [0]
def s_ref04_after_3 : List AStep := [.pure (some 7) false (.move (.tmp 6)), .pure (some 8) false (.binOp .lss 3 (.tmp 7) (.const (.int .i64 32)) 3)]
abbrev p_ref04_after_3 : List Nat := [0, 1]
def s_ref04_after_5 : List AStep := [.pure (some 11) false (.move (.tmp 5)), .pure (some 12) false (.move (.tmp 6)), .pure (some 13) false (.indexAddr 23 (.tmp 2) (.tmp 12)), .read (some 14) false (.load 5 (.tmp 13)), .eff (some 15) (.buildSlice 25 1 #[(0, .tmp 14)]), .eff (some 16) (.call (.mk (.builtin .append) #[.tmp 11, .tmp 15] #[25, 25])), .pure (some 5) false (.assign (.tmp 16))]
abbrev p_ref04_after_5 : List Nat := [0, 1, 2, 3, 4, 5, 6]
def s_ref04_after_4 : List AStep := [.pure (some 9) false (.move (.tmp 6)), .pure (some 10) false (.binOp .add 3 (.tmp 9) (.const (.int .i64 1)) 3), .pure (some 6) false (.assign (.tmp 10))]
abbrev p_ref04_after_4 : List Nat := [0, 1, 2]
def s_ref04_after_6 : List AStep := [.pure (some 17) false (.move (.tmp 5)), .pure (some 18) false (.move (.tmp 1)), .eff (some 19) (.call (.mk (.builtin .append) #[.tmp 17, .tmp 18] #[25, 25])), .pure (some 4) false (.assign (.tmp 19))]
abbrev p_ref04_after_6 : List Nat := [0, 1, 2, 3]

/-! erewhile/erewhileref04.first -/
abbrev n_ref04_first : Nat := 40
theorem func_ref04_first : Try.prog.funcs[n_ref04_first]? = some Try.f40 := Try.func40
theorem call_ref04_first : ∀ args w, (callFunc n_ref04_first args).run Try.prog w = .ok (.enter n_ref04_first args) w := Try.call40
theorem nt_ref04_first : Try.f40.ntmps = 16 := Try.ntmps40
theorem rs_ref04_first : Try.f40.results.toList = [.cell 2 48] := by rw [Try.results40]
def s_ref04_first_0 : List AStep := [.eff (some 1) (.box 23 (.tmp 0)), .eff (some 2) (.alloc 48)]
abbrev p_ref04_first_0 : List Nat := [0, 1]
def s_ref04_first_1 : List AStep := [.pure (some 5) false (.build 48 #[]), .eff (some 3) (.alloc 48), .eff none (.store 48 (.tmp 3) (.tmp 5))]
abbrev p_ref04_first_1 : List Nat := [0, 1, 2]
def s_ref04_first_2 : List AStep := [.pure (some 4) false (.assign (.const (.int .i64 0)))]
abbrev p_ref04_first_2 : List Nat := [0]
def s_ref04_first_3 : List AStep := [.pure (some 6) false (.move (.tmp 4)), .pure (some 7) false (.binOp .lss 3 (.tmp 6) (.const (.int .i64 16)) 3)]
abbrev p_ref04_first_3 : List Nat := [0, 1]
def s_ref04_first_5 : List AStep := [.pure (some 10) false (.move (.tmp 4)), .pure (some 11) false (.move (.tmp 4)), .pure (some 12) false (.indexAddr 23 (.tmp 1) (.tmp 11)), .read (some 13) false (.load 5 (.tmp 12)), .pure (some 14) false (.indexAddr 48 (.tmp 3) (.tmp 10)), .eff none (.store 5 (.tmp 14) (.tmp 13))]
abbrev p_ref04_first_5 : List Nat := [0, 1, 2, 3, 4, 5]
def s_ref04_first_4 : List AStep := [.pure (some 8) false (.move (.tmp 4)), .pure (some 9) false (.binOp .add 3 (.tmp 8) (.const (.int .i64 1)) 3), .pure (some 4) false (.assign (.tmp 9))]
abbrev p_ref04_first_4 : List Nat := [0, 1, 2]
def s_ref04_first_6 : List AStep := [.read (some 15) false (.load 48 (.tmp 3)), .eff none (.store 48 (.tmp 2) (.tmp 15))]
abbrev p_ref04_first_6 : List Nat := [0, 1]

/-! erewhile/sha.word -/
abbrev n_sha_word : Nat := 41
theorem func_sha_word : Try.prog.funcs[n_sha_word]? = some Try.f41 := Try.func41
theorem call_sha_word : ∀ args w, (callFunc n_sha_word args).run Try.prog w = .ok (.enter n_sha_word args) w := Try.call41
theorem nt_sha_word : Try.f41.ntmps = 25 := Try.ntmps41
theorem rs_sha_word : Try.f41.results.toList = [.tmp 2] := by rw [Try.results41]
def s_sha_word_0 : List AStep := [.pure (some 2) false (.assign (.const (.int .u32 0)))]
abbrev p_sha_word_0 : List Nat := [0]
def s_sha_word_1 : SP := (.one (.pure (some 3) false (.move (.tmp 0))) (.one (.pure (some 4) false (.indexAddr 25 (.tmp 3) (.const (.int .i64 0)))) (.one (.pure (some 8) false (.move (.tmp 0))) (.one (.pure (some 9) false (.indexAddr 25 (.tmp 8) (.const (.int .i64 1)))) (.one (.pure (some 14) false (.move (.tmp 0))) (.one (.pure (some 15) false (.indexAddr 25 (.tmp 14) (.const (.int .i64 2)))) (.one (.pure (some 20) false (.move (.tmp 0))) (.one (.pure (some 21) false (.indexAddr 25 (.tmp 20) (.const (.int .i64 3)))) (.one (.read (some 5) false (.load 5 (.tmp 4))) (.one (.pure (some 6) false (.convert 5 57 (.tmp 5))) (.one (.pure (some 7) false (.binOp .shl 57 (.tmp 6) (.const (.int .u64 24)) 54)) (.one (.read (some 10) false (.load 5 (.tmp 9))) (.one (.pure (some 11) false (.convert 5 57 (.tmp 10))) (.one (.pure (some 12) false (.binOp .shl 57 (.tmp 11) (.const (.int .u64 16)) 54)) (.one (.pure (some 13) false (.binOp .or 57 (.tmp 7) (.tmp 12) 57)) (.one (.read (some 16) false (.load 5 (.tmp 15))) (.one (.pure (some 17) false (.convert 5 57 (.tmp 16))) (.one (.pure (some 18) false (.binOp .shl 57 (.tmp 17) (.const (.int .u64 8)) 54)) (.one (.pure (some 19) false (.binOp .or 57 (.tmp 13) (.tmp 18) 57)) (.one (.read (some 22) false (.load 5 (.tmp 21))) (.one (.pure (some 23) false (.convert 5 57 (.tmp 22))) (.one (.pure (some 24) false (.binOp .or 57 (.tmp 19) (.tmp 23) 57)) (.one (.pure (some 2) false (.assign (.tmp 24))) .done)))))))))))))))))))))))
abbrev p_sha_word_1 : PC := (.calm 0 6358046 (.calm 1 6358044 (.calm 5 6358976 (.calm 6 6358912 (.calm 11 6418432 (.calm 12 6414336 (.calm 17 8126464 (.calm 18 7864320 (.calm 2 6358040 (.calm 3 6358032 (.calm 4 6358016 (.calm 7 6358784 (.calm 8 6358528 (.calm 9 6358016 (.calm 10 6356992 (.calm 13 6406144 (.calm 14 6389760 (.calm 15 6356992 (.calm 16 6291456 (.calm 19 7340032 (.calm 20 6291456 (.calm 21 4194304 (.calm 22 0 .done)))))))))))))))))))))))
abbrev g_sha_word_1 : List Dg := [⟨0, 1, 8, .pure, true⟩, ⟨1, 8, 16, .pure, true⟩, ⟨2, 16, 32, .read, true⟩, ⟨4, 32, 64, .pure, true⟩, ⟨8, 64, 128, .pure, true⟩, ⟨0, 1, 256, .pure, true⟩, ⟨32, 256, 512, .pure, true⟩, ⟨64, 512, 1024, .read, true⟩, ⟨128, 1024, 2048, .pure, true⟩, ⟨256, 2048, 4096, .pure, true⟩, ⟨528, 4224, 8192, .pure, true⟩, ⟨0, 1, 16384, .pure, true⟩, ⟨2048, 16384, 32768, .pure, true⟩, ⟨4096, 32768, 65536, .read, true⟩, ⟨8192, 65536, 131072, .pure, true⟩, ⟨16384, 131072, 262144, .pure, true⟩, ⟨33792, 270336, 524288, .pure, true⟩, ⟨0, 1, 1048576, .pure, true⟩, ⟨131072, 1048576, 2097152, .pure, true⟩, ⟨262144, 2097152, 4194304, .read, true⟩, ⟨524288, 4194304, 8388608, .pure, true⟩, ⟨1114112, 8912896, 16777216, .pure, true⟩, ⟨4194303, 16777216, 4, .pure, true⟩]
abbrev q_sha_word_1 : List Nat := []

/-! erewhile/sha.turn -/
abbrev n_sha_turn : Nat := 42
theorem func_sha_turn : Try.prog.funcs[n_sha_turn]? = some Try.f42 := Try.func42
theorem call_sha_turn : ∀ args w, (callFunc n_sha_turn args).run Try.prog w = .ok (.enter n_sha_turn args) w := Try.call42
theorem nt_sha_turn : Try.f42.ntmps = 9 := Try.ntmps42
theorem rs_sha_turn : Try.f42.results.toList = [.tmp 4] := by rw [Try.results42]
def s_sha_turn_0 : List AStep := [.pure (some 4) false (.assign (.const (.int .u32 0)))]
abbrev p_sha_turn_0 : List Nat := [0]
def s_sha_turn_1 : List AStep := [.pure (some 5) false (.move (.tmp 0)), .pure (some 6) false (.move (.tmp 1)), .pure (some 7) false (.unOp .neg 3 (.tmp 6)), .call (some 8) false ⟨.value (.func 50), #[.tmp 5, .tmp 7], #[57, 3]⟩, .pure (some 4) false (.assign (.tmp 8))]
abbrev p_sha_turn_1 : List Nat := [0, 1, 2, 3, 4]

/-! erewhile/sha.rounds -/
abbrev n_sha_rounds : Nat := 43
theorem func_sha_rounds : Try.prog.funcs[n_sha_rounds]? = some Try.f43 := Try.func43
theorem call_sha_rounds : ∀ args w, (callFunc n_sha_rounds args).run Try.prog w = .ok (.enter n_sha_rounds args) w := Try.call43
theorem nt_sha_rounds : Try.f43.ntmps = 2 := Try.ntmps43
theorem rs_sha_rounds : Try.f43.results.toList = [.cell 0 70] := by rw [Try.results43]
def s_sha_rounds_0 : List AStep := [.eff (some 0) (.alloc 70)]
abbrev p_sha_rounds_0 : List Nat := [0]
def s_sha_rounds_1 : List AStep := [.pure (some 1) false (.build 70 #[(0, .const (.int .u32 1116352408)), (1, .const (.int .u32 1899447441)), (2, .const (.int .u32 3049323471)), (3, .const (.int .u32 3921009573)), (4, .const (.int .u32 961987163)), (5, .const (.int .u32 1508970993)), (6, .const (.int .u32 2453635748)), (7, .const (.int .u32 2870763221)), (8, .const (.int .u32 3624381080)), (9, .const (.int .u32 310598401)), (10, .const (.int .u32 607225278)), (11, .const (.int .u32 1426881987)), (12, .const (.int .u32 1925078388)), (13, .const (.int .u32 2162078206)), (14, .const (.int .u32 2614888103)), (15, .const (.int .u32 3248222580)), (16, .const (.int .u32 3835390401)), (17, .const (.int .u32 4022224774)), (18, .const (.int .u32 264347078)), (19, .const (.int .u32 604807628)), (20, .const (.int .u32 770255983)), (21, .const (.int .u32 1249150122)), (22, .const (.int .u32 1555081692)), (23, .const (.int .u32 1996064986)), (24, .const (.int .u32 2554220882)), (25, .const (.int .u32 2821834349)), (26, .const (.int .u32 2952996808)), (27, .const (.int .u32 3210313671)), (28, .const (.int .u32 3336571891)), (29, .const (.int .u32 3584528711)), (30, .const (.int .u32 113926993)), (31, .const (.int .u32 338241895)), (32, .const (.int .u32 666307205)), (33, .const (.int .u32 773529912)), (34, .const (.int .u32 1294757372)), (35, .const (.int .u32 1396182291)), (36, .const (.int .u32 1695183700)), (37, .const (.int .u32 1986661051)), (38, .const (.int .u32 2177026350)), (39, .const (.int .u32 2456956037)), (40, .const (.int .u32 2730485921)), (41, .const (.int .u32 2820302411)), (42, .const (.int .u32 3259730800)), (43, .const (.int .u32 3345764771)), (44, .const (.int .u32 3516065817)), (45, .const (.int .u32 3600352804)), (46, .const (.int .u32 4094571909)), (47, .const (.int .u32 275423344)), (48, .const (.int .u32 430227734)), (49, .const (.int .u32 506948616)), (50, .const (.int .u32 659060556)), (51, .const (.int .u32 883997877)), (52, .const (.int .u32 958139571)), (53, .const (.int .u32 1322822218)), (54, .const (.int .u32 1537002063)), (55, .const (.int .u32 1747873779)), (56, .const (.int .u32 1955562222)), (57, .const (.int .u32 2024104815)), (58, .const (.int .u32 2227730452)), (59, .const (.int .u32 2361852424)), (60, .const (.int .u32 2428436474)), (61, .const (.int .u32 2756734187)), (62, .const (.int .u32 3204031479)), (63, .const (.int .u32 3329325298))]), .eff none (.store 70 (.tmp 0) (.tmp 1))]
abbrev p_sha_rounds_1 : List Nat := [0, 1]

/-! slices.Grow[[]byte,byte] -/
abbrev n_slices_Grow_byte_byte : Nat := 46
theorem func_slices_Grow_byte_byte : Try.prog.funcs[n_slices_Grow_byte_byte]? = some Try.f46 := Try.func46
theorem call_slices_Grow_byte_byte : ∀ args w, (callFunc n_slices_Grow_byte_byte args).run Try.prog w = .ok (.enter n_slices_Grow_byte_byte args) w := Try.call46
theorem nt_slices_Grow_byte_byte : Try.f46.ntmps = 27 := Try.ntmps46
theorem rs_slices_Grow_byte_byte : Try.f46.results.toList = [.tmp 4] := by rw [Try.results46]
def s_slices_Grow_byte_byte_0 : List AStep := [.pure (some 4) false (.assign (.const (.slice none 0 0)))]
abbrev p_slices_Grow_byte_byte_0 : List Nat := [0]
def s_slices_Grow_byte_byte_1 : List AStep := [.pure (some 5) false (.move (.tmp 1)), .pure (some 6) false (.binOp .lss 3 (.tmp 5) (.const (.int .i64 0)) 3)]
abbrev p_slices_Grow_byte_byte_1 : List Nat := [0, 1]
def s_slices_Grow_byte_byte_2 : List AStep := [.pure (some 7) false (.makeInterface 9 (.const (.string (ByteArray.mk #[99, 97, 110, 110, 111, 116, 32, 98, 101, 32, 110, 101, 103, 97, 116, 105, 118, 101])))), .pure none false (.panic (.tmp 7))]
abbrev p_slices_Grow_byte_byte_2 : List Nat := [0, 1]
def s_slices_Grow_byte_byte_3 : List AStep := [.pure (some 8) false (.move (.tmp 1)), .pure (some 9) false (.move (.tmp 0)), .pure (some 10) false (.call (.mk (.builtin .cap) #[.tmp 9] #[25])), .pure (some 11) false (.move (.tmp 0)), .pure (some 12) false (.call (.mk (.builtin .len) #[.tmp 11] #[25])), .pure (some 13) false (.binOp .sub 3 (.tmp 10) (.tmp 12) 3), .pure (some 14) false (.binOp .sub 3 (.tmp 8) (.tmp 13) 3), .pure (some 1) false (.assign (.tmp 14))]
abbrev p_slices_Grow_byte_byte_3 : List Nat := [0, 1, 2, 3, 4, 5, 6, 7]
def s_slices_Grow_byte_byte_4 : List AStep := [.pure (some 15) false (.move (.tmp 1)), .pure (some 16) false (.binOp .gtr 3 (.tmp 15) (.const (.int .i64 0)) 3)]
abbrev p_slices_Grow_byte_byte_4 : List Nat := [0, 1]
def s_slices_Grow_byte_byte_5 : List AStep := [.pure (some 17) false (.move (.tmp 0)), .pure (some 18) false (.move (.tmp 0)), .pure (some 19) false (.call (.mk (.builtin .cap) #[.tmp 18] #[25])), .pure (some 20) false (.slice 25 (.tmp 17) none (some (.tmp 19)) none), .pure (some 21) false (.move (.tmp 1)), .eff (some 22) (.call (.mk (.builtin .append) #[.tmp 20, .tmp 21] #[25, 3])), .pure (some 23) false (.move (.tmp 0)), .pure (some 24) false (.call (.mk (.builtin .len) #[.tmp 23] #[25])), .pure (some 25) false (.slice 25 (.tmp 22) none (some (.tmp 24)) none), .pure (some 0) false (.assign (.tmp 25))]
abbrev p_slices_Grow_byte_byte_5 : List Nat := [0, 1, 2, 3, 4, 5, 6, 7, 8, 9]
def s_slices_Grow_byte_byte_6 : List AStep := [.pure (some 26) false (.move (.tmp 0)), .pure (some 4) false (.assign (.tmp 26))]
abbrev p_slices_Grow_byte_byte_6 : List Nat := [0, 1]

/-! erewhile/erewhileref03.First -/
abbrev n_ref03_First : Nat := 47
theorem func_ref03_First : Try.prog.funcs[n_ref03_First]? = some Try.f47 := Try.func47
theorem call_ref03_First : ∀ args w, (callFunc n_ref03_First args).run Try.prog w = .ok (.enter n_ref03_First args) w := Try.call47
theorem nt_ref03_First : Try.f47.ntmps = 18 := Try.ntmps47
theorem rs_ref03_First : Try.f47.results.toList = [.cell 0 59] := by rw [Try.results47]
def s_ref03_First_0 : List AStep := [.eff (some 0) (.alloc 59)]
abbrev p_ref03_First_0 : List Nat := [0]
def s_ref03_First_1 : List AStep := [.pure (some 4) false (.build 59 #[]), .eff (some 1) (.alloc 59), .eff none (.store 59 (.tmp 1) (.tmp 4))]
abbrev p_ref03_First_1 : List Nat := [0, 1, 2]
def s_ref03_First_2 : List AStep := [.call (some 5) false ⟨.value (.func 53), #[.const (.int .i64 8)], #[3]⟩, .pure (some 2) false (.assign (.tmp 5))]
abbrev p_ref03_First_2 : List Nat := [0, 1]
def s_ref03_First_3 : List AStep := [.pure (some 3) false (.assign (.const (.int .i64 0)))]
abbrev p_ref03_First_3 : List Nat := [0]
def s_ref03_First_4 : List AStep := [.pure (some 6) false (.move (.tmp 3)), .pure (some 7) false (.binOp .lss 3 (.tmp 6) (.const (.int .i64 8)) 3)]
abbrev p_ref03_First_4 : List Nat := [0, 1]
def s_ref03_First_6 : List AStep := [.pure (some 10) false (.move (.tmp 3)), .pure (some 11) false (.move (.tmp 2)), .pure (some 12) false (.move (.tmp 3)), .pure (some 13) false (.indexAddr 79 (.tmp 11) (.tmp 12)), .read (some 14) false (.load 3 (.tmp 13)), .call (some 15) false ⟨.value (.func 54), #[.tmp 14, .const (.int .i64 2)], #[3, 3]⟩, .pure (some 16) false (.indexAddr 59 (.tmp 1) (.tmp 10)), .eff none (.store 57 (.tmp 16) (.tmp 15))]
abbrev p_ref03_First_6 : List Nat := [0, 1, 2, 3, 4, 5, 6, 7]
def s_ref03_First_5 : List AStep := [.pure (some 8) false (.move (.tmp 3)), .pure (some 9) false (.binOp .add 3 (.tmp 8) (.const (.int .i64 1)) 3), .pure (some 3) false (.assign (.tmp 9))]
abbrev p_ref03_First_5 : List Nat := [0, 1, 2]
def s_ref03_First_7 : List AStep := [.read (some 17) false (.load 59 (.tmp 1)), .eff none (.store 59 (.tmp 0) (.tmp 17))]
abbrev p_ref03_First_7 : List Nat := [0, 1]

/-! erewhile/erewhileref03.Pad -/
abbrev n_ref03_Pad : Nat := 48
theorem func_ref03_Pad : Try.prog.funcs[n_ref03_Pad]? = some Try.f48 := Try.func48
theorem call_ref03_Pad : ∀ args w, (callFunc n_ref03_Pad args).run Try.prog w = .ok (.enter n_ref03_Pad args) w := Try.call48
theorem nt_ref03_Pad : Try.f48.ntmps = 44 := Try.ntmps48
theorem rs_ref03_Pad : Try.f48.results.toList = [.tmp 2] := by rw [Try.results48]
def s_ref03_Pad_0 : List AStep := [.pure (some 2) false (.assign (.const (.slice none 0 0)))]
abbrev p_ref03_Pad_0 : List Nat := [0]
def s_ref03_Pad_1 : List AStep := [.eff (some 8) (.buildSlice 25 0 #[]), .pure (some 9) false (.move (.tmp 0)), .eff (some 10) (.call (.mk (.builtin .append) #[.tmp 8, .tmp 9] #[25, 25])), .eff (some 11) (.buildSlice 25 1 #[(0, .const (.int .u8 128))]), .eff (some 12) (.call (.mk (.builtin .append) #[.tmp 10, .tmp 11] #[25, 25])), .pure (some 3) false (.assign (.tmp 12))]
abbrev p_ref03_Pad_1 : List Nat := [0, 1, 2, 3, 4, 5]
def s_ref03_Pad_2 : List AStep := [.pure (some 13) false (.move (.tmp 3)), .pure (some 14) false (.call (.mk (.builtin .len) #[.tmp 13] #[25])), .pure (some 15) false (.binOp .rem 3 (.tmp 14) (.const (.int .i64 64)) 3), .pure (some 16) false (.binOp .neq 3 (.tmp 15) (.const (.int .i64 56)) 3)]
abbrev p_ref03_Pad_2 : List Nat := [0, 1, 2, 3]
def s_ref03_Pad_3 : List AStep := [.pure (some 17) false (.move (.tmp 3)), .eff (some 18) (.buildSlice 25 1 #[(0, .const (.int .u8 0))]), .eff (some 19) (.call (.mk (.builtin .append) #[.tmp 17, .tmp 18] #[25, 25])), .pure (some 3) false (.assign (.tmp 19))]
abbrev p_ref03_Pad_3 : List Nat := [0, 1, 2, 3]
def s_ref03_Pad_4 : List AStep := [.pure (some 20) false (.move (.tmp 0)), .pure (some 21) false (.call (.mk (.builtin .len) #[.tmp 20] #[25])), .pure (some 22) false (.convert 3 24 (.tmp 21)), .pure (some 23) false (.binOp .mul 24 (.tmp 22) (.const (.int .u64 8)) 24), .pure (some 4) false (.assign (.tmp 23))]
abbrev p_ref03_Pad_4 : List Nat := [0, 1, 2, 3, 4]
def s_ref03_Pad_5 : List AStep := [.pure (some 5) false (.assign (.const (.int .i64 0)))]
abbrev p_ref03_Pad_5 : List Nat := [0]
def s_ref03_Pad_6 : List AStep := [.pure (some 24) false (.move (.tmp 5)), .pure (some 25) false (.binOp .lss 3 (.tmp 24) (.const (.int .i64 8)) 3)]
abbrev p_ref03_Pad_6 : List Nat := [0, 1]
def s_ref03_Pad_8 : List AStep := [.pure (some 6) false (.assign (.const (.int .u64 1)))]
abbrev p_ref03_Pad_8 : List Nat := [0]
def s_ref03_Pad_9 : List AStep := [.pure (some 28) false (.move (.tmp 5)), .pure (some 7) false (.assign (.tmp 28))]
abbrev p_ref03_Pad_9 : List Nat := [0, 1]
def s_ref03_Pad_10 : List AStep := [.pure (some 29) false (.move (.tmp 7)), .pure (some 30) false (.binOp .lss 3 (.tmp 29) (.const (.int .i64 7)) 3)]
abbrev p_ref03_Pad_10 : List Nat := [0, 1]
def s_ref03_Pad_12 : List AStep := [.pure (some 33) false (.move (.tmp 6)), .pure (some 34) false (.binOp .mul 24 (.tmp 33) (.const (.int .u64 256)) 24), .pure (some 6) false (.assign (.tmp 34))]
abbrev p_ref03_Pad_12 : List Nat := [0, 1, 2]
def s_ref03_Pad_11 : List AStep := [.pure (some 31) false (.move (.tmp 7)), .pure (some 32) false (.binOp .add 3 (.tmp 31) (.const (.int .i64 1)) 3), .pure (some 7) false (.assign (.tmp 32))]
abbrev p_ref03_Pad_11 : List Nat := [0, 1, 2]
def s_ref03_Pad_13 : List AStep := [.pure (some 35) false (.move (.tmp 3)), .pure (some 36) false (.move (.tmp 4)), .pure (some 37) false (.move (.tmp 6)), .pure (some 38) false (.binOp .quo 24 (.tmp 36) (.tmp 37) 24), .pure (some 39) false (.binOp .rem 24 (.tmp 38) (.const (.int .u64 256)) 24), .pure (some 40) false (.convert 24 5 (.tmp 39)), .eff (some 41) (.buildSlice 25 1 #[(0, .tmp 40)]), .eff (some 42) (.call (.mk (.builtin .append) #[.tmp 35, .tmp 41] #[25, 25])), .pure (some 3) false (.assign (.tmp 42))]
abbrev p_ref03_Pad_13 : List Nat := [0, 1, 2, 3, 4, 5, 6, 7, 8]
def s_ref03_Pad_7 : List AStep := [.pure (some 26) false (.move (.tmp 5)), .pure (some 27) false (.binOp .add 3 (.tmp 26) (.const (.int .i64 1)) 3), .pure (some 5) false (.assign (.tmp 27))]
abbrev p_ref03_Pad_7 : List Nat := [0, 1, 2]
def s_ref03_Pad_14 : List AStep := [.pure (some 43) false (.move (.tmp 3)), .pure (some 2) false (.assign (.tmp 43))]
abbrev p_ref03_Pad_14 : List Nat := [0, 1]

/-! erewhile/erewhileref03.Compress -/
abbrev n_ref03_Compress : Nat := 49
theorem func_ref03_Compress : Try.prog.funcs[n_ref03_Compress]? = some Try.f49 := Try.func49
theorem call_ref03_Compress : ∀ args w, (callFunc n_ref03_Compress args).run Try.prog w = .ok (.enter n_ref03_Compress args) w := Try.call49
theorem nt_ref03_Compress : Try.f49.ntmps = 181 := Try.ntmps49
theorem rs_ref03_Compress : Try.f49.results.toList = [.cell 4 59] := by rw [Try.results49]
def s_ref03_Compress_0 : List AStep := [.eff (some 2) (.box 59 (.tmp 0)), .eff (some 3) (.box 55 (.tmp 1)), .eff (some 4) (.alloc 59)]
abbrev p_ref03_Compress_0 : List Nat := [0, 1, 2]
def s_ref03_Compress_1 : List AStep := [.pure (some 19) false (.build 70 #[]), .eff (some 5) (.alloc 70), .eff none (.store 70 (.tmp 5) (.tmp 19))]
abbrev p_ref03_Compress_1 : List Nat := [0, 1, 2]
def s_ref03_Compress_2 : List AStep := [.pure (some 6) false (.assign (.const (.int .i64 0)))]
abbrev p_ref03_Compress_2 : List Nat := [0]
def s_ref03_Compress_3 : List AStep := [.pure (some 20) false (.move (.tmp 6)), .pure (some 21) false (.binOp .lss 3 (.tmp 20) (.const (.int .i64 16)) 3)]
abbrev p_ref03_Compress_3 : List Nat := [0, 1]
def s_ref03_Compress_5 : List AStep := [.pure (some 7) false (.assign (.const (.int .i64 0)))]
abbrev p_ref03_Compress_5 : List Nat := [0]
def s_ref03_Compress_6 : List AStep := [.pure (some 24) false (.move (.tmp 7)), .pure (some 25) false (.binOp .lss 3 (.tmp 24) (.const (.int .i64 4)) 3)]
abbrev p_ref03_Compress_6 : List Nat := [0, 1]
def s_ref03_Compress_8 : SP := (.one (.pure (some 28) false (.move (.tmp 6))) (.one (.pure (some 29) false (.move (.tmp 6))) (.one (.pure (some 30) false (.indexAddr 70 (.tmp 5) (.tmp 29))) (.one (.pure (some 33) false (.move (.tmp 6))) (.one (.pure (some 34) false (.binOp .mul 3 (.const (.int .i64 4)) (.tmp 33) 3)) (.one (.pure (some 35) false (.move (.tmp 7))) (.one (.pure (some 36) false (.binOp .add 3 (.tmp 34) (.tmp 35) 3)) (.one (.pure (some 37) false (.indexAddr 55 (.tmp 3) (.tmp 36))) (.one (.read (some 31) false (.load 57 (.tmp 30))) (.one (.pure (some 32) false (.binOp .mul 57 (.tmp 31) (.const (.int .u32 256)) 57)) (.one (.read (some 38) false (.load 5 (.tmp 37))) (.one (.pure (some 39) false (.convert 5 57 (.tmp 38))) (.one (.pure (some 40) false (.binOp .add 57 (.tmp 32) (.tmp 39) 57)) (.one (.pure (some 41) false (.indexAddr 70 (.tmp 5) (.tmp 28))) (.one (.eff none (.store 57 (.tmp 41) (.tmp 40))) .done)))))))))))))))
abbrev p_ref03_Compress_8 : PC := (.calm 0 24576 (.calm 1 28700 (.calm 2 28696 (.calm 5 32576 (.calm 6 32512 (.calm 7 32512 (.calm 8 32256 (.calm 9 31744 (.calm 3 28688 (.calm 4 28672 (.calm 10 30720 (.calm 11 28672 (.calm 12 24576 (.calm 13 16384 (.act 14 .done)))))))))))))))
abbrev g_ref03_Compress_8 : List Dg := [⟨0, 64, 268435456, .pure, true⟩, ⟨0, 64, 536870912, .pure, true⟩, ⟨2, 536870944, 1073741824, .pure, true⟩, ⟨4, 1073741824, 2147483648, .read, true⟩, ⟨8, 2147483648, 4294967296, .pure, true⟩, ⟨0, 64, 8589934592, .pure, true⟩, ⟨32, 8589934592, 17179869184, .pure, true⟩, ⟨0, 128, 34359738368, .pure, true⟩, ⟨192, 51539607552, 68719476736, .pure, true⟩, ⟨256, 68719476744, 137438953472, .pure, true⟩, ⟨512, 137438953472, 274877906944, .read, true⟩, ⟨1024, 274877906944, 549755813888, .pure, true⟩, ⟨2064, 554050781184, 1099511627776, .pure, true⟩, ⟨8191, 268435488, 2199023255552, .pure, true⟩, ⟨16383, 3298534883328, 0, .eff, false⟩]
abbrev q_ref03_Compress_8 : List Nat := []
def s_ref03_Compress_7 : List AStep := [.pure (some 26) false (.move (.tmp 7)), .pure (some 27) false (.binOp .add 3 (.tmp 26) (.const (.int .i64 1)) 3), .pure (some 7) false (.assign (.tmp 27))]
abbrev p_ref03_Compress_7 : List Nat := [0, 1, 2]
def s_ref03_Compress_4 : List AStep := [.pure (some 22) false (.move (.tmp 6)), .pure (some 23) false (.binOp .add 3 (.tmp 22) (.const (.int .i64 1)) 3), .pure (some 6) false (.assign (.tmp 23))]
abbrev p_ref03_Compress_4 : List Nat := [0, 1, 2]
def s_ref03_Compress_9 : List AStep := [.pure (some 8) false (.assign (.const (.int .i64 16)))]
abbrev p_ref03_Compress_9 : List Nat := [0]
def s_ref03_Compress_10 : List AStep := [.pure (some 42) false (.move (.tmp 8)), .pure (some 43) false (.binOp .lss 3 (.tmp 42) (.const (.int .i64 64)) 3)]
abbrev p_ref03_Compress_10 : List Nat := [0, 1]
def s_ref03_Compress_12 : List AStep := [.pure (some 46) false (.move (.tmp 8)), .pure (some 47) false (.binOp .sub 3 (.tmp 46) (.const (.int .i64 15)) 3), .pure (some 48) false (.indexAddr 70 (.tmp 5) (.tmp 47)), .read (some 49) false (.load 57 (.tmp 48)), .pure (some 9) false (.assign (.tmp 49))]
abbrev p_ref03_Compress_12 : List Nat := [0, 1, 2, 3, 4]
def s_ref03_Compress_13 : List AStep := [.pure (some 50) false (.move (.tmp 8)), .pure (some 51) false (.binOp .sub 3 (.tmp 50) (.const (.int .i64 2)) 3), .pure (some 52) false (.indexAddr 70 (.tmp 5) (.tmp 51)), .read (some 53) false (.load 57 (.tmp 52)), .pure (some 10) false (.assign (.tmp 53))]
abbrev p_ref03_Compress_13 : List Nat := [0, 1, 2, 3, 4]
def s_ref03_Compress_14 : SP := (.one (.pure (some 54) false (.move (.tmp 8))) (.one (.pure (some 55) false (.move (.tmp 8))) (.one (.pure (some 56) false (.binOp .sub 3 (.tmp 55) (.const (.int .i64 16)) 3)) (.one (.pure (some 57) false (.indexAddr 70 (.tmp 5) (.tmp 56))) (.one (.pure (some 59) false (.move (.tmp 8))) (.one (.pure (some 60) false (.binOp .sub 3 (.tmp 59) (.const (.int .i64 7)) 3)) (.one (.pure (some 61) false (.indexAddr 70 (.tmp 5) (.tmp 60))) (.one (.pure (some 64) false (.move (.tmp 9))) (.one (.pure (some 66) false (.move (.tmp 9))) (.one (.pure (some 69) false (.move (.tmp 9))) (.one (.pure (some 70) false (.binOp .quo 57 (.tmp 69) (.const (.int .u32 8)) 57)) (.one (.pure (some 73) false (.move (.tmp 10))) (.one (.pure (some 75) false (.move (.tmp 10))) (.one (.pure (some 78) false (.move (.tmp 10))) (.one (.pure (some 79) false (.binOp .quo 57 (.tmp 78) (.const (.int .u32 1024)) 57)) (.one (.read (some 58) false (.load 57 (.tmp 57))) (.one (.read (some 62) false (.load 57 (.tmp 61))) (.one (.pure (some 63) false (.binOp .add 57 (.tmp 58) (.tmp 62) 57)) (.one (.call (some 65) false ⟨.value (.func 55), #[.tmp 64, .const (.int .u64 7)], #[57, 54]⟩) (.one (.call (some 67) false ⟨.value (.func 55), #[.tmp 66, .const (.int .u64 18)], #[57, 54]⟩) (.one (.pure (some 68) false (.binOp .xor 57 (.tmp 65) (.tmp 67) 57)) (.one (.pure (some 71) false (.binOp .xor 57 (.tmp 68) (.tmp 70) 57)) (.one (.pure (some 72) false (.binOp .add 57 (.tmp 63) (.tmp 71) 57)) (.one (.call (some 74) false ⟨.value (.func 55), #[.tmp 73, .const (.int .u64 17)], #[57, 54]⟩) (.one (.call (some 76) false ⟨.value (.func 55), #[.tmp 75, .const (.int .u64 19)], #[57, 54]⟩) (.one (.pure (some 77) false (.binOp .xor 57 (.tmp 74) (.tmp 76) 57)) (.one (.pure (some 80) false (.binOp .xor 57 (.tmp 77) (.tmp 79) 57)) (.one (.pure (some 81) false (.binOp .add 57 (.tmp 72) (.tmp 80) 57)) (.one (.pure (some 82) false (.indexAddr 70 (.tmp 5) (.tmp 54))) (.one (.eff none (.store 57 (.tmp 82) (.tmp 81))) .done))))))))))))))))))))))))))))))
abbrev p_ref03_Compress_14 : PC := (.calm 0 805306368 (.calm 1 939786780 (.calm 2 939786776 (.calm 3 939786768 (.calm 5 939787200 (.calm 6 939787136 (.calm 7 939787008 (.calm 10 1020684288 (.calm 12 1020682240 (.calm 15 939982848 (.calm 16 939917312 (.calm 19 1020264448 (.calm 21 1019215872 (.calm 24 1040187392 (.calm 25 1006632960 (.calm 4 939786752 (.calm 8 939786752 (.calm 9 939786240 (.act 11 (.act 13 (.calm 14 939917312 (.calm 17 939786240 (.calm 18 939524096 (.act 20 (.act 22 (.calm 23 1006632960 (.calm 26 939524096 (.calm 27 805306368 (.calm 28 536870912 (.act 29 .done))))))))))))))))))))))))))))))
abbrev g_ref03_Compress_14 : List Dg := [⟨0, 256, 18014398509481984, .pure, true⟩, ⟨0, 256, 36028797018963968, .pure, true⟩, ⟨2, 36028797018963968, 72057594037927936, .pure, true⟩, ⟨4, 72057594037927968, 144115188075855872, .pure, true⟩, ⟨8, 144115188075855872, 288230376151711744, .read, true⟩, ⟨0, 256, 576460752303423488, .pure, true⟩, ⟨32, 576460752303423488, 1152921504606846976, .pure, true⟩, ⟨64, 1152921504606847008, 2305843009213693952, .pure, true⟩, ⟨128, 2305843009213693952, 4611686018427387904, .read, true⟩, ⟨272, 4899916394579099648, 9223372036854775808, .pure, true⟩, ⟨0, 512, 18446744073709551616, .pure, true⟩, ⟨1024, 18446744073709551616, 36893488147419103232, .call, true⟩, ⟨0, 512, 73786976294838206464, .pure, true⟩, ⟨6144, 73786976294838206464, 147573952589676412928, .call, true⟩, ⟨10240, 184467440737095516160, 295147905179352825856, .pure, true⟩, ⟨0, 512, 590295810358705651712, .pure, true⟩, ⟨32768, 590295810358705651712, 1180591620717411303424, .pure, true⟩, ⟨81920, 1475739525896764129280, 2361183241434822606848, .pure, true⟩, ⟨131584, 2370406613471677382656, 4722366482869645213696, .pure, true⟩, ⟨0, 1024, 9444732965739290427392, .pure, true⟩, ⟨532480, 9444732965739290427392, 18889465931478580854784, .call, true⟩, ⟨0, 1024, 37778931862957161709568, .pure, true⟩, ⟨3145728, 37778931862957161709568, 75557863725914323419136, .call, true⟩, ⟨5242880, 94447329657392904273920, 151115727451828646838272, .pure, true⟩, ⟨0, 1024, 302231454903657293676544, .pure, true⟩, ⟨16777216, 302231454903657293676544, 604462909807314587353088, .pure, true⟩, ⟨41943040, 755578637259143234191360, 1208925819614629174706176, .pure, true⟩, ⟨67371008, 1213648186097498819919872, 2417851639229258349412352, .pure, true⟩, ⟨268435455, 18014398509482016, 4835703278458516698824704, .pure, true⟩, ⟨536870911, 7253554917687775048237056, 0, .eff, false⟩]
abbrev q_ref03_Compress_14 : List Nat := []
def s_ref03_Compress_11 : List AStep := [.pure (some 44) false (.move (.tmp 8)), .pure (some 45) false (.binOp .add 3 (.tmp 44) (.const (.int .i64 1)) 3), .pure (some 8) false (.assign (.tmp 45))]
abbrev p_ref03_Compress_11 : List Nat := [0, 1, 2]
def s_ref03_Compress_15 : List AStep := [.call (some 83) false ⟨.value (.func 56), #[], #[]⟩, .eff (some 11) (.alloc 70), .eff none (.store 70 (.tmp 11) (.tmp 83))]
abbrev p_ref03_Compress_15 : List Nat := [0, 1, 2]
def s_ref03_Compress_16 : List AStep := [.read (some 84) false (.load 59 (.tmp 2)), .eff (some 12) (.alloc 59), .eff none (.store 59 (.tmp 12) (.tmp 84))]
abbrev p_ref03_Compress_16 : List Nat := [0, 1, 2]
def s_ref03_Compress_17 : List AStep := [.pure (some 13) false (.assign (.const (.int .i64 0)))]
abbrev p_ref03_Compress_17 : List Nat := [0]
def s_ref03_Compress_18 : List AStep := [.pure (some 85) false (.move (.tmp 13)), .pure (some 86) false (.binOp .lss 3 (.tmp 85) (.const (.int .i64 64)) 3)]
abbrev p_ref03_Compress_18 : List Nat := [0, 1]
def s_ref03_Compress_20 : List AStep := [.pure (some 89) false (.indexAddr 59 (.tmp 12) (.const (.int .i64 4))), .read (some 90) false (.load 57 (.tmp 89)), .pure (some 14) false (.assign (.tmp 90))]
abbrev p_ref03_Compress_20 : List Nat := [0, 1, 2]
def s_ref03_Compress_21 : List AStep := [.pure (some 91) false (.indexAddr 59 (.tmp 12) (.const (.int .i64 0))), .read (some 92) false (.load 57 (.tmp 91)), .pure (some 15) false (.assign (.tmp 92))]
abbrev p_ref03_Compress_21 : List Nat := [0, 1, 2]
def s_ref03_Compress_22 : SP := (.one (.pure (some 93) false (.indexAddr 59 (.tmp 12) (.const (.int .i64 7)))) (.one (.pure (some 95) false (.move (.tmp 14))) (.one (.pure (some 97) false (.move (.tmp 14))) (.one (.pure (some 100) false (.move (.tmp 14))) (.one (.pure (some 104) false (.move (.tmp 14))) (.one (.pure (some 105) false (.indexAddr 59 (.tmp 12) (.const (.int .i64 5)))) (.one (.pure (some 108) false (.move (.tmp 14))) (.one (.pure (some 109) false (.binOp .sub 57 (.const (.int .u32 4294967295)) (.tmp 108) 57)) (.one (.pure (some 110) false (.indexAddr 59 (.tmp 12) (.const (.int .i64 6)))) (.one (.pure (some 115) false (.move (.tmp 13))) (.one (.pure (some 116) false (.indexAddr 70 (.tmp 11) (.tmp 115))) (.one (.pure (some 119) false (.move (.tmp 13))) (.one (.pure (some 120) false (.indexAddr 70 (.tmp 5) (.tmp 119))) (.one (.read (some 94) false (.load 57 (.tmp 93))) (.one (.read (some 106) false (.load 57 (.tmp 105))) (.one (.pure (some 107) false (.binOp .and 57 (.tmp 104) (.tmp 106) 57)) (.one (.read (some 111) false (.load 57 (.tmp 110))) (.one (.pure (some 112) false (.binOp .and 57 (.tmp 109) (.tmp 111) 57)) (.one (.pure (some 113) false (.binOp .xor 57 (.tmp 107) (.tmp 112) 57)) (.one (.read (some 117) false (.load 57 (.tmp 116))) (.one (.read (some 121) false (.load 57 (.tmp 120))) (.one (.call (some 96) false ⟨.value (.func 55), #[.tmp 95, .const (.int .u64 6)], #[57, 54]⟩) (.one (.call (some 98) false ⟨.value (.func 55), #[.tmp 97, .const (.int .u64 11)], #[57, 54]⟩) (.one (.pure (some 99) false (.binOp .xor 57 (.tmp 96) (.tmp 98) 57)) (.one (.call (some 101) false ⟨.value (.func 55), #[.tmp 100, .const (.int .u64 25)], #[57, 54]⟩) (.one (.pure (some 102) false (.binOp .xor 57 (.tmp 99) (.tmp 101) 57)) (.one (.pure (some 103) false (.binOp .add 57 (.tmp 94) (.tmp 102) 57)) (.one (.pure (some 114) false (.binOp .add 57 (.tmp 103) (.tmp 113) 57)) (.one (.pure (some 118) false (.binOp .add 57 (.tmp 114) (.tmp 117) 57)) (.one (.pure (some 122) false (.binOp .add 57 (.tmp 118) (.tmp 121) 57)) (.one (.pure (some 16) false (.assign (.tmp 122))) .done)))))))))))))))))))))))))))))))
abbrev p_ref03_Compress_22 : PC := (.calm 0 1646265346 (.calm 2 1646266216 (.calm 4 1646266208 (.calm 7 1646266112 (.calm 11 1647329280 (.calm 12 1647337472 (.calm 15 1647902720 (.calm 16 1647837184 (.calm 17 1648099328 (.calm 22 1669332992 (.calm 23 1660944384 (.calm 26 2013265920 (.calm 27 1879048192 (.calm 1 1646265344 (.calm 13 1647329280 (.calm 14 1647312896 (.calm 18 1647837184 (.calm 19 1647312896 (.calm 20 1646264320 (.calm 24 1644167168 (.calm 28 1610612736 (.act 3 (.act 5 (.calm 6 1646265856 (.act 8 (.calm 9 1646265344 (.calm 10 1646264320 (.calm 21 1644167168 (.calm 25 1610612736 (.calm 29 1073741824 (.calm 30 0 .done)))))))))))))))))))))))))))))))
abbrev g_ref03_Compress_22 : List Dg := [⟨0, 4096, 9903520314283042199192993792, .pure, true⟩, ⟨1, 9903520314283042199192993792, 19807040628566084398385987584, .read, true⟩, ⟨0, 16384, 39614081257132168796771975168, .pure, true⟩, ⟨4, 39614081257132168796771975168, 79228162514264337593543950336, .call, true⟩, ⟨0, 16384, 158456325028528675187087900672, .pure, true⟩, ⟨24, 158456325028528675187087900672, 316912650057057350374175801344, .call, true⟩, ⟨40, 396140812571321687967719751680, 633825300114114700748351602688, .pure, true⟩, ⟨0, 16384, 1267650600228229401496703205376, .pure, true⟩, ⟨160, 1267650600228229401496703205376, 2535301200456458802993406410752, .call, true⟩, ⟨320, 3169126500570573503741758013440, 5070602400912917605986812821504, .pure, true⟩, ⟨514, 5090409441541483690385198809088, 10141204801825835211973625643008, .pure, true⟩, ⟨0, 16384, 20282409603651670423947251286016, .pure, true⟩, ⟨0, 4096, 40564819207303340847894502572032, .pure, true⟩, ⟨4096, 40564819207303340847894502572032, 81129638414606681695789005144064, .read, true⟩, ⟨10240, 101412048018258352119736256430080, 162259276829213363391578010288128, .pure, true⟩, ⟨0, 16384, 324518553658426726783156020576256, .pure, true⟩, ⟨32768, 324518553658426726783156020576256, 649037107316853453566312041152512, .pure, true⟩, ⟨0, 4096, 1298074214633706907132624082305024, .pure, true⟩, ⟨131072, 1298074214633706907132624082305024, 2596148429267413814265248164610048, .read, true⟩, ⟨327680, 3245185536584267267831560205762560, 5192296858534827628530496329220096, .pure, true⟩, ⟨540672, 5354556135364040991922074339508224, 10384593717069655257060992658440192, .pure, true⟩, ⟨1049600, 10394734921871481092272966284083200, 20769187434139310514121985316880384, .pure, true⟩, ⟨0, 8192, 41538374868278621028243970633760768, .pure, true⟩, ⟨4194304, 41538374868278621028243970633762816, 83076749736557242056487941267521536, .pure, true⟩, ⟨8388608, 83076749736557242056487941267521536, 166153499473114484112975882535043072, .read, true⟩, ⟨18874368, 186922686907253794627097867851923456, 332306998946228968225951765070086144, .pure, true⟩, ⟨0, 8192, 664613997892457936451903530140172288, .pure, true⟩, ⟨67108864, 664613997892457936451903530140172320, 1329227995784915872903807060280344576, .pure, true⟩, ⟨134217728, 1329227995784915872903807060280344576, 2658455991569831745807614120560689152, .read, true⟩, ⟨301989888, 2990762990516060714033565885630775296, 5316911983139663491615228241121378304, .pure, true⟩, ⟨1073741823, 5316911983139663491615228241121378304, 65536, .pure, true⟩]
abbrev q_ref03_Compress_22 : List Nat := []
def s_ref03_Compress_23 : SP := (.one (.pure (some 123) false (.move (.tmp 15))) (.one (.pure (some 125) false (.move (.tmp 15))) (.one (.pure (some 128) false (.move (.tmp 15))) (.one (.pure (some 131) false (.move (.tmp 15))) (.one (.pure (some 132) false (.indexAddr 59 (.tmp 12) (.const (.int .i64 1)))) (.one (.pure (some 135) false (.move (.tmp 15))) (.one (.pure (some 136) false (.indexAddr 59 (.tmp 12) (.const (.int .i64 2)))) (.one (.pure (some 140) false (.indexAddr 59 (.tmp 12) (.const (.int .i64 1)))) (.one (.pure (some 142) false (.indexAddr 59 (.tmp 12) (.const (.int .i64 2)))) (.one (.read (some 133) false (.load 57 (.tmp 132))) (.one (.pure (some 134) false (.binOp .and 57 (.tmp 131) (.tmp 133) 57)) (.one (.read (some 137) false (.load 57 (.tmp 136))) (.one (.pure (some 138) false (.binOp .and 57 (.tmp 135) (.tmp 137) 57)) (.one (.pure (some 139) false (.binOp .xor 57 (.tmp 134) (.tmp 138) 57)) (.one (.read (some 141) false (.load 57 (.tmp 140))) (.one (.read (some 143) false (.load 57 (.tmp 142))) (.one (.pure (some 144) false (.binOp .and 57 (.tmp 141) (.tmp 143) 57)) (.one (.pure (some 145) false (.binOp .xor 57 (.tmp 139) (.tmp 144) 57)) (.one (.call (some 124) false ⟨.value (.func 55), #[.tmp 123, .const (.int .u64 2)], #[57, 54]⟩) (.one (.call (some 126) false ⟨.value (.func 55), #[.tmp 125, .const (.int .u64 13)], #[57, 54]⟩) (.one (.pure (some 127) false (.binOp .xor 57 (.tmp 124) (.tmp 126) 57)) (.one (.call (some 129) false ⟨.value (.func 55), #[.tmp 128, .const (.int .u64 22)], #[57, 54]⟩) (.one (.pure (some 130) false (.binOp .xor 57 (.tmp 127) (.tmp 129) 57)) (.one (.pure (some 146) false (.binOp .add 57 (.tmp 130) (.tmp 145) 57)) (.one (.pure (some 17) false (.assign (.tmp 146))) .done)))))))))))))))))))))))))
abbrev p_ref03_Compress_23 : PC := (.calm 0 25166042 (.calm 2 25166040 (.calm 5 25166016 (.calm 8 29427712 (.calm 9 29428736 (.calm 12 29458432 (.calm 13 29474816 (.calm 17 31719424 (.calm 19 32505856 (.calm 10 29427712 (.calm 11 29425664 (.calm 14 29458432 (.calm 15 29425664 (.calm 16 29360128 (.calm 18 31457280 (.calm 20 31457280 (.calm 21 29360128 (.calm 22 25165824 (.act 1 (.act 3 (.calm 4 25165952 (.act 6 (.calm 7 25165824 (.calm 23 16777216 (.calm 24 0 .done)))))))))))))))))))))))))
abbrev g_ref03_Compress_23 : List Dg := [⟨0, 32768, 10633823966279326983230456482242756608, .pure, true⟩, ⟨1, 10633823966279326983230456482242756608, 21267647932558653966460912964485513216, .call, true⟩, ⟨0, 32768, 42535295865117307932921825928971026432, .pure, true⟩, ⟨6, 42535295865117307932921825928971026432, 85070591730234615865843651857942052864, .call, true⟩, ⟨10, 106338239662793269832304564822427566080, 170141183460469231731687303715884105728, .pure, true⟩, ⟨0, 32768, 340282366920938463463374607431768211456, .pure, true⟩, ⟨40, 340282366920938463463374607431768211456, 680564733841876926926749214863536422912, .call, true⟩, ⟨80, 850705917302346158658436518579420528640, 1361129467683753853853498429727072845824, .pure, true⟩, ⟨0, 32768, 2722258935367507707706996859454145691648, .pure, true⟩, ⟨0, 4096, 5444517870735015415413993718908291383296, .pure, true⟩, ⟨512, 5444517870735015415413993718908291383296, 10889035741470030830827987437816582766592, .read, true⟩, ⟨1280, 13611294676837538538534984297270728458240, 21778071482940061661655974875633165533184, .pure, true⟩, ⟨0, 32768, 43556142965880123323311949751266331066368, .pure, true⟩, ⟨0, 4096, 87112285931760246646623899502532662132736, .pure, true⟩, ⟨8192, 87112285931760246646623899502532662132736, 174224571863520493293247799005065324265472, .read, true⟩, ⟨20480, 217780714829400616616559748756331655331840, 348449143727040986586495598010130648530944, .pure, true⟩, ⟨34816, 370227215209981048248151572885763814064128, 696898287454081973172991196020261297061888, .pure, true⟩, ⟨0, 4096, 1393796574908163946345982392040522594123776, .pure, true⟩, ⟨131072, 1393796574908163946345982392040522594123776, 2787593149816327892691964784081045188247552, .read, true⟩, ⟨0, 4096, 5575186299632655785383929568162090376495104, .pure, true⟩, ⟨524288, 5575186299632655785383929568162090376495104, 11150372599265311570767859136324180752990208, .read, true⟩, ⟨1310720, 13937965749081639463459823920405225941237760, 22300745198530623141535718272648361505980416, .pure, true⟩, ⟨2162688, 22997643485984705114708709468668622803042304, 44601490397061246283071436545296723011960832, .pure, true⟩, ⟨4194432, 44602851526528930036925290043726450084806656, 89202980794122492566142873090593446023921664, .pure, true⟩, ⟨16777215, 89202980794122492566142873090593446023921664, 131072, .pure, true⟩]
abbrev q_ref03_Compress_23 : List Nat := []
def s_ref03_Compress_24 : List AStep := [.pure (some 147) false (.move (.tmp 16)), .pure (some 148) false (.move (.tmp 17)), .pure (some 149) false (.binOp .add 57 (.tmp 147) (.tmp 148) 57), .pure (some 150) false (.indexAddr 59 (.tmp 12) (.const (.int .i64 0))), .read (some 151) false (.load 57 (.tmp 150)), .pure (some 152) false (.indexAddr 59 (.tmp 12) (.const (.int .i64 1))), .read (some 153) false (.load 57 (.tmp 152)), .pure (some 154) false (.indexAddr 59 (.tmp 12) (.const (.int .i64 2))), .read (some 155) false (.load 57 (.tmp 154)), .pure (some 156) false (.indexAddr 59 (.tmp 12) (.const (.int .i64 3))), .read (some 157) false (.load 57 (.tmp 156)), .pure (some 158) false (.move (.tmp 16)), .pure (some 159) false (.binOp .add 57 (.tmp 157) (.tmp 158) 57), .pure (some 160) false (.indexAddr 59 (.tmp 12) (.const (.int .i64 4))), .read (some 161) false (.load 57 (.tmp 160)), .pure (some 162) false (.indexAddr 59 (.tmp 12) (.const (.int .i64 5))), .read (some 163) false (.load 57 (.tmp 162)), .pure (some 164) false (.indexAddr 59 (.tmp 12) (.const (.int .i64 6))), .read (some 165) false (.load 57 (.tmp 164)), .pure (some 166) false (.build 59 #[(0, .tmp 149), (1, .tmp 151), (2, .tmp 153), (3, .tmp 155), (4, .tmp 159), (5, .tmp 161), (6, .tmp 163), (7, .tmp 165)]), .eff none (.store 59 (.tmp 12) (.tmp 166))]
abbrev p_ref03_Compress_24 : List Nat := [0, 1, 2, 3, 4, 5, 6, 7, 8, 9, 10, 11, 12, 13, 14, 15, 16, 17, 18, 19, 20]
def s_ref03_Compress_19 : List AStep := [.pure (some 87) false (.move (.tmp 13)), .pure (some 88) false (.binOp .add 3 (.tmp 87) (.const (.int .i64 1)) 3), .pure (some 13) false (.assign (.tmp 88))]
abbrev p_ref03_Compress_19 : List Nat := [0, 1, 2]
def s_ref03_Compress_25 : List AStep := [.pure (some 18) false (.assign (.const (.int .i64 0)))]
abbrev p_ref03_Compress_25 : List Nat := [0]
def s_ref03_Compress_26 : List AStep := [.pure (some 167) false (.move (.tmp 18)), .pure (some 168) false (.binOp .lss 3 (.tmp 167) (.const (.int .i64 8)) 3)]
abbrev p_ref03_Compress_26 : List Nat := [0, 1]
def s_ref03_Compress_28 : SP := (.one (.pure (some 171) false (.move (.tmp 18))) (.one (.pure (some 172) false (.move (.tmp 18))) (.one (.pure (some 173) false (.indexAddr 59 (.tmp 12) (.tmp 172))) (.one (.pure (some 175) false (.move (.tmp 18))) (.one (.pure (some 176) false (.indexAddr 59 (.tmp 2) (.tmp 175))) (.one (.read (some 174) false (.load 57 (.tmp 173))) (.one (.read (some 177) false (.load 57 (.tmp 176))) (.one (.pure (some 178) false (.binOp .add 57 (.tmp 174) (.tmp 177) 57)) (.one (.pure (some 179) false (.indexAddr 59 (.tmp 12) (.tmp 171))) (.one (.eff none (.store 57 (.tmp 179) (.tmp 178))) .done))))))))))
abbrev p_ref03_Compress_28 : PC := (.calm 0 768 (.calm 1 908 (.calm 2 904 (.calm 4 992 (.calm 5 960 (.calm 3 896 (.calm 6 896 (.calm 7 768 (.calm 8 512 (.act 9 .done))))))))))
abbrev g_ref03_Compress_28 : List Dg := [⟨0, 262144, 2993155353253689176481146537402947624255349848014848, .pure, true⟩, ⟨0, 262144, 5986310706507378352962293074805895248510699696029696, .pure, true⟩, ⟨2, 5986310706507378352962293074805895248510699696033792, 11972621413014756705924586149611790497021399392059392, .pure, true⟩, ⟨4, 11972621413014756705924586149611790497021399392059392, 23945242826029513411849172299223580994042798784118784, .read, true⟩, ⟨0, 262144, 47890485652059026823698344598447161988085597568237568, .pure, true⟩, ⟨16, 47890485652059026823698344598447161988085597568237572, 95780971304118053647396689196894323976171195136475136, .pure, true⟩, ⟨32, 95780971304118053647396689196894323976171195136475136, 191561942608236107294793378393788647952342390272950272, .read, true⟩, ⟨72, 215507185434265620706642550693012228946385189057069056, 383123885216472214589586756787577295904684780545900544, .pure, true⟩, ⟨255, 2993155353253689176481146537402947624255349848018944, 766247770432944429179173513575154591809369561091801088, .pure, true⟩, ⟨511, 1149371655649416643768760270362731887714054341637701632, 0, .eff, false⟩]
abbrev q_ref03_Compress_28 : List Nat := []
def s_ref03_Compress_27 : List AStep := [.pure (some 169) false (.move (.tmp 18)), .pure (some 170) false (.binOp .add 3 (.tmp 169) (.const (.int .i64 1)) 3), .pure (some 18) false (.assign (.tmp 170))]
abbrev p_ref03_Compress_27 : List Nat := [0, 1, 2]
def s_ref03_Compress_29 : List AStep := [.read (some 180) false (.load 59 (.tmp 12)), .eff none (.store 59 (.tmp 4) (.tmp 180))]
abbrev p_ref03_Compress_29 : List Nat := [0, 1]

/-! math/bits.RotateLeft32 -/
abbrev n_bits_RotateLeft32 : Nat := 50
theorem func_bits_RotateLeft32 : Try.prog.funcs[n_bits_RotateLeft32]? = some Try.f50 := Try.func50
theorem call_bits_RotateLeft32 : ∀ args w, (callFunc n_bits_RotateLeft32 args).run Try.prog w = .ok (.enter n_bits_RotateLeft32 args) w := Try.call50
theorem nt_bits_RotateLeft32 : Try.f50.ntmps = 17 := Try.ntmps50
theorem rs_bits_RotateLeft32 : Try.f50.results.toList = [.tmp 4] := by rw [Try.results50]
def s_bits_RotateLeft32_0 : List AStep := [.pure (some 4) false (.assign (.const (.int .u32 0)))]
abbrev p_bits_RotateLeft32_0 : List Nat := [0]
def s_bits_RotateLeft32_1 : List AStep := [.pure (some 6) false (.move (.tmp 1)), .pure (some 7) false (.convert 3 54 (.tmp 6)), .pure (some 8) false (.binOp .and 54 (.tmp 7) (.const (.int .u64 31)) 54), .pure (some 5) false (.assign (.tmp 8))]
abbrev p_bits_RotateLeft32_1 : List Nat := [0, 1, 2, 3]
def s_bits_RotateLeft32_2 : List AStep := [.pure (some 9) false (.move (.tmp 0)), .pure (some 10) false (.move (.tmp 5)), .pure (some 11) false (.binOp .shl 57 (.tmp 9) (.tmp 10) 54), .pure (some 12) false (.move (.tmp 0)), .pure (some 13) false (.move (.tmp 5)), .pure (some 14) false (.binOp .sub 54 (.const (.int .u64 32)) (.tmp 13) 54), .pure (some 15) false (.binOp .shr 57 (.tmp 12) (.tmp 14) 54), .pure (some 16) false (.binOp .or 57 (.tmp 11) (.tmp 15) 57), .pure (some 4) false (.assign (.tmp 16))]
abbrev p_bits_RotateLeft32_2 : List Nat := [0, 1, 2, 3, 4, 5, 6, 7, 8]

/-! erewhile/erewhileref03.Primes -/
abbrev n_ref03_Primes : Nat := 53
theorem func_ref03_Primes : Try.prog.funcs[n_ref03_Primes]? = some Try.f53 := Try.func53
theorem call_ref03_Primes : ∀ args w, (callFunc n_ref03_Primes args).run Try.prog w = .ok (.enter n_ref03_Primes args) w := Try.call53
theorem nt_ref03_Primes : Try.f53.ntmps = 19 := Try.ntmps53
theorem rs_ref03_Primes : Try.f53.results.toList = [.tmp 2] := by rw [Try.results53]
def s_ref03_Primes_0 : List AStep := [.pure (some 2) false (.assign (.const (.slice none 0 0)))]
abbrev p_ref03_Primes_0 : List Nat := [0]
def s_ref03_Primes_1 : List AStep := [.eff (some 5) (.buildSlice 79 0 #[]), .pure (some 3) false (.assign (.tmp 5))]
abbrev p_ref03_Primes_1 : List Nat := [0, 1]
def s_ref03_Primes_2 : List AStep := [.pure (some 4) false (.assign (.const (.int .i64 2)))]
abbrev p_ref03_Primes_2 : List Nat := [0]
def s_ref03_Primes_3 : List AStep := [.pure (some 6) false (.move (.tmp 3)), .pure (some 7) false (.call (.mk (.builtin .len) #[.tmp 6] #[79])), .pure (some 8) false (.move (.tmp 0)), .pure (some 9) false (.binOp .lss 3 (.tmp 7) (.tmp 8) 3)]
abbrev p_ref03_Primes_3 : List Nat := [0, 1, 2, 3]
def s_ref03_Primes_5 : List AStep := [.pure (some 12) false (.move (.tmp 4)), .call (some 13) false ⟨.value (.func 57), #[.tmp 12], #[3]⟩]
abbrev p_ref03_Primes_5 : List Nat := [0, 1]
def s_ref03_Primes_6 : List AStep := [.pure (some 14) false (.move (.tmp 3)), .pure (some 15) false (.move (.tmp 4)), .eff (some 16) (.buildSlice 79 1 #[(0, .tmp 15)]), .eff (some 17) (.call (.mk (.builtin .append) #[.tmp 14, .tmp 16] #[79, 79])), .pure (some 3) false (.assign (.tmp 17))]
abbrev p_ref03_Primes_6 : List Nat := [0, 1, 2, 3, 4]
def s_ref03_Primes_4 : List AStep := [.pure (some 10) false (.move (.tmp 4)), .pure (some 11) false (.binOp .add 3 (.tmp 10) (.const (.int .i64 1)) 3), .pure (some 4) false (.assign (.tmp 11))]
abbrev p_ref03_Primes_4 : List Nat := [0, 1, 2]
def s_ref03_Primes_7 : List AStep := [.pure (some 18) false (.move (.tmp 3)), .pure (some 2) false (.assign (.tmp 18))]
abbrev p_ref03_Primes_7 : List Nat := [0, 1]

/-! erewhile/erewhileref03.Root -/
abbrev n_ref03_Root : Nat := 54
theorem func_ref03_Root : Try.prog.funcs[n_ref03_Root]? = some Try.f54 := Try.func54
theorem call_ref03_Root : ∀ args w, (callFunc n_ref03_Root args).run Try.prog w = .ok (.enter n_ref03_Root args) w := Try.call54
theorem nt_ref03_Root : Try.f54.ntmps = 56 := Try.ntmps54
theorem rs_ref03_Root : Try.f54.results.toList = [.tmp 4] := by rw [Try.results54]
def s_ref03_Root_0 : List AStep := [.pure (some 4) false (.assign (.const (.int .u32 0)))]
abbrev p_ref03_Root_0 : List Nat := [0]
def s_ref03_Root_1 : List AStep := [.pure (some 12) false (.move (.tmp 1)), .pure (some 13) false (.binOp .mul 3 (.const (.int .i64 2)) (.tmp 12) 3), .pure (some 5) false (.assign (.tmp 13))]
abbrev p_ref03_Root_1 : List Nat := [0, 1, 2]
def s_ref03_Root_2 : List AStep := [.pure (some 14) false (.move (.tmp 5)), .pure (some 15) false (.binOp .add 3 (.tmp 14) (.const (.int .i64 1)) 3), .eff (some 16) (.makeSlice 84 (.tmp 15) (.tmp 15)), .pure (some 6) false (.assign (.tmp 16))]
abbrev p_ref03_Root_2 : List Nat := [0, 1, 2, 3]
def s_ref03_Root_3 : List AStep := [.pure (some 17) false (.move (.tmp 6)), .pure (some 18) false (.move (.tmp 5)), .pure (some 19) false (.move (.tmp 0)), .pure (some 20) false (.convert 3 24 (.tmp 19)), .pure (some 21) false (.indexAddr 84 (.tmp 17) (.tmp 18)), .eff none (.store 24 (.tmp 21) (.tmp 20))]
abbrev p_ref03_Root_3 : List Nat := [0, 1, 2, 3, 4, 5]
def s_ref03_Root_4 : List AStep := [.pure (some 7) false (.assign (.const (.int .u64 0)))]
abbrev p_ref03_Root_4 : List Nat := [0]
def s_ref03_Root_5 : List AStep := [.pure (some 8) false (.assign (.const (.int .i64 36)))]
abbrev p_ref03_Root_5 : List Nat := [0]
def s_ref03_Root_6 : List AStep := [.pure (some 22) false (.move (.tmp 8)), .pure (some 23) false (.binOp .geq 3 (.tmp 22) (.const (.int .i64 0)) 3)]
abbrev p_ref03_Root_6 : List Nat := [0, 1]
def s_ref03_Root_8 : List AStep := [.pure (some 26) false (.move (.tmp 7)), .pure (some 27) false (.move (.tmp 8)), .pure (some 28) false (.convert 3 54 (.tmp 27)), .pure (some 29) false (.binOp .shl 24 (.const (.int .u64 1)) (.tmp 28) 54), .pure (some 30) false (.binOp .add 24 (.tmp 26) (.tmp 29) 24), .pure (some 9) false (.assign (.tmp 30))]
abbrev p_ref03_Root_8 : List Nat := [0, 1, 2, 3, 4, 5]
def s_ref03_Root_9 : List AStep := [.pure (some 31) false (.move (.tmp 9)), .pure (some 32) false (.binOp .rem 24 (.tmp 31) (.const (.int .u64 65536)) 24), .pure (some 33) false (.move (.tmp 9)), .pure (some 34) false (.binOp .quo 24 (.tmp 33) (.const (.int .u64 65536)) 24), .pure (some 35) false (.binOp .rem 24 (.tmp 34) (.const (.int .u64 65536)) 24), .pure (some 36) false (.move (.tmp 9)), .pure (some 37) false (.binOp .quo 24 (.tmp 36) (.const (.int .u64 65536)) 24), .pure (some 38) false (.binOp .quo 24 (.tmp 37) (.const (.int .u64 65536)) 24), .eff (some 39) (.buildSlice 84 3 #[(0, .tmp 32), (1, .tmp 35), (2, .tmp 38)]), .pure (some 10) false (.assign (.tmp 39))]
abbrev p_ref03_Root_9 : List Nat := [0, 1, 2, 3, 4, 5, 6, 7, 8, 9]
def s_ref03_Root_10 : List AStep := [.pure (some 40) false (.move (.tmp 10)), .pure (some 41) false (.move (.tmp 10)), .call (some 42) false ⟨.value (.func 58), #[.tmp 40, .tmp 41], #[84, 84]⟩, .pure (some 11) false (.assign (.tmp 42))]
abbrev p_ref03_Root_10 : List Nat := [0, 1, 2, 3]
def s_ref03_Root_11 : List AStep := [.pure (some 43) false (.move (.tmp 1)), .pure (some 44) false (.binOp .eql 3 (.tmp 43) (.const (.int .i64 3)) 3)]
abbrev p_ref03_Root_11 : List Nat := [0, 1]
def s_ref03_Root_12 : List AStep := [.pure (some 45) false (.move (.tmp 11)), .pure (some 46) false (.move (.tmp 10)), .call (some 47) false ⟨.value (.func 58), #[.tmp 45, .tmp 46], #[84, 84]⟩, .pure (some 11) false (.assign (.tmp 47))]
abbrev p_ref03_Root_12 : List Nat := [0, 1, 2, 3]
def s_ref03_Root_13 : List AStep := [.pure (some 48) false (.move (.tmp 11)), .pure (some 49) false (.move (.tmp 6)), .call (some 50) false ⟨.value (.func 59), #[.tmp 48, .tmp 49], #[84, 84]⟩, .pure (some 51) false (.unOp .not 4 (.tmp 50))]
abbrev p_ref03_Root_13 : List Nat := [0, 1, 2, 3]
def s_ref03_Root_14 : List AStep := [.pure (some 52) false (.move (.tmp 9)), .pure (some 7) false (.assign (.tmp 52))]
abbrev p_ref03_Root_14 : List Nat := [0, 1]
def s_ref03_Root_7 : List AStep := [.pure (some 24) false (.move (.tmp 8)), .pure (some 25) false (.binOp .sub 3 (.tmp 24) (.const (.int .i64 1)) 3), .pure (some 8) false (.assign (.tmp 25))]
abbrev p_ref03_Root_7 : List Nat := [0, 1, 2]
def s_ref03_Root_15 : List AStep := [.pure (some 53) false (.move (.tmp 7)), .pure (some 54) false (.binOp .rem 24 (.tmp 53) (.const (.int .u64 4294967296)) 24), .pure (some 55) false (.convert 24 57 (.tmp 54)), .pure (some 4) false (.assign (.tmp 55))]
abbrev p_ref03_Root_15 : List Nat := [0, 1, 2, 3]

/-! erewhile/erewhileref03.turn -/
abbrev n_ref03_turn : Nat := 55
theorem func_ref03_turn : Try.prog.funcs[n_ref03_turn]? = some Try.f55 := Try.func55
theorem call_ref03_turn : ∀ args w, (callFunc n_ref03_turn args).run Try.prog w = .ok (.enter n_ref03_turn args) w := Try.call55
theorem nt_ref03_turn : Try.f55.ntmps = 15 := Try.ntmps55
theorem rs_ref03_turn : Try.f55.results.toList = [.tmp 4] := by rw [Try.results55]
def s_ref03_turn_0 : List AStep := [.pure (some 4) false (.assign (.const (.int .u32 0)))]
abbrev p_ref03_turn_0 : List Nat := [0]
def s_ref03_turn_1 : List AStep := [.pure (some 5) false (.move (.tmp 0)), .pure (some 6) false (.move (.tmp 1)), .pure (some 7) false (.binOp .shl 57 (.const (.int .u32 1)) (.tmp 6) 54), .pure (some 8) false (.binOp .quo 57 (.tmp 5) (.tmp 7) 57), .pure (some 9) false (.move (.tmp 0)), .pure (some 10) false (.move (.tmp 1)), .pure (some 11) false (.binOp .sub 54 (.const (.int .u64 32)) (.tmp 10) 54), .pure (some 12) false (.binOp .shl 57 (.const (.int .u32 1)) (.tmp 11) 54), .pure (some 13) false (.binOp .mul 57 (.tmp 9) (.tmp 12) 57), .pure (some 14) false (.binOp .add 57 (.tmp 8) (.tmp 13) 57), .pure (some 4) false (.assign (.tmp 14))]
abbrev p_ref03_turn_1 : List Nat := [0, 1, 2, 3, 4, 5, 6, 7, 8, 9, 10]

/-! erewhile/erewhileref03.Rounds -/
abbrev n_ref03_Rounds : Nat := 56
theorem func_ref03_Rounds : Try.prog.funcs[n_ref03_Rounds]? = some Try.f56 := Try.func56
theorem call_ref03_Rounds : ∀ args w, (callFunc n_ref03_Rounds args).run Try.prog w = .ok (.enter n_ref03_Rounds args) w := Try.call56
theorem nt_ref03_Rounds : Try.f56.ntmps = 18 := Try.ntmps56
theorem rs_ref03_Rounds : Try.f56.results.toList = [.cell 0 70] := by rw [Try.results56]
def s_ref03_Rounds_0 : List AStep := [.eff (some 0) (.alloc 70)]
abbrev p_ref03_Rounds_0 : List Nat := [0]
def s_ref03_Rounds_1 : List AStep := [.pure (some 4) false (.build 70 #[]), .eff (some 1) (.alloc 70), .eff none (.store 70 (.tmp 1) (.tmp 4))]
abbrev p_ref03_Rounds_1 : List Nat := [0, 1, 2]
def s_ref03_Rounds_2 : List AStep := [.call (some 5) false ⟨.value (.func 53), #[.const (.int .i64 64)], #[3]⟩, .pure (some 2) false (.assign (.tmp 5))]
abbrev p_ref03_Rounds_2 : List Nat := [0, 1]
def s_ref03_Rounds_3 : List AStep := [.pure (some 3) false (.assign (.const (.int .i64 0)))]
abbrev p_ref03_Rounds_3 : List Nat := [0]
def s_ref03_Rounds_4 : List AStep := [.pure (some 6) false (.move (.tmp 3)), .pure (some 7) false (.binOp .lss 3 (.tmp 6) (.const (.int .i64 64)) 3)]
abbrev p_ref03_Rounds_4 : List Nat := [0, 1]
def s_ref03_Rounds_6 : List AStep := [.pure (some 10) false (.move (.tmp 3)), .pure (some 11) false (.move (.tmp 2)), .pure (some 12) false (.move (.tmp 3)), .pure (some 13) false (.indexAddr 79 (.tmp 11) (.tmp 12)), .read (some 14) false (.load 3 (.tmp 13)), .call (some 15) false ⟨.value (.func 54), #[.tmp 14, .const (.int .i64 3)], #[3, 3]⟩, .pure (some 16) false (.indexAddr 70 (.tmp 1) (.tmp 10)), .eff none (.store 57 (.tmp 16) (.tmp 15))]
abbrev p_ref03_Rounds_6 : List Nat := [0, 1, 2, 3, 4, 5, 6, 7]
def s_ref03_Rounds_5 : List AStep := [.pure (some 8) false (.move (.tmp 3)), .pure (some 9) false (.binOp .add 3 (.tmp 8) (.const (.int .i64 1)) 3), .pure (some 3) false (.assign (.tmp 9))]
abbrev p_ref03_Rounds_5 : List Nat := [0, 1, 2]
def s_ref03_Rounds_7 : List AStep := [.read (some 17) false (.load 70 (.tmp 1)), .eff none (.store 70 (.tmp 0) (.tmp 17))]
abbrev p_ref03_Rounds_7 : List Nat := [0, 1]

/-! erewhile/erewhileref03.Prime -/
abbrev n_ref03_Prime : Nat := 57
theorem func_ref03_Prime : Try.prog.funcs[n_ref03_Prime]? = some Try.f57 := Try.func57
theorem call_ref03_Prime : ∀ args w, (callFunc n_ref03_Prime args).run Try.prog w = .ok (.enter n_ref03_Prime args) w := Try.call57
theorem nt_ref03_Prime : Try.f57.ntmps = 15 := Try.ntmps57
theorem rs_ref03_Prime : Try.f57.results.toList = [.tmp 2] := by rw [Try.results57]
def s_ref03_Prime_0 : List AStep := [.pure (some 2) false (.assign (.const (.bool false)))]
abbrev p_ref03_Prime_0 : List Nat := [0]
def s_ref03_Prime_1 : List AStep := [.pure (some 3) false (.assign (.const (.int .i64 2)))]
abbrev p_ref03_Prime_1 : List Nat := [0]
def s_ref03_Prime_2 : List AStep := [.pure (some 4) false (.move (.tmp 3)), .pure (some 5) false (.move (.tmp 0)), .pure (some 6) false (.binOp .lss 3 (.tmp 4) (.tmp 5) 3)]
abbrev p_ref03_Prime_2 : List Nat := [0, 1, 2]
def s_ref03_Prime_4 : List AStep := [.pure (some 9) false (.move (.tmp 0)), .pure (some 10) false (.move (.tmp 3)), .pure (some 11) false (.binOp .rem 3 (.tmp 9) (.tmp 10) 3), .pure (some 12) false (.binOp .eql 3 (.tmp 11) (.const (.int .i64 0)) 3)]
abbrev p_ref03_Prime_4 : List Nat := [0, 1, 2, 3]
def s_ref03_Prime_5 : List AStep := [.pure (some 2) false (.assign (.const (.bool false)))]
abbrev p_ref03_Prime_5 : List Nat := [0]
def s_ref03_Prime_3 : List AStep := [.pure (some 7) false (.move (.tmp 3)), .pure (some 8) false (.binOp .add 3 (.tmp 7) (.const (.int .i64 1)) 3), .pure (some 3) false (.assign (.tmp 8))]
abbrev p_ref03_Prime_3 : List Nat := [0, 1, 2]
def s_ref03_Prime_6 : List AStep := [.pure (some 13) false (.move (.tmp 0)), .pure (some 14) false (.binOp .gtr 3 (.tmp 13) (.const (.int .i64 1)) 3), .pure (some 2) false (.assign (.tmp 14))]
abbrev p_ref03_Prime_6 : List Nat := [0, 1, 2]

/-! erewhile/erewhileref03.times -/
abbrev n_ref03_times : Nat := 58
theorem func_ref03_times : Try.prog.funcs[n_ref03_times]? = some Try.f58 := Try.func58
theorem call_ref03_times : ∀ args w, (callFunc n_ref03_times args).run Try.prog w = .ok (.enter n_ref03_times args) w := Try.call58
theorem nt_ref03_times : Try.f58.ntmps = 63 := Try.ntmps58
theorem rs_ref03_times : Try.f58.results.toList = [.tmp 4] := by rw [Try.results58]
def s_ref03_times_0 : List AStep := [.pure (some 4) false (.assign (.const (.slice none 0 0)))]
abbrev p_ref03_times_0 : List Nat := [0]
def s_ref03_times_1 : List AStep := [.pure (some 10) false (.move (.tmp 0)), .pure (some 11) false (.call (.mk (.builtin .len) #[.tmp 10] #[84])), .pure (some 12) false (.move (.tmp 1)), .pure (some 13) false (.call (.mk (.builtin .len) #[.tmp 12] #[84])), .pure (some 14) false (.binOp .add 3 (.tmp 11) (.tmp 13) 3), .eff (some 15) (.makeSlice 84 (.tmp 14) (.tmp 14)), .pure (some 5) false (.assign (.tmp 15))]
abbrev p_ref03_times_1 : List Nat := [0, 1, 2, 3, 4, 5, 6]
def s_ref03_times_2 : List AStep := [.pure (some 6) false (.assign (.const (.int .i64 0)))]
abbrev p_ref03_times_2 : List Nat := [0]
def s_ref03_times_3 : List AStep := [.pure (some 16) false (.move (.tmp 6)), .pure (some 17) false (.move (.tmp 0)), .pure (some 18) false (.call (.mk (.builtin .len) #[.tmp 17] #[84])), .pure (some 19) false (.binOp .lss 3 (.tmp 16) (.tmp 18) 3)]
abbrev p_ref03_times_3 : List Nat := [0, 1, 2, 3]
def s_ref03_times_5 : List AStep := [.pure (some 7) false (.assign (.const (.int .u64 0)))]
abbrev p_ref03_times_5 : List Nat := [0]
def s_ref03_times_6 : List AStep := [.pure (some 8) false (.assign (.const (.int .i64 0)))]
abbrev p_ref03_times_6 : List Nat := [0]
def s_ref03_times_7 : List AStep := [.pure (some 22) false (.move (.tmp 8)), .pure (some 23) false (.move (.tmp 1)), .pure (some 24) false (.call (.mk (.builtin .len) #[.tmp 23] #[84])), .pure (some 25) false (.binOp .lss 3 (.tmp 22) (.tmp 24) 3)]
abbrev p_ref03_times_7 : List Nat := [0, 1, 2, 3]
def s_ref03_times_9 : SP := (.one (.pure (some 28) false (.move (.tmp 5))) (.one (.pure (some 29) false (.move (.tmp 6))) (.one (.pure (some 30) false (.move (.tmp 8))) (.one (.pure (some 31) false (.binOp .add 3 (.tmp 29) (.tmp 30) 3)) (.one (.pure (some 32) false (.indexAddr 84 (.tmp 28) (.tmp 31))) (.one (.pure (some 34) false (.move (.tmp 0))) (.one (.pure (some 35) false (.move (.tmp 6))) (.one (.pure (some 36) false (.indexAddr 84 (.tmp 34) (.tmp 35))) (.one (.pure (some 38) false (.move (.tmp 1))) (.one (.pure (some 39) false (.move (.tmp 8))) (.one (.pure (some 40) false (.indexAddr 84 (.tmp 38) (.tmp 39))) (.one (.pure (some 44) false (.move (.tmp 7))) (.one (.read (some 33) false (.load 24 (.tmp 32))) (.one (.read (some 37) false (.load 24 (.tmp 36))) (.one (.read (some 41) false (.load 24 (.tmp 40))) (.one (.pure (some 42) false (.binOp .mul 24 (.tmp 37) (.tmp 41) 24)) (.one (.pure (some 43) false (.binOp .add 24 (.tmp 33) (.tmp 42) 24)) (.one (.pure (some 45) false (.binOp .add 24 (.tmp 43) (.tmp 44) 24)) (.one (.pure (some 9) false (.assign (.tmp 45))) .done)))))))))))))))))))
abbrev p_ref03_times_9 : PC := (.calm 0 426032 (.calm 1 426040 (.calm 2 426040 (.calm 3 426032 (.calm 4 426016 (.calm 6 443136 (.calm 7 443136 (.calm 8 442880 (.calm 10 454656 (.calm 11 454656 (.calm 12 450560 (.calm 16 393216 (.calm 5 425984 (.calm 9 442368 (.calm 13 442368 (.calm 14 425984 (.calm 15 393216 (.calm 17 262144 (.calm 18 0 .done)))))))))))))))))))
abbrev g_ref03_times_9 : List Dg := [⟨0, 32, 268435456, .pure, true⟩, ⟨0, 64, 536870912, .pure, true⟩, ⟨0, 256, 1073741824, .pure, true⟩, ⟨6, 1610612736, 2147483648, .pure, true⟩, ⟨9, 2415919104, 4294967296, .pure, true⟩, ⟨16, 4294967296, 8589934592, .read, true⟩, ⟨0, 1, 17179869184, .pure, true⟩, ⟨0, 64, 34359738368, .pure, true⟩, ⟨192, 51539607552, 68719476736, .pure, true⟩, ⟨256, 68719476736, 137438953472, .read, true⟩, ⟨0, 2, 274877906944, .pure, true⟩, ⟨0, 256, 549755813888, .pure, true⟩, ⟨3072, 824633720832, 1099511627776, .pure, true⟩, ⟨4096, 1099511627776, 2199023255552, .read, true⟩, ⟨8704, 2336462209024, 4398046511104, .pure, true⟩, ⟨16416, 4406636445696, 8796093022208, .pure, true⟩, ⟨0, 128, 17592186044416, .pure, true⟩, ⟨98304, 26388279066624, 35184372088832, .pure, true⟩, ⟨262143, 35184372088832, 512, .pure, true⟩]
abbrev q_ref03_times_9 : List Nat := []
def s_ref03_times_10 : List AStep := [.pure (some 46) false (.move (.tmp 5)), .pure (some 47) false (.move (.tmp 6)), .pure (some 48) false (.move (.tmp 8)), .pure (some 49) false (.binOp .add 3 (.tmp 47) (.tmp 48) 3), .pure (some 50) false (.move (.tmp 9)), .pure (some 51) false (.binOp .rem 24 (.tmp 50) (.const (.int .u64 65536)) 24), .pure (some 52) false (.indexAddr 84 (.tmp 46) (.tmp 49)), .eff none (.store 24 (.tmp 52) (.tmp 51))]
abbrev p_ref03_times_10 : List Nat := [0, 1, 2, 3, 4, 5, 6, 7]
def s_ref03_times_11 : List AStep := [.pure (some 53) false (.move (.tmp 9)), .pure (some 54) false (.binOp .quo 24 (.tmp 53) (.const (.int .u64 65536)) 24), .pure (some 7) false (.assign (.tmp 54))]
abbrev p_ref03_times_11 : List Nat := [0, 1, 2]
def s_ref03_times_8 : List AStep := [.pure (some 26) false (.move (.tmp 8)), .pure (some 27) false (.binOp .add 3 (.tmp 26) (.const (.int .i64 1)) 3), .pure (some 8) false (.assign (.tmp 27))]
abbrev p_ref03_times_8 : List Nat := [0, 1, 2]
def s_ref03_times_12 : List AStep := [.pure (some 55) false (.move (.tmp 5)), .pure (some 56) false (.move (.tmp 6)), .pure (some 57) false (.move (.tmp 1)), .pure (some 58) false (.call (.mk (.builtin .len) #[.tmp 57] #[84])), .pure (some 59) false (.binOp .add 3 (.tmp 56) (.tmp 58) 3), .pure (some 60) false (.move (.tmp 7)), .pure (some 61) false (.indexAddr 84 (.tmp 55) (.tmp 59)), .eff none (.store 24 (.tmp 61) (.tmp 60))]
abbrev p_ref03_times_12 : List Nat := [0, 1, 2, 3, 4, 5, 6, 7]
def s_ref03_times_4 : List AStep := [.pure (some 20) false (.move (.tmp 6)), .pure (some 21) false (.binOp .add 3 (.tmp 20) (.const (.int .i64 1)) 3), .pure (some 6) false (.assign (.tmp 21))]
abbrev p_ref03_times_4 : List Nat := [0, 1, 2]
def s_ref03_times_13 : List AStep := [.pure (some 62) false (.move (.tmp 5)), .pure (some 4) false (.assign (.tmp 62))]
abbrev p_ref03_times_13 : List Nat := [0, 1]

/-! erewhile/erewhileref03.above -/
abbrev n_ref03_above : Nat := 59
theorem func_ref03_above : Try.prog.funcs[n_ref03_above]? = some Try.f59 := Try.func59
theorem call_ref03_above : ∀ args w, (callFunc n_ref03_above args).run Try.prog w = .ok (.enter n_ref03_above args) w := Try.call59
theorem nt_ref03_above : Try.f59.ntmps = 45 := Try.ntmps59
theorem rs_ref03_above : Try.f59.results.toList = [.tmp 4] := by rw [Try.results59]
def s_ref03_above_0 : List AStep := [.pure (some 4) false (.assign (.const (.bool false)))]
abbrev p_ref03_above_0 : List Nat := [0]
def s_ref03_above_1 : List AStep := [.pure (some 9) false (.move (.tmp 0)), .pure (some 10) false (.call (.mk (.builtin .len) #[.tmp 9] #[84])), .pure (some 5) false (.assign (.tmp 10))]
abbrev p_ref03_above_1 : List Nat := [0, 1, 2]
def s_ref03_above_2 : List AStep := [.pure (some 11) false (.move (.tmp 1)), .pure (some 12) false (.call (.mk (.builtin .len) #[.tmp 11] #[84])), .pure (some 13) false (.move (.tmp 5)), .pure (some 14) false (.binOp .gtr 3 (.tmp 12) (.tmp 13) 3)]
abbrev p_ref03_above_2 : List Nat := [0, 1, 2, 3]
def s_ref03_above_3 : List AStep := [.pure (some 15) false (.move (.tmp 1)), .pure (some 16) false (.call (.mk (.builtin .len) #[.tmp 15] #[84])), .pure (some 5) false (.assign (.tmp 16))]
abbrev p_ref03_above_3 : List Nat := [0, 1, 2]
def s_ref03_above_4 : List AStep := [.pure (some 17) false (.move (.tmp 5)), .pure (some 18) false (.binOp .sub 3 (.tmp 17) (.const (.int .i64 1)) 3), .pure (some 6) false (.assign (.tmp 18))]
abbrev p_ref03_above_4 : List Nat := [0, 1, 2]
def s_ref03_above_5 : List AStep := [.pure (some 19) false (.move (.tmp 6)), .pure (some 20) false (.binOp .geq 3 (.tmp 19) (.const (.int .i64 0)) 3)]
abbrev p_ref03_above_5 : List Nat := [0, 1]
def s_ref03_above_7 : List AStep := [.pure (some 7) false (.assign (.const (.int .u64 0)))]
abbrev p_ref03_above_7 : List Nat := [0]
def s_ref03_above_8 : List AStep := [.pure (some 8) false (.assign (.const (.int .u64 0)))]
abbrev p_ref03_above_8 : List Nat := [0]
def s_ref03_above_9 : List AStep := [.pure (some 23) false (.move (.tmp 6)), .pure (some 24) false (.move (.tmp 0)), .pure (some 25) false (.call (.mk (.builtin .len) #[.tmp 24] #[84])), .pure (some 26) false (.binOp .lss 3 (.tmp 23) (.tmp 25) 3)]
abbrev p_ref03_above_9 : List Nat := [0, 1, 2, 3]
def s_ref03_above_10 : List AStep := [.pure (some 27) false (.move (.tmp 0)), .pure (some 28) false (.move (.tmp 6)), .pure (some 29) false (.indexAddr 84 (.tmp 27) (.tmp 28)), .read (some 30) false (.load 24 (.tmp 29)), .pure (some 7) false (.assign (.tmp 30))]
abbrev p_ref03_above_10 : List Nat := [0, 1, 2, 3, 4]
def s_ref03_above_11 : List AStep := [.pure (some 31) false (.move (.tmp 6)), .pure (some 32) false (.move (.tmp 1)), .pure (some 33) false (.call (.mk (.builtin .len) #[.tmp 32] #[84])), .pure (some 34) false (.binOp .lss 3 (.tmp 31) (.tmp 33) 3)]
abbrev p_ref03_above_11 : List Nat := [0, 1, 2, 3]
def s_ref03_above_12 : List AStep := [.pure (some 35) false (.move (.tmp 1)), .pure (some 36) false (.move (.tmp 6)), .pure (some 37) false (.indexAddr 84 (.tmp 35) (.tmp 36)), .read (some 38) false (.load 24 (.tmp 37)), .pure (some 8) false (.assign (.tmp 38))]
abbrev p_ref03_above_12 : List Nat := [0, 1, 2, 3, 4]
def s_ref03_above_13 : List AStep := [.pure (some 39) false (.move (.tmp 7)), .pure (some 40) false (.move (.tmp 8)), .pure (some 41) false (.binOp .neq 24 (.tmp 39) (.tmp 40) 24)]
abbrev p_ref03_above_13 : List Nat := [0, 1, 2]
def s_ref03_above_14 : List AStep := [.pure (some 42) false (.move (.tmp 7)), .pure (some 43) false (.move (.tmp 8)), .pure (some 44) false (.binOp .gtr 24 (.tmp 42) (.tmp 43) 24), .pure (some 4) false (.assign (.tmp 44))]
abbrev p_ref03_above_14 : List Nat := [0, 1, 2, 3]
def s_ref03_above_6 : List AStep := [.pure (some 21) false (.move (.tmp 6)), .pure (some 22) false (.binOp .sub 3 (.tmp 21) (.const (.int .i64 1)) 3), .pure (some 6) false (.assign (.tmp 22))]
abbrev p_ref03_above_6 : List Nat := [0, 1, 2]
def s_ref03_above_15 : List AStep := [.pure (some 4) false (.assign (.const (.bool false)))]
abbrev p_ref03_above_15 : List Nat := [0]

/-! (erewhile/erewhilelaw05.Lit).Pad -/
abbrev n_law05_Lit_Pad : Nat := 76
theorem func_law05_Lit_Pad : Try.prog.funcs[n_law05_Lit_Pad]? = some Try.f76 := Try.func76
theorem call_law05_Lit_Pad : ∀ args w, (callFunc n_law05_Lit_Pad args).run Try.prog w = .ok (.enter n_law05_Lit_Pad args) w := Try.call76
theorem nt_law05_Lit_Pad : Try.f76.ntmps = 36 := Try.ntmps76
theorem rs_law05_Lit_Pad : Try.f76.results.toList = [.cell 6 33] := by rw [Try.results76]
def s_law05_Lit_Pad_0 : List AStep := [.eff (some 3) (.box 37 (.tmp 0)), .eff (some 4) (.box 23 (.tmp 1)), .eff (some 6) (.alloc 33)]
abbrev p_law05_Lit_Pad_0 : List Nat := [0, 1, 2]
def s_law05_Lit_Pad_1 : List AStep := [.read (some 9) false (.load 23 (.tmp 4)), .pure (some 10) false (.move (.tmp 2)), .call (some 11) false ⟨.value (.func 14), #[.tmp 9, .tmp 10], #[23, 24]⟩, .eff (some 7) (.alloc 33), .eff none (.store 33 (.tmp 7) (.tmp 11))]
abbrev p_law05_Lit_Pad_1 : List Nat := [0, 1, 2, 3, 4]
def s_law05_Lit_Pad_2 : List AStep := [.read (some 12) false (.load 23 (.tmp 4)), .pure (some 13) false (.fieldAddr 37 (.tmp 3) 0), .read (some 14) false (.load 23 (.tmp 13)), .pure (some 15) false (.binOp .eql 23 (.tmp 12) (.tmp 14) 23), .pure (some 16) true (.move (.tmp 15)), .guard 16 true (.pure (some 17) false (.move (.tmp 2))), .guard 16 true (.pure (some 18) false (.fieldAddr 37 (.tmp 3) 1)), .guard 16 true (.read (some 19) false (.load 24 (.tmp 18))), .guard 16 true (.pure (some 20) false (.binOp .eql 24 (.tmp 17) (.tmp 19) 24)), .pure (some 21) false (.pick (.tmp 16) (.tmp 20) (.const (.bool false)))]
abbrev p_law05_Lit_Pad_2 : List Nat := [0, 1, 2, 3, 4, 5, 6, 7, 8, 9]
def s_law05_Lit_Pad_3 : List AStep := [.pure (some 8) false (.assign (.const (.int .i64 0)))]
abbrev p_law05_Lit_Pad_3 : List Nat := [0]
def s_law05_Lit_Pad_4 : List AStep := [.pure (some 22) false (.move (.tmp 8)), .pure (some 23) false (.binOp .lss 3 (.tmp 22) (.const (.int .i64 32)) 3)]
abbrev p_law05_Lit_Pad_4 : List Nat := [0, 1]
def s_law05_Lit_Pad_6 : SP := (.one (.pure (some 26) false (.move (.tmp 8))) (.one (.pure (some 27) false (.indexAddr 33 (.tmp 7) (.tmp 26))) (.one (.pure (some 29) false (.move (.tmp 8))) (.one (.pure (some 30) false (.fieldAddr 37 (.tmp 3) 2)) (.one (.pure (some 31) false (.indexAddr 33 (.tmp 30) (.tmp 29))) (.one (.read (some 28) false (.load 5 (.tmp 27))) (.one (.read (some 32) false (.load 5 (.tmp 31))) (.one (.pure (some 33) false (.binOp .xor 5 (.tmp 28) (.tmp 32) 5)) (.one (.pure (some 34) false (.indexAddr 33 (.tmp 7) (.tmp 26))) (.one (.eff none (.store 5 (.tmp 34) (.tmp 33))) .done))))))))))
abbrev p_law05_Lit_Pad_6 : PC := (.calm 0 902 (.calm 1 900 (.calm 3 992 (.calm 4 992 (.calm 5 960 (.calm 2 896 (.calm 6 896 (.calm 7 768 (.calm 8 512 (.act 9 .done))))))))))
abbrev g_law05_Lit_Pad_6 : List Dg := [⟨0, 256, 67108864, .pure, true⟩, ⟨1, 67108992, 134217728, .pure, true⟩, ⟨2, 134217728, 268435456, .read, true⟩, ⟨0, 256, 536870912, .pure, true⟩, ⟨0, 8, 1073741824, .pure, true⟩, ⟨24, 1610612736, 2147483648, .pure, true⟩, ⟨32, 2147483648, 4294967296, .read, true⟩, ⟨68, 4563402752, 8589934592, .pure, true⟩, ⟨255, 67108992, 17179869184, .pure, true⟩, ⟨511, 25769803776, 0, .eff, false⟩]
abbrev q_law05_Lit_Pad_6 : List Nat := []
def s_law05_Lit_Pad_5 : List AStep := [.pure (some 24) false (.move (.tmp 8)), .pure (some 25) false (.binOp .add 3 (.tmp 24) (.const (.int .i64 1)) 3), .pure (some 8) false (.assign (.tmp 25))]
abbrev p_law05_Lit_Pad_5 : List Nat := [0, 1, 2]
def s_law05_Lit_Pad_7 : List AStep := [.read (some 35) false (.load 33 (.tmp 7)), .eff none (.store 33 (.tmp 6) (.tmp 35))]
abbrev p_law05_Lit_Pad_7 : List Nat := [0, 1]

end Go.Proofs.Ytbnjeafjnglldaa
