/- The names of the functions, the steps of their regions, and facts on types, printed by a program out of the loaded program. -/
import Derived.Test.YthbpflnbgcdmiaaSyB
import Derived.Test.YthbpflnbgcdmiaaProg
import Derived.KernelRfl
namespace Go.Proofs.Ythbpflnbgcdmiaa
open Go Go.Proofs.Ythbpflnbgcdmiaa.Sy
set_option linter.unusedVariables false

/-- The types. -/
theorem ty0 : Try.prog.underlying 3 = some (.int .i64) := Try.underlying3
theorem ty1 : Try.prog.underlying 4 = some (.bool) := Try.underlying4
theorem ty2 : Try.prog.underlying 5 = some (.int .u8) := Try.underlying5
theorem ty3 : Try.prog.underlying 23 = some (.array 32 5) := Try.underlying23
theorem ty4 : Try.prog.underlying 24 = some (.slice 34) := Try.underlying24
theorem ty5 : Try.prog.underlying 25 = some (.array 32 5) := Try.underlying25
theorem ty6 : Try.prog.underlying 27 = some (.pointer 60) := Try.underlying27
theorem ty7 : Try.prog.underlying 29 = some (.int .u64) := Try.underlying29
theorem ty8 : Try.prog.underlying 32 = some (.slice 69) := Try.underlying32
theorem ty9 : Try.prog.underlying 41 = some (.slice 29) := Try.underlying41
theorem ty10 : Try.prog.underlying 48 = some (.array 16 5) := Try.underlying48
theorem ty11 : Try.prog.underlying 50 = some (.slice 5) := Try.underlying50
theorem ty12 : Try.prog.underlying 52 = some (.pointer 3) := Try.underlying52
theorem ty13 : Try.prog.underlying 62 = some (.slice 25) := Try.underlying62
theorem ty14 : Try.prog.underlying 75 = some (.int .u64) := Try.underlying75
theorem ty15 : Try.prog.cellsOf 3 = 1 := by kernel_rfl
theorem ty16 : Try.prog.cellsOf 4 = 1 := by kernel_rfl
theorem ty17 : Try.prog.cellsOf 5 = 1 := by kernel_rfl
theorem ty18 : Try.prog.cellsOf 23 = 32 := by kernel_rfl
theorem ty19 : Try.prog.cellsOf 24 = 1 := by kernel_rfl
theorem ty20 : Try.prog.cellsOf 25 = 32 := by kernel_rfl
theorem ty21 : Try.prog.cellsOf 27 = 1 := by kernel_rfl
theorem ty22 : Try.prog.cellsOf 29 = 1 := by kernel_rfl
theorem ty23 : Try.prog.cellsOf 31 = 65 := by kernel_rfl
theorem ty24 : Try.prog.cellsOf 32 = 1 := by kernel_rfl
theorem ty25 : Try.prog.cellsOf 34 = 34 := by kernel_rfl
theorem ty26 : Try.prog.cellsOf 41 = 1 := by kernel_rfl
theorem ty27 : Try.prog.cellsOf 45 = 1 := by kernel_rfl
theorem ty28 : Try.prog.cellsOf 48 = 16 := by kernel_rfl
theorem ty29 : Try.prog.cellsOf 50 = 1 := by kernel_rfl
theorem ty30 : Try.prog.cellsOf 52 = 1 := by kernel_rfl
theorem ty31 : Try.prog.cellsOf 54 = 2 := by kernel_rfl
theorem ty32 : Try.prog.cellsOf 56 = 1 := by kernel_rfl
theorem ty33 : Try.prog.cellsOf 57 = 1 := by kernel_rfl
theorem ty34 : Try.prog.cellsOf 58 = 1 := by kernel_rfl
theorem ty35 : Try.prog.cellsOf 60 = 35 := by kernel_rfl
theorem ty36 : Try.prog.cellsOf 62 = 1 := by kernel_rfl
theorem ty37 : Try.prog.cellsOf 67 = 1 := by kernel_rfl
theorem ty38 : Try.prog.cellsOf 69 = 33 := by kernel_rfl
theorem ty39 : Try.prog.cellsOf 75 = 1 := by kernel_rfl
theorem ty40 : Try.prog.bytesOf 5 = 1 := by kernel_rfl
theorem ty41 : Try.prog.bytesOf 25 = 32 := by kernel_rfl
theorem ty42 : Try.prog.bytesOf 29 = 8 := by kernel_rfl
theorem ty43 : zeroCellsOf Try.prog 3 = some (#[.int .i64 0]) := by kernel_rfl
theorem ty44 : zeroCellsOf Try.prog 4 = some #[.bool false] := by kernel_rfl
theorem ty45 : zeroCellsOf Try.prog 5 = some (#[.int .u8 0]) := by kernel_rfl
theorem ty46 : zeroCellsOf Try.prog 23 = some (Array.replicate 32 (.int .u8 0)) := by kernel_rfl
theorem ty47 : Try.prog.eqGuardType Try.prog.depth 23 = false := by kernel_rfl
theorem ty48 : zeroCellsOf Try.prog 24 = some #[.slice none 0 0] := by kernel_rfl
theorem ty49 : zeroCellsOf Try.prog 25 = some (Array.replicate 32 (.int .u8 0)) := by kernel_rfl
theorem ty50 : Try.prog.eqGuardType Try.prog.depth 25 = false := by kernel_rfl
theorem ty51 : zeroCellsOf Try.prog 27 = some #[.pointer none] := by kernel_rfl
theorem ty52 : zeroCellsOf Try.prog 29 = some (#[.int .u64 0]) := by kernel_rfl
theorem ty53 : zeroCellsOf Try.prog 32 = some #[.slice none 0 0] := by kernel_rfl
theorem ty54 : zeroCellsOf Try.prog 41 = some #[.slice none 0 0] := by kernel_rfl
theorem ty55 : zeroCellsOf Try.prog 48 = some (Array.replicate 16 (.int .u8 0)) := by kernel_rfl
theorem ty56 : Try.prog.eqGuardType Try.prog.depth 48 = false := by kernel_rfl
theorem ty57 : zeroCellsOf Try.prog 50 = some #[.slice none 0 0] := by kernel_rfl
theorem ty58 : zeroCellsOf Try.prog 52 = some #[.pointer none] := by kernel_rfl
theorem ty59 : zeroCellsOf Try.prog 62 = some #[.slice none 0 0] := by kernel_rfl
theorem ty60 : zeroCellsOf Try.prog 75 = some (#[.int .u64 0]) := by kernel_rfl
theorem ty : (Try.prog.underlying 3 = some (.int .i64)) ∧ (Try.prog.underlying 4 = some (.bool)) ∧ (Try.prog.underlying 5 = some (.int .u8)) ∧ (Try.prog.underlying 23 = some (.array 32 5)) ∧ (Try.prog.underlying 24 = some (.slice 34)) ∧ (Try.prog.underlying 25 = some (.array 32 5)) ∧ (Try.prog.underlying 27 = some (.pointer 60)) ∧ (Try.prog.underlying 29 = some (.int .u64)) ∧ (Try.prog.underlying 32 = some (.slice 69)) ∧ (Try.prog.underlying 41 = some (.slice 29)) ∧ (Try.prog.underlying 48 = some (.array 16 5)) ∧ (Try.prog.underlying 50 = some (.slice 5)) ∧ (Try.prog.underlying 52 = some (.pointer 3)) ∧ (Try.prog.underlying 62 = some (.slice 25)) ∧ (Try.prog.underlying 75 = some (.int .u64)) ∧ (Try.prog.cellsOf 3 = 1) ∧ (Try.prog.cellsOf 4 = 1) ∧ (Try.prog.cellsOf 5 = 1) ∧ (Try.prog.cellsOf 23 = 32) ∧ (Try.prog.cellsOf 24 = 1) ∧ (Try.prog.cellsOf 25 = 32) ∧ (Try.prog.cellsOf 27 = 1) ∧ (Try.prog.cellsOf 29 = 1) ∧ (Try.prog.cellsOf 31 = 65) ∧ (Try.prog.cellsOf 32 = 1) ∧ (Try.prog.cellsOf 34 = 34) ∧ (Try.prog.cellsOf 41 = 1) ∧ (Try.prog.cellsOf 45 = 1) ∧ (Try.prog.cellsOf 48 = 16) ∧ (Try.prog.cellsOf 50 = 1) ∧ (Try.prog.cellsOf 52 = 1) ∧ (Try.prog.cellsOf 54 = 2) ∧ (Try.prog.cellsOf 56 = 1) ∧ (Try.prog.cellsOf 57 = 1) ∧ (Try.prog.cellsOf 58 = 1) ∧ (Try.prog.cellsOf 60 = 35) ∧ (Try.prog.cellsOf 62 = 1) ∧ (Try.prog.cellsOf 67 = 1) ∧ (Try.prog.cellsOf 69 = 33) ∧ (Try.prog.cellsOf 75 = 1) ∧ (Try.prog.bytesOf 5 = 1) ∧ (Try.prog.bytesOf 25 = 32) ∧ (Try.prog.bytesOf 29 = 8) ∧ (zeroCellsOf Try.prog 3 = some (#[.int .i64 0])) ∧ (zeroCellsOf Try.prog 4 = some #[.bool false]) ∧ (zeroCellsOf Try.prog 5 = some (#[.int .u8 0])) ∧ (zeroCellsOf Try.prog 23 = some (Array.replicate 32 (.int .u8 0))) ∧ (Try.prog.eqGuardType Try.prog.depth 23 = false) ∧ (zeroCellsOf Try.prog 24 = some #[.slice none 0 0]) ∧ (zeroCellsOf Try.prog 25 = some (Array.replicate 32 (.int .u8 0))) ∧ (Try.prog.eqGuardType Try.prog.depth 25 = false) ∧ (zeroCellsOf Try.prog 27 = some #[.pointer none]) ∧ (zeroCellsOf Try.prog 29 = some (#[.int .u64 0])) ∧ (zeroCellsOf Try.prog 32 = some #[.slice none 0 0]) ∧ (zeroCellsOf Try.prog 41 = some #[.slice none 0 0]) ∧ (zeroCellsOf Try.prog 48 = some (Array.replicate 16 (.int .u8 0))) ∧ (Try.prog.eqGuardType Try.prog.depth 48 = false) ∧ (zeroCellsOf Try.prog 50 = some #[.slice none 0 0]) ∧ (zeroCellsOf Try.prog 52 = some #[.pointer none]) ∧ (zeroCellsOf Try.prog 62 = some #[.slice none 0 0]) ∧ (zeroCellsOf Try.prog 75 = some (#[.int .u64 0])) := ⟨ty0, ty1, ty2, ty3, ty4, ty5, ty6, ty7, ty8, ty9, ty10, ty11, ty12, ty13, ty14, ty15, ty16, ty17, ty18, ty19, ty20, ty21, ty22, ty23, ty24, ty25, ty26, ty27, ty28, ty29, ty30, ty31, ty32, ty33, ty34, ty35, ty36, ty37, ty38, ty39, ty40, ty41, ty42, ty43, ty44, ty45, ty46, ty47, ty48, ty49, ty50, ty51, ty52, ty53, ty54, ty55, ty56, ty57, ty58, ty59, ty60⟩
theorem ui_31 : type_of% Try.underlying31 := Try.underlying31
theorem ui_45 : type_of% Try.underlying45 := Try.underlying45
theorem ui_54 : type_of% Try.underlying54 := Try.underlying54
theorem ui_56 : type_of% Try.underlying56 := Try.underlying56
theorem ui_57 : type_of% Try.underlying57 := Try.underlying57
theorem ui_58 : type_of% Try.underlying58 := Try.underlying58
theorem ui_67 : type_of% Try.underlying67 := Try.underlying67
theorem ui_69 : type_of% Try.underlying69 := Try.underlying69
theorem zr0 {ι : Type} : (zrow Try.prog 3 : Option (Row ι)) = some (.ints .i64 (List.replicate 1 0)) := by kernel_rfl
theorem zr1 {ι : Type} : (zrow Try.prog 5 : Option (Row ι)) = some (.ints .u8 (List.replicate 1 0)) := by kernel_rfl
theorem zr2 {ι : Type} : (zrow Try.prog 23 : Option (Row ι)) = some (.ints .u8 (List.replicate 32 0)) := by kernel_rfl
theorem zr3 {ι : Type} : (zrow Try.prog 25 : Option (Row ι)) = some (.ints .u8 (List.replicate 32 0)) := by kernel_rfl
theorem zr4 {ι : Type} : (zrow Try.prog 29 : Option (Row ι)) = some (.ints .u64 (List.replicate 1 0)) := by kernel_rfl
theorem zr5 {ι : Type} : (zrow Try.prog 48 : Option (Row ι)) = some (.ints .u8 (List.replicate 16 0)) := by kernel_rfl
theorem zr6 {ι : Type} : (zrow Try.prog 75 : Option (Row ι)) = some (.ints .u64 (List.replicate 1 0)) := by kernel_rfl
theorem zr7 {ι : Type} : (zeroAV Try.prog 25 : Option (AV ι)) = some (.ints .u8 (List.replicate 32 0)) := by kernel_rfl
theorem zr8 {ι : Type} : (zeroAV Try.prog 48 : Option (AV ι)) = some (.ints .u8 (List.replicate 16 0)) := by kernel_rfl
theorem zr9 {ι : Type} : (zeroAV Try.prog 41 : Option (AV ι)) = some (.nilslice) := by kernel_rfl
theorem zr {ι : Type} : ((zrow Try.prog 3 : Option (Row ι)) = some (.ints .i64 (List.replicate 1 0))) ∧ ((zrow Try.prog 5 : Option (Row ι)) = some (.ints .u8 (List.replicate 1 0))) ∧ ((zrow Try.prog 23 : Option (Row ι)) = some (.ints .u8 (List.replicate 32 0))) ∧ ((zrow Try.prog 25 : Option (Row ι)) = some (.ints .u8 (List.replicate 32 0))) ∧ ((zrow Try.prog 29 : Option (Row ι)) = some (.ints .u64 (List.replicate 1 0))) ∧ ((zrow Try.prog 48 : Option (Row ι)) = some (.ints .u8 (List.replicate 16 0))) ∧ ((zrow Try.prog 75 : Option (Row ι)) = some (.ints .u64 (List.replicate 1 0))) ∧ ((zeroAV Try.prog 25 : Option (AV ι)) = some (.ints .u8 (List.replicate 32 0))) ∧ ((zeroAV Try.prog 48 : Option (AV ι)) = some (.ints .u8 (List.replicate 16 0))) ∧ ((zeroAV Try.prog 41 : Option (AV ι)) = some (.nilslice)) := ⟨zr0, zr1, zr2, zr3, zr4, zr5, zr6, zr7, zr8, zr9⟩
abbrev fs_31 : Array Field := #[{ name := "At", type := 23, offset := 0, embedded := false, tag := "", pkgPath := "", byteOffset := 0 }, { name := "N", type := 29, offset := 32, embedded := false, tag := "", pkgPath := "", byteOffset := 32 }, { name := "Off", type := 25, offset := 33, embedded := false, tag := "", pkgPath := "", byteOffset := 40 }]
theorem us_31 : Try.prog.underlying 31 = some (.struct fs_31) := Try.underlying31
theorem fa_31_0 {ι : Type} : ∀ (id : ι) (off : Nat) (C : AV ι → Prop), fieldAddrC Try.prog 31 (.ptr id off) 0 C = C (.ptr id (off + 0)) := fun id off C => by
  simp only [fieldAddrC, us_31]; exact propext ⟨fun h => h.2.2, fun h => ⟨by kernel_rfl, by decide +kernel, h⟩⟩
theorem bw_31_0 {ι : Type} : ∀ (v : List Int) (r : List (Nat × AV ι)) (l : List (AV ι)) (C : List (AV ι) → Prop), buildCells Try.prog fs_31 ((0, .ints .u8 v) :: r) l C = (32 = v.length ∧ 0 + v.length ≤ l.length ∧ buildCells Try.prog fs_31 r (Sy.splice l 0 (flatI .u8 v)) C) := fun v r l C => by
  have hf : fs_31[0]? = some { name := "At", type := 23, offset := 0, embedded := false, tag := "", pkgPath := "", byteOffset := 0 } := rfl
  have ha : isAggT Try.prog 23 = true := by kernel_rfl
  have hc : Try.prog.cellsOf 23 = 32 := by kernel_rfl
  simp only [buildCells, hf, ha, wideL, hc, flatI_len]
theorem fa_31_1 {ι : Type} : ∀ (id : ι) (off : Nat) (C : AV ι → Prop), fieldAddrC Try.prog 31 (.ptr id off) 1 C = C (.ptr id (off + 32)) := fun id off C => by
  simp only [fieldAddrC, us_31]; exact propext ⟨fun h => h.2.2, fun h => ⟨by kernel_rfl, by decide +kernel, h⟩⟩
theorem fv_31_1 {ι : Type} : ∀ (l : List (AV ι)) (C : AV ι → Prop), fieldC Try.prog 31 (.agg l) 1 C = (match l[32]? with | some v => C v | none => False) := fun l C => by
  simp only [fieldC, us_31]; exact propext ⟨fun h => h.2.2, fun h => ⟨by kernel_rfl, by kernel_rfl, h⟩⟩
theorem bc_31_1 {ι : Type} : ∀ (v : AV ι) (r : List (Nat × AV ι)) (l : List (AV ι)) (C : List (AV ι) → Prop), buildCells Try.prog fs_31 ((1, v) :: r) l C = (scalar v = true ∧ 32 < l.length ∧ buildCells Try.prog fs_31 r (l.set 32 v) C) := fun v r l C => by
  have hf : fs_31[1]? = some { name := "N", type := 29, offset := 32, embedded := false, tag := "", pkgPath := "", byteOffset := 32 } := rfl
  have ha : isAggT Try.prog 29 = false := by kernel_rfl
  simp only [buildCells, hf, ha]; exact propext ⟨fun h => h.2.2, fun h => ⟨by kernel_rfl, by decide +kernel, h⟩⟩
theorem fa_31_2 {ι : Type} : ∀ (id : ι) (off : Nat) (C : AV ι → Prop), fieldAddrC Try.prog 31 (.ptr id off) 2 C = C (.ptr id (off + 33)) := fun id off C => by
  simp only [fieldAddrC, us_31]; exact propext ⟨fun h => h.2.2, fun h => ⟨by kernel_rfl, by decide +kernel, h⟩⟩
theorem bw_31_2 {ι : Type} : ∀ (v : List Int) (r : List (Nat × AV ι)) (l : List (AV ι)) (C : List (AV ι) → Prop), buildCells Try.prog fs_31 ((2, .ints .u8 v) :: r) l C = (32 = v.length ∧ 33 + v.length ≤ l.length ∧ buildCells Try.prog fs_31 r (Sy.splice l 33 (flatI .u8 v)) C) := fun v r l C => by
  have hf : fs_31[2]? = some { name := "Off", type := 25, offset := 33, embedded := false, tag := "", pkgPath := "", byteOffset := 40 } := rfl
  have ha : isAggT Try.prog 25 = true := by kernel_rfl
  have hc : Try.prog.cellsOf 25 = 32 := by kernel_rfl
  simp only [buildCells, hf, ha, wideL, hc, flatI_len]
theorem zc_31 : zeroCellsOf Try.prog 31 = some #[.int .u8 0, .int .u8 0, .int .u8 0, .int .u8 0, .int .u8 0, .int .u8 0, .int .u8 0, .int .u8 0, .int .u8 0, .int .u8 0, .int .u8 0, .int .u8 0, .int .u8 0, .int .u8 0, .int .u8 0, .int .u8 0, .int .u8 0, .int .u8 0, .int .u8 0, .int .u8 0, .int .u8 0, .int .u8 0, .int .u8 0, .int .u8 0, .int .u8 0, .int .u8 0, .int .u8 0, .int .u8 0, .int .u8 0, .int .u8 0, .int .u8 0, .int .u8 0, .int .u64 0, .int .u8 0, .int .u8 0, .int .u8 0, .int .u8 0, .int .u8 0, .int .u8 0, .int .u8 0, .int .u8 0, .int .u8 0, .int .u8 0, .int .u8 0, .int .u8 0, .int .u8 0, .int .u8 0, .int .u8 0, .int .u8 0, .int .u8 0, .int .u8 0, .int .u8 0, .int .u8 0, .int .u8 0, .int .u8 0, .int .u8 0, .int .u8 0, .int .u8 0, .int .u8 0, .int .u8 0, .int .u8 0, .int .u8 0, .int .u8 0, .int .u8 0, .int .u8 0] := by kernel_rfl
theorem bd_31 {ι : Type} : ∀ (r : List (Nat × AV ι)) (C : AV ι → Prop), buildC Try.prog 31 r C = buildCells Try.prog fs_31 r (flatI .u8 (List.replicate 32 0) ++ (.int .u64 0 :: (flatI .u8 (List.replicate 32 0)))) (fun l => C (.agg l)) := fun r C => by
  unfold buildC; rw [us_31]; simp only [zc_31]; exact propext ⟨fun h => h.2.2, fun h => ⟨by decide +kernel, by kernel_rfl, h⟩⟩
theorem zs_31 {ι : Type} : (zrow Try.prog 31 : Option (Row ι)) = some (.mixed (flatI .u8 (List.replicate 32 0) ++ (.int .u64 0 :: (flatI .u8 (List.replicate 32 0))))) := by kernel_rfl
abbrev fs_34 : Array Field := #[{ name := "Drop", type := 4, offset := 0, embedded := false, tag := "", pkgPath := "", byteOffset := 0 }, { name := "Num", type := 29, offset := 1, embedded := false, tag := "", pkgPath := "", byteOffset := 8 }, { name := "B", type := 25, offset := 2, embedded := false, tag := "", pkgPath := "", byteOffset := 16 }]
theorem us_34 : Try.prog.underlying 34 = some (.struct fs_34) := Try.underlying34
theorem fa_34_0 {ι : Type} : ∀ (id : ι) (off : Nat) (C : AV ι → Prop), fieldAddrC Try.prog 34 (.ptr id off) 0 C = C (.ptr id (off + 0)) := fun id off C => by
  simp only [fieldAddrC, us_34]; exact propext ⟨fun h => h.2.2, fun h => ⟨by kernel_rfl, by decide +kernel, h⟩⟩
theorem fv_34_0 {ι : Type} : ∀ (l : List (AV ι)) (C : AV ι → Prop), fieldC Try.prog 34 (.agg l) 0 C = (match l[0]? with | some v => C v | none => False) := fun l C => by
  simp only [fieldC, us_34]; exact propext ⟨fun h => h.2.2, fun h => ⟨by kernel_rfl, by kernel_rfl, h⟩⟩
theorem bc_34_0 {ι : Type} : ∀ (v : AV ι) (r : List (Nat × AV ι)) (l : List (AV ι)) (C : List (AV ι) → Prop), buildCells Try.prog fs_34 ((0, v) :: r) l C = (scalar v = true ∧ 0 < l.length ∧ buildCells Try.prog fs_34 r (l.set 0 v) C) := fun v r l C => by
  have hf : fs_34[0]? = some { name := "Drop", type := 4, offset := 0, embedded := false, tag := "", pkgPath := "", byteOffset := 0 } := rfl
  have ha : isAggT Try.prog 4 = false := by kernel_rfl
  simp only [buildCells, hf, ha]; exact propext ⟨fun h => h.2.2, fun h => ⟨by kernel_rfl, by decide +kernel, h⟩⟩
theorem fa_34_1 {ι : Type} : ∀ (id : ι) (off : Nat) (C : AV ι → Prop), fieldAddrC Try.prog 34 (.ptr id off) 1 C = C (.ptr id (off + 1)) := fun id off C => by
  simp only [fieldAddrC, us_34]; exact propext ⟨fun h => h.2.2, fun h => ⟨by kernel_rfl, by decide +kernel, h⟩⟩
theorem fv_34_1 {ι : Type} : ∀ (l : List (AV ι)) (C : AV ι → Prop), fieldC Try.prog 34 (.agg l) 1 C = (match l[1]? with | some v => C v | none => False) := fun l C => by
  simp only [fieldC, us_34]; exact propext ⟨fun h => h.2.2, fun h => ⟨by kernel_rfl, by kernel_rfl, h⟩⟩
theorem bc_34_1 {ι : Type} : ∀ (v : AV ι) (r : List (Nat × AV ι)) (l : List (AV ι)) (C : List (AV ι) → Prop), buildCells Try.prog fs_34 ((1, v) :: r) l C = (scalar v = true ∧ 1 < l.length ∧ buildCells Try.prog fs_34 r (l.set 1 v) C) := fun v r l C => by
  have hf : fs_34[1]? = some { name := "Num", type := 29, offset := 1, embedded := false, tag := "", pkgPath := "", byteOffset := 8 } := rfl
  have ha : isAggT Try.prog 29 = false := by kernel_rfl
  simp only [buildCells, hf, ha]; exact propext ⟨fun h => h.2.2, fun h => ⟨by kernel_rfl, by decide +kernel, h⟩⟩
theorem fa_34_2 {ι : Type} : ∀ (id : ι) (off : Nat) (C : AV ι → Prop), fieldAddrC Try.prog 34 (.ptr id off) 2 C = C (.ptr id (off + 2)) := fun id off C => by
  simp only [fieldAddrC, us_34]; exact propext ⟨fun h => h.2.2, fun h => ⟨by kernel_rfl, by decide +kernel, h⟩⟩
theorem bw_34_2 {ι : Type} : ∀ (v : List Int) (r : List (Nat × AV ι)) (l : List (AV ι)) (C : List (AV ι) → Prop), buildCells Try.prog fs_34 ((2, .ints .u8 v) :: r) l C = (32 = v.length ∧ 2 + v.length ≤ l.length ∧ buildCells Try.prog fs_34 r (Sy.splice l 2 (flatI .u8 v)) C) := fun v r l C => by
  have hf : fs_34[2]? = some { name := "B", type := 25, offset := 2, embedded := false, tag := "", pkgPath := "", byteOffset := 16 } := rfl
  have ha : isAggT Try.prog 25 = true := by kernel_rfl
  have hc : Try.prog.cellsOf 25 = 32 := by kernel_rfl
  simp only [buildCells, hf, ha, wideL, hc, flatI_len]
theorem zc_34 : zeroCellsOf Try.prog 34 = some #[.bool false, .int .u64 0, .int .u8 0, .int .u8 0, .int .u8 0, .int .u8 0, .int .u8 0, .int .u8 0, .int .u8 0, .int .u8 0, .int .u8 0, .int .u8 0, .int .u8 0, .int .u8 0, .int .u8 0, .int .u8 0, .int .u8 0, .int .u8 0, .int .u8 0, .int .u8 0, .int .u8 0, .int .u8 0, .int .u8 0, .int .u8 0, .int .u8 0, .int .u8 0, .int .u8 0, .int .u8 0, .int .u8 0, .int .u8 0, .int .u8 0, .int .u8 0, .int .u8 0, .int .u8 0] := by kernel_rfl
theorem bd_34 {ι : Type} : ∀ (r : List (Nat × AV ι)) (C : AV ι → Prop), buildC Try.prog 34 r C = buildCells Try.prog fs_34 r (.bool false :: (.int .u64 0 :: (flatI .u8 (List.replicate 32 0)))) (fun l => C (.agg l)) := fun r C => by
  unfold buildC; rw [us_34]; simp only [zc_34]; exact propext ⟨fun h => h.2.2, fun h => ⟨by decide +kernel, by kernel_rfl, h⟩⟩
theorem zs_34 {ι : Type} : (zrow Try.prog 34 : Option (Row ι)) = some (.mixed (.bool false :: (.int .u64 0 :: (flatI .u8 (List.replicate 32 0))))) := by kernel_rfl
abbrev fs_54 : Array Field := #[{ name := "Pads", type := 52, offset := 0, embedded := false, tag := "", pkgPath := "", byteOffset := 0 }, { name := "Others", type := 52, offset := 1, embedded := false, tag := "", pkgPath := "", byteOffset := 8 }]
theorem us_54 : Try.prog.underlying 54 = some (.struct fs_54) := Try.underlying54
theorem fa_54_0 {ι : Type} : ∀ (id : ι) (off : Nat) (C : AV ι → Prop), fieldAddrC Try.prog 54 (.ptr id off) 0 C = C (.ptr id (off + 0)) := fun id off C => by
  simp only [fieldAddrC, us_54]; exact propext ⟨fun h => h.2.2, fun h => ⟨by kernel_rfl, by decide +kernel, h⟩⟩
theorem fv_54_0 {ι : Type} : ∀ (l : List (AV ι)) (C : AV ι → Prop), fieldC Try.prog 54 (.agg l) 0 C = (match l[0]? with | some v => C v | none => False) := fun l C => by
  simp only [fieldC, us_54]; exact propext ⟨fun h => h.2.2, fun h => ⟨by kernel_rfl, by kernel_rfl, h⟩⟩
theorem bc_54_0 {ι : Type} : ∀ (v : AV ι) (r : List (Nat × AV ι)) (l : List (AV ι)) (C : List (AV ι) → Prop), buildCells Try.prog fs_54 ((0, v) :: r) l C = (scalar v = true ∧ 0 < l.length ∧ buildCells Try.prog fs_54 r (l.set 0 v) C) := fun v r l C => by
  have hf : fs_54[0]? = some { name := "Pads", type := 52, offset := 0, embedded := false, tag := "", pkgPath := "", byteOffset := 0 } := rfl
  have ha : isAggT Try.prog 52 = false := by kernel_rfl
  simp only [buildCells, hf, ha]; exact propext ⟨fun h => h.2.2, fun h => ⟨by kernel_rfl, by decide +kernel, h⟩⟩
theorem fa_54_1 {ι : Type} : ∀ (id : ι) (off : Nat) (C : AV ι → Prop), fieldAddrC Try.prog 54 (.ptr id off) 1 C = C (.ptr id (off + 1)) := fun id off C => by
  simp only [fieldAddrC, us_54]; exact propext ⟨fun h => h.2.2, fun h => ⟨by kernel_rfl, by decide +kernel, h⟩⟩
theorem fv_54_1 {ι : Type} : ∀ (l : List (AV ι)) (C : AV ι → Prop), fieldC Try.prog 54 (.agg l) 1 C = (match l[1]? with | some v => C v | none => False) := fun l C => by
  simp only [fieldC, us_54]; exact propext ⟨fun h => h.2.2, fun h => ⟨by kernel_rfl, by kernel_rfl, h⟩⟩
theorem bc_54_1 {ι : Type} : ∀ (v : AV ι) (r : List (Nat × AV ι)) (l : List (AV ι)) (C : List (AV ι) → Prop), buildCells Try.prog fs_54 ((1, v) :: r) l C = (scalar v = true ∧ 1 < l.length ∧ buildCells Try.prog fs_54 r (l.set 1 v) C) := fun v r l C => by
  have hf : fs_54[1]? = some { name := "Others", type := 52, offset := 1, embedded := false, tag := "", pkgPath := "", byteOffset := 8 } := rfl
  have ha : isAggT Try.prog 52 = false := by kernel_rfl
  simp only [buildCells, hf, ha]; exact propext ⟨fun h => h.2.2, fun h => ⟨by kernel_rfl, by decide +kernel, h⟩⟩
theorem zc_54 : zeroCellsOf Try.prog 54 = some #[.pointer none, .pointer none] := by kernel_rfl
theorem bd_54 {ι : Type} : ∀ (r : List (Nat × AV ι)) (C : AV ι → Prop), buildC Try.prog 54 r C = buildCells Try.prog fs_54 r [.nilptr, .nilptr] (fun l => C (.agg l)) := fun r C => by
  unfold buildC; rw [us_54]; simp only [zc_54]; exact propext ⟨fun h => h.2.2, fun h => ⟨by decide +kernel, by kernel_rfl, h⟩⟩
theorem zs_54 {ι : Type} : (zrow Try.prog 54 : Option (Row ι)) = some (.mixed [.nilptr, .nilptr]) := by kernel_rfl
abbrev fs_60 : Array Field := #[{ name := "c", type := 56, offset := 0, embedded := false, tag := "", pkgPath := "erewhile/finger", byteOffset := 0 }, { name := "k", type := 23, offset := 1, embedded := false, tag := "", pkgPath := "erewhile/finger", byteOffset := 16 }, { name := "of", type := 57, offset := 33, embedded := false, tag := "", pkgPath := "erewhile/finger", byteOffset := 48 }, { name := "all", type := 58, offset := 34, embedded := false, tag := "", pkgPath := "erewhile/finger", byteOffset := 56 }]
theorem us_60 : Try.prog.underlying 60 = some (.struct fs_60) := Try.underlying60
theorem fa_60_0 {ι : Type} : ∀ (id : ι) (off : Nat) (C : AV ι → Prop), fieldAddrC Try.prog 60 (.ptr id off) 0 C = C (.ptr id (off + 0)) := fun id off C => by
  simp only [fieldAddrC, us_60]; exact propext ⟨fun h => h.2.2, fun h => ⟨by kernel_rfl, by decide +kernel, h⟩⟩
theorem fv_60_0 {ι : Type} : ∀ (l : List (AV ι)) (C : AV ι → Prop), fieldC Try.prog 60 (.agg l) 0 C = (match l[0]? with | some v => C v | none => False) := fun l C => by
  simp only [fieldC, us_60]; exact propext ⟨fun h => h.2.2, fun h => ⟨by kernel_rfl, by kernel_rfl, h⟩⟩
theorem bc_60_0 {ι : Type} : ∀ (v : AV ι) (r : List (Nat × AV ι)) (l : List (AV ι)) (C : List (AV ι) → Prop), buildCells Try.prog fs_60 ((0, v) :: r) l C = (scalar v = true ∧ 0 < l.length ∧ buildCells Try.prog fs_60 r (l.set 0 v) C) := fun v r l C => by
  have hf : fs_60[0]? = some { name := "c", type := 56, offset := 0, embedded := false, tag := "", pkgPath := "erewhile/finger", byteOffset := 0 } := rfl
  have ha : isAggT Try.prog 56 = false := by kernel_rfl
  simp only [buildCells, hf, ha]; exact propext ⟨fun h => h.2.2, fun h => ⟨by kernel_rfl, by decide +kernel, h⟩⟩
theorem fa_60_1 {ι : Type} : ∀ (id : ι) (off : Nat) (C : AV ι → Prop), fieldAddrC Try.prog 60 (.ptr id off) 1 C = C (.ptr id (off + 1)) := fun id off C => by
  simp only [fieldAddrC, us_60]; exact propext ⟨fun h => h.2.2, fun h => ⟨by kernel_rfl, by decide +kernel, h⟩⟩
theorem bw_60_1 {ι : Type} : ∀ (v : List Int) (r : List (Nat × AV ι)) (l : List (AV ι)) (C : List (AV ι) → Prop), buildCells Try.prog fs_60 ((1, .ints .u8 v) :: r) l C = (32 = v.length ∧ 1 + v.length ≤ l.length ∧ buildCells Try.prog fs_60 r (Sy.splice l 1 (flatI .u8 v)) C) := fun v r l C => by
  have hf : fs_60[1]? = some { name := "k", type := 23, offset := 1, embedded := false, tag := "", pkgPath := "erewhile/finger", byteOffset := 16 } := rfl
  have ha : isAggT Try.prog 23 = true := by kernel_rfl
  have hc : Try.prog.cellsOf 23 = 32 := by kernel_rfl
  simp only [buildCells, hf, ha, wideL, hc, flatI_len]
theorem fa_60_2 {ι : Type} : ∀ (id : ι) (off : Nat) (C : AV ι → Prop), fieldAddrC Try.prog 60 (.ptr id off) 2 C = C (.ptr id (off + 33)) := fun id off C => by
  simp only [fieldAddrC, us_60]; exact propext ⟨fun h => h.2.2, fun h => ⟨by kernel_rfl, by decide +kernel, h⟩⟩
theorem fv_60_2 {ι : Type} : ∀ (l : List (AV ι)) (C : AV ι → Prop), fieldC Try.prog 60 (.agg l) 2 C = (match l[33]? with | some v => C v | none => False) := fun l C => by
  simp only [fieldC, us_60]; exact propext ⟨fun h => h.2.2, fun h => ⟨by kernel_rfl, by kernel_rfl, h⟩⟩
theorem bc_60_2 {ι : Type} : ∀ (v : AV ι) (r : List (Nat × AV ι)) (l : List (AV ι)) (C : List (AV ι) → Prop), buildCells Try.prog fs_60 ((2, v) :: r) l C = (scalar v = true ∧ 33 < l.length ∧ buildCells Try.prog fs_60 r (l.set 33 v) C) := fun v r l C => by
  have hf : fs_60[2]? = some { name := "of", type := 57, offset := 33, embedded := false, tag := "", pkgPath := "erewhile/finger", byteOffset := 48 } := rfl
  have ha : isAggT Try.prog 57 = false := by kernel_rfl
  simp only [buildCells, hf, ha]; exact propext ⟨fun h => h.2.2, fun h => ⟨by kernel_rfl, by decide +kernel, h⟩⟩
theorem fa_60_3 {ι : Type} : ∀ (id : ι) (off : Nat) (C : AV ι → Prop), fieldAddrC Try.prog 60 (.ptr id off) 3 C = C (.ptr id (off + 34)) := fun id off C => by
  simp only [fieldAddrC, us_60]; exact propext ⟨fun h => h.2.2, fun h => ⟨by kernel_rfl, by decide +kernel, h⟩⟩
theorem fv_60_3 {ι : Type} : ∀ (l : List (AV ι)) (C : AV ι → Prop), fieldC Try.prog 60 (.agg l) 3 C = (match l[34]? with | some v => C v | none => False) := fun l C => by
  simp only [fieldC, us_60]; exact propext ⟨fun h => h.2.2, fun h => ⟨by kernel_rfl, by kernel_rfl, h⟩⟩
theorem bc_60_3 {ι : Type} : ∀ (v : AV ι) (r : List (Nat × AV ι)) (l : List (AV ι)) (C : List (AV ι) → Prop), buildCells Try.prog fs_60 ((3, v) :: r) l C = (scalar v = true ∧ 34 < l.length ∧ buildCells Try.prog fs_60 r (l.set 34 v) C) := fun v r l C => by
  have hf : fs_60[3]? = some { name := "all", type := 58, offset := 34, embedded := false, tag := "", pkgPath := "erewhile/finger", byteOffset := 56 } := rfl
  have ha : isAggT Try.prog 58 = false := by kernel_rfl
  simp only [buildCells, hf, ha]; exact propext ⟨fun h => h.2.2, fun h => ⟨by kernel_rfl, by decide +kernel, h⟩⟩
theorem zc_60 : zeroCellsOf Try.prog 60 = some #[.nilIface, .int .u8 0, .int .u8 0, .int .u8 0, .int .u8 0, .int .u8 0, .int .u8 0, .int .u8 0, .int .u8 0, .int .u8 0, .int .u8 0, .int .u8 0, .int .u8 0, .int .u8 0, .int .u8 0, .int .u8 0, .int .u8 0, .int .u8 0, .int .u8 0, .int .u8 0, .int .u8 0, .int .u8 0, .int .u8 0, .int .u8 0, .int .u8 0, .int .u8 0, .int .u8 0, .int .u8 0, .int .u8 0, .int .u8 0, .int .u8 0, .int .u8 0, .int .u8 0, .map none, .map none] := by kernel_rfl
theorem bd_60 {ι : Type} : ∀ (r : List (Nat × AV ι)) (C : AV ι → Prop), buildC Try.prog 60 r C = buildCells Try.prog fs_60 r (.niliface :: (flatI .u8 (List.replicate 32 0) ++ (.nilmap :: (.nilmap :: [])))) (fun l => C (.agg l)) := fun r C => by
  unfold buildC; rw [us_60]; simp only [zc_60]; exact propext ⟨fun h => h.2.2, fun h => ⟨by decide +kernel, by kernel_rfl, h⟩⟩
theorem zs_60 {ι : Type} : (zrow Try.prog 60 : Option (Row ι)) = some (.mixed (.niliface :: (flatI .u8 (List.replicate 32 0) ++ (.nilmap :: (.nilmap :: []))))) := by kernel_rfl
abbrev fs_69 : Array Field := #[{ name := "Num", type := 29, offset := 0, embedded := false, tag := "", pkgPath := "", byteOffset := 0 }, { name := "B", type := 25, offset := 1, embedded := false, tag := "", pkgPath := "", byteOffset := 8 }]
theorem us_69 : Try.prog.underlying 69 = some (.struct fs_69) := Try.underlying69
theorem fa_69_0 {ι : Type} : ∀ (id : ι) (off : Nat) (C : AV ι → Prop), fieldAddrC Try.prog 69 (.ptr id off) 0 C = C (.ptr id (off + 0)) := fun id off C => by
  simp only [fieldAddrC, us_69]; exact propext ⟨fun h => h.2.2, fun h => ⟨by kernel_rfl, by decide +kernel, h⟩⟩
theorem fv_69_0 {ι : Type} : ∀ (l : List (AV ι)) (C : AV ι → Prop), fieldC Try.prog 69 (.agg l) 0 C = (match l[0]? with | some v => C v | none => False) := fun l C => by
  simp only [fieldC, us_69]; exact propext ⟨fun h => h.2.2, fun h => ⟨by kernel_rfl, by kernel_rfl, h⟩⟩
theorem bc_69_0 {ι : Type} : ∀ (v : AV ι) (r : List (Nat × AV ι)) (l : List (AV ι)) (C : List (AV ι) → Prop), buildCells Try.prog fs_69 ((0, v) :: r) l C = (scalar v = true ∧ 0 < l.length ∧ buildCells Try.prog fs_69 r (l.set 0 v) C) := fun v r l C => by
  have hf : fs_69[0]? = some { name := "Num", type := 29, offset := 0, embedded := false, tag := "", pkgPath := "", byteOffset := 0 } := rfl
  have ha : isAggT Try.prog 29 = false := by kernel_rfl
  simp only [buildCells, hf, ha]; exact propext ⟨fun h => h.2.2, fun h => ⟨by kernel_rfl, by decide +kernel, h⟩⟩
theorem fa_69_1 {ι : Type} : ∀ (id : ι) (off : Nat) (C : AV ι → Prop), fieldAddrC Try.prog 69 (.ptr id off) 1 C = C (.ptr id (off + 1)) := fun id off C => by
  simp only [fieldAddrC, us_69]; exact propext ⟨fun h => h.2.2, fun h => ⟨by kernel_rfl, by decide +kernel, h⟩⟩
theorem bw_69_1 {ι : Type} : ∀ (v : List Int) (r : List (Nat × AV ι)) (l : List (AV ι)) (C : List (AV ι) → Prop), buildCells Try.prog fs_69 ((1, .ints .u8 v) :: r) l C = (32 = v.length ∧ 1 + v.length ≤ l.length ∧ buildCells Try.prog fs_69 r (Sy.splice l 1 (flatI .u8 v)) C) := fun v r l C => by
  have hf : fs_69[1]? = some { name := "B", type := 25, offset := 1, embedded := false, tag := "", pkgPath := "", byteOffset := 8 } := rfl
  have ha : isAggT Try.prog 25 = true := by kernel_rfl
  have hc : Try.prog.cellsOf 25 = 32 := by kernel_rfl
  simp only [buildCells, hf, ha, wideL, hc, flatI_len]
theorem zc_69 : zeroCellsOf Try.prog 69 = some #[.int .u64 0, .int .u8 0, .int .u8 0, .int .u8 0, .int .u8 0, .int .u8 0, .int .u8 0, .int .u8 0, .int .u8 0, .int .u8 0, .int .u8 0, .int .u8 0, .int .u8 0, .int .u8 0, .int .u8 0, .int .u8 0, .int .u8 0, .int .u8 0, .int .u8 0, .int .u8 0, .int .u8 0, .int .u8 0, .int .u8 0, .int .u8 0, .int .u8 0, .int .u8 0, .int .u8 0, .int .u8 0, .int .u8 0, .int .u8 0, .int .u8 0, .int .u8 0, .int .u8 0] := by kernel_rfl
theorem bd_69 {ι : Type} : ∀ (r : List (Nat × AV ι)) (C : AV ι → Prop), buildC Try.prog 69 r C = buildCells Try.prog fs_69 r (.int .u64 0 :: (flatI .u8 (List.replicate 32 0))) (fun l => C (.agg l)) := fun r C => by
  unfold buildC; rw [us_69]; simp only [zc_69]; exact propext ⟨fun h => h.2.2, fun h => ⟨by decide +kernel, by kernel_rfl, h⟩⟩
theorem zs_69 {ι : Type} : (zrow Try.prog 69 : Option (Row ι)) = some (.mixed (.int .u64 0 :: (flatI .u8 (List.replicate 32 0)))) := by kernel_rfl
theorem ba_23 {ι : Type} : ∀ (r : List (Nat × AV ι)) (C : AV ι → Prop), buildC Try.prog 23 r C = buildInts .u8 r (List.replicate 32 0) (fun l => C (.ints .u8 l)) := fun r C => by
  unfold buildC; rw [Try.underlying23]; simp only [Try.underlying5]; exact propext ⟨fun h => h.2.2, fun h => ⟨by kernel_rfl, by kernel_rfl, h⟩⟩
theorem ba_25 {ι : Type} : ∀ (r : List (Nat × AV ι)) (C : AV ι → Prop), buildC Try.prog 25 r C = buildInts .u8 r (List.replicate 32 0) (fun l => C (.ints .u8 l)) := fun r C => by
  unfold buildC; rw [Try.underlying25]; simp only [Try.underlying5]; exact propext ⟨fun h => h.2.2, fun h => ⟨by kernel_rfl, by kernel_rfl, h⟩⟩
theorem ba_48 {ι : Type} : ∀ (r : List (Nat × AV ι)) (C : AV ι → Prop), buildC Try.prog 48 r C = buildInts .u8 r (List.replicate 16 0) (fun l => C (.ints .u8 l)) := fun r C => by
  unfold buildC; rw [Try.underlying48]; simp only [Try.underlying5]; exact propext ⟨fun h => h.2.2, fun h => ⟨by kernel_rfl, by kernel_rfl, h⟩⟩
theorem ko_29 {ι : Type} : ∀ n : Int, keyOk Try.prog 29 (.int .u64 n : AV ι) = True := fun n => eq_true Try.underlying29
theorem ko_48 {ι : Type} : ∀ l : List Int, keyOk Try.prog 48 (.ints .u8 l : AV ι) = (l.length = 16) := fun l => propext ⟨fun ⟨e, h, _⟩ => by rw [Try.underlying48] at h; simp only [Option.some.injEq, TypeDesc.array.injEq] at h; exact h.1.symm, fun h => ⟨5, by rw [h]; exact Try.underlying48, Try.underlying5, by kernel_rfl⟩⟩
theorem sui : (type_of% ui_31) ∧ (type_of% ui_45) ∧ (type_of% ui_54) ∧ (type_of% ui_56) ∧ (type_of% ui_57) ∧ (type_of% ui_58) ∧ (type_of% ui_67) ∧ (type_of% ui_69) := ⟨ui_31, ui_45, ui_54, ui_56, ui_57, ui_58, ui_67, ui_69⟩
theorem sty {ι : Type} : (type_of% (@fa_31_0 ι)) ∧ (type_of% (@bw_31_0 ι)) ∧ (type_of% (@fa_31_1 ι)) ∧ (type_of% (@fv_31_1 ι)) ∧ (type_of% (@bc_31_1 ι)) ∧ (type_of% (@fa_31_2 ι)) ∧ (type_of% (@bw_31_2 ι)) ∧ (type_of% (@bd_31 ι)) ∧ (type_of% (@zs_31 ι)) ∧ (type_of% (@fa_34_0 ι)) ∧ (type_of% (@fv_34_0 ι)) ∧ (type_of% (@bc_34_0 ι)) ∧ (type_of% (@fa_34_1 ι)) ∧ (type_of% (@fv_34_1 ι)) ∧ (type_of% (@bc_34_1 ι)) ∧ (type_of% (@fa_34_2 ι)) ∧ (type_of% (@bw_34_2 ι)) ∧ (type_of% (@bd_34 ι)) ∧ (type_of% (@zs_34 ι)) ∧ (type_of% (@fa_54_0 ι)) ∧ (type_of% (@fv_54_0 ι)) ∧ (type_of% (@bc_54_0 ι)) ∧ (type_of% (@fa_54_1 ι)) ∧ (type_of% (@fv_54_1 ι)) ∧ (type_of% (@bc_54_1 ι)) ∧ (type_of% (@bd_54 ι)) ∧ (type_of% (@zs_54 ι)) ∧ (type_of% (@fa_60_0 ι)) ∧ (type_of% (@fv_60_0 ι)) ∧ (type_of% (@bc_60_0 ι)) ∧ (type_of% (@fa_60_1 ι)) ∧ (type_of% (@bw_60_1 ι)) ∧ (type_of% (@fa_60_2 ι)) ∧ (type_of% (@fv_60_2 ι)) ∧ (type_of% (@bc_60_2 ι)) ∧ (type_of% (@fa_60_3 ι)) ∧ (type_of% (@fv_60_3 ι)) ∧ (type_of% (@bc_60_3 ι)) ∧ (type_of% (@bd_60 ι)) ∧ (type_of% (@zs_60 ι)) ∧ (type_of% (@fa_69_0 ι)) ∧ (type_of% (@fv_69_0 ι)) ∧ (type_of% (@bc_69_0 ι)) ∧ (type_of% (@fa_69_1 ι)) ∧ (type_of% (@bw_69_1 ι)) ∧ (type_of% (@bd_69 ι)) ∧ (type_of% (@zs_69 ι)) ∧ (type_of% (@ba_23 ι)) ∧ (type_of% (@ba_25 ι)) ∧ (type_of% (@ba_48 ι)) ∧ (type_of% (@ko_29 ι)) ∧ (type_of% (@ko_48 ι)) := ⟨@fa_31_0 ι, @bw_31_0 ι, @fa_31_1 ι, @fv_31_1 ι, @bc_31_1 ι, @fa_31_2 ι, @bw_31_2 ι, @bd_31 ι, @zs_31 ι, @fa_34_0 ι, @fv_34_0 ι, @bc_34_0 ι, @fa_34_1 ι, @fv_34_1 ι, @bc_34_1 ι, @fa_34_2 ι, @bw_34_2 ι, @bd_34 ι, @zs_34 ι, @fa_54_0 ι, @fv_54_0 ι, @bc_54_0 ι, @fa_54_1 ι, @fv_54_1 ι, @bc_54_1 ι, @bd_54 ι, @zs_54 ι, @fa_60_0 ι, @fv_60_0 ι, @bc_60_0 ι, @fa_60_1 ι, @bw_60_1 ι, @fa_60_2 ι, @fv_60_2 ι, @bc_60_2 ι, @fa_60_3 ι, @fv_60_3 ι, @bc_60_3 ι, @bd_60 ι, @zs_60 ι, @fa_69_0 ι, @fv_69_0 ι, @bc_69_0 ι, @fa_69_1 ι, @bw_69_1 ι, @bd_69 ι, @zs_69 ι, @ba_23 ι, @ba_25 ι, @ba_48 ι, @ko_29 ι, @ko_48 ι⟩
theorem mix : Try.prog.follows .mixedOrders = true := by kernel_rfl

/-! erewhile/erewhilelaw21.FingerPlays -/
abbrev n_law21_FingerPlays : Nat := 3
theorem func_law21_FingerPlays : Try.prog.funcs[n_law21_FingerPlays]? = some Try.f3 := Try.func3
theorem call_law21_FingerPlays : ∀ args w, (callFunc n_law21_FingerPlays args).run Try.prog w = .ok (.enter n_law21_FingerPlays args) w := Try.call3
theorem nt_law21_FingerPlays : Try.f3.ntmps = 100 := Try.ntmps3
theorem rs_law21_FingerPlays : Try.f3.results.toList = [.tmp 6] := by rw [Try.results3]
def s_law21_FingerPlays_0 : List AStep := [.eff (some 3) (.box 23 (.tmp 0)), .eff (some 5) (.box 25 (.tmp 2)), .pure (some 6) false (.assign (.const (.bool false)))]
abbrev p_law21_FingerPlays_0 : List Nat := [0, 1, 2]
def s_law21_FingerPlays_1 : List AStep := [.call (some 10) false ⟨.value (.func 9), #[], #[]⟩, .pure (some 11) false (.unOp .not 4 (.tmp 10))]
abbrev p_law21_FingerPlays_1 : List Nat := [0, 1]
def s_law21_FingerPlays_2 : List AStep := [.pure (some 6) false (.assign (.const (.bool false)))]
abbrev p_law21_FingerPlays_2 : List Nat := [0]
def s_law21_FingerPlays_3 : List AStep := [.pure (some 12) false (.move (.tmp 1)), .pure (some 13) false (.call (.mk (.builtin .len) #[.tmp 12] #[24])), .pure (some 14) false (.binOp .gtr 3 (.tmp 13) (.const (.int .i64 40)) 3)]
abbrev p_law21_FingerPlays_3 : List Nat := [0, 1, 2]
def s_law21_FingerPlays_4 : List AStep := [.pure (some 6) false (.assign (.const (.bool true)))]
abbrev p_law21_FingerPlays_4 : List Nat := [0]
def s_law21_FingerPlays_5 : List AStep := [.pure (some 15) false (.build 31 #[]), .pure (some 16) false (.makeInterface 31 (.tmp 15)), .read (some 17) false (.load 23 (.tmp 3)), .call (some 18) false ⟨.value (.func 10), #[.tmp 16, .tmp 17], #[56, 23]⟩, .pure (some 7) false (.assign (.tmp 18))]
abbrev p_law21_FingerPlays_5 : List Nat := [0, 1, 2, 3, 4]
def s_law21_FingerPlays_6 : List AStep := [.pure (some 8) false (.assign (.const (.slice none 0 0)))]
abbrev p_law21_FingerPlays_6 : List Nat := [0]
def s_law21_FingerPlays_7 : List AStep := [.pure (some 9) false (.assign (.const (.int .i64 0)))]
abbrev p_law21_FingerPlays_7 : List Nat := [0]
def s_law21_FingerPlays_8 : List AStep := [.pure (some 19) false (.move (.tmp 9)), .pure (some 20) false (.move (.tmp 1)), .pure (some 21) false (.call (.mk (.builtin .len) #[.tmp 20] #[24])), .pure (some 22) false (.binOp .lss 3 (.tmp 19) (.tmp 21) 3)]
abbrev p_law21_FingerPlays_8 : List Nat := [0, 1, 2, 3]
def s_law21_FingerPlays_10 : List AStep := [.pure (some 25) false (.move (.tmp 1)), .pure (some 26) false (.move (.tmp 9)), .pure (some 27) false (.indexAddr 24 (.tmp 25) (.tmp 26)), .pure (some 28) false (.fieldAddr 34 (.tmp 27) 0), .read (some 29) false (.load 4 (.tmp 28))]
abbrev p_law21_FingerPlays_10 : List Nat := [0, 1, 2, 3, 4]
abbrev q_law21_FingerPlays_11 : List Nat := [1006]
def s_law21_FingerPlays_11 : List AStep := [.pure (some 30) false (.move (.tmp 7)), .pure (some 31) false (.move (.tmp 1)), .pure (some 32) false (.move (.tmp 9)), .pure (some 33) false (.indexAddr 24 (.tmp 31) (.tmp 32)), .pure (some 34) false (.fieldAddr 34 (.tmp 33) 1), .read (some 35) false (.load 29 (.tmp 34)), .mcall (some 36) false ⟨.value (.func 11), #[.tmp 30, .tmp 35], #[27, 29]⟩]
abbrev p_law21_FingerPlays_11 : List Nat := [0, 1, 2, 3, 4, 5, 6]
def s_law21_FingerPlays_12 : List AStep := [.pure (some 37) false (.move (.tmp 8)), .pure (some 38) false (.move (.tmp 1)), .pure (some 39) false (.move (.tmp 9)), .pure (some 40) false (.indexAddr 24 (.tmp 38) (.tmp 39)), .pure (some 41) false (.fieldAddr 34 (.tmp 40) 1), .read (some 42) false (.load 29 (.tmp 41)), .call (some 43) false ⟨.value (.func 12), #[.tmp 37, .tmp 42], #[32, 29]⟩, .pure (some 8) false (.assign (.tmp 43))]
abbrev p_law21_FingerPlays_12 : List Nat := [0, 1, 2, 3, 4, 5, 6, 7]
def s_law21_FingerPlays_13 : SP := (.one (.pure (some 44) false (.move (.tmp 7))) (.one (.pure (some 45) false (.move (.tmp 1))) (.one (.pure (some 46) false (.move (.tmp 9))) (.one (.pure (some 47) false (.indexAddr 24 (.tmp 45) (.tmp 46))) (.one (.pure (some 48) false (.fieldAddr 34 (.tmp 47) 1)) (.one (.pure (some 50) false (.move (.tmp 1))) (.one (.pure (some 51) false (.move (.tmp 9))) (.one (.pure (some 52) false (.indexAddr 24 (.tmp 50) (.tmp 51))) (.one (.pure (some 53) false (.fieldAddr 34 (.tmp 52) 2)) (.one (.read (some 49) false (.load 29 (.tmp 48))) (.one (.read (some 54) false (.load 25 (.tmp 53))) (.one (.mcall (some 55) false ⟨.value (.func 13), #[.tmp 44, .tmp 49, .tmp 54], #[27, 29, 25]⟩) .done))))))))))))
abbrev p_law21_FingerPlays_13 : PC := (.calm 0 2048 (.calm 1 2104 (.calm 2 2104 (.calm 3 2096 (.calm 4 2080 (.calm 6 3840 (.calm 7 3840 (.calm 8 3584 (.calm 9 3072 (.calm 5 2048 (.calm 10 2048 (.act 11 .done))))))))))))
abbrev g_law21_FingerPlays_13 : List Dg := [⟨0, 128, 17592186044416, .pure, true⟩, ⟨0, 2, 35184372088832, .pure, true⟩, ⟨0, 512, 70368744177664, .pure, true⟩, ⟨6, 105553116266496, 140737488355328, .pure, true⟩, ⟨8, 140737488355328, 281474976710656, .pure, true⟩, ⟨16, 281474976710656, 562949953421312, .read, true⟩, ⟨0, 2, 1125899906842624, .pure, true⟩, ⟨0, 512, 2251799813685248, .pure, true⟩, ⟨192, 3377699720527872, 4503599627370496, .pure, true⟩, ⟨256, 4503599627370496, 9007199254740992, .pure, true⟩, ⟨512, 9007199254740992, 18014398509481984, .read, true⟩, ⟨1057, 18594940648947712, 36028797018963968, .call, false⟩]
abbrev q_law21_FingerPlays_13 : List Nat := [1011]
def s_law21_FingerPlays_14 : SP := (.one (.pure (some 56) false (.move (.tmp 8))) (.one (.pure (some 57) false (.move (.tmp 1))) (.one (.pure (some 58) false (.move (.tmp 9))) (.one (.pure (some 59) false (.indexAddr 24 (.tmp 57) (.tmp 58))) (.one (.pure (some 60) false (.fieldAddr 34 (.tmp 59) 1)) (.one (.pure (some 62) false (.move (.tmp 1))) (.one (.pure (some 63) false (.move (.tmp 9))) (.one (.pure (some 64) false (.indexAddr 24 (.tmp 62) (.tmp 63))) (.one (.pure (some 65) false (.fieldAddr 34 (.tmp 64) 2)) (.one (.read (some 61) false (.load 29 (.tmp 60))) (.one (.read (some 66) false (.load 25 (.tmp 65))) (.one (.call (some 67) false ⟨.value (.func 14), #[.tmp 56, .tmp 61, .tmp 66], #[32, 29, 25]⟩) (.one (.pure (some 8) false (.assign (.tmp 67))) .done)))))))))))))
abbrev p_law21_FingerPlays_14 : PC := (.calm 0 6144 (.calm 1 6200 (.calm 2 6200 (.calm 3 6192 (.calm 4 6176 (.calm 6 7936 (.calm 7 7936 (.calm 8 7680 (.calm 9 7168 (.calm 5 6144 (.calm 10 6144 (.act 11 (.calm 12 0 .done)))))))))))))
abbrev g_law21_FingerPlays_14 : List Dg := [⟨0, 256, 72057594037927936, .pure, true⟩, ⟨0, 2, 144115188075855872, .pure, true⟩, ⟨0, 512, 288230376151711744, .pure, true⟩, ⟨6, 432345564227567616, 576460752303423488, .pure, true⟩, ⟨8, 576460752303423488, 1152921504606846976, .pure, true⟩, ⟨16, 1152921504606846976, 2305843009213693952, .read, true⟩, ⟨0, 2, 4611686018427387904, .pure, true⟩, ⟨0, 512, 9223372036854775808, .pure, true⟩, ⟨192, 13835058055282163712, 18446744073709551616, .pure, true⟩, ⟨256, 18446744073709551616, 36893488147419103232, .pure, true⟩, ⟨512, 36893488147419103232, 73786976294838206464, .read, true⟩, ⟨1057, 76164876898089828352, 147573952589676412928, .call, true⟩, ⟨4095, 147573952589676412928, 256, .pure, true⟩]
abbrev q_law21_FingerPlays_14 : List Nat := []
def s_law21_FingerPlays_15 : SP := (.one (.pure (some 68) false (.move (.tmp 7))) (.one (.pure (some 70) false (.move (.tmp 8))) (.one (.pure (some 71) false (.call (.mk (.builtin .len) #[.tmp 70] #[32]))) (.one (.call (some 69) false ⟨.value (.func 15), #[.tmp 68], #[27]⟩) (.one (.pure (some 72) false (.binOp .neq 3 (.tmp 69) (.tmp 71) 3)) (.one (.pure (some 73) true (.move (.tmp 72))) (.one (.guard 73 false (.pure (some 74) false (.move (.tmp 7)))) (.one (.guard 73 false (.pure (some 75) false (.move (.tmp 1)))) (.one (.guard 73 false (.pure (some 76) false (.move (.tmp 9)))) (.one (.guard 73 false (.pure (some 77) false (.indexAddr 24 (.tmp 75) (.tmp 76)))) (.one (.guard 73 false (.pure (some 78) false (.fieldAddr 34 (.tmp 77) 2))) (.one (.guard 73 false (.pure (some 81) false (.move (.tmp 8)))) (.one (.guard 73 false (.pure (some 83) false (.move (.tmp 1)))) (.one (.guard 73 false (.pure (some 84) false (.move (.tmp 9)))) (.one (.guard 73 false (.pure (some 85) false (.indexAddr 24 (.tmp 83) (.tmp 84)))) (.one (.guard 73 false (.pure (some 86) false (.fieldAddr 34 (.tmp 85) 2))) (.one (.guard 73 false (.read (some 79) false (.load 25 (.tmp 78)))) (.one (.guard 73 false (.read (some 82) false (.load 23 (.tmp 3)))) (.one (.guard 73 false (.read (some 87) false (.load 25 (.tmp 86)))) (.one (.guard 73 false (.call (some 80) false ⟨.value (.func 17), #[.tmp 74, .tmp 79], #[27, 25]⟩)) (.one (.guard 73 false (.call (some 88) false ⟨.value (.func 18), #[.tmp 81, .tmp 82, .tmp 87], #[32, 23, 25]⟩)) (.one (.guard 73 false (.call (some 89) false ⟨.value (.func 16), #[.tmp 80, .tmp 88], #[41, 41]⟩)) (.one (.guard 73 false (.pure (some 90) false (.unOp .not 4 (.tmp 89)))) (.one (.pure (some 91) false (.pick (.tmp 73) (.const (.bool true)) (.tmp 90))) .done))))))))))))))))))))))))
abbrev p_law21_FingerPlays_15 : PC := (.calm 0 16777202 (.calm 2 16777208 (.calm 3 16777200 (.act 1 (.calm 4 16777184 (.calm 5 16777152 (.calm 6 15732736 (.calm 7 15736320 (.calm 8 15736320 (.calm 9 15735808 (.calm 10 15734784 (.calm 13 15728640 (.calm 15 16646144 (.calm 16 16646144 (.calm 17 16515072 (.calm 18 16252928 (.calm 11 15732736 (.calm 14 15728640 (.calm 19 15728640 (.act 12 (.act 20 (.act 21 (.calm 22 8388608 (.calm 23 0 .done))))))))))))))))))))))))
abbrev g_law21_FingerPlays_15 : List Dg := [⟨0, 128, 295147905179352825856, .pure, true⟩, ⟨1, 295147905179352825856, 590295810358705651712, .call, true⟩, ⟨0, 256, 1180591620717411303424, .pure, true⟩, ⟨4, 1180591620717411303424, 2361183241434822606848, .pure, true⟩, ⟨10, 2951479051793528258560, 4722366482869645213696, .pure, true⟩, ⟨18, 4722366482869645213696, 9444732965739290427392, .pure, true⟩, ⟨32, 9444732965739290427520, 18889465931478580854784, .pure, true⟩, ⟨32, 9444732965739290427394, 37778931862957161709568, .pure, true⟩, ⟨32, 9444732965739290427904, 75557863725914323419136, .pure, true⟩, ⟨416, 122781528554610775556096, 151115727451828646838272, .pure, true⟩, ⟨544, 160560460417567937265664, 302231454903657293676544, .pure, true⟩, ⟨1056, 311676187869396584103936, 604462909807314587353088, .read, true⟩, ⟨2144, 632797108704532458635264, 1208925819614629174706176, .call, true⟩, ⟨32, 9444732965739290427648, 2417851639229258349412352, .pure, true⟩, ⟨32, 9444732965739290427400, 4835703278458516698824704, .read, true⟩, ⟨32, 9444732965739290427394, 9671406556917033397649408, .pure, true⟩, ⟨32, 9444732965739290427904, 19342813113834066795298816, .pure, true⟩, ⟨98336, 29023664403716839483375616, 38685626227668133590597632, .pure, true⟩, ⟨131104, 38695070960633872881025024, 77371252455336267181195264, .pure, true⟩, ⟨262176, 77380697188302006471622656, 154742504910672534362390528, .read, true⟩, ⟨552992, 162005504561326048701054976, 309485009821345068724781056, .call, true⟩, ⟨1052704, 310703380373925437189914624, 618970019642690137449562112, .call, true⟩, ⟨2097184, 618979464375655876739989504, 1237940039285380274899124224, .pure, true⟩, ⟨4194336, 1237949484018346014189551616, 2475880078570760549798248448, .pure, true⟩]
abbrev q_law21_FingerPlays_15 : List Nat := []
def s_law21_FingerPlays_16 : List AStep := [.pure (some 6) false (.assign (.const (.bool false)))]
abbrev p_law21_FingerPlays_16 : List Nat := [0]
def s_law21_FingerPlays_9 : List AStep := [.pure (some 23) false (.move (.tmp 9)), .pure (some 24) false (.binOp .add 3 (.tmp 23) (.const (.int .i64 1)) 3), .pure (some 9) false (.assign (.tmp 24))]
abbrev p_law21_FingerPlays_9 : List Nat := [0, 1, 2]
def s_law21_FingerPlays_17 : SP := (.one (.pure (some 92) false (.move (.tmp 7))) (.one (.pure (some 95) false (.move (.tmp 8))) (.one (.read (some 93) false (.load 25 (.tmp 5))) (.one (.read (some 96) false (.load 23 (.tmp 3))) (.one (.read (some 97) false (.load 25 (.tmp 5))) (.one (.call (some 94) false ⟨.value (.func 17), #[.tmp 92, .tmp 93], #[27, 25]⟩) (.one (.call (some 98) false ⟨.value (.func 18), #[.tmp 95, .tmp 96, .tmp 97], #[32, 23, 25]⟩) (.one (.call (some 99) false ⟨.value (.func 16), #[.tmp 94, .tmp 98], #[41, 41]⟩) (.one (.pure (some 6) false (.assign (.tmp 99))) .done)))))))))
abbrev p_law21_FingerPlays_17 : PC := (.calm 0 452 (.calm 3 448 (.calm 1 452 (.calm 4 448 (.calm 5 448 (.act 2 (.act 6 (.act 7 (.calm 8 0 .done)))))))))
abbrev g_law21_FingerPlays_17 : List Dg := [⟨0, 128, 4951760157141521099596496896, .pure, true⟩, ⟨0, 32, 9903520314283042199192993792, .read, true⟩, ⟨3, 14855280471424563298789490688, 19807040628566084398385987584, .call, true⟩, ⟨0, 256, 39614081257132168796771975168, .pure, true⟩, ⟨0, 8, 79228162514264337593543950336, .read, true⟩, ⟨0, 32, 158456325028528675187087900672, .read, true⟩, ⟨60, 277298568799925181577403826176, 316912650057057350374175801344, .call, true⟩, ⟨68, 336719690685623434772561788928, 633825300114114700748351602688, .call, true⟩, ⟨255, 633825300114114700748351602688, 64, .pure, true⟩]
abbrev q_law21_FingerPlays_17 : List Nat := []

/-! erewhile/erewhilelaw21.FingerFinds -/
abbrev n_law21_FingerFinds : Nat := 4
theorem func_law21_FingerFinds : Try.prog.funcs[n_law21_FingerFinds]? = some Try.f4 := Try.func4
theorem call_law21_FingerFinds : ∀ args w, (callFunc n_law21_FingerFinds args).run Try.prog w = .ok (.enter n_law21_FingerFinds args) w := Try.call4
theorem nt_law21_FingerFinds : Try.f4.ntmps = 165 := Try.ntmps4
theorem rs_law21_FingerFinds : Try.f4.results.toList = [.tmp 4] := by rw [Try.results4]
def s_law21_FingerFinds_0 : List AStep := [.eff (some 2) (.box 23 (.tmp 0)), .pure (some 4) false (.assign (.const (.bool false)))]
abbrev p_law21_FingerFinds_0 : List Nat := [0, 1]
def s_law21_FingerFinds_1 : List AStep := [.call (some 17) false ⟨.value (.func 9), #[], #[]⟩, .pure (some 18) false (.unOp .not 4 (.tmp 17))]
abbrev p_law21_FingerFinds_1 : List Nat := [0, 1]
def s_law21_FingerFinds_2 : List AStep := [.pure (some 4) false (.assign (.const (.bool false)))]
abbrev p_law21_FingerFinds_2 : List Nat := [0]
def s_law21_FingerFinds_3 : List AStep := [.pure (some 19) false (.move (.tmp 1)), .pure (some 20) false (.call (.mk (.builtin .len) #[.tmp 19] #[24])), .pure (some 21) false (.binOp .gtr 3 (.tmp 20) (.const (.int .i64 40)) 3)]
abbrev p_law21_FingerFinds_3 : List Nat := [0, 1, 2]
def s_law21_FingerFinds_4 : List AStep := [.pure (some 4) false (.assign (.const (.bool true)))]
abbrev p_law21_FingerFinds_4 : List Nat := [0]
def s_law21_FingerFinds_5 : List AStep := [.pure (some 22) false (.build 31 #[]), .pure (some 23) false (.makeInterface 31 (.tmp 22)), .read (some 24) false (.load 23 (.tmp 2)), .call (some 25) false ⟨.value (.func 10), #[.tmp 23, .tmp 24], #[56, 23]⟩, .pure (some 5) false (.assign (.tmp 25))]
abbrev p_law21_FingerFinds_5 : List Nat := [0, 1, 2, 3, 4]
def s_law21_FingerFinds_6 : List AStep := [.eff (some 26) (.makeMap 45 none), .pure (some 6) false (.assign (.tmp 26))]
abbrev p_law21_FingerFinds_6 : List Nat := [0, 1]
def s_law21_FingerFinds_7 : List AStep := [.pure (some 7) false (.assign (.const (.int .i64 0)))]
abbrev p_law21_FingerFinds_7 : List Nat := [0]
def s_law21_FingerFinds_8 : List AStep := [.pure (some 27) false (.move (.tmp 7)), .pure (some 28) false (.move (.tmp 1)), .pure (some 29) false (.call (.mk (.builtin .len) #[.tmp 28] #[24])), .pure (some 30) false (.binOp .lss 3 (.tmp 27) (.tmp 29) 3)]
abbrev p_law21_FingerFinds_8 : List Nat := [0, 1, 2, 3]
def s_law21_FingerFinds_10 : List AStep := [.pure (some 33) false (.move (.tmp 1)), .pure (some 34) false (.move (.tmp 7)), .pure (some 35) false (.indexAddr 24 (.tmp 33) (.tmp 34)), .pure (some 36) false (.fieldAddr 34 (.tmp 35) 0), .read (some 37) false (.load 4 (.tmp 36))]
abbrev p_law21_FingerFinds_10 : List Nat := [0, 1, 2, 3, 4]
abbrev q_law21_FingerFinds_11 : List Nat := [1006]
def s_law21_FingerFinds_11 : List AStep := [.pure (some 38) false (.move (.tmp 5)), .pure (some 39) false (.move (.tmp 1)), .pure (some 40) false (.move (.tmp 7)), .pure (some 41) false (.indexAddr 24 (.tmp 39) (.tmp 40)), .pure (some 42) false (.fieldAddr 34 (.tmp 41) 1), .read (some 43) false (.load 29 (.tmp 42)), .mcall (some 44) false ⟨.value (.func 11), #[.tmp 38, .tmp 43], #[27, 29]⟩]
abbrev p_law21_FingerFinds_11 : List Nat := [0, 1, 2, 3, 4, 5, 6]
def s_law21_FingerFinds_12 : List AStep := [.pure (some 45) false (.move (.tmp 6)), .pure (some 46) false (.move (.tmp 1)), .pure (some 47) false (.move (.tmp 7)), .pure (some 48) false (.indexAddr 24 (.tmp 46) (.tmp 47)), .pure (some 49) false (.fieldAddr 34 (.tmp 48) 1), .read (some 50) false (.load 29 (.tmp 49)), .eff none (.call (.mk (.builtin .delete) #[.tmp 45, .tmp 50] #[45, 29]))]
abbrev p_law21_FingerFinds_12 : List Nat := [0, 1, 2, 3, 4, 5, 6]
def s_law21_FingerFinds_13 : SP := (.one (.pure (some 51) false (.move (.tmp 5))) (.one (.pure (some 52) false (.move (.tmp 1))) (.one (.pure (some 53) false (.move (.tmp 7))) (.one (.pure (some 54) false (.indexAddr 24 (.tmp 52) (.tmp 53))) (.one (.pure (some 55) false (.fieldAddr 34 (.tmp 54) 1)) (.one (.pure (some 57) false (.move (.tmp 1))) (.one (.pure (some 58) false (.move (.tmp 7))) (.one (.pure (some 59) false (.indexAddr 24 (.tmp 57) (.tmp 58))) (.one (.pure (some 60) false (.fieldAddr 34 (.tmp 59) 2)) (.one (.read (some 56) false (.load 29 (.tmp 55))) (.one (.read (some 61) false (.load 25 (.tmp 60))) (.one (.mcall (some 62) false ⟨.value (.func 13), #[.tmp 51, .tmp 56, .tmp 61], #[27, 29, 25]⟩) .done))))))))))))
abbrev p_law21_FingerFinds_13 : PC := (.calm 0 2048 (.calm 1 2104 (.calm 2 2104 (.calm 3 2096 (.calm 4 2080 (.calm 6 3840 (.calm 7 3840 (.calm 8 3584 (.calm 9 3072 (.calm 5 2048 (.calm 10 2048 (.act 11 .done))))))))))))
abbrev g_law21_FingerFinds_13 : List Dg := [⟨0, 32, 2251799813685248, .pure, true⟩, ⟨0, 2, 4503599627370496, .pure, true⟩, ⟨0, 128, 9007199254740992, .pure, true⟩, ⟨6, 13510798882111488, 18014398509481984, .pure, true⟩, ⟨8, 18014398509481984, 36028797018963968, .pure, true⟩, ⟨16, 36028797018963968, 72057594037927936, .read, true⟩, ⟨0, 2, 144115188075855872, .pure, true⟩, ⟨0, 128, 288230376151711744, .pure, true⟩, ⟨192, 432345564227567616, 576460752303423488, .pure, true⟩, ⟨256, 576460752303423488, 1152921504606846976, .pure, true⟩, ⟨512, 1152921504606846976, 2305843009213693952, .read, true⟩, ⟨1057, 2380152403065307136, 4611686018427387904, .call, false⟩]
abbrev q_law21_FingerFinds_13 : List Nat := [1011]
def s_law21_FingerFinds_14 : SP := (.one (.pure (some 63) false (.move (.tmp 6))) (.one (.pure (some 64) false (.move (.tmp 1))) (.one (.pure (some 65) false (.move (.tmp 7))) (.one (.pure (some 66) false (.indexAddr 24 (.tmp 64) (.tmp 65))) (.one (.pure (some 67) false (.fieldAddr 34 (.tmp 66) 1)) (.one (.pure (some 69) false (.move (.tmp 1))) (.one (.pure (some 70) false (.move (.tmp 7))) (.one (.pure (some 71) false (.indexAddr 24 (.tmp 69) (.tmp 70))) (.one (.pure (some 72) false (.fieldAddr 34 (.tmp 71) 2)) (.one (.read (some 68) false (.load 29 (.tmp 67))) (.one (.read (some 73) false (.load 25 (.tmp 72))) (.one (.eff none (.mapUpdate 45 (.tmp 63) (.tmp 68) (.tmp 73))) .done))))))))))))
abbrev p_law21_FingerFinds_14 : PC := (.calm 0 2048 (.calm 1 2104 (.calm 2 2104 (.calm 3 2096 (.calm 4 2080 (.calm 6 3840 (.calm 7 3840 (.calm 8 3584 (.calm 9 3072 (.calm 5 2048 (.calm 10 2048 (.act 11 .done))))))))))))
abbrev g_law21_FingerFinds_14 : List Dg := [⟨0, 64, 9223372036854775808, .pure, true⟩, ⟨0, 2, 18446744073709551616, .pure, true⟩, ⟨0, 128, 36893488147419103232, .pure, true⟩, ⟨6, 55340232221128654848, 73786976294838206464, .pure, true⟩, ⟨8, 73786976294838206464, 147573952589676412928, .pure, true⟩, ⟨16, 147573952589676412928, 295147905179352825856, .read, true⟩, ⟨0, 2, 590295810358705651712, .pure, true⟩, ⟨0, 128, 1180591620717411303424, .pure, true⟩, ⟨192, 1770887431076116955136, 2361183241434822606848, .pure, true⟩, ⟨256, 2361183241434822606848, 4722366482869645213696, .pure, true⟩, ⟨512, 4722366482869645213696, 9444732965739290427392, .read, true⟩, ⟨2047, 9749104242955498029056, 0, .eff, false⟩]
abbrev q_law21_FingerFinds_14 : List Nat := []
def s_law21_FingerFinds_9 : List AStep := [.pure (some 31) false (.move (.tmp 7)), .pure (some 32) false (.binOp .add 3 (.tmp 31) (.const (.int .i64 1)) 3), .pure (some 7) false (.assign (.tmp 32))]
abbrev p_law21_FingerFinds_9 : List Nat := [0, 1, 2]
def s_law21_FingerFinds_15 : List AStep := [.pure (some 74) false (.move (.tmp 6)), .eff (some 75) (.range 45 (.tmp 74))]
abbrev p_law21_FingerFinds_15 : List Nat := [0, 1]
def s_law21_FingerFinds_16 : List AStep := [.eff (some 76) (.next (.tmp 75) false), .pure (some 77) false (.extract (.tmp 76) 0)]
abbrev p_law21_FingerFinds_16 : List Nat := [0, 1]
def s_law21_FingerFinds_17 : List AStep := [.eff (some 78) (.entry (.tmp 75)), .pure (some 79) false (.extract (.tmp 78) 0), .pure (some 80) false (.extract (.tmp 78) 1), .eff (some 9) (.alloc 25), .pure (some 8) false (.assign (.tmp 79)), .eff none (.store 25 (.tmp 9) (.tmp 80))]
abbrev p_law21_FingerFinds_17 : List Nat := [0, 1, 2, 3, 4, 5]
def s_law21_FingerFinds_18 : List AStep := [.pure (some 81) false (.move (.tmp 5)), .read (some 82) false (.load 25 (.tmp 9)), .call (some 83) false ⟨.value (.func 17), #[.tmp 81, .tmp 82], #[27, 25]⟩, .pure (some 10) false (.assign (.tmp 83))]
abbrev p_law21_FingerFinds_18 : List Nat := [0, 1, 2, 3]
def s_law21_FingerFinds_19 : List AStep := [.pure (some 11) false (.assign (.const (.bool false)))]
abbrev p_law21_FingerFinds_19 : List Nat := [0]
def s_law21_FingerFinds_20 : List AStep := [.pure (some 12) false (.assign (.const (.int .i64 0)))]
abbrev p_law21_FingerFinds_20 : List Nat := [0]
def s_law21_FingerFinds_21 : List AStep := [.pure (some 84) false (.move (.tmp 12)), .pure (some 85) false (.move (.tmp 10)), .pure (some 86) false (.call (.mk (.builtin .len) #[.tmp 85] #[41])), .pure (some 87) false (.binOp .lss 3 (.tmp 84) (.tmp 86) 3)]
abbrev p_law21_FingerFinds_21 : List Nat := [0, 1, 2, 3]
def s_law21_FingerFinds_23 : List AStep := [.pure (some 91) false (.move (.tmp 6)), .pure (some 92) false (.move (.tmp 10)), .pure (some 93) false (.move (.tmp 12)), .pure (some 94) false (.indexAddr 41 (.tmp 92) (.tmp 93)), .read (some 95) false (.load 29 (.tmp 94)), .read (some 96) false (.lookup 45 (.tmp 91) (.tmp 95) true), .pure (some 90) false (.move (.tmp 96)), .pure (some 97) false (.extract (.tmp 90) 0), .pure (some 98) false (.extract (.tmp 90) 1), .eff (some 13) (.alloc 25), .eff none (.store 25 (.tmp 13) (.tmp 97)), .pure (some 14) false (.assign (.tmp 98))]
abbrev p_law21_FingerFinds_23 : List Nat := [0, 1, 2, 3, 4, 5, 6, 7, 8, 9, 10, 11]
def s_law21_FingerFinds_24 : SP := (.one (.pure (some 99) false (.move (.tmp 14))) (.one (.pure (some 100) false (.unOp .not 4 (.tmp 99))) (.one (.pure (some 101) true (.move (.tmp 100))) (.one (.guard 101 false (.pure (some 102) false (.move (.tmp 12)))) (.one (.guard 101 false (.pure (some 103) false (.binOp .gtr 3 (.tmp 102) (.const (.int .i64 0)) 3))) (.one (.guard 101 false (.pure (some 104) true (.move (.tmp 103)))) (.one (.guard 104 true (.pure (some 105) false (.move (.tmp 10)))) (.one (.guard 104 true (.pure (some 106) false (.move (.tmp 12)))) (.one (.guard 104 true (.pure (some 107) false (.indexAddr 41 (.tmp 105) (.tmp 106)))) (.one (.guard 104 true (.pure (some 109) false (.move (.tmp 10)))) (.one (.guard 104 true (.pure (some 110) false (.move (.tmp 12)))) (.one (.guard 104 true (.pure (some 111) false (.binOp .sub 3 (.tmp 110) (.const (.int .i64 1)) 3))) (.one (.guard 104 true (.pure (some 112) false (.indexAddr 41 (.tmp 109) (.tmp 111)))) (.one (.guard 104 true (.read (some 108) false (.load 29 (.tmp 107)))) (.one (.guard 104 true (.read (some 113) false (.load 29 (.tmp 112)))) (.one (.guard 104 true (.pure (some 114) false (.binOp .leq 29 (.tmp 108) (.tmp 113) 29))) (.one (.guard 101 false (.pure (some 115) false (.pick (.tmp 104) (.tmp 114) (.const (.bool false))))) (.one (.pure (some 116) false (.pick (.tmp 101) (.const (.bool true)) (.tmp 115))) (.one (.pure (some 117) true (.move (.tmp 116))) (.one (.guard 117 false (.pure (some 119) false (.slice 25 (.tmp 13) none none none))) (.one (.guard 117 false (.pure (some 122) false (.slice 25 (.tmp 9) none none none))) (.one (.guard 117 false (.read (some 118) false (.load 23 (.tmp 2)))) (.one (.guard 117 false (.read (some 121) false (.load 23 (.tmp 2)))) (.one (.guard 117 false (.call (some 120) false ⟨.value (.func 19), #[.tmp 118, .tmp 119], #[23, 50]⟩)) (.one (.guard 117 false (.call (some 123) false ⟨.value (.func 19), #[.tmp 121, .tmp 122], #[23, 50]⟩)) (.one (.guard 117 false (.pure (some 124) false (.binOp .neq 48 (.tmp 120) (.tmp 123) 48))) (.one (.pure (some 125) false (.pick (.tmp 117) (.const (.bool true)) (.tmp 124))) .done)))))))))))))))))))))))))))
abbrev p_law21_FingerFinds_24 : PC := (.calm 0 134217726 (.calm 1 134217724 (.calm 2 134217720 (.calm 3 134217712 (.calm 4 134217696 (.calm 5 134217664 (.calm 6 134185728 (.calm 7 134185728 (.calm 8 134185472 (.calm 10 134209536 (.calm 11 134213632 (.calm 12 134209536 (.calm 13 134201344 (.calm 9 134184960 (.calm 14 134184960 (.calm 15 134152192 (.calm 16 134086656 (.calm 17 133955584 (.calm 18 133693440 (.calm 20 119537664 (.calm 23 117440512 (.calm 19 119537664 (.calm 22 117440512 (.act 21 (.act 24 (.calm 25 67108864 (.calm 26 0 .done)))))))))))))))))))))))))))
abbrev g_law21_FingerFinds_24 : List Dg := [⟨0, 16384, 633825300114114700748351602688, .pure, true⟩, ⟨1, 633825300114114700748351602688, 1267650600228229401496703205376, .pure, true⟩, ⟨2, 1267650600228229401496703205376, 2535301200456458802993406410752, .pure, true⟩, ⟨4, 2535301200456458802993406414848, 5070602400912917605986812821504, .pure, true⟩, ⟨12, 7605903601369376408980219232256, 10141204801825835211973625643008, .pure, true⟩, ⟨20, 12676506002282294014967032053760, 20282409603651670423947251286016, .pure, true⟩, ⟨32, 20282409603651670423947251287040, 40564819207303340847894502572032, .pure, true⟩, ⟨32, 20282409603651670423947251290112, 81129638414606681695789005144064, .pure, true⟩, ⟨224, 141976867225561692967630759002112, 162259276829213363391578010288128, .pure, true⟩, ⟨288, 182541686432865033815525261574144, 324518553658426726783156020576256, .read, true⟩, ⟨32, 20282409603651670423947251287040, 649037107316853453566312041152512, .pure, true⟩, ⟨32, 20282409603651670423947251290112, 1298074214633706907132624082305024, .pure, true⟩, ⟨2080, 1318356624237358577556571333591040, 2596148429267413814265248164610048, .pure, true⟩, ⟨5152, 3265467946187918938255507457048576, 5192296858534827628530496329220096, .pure, true⟩, ⟨8224, 5212579268138479298954443580506112, 10384593717069655257060992658440192, .read, true⟩, ⟨16928, 10729394680331733654268095930302464, 20769187434139310514121985316880384, .pure, true⟩, ⟨32804, 20792005144943418643348925974577152, 41538374868278621028243970633760768, .pure, true⟩, ⟨65540, 41540910169479077487046964040171520, 83076749736557242056487941267521536, .pure, true⟩, ⟨131104, 83076749736557242056487941267521536, 166153499473114484112975882535043072, .pure, true⟩, ⟨262144, 166153499473114484112975882535043076, 332306998946228968225951765070086144, .read, true⟩, ⟨262144, 166153499473114484112975882535051264, 664613997892457936451903530140172288, .pure, true⟩, ⟨1835008, 1163074496311801388790831177745301504, 1329227995784915872903807060280344576, .call, true⟩, ⟨262144, 166153499473114484112975882535043076, 2658455991569831745807614120560689152, .read, true⟩, ⟨262144, 166153499473114484112975882535043584, 5316911983139663491615228241121378304, .pure, true⟩, ⟨14942208, 8141521474182609721535818244217110528, 10633823966279326983230456482242756608, .call, true⟩, ⟨19136512, 12129205461537357340247239425058144256, 21267647932558653966460912964485513216, .pure, true⟩, ⟨33816576, 21433801432031768450573888847020556288, 42535295865117307932921825928971026432, .pure, true⟩]
abbrev q_law21_FingerFinds_24 : List Nat := []
def s_law21_FingerFinds_25 : List AStep := [.pure (some 4) false (.assign (.const (.bool false)))]
abbrev p_law21_FingerFinds_25 : List Nat := [0]
def s_law21_FingerFinds_26 : List AStep := [.pure (some 126) false (.move (.tmp 11)), .pure (some 127) true (.move (.tmp 126)), .guard 127 false (.pure (some 128) false (.move (.tmp 10))), .guard 127 false (.pure (some 129) false (.move (.tmp 12))), .guard 127 false (.pure (some 130) false (.indexAddr 41 (.tmp 128) (.tmp 129))), .guard 127 false (.read (some 131) false (.load 29 (.tmp 130))), .guard 127 false (.pure (some 132) false (.move (.tmp 8))), .guard 127 false (.pure (some 133) false (.binOp .eql 29 (.tmp 131) (.tmp 132) 29)), .pure (some 134) false (.pick (.tmp 127) (.const (.bool true)) (.tmp 133)), .pure (some 11) false (.assign (.tmp 134))]
abbrev p_law21_FingerFinds_26 : List Nat := [0, 1, 2, 3, 4, 5, 6, 7, 8, 9]
def s_law21_FingerFinds_22 : List AStep := [.pure (some 88) false (.move (.tmp 12)), .pure (some 89) false (.binOp .add 3 (.tmp 88) (.const (.int .i64 1)) 3), .pure (some 12) false (.assign (.tmp 89))]
abbrev p_law21_FingerFinds_22 : List Nat := [0, 1, 2]
def s_law21_FingerFinds_27 : List AStep := [.eff (some 135) (.buildSlice 41 0 #[]), .pure (some 136) false (.move (.tmp 10)), .eff (some 137) (.call (.mk (.builtin .append) #[.tmp 135, .tmp 136] #[41, 41])), .pure (some 15) false (.assign (.tmp 137))]
abbrev p_law21_FingerFinds_27 : List Nat := [0, 1, 2, 3]
def s_law21_FingerFinds_28 : List AStep := [.pure (some 16) false (.assign (.const (.int .i64 0)))]
abbrev p_law21_FingerFinds_28 : List Nat := [0]
def s_law21_FingerFinds_29 : List AStep := [.pure (some 138) false (.move (.tmp 16)), .pure (some 139) false (.move (.tmp 10)), .pure (some 140) false (.call (.mk (.builtin .len) #[.tmp 139] #[41])), .pure (some 141) false (.binOp .lss 3 (.tmp 138) (.tmp 140) 3)]
abbrev p_law21_FingerFinds_29 : List Nat := [0, 1, 2, 3]
def s_law21_FingerFinds_31 : List AStep := [.pure (some 144) false (.move (.tmp 10)), .pure (some 145) false (.move (.tmp 16)), .pure (some 146) false (.indexAddr 41 (.tmp 144) (.tmp 145)), .read (some 147) false (.load 29 (.tmp 146)), .pure (some 148) false (.binOp .add 29 (.tmp 147) (.const (.int .u64 1)) 29), .pure (some 149) false (.indexAddr 41 (.tmp 144) (.tmp 145)), .eff none (.store 29 (.tmp 149) (.tmp 148))]
abbrev p_law21_FingerFinds_31 : List Nat := [0, 1, 2, 3, 4, 5, 6]
def s_law21_FingerFinds_30 : List AStep := [.pure (some 142) false (.move (.tmp 16)), .pure (some 143) false (.binOp .add 3 (.tmp 142) (.const (.int .i64 1)) 3), .pure (some 16) false (.assign (.tmp 143))]
abbrev p_law21_FingerFinds_30 : List Nat := [0, 1, 2]
def s_law21_FingerFinds_32 : List AStep := [.pure (some 150) false (.move (.tmp 11)), .pure (some 151) false (.unOp .not 4 (.tmp 150)), .pure (some 152) true (.move (.tmp 151)), .guard 152 false (.pure (some 153) false (.move (.tmp 5))), .guard 152 false (.read (some 154) false (.load 25 (.tmp 9))), .guard 152 false (.call (some 155) false ⟨.value (.func 17), #[.tmp 153, .tmp 154], #[27, 25]⟩), .guard 152 false (.pure (some 156) false (.move (.tmp 15))), .guard 152 false (.call (some 157) false ⟨.value (.func 16), #[.tmp 155, .tmp 156], #[41, 41]⟩), .guard 152 false (.pure (some 158) false (.unOp .not 4 (.tmp 157))), .pure (some 159) false (.pick (.tmp 152) (.const (.bool true)) (.tmp 158))]
abbrev p_law21_FingerFinds_32 : List Nat := [0, 1, 2, 3, 4, 5, 6, 7, 8, 9]
def s_law21_FingerFinds_33 : List AStep := [.pure (some 4) false (.assign (.const (.bool false)))]
abbrev p_law21_FingerFinds_33 : List Nat := [0]
abbrev q_law21_FingerFinds_34 : List Nat := [3]
def s_law21_FingerFinds_34 : List AStep := [.pure (some 160) false (.move (.tmp 5)), .call (some 161) false ⟨.value (.func 15), #[.tmp 160], #[27]⟩, .pure (some 162) false (.move (.tmp 6)), .read (some 163) false (.call (.mk (.builtin .len) #[.tmp 162] #[45])), .pure (some 164) false (.binOp .eql 3 (.tmp 161) (.tmp 163) 3), .pure (some 4) false (.assign (.tmp 164))]
abbrev p_law21_FingerFinds_34 : List Nat := [0, 1, 2, 3, 4, 5]

/-! erewhile/erewhilelaw21.FingerAsks -/
abbrev n_law21_FingerAsks : Nat := 5
theorem func_law21_FingerAsks : Try.prog.funcs[n_law21_FingerAsks]? = some Try.f5 := Try.func5
theorem call_law21_FingerAsks : ∀ args w, (callFunc n_law21_FingerAsks args).run Try.prog w = .ok (.enter n_law21_FingerAsks args) w := Try.call5
theorem nt_law21_FingerAsks : Try.f5.ntmps = 69 := Try.ntmps5
theorem rs_law21_FingerAsks : Try.f5.results.toList = [.tmp 4] := by rw [Try.results5]
def s_law21_FingerAsks_0 : List AStep := [.eff (some 2) (.box 23 (.tmp 0)), .pure (some 4) false (.assign (.const (.bool false)))]
abbrev p_law21_FingerAsks_0 : List Nat := [0, 1]
def s_law21_FingerAsks_1 : List AStep := [.call (some 10) false ⟨.value (.func 9), #[], #[]⟩, .pure (some 11) false (.unOp .not 4 (.tmp 10))]
abbrev p_law21_FingerAsks_1 : List Nat := [0, 1]
def s_law21_FingerAsks_2 : List AStep := [.pure (some 4) false (.assign (.const (.bool false)))]
abbrev p_law21_FingerAsks_2 : List Nat := [0]
def s_law21_FingerAsks_3 : List AStep := [.pure (some 12) false (.move (.tmp 1)), .pure (some 13) false (.call (.mk (.builtin .len) #[.tmp 12] #[24])), .pure (some 14) false (.binOp .gtr 3 (.tmp 13) (.const (.int .i64 40)) 3)]
abbrev p_law21_FingerAsks_3 : List Nat := [0, 1, 2]
def s_law21_FingerAsks_4 : List AStep := [.pure (some 4) false (.assign (.const (.bool true)))]
abbrev p_law21_FingerAsks_4 : List Nat := [0]
def s_law21_FingerAsks_5 : List AStep := [.eff (some 5) (.alloc 3), .eff (some 6) (.alloc 3), .eff none (.store 3 (.tmp 5) (.const (.int .i64 0))), .eff none (.store 3 (.tmp 6) (.const (.int .i64 0)))]
abbrev p_law21_FingerAsks_5 : List Nat := [0, 1, 2, 3]
def s_law21_FingerAsks_6 : List AStep := [.pure (some 15) false (.build 54 #[(0, .tmp 5), (1, .tmp 6)]), .pure (some 16) false (.makeInterface 54 (.tmp 15)), .read (some 17) false (.load 23 (.tmp 2)), .call (some 18) false ⟨.value (.func 10), #[.tmp 16, .tmp 17], #[56, 23]⟩, .pure (some 7) false (.assign (.tmp 18))]
abbrev p_law21_FingerAsks_6 : List Nat := [0, 1, 2, 3, 4]
def s_law21_FingerAsks_7 : List AStep := [.pure (some 8) false (.assign (.const (.int .i64 0)))]
abbrev p_law21_FingerAsks_7 : List Nat := [0]
def s_law21_FingerAsks_8 : List AStep := [.pure (some 9) false (.assign (.const (.int .i64 0)))]
abbrev p_law21_FingerAsks_8 : List Nat := [0]
def s_law21_FingerAsks_9 : List AStep := [.pure (some 19) false (.move (.tmp 9)), .pure (some 20) false (.move (.tmp 1)), .pure (some 21) false (.call (.mk (.builtin .len) #[.tmp 20] #[24])), .pure (some 22) false (.binOp .lss 3 (.tmp 19) (.tmp 21) 3)]
abbrev p_law21_FingerAsks_9 : List Nat := [0, 1, 2, 3]
def s_law21_FingerAsks_11 : List AStep := [.pure (some 25) false (.move (.tmp 1)), .pure (some 26) false (.move (.tmp 9)), .pure (some 27) false (.indexAddr 24 (.tmp 25) (.tmp 26)), .pure (some 28) false (.fieldAddr 34 (.tmp 27) 0), .read (some 29) false (.load 4 (.tmp 28))]
abbrev p_law21_FingerAsks_11 : List Nat := [0, 1, 2, 3, 4]
abbrev q_law21_FingerAsks_12 : List Nat := [1006]
def s_law21_FingerAsks_12 : List AStep := [.pure (some 30) false (.move (.tmp 7)), .pure (some 31) false (.move (.tmp 1)), .pure (some 32) false (.move (.tmp 9)), .pure (some 33) false (.indexAddr 24 (.tmp 31) (.tmp 32)), .pure (some 34) false (.fieldAddr 34 (.tmp 33) 1), .read (some 35) false (.load 29 (.tmp 34)), .mcall (some 36) false ⟨.value (.func 11), #[.tmp 30, .tmp 35], #[27, 29]⟩]
abbrev p_law21_FingerAsks_12 : List Nat := [0, 1, 2, 3, 4, 5, 6]
def s_law21_FingerAsks_13 : SP := (.one (.pure (some 37) false (.move (.tmp 7))) (.one (.pure (some 38) false (.move (.tmp 1))) (.one (.pure (some 39) false (.move (.tmp 9))) (.one (.pure (some 40) false (.indexAddr 24 (.tmp 38) (.tmp 39))) (.one (.pure (some 41) false (.fieldAddr 34 (.tmp 40) 1)) (.one (.pure (some 43) false (.move (.tmp 1))) (.one (.pure (some 44) false (.move (.tmp 9))) (.one (.pure (some 45) false (.indexAddr 24 (.tmp 43) (.tmp 44))) (.one (.pure (some 46) false (.fieldAddr 34 (.tmp 45) 2)) (.one (.read (some 42) false (.load 29 (.tmp 41))) (.one (.read (some 47) false (.load 25 (.tmp 46))) (.one (.mcall (some 48) false ⟨.value (.func 13), #[.tmp 37, .tmp 42, .tmp 47], #[27, 29, 25]⟩) .done))))))))))))
abbrev p_law21_FingerAsks_13 : PC := (.calm 0 2048 (.calm 1 2104 (.calm 2 2104 (.calm 3 2096 (.calm 4 2080 (.calm 6 3840 (.calm 7 3840 (.calm 8 3584 (.calm 9 3072 (.calm 5 2048 (.calm 10 2048 (.act 11 .done))))))))))))
abbrev g_law21_FingerAsks_13 : List Dg := [⟨0, 128, 137438953472, .pure, true⟩, ⟨0, 2, 274877906944, .pure, true⟩, ⟨0, 512, 549755813888, .pure, true⟩, ⟨6, 824633720832, 1099511627776, .pure, true⟩, ⟨8, 1099511627776, 2199023255552, .pure, true⟩, ⟨16, 2199023255552, 4398046511104, .read, true⟩, ⟨0, 2, 8796093022208, .pure, true⟩, ⟨0, 512, 17592186044416, .pure, true⟩, ⟨192, 26388279066624, 35184372088832, .pure, true⟩, ⟨256, 35184372088832, 70368744177664, .pure, true⟩, ⟨512, 70368744177664, 140737488355328, .read, true⟩, ⟨1057, 145272973819904, 281474976710656, .call, false⟩]
abbrev q_law21_FingerAsks_13 : List Nat := [1011]
def s_law21_FingerAsks_14 : List AStep := [.pure (some 49) false (.move (.tmp 8)), .pure (some 50) false (.binOp .add 3 (.tmp 49) (.const (.int .i64 1)) 3), .pure (some 8) false (.assign (.tmp 50))]
abbrev p_law21_FingerAsks_14 : List Nat := [0, 1, 2]
def s_law21_FingerAsks_15 : List AStep := [.pure (some 51) false (.move (.tmp 7)), .pure (some 52) false (.move (.tmp 1)), .pure (some 53) false (.move (.tmp 9)), .pure (some 54) false (.indexAddr 24 (.tmp 52) (.tmp 53)), .pure (some 55) false (.fieldAddr 34 (.tmp 54) 2), .read (some 56) false (.load 25 (.tmp 55)), .call (some 57) false ⟨.value (.func 17), #[.tmp 51, .tmp 56], #[27, 25]⟩]
abbrev p_law21_FingerAsks_15 : List Nat := [0, 1, 2, 3, 4, 5, 6]
def s_law21_FingerAsks_16 : List AStep := [.pure (some 58) false (.move (.tmp 7)), .call (some 59) false ⟨.value (.func 15), #[.tmp 58], #[27]⟩]
abbrev p_law21_FingerAsks_16 : List Nat := [0, 1]
def s_law21_FingerAsks_17 : List AStep := [.pure (some 60) false (.move (.tmp 8)), .pure (some 61) false (.binOp .add 3 (.tmp 60) (.const (.int .i64 1)) 3), .pure (some 8) false (.assign (.tmp 61))]
abbrev p_law21_FingerAsks_17 : List Nat := [0, 1, 2]
def s_law21_FingerAsks_18 : List AStep := [.read (some 62) false (.load 3 (.tmp 5)), .pure (some 63) false (.binOp .neq 3 (.tmp 62) (.const (.int .i64 0)) 3), .pure (some 64) true (.move (.tmp 63)), .guard 64 false (.read (some 65) false (.load 3 (.tmp 6))), .guard 64 false (.pure (some 66) false (.move (.tmp 8))), .guard 64 false (.pure (some 67) false (.binOp .neq 3 (.tmp 65) (.tmp 66) 3)), .pure (some 68) false (.pick (.tmp 64) (.const (.bool true)) (.tmp 67))]
abbrev p_law21_FingerAsks_18 : List Nat := [0, 1, 2, 3, 4, 5, 6]
def s_law21_FingerAsks_19 : List AStep := [.pure (some 4) false (.assign (.const (.bool false)))]
abbrev p_law21_FingerAsks_19 : List Nat := [0]
def s_law21_FingerAsks_10 : List AStep := [.pure (some 23) false (.move (.tmp 9)), .pure (some 24) false (.binOp .add 3 (.tmp 23) (.const (.int .i64 1)) 3), .pure (some 9) false (.assign (.tmp 24))]
abbrev p_law21_FingerAsks_10 : List Nat := [0, 1, 2]
def s_law21_FingerAsks_20 : List AStep := [.pure (some 4) false (.assign (.const (.bool true)))]
abbrev p_law21_FingerAsks_20 : List Nat := [0]

/-! erewhile/erewhilelaw21.FingerNone -/
abbrev n_law21_FingerNone : Nat := 6
theorem func_law21_FingerNone : Try.prog.funcs[n_law21_FingerNone]? = some Try.f6 := Try.func6
theorem call_law21_FingerNone : ∀ args w, (callFunc n_law21_FingerNone args).run Try.prog w = .ok (.enter n_law21_FingerNone args) w := Try.call6
theorem nt_law21_FingerNone : Try.f6.ntmps = 59 := Try.ntmps6
theorem rs_law21_FingerNone : Try.f6.results.toList = [.tmp 6] := by rw [Try.results6]
def s_law21_FingerNone_0 : List AStep := [.eff (some 3) (.box 25 (.tmp 0)), .eff (some 4) (.box 25 (.tmp 1)), .pure (some 6) false (.assign (.const (.bool false)))]
abbrev p_law21_FingerNone_0 : List Nat := [0, 1, 2]
def s_law21_FingerNone_1 : List AStep := [.call (some 12) false ⟨.value (.func 9), #[], #[]⟩, .pure (some 13) false (.unOp .not 4 (.tmp 12))]
abbrev p_law21_FingerNone_1 : List Nat := [0, 1]
def s_law21_FingerNone_2 : List AStep := [.pure (some 6) false (.assign (.const (.bool false)))]
abbrev p_law21_FingerNone_2 : List Nat := [0]
def s_law21_FingerNone_3 : List AStep := [.pure (some 7) false (.assign (.const (.pointer none)))]
abbrev p_law21_FingerNone_3 : List Nat := [0]
abbrev q_law21_FingerNone_4 : List Nat := [1003]
def s_law21_FingerNone_4 : List AStep := [.pure (some 14) false (.move (.tmp 7)), .pure (some 15) false (.move (.tmp 2)), .read (some 16) false (.load 25 (.tmp 3)), .mcall (some 17) false ⟨.value (.func 13), #[.tmp 14, .tmp 15, .tmp 16], #[27, 29, 25]⟩]
abbrev p_law21_FingerNone_4 : List Nat := [0, 1, 2, 3]
abbrev q_law21_FingerNone_5 : List Nat := [1002]
def s_law21_FingerNone_5 : List AStep := [.pure (some 18) false (.move (.tmp 7)), .pure (some 19) false (.move (.tmp 2)), .mcall (some 20) false ⟨.value (.func 11), #[.tmp 18, .tmp 19], #[27, 29]⟩]
abbrev p_law21_FingerNone_5 : List Nat := [0, 1, 2]
def s_law21_FingerNone_6 : List AStep := [.eff (some 8) (.alloc 60)]
abbrev p_law21_FingerNone_6 : List Nat := [0]
def s_law21_FingerNone_7 : List AStep := [.pure (some 21) false (.build 23 #[(0, .const (.int .u8 5))]), .call (some 22) false ⟨.value (.func 10), #[.const .nilIface, .tmp 21], #[56, 23]⟩, .pure (some 9) false (.assign (.tmp 22))]
abbrev p_law21_FingerNone_7 : List Nat := [0, 1, 2]
def s_law21_FingerNone_8 : List AStep := [.pure (some 10) false (.assign (.const (.int .i64 0)))]
abbrev p_law21_FingerNone_8 : List Nat := [0]
def s_law21_FingerNone_9 : List AStep := [.pure (some 23) false (.move (.tmp 10)), .pure (some 24) false (.binOp .lss 3 (.tmp 23) (.const (.int .i64 2)) 3)]
abbrev p_law21_FingerNone_9 : List Nat := [0, 1]
def s_law21_FingerNone_11 : List AStep := [.pure (some 11) false (.assign (.tmp 8))]
abbrev p_law21_FingerNone_11 : List Nat := [0]
def s_law21_FingerNone_12 : List AStep := [.pure (some 27) false (.move (.tmp 10)), .pure (some 28) false (.binOp .eql 3 (.tmp 27) (.const (.int .i64 1)) 3)]
abbrev p_law21_FingerNone_12 : List Nat := [0, 1]
def s_law21_FingerNone_13 : List AStep := [.pure (some 29) false (.move (.tmp 9)), .pure (some 11) false (.assign (.tmp 29))]
abbrev p_law21_FingerNone_13 : List Nat := [0, 1]
abbrev q_law21_FingerNone_14 : List Nat := [1002]
def s_law21_FingerNone_14 : List AStep := [.pure (some 30) false (.move (.tmp 11)), .pure (some 31) false (.move (.tmp 2)), .mcall (some 32) false ⟨.value (.func 11), #[.tmp 30, .tmp 31], #[27, 29]⟩]
abbrev p_law21_FingerNone_14 : List Nat := [0, 1, 2]
abbrev q_law21_FingerNone_15 : List Nat := [1003]
def s_law21_FingerNone_15 : List AStep := [.pure (some 33) false (.move (.tmp 11)), .pure (some 34) false (.move (.tmp 2)), .read (some 35) false (.load 25 (.tmp 3)), .mcall (some 36) false ⟨.value (.func 13), #[.tmp 33, .tmp 34, .tmp 35], #[27, 29, 25]⟩]
abbrev p_law21_FingerNone_15 : List Nat := [0, 1, 2, 3]
abbrev q_law21_FingerNone_16 : List Nat := [1006]
def s_law21_FingerNone_16 : List AStep := [.pure (some 37) false (.move (.tmp 11)), .call (some 38) false ⟨.value (.func 15), #[.tmp 37], #[27]⟩, .pure (some 39) false (.binOp .neq 3 (.tmp 38) (.const (.int .i64 1)) 3), .pure (some 40) true (.move (.tmp 39)), .guard 40 false (.pure (some 41) false (.move (.tmp 11))), .guard 40 false (.read (some 42) false (.load 25 (.tmp 4))), .guard 40 false (.mcall (some 43) false ⟨.value (.func 17), #[.tmp 41, .tmp 42], #[27, 25]⟩), .guard 40 false (.pure (some 44) false (.move (.tmp 2))), .guard 40 false (.eff (some 45) (.buildSlice 41 1 #[(0, .tmp 44)])), .guard 40 false (.call (some 46) false ⟨.value (.func 16), #[.tmp 43, .tmp 45], #[41, 41]⟩), .guard 40 false (.pure (some 47) false (.unOp .not 4 (.tmp 46))), .pure (some 48) false (.pick (.tmp 40) (.const (.bool true)) (.tmp 47))]
abbrev p_law21_FingerNone_16 : List Nat := [0, 1, 2, 3, 4, 5, 6, 7, 8, 9, 10, 11]
def s_law21_FingerNone_17 : List AStep := [.pure (some 6) false (.assign (.const (.bool false)))]
abbrev p_law21_FingerNone_17 : List Nat := [0]
def s_law21_FingerNone_10 : List AStep := [.pure (some 25) false (.move (.tmp 10)), .pure (some 26) false (.binOp .add 3 (.tmp 25) (.const (.int .i64 1)) 3), .pure (some 10) false (.assign (.tmp 26))]
abbrev p_law21_FingerNone_10 : List Nat := [0, 1, 2]
abbrev q_law21_FingerNone_18 : List Nat := [1002]
def s_law21_FingerNone_18 : List AStep := [.pure (some 49) false (.move (.tmp 7)), .read (some 50) false (.load 25 (.tmp 3)), .mcall (some 51) false ⟨.value (.func 17), #[.tmp 49, .tmp 50], #[27, 25]⟩, .pure (some 52) false (.call (.mk (.builtin .len) #[.tmp 51] #[41])), .pure (some 53) false (.binOp .eql 3 (.tmp 52) (.const (.int .i64 0)) 3), .pure (some 54) true (.move (.tmp 53)), .guard 54 true (.pure (some 55) false (.move (.tmp 7))), .guard 54 true (.call (some 56) false ⟨.value (.func 15), #[.tmp 55], #[27]⟩), .guard 54 true (.pure (some 57) false (.binOp .eql 3 (.tmp 56) (.const (.int .i64 0)) 3)), .pure (some 58) false (.pick (.tmp 54) (.tmp 57) (.const (.bool false))), .pure (some 6) false (.assign (.tmp 58))]
abbrev p_law21_FingerNone_18 : List Nat := [0, 1, 2, 3, 4, 5, 6, 7, 8, 9, 10]

/-! erewhile/erewhilelaw21.FingerTurned -/
abbrev n_law21_FingerTurned : Nat := 7
theorem func_law21_FingerTurned : Try.prog.funcs[n_law21_FingerTurned]? = some Try.f7 := Try.func7
theorem call_law21_FingerTurned : ∀ args w, (callFunc n_law21_FingerTurned args).run Try.prog w = .ok (.enter n_law21_FingerTurned args) w := Try.call7
theorem nt_law21_FingerTurned : Try.f7.ntmps = 94 := Try.ntmps7
theorem rs_law21_FingerTurned : Try.f7.results.toList = [.tmp 6] := by rw [Try.results7]
def s_law21_FingerTurned_0 : List AStep := [.eff (some 3) (.box 23 (.tmp 0)), .pure (some 6) false (.assign (.const (.bool false)))]
abbrev p_law21_FingerTurned_0 : List Nat := [0, 1]
def s_law21_FingerTurned_1 : List AStep := [.call (some 12) false ⟨.value (.func 9), #[], #[]⟩, .pure (some 13) false (.unOp .not 4 (.tmp 12))]
abbrev p_law21_FingerTurned_1 : List Nat := [0, 1]
def s_law21_FingerTurned_2 : List AStep := [.pure (some 6) false (.assign (.const (.bool false)))]
abbrev p_law21_FingerTurned_2 : List Nat := [0]
def s_law21_FingerTurned_3 : List AStep := [.pure (some 14) false (.move (.tmp 1)), .pure (some 15) false (.call (.mk (.builtin .len) #[.tmp 14] #[62])), .pure (some 16) false (.binOp .gtr 3 (.tmp 15) (.const (.int .i64 30)) 3)]
abbrev p_law21_FingerTurned_3 : List Nat := [0, 1, 2]
def s_law21_FingerTurned_4 : List AStep := [.pure (some 6) false (.assign (.const (.bool true)))]
abbrev p_law21_FingerTurned_4 : List Nat := [0]
def s_law21_FingerTurned_5 : SP := (.one (.pure (some 17) false (.build 31 #[])) (.one (.pure (some 18) false (.makeInterface 31 (.tmp 17))) (.one (.pure (some 21) false (.build 31 #[])) (.one (.pure (some 22) false (.makeInterface 31 (.tmp 21))) (.one (.read (some 19) false (.load 23 (.tmp 3))) (.one (.read (some 23) false (.load 23 (.tmp 3))) (.one (.call (some 20) false ⟨.value (.func 10), #[.tmp 18, .tmp 19], #[56, 23]⟩) (.one (.call (some 24) false ⟨.value (.func 10), #[.tmp 22, .tmp 23], #[56, 23]⟩) (.one (.pure (some 7) false (.assign (.tmp 20))) (.one (.pure (some 8) false (.assign (.tmp 24))) .done))))))))))
abbrev p_law21_FingerTurned_5 : PC := (.calm 0 906 (.calm 1 904 (.calm 4 928 (.calm 5 896 (.calm 2 904 (.calm 6 896 (.act 3 (.act 7 (.calm 8 512 (.calm 9 0 .done))))))))))
abbrev g_law21_FingerTurned_5 : List Dg := [⟨0, 0, 131072, .pure, true⟩, ⟨1, 131072, 262144, .pure, true⟩, ⟨0, 8, 524288, .read, true⟩, ⟨6, 786432, 1048576, .call, true⟩, ⟨0, 0, 2097152, .pure, true⟩, ⟨16, 2097152, 4194304, .pure, true⟩, ⟨0, 8, 8388608, .read, true⟩, ⟨104, 12582912, 16777216, .call, true⟩, ⟨143, 1048576, 128, .pure, true⟩, ⟨511, 16777216, 256, .pure, true⟩]
abbrev q_law21_FingerTurned_5 : List Nat := []
def s_law21_FingerTurned_6 : List AStep := [.pure (some 9) false (.assign (.const (.int .i64 0)))]
abbrev p_law21_FingerTurned_6 : List Nat := [0]
def s_law21_FingerTurned_7 : List AStep := [.pure (some 25) false (.move (.tmp 9)), .pure (some 26) false (.move (.tmp 1)), .pure (some 27) false (.call (.mk (.builtin .len) #[.tmp 26] #[62])), .pure (some 28) false (.binOp .lss 3 (.tmp 25) (.tmp 27) 3)]
abbrev p_law21_FingerTurned_7 : List Nat := [0, 1, 2, 3]
abbrev q_law21_FingerTurned_9 : List Nat := [1007]
def s_law21_FingerTurned_9 : List AStep := [.pure (some 31) false (.move (.tmp 7)), .pure (some 32) false (.move (.tmp 9)), .pure (some 33) false (.convert 3 29 (.tmp 32)), .pure (some 34) false (.move (.tmp 1)), .pure (some 35) false (.move (.tmp 9)), .pure (some 36) false (.indexAddr 62 (.tmp 34) (.tmp 35)), .read (some 37) false (.load 25 (.tmp 36)), .mcall (some 38) false ⟨.value (.func 13), #[.tmp 31, .tmp 33, .tmp 37], #[27, 29, 25]⟩]
abbrev p_law21_FingerTurned_9 : List Nat := [0, 1, 2, 3, 4, 5, 6, 7]
def s_law21_FingerTurned_10 : List AStep := [.pure (some 39) false (.move (.tmp 9)), .pure (some 40) false (.move (.tmp 2)), .pure (some 41) false (.convert 5 3 (.tmp 40)), .pure (some 42) false (.binOp .add 3 (.tmp 39) (.tmp 41) 3), .pure (some 43) false (.move (.tmp 1)), .pure (some 44) false (.call (.mk (.builtin .len) #[.tmp 43] #[62])), .pure (some 45) false (.binOp .rem 3 (.tmp 42) (.tmp 44) 3), .pure (some 10) false (.assign (.tmp 45))]
abbrev p_law21_FingerTurned_10 : List Nat := [0, 1, 2, 3, 4, 5, 6, 7]
abbrev q_law21_FingerTurned_11 : List Nat := [1007]
def s_law21_FingerTurned_11 : List AStep := [.pure (some 46) false (.move (.tmp 8)), .pure (some 47) false (.move (.tmp 10)), .pure (some 48) false (.convert 3 29 (.tmp 47)), .pure (some 49) false (.move (.tmp 1)), .pure (some 50) false (.move (.tmp 10)), .pure (some 51) false (.indexAddr 62 (.tmp 49) (.tmp 50)), .read (some 52) false (.load 25 (.tmp 51)), .mcall (some 53) false ⟨.value (.func 13), #[.tmp 46, .tmp 48, .tmp 52], #[27, 29, 25]⟩]
abbrev p_law21_FingerTurned_11 : List Nat := [0, 1, 2, 3, 4, 5, 6, 7]
abbrev q_law21_FingerTurned_12 : List Nat := [1007]
def s_law21_FingerTurned_12 : List AStep := [.pure (some 54) false (.move (.tmp 8)), .pure (some 55) false (.move (.tmp 10)), .pure (some 56) false (.convert 3 29 (.tmp 55)), .pure (some 57) false (.move (.tmp 1)), .pure (some 58) false (.move (.tmp 10)), .pure (some 59) false (.indexAddr 62 (.tmp 57) (.tmp 58)), .read (some 60) false (.load 25 (.tmp 59)), .mcall (some 61) false ⟨.value (.func 13), #[.tmp 54, .tmp 56, .tmp 60], #[27, 29, 25]⟩]
abbrev p_law21_FingerTurned_12 : List Nat := [0, 1, 2, 3, 4, 5, 6, 7]
def s_law21_FingerTurned_8 : List AStep := [.pure (some 29) false (.move (.tmp 9)), .pure (some 30) false (.binOp .add 3 (.tmp 29) (.const (.int .i64 1)) 3), .pure (some 9) false (.assign (.tmp 30))]
abbrev p_law21_FingerTurned_8 : List Nat := [0, 1, 2]
def s_law21_FingerTurned_13 : List AStep := [.pure (some 11) false (.assign (.const (.int .i64 0)))]
abbrev p_law21_FingerTurned_13 : List Nat := [0]
def s_law21_FingerTurned_14 : List AStep := [.pure (some 62) false (.move (.tmp 11)), .pure (some 63) false (.move (.tmp 1)), .pure (some 64) false (.call (.mk (.builtin .len) #[.tmp 63] #[62])), .pure (some 65) false (.binOp .lss 3 (.tmp 62) (.tmp 64) 3)]
abbrev p_law21_FingerTurned_14 : List Nat := [0, 1, 2, 3]
def s_law21_FingerTurned_16 : SP := (.one (.pure (some 68) false (.move (.tmp 7))) (.one (.pure (some 69) false (.move (.tmp 1))) (.one (.pure (some 70) false (.move (.tmp 11))) (.one (.pure (some 71) false (.indexAddr 62 (.tmp 69) (.tmp 70))) (.one (.pure (some 74) false (.move (.tmp 8))) (.one (.pure (some 75) false (.move (.tmp 1))) (.one (.pure (some 76) false (.move (.tmp 11))) (.one (.pure (some 77) false (.indexAddr 62 (.tmp 75) (.tmp 76))) (.one (.read (some 72) false (.load 25 (.tmp 71))) (.two (.mcall (some 73) false ⟨.value (.func 17), #[.tmp 68, .tmp 72], #[27, 25]⟩) (.one (.read (some 78) false (.load 25 (.tmp 77))) (.one (.mcall (some 79) false ⟨.value (.func 17), #[.tmp 74, .tmp 78], #[27, 25]⟩) (.one (.call (some 80) false ⟨.value (.func 16), #[.tmp 73, .tmp 79], #[41, 41]⟩) (.one (.pure (some 81) false (.unOp .not 4 (.tmp 80))) .done)))) (.read (some 78) false (.load 25 (.tmp 77))) (.one (.mcall (some 73) false ⟨.value (.func 17), #[.tmp 68, .tmp 72], #[27, 25]⟩) (.one (.mcall (some 79) false ⟨.value (.func 17), #[.tmp 74, .tmp 78], #[27, 25]⟩) (.one (.call (some 80) false ⟨.value (.func 16), #[.tmp 73, .tmp 79], #[41, 41]⟩) (.one (.pure (some 81) false (.unOp .not 4 (.tmp 80))) .done))))))))))))))
abbrev p_law21_FingerTurned_16 : PC := (.calm 0 14368 (.calm 1 14392 (.calm 2 14392 (.calm 3 14384 (.calm 6 14336 (.calm 7 15872 (.calm 8 15872 (.calm 9 15360 (.calm 4 14368 (.fork 5 (.calm 10 14336 (.act 11 (.act 12 (.calm 13 0 .done)))) 10 (.act 5 (.act 11 (.act 12 (.calm 13 0 .done))))))))))))))
abbrev g_law21_FingerTurned_16 : List Dg := [⟨0, 128, 295147905179352825856, .pure, true⟩, ⟨0, 2, 590295810358705651712, .pure, true⟩, ⟨0, 2048, 1180591620717411303424, .pure, true⟩, ⟨6, 1770887431076116955136, 2361183241434822606848, .pure, true⟩, ⟨8, 2361183241434822606848, 4722366482869645213696, .read, true⟩, ⟨17, 5017514388048998039552, 9444732965739290427392, .call, false⟩, ⟨0, 256, 18889465931478580854784, .pure, true⟩, ⟨0, 2, 37778931862957161709568, .pure, true⟩, ⟨0, 2048, 75557863725914323419136, .pure, true⟩, ⟨384, 113336795588871485128704, 151115727451828646838272, .pure, true⟩, ⟨512, 151115727451828646838272, 302231454903657293676544, .read, true⟩, ⟨1120, 321120920835135874531328, 604462909807314587353088, .call, false⟩, ⟨2080, 613907642773053877780480, 1208925819614629174706176, .call, true⟩, ⟨4096, 1208925819614629174706176, 2417851639229258349412352, .pure, true⟩]
abbrev q_law21_FingerTurned_16 : List Nat := [1005, 1011]
def s_law21_FingerTurned_17 : List AStep := [.pure (some 6) false (.assign (.const (.bool false)))]
abbrev p_law21_FingerTurned_17 : List Nat := [0]
def s_law21_FingerTurned_15 : List AStep := [.pure (some 66) false (.move (.tmp 11)), .pure (some 67) false (.binOp .add 3 (.tmp 66) (.const (.int .i64 1)) 3), .pure (some 11) false (.assign (.tmp 67))]
abbrev p_law21_FingerTurned_15 : List Nat := [0, 1, 2]
def s_law21_FingerTurned_18 : List AStep := [.pure (some 82) false (.move (.tmp 7)), .call (some 83) false ⟨.value (.func 15), #[.tmp 82], #[27]⟩, .pure (some 84) false (.move (.tmp 1)), .pure (some 85) false (.call (.mk (.builtin .len) #[.tmp 84] #[62])), .pure (some 86) false (.binOp .eql 3 (.tmp 83) (.tmp 85) 3), .pure (some 87) true (.move (.tmp 86)), .guard 87 true (.pure (some 88) false (.move (.tmp 8))), .guard 87 true (.call (some 89) false ⟨.value (.func 15), #[.tmp 88], #[27]⟩), .guard 87 true (.pure (some 90) false (.move (.tmp 1))), .guard 87 true (.pure (some 91) false (.call (.mk (.builtin .len) #[.tmp 90] #[62]))), .guard 87 true (.pure (some 92) false (.binOp .eql 3 (.tmp 89) (.tmp 91) 3)), .pure (some 93) false (.pick (.tmp 87) (.tmp 92) (.const (.bool false))), .pure (some 6) false (.assign (.tmp 93))]
abbrev p_law21_FingerTurned_18 : List Nat := [0, 1, 2, 3, 4, 5, 6, 7, 8, 9, 10, 11, 12]

/-! erewhile/erewhilelaw21.FingerMoves -/
abbrev n_law21_FingerMoves : Nat := 8
theorem func_law21_FingerMoves : Try.prog.funcs[n_law21_FingerMoves]? = some Try.f8 := Try.func8
theorem call_law21_FingerMoves : ∀ args w, (callFunc n_law21_FingerMoves args).run Try.prog w = .ok (.enter n_law21_FingerMoves args) w := Try.call8
theorem nt_law21_FingerMoves : Try.f8.ntmps = 102 := Try.ntmps8
theorem rs_law21_FingerMoves : Try.f8.results.toList = [.tmp 10] := by rw [Try.results8]
def s_law21_FingerMoves_0 : List AStep := [.eff (some 5) (.box 23 (.tmp 0)), .eff (some 8) (.box 25 (.tmp 3)), .eff (some 9) (.box 25 (.tmp 4)), .pure (some 10) false (.assign (.const (.bool false)))]
abbrev p_law21_FingerMoves_0 : List Nat := [0, 1, 2, 3]
def s_law21_FingerMoves_1 : List AStep := [.call (some 17) false ⟨.value (.func 9), #[], #[]⟩, .pure (some 18) false (.unOp .not 4 (.tmp 17))]
abbrev p_law21_FingerMoves_1 : List Nat := [0, 1]
def s_law21_FingerMoves_2 : List AStep := [.pure (some 10) false (.assign (.const (.bool false)))]
abbrev p_law21_FingerMoves_2 : List Nat := [0]
def s_law21_FingerMoves_3 : List AStep := [.pure (some 19) false (.move (.tmp 1)), .pure (some 20) false (.call (.mk (.builtin .len) #[.tmp 19] #[24])), .pure (some 21) false (.binOp .gtr 3 (.tmp 20) (.const (.int .i64 30)) 3)]
abbrev p_law21_FingerMoves_3 : List Nat := [0, 1, 2]
def s_law21_FingerMoves_4 : List AStep := [.pure (some 10) false (.assign (.const (.bool true)))]
abbrev p_law21_FingerMoves_4 : List Nat := [0]
def s_law21_FingerMoves_5 : List AStep := [.pure (some 22) false (.build 31 #[]), .pure (some 23) false (.makeInterface 31 (.tmp 22)), .read (some 24) false (.load 23 (.tmp 5)), .call (some 25) false ⟨.value (.func 10), #[.tmp 23, .tmp 24], #[56, 23]⟩, .pure (some 11) false (.assign (.tmp 25))]
abbrev p_law21_FingerMoves_5 : List Nat := [0, 1, 2, 3, 4]
def s_law21_FingerMoves_6 : List AStep := [.pure (some 12) false (.assign (.const (.int .i64 0)))]
abbrev p_law21_FingerMoves_6 : List Nat := [0]
def s_law21_FingerMoves_7 : List AStep := [.pure (some 26) false (.move (.tmp 12)), .pure (some 27) false (.move (.tmp 1)), .pure (some 28) false (.call (.mk (.builtin .len) #[.tmp 27] #[24])), .pure (some 29) false (.binOp .lss 3 (.tmp 26) (.tmp 28) 3)]
abbrev p_law21_FingerMoves_7 : List Nat := [0, 1, 2, 3]
def s_law21_FingerMoves_9 : SP := (.one (.pure (some 32) false (.move (.tmp 11))) (.one (.pure (some 33) false (.move (.tmp 1))) (.one (.pure (some 34) false (.move (.tmp 12))) (.one (.pure (some 35) false (.indexAddr 24 (.tmp 33) (.tmp 34))) (.one (.pure (some 36) false (.fieldAddr 34 (.tmp 35) 1)) (.one (.pure (some 38) false (.move (.tmp 1))) (.one (.pure (some 39) false (.move (.tmp 12))) (.one (.pure (some 40) false (.indexAddr 24 (.tmp 38) (.tmp 39))) (.one (.pure (some 41) false (.fieldAddr 34 (.tmp 40) 2)) (.one (.read (some 37) false (.load 29 (.tmp 36))) (.one (.read (some 42) false (.load 25 (.tmp 41))) (.one (.mcall (some 43) false ⟨.value (.func 13), #[.tmp 32, .tmp 37, .tmp 42], #[27, 29, 25]⟩) .done))))))))))))
abbrev p_law21_FingerMoves_9 : PC := (.calm 0 2048 (.calm 1 2104 (.calm 2 2104 (.calm 3 2096 (.calm 4 2080 (.calm 6 3840 (.calm 7 3840 (.calm 8 3584 (.calm 9 3072 (.calm 5 2048 (.calm 10 2048 (.act 11 .done))))))))))))
abbrev g_law21_FingerMoves_9 : List Dg := [⟨0, 2048, 4294967296, .pure, true⟩, ⟨0, 2, 8589934592, .pure, true⟩, ⟨0, 4096, 17179869184, .pure, true⟩, ⟨6, 25769803776, 34359738368, .pure, true⟩, ⟨8, 34359738368, 68719476736, .pure, true⟩, ⟨16, 68719476736, 137438953472, .read, true⟩, ⟨0, 2, 274877906944, .pure, true⟩, ⟨0, 4096, 549755813888, .pure, true⟩, ⟨192, 824633720832, 1099511627776, .pure, true⟩, ⟨256, 1099511627776, 2199023255552, .pure, true⟩, ⟨512, 2199023255552, 4398046511104, .read, true⟩, ⟨1057, 4539780431872, 8796093022208, .call, false⟩]
abbrev q_law21_FingerMoves_9 : List Nat := [1011]
def s_law21_FingerMoves_8 : List AStep := [.pure (some 30) false (.move (.tmp 12)), .pure (some 31) false (.binOp .add 3 (.tmp 30) (.const (.int .i64 1)) 3), .pure (some 12) false (.assign (.tmp 31))]
abbrev p_law21_FingerMoves_8 : List Nat := [0, 1, 2]
abbrev q_law21_FingerMoves_10 : List Nat := [1002]
def s_law21_FingerMoves_10 : List AStep := [.pure (some 44) false (.move (.tmp 11)), .pure (some 45) false (.move (.tmp 2)), .mcall (some 46) false ⟨.value (.func 11), #[.tmp 44, .tmp 45], #[27, 29]⟩]
abbrev p_law21_FingerMoves_10 : List Nat := [0, 1, 2]
def s_law21_FingerMoves_11 : SP := (.one (.pure (some 47) false (.move (.tmp 11))) (.one (.pure (some 50) false (.move (.tmp 11))) (.one (.read (some 48) false (.load 25 (.tmp 8))) (.two (.mcall (some 49) false ⟨.value (.func 17), #[.tmp 47, .tmp 48], #[27, 25]⟩) (.one (.read (some 51) false (.load 25 (.tmp 9))) (.one (.mcall (some 52) false ⟨.value (.func 17), #[.tmp 50, .tmp 51], #[27, 25]⟩) (.one (.pure (some 13) false (.assign (.tmp 49))) (.one (.pure (some 14) false (.assign (.tmp 52))) .done)))) (.read (some 51) false (.load 25 (.tmp 9))) (.one (.mcall (some 49) false ⟨.value (.func 17), #[.tmp 47, .tmp 48], #[27, 25]⟩) (.one (.mcall (some 52) false ⟨.value (.func 17), #[.tmp 50, .tmp 51], #[27, 25]⟩) (.one (.pure (some 13) false (.assign (.tmp 49))) (.one (.pure (some 14) false (.assign (.tmp 52))) .done))))))))
abbrev p_law21_FingerMoves_11 : PC := (.calm 0 228 (.calm 3 224 (.calm 1 228 (.fork 2 (.calm 4 224 (.act 5 (.calm 6 128 (.calm 7 0 .done)))) 4 (.act 2 (.act 5 (.calm 6 128 (.calm 7 0 .done))))))))
abbrev g_law21_FingerMoves_11 : List Dg := [⟨0, 2048, 140737488355328, .pure, true⟩, ⟨0, 256, 281474976710656, .read, true⟩, ⟨3, 422212465065984, 562949953421312, .call, false⟩, ⟨0, 2048, 1125899906842624, .pure, true⟩, ⟨0, 512, 2251799813685248, .read, true⟩, ⟨28, 3377699720527872, 4503599627370496, .call, false⟩, ⟨39, 562949953421312, 8192, .pure, true⟩, ⟨127, 4503599627370496, 16384, .pure, true⟩]
abbrev q_law21_FingerMoves_11 : List Nat := [1002, 1005]
abbrev q_law21_FingerMoves_12 : List Nat := [1003]
def s_law21_FingerMoves_12 : List AStep := [.pure (some 53) false (.move (.tmp 11)), .pure (some 54) false (.move (.tmp 2)), .read (some 55) false (.load 25 (.tmp 8)), .mcall (some 56) false ⟨.value (.func 13), #[.tmp 53, .tmp 54, .tmp 55], #[27, 29, 25]⟩]
abbrev p_law21_FingerMoves_12 : List Nat := [0, 1, 2, 3]
abbrev q_law21_FingerMoves_13 : List Nat := [1003]
def s_law21_FingerMoves_13 : List AStep := [.pure (some 57) false (.move (.tmp 11)), .pure (some 58) false (.move (.tmp 2)), .read (some 59) false (.load 25 (.tmp 9)), .mcall (some 60) false ⟨.value (.func 13), #[.tmp 57, .tmp 58, .tmp 59], #[27, 29, 25]⟩]
abbrev p_law21_FingerMoves_13 : List Nat := [0, 1, 2, 3]
def s_law21_FingerMoves_14 : SP := (.one (.pure (some 62) false (.slice 25 (.tmp 8) none none none)) (.one (.pure (some 65) false (.slice 25 (.tmp 9) none none none)) (.one (.read (some 61) false (.load 23 (.tmp 5))) (.one (.read (some 64) false (.load 23 (.tmp 5))) (.one (.call (some 63) false ⟨.value (.func 19), #[.tmp 61, .tmp 62], #[23, 50]⟩) (.one (.call (some 66) false ⟨.value (.func 19), #[.tmp 64, .tmp 65], #[23, 50]⟩) (.one (.pure (some 67) false (.binOp .eql 48 (.tmp 63) (.tmp 66) 48)) (.one (.pure (some 15) false (.assign (.tmp 67))) .done))))))))
abbrev p_law21_FingerMoves_14 : PC := (.calm 1 228 (.calm 4 224 (.calm 0 228 (.calm 3 224 (.act 2 (.act 5 (.calm 6 128 (.calm 7 0 .done))))))))
abbrev g_law21_FingerMoves_14 : List Dg := [⟨0, 32, 2305843009213693952, .read, true⟩, ⟨0, 256, 4611686018427387904, .pure, true⟩, ⟨3, 6917529027641081856, 9223372036854775808, .call, true⟩, ⟨0, 32, 18446744073709551616, .read, true⟩, ⟨0, 512, 36893488147419103232, .pure, true⟩, ⟨28, 55340232221128654848, 73786976294838206464, .call, true⟩, ⟨36, 83010348331692982272, 147573952589676412928, .pure, true⟩, ⟨127, 147573952589676412928, 32768, .pure, true⟩]
abbrev q_law21_FingerMoves_14 : List Nat := []
abbrev q_law21_FingerMoves_15 : List Nat := [1005]
def s_law21_FingerMoves_15 : List AStep := [.pure (some 68) false (.move (.tmp 15)), .pure (some 69) false (.unOp .not 4 (.tmp 68)), .pure (some 70) true (.move (.tmp 69)), .guard 70 true (.pure (some 71) false (.move (.tmp 11))), .guard 70 true (.read (some 72) false (.load 25 (.tmp 8))), .guard 70 true (.mcall (some 73) false ⟨.value (.func 17), #[.tmp 71, .tmp 72], #[27, 25]⟩), .guard 70 true (.pure (some 74) false (.move (.tmp 13))), .guard 70 true (.call (some 75) false ⟨.value (.func 16), #[.tmp 73, .tmp 74], #[41, 41]⟩), .guard 70 true (.pure (some 76) false (.unOp .not 4 (.tmp 75))), .pure (some 77) false (.pick (.tmp 70) (.tmp 76) (.const (.bool false)))]
abbrev p_law21_FingerMoves_15 : List Nat := [0, 1, 2, 3, 4, 5, 6, 7, 8, 9]
def s_law21_FingerMoves_16 : List AStep := [.pure (some 10) false (.assign (.const (.bool false)))]
abbrev p_law21_FingerMoves_16 : List Nat := [0]
abbrev q_law21_FingerMoves_17 : List Nat := [1002]
def s_law21_FingerMoves_17 : List AStep := [.pure (some 78) false (.move (.tmp 11)), .read (some 79) false (.load 25 (.tmp 9)), .mcall (some 80) false ⟨.value (.func 17), #[.tmp 78, .tmp 79], #[27, 25]⟩, .pure (some 16) false (.assign (.tmp 80))]
abbrev p_law21_FingerMoves_17 : List Nat := [0, 1, 2, 3]
def s_law21_FingerMoves_18 : List AStep := [.pure (some 81) false (.move (.tmp 16)), .pure (some 82) false (.call (.mk (.builtin .len) #[.tmp 81] #[41])), .pure (some 83) false (.move (.tmp 14)), .pure (some 84) false (.call (.mk (.builtin .len) #[.tmp 83] #[41])), .pure (some 85) false (.binOp .add 3 (.tmp 84) (.const (.int .i64 1)) 3), .pure (some 86) false (.binOp .neq 3 (.tmp 82) (.tmp 85) 3)]
abbrev p_law21_FingerMoves_18 : List Nat := [0, 1, 2, 3, 4, 5]
def s_law21_FingerMoves_19 : List AStep := [.pure (some 10) false (.assign (.const (.bool false)))]
abbrev p_law21_FingerMoves_19 : List Nat := [0]
abbrev q_law21_FingerMoves_20 : List Nat := [1002]
def s_law21_FingerMoves_20 : List AStep := [.pure (some 87) false (.move (.tmp 11)), .pure (some 88) false (.move (.tmp 2)), .mcall (some 89) false ⟨.value (.func 11), #[.tmp 87, .tmp 88], #[27, 29]⟩]
abbrev p_law21_FingerMoves_20 : List Nat := [0, 1, 2]
abbrev q_law21_FingerMoves_21 : List Nat := [1002, 1008]
def s_law21_FingerMoves_21 : List AStep := [.pure (some 90) false (.move (.tmp 11)), .read (some 91) false (.load 25 (.tmp 8)), .mcall (some 92) false ⟨.value (.func 17), #[.tmp 90, .tmp 91], #[27, 25]⟩, .pure (some 93) false (.move (.tmp 13)), .call (some 94) false ⟨.value (.func 16), #[.tmp 92, .tmp 93], #[41, 41]⟩, .pure (some 95) true (.move (.tmp 94)), .guard 95 true (.pure (some 96) false (.move (.tmp 11))), .guard 95 true (.read (some 97) false (.load 25 (.tmp 9))), .guard 95 true (.mcall (some 98) false ⟨.value (.func 17), #[.tmp 96, .tmp 97], #[27, 25]⟩), .guard 95 true (.pure (some 99) false (.move (.tmp 14))), .guard 95 true (.call (some 100) false ⟨.value (.func 16), #[.tmp 98, .tmp 99], #[41, 41]⟩), .pure (some 101) false (.pick (.tmp 95) (.tmp 100) (.const (.bool false))), .pure (some 10) false (.assign (.tmp 101))]
abbrev p_law21_FingerMoves_21 : List Nat := [0, 1, 2, 3, 4, 5, 6, 7, 8, 9, 10, 11, 12]

/-! erewhile/erewhilelaw21.awake -/
abbrev n_law21_awake : Nat := 9
theorem func_law21_awake : Try.prog.funcs[n_law21_awake]? = some Try.f9 := Try.func9
theorem call_law21_awake : ∀ args w, (callFunc n_law21_awake args).run Try.prog w = .ok (.enter n_law21_awake args) w := Try.call9
theorem nt_law21_awake : Try.f9.ntmps = 35 := Try.ntmps9
theorem rs_law21_awake : Try.f9.results.toList = [.tmp 0] := by rw [Try.results9]
def s_law21_awake_0 : List AStep := [.pure (some 0) false (.assign (.const (.bool false)))]
abbrev p_law21_awake_0 : List Nat := [0]
def s_law21_awake_1 : List AStep := [.pure (some 4) false (.build 31 #[]), .pure (some 5) false (.makeInterface 31 (.tmp 4)), .pure (some 6) false (.build 23 #[(0, .const (.int .u8 1))]), .call (some 7) false ⟨.value (.func 10), #[.tmp 5, .tmp 6], #[56, 23]⟩, .pure (some 1) false (.assign (.tmp 7))]
abbrev p_law21_awake_1 : List Nat := [0, 1, 2, 3, 4]
def s_law21_awake_2 : List AStep := [.pure (some 8) false (.build 25 #[(0, .const (.int .u8 7))]), .eff (some 2) (.alloc 25), .eff none (.store 25 (.tmp 2) (.tmp 8))]
abbrev p_law21_awake_2 : List Nat := [0, 1, 2]
abbrev q_law21_awake_3 : List Nat := [1002]
def s_law21_awake_3 : List AStep := [.pure (some 9) false (.move (.tmp 1)), .read (some 10) false (.load 25 (.tmp 2)), .mcall (some 11) false ⟨.value (.func 13), #[.tmp 9, .const (.int .u64 3), .tmp 10], #[27, 29, 25]⟩]
abbrev p_law21_awake_3 : List Nat := [0, 1, 2]
abbrev q_law21_awake_4 : List Nat := [1002]
def s_law21_awake_4 : List AStep := [.pure (some 12) false (.move (.tmp 1)), .read (some 13) false (.load 25 (.tmp 2)), .mcall (some 14) false ⟨.value (.func 13), #[.tmp 12, .const (.int .u64 1), .tmp 13], #[27, 29, 25]⟩]
abbrev p_law21_awake_4 : List Nat := [0, 1, 2]
abbrev q_law21_awake_5 : List Nat := [1002]
def s_law21_awake_5 : List AStep := [.pure (some 15) false (.move (.tmp 1)), .read (some 16) false (.load 25 (.tmp 2)), .mcall (some 17) false ⟨.value (.func 17), #[.tmp 15, .tmp 16], #[27, 25]⟩, .pure (some 3) false (.assign (.tmp 17))]
abbrev p_law21_awake_5 : List Nat := [0, 1, 2, 3]
abbrev q_law21_awake_6 : List Nat := [1001]
def s_law21_awake_6 : List AStep := [.pure (some 18) false (.move (.tmp 1)), .mcall (some 19) false ⟨.value (.func 11), #[.tmp 18, .const (.int .u64 1)], #[27, 29]⟩]
abbrev p_law21_awake_6 : List Nat := [0, 1]
abbrev q_law21_awake_7 : List Nat := [1006]
def s_law21_awake_7 : List AStep := [.pure (some 20) false (.move (.tmp 3)), .eff (some 21) (.buildSlice 41 2 #[(0, .const (.int .u64 1)), (1, .const (.int .u64 3))]), .call (some 22) false ⟨.value (.func 16), #[.tmp 20, .tmp 21], #[41, 41]⟩, .pure (some 23) true (.move (.tmp 22)), .guard 23 true (.pure (some 24) false (.move (.tmp 1))), .guard 23 true (.read (some 25) false (.load 25 (.tmp 2))), .guard 23 true (.mcall (some 26) false ⟨.value (.func 17), #[.tmp 24, .tmp 25], #[27, 25]⟩), .guard 23 true (.eff (some 27) (.buildSlice 41 1 #[(0, .const (.int .u64 3))])), .guard 23 true (.call (some 28) false ⟨.value (.func 16), #[.tmp 26, .tmp 27], #[41, 41]⟩), .pure (some 29) false (.pick (.tmp 23) (.tmp 28) (.const (.bool false))), .pure (some 30) true (.move (.tmp 29)), .guard 30 true (.pure (some 31) false (.move (.tmp 1))), .guard 30 true (.call (some 32) false ⟨.value (.func 15), #[.tmp 31], #[27]⟩), .guard 30 true (.pure (some 33) false (.binOp .eql 3 (.tmp 32) (.const (.int .i64 1)) 3)), .pure (some 34) false (.pick (.tmp 30) (.tmp 33) (.const (.bool false))), .pure (some 0) false (.assign (.tmp 34))]
abbrev p_law21_awake_7 : List Nat := [0, 1, 2, 3, 4, 5, 6, 7, 8, 9, 10, 11, 12, 13, 14, 15]

/-! erewhile/finger.New -/
abbrev n_finger_New : Nat := 10
theorem func_finger_New : Try.prog.funcs[n_finger_New]? = some Try.f10 := Try.func10
theorem call_finger_New : ∀ args w, (callFunc n_finger_New args).run Try.prog w = .ok (.enter n_finger_New args) w := Try.call10
theorem nt_finger_New : Try.f10.ntmps = 9 := Try.ntmps10
theorem rs_finger_New : Try.f10.results.toList = [.tmp 4] := by rw [Try.results10]
def s_finger_New_0 : List AStep := [.eff (some 3) (.box 23 (.tmp 1)), .pure (some 4) false (.assign (.const (.pointer none)))]
abbrev p_finger_New_0 : List Nat := [0, 1]
def s_finger_New_1 : List AStep := [.pure (some 5) false (.move (.tmp 0)), .read (some 6) false (.load 23 (.tmp 3)), .pure (some 7) false (.build 60 #[(0, .tmp 5), (1, .tmp 6)]), .eff (some 8) (.box 60 (.tmp 7)), .pure (some 4) false (.assign (.tmp 8))]
abbrev p_finger_New_1 : List Nat := [0, 1, 2, 3, 4]

/-! (*erewhile/finger.Index).Drop -/
abbrev n_finger_Index_Drop : Nat := 11
theorem func_finger_Index_Drop : Try.prog.funcs[n_finger_Index_Drop]? = some Try.f11 := Try.func11
theorem call_finger_Index_Drop : ∀ args w, (callFunc n_finger_Index_Drop args).run Try.prog w = .ok (.enter n_finger_Index_Drop args) w := Try.call11
theorem nt_finger_Index_Drop : Try.f11.ntmps = 50 := Try.ntmps11
theorem rs_finger_Index_Drop : Try.f11.results.toList = [] := by rw [Try.results11]
def s_finger_Index_Drop_0 : List AStep := [.eff (some 3) (.box 29 (.tmp 1))]
abbrev p_finger_Index_Drop_0 : List Nat := [0]
def s_finger_Index_Drop_1 : List AStep := [.pure (some 6) false (.move (.tmp 0)), .pure (some 7) false (.binOp .eql 27 (.tmp 6) (.const (.pointer none)) 27)]
abbrev p_finger_Index_Drop_1 : List Nat := [0, 1]
def s_finger_Index_Drop_2 : SP := (.one (.pure (some 9) false (.move (.tmp 0))) (.one (.pure (some 10) false (.nilCheck (.tmp 9))) (.one (.pure (some 11) false (.fieldAddr 60 (.tmp 10) 2)) (.one (.read (some 12) false (.load 57 (.tmp 11))) (.one (.read (some 13) false (.load 29 (.tmp 3))) (.one (.read (some 14) false (.lookup 57 (.tmp 12) (.tmp 13) true)) (.one (.pure (some 8) false (.move (.tmp 14))) (.one (.pure (some 15) false (.extract (.tmp 8) 0)) (.one (.pure (some 16) false (.extract (.tmp 8) 1)) (.one (.eff (some 4) (.alloc 48)) (.one (.eff none (.store 48 (.tmp 4) (.tmp 15))) (.one (.pure (some 5) false (.assign (.tmp 16))) .done))))))))))))
abbrev p_finger_Index_Drop_2 : PC := (.calm 0 3566 (.calm 1 3564 (.calm 2 3560 (.calm 3 3552 (.calm 4 3552 (.calm 5 3520 (.calm 6 3456 (.calm 7 3072 (.calm 8 2048 (.act 9 (.act 10 (.calm 11 0 .done))))))))))))
abbrev g_finger_Index_Drop_2 : List Dg := [⟨0, 1, 512, .pure, true⟩, ⟨1, 512, 1024, .pure, true⟩, ⟨2, 1024, 2048, .pure, true⟩, ⟨4, 2048, 4096, .read, true⟩, ⟨0, 8, 8192, .read, true⟩, ⟨24, 12288, 16384, .read, true⟩, ⟨32, 16384, 256, .pure, true⟩, ⟨64, 256, 32768, .pure, true⟩, ⟨64, 256, 65536, .pure, true⟩, ⟨0, 0, 16, .eff, true⟩, ⟨767, 32784, 0, .eff, false⟩, ⟨2047, 65536, 32, .pure, true⟩]
abbrev q_finger_Index_Drop_2 : List Nat := []
def s_finger_Index_Drop_3 : List AStep := [.pure (some 17) false (.move (.tmp 5)), .pure (some 18) false (.unOp .not 4 (.tmp 17))]
abbrev p_finger_Index_Drop_3 : List Nat := [0, 1]
def s_finger_Index_Drop_4 : SP := (.one (.pure (some 19) false (.move (.tmp 0))) (.one (.pure (some 20) false (.nilCheck (.tmp 19))) (.one (.pure (some 21) false (.fieldAddr 60 (.tmp 20) 2)) (.one (.read (some 22) false (.load 57 (.tmp 21))) (.one (.read (some 23) false (.load 29 (.tmp 3))) (.one (.eff none (.call (.mk (.builtin .delete) #[.tmp 22, .tmp 23] #[57, 29]))) .done))))))
abbrev p_finger_Index_Drop_4 : PC := (.calm 0 46 (.calm 1 44 (.calm 2 40 (.calm 3 32 (.calm 4 32 (.act 5 .done))))))
abbrev g_finger_Index_Drop_4 : List Dg := [⟨0, 1, 524288, .pure, true⟩, ⟨1, 524288, 1048576, .pure, true⟩, ⟨2, 1048576, 2097152, .pure, true⟩, ⟨4, 2097152, 4194304, .read, true⟩, ⟨0, 8, 8388608, .read, true⟩, ⟨24, 12582912, 0, .eff, false⟩]
abbrev q_finger_Index_Drop_4 : List Nat := []
def s_finger_Index_Drop_5 : SP := (.one (.pure (some 24) false (.move (.tmp 0))) (.one (.pure (some 25) false (.nilCheck (.tmp 24))) (.one (.pure (some 26) false (.fieldAddr 60 (.tmp 25) 3)) (.one (.pure (some 29) false (.move (.tmp 0))) (.one (.pure (some 30) false (.nilCheck (.tmp 29))) (.one (.pure (some 31) false (.fieldAddr 60 (.tmp 30) 3)) (.one (.pure (some 35) false (.makeFunc (.func 21) #[] #[.tmp 3])) (.one (.read (some 32) false (.load 58 (.tmp 31))) (.one (.read (some 33) false (.load 48 (.tmp 4))) (.one (.read (some 34) false (.lookup 58 (.tmp 32) (.tmp 33) false)) (.three (.read (some 27) false (.load 58 (.tmp 26))) (.two (.read (some 28) false (.load 48 (.tmp 4))) (.one (.mcall (some 36) false ⟨.value (.func 20), #[.tmp 34, .tmp 35], #[41, 67]⟩) (.one (.eff none (.mapUpdate 58 (.tmp 27) (.tmp 28) (.tmp 36))) .done)) (.mcall (some 36) false ⟨.value (.func 20), #[.tmp 34, .tmp 35], #[41, 67]⟩) (.one (.read (some 28) false (.load 48 (.tmp 4))) (.one (.eff none (.mapUpdate 58 (.tmp 27) (.tmp 28) (.tmp 36))) .done))) (.read (some 28) false (.load 48 (.tmp 4))) (.two (.read (some 27) false (.load 58 (.tmp 26))) (.one (.mcall (some 36) false ⟨.value (.func 20), #[.tmp 34, .tmp 35], #[41, 67]⟩) (.one (.eff none (.mapUpdate 58 (.tmp 27) (.tmp 28) (.tmp 36))) .done)) (.mcall (some 36) false ⟨.value (.func 20), #[.tmp 34, .tmp 35], #[41, 67]⟩) (.one (.read (some 27) false (.load 58 (.tmp 26))) (.one (.eff none (.mapUpdate 58 (.tmp 27) (.tmp 28) (.tmp 36))) .done))) (.mcall (some 36) false ⟨.value (.func 20), #[.tmp 34, .tmp 35], #[41, 67]⟩) (.one (.read (some 27) false (.load 58 (.tmp 26))) (.one (.read (some 28) false (.load 48 (.tmp 4))) (.one (.eff none (.mapUpdate 58 (.tmp 27) (.tmp 28) (.tmp 36))) .done))))))))))))))
abbrev p_finger_Index_Drop_5 : PC := (.calm 0 8206 (.calm 1 8204 (.calm 2 8200 (.calm 5 13760 (.calm 6 13696 (.calm 7 13568 (.calm 11 12288 (.calm 8 13312 (.calm 9 13312 (.calm 10 12288 (.tri 3 (.fork 4 (.act 12 (.act 13 .done)) 12 (.calm 4 8192 (.act 13 .done))) 4 (.fork 3 (.act 12 (.act 13 .done)) 12 (.calm 3 8192 (.act 13 .done))) 12 (.calm 3 8192 (.calm 4 8192 (.act 13 .done))))))))))))))
abbrev g_finger_Index_Drop_5 : List Dg := [⟨0, 1, 16777216, .pure, true⟩, ⟨1, 16777216, 33554432, .pure, true⟩, ⟨2, 33554432, 67108864, .pure, true⟩, ⟨4, 67108864, 134217728, .read, true⟩, ⟨0, 16, 268435456, .read, true⟩, ⟨0, 1, 536870912, .pure, true⟩, ⟨32, 536870912, 1073741824, .pure, true⟩, ⟨64, 1073741824, 2147483648, .pure, true⟩, ⟨128, 2147483648, 4294967296, .read, true⟩, ⟨0, 16, 8589934592, .read, true⟩, ⟨768, 12884901888, 17179869184, .read, true⟩, ⟨0, 8, 34359738368, .pure, true⟩, ⟨3072, 51539607552, 68719476736, .call, false⟩, ⟨8191, 69122129920, 0, .eff, false⟩]
abbrev q_finger_Index_Drop_5 : List Nat := [1012]
def s_finger_Index_Drop_6 : SP := (.one (.pure (some 37) false (.move (.tmp 0))) (.one (.pure (some 38) false (.nilCheck (.tmp 37))) (.one (.pure (some 39) false (.fieldAddr 60 (.tmp 38) 3)) (.one (.read (some 40) false (.load 58 (.tmp 39))) (.one (.read (some 41) false (.load 48 (.tmp 4))) (.one (.read (some 42) false (.lookup 58 (.tmp 40) (.tmp 41) false)) (.one (.pure (some 43) false (.call (.mk (.builtin .len) #[.tmp 42] #[41]))) (.one (.pure (some 44) false (.binOp .eql 3 (.tmp 43) (.const (.int .i64 0)) 3)) .done))))))))
abbrev p_finger_Index_Drop_6 : PC := (.calm 0 238 (.calm 1 236 (.calm 2 232 (.calm 3 224 (.calm 4 224 (.calm 5 192 (.calm 6 128 (.calm 7 0 .done))))))))
abbrev g_finger_Index_Drop_6 : List Dg := [⟨0, 1, 137438953472, .pure, true⟩, ⟨1, 137438953472, 274877906944, .pure, true⟩, ⟨2, 274877906944, 549755813888, .pure, true⟩, ⟨4, 549755813888, 1099511627776, .read, true⟩, ⟨0, 16, 2199023255552, .read, true⟩, ⟨24, 3298534883328, 4398046511104, .read, true⟩, ⟨32, 4398046511104, 8796093022208, .pure, true⟩, ⟨64, 8796093022208, 17592186044416, .pure, true⟩]
abbrev q_finger_Index_Drop_6 : List Nat := []
def s_finger_Index_Drop_7 : SP := (.one (.pure (some 45) false (.move (.tmp 0))) (.one (.pure (some 46) false (.nilCheck (.tmp 45))) (.one (.pure (some 47) false (.fieldAddr 60 (.tmp 46) 3)) (.one (.read (some 48) false (.load 58 (.tmp 47))) (.one (.read (some 49) false (.load 48 (.tmp 4))) (.one (.eff none (.call (.mk (.builtin .delete) #[.tmp 48, .tmp 49] #[58, 48]))) .done))))))
abbrev p_finger_Index_Drop_7 : PC := (.calm 0 46 (.calm 1 44 (.calm 2 40 (.calm 3 32 (.calm 4 32 (.act 5 .done))))))
abbrev g_finger_Index_Drop_7 : List Dg := [⟨0, 1, 35184372088832, .pure, true⟩, ⟨1, 35184372088832, 70368744177664, .pure, true⟩, ⟨2, 70368744177664, 140737488355328, .pure, true⟩, ⟨4, 140737488355328, 281474976710656, .read, true⟩, ⟨0, 16, 562949953421312, .read, true⟩, ⟨24, 844424930131968, 0, .eff, false⟩]
abbrev q_finger_Index_Drop_7 : List Nat := []

/-! erewhile/erewhileref21.Drop -/
abbrev n_ref21_Drop : Nat := 12
theorem func_ref21_Drop : Try.prog.funcs[n_ref21_Drop]? = some Try.f12 := Try.func12
theorem call_ref21_Drop : ∀ args w, (callFunc n_ref21_Drop args).run Try.prog w = .ok (.enter n_ref21_Drop args) w := Try.call12
theorem nt_ref21_Drop : Try.f12.ntmps = 28 := Try.ntmps12
theorem rs_ref21_Drop : Try.f12.results.toList = [.tmp 4] := by rw [Try.results12]
def s_ref21_Drop_0 : List AStep := [.pure (some 4) false (.assign (.const (.slice none 0 0)))]
abbrev p_ref21_Drop_0 : List Nat := [0]
def s_ref21_Drop_1 : List AStep := [.pure (some 5) false (.assign (.const (.slice none 0 0)))]
abbrev p_ref21_Drop_1 : List Nat := [0]
def s_ref21_Drop_2 : List AStep := [.pure (some 6) false (.assign (.const (.int .i64 0)))]
abbrev p_ref21_Drop_2 : List Nat := [0]
def s_ref21_Drop_3 : List AStep := [.pure (some 7) false (.move (.tmp 6)), .pure (some 8) false (.move (.tmp 0)), .pure (some 9) false (.call (.mk (.builtin .len) #[.tmp 8] #[32])), .pure (some 10) false (.binOp .lss 3 (.tmp 7) (.tmp 9) 3)]
abbrev p_ref21_Drop_3 : List Nat := [0, 1, 2, 3]
def s_ref21_Drop_5 : List AStep := [.pure (some 13) false (.move (.tmp 0)), .pure (some 14) false (.move (.tmp 6)), .pure (some 15) false (.indexAddr 32 (.tmp 13) (.tmp 14)), .pure (some 16) false (.fieldAddr 69 (.tmp 15) 0), .read (some 17) false (.load 29 (.tmp 16)), .pure (some 18) false (.move (.tmp 1)), .pure (some 19) false (.binOp .neq 29 (.tmp 17) (.tmp 18) 29)]
abbrev p_ref21_Drop_5 : List Nat := [0, 1, 2, 3, 4, 5, 6]
def s_ref21_Drop_6 : List AStep := [.pure (some 20) false (.move (.tmp 5)), .pure (some 21) false (.move (.tmp 0)), .pure (some 22) false (.move (.tmp 6)), .pure (some 23) false (.indexAddr 32 (.tmp 21) (.tmp 22)), .read (some 24) false (.load 69 (.tmp 23)), .eff (some 25) (.buildSlice 32 1 #[(0, .tmp 24)]), .eff (some 26) (.call (.mk (.builtin .append) #[.tmp 20, .tmp 25] #[32, 32])), .pure (some 5) false (.assign (.tmp 26))]
abbrev p_ref21_Drop_6 : List Nat := [0, 1, 2, 3, 4, 5, 6, 7]
def s_ref21_Drop_4 : List AStep := [.pure (some 11) false (.move (.tmp 6)), .pure (some 12) false (.binOp .add 3 (.tmp 11) (.const (.int .i64 1)) 3), .pure (some 6) false (.assign (.tmp 12))]
abbrev p_ref21_Drop_4 : List Nat := [0, 1, 2]
def s_ref21_Drop_7 : List AStep := [.pure (some 27) false (.move (.tmp 5)), .pure (some 4) false (.assign (.tmp 27))]
abbrev p_ref21_Drop_7 : List Nat := [0, 1]

/-! (*erewhile/finger.Index).Put -/
abbrev n_finger_Index_Put : Nat := 13
theorem func_finger_Index_Put : Try.prog.funcs[n_finger_Index_Put]? = some Try.f13 := Try.func13
theorem call_finger_Index_Put : ∀ args w, (callFunc n_finger_Index_Put args).run Try.prog w = .ok (.enter n_finger_Index_Put args) w := Try.call13
theorem nt_finger_Index_Put : Try.f13.ntmps = 59 := Try.ntmps13
theorem rs_finger_Index_Put : Try.f13.results.toList = [] := by rw [Try.results13]
def s_finger_Index_Put_0 : List AStep := [.eff (some 5) (.box 25 (.tmp 2))]
abbrev p_finger_Index_Put_0 : List Nat := [0]
def s_finger_Index_Put_1 : List AStep := [.pure (some 10) false (.move (.tmp 0)), .pure (some 11) false (.binOp .eql 27 (.tmp 10) (.const (.pointer none)) 27)]
abbrev p_finger_Index_Put_1 : List Nat := [0, 1]
def s_finger_Index_Put_2 : List AStep := [.pure (some 12) false (.move (.tmp 0)), .read (some 13) false (.load 25 (.tmp 5)), .call (some 14) false ⟨.value (.func 22), #[.tmp 12, .tmp 13], #[27, 25]⟩, .eff (some 6) (.alloc 48), .eff none (.store 48 (.tmp 6) (.tmp 14))]
abbrev p_finger_Index_Put_2 : List Nat := [0, 1, 2, 3, 4]
abbrev q_finger_Index_Put_3 : List Nat := [1002]
def s_finger_Index_Put_3 : List AStep := [.pure (some 15) false (.move (.tmp 0)), .pure (some 16) false (.move (.tmp 1)), .mcall (some 17) false ⟨.value (.func 11), #[.tmp 15, .tmp 16], #[27, 29]⟩]
abbrev p_finger_Index_Put_3 : List Nat := [0, 1, 2]
def s_finger_Index_Put_4 : List AStep := [.pure (some 18) false (.move (.tmp 0)), .pure (some 19) false (.nilCheck (.tmp 18)), .pure (some 20) false (.fieldAddr 60 (.tmp 19) 2), .read (some 21) false (.load 57 (.tmp 20)), .pure (some 22) false (.binOp .eql 57 (.tmp 21) (.const (.map none)) 57)]
abbrev p_finger_Index_Put_4 : List Nat := [0, 1, 2, 3, 4]
def s_finger_Index_Put_5 : List AStep := [.pure (some 23) false (.move (.tmp 0)), .pure (some 24) false (.move (.tmp 0)), .eff (some 25) (.makeMap 57 none), .eff (some 26) (.makeMap 58 none), .pure (some 27) false (.nilCheck (.tmp 23)), .pure (some 28) false (.fieldAddr 60 (.tmp 27) 2), .eff none (.store 57 (.tmp 28) (.tmp 25)), .pure (some 29) false (.nilCheck (.tmp 24)), .pure (some 30) false (.fieldAddr 60 (.tmp 29) 3), .eff none (.store 58 (.tmp 30) (.tmp 26))]
abbrev p_finger_Index_Put_5 : List Nat := [0, 1, 2, 3, 4, 5, 6, 7, 8, 9]
def s_finger_Index_Put_6 : SP := (.one (.pure (some 31) false (.move (.tmp 0))) (.one (.pure (some 32) false (.nilCheck (.tmp 31))) (.one (.pure (some 33) false (.fieldAddr 60 (.tmp 32) 2)) (.one (.pure (some 35) false (.move (.tmp 1))) (.one (.read (some 34) false (.load 57 (.tmp 33))) (.one (.read (some 36) false (.load 48 (.tmp 6))) (.one (.eff none (.mapUpdate 57 (.tmp 34) (.tmp 35) (.tmp 36))) .done)))))))
abbrev p_finger_Index_Put_6 : PC := (.calm 0 78 (.calm 1 76 (.calm 2 72 (.calm 4 64 (.calm 3 64 (.calm 5 64 (.act 6 .done)))))))
abbrev g_finger_Index_Put_6 : List Dg := [⟨0, 1, 2147483648, .pure, true⟩, ⟨1, 2147483648, 4294967296, .pure, true⟩, ⟨2, 4294967296, 8589934592, .pure, true⟩, ⟨4, 8589934592, 17179869184, .read, true⟩, ⟨0, 2, 34359738368, .pure, true⟩, ⟨0, 64, 68719476736, .read, true⟩, ⟨63, 120259084288, 0, .eff, false⟩]
abbrev q_finger_Index_Put_6 : List Nat := []
def s_finger_Index_Put_7 : SP := (.one (.pure (some 37) false (.move (.tmp 0))) (.one (.pure (some 38) false (.nilCheck (.tmp 37))) (.one (.pure (some 39) false (.fieldAddr 60 (.tmp 38) 3)) (.one (.read (some 40) false (.load 58 (.tmp 39))) (.one (.read (some 41) false (.load 48 (.tmp 6))) (.one (.read (some 42) false (.lookup 58 (.tmp 40) (.tmp 41) false)) (.one (.pure (some 7) false (.assign (.tmp 42))) .done)))))))
abbrev p_finger_Index_Put_7 : PC := (.calm 0 110 (.calm 1 108 (.calm 2 104 (.calm 3 96 (.calm 4 96 (.calm 5 64 (.calm 6 0 .done)))))))
abbrev g_finger_Index_Put_7 : List Dg := [⟨0, 1, 137438953472, .pure, true⟩, ⟨1, 137438953472, 274877906944, .pure, true⟩, ⟨2, 274877906944, 549755813888, .pure, true⟩, ⟨4, 549755813888, 1099511627776, .read, true⟩, ⟨0, 64, 2199023255552, .read, true⟩, ⟨24, 3298534883328, 4398046511104, .read, true⟩, ⟨63, 4398046511104, 128, .pure, true⟩]
abbrev q_finger_Index_Put_7 : List Nat := []
def s_finger_Index_Put_8 : List AStep := [.pure (some 44) false (.move (.tmp 7)), .pure (some 45) false (.move (.tmp 1)), .call (some 46) false ⟨.value (.func 23), #[.tmp 44, .tmp 45], #[41, 29]⟩, .pure (some 43) false (.move (.tmp 46)), .pure (some 47) false (.extract (.tmp 43) 0), .pure (some 48) false (.extract (.tmp 43) 1), .pure (some 8) false (.assign (.tmp 47)), .pure (some 9) false (.assign (.tmp 48))]
abbrev p_finger_Index_Put_8 : List Nat := [0, 1, 2, 3, 4, 5, 6, 7]
def s_finger_Index_Put_9 : SP := (.one (.pure (some 49) false (.move (.tmp 0))) (.one (.pure (some 50) false (.nilCheck (.tmp 49))) (.one (.pure (some 51) false (.fieldAddr 60 (.tmp 50) 3)) (.one (.pure (some 54) false (.move (.tmp 7))) (.one (.pure (some 55) false (.move (.tmp 8))) (.one (.pure (some 56) false (.move (.tmp 1))) (.three (.read (some 52) false (.load 58 (.tmp 51))) (.two (.read (some 53) false (.load 48 (.tmp 6))) (.one (.eff (some 57) (.buildSlice 41 1 #[(0, .tmp 56)])) (.one (.mcall (some 58) false ⟨.value (.func 24), #[.tmp 54, .tmp 55, .tmp 57], #[41, 3, 41]⟩) (.one (.eff none (.mapUpdate 58 (.tmp 52) (.tmp 53) (.tmp 58))) .done))) (.eff (some 57) (.buildSlice 41 1 #[(0, .tmp 56)])) (.two (.read (some 53) false (.load 48 (.tmp 6))) (.one (.mcall (some 58) false ⟨.value (.func 24), #[.tmp 54, .tmp 55, .tmp 57], #[41, 3, 41]⟩) (.one (.eff none (.mapUpdate 58 (.tmp 52) (.tmp 53) (.tmp 58))) .done)) (.mcall (some 58) false ⟨.value (.func 24), #[.tmp 54, .tmp 55, .tmp 57], #[41, 3, 41]⟩) (.one (.read (some 53) false (.load 48 (.tmp 6))) (.one (.eff none (.mapUpdate 58 (.tmp 52) (.tmp 53) (.tmp 58))) .done)))) (.read (some 53) false (.load 48 (.tmp 6))) (.two (.read (some 52) false (.load 58 (.tmp 51))) (.one (.eff (some 57) (.buildSlice 41 1 #[(0, .tmp 56)])) (.one (.mcall (some 58) false ⟨.value (.func 24), #[.tmp 54, .tmp 55, .tmp 57], #[41, 3, 41]⟩) (.one (.eff none (.mapUpdate 58 (.tmp 52) (.tmp 53) (.tmp 58))) .done))) (.eff (some 57) (.buildSlice 41 1 #[(0, .tmp 56)])) (.two (.read (some 52) false (.load 58 (.tmp 51))) (.one (.mcall (some 58) false ⟨.value (.func 24), #[.tmp 54, .tmp 55, .tmp 57], #[41, 3, 41]⟩) (.one (.eff none (.mapUpdate 58 (.tmp 52) (.tmp 53) (.tmp 58))) .done)) (.mcall (some 58) false ⟨.value (.func 24), #[.tmp 54, .tmp 55, .tmp 57], #[41, 3, 41]⟩) (.one (.read (some 52) false (.load 58 (.tmp 51))) (.one (.eff none (.mapUpdate 58 (.tmp 52) (.tmp 53) (.tmp 58))) .done)))) (.eff (some 57) (.buildSlice 41 1 #[(0, .tmp 56)])) (.three (.read (some 52) false (.load 58 (.tmp 51))) (.two (.read (some 53) false (.load 48 (.tmp 6))) (.one (.mcall (some 58) false ⟨.value (.func 24), #[.tmp 54, .tmp 55, .tmp 57], #[41, 3, 41]⟩) (.one (.eff none (.mapUpdate 58 (.tmp 52) (.tmp 53) (.tmp 58))) .done)) (.mcall (some 58) false ⟨.value (.func 24), #[.tmp 54, .tmp 55, .tmp 57], #[41, 3, 41]⟩) (.one (.read (some 53) false (.load 48 (.tmp 6))) (.one (.eff none (.mapUpdate 58 (.tmp 52) (.tmp 53) (.tmp 58))) .done))) (.read (some 53) false (.load 48 (.tmp 6))) (.two (.read (some 52) false (.load 58 (.tmp 51))) (.one (.mcall (some 58) false ⟨.value (.func 24), #[.tmp 54, .tmp 55, .tmp 57], #[41, 3, 41]⟩) (.one (.eff none (.mapUpdate 58 (.tmp 52) (.tmp 53) (.tmp 58))) .done)) (.mcall (some 58) false ⟨.value (.func 24), #[.tmp 54, .tmp 55, .tmp 57], #[41, 3, 41]⟩) (.one (.read (some 52) false (.load 58 (.tmp 51))) (.one (.eff none (.mapUpdate 58 (.tmp 52) (.tmp 53) (.tmp 58))) .done))) (.mcall (some 58) false ⟨.value (.func 24), #[.tmp 54, .tmp 55, .tmp 57], #[41, 3, 41]⟩) (.one (.read (some 52) false (.load 58 (.tmp 51))) (.one (.read (some 53) false (.load 48 (.tmp 6))) (.one (.eff none (.mapUpdate 58 (.tmp 52) (.tmp 53) (.tmp 58))) .done)))))))))))
abbrev p_finger_Index_Put_9 : PC := (.calm 0 1038 (.calm 1 1036 (.calm 2 1032 (.calm 5 1536 (.calm 6 1536 (.calm 7 1792 (.tri 3 (.fork 4 (.act 8 (.act 9 (.act 10 .done))) 8 (.fork 4 (.act 9 (.act 10 .done)) 9 (.calm 4 1024 (.act 10 .done)))) 4 (.fork 3 (.act 8 (.act 9 (.act 10 .done))) 8 (.fork 3 (.act 9 (.act 10 .done)) 9 (.calm 3 1024 (.act 10 .done)))) 8 (.tri 3 (.fork 4 (.act 9 (.act 10 .done)) 9 (.calm 4 1024 (.act 10 .done))) 4 (.fork 3 (.act 9 (.act 10 .done)) 9 (.calm 3 1024 (.act 10 .done))) 9 (.calm 3 1024 (.calm 4 1024 (.act 10 .done)))))))))))
abbrev g_finger_Index_Put_9 : List Dg := [⟨0, 1, 562949953421312, .pure, true⟩, ⟨1, 562949953421312, 1125899906842624, .pure, true⟩, ⟨2, 1125899906842624, 2251799813685248, .pure, true⟩, ⟨4, 2251799813685248, 4503599627370496, .read, true⟩, ⟨0, 64, 9007199254740992, .read, true⟩, ⟨0, 128, 18014398509481984, .pure, true⟩, ⟨0, 256, 36028797018963968, .pure, true⟩, ⟨0, 2, 72057594037927936, .pure, true⟩, ⟨128, 72057594037927936, 144115188075855872, .eff, true⟩, ⟨352, 198158383604301824, 288230376151711744, .call, false⟩, ⟨1023, 301741175033823232, 0, .eff, false⟩]
abbrev q_finger_Index_Put_9 : List Nat := [1009]

/-! erewhile/erewhileref21.Put -/
abbrev n_ref21_Put : Nat := 14
theorem func_ref21_Put : Try.prog.funcs[n_ref21_Put]? = some Try.f14 := Try.func14
theorem call_ref21_Put : ∀ args w, (callFunc n_ref21_Put args).run Try.prog w = .ok (.enter n_ref21_Put args) w := Try.call14
theorem nt_ref21_Put : Try.f14.ntmps = 40 := Try.ntmps14
theorem rs_ref21_Put : Try.f14.results.toList = [.tmp 6] := by rw [Try.results14]
def s_ref21_Put_0 : List AStep := [.eff (some 5) (.box 25 (.tmp 2)), .pure (some 6) false (.assign (.const (.slice none 0 0)))]
abbrev p_ref21_Put_0 : List Nat := [0, 1]
def s_ref21_Put_1 : List AStep := [.pure (some 8) false (.move (.tmp 0)), .pure (some 9) false (.move (.tmp 1)), .call (some 10) false ⟨.value (.func 12), #[.tmp 8, .tmp 9], #[32, 29]⟩, .pure (some 0) false (.assign (.tmp 10))]
abbrev p_ref21_Put_1 : List Nat := [0, 1, 2, 3]
def s_ref21_Put_2 : List AStep := [.pure (some 7) false (.assign (.const (.int .i64 0)))]
abbrev p_ref21_Put_2 : List Nat := [0]
def s_ref21_Put_3 : List AStep := [.pure (some 11) false (.move (.tmp 7)), .pure (some 12) false (.move (.tmp 0)), .pure (some 13) false (.call (.mk (.builtin .len) #[.tmp 12] #[32])), .pure (some 14) false (.binOp .lss 3 (.tmp 11) (.tmp 13) 3), .pure (some 15) true (.move (.tmp 14)), .guard 15 true (.pure (some 16) false (.move (.tmp 0))), .guard 15 true (.pure (some 17) false (.move (.tmp 7))), .guard 15 true (.pure (some 18) false (.indexAddr 32 (.tmp 16) (.tmp 17))), .guard 15 true (.pure (some 19) false (.fieldAddr 69 (.tmp 18) 0)), .guard 15 true (.read (some 20) false (.load 29 (.tmp 19))), .guard 15 true (.pure (some 21) false (.move (.tmp 1))), .guard 15 true (.pure (some 22) false (.binOp .lss 29 (.tmp 20) (.tmp 21) 29)), .pure (some 23) false (.pick (.tmp 15) (.tmp 22) (.const (.bool false)))]
abbrev p_ref21_Put_3 : List Nat := [0, 1, 2, 3, 4, 5, 6, 7, 8, 9, 10, 11, 12]
def s_ref21_Put_4 : List AStep := [.pure (some 24) false (.move (.tmp 7)), .pure (some 25) false (.binOp .add 3 (.tmp 24) (.const (.int .i64 1)) 3), .pure (some 7) false (.assign (.tmp 25))]
abbrev p_ref21_Put_4 : List Nat := [0, 1, 2]
def s_ref21_Put_5 : SP := (.one (.pure (some 27) false (.move (.tmp 0))) (.one (.pure (some 28) false (.move (.tmp 7))) (.one (.pure (some 29) false (.slice 32 (.tmp 27) none (some (.tmp 28)) none)) (.one (.pure (some 31) false (.move (.tmp 1))) (.one (.pure (some 36) false (.move (.tmp 0))) (.one (.pure (some 37) false (.move (.tmp 7))) (.one (.pure (some 38) false (.slice 32 (.tmp 36) (some (.tmp 37)) none none)) (.two (.eff (some 26) (.buildSlice 32 0 #[])) (.two (.eff (some 30) (.call (.mk (.builtin .append) #[.tmp 26, .tmp 29] #[32, 32]))) (.one (.read (some 32) false (.load 25 (.tmp 5))) (.one (.pure (some 33) false (.build 69 #[(0, .tmp 31), (1, .tmp 32)])) (.one (.eff (some 34) (.buildSlice 32 1 #[(0, .tmp 33)])) (.one (.eff (some 35) (.call (.mk (.builtin .append) #[.tmp 30, .tmp 34] #[32, 32]))) (.one (.eff (some 39) (.call (.mk (.builtin .append) #[.tmp 35, .tmp 38] #[32, 32]))) (.one (.pure (some 6) false (.assign (.tmp 39))) .done)))))) (.read (some 32) false (.load 25 (.tmp 5))) (.one (.pure (some 33) false (.build 69 #[(0, .tmp 31), (1, .tmp 32)])) (.two (.eff (some 30) (.call (.mk (.builtin .append) #[.tmp 26, .tmp 29] #[32, 32]))) (.one (.eff (some 34) (.buildSlice 32 1 #[(0, .tmp 33)])) (.one (.eff (some 35) (.call (.mk (.builtin .append) #[.tmp 30, .tmp 34] #[32, 32]))) (.one (.eff (some 39) (.call (.mk (.builtin .append) #[.tmp 35, .tmp 38] #[32, 32]))) (.one (.pure (some 6) false (.assign (.tmp 39))) .done)))) (.eff (some 34) (.buildSlice 32 1 #[(0, .tmp 33)])) (.one (.eff (some 30) (.call (.mk (.builtin .append) #[.tmp 26, .tmp 29] #[32, 32]))) (.one (.eff (some 35) (.call (.mk (.builtin .append) #[.tmp 30, .tmp 34] #[32, 32]))) (.one (.eff (some 39) (.call (.mk (.builtin .append) #[.tmp 35, .tmp 38] #[32, 32]))) (.one (.pure (some 6) false (.assign (.tmp 39))) .done))))))) (.read (some 32) false (.load 25 (.tmp 5))) (.one (.pure (some 33) false (.build 69 #[(0, .tmp 31), (1, .tmp 32)])) (.two (.eff (some 26) (.buildSlice 32 0 #[])) (.two (.eff (some 30) (.call (.mk (.builtin .append) #[.tmp 26, .tmp 29] #[32, 32]))) (.one (.eff (some 34) (.buildSlice 32 1 #[(0, .tmp 33)])) (.one (.eff (some 35) (.call (.mk (.builtin .append) #[.tmp 30, .tmp 34] #[32, 32]))) (.one (.eff (some 39) (.call (.mk (.builtin .append) #[.tmp 35, .tmp 38] #[32, 32]))) (.one (.pure (some 6) false (.assign (.tmp 39))) .done)))) (.eff (some 34) (.buildSlice 32 1 #[(0, .tmp 33)])) (.one (.eff (some 30) (.call (.mk (.builtin .append) #[.tmp 26, .tmp 29] #[32, 32]))) (.one (.eff (some 35) (.call (.mk (.builtin .append) #[.tmp 30, .tmp 34] #[32, 32]))) (.one (.eff (some 39) (.call (.mk (.builtin .append) #[.tmp 35, .tmp 38] #[32, 32]))) (.one (.pure (some 6) false (.assign (.tmp 39))) .done))))) (.eff (some 34) (.buildSlice 32 1 #[(0, .tmp 33)])) (.one (.eff (some 26) (.buildSlice 32 0 #[])) (.one (.eff (some 30) (.call (.mk (.builtin .append) #[.tmp 26, .tmp 29] #[32, 32]))) (.one (.eff (some 35) (.call (.mk (.builtin .append) #[.tmp 30, .tmp 34] #[32, 32]))) (.one (.eff (some 39) (.call (.mk (.builtin .append) #[.tmp 35, .tmp 38] #[32, 32]))) (.one (.pure (some 6) false (.assign (.tmp 39))) .done)))))))))))))))
abbrev p_ref21_Put_5 : PC := (.calm 1 25112 (.calm 2 25112 (.calm 3 25104 (.calm 5 25472 (.calm 10 28672 (.calm 11 28672 (.calm 12 24576 (.fork 0 (.fork 4 (.calm 6 25472 (.calm 7 25344 (.act 8 (.act 9 (.act 13 (.calm 14 0 .done)))))) 6 (.calm 7 25344 (.fork 4 (.act 8 (.act 9 (.act 13 (.calm 14 0 .done)))) 8 (.act 4 (.act 9 (.act 13 (.calm 14 0 .done))))))) 6 (.calm 7 25344 (.fork 0 (.fork 4 (.act 8 (.act 9 (.act 13 (.calm 14 0 .done)))) 8 (.act 4 (.act 9 (.act 13 (.calm 14 0 .done))))) 8 (.act 0 (.act 4 (.act 9 (.act 13 (.calm 14 0 .done)))))))))))))))
abbrev g_ref21_Put_5 : List Dg := [⟨0, 0, 67108864, .eff, true⟩, ⟨0, 1, 134217728, .pure, true⟩, ⟨0, 128, 268435456, .pure, true⟩, ⟨6, 402653184, 536870912, .pure, true⟩, ⟨9, 603979776, 1073741824, .eff, false⟩, ⟨0, 2, 2147483648, .pure, true⟩, ⟨0, 32, 4294967296, .read, true⟩, ⟨96, 6442450944, 8589934592, .pure, true⟩, ⟨128, 8589934592, 17179869184, .eff, true⟩, ⟨272, 18253611008, 34359738368, .eff, false⟩, ⟨0, 1, 68719476736, .pure, true⟩, ⟨0, 128, 137438953472, .pure, true⟩, ⟨3072, 206158430208, 274877906944, .pure, true⟩, ⟨4608, 309237645312, 549755813888, .eff, false⟩, ⟨16383, 549755813888, 64, .pure, true⟩]
abbrev q_ref21_Put_5 : List Nat := []

/-! (*erewhile/finger.Index).Len -/
abbrev n_finger_Index_Len : Nat := 15
theorem func_finger_Index_Len : Try.prog.funcs[n_finger_Index_Len]? = some Try.f15 := Try.func15
theorem call_finger_Index_Len : ∀ args w, (callFunc n_finger_Index_Len args).run Try.prog w = .ok (.enter n_finger_Index_Len args) w := Try.call15
theorem nt_finger_Index_Len : Try.f15.ntmps = 10 := Try.ntmps15
theorem rs_finger_Index_Len : Try.f15.results.toList = [.tmp 2] := by rw [Try.results15]
def s_finger_Index_Len_0 : List AStep := [.pure (some 2) false (.assign (.const (.int .i64 0)))]
abbrev p_finger_Index_Len_0 : List Nat := [0]
def s_finger_Index_Len_1 : List AStep := [.pure (some 3) false (.move (.tmp 0)), .pure (some 4) false (.binOp .eql 27 (.tmp 3) (.const (.pointer none)) 27)]
abbrev p_finger_Index_Len_1 : List Nat := [0, 1]
def s_finger_Index_Len_2 : List AStep := [.pure (some 2) false (.assign (.const (.int .i64 0)))]
abbrev p_finger_Index_Len_2 : List Nat := [0]
abbrev q_finger_Index_Len_3 : List Nat := [4]
def s_finger_Index_Len_3 : List AStep := [.pure (some 5) false (.move (.tmp 0)), .pure (some 6) false (.nilCheck (.tmp 5)), .pure (some 7) false (.fieldAddr 60 (.tmp 6) 2), .read (some 8) false (.load 57 (.tmp 7)), .read (some 9) false (.call (.mk (.builtin .len) #[.tmp 8] #[57])), .pure (some 2) false (.assign (.tmp 9))]
abbrev p_finger_Index_Len_3 : List Nat := [0, 1, 2, 3, 4, 5]

/-! erewhile/erewhilelaw21.nums -/
abbrev n_law21_nums : Nat := 16
theorem func_law21_nums : Try.prog.funcs[n_law21_nums]? = some Try.f16 := Try.func16
theorem call_law21_nums : ∀ args w, (callFunc n_law21_nums args).run Try.prog w = .ok (.enter n_law21_nums args) w := Try.call16
theorem nt_law21_nums : Try.f16.ntmps = 26 := Try.ntmps16
theorem rs_law21_nums : Try.f16.results.toList = [.tmp 4] := by rw [Try.results16]
def s_law21_nums_0 : List AStep := [.pure (some 4) false (.assign (.const (.bool false)))]
abbrev p_law21_nums_0 : List Nat := [0]
def s_law21_nums_1 : List AStep := [.pure (some 6) false (.move (.tmp 0)), .pure (some 7) false (.call (.mk (.builtin .len) #[.tmp 6] #[41])), .pure (some 8) false (.move (.tmp 1)), .pure (some 9) false (.call (.mk (.builtin .len) #[.tmp 8] #[41])), .pure (some 10) false (.binOp .neq 3 (.tmp 7) (.tmp 9) 3)]
abbrev p_law21_nums_1 : List Nat := [0, 1, 2, 3, 4]
def s_law21_nums_2 : List AStep := [.pure (some 4) false (.assign (.const (.bool false)))]
abbrev p_law21_nums_2 : List Nat := [0]
def s_law21_nums_3 : List AStep := [.pure (some 5) false (.assign (.const (.int .i64 0)))]
abbrev p_law21_nums_3 : List Nat := [0]
def s_law21_nums_4 : List AStep := [.pure (some 11) false (.move (.tmp 5)), .pure (some 12) false (.move (.tmp 0)), .pure (some 13) false (.call (.mk (.builtin .len) #[.tmp 12] #[41])), .pure (some 14) false (.binOp .lss 3 (.tmp 11) (.tmp 13) 3)]
abbrev p_law21_nums_4 : List Nat := [0, 1, 2, 3]
def s_law21_nums_6 : SP := (.one (.pure (some 17) false (.move (.tmp 0))) (.one (.pure (some 18) false (.move (.tmp 5))) (.one (.pure (some 19) false (.indexAddr 41 (.tmp 17) (.tmp 18))) (.one (.pure (some 21) false (.move (.tmp 1))) (.one (.pure (some 22) false (.move (.tmp 5))) (.one (.pure (some 23) false (.indexAddr 41 (.tmp 21) (.tmp 22))) (.one (.read (some 20) false (.load 29 (.tmp 19))) (.one (.read (some 24) false (.load 29 (.tmp 23))) (.one (.pure (some 25) false (.binOp .neq 29 (.tmp 20) (.tmp 24) 29)) .done)))))))))
abbrev p_law21_nums_6 : PC := (.calm 0 268 (.calm 1 268 (.calm 2 264 (.calm 4 448 (.calm 5 448 (.calm 6 384 (.calm 3 256 (.calm 7 256 (.calm 8 0 .done)))))))))
abbrev g_law21_nums_6 : List Dg := [⟨0, 1, 131072, .pure, true⟩, ⟨0, 32, 262144, .pure, true⟩, ⟨3, 393216, 524288, .pure, true⟩, ⟨4, 524288, 1048576, .read, true⟩, ⟨0, 2, 2097152, .pure, true⟩, ⟨0, 32, 4194304, .pure, true⟩, ⟨48, 6291456, 8388608, .pure, true⟩, ⟨64, 8388608, 16777216, .read, true⟩, ⟨136, 17825792, 33554432, .pure, true⟩]
abbrev q_law21_nums_6 : List Nat := []
def s_law21_nums_7 : List AStep := [.pure (some 4) false (.assign (.const (.bool false)))]
abbrev p_law21_nums_7 : List Nat := [0]
def s_law21_nums_5 : List AStep := [.pure (some 15) false (.move (.tmp 5)), .pure (some 16) false (.binOp .add 3 (.tmp 15) (.const (.int .i64 1)) 3), .pure (some 5) false (.assign (.tmp 16))]
abbrev p_law21_nums_5 : List Nat := [0, 1, 2]
def s_law21_nums_8 : List AStep := [.pure (some 4) false (.assign (.const (.bool true)))]
abbrev p_law21_nums_8 : List Nat := [0]

/-! (*erewhile/finger.Index).Find -/
abbrev n_finger_Index_Find : Nat := 17
theorem func_finger_Index_Find : Try.prog.funcs[n_finger_Index_Find]? = some Try.f17 := Try.func17
theorem call_finger_Index_Find : ∀ args w, (callFunc n_finger_Index_Find args).run Try.prog w = .ok (.enter n_finger_Index_Find args) w := Try.call17
theorem nt_finger_Index_Find : Try.f17.ntmps = 16 := Try.ntmps17
theorem rs_finger_Index_Find : Try.f17.results.toList = [.tmp 4] := by rw [Try.results17]
def s_finger_Index_Find_0 : List AStep := [.eff (some 3) (.box 25 (.tmp 1)), .pure (some 4) false (.assign (.const (.slice none 0 0)))]
abbrev p_finger_Index_Find_0 : List Nat := [0, 1]
def s_finger_Index_Find_1 : List AStep := [.pure (some 5) false (.move (.tmp 0)), .pure (some 6) false (.binOp .eql 27 (.tmp 5) (.const (.pointer none)) 27)]
abbrev p_finger_Index_Find_1 : List Nat := [0, 1]
def s_finger_Index_Find_2 : List AStep := [.pure (some 4) false (.assign (.const (.slice none 0 0)))]
abbrev p_finger_Index_Find_2 : List Nat := [0]
def s_finger_Index_Find_3 : SP := (.one (.pure (some 7) false (.move (.tmp 0))) (.one (.pure (some 8) false (.nilCheck (.tmp 7))) (.one (.pure (some 9) false (.fieldAddr 60 (.tmp 8) 3)) (.one (.pure (some 11) false (.move (.tmp 0))) (.one (.read (some 10) false (.load 58 (.tmp 9))) (.one (.read (some 12) false (.load 25 (.tmp 3))) (.one (.call (some 13) false ⟨.value (.func 22), #[.tmp 11, .tmp 12], #[27, 25]⟩) (.one (.read (some 14) false (.lookup 58 (.tmp 10) (.tmp 13) false)) (.one (.call (some 15) false ⟨.value (.func 25), #[.tmp 14], #[41]⟩) (.one (.pure (some 4) false (.assign (.tmp 15))) .done))))))))))
abbrev p_finger_Index_Find_3 : PC := (.calm 0 910 (.calm 1 908 (.calm 2 904 (.calm 4 960 (.calm 3 896 (.calm 5 960 (.act 6 (.calm 7 768 (.act 8 (.calm 9 0 .done))))))))))
abbrev g_finger_Index_Find_3 : List Dg := [⟨0, 1, 128, .pure, true⟩, ⟨1, 128, 256, .pure, true⟩, ⟨2, 256, 512, .pure, true⟩, ⟨4, 512, 1024, .read, true⟩, ⟨0, 1, 2048, .pure, true⟩, ⟨0, 8, 4096, .read, true⟩, ⟨48, 6144, 8192, .call, true⟩, ⟨72, 9216, 16384, .read, true⟩, ⟨192, 16384, 32768, .call, true⟩, ⟨511, 32768, 16, .pure, true⟩]
abbrev q_finger_Index_Find_3 : List Nat := []

/-! erewhile/erewhileref21.Find -/
abbrev n_ref21_Find : Nat := 18
theorem func_ref21_Find : Try.prog.funcs[n_ref21_Find]? = some Try.f18 := Try.func18
theorem call_ref21_Find : ∀ args w, (callFunc n_ref21_Find args).run Try.prog w = .ok (.enter n_ref21_Find args) w := Try.call18
theorem nt_ref21_Find : Try.f18.ntmps = 37 := Try.ntmps18
theorem rs_ref21_Find : Try.f18.results.toList = [.tmp 6] := by rw [Try.results18]
def s_ref21_Find_0 : List AStep := [.eff (some 4) (.box 23 (.tmp 1)), .eff (some 5) (.box 25 (.tmp 2)), .pure (some 6) false (.assign (.const (.slice none 0 0)))]
abbrev p_ref21_Find_0 : List Nat := [0, 1, 2]
def s_ref21_Find_1 : List AStep := [.pure (some 7) false (.assign (.const (.slice none 0 0)))]
abbrev p_ref21_Find_1 : List Nat := [0]
def s_ref21_Find_2 : SP := (.one (.pure (some 11) false (.slice 25 (.tmp 5) none none none)) (.one (.read (some 10) false (.load 23 (.tmp 4))) (.two (.call (some 12) false ⟨.value (.func 19), #[.tmp 10, .tmp 11], #[23, 50]⟩) (.one (.eff (some 8) (.alloc 48)) (.one (.eff none (.store 48 (.tmp 8) (.tmp 12))) .done)) (.eff (some 8) (.alloc 48)) (.one (.call (some 12) false ⟨.value (.func 19), #[.tmp 10, .tmp 11], #[23, 50]⟩) (.one (.eff none (.store 48 (.tmp 8) (.tmp 12))) .done)))))
abbrev p_ref21_Find_2 : PC := (.calm 1 20 (.calm 0 20 (.fork 2 (.act 3 (.act 4 .done)) 3 (.act 2 (.act 4 .done)))))
abbrev g_ref21_Find_2 : List Dg := [⟨0, 16, 1024, .read, true⟩, ⟨0, 32, 2048, .pure, true⟩, ⟨3, 3072, 4096, .call, true⟩, ⟨0, 0, 256, .eff, true⟩, ⟨15, 4352, 0, .eff, false⟩]
abbrev q_ref21_Find_2 : List Nat := []
def s_ref21_Find_3 : List AStep := [.pure (some 9) false (.assign (.const (.int .i64 0)))]
abbrev p_ref21_Find_3 : List Nat := [0]
def s_ref21_Find_4 : List AStep := [.pure (some 13) false (.move (.tmp 9)), .pure (some 14) false (.move (.tmp 0)), .pure (some 15) false (.call (.mk (.builtin .len) #[.tmp 14] #[32])), .pure (some 16) false (.binOp .lss 3 (.tmp 13) (.tmp 15) 3)]
abbrev p_ref21_Find_4 : List Nat := [0, 1, 2, 3]
def s_ref21_Find_6 : SP := (.one (.pure (some 20) false (.move (.tmp 0))) (.one (.pure (some 21) false (.move (.tmp 9))) (.one (.pure (some 22) false (.indexAddr 32 (.tmp 20) (.tmp 21))) (.one (.pure (some 23) false (.fieldAddr 69 (.tmp 22) 1)) (.one (.pure (some 24) false (.slice 25 (.tmp 23) none none none)) (.one (.read (some 19) false (.load 23 (.tmp 4))) (.one (.read (some 26) false (.load 48 (.tmp 8))) (.one (.call (some 25) false ⟨.value (.func 19), #[.tmp 19, .tmp 24], #[23, 50]⟩) (.one (.pure (some 27) false (.binOp .eql 48 (.tmp 25) (.tmp 26) 48)) .done)))))))))
abbrev p_ref21_Find_6 : PC := (.calm 1 376 (.calm 2 376 (.calm 3 368 (.calm 4 352 (.calm 5 320 (.calm 0 320 (.calm 7 256 (.act 6 (.calm 8 0 .done)))))))))
abbrev g_ref21_Find_6 : List Dg := [⟨0, 16, 524288, .read, true⟩, ⟨0, 1, 1048576, .pure, true⟩, ⟨0, 512, 2097152, .pure, true⟩, ⟨6, 3145728, 4194304, .pure, true⟩, ⟨8, 4194304, 8388608, .pure, true⟩, ⟨16, 8388608, 16777216, .pure, true⟩, ⟨33, 17301504, 33554432, .call, true⟩, ⟨0, 256, 67108864, .read, true⟩, ⟨192, 100663296, 134217728, .pure, true⟩]
abbrev q_ref21_Find_6 : List Nat := []
def s_ref21_Find_7 : List AStep := [.pure (some 28) false (.move (.tmp 7)), .pure (some 29) false (.move (.tmp 0)), .pure (some 30) false (.move (.tmp 9)), .pure (some 31) false (.indexAddr 32 (.tmp 29) (.tmp 30)), .pure (some 32) false (.fieldAddr 69 (.tmp 31) 0), .read (some 33) false (.load 29 (.tmp 32)), .eff (some 34) (.buildSlice 41 1 #[(0, .tmp 33)]), .eff (some 35) (.call (.mk (.builtin .append) #[.tmp 28, .tmp 34] #[41, 41])), .pure (some 7) false (.assign (.tmp 35))]
abbrev p_ref21_Find_7 : List Nat := [0, 1, 2, 3, 4, 5, 6, 7, 8]
def s_ref21_Find_5 : List AStep := [.pure (some 17) false (.move (.tmp 9)), .pure (some 18) false (.binOp .add 3 (.tmp 17) (.const (.int .i64 1)) 3), .pure (some 9) false (.assign (.tmp 18))]
abbrev p_ref21_Find_5 : List Nat := [0, 1, 2]
def s_ref21_Find_8 : List AStep := [.pure (some 36) false (.move (.tmp 7)), .pure (some 6) false (.assign (.tmp 36))]
abbrev p_ref21_Find_8 : List Nat := [0, 1]

/-! erewhile/erewhileref05.LitSum -/
abbrev n_ref05_LitSum : Nat := 19
theorem func_ref05_LitSum : Try.prog.funcs[n_ref05_LitSum]? = some Try.f19 := Try.func19
theorem call_ref05_LitSum : ∀ args w, (callFunc n_ref05_LitSum args).run Try.prog w = .ok (.enter n_ref05_LitSum args) w := Try.call19
theorem nt_ref05_LitSum : Try.f19.ntmps = 52 := Try.ntmps19
theorem rs_ref05_LitSum : Try.f19.results.toList = [.cell 4 48] := by rw [Try.results19]
def s_ref05_LitSum_0 : List AStep := [.eff (some 2) (.box 23 (.tmp 0)), .eff (some 4) (.alloc 48)]
abbrev p_ref05_LitSum_0 : List Nat := [0, 1]
def s_ref05_LitSum_1 : List AStep := [.pure (some 10) false (.move (.tmp 1)), .pure (some 11) false (.call (.mk (.builtin .len) #[.tmp 10] #[50])), .pure (some 12) false (.convert 3 29 (.tmp 11)), .pure (some 5) false (.assign (.tmp 12))]
abbrev p_ref05_LitSum_1 : List Nat := [0, 1, 2, 3]
def s_ref05_LitSum_2 : List AStep := [.pure (some 6) false (.assign (.const (.int .i64 0)))]
abbrev p_ref05_LitSum_2 : List Nat := [0]
def s_ref05_LitSum_3 : List AStep := [.pure (some 13) false (.move (.tmp 6)), .pure (some 14) false (.binOp .lss 3 (.tmp 13) (.const (.int .i64 32)) 3)]
abbrev p_ref05_LitSum_3 : List Nat := [0, 1]
def s_ref05_LitSum_5 : List AStep := [.pure (some 17) false (.move (.tmp 5)), .pure (some 18) false (.move (.tmp 6)), .pure (some 19) false (.indexAddr 23 (.tmp 2) (.tmp 18)), .read (some 20) false (.load 5 (.tmp 19)), .pure (some 21) false (.convert 5 29 (.tmp 20)), .pure (some 22) false (.binOp .add 29 (.tmp 17) (.tmp 21) 29), .pure (some 23) false (.binOp .mul 29 (.tmp 22) (.const (.int .u64 1099511628211)) 29), .pure (some 5) false (.assign (.tmp 23))]
abbrev p_ref05_LitSum_5 : List Nat := [0, 1, 2, 3, 4, 5, 6, 7]
def s_ref05_LitSum_4 : List AStep := [.pure (some 15) false (.move (.tmp 6)), .pure (some 16) false (.binOp .add 3 (.tmp 15) (.const (.int .i64 1)) 3), .pure (some 6) false (.assign (.tmp 16))]
abbrev p_ref05_LitSum_4 : List Nat := [0, 1, 2]
def s_ref05_LitSum_6 : List AStep := [.pure (some 7) false (.assign (.const (.int .i64 0)))]
abbrev p_ref05_LitSum_6 : List Nat := [0]
def s_ref05_LitSum_7 : List AStep := [.pure (some 24) false (.move (.tmp 7)), .pure (some 25) false (.move (.tmp 1)), .pure (some 26) false (.call (.mk (.builtin .len) #[.tmp 25] #[50])), .pure (some 27) false (.binOp .lss 3 (.tmp 24) (.tmp 26) 3)]
abbrev p_ref05_LitSum_7 : List Nat := [0, 1, 2, 3]
def s_ref05_LitSum_9 : List AStep := [.pure (some 30) false (.move (.tmp 5)), .pure (some 31) false (.move (.tmp 1)), .pure (some 32) false (.move (.tmp 7)), .pure (some 33) false (.indexAddr 50 (.tmp 31) (.tmp 32)), .read (some 34) false (.load 5 (.tmp 33)), .pure (some 35) false (.convert 5 29 (.tmp 34)), .pure (some 36) false (.binOp .add 29 (.tmp 30) (.tmp 35) 29), .pure (some 37) false (.binOp .add 29 (.tmp 36) (.const (.int .u64 1)) 29), .pure (some 38) false (.binOp .mul 29 (.tmp 37) (.const (.int .u64 1099511628211)) 29), .pure (some 5) false (.assign (.tmp 38))]
abbrev p_ref05_LitSum_9 : List Nat := [0, 1, 2, 3, 4, 5, 6, 7, 8, 9]
def s_ref05_LitSum_8 : List AStep := [.pure (some 28) false (.move (.tmp 7)), .pure (some 29) false (.binOp .add 3 (.tmp 28) (.const (.int .i64 1)) 3), .pure (some 7) false (.assign (.tmp 29))]
abbrev p_ref05_LitSum_8 : List Nat := [0, 1, 2]
def s_ref05_LitSum_10 : List AStep := [.eff (some 8) (.alloc 48)]
abbrev p_ref05_LitSum_10 : List Nat := [0]
def s_ref05_LitSum_11 : List AStep := [.pure (some 9) false (.assign (.const (.int .i64 0)))]
abbrev p_ref05_LitSum_11 : List Nat := [0]
def s_ref05_LitSum_12 : List AStep := [.pure (some 39) false (.move (.tmp 9)), .pure (some 40) false (.binOp .lss 3 (.tmp 39) (.const (.int .i64 16)) 3)]
abbrev p_ref05_LitSum_12 : List Nat := [0, 1]
def s_ref05_LitSum_14 : List AStep := [.pure (some 43) false (.move (.tmp 5)), .pure (some 44) false (.binOp .mul 29 (.tmp 43) (.const (.int .u64 6364136223846793005)) 29), .pure (some 45) false (.binOp .add 29 (.tmp 44) (.const (.int .u64 1442695040888963407)) 29), .pure (some 5) false (.assign (.tmp 45))]
abbrev p_ref05_LitSum_14 : List Nat := [0, 1, 2, 3]
def s_ref05_LitSum_15 : List AStep := [.pure (some 46) false (.move (.tmp 9)), .pure (some 47) false (.move (.tmp 5)), .pure (some 48) false (.binOp .shr 29 (.tmp 47) (.const (.int .u64 56)) 75), .pure (some 49) false (.convert 29 5 (.tmp 48)), .pure (some 50) false (.indexAddr 48 (.tmp 8) (.tmp 46)), .eff none (.store 5 (.tmp 50) (.tmp 49))]
abbrev p_ref05_LitSum_15 : List Nat := [0, 1, 2, 3, 4, 5]
def s_ref05_LitSum_13 : List AStep := [.pure (some 41) false (.move (.tmp 9)), .pure (some 42) false (.binOp .add 3 (.tmp 41) (.const (.int .i64 1)) 3), .pure (some 9) false (.assign (.tmp 42))]
abbrev p_ref05_LitSum_13 : List Nat := [0, 1, 2]
def s_ref05_LitSum_16 : List AStep := [.read (some 51) false (.load 48 (.tmp 8)), .eff none (.store 48 (.tmp 4) (.tmp 51))]
abbrev p_ref05_LitSum_16 : List Nat := [0, 1]

/-! slices.DeleteFunc[[]uint64,uint64] -/
abbrev n_slices_DeleteFunc_uint64_uint64 : Nat := 20
theorem func_slices_DeleteFunc_uint64_uint64 : Try.prog.funcs[n_slices_DeleteFunc_uint64_uint64]? = some Try.f20 := Try.func20
theorem call_slices_DeleteFunc_uint64_uint64 : ∀ args w, (callFunc n_slices_DeleteFunc_uint64_uint64 args).run Try.prog w = .ok (.enter n_slices_DeleteFunc_uint64_uint64 args) w := Try.call20
theorem nt_slices_DeleteFunc_uint64_uint64 : Try.f20.ntmps = 42 := Try.ntmps20
theorem rs_slices_DeleteFunc_uint64_uint64 : Try.f20.results.toList = [.tmp 4] := by rw [Try.results20]
def s_slices_DeleteFunc_uint64_uint64_0 : List AStep := [.pure (some 4) false (.assign (.const (.slice none 0 0)))]
abbrev p_slices_DeleteFunc_uint64_uint64_0 : List Nat := [0]
def s_slices_DeleteFunc_uint64_uint64_1 : List AStep := [.pure (some 8) false (.move (.tmp 0)), .pure (some 9) false (.move (.tmp 1)), .call (some 10) false ⟨.value (.func 26), #[.tmp 8, .tmp 9], #[41, 67]⟩, .pure (some 5) false (.assign (.tmp 10))]
abbrev p_slices_DeleteFunc_uint64_uint64_1 : List Nat := [0, 1, 2, 3]
def s_slices_DeleteFunc_uint64_uint64_2 : List AStep := [.pure (some 11) false (.move (.tmp 5)), .pure (some 12) false (.binOp .eql 3 (.tmp 11) (.const (.int .i64 (-1))) 3)]
abbrev p_slices_DeleteFunc_uint64_uint64_2 : List Nat := [0, 1]
def s_slices_DeleteFunc_uint64_uint64_3 : List AStep := [.pure (some 13) false (.move (.tmp 0)), .pure (some 4) false (.assign (.tmp 13))]
abbrev p_slices_DeleteFunc_uint64_uint64_3 : List Nat := [0, 1]
def s_slices_DeleteFunc_uint64_uint64_4 : List AStep := [.pure (some 14) false (.move (.tmp 5)), .pure (some 15) false (.binOp .add 3 (.tmp 14) (.const (.int .i64 1)) 3), .pure (some 6) false (.assign (.tmp 15))]
abbrev p_slices_DeleteFunc_uint64_uint64_4 : List Nat := [0, 1, 2]
def s_slices_DeleteFunc_uint64_uint64_5 : List AStep := [.pure (some 16) false (.move (.tmp 6)), .pure (some 17) false (.move (.tmp 0)), .pure (some 18) false (.call (.mk (.builtin .len) #[.tmp 17] #[41])), .pure (some 19) false (.binOp .lss 3 (.tmp 16) (.tmp 18) 3)]
abbrev p_slices_DeleteFunc_uint64_uint64_5 : List Nat := [0, 1, 2, 3]
def s_slices_DeleteFunc_uint64_uint64_7 : List AStep := [.pure (some 22) false (.move (.tmp 0)), .pure (some 23) false (.move (.tmp 6)), .pure (some 24) false (.indexAddr 41 (.tmp 22) (.tmp 23)), .read (some 25) false (.load 29 (.tmp 24)), .pure (some 7) false (.assign (.tmp 25))]
abbrev p_slices_DeleteFunc_uint64_uint64_7 : List Nat := [0, 1, 2, 3, 4]
def s_slices_DeleteFunc_uint64_uint64_8 : List AStep := [.pure (some 26) false (.move (.tmp 1)), .pure (some 27) false (.move (.tmp 7)), .call (some 28) false ⟨.value (.tmp 26), #[.tmp 27], #[29]⟩, .pure (some 29) false (.unOp .not 4 (.tmp 28))]
abbrev p_slices_DeleteFunc_uint64_uint64_8 : List Nat := [0, 1, 2, 3]
def s_slices_DeleteFunc_uint64_uint64_9 : List AStep := [.pure (some 30) false (.move (.tmp 0)), .pure (some 31) false (.move (.tmp 5)), .pure (some 32) false (.move (.tmp 7)), .pure (some 33) false (.indexAddr 41 (.tmp 30) (.tmp 31)), .eff none (.store 29 (.tmp 33) (.tmp 32))]
abbrev p_slices_DeleteFunc_uint64_uint64_9 : List Nat := [0, 1, 2, 3, 4]
def s_slices_DeleteFunc_uint64_uint64_10 : List AStep := [.pure (some 34) false (.move (.tmp 5)), .pure (some 35) false (.binOp .add 3 (.tmp 34) (.const (.int .i64 1)) 3), .pure (some 5) false (.assign (.tmp 35))]
abbrev p_slices_DeleteFunc_uint64_uint64_10 : List Nat := [0, 1, 2]
def s_slices_DeleteFunc_uint64_uint64_6 : List AStep := [.pure (some 20) false (.move (.tmp 6)), .pure (some 21) false (.binOp .add 3 (.tmp 20) (.const (.int .i64 1)) 3), .pure (some 6) false (.assign (.tmp 21))]
abbrev p_slices_DeleteFunc_uint64_uint64_6 : List Nat := [0, 1, 2]
def s_slices_DeleteFunc_uint64_uint64_11 : List AStep := [.pure (some 36) false (.move (.tmp 0)), .pure (some 37) false (.move (.tmp 5)), .pure (some 38) false (.slice 41 (.tmp 36) (some (.tmp 37)) none none), .eff none (.call (.mk (.builtin .clear) #[.tmp 38] #[41]))]
abbrev p_slices_DeleteFunc_uint64_uint64_11 : List Nat := [0, 1, 2, 3]
def s_slices_DeleteFunc_uint64_uint64_12 : List AStep := [.pure (some 39) false (.move (.tmp 0)), .pure (some 40) false (.move (.tmp 5)), .pure (some 41) false (.slice 41 (.tmp 39) none (some (.tmp 40)) none), .pure (some 4) false (.assign (.tmp 41))]
abbrev p_slices_DeleteFunc_uint64_uint64_12 : List Nat := [0, 1, 2, 3]

/-! (*erewhile/finger.Index).Drop$1 -/
abbrev n_finger_Index_Drop_1 : Nat := 21
theorem func_finger_Index_Drop_1 : Try.prog.funcs[n_finger_Index_Drop_1]? = some Try.f21 := Try.func21
theorem call_finger_Index_Drop_1 : ∀ args w, (callFunc n_finger_Index_Drop_1 args).run Try.prog w = .ok (.enter n_finger_Index_Drop_1 args) w := Try.call21
theorem nt_finger_Index_Drop_1 : Try.f21.ntmps = 7 := Try.ntmps21
theorem rs_finger_Index_Drop_1 : Try.f21.results.toList = [.tmp 3] := by rw [Try.results21]
def s_finger_Index_Drop_1_0 : List AStep := [.pure (some 3) false (.assign (.const (.bool false)))]
abbrev p_finger_Index_Drop_1_0 : List Nat := [0]
def s_finger_Index_Drop_1_1 : List AStep := [.pure (some 4) false (.move (.tmp 0)), .read (some 5) false (.load 29 (.tmp 1)), .pure (some 6) false (.binOp .eql 29 (.tmp 4) (.tmp 5) 29), .pure (some 3) false (.assign (.tmp 6))]
abbrev p_finger_Index_Drop_1_1 : List Nat := [0, 1, 2, 3]

/-! (*erewhile/finger.Index).sum -/
abbrev n_finger_Index_sum : Nat := 22
theorem func_finger_Index_sum : Try.prog.funcs[n_finger_Index_sum]? = some Try.f22 := Try.func22
theorem call_finger_Index_sum : ∀ args w, (callFunc n_finger_Index_sum args).run Try.prog w = .ok (.enter n_finger_Index_sum args) w := Try.call22
theorem nt_finger_Index_sum : Try.f22.ntmps = 23 := Try.ntmps22
theorem rs_finger_Index_sum : Try.f22.results.toList = [.cell 4 48] := by rw [Try.results22]
def s_finger_Index_sum_0 : List AStep := [.eff (some 3) (.box 25 (.tmp 1)), .eff (some 4) (.alloc 48)]
abbrev p_finger_Index_sum_0 : List Nat := [0, 1]
def s_finger_Index_sum_1 : List AStep := [.pure (some 5) false (.move (.tmp 0)), .pure (some 6) false (.nilCheck (.tmp 5)), .pure (some 7) false (.fieldAddr 60 (.tmp 6) 0), .read (some 8) false (.load 56 (.tmp 7)), .pure (some 9) false (.binOp .eql 56 (.tmp 8) (.const .nilIface) 56)]
abbrev p_finger_Index_sum_1 : List Nat := [0, 1, 2, 3, 4]
def s_finger_Index_sum_2 : List AStep := [.pure (some 10) false (.build 48 #[]), .eff none (.store 48 (.tmp 4) (.tmp 10))]
abbrev p_finger_Index_sum_2 : List Nat := [0, 1]
def s_finger_Index_sum_3 : SP := (.one (.pure (some 11) false (.move (.tmp 0))) (.one (.pure (some 12) false (.nilCheck (.tmp 11))) (.one (.pure (some 13) false (.fieldAddr 60 (.tmp 12) 0)) (.one (.pure (some 15) false (.move (.tmp 0))) (.one (.pure (some 16) false (.nilCheck (.tmp 15))) (.one (.pure (some 17) false (.fieldAddr 60 (.tmp 16) 1)) (.one (.pure (some 19) false (.slice 25 (.tmp 3) none none none)) (.one (.read (some 14) false (.load 56 (.tmp 13))) (.one (.pure (some 20) false (.nilCheck (.tmp 14))) (.one (.pure (some 21) false (.move (.tmp 14))) (.one (.read (some 18) false (.load 23 (.tmp 17))) (.one (.call (some 22) false ⟨.invoke (.tmp 21) "Sum", #[.tmp 18, .tmp 19], #[23, 50]⟩) (.one (.eff none (.store 48 (.tmp 4) (.tmp 22))) .done)))))))))))))
abbrev p_finger_Index_sum_3 : PC := (.calm 0 7694 (.calm 1 7692 (.calm 2 7688 (.calm 4 6368 (.calm 5 6336 (.calm 6 6272 (.calm 8 6144 (.calm 3 7680 (.calm 9 7168 (.calm 10 6144 (.calm 7 6144 (.act 11 (.act 12 .done)))))))))))))
abbrev g_finger_Index_sum_3 : List Dg := [⟨0, 1, 2048, .pure, true⟩, ⟨1, 2048, 4096, .pure, true⟩, ⟨2, 4096, 8192, .pure, true⟩, ⟨4, 8192, 16384, .read, true⟩, ⟨0, 1, 32768, .pure, true⟩, ⟨16, 32768, 65536, .pure, true⟩, ⟨32, 65536, 131072, .pure, true⟩, ⟨64, 131072, 262144, .read, true⟩, ⟨0, 8, 524288, .pure, true⟩, ⟨8, 16384, 1048576, .pure, true⟩, ⟨520, 16384, 2097152, .pure, true⟩, ⟨1408, 2883584, 4194304, .call, true⟩, ⟨4095, 4194320, 0, .eff, false⟩]
abbrev q_finger_Index_sum_3 : List Nat := []

/-! slices.BinarySearch[[]uint64,uint64] -/
abbrev n_slices_BinarySearch_uint64_uint64 : Nat := 23
theorem func_slices_BinarySearch_uint64_uint64 : Try.prog.funcs[n_slices_BinarySearch_uint64_uint64]? = some Try.f23 := Try.func23
theorem call_slices_BinarySearch_uint64_uint64 : ∀ args w, (callFunc n_slices_BinarySearch_uint64_uint64 args).run Try.prog w = .ok (.enter n_slices_BinarySearch_uint64_uint64 args) w := Try.call23
theorem nt_slices_BinarySearch_uint64_uint64 : Try.f23.ntmps = 54 := Try.ntmps23
theorem rs_slices_BinarySearch_uint64_uint64 : Try.f23.results.toList = [.tmp 4, .tmp 5] := by rw [Try.results23]
def s_slices_BinarySearch_uint64_uint64_0 : List AStep := [.pure (some 4) false (.assign (.const (.int .i64 0))), .pure (some 5) false (.assign (.const (.bool false)))]
abbrev p_slices_BinarySearch_uint64_uint64_0 : List Nat := [0, 1]
def s_slices_BinarySearch_uint64_uint64_1 : List AStep := [.pure (some 10) false (.move (.tmp 0)), .pure (some 11) false (.call (.mk (.builtin .len) #[.tmp 10] #[41])), .pure (some 6) false (.assign (.tmp 11))]
abbrev p_slices_BinarySearch_uint64_uint64_1 : List Nat := [0, 1, 2]
def s_slices_BinarySearch_uint64_uint64_2 : List AStep := [.pure (some 12) false (.move (.tmp 6)), .pure (some 7) false (.assign (.const (.int .i64 0))), .pure (some 8) false (.assign (.tmp 12))]
abbrev p_slices_BinarySearch_uint64_uint64_2 : List Nat := [0, 1, 2]
def s_slices_BinarySearch_uint64_uint64_3 : List AStep := [.pure (some 13) false (.move (.tmp 7)), .pure (some 14) false (.move (.tmp 8)), .pure (some 15) false (.binOp .lss 3 (.tmp 13) (.tmp 14) 3)]
abbrev p_slices_BinarySearch_uint64_uint64_3 : List Nat := [0, 1, 2]
def s_slices_BinarySearch_uint64_uint64_4 : List AStep := [.pure (some 16) false (.move (.tmp 7)), .pure (some 17) false (.move (.tmp 8)), .pure (some 18) false (.binOp .add 3 (.tmp 16) (.tmp 17) 3), .pure (some 19) false (.convert 3 75 (.tmp 18)), .pure (some 20) false (.binOp .shr 75 (.tmp 19) (.const (.int .u64 1)) 75), .pure (some 21) false (.convert 75 3 (.tmp 20)), .pure (some 9) false (.assign (.tmp 21))]
abbrev p_slices_BinarySearch_uint64_uint64_4 : List Nat := [0, 1, 2, 3, 4, 5, 6]
def s_slices_BinarySearch_uint64_uint64_5 : List AStep := [.pure (some 22) false (.move (.tmp 0)), .pure (some 23) false (.move (.tmp 9)), .pure (some 24) false (.indexAddr 41 (.tmp 22) (.tmp 23)), .read (some 25) false (.load 29 (.tmp 24)), .pure (some 26) false (.move (.tmp 1)), .call (some 27) false ⟨.value (.func 27), #[.tmp 25, .tmp 26], #[29, 29]⟩]
abbrev p_slices_BinarySearch_uint64_uint64_5 : List Nat := [0, 1, 2, 3, 4, 5]
def s_slices_BinarySearch_uint64_uint64_6 : List AStep := [.pure (some 28) false (.move (.tmp 9)), .pure (some 29) false (.binOp .add 3 (.tmp 28) (.const (.int .i64 1)) 3), .pure (some 7) false (.assign (.tmp 29))]
abbrev p_slices_BinarySearch_uint64_uint64_6 : List Nat := [0, 1, 2]
def s_slices_BinarySearch_uint64_uint64_7 : List AStep := [.pure (some 30) false (.move (.tmp 9)), .pure (some 8) false (.assign (.tmp 30))]
abbrev p_slices_BinarySearch_uint64_uint64_7 : List Nat := [0, 1]
def s_slices_BinarySearch_uint64_uint64_8 : List AStep := [.pure (some 31) false (.move (.tmp 7)), .pure (some 32) false (.move (.tmp 7)), .pure (some 33) false (.move (.tmp 6)), .pure (some 34) false (.binOp .lss 3 (.tmp 32) (.tmp 33) 3), .pure (some 35) true (.move (.tmp 34)), .guard 35 true (.pure (some 36) false (.move (.tmp 0))), .guard 35 true (.pure (some 37) false (.move (.tmp 7))), .guard 35 true (.pure (some 38) false (.indexAddr 41 (.tmp 36) (.tmp 37))), .guard 35 true (.read (some 39) false (.load 29 (.tmp 38))), .guard 35 true (.pure (some 40) false (.move (.tmp 1))), .guard 35 true (.pure (some 41) false (.binOp .eql 29 (.tmp 39) (.tmp 40) 29)), .guard 35 true (.pure (some 42) true (.move (.tmp 41))), .guard 42 false (.pure (some 43) false (.move (.tmp 0))), .guard 42 false (.pure (some 44) false (.move (.tmp 7))), .guard 42 false (.pure (some 45) false (.indexAddr 41 (.tmp 43) (.tmp 44))), .guard 42 false (.read (some 46) false (.load 29 (.tmp 45))), .guard 42 false (.call (some 47) false ⟨.value (.func 28), #[.tmp 46], #[29]⟩), .guard 42 false (.pure (some 48) true (.move (.tmp 47))), .guard 48 true (.pure (some 49) false (.move (.tmp 1))), .guard 48 true (.call (some 50) false ⟨.value (.func 28), #[.tmp 49], #[29]⟩), .guard 42 false (.pure (some 51) false (.pick (.tmp 48) (.tmp 50) (.const (.bool false)))), .guard 35 true (.pure (some 52) false (.pick (.tmp 42) (.const (.bool true)) (.tmp 51))), .pure (some 53) false (.pick (.tmp 35) (.tmp 52) (.const (.bool false))), .pure (some 4) false (.assign (.tmp 31)), .pure (some 5) false (.assign (.tmp 53))]
abbrev p_slices_BinarySearch_uint64_uint64_8 : List Nat := [0, 1, 2, 3, 4, 5, 6, 7, 8, 9, 10, 11, 12, 13, 14, 15, 16, 17, 18, 19, 20, 21, 22, 23, 24]

/-! slices.Insert[[]uint64,uint64] -/
abbrev n_slices_Insert_uint64_uint64 : Nat := 24
theorem func_slices_Insert_uint64_uint64 : Try.prog.funcs[n_slices_Insert_uint64_uint64]? = some Try.f24 := Try.func24
theorem call_slices_Insert_uint64_uint64 : ∀ args w, (callFunc n_slices_Insert_uint64_uint64 args).run Try.prog w = .ok (.enter n_slices_Insert_uint64_uint64 args) w := Try.call24
theorem nt_slices_Insert_uint64_uint64 : Try.f24.ntmps = 95 := Try.ntmps24
theorem rs_slices_Insert_uint64_uint64 : Try.f24.results.toList = [.tmp 6] := by rw [Try.results24]
def s_slices_Insert_uint64_uint64_0 : List AStep := [.pure (some 6) false (.assign (.const (.slice none 0 0)))]
abbrev p_slices_Insert_uint64_uint64_0 : List Nat := [0]
def s_slices_Insert_uint64_uint64_1 : List AStep := [.pure (some 10) false (.move (.tmp 0)), .pure (some 11) false (.move (.tmp 1)), .pure (some 12) false (.slice 41 (.tmp 10) (some (.tmp 11)) none none)]
abbrev p_slices_Insert_uint64_uint64_1 : List Nat := [0, 1, 2]
def s_slices_Insert_uint64_uint64_2 : List AStep := [.pure (some 13) false (.move (.tmp 2)), .pure (some 14) false (.call (.mk (.builtin .len) #[.tmp 13] #[41])), .pure (some 7) false (.assign (.tmp 14))]
abbrev p_slices_Insert_uint64_uint64_2 : List Nat := [0, 1, 2]
def s_slices_Insert_uint64_uint64_3 : List AStep := [.pure (some 15) false (.move (.tmp 7)), .pure (some 16) false (.binOp .eql 3 (.tmp 15) (.const (.int .i64 0)) 3)]
abbrev p_slices_Insert_uint64_uint64_3 : List Nat := [0, 1]
def s_slices_Insert_uint64_uint64_4 : List AStep := [.pure (some 17) false (.move (.tmp 0)), .pure (some 6) false (.assign (.tmp 17))]
abbrev p_slices_Insert_uint64_uint64_4 : List Nat := [0, 1]
def s_slices_Insert_uint64_uint64_5 : List AStep := [.pure (some 18) false (.move (.tmp 0)), .pure (some 19) false (.call (.mk (.builtin .len) #[.tmp 18] #[41])), .pure (some 8) false (.assign (.tmp 19))]
abbrev p_slices_Insert_uint64_uint64_5 : List Nat := [0, 1, 2]
def s_slices_Insert_uint64_uint64_6 : List AStep := [.pure (some 20) false (.move (.tmp 1)), .pure (some 21) false (.move (.tmp 8)), .pure (some 22) false (.binOp .eql 3 (.tmp 20) (.tmp 21) 3)]
abbrev p_slices_Insert_uint64_uint64_6 : List Nat := [0, 1, 2]
def s_slices_Insert_uint64_uint64_7 : List AStep := [.pure (some 23) false (.move (.tmp 0)), .pure (some 24) false (.move (.tmp 2)), .eff (some 25) (.call (.mk (.builtin .append) #[.tmp 23, .tmp 24] #[41, 41])), .pure (some 6) false (.assign (.tmp 25))]
abbrev p_slices_Insert_uint64_uint64_7 : List Nat := [0, 1, 2, 3]
def s_slices_Insert_uint64_uint64_8 : List AStep := [.pure (some 26) false (.move (.tmp 8)), .pure (some 27) false (.move (.tmp 7)), .pure (some 28) false (.binOp .add 3 (.tmp 26) (.tmp 27) 3), .pure (some 29) false (.move (.tmp 0)), .pure (some 30) false (.call (.mk (.builtin .cap) #[.tmp 29] #[41])), .pure (some 31) false (.binOp .gtr 3 (.tmp 28) (.tmp 30) 3)]
abbrev p_slices_Insert_uint64_uint64_8 : List Nat := [0, 1, 2, 3, 4, 5]
def s_slices_Insert_uint64_uint64_9 : List AStep := [.pure (some 32) false (.move (.tmp 0)), .pure (some 33) false (.move (.tmp 1)), .pure (some 34) false (.slice 41 (.tmp 32) none (some (.tmp 33)) none), .pure (some 35) false (.move (.tmp 8)), .pure (some 36) false (.move (.tmp 7)), .pure (some 37) false (.binOp .add 3 (.tmp 35) (.tmp 36) 3), .pure (some 38) false (.move (.tmp 1)), .pure (some 39) false (.binOp .sub 3 (.tmp 37) (.tmp 38) 3), .eff (some 40) (.call (.mk (.builtin .append) #[.tmp 34, .tmp 39] #[41, 3])), .pure (some 9) false (.assign (.tmp 40))]
abbrev p_slices_Insert_uint64_uint64_9 : List Nat := [0, 1, 2, 3, 4, 5, 6, 7, 8, 9]
def s_slices_Insert_uint64_uint64_10 : List AStep := [.pure (some 41) false (.move (.tmp 9)), .pure (some 42) false (.move (.tmp 1)), .pure (some 43) false (.slice 41 (.tmp 41) (some (.tmp 42)) none none), .pure (some 44) false (.move (.tmp 2)), .eff (some 45) (.call (.mk (.builtin .copy) #[.tmp 43, .tmp 44] #[41, 41]))]
abbrev p_slices_Insert_uint64_uint64_10 : List Nat := [0, 1, 2, 3, 4]
def s_slices_Insert_uint64_uint64_11 : SP := (.one (.pure (some 46) false (.move (.tmp 9))) (.one (.pure (some 47) false (.move (.tmp 1))) (.one (.pure (some 48) false (.move (.tmp 7))) (.one (.pure (some 49) false (.binOp .add 3 (.tmp 47) (.tmp 48) 3)) (.one (.pure (some 50) false (.slice 41 (.tmp 46) (some (.tmp 49)) none none)) (.one (.pure (some 51) false (.move (.tmp 0))) (.one (.pure (some 52) false (.move (.tmp 1))) (.one (.pure (some 53) false (.slice 41 (.tmp 51) (some (.tmp 52)) none none)) (.one (.eff (some 54) (.call (.mk (.builtin .copy) #[.tmp 50, .tmp 53] #[41, 41]))) .done)))))))))
abbrev p_slices_Insert_uint64_uint64_11 : PC := (.calm 0 272 (.calm 1 280 (.calm 2 280 (.calm 3 272 (.calm 4 256 (.calm 5 384 (.calm 6 384 (.calm 7 256 (.act 8 .done)))))))))
abbrev g_slices_Insert_uint64_uint64_11 : List Dg := [⟨0, 512, 70368744177664, .pure, true⟩, ⟨0, 2, 140737488355328, .pure, true⟩, ⟨0, 128, 281474976710656, .pure, true⟩, ⟨6, 422212465065984, 562949953421312, .pure, true⟩, ⟨9, 633318697598976, 1125899906842624, .pure, true⟩, ⟨0, 1, 2251799813685248, .pure, true⟩, ⟨0, 2, 4503599627370496, .pure, true⟩, ⟨96, 6755399441055744, 9007199254740992, .pure, true⟩, ⟨144, 10133099161583616, 18014398509481984, .eff, false⟩]
abbrev q_slices_Insert_uint64_uint64_11 : List Nat := []
def s_slices_Insert_uint64_uint64_12 : List AStep := [.pure (some 55) false (.move (.tmp 9)), .pure (some 6) false (.assign (.tmp 55))]
abbrev p_slices_Insert_uint64_uint64_12 : List Nat := [0, 1]
def s_slices_Insert_uint64_uint64_13 : List AStep := [.pure (some 56) false (.move (.tmp 0)), .pure (some 57) false (.move (.tmp 8)), .pure (some 58) false (.move (.tmp 7)), .pure (some 59) false (.binOp .add 3 (.tmp 57) (.tmp 58) 3), .pure (some 60) false (.slice 41 (.tmp 56) none (some (.tmp 59)) none), .pure (some 0) false (.assign (.tmp 60))]
abbrev p_slices_Insert_uint64_uint64_13 : List Nat := [0, 1, 2, 3, 4, 5]
abbrev q_slices_Insert_uint64_uint64_14 : List Nat := [1006]
def s_slices_Insert_uint64_uint64_14 : List AStep := [.pure (some 61) false (.move (.tmp 2)), .pure (some 62) false (.move (.tmp 0)), .pure (some 63) false (.move (.tmp 1)), .pure (some 64) false (.move (.tmp 7)), .pure (some 65) false (.binOp .add 3 (.tmp 63) (.tmp 64) 3), .pure (some 66) false (.slice 41 (.tmp 62) (some (.tmp 65)) none none), .mcall (some 67) false ⟨.value (.func 29), #[.tmp 61, .tmp 66], #[41, 41]⟩, .pure (some 68) false (.unOp .not 4 (.tmp 67))]
abbrev p_slices_Insert_uint64_uint64_14 : List Nat := [0, 1, 2, 3, 4, 5, 6, 7]
def s_slices_Insert_uint64_uint64_15 : SP := (.one (.pure (some 69) false (.move (.tmp 0))) (.one (.pure (some 70) false (.move (.tmp 1))) (.one (.pure (some 71) false (.move (.tmp 7))) (.one (.pure (some 72) false (.binOp .add 3 (.tmp 70) (.tmp 71) 3)) (.one (.pure (some 73) false (.slice 41 (.tmp 69) (some (.tmp 72)) none none)) (.one (.pure (some 74) false (.move (.tmp 0))) (.one (.pure (some 75) false (.move (.tmp 1))) (.one (.pure (some 76) false (.slice 41 (.tmp 74) (some (.tmp 75)) none none)) (.one (.eff (some 77) (.call (.mk (.builtin .copy) #[.tmp 73, .tmp 76] #[41, 41]))) .done)))))))))
abbrev p_slices_Insert_uint64_uint64_15 : PC := (.calm 0 272 (.calm 1 280 (.calm 2 280 (.calm 3 272 (.calm 4 256 (.calm 5 384 (.calm 6 384 (.calm 7 256 (.act 8 .done)))))))))
abbrev g_slices_Insert_uint64_uint64_15 : List Dg := [⟨0, 1, 590295810358705651712, .pure, true⟩, ⟨0, 2, 1180591620717411303424, .pure, true⟩, ⟨0, 128, 2361183241434822606848, .pure, true⟩, ⟨6, 3541774862152233910272, 4722366482869645213696, .pure, true⟩, ⟨9, 5312662293228350865408, 9444732965739290427392, .pure, true⟩, ⟨0, 1, 18889465931478580854784, .pure, true⟩, ⟨0, 2, 37778931862957161709568, .pure, true⟩, ⟨96, 56668397794435742564352, 75557863725914323419136, .pure, true⟩, ⟨144, 85002596691653613846528, 151115727451828646838272, .eff, false⟩]
abbrev q_slices_Insert_uint64_uint64_15 : List Nat := []
def s_slices_Insert_uint64_uint64_16 : List AStep := [.pure (some 78) false (.move (.tmp 0)), .pure (some 79) false (.move (.tmp 1)), .pure (some 80) false (.slice 41 (.tmp 78) (some (.tmp 79)) none none), .pure (some 81) false (.move (.tmp 2)), .eff (some 82) (.call (.mk (.builtin .copy) #[.tmp 80, .tmp 81] #[41, 41]))]
abbrev p_slices_Insert_uint64_uint64_16 : List Nat := [0, 1, 2, 3, 4]
def s_slices_Insert_uint64_uint64_17 : List AStep := [.pure (some 83) false (.move (.tmp 0)), .pure (some 6) false (.assign (.tmp 83))]
abbrev p_slices_Insert_uint64_uint64_17 : List Nat := [0, 1]
def s_slices_Insert_uint64_uint64_18 : List AStep := [.pure (some 84) false (.move (.tmp 0)), .pure (some 85) false (.move (.tmp 8)), .pure (some 86) false (.slice 41 (.tmp 84) (some (.tmp 85)) none none), .pure (some 87) false (.move (.tmp 2)), .eff (some 88) (.call (.mk (.builtin .copy) #[.tmp 86, .tmp 87] #[41, 41]))]
abbrev p_slices_Insert_uint64_uint64_18 : List Nat := [0, 1, 2, 3, 4]
def s_slices_Insert_uint64_uint64_19 : List AStep := [.pure (some 89) false (.move (.tmp 0)), .pure (some 90) false (.move (.tmp 1)), .pure (some 91) false (.slice 41 (.tmp 89) (some (.tmp 90)) none none), .pure (some 92) false (.move (.tmp 7)), .call (some 93) false ⟨.value (.func 30), #[.tmp 91, .tmp 92], #[41, 3]⟩]
abbrev p_slices_Insert_uint64_uint64_19 : List Nat := [0, 1, 2, 3, 4]
def s_slices_Insert_uint64_uint64_20 : List AStep := [.pure (some 94) false (.move (.tmp 0)), .pure (some 6) false (.assign (.tmp 94))]
abbrev p_slices_Insert_uint64_uint64_20 : List Nat := [0, 1]

/-! slices.Clone[[]uint64,uint64] -/
abbrev n_slices_Clone_uint64_uint64 : Nat := 25
theorem func_slices_Clone_uint64_uint64 : Try.prog.funcs[n_slices_Clone_uint64_uint64]? = some Try.f25 := Try.func25
theorem call_slices_Clone_uint64_uint64 : ∀ args w, (callFunc n_slices_Clone_uint64_uint64 args).run Try.prog w = .ok (.enter n_slices_Clone_uint64_uint64 args) w := Try.call25
theorem nt_slices_Clone_uint64_uint64 : Try.f25.ntmps = 8 := Try.ntmps25
theorem rs_slices_Clone_uint64_uint64 : Try.f25.results.toList = [.tmp 2] := by rw [Try.results25]
def s_slices_Clone_uint64_uint64_0 : List AStep := [.pure (some 2) false (.assign (.const (.slice none 0 0)))]
abbrev p_slices_Clone_uint64_uint64_0 : List Nat := [0]
def s_slices_Clone_uint64_uint64_1 : List AStep := [.pure (some 3) false (.move (.tmp 0)), .pure (some 4) false (.binOp .eql 41 (.tmp 3) (.const (.slice none 0 0)) 41)]
abbrev p_slices_Clone_uint64_uint64_1 : List Nat := [0, 1]
def s_slices_Clone_uint64_uint64_2 : List AStep := [.pure (some 2) false (.assign (.const (.slice none 0 0)))]
abbrev p_slices_Clone_uint64_uint64_2 : List Nat := [0]
def s_slices_Clone_uint64_uint64_3 : List AStep := [.eff (some 5) (.buildSlice 41 0 #[]), .pure (some 6) false (.move (.tmp 0)), .eff (some 7) (.call (.mk (.builtin .append) #[.tmp 5, .tmp 6] #[41, 41])), .pure (some 2) false (.assign (.tmp 7))]
abbrev p_slices_Clone_uint64_uint64_3 : List Nat := [0, 1, 2, 3]

/-! slices.IndexFunc[[]uint64,uint64] -/
abbrev n_slices_IndexFunc_uint64_uint64 : Nat := 26
theorem func_slices_IndexFunc_uint64_uint64 : Try.prog.funcs[n_slices_IndexFunc_uint64_uint64]? = some Try.f26 := Try.func26
theorem call_slices_IndexFunc_uint64_uint64 : ∀ args w, (callFunc n_slices_IndexFunc_uint64_uint64 args).run Try.prog w = .ok (.enter n_slices_IndexFunc_uint64_uint64 args) w := Try.call26
theorem nt_slices_IndexFunc_uint64_uint64 : Try.f26.ntmps = 19 := Try.ntmps26
theorem rs_slices_IndexFunc_uint64_uint64 : Try.f26.results.toList = [.tmp 4] := by rw [Try.results26]
def s_slices_IndexFunc_uint64_uint64_0 : List AStep := [.pure (some 4) false (.assign (.const (.int .i64 0)))]
abbrev p_slices_IndexFunc_uint64_uint64_0 : List Nat := [0]
def s_slices_IndexFunc_uint64_uint64_1 : List AStep := [.pure (some 6) false (.move (.tmp 0)), .pure (some 7) false (.call (.mk (.builtin .len) #[.tmp 6] #[41])), .pure (some 8) false (.move (.const (.int .i64 0)))]
abbrev p_slices_IndexFunc_uint64_uint64_1 : List Nat := [0, 1, 2]
def s_slices_IndexFunc_uint64_uint64_2 : List AStep := [.pure (some 9) false (.binOp .lss 3 (.tmp 8) (.tmp 7) 3)]
abbrev p_slices_IndexFunc_uint64_uint64_2 : List Nat := [0]
def s_slices_IndexFunc_uint64_uint64_3 : List AStep := [.pure (some 10) false (.move (.tmp 8)), .pure (some 5) false (.assign (.tmp 10))]
abbrev p_slices_IndexFunc_uint64_uint64_3 : List Nat := [0, 1]
def s_slices_IndexFunc_uint64_uint64_4 : List AStep := [.pure (some 11) false (.move (.tmp 1)), .pure (some 12) false (.move (.tmp 0)), .pure (some 13) false (.move (.tmp 5)), .pure (some 14) false (.indexAddr 41 (.tmp 12) (.tmp 13)), .read (some 15) false (.load 29 (.tmp 14)), .call (some 16) false ⟨.value (.tmp 11), #[.tmp 15], #[29]⟩]
abbrev p_slices_IndexFunc_uint64_uint64_4 : List Nat := [0, 1, 2, 3, 4, 5]
def s_slices_IndexFunc_uint64_uint64_5 : List AStep := [.pure (some 17) false (.move (.tmp 5)), .pure (some 4) false (.assign (.tmp 17))]
abbrev p_slices_IndexFunc_uint64_uint64_5 : List Nat := [0, 1]
def s_slices_IndexFunc_uint64_uint64_6 : List AStep := [.pure (some 18) false (.binOp .add 3 (.tmp 8) (.const (.int .i64 1)) 3), .pure (some 8) false (.move (.tmp 18))]
abbrev p_slices_IndexFunc_uint64_uint64_6 : List Nat := [0, 1]
def s_slices_IndexFunc_uint64_uint64_7 : List AStep := [.pure (some 4) false (.assign (.const (.int .i64 (-1))))]
abbrev p_slices_IndexFunc_uint64_uint64_7 : List Nat := [0]

/-! cmp.Less[uint64] -/
abbrev n_cmp_Less_uint64 : Nat := 27
theorem func_cmp_Less_uint64 : Try.prog.funcs[n_cmp_Less_uint64]? = some Try.f27 := Try.func27
theorem call_cmp_Less_uint64 : ∀ args w, (callFunc n_cmp_Less_uint64 args).run Try.prog w = .ok (.enter n_cmp_Less_uint64 args) w := Try.call27
theorem nt_cmp_Less_uint64 : Try.f27.ntmps = 17 := Try.ntmps27
theorem rs_cmp_Less_uint64 : Try.f27.results.toList = [.tmp 4] := by rw [Try.results27]
def s_cmp_Less_uint64_0 : List AStep := [.pure (some 4) false (.assign (.const (.bool false)))]
abbrev p_cmp_Less_uint64_0 : List Nat := [0]
def s_cmp_Less_uint64_1 : List AStep := [.pure (some 5) false (.move (.tmp 0)), .call (some 6) false ⟨.value (.func 31), #[.tmp 5], #[29]⟩, .pure (some 7) true (.move (.tmp 6)), .guard 7 true (.pure (some 8) false (.move (.tmp 1))), .guard 7 true (.call (some 9) false ⟨.value (.func 31), #[.tmp 8], #[29]⟩), .guard 7 true (.pure (some 10) false (.unOp .not 4 (.tmp 9))), .pure (some 11) false (.pick (.tmp 7) (.tmp 10) (.const (.bool false))), .pure (some 12) true (.move (.tmp 11)), .guard 12 false (.pure (some 13) false (.move (.tmp 0))), .guard 12 false (.pure (some 14) false (.move (.tmp 1))), .guard 12 false (.pure (some 15) false (.binOp .lss 29 (.tmp 13) (.tmp 14) 29)), .pure (some 16) false (.pick (.tmp 12) (.const (.bool true)) (.tmp 15)), .pure (some 4) false (.assign (.tmp 16))]
abbrev p_cmp_Less_uint64_1 : List Nat := [0, 1, 2, 3, 4, 5, 6, 7, 8, 9, 10, 11, 12]

/-! slices.isNaN[uint64] -/
abbrev n_slices_isNaN_uint64 : Nat := 28
theorem func_slices_isNaN_uint64 : Try.prog.funcs[n_slices_isNaN_uint64]? = some Try.f28 := Try.func28
theorem call_slices_isNaN_uint64 : ∀ args w, (callFunc n_slices_isNaN_uint64 args).run Try.prog w = .ok (.enter n_slices_isNaN_uint64 args) w := Try.call28
theorem nt_slices_isNaN_uint64 : Try.f28.ntmps = 6 := Try.ntmps28
theorem rs_slices_isNaN_uint64 : Try.f28.results.toList = [.tmp 2] := by rw [Try.results28]
def s_slices_isNaN_uint64_0 : List AStep := [.pure (some 2) false (.assign (.const (.bool false)))]
abbrev p_slices_isNaN_uint64_0 : List Nat := [0]
def s_slices_isNaN_uint64_1 : List AStep := [.pure (some 3) false (.move (.tmp 0)), .pure (some 4) false (.move (.tmp 0)), .pure (some 5) false (.binOp .neq 29 (.tmp 3) (.tmp 4) 29), .pure (some 2) false (.assign (.tmp 5))]
abbrev p_slices_isNaN_uint64_1 : List Nat := [0, 1, 2, 3]

/-! slices.rotateRight[uint64] -/
abbrev n_slices_rotateRight_uint64 : Nat := 30
theorem func_slices_rotateRight_uint64 : Try.prog.funcs[n_slices_rotateRight_uint64]? = some Try.f30 := Try.func30
theorem call_slices_rotateRight_uint64 : ∀ args w, (callFunc n_slices_rotateRight_uint64 args).run Try.prog w = .ok (.enter n_slices_rotateRight_uint64 args) w := Try.call30
theorem nt_slices_rotateRight_uint64 : Try.f30.ntmps = 10 := Try.ntmps30
theorem rs_slices_rotateRight_uint64 : Try.f30.results.toList = [] := by rw [Try.results30]
def s_slices_rotateRight_uint64_0 : List AStep := [.pure (some 4) false (.move (.tmp 0)), .pure (some 5) false (.move (.tmp 0)), .pure (some 6) false (.call (.mk (.builtin .len) #[.tmp 5] #[41])), .pure (some 7) false (.move (.tmp 1)), .pure (some 8) false (.binOp .sub 3 (.tmp 6) (.tmp 7) 3), .call (some 9) false ⟨.value (.func 32), #[.tmp 4, .tmp 8], #[41, 3]⟩]
abbrev p_slices_rotateRight_uint64_0 : List Nat := [0, 1, 2, 3, 4, 5]

/-! cmp.isNaN[uint64] -/
abbrev n_cmp_isNaN_uint64 : Nat := 31
theorem func_cmp_isNaN_uint64 : Try.prog.funcs[n_cmp_isNaN_uint64]? = some Try.f31 := Try.func31
theorem call_cmp_isNaN_uint64 : ∀ args w, (callFunc n_cmp_isNaN_uint64 args).run Try.prog w = .ok (.enter n_cmp_isNaN_uint64 args) w := Try.call31
theorem nt_cmp_isNaN_uint64 : Try.f31.ntmps = 6 := Try.ntmps31
theorem rs_cmp_isNaN_uint64 : Try.f31.results.toList = [.tmp 2] := by rw [Try.results31]
def s_cmp_isNaN_uint64_0 : List AStep := [.pure (some 2) false (.assign (.const (.bool false)))]
abbrev p_cmp_isNaN_uint64_0 : List Nat := [0]
def s_cmp_isNaN_uint64_1 : List AStep := [.pure (some 3) false (.move (.tmp 0)), .pure (some 4) false (.move (.tmp 0)), .pure (some 5) false (.binOp .neq 29 (.tmp 3) (.tmp 4) 29), .pure (some 2) false (.assign (.tmp 5))]
abbrev p_cmp_isNaN_uint64_1 : List Nat := [0, 1, 2, 3]

/-! slices.rotateLeft[uint64] -/
abbrev n_slices_rotateLeft_uint64 : Nat := 32
theorem func_slices_rotateLeft_uint64 : Try.prog.funcs[n_slices_rotateLeft_uint64]? = some Try.f32 := Try.func32
theorem call_slices_rotateLeft_uint64 : ∀ args w, (callFunc n_slices_rotateLeft_uint64 args).run Try.prog w = .ok (.enter n_slices_rotateLeft_uint64 args) w := Try.call32
theorem nt_slices_rotateLeft_uint64 : Try.f32.ntmps = 14 := Try.ntmps32
theorem rs_slices_rotateLeft_uint64 : Try.f32.results.toList = [] := by rw [Try.results32]
def s_slices_rotateLeft_uint64_0 : List AStep := [.pure (some 4) false (.move (.tmp 0)), .pure (some 5) false (.move (.tmp 1)), .pure (some 6) false (.slice 41 (.tmp 4) none (some (.tmp 5)) none), .call (some 7) false ⟨.value (.func 33), #[.tmp 6], #[41]⟩]
abbrev p_slices_rotateLeft_uint64_0 : List Nat := [0, 1, 2, 3]
def s_slices_rotateLeft_uint64_1 : List AStep := [.pure (some 8) false (.move (.tmp 0)), .pure (some 9) false (.move (.tmp 1)), .pure (some 10) false (.slice 41 (.tmp 8) (some (.tmp 9)) none none), .call (some 11) false ⟨.value (.func 33), #[.tmp 10], #[41]⟩]
abbrev p_slices_rotateLeft_uint64_1 : List Nat := [0, 1, 2, 3]
def s_slices_rotateLeft_uint64_2 : List AStep := [.pure (some 12) false (.move (.tmp 0)), .call (some 13) false ⟨.value (.func 33), #[.tmp 12], #[41]⟩]
abbrev p_slices_rotateLeft_uint64_2 : List Nat := [0, 1]

/-! slices.Reverse[[]uint64,uint64] -/
abbrev n_slices_Reverse_uint64_uint64 : Nat := 33
theorem func_slices_Reverse_uint64_uint64 : Try.prog.funcs[n_slices_Reverse_uint64_uint64]? = some Try.f33 := Try.func33
theorem call_slices_Reverse_uint64_uint64 : ∀ args w, (callFunc n_slices_Reverse_uint64_uint64 args).run Try.prog w = .ok (.enter n_slices_Reverse_uint64_uint64 args) w := Try.call33
theorem nt_slices_Reverse_uint64_uint64 : Try.f33.ntmps = 28 := Try.ntmps33
theorem rs_slices_Reverse_uint64_uint64 : Try.f33.results.toList = [] := by rw [Try.results33]
def s_slices_Reverse_uint64_uint64_0 : List AStep := [.pure (some 4) false (.move (.tmp 0)), .pure (some 5) false (.call (.mk (.builtin .len) #[.tmp 4] #[41])), .pure (some 6) false (.binOp .sub 3 (.tmp 5) (.const (.int .i64 1)) 3), .pure (some 2) false (.assign (.const (.int .i64 0))), .pure (some 3) false (.assign (.tmp 6))]
abbrev p_slices_Reverse_uint64_uint64_0 : List Nat := [0, 1, 2, 3, 4]
def s_slices_Reverse_uint64_uint64_1 : List AStep := [.pure (some 7) false (.move (.tmp 2)), .pure (some 8) false (.move (.tmp 3)), .pure (some 9) false (.binOp .lss 3 (.tmp 7) (.tmp 8) 3)]
abbrev p_slices_Reverse_uint64_uint64_1 : List Nat := [0, 1, 2]
def s_slices_Reverse_uint64_uint64_3 : SP := (.one (.pure (some 14) false (.move (.tmp 0))) (.one (.pure (some 15) false (.move (.tmp 2))) (.one (.pure (some 16) false (.move (.tmp 0))) (.one (.pure (some 17) false (.move (.tmp 3))) (.one (.pure (some 18) false (.move (.tmp 0))) (.one (.pure (some 19) false (.move (.tmp 3))) (.one (.pure (some 20) false (.indexAddr 41 (.tmp 18) (.tmp 19))) (.one (.pure (some 22) false (.move (.tmp 0))) (.one (.pure (some 23) false (.move (.tmp 2))) (.one (.pure (some 24) false (.indexAddr 41 (.tmp 22) (.tmp 23))) (.one (.read (some 21) false (.load 29 (.tmp 20))) (.one (.read (some 25) false (.load 29 (.tmp 24))) (.one (.pure (some 26) false (.indexAddr 41 (.tmp 14) (.tmp 15))) (.one (.eff none (.store 29 (.tmp 26) (.tmp 21))) (.one (.pure (some 27) false (.indexAddr 41 (.tmp 16) (.tmp 17))) (.one (.eff none (.store 29 (.tmp 27) (.tmp 25))) .done))))))))))))))))
abbrev p_slices_Reverse_uint64_uint64_3 : PC := (.calm 0 61440 (.calm 1 61440 (.calm 2 49152 (.calm 3 49152 (.calm 4 61632 (.calm 5 61632 (.calm 6 61568 (.calm 8 64512 (.calm 9 64512 (.calm 10 63488 (.calm 7 61440 (.calm 11 61440 (.calm 12 57344 (.act 13 (.calm 14 32768 (.act 15 .done))))))))))))))))
abbrev g_slices_Reverse_uint64_uint64_3 : List Dg := [⟨0, 1, 16384, .pure, true⟩, ⟨0, 4, 32768, .pure, true⟩, ⟨0, 1, 65536, .pure, true⟩, ⟨0, 8, 131072, .pure, true⟩, ⟨0, 1, 262144, .pure, true⟩, ⟨0, 8, 524288, .pure, true⟩, ⟨48, 786432, 1048576, .pure, true⟩, ⟨64, 1048576, 2097152, .read, true⟩, ⟨0, 1, 4194304, .pure, true⟩, ⟨0, 4, 8388608, .pure, true⟩, ⟨768, 12582912, 16777216, .pure, true⟩, ⟨1024, 16777216, 33554432, .read, true⟩, ⟨2291, 49152, 67108864, .pure, true⟩, ⟨6387, 69206016, 0, .eff, false⟩, ⟨16383, 196608, 134217728, .pure, true⟩, ⟨32767, 167772160, 0, .eff, false⟩]
abbrev q_slices_Reverse_uint64_uint64_3 : List Nat := []
def s_slices_Reverse_uint64_uint64_2 : List AStep := [.pure (some 10) false (.move (.tmp 2)), .pure (some 11) false (.binOp .add 3 (.tmp 10) (.const (.int .i64 1)) 3), .pure (some 12) false (.move (.tmp 3)), .pure (some 13) false (.binOp .sub 3 (.tmp 12) (.const (.int .i64 1)) 3), .pure (some 2) false (.assign (.tmp 11)), .pure (some 3) false (.assign (.tmp 13))]
abbrev p_slices_Reverse_uint64_uint64_2 : List Nat := [0, 1, 2, 3, 4, 5]

/-! (erewhile/erewhilelaw05.Lit).Sum -/
abbrev n_law05_Lit_Sum : Nat := 50
theorem func_law05_Lit_Sum : Try.prog.funcs[n_law05_Lit_Sum]? = some Try.f50 := Try.func50
theorem call_law05_Lit_Sum : ∀ args w, (callFunc n_law05_Lit_Sum args).run Try.prog w = .ok (.enter n_law05_Lit_Sum args) w := Try.call50
theorem nt_law05_Lit_Sum : Try.f50.ntmps = 10 := Try.ntmps50
theorem rs_law05_Lit_Sum : Try.f50.results.toList = [.cell 6 48] := by rw [Try.results50]
def s_law05_Lit_Sum_0 : List AStep := [.eff (some 3) (.box 31 (.tmp 0)), .eff (some 4) (.box 23 (.tmp 1)), .eff (some 6) (.alloc 48)]
abbrev p_law05_Lit_Sum_0 : List Nat := [0, 1, 2]
def s_law05_Lit_Sum_1 : List AStep := [.read (some 7) false (.load 23 (.tmp 4)), .pure (some 8) false (.move (.tmp 2)), .call (some 9) false ⟨.value (.func 19), #[.tmp 7, .tmp 8], #[23, 50]⟩, .eff none (.store 48 (.tmp 6) (.tmp 9))]
abbrev p_law05_Lit_Sum_1 : List Nat := [0, 1, 2, 3]

/-! (erewhile/erewhilelaw05.Spy).Sum -/
abbrev n_law05_Spy_Sum : Nat := 52
theorem func_law05_Spy_Sum : Try.prog.funcs[n_law05_Spy_Sum]? = some Try.f52 := Try.func52
theorem call_law05_Spy_Sum : ∀ args w, (callFunc n_law05_Spy_Sum args).run Try.prog w = .ok (.enter n_law05_Spy_Sum args) w := Try.call52
theorem nt_law05_Spy_Sum : Try.f52.ntmps = 16 := Try.ntmps52
theorem rs_law05_Spy_Sum : Try.f52.results.toList = [.cell 6 48] := by rw [Try.results52]
def s_law05_Spy_Sum_0 : List AStep := [.eff (some 3) (.box 54 (.tmp 0)), .eff (some 4) (.box 23 (.tmp 1)), .eff (some 6) (.alloc 48)]
abbrev p_law05_Spy_Sum_0 : List Nat := [0, 1, 2]
def s_law05_Spy_Sum_1 : List AStep := [.pure (some 7) false (.fieldAddr 54 (.tmp 3) 1), .read (some 8) false (.load 52 (.tmp 7)), .pure (some 9) false (.nilCheck (.tmp 8)), .read (some 10) false (.load 3 (.tmp 9)), .pure (some 11) false (.binOp .add 3 (.tmp 10) (.const (.int .i64 1)) 3), .pure (some 12) false (.nilCheck (.tmp 8)), .eff none (.store 3 (.tmp 12) (.tmp 11))]
abbrev p_law05_Spy_Sum_1 : List Nat := [0, 1, 2, 3, 4, 5, 6]
def s_law05_Spy_Sum_2 : List AStep := [.read (some 13) false (.load 23 (.tmp 4)), .pure (some 14) false (.move (.tmp 2)), .call (some 15) false ⟨.value (.func 19), #[.tmp 13, .tmp 14], #[23, 50]⟩, .eff none (.store 48 (.tmp 6) (.tmp 15))]
abbrev p_law05_Spy_Sum_2 : List Nat := [0, 1, 2, 3]

end Go.Proofs.Ythbpflnbgcdmiaa
