/- The names of the functions, the steps of their regions, and facts on types, printed by a program out of the loaded program. -/
import Derived.Test.YtdcbgmbpiekbgaaSyB
import Derived.Test.YtdcbgmbpiekbgaaProg
import Derived.KernelRfl
namespace Go.Proofs.Ytdcbgmbpiekbgaa
open Go Go.Proofs.Ytdcbgmbpiekbgaa.Sy
set_option linter.unusedVariables false

/-- The types. -/
theorem ty0 : Try.prog.underlying 3 = some (.int .i64) := Try.underlying3
theorem ty1 : Try.prog.underlying 4 = some (.bool) := Try.underlying4
theorem ty2 : Try.prog.underlying 5 = some (.int .u8) := Try.underlying5
theorem ty3 : Try.prog.underlying 9 = some (.string) := Try.underlying9
theorem ty4 : Try.prog.underlying 22 = some (.slice 27) := Try.underlying22
theorem ty5 : Try.prog.underlying 24 = some (.pointer 30) := Try.underlying24
theorem ty6 : Try.prog.underlying 27 = some (.array 16 5) := Try.underlying27
theorem ty7 : Try.prog.underlying 28 = some (.pointer 50) := Try.underlying28
theorem ty8 : Try.prog.underlying 41 = some (.array 2 24) := Try.underlying41
theorem ty9 : Try.prog.underlying 42 = some (.slice 41) := Try.underlying42
theorem ty10 : Try.prog.underlying 43 = some (.slice 3) := Try.underlying43
theorem ty11 : Try.prog.underlying 60 = some (.slice 5) := Try.underlying60
theorem ty12 : Try.prog.underlying 64 = some (.array 32 5) := Try.underlying64
theorem ty13 : Try.prog.underlying 66 = some (.slice 60) := Try.underlying66
theorem ty14 : Try.prog.underlying 68 = some (.int .u32) := Try.underlying68
theorem ty15 : Try.prog.underlying 69 = some (.array 8 68) := Try.underlying69
theorem ty16 : Try.prog.underlying 72 = some (.array 64 5) := Try.underlying72
theorem ty17 : Try.prog.underlying 76 = some (.int .u64) := Try.underlying76
theorem ty18 : Try.prog.underlying 77 = some (.array 64 68) := Try.underlying77
theorem ty19 : Try.prog.underlying 79 = some (.int .u64) := Try.underlying79
theorem ty20 : Try.prog.underlying 84 = some (.slice 76) := Try.underlying84
theorem ty21 : Try.prog.cellsOf 3 = 1 := by kernel_rfl
theorem ty22 : Try.prog.cellsOf 4 = 1 := by kernel_rfl
theorem ty23 : Try.prog.cellsOf 5 = 1 := by kernel_rfl
theorem ty24 : Try.prog.cellsOf 9 = 1 := by kernel_rfl
theorem ty25 : Try.prog.cellsOf 22 = 1 := by kernel_rfl
theorem ty26 : Try.prog.cellsOf 24 = 1 := by kernel_rfl
theorem ty27 : Try.prog.cellsOf 27 = 16 := by kernel_rfl
theorem ty28 : Try.prog.cellsOf 28 = 1 := by kernel_rfl
theorem ty29 : Try.prog.cellsOf 30 = 1 := by kernel_rfl
theorem ty30 : Try.prog.cellsOf 41 = 2 := by kernel_rfl
theorem ty31 : Try.prog.cellsOf 42 = 1 := by kernel_rfl
theorem ty32 : Try.prog.cellsOf 43 = 1 := by kernel_rfl
theorem ty33 : Try.prog.cellsOf 50 = 19 := by kernel_rfl
theorem ty34 : Try.prog.cellsOf 60 = 1 := by kernel_rfl
theorem ty35 : Try.prog.cellsOf 64 = 32 := by kernel_rfl
theorem ty36 : Try.prog.cellsOf 66 = 1 := by kernel_rfl
theorem ty37 : Try.prog.cellsOf 68 = 1 := by kernel_rfl
theorem ty38 : Try.prog.cellsOf 69 = 8 := by kernel_rfl
theorem ty39 : Try.prog.cellsOf 72 = 64 := by kernel_rfl
theorem ty40 : Try.prog.cellsOf 76 = 1 := by kernel_rfl
theorem ty41 : Try.prog.cellsOf 77 = 64 := by kernel_rfl
theorem ty42 : Try.prog.cellsOf 79 = 1 := by kernel_rfl
theorem ty43 : Try.prog.cellsOf 84 = 1 := by kernel_rfl
theorem ty44 : Try.prog.bytesOf 3 = 8 := by kernel_rfl
theorem ty45 : Try.prog.bytesOf 5 = 1 := by kernel_rfl
theorem ty46 : Try.prog.bytesOf 27 = 16 := by kernel_rfl
theorem ty47 : Try.prog.bytesOf 41 = 16 := by kernel_rfl
theorem ty48 : Try.prog.bytesOf 60 = 24 := by kernel_rfl
theorem ty49 : Try.prog.bytesOf 76 = 8 := by kernel_rfl
theorem ty50 : zeroCellsOf Try.prog 3 = some (#[.int .i64 0]) := by kernel_rfl
theorem ty51 : zeroCellsOf Try.prog 4 = some #[.bool false] := by kernel_rfl
theorem ty52 : zeroCellsOf Try.prog 5 = some (#[.int .u8 0]) := by kernel_rfl
theorem ty53 : zeroCellsOf Try.prog 9 = some #[.string ⟨#[]⟩] := by kernel_rfl
theorem ty54 : zeroCellsOf Try.prog 22 = some #[.slice none 0 0] := by kernel_rfl
theorem ty55 : zeroCellsOf Try.prog 24 = some #[.pointer none] := by kernel_rfl
theorem ty56 : zeroCellsOf Try.prog 27 = some (Array.replicate 16 (.int .u8 0)) := by kernel_rfl
theorem ty57 : Try.prog.eqGuardType Try.prog.depth 27 = false := by kernel_rfl
theorem ty58 : zeroCellsOf Try.prog 28 = some #[.pointer none] := by kernel_rfl
theorem ty59 : Try.prog.eqGuardType Try.prog.depth 41 = false := by kernel_rfl
theorem ty60 : zeroCellsOf Try.prog 42 = some #[.slice none 0 0] := by kernel_rfl
theorem ty61 : zeroCellsOf Try.prog 43 = some #[.slice none 0 0] := by kernel_rfl
theorem ty62 : zeroCellsOf Try.prog 60 = some #[.slice none 0 0] := by kernel_rfl
theorem ty63 : zeroCellsOf Try.prog 64 = some (Array.replicate 32 (.int .u8 0)) := by kernel_rfl
theorem ty64 : Try.prog.eqGuardType Try.prog.depth 64 = false := by kernel_rfl
theorem ty65 : zeroCellsOf Try.prog 66 = some #[.slice none 0 0] := by kernel_rfl
theorem ty66 : zeroCellsOf Try.prog 68 = some (#[.int .u32 0]) := by kernel_rfl
theorem ty67 : zeroCellsOf Try.prog 69 = some (Array.replicate 8 (.int .u32 0)) := by kernel_rfl
theorem ty68 : Try.prog.eqGuardType Try.prog.depth 69 = false := by kernel_rfl
theorem ty69 : zeroCellsOf Try.prog 72 = some (Array.replicate 64 (.int .u8 0)) := by kernel_rfl
theorem ty70 : Try.prog.eqGuardType Try.prog.depth 72 = false := by kernel_rfl
theorem ty71 : zeroCellsOf Try.prog 76 = some (#[.int .u64 0]) := by kernel_rfl
theorem ty72 : zeroCellsOf Try.prog 77 = some (Array.replicate 64 (.int .u32 0)) := by kernel_rfl
theorem ty73 : Try.prog.eqGuardType Try.prog.depth 77 = false := by kernel_rfl
theorem ty74 : zeroCellsOf Try.prog 79 = some (#[.int .u64 0]) := by kernel_rfl
theorem ty75 : zeroCellsOf Try.prog 84 = some #[.slice none 0 0] := by kernel_rfl
theorem ty : (Try.prog.underlying 3 = some (.int .i64)) ∧ (Try.prog.underlying 4 = some (.bool)) ∧ (Try.prog.underlying 5 = some (.int .u8)) ∧ (Try.prog.underlying 9 = some (.string)) ∧ (Try.prog.underlying 22 = some (.slice 27)) ∧ (Try.prog.underlying 24 = some (.pointer 30)) ∧ (Try.prog.underlying 27 = some (.array 16 5)) ∧ (Try.prog.underlying 28 = some (.pointer 50)) ∧ (Try.prog.underlying 41 = some (.array 2 24)) ∧ (Try.prog.underlying 42 = some (.slice 41)) ∧ (Try.prog.underlying 43 = some (.slice 3)) ∧ (Try.prog.underlying 60 = some (.slice 5)) ∧ (Try.prog.underlying 64 = some (.array 32 5)) ∧ (Try.prog.underlying 66 = some (.slice 60)) ∧ (Try.prog.underlying 68 = some (.int .u32)) ∧ (Try.prog.underlying 69 = some (.array 8 68)) ∧ (Try.prog.underlying 72 = some (.array 64 5)) ∧ (Try.prog.underlying 76 = some (.int .u64)) ∧ (Try.prog.underlying 77 = some (.array 64 68)) ∧ (Try.prog.underlying 79 = some (.int .u64)) ∧ (Try.prog.underlying 84 = some (.slice 76)) ∧ (Try.prog.cellsOf 3 = 1) ∧ (Try.prog.cellsOf 4 = 1) ∧ (Try.prog.cellsOf 5 = 1) ∧ (Try.prog.cellsOf 9 = 1) ∧ (Try.prog.cellsOf 22 = 1) ∧ (Try.prog.cellsOf 24 = 1) ∧ (Try.prog.cellsOf 27 = 16) ∧ (Try.prog.cellsOf 28 = 1) ∧ (Try.prog.cellsOf 30 = 1) ∧ (Try.prog.cellsOf 41 = 2) ∧ (Try.prog.cellsOf 42 = 1) ∧ (Try.prog.cellsOf 43 = 1) ∧ (Try.prog.cellsOf 50 = 19) ∧ (Try.prog.cellsOf 60 = 1) ∧ (Try.prog.cellsOf 64 = 32) ∧ (Try.prog.cellsOf 66 = 1) ∧ (Try.prog.cellsOf 68 = 1) ∧ (Try.prog.cellsOf 69 = 8) ∧ (Try.prog.cellsOf 72 = 64) ∧ (Try.prog.cellsOf 76 = 1) ∧ (Try.prog.cellsOf 77 = 64) ∧ (Try.prog.cellsOf 79 = 1) ∧ (Try.prog.cellsOf 84 = 1) ∧ (Try.prog.bytesOf 3 = 8) ∧ (Try.prog.bytesOf 5 = 1) ∧ (Try.prog.bytesOf 27 = 16) ∧ (Try.prog.bytesOf 41 = 16) ∧ (Try.prog.bytesOf 60 = 24) ∧ (Try.prog.bytesOf 76 = 8) ∧ (zeroCellsOf Try.prog 3 = some (#[.int .i64 0])) ∧ (zeroCellsOf Try.prog 4 = some #[.bool false]) ∧ (zeroCellsOf Try.prog 5 = some (#[.int .u8 0])) ∧ (zeroCellsOf Try.prog 9 = some #[.string ⟨#[]⟩]) ∧ (zeroCellsOf Try.prog 22 = some #[.slice none 0 0]) ∧ (zeroCellsOf Try.prog 24 = some #[.pointer none]) ∧ (zeroCellsOf Try.prog 27 = some (Array.replicate 16 (.int .u8 0))) ∧ (Try.prog.eqGuardType Try.prog.depth 27 = false) ∧ (zeroCellsOf Try.prog 28 = some #[.pointer none]) ∧ (Try.prog.eqGuardType Try.prog.depth 41 = false) ∧ (zeroCellsOf Try.prog 42 = some #[.slice none 0 0]) ∧ (zeroCellsOf Try.prog 43 = some #[.slice none 0 0]) ∧ (zeroCellsOf Try.prog 60 = some #[.slice none 0 0]) ∧ (zeroCellsOf Try.prog 64 = some (Array.replicate 32 (.int .u8 0))) ∧ (Try.prog.eqGuardType Try.prog.depth 64 = false) ∧ (zeroCellsOf Try.prog 66 = some #[.slice none 0 0]) ∧ (zeroCellsOf Try.prog 68 = some (#[.int .u32 0])) ∧ (zeroCellsOf Try.prog 69 = some (Array.replicate 8 (.int .u32 0))) ∧ (Try.prog.eqGuardType Try.prog.depth 69 = false) ∧ (zeroCellsOf Try.prog 72 = some (Array.replicate 64 (.int .u8 0))) ∧ (Try.prog.eqGuardType Try.prog.depth 72 = false) ∧ (zeroCellsOf Try.prog 76 = some (#[.int .u64 0])) ∧ (zeroCellsOf Try.prog 77 = some (Array.replicate 64 (.int .u32 0))) ∧ (Try.prog.eqGuardType Try.prog.depth 77 = false) ∧ (zeroCellsOf Try.prog 79 = some (#[.int .u64 0])) ∧ (zeroCellsOf Try.prog 84 = some #[.slice none 0 0]) := ⟨ty0, ty1, ty2, ty3, ty4, ty5, ty6, ty7, ty8, ty9, ty10, ty11, ty12, ty13, ty14, ty15, ty16, ty17, ty18, ty19, ty20, ty21, ty22, ty23, ty24, ty25, ty26, ty27, ty28, ty29, ty30, ty31, ty32, ty33, ty34, ty35, ty36, ty37, ty38, ty39, ty40, ty41, ty42, ty43, ty44, ty45, ty46, ty47, ty48, ty49, ty50, ty51, ty52, ty53, ty54, ty55, ty56, ty57, ty58, ty59, ty60, ty61, ty62, ty63, ty64, ty65, ty66, ty67, ty68, ty69, ty70, ty71, ty72, ty73, ty74, ty75⟩
theorem ui_9 : type_of% Try.underlying9 := Try.underlying9
theorem zr0 {ι : Type} : (zrow Try.prog 3 : Option (Row ι)) = some (.ints .i64 (List.replicate 1 0)) := by kernel_rfl
theorem zr1 {ι : Type} : (zrow Try.prog 5 : Option (Row ι)) = some (.ints .u8 (List.replicate 1 0)) := by kernel_rfl
theorem zr2 {ι : Type} : (zrow Try.prog 27 : Option (Row ι)) = some (.ints .u8 (List.replicate 16 0)) := by kernel_rfl
theorem zr3 {ι : Type} : (zrow Try.prog 64 : Option (Row ι)) = some (.ints .u8 (List.replicate 32 0)) := by kernel_rfl
theorem zr4 {ι : Type} : (zrow Try.prog 68 : Option (Row ι)) = some (.ints .u32 (List.replicate 1 0)) := by kernel_rfl
theorem zr5 {ι : Type} : (zrow Try.prog 69 : Option (Row ι)) = some (.ints .u32 (List.replicate 8 0)) := by kernel_rfl
theorem zr6 {ι : Type} : (zrow Try.prog 72 : Option (Row ι)) = some (.ints .u8 (List.replicate 64 0)) := by kernel_rfl
theorem zr7 {ι : Type} : (zrow Try.prog 76 : Option (Row ι)) = some (.ints .u64 (List.replicate 1 0)) := by kernel_rfl
theorem zr8 {ι : Type} : (zrow Try.prog 77 : Option (Row ι)) = some (.ints .u32 (List.replicate 64 0)) := by kernel_rfl
theorem zr9 {ι : Type} : (zrow Try.prog 79 : Option (Row ι)) = some (.ints .u64 (List.replicate 1 0)) := by kernel_rfl
theorem zr {ι : Type} : ((zrow Try.prog 3 : Option (Row ι)) = some (.ints .i64 (List.replicate 1 0))) ∧ ((zrow Try.prog 5 : Option (Row ι)) = some (.ints .u8 (List.replicate 1 0))) ∧ ((zrow Try.prog 27 : Option (Row ι)) = some (.ints .u8 (List.replicate 16 0))) ∧ ((zrow Try.prog 64 : Option (Row ι)) = some (.ints .u8 (List.replicate 32 0))) ∧ ((zrow Try.prog 68 : Option (Row ι)) = some (.ints .u32 (List.replicate 1 0))) ∧ ((zrow Try.prog 69 : Option (Row ι)) = some (.ints .u32 (List.replicate 8 0))) ∧ ((zrow Try.prog 72 : Option (Row ι)) = some (.ints .u8 (List.replicate 64 0))) ∧ ((zrow Try.prog 76 : Option (Row ι)) = some (.ints .u64 (List.replicate 1 0))) ∧ ((zrow Try.prog 77 : Option (Row ι)) = some (.ints .u32 (List.replicate 64 0))) ∧ ((zrow Try.prog 79 : Option (Row ι)) = some (.ints .u64 (List.replicate 1 0))) := ⟨zr0, zr1, zr2, zr3, zr4, zr5, zr6, zr7, zr8, zr9⟩
abbrev fs_30 : Array Field := #[{ name := "top", type := 28, offset := 0, embedded := false, tag := "", pkgPath := "erewhile/merkle", byteOffset := 0 }]
theorem us_30 : Try.prog.underlying 30 = some (.struct fs_30) := Try.underlying30
theorem fa_30_0 {ι : Type} : ∀ (id : ι) (off : Nat) (C : AV ι → Prop), fieldAddrC Try.prog 30 (.ptr id off) 0 C = C (.ptr id (off + 0)) := fun id off C => by
  simp only [fieldAddrC, us_30]; exact propext ⟨fun h => h.2.2, fun h => ⟨by kernel_rfl, by decide +kernel, h⟩⟩
theorem fv_30_0 {ι : Type} : ∀ (l : List (AV ι)) (C : AV ι → Prop), fieldC Try.prog 30 (.agg l) 0 C = (match l[0]? with | some v => C v | none => False) := fun l C => by
  simp only [fieldC, us_30]; exact propext ⟨fun h => h.2.2, fun h => ⟨by kernel_rfl, by kernel_rfl, h⟩⟩
theorem bc_30_0 {ι : Type} : ∀ (v : AV ι) (r : List (Nat × AV ι)) (l : List (AV ι)) (C : List (AV ι) → Prop), buildCells Try.prog fs_30 ((0, v) :: r) l C = (scalar v = true ∧ 0 < l.length ∧ buildCells Try.prog fs_30 r (l.set 0 v) C) := fun v r l C => by
  have hf : fs_30[0]? = some { name := "top", type := 28, offset := 0, embedded := false, tag := "", pkgPath := "erewhile/merkle", byteOffset := 0 } := rfl
  have ha : isAggT Try.prog 28 = false := by kernel_rfl
  simp only [buildCells, hf, ha]; exact propext ⟨fun h => h.2.2, fun h => ⟨by kernel_rfl, by decide +kernel, h⟩⟩
theorem zc_30 : zeroCellsOf Try.prog 30 = some #[.pointer none] := by kernel_rfl
theorem bd_30 {ι : Type} : ∀ (r : List (Nat × AV ι)) (C : AV ι → Prop), buildC Try.prog 30 r C = buildCells Try.prog fs_30 r [.nilptr] (fun l => C (.agg l)) := fun r C => by
  unfold buildC; rw [us_30]; simp only [zc_30]; exact propext ⟨fun h => h.2.2, fun h => ⟨by decide +kernel, by kernel_rfl, h⟩⟩
theorem zs_30 {ι : Type} : (zrow Try.prog 30 : Option (Row ι)) = some (.mixed [.nilptr]) := by kernel_rfl
abbrev fs_50 : Array Field := #[{ name := "sum", type := 27, offset := 0, embedded := false, tag := "", pkgPath := "erewhile/merkle", byteOffset := 0 }, { name := "n", type := 3, offset := 16, embedded := false, tag := "", pkgPath := "erewhile/merkle", byteOffset := 16 }, { name := "left", type := 28, offset := 17, embedded := false, tag := "", pkgPath := "erewhile/merkle", byteOffset := 24 }, { name := "right", type := 28, offset := 18, embedded := false, tag := "", pkgPath := "erewhile/merkle", byteOffset := 32 }]
theorem us_50 : Try.prog.underlying 50 = some (.struct fs_50) := Try.underlying50
theorem fa_50_0 {ι : Type} : ∀ (id : ι) (off : Nat) (C : AV ι → Prop), fieldAddrC Try.prog 50 (.ptr id off) 0 C = C (.ptr id (off + 0)) := fun id off C => by
  simp only [fieldAddrC, us_50]; exact propext ⟨fun h => h.2.2, fun h => ⟨by kernel_rfl, by decide +kernel, h⟩⟩
theorem bw_50_0 {ι : Type} : ∀ (v : List Int) (r : List (Nat × AV ι)) (l : List (AV ι)) (C : List (AV ι) → Prop), buildCells Try.prog fs_50 ((0, .ints .u8 v) :: r) l C = (16 = v.length ∧ 0 + v.length ≤ l.length ∧ buildCells Try.prog fs_50 r (Sy.splice l 0 (flatI .u8 v)) C) := fun v r l C => by
  have hf : fs_50[0]? = some { name := "sum", type := 27, offset := 0, embedded := false, tag := "", pkgPath := "erewhile/merkle", byteOffset := 0 } := rfl
  have ha : isAggT Try.prog 27 = true := by kernel_rfl
  have hc : Try.prog.cellsOf 27 = 16 := by kernel_rfl
  simp only [buildCells, hf, ha, wideL, hc, flatI_len]
theorem fa_50_1 {ι : Type} : ∀ (id : ι) (off : Nat) (C : AV ι → Prop), fieldAddrC Try.prog 50 (.ptr id off) 1 C = C (.ptr id (off + 16)) := fun id off C => by
  simp only [fieldAddrC, us_50]; exact propext ⟨fun h => h.2.2, fun h => ⟨by kernel_rfl, by decide +kernel, h⟩⟩
theorem fv_50_1 {ι : Type} : ∀ (l : List (AV ι)) (C : AV ι → Prop), fieldC Try.prog 50 (.agg l) 1 C = (match l[16]? with | some v => C v | none => False) := fun l C => by
  simp only [fieldC, us_50]; exact propext ⟨fun h => h.2.2, fun h => ⟨by kernel_rfl, by kernel_rfl, h⟩⟩
theorem bc_50_1 {ι : Type} : ∀ (v : AV ι) (r : List (Nat × AV ι)) (l : List (AV ι)) (C : List (AV ι) → Prop), buildCells Try.prog fs_50 ((1, v) :: r) l C = (scalar v = true ∧ 16 < l.length ∧ buildCells Try.prog fs_50 r (l.set 16 v) C) := fun v r l C => by
  have hf : fs_50[1]? = some { name := "n", type := 3, offset := 16, embedded := false, tag := "", pkgPath := "erewhile/merkle", byteOffset := 16 } := rfl
  have ha : isAggT Try.prog 3 = false := by kernel_rfl
  simp only [buildCells, hf, ha]; exact propext ⟨fun h => h.2.2, fun h => ⟨by kernel_rfl, by decide +kernel, h⟩⟩
theorem fa_50_2 {ι : Type} : ∀ (id : ι) (off : Nat) (C : AV ι → Prop), fieldAddrC Try.prog 50 (.ptr id off) 2 C = C (.ptr id (off + 17)) := fun id off C => by
  simp only [fieldAddrC, us_50]; exact propext ⟨fun h => h.2.2, fun h => ⟨by kernel_rfl, by decide +kernel, h⟩⟩
theorem fv_50_2 {ι : Type} : ∀ (l : List (AV ι)) (C : AV ι → Prop), fieldC Try.prog 50 (.agg l) 2 C = (match l[17]? with | some v => C v | none => False) := fun l C => by
  simp only [fieldC, us_50]; exact propext ⟨fun h => h.2.2, fun h => ⟨by kernel_rfl, by kernel_rfl, h⟩⟩
theorem bc_50_2 {ι : Type} : ∀ (v : AV ι) (r : List (Nat × AV ι)) (l : List (AV ι)) (C : List (AV ι) → Prop), buildCells Try.prog fs_50 ((2, v) :: r) l C = (scalar v = true ∧ 17 < l.length ∧ buildCells Try.prog fs_50 r (l.set 17 v) C) := fun v r l C => by
  have hf : fs_50[2]? = some { name := "left", type := 28, offset := 17, embedded := false, tag := "", pkgPath := "erewhile/merkle", byteOffset := 24 } := rfl
  have ha : isAggT Try.prog 28 = false := by kernel_rfl
  simp only [buildCells, hf, ha]; exact propext ⟨fun h => h.2.2, fun h => ⟨by kernel_rfl, by decide +kernel, h⟩⟩
theorem fa_50_3 {ι : Type} : ∀ (id : ι) (off : Nat) (C : AV ι → Prop), fieldAddrC Try.prog 50 (.ptr id off) 3 C = C (.ptr id (off + 18)) := fun id off C => by
  simp only [fieldAddrC, us_50]; exact propext ⟨fun h => h.2.2, fun h => ⟨by kernel_rfl, by decide +kernel, h⟩⟩
theorem fv_50_3 {ι : Type} : ∀ (l : List (AV ι)) (C : AV ι → Prop), fieldC Try.prog 50 (.agg l) 3 C = (match l[18]? with | some v => C v | none => False) := fun l C => by
  simp only [fieldC, us_50]; exact propext ⟨fun h => h.2.2, fun h => ⟨by kernel_rfl, by kernel_rfl, h⟩⟩
theorem bc_50_3 {ι : Type} : ∀ (v : AV ι) (r : List (Nat × AV ι)) (l : List (AV ι)) (C : List (AV ι) → Prop), buildCells Try.prog fs_50 ((3, v) :: r) l C = (scalar v = true ∧ 18 < l.length ∧ buildCells Try.prog fs_50 r (l.set 18 v) C) := fun v r l C => by
  have hf : fs_50[3]? = some { name := "right", type := 28, offset := 18, embedded := false, tag := "", pkgPath := "erewhile/merkle", byteOffset := 32 } := rfl
  have ha : isAggT Try.prog 28 = false := by kernel_rfl
  simp only [buildCells, hf, ha]; exact propext ⟨fun h => h.2.2, fun h => ⟨by kernel_rfl, by decide +kernel, h⟩⟩
theorem zc_50 : zeroCellsOf Try.prog 50 = some #[.int .u8 0, .int .u8 0, .int .u8 0, .int .u8 0, .int .u8 0, .int .u8 0, .int .u8 0, .int .u8 0, .int .u8 0, .int .u8 0, .int .u8 0, .int .u8 0, .int .u8 0, .int .u8 0, .int .u8 0, .int .u8 0, .int .i64 0, .pointer none, .pointer none] := by kernel_rfl
theorem bd_50 {ι : Type} : ∀ (r : List (Nat × AV ι)) (C : AV ι → Prop), buildC Try.prog 50 r C = buildCells Try.prog fs_50 r (flatI .u8 (List.replicate 16 0) ++ (.int .i64 0 :: (.nilptr :: (.nilptr :: [])))) (fun l => C (.agg l)) := fun r C => by
  unfold buildC; rw [us_50]; simp only [zc_50]; exact propext ⟨fun h => h.2.2, fun h => ⟨by decide +kernel, by kernel_rfl, h⟩⟩
theorem zs_50 {ι : Type} : (zrow Try.prog 50 : Option (Row ι)) = some (.mixed (flatI .u8 (List.replicate 16 0) ++ (.int .i64 0 :: (.nilptr :: (.nilptr :: []))))) := by kernel_rfl
theorem ba_27 {ι : Type} : ∀ (r : List (Nat × AV ι)) (C : AV ι → Prop), buildC Try.prog 27 r C = buildInts .u8 r (List.replicate 16 0) (fun l => C (.ints .u8 l)) := fun r C => by
  unfold buildC; rw [Try.underlying27]; simp only [Try.underlying5]; exact propext ⟨fun h => h.2.2, fun h => ⟨by kernel_rfl, by kernel_rfl, h⟩⟩
theorem ba_64 {ι : Type} : ∀ (r : List (Nat × AV ι)) (C : AV ι → Prop), buildC Try.prog 64 r C = buildInts .u8 r (List.replicate 32 0) (fun l => C (.ints .u8 l)) := fun r C => by
  unfold buildC; rw [Try.underlying64]; simp only [Try.underlying5]; exact propext ⟨fun h => h.2.2, fun h => ⟨by kernel_rfl, by kernel_rfl, h⟩⟩
theorem ba_69 {ι : Type} : ∀ (r : List (Nat × AV ι)) (C : AV ι → Prop), buildC Try.prog 69 r C = buildInts .u32 r (List.replicate 8 0) (fun l => C (.ints .u32 l)) := fun r C => by
  unfold buildC; rw [Try.underlying69]; simp only [Try.underlying68]; exact propext ⟨fun h => h.2.2, fun h => ⟨by kernel_rfl, by kernel_rfl, h⟩⟩
theorem ba_72 {ι : Type} : ∀ (r : List (Nat × AV ι)) (C : AV ι → Prop), buildC Try.prog 72 r C = buildInts .u8 r (List.replicate 64 0) (fun l => C (.ints .u8 l)) := fun r C => by
  unfold buildC; rw [Try.underlying72]; simp only [Try.underlying5]; exact propext ⟨fun h => h.2.2, fun h => ⟨by kernel_rfl, by kernel_rfl, h⟩⟩
theorem ba_77 {ι : Type} : ∀ (r : List (Nat × AV ι)) (C : AV ι → Prop), buildC Try.prog 77 r C = buildInts .u32 r (List.replicate 64 0) (fun l => C (.ints .u32 l)) := fun r C => by
  unfold buildC; rw [Try.underlying77]; simp only [Try.underlying68]; exact propext ⟨fun h => h.2.2, fun h => ⟨by kernel_rfl, by kernel_rfl, h⟩⟩
theorem sui : (type_of% ui_9) := ui_9
theorem sty {ι : Type} : (type_of% (@fa_30_0 ι)) ∧ (type_of% (@fv_30_0 ι)) ∧ (type_of% (@bc_30_0 ι)) ∧ (type_of% (@bd_30 ι)) ∧ (type_of% (@zs_30 ι)) ∧ (type_of% (@fa_50_0 ι)) ∧ (type_of% (@bw_50_0 ι)) ∧ (type_of% (@fa_50_1 ι)) ∧ (type_of% (@fv_50_1 ι)) ∧ (type_of% (@bc_50_1 ι)) ∧ (type_of% (@fa_50_2 ι)) ∧ (type_of% (@fv_50_2 ι)) ∧ (type_of% (@bc_50_2 ι)) ∧ (type_of% (@fa_50_3 ι)) ∧ (type_of% (@fv_50_3 ι)) ∧ (type_of% (@bc_50_3 ι)) ∧ (type_of% (@bd_50 ι)) ∧ (type_of% (@zs_50 ι)) ∧ (type_of% (@ba_27 ι)) ∧ (type_of% (@ba_64 ι)) ∧ (type_of% (@ba_69 ι)) ∧ (type_of% (@ba_72 ι)) ∧ (type_of% (@ba_77 ι)) := ⟨@fa_30_0 ι, @fv_30_0 ι, @bc_30_0 ι, @bd_30 ι, @zs_30 ι, @fa_50_0 ι, @bw_50_0 ι, @fa_50_1 ι, @fv_50_1 ι, @bc_50_1 ι, @fa_50_2 ι, @fv_50_2 ι, @bc_50_2 ι, @fa_50_3 ι, @fv_50_3 ι, @bc_50_3 ι, @bd_50 ι, @zs_50 ι, @ba_27 ι, @ba_64 ι, @ba_69 ι, @ba_72 ι, @ba_77 ι⟩
theorem mix : Try.prog.follows .mixedOrders = true := by kernel_rfl

/-! erewhile/erewhilelaw47.MerkleRoots -/
abbrev n_law47_MerkleRoots : Nat := 3
theorem func_law47_MerkleRoots : Try.prog.funcs[n_law47_MerkleRoots]? = some Try.f3 := Try.func3
theorem call_law47_MerkleRoots : ∀ args w, (callFunc n_law47_MerkleRoots args).run Try.prog w = .ok (.enter n_law47_MerkleRoots args) w := Try.call3
theorem nt_law47_MerkleRoots : Try.f3.ntmps = 60 := Try.ntmps3
theorem rs_law47_MerkleRoots : Try.f3.results.toList = [.tmp 2] := by rw [Try.results3]
def s_law47_MerkleRoots_0 : List AStep := [.pure (some 2) false (.assign (.const (.bool false)))]
abbrev p_law47_MerkleRoots_0 : List Nat := [0]
def s_law47_MerkleRoots_1 : List AStep := [.call (some 8) false ⟨.value (.func 8), #[], #[]⟩, .pure (some 9) false (.unOp .not 4 (.tmp 8))]
abbrev p_law47_MerkleRoots_1 : List Nat := [0, 1]
def s_law47_MerkleRoots_2 : List AStep := [.pure (some 2) false (.assign (.const (.bool false)))]
abbrev p_law47_MerkleRoots_2 : List Nat := [0]
def s_law47_MerkleRoots_3 : List AStep := [.pure (some 10) false (.move (.tmp 0)), .pure (some 11) false (.call (.mk (.builtin .len) #[.tmp 10] #[22])), .pure (some 12) false (.binOp .gtr 3 (.tmp 11) (.const (.int .i64 40)) 3)]
abbrev p_law47_MerkleRoots_3 : List Nat := [0, 1, 2]
def s_law47_MerkleRoots_4 : List AStep := [.pure (some 2) false (.assign (.const (.bool true)))]
abbrev p_law47_MerkleRoots_4 : List Nat := [0]
def s_law47_MerkleRoots_5 : List AStep := [.eff (some 13) (.buildSlice 22 0 #[]), .pure (some 14) false (.move (.tmp 0)), .eff (some 15) (.call (.mk (.builtin .append) #[.tmp 13, .tmp 14] #[22, 22])), .pure (some 3) false (.assign (.tmp 15))]
abbrev p_law47_MerkleRoots_5 : List Nat := [0, 1, 2, 3]
def s_law47_MerkleRoots_6 : List AStep := [.pure (some 16) false (.move (.tmp 3)), .call (some 17) false ⟨.value (.func 9), #[.tmp 16], #[22]⟩, .pure (some 4) false (.assign (.tmp 17))]
abbrev p_law47_MerkleRoots_6 : List Nat := [0, 1, 2]
def s_law47_MerkleRoots_7 : List AStep := [.pure (some 18) false (.move (.tmp 3)), .pure (some 19) false (.call (.mk (.builtin .len) #[.tmp 18] #[22])), .pure (some 20) false (.move (.const (.int .i64 0)))]
abbrev p_law47_MerkleRoots_7 : List Nat := [0, 1, 2]
def s_law47_MerkleRoots_8 : List AStep := [.pure (some 21) false (.binOp .lss 3 (.tmp 20) (.tmp 19) 3)]
abbrev p_law47_MerkleRoots_8 : List Nat := [0]
def s_law47_MerkleRoots_9 : List AStep := [.pure (some 22) false (.move (.tmp 20)), .pure (some 5) false (.assign (.tmp 22))]
abbrev p_law47_MerkleRoots_9 : List Nat := [0, 1]
def s_law47_MerkleRoots_10 : List AStep := [.pure (some 23) false (.move (.tmp 3)), .pure (some 24) false (.move (.tmp 5)), .pure (some 25) false (.build 27 #[(0, .const (.int .u8 9))]), .pure (some 26) false (.indexAddr 22 (.tmp 23) (.tmp 24)), .eff none (.store 27 (.tmp 26) (.tmp 25))]
abbrev p_law47_MerkleRoots_10 : List Nat := [0, 1, 2, 3, 4]
def s_law47_MerkleRoots_11 : List AStep := [.pure (some 27) false (.binOp .add 3 (.tmp 20) (.const (.int .i64 1)) 3), .pure (some 20) false (.move (.tmp 27))]
abbrev p_law47_MerkleRoots_11 : List Nat := [0, 1]
def s_law47_MerkleRoots_12 : List AStep := [.pure (some 6) false (.assign (.const (.pointer none)))]
abbrev p_law47_MerkleRoots_12 : List Nat := [0]
def s_law47_MerkleRoots_13 : List AStep := [.eff (some 7) (.alloc 30)]
abbrev p_law47_MerkleRoots_13 : List Nat := [0]
def s_law47_MerkleRoots_14 : List AStep := [.pure (some 28) false (.move (.tmp 4)), .call (some 29) false ⟨.value (.func 10), #[.tmp 28], #[24]⟩, .pure (some 30) false (.move (.tmp 0)), .call (some 31) false ⟨.value (.func 11), #[.tmp 30], #[22]⟩, .pure (some 32) false (.binOp .eql 27 (.tmp 29) (.tmp 31) 27), .pure (some 33) true (.move (.tmp 32)), .guard 33 true (.pure (some 34) false (.move (.tmp 4))), .guard 33 true (.call (some 35) false ⟨.value (.func 12), #[.tmp 34], #[24]⟩), .guard 33 true (.pure (some 36) false (.move (.tmp 0))), .guard 33 true (.pure (some 37) false (.call (.mk (.builtin .len) #[.tmp 36] #[22]))), .guard 33 true (.pure (some 38) false (.binOp .eql 3 (.tmp 35) (.tmp 37) 3)), .pure (some 39) false (.pick (.tmp 33) (.tmp 38) (.const (.bool false))), .pure (some 40) true (.move (.tmp 39)), .guard 40 true (.pure (some 41) false (.move (.tmp 6))), .guard 40 true (.call (some 42) false ⟨.value (.func 10), #[.tmp 41], #[24]⟩), .guard 40 true (.pure (some 43) false (.build 27 #[])), .guard 40 true (.pure (some 44) false (.binOp .eql 27 (.tmp 42) (.tmp 43) 27)), .pure (some 45) false (.pick (.tmp 40) (.tmp 44) (.const (.bool false))), .pure (some 46) true (.move (.tmp 45)), .guard 46 true (.pure (some 47) false (.move (.tmp 6))), .guard 46 true (.call (some 48) false ⟨.value (.func 12), #[.tmp 47], #[24]⟩), .guard 46 true (.pure (some 49) false (.binOp .eql 3 (.tmp 48) (.const (.int .i64 0)) 3)), .pure (some 50) false (.pick (.tmp 46) (.tmp 49) (.const (.bool false))), .pure (some 51) true (.move (.tmp 50)), .guard 51 true (.call (some 52) false ⟨.value (.func 10), #[.tmp 7], #[30]⟩), .guard 51 true (.pure (some 53) false (.build 27 #[])), .guard 51 true (.pure (some 54) false (.binOp .eql 27 (.tmp 52) (.tmp 53) 27)), .pure (some 55) false (.pick (.tmp 51) (.tmp 54) (.const (.bool false))), .pure (some 56) true (.move (.tmp 55)), .guard 56 true (.call (some 57) false ⟨.value (.func 12), #[.tmp 7], #[30]⟩), .guard 56 true (.pure (some 58) false (.binOp .eql 3 (.tmp 57) (.const (.int .i64 0)) 3)), .pure (some 59) false (.pick (.tmp 56) (.tmp 58) (.const (.bool false))), .pure (some 2) false (.assign (.tmp 59))]
abbrev p_law47_MerkleRoots_14 : List Nat := [0, 1, 2, 3, 4, 5, 6, 7, 8, 9, 10, 11, 12, 13, 14, 15, 16, 17, 18, 19, 20, 21, 22, 23, 24, 25, 26, 27, 28, 29, 30, 31, 32]

/-! erewhile/erewhilelaw47.MerkleProofs -/
abbrev n_law47_MerkleProofs : Nat := 4
theorem func_law47_MerkleProofs : Try.prog.funcs[n_law47_MerkleProofs]? = some Try.f4 := Try.func4
theorem call_law47_MerkleProofs : ∀ args w, (callFunc n_law47_MerkleProofs args).run Try.prog w = .ok (.enter n_law47_MerkleProofs args) w := Try.call4
theorem nt_law47_MerkleProofs : Try.f4.ntmps = 57 := Try.ntmps4
theorem rs_law47_MerkleProofs : Try.f4.results.toList = [.tmp 4] := by rw [Try.results4]
def s_law47_MerkleProofs_0 : List AStep := [.pure (some 4) false (.assign (.const (.bool false)))]
abbrev p_law47_MerkleProofs_0 : List Nat := [0]
def s_law47_MerkleProofs_1 : List AStep := [.call (some 8) false ⟨.value (.func 8), #[], #[]⟩, .pure (some 9) false (.unOp .not 4 (.tmp 8))]
abbrev p_law47_MerkleProofs_1 : List Nat := [0, 1]
def s_law47_MerkleProofs_2 : List AStep := [.pure (some 4) false (.assign (.const (.bool false)))]
abbrev p_law47_MerkleProofs_2 : List Nat := [0]
def s_law47_MerkleProofs_3 : List AStep := [.pure (some 10) false (.move (.tmp 0)), .pure (some 11) false (.call (.mk (.builtin .len) #[.tmp 10] #[22])), .pure (some 12) false (.binOp .gtr 3 (.tmp 11) (.const (.int .i64 40)) 3)]
abbrev p_law47_MerkleProofs_3 : List Nat := [0, 1, 2]
def s_law47_MerkleProofs_4 : List AStep := [.pure (some 4) false (.assign (.const (.bool true)))]
abbrev p_law47_MerkleProofs_4 : List Nat := [0]
def s_law47_MerkleProofs_5 : List AStep := [.pure (some 13) false (.move (.tmp 0)), .call (some 14) false ⟨.value (.func 9), #[.tmp 13], #[22]⟩, .pure (some 5) false (.assign (.tmp 14))]
abbrev p_law47_MerkleProofs_5 : List Nat := [0, 1, 2]
def s_law47_MerkleProofs_6 : List AStep := [.pure (some 16) false (.move (.tmp 5)), .pure (some 17) false (.move (.tmp 1)), .call (some 18) false ⟨.value (.func 13), #[.tmp 16, .tmp 17], #[24, 3]⟩, .pure (some 15) false (.move (.tmp 18)), .pure (some 19) false (.extract (.tmp 15) 0), .pure (some 20) false (.extract (.tmp 15) 1), .pure (some 6) false (.assign (.tmp 19)), .pure (some 7) false (.assign (.tmp 20))]
abbrev p_law47_MerkleProofs_6 : List Nat := [0, 1, 2, 3, 4, 5, 6, 7]
def s_law47_MerkleProofs_7 : List AStep := [.pure (some 21) false (.move (.tmp 1)), .pure (some 22) false (.binOp .lss 3 (.tmp 21) (.const (.int .i64 0)) 3), .pure (some 23) true (.move (.tmp 22)), .guard 23 false (.pure (some 24) false (.move (.tmp 1))), .guard 23 false (.pure (some 25) false (.move (.tmp 0))), .guard 23 false (.pure (some 26) false (.call (.mk (.builtin .len) #[.tmp 25] #[22]))), .guard 23 false (.pure (some 27) false (.binOp .geq 3 (.tmp 24) (.tmp 26) 3)), .pure (some 28) false (.pick (.tmp 23) (.const (.bool true)) (.tmp 27))]
abbrev p_law47_MerkleProofs_7 : List Nat := [0, 1, 2, 3, 4, 5, 6, 7]
def s_law47_MerkleProofs_8 : List AStep := [.pure (some 29) false (.move (.tmp 7)), .pure (some 30) false (.unOp .not 4 (.tmp 29)), .pure (some 31) true (.move (.tmp 30)), .guard 31 true (.pure (some 32) false (.move (.tmp 6))), .guard 31 true (.pure (some 33) false (.call (.mk (.builtin .len) #[.tmp 32] #[22]))), .guard 31 true (.pure (some 34) false (.binOp .eql 3 (.tmp 33) (.const (.int .i64 0)) 3)), .pure (some 35) false (.pick (.tmp 31) (.tmp 34) (.const (.bool false))), .pure (some 4) false (.assign (.tmp 35))]
abbrev p_law47_MerkleProofs_8 : List Nat := [0, 1, 2, 3, 4, 5, 6, 7]
def s_law47_MerkleProofs_9 : SP := (.one (.pure (some 36) false (.move (.tmp 7))) (.one (.pure (some 37) true (.move (.tmp 36))) (.one (.guard 37 true (.pure (some 38) false (.move (.tmp 6)))) (.one (.guard 37 true (.pure (some 39) false (.move (.tmp 0)))) (.one (.guard 37 true (.pure (some 40) false (.move (.tmp 1)))) (.one (.guard 37 true (.call (some 41) false ⟨.value (.func 15), #[.tmp 39, .tmp 40], #[22, 3]⟩)) (.one (.guard 37 true (.call (some 42) false ⟨.value (.func 14), #[.tmp 38, .tmp 41], #[22, 22]⟩)) (.one (.pure (some 43) false (.pick (.tmp 37) (.tmp 42) (.const (.bool false)))) (.one (.pure (some 44) true (.move (.tmp 43))) (.one (.guard 44 true (.pure (some 45) false (.move (.tmp 5)))) (.one (.guard 44 true (.pure (some 47) false (.move (.tmp 0)))) (.one (.guard 44 true (.pure (some 48) false (.call (.mk (.builtin .len) #[.tmp 47] #[22])))) (.one (.guard 44 true (.pure (some 49) false (.move (.tmp 1)))) (.one (.guard 44 true (.pure (some 50) false (.move (.tmp 0)))) (.one (.guard 44 true (.pure (some 51) false (.move (.tmp 1)))) (.one (.guard 44 true (.pure (some 52) false (.indexAddr 22 (.tmp 50) (.tmp 51)))) (.one (.guard 44 true (.pure (some 54) false (.move (.tmp 6)))) (.one (.guard 44 true (.read (some 53) false (.load 27 (.tmp 52)))) (.one (.guard 44 true (.call (some 46) false ⟨.value (.func 10), #[.tmp 45], #[24]⟩)) (.one (.guard 44 true (.call (some 55) false ⟨.value (.func 16), #[.tmp 46, .tmp 48, .tmp 49, .tmp 53, .tmp 54], #[27, 3, 3, 27, 22]⟩)) (.one (.pure (some 56) false (.pick (.tmp 44) (.tmp 55) (.const (.bool false)))) (.one (.pure (some 4) false (.assign (.tmp 56))) .done))))))))))))))))))))))
abbrev p_law47_MerkleProofs_9 : PC := (.calm 0 4194302 (.calm 1 4194300 (.calm 2 4194240 (.calm 3 4194272 (.calm 4 4194272 (.act 5 (.act 6 (.calm 7 4194048 (.calm 8 4193792 (.calm 9 3671040 (.calm 11 3674112 (.calm 12 3670016 (.calm 13 3670016 (.calm 14 3866624 (.calm 15 3866624 (.calm 16 3801088 (.calm 18 3670016 (.calm 17 3670016 (.act 10 (.act 19 (.calm 20 2097152 (.calm 21 0 .done))))))))))))))))))))))
abbrev g_law47_MerkleProofs_9 : List Dg := [⟨0, 128, 68719476736, .pure, true⟩, ⟨1, 68719476736, 137438953472, .pure, true⟩, ⟨2, 137438953536, 274877906944, .pure, true⟩, ⟨2, 137438953473, 549755813888, .pure, true⟩, ⟨2, 137438953474, 1099511627776, .pure, true⟩, ⟨26, 1786706395136, 2199023255552, .call, true⟩, ⟨38, 2611340115968, 4398046511104, .call, true⟩, ⟨66, 4535485464576, 8796093022208, .pure, true⟩, ⟨192, 8796093022208, 17592186044416, .pure, true⟩, ⟨256, 17592186044448, 35184372088832, .pure, true⟩, ⟨768, 52776558133248, 70368744177664, .call, true⟩, ⟨256, 17592186044417, 140737488355328, .pure, true⟩, ⟨2304, 158329674399744, 281474976710656, .pure, true⟩, ⟨256, 17592186044418, 562949953421312, .pure, true⟩, ⟨256, 17592186044417, 1125899906842624, .pure, true⟩, ⟨256, 17592186044418, 2251799813685248, .pure, true⟩, ⟨49408, 3395291906572288, 4503599627370496, .pure, true⟩, ⟨65792, 4521191813414912, 9007199254740992, .read, true⟩, ⟨256, 17592186044480, 18014398509481984, .pure, true⟩, ⟨406784, 27953983624577024, 36028797018963968, .call, true⟩, ⟨524544, 36046389205008384, 72057594037927936, .pure, true⟩, ⟨2097151, 72057594037927936, 16, .pure, true⟩]
abbrev q_law47_MerkleProofs_9 : List Nat := []

/-! erewhile/erewhilelaw47.MerkleChecks -/
abbrev n_law47_MerkleChecks : Nat := 5
theorem func_law47_MerkleChecks : Try.prog.funcs[n_law47_MerkleChecks]? = some Try.f5 := Try.func5
theorem call_law47_MerkleChecks : ∀ args w, (callFunc n_law47_MerkleChecks args).run Try.prog w = .ok (.enter n_law47_MerkleChecks args) w := Try.call5
theorem nt_law47_MerkleChecks : Try.f5.ntmps = 33 := Try.ntmps5
theorem rs_law47_MerkleChecks : Try.f5.results.toList = [.tmp 10] := by rw [Try.results5]
def s_law47_MerkleChecks_0 : List AStep := [.eff (some 5) (.box 27 (.tmp 0)), .eff (some 8) (.box 27 (.tmp 3)), .pure (some 10) false (.assign (.const (.bool false)))]
abbrev p_law47_MerkleChecks_0 : List Nat := [0, 1, 2]
def s_law47_MerkleChecks_1 : List AStep := [.call (some 11) false ⟨.value (.func 8), #[], #[]⟩, .pure (some 12) false (.unOp .not 4 (.tmp 11))]
abbrev p_law47_MerkleChecks_1 : List Nat := [0, 1]
def s_law47_MerkleChecks_2 : List AStep := [.pure (some 10) false (.assign (.const (.bool false)))]
abbrev p_law47_MerkleChecks_2 : List Nat := [0]
def s_law47_MerkleChecks_3 : List AStep := [.pure (some 13) false (.move (.tmp 1)), .pure (some 14) false (.binOp .gtr 3 (.tmp 13) (.const (.int .i64 1048576)) 3), .pure (some 15) true (.move (.tmp 14)), .guard 15 false (.pure (some 16) false (.move (.tmp 4))), .guard 15 false (.pure (some 17) false (.call (.mk (.builtin .len) #[.tmp 16] #[22]))), .guard 15 false (.pure (some 18) false (.binOp .gtr 3 (.tmp 17) (.const (.int .i64 30)) 3)), .pure (some 19) false (.pick (.tmp 15) (.const (.bool true)) (.tmp 18))]
abbrev p_law47_MerkleChecks_3 : List Nat := [0, 1, 2, 3, 4, 5, 6]
def s_law47_MerkleChecks_4 : List AStep := [.pure (some 10) false (.assign (.const (.bool true)))]
abbrev p_law47_MerkleChecks_4 : List Nat := [0]
def s_law47_MerkleChecks_5 : SP := (.one (.pure (some 21) false (.move (.tmp 1))) (.one (.pure (some 22) false (.move (.tmp 2))) (.one (.pure (some 24) false (.move (.tmp 4))) (.one (.pure (some 27) false (.move (.tmp 1))) (.one (.pure (some 28) false (.move (.tmp 2))) (.one (.pure (some 30) false (.move (.tmp 4))) (.one (.read (some 20) false (.load 27 (.tmp 5))) (.one (.read (some 23) false (.load 27 (.tmp 8))) (.one (.read (some 26) false (.load 27 (.tmp 5))) (.one (.read (some 29) false (.load 27 (.tmp 8))) (.one (.call (some 25) false ⟨.value (.func 16), #[.tmp 20, .tmp 21, .tmp 22, .tmp 23, .tmp 24], #[27, 3, 3, 27, 22]⟩) (.one (.call (some 31) false ⟨.value (.func 17), #[.tmp 26, .tmp 27, .tmp 28, .tmp 29, .tmp 30], #[27, 3, 3, 27, 22]⟩) (.one (.pure (some 32) false (.binOp .eql 4 (.tmp 25) (.tmp 31) 4)) (.one (.pure (some 10) false (.assign (.tmp 32))) .done))))))))))))))
abbrev p_law47_MerkleChecks_5 : PC := (.calm 1 14368 (.calm 2 14368 (.calm 4 14368 (.calm 7 14336 (.calm 8 14336 (.calm 10 14336 (.calm 0 14368 (.calm 3 14368 (.calm 6 14336 (.calm 9 14336 (.act 5 (.act 11 (.calm 12 8192 (.calm 13 0 .done))))))))))))))
abbrev g_law47_MerkleChecks_5 : List Dg := [⟨0, 32, 1048576, .read, true⟩, ⟨0, 2, 2097152, .pure, true⟩, ⟨0, 4, 4194304, .pure, true⟩, ⟨0, 256, 8388608, .read, true⟩, ⟨0, 16, 16777216, .pure, true⟩, ⟨31, 32505856, 33554432, .call, true⟩, ⟨0, 32, 67108864, .read, true⟩, ⟨0, 2, 134217728, .pure, true⟩, ⟨0, 4, 268435456, .pure, true⟩, ⟨0, 256, 536870912, .read, true⟩, ⟨0, 16, 1073741824, .pure, true⟩, ⟨2016, 2080374784, 2147483648, .call, true⟩, ⟨2080, 2181038080, 4294967296, .pure, true⟩, ⟨8191, 4294967296, 1024, .pure, true⟩]
abbrev q_law47_MerkleChecks_5 : List Nat := []

/-! erewhile/erewhilelaw47.MerkleMore -/
abbrev n_law47_MerkleMore : Nat := 6
theorem func_law47_MerkleMore : Try.prog.funcs[n_law47_MerkleMore]? = some Try.f6 := Try.func6
theorem call_law47_MerkleMore : ∀ args w, (callFunc n_law47_MerkleMore args).run Try.prog w = .ok (.enter n_law47_MerkleMore args) w := Try.call6
theorem nt_law47_MerkleMore : Try.f6.ntmps = 80 := Try.ntmps6
theorem rs_law47_MerkleMore : Try.f6.results.toList = [.tmp 4] := by rw [Try.results6]
def s_law47_MerkleMore_0 : List AStep := [.pure (some 4) false (.assign (.const (.bool false)))]
abbrev p_law47_MerkleMore_0 : List Nat := [0]
def s_law47_MerkleMore_1 : List AStep := [.call (some 12) false ⟨.value (.func 8), #[], #[]⟩, .pure (some 13) false (.unOp .not 4 (.tmp 12))]
abbrev p_law47_MerkleMore_1 : List Nat := [0, 1]
def s_law47_MerkleMore_2 : List AStep := [.pure (some 4) false (.assign (.const (.bool false)))]
abbrev p_law47_MerkleMore_2 : List Nat := [0]
def s_law47_MerkleMore_3 : List AStep := [.pure (some 14) false (.move (.tmp 0)), .pure (some 15) false (.call (.mk (.builtin .len) #[.tmp 14] #[22])), .pure (some 16) false (.binOp .gtr 3 (.tmp 15) (.const (.int .i64 40)) 3), .pure (some 17) true (.move (.tmp 16)), .guard 17 false (.pure (some 18) false (.move (.tmp 1))), .guard 17 false (.pure (some 19) false (.call (.mk (.builtin .len) #[.tmp 18] #[22]))), .guard 17 false (.pure (some 20) false (.binOp .eql 3 (.tmp 19) (.const (.int .i64 0)) 3)), .pure (some 21) false (.pick (.tmp 17) (.const (.bool true)) (.tmp 20)), .pure (some 22) true (.move (.tmp 21)), .guard 22 false (.pure (some 23) false (.move (.tmp 1))), .guard 22 false (.pure (some 24) false (.call (.mk (.builtin .len) #[.tmp 23] #[22]))), .guard 22 false (.pure (some 25) false (.binOp .gtr 3 (.tmp 24) (.const (.int .i64 40)) 3)), .pure (some 26) false (.pick (.tmp 22) (.const (.bool true)) (.tmp 25))]
abbrev p_law47_MerkleMore_3 : List Nat := [0, 1, 2, 3, 4, 5, 6, 7, 8, 9, 10, 11, 12]
def s_law47_MerkleMore_4 : List AStep := [.pure (some 4) false (.assign (.const (.bool true)))]
abbrev p_law47_MerkleMore_4 : List Nat := [0]
def s_law47_MerkleMore_5 : List AStep := [.pure (some 27) false (.move (.tmp 0)), .call (some 28) false ⟨.value (.func 9), #[.tmp 27], #[22]⟩, .eff (some 29) (.buildSlice 22 0 #[]), .pure (some 30) false (.move (.tmp 0)), .eff (some 31) (.call (.mk (.builtin .append) #[.tmp 29, .tmp 30] #[22, 22])), .pure (some 32) false (.move (.tmp 1)), .eff (some 33) (.call (.mk (.builtin .append) #[.tmp 31, .tmp 32] #[22, 22])), .call (some 34) false ⟨.value (.func 9), #[.tmp 33], #[22]⟩, .pure (some 5) false (.assign (.tmp 28)), .pure (some 6) false (.assign (.tmp 34))]
abbrev p_law47_MerkleMore_5 : List Nat := [0, 1, 2, 3, 4, 5, 6, 7, 8, 9]
def s_law47_MerkleMore_6 : List AStep := [.pure (some 35) false (.move (.tmp 5)), .pure (some 36) false (.move (.tmp 6)), .pure (some 37) false (.build 41 #[(0, .tmp 35), (1, .tmp 36)]), .pure (some 38) false (.move (.tmp 6)), .pure (some 39) false (.move (.tmp 5)), .pure (some 40) false (.build 41 #[(0, .tmp 38), (1, .tmp 39)]), .eff (some 41) (.buildSlice 42 2 #[(0, .tmp 37), (1, .tmp 40)]), .pure (some 42) false (.call (.mk (.builtin .len) #[.tmp 41] #[42])), .pure (some 43) false (.move (.const (.int .i64 0)))]
abbrev p_law47_MerkleMore_6 : List Nat := [0, 1, 2, 3, 4, 5, 6, 7, 8]
def s_law47_MerkleMore_7 : List AStep := [.pure (some 44) false (.binOp .lss 3 (.tmp 43) (.tmp 42) 3)]
abbrev p_law47_MerkleMore_7 : List Nat := [0]
def s_law47_MerkleMore_8 : List AStep := [.pure (some 45) false (.indexAddr 42 (.tmp 41) (.tmp 43)), .read (some 46) false (.load 41 (.tmp 45)), .eff (some 8) (.alloc 41), .eff none (.store 41 (.tmp 8) (.tmp 46))]
abbrev p_law47_MerkleMore_8 : List Nat := [0, 1, 2, 3]
def s_law47_MerkleMore_9 : List AStep := [.pure (some 48) false (.indexAddr 41 (.tmp 8) (.const (.int .i64 0))), .read (some 49) false (.load 24 (.tmp 48)), .pure (some 50) false (.indexAddr 41 (.tmp 8) (.const (.int .i64 1))), .read (some 51) false (.load 24 (.tmp 50)), .call (some 52) false ⟨.value (.func 18), #[.tmp 49, .tmp 51], #[24, 24]⟩, .pure (some 47) false (.move (.tmp 52)), .pure (some 53) false (.extract (.tmp 47) 0), .pure (some 54) false (.extract (.tmp 47) 1), .pure (some 9) false (.assign (.tmp 53)), .pure (some 10) false (.assign (.tmp 54))]
abbrev p_law47_MerkleMore_9 : List Nat := [0, 1, 2, 3, 4, 5, 6, 7, 8, 9]
def s_law47_MerkleMore_10 : List AStep := [.pure (some 55) false (.move (.tmp 9)), .pure (some 56) false (.call (.mk (.builtin .len) #[.tmp 55] #[43])), .pure (some 57) false (.move (.tmp 1)), .pure (some 58) false (.call (.mk (.builtin .len) #[.tmp 57] #[22])), .pure (some 59) false (.binOp .neq 3 (.tmp 56) (.tmp 58) 3), .pure (some 60) true (.move (.tmp 59)), .guard 60 false (.pure (some 61) false (.move (.tmp 10))), .guard 60 false (.pure (some 62) false (.binOp .neq 3 (.tmp 61) (.const (.int .i64 0)) 3)), .pure (some 63) false (.pick (.tmp 60) (.const (.bool true)) (.tmp 62))]
abbrev p_law47_MerkleMore_10 : List Nat := [0, 1, 2, 3, 4, 5, 6, 7, 8]
def s_law47_MerkleMore_11 : List AStep := [.pure (some 4) false (.assign (.const (.bool false)))]
abbrev p_law47_MerkleMore_11 : List Nat := [0]
def s_law47_MerkleMore_12 : List AStep := [.pure (some 64) false (.move (.tmp 9)), .pure (some 65) false (.call (.mk (.builtin .len) #[.tmp 64] #[43])), .pure (some 66) false (.move (.const (.int .i64 0)))]
abbrev p_law47_MerkleMore_12 : List Nat := [0, 1, 2]
def s_law47_MerkleMore_13 : List AStep := [.pure (some 67) false (.binOp .lss 3 (.tmp 66) (.tmp 65) 3)]
abbrev p_law47_MerkleMore_13 : List Nat := [0]
def s_law47_MerkleMore_14 : List AStep := [.pure (some 68) false (.move (.tmp 66)), .pure (some 11) false (.assign (.tmp 68))]
abbrev p_law47_MerkleMore_14 : List Nat := [0, 1]
def s_law47_MerkleMore_15 : List AStep := [.pure (some 69) false (.move (.tmp 9)), .pure (some 70) false (.move (.tmp 11)), .pure (some 71) false (.indexAddr 43 (.tmp 69) (.tmp 70)), .read (some 72) false (.load 3 (.tmp 71)), .pure (some 73) false (.move (.tmp 0)), .pure (some 74) false (.call (.mk (.builtin .len) #[.tmp 73] #[22])), .pure (some 75) false (.move (.tmp 11)), .pure (some 76) false (.binOp .add 3 (.tmp 74) (.tmp 75) 3), .pure (some 77) false (.binOp .neq 3 (.tmp 72) (.tmp 76) 3)]
abbrev p_law47_MerkleMore_15 : List Nat := [0, 1, 2, 3, 4, 5, 6, 7, 8]
def s_law47_MerkleMore_16 : List AStep := [.pure (some 4) false (.assign (.const (.bool false)))]
abbrev p_law47_MerkleMore_16 : List Nat := [0]
def s_law47_MerkleMore_17 : List AStep := [.pure (some 78) false (.binOp .add 3 (.tmp 66) (.const (.int .i64 1)) 3), .pure (some 66) false (.move (.tmp 78))]
abbrev p_law47_MerkleMore_17 : List Nat := [0, 1]
def s_law47_MerkleMore_18 : List AStep := [.pure (some 79) false (.binOp .add 3 (.tmp 43) (.const (.int .i64 1)) 3), .pure (some 43) false (.move (.tmp 79))]
abbrev p_law47_MerkleMore_18 : List Nat := [0, 1]
def s_law47_MerkleMore_19 : List AStep := [.pure (some 4) false (.assign (.const (.bool true)))]
abbrev p_law47_MerkleMore_19 : List Nat := [0]

/-! erewhile/erewhilelaw47.MerkleNear -/
abbrev n_law47_MerkleNear : Nat := 7
theorem func_law47_MerkleNear : Try.prog.funcs[n_law47_MerkleNear]? = some Try.f7 := Try.func7
theorem call_law47_MerkleNear : ∀ args w, (callFunc n_law47_MerkleNear args).run Try.prog w = .ok (.enter n_law47_MerkleNear args) w := Try.call7
theorem nt_law47_MerkleNear : Try.f7.ntmps = 117 := Try.ntmps7
theorem rs_law47_MerkleNear : Try.f7.results.toList = [.tmp 6] := by rw [Try.results7]
def s_law47_MerkleNear_0 : List AStep := [.eff (some 5) (.box 27 (.tmp 2)), .pure (some 6) false (.assign (.const (.bool false)))]
abbrev p_law47_MerkleNear_0 : List Nat := [0, 1]
def s_law47_MerkleNear_1 : List AStep := [.call (some 18) false ⟨.value (.func 8), #[], #[]⟩, .pure (some 19) false (.unOp .not 4 (.tmp 18))]
abbrev p_law47_MerkleNear_1 : List Nat := [0, 1]
def s_law47_MerkleNear_2 : List AStep := [.pure (some 6) false (.assign (.const (.bool false)))]
abbrev p_law47_MerkleNear_2 : List Nat := [0]
def s_law47_MerkleNear_3 : List AStep := [.pure (some 20) false (.move (.tmp 0)), .pure (some 21) false (.call (.mk (.builtin .len) #[.tmp 20] #[22])), .pure (some 22) false (.binOp .eql 3 (.tmp 21) (.const (.int .i64 0)) 3), .pure (some 23) true (.move (.tmp 22)), .guard 23 false (.pure (some 24) false (.move (.tmp 0))), .guard 23 false (.pure (some 25) false (.call (.mk (.builtin .len) #[.tmp 24] #[22]))), .guard 23 false (.pure (some 26) false (.binOp .gtr 3 (.tmp 25) (.const (.int .i64 40)) 3)), .pure (some 27) false (.pick (.tmp 23) (.const (.bool true)) (.tmp 26))]
abbrev p_law47_MerkleNear_3 : List Nat := [0, 1, 2, 3, 4, 5, 6, 7]
def s_law47_MerkleNear_4 : List AStep := [.pure (some 6) false (.assign (.const (.bool true)))]
abbrev p_law47_MerkleNear_4 : List Nat := [0]
def s_law47_MerkleNear_5 : List AStep := [.pure (some 28) false (.move (.tmp 1)), .pure (some 29) false (.convert 5 3 (.tmp 28)), .pure (some 30) false (.move (.tmp 0)), .pure (some 31) false (.call (.mk (.builtin .len) #[.tmp 30] #[22])), .pure (some 32) false (.binOp .rem 3 (.tmp 29) (.tmp 31) 3), .pure (some 7) false (.assign (.tmp 32))]
abbrev p_law47_MerkleNear_5 : List Nat := [0, 1, 2, 3, 4, 5]
def s_law47_MerkleNear_6 : List AStep := [.eff (some 33) (.buildSlice 22 0 #[]), .pure (some 34) false (.move (.tmp 0)), .eff (some 35) (.call (.mk (.builtin .append) #[.tmp 33, .tmp 34] #[22, 22])), .pure (some 8) false (.assign (.tmp 35))]
abbrev p_law47_MerkleNear_6 : List Nat := [0, 1, 2, 3]
def s_law47_MerkleNear_7 : List AStep := [.pure (some 36) false (.move (.tmp 8)), .pure (some 37) false (.move (.tmp 7)), .read (some 38) false (.load 27 (.tmp 5)), .pure (some 39) false (.indexAddr 22 (.tmp 36) (.tmp 37)), .eff none (.store 27 (.tmp 39) (.tmp 38))]
abbrev p_law47_MerkleNear_7 : List Nat := [0, 1, 2, 3, 4]
def s_law47_MerkleNear_8 : List AStep := [.pure (some 40) false (.move (.tmp 0)), .call (some 41) false ⟨.value (.func 9), #[.tmp 40], #[22]⟩, .pure (some 42) false (.move (.tmp 8)), .call (some 43) false ⟨.value (.func 9), #[.tmp 42], #[22]⟩, .pure (some 9) false (.assign (.tmp 41)), .pure (some 10) false (.assign (.tmp 43))]
abbrev p_law47_MerkleNear_8 : List Nat := [0, 1, 2, 3, 4, 5]
def s_law47_MerkleNear_9 : List AStep := [.pure (some 44) false (.move (.tmp 0)), .pure (some 45) false (.call (.mk (.builtin .len) #[.tmp 44] #[22])), .pure (some 46) false (.move (.const (.int .i64 0)))]
abbrev p_law47_MerkleNear_9 : List Nat := [0, 1, 2]
def s_law47_MerkleNear_10 : List AStep := [.pure (some 47) false (.binOp .lss 3 (.tmp 46) (.tmp 45) 3)]
abbrev p_law47_MerkleNear_10 : List Nat := [0]
def s_law47_MerkleNear_11 : List AStep := [.pure (some 48) false (.move (.tmp 46)), .pure (some 11) false (.assign (.tmp 48))]
abbrev p_law47_MerkleNear_11 : List Nat := [0, 1]
def s_law47_MerkleNear_12 : List AStep := [.pure (some 50) false (.move (.tmp 9)), .pure (some 51) false (.move (.tmp 11)), .call (some 52) false ⟨.value (.func 13), #[.tmp 50, .tmp 51], #[24, 3]⟩, .pure (some 49) false (.move (.tmp 52)), .pure (some 53) false (.extract (.tmp 49) 0), .pure (some 54) false (.extract (.tmp 49) 1), .pure (some 12) false (.assign (.tmp 53)), .pure (some 13) false (.assign (.tmp 54))]
abbrev p_law47_MerkleNear_12 : List Nat := [0, 1, 2, 3, 4, 5, 6, 7]
def s_law47_MerkleNear_13 : List AStep := [.pure (some 56) false (.move (.tmp 10)), .pure (some 57) false (.move (.tmp 11)), .call (some 58) false ⟨.value (.func 13), #[.tmp 56, .tmp 57], #[24, 3]⟩, .pure (some 55) false (.move (.tmp 58)), .pure (some 59) false (.extract (.tmp 55) 0), .pure (some 60) false (.extract (.tmp 55) 1), .pure (some 14) false (.assign (.tmp 59)), .pure (some 15) false (.assign (.tmp 60))]
abbrev p_law47_MerkleNear_13 : List Nat := [0, 1, 2, 3, 4, 5, 6, 7]
def s_law47_MerkleNear_14 : List AStep := [.pure (some 61) false (.move (.tmp 13)), .pure (some 62) false (.unOp .not 4 (.tmp 61)), .pure (some 63) true (.move (.tmp 62)), .guard 63 false (.pure (some 64) false (.move (.tmp 15))), .guard 63 false (.pure (some 65) false (.unOp .not 4 (.tmp 64))), .pure (some 66) false (.pick (.tmp 63) (.const (.bool true)) (.tmp 65)), .pure (some 67) true (.move (.tmp 66)), .guard 67 false (.pure (some 68) false (.move (.tmp 12))), .guard 67 false (.pure (some 69) false (.call (.mk (.builtin .len) #[.tmp 68] #[22]))), .guard 67 false (.pure (some 70) false (.move (.tmp 14))), .guard 67 false (.pure (some 71) false (.call (.mk (.builtin .len) #[.tmp 70] #[22]))), .guard 67 false (.pure (some 72) false (.binOp .neq 3 (.tmp 69) (.tmp 71) 3)), .pure (some 73) false (.pick (.tmp 67) (.const (.bool true)) (.tmp 72))]
abbrev p_law47_MerkleNear_14 : List Nat := [0, 1, 2, 3, 4, 5, 6, 7, 8, 9, 10, 11, 12]
def s_law47_MerkleNear_15 : List AStep := [.pure (some 6) false (.assign (.const (.bool false)))]
abbrev p_law47_MerkleNear_15 : List Nat := [0]
def s_law47_MerkleNear_16 : List AStep := [.pure (some 16) false (.assign (.const (.int .i64 0)))]
abbrev p_law47_MerkleNear_16 : List Nat := [0]
def s_law47_MerkleNear_17 : List AStep := [.pure (some 74) false (.move (.tmp 12)), .pure (some 75) false (.call (.mk (.builtin .len) #[.tmp 74] #[22])), .pure (some 76) false (.move (.const (.int .i64 0)))]
abbrev p_law47_MerkleNear_17 : List Nat := [0, 1, 2]
def s_law47_MerkleNear_18 : List AStep := [.pure (some 77) false (.binOp .lss 3 (.tmp 76) (.tmp 75) 3)]
abbrev p_law47_MerkleNear_18 : List Nat := [0]
def s_law47_MerkleNear_19 : List AStep := [.pure (some 78) false (.move (.tmp 76)), .pure (some 17) false (.assign (.tmp 78))]
abbrev p_law47_MerkleNear_19 : List Nat := [0, 1]
def s_law47_MerkleNear_20 : SP := (.one (.pure (some 79) false (.move (.tmp 12))) (.one (.pure (some 80) false (.move (.tmp 17))) (.one (.pure (some 81) false (.indexAddr 22 (.tmp 79) (.tmp 80))) (.one (.pure (some 83) false (.move (.tmp 14))) (.one (.pure (some 84) false (.move (.tmp 17))) (.one (.pure (some 85) false (.indexAddr 22 (.tmp 83) (.tmp 84))) (.one (.read (some 82) false (.load 27 (.tmp 81))) (.one (.read (some 86) false (.load 27 (.tmp 85))) (.one (.pure (some 87) false (.binOp .neq 27 (.tmp 82) (.tmp 86) 27)) .done)))))))))
abbrev p_law47_MerkleNear_20 : PC := (.calm 0 268 (.calm 1 268 (.calm 2 264 (.calm 4 448 (.calm 5 448 (.calm 6 384 (.calm 3 256 (.calm 7 256 (.calm 8 0 .done)))))))))
abbrev g_law47_MerkleNear_20 : List Dg := [⟨0, 4096, 604462909807314587353088, .pure, true⟩, ⟨0, 131072, 1208925819614629174706176, .pure, true⟩, ⟨3, 1813388729421943762059264, 2417851639229258349412352, .pure, true⟩, ⟨4, 2417851639229258349412352, 4835703278458516698824704, .read, true⟩, ⟨0, 16384, 9671406556917033397649408, .pure, true⟩, ⟨0, 131072, 19342813113834066795298816, .pure, true⟩, ⟨48, 29014219670751100192948224, 38685626227668133590597632, .pure, true⟩, ⟨64, 38685626227668133590597632, 77371252455336267181195264, .read, true⟩, ⟨136, 82206955733794783880019968, 154742504910672534362390528, .pure, true⟩]
abbrev q_law47_MerkleNear_20 : List Nat := []
def s_law47_MerkleNear_21 : List AStep := [.pure (some 88) false (.move (.tmp 16)), .pure (some 89) false (.binOp .add 3 (.tmp 88) (.const (.int .i64 1)) 3), .pure (some 16) false (.assign (.tmp 89))]
abbrev p_law47_MerkleNear_21 : List Nat := [0, 1, 2]
def s_law47_MerkleNear_22 : List AStep := [.pure (some 90) false (.binOp .add 3 (.tmp 76) (.const (.int .i64 1)) 3), .pure (some 76) false (.move (.tmp 90))]
abbrev p_law47_MerkleNear_22 : List Nat := [0, 1]
def s_law47_MerkleNear_23 : SP := (.one (.pure (some 91) false (.move (.tmp 16))) (.one (.pure (some 92) false (.binOp .gtr 3 (.tmp 91) (.const (.int .i64 1)) 3)) (.one (.pure (some 93) true (.move (.tmp 92))) (.one (.guard 93 false (.pure (some 94) false (.move (.tmp 11)))) (.one (.guard 93 false (.pure (some 95) false (.move (.tmp 7)))) (.one (.guard 93 false (.pure (some 96) false (.binOp .eql 3 (.tmp 94) (.tmp 95) 3))) (.one (.guard 93 false (.pure (some 97) true (.move (.tmp 96)))) (.one (.guard 97 true (.pure (some 98) false (.move (.tmp 16)))) (.one (.guard 97 true (.pure (some 99) false (.binOp .gtr 3 (.tmp 98) (.const (.int .i64 0)) 3))) (.one (.guard 93 false (.pure (some 100) false (.pick (.tmp 97) (.tmp 99) (.const (.bool false))))) (.one (.pure (some 101) false (.pick (.tmp 93) (.const (.bool true)) (.tmp 100))) (.one (.pure (some 102) true (.move (.tmp 101))) (.one (.guard 102 false (.pure (some 103) false (.move (.tmp 10)))) (.one (.guard 102 false (.pure (some 105) false (.move (.tmp 0)))) (.one (.guard 102 false (.pure (some 106) false (.call (.mk (.builtin .len) #[.tmp 105] #[22])))) (.one (.guard 102 false (.pure (some 107) false (.move (.tmp 11)))) (.one (.guard 102 false (.pure (some 108) false (.move (.tmp 8)))) (.one (.guard 102 false (.pure (some 109) false (.move (.tmp 11)))) (.one (.guard 102 false (.pure (some 110) false (.indexAddr 22 (.tmp 108) (.tmp 109)))) (.one (.guard 102 false (.pure (some 112) false (.move (.tmp 14)))) (.one (.guard 102 false (.read (some 111) false (.load 27 (.tmp 110)))) (.one (.guard 102 false (.call (some 104) false ⟨.value (.func 10), #[.tmp 103], #[24]⟩)) (.one (.guard 102 false (.call (some 113) false ⟨.value (.func 16), #[.tmp 104, .tmp 106, .tmp 107, .tmp 111, .tmp 112], #[27, 3, 3, 27, 22]⟩)) (.one (.guard 102 false (.pure (some 114) false (.unOp .not 4 (.tmp 113)))) (.one (.pure (some 115) false (.pick (.tmp 102) (.const (.bool true)) (.tmp 114))) .done)))))))))))))))))))))))))
abbrev p_law47_MerkleNear_23 : PC := (.calm 0 33554430 (.calm 1 33554428 (.calm 2 33554424 (.calm 3 33554400 (.calm 4 33554400 (.calm 5 33554368 (.calm 6 33554304 (.calm 7 33554176 (.calm 8 33553920 (.calm 9 33553408 (.calm 10 33552384 (.calm 11 33550336 (.calm 12 29368320 (.calm 14 29392896 (.calm 15 29360128 (.calm 16 29360128 (.calm 17 30932992 (.calm 18 30932992 (.calm 19 30408704 (.calm 21 29360128 (.calm 20 29360128 (.act 13 (.act 22 (.calm 23 16777216 (.calm 24 0 .done)))))))))))))))))))))))))
abbrev g_law47_MerkleNear_23 : List Dg := [⟨0, 65536, 2475880078570760549798248448, .pure, true⟩, ⟨1, 2475880078570760549798248448, 4951760157141521099596496896, .pure, true⟩, ⟨2, 4951760157141521099596496896, 9903520314283042199192993792, .pure, true⟩, ⟨4, 9903520314283042199192995840, 19807040628566084398385987584, .pure, true⟩, ⟨4, 9903520314283042199192993920, 39614081257132168796771975168, .pure, true⟩, ⟨28, 69324642199981295394350956544, 79228162514264337593543950336, .pure, true⟩, ⟨36, 89131682828547379792736944128, 158456325028528675187087900672, .pure, true⟩, ⟨64, 158456325028528675187087966208, 316912650057057350374175801344, .pure, true⟩, ⟨192, 475368975085586025561263702016, 633825300114114700748351602688, .pure, true⟩, ⟨324, 802185145456926418134632497152, 1267650600228229401496703205376, .pure, true⟩, ⟨516, 1277554120542512443695896199168, 2535301200456458802993406410752, .pure, true⟩, ⟨1088, 2535301200456458802993406410752, 5070602400912917605986812821504, .pure, true⟩, ⟨2048, 5070602400912917605986812822528, 10141204801825835211973625643008, .pure, true⟩, ⟨6144, 15211807202738752817960438464512, 20282409603651670423947251286016, .call, true⟩, ⟨2048, 5070602400912917605986812821505, 40564819207303340847894502572032, .pure, true⟩, ⟨18432, 45635421608216258453881315393536, 81129638414606681695789005144064, .pure, true⟩, ⟨2048, 5070602400912917605986812823552, 162259276829213363391578010288128, .pure, true⟩, ⟨2048, 5070602400912917605986812821760, 324518553658426726783156020576256, .pure, true⟩, ⟨2048, 5070602400912917605986812823552, 649037107316853453566312041152512, .pure, true⟩, ⟨395264, 978626263376193097955454874550272, 1298074214633706907132624082305024, .pure, true⟩, ⟨526336, 1303144817034619824738610895126528, 2596148429267413814265248164610048, .read, true⟩, ⟨2048, 5070602400912917605986812837888, 5192296858534827628530496329220096, .pure, true⟩, ⟨3254272, 8057187215050626075913045573369856, 10384593717069655257060992658440192, .call, true⟩, ⟨4196352, 10389664319470568174666979471261696, 20769187434139310514121985316880384, .pure, true⟩, ⟨8390656, 20774258036540223431727972129701888, 41538374868278621028243970633760768, .pure, true⟩]
abbrev q_law47_MerkleNear_23 : List Nat := []
def s_law47_MerkleNear_24 : List AStep := [.pure (some 6) false (.assign (.const (.bool false)))]
abbrev p_law47_MerkleNear_24 : List Nat := [0]
def s_law47_MerkleNear_25 : List AStep := [.pure (some 116) false (.binOp .add 3 (.tmp 46) (.const (.int .i64 1)) 3), .pure (some 46) false (.move (.tmp 116))]
abbrev p_law47_MerkleNear_25 : List Nat := [0, 1]
def s_law47_MerkleNear_26 : List AStep := [.pure (some 6) false (.assign (.const (.bool true)))]
abbrev p_law47_MerkleNear_26 : List Nat := [0]

/-! erewhile/erewhilelaw47.awake -/
abbrev n_law47_awake : Nat := 8
theorem func_law47_awake : Try.prog.funcs[n_law47_awake]? = some Try.f8 := Try.func8
theorem call_law47_awake : ∀ args w, (callFunc n_law47_awake args).run Try.prog w = .ok (.enter n_law47_awake args) w := Try.call8
theorem nt_law47_awake : Try.f8.ntmps = 75 := Try.ntmps8
theorem rs_law47_awake : Try.f8.results.toList = [.tmp 0] := by rw [Try.results8]
def s_law47_awake_0 : List AStep := [.pure (some 0) false (.assign (.const (.bool false)))]
abbrev p_law47_awake_0 : List Nat := [0]
def s_law47_awake_1 : List AStep := [.pure (some 9) false (.build 27 #[(0, .const (.int .u8 1))]), .pure (some 10) false (.build 27 #[(0, .const (.int .u8 2))]), .pure (some 11) false (.build 27 #[(0, .const (.int .u8 3))]), .eff (some 1) (.alloc 27), .eff (some 2) (.alloc 27), .eff (some 3) (.alloc 27), .eff none (.store 27 (.tmp 1) (.tmp 9)), .eff none (.store 27 (.tmp 2) (.tmp 10)), .eff none (.store 27 (.tmp 3) (.tmp 11))]
abbrev p_law47_awake_1 : List Nat := [0, 1, 2, 3, 4, 5, 6, 7, 8]
def s_law47_awake_2 : List AStep := [.read (some 12) false (.load 27 (.tmp 1)), .read (some 13) false (.load 27 (.tmp 2)), .read (some 14) false (.load 27 (.tmp 3)), .eff (some 15) (.buildSlice 22 3 #[(0, .tmp 12), (1, .tmp 13), (2, .tmp 14)]), .call (some 16) false ⟨.value (.func 9), #[.tmp 15], #[22]⟩, .pure (some 4) false (.assign (.tmp 16))]
abbrev p_law47_awake_2 : List Nat := [0, 1, 2, 3, 4, 5]
def s_law47_awake_3 : List AStep := [.pure (some 18) false (.move (.tmp 4)), .call (some 19) false ⟨.value (.func 13), #[.tmp 18, .const (.int .i64 2)], #[24, 3]⟩, .pure (some 17) false (.move (.tmp 19)), .pure (some 20) false (.extract (.tmp 17) 0), .pure (some 21) false (.extract (.tmp 17) 1), .pure (some 5) false (.assign (.tmp 20)), .pure (some 6) false (.assign (.tmp 21))]
abbrev p_law47_awake_3 : List Nat := [0, 1, 2, 3, 4, 5, 6]
def s_law47_awake_4 : List AStep := [.pure (some 23) false (.move (.tmp 4)), .read (some 24) false (.load 27 (.tmp 1)), .read (some 25) false (.load 27 (.tmp 3)), .read (some 26) false (.load 27 (.tmp 3)), .eff (some 27) (.buildSlice 22 3 #[(0, .tmp 24), (1, .tmp 25), (2, .tmp 26)]), .call (some 28) false ⟨.value (.func 9), #[.tmp 27], #[22]⟩, .call (some 29) false ⟨.value (.func 18), #[.tmp 23, .tmp 28], #[24, 24]⟩, .pure (some 22) false (.move (.tmp 29)), .pure (some 30) false (.extract (.tmp 22) 0), .pure (some 31) false (.extract (.tmp 22) 1), .pure (some 7) false (.assign (.tmp 30)), .pure (some 8) false (.assign (.tmp 31))]
abbrev p_law47_awake_4 : List Nat := [0, 1, 2, 3, 4, 5, 6, 7, 8, 9, 10, 11]
def s_law47_awake_5 : SP := (.one (.pure (some 32) false (.move (.tmp 4))) (.one (.call (some 33) false ⟨.value (.func 12), #[.tmp 32], #[24]⟩) (.one (.pure (some 34) false (.binOp .eql 3 (.tmp 33) (.const (.int .i64 3)) 3)) (.one (.pure (some 35) true (.move (.tmp 34))) (.one (.guard 35 true (.pure (some 36) false (.move (.tmp 4)))) (.one (.guard 35 true (.read (some 38) false (.load 27 (.tmp 1)))) (.one (.guard 35 true (.read (some 39) false (.load 27 (.tmp 2)))) (.one (.guard 35 true (.read (some 40) false (.load 27 (.tmp 3)))) (.two (.guard 35 true (.call (some 37) false ⟨.value (.func 10), #[.tmp 36], #[24]⟩)) (.one (.guard 35 true (.eff (some 41) (.buildSlice 22 3 #[(0, .tmp 38), (1, .tmp 39), (2, .tmp 40)]))) (.one (.guard 35 true (.call (some 42) false ⟨.value (.func 11), #[.tmp 41], #[22]⟩)) (.one (.guard 35 true (.pure (some 43) false (.binOp .eql 27 (.tmp 37) (.tmp 42) 27))) (.one (.pure (some 44) false (.pick (.tmp 35) (.tmp 43) (.const (.bool false)))) (.one (.pure (some 45) true (.move (.tmp 44))) (.one (.guard 45 true (.pure (some 46) false (.move (.tmp 6)))) (.one (.pure (some 47) false (.pick (.tmp 45) (.tmp 46) (.const (.bool false)))) (.one (.pure (some 48) true (.move (.tmp 47))) (.one (.guard 48 true (.pure (some 49) false (.move (.tmp 5)))) (.one (.guard 48 true (.pure (some 50) false (.call (.mk (.builtin .len) #[.tmp 49] #[22])))) (.one (.guard 48 true (.pure (some 51) false (.binOp .eql 3 (.tmp 50) (.const (.int .i64 1)) 3))) (.one (.pure (some 52) false (.pick (.tmp 48) (.tmp 51) (.const (.bool false)))) (.one (.pure (some 53) true (.move (.tmp 52))) (.one (.guard 53 true (.pure (some 54) false (.move (.tmp 4)))) (.one (.guard 53 true (.pure (some 57) false (.move (.tmp 5)))) (.one (.guard 53 true (.read (some 56) false (.load 27 (.tmp 3)))) (.one (.guard 53 true (.call (some 55) false ⟨.value (.func 10), #[.tmp 54], #[24]⟩)) (.one (.guard 53 true (.call (some 58) false ⟨.value (.func 16), #[.tmp 55, .const (.int .i64 3), .const (.int .i64 2), .tmp 56, .tmp 57], #[27, 3, 3, 27, 22]⟩)) (.one (.pure (some 59) false (.pick (.tmp 53) (.tmp 58) (.const (.bool false)))) (.one (.pure (some 60) true (.move (.tmp 59))) (.one (.guard 60 true (.pure (some 61) false (.move (.tmp 7)))) (.one (.guard 60 true (.pure (some 62) false (.call (.mk (.builtin .len) #[.tmp 61] #[43])))) (.one (.guard 60 true (.pure (some 63) false (.binOp .eql 3 (.tmp 62) (.const (.int .i64 1)) 3))) (.one (.pure (some 64) false (.pick (.tmp 60) (.tmp 63) (.const (.bool false)))) (.one (.pure (some 65) true (.move (.tmp 64))) (.one (.guard 65 true (.pure (some 66) false (.move (.tmp 7)))) (.one (.guard 65 true (.pure (some 67) false (.indexAddr 43 (.tmp 66) (.const (.int .i64 0))))) (.one (.guard 65 true (.read (some 68) false (.load 3 (.tmp 67)))) (.one (.guard 65 true (.pure (some 69) false (.binOp .eql 3 (.tmp 68) (.const (.int .i64 1)) 3))) (.one (.pure (some 70) false (.pick (.tmp 65) (.tmp 69) (.const (.bool false)))) (.one (.pure (some 71) true (.move (.tmp 70))) (.one (.guard 71 true (.pure (some 72) false (.move (.tmp 8)))) (.one (.guard 71 true (.pure (some 73) false (.binOp .eql 3 (.tmp 72) (.const (.int .i64 5)) 3))) (.one (.pure (some 74) false (.pick (.tmp 71) (.tmp 73) (.const (.bool false)))) (.one (.pure (some 0) false (.assign (.tmp 74))) .done))))))))))))))))))))))))))))))))))) (.guard 35 true (.eff (some 41) (.buildSlice 22 3 #[(0, .tmp 38), (1, .tmp 39), (2, .tmp 40)]))) (.one (.guard 35 true (.call (some 37) false ⟨.value (.func 10), #[.tmp 36], #[24]⟩)) (.one (.guard 35 true (.call (some 42) false ⟨.value (.func 11), #[.tmp 41], #[22]⟩)) (.one (.guard 35 true (.pure (some 43) false (.binOp .eql 27 (.tmp 37) (.tmp 42) 27))) (.one (.pure (some 44) false (.pick (.tmp 35) (.tmp 43) (.const (.bool false)))) (.one (.pure (some 45) true (.move (.tmp 44))) (.one (.guard 45 true (.pure (some 46) false (.move (.tmp 6)))) (.one (.pure (some 47) false (.pick (.tmp 45) (.tmp 46) (.const (.bool false)))) (.one (.pure (some 48) true (.move (.tmp 47))) (.one (.guard 48 true (.pure (some 49) false (.move (.tmp 5)))) (.one (.guard 48 true (.pure (some 50) false (.call (.mk (.builtin .len) #[.tmp 49] #[22])))) (.one (.guard 48 true (.pure (some 51) false (.binOp .eql 3 (.tmp 50) (.const (.int .i64 1)) 3))) (.one (.pure (some 52) false (.pick (.tmp 48) (.tmp 51) (.const (.bool false)))) (.one (.pure (some 53) true (.move (.tmp 52))) (.one (.guard 53 true (.pure (some 54) false (.move (.tmp 4)))) (.one (.guard 53 true (.pure (some 57) false (.move (.tmp 5)))) (.one (.guard 53 true (.read (some 56) false (.load 27 (.tmp 3)))) (.one (.guard 53 true (.call (some 55) false ⟨.value (.func 10), #[.tmp 54], #[24]⟩)) (.one (.guard 53 true (.call (some 58) false ⟨.value (.func 16), #[.tmp 55, .const (.int .i64 3), .const (.int .i64 2), .tmp 56, .tmp 57], #[27, 3, 3, 27, 22]⟩)) (.one (.pure (some 59) false (.pick (.tmp 53) (.tmp 58) (.const (.bool false)))) (.one (.pure (some 60) true (.move (.tmp 59))) (.one (.guard 60 true (.pure (some 61) false (.move (.tmp 7)))) (.one (.guard 60 true (.pure (some 62) false (.call (.mk (.builtin .len) #[.tmp 61] #[43])))) (.one (.guard 60 true (.pure (some 63) false (.binOp .eql 3 (.tmp 62) (.const (.int .i64 1)) 3))) (.one (.pure (some 64) false (.pick (.tmp 60) (.tmp 63) (.const (.bool false)))) (.one (.pure (some 65) true (.move (.tmp 64))) (.one (.guard 65 true (.pure (some 66) false (.move (.tmp 7)))) (.one (.guard 65 true (.pure (some 67) false (.indexAddr 43 (.tmp 66) (.const (.int .i64 0))))) (.one (.guard 65 true (.read (some 68) false (.load 3 (.tmp 67)))) (.one (.guard 65 true (.pure (some 69) false (.binOp .eql 3 (.tmp 68) (.const (.int .i64 1)) 3))) (.one (.pure (some 70) false (.pick (.tmp 65) (.tmp 69) (.const (.bool false)))) (.one (.pure (some 71) true (.move (.tmp 70))) (.one (.guard 71 true (.pure (some 72) false (.move (.tmp 8)))) (.one (.guard 71 true (.pure (some 73) false (.binOp .eql 3 (.tmp 72) (.const (.int .i64 5)) 3))) (.one (.pure (some 74) false (.pick (.tmp 71) (.tmp 73) (.const (.bool false)))) (.one (.pure (some 0) false (.assign (.tmp 74))) .done))))))))))))))))))))))))))))))))))))))))))))
abbrev p_law47_awake_5 : PC := (.calm 0 17592186044414 (.act 1 (.calm 2 17592186044408 (.calm 3 17592186044400 (.calm 4 17592186043424 (.calm 6 17592186043904 (.calm 7 17592186043904 (.calm 8 17592186043904 (.fork 5 (.act 9 (.act 10 (.calm 11 17592186040320 (.calm 12 17592186036224 (.calm 13 17592186028032 (.calm 14 17592186011648 (.calm 15 17592185978880 (.calm 16 17592185913344 (.calm 17 17592185782272 (.calm 18 17592185520128 (.calm 19 17592184995840 (.calm 20 17592183947264 (.calm 21 17592181850112 (.calm 22 17592127324160 (.calm 25 17592118935552 (.calm 24 17592118935552 (.act 23 (.act 26 (.calm 27 17591917608960 (.calm 28 17591649173504 (.calm 29 17591112302592 (.calm 30 17590038560768 (.calm 31 17587891077120 (.calm 32 17583596109824 (.calm 33 17575006175232 (.calm 34 17557826306048 (.calm 35 17523466567680 (.calm 36 17454747090944 (.calm 37 17317308137472 (.calm 38 17042430230528 (.calm 39 16492674416640 (.calm 40 15393162788864 (.calm 41 13194139533312 (.calm 42 8796093022208 (.calm 43 0 .done))))))))))))))))))))))))))))))))))) 9 (.act 5 (.act 10 (.calm 11 17592186040320 (.calm 12 17592186036224 (.calm 13 17592186028032 (.calm 14 17592186011648 (.calm 15 17592185978880 (.calm 16 17592185913344 (.calm 17 17592185782272 (.calm 18 17592185520128 (.calm 19 17592184995840 (.calm 20 17592183947264 (.calm 21 17592181850112 (.calm 22 17592127324160 (.calm 25 17592118935552 (.calm 24 17592118935552 (.act 23 (.act 26 (.calm 27 17591917608960 (.calm 28 17591649173504 (.calm 29 17591112302592 (.calm 30 17590038560768 (.calm 31 17587891077120 (.calm 32 17583596109824 (.calm 33 17575006175232 (.calm 34 17557826306048 (.calm 35 17523466567680 (.calm 36 17454747090944 (.calm 37 17317308137472 (.calm 38 17042430230528 (.calm 39 16492674416640 (.calm 40 15393162788864 (.calm 41 13194139533312 (.calm 42 8796093022208 (.calm 43 0 .done))))))))))))))))))))))))))))))))))))))))))))
abbrev g_law47_awake_5 : List Dg := [⟨0, 16, 4294967296, .pure, true⟩, ⟨1, 4294967296, 8589934592, .call, true⟩, ⟨2, 8589934592, 17179869184, .pure, true⟩, ⟨6, 17179869184, 34359738368, .pure, true⟩, ⟨8, 34359738384, 68719476736, .pure, true⟩, ⟨24, 103079215104, 137438953472, .call, true⟩, ⟨8, 34359738370, 274877906944, .read, true⟩, ⟨8, 34359738372, 549755813888, .read, true⟩, ⟨8, 34359738376, 1099511627776, .read, true⟩, ⟨456, 1958505086976, 2199023255552, .eff, true⟩, ⟨552, 2233382993920, 4398046511104, .call, true⟩, ⟨1064, 4569845202944, 8796093022208, .pure, true⟩, ⟨2056, 8830452760576, 17592186044416, .pure, true⟩, ⟨5120, 17592186044416, 35184372088832, .pure, true⟩, ⟨8192, 35184372088896, 70368744177664, .pure, true⟩, ⟨24576, 105553116266496, 140737488355328, .pure, true⟩, ⟨40960, 140737488355328, 281474976710656, .pure, true⟩, ⟨65536, 281474976710688, 562949953421312, .pure, true⟩, ⟨196608, 844424930131968, 1125899906842624, .pure, true⟩, ⟨327680, 1407374883553280, 2251799813685248, .pure, true⟩, ⟨589824, 2533274790395904, 4503599627370496, .pure, true⟩, ⟨1114112, 4503599627370496, 9007199254740992, .pure, true⟩, ⟨2097152, 9007199254741008, 18014398509481984, .pure, true⟩, ⟨6291456, 27021597764222976, 36028797018963968, .call, true⟩, ⟨2097152, 9007199254741000, 72057594037927936, .read, true⟩, ⟨2097152, 9007199254741024, 144115188075855872, .pure, true⟩, ⟨60817408, 261208778387488768, 288230376151711744, .call, true⟩, ⟨69206016, 297237575406452736, 576460752303423488, .pure, true⟩, ⟨201326592, 576460752303423488, 1152921504606846976, .pure, true⟩, ⟨268435456, 1152921504606847104, 2305843009213693952, .pure, true⟩, ⟨805306368, 3458764513820540928, 4611686018427387904, .pure, true⟩, ⟨1342177280, 5764607523034234880, 9223372036854775808, .pure, true⟩, ⟨2415919104, 10376293541461622784, 18446744073709551616, .pure, true⟩, ⟨4563402752, 18446744073709551616, 36893488147419103232, .pure, true⟩, ⟨8589934592, 36893488147419103360, 73786976294838206464, .pure, true⟩, ⟨25769803776, 110680464442257309696, 147573952589676412928, .pure, true⟩, ⟨42949672960, 184467440737095516160, 295147905179352825856, .read, true⟩, ⟨77309411328, 332041393326771929088, 590295810358705651712, .pure, true⟩, ⟨146028888064, 627189298506124754944, 1180591620717411303424, .pure, true⟩, ⟨283467841536, 1180591620717411303424, 2361183241434822606848, .pure, true⟩, ⟨549755813888, 2361183241434822607104, 4722366482869645213696, .pure, true⟩, ⟨1649267441664, 7083549724304467820544, 9444732965739290427392, .pure, true⟩, ⟨2748779069440, 11805916207174113034240, 18889465931478580854784, .pure, true⟩, ⟨8796093022207, 18889465931478580854784, 1, .pure, true⟩]
abbrev q_law47_awake_5 : List Nat := []

/-! erewhile/merkle.New -/
abbrev n_merkle_New : Nat := 9
theorem func_merkle_New : Try.prog.funcs[n_merkle_New]? = some Try.f9 := Try.func9
theorem call_merkle_New : ∀ args w, (callFunc n_merkle_New args).run Try.prog w = .ok (.enter n_merkle_New args) w := Try.call9
theorem nt_merkle_New : Try.f9.ntmps = 17 := Try.ntmps9
theorem rs_merkle_New : Try.f9.results.toList = [.tmp 2] := by rw [Try.results9]
def s_merkle_New_0 : List AStep := [.pure (some 2) false (.assign (.const (.pointer none)))]
abbrev p_merkle_New_0 : List Nat := [0]
def s_merkle_New_1 : List AStep := [.pure (some 3) false (.move (.tmp 0)), .pure (some 4) false (.move (.tmp 0)), .pure (some 5) false (.call (.mk (.builtin .len) #[.tmp 4] #[22])), .pure (some 6) false (.call (.mk (.builtin .min) #[.tmp 5, .const (.int .i64 65536)] #[3, 3])), .pure (some 7) false (.slice 22 (.tmp 3) none (some (.tmp 6)) none), .pure (some 0) false (.assign (.tmp 7))]
abbrev p_merkle_New_1 : List Nat := [0, 1, 2, 3, 4, 5]
def s_merkle_New_2 : List AStep := [.pure (some 8) false (.move (.tmp 0)), .pure (some 9) false (.call (.mk (.builtin .len) #[.tmp 8] #[22])), .pure (some 10) false (.binOp .eql 3 (.tmp 9) (.const (.int .i64 0)) 3)]
abbrev p_merkle_New_2 : List Nat := [0, 1, 2]
def s_merkle_New_3 : List AStep := [.pure (some 11) false (.build 30 #[]), .eff (some 12) (.box 30 (.tmp 11)), .pure (some 2) false (.assign (.tmp 12))]
abbrev p_merkle_New_3 : List Nat := [0, 1, 2]
def s_merkle_New_4 : List AStep := [.pure (some 13) false (.move (.tmp 0)), .call (some 14) false ⟨.value (.func 19), #[.tmp 13], #[22]⟩, .pure (some 15) false (.build 30 #[(0, .tmp 14)]), .eff (some 16) (.box 30 (.tmp 15)), .pure (some 2) false (.assign (.tmp 16))]
abbrev p_merkle_New_4 : List Nat := [0, 1, 2, 3, 4]

/-! (*erewhile/merkle.Tree).Root -/
abbrev n_merkle_Tree_Root : Nat := 10
theorem func_merkle_Tree_Root : Try.prog.funcs[n_merkle_Tree_Root]? = some Try.f10 := Try.func10
theorem call_merkle_Tree_Root : ∀ args w, (callFunc n_merkle_Tree_Root args).run Try.prog w = .ok (.enter n_merkle_Tree_Root args) w := Try.call10
theorem nt_merkle_Tree_Root : Try.f10.ntmps = 13 := Try.ntmps10
theorem rs_merkle_Tree_Root : Try.f10.results.toList = [.cell 2 27] := by rw [Try.results10]
def s_merkle_Tree_Root_0 : List AStep := [.eff (some 2) (.alloc 27)]
abbrev p_merkle_Tree_Root_0 : List Nat := [0]
def s_merkle_Tree_Root_1 : List AStep := [.pure (some 4) false (.move (.tmp 0)), .call (some 5) false ⟨.value (.func 20), #[.tmp 4], #[24]⟩, .pure (some 3) false (.assign (.tmp 5))]
abbrev p_merkle_Tree_Root_1 : List Nat := [0, 1, 2]
def s_merkle_Tree_Root_2 : List AStep := [.pure (some 6) false (.move (.tmp 3)), .pure (some 7) false (.binOp .neq 28 (.tmp 6) (.const (.pointer none)) 28)]
abbrev p_merkle_Tree_Root_2 : List Nat := [0, 1]
def s_merkle_Tree_Root_3 : List AStep := [.pure (some 8) false (.move (.tmp 3)), .pure (some 9) false (.nilCheck (.tmp 8)), .pure (some 10) false (.fieldAddr 50 (.tmp 9) 0), .read (some 11) false (.load 27 (.tmp 10)), .eff none (.store 27 (.tmp 2) (.tmp 11))]
abbrev p_merkle_Tree_Root_3 : List Nat := [0, 1, 2, 3, 4]
/-! erewhile/erewhileref47.Root -/
abbrev n_ref47_Root : Nat := 11
theorem func_ref47_Root : Try.prog.funcs[n_ref47_Root]? = some Try.f11 := Try.func11
theorem call_ref47_Root : ∀ args w, (callFunc n_ref47_Root args).run Try.prog w = .ok (.enter n_ref47_Root args) w := Try.call11
theorem nt_ref47_Root : Try.f11.ntmps = 27 := Try.ntmps11
theorem rs_ref47_Root : Try.f11.results.toList = [.cell 2 27] := by rw [Try.results11]
def s_ref47_Root_0 : List AStep := [.eff (some 2) (.alloc 27)]
abbrev p_ref47_Root_0 : List Nat := [0]
def s_ref47_Root_1 : List AStep := [.pure (some 4) false (.move (.tmp 0)), .pure (some 5) false (.call (.mk (.builtin .len) #[.tmp 4] #[22])), .pure (some 6) false (.binOp .eql 3 (.tmp 5) (.const (.int .i64 0)) 3)]
abbrev p_ref47_Root_1 : List Nat := [0, 1, 2]
def s_ref47_Root_2 : List AStep := [.pure (some 7) false (.build 27 #[]), .eff none (.store 27 (.tmp 2) (.tmp 7))]
abbrev p_ref47_Root_2 : List Nat := [0, 1]
def s_ref47_Root_3 : List AStep := [.pure (some 8) false (.move (.tmp 0)), .pure (some 9) false (.call (.mk (.builtin .len) #[.tmp 8] #[22])), .pure (some 10) false (.binOp .eql 3 (.tmp 9) (.const (.int .i64 1)) 3)]
abbrev p_ref47_Root_3 : List Nat := [0, 1, 2]
def s_ref47_Root_4 : List AStep := [.pure (some 11) false (.move (.tmp 0)), .pure (some 12) false (.indexAddr 22 (.tmp 11) (.const (.int .i64 0))), .read (some 13) false (.load 27 (.tmp 12)), .call (some 14) false ⟨.value (.func 21), #[.tmp 13], #[27]⟩, .eff none (.store 27 (.tmp 2) (.tmp 14))]
abbrev p_ref47_Root_4 : List Nat := [0, 1, 2, 3, 4]
def s_ref47_Root_5 : List AStep := [.pure (some 15) false (.move (.tmp 0)), .pure (some 16) false (.call (.mk (.builtin .len) #[.tmp 15] #[22])), .call (some 17) false ⟨.value (.func 22), #[.tmp 16], #[3]⟩, .pure (some 3) false (.assign (.tmp 17))]
abbrev p_ref47_Root_5 : List Nat := [0, 1, 2, 3]
def s_ref47_Root_6 : SP := (.one (.pure (some 18) false (.move (.tmp 0))) (.one (.pure (some 19) false (.move (.tmp 3))) (.one (.pure (some 20) false (.slice 22 (.tmp 18) none (some (.tmp 19)) none)) (.one (.pure (some 22) false (.move (.tmp 0))) (.one (.pure (some 23) false (.move (.tmp 3))) (.one (.pure (some 24) false (.slice 22 (.tmp 22) (some (.tmp 23)) none none)) (.one (.call (some 21) false ⟨.value (.func 11), #[.tmp 20], #[22]⟩) (.one (.call (some 25) false ⟨.value (.func 11), #[.tmp 24], #[22]⟩) (.one (.call (some 26) false ⟨.value (.func 23), #[.tmp 21, .tmp 25], #[27, 27]⟩) (.one (.eff none (.store 27 (.tmp 2) (.tmp 26))) .done))))))))))
abbrev p_ref47_Root_6 : PC := (.calm 0 908 (.calm 1 908 (.calm 2 904 (.calm 4 960 (.calm 5 960 (.calm 6 896 (.act 3 (.act 7 (.act 8 (.act 9 .done))))))))))
abbrev g_ref47_Root_6 : List Dg := [⟨0, 1, 262144, .pure, true⟩, ⟨0, 8, 524288, .pure, true⟩, ⟨3, 786432, 1048576, .pure, true⟩, ⟨4, 1048576, 2097152, .call, true⟩, ⟨0, 1, 4194304, .pure, true⟩, ⟨0, 8, 8388608, .pure, true⟩, ⟨48, 12582912, 16777216, .pure, true⟩, ⟨72, 16777216, 33554432, .call, true⟩, ⟨136, 35651584, 67108864, .call, true⟩, ⟨511, 67108868, 0, .eff, false⟩]
abbrev q_ref47_Root_6 : List Nat := []

/-! (*erewhile/merkle.Tree).Len -/
abbrev n_merkle_Tree_Len : Nat := 12
theorem func_merkle_Tree_Len : Try.prog.funcs[n_merkle_Tree_Len]? = some Try.f12 := Try.func12
theorem call_merkle_Tree_Len : ∀ args w, (callFunc n_merkle_Tree_Len args).run Try.prog w = .ok (.enter n_merkle_Tree_Len args) w := Try.call12
theorem nt_merkle_Tree_Len : Try.f12.ntmps = 12 := Try.ntmps12
theorem rs_merkle_Tree_Len : Try.f12.results.toList = [.tmp 2] := by rw [Try.results12]
def s_merkle_Tree_Len_0 : List AStep := [.pure (some 2) false (.assign (.const (.int .i64 0)))]
abbrev p_merkle_Tree_Len_0 : List Nat := [0]
def s_merkle_Tree_Len_1 : List AStep := [.pure (some 4) false (.move (.tmp 0)), .call (some 5) false ⟨.value (.func 20), #[.tmp 4], #[24]⟩, .pure (some 3) false (.assign (.tmp 5))]
abbrev p_merkle_Tree_Len_1 : List Nat := [0, 1, 2]
def s_merkle_Tree_Len_2 : List AStep := [.pure (some 6) false (.move (.tmp 3)), .pure (some 7) false (.binOp .neq 28 (.tmp 6) (.const (.pointer none)) 28)]
abbrev p_merkle_Tree_Len_2 : List Nat := [0, 1]
def s_merkle_Tree_Len_3 : List AStep := [.pure (some 8) false (.move (.tmp 3)), .pure (some 9) false (.nilCheck (.tmp 8)), .pure (some 10) false (.fieldAddr 50 (.tmp 9) 1), .read (some 11) false (.load 3 (.tmp 10)), .pure (some 2) false (.assign (.tmp 11))]
abbrev p_merkle_Tree_Len_3 : List Nat := [0, 1, 2, 3, 4]
def s_merkle_Tree_Len_4 : List AStep := [.pure (some 2) false (.assign (.const (.int .i64 0)))]
abbrev p_merkle_Tree_Len_4 : List Nat := [0]

/-! (*erewhile/merkle.Tree).Proof -/
abbrev n_merkle_Tree_Proof : Nat := 13
theorem func_merkle_Tree_Proof : Try.prog.funcs[n_merkle_Tree_Proof]? = some Try.f13 := Try.func13
theorem call_merkle_Tree_Proof : ∀ args w, (callFunc n_merkle_Tree_Proof args).run Try.prog w = .ok (.enter n_merkle_Tree_Proof args) w := Try.call13
theorem nt_merkle_Tree_Proof : Try.f13.ntmps = 72 := Try.ntmps13
theorem rs_merkle_Tree_Proof : Try.f13.results.toList = [.tmp 4, .tmp 5] := by rw [Try.results13]
def s_merkle_Tree_Proof_0 : List AStep := [.pure (some 4) false (.assign (.const (.slice none 0 0))), .pure (some 5) false (.assign (.const (.bool false)))]
abbrev p_merkle_Tree_Proof_0 : List Nat := [0, 1]
def s_merkle_Tree_Proof_1 : List AStep := [.pure (some 8) false (.move (.tmp 1)), .pure (some 9) false (.binOp .lss 3 (.tmp 8) (.const (.int .i64 0)) 3), .pure (some 10) true (.move (.tmp 9)), .guard 10 false (.pure (some 11) false (.move (.tmp 1))), .guard 10 false (.pure (some 12) false (.move (.tmp 0))), .guard 10 false (.call (some 13) false ⟨.value (.func 12), #[.tmp 12], #[24]⟩), .guard 10 false (.pure (some 14) false (.binOp .geq 3 (.tmp 11) (.tmp 13) 3)), .pure (some 15) false (.pick (.tmp 10) (.const (.bool true)) (.tmp 14))]
abbrev p_merkle_Tree_Proof_1 : List Nat := [0, 1, 2, 3, 4, 5, 6, 7]
def s_merkle_Tree_Proof_3 : List AStep := [.pure (some 6) false (.assign (.const (.slice none 0 0)))]
abbrev p_merkle_Tree_Proof_3 : List Nat := [0]
def s_merkle_Tree_Proof_4 : List AStep := [.pure (some 16) false (.move (.tmp 0)), .call (some 17) false ⟨.value (.func 20), #[.tmp 16], #[24]⟩, .pure (some 7) false (.assign (.tmp 17))]
abbrev p_merkle_Tree_Proof_4 : List Nat := [0, 1, 2]
def s_merkle_Tree_Proof_5 : List AStep := [.pure (some 18) false (.move (.tmp 7)), .pure (some 19) false (.nilCheck (.tmp 18)), .pure (some 20) false (.fieldAddr 50 (.tmp 19) 1), .read (some 21) false (.load 3 (.tmp 20)), .pure (some 22) false (.binOp .gtr 3 (.tmp 21) (.const (.int .i64 1)) 3)]
abbrev p_merkle_Tree_Proof_5 : List Nat := [0, 1, 2, 3, 4]
def s_merkle_Tree_Proof_6 : List AStep := [.pure (some 23) false (.move (.tmp 1)), .pure (some 24) false (.move (.tmp 7)), .pure (some 25) false (.nilCheck (.tmp 24)), .pure (some 26) false (.fieldAddr 50 (.tmp 25) 2), .read (some 27) false (.load 28 (.tmp 26)), .pure (some 28) false (.nilCheck (.tmp 27)), .pure (some 29) false (.fieldAddr 50 (.tmp 28) 1), .read (some 30) false (.load 3 (.tmp 29)), .pure (some 31) false (.binOp .lss 3 (.tmp 23) (.tmp 30) 3)]
abbrev p_merkle_Tree_Proof_6 : List Nat := [0, 1, 2, 3, 4, 5, 6, 7, 8]
def s_merkle_Tree_Proof_7 : List AStep := [.pure (some 32) false (.move (.tmp 6)), .pure (some 33) false (.move (.tmp 7)), .pure (some 34) false (.nilCheck (.tmp 33)), .pure (some 35) false (.fieldAddr 50 (.tmp 34) 3), .read (some 36) false (.load 28 (.tmp 35)), .pure (some 37) false (.nilCheck (.tmp 36)), .pure (some 38) false (.fieldAddr 50 (.tmp 37) 0), .read (some 39) false (.load 27 (.tmp 38)), .eff (some 40) (.buildSlice 22 1 #[(0, .tmp 39)]), .eff (some 41) (.call (.mk (.builtin .append) #[.tmp 32, .tmp 40] #[22, 22])), .pure (some 6) false (.assign (.tmp 41))]
abbrev p_merkle_Tree_Proof_7 : List Nat := [0, 1, 2, 3, 4, 5, 6, 7, 8, 9, 10]
def s_merkle_Tree_Proof_8 : List AStep := [.pure (some 42) false (.move (.tmp 7)), .pure (some 43) false (.nilCheck (.tmp 42)), .pure (some 44) false (.fieldAddr 50 (.tmp 43) 2), .read (some 45) false (.load 28 (.tmp 44)), .pure (some 7) false (.assign (.tmp 45))]
abbrev p_merkle_Tree_Proof_8 : List Nat := [0, 1, 2, 3, 4]
def s_merkle_Tree_Proof_9 : List AStep := [.pure (some 46) false (.move (.tmp 6)), .pure (some 47) false (.move (.tmp 7)), .pure (some 48) false (.nilCheck (.tmp 47)), .pure (some 49) false (.fieldAddr 50 (.tmp 48) 2), .read (some 50) false (.load 28 (.tmp 49)), .pure (some 51) false (.nilCheck (.tmp 50)), .pure (some 52) false (.fieldAddr 50 (.tmp 51) 0), .read (some 53) false (.load 27 (.tmp 52)), .eff (some 54) (.buildSlice 22 1 #[(0, .tmp 53)]), .eff (some 55) (.call (.mk (.builtin .append) #[.tmp 46, .tmp 54] #[22, 22])), .pure (some 6) false (.assign (.tmp 55))]
abbrev p_merkle_Tree_Proof_9 : List Nat := [0, 1, 2, 3, 4, 5, 6, 7, 8, 9, 10]
def s_merkle_Tree_Proof_10 : List AStep := [.pure (some 56) false (.move (.tmp 1)), .pure (some 57) false (.move (.tmp 7)), .pure (some 58) false (.nilCheck (.tmp 57)), .pure (some 59) false (.fieldAddr 50 (.tmp 58) 2), .read (some 60) false (.load 28 (.tmp 59)), .pure (some 61) false (.nilCheck (.tmp 60)), .pure (some 62) false (.fieldAddr 50 (.tmp 61) 1), .read (some 63) false (.load 3 (.tmp 62)), .pure (some 64) false (.binOp .sub 3 (.tmp 56) (.tmp 63) 3), .pure (some 1) false (.assign (.tmp 64))]
abbrev p_merkle_Tree_Proof_10 : List Nat := [0, 1, 2, 3, 4, 5, 6, 7, 8, 9]
def s_merkle_Tree_Proof_11 : List AStep := [.pure (some 65) false (.move (.tmp 7)), .pure (some 66) false (.nilCheck (.tmp 65)), .pure (some 67) false (.fieldAddr 50 (.tmp 66) 3), .read (some 68) false (.load 28 (.tmp 67)), .pure (some 7) false (.assign (.tmp 68))]
abbrev p_merkle_Tree_Proof_11 : List Nat := [0, 1, 2, 3, 4]
abbrev q_merkle_Tree_Proof_12 : List Nat := [1001]
def s_merkle_Tree_Proof_12 : List AStep := [.pure (some 69) false (.move (.tmp 6)), .mcall (some 70) false ⟨.value (.func 24), #[.tmp 69], #[22]⟩]
abbrev p_merkle_Tree_Proof_12 : List Nat := [0, 1]
def s_merkle_Tree_Proof_13 : List AStep := [.pure (some 71) false (.move (.tmp 6)), .pure (some 4) false (.assign (.tmp 71)), .pure (some 5) false (.assign (.const (.bool true)))]
abbrev p_merkle_Tree_Proof_13 : List Nat := [0, 1, 2]

/-! erewhile/erewhilelaw47.same -/
abbrev n_law47_same : Nat := 14
theorem func_law47_same : Try.prog.funcs[n_law47_same]? = some Try.f14 := Try.func14
theorem call_law47_same : ∀ args w, (callFunc n_law47_same args).run Try.prog w = .ok (.enter n_law47_same args) w := Try.call14
theorem nt_law47_same : Try.f14.ntmps = 26 := Try.ntmps14
theorem rs_law47_same : Try.f14.results.toList = [.tmp 4] := by rw [Try.results14]
def s_law47_same_0 : List AStep := [.pure (some 4) false (.assign (.const (.bool false)))]
abbrev p_law47_same_0 : List Nat := [0]
def s_law47_same_1 : List AStep := [.pure (some 6) false (.move (.tmp 0)), .pure (some 7) false (.call (.mk (.builtin .len) #[.tmp 6] #[22])), .pure (some 8) false (.move (.tmp 1)), .pure (some 9) false (.call (.mk (.builtin .len) #[.tmp 8] #[22])), .pure (some 10) false (.binOp .neq 3 (.tmp 7) (.tmp 9) 3)]
abbrev p_law47_same_1 : List Nat := [0, 1, 2, 3, 4]
def s_law47_same_2 : List AStep := [.pure (some 4) false (.assign (.const (.bool false)))]
abbrev p_law47_same_2 : List Nat := [0]
def s_law47_same_3 : List AStep := [.pure (some 11) false (.move (.tmp 0)), .pure (some 12) false (.call (.mk (.builtin .len) #[.tmp 11] #[22])), .pure (some 13) false (.move (.const (.int .i64 0)))]
abbrev p_law47_same_3 : List Nat := [0, 1, 2]
def s_law47_same_4 : List AStep := [.pure (some 14) false (.binOp .lss 3 (.tmp 13) (.tmp 12) 3)]
abbrev p_law47_same_4 : List Nat := [0]
def s_law47_same_5 : List AStep := [.pure (some 15) false (.move (.tmp 13)), .pure (some 5) false (.assign (.tmp 15))]
abbrev p_law47_same_5 : List Nat := [0, 1]
def s_law47_same_6 : SP := (.one (.pure (some 16) false (.move (.tmp 0))) (.one (.pure (some 17) false (.move (.tmp 5))) (.one (.pure (some 18) false (.indexAddr 22 (.tmp 16) (.tmp 17))) (.one (.pure (some 20) false (.move (.tmp 1))) (.one (.pure (some 21) false (.move (.tmp 5))) (.one (.pure (some 22) false (.indexAddr 22 (.tmp 20) (.tmp 21))) (.one (.read (some 19) false (.load 27 (.tmp 18))) (.one (.read (some 23) false (.load 27 (.tmp 22))) (.one (.pure (some 24) false (.binOp .neq 27 (.tmp 19) (.tmp 23) 27)) .done)))))))))
abbrev p_law47_same_6 : PC := (.calm 0 268 (.calm 1 268 (.calm 2 264 (.calm 4 448 (.calm 5 448 (.calm 6 384 (.calm 3 256 (.calm 7 256 (.calm 8 0 .done)))))))))
abbrev g_law47_same_6 : List Dg := [⟨0, 1, 65536, .pure, true⟩, ⟨0, 32, 131072, .pure, true⟩, ⟨3, 196608, 262144, .pure, true⟩, ⟨4, 262144, 524288, .read, true⟩, ⟨0, 2, 1048576, .pure, true⟩, ⟨0, 32, 2097152, .pure, true⟩, ⟨48, 3145728, 4194304, .pure, true⟩, ⟨64, 4194304, 8388608, .read, true⟩, ⟨136, 8912896, 16777216, .pure, true⟩]
abbrev q_law47_same_6 : List Nat := []
def s_law47_same_7 : List AStep := [.pure (some 4) false (.assign (.const (.bool false)))]
abbrev p_law47_same_7 : List Nat := [0]
def s_law47_same_8 : List AStep := [.pure (some 25) false (.binOp .add 3 (.tmp 13) (.const (.int .i64 1)) 3), .pure (some 13) false (.move (.tmp 25))]
abbrev p_law47_same_8 : List Nat := [0, 1]
def s_law47_same_9 : List AStep := [.pure (some 4) false (.assign (.const (.bool true)))]
abbrev p_law47_same_9 : List Nat := [0]

/-! erewhile/erewhileref47.Proof -/
abbrev n_ref47_Proof : Nat := 15
theorem func_ref47_Proof : Try.prog.funcs[n_ref47_Proof]? = some Try.f15 := Try.func15
theorem call_ref47_Proof : ∀ args w, (callFunc n_ref47_Proof args).run Try.prog w = .ok (.enter n_ref47_Proof args) w := Try.call15
theorem nt_ref47_Proof : Try.f15.ntmps = 40 := Try.ntmps15
theorem rs_ref47_Proof : Try.f15.results.toList = [.tmp 4] := by rw [Try.results15]
def s_ref47_Proof_0 : List AStep := [.pure (some 4) false (.assign (.const (.slice none 0 0)))]
abbrev p_ref47_Proof_0 : List Nat := [0]
def s_ref47_Proof_1 : List AStep := [.pure (some 6) false (.move (.tmp 0)), .pure (some 7) false (.call (.mk (.builtin .len) #[.tmp 6] #[22])), .pure (some 8) false (.binOp .lss 3 (.tmp 7) (.const (.int .i64 2)) 3)]
abbrev p_ref47_Proof_1 : List Nat := [0, 1, 2]
def s_ref47_Proof_2 : List AStep := [.eff (some 9) (.buildSlice 22 0 #[]), .pure (some 4) false (.assign (.tmp 9))]
abbrev p_ref47_Proof_2 : List Nat := [0, 1]
def s_ref47_Proof_3 : List AStep := [.pure (some 10) false (.move (.tmp 0)), .pure (some 11) false (.call (.mk (.builtin .len) #[.tmp 10] #[22])), .call (some 12) false ⟨.value (.func 22), #[.tmp 11], #[3]⟩, .pure (some 5) false (.assign (.tmp 12))]
abbrev p_ref47_Proof_3 : List Nat := [0, 1, 2, 3]
def s_ref47_Proof_4 : List AStep := [.pure (some 13) false (.move (.tmp 1)), .pure (some 14) false (.move (.tmp 5)), .pure (some 15) false (.binOp .lss 3 (.tmp 13) (.tmp 14) 3)]
abbrev p_ref47_Proof_4 : List Nat := [0, 1, 2]
def s_ref47_Proof_5 : SP := (.one (.pure (some 16) false (.move (.tmp 0))) (.one (.pure (some 17) false (.move (.tmp 5))) (.one (.pure (some 18) false (.slice 22 (.tmp 16) none (some (.tmp 17)) none)) (.one (.pure (some 19) false (.move (.tmp 1))) (.one (.pure (some 21) false (.move (.tmp 0))) (.one (.pure (some 22) false (.move (.tmp 5))) (.one (.pure (some 23) false (.slice 22 (.tmp 21) (some (.tmp 22)) none none)) (.one (.call (some 20) false ⟨.value (.func 15), #[.tmp 18, .tmp 19], #[22, 3]⟩) (.one (.call (some 24) false ⟨.value (.func 11), #[.tmp 23], #[22]⟩) (.one (.eff (some 25) (.buildSlice 22 1 #[(0, .tmp 24)])) (.one (.eff (some 26) (.call (.mk (.builtin .append) #[.tmp 20, .tmp 25] #[22, 22]))) (.one (.pure (some 4) false (.assign (.tmp 26))) .done))))))))))))
abbrev p_ref47_Proof_5 : PC := (.calm 0 3860 (.calm 1 3860 (.calm 2 3856 (.calm 3 3856 (.calm 5 3968 (.calm 6 3968 (.calm 7 3840 (.act 4 (.act 8 (.act 9 (.act 10 (.calm 11 0 .done))))))))))))
abbrev g_ref47_Proof_5 : List Dg := [⟨0, 1, 65536, .pure, true⟩, ⟨0, 32, 131072, .pure, true⟩, ⟨3, 196608, 262144, .pure, true⟩, ⟨0, 2, 524288, .pure, true⟩, ⟨12, 786432, 1048576, .call, true⟩, ⟨0, 1, 2097152, .pure, true⟩, ⟨0, 32, 4194304, .pure, true⟩, ⟨96, 6291456, 8388608, .pure, true⟩, ⟨144, 8388608, 16777216, .call, true⟩, ⟨256, 16777216, 33554432, .eff, true⟩, ⟨784, 34603008, 67108864, .eff, false⟩, ⟨2047, 67108864, 16, .pure, true⟩]
abbrev q_ref47_Proof_5 : List Nat := []
def s_ref47_Proof_6 : SP := (.one (.pure (some 27) false (.move (.tmp 0))) (.one (.pure (some 28) false (.move (.tmp 5))) (.one (.pure (some 29) false (.slice 22 (.tmp 27) (some (.tmp 28)) none none)) (.one (.pure (some 30) false (.move (.tmp 1))) (.one (.pure (some 31) false (.move (.tmp 5))) (.one (.pure (some 32) false (.binOp .sub 3 (.tmp 30) (.tmp 31) 3)) (.one (.pure (some 34) false (.move (.tmp 0))) (.one (.pure (some 35) false (.move (.tmp 5))) (.one (.pure (some 36) false (.slice 22 (.tmp 34) none (some (.tmp 35)) none)) (.one (.call (some 33) false ⟨.value (.func 15), #[.tmp 29, .tmp 32], #[22, 3]⟩) (.one (.call (some 37) false ⟨.value (.func 11), #[.tmp 36], #[22]⟩) (.one (.eff (some 38) (.buildSlice 22 1 #[(0, .tmp 37)])) (.one (.eff (some 39) (.call (.mk (.builtin .append) #[.tmp 33, .tmp 38] #[22, 22]))) (.one (.pure (some 4) false (.assign (.tmp 39))) .done))))))))))))))
abbrev p_ref47_Proof_6 : PC := (.calm 0 15428 (.calm 1 15428 (.calm 2 15424 (.calm 3 15456 (.calm 4 15456 (.calm 5 15424 (.calm 7 15872 (.calm 8 15872 (.calm 9 15360 (.act 6 (.act 10 (.act 11 (.act 12 (.calm 13 0 .done))))))))))))))
abbrev g_ref47_Proof_6 : List Dg := [⟨0, 1, 134217728, .pure, true⟩, ⟨0, 32, 268435456, .pure, true⟩, ⟨3, 402653184, 536870912, .pure, true⟩, ⟨0, 2, 1073741824, .pure, true⟩, ⟨0, 32, 2147483648, .pure, true⟩, ⟨24, 3221225472, 4294967296, .pure, true⟩, ⟨36, 4831838208, 8589934592, .call, true⟩, ⟨0, 1, 17179869184, .pure, true⟩, ⟨0, 32, 34359738368, .pure, true⟩, ⟨384, 51539607552, 68719476736, .pure, true⟩, ⟨576, 68719476736, 137438953472, .call, true⟩, ⟨1024, 137438953472, 274877906944, .eff, true⟩, ⟨3136, 283467841536, 549755813888, .eff, false⟩, ⟨8191, 549755813888, 16, .pure, true⟩]
abbrev q_ref47_Proof_6 : List Nat := []

/-! erewhile/merkle.Check -/
abbrev n_merkle_Check : Nat := 16
theorem func_merkle_Check : Try.prog.funcs[n_merkle_Check]? = some Try.f16 := Try.func16
theorem call_merkle_Check : ∀ args w, (callFunc n_merkle_Check args).run Try.prog w = .ok (.enter n_merkle_Check args) w := Try.call16
theorem nt_merkle_Check : Try.f16.ntmps = 34 := Try.ntmps16
theorem rs_merkle_Check : Try.f16.results.toList = [.tmp 10] := by rw [Try.results16]
def s_merkle_Check_0 : List AStep := [.eff (some 5) (.box 27 (.tmp 0)), .eff (some 8) (.box 27 (.tmp 3)), .pure (some 10) false (.assign (.const (.bool false)))]
abbrev p_merkle_Check_0 : List Nat := [0, 1, 2]
def s_merkle_Check_1 : List AStep := [.pure (some 13) false (.move (.tmp 2)), .pure (some 14) false (.binOp .lss 3 (.tmp 13) (.const (.int .i64 0)) 3), .pure (some 15) true (.move (.tmp 14)), .guard 15 false (.pure (some 16) false (.move (.tmp 2))), .guard 15 false (.pure (some 17) false (.move (.tmp 1))), .guard 15 false (.pure (some 18) false (.binOp .geq 3 (.tmp 16) (.tmp 17) 3)), .pure (some 19) false (.pick (.tmp 15) (.const (.bool true)) (.tmp 18))]
abbrev p_merkle_Check_1 : List Nat := [0, 1, 2, 3, 4, 5, 6]
def s_merkle_Check_3 : List AStep := [.pure (some 21) false (.move (.tmp 1)), .pure (some 22) false (.move (.tmp 2)), .read (some 23) false (.load 27 (.tmp 8)), .pure (some 24) false (.move (.tmp 4)), .call (some 25) false ⟨.value (.func 25), #[.tmp 21, .tmp 22, .tmp 23, .tmp 24], #[3, 3, 27, 22]⟩, .pure (some 20) false (.move (.tmp 25)), .pure (some 26) false (.extract (.tmp 20) 0), .pure (some 27) false (.extract (.tmp 20) 1), .eff (some 11) (.alloc 27), .eff none (.store 27 (.tmp 11) (.tmp 26)), .pure (some 12) false (.assign (.tmp 27))]
abbrev p_merkle_Check_3 : List Nat := [0, 1, 2, 3, 4, 5, 6, 7, 8, 9, 10]
def s_merkle_Check_4 : List AStep := [.pure (some 28) false (.move (.tmp 12)), .pure (some 29) true (.move (.tmp 28)), .guard 29 true (.read (some 30) false (.load 27 (.tmp 11))), .guard 29 true (.read (some 31) false (.load 27 (.tmp 5))), .guard 29 true (.pure (some 32) false (.binOp .eql 27 (.tmp 30) (.tmp 31) 27)), .pure (some 33) false (.pick (.tmp 29) (.tmp 32) (.const (.bool false))), .pure (some 10) false (.assign (.tmp 33))]
abbrev p_merkle_Check_4 : List Nat := [0, 1, 2, 3, 4, 5, 6]

/-! erewhile/erewhileref47.Check -/
abbrev n_ref47_Check : Nat := 17
theorem func_ref47_Check : Try.prog.funcs[n_ref47_Check]? = some Try.f17 := Try.func17
theorem call_ref47_Check : ∀ args w, (callFunc n_ref47_Check args).run Try.prog w = .ok (.enter n_ref47_Check args) w := Try.call17
theorem nt_ref47_Check : Try.f17.ntmps = 34 := Try.ntmps17
theorem rs_ref47_Check : Try.f17.results.toList = [.tmp 10] := by rw [Try.results17]
def s_ref47_Check_0 : List AStep := [.eff (some 5) (.box 27 (.tmp 0)), .eff (some 8) (.box 27 (.tmp 3)), .pure (some 10) false (.assign (.const (.bool false)))]
abbrev p_ref47_Check_0 : List Nat := [0, 1, 2]
def s_ref47_Check_1 : List AStep := [.pure (some 13) false (.move (.tmp 2)), .pure (some 14) false (.binOp .lss 3 (.tmp 13) (.const (.int .i64 0)) 3), .pure (some 15) true (.move (.tmp 14)), .guard 15 false (.pure (some 16) false (.move (.tmp 2))), .guard 15 false (.pure (some 17) false (.move (.tmp 1))), .guard 15 false (.pure (some 18) false (.binOp .geq 3 (.tmp 16) (.tmp 17) 3)), .pure (some 19) false (.pick (.tmp 15) (.const (.bool true)) (.tmp 18))]
abbrev p_ref47_Check_1 : List Nat := [0, 1, 2, 3, 4, 5, 6]
def s_ref47_Check_2 : List AStep := [.pure (some 10) false (.assign (.const (.bool false)))]
abbrev p_ref47_Check_2 : List Nat := [0]
def s_ref47_Check_3 : List AStep := [.pure (some 21) false (.move (.tmp 1)), .pure (some 22) false (.move (.tmp 2)), .read (some 23) false (.load 27 (.tmp 8)), .pure (some 24) false (.move (.tmp 4)), .call (some 25) false ⟨.value (.func 26), #[.tmp 21, .tmp 22, .tmp 23, .tmp 24], #[3, 3, 27, 22]⟩, .pure (some 20) false (.move (.tmp 25)), .pure (some 26) false (.extract (.tmp 20) 0), .pure (some 27) false (.extract (.tmp 20) 1), .eff (some 11) (.alloc 27), .eff none (.store 27 (.tmp 11) (.tmp 26)), .pure (some 12) false (.assign (.tmp 27))]
abbrev p_ref47_Check_3 : List Nat := [0, 1, 2, 3, 4, 5, 6, 7, 8, 9, 10]
def s_ref47_Check_4 : List AStep := [.pure (some 28) false (.move (.tmp 12)), .pure (some 29) true (.move (.tmp 28)), .guard 29 true (.read (some 30) false (.load 27 (.tmp 11))), .guard 29 true (.read (some 31) false (.load 27 (.tmp 5))), .guard 29 true (.pure (some 32) false (.binOp .eql 27 (.tmp 30) (.tmp 31) 27)), .pure (some 33) false (.pick (.tmp 29) (.tmp 32) (.const (.bool false))), .pure (some 10) false (.assign (.tmp 33))]
abbrev p_ref47_Check_4 : List Nat := [0, 1, 2, 3, 4, 5, 6]

/-! erewhile/merkle.Differ -/
abbrev n_merkle_Differ : Nat := 18
theorem func_merkle_Differ : Try.prog.funcs[n_merkle_Differ]? = some Try.f18 := Try.func18
theorem call_merkle_Differ : ∀ args w, (callFunc n_merkle_Differ args).run Try.prog w = .ok (.enter n_merkle_Differ args) w := Try.call18
theorem nt_merkle_Differ : Try.f18.ntmps = 65 := Try.ntmps18
theorem rs_merkle_Differ : Try.f18.results.toList = [.tmp 4, .tmp 5] := by rw [Try.results18]
def s_merkle_Differ_0 : List AStep := [.pure (some 4) false (.assign (.const (.slice none 0 0))), .pure (some 5) false (.assign (.const (.int .i64 0)))]
abbrev p_merkle_Differ_0 : List Nat := [0, 1]
def s_merkle_Differ_1 : List AStep := [.pure (some 9) false (.move (.tmp 0)), .call (some 10) false ⟨.value (.func 12), #[.tmp 9], #[24]⟩, .pure (some 11) false (.move (.tmp 1)), .call (some 12) false ⟨.value (.func 12), #[.tmp 11], #[24]⟩, .pure (some 13) false (.binOp .eql 3 (.tmp 10) (.tmp 12) 3)]
abbrev p_merkle_Differ_1 : List Nat := [0, 1, 2, 3, 4]
def s_merkle_Differ_2 : List AStep := [.pure (some 14) false (.move (.tmp 0)), .call (some 15) false ⟨.value (.func 12), #[.tmp 14], #[24]⟩, .pure (some 16) false (.binOp .eql 3 (.tmp 15) (.const (.int .i64 0)) 3)]
abbrev p_merkle_Differ_2 : List Nat := [0, 1, 2]
def s_merkle_Differ_4 : List AStep := [.pure (some 17) false (.move (.tmp 0)), .call (some 18) false ⟨.value (.func 20), #[.tmp 17], #[24]⟩, .pure (some 19) false (.move (.tmp 1)), .call (some 20) false ⟨.value (.func 20), #[.tmp 19], #[24]⟩, .call (some 21) false ⟨.value (.func 27), #[.tmp 18, .tmp 20, .const (.int .i64 0)], #[28, 28, 3]⟩, .pure (some 22) false (.extract (.tmp 21) 0), .pure (some 23) false (.extract (.tmp 21) 1), .pure (some 4) false (.assign (.tmp 22)), .pure (some 5) false (.assign (.tmp 23))]
abbrev p_merkle_Differ_4 : List Nat := [0, 1, 2, 3, 4, 5, 6, 7, 8]
def s_merkle_Differ_5 : List AStep := [.pure (some 24) false (.move (.tmp 0)), .call (some 25) false ⟨.value (.func 20), #[.tmp 24], #[24]⟩, .call (some 26) false ⟨.value (.func 28), #[.tmp 25], #[28]⟩, .pure (some 27) false (.move (.tmp 1)), .call (some 28) false ⟨.value (.func 20), #[.tmp 27], #[24]⟩, .call (some 29) false ⟨.value (.func 28), #[.tmp 28], #[28]⟩, .pure (some 6) false (.assign (.tmp 26)), .pure (some 7) false (.assign (.tmp 29))]
abbrev p_merkle_Differ_5 : List Nat := [0, 1, 2, 3, 4, 5, 6, 7]
def s_merkle_Differ_6 : List AStep := [.pure (some 30) false (.move (.tmp 6)), .pure (some 31) false (.call (.mk (.builtin .len) #[.tmp 30] #[22])), .pure (some 32) false (.move (.tmp 7)), .pure (some 33) false (.call (.mk (.builtin .len) #[.tmp 32] #[22])), .pure (some 34) false (.call (.mk (.builtin .max) #[.tmp 31, .tmp 33] #[3, 3])), .pure (some 35) false (.move (.const (.int .i64 0)))]
abbrev p_merkle_Differ_6 : List Nat := [0, 1, 2, 3, 4, 5]
def s_merkle_Differ_7 : List AStep := [.pure (some 36) false (.binOp .lss 3 (.tmp 35) (.tmp 34) 3)]
abbrev p_merkle_Differ_7 : List Nat := [0]
def s_merkle_Differ_8 : List AStep := [.pure (some 37) false (.move (.tmp 35)), .pure (some 8) false (.assign (.tmp 37))]
abbrev p_merkle_Differ_8 : List Nat := [0, 1]
def s_merkle_Differ_9 : SP := (.one (.pure (some 38) false (.move (.tmp 8))) (.one (.pure (some 39) false (.move (.tmp 6))) (.one (.pure (some 40) false (.call (.mk (.builtin .len) #[.tmp 39] #[22]))) (.one (.pure (some 41) false (.binOp .geq 3 (.tmp 38) (.tmp 40) 3)) (.one (.pure (some 42) true (.move (.tmp 41))) (.one (.guard 42 false (.pure (some 43) false (.move (.tmp 8)))) (.one (.guard 42 false (.pure (some 44) false (.move (.tmp 7)))) (.one (.guard 42 false (.pure (some 45) false (.call (.mk (.builtin .len) #[.tmp 44] #[22])))) (.one (.guard 42 false (.pure (some 46) false (.binOp .geq 3 (.tmp 43) (.tmp 45) 3))) (.one (.pure (some 47) false (.pick (.tmp 42) (.const (.bool true)) (.tmp 46))) (.one (.pure (some 48) true (.move (.tmp 47))) (.one (.guard 48 false (.pure (some 49) false (.move (.tmp 6)))) (.one (.guard 48 false (.pure (some 50) false (.move (.tmp 8)))) (.one (.guard 48 false (.pure (some 51) false (.indexAddr 22 (.tmp 49) (.tmp 50)))) (.one (.guard 48 false (.pure (some 53) false (.move (.tmp 7)))) (.one (.guard 48 false (.pure (some 54) false (.move (.tmp 8)))) (.one (.guard 48 false (.pure (some 55) false (.indexAddr 22 (.tmp 53) (.tmp 54)))) (.one (.guard 48 false (.read (some 52) false (.load 27 (.tmp 51)))) (.one (.guard 48 false (.read (some 56) false (.load 27 (.tmp 55)))) (.one (.guard 48 false (.pure (some 57) false (.binOp .neq 27 (.tmp 52) (.tmp 56) 27))) (.one (.pure (some 58) false (.pick (.tmp 48) (.const (.bool true)) (.tmp 57))) .done)))))))))))))))))))))
abbrev p_merkle_Differ_9 : PC := (.calm 0 2097144 (.calm 1 2097148 (.calm 2 2097144 (.calm 3 2097136 (.calm 4 2097120 (.calm 5 2096896 (.calm 6 2097024 (.calm 7 2096896 (.calm 8 2096640 (.calm 9 2096128 (.calm 10 2095104 (.calm 11 1597440 (.calm 12 1597440 (.calm 13 1589248 (.calm 15 1966080 (.calm 16 1966080 (.calm 17 1835008 (.calm 14 1572864 (.calm 18 1572864 (.calm 19 1048576 (.calm 20 0 .done)))))))))))))))))))))
abbrev g_merkle_Differ_9 : List Dg := [⟨0, 256, 274877906944, .pure, true⟩, ⟨0, 64, 549755813888, .pure, true⟩, ⟨2, 549755813888, 1099511627776, .pure, true⟩, ⟨5, 1374389534720, 2199023255552, .pure, true⟩, ⟨8, 2199023255552, 4398046511104, .pure, true⟩, ⟨16, 4398046511360, 8796093022208, .pure, true⟩, ⟨16, 4398046511232, 17592186044416, .pure, true⟩, ⟨80, 21990232555520, 35184372088832, .pure, true⟩, ⟨176, 48378511622144, 70368744177664, .pure, true⟩, ⟨272, 74766790688768, 140737488355328, .pure, true⟩, ⟨528, 140737488355328, 281474976710656, .pure, true⟩, ⟨1024, 281474976710720, 562949953421312, .pure, true⟩, ⟨1024, 281474976710912, 1125899906842624, .pure, true⟩, ⟨7168, 1970324836974592, 2251799813685248, .pure, true⟩, ⟨9216, 2533274790395904, 4503599627370496, .read, true⟩, ⟨1024, 281474976710784, 9007199254740992, .pure, true⟩, ⟨1024, 281474976710912, 18014398509481984, .pure, true⟩, ⟨99328, 27303072740933632, 36028797018963968, .pure, true⟩, ⟨132096, 36310271995674624, 72057594037927936, .read, true⟩, ⟨279552, 76842668642009088, 144115188075855872, .pure, true⟩, ⟨525312, 144396663052566528, 288230376151711744, .pure, true⟩]
abbrev q_merkle_Differ_9 : List Nat := []
def s_merkle_Differ_10 : List AStep := [.pure (some 59) false (.move (.tmp 4)), .pure (some 60) false (.move (.tmp 8)), .eff (some 61) (.buildSlice 43 1 #[(0, .tmp 60)]), .eff (some 62) (.call (.mk (.builtin .append) #[.tmp 59, .tmp 61] #[43, 43])), .pure (some 4) false (.assign (.tmp 62))]
abbrev p_merkle_Differ_10 : List Nat := [0, 1, 2, 3, 4]
def s_merkle_Differ_11 : List AStep := [.pure (some 63) false (.binOp .add 3 (.tmp 35) (.const (.int .i64 1)) 3), .pure (some 35) false (.move (.tmp 63))]
abbrev p_merkle_Differ_11 : List Nat := [0, 1]
def s_merkle_Differ_12 : List AStep := [.pure (some 64) false (.move (.tmp 4)), .pure (some 4) false (.assign (.tmp 64)), .pure (some 5) false (.assign (.const (.int .i64 0)))]
abbrev p_merkle_Differ_12 : List Nat := [0, 1, 2]

/-! erewhile/merkle.grow -/
abbrev n_merkle_grow : Nat := 19
theorem func_merkle_grow : Try.prog.funcs[n_merkle_grow]? = some Try.f19 := Try.func19
theorem call_merkle_grow : ∀ args w, (callFunc n_merkle_grow args).run Try.prog w = .ok (.enter n_merkle_grow args) w := Try.call19
theorem nt_merkle_grow : Try.f19.ntmps = 41 := Try.ntmps19
theorem rs_merkle_grow : Try.f19.results.toList = [.tmp 2] := by rw [Try.results19]
def s_merkle_grow_0 : List AStep := [.pure (some 2) false (.assign (.const (.pointer none)))]
abbrev p_merkle_grow_0 : List Nat := [0]
def s_merkle_grow_1 : List AStep := [.pure (some 6) false (.move (.tmp 0)), .pure (some 7) false (.call (.mk (.builtin .len) #[.tmp 6] #[22])), .pure (some 8) false (.binOp .eql 3 (.tmp 7) (.const (.int .i64 1)) 3)]
abbrev p_merkle_grow_1 : List Nat := [0, 1, 2]
def s_merkle_grow_2 : List AStep := [.pure (some 9) false (.move (.tmp 0)), .pure (some 10) false (.indexAddr 22 (.tmp 9) (.const (.int .i64 0))), .read (some 11) false (.load 27 (.tmp 10)), .call (some 12) false ⟨.value (.func 29), #[.tmp 11], #[27]⟩, .pure (some 13) false (.build 50 #[(0, .tmp 12), (1, .const (.int .i64 1))]), .eff (some 14) (.box 50 (.tmp 13)), .pure (some 2) false (.assign (.tmp 14))]
abbrev p_merkle_grow_2 : List Nat := [0, 1, 2, 3, 4, 5, 6]
def s_merkle_grow_3 : List AStep := [.pure (some 15) false (.move (.tmp 0)), .pure (some 16) false (.call (.mk (.builtin .len) #[.tmp 15] #[22])), .call (some 17) false ⟨.value (.func 30), #[.tmp 16], #[3]⟩, .pure (some 3) false (.assign (.tmp 17))]
abbrev p_merkle_grow_3 : List Nat := [0, 1, 2, 3]
def s_merkle_grow_4 : SP := (.one (.pure (some 18) false (.move (.tmp 0))) (.one (.pure (some 19) false (.move (.tmp 3))) (.one (.pure (some 20) false (.slice 22 (.tmp 18) none (some (.tmp 19)) none)) (.one (.pure (some 22) false (.move (.tmp 0))) (.one (.pure (some 23) false (.move (.tmp 3))) (.one (.pure (some 24) false (.slice 22 (.tmp 22) (some (.tmp 23)) none none)) (.one (.call (some 21) false ⟨.value (.func 19), #[.tmp 20], #[22]⟩) (.one (.call (some 25) false ⟨.value (.func 19), #[.tmp 24], #[22]⟩) (.one (.pure (some 4) false (.assign (.tmp 21))) (.one (.pure (some 5) false (.assign (.tmp 25))) .done))))))))))
abbrev p_merkle_grow_4 : PC := (.calm 0 908 (.calm 1 908 (.calm 2 904 (.calm 4 960 (.calm 5 960 (.calm 6 896 (.act 3 (.act 7 (.calm 8 512 (.calm 9 0 .done))))))))))
abbrev g_merkle_grow_4 : List Dg := [⟨0, 1, 262144, .pure, true⟩, ⟨0, 8, 524288, .pure, true⟩, ⟨3, 786432, 1048576, .pure, true⟩, ⟨4, 1048576, 2097152, .call, true⟩, ⟨0, 1, 4194304, .pure, true⟩, ⟨0, 8, 8388608, .pure, true⟩, ⟨48, 12582912, 16777216, .pure, true⟩, ⟨72, 16777216, 33554432, .call, true⟩, ⟨143, 2097152, 16, .pure, true⟩, ⟨511, 33554432, 32, .pure, true⟩]
abbrev q_merkle_grow_4 : List Nat := []
def s_merkle_grow_5 : SP := (.one (.pure (some 26) false (.move (.tmp 4))) (.one (.pure (some 27) false (.nilCheck (.tmp 26))) (.one (.pure (some 28) false (.fieldAddr 50 (.tmp 27) 0)) (.one (.pure (some 30) false (.move (.tmp 5))) (.one (.pure (some 31) false (.nilCheck (.tmp 30))) (.one (.pure (some 32) false (.fieldAddr 50 (.tmp 31) 0)) (.one (.pure (some 35) false (.move (.tmp 0))) (.one (.pure (some 36) false (.call (.mk (.builtin .len) #[.tmp 35] #[22]))) (.one (.pure (some 37) false (.move (.tmp 4))) (.one (.pure (some 38) false (.move (.tmp 5))) (.one (.read (some 29) false (.load 27 (.tmp 28))) (.one (.read (some 33) false (.load 27 (.tmp 32))) (.one (.call (some 34) false ⟨.value (.func 31), #[.tmp 29, .tmp 33], #[27, 27]⟩) (.one (.pure (some 39) false (.build 50 #[(0, .tmp 34), (1, .tmp 36), (2, .tmp 37), (3, .tmp 38)])) (.one (.eff (some 40) (.box 50 (.tmp 39))) (.one (.pure (some 2) false (.assign (.tmp 40))) .done))))))))))))))))
abbrev p_merkle_grow_5 : PC := (.calm 0 57614 (.calm 1 57612 (.calm 2 57608 (.calm 4 57824 (.calm 5 57792 (.calm 6 57728 (.calm 9 58368 (.calm 10 57344 (.calm 11 57344 (.calm 12 57344 (.calm 3 57600 (.calm 7 57600 (.act 8 (.calm 13 49152 (.act 14 (.calm 15 0 .done))))))))))))))))
abbrev g_merkle_grow_5 : List Dg := [⟨0, 16, 67108864, .pure, true⟩, ⟨1, 67108864, 134217728, .pure, true⟩, ⟨2, 134217728, 268435456, .pure, true⟩, ⟨4, 268435456, 536870912, .read, true⟩, ⟨0, 32, 1073741824, .pure, true⟩, ⟨16, 1073741824, 2147483648, .pure, true⟩, ⟨32, 2147483648, 4294967296, .pure, true⟩, ⟨64, 4294967296, 8589934592, .read, true⟩, ⟨136, 9126805504, 17179869184, .call, true⟩, ⟨0, 1, 34359738368, .pure, true⟩, ⟨512, 34359738368, 68719476736, .pure, true⟩, ⟨0, 16, 137438953472, .pure, true⟩, ⟨0, 32, 274877906944, .pure, true⟩, ⟨7424, 498216206336, 549755813888, .pure, true⟩, ⟨8192, 549755813888, 1099511627776, .eff, true⟩, ⟨32767, 1099511627776, 4, .pure, true⟩]
abbrev q_merkle_grow_5 : List Nat := []

/-! (*erewhile/merkle.Tree).root -/
abbrev n_merkle_Tree_root : Nat := 20
theorem func_merkle_Tree_root : Try.prog.funcs[n_merkle_Tree_root]? = some Try.f20 := Try.func20
theorem call_merkle_Tree_root : ∀ args w, (callFunc n_merkle_Tree_root args).run Try.prog w = .ok (.enter n_merkle_Tree_root args) w := Try.call20
theorem nt_merkle_Tree_root : Try.f20.ntmps = 9 := Try.ntmps20
theorem rs_merkle_Tree_root : Try.f20.results.toList = [.tmp 2] := by rw [Try.results20]
def s_merkle_Tree_root_0 : List AStep := [.pure (some 2) false (.assign (.const (.pointer none)))]
abbrev p_merkle_Tree_root_0 : List Nat := [0]
def s_merkle_Tree_root_1 : List AStep := [.pure (some 3) false (.move (.tmp 0)), .pure (some 4) false (.binOp .eql 24 (.tmp 3) (.const (.pointer none)) 24)]
abbrev p_merkle_Tree_root_1 : List Nat := [0, 1]
def s_merkle_Tree_root_3 : List AStep := [.pure (some 5) false (.move (.tmp 0)), .pure (some 6) false (.nilCheck (.tmp 5)), .pure (some 7) false (.fieldAddr 30 (.tmp 6) 0), .read (some 8) false (.load 28 (.tmp 7)), .pure (some 2) false (.assign (.tmp 8))]
abbrev p_merkle_Tree_root_3 : List Nat := [0, 1, 2, 3, 4]

/-! erewhile/erewhileref47.leaf -/
abbrev n_ref47_leaf : Nat := 21
theorem func_ref47_leaf : Try.prog.funcs[n_ref47_leaf]? = some Try.f21 := Try.func21
theorem call_ref47_leaf : ∀ args w, (callFunc n_ref47_leaf args).run Try.prog w = .ok (.enter n_ref47_leaf args) w := Try.call21
theorem nt_ref47_leaf : Try.f21.ntmps = 8 := Try.ntmps21
theorem rs_ref47_leaf : Try.f21.results.toList = [.cell 2 27] := by rw [Try.results21]
def s_ref47_leaf_0 : List AStep := [.eff (some 1) (.box 27 (.tmp 0)), .eff (some 2) (.alloc 27)]
abbrev p_ref47_leaf_0 : List Nat := [0, 1]
def s_ref47_leaf_1 : List AStep := [.pure (some 3) false (.build 27 #[]), .eff (some 4) (.buildSlice 60 1 #[(0, .const (.int .u8 0))]), .pure (some 5) false (.slice 27 (.tmp 1) none none none), .eff (some 6) (.call (.mk (.builtin .append) #[.tmp 4, .tmp 5] #[60, 60])), .call (some 7) false ⟨.value (.func 32), #[.tmp 3, .tmp 6], #[27, 60]⟩, .eff none (.store 27 (.tmp 2) (.tmp 7))]
abbrev p_ref47_leaf_1 : List Nat := [0, 1, 2, 3, 4, 5]

/-! erewhile/erewhileref47.Half -/
abbrev n_ref47_Half : Nat := 22
theorem func_ref47_Half : Try.prog.funcs[n_ref47_Half]? = some Try.f22 := Try.func22
theorem call_ref47_Half : ∀ args w, (callFunc n_ref47_Half args).run Try.prog w = .ok (.enter n_ref47_Half args) w := Try.call22
theorem nt_ref47_Half : Try.f22.ntmps = 6 := Try.ntmps22
theorem rs_ref47_Half : Try.f22.results.toList = [.tmp 2] := by rw [Try.results22]
def s_ref47_Half_0 : List AStep := [.pure (some 2) false (.assign (.const (.int .i64 0)))]
abbrev p_ref47_Half_0 : List Nat := [0]
def s_ref47_Half_1 : List AStep := [.pure (some 3) false (.move (.tmp 0)), .pure (some 4) false (.binOp .add 3 (.tmp 3) (.const (.int .i64 1)) 3), .pure (some 5) false (.binOp .quo 3 (.tmp 4) (.const (.int .i64 2)) 3), .pure (some 2) false (.assign (.tmp 5))]
abbrev p_ref47_Half_1 : List Nat := [0, 1, 2, 3]

/-! erewhile/erewhileref47.Join -/
abbrev n_ref47_Join : Nat := 23
theorem func_ref47_Join : Try.prog.funcs[n_ref47_Join]? = some Try.f23 := Try.func23
theorem call_ref47_Join : ∀ args w, (callFunc n_ref47_Join args).run Try.prog w = .ok (.enter n_ref47_Join args) w := Try.call23
theorem nt_ref47_Join : Try.f23.ntmps = 12 := Try.ntmps23
theorem rs_ref47_Join : Try.f23.results.toList = [.cell 4 27] := by rw [Try.results23]
def s_ref47_Join_0 : List AStep := [.eff (some 2) (.box 27 (.tmp 0)), .eff (some 3) (.box 27 (.tmp 1)), .eff (some 4) (.alloc 27)]
abbrev p_ref47_Join_0 : List Nat := [0, 1, 2]
def s_ref47_Join_1 : SP := (.one (.pure (some 5) false (.build 27 #[])) (.one (.pure (some 7) false (.slice 27 (.tmp 2) none none none)) (.one (.pure (some 9) false (.slice 27 (.tmp 3) none none none)) (.one (.eff (some 6) (.buildSlice 60 1 #[(0, .const (.int .u8 1))])) (.one (.eff (some 8) (.call (.mk (.builtin .append) #[.tmp 6, .tmp 7] #[60, 60]))) (.one (.eff (some 10) (.call (.mk (.builtin .append) #[.tmp 8, .tmp 9] #[60, 60]))) (.one (.call (some 11) false ⟨.value (.func 32), #[.tmp 5, .tmp 10], #[27, 60]⟩) (.one (.eff none (.store 27 (.tmp 4) (.tmp 11))) .done))))))))
abbrev p_ref47_Join_1 : PC := (.calm 0 192 (.calm 2 232 (.calm 4 224 (.act 1 (.act 3 (.act 5 (.act 6 (.act 7 .done))))))))
abbrev g_ref47_Join_1 : List Dg := [⟨0, 0, 32, .pure, true⟩, ⟨0, 0, 64, .eff, true⟩, ⟨0, 4, 128, .pure, true⟩, ⟨6, 192, 256, .eff, false⟩, ⟨0, 8, 512, .pure, true⟩, ⟨24, 768, 1024, .eff, false⟩, ⟨33, 1056, 2048, .call, true⟩, ⟨127, 2064, 0, .eff, false⟩]
abbrev q_ref47_Join_1 : List Nat := []

/-! slices.Reverse[[]erewhile/api.Sum,erewhile/api.Sum] -/
abbrev n_slices_Reverse_api_Sum_api_Sum : Nat := 24
theorem func_slices_Reverse_api_Sum_api_Sum : Try.prog.funcs[n_slices_Reverse_api_Sum_api_Sum]? = some Try.f24 := Try.func24
theorem call_slices_Reverse_api_Sum_api_Sum : ∀ args w, (callFunc n_slices_Reverse_api_Sum_api_Sum args).run Try.prog w = .ok (.enter n_slices_Reverse_api_Sum_api_Sum args) w := Try.call24
theorem nt_slices_Reverse_api_Sum_api_Sum : Try.f24.ntmps = 28 := Try.ntmps24
theorem rs_slices_Reverse_api_Sum_api_Sum : Try.f24.results.toList = [] := by rw [Try.results24]
def s_slices_Reverse_api_Sum_api_Sum_0 : List AStep := [.pure (some 4) false (.move (.tmp 0)), .pure (some 5) false (.call (.mk (.builtin .len) #[.tmp 4] #[22])), .pure (some 6) false (.binOp .sub 3 (.tmp 5) (.const (.int .i64 1)) 3), .pure (some 2) false (.assign (.const (.int .i64 0))), .pure (some 3) false (.assign (.tmp 6))]
abbrev p_slices_Reverse_api_Sum_api_Sum_0 : List Nat := [0, 1, 2, 3, 4]
def s_slices_Reverse_api_Sum_api_Sum_1 : List AStep := [.pure (some 7) false (.move (.tmp 2)), .pure (some 8) false (.move (.tmp 3)), .pure (some 9) false (.binOp .lss 3 (.tmp 7) (.tmp 8) 3)]
abbrev p_slices_Reverse_api_Sum_api_Sum_1 : List Nat := [0, 1, 2]
def s_slices_Reverse_api_Sum_api_Sum_3 : SP := (.one (.pure (some 14) false (.move (.tmp 0))) (.one (.pure (some 15) false (.move (.tmp 2))) (.one (.pure (some 16) false (.move (.tmp 0))) (.one (.pure (some 17) false (.move (.tmp 3))) (.one (.pure (some 18) false (.move (.tmp 0))) (.one (.pure (some 19) false (.move (.tmp 3))) (.one (.pure (some 20) false (.indexAddr 22 (.tmp 18) (.tmp 19))) (.one (.pure (some 22) false (.move (.tmp 0))) (.one (.pure (some 23) false (.move (.tmp 2))) (.one (.pure (some 24) false (.indexAddr 22 (.tmp 22) (.tmp 23))) (.one (.read (some 21) false (.load 27 (.tmp 20))) (.one (.read (some 25) false (.load 27 (.tmp 24))) (.one (.pure (some 26) false (.indexAddr 22 (.tmp 14) (.tmp 15))) (.one (.eff none (.store 27 (.tmp 26) (.tmp 21))) (.one (.pure (some 27) false (.indexAddr 22 (.tmp 16) (.tmp 17))) (.one (.eff none (.store 27 (.tmp 27) (.tmp 25))) .done))))))))))))))))
abbrev p_slices_Reverse_api_Sum_api_Sum_3 : PC := (.calm 0 61440 (.calm 1 61440 (.calm 2 49152 (.calm 3 49152 (.calm 4 61632 (.calm 5 61632 (.calm 6 61568 (.calm 8 64512 (.calm 9 64512 (.calm 10 63488 (.calm 7 61440 (.calm 11 61440 (.calm 12 57344 (.act 13 (.calm 14 32768 (.act 15 .done))))))))))))))))
abbrev g_slices_Reverse_api_Sum_api_Sum_3 : List Dg := [⟨0, 1, 16384, .pure, true⟩, ⟨0, 4, 32768, .pure, true⟩, ⟨0, 1, 65536, .pure, true⟩, ⟨0, 8, 131072, .pure, true⟩, ⟨0, 1, 262144, .pure, true⟩, ⟨0, 8, 524288, .pure, true⟩, ⟨48, 786432, 1048576, .pure, true⟩, ⟨64, 1048576, 2097152, .read, true⟩, ⟨0, 1, 4194304, .pure, true⟩, ⟨0, 4, 8388608, .pure, true⟩, ⟨768, 12582912, 16777216, .pure, true⟩, ⟨1024, 16777216, 33554432, .read, true⟩, ⟨2291, 49152, 67108864, .pure, true⟩, ⟨6387, 69206016, 0, .eff, false⟩, ⟨16383, 196608, 134217728, .pure, true⟩, ⟨32767, 167772160, 0, .eff, false⟩]
abbrev q_slices_Reverse_api_Sum_api_Sum_3 : List Nat := []
def s_slices_Reverse_api_Sum_api_Sum_2 : List AStep := [.pure (some 10) false (.move (.tmp 2)), .pure (some 11) false (.binOp .add 3 (.tmp 10) (.const (.int .i64 1)) 3), .pure (some 12) false (.move (.tmp 3)), .pure (some 13) false (.binOp .sub 3 (.tmp 12) (.const (.int .i64 1)) 3), .pure (some 2) false (.assign (.tmp 11)), .pure (some 3) false (.assign (.tmp 13))]
abbrev p_slices_Reverse_api_Sum_api_Sum_2 : List Nat := [0, 1, 2, 3, 4, 5]

/-! erewhile/merkle.climb -/
abbrev n_merkle_climb : Nat := 25
theorem func_merkle_climb : Try.prog.funcs[n_merkle_climb]? = some Try.f25 := Try.func25
theorem call_merkle_climb : ∀ args w, (callFunc n_merkle_climb args).run Try.prog w = .ok (.enter n_merkle_climb args) w := Try.call25
theorem nt_merkle_climb : Try.f25.ntmps = 72 := Try.ntmps25
theorem rs_merkle_climb : Try.f25.results.toList = [.cell 8 27, .tmp 9] := by rw [Try.results25]
def s_merkle_climb_0 : List AStep := [.eff (some 6) (.box 27 (.tmp 2)), .eff (some 8) (.alloc 27), .pure (some 9) false (.assign (.const (.bool false)))]
abbrev p_merkle_climb_0 : List Nat := [0, 1, 2]
def s_merkle_climb_1 : List AStep := [.pure (some 17) false (.move (.tmp 0)), .pure (some 18) false (.binOp .eql 3 (.tmp 17) (.const (.int .i64 1)) 3)]
abbrev p_merkle_climb_1 : List Nat := [0, 1]
def s_merkle_climb_2 : List AStep := [.read (some 19) false (.load 27 (.tmp 6)), .call (some 20) false ⟨.value (.func 29), #[.tmp 19], #[27]⟩, .pure (some 21) false (.move (.tmp 3)), .pure (some 22) false (.call (.mk (.builtin .len) #[.tmp 21] #[22])), .pure (some 23) false (.binOp .eql 3 (.tmp 22) (.const (.int .i64 0)) 3), .eff none (.store 27 (.tmp 8) (.tmp 20)), .pure (some 9) false (.assign (.tmp 23))]
abbrev p_merkle_climb_2 : List Nat := [0, 1, 2, 3, 4, 5, 6]
def s_merkle_climb_3 : List AStep := [.pure (some 24) false (.move (.tmp 3)), .pure (some 25) false (.call (.mk (.builtin .len) #[.tmp 24] #[22])), .pure (some 26) false (.binOp .eql 3 (.tmp 25) (.const (.int .i64 0)) 3)]
abbrev p_merkle_climb_3 : List Nat := [0, 1, 2]
def s_merkle_climb_4 : List AStep := [.pure (some 27) false (.build 27 #[]), .eff none (.store 27 (.tmp 8) (.tmp 27)), .pure (some 9) false (.assign (.const (.bool false)))]
abbrev p_merkle_climb_4 : List Nat := [0, 1, 2]
def s_merkle_climb_5 : SP := (.one (.pure (some 28) false (.move (.tmp 3))) (.one (.pure (some 29) false (.move (.tmp 3))) (.one (.pure (some 30) false (.call (.mk (.builtin .len) #[.tmp 29] #[22]))) (.one (.pure (some 31) false (.binOp .sub 3 (.tmp 30) (.const (.int .i64 1)) 3)) (.one (.pure (some 32) false (.indexAddr 22 (.tmp 28) (.tmp 31))) (.one (.pure (some 34) false (.move (.tmp 3))) (.one (.pure (some 35) false (.move (.tmp 3))) (.one (.pure (some 36) false (.call (.mk (.builtin .len) #[.tmp 35] #[22]))) (.one (.pure (some 37) false (.binOp .sub 3 (.tmp 36) (.const (.int .i64 1)) 3)) (.one (.pure (some 38) false (.slice 22 (.tmp 34) none (some (.tmp 37)) none)) (.one (.read (some 33) false (.load 27 (.tmp 32))) (.one (.eff (some 10) (.alloc 27)) (.one (.eff none (.store 27 (.tmp 10) (.tmp 33))) (.one (.pure (some 11) false (.assign (.tmp 38))) .done))))))))))))))
abbrev p_merkle_climb_5 : PC := (.calm 0 12336 (.calm 1 12348 (.calm 2 12344 (.calm 3 12336 (.calm 4 12320 (.calm 6 9216 (.calm 7 9984 (.calm 8 9728 (.calm 9 9216 (.calm 10 8192 (.calm 5 12288 (.act 11 (.act 12 (.calm 13 0 .done))))))))))))))
abbrev g_merkle_climb_5 : List Dg := [⟨0, 8, 268435456, .pure, true⟩, ⟨0, 8, 536870912, .pure, true⟩, ⟨2, 536870912, 1073741824, .pure, true⟩, ⟨4, 1073741824, 2147483648, .pure, true⟩, ⟨9, 2415919104, 4294967296, .pure, true⟩, ⟨16, 4294967296, 8589934592, .read, true⟩, ⟨0, 8, 17179869184, .pure, true⟩, ⟨0, 8, 34359738368, .pure, true⟩, ⟨128, 34359738368, 68719476736, .pure, true⟩, ⟨256, 68719476736, 137438953472, .pure, true⟩, ⟨576, 154618822656, 274877906944, .pure, true⟩, ⟨0, 0, 1024, .eff, true⟩, ⟨2111, 8589935616, 0, .eff, false⟩, ⟨8191, 274877906944, 2048, .pure, true⟩]
abbrev q_merkle_climb_5 : List Nat := []
def s_merkle_climb_6 : List AStep := [.pure (some 39) false (.move (.tmp 0)), .call (some 40) false ⟨.value (.func 30), #[.tmp 39], #[3]⟩, .pure (some 12) false (.assign (.tmp 40))]
abbrev p_merkle_climb_6 : List Nat := [0, 1, 2]
def s_merkle_climb_7 : List AStep := [.pure (some 41) false (.move (.tmp 1)), .pure (some 42) false (.move (.tmp 12)), .pure (some 43) false (.binOp .lss 3 (.tmp 41) (.tmp 42) 3)]
abbrev p_merkle_climb_7 : List Nat := [0, 1, 2]
def s_merkle_climb_8 : List AStep := [.pure (some 45) false (.move (.tmp 12)), .pure (some 46) false (.move (.tmp 1)), .read (some 47) false (.load 27 (.tmp 6)), .pure (some 48) false (.move (.tmp 11)), .call (some 49) false ⟨.value (.func 25), #[.tmp 45, .tmp 46, .tmp 47, .tmp 48], #[3, 3, 27, 22]⟩, .pure (some 44) false (.move (.tmp 49)), .pure (some 50) false (.extract (.tmp 44) 0), .pure (some 51) false (.extract (.tmp 44) 1), .eff (some 13) (.alloc 27), .eff none (.store 27 (.tmp 13) (.tmp 50)), .pure (some 14) false (.assign (.tmp 51))]
abbrev p_merkle_climb_8 : List Nat := [0, 1, 2, 3, 4, 5, 6, 7, 8, 9, 10]
def s_merkle_climb_9 : List AStep := [.read (some 52) false (.load 27 (.tmp 13)), .read (some 53) false (.load 27 (.tmp 10)), .call (some 54) false ⟨.value (.func 31), #[.tmp 52, .tmp 53], #[27, 27]⟩, .pure (some 55) false (.move (.tmp 14)), .eff none (.store 27 (.tmp 8) (.tmp 54)), .pure (some 9) false (.assign (.tmp 55))]
abbrev p_merkle_climb_9 : List Nat := [0, 1, 2, 3, 4, 5]
def s_merkle_climb_10 : List AStep := [.pure (some 57) false (.move (.tmp 0)), .pure (some 58) false (.move (.tmp 12)), .pure (some 59) false (.binOp .sub 3 (.tmp 57) (.tmp 58) 3), .pure (some 60) false (.move (.tmp 1)), .pure (some 61) false (.move (.tmp 12)), .pure (some 62) false (.binOp .sub 3 (.tmp 60) (.tmp 61) 3), .read (some 63) false (.load 27 (.tmp 6)), .pure (some 64) false (.move (.tmp 11)), .call (some 65) false ⟨.value (.func 25), #[.tmp 59, .tmp 62, .tmp 63, .tmp 64], #[3, 3, 27, 22]⟩, .pure (some 56) false (.move (.tmp 65)), .pure (some 66) false (.extract (.tmp 56) 0), .pure (some 67) false (.extract (.tmp 56) 1), .eff (some 15) (.alloc 27), .eff none (.store 27 (.tmp 15) (.tmp 66)), .pure (some 16) false (.assign (.tmp 67))]
abbrev p_merkle_climb_10 : List Nat := [0, 1, 2, 3, 4, 5, 6, 7, 8, 9, 10, 11, 12, 13, 14]
def s_merkle_climb_11 : List AStep := [.read (some 68) false (.load 27 (.tmp 10)), .read (some 69) false (.load 27 (.tmp 15)), .call (some 70) false ⟨.value (.func 31), #[.tmp 68, .tmp 69], #[27, 27]⟩, .pure (some 71) false (.move (.tmp 16)), .eff none (.store 27 (.tmp 8) (.tmp 70)), .pure (some 9) false (.assign (.tmp 71))]
abbrev p_merkle_climb_11 : List Nat := [0, 1, 2, 3, 4, 5]

/-! erewhile/erewhileref47.come -/
abbrev n_ref47_come : Nat := 26
theorem func_ref47_come : Try.prog.funcs[n_ref47_come]? = some Try.f26 := Try.func26
theorem call_ref47_come : ∀ args w, (callFunc n_ref47_come args).run Try.prog w = .ok (.enter n_ref47_come args) w := Try.call26
theorem nt_ref47_come : Try.f26.ntmps = 74 := Try.ntmps26
theorem rs_ref47_come : Try.f26.results.toList = [.cell 8 27, .tmp 9] := by rw [Try.results26]
def s_ref47_come_0 : List AStep := [.eff (some 6) (.box 27 (.tmp 2)), .eff (some 8) (.alloc 27), .pure (some 9) false (.assign (.const (.bool false)))]
abbrev p_ref47_come_0 : List Nat := [0, 1, 2]
def s_ref47_come_1 : List AStep := [.pure (some 16) false (.move (.tmp 0)), .pure (some 17) false (.binOp .eql 3 (.tmp 16) (.const (.int .i64 1)) 3)]
abbrev p_ref47_come_1 : List Nat := [0, 1]
def s_ref47_come_2 : List AStep := [.read (some 18) false (.load 27 (.tmp 6)), .call (some 19) false ⟨.value (.func 21), #[.tmp 18], #[27]⟩, .pure (some 20) false (.move (.tmp 3)), .pure (some 21) false (.call (.mk (.builtin .len) #[.tmp 20] #[22])), .pure (some 22) false (.binOp .eql 3 (.tmp 21) (.const (.int .i64 0)) 3), .eff none (.store 27 (.tmp 8) (.tmp 19)), .pure (some 9) false (.assign (.tmp 22))]
abbrev p_ref47_come_2 : List Nat := [0, 1, 2, 3, 4, 5, 6]
def s_ref47_come_3 : List AStep := [.pure (some 23) false (.move (.tmp 3)), .pure (some 24) false (.call (.mk (.builtin .len) #[.tmp 23] #[22])), .pure (some 25) false (.binOp .eql 3 (.tmp 24) (.const (.int .i64 0)) 3)]
abbrev p_ref47_come_3 : List Nat := [0, 1, 2]
def s_ref47_come_4 : List AStep := [.pure (some 26) false (.build 27 #[]), .eff none (.store 27 (.tmp 8) (.tmp 26)), .pure (some 9) false (.assign (.const (.bool false)))]
abbrev p_ref47_come_4 : List Nat := [0, 1, 2]
def s_ref47_come_5 : List AStep := [.pure (some 27) false (.move (.tmp 3)), .pure (some 28) false (.move (.tmp 3)), .pure (some 29) false (.call (.mk (.builtin .len) #[.tmp 28] #[22])), .pure (some 30) false (.binOp .sub 3 (.tmp 29) (.const (.int .i64 1)) 3), .pure (some 31) false (.indexAddr 22 (.tmp 27) (.tmp 30)), .read (some 32) false (.load 27 (.tmp 31)), .eff (some 10) (.alloc 27), .eff none (.store 27 (.tmp 10) (.tmp 32))]
abbrev p_ref47_come_5 : List Nat := [0, 1, 2, 3, 4, 5, 6, 7]
def s_ref47_come_6 : List AStep := [.pure (some 33) false (.move (.tmp 0)), .call (some 34) false ⟨.value (.func 22), #[.tmp 33], #[3]⟩, .pure (some 11) false (.assign (.tmp 34))]
abbrev p_ref47_come_6 : List Nat := [0, 1, 2]
def s_ref47_come_7 : List AStep := [.pure (some 35) false (.move (.tmp 1)), .pure (some 36) false (.move (.tmp 11)), .pure (some 37) false (.binOp .lss 3 (.tmp 35) (.tmp 36) 3)]
abbrev p_ref47_come_7 : List Nat := [0, 1, 2]
def s_ref47_come_8 : SP := (.one (.pure (some 39) false (.move (.tmp 11))) (.one (.pure (some 40) false (.move (.tmp 1))) (.one (.pure (some 42) false (.move (.tmp 3))) (.one (.pure (some 43) false (.move (.tmp 3))) (.one (.pure (some 44) false (.call (.mk (.builtin .len) #[.tmp 43] #[22]))) (.one (.pure (some 45) false (.binOp .sub 3 (.tmp 44) (.const (.int .i64 1)) 3)) (.one (.pure (some 46) false (.slice 22 (.tmp 42) none (some (.tmp 45)) none)) (.one (.read (some 41) false (.load 27 (.tmp 6))) (.two (.call (some 47) false ⟨.value (.func 26), #[.tmp 39, .tmp 40, .tmp 41, .tmp 46], #[3, 3, 27, 22]⟩) (.one (.pure (some 38) false (.move (.tmp 47))) (.one (.pure (some 48) false (.extract (.tmp 38) 0)) (.one (.pure (some 49) false (.extract (.tmp 38) 1)) (.one (.eff (some 12) (.alloc 27)) (.one (.eff none (.store 27 (.tmp 12) (.tmp 48))) (.one (.pure (some 13) false (.assign (.tmp 49))) .done)))))) (.eff (some 12) (.alloc 27)) (.one (.call (some 47) false ⟨.value (.func 26), #[.tmp 39, .tmp 40, .tmp 41, .tmp 46], #[3, 3, 27, 22]⟩) (.one (.pure (some 38) false (.move (.tmp 47))) (.one (.pure (some 48) false (.extract (.tmp 38) 0)) (.one (.pure (some 49) false (.extract (.tmp 38) 1)) (.one (.eff none (.store 27 (.tmp 12) (.tmp 48))) (.one (.pure (some 13) false (.assign (.tmp 49))) .done)))))))))))))))
abbrev p_ref47_come_8 : PC := (.calm 0 28416 (.calm 1 28416 (.calm 3 28544 (.calm 4 28640 (.calm 5 28608 (.calm 6 28544 (.calm 7 28416 (.calm 2 28416 (.fork 8 (.calm 9 27648 (.calm 10 24576 (.calm 11 16384 (.act 12 (.act 13 (.calm 14 0 .done)))))) 12 (.act 8 (.calm 9 27648 (.calm 10 24576 (.calm 11 16384 (.act 13 (.calm 14 0 .done)))))))))))))))
abbrev g_ref47_come_8 : List Dg := [⟨0, 2048, 549755813888, .pure, true⟩, ⟨0, 2, 1099511627776, .pure, true⟩, ⟨0, 64, 2199023255552, .read, true⟩, ⟨0, 8, 4398046511104, .pure, true⟩, ⟨0, 8, 8796093022208, .pure, true⟩, ⟨16, 8796093022208, 17592186044416, .pure, true⟩, ⟨32, 17592186044416, 35184372088832, .pure, true⟩, ⟨72, 39582418599936, 70368744177664, .pure, true⟩, ⟨135, 74217034874880, 140737488355328, .call, true⟩, ⟨256, 140737488355328, 274877906944, .pure, true⟩, ⟨512, 274877906944, 281474976710656, .pure, true⟩, ⟨512, 274877906944, 562949953421312, .pure, true⟩, ⟨0, 0, 4096, .eff, true⟩, ⟨6143, 281474976714752, 0, .eff, false⟩, ⟨16383, 562949953421312, 8192, .pure, true⟩]
abbrev q_ref47_come_8 : List Nat := []
def s_ref47_come_9 : List AStep := [.read (some 50) false (.load 27 (.tmp 12)), .read (some 51) false (.load 27 (.tmp 10)), .call (some 52) false ⟨.value (.func 23), #[.tmp 50, .tmp 51], #[27, 27]⟩, .pure (some 53) false (.move (.tmp 13)), .eff none (.store 27 (.tmp 8) (.tmp 52)), .pure (some 9) false (.assign (.tmp 53))]
abbrev p_ref47_come_9 : List Nat := [0, 1, 2, 3, 4, 5]
def s_ref47_come_10 : SP := (.one (.pure (some 55) false (.move (.tmp 0))) (.one (.pure (some 56) false (.move (.tmp 11))) (.one (.pure (some 57) false (.binOp .sub 3 (.tmp 55) (.tmp 56) 3)) (.one (.pure (some 58) false (.move (.tmp 1))) (.one (.pure (some 59) false (.move (.tmp 11))) (.one (.pure (some 60) false (.binOp .sub 3 (.tmp 58) (.tmp 59) 3)) (.one (.pure (some 62) false (.move (.tmp 3))) (.one (.pure (some 63) false (.move (.tmp 3))) (.one (.pure (some 64) false (.call (.mk (.builtin .len) #[.tmp 63] #[22]))) (.one (.pure (some 65) false (.binOp .sub 3 (.tmp 64) (.const (.int .i64 1)) 3)) (.one (.pure (some 66) false (.slice 22 (.tmp 62) none (some (.tmp 65)) none)) (.one (.read (some 61) false (.load 27 (.tmp 6))) (.two (.call (some 67) false ⟨.value (.func 26), #[.tmp 57, .tmp 60, .tmp 61, .tmp 66], #[3, 3, 27, 22]⟩) (.one (.pure (some 54) false (.move (.tmp 67))) (.one (.pure (some 68) false (.extract (.tmp 54) 0)) (.one (.pure (some 69) false (.extract (.tmp 54) 1)) (.one (.eff (some 14) (.alloc 27)) (.one (.eff none (.store 27 (.tmp 14) (.tmp 68))) (.one (.pure (some 15) false (.assign (.tmp 69))) .done)))))) (.eff (some 14) (.alloc 27)) (.one (.call (some 67) false ⟨.value (.func 26), #[.tmp 57, .tmp 60, .tmp 61, .tmp 66], #[3, 3, 27, 22]⟩) (.one (.pure (some 54) false (.move (.tmp 67))) (.one (.pure (some 68) false (.extract (.tmp 54) 0)) (.one (.pure (some 69) false (.extract (.tmp 54) 1)) (.one (.eff none (.store 27 (.tmp 14) (.tmp 68))) (.one (.pure (some 15) false (.assign (.tmp 69))) .done)))))))))))))))))))
abbrev p_ref47_come_10 : PC := (.calm 0 454660 (.calm 1 454660 (.calm 2 454656 (.calm 3 454688 (.calm 4 454688 (.calm 5 454656 (.calm 7 456704 (.calm 8 458240 (.calm 9 457728 (.calm 10 456704 (.calm 11 454656 (.calm 6 454656 (.fork 12 (.calm 13 442368 (.calm 14 393216 (.calm 15 262144 (.act 16 (.act 17 (.calm 18 0 .done)))))) 16 (.act 12 (.calm 13 442368 (.calm 14 393216 (.calm 15 262144 (.act 17 (.calm 18 0 .done)))))))))))))))))))
abbrev g_ref47_come_10 : List Dg := [⟨0, 1, 36028797018963968, .pure, true⟩, ⟨0, 2048, 72057594037927936, .pure, true⟩, ⟨3, 108086391056891904, 144115188075855872, .pure, true⟩, ⟨0, 2, 288230376151711744, .pure, true⟩, ⟨0, 2048, 576460752303423488, .pure, true⟩, ⟨24, 864691128455135232, 1152921504606846976, .pure, true⟩, ⟨0, 64, 2305843009213693952, .read, true⟩, ⟨0, 8, 4611686018427387904, .pure, true⟩, ⟨0, 8, 9223372036854775808, .pure, true⟩, ⟨256, 9223372036854775808, 18446744073709551616, .pure, true⟩, ⟨512, 18446744073709551616, 36893488147419103232, .pure, true⟩, ⟨1152, 41505174165846491136, 73786976294838206464, .pure, true⟩, ⟨2148, 77389855996734603264, 147573952589676412928, .call, true⟩, ⟨4096, 147573952589676412928, 18014398509481984, .pure, true⟩, ⟨8192, 18014398509481984, 295147905179352825856, .pure, true⟩, ⟨8192, 18014398509481984, 590295810358705651712, .pure, true⟩, ⟨0, 0, 16384, .eff, true⟩, ⟨98303, 295147905179352842240, 0, .eff, false⟩, ⟨262143, 590295810358705651712, 32768, .pure, true⟩]
abbrev q_ref47_come_10 : List Nat := []
def s_ref47_come_11 : List AStep := [.read (some 70) false (.load 27 (.tmp 10)), .read (some 71) false (.load 27 (.tmp 14)), .call (some 72) false ⟨.value (.func 23), #[.tmp 70, .tmp 71], #[27, 27]⟩, .pure (some 73) false (.move (.tmp 15)), .eff none (.store 27 (.tmp 8) (.tmp 72)), .pure (some 9) false (.assign (.tmp 73))]
abbrev p_ref47_come_11 : List Nat := [0, 1, 2, 3, 4, 5]

/-! erewhile/merkle.differ -/
abbrev n_merkle_differ : Nat := 27
theorem func_merkle_differ : Try.prog.funcs[n_merkle_differ]? = some Try.f27 := Try.func27
theorem call_merkle_differ : ∀ args w, (callFunc n_merkle_differ args).run Try.prog w = .ok (.enter n_merkle_differ args) w := Try.call27
theorem nt_merkle_differ : Try.f27.ntmps = 71 := Try.ntmps27
theorem rs_merkle_differ : Try.f27.results.toList = [.tmp 6, .tmp 7] := by rw [Try.results27]
def s_merkle_differ_0 : List AStep := [.pure (some 6) false (.assign (.const (.slice none 0 0))), .pure (some 7) false (.assign (.const (.int .i64 0)))]
abbrev p_merkle_differ_0 : List Nat := [0, 1]
def s_merkle_differ_1 : SP := (.one (.pure (some 13) false (.move (.tmp 0))) (.one (.pure (some 14) false (.nilCheck (.tmp 13))) (.one (.pure (some 15) false (.fieldAddr 50 (.tmp 14) 0)) (.one (.pure (some 17) false (.move (.tmp 1))) (.one (.pure (some 18) false (.nilCheck (.tmp 17))) (.one (.pure (some 19) false (.fieldAddr 50 (.tmp 18) 0)) (.one (.read (some 16) false (.load 27 (.tmp 15))) (.one (.read (some 20) false (.load 27 (.tmp 19))) (.one (.pure (some 21) false (.binOp .eql 27 (.tmp 16) (.tmp 20) 27)) (.one (.pure (some 12) false (.assign (.tmp 21))) .done))))))))))
abbrev p_merkle_differ_1 : PC := (.calm 0 782 (.calm 1 780 (.calm 2 776 (.calm 4 992 (.calm 5 960 (.calm 6 896 (.calm 3 768 (.calm 7 768 (.calm 8 512 (.calm 9 0 .done))))))))))
abbrev g_merkle_differ_1 : List Dg := [⟨0, 1, 8192, .pure, true⟩, ⟨1, 8192, 16384, .pure, true⟩, ⟨2, 16384, 32768, .pure, true⟩, ⟨4, 32768, 65536, .read, true⟩, ⟨0, 2, 131072, .pure, true⟩, ⟨16, 131072, 262144, .pure, true⟩, ⟨32, 262144, 524288, .pure, true⟩, ⟨64, 524288, 1048576, .read, true⟩, ⟨136, 1114112, 2097152, .pure, true⟩, ⟨256, 2097152, 4096, .pure, true⟩]
abbrev q_merkle_differ_1 : List Nat := []
def s_merkle_differ_2 : List AStep := [.pure (some 6) false (.assign (.const (.slice none 0 0))), .pure (some 7) false (.assign (.const (.int .i64 1)))]
abbrev p_merkle_differ_2 : List Nat := [0, 1]
def s_merkle_differ_3 : List AStep := [.pure (some 23) false (.move (.tmp 0)), .pure (some 24) false (.nilCheck (.tmp 23)), .pure (some 25) false (.fieldAddr 50 (.tmp 24) 1), .read (some 26) false (.load 3 (.tmp 25)), .pure (some 27) false (.binOp .eql 3 (.tmp 26) (.const (.int .i64 1)) 3), .pure (some 22) false (.assign (.tmp 27))]
abbrev p_merkle_differ_3 : List Nat := [0, 1, 2, 3, 4, 5]
def s_merkle_differ_4 : List AStep := [.pure (some 28) false (.move (.tmp 2)), .eff (some 29) (.buildSlice 43 1 #[(0, .tmp 28)]), .pure (some 6) false (.assign (.tmp 29)), .pure (some 7) false (.assign (.const (.int .i64 1)))]
abbrev p_merkle_differ_4 : List Nat := [0, 1, 2, 3]
def s_merkle_differ_5 : SP := (.one (.pure (some 31) false (.move (.tmp 0))) (.one (.pure (some 32) false (.nilCheck (.tmp 31))) (.one (.pure (some 33) false (.fieldAddr 50 (.tmp 32) 2)) (.one (.pure (some 35) false (.move (.tmp 1))) (.one (.pure (some 36) false (.nilCheck (.tmp 35))) (.one (.pure (some 37) false (.fieldAddr 50 (.tmp 36) 2)) (.one (.pure (some 39) false (.move (.tmp 2))) (.one (.read (some 34) false (.load 28 (.tmp 33))) (.one (.read (some 38) false (.load 28 (.tmp 37))) (.one (.call (some 40) false ⟨.value (.func 27), #[.tmp 34, .tmp 38, .tmp 39], #[28, 28, 3]⟩) (.one (.pure (some 30) false (.move (.tmp 40))) (.one (.pure (some 41) false (.extract (.tmp 30) 0)) (.one (.pure (some 42) false (.extract (.tmp 30) 1)) (.one (.pure (some 8) false (.assign (.tmp 41))) (.one (.pure (some 9) false (.assign (.tmp 42))) .done)))))))))))))))
abbrev p_merkle_differ_5 : PC := (.calm 0 32270 (.calm 1 32268 (.calm 2 32264 (.calm 4 32480 (.calm 5 32448 (.calm 6 32384 (.calm 8 32256 (.calm 3 32256 (.calm 7 32256 (.act 9 (.calm 10 30720 (.calm 11 24576 (.calm 12 16384 (.calm 13 16384 (.calm 14 0 .done)))))))))))))))
abbrev g_merkle_differ_5 : List Dg := [⟨0, 1, 2147483648, .pure, true⟩, ⟨1, 2147483648, 4294967296, .pure, true⟩, ⟨2, 4294967296, 8589934592, .pure, true⟩, ⟨4, 8589934592, 17179869184, .read, true⟩, ⟨0, 2, 34359738368, .pure, true⟩, ⟨16, 34359738368, 68719476736, .pure, true⟩, ⟨32, 68719476736, 137438953472, .pure, true⟩, ⟨64, 137438953472, 274877906944, .read, true⟩, ⟨0, 4, 549755813888, .pure, true⟩, ⟨392, 841813590016, 1099511627776, .call, true⟩, ⟨512, 1099511627776, 1073741824, .pure, true⟩, ⟨1024, 1073741824, 2199023255552, .pure, true⟩, ⟨1024, 1073741824, 4398046511104, .pure, true⟩, ⟨4095, 2199023255552, 256, .pure, true⟩, ⟨16383, 4398046511104, 512, .pure, true⟩]
abbrev q_merkle_differ_5 : List Nat := []
def s_merkle_differ_6 : SP := (.one (.pure (some 44) false (.move (.tmp 0))) (.one (.pure (some 45) false (.nilCheck (.tmp 44))) (.one (.pure (some 46) false (.fieldAddr 50 (.tmp 45) 3)) (.one (.pure (some 48) false (.move (.tmp 1))) (.one (.pure (some 49) false (.nilCheck (.tmp 48))) (.one (.pure (some 50) false (.fieldAddr 50 (.tmp 49) 3)) (.one (.pure (some 52) false (.move (.tmp 2))) (.one (.pure (some 53) false (.move (.tmp 0))) (.one (.pure (some 54) false (.nilCheck (.tmp 53))) (.one (.pure (some 55) false (.fieldAddr 50 (.tmp 54) 2)) (.one (.read (some 47) false (.load 28 (.tmp 46))) (.one (.read (some 51) false (.load 28 (.tmp 50))) (.one (.read (some 56) false (.load 28 (.tmp 55))) (.one (.pure (some 57) false (.nilCheck (.tmp 56))) (.one (.pure (some 58) false (.fieldAddr 50 (.tmp 57) 1)) (.one (.read (some 59) false (.load 3 (.tmp 58))) (.one (.pure (some 60) false (.binOp .add 3 (.tmp 52) (.tmp 59) 3)) (.one (.call (some 61) false ⟨.value (.func 27), #[.tmp 47, .tmp 51, .tmp 60], #[28, 28, 3]⟩) (.one (.pure (some 43) false (.move (.tmp 61))) (.one (.pure (some 62) false (.extract (.tmp 43) 0)) (.one (.pure (some 63) false (.extract (.tmp 43) 1)) (.one (.pure (some 10) false (.assign (.tmp 62))) (.one (.pure (some 11) false (.assign (.tmp 63))) .done)))))))))))))))))))))))
abbrev p_merkle_differ_6 : PC := (.calm 0 8257550 (.calm 1 8257548 (.calm 2 8257544 (.calm 4 8257760 (.calm 5 8257728 (.calm 6 8257664 (.calm 8 8323072 (.calm 9 8387584 (.calm 10 8386560 (.calm 11 8384512 (.calm 3 8257536 (.calm 7 8257536 (.calm 12 8380416 (.calm 13 8372224 (.calm 14 8355840 (.calm 15 8323072 (.calm 16 8257536 (.act 17 (.calm 18 7864320 (.calm 19 6291456 (.calm 20 4194304 (.calm 21 4194304 (.calm 22 0 .done)))))))))))))))))))))))
abbrev g_merkle_differ_6 : List Dg := [⟨0, 1, 17592186044416, .pure, true⟩, ⟨1, 17592186044416, 35184372088832, .pure, true⟩, ⟨2, 35184372088832, 70368744177664, .pure, true⟩, ⟨4, 70368744177664, 140737488355328, .read, true⟩, ⟨0, 2, 281474976710656, .pure, true⟩, ⟨16, 281474976710656, 562949953421312, .pure, true⟩, ⟨32, 562949953421312, 1125899906842624, .pure, true⟩, ⟨64, 1125899906842624, 2251799813685248, .read, true⟩, ⟨0, 4, 4503599627370496, .pure, true⟩, ⟨0, 1, 9007199254740992, .pure, true⟩, ⟨512, 9007199254740992, 18014398509481984, .pure, true⟩, ⟨1024, 18014398509481984, 36028797018963968, .pure, true⟩, ⟨2048, 36028797018963968, 72057594037927936, .read, true⟩, ⟨4096, 72057594037927936, 144115188075855872, .pure, true⟩, ⟨8192, 144115188075855872, 288230376151711744, .pure, true⟩, ⟨16384, 288230376151711744, 576460752303423488, .read, true⟩, ⟨33024, 580964351930793984, 1152921504606846976, .pure, true⟩, ⟨65672, 1155314041908887552, 2305843009213693952, .call, true⟩, ⟨131072, 2305843009213693952, 8796093022208, .pure, true⟩, ⟨262144, 8796093022208, 4611686018427387904, .pure, true⟩, ⟨262144, 8796093022208, 9223372036854775808, .pure, true⟩, ⟨1048575, 4611686018427387904, 1024, .pure, true⟩, ⟨4194303, 9223372036854775808, 2048, .pure, true⟩]
abbrev q_merkle_differ_6 : List Nat := []
def s_merkle_differ_7 : List AStep := [.pure (some 64) false (.move (.tmp 8)), .pure (some 65) false (.move (.tmp 10)), .eff (some 66) (.call (.mk (.builtin .append) #[.tmp 64, .tmp 65] #[43, 43])), .pure (some 67) false (.move (.tmp 9)), .pure (some 68) false (.move (.tmp 11)), .pure (some 69) false (.binOp .add 3 (.tmp 67) (.tmp 68) 3), .pure (some 70) false (.binOp .add 3 (.tmp 69) (.const (.int .i64 1)) 3), .pure (some 6) false (.assign (.tmp 66)), .pure (some 7) false (.assign (.tmp 70))]
abbrev p_merkle_differ_7 : List Nat := [0, 1, 2, 3, 4, 5, 6, 7, 8]

/-! (*erewhile/merkle.part).leaves -/
abbrev n_merkle_part_leaves : Nat := 28
theorem func_merkle_part_leaves : Try.prog.funcs[n_merkle_part_leaves]? = some Try.f28 := Try.func28
theorem call_merkle_part_leaves : ∀ args w, (callFunc n_merkle_part_leaves args).run Try.prog w = .ok (.enter n_merkle_part_leaves args) w := Try.call28
theorem nt_merkle_part_leaves : Try.f28.ntmps = 28 := Try.ntmps28
theorem rs_merkle_part_leaves : Try.f28.results.toList = [.tmp 2] := by rw [Try.results28]
def s_merkle_part_leaves_0 : List AStep := [.pure (some 2) false (.assign (.const (.slice none 0 0)))]
abbrev p_merkle_part_leaves_0 : List Nat := [0]
def s_merkle_part_leaves_1 : List AStep := [.pure (some 4) false (.move (.tmp 0)), .pure (some 5) false (.binOp .eql 28 (.tmp 4) (.const (.pointer none)) 28), .pure (some 3) false (.assign (.tmp 5))]
abbrev p_merkle_part_leaves_1 : List Nat := [0, 1, 2]
def s_merkle_part_leaves_2 : List AStep := [.pure (some 2) false (.assign (.const (.slice none 0 0)))]
abbrev p_merkle_part_leaves_2 : List Nat := [0]
def s_merkle_part_leaves_3 : List AStep := [.pure (some 7) false (.move (.tmp 0)), .pure (some 8) false (.nilCheck (.tmp 7)), .pure (some 9) false (.fieldAddr 50 (.tmp 8) 1), .read (some 10) false (.load 3 (.tmp 9)), .pure (some 11) false (.binOp .eql 3 (.tmp 10) (.const (.int .i64 1)) 3), .pure (some 6) false (.assign (.tmp 11))]
abbrev p_merkle_part_leaves_3 : List Nat := [0, 1, 2, 3, 4, 5]
def s_merkle_part_leaves_4 : List AStep := [.pure (some 12) false (.move (.tmp 0)), .pure (some 13) false (.nilCheck (.tmp 12)), .pure (some 14) false (.fieldAddr 50 (.tmp 13) 0), .read (some 15) false (.load 27 (.tmp 14)), .eff (some 16) (.buildSlice 22 1 #[(0, .tmp 15)]), .pure (some 2) false (.assign (.tmp 16))]
abbrev p_merkle_part_leaves_4 : List Nat := [0, 1, 2, 3, 4, 5]
def s_merkle_part_leaves_5 : SP := (.one (.pure (some 17) false (.move (.tmp 0))) (.one (.pure (some 18) false (.nilCheck (.tmp 17))) (.one (.pure (some 19) false (.fieldAddr 50 (.tmp 18) 2)) (.one (.pure (some 22) false (.move (.tmp 0))) (.one (.pure (some 23) false (.nilCheck (.tmp 22))) (.one (.pure (some 24) false (.fieldAddr 50 (.tmp 23) 3)) (.one (.read (some 20) false (.load 28 (.tmp 19))) (.one (.read (some 25) false (.load 28 (.tmp 24))) (.one (.call (some 21) false ⟨.value (.func 28), #[.tmp 20], #[28]⟩) (.one (.call (some 26) false ⟨.value (.func 28), #[.tmp 25], #[28]⟩) (.one (.eff (some 27) (.call (.mk (.builtin .append) #[.tmp 21, .tmp 26] #[22, 22]))) (.one (.pure (some 2) false (.assign (.tmp 27))) .done))))))))))))
abbrev p_merkle_part_leaves_5 : PC := (.calm 0 3614 (.calm 1 3612 (.calm 2 3608 (.calm 5 4032 (.calm 6 3968 (.calm 7 3840 (.calm 3 3600 (.calm 8 3584 (.act 4 (.act 9 (.act 10 (.calm 11 0 .done))))))))))))
abbrev g_merkle_part_leaves_5 : List Dg := [⟨0, 1, 131072, .pure, true⟩, ⟨1, 131072, 262144, .pure, true⟩, ⟨2, 262144, 524288, .pure, true⟩, ⟨4, 524288, 1048576, .read, true⟩, ⟨8, 1048576, 2097152, .call, true⟩, ⟨0, 1, 4194304, .pure, true⟩, ⟨32, 4194304, 8388608, .pure, true⟩, ⟨64, 8388608, 16777216, .pure, true⟩, ⟨128, 16777216, 33554432, .read, true⟩, ⟨272, 33554432, 67108864, .call, true⟩, ⟨528, 69206016, 134217728, .eff, false⟩, ⟨2047, 134217728, 4, .pure, true⟩]
abbrev q_merkle_part_leaves_5 : List Nat := []

/-! erewhile/merkle.one -/
abbrev n_merkle_one : Nat := 29
theorem func_merkle_one : Try.prog.funcs[n_merkle_one]? = some Try.f29 := Try.func29
theorem call_merkle_one : ∀ args w, (callFunc n_merkle_one args).run Try.prog w = .ok (.enter n_merkle_one args) w := Try.call29
theorem nt_merkle_one : Try.f29.ntmps = 8 := Try.ntmps29
theorem rs_merkle_one : Try.f29.results.toList = [.cell 2 27] := by rw [Try.results29]
def s_merkle_one_0 : List AStep := [.eff (some 1) (.box 27 (.tmp 0)), .eff (some 2) (.alloc 27)]
abbrev p_merkle_one_0 : List Nat := [0, 1]
def s_merkle_one_1 : List AStep := [.pure (some 3) false (.build 27 #[]), .eff (some 4) (.buildSlice 60 1 #[(0, .const (.int .u8 0))]), .pure (some 5) false (.slice 27 (.tmp 1) none none none), .eff (some 6) (.call (.mk (.builtin .append) #[.tmp 4, .tmp 5] #[60, 60])), .call (some 7) false ⟨.value (.func 33), #[.tmp 3, .tmp 6], #[27, 60]⟩, .eff none (.store 27 (.tmp 2) (.tmp 7))]
abbrev p_merkle_one_1 : List Nat := [0, 1, 2, 3, 4, 5]

/-! erewhile/merkle.cut -/
abbrev n_merkle_cut : Nat := 30
theorem func_merkle_cut : Try.prog.funcs[n_merkle_cut]? = some Try.f30 := Try.func30
theorem call_merkle_cut : ∀ args w, (callFunc n_merkle_cut args).run Try.prog w = .ok (.enter n_merkle_cut args) w := Try.call30
theorem nt_merkle_cut : Try.f30.ntmps = 7 := Try.ntmps30
theorem rs_merkle_cut : Try.f30.results.toList = [.tmp 2] := by rw [Try.results30]
def s_merkle_cut_0 : List AStep := [.pure (some 2) false (.assign (.const (.int .i64 0)))]
abbrev p_merkle_cut_0 : List Nat := [0]
def s_merkle_cut_1 : List AStep := [.pure (some 3) false (.move (.tmp 0)), .pure (some 4) false (.move (.tmp 0)), .pure (some 5) false (.binOp .quo 3 (.tmp 4) (.const (.int .i64 2)) 3), .pure (some 6) false (.binOp .sub 3 (.tmp 3) (.tmp 5) 3), .pure (some 2) false (.assign (.tmp 6))]
abbrev p_merkle_cut_1 : List Nat := [0, 1, 2, 3, 4]

/-! erewhile/merkle.join -/
abbrev n_merkle_join : Nat := 31
theorem func_merkle_join : Try.prog.funcs[n_merkle_join]? = some Try.f31 := Try.func31
theorem call_merkle_join : ∀ args w, (callFunc n_merkle_join args).run Try.prog w = .ok (.enter n_merkle_join args) w := Try.call31
theorem nt_merkle_join : Try.f31.ntmps = 12 := Try.ntmps31
theorem rs_merkle_join : Try.f31.results.toList = [.cell 4 27] := by rw [Try.results31]
def s_merkle_join_0 : List AStep := [.eff (some 2) (.box 27 (.tmp 0)), .eff (some 3) (.box 27 (.tmp 1)), .eff (some 4) (.alloc 27)]
abbrev p_merkle_join_0 : List Nat := [0, 1, 2]
def s_merkle_join_1 : SP := (.one (.pure (some 5) false (.build 27 #[])) (.one (.pure (some 7) false (.slice 27 (.tmp 2) none none none)) (.one (.pure (some 8) false (.slice 27 (.tmp 3) none none none)) (.one (.eff (some 6) (.buildSlice 60 1 #[(0, .const (.int .u8 1))])) (.one (.eff (some 9) (.buildSlice 66 3 #[(0, .tmp 6), (1, .tmp 7), (2, .tmp 8)])) (.one (.call (some 10) false ⟨.value (.func 34), #[.tmp 9], #[66]⟩) (.one (.call (some 11) false ⟨.value (.func 33), #[.tmp 5, .tmp 10], #[27, 60]⟩) (.one (.eff none (.store 27 (.tmp 4) (.tmp 11))) .done))))))))
abbrev p_merkle_join_1 : PC := (.calm 0 192 (.calm 2 240 (.calm 3 240 (.act 1 (.act 4 (.act 5 (.act 6 (.act 7 .done))))))))
abbrev g_merkle_join_1 : List Dg := [⟨0, 0, 32, .pure, true⟩, ⟨0, 0, 64, .eff, true⟩, ⟨0, 4, 128, .pure, true⟩, ⟨0, 8, 256, .pure, true⟩, ⟨14, 448, 512, .eff, true⟩, ⟨16, 512, 1024, .call, true⟩, ⟨33, 1056, 2048, .call, true⟩, ⟨127, 2064, 0, .eff, false⟩]
abbrev q_merkle_join_1 : List Nat := []

/-! erewhile/erewhileref04.Chain -/
abbrev n_ref04_Chain : Nat := 32
theorem func_ref04_Chain : Try.prog.funcs[n_ref04_Chain]? = some Try.f32 := Try.func32
theorem call_ref04_Chain : ∀ args w, (callFunc n_ref04_Chain args).run Try.prog w = .ok (.enter n_ref04_Chain args) w := Try.call32
theorem nt_ref04_Chain : Try.f32.ntmps = 22 := Try.ntmps32
theorem rs_ref04_Chain : Try.f32.results.toList = [.cell 4 27] := by rw [Try.results32]
def s_ref04_Chain_0 : List AStep := [.eff (some 2) (.box 27 (.tmp 0)), .eff (some 4) (.alloc 27)]
abbrev p_ref04_Chain_0 : List Nat := [0, 1]
def s_ref04_Chain_1 : List AStep := [.pure (some 5) false (.assign (.const (.slice none 0 0)))]
abbrev p_ref04_Chain_1 : List Nat := [0]
def s_ref04_Chain_2 : List AStep := [.pure (some 6) false (.assign (.const (.int .i64 0)))]
abbrev p_ref04_Chain_2 : List Nat := [0]
def s_ref04_Chain_3 : List AStep := [.pure (some 7) false (.move (.tmp 6)), .pure (some 8) false (.binOp .lss 3 (.tmp 7) (.const (.int .i64 16)) 3)]
abbrev p_ref04_Chain_3 : List Nat := [0, 1]
def s_ref04_Chain_5 : List AStep := [.pure (some 11) false (.move (.tmp 5)), .pure (some 12) false (.move (.tmp 6)), .pure (some 13) false (.indexAddr 27 (.tmp 2) (.tmp 12)), .read (some 14) false (.load 5 (.tmp 13)), .eff (some 15) (.buildSlice 60 1 #[(0, .tmp 14)]), .eff (some 16) (.call (.mk (.builtin .append) #[.tmp 11, .tmp 15] #[60, 60])), .pure (some 5) false (.assign (.tmp 16))]
abbrev p_ref04_Chain_5 : List Nat := [0, 1, 2, 3, 4, 5, 6]
def s_ref04_Chain_4 : List AStep := [.pure (some 9) false (.move (.tmp 6)), .pure (some 10) false (.binOp .add 3 (.tmp 9) (.const (.int .i64 1)) 3), .pure (some 6) false (.assign (.tmp 10))]
abbrev p_ref04_Chain_4 : List Nat := [0, 1, 2]
def s_ref04_Chain_6 : List AStep := [.pure (some 17) false (.move (.tmp 5)), .pure (some 18) false (.move (.tmp 1)), .eff (some 19) (.call (.mk (.builtin .append) #[.tmp 17, .tmp 18] #[60, 60])), .call (some 20) false ⟨.value (.func 36), #[.tmp 19], #[60]⟩, .call (some 21) false ⟨.value (.func 35), #[.tmp 20], #[64]⟩, .eff none (.store 27 (.tmp 4) (.tmp 21))]
abbrev p_ref04_Chain_6 : List Nat := [0, 1, 2, 3, 4, 5]

/-! erewhile/seal.Chain -/
abbrev n_seal_Chain : Nat := 33
theorem func_seal_Chain : Try.prog.funcs[n_seal_Chain]? = some Try.f33 := Try.func33
theorem call_seal_Chain : ∀ args w, (callFunc n_seal_Chain args).run Try.prog w = .ok (.enter n_seal_Chain args) w := Try.call33
theorem nt_seal_Chain : Try.f33.ntmps = 11 := Try.ntmps33
theorem rs_seal_Chain : Try.f33.results.toList = [.cell 4 27] := by rw [Try.results33]
def s_seal_Chain_0 : List AStep := [.eff (some 2) (.box 27 (.tmp 0)), .eff (some 4) (.alloc 27)]
abbrev p_seal_Chain_0 : List Nat := [0, 1]
def s_seal_Chain_1 : List AStep := [.pure (some 5) false (.slice 27 (.tmp 2) none none none), .pure (some 6) false (.move (.tmp 1)), .eff (some 7) (.buildSlice 66 2 #[(0, .tmp 5), (1, .tmp 6)]), .call (some 8) false ⟨.value (.func 34), #[.tmp 7], #[66]⟩, .call (some 9) false ⟨.value (.func 38), #[.tmp 8], #[60]⟩, .call (some 10) false ⟨.value (.func 37), #[.tmp 9], #[64]⟩, .eff none (.store 27 (.tmp 4) (.tmp 10))]
abbrev p_seal_Chain_1 : List Nat := [0, 1, 2, 3, 4, 5, 6]

/-! slices.Concat[[]byte,byte] -/
abbrev n_slices_Concat_byte_byte : Nat := 34
theorem func_slices_Concat_byte_byte : Try.prog.funcs[n_slices_Concat_byte_byte]? = some Try.f34 := Try.func34
theorem call_slices_Concat_byte_byte : ∀ args w, (callFunc n_slices_Concat_byte_byte args).run Try.prog w = .ok (.enter n_slices_Concat_byte_byte args) w := Try.call34
theorem nt_slices_Concat_byte_byte : Try.f34.ntmps = 36 := Try.ntmps34
theorem rs_slices_Concat_byte_byte : Try.f34.results.toList = [.tmp 2] := by rw [Try.results34]
def s_slices_Concat_byte_byte_0 : List AStep := [.pure (some 2) false (.assign (.const (.slice none 0 0)))]
abbrev p_slices_Concat_byte_byte_0 : List Nat := [0]
def s_slices_Concat_byte_byte_1 : List AStep := [.pure (some 3) false (.assign (.const (.int .i64 0)))]
abbrev p_slices_Concat_byte_byte_1 : List Nat := [0]
def s_slices_Concat_byte_byte_2 : List AStep := [.pure (some 9) false (.move (.tmp 0)), .pure (some 10) false (.call (.mk (.builtin .len) #[.tmp 9] #[66])), .pure (some 11) false (.move (.const (.int .i64 0)))]
abbrev p_slices_Concat_byte_byte_2 : List Nat := [0, 1, 2]
def s_slices_Concat_byte_byte_3 : List AStep := [.pure (some 12) false (.binOp .lss 3 (.tmp 11) (.tmp 10) 3)]
abbrev p_slices_Concat_byte_byte_3 : List Nat := [0]
def s_slices_Concat_byte_byte_4 : List AStep := [.pure (some 13) false (.indexAddr 66 (.tmp 9) (.tmp 11)), .read (some 14) false (.load 60 (.tmp 13)), .pure (some 5) false (.assign (.tmp 14))]
abbrev p_slices_Concat_byte_byte_4 : List Nat := [0, 1, 2]
def s_slices_Concat_byte_byte_5 : List AStep := [.pure (some 15) false (.move (.tmp 3)), .pure (some 16) false (.move (.tmp 5)), .pure (some 17) false (.call (.mk (.builtin .len) #[.tmp 16] #[60])), .pure (some 18) false (.binOp .add 3 (.tmp 15) (.tmp 17) 3), .pure (some 3) false (.assign (.tmp 18))]
abbrev p_slices_Concat_byte_byte_5 : List Nat := [0, 1, 2, 3, 4]
def s_slices_Concat_byte_byte_6 : List AStep := [.pure (some 19) false (.move (.tmp 3)), .pure (some 20) false (.binOp .lss 3 (.tmp 19) (.const (.int .i64 0)) 3)]
abbrev p_slices_Concat_byte_byte_6 : List Nat := [0, 1]
def s_slices_Concat_byte_byte_8 : List AStep := [.pure (some 22) false (.binOp .add 3 (.tmp 11) (.const (.int .i64 1)) 3), .pure (some 11) false (.move (.tmp 22))]
abbrev p_slices_Concat_byte_byte_8 : List Nat := [0, 1]
def s_slices_Concat_byte_byte_9 : List AStep := [.pure (some 23) false (.move (.tmp 3)), .call (some 24) false ⟨.value (.func 39), #[.const (.slice none 0 0), .tmp 23], #[60, 3]⟩, .pure (some 6) false (.assign (.tmp 24))]
abbrev p_slices_Concat_byte_byte_9 : List Nat := [0, 1, 2]
def s_slices_Concat_byte_byte_10 : List AStep := [.pure (some 25) false (.move (.tmp 0)), .pure (some 26) false (.call (.mk (.builtin .len) #[.tmp 25] #[66])), .pure (some 27) false (.move (.const (.int .i64 0)))]
abbrev p_slices_Concat_byte_byte_10 : List Nat := [0, 1, 2]
def s_slices_Concat_byte_byte_11 : List AStep := [.pure (some 28) false (.binOp .lss 3 (.tmp 27) (.tmp 26) 3)]
abbrev p_slices_Concat_byte_byte_11 : List Nat := [0]
def s_slices_Concat_byte_byte_12 : List AStep := [.pure (some 29) false (.indexAddr 66 (.tmp 25) (.tmp 27)), .read (some 30) false (.load 60 (.tmp 29)), .pure (some 8) false (.assign (.tmp 30))]
abbrev p_slices_Concat_byte_byte_12 : List Nat := [0, 1, 2]
def s_slices_Concat_byte_byte_13 : List AStep := [.pure (some 31) false (.move (.tmp 6)), .pure (some 32) false (.move (.tmp 8)), .eff (some 33) (.call (.mk (.builtin .append) #[.tmp 31, .tmp 32] #[60, 60])), .pure (some 6) false (.assign (.tmp 33))]
abbrev p_slices_Concat_byte_byte_13 : List Nat := [0, 1, 2, 3]
def s_slices_Concat_byte_byte_14 : List AStep := [.pure (some 34) false (.binOp .add 3 (.tmp 27) (.const (.int .i64 1)) 3), .pure (some 27) false (.move (.tmp 34))]
abbrev p_slices_Concat_byte_byte_14 : List Nat := [0, 1]
def s_slices_Concat_byte_byte_15 : List AStep := [.pure (some 35) false (.move (.tmp 6)), .pure (some 2) false (.assign (.tmp 35))]
abbrev p_slices_Concat_byte_byte_15 : List Nat := [0, 1]

/-! erewhile/erewhileref04.first -/
abbrev n_ref04_first : Nat := 35
theorem func_ref04_first : Try.prog.funcs[n_ref04_first]? = some Try.f35 := Try.func35
theorem call_ref04_first : ∀ args w, (callFunc n_ref04_first args).run Try.prog w = .ok (.enter n_ref04_first args) w := Try.call35
theorem nt_ref04_first : Try.f35.ntmps = 16 := Try.ntmps35
theorem rs_ref04_first : Try.f35.results.toList = [.cell 2 27] := by rw [Try.results35]
def s_ref04_first_0 : List AStep := [.eff (some 1) (.box 64 (.tmp 0)), .eff (some 2) (.alloc 27)]
abbrev p_ref04_first_0 : List Nat := [0, 1]
def s_ref04_first_1 : List AStep := [.pure (some 5) false (.build 27 #[]), .eff (some 3) (.alloc 27), .eff none (.store 27 (.tmp 3) (.tmp 5))]
abbrev p_ref04_first_1 : List Nat := [0, 1, 2]
def s_ref04_first_2 : List AStep := [.pure (some 4) false (.assign (.const (.int .i64 0)))]
abbrev p_ref04_first_2 : List Nat := [0]
def s_ref04_first_3 : List AStep := [.pure (some 6) false (.move (.tmp 4)), .pure (some 7) false (.binOp .lss 3 (.tmp 6) (.const (.int .i64 16)) 3)]
abbrev p_ref04_first_3 : List Nat := [0, 1]
def s_ref04_first_5 : List AStep := [.pure (some 10) false (.move (.tmp 4)), .pure (some 11) false (.move (.tmp 4)), .pure (some 12) false (.indexAddr 64 (.tmp 1) (.tmp 11)), .read (some 13) false (.load 5 (.tmp 12)), .pure (some 14) false (.indexAddr 27 (.tmp 3) (.tmp 10)), .eff none (.store 5 (.tmp 14) (.tmp 13))]
abbrev p_ref04_first_5 : List Nat := [0, 1, 2, 3, 4, 5]
def s_ref04_first_4 : List AStep := [.pure (some 8) false (.move (.tmp 4)), .pure (some 9) false (.binOp .add 3 (.tmp 8) (.const (.int .i64 1)) 3), .pure (some 4) false (.assign (.tmp 9))]
abbrev p_ref04_first_4 : List Nat := [0, 1, 2]
def s_ref04_first_6 : List AStep := [.read (some 15) false (.load 27 (.tmp 3)), .eff none (.store 27 (.tmp 2) (.tmp 15))]
abbrev p_ref04_first_6 : List Nat := [0, 1]

/-! erewhile/erewhileref03.Sum -/
abbrev n_ref03_Sum : Nat := 36
theorem func_ref03_Sum : Try.prog.funcs[n_ref03_Sum]? = some Try.f36 := Try.func36
theorem call_ref03_Sum : ∀ args w, (callFunc n_ref03_Sum args).run Try.prog w = .ok (.enter n_ref03_Sum args) w := Try.call36
theorem nt_ref03_Sum : Try.f36.ntmps = 54 := Try.ntmps36
theorem rs_ref03_Sum : Try.f36.results.toList = [.cell 2 64] := by rw [Try.results36]
def s_ref03_Sum_0 : List AStep := [.eff (some 2) (.alloc 64)]
abbrev p_ref03_Sum_0 : List Nat := [0]
def s_ref03_Sum_1 : List AStep := [.call (some 11) false ⟨.value (.func 40), #[], #[]⟩, .eff (some 3) (.alloc 69), .eff none (.store 69 (.tmp 3) (.tmp 11))]
abbrev p_ref03_Sum_1 : List Nat := [0, 1, 2]
def s_ref03_Sum_2 : List AStep := [.pure (some 12) false (.move (.tmp 0)), .call (some 13) false ⟨.value (.func 41), #[.tmp 12], #[60]⟩, .pure (some 4) false (.assign (.tmp 13))]
abbrev p_ref03_Sum_2 : List Nat := [0, 1, 2]
def s_ref03_Sum_3 : List AStep := [.pure (some 5) false (.assign (.const (.int .i64 0)))]
abbrev p_ref03_Sum_3 : List Nat := [0]
def s_ref03_Sum_4 : List AStep := [.pure (some 14) false (.move (.tmp 5)), .pure (some 15) false (.move (.tmp 4)), .pure (some 16) false (.call (.mk (.builtin .len) #[.tmp 15] #[60])), .pure (some 17) false (.binOp .lss 3 (.tmp 14) (.tmp 16) 3)]
abbrev p_ref03_Sum_4 : List Nat := [0, 1, 2, 3]
def s_ref03_Sum_6 : List AStep := [.pure (some 20) false (.build 72 #[]), .eff (some 6) (.alloc 72), .eff none (.store 72 (.tmp 6) (.tmp 20))]
abbrev p_ref03_Sum_6 : List Nat := [0, 1, 2]
def s_ref03_Sum_7 : SP := (.one (.pure (some 21) false (.slice 72 (.tmp 6) none none none)) (.one (.pure (some 22) false (.move (.tmp 4))) (.one (.pure (some 23) false (.move (.tmp 5))) (.one (.pure (some 24) false (.move (.tmp 5))) (.one (.pure (some 25) false (.binOp .add 3 (.tmp 24) (.const (.int .i64 64)) 3)) (.one (.pure (some 26) false (.slice 60 (.tmp 22) (some (.tmp 23)) (some (.tmp 25)) none)) (.one (.eff (some 27) (.call (.mk (.builtin .copy) #[.tmp 21, .tmp 26] #[60, 60]))) .done)))))))
abbrev p_ref03_Sum_7 : PC := (.calm 0 64 (.calm 1 96 (.calm 2 96 (.calm 3 112 (.calm 4 96 (.calm 5 64 (.act 6 .done)))))))
abbrev g_ref03_Sum_7 : List Dg := [⟨0, 64, 2097152, .pure, true⟩, ⟨0, 16, 4194304, .pure, true⟩, ⟨0, 32, 8388608, .pure, true⟩, ⟨0, 32, 16777216, .pure, true⟩, ⟨8, 16777216, 33554432, .pure, true⟩, ⟨22, 46137344, 67108864, .pure, true⟩, ⟨33, 69206016, 134217728, .eff, false⟩]
abbrev q_ref03_Sum_7 : List Nat := []
def s_ref03_Sum_8 : List AStep := [.read (some 28) false (.load 69 (.tmp 3)), .read (some 29) false (.load 72 (.tmp 6)), .call (some 30) false ⟨.value (.func 42), #[.tmp 28, .tmp 29], #[69, 72]⟩, .eff none (.store 69 (.tmp 3) (.tmp 30))]
abbrev p_ref03_Sum_8 : List Nat := [0, 1, 2, 3]
def s_ref03_Sum_5 : List AStep := [.pure (some 18) false (.move (.tmp 5)), .pure (some 19) false (.binOp .add 3 (.tmp 18) (.const (.int .i64 64)) 3), .pure (some 5) false (.assign (.tmp 19))]
abbrev p_ref03_Sum_5 : List Nat := [0, 1, 2]
def s_ref03_Sum_9 : List AStep := [.pure (some 31) false (.build 64 #[]), .eff (some 7) (.alloc 64), .eff none (.store 64 (.tmp 7) (.tmp 31))]
abbrev p_ref03_Sum_9 : List Nat := [0, 1, 2]
def s_ref03_Sum_10 : List AStep := [.pure (some 8) false (.assign (.const (.int .i64 0)))]
abbrev p_ref03_Sum_10 : List Nat := [0]
def s_ref03_Sum_11 : List AStep := [.pure (some 32) false (.move (.tmp 8)), .pure (some 33) false (.binOp .lss 3 (.tmp 32) (.const (.int .i64 8)) 3)]
abbrev p_ref03_Sum_11 : List Nat := [0, 1]
def s_ref03_Sum_13 : List AStep := [.pure (some 36) false (.move (.tmp 8)), .pure (some 37) false (.indexAddr 69 (.tmp 3) (.tmp 36)), .read (some 38) false (.load 68 (.tmp 37)), .pure (some 9) false (.assign (.tmp 38))]
abbrev p_ref03_Sum_13 : List Nat := [0, 1, 2, 3]
def s_ref03_Sum_14 : List AStep := [.pure (some 10) false (.assign (.const (.int .i64 3)))]
abbrev p_ref03_Sum_14 : List Nat := [0]
def s_ref03_Sum_15 : List AStep := [.pure (some 39) false (.move (.tmp 10)), .pure (some 40) false (.binOp .geq 3 (.tmp 39) (.const (.int .i64 0)) 3)]
abbrev p_ref03_Sum_15 : List Nat := [0, 1]
def s_ref03_Sum_17 : List AStep := [.pure (some 43) false (.move (.tmp 8)), .pure (some 44) false (.binOp .mul 3 (.const (.int .i64 4)) (.tmp 43) 3), .pure (some 45) false (.move (.tmp 10)), .pure (some 46) false (.binOp .add 3 (.tmp 44) (.tmp 45) 3), .pure (some 47) false (.move (.tmp 9)), .pure (some 48) false (.binOp .rem 68 (.tmp 47) (.const (.int .u32 256)) 68), .pure (some 49) false (.convert 68 5 (.tmp 48)), .pure (some 50) false (.indexAddr 64 (.tmp 7) (.tmp 46)), .eff none (.store 5 (.tmp 50) (.tmp 49))]
abbrev p_ref03_Sum_17 : List Nat := [0, 1, 2, 3, 4, 5, 6, 7, 8]
def s_ref03_Sum_18 : List AStep := [.pure (some 51) false (.move (.tmp 9)), .pure (some 52) false (.binOp .quo 68 (.tmp 51) (.const (.int .u32 256)) 68), .pure (some 9) false (.assign (.tmp 52))]
abbrev p_ref03_Sum_18 : List Nat := [0, 1, 2]
def s_ref03_Sum_16 : List AStep := [.pure (some 41) false (.move (.tmp 10)), .pure (some 42) false (.binOp .sub 3 (.tmp 41) (.const (.int .i64 1)) 3), .pure (some 10) false (.assign (.tmp 42))]
abbrev p_ref03_Sum_16 : List Nat := [0, 1, 2]
def s_ref03_Sum_12 : List AStep := [.pure (some 34) false (.move (.tmp 8)), .pure (some 35) false (.binOp .add 3 (.tmp 34) (.const (.int .i64 1)) 3), .pure (some 8) false (.assign (.tmp 35))]
abbrev p_ref03_Sum_12 : List Nat := [0, 1, 2]
def s_ref03_Sum_19 : List AStep := [.read (some 53) false (.load 64 (.tmp 7)), .eff none (.store 64 (.tmp 2) (.tmp 53))]
abbrev p_ref03_Sum_19 : List Nat := [0, 1]

/-! erewhile/seal.half -/
abbrev n_seal_half : Nat := 37
theorem func_seal_half : Try.prog.funcs[n_seal_half]? = some Try.f37 := Try.func37
theorem call_seal_half : ∀ args w, (callFunc n_seal_half args).run Try.prog w = .ok (.enter n_seal_half args) w := Try.call37
theorem nt_seal_half : Try.f37.ntmps = 6 := Try.ntmps37
theorem rs_seal_half : Try.f37.results.toList = [.cell 2 27] := by rw [Try.results37]
def s_seal_half_0 : List AStep := [.eff (some 1) (.box 64 (.tmp 0)), .eff (some 2) (.alloc 27)]
abbrev p_seal_half_0 : List Nat := [0, 1]
def s_seal_half_1 : List AStep := [.pure (some 3) false (.slice 64 (.tmp 1) none (some (.const (.int .i64 16))) none), .pure (some 4) false (.sliceToArrayPointer 27 (.tmp 3)), .read (some 5) false (.load 27 (.tmp 4)), .eff none (.store 27 (.tmp 2) (.tmp 5))]
abbrev p_seal_half_1 : List Nat := [0, 1, 2, 3]

/-! erewhile/sha.Sum -/
abbrev n_sha_Sum : Nat := 38
theorem func_sha_Sum : Try.prog.funcs[n_sha_Sum]? = some Try.f38 := Try.func38
theorem call_sha_Sum : ∀ args w, (callFunc n_sha_Sum args).run Try.prog w = .ok (.enter n_sha_Sum args) w := Try.call38
theorem nt_sha_Sum : Try.f38.ntmps = 38 := Try.ntmps38
theorem rs_sha_Sum : Try.f38.results.toList = [.cell 2 64] := by rw [Try.results38]
def s_sha_Sum_0 : List AStep := [.eff (some 2) (.alloc 64)]
abbrev p_sha_Sum_0 : List Nat := [0]
def s_sha_Sum_1 : List AStep := [.call (some 7) false ⟨.value (.func 43), #[], #[]⟩, .eff (some 3) (.alloc 69), .eff none (.store 69 (.tmp 3) (.tmp 7))]
abbrev p_sha_Sum_1 : List Nat := [0, 1, 2]
def s_sha_Sum_2 : List AStep := [.pure (some 8) false (.move (.tmp 0)), .call (some 9) false ⟨.value (.func 44), #[.tmp 8], #[60]⟩, .pure (some 4) false (.assign (.tmp 9))]
abbrev p_sha_Sum_2 : List Nat := [0, 1, 2]
def s_sha_Sum_3 : List AStep := [.pure (some 10) false (.move (.tmp 4)), .pure (some 11) false (.call (.mk (.builtin .len) #[.tmp 10] #[60])), .pure (some 12) false (.binOp .gtr 3 (.tmp 11) (.const (.int .i64 0)) 3)]
abbrev p_sha_Sum_3 : List Nat := [0, 1, 2]
def s_sha_Sum_5 : SP := (.one (.pure (some 16) false (.move (.tmp 4))) (.one (.pure (some 17) false (.slice 60 (.tmp 16) none (some (.const (.int .i64 64))) none)) (.one (.pure (some 18) false (.sliceToArrayPointer 72 (.tmp 17))) (.one (.read (some 15) false (.load 69 (.tmp 3))) (.one (.read (some 19) false (.load 72 (.tmp 18))) (.one (.call (some 20) false ⟨.value (.func 45), #[.tmp 15, .tmp 19], #[69, 72]⟩) (.one (.eff none (.store 69 (.tmp 3) (.tmp 20))) .done)))))))
abbrev p_sha_Sum_5 : PC := (.calm 1 124 (.calm 2 120 (.calm 3 112 (.calm 0 96 (.calm 4 96 (.act 5 (.act 6 .done)))))))
abbrev g_sha_Sum_5 : List Dg := [⟨0, 8, 32768, .read, true⟩, ⟨0, 16, 65536, .pure, true⟩, ⟨2, 65536, 131072, .pure, true⟩, ⟨4, 131072, 262144, .pure, true⟩, ⟨8, 262144, 524288, .read, true⟩, ⟨17, 557056, 1048576, .call, true⟩, ⟨63, 1048584, 0, .eff, false⟩]
abbrev q_sha_Sum_5 : List Nat := []
def s_sha_Sum_4 : List AStep := [.pure (some 13) false (.move (.tmp 4)), .pure (some 14) false (.slice 60 (.tmp 13) (some (.const (.int .i64 64))) none none), .pure (some 4) false (.assign (.tmp 14))]
abbrev p_sha_Sum_4 : List Nat := [0, 1, 2]
def s_sha_Sum_6 : List AStep := [.eff (some 5) (.alloc 64)]
abbrev p_sha_Sum_6 : List Nat := [0]
def s_sha_Sum_7 : List AStep := [.pure (some 21) false (.move (.const (.int .i64 0)))]
abbrev p_sha_Sum_7 : List Nat := [0]
def s_sha_Sum_8 : List AStep := [.pure (some 22) false (.binOp .lss 3 (.tmp 21) (.const (.int .i64 32)) 3)]
abbrev p_sha_Sum_8 : List Nat := [0]
def s_sha_Sum_9 : List AStep := [.pure (some 23) false (.move (.tmp 21)), .pure (some 6) false (.assign (.tmp 23))]
abbrev p_sha_Sum_9 : List Nat := [0, 1]
def s_sha_Sum_10 : List AStep := [.pure (some 24) false (.move (.tmp 6)), .pure (some 25) false (.move (.tmp 6)), .pure (some 26) false (.binOp .quo 3 (.tmp 25) (.const (.int .i64 4)) 3), .pure (some 27) false (.indexAddr 69 (.tmp 3) (.tmp 26)), .read (some 28) false (.load 68 (.tmp 27)), .pure (some 29) false (.move (.tmp 6)), .pure (some 30) false (.binOp .rem 3 (.tmp 29) (.const (.int .i64 4)) 3), .pure (some 31) false (.binOp .mul 3 (.const (.int .i64 8)) (.tmp 30) 3), .pure (some 32) false (.binOp .sub 3 (.const (.int .i64 24)) (.tmp 31) 3), .pure (some 33) false (.binOp .shr 68 (.tmp 28) (.tmp 32) 3), .pure (some 34) false (.convert 68 5 (.tmp 33)), .pure (some 35) false (.indexAddr 64 (.tmp 5) (.tmp 24)), .eff none (.store 5 (.tmp 35) (.tmp 34))]
abbrev p_sha_Sum_10 : List Nat := [0, 1, 2, 3, 4, 5, 6, 7, 8, 9, 10, 11, 12]
def s_sha_Sum_11 : List AStep := [.pure (some 36) false (.binOp .add 3 (.tmp 21) (.const (.int .i64 1)) 3), .pure (some 21) false (.move (.tmp 36))]
abbrev p_sha_Sum_11 : List Nat := [0, 1]
def s_sha_Sum_12 : List AStep := [.read (some 37) false (.load 64 (.tmp 5)), .eff none (.store 64 (.tmp 2) (.tmp 37))]
abbrev p_sha_Sum_12 : List Nat := [0, 1]

/-! slices.Grow[[]byte,byte] -/
abbrev n_slices_Grow_byte_byte : Nat := 39
theorem func_slices_Grow_byte_byte : Try.prog.funcs[n_slices_Grow_byte_byte]? = some Try.f39 := Try.func39
theorem call_slices_Grow_byte_byte : ∀ args w, (callFunc n_slices_Grow_byte_byte args).run Try.prog w = .ok (.enter n_slices_Grow_byte_byte args) w := Try.call39
theorem nt_slices_Grow_byte_byte : Try.f39.ntmps = 27 := Try.ntmps39
theorem rs_slices_Grow_byte_byte : Try.f39.results.toList = [.tmp 4] := by rw [Try.results39]
def s_slices_Grow_byte_byte_0 : List AStep := [.pure (some 4) false (.assign (.const (.slice none 0 0)))]
abbrev p_slices_Grow_byte_byte_0 : List Nat := [0]
def s_slices_Grow_byte_byte_1 : List AStep := [.pure (some 5) false (.move (.tmp 1)), .pure (some 6) false (.binOp .lss 3 (.tmp 5) (.const (.int .i64 0)) 3)]
abbrev p_slices_Grow_byte_byte_1 : List Nat := [0, 1]
def s_slices_Grow_byte_byte_3 : List AStep := [.pure (some 8) false (.move (.tmp 1)), .pure (some 9) false (.move (.tmp 0)), .pure (some 10) false (.call (.mk (.builtin .cap) #[.tmp 9] #[60])), .pure (some 11) false (.move (.tmp 0)), .pure (some 12) false (.call (.mk (.builtin .len) #[.tmp 11] #[60])), .pure (some 13) false (.binOp .sub 3 (.tmp 10) (.tmp 12) 3), .pure (some 14) false (.binOp .sub 3 (.tmp 8) (.tmp 13) 3), .pure (some 1) false (.assign (.tmp 14))]
abbrev p_slices_Grow_byte_byte_3 : List Nat := [0, 1, 2, 3, 4, 5, 6, 7]
def s_slices_Grow_byte_byte_4 : List AStep := [.pure (some 15) false (.move (.tmp 1)), .pure (some 16) false (.binOp .gtr 3 (.tmp 15) (.const (.int .i64 0)) 3)]
abbrev p_slices_Grow_byte_byte_4 : List Nat := [0, 1]
def s_slices_Grow_byte_byte_5 : List AStep := [.pure (some 17) false (.move (.tmp 0)), .pure (some 18) false (.move (.tmp 0)), .pure (some 19) false (.call (.mk (.builtin .cap) #[.tmp 18] #[60])), .pure (some 20) false (.slice 60 (.tmp 17) none (some (.tmp 19)) none), .pure (some 21) false (.move (.tmp 1)), .eff (some 22) (.call (.mk (.builtin .append) #[.tmp 20, .tmp 21] #[60, 3])), .pure (some 23) false (.move (.tmp 0)), .pure (some 24) false (.call (.mk (.builtin .len) #[.tmp 23] #[60])), .pure (some 25) false (.slice 60 (.tmp 22) none (some (.tmp 24)) none), .pure (some 0) false (.assign (.tmp 25))]
abbrev p_slices_Grow_byte_byte_5 : List Nat := [0, 1, 2, 3, 4, 5, 6, 7, 8, 9]
def s_slices_Grow_byte_byte_6 : List AStep := [.pure (some 26) false (.move (.tmp 0)), .pure (some 4) false (.assign (.tmp 26))]
abbrev p_slices_Grow_byte_byte_6 : List Nat := [0, 1]

/-! erewhile/erewhileref03.First -/
abbrev n_ref03_First : Nat := 40
theorem func_ref03_First : Try.prog.funcs[n_ref03_First]? = some Try.f40 := Try.func40
theorem call_ref03_First : ∀ args w, (callFunc n_ref03_First args).run Try.prog w = .ok (.enter n_ref03_First args) w := Try.call40
theorem nt_ref03_First : Try.f40.ntmps = 18 := Try.ntmps40
theorem rs_ref03_First : Try.f40.results.toList = [.cell 0 69] := by rw [Try.results40]
def s_ref03_First_0 : List AStep := [.eff (some 0) (.alloc 69)]
abbrev p_ref03_First_0 : List Nat := [0]
def s_ref03_First_1 : List AStep := [.pure (some 4) false (.build 69 #[]), .eff (some 1) (.alloc 69), .eff none (.store 69 (.tmp 1) (.tmp 4))]
abbrev p_ref03_First_1 : List Nat := [0, 1, 2]
def s_ref03_First_2 : List AStep := [.call (some 5) false ⟨.value (.func 46), #[.const (.int .i64 8)], #[3]⟩, .pure (some 2) false (.assign (.tmp 5))]
abbrev p_ref03_First_2 : List Nat := [0, 1]
def s_ref03_First_3 : List AStep := [.pure (some 3) false (.assign (.const (.int .i64 0)))]
abbrev p_ref03_First_3 : List Nat := [0]
def s_ref03_First_4 : List AStep := [.pure (some 6) false (.move (.tmp 3)), .pure (some 7) false (.binOp .lss 3 (.tmp 6) (.const (.int .i64 8)) 3)]
abbrev p_ref03_First_4 : List Nat := [0, 1]
def s_ref03_First_6 : List AStep := [.pure (some 10) false (.move (.tmp 3)), .pure (some 11) false (.move (.tmp 2)), .pure (some 12) false (.move (.tmp 3)), .pure (some 13) false (.indexAddr 43 (.tmp 11) (.tmp 12)), .read (some 14) false (.load 3 (.tmp 13)), .call (some 15) false ⟨.value (.func 47), #[.tmp 14, .const (.int .i64 2)], #[3, 3]⟩, .pure (some 16) false (.indexAddr 69 (.tmp 1) (.tmp 10)), .eff none (.store 68 (.tmp 16) (.tmp 15))]
abbrev p_ref03_First_6 : List Nat := [0, 1, 2, 3, 4, 5, 6, 7]
def s_ref03_First_5 : List AStep := [.pure (some 8) false (.move (.tmp 3)), .pure (some 9) false (.binOp .add 3 (.tmp 8) (.const (.int .i64 1)) 3), .pure (some 3) false (.assign (.tmp 9))]
abbrev p_ref03_First_5 : List Nat := [0, 1, 2]
def s_ref03_First_7 : List AStep := [.read (some 17) false (.load 69 (.tmp 1)), .eff none (.store 69 (.tmp 0) (.tmp 17))]
abbrev p_ref03_First_7 : List Nat := [0, 1]

/-! erewhile/erewhileref03.Pad -/
abbrev n_ref03_Pad : Nat := 41
theorem func_ref03_Pad : Try.prog.funcs[n_ref03_Pad]? = some Try.f41 := Try.func41
theorem call_ref03_Pad : ∀ args w, (callFunc n_ref03_Pad args).run Try.prog w = .ok (.enter n_ref03_Pad args) w := Try.call41
theorem nt_ref03_Pad : Try.f41.ntmps = 44 := Try.ntmps41
theorem rs_ref03_Pad : Try.f41.results.toList = [.tmp 2] := by rw [Try.results41]
def s_ref03_Pad_0 : List AStep := [.pure (some 2) false (.assign (.const (.slice none 0 0)))]
abbrev p_ref03_Pad_0 : List Nat := [0]
def s_ref03_Pad_1 : List AStep := [.eff (some 8) (.buildSlice 60 0 #[]), .pure (some 9) false (.move (.tmp 0)), .eff (some 10) (.call (.mk (.builtin .append) #[.tmp 8, .tmp 9] #[60, 60])), .eff (some 11) (.buildSlice 60 1 #[(0, .const (.int .u8 128))]), .eff (some 12) (.call (.mk (.builtin .append) #[.tmp 10, .tmp 11] #[60, 60])), .pure (some 3) false (.assign (.tmp 12))]
abbrev p_ref03_Pad_1 : List Nat := [0, 1, 2, 3, 4, 5]
def s_ref03_Pad_2 : List AStep := [.pure (some 13) false (.move (.tmp 3)), .pure (some 14) false (.call (.mk (.builtin .len) #[.tmp 13] #[60])), .pure (some 15) false (.binOp .rem 3 (.tmp 14) (.const (.int .i64 64)) 3), .pure (some 16) false (.binOp .neq 3 (.tmp 15) (.const (.int .i64 56)) 3)]
abbrev p_ref03_Pad_2 : List Nat := [0, 1, 2, 3]
def s_ref03_Pad_3 : List AStep := [.pure (some 17) false (.move (.tmp 3)), .eff (some 18) (.buildSlice 60 1 #[(0, .const (.int .u8 0))]), .eff (some 19) (.call (.mk (.builtin .append) #[.tmp 17, .tmp 18] #[60, 60])), .pure (some 3) false (.assign (.tmp 19))]
abbrev p_ref03_Pad_3 : List Nat := [0, 1, 2, 3]
def s_ref03_Pad_4 : List AStep := [.pure (some 20) false (.move (.tmp 0)), .pure (some 21) false (.call (.mk (.builtin .len) #[.tmp 20] #[60])), .pure (some 22) false (.convert 3 76 (.tmp 21)), .pure (some 23) false (.binOp .mul 76 (.tmp 22) (.const (.int .u64 8)) 76), .pure (some 4) false (.assign (.tmp 23))]
abbrev p_ref03_Pad_4 : List Nat := [0, 1, 2, 3, 4]
def s_ref03_Pad_5 : List AStep := [.pure (some 5) false (.assign (.const (.int .i64 0)))]
abbrev p_ref03_Pad_5 : List Nat := [0]
def s_ref03_Pad_6 : List AStep := [.pure (some 24) false (.move (.tmp 5)), .pure (some 25) false (.binOp .lss 3 (.tmp 24) (.const (.int .i64 8)) 3)]
abbrev p_ref03_Pad_6 : List Nat := [0, 1]
def s_ref03_Pad_8 : List AStep := [.pure (some 6) false (.assign (.const (.int .u64 1)))]
abbrev p_ref03_Pad_8 : List Nat := [0]
def s_ref03_Pad_9 : List AStep := [.pure (some 28) false (.move (.tmp 5)), .pure (some 7) false (.assign (.tmp 28))]
abbrev p_ref03_Pad_9 : List Nat := [0, 1]
def s_ref03_Pad_10 : List AStep := [.pure (some 29) false (.move (.tmp 7)), .pure (some 30) false (.binOp .lss 3 (.tmp 29) (.const (.int .i64 7)) 3)]
abbrev p_ref03_Pad_10 : List Nat := [0, 1]
def s_ref03_Pad_12 : List AStep := [.pure (some 33) false (.move (.tmp 6)), .pure (some 34) false (.binOp .mul 76 (.tmp 33) (.const (.int .u64 256)) 76), .pure (some 6) false (.assign (.tmp 34))]
abbrev p_ref03_Pad_12 : List Nat := [0, 1, 2]
def s_ref03_Pad_11 : List AStep := [.pure (some 31) false (.move (.tmp 7)), .pure (some 32) false (.binOp .add 3 (.tmp 31) (.const (.int .i64 1)) 3), .pure (some 7) false (.assign (.tmp 32))]
abbrev p_ref03_Pad_11 : List Nat := [0, 1, 2]
def s_ref03_Pad_13 : List AStep := [.pure (some 35) false (.move (.tmp 3)), .pure (some 36) false (.move (.tmp 4)), .pure (some 37) false (.move (.tmp 6)), .pure (some 38) false (.binOp .quo 76 (.tmp 36) (.tmp 37) 76), .pure (some 39) false (.binOp .rem 76 (.tmp 38) (.const (.int .u64 256)) 76), .pure (some 40) false (.convert 76 5 (.tmp 39)), .eff (some 41) (.buildSlice 60 1 #[(0, .tmp 40)]), .eff (some 42) (.call (.mk (.builtin .append) #[.tmp 35, .tmp 41] #[60, 60])), .pure (some 3) false (.assign (.tmp 42))]
abbrev p_ref03_Pad_13 : List Nat := [0, 1, 2, 3, 4, 5, 6, 7, 8]
def s_ref03_Pad_7 : List AStep := [.pure (some 26) false (.move (.tmp 5)), .pure (some 27) false (.binOp .add 3 (.tmp 26) (.const (.int .i64 1)) 3), .pure (some 5) false (.assign (.tmp 27))]
abbrev p_ref03_Pad_7 : List Nat := [0, 1, 2]
def s_ref03_Pad_14 : List AStep := [.pure (some 43) false (.move (.tmp 3)), .pure (some 2) false (.assign (.tmp 43))]
abbrev p_ref03_Pad_14 : List Nat := [0, 1]

/-! erewhile/erewhileref03.Compress -/
abbrev n_ref03_Compress : Nat := 42
theorem func_ref03_Compress : Try.prog.funcs[n_ref03_Compress]? = some Try.f42 := Try.func42
theorem call_ref03_Compress : ∀ args w, (callFunc n_ref03_Compress args).run Try.prog w = .ok (.enter n_ref03_Compress args) w := Try.call42
theorem nt_ref03_Compress : Try.f42.ntmps = 181 := Try.ntmps42
theorem rs_ref03_Compress : Try.f42.results.toList = [.cell 4 69] := by rw [Try.results42]
def s_ref03_Compress_0 : List AStep := [.eff (some 2) (.box 69 (.tmp 0)), .eff (some 3) (.box 72 (.tmp 1)), .eff (some 4) (.alloc 69)]
abbrev p_ref03_Compress_0 : List Nat := [0, 1, 2]
def s_ref03_Compress_1 : List AStep := [.pure (some 19) false (.build 77 #[]), .eff (some 5) (.alloc 77), .eff none (.store 77 (.tmp 5) (.tmp 19))]
abbrev p_ref03_Compress_1 : List Nat := [0, 1, 2]
def s_ref03_Compress_2 : List AStep := [.pure (some 6) false (.assign (.const (.int .i64 0)))]
abbrev p_ref03_Compress_2 : List Nat := [0]
def s_ref03_Compress_3 : List AStep := [.pure (some 20) false (.move (.tmp 6)), .pure (some 21) false (.binOp .lss 3 (.tmp 20) (.const (.int .i64 16)) 3)]
abbrev p_ref03_Compress_3 : List Nat := [0, 1]
def s_ref03_Compress_5 : List AStep := [.pure (some 7) false (.assign (.const (.int .i64 0)))]
abbrev p_ref03_Compress_5 : List Nat := [0]
def s_ref03_Compress_6 : List AStep := [.pure (some 24) false (.move (.tmp 7)), .pure (some 25) false (.binOp .lss 3 (.tmp 24) (.const (.int .i64 4)) 3)]
abbrev p_ref03_Compress_6 : List Nat := [0, 1]
def s_ref03_Compress_8 : SP := (.one (.pure (some 28) false (.move (.tmp 6))) (.one (.pure (some 29) false (.move (.tmp 6))) (.one (.pure (some 30) false (.indexAddr 77 (.tmp 5) (.tmp 29))) (.one (.pure (some 33) false (.move (.tmp 6))) (.one (.pure (some 34) false (.binOp .mul 3 (.const (.int .i64 4)) (.tmp 33) 3)) (.one (.pure (some 35) false (.move (.tmp 7))) (.one (.pure (some 36) false (.binOp .add 3 (.tmp 34) (.tmp 35) 3)) (.one (.pure (some 37) false (.indexAddr 72 (.tmp 3) (.tmp 36))) (.one (.read (some 31) false (.load 68 (.tmp 30))) (.one (.pure (some 32) false (.binOp .mul 68 (.tmp 31) (.const (.int .u32 256)) 68)) (.one (.read (some 38) false (.load 5 (.tmp 37))) (.one (.pure (some 39) false (.convert 5 68 (.tmp 38))) (.one (.pure (some 40) false (.binOp .add 68 (.tmp 32) (.tmp 39) 68)) (.one (.pure (some 41) false (.indexAddr 77 (.tmp 5) (.tmp 28))) (.one (.eff none (.store 68 (.tmp 41) (.tmp 40))) .done)))))))))))))))
abbrev p_ref03_Compress_8 : PC := (.calm 0 24576 (.calm 1 28700 (.calm 2 28696 (.calm 5 32576 (.calm 6 32512 (.calm 7 32512 (.calm 8 32256 (.calm 9 31744 (.calm 3 28688 (.calm 4 28672 (.calm 10 30720 (.calm 11 28672 (.calm 12 24576 (.calm 13 16384 (.act 14 .done)))))))))))))))
abbrev g_ref03_Compress_8 : List Dg := [⟨0, 64, 268435456, .pure, true⟩, ⟨0, 64, 536870912, .pure, true⟩, ⟨2, 536870944, 1073741824, .pure, true⟩, ⟨4, 1073741824, 2147483648, .read, true⟩, ⟨8, 2147483648, 4294967296, .pure, true⟩, ⟨0, 64, 8589934592, .pure, true⟩, ⟨32, 8589934592, 17179869184, .pure, true⟩, ⟨0, 128, 34359738368, .pure, true⟩, ⟨192, 51539607552, 68719476736, .pure, true⟩, ⟨256, 68719476744, 137438953472, .pure, true⟩, ⟨512, 137438953472, 274877906944, .read, true⟩, ⟨1024, 274877906944, 549755813888, .pure, true⟩, ⟨2064, 554050781184, 1099511627776, .pure, true⟩, ⟨8191, 268435488, 2199023255552, .pure, true⟩, ⟨16383, 3298534883328, 0, .eff, false⟩]
abbrev q_ref03_Compress_8 : List Nat := []
def s_ref03_Compress_7 : List AStep := [.pure (some 26) false (.move (.tmp 7)), .pure (some 27) false (.binOp .add 3 (.tmp 26) (.const (.int .i64 1)) 3), .pure (some 7) false (.assign (.tmp 27))]
abbrev p_ref03_Compress_7 : List Nat := [0, 1, 2]
def s_ref03_Compress_4 : List AStep := [.pure (some 22) false (.move (.tmp 6)), .pure (some 23) false (.binOp .add 3 (.tmp 22) (.const (.int .i64 1)) 3), .pure (some 6) false (.assign (.tmp 23))]
abbrev p_ref03_Compress_4 : List Nat := [0, 1, 2]
def s_ref03_Compress_9 : List AStep := [.pure (some 8) false (.assign (.const (.int .i64 16)))]
abbrev p_ref03_Compress_9 : List Nat := [0]
def s_ref03_Compress_10 : List AStep := [.pure (some 42) false (.move (.tmp 8)), .pure (some 43) false (.binOp .lss 3 (.tmp 42) (.const (.int .i64 64)) 3)]
abbrev p_ref03_Compress_10 : List Nat := [0, 1]
def s_ref03_Compress_12 : List AStep := [.pure (some 46) false (.move (.tmp 8)), .pure (some 47) false (.binOp .sub 3 (.tmp 46) (.const (.int .i64 15)) 3), .pure (some 48) false (.indexAddr 77 (.tmp 5) (.tmp 47)), .read (some 49) false (.load 68 (.tmp 48)), .pure (some 9) false (.assign (.tmp 49))]
abbrev p_ref03_Compress_12 : List Nat := [0, 1, 2, 3, 4]
def s_ref03_Compress_13 : List AStep := [.pure (some 50) false (.move (.tmp 8)), .pure (some 51) false (.binOp .sub 3 (.tmp 50) (.const (.int .i64 2)) 3), .pure (some 52) false (.indexAddr 77 (.tmp 5) (.tmp 51)), .read (some 53) false (.load 68 (.tmp 52)), .pure (some 10) false (.assign (.tmp 53))]
abbrev p_ref03_Compress_13 : List Nat := [0, 1, 2, 3, 4]
def s_ref03_Compress_14 : SP := (.one (.pure (some 54) false (.move (.tmp 8))) (.one (.pure (some 55) false (.move (.tmp 8))) (.one (.pure (some 56) false (.binOp .sub 3 (.tmp 55) (.const (.int .i64 16)) 3)) (.one (.pure (some 57) false (.indexAddr 77 (.tmp 5) (.tmp 56))) (.one (.pure (some 59) false (.move (.tmp 8))) (.one (.pure (some 60) false (.binOp .sub 3 (.tmp 59) (.const (.int .i64 7)) 3)) (.one (.pure (some 61) false (.indexAddr 77 (.tmp 5) (.tmp 60))) (.one (.pure (some 64) false (.move (.tmp 9))) (.one (.pure (some 66) false (.move (.tmp 9))) (.one (.pure (some 69) false (.move (.tmp 9))) (.one (.pure (some 70) false (.binOp .quo 68 (.tmp 69) (.const (.int .u32 8)) 68)) (.one (.pure (some 73) false (.move (.tmp 10))) (.one (.pure (some 75) false (.move (.tmp 10))) (.one (.pure (some 78) false (.move (.tmp 10))) (.one (.pure (some 79) false (.binOp .quo 68 (.tmp 78) (.const (.int .u32 1024)) 68)) (.one (.read (some 58) false (.load 68 (.tmp 57))) (.one (.read (some 62) false (.load 68 (.tmp 61))) (.one (.pure (some 63) false (.binOp .add 68 (.tmp 58) (.tmp 62) 68)) (.one (.call (some 65) false ⟨.value (.func 48), #[.tmp 64, .const (.int .u64 7)], #[68, 79]⟩) (.one (.call (some 67) false ⟨.value (.func 48), #[.tmp 66, .const (.int .u64 18)], #[68, 79]⟩) (.one (.pure (some 68) false (.binOp .xor 68 (.tmp 65) (.tmp 67) 68)) (.one (.pure (some 71) false (.binOp .xor 68 (.tmp 68) (.tmp 70) 68)) (.one (.pure (some 72) false (.binOp .add 68 (.tmp 63) (.tmp 71) 68)) (.one (.call (some 74) false ⟨.value (.func 48), #[.tmp 73, .const (.int .u64 17)], #[68, 79]⟩) (.one (.call (some 76) false ⟨.value (.func 48), #[.tmp 75, .const (.int .u64 19)], #[68, 79]⟩) (.one (.pure (some 77) false (.binOp .xor 68 (.tmp 74) (.tmp 76) 68)) (.one (.pure (some 80) false (.binOp .xor 68 (.tmp 77) (.tmp 79) 68)) (.one (.pure (some 81) false (.binOp .add 68 (.tmp 72) (.tmp 80) 68)) (.one (.pure (some 82) false (.indexAddr 77 (.tmp 5) (.tmp 54))) (.one (.eff none (.store 68 (.tmp 82) (.tmp 81))) .done))))))))))))))))))))))))))))))
abbrev p_ref03_Compress_14 : PC := (.calm 0 805306368 (.calm 1 939786780 (.calm 2 939786776 (.calm 3 939786768 (.calm 5 939787200 (.calm 6 939787136 (.calm 7 939787008 (.calm 10 1020684288 (.calm 12 1020682240 (.calm 15 939982848 (.calm 16 939917312 (.calm 19 1020264448 (.calm 21 1019215872 (.calm 24 1040187392 (.calm 25 1006632960 (.calm 4 939786752 (.calm 8 939786752 (.calm 9 939786240 (.act 11 (.act 13 (.calm 14 939917312 (.calm 17 939786240 (.calm 18 939524096 (.act 20 (.act 22 (.calm 23 1006632960 (.calm 26 939524096 (.calm 27 805306368 (.calm 28 536870912 (.act 29 .done))))))))))))))))))))))))))))))
abbrev g_ref03_Compress_14 : List Dg := [⟨0, 256, 18014398509481984, .pure, true⟩, ⟨0, 256, 36028797018963968, .pure, true⟩, ⟨2, 36028797018963968, 72057594037927936, .pure, true⟩, ⟨4, 72057594037927968, 144115188075855872, .pure, true⟩, ⟨8, 144115188075855872, 288230376151711744, .read, true⟩, ⟨0, 256, 576460752303423488, .pure, true⟩, ⟨32, 576460752303423488, 1152921504606846976, .pure, true⟩, ⟨64, 1152921504606847008, 2305843009213693952, .pure, true⟩, ⟨128, 2305843009213693952, 4611686018427387904, .read, true⟩, ⟨272, 4899916394579099648, 9223372036854775808, .pure, true⟩, ⟨0, 512, 18446744073709551616, .pure, true⟩, ⟨1024, 18446744073709551616, 36893488147419103232, .call, true⟩, ⟨0, 512, 73786976294838206464, .pure, true⟩, ⟨6144, 73786976294838206464, 147573952589676412928, .call, true⟩, ⟨10240, 184467440737095516160, 295147905179352825856, .pure, true⟩, ⟨0, 512, 590295810358705651712, .pure, true⟩, ⟨32768, 590295810358705651712, 1180591620717411303424, .pure, true⟩, ⟨81920, 1475739525896764129280, 2361183241434822606848, .pure, true⟩, ⟨131584, 2370406613471677382656, 4722366482869645213696, .pure, true⟩, ⟨0, 1024, 9444732965739290427392, .pure, true⟩, ⟨532480, 9444732965739290427392, 18889465931478580854784, .call, true⟩, ⟨0, 1024, 37778931862957161709568, .pure, true⟩, ⟨3145728, 37778931862957161709568, 75557863725914323419136, .call, true⟩, ⟨5242880, 94447329657392904273920, 151115727451828646838272, .pure, true⟩, ⟨0, 1024, 302231454903657293676544, .pure, true⟩, ⟨16777216, 302231454903657293676544, 604462909807314587353088, .pure, true⟩, ⟨41943040, 755578637259143234191360, 1208925819614629174706176, .pure, true⟩, ⟨67371008, 1213648186097498819919872, 2417851639229258349412352, .pure, true⟩, ⟨268435455, 18014398509482016, 4835703278458516698824704, .pure, true⟩, ⟨536870911, 7253554917687775048237056, 0, .eff, false⟩]
abbrev q_ref03_Compress_14 : List Nat := []
def s_ref03_Compress_11 : List AStep := [.pure (some 44) false (.move (.tmp 8)), .pure (some 45) false (.binOp .add 3 (.tmp 44) (.const (.int .i64 1)) 3), .pure (some 8) false (.assign (.tmp 45))]
abbrev p_ref03_Compress_11 : List Nat := [0, 1, 2]
def s_ref03_Compress_15 : List AStep := [.call (some 83) false ⟨.value (.func 49), #[], #[]⟩, .eff (some 11) (.alloc 77), .eff none (.store 77 (.tmp 11) (.tmp 83))]
abbrev p_ref03_Compress_15 : List Nat := [0, 1, 2]
def s_ref03_Compress_16 : List AStep := [.read (some 84) false (.load 69 (.tmp 2)), .eff (some 12) (.alloc 69), .eff none (.store 69 (.tmp 12) (.tmp 84))]
abbrev p_ref03_Compress_16 : List Nat := [0, 1, 2]
def s_ref03_Compress_17 : List AStep := [.pure (some 13) false (.assign (.const (.int .i64 0)))]
abbrev p_ref03_Compress_17 : List Nat := [0]
def s_ref03_Compress_18 : List AStep := [.pure (some 85) false (.move (.tmp 13)), .pure (some 86) false (.binOp .lss 3 (.tmp 85) (.const (.int .i64 64)) 3)]
abbrev p_ref03_Compress_18 : List Nat := [0, 1]
def s_ref03_Compress_20 : List AStep := [.pure (some 89) false (.indexAddr 69 (.tmp 12) (.const (.int .i64 4))), .read (some 90) false (.load 68 (.tmp 89)), .pure (some 14) false (.assign (.tmp 90))]
abbrev p_ref03_Compress_20 : List Nat := [0, 1, 2]
def s_ref03_Compress_21 : List AStep := [.pure (some 91) false (.indexAddr 69 (.tmp 12) (.const (.int .i64 0))), .read (some 92) false (.load 68 (.tmp 91)), .pure (some 15) false (.assign (.tmp 92))]
abbrev p_ref03_Compress_21 : List Nat := [0, 1, 2]
def s_ref03_Compress_22 : SP := (.one (.pure (some 93) false (.indexAddr 69 (.tmp 12) (.const (.int .i64 7)))) (.one (.pure (some 95) false (.move (.tmp 14))) (.one (.pure (some 97) false (.move (.tmp 14))) (.one (.pure (some 100) false (.move (.tmp 14))) (.one (.pure (some 104) false (.move (.tmp 14))) (.one (.pure (some 105) false (.indexAddr 69 (.tmp 12) (.const (.int .i64 5)))) (.one (.pure (some 108) false (.move (.tmp 14))) (.one (.pure (some 109) false (.binOp .sub 68 (.const (.int .u32 4294967295)) (.tmp 108) 68)) (.one (.pure (some 110) false (.indexAddr 69 (.tmp 12) (.const (.int .i64 6)))) (.one (.pure (some 115) false (.move (.tmp 13))) (.one (.pure (some 116) false (.indexAddr 77 (.tmp 11) (.tmp 115))) (.one (.pure (some 119) false (.move (.tmp 13))) (.one (.pure (some 120) false (.indexAddr 77 (.tmp 5) (.tmp 119))) (.one (.read (some 94) false (.load 68 (.tmp 93))) (.one (.read (some 106) false (.load 68 (.tmp 105))) (.one (.pure (some 107) false (.binOp .and 68 (.tmp 104) (.tmp 106) 68)) (.one (.read (some 111) false (.load 68 (.tmp 110))) (.one (.pure (some 112) false (.binOp .and 68 (.tmp 109) (.tmp 111) 68)) (.one (.pure (some 113) false (.binOp .xor 68 (.tmp 107) (.tmp 112) 68)) (.one (.read (some 117) false (.load 68 (.tmp 116))) (.one (.read (some 121) false (.load 68 (.tmp 120))) (.one (.call (some 96) false ⟨.value (.func 48), #[.tmp 95, .const (.int .u64 6)], #[68, 79]⟩) (.one (.call (some 98) false ⟨.value (.func 48), #[.tmp 97, .const (.int .u64 11)], #[68, 79]⟩) (.one (.pure (some 99) false (.binOp .xor 68 (.tmp 96) (.tmp 98) 68)) (.one (.call (some 101) false ⟨.value (.func 48), #[.tmp 100, .const (.int .u64 25)], #[68, 79]⟩) (.one (.pure (some 102) false (.binOp .xor 68 (.tmp 99) (.tmp 101) 68)) (.one (.pure (some 103) false (.binOp .add 68 (.tmp 94) (.tmp 102) 68)) (.one (.pure (some 114) false (.binOp .add 68 (.tmp 103) (.tmp 113) 68)) (.one (.pure (some 118) false (.binOp .add 68 (.tmp 114) (.tmp 117) 68)) (.one (.pure (some 122) false (.binOp .add 68 (.tmp 118) (.tmp 121) 68)) (.one (.pure (some 16) false (.assign (.tmp 122))) .done)))))))))))))))))))))))))))))))
abbrev p_ref03_Compress_22 : PC := (.calm 0 1646265346 (.calm 2 1646266216 (.calm 4 1646266208 (.calm 7 1646266112 (.calm 11 1647329280 (.calm 12 1647337472 (.calm 15 1647902720 (.calm 16 1647837184 (.calm 17 1648099328 (.calm 22 1669332992 (.calm 23 1660944384 (.calm 26 2013265920 (.calm 27 1879048192 (.calm 1 1646265344 (.calm 13 1647329280 (.calm 14 1647312896 (.calm 18 1647837184 (.calm 19 1647312896 (.calm 20 1646264320 (.calm 24 1644167168 (.calm 28 1610612736 (.act 3 (.act 5 (.calm 6 1646265856 (.act 8 (.calm 9 1646265344 (.calm 10 1646264320 (.calm 21 1644167168 (.calm 25 1610612736 (.calm 29 1073741824 (.calm 30 0 .done)))))))))))))))))))))))))))))))
abbrev g_ref03_Compress_22 : List Dg := [⟨0, 4096, 9903520314283042199192993792, .pure, true⟩, ⟨1, 9903520314283042199192993792, 19807040628566084398385987584, .read, true⟩, ⟨0, 16384, 39614081257132168796771975168, .pure, true⟩, ⟨4, 39614081257132168796771975168, 79228162514264337593543950336, .call, true⟩, ⟨0, 16384, 158456325028528675187087900672, .pure, true⟩, ⟨24, 158456325028528675187087900672, 316912650057057350374175801344, .call, true⟩, ⟨40, 396140812571321687967719751680, 633825300114114700748351602688, .pure, true⟩, ⟨0, 16384, 1267650600228229401496703205376, .pure, true⟩, ⟨160, 1267650600228229401496703205376, 2535301200456458802993406410752, .call, true⟩, ⟨320, 3169126500570573503741758013440, 5070602400912917605986812821504, .pure, true⟩, ⟨514, 5090409441541483690385198809088, 10141204801825835211973625643008, .pure, true⟩, ⟨0, 16384, 20282409603651670423947251286016, .pure, true⟩, ⟨0, 4096, 40564819207303340847894502572032, .pure, true⟩, ⟨4096, 40564819207303340847894502572032, 81129638414606681695789005144064, .read, true⟩, ⟨10240, 101412048018258352119736256430080, 162259276829213363391578010288128, .pure, true⟩, ⟨0, 16384, 324518553658426726783156020576256, .pure, true⟩, ⟨32768, 324518553658426726783156020576256, 649037107316853453566312041152512, .pure, true⟩, ⟨0, 4096, 1298074214633706907132624082305024, .pure, true⟩, ⟨131072, 1298074214633706907132624082305024, 2596148429267413814265248164610048, .read, true⟩, ⟨327680, 3245185536584267267831560205762560, 5192296858534827628530496329220096, .pure, true⟩, ⟨540672, 5354556135364040991922074339508224, 10384593717069655257060992658440192, .pure, true⟩, ⟨1049600, 10394734921871481092272966284083200, 20769187434139310514121985316880384, .pure, true⟩, ⟨0, 8192, 41538374868278621028243970633760768, .pure, true⟩, ⟨4194304, 41538374868278621028243970633762816, 83076749736557242056487941267521536, .pure, true⟩, ⟨8388608, 83076749736557242056487941267521536, 166153499473114484112975882535043072, .read, true⟩, ⟨18874368, 186922686907253794627097867851923456, 332306998946228968225951765070086144, .pure, true⟩, ⟨0, 8192, 664613997892457936451903530140172288, .pure, true⟩, ⟨67108864, 664613997892457936451903530140172320, 1329227995784915872903807060280344576, .pure, true⟩, ⟨134217728, 1329227995784915872903807060280344576, 2658455991569831745807614120560689152, .read, true⟩, ⟨301989888, 2990762990516060714033565885630775296, 5316911983139663491615228241121378304, .pure, true⟩, ⟨1073741823, 5316911983139663491615228241121378304, 65536, .pure, true⟩]
abbrev q_ref03_Compress_22 : List Nat := []
def s_ref03_Compress_23 : SP := (.one (.pure (some 123) false (.move (.tmp 15))) (.one (.pure (some 125) false (.move (.tmp 15))) (.one (.pure (some 128) false (.move (.tmp 15))) (.one (.pure (some 131) false (.move (.tmp 15))) (.one (.pure (some 132) false (.indexAddr 69 (.tmp 12) (.const (.int .i64 1)))) (.one (.pure (some 135) false (.move (.tmp 15))) (.one (.pure (some 136) false (.indexAddr 69 (.tmp 12) (.const (.int .i64 2)))) (.one (.pure (some 140) false (.indexAddr 69 (.tmp 12) (.const (.int .i64 1)))) (.one (.pure (some 142) false (.indexAddr 69 (.tmp 12) (.const (.int .i64 2)))) (.one (.read (some 133) false (.load 68 (.tmp 132))) (.one (.pure (some 134) false (.binOp .and 68 (.tmp 131) (.tmp 133) 68)) (.one (.read (some 137) false (.load 68 (.tmp 136))) (.one (.pure (some 138) false (.binOp .and 68 (.tmp 135) (.tmp 137) 68)) (.one (.pure (some 139) false (.binOp .xor 68 (.tmp 134) (.tmp 138) 68)) (.one (.read (some 141) false (.load 68 (.tmp 140))) (.one (.read (some 143) false (.load 68 (.tmp 142))) (.one (.pure (some 144) false (.binOp .and 68 (.tmp 141) (.tmp 143) 68)) (.one (.pure (some 145) false (.binOp .xor 68 (.tmp 139) (.tmp 144) 68)) (.one (.call (some 124) false ⟨.value (.func 48), #[.tmp 123, .const (.int .u64 2)], #[68, 79]⟩) (.one (.call (some 126) false ⟨.value (.func 48), #[.tmp 125, .const (.int .u64 13)], #[68, 79]⟩) (.one (.pure (some 127) false (.binOp .xor 68 (.tmp 124) (.tmp 126) 68)) (.one (.call (some 129) false ⟨.value (.func 48), #[.tmp 128, .const (.int .u64 22)], #[68, 79]⟩) (.one (.pure (some 130) false (.binOp .xor 68 (.tmp 127) (.tmp 129) 68)) (.one (.pure (some 146) false (.binOp .add 68 (.tmp 130) (.tmp 145) 68)) (.one (.pure (some 17) false (.assign (.tmp 146))) .done)))))))))))))))))))))))))
abbrev p_ref03_Compress_23 : PC := (.calm 0 25166042 (.calm 2 25166040 (.calm 5 25166016 (.calm 8 29427712 (.calm 9 29428736 (.calm 12 29458432 (.calm 13 29474816 (.calm 17 31719424 (.calm 19 32505856 (.calm 10 29427712 (.calm 11 29425664 (.calm 14 29458432 (.calm 15 29425664 (.calm 16 29360128 (.calm 18 31457280 (.calm 20 31457280 (.calm 21 29360128 (.calm 22 25165824 (.act 1 (.act 3 (.calm 4 25165952 (.act 6 (.calm 7 25165824 (.calm 23 16777216 (.calm 24 0 .done)))))))))))))))))))))))))
abbrev g_ref03_Compress_23 : List Dg := [⟨0, 32768, 10633823966279326983230456482242756608, .pure, true⟩, ⟨1, 10633823966279326983230456482242756608, 21267647932558653966460912964485513216, .call, true⟩, ⟨0, 32768, 42535295865117307932921825928971026432, .pure, true⟩, ⟨6, 42535295865117307932921825928971026432, 85070591730234615865843651857942052864, .call, true⟩, ⟨10, 106338239662793269832304564822427566080, 170141183460469231731687303715884105728, .pure, true⟩, ⟨0, 32768, 340282366920938463463374607431768211456, .pure, true⟩, ⟨40, 340282366920938463463374607431768211456, 680564733841876926926749214863536422912, .call, true⟩, ⟨80, 850705917302346158658436518579420528640, 1361129467683753853853498429727072845824, .pure, true⟩, ⟨0, 32768, 2722258935367507707706996859454145691648, .pure, true⟩, ⟨0, 4096, 5444517870735015415413993718908291383296, .pure, true⟩, ⟨512, 5444517870735015415413993718908291383296, 10889035741470030830827987437816582766592, .read, true⟩, ⟨1280, 13611294676837538538534984297270728458240, 21778071482940061661655974875633165533184, .pure, true⟩, ⟨0, 32768, 43556142965880123323311949751266331066368, .pure, true⟩, ⟨0, 4096, 87112285931760246646623899502532662132736, .pure, true⟩, ⟨8192, 87112285931760246646623899502532662132736, 174224571863520493293247799005065324265472, .read, true⟩, ⟨20480, 217780714829400616616559748756331655331840, 348449143727040986586495598010130648530944, .pure, true⟩, ⟨34816, 370227215209981048248151572885763814064128, 696898287454081973172991196020261297061888, .pure, true⟩, ⟨0, 4096, 1393796574908163946345982392040522594123776, .pure, true⟩, ⟨131072, 1393796574908163946345982392040522594123776, 2787593149816327892691964784081045188247552, .read, true⟩, ⟨0, 4096, 5575186299632655785383929568162090376495104, .pure, true⟩, ⟨524288, 5575186299632655785383929568162090376495104, 11150372599265311570767859136324180752990208, .read, true⟩, ⟨1310720, 13937965749081639463459823920405225941237760, 22300745198530623141535718272648361505980416, .pure, true⟩, ⟨2162688, 22997643485984705114708709468668622803042304, 44601490397061246283071436545296723011960832, .pure, true⟩, ⟨4194432, 44602851526528930036925290043726450084806656, 89202980794122492566142873090593446023921664, .pure, true⟩, ⟨16777215, 89202980794122492566142873090593446023921664, 131072, .pure, true⟩]
abbrev q_ref03_Compress_23 : List Nat := []
def s_ref03_Compress_24 : List AStep := [.pure (some 147) false (.move (.tmp 16)), .pure (some 148) false (.move (.tmp 17)), .pure (some 149) false (.binOp .add 68 (.tmp 147) (.tmp 148) 68), .pure (some 150) false (.indexAddr 69 (.tmp 12) (.const (.int .i64 0))), .read (some 151) false (.load 68 (.tmp 150)), .pure (some 152) false (.indexAddr 69 (.tmp 12) (.const (.int .i64 1))), .read (some 153) false (.load 68 (.tmp 152)), .pure (some 154) false (.indexAddr 69 (.tmp 12) (.const (.int .i64 2))), .read (some 155) false (.load 68 (.tmp 154)), .pure (some 156) false (.indexAddr 69 (.tmp 12) (.const (.int .i64 3))), .read (some 157) false (.load 68 (.tmp 156)), .pure (some 158) false (.move (.tmp 16)), .pure (some 159) false (.binOp .add 68 (.tmp 157) (.tmp 158) 68), .pure (some 160) false (.indexAddr 69 (.tmp 12) (.const (.int .i64 4))), .read (some 161) false (.load 68 (.tmp 160)), .pure (some 162) false (.indexAddr 69 (.tmp 12) (.const (.int .i64 5))), .read (some 163) false (.load 68 (.tmp 162)), .pure (some 164) false (.indexAddr 69 (.tmp 12) (.const (.int .i64 6))), .read (some 165) false (.load 68 (.tmp 164)), .pure (some 166) false (.build 69 #[(0, .tmp 149), (1, .tmp 151), (2, .tmp 153), (3, .tmp 155), (4, .tmp 159), (5, .tmp 161), (6, .tmp 163), (7, .tmp 165)]), .eff none (.store 69 (.tmp 12) (.tmp 166))]
abbrev p_ref03_Compress_24 : List Nat := [0, 1, 2, 3, 4, 5, 6, 7, 8, 9, 10, 11, 12, 13, 14, 15, 16, 17, 18, 19, 20]
def s_ref03_Compress_19 : List AStep := [.pure (some 87) false (.move (.tmp 13)), .pure (some 88) false (.binOp .add 3 (.tmp 87) (.const (.int .i64 1)) 3), .pure (some 13) false (.assign (.tmp 88))]
abbrev p_ref03_Compress_19 : List Nat := [0, 1, 2]
def s_ref03_Compress_25 : List AStep := [.pure (some 18) false (.assign (.const (.int .i64 0)))]
abbrev p_ref03_Compress_25 : List Nat := [0]
def s_ref03_Compress_26 : List AStep := [.pure (some 167) false (.move (.tmp 18)), .pure (some 168) false (.binOp .lss 3 (.tmp 167) (.const (.int .i64 8)) 3)]
abbrev p_ref03_Compress_26 : List Nat := [0, 1]
def s_ref03_Compress_28 : SP := (.one (.pure (some 171) false (.move (.tmp 18))) (.one (.pure (some 172) false (.move (.tmp 18))) (.one (.pure (some 173) false (.indexAddr 69 (.tmp 12) (.tmp 172))) (.one (.pure (some 175) false (.move (.tmp 18))) (.one (.pure (some 176) false (.indexAddr 69 (.tmp 2) (.tmp 175))) (.one (.read (some 174) false (.load 68 (.tmp 173))) (.one (.read (some 177) false (.load 68 (.tmp 176))) (.one (.pure (some 178) false (.binOp .add 68 (.tmp 174) (.tmp 177) 68)) (.one (.pure (some 179) false (.indexAddr 69 (.tmp 12) (.tmp 171))) (.one (.eff none (.store 68 (.tmp 179) (.tmp 178))) .done))))))))))
abbrev p_ref03_Compress_28 : PC := (.calm 0 768 (.calm 1 908 (.calm 2 904 (.calm 4 992 (.calm 5 960 (.calm 3 896 (.calm 6 896 (.calm 7 768 (.calm 8 512 (.act 9 .done))))))))))
abbrev g_ref03_Compress_28 : List Dg := [⟨0, 262144, 2993155353253689176481146537402947624255349848014848, .pure, true⟩, ⟨0, 262144, 5986310706507378352962293074805895248510699696029696, .pure, true⟩, ⟨2, 5986310706507378352962293074805895248510699696033792, 11972621413014756705924586149611790497021399392059392, .pure, true⟩, ⟨4, 11972621413014756705924586149611790497021399392059392, 23945242826029513411849172299223580994042798784118784, .read, true⟩, ⟨0, 262144, 47890485652059026823698344598447161988085597568237568, .pure, true⟩, ⟨16, 47890485652059026823698344598447161988085597568237572, 95780971304118053647396689196894323976171195136475136, .pure, true⟩, ⟨32, 95780971304118053647396689196894323976171195136475136, 191561942608236107294793378393788647952342390272950272, .read, true⟩, ⟨72, 215507185434265620706642550693012228946385189057069056, 383123885216472214589586756787577295904684780545900544, .pure, true⟩, ⟨255, 2993155353253689176481146537402947624255349848018944, 766247770432944429179173513575154591809369561091801088, .pure, true⟩, ⟨511, 1149371655649416643768760270362731887714054341637701632, 0, .eff, false⟩]
abbrev q_ref03_Compress_28 : List Nat := []
def s_ref03_Compress_27 : List AStep := [.pure (some 169) false (.move (.tmp 18)), .pure (some 170) false (.binOp .add 3 (.tmp 169) (.const (.int .i64 1)) 3), .pure (some 18) false (.assign (.tmp 170))]
abbrev p_ref03_Compress_27 : List Nat := [0, 1, 2]
def s_ref03_Compress_29 : List AStep := [.read (some 180) false (.load 69 (.tmp 12)), .eff none (.store 69 (.tmp 4) (.tmp 180))]
abbrev p_ref03_Compress_29 : List Nat := [0, 1]

/-! erewhile/sha.first -/
abbrev n_sha_first : Nat := 43
theorem func_sha_first : Try.prog.funcs[n_sha_first]? = some Try.f43 := Try.func43
theorem call_sha_first : ∀ args w, (callFunc n_sha_first args).run Try.prog w = .ok (.enter n_sha_first args) w := Try.call43
theorem nt_sha_first : Try.f43.ntmps = 2 := Try.ntmps43
theorem rs_sha_first : Try.f43.results.toList = [.cell 0 69] := by rw [Try.results43]
def s_sha_first_0 : List AStep := [.eff (some 0) (.alloc 69)]
abbrev p_sha_first_0 : List Nat := [0]
def s_sha_first_1 : List AStep := [.pure (some 1) false (.build 69 #[(0, .const (.int .u32 1779033703)), (1, .const (.int .u32 3144134277)), (2, .const (.int .u32 1013904242)), (3, .const (.int .u32 2773480762)), (4, .const (.int .u32 1359893119)), (5, .const (.int .u32 2600822924)), (6, .const (.int .u32 528734635)), (7, .const (.int .u32 1541459225))]), .eff none (.store 69 (.tmp 0) (.tmp 1))]
abbrev p_sha_first_1 : List Nat := [0, 1]

/-! erewhile/sha.Pad -/
abbrev n_sha_Pad : Nat := 44
theorem func_sha_Pad : Try.prog.funcs[n_sha_Pad]? = some Try.f44 := Try.func44
theorem call_sha_Pad : ∀ args w, (callFunc n_sha_Pad args).run Try.prog w = .ok (.enter n_sha_Pad args) w := Try.call44
theorem nt_sha_Pad : Try.f44.ntmps = 43 := Try.ntmps44
theorem rs_sha_Pad : Try.f44.results.toList = [.tmp 2] := by rw [Try.results44]
def s_sha_Pad_0 : List AStep := [.pure (some 2) false (.assign (.const (.slice none 0 0)))]
abbrev p_sha_Pad_0 : List Nat := [0]
def s_sha_Pad_1 : List AStep := [.pure (some 6) false (.move (.tmp 0)), .pure (some 7) false (.call (.mk (.builtin .len) #[.tmp 6] #[60])), .pure (some 8) false (.binOp .add 3 (.tmp 7) (.const (.int .i64 9)) 3), .pure (some 3) false (.assign (.tmp 8))]
abbrev p_sha_Pad_1 : List Nat := [0, 1, 2, 3]
def s_sha_Pad_2 : List AStep := [.pure (some 9) false (.move (.tmp 3)), .pure (some 10) false (.move (.tmp 3)), .pure (some 11) false (.binOp .rem 3 (.tmp 10) (.const (.int .i64 64)) 3), .pure (some 12) false (.binOp .sub 3 (.const (.int .i64 64)) (.tmp 11) 3), .pure (some 13) false (.binOp .rem 3 (.tmp 12) (.const (.int .i64 64)) 3), .pure (some 14) false (.binOp .add 3 (.tmp 9) (.tmp 13) 3), .pure (some 3) false (.assign (.tmp 14))]
abbrev p_sha_Pad_2 : List Nat := [0, 1, 2, 3, 4, 5, 6]
def s_sha_Pad_3 : List AStep := [.pure (some 15) false (.move (.tmp 3)), .eff (some 16) (.makeSlice 60 (.tmp 15) (.tmp 15)), .pure (some 4) false (.assign (.tmp 16))]
abbrev p_sha_Pad_3 : List Nat := [0, 1, 2]
def s_sha_Pad_4 : List AStep := [.pure (some 17) false (.move (.tmp 4)), .pure (some 18) false (.move (.tmp 0)), .eff (some 19) (.call (.mk (.builtin .copy) #[.tmp 17, .tmp 18] #[60, 60]))]
abbrev p_sha_Pad_4 : List Nat := [0, 1, 2]
def s_sha_Pad_5 : List AStep := [.pure (some 20) false (.move (.tmp 4)), .pure (some 21) false (.move (.tmp 0)), .pure (some 22) false (.call (.mk (.builtin .len) #[.tmp 21] #[60])), .pure (some 23) false (.indexAddr 60 (.tmp 20) (.tmp 22)), .eff none (.store 5 (.tmp 23) (.const (.int .u8 128)))]
abbrev p_sha_Pad_5 : List Nat := [0, 1, 2, 3, 4]
def s_sha_Pad_6 : List AStep := [.pure (some 24) false (.move (.const (.int .i64 0)))]
abbrev p_sha_Pad_6 : List Nat := [0]
def s_sha_Pad_7 : List AStep := [.pure (some 25) false (.binOp .lss 3 (.tmp 24) (.const (.int .i64 8)) 3)]
abbrev p_sha_Pad_7 : List Nat := [0]
def s_sha_Pad_8 : List AStep := [.pure (some 26) false (.move (.tmp 24)), .pure (some 5) false (.assign (.tmp 26))]
abbrev p_sha_Pad_8 : List Nat := [0, 1]
def s_sha_Pad_9 : List AStep := [.pure (some 27) false (.move (.tmp 4)), .pure (some 28) false (.move (.tmp 3)), .pure (some 29) false (.binOp .sub 3 (.tmp 28) (.const (.int .i64 1)) 3), .pure (some 30) false (.move (.tmp 5)), .pure (some 31) false (.binOp .sub 3 (.tmp 29) (.tmp 30) 3), .pure (some 32) false (.move (.tmp 0)), .pure (some 33) false (.call (.mk (.builtin .len) #[.tmp 32] #[60])), .pure (some 34) false (.convert 3 76 (.tmp 33)), .pure (some 35) false (.binOp .mul 76 (.tmp 34) (.const (.int .u64 8)) 76), .pure (some 36) false (.move (.tmp 5)), .pure (some 37) false (.binOp .mul 3 (.const (.int .i64 8)) (.tmp 36) 3), .pure (some 38) false (.binOp .shr 76 (.tmp 35) (.tmp 37) 3), .pure (some 39) false (.convert 76 5 (.tmp 38)), .pure (some 40) false (.indexAddr 60 (.tmp 27) (.tmp 31)), .eff none (.store 5 (.tmp 40) (.tmp 39))]
abbrev p_sha_Pad_9 : List Nat := [0, 1, 2, 3, 4, 5, 6, 7, 8, 9, 10, 11, 12, 13, 14]
def s_sha_Pad_10 : List AStep := [.pure (some 41) false (.binOp .add 3 (.tmp 24) (.const (.int .i64 1)) 3), .pure (some 24) false (.move (.tmp 41))]
abbrev p_sha_Pad_10 : List Nat := [0, 1]
def s_sha_Pad_11 : List AStep := [.pure (some 42) false (.move (.tmp 4)), .pure (some 2) false (.assign (.tmp 42))]
abbrev p_sha_Pad_11 : List Nat := [0, 1]

/-! erewhile/sha.Compress -/
abbrev n_sha_Compress : Nat := 45
theorem func_sha_Compress : Try.prog.funcs[n_sha_Compress]? = some Try.f45 := Try.func45
theorem call_sha_Compress : ∀ args w, (callFunc n_sha_Compress args).run Try.prog w = .ok (.enter n_sha_Compress args) w := Try.call45
theorem nt_sha_Compress : Try.f45.ntmps = 164 := Try.ntmps45
theorem rs_sha_Compress : Try.f45.results.toList = [.cell 4 69] := by rw [Try.results45]
def s_sha_Compress_0 : List AStep := [.eff (some 2) (.box 69 (.tmp 0)), .eff (some 3) (.box 72 (.tmp 1)), .eff (some 4) (.alloc 69)]
abbrev p_sha_Compress_0 : List Nat := [0, 1, 2]
def s_sha_Compress_1 : List AStep := [.eff (some 5) (.alloc 77)]
abbrev p_sha_Compress_1 : List Nat := [0]
def s_sha_Compress_2 : List AStep := [.pure (some 22) false (.move (.const (.int .i64 0)))]
abbrev p_sha_Compress_2 : List Nat := [0]
def s_sha_Compress_3 : List AStep := [.pure (some 23) false (.binOp .lss 3 (.tmp 22) (.const (.int .i64 64)) 3)]
abbrev p_sha_Compress_3 : List Nat := [0]
def s_sha_Compress_4 : List AStep := [.pure (some 24) false (.move (.tmp 22)), .pure (some 6) false (.assign (.tmp 24))]
abbrev p_sha_Compress_4 : List Nat := [0, 1]
def s_sha_Compress_5 : List AStep := [.pure (some 25) false (.move (.tmp 6)), .pure (some 26) false (.binOp .lss 3 (.tmp 25) (.const (.int .i64 16)) 3)]
abbrev p_sha_Compress_5 : List Nat := [0, 1]
def s_sha_Compress_6 : List AStep := [.pure (some 27) false (.move (.tmp 6)), .pure (some 28) false (.move (.tmp 6)), .pure (some 29) false (.binOp .mul 3 (.const (.int .i64 4)) (.tmp 28) 3), .pure (some 30) false (.slice 72 (.tmp 3) (some (.tmp 29)) none none), .call (some 31) false ⟨.value (.func 50), #[.tmp 30], #[60]⟩, .pure (some 32) false (.indexAddr 77 (.tmp 5) (.tmp 27)), .eff none (.store 68 (.tmp 32) (.tmp 31))]
abbrev p_sha_Compress_6 : List Nat := [0, 1, 2, 3, 4, 5, 6]
def s_sha_Compress_7 : SP := (.one (.pure (some 33) false (.move (.tmp 6))) (.one (.pure (some 34) false (.binOp .sub 3 (.tmp 33) (.const (.int .i64 15)) 3)) (.one (.pure (some 35) false (.indexAddr 77 (.tmp 5) (.tmp 34))) (.one (.pure (some 37) false (.move (.tmp 6))) (.one (.pure (some 38) false (.binOp .sub 3 (.tmp 37) (.const (.int .i64 2)) 3)) (.one (.pure (some 39) false (.indexAddr 77 (.tmp 5) (.tmp 38))) (.one (.read (some 36) false (.load 68 (.tmp 35))) (.one (.pure (some 7) false (.assign (.tmp 36))) (.one (.read (some 40) false (.load 68 (.tmp 39))) (.one (.pure (some 8) false (.assign (.tmp 40))) .done))))))))))
abbrev p_sha_Compress_7 : PC := (.calm 0 782 (.calm 1 780 (.calm 2 776 (.calm 4 736 (.calm 5 704 (.calm 6 640 (.calm 3 768 (.calm 8 512 (.calm 7 512 (.calm 9 0 .done))))))))))
abbrev g_sha_Compress_7 : List Dg := [⟨0, 64, 8589934592, .pure, true⟩, ⟨1, 8589934592, 17179869184, .pure, true⟩, ⟨2, 17179869216, 34359738368, .pure, true⟩, ⟨4, 34359738368, 68719476736, .read, true⟩, ⟨0, 64, 137438953472, .pure, true⟩, ⟨16, 137438953472, 274877906944, .pure, true⟩, ⟨32, 274877906976, 549755813888, .pure, true⟩, ⟨64, 549755813888, 1099511627776, .read, true⟩, ⟨15, 68719476736, 128, .pure, true⟩, ⟨511, 1099511627776, 256, .pure, true⟩]
abbrev q_sha_Compress_7 : List Nat := []
def s_sha_Compress_8 : SP := (.one (.pure (some 41) false (.move (.tmp 6))) (.one (.pure (some 42) false (.move (.tmp 6))) (.one (.pure (some 43) false (.binOp .sub 3 (.tmp 42) (.const (.int .i64 16)) 3)) (.one (.pure (some 44) false (.indexAddr 77 (.tmp 5) (.tmp 43))) (.one (.pure (some 46) false (.move (.tmp 6))) (.one (.pure (some 47) false (.binOp .sub 3 (.tmp 46) (.const (.int .i64 7)) 3)) (.one (.pure (some 48) false (.indexAddr 77 (.tmp 5) (.tmp 47))) (.one (.pure (some 51) false (.move (.tmp 7))) (.one (.pure (some 53) false (.move (.tmp 7))) (.one (.pure (some 56) false (.move (.tmp 7))) (.one (.pure (some 57) false (.binOp .shr 68 (.tmp 56) (.const (.int .u64 3)) 79)) (.one (.pure (some 60) false (.move (.tmp 8))) (.one (.pure (some 62) false (.move (.tmp 8))) (.one (.pure (some 65) false (.move (.tmp 8))) (.one (.pure (some 66) false (.binOp .shr 68 (.tmp 65) (.const (.int .u64 10)) 79)) (.one (.read (some 45) false (.load 68 (.tmp 44))) (.one (.read (some 49) false (.load 68 (.tmp 48))) (.one (.pure (some 50) false (.binOp .add 68 (.tmp 45) (.tmp 49) 68)) (.one (.call (some 52) false ⟨.value (.func 51), #[.tmp 51, .const (.int .i64 7)], #[68, 3]⟩) (.one (.call (some 54) false ⟨.value (.func 51), #[.tmp 53, .const (.int .i64 18)], #[68, 3]⟩) (.one (.pure (some 55) false (.binOp .xor 68 (.tmp 52) (.tmp 54) 68)) (.one (.pure (some 58) false (.binOp .xor 68 (.tmp 55) (.tmp 57) 68)) (.one (.pure (some 59) false (.binOp .add 68 (.tmp 50) (.tmp 58) 68)) (.one (.call (some 61) false ⟨.value (.func 51), #[.tmp 60, .const (.int .i64 17)], #[68, 3]⟩) (.one (.call (some 63) false ⟨.value (.func 51), #[.tmp 62, .const (.int .i64 19)], #[68, 3]⟩) (.one (.pure (some 64) false (.binOp .xor 68 (.tmp 61) (.tmp 63) 68)) (.one (.pure (some 67) false (.binOp .xor 68 (.tmp 64) (.tmp 66) 68)) (.one (.pure (some 68) false (.binOp .add 68 (.tmp 59) (.tmp 67) 68)) (.one (.pure (some 69) false (.indexAddr 77 (.tmp 5) (.tmp 41))) (.one (.eff none (.store 68 (.tmp 69) (.tmp 68))) .done))))))))))))))))))))))))))))))
abbrev p_sha_Compress_8 : PC := (.calm 0 805306368 (.calm 1 939786780 (.calm 2 939786776 (.calm 3 939786768 (.calm 5 939787200 (.calm 6 939787136 (.calm 7 939787008 (.calm 10 1020684288 (.calm 12 1020682240 (.calm 15 939982848 (.calm 16 939917312 (.calm 19 1020264448 (.calm 21 1019215872 (.calm 24 1040187392 (.calm 25 1006632960 (.calm 4 939786752 (.calm 8 939786752 (.calm 9 939786240 (.act 11 (.act 13 (.calm 14 939917312 (.calm 17 939786240 (.calm 18 939524096 (.act 20 (.act 22 (.calm 23 1006632960 (.calm 26 939524096 (.calm 27 805306368 (.calm 28 536870912 (.act 29 .done))))))))))))))))))))))))))))))
abbrev g_sha_Compress_8 : List Dg := [⟨0, 64, 2199023255552, .pure, true⟩, ⟨0, 64, 4398046511104, .pure, true⟩, ⟨2, 4398046511104, 8796093022208, .pure, true⟩, ⟨4, 8796093022240, 17592186044416, .pure, true⟩, ⟨8, 17592186044416, 35184372088832, .read, true⟩, ⟨0, 64, 70368744177664, .pure, true⟩, ⟨32, 70368744177664, 140737488355328, .pure, true⟩, ⟨64, 140737488355360, 281474976710656, .pure, true⟩, ⟨128, 281474976710656, 562949953421312, .read, true⟩, ⟨272, 598134325510144, 1125899906842624, .pure, true⟩, ⟨0, 128, 2251799813685248, .pure, true⟩, ⟨1024, 2251799813685248, 4503599627370496, .call, true⟩, ⟨0, 128, 9007199254740992, .pure, true⟩, ⟨6144, 9007199254740992, 18014398509481984, .call, true⟩, ⟨10240, 22517998136852480, 36028797018963968, .pure, true⟩, ⟨0, 128, 72057594037927936, .pure, true⟩, ⟨32768, 72057594037927936, 144115188075855872, .pure, true⟩, ⟨81920, 180143985094819840, 288230376151711744, .pure, true⟩, ⟨131584, 289356276058554368, 576460752303423488, .pure, true⟩, ⟨0, 256, 1152921504606846976, .pure, true⟩, ⟨532480, 1152921504606846976, 2305843009213693952, .call, true⟩, ⟨0, 256, 4611686018427387904, .pure, true⟩, ⟨3145728, 4611686018427387904, 9223372036854775808, .call, true⟩, ⟨5242880, 11529215046068469760, 18446744073709551616, .pure, true⟩, ⟨0, 256, 36893488147419103232, .pure, true⟩, ⟨16777216, 36893488147419103232, 73786976294838206464, .pure, true⟩, ⟨41943040, 92233720368547758080, 147573952589676412928, .pure, true⟩, ⟨67371008, 148150413341979836416, 295147905179352825856, .pure, true⟩, ⟨268435455, 2199023255584, 590295810358705651712, .pure, true⟩, ⟨536870911, 885443715538058477568, 0, .eff, false⟩]
abbrev q_sha_Compress_8 : List Nat := []
def s_sha_Compress_9 : List AStep := [.pure (some 70) false (.binOp .add 3 (.tmp 22) (.const (.int .i64 1)) 3), .pure (some 22) false (.move (.tmp 70))]
abbrev p_sha_Compress_9 : List Nat := [0, 1]
def s_sha_Compress_10 : List AStep := [.read (some 71) false (.load 69 (.tmp 2)), .eff (some 9) (.alloc 69), .eff none (.store 69 (.tmp 9) (.tmp 71))]
abbrev p_sha_Compress_10 : List Nat := [0, 1, 2]
def s_sha_Compress_11 : List AStep := [.call (some 72) false ⟨.value (.func 52), #[], #[]⟩, .pure (some 73) false (.move (.const (.int .i64 0)))]
abbrev p_sha_Compress_11 : List Nat := [0, 1]
def s_sha_Compress_12 : List AStep := [.pure (some 74) false (.binOp .lss 3 (.tmp 73) (.const (.int .i64 64)) 3)]
abbrev p_sha_Compress_12 : List Nat := [0]
def s_sha_Compress_13 : List AStep := [.pure (some 75) false (.move (.tmp 73)), .pure (some 76) false (.index 77 (.tmp 72) (.tmp 73)), .pure (some 10) false (.assign (.tmp 75)), .pure (some 11) false (.assign (.tmp 76))]
abbrev p_sha_Compress_13 : List Nat := [0, 1, 2, 3]
def s_sha_Compress_14 : SP := (.one (.pure (some 77) false (.indexAddr 69 (.tmp 9) (.const (.int .i64 0)))) (.one (.pure (some 79) false (.indexAddr 69 (.tmp 9) (.const (.int .i64 1)))) (.one (.pure (some 81) false (.indexAddr 69 (.tmp 9) (.const (.int .i64 2)))) (.one (.pure (some 83) false (.indexAddr 69 (.tmp 9) (.const (.int .i64 3)))) (.one (.pure (some 85) false (.indexAddr 69 (.tmp 9) (.const (.int .i64 4)))) (.one (.pure (some 87) false (.indexAddr 69 (.tmp 9) (.const (.int .i64 5)))) (.one (.pure (some 89) false (.indexAddr 69 (.tmp 9) (.const (.int .i64 6)))) (.one (.read (some 78) false (.load 68 (.tmp 77))) (.one (.pure (some 12) false (.assign (.tmp 78))) (.one (.read (some 80) false (.load 68 (.tmp 79))) (.one (.pure (some 13) false (.assign (.tmp 80))) (.one (.read (some 82) false (.load 68 (.tmp 81))) (.one (.pure (some 14) false (.assign (.tmp 82))) (.one (.read (some 84) false (.load 68 (.tmp 83))) (.one (.pure (some 15) false (.assign (.tmp 84))) (.one (.read (some 86) false (.load 68 (.tmp 85))) (.one (.pure (some 16) false (.assign (.tmp 86))) (.one (.read (some 88) false (.load 68 (.tmp 87))) (.one (.pure (some 17) false (.assign (.tmp 88))) (.one (.read (some 90) false (.load 68 (.tmp 89))) (.one (.pure (some 18) false (.assign (.tmp 90))) .done)))))))))))))))))))))
abbrev p_sha_Compress_14 : PC := (.calm 0 2080770 (.calm 2 2064392 (.calm 4 2031648 (.calm 6 1966208 (.calm 8 1835520 (.calm 10 1574912 (.calm 12 1056768 (.calm 1 2080768 (.calm 14 2064384 (.calm 3 2064384 (.calm 15 2031616 (.calm 5 2031616 (.calm 16 1966080 (.calm 7 1966080 (.calm 17 1835008 (.calm 9 1835008 (.calm 18 1572864 (.calm 11 1572864 (.calm 19 1048576 (.calm 13 1048576 (.calm 20 0 .done)))))))))))))))))))))
abbrev g_sha_Compress_14 : List Dg := [⟨0, 512, 151115727451828646838272, .pure, true⟩, ⟨1, 151115727451828646838272, 302231454903657293676544, .read, true⟩, ⟨0, 512, 604462909807314587353088, .pure, true⟩, ⟨4, 604462909807314587353088, 1208925819614629174706176, .read, true⟩, ⟨0, 512, 2417851639229258349412352, .pure, true⟩, ⟨16, 2417851639229258349412352, 4835703278458516698824704, .read, true⟩, ⟨0, 512, 9671406556917033397649408, .pure, true⟩, ⟨64, 9671406556917033397649408, 19342813113834066795298816, .read, true⟩, ⟨0, 512, 38685626227668133590597632, .pure, true⟩, ⟨256, 38685626227668133590597632, 77371252455336267181195264, .read, true⟩, ⟨0, 512, 154742504910672534362390528, .pure, true⟩, ⟨1024, 154742504910672534362390528, 309485009821345068724781056, .read, true⟩, ⟨0, 512, 618970019642690137449562112, .pure, true⟩, ⟨4096, 618970019642690137449562112, 1237940039285380274899124224, .read, true⟩, ⟨3, 302231454903657293676544, 4096, .pure, true⟩, ⟨16399, 1208925819614629174706176, 8192, .pure, true⟩, ⟨49215, 4835703278458516698824704, 16384, .pure, true⟩, ⟨114943, 19342813113834066795298816, 32768, .pure, true⟩, ⟨246783, 77371252455336267181195264, 65536, .pure, true⟩, ⟨511999, 309485009821345068724781056, 131072, .pure, true⟩, ⟨1048575, 1237940039285380274899124224, 262144, .pure, true⟩]
abbrev q_sha_Compress_14 : List Nat := []
def s_sha_Compress_15 : SP := (.one (.pure (some 91) false (.indexAddr 69 (.tmp 9) (.const (.int .i64 7)))) (.one (.pure (some 93) false (.move (.tmp 16))) (.one (.pure (some 95) false (.move (.tmp 16))) (.one (.pure (some 98) false (.move (.tmp 16))) (.one (.pure (some 102) false (.move (.tmp 16))) (.one (.pure (some 103) false (.move (.tmp 17))) (.one (.pure (some 104) false (.binOp .and 68 (.tmp 102) (.tmp 103) 68)) (.one (.pure (some 105) false (.move (.tmp 16))) (.one (.pure (some 106) false (.unOp .xor 68 (.tmp 105))) (.one (.pure (some 107) false (.move (.tmp 18))) (.one (.pure (some 108) false (.binOp .and 68 (.tmp 106) (.tmp 107) 68)) (.one (.pure (some 109) false (.binOp .xor 68 (.tmp 104) (.tmp 108) 68)) (.one (.pure (some 111) false (.move (.tmp 11))) (.one (.pure (some 113) false (.move (.tmp 10))) (.one (.pure (some 114) false (.indexAddr 77 (.tmp 5) (.tmp 113))) (.one (.read (some 92) false (.load 68 (.tmp 91))) (.one (.read (some 115) false (.load 68 (.tmp 114))) (.one (.call (some 94) false ⟨.value (.func 51), #[.tmp 93, .const (.int .i64 6)], #[68, 3]⟩) (.one (.call (some 96) false ⟨.value (.func 51), #[.tmp 95, .const (.int .i64 11)], #[68, 3]⟩) (.one (.pure (some 97) false (.binOp .xor 68 (.tmp 94) (.tmp 96) 68)) (.one (.call (some 99) false ⟨.value (.func 51), #[.tmp 98, .const (.int .i64 25)], #[68, 3]⟩) (.one (.pure (some 100) false (.binOp .xor 68 (.tmp 97) (.tmp 99) 68)) (.one (.pure (some 101) false (.binOp .add 68 (.tmp 92) (.tmp 100) 68)) (.one (.pure (some 110) false (.binOp .add 68 (.tmp 101) (.tmp 109) 68)) (.one (.pure (some 112) false (.binOp .add 68 (.tmp 110) (.tmp 111) 68)) (.one (.pure (some 116) false (.binOp .add 68 (.tmp 112) (.tmp 115) 68)) (.one (.pure (some 19) false (.assign (.tmp 116))) .done)))))))))))))))))))))))))))
abbrev p_sha_Compress_15 : PC := (.calm 0 103285762 (.calm 2 103286632 (.calm 4 103286624 (.calm 7 103286528 (.calm 11 103555072 (.calm 12 103555072 (.calm 13 103546880 (.calm 14 103710720 (.calm 15 103677952 (.calm 16 103677952 (.calm 17 103546880 (.calm 18 103284736 (.calm 20 102760448 (.calm 22 125829120 (.calm 23 117440512 (.calm 1 103285760 (.calm 24 100663296 (.act 3 (.act 5 (.calm 6 103286272 (.act 8 (.calm 9 103285760 (.calm 10 103284736 (.calm 19 102760448 (.calm 21 100663296 (.calm 25 67108864 (.calm 26 0 .done)))))))))))))))))))))))))))
abbrev g_sha_Compress_15 : List Dg := [⟨0, 512, 2475880078570760549798248448, .pure, true⟩, ⟨1, 2475880078570760549798248448, 4951760157141521099596496896, .read, true⟩, ⟨0, 65536, 9903520314283042199192993792, .pure, true⟩, ⟨4, 9903520314283042199192993792, 19807040628566084398385987584, .call, true⟩, ⟨0, 65536, 39614081257132168796771975168, .pure, true⟩, ⟨24, 39614081257132168796771975168, 79228162514264337593543950336, .call, true⟩, ⟨40, 99035203142830421991929937920, 158456325028528675187087900672, .pure, true⟩, ⟨0, 65536, 316912650057057350374175801344, .pure, true⟩, ⟨160, 316912650057057350374175801344, 633825300114114700748351602688, .call, true⟩, ⟨320, 792281625142643375935439503360, 1267650600228229401496703205376, .pure, true⟩, ⟨514, 1272602360385370922596299702272, 2535301200456458802993406410752, .pure, true⟩, ⟨0, 65536, 5070602400912917605986812821504, .pure, true⟩, ⟨0, 131072, 10141204801825835211973625643008, .pure, true⟩, ⟨6144, 15211807202738752817960438464512, 20282409603651670423947251286016, .pure, true⟩, ⟨0, 65536, 40564819207303340847894502572032, .pure, true⟩, ⟨16384, 40564819207303340847894502572032, 81129638414606681695789005144064, .pure, true⟩, ⟨0, 262144, 162259276829213363391578010288128, .pure, true⟩, ⟨98304, 243388915243820045087367015432192, 324518553658426726783156020576256, .pure, true⟩, ⟨139264, 344800963262078397207103271862272, 649037107316853453566312041152512, .pure, true⟩, ⟨263168, 651572408517309912369305447563264, 1298074214633706907132624082305024, .pure, true⟩, ⟨0, 2048, 2596148429267413814265248164610048, .pure, true⟩, ⟨1572864, 3894222643901120721397872246915072, 5192296858534827628530496329220096, .pure, true⟩, ⟨0, 1024, 10384593717069655257060992658440192, .pure, true⟩, ⟨4194304, 10384593717069655257060992658440224, 20769187434139310514121985316880384, .pure, true⟩, ⟨8388608, 20769187434139310514121985316880384, 41538374868278621028243970633760768, .read, true⟩, ⟨18874368, 46730671726813448656774466962980864, 83076749736557242056487941267521536, .pure, true⟩, ⟨67108863, 83076749736557242056487941267521536, 524288, .pure, true⟩]
abbrev q_sha_Compress_15 : List Nat := []
def s_sha_Compress_16 : List AStep := [.pure (some 117) false (.move (.tmp 12)), .call (some 118) false ⟨.value (.func 51), #[.tmp 117, .const (.int .i64 2)], #[68, 3]⟩, .pure (some 119) false (.move (.tmp 12)), .call (some 120) false ⟨.value (.func 51), #[.tmp 119, .const (.int .i64 13)], #[68, 3]⟩, .pure (some 121) false (.binOp .xor 68 (.tmp 118) (.tmp 120) 68), .pure (some 122) false (.move (.tmp 12)), .call (some 123) false ⟨.value (.func 51), #[.tmp 122, .const (.int .i64 22)], #[68, 3]⟩, .pure (some 124) false (.binOp .xor 68 (.tmp 121) (.tmp 123) 68), .pure (some 125) false (.move (.tmp 12)), .pure (some 126) false (.move (.tmp 13)), .pure (some 127) false (.binOp .and 68 (.tmp 125) (.tmp 126) 68), .pure (some 128) false (.move (.tmp 12)), .pure (some 129) false (.move (.tmp 14)), .pure (some 130) false (.binOp .and 68 (.tmp 128) (.tmp 129) 68), .pure (some 131) false (.binOp .xor 68 (.tmp 127) (.tmp 130) 68), .pure (some 132) false (.move (.tmp 13)), .pure (some 133) false (.move (.tmp 14)), .pure (some 134) false (.binOp .and 68 (.tmp 132) (.tmp 133) 68), .pure (some 135) false (.binOp .xor 68 (.tmp 131) (.tmp 134) 68), .pure (some 136) false (.binOp .add 68 (.tmp 124) (.tmp 135) 68), .pure (some 20) false (.assign (.tmp 136))]
abbrev p_sha_Compress_16 : List Nat := [0, 1, 2, 3, 4, 5, 6, 7, 8, 9, 10, 11, 12, 13, 14, 15, 16, 17, 18, 19, 20]
def s_sha_Compress_17 : List AStep := [.pure (some 137) false (.move (.tmp 19)), .pure (some 138) false (.move (.tmp 20)), .pure (some 139) false (.binOp .add 68 (.tmp 137) (.tmp 138) 68), .pure (some 140) false (.move (.tmp 12)), .pure (some 141) false (.move (.tmp 13)), .pure (some 142) false (.move (.tmp 14)), .pure (some 143) false (.move (.tmp 15)), .pure (some 144) false (.move (.tmp 19)), .pure (some 145) false (.binOp .add 68 (.tmp 143) (.tmp 144) 68), .pure (some 146) false (.move (.tmp 16)), .pure (some 147) false (.move (.tmp 17)), .pure (some 148) false (.move (.tmp 18)), .pure (some 149) false (.build 69 #[(0, .tmp 139), (1, .tmp 140), (2, .tmp 141), (3, .tmp 142), (4, .tmp 145), (5, .tmp 146), (6, .tmp 147), (7, .tmp 148)]), .eff none (.store 69 (.tmp 9) (.tmp 149))]
abbrev p_sha_Compress_17 : List Nat := [0, 1, 2, 3, 4, 5, 6, 7, 8, 9, 10, 11, 12, 13]
def s_sha_Compress_18 : List AStep := [.pure (some 150) false (.binOp .add 3 (.tmp 73) (.const (.int .i64 1)) 3), .pure (some 73) false (.move (.tmp 150))]
abbrev p_sha_Compress_18 : List Nat := [0, 1]
def s_sha_Compress_19 : List AStep := [.pure (some 151) false (.move (.const (.int .i64 0)))]
abbrev p_sha_Compress_19 : List Nat := [0]
def s_sha_Compress_20 : List AStep := [.pure (some 152) false (.binOp .lss 3 (.tmp 151) (.const (.int .i64 8)) 3)]
abbrev p_sha_Compress_20 : List Nat := [0]
def s_sha_Compress_21 : List AStep := [.pure (some 153) false (.move (.tmp 151)), .pure (some 21) false (.assign (.tmp 153))]
abbrev p_sha_Compress_21 : List Nat := [0, 1]
def s_sha_Compress_22 : SP := (.one (.pure (some 154) false (.move (.tmp 21))) (.one (.pure (some 155) false (.indexAddr 69 (.tmp 9) (.tmp 154))) (.one (.pure (some 157) false (.move (.tmp 21))) (.one (.pure (some 158) false (.indexAddr 69 (.tmp 2) (.tmp 157))) (.one (.read (some 156) false (.load 68 (.tmp 155))) (.one (.read (some 159) false (.load 68 (.tmp 158))) (.one (.pure (some 160) false (.binOp .add 68 (.tmp 156) (.tmp 159) 68)) (.one (.pure (some 161) false (.indexAddr 69 (.tmp 9) (.tmp 154))) (.one (.eff none (.store 68 (.tmp 161) (.tmp 160))) .done)))))))))
abbrev p_sha_Compress_22 : PC := (.calm 0 454 (.calm 1 452 (.calm 3 496 (.calm 4 480 (.calm 2 448 (.calm 5 448 (.calm 6 384 (.calm 7 256 (.act 8 .done)))))))))
abbrev g_sha_Compress_22 : List Dg := [⟨0, 2097152, 22835963083295358096932575511191922182123945984, .pure, true⟩, ⟨1, 22835963083295358096932575511191922182123946496, 45671926166590716193865151022383844364247891968, .pure, true⟩, ⟨2, 45671926166590716193865151022383844364247891968, 91343852333181432387730302044767688728495783936, .read, true⟩, ⟨0, 2097152, 182687704666362864775460604089535377456991567872, .pure, true⟩, ⟨8, 182687704666362864775460604089535377456991567876, 365375409332725729550921208179070754913983135744, .pure, true⟩, ⟨16, 365375409332725729550921208179070754913983135744, 730750818665451459101842416358141509827966271488, .read, true⟩, ⟨36, 822094670998632891489572718402909198556462055424, 1461501637330902918203684832716283019655932542976, .pure, true⟩, ⟨127, 22835963083295358096932575511191922182123946496, 2923003274661805836407369665432566039311865085952, .pure, true⟩, ⟨255, 4384504911992708754611054498148849058967797628928, 0, .eff, false⟩]
abbrev q_sha_Compress_22 : List Nat := []
def s_sha_Compress_23 : List AStep := [.pure (some 162) false (.binOp .add 3 (.tmp 151) (.const (.int .i64 1)) 3), .pure (some 151) false (.move (.tmp 162))]
abbrev p_sha_Compress_23 : List Nat := [0, 1]
def s_sha_Compress_24 : List AStep := [.read (some 163) false (.load 69 (.tmp 9)), .eff none (.store 69 (.tmp 4) (.tmp 163))]
abbrev p_sha_Compress_24 : List Nat := [0, 1]

/-! erewhile/erewhileref03.Primes -/
abbrev n_ref03_Primes : Nat := 46
theorem func_ref03_Primes : Try.prog.funcs[n_ref03_Primes]? = some Try.f46 := Try.func46
theorem call_ref03_Primes : ∀ args w, (callFunc n_ref03_Primes args).run Try.prog w = .ok (.enter n_ref03_Primes args) w := Try.call46
theorem nt_ref03_Primes : Try.f46.ntmps = 19 := Try.ntmps46
theorem rs_ref03_Primes : Try.f46.results.toList = [.tmp 2] := by rw [Try.results46]
def s_ref03_Primes_0 : List AStep := [.pure (some 2) false (.assign (.const (.slice none 0 0)))]
abbrev p_ref03_Primes_0 : List Nat := [0]
def s_ref03_Primes_1 : List AStep := [.eff (some 5) (.buildSlice 43 0 #[]), .pure (some 3) false (.assign (.tmp 5))]
abbrev p_ref03_Primes_1 : List Nat := [0, 1]
def s_ref03_Primes_2 : List AStep := [.pure (some 4) false (.assign (.const (.int .i64 2)))]
abbrev p_ref03_Primes_2 : List Nat := [0]
def s_ref03_Primes_3 : List AStep := [.pure (some 6) false (.move (.tmp 3)), .pure (some 7) false (.call (.mk (.builtin .len) #[.tmp 6] #[43])), .pure (some 8) false (.move (.tmp 0)), .pure (some 9) false (.binOp .lss 3 (.tmp 7) (.tmp 8) 3)]
abbrev p_ref03_Primes_3 : List Nat := [0, 1, 2, 3]
def s_ref03_Primes_5 : List AStep := [.pure (some 12) false (.move (.tmp 4)), .call (some 13) false ⟨.value (.func 53), #[.tmp 12], #[3]⟩]
abbrev p_ref03_Primes_5 : List Nat := [0, 1]
def s_ref03_Primes_6 : List AStep := [.pure (some 14) false (.move (.tmp 3)), .pure (some 15) false (.move (.tmp 4)), .eff (some 16) (.buildSlice 43 1 #[(0, .tmp 15)]), .eff (some 17) (.call (.mk (.builtin .append) #[.tmp 14, .tmp 16] #[43, 43])), .pure (some 3) false (.assign (.tmp 17))]
abbrev p_ref03_Primes_6 : List Nat := [0, 1, 2, 3, 4]
def s_ref03_Primes_4 : List AStep := [.pure (some 10) false (.move (.tmp 4)), .pure (some 11) false (.binOp .add 3 (.tmp 10) (.const (.int .i64 1)) 3), .pure (some 4) false (.assign (.tmp 11))]
abbrev p_ref03_Primes_4 : List Nat := [0, 1, 2]
def s_ref03_Primes_7 : List AStep := [.pure (some 18) false (.move (.tmp 3)), .pure (some 2) false (.assign (.tmp 18))]
abbrev p_ref03_Primes_7 : List Nat := [0, 1]

/-! erewhile/erewhileref03.Root -/
abbrev n_ref03_Root : Nat := 47
theorem func_ref03_Root : Try.prog.funcs[n_ref03_Root]? = some Try.f47 := Try.func47
theorem call_ref03_Root : ∀ args w, (callFunc n_ref03_Root args).run Try.prog w = .ok (.enter n_ref03_Root args) w := Try.call47
theorem nt_ref03_Root : Try.f47.ntmps = 56 := Try.ntmps47
theorem rs_ref03_Root : Try.f47.results.toList = [.tmp 4] := by rw [Try.results47]
def s_ref03_Root_0 : List AStep := [.pure (some 4) false (.assign (.const (.int .u32 0)))]
abbrev p_ref03_Root_0 : List Nat := [0]
def s_ref03_Root_1 : List AStep := [.pure (some 12) false (.move (.tmp 1)), .pure (some 13) false (.binOp .mul 3 (.const (.int .i64 2)) (.tmp 12) 3), .pure (some 5) false (.assign (.tmp 13))]
abbrev p_ref03_Root_1 : List Nat := [0, 1, 2]
def s_ref03_Root_2 : List AStep := [.pure (some 14) false (.move (.tmp 5)), .pure (some 15) false (.binOp .add 3 (.tmp 14) (.const (.int .i64 1)) 3), .eff (some 16) (.makeSlice 84 (.tmp 15) (.tmp 15)), .pure (some 6) false (.assign (.tmp 16))]
abbrev p_ref03_Root_2 : List Nat := [0, 1, 2, 3]
def s_ref03_Root_3 : List AStep := [.pure (some 17) false (.move (.tmp 6)), .pure (some 18) false (.move (.tmp 5)), .pure (some 19) false (.move (.tmp 0)), .pure (some 20) false (.convert 3 76 (.tmp 19)), .pure (some 21) false (.indexAddr 84 (.tmp 17) (.tmp 18)), .eff none (.store 76 (.tmp 21) (.tmp 20))]
abbrev p_ref03_Root_3 : List Nat := [0, 1, 2, 3, 4, 5]
def s_ref03_Root_4 : List AStep := [.pure (some 7) false (.assign (.const (.int .u64 0)))]
abbrev p_ref03_Root_4 : List Nat := [0]
def s_ref03_Root_5 : List AStep := [.pure (some 8) false (.assign (.const (.int .i64 36)))]
abbrev p_ref03_Root_5 : List Nat := [0]
def s_ref03_Root_6 : List AStep := [.pure (some 22) false (.move (.tmp 8)), .pure (some 23) false (.binOp .geq 3 (.tmp 22) (.const (.int .i64 0)) 3)]
abbrev p_ref03_Root_6 : List Nat := [0, 1]
def s_ref03_Root_8 : List AStep := [.pure (some 26) false (.move (.tmp 7)), .pure (some 27) false (.move (.tmp 8)), .pure (some 28) false (.convert 3 79 (.tmp 27)), .pure (some 29) false (.binOp .shl 76 (.const (.int .u64 1)) (.tmp 28) 79), .pure (some 30) false (.binOp .add 76 (.tmp 26) (.tmp 29) 76), .pure (some 9) false (.assign (.tmp 30))]
abbrev p_ref03_Root_8 : List Nat := [0, 1, 2, 3, 4, 5]
def s_ref03_Root_9 : List AStep := [.pure (some 31) false (.move (.tmp 9)), .pure (some 32) false (.binOp .rem 76 (.tmp 31) (.const (.int .u64 65536)) 76), .pure (some 33) false (.move (.tmp 9)), .pure (some 34) false (.binOp .quo 76 (.tmp 33) (.const (.int .u64 65536)) 76), .pure (some 35) false (.binOp .rem 76 (.tmp 34) (.const (.int .u64 65536)) 76), .pure (some 36) false (.move (.tmp 9)), .pure (some 37) false (.binOp .quo 76 (.tmp 36) (.const (.int .u64 65536)) 76), .pure (some 38) false (.binOp .quo 76 (.tmp 37) (.const (.int .u64 65536)) 76), .eff (some 39) (.buildSlice 84 3 #[(0, .tmp 32), (1, .tmp 35), (2, .tmp 38)]), .pure (some 10) false (.assign (.tmp 39))]
abbrev p_ref03_Root_9 : List Nat := [0, 1, 2, 3, 4, 5, 6, 7, 8, 9]
def s_ref03_Root_10 : List AStep := [.pure (some 40) false (.move (.tmp 10)), .pure (some 41) false (.move (.tmp 10)), .call (some 42) false ⟨.value (.func 54), #[.tmp 40, .tmp 41], #[84, 84]⟩, .pure (some 11) false (.assign (.tmp 42))]
abbrev p_ref03_Root_10 : List Nat := [0, 1, 2, 3]
def s_ref03_Root_11 : List AStep := [.pure (some 43) false (.move (.tmp 1)), .pure (some 44) false (.binOp .eql 3 (.tmp 43) (.const (.int .i64 3)) 3)]
abbrev p_ref03_Root_11 : List Nat := [0, 1]
def s_ref03_Root_12 : List AStep := [.pure (some 45) false (.move (.tmp 11)), .pure (some 46) false (.move (.tmp 10)), .call (some 47) false ⟨.value (.func 54), #[.tmp 45, .tmp 46], #[84, 84]⟩, .pure (some 11) false (.assign (.tmp 47))]
abbrev p_ref03_Root_12 : List Nat := [0, 1, 2, 3]
def s_ref03_Root_13 : List AStep := [.pure (some 48) false (.move (.tmp 11)), .pure (some 49) false (.move (.tmp 6)), .call (some 50) false ⟨.value (.func 55), #[.tmp 48, .tmp 49], #[84, 84]⟩, .pure (some 51) false (.unOp .not 4 (.tmp 50))]
abbrev p_ref03_Root_13 : List Nat := [0, 1, 2, 3]
def s_ref03_Root_14 : List AStep := [.pure (some 52) false (.move (.tmp 9)), .pure (some 7) false (.assign (.tmp 52))]
abbrev p_ref03_Root_14 : List Nat := [0, 1]
def s_ref03_Root_7 : List AStep := [.pure (some 24) false (.move (.tmp 8)), .pure (some 25) false (.binOp .sub 3 (.tmp 24) (.const (.int .i64 1)) 3), .pure (some 8) false (.assign (.tmp 25))]
abbrev p_ref03_Root_7 : List Nat := [0, 1, 2]
def s_ref03_Root_15 : List AStep := [.pure (some 53) false (.move (.tmp 7)), .pure (some 54) false (.binOp .rem 76 (.tmp 53) (.const (.int .u64 4294967296)) 76), .pure (some 55) false (.convert 76 68 (.tmp 54)), .pure (some 4) false (.assign (.tmp 55))]
abbrev p_ref03_Root_15 : List Nat := [0, 1, 2, 3]

/-! erewhile/erewhileref03.turn -/
abbrev n_ref03_turn : Nat := 48
theorem func_ref03_turn : Try.prog.funcs[n_ref03_turn]? = some Try.f48 := Try.func48
theorem call_ref03_turn : ∀ args w, (callFunc n_ref03_turn args).run Try.prog w = .ok (.enter n_ref03_turn args) w := Try.call48
theorem nt_ref03_turn : Try.f48.ntmps = 15 := Try.ntmps48
theorem rs_ref03_turn : Try.f48.results.toList = [.tmp 4] := by rw [Try.results48]
def s_ref03_turn_0 : List AStep := [.pure (some 4) false (.assign (.const (.int .u32 0)))]
abbrev p_ref03_turn_0 : List Nat := [0]
def s_ref03_turn_1 : List AStep := [.pure (some 5) false (.move (.tmp 0)), .pure (some 6) false (.move (.tmp 1)), .pure (some 7) false (.binOp .shl 68 (.const (.int .u32 1)) (.tmp 6) 79), .pure (some 8) false (.binOp .quo 68 (.tmp 5) (.tmp 7) 68), .pure (some 9) false (.move (.tmp 0)), .pure (some 10) false (.move (.tmp 1)), .pure (some 11) false (.binOp .sub 79 (.const (.int .u64 32)) (.tmp 10) 79), .pure (some 12) false (.binOp .shl 68 (.const (.int .u32 1)) (.tmp 11) 79), .pure (some 13) false (.binOp .mul 68 (.tmp 9) (.tmp 12) 68), .pure (some 14) false (.binOp .add 68 (.tmp 8) (.tmp 13) 68), .pure (some 4) false (.assign (.tmp 14))]
abbrev p_ref03_turn_1 : List Nat := [0, 1, 2, 3, 4, 5, 6, 7, 8, 9, 10]

/-! erewhile/erewhileref03.Rounds -/
abbrev n_ref03_Rounds : Nat := 49
theorem func_ref03_Rounds : Try.prog.funcs[n_ref03_Rounds]? = some Try.f49 := Try.func49
theorem call_ref03_Rounds : ∀ args w, (callFunc n_ref03_Rounds args).run Try.prog w = .ok (.enter n_ref03_Rounds args) w := Try.call49
theorem nt_ref03_Rounds : Try.f49.ntmps = 18 := Try.ntmps49
theorem rs_ref03_Rounds : Try.f49.results.toList = [.cell 0 77] := by rw [Try.results49]
def s_ref03_Rounds_0 : List AStep := [.eff (some 0) (.alloc 77)]
abbrev p_ref03_Rounds_0 : List Nat := [0]
def s_ref03_Rounds_1 : List AStep := [.pure (some 4) false (.build 77 #[]), .eff (some 1) (.alloc 77), .eff none (.store 77 (.tmp 1) (.tmp 4))]
abbrev p_ref03_Rounds_1 : List Nat := [0, 1, 2]
def s_ref03_Rounds_2 : List AStep := [.call (some 5) false ⟨.value (.func 46), #[.const (.int .i64 64)], #[3]⟩, .pure (some 2) false (.assign (.tmp 5))]
abbrev p_ref03_Rounds_2 : List Nat := [0, 1]
def s_ref03_Rounds_3 : List AStep := [.pure (some 3) false (.assign (.const (.int .i64 0)))]
abbrev p_ref03_Rounds_3 : List Nat := [0]
def s_ref03_Rounds_4 : List AStep := [.pure (some 6) false (.move (.tmp 3)), .pure (some 7) false (.binOp .lss 3 (.tmp 6) (.const (.int .i64 64)) 3)]
abbrev p_ref03_Rounds_4 : List Nat := [0, 1]
def s_ref03_Rounds_6 : List AStep := [.pure (some 10) false (.move (.tmp 3)), .pure (some 11) false (.move (.tmp 2)), .pure (some 12) false (.move (.tmp 3)), .pure (some 13) false (.indexAddr 43 (.tmp 11) (.tmp 12)), .read (some 14) false (.load 3 (.tmp 13)), .call (some 15) false ⟨.value (.func 47), #[.tmp 14, .const (.int .i64 3)], #[3, 3]⟩, .pure (some 16) false (.indexAddr 77 (.tmp 1) (.tmp 10)), .eff none (.store 68 (.tmp 16) (.tmp 15))]
abbrev p_ref03_Rounds_6 : List Nat := [0, 1, 2, 3, 4, 5, 6, 7]
def s_ref03_Rounds_5 : List AStep := [.pure (some 8) false (.move (.tmp 3)), .pure (some 9) false (.binOp .add 3 (.tmp 8) (.const (.int .i64 1)) 3), .pure (some 3) false (.assign (.tmp 9))]
abbrev p_ref03_Rounds_5 : List Nat := [0, 1, 2]
def s_ref03_Rounds_7 : List AStep := [.read (some 17) false (.load 77 (.tmp 1)), .eff none (.store 77 (.tmp 0) (.tmp 17))]
abbrev p_ref03_Rounds_7 : List Nat := [0, 1]

/-! erewhile/sha.word -/
abbrev n_sha_word : Nat := 50
theorem func_sha_word : Try.prog.funcs[n_sha_word]? = some Try.f50 := Try.func50
theorem call_sha_word : ∀ args w, (callFunc n_sha_word args).run Try.prog w = .ok (.enter n_sha_word args) w := Try.call50
theorem nt_sha_word : Try.f50.ntmps = 25 := Try.ntmps50
theorem rs_sha_word : Try.f50.results.toList = [.tmp 2] := by rw [Try.results50]
def s_sha_word_0 : List AStep := [.pure (some 2) false (.assign (.const (.int .u32 0)))]
abbrev p_sha_word_0 : List Nat := [0]
def s_sha_word_1 : SP := (.one (.pure (some 3) false (.move (.tmp 0))) (.one (.pure (some 4) false (.indexAddr 60 (.tmp 3) (.const (.int .i64 0)))) (.one (.pure (some 8) false (.move (.tmp 0))) (.one (.pure (some 9) false (.indexAddr 60 (.tmp 8) (.const (.int .i64 1)))) (.one (.pure (some 14) false (.move (.tmp 0))) (.one (.pure (some 15) false (.indexAddr 60 (.tmp 14) (.const (.int .i64 2)))) (.one (.pure (some 20) false (.move (.tmp 0))) (.one (.pure (some 21) false (.indexAddr 60 (.tmp 20) (.const (.int .i64 3)))) (.one (.read (some 5) false (.load 5 (.tmp 4))) (.one (.pure (some 6) false (.convert 5 68 (.tmp 5))) (.one (.pure (some 7) false (.binOp .shl 68 (.tmp 6) (.const (.int .u64 24)) 79)) (.one (.read (some 10) false (.load 5 (.tmp 9))) (.one (.pure (some 11) false (.convert 5 68 (.tmp 10))) (.one (.pure (some 12) false (.binOp .shl 68 (.tmp 11) (.const (.int .u64 16)) 79)) (.one (.pure (some 13) false (.binOp .or 68 (.tmp 7) (.tmp 12) 68)) (.one (.read (some 16) false (.load 5 (.tmp 15))) (.one (.pure (some 17) false (.convert 5 68 (.tmp 16))) (.one (.pure (some 18) false (.binOp .shl 68 (.tmp 17) (.const (.int .u64 8)) 79)) (.one (.pure (some 19) false (.binOp .or 68 (.tmp 13) (.tmp 18) 68)) (.one (.read (some 22) false (.load 5 (.tmp 21))) (.one (.pure (some 23) false (.convert 5 68 (.tmp 22))) (.one (.pure (some 24) false (.binOp .or 68 (.tmp 19) (.tmp 23) 68)) (.one (.pure (some 2) false (.assign (.tmp 24))) .done)))))))))))))))))))))))
abbrev p_sha_word_1 : PC := (.calm 0 6358046 (.calm 1 6358044 (.calm 5 6358976 (.calm 6 6358912 (.calm 11 6418432 (.calm 12 6414336 (.calm 17 8126464 (.calm 18 7864320 (.calm 2 6358040 (.calm 3 6358032 (.calm 4 6358016 (.calm 7 6358784 (.calm 8 6358528 (.calm 9 6358016 (.calm 10 6356992 (.calm 13 6406144 (.calm 14 6389760 (.calm 15 6356992 (.calm 16 6291456 (.calm 19 7340032 (.calm 20 6291456 (.calm 21 4194304 (.calm 22 0 .done)))))))))))))))))))))))
abbrev g_sha_word_1 : List Dg := [⟨0, 1, 8, .pure, true⟩, ⟨1, 8, 16, .pure, true⟩, ⟨2, 16, 32, .read, true⟩, ⟨4, 32, 64, .pure, true⟩, ⟨8, 64, 128, .pure, true⟩, ⟨0, 1, 256, .pure, true⟩, ⟨32, 256, 512, .pure, true⟩, ⟨64, 512, 1024, .read, true⟩, ⟨128, 1024, 2048, .pure, true⟩, ⟨256, 2048, 4096, .pure, true⟩, ⟨528, 4224, 8192, .pure, true⟩, ⟨0, 1, 16384, .pure, true⟩, ⟨2048, 16384, 32768, .pure, true⟩, ⟨4096, 32768, 65536, .read, true⟩, ⟨8192, 65536, 131072, .pure, true⟩, ⟨16384, 131072, 262144, .pure, true⟩, ⟨33792, 270336, 524288, .pure, true⟩, ⟨0, 1, 1048576, .pure, true⟩, ⟨131072, 1048576, 2097152, .pure, true⟩, ⟨262144, 2097152, 4194304, .read, true⟩, ⟨524288, 4194304, 8388608, .pure, true⟩, ⟨1114112, 8912896, 16777216, .pure, true⟩, ⟨4194303, 16777216, 4, .pure, true⟩]
abbrev q_sha_word_1 : List Nat := []

/-! erewhile/sha.turn -/
abbrev n_sha_turn : Nat := 51
theorem func_sha_turn : Try.prog.funcs[n_sha_turn]? = some Try.f51 := Try.func51
theorem call_sha_turn : ∀ args w, (callFunc n_sha_turn args).run Try.prog w = .ok (.enter n_sha_turn args) w := Try.call51
theorem nt_sha_turn : Try.f51.ntmps = 9 := Try.ntmps51
theorem rs_sha_turn : Try.f51.results.toList = [.tmp 4] := by rw [Try.results51]
def s_sha_turn_0 : List AStep := [.pure (some 4) false (.assign (.const (.int .u32 0)))]
abbrev p_sha_turn_0 : List Nat := [0]
def s_sha_turn_1 : List AStep := [.pure (some 5) false (.move (.tmp 0)), .pure (some 6) false (.move (.tmp 1)), .pure (some 7) false (.unOp .neg 3 (.tmp 6)), .call (some 8) false ⟨.value (.func 56), #[.tmp 5, .tmp 7], #[68, 3]⟩, .pure (some 4) false (.assign (.tmp 8))]
abbrev p_sha_turn_1 : List Nat := [0, 1, 2, 3, 4]

/-! erewhile/sha.rounds -/
abbrev n_sha_rounds : Nat := 52
theorem func_sha_rounds : Try.prog.funcs[n_sha_rounds]? = some Try.f52 := Try.func52
theorem call_sha_rounds : ∀ args w, (callFunc n_sha_rounds args).run Try.prog w = .ok (.enter n_sha_rounds args) w := Try.call52
theorem nt_sha_rounds : Try.f52.ntmps = 2 := Try.ntmps52
theorem rs_sha_rounds : Try.f52.results.toList = [.cell 0 77] := by rw [Try.results52]
def s_sha_rounds_0 : List AStep := [.eff (some 0) (.alloc 77)]
abbrev p_sha_rounds_0 : List Nat := [0]
def s_sha_rounds_1 : List AStep := [.pure (some 1) false (.build 77 #[(0, .const (.int .u32 1116352408)), (1, .const (.int .u32 1899447441)), (2, .const (.int .u32 3049323471)), (3, .const (.int .u32 3921009573)), (4, .const (.int .u32 961987163)), (5, .const (.int .u32 1508970993)), (6, .const (.int .u32 2453635748)), (7, .const (.int .u32 2870763221)), (8, .const (.int .u32 3624381080)), (9, .const (.int .u32 310598401)), (10, .const (.int .u32 607225278)), (11, .const (.int .u32 1426881987)), (12, .const (.int .u32 1925078388)), (13, .const (.int .u32 2162078206)), (14, .const (.int .u32 2614888103)), (15, .const (.int .u32 3248222580)), (16, .const (.int .u32 3835390401)), (17, .const (.int .u32 4022224774)), (18, .const (.int .u32 264347078)), (19, .const (.int .u32 604807628)), (20, .const (.int .u32 770255983)), (21, .const (.int .u32 1249150122)), (22, .const (.int .u32 1555081692)), (23, .const (.int .u32 1996064986)), (24, .const (.int .u32 2554220882)), (25, .const (.int .u32 2821834349)), (26, .const (.int .u32 2952996808)), (27, .const (.int .u32 3210313671)), (28, .const (.int .u32 3336571891)), (29, .const (.int .u32 3584528711)), (30, .const (.int .u32 113926993)), (31, .const (.int .u32 338241895)), (32, .const (.int .u32 666307205)), (33, .const (.int .u32 773529912)), (34, .const (.int .u32 1294757372)), (35, .const (.int .u32 1396182291)), (36, .const (.int .u32 1695183700)), (37, .const (.int .u32 1986661051)), (38, .const (.int .u32 2177026350)), (39, .const (.int .u32 2456956037)), (40, .const (.int .u32 2730485921)), (41, .const (.int .u32 2820302411)), (42, .const (.int .u32 3259730800)), (43, .const (.int .u32 3345764771)), (44, .const (.int .u32 3516065817)), (45, .const (.int .u32 3600352804)), (46, .const (.int .u32 4094571909)), (47, .const (.int .u32 275423344)), (48, .const (.int .u32 430227734)), (49, .const (.int .u32 506948616)), (50, .const (.int .u32 659060556)), (51, .const (.int .u32 883997877)), (52, .const (.int .u32 958139571)), (53, .const (.int .u32 1322822218)), (54, .const (.int .u32 1537002063)), (55, .const (.int .u32 1747873779)), (56, .const (.int .u32 1955562222)), (57, .const (.int .u32 2024104815)), (58, .const (.int .u32 2227730452)), (59, .const (.int .u32 2361852424)), (60, .const (.int .u32 2428436474)), (61, .const (.int .u32 2756734187)), (62, .const (.int .u32 3204031479)), (63, .const (.int .u32 3329325298))]), .eff none (.store 77 (.tmp 0) (.tmp 1))]
abbrev p_sha_rounds_1 : List Nat := [0, 1]

/-! erewhile/erewhileref03.Prime -/
abbrev n_ref03_Prime : Nat := 53
theorem func_ref03_Prime : Try.prog.funcs[n_ref03_Prime]? = some Try.f53 := Try.func53
theorem call_ref03_Prime : ∀ args w, (callFunc n_ref03_Prime args).run Try.prog w = .ok (.enter n_ref03_Prime args) w := Try.call53
theorem nt_ref03_Prime : Try.f53.ntmps = 15 := Try.ntmps53
theorem rs_ref03_Prime : Try.f53.results.toList = [.tmp 2] := by rw [Try.results53]
def s_ref03_Prime_0 : List AStep := [.pure (some 2) false (.assign (.const (.bool false)))]
abbrev p_ref03_Prime_0 : List Nat := [0]
def s_ref03_Prime_1 : List AStep := [.pure (some 3) false (.assign (.const (.int .i64 2)))]
abbrev p_ref03_Prime_1 : List Nat := [0]
def s_ref03_Prime_2 : List AStep := [.pure (some 4) false (.move (.tmp 3)), .pure (some 5) false (.move (.tmp 0)), .pure (some 6) false (.binOp .lss 3 (.tmp 4) (.tmp 5) 3)]
abbrev p_ref03_Prime_2 : List Nat := [0, 1, 2]
def s_ref03_Prime_4 : List AStep := [.pure (some 9) false (.move (.tmp 0)), .pure (some 10) false (.move (.tmp 3)), .pure (some 11) false (.binOp .rem 3 (.tmp 9) (.tmp 10) 3), .pure (some 12) false (.binOp .eql 3 (.tmp 11) (.const (.int .i64 0)) 3)]
abbrev p_ref03_Prime_4 : List Nat := [0, 1, 2, 3]
def s_ref03_Prime_5 : List AStep := [.pure (some 2) false (.assign (.const (.bool false)))]
abbrev p_ref03_Prime_5 : List Nat := [0]
def s_ref03_Prime_3 : List AStep := [.pure (some 7) false (.move (.tmp 3)), .pure (some 8) false (.binOp .add 3 (.tmp 7) (.const (.int .i64 1)) 3), .pure (some 3) false (.assign (.tmp 8))]
abbrev p_ref03_Prime_3 : List Nat := [0, 1, 2]
def s_ref03_Prime_6 : List AStep := [.pure (some 13) false (.move (.tmp 0)), .pure (some 14) false (.binOp .gtr 3 (.tmp 13) (.const (.int .i64 1)) 3), .pure (some 2) false (.assign (.tmp 14))]
abbrev p_ref03_Prime_6 : List Nat := [0, 1, 2]

/-! erewhile/erewhileref03.times -/
abbrev n_ref03_times : Nat := 54
theorem func_ref03_times : Try.prog.funcs[n_ref03_times]? = some Try.f54 := Try.func54
theorem call_ref03_times : ∀ args w, (callFunc n_ref03_times args).run Try.prog w = .ok (.enter n_ref03_times args) w := Try.call54
theorem nt_ref03_times : Try.f54.ntmps = 63 := Try.ntmps54
theorem rs_ref03_times : Try.f54.results.toList = [.tmp 4] := by rw [Try.results54]
def s_ref03_times_0 : List AStep := [.pure (some 4) false (.assign (.const (.slice none 0 0)))]
abbrev p_ref03_times_0 : List Nat := [0]
def s_ref03_times_1 : List AStep := [.pure (some 10) false (.move (.tmp 0)), .pure (some 11) false (.call (.mk (.builtin .len) #[.tmp 10] #[84])), .pure (some 12) false (.move (.tmp 1)), .pure (some 13) false (.call (.mk (.builtin .len) #[.tmp 12] #[84])), .pure (some 14) false (.binOp .add 3 (.tmp 11) (.tmp 13) 3), .eff (some 15) (.makeSlice 84 (.tmp 14) (.tmp 14)), .pure (some 5) false (.assign (.tmp 15))]
abbrev p_ref03_times_1 : List Nat := [0, 1, 2, 3, 4, 5, 6]
def s_ref03_times_2 : List AStep := [.pure (some 6) false (.assign (.const (.int .i64 0)))]
abbrev p_ref03_times_2 : List Nat := [0]
def s_ref03_times_3 : List AStep := [.pure (some 16) false (.move (.tmp 6)), .pure (some 17) false (.move (.tmp 0)), .pure (some 18) false (.call (.mk (.builtin .len) #[.tmp 17] #[84])), .pure (some 19) false (.binOp .lss 3 (.tmp 16) (.tmp 18) 3)]
abbrev p_ref03_times_3 : List Nat := [0, 1, 2, 3]
def s_ref03_times_5 : List AStep := [.pure (some 7) false (.assign (.const (.int .u64 0)))]
abbrev p_ref03_times_5 : List Nat := [0]
def s_ref03_times_6 : List AStep := [.pure (some 8) false (.assign (.const (.int .i64 0)))]
abbrev p_ref03_times_6 : List Nat := [0]
def s_ref03_times_7 : List AStep := [.pure (some 22) false (.move (.tmp 8)), .pure (some 23) false (.move (.tmp 1)), .pure (some 24) false (.call (.mk (.builtin .len) #[.tmp 23] #[84])), .pure (some 25) false (.binOp .lss 3 (.tmp 22) (.tmp 24) 3)]
abbrev p_ref03_times_7 : List Nat := [0, 1, 2, 3]
def s_ref03_times_9 : SP := (.one (.pure (some 28) false (.move (.tmp 5))) (.one (.pure (some 29) false (.move (.tmp 6))) (.one (.pure (some 30) false (.move (.tmp 8))) (.one (.pure (some 31) false (.binOp .add 3 (.tmp 29) (.tmp 30) 3)) (.one (.pure (some 32) false (.indexAddr 84 (.tmp 28) (.tmp 31))) (.one (.pure (some 34) false (.move (.tmp 0))) (.one (.pure (some 35) false (.move (.tmp 6))) (.one (.pure (some 36) false (.indexAddr 84 (.tmp 34) (.tmp 35))) (.one (.pure (some 38) false (.move (.tmp 1))) (.one (.pure (some 39) false (.move (.tmp 8))) (.one (.pure (some 40) false (.indexAddr 84 (.tmp 38) (.tmp 39))) (.one (.pure (some 44) false (.move (.tmp 7))) (.one (.read (some 33) false (.load 76 (.tmp 32))) (.one (.read (some 37) false (.load 76 (.tmp 36))) (.one (.read (some 41) false (.load 76 (.tmp 40))) (.one (.pure (some 42) false (.binOp .mul 76 (.tmp 37) (.tmp 41) 76)) (.one (.pure (some 43) false (.binOp .add 76 (.tmp 33) (.tmp 42) 76)) (.one (.pure (some 45) false (.binOp .add 76 (.tmp 43) (.tmp 44) 76)) (.one (.pure (some 9) false (.assign (.tmp 45))) .done)))))))))))))))))))
abbrev p_ref03_times_9 : PC := (.calm 0 426032 (.calm 1 426040 (.calm 2 426040 (.calm 3 426032 (.calm 4 426016 (.calm 6 443136 (.calm 7 443136 (.calm 8 442880 (.calm 10 454656 (.calm 11 454656 (.calm 12 450560 (.calm 16 393216 (.calm 5 425984 (.calm 9 442368 (.calm 13 442368 (.calm 14 425984 (.calm 15 393216 (.calm 17 262144 (.calm 18 0 .done)))))))))))))))))))
abbrev g_ref03_times_9 : List Dg := [⟨0, 32, 268435456, .pure, true⟩, ⟨0, 64, 536870912, .pure, true⟩, ⟨0, 256, 1073741824, .pure, true⟩, ⟨6, 1610612736, 2147483648, .pure, true⟩, ⟨9, 2415919104, 4294967296, .pure, true⟩, ⟨16, 4294967296, 8589934592, .read, true⟩, ⟨0, 1, 17179869184, .pure, true⟩, ⟨0, 64, 34359738368, .pure, true⟩, ⟨192, 51539607552, 68719476736, .pure, true⟩, ⟨256, 68719476736, 137438953472, .read, true⟩, ⟨0, 2, 274877906944, .pure, true⟩, ⟨0, 256, 549755813888, .pure, true⟩, ⟨3072, 824633720832, 1099511627776, .pure, true⟩, ⟨4096, 1099511627776, 2199023255552, .read, true⟩, ⟨8704, 2336462209024, 4398046511104, .pure, true⟩, ⟨16416, 4406636445696, 8796093022208, .pure, true⟩, ⟨0, 128, 17592186044416, .pure, true⟩, ⟨98304, 26388279066624, 35184372088832, .pure, true⟩, ⟨262143, 35184372088832, 512, .pure, true⟩]
abbrev q_ref03_times_9 : List Nat := []
def s_ref03_times_10 : List AStep := [.pure (some 46) false (.move (.tmp 5)), .pure (some 47) false (.move (.tmp 6)), .pure (some 48) false (.move (.tmp 8)), .pure (some 49) false (.binOp .add 3 (.tmp 47) (.tmp 48) 3), .pure (some 50) false (.move (.tmp 9)), .pure (some 51) false (.binOp .rem 76 (.tmp 50) (.const (.int .u64 65536)) 76), .pure (some 52) false (.indexAddr 84 (.tmp 46) (.tmp 49)), .eff none (.store 76 (.tmp 52) (.tmp 51))]
abbrev p_ref03_times_10 : List Nat := [0, 1, 2, 3, 4, 5, 6, 7]
def s_ref03_times_11 : List AStep := [.pure (some 53) false (.move (.tmp 9)), .pure (some 54) false (.binOp .quo 76 (.tmp 53) (.const (.int .u64 65536)) 76), .pure (some 7) false (.assign (.tmp 54))]
abbrev p_ref03_times_11 : List Nat := [0, 1, 2]
def s_ref03_times_8 : List AStep := [.pure (some 26) false (.move (.tmp 8)), .pure (some 27) false (.binOp .add 3 (.tmp 26) (.const (.int .i64 1)) 3), .pure (some 8) false (.assign (.tmp 27))]
abbrev p_ref03_times_8 : List Nat := [0, 1, 2]
def s_ref03_times_12 : List AStep := [.pure (some 55) false (.move (.tmp 5)), .pure (some 56) false (.move (.tmp 6)), .pure (some 57) false (.move (.tmp 1)), .pure (some 58) false (.call (.mk (.builtin .len) #[.tmp 57] #[84])), .pure (some 59) false (.binOp .add 3 (.tmp 56) (.tmp 58) 3), .pure (some 60) false (.move (.tmp 7)), .pure (some 61) false (.indexAddr 84 (.tmp 55) (.tmp 59)), .eff none (.store 76 (.tmp 61) (.tmp 60))]
abbrev p_ref03_times_12 : List Nat := [0, 1, 2, 3, 4, 5, 6, 7]
def s_ref03_times_4 : List AStep := [.pure (some 20) false (.move (.tmp 6)), .pure (some 21) false (.binOp .add 3 (.tmp 20) (.const (.int .i64 1)) 3), .pure (some 6) false (.assign (.tmp 21))]
abbrev p_ref03_times_4 : List Nat := [0, 1, 2]
def s_ref03_times_13 : List AStep := [.pure (some 62) false (.move (.tmp 5)), .pure (some 4) false (.assign (.tmp 62))]
abbrev p_ref03_times_13 : List Nat := [0, 1]

/-! erewhile/erewhileref03.above -/
abbrev n_ref03_above : Nat := 55
theorem func_ref03_above : Try.prog.funcs[n_ref03_above]? = some Try.f55 := Try.func55
theorem call_ref03_above : ∀ args w, (callFunc n_ref03_above args).run Try.prog w = .ok (.enter n_ref03_above args) w := Try.call55
theorem nt_ref03_above : Try.f55.ntmps = 45 := Try.ntmps55
theorem rs_ref03_above : Try.f55.results.toList = [.tmp 4] := by rw [Try.results55]
def s_ref03_above_0 : List AStep := [.pure (some 4) false (.assign (.const (.bool false)))]
abbrev p_ref03_above_0 : List Nat := [0]
def s_ref03_above_1 : List AStep := [.pure (some 9) false (.move (.tmp 0)), .pure (some 10) false (.call (.mk (.builtin .len) #[.tmp 9] #[84])), .pure (some 5) false (.assign (.tmp 10))]
abbrev p_ref03_above_1 : List Nat := [0, 1, 2]
def s_ref03_above_2 : List AStep := [.pure (some 11) false (.move (.tmp 1)), .pure (some 12) false (.call (.mk (.builtin .len) #[.tmp 11] #[84])), .pure (some 13) false (.move (.tmp 5)), .pure (some 14) false (.binOp .gtr 3 (.tmp 12) (.tmp 13) 3)]
abbrev p_ref03_above_2 : List Nat := [0, 1, 2, 3]
def s_ref03_above_3 : List AStep := [.pure (some 15) false (.move (.tmp 1)), .pure (some 16) false (.call (.mk (.builtin .len) #[.tmp 15] #[84])), .pure (some 5) false (.assign (.tmp 16))]
abbrev p_ref03_above_3 : List Nat := [0, 1, 2]
def s_ref03_above_4 : List AStep := [.pure (some 17) false (.move (.tmp 5)), .pure (some 18) false (.binOp .sub 3 (.tmp 17) (.const (.int .i64 1)) 3), .pure (some 6) false (.assign (.tmp 18))]
abbrev p_ref03_above_4 : List Nat := [0, 1, 2]
def s_ref03_above_5 : List AStep := [.pure (some 19) false (.move (.tmp 6)), .pure (some 20) false (.binOp .geq 3 (.tmp 19) (.const (.int .i64 0)) 3)]
abbrev p_ref03_above_5 : List Nat := [0, 1]
def s_ref03_above_7 : List AStep := [.pure (some 7) false (.assign (.const (.int .u64 0)))]
abbrev p_ref03_above_7 : List Nat := [0]
def s_ref03_above_8 : List AStep := [.pure (some 8) false (.assign (.const (.int .u64 0)))]
abbrev p_ref03_above_8 : List Nat := [0]
def s_ref03_above_9 : List AStep := [.pure (some 23) false (.move (.tmp 6)), .pure (some 24) false (.move (.tmp 0)), .pure (some 25) false (.call (.mk (.builtin .len) #[.tmp 24] #[84])), .pure (some 26) false (.binOp .lss 3 (.tmp 23) (.tmp 25) 3)]
abbrev p_ref03_above_9 : List Nat := [0, 1, 2, 3]
def s_ref03_above_10 : List AStep := [.pure (some 27) false (.move (.tmp 0)), .pure (some 28) false (.move (.tmp 6)), .pure (some 29) false (.indexAddr 84 (.tmp 27) (.tmp 28)), .read (some 30) false (.load 76 (.tmp 29)), .pure (some 7) false (.assign (.tmp 30))]
abbrev p_ref03_above_10 : List Nat := [0, 1, 2, 3, 4]
def s_ref03_above_11 : List AStep := [.pure (some 31) false (.move (.tmp 6)), .pure (some 32) false (.move (.tmp 1)), .pure (some 33) false (.call (.mk (.builtin .len) #[.tmp 32] #[84])), .pure (some 34) false (.binOp .lss 3 (.tmp 31) (.tmp 33) 3)]
abbrev p_ref03_above_11 : List Nat := [0, 1, 2, 3]
def s_ref03_above_12 : List AStep := [.pure (some 35) false (.move (.tmp 1)), .pure (some 36) false (.move (.tmp 6)), .pure (some 37) false (.indexAddr 84 (.tmp 35) (.tmp 36)), .read (some 38) false (.load 76 (.tmp 37)), .pure (some 8) false (.assign (.tmp 38))]
abbrev p_ref03_above_12 : List Nat := [0, 1, 2, 3, 4]
def s_ref03_above_13 : List AStep := [.pure (some 39) false (.move (.tmp 7)), .pure (some 40) false (.move (.tmp 8)), .pure (some 41) false (.binOp .neq 76 (.tmp 39) (.tmp 40) 76)]
abbrev p_ref03_above_13 : List Nat := [0, 1, 2]
def s_ref03_above_14 : List AStep := [.pure (some 42) false (.move (.tmp 7)), .pure (some 43) false (.move (.tmp 8)), .pure (some 44) false (.binOp .gtr 76 (.tmp 42) (.tmp 43) 76), .pure (some 4) false (.assign (.tmp 44))]
abbrev p_ref03_above_14 : List Nat := [0, 1, 2, 3]
def s_ref03_above_6 : List AStep := [.pure (some 21) false (.move (.tmp 6)), .pure (some 22) false (.binOp .sub 3 (.tmp 21) (.const (.int .i64 1)) 3), .pure (some 6) false (.assign (.tmp 22))]
abbrev p_ref03_above_6 : List Nat := [0, 1, 2]
def s_ref03_above_15 : List AStep := [.pure (some 4) false (.assign (.const (.bool false)))]
abbrev p_ref03_above_15 : List Nat := [0]

/-! math/bits.RotateLeft32 -/
abbrev n_bits_RotateLeft32 : Nat := 56
theorem func_bits_RotateLeft32 : Try.prog.funcs[n_bits_RotateLeft32]? = some Try.f56 := Try.func56
theorem call_bits_RotateLeft32 : ∀ args w, (callFunc n_bits_RotateLeft32 args).run Try.prog w = .ok (.enter n_bits_RotateLeft32 args) w := Try.call56
theorem nt_bits_RotateLeft32 : Try.f56.ntmps = 17 := Try.ntmps56
theorem rs_bits_RotateLeft32 : Try.f56.results.toList = [.tmp 4] := by rw [Try.results56]
def s_bits_RotateLeft32_0 : List AStep := [.pure (some 4) false (.assign (.const (.int .u32 0)))]
abbrev p_bits_RotateLeft32_0 : List Nat := [0]
def s_bits_RotateLeft32_1 : List AStep := [.pure (some 6) false (.move (.tmp 1)), .pure (some 7) false (.convert 3 79 (.tmp 6)), .pure (some 8) false (.binOp .and 79 (.tmp 7) (.const (.int .u64 31)) 79), .pure (some 5) false (.assign (.tmp 8))]
abbrev p_bits_RotateLeft32_1 : List Nat := [0, 1, 2, 3]
def s_bits_RotateLeft32_2 : List AStep := [.pure (some 9) false (.move (.tmp 0)), .pure (some 10) false (.move (.tmp 5)), .pure (some 11) false (.binOp .shl 68 (.tmp 9) (.tmp 10) 79), .pure (some 12) false (.move (.tmp 0)), .pure (some 13) false (.move (.tmp 5)), .pure (some 14) false (.binOp .sub 79 (.const (.int .u64 32)) (.tmp 13) 79), .pure (some 15) false (.binOp .shr 68 (.tmp 12) (.tmp 14) 79), .pure (some 16) false (.binOp .or 68 (.tmp 11) (.tmp 15) 68), .pure (some 4) false (.assign (.tmp 16))]
abbrev p_bits_RotateLeft32_2 : List Nat := [0, 1, 2, 3, 4, 5, 6, 7, 8]

end Go.Proofs.Ytdcbgmbpiekbgaa
