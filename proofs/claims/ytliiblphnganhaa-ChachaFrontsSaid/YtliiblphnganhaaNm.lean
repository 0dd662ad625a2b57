/- The names of the functions, the steps of their regions, and facts on types, printed by a program out of the loaded program. -/
import Derived.Test.YtliiblphnganhaaSyB
import Derived.Test.YtliiblphnganhaaProg
import Derived.KernelRfl
namespace Go.Proofs.Ytliiblphnganhaa
open Go Go.Proofs.Ytliiblphnganhaa.Sy
set_option linter.unusedVariables false

/-- The types. -/
theorem ty0 : Try.prog.underlying 3 = some (.int .i64) := Try.underlying3
theorem ty1 : Try.prog.underlying 5 = some (.int .u8) := Try.underlying5
theorem ty2 : Try.prog.underlying 9 = some (.string) := Try.underlying9
theorem ty3 : Try.prog.underlying 22 = some (.int .u32) := Try.underlying22
theorem ty4 : Try.prog.underlying 23 = some (.array 4 22) := Try.underlying23
theorem ty5 : Try.prog.underlying 29 = some (.int .u64) := Try.underlying29
theorem ty6 : Try.prog.underlying 30 = some (.array 16 22) := Try.underlying30
theorem ty7 : Try.prog.underlying 35 = some (.array 32 5) := Try.underlying35
theorem ty8 : Try.prog.underlying 36 = some (.array 32 5) := Try.underlying36
theorem ty9 : Try.prog.underlying 37 = some (.int .u64) := Try.underlying37
theorem ty10 : Try.prog.underlying 38 = some (.array 64 5) := Try.underlying38
theorem ty11 : Try.prog.underlying 44 = some (.slice 5) := Try.underlying44
theorem ty12 : Try.prog.underlying 49 = some (.int .u16) := Try.underlying49
theorem ty13 : Try.prog.underlying 50 = some (.array 2 49) := Try.underlying50
theorem ty14 : Try.prog.cellsOf 3 = 1 := by kernel_rfl
theorem ty15 : Try.prog.cellsOf 5 = 1 := by kernel_rfl
theorem ty16 : Try.prog.cellsOf 9 = 1 := by kernel_rfl
theorem ty17 : Try.prog.cellsOf 22 = 1 := by kernel_rfl
theorem ty18 : Try.prog.cellsOf 23 = 4 := by kernel_rfl
theorem ty19 : Try.prog.cellsOf 29 = 1 := by kernel_rfl
theorem ty20 : Try.prog.cellsOf 30 = 16 := by kernel_rfl
theorem ty21 : Try.prog.cellsOf 35 = 32 := by kernel_rfl
theorem ty22 : Try.prog.cellsOf 36 = 32 := by kernel_rfl
theorem ty23 : Try.prog.cellsOf 37 = 1 := by kernel_rfl
theorem ty24 : Try.prog.cellsOf 38 = 64 := by kernel_rfl
theorem ty25 : Try.prog.cellsOf 44 = 1 := by kernel_rfl
theorem ty26 : Try.prog.cellsOf 49 = 1 := by kernel_rfl
theorem ty27 : Try.prog.cellsOf 50 = 2 := by kernel_rfl
theorem ty28 : Try.prog.bytesOf 5 = 1 := by kernel_rfl
theorem ty29 : zeroCellsOf Try.prog 3 = some (#[.int .i64 0]) := by kernel_rfl
theorem ty30 : zeroCellsOf Try.prog 5 = some (#[.int .u8 0]) := by kernel_rfl
theorem ty31 : zeroCellsOf Try.prog 9 = some #[.string ⟨#[]⟩] := by kernel_rfl
theorem ty32 : zeroCellsOf Try.prog 22 = some (#[.int .u32 0]) := by kernel_rfl
theorem ty33 : zeroCellsOf Try.prog 23 = some (Array.replicate 4 (.int .u32 0)) := by kernel_rfl
theorem ty34 : Try.prog.eqGuardType Try.prog.depth 23 = false := by kernel_rfl
theorem ty35 : zeroCellsOf Try.prog 29 = some (#[.int .u64 0]) := by kernel_rfl
theorem ty36 : zeroCellsOf Try.prog 30 = some (Array.replicate 16 (.int .u32 0)) := by kernel_rfl
theorem ty37 : Try.prog.eqGuardType Try.prog.depth 30 = false := by kernel_rfl
theorem ty38 : zeroCellsOf Try.prog 35 = some (Array.replicate 32 (.int .u8 0)) := by kernel_rfl
theorem ty39 : Try.prog.eqGuardType Try.prog.depth 35 = false := by kernel_rfl
theorem ty40 : zeroCellsOf Try.prog 36 = some (Array.replicate 32 (.int .u8 0)) := by kernel_rfl
theorem ty41 : Try.prog.eqGuardType Try.prog.depth 36 = false := by kernel_rfl
theorem ty42 : zeroCellsOf Try.prog 37 = some (#[.int .u64 0]) := by kernel_rfl
theorem ty43 : zeroCellsOf Try.prog 38 = some (Array.replicate 64 (.int .u8 0)) := by kernel_rfl
theorem ty44 : Try.prog.eqGuardType Try.prog.depth 38 = false := by kernel_rfl
theorem ty45 : zeroCellsOf Try.prog 44 = some #[.slice none 0 0] := by kernel_rfl
theorem ty46 : zeroCellsOf Try.prog 49 = some (#[.int .u16 0]) := by kernel_rfl
theorem ty47 : zeroCellsOf Try.prog 50 = some (Array.replicate 2 (.int .u16 0)) := by kernel_rfl
theorem ty48 : Try.prog.eqGuardType Try.prog.depth 50 = false := by kernel_rfl
theorem ty : (Try.prog.underlying 3 = some (.int .i64)) ∧ (Try.prog.underlying 5 = some (.int .u8)) ∧ (Try.prog.underlying 9 = some (.string)) ∧ (Try.prog.underlying 22 = some (.int .u32)) ∧ (Try.prog.underlying 23 = some (.array 4 22)) ∧ (Try.prog.underlying 29 = some (.int .u64)) ∧ (Try.prog.underlying 30 = some (.array 16 22)) ∧ (Try.prog.underlying 35 = some (.array 32 5)) ∧ (Try.prog.underlying 36 = some (.array 32 5)) ∧ (Try.prog.underlying 37 = some (.int .u64)) ∧ (Try.prog.underlying 38 = some (.array 64 5)) ∧ (Try.prog.underlying 44 = some (.slice 5)) ∧ (Try.prog.underlying 49 = some (.int .u16)) ∧ (Try.prog.underlying 50 = some (.array 2 49)) ∧ (Try.prog.cellsOf 3 = 1) ∧ (Try.prog.cellsOf 5 = 1) ∧ (Try.prog.cellsOf 9 = 1) ∧ (Try.prog.cellsOf 22 = 1) ∧ (Try.prog.cellsOf 23 = 4) ∧ (Try.prog.cellsOf 29 = 1) ∧ (Try.prog.cellsOf 30 = 16) ∧ (Try.prog.cellsOf 35 = 32) ∧ (Try.prog.cellsOf 36 = 32) ∧ (Try.prog.cellsOf 37 = 1) ∧ (Try.prog.cellsOf 38 = 64) ∧ (Try.prog.cellsOf 44 = 1) ∧ (Try.prog.cellsOf 49 = 1) ∧ (Try.prog.cellsOf 50 = 2) ∧ (Try.prog.bytesOf 5 = 1) ∧ (zeroCellsOf Try.prog 3 = some (#[.int .i64 0])) ∧ (zeroCellsOf Try.prog 5 = some (#[.int .u8 0])) ∧ (zeroCellsOf Try.prog 9 = some #[.string ⟨#[]⟩]) ∧ (zeroCellsOf Try.prog 22 = some (#[.int .u32 0])) ∧ (zeroCellsOf Try.prog 23 = some (Array.replicate 4 (.int .u32 0))) ∧ (Try.prog.eqGuardType Try.prog.depth 23 = false) ∧ (zeroCellsOf Try.prog 29 = some (#[.int .u64 0])) ∧ (zeroCellsOf Try.prog 30 = some (Array.replicate 16 (.int .u32 0))) ∧ (Try.prog.eqGuardType Try.prog.depth 30 = false) ∧ (zeroCellsOf Try.prog 35 = some (Array.replicate 32 (.int .u8 0))) ∧ (Try.prog.eqGuardType Try.prog.depth 35 = false) ∧ (zeroCellsOf Try.prog 36 = some (Array.replicate 32 (.int .u8 0))) ∧ (Try.prog.eqGuardType Try.prog.depth 36 = false) ∧ (zeroCellsOf Try.prog 37 = some (#[.int .u64 0])) ∧ (zeroCellsOf Try.prog 38 = some (Array.replicate 64 (.int .u8 0))) ∧ (Try.prog.eqGuardType Try.prog.depth 38 = false) ∧ (zeroCellsOf Try.prog 44 = some #[.slice none 0 0]) ∧ (zeroCellsOf Try.prog 49 = some (#[.int .u16 0])) ∧ (zeroCellsOf Try.prog 50 = some (Array.replicate 2 (.int .u16 0))) ∧ (Try.prog.eqGuardType Try.prog.depth 50 = false) := ⟨ty0, ty1, ty2, ty3, ty4, ty5, ty6, ty7, ty8, ty9, ty10, ty11, ty12, ty13, ty14, ty15, ty16, ty17, ty18, ty19, ty20, ty21, ty22, ty23, ty24, ty25, ty26, ty27, ty28, ty29, ty30, ty31, ty32, ty33, ty34, ty35, ty36, ty37, ty38, ty39, ty40, ty41, ty42, ty43, ty44, ty45, ty46, ty47, ty48⟩
theorem zr0 {ι : Type} : (zrow Try.prog 3 : Option (Row ι)) = some (.ints .i64 (List.replicate 1 0)) := by kernel_rfl
theorem zr1 {ι : Type} : (zrow Try.prog 5 : Option (Row ι)) = some (.ints .u8 (List.replicate 1 0)) := by kernel_rfl
theorem zr2 {ι : Type} : (zrow Try.prog 22 : Option (Row ι)) = some (.ints .u32 (List.replicate 1 0)) := by kernel_rfl
theorem zr3 {ι : Type} : (zrow Try.prog 23 : Option (Row ι)) = some (.ints .u32 (List.replicate 4 0)) := by kernel_rfl
theorem zr4 {ι : Type} : (zrow Try.prog 29 : Option (Row ι)) = some (.ints .u64 (List.replicate 1 0)) := by kernel_rfl
theorem zr5 {ι : Type} : (zrow Try.prog 30 : Option (Row ι)) = some (.ints .u32 (List.replicate 16 0)) := by kernel_rfl
theorem zr6 {ι : Type} : (zrow Try.prog 35 : Option (Row ι)) = some (.ints .u8 (List.replicate 32 0)) := by kernel_rfl
theorem zr7 {ι : Type} : (zrow Try.prog 36 : Option (Row ι)) = some (.ints .u8 (List.replicate 32 0)) := by kernel_rfl
theorem zr8 {ι : Type} : (zrow Try.prog 37 : Option (Row ι)) = some (.ints .u64 (List.replicate 1 0)) := by kernel_rfl
theorem zr9 {ι : Type} : (zrow Try.prog 38 : Option (Row ι)) = some (.ints .u8 (List.replicate 64 0)) := by kernel_rfl
theorem zr10 {ι : Type} : (zrow Try.prog 49 : Option (Row ι)) = some (.ints .u16 (List.replicate 1 0)) := by kernel_rfl
theorem zr11 {ι : Type} : (zrow Try.prog 50 : Option (Row ι)) = some (.ints .u16 (List.replicate 2 0)) := by kernel_rfl
theorem zr {ι : Type} : ((zrow Try.prog 3 : Option (Row ι)) = some (.ints .i64 (List.replicate 1 0))) ∧ ((zrow Try.prog 5 : Option (Row ι)) = some (.ints .u8 (List.replicate 1 0))) ∧ ((zrow Try.prog 22 : Option (Row ι)) = some (.ints .u32 (List.replicate 1 0))) ∧ ((zrow Try.prog 23 : Option (Row ι)) = some (.ints .u32 (List.replicate 4 0))) ∧ ((zrow Try.prog 29 : Option (Row ι)) = some (.ints .u64 (List.replicate 1 0))) ∧ ((zrow Try.prog 30 : Option (Row ι)) = some (.ints .u32 (List.replicate 16 0))) ∧ ((zrow Try.prog 35 : Option (Row ι)) = some (.ints .u8 (List.replicate 32 0))) ∧ ((zrow Try.prog 36 : Option (Row ι)) = some (.ints .u8 (List.replicate 32 0))) ∧ ((zrow Try.prog 37 : Option (Row ι)) = some (.ints .u64 (List.replicate 1 0))) ∧ ((zrow Try.prog 38 : Option (Row ι)) = some (.ints .u8 (List.replicate 64 0))) ∧ ((zrow Try.prog 49 : Option (Row ι)) = some (.ints .u16 (List.replicate 1 0))) ∧ ((zrow Try.prog 50 : Option (Row ι)) = some (.ints .u16 (List.replicate 2 0))) := ⟨zr0, zr1, zr2, zr3, zr4, zr5, zr6, zr7, zr8, zr9, zr10, zr11⟩
theorem mix : Try.prog.follows .mixedOrders = true := by kernel_rfl

/-! erewhile/erewhilelaw02.ChachaQuarter -/
abbrev n_law02_ChachaQuarter : Nat := 3
theorem func_law02_ChachaQuarter : Try.prog.funcs[n_law02_ChachaQuarter]? = some Try.f3 := Try.func3
theorem call_law02_ChachaQuarter : ∀ args w, (callFunc n_law02_ChachaQuarter args).run Try.prog w = .ok (.enter n_law02_ChachaQuarter args) w := Try.call3
theorem nt_law02_ChachaQuarter : Try.f3.ntmps = 59 := Try.ntmps3
theorem rs_law02_ChachaQuarter : Try.f3.results.toList = [.tmp 2] := by rw [Try.results3]
def s_law02_ChachaQuarter_0 : List AStep := [.eff (some 1) (.box 23 (.tmp 0)), .pure (some 2) false (.assign (.const (.bool false)))]
abbrev p_law02_ChachaQuarter_0 : List Nat := [0, 1]
def s_law02_ChachaQuarter_1 : List AStep := [.call (some 11) false ⟨.value (.func 12), #[], #[]⟩, .pure (some 12) false (.unOp .not 4 (.tmp 11))]
abbrev p_law02_ChachaQuarter_1 : List Nat := [0, 1]
def s_law02_ChachaQuarter_2 : List AStep := [.pure (some 2) false (.assign (.const (.bool false)))]
abbrev p_law02_ChachaQuarter_2 : List Nat := [0]
def s_law02_ChachaQuarter_3 : List AStep := [.pure (some 14) false (.indexAddr 23 (.tmp 1) (.const (.int .i64 0))), .read (some 15) false (.load 22 (.tmp 14)), .pure (some 16) false (.indexAddr 23 (.tmp 1) (.const (.int .i64 1))), .read (some 17) false (.load 22 (.tmp 16)), .pure (some 18) false (.indexAddr 23 (.tmp 1) (.const (.int .i64 2))), .read (some 19) false (.load 22 (.tmp 18)), .pure (some 20) false (.indexAddr 23 (.tmp 1) (.const (.int .i64 3))), .read (some 21) false (.load 22 (.tmp 20)), .call (some 22) false ⟨.value (.func 13), #[.tmp 15, .tmp 17, .tmp 19, .tmp 21], #[22, 22, 22, 22]⟩, .pure (some 13) false (.move (.tmp 22)), .pure (some 23) false (.extract (.tmp 13) 0), .pure (some 24) false (.extract (.tmp 13) 1), .pure (some 25) false (.extract (.tmp 13) 2), .pure (some 26) false (.extract (.tmp 13) 3), .pure (some 3) false (.assign (.tmp 23)), .pure (some 4) false (.assign (.tmp 24)), .pure (some 5) false (.assign (.tmp 25)), .pure (some 6) false (.assign (.tmp 26))]
abbrev p_law02_ChachaQuarter_3 : List Nat := [0, 1, 2, 3, 4, 5, 6, 7, 8, 9, 10, 11, 12, 13, 14, 15, 16, 17]
def s_law02_ChachaQuarter_4 : List AStep := [.pure (some 28) false (.indexAddr 23 (.tmp 1) (.const (.int .i64 0))), .read (some 29) false (.load 22 (.tmp 28)), .pure (some 30) false (.indexAddr 23 (.tmp 1) (.const (.int .i64 1))), .read (some 31) false (.load 22 (.tmp 30)), .pure (some 32) false (.indexAddr 23 (.tmp 1) (.const (.int .i64 2))), .read (some 33) false (.load 22 (.tmp 32)), .pure (some 34) false (.indexAddr 23 (.tmp 1) (.const (.int .i64 3))), .read (some 35) false (.load 22 (.tmp 34)), .call (some 36) false ⟨.value (.func 14), #[.tmp 29, .tmp 31, .tmp 33, .tmp 35], #[22, 22, 22, 22]⟩, .pure (some 27) false (.move (.tmp 36)), .pure (some 37) false (.extract (.tmp 27) 0), .pure (some 38) false (.extract (.tmp 27) 1), .pure (some 39) false (.extract (.tmp 27) 2), .pure (some 40) false (.extract (.tmp 27) 3), .pure (some 7) false (.assign (.tmp 37)), .pure (some 8) false (.assign (.tmp 38)), .pure (some 9) false (.assign (.tmp 39)), .pure (some 10) false (.assign (.tmp 40))]
abbrev p_law02_ChachaQuarter_4 : List Nat := [0, 1, 2, 3, 4, 5, 6, 7, 8, 9, 10, 11, 12, 13, 14, 15, 16, 17]
def s_law02_ChachaQuarter_5 : List AStep := [.pure (some 41) false (.move (.tmp 3)), .pure (some 42) false (.move (.tmp 7)), .pure (some 43) false (.binOp .eql 22 (.tmp 41) (.tmp 42) 22), .pure (some 44) true (.move (.tmp 43)), .guard 44 true (.pure (some 45) false (.move (.tmp 4))), .guard 44 true (.pure (some 46) false (.move (.tmp 8))), .guard 44 true (.pure (some 47) false (.binOp .eql 22 (.tmp 45) (.tmp 46) 22)), .pure (some 48) false (.pick (.tmp 44) (.tmp 47) (.const (.bool false))), .pure (some 49) true (.move (.tmp 48)), .guard 49 true (.pure (some 50) false (.move (.tmp 5))), .guard 49 true (.pure (some 51) false (.move (.tmp 9))), .guard 49 true (.pure (some 52) false (.binOp .eql 22 (.tmp 50) (.tmp 51) 22)), .pure (some 53) false (.pick (.tmp 49) (.tmp 52) (.const (.bool false))), .pure (some 54) true (.move (.tmp 53)), .guard 54 true (.pure (some 55) false (.move (.tmp 6))), .guard 54 true (.pure (some 56) false (.move (.tmp 10))), .guard 54 true (.pure (some 57) false (.binOp .eql 22 (.tmp 55) (.tmp 56) 22)), .pure (some 58) false (.pick (.tmp 54) (.tmp 57) (.const (.bool false))), .pure (some 2) false (.assign (.tmp 58))]
abbrev p_law02_ChachaQuarter_5 : List Nat := [0, 1, 2, 3, 4, 5, 6, 7, 8, 9, 10, 11, 12, 13, 14, 15, 16, 17, 18]

/-! erewhile/erewhilelaw02.ChachaQuarterBack -/
abbrev n_law02_ChachaQuarterBack : Nat := 4
theorem func_law02_ChachaQuarterBack : Try.prog.funcs[n_law02_ChachaQuarterBack]? = some Try.f4 := Try.func4
theorem call_law02_ChachaQuarterBack : ∀ args w, (callFunc n_law02_ChachaQuarterBack args).run Try.prog w = .ok (.enter n_law02_ChachaQuarterBack args) w := Try.call4
theorem nt_law02_ChachaQuarterBack : Try.f4.ntmps = 73 := Try.ntmps4
theorem rs_law02_ChachaQuarterBack : Try.f4.results.toList = [.tmp 2] := by rw [Try.results4]
def s_law02_ChachaQuarterBack_0 : List AStep := [.eff (some 1) (.box 23 (.tmp 0)), .pure (some 2) false (.assign (.const (.bool false)))]
abbrev p_law02_ChachaQuarterBack_0 : List Nat := [0, 1]
def s_law02_ChachaQuarterBack_1 : List AStep := [.call (some 7) false ⟨.value (.func 12), #[], #[]⟩, .pure (some 8) false (.unOp .not 4 (.tmp 7))]
abbrev p_law02_ChachaQuarterBack_1 : List Nat := [0, 1]
def s_law02_ChachaQuarterBack_2 : List AStep := [.pure (some 2) false (.assign (.const (.bool false)))]
abbrev p_law02_ChachaQuarterBack_2 : List Nat := [0]
def s_law02_ChachaQuarterBack_3 : List AStep := [.pure (some 10) false (.indexAddr 23 (.tmp 1) (.const (.int .i64 0))), .read (some 11) false (.load 22 (.tmp 10)), .pure (some 12) false (.indexAddr 23 (.tmp 1) (.const (.int .i64 1))), .read (some 13) false (.load 22 (.tmp 12)), .pure (some 14) false (.indexAddr 23 (.tmp 1) (.const (.int .i64 2))), .read (some 15) false (.load 22 (.tmp 14)), .pure (some 16) false (.indexAddr 23 (.tmp 1) (.const (.int .i64 3))), .read (some 17) false (.load 22 (.tmp 16)), .call (some 18) false ⟨.value (.func 13), #[.tmp 11, .tmp 13, .tmp 15, .tmp 17], #[22, 22, 22, 22]⟩, .pure (some 9) false (.move (.tmp 18)), .pure (some 19) false (.extract (.tmp 9) 0), .pure (some 20) false (.extract (.tmp 9) 1), .pure (some 21) false (.extract (.tmp 9) 2), .pure (some 22) false (.extract (.tmp 9) 3), .pure (some 3) false (.assign (.tmp 19)), .pure (some 4) false (.assign (.tmp 20)), .pure (some 5) false (.assign (.tmp 21)), .pure (some 6) false (.assign (.tmp 22))]
abbrev p_law02_ChachaQuarterBack_3 : List Nat := [0, 1, 2, 3, 4, 5, 6, 7, 8, 9, 10, 11, 12, 13, 14, 15, 16, 17]
def s_law02_ChachaQuarterBack_4 : List AStep := [.pure (some 23) false (.move (.tmp 4)), .call (some 24) false ⟨.value (.func 15), #[.tmp 23, .const (.int .u64 7)], #[22, 29]⟩, .pure (some 25) false (.move (.tmp 5)), .pure (some 26) false (.binOp .xor 22 (.tmp 24) (.tmp 25) 22), .pure (some 4) false (.assign (.tmp 26))]
abbrev p_law02_ChachaQuarterBack_4 : List Nat := [0, 1, 2, 3, 4]
def s_law02_ChachaQuarterBack_5 : List AStep := [.pure (some 27) false (.move (.tmp 5)), .pure (some 28) false (.move (.tmp 6)), .pure (some 29) false (.binOp .sub 22 (.tmp 27) (.tmp 28) 22), .pure (some 5) false (.assign (.tmp 29))]
abbrev p_law02_ChachaQuarterBack_5 : List Nat := [0, 1, 2, 3]
def s_law02_ChachaQuarterBack_6 : List AStep := [.pure (some 30) false (.move (.tmp 6)), .call (some 31) false ⟨.value (.func 15), #[.tmp 30, .const (.int .u64 8)], #[22, 29]⟩, .pure (some 32) false (.move (.tmp 3)), .pure (some 33) false (.binOp .xor 22 (.tmp 31) (.tmp 32) 22), .pure (some 6) false (.assign (.tmp 33))]
abbrev p_law02_ChachaQuarterBack_6 : List Nat := [0, 1, 2, 3, 4]
def s_law02_ChachaQuarterBack_7 : List AStep := [.pure (some 34) false (.move (.tmp 3)), .pure (some 35) false (.move (.tmp 4)), .pure (some 36) false (.binOp .sub 22 (.tmp 34) (.tmp 35) 22), .pure (some 3) false (.assign (.tmp 36))]
abbrev p_law02_ChachaQuarterBack_7 : List Nat := [0, 1, 2, 3]
def s_law02_ChachaQuarterBack_8 : List AStep := [.pure (some 37) false (.move (.tmp 4)), .call (some 38) false ⟨.value (.func 15), #[.tmp 37, .const (.int .u64 12)], #[22, 29]⟩, .pure (some 39) false (.move (.tmp 5)), .pure (some 40) false (.binOp .xor 22 (.tmp 38) (.tmp 39) 22), .pure (some 4) false (.assign (.tmp 40))]
abbrev p_law02_ChachaQuarterBack_8 : List Nat := [0, 1, 2, 3, 4]
def s_law02_ChachaQuarterBack_9 : List AStep := [.pure (some 41) false (.move (.tmp 5)), .pure (some 42) false (.move (.tmp 6)), .pure (some 43) false (.binOp .sub 22 (.tmp 41) (.tmp 42) 22), .pure (some 5) false (.assign (.tmp 43))]
abbrev p_law02_ChachaQuarterBack_9 : List Nat := [0, 1, 2, 3]
def s_law02_ChachaQuarterBack_10 : List AStep := [.pure (some 44) false (.move (.tmp 6)), .call (some 45) false ⟨.value (.func 15), #[.tmp 44, .const (.int .u64 16)], #[22, 29]⟩, .pure (some 46) false (.move (.tmp 3)), .pure (some 47) false (.binOp .xor 22 (.tmp 45) (.tmp 46) 22), .pure (some 6) false (.assign (.tmp 47))]
abbrev p_law02_ChachaQuarterBack_10 : List Nat := [0, 1, 2, 3, 4]
def s_law02_ChachaQuarterBack_11 : List AStep := [.pure (some 48) false (.move (.tmp 3)), .pure (some 49) false (.move (.tmp 4)), .pure (some 50) false (.binOp .sub 22 (.tmp 48) (.tmp 49) 22), .pure (some 3) false (.assign (.tmp 50))]
abbrev p_law02_ChachaQuarterBack_11 : List Nat := [0, 1, 2, 3]
def s_law02_ChachaQuarterBack_12 : List AStep := [.pure (some 51) false (.move (.tmp 3)), .pure (some 52) false (.indexAddr 23 (.tmp 1) (.const (.int .i64 0))), .read (some 53) false (.load 22 (.tmp 52)), .pure (some 54) false (.binOp .eql 22 (.tmp 51) (.tmp 53) 22), .pure (some 55) true (.move (.tmp 54)), .guard 55 true (.pure (some 56) false (.move (.tmp 4))), .guard 55 true (.pure (some 57) false (.indexAddr 23 (.tmp 1) (.const (.int .i64 1)))), .guard 55 true (.read (some 58) false (.load 22 (.tmp 57))), .guard 55 true (.pure (some 59) false (.binOp .eql 22 (.tmp 56) (.tmp 58) 22)), .pure (some 60) false (.pick (.tmp 55) (.tmp 59) (.const (.bool false))), .pure (some 61) true (.move (.tmp 60)), .guard 61 true (.pure (some 62) false (.move (.tmp 5))), .guard 61 true (.pure (some 63) false (.indexAddr 23 (.tmp 1) (.const (.int .i64 2)))), .guard 61 true (.read (some 64) false (.load 22 (.tmp 63))), .guard 61 true (.pure (some 65) false (.binOp .eql 22 (.tmp 62) (.tmp 64) 22)), .pure (some 66) false (.pick (.tmp 61) (.tmp 65) (.const (.bool false))), .pure (some 67) true (.move (.tmp 66)), .guard 67 true (.pure (some 68) false (.move (.tmp 6))), .guard 67 true (.pure (some 69) false (.indexAddr 23 (.tmp 1) (.const (.int .i64 3)))), .guard 67 true (.read (some 70) false (.load 22 (.tmp 69))), .guard 67 true (.pure (some 71) false (.binOp .eql 22 (.tmp 68) (.tmp 70) 22)), .pure (some 72) false (.pick (.tmp 67) (.tmp 71) (.const (.bool false))), .pure (some 2) false (.assign (.tmp 72))]
abbrev p_law02_ChachaQuarterBack_12 : List Nat := [0, 1, 2, 3, 4, 5, 6, 7, 8, 9, 10, 11, 12, 13, 14, 15, 16, 17, 18, 19, 20, 21, 22]

/-! erewhile/erewhilelaw02.ChachaRounds -/
abbrev n_law02_ChachaRounds : Nat := 5
theorem func_law02_ChachaRounds : Try.prog.funcs[n_law02_ChachaRounds]? = some Try.f5 := Try.func5
theorem call_law02_ChachaRounds : ∀ args w, (callFunc n_law02_ChachaRounds args).run Try.prog w = .ok (.enter n_law02_ChachaRounds args) w := Try.call5
theorem nt_law02_ChachaRounds : Try.f5.ntmps = 11 := Try.ntmps5
theorem rs_law02_ChachaRounds : Try.f5.results.toList = [.tmp 2] := by rw [Try.results5]
def s_law02_ChachaRounds_0 : List AStep := [.eff (some 1) (.box 30 (.tmp 0)), .pure (some 2) false (.assign (.const (.bool false)))]
abbrev p_law02_ChachaRounds_0 : List Nat := [0, 1]
def s_law02_ChachaRounds_1 : SP := (.one (.call (some 3) false ⟨.value (.func 12), #[], #[]⟩) (.one (.pure (some 4) true (.move (.tmp 3))) (.one (.guard 4 true (.read (some 5) false (.load 30 (.tmp 1)))) (.one (.guard 4 true (.read (some 7) false (.load 30 (.tmp 1)))) (.one (.guard 4 true (.call (some 6) false ⟨.value (.func 16), #[.tmp 5], #[30]⟩)) (.one (.guard 4 true (.call (some 8) false ⟨.value (.func 17), #[.tmp 7], #[30]⟩)) (.one (.guard 4 true (.pure (some 9) false (.binOp .eql 30 (.tmp 6) (.tmp 8) 30))) (.one (.pure (some 10) false (.pick (.tmp 4) (.tmp 9) (.const (.bool false)))) (.one (.pure (some 2) false (.assign (.tmp 10))) .done)))))))))
abbrev p_law02_ChachaRounds_1 : PC := (.act 0 (.calm 1 508 (.calm 2 488 (.calm 4 480 (.act 3 (.act 5 (.calm 6 384 (.calm 7 256 (.calm 8 0 .done)))))))))
abbrev g_law02_ChachaRounds_1 : List Dg := [⟨0, 0, 8, .call, true⟩, ⟨1, 8, 16, .pure, true⟩, ⟨2, 18, 32, .read, true⟩, ⟨6, 48, 64, .call, true⟩, ⟨2, 18, 128, .read, true⟩, ⟨26, 144, 256, .call, true⟩, ⟨42, 336, 512, .pure, true⟩, ⟨66, 528, 1024, .pure, true⟩, ⟨255, 1024, 4, .pure, true⟩]
abbrev q_law02_ChachaRounds_1 : List Nat := []

/-! erewhile/erewhilelaw02.ChachaTurned -/
abbrev n_law02_ChachaTurned : Nat := 6
theorem func_law02_ChachaTurned : Try.prog.funcs[n_law02_ChachaTurned]? = some Try.f6 := Try.func6
theorem call_law02_ChachaTurned : ∀ args w, (callFunc n_law02_ChachaTurned args).run Try.prog w = .ok (.enter n_law02_ChachaTurned args) w := Try.call6
theorem nt_law02_ChachaTurned : Try.f6.ntmps = 20 := Try.ntmps6
theorem rs_law02_ChachaTurned : Try.f6.results.toList = [.tmp 4] := by rw [Try.results6]
def s_law02_ChachaTurned_0 : List AStep := [.eff (some 2) (.box 30 (.tmp 0)), .pure (some 4) false (.assign (.const (.bool false)))]
abbrev p_law02_ChachaTurned_0 : List Nat := [0, 1]
def s_law02_ChachaTurned_1 : List AStep := [.call (some 6) false ⟨.value (.func 12), #[], #[]⟩, .pure (some 7) false (.unOp .not 4 (.tmp 6))]
abbrev p_law02_ChachaTurned_1 : List Nat := [0, 1]
def s_law02_ChachaTurned_2 : List AStep := [.pure (some 4) false (.assign (.const (.bool false)))]
abbrev p_law02_ChachaTurned_2 : List Nat := [0]
def s_law02_ChachaTurned_3 : List AStep := [.pure (some 8) false (.move (.tmp 1)), .pure (some 9) false (.convert 5 3 (.tmp 8)), .pure (some 10) false (.binOp .rem 3 (.tmp 9) (.const (.int .i64 4)) 3), .pure (some 5) false (.assign (.tmp 10))]
abbrev p_law02_ChachaTurned_3 : List Nat := [0, 1, 2, 3]
def s_law02_ChachaTurned_4 : SP := (.one (.pure (some 12) false (.move (.tmp 5))) (.one (.pure (some 17) false (.move (.tmp 5))) (.one (.read (some 11) false (.load 30 (.tmp 2))) (.one (.read (some 15) false (.load 30 (.tmp 2))) (.one (.call (some 13) false ⟨.value (.func 18), #[.tmp 11, .tmp 12], #[30, 3]⟩) (.one (.call (some 14) false ⟨.value (.func 16), #[.tmp 13], #[30]⟩) (.one (.call (some 16) false ⟨.value (.func 16), #[.tmp 15], #[30]⟩) (.one (.call (some 18) false ⟨.value (.func 18), #[.tmp 16, .tmp 17], #[30, 3]⟩) (.one (.pure (some 19) false (.binOp .eql 30 (.tmp 14) (.tmp 18) 30)) (.one (.pure (some 4) false (.assign (.tmp 19))) .done))))))))))
abbrev p_law02_ChachaTurned_4 : PC := (.calm 1 940 (.calm 6 896 (.calm 0 940 (.calm 4 928 (.act 2 (.act 3 (.act 5 (.act 7 (.calm 8 512 (.calm 9 0 .done))))))))))
abbrev g_law02_ChachaTurned_4 : List Dg := [⟨0, 4, 2048, .read, true⟩, ⟨0, 32, 4096, .pure, true⟩, ⟨3, 6144, 8192, .call, true⟩, ⟨4, 8192, 16384, .call, true⟩, ⟨0, 4, 32768, .read, true⟩, ⟨24, 32768, 65536, .call, true⟩, ⟨0, 32, 131072, .pure, true⟩, ⟨96, 196608, 262144, .call, true⟩, ⟨136, 278528, 524288, .pure, true⟩, ⟨511, 524288, 16, .pure, true⟩]
abbrev q_law02_ChachaTurned_4 : List Nat := []

/-! erewhile/erewhilelaw02.ChachaBlock -/
abbrev n_law02_ChachaBlock : Nat := 7
theorem func_law02_ChachaBlock : Try.prog.funcs[n_law02_ChachaBlock]? = some Try.f7 := Try.func7
theorem call_law02_ChachaBlock : ∀ args w, (callFunc n_law02_ChachaBlock args).run Try.prog w = .ok (.enter n_law02_ChachaBlock args) w := Try.call7
theorem nt_law02_ChachaBlock : Try.f7.ntmps = 19 := Try.ntmps7
theorem rs_law02_ChachaBlock : Try.f7.results.toList = [.tmp 6] := by rw [Try.results7]
def s_law02_ChachaBlock_0 : List AStep := [.eff (some 3) (.box 36 (.tmp 0)), .pure (some 6) false (.assign (.const (.bool false)))]
abbrev p_law02_ChachaBlock_0 : List Nat := [0, 1]
def s_law02_ChachaBlock_1 : SP := (.one (.call (some 7) false ⟨.value (.func 12), #[], #[]⟩) (.one (.pure (some 8) true (.move (.tmp 7))) (.one (.guard 8 true (.pure (some 10) false (.move (.tmp 1)))) (.one (.guard 8 true (.pure (some 11) false (.move (.tmp 2)))) (.one (.guard 8 true (.pure (some 14) false (.move (.tmp 1)))) (.one (.guard 8 true (.pure (some 15) false (.move (.tmp 2)))) (.one (.guard 8 true (.read (some 9) false (.load 36 (.tmp 3)))) (.one (.guard 8 true (.read (some 13) false (.load 36 (.tmp 3)))) (.one (.guard 8 true (.call (some 12) false ⟨.value (.func 19), #[.tmp 9, .tmp 10, .tmp 11], #[36, 22, 37]⟩)) (.one (.guard 8 true (.call (some 16) false ⟨.value (.func 20), #[.tmp 13, .tmp 14, .tmp 15], #[35, 22, 37]⟩)) (.one (.guard 8 true (.pure (some 17) false (.binOp .eql 38 (.tmp 12) (.tmp 16) 38))) (.one (.pure (some 18) false (.pick (.tmp 8) (.tmp 17) (.const (.bool false)))) (.one (.pure (some 6) false (.assign (.tmp 18))) .done)))))))))))))
abbrev p_law02_ChachaBlock_1 : PC := (.act 0 (.calm 1 8188 (.calm 3 7712 (.calm 4 7712 (.calm 7 7680 (.calm 8 7680 (.calm 2 7712 (.calm 6 7680 (.act 5 (.act 9 (.calm 10 6144 (.calm 11 4096 (.calm 12 0 .done)))))))))))))
abbrev g_law02_ChachaBlock_1 : List Dg := [⟨0, 0, 128, .call, true⟩, ⟨1, 128, 256, .pure, true⟩, ⟨2, 264, 512, .read, true⟩, ⟨2, 258, 1024, .pure, true⟩, ⟨2, 260, 2048, .pure, true⟩, ⟨30, 3840, 4096, .call, true⟩, ⟨2, 264, 8192, .read, true⟩, ⟨2, 258, 16384, .pure, true⟩, ⟨2, 260, 32768, .pure, true⟩, ⟨482, 57600, 65536, .call, true⟩, ⟨546, 69888, 131072, .pure, true⟩, ⟨1026, 131328, 262144, .pure, true⟩, ⟨4095, 262144, 64, .pure, true⟩]
abbrev q_law02_ChachaBlock_1 : List Nat := []

/-! erewhile/erewhilelaw02.ChachaParts -/
abbrev n_law02_ChachaParts : Nat := 8
theorem func_law02_ChachaParts : Try.prog.funcs[n_law02_ChachaParts]? = some Try.f8 := Try.func8
theorem call_law02_ChachaParts : ∀ args w, (callFunc n_law02_ChachaParts args).run Try.prog w = .ok (.enter n_law02_ChachaParts args) w := Try.call8
theorem nt_law02_ChachaParts : Try.f8.ntmps = 42 := Try.ntmps8
theorem rs_law02_ChachaParts : Try.f8.results.toList = [.tmp 6] := by rw [Try.results8]
def s_law02_ChachaParts_0 : List AStep := [.eff (some 3) (.box 36 (.tmp 0)), .pure (some 6) false (.assign (.const (.bool false)))]
abbrev p_law02_ChachaParts_0 : List Nat := [0, 1]
def s_law02_ChachaParts_1 : List AStep := [.call (some 11) false ⟨.value (.func 12), #[], #[]⟩, .pure (some 12) false (.unOp .not 4 (.tmp 11))]
abbrev p_law02_ChachaParts_1 : List Nat := [0, 1]
def s_law02_ChachaParts_2 : List AStep := [.pure (some 6) false (.assign (.const (.bool false)))]
abbrev p_law02_ChachaParts_2 : List Nat := [0]
def s_law02_ChachaParts_3 : SP := (.one (.pure (some 14) false (.move (.tmp 1))) (.one (.pure (some 15) false (.move (.tmp 2))) (.one (.pure (some 18) false (.move (.tmp 1))) (.one (.pure (some 19) false (.move (.tmp 2))) (.one (.read (some 13) false (.load 36 (.tmp 3))) (.one (.read (some 17) false (.load 36 (.tmp 3))) (.one (.quiet (some 16) false ⟨.value (.func 19), #[.tmp 13, .tmp 14, .tmp 15], #[36, 22, 37]⟩) (.one (.quiet (some 20) false ⟨.value (.func 21), #[.tmp 17, .tmp 18, .tmp 19], #[35, 22, 37]⟩) (.two (.eff (some 7) (.alloc 38)) (.one (.eff (some 8) (.alloc 30)) (.one (.eff none (.store 38 (.tmp 7) (.tmp 16))) (.one (.eff none (.store 30 (.tmp 8) (.tmp 20))) .done))) (.eff (some 8) (.alloc 30)) (.one (.eff (some 7) (.alloc 38)) (.one (.eff none (.store 38 (.tmp 7) (.tmp 16))) (.one (.eff none (.store 30 (.tmp 8) (.tmp 20))) .done))))))))))))
abbrev p_law02_ChachaParts_3 : PC := (.calm 1 3208 (.calm 2 3208 (.calm 5 3200 (.calm 6 3200 (.calm 0 3208 (.calm 4 3200 (.calm 3 3200 (.calm 7 3072 (.fork 8 (.act 9 (.act 10 (.act 11 .done))) 9 (.act 8 (.act 10 (.act 11 .done))))))))))))
abbrev g_law02_ChachaParts_3 : List Dg := [⟨0, 8, 8192, .read, true⟩, ⟨0, 2, 16384, .pure, true⟩, ⟨0, 4, 32768, .pure, true⟩, ⟨7, 57344, 65536, .quiet, true⟩, ⟨0, 8, 131072, .read, true⟩, ⟨0, 2, 262144, .pure, true⟩, ⟨0, 4, 524288, .pure, true⟩, ⟨120, 917504, 1048576, .quiet, true⟩, ⟨0, 0, 128, .eff, true⟩, ⟨0, 0, 256, .eff, true⟩, ⟨911, 65664, 0, .eff, false⟩, ⟨2047, 1048832, 0, .eff, false⟩]
abbrev q_law02_ChachaParts_3 : List Nat := [3, 7]
def s_law02_ChachaParts_4 : List AStep := [.read (some 21) false (.load 30 (.tmp 8)), .call (some 22) false ⟨.value (.func 16), #[.tmp 21], #[30]⟩, .eff (some 9) (.alloc 30), .eff none (.store 30 (.tmp 9) (.tmp 22))]
abbrev p_law02_ChachaParts_4 : List Nat := [0, 1, 2, 3]
def s_law02_ChachaParts_5 : List AStep := [.pure (some 23) false (.move (.const (.int .i64 0)))]
abbrev p_law02_ChachaParts_5 : List Nat := [0]
def s_law02_ChachaParts_6 : List AStep := [.pure (some 24) false (.binOp .lss 3 (.tmp 23) (.const (.int .i64 16)) 3)]
abbrev p_law02_ChachaParts_6 : List Nat := [0]
def s_law02_ChachaParts_7 : List AStep := [.pure (some 25) false (.move (.tmp 23)), .pure (some 10) false (.assign (.tmp 25))]
abbrev p_law02_ChachaParts_7 : List Nat := [0, 1]
def s_law02_ChachaParts_8 : SP := (.one (.pure (some 26) false (.move (.tmp 10))) (.one (.pure (some 27) false (.binOp .mul 3 (.const (.int .i64 4)) (.tmp 26) 3)) (.one (.pure (some 28) false (.move (.tmp 10))) (.one (.pure (some 29) false (.binOp .mul 3 (.const (.int .i64 4)) (.tmp 28) 3)) (.one (.pure (some 30) false (.binOp .add 3 (.tmp 29) (.const (.int .i64 4)) 3)) (.one (.pure (some 31) false (.slice 38 (.tmp 7) (some (.tmp 27)) (some (.tmp 30)) none)) (.one (.pure (some 33) false (.move (.tmp 10))) (.one (.pure (some 34) false (.indexAddr 30 (.tmp 8) (.tmp 33))) (.one (.pure (some 37) false (.move (.tmp 10))) (.one (.pure (some 38) false (.indexAddr 30 (.tmp 9) (.tmp 37))) (.one (.read (some 35) false (.load 22 (.tmp 34))) (.one (.read (some 39) false (.load 22 (.tmp 38))) (.one (.call (some 32) false ⟨.value (.func 22), #[.tmp 31], #[44]⟩) (.one (.pure (some 36) false (.binOp .sub 22 (.tmp 32) (.tmp 35) 22)) (.one (.pure (some 40) false (.binOp .neq 22 (.tmp 36) (.tmp 39) 22)) .done)))))))))))))))
abbrev p_law02_ChachaParts_8 : PC := (.calm 0 17506 (.calm 1 17504 (.calm 2 17528 (.calm 3 17520 (.calm 4 17504 (.calm 5 17472 (.calm 7 18176 (.calm 8 17920 (.calm 11 28672 (.calm 12 24576 (.calm 9 17408 (.calm 13 16384 (.act 6 (.calm 10 16384 (.calm 14 0 .done)))))))))))))))
abbrev g_law02_ChachaParts_8 : List Dg := [⟨0, 1024, 67108864, .pure, true⟩, ⟨1, 67108864, 134217728, .pure, true⟩, ⟨0, 1024, 268435456, .pure, true⟩, ⟨4, 268435456, 536870912, .pure, true⟩, ⟨8, 536870912, 1073741824, .pure, true⟩, ⟨18, 1207959680, 2147483648, .pure, true⟩, ⟨32, 2147483648, 4294967296, .call, true⟩, ⟨0, 1024, 8589934592, .pure, true⟩, ⟨128, 8589934848, 17179869184, .pure, true⟩, ⟨256, 17179869184, 34359738368, .read, true⟩, ⟨576, 38654705664, 68719476736, .pure, true⟩, ⟨0, 1024, 137438953472, .pure, true⟩, ⟨2048, 137438953984, 274877906944, .pure, true⟩, ⟨4096, 274877906944, 549755813888, .read, true⟩, ⟨9216, 618475290624, 1099511627776, .pure, true⟩]
abbrev q_law02_ChachaParts_8 : List Nat := []
def s_law02_ChachaParts_9 : List AStep := [.pure (some 6) false (.assign (.const (.bool false)))]
abbrev p_law02_ChachaParts_9 : List Nat := [0]
def s_law02_ChachaParts_10 : List AStep := [.pure (some 41) false (.binOp .add 3 (.tmp 23) (.const (.int .i64 1)) 3), .pure (some 23) false (.move (.tmp 41))]
abbrev p_law02_ChachaParts_10 : List Nat := [0, 1]
def s_law02_ChachaParts_11 : List AStep := [.pure (some 6) false (.assign (.const (.bool true)))]
abbrev p_law02_ChachaParts_11 : List Nat := [0]

/-! erewhile/erewhilelaw02.ChachaStream -/
abbrev n_law02_ChachaStream : Nat := 9
theorem func_law02_ChachaStream : Try.prog.funcs[n_law02_ChachaStream]? = some Try.f9 := Try.func9
theorem call_law02_ChachaStream : ∀ args w, (callFunc n_law02_ChachaStream args).run Try.prog w = .ok (.enter n_law02_ChachaStream args) w := Try.call9
theorem nt_law02_ChachaStream : Try.f9.ntmps = 27 := Try.ntmps9
theorem rs_law02_ChachaStream : Try.f9.results.toList = [.tmp 6] := by rw [Try.results9]
def s_law02_ChachaStream_0 : List AStep := [.eff (some 3) (.box 36 (.tmp 0)), .pure (some 6) false (.assign (.const (.bool false)))]
abbrev p_law02_ChachaStream_0 : List Nat := [0, 1]
def s_law02_ChachaStream_1 : List AStep := [.call (some 7) false ⟨.value (.func 12), #[], #[]⟩, .pure (some 8) false (.unOp .not 4 (.tmp 7)), .pure (some 9) true (.move (.tmp 8)), .guard 9 false (.pure (some 10) false (.move (.tmp 2))), .guard 9 false (.pure (some 11) false (.binOp .gtr 3 (.tmp 10) (.const (.int .i64 1000)) 3)), .guard 9 false (.pure (some 12) true (.move (.tmp 11))), .guard 12 true (.pure (some 13) false (.move (.tmp 2))), .guard 12 true (.pure (some 14) false (.binOp .leq 3 (.tmp 13) (.const (.int .i64 65536)) 3)), .guard 9 false (.pure (some 15) false (.pick (.tmp 12) (.tmp 14) (.const (.bool false)))), .pure (some 16) false (.pick (.tmp 9) (.const (.bool true)) (.tmp 15))]
abbrev p_law02_ChachaStream_1 : List Nat := [0, 1, 2, 3, 4, 5, 6, 7, 8, 9]
def s_law02_ChachaStream_2 : List AStep := [.call (some 17) false ⟨.value (.func 12), #[], #[]⟩, .pure (some 6) false (.assign (.tmp 17))]
abbrev p_law02_ChachaStream_2 : List Nat := [0, 1]
def s_law02_ChachaStream_3 : SP := (.one (.pure (some 19) false (.move (.tmp 1))) (.one (.pure (some 20) false (.move (.tmp 2))) (.one (.pure (some 23) false (.move (.tmp 1))) (.one (.pure (some 24) false (.move (.tmp 2))) (.one (.read (some 18) false (.load 36 (.tmp 3))) (.one (.read (some 22) false (.load 36 (.tmp 3))) (.one (.call (some 21) false ⟨.value (.func 24), #[.tmp 18, .tmp 19, .tmp 20], #[36, 37, 3]⟩) (.one (.call (some 25) false ⟨.value (.func 25), #[.tmp 22, .tmp 23, .tmp 24], #[35, 37, 3]⟩) (.one (.call (some 26) false ⟨.value (.func 23), #[.tmp 21, .tmp 25], #[44, 44]⟩) (.one (.pure (some 6) false (.assign (.tmp 26))) .done))))))))))
abbrev p_law02_ChachaStream_3 : PC := (.calm 1 904 (.calm 2 904 (.calm 5 896 (.calm 6 896 (.calm 0 904 (.calm 4 896 (.act 3 (.act 7 (.act 8 (.calm 9 0 .done))))))))))
abbrev g_law02_ChachaStream_3 : List Dg := [⟨0, 8, 262144, .read, true⟩, ⟨0, 2, 524288, .pure, true⟩, ⟨0, 4, 1048576, .pure, true⟩, ⟨7, 1835008, 2097152, .call, true⟩, ⟨0, 8, 4194304, .read, true⟩, ⟨0, 2, 8388608, .pure, true⟩, ⟨0, 4, 16777216, .pure, true⟩, ⟨120, 29360128, 33554432, .call, true⟩, ⟨136, 35651584, 67108864, .call, true⟩, ⟨511, 67108864, 64, .pure, true⟩]
abbrev q_law02_ChachaStream_3 : List Nat := []

/-! erewhile/erewhilelaw02.ChachaFronts -/
abbrev n_law02_ChachaFronts : Nat := 10
theorem func_law02_ChachaFronts : Try.prog.funcs[n_law02_ChachaFronts]? = some Try.f10 := Try.func10
theorem call_law02_ChachaFronts : ∀ args w, (callFunc n_law02_ChachaFronts args).run Try.prog w = .ok (.enter n_law02_ChachaFronts args) w := Try.call10
theorem nt_law02_ChachaFronts : Try.f10.ntmps = 76 := Try.ntmps10
theorem rs_law02_ChachaFronts : Try.f10.results.toList = [.tmp 6] := by rw [Try.results10]
def s_law02_ChachaFronts_0 : List AStep := [.eff (some 3) (.box 36 (.tmp 0)), .eff (some 5) (.box 50 (.tmp 2)), .pure (some 6) false (.assign (.const (.bool false)))]
abbrev p_law02_ChachaFronts_0 : List Nat := [0, 1, 2]
def s_law02_ChachaFronts_1 : List AStep := [.call (some 13) false ⟨.value (.func 12), #[], #[]⟩, .pure (some 14) false (.unOp .not 4 (.tmp 13))]
abbrev p_law02_ChachaFronts_1 : List Nat := [0, 1]
def s_law02_ChachaFronts_2 : List AStep := [.pure (some 6) false (.assign (.const (.bool false)))]
abbrev p_law02_ChachaFronts_2 : List Nat := [0]
def s_law02_ChachaFronts_3 : SP := (.one (.pure (some 15) false (.indexAddr 50 (.tmp 5) (.const (.int .i64 0)))) (.one (.pure (some 19) false (.indexAddr 50 (.tmp 5) (.const (.int .i64 1)))) (.one (.read (some 16) false (.load 49 (.tmp 15))) (.one (.pure (some 17) false (.convert 49 3 (.tmp 16))) (.one (.pure (some 18) false (.binOp .rem 3 (.tmp 17) (.const (.int .i64 400)) 3)) (.one (.pure (some 7) false (.assign (.tmp 18))) (.one (.read (some 20) false (.load 49 (.tmp 19))) (.one (.pure (some 21) false (.convert 49 3 (.tmp 20))) (.one (.pure (some 22) false (.binOp .rem 3 (.tmp 21) (.const (.int .i64 400)) 3)) (.one (.pure (some 8) false (.assign (.tmp 22))) .done))))))))))
abbrev p_law02_ChachaFronts_3 : PC := (.calm 0 782 (.calm 4 736 (.calm 1 780 (.calm 2 776 (.calm 3 768 (.calm 8 512 (.calm 5 704 (.calm 6 640 (.calm 7 512 (.calm 9 0 .done))))))))))
abbrev g_law02_ChachaFronts_3 : List Dg := [⟨0, 32, 32768, .pure, true⟩, ⟨1, 32768, 65536, .read, true⟩, ⟨2, 65536, 131072, .pure, true⟩, ⟨4, 131072, 262144, .pure, true⟩, ⟨0, 32, 524288, .pure, true⟩, ⟨16, 524288, 1048576, .read, true⟩, ⟨32, 1048576, 2097152, .pure, true⟩, ⟨64, 2097152, 4194304, .pure, true⟩, ⟨15, 262144, 128, .pure, true⟩, ⟨511, 4194304, 256, .pure, true⟩]
abbrev q_law02_ChachaFronts_3 : List Nat := []
def s_law02_ChachaFronts_4 : List AStep := [.pure (some 23) false (.move (.tmp 7)), .pure (some 24) false (.move (.tmp 8)), .pure (some 25) false (.binOp .gtr 3 (.tmp 23) (.tmp 24) 3)]
abbrev p_law02_ChachaFronts_4 : List Nat := [0, 1, 2]
def s_law02_ChachaFronts_5 : List AStep := [.pure (some 26) false (.move (.tmp 8)), .pure (some 27) false (.move (.tmp 7)), .pure (some 7) false (.assign (.tmp 26)), .pure (some 8) false (.assign (.tmp 27))]
abbrev p_law02_ChachaFronts_5 : List Nat := [0, 1, 2, 3]
def s_law02_ChachaFronts_6 : SP := (.one (.pure (some 29) false (.move (.tmp 1))) (.one (.pure (some 30) false (.move (.tmp 7))) (.one (.pure (some 33) false (.move (.tmp 1))) (.one (.pure (some 34) false (.move (.tmp 8))) (.one (.read (some 28) false (.load 36 (.tmp 3))) (.one (.read (some 32) false (.load 36 (.tmp 3))) (.one (.call (some 31) false ⟨.value (.func 24), #[.tmp 28, .tmp 29, .tmp 30], #[36, 37, 3]⟩) (.one (.call (some 35) false ⟨.value (.func 24), #[.tmp 32, .tmp 33, .tmp 34], #[36, 37, 3]⟩) (.one (.pure (some 9) false (.assign (.tmp 31))) (.one (.pure (some 10) false (.assign (.tmp 35))) .done))))))))))
abbrev p_law02_ChachaFronts_6 : PC := (.calm 1 904 (.calm 2 904 (.calm 5 896 (.calm 6 896 (.calm 0 904 (.calm 4 896 (.act 3 (.act 7 (.calm 8 512 (.calm 9 0 .done))))))))))
abbrev g_law02_ChachaFronts_6 : List Dg := [⟨0, 8, 268435456, .read, true⟩, ⟨0, 2, 536870912, .pure, true⟩, ⟨0, 128, 1073741824, .pure, true⟩, ⟨7, 1879048192, 2147483648, .call, true⟩, ⟨0, 8, 4294967296, .read, true⟩, ⟨0, 2, 8589934592, .pure, true⟩, ⟨0, 256, 17179869184, .pure, true⟩, ⟨120, 30064771072, 34359738368, .call, true⟩, ⟨143, 2147483648, 512, .pure, true⟩, ⟨511, 34359738368, 1024, .pure, true⟩]
abbrev q_law02_ChachaFronts_6 : List Nat := []
def s_law02_ChachaFronts_7 : List AStep := [.pure (some 36) false (.move (.tmp 9)), .pure (some 37) false (.call (.mk (.builtin .len) #[.tmp 36] #[44])), .pure (some 38) false (.move (.tmp 7)), .pure (some 39) false (.binOp .neq 3 (.tmp 37) (.tmp 38) 3), .pure (some 40) true (.move (.tmp 39)), .guard 40 false (.pure (some 41) false (.move (.tmp 10))), .guard 40 false (.pure (some 42) false (.call (.mk (.builtin .len) #[.tmp 41] #[44]))), .guard 40 false (.pure (some 43) false (.move (.tmp 8))), .guard 40 false (.pure (some 44) false (.binOp .neq 3 (.tmp 42) (.tmp 43) 3)), .pure (some 45) false (.pick (.tmp 40) (.const (.bool true)) (.tmp 44)), .pure (some 46) true (.move (.tmp 45)), .guard 46 false (.pure (some 47) false (.move (.tmp 9))), .guard 46 false (.pure (some 48) false (.move (.tmp 10))), .guard 46 false (.pure (some 49) false (.move (.tmp 7))), .guard 46 false (.pure (some 50) false (.slice 44 (.tmp 48) none (some (.tmp 49)) none)), .guard 46 false (.call (some 51) false ⟨.value (.func 23), #[.tmp 47, .tmp 50], #[44, 44]⟩), .guard 46 false (.pure (some 52) false (.unOp .not 4 (.tmp 51))), .pure (some 53) false (.pick (.tmp 46) (.const (.bool true)) (.tmp 52))]
abbrev p_law02_ChachaFronts_7 : List Nat := [0, 1, 2, 3, 4, 5, 6, 7, 8, 9, 10, 11, 12, 13, 14, 15, 16, 17]
def s_law02_ChachaFronts_8 : List AStep := [.pure (some 6) false (.assign (.const (.bool false)))]
abbrev p_law02_ChachaFronts_8 : List Nat := [0]
def s_law02_ChachaFronts_9 : List AStep := [.pure (some 11) false (.assign (.const (.int .i64 0)))]
abbrev p_law02_ChachaFronts_9 : List Nat := [0]
def s_law02_ChachaFronts_10 : List AStep := [.pure (some 54) false (.move (.tmp 11)), .pure (some 55) false (.binOp .mul 3 (.const (.int .i64 64)) (.tmp 54) 3), .pure (some 56) false (.binOp .add 3 (.tmp 55) (.const (.int .i64 64)) 3), .pure (some 57) false (.move (.tmp 8)), .pure (some 58) false (.binOp .leq 3 (.tmp 56) (.tmp 57) 3)]
abbrev p_law02_ChachaFronts_10 : List Nat := [0, 1, 2, 3, 4]
def s_law02_ChachaFronts_12 : List AStep := [.read (some 61) false (.load 36 (.tmp 3)), .pure (some 62) false (.move (.tmp 11)), .pure (some 63) false (.convert 3 22 (.tmp 62)), .pure (some 64) false (.move (.tmp 1)), .call (some 65) false ⟨.value (.func 19), #[.tmp 61, .tmp 63, .tmp 64], #[36, 22, 37]⟩, .eff (some 12) (.alloc 38), .eff none (.store 38 (.tmp 12) (.tmp 65))]
abbrev p_law02_ChachaFronts_12 : List Nat := [0, 1, 2, 3, 4, 5, 6]
def s_law02_ChachaFronts_13 : SP := (.one (.pure (some 66) false (.slice 38 (.tmp 12) none none none)) (.one (.pure (some 67) false (.move (.tmp 10))) (.one (.pure (some 68) false (.move (.tmp 11))) (.one (.pure (some 69) false (.binOp .mul 3 (.const (.int .i64 64)) (.tmp 68) 3)) (.one (.pure (some 70) false (.move (.tmp 11))) (.one (.pure (some 71) false (.binOp .mul 3 (.const (.int .i64 64)) (.tmp 70) 3)) (.one (.pure (some 72) false (.binOp .add 3 (.tmp 71) (.const (.int .i64 64)) 3)) (.one (.pure (some 73) false (.slice 44 (.tmp 67) (some (.tmp 69)) (some (.tmp 72)) none)) (.one (.call (some 74) false ⟨.value (.func 23), #[.tmp 66, .tmp 73], #[44, 44]⟩) (.one (.pure (some 75) false (.unOp .not 4 (.tmp 74))) .done))))))))))
abbrev p_law02_ChachaFronts_13 : PC := (.calm 0 768 (.calm 1 896 (.calm 2 904 (.calm 3 896 (.calm 4 992 (.calm 5 960 (.calm 6 896 (.calm 7 768 (.act 8 (.calm 9 0 .done))))))))))
abbrev g_law02_ChachaFronts_13 : List Dg := [⟨0, 4096, 73786976294838206464, .pure, true⟩, ⟨0, 1024, 147573952589676412928, .pure, true⟩, ⟨0, 2048, 295147905179352825856, .pure, true⟩, ⟨4, 295147905179352825856, 590295810358705651712, .pure, true⟩, ⟨0, 2048, 1180591620717411303424, .pure, true⟩, ⟨16, 1180591620717411303424, 2361183241434822606848, .pure, true⟩, ⟨32, 2361183241434822606848, 4722366482869645213696, .pure, true⟩, ⟨74, 5460236245818027278336, 9444732965739290427392, .pure, true⟩, ⟨129, 9518519942034128633856, 18889465931478580854784, .call, true⟩, ⟨256, 18889465931478580854784, 37778931862957161709568, .pure, true⟩]
abbrev q_law02_ChachaFronts_13 : List Nat := []
def s_law02_ChachaFronts_14 : List AStep := [.pure (some 6) false (.assign (.const (.bool false)))]
abbrev p_law02_ChachaFronts_14 : List Nat := [0]
def s_law02_ChachaFronts_11 : List AStep := [.pure (some 59) false (.move (.tmp 11)), .pure (some 60) false (.binOp .add 3 (.tmp 59) (.const (.int .i64 1)) 3), .pure (some 11) false (.assign (.tmp 60))]
abbrev p_law02_ChachaFronts_11 : List Nat := [0, 1, 2]
def s_law02_ChachaFronts_15 : List AStep := [.pure (some 6) false (.assign (.const (.bool true)))]
abbrev p_law02_ChachaFronts_15 : List Nat := [0]

/-! erewhile/erewhilelaw02.ChachaKnown -/
abbrev n_law02_ChachaKnown : Nat := 11
theorem func_law02_ChachaKnown : Try.prog.funcs[n_law02_ChachaKnown]? = some Try.f11 := Try.func11
theorem call_law02_ChachaKnown : ∀ args w, (callFunc n_law02_ChachaKnown args).run Try.prog w = .ok (.enter n_law02_ChachaKnown args) w := Try.call11
theorem nt_law02_ChachaKnown : Try.f11.ntmps = 44 := Try.ntmps11
theorem rs_law02_ChachaKnown : Try.f11.results.toList = [.tmp 2] := by rw [Try.results11]
def s_law02_ChachaKnown_0 : List AStep := [.pure (some 2) false (.assign (.const (.bool false)))]
abbrev p_law02_ChachaKnown_0 : List Nat := [0]
def s_law02_ChachaKnown_1 : List AStep := [.call (some 6) false ⟨.value (.func 12), #[], #[]⟩, .pure (some 7) false (.unOp .not 4 (.tmp 6))]
abbrev p_law02_ChachaKnown_1 : List Nat := [0, 1]
def s_law02_ChachaKnown_2 : List AStep := [.pure (some 2) false (.assign (.const (.bool false)))]
abbrev p_law02_ChachaKnown_2 : List Nat := [0]
def s_law02_ChachaKnown_3 : List AStep := [.pure (some 8) false (.build 36 #[]), .pure (some 9) false (.move (.tmp 0)), .pure (some 10) false (.convert 5 3 (.tmp 9)), .pure (some 11) false (.binOp .rem 3 (.tmp 10) (.const (.int .i64 129)) 3), .call (some 12) false ⟨.value (.func 24), #[.tmp 8, .const (.int .u64 0), .tmp 11], #[36, 37, 3]⟩, .pure (some 3) false (.assign (.tmp 12))]
abbrev p_law02_ChachaKnown_3 : List Nat := [0, 1, 2, 3, 4, 5]
def s_law02_ChachaKnown_4 : List AStep := [.pure (some 13) false (.move (.tmp 3)), .pure (some 14) false (.call (.mk (.builtin .len) #[.tmp 13] #[44])), .pure (some 15) false (.move (.const (.int .i64 0)))]
abbrev p_law02_ChachaKnown_4 : List Nat := [0, 1, 2]
def s_law02_ChachaKnown_5 : List AStep := [.pure (some 16) false (.binOp .lss 3 (.tmp 15) (.tmp 14) 3)]
abbrev p_law02_ChachaKnown_5 : List Nat := [0]
def s_law02_ChachaKnown_6 : List AStep := [.pure (some 17) false (.move (.tmp 15)), .pure (some 18) false (.indexAddr 44 (.tmp 13) (.tmp 15)), .read (some 19) false (.load 5 (.tmp 18)), .pure (some 4) false (.assign (.tmp 17)), .pure (some 5) false (.assign (.tmp 19))]
abbrev p_law02_ChachaKnown_6 : List Nat := [0, 1, 2, 3, 4]
def s_law02_ChachaKnown_7 : SP := (.one (.pure (some 20) false (.move (.tmp 4))) (.one (.pure (some 21) false (.binOp .mul 3 (.const (.int .i64 2)) (.tmp 20) 3)) (.one (.pure (some 22) false (.index 9 (.const (.string (ByteArray.mk (List.toArray (List.append (List.append [55, 54, 98, 56, 101, 48, 97, 100, 97, 48, 102, 49, 51, 100, 57, 48, 52, 48, 53, 100, 54, 97, 101, 53, 53, 51, 56, 54, 98, 100, 50, 56, 98, 100, 100, 50, 49, 57, 98, 56, 97, 48, 56, 100, 101, 100, 49, 97, 97, 56, 51, 54, 101, 102, 99, 99, 56, 98, 55, 55, 48, 100, 99, 55] [100, 97, 52, 49, 53, 57, 55, 99, 53, 49, 53, 55, 52, 56, 56, 100, 55, 55, 50, 52, 101, 48, 51, 102, 98, 56, 100, 56, 52, 97, 51, 55, 54, 97, 52, 51, 98, 56, 102, 52, 49, 53, 49, 56, 97, 49, 49, 99, 99, 51, 56, 55, 98, 54, 54, 57, 98, 50, 101, 101, 54, 53, 56, 54]) (List.append [57, 102, 48, 55, 101, 55, 98, 101, 53, 53, 53, 49, 51, 56, 55, 97, 57, 56, 98, 97, 57, 55, 55, 99, 55, 51, 50, 100, 48, 56, 48, 100, 99, 98, 48, 102, 50, 57, 97, 48, 52, 56, 101, 51, 54, 53, 54, 57, 49, 50, 99, 54, 53, 51, 51, 101, 51, 50, 101, 101, 55, 97, 101, 100] [50, 57, 98, 55, 50, 49, 55, 54, 57, 99, 101, 54, 52, 101, 52, 51, 100, 53, 55, 49, 51, 51, 98, 48, 55, 52, 100, 56, 51, 57, 100, 53, 51, 49, 101, 100, 49, 102, 50, 56, 53, 49, 48, 97, 102, 98, 52, 53, 97, 99, 101, 49, 48, 97, 49, 102, 52, 98, 55, 57, 52, 100, 54, 102])))))) (.tmp 21))) (.one (.pure (some 23) false (.move (.tmp 5))) (.one (.pure (some 24) false (.binOp .shr 5 (.tmp 23) (.const (.int .u64 4)) 29)) (.one (.pure (some 25) false (.index 9 (.const (.string (ByteArray.mk #[48, 49, 50, 51, 52, 53, 54, 55, 56, 57, 97, 98, 99, 100, 101, 102]))) (.tmp 24))) (.one (.pure (some 26) false (.binOp .neq 5 (.tmp 22) (.tmp 25) 5)) (.one (.pure (some 27) true (.move (.tmp 26))) (.one (.guard 27 false (.pure (some 28) false (.move (.tmp 4)))) (.one (.guard 27 false (.pure (some 29) false (.binOp .mul 3 (.const (.int .i64 2)) (.tmp 28) 3))) (.one (.guard 27 false (.pure (some 30) false (.binOp .add 3 (.tmp 29) (.const (.int .i64 1)) 3))) (.one (.guard 27 false (.pure (some 31) false (.index 9 (.const (.string (ByteArray.mk (List.toArray (List.append (List.append [55, 54, 98, 56, 101, 48, 97, 100, 97, 48, 102, 49, 51, 100, 57, 48, 52, 48, 53, 100, 54, 97, 101, 53, 53, 51, 56, 54, 98, 100, 50, 56, 98, 100, 100, 50, 49, 57, 98, 56, 97, 48, 56, 100, 101, 100, 49, 97, 97, 56, 51, 54, 101, 102, 99, 99, 56, 98, 55, 55, 48, 100, 99, 55] [100, 97, 52, 49, 53, 57, 55, 99, 53, 49, 53, 55, 52, 56, 56, 100, 55, 55, 50, 52, 101, 48, 51, 102, 98, 56, 100, 56, 52, 97, 51, 55, 54, 97, 52, 51, 98, 56, 102, 52, 49, 53, 49, 56, 97, 49, 49, 99, 99, 51, 56, 55, 98, 54, 54, 57, 98, 50, 101, 101, 54, 53, 56, 54]) (List.append [57, 102, 48, 55, 101, 55, 98, 101, 53, 53, 53, 49, 51, 56, 55, 97, 57, 56, 98, 97, 57, 55, 55, 99, 55, 51, 50, 100, 48, 56, 48, 100, 99, 98, 48, 102, 50, 57, 97, 48, 52, 56, 101, 51, 54, 53, 54, 57, 49, 50, 99, 54, 53, 51, 51, 101, 51, 50, 101, 101, 55, 97, 101, 100] [50, 57, 98, 55, 50, 49, 55, 54, 57, 99, 101, 54, 52, 101, 52, 51, 100, 53, 55, 49, 51, 51, 98, 48, 55, 52, 100, 56, 51, 57, 100, 53, 51, 49, 101, 100, 49, 102, 50, 56, 53, 49, 48, 97, 102, 98, 52, 53, 97, 99, 101, 49, 48, 97, 49, 102, 52, 98, 55, 57, 52, 100, 54, 102])))))) (.tmp 30)))) (.one (.guard 27 false (.pure (some 32) false (.move (.tmp 5)))) (.one (.guard 27 false (.pure (some 33) false (.binOp .and 5 (.tmp 32) (.const (.int .u8 15)) 5))) (.one (.guard 27 false (.pure (some 34) false (.index 9 (.const (.string (ByteArray.mk #[48, 49, 50, 51, 52, 53, 54, 55, 56, 57, 97, 98, 99, 100, 101, 102]))) (.tmp 33)))) (.one (.guard 27 false (.pure (some 35) false (.binOp .neq 5 (.tmp 31) (.tmp 34) 5))) (.one (.pure (some 36) false (.pick (.tmp 27) (.const (.bool true)) (.tmp 35))) .done)))))))))))))))))
abbrev p_law02_ChachaKnown_7 : PC := (.calm 0 131014 (.calm 1 131012 (.calm 2 131008 (.calm 3 131056 (.calm 4 131040 (.calm 5 131008 (.calm 6 130944 (.calm 7 130816 (.calm 8 101888 (.calm 9 101376 (.calm 10 100352 (.calm 11 98304 (.calm 12 122880 (.calm 13 114688 (.calm 14 98304 (.calm 15 65536 (.calm 16 0 .done)))))))))))))))))
abbrev g_law02_ChachaKnown_7 : List Dg := [⟨0, 16, 1048576, .pure, true⟩, ⟨1, 1048576, 2097152, .pure, true⟩, ⟨2, 2097152, 4194304, .pure, true⟩, ⟨0, 32, 8388608, .pure, true⟩, ⟨8, 8388608, 16777216, .pure, true⟩, ⟨16, 16777216, 33554432, .pure, true⟩, ⟨36, 37748736, 67108864, .pure, true⟩, ⟨64, 67108864, 134217728, .pure, true⟩, ⟨128, 134217744, 268435456, .pure, true⟩, ⟨384, 402653184, 536870912, .pure, true⟩, ⟨640, 671088640, 1073741824, .pure, true⟩, ⟨1152, 1207959552, 2147483648, .pure, true⟩, ⟨128, 134217760, 4294967296, .pure, true⟩, ⟨4224, 4429185024, 8589934592, .pure, true⟩, ⟨8320, 8724152320, 17179869184, .pure, true⟩, ⟨18560, 19461570560, 34359738368, .pure, true⟩, ⟨32896, 34493956096, 68719476736, .pure, true⟩]
abbrev q_law02_ChachaKnown_7 : List Nat := []
def s_law02_ChachaKnown_8 : List AStep := [.pure (some 2) false (.assign (.const (.bool false)))]
abbrev p_law02_ChachaKnown_8 : List Nat := [0]
def s_law02_ChachaKnown_9 : List AStep := [.pure (some 37) false (.binOp .add 3 (.tmp 15) (.const (.int .i64 1)) 3), .pure (some 15) false (.move (.tmp 37))]
abbrev p_law02_ChachaKnown_9 : List Nat := [0, 1]
def s_law02_ChachaKnown_10 : List AStep := [.pure (some 38) false (.move (.tmp 3)), .pure (some 39) false (.call (.mk (.builtin .len) #[.tmp 38] #[44])), .pure (some 40) false (.move (.tmp 0)), .pure (some 41) false (.convert 5 3 (.tmp 40)), .pure (some 42) false (.binOp .rem 3 (.tmp 41) (.const (.int .i64 129)) 3), .pure (some 43) false (.binOp .eql 3 (.tmp 39) (.tmp 42) 3), .pure (some 2) false (.assign (.tmp 43))]
abbrev p_law02_ChachaKnown_10 : List Nat := [0, 1, 2, 3, 4, 5, 6]

/-! erewhile/erewhilelaw02.awake -/
abbrev n_law02_awake : Nat := 12
theorem func_law02_awake : Try.prog.funcs[n_law02_awake]? = some Try.f12 := Try.func12
theorem call_law02_awake : ∀ args w, (callFunc n_law02_awake args).run Try.prog w = .ok (.enter n_law02_awake args) w := Try.call12
theorem nt_law02_awake : Try.f12.ntmps = 45 := Try.ntmps12
theorem rs_law02_awake : Try.f12.results.toList = [.tmp 0] := by rw [Try.results12]
def s_law02_awake_0 : List AStep := [.pure (some 0) false (.assign (.const (.bool false)))]
abbrev p_law02_awake_0 : List Nat := [0]
def s_law02_awake_1 : List AStep := [.call (some 7) false ⟨.value (.func 13), #[.const (.int .u32 286331153), .const (.int .u32 16909060), .const (.int .u32 2609737539), .const (.int .u32 19088743)], #[22, 22, 22, 22]⟩, .pure (some 6) false (.move (.tmp 7)), .pure (some 8) false (.extract (.tmp 6) 0), .pure (some 9) false (.extract (.tmp 6) 1), .pure (some 10) false (.extract (.tmp 6) 2), .pure (some 11) false (.extract (.tmp 6) 3), .pure (some 1) false (.assign (.tmp 8)), .pure (some 2) false (.assign (.tmp 9)), .pure (some 3) false (.assign (.tmp 10)), .pure (some 4) false (.assign (.tmp 11))]
abbrev p_law02_awake_1 : List Nat := [0, 1, 2, 3, 4, 5, 6, 7, 8, 9]
def s_law02_awake_2 : List AStep := [.pure (some 12) false (.build 36 #[]), .call (some 13) false ⟨.value (.func 24), #[.tmp 12, .const (.int .u64 0), .const (.int .i64 4)], #[36, 37, 3]⟩, .pure (some 5) false (.assign (.tmp 13))]
abbrev p_law02_awake_2 : List Nat := [0, 1, 2]
def s_law02_awake_3 : List AStep := [.pure (some 14) false (.move (.tmp 1)), .pure (some 15) false (.binOp .eql 22 (.tmp 14) (.const (.int .u32 3928658676)) 22), .pure (some 16) true (.move (.tmp 15)), .guard 16 true (.pure (some 17) false (.move (.tmp 2))), .guard 16 true (.pure (some 18) false (.binOp .eql 22 (.tmp 17) (.const (.int .u32 3407673550)) 22)), .pure (some 19) false (.pick (.tmp 16) (.tmp 18) (.const (.bool false))), .pure (some 20) true (.move (.tmp 19)), .guard 20 true (.pure (some 21) false (.move (.tmp 3))), .guard 20 true (.pure (some 22) false (.binOp .eql 22 (.tmp 21) (.const (.int .u32 1166100270)) 22)), .pure (some 23) false (.pick (.tmp 20) (.tmp 22) (.const (.bool false))), .pure (some 24) true (.move (.tmp 23)), .guard 24 true (.pure (some 25) false (.move (.tmp 4))), .guard 24 true (.pure (some 26) false (.binOp .eql 22 (.tmp 25) (.const (.int .u32 1484899515)) 22)), .pure (some 27) false (.pick (.tmp 24) (.tmp 26) (.const (.bool false))), .pure (some 28) true (.move (.tmp 27)), .guard 28 true (.pure (some 29) false (.move (.tmp 5))), .guard 28 true (.pure (some 30) false (.call (.mk (.builtin .len) #[.tmp 29] #[44]))), .guard 28 true (.pure (some 31) false (.binOp .eql 3 (.tmp 30) (.const (.int .i64 4)) 3)), .pure (some 32) false (.pick (.tmp 28) (.tmp 31) (.const (.bool false))), .pure (some 33) true (.move (.tmp 32)), .guard 33 true (.pure (some 34) false (.move (.tmp 5))), .guard 33 true (.pure (some 35) false (.indexAddr 44 (.tmp 34) (.const (.int .i64 0)))), .guard 33 true (.read (some 36) false (.load 5 (.tmp 35))), .guard 33 true (.pure (some 37) false (.binOp .eql 5 (.tmp 36) (.const (.int .u8 118)) 5)), .pure (some 38) false (.pick (.tmp 33) (.tmp 37) (.const (.bool false))), .pure (some 39) true (.move (.tmp 38)), .guard 39 true (.pure (some 40) false (.move (.tmp 5))), .guard 39 true (.pure (some 41) false (.indexAddr 44 (.tmp 40) (.const (.int .i64 3)))), .guard 39 true (.read (some 42) false (.load 5 (.tmp 41))), .guard 39 true (.pure (some 43) false (.binOp .eql 5 (.tmp 42) (.const (.int .u8 173)) 5)), .pure (some 44) false (.pick (.tmp 39) (.tmp 43) (.const (.bool false))), .pure (some 0) false (.assign (.tmp 44))]
abbrev p_law02_awake_3 : List Nat := [0, 1, 2, 3, 4, 5, 6, 7, 8, 9, 10, 11, 12, 13, 14, 15, 16, 17, 18, 19, 20, 21, 22, 23, 24, 25, 26, 27, 28, 29, 30, 31]

/-! erewhile/chacha.Quarter -/
abbrev n_chacha_Quarter : Nat := 13
theorem func_chacha_Quarter : Try.prog.funcs[n_chacha_Quarter]? = some Try.f13 := Try.func13
theorem call_chacha_Quarter : ∀ args w, (callFunc n_chacha_Quarter args).run Try.prog w = .ok (.enter n_chacha_Quarter args) w := Try.call13
theorem nt_chacha_Quarter : Try.f13.ntmps = 44 := Try.ntmps13
theorem rs_chacha_Quarter : Try.f13.results.toList = [.tmp 8, .tmp 9, .tmp 10, .tmp 11] := by rw [Try.results13]
def s_chacha_Quarter_0 : List AStep := [.pure (some 8) false (.assign (.const (.int .u32 0))), .pure (some 9) false (.assign (.const (.int .u32 0))), .pure (some 10) false (.assign (.const (.int .u32 0))), .pure (some 11) false (.assign (.const (.int .u32 0)))]
abbrev p_chacha_Quarter_0 : List Nat := [0, 1, 2, 3]
def s_chacha_Quarter_1 : List AStep := [.pure (some 12) false (.move (.tmp 0)), .pure (some 13) false (.move (.tmp 1)), .pure (some 14) false (.binOp .add 22 (.tmp 12) (.tmp 13) 22), .pure (some 0) false (.assign (.tmp 14))]
abbrev p_chacha_Quarter_1 : List Nat := [0, 1, 2, 3]
def s_chacha_Quarter_2 : List AStep := [.pure (some 15) false (.move (.tmp 3)), .pure (some 16) false (.move (.tmp 0)), .pure (some 17) false (.binOp .xor 22 (.tmp 15) (.tmp 16) 22), .call (some 18) false ⟨.value (.func 26), #[.tmp 17, .const (.int .i64 16)], #[22, 3]⟩, .pure (some 3) false (.assign (.tmp 18))]
abbrev p_chacha_Quarter_2 : List Nat := [0, 1, 2, 3, 4]
def s_chacha_Quarter_3 : List AStep := [.pure (some 19) false (.move (.tmp 2)), .pure (some 20) false (.move (.tmp 3)), .pure (some 21) false (.binOp .add 22 (.tmp 19) (.tmp 20) 22), .pure (some 2) false (.assign (.tmp 21))]
abbrev p_chacha_Quarter_3 : List Nat := [0, 1, 2, 3]
def s_chacha_Quarter_4 : List AStep := [.pure (some 22) false (.move (.tmp 1)), .pure (some 23) false (.move (.tmp 2)), .pure (some 24) false (.binOp .xor 22 (.tmp 22) (.tmp 23) 22), .call (some 25) false ⟨.value (.func 26), #[.tmp 24, .const (.int .i64 12)], #[22, 3]⟩, .pure (some 1) false (.assign (.tmp 25))]
abbrev p_chacha_Quarter_4 : List Nat := [0, 1, 2, 3, 4]
def s_chacha_Quarter_5 : List AStep := [.pure (some 26) false (.move (.tmp 0)), .pure (some 27) false (.move (.tmp 1)), .pure (some 28) false (.binOp .add 22 (.tmp 26) (.tmp 27) 22), .pure (some 0) false (.assign (.tmp 28))]
abbrev p_chacha_Quarter_5 : List Nat := [0, 1, 2, 3]
def s_chacha_Quarter_6 : List AStep := [.pure (some 29) false (.move (.tmp 3)), .pure (some 30) false (.move (.tmp 0)), .pure (some 31) false (.binOp .xor 22 (.tmp 29) (.tmp 30) 22), .call (some 32) false ⟨.value (.func 26), #[.tmp 31, .const (.int .i64 8)], #[22, 3]⟩, .pure (some 3) false (.assign (.tmp 32))]
abbrev p_chacha_Quarter_6 : List Nat := [0, 1, 2, 3, 4]
def s_chacha_Quarter_7 : List AStep := [.pure (some 33) false (.move (.tmp 2)), .pure (some 34) false (.move (.tmp 3)), .pure (some 35) false (.binOp .add 22 (.tmp 33) (.tmp 34) 22), .pure (some 2) false (.assign (.tmp 35))]
abbrev p_chacha_Quarter_7 : List Nat := [0, 1, 2, 3]
def s_chacha_Quarter_8 : List AStep := [.pure (some 36) false (.move (.tmp 1)), .pure (some 37) false (.move (.tmp 2)), .pure (some 38) false (.binOp .xor 22 (.tmp 36) (.tmp 37) 22), .call (some 39) false ⟨.value (.func 26), #[.tmp 38, .const (.int .i64 7)], #[22, 3]⟩, .pure (some 1) false (.assign (.tmp 39))]
abbrev p_chacha_Quarter_8 : List Nat := [0, 1, 2, 3, 4]
def s_chacha_Quarter_9 : List AStep := [.pure (some 40) false (.move (.tmp 0)), .pure (some 41) false (.move (.tmp 1)), .pure (some 42) false (.move (.tmp 2)), .pure (some 43) false (.move (.tmp 3)), .pure (some 8) false (.assign (.tmp 40)), .pure (some 9) false (.assign (.tmp 41)), .pure (some 10) false (.assign (.tmp 42)), .pure (some 11) false (.assign (.tmp 43))]
abbrev p_chacha_Quarter_9 : List Nat := [0, 1, 2, 3, 4, 5, 6, 7]

/-! erewhile/erewhileref02.Quarter -/
abbrev n_ref02_Quarter : Nat := 14
theorem func_ref02_Quarter : Try.prog.funcs[n_ref02_Quarter]? = some Try.f14 := Try.func14
theorem call_ref02_Quarter : ∀ args w, (callFunc n_ref02_Quarter args).run Try.prog w = .ok (.enter n_ref02_Quarter args) w := Try.call14
theorem nt_ref02_Quarter : Try.f14.ntmps = 44 := Try.ntmps14
theorem rs_ref02_Quarter : Try.f14.results.toList = [.tmp 8, .tmp 9, .tmp 10, .tmp 11] := by rw [Try.results14]
def s_ref02_Quarter_0 : List AStep := [.pure (some 8) false (.assign (.const (.int .u32 0))), .pure (some 9) false (.assign (.const (.int .u32 0))), .pure (some 10) false (.assign (.const (.int .u32 0))), .pure (some 11) false (.assign (.const (.int .u32 0)))]
abbrev p_ref02_Quarter_0 : List Nat := [0, 1, 2, 3]
def s_ref02_Quarter_1 : List AStep := [.pure (some 12) false (.move (.tmp 0)), .pure (some 13) false (.move (.tmp 1)), .pure (some 14) false (.binOp .add 22 (.tmp 12) (.tmp 13) 22), .pure (some 0) false (.assign (.tmp 14))]
abbrev p_ref02_Quarter_1 : List Nat := [0, 1, 2, 3]
def s_ref02_Quarter_2 : List AStep := [.pure (some 15) false (.move (.tmp 3)), .pure (some 16) false (.move (.tmp 0)), .pure (some 17) false (.binOp .xor 22 (.tmp 15) (.tmp 16) 22), .call (some 18) false ⟨.value (.func 27), #[.tmp 17, .const (.int .i64 16)], #[22, 3]⟩, .pure (some 3) false (.assign (.tmp 18))]
abbrev p_ref02_Quarter_2 : List Nat := [0, 1, 2, 3, 4]
def s_ref02_Quarter_3 : List AStep := [.pure (some 19) false (.move (.tmp 2)), .pure (some 20) false (.move (.tmp 3)), .pure (some 21) false (.binOp .add 22 (.tmp 19) (.tmp 20) 22), .pure (some 2) false (.assign (.tmp 21))]
abbrev p_ref02_Quarter_3 : List Nat := [0, 1, 2, 3]
def s_ref02_Quarter_4 : List AStep := [.pure (some 22) false (.move (.tmp 1)), .pure (some 23) false (.move (.tmp 2)), .pure (some 24) false (.binOp .xor 22 (.tmp 22) (.tmp 23) 22), .call (some 25) false ⟨.value (.func 27), #[.tmp 24, .const (.int .i64 12)], #[22, 3]⟩, .pure (some 1) false (.assign (.tmp 25))]
abbrev p_ref02_Quarter_4 : List Nat := [0, 1, 2, 3, 4]
def s_ref02_Quarter_5 : List AStep := [.pure (some 26) false (.move (.tmp 0)), .pure (some 27) false (.move (.tmp 1)), .pure (some 28) false (.binOp .add 22 (.tmp 26) (.tmp 27) 22), .pure (some 0) false (.assign (.tmp 28))]
abbrev p_ref02_Quarter_5 : List Nat := [0, 1, 2, 3]
def s_ref02_Quarter_6 : List AStep := [.pure (some 29) false (.move (.tmp 3)), .pure (some 30) false (.move (.tmp 0)), .pure (some 31) false (.binOp .xor 22 (.tmp 29) (.tmp 30) 22), .call (some 32) false ⟨.value (.func 27), #[.tmp 31, .const (.int .i64 8)], #[22, 3]⟩, .pure (some 3) false (.assign (.tmp 32))]
abbrev p_ref02_Quarter_6 : List Nat := [0, 1, 2, 3, 4]
def s_ref02_Quarter_7 : List AStep := [.pure (some 33) false (.move (.tmp 2)), .pure (some 34) false (.move (.tmp 3)), .pure (some 35) false (.binOp .add 22 (.tmp 33) (.tmp 34) 22), .pure (some 2) false (.assign (.tmp 35))]
abbrev p_ref02_Quarter_7 : List Nat := [0, 1, 2, 3]
def s_ref02_Quarter_8 : List AStep := [.pure (some 36) false (.move (.tmp 1)), .pure (some 37) false (.move (.tmp 2)), .pure (some 38) false (.binOp .xor 22 (.tmp 36) (.tmp 37) 22), .call (some 39) false ⟨.value (.func 27), #[.tmp 38, .const (.int .i64 7)], #[22, 3]⟩, .pure (some 1) false (.assign (.tmp 39))]
abbrev p_ref02_Quarter_8 : List Nat := [0, 1, 2, 3, 4]
def s_ref02_Quarter_9 : List AStep := [.pure (some 40) false (.move (.tmp 0)), .pure (some 41) false (.move (.tmp 1)), .pure (some 42) false (.move (.tmp 2)), .pure (some 43) false (.move (.tmp 3)), .pure (some 8) false (.assign (.tmp 40)), .pure (some 9) false (.assign (.tmp 41)), .pure (some 10) false (.assign (.tmp 42)), .pure (some 11) false (.assign (.tmp 43))]
abbrev p_ref02_Quarter_9 : List Nat := [0, 1, 2, 3, 4, 5, 6, 7]

/-! erewhile/erewhilelaw02.back -/
abbrev n_law02_back : Nat := 15
theorem func_law02_back : Try.prog.funcs[n_law02_back]? = some Try.f15 := Try.func15
theorem call_law02_back : ∀ args w, (callFunc n_law02_back args).run Try.prog w = .ok (.enter n_law02_back args) w := Try.call15
theorem nt_law02_back : Try.f15.ntmps = 13 := Try.ntmps15
theorem rs_law02_back : Try.f15.results.toList = [.tmp 4] := by rw [Try.results15]
def s_law02_back_0 : List AStep := [.pure (some 4) false (.assign (.const (.int .u32 0)))]
abbrev p_law02_back_0 : List Nat := [0]
def s_law02_back_1 : List AStep := [.pure (some 5) false (.move (.tmp 0)), .pure (some 6) false (.move (.tmp 1)), .pure (some 7) false (.binOp .shr 22 (.tmp 5) (.tmp 6) 29), .pure (some 8) false (.move (.tmp 0)), .pure (some 9) false (.move (.tmp 1)), .pure (some 10) false (.binOp .sub 29 (.const (.int .u64 32)) (.tmp 9) 29), .pure (some 11) false (.binOp .shl 22 (.tmp 8) (.tmp 10) 29), .pure (some 12) false (.binOp .or 22 (.tmp 7) (.tmp 11) 22), .pure (some 4) false (.assign (.tmp 12))]
abbrev p_law02_back_1 : List Nat := [0, 1, 2, 3, 4, 5, 6, 7, 8]

/-! erewhile/chacha.Rounds -/
abbrev n_chacha_Rounds : Nat := 16
theorem func_chacha_Rounds : Try.prog.funcs[n_chacha_Rounds]? = some Try.f16 := Try.func16
theorem call_chacha_Rounds : ∀ args w, (callFunc n_chacha_Rounds args).run Try.prog w = .ok (.enter n_chacha_Rounds args) w := Try.call16
theorem nt_chacha_Rounds : Try.f16.ntmps = 41 := Try.ntmps16
theorem rs_chacha_Rounds : Try.f16.results.toList = [.cell 2 30] := by rw [Try.results16]
def s_chacha_Rounds_0 : List AStep := [.eff (some 1) (.box 30 (.tmp 0)), .eff (some 2) (.alloc 30)]
abbrev p_chacha_Rounds_0 : List Nat := [0, 1]
def s_chacha_Rounds_1 : List AStep := [.pure (some 5) false (.move (.const (.int .i64 0)))]
abbrev p_chacha_Rounds_1 : List Nat := [0]
def s_chacha_Rounds_2 : List AStep := [.pure (some 6) false (.binOp .lss 3 (.tmp 5) (.const (.int .i64 10)) 3)]
abbrev p_chacha_Rounds_2 : List Nat := [0]
def s_chacha_Rounds_3 : List AStep := [.pure (some 7) false (.move (.const (.int .i64 0)))]
abbrev p_chacha_Rounds_3 : List Nat := [0]
def s_chacha_Rounds_4 : List AStep := [.pure (some 8) false (.binOp .lss 3 (.tmp 7) (.const (.int .i64 4)) 3)]
abbrev p_chacha_Rounds_4 : List Nat := [0]
def s_chacha_Rounds_5 : List AStep := [.pure (some 9) false (.move (.tmp 7)), .pure (some 3) false (.assign (.tmp 9))]
abbrev p_chacha_Rounds_5 : List Nat := [0, 1]
def s_chacha_Rounds_6 : List AStep := [.read (some 10) false (.load 30 (.tmp 1)), .pure (some 11) false (.move (.tmp 3)), .pure (some 12) false (.move (.tmp 3)), .pure (some 13) false (.binOp .add 3 (.const (.int .i64 4)) (.tmp 12) 3), .pure (some 14) false (.move (.tmp 3)), .pure (some 15) false (.binOp .add 3 (.const (.int .i64 8)) (.tmp 14) 3), .pure (some 16) false (.move (.tmp 3)), .pure (some 17) false (.binOp .add 3 (.const (.int .i64 12)) (.tmp 16) 3), .call (some 18) false ⟨.value (.func 28), #[.tmp 10, .tmp 11, .tmp 13, .tmp 15, .tmp 17], #[30, 3, 3, 3, 3]⟩, .eff none (.store 30 (.tmp 1) (.tmp 18))]
abbrev p_chacha_Rounds_6 : List Nat := [0, 1, 2, 3, 4, 5, 6, 7, 8, 9]
def s_chacha_Rounds_7 : List AStep := [.pure (some 19) false (.binOp .add 3 (.tmp 7) (.const (.int .i64 1)) 3), .pure (some 7) false (.move (.tmp 19))]
abbrev p_chacha_Rounds_7 : List Nat := [0, 1]
def s_chacha_Rounds_8 : List AStep := [.pure (some 20) false (.move (.const (.int .i64 0)))]
abbrev p_chacha_Rounds_8 : List Nat := [0]
def s_chacha_Rounds_9 : List AStep := [.pure (some 21) false (.binOp .lss 3 (.tmp 20) (.const (.int .i64 4)) 3)]
abbrev p_chacha_Rounds_9 : List Nat := [0]
def s_chacha_Rounds_10 : List AStep := [.pure (some 22) false (.move (.tmp 20)), .pure (some 4) false (.assign (.tmp 22))]
abbrev p_chacha_Rounds_10 : List Nat := [0, 1]
def s_chacha_Rounds_11 : List AStep := [.read (some 23) false (.load 30 (.tmp 1)), .pure (some 24) false (.move (.tmp 4)), .pure (some 25) false (.move (.tmp 4)), .pure (some 26) false (.binOp .add 3 (.tmp 25) (.const (.int .i64 1)) 3), .pure (some 27) false (.binOp .rem 3 (.tmp 26) (.const (.int .i64 4)) 3), .pure (some 28) false (.binOp .add 3 (.const (.int .i64 4)) (.tmp 27) 3), .pure (some 29) false (.move (.tmp 4)), .pure (some 30) false (.binOp .add 3 (.tmp 29) (.const (.int .i64 2)) 3), .pure (some 31) false (.binOp .rem 3 (.tmp 30) (.const (.int .i64 4)) 3), .pure (some 32) false (.binOp .add 3 (.const (.int .i64 8)) (.tmp 31) 3), .pure (some 33) false (.move (.tmp 4)), .pure (some 34) false (.binOp .add 3 (.tmp 33) (.const (.int .i64 3)) 3), .pure (some 35) false (.binOp .rem 3 (.tmp 34) (.const (.int .i64 4)) 3), .pure (some 36) false (.binOp .add 3 (.const (.int .i64 12)) (.tmp 35) 3), .call (some 37) false ⟨.value (.func 28), #[.tmp 23, .tmp 24, .tmp 28, .tmp 32, .tmp 36], #[30, 3, 3, 3, 3]⟩, .eff none (.store 30 (.tmp 1) (.tmp 37))]
abbrev p_chacha_Rounds_11 : List Nat := [0, 1, 2, 3, 4, 5, 6, 7, 8, 9, 10, 11, 12, 13, 14, 15]
def s_chacha_Rounds_12 : List AStep := [.pure (some 38) false (.binOp .add 3 (.tmp 20) (.const (.int .i64 1)) 3), .pure (some 20) false (.move (.tmp 38))]
abbrev p_chacha_Rounds_12 : List Nat := [0, 1]
def s_chacha_Rounds_13 : List AStep := [.pure (some 39) false (.binOp .add 3 (.tmp 5) (.const (.int .i64 1)) 3), .pure (some 5) false (.move (.tmp 39))]
abbrev p_chacha_Rounds_13 : List Nat := [0, 1]
def s_chacha_Rounds_14 : List AStep := [.read (some 40) false (.load 30 (.tmp 1)), .eff none (.store 30 (.tmp 2) (.tmp 40))]
abbrev p_chacha_Rounds_14 : List Nat := [0, 1]

/-! erewhile/erewhileref02.Rounds -/
abbrev n_ref02_Rounds : Nat := 17
theorem func_ref02_Rounds : Try.prog.funcs[n_ref02_Rounds]? = some Try.f17 := Try.func17
theorem call_ref02_Rounds : ∀ args w, (callFunc n_ref02_Rounds args).run Try.prog w = .ok (.enter n_ref02_Rounds args) w := Try.call17
theorem nt_ref02_Rounds : Try.f17.ntmps = 65 := Try.ntmps17
theorem rs_ref02_Rounds : Try.f17.results.toList = [.cell 2 30] := by rw [Try.results17]
def s_ref02_Rounds_0 : List AStep := [.eff (some 1) (.box 30 (.tmp 0)), .eff (some 2) (.alloc 30)]
abbrev p_ref02_Rounds_0 : List Nat := [0, 1]
def s_ref02_Rounds_1 : List AStep := [.pure (some 3) false (.assign (.const (.int .i64 0)))]
abbrev p_ref02_Rounds_1 : List Nat := [0]
def s_ref02_Rounds_2 : List AStep := [.pure (some 10) false (.move (.tmp 3)), .pure (some 11) false (.binOp .lss 3 (.tmp 10) (.const (.int .i64 20)) 3)]
abbrev p_ref02_Rounds_2 : List Nat := [0, 1]
def s_ref02_Rounds_4 : List AStep := [.pure (some 4) false (.assign (.const (.int .i64 0)))]
abbrev p_ref02_Rounds_4 : List Nat := [0]
def s_ref02_Rounds_5 : List AStep := [.pure (some 14) false (.move (.tmp 4)), .pure (some 15) false (.binOp .lss 3 (.tmp 14) (.const (.int .i64 4)) 3)]
abbrev p_ref02_Rounds_5 : List Nat := [0, 1]
def s_ref02_Rounds_7 : List AStep := [.pure (some 18) false (.move (.tmp 3)), .pure (some 19) false (.binOp .rem 3 (.tmp 18) (.const (.int .i64 2)) 3), .pure (some 5) false (.assign (.tmp 19))]
abbrev p_ref02_Rounds_7 : List Nat := [0, 1, 2]
def s_ref02_Rounds_8 : List AStep := [.pure (some 20) false (.move (.tmp 4)), .pure (some 21) false (.move (.tmp 4)), .pure (some 22) false (.move (.tmp 5)), .pure (some 23) false (.binOp .add 3 (.tmp 21) (.tmp 22) 3), .pure (some 24) false (.binOp .rem 3 (.tmp 23) (.const (.int .i64 4)) 3), .pure (some 25) false (.binOp .add 3 (.const (.int .i64 4)) (.tmp 24) 3), .pure (some 26) false (.move (.tmp 4)), .pure (some 27) false (.move (.tmp 5)), .pure (some 28) false (.binOp .mul 3 (.const (.int .i64 2)) (.tmp 27) 3), .pure (some 29) false (.binOp .add 3 (.tmp 26) (.tmp 28) 3), .pure (some 30) false (.binOp .rem 3 (.tmp 29) (.const (.int .i64 4)) 3), .pure (some 31) false (.binOp .add 3 (.const (.int .i64 8)) (.tmp 30) 3), .pure (some 32) false (.move (.tmp 4)), .pure (some 33) false (.move (.tmp 5)), .pure (some 34) false (.binOp .mul 3 (.const (.int .i64 3)) (.tmp 33) 3), .pure (some 35) false (.binOp .add 3 (.tmp 32) (.tmp 34) 3), .pure (some 36) false (.binOp .rem 3 (.tmp 35) (.const (.int .i64 4)) 3), .pure (some 37) false (.binOp .add 3 (.const (.int .i64 12)) (.tmp 36) 3), .pure (some 6) false (.assign (.tmp 20)), .pure (some 7) false (.assign (.tmp 25)), .pure (some 8) false (.assign (.tmp 31)), .pure (some 9) false (.assign (.tmp 37))]
abbrev p_ref02_Rounds_8 : List Nat := [0, 1, 2, 3, 4, 5, 6, 7, 8, 9, 10, 11, 12, 13, 14, 15, 16, 17, 18, 19, 20, 21]
def s_ref02_Rounds_9 : SP := (.one (.pure (some 39) false (.move (.tmp 6))) (.one (.pure (some 40) false (.move (.tmp 7))) (.one (.pure (some 41) false (.move (.tmp 8))) (.one (.pure (some 42) false (.move (.tmp 9))) (.one (.pure (some 43) false (.move (.tmp 6))) (.one (.pure (some 44) false (.indexAddr 30 (.tmp 1) (.tmp 43))) (.one (.pure (some 46) false (.move (.tmp 7))) (.one (.pure (some 47) false (.indexAddr 30 (.tmp 1) (.tmp 46))) (.one (.pure (some 49) false (.move (.tmp 8))) (.one (.pure (some 50) false (.indexAddr 30 (.tmp 1) (.tmp 49))) (.one (.pure (some 52) false (.move (.tmp 9))) (.one (.pure (some 53) false (.indexAddr 30 (.tmp 1) (.tmp 52))) (.one (.read (some 45) false (.load 22 (.tmp 44))) (.one (.read (some 48) false (.load 22 (.tmp 47))) (.one (.read (some 51) false (.load 22 (.tmp 50))) (.one (.read (some 54) false (.load 22 (.tmp 53))) (.one (.call (some 55) false ⟨.value (.func 14), #[.tmp 45, .tmp 48, .tmp 51, .tmp 54], #[22, 22, 22, 22]⟩) (.one (.pure (some 38) false (.move (.tmp 55))) (.one (.pure (some 56) false (.extract (.tmp 38) 0)) (.one (.pure (some 57) false (.extract (.tmp 38) 1)) (.one (.pure (some 58) false (.extract (.tmp 38) 2)) (.one (.pure (some 59) false (.extract (.tmp 38) 3)) (.one (.pure (some 60) false (.indexAddr 30 (.tmp 1) (.tmp 39))) (.one (.eff none (.store 22 (.tmp 60) (.tmp 56))) (.one (.pure (some 61) false (.indexAddr 30 (.tmp 1) (.tmp 40))) (.one (.eff none (.store 22 (.tmp 61) (.tmp 57))) (.one (.pure (some 62) false (.indexAddr 30 (.tmp 1) (.tmp 41))) (.one (.eff none (.store 22 (.tmp 62) (.tmp 58))) (.one (.pure (some 63) false (.indexAddr 30 (.tmp 1) (.tmp 42))) (.one (.eff none (.store 22 (.tmp 63) (.tmp 59))) .done))))))))))))))))))))))))))))))
abbrev p_ref02_Rounds_9 : PC := (.calm 0 1069547520 (.calm 1 1056964608 (.calm 2 1006632960 (.calm 3 805306368 (.calm 4 1073676384 (.calm 5 1073676352 (.calm 7 1073677056 (.calm 8 1073676800 (.calm 10 1073682432 (.calm 11 1073680384 (.calm 13 1073725440 (.calm 14 1073709056 (.calm 6 1073676288 (.calm 9 1073676288 (.calm 12 1073676288 (.calm 15 1073676288 (.act 16 (.calm 17 1073479680 (.calm 18 1069547520 (.calm 19 1056964608 (.calm 20 1006632960 (.calm 21 805306368 (.calm 22 1065353216 (.act 23 (.calm 24 1040187392 (.act 25 (.calm 26 939524096 (.act 27 (.calm 28 536870912 (.act 29 .done))))))))))))))))))))))))))))))
abbrev g_ref02_Rounds_9 : List Dg := [⟨0, 64, 549755813888, .pure, true⟩, ⟨0, 128, 1099511627776, .pure, true⟩, ⟨0, 256, 2199023255552, .pure, true⟩, ⟨0, 512, 4398046511104, .pure, true⟩, ⟨0, 64, 8796093022208, .pure, true⟩, ⟨16, 8796093022210, 17592186044416, .pure, true⟩, ⟨32, 17592186044416, 35184372088832, .read, true⟩, ⟨0, 128, 70368744177664, .pure, true⟩, ⟨128, 70368744177666, 140737488355328, .pure, true⟩, ⟨256, 140737488355328, 281474976710656, .read, true⟩, ⟨0, 256, 562949953421312, .pure, true⟩, ⟨1024, 562949953421314, 1125899906842624, .pure, true⟩, ⟨2048, 1125899906842624, 2251799813685248, .read, true⟩, ⟨0, 512, 4503599627370496, .pure, true⟩, ⟨8192, 4503599627370498, 9007199254740992, .pure, true⟩, ⟨16384, 9007199254740992, 18014398509481984, .read, true⟩, ⟨37440, 20582857671966720, 36028797018963968, .call, true⟩, ⟨65536, 36028797018963968, 274877906944, .pure, true⟩, ⟨131072, 274877906944, 72057594037927936, .pure, true⟩, ⟨131072, 274877906944, 144115188075855872, .pure, true⟩, ⟨131072, 274877906944, 288230376151711744, .pure, true⟩, ⟨131072, 274877906944, 576460752303423488, .pure, true⟩, ⟨524273, 549755813890, 1152921504606846976, .pure, true⟩, ⟨4718577, 1224979098644774912, 0, .eff, false⟩, ⟨13631475, 1099511627778, 2305843009213693952, .pure, true⟩, ⟨30408691, 2449958197289549824, 0, .eff, false⟩, ⟨65011703, 2199023255554, 4611686018427387904, .pure, true⟩, ⟨132120567, 4899916394579099648, 0, .eff, false⟩, ⟨268435455, 4398046511106, 9223372036854775808, .pure, true⟩, ⟨536870911, 9799832789158199296, 0, .eff, false⟩]
abbrev q_ref02_Rounds_9 : List Nat := []
def s_ref02_Rounds_6 : List AStep := [.pure (some 16) false (.move (.tmp 4)), .pure (some 17) false (.binOp .add 3 (.tmp 16) (.const (.int .i64 1)) 3), .pure (some 4) false (.assign (.tmp 17))]
abbrev p_ref02_Rounds_6 : List Nat := [0, 1, 2]
def s_ref02_Rounds_3 : List AStep := [.pure (some 12) false (.move (.tmp 3)), .pure (some 13) false (.binOp .add 3 (.tmp 12) (.const (.int .i64 1)) 3), .pure (some 3) false (.assign (.tmp 13))]
abbrev p_ref02_Rounds_3 : List Nat := [0, 1, 2]
def s_ref02_Rounds_10 : List AStep := [.read (some 64) false (.load 30 (.tmp 1)), .eff none (.store 30 (.tmp 2) (.tmp 64))]
abbrev p_ref02_Rounds_10 : List Nat := [0, 1]

/-! erewhile/erewhilelaw02.turned -/
abbrev n_law02_turned : Nat := 18
theorem func_law02_turned : Try.prog.funcs[n_law02_turned]? = some Try.f18 := Try.func18
theorem call_law02_turned : ∀ args w, (callFunc n_law02_turned args).run Try.prog w = .ok (.enter n_law02_turned args) w := Try.call18
theorem nt_law02_turned : Try.f18.ntmps = 24 := Try.ntmps18
theorem rs_law02_turned : Try.f18.results.toList = [.cell 4 30] := by rw [Try.results18]
def s_law02_turned_0 : List AStep := [.eff (some 2) (.box 30 (.tmp 0)), .eff (some 4) (.alloc 30)]
abbrev p_law02_turned_0 : List Nat := [0, 1]
def s_law02_turned_1 : List AStep := [.eff (some 5) (.alloc 30)]
abbrev p_law02_turned_1 : List Nat := [0]
def s_law02_turned_2 : List AStep := [.pure (some 7) false (.move (.const (.int .i64 0)))]
abbrev p_law02_turned_2 : List Nat := [0]
def s_law02_turned_3 : List AStep := [.pure (some 8) false (.binOp .lss 3 (.tmp 7) (.const (.int .i64 16)) 3)]
abbrev p_law02_turned_3 : List Nat := [0]
def s_law02_turned_4 : List AStep := [.pure (some 9) false (.move (.tmp 7)), .pure (some 6) false (.assign (.tmp 9))]
abbrev p_law02_turned_4 : List Nat := [0, 1]
def s_law02_turned_5 : List AStep := [.pure (some 10) false (.move (.tmp 6)), .pure (some 11) false (.binOp .quo 3 (.tmp 10) (.const (.int .i64 4)) 3), .pure (some 12) false (.binOp .mul 3 (.tmp 11) (.const (.int .i64 4)) 3), .pure (some 13) false (.move (.tmp 6)), .pure (some 14) false (.move (.tmp 1)), .pure (some 15) false (.binOp .add 3 (.tmp 13) (.tmp 14) 3), .pure (some 16) false (.binOp .rem 3 (.tmp 15) (.const (.int .i64 4)) 3), .pure (some 17) false (.binOp .add 3 (.tmp 12) (.tmp 16) 3), .pure (some 18) false (.move (.tmp 6)), .pure (some 19) false (.indexAddr 30 (.tmp 2) (.tmp 18)), .read (some 20) false (.load 22 (.tmp 19)), .pure (some 21) false (.indexAddr 30 (.tmp 5) (.tmp 17)), .eff none (.store 22 (.tmp 21) (.tmp 20))]
abbrev p_law02_turned_5 : List Nat := [0, 1, 2, 3, 4, 5, 6, 7, 8, 9, 10, 11, 12]
def s_law02_turned_6 : List AStep := [.pure (some 22) false (.binOp .add 3 (.tmp 7) (.const (.int .i64 1)) 3), .pure (some 7) false (.move (.tmp 22))]
abbrev p_law02_turned_6 : List Nat := [0, 1]
def s_law02_turned_7 : List AStep := [.read (some 23) false (.load 30 (.tmp 5)), .eff none (.store 30 (.tmp 4) (.tmp 23))]
abbrev p_law02_turned_7 : List Nat := [0, 1]

/-! erewhile/chacha.Block -/
abbrev n_chacha_Block : Nat := 19
theorem func_chacha_Block : Try.prog.funcs[n_chacha_Block]? = some Try.f19 := Try.func19
theorem call_chacha_Block : ∀ args w, (callFunc n_chacha_Block args).run Try.prog w = .ok (.enter n_chacha_Block args) w := Try.call19
theorem nt_chacha_Block : Try.f19.ntmps = 38 := Try.ntmps19
theorem rs_chacha_Block : Try.f19.results.toList = [.cell 6 38] := by rw [Try.results19]
def s_chacha_Block_0 : List AStep := [.eff (some 3) (.box 36 (.tmp 0)), .eff (some 6) (.alloc 38)]
abbrev p_chacha_Block_0 : List Nat := [0, 1]
def s_chacha_Block_1 : List AStep := [.read (some 11) false (.load 36 (.tmp 3)), .pure (some 12) false (.move (.tmp 1)), .pure (some 13) false (.move (.tmp 2)), .call (some 14) false ⟨.value (.func 29), #[.tmp 11, .tmp 12, .tmp 13], #[36, 22, 37]⟩, .eff (some 7) (.alloc 30), .eff none (.store 30 (.tmp 7) (.tmp 14))]
abbrev p_chacha_Block_1 : List Nat := [0, 1, 2, 3, 4, 5]
def s_chacha_Block_2 : List AStep := [.read (some 15) false (.load 30 (.tmp 7)), .call (some 16) false ⟨.value (.func 16), #[.tmp 15], #[30]⟩, .eff (some 8) (.alloc 30), .eff none (.store 30 (.tmp 8) (.tmp 16))]
abbrev p_chacha_Block_2 : List Nat := [0, 1, 2, 3]
def s_chacha_Block_3 : List AStep := [.eff (some 9) (.alloc 38)]
abbrev p_chacha_Block_3 : List Nat := [0]
def s_chacha_Block_4 : List AStep := [.pure (some 17) false (.move (.const (.int .i64 0)))]
abbrev p_chacha_Block_4 : List Nat := [0]
def s_chacha_Block_5 : List AStep := [.pure (some 18) false (.binOp .lss 3 (.tmp 17) (.const (.int .i64 64)) 3)]
abbrev p_chacha_Block_5 : List Nat := [0]
def s_chacha_Block_6 : List AStep := [.pure (some 19) false (.move (.tmp 17)), .pure (some 10) false (.assign (.tmp 19))]
abbrev p_chacha_Block_6 : List Nat := [0, 1]
def s_chacha_Block_7 : SP := (.one (.pure (some 20) false (.move (.tmp 10))) (.one (.pure (some 21) false (.move (.tmp 10))) (.one (.pure (some 22) false (.binOp .quo 3 (.tmp 21) (.const (.int .i64 4)) 3)) (.one (.pure (some 23) false (.indexAddr 30 (.tmp 7) (.tmp 22))) (.one (.pure (some 25) false (.move (.tmp 10))) (.one (.pure (some 26) false (.binOp .quo 3 (.tmp 25) (.const (.int .i64 4)) 3)) (.one (.pure (some 27) false (.indexAddr 30 (.tmp 8) (.tmp 26))) (.one (.pure (some 30) false (.move (.tmp 10))) (.one (.pure (some 31) false (.binOp .rem 3 (.tmp 30) (.const (.int .i64 4)) 3)) (.one (.pure (some 32) false (.binOp .mul 3 (.const (.int .i64 8)) (.tmp 31) 3)) (.one (.read (some 24) false (.load 22 (.tmp 23))) (.one (.read (some 28) false (.load 22 (.tmp 27))) (.one (.pure (some 29) false (.binOp .add 22 (.tmp 24) (.tmp 28) 22)) (.one (.pure (some 33) false (.binOp .shr 22 (.tmp 29) (.tmp 32) 3)) (.one (.pure (some 34) false (.convert 22 5 (.tmp 33))) (.one (.pure (some 35) false (.indexAddr 38 (.tmp 9) (.tmp 20))) (.one (.eff none (.store 5 (.tmp 35) (.tmp 34))) .done)))))))))))))))))
abbrev p_chacha_Block_7 : PC := (.calm 0 98304 (.calm 1 123420 (.calm 2 123416 (.calm 3 123408 (.calm 5 123840 (.calm 6 123776 (.calm 7 123648 (.calm 10 129024 (.calm 11 126976 (.calm 12 122880 (.calm 4 123392 (.calm 8 123392 (.calm 9 122880 (.calm 13 114688 (.calm 14 98304 (.calm 15 65536 (.act 16 .done)))))))))))))))))
abbrev g_chacha_Block_7 : List Dg := [⟨0, 1024, 1048576, .pure, true⟩, ⟨0, 1024, 2097152, .pure, true⟩, ⟨2, 2097152, 4194304, .pure, true⟩, ⟨4, 4194432, 8388608, .pure, true⟩, ⟨8, 8388608, 16777216, .read, true⟩, ⟨0, 1024, 33554432, .pure, true⟩, ⟨32, 33554432, 67108864, .pure, true⟩, ⟨64, 67109120, 134217728, .pure, true⟩, ⟨128, 134217728, 268435456, .read, true⟩, ⟨272, 285212672, 536870912, .pure, true⟩, ⟨0, 1024, 1073741824, .pure, true⟩, ⟨1024, 1073741824, 2147483648, .pure, true⟩, ⟨2048, 2147483648, 4294967296, .pure, true⟩, ⟨4608, 4831838208, 8589934592, .pure, true⟩, ⟨8192, 8589934592, 17179869184, .pure, true⟩, ⟨32767, 1049088, 34359738368, .pure, true⟩, ⟨65535, 51539607552, 0, .eff, false⟩]
abbrev q_chacha_Block_7 : List Nat := []
def s_chacha_Block_8 : List AStep := [.pure (some 36) false (.binOp .add 3 (.tmp 17) (.const (.int .i64 1)) 3), .pure (some 17) false (.move (.tmp 36))]
abbrev p_chacha_Block_8 : List Nat := [0, 1]
def s_chacha_Block_9 : List AStep := [.read (some 37) false (.load 38 (.tmp 9)), .eff none (.store 38 (.tmp 6) (.tmp 37))]
abbrev p_chacha_Block_9 : List Nat := [0, 1]

/-! erewhile/erewhileref02.Block -/
abbrev n_ref02_Block : Nat := 20
theorem func_ref02_Block : Try.prog.funcs[n_ref02_Block]? = some Try.f20 := Try.func20
theorem call_ref02_Block : ∀ args w, (callFunc n_ref02_Block args).run Try.prog w = .ok (.enter n_ref02_Block args) w := Try.call20
theorem nt_ref02_Block : Try.f20.ntmps = 39 := Try.ntmps20
theorem rs_ref02_Block : Try.f20.results.toList = [.cell 6 38] := by rw [Try.results20]
def s_ref02_Block_0 : List AStep := [.eff (some 3) (.box 35 (.tmp 0)), .eff (some 6) (.alloc 38)]
abbrev p_ref02_Block_0 : List Nat := [0, 1]
def s_ref02_Block_1 : List AStep := [.read (some 11) false (.load 35 (.tmp 3)), .pure (some 12) false (.move (.tmp 1)), .pure (some 13) false (.move (.tmp 2)), .call (some 14) false ⟨.value (.func 21), #[.tmp 11, .tmp 12, .tmp 13], #[35, 22, 37]⟩, .eff (some 7) (.alloc 30), .eff none (.store 30 (.tmp 7) (.tmp 14))]
abbrev p_ref02_Block_1 : List Nat := [0, 1, 2, 3, 4, 5]
def s_ref02_Block_2 : List AStep := [.read (some 15) false (.load 30 (.tmp 7)), .call (some 16) false ⟨.value (.func 17), #[.tmp 15], #[30]⟩, .eff (some 8) (.alloc 30), .eff none (.store 30 (.tmp 8) (.tmp 16))]
abbrev p_ref02_Block_2 : List Nat := [0, 1, 2, 3]
def s_ref02_Block_3 : List AStep := [.eff (some 9) (.alloc 38)]
abbrev p_ref02_Block_3 : List Nat := [0]
def s_ref02_Block_4 : List AStep := [.pure (some 10) false (.assign (.const (.int .i64 0)))]
abbrev p_ref02_Block_4 : List Nat := [0]
def s_ref02_Block_5 : List AStep := [.pure (some 17) false (.move (.tmp 10)), .pure (some 18) false (.binOp .lss 3 (.tmp 17) (.const (.int .i64 64)) 3)]
abbrev p_ref02_Block_5 : List Nat := [0, 1]
def s_ref02_Block_7 : SP := (.one (.pure (some 21) false (.move (.tmp 10))) (.one (.pure (some 22) false (.move (.tmp 10))) (.one (.pure (some 23) false (.binOp .quo 3 (.tmp 22) (.const (.int .i64 4)) 3)) (.one (.pure (some 24) false (.indexAddr 30 (.tmp 7) (.tmp 23))) (.one (.pure (some 26) false (.move (.tmp 10))) (.one (.pure (some 27) false (.binOp .quo 3 (.tmp 26) (.const (.int .i64 4)) 3)) (.one (.pure (some 28) false (.indexAddr 30 (.tmp 8) (.tmp 27))) (.one (.pure (some 31) false (.move (.tmp 10))) (.one (.pure (some 32) false (.binOp .rem 3 (.tmp 31) (.const (.int .i64 4)) 3)) (.one (.pure (some 33) false (.binOp .mul 3 (.const (.int .i64 8)) (.tmp 32) 3)) (.one (.pure (some 34) false (.convert 3 29 (.tmp 33))) (.one (.read (some 25) false (.load 22 (.tmp 24))) (.one (.read (some 29) false (.load 22 (.tmp 28))) (.one (.pure (some 30) false (.binOp .add 22 (.tmp 25) (.tmp 29) 22)) (.one (.pure (some 35) false (.binOp .shr 22 (.tmp 30) (.tmp 34) 29)) (.one (.pure (some 36) false (.convert 22 5 (.tmp 35))) (.one (.pure (some 37) false (.indexAddr 38 (.tmp 9) (.tmp 21))) (.one (.eff none (.store 5 (.tmp 37) (.tmp 36))) .done))))))))))))))))))
abbrev p_ref02_Block_7 : PC := (.calm 0 196608 (.calm 1 246300 (.calm 2 246296 (.calm 3 246288 (.calm 5 246720 (.calm 6 246656 (.calm 7 246528 (.calm 10 260096 (.calm 11 258048 (.calm 12 253952 (.calm 13 245760 (.calm 4 246272 (.calm 8 246272 (.calm 9 245760 (.calm 14 229376 (.calm 15 196608 (.calm 16 131072 (.act 17 .done))))))))))))))))))
abbrev g_ref02_Block_7 : List Dg := [⟨0, 1024, 2097152, .pure, true⟩, ⟨0, 1024, 4194304, .pure, true⟩, ⟨2, 4194304, 8388608, .pure, true⟩, ⟨4, 8388736, 16777216, .pure, true⟩, ⟨8, 16777216, 33554432, .read, true⟩, ⟨0, 1024, 67108864, .pure, true⟩, ⟨32, 67108864, 134217728, .pure, true⟩, ⟨64, 134217984, 268435456, .pure, true⟩, ⟨128, 268435456, 536870912, .read, true⟩, ⟨272, 570425344, 1073741824, .pure, true⟩, ⟨0, 1024, 2147483648, .pure, true⟩, ⟨1024, 2147483648, 4294967296, .pure, true⟩, ⟨2048, 4294967296, 8589934592, .pure, true⟩, ⟨4096, 8589934592, 17179869184, .pure, true⟩, ⟨8704, 18253611008, 34359738368, .pure, true⟩, ⟨16384, 34359738368, 68719476736, .pure, true⟩, ⟨65535, 2097664, 137438953472, .pure, true⟩, ⟨131071, 206158430208, 0, .eff, false⟩]
abbrev q_ref02_Block_7 : List Nat := []
def s_ref02_Block_6 : List AStep := [.pure (some 19) false (.move (.tmp 10)), .pure (some 20) false (.binOp .add 3 (.tmp 19) (.const (.int .i64 1)) 3), .pure (some 10) false (.assign (.tmp 20))]
abbrev p_ref02_Block_6 : List Nat := [0, 1, 2]
def s_ref02_Block_8 : List AStep := [.read (some 38) false (.load 38 (.tmp 9)), .eff none (.store 38 (.tmp 6) (.tmp 38))]
abbrev p_ref02_Block_8 : List Nat := [0, 1]

/-! erewhile/erewhileref02.State -/
abbrev n_ref02_State : Nat := 21
theorem func_ref02_State : Try.prog.funcs[n_ref02_State]? = some Try.f21 := Try.func21
theorem call_ref02_State : ∀ args w, (callFunc n_ref02_State args).run Try.prog w = .ok (.enter n_ref02_State args) w := Try.call21
theorem nt_ref02_State : Try.f21.ntmps = 43 := Try.ntmps21
theorem rs_ref02_State : Try.f21.results.toList = [.cell 6 30] := by rw [Try.results21]
def s_ref02_State_0 : List AStep := [.eff (some 3) (.box 35 (.tmp 0)), .eff (some 6) (.alloc 30)]
abbrev p_ref02_State_0 : List Nat := [0, 1]
def s_ref02_State_1 : List AStep := [.pure (some 9) false (.build 30 #[(0, .const (.int .u32 1634760805)), (1, .const (.int .u32 857760878)), (2, .const (.int .u32 2036477234)), (3, .const (.int .u32 1797285236))]), .eff (some 7) (.alloc 30), .eff none (.store 30 (.tmp 7) (.tmp 9))]
abbrev p_ref02_State_1 : List Nat := [0, 1, 2]
def s_ref02_State_2 : List AStep := [.pure (some 8) false (.assign (.const (.int .i64 0)))]
abbrev p_ref02_State_2 : List Nat := [0]
def s_ref02_State_3 : List AStep := [.pure (some 10) false (.move (.tmp 8)), .pure (some 11) false (.binOp .lss 3 (.tmp 10) (.const (.int .i64 32)) 3)]
abbrev p_ref02_State_3 : List Nat := [0, 1]
def s_ref02_State_5 : SP := (.one (.pure (some 14) false (.move (.tmp 8))) (.one (.pure (some 15) false (.binOp .quo 3 (.tmp 14) (.const (.int .i64 4)) 3)) (.one (.pure (some 16) false (.binOp .add 3 (.const (.int .i64 4)) (.tmp 15) 3)) (.one (.pure (some 17) false (.move (.tmp 8))) (.one (.pure (some 18) false (.binOp .quo 3 (.tmp 17) (.const (.int .i64 4)) 3)) (.one (.pure (some 19) false (.binOp .add 3 (.const (.int .i64 4)) (.tmp 18) 3)) (.one (.pure (some 20) false (.indexAddr 30 (.tmp 7) (.tmp 19))) (.one (.pure (some 22) false (.move (.tmp 8))) (.one (.pure (some 23) false (.indexAddr 35 (.tmp 3) (.tmp 22))) (.one (.pure (some 26) false (.move (.tmp 8))) (.one (.pure (some 27) false (.binOp .rem 3 (.tmp 26) (.const (.int .i64 4)) 3)) (.one (.pure (some 28) false (.binOp .mul 3 (.const (.int .i64 8)) (.tmp 27) 3)) (.one (.pure (some 29) false (.convert 3 29 (.tmp 28))) (.one (.read (some 21) false (.load 22 (.tmp 20))) (.one (.read (some 24) false (.load 5 (.tmp 23))) (.one (.pure (some 25) false (.convert 5 22 (.tmp 24))) (.one (.pure (some 30) false (.binOp .shl 22 (.tmp 25) (.tmp 29) 29)) (.one (.pure (some 31) false (.binOp .or 22 (.tmp 21) (.tmp 30) 22)) (.one (.pure (some 32) false (.indexAddr 30 (.tmp 7) (.tmp 16))) (.one (.eff none (.store 22 (.tmp 32) (.tmp 31))) .done))))))))))))))))))))
abbrev p_ref02_State_5 : PC := (.calm 0 786438 (.calm 1 786436 (.calm 2 786432 (.calm 3 917744 (.calm 4 917728 (.calm 5 917696 (.calm 6 917632 (.calm 8 986624 (.calm 9 986112 (.calm 12 1040384 (.calm 13 1032192 (.calm 14 1015808 (.calm 15 983040 (.calm 7 917504 (.calm 10 985088 (.calm 11 983040 (.calm 16 917504 (.calm 17 786432 (.calm 18 524288 (.act 19 .done))))))))))))))))))))
abbrev g_ref02_State_5 : List Dg := [⟨0, 256, 16384, .pure, true⟩, ⟨1, 16384, 32768, .pure, true⟩, ⟨2, 32768, 65536, .pure, true⟩, ⟨0, 256, 131072, .pure, true⟩, ⟨8, 131072, 262144, .pure, true⟩, ⟨16, 262144, 524288, .pure, true⟩, ⟨32, 524416, 1048576, .pure, true⟩, ⟨64, 1048576, 2097152, .read, true⟩, ⟨0, 256, 4194304, .pure, true⟩, ⟨256, 4194312, 8388608, .pure, true⟩, ⟨512, 8388608, 16777216, .read, true⟩, ⟨1024, 16777216, 33554432, .pure, true⟩, ⟨0, 256, 67108864, .pure, true⟩, ⟨4096, 67108864, 134217728, .pure, true⟩, ⟨8192, 134217728, 268435456, .pure, true⟩, ⟨16384, 268435456, 536870912, .pure, true⟩, ⟨34816, 570425344, 1073741824, .pure, true⟩, ⟨65664, 1075838976, 2147483648, .pure, true⟩, ⟨262143, 65664, 4294967296, .pure, true⟩, ⟨524287, 6442450944, 0, .eff, false⟩]
abbrev q_ref02_State_5 : List Nat := []
def s_ref02_State_4 : List AStep := [.pure (some 12) false (.move (.tmp 8)), .pure (some 13) false (.binOp .add 3 (.tmp 12) (.const (.int .i64 1)) 3), .pure (some 8) false (.assign (.tmp 13))]
abbrev p_ref02_State_4 : List Nat := [0, 1, 2]
def s_ref02_State_6 : List AStep := [.pure (some 33) false (.move (.tmp 1)), .pure (some 34) false (.indexAddr 30 (.tmp 7) (.const (.int .i64 12))), .eff none (.store 22 (.tmp 34) (.tmp 33))]
abbrev p_ref02_State_6 : List Nat := [0, 1, 2]
def s_ref02_State_7 : List AStep := [.pure (some 35) false (.move (.tmp 2)), .pure (some 36) false (.convert 37 22 (.tmp 35)), .pure (some 37) false (.indexAddr 30 (.tmp 7) (.const (.int .i64 14))), .eff none (.store 22 (.tmp 37) (.tmp 36))]
abbrev p_ref02_State_7 : List Nat := [0, 1, 2, 3]
def s_ref02_State_8 : List AStep := [.pure (some 38) false (.move (.tmp 2)), .pure (some 39) false (.binOp .shr 37 (.tmp 38) (.const (.int .u64 32)) 29), .pure (some 40) false (.convert 37 22 (.tmp 39)), .pure (some 41) false (.indexAddr 30 (.tmp 7) (.const (.int .i64 15))), .eff none (.store 22 (.tmp 41) (.tmp 40))]
abbrev p_ref02_State_8 : List Nat := [0, 1, 2, 3, 4]
def s_ref02_State_9 : List AStep := [.read (some 42) false (.load 30 (.tmp 7)), .eff none (.store 30 (.tmp 6) (.tmp 42))]
abbrev p_ref02_State_9 : List Nat := [0, 1]

/-! erewhile/erewhilelaw02.number -/
abbrev n_law02_number : Nat := 22
theorem func_law02_number : Try.prog.funcs[n_law02_number]? = some Try.f22 := Try.func22
theorem call_law02_number : ∀ args w, (callFunc n_law02_number args).run Try.prog w = .ok (.enter n_law02_number args) w := Try.call22
theorem nt_law02_number : Try.f22.ntmps = 25 := Try.ntmps22
theorem rs_law02_number : Try.f22.results.toList = [.tmp 2] := by rw [Try.results22]
def s_law02_number_0 : List AStep := [.pure (some 2) false (.assign (.const (.int .u32 0)))]
abbrev p_law02_number_0 : List Nat := [0]
def s_law02_number_1 : SP := (.one (.pure (some 3) false (.move (.tmp 0))) (.one (.pure (some 4) false (.indexAddr 44 (.tmp 3) (.const (.int .i64 0)))) (.one (.pure (some 7) false (.move (.tmp 0))) (.one (.pure (some 8) false (.indexAddr 44 (.tmp 7) (.const (.int .i64 1)))) (.one (.pure (some 13) false (.move (.tmp 0))) (.one (.pure (some 14) false (.indexAddr 44 (.tmp 13) (.const (.int .i64 2)))) (.one (.pure (some 19) false (.move (.tmp 0))) (.one (.pure (some 20) false (.indexAddr 44 (.tmp 19) (.const (.int .i64 3)))) (.one (.read (some 5) false (.load 5 (.tmp 4))) (.one (.pure (some 6) false (.convert 5 22 (.tmp 5))) (.one (.read (some 9) false (.load 5 (.tmp 8))) (.one (.pure (some 10) false (.convert 5 22 (.tmp 9))) (.one (.pure (some 11) false (.binOp .shl 22 (.tmp 10) (.const (.int .u64 8)) 29)) (.one (.pure (some 12) false (.binOp .or 22 (.tmp 6) (.tmp 11) 22)) (.one (.read (some 15) false (.load 5 (.tmp 14))) (.one (.pure (some 16) false (.convert 5 22 (.tmp 15))) (.one (.pure (some 17) false (.binOp .shl 22 (.tmp 16) (.const (.int .u64 16)) 29)) (.one (.pure (some 18) false (.binOp .or 22 (.tmp 12) (.tmp 17) 22)) (.one (.read (some 21) false (.load 5 (.tmp 20))) (.one (.pure (some 22) false (.convert 5 22 (.tmp 21))) (.one (.pure (some 23) false (.binOp .shl 22 (.tmp 22) (.const (.int .u64 24)) 29)) (.one (.pure (some 24) false (.binOp .or 22 (.tmp 18) (.tmp 23) 22)) (.one (.pure (some 2) false (.assign (.tmp 24))) .done)))))))))))))))))))))))
abbrev p_law02_number_1 : PC := (.calm 0 6324750 (.calm 1 6324748 (.calm 4 6325216 (.calm 5 6325184 (.calm 10 6354944 (.calm 11 6352896 (.calm 16 8257536 (.calm 17 8126464 (.calm 2 6324744 (.calm 3 6324736 (.calm 6 6325120 (.calm 7 6324992 (.calm 8 6324736 (.calm 9 6324224 (.calm 12 6348800 (.calm 13 6340608 (.calm 14 6324224 (.calm 15 6291456 (.calm 18 7864320 (.calm 19 7340032 (.calm 20 6291456 (.calm 21 4194304 (.calm 22 0 .done)))))))))))))))))))))))
abbrev g_law02_number_1 : List Dg := [⟨0, 1, 8, .pure, true⟩, ⟨1, 8, 16, .pure, true⟩, ⟨2, 16, 32, .read, true⟩, ⟨4, 32, 64, .pure, true⟩, ⟨0, 1, 128, .pure, true⟩, ⟨16, 128, 256, .pure, true⟩, ⟨32, 256, 512, .read, true⟩, ⟨64, 512, 1024, .pure, true⟩, ⟨128, 1024, 2048, .pure, true⟩, ⟨264, 2112, 4096, .pure, true⟩, ⟨0, 1, 8192, .pure, true⟩, ⟨1024, 8192, 16384, .pure, true⟩, ⟨2048, 16384, 32768, .read, true⟩, ⟨4096, 32768, 65536, .pure, true⟩, ⟨8192, 65536, 131072, .pure, true⟩, ⟨16896, 135168, 262144, .pure, true⟩, ⟨0, 1, 524288, .pure, true⟩, ⟨65536, 524288, 1048576, .pure, true⟩, ⟨131072, 1048576, 2097152, .read, true⟩, ⟨262144, 2097152, 4194304, .pure, true⟩, ⟨524288, 4194304, 8388608, .pure, true⟩, ⟨1081344, 8650752, 16777216, .pure, true⟩, ⟨4194303, 16777216, 4, .pure, true⟩]
abbrev q_law02_number_1 : List Nat := []

/-! erewhile/erewhileref02.Same -/
abbrev n_ref02_Same : Nat := 23
theorem func_ref02_Same : Try.prog.funcs[n_ref02_Same]? = some Try.f23 := Try.func23
theorem call_ref02_Same : ∀ args w, (callFunc n_ref02_Same args).run Try.prog w = .ok (.enter n_ref02_Same args) w := Try.call23
theorem nt_ref02_Same : Try.f23.ntmps = 26 := Try.ntmps23
theorem rs_ref02_Same : Try.f23.results.toList = [.tmp 4] := by rw [Try.results23]
def s_ref02_Same_0 : List AStep := [.pure (some 4) false (.assign (.const (.bool false)))]
abbrev p_ref02_Same_0 : List Nat := [0]
def s_ref02_Same_1 : List AStep := [.pure (some 6) false (.move (.tmp 0)), .pure (some 7) false (.call (.mk (.builtin .len) #[.tmp 6] #[44])), .pure (some 8) false (.move (.tmp 1)), .pure (some 9) false (.call (.mk (.builtin .len) #[.tmp 8] #[44])), .pure (some 10) false (.binOp .neq 3 (.tmp 7) (.tmp 9) 3)]
abbrev p_ref02_Same_1 : List Nat := [0, 1, 2, 3, 4]
def s_ref02_Same_2 : List AStep := [.pure (some 4) false (.assign (.const (.bool false)))]
abbrev p_ref02_Same_2 : List Nat := [0]
def s_ref02_Same_3 : List AStep := [.pure (some 5) false (.assign (.const (.int .i64 0)))]
abbrev p_ref02_Same_3 : List Nat := [0]
def s_ref02_Same_4 : List AStep := [.pure (some 11) false (.move (.tmp 5)), .pure (some 12) false (.move (.tmp 0)), .pure (some 13) false (.call (.mk (.builtin .len) #[.tmp 12] #[44])), .pure (some 14) false (.binOp .lss 3 (.tmp 11) (.tmp 13) 3)]
abbrev p_ref02_Same_4 : List Nat := [0, 1, 2, 3]
def s_ref02_Same_6 : SP := (.one (.pure (some 17) false (.move (.tmp 0))) (.one (.pure (some 18) false (.move (.tmp 5))) (.one (.pure (some 19) false (.indexAddr 44 (.tmp 17) (.tmp 18))) (.one (.pure (some 21) false (.move (.tmp 1))) (.one (.pure (some 22) false (.move (.tmp 5))) (.one (.pure (some 23) false (.indexAddr 44 (.tmp 21) (.tmp 22))) (.one (.read (some 20) false (.load 5 (.tmp 19))) (.one (.read (some 24) false (.load 5 (.tmp 23))) (.one (.pure (some 25) false (.binOp .neq 5 (.tmp 20) (.tmp 24) 5)) .done)))))))))
abbrev p_ref02_Same_6 : PC := (.calm 0 268 (.calm 1 268 (.calm 2 264 (.calm 4 448 (.calm 5 448 (.calm 6 384 (.calm 3 256 (.calm 7 256 (.calm 8 0 .done)))))))))
abbrev g_ref02_Same_6 : List Dg := [⟨0, 1, 131072, .pure, true⟩, ⟨0, 32, 262144, .pure, true⟩, ⟨3, 393216, 524288, .pure, true⟩, ⟨4, 524288, 1048576, .read, true⟩, ⟨0, 2, 2097152, .pure, true⟩, ⟨0, 32, 4194304, .pure, true⟩, ⟨48, 6291456, 8388608, .pure, true⟩, ⟨64, 8388608, 16777216, .read, true⟩, ⟨136, 17825792, 33554432, .pure, true⟩]
abbrev q_ref02_Same_6 : List Nat := []
def s_ref02_Same_7 : List AStep := [.pure (some 4) false (.assign (.const (.bool false)))]
abbrev p_ref02_Same_7 : List Nat := [0]
def s_ref02_Same_5 : List AStep := [.pure (some 15) false (.move (.tmp 5)), .pure (some 16) false (.binOp .add 3 (.tmp 15) (.const (.int .i64 1)) 3), .pure (some 5) false (.assign (.tmp 16))]
abbrev p_ref02_Same_5 : List Nat := [0, 1, 2]
def s_ref02_Same_8 : List AStep := [.pure (some 4) false (.assign (.const (.bool true)))]
abbrev p_ref02_Same_8 : List Nat := [0]

/-! erewhile/chacha.Stream -/
abbrev n_chacha_Stream : Nat := 24
theorem func_chacha_Stream : Try.prog.funcs[n_chacha_Stream]? = some Try.f24 := Try.func24
theorem call_chacha_Stream : ∀ args w, (callFunc n_chacha_Stream args).run Try.prog w = .ok (.enter n_chacha_Stream args) w := Try.call24
theorem nt_chacha_Stream : Try.f24.ntmps = 36 := Try.ntmps24
theorem rs_chacha_Stream : Try.f24.results.toList = [.tmp 6] := by rw [Try.results24]
def s_chacha_Stream_0 : List AStep := [.eff (some 3) (.box 36 (.tmp 0)), .pure (some 6) false (.assign (.const (.slice none 0 0)))]
abbrev p_chacha_Stream_0 : List Nat := [0, 1]
def s_chacha_Stream_1 : List AStep := [.pure (some 10) false (.move (.tmp 2)), .pure (some 11) false (.binOp .lss 3 (.tmp 10) (.const (.int .i64 1)) 3), .pure (some 12) true (.move (.tmp 11)), .guard 12 false (.pure (some 13) false (.move (.tmp 2))), .guard 12 false (.pure (some 14) false (.binOp .gtr 3 (.tmp 13) (.const (.int .i64 65536)) 3)), .pure (some 15) false (.pick (.tmp 12) (.const (.bool true)) (.tmp 14))]
abbrev p_chacha_Stream_1 : List Nat := [0, 1, 2, 3, 4, 5]
def s_chacha_Stream_2 : List AStep := [.pure (some 6) false (.assign (.const (.slice none 0 0)))]
abbrev p_chacha_Stream_2 : List Nat := [0]
def s_chacha_Stream_3 : List AStep := [.pure (some 16) false (.move (.tmp 2)), .pure (some 17) false (.binOp .add 3 (.tmp 16) (.const (.int .i64 64)) 3), .eff (some 18) (.makeSlice 44 (.const (.int .i64 0)) (.tmp 17)), .pure (some 7) false (.assign (.tmp 18))]
abbrev p_chacha_Stream_3 : List Nat := [0, 1, 2, 3]
def s_chacha_Stream_4 : List AStep := [.pure (some 8) false (.assign (.const (.int .u32 0)))]
abbrev p_chacha_Stream_4 : List Nat := [0]
def s_chacha_Stream_5 : List AStep := [.pure (some 19) false (.move (.tmp 7)), .pure (some 20) false (.call (.mk (.builtin .len) #[.tmp 19] #[44])), .pure (some 21) false (.move (.tmp 2)), .pure (some 22) false (.binOp .lss 3 (.tmp 20) (.tmp 21) 3)]
abbrev p_chacha_Stream_5 : List Nat := [0, 1, 2, 3]
def s_chacha_Stream_7 : List AStep := [.read (some 25) false (.load 36 (.tmp 3)), .pure (some 26) false (.move (.tmp 8)), .pure (some 27) false (.move (.tmp 1)), .call (some 28) false ⟨.value (.func 19), #[.tmp 25, .tmp 26, .tmp 27], #[36, 22, 37]⟩, .eff (some 9) (.alloc 38), .eff none (.store 38 (.tmp 9) (.tmp 28))]
abbrev p_chacha_Stream_7 : List Nat := [0, 1, 2, 3, 4, 5]
def s_chacha_Stream_8 : List AStep := [.pure (some 29) false (.move (.tmp 7)), .pure (some 30) false (.slice 38 (.tmp 9) none none none), .eff (some 31) (.call (.mk (.builtin .append) #[.tmp 29, .tmp 30] #[44, 44])), .pure (some 7) false (.assign (.tmp 31))]
abbrev p_chacha_Stream_8 : List Nat := [0, 1, 2, 3]
def s_chacha_Stream_6 : List AStep := [.pure (some 23) false (.move (.tmp 8)), .pure (some 24) false (.binOp .add 22 (.tmp 23) (.const (.int .u32 1)) 22), .pure (some 8) false (.assign (.tmp 24))]
abbrev p_chacha_Stream_6 : List Nat := [0, 1, 2]
def s_chacha_Stream_9 : List AStep := [.pure (some 32) false (.move (.tmp 7)), .pure (some 33) false (.move (.tmp 2)), .pure (some 34) false (.move (.tmp 2)), .pure (some 35) false (.slice 44 (.tmp 32) none (some (.tmp 33)) (some (.tmp 34))), .pure (some 6) false (.assign (.tmp 35))]
abbrev p_chacha_Stream_9 : List Nat := [0, 1, 2, 3, 4]

/-! erewhile/erewhileref02.Stream -/
abbrev n_ref02_Stream : Nat := 25
theorem func_ref02_Stream : Try.prog.funcs[n_ref02_Stream]? = some Try.f25 := Try.func25
theorem call_ref02_Stream : ∀ args w, (callFunc n_ref02_Stream args).run Try.prog w = .ok (.enter n_ref02_Stream args) w := Try.call25
theorem nt_ref02_Stream : Try.f25.ntmps = 46 := Try.ntmps25
theorem rs_ref02_Stream : Try.f25.results.toList = [.tmp 6] := by rw [Try.results25]
def s_ref02_Stream_0 : List AStep := [.eff (some 3) (.box 35 (.tmp 0)), .pure (some 6) false (.assign (.const (.slice none 0 0)))]
abbrev p_ref02_Stream_0 : List Nat := [0, 1]
def s_ref02_Stream_1 : List AStep := [.pure (some 7) false (.assign (.const (.slice none 0 0)))]
abbrev p_ref02_Stream_1 : List Nat := [0]
def s_ref02_Stream_2 : List AStep := [.pure (some 11) false (.move (.tmp 2)), .pure (some 12) false (.binOp .lss 3 (.tmp 11) (.const (.int .i64 1)) 3), .pure (some 13) true (.move (.tmp 12)), .guard 13 false (.pure (some 14) false (.move (.tmp 2))), .guard 13 false (.pure (some 15) false (.binOp .gtr 3 (.tmp 14) (.const (.int .i64 65536)) 3)), .pure (some 16) false (.pick (.tmp 13) (.const (.bool true)) (.tmp 15))]
abbrev p_ref02_Stream_2 : List Nat := [0, 1, 2, 3, 4, 5]
def s_ref02_Stream_3 : List AStep := [.pure (some 17) false (.move (.tmp 7)), .pure (some 6) false (.assign (.tmp 17))]
abbrev p_ref02_Stream_3 : List Nat := [0, 1]
def s_ref02_Stream_4 : List AStep := [.pure (some 8) false (.assign (.const (.int .i64 0)))]
abbrev p_ref02_Stream_4 : List Nat := [0]
def s_ref02_Stream_5 : List AStep := [.pure (some 18) false (.move (.tmp 7)), .pure (some 19) false (.call (.mk (.builtin .len) #[.tmp 18] #[44])), .pure (some 20) false (.move (.tmp 2)), .pure (some 21) false (.binOp .lss 3 (.tmp 19) (.tmp 20) 3)]
abbrev p_ref02_Stream_5 : List Nat := [0, 1, 2, 3]
def s_ref02_Stream_7 : List AStep := [.read (some 24) false (.load 35 (.tmp 3)), .pure (some 25) false (.move (.tmp 8)), .pure (some 26) false (.convert 3 22 (.tmp 25)), .pure (some 27) false (.move (.tmp 1)), .call (some 28) false ⟨.value (.func 20), #[.tmp 24, .tmp 26, .tmp 27], #[35, 22, 37]⟩, .eff (some 9) (.alloc 38), .eff none (.store 38 (.tmp 9) (.tmp 28))]
abbrev p_ref02_Stream_7 : List Nat := [0, 1, 2, 3, 4, 5, 6]
def s_ref02_Stream_8 : List AStep := [.pure (some 10) false (.assign (.const (.int .i64 0)))]
abbrev p_ref02_Stream_8 : List Nat := [0]
def s_ref02_Stream_9 : List AStep := [.pure (some 29) false (.move (.tmp 10)), .pure (some 30) false (.binOp .lss 3 (.tmp 29) (.const (.int .i64 64)) 3), .pure (some 31) true (.move (.tmp 30)), .guard 31 true (.pure (some 32) false (.move (.tmp 7))), .guard 31 true (.pure (some 33) false (.call (.mk (.builtin .len) #[.tmp 32] #[44]))), .guard 31 true (.pure (some 34) false (.move (.tmp 2))), .guard 31 true (.pure (some 35) false (.binOp .lss 3 (.tmp 33) (.tmp 34) 3)), .pure (some 36) false (.pick (.tmp 31) (.tmp 35) (.const (.bool false)))]
abbrev p_ref02_Stream_9 : List Nat := [0, 1, 2, 3, 4, 5, 6, 7]
def s_ref02_Stream_11 : List AStep := [.pure (some 39) false (.move (.tmp 7)), .pure (some 40) false (.move (.tmp 10)), .pure (some 41) false (.indexAddr 38 (.tmp 9) (.tmp 40)), .read (some 42) false (.load 5 (.tmp 41)), .eff (some 43) (.buildSlice 44 1 #[(0, .tmp 42)]), .eff (some 44) (.call (.mk (.builtin .append) #[.tmp 39, .tmp 43] #[44, 44])), .pure (some 7) false (.assign (.tmp 44))]
abbrev p_ref02_Stream_11 : List Nat := [0, 1, 2, 3, 4, 5, 6]
def s_ref02_Stream_10 : List AStep := [.pure (some 37) false (.move (.tmp 10)), .pure (some 38) false (.binOp .add 3 (.tmp 37) (.const (.int .i64 1)) 3), .pure (some 10) false (.assign (.tmp 38))]
abbrev p_ref02_Stream_10 : List Nat := [0, 1, 2]
def s_ref02_Stream_6 : List AStep := [.pure (some 22) false (.move (.tmp 8)), .pure (some 23) false (.binOp .add 3 (.tmp 22) (.const (.int .i64 1)) 3), .pure (some 8) false (.assign (.tmp 23))]
abbrev p_ref02_Stream_6 : List Nat := [0, 1, 2]
def s_ref02_Stream_12 : List AStep := [.pure (some 45) false (.move (.tmp 7)), .pure (some 6) false (.assign (.tmp 45))]
abbrev p_ref02_Stream_12 : List Nat := [0, 1]

/-! math/bits.RotateLeft32 -/
abbrev n_bits_RotateLeft32 : Nat := 26
theorem func_bits_RotateLeft32 : Try.prog.funcs[n_bits_RotateLeft32]? = some Try.f26 := Try.func26
theorem call_bits_RotateLeft32 : ∀ args w, (callFunc n_bits_RotateLeft32 args).run Try.prog w = .ok (.enter n_bits_RotateLeft32 args) w := Try.call26
theorem nt_bits_RotateLeft32 : Try.f26.ntmps = 17 := Try.ntmps26
theorem rs_bits_RotateLeft32 : Try.f26.results.toList = [.tmp 4] := by rw [Try.results26]
def s_bits_RotateLeft32_0 : List AStep := [.pure (some 4) false (.assign (.const (.int .u32 0)))]
abbrev p_bits_RotateLeft32_0 : List Nat := [0]
def s_bits_RotateLeft32_1 : List AStep := [.pure (some 6) false (.move (.tmp 1)), .pure (some 7) false (.convert 3 29 (.tmp 6)), .pure (some 8) false (.binOp .and 29 (.tmp 7) (.const (.int .u64 31)) 29), .pure (some 5) false (.assign (.tmp 8))]
abbrev p_bits_RotateLeft32_1 : List Nat := [0, 1, 2, 3]
def s_bits_RotateLeft32_2 : List AStep := [.pure (some 9) false (.move (.tmp 0)), .pure (some 10) false (.move (.tmp 5)), .pure (some 11) false (.binOp .shl 22 (.tmp 9) (.tmp 10) 29), .pure (some 12) false (.move (.tmp 0)), .pure (some 13) false (.move (.tmp 5)), .pure (some 14) false (.binOp .sub 29 (.const (.int .u64 32)) (.tmp 13) 29), .pure (some 15) false (.binOp .shr 22 (.tmp 12) (.tmp 14) 29), .pure (some 16) false (.binOp .or 22 (.tmp 11) (.tmp 15) 22), .pure (some 4) false (.assign (.tmp 16))]
abbrev p_bits_RotateLeft32_2 : List Nat := [0, 1, 2, 3, 4, 5, 6, 7, 8]

/-! erewhile/erewhileref02.turned -/
abbrev n_ref02_turned : Nat := 27
theorem func_ref02_turned : Try.prog.funcs[n_ref02_turned]? = some Try.f27 := Try.func27
theorem call_ref02_turned : ∀ args w, (callFunc n_ref02_turned args).run Try.prog w = .ok (.enter n_ref02_turned args) w := Try.call27
theorem nt_ref02_turned : Try.f27.ntmps = 15 := Try.ntmps27
theorem rs_ref02_turned : Try.f27.results.toList = [.tmp 4] := by rw [Try.results27]
def s_ref02_turned_0 : List AStep := [.pure (some 4) false (.assign (.const (.int .u32 0)))]
abbrev p_ref02_turned_0 : List Nat := [0]
def s_ref02_turned_1 : List AStep := [.pure (some 5) false (.move (.tmp 0)), .pure (some 6) false (.move (.tmp 1)), .pure (some 7) false (.convert 3 29 (.tmp 6)), .pure (some 8) false (.binOp .shl 22 (.tmp 5) (.tmp 7) 29), .pure (some 9) false (.move (.tmp 0)), .pure (some 10) false (.move (.tmp 1)), .pure (some 11) false (.binOp .sub 3 (.const (.int .i64 32)) (.tmp 10) 3), .pure (some 12) false (.convert 3 29 (.tmp 11)), .pure (some 13) false (.binOp .shr 22 (.tmp 9) (.tmp 12) 29), .pure (some 14) false (.binOp .or 22 (.tmp 8) (.tmp 13) 22), .pure (some 4) false (.assign (.tmp 14))]
abbrev p_ref02_turned_1 : List Nat := [0, 1, 2, 3, 4, 5, 6, 7, 8, 9, 10]

/-! erewhile/chacha.quarter -/
abbrev n_chacha_quarter : Nat := 28
theorem func_chacha_quarter : Try.prog.funcs[n_chacha_quarter]? = some Try.f28 := Try.func28
theorem call_chacha_quarter : ∀ args w, (callFunc n_chacha_quarter args).run Try.prog w = .ok (.enter n_chacha_quarter args) w := Try.call28
theorem nt_chacha_quarter : Try.f28.ntmps = 38 := Try.ntmps28
theorem rs_chacha_quarter : Try.f28.results.toList = [.cell 10 30] := by rw [Try.results28]
def s_chacha_quarter_0 : List AStep := [.eff (some 5) (.box 30 (.tmp 0)), .eff (some 10) (.alloc 30)]
abbrev p_chacha_quarter_0 : List Nat := [0, 1]
def s_chacha_quarter_1 : SP := (.one (.pure (some 12) false (.move (.tmp 1))) (.one (.pure (some 13) false (.move (.tmp 2))) (.one (.pure (some 14) false (.move (.tmp 3))) (.one (.pure (some 15) false (.move (.tmp 4))) (.one (.pure (some 16) false (.move (.tmp 1))) (.one (.pure (some 17) false (.indexAddr 30 (.tmp 5) (.tmp 16))) (.one (.pure (some 19) false (.move (.tmp 2))) (.one (.pure (some 20) false (.indexAddr 30 (.tmp 5) (.tmp 19))) (.one (.pure (some 22) false (.move (.tmp 3))) (.one (.pure (some 23) false (.indexAddr 30 (.tmp 5) (.tmp 22))) (.one (.pure (some 25) false (.move (.tmp 4))) (.one (.pure (some 26) false (.indexAddr 30 (.tmp 5) (.tmp 25))) (.one (.read (some 18) false (.load 22 (.tmp 17))) (.one (.read (some 21) false (.load 22 (.tmp 20))) (.one (.read (some 24) false (.load 22 (.tmp 23))) (.one (.read (some 27) false (.load 22 (.tmp 26))) (.one (.call (some 28) false ⟨.value (.func 13), #[.tmp 18, .tmp 21, .tmp 24, .tmp 27], #[22, 22, 22, 22]⟩) (.one (.pure (some 11) false (.move (.tmp 28))) (.one (.pure (some 29) false (.extract (.tmp 11) 0)) (.one (.pure (some 30) false (.extract (.tmp 11) 1)) (.one (.pure (some 31) false (.extract (.tmp 11) 2)) (.one (.pure (some 32) false (.extract (.tmp 11) 3)) (.one (.pure (some 33) false (.indexAddr 30 (.tmp 5) (.tmp 12))) (.one (.eff none (.store 22 (.tmp 33) (.tmp 29))) (.one (.pure (some 34) false (.indexAddr 30 (.tmp 5) (.tmp 13))) (.one (.eff none (.store 22 (.tmp 34) (.tmp 30))) (.one (.pure (some 35) false (.indexAddr 30 (.tmp 5) (.tmp 14))) (.one (.eff none (.store 22 (.tmp 35) (.tmp 31))) (.one (.pure (some 36) false (.indexAddr 30 (.tmp 5) (.tmp 15))) (.one (.eff none (.store 22 (.tmp 36) (.tmp 32))) .done))))))))))))))))))))))))))))))
abbrev p_chacha_quarter_1 : PC := (.calm 0 1069547520 (.calm 1 1056964608 (.calm 2 1006632960 (.calm 3 805306368 (.calm 4 1073676384 (.calm 5 1073676352 (.calm 7 1073677056 (.calm 8 1073676800 (.calm 10 1073682432 (.calm 11 1073680384 (.calm 13 1073725440 (.calm 14 1073709056 (.calm 6 1073676288 (.calm 9 1073676288 (.calm 12 1073676288 (.calm 15 1073676288 (.act 16 (.calm 17 1073479680 (.calm 18 1069547520 (.calm 19 1056964608 (.calm 20 1006632960 (.calm 21 805306368 (.calm 22 1065353216 (.act 23 (.calm 24 1040187392 (.act 25 (.calm 26 939524096 (.act 27 (.calm 28 536870912 (.act 29 .done))))))))))))))))))))))))))))))
abbrev g_chacha_quarter_1 : List Dg := [⟨0, 2, 4096, .pure, true⟩, ⟨0, 4, 8192, .pure, true⟩, ⟨0, 8, 16384, .pure, true⟩, ⟨0, 16, 32768, .pure, true⟩, ⟨0, 2, 65536, .pure, true⟩, ⟨16, 65568, 131072, .pure, true⟩, ⟨32, 131072, 262144, .read, true⟩, ⟨0, 4, 524288, .pure, true⟩, ⟨128, 524320, 1048576, .pure, true⟩, ⟨256, 1048576, 2097152, .read, true⟩, ⟨0, 8, 4194304, .pure, true⟩, ⟨1024, 4194336, 8388608, .pure, true⟩, ⟨2048, 8388608, 16777216, .read, true⟩, ⟨0, 16, 33554432, .pure, true⟩, ⟨8192, 33554464, 67108864, .pure, true⟩, ⟨16384, 67108864, 134217728, .read, true⟩, ⟨37440, 153354240, 268435456, .call, true⟩, ⟨65536, 268435456, 2048, .pure, true⟩, ⟨131072, 2048, 536870912, .pure, true⟩, ⟨131072, 2048, 1073741824, .pure, true⟩, ⟨131072, 2048, 2147483648, .pure, true⟩, ⟨131072, 2048, 4294967296, .pure, true⟩, ⟨524273, 4128, 8589934592, .pure, true⟩, ⟨4718577, 9126805504, 0, .eff, false⟩, ⟨13631475, 8224, 17179869184, .pure, true⟩, ⟨30408691, 18253611008, 0, .eff, false⟩, ⟨65011703, 16416, 34359738368, .pure, true⟩, ⟨132120567, 36507222016, 0, .eff, false⟩, ⟨268435455, 32800, 68719476736, .pure, true⟩, ⟨536870911, 73014444032, 0, .eff, false⟩]
abbrev q_chacha_quarter_1 : List Nat := []
def s_chacha_quarter_2 : List AStep := [.read (some 37) false (.load 30 (.tmp 5)), .eff none (.store 30 (.tmp 10) (.tmp 37))]
abbrev p_chacha_quarter_2 : List Nat := [0, 1]

/-! erewhile/chacha.state -/
abbrev n_chacha_state : Nat := 29
theorem func_chacha_state : Try.prog.funcs[n_chacha_state]? = some Try.f29 := Try.func29
theorem call_chacha_state : ∀ args w, (callFunc n_chacha_state args).run Try.prog w = .ok (.enter n_chacha_state args) w := Try.call29
theorem nt_chacha_state : Try.f29.ntmps = 40 := Try.ntmps29
theorem rs_chacha_state : Try.f29.results.toList = [.cell 6 30] := by rw [Try.results29]
def s_chacha_state_0 : List AStep := [.eff (some 3) (.box 36 (.tmp 0)), .eff (some 6) (.alloc 30)]
abbrev p_chacha_state_0 : List Nat := [0, 1]
def s_chacha_state_1 : List AStep := [.pure (some 10) false (.build 30 #[(0, .const (.int .u32 1634760805)), (1, .const (.int .u32 857760878)), (2, .const (.int .u32 2036477234)), (3, .const (.int .u32 1797285236))]), .eff (some 7) (.alloc 30), .eff none (.store 30 (.tmp 7) (.tmp 10))]
abbrev p_chacha_state_1 : List Nat := [0, 1, 2]
def s_chacha_state_2 : List AStep := [.read (some 11) false (.load 36 (.tmp 3)), .pure (some 12) false (.move (.const (.int .i64 0)))]
abbrev p_chacha_state_2 : List Nat := [0, 1]
def s_chacha_state_3 : List AStep := [.pure (some 13) false (.binOp .lss 3 (.tmp 12) (.const (.int .i64 32)) 3)]
abbrev p_chacha_state_3 : List Nat := [0]
def s_chacha_state_4 : List AStep := [.pure (some 14) false (.move (.tmp 12)), .pure (some 15) false (.index 36 (.tmp 11) (.tmp 12)), .pure (some 8) false (.assign (.tmp 14)), .pure (some 9) false (.assign (.tmp 15))]
abbrev p_chacha_state_4 : List Nat := [0, 1, 2, 3]
def s_chacha_state_5 : SP := (.one (.pure (some 16) false (.move (.tmp 8))) (.one (.pure (some 17) false (.binOp .quo 3 (.tmp 16) (.const (.int .i64 4)) 3)) (.one (.pure (some 18) false (.binOp .add 3 (.const (.int .i64 4)) (.tmp 17) 3)) (.one (.pure (some 19) false (.indexAddr 30 (.tmp 7) (.tmp 18))) (.one (.pure (some 21) false (.move (.tmp 9))) (.one (.pure (some 22) false (.convert 5 22 (.tmp 21))) (.one (.pure (some 23) false (.move (.tmp 8))) (.one (.pure (some 24) false (.binOp .rem 3 (.tmp 23) (.const (.int .i64 4)) 3)) (.one (.pure (some 25) false (.binOp .mul 3 (.const (.int .i64 8)) (.tmp 24) 3)) (.one (.pure (some 26) false (.binOp .shl 22 (.tmp 22) (.tmp 25) 3)) (.one (.read (some 20) false (.load 22 (.tmp 19))) (.one (.pure (some 27) false (.binOp .or 22 (.tmp 20) (.tmp 26) 22)) (.one (.pure (some 28) false (.indexAddr 30 (.tmp 7) (.tmp 18))) (.one (.eff none (.store 22 (.tmp 28) (.tmp 27))) .done))))))))))))))
abbrev p_chacha_state_5 : PC := (.calm 0 14366 (.calm 1 14364 (.calm 2 14360 (.calm 3 14352 (.calm 5 15424 (.calm 6 15360 (.calm 7 16128 (.calm 8 15872 (.calm 9 15360 (.calm 10 14336 (.calm 4 14336 (.calm 11 12288 (.calm 12 8192 (.act 13 .done))))))))))))))
abbrev g_chacha_state_5 : List Dg := [⟨0, 256, 65536, .pure, true⟩, ⟨1, 65536, 131072, .pure, true⟩, ⟨2, 131072, 262144, .pure, true⟩, ⟨4, 262272, 524288, .pure, true⟩, ⟨8, 524288, 1048576, .read, true⟩, ⟨0, 512, 2097152, .pure, true⟩, ⟨32, 2097152, 4194304, .pure, true⟩, ⟨0, 256, 8388608, .pure, true⟩, ⟨128, 8388608, 16777216, .pure, true⟩, ⟨256, 16777216, 33554432, .pure, true⟩, ⟨576, 37748736, 67108864, .pure, true⟩, ⟨1040, 68157440, 134217728, .pure, true⟩, ⟨4095, 262272, 268435456, .pure, true⟩, ⟨8191, 402653184, 0, .eff, false⟩]
abbrev q_chacha_state_5 : List Nat := []
def s_chacha_state_6 : List AStep := [.pure (some 29) false (.binOp .add 3 (.tmp 12) (.const (.int .i64 1)) 3), .pure (some 12) false (.move (.tmp 29))]
abbrev p_chacha_state_6 : List Nat := [0, 1]
def s_chacha_state_7 : List AStep := [.pure (some 30) false (.move (.tmp 1)), .pure (some 31) false (.move (.tmp 2)), .pure (some 32) false (.convert 37 22 (.tmp 31)), .pure (some 33) false (.move (.tmp 2)), .pure (some 34) false (.binOp .shr 37 (.tmp 33) (.const (.int .u64 32)) 29), .pure (some 35) false (.convert 37 22 (.tmp 34)), .pure (some 36) false (.indexAddr 30 (.tmp 7) (.const (.int .i64 12))), .eff none (.store 22 (.tmp 36) (.tmp 30)), .pure (some 37) false (.indexAddr 30 (.tmp 7) (.const (.int .i64 14))), .eff none (.store 22 (.tmp 37) (.tmp 32)), .pure (some 38) false (.indexAddr 30 (.tmp 7) (.const (.int .i64 15))), .eff none (.store 22 (.tmp 38) (.tmp 35))]
abbrev p_chacha_state_7 : List Nat := [0, 1, 2, 3, 4, 5, 6, 7, 8, 9, 10, 11]
def s_chacha_state_8 : List AStep := [.read (some 39) false (.load 30 (.tmp 7)), .eff none (.store 30 (.tmp 6) (.tmp 39))]
abbrev p_chacha_state_8 : List Nat := [0, 1]

end Go.Proofs.Ytliiblphnganhaa
