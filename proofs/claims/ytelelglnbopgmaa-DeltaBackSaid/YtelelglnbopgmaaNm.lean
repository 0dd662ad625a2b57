/- The names of the functions, the steps of their regions, and facts on types, printed by a program out of the loaded program. -/
import Derived.Test.YtelelglnbopgmaaSyB
import Derived.Test.YtelelglnbopgmaaProg
import Derived.KernelRfl
namespace Go.Proofs.Ytelelglnbopgmaa
open Go Go.Proofs.Ytelelglnbopgmaa.Sy
set_option linter.unusedVariables false

/-- The types. -/
theorem ty0 : Try.prog.underlying 3 = some (.int .i64) := Try.underlying3
theorem ty1 : Try.prog.underlying 4 = some (.bool) := Try.underlying4
theorem ty2 : Try.prog.underlying 5 = some (.int .u8) := Try.underlying5
theorem ty3 : Try.prog.underlying 22 = some (.array 32 5) := Try.underlying22
theorem ty4 : Try.prog.underlying 23 = some (.array 32 5) := Try.underlying23
theorem ty5 : Try.prog.underlying 25 = some (.slice 5) := Try.underlying25
theorem ty6 : Try.prog.underlying 32 = some (.int .i64) := Try.underlying32
theorem ty7 : Try.prog.cellsOf 3 = 1 := by kernel_rfl
theorem ty8 : Try.prog.cellsOf 4 = 1 := by kernel_rfl
theorem ty9 : Try.prog.cellsOf 5 = 1 := by kernel_rfl
theorem ty10 : Try.prog.cellsOf 22 = 32 := by kernel_rfl
theorem ty11 : Try.prog.cellsOf 23 = 32 := by kernel_rfl
theorem ty12 : Try.prog.cellsOf 25 = 1 := by kernel_rfl
theorem ty13 : Try.prog.cellsOf 32 = 1 := by kernel_rfl
theorem ty14 : Try.prog.cellsOf 40 = 1 := by kernel_rfl
theorem ty15 : Try.prog.bytesOf 5 = 1 := by kernel_rfl
theorem ty16 : zeroCellsOf Try.prog 3 = some (#[.int .i64 0]) := by kernel_rfl
theorem ty17 : zeroCellsOf Try.prog 4 = some #[.bool false] := by kernel_rfl
theorem ty18 : zeroCellsOf Try.prog 5 = some (#[.int .u8 0]) := by kernel_rfl
theorem ty19 : zeroCellsOf Try.prog 22 = some (Array.replicate 32 (.int .u8 0)) := by kernel_rfl
theorem ty20 : Try.prog.eqGuardType Try.prog.depth 22 = false := by kernel_rfl
theorem ty21 : zeroCellsOf Try.prog 23 = some (Array.replicate 32 (.int .u8 0)) := by kernel_rfl
theorem ty22 : Try.prog.eqGuardType Try.prog.depth 23 = false := by kernel_rfl
theorem ty23 : zeroCellsOf Try.prog 25 = some #[.slice none 0 0] := by kernel_rfl
theorem ty24 : zeroCellsOf Try.prog 32 = some (#[.int .i64 0]) := by kernel_rfl
theorem ty : (Try.prog.underlying 3 = some (.int .i64)) ∧ (Try.prog.underlying 4 = some (.bool)) ∧ (Try.prog.underlying 5 = some (.int .u8)) ∧ (Try.prog.underlying 22 = some (.array 32 5)) ∧ (Try.prog.underlying 23 = some (.array 32 5)) ∧ (Try.prog.underlying 25 = some (.slice 5)) ∧ (Try.prog.underlying 32 = some (.int .i64)) ∧ (Try.prog.cellsOf 3 = 1) ∧ (Try.prog.cellsOf 4 = 1) ∧ (Try.prog.cellsOf 5 = 1) ∧ (Try.prog.cellsOf 22 = 32) ∧ (Try.prog.cellsOf 23 = 32) ∧ (Try.prog.cellsOf 25 = 1) ∧ (Try.prog.cellsOf 32 = 1) ∧ (Try.prog.cellsOf 40 = 1) ∧ (Try.prog.bytesOf 5 = 1) ∧ (zeroCellsOf Try.prog 3 = some (#[.int .i64 0])) ∧ (zeroCellsOf Try.prog 4 = some #[.bool false]) ∧ (zeroCellsOf Try.prog 5 = some (#[.int .u8 0])) ∧ (zeroCellsOf Try.prog 22 = some (Array.replicate 32 (.int .u8 0))) ∧ (Try.prog.eqGuardType Try.prog.depth 22 = false) ∧ (zeroCellsOf Try.prog 23 = some (Array.replicate 32 (.int .u8 0))) ∧ (Try.prog.eqGuardType Try.prog.depth 23 = false) ∧ (zeroCellsOf Try.prog 25 = some #[.slice none 0 0]) ∧ (zeroCellsOf Try.prog 32 = some (#[.int .i64 0])) := ⟨ty0, ty1, ty2, ty3, ty4, ty5, ty6, ty7, ty8, ty9, ty10, ty11, ty12, ty13, ty14, ty15, ty16, ty17, ty18, ty19, ty20, ty21, ty22, ty23, ty24⟩
theorem zr0 {ι : Type} : (zrow Try.prog 3 : Option (Row ι)) = some (.ints .i64 (List.replicate 1 0)) := by kernel_rfl
theorem zr1 {ι : Type} : (zrow Try.prog 5 : Option (Row ι)) = some (.ints .u8 (List.replicate 1 0)) := by kernel_rfl
theorem zr2 {ι : Type} : (zrow Try.prog 22 : Option (Row ι)) = some (.ints .u8 (List.replicate 32 0)) := by kernel_rfl
theorem zr3 {ι : Type} : (zrow Try.prog 23 : Option (Row ι)) = some (.ints .u8 (List.replicate 32 0)) := by kernel_rfl
theorem zr4 {ι : Type} : (zrow Try.prog 32 : Option (Row ι)) = some (.ints .i64 (List.replicate 1 0)) := by kernel_rfl
theorem zr {ι : Type} : ((zrow Try.prog 3 : Option (Row ι)) = some (.ints .i64 (List.replicate 1 0))) ∧ ((zrow Try.prog 5 : Option (Row ι)) = some (.ints .u8 (List.replicate 1 0))) ∧ ((zrow Try.prog 22 : Option (Row ι)) = some (.ints .u8 (List.replicate 32 0))) ∧ ((zrow Try.prog 23 : Option (Row ι)) = some (.ints .u8 (List.replicate 32 0))) ∧ ((zrow Try.prog 32 : Option (Row ι)) = some (.ints .i64 (List.replicate 1 0))) := ⟨zr0, zr1, zr2, zr3, zr4⟩
theorem mix : Try.prog.follows .mixedOrders = true := by kernel_rfl

/-! erewhile/erewhilelaw22.DeltaMakes -/
abbrev n_law22_DeltaMakes : Nat := 3
theorem func_law22_DeltaMakes : Try.prog.funcs[n_law22_DeltaMakes]? = some Try.f3 := Try.func3
theorem call_law22_DeltaMakes : ∀ args w, (callFunc n_law22_DeltaMakes args).run Try.prog w = .ok (.enter n_law22_DeltaMakes args) w := Try.call3
theorem nt_law22_DeltaMakes : Try.f3.ntmps = 31 := Try.ntmps3
theorem rs_law22_DeltaMakes : Try.f3.results.toList = [.tmp 4] := by rw [Try.results3]
def s_law22_DeltaMakes_0 : List AStep := [.eff (some 2) (.box 23 (.tmp 0)), .eff (some 3) (.box 23 (.tmp 1)), .pure (some 4) false (.assign (.const (.bool false)))]
abbrev p_law22_DeltaMakes_0 : List Nat := [0, 1, 2]
def s_law22_DeltaMakes_1 : List AStep := [.call (some 9) false ⟨.value (.func 9), #[], #[]⟩, .pure (some 10) false (.unOp .not 4 (.tmp 9))]
abbrev p_law22_DeltaMakes_1 : List Nat := [0, 1]
def s_law22_DeltaMakes_2 : List AStep := [.pure (some 4) false (.assign (.const (.bool false)))]
abbrev p_law22_DeltaMakes_2 : List Nat := [0]
def s_law22_DeltaMakes_3 : List AStep := [.read (some 12) false (.load 23 (.tmp 2)), .read (some 13) false (.load 23 (.tmp 3)), .call (some 14) false ⟨.value (.func 10), #[.tmp 12, .tmp 13], #[23, 23]⟩, .pure (some 11) false (.move (.tmp 14)), .pure (some 15) false (.extract (.tmp 11) 0), .pure (some 16) false (.extract (.tmp 11) 1), .pure (some 5) false (.assign (.tmp 15)), .pure (some 6) false (.assign (.tmp 16))]
abbrev p_law22_DeltaMakes_3 : List Nat := [0, 1, 2, 3, 4, 5, 6, 7]
def s_law22_DeltaMakes_4 : List AStep := [.read (some 18) false (.load 23 (.tmp 2)), .read (some 19) false (.load 23 (.tmp 3)), .call (some 20) false ⟨.value (.func 11), #[.tmp 18, .tmp 19], #[22, 22]⟩, .pure (some 17) false (.move (.tmp 20)), .pure (some 21) false (.extract (.tmp 17) 0), .pure (some 22) false (.extract (.tmp 17) 1), .pure (some 7) false (.assign (.tmp 21)), .pure (some 8) false (.assign (.tmp 22))]
abbrev p_law22_DeltaMakes_4 : List Nat := [0, 1, 2, 3, 4, 5, 6, 7]
def s_law22_DeltaMakes_5 : List AStep := [.pure (some 23) false (.move (.tmp 6)), .pure (some 24) false (.move (.tmp 8)), .pure (some 25) false (.binOp .eql 4 (.tmp 23) (.tmp 24) 4), .pure (some 26) true (.move (.tmp 25)), .guard 26 true (.pure (some 27) false (.move (.tmp 5))), .guard 26 true (.pure (some 28) false (.move (.tmp 7))), .guard 26 true (.call (some 29) false ⟨.value (.func 12), #[.tmp 27, .tmp 28], #[25, 25]⟩), .pure (some 30) false (.pick (.tmp 26) (.tmp 29) (.const (.bool false))), .pure (some 4) false (.assign (.tmp 30))]
abbrev p_law22_DeltaMakes_5 : List Nat := [0, 1, 2, 3, 4, 5, 6, 7, 8]

/-! erewhile/erewhilelaw22.DeltaBack -/
abbrev n_law22_DeltaBack : Nat := 4
theorem func_law22_DeltaBack : Try.prog.funcs[n_law22_DeltaBack]? = some Try.f4 := Try.func4
theorem call_law22_DeltaBack : ∀ args w, (callFunc n_law22_DeltaBack args).run Try.prog w = .ok (.enter n_law22_DeltaBack args) w := Try.call4
theorem nt_law22_DeltaBack : Try.f4.ntmps = 65 := Try.ntmps4
theorem rs_law22_DeltaBack : Try.f4.results.toList = [.tmp 4] := by rw [Try.results4]
def s_law22_DeltaBack_0 : List AStep := [.eff (some 2) (.box 23 (.tmp 0)), .eff (some 3) (.box 23 (.tmp 1)), .pure (some 4) false (.assign (.const (.bool false)))]
abbrev p_law22_DeltaBack_0 : List Nat := [0, 1, 2]
def s_law22_DeltaBack_1 : List AStep := [.call (some 10) false ⟨.value (.func 9), #[], #[]⟩, .pure (some 11) false (.unOp .not 4 (.tmp 10))]
abbrev p_law22_DeltaBack_1 : List Nat := [0, 1]
def s_law22_DeltaBack_2 : List AStep := [.pure (some 4) false (.assign (.const (.bool false)))]
abbrev p_law22_DeltaBack_2 : List Nat := [0]
def s_law22_DeltaBack_3 : List AStep := [.read (some 13) false (.load 23 (.tmp 2)), .read (some 14) false (.load 23 (.tmp 3)), .call (some 15) false ⟨.value (.func 10), #[.tmp 13, .tmp 14], #[23, 23]⟩, .pure (some 12) false (.move (.tmp 15)), .pure (some 16) false (.extract (.tmp 12) 0), .pure (some 17) false (.extract (.tmp 12) 1), .pure (some 5) false (.assign (.tmp 16)), .pure (some 6) false (.assign (.tmp 17))]
abbrev p_law22_DeltaBack_3 : List Nat := [0, 1, 2, 3, 4, 5, 6, 7]
def s_law22_DeltaBack_4 : List AStep := [.read (some 18) false (.load 23 (.tmp 2)), .read (some 19) false (.load 23 (.tmp 3)), .call (some 20) false ⟨.value (.func 13), #[.tmp 18, .tmp 19], #[22, 22]⟩, .pure (some 7) false (.assign (.tmp 20))]
abbrev p_law22_DeltaBack_4 : List Nat := [0, 1, 2, 3]
def s_law22_DeltaBack_5 : List AStep := [.pure (some 21) false (.move (.tmp 6)), .pure (some 22) false (.unOp .not 4 (.tmp 21))]
abbrev p_law22_DeltaBack_5 : List Nat := [0, 1]
def s_law22_DeltaBack_6 : List AStep := [.pure (some 23) false (.move (.tmp 5)), .pure (some 24) false (.call (.mk (.builtin .len) #[.tmp 23] #[25])), .pure (some 25) false (.binOp .eql 3 (.tmp 24) (.const (.int .i64 0)) 3), .pure (some 26) true (.move (.tmp 25)), .guard 26 true (.pure (some 27) false (.move (.tmp 7))), .guard 26 true (.pure (some 28) false (.binOp .gtr 3 (.tmp 27) (.const (.int .i64 6)) 3)), .pure (some 29) false (.pick (.tmp 26) (.tmp 28) (.const (.bool false))), .pure (some 4) false (.assign (.tmp 29))]
abbrev p_law22_DeltaBack_6 : List Nat := [0, 1, 2, 3, 4, 5, 6, 7]
def s_law22_DeltaBack_7 : List AStep := [.read (some 31) false (.load 23 (.tmp 2)), .pure (some 32) false (.move (.tmp 5)), .call (some 33) false ⟨.value (.func 14), #[.tmp 31, .tmp 32], #[23, 25]⟩, .pure (some 30) false (.move (.tmp 33)), .pure (some 34) false (.extract (.tmp 30) 0), .pure (some 35) false (.extract (.tmp 30) 1), .eff (some 8) (.alloc 23), .eff none (.store 23 (.tmp 8) (.tmp 34)), .pure (some 9) false (.assign (.tmp 35))]
abbrev p_law22_DeltaBack_7 : List Nat := [0, 1, 2, 3, 4, 5, 6, 7, 8]
def s_law22_DeltaBack_8 : List AStep := [.pure (some 36) false (.move (.tmp 5)), .call (some 37) false ⟨.value (.func 15), #[.tmp 36], #[25]⟩, .pure (some 38) true (.move (.tmp 37)), .guard 38 true (.pure (some 39) false (.move (.tmp 9))), .guard 38 true (.pure (some 40) false (.binOp .eql 32 (.tmp 39) (.const (.int .i64 0)) 32)), .pure (some 41) false (.pick (.tmp 38) (.tmp 40) (.const (.bool false))), .pure (some 42) true (.move (.tmp 41)), .guard 42 true (.read (some 43) false (.load 23 (.tmp 8))), .guard 42 true (.read (some 44) false (.load 23 (.tmp 3))), .guard 42 true (.pure (some 45) false (.binOp .eql 23 (.tmp 43) (.tmp 44) 23)), .pure (some 46) false (.pick (.tmp 42) (.tmp 45) (.const (.bool false))), .pure (some 47) true (.move (.tmp 46)), .guard 47 true (.pure (some 48) false (.move (.tmp 5))), .guard 47 true (.pure (some 49) false (.call (.mk (.builtin .len) #[.tmp 48] #[25]))), .guard 47 true (.pure (some 50) false (.move (.tmp 7))), .guard 47 true (.pure (some 51) false (.binOp .geq 3 (.tmp 49) (.tmp 50) 3)), .pure (some 52) false (.pick (.tmp 47) (.tmp 51) (.const (.bool false))), .pure (some 53) true (.move (.tmp 52)), .guard 53 true (.pure (some 54) false (.move (.tmp 5))), .guard 53 true (.pure (some 55) false (.call (.mk (.builtin .len) #[.tmp 54] #[25]))), .guard 53 true (.pure (some 56) false (.move (.tmp 7))), .guard 53 true (.pure (some 57) false (.binOp .mul 3 (.const (.int .i64 3)) (.tmp 56) 3)), .guard 53 true (.pure (some 58) false (.binOp .leq 3 (.tmp 55) (.tmp 57) 3)), .pure (some 59) false (.pick (.tmp 53) (.tmp 58) (.const (.bool false))), .pure (some 60) true (.move (.tmp 59)), .guard 60 true (.pure (some 61) false (.move (.tmp 5))), .guard 60 true (.pure (some 62) false (.call (.mk (.builtin .len) #[.tmp 61] #[25]))), .guard 60 true (.pure (some 63) false (.binOp .leq 3 (.tmp 62) (.const (.int .i64 20)) 3)), .pure (some 64) false (.pick (.tmp 60) (.tmp 63) (.const (.bool false))), .pure (some 4) false (.assign (.tmp 64))]
abbrev p_law22_DeltaBack_8 : List Nat := [0, 1, 2, 3, 4, 5, 6, 7, 8, 9, 10, 11, 12, 13, 14, 15, 16, 17, 18, 19, 20, 21, 22, 23, 24, 25, 26, 27, 28, 29]

/-! erewhile/erewhilelaw22.DeltaTwice -/
abbrev n_law22_DeltaTwice : Nat := 5
theorem func_law22_DeltaTwice : Try.prog.funcs[n_law22_DeltaTwice]? = some Try.f5 := Try.func5
theorem call_law22_DeltaTwice : ∀ args w, (callFunc n_law22_DeltaTwice args).run Try.prog w = .ok (.enter n_law22_DeltaTwice args) w := Try.call5
theorem nt_law22_DeltaTwice : Try.f5.ntmps = 51 := Try.ntmps5
theorem rs_law22_DeltaTwice : Try.f5.results.toList = [.tmp 4] := by rw [Try.results5]
def s_law22_DeltaTwice_0 : List AStep := [.eff (some 2) (.box 23 (.tmp 0)), .pure (some 4) false (.assign (.const (.bool false)))]
abbrev p_law22_DeltaTwice_0 : List Nat := [0, 1]
def s_law22_DeltaTwice_1 : List AStep := [.call (some 9) false ⟨.value (.func 9), #[], #[]⟩, .pure (some 10) false (.unOp .not 4 (.tmp 9)), .pure (some 11) true (.move (.tmp 10)), .guard 11 false (.pure (some 12) false (.move (.tmp 1))), .guard 11 false (.pure (some 13) false (.call (.mk (.builtin .len) #[.tmp 12] #[25]))), .guard 11 false (.pure (some 14) false (.binOp .gtr 3 (.tmp 13) (.const (.int .i64 300)) 3)), .pure (some 15) false (.pick (.tmp 11) (.const (.bool true)) (.tmp 14)), .pure (some 16) true (.move (.tmp 15)), .guard 16 false (.pure (some 17) false (.move (.tmp 1))), .guard 16 false (.call (some 18) false ⟨.value (.func 15), #[.tmp 17], #[25]⟩), .guard 16 false (.pure (some 19) false (.unOp .not 4 (.tmp 18))), .pure (some 20) false (.pick (.tmp 16) (.const (.bool true)) (.tmp 19))]
abbrev p_law22_DeltaTwice_1 : List Nat := [0, 1, 2, 3, 4, 5, 6, 7, 8, 9, 10, 11]
def s_law22_DeltaTwice_2 : List AStep := [.call (some 21) false ⟨.value (.func 9), #[], #[]⟩, .pure (some 4) false (.assign (.tmp 21))]
abbrev p_law22_DeltaTwice_2 : List Nat := [0, 1]
def s_law22_DeltaTwice_3 : List AStep := [.read (some 23) false (.load 23 (.tmp 2)), .pure (some 24) false (.move (.tmp 1)), .call (some 25) false ⟨.value (.func 14), #[.tmp 23, .tmp 24], #[23, 25]⟩, .pure (some 22) false (.move (.tmp 25)), .pure (some 26) false (.extract (.tmp 22) 0), .pure (some 27) false (.extract (.tmp 22) 1), .eff (some 5) (.alloc 23), .eff none (.store 23 (.tmp 5) (.tmp 26)), .pure (some 6) false (.assign (.tmp 27))]
abbrev p_law22_DeltaTwice_3 : List Nat := [0, 1, 2, 3, 4, 5, 6, 7, 8]
def s_law22_DeltaTwice_4 : List AStep := [.read (some 29) false (.load 23 (.tmp 5)), .pure (some 30) false (.move (.tmp 1)), .call (some 31) false ⟨.value (.func 14), #[.tmp 29, .tmp 30], #[23, 25]⟩, .pure (some 28) false (.move (.tmp 31)), .pure (some 32) false (.extract (.tmp 28) 0), .pure (some 33) false (.extract (.tmp 28) 1), .eff (some 7) (.alloc 23), .eff none (.store 23 (.tmp 7) (.tmp 32)), .pure (some 8) false (.assign (.tmp 33))]
abbrev p_law22_DeltaTwice_4 : List Nat := [0, 1, 2, 3, 4, 5, 6, 7, 8]
def s_law22_DeltaTwice_5 : List AStep := [.pure (some 34) false (.move (.tmp 6)), .pure (some 35) false (.binOp .neq 32 (.tmp 34) (.const (.int .i64 0)) 32), .pure (some 36) true (.move (.tmp 35)), .guard 36 false (.pure (some 37) false (.move (.tmp 8))), .guard 36 false (.pure (some 38) false (.binOp .neq 32 (.tmp 37) (.const (.int .i64 0)) 32)), .pure (some 39) false (.pick (.tmp 36) (.const (.bool true)) (.tmp 38)), .pure (some 40) true (.move (.tmp 39)), .guard 40 false (.read (some 41) false (.load 23 (.tmp 5))), .guard 40 false (.read (some 42) false (.load 23 (.tmp 7))), .guard 40 false (.pure (some 43) false (.binOp .neq 23 (.tmp 41) (.tmp 42) 23)), .pure (some 44) false (.pick (.tmp 40) (.const (.bool true)) (.tmp 43))]
abbrev p_law22_DeltaTwice_5 : List Nat := [0, 1, 2, 3, 4, 5, 6, 7, 8, 9, 10]
def s_law22_DeltaTwice_6 : List AStep := [.pure (some 4) false (.assign (.const (.bool false)))]
abbrev p_law22_DeltaTwice_6 : List Nat := [0]
def s_law22_DeltaTwice_7 : List AStep := [.read (some 45) false (.load 23 (.tmp 2)), .read (some 46) false (.load 23 (.tmp 5)), .call (some 47) false ⟨.value (.func 13), #[.tmp 45, .tmp 46], #[22, 22]⟩, .pure (some 48) false (.move (.tmp 1)), .pure (some 49) false (.call (.mk (.builtin .len) #[.tmp 48] #[25])), .pure (some 50) false (.binOp .leq 3 (.tmp 47) (.tmp 49) 3), .pure (some 4) false (.assign (.tmp 50))]
abbrev p_law22_DeltaTwice_7 : List Nat := [0, 1, 2, 3, 4, 5, 6]

/-! erewhile/erewhilelaw22.DeltaNone -/
abbrev n_law22_DeltaNone : Nat := 6
theorem func_law22_DeltaNone : Try.prog.funcs[n_law22_DeltaNone]? = some Try.f6 := Try.func6
theorem call_law22_DeltaNone : ∀ args w, (callFunc n_law22_DeltaNone args).run Try.prog w = .ok (.enter n_law22_DeltaNone args) w := Try.call6
theorem nt_law22_DeltaNone : Try.f6.ntmps = 38 := Try.ntmps6
theorem rs_law22_DeltaNone : Try.f6.results.toList = [.tmp 2] := by rw [Try.results6]
def s_law22_DeltaNone_0 : List AStep := [.eff (some 1) (.box 23 (.tmp 0)), .pure (some 2) false (.assign (.const (.bool false)))]
abbrev p_law22_DeltaNone_0 : List Nat := [0, 1]
def s_law22_DeltaNone_1 : List AStep := [.call (some 7) false ⟨.value (.func 9), #[], #[]⟩, .pure (some 8) false (.unOp .not 4 (.tmp 7))]
abbrev p_law22_DeltaNone_1 : List Nat := [0, 1]
def s_law22_DeltaNone_2 : List AStep := [.pure (some 2) false (.assign (.const (.bool false)))]
abbrev p_law22_DeltaNone_2 : List Nat := [0]
def s_law22_DeltaNone_3 : List AStep := [.read (some 10) false (.load 23 (.tmp 1)), .read (some 11) false (.load 23 (.tmp 1)), .call (some 12) false ⟨.value (.func 10), #[.tmp 10, .tmp 11], #[23, 23]⟩, .pure (some 9) false (.move (.tmp 12)), .pure (some 13) false (.extract (.tmp 9) 0), .pure (some 14) false (.extract (.tmp 9) 1), .pure (some 3) false (.assign (.tmp 13)), .pure (some 4) false (.assign (.tmp 14))]
abbrev p_law22_DeltaNone_3 : List Nat := [0, 1, 2, 3, 4, 5, 6, 7]
def s_law22_DeltaNone_4 : List AStep := [.read (some 16) false (.load 23 (.tmp 1)), .call (some 17) false ⟨.value (.func 14), #[.tmp 16, .const (.slice none 0 0)], #[23, 25]⟩, .pure (some 15) false (.move (.tmp 17)), .pure (some 18) false (.extract (.tmp 15) 0), .pure (some 19) false (.extract (.tmp 15) 1), .eff (some 5) (.alloc 23), .eff none (.store 23 (.tmp 5) (.tmp 18)), .pure (some 6) false (.assign (.tmp 19))]
abbrev p_law22_DeltaNone_4 : List Nat := [0, 1, 2, 3, 4, 5, 6, 7]
def s_law22_DeltaNone_5 : List AStep := [.pure (some 20) false (.move (.tmp 4)), .pure (some 21) true (.move (.tmp 20)), .guard 21 true (.pure (some 22) false (.move (.tmp 3))), .guard 21 true (.pure (some 23) false (.call (.mk (.builtin .len) #[.tmp 22] #[25]))), .guard 21 true (.pure (some 24) false (.binOp .eql 3 (.tmp 23) (.const (.int .i64 0)) 3)), .pure (some 25) false (.pick (.tmp 21) (.tmp 24) (.const (.bool false))), .pure (some 26) true (.move (.tmp 25)), .guard 26 true (.pure (some 27) false (.move (.tmp 6))), .guard 26 true (.pure (some 28) false (.binOp .eql 32 (.tmp 27) (.const (.int .i64 0)) 32)), .pure (some 29) false (.pick (.tmp 26) (.tmp 28) (.const (.bool false))), .pure (some 30) true (.move (.tmp 29)), .guard 30 true (.read (some 31) false (.load 23 (.tmp 5))), .guard 30 true (.read (some 32) false (.load 23 (.tmp 1))), .guard 30 true (.pure (some 33) false (.binOp .eql 23 (.tmp 31) (.tmp 32) 23)), .pure (some 34) false (.pick (.tmp 30) (.tmp 33) (.const (.bool false))), .pure (some 35) true (.move (.tmp 34)), .guard 35 true (.call (some 36) false ⟨.value (.func 15), #[.const (.slice none 0 0)], #[25]⟩), .pure (some 37) false (.pick (.tmp 35) (.tmp 36) (.const (.bool false))), .pure (some 2) false (.assign (.tmp 37))]
abbrev p_law22_DeltaNone_5 : List Nat := [0, 1, 2, 3, 4, 5, 6, 7, 8, 9, 10, 11, 12, 13, 14, 15, 16, 17, 18]

/-! erewhile/erewhilelaw22.DeltaTurned -/
abbrev n_law22_DeltaTurned : Nat := 7
theorem func_law22_DeltaTurned : Try.prog.funcs[n_law22_DeltaTurned]? = some Try.f7 := Try.func7
theorem call_law22_DeltaTurned : ∀ args w, (callFunc n_law22_DeltaTurned args).run Try.prog w = .ok (.enter n_law22_DeltaTurned args) w := Try.call7
theorem nt_law22_DeltaTurned : Try.f7.ntmps = 103 := Try.ntmps7
theorem rs_law22_DeltaTurned : Try.f7.results.toList = [.tmp 4] := by rw [Try.results7]
def s_law22_DeltaTurned_0 : List AStep := [.eff (some 2) (.box 23 (.tmp 0)), .eff (some 3) (.box 23 (.tmp 1)), .pure (some 4) false (.assign (.const (.bool false)))]
abbrev p_law22_DeltaTurned_0 : List Nat := [0, 1, 2]
def s_law22_DeltaTurned_1 : List AStep := [.call (some 12) false ⟨.value (.func 9), #[], #[]⟩, .pure (some 13) false (.unOp .not 4 (.tmp 12))]
abbrev p_law22_DeltaTurned_1 : List Nat := [0, 1]
def s_law22_DeltaTurned_2 : List AStep := [.pure (some 4) false (.assign (.const (.bool false)))]
abbrev p_law22_DeltaTurned_2 : List Nat := [0]
def s_law22_DeltaTurned_3 : List AStep := [.read (some 15) false (.load 23 (.tmp 2)), .read (some 16) false (.load 23 (.tmp 3)), .call (some 17) false ⟨.value (.func 10), #[.tmp 15, .tmp 16], #[23, 23]⟩, .pure (some 14) false (.move (.tmp 17)), .pure (some 18) false (.extract (.tmp 14) 0), .pure (some 19) false (.extract (.tmp 14) 1), .pure (some 5) false (.assign (.tmp 18)), .pure (some 6) false (.assign (.tmp 19))]
abbrev p_law22_DeltaTurned_3 : List Nat := [0, 1, 2, 3, 4, 5, 6, 7]
def s_law22_DeltaTurned_4 : List AStep := [.read (some 21) false (.load 23 (.tmp 3)), .read (some 22) false (.load 23 (.tmp 2)), .call (some 23) false ⟨.value (.func 10), #[.tmp 21, .tmp 22], #[23, 23]⟩, .pure (some 20) false (.move (.tmp 23)), .pure (some 24) false (.extract (.tmp 20) 0), .pure (some 25) false (.extract (.tmp 20) 1), .pure (some 7) false (.assign (.tmp 24)), .pure (some 8) false (.assign (.tmp 25))]
abbrev p_law22_DeltaTurned_4 : List Nat := [0, 1, 2, 3, 4, 5, 6, 7]
def s_law22_DeltaTurned_5 : List AStep := [.pure (some 26) false (.move (.tmp 6)), .pure (some 27) false (.move (.tmp 8)), .pure (some 28) false (.binOp .neq 4 (.tmp 26) (.tmp 27) 4), .pure (some 29) true (.move (.tmp 28)), .guard 29 false (.pure (some 30) false (.move (.tmp 5))), .guard 29 false (.pure (some 31) false (.call (.mk (.builtin .len) #[.tmp 30] #[25]))), .guard 29 false (.pure (some 32) false (.move (.tmp 7))), .guard 29 false (.pure (some 33) false (.call (.mk (.builtin .len) #[.tmp 32] #[25]))), .guard 29 false (.pure (some 34) false (.binOp .neq 3 (.tmp 31) (.tmp 33) 3)), .pure (some 35) false (.pick (.tmp 29) (.const (.bool true)) (.tmp 34))]
abbrev p_law22_DeltaTurned_5 : List Nat := [0, 1, 2, 3, 4, 5, 6, 7, 8, 9]
def s_law22_DeltaTurned_6 : List AStep := [.pure (some 4) false (.assign (.const (.bool false)))]
abbrev p_law22_DeltaTurned_6 : List Nat := [0]
def s_law22_DeltaTurned_7 : List AStep := [.pure (some 9) false (.assign (.const (.int .i64 0)))]
abbrev p_law22_DeltaTurned_7 : List Nat := [0]
def s_law22_DeltaTurned_8 : List AStep := [.pure (some 36) false (.move (.tmp 9)), .pure (some 37) false (.move (.tmp 5)), .pure (some 38) false (.call (.mk (.builtin .len) #[.tmp 37] #[25])), .pure (some 39) false (.binOp .lss 3 (.tmp 36) (.tmp 38) 3)]
abbrev p_law22_DeltaTurned_8 : List Nat := [0, 1, 2, 3]
def s_law22_DeltaTurned_9 : SP := (.one (.pure (some 40) false (.move (.tmp 9))) (.one (.pure (some 41) false (.binOp .add 3 (.tmp 40) (.const (.int .i64 1)) 3)) (.one (.pure (some 42) false (.move (.tmp 5))) (.one (.pure (some 43) false (.call (.mk (.builtin .len) #[.tmp 42] #[25]))) (.one (.pure (some 44) false (.binOp .geq 3 (.tmp 41) (.tmp 43) 3)) (.one (.pure (some 45) true (.move (.tmp 44))) (.one (.guard 45 false (.pure (some 46) false (.move (.tmp 5)))) (.one (.guard 45 false (.pure (some 47) false (.move (.tmp 9)))) (.one (.guard 45 false (.pure (some 48) false (.indexAddr 25 (.tmp 46) (.tmp 47)))) (.one (.guard 45 false (.pure (some 50) false (.move (.tmp 7)))) (.one (.guard 45 false (.pure (some 51) false (.move (.tmp 9)))) (.one (.guard 45 false (.pure (some 52) false (.indexAddr 25 (.tmp 50) (.tmp 51)))) (.one (.guard 45 false (.read (some 49) false (.load 5 (.tmp 48)))) (.one (.guard 45 false (.read (some 53) false (.load 5 (.tmp 52)))) (.one (.guard 45 false (.pure (some 54) false (.binOp .neq 5 (.tmp 49) (.tmp 53) 5))) (.one (.pure (some 55) false (.pick (.tmp 45) (.const (.bool true)) (.tmp 54))) (.one (.pure (some 56) true (.move (.tmp 55))) (.one (.guard 56 false (.pure (some 57) false (.move (.tmp 5)))) (.one (.guard 56 false (.pure (some 58) false (.move (.tmp 9)))) (.one (.guard 56 false (.pure (some 59) false (.binOp .add 3 (.tmp 58) (.const (.int .i64 1)) 3))) (.one (.guard 56 false (.pure (some 60) false (.indexAddr 25 (.tmp 57) (.tmp 59)))) (.one (.guard 56 false (.pure (some 62) false (.move (.tmp 7)))) (.one (.guard 56 false (.pure (some 63) false (.move (.tmp 9)))) (.one (.guard 56 false (.pure (some 64) false (.binOp .add 3 (.tmp 63) (.const (.int .i64 1)) 3))) (.one (.guard 56 false (.pure (some 65) false (.indexAddr 25 (.tmp 62) (.tmp 64)))) (.one (.guard 56 false (.read (some 61) false (.load 5 (.tmp 60)))) (.one (.guard 56 false (.read (some 66) false (.load 5 (.tmp 65)))) (.one (.guard 56 false (.pure (some 67) false (.binOp .neq 5 (.tmp 61) (.tmp 66) 5))) (.one (.pure (some 68) false (.pick (.tmp 56) (.const (.bool true)) (.tmp 67))) (.one (.pure (some 69) true (.move (.tmp 68))) (.one (.guard 69 false (.pure (some 70) false (.move (.tmp 5)))) (.one (.guard 69 false (.pure (some 71) false (.move (.tmp 9)))) (.one (.guard 69 false (.pure (some 72) false (.binOp .add 3 (.tmp 71) (.const (.int .i64 1)) 3))) (.one (.guard 69 false (.pure (some 73) false (.indexAddr 25 (.tmp 70) (.tmp 72)))) (.one (.guard 69 false (.read (some 74) false (.load 5 (.tmp 73)))) (.one (.guard 69 false (.pure (some 75) false (.binOp .lss 5 (.tmp 74) (.const (.int .u8 1)) 5))) (.one (.pure (some 76) false (.pick (.tmp 69) (.const (.bool true)) (.tmp 75))) .done)))))))))))))))))))))))))))))))))))))
abbrev p_law22_DeltaTurned_9 : PC := (.calm 0 137438953458 (.calm 1 137438953456 (.calm 2 137438953464 (.calm 3 137438953456 (.calm 4 137438953440 (.calm 5 137438953408 (.calm 6 137438937856 (.calm 7 137438937856 (.calm 8 137438937600 (.calm 10 137438949376 (.calm 11 137438949376 (.calm 12 137438945280 (.calm 9 137438937088 (.calm 13 137438937088 (.calm 14 137438920704 (.calm 15 137438887936 (.calm 16 137438822400 (.calm 17 137307881472 (.calm 18 137308405760 (.calm 19 137307881472 (.calm 20 137306832896 (.calm 22 137405399040 (.calm 23 137422176256 (.calm 24 137405399040 (.calm 25 137371844608 (.calm 21 137304735744 (.calm 26 137304735744 (.calm 27 137170518016 (.calm 28 136902082560 (.calm 29 136365211648 (.calm 30 128849018880 (.calm 31 133143986176 (.calm 32 128849018880 (.calm 33 120259084288 (.calm 34 103079215104 (.calm 35 68719476736 (.calm 36 0 .done)))))))))))))))))))))))))))))))))))))
abbrev g_law22_DeltaTurned_9 : List Dg := [⟨0, 512, 1099511627776, .pure, true⟩, ⟨1, 1099511627776, 2199023255552, .pure, true⟩, ⟨0, 32, 4398046511104, .pure, true⟩, ⟨4, 4398046511104, 8796093022208, .pure, true⟩, ⟨10, 10995116277760, 17592186044416, .pure, true⟩, ⟨16, 17592186044416, 35184372088832, .pure, true⟩, ⟨32, 35184372088864, 70368744177664, .pure, true⟩, ⟨32, 35184372089344, 140737488355328, .pure, true⟩, ⟨224, 246290604621824, 281474976710656, .pure, true⟩, ⟨288, 316659348799488, 562949953421312, .read, true⟩, ⟨32, 35184372088960, 1125899906842624, .pure, true⟩, ⟨32, 35184372089344, 2251799813685248, .pure, true⟩, ⟨3104, 3412884092616704, 4503599627370496, .pure, true⟩, ⟨4128, 4538783999459328, 9007199254740992, .read, true⟩, ⟨8736, 9605333580251136, 18014398509481984, .pure, true⟩, ⟨16416, 18049582881570816, 36028797018963968, .pure, true⟩, ⟨32800, 36028797018963968, 72057594037927936, .pure, true⟩, ⟨65536, 72057594037927968, 144115188075855872, .pure, true⟩, ⟨65536, 72057594037928448, 288230376151711744, .pure, true⟩, ⟨327680, 360287970189639680, 576460752303423488, .pure, true⟩, ⟨720896, 792633534417207296, 1152921504606846976, .pure, true⟩, ⟨1114112, 1224979098644774912, 2305843009213693952, .read, true⟩, ⟨65536, 72057594037928064, 4611686018427387904, .pure, true⟩, ⟨65536, 72057594037928448, 9223372036854775808, .pure, true⟩, ⟨8454144, 9295429630892703744, 18446744073709551616, .pure, true⟩, ⟨21037056, 23130487686174867456, 36893488147419103232, .pure, true⟩, ⟨33619968, 36965545741457031168, 73786976294838206464, .read, true⟩, ⟨69271552, 76164876898089828352, 147573952589676412928, .pure, true⟩, ⟨134283264, 147646010183714340864, 295147905179352825856, .pure, true⟩, ⟨268500992, 295147905179352825856, 590295810358705651712, .pure, true⟩, ⟨536870912, 590295810358705651744, 1180591620717411303424, .pure, true⟩, ⟨536870912, 590295810358705652224, 2361183241434822606848, .pure, true⟩, ⟨2684354560, 2951479051793528258560, 4722366482869645213696, .pure, true⟩, ⟨5905580032, 6493253913945762168832, 9444732965739290427392, .pure, true⟩, ⟨9126805504, 10035028776097996079104, 18889465931478580854784, .read, true⟩, ⟨17716740096, 19479761741837286506496, 37778931862957161709568, .pure, true⟩, ⟨34896609280, 38369227673315867361280, 75557863725914323419136, .pure, true⟩]
abbrev q_law22_DeltaTurned_9 : List Nat := []
def s_law22_DeltaTurned_10 : List AStep := [.pure (some 4) false (.assign (.const (.bool false)))]
abbrev p_law22_DeltaTurned_10 : List Nat := [0]
def s_law22_DeltaTurned_11 : List AStep := [.pure (some 77) false (.move (.tmp 9)), .pure (some 78) false (.binOp .add 3 (.tmp 77) (.const (.int .i64 2)) 3), .pure (some 79) false (.move (.tmp 5)), .pure (some 80) false (.move (.tmp 9)), .pure (some 81) false (.binOp .add 3 (.tmp 80) (.const (.int .i64 1)) 3), .pure (some 82) false (.indexAddr 25 (.tmp 79) (.tmp 81)), .read (some 83) false (.load 5 (.tmp 82)), .pure (some 84) false (.convert 5 3 (.tmp 83)), .pure (some 85) false (.binOp .add 3 (.tmp 78) (.tmp 84) 3), .pure (some 9) false (.assign (.tmp 85))]
abbrev p_law22_DeltaTurned_11 : List Nat := [0, 1, 2, 3, 4, 5, 6, 7, 8, 9]
def s_law22_DeltaTurned_12 : List AStep := [.read (some 87) false (.load 23 (.tmp 3)), .pure (some 88) false (.move (.tmp 7)), .call (some 89) false ⟨.value (.func 14), #[.tmp 87, .tmp 88], #[23, 25]⟩, .pure (some 86) false (.move (.tmp 89)), .pure (some 90) false (.extract (.tmp 86) 0), .pure (some 91) false (.extract (.tmp 86) 1), .eff (some 10) (.alloc 23), .eff none (.store 23 (.tmp 10) (.tmp 90)), .pure (some 11) false (.assign (.tmp 91))]
abbrev p_law22_DeltaTurned_12 : List Nat := [0, 1, 2, 3, 4, 5, 6, 7, 8]
def s_law22_DeltaTurned_13 : List AStep := [.pure (some 92) false (.move (.tmp 6)), .pure (some 93) false (.unOp .not 4 (.tmp 92)), .pure (some 94) true (.move (.tmp 93)), .guard 94 false (.pure (some 95) false (.move (.tmp 11))), .guard 94 false (.pure (some 96) false (.binOp .eql 32 (.tmp 95) (.const (.int .i64 0)) 32)), .guard 94 false (.pure (some 97) true (.move (.tmp 96))), .guard 97 true (.read (some 98) false (.load 23 (.tmp 10))), .guard 97 true (.read (some 99) false (.load 23 (.tmp 2))), .guard 97 true (.pure (some 100) false (.binOp .eql 23 (.tmp 98) (.tmp 99) 23)), .guard 94 false (.pure (some 101) false (.pick (.tmp 97) (.tmp 100) (.const (.bool false)))), .pure (some 102) false (.pick (.tmp 94) (.const (.bool true)) (.tmp 101)), .pure (some 4) false (.assign (.tmp 102))]
abbrev p_law22_DeltaTurned_13 : List Nat := [0, 1, 2, 3, 4, 5, 6, 7, 8, 9, 10, 11]

/-! erewhile/erewhilelaw22.DeltaWay -/
abbrev n_law22_DeltaWay : Nat := 8
theorem func_law22_DeltaWay : Try.prog.funcs[n_law22_DeltaWay]? = some Try.f8 := Try.func8
theorem call_law22_DeltaWay : ∀ args w, (callFunc n_law22_DeltaWay args).run Try.prog w = .ok (.enter n_law22_DeltaWay args) w := Try.call8
theorem nt_law22_DeltaWay : Try.f8.ntmps = 86 := Try.ntmps8
theorem rs_law22_DeltaWay : Try.f8.results.toList = [.tmp 6] := by rw [Try.results8]
def s_law22_DeltaWay_0 : List AStep := [.eff (some 3) (.box 23 (.tmp 0)), .eff (some 4) (.box 23 (.tmp 1)), .eff (some 5) (.box 23 (.tmp 2)), .pure (some 6) false (.assign (.const (.bool false)))]
abbrev p_law22_DeltaWay_0 : List Nat := [0, 1, 2, 3]
def s_law22_DeltaWay_1 : List AStep := [.call (some 19) false ⟨.value (.func 9), #[], #[]⟩, .pure (some 20) false (.unOp .not 4 (.tmp 19))]
abbrev p_law22_DeltaWay_1 : List Nat := [0, 1]
def s_law22_DeltaWay_2 : List AStep := [.pure (some 6) false (.assign (.const (.bool false)))]
abbrev p_law22_DeltaWay_2 : List Nat := [0]
def s_law22_DeltaWay_3 : List AStep := [.read (some 22) false (.load 23 (.tmp 3)), .read (some 23) false (.load 23 (.tmp 4)), .call (some 24) false ⟨.value (.func 10), #[.tmp 22, .tmp 23], #[23, 23]⟩, .pure (some 21) false (.move (.tmp 24)), .pure (some 25) false (.extract (.tmp 21) 0), .pure (some 26) false (.extract (.tmp 21) 1), .pure (some 7) false (.assign (.tmp 25)), .pure (some 8) false (.assign (.tmp 26))]
abbrev p_law22_DeltaWay_3 : List Nat := [0, 1, 2, 3, 4, 5, 6, 7]
def s_law22_DeltaWay_4 : List AStep := [.read (some 28) false (.load 23 (.tmp 4)), .read (some 29) false (.load 23 (.tmp 5)), .call (some 30) false ⟨.value (.func 10), #[.tmp 28, .tmp 29], #[23, 23]⟩, .pure (some 27) false (.move (.tmp 30)), .pure (some 31) false (.extract (.tmp 27) 0), .pure (some 32) false (.extract (.tmp 27) 1), .pure (some 9) false (.assign (.tmp 31)), .pure (some 10) false (.assign (.tmp 32))]
abbrev p_law22_DeltaWay_4 : List Nat := [0, 1, 2, 3, 4, 5, 6, 7]
def s_law22_DeltaWay_5 : List AStep := [.read (some 34) false (.load 23 (.tmp 3)), .read (some 35) false (.load 23 (.tmp 5)), .call (some 36) false ⟨.value (.func 10), #[.tmp 34, .tmp 35], #[23, 23]⟩, .pure (some 33) false (.move (.tmp 36)), .pure (some 37) false (.extract (.tmp 33) 0), .pure (some 38) false (.extract (.tmp 33) 1), .pure (some 11) false (.assign (.tmp 37)), .pure (some 12) false (.assign (.tmp 38))]
abbrev p_law22_DeltaWay_5 : List Nat := [0, 1, 2, 3, 4, 5, 6, 7]
def s_law22_DeltaWay_6 : List AStep := [.pure (some 39) false (.move (.tmp 8)), .pure (some 40) false (.unOp .not 4 (.tmp 39)), .pure (some 41) true (.move (.tmp 40)), .guard 41 false (.pure (some 42) false (.move (.tmp 10))), .guard 41 false (.pure (some 43) false (.unOp .not 4 (.tmp 42))), .pure (some 44) false (.pick (.tmp 41) (.const (.bool true)) (.tmp 43))]
abbrev p_law22_DeltaWay_6 : List Nat := [0, 1, 2, 3, 4, 5]
def s_law22_DeltaWay_7 : List AStep := [.pure (some 6) false (.assign (.const (.bool true)))]
abbrev p_law22_DeltaWay_7 : List Nat := [0]
def s_law22_DeltaWay_8 : List AStep := [.read (some 46) false (.load 23 (.tmp 3)), .pure (some 47) false (.move (.tmp 7)), .call (some 48) false ⟨.value (.func 14), #[.tmp 46, .tmp 47], #[23, 25]⟩, .pure (some 45) false (.move (.tmp 48)), .pure (some 49) false (.extract (.tmp 45) 0), .pure (some 50) false (.extract (.tmp 45) 1), .eff (some 13) (.alloc 23), .eff none (.store 23 (.tmp 13) (.tmp 49)), .pure (some 14) false (.assign (.tmp 50))]
abbrev p_law22_DeltaWay_8 : List Nat := [0, 1, 2, 3, 4, 5, 6, 7, 8]
def s_law22_DeltaWay_9 : List AStep := [.read (some 52) false (.load 23 (.tmp 13)), .pure (some 53) false (.move (.tmp 9)), .call (some 54) false ⟨.value (.func 14), #[.tmp 52, .tmp 53], #[23, 25]⟩, .pure (some 51) false (.move (.tmp 54)), .pure (some 55) false (.extract (.tmp 51) 0), .pure (some 56) false (.extract (.tmp 51) 1), .eff (some 15) (.alloc 23), .eff none (.store 23 (.tmp 15) (.tmp 55)), .pure (some 16) false (.assign (.tmp 56))]
abbrev p_law22_DeltaWay_9 : List Nat := [0, 1, 2, 3, 4, 5, 6, 7, 8]
def s_law22_DeltaWay_10 : List AStep := [.pure (some 57) false (.move (.tmp 16)), .pure (some 58) false (.binOp .neq 32 (.tmp 57) (.const (.int .i64 0)) 32), .pure (some 59) true (.move (.tmp 58)), .guard 59 false (.read (some 60) false (.load 23 (.tmp 15))), .guard 59 false (.read (some 61) false (.load 23 (.tmp 5))), .guard 59 false (.pure (some 62) false (.binOp .neq 23 (.tmp 60) (.tmp 61) 23)), .pure (some 63) false (.pick (.tmp 59) (.const (.bool true)) (.tmp 62))]
abbrev p_law22_DeltaWay_10 : List Nat := [0, 1, 2, 3, 4, 5, 6]
def s_law22_DeltaWay_11 : List AStep := [.pure (some 6) false (.assign (.const (.bool false)))]
abbrev p_law22_DeltaWay_11 : List Nat := [0]
def s_law22_DeltaWay_12 : List AStep := [.read (some 65) false (.load 23 (.tmp 3)), .pure (some 66) false (.move (.tmp 11)), .call (some 67) false ⟨.value (.func 14), #[.tmp 65, .tmp 66], #[23, 25]⟩, .pure (some 64) false (.move (.tmp 67)), .pure (some 68) false (.extract (.tmp 64) 0), .pure (some 69) false (.extract (.tmp 64) 1), .eff (some 17) (.alloc 23), .eff none (.store 23 (.tmp 17) (.tmp 68)), .pure (some 18) false (.assign (.tmp 69))]
abbrev p_law22_DeltaWay_12 : List Nat := [0, 1, 2, 3, 4, 5, 6, 7, 8]
def s_law22_DeltaWay_13 : List AStep := [.pure (some 70) false (.move (.tmp 12)), .pure (some 71) false (.unOp .not 4 (.tmp 70)), .pure (some 72) true (.move (.tmp 71)), .guard 72 false (.pure (some 73) false (.move (.tmp 18))), .guard 72 false (.pure (some 74) false (.binOp .eql 32 (.tmp 73) (.const (.int .i64 0)) 32)), .guard 72 false (.pure (some 75) true (.move (.tmp 74))), .guard 75 true (.read (some 76) false (.load 23 (.tmp 17))), .guard 75 true (.read (some 77) false (.load 23 (.tmp 5))), .guard 75 true (.pure (some 78) false (.binOp .eql 23 (.tmp 76) (.tmp 77) 23)), .guard 72 false (.pure (some 79) false (.pick (.tmp 75) (.tmp 78) (.const (.bool false)))), .guard 72 false (.pure (some 80) true (.move (.tmp 79))), .guard 80 true (.pure (some 81) false (.move (.tmp 11))), .guard 80 true (.pure (some 82) false (.call (.mk (.builtin .len) #[.tmp 81] #[25]))), .guard 80 true (.pure (some 83) false (.binOp .leq 3 (.tmp 82) (.const (.int .i64 20)) 3)), .guard 72 false (.pure (some 84) false (.pick (.tmp 80) (.tmp 83) (.const (.bool false)))), .pure (some 85) false (.pick (.tmp 72) (.const (.bool true)) (.tmp 84)), .pure (some 6) false (.assign (.tmp 85))]
abbrev p_law22_DeltaWay_13 : List Nat := [0, 1, 2, 3, 4, 5, 6, 7, 8, 9, 10, 11, 12, 13, 14, 15, 16]

/-! erewhile/erewhilelaw22.awake -/
abbrev n_law22_awake : Nat := 9
theorem func_law22_awake : Try.prog.funcs[n_law22_awake]? = some Try.f9 := Try.func9
theorem call_law22_awake : ∀ args w, (callFunc n_law22_awake args).run Try.prog w = .ok (.enter n_law22_awake args) w := Try.call9
theorem nt_law22_awake : Try.f9.ntmps = 24 := Try.ntmps9
theorem rs_law22_awake : Try.f9.results.toList = [.tmp 0] := by rw [Try.results9]
def s_law22_awake_0 : List AStep := [.pure (some 0) false (.assign (.const (.bool false)))]
abbrev p_law22_awake_0 : List Nat := [0]
def s_law22_awake_1 : List AStep := [.pure (some 4) false (.build 23 #[]), .pure (some 5) false (.build 23 #[(5, .const (.int .u8 7))]), .call (some 6) false ⟨.value (.func 10), #[.tmp 4, .tmp 5], #[23, 23]⟩, .pure (some 3) false (.move (.tmp 6)), .pure (some 7) false (.extract (.tmp 3) 0), .pure (some 8) false (.extract (.tmp 3) 1), .pure (some 1) false (.assign (.tmp 7)), .pure (some 2) false (.assign (.tmp 8))]
abbrev p_law22_awake_1 : List Nat := [0, 1, 2, 3, 4, 5, 6, 7]
def s_law22_awake_2 : List AStep := [.pure (some 9) false (.move (.tmp 2)), .pure (some 10) true (.move (.tmp 9)), .guard 10 true (.pure (some 11) false (.move (.tmp 1))), .guard 10 true (.eff (some 12) (.buildSlice 25 3 #[(0, .const (.int .u8 5)), (1, .const (.int .u8 1)), (2, .const (.int .u8 7))])), .guard 10 true (.call (some 13) false ⟨.value (.func 12), #[.tmp 11, .tmp 12], #[25, 25]⟩), .pure (some 14) false (.pick (.tmp 10) (.tmp 13) (.const (.bool false))), .pure (some 15) true (.move (.tmp 14)), .guard 15 true (.pure (some 16) false (.move (.tmp 1))), .guard 15 true (.call (some 17) false ⟨.value (.func 15), #[.tmp 16], #[25]⟩), .pure (some 18) false (.pick (.tmp 15) (.tmp 17) (.const (.bool false))), .pure (some 19) true (.move (.tmp 18)), .guard 19 true (.eff (some 20) (.buildSlice 25 2 #[(0, .const (.int .u8 5)), (1, .const (.int .u8 0))])), .guard 19 true (.call (some 21) false ⟨.value (.func 15), #[.tmp 20], #[25]⟩), .guard 19 true (.pure (some 22) false (.unOp .not 4 (.tmp 21))), .pure (some 23) false (.pick (.tmp 19) (.tmp 22) (.const (.bool false))), .pure (some 0) false (.assign (.tmp 23))]
abbrev p_law22_awake_2 : List Nat := [0, 1, 2, 3, 4, 5, 6, 7, 8, 9, 10, 11, 12, 13, 14, 15]

/-! erewhile/delta.Make -/
abbrev n_delta_Make : Nat := 10
theorem func_delta_Make : Try.prog.funcs[n_delta_Make]? = some Try.f10 := Try.func10
theorem call_delta_Make : ∀ args w, (callFunc n_delta_Make args).run Try.prog w = .ok (.enter n_delta_Make args) w := Try.call10
theorem nt_delta_Make : Try.f10.ntmps = 51 := Try.ntmps10
theorem rs_delta_Make : Try.f10.results.toList = [.tmp 4, .tmp 5] := by rw [Try.results10]
def s_delta_Make_0 : List AStep := [.eff (some 2) (.box 23 (.tmp 0)), .eff (some 3) (.box 23 (.tmp 1)), .pure (some 4) false (.assign (.const (.slice none 0 0))), .pure (some 5) false (.assign (.const (.bool false)))]
abbrev p_delta_Make_0 : List Nat := [0, 1, 2, 3]
def s_delta_Make_1 : List AStep := [.pure (some 6) false (.assign (.const (.slice none 0 0)))]
abbrev p_delta_Make_1 : List Nat := [0]
def s_delta_Make_2 : List AStep := [.pure (some 7) false (.assign (.const (.int .i64 0)))]
abbrev p_delta_Make_2 : List Nat := [0]
def s_delta_Make_3 : List AStep := [.pure (some 9) false (.move (.tmp 7)), .pure (some 10) false (.binOp .lss 3 (.tmp 9) (.const (.int .i64 32)) 3)]
abbrev p_delta_Make_3 : List Nat := [0, 1]
def s_delta_Make_5 : SP := (.one (.pure (some 13) false (.move (.tmp 7))) (.one (.pure (some 14) false (.indexAddr 23 (.tmp 2) (.tmp 13))) (.one (.pure (some 16) false (.move (.tmp 7))) (.one (.pure (some 17) false (.indexAddr 23 (.tmp 3) (.tmp 16))) (.one (.read (some 15) false (.load 5 (.tmp 14))) (.one (.read (some 18) false (.load 5 (.tmp 17))) (.one (.pure (some 19) false (.binOp .eql 5 (.tmp 15) (.tmp 18) 5)) .done)))))))
abbrev p_delta_Make_5 : PC := (.calm 0 70 (.calm 1 68 (.calm 3 112 (.calm 4 96 (.calm 2 64 (.calm 5 64 (.calm 6 0 .done)))))))
abbrev g_delta_Make_5 : List Dg := [⟨0, 128, 8192, .pure, true⟩, ⟨1, 8196, 16384, .pure, true⟩, ⟨2, 16384, 32768, .read, true⟩, ⟨0, 128, 65536, .pure, true⟩, ⟨8, 65544, 131072, .pure, true⟩, ⟨16, 131072, 262144, .read, true⟩, ⟨36, 294912, 524288, .pure, true⟩]
abbrev q_delta_Make_5 : List Nat := []
def s_delta_Make_6 : List AStep := [.pure (some 20) false (.move (.tmp 7)), .pure (some 8) false (.assign (.tmp 20))]
abbrev p_delta_Make_6 : List Nat := [0, 1]
def s_delta_Make_7 : SP := (.one (.pure (some 21) false (.move (.tmp 7))) (.one (.pure (some 22) false (.binOp .lss 3 (.tmp 21) (.const (.int .i64 32)) 3)) (.one (.pure (some 23) true (.move (.tmp 22))) (.one (.guard 23 true (.pure (some 24) false (.move (.tmp 7)))) (.one (.guard 23 true (.pure (some 25) false (.indexAddr 23 (.tmp 2) (.tmp 24)))) (.one (.guard 23 true (.pure (some 27) false (.move (.tmp 7)))) (.one (.guard 23 true (.pure (some 28) false (.indexAddr 23 (.tmp 3) (.tmp 27)))) (.one (.guard 23 true (.read (some 26) false (.load 5 (.tmp 25)))) (.one (.guard 23 true (.read (some 29) false (.load 5 (.tmp 28)))) (.one (.guard 23 true (.pure (some 30) false (.binOp .neq 5 (.tmp 26) (.tmp 29) 5))) (.one (.pure (some 31) false (.pick (.tmp 23) (.tmp 30) (.const (.bool false)))) .done)))))))))))
abbrev p_delta_Make_7 : PC := (.calm 0 2046 (.calm 1 2044 (.calm 2 2040 (.calm 3 1584 (.calm 4 1568 (.calm 6 1920 (.calm 7 1792 (.calm 5 1536 (.calm 8 1536 (.calm 9 1024 (.calm 10 0 .done)))))))))))
abbrev g_delta_Make_7 : List Dg := [⟨0, 128, 2097152, .pure, true⟩, ⟨1, 2097152, 4194304, .pure, true⟩, ⟨2, 4194304, 8388608, .pure, true⟩, ⟨4, 8388736, 16777216, .pure, true⟩, ⟨12, 25165828, 33554432, .pure, true⟩, ⟨20, 41943040, 67108864, .read, true⟩, ⟨4, 8388736, 134217728, .pure, true⟩, ⟨68, 142606344, 268435456, .pure, true⟩, ⟨132, 276824064, 536870912, .read, true⟩, ⟨292, 612368384, 1073741824, .pure, true⟩, ⟨516, 1082130432, 2147483648, .pure, true⟩]
abbrev q_delta_Make_7 : List Nat := []
def s_delta_Make_8 : List AStep := [.pure (some 32) false (.move (.tmp 7)), .pure (some 33) false (.binOp .add 3 (.tmp 32) (.const (.int .i64 1)) 3), .pure (some 7) false (.assign (.tmp 33))]
abbrev p_delta_Make_8 : List Nat := [0, 1, 2]
def s_delta_Make_9 : SP := (.one (.pure (some 34) false (.move (.tmp 6))) (.one (.pure (some 35) false (.move (.tmp 8))) (.one (.pure (some 36) false (.convert 3 5 (.tmp 35))) (.one (.pure (some 37) false (.move (.tmp 7))) (.one (.pure (some 38) false (.move (.tmp 8))) (.one (.pure (some 39) false (.binOp .sub 3 (.tmp 37) (.tmp 38) 3)) (.one (.pure (some 40) false (.convert 3 5 (.tmp 39))) (.one (.pure (some 43) false (.move (.tmp 8))) (.one (.pure (some 44) false (.move (.tmp 7))) (.one (.pure (some 45) false (.slice 23 (.tmp 3) (some (.tmp 43)) (some (.tmp 44)) none)) (.one (.eff (some 41) (.buildSlice 25 2 #[(0, .tmp 36), (1, .tmp 40)])) (.one (.eff (some 42) (.call (.mk (.builtin .append) #[.tmp 34, .tmp 41] #[25, 25]))) (.one (.eff (some 46) (.call (.mk (.builtin .append) #[.tmp 42, .tmp 45] #[25, 25]))) (.one (.pure (some 6) false (.assign (.tmp 46))) .done))))))))))))))
abbrev p_delta_Make_9 : PC := (.calm 0 12544 (.calm 1 12676 (.calm 2 12672 (.calm 3 12768 (.calm 4 12768 (.calm 5 12736 (.calm 6 12672 (.calm 9 14336 (.calm 10 14336 (.calm 11 12288 (.act 7 (.act 8 (.act 12 (.calm 13 0 .done))))))))))))))
abbrev g_delta_Make_9 : List Dg := [⟨0, 64, 17179869184, .pure, true⟩, ⟨0, 256, 34359738368, .pure, true⟩, ⟨2, 34359738368, 68719476736, .pure, true⟩, ⟨0, 128, 137438953472, .pure, true⟩, ⟨0, 256, 274877906944, .pure, true⟩, ⟨24, 412316860416, 549755813888, .pure, true⟩, ⟨32, 549755813888, 1099511627776, .pure, true⟩, ⟨68, 1168231104512, 2199023255552, .eff, true⟩, ⟨129, 2216203124736, 4398046511104, .eff, false⟩, ⟨0, 256, 8796093022208, .pure, true⟩, ⟨0, 128, 17592186044416, .pure, true⟩, ⟨1536, 26388279066632, 35184372088832, .pure, true⟩, ⟨2304, 39582418599936, 70368744177664, .eff, false⟩, ⟨8191, 70368744177664, 64, .pure, true⟩]
abbrev q_delta_Make_9 : List Nat := []
def s_delta_Make_4 : List AStep := [.pure (some 11) false (.move (.tmp 7)), .pure (some 12) false (.binOp .add 3 (.tmp 11) (.const (.int .i64 1)) 3), .pure (some 7) false (.assign (.tmp 12))]
abbrev p_delta_Make_4 : List Nat := [0, 1, 2]
def s_delta_Make_10 : List AStep := [.pure (some 47) false (.move (.tmp 6)), .pure (some 48) false (.call (.mk (.builtin .len) #[.tmp 47] #[25])), .pure (some 49) false (.binOp .gtr 3 (.tmp 48) (.const (.int .i64 20)) 3)]
abbrev p_delta_Make_10 : List Nat := [0, 1, 2]
def s_delta_Make_11 : List AStep := [.pure (some 4) false (.assign (.const (.slice none 0 0))), .pure (some 5) false (.assign (.const (.bool false)))]
abbrev p_delta_Make_11 : List Nat := [0, 1]
def s_delta_Make_12 : List AStep := [.pure (some 50) false (.move (.tmp 6)), .pure (some 4) false (.assign (.tmp 50)), .pure (some 5) false (.assign (.const (.bool true)))]
abbrev p_delta_Make_12 : List Nat := [0, 1, 2]

/-! erewhile/erewhileref22.Make -/
abbrev n_ref22_Make : Nat := 11
theorem func_ref22_Make : Try.prog.funcs[n_ref22_Make]? = some Try.f11 := Try.func11
theorem call_ref22_Make : ∀ args w, (callFunc n_ref22_Make args).run Try.prog w = .ok (.enter n_ref22_Make args) w := Try.call11
theorem nt_ref22_Make : Try.f11.ntmps = 72 := Try.ntmps11
theorem rs_ref22_Make : Try.f11.results.toList = [.tmp 4, .tmp 5] := by rw [Try.results11]
def s_ref22_Make_0 : List AStep := [.eff (some 2) (.box 22 (.tmp 0)), .eff (some 3) (.box 22 (.tmp 1)), .pure (some 4) false (.assign (.const (.slice none 0 0))), .pure (some 5) false (.assign (.const (.bool false)))]
abbrev p_ref22_Make_0 : List Nat := [0, 1, 2, 3]
def s_ref22_Make_1 : List AStep := [.pure (some 6) false (.assign (.const (.slice none 0 0)))]
abbrev p_ref22_Make_1 : List Nat := [0]
def s_ref22_Make_2 : List AStep := [.pure (some 7) false (.assign (.const (.int .i64 0)))]
abbrev p_ref22_Make_2 : List Nat := [0]
def s_ref22_Make_3 : List AStep := [.pure (some 9) false (.move (.tmp 7)), .pure (some 10) false (.binOp .lss 3 (.tmp 9) (.const (.int .i64 32)) 3)]
abbrev p_ref22_Make_3 : List Nat := [0, 1]
def s_ref22_Make_5 : SP := (.one (.pure (some 13) false (.move (.tmp 7))) (.one (.pure (some 14) false (.indexAddr 22 (.tmp 2) (.tmp 13))) (.one (.pure (some 16) false (.move (.tmp 7))) (.one (.pure (some 17) false (.indexAddr 22 (.tmp 3) (.tmp 16))) (.one (.read (some 15) false (.load 5 (.tmp 14))) (.one (.read (some 18) false (.load 5 (.tmp 17))) (.one (.pure (some 19) false (.binOp .eql 5 (.tmp 15) (.tmp 18) 5)) (.one (.pure (some 20) true (.move (.tmp 19))) (.one (.guard 20 false (.pure (some 21) false (.move (.tmp 7)))) (.one (.guard 20 false (.pure (some 22) false (.binOp .gtr 3 (.tmp 21) (.const (.int .i64 0)) 3))) (.one (.guard 20 false (.pure (some 23) true (.move (.tmp 22)))) (.one (.guard 23 true (.pure (some 24) false (.move (.tmp 7)))) (.one (.guard 23 true (.pure (some 25) false (.binOp .sub 3 (.tmp 24) (.const (.int .i64 1)) 3))) (.one (.guard 23 true (.pure (some 26) false (.indexAddr 22 (.tmp 2) (.tmp 25)))) (.one (.guard 23 true (.pure (some 28) false (.move (.tmp 7)))) (.one (.guard 23 true (.pure (some 29) false (.binOp .sub 3 (.tmp 28) (.const (.int .i64 1)) 3))) (.one (.guard 23 true (.pure (some 30) false (.indexAddr 22 (.tmp 3) (.tmp 29)))) (.one (.guard 23 true (.read (some 27) false (.load 5 (.tmp 26)))) (.one (.guard 23 true (.read (some 31) false (.load 5 (.tmp 30)))) (.one (.guard 23 true (.pure (some 32) false (.binOp .neq 5 (.tmp 27) (.tmp 31) 5))) (.one (.guard 20 false (.pure (some 33) false (.pick (.tmp 23) (.tmp 32) (.const (.bool false))))) (.one (.pure (some 34) false (.pick (.tmp 20) (.const (.bool true)) (.tmp 33))) .done))))))))))))))))))))))
abbrev p_ref22_Make_5 : PC := (.calm 0 4194246 (.calm 1 4194244 (.calm 3 4194288 (.calm 4 4194272 (.calm 2 4194240 (.calm 5 4194240 (.calm 6 4194176 (.calm 7 4194048 (.calm 8 4193792 (.calm 9 4193280 (.calm 10 4192256 (.calm 11 3698688 (.calm 12 3694592 (.calm 13 3686400 (.calm 15 4128768 (.calm 16 4063232 (.calm 17 3932160 (.calm 14 3670016 (.calm 18 3670016 (.calm 19 3145728 (.calm 20 2097152 (.calm 21 0 .done))))))))))))))))))))))
abbrev g_ref22_Make_5 : List Dg := [⟨0, 128, 8192, .pure, true⟩, ⟨1, 8196, 16384, .pure, true⟩, ⟨2, 16384, 32768, .read, true⟩, ⟨0, 128, 65536, .pure, true⟩, ⟨8, 65544, 131072, .pure, true⟩, ⟨16, 131072, 262144, .read, true⟩, ⟨36, 294912, 524288, .pure, true⟩, ⟨64, 524288, 1048576, .pure, true⟩, ⟨128, 1048704, 2097152, .pure, true⟩, ⟨384, 3145728, 4194304, .pure, true⟩, ⟨640, 5242880, 8388608, .pure, true⟩, ⟨1024, 8388736, 16777216, .pure, true⟩, ⟨3072, 25165824, 33554432, .pure, true⟩, ⟨5120, 41943044, 67108864, .pure, true⟩, ⟨9216, 75497472, 134217728, .read, true⟩, ⟨1024, 8388736, 268435456, .pure, true⟩, ⟨33792, 276824064, 536870912, .pure, true⟩, ⟨66560, 545259528, 1073741824, .pure, true⟩, ⟨132096, 1082130432, 2147483648, .read, true⟩, ⟨279552, 2290089984, 4294967296, .pure, true⟩, ⟨525440, 4304404480, 8589934592, .pure, true⟩, ⟨1048704, 8590983168, 17179869184, .pure, true⟩]
abbrev q_ref22_Make_5 : List Nat := []
def s_ref22_Make_6 : List AStep := [.pure (some 8) false (.assign (.const (.int .i64 0)))]
abbrev p_ref22_Make_6 : List Nat := [0]
def s_ref22_Make_7 : SP := (.one (.pure (some 35) false (.move (.tmp 7))) (.one (.pure (some 36) false (.move (.tmp 8))) (.one (.pure (some 37) false (.binOp .add 3 (.tmp 35) (.tmp 36) 3)) (.one (.pure (some 38) false (.binOp .lss 3 (.tmp 37) (.const (.int .i64 32)) 3)) (.one (.pure (some 39) true (.move (.tmp 38))) (.one (.guard 39 true (.pure (some 40) false (.move (.tmp 7)))) (.one (.guard 39 true (.pure (some 41) false (.move (.tmp 8)))) (.one (.guard 39 true (.pure (some 42) false (.binOp .add 3 (.tmp 40) (.tmp 41) 3))) (.one (.guard 39 true (.pure (some 43) false (.indexAddr 22 (.tmp 2) (.tmp 42)))) (.one (.guard 39 true (.pure (some 45) false (.move (.tmp 7)))) (.one (.guard 39 true (.pure (some 46) false (.move (.tmp 8)))) (.one (.guard 39 true (.pure (some 47) false (.binOp .add 3 (.tmp 45) (.tmp 46) 3))) (.one (.guard 39 true (.pure (some 48) false (.indexAddr 22 (.tmp 3) (.tmp 47)))) (.one (.guard 39 true (.read (some 44) false (.load 5 (.tmp 43)))) (.one (.guard 39 true (.read (some 49) false (.load 5 (.tmp 48)))) (.one (.guard 39 true (.pure (some 50) false (.binOp .neq 5 (.tmp 44) (.tmp 49) 5))) (.one (.pure (some 51) false (.pick (.tmp 39) (.tmp 50) (.const (.bool false)))) .done)))))))))))))))))
abbrev p_ref22_Make_7 : PC := (.calm 0 131068 (.calm 1 131068 (.calm 2 131064 (.calm 3 131056 (.calm 4 131040 (.calm 5 99200 (.calm 6 99200 (.calm 7 99072 (.calm 8 98816 (.calm 10 126976 (.calm 11 126976 (.calm 12 122880 (.calm 13 114688 (.calm 9 98304 (.calm 14 98304 (.calm 15 65536 (.calm 16 0 .done)))))))))))))))))
abbrev g_ref22_Make_7 : List Dg := [⟨0, 128, 34359738368, .pure, true⟩, ⟨0, 256, 68719476736, .pure, true⟩, ⟨3, 103079215104, 137438953472, .pure, true⟩, ⟨4, 137438953472, 274877906944, .pure, true⟩, ⟨8, 274877906944, 549755813888, .pure, true⟩, ⟨16, 549755814016, 1099511627776, .pure, true⟩, ⟨16, 549755814144, 2199023255552, .pure, true⟩, ⟨112, 3848290697216, 4398046511104, .pure, true⟩, ⟨144, 4947802324996, 8796093022208, .pure, true⟩, ⟨272, 9345848836096, 17592186044416, .read, true⟩, ⟨16, 549755814016, 35184372088832, .pure, true⟩, ⟨16, 549755814144, 70368744177664, .pure, true⟩, ⟨3088, 106102872080384, 140737488355328, .pure, true⟩, ⟨4112, 141287244169224, 281474976710656, .pure, true⟩, ⟨8208, 282024732524544, 562949953421312, .read, true⟩, ⟨16912, 581091895279616, 1125899906842624, .pure, true⟩, ⟨32784, 1126449662656512, 2251799813685248, .pure, true⟩]
abbrev q_ref22_Make_7 : List Nat := []
def s_ref22_Make_8 : List AStep := [.pure (some 52) false (.move (.tmp 8)), .pure (some 53) false (.binOp .add 3 (.tmp 52) (.const (.int .i64 1)) 3), .pure (some 8) false (.assign (.tmp 53))]
abbrev p_ref22_Make_8 : List Nat := [0, 1, 2]
def s_ref22_Make_9 : List AStep := [.pure (some 54) false (.move (.tmp 6)), .pure (some 55) false (.move (.tmp 7)), .pure (some 56) false (.convert 3 5 (.tmp 55)), .pure (some 57) false (.move (.tmp 8)), .pure (some 58) false (.convert 3 5 (.tmp 57)), .eff (some 59) (.buildSlice 25 2 #[(0, .tmp 56), (1, .tmp 58)]), .eff (some 60) (.call (.mk (.builtin .append) #[.tmp 54, .tmp 59] #[25, 25])), .pure (some 6) false (.assign (.tmp 60))]
abbrev p_ref22_Make_9 : List Nat := [0, 1, 2, 3, 4, 5, 6, 7]
def s_ref22_Make_10 : List AStep := [.pure (some 61) false (.move (.tmp 6)), .pure (some 62) false (.move (.tmp 7)), .pure (some 63) false (.move (.tmp 7)), .pure (some 64) false (.move (.tmp 8)), .pure (some 65) false (.binOp .add 3 (.tmp 63) (.tmp 64) 3), .pure (some 66) false (.slice 22 (.tmp 3) (some (.tmp 62)) (some (.tmp 65)) none), .eff (some 67) (.call (.mk (.builtin .append) #[.tmp 61, .tmp 66] #[25, 25])), .pure (some 6) false (.assign (.tmp 67))]
abbrev p_ref22_Make_10 : List Nat := [0, 1, 2, 3, 4, 5, 6, 7]
def s_ref22_Make_4 : List AStep := [.pure (some 11) false (.move (.tmp 7)), .pure (some 12) false (.binOp .add 3 (.tmp 11) (.const (.int .i64 1)) 3), .pure (some 7) false (.assign (.tmp 12))]
abbrev p_ref22_Make_4 : List Nat := [0, 1, 2]
def s_ref22_Make_11 : List AStep := [.pure (some 68) false (.move (.tmp 6)), .pure (some 69) false (.call (.mk (.builtin .len) #[.tmp 68] #[25])), .pure (some 70) false (.binOp .gtr 3 (.tmp 69) (.const (.int .i64 20)) 3)]
abbrev p_ref22_Make_11 : List Nat := [0, 1, 2]
def s_ref22_Make_12 : List AStep := [.pure (some 4) false (.assign (.const (.slice none 0 0))), .pure (some 5) false (.assign (.const (.bool false)))]
abbrev p_ref22_Make_12 : List Nat := [0, 1]
def s_ref22_Make_13 : List AStep := [.pure (some 71) false (.move (.tmp 6)), .pure (some 4) false (.assign (.tmp 71)), .pure (some 5) false (.assign (.const (.bool true)))]
abbrev p_ref22_Make_13 : List Nat := [0, 1, 2]

/-! erewhile/erewhileref02.Same -/
abbrev n_ref02_Same : Nat := 12
theorem func_ref02_Same : Try.prog.funcs[n_ref02_Same]? = some Try.f12 := Try.func12
theorem call_ref02_Same : ∀ args w, (callFunc n_ref02_Same args).run Try.prog w = .ok (.enter n_ref02_Same args) w := Try.call12
theorem nt_ref02_Same : Try.f12.ntmps = 26 := Try.ntmps12
theorem rs_ref02_Same : Try.f12.results.toList = [.tmp 4] := by rw [Try.results12]
def s_ref02_Same_0 : List AStep := [.pure (some 4) false (.assign (.const (.bool false)))]
abbrev p_ref02_Same_0 : List Nat := [0]
def s_ref02_Same_1 : List AStep := [.pure (some 6) false (.move (.tmp 0)), .pure (some 7) false (.call (.mk (.builtin .len) #[.tmp 6] #[25])), .pure (some 8) false (.move (.tmp 1)), .pure (some 9) false (.call (.mk (.builtin .len) #[.tmp 8] #[25])), .pure (some 10) false (.binOp .neq 3 (.tmp 7) (.tmp 9) 3)]
abbrev p_ref02_Same_1 : List Nat := [0, 1, 2, 3, 4]
def s_ref02_Same_2 : List AStep := [.pure (some 4) false (.assign (.const (.bool false)))]
abbrev p_ref02_Same_2 : List Nat := [0]
def s_ref02_Same_3 : List AStep := [.pure (some 5) false (.assign (.const (.int .i64 0)))]
abbrev p_ref02_Same_3 : List Nat := [0]
def s_ref02_Same_4 : List AStep := [.pure (some 11) false (.move (.tmp 5)), .pure (some 12) false (.move (.tmp 0)), .pure (some 13) false (.call (.mk (.builtin .len) #[.tmp 12] #[25])), .pure (some 14) false (.binOp .lss 3 (.tmp 11) (.tmp 13) 3)]
abbrev p_ref02_Same_4 : List Nat := [0, 1, 2, 3]
def s_ref02_Same_6 : SP := (.one (.pure (some 17) false (.move (.tmp 0))) (.one (.pure (some 18) false (.move (.tmp 5))) (.one (.pure (some 19) false (.indexAddr 25 (.tmp 17) (.tmp 18))) (.one (.pure (some 21) false (.move (.tmp 1))) (.one (.pure (some 22) false (.move (.tmp 5))) (.one (.pure (some 23) false (.indexAddr 25 (.tmp 21) (.tmp 22))) (.one (.read (some 20) false (.load 5 (.tmp 19))) (.one (.read (some 24) false (.load 5 (.tmp 23))) (.one (.pure (some 25) false (.binOp .neq 5 (.tmp 20) (.tmp 24) 5)) .done)))))))))
abbrev p_ref02_Same_6 : PC := (.calm 0 268 (.calm 1 268 (.calm 2 264 (.calm 4 448 (.calm 5 448 (.calm 6 384 (.calm 3 256 (.calm 7 256 (.calm 8 0 .done)))))))))
abbrev g_ref02_Same_6 : List Dg := [⟨0, 1, 131072, .pure, true⟩, ⟨0, 32, 262144, .pure, true⟩, ⟨3, 393216, 524288, .pure, true⟩, ⟨4, 524288, 1048576, .read, true⟩, ⟨0, 2, 2097152, .pure, true⟩, ⟨0, 32, 4194304, .pure, true⟩, ⟨48, 6291456, 8388608, .pure, true⟩, ⟨64, 8388608, 16777216, .read, true⟩, ⟨136, 17825792, 33554432, .pure, true⟩]
abbrev q_ref02_Same_6 : List Nat := []
def s_ref02_Same_7 : List AStep := [.pure (some 4) false (.assign (.const (.bool false)))]
abbrev p_ref02_Same_7 : List Nat := [0]
def s_ref02_Same_5 : List AStep := [.pure (some 15) false (.move (.tmp 5)), .pure (some 16) false (.binOp .add 3 (.tmp 15) (.const (.int .i64 1)) 3), .pure (some 5) false (.assign (.tmp 16))]
abbrev p_ref02_Same_5 : List Nat := [0, 1, 2]
def s_ref02_Same_8 : List AStep := [.pure (some 4) false (.assign (.const (.bool true)))]
abbrev p_ref02_Same_8 : List Nat := [0]

/-! erewhile/erewhileref22.Unlike -/
abbrev n_ref22_Unlike : Nat := 13
theorem func_ref22_Unlike : Try.prog.funcs[n_ref22_Unlike]? = some Try.f13 := Try.func13
theorem call_ref22_Unlike : ∀ args w, (callFunc n_ref22_Unlike args).run Try.prog w = .ok (.enter n_ref22_Unlike args) w := Try.call13
theorem nt_ref22_Unlike : Try.f13.ntmps = 21 := Try.ntmps13
theorem rs_ref22_Unlike : Try.f13.results.toList = [.tmp 4] := by rw [Try.results13]
def s_ref22_Unlike_0 : List AStep := [.eff (some 2) (.box 22 (.tmp 0)), .eff (some 3) (.box 22 (.tmp 1)), .pure (some 4) false (.assign (.const (.int .i64 0)))]
abbrev p_ref22_Unlike_0 : List Nat := [0, 1, 2]
def s_ref22_Unlike_1 : List AStep := [.pure (some 5) false (.assign (.const (.int .i64 0)))]
abbrev p_ref22_Unlike_1 : List Nat := [0]
def s_ref22_Unlike_2 : List AStep := [.pure (some 6) false (.assign (.const (.int .i64 0)))]
abbrev p_ref22_Unlike_2 : List Nat := [0]
def s_ref22_Unlike_3 : List AStep := [.pure (some 7) false (.move (.tmp 6)), .pure (some 8) false (.binOp .lss 3 (.tmp 7) (.const (.int .i64 32)) 3)]
abbrev p_ref22_Unlike_3 : List Nat := [0, 1]
def s_ref22_Unlike_5 : SP := (.one (.pure (some 11) false (.move (.tmp 6))) (.one (.pure (some 12) false (.indexAddr 22 (.tmp 2) (.tmp 11))) (.one (.pure (some 14) false (.move (.tmp 6))) (.one (.pure (some 15) false (.indexAddr 22 (.tmp 3) (.tmp 14))) (.one (.read (some 13) false (.load 5 (.tmp 12))) (.one (.read (some 16) false (.load 5 (.tmp 15))) (.one (.pure (some 17) false (.binOp .neq 5 (.tmp 13) (.tmp 16) 5)) .done)))))))
abbrev p_ref22_Unlike_5 : PC := (.calm 0 70 (.calm 1 68 (.calm 3 112 (.calm 4 96 (.calm 2 64 (.calm 5 64 (.calm 6 0 .done)))))))
abbrev g_ref22_Unlike_5 : List Dg := [⟨0, 64, 2048, .pure, true⟩, ⟨1, 2052, 4096, .pure, true⟩, ⟨2, 4096, 8192, .read, true⟩, ⟨0, 64, 16384, .pure, true⟩, ⟨8, 16392, 32768, .pure, true⟩, ⟨16, 32768, 65536, .read, true⟩, ⟨36, 73728, 131072, .pure, true⟩]
abbrev q_ref22_Unlike_5 : List Nat := []
def s_ref22_Unlike_6 : List AStep := [.pure (some 18) false (.move (.tmp 5)), .pure (some 19) false (.binOp .add 3 (.tmp 18) (.const (.int .i64 1)) 3), .pure (some 5) false (.assign (.tmp 19))]
abbrev p_ref22_Unlike_6 : List Nat := [0, 1, 2]
def s_ref22_Unlike_4 : List AStep := [.pure (some 9) false (.move (.tmp 6)), .pure (some 10) false (.binOp .add 3 (.tmp 9) (.const (.int .i64 1)) 3), .pure (some 6) false (.assign (.tmp 10))]
abbrev p_ref22_Unlike_4 : List Nat := [0, 1, 2]
def s_ref22_Unlike_7 : List AStep := [.pure (some 20) false (.move (.tmp 5)), .pure (some 4) false (.assign (.tmp 20))]
abbrev p_ref22_Unlike_7 : List Nat := [0, 1]

/-! erewhile/delta.Apply -/
abbrev n_delta_Apply : Nat := 14
theorem func_delta_Apply : Try.prog.funcs[n_delta_Apply]? = some Try.f14 := Try.func14
theorem call_delta_Apply : ∀ args w, (callFunc n_delta_Apply args).run Try.prog w = .ok (.enter n_delta_Apply args) w := Try.call14
theorem nt_delta_Apply : Try.f14.ntmps = 14 := Try.ntmps14
theorem rs_delta_Apply : Try.f14.results.toList = [.cell 4 23, .tmp 5] := by rw [Try.results14]
def s_delta_Apply_0 : List AStep := [.eff (some 2) (.box 23 (.tmp 0)), .eff (some 4) (.alloc 23), .pure (some 5) false (.assign (.const (.int .i64 0)))]
abbrev p_delta_Apply_0 : List Nat := [0, 1, 2]
def s_delta_Apply_1 : List AStep := [.read (some 7) false (.load 23 (.tmp 2)), .eff (some 6) (.alloc 23), .eff none (.store 23 (.tmp 6) (.tmp 7))]
abbrev p_delta_Apply_1 : List Nat := [0, 1, 2]
abbrev q_delta_Apply_2 : List Nat := [1002]
def s_delta_Apply_2 : List AStep := [.pure (some 8) false (.move (.tmp 1)), .pure (some 9) false (.makeFunc (.func 17) #[] #[.tmp 6]), .mcall (some 10) false ⟨.value (.func 16), #[.tmp 8, .tmp 9], #[25, 40]⟩, .pure (some 11) false (.unOp .not 4 (.tmp 10))]
abbrev p_delta_Apply_2 : List Nat := [0, 1, 2, 3]
def s_delta_Apply_3 : List AStep := [.pure (some 12) false (.build 23 #[]), .eff none (.store 23 (.tmp 4) (.tmp 12)), .pure (some 5) false (.assign (.const (.int .i64 3)))]
abbrev p_delta_Apply_3 : List Nat := [0, 1, 2]
def s_delta_Apply_4 : List AStep := [.read (some 13) false (.load 23 (.tmp 6)), .eff none (.store 23 (.tmp 4) (.tmp 13)), .pure (some 5) false (.assign (.const (.int .i64 0)))]
abbrev p_delta_Apply_4 : List Nat := [0, 1, 2]

/-! erewhile/delta.Right -/
abbrev n_delta_Right : Nat := 15
theorem func_delta_Right : Try.prog.funcs[n_delta_Right]? = some Try.f15 := Try.func15
theorem call_delta_Right : ∀ args w, (callFunc n_delta_Right args).run Try.prog w = .ok (.enter n_delta_Right args) w := Try.call15
theorem nt_delta_Right : Try.f15.ntmps = 5 := Try.ntmps15
theorem rs_delta_Right : Try.f15.results.toList = [.tmp 2] := by rw [Try.results15]
def s_delta_Right_0 : List AStep := [.pure (some 2) false (.assign (.const (.bool false)))]
abbrev p_delta_Right_0 : List Nat := [0]
abbrev q_delta_Right_1 : List Nat := [1001]
def s_delta_Right_1 : List AStep := [.pure (some 3) false (.move (.tmp 0)), .mcall (some 4) false ⟨.value (.func 16), #[.tmp 3, .func 18], #[25, 40]⟩, .pure (some 2) false (.assign (.tmp 4))]
abbrev p_delta_Right_1 : List Nat := [0, 1, 2]

/-! erewhile/delta.runs -/
abbrev n_delta_runs : Nat := 16
theorem func_delta_runs : Try.prog.funcs[n_delta_runs]? = some Try.f16 := Try.func16
theorem call_delta_runs : ∀ args w, (callFunc n_delta_runs args).run Try.prog w = .ok (.enter n_delta_runs args) w := Try.call16
theorem nt_delta_runs : Try.f16.ntmps = 60 := Try.ntmps16
theorem rs_delta_runs : Try.f16.results.toList = [.tmp 4] := by rw [Try.results16]
def s_delta_runs_0 : List AStep := [.pure (some 4) false (.assign (.const (.bool false)))]
abbrev p_delta_runs_0 : List Nat := [0]
def s_delta_runs_1 : List AStep := [.pure (some 8) false (.move (.tmp 0)), .pure (some 9) false (.call (.mk (.builtin .len) #[.tmp 8] #[25])), .pure (some 10) false (.binOp .gtr 3 (.tmp 9) (.const (.int .i64 20)) 3)]
abbrev p_delta_runs_1 : List Nat := [0, 1, 2]
def s_delta_runs_2 : List AStep := [.pure (some 4) false (.assign (.const (.bool false)))]
abbrev p_delta_runs_2 : List Nat := [0]
def s_delta_runs_3 : List AStep := [.pure (some 5) false (.assign (.const (.int .i64 0)))]
abbrev p_delta_runs_3 : List Nat := [0]
def s_delta_runs_4 : List AStep := [.pure (some 11) false (.move (.tmp 0)), .pure (some 12) false (.call (.mk (.builtin .len) #[.tmp 11] #[25])), .pure (some 13) false (.binOp .gtr 3 (.tmp 12) (.const (.int .i64 0)) 3)]
abbrev p_delta_runs_4 : List Nat := [0, 1, 2]
def s_delta_runs_5 : List AStep := [.pure (some 14) false (.move (.tmp 0)), .pure (some 15) false (.call (.mk (.builtin .len) #[.tmp 14] #[25])), .pure (some 16) false (.binOp .lss 3 (.tmp 15) (.const (.int .i64 2)) 3)]
abbrev p_delta_runs_5 : List Nat := [0, 1, 2]
def s_delta_runs_6 : List AStep := [.pure (some 4) false (.assign (.const (.bool false)))]
abbrev p_delta_runs_6 : List Nat := [0]
def s_delta_runs_7 : SP := (.one (.pure (some 17) false (.move (.tmp 0))) (.one (.pure (some 18) false (.indexAddr 25 (.tmp 17) (.const (.int .i64 0)))) (.one (.pure (some 21) false (.move (.tmp 0))) (.one (.pure (some 22) false (.indexAddr 25 (.tmp 21) (.const (.int .i64 1)))) (.one (.read (some 19) false (.load 5 (.tmp 18))) (.one (.pure (some 20) false (.convert 5 3 (.tmp 19))) (.one (.pure (some 6) false (.assign (.tmp 20))) (.one (.read (some 23) false (.load 5 (.tmp 22))) (.one (.pure (some 24) false (.convert 5 3 (.tmp 23))) (.one (.pure (some 7) false (.assign (.tmp 24))) .done))))))))))
abbrev p_delta_runs_7 : PC := (.calm 0 782 (.calm 1 780 (.calm 4 736 (.calm 5 704 (.calm 2 776 (.calm 3 768 (.calm 8 512 (.calm 6 640 (.calm 7 512 (.calm 9 0 .done))))))))))
abbrev g_delta_runs_7 : List Dg := [⟨0, 1, 131072, .pure, true⟩, ⟨1, 131072, 262144, .pure, true⟩, ⟨2, 262144, 524288, .read, true⟩, ⟨4, 524288, 1048576, .pure, true⟩, ⟨0, 1, 2097152, .pure, true⟩, ⟨16, 2097152, 4194304, .pure, true⟩, ⟨32, 4194304, 8388608, .read, true⟩, ⟨64, 8388608, 16777216, .pure, true⟩, ⟨15, 1048576, 64, .pure, true⟩, ⟨511, 16777216, 128, .pure, true⟩]
abbrev q_delta_runs_7 : List Nat := []
def s_delta_runs_8 : List AStep := [.pure (some 25) false (.move (.tmp 7)), .pure (some 26) false (.binOp .lss 3 (.tmp 25) (.const (.int .i64 1)) 3), .pure (some 27) true (.move (.tmp 26)), .guard 27 false (.pure (some 28) false (.move (.tmp 7))), .guard 27 false (.pure (some 29) false (.move (.tmp 0))), .guard 27 false (.pure (some 30) false (.call (.mk (.builtin .len) #[.tmp 29] #[25]))), .guard 27 false (.pure (some 31) false (.binOp .sub 3 (.tmp 30) (.const (.int .i64 2)) 3)), .guard 27 false (.pure (some 32) false (.binOp .gtr 3 (.tmp 28) (.tmp 31) 3)), .pure (some 33) false (.pick (.tmp 27) (.const (.bool true)) (.tmp 32)), .pure (some 34) true (.move (.tmp 33)), .guard 34 false (.pure (some 35) false (.move (.tmp 6))), .guard 34 false (.pure (some 36) false (.move (.tmp 5))), .guard 34 false (.pure (some 37) false (.binOp .lss 3 (.tmp 35) (.tmp 36) 3)), .pure (some 38) false (.pick (.tmp 34) (.const (.bool true)) (.tmp 37)), .pure (some 39) true (.move (.tmp 38)), .guard 39 false (.pure (some 40) false (.move (.tmp 6))), .guard 39 false (.pure (some 41) false (.move (.tmp 7))), .guard 39 false (.pure (some 42) false (.binOp .add 3 (.tmp 40) (.tmp 41) 3)), .guard 39 false (.pure (some 43) false (.binOp .gtr 3 (.tmp 42) (.const (.int .i64 32)) 3)), .pure (some 44) false (.pick (.tmp 39) (.const (.bool true)) (.tmp 43))]
abbrev p_delta_runs_8 : List Nat := [0, 1, 2, 3, 4, 5, 6, 7, 8, 9, 10, 11, 12, 13, 14, 15, 16, 17, 18, 19]
def s_delta_runs_9 : List AStep := [.pure (some 4) false (.assign (.const (.bool false)))]
abbrev p_delta_runs_9 : List Nat := [0]
abbrev q_delta_runs_10 : List Nat := [1006]
def s_delta_runs_10 : List AStep := [.pure (some 45) false (.move (.tmp 1)), .pure (some 46) false (.move (.tmp 6)), .pure (some 47) false (.move (.tmp 0)), .pure (some 48) false (.move (.tmp 7)), .pure (some 49) false (.binOp .add 3 (.const (.int .i64 2)) (.tmp 48) 3), .pure (some 50) false (.slice 25 (.tmp 47) (some (.const (.int .i64 2))) (some (.tmp 49)) none), .mcall (some 51) false ⟨.value (.tmp 45), #[.tmp 46, .tmp 50], #[3, 25]⟩]
abbrev p_delta_runs_10 : List Nat := [0, 1, 2, 3, 4, 5, 6]
def s_delta_runs_11 : List AStep := [.pure (some 52) false (.move (.tmp 0)), .pure (some 53) false (.move (.tmp 7)), .pure (some 54) false (.binOp .add 3 (.const (.int .i64 2)) (.tmp 53) 3), .pure (some 55) false (.slice 25 (.tmp 52) (some (.tmp 54)) none none), .pure (some 56) false (.move (.tmp 6)), .pure (some 57) false (.move (.tmp 7)), .pure (some 58) false (.binOp .add 3 (.tmp 56) (.tmp 57) 3), .pure (some 59) false (.binOp .add 3 (.tmp 58) (.const (.int .i64 1)) 3), .pure (some 0) false (.assign (.tmp 55)), .pure (some 5) false (.assign (.tmp 59))]
abbrev p_delta_runs_11 : List Nat := [0, 1, 2, 3, 4, 5, 6, 7, 8, 9]
def s_delta_runs_12 : List AStep := [.pure (some 4) false (.assign (.const (.bool true)))]
abbrev p_delta_runs_12 : List Nat := [0]

/-! erewhile/delta.Apply$1 -/
abbrev n_delta_Apply_1 : Nat := 17
theorem func_delta_Apply_1 : Try.prog.funcs[n_delta_Apply_1]? = some Try.f17 := Try.func17
theorem call_delta_Apply_1 : ∀ args w, (callFunc n_delta_Apply_1 args).run Try.prog w = .ok (.enter n_delta_Apply_1 args) w := Try.call17
theorem nt_delta_Apply_1 : Try.f17.ntmps = 9 := Try.ntmps17
theorem rs_delta_Apply_1 : Try.f17.results.toList = [] := by rw [Try.results17]
def s_delta_Apply_1_0 : List AStep := [.pure (some 5) false (.move (.tmp 0)), .pure (some 6) false (.slice 23 (.tmp 2) (some (.tmp 5)) none none), .pure (some 7) false (.move (.tmp 1)), .eff (some 8) (.call (.mk (.builtin .copy) #[.tmp 6, .tmp 7] #[25, 25]))]
abbrev p_delta_Apply_1_0 : List Nat := [0, 1, 2, 3]

/-! erewhile/delta.Right$1 -/
abbrev n_delta_Right_1 : Nat := 18
theorem func_delta_Right_1 : Try.prog.funcs[n_delta_Right_1]? = some Try.f18 := Try.func18
theorem call_delta_Right_1 : ∀ args w, (callFunc n_delta_Right_1 args).run Try.prog w = .ok (.enter n_delta_Right_1 args) w := Try.call18
theorem nt_delta_Right_1 : Try.f18.ntmps = 4 := Try.ntmps18
theorem rs_delta_Right_1 : Try.f18.results.toList = [] := by rw [Try.results18]

end Go.Proofs.Ytelelglnbopgmaa
