/- The steps of four functions, with calls that change rows of their caller, printed by a program out of the loaded program. -/
import Derived.Test.YthbpflnbgcdmiaaNm
namespace Go.Proofs.Ythbpflnbgcdmiaa.Spy
open Go Go.Proofs.Ythbpflnbgcdmiaa.Sy
set_option linter.unusedVariables false
def s_law21_FingerAsks_0 : List AStep := [.eff (some 2) (.box 23 (.tmp 0)), .pure (some 4) false (.assign (.const (.bool false)))]
abbrev p_law21_FingerAsks_0 : List Nat := [0, 1]
def s_law21_FingerAsks_1 : List AStep := [.call (some 10) false ⟨.value (.func 9), #[], #[]⟩, .pure (some 11) false (.unOp .not 4 (.tmp 10))]
abbrev p_law21_FingerAsks_1 : List Nat := [0, 1]
def s_law21_FingerAsks_2 : List AStep := [.pure (some 4) false (.assign (.const (.bool false)))]
abbrev p_law21_FingerAsks_2 : List Nat := [0]
def s_law21_FingerAsks_3 : List AStep := [.pure (some 12) false (.move (.tmp 1)), .pure (some 13) false (.call (.mk (.builtin .len) #[.tmp 12] #[24])), .pure (some 14) false (.binOp .gtr 3 (.tmp 13) (.const (.int .i64 40)) 3)]
abbrev p_law21_FingerAsks_3 : List Nat := [0, 1, 2]
def s_law21_FingerAsks_4 : List AStep := [.pure (some 4) false (.assign (.const (.bool true)))]
abbrev p_law21_FingerAsks_4 : List Nat := [0]
def s_law21_FingerAsks_5 : List AStep := [.eff (some 5) (.alloc 3), .eff (some 6) (.alloc 3), .eff none (.store 3 (.tmp 5) (.const (.int .i64 0))), .eff none (.store 3 (.tmp 6) (.const (.int .i64 0)))]
abbrev p_law21_FingerAsks_5 : List Nat := [0, 1, 2, 3]
def s_law21_FingerAsks_6 : List AStep := [.pure (some 15) false (.build 54 #[(0, .tmp 5), (1, .tmp 6)]), .pure (some 16) false (.makeInterface 54 (.tmp 15)), .read (some 17) false (.load 23 (.tmp 2)), .call (some 18) false ⟨.value (.func 10), #[.tmp 16, .tmp 17], #[56, 23]⟩, .pure (some 7) false (.assign (.tmp 18))]
abbrev p_law21_FingerAsks_6 : List Nat := [0, 1, 2, 3, 4]
def s_law21_FingerAsks_7 : List AStep := [.pure (some 8) false (.assign (.const (.int .i64 0)))]
abbrev p_law21_FingerAsks_7 : List Nat := [0]
def s_law21_FingerAsks_8 : List AStep := [.pure (some 9) false (.assign (.const (.int .i64 0)))]
abbrev p_law21_FingerAsks_8 : List Nat := [0]
def s_law21_FingerAsks_9 : List AStep := [.pure (some 19) false (.move (.tmp 9)), .pure (some 20) false (.move (.tmp 1)), .pure (some 21) false (.call (.mk (.builtin .len) #[.tmp 20] #[24])), .pure (some 22) false (.binOp .lss 3 (.tmp 19) (.tmp 21) 3)]
abbrev p_law21_FingerAsks_9 : List Nat := [0, 1, 2, 3]
def s_law21_FingerAsks_11 : List AStep := [.pure (some 25) false (.move (.tmp 1)), .pure (some 26) false (.move (.tmp 9)), .pure (some 27) false (.indexAddr 24 (.tmp 25) (.tmp 26)), .pure (some 28) false (.fieldAddr 34 (.tmp 27) 0), .read (some 29) false (.load 4 (.tmp 28))]
abbrev p_law21_FingerAsks_11 : List Nat := [0, 1, 2, 3, 4]
abbrev q_law21_FingerAsks_12 : List Nat := [1006]
def s_law21_FingerAsks_12 : List AStep := [.pure (some 30) false (.move (.tmp 7)), .pure (some 31) false (.move (.tmp 1)), .pure (some 32) false (.move (.tmp 9)), .pure (some 33) false (.indexAddr 24 (.tmp 31) (.tmp 32)), .pure (some 34) false (.fieldAddr 34 (.tmp 33) 1), .read (some 35) false (.load 29 (.tmp 34)), .mcall (some 36) false ⟨.value (.func 11), #[.tmp 30, .tmp 35], #[27, 29]⟩]
abbrev p_law21_FingerAsks_12 : List Nat := [0, 1, 2, 3, 4, 5, 6]
def s_law21_FingerAsks_13 : SP := (.one (.pure (some 37) false (.move (.tmp 7))) (.one (.pure (some 38) false (.move (.tmp 1))) (.one (.pure (some 39) false (.move (.tmp 9))) (.one (.pure (some 40) false (.indexAddr 24 (.tmp 38) (.tmp 39))) (.one (.pure (some 41) false (.fieldAddr 34 (.tmp 40) 1)) (.one (.pure (some 43) false (.move (.tmp 1))) (.one (.pure (some 44) false (.move (.tmp 9))) (.one (.pure (some 45) false (.indexAddr 24 (.tmp 43) (.tmp 44))) (.one (.pure (some 46) false (.fieldAddr 34 (.tmp 45) 2)) (.one (.read (some 42) false (.load 29 (.tmp 41))) (.one (.read (some 47) false (.load 25 (.tmp 46))) (.one (.mcall (some 48) false ⟨.value (.func 13), #[.tmp 37, .tmp 42, .tmp 47], #[27, 29, 25]⟩) .done))))))))))))
abbrev p_law21_FingerAsks_13 : PC := (.calm 0 2048 (.calm 1 2104 (.calm 2 2104 (.calm 3 2096 (.calm 4 2080 (.calm 6 3840 (.calm 7 3840 (.calm 8 3584 (.calm 9 3072 (.calm 5 2048 (.calm 10 2048 (.act 11 .done))))))))))))
abbrev g_law21_FingerAsks_13 : List Dg := [⟨0, 128, 137438953472, .pure, true⟩, ⟨0, 2, 274877906944, .pure, true⟩, ⟨0, 512, 549755813888, .pure, true⟩, ⟨6, 824633720832, 1099511627776, .pure, true⟩, ⟨8, 1099511627776, 2199023255552, .pure, true⟩, ⟨16, 2199023255552, 4398046511104, .read, true⟩, ⟨0, 2, 8796093022208, .pure, true⟩, ⟨0, 512, 17592186044416, .pure, true⟩, ⟨192, 26388279066624, 35184372088832, .pure, true⟩, ⟨256, 35184372088832, 70368744177664, .pure, true⟩, ⟨512, 70368744177664, 140737488355328, .read, true⟩, ⟨1057, 145272973819904, 281474976710656, .call, false⟩]
abbrev q_law21_FingerAsks_13 : List Nat := [1011]
def s_law21_FingerAsks_14 : List AStep := [.pure (some 49) false (.move (.tmp 8)), .pure (some 50) false (.binOp .add 3 (.tmp 49) (.const (.int .i64 1)) 3), .pure (some 8) false (.assign (.tmp 50))]
abbrev p_law21_FingerAsks_14 : List Nat := [0, 1, 2]
abbrev q_law21_FingerAsks_15 : List Nat := [1006]
def s_law21_FingerAsks_15 : List AStep := [.pure (some 51) false (.move (.tmp 7)), .pure (some 52) false (.move (.tmp 1)), .pure (some 53) false (.move (.tmp 9)), .pure (some 54) false (.indexAddr 24 (.tmp 52) (.tmp 53)), .pure (some 55) false (.fieldAddr 34 (.tmp 54) 2), .read (some 56) false (.load 25 (.tmp 55)), .mcall (some 57) false ⟨.value (.func 17), #[.tmp 51, .tmp 56], #[27, 25]⟩]
abbrev p_law21_FingerAsks_15 : List Nat := [0, 1, 2, 3, 4, 5, 6]
def s_law21_FingerAsks_16 : List AStep := [.pure (some 58) false (.move (.tmp 7)), .call (some 59) false ⟨.value (.func 15), #[.tmp 58], #[27]⟩]
abbrev p_law21_FingerAsks_16 : List Nat := [0, 1]
def s_law21_FingerAsks_17 : List AStep := [.pure (some 60) false (.move (.tmp 8)), .pure (some 61) false (.binOp .add 3 (.tmp 60) (.const (.int .i64 1)) 3), .pure (some 8) false (.assign (.tmp 61))]
abbrev p_law21_FingerAsks_17 : List Nat := [0, 1, 2]
def s_law21_FingerAsks_18 : List AStep := [.read (some 62) false (.load 3 (.tmp 5)), .pure (some 63) false (.binOp .neq 3 (.tmp 62) (.const (.int .i64 0)) 3), .pure (some 64) true (.move (.tmp 63)), .guard 64 false (.read (some 65) false (.load 3 (.tmp 6))), .guard 64 false (.pure (some 66) false (.move (.tmp 8))), .guard 64 false (.pure (some 67) false (.binOp .neq 3 (.tmp 65) (.tmp 66) 3)), .pure (some 68) false (.pick (.tmp 64) (.const (.bool true)) (.tmp 67))]
abbrev p_law21_FingerAsks_18 : List Nat := [0, 1, 2, 3, 4, 5, 6]
def s_law21_FingerAsks_19 : List AStep := [.pure (some 4) false (.assign (.const (.bool false)))]
abbrev p_law21_FingerAsks_19 : List Nat := [0]
def s_law21_FingerAsks_10 : List AStep := [.pure (some 23) false (.move (.tmp 9)), .pure (some 24) false (.binOp .add 3 (.tmp 23) (.const (.int .i64 1)) 3), .pure (some 9) false (.assign (.tmp 24))]
abbrev p_law21_FingerAsks_10 : List Nat := [0, 1, 2]
def s_law21_FingerAsks_20 : List AStep := [.pure (some 4) false (.assign (.const (.bool true)))]
abbrev p_law21_FingerAsks_20 : List Nat := [0]

def s_finger_Index_Put_0 : List AStep := [.eff (some 5) (.box 25 (.tmp 2))]
abbrev p_finger_Index_Put_0 : List Nat := [0]
def s_finger_Index_Put_1 : List AStep := [.pure (some 10) false (.move (.tmp 0)), .pure (some 11) false (.binOp .eql 27 (.tmp 10) (.const (.pointer none)) 27)]
abbrev p_finger_Index_Put_1 : List Nat := [0, 1]
abbrev q_finger_Index_Put_2 : List Nat := [1002]
def s_finger_Index_Put_2 : List AStep := [.pure (some 12) false (.move (.tmp 0)), .read (some 13) false (.load 25 (.tmp 5)), .mcall (some 14) false ⟨.value (.func 22), #[.tmp 12, .tmp 13], #[27, 25]⟩, .eff (some 6) (.alloc 48), .eff none (.store 48 (.tmp 6) (.tmp 14))]
abbrev p_finger_Index_Put_2 : List Nat := [0, 1, 2, 3, 4]
abbrev q_finger_Index_Put_3 : List Nat := [1002]
def s_finger_Index_Put_3 : List AStep := [.pure (some 15) false (.move (.tmp 0)), .pure (some 16) false (.move (.tmp 1)), .mcall (some 17) false ⟨.value (.func 11), #[.tmp 15, .tmp 16], #[27, 29]⟩]
abbrev p_finger_Index_Put_3 : List Nat := [0, 1, 2]
def s_finger_Index_Put_4 : List AStep := [.pure (some 18) false (.move (.tmp 0)), .pure (some 19) false (.nilCheck (.tmp 18)), .pure (some 20) false (.fieldAddr 60 (.tmp 19) 2), .read (some 21) false (.load 57 (.tmp 20)), .pure (some 22) false (.binOp .eql 57 (.tmp 21) (.const (.map none)) 57)]
abbrev p_finger_Index_Put_4 : List Nat := [0, 1, 2, 3, 4]
def s_finger_Index_Put_5 : List AStep := [.pure (some 23) false (.move (.tmp 0)), .pure (some 24) false (.move (.tmp 0)), .eff (some 25) (.makeMap 57 none), .eff (some 26) (.makeMap 58 none), .pure (some 27) false (.nilCheck (.tmp 23)), .pure (some 28) false (.fieldAddr 60 (.tmp 27) 2), .eff none (.store 57 (.tmp 28) (.tmp 25)), .pure (some 29) false (.nilCheck (.tmp 24)), .pure (some 30) false (.fieldAddr 60 (.tmp 29) 3), .eff none (.store 58 (.tmp 30) (.tmp 26))]
abbrev p_finger_Index_Put_5 : List Nat := [0, 1, 2, 3, 4, 5, 6, 7, 8, 9]
def s_finger_Index_Put_6 : SP := (.one (.pure (some 31) false (.move (.tmp 0))) (.one (.pure (some 32) false (.nilCheck (.tmp 31))) (.one (.pure (some 33) false (.fieldAddr 60 (.tmp 32) 2)) (.one (.pure (some 35) false (.move (.tmp 1))) (.one (.read (some 34) false (.load 57 (.tmp 33))) (.one (.read (some 36) false (.load 48 (.tmp 6))) (.one (.eff none (.mapUpdate 57 (.tmp 34) (.tmp 35) (.tmp 36))) .done)))))))
abbrev p_finger_Index_Put_6 : PC := (.calm 0 78 (.calm 1 76 (.calm 2 72 (.calm 4 64 (.calm 3 64 (.calm 5 64 (.act 6 .done)))))))
abbrev g_finger_Index_Put_6 : List Dg := [⟨0, 1, 2147483648, .pure, true⟩, ⟨1, 2147483648, 4294967296, .pure, true⟩, ⟨2, 4294967296, 8589934592, .pure, true⟩, ⟨4, 8589934592, 17179869184, .read, true⟩, ⟨0, 2, 34359738368, .pure, true⟩, ⟨0, 64, 68719476736, .read, true⟩, ⟨63, 120259084288, 0, .eff, false⟩]
abbrev q_finger_Index_Put_6 : List Nat := []
def s_finger_Index_Put_7 : SP := (.one (.pure (some 37) false (.move (.tmp 0))) (.one (.pure (some 38) false (.nilCheck (.tmp 37))) (.one (.pure (some 39) false (.fieldAddr 60 (.tmp 38) 3)) (.one (.read (some 40) false (.load 58 (.tmp 39))) (.one (.read (some 41) false (.load 48 (.tmp 6))) (.one (.read (some 42) false (.lookup 58 (.tmp 40) (.tmp 41) false)) (.one (.pure (some 7) false (.assign (.tmp 42))) .done)))))))
abbrev p_finger_Index_Put_7 : PC := (.calm 0 110 (.calm 1 108 (.calm 2 104 (.calm 3 96 (.calm 4 96 (.calm 5 64 (.calm 6 0 .done)))))))
abbrev g_finger_Index_Put_7 : List Dg := [⟨0, 1, 137438953472, .pure, true⟩, ⟨1, 137438953472, 274877906944, .pure, true⟩, ⟨2, 274877906944, 549755813888, .pure, true⟩, ⟨4, 549755813888, 1099511627776, .read, true⟩, ⟨0, 64, 2199023255552, .read, true⟩, ⟨24, 3298534883328, 4398046511104, .read, true⟩, ⟨63, 4398046511104, 128, .pure, true⟩]
abbrev q_finger_Index_Put_7 : List Nat := []
def s_finger_Index_Put_8 : List AStep := [.pure (some 44) false (.move (.tmp 7)), .pure (some 45) false (.move (.tmp 1)), .call (some 46) false ⟨.value (.func 23), #[.tmp 44, .tmp 45], #[41, 29]⟩, .pure (some 43) false (.move (.tmp 46)), .pure (some 47) false (.extract (.tmp 43) 0), .pure (some 48) false (.extract (.tmp 43) 1), .pure (some 8) false (.assign (.tmp 47)), .pure (some 9) false (.assign (.tmp 48))]
abbrev p_finger_Index_Put_8 : List Nat := [0, 1, 2, 3, 4, 5, 6, 7]
def s_finger_Index_Put_9 : SP := (.one (.pure (some 49) false (.move (.tmp 0))) (.one (.pure (some 50) false (.nilCheck (.tmp 49))) (.one (.pure (some 51) false (.fieldAddr 60 (.tmp 50) 3)) (.one (.pure (some 54) false (.move (.tmp 7))) (.one (.pure (some 55) false (.move (.tmp 8))) (.one (.pure (some 56) false (.move (.tmp 1))) (.three (.read (some 52) false (.load 58 (.tmp 51))) (.two (.read (some 53) false (.load 48 (.tmp 6))) (.one (.eff (some 57) (.buildSlice 41 1 #[(0, .tmp 56)])) (.one (.mcall (some 58) false ⟨.value (.func 24), #[.tmp 54, .tmp 55, .tmp 57], #[41, 3, 41]⟩) (.one (.eff none (.mapUpdate 58 (.tmp 52) (.tmp 53) (.tmp 58))) .done))) (.eff (some 57) (.buildSlice 41 1 #[(0, .tmp 56)])) (.two (.read (some 53) false (.load 48 (.tmp 6))) (.one (.mcall (some 58) false ⟨.value (.func 24), #[.tmp 54, .tmp 55, .tmp 57], #[41, 3, 41]⟩) (.one (.eff none (.mapUpdate 58 (.tmp 52) (.tmp 53) (.tmp 58))) .done)) (.mcall (some 58) false ⟨.value (.func 24), #[.tmp 54, .tmp 55, .tmp 57], #[41, 3, 41]⟩) (.one (.read (some 53) false (.load 48 (.tmp 6))) (.one (.eff none (.mapUpdate 58 (.tmp 52) (.tmp 53) (.tmp 58))) .done)))) (.read (some 53) false (.load 48 (.tmp 6))) (.two (.read (some 52) false (.load 58 (.tmp 51))) (.one (.eff (some 57) (.buildSlice 41 1 #[(0, .tmp 56)])) (.one (.mcall (some 58) false ⟨.value (.func 24), #[.tmp 54, .tmp 55, .tmp 57], #[41, 3, 41]⟩) (.one (.eff none (.mapUpdate 58 (.tmp 52) (.tmp 53) (.tmp 58))) .done))) (.eff (some 57) (.buildSlice 41 1 #[(0, .tmp 56)])) (.two (.read (some 52) false (.load 58 (.tmp 51))) (.one (.mcall (some 58) false ⟨.value (.func 24), #[.tmp 54, .tmp 55, .tmp 57], #[41, 3, 41]⟩) (.one (.eff none (.mapUpdate 58 (.tmp 52) (.tmp 53) (.tmp 58))) .done)) (.mcall (some 58) false ⟨.value (.func 24), #[.tmp 54, .tmp 55, .tmp 57], #[41, 3, 41]⟩) (.one (.read (some 52) false (.load 58 (.tmp 51))) (.one (.eff none (.mapUpdate 58 (.tmp 52) (.tmp 53) (.tmp 58))) .done)))) (.eff (some 57) (.buildSlice 41 1 #[(0, .tmp 56)])) (.three (.read (some 52) false (.load 58 (.tmp 51))) (.two (.read (some 53) false (.load 48 (.tmp 6))) (.one (.mcall (some 58) false ⟨.value (.func 24), #[.tmp 54, .tmp 55, .tmp 57], #[41, 3, 41]⟩) (.one (.eff none (.mapUpdate 58 (.tmp 52) (.tmp 53) (.tmp 58))) .done)) (.mcall (some 58) false ⟨.value (.func 24), #[.tmp 54, .tmp 55, .tmp 57], #[41, 3, 41]⟩) (.one (.read (some 53) false (.load 48 (.tmp 6))) (.one (.eff none (.mapUpdate 58 (.tmp 52) (.tmp 53) (.tmp 58))) .done))) (.read (some 53) false (.load 48 (.tmp 6))) (.two (.read (some 52) false (.load 58 (.tmp 51))) (.one (.mcall (some 58) false ⟨.value (.func 24), #[.tmp 54, .tmp 55, .tmp 57], #[41, 3, 41]⟩) (.one (.eff none (.mapUpdate 58 (.tmp 52) (.tmp 53) (.tmp 58))) .done)) (.mcall (some 58) false ⟨.value (.func 24), #[.tmp 54, .tmp 55, .tmp 57], #[41, 3, 41]⟩) (.one (.read (some 52) false (.load 58 (.tmp 51))) (.one (.eff none (.mapUpdate 58 (.tmp 52) (.tmp 53) (.tmp 58))) .done))) (.mcall (some 58) false ⟨.value (.func 24), #[.tmp 54, .tmp 55, .tmp 57], #[41, 3, 41]⟩) (.one (.read (some 52) false (.load 58 (.tmp 51))) (.one (.read (some 53) false (.load 48 (.tmp 6))) (.one (.eff none (.mapUpdate 58 (.tmp 52) (.tmp 53) (.tmp 58))) .done)))))))))))
abbrev p_finger_Index_Put_9 : PC := (.calm 0 1038 (.calm 1 1036 (.calm 2 1032 (.calm 5 1536 (.calm 6 1536 (.calm 7 1792 (.tri 3 (.fork 4 (.act 8 (.act 9 (.act 10 .done))) 8 (.fork 4 (.act 9 (.act 10 .done)) 9 (.calm 4 1024 (.act 10 .done)))) 4 (.fork 3 (.act 8 (.act 9 (.act 10 .done))) 8 (.fork 3 (.act 9 (.act 10 .done)) 9 (.calm 3 1024 (.act 10 .done)))) 8 (.tri 3 (.fork 4 (.act 9 (.act 10 .done)) 9 (.calm 4 1024 (.act 10 .done))) 4 (.fork 3 (.act 9 (.act 10 .done)) 9 (.calm 3 1024 (.act 10 .done))) 9 (.calm 3 1024 (.calm 4 1024 (.act 10 .done)))))))))))
abbrev g_finger_Index_Put_9 : List Dg := [⟨0, 1, 562949953421312, .pure, true⟩, ⟨1, 562949953421312, 1125899906842624, .pure, true⟩, ⟨2, 1125899906842624, 2251799813685248, .pure, true⟩, ⟨4, 2251799813685248, 4503599627370496, .read, true⟩, ⟨0, 64, 9007199254740992, .read, true⟩, ⟨0, 128, 18014398509481984, .pure, true⟩, ⟨0, 256, 36028797018963968, .pure, true⟩, ⟨0, 2, 72057594037927936, .pure, true⟩, ⟨128, 72057594037927936, 144115188075855872, .eff, true⟩, ⟨352, 198158383604301824, 288230376151711744, .call, false⟩, ⟨1023, 301741175033823232, 0, .eff, false⟩]
abbrev q_finger_Index_Put_9 : List Nat := [1009]

def s_finger_Index_Find_0 : List AStep := [.eff (some 3) (.box 25 (.tmp 1)), .pure (some 4) false (.assign (.const (.slice none 0 0)))]
abbrev p_finger_Index_Find_0 : List Nat := [0, 1]
def s_finger_Index_Find_1 : List AStep := [.pure (some 5) false (.move (.tmp 0)), .pure (some 6) false (.binOp .eql 27 (.tmp 5) (.const (.pointer none)) 27)]
abbrev p_finger_Index_Find_1 : List Nat := [0, 1]
def s_finger_Index_Find_2 : List AStep := [.pure (some 4) false (.assign (.const (.slice none 0 0)))]
abbrev p_finger_Index_Find_2 : List Nat := [0]
def s_finger_Index_Find_3 : SP := (.one (.pure (some 7) false (.move (.tmp 0))) (.one (.pure (some 8) false (.nilCheck (.tmp 7))) (.one (.pure (some 9) false (.fieldAddr 60 (.tmp 8) 3)) (.one (.pure (some 11) false (.move (.tmp 0))) (.one (.read (some 12) false (.load 25 (.tmp 3))) (.two (.read (some 10) false (.load 58 (.tmp 9))) (.one (.mcall (some 13) false ⟨.value (.func 22), #[.tmp 11, .tmp 12], #[27, 25]⟩) (.one (.read (some 14) false (.lookup 58 (.tmp 10) (.tmp 13) false)) (.one (.call (some 15) false ⟨.value (.func 25), #[.tmp 14], #[41]⟩) (.one (.pure (some 4) false (.assign (.tmp 15))) .done)))) (.mcall (some 13) false ⟨.value (.func 22), #[.tmp 11, .tmp 12], #[27, 25]⟩) (.one (.read (some 10) false (.load 58 (.tmp 9))) (.one (.read (some 14) false (.lookup 58 (.tmp 10) (.tmp 13) false)) (.one (.call (some 15) false ⟨.value (.func 25), #[.tmp 14], #[41]⟩) (.one (.pure (some 4) false (.assign (.tmp 15))) .done))))))))))
abbrev p_finger_Index_Find_3 : PC := (.calm 0 910 (.calm 1 908 (.calm 2 904 (.calm 4 960 (.calm 5 960 (.fork 3 (.act 6 (.calm 7 768 (.act 8 (.calm 9 0 .done)))) 6 (.calm 3 896 (.calm 7 768 (.act 8 (.calm 9 0 .done))))))))))
abbrev g_finger_Index_Find_3 : List Dg := [⟨0, 1, 128, .pure, true⟩, ⟨1, 128, 256, .pure, true⟩, ⟨2, 256, 512, .pure, true⟩, ⟨4, 512, 1024, .read, true⟩, ⟨0, 1, 2048, .pure, true⟩, ⟨0, 8, 4096, .read, true⟩, ⟨48, 6144, 8192, .call, false⟩, ⟨72, 9216, 16384, .read, true⟩, ⟨192, 16384, 32768, .call, true⟩, ⟨511, 32768, 16, .pure, true⟩]
abbrev q_finger_Index_Find_3 : List Nat := [1006]

def s_finger_Index_sum_0 : List AStep := [.eff (some 3) (.box 25 (.tmp 1)), .eff (some 4) (.alloc 48)]
abbrev p_finger_Index_sum_0 : List Nat := [0, 1]
def s_finger_Index_sum_1 : List AStep := [.pure (some 5) false (.move (.tmp 0)), .pure (some 6) false (.nilCheck (.tmp 5)), .pure (some 7) false (.fieldAddr 60 (.tmp 6) 0), .read (some 8) false (.load 56 (.tmp 7)), .pure (some 9) false (.binOp .eql 56 (.tmp 8) (.const .nilIface) 56)]
abbrev p_finger_Index_sum_1 : List Nat := [0, 1, 2, 3, 4]
def s_finger_Index_sum_2 : List AStep := [.pure (some 10) false (.build 48 #[]), .eff none (.store 48 (.tmp 4) (.tmp 10))]
abbrev p_finger_Index_sum_2 : List Nat := [0, 1]
def s_finger_Index_sum_3 : SP := (.one (.pure (some 11) false (.move (.tmp 0))) (.one (.pure (some 12) false (.nilCheck (.tmp 11))) (.one (.pure (some 13) false (.fieldAddr 60 (.tmp 12) 0)) (.one (.pure (some 15) false (.move (.tmp 0))) (.one (.pure (some 16) false (.nilCheck (.tmp 15))) (.one (.pure (some 17) false (.fieldAddr 60 (.tmp 16) 1)) (.one (.pure (some 19) false (.slice 25 (.tmp 3) none none none)) (.one (.read (some 14) false (.load 56 (.tmp 13))) (.one (.pure (some 20) false (.nilCheck (.tmp 14))) (.one (.pure (some 21) false (.move (.tmp 14))) (.one (.read (some 18) false (.load 23 (.tmp 17))) (.one (.mcall (some 22) false ⟨.invoke (.tmp 21) "Sum", #[.tmp 18, .tmp 19], #[23, 50]⟩) (.one (.eff none (.store 48 (.tmp 4) (.tmp 22))) .done)))))))))))))
abbrev p_finger_Index_sum_3 : PC := (.calm 0 7694 (.calm 1 7692 (.calm 2 7688 (.calm 4 6368 (.calm 5 6336 (.calm 6 6272 (.calm 8 6144 (.calm 3 7680 (.calm 9 7168 (.calm 10 6144 (.calm 7 6144 (.act 11 (.act 12 .done)))))))))))))
abbrev g_finger_Index_sum_3 : List Dg := [⟨0, 1, 2048, .pure, true⟩, ⟨1, 2048, 4096, .pure, true⟩, ⟨2, 4096, 8192, .pure, true⟩, ⟨4, 8192, 16384, .read, true⟩, ⟨0, 1, 32768, .pure, true⟩, ⟨16, 32768, 65536, .pure, true⟩, ⟨32, 65536, 131072, .pure, true⟩, ⟨64, 131072, 262144, .read, true⟩, ⟨0, 8, 524288, .pure, true⟩, ⟨8, 16384, 1048576, .pure, true⟩, ⟨520, 16384, 2097152, .pure, true⟩, ⟨1408, 2883584, 4194304, .call, false⟩, ⟨4095, 4194320, 0, .eff, false⟩]
abbrev q_finger_Index_sum_3 : List Nat := [1011]

end Go.Proofs.Ythbpflnbgcdmiaa.Spy
