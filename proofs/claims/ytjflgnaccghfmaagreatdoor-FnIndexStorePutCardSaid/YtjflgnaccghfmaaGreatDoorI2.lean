/- The law FnIndexStorePut of the package laws answers true for every code of bytes and leaves it as it is: the abstract interpreter of the program, the printed functions and proofs, the laws of the data, the statement (part 4 of the proof). Conditions: none but what the row lists. -/
import Derived.Test.YtjflgnaccghfmaaGreatDoorI1
set_option linter.unusedVariables false
set_option linter.unusedSimpArgs false
section
namespace Go.Ab
open Go
set_option maxRecDepth 100000
set_option maxHeartbeats 4000000
set_option linter.unusedVariables false
set_option linter.unusedSimpArgs false
def C.spec_at : ACode := (.seq (.reg [ zA 2 (.box 10 (.t 0)), zA 4 (.alloc 11 [.c (.lit (.int .i64 0)), .c (.lit (.int .i64 0)), .c (.str []), .nsl 1, .nsl 5]), zA 5 (.mv (.k (.c (.lit (.bool false)))))] [1, 2, 4]) (.seq (.seq (.reg [ zA 6 (.mv (.k (.c (.lit (.int .i64 0)))))] [1, 2, 4, 6]) (.block 0 (.loop (.seq (.seq (.reg [ zM 8 6, zM 9 1, zA 10 (.len (.t 9)), zA 11 (.bin .lss (.t 8) (.t 10))] [1, 2, 4, 6, 11]) (.cond (.t 11) .skip (.exit 0))) (.seq (.block 1 (.seq (.regD [ (zA 14 (.load true 5 (.t 2)), []), (zM 15 1, []), (zM 16 6, []), (zA 17 (.iaddr 1 (.t 15) (.t 16)), [1, 2]), (zA 18 (.load false 1 (.t 17)), [1, 2, 3]), (⟨none, some 19, .call 89 [.t 14, .t 18]⟩, [0, 1, 2, 3, 4]), (zM 7 19, [0, 1, 2, 3, 4, 5])] [1, 2, 4, 6, 7]) (.seq (.seq (.reg [ zM 20 7, zA 21 (.bin .lss (.t 20) (.k (.c (.lit (.int .i64 0)))))] [1, 2, 4, 6, 7, 21]) (.cond (.t 21) (.seq (.reg [ zA 22 (.build [.c (.lit (.int .i64 0)), .c (.lit (.int .i64 0)), .c (.str []), .nsl 1, .nsl 5] []), zS (.store true 5 (.t 4) (.t 22)), zA 5 (.mv (.k (.c (.lit (.bool false)))))] [4, 5]) .ret) .skip)) (.reg [ zA 23 (.faddr 4 (.t 2)), zA 24 (.load false 1 (.t 23)), zM 25 7, zA 26 (.iaddr 5 (.t 24) (.t 25)), zA 27 (.load true 5 (.t 26)), zS (.store true 5 (.t 2) (.t 27))] [1, 2, 4, 6])))) (.reg [ zM 12 6, zA 13 (.bin .add (.t 12) (.k (.c (.lit (.int .i64 1))))), zM 6 13] [1, 2, 4, 6])))))) (.seq (.reg [ zA 28 (.load true 5 (.t 2)), ⟨none, some 29, .call 88 [.t 28]⟩, zS (.store true 5 (.t 4) (.t 29)), zA 5 (.mv (.k (.c (.lit (.bool true)))))] [4, 5]) .ret)))
theorem K.spec_at : chkF Go.Proofs.Tryz.prog 115 2 0 C.spec_at [.cell 4 true 5, .tmp 5] = true := by kernel_rfl
def C.spec_toInt : ACode := (.seq (.reg [ zA 2 (.mv (.k (.c (.lit (.int .i64 0)))))] [0]) (.seq (.seq (.reg [ zM 3 0] [3]) (.cond (.t 3) (.seq (.reg [ zA 2 (.mv (.k (.c (.lit (.int .i64 1)))))] [2]) .ret) .skip)) (.seq (.reg [ zA 2 (.mv (.k (.c (.lit (.int .i64 0)))))] [2]) .ret)))
theorem K.spec_toInt : chkF Go.Proofs.Tryz.prog 198 1 0 C.spec_toInt [.tmp 2] = true := by kernel_rfl
def C.spec_order : ACode := (.seq (.reg [ zA 4 (.mv (.k (.c (.lit (.int .i64 0)))))] [0, 1]) (.seq (.reg [ zM 5 0, zM 6 1, zA 7 (.bin .gtr (.t 5) (.t 6)), ⟨none, some 8, .call 198 [.t 7]⟩, zM 9 0, zM 10 1, zA 11 (.bin .lss (.t 9) (.t 10)), ⟨none, some 12, .call 198 [.t 11]⟩, zA 13 (.bin .sub (.t 8) (.t 12)), zM 4 13] [4]) .ret))
theorem K.spec_order : chkF Go.Proofs.Tryz.prog 166 2 0 C.spec_order [.tmp 4] = true := by kernel_rfl
def C.spec_orderText : ACode := (.seq (.reg [ zA 4 (.mv (.k (.c (.lit (.int .i64 0)))))] [0, 1]) (.seq (.reg [ zM 5 0, zM 6 1, zA 7 (.bin .gtr (.t 5) (.t 6)), ⟨none, some 8, .call 198 [.t 7]⟩, zM 9 0, zM 10 1, zA 11 (.bin .lss (.t 9) (.t 10)), ⟨none, some 12, .call 198 [.t 11]⟩, zA 13 (.bin .sub (.t 8) (.t 12)), zM 4 13] [4]) .ret))
theorem K.spec_orderText : chkF Go.Proofs.Tryz.prog 167 2 0 C.spec_orderText [.tmp 4] = true := by kernel_rfl
def C.spec_compare : ACode := (.seq (.reg [ zA 2 (.box 10 (.t 0)), zA 3 (.box 11 (.t 1)), zA 4 (.mv (.k (.c (.lit (.int .i64 0)))))] [2, 3]) (.seq (.seq (.reg [ zA 7 (.faddr 0 (.t 2)), zA 8 (.load false 1 (.t 7)), zA 9 (.faddr 0 (.t 3)), zA 10 (.load false 1 (.t 9)), zA 11 (.bin .neq (.t 8) (.t 10))] [2, 3, 11]) (.cond (.t 11) (.seq (.reg [ zA 12 (.faddr 0 (.t 2)), zA 13 (.load false 1 (.t 12)), zA 14 (.faddr 0 (.t 3)), zA 15 (.load false 1 (.t 14)), ⟨none, some 16, .call 166 [.t 13, .t 15]⟩, zM 4 16] [4]) .ret) .skip)) (.seq (.seq (.reg [ zA 17 (.faddr 1 (.t 2)), zA 18 (.load false 1 (.t 17)), zA 19 (.faddr 1 (.t 3)), zA 20 (.load false 1 (.t 19)), zA 21 (.bin .neq (.t 18) (.t 20))] [2, 3, 21]) (.cond (.t 21) (.seq (.reg [ zA 22 (.faddr 1 (.t 2)), zA 23 (.load false 1 (.t 22)), zA 24 (.faddr 1 (.t 3)), zA 25 (.load false 1 (.t 24)), ⟨none, some 26, .call 166 [.t 23, .t 25]⟩, zM 4 26] [4]) .ret) .skip)) (.seq (.seq (.reg [ zA 27 (.faddr 2 (.t 2)), zA 28 (.load false 1 (.t 27)), zA 29 (.faddr 2 (.t 3)), zA 30 (.load false 1 (.t 29)), zA 31 (.bin .neq (.t 28) (.t 30))] [2, 3, 31]) (.cond (.t 31) (.seq (.reg [ zA 32 (.faddr 2 (.t 2)), zA 33 (.load false 1 (.t 32)), zA 34 (.faddr 2 (.t 3)), zA 35 (.load false 1 (.t 34)), ⟨none, some 36, .call 167 [.t 33, .t 35]⟩, zM 4 36] [4]) .ret) .skip)) (.seq (.seq (.reg [ zA 5 (.mv (.k (.c (.lit (.int .i64 0)))))] [2, 3, 5]) (.block 0 (.loop (.seq (.seq (.reg [ zM 37 5, zA 38 (.faddr 4 (.t 2)), zA 39 (.load false 1 (.t 38)), zA 40 (.len (.t 39)), zA 41 (.bin .lss (.t 37) (.t 40)), zM 42 41, zG 42 true 43 (.mv (.t 5)), zG 42 true 44 (.faddr 4 (.t 3)), zG 42 true 45 (.load false 1 (.t 44)), zG 42 true 46 (.len (.t 45)), zG 42 true 47 (.bin .lss (.t 43) (.t 46)), zA 48 (.pick (.t 42) (.t 47) (.k (.c (.lit (.bool false)))))] [2, 3, 5, 48]) (.cond (.t 48) .skip (.exit 0))) (.seq (.block 1 (.seq (.seq (.regD [ (zA 51 (.faddr 0 (.t 2)), []), (zA 52 (.load false 1 (.t 51)), [0]), (zA 53 (.bin .eql (.t 52) (.k (.c (.lit (.int .i64 4))))), [0, 1]), (zM 54 53, [0, 1, 2]), (zG 54 true 55 (.faddr 3 (.t 2)), [0, 1, 2, 3]), (zG 54 true 56 (.load false 1 (.t 55)), [0, 1, 2, 3, 4]), (zG 54 true 57 (.mv (.t 5)), [0, 1, 2, 3]), (zG 54 true 58 (.iaddr 1 (.t 56) (.t 57)), [0, 1, 2, 3, 4, 5, 6]), (zG 54 true 59 (.load false 1 (.t 58)), [0, 1, 2, 3, 4, 5, 6, 7]), (zG 54 true 60 (.faddr 3 (.t 3)), [0, 1, 2, 3]), (zG 54 true 61 (.load false 1 (.t 60)), [0, 1, 2, 3, 9]), (zG 54 true 62 (.mv (.t 5)), [0, 1, 2, 3]), (zG 54 true 63 (.iaddr 1 (.t 61) (.t 62)), [0, 1, 2, 3, 9, 10, 11]), (zG 54 true 64 (.load false 1 (.t 63)), [0, 1, 2, 3, 9, 10, 11, 12]), (zG 54 true 65 (.bin .neq (.t 59) (.t 64)), [0, 1, 2, 3, 4, 5, 6, 7, 8, 9, 10, 11, 12, 13]), (zA 66 (.pick (.t 54) (.t 65) (.k (.c (.lit (.bool false))))), [0, 1, 2, 3, 4, 5, 6, 7, 8, 9, 10, 11, 12, 13, 14])] [2, 3, 5, 66]) (.cond (.t 66) (.seq (.regD [ (zA 67 (.faddr 3 (.t 2)), []), (zA 68 (.load false 1 (.t 67)), [0]), (zM 69 5, []), (zA 70 (.iaddr 1 (.t 68) (.t 69)), [0, 1, 2]), (zA 71 (.load false 1 (.t 70)), [0, 1, 2, 3]), (zA 72 (.faddr 3 (.t 3)), []), (zA 73 (.load false 1 (.t 72)), [5]), (zM 74 5, []), (zA 75 (.iaddr 1 (.t 73) (.t 74)), [5, 6, 7]), (zA 76 (.load false 1 (.t 75)), [5, 6, 7, 8]), (⟨none, some 77, .call 167 [.t 71, .t 76]⟩, [0, 1, 2, 3, 4, 5, 6, 7, 8, 9]), (zM 4 77, [0, 1, 2, 3, 4, 5, 6, 7, 8, 9, 10])] [4]) .ret) .skip)) (.seq (.regD [ (zA 78 (.faddr 4 (.t 2)), []), (zA 79 (.load false 1 (.t 78)), [0]), (zM 80 5, []), (zA 81 (.iaddr 5 (.t 79) (.t 80)), [0, 1, 2]), (zA 82 (.load true 5 (.t 81)), [0, 1, 2, 3]), (zA 83 (.faddr 4 (.t 3)), []), (zA 84 (.load false 1 (.t 83)), [5]), (zM 85 5, []), (zA 86 (.iaddr 5 (.t 84) (.t 85)), [5, 6, 7]), (zA 87 (.load true 5 (.t 86)), [5, 6, 7, 8]), (⟨none, some 88, .call 116 [.t 82, .t 87]⟩, [0, 1, 2, 3, 4, 5, 6, 7, 8, 9]), (zM 6 88, [0, 1, 2, 3, 4, 5, 6, 7, 8, 9, 10])] [2, 3, 5, 6]) (.seq (.reg [ zM 89 6, zA 90 (.bin .neq (.t 89) (.k (.c (.lit (.int .i64 0)))))] [2, 3, 5, 6, 90]) (.cond (.t 90) (.seq (.reg [ zM 91 6, zM 4 91] [4]) .ret) .skip))))) (.reg [ zM 49 5, zA 50 (.bin .add (.t 49) (.k (.c (.lit (.int .i64 1))))), zM 5 50] [2, 3, 5])))))) (.seq (.reg [ zA 92 (.faddr 4 (.t 2)), zA 93 (.load false 1 (.t 92)), zA 94 (.len (.t 93)), zA 95 (.faddr 4 (.t 3)), zA 96 (.load false 1 (.t 95)), zA 97 (.len (.t 96)), ⟨none, some 98, .call 166 [.t 94, .t 97]⟩, zM 4 98] [4]) .ret))))))
theorem K.spec_compare : chkF Go.Proofs.Tryz.prog 116 2 0 C.spec_compare [.tmp 4] = true := by kernel_rfl
def C.spec_entries : ACode := (.seq (.reg [ zA 2 (.box 10 (.t 0)), zA 4 (.mv (.k (.nsl 6)))] [1, 2]) (.seq (.reg [ zA 11 (.bslice 11 6 0 [.lit (.int .i64 0), .lit (.int .i64 0), .str [], .sl 1 [], .sl 5 [], .str []] []), zM 5 11] [1, 2, 5]) (.seq (.seq (.reg [ zA 6 (.mv (.k (.c (.lit (.int .i64 0)))))] [1, 2, 5, 6]) (.block 0 (.loop (.seq (.seq (.reg [ zM 12 6, zA 13 (.faddr 0 (.t 2)), zA 14 (.load false 1 (.t 13)), zA 15 (.len (.t 14)), zA 16 (.bin .lss (.t 12) (.t 15))] [1, 2, 5, 6, 16]) (.cond (.t 16) .skip (.exit 0))) (.seq (.block 1 (.seq (.reg [ zA 20 (.faddr 0 (.t 2)), zA 21 (.load false 1 (.t 20)), zM 22 6, zA 23 (.iaddr 7 (.t 21) (.t 22)), zA 24 (.faddr 2 (.t 23)), zA 25 (.load true 5 (.t 24)), zM 26 1, ⟨none, some 27, .call 115 [.t 25, .t 26]⟩, zM 19 27, zA 28 (.extract (.t 19) 0), zA 29 (.extract (.t 19) 1), zA 7 (.alloc 12 [.c (.lit (.int .i64 0)), .c (.lit (.int .i64 0)), .c (.str []), .nsl 1, .nsl 5]), zS (.store true 5 (.t 7) (.t 28)), zM 8 29] [1, 2, 5, 6, 7, 8]) (.seq (.seq (.reg [ zM 30 8, zA 31 (.not (.t 30))] [1, 2, 5, 6, 7, 31]) (.cond (.t 31) (.exit 1) .skip)) (.seq (.regD [ (zM 32 5, []), (zA 33 (.load true 5 (.t 7)), []), (zA 34 (.faddr 0 (.t 2)), []), (zA 35 (.load false 1 (.t 34)), [2]), (zM 36 6, []), (zA 37 (.iaddr 7 (.t 35) (.t 36)), [2, 3, 4]), (zA 38 (.faddr 0 (.t 37)), [2, 3, 4, 5]), (zA 39 (.load false 1 (.t 38)), [2, 3, 4, 5, 6]), (zA 40 (.build [.c (.lit (.int .i64 0)), .c (.lit (.int .i64 0)), .c (.str []), .nsl 1, .nsl 5, .c (.str [])] [(0, 5, .t 33), (5, 1, .t 39)]), [1, 2, 3, 4, 5, 6, 7]), (zA 41 (.bslice 13 6 1 [.lit (.int .i64 0), .lit (.int .i64 0), .str [], .sl 1 [], .sl 5 [], .str []] [(0, .t 40)]), [1, 2, 3, 4, 5, 6, 7, 8]), (zA 42 (.append 14 6 96 (.t 32) (.t 41)), [0, 1, 2, 3, 4, 5, 6, 7, 8, 9]), (zM 5 42, [0, 1, 2, 3, 4, 5, 6, 7, 8, 9, 10])] [1, 2, 5, 6]) (.seq (.reg [ zM 43 5, zA 44 (.len (.t 43)), zA 45 (.bin .sub (.t 44) (.k (.c (.lit (.int .i64 1))))), zM 9 45] [1, 2, 5, 6, 9]) (.block 2 (.loop (.seq (.seq (.regD [ (zM 46 9, []), (zA 47 (.bin .gtr (.t 46) (.k (.c (.lit (.int .i64 0))))), [0]), (zM 48 47, [0, 1]), (zG 48 true 49 (.mv (.t 5)), [0, 1, 2]), (zG 48 true 50 (.mv (.t 9)), [0, 1, 2]), (zG 48 true 51 (.iaddr 6 (.t 49) (.t 50)), [0, 1, 2, 3, 4]), (zG 48 true 52 (.faddr 0 (.t 51)), [0, 1, 2, 3, 4, 5]), (zG 48 true 53 (.load true 5 (.t 52)), [0, 1, 2, 3, 4, 5, 6]), (zG 48 true 54 (.mv (.t 5)), [0, 1, 2]), (zG 48 true 55 (.mv (.t 9)), [0, 1, 2]), (zG 48 true 56 (.bin .sub (.t 55) (.k (.c (.lit (.int .i64 1))))), [0, 1, 2, 9]), (zG 48 true 57 (.iaddr 6 (.t 54) (.t 56)), [0, 1, 2, 8, 9, 10]), (zG 48 true 58 (.faddr 0 (.t 57)), [0, 1, 2, 8, 9, 10, 11]), (zG 48 true 59 (.load true 5 (.t 58)), [0, 1, 2, 8, 9, 10, 11, 12]), (⟨(some (48, true)), some 60, .call 116 [.t 53, .t 59]⟩, [0, 1, 2, 3, 4, 5, 6, 7, 8, 9, 10, 11, 12, 13]), (zG 48 true 61 (.bin .lss (.t 60) (.k (.c (.lit (.int .i64 0))))), [0, 1, 2, 3, 4, 5, 6, 7, 8, 9, 10, 11, 12, 13, 14]), (zA 62 (.pick (.t 48) (.t 61) (.k (.c (.lit (.bool false))))), [0, 1, 2, 3, 4, 5, 6, 7, 8, 9, 10, 11, 12, 13, 14, 15])] [1, 2, 5, 6, 9, 62]) (.cond (.t 62) .skip (.exit 2))) (.seq (.block 3 (.seq (.reg [ zM 65 5, zM 66 9, zA 67 (.iaddr 6 (.t 65) (.t 66)), zA 68 (.load true 6 (.t 67)), zA 10 (.alloc 15 [.c (.lit (.int .i64 0)), .c (.lit (.int .i64 0)), .c (.str []), .nsl 1, .nsl 5, .c (.str [])]), zS (.store true 6 (.t 10) (.t 68))] [1, 2, 5, 6, 9, 10]) (.seq (.reg [ zM 69 5, zM 70 9, zM 71 5, zM 72 9, zA 73 (.bin .sub (.t 72) (.k (.c (.lit (.int .i64 1))))), zA 74 (.iaddr 6 (.t 71) (.t 73)), zA 75 (.load true 6 (.t 74)), zA 76 (.iaddr 6 (.t 69) (.t 70)), zS (.store true 6 (.t 76) (.t 75))] [1, 2, 5, 6, 9, 10]) (.reg [ zM 77 5, zM 78 9, zA 79 (.bin .sub (.t 78) (.k (.c (.lit (.int .i64 1))))), zA 80 (.load true 6 (.t 10)), zA 81 (.iaddr 6 (.t 77) (.t 79)), zS (.store true 6 (.t 81) (.t 80))] [1, 2, 5, 6, 9])))) (.reg [ zM 63 9, zA 64 (.bin .sub (.t 63) (.k (.c (.lit (.int .i64 1))))), zM 9 64] [1, 2, 5, 6, 9])))))))))) (.reg [ zM 17 6, zA 18 (.bin .add (.t 17) (.k (.c (.lit (.int .i64 1))))), zM 6 18] [1, 2, 5, 6])))))) (.seq (.reg [ zM 82 5, zM 4 82] [4]) .ret))))
theorem K.spec_entries : chkF Go.Proofs.Tryz.prog 69 2 0 C.spec_entries [.tmp 4] = true := by kernel_rfl
def C.spec_validPath : ACode := (.seq (.reg [ zA 2 (.mv (.k (.c (.lit (.bool false)))))] [0]) (.seq (.seq (.reg [ zA 3 (.mv (.k (.c (.lit (.int .i64 0)))))] [0, 3]) (.block 0 (.loop (.seq (.seq (.reg [ zM 4 3, zM 5 0, zA 6 (.len (.t 5)), zA 7 (.bin .lss (.t 4) (.t 6))] [0, 3, 7]) (.cond (.t 7) .skip (.exit 0))) (.seq (.block 1 (.seq (.reg [ zM 10 0, zM 11 3, zA 12 (.iaddr 1 (.t 10) (.t 11)), zA 13 (.load false 1 (.t 12)), ⟨none, some 14, .call 114 [.t 13]⟩, zA 15 (.not (.t 14))] [0, 3, 15]) (.cond (.t 15) (.seq (.reg [ zA 2 (.mv (.k (.c (.lit (.bool false)))))] [2]) .ret) .skip))) (.reg [ zM 8 3, zA 9 (.bin .add (.t 8) (.k (.c (.lit (.int .i64 1))))), zM 3 9] [0, 3])))))) (.seq (.reg [ zM 16 0, zA 17 (.len (.t 16)), zA 18 (.bin .leq (.t 17) (.k (.c (.lit (.int .i64 5))))), zM 2 18] [2]) .ret)))
theorem K.spec_validPath : chkF Go.Proofs.Tryz.prog 68 1 0 C.spec_validPath [.tmp 2] = true := by kernel_rfl
def C.spec_IndexStore : ACode := (.seq (.reg [ zA 2 (.box 10 (.t 0)), zA 4 (.mv (.k (.nsl 6)))] [1, 2]) (.seq (.seq (.reg [ zA 5 (.load true 2 (.t 2)), ⟨none, some 6, .call 67 [.t 5]⟩, zA 7 (.not (.t 6)), zM 8 7, zG 8 false 9 (.mv (.t 1)), ⟨(some (8, false)), some 10, .call 68 [.t 9]⟩, zG 8 false 11 (.not (.t 10)), zA 12 (.pick (.t 8) (.k (.c (.lit (.bool true)))) (.t 11))] [1, 2, 12]) (.cond (.t 12) (.seq (.reg [ zA 4 (.mv (.k (.nsl 6)))] [4]) .ret) .skip)) (.seq (.reg [ zA 13 (.load true 2 (.t 2)), zM 14 1, ⟨none, some 15, .call 69 [.t 13, .t 14]⟩, zM 4 15] [4]) .ret)))
theorem K.spec_IndexStore : chkF Go.Proofs.Tryz.prog 28 2 0 C.spec_IndexStore [.tmp 4] = true := by kernel_rfl
def C.laws_FnIndexStorePut : ACode := (.seq (.reg [ zA 2 (.mv (.k (.c (.lit (.bool false)))))] [0]) (.seq (.seq (.reg [ zM 12 0, zA 13 (.len (.t 12)), zA 14 (.bin .gtr (.t 13) (.k (.c (.lit (.int .i64 1048576)))))] [0, 14]) (.cond (.t 14) (.seq (.reg [ zA 2 (.mv (.k (.c (.lit (.bool true)))))] [2]) .ret) .skip)) (.seq (.reg [ zM 16 0, ⟨none, some 17, .call 25 [.t 16]⟩, zM 15 17, zA 18 (.extract (.t 15) 0), zA 19 (.extract (.t 15) 1), zA 3 (.alloc 10 [.nsl 7, .c (.lit (.int .i64 0))]), zS (.store true 2 (.t 3) (.t 18)), zM 4 19] [3, 4]) (.seq (.reg [ zA 20 (.load true 2 (.t 3)), zM 21 4, ⟨none, some 22, .call 26 [.t 20, .t 21]⟩, zM 5 22] [3, 4, 5]) (.seq (.seq (.reg [ zM 23 5, zA 24 (.load true 2 (.t 3)), zM 25 4, ⟨none, some 26, .call 28 [.t 24, .t 25]⟩, ⟨none, some 27, .call 27 [.t 23, .t 26]⟩, zA 28 (.not (.t 27)), zM 29 28, zG 29 false 30 (.mv (.t 5)), zG 29 false 31 (.len (.t 30)), zG 29 false 32 (.bin .eql (.t 31) (.k (.c (.lit (.int .i64 0))))), zA 33 (.pick (.t 29) (.k (.c (.lit (.bool true)))) (.t 32))] [3, 4, 5, 33]) (.cond (.t 33) (.seq (.reg [ zM 34 5, zA 35 (.load true 2 (.t 3)), zM 36 4, ⟨none, some 37, .call 28 [.t 35, .t 36]⟩, ⟨none, some 38, .call 27 [.t 34, .t 37]⟩, zM 2 38] [2]) .ret) .skip)) (.seq (.regD [ (zA 40 (.load true 2 (.t 3)), []), (⟨none, some 41, .call 35 []⟩, []), (⟨none, some 42, .call 34 [.t 40, .k (.c (.str [98])), .t 41]⟩, [0, 1]), (zM 39 42, [0, 1, 2]), (zA 43 (.extract (.t 39) 0), [0, 1, 2, 3]), (zA 44 (.extract (.t 39) 1), [0, 1, 2, 3]), (zA 6 (.alloc 11 [.nsl 7, .c (.lit (.int .i64 0))]), []), (zS (.store true 2 (.t 6) (.t 43)), [0, 1, 2, 3, 4, 6]), (zM 7 44, [0, 1, 2, 3, 4, 5, 6, 7])] [4, 5, 6, 7]) (.seq (.reg [ zA 45 (.load true 2 (.t 6)), zM 46 4, ⟨none, some 47, .call 26 [.t 45, .t 46]⟩, zM 8 47] [5, 7, 8]) (.seq (.seq (.reg [ zA 9 (.mv (.k (.c (.lit (.int .i64 0)))))] [5, 7, 8, 9]) (.block 0 (.loop (.seq (.seq (.reg [ zM 48 9, zM 49 5, zA 50 (.len (.t 49)), zA 51 (.bin .lss (.t 48) (.t 50)), zM 52 51, zG 52 true 53 (.mv (.t 7)), zA 54 (.pick (.t 52) (.t 53) (.k (.c (.lit (.bool false)))))] [5, 7, 8, 9, 54]) (.cond (.t 54) .skip (.exit 0))) (.seq (.block 1 (.seq (.reg [ zM 57 5, zM 58 9, zA 59 (.iaddr 6 (.t 57) (.t 58)), zA 60 (.faddr 5 (.t 59)), zA 61 (.load false 1 (.t 60)), zA 62 (.bin .eql (.t 61) (.k (.c (.str [98])))), zM 10 62] [5, 7, 8, 9, 10]) (.seq (.seq (.reg [ zA 11 (.mv (.k (.c (.lit (.int .i64 0)))))] [5, 7, 8, 9, 10, 11]) (.block 2 (.loop (.seq (.seq (.reg [ zM 63 11, zM 64 8, zA 65 (.len (.t 64)), zA 66 (.bin .lss (.t 63) (.t 65))] [5, 7, 8, 9, 10, 11, 66]) (.cond (.t 66) .skip (.exit 2))) (.seq (.block 3 (.regD [ (zM 69 10, []), (zM 70 69, [0]), (zG 70 false 71 (.mv (.t 8)), [0, 1]), (zG 70 false 72 (.mv (.t 11)), [0, 1]), (zG 70 false 73 (.iaddr 6 (.t 71) (.t 72)), [0, 1, 2, 3]), (zG 70 false 74 (.faddr 5 (.t 73)), [0, 1, 2, 3, 4]), (zG 70 false 75 (.load false 1 (.t 74)), [0, 1, 2, 3, 4, 5]), (zG 70 false 76 (.mv (.t 5)), [0, 1]), (zG 70 false 77 (.mv (.t 9)), [0, 1]), (zG 70 false 78 (.iaddr 6 (.t 76) (.t 77)), [0, 1, 7, 8]), (zG 70 false 79 (.faddr 5 (.t 78)), [0, 1, 7, 8, 9]), (zG 70 false 80 (.load false 1 (.t 79)), [0, 1, 7, 8, 9, 10]), (zG 70 false 81 (.bin .eql (.t 75) (.t 80)), [0, 1, 2, 3, 4, 5, 6, 7, 8, 9, 10, 11]), (zG 70 false 82 (.mv (.t 81)), [0, 1, 2, 3, 4, 5, 6, 7, 8, 9, 10, 11, 12]), (zG 82 true 83 (.mv (.t 8)), [0, 1, 2, 3, 4, 5, 6, 7, 8, 9, 10, 11, 12, 13]), (zG 82 true 84 (.mv (.t 11)), [0, 1, 2, 3, 4, 5, 6, 7, 8, 9, 10, 11, 12, 13]), (zG 82 true 85 (.iaddr 6 (.t 83) (.t 84)), [0, 1, 2, 3, 4, 5, 6, 7, 8, 9, 10, 11, 12, 13, 14, 15]), (zG 82 true 86 (.faddr 0 (.t 85)), [0, 1, 2, 3, 4, 5, 6, 7, 8, 9, 10, 11, 12, 13, 14, 15, 16]), (zG 82 true 87 (.load true 5 (.t 86)), [0, 1, 2, 3, 4, 5, 6, 7, 8, 9, 10, 11, 12, 13, 14, 15, 16, 17]), (zG 82 true 88 (.mv (.t 5)), [0, 1, 2, 3, 4, 5, 6, 7, 8, 9, 10, 11, 12, 13]), (zG 82 true 89 (.mv (.t 9)), [0, 1, 2, 3, 4, 5, 6, 7, 8, 9, 10, 11, 12, 13]), (zG 82 true 90 (.iaddr 6 (.t 88) (.t 89)), [0, 1, 2, 3, 4, 5, 6, 7, 8, 9, 10, 11, 12, 13, 19, 20]), (zG 82 true 91 (.faddr 0 (.t 90)), [0, 1, 2, 3, 4, 5, 6, 7, 8, 9, 10, 11, 12, 13, 19, 20, 21]), (zG 82 true 92 (.load true 5 (.t 91)), [0, 1, 2, 3, 4, 5, 6, 7, 8, 9, 10, 11, 12, 13, 19, 20, 21, 22]), (⟨(some (82, true)), some 93, .call 16 [.t 87, .t 92]⟩, [0, 1, 2, 3, 4, 5, 6, 7, 8, 9, 10, 11, 12, 13, 14, 15, 16, 17, 18, 19, 20, 21, 22, 23]), (zG 70 false 94 (.pick (.t 82) (.t 93) (.k (.c (.lit (.bool false))))), [0, 1, 2, 3, 4, 5, 6, 7, 8, 9, 10, 11, 12, 13, 14, 15, 16, 17, 18, 19, 20, 21, 22, 23, 24]), (zA 95 (.pick (.t 70) (.k (.c (.lit (.bool true)))) (.t 94)), [0, 1, 2, 3, 4, 5, 6, 7, 8, 9, 10, 11, 12, 13, 14, 15, 16, 17, 18, 19, 20, 21, 22, 23, 24, 25]), (zM 10 95, [0, 1, 2, 3, 4, 5, 6, 7, 8, 9, 10, 11, 12, 13, 14, 15, 16, 17, 18, 19, 20, 21, 22, 23, 24, 25, 26])] [5, 7, 8, 9, 10, 11])) (.reg [ zM 67 11, zA 68 (.bin .add (.t 67) (.k (.c (.lit (.int .i64 1))))), zM 11 68] [5, 7, 8, 9, 10, 11])))))) (.seq (.reg [ zM 96 10, zA 97 (.not (.t 96))] [5, 7, 8, 9, 97]) (.cond (.t 97) (.seq (.reg [ zA 2 (.mv (.k (.c (.lit (.bool false)))))] [2]) .ret) .skip))))) (.reg [ zM 55 9, zA 56 (.bin .add (.t 55) (.k (.c (.lit (.int .i64 1))))), zM 9 56] [5, 7, 8, 9])))))) (.seq (.reg [ zA 2 (.mv (.k (.c (.lit (.bool true)))))] [2]) .ret)))))))))
theorem K.laws_FnIndexStorePut : chkF Go.Proofs.Tryz.prog 11 1 0 C.laws_FnIndexStorePut [.tmp 2] = true := by kernel_rfl
end Go.Ab
end
section
namespace Go.Ab
open Go
def Ev {α : Type} (g : Nat → Option α) (r : α) : Prop := ∃ N, ∀ n, N ≤ n → g n = some r
section
variable {α β : Type} {g g' : Nat → Option α} {r s : α}
theorem Ev.ret (r : α) : Ev (fun _ => some r) r := ⟨0, fun _ _ => rfl⟩
theorem Ev.ret' (h : s = r) : Ev (fun _ => some s) r := by subst h; exact Ev.ret _
theorem Ev.up (h : Ev (fun n => g (n + 1)) r) : Ev g r := by
  obtain ⟨N, h⟩ := h
  refine ⟨N + 1, fun n hn => ?_⟩
  obtain ⟨m, rfl⟩ : ∃ m, n = m + 1 := ⟨n - 1, by omega⟩
  exact h m (by omega)
theorem Ev.bind {h : Nat → Option β} {k : Nat → β → Option α} {a : β} (h1 : Ev h a) (h2 : Ev (fun n => k n a) r) : Ev (fun n => Option.bind (h n) (k n)) r := by
  obtain ⟨N, h1⟩ := h1
  obtain ⟨M, h2⟩ := h2
  refine ⟨max N M, fun n hn => ?_⟩
  show Option.bind (h n) (k n) = some r
  rw [h1 n (by omega)]
  exact h2 n (by omega)
theorem Ev.chk {p : Prop} [Decidable p] (hp : p) (h : Ev g r) : Ev (fun n => Ab.chk p (g n)) r := by
  obtain ⟨N, h⟩ := h
  exact ⟨N, fun n hn => by show Ab.chk p (g n) = some r; rw [Ab.chk, if_pos hp]; exact h n hn⟩
theorem Ev.ct {c : Bool} (hc : c = true) (h : Ev g r) : Ev (fun n => cond c (g n) (g' n)) r := by subst hc; exact h
theorem Ev.cf {c : Bool} (hc : c = false) (h : Ev g' r) : Ev (fun n => cond c (g n) (g' n)) r := by subst hc; exact h
theorem Ev.ite {c : Bool} (h : c = true → Ev g r) (h' : c = false → Ev g' r) : Ev (fun n => cond c (g n) (g' n)) r := by
  cases c
  · exact h' rfl
  · exact h rfl
theorem Ev.eq (h : Ev g r) (e : r = s) : Ev g s := e ▸ h
theorem Ev.val (h : Ev g r) : ∃ n, g n = some r := ⟨h.choose, h.choose_spec _ (Nat.le_refl _)⟩
end
theorem wrapN {x : Int} {m : Nat} (h : x = (m : Int)) (h1 : m < 9223372036854775808) : IntKind.wrap .i64 x = (m : Int) := by
  rw [wrap_id (by omega) (by omega), h]
theorem wrap_suc {i : Nat} (h1 : i + 1 < 9223372036854775808) : IntKind.wrap .i64 ((i : Int) + 1) = ((i + 1 : Nat) : Int) := wrapN (by omega) h1
theorem getD_of_lt {α : Type} {l : List α} {i : Nat} (d : α) (h : i < l.length) : l.getD i d = l[i] := by simp [List.getD, h]
theorem drop_of_lt {α : Type} {l : List α} {i : Nat} (d : α) (h : i < l.length) : l.drop i = l.getD i d :: l.drop (i + 1) := by
  rw [getD_of_lt d h, List.drop_eq_getElem_cons h]
abbrev bl (x y : List UInt8) : Bool := Op.bytesLess x y
theorem bl_nil (x : List UInt8) : bl x [] = false := by cases x <;> rfl
theorem bl_cons (a b : UInt8) (x y : List UInt8) : bl (a :: x) (b :: y) = (decide (a < b) || (a == b && bl x y)) := rfl
theorem bl_irr : ∀ x : List UInt8, bl x x = false
  | [] => rfl
  | a :: x => by rw [bl_cons, bl_irr x]; simp
theorem bl_trans : ∀ {x y z : List UInt8}, bl x y = true → bl y z = true → bl x z = true
  | _, [], _, h, _ => by rw [bl_nil] at h; cases h
  | _, _ :: _, [], _, h => by rw [bl_nil] at h; cases h
  | [], _ :: _, _ :: _, _, _ => rfl
  | a :: x, b :: y, c :: z, h, k => by
    rw [bl_cons] at *
    simp only [Bool.or_eq_true, Bool.and_eq_true, decide_eq_true_eq, beq_iff_eq] at *
    rcases h with h | ⟨rfl, h⟩ <;> rcases k with k | ⟨rfl, k⟩
    · exact .inl (UInt8.lt_trans h k)
    · exact .inl h
    · exact .inl k
    · exact .inr ⟨rfl, bl_trans h k⟩
theorem bl_tri : ∀ {x y : List UInt8}, bl x y = false → bl y x = false → x = y
  | [], [], _, _ => rfl
  | [], _ :: _, h, _ => by cases h
  | _ :: _, [], _, h => by cases h
  | a :: x, b :: y, h, k => by
    rw [bl_cons] at *
    simp only [Bool.or_eq_false_iff, Bool.and_eq_false_iff, decide_eq_false_iff_not] at *
    obtain ⟨h1, h2⟩ := h
    obtain ⟨k1, k2⟩ := k
    have e : a = b := by
      apply UInt8.toNat_inj.1
      simp only [UInt8.lt_iff_toNat_lt] at h1 k1
      omega
    subst e
    simp only [beq_self_eq_true, Bool.true_eq_false, false_or] at h2 k2
    rw [bl_tri h2 k2]
theorem bl_asymm {x y : List UInt8} (h : bl x y = true) : bl y x = false := by
  cases k : bl y x with
  | false => rfl
  | true => have := bl_trans h k; rw [bl_irr] at this; cases this
theorem bl_ne {x y : List UInt8} (h : bl x y = true) : x ≠ y := by
  intro e; subst e; rw [bl_irr] at h; cases h
theorem cmpB : ∀ (x y : List UInt8), Go.Lib.compareBytes x y = if bl x y then -1 else if x = y then 0 else 1
  | [], [] => rfl
  | [], _ :: _ => rfl
  | _ :: _, [] => by simp [Go.Lib.compareBytes, bl_nil]
  | a :: x, b :: y => by
    rw [Go.Lib.compareBytes, bl_cons]
    by_cases h : a < b
    · simp [h]
    · by_cases k : b < a
      · have : a ≠ b := fun e => by subst e; exact h k
        simp [h, k, this]
      · have e : a = b := by
          apply UInt8.toNat_inj.1
          simp only [UInt8.lt_iff_toNat_lt] at h k
          omega
        subst e
        rw [if_neg h, if_neg h, cmpB x y]
        simp
theorem cmpB_zero {x y : List UInt8} : Go.Lib.compareBytes x y = 0 ↔ x = y := by
  rw [cmpB]
  by_cases h : bl x y = true
  · simp only [h, if_true]
    exact ⟨fun e => by omega, fun e => absurd e (bl_ne h)⟩
  · simp only [h]
    by_cases e : x = y <;> simp [e]
end Go.Ab
end
section
namespace Go.Ab
open Go
def okB (b : UInt8) : Bool := decide (32 ≤ b.toNat) && decide (b.toNat ≤ 126)
def PT (s : Txt) : Bool := s.all okB && decide (s.length ≤ 12)
def PP (p : List Txt) : Bool := p.all PT && decide (p.length ≤ 5)
def Asc : List Txt → Bool
  | [] => true
  | [_] => true
  | x :: y :: r => Op.bytesLess x y && Asc (y :: r)
def big : Nat := 4611686018427387904
theorem byte_wrap (b : UInt8) : IntKind.wrap .i64 ((b.toNat : Nat) : Int) = (b.toNat : Int) := by
  have := b.toNat_lt
  exact wrapN rfl (by omega)
theorem T.spec_inRange (a lo hi : Int) : Ev (fun n => G.spec_inRange n a lo hi) (decide (lo ≤ a) && decide (a ≤ hi)) := by
  refine Ev.up ?_
  simp only [G.spec_inRange]
  refine Ev.ite (fun h => ?_) (fun h => ?_)
  · exact Ev.ret' (by rw [h, Bool.true_and])
  · exact Ev.ret' (by rw [h, Bool.false_and])
theorem T.spec_validText.L1 (s : Txt) (hs : s.length < big) : ∀ (k i : Nat), i + k = s.length → Ev (fun n => G.spec_validText.L1 n s i) ((s.drop i).all okB && decide (s.length ≤ 12)) := by
  unfold big at hs
  intro k
  induction k with
  | zero =>
    intro i hi
    refine Ev.up ?_
    simp only [G.spec_validText.L1]
    refine Ev.cf (by simp; omega) (Ev.ret' ?_)
    rw [List.drop_of_length_le (by omega)]
    simp
    omega
  | succ k ih =>
    intro i hi
    refine Ev.up ?_
    simp only [G.spec_validText.L1]
    refine Ev.ct (by simp; omega) (Ev.chk (by omega) ?_)
    refine Ev.bind (T.spec_inRange _ _ _) ?_
    rw [drop_of_lt (0 : UInt8) (by omega : i < s.length), List.all_cons, Int.toNat_natCast, byte_wrap]
    have e : (decide ((32 : Int) ≤ ((s.getD i 0).toNat : Int)) && decide (((s.getD i 0).toNat : Int) ≤ 126)) = okB (s.getD i 0) := by
      unfold okB; congr 1 <;> (apply decide_eq_decide.2; omega)
    rw [e]
    refine Ev.ite (fun h => ?_) (fun h => ?_)
    · rw [wrap_suc (by omega), h, Bool.true_and]
      exact ih (i + 1) (by omega)
    · exact Ev.ret' (by rw [h]; rfl)
theorem T.spec_validText (s : Txt) (hs : s.length < big) : Ev (fun n => G.spec_validText n s) (PT s) := by
  refine Ev.up ?_
  simp only [G.spec_validText]
  exact T.spec_validText.L1 s hs s.length 0 (by omega)
theorem T.impl_isPlainText.L1 (s : Txt) (hs : s.length < big) : ∀ (k i : Nat), i + k = s.length → Ev (fun n => G.impl_isPlainText.L1 n s i) ((s.drop i).all okB) := by
  unfold big at hs
  intro k
  induction k with
  | zero =>
    intro i hi
    refine Ev.up ?_
    simp only [G.impl_isPlainText.L1]
    refine Ev.cf (by simp; omega) (Ev.ret' ?_)
    rw [List.drop_of_length_le (by omega)]
    rfl
  | succ k ih =>
    intro i hi
    refine Ev.up ?_
    simp only [G.impl_isPlainText.L1]
    rw [drop_of_lt (0 : UInt8) (by omega : i < s.length), List.all_cons, Int.toNat_natCast]
    refine Ev.ct (by simp; omega) (Ev.chk (by omega) ?_)
    refine Ev.ite (fun h => ?_) (fun h => ?_)
    · refine Ev.ret' ?_
      have : okB (s.getD i 0) = false := by
        simp only [decide_eq_true_eq] at h
        simp only [okB, Bool.and_eq_false_iff, decide_eq_false_iff_not]
        omega
      rw [this]; rfl
    · refine Ev.chk (by omega) ?_
      refine Ev.ite (fun k => ?_) (fun k => ?_)
      · refine Ev.ret' ?_
        have : okB (s.getD i 0) = false := by
          simp only [decide_eq_true_eq] at k
          simp only [okB, Bool.and_eq_false_iff, decide_eq_false_iff_not]
          omega
        rw [this]; rfl
      · have : okB (s.getD i 0) = true := by
          simp only [decide_eq_false_iff_not] at h k
          simp only [okB, Bool.and_eq_true, decide_eq_true_eq]
          omega
        rw [this, Bool.true_and, wrap_suc (by omega)]
        exact ih (i + 1) (by omega)
theorem T.impl_isPlainText (s : Txt) (hs : s.length < big) : Ev (fun n => G.impl_isPlainText n s) (PT s) := by
  refine Ev.up ?_
  simp only [G.impl_isPlainText]
  refine Ev.ite (fun h => ?_) (fun h => ?_)
  · simp only [decide_eq_true_eq] at h
    refine Ev.ret' ?_
    have : decide (s.length ≤ 12) = false := by simp; omega
    rw [PT, this, Bool.and_false]
  · simp only [decide_eq_false_iff_not] at h
    refine (T.impl_isPlainText.L1 s hs s.length 0 (by omega)).eq ?_
    have : decide (s.length ≤ 12) = true := by simp; omega
    rw [PT, this, Bool.and_true, List.drop_zero]
def Sm (l : List Txt) : Prop := l.length < big ∧ ∀ s, s ∈ l → s.length < big
theorem Sm.get {l : List Txt} (h : Sm l) {i : Nat} (hi : i < l.length) : (l.getD i default).length < big := by
  rw [getD_of_lt _ hi]
  exact h.2 _ (List.getElem_mem hi)
theorem T.spec_validPath.L1 (p : List Txt) (hp : Sm p) : ∀ (k i : Nat), i + k = p.length → Ev (fun n => G.spec_validPath.L1 n p i) ((p.drop i).all PT && decide (p.length ≤ 5)) := by
  have hl := hp.1
  unfold big at hl
  intro k
  induction k with
  | zero =>
    intro i hi
    refine Ev.up ?_
    simp only [G.spec_validPath.L1]
    refine Ev.cf (by simp; omega) (Ev.ret' ?_)
    rw [List.drop_of_length_le (by omega)]
    simp
    omega
  | succ k ih =>
    intro i hi
    refine Ev.up ?_
    simp only [G.spec_validPath.L1]
    refine Ev.ct (by simp; omega) (Ev.chk (by omega) ?_)
    rw [drop_of_lt (default : Txt) (by omega : i < p.length), List.all_cons, Int.toNat_natCast]
    refine Ev.bind (T.spec_validText _ (hp.get (by omega))) ?_
    refine Ev.ite (fun h => ?_) (fun h => ?_)
    · rw [wrap_suc (by omega), h, Bool.true_and]
      exact ih (i + 1) (by omega)
    · exact Ev.ret' (by rw [h]; rfl)
theorem T.spec_validPath (p : List Txt) (hp : Sm p) : Ev (fun n => G.spec_validPath n p) (PP p) := by
  refine Ev.up ?_
  simp only [G.spec_validPath]
  exact T.spec_validPath.L1 p hp p.length 0 (by omega)
theorem T.impl_isPath.L1 (p : List Txt) (hp : Sm p) : ∀ (k i : Nat), i + k = p.length → Ev (fun n => G.impl_isPath.L1 n p i) ((p.drop i).all PT) := by
  have hl := hp.1
  unfold big at hl
  intro k
  induction k with
  | zero =>
    intro i hi
    refine Ev.up ?_
    simp only [G.impl_isPath.L1]
    refine Ev.cf (by simp; omega) (Ev.ret' ?_)
    rw [List.drop_of_length_le (by omega)]
    rfl
  | succ k ih =>
    intro i hi
    refine Ev.up ?_
    simp only [G.impl_isPath.L1]
    refine Ev.ct (by simp; omega) (Ev.chk (by omega) ?_)
    rw [drop_of_lt (default : Txt) (by omega : i < p.length), List.all_cons, Int.toNat_natCast]
    refine Ev.bind (T.impl_isPlainText _ (hp.get (by omega))) ?_
    refine Ev.ite (fun h => ?_) (fun h => ?_)
    · rw [wrap_suc (by omega), h, Bool.true_and]
      exact ih (i + 1) (by omega)
    · exact Ev.ret' (by rw [h]; rfl)
theorem T.impl_isPath (p : List Txt) (hp : Sm p) : Ev (fun n => G.impl_isPath n p) (PP p) := by
  refine Ev.up ?_
  simp only [G.impl_isPath]
  refine Ev.ite (fun h => ?_) (fun h => ?_)
  · simp only [decide_eq_true_eq] at h
    refine Ev.ret' ?_
    have : decide (p.length ≤ 5) = false := by simp; omega
    rw [PP, this, Bool.and_false]
  · simp only [decide_eq_false_iff_not] at h
    refine (T.impl_isPath.L1 p hp p.length 0 (by omega)).eq ?_
    have : decide (p.length ≤ 5) = true := by simp; omega
    rw [PP, this, Bool.and_true, List.drop_zero]
def NM (l : List Txt) : Bool := l.all PT && Asc l
theorem drop_pred {l : List Txt} {i : Nat} (h0 : 0 < i) (h : i < l.length) : l.drop (i - 1) = l.getD (i - 1) default :: l.getD i default :: l.drop (i + 1) := by
  rw [drop_of_lt (default : Txt) (by omega : i - 1 < l.length), show i - 1 + 1 = i by omega, drop_of_lt (default : Txt) h]
theorem T.spec_names.L1 (l : List Txt) (hp : Sm l) : ∀ (k i : Nat), i + k = l.length → Ev (fun n => G.spec_names.L1 n l i) ((l.drop i).all PT && Asc (l.drop (i - 1))) := by
  have hl := hp.1
  unfold big at hl
  intro k
  induction k with
  | zero =>
    intro i hi
    refine Ev.up ?_
    simp only [G.spec_names.L1]
    refine Ev.cf (by simp; omega) (Ev.ret' ?_)
    rw [List.drop_of_length_le (by omega)]
    by_cases h0 : i = 0
    · rw [List.drop_of_length_le (by omega)]; rfl
    · rw [drop_of_lt (default : Txt) (by omega : i - 1 < l.length), List.drop_of_length_le (by omega)]; rfl
  | succ k ih =>
    intro i hi
    refine Ev.up ?_
    simp only [G.spec_names.L1]
    refine Ev.ct (by simp; omega) (Ev.chk (by omega) ?_)
    rw [drop_of_lt (default : Txt) (by omega : i < l.length), List.all_cons, Int.toNat_natCast]
    refine Ev.bind (T.spec_validText _ (hp.get (by omega))) ?_
    refine Ev.ite (fun h => ?_) (fun h => ?_)
    · rw [h, Bool.true_and, wrap_suc (by omega)]
      refine Ev.ite (fun h0 => ?_) (fun h0 => ?_)
      · simp only [decide_eq_true_eq] at h0
        have e : IntKind.wrap .i64 ((i : Int) - 1) = ((i - 1 : Nat) : Int) := wrapN (by omega) (by omega)
        rw [e, Int.toNat_natCast]
        refine Ev.chk (by omega) (Ev.chk (by omega) ?_)
        rw [drop_pred (by omega) (by omega), Asc]
        have hd : l.getD i default :: l.drop (i + 1) = l.drop (i + 1 - 1) := by rw [Nat.add_sub_cancel, ← drop_of_lt (default : Txt) (by omega : i < l.length)]
        refine Ev.ite (fun h1 => ?_) (fun h1 => ?_)
        · exact Ev.ret' (by rw [show Op.bytesLess (l.getD (i - 1) default) (l.getD i default) = false from bl_asymm h1]; simp)
        · refine Ev.ite (fun h2 => ?_) (fun h2 => ?_)
          · rw [beq_iff_eq] at h2
            exact Ev.ret' (by rw [show Op.bytesLess (l.getD (i - 1) default) (l.getD i default) = false by rw [h2]; exact bl_irr _]; simp)
          · have : Op.bytesLess (l.getD (i - 1) default) (l.getD i default) = true := by
              cases hb : Op.bytesLess (l.getD (i - 1) default) (l.getD i default) with
              | true => rfl
              | false => rw [bl_tri h1 hb] at h2; simp at h2
            rw [this, Bool.true_and, hd]
            exact ih (i + 1) (by omega)
      · simp only [decide_eq_false_iff_not] at h0
        have : i = 0 := by omega
        subst this
        exact ih 1 (by omega)
    · exact Ev.ret' (by rw [h]; rfl)
theorem T.spec_names (l : List Txt) (hp : Sm l) : Ev (fun n => G.spec_names n l) (NM l) := by
  refine Ev.up ?_
  simp only [G.spec_names]
  exact T.spec_names.L1 l hp l.length 0 (by omega)
theorem T.impl_areNames.L1 (l : List Txt) (hp : Sm l) : ∀ (k i : Nat), i + k = l.length → Ev (fun n => G.impl_areNames.L1 n l i) ((l.drop i).all PT && Asc (l.drop (i - 1))) := by
  have hl := hp.1
  unfold big at hl
  intro k
  induction k with
  | zero =>
    intro i hi
    refine Ev.up ?_
    simp only [G.impl_areNames.L1]
    refine Ev.cf (by simp; omega) (Ev.ret' ?_)
    rw [List.drop_of_length_le (by omega)]
    by_cases h0 : i = 0
    · rw [List.drop_of_length_le (by omega)]; rfl
    · rw [drop_of_lt (default : Txt) (by omega : i - 1 < l.length), List.drop_of_length_le (by omega)]; rfl
  | succ k ih =>
    intro i hi
    refine Ev.up ?_
    simp only [G.impl_areNames.L1]
    refine Ev.ct (by simp; omega) (Ev.chk (by omega) ?_)
    rw [drop_of_lt (default : Txt) (by omega : i < l.length), List.all_cons, Int.toNat_natCast]
    refine Ev.bind (T.impl_isPlainText _ (hp.get (by omega))) ?_
    refine Ev.ite (fun h => ?_) (fun h => ?_)
    · rw [h, Bool.true_and, wrap_suc (by omega)]
      refine Ev.ite (fun h0 => ?_) (fun h0 => ?_)
      · simp only [decide_eq_true_eq] at h0
        have e : IntKind.wrap .i64 ((i : Int) - 1) = ((i - 1 : Nat) : Int) := wrapN (by omega) (by omega)
        rw [e, Int.toNat_natCast]
        refine Ev.chk (by omega) ?_
        rw [drop_pred (by omega) (by omega), Asc]
        have hd : l.getD i default :: l.drop (i + 1) = l.drop (i + 1 - 1) := by rw [Nat.add_sub_cancel, ← drop_of_lt (default : Txt) (by omega : i < l.length)]
        refine Ev.ite (fun h1 => ?_) (fun h1 => ?_)
        · rw [h1, Bool.true_and, hd]
          exact ih (i + 1) (by omega)
        · exact Ev.ret' (by rw [h1]; simp)
      · simp only [decide_eq_false_iff_not] at h0
        have : i = 0 := by omega
        subst this
        exact ih 1 (by omega)
    · exact Ev.ret' (by rw [h]; rfl)
theorem T.impl_areNames (l : List Txt) (hp : Sm l) : Ev (fun n => G.impl_areNames n l) (NM l && decide (l.length ≤ 6)) := by
  refine Ev.up ?_
  simp only [G.impl_areNames]
  refine Ev.ite (fun h => ?_) (fun h => ?_)
  · simp only [decide_eq_true_eq] at h
    refine Ev.ret' ?_
    have : decide (l.length ≤ 6) = false := by simp; omega
    rw [this, Bool.and_false]
  · simp only [decide_eq_false_iff_not] at h
    refine (T.impl_areNames.L1 l hp l.length 0 (by omega)).eq ?_
    have : decide (l.length ≤ 6) = true := by simp; omega
    rw [NM, this, Bool.and_true, List.drop_zero]
end Go.Ab
end
section
namespace Go.Ab
open Go
def Fine (B : Nat) : Nat → NodeT → Prop
  | 0, _ => False
  | d + 1, n => n.Text.length ≤ B ∧ n.Names.length ≤ B ∧ (∀ s, s ∈ n.Names → s.length ≤ B) ∧ n.Kids.length ≤ B ∧ (n.Kind = 4 → n.Kids.length ≤ n.Names.length) ∧ ∀ k, k ∈ n.Kids → Fine B d k
theorem Fine.mono {B C : Nat} (hB : B ≤ C) : ∀ {d e : Nat} {n : NodeT}, d ≤ e → Fine B d n → Fine C e n
  | 0, _, _, _, h => h.elim
  | d + 1, 0, _, hd, _ => by omega
  | d + 1, e + 1, n, hd, h => by
    obtain ⟨h1, h2, h3, h4, h5, h6⟩ := h
    exact ⟨by omega, by omega, fun s hs => Nat.le_trans (h3 s hs) hB, by omega, h5, fun k hk => (h6 k hk).mono hB (by omega)⟩
def lim : Nat := 4294967296
theorem Fine.sm {B d : Nat} {n : NodeT} (hB : B ≤ lim) (h : Fine B d n) : Sm n.Names := by
  cases d with
  | zero => exact h.elim
  | succ d =>
    obtain ⟨h1, h2, h3, h4, h5, h6⟩ := h
    unfold lim at hB
    exact ⟨by unfold big; omega, fun s hs => by have := h3 s hs; unfold big; omega⟩
theorem Fine.text {B d : Nat} {n : NodeT} (hB : B ≤ lim) (h : Fine B d n) : n.Text.length < big := by
  cases d with
  | zero => exact h.elim
  | succ d => obtain ⟨h1, _⟩ := h; unfold lim at hB; unfold big; omega
theorem Fine.kids {B d : Nat} {n : NodeT} (h : Fine B d n) : n.Kids.length ≤ B := by
  cases d with
  | zero => exact h.elim
  | succ d => exact h.2.2.2.1
theorem Fine.names {B d : Nat} {n : NodeT} (h : Fine B d n) : n.Names.length ≤ B := by
  cases d with
  | zero => exact h.elim
  | succ d => exact h.2.1
theorem Fine.map {B d : Nat} {n : NodeT} (h : Fine B d n) (hk : n.Kind = 4) : n.Kids.length ≤ n.Names.length := by
  cases d with
  | zero => exact h.elim
  | succ d => exact h.2.2.2.2.1 hk
theorem Fine.kid {B d : Nat} {n : NodeT} (h : Fine B (d + 1) n) {i : Nat} (hi : i < n.Kids.length) : Fine B d (n.Kids.getD i default) := by
  rw [getD_of_lt _ hi]
  exact h.2.2.2.2.2 _ (List.getElem_mem hi)
def Parts (n : NodeT) : Bool :=
  (n.Kind == 1 || n.Num == 0) && (n.Kind == 2 || n.Text == []) && (n.Kind == 4 || n.Names.length == 0) &&
  (if n.Kind = 0 then n.Kids.length == 0 else if n.Kind = 1 then (decide (-999999 ≤ n.Num) && decide (n.Num ≤ 999999)) && n.Kids.length == 0 else if n.Kind = 2 then PT n.Text && n.Kids.length == 0
   else if n.Kind = 3 then decide (n.Kids.length ≤ 6) else if n.Kind = 4 then NM n.Names && decide (n.Names.length ≤ 6) && n.Kids.length == n.Names.length else false)
def Shape : Nat → NodeT → Bool
  | 0, _ => false
  | d + 1, n => Parts n && n.Kids.all (Shape d)
theorem ilen {a b : Nat} : (((a : Nat) : Int) == ((b : Nat) : Int)) = (a == b) := by
  rw [Bool.eq_iff_iff]; simp; omega
theorem ilen0 {a : Nat} : (((a : Nat) : Int) == 0) = (a == 0) := by
  rw [Bool.eq_iff_iff]; simp
theorem ile {a b : Nat} : decide (((a : Nat) : Int) ≤ ((b : Nat) : Int)) = decide (a ≤ b) := by
  rw [Bool.eq_iff_iff]; simp
def PartsK (n : NodeT) : Bool :=
  (n.Kind == 4 || n.Names.length == 0) &&
  (if n.Kind = 0 then n.Kids.length == 0 else if n.Kind = 1 then (decide (-999999 ≤ n.Num) && decide (n.Num ≤ 999999)) && n.Kids.length == 0 else if n.Kind = 2 then PT n.Text && n.Kids.length == 0
   else if n.Kind = 3 then decide (n.Kids.length ≤ 6) else if n.Kind = 4 then NM n.Names && decide (n.Names.length ≤ 6) && n.Kids.length == n.Names.length else false)
theorem Parts_eq (n : NodeT) : Parts n = ((n.Kind == 1 || n.Num == 0) && (n.Kind == 2 || n.Text == []) && PartsK n) := by
  unfold Parts PartsK; simp only [Bool.and_assoc]
theorem T.impl_hasValidParts.K1 {B d : Nat} {n : NodeT} (hB : B ≤ lim) (h : Fine B d n) : Ev (fun f => G.impl_hasValidParts.K1 f n) (PartsK n) := by
  refine Ev.up ?_
  simp only [G.impl_hasValidParts.K1]
  have ht := T.impl_isPlainText _ (h.text hB)
  have hn := T.impl_areNames _ (h.sm hB)
  have h0 : decide ((0 : Int) < ((n.Names.length : Nat) : Int)) = !(n.Names.length == 0) := by
    cases hq : n.Names.length <;> simp
  have h6 : decide (((n.Kids.length : Nat) : Int) ≤ 6) = decide (n.Kids.length ≤ 6) := by rw [Bool.eq_iff_iff]; simp; omega
  rw [h0]
  have tail : Ev (fun f => cond (n.Kind == 0) (some (((n.Kids.length : Nat) : Int) == 0)) (cond (n.Kind == 1) (cond (decide ((-999999) ≤ n.Num)) (cond (decide (n.Num ≤ 999999)) (some (((n.Kids.length : Nat) : Int) == 0)) (some false)) (some false))
      (cond (n.Kind == 2) (Option.bind (G.impl_isPlainText f n.Text) fun v3 => cond v3 (some (((n.Kids.length : Nat) : Int) == 0)) (some false))
      (cond (n.Kind == 3) (some (decide (((n.Kids.length : Nat) : Int) ≤ 6))) (cond (n.Kind == 4) (Option.bind (G.impl_areNames f n.Names) fun v4 => cond v4 (some (((n.Kids.length : Nat) : Int) == ((n.Names.length : Nat) : Int))) (some false)) (some false))))))
      (if n.Kind = 0 then n.Kids.length == 0 else if n.Kind = 1 then (decide (-999999 ≤ n.Num) && decide (n.Num ≤ 999999)) && n.Kids.length == 0 else if n.Kind = 2 then PT n.Text && n.Kids.length == 0
        else if n.Kind = 3 then decide (n.Kids.length ≤ 6) else if n.Kind = 4 then NM n.Names && decide (n.Names.length ≤ 6) && n.Kids.length == n.Names.length else false) := by
    rw [ilen0, ilen, h6]
    refine Ev.ite (fun e => Ev.ret' ?_) (fun e0 => ?_)
    · rw [if_pos (by simpa using e)]
    rw [if_neg (by simpa using e0)]
    refine Ev.ite (fun e => ?_) (fun e1 => ?_)
    · rw [if_pos (by simpa using e)]
      refine Ev.ite (fun k => Ev.ite (fun k2 => Ev.ret' ?_) (fun k2 => Ev.ret' ?_)) (fun k => Ev.ret' ?_)
      · rw [k, k2]; simp
      · rw [k2]; simp
      · rw [k]; simp
    rw [if_neg (by simpa using e1)]
    refine Ev.ite (fun e => ?_) (fun e2 => ?_)
    · rw [if_pos (by simpa using e)]
      refine Ev.bind ht (Ev.ite (fun k => Ev.ret' ?_) (fun k => Ev.ret' ?_))
      · rw [k, Bool.true_and]
      · rw [k, Bool.false_and]
    rw [if_neg (by simpa using e2)]
    refine Ev.ite (fun e => Ev.ret' ?_) (fun e3 => ?_)
    · rw [if_pos (by simpa using e)]
    rw [if_neg (by simpa using e3)]
    refine Ev.ite (fun e => ?_) (fun e4 => Ev.ret' ?_)
    · rw [if_pos (by simpa using e)]
      refine Ev.bind hn (Ev.ite (fun k => Ev.ret' ?_) (fun k => Ev.ret' ?_))
      · rw [k, Bool.true_and]
      · rw [k, Bool.false_and]
    · rw [if_neg (by simpa using e4)]
  refine Ev.ite (fun e => ?_) (fun e => ?_)
  · have e' : (n.Kind == 4) = false := by simpa using e
    refine Ev.ite (fun k => Ev.ret' ?_) (fun k => ?_)
    · rw [Bool.not_eq_true'] at k; rw [PartsK, e', k]; rfl
    · rw [Bool.not_eq_false'] at k; exact tail.eq (by rw [PartsK, k, Bool.or_true, Bool.true_and])
  · have e' : (n.Kind == 4) = true := by simpa using e
    exact tail.eq (by rw [PartsK, e', Bool.true_or, Bool.true_and])
theorem T.impl_hasValidParts {B d : Nat} {n : NodeT} (hB : B ≤ lim) (h : Fine B d n) : Ev (fun f => G.impl_hasValidParts f n) (Parts n) := by
  refine Ev.up ?_
  simp only [G.impl_hasValidParts]
  have hk := T.impl_hasValidParts.K1 hB h
  rw [Parts_eq]
  have tail : Ev (fun f => cond (n.Kind != 2) (cond (n.Text == []) (G.impl_hasValidParts.K1 f n) (some false)) (G.impl_hasValidParts.K1 f n)) ((n.Kind == 2 || n.Text == []) && PartsK n) := by
    refine Ev.ite (fun e => ?_) (fun e => ?_)
    · have e' : (n.Kind == 2) = false := by simpa using e
      refine Ev.ite (fun k => ?_) (fun k => Ev.ret' ?_)
      · exact hk.eq (by rw [k, Bool.or_true, Bool.true_and])
      · rw [e', k]; rfl
    · have e' : (n.Kind == 2) = true := by simpa using e
      exact hk.eq (by rw [e', Bool.true_or, Bool.true_and])
  refine Ev.ite (fun e => ?_) (fun e => ?_)
  · have e' : (n.Kind == 1) = false := by simpa using e
    refine Ev.ite (fun k => Ev.ret' ?_) (fun k => ?_)
    · have : (n.Num == 0) = false := by simpa using k
      rw [e', this]; rfl
    · have : (n.Num == 0) = true := by simpa using k
      exact tail.eq (by rw [this, Bool.or_true, Bool.true_and])
  · have e' : (n.Kind == 1) = true := by simpa using e
    exact tail.eq (by rw [e', Bool.true_or, Bool.true_and])
end Go.Ab
end
section
namespace Go.Ab
open Go
theorem T.spec_kids.L1 {B D d : Nat} {n : NodeT} (hB : B ≤ lim) (h : Fine B (D + 1) n) (hd : d < 1000) (hs : ∀ k, k ∈ n.Kids → Ev (fun f => G.spec_shape f k d) (Shape d k)) :
    ∀ (k i : Nat), i + k = n.Kids.length → Ev (fun f => G.spec_kids.L1 f n ((d + 1 : Nat) : Int) i) ((n.Kids.drop i).all (Shape d)) := by
  have hl := h.kids
  unfold lim at hB
  intro k
  induction k with
  | zero =>
    intro i hi
    refine Ev.up ?_
    simp only [G.spec_kids.L1]
    refine Ev.cf (by simp; omega) (Ev.ret' ?_)
    rw [List.drop_of_length_le (by omega)]
    rfl
  | succ k ih =>
    intro i hi
    refine Ev.up ?_
    simp only [G.spec_kids.L1]
    refine Ev.ct (by simp; omega) (Ev.chk (by omega) ?_)
    rw [drop_of_lt (default : NodeT) (by omega : i < n.Kids.length), List.all_cons, Int.toNat_natCast]
    have e : IntKind.wrap .i64 (((d + 1 : Nat) : Int) - 1) = (d : Int) := wrapN (by omega) (by omega)
    rw [e]
    refine Ev.bind (hs _ (by rw [getD_of_lt _ (by omega : i < n.Kids.length)]; exact List.getElem_mem _)) ?_
    refine Ev.ite (fun h => ?_) (fun h => ?_)
    · rw [wrap_suc (by omega), h, Bool.true_and]
      exact ih (i + 1) (by omega)
    · exact Ev.ret' (by rw [h]; rfl)
theorem T.spec_kids {B D d : Nat} {n : NodeT} (hB : B ≤ lim) (h : Fine B (D + 1) n) (hd : d < 1000) (hs : ∀ k, k ∈ n.Kids → Ev (fun f => G.spec_shape f k d) (Shape d k)) :
    Ev (fun f => G.spec_kids f n ((d + 1 : Nat) : Int)) (n.Kids.all (Shape d)) := by
  refine Ev.up ?_
  simp only [G.spec_kids]
  exact T.spec_kids.L1 hB h hd hs n.Kids.length 0 (by omega)
def ShK (d : Nat) (n : NodeT) : Bool :=
  if n.Kind = 1 then decide (-999999 ≤ n.Num) && decide (n.Num ≤ 999999) else if n.Kind = 2 then PT n.Text else if n.Kind = 3 then n.Kids.all (Shape d)
  else if n.Kind = 4 then n.Names.length == n.Kids.length && NM n.Names && n.Kids.all (Shape d) else n.Kind == 0
theorem T.spec_shape.K1 {B D d : Nat} {n : NodeT} (hB : B ≤ lim) (h : Fine B (D + 1) n) (hd : d < 1000) (hs : ∀ k, k ∈ n.Kids → Ev (fun f => G.spec_shape f k d) (Shape d k)) :
    Ev (fun f => G.spec_shape.K1 f n ((d + 1 : Nat) : Int)) (ShK d n) := by
  refine Ev.up ?_
  simp only [G.spec_shape.K1]
  have hk := T.spec_kids hB h hd hs
  unfold ShK
  refine Ev.ite (fun e => ?_) (fun e1 => ?_)
  · rw [if_pos (by simpa using e)]
    exact Ev.bind (T.spec_inRange _ _ _) (Ev.ret _)
  rw [if_neg (by simpa using e1)]
  refine Ev.ite (fun e => ?_) (fun e2 => ?_)
  · rw [if_pos (by simpa using e)]
    exact Ev.bind (T.spec_validText _ (h.text hB)) (Ev.ret _)
  rw [if_neg (by simpa using e2)]
  refine Ev.ite (fun e => ?_) (fun e3 => ?_)
  · rw [if_pos (by simpa using e)]
    exact Ev.bind hk (Ev.ret _)
  rw [if_neg (by simpa using e3)]
  refine Ev.ite (fun e => ?_) (fun e4 => ?_)
  · rw [if_pos (by simpa using e), ilen]
    refine Ev.ite (fun k => ?_) (fun k => Ev.ret' (by rw [k]; rfl))
    refine Ev.bind (T.spec_names _ (h.sm hB)) ?_
    refine Ev.ite (fun k2 => ?_) (fun k2 => Ev.ret' (by rw [k2]; simp))
    exact Ev.bind hk (Ev.ret' (by rw [k, k2]; rfl))
  · exact Ev.ret' (by rw [if_neg (by simpa using e4)])
theorem ilt0 {a : Nat} : decide ((0 : Int) < ((a : Nat) : Int)) = !(a == 0) := by cases a <;> simp
theorem cnd_or {c a : Bool} {g : Nat → Option Bool} {V : Bool} (h : Ev g V) : Ev (fun f => cond c (cond a (some false) (g f)) (g f)) ((!c || !a) && V) := by
  cases c <;> cases a
  · exact h
  · exact h
  · exact h
  · exact Ev.ret _
theorem cnd_or' {c a : Bool} {g : Nat → Option Bool} {V : Bool} (h : Ev g V) : Ev (fun f => cond c (cond a (g f) (some false)) (g f)) ((!c || a) && V) := by
  cases c <;> cases a
  · exact h
  · exact h
  · exact Ev.ret _
  · exact h
theorem shape_long {n : NodeT} (h : 6 < n.Kids.length) : Parts n = false := by
  have e0 : (n.Kids.length == 0) = false := beq_eq_false_iff_ne.2 (by omega)
  have e6 : decide (n.Kids.length ≤ 6) = false := by simp; omega
  have e4 : (NM n.Names && decide (n.Names.length ≤ 6) && n.Kids.length == n.Names.length) = false := by
    cases h1 : decide (n.Names.length ≤ 6) with
    | false => simp
    | true =>
      have : (n.Kids.length == n.Names.length) = false := by simp at h1; simp; omega
      rw [this, Bool.and_false]
  unfold Parts
  rw [e0, e6, e4]
  simp
theorem shape_eq {d : Nat} {n : NodeT} (h : n.Kids.length ≤ 6) :
    ((!(n.Kind != 1) || !(n.Num != 0)) && ((!(n.Kind != 2) || n.Text == []) && ((!(n.Kind != 4) || !(!(n.Names.length == 0))) && ((!(decide (n.Kind < 3)) || !(!(n.Kids.length == 0))) && ShK d n)))) = Shape (d + 1) n := by
  have e6 : decide (n.Kids.length ≤ 6) = true := by simp; omega
  have hall : n.Kids.length = 0 → n.Kids.all (Shape d) = true := fun e => by rw [List.eq_nil_of_length_eq_zero e]; rfl
  have hb : ∀ x y : Int, (!(x != y)) = (x == y) := fun x y => by simp [bne]
  rw [hb, hb, hb, hb]
  unfold Shape Parts ShK
  simp only [Bool.not_not, Bool.and_assoc]
  congr 1
  congr 1
  congr 1
  rw [e6]
  by_cases k0 : n.Kind = 0
  · simp only [k0]; cases hz : (n.Kids.length == 0) <;> simp_all
  by_cases k1 : n.Kind = 1
  · simp only [k1]; cases hz : (n.Kids.length == 0) <;> simp_all
  by_cases k2 : n.Kind = 2
  · simp only [k2]; cases hz : (n.Kids.length == 0) <;> simp_all
  by_cases k3 : n.Kind = 3
  · simp [k3]
  by_cases k4 : n.Kind = 4
  · simp only [k4]
    have hc : (n.Kids.length == n.Names.length) = (n.Names.length == n.Kids.length) := by rw [Bool.eq_iff_iff]; simp; omega
    rw [hc]
    cases hz : (n.Names.length == n.Kids.length)
    · simp
    · have : decide (n.Names.length ≤ 6) = true := by simp at hz; simp; omega
      simp [this]
  · simp [k0, k1, k2, k3, k4]
def Cnt : Nat → NodeT → Nat
  | 0, _ => 0
  | d + 1, n => 1 + (n.Kids.map (Cnt d)).sum
theorem shape_parts {d : Nat} {n : NodeT} (h : Shape (d + 1) n = true) : Parts n = true := by
  unfold Shape at h; simp only [Bool.and_eq_true] at h; exact h.1
theorem shape_kids {d : Nat} {n : NodeT} (h : Shape (d + 1) n = true) : ∀ k, k ∈ n.Kids → Shape d k = true := by
  unfold Shape at h; simp only [Bool.and_eq_true] at h; exact List.all_eq_true.1 h.2
theorem shape_len {d : Nat} {n : NodeT} (h : Shape d n = true) : n.Kids.length ≤ 6 := by
  cases d with
  | zero => cases h
  | succ d =>
    by_cases k : n.Kids.length ≤ 6
    · exact k
    · have := shape_long (n := n) (by omega); rw [shape_parts h] at this; cases this
theorem sum_le {α : Type} (f : α → Nat) (m : Nat) : ∀ l : List α, (∀ x, x ∈ l → f x ≤ m) → (l.map f).sum ≤ l.length * m
  | [], _ => by simp
  | x :: l, h => by
    have h1 := sum_le f m l (fun y hy => h y (by simp [hy]))
    have h2 := h x (by simp)
    simp only [List.map_cons, List.sum_cons, List.length_cons, Nat.add_mul]
    omega
theorem cnt_le : ∀ {d : Nat} {n : NodeT}, Shape d n = true → Cnt d n ≤ 7 ^ d
  | 0, _, h => by cases h
  | d + 1, n, h => by
    have hk := shape_kids h
    have := sum_le (Cnt d) (7 ^ d) n.Kids (fun k hk' => cnt_le (hk k hk'))
    have h6 := shape_len h
    have hm : n.Kids.length * 7 ^ d ≤ 6 * 7 ^ d := Nat.mul_le_mul_right _ h6
    have hp : 1 ≤ 7 ^ d := Nat.one_le_pow _ _ (by omega)
    unfold Cnt
    rw [Nat.pow_succ]
    omega
theorem pow_le {d : Nat} (h : d ≤ 5) : 7 ^ d ≤ 16807 := Nat.le_trans (Nat.pow_le_pow_right (by omega) h) (by decide)
theorem T.spec_shape {B : Nat} (hB : B ≤ lim) : ∀ (d D : Nat) (n : NodeT), d < 1000 → Fine B D n → Ev (fun f => G.spec_shape f n (d : Int)) (Shape d n) := by
  intro d
  induction d with
  | zero =>
    intro D n _ h
    refine Ev.up ?_
    simp only [G.spec_shape]
    exact Ev.ct (by simp) (Ev.ret _)
  | succ d ih =>
    intro D n hd h
    cases D with
    | zero => exact h.elim
    | succ D =>
    have hK := T.spec_shape.K1 (d := d) hB h (by omega) (fun k hk => ih D k (by omega) (h.2.2.2.2.2 k hk))
    refine Ev.up ?_
    simp only [G.spec_shape]
    rw [ilt0, ilt0]
    have t1 := cnd_or (c := decide (n.Kind < 3)) (a := !(n.Kids.length == 0)) hK
    have t2 := cnd_or (c := n.Kind != 4) (a := !(n.Names.length == 0)) t1
    have t3 := cnd_or' (c := n.Kind != 2) (a := n.Text == []) t2
    have t4 := cnd_or (c := n.Kind != 1) (a := n.Num != 0) t3
    refine Ev.cf (by simp; omega) ?_
    refine Ev.ite (fun e => Ev.ret' ?_) (fun e => t4.eq ?_)
    · simp only [decide_eq_true_eq] at e
      rw [Shape, shape_long (by omega)]; rfl
    · simp only [decide_eq_false_iff_not] at e
      exact shape_eq (by omega)
theorem T.spec_count.L1 {B D d : Nat} {n : NodeT} (hB : B ≤ lim) (h : Fine B (D + 1) n) (hs : ∀ k, k ∈ n.Kids → Ev (fun f => G.spec_count f k) ((Cnt d k : Nat) : Int)) :
    ∀ (k i c : Nat), i + k = n.Kids.length → c + ((n.Kids.drop i).map (Cnt d)).sum < big → Ev (fun f => G.spec_count.L1 f n (c : Int) i) ((c + ((n.Kids.drop i).map (Cnt d)).sum : Nat) : Int) := by
  have hl := h.kids
  unfold lim at hB
  unfold big
  intro k
  induction k with
  | zero =>
    intro i c hi hc
    refine Ev.up ?_
    simp only [G.spec_count.L1]
    refine Ev.cf (by simp; omega) (Ev.ret' ?_)
    rw [List.drop_of_length_le (by omega)]
    rfl
  | succ k ih =>
    intro i c hi
    rw [drop_of_lt (default : NodeT) (by omega : i < n.Kids.length), List.map_cons, List.sum_cons]
    intro hc
    refine Ev.up ?_
    simp only [G.spec_count.L1]
    refine Ev.ct (by simp; omega) (Ev.chk (by omega) ?_)
    rw [Int.toNat_natCast]
    refine Ev.bind (hs _ (by rw [getD_of_lt _ (by omega : i < n.Kids.length)]; exact List.getElem_mem _)) ?_
    rw [wrap_suc (by omega), wrapN (m := c + Cnt d (n.Kids.getD i default)) (by omega) (by omega)]
    exact (ih (i + 1) (c + Cnt d (n.Kids.getD i default)) (by omega) (by omega)).eq (by congr 1; omega)
theorem T.spec_count {B : Nat} (hB : B ≤ lim) : ∀ (d D : Nat) (n : NodeT), d ≤ 5 → Fine B D n → Shape d n = true → Ev (fun f => G.spec_count f n) ((Cnt d n : Nat) : Int) := by
  intro d
  induction d with
  | zero => intro D n _ _ h; cases h
  | succ d ih =>
    intro D n hd h hS
    cases D with
    | zero => exact h.elim
    | succ D =>
    have hS' := shape_kids hS
    refine Ev.up ?_
    simp only [G.spec_count]
    have := cnt_le (d := d + 1) (n := n) hS
    have hp := pow_le hd
    refine (T.spec_count.L1 hB h (fun k hk => ih D k (by omega) (h.2.2.2.2.2 k hk) (hS' k hk)) n.Kids.length 0 1 (by omega) ?_).eq rfl
    rw [List.drop_zero]
    show Cnt (d + 1) n < big
    unfold big
    omega
def Val (n : NodeT) : Bool := Shape 5 n && decide (Cnt 5 n ≤ 40)
theorem T.spec_validNode {B D : Nat} {n : NodeT} (hB : B ≤ lim) (h : Fine B D n) : Ev (fun f => G.spec_validNode f n) (Val n) := by
  refine Ev.up ?_
  simp only [G.spec_validNode]
  refine Ev.bind (T.spec_shape hB 5 D n (by omega) h) (Ev.ite (fun e => ?_) (fun e => Ev.ret' (by rw [Val, e]; rfl)))
  refine Ev.bind (T.spec_count hB 5 D n (by omega) h e) (Ev.ret' ?_)
  rw [Val, e, Bool.true_and]
  apply decide_eq_decide.2
  omega
theorem T.impl_measureNode.L1 {B D d l : Nat} {n : NodeT} (hB : B ≤ lim) (h : Fine B (D + 1) n) (hl : l < 1000)
    (hs : ∀ k, k ∈ n.Kids → ∃ c dp, Ev (fun f => G.impl_measureNode f k ((l + 1 : Nat) : Int)) (c, dp, Shape d k) ∧ (Shape d k = true → c = ((Cnt d k : Nat) : Int))) :
    ∀ (k i c : Nat) (dp : Int), i + k = n.Kids.length → (n.Kids.drop i).all (Shape d) = true → c + ((n.Kids.drop i).map (Cnt d)).sum < big →
      ∃ dp', Ev (fun f => G.impl_measureNode.L1 f n (l : Int) (c : Int) dp i) (((c + ((n.Kids.drop i).map (Cnt d)).sum : Nat) : Int), dp', true) := by
  have hk := h.kids
  unfold lim at hB
  unfold big
  intro k
  induction k with
  | zero =>
    intro i c dp hi _ hc
    refine ⟨dp, Ev.up ?_⟩
    simp only [G.impl_measureNode.L1]
    refine Ev.cf (by simp; omega) (Ev.ret' ?_)
    rw [List.drop_of_length_le (by omega)]
    rfl
  | succ k ih =>
    intro i c dp hi
    rw [drop_of_lt (default : NodeT) (by omega : i < n.Kids.length), List.map_cons, List.sum_cons, List.all_cons, Bool.and_eq_true]
    intro ⟨hS, hA⟩ hc
    obtain ⟨c1, d1, h1, h2⟩ := hs (n.Kids.getD i default) (by rw [getD_of_lt _ (by omega : i < n.Kids.length)]; exact List.getElem_mem _)
    have e := h2 hS
    subst e
    obtain ⟨dp', g1⟩ := ih (i + 1) (c + Cnt d (n.Kids.getD i default)) (if IntKind.wrap .i64 (d1 + 1) > dp then IntKind.wrap .i64 (d1 + 1) else dp) (by omega) hA (by omega)
    refine ⟨dp', Ev.up ?_⟩
    simp only [G.impl_measureNode.L1]
    refine Ev.ct (by simp; omega) (Ev.chk (by omega) ?_)
    rw [Int.toNat_natCast, wrap_suc (by omega)]
    refine Ev.bind h1 ?_
    refine Ev.ct hS ?_
    rw [wrap_suc (by omega), wrapN (m := c + Cnt d (n.Kids.getD i default)) (by omega) (by omega)]
    exact g1.eq (by rw [Nat.add_assoc])
theorem T.impl_measureNode.L1f {B D d l : Nat} {n : NodeT} (hB : B ≤ lim) (h : Fine B (D + 1) n) (hl : l < 1000)
    (hs : ∀ k, k ∈ n.Kids → ∃ c dp, Ev (fun f => G.impl_measureNode f k ((l + 1 : Nat) : Int)) (c, dp, Shape d k)) :
    ∀ (k i : Nat) (c dp : Int), i + k = n.Kids.length → (n.Kids.drop i).all (Shape d) = false → Ev (fun f => G.impl_measureNode.L1 f n (l : Int) c dp i) (0, 0, false) := by
  have hk := h.kids
  unfold lim at hB
  intro k
  induction k with
  | zero =>
    intro i c dp hi hA
    rw [List.drop_of_length_le (by omega)] at hA
    cases hA
  | succ k ih =>
    intro i c dp hi
    rw [drop_of_lt (default : NodeT) (by omega : i < n.Kids.length), List.all_cons]
    intro hA
    obtain ⟨c1, d1, h1⟩ := hs (n.Kids.getD i default) (by rw [getD_of_lt _ (by omega : i < n.Kids.length)]; exact List.getElem_mem _)
    refine Ev.up ?_
    simp only [G.impl_measureNode.L1]
    refine Ev.ct (by simp; omega) (Ev.chk (by omega) ?_)
    rw [Int.toNat_natCast, wrap_suc (by omega)]
    refine Ev.bind h1 ?_
    refine Ev.ite (fun hS => ?_) (fun hS => Ev.ret _)
    have hS : Shape d (n.Kids.getD i default) = true := hS
    rw [hS, Bool.true_and] at hA
    rw [wrap_suc (by omega)]
    exact ih (i + 1) _ _ (by omega) hA
theorem T.impl_measureNode {B : Nat} (hB : B ≤ lim) : ∀ (d l D : Nat) (n : NodeT), d + l = 6 → 1 ≤ l → Fine B D n →
    ∃ c dp, Ev (fun f => G.impl_measureNode f n (l : Int)) (c, dp, Shape d n) ∧ (Shape d n = true → c = ((Cnt d n : Nat) : Int)) := by
  intro d
  induction d with
  | zero =>
    intro l D n hl h1 h
    refine ⟨0, 0, Ev.up ?_, fun e => by cases e⟩
    simp only [G.impl_measureNode]
    exact Ev.ct (by simp; omega) (Ev.ret _)
  | succ d ih =>
    intro l D n hl h1 h
    cases D with
    | zero => exact h.elim
    | succ D =>
    have hs := fun k (hk : k ∈ n.Kids) => ih (l + 1) D k (by omega) (by omega) (h.2.2.2.2.2 k hk)
    have hp := T.impl_hasValidParts hB h
    cases hS : Shape (d + 1) n with
    | true =>
      have hk := shape_kids hS
      have hc := cnt_le hS
      have hpw := pow_le (d := d + 1) (by omega)
      obtain ⟨dp', g⟩ := T.impl_measureNode.L1 hB h (by omega) hs n.Kids.length 0 1 1 (by omega) (by rw [List.drop_zero]; exact List.all_eq_true.2 hk) (by rw [List.drop_zero]; unfold big; show Cnt (d + 1) n < _; omega)
      rw [List.drop_zero] at g
      refine ⟨((Cnt (d + 1) n : Nat) : Int), dp', Ev.up ?_, fun _ => rfl⟩
      simp only [G.impl_measureNode]
      exact Ev.cf (by simp; omega) (Ev.bind hp (Ev.ct (shape_parts hS) g))
    | false =>
      refine ⟨0, 0, Ev.up ?_, fun e => by cases e⟩
      simp only [G.impl_measureNode]
      refine Ev.cf (by simp; omega) (Ev.bind hp (Ev.ite (fun e => ?_) (fun e => Ev.ret _)))
      refine T.impl_measureNode.L1f (d := d) hB h (by omega) (fun k hk => ?_) n.Kids.length 0 1 1 (by omega) ?_
      · obtain ⟨c, dp, g, _⟩ := hs k hk; exact ⟨c, dp, g⟩
      · rw [List.drop_zero]; unfold Shape at hS; rw [e, Bool.true_and] at hS; exact hS
theorem T.impl_ValidNode {B D : Nat} {n : NodeT} (hB : B ≤ lim) (h : Fine B D n) : Ev (fun f => G.impl_ValidNode f n) (Val n) := by
  obtain ⟨c, dp, g, hc⟩ := T.impl_measureNode hB 5 1 D n rfl (by omega) h
  refine Ev.up ?_
  simp only [G.impl_ValidNode]
  refine Ev.bind g (Ev.ite (fun e => Ev.ret' ?_) (fun e => Ev.ret' ?_))
  · have e : Shape 5 n = true := e
    show decide (c ≤ 40) = _
    rw [hc e, Val, e, Bool.true_and]
    apply decide_eq_decide.2
    omega
  · have e : Shape 5 n = false := e
    rw [Val, e]; rfl
theorem T.spec_copyNode.L1 {B D : Nat} {n : NodeT} (hB : B ≤ lim) (h : Fine B (D + 1) n) (hs : ∀ k, k ∈ n.Kids → Ev (fun f => G.spec_copyNode f k) k) :
    ∀ (k i : Nat), i + k = n.Kids.length → Ev (fun f => G.spec_copyNode.L1 f n i (n.Kids.take i)) n := by
  have hl := h.kids
  have hn := h.names
  unfold lim at hB
  intro k
  induction k with
  | zero =>
    intro i hi
    refine Ev.up ?_
    simp only [G.spec_copyNode.L1]
    refine Ev.cf (by simp; omega) (Ev.chk (by omega) (Ev.ret' ?_))
    rw [List.take_of_length_le (by omega)]
    cases n; rfl
  | succ k ih =>
    intro i hi
    refine Ev.up ?_
    simp only [G.spec_copyNode.L1]
    refine Ev.ct (by simp; omega) (Ev.chk (by omega) ?_)
    rw [Int.toNat_natCast]
    refine Ev.bind (hs _ (by rw [getD_of_lt _ (by omega : i < n.Kids.length)]; exact List.getElem_mem _)) ?_
    refine Ev.chk (by rw [List.length_take]; omega) ?_
    have e : n.Kids.take i ++ [n.Kids.getD i default] = n.Kids.take (i + 1) := by rw [getD_of_lt _ (by omega : i < n.Kids.length), List.take_succ_eq_append_getElem (by omega)]
    rw [wrap_suc (by omega), e]
    exact ih (i + 1) (by omega)
theorem T.spec_copyNode {B : Nat} (hB : B ≤ lim) : ∀ {D : Nat} {n : NodeT}, Fine B D n → Ev (fun f => G.spec_copyNode f n) n := by
  intro D
  induction D with
  | zero => intro n h; exact h.elim
  | succ D ih =>
    intro n h
    refine Ev.up ?_
    simp only [G.spec_copyNode]
    exact T.spec_copyNode.L1 hB h (fun k hk => ih (h.2.2.2.2.2 k hk)) n.Kids.length 0 (by omega)
theorem T.impl_copyNode.L2 {B D : Nat} {n : NodeT} (zs : List Txt) (hB : B ≤ lim) (h : Fine B (D + 1) n) (hs : ∀ k, k ∈ n.Kids → Ev (fun f => G.impl_copyNode f k) k) :
    ∀ (k i : Nat) (z : List NodeT), i + k = n.Kids.length → z.length = n.Kids.length → z.take i = n.Kids.take i → Ev (fun f => G.impl_copyNode.L2 f n zs i z) (NodeT.mk n.Kind n.Num n.Text zs n.Kids) := by
  have hl := h.kids
  unfold lim at hB
  intro k
  induction k with
  | zero =>
    intro i z hi hz ht
    refine Ev.up ?_
    simp only [G.impl_copyNode.L2]
    refine Ev.cf (by simp; omega) (Ev.ret' ?_)
    rw [List.take_of_length_le (by omega), List.take_of_length_le (by omega)] at ht
    rw [ht]
  | succ k ih =>
    intro i z hi hz ht
    refine Ev.up ?_
    simp only [G.impl_copyNode.L2]
    refine Ev.ct (by simp; omega) (Ev.chk (by omega) ?_)
    rw [Int.toNat_natCast]
    refine Ev.bind (hs _ (by rw [getD_of_lt _ (by omega : i < n.Kids.length)]; exact List.getElem_mem _)) ?_
    refine Ev.chk (by omega) ?_
    rw [wrap_suc (by omega)]
    refine ih (i + 1) _ (by omega) (by rw [List.length_set]; exact hz) ?_
    rw [getD_of_lt _ (by omega : i < n.Kids.length), List.take_succ_eq_append_getElem (by rw [List.length_set]; omega), List.take_succ_eq_append_getElem (by omega : i < n.Kids.length), List.getElem_set_self, List.take_set_of_le (Nat.le_refl i), ht]
theorem T.impl_copyNode {B : Nat} (hB : B ≤ lim) : ∀ {D : Nat} {n : NodeT}, Fine B D n → Ev (fun f => G.impl_copyNode f n) n := by
  intro D
  induction D with
  | zero => intro n h; exact h.elim
  | succ D ih =>
    intro n h
    have hl := h.kids
    have hn := h.names
    have hB' := hB
    unfold lim at hB'
    have hK : Ev (fun f => G.impl_copyNode.K1 f n n.Names) n := by
      refine Ev.up ?_
      simp only [G.impl_copyNode.K1]
      refine Ev.ite (fun e => ?_) (fun e => Ev.ret' ?_)
      · refine Ev.chk (by omega) ?_
        refine (T.impl_copyNode.L2 n.Names hB h (fun k hk => ih (h.2.2.2.2.2 k hk)) n.Kids.length 0 (List.replicate n.Kids.length (NodeT.mk 0 0 [] [] [])) (by omega) (by simp) rfl).eq ?_
        cases n; rfl
      · have : n.Kids = [] := by
          apply List.eq_nil_of_length_eq_zero
          simp only [decide_eq_false_iff_not] at e; omega
        cases n; simp only at this; subst this; rfl
    refine Ev.up ?_
    simp only [G.impl_copyNode]
    refine Ev.ite (fun e => ?_) (fun e => ?_)
    · exact Ev.chk (by omega) hK
    · have : n.Names = [] := by
        apply List.eq_nil_of_length_eq_zero
        simp only [decide_eq_false_iff_not] at e; omega
      rw [this] at hK
      exact hK
end Go.Ab
end
section
namespace Go.Ab
open Go
def decN (i : Nat) : Txt := if i < 10 then [UInt8.ofNat (48 + i)] else decN (i / 10) ++ [UInt8.ofNat (48 + i % 10)]
  termination_by i
theorem decN_small {i : Nat} (h : i < 10) : decN i = [UInt8.ofNat (48 + i)] := by rw [decN, if_pos h]
theorem decN_big {i : Nat} (h : ¬ i < 10) : decN i = decN (i / 10) ++ [UInt8.ofNat (48 + i % 10)] := by rw [decN, if_neg h]
theorem decN_len : ∀ (k i : Nat), i < k → (decN i).length ≤ i + 1 := by
  intro k
  induction k with
  | zero => intro i h; omega
  | succ k ih =>
    intro i h
    by_cases hi : i < 10
    · rw [decN_small hi]; simp
    · rw [decN_big hi, List.length_append]
      have := ih (i / 10) (by omega)
      simp only [List.length_singleton]
      omega
theorem wrap_u8 {m : Nat} (h : m < 256) : IntKind.wrap .u8 (m : Int) = m := by
  simp only [IntKind.wrap, IntKind.bits, IntKind.signed]
  simp
  omega
theorem T.spec_decimal : ∀ (k i : Nat), i < k → i < lim → Ev (fun f => G.spec_decimal f (i : Int)) (decN i) := by
  intro k
  induction k with
  | zero => intro i h; omega
  | succ k ih =>
    intro i h hl
    unfold lim at hl
    have hm : 4294967296 < maxLen := by decide
    refine Ev.up ?_
    simp only [G.spec_decimal]
    refine Ev.cf (by simp) ?_
    refine Ev.ite (fun e => ?_) (fun e => ?_)
    · simp only [decide_eq_true_eq] at e
      refine Ev.chk (by omega) (Ev.ret' ?_)
      rw [decN_small (by omega), wrapN (m := 48 + i) (by omega) (by omega), wrap_u8 (by omega), Int.toNat_natCast]
    · simp only [decide_eq_false_iff_not] at e
      have e1 : Int.tdiv (i : Int) 10 = ((i / 10 : Nat) : Int) := by rw [Int.tdiv_eq_ediv_of_nonneg (by omega)]; omega
      have e2 : Int.tmod (i : Int) 10 = ((i % 10 : Nat) : Int) := by rw [Int.tmod_eq_emod_of_nonneg (by omega)]; omega
      rw [e1, e2, wrapN (m := i / 10) rfl (by omega), wrapN (m := 48 + i % 10) (by omega) (by omega), wrap_u8 (by omega), Int.toNat_natCast]
      refine Ev.bind (ih (i / 10) (by omega) (by unfold lim; omega)) ?_
      have := decN_len (i / 10 + 1) (i / 10) (by omega)
      refine Ev.chk (by omega) (Ev.chk (by omega) (Ev.ret' ?_))
      exact (decN_big (by omega)).symm
theorem T.decimal {i : Nat} (h : i < lim) : Ev (fun f => G.spec_decimal f (i : Int)) (decN i) := T.spec_decimal (i + 1) i (by omega) h
theorem T.strconv_Itoa {i : Nat} (h : i < 10) : Ev (fun f => G.strconv_Itoa f (i : Int)) (decN i) := by
  have hs : Ev (fun f => G.internal_strconv_small f (i : Int)) (decN i) := by
    refine Ev.up ?_
    simp only [G.internal_strconv_small]
    refine Ev.ct (by simp; omega) ?_
    rw [wrap_suc (by omega)]
    refine Ev.chk (by omega) (Ev.ret' ?_)
    rw [decN_small h, Int.toNat_natCast, Int.toNat_natCast]
    have : i = 0 ∨ i = 1 ∨ i = 2 ∨ i = 3 ∨ i = 4 ∨ i = 5 ∨ i = 6 ∨ i = 7 ∨ i = 8 ∨ i = 9 := by omega
    rcases this with rfl | rfl | rfl | rfl | rfl | rfl | rfl | rfl | rfl | rfl <;> rfl
  have hf : Ev (fun f => G.internal_strconv_FormatInt f (i : Int) 10) (decN i) := by
    refine Ev.up ?_
    simp only [G.internal_strconv_FormatInt]
    refine Ev.ct rfl (Ev.ct (by simp) (Ev.ct (by simp; omega) ?_))
    exact Ev.bind hs (Ev.ret _)
  have hi : Ev (fun f => G.internal_strconv_Itoa f (i : Int)) (decN i) := by
    refine Ev.up ?_
    simp only [G.internal_strconv_Itoa]
    exact Ev.bind hf (Ev.ret _)
  refine Ev.up ?_
  simp only [G.strconv_Itoa]
  exact Ev.bind hi (Ev.ret _)
def hit (n : NodeT) (s : Txt) (j : Nat) : Bool := (n.Kind == 4 && n.Names.getD j default == s) || (n.Kind == 3 && decN j == s)
def plc (n : NodeT) (s : Txt) : Option Nat := (List.range' 0 n.Kids.length).find? (hit n s)
def plcI : Option Nat → Int
  | some j => j
  | none => -1
theorem plc_lt {n : NodeT} {s : Txt} {j : Nat} (h : plc n s = some j) : j < n.Kids.length := by
  have := List.mem_of_find?_eq_some h
  simp at this
  exact this
theorem plc_hit {n : NodeT} {s : Txt} {j : Nat} (h : plc n s = some j) : hit n s j = true := List.find?_some h
theorem T.spec_place.L1 {B D : Nat} {n : NodeT} (s : Txt) (hB : B ≤ lim) (h : Fine B D n) :
    ∀ (k i : Nat), i + k = n.Kids.length → Ev (fun f => G.spec_place.L1 f n s i) (plcI ((List.range' i k).find? (hit n s))) := by
  have hl := h.kids
  have hm := h.map
  intro k
  induction k with
  | zero =>
    intro i hi
    refine Ev.up ?_
    simp only [G.spec_place.L1]
    exact Ev.cf (by simp; omega) (Ev.ret _)
  | succ k ih =>
    intro i hi
    have hih := ih (i + 1) (by omega)
    have hd := T.decimal (i := i) (by omega)
    unfold lim at hB
    rw [List.range'_succ, List.find?_cons]
    have fin3 : n.Kind ≠ 4 → Ev (fun f => cond (n.Kind == 3) (Option.bind (G.spec_decimal f (i : Int)) fun v5 => cond (v5 == s) (some (i : Int)) (G.spec_place.L1 f n s (IntKind.wrap .i64 ((i : Int) + 1)))) (G.spec_place.L1 f n s (IntKind.wrap .i64 ((i : Int) + 1))))
        (plcI (match hit n s i with | true => some i | false => (List.range' (i + 1) k).find? (hit n s))) := by
      intro h4
      have e4 : (n.Kind == 4) = false := by simpa using h4
      rw [wrap_suc (by omega)]
      refine Ev.ite (fun e => ?_) (fun e => ?_)
      · refine Ev.bind hd (Ev.ite (fun e2 => Ev.ret' ?_) (fun e2 => ?_))
        · rw [show hit n s i = true by unfold hit; rw [e, e2, e4]; rfl]; rfl
        · exact hih.eq (by rw [show hit n s i = false by unfold hit; rw [e, e2, e4]; rfl])
      · exact hih.eq (by rw [show hit n s i = false by unfold hit; rw [e, e4]; rfl])
    refine Ev.up ?_
    simp only [G.spec_place.L1]
    refine Ev.ct (by simp; omega) ?_
    refine Ev.ite (fun e => ?_) (fun e => fin3 (by simpa using e))
    have h4 : n.Kind = 4 := by simpa using e
    have := hm h4
    refine Ev.chk (by omega) ?_
    rw [Int.toNat_natCast]
    refine Ev.ite (fun e2 => Ev.ret' ?_) (fun e2 => ?_)
    · rw [show hit n s i = true by unfold hit; rw [e, e2]; rfl]; rfl
    · refine Ev.cf (by rw [h4]; rfl) ?_
      rw [wrap_suc (by omega)]
      exact hih.eq (by rw [show hit n s i = false by unfold hit; rw [e2, h4]; rfl])
theorem T.spec_place {B D : Nat} {n : NodeT} (s : Txt) (hB : B ≤ lim) (h : Fine B D n) : Ev (fun f => G.spec_place f n s) (plcI (plc n s)) := by
  refine Ev.up ?_
  simp only [G.spec_place]
  exact T.spec_place.L1 s hB h n.Kids.length 0 (by omega)
theorem T.cmp_Less_string (x y : Txt) : Ev (fun f => G.cmp_Less_string f x y) (bl x y) := by
  refine Ev.up ?_
  simp only [G.cmp_Less_string]
  have : Ev (fun f => G.cmp_isNaN_string f x) false := by
    refine Ev.up ?_
    simp only [G.cmp_isNaN_string]
    exact Ev.ret' (by simp)
  exact Ev.bind this (Ev.ret _)
structure LB (l : List Txt) (t : Txt) (i : Nat) : Prop where
  le : i ≤ l.length
  lo : ∀ j, j < i → bl (l.getD j default) t = true
  hi : ∀ j, i ≤ j → j < l.length → bl (l.getD j default) t = false
theorem half (i j : Nat) (h : i + j < 9223372036854775808) : IntKind.wrap .i64 ((Int.fdiv (IntKind.wrap .u64 (IntKind.wrap .i64 ((i : Int) + (j : Int)))) (2 ^ (min 1 (IntKind.bits .u64))))) = (((i + j) / 2 : Nat) : Int) := by
  rw [wrapN (x := (i : Int) + (j : Int)) (m := i + j) (by omega) h]
  have e : IntKind.wrap .u64 ((i + j : Nat) : Int) = ((i + j : Nat) : Int) := by
    simp only [IntKind.wrap, IntKind.bits, IntKind.signed]
    simp
    omega
  rw [e]
  have e2 : Int.fdiv ((i + j : Nat) : Int) (2 ^ (min 1 (IntKind.bits .u64))) = (((i + j) / 2 : Nat) : Int) := by
    have : (2 : Int) ^ (min 1 (IntKind.bits .u64)) = 2 := rfl
    rw [this, Int.fdiv_eq_ediv_of_nonneg _ (by omega)]
    omega
  rw [e2]
  exact wrapN rfl (by omega)
theorem T.BinarySearch.L1 {l : List Txt} (t : Txt) (hl : l.length < big) (hA : ∀ i j, i < j → j < l.length → bl (l.getD i default) (l.getD j default) = true) :
    ∀ (k i j : Nat), j - i ≤ k → i ≤ j → j ≤ l.length → (∀ q, q < i → bl (l.getD q default) t = true) → (∀ q, j ≤ q → q < l.length → bl (l.getD q default) t = false) →
      ∃ p : Nat, Ev (fun f => G.slices_BinarySearch_string.L1 f l t i j) ((p : Int), decide (p < l.length) && l.getD p default == t) ∧ LB l t p := by
  unfold big at hl
  intro k
  induction k with
  | zero =>
    intro i j hk hij hj hlo hhi
    have : i = j := by omega
    subst this
    refine ⟨i, Ev.up ?_, hj, hlo, hhi⟩
    simp only [G.slices_BinarySearch_string.L1]
    refine Ev.cf (by simp) (Ev.ite (fun e => ?_) (fun e => Ev.ret' ?_))
    · have e' : i < l.length := by simpa using e
      rw [Int.toNat_natCast]
      have d1 : decide (i < l.length) = true := by simpa using e'
      rw [d1, Bool.true_and]
      refine Ev.chk (by omega) (Ev.ite (fun e2 => Ev.ret' (by rw [e2])) (fun e2 => Ev.chk (by omega) ?_))
      have : Ev (fun f => G.slices_isNaN_string f (l.getD i default)) false := by
        refine Ev.up ?_
        simp only [G.slices_isNaN_string]
        exact Ev.ret' (by simp)
      exact Ev.bind this (Ev.ret' (by rw [e2]))
    · have d1 : decide (i < l.length) = false := by simpa using e
      rw [d1]; rfl
  | succ k ih =>
    intro i j hk hij hj hlo hhi
    by_cases he : i = j
    · exact ih i j (by omega) hij hj hlo hhi
    have h1 : (i + j) / 2 < j := by omega
    have h2 : i ≤ (i + j) / 2 := by omega
    cases hc : bl (l.getD ((i + j) / 2) default) t with
    | true =>
      obtain ⟨p, g, hp⟩ := ih ((i + j) / 2 + 1) j (by omega) (by omega) hj (fun q hq => by
        by_cases hq2 : q = (i + j) / 2
        · rw [hq2]; exact hc
        · exact bl_trans (hA q ((i + j) / 2) (by omega) (by omega)) hc) hhi
      refine ⟨p, Ev.up ?_, hp⟩
      simp only [G.slices_BinarySearch_string.L1]
      refine Ev.ct (by simp; omega) ?_
      rw [half i j (by omega), Int.toNat_natCast]
      refine Ev.chk (by omega) (Ev.bind (T.cmp_Less_string _ _) (Ev.ct hc ?_))
      rw [wrap_suc (by omega)]
      exact g
    | false =>
      obtain ⟨p, g, hp⟩ := ih i ((i + j) / 2) (by omega) h2 (by omega) hlo (fun q hq hq2 => by
        by_cases hq3 : q = (i + j) / 2
        · rw [hq3]; exact hc
        · cases hb : bl (l.getD q default) t with
          | false => rfl
          | true => rw [bl_trans (hA ((i + j) / 2) q (by omega) hq2) hb] at hc; cases hc)
      refine ⟨p, Ev.up ?_, hp⟩
      simp only [G.slices_BinarySearch_string.L1]
      refine Ev.ct (by simp; omega) ?_
      rw [half i j (by omega), Int.toNat_natCast]
      refine Ev.chk (by omega) (Ev.bind (T.cmp_Less_string _ _) (Ev.cf hc ?_))
      exact g
theorem Asc_tail {x : Txt} {l : List Txt} (h : Asc (x :: l) = true) : Asc l = true := by
  cases l with
  | nil => rfl
  | cons y r => rw [Asc, Bool.and_eq_true] at h; exact h.2
theorem Asc_head : ∀ {l : List Txt} {x : Txt}, Asc (x :: l) = true → ∀ y, y ∈ l → bl x y = true
  | [], _, _, y, hy => by cases hy
  | z :: r, x, h, y, hy => by
    have h1 : bl x z = true := by rw [Asc, Bool.and_eq_true] at h; exact h.1
    rcases List.mem_cons.1 hy with rfl | hy
    · exact h1
    · exact bl_trans h1 (Asc_head (Asc_tail h) y hy)
theorem Asc_lt : ∀ {l : List Txt}, Asc l = true → ∀ i j, i < j → j < l.length → bl (l.getD i default) (l.getD j default) = true
  | [], _, i, j, _, hj => by simp at hj
  | x :: l, h, i, j, hij, hj => by
    cases j with
    | zero => omega
    | succ j =>
      rw [List.getD_cons_succ]
      have hj' : j < l.length := by simpa using hj
      cases i with
      | zero => rw [List.getD_cons_zero, getD_of_lt _ hj']; exact Asc_head h _ (List.getElem_mem _)
      | succ i => rw [List.getD_cons_succ]; exact Asc_lt (Asc_tail h) i j (by omega) hj'
theorem T.slices_BinarySearch_string {l : List Txt} (t : Txt) (hl : l.length < big) (hA : Asc l = true) :
    ∃ p : Nat, Ev (fun f => G.slices_BinarySearch_string f l t) ((p : Int), decide (p < l.length) && l.getD p default == t) ∧ LB l t p := by
  obtain ⟨p, g, hp⟩ := T.BinarySearch.L1 t hl (Asc_lt hA) l.length 0 l.length (by omega) (by omega) (by omega) (fun q hq => by omega) (fun q h1 h2 => by omega)
  refine ⟨p, Ev.up ?_, hp⟩
  simp only [G.slices_BinarySearch_string]
  exact g
end Go.Ab
end
section
namespace Go.Ab
open Go
theorem NodeT.eta (n : NodeT) : NodeT.mk n.Kind n.Num n.Text n.Names n.Kids = n := by cases n; rfl
theorem find_none {p : Nat → Bool} : ∀ {k i : Nat}, (List.range' i k).find? p = none ↔ ∀ q, i ≤ q → q < i + k → p q = false := by
  intro k i
  rw [List.find?_eq_none]
  constructor
  · intro h q h1 h2
    have := h q (by simp; omega)
    simpa using this
  · intro h q hq
    simp at hq
    rw [h q hq.1 hq.2]; simp
theorem find_some {p : Nat → Bool} : ∀ {k i j : Nat}, (List.range' i k).find? p = some j ↔ (i ≤ j ∧ j < i + k ∧ p j = true ∧ ∀ q, i ≤ q → q < j → p q = false) := by
  intro k
  induction k with
  | zero => intro i j; simp; omega
  | succ k ih =>
    intro i j
    rw [List.range'_succ, List.find?_cons]
    cases h : p i with
    | true =>
      simp only [Option.some.injEq]
      constructor
      · rintro rfl
        exact ⟨by omega, by omega, h, fun q h1 h2 => by omega⟩
      · rintro ⟨h1, h2, h3, h4⟩
        by_cases e : i = j
        · exact e
        · have := h4 i (by omega) (by omega); rw [h] at this; cases this
    | false =>
      simp only
      rw [ih]
      constructor
      · rintro ⟨h1, h2, h3, h4⟩
        refine ⟨by omega, by omega, h3, fun q g1 g2 => ?_⟩
        by_cases e : q = i
        · rw [e]; exact h
        · exact h4 q (by omega) g2
      · rintro ⟨h1, h2, h3, h4⟩
        have : j ≠ i := fun e => by rw [e, h] at h3; cases h3
        exact ⟨by omega, by omega, h3, fun q g1 g2 => h4 q (by omega) g2⟩
theorem plc_some {n : NodeT} {s : Txt} {j : Nat} : plc n s = some j ↔ (j < n.Kids.length ∧ hit n s j = true ∧ ∀ q, q < j → hit n s q = false) := by
  unfold plc
  rw [find_some]
  constructor
  · rintro ⟨h1, h2, h3, h4⟩; exact ⟨by omega, h3, fun q hq => h4 q (by omega) hq⟩
  · rintro ⟨h1, h2, h3⟩; exact ⟨by omega, by omega, h2, fun q _ hq => h3 q hq⟩
theorem plc_none {n : NodeT} {s : Txt} : plc n s = none ↔ ∀ q, q < n.Kids.length → hit n s q = false := by
  unfold plc
  rw [find_none]
  constructor
  · intro h q hq; exact h q (by omega) (by omega)
  · intro h q _ hq; exact h q (by omega)
theorem parts_map {n : NodeT} (h : Parts n = true) (hk : n.Kind = 4) : n.Num = 0 ∧ n.Text = [] ∧ NM n.Names = true ∧ n.Names.length ≤ 6 ∧ n.Kids.length = n.Names.length := by
  unfold Parts at h
  simp [hk] at h
  obtain ⟨⟨h1, h2⟩, ⟨h3, h4⟩, h5⟩ := h
  exact ⟨h1, h2, h3, h4, h5⟩
theorem parts_list {n : NodeT} (h : Parts n = true) (hk : n.Kind = 3) : n.Num = 0 ∧ n.Text = [] ∧ n.Names = [] ∧ n.Kids.length ≤ 6 := by
  unfold Parts at h
  simp [hk] at h
  obtain ⟨⟨⟨h1, h2⟩, h3⟩, h4⟩ := h
  exact ⟨h1, h2, h3, h4⟩
theorem parts_leaf {n : NodeT} (h : Parts n = true) (h4 : n.Kind ≠ 4) (h3 : n.Kind ≠ 3) : n.Names = [] ∧ n.Kids = [] := by
  unfold Parts at h
  have e4 : (n.Kind == 4) = false := by simpa using h4
  simp only [Bool.and_eq_true, e4, Bool.false_or] at h
  obtain ⟨⟨_, h1⟩, h2⟩ := h
  refine ⟨List.eq_nil_of_length_eq_zero (by simpa using h1), List.eq_nil_of_length_eq_zero ?_⟩
  by_cases k0 : n.Kind = 0
  · rw [if_pos k0] at h2; simpa using h2
  rw [if_neg k0] at h2
  by_cases k1 : n.Kind = 1
  · rw [if_pos k1] at h2; simp at h2; rw [h2.2]; rfl
  rw [if_neg k1] at h2
  by_cases k2 : n.Kind = 2
  · rw [if_pos k2] at h2; simp at h2; rw [h2.2]; rfl
  rw [if_neg k2, if_neg h3, if_neg h4] at h2
  cases h2
theorem nm_asc {l : List Txt} (h : NM l = true) : Asc l = true := by unfold NM at h; simp only [Bool.and_eq_true] at h; exact h.2
theorem nm_all {l : List Txt} (h : NM l = true) : ∀ s, s ∈ l → PT s = true := by unfold NM at h; simp only [Bool.and_eq_true] at h; exact List.all_eq_true.1 h.1
theorem parts_len {n : NodeT} (h : Parts n = true) : n.Kids.length ≤ 6 := by
  by_cases k : n.Kids.length ≤ 6
  · exact k
  · rw [shape_long (by omega)] at h; cases h
theorem hit_map {n : NodeT} (hk : n.Kind = 4) (s : Txt) (j : Nat) : hit n s j = (n.Names.getD j default == s) := by unfold hit; rw [hk]; simp
theorem hit_list {n : NodeT} (hk : n.Kind = 3) (s : Txt) (j : Nat) : hit n s j = (decN j == s) := by unfold hit; rw [hk]; simp
theorem hit_leaf {n : NodeT} (h4 : n.Kind ≠ 4) (h3 : n.Kind ≠ 3) (s : Txt) (j : Nat) : hit n s j = false := by
  unfold hit
  rw [show (n.Kind == 4) = false by simpa using h4, show (n.Kind == 3) = false by simpa using h3]; rfl
theorem plc_lb {n : NodeT} {s : Txt} {p : Nat} (hk : n.Kind = 4) (hA : Asc n.Names = true) (hl : n.Kids.length = n.Names.length) (h : LB n.Names s p) :
    plc n s = if decide (p < n.Names.length) && n.Names.getD p default == s then some p else none := by
  cases hc : decide (p < n.Names.length) && n.Names.getD p default == s with
  | true =>
    simp only [Bool.and_eq_true, decide_eq_true_eq] at hc
    rw [if_pos rfl, plc_some]
    refine ⟨by omega, by rw [hit_map hk]; exact hc.2, fun q hq => ?_⟩
    rw [hit_map hk]
    have := bl_ne (h.lo q hq)
    simpa using this
  | false =>
    rw [if_neg (by simp), plc_none]
    intro q hq
    rw [hit_map hk]
    by_cases h1 : q < p
    · have := bl_ne (h.lo q h1)
      simpa using this
    · cases he : n.Names.getD q default == s with
      | false => rfl
      | true =>
        rw [beq_iff_eq] at he
        by_cases h2 : q = p
        · subst h2
          rw [he] at hc
          have : decide (q < n.Names.length) = true := by simp; omega
          rw [this] at hc
          simp at hc
        · have := Asc_lt hA p q (by omega) (by omega)
          rw [he, h.hi p (by omega) (by omega)] at this
          cases this
theorem T.impl_kidIndex.L1 {n : NodeT} (s : Txt) (hk : n.Kind = 3) (hl : n.Kids.length ≤ 6) :
    ∀ (k i : Nat), i + k = n.Kids.length → Ev (fun f => G.impl_kidIndex.L1 f n s i) (match (List.range' i k).find? (hit n s) with | some j => ((j : Int), true) | none => (0, false)) := by
  intro k
  induction k with
  | zero =>
    intro i hi
    refine Ev.up ?_
    simp only [G.impl_kidIndex.L1]
    exact Ev.cf (by simp; omega) (Ev.ret _)
  | succ k ih =>
    intro i hi
    refine Ev.up ?_
    simp only [G.impl_kidIndex.L1]
    refine Ev.ct (by simp; omega) (Ev.bind (T.strconv_Itoa (i := i) (by omega)) ?_)
    rw [List.range'_succ, List.find?_cons, hit_list hk, wrap_suc (by omega)]
    refine Ev.ite (fun e => Ev.ret' (by rw [e])) (fun e => ?_)
    exact (ih (i + 1) (by omega)).eq (by rw [e])
theorem T.impl_kidIndex {n : NodeT} (s : Txt) (h : Parts n = true) :
    ∃ v b, Ev (fun f => G.impl_kidIndex f n s) (v, b) ∧ (∀ j, plc n s = some j → v = (j : Int) ∧ b = true) ∧ (plc n s = none → b = false) := by
  by_cases h4 : n.Kind = 4
  · obtain ⟨_, _, hN, hl, hkl⟩ := parts_map h h4
    obtain ⟨p, g, hp⟩ := T.slices_BinarySearch_string s (by unfold big; omega) (nm_asc hN)
    have hpl := plc_lb h4 (nm_asc hN) hkl hp
    refine ⟨p, decide (p < n.Names.length) && n.Names.getD p default == s, Ev.up ?_, fun j hj => ?_, fun hn => ?_⟩
    · simp only [G.impl_kidIndex]
      exact Ev.ct (by simpa using h4) (Ev.bind g (Ev.ret _))
    · rw [hpl] at hj
      split at hj
      · rename_i hc
        cases hj
        exact ⟨rfl, hc⟩
      · cases hj
    · rw [hpl] at hn
      split at hn
      · cases hn
      · rename_i hc; simpa using hc
  · have e4 : (n.Kind == 4) = false := by simpa using h4
    by_cases h3 : n.Kind = 3
    · obtain ⟨_, _, _, hl⟩ := parts_list h h3
      have g := T.impl_kidIndex.L1 s h3 hl n.Kids.length 0 (by omega)
      cases hp : plc n s with
      | some j =>
        refine ⟨j, true, Ev.up ?_, fun j' hj => (by cases hj; exact ⟨rfl, rfl⟩), fun hn => (by cases hn)⟩
        simp only [G.impl_kidIndex]
        refine Ev.cf e4 (Ev.ct (by simpa using h3) ?_)
        exact g.eq (by unfold plc at hp; rw [hp])
      | none =>
        refine ⟨0, false, Ev.up ?_, fun j' hj => (by cases hj), fun _ => rfl⟩
        simp only [G.impl_kidIndex]
        refine Ev.cf e4 (Ev.ct (by simpa using h3) ?_)
        exact g.eq (by unfold plc at hp; rw [hp])
    · have hp : plc n s = none := plc_none.2 (fun q _ => hit_leaf h4 h3 s q)
      refine ⟨0, false, Ev.up ?_, fun j hj => (by rw [hp] at hj; cases hj), fun _ => rfl⟩
      simp only [G.impl_kidIndex]
      exact Ev.cf e4 (Ev.cf (by simpa using h3) (Ev.ret _))
def atN : NodeT → List Txt → Option NodeT
  | n, [] => some n
  | n, s :: p => match plc n s with
    | some j => atN (n.Kids.getD j default) p
    | none => none
def noNode : NodeT := NodeT.mk 0 0 [] [] []
def pairO : Option NodeT → NodeT × Bool
  | some n => (n, true)
  | none => (noNode, false)
theorem T.spec_at.L1 {B : Nat} (p : List Txt) (hB : B ≤ lim) (hp : p.length < big) :
    ∀ (k i D : Nat) (n : NodeT), i + k = p.length → Fine B D n → Ev (fun f => G.spec_at.L1 f p i n.Kind n.Num n.Text n.Names n.Kids) (pairO (atN n (p.drop i))) := by
  unfold big at hp
  intro k
  induction k with
  | zero =>
    intro i D n hi h
    refine Ev.up ?_
    simp only [G.spec_at.L1, NodeT.eta]
    refine Ev.cf (by simp; omega) ?_
    rw [List.drop_of_length_le (by omega)]
    have hc := T.spec_copyNode hB h
    exact Ev.bind hc (Ev.ret _)
  | succ k ih =>
    intro i D n hi h
    refine Ev.up ?_
    simp only [G.spec_at.L1, NodeT.eta]
    refine Ev.ct (by simp; omega) (Ev.chk (by omega) ?_)
    rw [drop_of_lt (default : Txt) (by omega : i < p.length), Int.toNat_natCast]
    have hP := T.spec_place (p.getD i default) hB h
    refine Ev.bind hP ?_
    rw [atN]
    cases hj : plc n (p.getD i default) with
    | none => exact Ev.ct rfl (Ev.ret _)
    | some j =>
      have hjl := plc_lt hj
      cases D with
      | zero => exact h.elim
      | succ D =>
      refine Ev.cf (decide_eq_false (by simp only [plcI]; omega)) (Ev.chk (by simp only [plcI]; omega) ?_)
      rw [wrap_suc (by omega)]
      exact ih (i + 1) D _ (by omega) (h.kid hjl)
theorem T.spec_at {B D : Nat} {n : NodeT} (p : List Txt) (hB : B ≤ lim) (hp : p.length < big) (h : Fine B D n) : Ev (fun f => G.spec_at f n p) (pairO (atN n p)) := by
  refine Ev.up ?_
  simp only [G.spec_at]
  exact T.spec_at.L1 p hB hp p.length 0 D n (by omega) h
theorem T.impl_findNode.L1 (p : List Txt) (hp : p.length < big) :
    ∀ (k i d : Nat) (n : NodeT), i + k = p.length → Shape d n = true → Ev (fun f => G.impl_findNode.L1 f p i n.Kind n.Num n.Text n.Names n.Kids) (pairO (atN n (p.drop i))) := by
  unfold big at hp
  intro k
  induction k with
  | zero =>
    intro i d n hi h
    refine Ev.up ?_
    simp only [G.impl_findNode.L1, NodeT.eta]
    refine Ev.cf (by simp; omega) ?_
    rw [List.drop_of_length_le (by omega)]
    exact Ev.ret _
  | succ k ih =>
    intro i d n hi h
    cases d with
    | zero => cases h
    | succ d =>
    refine Ev.up ?_
    simp only [G.impl_findNode.L1, NodeT.eta]
    refine Ev.ct (by simp; omega) (Ev.chk (by omega) ?_)
    rw [drop_of_lt (default : Txt) (by omega : i < p.length), Int.toNat_natCast]
    obtain ⟨v, b, g, h1, h2⟩ := T.impl_kidIndex (p.getD i default) (shape_parts h)
    refine Ev.bind g ?_
    rw [atN]
    cases hj : plc n (p.getD i default) with
    | none => exact Ev.cf (h2 hj) (Ev.ret _)
    | some j =>
      have hjl := plc_lt hj
      obtain ⟨rfl, rfl⟩ := h1 j hj
      refine Ev.ct rfl (Ev.chk (by omega) ?_)
      rw [wrap_suc (by omega)]
      exact ih (i + 1) d _ (by omega) (shape_kids h _ (by rw [Int.toNat_natCast, getD_of_lt _ hjl]; exact List.getElem_mem _))
theorem T.impl_findNode {d : Nat} {n : NodeT} (p : List Txt) (hp : p.length < big) (h : Shape d n = true) : Ev (fun f => G.impl_findNode f n p) (pairO (atN n p)) := by
  refine Ev.up ?_
  simp only [G.impl_findNode]
  exact T.impl_findNode.L1 p hp p.length 0 d n (by omega) h
end Go.Ab
end
section
namespace Go.Ab
open Go
def setK (n : NodeT) (j : Nat) (c : NodeT) : NodeT := NodeT.mk n.Kind n.Num n.Text n.Names (n.Kids.set j c)
theorem fine_set {B D E : Nat} {n v : NodeT} {j : Nat} (h : Fine B (D + 1) n) (hv : Fine B E v) : Fine B (max D E + 1) (setK n j v) := by
  obtain ⟨h1, h2, h3, h4, h5, h6⟩ := h
  refine ⟨h1, h2, h3, by simpa [setK] using h4, by simpa [setK] using h5, fun k hk => ?_⟩
  rcases List.mem_or_eq_of_mem_set hk with hk | rfl
  · exact (h6 k hk).mono (Nat.le_refl _) (Nat.le_max_left _ _)
  · exact hv.mono (Nat.le_refl _) (Nat.le_max_right _ _)
theorem T.spec_withKid {B D E : Nat} {n v : NodeT} {j : Nat} (hB : B ≤ lim) (h : Fine B D n) (hv : Fine B E v) (hj : j < n.Kids.length) : Ev (fun f => G.spec_withKid f n j v) (setK n j v) := by
  refine Ev.up ?_
  simp only [G.spec_withKid]
  refine Ev.bind (T.spec_copyNode hB h) (Ev.bind (T.spec_copyNode hB hv) (Ev.chk (by omega) (Ev.ret' ?_)))
  rw [Int.toNat_natCast]; rfl
theorem pt_len {s : Txt} (h : PT s = true) : s.length ≤ 12 := by unfold PT at h; simp at h; exact h.2
theorem shape_fine : ∀ {d : Nat} {n : NodeT}, Shape d n = true → Fine 12 d n
  | 0, _, h => by cases h
  | d + 1, n, h => by
    have hp := shape_parts h
    have hk := shape_kids h
    have hl := parts_len hp
    refine ⟨?_, ?_, ?_, by omega, ?_, fun k hk' => shape_fine (hk k hk')⟩
    · by_cases h2 : n.Kind = 2
      · unfold Parts at hp; simp [h2] at hp; exact pt_len hp.2.1
      · have e2 : (n.Kind == 2) = false := by simpa using h2
        unfold Parts at hp
        simp only [e2, Bool.false_or, Bool.and_eq_true] at hp
        have := hp.1.1.2
        rw [beq_iff_eq] at this
        rw [this]; simp
    · by_cases h4 : n.Kind = 4
      · have := (parts_map hp h4).2.2.2.1; omega
      · by_cases h3 : n.Kind = 3
        · rw [(parts_list hp h3).2.2.1]; simp
        · rw [(parts_leaf hp h4 h3).1]; simp
    · intro s hs
      by_cases h4 : n.Kind = 4
      · exact pt_len (nm_all (parts_map hp h4).2.2.1 s hs)
      · by_cases h3 : n.Kind = 3
        · rw [(parts_list hp h3).2.2.1] at hs; cases hs
        · rw [(parts_leaf hp h4 h3).1] at hs; cases hs
    · intro h4; have := (parts_map hp h4).2.2.2.2; omega
theorem shape_kid {d : Nat} {n : NodeT} (h : Shape (d + 1) n = true) {j : Nat} (hj : j < n.Kids.length) : Shape d (n.Kids.getD j default) = true := by
  rw [getD_of_lt _ hj]; exact shape_kids h _ (List.getElem_mem _)
theorem lim12 : 12 ≤ lim := by decide
end Go.Ab
end
section
namespace Go.Ab
open Go
def insL {α : Type} (l : List α) (k : Nat) (v : α) : List α := (l.take k ++ [v]) ++ l.drop k
def slt (n : NodeT) (s : Txt) : Nat := ((List.range' 0 n.Kids.length).find? fun i => bl s (n.Names.getD i default)).getD n.Kids.length
def addN (n : NodeT) (s : Txt) (v : NodeT) : Option NodeT :=
  match plc n s with
  | some k => if n.Kind = 4 then some (setK n k v) else some (NodeT.mk n.Kind 0 [] [] (insL n.Kids k v))
  | none => if n.Kind = 3 then (if s = [45] ∨ s = decN n.Kids.length then some (NodeT.mk n.Kind 0 [] [] (insL n.Kids n.Kids.length v)) else none)
    else if n.Kind = 4 then some (NodeT.mk n.Kind 0 [] (insL n.Names (slt n s) s) (insL n.Kids (slt n s) v)) else none
theorem slt_le (n : NodeT) (s : Txt) : slt n s ≤ n.Kids.length := by
  unfold slt
  cases h : (List.range' 0 n.Kids.length).find? fun i => bl s (n.Names.getD i default) with
  | none => simp
  | some j => have := (find_some.1 h).2.1; simp only [Option.getD_some]; omega
def slotN (n : NodeT) (s : Txt) : Option (Nat × Bool) :=
  match plc n s with
  | some k => some (k, n.Kind == 4)
  | none => if n.Kind = 3 then (if s = [45] ∨ s = decN n.Kids.length then some (n.Kids.length, false) else none)
    else if n.Kind = 4 then some (slt n s, false) else none
def slotI : Option (Nat × Bool) → Int × Bool
  | some (k, b) => ((k : Int), b)
  | none => (-1, false)
theorem T.spec_slot.L1 {n : NodeT} (s : Txt) (hk : n.Kind ≠ 4) : Ev (fun f => G.spec_slot.L1 f n s 0) (-1, false) := by
  refine Ev.up ?_
  simp only [G.spec_slot.L1]
  exact Ev.cf (by simpa using hk) (Ev.ret _)
theorem T.spec_slot.L2 {B D : Nat} {n : NodeT} (s : Txt) (hB : B ≤ lim) (h : Fine B D n) (hk : n.Kind = 4) :
    ∀ (k i : Nat), i + k = n.Kids.length → Ev (fun f => G.spec_slot.L2 f n s i) (((((List.range' i k).find? fun i => bl s (n.Names.getD i default)).getD n.Kids.length : Nat) : Int), false) := by
  have hl := h.kids
  have hm := h.map hk
  unfold lim at hB
  intro k
  induction k with
  | zero =>
    intro i hi
    refine Ev.up ?_
    simp only [G.spec_slot.L2]
    refine Ev.ct (by simpa using hk) (Ev.ct (by simp; omega) (Ev.ct (by simp; omega) (Ev.ret' ?_)))
    show ((i : Int), false) = (((n.Kids.length : Nat) : Int), false)
    rw [show i = n.Kids.length by omega]
  | succ k ih =>
    intro i hi
    refine Ev.up ?_
    simp only [G.spec_slot.L2]
    refine Ev.ct (by simpa using hk) (Ev.ct (by simp; omega) (Ev.cf (by simp; omega) (Ev.chk (by omega) ?_)))
    rw [List.range'_succ, List.find?_cons, Int.toNat_natCast]
    refine Ev.ite (fun e => Ev.ret' ?_) (fun e => ?_)
    · rw [show bl s (n.Names.getD i default) = true from e]; rfl
    · rw [wrap_suc (by omega), show bl s (n.Names.getD i default) = false from e]
      exact ih (i + 1) (by omega)
theorem T.spec_slot {B D : Nat} {n : NodeT} (s : Txt) (hB : B ≤ lim) (h : Fine B D n) (hB' : B < lim) : Ev (fun f => G.spec_slot f n s) (slotI (slotN n s)) := by
  have hl := h.kids
  refine Ev.up ?_
  simp only [G.spec_slot]
  refine Ev.bind (T.spec_place s hB h) ?_
  unfold slotN
  cases hj : plc n s with
  | some j => exact Ev.ct (decide_eq_true (by simp only [plcI]; omega)) (Ev.ret _)
  | none =>
    refine Ev.cf (by rfl) ?_
    simp only
    by_cases h3 : n.Kind = 3
    · rw [if_pos h3]
      refine Ev.ct (by simpa using h3) ?_
      refine Ev.ite (fun e => Ev.ret' ?_) (fun e => ?_)
      · rw [if_pos (.inl (by simpa using e))]; rfl
      · refine Ev.bind (T.decimal (i := n.Kids.length) (by omega)) (Ev.ite (fun e2 => Ev.ret' ?_) (fun e2 => ?_))
        · rw [if_pos (.inr (by simpa using e2))]; rfl
        · rw [if_neg (by simp at e e2; simp [e, e2])]
          exact T.spec_slot.L1 s (by omega)
    · rw [if_neg h3]
      refine Ev.cf (by simpa using h3) ?_
      by_cases h4 : n.Kind = 4
      · rw [if_pos h4]
        exact T.spec_slot.L2 s hB h h4 n.Kids.length 0 (by omega)
      · rw [if_neg h4]
        refine Ev.up ?_
        simp only [G.spec_slot.L2]
        exact Ev.cf (by simpa using h4) (Ev.ret _)
theorem addN_slot (n : NodeT) (s : Txt) (v : NodeT) : addN n s v = (slotN n s).map fun q => if q.2 then setK n q.1 v else if n.Kind = 3 then NodeT.mk n.Kind 0 [] [] (insL n.Kids q.1 v) else NodeT.mk n.Kind 0 [] (insL n.Names q.1 s) (insL n.Kids q.1 v) := by
  unfold addN slotN
  cases hj : plc n s with
  | some j =>
    simp only [Option.map_some]
    by_cases h4 : n.Kind = 4
    · simp [h4]
    · have h3 : n.Kind = 3 := by
        by_cases h3 : n.Kind = 3
        · exact h3
        · have := plc_hit hj; rw [hit_leaf h4 h3] at this; cases this
      simp [h3]
  | none =>
    simp only
    by_cases h3 : n.Kind = 3
    · simp only [h3, if_true]
      by_cases hs : s = [45] ∨ s = decN n.Kids.length
      · rw [if_pos hs, if_pos hs]; simp
      · rw [if_neg hs, if_neg hs]; rfl
    · rw [if_neg h3, if_neg h3]
      by_cases h4 : n.Kind = 4
      · rw [if_pos h4, if_pos h4]; simp [h3]
      · rw [if_neg h4, if_neg h4]; rfl
theorem slot_le {n : NodeT} {s : Txt} {q : Nat × Bool} (h : slotN n s = some q) : q.1 ≤ n.Kids.length ∧ (q.2 = true → q.1 < n.Kids.length) ∧ (n.Kind = 3 ∨ n.Kind = 4) := by
  unfold slotN at h
  cases hj : plc n s with
  | some j =>
    rw [hj] at h
    cases h
    have := plc_lt hj
    refine ⟨by omega, fun _ => this, ?_⟩
    by_cases h4 : n.Kind = 4
    · exact .inr h4
    · by_cases h3 : n.Kind = 3
      · exact .inl h3
      · have := plc_hit hj; rw [hit_leaf h4 h3] at this; cases this
  | none =>
    rw [hj] at h
    simp only at h
    by_cases h3 : n.Kind = 3
    · rw [if_pos h3] at h
      split at h
      · cases h; exact ⟨Nat.le_refl _, fun e => (by cases e), .inl h3⟩
      · cases h
    · rw [if_neg h3] at h
      split at h
      · rename_i h4; cases h; exact ⟨slt_le n s, fun e => (by cases e), .inr h4⟩
      · cases h
theorem T.spec_addHere {B D E : Nat} {n v : NodeT} (s : Txt) (hB : B < lim) (h : Fine B D n) (hv : Fine B E v) : Ev (fun f => G.spec_addHere f n s v) (pairO (addN n s v)) := by
  have hl := h.kids
  have hn := h.names
  have hB2 := hB
  unfold lim at hB2
  refine Ev.up ?_
  simp only [G.spec_addHere]
  refine Ev.bind (T.spec_slot s (by omega) h hB) ?_
  rw [addN_slot]
  cases hq : slotN n s with
  | none => exact Ev.ct rfl (Ev.ret _)
  | some q =>
    obtain ⟨q1, q2⟩ := q
    obtain ⟨hq1, hq2, hk⟩ := slot_le hq
    simp only at hq1 hq2
    refine Ev.cf (decide_eq_false (by simp only [slotI]; omega)) ?_
    refine Ev.ite (fun e => ?_) (fun e => ?_)
    · have e : q2 = true := e
      subst e
      exact Ev.bind (T.spec_withKid (by omega) h hv (hq2 rfl)) (Ev.ret _)
    · have e : q2 = false := e
      subst e
      simp only [slotI, Int.toNat_natCast]
      have ht : (n.Kids.take q1).length = q1 := by rw [List.length_take]; omega
      have hd : (n.Kids.drop q1).length = n.Kids.length - q1 := List.length_drop
      refine Ev.bind (T.spec_copyNode (by omega) h) (Ev.chk (by omega) (Ev.chk (by omega) (Ev.bind (T.spec_copyNode (by omega) hv) (Ev.chk (by omega) (Ev.chk (by omega) (Ev.chk (by omega) ?_))))))
      refine Ev.ite (fun e3 => Ev.ret' ?_) (fun e3 => ?_)
      · have e3' : n.Kind = 3 := by simpa using e3
        simp only [Option.map_some, if_pos e3']
        rfl
      · have e3' : ¬ n.Kind = 3 := by simpa using e3
        have h4 : n.Kind = 4 := by omega
        have hm := h.map h4
        have ht2 : (n.Names.take q1).length = q1 := by rw [List.length_take]; omega
        have hd2 : (n.Names.drop q1).length = n.Names.length - q1 := List.length_drop
        refine Ev.chk (by omega) (Ev.chk (by omega) (Ev.chk (by omega) (Ev.chk (by omega) (Ev.chk (by omega) (Ev.ret' ?_)))))
        simp only [Option.map_some, if_neg e3']
        rfl
theorem fine_add {B D E : Nat} {n v m : NodeT} {s : Txt} (h : Fine B D n) (hv : Fine B E v) (hs : s.length ≤ B) (hm : addN n s v = some m) : Fine (B + 1) (D + E) m := by
  rw [addN_slot] at hm
  cases hq : slotN n s with
  | none => rw [hq] at hm; cases hm
  | some q =>
    obtain ⟨q1, q2⟩ := q
    obtain ⟨hq1, hq2, hk⟩ := slot_le hq
    simp only at hq1 hq2
    rw [hq] at hm
    cases D with
    | zero => exact h.elim
    | succ D =>
    cases hm
    have hkid : ∀ k, k ∈ insL n.Kids q1 v → Fine (B + 1) (D + E) k := by
      intro k hk
      unfold insL at hk
      simp only [List.mem_append, List.mem_singleton] at hk
      rcases hk with (hk | rfl) | hk
      · exact (h.2.2.2.2.2 k (List.mem_of_mem_take hk)).mono (by omega) (by omega)
      · exact hv.mono (by omega) (by omega)
      · exact (h.2.2.2.2.2 k (List.mem_of_mem_drop hk)).mono (by omega) (by omega)
    have hlen : (insL n.Kids q1 v).length = n.Kids.length + 1 := by unfold insL; simp; omega
    have hl := h.kids
    have hn := h.names
    have hb : 1 ≤ B + 1 := by omega
    cases q2 with
    | true => exact (fine_set (j := q1) h hv).mono (by omega) (by omega)
    | false =>
      simp only [Bool.false_eq_true, if_false]
      rw [show D + 1 + E = (D + E) + 1 by omega]
      by_cases h3 : n.Kind = 3
      · rw [if_pos h3]
        exact ⟨by simp, by simp, by simp, by show (insL n.Kids q1 v).length ≤ _; omega, fun h4 => by simp only at h4; omega, hkid⟩
      · rw [if_neg h3]
        have h4 : n.Kind = 4 := by omega
        have hm := h.map h4
        have hlen2 : (insL n.Names q1 s).length = n.Names.length + 1 := by unfold insL; simp; omega
        refine ⟨by simp, by show (insL n.Names q1 s).length ≤ _; omega, fun x hx => ?_, by show (insL n.Kids q1 v).length ≤ _; omega, fun _ => by show (insL n.Kids q1 v).length ≤ (insL n.Names q1 s).length; omega, hkid⟩
        have hx : x ∈ insL n.Names q1 s := hx
        unfold insL at hx
        simp only [List.mem_append, List.mem_singleton] at hx
        rcases hx with (hx | rfl) | hx
        · have := h.2.2.1 x (List.mem_of_mem_take hx); omega
        · omega
        · have := h.2.2.1 x (List.mem_of_mem_drop hx); omega
end Go.Ab
end
section
namespace Go.Ab
open Go
theorem T.spec_toInt (b : Bool) : Ev (fun f => G.spec_toInt f b) (if b then 1 else 0) := by
  refine Ev.up ?_
  simp only [G.spec_toInt]
  cases b
  · exact Ev.ret _
  · exact Ev.ret _
theorem shape_names {d : Nat} {n : NodeT} (h : Shape d n = true) (hk : n.Kind = 4) : n.Names.length = n.Kids.length := by
  cases d with
  | zero => cases h
  | succ d => exact (parts_map (shape_parts h) hk).2.2.2.2.symm
end Go.Ab
end
section
namespace Go.Ab
open Go
theorem shape_mono : ∀ {d e : Nat} {n : NodeT}, d ≤ e → Shape d n = true → Shape e n = true
  | 0, _, _, _, h => by cases h
  | d + 1, 0, _, hd, _ => by omega
  | d + 1, e + 1, n, hd, h => by
    unfold Shape
    rw [shape_parts h, Bool.true_and, List.all_eq_true]
    exact fun k hk => shape_mono (by omega) (shape_kids h k hk)
theorem map_sum_congr {α : Type} {f g : α → Nat} : ∀ {l : List α}, (∀ x, x ∈ l → f x = g x) → (l.map f).sum = (l.map g).sum
  | [], _ => rfl
  | x :: l, h => by
    simp only [List.map_cons, List.sum_cons]
    rw [h x (by simp), map_sum_congr (fun y hy => h y (by simp [hy]))]
theorem cnt_mono : ∀ {d e : Nat} {n : NodeT}, d ≤ e → Shape d n = true → Cnt d n = Cnt e n
  | 0, _, _, _, h => by cases h
  | d + 1, 0, _, hd, _ => by omega
  | d + 1, e + 1, n, hd, h => by
    unfold Cnt
    rw [map_sum_congr (f := Cnt d) (g := Cnt e) (fun k hk => cnt_mono (by omega) (shape_kids h k hk))]
theorem le_sum {α : Type} (f : α → Nat) : ∀ {l : List α} {x : α}, x ∈ l → f x ≤ (l.map f).sum
  | y :: l, x, h => by
    simp only [List.map_cons, List.sum_cons]
    rcases List.mem_cons.1 h with rfl | h
    · omega
    · have := le_sum f h; omega
theorem val_shape {n : NodeT} (h : Val n = true) : Shape 5 n = true := by unfold Val at h; simp only [Bool.and_eq_true] at h; exact h.1
theorem val_cnt {n : NodeT} (h : Val n = true) : Cnt 5 n ≤ 40 := by unfold Val at h; simp only [Bool.and_eq_true, decide_eq_true_eq] at h; exact h.2
theorem val_fine {n : NodeT} (h : Val n = true) : Fine 12 5 n := shape_fine (val_shape h)
theorem val_of {d : Nat} {n : NodeT} (hd : d ≤ 5) (h : Shape d n = true) (hc : Cnt d n ≤ 40) : Val n = true := by
  unfold Val
  rw [shape_mono hd h, Bool.true_and, decide_eq_true_eq, ← cnt_mono hd h]
  exact hc
theorem at_shape : ∀ (p : List Txt) {d : Nat} {n m : NodeT}, Shape d n = true → atN n p = some m → Shape d m = true ∧ Cnt d m ≤ Cnt d n
  | [], d, n, m, h, e => by cases e; exact ⟨h, Nat.le_refl _⟩
  | s :: p, d, n, m, h, e => by
    rw [atN] at e
    cases hj : plc n s with
    | none => rw [hj] at e; cases e
    | some j =>
      rw [hj] at e
      cases d with
      | zero => cases h
      | succ d =>
        have hjl := plc_lt hj
        obtain ⟨h1, h2⟩ := at_shape p (shape_kid h hjl) e
        refine ⟨shape_mono (by omega) h1, ?_⟩
        rw [← cnt_mono (Nat.le_succ d) h1]
        have := le_sum (Cnt d) (l := n.Kids) (x := n.Kids.getD j default) (by rw [getD_of_lt _ hjl]; exact List.getElem_mem _)
        show _ ≤ 1 + (n.Kids.map (Cnt d)).sum
        omega
theorem asc_pairwise : ∀ {l : List Txt}, Asc l = true ↔ l.Pairwise (fun x y => bl x y = true)
  | [] => by simp [Asc]
  | x :: l => by
    rw [List.pairwise_cons, ← asc_pairwise (l := l)]
    constructor
    · intro h; exact ⟨Asc_head h, Asc_tail h⟩
    · rintro ⟨h1, h2⟩
      cases l with
      | nil => rfl
      | cons y r => rw [Asc, h2, Bool.and_true]; exact h1 y (by simp)
end Go.Ab
end
section
namespace Go.Ab
open Go
theorem pp_sm {B : Nat} (hB : B ≤ lim) {p : List Txt} (hl : p.length ≤ B) (hs : ∀ s, s ∈ p → s.length ≤ B) : Sm p := by
  unfold lim at hB
  exact ⟨by unfold big; omega, fun s h => by have := hs s h; unfold big; omega⟩
def FineP (B : Nat) (p : List Txt) : Prop := p.length ≤ B ∧ ∀ s, s ∈ p → s.length ≤ B
theorem FineP.sm {B : Nat} (hB : B ≤ lim) {p : List Txt} (h : FineP B p) : Sm p := pp_sm hB h.1 h.2
theorem at_val {n m : NodeT} {p : List Txt} (h : Val n = true) (e : atN n p = some m) : Val m = true := by
  obtain ⟨h1, h2⟩ := at_shape p (val_shape h) e
  exact val_of (Nat.le_refl _) h1 (Nat.le_trans h2 (val_cnt h))
end Go.Ab
end
section
namespace Go.Ab
open Go
end Go.Ab
end
section
namespace Go.Ab
open Go
end Go.Ab
end
section
namespace Go.Ab
open Go
structure RdOK (K : Nat) (r : ReaderT) : Prop where
  len : r.b.length ≤ 2000
  bytes : ∀ x, x ∈ r.b → 0 ≤ x ∧ x < 256
  lo : 0 ≤ r.p
  hi : r.p ≤ (K : Int)
theorem RdOK.mono {K L : Nat} {r : ReaderT} (h : RdOK K r) (hk : K ≤ L) : RdOK L r := ⟨h.len, h.bytes, h.lo, by have := h.hi; omega⟩
theorem ReaderT.eta (r : ReaderT) : ReaderT.mk r.b r.p = r := rfl
theorem xor_ok {X Y : Nat} (hX : X < 4611686018427387904) (hY : Y < 4611686018427387904) :
    ∃ z : Nat, IntKind.wrap .i64 (((BitVec.ofInt (IntKind.bits .i64) (X : Int) ^^^ BitVec.ofInt (IntKind.bits .i64) (Y : Int)).toNat : Nat) : Int) = (z : Int) := by
  have e : ((BitVec.ofInt (IntKind.bits .i64) (X : Int) ^^^ BitVec.ofInt (IntKind.bits .i64) (Y : Int)).toNat) = X ^^^ Y := by
    rw [BitVec.toNat_xor]
    show (BitVec.ofInt 64 (X : Int)).toNat ^^^ (BitVec.ofInt 64 (Y : Int)).toNat = _
    rw [BitVec.toNat_ofInt, BitVec.toNat_ofInt]
    congr 1 <;> omega
  have hlt : X ^^^ Y < 2 ^ 62 := Nat.xor_lt_two_pow (by omega) (by omega)
  exact ⟨X ^^^ Y, by rw [e]; exact wrapN rfl (by omega)⟩
theorem tmod_nat (a b : Nat) : Int.tmod (a : Int) (b : Int) = ((a % b : Nat) : Int) := by
  rw [Int.tmod_eq_emod_of_nonneg (by omega)]; exact (Int.natCast_emod a b).symm
theorem tdiv_nat (a b : Nat) : Int.tdiv (a : Int) (b : Int) = ((a / b : Nat) : Int) := by
  rw [Int.tdiv_eq_ediv_of_nonneg (by omega)]; exact (Int.natCast_ediv a b).symm
theorem T.pick {K m : Nat} {r : ReaderT} (hr : RdOK K r) (hK : K ≤ 1000000000) (hm : 0 < m) (hm2 : m ≤ 1000000000) :
    ∃ (v : Nat) (r' : ReaderT), Ev (fun f => G.spec_reader_pick f r (m : Int)) ((v : Int), r') ∧ v < m ∧ RdOK (K + 1) r' := by
  obtain ⟨b, p⟩ := r
  obtain ⟨h1, h2, h3, h4⟩ := hr
  simp only at h1 h2 h3 h4
  obtain ⟨k, rfl⟩ : ∃ k : Nat, p = k := ⟨p.toNat, by omega⟩
  have hr' : RdOK (K + 1) (ReaderT.mk b ((k + 1 : Nat) : Int)) := ⟨h1, h2, by show (0 : Int) ≤ ((k + 1 : Nat) : Int); omega, by show ((k + 1 : Nat) : Int) ≤ _; omega⟩
  have w1 : IntKind.wrap .i64 ((k : Int) + 1) = ((k + 1 : Nat) : Int) := wrap_suc (by omega)
  have w2 : IntKind.wrap .i64 (((k + 1 : Nat) : Int) - 1) = (k : Int) := wrapN (by omega) (by omega)
  by_cases hb : b.length = 0
  · refine ⟨0, _, Ev.up ?_, hm, hr'⟩
    simp only [G.spec_reader_pick, w1]
    exact Ev.cf (by simp; omega) (Ev.ct (by simpa using hb) (Ev.ret _))
  have byte : ∀ i : Nat, i < b.length → ∃ c : Nat, b.getD i default = (c : Int) ∧ c < 256 := fun i hi => by
    rw [getD_of_lt _ hi]
    have := h2 _ (List.getElem_mem hi)
    exact ⟨b[i].toNat, by omega, by omega⟩
  by_cases hk : k < b.length
  · obtain ⟨c, hc, hc2⟩ := byte k hk
    refine ⟨c % m, _, Ev.up ?_, Nat.mod_lt _ hm, hr'⟩
    simp only [G.spec_reader_pick, w1, w2, Int.toNat_natCast, hc, wrapN (x := (c : Int)) (m := c) rfl (by omega), tmod_nat]
    exact Ev.cf (by simp; omega) (Ev.cf (by simpa using hb) (Ev.ct (by simpa using hk) (Ev.chk (by omega) (Ev.chk (by omega) (Ev.ret _)))))
  · have hlt : k % b.length < b.length := Nat.mod_lt _ (by omega)
    have hlt2 : (k * 7 + 3) % b.length < b.length := Nat.mod_lt _ (by omega)
    obtain ⟨c, hc, hc2⟩ := byte _ hlt
    obtain ⟨d, hd, hd2⟩ := byte _ hlt2
    have hdiv : k / b.length ≤ k := Nat.div_le_self _ _
    have w3 : IntKind.wrap .i64 ((k : Int) * 7) = ((k * 7 : Nat) : Int) := wrapN (by omega) (by omega)
    have w4 : IntKind.wrap .i64 (((k * 7 : Nat) : Int) + 3) = ((k * 7 + 3 : Nat) : Int) := wrapN (by omega) (by omega)
    have w5 : IntKind.wrap .i64 (c : Int) = c := wrapN rfl (by omega)
    have w6 : IntKind.wrap .i64 (d : Int) = d := wrapN rfl (by omega)
    have w7 : IntKind.wrap .i64 ((c : Int) * 131) = ((c * 131 : Nat) : Int) := wrapN (by omega) (by omega)
    have w8 : IntKind.wrap .i64 ((d : Int) * 1117) = ((d * 1117 : Nat) : Int) := wrapN (by omega) (by omega)
    have w9 : IntKind.wrap .i64 (((c * 131 : Nat) : Int) + ((d * 1117 : Nat) : Int)) = ((c * 131 + d * 1117 : Nat) : Int) := wrapN (by omega) (by omega)
    have w10 : IntKind.wrap .i64 ((k : Int) * 29) = ((k * 29 : Nat) : Int) := wrapN (by omega) (by omega)
    have w11 : IntKind.wrap .i64 (((c * 131 + d * 1117 : Nat) : Int) + ((k * 29 : Nat) : Int)) = ((c * 131 + d * 1117 + k * 29 : Nat) : Int) := wrapN (by omega) (by omega)
    have w12 : IntKind.wrap .i64 ((k / b.length : Nat) : Int) = ((k / b.length : Nat) : Int) := wrapN rfl (by omega)
    have w13 : IntKind.wrap .i64 (((k / b.length : Nat) : Int) * 53) = ((k / b.length * 53 : Nat) : Int) := wrapN (by omega) (by omega)
    have w14 : IntKind.wrap .i64 (((c * 131 + d * 1117 + k * 29 : Nat) : Int) + ((k / b.length * 53 : Nat) : Int)) = ((c * 131 + d * 1117 + k * 29 + k / b.length * 53 : Nat) : Int) := wrapN (by omega) (by omega)
    have e64 : (64 : Int) = ((64 : Nat) : Int) := rfl
    have w15 : IntKind.wrap .i64 (Int.tdiv ((c * 131 + d * 1117 + k * 29 + k / b.length * 53 : Nat) : Int) 64) = (((c * 131 + d * 1117 + k * 29 + k / b.length * 53) / 64 : Nat) : Int) := by
      rw [e64, tdiv_nat]; exact wrapN rfl (by omega)
    obtain ⟨z, hz⟩ := xor_ok (X := c * 131 + d * 1117 + k * 29 + k / b.length * 53) (Y := (c * 131 + d * 1117 + k * 29 + k / b.length * 53) / 64) (by omega) (by omega)
    refine ⟨z % m, _, Ev.up ?_, Nat.mod_lt _ hm, hr'⟩
    simp only [G.spec_reader_pick, w1, w2, w3, w4, tmod_nat, tdiv_nat, Int.toNat_natCast, hc, hd, w5, w6, w7, w8, w9, w10, w11, w12, w13, w14, w15, hz]
    exact Ev.cf (by simp; omega) (Ev.cf (by simpa using hb) (Ev.cf (by simp; omega) (Ev.chk (by omega) (Ev.chk (by omega) (Ev.chk (by omega) (Ev.chk (by omega) (Ev.chk (by omega) (Ev.chk (by omega) (Ev.ret _)))))))))
end Go.Ab
end
section
namespace Go.Ab
open Go
theorem T.one {K : Nat} {r : ReaderT} (hr : RdOK K r) (hK : K ≤ 1000000000) (l : List Int) (h0 : 0 < l.length) (h1 : l.length ≤ 1000) :
    ∃ x r', Ev (fun f => G.spec_reader_one f r l) (x, r') ∧ x ∈ l ∧ RdOK (K + 1) r' := by
  obtain ⟨v, r', g, hv, hr'⟩ := T.pick (m := l.length) hr hK h0 (by omega)
  refine ⟨l.getD v default, r', Ev.up ?_, by rw [getD_of_lt _ hv]; exact List.getElem_mem _, hr'⟩
  simp only [G.spec_reader_one]
  refine Ev.bind g (Ev.chk (by simp only; omega) (Ev.ret' ?_))
  rw [Int.toNat_natCast]
theorem T.of {K : Nat} {r : ReaderT} (hr : RdOK K r) (hK : K ≤ 1000000000) (l : List Txt) (h0 : 0 < l.length) (h1 : l.length ≤ 1000) :
    ∃ x r', Ev (fun f => G.spec_reader_of f r l) (x, r') ∧ x ∈ l ∧ RdOK (K + 1) r' := by
  obtain ⟨v, r', g, hv, hr'⟩ := T.pick (m := l.length) hr hK h0 (by omega)
  refine ⟨l.getD v default, r', Ev.up ?_, by rw [getD_of_lt _ hv]; exact List.getElem_mem _, hr'⟩
  simp only [G.spec_reader_of]
  refine Ev.bind g (Ev.chk (by simp only; omega) (Ev.ret' ?_))
  rw [Int.toNat_natCast]
theorem all_len {l : List Txt} {x : Txt} {m : Nat} (h : l.all (fun s => decide (s.length ≤ m)) = true) (hx : x ∈ l) : x.length ≤ m := by
  have := List.all_eq_true.1 h x hx
  simpa using this
theorem T.someText {K : Nat} {r : ReaderT} (hr : RdOK K r) (hK : K ≤ 1000000000) : ∃ x r', Ev (fun f => G.spec_someText f r) (x, r') ∧ x.length ≤ 12 ∧ RdOK (K + 1) r' := by
  obtain ⟨x, r', g, hx, hr'⟩ := T.of hr hK [[97], [98], [], [97, 98, 99], [97, 47, 98], [126], [120, 32, 121], [34, 113, 34], [98, 97, 99, 107, 92, 115], [48], [49], [97, 98, 99, 100, 101, 102, 103, 104, 105, 106, 107, 108]] (by decide) (by decide)
  refine ⟨x, r', Ev.up ?_, all_len (by decide) hx, hr'⟩
  simp only [G.spec_someText]
  exact Ev.bind g (Ev.ret _)
theorem T.someName {K : Nat} {r : ReaderT} (hr : RdOK K r) (hK : K ≤ 1000000000) : ∃ x r', Ev (fun f => G.spec_someName f r) (x, r') ∧ x.length ≤ 12 ∧ RdOK (K + 1) r' := by
  obtain ⟨x, r', g, hx, hr'⟩ := T.of hr hK [[97], [98], [99], [100], [97, 47, 98], [126, 120], [], [107]] (by decide) (by decide)
  refine ⟨x, r', Ev.up ?_, all_len (by decide) hx, hr'⟩
  simp only [G.spec_someName]
  exact Ev.bind g (Ev.ret _)
def stp : Nat → Nat
  | 0 => 4
  | d + 1 => 20 + 6 * stp d
theorem fine_leaf {B : Nat} {n : NodeT} (ht : n.Text.length ≤ B) (hn : n.Names = []) (hk : n.Kids = []) : Fine B 1 n :=
  ⟨ht, by rw [hn]; simp, by rw [hn]; simp, by rw [hk]; simp, by rw [hk]; simp, by rw [hk]; simp⟩
def Drawn (d : Nat) (K : Nat) (F : Nat → Option (NodeT × ReaderT)) : Prop := ∃ m r' D, Ev F (m, r') ∧ Fine (20 + 20 * d) D m ∧ RdOK (K + stp d) r'
theorem T.randomMap.L1 {d M : Nat} (hM : M ≤ 900000000) (hd : d ≤ 10) (hrec : ∀ K r, RdOK K r → K ≤ M → Drawn d K (fun f => G.spec_randomNode f r ((d + 1 : Nat) : Int))) :
    ∀ (j K B D : Nat) (r : ReaderT) (out : NodeT), RdOK K r → K + j * (1 + stp d) ≤ M → 20 + 20 * d ≤ B → B + j ≤ 1000 → Fine B D out →
      ∃ m r' D', Ev (fun f => G.spec_randomMap.L1 f ((d + 2 : Nat) : Int) (j : Int) r.b r.p out.Kind out.Num out.Text out.Names out.Kids) (m, r') ∧ Fine (B + j) D' m ∧ RdOK (K + j * (1 + stp d)) r' := by
  intro j
  induction j with
  | zero =>
    intro K B D r out hr hK hB hB2 hf
    refine ⟨out, r, D, Ev.up ?_, hf, hr.mono (by omega)⟩
    simp only [G.spec_randomMap.L1, NodeT.eta]
    exact Ev.cf (by simp) (Ev.ret _)
  | succ j ih =>
    intro K B D r out hr hK hB hB2 hf
    rw [Nat.add_mul] at hK
    obtain ⟨nm, r1, g1, hn, hr1⟩ := T.someName hr (by omega)
    obtain ⟨kid, r2, E, g2, hk, hr2⟩ := hrec (K + 1) r1 hr1 (by omega)
    have w : IntKind.wrap .i64 (((d + 2 : Nat) : Int) - 1) = ((d + 1 : Nat) : Int) := wrapN (by omega) (by omega)
    have w2 : IntKind.wrap .i64 (((j + 1 : Nat) : Int) - 1) = (j : Int) := wrapN (by omega) (by omega)
    have hP := T.spec_place nm (show B ≤ lim by unfold lim; omega) hf
    have hA := T.spec_addHere (v := kid) (E := E) nm (show B < lim by unfold lim; omega) hf (hk.mono (by omega) (Nat.le_refl _))
    have next : ∃ out2 D2, Ev (fun f => cond (decide (plcI (plc out nm) < 0)) (Option.bind (G.spec_addHere f out nm kid) fun v13 => G.spec_randomMap.L1 f ((d + 2 : Nat) : Int) (j : Int) r2.b r2.p v13.1.Kind v13.1.Num v13.1.Text v13.1.Names v13.1.Kids) (G.spec_randomMap.L1 f ((d + 2 : Nat) : Int) (j : Int) r2.b r2.p out.Kind out.Num out.Text out.Names out.Kids)) out2
        ∧ Fine (B + 1 + j) D2 out2.1 ∧ RdOK (K + 1 + stp d + j * (1 + stp d)) out2.2 := by
      refine Classical.byCases (fun e : decide (plcI (plc out nm) < 0) = true => ?_) (fun e => ?_)
      · have hfx : ∃ D3, Fine (B + 1) D3 (pairO (addN out nm kid)).1 := by
          cases ha : addN out nm kid with
          | none => exact ⟨1, fine_leaf (by simp [pairO, noNode]) rfl rfl⟩
          | some m => exact ⟨_, fine_add hf (hk.mono (by omega) (Nat.le_refl _)) (by omega) ha⟩
        obtain ⟨D3, hfx⟩ := hfx
        obtain ⟨m, r', D', g, hm, hr'⟩ := ih (K + 1 + stp d) (B + 1) D3 r2 _ hr2 (by omega) (by omega) (by omega) hfx
        exact ⟨(m, r'), D', Ev.ct e (Ev.bind hA g), hm, hr'⟩
      · obtain ⟨m, r', D', g, hm, hr'⟩ := ih (K + 1 + stp d) (B + 1) D r2 out hr2 (by omega) (by omega) (by omega) (hf.mono (by omega) (Nat.le_refl _))
        exact ⟨(m, r'), D', Ev.cf (by simpa using e) g, hm, hr'⟩
    obtain ⟨⟨m, r'⟩, D2, g, hm, hr'⟩ := next
    refine ⟨m, r', D2, Ev.up ?_, hm.mono (by omega) (Nat.le_refl _), hr'.mono (by rw [Nat.add_mul]; omega)⟩
    simp only [G.spec_randomMap.L1, NodeT.eta, w, w2]
    refine Ev.ct (by simp) (Ev.bind g1 (Ev.bind g2 (Ev.bind hP g)))
end Go.Ab
end
section
namespace Go.Ab
open Go
def Tot {α : Type} (Q : α → Prop) (F : Nat → Option α) : Prop := ∃ x, Ev F x ∧ Q x
section
variable {α β : Type} {Q : α → Prop} {F F' : Nat → Option α}
theorem Tot.up (h : Tot Q (fun n => F (n + 1))) : Tot Q F := let ⟨x, g, q⟩ := h; ⟨x, Ev.up g, q⟩
theorem Tot.ret {x : α} (h : Q x) : Tot Q (fun _ => some x) := ⟨x, Ev.ret x, h⟩
theorem Tot.bind {P : β → Prop} {h : Nat → Option β} {k : Nat → β → Option α} (h1 : Tot P h) (h2 : ∀ x, P x → Tot Q (fun n => k n x)) : Tot Q (fun n => Option.bind (h n) (k n)) := by
  obtain ⟨x, g, p⟩ := h1
  obtain ⟨y, g', q⟩ := h2 x p
  exact ⟨y, Ev.bind g g', q⟩
theorem Tot.bindE {a : β} {h : Nat → Option β} {k : Nat → β → Option α} (h1 : Ev h a) (h2 : Tot Q (fun n => k n a)) : Tot Q (fun n => Option.bind (h n) (k n)) := by
  obtain ⟨y, g', q⟩ := h2
  exact ⟨y, Ev.bind h1 g', q⟩
theorem Tot.chk {p : Prop} [Decidable p] (hp : p) (h : Tot Q F) : Tot Q (fun n => Ab.chk p (F n)) := let ⟨x, g, q⟩ := h; ⟨x, Ev.chk hp g, q⟩
theorem Tot.ite {c : Bool} (h : c = true → Tot Q F) (h' : c = false → Tot Q F') : Tot Q (fun n => cond c (F n) (F' n)) := by
  cases c
  · exact h' rfl
  · exact h rfl
theorem Tot.mono {P : α → Prop} (h : Tot P F) (hq : ∀ x, P x → Q x) : Tot Q F := let ⟨x, g, q⟩ := h; ⟨x, g, hq x q⟩
end
abbrev Dr {α : Type} (L : Nat) (Q : α → Prop) (F : Nat → Option (α × ReaderT)) : Prop := Tot (fun x => Q x.1 ∧ RdOK L x.2) F
theorem D.pick {K : Nat} {r : ReaderT} (hr : RdOK K r) (hK : K ≤ 1000000000) {M : Int} {m : Nat} (hM : M = (m : Int)) (h0 : 0 < m) (h1 : m ≤ 1000000000) :
    Dr (K + 1) (fun x : Int => ∃ v : Nat, x = (v : Int) ∧ v < m) (fun f => G.spec_reader_pick f r M) := by
  subst hM
  obtain ⟨v, r', g, hv, hr'⟩ := T.pick hr hK h0 h1
  exact ⟨_, g, ⟨v, rfl, hv⟩, hr'⟩
theorem D.one {K : Nat} {r : ReaderT} (hr : RdOK K r) (hK : K ≤ 1000000000) (l : List Int) (h0 : 0 < l.length) (h1 : l.length ≤ 1000) : Dr (K + 1) (fun x : Int => x ∈ l) (fun f => G.spec_reader_one f r l) := by
  obtain ⟨v, r', g, hv, hr'⟩ := T.one hr hK l h0 h1
  exact ⟨_, g, hv, hr'⟩
theorem D.of {K m : Nat} {r : ReaderT} (hr : RdOK K r) (hK : K ≤ 1000000000) (l : List Txt) (h0 : 0 < l.length) (h1 : l.length ≤ 1000) (hm : l.all (fun s => decide (s.length ≤ m)) = true) :
    Dr (K + 1) (fun x : Txt => x.length ≤ m) (fun f => G.spec_reader_of f r l) := by
  obtain ⟨v, r', g, hv, hr'⟩ := T.of hr hK l h0 h1
  exact ⟨_, g, all_len hm hv, hr'⟩
abbrev FineE (B : Nat) (n : NodeT) : Prop := ∃ D, Fine B D n
theorem D.randomMap {d M : Nat} (hM : M ≤ 900000000) (hd : d ≤ 10) (hrec : ∀ K r, RdOK K r → K ≤ M → Drawn d K (fun f => G.spec_randomNode f r ((d + 1 : Nat) : Int)))
    {K : Nat} {r : ReaderT} (hr : RdOK K r) (hK : K + 1 + 4 * (1 + stp d) ≤ M) : Dr (K + 1 + 4 * (1 + stp d)) (FineE (24 + 20 * d)) (fun f => G.spec_randomMap f r ((d + 2 : Nat) : Int)) := by
  refine Tot.up ?_
  simp only [G.spec_randomMap]
  refine Tot.bind (D.one hr (by omega) [2, 3, 1, 0, 4] (by decide) (by decide)) ?_
  rintro ⟨x, r'⟩ ⟨hx, hr'⟩
  obtain ⟨j, rfl, hj⟩ : ∃ j : Nat, x = (j : Int) ∧ j ≤ 4 := ⟨x.toNat, by simp at hx; omega⟩
  have hm : j * (1 + stp d) ≤ 4 * (1 + stp d) := Nat.mul_le_mul_right _ hj
  obtain ⟨m, r2, D', g, hm', hr2⟩ := T.randomMap.L1 hM hd hrec j (K + 1) (20 + 20 * d) 1 r' (NodeT.mk 4 0 [] [] []) hr' (by omega) (Nat.le_refl _) (by omega) (fine_leaf (by simp) rfl rfl)
  exact ⟨(m, r2), g, ⟨D', hm'.mono (by omega) (Nat.le_refl _)⟩, hr2.mono (by omega)⟩
theorem fine_list {B D : Nat} {k : Int} {l : List NodeT} (hk : k ≠ 4) (hl : l.length ≤ B) (h : ∀ x, x ∈ l → Fine B D x) : Fine B (D + 1) (NodeT.mk k 0 [] [] l) :=
  ⟨by simp, by simp, by simp, hl, fun e => absurd e hk, h⟩
theorem D.randomNode.L2 {d M : Nat} (hd : d ≤ 10) (hrec : ∀ K r, RdOK K r → K ≤ M → Drawn d K (fun f => G.spec_randomNode f r ((d + 1 : Nat) : Int))) :
    ∀ (j K D : Nat) (r : ReaderT) (z : List NodeT), RdOK K r → K + j * stp d ≤ M → z.length + j ≤ 10 → (∀ x, x ∈ z → Fine (20 + 20 * d) D x) →
      Dr (K + j * stp d) (FineE (20 + 20 * d)) (fun f => G.spec_randomNode.L2 f ((d + 2 : Nat) : Int) 3 (j : Int) r.b r.p z) := by
  intro j
  induction j with
  | zero =>
    intro K D r z hr hK hz hf
    refine Tot.up ?_
    simp only [G.spec_randomNode.L2]
    exact ⟨_, Ev.cf (by simp) (Ev.ret _), ⟨D + 1, fine_list (by decide) (by omega) hf⟩, hr.mono (by omega)⟩
  | succ j ih =>
    intro K D r z hr hK hz hf
    rw [Nat.add_mul] at hK
    have w : IntKind.wrap .i64 (((d + 2 : Nat) : Int) - 1) = ((d + 1 : Nat) : Int) := wrapN (by omega) (by omega)
    have w2 : IntKind.wrap .i64 (((j + 1 : Nat) : Int) - 1) = (j : Int) := wrapN (by omega) (by omega)
    obtain ⟨kid, r2, E, g2, hk, hr2⟩ := hrec K r hr (by omega)
    refine Tot.up ?_
    simp only [G.spec_randomNode.L2, w, w2]
    obtain ⟨x, g, hx, hr'⟩ := ih (K + stp d) (max D E) r2 (z ++ [kid]) hr2 (by omega) (by simp; omega) (fun x hx => by
      rcases List.mem_append.1 hx with h | h
      · exact (hf x h).mono (Nat.le_refl _) (Nat.le_max_left _ _)
      · simp only [List.mem_singleton] at h; subst h; exact hk.mono (Nat.le_refl _) (Nat.le_max_right _ _))
    exact ⟨x, Ev.ct (by simp) (Ev.bind g2 (Ev.chk (by omega) g)), hx, hr'.mono (by rw [Nat.add_mul]; omega)⟩
theorem D.randomNode.K1 {d k : Nat} (hd : d ≤ 10) (hk : k < 3 ∨ (k < 5 ∧ ∃ e, d = e + 1 ∧ ∀ K r, RdOK K r → K ≤ 900000000 - stp e → Drawn e K (fun f => G.spec_randomNode f r ((e + 1 : Nat) : Int))))
    {K : Nat} {r : ReaderT} (hr : RdOK K r) (hK : K + stp d ≤ 900000002) : Dr (K + stp d - 2) (FineE (20 + 20 * d)) (fun f => G.spec_randomNode.K1 f ((d + 1 : Nat) : Int) (k : Int) r.b r.p) := by
  have h2 : 4 ≤ stp d := by cases d <;> simp only [stp] <;> omega
  refine Tot.up ?_
  simp only [G.spec_randomNode.K1]
  refine Tot.ite (fun e => ?_) (fun e1 => Tot.ite (fun e => ?_) (fun e2 => Tot.ite (fun e => ?_) (fun e3 => Tot.ite (fun e => ?_) (fun e4 => ?_))))
  · refine Tot.bind (D.pick (m := 250) hr (by omega) rfl (by decide) (by decide)) ?_
    rintro ⟨x, r1⟩ ⟨_, hr1⟩
    refine Tot.bind (D.one hr1 (by omega) _ (by simp) (by simp)) ?_
    rintro ⟨y, r2⟩ ⟨_, hr2⟩
    exact Tot.ret ⟨⟨1, fine_leaf (by simp) rfl rfl⟩, hr2.mono (by omega)⟩
  · obtain ⟨x, r1, g, hx, hr1⟩ := T.someText hr (by omega)
    exact Tot.bindE g (Tot.ret ⟨⟨1, fine_leaf (by show x.length ≤ _; omega) rfl rfl⟩, hr1.mono (by omega)⟩)
  · rcases hk with hk | ⟨hk, e', rfl, hrec⟩
    · have : (k : Int) = 3 := by simpa using e
      omega
    · have hk3 : k = 3 := by have : (k : Int) = 3 := by simpa using e
                             omega
      subst hk3
      refine Tot.bind (D.pick (m := 4) hr (by omega) rfl (by decide) (by decide)) ?_
      rintro ⟨x, r1⟩ ⟨⟨j, rfl, hj⟩, hr1⟩
      have hm : j * stp e' ≤ 3 * stp e' := Nat.mul_le_mul_right _ (by omega)
      simp only [stp] at hK h2 ⊢
      refine (D.randomNode.L2 (by omega) hrec j (K + 1) 0 r1 [] hr1 (by omega) (by simp; omega) (fun x h => by cases h)).mono ?_
      rintro ⟨n, r2⟩ ⟨⟨D, hn⟩, hr2⟩
      exact ⟨⟨D, hn.mono (by omega) (Nat.le_refl _)⟩, hr2.mono (by omega)⟩
  · rcases hk with hk | ⟨hk, e', rfl, hrec⟩
    · have : (k : Int) = 4 := by simpa using e
      omega
    · simp only [stp] at hK h2 ⊢
      refine Tot.bind (D.randomMap (Nat.sub_le _ _) (by omega) hrec hr (by omega)) ?_
      rintro ⟨n, r2⟩ ⟨⟨D, hn⟩, hr2⟩
      exact Tot.ret ⟨⟨D, hn.mono (by omega) (Nat.le_refl _)⟩, hr2.mono (by omega)⟩
  · exact Tot.ret ⟨⟨1, fine_leaf (by simp) rfl rfl⟩, hr.mono (by omega)⟩
theorem D.randomNode : ∀ (d : Nat), d ≤ 10 → ∀ K r, RdOK K r → K + stp d ≤ 900000000 → Dr (K + stp d) (FineE (20 + 20 * d)) (fun f => G.spec_randomNode f r ((d + 1 : Nat) : Int))
  | 0, hd, K, r, hr, hK => by
    refine Tot.up ?_
    simp only [G.spec_randomNode]
    refine Tot.bind (D.pick (m := 5) hr (by omega) rfl (by decide) (by decide)) ?_
    rintro ⟨x, r1⟩ ⟨_, hr1⟩
    refine Tot.ite (fun _ => ?_) (fun e => by simp at e)
    refine Tot.bind (D.pick (m := 3) hr1 (by omega) rfl (by decide) (by decide)) ?_
    rintro ⟨y, r2⟩ ⟨⟨k, rfl, hk⟩, hr2⟩
    refine (D.randomNode.K1 (d := 0) (by omega) (.inl hk) (K := K + 2) hr2 (by omega)).mono ?_
    rintro ⟨n, r3⟩ ⟨hn, hr3⟩
    exact ⟨hn, hr3.mono (by omega)⟩
  | d + 1, hd, K, r, hr, hK => by
    refine Tot.up ?_
    simp only [G.spec_randomNode]
    refine Tot.bind (D.pick (m := 5) hr (by omega) rfl (by decide) (by decide)) ?_
    rintro ⟨x, r1⟩ ⟨⟨k, rfl, hk⟩, hr1⟩
    refine Tot.ite (fun e => by simp at e; omega) (fun _ => ?_)
    refine (D.randomNode.K1 (d := d + 1) (by omega) (.inr ⟨hk, d, rfl, fun K' r' hr' hK' => ?_⟩) (K := K + 1) hr1 (by omega)).mono ?_
    · have hs : stp d ≤ 900000000 := by simp only [stp] at hK; omega
      obtain ⟨⟨n, r2⟩, g, ⟨D, hn⟩, hr2⟩ := D.randomNode d (by omega) K' r' hr' (by omega)
      exact ⟨n, r2, D, g, hn, hr2⟩
    · rintro ⟨n, r3⟩ ⟨hn, hr3⟩
      exact ⟨hn, hr3.mono (by omega)⟩
theorem D.node (d : Nat) (hd : d ≤ 2) {M : Int} (hM : M = ((d + 1 : Nat) : Int)) {K : Nat} {r : ReaderT} (hr : RdOK K r) (hK : K ≤ 800000000) : Dr (K + 300) (FineE 60) (fun f => G.spec_randomNode f r M) := by
  subst hM
  have h : stp d ≤ 284 := by
    match d, hd with
    | 0, _ => decide
    | 1, _ => decide
    | 2, _ => decide
  refine (D.randomNode d (by omega) K r hr (by omega)).mono ?_
  rintro ⟨n, r'⟩ ⟨⟨D, hn⟩, hr'⟩
  exact ⟨⟨D, hn.mono (by omega) (Nat.le_refl _)⟩, hr'.mono (by omega)⟩
theorem D.map3 {K : Nat} {r : ReaderT} (hr : RdOK K r) (hK : K ≤ 800000000) : Dr (K + 300) (FineE 60) (fun f => G.spec_randomMap f r 3) := by
  have h1 : stp 1 = 44 := by decide
  refine (D.randomMap (d := 1) (M := 800001000) (by omega) (by decide) (fun K' r' hr' hK' => ?_) hr (by omega)).mono ?_
  · obtain ⟨⟨n, r2⟩, g, ⟨D, hn⟩, hr2⟩ := D.randomNode 1 (by omega) K' r' hr' (by omega)
    exact ⟨n, r2, D, g, hn, hr2⟩
  · rintro ⟨n, r'⟩ ⟨⟨D, hn⟩, hr'⟩
    exact ⟨⟨D, hn.mono (by omega) (Nat.le_refl _)⟩, hr'.mono (by omega)⟩
theorem lim60 : 60 ≤ lim := by decide
theorem val_no : Val noNode = true := by decide
theorem D.someNode.K1 {K : Nat} {r : ReaderT} {n : NodeT} (hr : RdOK K r) (hn : FineE 60 n) : Dr K (fun x => Val x = true) (fun f => G.spec_someNode.K1 f r.b r.p n.Kind n.Num n.Text n.Names n.Kids) := by
  obtain ⟨D, hn⟩ := hn
  refine Tot.up ?_
  simp only [G.spec_someNode.K1, NodeT.eta]
  refine Tot.bindE (T.spec_validNode lim60 hn) (Tot.ite (fun e => Tot.ret ⟨e, hr⟩) (fun _ => Tot.ret ⟨val_no, hr⟩))
theorem D.someNode {K : Nat} {r : ReaderT} (hr : RdOK K r) (hK : K ≤ 700000000) : Dr (K + 601) (fun x => Val x = true) (fun f => G.spec_someNode f r) := by
  refine Tot.up ?_
  simp only [G.spec_someNode]
  refine Tot.bind (D.node 2 (by decide) rfl hr (by omega)) ?_
  rintro ⟨n, r1⟩ ⟨hn, hr1⟩
  refine Tot.bind (D.pick (m := 3) hr1 (by omega) rfl (by decide) (by decide)) ?_
  rintro ⟨x, r2⟩ ⟨_, hr2⟩
  refine Tot.ite (fun _ => ?_) (fun _ => ?_)
  · refine Tot.bind (D.map3 hr2 (by omega)) ?_
    rintro ⟨m, r3⟩ ⟨hm, hr3⟩
    exact (D.someNode.K1 hr3 hm).mono (fun x h => ⟨h.1, h.2.mono (by omega)⟩)
  · exact (D.someNode.K1 hr2 hn).mono (fun x h => ⟨h.1, h.2.mono (by omega)⟩)
theorem D.anyNode.L1 {v : NodeT × ReaderT} (hv : Val v.1 = true) : ∀ (k i K : Nat) (r : ReaderT) (z : List NodeT), i + k = 7 → RdOK K r → K + k + 1 ≤ 900000000 → z.length = i → (∀ x, x ∈ z → Fine 14 5 x) →
    Dr (K + k + 1) (FineE 14) (fun f => G.spec_anyNode.L1 f v (i : Int) r.b r.p z) := by
  intro k
  induction k with
  | zero =>
    intro i K r z hi hr hK hz hf
    refine Tot.up ?_
    simp only [G.spec_anyNode.L1]
    refine Tot.bind (D.pick (m := 2) hr (by omega) rfl (by decide) (by decide)) ?_
    rintro ⟨x, r1⟩ ⟨⟨q, rfl, hq⟩, hr1⟩
    have w : IntKind.wrap .i64 (6 + ((q : Nat) : Int)) = ((6 + q : Nat) : Int) := wrapN (by omega) (by omega)
    simp only [w]
    refine Tot.ite (fun e => by simp at e; omega) (fun _ => Tot.ret ⟨⟨6, fine_list (by decide) (by omega) hf⟩, hr1⟩)
  | succ k ih =>
    intro i K r z hi hr hK hz hf
    refine Tot.up ?_
    simp only [G.spec_anyNode.L1, wrap_suc (show i + 1 < 9223372036854775808 by omega)]
    refine Tot.bind (D.pick (m := 2) hr (by omega) rfl (by decide) (by decide)) ?_
    rintro ⟨x, r1⟩ ⟨_, hr1⟩
    refine Tot.ite (fun _ => ?_) (fun _ => Tot.ret ⟨⟨6, fine_list (by decide) (by omega) hf⟩, hr1.mono (by omega)⟩)
    refine Tot.bindE (T.spec_copyNode lim12 (val_fine hv)) (Tot.chk (by omega) ?_)
    refine (ih (i + 1) (K + 1) r1 (z ++ [v.1]) (by omega) hr1 (by omega) (by simp; omega) (fun x hx => ?_)).mono (fun x h => ⟨h.1, h.2.mono (by omega)⟩)
    rcases List.mem_append.1 hx with h | h
    · exact hf x h
    · simp only [List.mem_singleton] at h; subst h; exact (val_fine hv).mono (by omega) (Nat.le_refl _)
theorem D.anyNode {K : Nat} {r : ReaderT} (hr : RdOK K r) (hK : K ≤ 600000000) : Dr (K + 620) (FineE 14) (fun f => G.spec_anyNode f r) := by
  refine Tot.up ?_
  simp only [G.spec_anyNode]
  refine Tot.bind (D.someNode hr (by omega)) ?_
  rintro ⟨n, r1⟩ ⟨hn, hr1⟩
  replace hn : Val n = true := hn
  have hf := val_fine hn
  obtain ⟨f1, f2, f3, f4, f5, f6⟩ := hf
  have hks : ∀ k, k ∈ n.Kids → Fine 14 4 k := fun k hk => (f6 k hk).mono (by omega) (Nat.le_refl _)
  have hns : ∀ s, s ∈ n.Names → s.length ≤ 14 := fun s hs => Nat.le_trans (f3 s hs) (by omega)
  refine Tot.bind (D.pick (m := 40) hr1 (by omega) rfl (by decide) (by decide)) ?_
  rintro ⟨x, r2⟩ ⟨_, hr2⟩
  refine Tot.ite (fun _ => ?_) (fun _ => Tot.ite (fun _ => ?_) (fun _ => Tot.ite (fun _ => ?_) (fun _ => Tot.ite (fun _ => ?_) (fun _ => Tot.ite (fun _ => ?_) (fun _ => Tot.ite (fun _ => ?_) (fun _ => ?_))))))
  · refine Tot.bind (D.one hr2 (by omega) _ (by decide) (by decide)) ?_
    rintro ⟨y, r3⟩ ⟨hy, hr3⟩
    refine Tot.ret ⟨⟨5, by show n.Text.length ≤ 14; omega, by show n.Names.length ≤ 14; omega, hns, by show n.Kids.length ≤ 14; omega, fun e => ?_, hks⟩, hr3.mono (by omega)⟩
    have e : y = 4 := e
    subst e
    simp at hy
  · refine Tot.bind (D.one hr2 (by omega) _ (by decide) (by decide)) ?_
    rintro ⟨y, r3⟩ ⟨hy, hr3⟩
    exact Tot.ret ⟨⟨5, by show n.Text.length ≤ 14; omega, by show n.Names.length ≤ 14; omega, hns, by show n.Kids.length ≤ 14; omega, f5, hks⟩, hr3.mono (by omega)⟩
  · exact Tot.ret ⟨⟨5, by simp, by show n.Names.length ≤ 14; omega, hns, by show n.Kids.length ≤ 14; omega, f5, hks⟩, hr2.mono (by omega)⟩
  · refine Tot.chk (by simp only; omega) (Tot.ret ⟨⟨5, by show n.Text.length ≤ 14; omega, by show (n.Names ++ [[]]).length ≤ 14; simp; omega, fun s hs => ?_, by show n.Kids.length ≤ 14; omega, fun e => ?_, hks⟩, hr2.mono (by omega)⟩)
    · rcases List.mem_append.1 hs with h | h
      · exact hns s h
      · simp only [List.mem_singleton] at h; subst h; simp
    · have := f5 e
      show n.Kids.length ≤ (n.Names ++ [[]]).length
      simp; omega
  · have h0 : Fine 14 5 n := (val_fine hn).mono (by omega) (Nat.le_refl _)
    have up : ∀ {D m}, Fine 14 D m → Fine 14 (D + 1) (NodeT.mk 3 0 [] [] [m]) := fun hm => fine_list (by decide) (by simp) (fun x hx => by simp only [List.mem_singleton] at hx; subst hx; exact hm)
    exact Tot.ret ⟨⟨9, up (up (up (up h0)))⟩, hr2.mono (by omega)⟩
  · exact (D.anyNode.L1 (v := (n, r1)) hn 7 0 (K + 601 + 1) r2 [] (by omega) hr2 (by omega) rfl (fun x h => by cases h)).mono (fun x h => ⟨h.1, h.2.mono (by omega)⟩)
  · exact Tot.ret ⟨⟨5, (val_fine hn).mono (by omega) (Nat.le_refl _)⟩, hr2.mono (by omega)⟩
end Go.Ab
end
section
namespace Go.Ab
open Go
theorem D.anyPath.L1 : ∀ (j K : Nat) (r : ReaderT) (z : List Txt), RdOK K r → K + j + 2 ≤ 900000000 → z.length + j ≤ 6 → (∀ s, s ∈ z → s.length ≤ 13) →
    Dr (K + j + 2) (FineP 13) (fun f => G.spec_anyPath.L1 f (j : Int) r.b r.p z) := by
  intro j
  induction j with
  | zero =>
    intro K r z hr hK hz hs
    refine Tot.up ?_
    simp only [G.spec_anyPath.L1]
    refine Tot.ite (fun e => by simp at e) (fun _ => Tot.ite (fun e => ?_) (fun _ => Tot.ret ⟨⟨by show z.length ≤ 13; omega, hs⟩, hr.mono (by omega)⟩))
    refine Tot.bind (D.pick (m := 20) hr (by omega) rfl (by decide) (by decide)) ?_
    rintro ⟨x, r1⟩ ⟨_, hr1⟩
    refine Tot.ite (fun _ => ?_) (fun _ => Tot.ret ⟨⟨by show z.length ≤ 13; omega, hs⟩, hr1.mono (by omega)⟩)
    refine Tot.bind (D.of (m := 13) hr1 (by omega) _ (by decide) (by decide) (by decide)) ?_
    rintro ⟨y, r2⟩ ⟨hy, hr2⟩
    refine Tot.chk (by simp at e; omega) (Tot.ret ⟨⟨by show (z.set 0 y).length ≤ 13; simp; omega, fun s h => ?_⟩, hr2.mono (by omega)⟩)
    rcases List.mem_or_eq_of_mem_set h with h | rfl
    · exact hs s h
    · exact hy
  | succ j ih =>
    intro K r z hr hK hz hs
    have w2 : IntKind.wrap .i64 (((j + 1 : Nat) : Int) - 1) = (j : Int) := wrapN (by omega) (by omega)
    refine Tot.up ?_
    simp only [G.spec_anyPath.L1, w2]
    refine Tot.ite (fun _ => ?_) (fun e => by simp at e)
    refine Tot.bind (D.of (m := 13) hr (by omega) _ (by decide) (by decide) (by decide)) ?_
    rintro ⟨y, r1⟩ ⟨hy, hr1⟩
    refine Tot.chk (by omega) ?_
    refine (ih (K + 1) r1 (z ++ [y]) hr1 (by omega) (by simp; omega) (fun s h => ?_)).mono (fun x h => ⟨h.1, h.2.mono (by omega)⟩)
    rcases List.mem_append.1 h with h | h
    · exact hs s h
    · simp only [List.mem_singleton] at h; subst h; exact hy
theorem D.anyPath {K : Nat} {r : ReaderT} (hr : RdOK K r) (hK : K ≤ 800000000) : Dr (K + 9) (FineP 13) (fun f => G.spec_anyPath f r) := by
  refine Tot.up ?_
  simp only [G.spec_anyPath]
  refine Tot.bind (D.one hr (by omega) [1, 2, 1, 0, 3, 5, 6] (by decide) (by decide)) ?_
  rintro ⟨x, r'⟩ ⟨hx, hr'⟩
  obtain ⟨j, rfl, hj⟩ : ∃ j : Nat, x = (j : Int) ∧ j ≤ 6 := ⟨x.toNat, by simp at hx; omega⟩
  exact (D.anyPath.L1 j (K + 1) r' [] hr' (by omega) (by simp; omega) (fun s h => by cases h)).mono (fun x h => ⟨h.1, h.2.mono (by omega)⟩)
def Few (m d : Nat) (l : List (List Txt)) : Prop := l.length ≤ m ∧ ∀ p, p ∈ l → p.length ≤ d ∧ ∀ s, s ∈ p → s.length ≤ 12
theorem few_add {m d k : Nat} {l : List (List Txt)} {s : Txt} {p : List Txt} (h : Few (m + k) (d + 1) l) (hl : l.length < m + k) (hs : s.length ≤ 12) (hp : p.length ≤ d ∧ ∀ s, s ∈ p → s.length ≤ 12) : Few (m + k) (d + 1) (l ++ [[s] ++ p]) := by
  refine ⟨by simp; omega, fun q hq => ?_⟩
  rcases List.mem_append.1 hq with h' | h'
  · exact h.2 q h'
  · simp only [List.mem_singleton] at h'
    subst h'
    refine ⟨by simp; omega, fun t ht => ?_⟩
    rcases List.mem_append.1 ht with h' | h'
    · simp only [List.mem_singleton] at h'; subst h'; exact hs
    · exact hp.2 t h'
theorem D.all.L7 {n : NodeT} {i M d : Nat} {s : Txt} {v : List (List Txt)} {Q : List (List Txt) → Prop} (hv : Few M d v) (hM : M ≤ 20000) (hd : d ≤ 5) (hs : s.length ≤ 12) (C : Nat) (hC : C ≤ 900000)
    (next : ∀ z, Few (C + M) (d + 1) z → Tot Q (fun f => G.spec_all.L5 f n (IntKind.wrap .i64 ((i : Int) + 1)) z)) :
    ∀ (k j : Nat) (z : List (List Txt)), j + k = v.length → Few (C + j) (d + 1) z → Tot Q (fun f => G.spec_all.L7 f n (i : Int) s v (j : Int) z) := by
  have hl := hv.1
  intro k
  induction k with
  | zero =>
    intro j z hj hz
    refine Tot.up ?_
    simp only [G.spec_all.L7]
    refine Tot.ite (fun e => by simp at e; omega) (fun _ => next z ⟨by have := hz.1; omega, hz.2⟩)
  | succ k ih =>
    intro j z hj hz
    have hjv : j < v.length := by omega
    have hp := hv.2 _ (List.getElem_mem hjv)
    have hz1 := hz.1
    refine Tot.up ?_
    simp only [G.spec_all.L7, Int.toNat_natCast, wrap_suc (show j + 1 < 9223372036854775808 by omega), getD_of_lt _ hjv]
    refine Tot.ite (fun _ => ?_) (fun e => by simp at e; omega)
    refine Tot.chk (by omega) (Tot.chk (by omega) (Tot.chk (by omega) ?_))
    refine ih (j + 1) _ (by omega) ?_
    exact few_add (m := C) (k := j + 1) ⟨by omega, hz.2⟩ (by omega) hs hp
theorem D.all : ∀ (d : Nat) {n : NodeT}, d ≤ 5 → Shape d n = true → Tot (Few (7 ^ d) d) (fun f => G.spec_all f n)
  | 0, _, _, h => by cases h
  | d + 1, n, hd, h => by
    have hk := shape_len h
    have hf := shape_fine h
    have h7 := pow_le (show d ≤ 5 by omega)
    have hns : ∀ i, i < n.Names.length → (n.Names.getD i default).length ≤ 12 := fun i hi => by
      rw [getD_of_lt _ hi]; exact hf.2.2.1 _ (List.getElem_mem hi)
    have L5 : ∀ (k i : Nat) (z : List (List Txt)), i + k = n.Kids.length → Few (1 + i * 7 ^ d) (d + 1) z → Tot (Few (7 ^ (d + 1)) (d + 1)) (fun f => G.spec_all.L5 f n (i : Int) z) := by
      intro k
      induction k with
      | zero =>
        intro i z hi hz
        have hm : i * 7 ^ d ≤ 6 * 7 ^ d := Nat.mul_le_mul_right _ (by omega)
        have h1 : 0 < 7 ^ d := Nat.pow_pos (by omega)
        refine Tot.up ?_
        simp only [G.spec_all.L5]
        refine Tot.ite (fun e => by simp at e; omega) (fun _ => Tot.ret ⟨?_, hz.2⟩)
        have := hz.1
        rw [Nat.pow_succ]; omega
      | succ k ih =>
        intro i z hi hz
        have hm : i * 7 ^ d ≤ 6 * 7 ^ d := Nat.mul_le_mul_right _ (by omega)
        have K6 : ∀ s : Txt, s.length ≤ 12 → Tot (Few (7 ^ (d + 1)) (d + 1)) (fun f => G.spec_all.K6 f n (i : Int) z s) := fun s hs => by
          refine Tot.up ?_
          simp only [G.spec_all.K6, Int.toNat_natCast]
          refine Tot.chk (by omega) (Tot.bind (D.all d (by omega) (shape_kid h (j := i) (by omega))) ?_)
          intro v hv
          refine D.all.L7 hv (by omega) (by omega) hs (1 + i * 7 ^ d) (by omega) (fun z' hz' => ?_) v.length 0 z (by omega) hz
          rw [wrap_suc (by omega)]
          exact ih (i + 1) z' (by omega) ⟨by have := hz'.1; rw [Nat.add_mul]; omega, hz'.2⟩
        refine Tot.up ?_
        simp only [G.spec_all.L5, Int.toNat_natCast]
        refine Tot.ite (fun _ => ?_) (fun e => by simp at e; omega)
        refine Tot.bindE (T.decimal (i := i) (by unfold lim; omega)) (Tot.ite (fun e => ?_) (fun _ => ?_))
        · have h4 : n.Kind = 4 := by simpa using e
          have hnl := shape_names h h4
          exact Tot.chk (by omega) (K6 _ (hns i (by omega)))
        · exact K6 _ (by unfold decN; rw [if_pos (by omega)]; simp)
    refine Tot.up ?_
    simp only [G.spec_all]
    exact L5 n.Kids.length 0 [[]] (by omega) ⟨by simp, fun p hp => by simp only [List.mem_singleton] at hp; subst hp; exact ⟨by simp, fun s hs => by cases hs⟩⟩
theorem D.AllPaths {B E : Nat} {n : NodeT} (hB : B ≤ lim) (h : Fine B E n) : Tot (Few (7 ^ 5) 5) (fun f => G.spec_AllPaths f n) := by
  refine Tot.up ?_
  simp only [G.spec_AllPaths]
  refine Tot.bindE (T.spec_validNode hB h) (Tot.ite (fun e => ?_) (fun _ => Tot.ret ⟨by simp, fun p hp => by cases hp⟩))
  exact Tot.bind (D.all 5 (by omega) (val_shape e)) (fun v hv => Tot.ret hv)
theorem D.pathIn {K B E : Nat} {r : ReaderT} {n : NodeT} (hB : B ≤ lim) (h : Fine B E n) (hr : RdOK K r) (hK : K ≤ 700000000) : Dr (K + 10) (FineP 13) (fun f => G.spec_pathIn f r n) := by
  refine Tot.up ?_
  simp only [G.spec_pathIn]
  refine Tot.bind (D.AllPaths hB h) ?_
  intro l hl
  have h7 : (7 : Nat) ^ 5 = 16807 := by decide
  have hl1 := hl.1
  refine Tot.ite (fun e => ?_) (fun _ => ?_)
  · have hl0 : 0 < l.length := by simpa using e
    refine Tot.bind (D.pick (m := 4) hr (by omega) rfl (by decide) (by decide)) ?_
    rintro ⟨x, r1⟩ ⟨_, hr1⟩
    refine Tot.ite (fun _ => ?_) (fun _ => ?_)
    · refine Tot.bind (D.pick (m := l.length) hr1 (by omega) rfl hl0 (by omega)) ?_
      rintro ⟨y, r2⟩ ⟨⟨q, rfl, hq⟩, hr2⟩
      have hp := hl.2 _ (List.getElem_mem hq)
      refine Tot.chk (by simp only; omega) (Tot.ret ⟨?_, hr2.mono (by omega)⟩)
      simp only [Int.toNat_natCast, getD_of_lt _ hq]
      exact ⟨by omega, fun s hs => Nat.le_trans (hp.2 s hs) (by omega)⟩
    · exact Tot.bind (D.anyPath hr1 (by omega)) (fun x h => Tot.ret ⟨h.1, h.2.mono (by omega)⟩)
  · exact Tot.bind (D.anyPath hr (by omega)) (fun x h => Tot.ret ⟨h.1, h.2.mono (by omega)⟩)
end Go.Ab
end
section
namespace Go.Ab
open Go
theorem FineP.mono {B C : Nat} {p : List Txt} (h : FineP B p) (hB : B ≤ C) : FineP C p := ⟨Nat.le_trans h.1 hB, fun s hs => Nat.le_trans (h.2 s hs) hB⟩
section
variable {v1 : Int × ReaderT} {v2 : List Txt × ReaderT} {K : Nat} {r : ReaderT} {fr : List Txt} {m : NodeT}
end
def Bytes (l : List Int) : Prop := ∀ z, z ∈ l → 0 ≤ z ∧ z < 256
theorem D.newReader {c : List Int} (hc : Bytes c) (hl : c.length ≤ 1048576) : Tot (RdOK 0) (fun f => G.spec_newReader f c) := by
  refine Tot.up ?_
  simp only [G.spec_newReader]
  refine Tot.ite (fun e => ?_) (fun e => ?_)
  · have h : 2000 < c.length := by simp at e; omega
    exact Tot.chk (by omega) (Tot.ret ⟨by show (c.take 2000).length ≤ 2000; simp; omega, fun z hz => hc z (List.mem_of_mem_take hz), Int.le_refl _, Int.le_refl _⟩)
  · have h : c.length ≤ 2000 := by simp at e; omega
    exact Tot.ret ⟨h, hc, Int.le_refl _, Int.le_refl _⟩
theorem T.laws_equalTexts.L1 {a b : List Txt} (hl : a.length = b.length) (hb : a.length < big) : ∀ (k i : Nat), i + k = a.length → Ev (fun f => G.laws_equalTexts.L1 f a b i) (decide (a.drop i = b.drop i)) := by
  unfold big at hb
  intro k
  induction k with
  | zero =>
    intro i hi
    refine Ev.up ?_
    simp only [G.laws_equalTexts.L1]
    refine Ev.cf (by simp; omega) (Ev.ret' ?_)
    rw [List.drop_of_length_le (by omega), List.drop_of_length_le (by omega)]
    simp
  | succ k ih =>
    intro i hi
    refine Ev.up ?_
    simp only [G.laws_equalTexts.L1, Int.toNat_natCast, wrap_suc (show i + 1 < 9223372036854775808 by omega)]
    refine Ev.ct (by simp; omega) (Ev.chk (by omega) (Ev.chk (by omega) ?_))
    rw [drop_of_lt (default : Txt) (by omega : i < a.length), drop_of_lt (default : Txt) (by omega : i < b.length)]
    refine Ev.ite (fun e => (ih (i + 1) (by omega)).eq ?_) (fun e => Ev.ret' ?_)
    · have e : a.getD i default = b.getD i default := by simpa using e
      rw [e]; simp
    · have e : a.getD i default ≠ b.getD i default := by simpa using e
      symm
      exact decide_eq_false (fun h => e (List.cons.inj h).1)
theorem T.laws_equalTexts {a b : List Txt} (hb : a.length < big) : Ev (fun f => G.laws_equalTexts f a b) (decide (a = b)) := by
  refine Ev.up ?_
  simp only [G.laws_equalTexts]
  refine Ev.ite (fun e => Ev.ret' ?_) (fun e => ?_)
  · have e : a.length ≠ b.length := fun h => by rw [h] at e; simp at e
    symm
    exact decide_eq_false (fun h => e (by rw [h]))
  · have e : ((a.length : Nat) : Int) = ((b.length : Nat) : Int) := by simpa using e
    exact T.laws_equalTexts.L1 (by omega) hb a.length 0 (by omega)
open Classical in
theorem T.laws_equalNodes.L1 {a b : List NodeT} (hl : a.length = b.length) (hb : a.length < big) (hs : ∀ x y, x ∈ a → y ∈ b → Ev (fun f => G.laws_equalNode f x y) (decide (x = y))) :
    ∀ (k i : Nat), i + k = a.length → Ev (fun f => G.laws_equalNodes.L1 f a b i) (decide (a.drop i = b.drop i)) := by
  unfold big at hb
  intro k
  induction k with
  | zero =>
    intro i hi
    refine Ev.up ?_
    simp only [G.laws_equalNodes.L1]
    refine Ev.cf (by simp; omega) (Ev.ret' ?_)
    rw [List.drop_of_length_le (by omega), List.drop_of_length_le (by omega)]
    simp
  | succ k ih =>
    intro i hi
    refine Ev.up ?_
    simp only [G.laws_equalNodes.L1, Int.toNat_natCast, wrap_suc (show i + 1 < 9223372036854775808 by omega)]
    refine Ev.ct (by simp; omega) (Ev.chk (by omega) (Ev.chk (by omega) ?_))
    have ha : a.getD i default ∈ a := by rw [getD_of_lt _ (by omega : i < a.length)]; exact List.getElem_mem _
    have hb' : b.getD i default ∈ b := by rw [getD_of_lt _ (by omega : i < b.length)]; exact List.getElem_mem _
    refine Ev.bind (hs _ _ ha hb') ?_
    rw [drop_of_lt (default : NodeT) (by omega : i < a.length), drop_of_lt (default : NodeT) (by omega : i < b.length)]
    refine Ev.ite (fun e => (ih (i + 1) (by omega)).eq ?_) (fun e => Ev.ret' ?_)
    · have e : a.getD i default = b.getD i default := by simpa using e
      rw [e]; simp
    · have e : a.getD i default ≠ b.getD i default := by simpa using e
      symm
      exact decide_eq_false (fun h => e (List.cons.inj h).1)
open Classical in
theorem T.laws_equalNode {B C : Nat} (hB : B ≤ lim) (hC : C ≤ lim) : ∀ {D E : Nat} {a b : NodeT}, Fine B D a → Fine C E b → Ev (fun f => G.laws_equalNode f a b) (decide (a = b))
  | 0, _, _, _, h, _ => h.elim
  | _ + 1, 0, _, _, _, h => h.elim
  | D + 1, E + 1, a, b, ha, hb => by
    have hka := ha.kids
    have hna := ha.names
    have hl : lim < big := by decide
    refine Ev.up ?_
    simp only [G.laws_equalNode]
    by_cases h1 : a.Kind = b.Kind
    · refine Ev.ct (by simpa using h1) ?_
      by_cases h2 : a.Num = b.Num
      · refine Ev.ct (by simpa using h2) ?_
        by_cases h3 : a.Text = b.Text
        · refine Ev.ct (by simpa using h3) (Ev.bind (T.laws_equalTexts (by omega)) ?_)
          by_cases h4 : a.Names = b.Names
          · refine Ev.ct (by simpa using h4) ?_
            by_cases h5 : a.Kids.length = b.Kids.length
            · have hk : Ev (fun f => G.laws_equalNodes f a.Kids b.Kids) (decide (a.Kids = b.Kids)) := by
                refine Ev.up ?_
                simp only [G.laws_equalNodes]
                refine Ev.cf (by rw [h5]; simp) ?_
                exact T.laws_equalNodes.L1 h5 (by omega) (fun x y hx hy => T.laws_equalNode hB hC (ha.2.2.2.2.2 x hx) (hb.2.2.2.2.2 y hy)) a.Kids.length 0 (by omega)
              refine Ev.bind hk (Ev.ret' ?_)
              apply decide_eq_decide.2
              constructor
              · intro h
                cases a; cases b
                simp only at h h1 h2 h3 h4
                rw [h, h1, h2, h3, h4]
              · intro h; rw [h]
            · have hk : Ev (fun f => G.laws_equalNodes f a.Kids b.Kids) false := by
                refine Ev.up ?_
                simp only [G.laws_equalNodes]
                exact Ev.ct (by simp; omega) (Ev.ret _)
              exact Ev.bind hk (Ev.ret' (decide_eq_false (fun h => h5 (by rw [h]))).symm)
          · exact Ev.cf (by simpa using h4) (Ev.ret' (decide_eq_false (fun h => h4 (by rw [h]))).symm)
        · exact Ev.cf (by simpa using h3) (Ev.ret' (decide_eq_false (fun h => h3 (by rw [h]))).symm)
      · exact Ev.cf (by simpa using h2) (Ev.ret' (decide_eq_false (fun h => h2 (by rw [h]))).symm)
    · exact Ev.cf (by simpa using h1) (Ev.ret' (decide_eq_false (fun h => h1 (by rw [h]))).symm)
theorem T.equal_self {B D : Nat} (hB : B ≤ lim) {a : NodeT} (h : Fine B D a) : Ev (fun f => G.laws_equalNode f a a) true := (T.laws_equalNode hB hB h h).eq (by simp)
end Go.Ab
end
section
namespace Go.Ab
open Go
theorem equal_val {m : NodeT} (h : Val m = true) : Ev (fun f => G.laws_equalNode f m m) true := T.equal_self lim12 (val_fine h)
open Classical in
theorem equal_dec {a b : NodeT} (ha : Val a = true) (hb : Val b = true) : Ev (fun f => G.laws_equalNode f a b) (decide (a = b)) := T.laws_equalNode lim12 lim12 (val_fine ha) (val_fine hb)
theorem fine_val {n : NodeT} (h : Val n = true) : Fine 60 5 n := (val_fine h).mono (by omega) (Nat.le_refl _)
theorem getD_mem {α : Type} {l : List α} {i : Nat} (d : α) (h : i < l.length) : l.getD i d ∈ l := by rw [getD_of_lt d h]; exact List.getElem_mem h
end Go.Ab
end
section
namespace Go.Ab
open Go
set_option maxRecDepth 100000
theorem getD_mid {α : Type} (d : α) {A S : List α} {x : α} {j : Nat} (h : j = A.length) : (A ++ x :: S).getD j d = x := by
  subst h; simp [List.getD]
theorem set_mid {α : Type} {A S : List α} {x y : α} {j : Nat} (h : j = A.length) : (A ++ x :: S).set j y = A ++ y :: S := by
  subst h; simp
theorem T.len_small : ∀ k : Nat, k ≤ 12 → ∃ v, Ev (fun f => G.math_bits_Len f (k : Int)) v := by
  intro k hk
  have h : ∃ v, G.math_bits_Len 5 (k : Int) = some v ∧ ∀ n, G.math_bits_Len (n + 5) (k : Int) = some v := by
    rcases k with _ | _ | _ | _ | _ | _ | _ | _ | _ | _ | _ | _ | _ | k
    all_goals first | exact ⟨_, rfl, fun n => rfl⟩ | omega
  obtain ⟨v, _, h⟩ := h
  exact ⟨v, 5, fun n hn => by obtain ⟨m, rfl⟩ : ∃ m, n = m + 5 := ⟨n - 5, by omega⟩; exact h m⟩
end Go.Ab
end
section
namespace Go.Ab
open Go
set_option maxRecDepth 100000
def cI3 (a b : Int) : Int := if a < b then -1 else if b < a then 1 else 0
def cT3 (a b : Txt) : Int := if bl a b then -1 else if a = b then 0 else 1
def orI (x y : Int) : Int := if x = 0 then y else x
theorem wrapz {x : Int} (h0 : -9223372036854775808 ≤ x) (h1 : x < 9223372036854775808) : IntKind.wrap .i64 x = x := by
  simp only [IntKind.wrap, IntKind.bits, IntKind.signed]
  simp
  omega
theorem cI3_zero (a b : Int) : cI3 a b = 0 ↔ a = b := by
  unfold cI3
  by_cases h : a < b
  · rw [if_pos h]; constructor <;> intro e <;> omega
  · rw [if_neg h]
    by_cases k : b < a
    · rw [if_pos k]; constructor <;> intro e <;> omega
    · rw [if_neg k]; constructor <;> intro e <;> omega
theorem cT3_zero (a b : Txt) : cT3 a b = 0 ↔ a = b := by
  unfold cT3
  by_cases h : bl a b = true
  · rw [if_pos h]; exact ⟨fun e => by omega, fun e => absurd e (bl_ne h)⟩
  · rw [if_neg h]
    by_cases e : a = b
    · rw [if_pos e]; exact ⟨fun _ => e, fun _ => rfl⟩
    · rw [if_neg e]; exact ⟨fun h => by omega, fun h => absurd h e⟩
theorem orI_z {x y : Int} (h : x = 0) : orI x y = y := if_pos h
theorem orI_n {x y : Int} (h : x ≠ 0) : orI x y = x := if_neg h
def cKd (F : NodeT → NodeT → Int) (a b : NodeT) : Nat → Nat → Int
  | 0, _ => cI3 ((a.Kids.length : Nat) : Int) ((b.Kids.length : Nat) : Int)
  | k + 1, i => orI (if a.Kind = 4 then cT3 (a.Names.getD i default) (b.Names.getD i default) else 0) (orI (F (a.Kids.getD i default) (b.Kids.getD i default)) (cKd F a b k (i + 1)))
def cmpM : Nat → NodeT → NodeT → Int
  | 0, _, _ => 0
  | d + 1, a, b => orI (cI3 a.Kind b.Kind) (orI (cI3 a.Num b.Num) (orI (cT3 a.Text b.Text) (cKd (cmpM d) a b (min a.Kids.length b.Kids.length) 0)))
theorem cmpM_succ {d : Nat} {a b : NodeT} : cmpM (d + 1) a b = orI (cI3 a.Kind b.Kind) (orI (cI3 a.Num b.Num) (orI (cT3 a.Text b.Text) (cKd (cmpM d) a b (min a.Kids.length b.Kids.length) 0))) := by rw [cmpM]
theorem T.spec_order3 (a b : Int) : Ev (fun f => G.spec_order f a b) (cI3 a b) := by
  refine Ev.up ?_
  simp only [G.spec_order]
  refine Ev.bind (T.spec_toInt _) (Ev.bind (T.spec_toInt _) (Ev.ret' ?_))
  unfold cI3
  by_cases h : a < b
  · rw [if_pos h, decide_eq_true h, decide_eq_false (show ¬ b < a by omega)]; exact wrapz (by decide) (by decide)
  · rw [if_neg h, decide_eq_false h]
    by_cases k : b < a
    · rw [if_pos k, decide_eq_true k]; exact wrapz (by decide) (by decide)
    · rw [if_neg k, decide_eq_false k]; exact wrapz (by decide) (by decide)
theorem T.spec_orderText3 (a b : Txt) : Ev (fun f => G.spec_orderText f a b) (cT3 a b) := by
  refine Ev.up ?_
  simp only [G.spec_orderText]
  unfold cT3
  cases h : bl a b with
  | true => exact Ev.ct h (Ev.bind (T.spec_toInt _) (Ev.bind (T.spec_toInt _) (Ev.ret' (wrapz (by decide) (by decide)))))
  | false =>
    refine Ev.cf h ?_
    rw [if_neg (by simp)]
    by_cases e : a = b
    · rw [if_pos e]
      exact Ev.ct (by simpa using e) (Ev.bind (T.spec_toInt _) (Ev.bind (T.spec_toInt _) (Ev.ret' (wrapz (by decide) (by decide)))))
    · rw [if_neg e]
      exact Ev.cf (by simpa using e) (Ev.bind (T.spec_toInt _) (Ev.bind (T.spec_toInt _) (Ev.ret' (wrapz (by decide) (by decide)))))
theorem T.cmp_int3 (a b : Int) : Ev (fun f => G.cmp_Compare_int f a b) (cI3 a b) := by
  have hn : ∀ x : Int, Ev (fun f => G.cmp_isNaN_int f x) false := fun x => by
    refine Ev.up ?_
    simp only [G.cmp_isNaN_int]
    exact Ev.ret' (by simp)
  refine Ev.up ?_
  simp only [G.cmp_Compare_int]
  unfold cI3
  refine Ev.bind (hn a) (Ev.bind (hn b) (Ev.cf rfl (Ev.cf rfl ?_)))
  by_cases h : a < b
  · rw [if_pos h]; exact Ev.ct (decide_eq_true h) (Ev.ret _)
  · rw [if_neg h]
    refine Ev.cf (decide_eq_false h) ?_
    by_cases k : b < a
    · rw [if_pos k]; exact Ev.ct (decide_eq_true k) (Ev.ret _)
    · rw [if_neg k]; exact Ev.cf (decide_eq_false k) (Ev.ret _)
theorem T.strings3 (a b : Txt) : Ev (fun f => G.strings_Compare f a b) (cT3 a b) := by
  refine Ev.up ?_
  simp only [G.strings_Compare]
  have : Ev (fun f => G.internal_bytealg_CompareString f a b) (Go.Lib.compareBytes a b) := by
    refine Ev.up ?_
    simp only [G.internal_bytealg_CompareString]
    exact Ev.ret _
  exact Ev.bind this (Ev.ret' (cmpB a b))
theorem Ev.orI {h g : Nat → Option Int} {x y : Int} (h1 : Ev h x) (h2 : x = 0 → Ev g y) : Ev (fun n => Option.bind (h n) fun v => cond (v != 0) (some v) (g n)) (orI x y) := by
  refine Ev.bind h1 ?_
  by_cases e : x = 0
  · rw [orI_z e]; exact Ev.cf (by simpa using e) (h2 e)
  · rw [orI_n e]; exact Ev.ct (by simpa using e) (Ev.ret _)
section
variable {d : Nat} {a b : NodeT} (ha : Shape (d + 1) a = true) (hb : Shape (d + 1) b = true) (hk : a.Kind = b.Kind)
include ha hb hk
theorem T.spec_cmp.L1 (hs : ∀ x y, Shape d x = true → Shape d y = true → Ev (fun f => G.spec_compare f x y) (cmpM d x y)) :
    ∀ (k i : Nat), i + k = min a.Kids.length b.Kids.length → Ev (fun f => G.spec_compare.L1 f a b i) (cKd (cmpM d) a b k i) := by
  have la := shape_len ha
  have lb := shape_len hb
  intro k
  induction k with
  | zero =>
    intro i hi
    have tail : Ev (fun f => Option.bind (G.spec_order f ((a.Kids.length : Nat) : Int) ((b.Kids.length : Nat) : Int)) fun v => some v) (cKd (cmpM d) a b 0 i) := Ev.bind (T.spec_order3 _ _) (Ev.ret' (by rw [cKd]))
    refine Ev.up ?_
    simp only [G.spec_compare.L1]
    by_cases h : i < a.Kids.length
    · exact Ev.ct (decide_eq_true (by omega)) (Ev.cf (decide_eq_false (by omega)) tail)
    · exact Ev.cf (decide_eq_false (by omega)) tail
  | succ k ih =>
    intro i hi
    have hia : i < a.Kids.length := by omega
    have hib : i < b.Kids.length := by omega
    have rest : Ev (fun f => Option.bind (G.spec_compare f (a.Kids.getD i default) (b.Kids.getD i default)) fun v => cond (v != 0) (some v) (G.spec_compare.L1 f a b ((i + 1 : Nat) : Int))) (orI (cmpM d (a.Kids.getD i default) (b.Kids.getD i default)) (cKd (cmpM d) a b k (i + 1))) :=
      Ev.orI (hs _ _ (shape_kid ha hia) (shape_kid hb hib)) (fun _ => ih (i + 1) (by omega))
    refine Ev.up ?_
    simp only [G.spec_compare.L1, Int.toNat_natCast, wrap_suc (show i + 1 < 9223372036854775808 by omega)]
    rw [cKd]
    refine Ev.ct (decide_eq_true (by omega)) (Ev.ct (decide_eq_true (by omega)) ?_)
    by_cases h4 : a.Kind = 4
    · have n1 := shape_names ha h4
      have n2 := shape_names hb (hk ▸ h4)
      rw [if_pos h4]
      refine Ev.ct (by simpa using h4) (Ev.chk (by omega) (Ev.chk (by omega) ?_))
      by_cases hn : a.Names.getD i default = b.Names.getD i default
      · rw [orI_z ((cT3_zero _ _).2 hn)]
        exact Ev.ct (by simpa using hn) (Ev.chk (by omega) (Ev.chk (by omega) rest))
      · rw [orI_n (fun e => hn ((cT3_zero _ _).1 e))]
        exact Ev.cf (by simpa using hn) (Ev.chk (by omega) (Ev.chk (by omega) (Ev.bind (T.spec_orderText3 _ _) (Ev.ret _))))
    · rw [if_neg h4, orI_z rfl]
      exact Ev.cf (by simpa using h4) (Ev.chk (by omega) (Ev.chk (by omega) rest))
theorem T.impl_cmp.L3 (hs : ∀ x y, Shape d x = true → Shape d y = true → Ev (fun f => G.impl_compareValid f x y) (cmpM d x y)) :
    ∀ (k i : Nat), i + k = min a.Kids.length b.Kids.length → Ev (fun f => G.impl_compareValid.L3 f a b i) (cKd (cmpM d) a b k i) := by
  have la := shape_len ha
  have lb := shape_len hb
  intro k
  induction k with
  | zero =>
    intro i hi
    have tail : Ev (fun f => Option.bind (G.cmp_Compare_int f ((a.Kids.length : Nat) : Int) ((b.Kids.length : Nat) : Int)) fun v => some v) (cKd (cmpM d) a b 0 i) := Ev.bind (T.cmp_int3 _ _) (Ev.ret' (by rw [cKd]))
    refine Ev.up ?_
    simp only [G.impl_compareValid.L3]
    by_cases h : i < a.Kids.length
    · exact Ev.ct (decide_eq_true (by omega)) (Ev.cf (decide_eq_false (by omega)) tail)
    · exact Ev.cf (decide_eq_false (by omega)) tail
  | succ k ih =>
    intro i hi
    have hia : i < a.Kids.length := by omega
    have hib : i < b.Kids.length := by omega
    have rest : Ev (fun f => G.impl_compareValid.K4 f a b (i : Int)) (orI (cmpM d (a.Kids.getD i default) (b.Kids.getD i default)) (cKd (cmpM d) a b k (i + 1))) := by
      refine Ev.up ?_
      simp only [G.impl_compareValid.K4, Int.toNat_natCast, wrap_suc (show i + 1 < 9223372036854775808 by omega)]
      exact Ev.chk (by omega) (Ev.chk (by omega) (Ev.orI (hs _ _ (shape_kid ha hia) (shape_kid hb hib)) (fun _ => ih (i + 1) (by omega))))
    refine Ev.up ?_
    simp only [G.impl_compareValid.L3, Int.toNat_natCast]
    rw [cKd]
    refine Ev.ct (decide_eq_true (by omega)) (Ev.ct (decide_eq_true (by omega)) ?_)
    by_cases h4 : a.Kind = 4
    · have n1 := shape_names ha h4
      have n2 := shape_names hb (hk ▸ h4)
      rw [if_pos h4]
      exact Ev.ct (by simpa using h4) (Ev.chk (by omega) (Ev.chk (by omega) (Ev.orI (T.strings3 _ _) (fun _ => rest))))
    · rw [if_neg h4, orI_z rfl]
      exact Ev.cf (by simpa using h4) rest
end
theorem T.spec_cmp : ∀ (d : Nat) {a b : NodeT}, Shape d a = true → Shape d b = true → Ev (fun f => G.spec_compare f a b) (cmpM d a b)
  | 0, _, _, h, _ => by cases h
  | d + 1, a, b, ha, hb => by
    refine Ev.up ?_
    simp only [G.spec_compare]
    rw [cmpM_succ]
    by_cases h1 : a.Kind = b.Kind
    · rw [orI_z ((cI3_zero _ _).2 h1)]
      refine Ev.cf (by simpa using h1) ?_
      by_cases h2 : a.Num = b.Num
      · rw [orI_z ((cI3_zero _ _).2 h2)]
        refine Ev.cf (by simpa using h2) ?_
        by_cases h3 : a.Text = b.Text
        · rw [orI_z ((cT3_zero _ _).2 h3)]
          exact Ev.ct (by simpa using h3) (T.spec_cmp.L1 ha hb h1 (fun x y hx hy => T.spec_cmp d hx hy) (min a.Kids.length b.Kids.length) 0 (by omega))
        · rw [orI_n (fun e => h3 ((cT3_zero _ _).1 e))]
          exact Ev.cf (by simpa using h3) (Ev.bind (T.spec_orderText3 _ _) (Ev.ret _))
      · rw [orI_n (fun e => h2 ((cI3_zero _ _).1 e))]
        exact Ev.ct (by simpa using h2) (Ev.bind (T.spec_order3 _ _) (Ev.ret _))
    · rw [orI_n (fun e => h1 ((cI3_zero _ _).1 e))]
      exact Ev.ct (by simpa using h1) (Ev.bind (T.spec_order3 _ _) (Ev.ret _))
theorem T.impl_cmp : ∀ (d : Nat) {a b : NodeT}, Shape d a = true → Shape d b = true → Ev (fun f => G.impl_compareValid f a b) (cmpM d a b)
  | 0, _, _, h, _ => by cases h
  | d + 1, a, b, ha, hb => by
    refine Ev.up ?_
    simp only [G.impl_compareValid]
    rw [cmpM_succ]
    exact Ev.orI (T.cmp_int3 _ _) (fun h1 => Ev.orI (T.cmp_int3 _ _) (fun _ => Ev.orI (T.strings3 _ _) (fun _ => T.impl_cmp.L3 ha hb ((cI3_zero _ _).1 h1) (fun x y hx hy => T.impl_cmp d hx hy) (min a.Kids.length b.Kids.length) 0 (by omega))))
end Go.Ab
end
section
namespace Go.Ab
open Go
set_option maxRecDepth 100000
def okN (b : UInt8) : Bool := (decide (97 ≤ b.toNat) && decide (b.toNat ≤ 122)) || (decide (48 ≤ b.toNat) && decide (b.toNat ≤ 57))
def NmV (s : Txt) : Bool := s.all okN && (decide (1 ≤ s.length) && decide (s.length ≤ 8))
def ItV (c : Int) (it : ItemT) : Bool := NmV it.Name && (Val it.Node && (decide (1 ≤ it.Version) && decide (it.Version ≤ c)))
def nmsI (l : List ItemT) : List Txt := l.map fun it => it.Name
def StV (s : StoreT) : Bool := (s.Items.all (ItV s.Clock) && Asc (nmsI s.Items)) && (decide (s.Items.length ≤ 10) && (decide (0 ≤ s.Clock) && decide (s.Clock ≤ 999)))
structure FineS (B : Nat) (s : StoreT) : Prop where
  len : s.Items.length ≤ B
  nam : ∀ it, it ∈ s.Items → it.Name.length ≤ B
  nod : ∀ it, it ∈ s.Items → FineE B it.Node
theorem nms_len {l : List ItemT} : (nmsI l).length = l.length := by unfold nmsI; rw [List.length_map]
theorem nms_at {l : List ItemT} {i : Nat} (h : i < l.length) : (nmsI l).getD i default = (l.getD i default).Name := by
  rw [getD_of_lt _ (by rw [nms_len]; exact h), getD_of_lt _ h]
  unfold nmsI
  rw [List.getElem_map]
theorem asc_step {l : List Txt} {i : Nat} (h0 : 0 < i) (h : i < l.length) : Asc (l.drop (i - 1)) = (bl (l.getD (i - 1) default) (l.getD i default) && Asc (l.drop i)) := by
  rw [drop_pred h0 h, Asc, drop_of_lt (default : Txt) h]
theorem asc_end {l : List Txt} {i : Nat} (h : l.length ≤ i) : Asc (l.drop (i - 1)) = true := by
  by_cases h0 : l.length ≤ i - 1
  · rw [List.drop_of_length_le h0]; rfl
  · rw [drop_of_lt (default : Txt) (by omega : i - 1 < l.length), List.drop_of_length_le (by omega)]; rfl
theorem T.spec_validName.L1 (s : Txt) (hs : s.length < big) : ∀ (k i : Nat), i + k = s.length → Ev (fun f => G.spec_validName.L1 f s i) ((s.drop i).all okN && (decide (1 ≤ s.length) && decide (s.length ≤ 8))) := by
  unfold big at hs
  intro k
  induction k with
  | zero =>
    intro i hi
    refine Ev.up ?_
    simp only [G.spec_validName.L1]
    refine Ev.cf (decide_eq_false (by omega)) (Ev.bind (T.spec_inRange _ _ _) (Ev.ret' ?_))
    rw [List.drop_of_length_le (by omega), List.all_nil, Bool.true_and]
    congr 1 <;> (apply decide_eq_decide.2; omega)
  | succ k ih =>
    intro i hi
    refine Ev.up ?_
    simp only [G.spec_validName.L1, Int.toNat_natCast, byte_wrap, wrap_suc (show i + 1 < 9223372036854775808 by omega)]
    rw [drop_of_lt (0 : UInt8) (by omega : i < s.length), List.all_cons]
    have e1 : (decide ((97 : Int) ≤ ((s.getD i 0).toNat : Int)) && decide (((s.getD i 0).toNat : Int) ≤ 122)) = (decide (97 ≤ (s.getD i 0).toNat) && decide ((s.getD i 0).toNat ≤ 122)) := by congr 1 <;> (apply decide_eq_decide.2; omega)
    have e2 : (decide ((48 : Int) ≤ ((s.getD i 0).toNat : Int)) && decide (((s.getD i 0).toNat : Int) ≤ 57)) = (decide (48 ≤ (s.getD i 0).toNat) && decide ((s.getD i 0).toNat ≤ 57)) := by congr 1 <;> (apply decide_eq_decide.2; omega)
    refine Ev.ct (decide_eq_true (by omega)) (Ev.chk (by omega) (Ev.bind (T.spec_inRange _ _ _) ?_))
    rw [e1]
    refine Ev.ite (fun h => ?_) (fun h => ?_)
    · refine (ih (i + 1) (by omega)).eq ?_
      unfold okN
      rw [show (decide (97 ≤ (s.getD i 0).toNat) && decide ((s.getD i 0).toNat ≤ 122)) = true from h, Bool.true_or, Bool.true_and]
    · refine Ev.chk (by omega) (Ev.bind (T.spec_inRange _ _ _) ?_)
      rw [e2]
      refine Ev.ite (fun h2 => ?_) (fun h2 => Ev.ret' ?_)
      · refine (ih (i + 1) (by omega)).eq ?_
        unfold okN
        rw [show (decide (48 ≤ (s.getD i 0).toNat) && decide ((s.getD i 0).toNat ≤ 57)) = true from h2, Bool.or_true, Bool.true_and]
      · unfold okN
        rw [show (decide (97 ≤ (s.getD i 0).toNat) && decide ((s.getD i 0).toNat ≤ 122)) = false from h, show (decide (48 ≤ (s.getD i 0).toNat) && decide ((s.getD i 0).toNat ≤ 57)) = false from h2]
        rfl
theorem T.spec_validName (s : Txt) (hs : s.length < big) : Ev (fun f => G.spec_validName f s) (NmV s) := by
  refine Ev.up ?_
  simp only [G.spec_validName]
  exact T.spec_validName.L1 s hs s.length 0 (by omega)
theorem T.impl_isName.L1 (s : Txt) (hs : s.length < big) : ∀ (k i : Nat), i + k = s.length → Ev (fun f => G.impl_isName.L1 f s i) ((s.drop i).all okN) := by
  unfold big at hs
  intro k
  induction k with
  | zero =>
    intro i hi
    refine Ev.up ?_
    simp only [G.impl_isName.L1]
    refine Ev.cf (decide_eq_false (by omega)) (Ev.ret' ?_)
    rw [List.drop_of_length_le (by omega)]; rfl
  | succ k ih =>
    intro i hi
    refine Ev.up ?_
    simp only [G.impl_isName.L1, Int.toNat_natCast, wrap_suc (show i + 1 < 9223372036854775808 by omega)]
    rw [drop_of_lt (0 : UInt8) (by omega : i < s.length), List.all_cons]
    have yes : okN (s.getD i 0) = true → Ev (fun f => G.impl_isName.L1 f s ((i + 1 : Nat) : Int)) (okN (s.getD i 0) && (s.drop (i + 1)).all okN) := fun h => (ih (i + 1) (by omega)).eq (by rw [h]; rfl)
    have no : okN (s.getD i 0) = false → Ev (fun _ => some false) (okN (s.getD i 0) && (s.drop (i + 1)).all okN) := fun h => Ev.ret' (by rw [h]; rfl)
    have ok : okN (s.getD i 0) = decide ((97 ≤ (s.getD i 0).toNat ∧ (s.getD i 0).toNat ≤ 122) ∨ (48 ≤ (s.getD i 0).toNat ∧ (s.getD i 0).toNat ≤ 57)) := by unfold okN; simp
    refine Ev.ct (decide_eq_true (by omega)) (Ev.chk (by omega) ?_)
    refine Ev.ite (fun h => ?_) (fun h => ?_)
    · simp only [decide_eq_true_eq] at h
      refine Ev.chk (by omega) (Ev.ite (fun h2 => ?_) (fun h2 => ?_))
      · simp only [decide_eq_true_eq] at h2
        exact no (by rw [ok]; exact decide_eq_false (by omega))
      · simp only [decide_eq_false_iff_not] at h2
        refine Ev.chk (by omega) (Ev.ite (fun h3 => ?_) (fun h3 => ?_))
        · simp only [decide_eq_true_eq] at h3
          exact no (by rw [ok]; exact decide_eq_false (by omega))
        · simp only [decide_eq_false_iff_not] at h3
          exact yes (by rw [ok]; exact decide_eq_true (by omega))
    · simp only [decide_eq_false_iff_not] at h
      refine Ev.chk (by omega) (Ev.ite (fun h2 => ?_) (fun h2 => ?_))
      · simp only [decide_eq_true_eq] at h2
        refine Ev.chk (by omega) (Ev.cf (decide_eq_false (by omega)) (Ev.chk (by omega) (Ev.ct (decide_eq_true (by omega)) ?_)))
        exact no (by rw [ok]; exact decide_eq_false (by omega))
      · simp only [decide_eq_false_iff_not] at h2
        exact yes (by rw [ok]; exact decide_eq_true (by omega))
theorem T.impl_isName (s : Txt) (hs : s.length < big) : Ev (fun f => G.impl_isName f s) (NmV s) := by
  refine Ev.up ?_
  simp only [G.impl_isName]
  unfold NmV
  refine Ev.ite (fun h => Ev.ret' ?_) (fun h => Ev.ite (fun h2 => Ev.ret' ?_) (fun h2 => ?_))
  · have : s = [] := by simpa using h
    subst this; rfl
  · simp only [decide_eq_true_eq] at h2
    rw [decide_eq_false (show ¬ s.length ≤ 8 by omega), Bool.and_false, Bool.and_false]
  · simp only [decide_eq_false_iff_not] at h2
    have hne : s ≠ [] := by simpa using h
    have hl : 1 ≤ s.length := by cases s with
      | nil => exact absurd rfl hne
      | cons _ _ => simp
    refine (T.impl_isName.L1 s hs s.length 0 (by omega)).eq ?_
    rw [decide_eq_true hl, decide_eq_true (show s.length ≤ 8 by omega), List.drop_zero]
    simp
theorem FineS.at_ {B : Nat} {s : StoreT} (h : FineS B s) {i : Nat} (hi : i < s.Items.length) : (s.Items.getD i default).Name.length ≤ B ∧ FineE B (s.Items.getD i default).Node :=
  ⟨h.nam _ (getD_mem default hi), h.nod _ (getD_mem default hi)⟩
section
variable {B : Nat} {s : StoreT} (hB : B ≤ lim) (h : FineS B s)
include hB h
theorem T.spec_validStore.L1 : ∀ (k i : Nat), i + k = s.Items.length → Ev (fun f => G.spec_validStore.L1 f s i) (((s.Items.drop i).all (ItV s.Clock) && Asc ((nmsI s.Items).drop (i - 1))) && (decide (s.Items.length ≤ 10) && (decide (0 ≤ s.Clock) && decide (s.Clock ≤ 999)))) := by
  have hl := h.len
  unfold lim at hB
  intro k
  induction k with
  | zero =>
    intro i hi
    refine Ev.up ?_
    simp only [G.spec_validStore.L1]
    rw [List.drop_of_length_le (by omega), asc_end (by rw [nms_len]; omega)]
    refine Ev.cf (decide_eq_false (by omega)) (Ev.ite (fun e => ?_) (fun e => Ev.ret' ?_))
    · refine Ev.bind (T.spec_inRange _ _ _) (Ev.ret' ?_)
      rw [decide_eq_true (show s.Items.length ≤ 10 by simp only [decide_eq_true_eq] at e; omega)]
      simp
    · rw [decide_eq_false (show ¬ s.Items.length ≤ 10 by simp only [decide_eq_false_iff_not] at e; omega)]
      simp
  | succ k ih =>
    intro i hi
    have hil : i < s.Items.length := by omega
    obtain ⟨hn, ⟨D, hd⟩⟩ := h.at_ hil
    refine Ev.up ?_
    simp only [G.spec_validStore.L1, Int.toNat_natCast, wrap_suc (show i + 1 < 9223372036854775808 by omega)]
    rw [drop_of_lt (default : ItemT) hil, List.all_cons]
    refine Ev.ct (decide_eq_true (by omega)) (Ev.chk (by omega) ?_)
    unfold ItV
    refine Ev.bind (T.spec_validName _ (by unfold big; omega)) (Ev.ite (fun e1 => ?_) (fun e1 => Ev.ret' (by rw [e1]; simp)))
    refine Ev.bind (T.spec_validNode (by unfold lim; omega) hd) (Ev.ite (fun e2 => ?_) (fun e2 => Ev.ret' (by rw [e2]; simp)))
    refine Ev.bind (T.spec_inRange _ _ _) (Ev.ite (fun e3 => ?_) (fun e3 => Ev.ret' (by rw [e3]; simp)))
    rw [e1, e2, e3]
    have ih' := ih (i + 1) (by omega)
    unfold ItV at ih'
    rw [Nat.add_sub_cancel] at ih'
    by_cases h0 : 0 < i
    · have e : IntKind.wrap .i64 ((i : Int) - 1) = ((i - 1 : Nat) : Int) := wrapN (by omega) (by omega)
      rw [e, Int.toNat_natCast]
      rw [asc_step h0 (by rw [nms_len]; exact hil), nms_at hil, nms_at (by omega : i - 1 < s.Items.length)]
      refine Ev.ct (decide_eq_true (by omega)) (Ev.chk (by omega) (Ev.ite (fun h1 => Ev.ret' ?_) (fun h1 => Ev.ite (fun h2 => Ev.ret' ?_) (fun h2 => ?_))))
      · rw [show bl (s.Items.getD (i - 1) default).Name (s.Items.getD i default).Name = false from bl_asymm h1]; simp
      · rw [beq_iff_eq] at h2
        rw [show bl (s.Items.getD (i - 1) default).Name (s.Items.getD i default).Name = false by rw [h2]; exact bl_irr _]; simp
      · have hb : bl (s.Items.getD (i - 1) default).Name (s.Items.getD i default).Name = true := by
          cases hb : bl (s.Items.getD (i - 1) default).Name (s.Items.getD i default).Name with
          | true => rfl
          | false => rw [bl_tri h1 hb] at h2; simp at h2
        rw [hb]
        exact ih'.eq (by simp)
    · have : i = 0 := by omega
      subst this
      exact Ev.cf (by decide) (ih'.eq (by simp))
theorem T.spec_validStore : Ev (fun f => G.spec_validStore f s) (StV s) := by
  refine Ev.up ?_
  simp only [G.spec_validStore]
  exact T.spec_validStore.L1 hB h s.Items.length 0 (by omega)
theorem T.impl_ValidStore.L1 : ∀ (k i : Nat), i + k = s.Items.length → Ev (fun f => G.impl_ValidStore.L1 f s i) ((s.Items.drop i).all (ItV s.Clock) && Asc ((nmsI s.Items).drop (i - 1))) := by
  have hl := h.len
  unfold lim at hB
  intro k
  induction k with
  | zero =>
    intro i hi
    refine Ev.up ?_
    simp only [G.impl_ValidStore.L1]
    rw [List.drop_of_length_le (by omega), asc_end (by rw [nms_len]; omega)]
    exact Ev.cf (decide_eq_false (by omega)) (Ev.ret _)
  | succ k ih =>
    intro i hi
    have hil : i < s.Items.length := by omega
    obtain ⟨hn, ⟨D, hd⟩⟩ := h.at_ hil
    refine Ev.up ?_
    simp only [G.impl_ValidStore.L1, Int.toNat_natCast, wrap_suc (show i + 1 < 9223372036854775808 by omega)]
    rw [drop_of_lt (default : ItemT) hil, List.all_cons]
    have ih' := ih (i + 1) (by omega)
    rw [Nat.add_sub_cancel] at ih'
    refine Ev.ct (decide_eq_true (by omega)) (Ev.chk (by omega) ?_)
    refine Ev.bind (T.impl_isName _ (by unfold big; omega)) (Ev.ite (fun e1 => ?_) (fun e1 => Ev.ret' (by unfold ItV; rw [e1]; simp)))
    have tail : ∀ q : Bool, (q = true → Asc ((nmsI s.Items).drop (i - 1)) = Asc ((nmsI s.Items).drop i)) → q = true → Ev (fun f => cond (decide ((s.Items.getD i default).Version < 1)) (some false) (cond (decide (s.Clock < (s.Items.getD i default).Version)) (some false)
        (Option.bind (G.impl_ValidNode f (s.Items.getD i default).Node) fun v => cond v (G.impl_ValidStore.L1 f s ((i + 1 : Nat) : Int)) (some false)))) (ItV s.Clock (s.Items.getD i default) && (s.Items.drop (i + 1)).all (ItV s.Clock) && Asc ((nmsI s.Items).drop (i - 1))) := fun q hq hq' => by
      rw [hq hq']
      refine Ev.ite (fun v1 => Ev.ret' ?_) (fun v1 => Ev.ite (fun v2 => Ev.ret' ?_) (fun v2 => ?_))
      · simp only [decide_eq_true_eq] at v1
        unfold ItV
        rw [decide_eq_false (show ¬ 1 ≤ (s.Items.getD i default).Version by omega)]; simp
      · simp only [decide_eq_true_eq] at v2
        unfold ItV
        rw [decide_eq_false (show ¬ (s.Items.getD i default).Version ≤ s.Clock by omega)]; simp
      · simp only [decide_eq_false_iff_not] at v1 v2
        refine Ev.bind (T.impl_ValidNode (by unfold lim; omega) hd) (Ev.ite (fun e2 => ?_) (fun e2 => Ev.ret' (by unfold ItV; rw [e2]; simp)))
        refine ih'.eq ?_
        have : ItV s.Clock (s.Items.getD i default) = true := by
          unfold ItV
          rw [e1, e2, decide_eq_true (show 1 ≤ (s.Items.getD i default).Version by omega), decide_eq_true (show (s.Items.getD i default).Version ≤ s.Clock by omega)]; rfl
        rw [this]; rfl
    by_cases h0 : 0 < i
    · have e : IntKind.wrap .i64 ((i : Int) - 1) = ((i - 1 : Nat) : Int) := wrapN (by omega) (by omega)
      rw [e, Int.toNat_natCast]
      have hst := asc_step h0 (l := nmsI s.Items) (by rw [nms_len]; exact hil)
      rw [nms_at hil, nms_at (by omega : i - 1 < s.Items.length)] at hst
      refine Ev.ct (decide_eq_true (by omega)) (Ev.chk (by omega) (Ev.ite (fun h1 => ?_) (fun h1 => Ev.ret' ?_)))
      · exact tail true (fun _ => by rw [hst, show bl (s.Items.getD (i - 1) default).Name (s.Items.getD i default).Name = true from h1]; rfl) rfl
      · rw [hst, show bl (s.Items.getD (i - 1) default).Name (s.Items.getD i default).Name = false from h1]; simp
    · have : i = 0 := by omega
      subst this
      exact Ev.cf (by decide) (tail true (fun _ => rfl) rfl)
theorem T.impl_ValidStore : Ev (fun f => G.impl_ValidStore f s) (StV s) := by
  refine Ev.up ?_
  simp only [G.impl_ValidStore]
  unfold StV
  refine Ev.ite (fun e => Ev.ret' ?_) (fun e => Ev.ite (fun e2 => Ev.ret' ?_) (fun e2 => Ev.ite (fun e3 => Ev.ret' ?_) (fun e3 => ?_)))
  · rw [decide_eq_false (show ¬ s.Items.length ≤ 10 by simp only [decide_eq_true_eq] at e; omega)]; simp
  · rw [decide_eq_false (show ¬ 0 ≤ s.Clock by simp only [decide_eq_true_eq] at e2; omega)]; simp
  · rw [decide_eq_false (show ¬ s.Clock ≤ 999 by simp only [decide_eq_true_eq] at e3; omega)]; simp
  · simp only [decide_eq_false_iff_not] at e e2 e3
    refine (T.impl_ValidStore.L1 hB h s.Items.length 0 (by omega)).eq ?_
    rw [decide_eq_true (show s.Items.length ≤ 10 by omega), decide_eq_true (show 0 ≤ s.Clock by omega), decide_eq_true (show s.Clock ≤ 999 by omega), List.drop_zero]
    simp
theorem T.spec_copyStore : Ev (fun f => G.spec_copyStore f s) s := by
  have hl := h.len
  unfold lim at hB
  have L : ∀ (k i : Nat), i + k = s.Items.length → Ev (fun f => G.spec_copyStore.L1 f s i (s.Items.take i)) s := by
    intro k
    induction k with
    | zero =>
      intro i hi
      refine Ev.up ?_
      simp only [G.spec_copyStore.L1]
      refine Ev.cf (decide_eq_false (by omega)) (Ev.ret' ?_)
      rw [List.take_of_length_le (by omega)]
    | succ k ih =>
      intro i hi
      have hil : i < s.Items.length := by omega
      obtain ⟨hn, ⟨D, hd⟩⟩ := h.at_ hil
      refine Ev.up ?_
      simp only [G.spec_copyStore.L1, Int.toNat_natCast, wrap_suc (show i + 1 < 9223372036854775808 by omega)]
      refine Ev.ct (decide_eq_true (by omega)) (Ev.chk (by omega) (Ev.chk (by omega) (Ev.chk (by omega) (Ev.bind (T.spec_copyNode (by unfold lim; omega) hd) (Ev.chk (by simp; omega) ?_)))))
      have := ih (i + 1) (by omega)
      rw [List.take_succ_eq_append_getElem hil, ← getD_of_lt (default : ItemT) hil] at this
      exact this
  refine Ev.up ?_
  simp only [G.spec_copyStore]
  exact L s.Items.length 0 (by omega)
theorem T.impl_copyStore : Ev (fun f => G.impl_copyStore f s) s := by
  have hl := h.len
  unfold lim at hB
  have L : ∀ (k i : Nat), i + k = s.Items.length → Ev (fun f => G.impl_copyStore.L1 f s i (s.Items.take i ++ List.replicate (s.Items.length - i) (ItemT.mk [] 0 (NodeT.mk 0 0 [] [] [])))) s := by
    intro k
    induction k with
    | zero =>
      intro i hi
      refine Ev.up ?_
      simp only [G.impl_copyStore.L1]
      refine Ev.cf (decide_eq_false (by omega)) (Ev.ret' ?_)
      rw [List.take_of_length_le (by omega), show s.Items.length - i = 0 by omega, List.replicate_zero, List.append_nil]
    | succ k ih =>
      intro i hi
      have hil : i < s.Items.length := by omega
      obtain ⟨hn, ⟨D, hd⟩⟩ := h.at_ hil
      have hc : Ev (fun f => G.impl_copyItem f (s.Items.getD i default)) (s.Items.getD i default) := by
        refine Ev.up ?_
        simp only [G.impl_copyItem]
        exact Ev.bind (T.impl_copyNode (by unfold lim; omega) hd) (Ev.ret _)
      refine Ev.up ?_
      simp only [G.impl_copyStore.L1, Int.toNat_natCast, wrap_suc (show i + 1 < 9223372036854775808 by omega)]
      refine Ev.ct (decide_eq_true (by omega)) (Ev.chk (by omega) (Ev.bind hc (Ev.chk (by simp; omega) ?_)))
      have hset : (s.Items.take i ++ List.replicate (s.Items.length - i) (ItemT.mk [] 0 (NodeT.mk 0 0 [] [] []))).set i (s.Items.getD i default) = s.Items.take (i + 1) ++ List.replicate (s.Items.length - (i + 1)) (ItemT.mk [] 0 (NodeT.mk 0 0 [] [] [])) := by
        obtain ⟨q, hq⟩ : ∃ q, s.Items.length - i = q + 1 := ⟨s.Items.length - i - 1, by omega⟩
        have e1 : (s.Items.take i).length = i := by simp; omega
        rw [hq, List.replicate_succ, List.set_append_right _ _ (by omega), e1, Nat.sub_self, List.set_cons_zero, show s.Items.length - (i + 1) = q by omega, List.take_succ_eq_append_getElem hil, getD_of_lt _ hil, List.append_assoc]
        rfl
      rw [hset]
      exact ih (i + 1) (by omega)
  refine Ev.up ?_
  simp only [G.impl_copyStore]
  refine Ev.ite (fun e => ?_) (fun e => Ev.ret' ?_)
  · refine Ev.chk (by omega) ?_
    have := L s.Items.length 0 (by omega)
    rw [List.take_zero, List.nil_append, Nat.sub_zero] at this
    exact this
  · have : s.Items = [] := List.eq_nil_of_length_eq_zero (by simp only [decide_eq_false_iff_not] at e; omega)
    cases s
    simp only at this
    subst this
    rfl
end
structure StF (s : StoreT) : Prop where
  itm : ∀ it, it ∈ s.Items → ItV s.Clock it = true
  asc : Asc (nmsI s.Items) = true
  len : s.Items.length ≤ 10
  lo : 0 ≤ s.Clock
  hi : s.Clock ≤ 999
theorem st_iff {s : StoreT} : StV s = true ↔ StF s := by
  unfold StV
  simp only [Bool.and_eq_true, decide_eq_true_eq, List.all_eq_true]
  exact ⟨fun ⟨⟨h1, h2⟩, h3, h4, h5⟩ => ⟨h1, h2, h3, h4, h5⟩, fun h => ⟨⟨h.itm, h.asc⟩, h.len, h.lo, h.hi⟩⟩
structure ItF (c : Int) (it : ItemT) : Prop where
  nam : NmV it.Name = true
  nod : Val it.Node = true
  lo : 1 ≤ it.Version
  hi : it.Version ≤ c
theorem it_iff {c : Int} {it : ItemT} : ItV c it = true ↔ ItF c it := by
  unfold ItV
  simp only [Bool.and_eq_true, decide_eq_true_eq]
  exact ⟨fun ⟨h1, h2, h3, h4⟩ => ⟨h1, h2, h3, h4⟩, fun h => ⟨h.nam, h.nod, h.lo, h.hi⟩⟩
theorem nm_len {s : Txt} (h : NmV s = true) : 1 ≤ s.length ∧ s.length ≤ 8 := by
  unfold NmV at h
  simp only [Bool.and_eq_true, decide_eq_true_eq] at h
  exact h.2
theorem StF.it {s : StoreT} (h : StF s) {i : Nat} (hi : i < s.Items.length) : ItF s.Clock (s.Items.getD i default) := it_iff.1 (h.itm _ (getD_mem default hi))
theorem StF.fine {s : StoreT} (h : StF s) : FineS 60 s :=
  ⟨by have := h.len; omega, fun it hi => by have := (nm_len (it_iff.1 (h.itm it hi)).nam).2; omega, fun it hi => ⟨5, fine_val (it_iff.1 (h.itm it hi)).nod⟩⟩
def noSt : StoreT := StoreT.mk [] 0
theorem no_fineS : FineS 60 noSt := ⟨by decide, (fun it h => by cases h), (fun it h => by cases h)⟩
theorem T.findItem.L1 {l : List ItemT} (t : Txt) (hl : l.length < big) (hA : ∀ i j, i < j → j < (nmsI l).length → bl ((nmsI l).getD i default) ((nmsI l).getD j default) = true) :
    ∀ (k i j : Nat), j - i ≤ k → i ≤ j → j ≤ l.length → (∀ q, q < i → bl ((nmsI l).getD q default) t = true) → (∀ q, j ≤ q → q < (nmsI l).length → bl ((nmsI l).getD q default) t = false) →
      ∃ p : Nat, Ev (fun f => G.slices_BinarySearchFunc_impl_Item_string__impl_findItem_1.L1 f l t i j) ((p : Int), decide (p < l.length) && (l.getD p default).Name == t) ∧ LB (nmsI l) t p := by
  unfold big at hl
  have cmp : ∀ i, Ev (fun f => G.impl_findItem_1 f (l.getD i default) t) (Go.Lib.compareBytes (l.getD i default).Name t) := fun i => by
    refine Ev.up ?_
    simp only [G.impl_findItem_1]
    have h1 : Ev (fun f => G.strings_Compare f (l.getD i default).Name t) (Go.Lib.compareBytes (l.getD i default).Name t) := by
      refine Ev.up ?_
      simp only [G.strings_Compare]
      have : Ev (fun f => G.internal_bytealg_CompareString f (l.getD i default).Name t) (Go.Lib.compareBytes (l.getD i default).Name t) := by
        refine Ev.up ?_
        simp only [G.internal_bytealg_CompareString]
        exact Ev.ret _
      exact Ev.bind this (Ev.ret _)
    exact Ev.bind h1 (Ev.ret _)
  have neg : ∀ x y : Txt, decide (Go.Lib.compareBytes x y < 0) = bl x y := fun x y => by
    rw [cmpB]
    cases h : bl x y with
    | true => rw [if_pos rfl]; rfl
    | false => rw [if_neg (by simp)]; by_cases e : x = y <;> simp [e]
  have eqz : ∀ x y : Txt, (Go.Lib.compareBytes x y == 0) = (x == y) := fun x y => by
    rw [Bool.eq_iff_iff, beq_iff_eq, beq_iff_eq]; exact cmpB_zero
  intro k
  induction k with
  | zero =>
    intro i j hk hij hj hlo hhi
    have : i = j := by omega
    subst this
    refine ⟨i, Ev.up ?_, by rw [nms_len]; exact hj, hlo, hhi⟩
    simp only [G.slices_BinarySearchFunc_impl_Item_string__impl_findItem_1.L1, Int.toNat_natCast]
    refine Ev.cf (by simp) (Ev.ite (fun e => ?_) (fun e => Ev.ret' ?_))
    · have e' : i < l.length := by simpa using e
      refine Ev.chk (by omega) (Ev.bind (cmp i) (Ev.ret' ?_))
      rw [eqz, decide_eq_true e', Bool.true_and]
    · have d1 : decide (i < l.length) = false := by simpa using e
      rw [d1]; rfl
  | succ k ih =>
    intro i j hk hij hj hlo hhi
    by_cases he : i = j
    · exact ih i j (by omega) hij hj hlo hhi
    have h1 : (i + j) / 2 < j := by omega
    have h2 : i ≤ (i + j) / 2 := by omega
    have hat := nms_at (l := l) (i := (i + j) / 2) (by omega)
    cases hc : bl ((nmsI l).getD ((i + j) / 2) default) t with
    | true =>
      obtain ⟨p, g, hp⟩ := ih ((i + j) / 2 + 1) j (by omega) (by omega) hj (fun q hq => by
        by_cases hq2 : q = (i + j) / 2
        · rw [hq2]; exact hc
        · exact bl_trans (hA q ((i + j) / 2) (by omega) (by rw [nms_len]; omega)) hc) hhi
      refine ⟨p, Ev.up ?_, hp⟩
      simp only [G.slices_BinarySearchFunc_impl_Item_string__impl_findItem_1.L1]
      refine Ev.ct (by simp; omega) ?_
      rw [half i j (by omega), Int.toNat_natCast]
      refine Ev.chk (by omega) (Ev.bind (cmp _) (Ev.ct (by rw [neg, ← hat]; exact hc) ?_))
      rw [wrap_suc (by omega)]
      exact g
    | false =>
      obtain ⟨p, g, hp⟩ := ih i ((i + j) / 2) (by omega) h2 (by omega) hlo (fun q hq hq2 => by
        by_cases hq3 : q = (i + j) / 2
        · rw [hq3]; exact hc
        · cases hb : bl ((nmsI l).getD q default) t with
          | false => rfl
          | true => rw [bl_trans (hA ((i + j) / 2) q (by omega) hq2) hb] at hc; cases hc)
      refine ⟨p, Ev.up ?_, hp⟩
      simp only [G.slices_BinarySearchFunc_impl_Item_string__impl_findItem_1.L1]
      refine Ev.ct (by simp; omega) ?_
      rw [half i j (by omega), Int.toNat_natCast]
      refine Ev.chk (by omega) (Ev.bind (cmp _) (Ev.cf (by rw [neg, ← hat]; exact hc) ?_))
      exact g
theorem T.impl_findItem {l : List ItemT} (t : Txt) (hl : l.length < big) (hA : Asc (nmsI l) = true) :
    ∃ p : Nat, Ev (fun f => G.impl_findItem f l t) ((p : Int), decide (p < l.length) && (l.getD p default).Name == t) ∧ LB (nmsI l) t p := by
  obtain ⟨p, g, hp⟩ := T.findItem.L1 t hl (Asc_lt hA) l.length 0 l.length (by omega) (by omega) (by omega) (fun q hq => by omega) (fun q h1 h2 => by rw [nms_len] at h2; omega)
  refine ⟨p, Ev.up ?_, hp⟩
  simp only [G.impl_findItem]
  have g' : Ev (fun f => G.slices_BinarySearchFunc_impl_Item_string__impl_findItem_1 f l t) ((p : Int), decide (p < l.length) && (l.getD p default).Name == t) := by
    refine Ev.up ?_
    simp only [G.slices_BinarySearchFunc_impl_Item_string__impl_findItem_1]
    exact g
  exact Ev.bind g' (Ev.ret _)
end Go.Ab
end
section
namespace Go.Ab
open Go
set_option maxRecDepth 100000
set_option linter.unusedSectionVars false
def putL (x : ItemT) : List ItemT → List ItemT
  | [] => [x]
  | y :: r => if bl y.Name x.Name then y :: putL x r else if y.Name = x.Name then x :: r else x :: y :: r
def putM (s : StoreT) (t : Txt) (n : NodeT) : StoreT := StoreT.mk (putL (ItemT.mk t (s.Clock + 1) n) s.Items) (s.Clock + 1)
def PutM (s : StoreT) (t : Txt) (n : NodeT) : Option StoreT := if StV s && NmV t && Val n then (some (putM s t n)).filter StV else none
def pairS : Option StoreT → StoreT × Bool
  | some s => (s, true)
  | none => (noSt, false)
theorem pairS_filter {s : StoreT} : pairS ((some s).filter StV) = if StV s then (s, true) else (noSt, false) := by
  cases h : StV s <;> simp [Option.filter, h, pairS]
theorem nms_cons {y : ItemT} {r : List ItemT} : nmsI (y :: r) = y.Name :: nmsI r := rfl
theorem putL_at {x : ItemT} : ∀ {l : List ItemT} {p : Nat}, LB (nmsI l) x.Name p → putL x l = if decide (p < l.length) && (l.getD p default).Name == x.Name then l.set p x else l.take p ++ [x] ++ l.drop p
  | [], p, h => by
    have : p = 0 := by have := h.le; simpa [nmsI] using this
    subst this
    rfl
  | y :: r, 0, h => by
    have hb : bl y.Name x.Name = false := h.hi 0 (by omega) (by rw [nms_len]; simp)
    rw [putL, hb, if_neg (by simp)]
    by_cases e : y.Name = x.Name
    · rw [if_pos e, if_pos (by simp [e])]; rfl
    · rw [if_neg e, if_neg (by simp [e])]; rfl
  | y :: r, p + 1, h => by
    have hb : bl y.Name x.Name = true := h.lo 0 (by omega)
    have hr : LB (nmsI r) x.Name p := ⟨by have := h.le; rw [nms_len] at this ⊢; simp at this; omega, fun j hj => by
      have := h.lo (j + 1) (by omega)
      rwa [nms_cons, List.getD_cons_succ] at this, fun j h1 h2 => by
      have := h.hi (j + 1) (by omega) (by rw [nms_cons]; simp; omega)
      rwa [nms_cons, List.getD_cons_succ] at this⟩
    rw [putL, if_pos hb, putL_at hr]
    have e1 : (decide (p + 1 < (y :: r).length) && ((y :: r).getD (p + 1) default).Name == x.Name) = (decide (p < r.length) && (r.getD p default).Name == x.Name) := by simp
    rw [e1]
    by_cases c : (decide (p < r.length) && (r.getD p default).Name == x.Name) = true
    · rw [if_pos c, if_pos c]; rfl
    · rw [if_neg c, if_neg c]; rfl
theorem asc_nm_tail {y : ItemT} {r : List ItemT} (h : Asc (nmsI (y :: r)) = true) : Asc (nmsI r) = true ∧ ∀ z, z ∈ r → bl y.Name z.Name = true := by
  rw [nms_cons] at h
  exact ⟨Asc_tail h, fun z hz => Asc_head h _ (List.mem_map.2 ⟨z, hz, rfl⟩)⟩
theorem putL_mem {x : ItemT} : ∀ {l : List ItemT} {it : ItemT}, Asc (nmsI l) = true → (it ∈ putL x l ↔ it = x ∨ (it ∈ l ∧ it.Name ≠ x.Name))
  | [], it, _ => by simp [putL]
  | y :: r, it, h => by
    obtain ⟨h1, h2⟩ := asc_nm_tail h
    rw [putL]
    cases hb : bl y.Name x.Name with
    | true =>
      have hne := bl_ne hb
      rw [if_pos rfl, List.mem_cons, putL_mem h1, List.mem_cons]
      constructor
      · rintro (e | e | ⟨e, e2⟩)
        · exact .inr ⟨.inl e, e ▸ hne⟩
        · exact .inl e
        · exact .inr ⟨.inr e, e2⟩
      · rintro (e | ⟨e | e, e2⟩)
        · exact .inr (.inl e)
        · exact .inl e
        · exact .inr (.inr ⟨e, e2⟩)
    | false =>
      rw [if_neg (by simp)]
      by_cases e : y.Name = x.Name
      · rw [if_pos e, List.mem_cons, List.mem_cons]
        constructor
        · rintro (q | q)
          · exact .inl q
          · exact .inr ⟨.inr q, fun w => by have := bl_ne (h2 it q); rw [e, w] at this; exact this rfl⟩
        · rintro (q | ⟨q | q, w⟩)
          · exact .inl q
          · exact absurd (q ▸ e) w
          · exact .inr q
      · rw [if_neg e, List.mem_cons, List.mem_cons]
        have hx : bl x.Name y.Name = true := by
          cases k : bl x.Name y.Name with
          | true => rfl
          | false => exact absurd (bl_tri hb k) e
        constructor
        · rintro (q | q | q)
          · exact .inl q
          · exact .inr ⟨.inl q, q ▸ e⟩
          · exact .inr ⟨.inr q, fun w => by have := bl_ne (bl_trans hx (h2 it q)); rw [w] at this; exact this rfl⟩
        · rintro (q | ⟨q, _⟩)
          · exact .inl q
          · exact .inr q
theorem putL_len {x : ItemT} : ∀ {l : List ItemT}, (putL x l).length ≤ l.length + 1
  | [] => by simp [putL]
  | y :: r => by
    have := putL_len (x := x) (l := r)
    rw [putL]
    split
    · simp only [List.length_cons]; omega
    · split <;> simp
theorem T.impl_putAt {l : List ItemT} {x : ItemT} (hl : l.length ≤ 1000) (hA : Asc (nmsI l) = true) : Ev (fun f => G.impl_putAt f l x) (putL x l) := by
  obtain ⟨p, g, hp⟩ := T.impl_findItem x.Name (by unfold big; omega) hA
  have hle := hp.le
  rw [nms_len] at hle
  rw [putL_at hp]
  refine Ev.up ?_
  simp only [G.impl_putAt]
  refine Ev.bind g ?_
  cases hc : decide (p < l.length) && (l.getD p default).Name == x.Name with
  | true =>
    rw [if_pos rfl]
    simp only [Bool.and_eq_true, decide_eq_true_eq] at hc
    exact Ev.ct rfl (Ev.chk (by omega) (Ev.ret' (by rw [Int.toNat_natCast])))
  | false =>
    rw [if_neg (by simp)]
    refine Ev.cf rfl (Ev.bind (Ev.up ?_) (Ev.ret _))
    simp only [G.slices_Insert_impl_Item]
    exact Ev.chk (by simp; omega) (Ev.ret' (by rw [Int.toNat_natCast]))
section
variable {B D : Nat} {s : StoreT} {t : Txt} {n : NodeT} (hB : B ≤ lim) (h : FineS B s) (ht : t.length ≤ B) (hn : Fine B D n)
include hB h ht hn
theorem T.impl_PutItem : Ev (fun f => G.impl_PutItem f s t n) (pairS (PutM s t n)) := by
  refine Ev.up ?_
  simp only [G.impl_PutItem]
  unfold PutM
  refine Ev.bind (T.impl_ValidStore hB h) (Ev.ite (fun e1 => ?_) (fun e1 => Ev.ret' (by rw [e1]; rfl)))
  refine Ev.bind (T.impl_isName _ (by unfold big; unfold lim at hB; omega)) (Ev.ite (fun e2 => ?_) (fun e2 => Ev.ret' (by rw [e1, e2]; rfl)))
  refine Ev.bind (T.impl_ValidNode hB hn) (Ev.ite (fun e3 => ?_) (fun e3 => Ev.ret' (by rw [e1, e2, e3]; rfl)))
  have hs := st_iff.1 e1
  have hl := hs.len
  have hlo := hs.lo
  have hhi := hs.hi
  have w : IntKind.wrap .i64 (s.Clock + 1) = s.Clock + 1 := by rw [wrap_id (by omega) (by omega)]
  rw [e1, e2, e3]
  refine Ev.bind (T.impl_copyStore hB h) (Ev.bind (T.impl_copyNode hB hn) ?_)
  rw [w]
  refine Ev.bind (T.impl_putAt (by omega) hs.asc) ?_
  have hf : FineS 60 (putM s t n) := by
    have := putL_len (x := ItemT.mk t (s.Clock + 1) n) (l := s.Items)
    refine ⟨by show (putL _ _).length ≤ _; omega, fun it hi => ?_, fun it hi => ?_⟩
    · rcases (putL_mem hs.asc).1 hi with e | ⟨e, _⟩
      · rw [e]; show t.length ≤ 60; have := (nm_len e2).2; omega
      · exact hs.fine.nam it e
    · rcases (putL_mem hs.asc).1 hi with e | ⟨e, _⟩
      · rw [e]; exact ⟨5, fine_val e3⟩
      · exact hs.fine.nod it e
  refine Ev.bind (T.impl_ValidStore lim60 hf) ?_
  show Ev _ (pairS ((some (putM s t n)).filter StV))
  rw [pairS_filter]
  cases hv : StV (putM s t n) with
  | true => exact Ev.ct hv (Ev.ret _)
  | false => exact Ev.cf hv (Ev.ret _)
end
section
variable {s : StoreT} {t : Txt} {n : NodeT}
theorem T.spec_put.done (hl : s.Items.length ≤ 1000) : ∀ (k i : Nat) (z : List ItemT), i + k = s.Items.length → z.length ≤ i + 1 → (∀ it, it ∈ s.Items.drop i → it.Name ≠ t) →
    Ev (fun f => G.spec_put.L3 f s t n s true i z) (StoreT.mk (z ++ s.Items.drop i) (IntKind.wrap .i64 (s.Clock + 1))) := by
  intro k
  induction k with
  | zero =>
    intro i z hi hz _
    refine Ev.up ?_
    simp only [G.spec_put.L3]
    refine Ev.cf (decide_eq_false (by omega)) (Ev.ct rfl (Ev.ret' ?_))
    rw [List.drop_of_length_le (by omega), List.append_nil]
  | succ k ih =>
    intro i z hi hz hne
    have hil : i < s.Items.length := by omega
    have hd := drop_of_lt (default : ItemT) hil
    rw [hd] at hne
    have h1 := hne (s.Items.getD i default) (by simp)
    refine Ev.up ?_
    simp only [G.spec_put.L3]
    refine Ev.ct (decide_eq_true (by omega)) (Ev.ct rfl (Ev.up ?_))
    simp only [G.spec_put.K4, Int.toNat_natCast, wrap_suc (show i + 1 < 9223372036854775808 by omega)]
    refine Ev.chk (by omega) (Ev.cf (by simpa using h1) (Ev.chk (by omega) (Ev.chk (by omega) ?_)))
    refine (ih (i + 1) _ (by omega) (by simp; omega) (fun it hit => hne it (by simp [hit]))).eq ?_
    rw [hd]
    simp
theorem T.spec_put.more (hl : s.Items.length ≤ 1000) (hA : Asc (nmsI s.Items) = true) : ∀ (k i : Nat) (z : List ItemT), i + k = s.Items.length → z.length ≤ i →
    Ev (fun f => G.spec_put.L3 f s t n s false i z) (StoreT.mk (z ++ putL (ItemT.mk t (IntKind.wrap .i64 (s.Clock + 1)) n) (s.Items.drop i)) (IntKind.wrap .i64 (s.Clock + 1))) := by
  intro k
  induction k with
  | zero =>
    intro i z hi hz
    refine Ev.up ?_
    simp only [G.spec_put.L3]
    refine Ev.cf (decide_eq_false (by omega)) (Ev.cf rfl (Ev.chk (by omega) (Ev.ret' ?_)))
    rw [List.drop_of_length_le (by omega)]
    rfl
  | succ k ih =>
    intro i z hi hz
    have hil : i < s.Items.length := by omega
    have hd := drop_of_lt (default : ItemT) hil
    have later : ∀ it, it ∈ s.Items.drop (i + 1) → bl (s.Items.getD i default).Name it.Name = true := fun it hit => by
      obtain ⟨j, hj, e⟩ := List.mem_drop_iff_getElem.1 hit
      have hj' : i + 1 + j < s.Items.length := by omega
      have := Asc_lt hA i (i + 1 + j) (by omega) (by rw [nms_len]; exact hj')
      rw [nms_at hil, nms_at hj', getD_of_lt _ hj', e] at this
      exact this
    refine Ev.up ?_
    simp only [G.spec_put.L3, Int.toNat_natCast]
    rw [hd, putL]
    refine Ev.ct (decide_eq_true (by omega)) (Ev.cf rfl (Ev.chk (by omega) ?_))
    refine Ev.ite (fun e => ?_) (fun e => ?_)
    · have e : bl (s.Items.getD i default).Name t = true := e
      rw [if_pos e]
      refine Ev.up ?_
      simp only [G.spec_put.K4, Int.toNat_natCast, wrap_suc (show i + 1 < 9223372036854775808 by omega)]
      refine Ev.chk (by omega) (Ev.cf (by simpa using bl_ne e) (Ev.chk (by omega) (Ev.chk (by omega) ?_)))
      refine (ih (i + 1) _ (by omega) (by simp; omega)).eq ?_
      simp
    · have e : bl (s.Items.getD i default).Name t = false := e
      rw [if_neg (by simp only [e]; simp)]
      refine Ev.chk (by omega) (Ev.up ?_)
      simp only [G.spec_put.K4, Int.toNat_natCast, wrap_suc (show i + 1 < 9223372036854775808 by omega)]
      refine Ev.chk (by omega) (Ev.ite (fun e2 => ?_) (fun e2 => ?_))
      · have e2 : (s.Items.getD i default).Name = t := by simpa using e2
        rw [if_pos e2]
        refine (T.spec_put.done hl k (i + 1) _ (by omega) (by simp; omega) (fun it hit w => by have := bl_ne (later it hit); rw [e2, w] at this; exact this rfl)).eq ?_
        simp
      · have e2 : (s.Items.getD i default).Name ≠ t := by simpa using e2
        rw [if_neg e2]
        have hx : bl t (s.Items.getD i default).Name = true := by
          cases q : bl t (s.Items.getD i default).Name with
          | true => rfl
          | false => exact absurd (bl_tri e q) e2
        refine Ev.chk (by omega) (Ev.chk (by simp; omega) ?_)
        refine (T.spec_put.done hl k (i + 1) _ (by omega) (by simp; omega) (fun it hit w => by have := bl_ne (bl_trans hx (later it hit)); rw [w] at this; exact this rfl)).eq ?_
        simp
end
section
variable {B D : Nat} {s : StoreT} {t : Txt} {n : NodeT} (hB : B ≤ lim) (h : FineS B s)
include hB h
theorem T.spec_put (hn : Fine B D n) (hs : StF s) : Ev (fun f => G.spec_put f s t n) (putM s t n) := by
  have hl := hs.len
  have hlo := hs.lo
  have hhi := hs.hi
  refine Ev.up ?_
  simp only [G.spec_put]
  refine Ev.bind (T.spec_copyNode hB hn) (Ev.bind (T.spec_copyStore hB h) ?_)
  refine (T.spec_put.more (by omega) hs.asc s.Items.length 0 [] (by omega) (by simp)).eq ?_
  rw [wrap_id (by omega) (by omega)]
  rfl
theorem put_fine (hs : StF s) (ht : NmV t = true) (hn : Val n = true) : FineS 60 (putM s t n) := by
  have := putL_len (x := ItemT.mk t (s.Clock + 1) n) (l := s.Items)
  have := hs.len
  refine ⟨by show (putL _ _).length ≤ _; omega, fun it hi => ?_, fun it hi => ?_⟩
  · rcases (putL_mem hs.asc).1 hi with e | ⟨e, _⟩
    · rw [e]; show t.length ≤ 60; have := (nm_len ht).2; omega
    · exact hs.fine.nam it e
  · rcases (putL_mem hs.asc).1 hi with e | ⟨e, _⟩
    · rw [e]; exact ⟨5, fine_val hn⟩
    · exact hs.fine.nod it e
theorem T.spec_PutItem (ht : t.length ≤ B) (hn : Fine B D n) : Ev (fun f => G.spec_PutItem f s t n) (pairS (PutM s t n)) := by
  refine Ev.up ?_
  simp only [G.spec_PutItem]
  unfold PutM
  refine Ev.bind (T.spec_validStore hB h) (Ev.ite (fun e1 => ?_) (fun e1 => Ev.ret' (by rw [e1]; rfl)))
  refine Ev.bind (T.spec_validName _ (by unfold big; unfold lim at hB; omega)) (Ev.ite (fun e2 => ?_) (fun e2 => Ev.ret' (by rw [e1, e2]; rfl)))
  refine Ev.bind (T.spec_validNode hB hn) (Ev.ite (fun e3 => ?_) (fun e3 => Ev.ret' (by rw [e1, e2, e3]; rfl)))
  have hs := st_iff.1 e1
  rw [e1, e2, e3]
  refine Ev.bind (T.spec_put hB h hn hs) (Ev.bind (T.spec_validStore lim60 (put_fine hB h hs e2 e3)) ?_)
  show Ev _ (pairS ((some (putM s t n)).filter StV))
  rw [pairS_filter]
  cases hv : StV (putM s t n) with
  | true => exact Ev.ct rfl (Ev.ret _)
  | false => exact Ev.cf rfl (Ev.ret _)
end
theorem putM_val {s m : StoreT} {t : Txt} {n : NodeT} (h : PutM s t n = some m) : StV s = true ∧ NmV t = true ∧ Val n = true ∧ m = putM s t n ∧ StV m = true := by
  unfold PutM at h
  split at h
  · rename_i c
    obtain ⟨⟨c1, c2⟩, c3⟩ : (StV s = true ∧ NmV t = true) ∧ Val n = true := by simpa using c
    obtain ⟨h1, h2⟩ := Option.filter_eq_some_iff.1 h
    cases h1
    exact ⟨c1, c2, c3, rfl, h2⟩
  · cases h
def fnd (l : List ItemT) (t : Txt) : Option Nat := (List.range' 0 l.length).find? fun i => (l.getD i default).Name == t
theorem T.spec_find {s : StoreT} (t : Txt) (hl : s.Items.length ≤ lim) : Ev (fun f => G.spec_find f s t) (plcI (fnd s.Items t)) := by
  unfold lim at hl
  have L : ∀ (k i : Nat), i + k = s.Items.length → Ev (fun f => G.spec_find.L1 f s t i) (plcI ((List.range' i k).find? fun i => (s.Items.getD i default).Name == t)) := by
    intro k
    induction k with
    | zero =>
      intro i hi
      refine Ev.up ?_
      simp only [G.spec_find.L1]
      exact Ev.cf (decide_eq_false (by omega)) (Ev.ret _)
    | succ k ih =>
      intro i hi
      refine Ev.up ?_
      simp only [G.spec_find.L1, Int.toNat_natCast, wrap_suc (show i + 1 < 9223372036854775808 by omega)]
      rw [List.range'_succ, List.find?_cons]
      refine Ev.ct (decide_eq_true (by omega)) (Ev.chk (by omega) (Ev.ite (fun e => Ev.ret' ?_) (fun e => ?_)))
      · simp only [show ((s.Items.getD i default).Name == t) = true from e]; rfl
      · simp only [show ((s.Items.getD i default).Name == t) = false from e]
        exact ih (i + 1) (by omega)
  refine Ev.up ?_
  simp only [G.spec_find]
  exact L s.Items.length 0 (by omega)
def dropM (s : StoreT) (t : Txt) : StoreT := StoreT.mk (s.Items.filter fun it => !(it.Name == t)) (s.Clock + 1)
def DropM (s : StoreT) (t : Txt) : Option StoreT := if StV s && (fnd s.Items t).isSome && !(s.Clock == 999) then some (dropM s t) else none
theorem T.spec_drop {B : Nat} {s : StoreT} {t : Txt} (hB : B ≤ lim) (h : FineS B s) (hs : StF s) : Ev (fun f => G.spec_drop f s t) (dropM s t) := by
  have hl := hs.len
  have hlo := hs.lo
  have hhi := hs.hi
  have L : ∀ (k i : Nat) (z : List ItemT), i + k = s.Items.length → z.length ≤ i → Ev (fun f => G.spec_drop.L1 f s t s i z) (StoreT.mk (z ++ (s.Items.drop i).filter fun it => !(it.Name == t)) (IntKind.wrap .i64 (s.Clock + 1))) := by
    intro k
    induction k with
    | zero =>
      intro i z hi hz
      refine Ev.up ?_
      simp only [G.spec_drop.L1]
      refine Ev.cf (decide_eq_false (by omega)) (Ev.ret' ?_)
      rw [List.drop_of_length_le (by omega)]; simp
    | succ k ih =>
      intro i z hi hz
      have hil : i < s.Items.length := by omega
      refine Ev.up ?_
      simp only [G.spec_drop.L1, Int.toNat_natCast, wrap_suc (show i + 1 < 9223372036854775808 by omega)]
      rw [drop_of_lt (default : ItemT) hil, List.filter_cons]
      refine Ev.ct (decide_eq_true (by omega)) (Ev.chk (by omega) (Ev.ite (fun e => ?_) (fun e => ?_)))
      · rw [show ((s.Items.getD i default).Name == t) = true from e]
        exact (ih (i + 1) z (by omega) (by omega)).eq (by simp)
      · rw [show ((s.Items.getD i default).Name == t) = false from e]
        refine Ev.chk (by omega) (Ev.chk (by omega) ?_)
        exact (ih (i + 1) _ (by omega) (by simp; omega)).eq (by simp)
  refine Ev.up ?_
  simp only [G.spec_drop]
  refine Ev.bind (T.spec_copyStore hB h) ((L s.Items.length 0 [] (by omega) (by simp)).eq ?_)
  rw [wrap_id (by omega) (by omega)]
  rfl
theorem T.spec_DropItem {B : Nat} {s : StoreT} {t : Txt} (hB : B ≤ lim) (h : FineS B s) : Ev (fun f => G.spec_DropItem f s t) (pairS (DropM s t)) := by
  have hl := h.len
  refine Ev.up ?_
  simp only [G.spec_DropItem]
  unfold DropM
  refine Ev.bind (T.spec_validStore hB h) (Ev.ite (fun e1 => ?_) (fun e1 => Ev.ret' (by rw [e1]; rfl)))
  refine Ev.bind (T.spec_find t (Nat.le_trans hl hB)) ?_
  cases hf : fnd s.Items t with
  | none => exact Ev.ct (by decide) (Ev.ret' (by rw [e1]; rfl))
  | some j =>
    refine Ev.cf (decide_eq_false (by simp only [plcI]; omega)) (Ev.ite (fun e2 => Ev.ret' (by rw [e1, e2]; rfl)) (fun e2 => ?_))
    refine Ev.bind (T.spec_drop hB h (st_iff.1 e1)) (Ev.ret' (by rw [e1, e2]; rfl))
theorem asc_sub {l m : List Txt} (h : l.Sublist m) (hm : Asc m = true) : Asc l = true := asc_pairwise.2 ((asc_pairwise.1 hm).sublist h)
theorem drop_val {s m : StoreT} {t : Txt} (h : DropM s t = some m) : StV s = true ∧ (fnd s.Items t).isSome = true ∧ s.Clock ≠ 999 ∧ m = dropM s t ∧ StV m = true := by
  unfold DropM at h
  split at h
  · rename_i c
    obtain ⟨⟨c1, c2⟩, c3⟩ : (StV s = true ∧ (fnd s.Items t).isSome = true) ∧ s.Clock ≠ 999 := by simpa using c
    cases h
    have hs := st_iff.1 c1
    refine ⟨c1, c2, c3, rfl, st_iff.2 ⟨fun it hit => ?_, ?_, ?_, ?_, ?_⟩⟩
    · have := it_iff.1 (hs.itm it (List.mem_filter.1 hit).1)
      have hhi := this.hi
      exact it_iff.2 ⟨this.nam, this.nod, this.lo, by show it.Version ≤ s.Clock + 1; omega⟩
    · exact asc_sub (List.Sublist.map _ List.filter_sublist) hs.asc
    · show (s.Items.filter _).length ≤ 10
      exact Nat.le_trans (List.length_filter_le _ _) hs.len
    · show 0 ≤ s.Clock + 1
      have := hs.lo
      omega
    · show s.Clock + 1 ≤ 999
      have := hs.hi
      omega
  · cases h
end Go.Ab
end
section
namespace Go.Ab
open Go
set_option maxRecDepth 100000
theorem D.itemName {K : Nat} {r : ReaderT} (hr : RdOK K r) (hK : K ≤ 1000000000) : Dr (K + 1) (fun x => NmV x = true) (fun f => G.spec_itemName f r) := by
  refine Tot.up ?_
  simp only [G.spec_itemName]
  obtain ⟨x, r', g, hx, hr'⟩ := T.of hr hK [[97], [98], [100, 111, 99], [122, 122], [97, 49], [109], [120, 57], [98, 111, 111, 107], [97, 98, 99, 100, 101, 102, 103, 104], [113]] (by decide) (by decide)
  exact Tot.bindE g (Tot.ret ⟨List.all_eq_true.1 (by decide : List.all [[97], [98], [100, 111, 99], [122, 122], [97, 49], [109], [120, 57], [98, 111, 111, 107], [97, 98, 99, 100, 101, 102, 103, 104], [113]] NmV = true) x hx, hr'⟩)
theorem D.badName {K : Nat} {r : ReaderT} (hr : RdOK K r) (hK : K ≤ 1000000000) : Dr (K + 1) (fun x : Txt => x.length ≤ 12) (fun f => G.spec_badName f r) := by
  refine Tot.up ?_
  simp only [G.spec_badName]
  refine Tot.bind (D.of (m := 12) hr hK _ (by decide) (by decide) (by decide)) ?_
  rintro ⟨x, r'⟩ ⟨hx, hr'⟩
  exact Tot.ret ⟨hx, hr'⟩
theorem st_new : StV noSt = true := by decide
theorem D.someStore.K4 {K : Nat} {Q : StoreT → Prop} {s m : StoreT} {j : Nat} {r : ReaderT} {ok : Bool} (hj : j + 1 ≤ 1000)
    (h1 : ok = true → Dr K Q (fun f => G.spec_someStore.L3 f (j : Int) r.b r.p m.Items m.Clock)) (h2 : Dr K Q (fun f => G.spec_someStore.L3 f (j : Int) r.b r.p s.Items s.Clock)) :
    Dr K Q (fun f => G.spec_someStore.K4 f ((j + 1 : Nat) : Int) s.Items s.Clock ok r.b r.p m.Items m.Clock) := by
  have w : IntKind.wrap .i64 (((j + 1 : Nat) : Int) - 1) = (j : Int) := wrapN (by omega) (by omega)
  refine Tot.up ?_
  simp only [G.spec_someStore.K4, w]
  exact Tot.ite (fun e => h1 e) (fun _ => h2)
theorem D.someStore.L3 : ∀ (j K : Nat) (r : ReaderT) (s : StoreT), j ≤ 12 → RdOK K r → K + 700 * j ≤ 500000000 → StV s = true →
    Dr (K + 700 * j) (fun s => StV s = true) (fun f => G.spec_someStore.L3 f (j : Int) r.b r.p s.Items s.Clock) := by
  intro j
  induction j with
  | zero =>
    intro K r s _ hr _ hs
    refine Tot.up ?_
    simp only [G.spec_someStore.L3]
    exact Tot.ite (fun e => by simp at e) (fun _ => Tot.ret ⟨hs, hr.mono (by omega)⟩)
  | succ j ih =>
    intro K r s hj hr hK hs
    refine Tot.up ?_
    simp only [G.spec_someStore.L3]
    refine Tot.ite (fun _ => ?_) (fun e => absurd e (by simp))
    refine Tot.bind (D.itemName hr (by omega)) ?_
    rintro ⟨nm, r1⟩ ⟨hnm, hr1⟩
    refine Tot.bind (D.someNode hr1 (by omega)) ?_
    rintro ⟨v, r2⟩ ⟨hv, hr2⟩
    have hfs := (st_iff.1 hs).fine
    refine Tot.bindE (T.spec_PutItem lim60 hfs (by have := (nm_len hnm).2; omega) (fine_val hv)) ?_
    refine Tot.bind (D.pick (m := 8) hr2 (by omega) rfl (by decide) (by decide)) ?_
    rintro ⟨x, r3⟩ ⟨_, hr3⟩
    refine Tot.ite (fun _ => ?_) (fun _ => ?_)
    · refine Tot.bind (D.itemName hr3 (by omega)) ?_
      rintro ⟨nm2, r4⟩ ⟨hnm2, hr4⟩
      refine Tot.bindE (T.spec_DropItem lim60 hfs) ?_
      refine D.someStore.K4 (K := K + 700 * (j + 1)) (Q := fun s => StV s = true) (s := s) (m := (pairS (DropM s nm2)).1) (r := r4) (ok := (pairS (DropM s nm2)).2) (j := j) (by omega) (fun e => ?_) ?_
      · cases hd : DropM s nm2 with
        | none => rw [hd] at e; cases e
        | some m =>
          have := (ih (K + 700) r4 m (by omega) (hr4.mono (by omega)) (by omega) (drop_val hd).2.2.2.2)
          refine Tot.mono this (fun x hx => ⟨hx.1, hx.2.mono (by omega)⟩)
      · exact Tot.mono (ih (K + 700) r4 s (by omega) (hr4.mono (by omega)) (by omega) hs) (fun x hx => ⟨hx.1, hx.2.mono (by omega)⟩)
    · refine D.someStore.K4 (K := K + 700 * (j + 1)) (Q := fun s => StV s = true) (s := s) (m := (pairS (PutM s nm v)).1) (r := r3) (ok := (pairS (PutM s nm v)).2) (j := j) (by omega) (fun e => ?_) ?_
      · cases hd : PutM s nm v with
        | none => rw [hd] at e; cases e
        | some m =>
          exact Tot.mono (ih (K + 700) r3 m (by omega) (hr3.mono (by omega)) (by omega) (putM_val hd).2.2.2.2) (fun x hx => ⟨hx.1, hx.2.mono (by omega)⟩)
      · exact Tot.mono (ih (K + 700) r3 s (by omega) (hr3.mono (by omega)) (by omega) hs) (fun x hx => ⟨hx.1, hx.2.mono (by omega)⟩)
theorem D.someStore {K : Nat} {r : ReaderT} (hr : RdOK K r) (hK : K ≤ 400000000) : Dr (K + 9000) (fun s => StV s = true) (fun f => G.spec_someStore f r) := by
  refine Tot.up ?_
  simp only [G.spec_someStore]
  obtain ⟨x, r1, g, hx, hr1⟩ := T.one hr (by omega) [3, 4, 2, 5, 0, 12] (by decide) (by decide)
  refine Tot.bindE g ?_
  obtain ⟨j, hj, rfl⟩ : ∃ j : Nat, j ≤ 12 ∧ x = (j : Int) := by
    simp only [List.mem_cons, List.not_mem_nil, or_false] at hx
    rcases hx with rfl | rfl | rfl | rfl | rfl | rfl
    · exact ⟨3, by omega, rfl⟩
    · exact ⟨4, by omega, rfl⟩
    · exact ⟨2, by omega, rfl⟩
    · exact ⟨5, by omega, rfl⟩
    · exact ⟨0, by omega, rfl⟩
    · exact ⟨12, by omega, rfl⟩
  exact Tot.mono (D.someStore.L3 j (K + 1) r1 noSt hj hr1 (by omega) st_new) (fun x hx => ⟨hx.1, hx.2.mono (by omega)⟩)
theorem fineS_set {s : StoreT} {x : ItemT} (h : FineS 60 s) (hx : x.Name.length ≤ 60) (hn : FineE 60 x.Node) : FineS 60 (StoreT.mk (s.Items.set 0 x) s.Clock) := by
  refine ⟨by show (s.Items.set 0 x).length ≤ 60; rw [List.length_set]; exact h.len, fun it hi => ?_, fun it hi => ?_⟩
  · rcases List.mem_or_eq_of_mem_set hi with e | e
    · exact h.nam it e
    · exact e ▸ hx
  · rcases List.mem_or_eq_of_mem_set hi with e | e
    · exact h.nod it e
    · exact e ▸ hn
theorem D.anyStore {K : Nat} {r : ReaderT} (hr : RdOK K r) (hK : K ≤ 300000000) : Dr (K + 10000) (FineS 60) (fun f => G.spec_anyStore f r) := by
  refine Tot.up ?_
  simp only [G.spec_anyStore]
  refine Tot.bind (D.someStore hr (by omega)) ?_
  rintro ⟨s, r1⟩ ⟨hs, hr1⟩
  have hs : StV s = true := hs
  have hf := (st_iff.1 hs).fine
  have hl := (st_iff.1 hs).len
  refine Tot.bind (D.pick (m := 30) hr1 (by omega) rfl (by decide) (by decide)) ?_
  rintro ⟨x, r2⟩ ⟨_, hr2⟩
  refine Tot.ite (fun _ => ?_) (fun _ => Tot.ite (fun _ => ?_) (fun _ => Tot.ite (fun _ => Tot.ite (fun e => ?_) (fun _ => Tot.ret ⟨hf, hr2.mono (by omega)⟩)) (fun _ => Tot.ite (fun _ => Tot.ite (fun e => ?_) (fun _ => Tot.ret ⟨hf, hr2.mono (by omega)⟩)) (fun _ => Tot.ret ⟨hf, hr2.mono (by omega)⟩))))
  · refine Tot.bind (D.one hr2 (by omega) _ (by decide) (by decide)) ?_
    rintro ⟨c, r3⟩ ⟨_, hr3⟩
    exact Tot.ret ⟨⟨hf.len, hf.nam, hf.nod⟩, hr3.mono (by omega)⟩
  · refine Tot.bind (D.badName hr2 (by omega)) ?_
    rintro ⟨b, r3⟩ ⟨hb, hr3⟩
    have hb : b.length ≤ 12 := hb
    refine Tot.chk (by simp only; omega) (Tot.ret ⟨⟨by show (s.Items ++ _).length ≤ 60; simp; omega, fun it hi => ?_, fun it hi => ?_⟩, hr3.mono (by omega)⟩)
    · rcases List.mem_append.1 hi with e | e
      · exact hf.nam it e
      · rw [List.mem_singleton.1 e]; show b.length ≤ 60; omega
    · rcases List.mem_append.1 hi with e | e
      · exact hf.nod it e
      · rw [List.mem_singleton.1 e]; exact ⟨5, fine_val val_no⟩
  · have e' : 0 < s.Items.length := by simp only [decide_eq_true_eq] at e; omega
    obtain ⟨h1, h2⟩ := hf.at_ e'
    refine Tot.bind (D.one hr2 (by omega) _ (by simp) (by simp)) ?_
    rintro ⟨c, r3⟩ ⟨_, hr3⟩
    exact Tot.chk (by simp only; omega) (Tot.ret ⟨fineS_set hf h1 h2, hr3.mono (by omega)⟩)
  · have e' : 0 < s.Items.length := by simp only [decide_eq_true_eq] at e; omega
    obtain ⟨h1, h2⟩ := hf.at_ e'
    refine Tot.bind (D.anyNode hr2 (by omega)) ?_
    rintro ⟨v, r3⟩ ⟨⟨E, hv⟩, hr3⟩
    exact Tot.chk (by simp only; omega) (Tot.ret ⟨fineS_set hf h1 ⟨E, hv.mono (by omega) (Nat.le_refl _)⟩, hr3.mono (by omega)⟩)
theorem D.words {K : Nat} {r : ReaderT} (hr : RdOK K r) (hK : K ≤ 700000000) : Dr (K + 20) (FineP 60) (fun f => G.spec_reader_words f r) := by
  refine Tot.up ?_
  simp only [G.spec_reader_words]
  refine Tot.bind (D.pick (m := 4) hr (by omega) rfl (by decide) (by decide)) ?_
  rintro ⟨x, r1⟩ ⟨_, hr1⟩
  refine Tot.ite (fun _ => ?_) (fun _ => ?_)
  · refine Tot.bind (D.anyPath hr1 (by omega)) ?_
    rintro ⟨p, r2⟩ ⟨hp, hr2⟩
    exact Tot.ret ⟨⟨Nat.le_trans hp.1 (by omega), fun s hs => Nat.le_trans (hp.2 s hs) (by omega)⟩, hr2.mono (by omega)⟩
  · refine Tot.bind (D.of (m := 12) hr1 (by omega) _ (by decide) (by decide) (by decide)) ?_
    rintro ⟨t, r2⟩ ⟨ht, hr2⟩
    have ht : t.length ≤ 12 := ht
    exact Tot.ret ⟨⟨by simp, fun s hs => by rw [List.mem_singleton.1 hs]; show t.length ≤ 60; omega⟩, hr2.mono (by omega)⟩
theorem D.storePath {K : Nat} {r : ReaderT} {s : StoreT} (hs : FineS 60 s) (hr : RdOK K r) (hK : K ≤ 600000000) : Dr (K + 40) (FineP 60) (fun f => G.spec_storePath f r s) := by
  have hl := hs.len
  refine Tot.up ?_
  simp only [G.spec_storePath]
  have w : ∀ {K' : Nat} {r' : ReaderT}, RdOK K' r' → K' + 20 ≤ K + 40 → Dr (K + 40) (FineP 60) (fun f => Option.bind (G.spec_reader_words f r') fun v => some (v.1, v.2)) := fun hr' h => by
    refine Tot.bind (D.words hr' (by omega)) ?_
    rintro ⟨p, r2⟩ ⟨hp, hr2⟩
    exact Tot.ret ⟨hp, hr2.mono (by omega)⟩
  refine Tot.ite (fun e => ?_) (fun _ => w hr (by omega))
  have e' : 0 < s.Items.length := by simp only [decide_eq_true_eq] at e; omega
  refine Tot.bind (D.pick (m := 3) hr (by omega) rfl (by decide) (by decide)) ?_
  rintro ⟨x, r1⟩ ⟨_, hr1⟩
  refine Tot.ite (fun _ => ?_) (fun _ => w hr1 (by omega))
  refine Tot.bind (D.pick (m := s.Items.length) hr1 (by omega) rfl e' (by omega)) ?_
  rintro ⟨y, r2⟩ ⟨⟨j, rfl, hj⟩, hr2⟩
  refine Tot.chk (by omega) ?_
  simp only [Int.toNat_natCast]
  obtain ⟨_, ⟨E, h2⟩⟩ := hs.at_ hj
  refine Tot.bind (D.pathIn lim60 h2 hr2 (by omega)) ?_
  rintro ⟨p, r3⟩ ⟨hp, hr3⟩
  exact Tot.ret ⟨⟨Nat.le_trans hp.1 (by omega), fun s hs => Nat.le_trans (hp.2 s hs) (by omega)⟩, hr3.mono (by omega)⟩
end Go.Ab
end
section
namespace Go.Ab
open Go
set_option maxRecDepth 100000
def ltE (x y : EntryT) : Bool := decide (cmpM 5 x.Key y.Key < 0)
def outE : List EntryT → EntryT → List EntryT → List EntryT
  | [], x, S => x :: S
  | r :: R, x, S => if ltE x r then outE R x (r :: S) else (r :: R).reverse ++ x :: S
def insE (l : List EntryT) (x : EntryT) : List EntryT := outE l.reverse x []
def sortE (l : List EntryT) : List EntryT := l.foldl insE []
def entOf (p : List Txt) (it : ItemT) : Option EntryT := (atN it.Node p).map fun k => EntryT.mk k it.Name
def entL (p : List Txt) (l : List ItemT) : List EntryT := l.filterMap (entOf p)
theorem outE_app : ∀ (R : List EntryT) {x : EntryT} {S T : List EntryT}, outE R x (S ++ T) = outE R x S ++ T
  | [], _, _, _ => rfl
  | r :: R, x, S, T => by
    rw [outE, outE]
    cases h : ltE x r with
    | true => rw [if_pos rfl, if_pos rfl, ← List.cons_append, outE_app R]
    | false => rw [if_neg (by simp), if_neg (by simp)]; simp
theorem outE_mem : ∀ (R : List EntryT) {x e : EntryT} {S : List EntryT}, e ∈ outE R x S ↔ e = x ∨ e ∈ R ∨ e ∈ S
  | [], x, e, S => by simp [outE]
  | r :: R, x, e, S => by
    rw [outE]
    cases h : ltE x r with
    | true =>
      rw [if_pos rfl, outE_mem R, List.mem_cons, List.mem_cons]
      constructor
      · rintro (a | a | a | a)
        · exact .inl a
        · exact .inr (.inl (.inr a))
        · exact .inr (.inl (.inl a))
        · exact .inr (.inr a)
      · rintro (a | (a | a) | a)
        · exact .inl a
        · exact .inr (.inr (.inl a))
        · exact .inr (.inl a)
        · exact .inr (.inr (.inr a))
    | false =>
      rw [if_neg (by simp), List.mem_append, List.mem_reverse, List.mem_cons (a := e) (b := x)]
      constructor
      · rintro (a | a | a)
        · exact .inr (.inl a)
        · exact .inl a
        · exact .inr (.inr a)
      · rintro (a | a | a)
        · exact .inr (.inl a)
        · exact .inl a
        · exact .inr (.inr a)
theorem outE_len : ∀ (R : List EntryT) {x : EntryT} {S : List EntryT}, (outE R x S).length = R.length + S.length + 1
  | [], _, _ => by simp [outE]
  | r :: R, x, S => by
    rw [outE]
    cases h : ltE x r with
    | true => rw [if_pos rfl, outE_len R]; simp; omega
    | false => rw [if_neg (by simp)]; simp; omega
theorem insE_mem {l : List EntryT} {x e : EntryT} : e ∈ insE l x ↔ e = x ∨ e ∈ l := by unfold insE; rw [outE_mem]; simp
theorem insE_len {l : List EntryT} {x : EntryT} : (insE l x).length = l.length + 1 := by unfold insE; rw [outE_len]; simp
theorem fold_mem : ∀ {l a : List EntryT} {e : EntryT}, e ∈ l.foldl insE a ↔ e ∈ a ∨ e ∈ l
  | [], a, e => by simp
  | x :: l, a, e => by
    rw [List.foldl_cons, fold_mem, insE_mem, List.mem_cons]
    constructor
    · rintro ((h | h) | h)
      · exact .inr (.inl h)
      · exact .inl h
      · exact .inr (.inr h)
    · rintro (h | h | h)
      · exact .inl (.inr h)
      · exact .inl (.inl h)
      · exact .inr h
theorem fold_len : ∀ {l a : List EntryT}, (l.foldl insE a).length = a.length + l.length
  | [], a => by simp
  | x :: l, a => by rw [List.foldl_cons, fold_len, insE_len, List.length_cons]; omega
theorem sortE_mem {l : List EntryT} {e : EntryT} : e ∈ sortE l ↔ e ∈ l := by unfold sortE; rw [fold_mem]; simp
theorem sortE_len {l : List EntryT} : (sortE l).length = l.length := by unfold sortE; rw [fold_len]; simp
theorem sortE_snoc {l : List EntryT} {x : EntryT} : sortE (l ++ [x]) = insE (sortE l) x := by unfold sortE; rw [List.foldl_append]; rfl
structure EntF (l : List EntryT) : Prop where
  val : ∀ e, e ∈ l → Val e.Key = true
  asc : l.Pairwise fun a b => bl a.Name b.Name = true
theorem ent_mem {p : List Txt} {l : List ItemT} {e : EntryT} : e ∈ entL p l ↔ ∃ it, it ∈ l ∧ atN it.Node p = some e.Key ∧ it.Name = e.Name := by
  unfold entL entOf
  rw [List.mem_filterMap]
  constructor
  · rintro ⟨it, hit, h⟩
    obtain ⟨k, hk, rfl⟩ := Option.map_eq_some_iff.1 h
    exact ⟨it, hit, hk, rfl⟩
  · rintro ⟨it, hit, h1, h2⟩
    exact ⟨it, hit, by rw [h1, Option.map_some, h2]⟩
theorem ent_fact {p : List Txt} {s : StoreT} (hs : StF s) : EntF (entL p s.Items) := by
  refine ⟨fun e he => ?_, ?_⟩
  · obtain ⟨it, hit, h1, _⟩ := ent_mem.1 he
    exact at_val (it_iff.1 (hs.itm it hit)).nod h1
  · have := asc_pairwise.1 hs.asc
    unfold nmsI at this
    rw [List.pairwise_map] at this
    unfold entL
    refine List.Pairwise.filterMap _ (fun a b h x hx y hy => ?_) this
    unfold entOf at hx hy
    obtain ⟨k, _, rfl⟩ := Option.map_eq_some_iff.1 hx
    obtain ⟨k', _, rfl⟩ := Option.map_eq_some_iff.1 hy
    exact h
noncomputable def IdxM (s : StoreT) (p : List Txt) : List EntryT := if StV s && PP p then sortE (entL p s.Items) else []
theorem T.cmpEnt {x r : EntryT} (hx : Val x.Key = true) (hr : Val r.Key = true) : Ev (fun f => G.impl_IndexStore_1 f x r) (orI (cmpM 5 x.Key r.Key) (cT3 x.Name r.Name)) := by
  refine Ev.up ?_
  simp only [G.impl_IndexStore_1]
  refine Ev.bind (T.impl_cmp 5 (val_shape hx) (val_shape hr)) (Ev.bind (T.strings3 _ _) (Ev.bind ?_ (Ev.ret _)))
  refine Ev.up ?_
  simp only [G.cmp_Or_int]
  have w1 : IntKind.wrap .i64 ((0 : Int) + 1) = 1 := by decide
  have w2 : IntKind.wrap .i64 ((1 : Int) + 1) = 2 := by decide
  refine Ev.up ?_
  simp only [G.cmp_Or_int.L1, w1]
  refine Ev.ct (by simp) (Ev.chk (by simp) ?_)
  show Ev (fun f => cond (cmpM 5 x.Key r.Key != 0) (some (cmpM 5 x.Key r.Key)) _) _
  by_cases h0 : cmpM 5 x.Key r.Key = 0
  · rw [orI_z h0]
    refine Ev.cf (by simpa using h0) (Ev.up ?_)
    simp only [G.cmp_Or_int.L1, w2]
    refine Ev.ct (by simp) (Ev.chk (by simp) ?_)
    show Ev (fun f => cond (cT3 x.Name r.Name != 0) (some (cT3 x.Name r.Name)) _) _
    by_cases h1 : cT3 x.Name r.Name = 0
    · rw [h1]
      refine Ev.cf rfl (Ev.up ?_)
      simp only [G.cmp_Or_int.L1]
      exact Ev.cf (by simp) (Ev.ret _)
    · exact Ev.ct (by simpa using h1) (Ev.ret _)
  · rw [orI_n h0]
    exact Ev.ct (by simpa using h0) (Ev.ret _)
theorem cmp_neg {x r : EntryT} (h : bl r.Name x.Name = true) : decide (orI (cmpM 5 x.Key r.Key) (cT3 x.Name r.Name) < 0) = ltE x r := by
  unfold ltE
  by_cases h0 : cmpM 5 x.Key r.Key = 0
  · have : cT3 x.Name r.Name = 1 := by unfold cT3; rw [bl_asymm h, if_neg (by simp), if_neg (fun e => bl_ne h e.symm)]
    rw [orI_z h0, h0, this]; decide
  · rw [orI_n h0]
theorem T.insE.L4 {b i : Nat} {q : List EntryT} (hi : i < 1000) : ∀ (R : List EntryT) (x : EntryT) (S : List EntryT), R.length + S.length < 1000 → Val x.Key = true → (∀ r, r ∈ R → Val r.Key = true ∧ bl r.Name x.Name = true) →
    Ev (fun f => G.slices_insertionSortCmpFunc_impl_Entry__impl_IndexStore_1.L3 f 0 b ((i + 1 : Nat) : Int) (outE R x S)) q →
    Ev (fun f => G.slices_insertionSortCmpFunc_impl_Entry__impl_IndexStore_1.L4 f 0 b i (R.length : Int) (R.reverse ++ x :: S)) q
  | [], x, S, hl, hx, hr, h => by
    refine Ev.up ?_
    simp only [G.slices_insertionSortCmpFunc_impl_Entry__impl_IndexStore_1.L4, wrap_suc (show i + 1 < 9223372036854775808 by omega)]
    exact Ev.cf (by simp) h
  | r :: R, x, S, hl, hx, hr, h => by
    have hl' : R.length + 1 + S.length < 1000 := by simpa using hl
    obtain ⟨vr, nr⟩ := hr r (by simp)
    have e1 : (r :: R).length = R.length + 1 := rfl
    have w1 : IntKind.wrap .i64 (((R.length + 1 : Nat) : Int) - 1) = ((R.length : Nat) : Int) := wrapN (by omega) (by omega)
    have g1 : ((r :: R).reverse ++ x :: S).getD (R.length + 1) default = x := getD_mid _ (by simp)
    have g0 : ((r :: R).reverse ++ x :: S).getD R.length default = r := by
      rw [List.reverse_cons, List.append_assoc]; exact getD_mid _ (by simp)
    have hlen : ((r :: R).reverse ++ x :: S).length = R.length + 1 + (S.length + 1) := by simp; omega
    refine Ev.up ?_
    simp only [G.slices_insertionSortCmpFunc_impl_Entry__impl_IndexStore_1.L4, wrap_suc (show i + 1 < 9223372036854775808 by omega), e1, w1, Int.toNat_natCast, g0, g1]
    refine Ev.ct (decide_eq_true (by omega)) (Ev.chk (by rw [hlen]; omega) (Ev.chk (by rw [hlen]; omega) (Ev.bind (T.cmpEnt hx vr) ?_)))
    rw [cmp_neg nr]
    rw [outE] at h
    cases hx' : ltE x r with
    | true =>
      rw [hx', if_pos rfl] at h
      refine Ev.ct rfl (Ev.chk (by rw [hlen]; omega) (Ev.chk (by rw [hlen]; omega) (Ev.chk (by rw [hlen]; omega) (Ev.chk (by rw [hlen]; omega) ?_))))
      have e2 : (((r :: R).reverse ++ x :: S).set (R.length + 1) r).set R.length x = R.reverse ++ x :: (r :: S) := by
        rw [set_mid (by simp), List.reverse_cons, List.append_assoc]
        exact set_mid (by simp)
      show Ev (fun f => G.slices_insertionSortCmpFunc_impl_Entry__impl_IndexStore_1.L4 f 0 b i (R.length : Int) ((((r :: R).reverse ++ x :: S).set (R.length + 1) r).set R.length x)) q
      rw [e2]
      exact T.insE.L4 hi R x (r :: S) (by simp; omega) hx (fun r' hr' => hr r' (by simp [hr'])) h
    | false =>
      rw [hx', if_neg (by simp)] at h
      exact Ev.cf rfl h
theorem T.insE.L3 {m : Nat} (hm : m < 1000) : ∀ (k i : Nat) (P S : List EntryT), i + k = m → P.length = i → S.length = k → EntF S → (∀ e, e ∈ P → Val e.Key = true) → (∀ e x, e ∈ P → x ∈ S → bl e.Name x.Name = true) →
    Ev (fun f => G.slices_insertionSortCmpFunc_impl_Entry__impl_IndexStore_1.L3 f 0 m i (P ++ S)) (S.foldl insE P) := by
  intro k
  induction k with
  | zero =>
    intro i P S hi hp hs _ _ _
    have : S = [] := List.eq_nil_of_length_eq_zero hs
    subst this
    refine Ev.up ?_
    simp only [G.slices_insertionSortCmpFunc_impl_Entry__impl_IndexStore_1.L3, List.append_nil]
    exact Ev.cf (by simp; omega) (Ev.ret _)
  | succ k ih =>
    intro i P S hi hp hs hS hv hn
    cases S with
    | nil => simp at hs
    | cons x S =>
      have hs' : S.length = k := by simpa using hs
      obtain ⟨p1, p2⟩ := List.pairwise_cons.1 hS.asc
      have g := ih (i + 1) (insE P x) S (by omega) (by rw [insE_len]; omega) hs' ⟨fun e he => hS.val e (by simp [he]), p2⟩
        (fun e he => by rcases insE_mem.1 he with q | q; exact q ▸ hS.val x (by simp); exact hv e q)
        (fun e y he hy => by rcases insE_mem.1 he with q | q; exact q ▸ p1 y hy; exact hn e y q (by simp [hy]))
      refine Ev.up ?_
      simp only [G.slices_insertionSortCmpFunc_impl_Entry__impl_IndexStore_1.L3]
      refine Ev.ct (decide_eq_true (by omega)) ?_
      have := T.insE.L4 (b := m) (i := i) (q := (x :: S).foldl insE P) (by omega) P.reverse x S (by simp; omega) (hS.val x (by simp)) (fun r hr => ⟨hv r (by simpa using hr), hn r x (by simpa using hr) (by simp)⟩)
        (by
          have e : outE P.reverse x S = insE P x ++ S := by
            unfold insE
            rw [← outE_app, List.nil_append]
          rw [e]
          exact g)
      rw [List.reverse_reverse, List.length_reverse, hp] at this
      exact this
theorem T.sort_ent {l : List EntryT} (hl : l.length ≤ 12) (h : EntF l) : Ev (fun f => G.slices_SortFunc_impl_Entry__impl_IndexStore_1 f l) (sortE l) := by
  obtain ⟨v, gv⟩ := T.len_small l.length hl
  have w : IntKind.wrap .u64 ((l.length : Nat) : Int) = ((l.length : Nat) : Int) := by
    unfold IntKind.wrap
    simp only [show IntKind.bits .u64 = 64 from rfl, show IntKind.signed .u64 = false from rfl, Bool.false_and]
    simp
    omega
  have w0 : IntKind.wrap .i64 (((l.length : Nat) : Int) - 0) = ((l.length : Nat) : Int) := wrapN (by omega) (by omega)
  have w1 : IntKind.wrap .i64 ((0 : Int) + 1) = ((1 : Nat) : Int) := by decide
  have hs : l.length = (sortE l).length := sortE_len.symm
  have g : Ev (fun f => G.slices_insertionSortCmpFunc_impl_Entry__impl_IndexStore_1 f l 0 (l.length : Int)) (sortE l) := by
    refine Ev.up ?_
    simp only [G.slices_insertionSortCmpFunc_impl_Entry__impl_IndexStore_1, w1]
    cases l with
    | nil =>
      refine Ev.up ?_
      simp only [G.slices_insertionSortCmpFunc_impl_Entry__impl_IndexStore_1.L3]
      exact Ev.cf (by decide) (Ev.ret _)
    | cons x l =>
      obtain ⟨p1, p2⟩ := List.pairwise_cons.1 h.asc
      have hl' : l.length ≤ 11 := by simpa using hl
      exact T.insE.L3 (m := l.length + 1) (by omega) l.length 1 [x] l (by omega) rfl rfl ⟨fun e he => h.val e (by simp [he]), p2⟩ (fun e he => by rw [List.mem_singleton.1 he]; exact h.val x (by simp))
        (fun e y he hy => by rw [List.mem_singleton.1 he]; exact p1 y hy)
  refine Ev.up ?_
  simp only [G.slices_SortFunc_impl_Entry__impl_IndexStore_1, w]
  refine Ev.bind gv (Ev.bind ?_ (Ev.chk hs (Ev.ret _)))
  refine Ev.up ?_
  simp only [G.slices_pdqsortCmpFunc_impl_Entry__impl_IndexStore_1]
  refine Ev.up ?_
  simp only [G.slices_pdqsortCmpFunc_impl_Entry__impl_IndexStore_1.L2, w0]
  exact Ev.ct (decide_eq_true (by omega)) (Ev.bind g (Ev.chk hs (Ev.ret _)))
section
variable {s : StoreT} {p : List Txt} (h : FineS 60 s) (hp : FineP 60 p)
include h hp
theorem T.impl_IndexStore : Ev (fun f => G.impl_IndexStore f s p) (IdxM s p) := by
  refine Ev.up ?_
  simp only [G.impl_IndexStore]
  unfold IdxM
  refine Ev.bind (T.impl_ValidStore lim60 h) (Ev.ite (fun e1 => ?_) (fun e1 => Ev.ret' (by rw [e1]; rfl)))
  refine Ev.bind (T.impl_isPath p (hp.sm lim60)) (Ev.ite (fun e2 => ?_) (fun e2 => Ev.ret' (by rw [e1, e2]; rfl)))
  rw [e1, e2]
  have hs := st_iff.1 e1
  have hl := hs.len
  have hpl := hp.1
  have L : ∀ (k i : Nat), i + k = s.Items.length → Ev (fun f => G.impl_IndexStore.L1 f s p i (entL p (s.Items.take i))) (sortE (entL p s.Items)) := by
    intro k
    induction k with
    | zero =>
      intro i hi
      refine Ev.up ?_
      simp only [G.impl_IndexStore.L1]
      rw [List.take_of_length_le (by omega)]
      have hlen : (entL p s.Items).length ≤ 10 := Nat.le_trans (List.length_filterMap_le _ _) hl
      exact Ev.cf (decide_eq_false (by omega)) (Ev.bind (T.sort_ent (by omega) (ent_fact hs)) (Ev.chk sortE_len.symm (Ev.ret _)))
    | succ k ih =>
      intro i hi
      have hil : i < s.Items.length := by omega
      have hit := hs.it hil
      have hn := ih (i + 1) (by omega)
      rw [List.take_succ_eq_append_getElem hil, ← getD_of_lt (default : ItemT) hil] at hn
      unfold entL at hn ⊢
      rw [List.filterMap_append] at hn
      have hlen : ((s.Items.take i).filterMap (entOf p)).length ≤ 10 := Nat.le_trans (List.length_filterMap_le _ _) (by simp; omega)
      refine Ev.up ?_
      simp only [G.impl_IndexStore.L1, Int.toNat_natCast, wrap_suc (show i + 1 < 9223372036854775808 by omega)]
      refine Ev.ct (decide_eq_true (by omega)) (Ev.chk (by omega) (Ev.bind (T.impl_findNode p (by unfold big; omega) (val_shape hit.nod)) ?_))
      cases ha : atN (s.Items.getD i default).Node p with
      | none =>
        have e : [s.Items.getD i default].filterMap (entOf p) = [] := by rw [List.filterMap_cons, List.filterMap_nil]; unfold entOf; rw [ha]; rfl
        rw [e, List.append_nil] at hn
        exact Ev.cf rfl hn
      | some k =>
        have e : [s.Items.getD i default].filterMap (entOf p) = [EntryT.mk k (s.Items.getD i default).Name] := by rw [List.filterMap_cons, List.filterMap_nil]; unfold entOf; rw [ha]; rfl
        rw [e] at hn
        exact Ev.ct rfl (Ev.bind (T.impl_copyNode lim60 (fine_val (at_val hit.nod ha))) (Ev.chk (by omega) hn))
  exact L s.Items.length 0 (by omega)
end
theorem T.entries.L4 {s : StoreT} {p : List Txt} {i : Nat} {q : List EntryT} (hi : i < 1000) : ∀ (R : List EntryT) (x : EntryT) (S : List EntryT), R.length + S.length < 1000 → Val x.Key = true → (∀ r, r ∈ R → Val r.Key = true) →
    Ev (fun f => G.spec_entries.L3 f s p ((i + 1 : Nat) : Int) (outE R x S)) q →
    Ev (fun f => G.spec_entries.L4 f s p i (R.length : Int) (R.reverse ++ x :: S)) q
  | [], x, S, hl, hx, hr, h => by
    refine Ev.up ?_
    simp only [G.spec_entries.L4, wrap_suc (show i + 1 < 9223372036854775808 by omega)]
    exact Ev.cf (by simp) h
  | r :: R, x, S, hl, hx, hr, h => by
    have hl' : R.length + 1 + S.length < 1000 := by simpa using hl
    have vr := hr r (by simp)
    have e1 : (r :: R).length = R.length + 1 := rfl
    have w1 : IntKind.wrap .i64 (((R.length + 1 : Nat) : Int) - 1) = ((R.length : Nat) : Int) := wrapN (by omega) (by omega)
    have g1 : ((r :: R).reverse ++ x :: S).getD (R.length + 1) default = x := getD_mid _ (by simp)
    have g0 : ((r :: R).reverse ++ x :: S).getD R.length default = r := by
      rw [List.reverse_cons, List.append_assoc]; exact getD_mid _ (by simp)
    have hlen : ((r :: R).reverse ++ x :: S).length = R.length + 1 + (S.length + 1) := by simp; omega
    refine Ev.up ?_
    simp only [G.spec_entries.L4, wrap_suc (show i + 1 < 9223372036854775808 by omega), e1, w1, Int.toNat_natCast, g0, g1]
    refine Ev.ct (decide_eq_true (by omega)) (Ev.chk (by rw [hlen]; omega) (Ev.chk (by rw [hlen]; omega) (Ev.bind (T.spec_cmp 5 (val_shape hx) (val_shape vr)) ?_)))
    rw [outE] at h
    cases hx' : ltE x r with
    | true =>
      rw [hx', if_pos rfl] at h
      refine Ev.ct hx' (Ev.chk (by rw [hlen]; omega) (Ev.chk (by rw [hlen]; omega) (Ev.chk (by rw [hlen]; omega) (Ev.chk (by rw [hlen]; omega) ?_))))
      have e2 : (((r :: R).reverse ++ x :: S).set (R.length + 1) r).set R.length x = R.reverse ++ x :: (r :: S) := by
        rw [set_mid (by simp), List.reverse_cons, List.append_assoc]
        exact set_mid (by simp)
      show Ev (fun f => G.spec_entries.L4 f s p i (R.length : Int) ((((r :: R).reverse ++ x :: S).set (R.length + 1) r).set R.length x)) q
      rw [e2]
      exact T.entries.L4 hi R x (r :: S) (by simp; omega) hx (fun r' hr' => hr r' (by simp [hr'])) h
    | false =>
      rw [hx', if_neg (by simp)] at h
      exact Ev.cf hx' h
section
variable {s : StoreT} {p : List Txt} (h : FineS 60 s) (hp : FineP 60 p)
include h hp
theorem T.spec_IndexStore : Ev (fun f => G.spec_IndexStore f s p) (IdxM s p) := by
  refine Ev.up ?_
  simp only [G.spec_IndexStore]
  unfold IdxM
  refine Ev.bind (T.spec_validStore lim60 h) (Ev.ite (fun e1 => ?_) (fun e1 => Ev.ret' (by rw [e1]; rfl)))
  refine Ev.bind (T.spec_validPath p (hp.sm lim60)) (Ev.ite (fun e2 => ?_) (fun e2 => Ev.ret' (by rw [e1, e2]; rfl)))
  rw [e1, e2]
  have hs := st_iff.1 e1
  have hl := hs.len
  have hpl := hp.1
  have L : ∀ (k i : Nat), i + k = s.Items.length → Ev (fun f => G.spec_entries.L3 f s p i (sortE (entL p (s.Items.take i)))) (sortE (entL p s.Items)) := by
    intro k
    induction k with
    | zero =>
      intro i hi
      refine Ev.up ?_
      simp only [G.spec_entries.L3]
      rw [List.take_of_length_le (by omega)]
      exact Ev.cf (decide_eq_false (by omega)) (Ev.ret _)
    | succ k ih =>
      intro i hi
      have hil : i < s.Items.length := by omega
      have hit := hs.it hil
      have hn := ih (i + 1) (by omega)
      rw [List.take_succ_eq_append_getElem hil, ← getD_of_lt (default : ItemT) hil] at hn
      have hlen : ((s.Items.take i).filterMap (entOf p)).length ≤ 10 := Nat.le_trans (List.length_filterMap_le _ _) (by simp; omega)
      have hap : entL p (s.Items.take i ++ [s.Items.getD i default]) = entL p (s.Items.take i) ++ [s.Items.getD i default].filterMap (entOf p) := by unfold entL; rw [List.filterMap_append]
      rw [hap] at hn
      have hsl : (sortE (entL p (s.Items.take i))).length ≤ 10 := by rw [sortE_len]; exact hlen
      refine Ev.up ?_
      simp only [G.spec_entries.L3, Int.toNat_natCast, wrap_suc (show i + 1 < 9223372036854775808 by omega)]
      refine Ev.ct (decide_eq_true (by omega)) (Ev.chk (by omega) (Ev.bind (T.spec_at p lim60 (by unfold big; omega) (fine_val hit.nod)) ?_))
      cases ha : atN (s.Items.getD i default).Node p with
      | none =>
        have e : [s.Items.getD i default].filterMap (entOf p) = [] := by rw [List.filterMap_cons, List.filterMap_nil]; unfold entOf; rw [ha]; rfl
        rw [e, List.append_nil] at hn
        exact Ev.cf rfl hn
      | some k =>
        have e : [s.Items.getD i default].filterMap (entOf p) = [EntryT.mk k (s.Items.getD i default).Name] := by rw [List.filterMap_cons, List.filterMap_nil]; unfold entOf; rw [ha]; rfl
        rw [e, sortE_snoc] at hn
        refine Ev.ct rfl (Ev.chk (by omega) (Ev.chk (by omega) ?_))
        have w : IntKind.wrap .i64 ((((sortE (entL p (s.Items.take i))).length + 1 : Nat) : Int) - 1) = (((sortE (entL p (s.Items.take i))).reverse.length : Nat) : Int) := by
          rw [List.length_reverse]; exact wrapN (by omega) (by omega)
        rw [w]
        have := T.entries.L4 (s := s) (p := p) (i := i) (by omega) (sortE (entL p (s.Items.take i))).reverse (EntryT.mk k (s.Items.getD i default).Name) [] (by simp; omega) (at_val hit.nod ha) (fun r hr => by
          have hm : r ∈ entL p (s.Items.take i) := sortE_mem.1 (by simpa using hr)
          obtain ⟨it, hi', h1, _⟩ := ent_mem.1 hm
          exact at_val (it_iff.1 (hs.itm it (List.mem_of_mem_take hi'))).nod h1) hn
        rw [List.reverse_reverse] at this
        exact this
  refine Ev.bind (Ev.up ?_) (Ev.ret _)
  simp only [G.spec_entries]
  exact L s.Items.length 0 (by omega)
end
theorem idx_cases {s : StoreT} {p : List Txt} : IdxM s p = [] ∨ (StF s ∧ PP p = true ∧ IdxM s p = sortE (entL p s.Items)) := by
  unfold IdxM
  cases h : StV s && PP p with
  | false => exact .inl rfl
  | true =>
    obtain ⟨h1, h2⟩ : StV s = true ∧ PP p = true := by simpa using h
    exact .inr ⟨st_iff.1 h1, h2, rfl⟩
theorem idx_val {s : StoreT} {p : List Txt} {e : EntryT} (h : e ∈ IdxM s p) : Val e.Key = true ∧ ∃ it, it ∈ s.Items ∧ atN it.Node p = some e.Key ∧ it.Name = e.Name := by
  rcases idx_cases (s := s) (p := p) with q | ⟨hs, _, q⟩
  · rw [q] at h; cases h
  · rw [q] at h
    have hm := sortE_mem.1 h
    exact ⟨(ent_fact hs).val e hm, ent_mem.1 hm⟩
theorem idx_len {s : StoreT} {p : List Txt} : (IdxM s p).length ≤ 10 := by
  rcases idx_cases (s := s) (p := p) with q | ⟨hs, _, q⟩
  · rw [q]; decide
  · rw [q, sortE_len]
    exact Nat.le_trans (List.length_filterMap_le _ _) hs.len
theorem T.equalEntries {l : List EntryT} (hl : l.length ≤ 1000) (hv : ∀ e, e ∈ l → Val e.Key = true) : Ev (fun f => G.laws_equalEntries f l l) true := by
  have L : ∀ (k i : Nat), i + k = l.length → Ev (fun f => G.laws_equalEntries.L1 f l l i) true := by
    intro k
    induction k with
    | zero =>
      intro i hi
      refine Ev.up ?_
      simp only [G.laws_equalEntries.L1]
      exact Ev.cf (decide_eq_false (by omega)) (Ev.ret _)
    | succ k ih =>
      intro i hi
      refine Ev.up ?_
      simp only [G.laws_equalEntries.L1, Int.toNat_natCast, wrap_suc (show i + 1 < 9223372036854775808 by omega)]
      exact Ev.ct (decide_eq_true (by omega)) (Ev.chk (by omega) (Ev.chk (by omega) (Ev.ct (by simp) (Ev.chk (by omega) (Ev.chk (by omega) (Ev.bind (equal_val (hv _ (getD_mem default (show i < l.length by omega)))) (Ev.ct rfl (ih (i + 1) (by omega)))))))))
  refine Ev.up ?_
  simp only [G.laws_equalEntries]
  exact Ev.cf (by simp) (L l.length 0 (by omega))
end Go.Ab
end
section
namespace Go.Ab
open Go
set_option maxRecDepth 100000
abbrev SP (x : StoreT × List Txt) : Prop := FineS 60 x.1 ∧ FineP 60 x.2
theorem D.DrawIndexStore {c : List Int} (hc : Bytes c) (hl : c.length ≤ 1048576) : Tot SP (fun f => G.spec_DrawIndexStore f c) := by
  refine Tot.up ?_
  simp only [G.spec_DrawIndexStore]
  refine Tot.bind (D.newReader hc hl) (fun r hr => Tot.bind (D.anyStore hr (by omega)) ?_)
  rintro ⟨s, r1⟩ ⟨hs, hr1⟩
  refine Tot.bind (D.storePath hs hr1 (by omega)) ?_
  rintro ⟨p, r2⟩ ⟨hp, _⟩
  exact Tot.ret ⟨hs, hp⟩
theorem idx_self (s : StoreT) (p : List Txt) : Ev (fun f => G.laws_equalEntries f (IdxM s p) (IdxM s p)) true := T.equalEntries (by have := idx_len (s := s) (p := p); omega) (fun e he => (idx_val he).1)
theorem T.law_IndexStorePut {c : List Int} (hc : Bytes c) : Ev (fun f => G.laws_FnIndexStorePut f c) true := by
  refine Ev.up ?_
  simp only [G.laws_FnIndexStorePut]
  refine Ev.ite (fun _ => Ev.ret _) (fun e => ?_)
  obtain ⟨⟨s, p⟩, g, hf, hp⟩ := D.DrawIndexStore hc (by simp at e; omega)
  have self := idx_self s p
  refine Ev.bind g (Ev.bind (T.impl_IndexStore hf hp) (Ev.bind (T.spec_IndexStore hf hp) (Ev.bind self (Ev.ct rfl (Ev.ite (fun _ => Ev.bind (T.spec_IndexStore hf hp) (Ev.bind self (Ev.ret _))) (fun h0 => ?_))))))
  have hnone : Ev (fun f => G.laws_none f) noNode := by
    refine Ev.up ?_
    simp only [G.laws_none]
    exact Ev.ret _
  have hP := T.impl_PutItem (t := [98]) lim60 hf (by decide) (fine_val val_no)
  have hlen := idx_len (s := s) (p := p)
  have hfp : FineS 60 (pairS (PutM s [98] noNode)).1 := by
    cases h : PutM s [98] noNode with
    | none => exact no_fineS
    | some m => exact (st_iff.1 (putM_val h).2.2.2.2).fine
  refine Ev.bind hnone (Ev.bind hP (Ev.bind (T.impl_IndexStore hfp hp) ?_))
  have hv := fun e (he : e ∈ IdxM s p) => (idx_val he).1
  cases h : PutM s [98] noNode with
  | none =>
    refine Ev.up ?_
    simp only [G.laws_FnIndexStorePut.L3]
    exact Ev.ite (fun _ => Ev.cf rfl (Ev.ret _)) (fun _ => Ev.ret _)
  | some m =>
    obtain ⟨vs, _, _, rfl, vm⟩ := putM_val h
    show Ev (fun f => G.laws_FnIndexStorePut.L3 f (IdxM s p) (IdxM (putM s [98] noNode) p) true 0) true
    have hpp : PP p = true := by
      rcases idx_cases (s := s) (p := p) with q | ⟨_, hpp, _⟩
      · rw [q] at h0; simp at h0
      · exact hpp
    have hmem : ∀ e, e ∈ IdxM s p → e.Name = [98] ∨ e ∈ IdxM (putM s [98] noNode) p := fun e he => by
      obtain ⟨_, it, h1, h2, h3⟩ := idx_val he
      by_cases c : it.Name = [98]
      · exact .inl (h3 ▸ c)
      · refine .inr ?_
        have : IdxM (putM s [98] noNode) p = sortE (entL p (putM s [98] noNode).Items) := by unfold IdxM; rw [vm, hpp]; rfl
        rw [this, sortE_mem]
        exact ent_mem.2 ⟨it, (putL_mem (st_iff.1 vs).asc).2 (.inr ⟨h1, c⟩), h2, h3⟩
    have hv2 := fun e (he : e ∈ IdxM (putM s [98] noNode) p) => (idx_val he).1
    have hlen2 := idx_len (s := putM s [98] noNode) (p := p)
    generalize IdxM s p = l at hlen hmem hv
    generalize IdxM (putM s [98] noNode) p = l2 at hmem hv2 hlen2
    have inner : ∀ (i : Nat), i < l.length → Ev (fun f => G.laws_FnIndexStorePut.L3 f l l2 true ((i + 1 : Nat) : Int)) true →
        ∀ (t k : Nat) (b : Bool), k + t = l2.length → (b = true ∨ l.getD i default ∈ l2.drop k) → Ev (fun f => G.laws_FnIndexStorePut.L4 f l l2 (i : Int) b k) true := by
      intro i hil hn t
      induction t with
      | zero =>
        intro k b hk hb
        have : b = true := by
          rcases hb with hb | hb
          · exact hb
          · rw [List.drop_of_length_le (by omega)] at hb; cases hb
        refine Ev.up ?_
        simp only [G.laws_FnIndexStorePut.L4, wrap_suc (show i + 1 < 9223372036854775808 by omega)]
        exact Ev.cf (decide_eq_false (by omega)) (Ev.ct this hn)
      | succ t ih =>
        intro k b hk hb
        have hkl : k < l2.length := by omega
        refine Ev.up ?_
        simp only [G.laws_FnIndexStorePut.L4, Int.toNat_natCast, wrap_suc (show k + 1 < 9223372036854775808 by omega)]
        refine Ev.ct (decide_eq_true (by omega)) (Ev.ite (fun _ => ih (k + 1) true (by omega) (.inl rfl)) (fun hb' => ?_))
        have hb : l.getD i default ∈ l2.drop k := hb.resolve_left (by rw [hb']; simp)
        rw [drop_of_lt (default : EntryT) hkl] at hb
        refine Ev.chk (by omega) (Ev.chk (by omega) (Ev.ite (fun e1 => Ev.chk (by omega) (Ev.chk (by omega) ?_)) (fun e1 => ih (k + 1) false (by omega) ?_)))
        · refine Ev.bind (equal_dec (hv2 _ (getD_mem default hkl)) (hv _ (getD_mem default hil))) (ih (k + 1) _ (by omega) ?_)
          rcases List.mem_cons.1 hb with e | e
          · exact .inl (by rw [e]; simp)
          · exact .inr e
        · rcases List.mem_cons.1 hb with e | e
          · rw [e] at e1; simp at e1
          · exact .inr e
    have L : ∀ (k i : Nat), i + k = l.length → Ev (fun f => G.laws_FnIndexStorePut.L3 f l l2 true i) true := by
      intro k
      induction k with
      | zero =>
        intro i hi
        refine Ev.up ?_
        simp only [G.laws_FnIndexStorePut.L3]
        exact Ev.cf (decide_eq_false (by omega)) (Ev.ret _)
      | succ k ih =>
        intro i hi
        have hil : i < l.length := by omega
        refine Ev.up ?_
        simp only [G.laws_FnIndexStorePut.L3, Int.toNat_natCast]
        refine Ev.ct (decide_eq_true (by omega)) (Ev.ct rfl (Ev.chk (by omega) (inner i hil (ih (i + 1) (by omega)) l2.length 0 _ (by omega) ?_)))
        rcases hmem _ (getD_mem default hil) with q | q
        · exact .inl (by rw [q]; rfl)
        · exact .inr (by rw [List.drop_zero]; exact q)
    exact L l.length 0 (by omega)
end Go.Ab
end
section
namespace Go.Ab
open Go
set_option maxRecDepth 100000
set_option maxHeartbeats 4000000
set_option linter.unusedVariables false
set_option linter.unusedSimpArgs false
theorem F.cmp_isNaN_int {n : Nat} : ∀ {a_x1 : Int} {r : Bool}, G.cmp_isNaN_int n a_x1 = some r → APure Go.Proofs.Tryz.prog 164 [.one (.c (.lit (.int .i64 a_x1)))] (.one (.c (.lit (.bool r)))) := by
  intro a_x1 r h
  refine fun_pure K.cmp_isNaN_int (ofK ?_)
  unfold C.cmp_isNaN_int
  rcases n with _ | n <;> simp only [G.cmp_isNaN_int, reduceCtorEq] at h
  obtain ⟨zc, zg, zk, zu, ze, zj, zt⟩ := pp () <| pp () <| pp () <| pp () <| pp () <| pp () <| ()
  exact drv
theorem F.cmp_Compare_int {n : Nat} : ∀ {a_x1 : Int} {a_y1 : Int} {r : Int}, G.cmp_Compare_int n a_x1 a_y1 = some r → APure Go.Proofs.Tryz.prog 110 [.one (.c (.lit (.int .i64 a_x1))), .one (.c (.lit (.int .i64 a_y1)))] (.one (.c (.lit (.int .i64 r)))) := by
  intro a_x1 a_y1 r h
  refine fun_pure K.cmp_Compare_int (ofK ?_)
  unfold C.cmp_Compare_int
  rcases n with _ | n <;> simp only [G.cmp_Compare_int, reduceCtorEq] at h
  obtain ⟨zc, zg, zk, zu, ze, zj, zt⟩ := pp (pp @F.cmp_isNaN_int ()) <| pp () <| pp () <| pp () <| pp () <| pp () <| ()
  exact drv
theorem F.cmp_isNaN_string {n : Nat} : ∀ {a_x1 : Txt} {r : Bool}, G.cmp_isNaN_string n a_x1 = some r → APure Go.Proofs.Tryz.prog 178 [.one (.c (.str a_x1))] (.one (.c (.lit (.bool r)))) := by
  intro a_x1 r h
  refine fun_pure K.cmp_isNaN_string (ofK ?_)
  unfold C.cmp_isNaN_string
  rcases n with _ | n <;> simp only [G.cmp_isNaN_string, reduceCtorEq] at h
  obtain ⟨zc, zg, zk, zu, ze, zj, zt⟩ := pp () <| pp () <| pp () <| pp () <| pp () <| pp () <| ()
  exact drv
theorem F.cmp_Less_string {n : Nat} : ∀ {a_x1 : Txt} {a_y1 : Txt} {r : Bool}, G.cmp_Less_string n a_x1 a_y1 = some r → APure Go.Proofs.Tryz.prog 137 [.one (.c (.str a_x1)), .one (.c (.str a_y1))] (.one (.c (.lit (.bool r)))) := by
  intro a_x1 a_y1 r h
  refine fun_pure K.cmp_Less_string (ofK ?_)
  unfold C.cmp_Less_string
  rcases n with _ | n <;> simp only [G.cmp_Less_string, reduceCtorEq] at h
  obtain ⟨zc, zg, zk, zu, ze, zj, zt⟩ := pp (pp @F.cmp_isNaN_string ()) <| pp () <| pp () <| pp () <| pp () <| pp () <| ()
  exact drv
theorem F.cmp_Or_int {n : Nat} : ∀ {a_vals1 : List Int} {r : Int}, G.cmp_Or_int n a_vals1 = some r → APure Go.Proofs.Tryz.prog 64 [.one (.c (.sl 1 (List.map cI a_vals1)))] (.one (.c (.lit (.int .i64 r)))) := by
  intro a_vals1 r h
  refine fun_pure K.cmp_Or_int (ofK ?_)
  unfold C.cmp_Or_int
  rcases n with _ | n <;> simp only [G.cmp_Or_int, reduceCtorEq] at h
  obtain ⟨zc, zg, zk, zu, ze, zj, zt⟩ := pp () <| pp () <| pp (pp (@lopX (Int) _ (fun n x => G.cmp_Or_int.L1 n a_vals1 x) r (fun x => ASt.of [(3, .v true (.one (.c (.lit (.int .i64 0))))), (6, .v true (.one (.c (.sl 1 (List.map cI a_vals1))))), (7, .v true (.one (.c (.lit (.int .i64 ((a_vals1.length : Nat) : Int)))))), (8, .v true (.one (.c (.lit (.int .i64 x)))))] [])) ()) <| pp () <| pp (pp (And.intro @G.cmp_Or_int.L1.eq_1 <| @G.cmp_Or_int.L1.eq_2) ()) <| pp (pp (@weakX [] [] []) ()) <| ()
  exact drv
theorem F.internal_bytealg_CompareString {n : Nat} : ∀ {a_a1 : Txt} {a_b1 : Txt} {r : Int}, G.internal_bytealg_CompareString n a_a1 a_b1 = some r → APure Go.Proofs.Tryz.prog 111 [.one (.c (.str a_a1)), .one (.c (.str a_b1))] (.one (.c (.lit (.int .i64 r)))) := by
  intro a_a1 a_b1 r h
  refine fun_pure K.internal_bytealg_CompareString (ofK ?_)
  unfold C.internal_bytealg_CompareString
  rcases n with _ | n <;> simp only [G.internal_bytealg_CompareString, reduceCtorEq] at h
  obtain ⟨zc, zg, zk, zu, ze, zj, zt⟩ := pp () <| pp () <| pp () <| pp () <| pp () <| pp () <| ()
  exact drv
theorem F.strings_Compare {n : Nat} : ∀ {a_a1 : Txt} {a_b1 : Txt} {r : Int}, G.strings_Compare n a_a1 a_b1 = some r → APure Go.Proofs.Tryz.prog 66 [.one (.c (.str a_a1)), .one (.c (.str a_b1))] (.one (.c (.lit (.int .i64 r)))) := by
  intro a_a1 a_b1 r h
  refine fun_pure K.strings_Compare (ofK ?_)
  unfold C.strings_Compare
  rcases n with _ | n <;> simp only [G.strings_Compare, reduceCtorEq] at h
  obtain ⟨zc, zg, zk, zu, ze, zj, zt⟩ := pp (pp @F.internal_bytealg_CompareString ()) <| pp () <| pp () <| pp () <| pp () <| pp () <| ()
  exact drv
theorem F.impl_compareValid_n : ∀ (n : Nat), ∀ {a_a1 : NodeT} {a_b1 : NodeT} {r : Int}, G.impl_compareValid n a_a1 a_b1 = some r → APure Go.Proofs.Tryz.prog 65 [.agg [.c (.lit (.int .i64 a_a1.Kind)), .c (.lit (.int .i64 a_a1.Num)), .c (.str a_a1.Text), .c (.sl 1 (List.map cS a_a1.Names)), .c (.sl 5 (List.map NodeT.cells a_a1.Kids))], .agg [.c (.lit (.int .i64 a_b1.Kind)), .c (.lit (.int .i64 a_b1.Num)), .c (.str a_b1.Text), .c (.sl 1 (List.map cS a_b1.Names)), .c (.sl 5 (List.map NodeT.cells a_b1.Kids))]] (.one (.c (.lit (.int .i64 r)))) := by
  intro n
  induction n using Nat.strongRecOn with | _ n ih =>
  intro a_a1 a_b1 r h
  refine fun_pure K.impl_compareValid (ofK ?_)
  unfold C.impl_compareValid
  rcases n with _ | n <;> simp only [G.impl_compareValid, reduceCtorEq] at h
  obtain ⟨zc, zg, zk, zu, ze, zj, zt⟩ := pp (pp ih <| pp @F.cmp_Compare_int <| pp @F.strings_Compare ()) <| pp () <| pp (pp (@lopX (Int) _ (fun n x => G.impl_compareValid.L3 n a_a1 a_b1 x) r (fun x => ASt.of [(2, .v true (.one (.ptr 109 0))), (3, .v true (.one (.ptr 110 0))), (8, .v true (.one (.c (.lit (.int .i64 x)))))] [(109, .var [.c (.lit (.int .i64 a_a1.Kind)), .c (.lit (.int .i64 a_a1.Num)), .c (.str a_a1.Text), .c (.sl 1 (List.map cS a_a1.Names)), .c (.sl 5 (List.map NodeT.cells a_a1.Kids))]), (110, .var [.c (.lit (.int .i64 a_b1.Kind)), .c (.lit (.int .i64 a_b1.Num)), .c (.str a_b1.Text), .c (.sl 1 (List.map cS a_b1.Names)), .c (.sl 5 (List.map NodeT.cells a_b1.Kids))])])) ()) <| pp (pp (@cutX (Int) _ (fun n x => G.impl_compareValid.K4 n a_a1 a_b1 x) r (fun x => ASt.of [(2, .v true (.one (.ptr 111 0))), (3, .v true (.one (.ptr 112 0))), (8, .v true (.one (.c (.lit (.int .i64 x)))))] [(111, .var [.c (.lit (.int .i64 a_a1.Kind)), .c (.lit (.int .i64 a_a1.Num)), .c (.str a_a1.Text), .c (.sl 1 (List.map cS a_a1.Names)), .c (.sl 5 (List.map NodeT.cells a_a1.Kids))]), (112, .var [.c (.lit (.int .i64 a_b1.Kind)), .c (.lit (.int .i64 a_b1.Num)), .c (.str a_b1.Text), .c (.sl 1 (List.map cS a_b1.Names)), .c (.sl 5 (List.map NodeT.cells a_b1.Kids))])])) ()) <| pp (pp (And.intro @G.impl_compareValid.L3.eq_1 <| And.intro @G.impl_compareValid.L3.eq_2 <| And.intro @G.impl_compareValid.K4.eq_1 <| @G.impl_compareValid.K4.eq_2) ()) <| pp (pp (@weakX [] [(109, 10), (110, 11)] []) <| pp (@weakX [] [(111, 109), (112, 110)] []) <| pp (@weakX [] [(109, 111), (110, 112)] []) ()) <| ()
  exact drv
theorem F.impl_compareValid {n : Nat} : ∀ {a_a1 : NodeT} {a_b1 : NodeT} {r : Int}, G.impl_compareValid n a_a1 a_b1 = some r → APure Go.Proofs.Tryz.prog 65 [.agg [.c (.lit (.int .i64 a_a1.Kind)), .c (.lit (.int .i64 a_a1.Num)), .c (.str a_a1.Text), .c (.sl 1 (List.map cS a_a1.Names)), .c (.sl 5 (List.map NodeT.cells a_a1.Kids))], .agg [.c (.lit (.int .i64 a_b1.Kind)), .c (.lit (.int .i64 a_b1.Num)), .c (.str a_b1.Text), .c (.sl 1 (List.map cS a_b1.Names)), .c (.sl 5 (List.map NodeT.cells a_b1.Kids))]] (.one (.c (.lit (.int .i64 r)))) := F.impl_compareValid_n n
theorem F.impl_IndexStore_1 {n : Nat} : ∀ {a_a1 : EntryT} {a_b1 : EntryT} {r : Int}, G.impl_IndexStore_1 n a_a1 a_b1 = some r → APure Go.Proofs.Tryz.prog 63 [.agg [.c (.lit (.int .i64 a_a1.Key.Kind)), .c (.lit (.int .i64 a_a1.Key.Num)), .c (.str a_a1.Key.Text), .c (.sl 1 (List.map cS a_a1.Key.Names)), .c (.sl 5 (List.map NodeT.cells a_a1.Key.Kids)), .c (.str a_a1.Name)], .agg [.c (.lit (.int .i64 a_b1.Key.Kind)), .c (.lit (.int .i64 a_b1.Key.Num)), .c (.str a_b1.Key.Text), .c (.sl 1 (List.map cS a_b1.Key.Names)), .c (.sl 5 (List.map NodeT.cells a_b1.Key.Kids)), .c (.str a_b1.Name)]] (.one (.c (.lit (.int .i64 r)))) := by
  intro a_a1 a_b1 r h
  refine fun_pure K.impl_IndexStore_1 (ofK ?_)
  unfold C.impl_IndexStore_1
  rcases n with _ | n <;> simp only [G.impl_IndexStore_1, reduceCtorEq] at h
  obtain ⟨zc, zg, zk, zu, ze, zj, zt⟩ := pp (pp @F.impl_compareValid <| pp @F.strings_Compare <| pp @F.cmp_Or_int ()) <| pp () <| pp () <| pp () <| pp () <| pp () <| ()
  exact drv
theorem F.impl_isPlainText {n : Nat} : ∀ {a_s1 : Txt} {r : Bool}, G.impl_isPlainText n a_s1 = some r → APure Go.Proofs.Tryz.prog 106 [.one (.c (.str a_s1))] (.one (.c (.lit (.bool r)))) := by
  intro a_s1 r h
  refine fun_pure K.impl_isPlainText (ofK ?_)
  unfold C.impl_isPlainText
  rcases n with _ | n <;> simp only [G.impl_isPlainText, reduceCtorEq] at h
  obtain ⟨zc, zg, zk, zu, ze, zj, zt⟩ := pp () <| pp () <| pp (pp (@lopX (Int) _ (fun n x => G.impl_isPlainText.L1 n a_s1 x) r (fun x => ASt.of [(0, .v true (.one (.c (.str a_s1)))), (3, .v true (.one (.c (.lit (.int .i64 x)))))] [])) ()) <| pp () <| pp (pp (And.intro @G.impl_isPlainText.L1.eq_1 <| @G.impl_isPlainText.L1.eq_2) ()) <| pp (pp (@weakX [] [] []) ()) <| ()
  exact drv
theorem F.impl_areNames {n : Nat} : ∀ {a_names1 : List Txt} {r : Bool}, G.impl_areNames n a_names1 = some r → APure Go.Proofs.Tryz.prog 176 [.one (.c (.sl 1 (List.map cS a_names1)))] (.one (.c (.lit (.bool r)))) := by
  intro a_names1 r h
  refine fun_pure K.impl_areNames (ofK ?_)
  unfold C.impl_areNames
  rcases n with _ | n <;> simp only [G.impl_areNames, reduceCtorEq] at h
  obtain ⟨zc, zg, zk, zu, ze, zj, zt⟩ := pp (pp @F.impl_isPlainText ()) <| pp () <| pp (pp (@lopX (Int) _ (fun n x => G.impl_areNames.L1 n a_names1 x) r (fun x => ASt.of [(0, .v true (.one (.c (.sl 1 (List.map cS a_names1))))), (8, .v true (.one (.c (.sl 1 (List.map cS a_names1))))), (9, .v true (.one (.c (.lit (.int .i64 ((a_names1.length : Nat) : Int)))))), (10, .v true (.one (.c (.lit (.int .i64 x)))))] [])) ()) <| pp () <| pp (pp (And.intro @G.impl_areNames.L1.eq_1 <| @G.impl_areNames.L1.eq_2) ()) <| pp (pp (@weakX [] [] []) ()) <| ()
  exact drv
theorem F.impl_hasValidParts {n : Nat} : ∀ {a_n1 : NodeT} {r : Bool}, G.impl_hasValidParts n a_n1 = some r → APure Go.Proofs.Tryz.prog 128 [.agg [.c (.lit (.int .i64 a_n1.Kind)), .c (.lit (.int .i64 a_n1.Num)), .c (.str a_n1.Text), .c (.sl 1 (List.map cS a_n1.Names)), .c (.sl 5 (List.map NodeT.cells a_n1.Kids))]] (.one (.c (.lit (.bool r)))) := by
  intro a_n1 r h
  refine fun_pure K.impl_hasValidParts (ofK ?_)
  unfold C.impl_hasValidParts
  rcases n with _ | n <;> simp only [G.impl_hasValidParts, reduceCtorEq] at h
  obtain ⟨zc, zg, zk, zu, ze, zj, zt⟩ := pp (pp @F.impl_isPlainText <| pp @F.impl_areNames ()) <| pp () <| pp () <| pp (pp (@cutX (Unit) _ (fun n x => G.impl_hasValidParts.K1 n a_n1) r (fun x => ASt.of [(1, .v true (.one (.ptr 101 0))), (20, .v true (.one (.c (.lit (.bool false)))))] [(101, .var [.c (.lit (.int .i64 a_n1.Kind)), .c (.lit (.int .i64 a_n1.Num)), .c (.str a_n1.Text), .c (.sl 1 (List.map cS a_n1.Names)), .c (.sl 5 (List.map NodeT.cells a_n1.Kids))])])) ()) <| pp (pp (And.intro @G.impl_hasValidParts.K1.eq_1 <| @G.impl_hasValidParts.K1.eq_2) ()) <| pp (pp (@weakX [] [(101, 10)] []) ()) <| ()
  exact drv
theorem F.impl_measureNode_n : ∀ (n : Nat), ∀ {a_n1 : NodeT} {a_level1 : Int} {r : Int × Int × Bool}, G.impl_measureNode n a_n1 a_level1 = some r → APure Go.Proofs.Tryz.prog 77 [.agg [.c (.lit (.int .i64 a_n1.Kind)), .c (.lit (.int .i64 a_n1.Num)), .c (.str a_n1.Text), .c (.sl 1 (List.map cS a_n1.Names)), .c (.sl 5 (List.map NodeT.cells a_n1.Kids))], .one (.c (.lit (.int .i64 a_level1)))] (.tup [(false, [.c (.lit (.int .i64 r.1))]), (false, [.c (.lit (.int .i64 r.2.1))]), (false, [.c (.lit (.bool r.2.2))])]) := by
  intro n
  induction n using Nat.strongRecOn with | _ n ih =>
  intro a_n1 a_level1 r h
  refine fun_pure K.impl_measureNode (ofK ?_)
  unfold C.impl_measureNode
  rcases n with _ | n <;> simp only [G.impl_measureNode, reduceCtorEq] at h
  obtain ⟨zc, zg, zk, zu, ze, zj, zt⟩ := pp (pp ih <| pp @F.impl_hasValidParts ()) <| pp () <| pp (pp (@lopX (Int × Int × Int) _ (fun n x => G.impl_measureNode.L1 n a_n1 a_level1 x.1 x.2.1 x.2.2) r (fun x => ASt.of [(1, .v true (.one (.c (.lit (.int .i64 a_level1))))), (4, .v true (.one (.c (.lit (.int .i64 x.1))))), (5, .v true (.one (.c (.lit (.int .i64 x.2.1))))), (20, .v true (.one (.c (.sl 5 (List.map NodeT.cells a_n1.Kids))))), (21, .v true (.one (.c (.lit (.int .i64 ((a_n1.Kids.length : Nat) : Int)))))), (22, .v true (.one (.c (.lit (.int .i64 x.2.2)))))] [])) ()) <| pp () <| pp (pp (And.intro @G.impl_measureNode.L1.eq_1 <| @G.impl_measureNode.L1.eq_2) ()) <| pp (pp (@weakX [] [] []) ()) <| ()
  exact drv
theorem F.impl_measureNode {n : Nat} : ∀ {a_n1 : NodeT} {a_level1 : Int} {r : Int × Int × Bool}, G.impl_measureNode n a_n1 a_level1 = some r → APure Go.Proofs.Tryz.prog 77 [.agg [.c (.lit (.int .i64 a_n1.Kind)), .c (.lit (.int .i64 a_n1.Num)), .c (.str a_n1.Text), .c (.sl 1 (List.map cS a_n1.Names)), .c (.sl 5 (List.map NodeT.cells a_n1.Kids))], .one (.c (.lit (.int .i64 a_level1)))] (.tup [(false, [.c (.lit (.int .i64 r.1))]), (false, [.c (.lit (.int .i64 r.2.1))]), (false, [.c (.lit (.bool r.2.2))])]) := F.impl_measureNode_n n
theorem F.impl_ValidNode {n : Nat} : ∀ {a_n1 : NodeT} {r : Bool}, G.impl_ValidNode n a_n1 = some r → APure Go.Proofs.Tryz.prog 38 [.agg [.c (.lit (.int .i64 a_n1.Kind)), .c (.lit (.int .i64 a_n1.Num)), .c (.str a_n1.Text), .c (.sl 1 (List.map cS a_n1.Names)), .c (.sl 5 (List.map NodeT.cells a_n1.Kids))]] (.one (.c (.lit (.bool r)))) := by
  intro a_n1 r h
  refine fun_pure K.impl_ValidNode (ofK ?_)
  unfold C.impl_ValidNode
  rcases n with _ | n <;> simp only [G.impl_ValidNode, reduceCtorEq] at h
  obtain ⟨zc, zg, zk, zu, ze, zj, zt⟩ := pp (pp @F.impl_measureNode ()) <| pp () <| pp () <| pp () <| pp () <| pp () <| ()
  exact drv
theorem F.impl_isName {n : Nat} : ∀ {a_s1 : Txt} {r : Bool}, G.impl_isName n a_s1 = some r → APure Go.Proofs.Tryz.prog 72 [.one (.c (.str a_s1))] (.one (.c (.lit (.bool r)))) := by
  intro a_s1 r h
  refine fun_pure K.impl_isName (ofK ?_)
  unfold C.impl_isName
  rcases n with _ | n <;> simp only [G.impl_isName, reduceCtorEq] at h
  obtain ⟨zc, zg, zk, zu, ze, zj, zt⟩ := pp () <| pp () <| pp (pp (@lopX (Int) _ (fun n x => G.impl_isName.L1 n a_s1 x) r (fun x => ASt.of [(0, .v true (.one (.c (.str a_s1)))), (3, .v true (.one (.c (.lit (.int .i64 x)))))] [])) ()) <| pp () <| pp (pp (And.intro @G.impl_isName.L1.eq_1 <| @G.impl_isName.L1.eq_2) ()) <| pp (pp (@weakX [] [] []) ()) <| ()
  exact drv
theorem F.impl_ValidStore {n : Nat} : ∀ {a_s1 : StoreT} {r : Bool}, G.impl_ValidStore n a_s1 = some r → APure Go.Proofs.Tryz.prog 58 [.agg [.c (.sl 7 (List.map ItemT.cells a_s1.Items)), .c (.lit (.int .i64 a_s1.Clock))]] (.one (.c (.lit (.bool r)))) := by
  intro a_s1 r h
  refine fun_pure K.impl_ValidStore (ofK ?_)
  unfold C.impl_ValidStore
  rcases n with _ | n <;> simp only [G.impl_ValidStore, reduceCtorEq] at h
  obtain ⟨zc, zg, zk, zu, ze, zj, zt⟩ := pp (pp @F.impl_isName <| pp @F.impl_ValidNode ()) <| pp () <| pp (pp (@lopX (Int) _ (fun n x => G.impl_ValidStore.L1 n a_s1 x) r (fun x => ASt.of [(1, .v true (.one (.ptr 103 0))), (20, .v true (.one (.c (.sl 7 (List.map ItemT.cells a_s1.Items))))), (21, .v true (.one (.c (.lit (.int .i64 ((a_s1.Items.length : Nat) : Int)))))), (22, .v true (.one (.c (.lit (.int .i64 x)))))] [(103, .var [.c (.sl 7 (List.map ItemT.cells a_s1.Items)), .c (.lit (.int .i64 a_s1.Clock))])])) ()) <| pp () <| pp (pp (And.intro @G.impl_ValidStore.L1.eq_1 <| @G.impl_ValidStore.L1.eq_2) ()) <| pp (pp (@weakX [] [(103, 10)] []) <| pp (@weakX [] [(103, 103)] []) ()) <| ()
  exact drv
theorem F.impl_copyNode_n : ∀ (n : Nat), ∀ {a_n1 : NodeT} {r : NodeT}, G.impl_copyNode n a_n1 = some r → APure Go.Proofs.Tryz.prog 61 [.agg [.c (.lit (.int .i64 a_n1.Kind)), .c (.lit (.int .i64 a_n1.Num)), .c (.str a_n1.Text), .c (.sl 1 (List.map cS a_n1.Names)), .c (.sl 5 (List.map NodeT.cells a_n1.Kids))]] (.agg [.c (.lit (.int .i64 r.Kind)), .c (.lit (.int .i64 r.Num)), .c (.str r.Text), .c (.sl 1 (List.map cS r.Names)), .c (.sl 5 (List.map NodeT.cells r.Kids))]) := by
  intro n
  induction n using Nat.strongRecOn with | _ n ih =>
  intro a_n1 r h
  refine fun_pure K.impl_copyNode (ofK ?_)
  unfold C.impl_copyNode
  rcases n with _ | n <;> simp only [G.impl_copyNode, reduceCtorEq] at h
  obtain ⟨zc, zg, zk, zu, ze, zj, zt⟩ := pp (pp ih ()) <| pp () <| pp (pp (@lopX (List Txt × Int × List NodeT) _ (fun n x => G.impl_copyNode.L2 n a_n1 x.1 x.2.1 x.2.2) r (fun x => ASt.of [(2, .v true (.one (.ptr 113 0))), (3, .v true (.one (.ptr 114 0))), (37, .v true (.one (.c (.sl 5 (List.map NodeT.cells a_n1.Kids))))), (38, .v true (.one (.c (.lit (.int .i64 ((a_n1.Kids.length : Nat) : Int)))))), (39, .v true (.one (.c (.lit (.int .i64 x.2.1)))))] [(113, .var [.c (.lit (.int .i64 0)), .c (.lit (.int .i64 0)), .c (.str []), .nsl 1, .nsl 5]), (114, .var [.c (.lit (.int .i64 a_n1.Kind)), .c (.lit (.int .i64 a_n1.Num)), .c (.str a_n1.Text), .own 115 x.1.length 1, .own 116 x.2.2.length 5]), (115, .dat 1 (List.map cS x.1)), (116, .dat 5 (List.map NodeT.cells x.2.2))])) ()) <| pp (pp (@cutX (List Txt) _ (fun n x => G.impl_copyNode.K1 n a_n1 x) r (fun x => ASt.of [(1, .v true (.one (.ptr 101 0))), (2, .v true (.one (.ptr 102 0))), (3, .v true (.one (.ptr 103 0)))] [(101, .var [.c (.lit (.int .i64 a_n1.Kind)), .c (.lit (.int .i64 a_n1.Num)), .c (.str a_n1.Text), .c (.sl 1 (List.map cS a_n1.Names)), .c (.sl 5 (List.map NodeT.cells a_n1.Kids))]), (102, .var [.c (.lit (.int .i64 0)), .c (.lit (.int .i64 0)), .c (.str []), .nsl 1, .nsl 5]), (103, .var [.c (.lit (.int .i64 a_n1.Kind)), .c (.lit (.int .i64 a_n1.Num)), .c (.str a_n1.Text), .own 104 x.length 1, .nsl 5]), (104, .dat 1 (List.map cS x))])) ()) <| pp (pp (And.intro @G.impl_copyNode.K1.eq_1 <| And.intro @G.impl_copyNode.K1.eq_2 <| And.intro @G.impl_copyNode.L2.eq_1 <| @G.impl_copyNode.L2.eq_2) ()) <| pp (pp (@weakX [] [(101, 10), (102, 11), (103, 12), (104, 13)] []) <| pp (@weakX [] [(101, 10), (102, 11), (103, 12)] [104]) <| pp (@weakX [] [(113, 102), (114, 103), (115, 104), (116, 14)] []) <| pp (@weakX [] [(113, 113), (114, 114), (115, 115), (116, 116)] []) ()) <| ()
  exact drv
theorem F.impl_copyNode {n : Nat} : ∀ {a_n1 : NodeT} {r : NodeT}, G.impl_copyNode n a_n1 = some r → APure Go.Proofs.Tryz.prog 61 [.agg [.c (.lit (.int .i64 a_n1.Kind)), .c (.lit (.int .i64 a_n1.Num)), .c (.str a_n1.Text), .c (.sl 1 (List.map cS a_n1.Names)), .c (.sl 5 (List.map NodeT.cells a_n1.Kids))]] (.agg [.c (.lit (.int .i64 r.Kind)), .c (.lit (.int .i64 r.Num)), .c (.str r.Text), .c (.sl 1 (List.map cS r.Names)), .c (.sl 5 (List.map NodeT.cells r.Kids))]) := F.impl_copyNode_n n
theorem F.slices_isNaN_string {n : Nat} : ∀ {a_x1 : Txt} {r : Bool}, G.slices_isNaN_string n a_x1 = some r → APure Go.Proofs.Tryz.prog 138 [.one (.c (.str a_x1))] (.one (.c (.lit (.bool r)))) := by
  intro a_x1 r h
  refine fun_pure K.slices_isNaN_string (ofK ?_)
  unfold C.slices_isNaN_string
  rcases n with _ | n <;> simp only [G.slices_isNaN_string, reduceCtorEq] at h
  obtain ⟨zc, zg, zk, zu, ze, zj, zt⟩ := pp () <| pp () <| pp () <| pp () <| pp () <| pp () <| ()
  exact drv
theorem F.slices_BinarySearch_string {n : Nat} : ∀ {a_x1 : List Txt} {a_target1 : Txt} {r : Int × Bool}, G.slices_BinarySearch_string n a_x1 a_target1 = some r → APure Go.Proofs.Tryz.prog 94 [.one (.c (.sl 1 (List.map cS a_x1))), .one (.c (.str a_target1))] (.tup [(false, [.c (.lit (.int .i64 r.1))]), (false, [.c (.lit (.bool r.2))])]) := by
  intro a_x1 a_target1 r h
  refine fun_pure K.slices_BinarySearch_string (ofK ?_)
  unfold C.slices_BinarySearch_string
  rcases n with _ | n <;> simp only [G.slices_BinarySearch_string, reduceCtorEq] at h
  obtain ⟨zc, zg, zk, zu, ze, zj, zt⟩ := pp (pp @F.cmp_Less_string <| pp @F.slices_isNaN_string ()) <| pp () <| pp (pp (@lopX (Int × Int) _ (fun n x => G.slices_BinarySearch_string.L1 n a_x1 a_target1 x.1 x.2) r (fun x => ASt.of [(0, .v true (.one (.c (.sl 1 (List.map cS a_x1))))), (1, .v true (.one (.c (.str a_target1)))), (6, .v true (.one (.c (.lit (.int .i64 ((a_x1.length : Nat) : Int)))))), (7, .v true (.one (.c (.lit (.int .i64 x.1))))), (8, .v true (.one (.c (.lit (.int .i64 x.2)))))] [])) ()) <| pp () <| pp (pp (And.intro @G.slices_BinarySearch_string.L1.eq_1 <| @G.slices_BinarySearch_string.L1.eq_2) ()) <| pp (pp (@weakX [] [] []) ()) <| ()
  exact drv
theorem F.internal_strconv_log10Pow2 {n : Nat} : ∀ {a_x1 : Int} {r : Int}, G.internal_strconv_log10Pow2 n a_x1 = some r → APure Go.Proofs.Tryz.prog 213 [.one (.c (.lit (.int .i64 a_x1)))] (.one (.c (.lit (.int .i64 r)))) := by
  intro a_x1 r h
  refine fun_pure K.internal_strconv_log10Pow2 (ofK ?_)
  unfold C.internal_strconv_log10Pow2
  rcases n with _ | n <;> simp only [G.internal_strconv_log10Pow2, reduceCtorEq] at h
  obtain ⟨zc, zg, zk, zu, ze, zj, zt⟩ := pp () <| pp () <| pp () <| pp () <| pp () <| pp () <| ()
  exact drv
theorem F.math_bits_Len64 {n : Nat} : ∀ {a_x1 : Int} {r : Int}, G.math_bits_Len64 n a_x1 = some r → APure Go.Proofs.Tryz.prog 163 [.one (.c (.lit (.int .u64 a_x1)))] (.one (.c (.lit (.int .i64 r)))) := by
  intro a_x1 r h
  refine fun_pure K.math_bits_Len64 (ofK ?_)
  unfold C.math_bits_Len64
  rcases n with _ | n <;> simp only [G.math_bits_Len64, reduceCtorEq] at h
  have := Mk.mk 1; have := Mk.mk 2
  obtain ⟨zc, zg, zk, zu, ze, zj, zt, zq⟩ := pp () <| pp () <| pp () <| pp (pp (@cutX (Int × Int) _ (fun n x => G.math_bits_Len64.K1 n x.1 x.2) r (fun x => ASt.of [(0, .v true (.one (.c (.lit (.int .u64 x.1))))), (2, .v true (.one (.c (.lit (.int .i64 x.2)))))] [])) <| pp (@cutX (Int × Int) _ (fun n x => G.math_bits_Len64.K2 n x.1 x.2) r (fun x => ASt.of [(0, .v true (.one (.c (.lit (.int .u64 x.1))))), (2, .v true (.one (.c (.lit (.int .i64 x.2)))))] [])) ()) <| pp (pp (And.intro @G.math_bits_Len64.K1.eq_1 <| And.intro @G.math_bits_Len64.K1.eq_2 <| And.intro @G.math_bits_Len64.K2.eq_1 <| @G.math_bits_Len64.K2.eq_2) ()) <| pp (pp (@weakX [] [] []) ()) <| pp () <| (pp (pp (rfl : @G.math_bits_Len64.K1 = _) ()) <| pp (pp (rfl : @G.math_bits_Len64.K2 = _) <| pp (rfl : @G.math_bits_Len64.K1 = _) ()) ())
  exact drvM
theorem F.internal_strconv_numDigits {n : Nat} : ∀ {a_d1 : Int} {r : Int}, G.internal_strconv_numDigits n a_d1 = some r → APure Go.Proofs.Tryz.prog 208 [.one (.c (.lit (.int .u64 a_d1)))] (.one (.c (.lit (.int .i64 r)))) := by
  intro a_d1 r h
  refine fun_pure K.internal_strconv_numDigits (ofK ?_)
  unfold C.internal_strconv_numDigits
  rcases n with _ | n <;> simp only [G.internal_strconv_numDigits, reduceCtorEq] at h
  obtain ⟨zc, zg, zk, zu, ze, zj, zt⟩ := pp (pp @F.math_bits_Len64 <| pp @F.internal_strconv_log10Pow2 ()) <| pp () <| pp () <| pp () <| pp () <| pp () <| ()
  exact drv
theorem F.internal_strconv_small {n : Nat} : ∀ {a_i1 : Int} {r : Txt}, G.internal_strconv_small n a_i1 = some r → APure Go.Proofs.Tryz.prog 207 [.one (.c (.lit (.int .i64 a_i1)))] (.one (.c (.str r))) := by
  intro a_i1 r h
  refine fun_pure K.internal_strconv_small (ofK ?_)
  unfold C.internal_strconv_small
  rcases n with _ | n <;> simp only [G.internal_strconv_small, reduceCtorEq] at h
  obtain ⟨zc, zg, zk, zu, ze, zj, zt⟩ := pp () <| pp () <| pp () <| pp () <| pp () <| pp () <| ()
  exact drv
theorem F.internal_strconv_FormatInt {n : Nat} : ∀ {a_i1 : Int} {a_base1 : Int} {r : Txt}, G.internal_strconv_FormatInt n a_i1 a_base1 = some r → APure Go.Proofs.Tryz.prog 201 [.one (.c (.lit (.int .i64 a_i1))), .one (.c (.lit (.int .i64 a_base1)))] (.one (.c (.str r))) := by
  intro a_i1 a_base1 r h
  refine fun_pure K.internal_strconv_FormatInt (ofK ?_)
  unfold C.internal_strconv_FormatInt
  rcases n with _ | n <;> simp only [G.internal_strconv_FormatInt, reduceCtorEq] at h
  have := Mk.mk 1; have := Mk.mk 2
  obtain ⟨zc, zg, zk, zu, ze, zj, zt, zq⟩ := pp (pp @F.internal_strconv_small <| pp @F.internal_strconv_numDigits ()) <| pp () <| pp () <| pp (pp (@cutX (Int × List Int) _ (fun n x => G.internal_strconv_FormatInt.K1 n x.1 x.2) r (fun x => ASt.of [(0, .v true (.one (.c (.lit (.int .i64 a_i1))))), (5, .v true (.one (.aptr 101 0 1 0))), (6, .v true (.one (.c (.lit (.int .u64 x.1)))))] [(101, .dat 1 (List.map cU x.2))])) <| pp (@cutX (Int × List Int) _ (fun n x => G.internal_strconv_FormatInt.K2 n x.1 x.2) r (fun x => ASt.of [(0, .v true (.one (.c (.lit (.int .i64 a_i1))))), (5, .v true (.one (.aptr 102 0 1 0))), (6, .v true (.one (.c (.lit (.int .u64 x.1)))))] [(102, .dat 1 (List.map cU x.2))])) ()) <| pp (pp (And.intro @G.internal_strconv_FormatInt.K1.eq_1 <| And.intro @G.internal_strconv_FormatInt.K1.eq_2 <| And.intro @G.internal_strconv_FormatInt.K2.eq_1 <| @G.internal_strconv_FormatInt.K2.eq_2) ()) <| pp (pp (@weakX [] [(101, 10)] []) <| pp (@weakX [] [(102, 10)] []) ()) <| pp () <| (pp (pp (rfl : @G.internal_strconv_FormatInt.K1 = _) ()) <| pp (pp (rfl : @G.internal_strconv_FormatInt.K2 = _) ()) ())
  exact drvM
theorem F.internal_strconv_Itoa {n : Nat} : ∀ {a_i1 : Int} {r : Txt}, G.internal_strconv_Itoa n a_i1 = some r → APure Go.Proofs.Tryz.prog 177 [.one (.c (.lit (.int .i64 a_i1)))] (.one (.c (.str r))) := by
  intro a_i1 r h
  refine fun_pure K.internal_strconv_Itoa (ofK ?_)
  unfold C.internal_strconv_Itoa
  rcases n with _ | n <;> simp only [G.internal_strconv_Itoa, reduceCtorEq] at h
  obtain ⟨zc, zg, zk, zu, ze, zj, zt⟩ := pp (pp @F.internal_strconv_FormatInt ()) <| pp () <| pp () <| pp () <| pp () <| pp () <| ()
  exact drv
theorem F.strconv_Itoa {n : Nat} : ∀ {a_i1 : Int} {r : Txt}, G.strconv_Itoa n a_i1 = some r → APure Go.Proofs.Tryz.prog 130 [.one (.c (.lit (.int .i64 a_i1)))] (.one (.c (.str r))) := by
  intro a_i1 r h
  refine fun_pure K.strconv_Itoa (ofK ?_)
  unfold C.strconv_Itoa
  rcases n with _ | n <;> simp only [G.strconv_Itoa, reduceCtorEq] at h
  obtain ⟨zc, zg, zk, zu, ze, zj, zt⟩ := pp (pp @F.internal_strconv_Itoa ()) <| pp () <| pp () <| pp () <| pp () <| pp () <| ()
  exact drv
theorem F.impl_kidIndex {n : Nat} : ∀ {a_n1 : NodeT} {a_step1 : Txt} {r : Int × Bool}, G.impl_kidIndex n a_n1 a_step1 = some r → APure Go.Proofs.Tryz.prog 107 [.agg [.c (.lit (.int .i64 a_n1.Kind)), .c (.lit (.int .i64 a_n1.Num)), .c (.str a_n1.Text), .c (.sl 1 (List.map cS a_n1.Names)), .c (.sl 5 (List.map NodeT.cells a_n1.Kids))], .one (.c (.str a_step1))] (.tup [(false, [.c (.lit (.int .i64 r.1))]), (false, [.c (.lit (.bool r.2))])]) := by
  intro a_n1 a_step1 r h
  refine fun_pure K.impl_kidIndex (ofK ?_)
  unfold C.impl_kidIndex
  rcases n with _ | n <;> simp only [G.impl_kidIndex, reduceCtorEq] at h
  obtain ⟨zc, zg, zk, zu, ze, zj, zt⟩ := pp (pp @F.slices_BinarySearch_string <| pp @F.strconv_Itoa ()) <| pp () <| pp (pp (@lopX (Int) _ (fun n x => G.impl_kidIndex.L1 n a_n1 a_step1 x) r (fun x => ASt.of [(1, .v true (.one (.c (.str a_step1)))), (21, .v true (.one (.c (.lit (.int .i64 ((a_n1.Kids.length : Nat) : Int)))))), (22, .v true (.one (.c (.lit (.int .i64 x)))))] [])) ()) <| pp () <| pp (pp (And.intro @G.impl_kidIndex.L1.eq_1 <| @G.impl_kidIndex.L1.eq_2) ()) <| pp (pp (@weakX [] [] []) ()) <| ()
  exact drv
theorem F.impl_findNode {n : Nat} : ∀ {a_n1 : NodeT} {a_path1 : List Txt} {r : NodeT × Bool}, G.impl_findNode n a_n1 a_path1 = some r → APure Go.Proofs.Tryz.prog 60 [.agg [.c (.lit (.int .i64 a_n1.Kind)), .c (.lit (.int .i64 a_n1.Num)), .c (.str a_n1.Text), .c (.sl 1 (List.map cS a_n1.Names)), .c (.sl 5 (List.map NodeT.cells a_n1.Kids))], .one (.c (.sl 1 (List.map cS a_path1)))] (.tup [(true, [.c (.lit (.int .i64 r.1.Kind)), .c (.lit (.int .i64 r.1.Num)), .c (.str r.1.Text), .c (.sl 1 (List.map cS r.1.Names)), .c (.sl 5 (List.map NodeT.cells r.1.Kids))]), (false, [.c (.lit (.bool r.2))])]) := by
  intro a_n1 a_path1 r h
  refine fun_pure K.impl_findNode (ofK ?_)
  unfold C.impl_findNode
  rcases n with _ | n <;> simp only [G.impl_findNode, reduceCtorEq] at h
  obtain ⟨zc, zg, zk, zu, ze, zj, zt⟩ := pp (pp @F.impl_kidIndex ()) <| pp () <| pp (pp (@lopX (Int × Int × Int × Txt × List Txt × List NodeT) _ (fun n x => G.impl_findNode.L1 n a_path1 x.1 x.2.1 x.2.2.1 x.2.2.2.1 x.2.2.2.2.1 x.2.2.2.2.2) r (fun x => ASt.of [(2, .v true (.one (.ptr 105 0))), (4, .v true (.one (.ptr 106 0))), (10, .v true (.one (.c (.sl 1 (List.map cS a_path1))))), (11, .v true (.one (.c (.lit (.int .i64 ((a_path1.length : Nat) : Int)))))), (12, .v true (.one (.c (.lit (.int .i64 x.1)))))] [(105, .var [.c (.lit (.int .i64 x.2.1)), .c (.lit (.int .i64 x.2.2.1)), .c (.str x.2.2.2.1), .c (.sl 1 (List.map cS x.2.2.2.2.1)), .c (.sl 5 (List.map NodeT.cells x.2.2.2.2.2))]), (106, .var [.c (.lit (.int .i64 0)), .c (.lit (.int .i64 0)), .c (.str []), .nsl 1, .nsl 5])])) ()) <| pp () <| pp (pp (And.intro @G.impl_findNode.L1.eq_1 <| @G.impl_findNode.L1.eq_2) ()) <| pp (pp (@weakX [] [(105, 10), (106, 11)] []) <| pp (@weakX [] [(105, 105), (106, 106)] []) ()) <| ()
  exact drv
theorem F.impl_isPath {n : Nat} : ∀ {a_path1 : List Txt} {r : Bool}, G.impl_isPath n a_path1 = some r → APure Go.Proofs.Tryz.prog 59 [.one (.c (.sl 1 (List.map cS a_path1)))] (.one (.c (.lit (.bool r)))) := by
  intro a_path1 r h
  refine fun_pure K.impl_isPath (ofK ?_)
  unfold C.impl_isPath
  rcases n with _ | n <;> simp only [G.impl_isPath, reduceCtorEq] at h
  obtain ⟨zc, zg, zk, zu, ze, zj, zt⟩ := pp (pp @F.impl_isPlainText ()) <| pp () <| pp (pp (@lopX (Int) _ (fun n x => G.impl_isPath.L1 n a_path1 x) r (fun x => ASt.of [(8, .v true (.one (.c (.sl 1 (List.map cS a_path1))))), (9, .v true (.one (.c (.lit (.int .i64 ((a_path1.length : Nat) : Int)))))), (10, .v true (.one (.c (.lit (.int .i64 x)))))] [])) ()) <| pp () <| pp (pp (And.intro @G.impl_isPath.L1.eq_1 <| @G.impl_isPath.L1.eq_2) ()) <| pp (pp (@weakX [] [] []) ()) <| ()
  exact drv
theorem F.math_bits_Len {n : Nat} : ∀ {a_x1 : Int} {r : Int}, G.math_bits_Len n a_x1 = some r → APure Go.Proofs.Tryz.prog 109 [.one (.c (.lit (.int .u64 a_x1)))] (.one (.c (.lit (.int .i64 r)))) := by
  intro a_x1 r h
  refine fun_pure K.math_bits_Len (ofK ?_)
  unfold C.math_bits_Len
  rcases n with _ | n <;> simp only [G.math_bits_Len, reduceCtorEq] at h
  obtain ⟨zc, zg, zk, zu, ze, zj, zt⟩ := pp (pp @F.math_bits_Len64 ()) <| pp () <| pp () <| pp () <| pp () <| pp () <| ()
  exact drv
theorem F.slices_insertionSortCmpFunc_impl_Entry__impl_IndexStore_1 {n : Nat} : ∀ {a_data1 : List EntryT} {a_a1 : Int} {a_b1 : Int} {r : List EntryT}, G.slices_insertionSortCmpFunc_impl_Entry__impl_IndexStore_1 n a_data1 a_a1 a_b1 = some r → ACalls Go.Proofs.Tryz.prog 154 [.one (.own 0 a_data1.length 6), .one (.c (.lit (.int .i64 a_a1))), .one (.c (.lit (.int .i64 a_b1))), .one (.fn 63 [])] [.dat 6 (List.map EntryT.cells a_data1)] (fun r1 b1 => r1 = .tup [] ∧ b1 = [.dat 6 (List.map EntryT.cells r)]) := by
  intro a_data1 a_a1 a_b1 r h
  refine fun_sound K.slices_insertionSortCmpFunc_impl_Entry__impl_IndexStore_1 (ofK ?_)
  unfold C.slices_insertionSortCmpFunc_impl_Entry
  rcases n with _ | n <;> simp only [G.slices_insertionSortCmpFunc_impl_Entry__impl_IndexStore_1, reduceCtorEq] at h
  obtain ⟨zc, zg, zk, zu, ze, zj, zt⟩ := pp (pp @F.impl_IndexStore_1 ()) <| pp () <| pp (pp (@lopX (Int × List EntryT) _ (fun n x => G.slices_insertionSortCmpFunc_impl_Entry__impl_IndexStore_1.L3 n a_a1 a_b1 x.1 x.2) r (fun x => ASt.of [(0, .v true (.one (.own 0 x.2.length 6))), (1, .v true (.one (.c (.lit (.int .i64 a_a1))))), (2, .v true (.one (.c (.lit (.int .i64 a_b1))))), (3, .v true (.one (.fn 63 []))), (8, .v true (.one (.c (.lit (.int .i64 x.1)))))] [(0, .dat 6 (List.map EntryT.cells x.2))])) <| pp (@lopX (Int × Int × List EntryT) _ (fun n x => G.slices_insertionSortCmpFunc_impl_Entry__impl_IndexStore_1.L4 n a_a1 a_b1 x.1 x.2.1 x.2.2) r (fun x => ASt.of [(0, .v true (.one (.own 0 x.2.2.length 6))), (1, .v true (.one (.c (.lit (.int .i64 a_a1))))), (2, .v true (.one (.c (.lit (.int .i64 a_b1))))), (3, .v true (.one (.fn 63 []))), (8, .v true (.one (.c (.lit (.int .i64 x.1))))), (9, .v true (.one (.c (.lit (.int .i64 x.2.1)))))] [(0, .dat 6 (List.map EntryT.cells x.2.2))])) ()) <| pp () <| pp (pp (And.intro @G.slices_insertionSortCmpFunc_impl_Entry__impl_IndexStore_1.L3.eq_1 <| And.intro @G.slices_insertionSortCmpFunc_impl_Entry__impl_IndexStore_1.L3.eq_2 <| And.intro @G.slices_insertionSortCmpFunc_impl_Entry__impl_IndexStore_1.L4.eq_1 <| @G.slices_insertionSortCmpFunc_impl_Entry__impl_IndexStore_1.L4.eq_2) ()) <| pp (pp (@weakX [] [(0, 0)] []) ()) <| (pp (@retX [] [(0, 0)] []) ())
  exact drv
theorem F.slices_pdqsortCmpFunc_impl_Entry__impl_IndexStore_1_n : ∀ (n : Nat), ∀ {a_data1 : List EntryT} {a_a1 : Int} {a_b1 : Int} {a_limit1 : Int} {r : List EntryT}, G.slices_pdqsortCmpFunc_impl_Entry__impl_IndexStore_1 n a_data1 a_a1 a_b1 a_limit1 = some r → ACalls Go.Proofs.Tryz.prog 108 [.one (.own 0 a_data1.length 6), .one (.c (.lit (.int .i64 a_a1))), .one (.c (.lit (.int .i64 a_b1))), .one (.c (.lit (.int .i64 a_limit1))), .one (.fn 63 [])] [.dat 6 (List.map EntryT.cells a_data1)] (fun r1 b1 => r1 = .tup [] ∧ b1 = [.dat 6 (List.map EntryT.cells r)]) := by
  intro n
  induction n using Nat.strongRecOn with | _ n ih =>
  intro a_data1 a_a1 a_b1 a_limit1 r h
  refine fun_sound K.slices_pdqsortCmpFunc_impl_Entry__impl_IndexStore_1 (ofK ?_)
  unfold C.slices_pdqsortCmpFunc_impl_Entry
  rcases n with _ | n <;> simp only [G.slices_pdqsortCmpFunc_impl_Entry__impl_IndexStore_1, reduceCtorEq] at h
  obtain ⟨zc, zg, zk, zu, ze, zj, zt⟩ := pp () <| pp (pp (pp @F.slices_insertionSortCmpFunc_impl_Entry__impl_IndexStore_1 (@cG [0] [])) ()) <| pp (pp (@lopX (Unit) _ (fun n x => G.slices_pdqsortCmpFunc_impl_Entry__impl_IndexStore_1.L2 n a_data1 a_a1 a_b1 a_limit1) r (fun x => ASt.of [(0, .v true (.one (.own 0 a_data1.length 6))), (1, .v true (.one (.c (.lit (.int .i64 a_a1))))), (2, .v true (.one (.c (.lit (.int .i64 a_b1))))), (3, .v true (.one (.c (.lit (.int .i64 a_limit1))))), (4, .v true (.one (.fn 63 []))), (10, .v true (.one (.c (.lit (.bool true))))), (11, .v true (.one (.c (.lit (.bool true)))))] [(0, .dat 6 (List.map EntryT.cells a_data1))])) ()) <| pp (pp (@cutX (Unit) _ (fun n x => G.slices_pdqsortCmpFunc_impl_Entry__impl_IndexStore_1.K3 n) r (fun x => ASt.of [(0, .v true (.one (.own 0 a_data1.length 6))), (1, .v true (.one (.c (.lit (.int .i64 a_a1))))), (2, .v true (.one (.c (.lit (.int .i64 a_b1))))), (3, .v true (.one (.c (.lit (.int .i64 a_limit1))))), (4, .v true (.one (.fn 63 []))), (10, .v true (.one (.c (.lit (.bool true))))), (11, .v true (.one (.c (.lit (.bool true))))), (12, .v true (.one (.c (.lit (.int .i64 (IntKind.wrap .i64 (a_b1 - a_a1))))))), (39, .v true (.one (.c (.lit (.bool false)))))] [(0, .dat 6 (List.map EntryT.cells a_data1))])) ()) <| pp (pp (And.intro @G.slices_pdqsortCmpFunc_impl_Entry__impl_IndexStore_1.L2.eq_1 <| And.intro @G.slices_pdqsortCmpFunc_impl_Entry__impl_IndexStore_1.L2.eq_2 <| And.intro @G.slices_pdqsortCmpFunc_impl_Entry__impl_IndexStore_1.K3.eq_1 <| @G.slices_pdqsortCmpFunc_impl_Entry__impl_IndexStore_1.K3.eq_2) ()) <| pp (pp (@weakX [] [(0, 0)] []) ()) <| (pp (@retX [] [(0, 0)] []) ())
  exact drv
theorem F.slices_pdqsortCmpFunc_impl_Entry__impl_IndexStore_1 {n : Nat} : ∀ {a_data1 : List EntryT} {a_a1 : Int} {a_b1 : Int} {a_limit1 : Int} {r : List EntryT}, G.slices_pdqsortCmpFunc_impl_Entry__impl_IndexStore_1 n a_data1 a_a1 a_b1 a_limit1 = some r → ACalls Go.Proofs.Tryz.prog 108 [.one (.own 0 a_data1.length 6), .one (.c (.lit (.int .i64 a_a1))), .one (.c (.lit (.int .i64 a_b1))), .one (.c (.lit (.int .i64 a_limit1))), .one (.fn 63 [])] [.dat 6 (List.map EntryT.cells a_data1)] (fun r1 b1 => r1 = .tup [] ∧ b1 = [.dat 6 (List.map EntryT.cells r)]) := F.slices_pdqsortCmpFunc_impl_Entry__impl_IndexStore_1_n n
theorem F.slices_SortFunc_impl_Entry__impl_IndexStore_1 {n : Nat} : ∀ {a_x1 : List EntryT} {r : List EntryT}, G.slices_SortFunc_impl_Entry__impl_IndexStore_1 n a_x1 = some r → ACalls Go.Proofs.Tryz.prog 62 [.one (.own 0 a_x1.length 6), .one (.fn 63 [])] [.dat 6 (List.map EntryT.cells a_x1)] (fun r1 b1 => r1 = .tup [] ∧ b1 = [.dat 6 (List.map EntryT.cells r)]) := by
  intro a_x1 r h
  refine fun_sound K.slices_SortFunc_impl_Entry__impl_IndexStore_1 (ofK ?_)
  unfold C.slices_SortFunc_impl_Entry
  rcases n with _ | n <;> simp only [G.slices_SortFunc_impl_Entry__impl_IndexStore_1, reduceCtorEq] at h
  obtain ⟨zc, zg, zk, zu, ze, zj, zt⟩ := pp (pp @F.math_bits_Len ()) <| pp (pp (pp @F.slices_pdqsortCmpFunc_impl_Entry__impl_IndexStore_1 (@cG [0] [])) ()) <| pp () <| pp () <| pp () <| pp () <| (pp (@retX [] [(0, 0)] []) ())
  exact drv
theorem F.impl_IndexStore {n : Nat} : ∀ {a_s1 : StoreT} {a_path1 : List Txt} {r : List EntryT}, G.impl_IndexStore n a_s1 a_path1 = some r → APure Go.Proofs.Tryz.prog 26 [.agg [.c (.sl 7 (List.map ItemT.cells a_s1.Items)), .c (.lit (.int .i64 a_s1.Clock))], .one (.c (.sl 1 (List.map cS a_path1)))] (.one (.c (.sl 6 (List.map EntryT.cells r)))) := by
  intro a_s1 a_path1 r h
  refine fun_pure K.impl_IndexStore (ofK ?_)
  unfold C.impl_IndexStore
  rcases n with _ | n <;> simp only [G.impl_IndexStore, reduceCtorEq] at h
  obtain ⟨zc, zg, zk, zu, ze, zj, zt⟩ := pp (pp @F.impl_ValidStore <| pp @F.impl_isPath <| pp @F.impl_findNode <| pp @F.impl_copyNode ()) <| pp (pp (pp @F.slices_SortFunc_impl_Entry__impl_IndexStore_1 (@cG [102] [])) ()) <| pp (pp (@lopX (Int × List EntryT) _ (fun n x => G.impl_IndexStore.L1 n a_s1 a_path1 x.1 x.2) r (fun x => ASt.of [(1, .v true (.one (.c (.sl 1 (List.map cS a_path1))))), (5, .v true (.one (.own 102 x.2.length 6))), (19, .v true (.one (.c (.sl 7 (List.map ItemT.cells a_s1.Items))))), (20, .v true (.one (.c (.lit (.int .i64 ((a_s1.Items.length : Nat) : Int)))))), (21, .v true (.one (.c (.lit (.int .i64 x.1)))))] [(102, .dat 6 (List.map EntryT.cells x.2))])) ()) <| pp () <| pp (pp (And.intro @G.impl_IndexStore.L1.eq_1 <| @G.impl_IndexStore.L1.eq_2) ()) <| pp (pp (@weakX [] [] [102]) <| pp (@weakX [] [(102, 14)] []) <| pp (@weakX [] [(102, 102)] []) ()) <| ()
  exact drv
theorem F.impl_copyItem {n : Nat} : ∀ {a_item1 : ItemT} {r : ItemT}, G.impl_copyItem n a_item1 = some r → APure Go.Proofs.Tryz.prog 119 [.agg [.c (.str a_item1.Name), .c (.lit (.int .i64 a_item1.Version)), .c (.lit (.int .i64 a_item1.Node.Kind)), .c (.lit (.int .i64 a_item1.Node.Num)), .c (.str a_item1.Node.Text), .c (.sl 1 (List.map cS a_item1.Node.Names)), .c (.sl 5 (List.map NodeT.cells a_item1.Node.Kids))]] (.agg [.c (.str r.Name), .c (.lit (.int .i64 r.Version)), .c (.lit (.int .i64 r.Node.Kind)), .c (.lit (.int .i64 r.Node.Num)), .c (.str r.Node.Text), .c (.sl 1 (List.map cS r.Node.Names)), .c (.sl 5 (List.map NodeT.cells r.Node.Kids))]) := by
  intro a_item1 r h
  refine fun_pure K.impl_copyItem (ofK ?_)
  unfold C.impl_copyItem
  rcases n with _ | n <;> simp only [G.impl_copyItem, reduceCtorEq] at h
  obtain ⟨zc, zg, zk, zu, ze, zj, zt⟩ := pp (pp @F.impl_copyNode ()) <| pp () <| pp () <| pp () <| pp () <| pp () <| ()
  exact drv
theorem F.impl_copyStore_o {n : Nat} : ∀ {a_s1 : StoreT} {r : StoreT}, G.impl_copyStore n a_s1 = some r → ACalls Go.Proofs.Tryz.prog 73 [.agg [.c (.sl 7 (List.map ItemT.cells a_s1.Items)), .c (.lit (.int .i64 a_s1.Clock))]] [] (fun r1 b1 => r1 = .agg [.own 0 r.Items.length 7, .c (.lit (.int .i64 r.Clock))] ∧ b1 = [.dat 7 (List.map ItemT.cells r.Items)]) := by
  intro a_s1 r h
  refine fun_sound K.impl_copyStore (ofK ?_)
  unfold C.impl_copyStore
  rcases n with _ | n <;> simp only [G.impl_copyStore, reduceCtorEq] at h
  obtain ⟨zc, zg, zk, zu, ze, zj, zt⟩ := pp (pp @F.impl_copyItem ()) <| pp () <| pp (pp (@lopX (Int × List ItemT) _ (fun n x => G.impl_copyStore.L1 n a_s1 x.1 x.2) r (fun x => ASt.of [(2, .v true (.one (.ptr 107 0))), (3, .v true (.one (.ptr 108 0))), (19, .v true (.one (.c (.sl 7 (List.map ItemT.cells a_s1.Items))))), (20, .v true (.one (.c (.lit (.int .i64 ((a_s1.Items.length : Nat) : Int)))))), (21, .v true (.one (.c (.lit (.int .i64 x.1)))))] [(107, .var [.nsl 7, .c (.lit (.int .i64 0))]), (108, .var [.own 109 x.2.length 7, .c (.lit (.int .i64 a_s1.Clock))]), (109, .dat 7 (List.map ItemT.cells x.2))])) ()) <| pp () <| pp (pp (And.intro @G.impl_copyStore.L1.eq_1 <| @G.impl_copyStore.L1.eq_2) ()) <| pp (pp (@weakX [] [(107, 11), (108, 12), (109, 13)] []) <| pp (@weakX [] [(107, 107), (108, 108), (109, 109)] []) ()) <| (pp (@retX [] [(0, 109)] []) <| pp (@retX [] [] [0]) ())
  exact drv
theorem F.impl_findItem_1 {n : Nat} : ∀ {a_item1 : ItemT} {a_name1 : Txt} {r : Int}, G.impl_findItem_1 n a_item1 a_name1 = some r → APure Go.Proofs.Tryz.prog 171 [.agg [.c (.str a_item1.Name), .c (.lit (.int .i64 a_item1.Version)), .c (.lit (.int .i64 a_item1.Node.Kind)), .c (.lit (.int .i64 a_item1.Node.Num)), .c (.str a_item1.Node.Text), .c (.sl 1 (List.map cS a_item1.Node.Names)), .c (.sl 5 (List.map NodeT.cells a_item1.Node.Kids))], .one (.c (.str a_name1))] (.one (.c (.lit (.int .i64 r)))) := by
  intro a_item1 a_name1 r h
  refine fun_pure K.impl_findItem_1 (ofK ?_)
  unfold C.impl_findItem_1
  rcases n with _ | n <;> simp only [G.impl_findItem_1, reduceCtorEq] at h
  obtain ⟨zc, zg, zk, zu, ze, zj, zt⟩ := pp (pp @F.strings_Compare ()) <| pp () <| pp () <| pp () <| pp () <| pp () <| ()
  exact drv
theorem F.slices_BinarySearchFunc_impl_Item_string__impl_findItem_1 {n : Nat} : ∀ {a_x1 : List ItemT} {a_target1 : Txt} {r : Int × Bool}, G.slices_BinarySearchFunc_impl_Item_string__impl_findItem_1 n a_x1 a_target1 = some r → APure Go.Proofs.Tryz.prog 170 [.one (.c (.sl 7 (List.map ItemT.cells a_x1))), .one (.c (.str a_target1)), .one (.fn 171 [])] (.tup [(false, [.c (.lit (.int .i64 r.1))]), (false, [.c (.lit (.bool r.2))])]) := by
  intro a_x1 a_target1 r h
  refine fun_pure K.slices_BinarySearchFunc_impl_Item_string__impl_findItem_1 (ofK ?_)
  unfold C.slices_BinarySearchFunc_impl_Item_string
  rcases n with _ | n <;> simp only [G.slices_BinarySearchFunc_impl_Item_string__impl_findItem_1, reduceCtorEq] at h
  obtain ⟨zc, zg, zk, zu, ze, zj, zt⟩ := pp (pp @F.impl_findItem_1 ()) <| pp () <| pp (pp (@lopX (Int × Int) _ (fun n x => G.slices_BinarySearchFunc_impl_Item_string__impl_findItem_1.L1 n a_x1 a_target1 x.1 x.2) r (fun x => ASt.of [(0, .v true (.one (.c (.sl 7 (List.map ItemT.cells a_x1))))), (1, .v true (.one (.c (.str a_target1)))), (2, .v true (.one (.fn 171 []))), (8, .v true (.one (.c (.lit (.int .i64 ((a_x1.length : Nat) : Int)))))), (9, .v true (.one (.c (.lit (.int .i64 x.1))))), (10, .v true (.one (.c (.lit (.int .i64 x.2)))))] [])) ()) <| pp () <| pp (pp (And.intro @G.slices_BinarySearchFunc_impl_Item_string__impl_findItem_1.L1.eq_1 <| @G.slices_BinarySearchFunc_impl_Item_string__impl_findItem_1.L1.eq_2) ()) <| pp (pp (@weakX [] [] []) ()) <| ()
  exact drv
theorem F.impl_findItem {n : Nat} : ∀ {a_items1 : List ItemT} {a_name1 : Txt} {r : Int × Bool}, G.impl_findItem n a_items1 a_name1 = some r → APure Go.Proofs.Tryz.prog 120 [.one (.c (.sl 7 (List.map ItemT.cells a_items1))), .one (.c (.str a_name1))] (.tup [(false, [.c (.lit (.int .i64 r.1))]), (false, [.c (.lit (.bool r.2))])]) := by
  intro a_items1 a_name1 r h
  refine fun_pure K.impl_findItem (ofK ?_)
  unfold C.impl_findItem
  rcases n with _ | n <;> simp only [G.impl_findItem, reduceCtorEq] at h
  obtain ⟨zc, zg, zk, zu, ze, zj, zt⟩ := pp () <| pp (pp (pp @F.slices_BinarySearchFunc_impl_Item_string__impl_findItem_1 (@cG [] [])) ()) <| pp () <| pp () <| pp () <| pp () <| ()
  exact drv
end Go.Ab
end
