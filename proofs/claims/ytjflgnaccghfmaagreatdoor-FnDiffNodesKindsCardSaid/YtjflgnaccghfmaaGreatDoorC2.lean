/- The law FnDiffNodesKinds of the package laws answers true for every code of bytes and leaves it as it is: the abstract interpreter of the program, the printed functions and proofs, the laws of the data, the statement (part 4 of the proof). Conditions: none but what the row lists. -/
import Derived.Test.YtjflgnaccghfmaaGreatDoorC1
set_option linter.unusedVariables false
set_option linter.unusedSimpArgs false
section
namespace Go.Ab
open Go
set_option maxRecDepth 100000
set_option maxHeartbeats 4000000
set_option linter.unusedVariables false
set_option linter.unusedSimpArgs false
def C.spec_apply : ACode := (.seq (.reg [ zA 2 (.box 10 (.t 0)), zA 3 (.box 11 (.t 1)), zA 4 (.alloc 12 [.c (.lit (.int .i64 0)), .c (.lit (.int .i64 0)), .c (.str []), .nsl 1, .nsl 5]), zA 5 (.mv (.k (.c (.lit (.bool false)))))] [2, 3, 4]) (.seq (.seq (.reg [ zA 11 (.faddr 0 (.t 3)), zA 12 (.load false 1 (.t 11))] [2, 3, 4, 12]) (.block 0 (.seq (.reg [ zA 14 (.bin .eql (.t 12) (.k (.c (.lit (.int .i64 1))))), zM 13 14] [2, 3, 4, 12, 13]) (.cond (.t 13) (.seq (.reg [ zA 15 (.load true 5 (.t 2)), zA 16 (.faddr 1 (.t 3)), zA 17 (.load false 1 (.t 16)), zA 18 (.faddr 3 (.t 3)), zA 19 (.load true 5 (.t 18)), ⟨none, some 20, .call 124 [.t 15, .t 17, .t 19]⟩, zA 21 (.extract (.t 20) 0), zA 22 (.extract (.t 20) 1), zS (.store true 5 (.t 4) (.t 21)), zM 5 22] [4, 5]) .ret) (.seq (.reg [ zA 24 (.bin .eql (.t 12) (.k (.c (.lit (.int .i64 2))))), zM 23 24] [2, 3, 4, 12, 23]) (.cond (.t 23) (.seq (.reg [ zA 25 (.load true 5 (.t 2)), zA 26 (.faddr 1 (.t 3)), zA 27 (.load false 1 (.t 26)), ⟨none, some 28, .call 90 [.t 25, .t 27]⟩, zA 29 (.extract (.t 28) 0), zA 30 (.extract (.t 28) 1), zS (.store true 5 (.t 4) (.t 29)), zM 5 30] [4, 5]) .ret) (.seq (.reg [ zA 32 (.bin .eql (.t 12) (.k (.c (.lit (.int .i64 3))))), zM 31 32] [2, 3, 4, 31]) (.cond (.t 31) (.seq (.reg [ zA 33 (.load true 5 (.t 2)), zA 34 (.faddr 1 (.t 3)), zA 35 (.load false 1 (.t 34)), zA 36 (.faddr 3 (.t 3)), zA 37 (.load true 5 (.t 36)), ⟨none, some 38, .call 127 [.t 33, .t 35, .t 37]⟩, zA 39 (.extract (.t 38) 0), zA 40 (.extract (.t 38) 1), zS (.store true 5 (.t 4) (.t 39)), zM 5 40] [4, 5]) .ret) .skip)))))))) (.seq (.reg [ zA 41 (.faddr 2 (.t 3)), zA 42 (.load false 1 (.t 41)), zM 6 42] [2, 3, 4, 6]) (.cut (.seq (.reg [ zA 43 (.faddr 0 (.t 3)), zA 44 (.load false 1 (.t 43)), zA 45 (.bin .eql (.t 44) (.k (.c (.lit (.int .i64 6)))))] [2, 3, 4, 6, 45]) (.cond (.t 45) (.reg [ zA 46 (.faddr 1 (.t 3)), zA 47 (.load false 1 (.t 46)), zM 6 47] [2, 3, 4, 6]) .skip)) (.seq (.reg [ zA 49 (.load true 5 (.t 2)), zM 50 6, ⟨none, some 51, .call 115 [.t 49, .t 50]⟩, zM 48 51, zA 52 (.extract (.t 48) 0), zA 53 (.extract (.t 48) 1), zA 7 (.alloc 13 [.c (.lit (.int .i64 0)), .c (.lit (.int .i64 0)), .c (.str []), .nsl 1, .nsl 5]), zS (.store true 5 (.t 7) (.t 52)), zM 8 53] [2, 3, 4, 7, 8]) (.seq (.seq (.reg [ zM 54 8, zA 55 (.not (.t 54))] [2, 3, 4, 7, 55]) (.cond (.t 55) (.seq (.reg [ zA 56 (.build [.c (.lit (.int .i64 0)), .c (.lit (.int .i64 0)), .c (.str []), .nsl 1, .nsl 5] []), zS (.store true 5 (.t 4) (.t 56)), zA 5 (.mv (.k (.c (.lit (.bool false)))))] [4, 5]) .ret) .skip)) (.seq (.seq (.reg [ zA 57 (.faddr 0 (.t 3)), zA 58 (.load false 1 (.t 57))] [2, 3, 4, 7, 58]) (.block 1 (.seq (.reg [ zA 60 (.bin .eql (.t 58) (.k (.c (.lit (.int .i64 6))))), zM 59 60] [2, 3, 4, 7, 58, 59]) (.cond (.t 59) (.seq (.regD [ (zA 61 (.load true 5 (.t 2)), []), (zA 62 (.load true 5 (.t 7)), []), (zA 63 (.faddr 3 (.t 3)), []), (zA 64 (.load true 5 (.t 63)), [2]), (⟨none, some 65, .call 84 [.t 62, .t 64]⟩, [1, 2, 3]), (zS (.store true 5 (.t 4) (.t 61)), [0, 1, 2, 3, 4]), (zM 5 65, [0, 1, 2, 3, 4, 5])] [4, 5]) .ret) (.seq (.reg [ zA 67 (.bin .eql (.t 58) (.k (.c (.lit (.int .i64 5))))), zM 66 67] [2, 3, 4, 7, 66]) (.cond (.t 66) (.seq (.reg [ zA 68 (.load true 5 (.t 2)), zA 69 (.faddr 1 (.t 3)), zA 70 (.load false 1 (.t 69)), zA 71 (.load true 5 (.t 7)), ⟨none, some 72, .call 124 [.t 68, .t 70, .t 71]⟩, zA 73 (.extract (.t 72) 0), zA 74 (.extract (.t 72) 1), zS (.store true 5 (.t 4) (.t 73)), zM 5 74] [4, 5]) .ret) .skip)))))) (.seq (.seq (.reg [ zA 75 (.faddr 1 (.t 3)), zA 76 (.load false 1 (.t 75)), zA 77 (.faddr 2 (.t 3)), zA 78 (.load false 1 (.t 77)), ⟨none, some 79, .call 189 [.t 76, .t 78]⟩] [2, 3, 4, 7, 79]) (.cond (.t 79) (.seq (.regD [ (zA 80 (.load true 5 (.t 2)), []), (⟨none, some 81, .call 88 [.t 80]⟩, [0]), (zA 82 (.faddr 1 (.t 3)), []), (zA 83 (.load false 1 (.t 82)), [2]), (zA 84 (.len (.t 83)), [2, 3]), (zA 85 (.faddr 2 (.t 3)), []), (zA 86 (.load false 1 (.t 85)), [5]), (zA 87 (.len (.t 86)), [5, 6]), (zA 88 (.bin .eql (.t 84) (.t 87)), [2, 3, 4, 5, 6, 7]), (zS (.store true 5 (.t 4) (.t 81)), [0, 1]), (zM 5 88, [0, 1, 2, 3, 4, 5, 6, 7, 8, 9])] [4, 5]) .ret) .skip)) (.seq (.reg [ zA 90 (.load true 5 (.t 2)), zA 91 (.faddr 2 (.t 3)), zA 92 (.load false 1 (.t 91)), ⟨none, some 93, .call 90 [.t 90, .t 92]⟩, zM 89 93, zA 94 (.extract (.t 89) 0), zA 95 (.extract (.t 89) 1), zA 9 (.alloc 14 [.c (.lit (.int .i64 0)), .c (.lit (.int .i64 0)), .c (.str []), .nsl 1, .nsl 5]), zS (.store true 5 (.t 9) (.t 94)), zM 10 95] [3, 4, 7, 9, 10]) (.seq (.seq (.reg [ zM 96 10, zA 97 (.not (.t 96))] [3, 4, 7, 9, 97]) (.cond (.t 97) (.seq (.reg [ zA 98 (.build [.c (.lit (.int .i64 0)), .c (.lit (.int .i64 0)), .c (.str []), .nsl 1, .nsl 5] []), zS (.store true 5 (.t 4) (.t 98)), zA 5 (.mv (.k (.c (.lit (.bool false)))))] [4, 5]) .ret) .skip)) (.seq (.reg [ zA 99 (.load true 5 (.t 9)), zA 100 (.faddr 1 (.t 3)), zA 101 (.load false 1 (.t 100)), zA 102 (.load true 5 (.t 7)), ⟨none, some 103, .call 124 [.t 99, .t 101, .t 102]⟩, zA 104 (.extract (.t 103) 0), zA 105 (.extract (.t 103) 1), zS (.store true 5 (.t 4) (.t 104)), zM 5 105] [4, 5]) .ret)))))))))))
theorem K.spec_apply : chkF Go.Proofs.Tryz.prog 148 2 0 C.spec_apply [.cell 4 true 5, .tmp 5] = true := by kernel_rfl
def C.spec_count : ACode := (.seq (.reg [ zA 1 (.box 10 (.t 0)), zA 2 (.mv (.k (.c (.lit (.int .i64 0)))))] [1]) (.seq (.reg [ zA 3 (.mv (.k (.c (.lit (.int .i64 1)))))] [1, 3]) (.seq (.seq (.reg [ zA 4 (.mv (.k (.c (.lit (.int .i64 0)))))] [1, 3, 4]) (.block 0 (.loop (.seq (.seq (.reg [ zM 5 4, zA 6 (.faddr 4 (.t 1)), zA 7 (.load false 1 (.t 6)), zA 8 (.len (.t 7)), zA 9 (.bin .lss (.t 5) (.t 8))] [1, 3, 4, 9]) (.cond (.t 9) .skip (.exit 0))) (.seq (.block 1 (.reg [ zM 12 3, zA 13 (.faddr 4 (.t 1)), zA 14 (.load false 1 (.t 13)), zM 15 4, zA 16 (.iaddr 5 (.t 14) (.t 15)), zA 17 (.load true 5 (.t 16)), ⟨none, some 18, .call 83 [.t 17]⟩, zA 19 (.bin .add (.t 12) (.t 18)), zM 3 19] [1, 3, 4])) (.reg [ zM 10 4, zA 11 (.bin .add (.t 10) (.k (.c (.lit (.int .i64 1))))), zM 4 11] [1, 3, 4])))))) (.seq (.reg [ zM 20 3, zM 2 20] [2]) .ret))))
theorem K.spec_count : chkF Go.Proofs.Tryz.prog 83 1 0 C.spec_count [.tmp 2] = true := by kernel_rfl
def C.spec_inRange : ACode := (.seq (.reg [ zA 6 (.mv (.k (.c (.lit (.bool false)))))] [0, 1, 2]) (.seq (.reg [ zM 7 1, zM 8 0, zA 9 (.bin .leq (.t 7) (.t 8)), zM 10 9, zG 10 true 11 (.mv (.t 0)), zG 10 true 12 (.mv (.t 2)), zG 10 true 13 (.bin .leq (.t 11) (.t 12)), zA 14 (.pick (.t 10) (.t 13) (.k (.c (.lit (.bool false))))), zM 6 14] [6]) .ret))
theorem K.spec_inRange : chkF Go.Proofs.Tryz.prog 113 3 0 C.spec_inRange [.tmp 6] = true := by kernel_rfl
def C.spec_validText : ACode := (.seq (.reg [ zA 2 (.mv (.k (.c (.lit (.bool false)))))] [0]) (.seq (.seq (.reg [ zA 3 (.mv (.k (.c (.lit (.int .i64 0)))))] [0, 3]) (.block 0 (.loop (.seq (.seq (.reg [ zM 4 3, zM 5 0, zA 6 (.lens (.t 5)), zA 7 (.bin .lss (.t 4) (.t 6))] [0, 3, 7]) (.cond (.t 7) .skip (.exit 0))) (.seq (.block 1 (.seq (.reg [ zM 10 0, zM 11 3, zA 12 (.idxs (.t 10) (.t 11)), zA 13 (.cint .i64 (.t 12)), ⟨none, some 14, .call 113 [.t 13, .k (.c (.lit (.int .i64 32))), .k (.c (.lit (.int .i64 126)))]⟩, zA 15 (.not (.t 14))] [0, 3, 15]) (.cond (.t 15) (.seq (.reg [ zA 2 (.mv (.k (.c (.lit (.bool false)))))] [2]) .ret) .skip))) (.reg [ zM 8 3, zA 9 (.bin .add (.t 8) (.k (.c (.lit (.int .i64 1))))), zM 3 9] [0, 3])))))) (.seq (.reg [ zM 16 0, zA 17 (.lens (.t 16)), zA 18 (.bin .leq (.t 17) (.k (.c (.lit (.int .i64 12))))), zM 2 18] [2]) .ret)))
theorem K.spec_validText : chkF Go.Proofs.Tryz.prog 114 1 0 C.spec_validText [.tmp 2] = true := by kernel_rfl
def C.spec_names : ACode := (.seq (.reg [ zA 2 (.mv (.k (.c (.lit (.bool false)))))] [0]) (.seq (.seq (.reg [ zA 3 (.mv (.k (.c (.lit (.int .i64 0)))))] [0, 3]) (.block 0 (.loop (.seq (.seq (.reg [ zM 4 3, zM 5 0, zA 6 (.len (.t 5)), zA 7 (.bin .lss (.t 4) (.t 6))] [0, 3, 7]) (.cond (.t 7) .skip (.exit 0))) (.seq (.block 1 (.seq (.regD [ (zM 10 0, []), (zM 11 3, []), (zA 12 (.iaddr 1 (.t 10) (.t 11)), [0, 1]), (zA 13 (.load false 1 (.t 12)), [0, 1, 2]), (⟨none, some 14, .call 114 [.t 13]⟩, [0, 1, 2, 3]), (zA 15 (.not (.t 14)), [0, 1, 2, 3, 4]), (zM 16 15, [0, 1, 2, 3, 4, 5]), (zG 16 false 17 (.mv (.t 3)), [0, 1, 2, 3, 4, 5, 6]), (zG 16 false 18 (.bin .gtr (.t 17) (.k (.c (.lit (.int .i64 0))))), [0, 1, 2, 3, 4, 5, 6, 7]), (zG 16 false 19 (.mv (.t 18)), [0, 1, 2, 3, 4, 5, 6, 7, 8]), (zG 19 true 20 (.mv (.t 0)), [0, 1, 2, 3, 4, 5, 6, 7, 8, 9]), (zG 19 true 21 (.mv (.t 3)), [0, 1, 2, 3, 4, 5, 6, 7, 8, 9]), (zG 19 true 22 (.iaddr 1 (.t 20) (.t 21)), [0, 1, 2, 3, 4, 5, 6, 7, 8, 9, 10, 11]), (zG 19 true 23 (.load false 1 (.t 22)), [0, 1, 2, 3, 4, 5, 6, 7, 8, 9, 10, 11, 12]), (zG 19 true 24 (.mv (.t 0)), [0, 1, 2, 3, 4, 5, 6, 7, 8, 9]), (zG 19 true 25 (.mv (.t 3)), [0, 1, 2, 3, 4, 5, 6, 7, 8, 9]), (zG 19 true 26 (.bin .sub (.t 25) (.k (.c (.lit (.int .i64 1))))), [0, 1, 2, 3, 4, 5, 6, 7, 8, 9, 15]), (zG 19 true 27 (.iaddr 1 (.t 24) (.t 26)), [0, 1, 2, 3, 4, 5, 6, 7, 8, 9, 14, 15, 16]), (zG 19 true 28 (.load false 1 (.t 27)), [0, 1, 2, 3, 4, 5, 6, 7, 8, 9, 14, 15, 16, 17]), (zG 19 true 29 (.bin .leq (.t 23) (.t 28)), [0, 1, 2, 3, 4, 5, 6, 7, 8, 9, 10, 11, 12, 13, 14, 15, 16, 17, 18]), (zG 16 false 30 (.pick (.t 19) (.t 29) (.k (.c (.lit (.bool false))))), [0, 1, 2, 3, 4, 5, 6, 7, 8, 9, 10, 11, 12, 13, 14, 15, 16, 17, 18, 19]), (zA 31 (.pick (.t 16) (.k (.c (.lit (.bool true)))) (.t 30)), [0, 1, 2, 3, 4, 5, 6, 7, 8, 9, 10, 11, 12, 13, 14, 15, 16, 17, 18, 19, 20])] [0, 3, 31]) (.cond (.t 31) (.seq (.reg [ zA 2 (.mv (.k (.c (.lit (.bool false)))))] [2]) .ret) .skip))) (.reg [ zM 8 3, zA 9 (.bin .add (.t 8) (.k (.c (.lit (.int .i64 1))))), zM 3 9] [0, 3])))))) (.seq (.reg [ zA 2 (.mv (.k (.c (.lit (.bool true)))))] [2]) .ret)))
theorem K.spec_names : chkF Go.Proofs.Tryz.prog 133 1 0 C.spec_names [.tmp 2] = true := by kernel_rfl
def C.spec_kids : ACode := (.seq (.reg [ zA 2 (.box 10 (.t 0)), zA 4 (.mv (.k (.c (.lit (.bool false)))))] [1, 2]) (.seq (.seq (.reg [ zA 5 (.mv (.k (.c (.lit (.int .i64 0)))))] [1, 2, 5]) (.block 0 (.loop (.seq (.seq (.reg [ zM 6 5, zA 7 (.faddr 4 (.t 2)), zA 8 (.load false 1 (.t 7)), zA 9 (.len (.t 8)), zA 10 (.bin .lss (.t 6) (.t 9))] [1, 2, 5, 10]) (.cond (.t 10) .skip (.exit 0))) (.seq (.block 1 (.seq (.reg [ zA 13 (.faddr 4 (.t 2)), zA 14 (.load false 1 (.t 13)), zM 15 5, zA 16 (.iaddr 5 (.t 14) (.t 15)), zA 17 (.load true 5 (.t 16)), zM 18 1, zA 19 (.bin .sub (.t 18) (.k (.c (.lit (.int .i64 1))))), ⟨none, some 20, .call 82 [.t 17, .t 19]⟩, zA 21 (.not (.t 20))] [1, 2, 5, 21]) (.cond (.t 21) (.seq (.reg [ zA 4 (.mv (.k (.c (.lit (.bool false)))))] [4]) .ret) .skip))) (.reg [ zM 11 5, zA 12 (.bin .add (.t 11) (.k (.c (.lit (.int .i64 1))))), zM 5 12] [1, 2, 5])))))) (.seq (.reg [ zA 4 (.mv (.k (.c (.lit (.bool true)))))] [4]) .ret)))
theorem K.spec_kids : chkF Go.Proofs.Tryz.prog 132 2 0 C.spec_kids [.tmp 4] = true := by kernel_rfl
def C.spec_shape : ACode := (.seq (.reg [ zA 2 (.box 10 (.t 0)), zA 4 (.mv (.k (.c (.lit (.bool false)))))] [1, 2]) (.cut (.seq (.reg [ zM 5 1, zA 6 (.bin .eql (.t 5) (.k (.c (.lit (.int .i64 0))))), zM 7 6, zG 7 false 8 (.faddr 4 (.t 2)), zG 7 false 9 (.load false 1 (.t 8)), zG 7 false 10 (.len (.t 9)), zG 7 false 11 (.bin .gtr (.t 10) (.k (.c (.lit (.int .i64 6))))), zA 12 (.pick (.t 7) (.k (.c (.lit (.bool true)))) (.t 11)), zM 13 12, zG 13 false 14 (.faddr 0 (.t 2)), zG 13 false 15 (.load false 1 (.t 14)), zG 13 false 16 (.bin .neq (.t 15) (.k (.c (.lit (.int .i64 1))))), zG 13 false 17 (.mv (.t 16)), zG 17 true 18 (.faddr 1 (.t 2)), zG 17 true 19 (.load false 1 (.t 18)), zG 17 true 20 (.bin .neq (.t 19) (.k (.c (.lit (.int .i64 0))))), zG 13 false 21 (.pick (.t 17) (.t 20) (.k (.c (.lit (.bool false))))), zA 22 (.pick (.t 13) (.k (.c (.lit (.bool true)))) (.t 21)), zM 23 22, zG 23 false 24 (.faddr 0 (.t 2)), zG 23 false 25 (.load false 1 (.t 24)), zG 23 false 26 (.bin .neq (.t 25) (.k (.c (.lit (.int .i64 2))))), zG 23 false 27 (.mv (.t 26)), zG 27 true 28 (.faddr 2 (.t 2)), zG 27 true 29 (.load false 1 (.t 28)), zG 27 true 30 (.bin .neq (.t 29) (.k (.c (.str [])))), zG 23 false 31 (.pick (.t 27) (.t 30) (.k (.c (.lit (.bool false))))), zA 32 (.pick (.t 23) (.k (.c (.lit (.bool true)))) (.t 31)), zM 33 32, zG 33 false 34 (.faddr 0 (.t 2)), zG 33 false 35 (.load false 1 (.t 34)), zG 33 false 36 (.bin .neq (.t 35) (.k (.c (.lit (.int .i64 4))))), zG 33 false 37 (.mv (.t 36)), zG 37 true 38 (.faddr 3 (.t 2)), zG 37 true 39 (.load false 1 (.t 38)), zG 37 true 40 (.len (.t 39)), zG 37 true 41 (.bin .gtr (.t 40) (.k (.c (.lit (.int .i64 0))))), zG 33 false 42 (.pick (.t 37) (.t 41) (.k (.c (.lit (.bool false))))), zA 43 (.pick (.t 33) (.k (.c (.lit (.bool true)))) (.t 42)), zM 44 43, zG 44 false 45 (.faddr 0 (.t 2)), zG 44 false 46 (.load false 1 (.t 45)), zG 44 false 47 (.bin .lss (.t 46) (.k (.c (.lit (.int .i64 3))))), zG 44 false 48 (.mv (.t 47)), zG 48 true 49 (.faddr 4 (.t 2)), zG 48 true 50 (.load false 1 (.t 49)), zG 48 true 51 (.len (.t 50)), zG 48 true 52 (.bin .gtr (.t 51) (.k (.c (.lit (.int .i64 0))))), zG 44 false 53 (.pick (.t 48) (.t 52) (.k (.c (.lit (.bool false))))), zA 54 (.pick (.t 44) (.k (.c (.lit (.bool true)))) (.t 53))] [1, 2, 54]) (.cond (.t 54) (.seq (.reg [ zA 4 (.mv (.k (.c (.lit (.bool false)))))] [4]) .ret) .skip)) (.seq (.seq (.reg [ zA 55 (.faddr 0 (.t 2)), zA 56 (.load false 1 (.t 55))] [1, 2, 56]) (.block 0 (.seq (.reg [ zA 58 (.bin .eql (.t 56) (.k (.c (.lit (.int .i64 1))))), zM 57 58] [1, 2, 56, 57]) (.cond (.t 57) (.seq (.reg [ zA 59 (.faddr 1 (.t 2)), zA 60 (.load false 1 (.t 59)), ⟨none, some 61, .call 113 [.t 60, .k (.c (.lit (.int .i64 (-999999)))), .k (.c (.lit (.int .i64 999999)))]⟩, zM 4 61] [4]) .ret) (.seq (.reg [ zA 63 (.bin .eql (.t 56) (.k (.c (.lit (.int .i64 2))))), zM 62 63] [1, 2, 56, 62]) (.cond (.t 62) (.seq (.reg [ zA 64 (.faddr 2 (.t 2)), zA 65 (.load false 1 (.t 64)), ⟨none, some 66, .call 114 [.t 65]⟩, zM 4 66] [4]) .ret) (.seq (.reg [ zA 68 (.bin .eql (.t 56) (.k (.c (.lit (.int .i64 3))))), zM 67 68] [1, 2, 56, 67]) (.cond (.t 67) (.seq (.reg [ zA 69 (.load true 5 (.t 2)), zM 70 1, ⟨none, some 71, .call 132 [.t 69, .t 70]⟩, zM 4 71] [4]) .ret) (.seq (.reg [ zA 73 (.bin .eql (.t 56) (.k (.c (.lit (.int .i64 4))))), zM 72 73] [1, 2, 72]) (.cond (.t 72) (.seq (.reg [ zA 74 (.faddr 3 (.t 2)), zA 75 (.load false 1 (.t 74)), zA 76 (.len (.t 75)), zA 77 (.faddr 4 (.t 2)), zA 78 (.load false 1 (.t 77)), zA 79 (.len (.t 78)), zA 80 (.bin .eql (.t 76) (.t 79)), zM 81 80, zG 81 true 82 (.faddr 3 (.t 2)), zG 81 true 83 (.load false 1 (.t 82)), ⟨(some (81, true)), some 84, .call 133 [.t 83]⟩, zA 85 (.pick (.t 81) (.t 84) (.k (.c (.lit (.bool false))))), zM 86 85, zG 86 true 87 (.load true 5 (.t 2)), zG 86 true 88 (.mv (.t 1)), ⟨(some (86, true)), some 89, .call 132 [.t 87, .t 88]⟩, zA 90 (.pick (.t 86) (.t 89) (.k (.c (.lit (.bool false))))), zM 4 90] [4]) .ret) .skip)))))))))) (.seq (.reg [ zA 91 (.faddr 0 (.t 2)), zA 92 (.load false 1 (.t 91)), zA 93 (.bin .eql (.t 92) (.k (.c (.lit (.int .i64 0))))), zM 4 93] [4]) .ret))))
theorem K.spec_shape : chkF Go.Proofs.Tryz.prog 82 2 0 C.spec_shape [.tmp 4] = true := by kernel_rfl
def C.spec_validNode : ACode := (.seq (.reg [ zA 1 (.box 10 (.t 0)), zA 2 (.mv (.k (.c (.lit (.bool false)))))] [1]) (.seq (.reg [ zA 3 (.load true 5 (.t 1)), ⟨none, some 4, .call 82 [.t 3, .k (.c (.lit (.int .i64 5)))]⟩, zM 5 4, zG 5 true 6 (.load true 5 (.t 1)), ⟨(some (5, true)), some 7, .call 83 [.t 6]⟩, zG 5 true 8 (.bin .leq (.t 7) (.k (.c (.lit (.int .i64 40))))), zA 9 (.pick (.t 5) (.t 8) (.k (.c (.lit (.bool false))))), zM 2 9] [2]) .ret))
theorem K.spec_validNode : chkF Go.Proofs.Tryz.prog 40 1 0 C.spec_validNode [.tmp 2] = true := by kernel_rfl
def C.spec_checked : ACode := (.seq (.reg [ zA 2 (.box 10 (.t 0)), zA 4 (.alloc 11 [.c (.lit (.int .i64 0)), .c (.lit (.int .i64 0)), .c (.str []), .nsl 1, .nsl 5]), zA 5 (.mv (.k (.c (.lit (.bool false)))))] [1, 2, 4]) (.seq (.seq (.reg [ zM 6 1, zA 7 (.not (.t 6)), zM 8 7, zG 8 false 9 (.load true 5 (.t 2)), ⟨(some (8, false)), some 10, .call 40 [.t 9]⟩, zG 8 false 11 (.not (.t 10)), zA 12 (.pick (.t 8) (.k (.c (.lit (.bool true)))) (.t 11))] [2, 4, 12]) (.cond (.t 12) (.seq (.reg [ zA 13 (.build [.c (.lit (.int .i64 0)), .c (.lit (.int .i64 0)), .c (.str []), .nsl 1, .nsl 5] []), zS (.store true 5 (.t 4) (.t 13)), zA 5 (.mv (.k (.c (.lit (.bool false)))))] [4, 5]) .ret) .skip)) (.seq (.reg [ zA 14 (.load true 5 (.t 2)), zS (.store true 5 (.t 4) (.t 14)), zA 5 (.mv (.k (.c (.lit (.bool true)))))] [4, 5]) .ret)))
theorem K.spec_checked : chkF Go.Proofs.Tryz.prog 49 2 0 C.spec_checked [.cell 4 true 5, .tmp 5] = true := by kernel_rfl
def C.spec_checkedOp : ACode := (.seq (.reg [ zA 2 (.box 10 (.t 0)), zA 3 (.box 11 (.t 1)), zA 4 (.alloc 12 [.c (.lit (.int .i64 0)), .c (.lit (.int .i64 0)), .c (.str []), .nsl 1, .nsl 5]), zA 5 (.mv (.k (.c (.lit (.bool false)))))] [2, 3, 4]) (.seq (.reg [ zA 9 (.load true 5 (.t 2)), zA 10 (.load true 8 (.t 3)), ⟨none, some 11, .call 148 [.t 9, .t 10]⟩, zA 12 (.extract (.t 11) 0), zA 13 (.extract (.t 11) 1), ⟨none, some 14, .call 49 [.t 12, .t 13]⟩, zM 8 14, zA 15 (.extract (.t 8) 0), zA 16 (.extract (.t 8) 1), zA 6 (.alloc 13 [.c (.lit (.int .i64 0)), .c (.lit (.int .i64 0)), .c (.str []), .nsl 1, .nsl 5]), zS (.store true 5 (.t 6) (.t 15)), zM 7 16] [4, 6, 7]) (.seq (.seq (.reg [ zM 17 7, zA 18 (.not (.t 17))] [4, 6, 18]) (.cond (.t 18) (.seq (.reg [ zA 19 (.build [.c (.lit (.int .i64 0)), .c (.lit (.int .i64 0)), .c (.str []), .nsl 1, .nsl 5] []), zS (.store true 5 (.t 4) (.t 19)), zA 5 (.mv (.k (.c (.lit (.bool false)))))] [4, 5]) .ret) .skip)) (.seq (.reg [ zA 20 (.load true 5 (.t 6)), ⟨none, some 21, .call 88 [.t 20]⟩, zS (.store true 5 (.t 4) (.t 21)), zA 5 (.mv (.k (.c (.lit (.bool true)))))] [4, 5]) .ret))))
theorem K.spec_checkedOp : chkF Go.Proofs.Tryz.prog 100 2 0 C.spec_checkedOp [.cell 4 true 5, .tmp 5] = true := by kernel_rfl
def C.spec_validPath : ACode := (.seq (.reg [ zA 2 (.mv (.k (.c (.lit (.bool false)))))] [0]) (.seq (.seq (.reg [ zA 3 (.mv (.k (.c (.lit (.int .i64 0)))))] [0, 3]) (.block 0 (.loop (.seq (.seq (.reg [ zM 4 3, zM 5 0, zA 6 (.len (.t 5)), zA 7 (.bin .lss (.t 4) (.t 6))] [0, 3, 7]) (.cond (.t 7) .skip (.exit 0))) (.seq (.block 1 (.seq (.reg [ zM 10 0, zM 11 3, zA 12 (.iaddr 1 (.t 10) (.t 11)), zA 13 (.load false 1 (.t 12)), ⟨none, some 14, .call 114 [.t 13]⟩, zA 15 (.not (.t 14))] [0, 3, 15]) (.cond (.t 15) (.seq (.reg [ zA 2 (.mv (.k (.c (.lit (.bool false)))))] [2]) .ret) .skip))) (.reg [ zM 8 3, zA 9 (.bin .add (.t 8) (.k (.c (.lit (.int .i64 1))))), zM 3 9] [0, 3])))))) (.seq (.reg [ zM 16 0, zA 17 (.len (.t 16)), zA 18 (.bin .leq (.t 17) (.k (.c (.lit (.int .i64 5))))), zM 2 18] [2]) .ret)))
theorem K.spec_validPath : chkF Go.Proofs.Tryz.prog 68 1 0 C.spec_validPath [.tmp 2] = true := by kernel_rfl
def C.spec_validOp : ACode := (.seq (.reg [ zA 1 (.box 10 (.t 0)), zA 2 (.mv (.k (.c (.lit (.bool false)))))] [1]) (.seq (.reg [ zA 3 (.faddr 0 (.t 1)), zA 4 (.load false 1 (.t 3)), ⟨none, some 5, .call 113 [.t 4, .k (.c (.lit (.int .i64 1))), .k (.c (.lit (.int .i64 6)))]⟩, zM 6 5, zG 6 true 7 (.faddr 1 (.t 1)), zG 6 true 8 (.load false 1 (.t 7)), ⟨(some (6, true)), some 9, .call 68 [.t 8]⟩, zA 10 (.pick (.t 6) (.t 9) (.k (.c (.lit (.bool false))))), zM 11 10, zG 11 true 12 (.faddr 2 (.t 1)), zG 11 true 13 (.load false 1 (.t 12)), ⟨(some (11, true)), some 14, .call 68 [.t 13]⟩, zA 15 (.pick (.t 11) (.t 14) (.k (.c (.lit (.bool false))))), zM 16 15, zG 16 true 17 (.faddr 3 (.t 1)), zG 16 true 18 (.load true 5 (.t 17)), ⟨(some (16, true)), some 19, .call 40 [.t 18]⟩, zA 20 (.pick (.t 16) (.t 19) (.k (.c (.lit (.bool false))))), zM 2 20] [2]) .ret))
theorem K.spec_validOp : chkF Go.Proofs.Tryz.prog 99 1 0 C.spec_validOp [.tmp 2] = true := by kernel_rfl
def C.spec_validPatch : ACode := (.seq (.reg [ zA 2 (.mv (.k (.c (.lit (.bool false)))))] [0]) (.seq (.seq (.reg [ zA 3 (.mv (.k (.c (.lit (.int .i64 0)))))] [0, 3]) (.block 0 (.loop (.seq (.seq (.reg [ zM 4 3, zM 5 0, zA 6 (.len (.t 5)), zA 7 (.bin .lss (.t 4) (.t 6))] [0, 3, 7]) (.cond (.t 7) .skip (.exit 0))) (.seq (.block 1 (.seq (.reg [ zM 10 0, zM 11 3, zA 12 (.iaddr 8 (.t 10) (.t 11)), zA 13 (.load true 8 (.t 12)), ⟨none, some 14, .call 99 [.t 13]⟩, zA 15 (.not (.t 14))] [0, 3, 15]) (.cond (.t 15) (.seq (.reg [ zA 2 (.mv (.k (.c (.lit (.bool false)))))] [2]) .ret) .skip))) (.reg [ zM 8 3, zA 9 (.bin .add (.t 8) (.k (.c (.lit (.int .i64 1))))), zM 3 9] [0, 3])))))) (.seq (.reg [ zM 16 0, zA 17 (.len (.t 16)), zA 18 (.bin .leq (.t 17) (.k (.c (.lit (.int .i64 12))))), zM 2 18] [2]) .ret)))
theorem K.spec_validPatch : chkF Go.Proofs.Tryz.prog 54 1 0 C.spec_validPatch [.tmp 2] = true := by kernel_rfl
def C.spec_ApplyPatch : ACode := (.seq (.reg [ zA 2 (.box 10 (.t 0)), zA 4 (.alloc 11 [.c (.lit (.int .i64 0)), .c (.lit (.int .i64 0)), .c (.str []), .nsl 1, .nsl 5]), zA 5 (.mv (.k (.c (.lit (.bool false)))))] [1, 2, 4]) (.seq (.seq (.reg [ zA 10 (.load true 5 (.t 2)), ⟨none, some 11, .call 40 [.t 10]⟩, zA 12 (.not (.t 11)), zM 13 12, zG 13 false 14 (.mv (.t 1)), ⟨(some (13, false)), some 15, .call 54 [.t 14]⟩, zG 13 false 16 (.not (.t 15)), zA 17 (.pick (.t 13) (.k (.c (.lit (.bool true)))) (.t 16))] [1, 2, 4, 17]) (.cond (.t 17) (.seq (.reg [ zA 18 (.build [.c (.lit (.int .i64 0)), .c (.lit (.int .i64 0)), .c (.str []), .nsl 1, .nsl 5] []), zS (.store true 5 (.t 4) (.t 18)), zA 5 (.mv (.k (.c (.lit (.bool false)))))] [4, 5]) .ret) .skip)) (.seq (.reg [ zA 19 (.load true 5 (.t 2)), ⟨none, some 20, .call 88 [.t 19]⟩, zA 6 (.alloc 12 [.c (.lit (.int .i64 0)), .c (.lit (.int .i64 0)), .c (.str []), .nsl 1, .nsl 5]), zS (.store true 5 (.t 6) (.t 20))] [1, 4, 6]) (.seq (.seq (.reg [ zA 7 (.mv (.k (.c (.lit (.int .i64 0)))))] [1, 4, 6, 7]) (.block 0 (.loop (.seq (.seq (.reg [ zM 21 7, zM 22 1, zA 23 (.len (.t 22)), zA 24 (.bin .lss (.t 21) (.t 23))] [1, 4, 6, 7, 24]) (.cond (.t 24) .skip (.exit 0))) (.seq (.block 1 (.seq (.regD [ (zA 28 (.load true 5 (.t 6)), []), (zM 29 1, []), (zM 30 7, []), (zA 31 (.iaddr 8 (.t 29) (.t 30)), [1, 2]), (zA 32 (.load true 8 (.t 31)), [1, 2, 3]), (⟨none, some 33, .call 100 [.t 28, .t 32]⟩, [0, 1, 2, 3, 4]), (zM 27 33, [0, 1, 2, 3, 4, 5]), (zA 34 (.extract (.t 27) 0), [0, 1, 2, 3, 4, 5, 6]), (zA 35 (.extract (.t 27) 1), [0, 1, 2, 3, 4, 5, 6]), (zA 8 (.alloc 13 [.c (.lit (.int .i64 0)), .c (.lit (.int .i64 0)), .c (.str []), .nsl 1, .nsl 5]), []), (zS (.store true 5 (.t 8) (.t 34)), [0, 1, 2, 3, 4, 5, 6, 7, 9]), (zM 9 35, [0, 1, 2, 3, 4, 5, 6, 7, 8, 9, 10])] [1, 4, 6, 7, 8, 9]) (.seq (.seq (.reg [ zM 36 9, zA 37 (.not (.t 36))] [1, 4, 6, 7, 8, 37]) (.cond (.t 37) (.seq (.reg [ zA 38 (.build [.c (.lit (.int .i64 0)), .c (.lit (.int .i64 0)), .c (.str []), .nsl 1, .nsl 5] []), zS (.store true 5 (.t 4) (.t 38)), zA 5 (.mv (.k (.c (.lit (.bool false)))))] [4, 5]) .ret) .skip)) (.reg [ zA 39 (.load true 5 (.t 8)), zS (.store true 5 (.t 6) (.t 39))] [1, 4, 6, 7])))) (.reg [ zM 25 7, zA 26 (.bin .add (.t 25) (.k (.c (.lit (.int .i64 1))))), zM 7 26] [1, 4, 6, 7])))))) (.seq (.reg [ zA 40 (.load true 5 (.t 6)), zS (.store true 5 (.t 4) (.t 40)), zA 5 (.mv (.k (.c (.lit (.bool true)))))] [4, 5]) .ret)))))
theorem K.spec_ApplyPatch : chkF Go.Proofs.Tryz.prog 55 2 0 C.spec_ApplyPatch [.cell 4 true 5, .tmp 5] = true := by kernel_rfl
def C.spec_op : ACode := (.seq (.reg [ zA 5 (.box 10 (.t 2)), zA 6 (.alloc 11 [.c (.lit (.int .i64 0)), .nsl 1, .nsl 1, .c (.lit (.int .i64 0)), .c (.lit (.int .i64 0)), .c (.str []), .nsl 1, .nsl 5])] [0, 1, 5, 6]) (.seq (.reg [ zM 7 0, zM 8 1, zA 9 (.bslice 12 1 0 [.str []] []), zA 10 (.load true 5 (.t 5)), ⟨none, some 11, .call 88 [.t 10]⟩, zA 12 (.build [.c (.lit (.int .i64 0)), .nsl 1, .nsl 1, .c (.lit (.int .i64 0)), .c (.lit (.int .i64 0)), .c (.str []), .nsl 1, .nsl 5] [(0, 1, .t 7), (1, 1, .t 8), (2, 1, .t 9), (3, 5, .t 11)]), zS (.store true 8 (.t 6) (.t 12))] [6]) .ret))
theorem K.spec_op : chkF Go.Proofs.Tryz.prog 87 3 0 C.spec_op [.cell 6 true 8] = true := by kernel_rfl
def C.spec_under : ACode := (.seq (.reg [ zA 4 (.mv (.k (.nsl 8)))] [0, 1]) (.seq (.reg [ zA 8 (.bslice 10 8 0 [.lit (.int .i64 0), .sl 1 [], .sl 1 [], .lit (.int .i64 0), .lit (.int .i64 0), .str [], .sl 1 [], .sl 5 []] []), zM 5 8] [0, 1, 5]) (.seq (.seq (.reg [ zA 6 (.mv (.k (.c (.lit (.int .i64 0)))))] [0, 1, 5, 6]) (.block 0 (.loop (.seq (.seq (.reg [ zM 9 6, zM 10 1, zA 11 (.len (.t 10)), zA 12 (.bin .lss (.t 9) (.t 11))] [0, 1, 5, 6, 12]) (.cond (.t 12) .skip (.exit 0))) (.seq (.block 1 (.seq (.reg [ zM 15 0, zA 16 (.bslice 11 1 1 [.str []] [(0, .t 15)]), zM 17 1, zM 18 6, zA 19 (.iaddr 8 (.t 17) (.t 18)), zA 20 (.faddr 1 (.t 19)), zA 21 (.load false 1 (.t 20)), zA 22 (.append 12 1 16 (.t 16) (.t 21)), zM 7 22] [0, 1, 5, 6, 7]) (.regD [ (zM 23 5, []), (zM 24 1, []), (zM 25 6, []), (zA 26 (.iaddr 8 (.t 24) (.t 25)), [1, 2]), (zA 27 (.faddr 0 (.t 26)), [1, 2, 3]), (zA 28 (.load false 1 (.t 27)), [1, 2, 3, 4]), (zM 29 7, []), (zA 30 (.bslice 13 1 0 [.str []] []), []), (zM 31 1, []), (zM 32 6, []), (zA 33 (.iaddr 8 (.t 31) (.t 32)), [8, 9]), (zA 34 (.faddr 3 (.t 33)), [8, 9, 10]), (zA 35 (.load true 5 (.t 34)), [8, 9, 10, 11]), (zA 36 (.build [.c (.lit (.int .i64 0)), .nsl 1, .nsl 1, .c (.lit (.int .i64 0)), .c (.lit (.int .i64 0)), .c (.str []), .nsl 1, .nsl 5] [(0, 1, .t 28), (1, 1, .t 29), (2, 1, .t 30), (3, 5, .t 35)]), [1, 2, 3, 4, 5, 6, 7, 8, 9, 10, 11, 12]), (zA 37 (.bslice 14 8 1 [.lit (.int .i64 0), .sl 1 [], .sl 1 [], .lit (.int .i64 0), .lit (.int .i64 0), .str [], .sl 1 [], .sl 5 []] [(0, .t 36)]), [1, 2, 3, 4, 5, 6, 7, 8, 9, 10, 11, 12, 13]), (zA 38 (.append 15 8 136 (.t 23) (.t 37)), [0, 1, 2, 3, 4, 5, 6, 7, 8, 9, 10, 11, 12, 13, 14]), (zM 5 38, [0, 1, 2, 3, 4, 5, 6, 7, 8, 9, 10, 11, 12, 13, 14, 15])] [0, 1, 5, 6]))) (.reg [ zM 13 6, zA 14 (.bin .add (.t 13) (.k (.c (.lit (.int .i64 1))))), zM 6 14] [0, 1, 5, 6])))))) (.seq (.reg [ zM 39 5, zM 4 39] [4]) .ret))))
theorem K.spec_under : chkF Go.Proofs.Tryz.prog 134 2 0 C.spec_under [.tmp 4] = true := by kernel_rfl
def C.spec_diff : ACode := (.seq (.reg [ zA 2 (.box 10 (.t 0)), zA 3 (.box 11 (.t 1)), zA 4 (.mv (.k (.nsl 8)))] [2, 3]) (.seq (.seq (.reg [ zA 5 (.load true 5 (.t 2)), zA 6 (.load true 5 (.t 3)), ⟨none, some 7, .call 84 [.t 5, .t 6]⟩] [2, 3, 7]) (.cond (.t 7) (.seq (.reg [ zA 8 (.bslice 12 8 0 [.lit (.int .i64 0), .sl 1 [], .sl 1 [], .lit (.int .i64 0), .lit (.int .i64 0), .str [], .sl 1 [], .sl 5 []] []), zM 4 8] [4]) .ret) .skip)) (.seq (.block 0 (.seq (.reg [ zA 10 (.faddr 0 (.t 2)), zA 11 (.load false 1 (.t 10)), zA 12 (.bin .eql (.t 11) (.k (.c (.lit (.int .i64 4))))), zM 13 12, zG 13 true 14 (.faddr 0 (.t 3)), zG 13 true 15 (.load false 1 (.t 14)), zG 13 true 16 (.bin .eql (.t 15) (.k (.c (.lit (.int .i64 4))))), zA 17 (.pick (.t 13) (.t 16) (.k (.c (.lit (.bool false))))), zM 9 17] [2, 3, 9]) (.cond (.t 9) (.seq (.reg [ zA 18 (.load true 5 (.t 2)), zA 19 (.load true 5 (.t 3)), ⟨none, some 20, .call 85 [.t 18, .t 19]⟩, zM 4 20] [4]) .ret) (.seq (.reg [ zA 22 (.faddr 0 (.t 2)), zA 23 (.load false 1 (.t 22)), zA 24 (.bin .eql (.t 23) (.k (.c (.lit (.int .i64 3))))), zM 25 24, zG 25 true 26 (.faddr 0 (.t 3)), zG 25 true 27 (.load false 1 (.t 26)), zG 25 true 28 (.bin .eql (.t 27) (.k (.c (.lit (.int .i64 3))))), zA 29 (.pick (.t 25) (.t 28) (.k (.c (.lit (.bool false))))), zM 21 29] [2, 3, 21]) (.cond (.t 21) (.seq (.reg [ zA 30 (.load true 5 (.t 2)), zA 31 (.load true 5 (.t 3)), ⟨none, some 32, .call 86 [.t 30, .t 31]⟩, zM 4 32] [4]) .ret) .skip))))) (.seq (.reg [ zA 33 (.bslice 13 1 0 [.str []] []), zA 34 (.load true 5 (.t 3)), ⟨none, some 35, .call 87 [.k (.c (.lit (.int .i64 3))), .t 33, .t 34]⟩, zA 36 (.bslice 14 8 1 [.lit (.int .i64 0), .sl 1 [], .sl 1 [], .lit (.int .i64 0), .lit (.int .i64 0), .str [], .sl 1 [], .sl 5 []] [(0, .t 35)]), zM 4 36] [4]) .ret))))
theorem K.spec_diff : chkF Go.Proofs.Tryz.prog 41 2 0 C.spec_diff [.tmp 4] = true := by kernel_rfl
def C.spec_diffLists : ACode := (.seq (.reg [ zA 2 (.box 10 (.t 0)), zA 3 (.box 11 (.t 1)), zA 4 (.mv (.k (.nsl 8)))] [2, 3]) (.seq (.reg [ zA 10 (.bslice 12 8 0 [.lit (.int .i64 0), .sl 1 [], .sl 1 [], .lit (.int .i64 0), .lit (.int .i64 0), .str [], .sl 1 [], .sl 5 []] []), zM 5 10] [2, 3, 5]) (.seq (.reg [ zA 11 (.faddr 4 (.t 2)), zA 12 (.load false 1 (.t 11)), zA 13 (.len (.t 12)), zA 14 (.faddr 4 (.t 3)), zA 15 (.load false 1 (.t 14)), zA 16 (.len (.t 15)), zA 17 (.min (.t 13) (.t 16)), zM 6 17] [2, 3, 5, 6]) (.seq (.seq (.reg [ zA 7 (.mv (.k (.c (.lit (.int .i64 0)))))] [2, 3, 5, 6, 7]) (.block 0 (.loop (.seq (.seq (.reg [ zM 18 7, zM 19 6, zA 20 (.bin .lss (.t 18) (.t 19))] [2, 3, 5, 6, 7, 20]) (.cond (.t 20) .skip (.exit 0))) (.seq (.block 1 (.regD [ (zM 23 5, []), (zM 24 7, []), (⟨none, some 25, .call 135 [.t 24]⟩, [1]), (zA 26 (.faddr 4 (.t 2)), []), (zA 27 (.load false 1 (.t 26)), [3]), (zM 28 7, []), (zA 29 (.iaddr 5 (.t 27) (.t 28)), [3, 4, 5]), (zA 30 (.load true 5 (.t 29)), [3, 4, 5, 6]), (zA 31 (.faddr 4 (.t 3)), []), (zA 32 (.load false 1 (.t 31)), [8]), (zM 33 7, []), (zA 34 (.iaddr 5 (.t 32) (.t 33)), [8, 9, 10]), (zA 35 (.load true 5 (.t 34)), [8, 9, 10, 11]), (⟨none, some 36, .call 41 [.t 30, .t 35]⟩, [1, 2, 3, 4, 5, 6, 7, 8, 9, 10, 11, 12]), (⟨none, some 37, .call 134 [.t 25, .t 36]⟩, [1, 2, 3, 4, 5, 6, 7, 8, 9, 10, 11, 12, 13]), (zA 38 (.append 13 8 136 (.t 23) (.t 37)), [0, 1, 2, 3, 4, 5, 6, 7, 8, 9, 10, 11, 12, 13, 14]), (zM 5 38, [0, 1, 2, 3, 4, 5, 6, 7, 8, 9, 10, 11, 12, 13, 14, 15])] [2, 3, 5, 6, 7])) (.reg [ zM 21 7, zA 22 (.bin .add (.t 21) (.k (.c (.lit (.int .i64 1))))), zM 7 22] [2, 3, 5, 6, 7])))))) (.seq (.seq (.reg [ zA 39 (.faddr 4 (.t 2)), zA 40 (.load false 1 (.t 39)), zA 41 (.len (.t 40)), zA 42 (.bin .sub (.t 41) (.k (.c (.lit (.int .i64 1))))), zM 8 42] [3, 5, 6, 8]) (.block 2 (.loop (.seq (.seq (.reg [ zM 43 8, zM 44 6, zA 45 (.bin .geq (.t 43) (.t 44))] [3, 5, 6, 8, 45]) (.cond (.t 45) .skip (.exit 2))) (.seq (.block 3 (.reg [ zM 48 5, zM 49 8, ⟨none, some 50, .call 135 [.t 49]⟩, zA 51 (.bslice 14 1 1 [.str []] [(0, .t 50)]), zA 52 (.build [.c (.lit (.int .i64 0)), .c (.lit (.int .i64 0)), .c (.str []), .nsl 1, .nsl 5] []), ⟨none, some 53, .call 87 [.k (.c (.lit (.int .i64 2))), .t 51, .t 52]⟩, zA 54 (.bslice 15 8 1 [.lit (.int .i64 0), .sl 1 [], .sl 1 [], .lit (.int .i64 0), .lit (.int .i64 0), .str [], .sl 1 [], .sl 5 []] [(0, .t 53)]), zA 55 (.append 16 8 136 (.t 48) (.t 54)), zM 5 55] [3, 5, 6, 8])) (.reg [ zM 46 8, zA 47 (.bin .sub (.t 46) (.k (.c (.lit (.int .i64 1))))), zM 8 47] [3, 5, 6, 8])))))) (.seq (.seq (.reg [ zM 56 6, zM 9 56] [3, 5, 9]) (.block 4 (.loop (.seq (.seq (.reg [ zM 57 9, zA 58 (.faddr 4 (.t 3)), zA 59 (.load false 1 (.t 58)), zA 60 (.len (.t 59)), zA 61 (.bin .lss (.t 57) (.t 60))] [3, 5, 9, 61]) (.cond (.t 61) .skip (.exit 4))) (.seq (.block 5 (.regD [ (zM 64 5, []), (zM 65 9, []), (⟨none, some 66, .call 135 [.t 65]⟩, [1]), (zA 67 (.bslice 17 1 1 [.str []] [(0, .t 66)]), [1, 2]), (zA 68 (.faddr 4 (.t 3)), []), (zA 69 (.load false 1 (.t 68)), [4]), (zM 70 9, []), (zA 71 (.iaddr 5 (.t 69) (.t 70)), [4, 5, 6]), (zA 72 (.load true 5 (.t 71)), [4, 5, 6, 7]), (⟨none, some 73, .call 87 [.k (.c (.lit (.int .i64 1))), .t 67, .t 72]⟩, [1, 2, 3, 4, 5, 6, 7, 8]), (zA 74 (.bslice 18 8 1 [.lit (.int .i64 0), .sl 1 [], .sl 1 [], .lit (.int .i64 0), .lit (.int .i64 0), .str [], .sl 1 [], .sl 5 []] [(0, .t 73)]), [1, 2, 3, 4, 5, 6, 7, 8, 9]), (zA 75 (.append 19 8 136 (.t 64) (.t 74)), [0, 1, 2, 3, 4, 5, 6, 7, 8, 9, 10]), (zM 5 75, [0, 1, 2, 3, 4, 5, 6, 7, 8, 9, 10, 11])] [3, 5, 9])) (.reg [ zM 62 9, zA 63 (.bin .add (.t 62) (.k (.c (.lit (.int .i64 1))))), zM 9 63] [3, 5, 9])))))) (.seq (.reg [ zM 76 5, zM 4 76] [4]) .ret)))))))
theorem K.spec_diffLists : chkF Go.Proofs.Tryz.prog 86 2 0 C.spec_diffLists [.tmp 4] = true := by kernel_rfl
def C.spec_diffMaps : ACode := (.seq (.reg [ zA 2 (.box 10 (.t 0)), zA 3 (.box 11 (.t 1)), zA 4 (.mv (.k (.nsl 8)))] [2, 3]) (.seq (.reg [ zA 9 (.bslice 12 8 0 [.lit (.int .i64 0), .sl 1 [], .sl 1 [], .lit (.int .i64 0), .lit (.int .i64 0), .str [], .sl 1 [], .sl 5 []] []), zM 5 9] [2, 3, 5]) (.seq (.seq (.reg [ zA 6 (.mv (.k (.c (.lit (.int .i64 0)))))] [2, 3, 5, 6]) (.block 0 (.loop (.seq (.seq (.reg [ zM 10 6, zA 11 (.faddr 4 (.t 2)), zA 12 (.load false 1 (.t 11)), zA 13 (.len (.t 12)), zA 14 (.bin .lss (.t 10) (.t 13))] [2, 3, 5, 6, 14]) (.cond (.t 14) .skip (.exit 0))) (.seq (.block 1 (.seq (.regD [ (zA 17 (.load true 5 (.t 3)), []), (zA 18 (.faddr 3 (.t 2)), []), (zA 19 (.load false 1 (.t 18)), [1]), (zM 20 6, []), (zA 21 (.iaddr 1 (.t 19) (.t 20)), [1, 2, 3]), (zA 22 (.load false 1 (.t 21)), [1, 2, 3, 4]), (⟨none, some 23, .call 89 [.t 17, .t 22]⟩, [0, 1, 2, 3, 4, 5]), (zM 7 23, [0, 1, 2, 3, 4, 5, 6])] [2, 3, 5, 6, 7]) (.seq (.reg [ zM 24 7, zA 25 (.bin .lss (.t 24) (.k (.c (.lit (.int .i64 0)))))] [2, 3, 5, 6, 7, 25]) (.cond (.t 25) (.reg [ zM 26 5, zA 27 (.faddr 3 (.t 2)), zA 28 (.load false 1 (.t 27)), zM 29 6, zA 30 (.iaddr 1 (.t 28) (.t 29)), zA 31 (.load false 1 (.t 30)), zA 32 (.bslice 13 1 1 [.str []] [(0, .t 31)]), zA 33 (.build [.c (.lit (.int .i64 0)), .c (.lit (.int .i64 0)), .c (.str []), .nsl 1, .nsl 5] []), ⟨none, some 34, .call 87 [.k (.c (.lit (.int .i64 2))), .t 32, .t 33]⟩, zA 35 (.bslice 14 8 1 [.lit (.int .i64 0), .sl 1 [], .sl 1 [], .lit (.int .i64 0), .lit (.int .i64 0), .str [], .sl 1 [], .sl 5 []] [(0, .t 34)]), zA 36 (.append 15 8 136 (.t 26) (.t 35)), zM 5 36] [2, 3, 5, 6]) (.regD [ (zM 37 5, []), (zA 38 (.faddr 3 (.t 2)), []), (zA 39 (.load false 1 (.t 38)), [1]), (zM 40 6, []), (zA 41 (.iaddr 1 (.t 39) (.t 40)), [1, 2, 3]), (zA 42 (.load false 1 (.t 41)), [1, 2, 3, 4]), (zA 43 (.faddr 4 (.t 2)), []), (zA 44 (.load false 1 (.t 43)), [6]), (zM 45 6, []), (zA 46 (.iaddr 5 (.t 44) (.t 45)), [6, 7, 8]), (zA 47 (.load true 5 (.t 46)), [6, 7, 8, 9]), (zA 48 (.faddr 4 (.t 3)), []), (zA 49 (.load false 1 (.t 48)), [11]), (zM 50 7, []), (zA 51 (.iaddr 5 (.t 49) (.t 50)), [11, 12, 13]), (zA 52 (.load true 5 (.t 51)), [11, 12, 13, 14]), (⟨none, some 53, .call 41 [.t 47, .t 52]⟩, [6, 7, 8, 9, 10, 11, 12, 13, 14, 15]), (⟨none, some 54, .call 134 [.t 42, .t 53]⟩, [1, 2, 3, 4, 5, 6, 7, 8, 9, 10, 11, 12, 13, 14, 15, 16]), (zA 55 (.append 16 8 136 (.t 37) (.t 54)), [0, 1, 2, 3, 4, 5, 6, 7, 8, 9, 10, 11, 12, 13, 14, 15, 16, 17]), (zM 5 55, [0, 1, 2, 3, 4, 5, 6, 7, 8, 9, 10, 11, 12, 13, 14, 15, 16, 17, 18])] [2, 3, 5, 6]))))) (.reg [ zM 15 6, zA 16 (.bin .add (.t 15) (.k (.c (.lit (.int .i64 1))))), zM 6 16] [2, 3, 5, 6])))))) (.seq (.seq (.reg [ zA 8 (.mv (.k (.c (.lit (.int .i64 0)))))] [2, 3, 5, 8]) (.block 2 (.loop (.seq (.seq (.reg [ zM 56 8, zA 57 (.faddr 4 (.t 3)), zA 58 (.load false 1 (.t 57)), zA 59 (.len (.t 58)), zA 60 (.bin .lss (.t 56) (.t 59))] [2, 3, 5, 8, 60]) (.cond (.t 60) .skip (.exit 2))) (.seq (.block 3 (.seq (.regD [ (zA 63 (.load true 5 (.t 2)), []), (zA 64 (.faddr 3 (.t 3)), []), (zA 65 (.load false 1 (.t 64)), [1]), (zM 66 8, []), (zA 67 (.iaddr 1 (.t 65) (.t 66)), [1, 2, 3]), (zA 68 (.load false 1 (.t 67)), [1, 2, 3, 4]), (⟨none, some 69, .call 89 [.t 63, .t 68]⟩, [0, 1, 2, 3, 4, 5]), (zA 70 (.bin .lss (.t 69) (.k (.c (.lit (.int .i64 0))))), [0, 1, 2, 3, 4, 5, 6])] [2, 3, 5, 8, 70]) (.cond (.t 70) (.regD [ (zM 71 5, []), (zA 72 (.faddr 3 (.t 3)), []), (zA 73 (.load false 1 (.t 72)), [1]), (zM 74 8, []), (zA 75 (.iaddr 1 (.t 73) (.t 74)), [1, 2, 3]), (zA 76 (.load false 1 (.t 75)), [1, 2, 3, 4]), (zA 77 (.bslice 17 1 1 [.str []] [(0, .t 76)]), [1, 2, 3, 4, 5]), (zA 78 (.faddr 4 (.t 3)), []), (zA 79 (.load false 1 (.t 78)), [7]), (zM 80 8, []), (zA 81 (.iaddr 5 (.t 79) (.t 80)), [7, 8, 9]), (zA 82 (.load true 5 (.t 81)), [7, 8, 9, 10]), (⟨none, some 83, .call 87 [.k (.c (.lit (.int .i64 1))), .t 77, .t 82]⟩, [1, 2, 3, 4, 5, 6, 7, 8, 9, 10, 11]), (zA 84 (.bslice 18 8 1 [.lit (.int .i64 0), .sl 1 [], .sl 1 [], .lit (.int .i64 0), .lit (.int .i64 0), .str [], .sl 1 [], .sl 5 []] [(0, .t 83)]), [1, 2, 3, 4, 5, 6, 7, 8, 9, 10, 11, 12]), (zA 85 (.append 19 8 136 (.t 71) (.t 84)), [0, 1, 2, 3, 4, 5, 6, 7, 8, 9, 10, 11, 12, 13]), (zM 5 85, [0, 1, 2, 3, 4, 5, 6, 7, 8, 9, 10, 11, 12, 13, 14])] [2, 3, 5, 8]) .skip))) (.reg [ zM 61 8, zA 62 (.bin .add (.t 61) (.k (.c (.lit (.int .i64 1))))), zM 8 62] [2, 3, 5, 8])))))) (.seq (.reg [ zM 86 5, zM 4 86] [4]) .ret)))))
theorem K.spec_diffMaps : chkF Go.Proofs.Tryz.prog 85 2 0 C.spec_diffMaps [.tmp 4] = true := by kernel_rfl
def C.spec_DiffNodes : ACode := (.seq (.reg [ zA 2 (.box 10 (.t 0)), zA 3 (.box 11 (.t 1)), zA 4 (.mv (.k (.nsl 8))), zA 5 (.mv (.k (.c (.lit (.bool false)))))] [2, 3]) (.seq (.seq (.reg [ zA 9 (.load true 5 (.t 2)), ⟨none, some 10, .call 40 [.t 9]⟩, zA 11 (.not (.t 10)), zM 12 11, zG 12 false 13 (.load true 5 (.t 3)), ⟨(some (12, false)), some 14, .call 40 [.t 13]⟩, zG 12 false 15 (.not (.t 14)), zA 16 (.pick (.t 12) (.k (.c (.lit (.bool true)))) (.t 15))] [2, 3, 16]) (.cond (.t 16) (.seq (.reg [ zA 4 (.mv (.k (.nsl 8))), zA 5 (.mv (.k (.c (.lit (.bool false)))))] [4, 5]) .ret) .skip)) (.seq (.reg [ zA 17 (.load true 5 (.t 2)), zA 18 (.load true 5 (.t 3)), ⟨none, some 19, .call 41 [.t 17, .t 18]⟩, zM 6 19] [2, 6]) (.seq (.seq (.reg [ zM 20 6, ⟨none, some 21, .call 54 [.t 20]⟩, zA 22 (.not (.t 21))] [2, 6, 22]) (.cond (.t 22) (.seq (.reg [ zA 4 (.mv (.k (.nsl 8))), zA 5 (.mv (.k (.c (.lit (.bool false)))))] [4, 5]) .ret) .skip)) (.seq (.reg [ zA 24 (.load true 5 (.t 2)), zM 25 6, ⟨none, some 26, .call 55 [.t 24, .t 25]⟩, zM 23 26, zA 27 (.extract (.t 23) 0), zA 28 (.extract (.t 23) 1), zA 7 (.alloc 12 [.c (.lit (.int .i64 0)), .c (.lit (.int .i64 0)), .c (.str []), .nsl 1, .nsl 5]), zS (.store true 5 (.t 7) (.t 27)), zM 8 28] [6, 8]) (.seq (.seq (.reg [ zM 29 8, zA 30 (.not (.t 29))] [6, 30]) (.cond (.t 30) (.seq (.reg [ zA 4 (.mv (.k (.nsl 8))), zA 5 (.mv (.k (.c (.lit (.bool false)))))] [4, 5]) .ret) .skip)) (.seq (.reg [ zM 31 6, zM 4 31, zA 5 (.mv (.k (.c (.lit (.bool true)))))] [4, 5]) .ret)))))))
theorem K.spec_DiffNodes : chkF Go.Proofs.Tryz.prog 23 2 0 C.spec_DiffNodes [.tmp 4, .tmp 5] = true := by kernel_rfl
def C.spec_reader_pick : ACode := (.seq (.reg [ zA 4 (.mv (.k (.c (.lit (.int .i64 0)))))] [0, 1]) (.seq (.reg [ zM 7 0, zM 8 0, zA 9 (.nilck (.t 8)), zA 10 (.faddr 1 (.t 9)), zA 11 (.load false 1 (.t 10)), zA 12 (.bin .add (.t 11) (.k (.c (.lit (.int .i64 1))))), zA 13 (.nilck (.t 7)), zA 14 (.faddr 1 (.t 13)), zS (.store false 1 (.t 14) (.t 12))] [0, 1]) (.seq (.seq (.reg [ zM 15 1, zA 16 (.bin .lss (.t 15) (.k (.c (.lit (.int .i64 1))))), zM 17 16, zG 17 false 18 (.mv (.t 0)), zG 17 false 19 (.nilck (.t 18)), zG 17 false 20 (.faddr 0 (.t 19)), zG 17 false 21 (.load false 1 (.t 20)), zG 17 false 22 (.len (.t 21)), zG 17 false 23 (.bin .eql (.t 22) (.k (.c (.lit (.int .i64 0))))), zA 24 (.pick (.t 17) (.k (.c (.lit (.bool true)))) (.t 23))] [0, 1, 24]) (.cond (.t 24) (.seq (.reg [ zA 4 (.mv (.k (.c (.lit (.int .i64 0)))))] [4]) .ret) .skip)) (.seq (.reg [ zM 25 0, zA 26 (.nilck (.t 25)), zA 27 (.faddr 1 (.t 26)), zA 28 (.load false 1 (.t 27)), zA 29 (.bin .sub (.t 28) (.k (.c (.lit (.int .i64 1))))), zM 5 29] [0, 1, 5]) (.seq (.seq (.reg [ zM 30 5, zM 31 0, zA 32 (.nilck (.t 31)), zA 33 (.faddr 0 (.t 32)), zA 34 (.load false 1 (.t 33)), zA 35 (.len (.t 34)), zA 36 (.bin .lss (.t 30) (.t 35))] [0, 1, 5, 36]) (.cond (.t 36) (.seq (.reg [ zM 37 0, zA 38 (.nilck (.t 37)), zA 39 (.faddr 0 (.t 38)), zA 40 (.load false 1 (.t 39)), zM 41 5, zA 42 (.iaddr 1 (.t 40) (.t 41)), zA 43 (.load false 1 (.t 42)), zA 44 (.cint .i64 (.t 43)), zM 45 1, zA 46 (.bin .rem (.t 44) (.t 45)), zM 4 46] [4]) .ret) .skip)) (.seq (.regD [ (zM 47 0, []), (zA 48 (.nilck (.t 47)), [0]), (zA 49 (.faddr 0 (.t 48)), [0, 1]), (zA 50 (.load false 1 (.t 49)), [0, 1, 2]), (zM 51 5, []), (zM 52 0, []), (zA 53 (.nilck (.t 52)), [5]), (zA 54 (.faddr 0 (.t 53)), [5, 6]), (zA 55 (.load false 1 (.t 54)), [5, 6, 7]), (zA 56 (.len (.t 55)), [5, 6, 7, 8]), (zA 57 (.bin .rem (.t 51) (.t 56)), [4, 5, 6, 7, 8, 9]), (zA 58 (.iaddr 1 (.t 50) (.t 57)), [0, 1, 2, 3, 4, 5, 6, 7, 8, 9, 10]), (zA 59 (.load false 1 (.t 58)), [0, 1, 2, 3, 4, 5, 6, 7, 8, 9, 10, 11]), (zA 60 (.cint .i64 (.t 59)), [0, 1, 2, 3, 4, 5, 6, 7, 8, 9, 10, 11, 12]), (zA 61 (.bin .mul (.t 60) (.k (.c (.lit (.int .i64 131))))), [0, 1, 2, 3, 4, 5, 6, 7, 8, 9, 10, 11, 12, 13]), (zM 62 0, []), (zA 63 (.nilck (.t 62)), [15]), (zA 64 (.faddr 0 (.t 63)), [15, 16]), (zA 65 (.load false 1 (.t 64)), [15, 16, 17]), (zM 66 5, []), (zA 67 (.bin .mul (.t 66) (.k (.c (.lit (.int .i64 7))))), [19]), (zA 68 (.bin .add (.t 67) (.k (.c (.lit (.int .i64 3))))), [19, 20]), (zM 69 0, []), (zA 70 (.nilck (.t 69)), [22]), (zA 71 (.faddr 0 (.t 70)), [22, 23]), (zA 72 (.load false 1 (.t 71)), [22, 23, 24]), (zA 73 (.len (.t 72)), [22, 23, 24, 25]), (zA 74 (.bin .rem (.t 68) (.t 73)), [19, 20, 21, 22, 23, 24, 25, 26]), (zA 75 (.iaddr 1 (.t 65) (.t 74)), [15, 16, 17, 18, 19, 20, 21, 22, 23, 24, 25, 26, 27]), (zA 76 (.load false 1 (.t 75)), [15, 16, 17, 18, 19, 20, 21, 22, 23, 24, 25, 26, 27, 28]), (zA 77 (.cint .i64 (.t 76)), [15, 16, 17, 18, 19, 20, 21, 22, 23, 24, 25, 26, 27, 28, 29]), (zA 78 (.bin .mul (.t 77) (.k (.c (.lit (.int .i64 1117))))), [15, 16, 17, 18, 19, 20, 21, 22, 23, 24, 25, 26, 27, 28, 29, 30]), (zA 79 (.bin .add (.t 61) (.t 78)), [0, 1, 2, 3, 4, 5, 6, 7, 8, 9, 10, 11, 12, 13, 14, 15, 16, 17, 18, 19, 20, 21, 22, 23, 24, 25, 26, 27, 28, 29, 30, 31]), (zM 80 5, []), (zA 81 (.bin .mul (.t 80) (.k (.c (.lit (.int .i64 29))))), [33]), (zA 82 (.bin .add (.t 79) (.t 81)), [0, 1, 2, 3, 4, 5, 6, 7, 8, 9, 10, 11, 12, 13, 14, 15, 16, 17, 18, 19, 20, 21, 22, 23, 24, 25, 26, 27, 28, 29, 30, 31, 32, 33, 34]), (zM 83 5, []), (zM 84 0, []), (zA 85 (.nilck (.t 84)), [37]), (zA 86 (.faddr 0 (.t 85)), [37, 38]), (zA 87 (.load false 1 (.t 86)), [37, 38, 39]), (zA 88 (.len (.t 87)), [37, 38, 39, 40]), (zA 89 (.bin .quo (.t 83) (.t 88)), [36, 37, 38, 39, 40, 41]), (zA 90 (.bin .mul (.t 89) (.k (.c (.lit (.int .i64 53))))), [36, 37, 38, 39, 40, 41, 42]), (zA 91 (.bin .add (.t 82) (.t 90)), [0, 1, 2, 3, 4, 5, 6, 7, 8, 9, 10, 11, 12, 13, 14, 15, 16, 17, 18, 19, 20, 21, 22, 23, 24, 25, 26, 27, 28, 29, 30, 31, 32, 33, 34, 35, 36, 37, 38, 39, 40, 41, 42, 43]), (zM 6 91, [0, 1, 2, 3, 4, 5, 6, 7, 8, 9, 10, 11, 12, 13, 14, 15, 16, 17, 18, 19, 20, 21, 22, 23, 24, 25, 26, 27, 28, 29, 30, 31, 32, 33, 34, 35, 36, 37, 38, 39, 40, 41, 42, 43, 44])] [1, 6]) (.seq (.reg [ zM 92 6, zM 93 6, zA 94 (.bin .quo (.t 93) (.k (.c (.lit (.int .i64 64))))), zA 95 (.bin .xor (.t 92) (.t 94)), zM 6 95] [1, 6]) (.seq (.reg [ zM 96 6, zM 97 1, zA 98 (.bin .rem (.t 96) (.t 97)), zM 4 98] [4]) .ret))))))))
theorem K.spec_reader_pick : chkF Go.Proofs.Tryz.prog 43 2 1 C.spec_reader_pick [.tmp 4] = true := by kernel_rfl
def C.spec_reader_one : ACode := (.seq (.reg [ zA 4 (.mv (.k (.c (.lit (.int .i64 0)))))] [0, 1]) (.seq (.reg [ zM 5 1, zM 6 0, zM 7 1, zA 8 (.len (.t 7)), ⟨none, some 9, .call 43 [.t 6, .t 8]⟩, zA 10 (.iaddr 1 (.t 5) (.t 9)), zA 11 (.load false 1 (.t 10)), zM 4 11] [4]) .ret))
theorem K.spec_reader_one : chkF Go.Proofs.Tryz.prog 102 2 1 C.spec_reader_one [.tmp 4] = true := by kernel_rfl
def C.spec_reader_of : ACode := (.seq (.reg [ zA 4 (.mv (.k (.c (.str []))))] [0, 1]) (.seq (.reg [ zM 5 1, zM 6 0, zM 7 1, zA 8 (.len (.t 7)), ⟨none, some 9, .call 43 [.t 6, .t 8]⟩, zA 10 (.iaddr 1 (.t 5) (.t 9)), zA 11 (.load false 1 (.t 10)), zM 4 11] [4]) .ret))
theorem K.spec_reader_of : chkF Go.Proofs.Tryz.prog 125 2 1 C.spec_reader_of [.tmp 4] = true := by kernel_rfl
def C.spec_someText : ACode := (.seq (.reg [ zA 2 (.mv (.k (.c (.str []))))] [0]) (.seq (.reg [ zM 3 0, zA 4 (.bslice 10 1 12 [.str []] [(0, .k (.c (.str [97]))), (1, .k (.c (.str [98]))), (2, .k (.c (.str []))), (3, .k (.c (.str [97, 98, 99]))), (4, .k (.c (.str [97, 47, 98]))), (5, .k (.c (.str [126]))), (6, .k (.c (.str [120, 32, 121]))), (7, .k (.c (.str [34, 113, 34]))), (8, .k (.c (.str [98, 97, 99, 107, 92, 115]))), (9, .k (.c (.str [48]))), (10, .k (.c (.str [49]))), (11, .k (.c (.str [97, 98, 99, 100, 101, 102, 103, 104, 105, 106, 107, 108])))]), ⟨none, some 5, .call 125 [.t 3, .t 4]⟩, zM 2 5] [2]) .ret))
theorem K.spec_someText : chkF Go.Proofs.Tryz.prog 175 1 1 C.spec_someText [.tmp 2] = true := by kernel_rfl
def C.spec_someName : ACode := (.seq (.reg [ zA 2 (.mv (.k (.c (.str []))))] [0]) (.seq (.reg [ zM 3 0, zA 4 (.bslice 10 1 8 [.str []] [(0, .k (.c (.str [97]))), (1, .k (.c (.str [98]))), (2, .k (.c (.str [99]))), (3, .k (.c (.str [100]))), (4, .k (.c (.str [97, 47, 98]))), (5, .k (.c (.str [126, 120]))), (6, .k (.c (.str []))), (7, .k (.c (.str [107])))]), ⟨none, some 5, .call 125 [.t 3, .t 4]⟩, zM 2 5] [2]) .ret))
theorem K.spec_someName : chkF Go.Proofs.Tryz.prog 200 1 1 C.spec_someName [.tmp 2] = true := by kernel_rfl
def C.spec_randomMap : ACode := (.seq (.reg [ zA 4 (.alloc 10 [.c (.lit (.int .i64 0)), .c (.lit (.int .i64 0)), .c (.str []), .nsl 1, .nsl 5])] [0, 1, 4]) (.seq (.reg [ zA 9 (.bslice 11 1 0 [.str []] []), zA 10 (.bslice 12 5 0 [.lit (.int .i64 0), .lit (.int .i64 0), .str [], .sl 1 [], .sl 5 []] []), zA 11 (.build [.c (.lit (.int .i64 0)), .c (.lit (.int .i64 0)), .c (.str []), .nsl 1, .nsl 5] [(0, 1, .k (.c (.lit (.int .i64 4)))), (3, 1, .t 9), (4, 1, .t 10)]), zA 5 (.alloc 13 [.c (.lit (.int .i64 0)), .c (.lit (.int .i64 0)), .c (.str []), .nsl 1, .nsl 5]), zS (.store true 5 (.t 5) (.t 11))] [0, 1, 4, 5]) (.seq (.seq (.reg [ zM 12 0, zA 13 (.bslice 14 1 5 [.lit (.int .i64 0)] [(0, .k (.c (.lit (.int .i64 2)))), (1, .k (.c (.lit (.int .i64 3)))), (2, .k (.c (.lit (.int .i64 1)))), (3, .k (.c (.lit (.int .i64 0)))), (4, .k (.c (.lit (.int .i64 4))))]), ⟨none, some 14, .call 102 [.t 12, .t 13]⟩, zM 6 14] [0, 1, 4, 5, 6]) (.block 0 (.loop (.seq (.seq (.reg [ zM 15 6, zA 16 (.bin .gtr (.t 15) (.k (.c (.lit (.int .i64 0)))))] [0, 1, 4, 5, 6, 16]) (.cond (.t 16) .skip (.exit 0))) (.seq (.block 1 (.seq (.reg [ zM 19 0, ⟨none, some 20, .call 200 [.t 19]⟩, zM 7 20] [0, 1, 4, 5, 6, 7]) (.seq (.reg [ zM 21 0, zM 22 1, zA 23 (.bin .sub (.t 22) (.k (.c (.lit (.int .i64 1))))), ⟨none, some 24, .call 126 [.t 21, .t 23]⟩, zA 8 (.alloc 15 [.c (.lit (.int .i64 0)), .c (.lit (.int .i64 0)), .c (.str []), .nsl 1, .nsl 5]), zS (.store true 5 (.t 8) (.t 24))] [0, 1, 4, 5, 6, 7, 8]) (.seq (.reg [ zA 25 (.load true 5 (.t 5)), zM 26 7, ⟨none, some 27, .call 89 [.t 25, .t 26]⟩, zA 28 (.bin .lss (.t 27) (.k (.c (.lit (.int .i64 0)))))] [0, 1, 4, 5, 6, 7, 8, 28]) (.cond (.t 28) (.reg [ zA 30 (.load true 5 (.t 5)), zM 31 7, zA 32 (.load true 5 (.t 8)), ⟨none, some 33, .call 92 [.t 30, .t 31, .t 32]⟩, zM 29 33, zA 34 (.extract (.t 29) 0), zA 35 (.extract (.t 29) 1), zS (.store true 5 (.t 5) (.t 34))] [0, 1, 4, 5, 6]) .skip))))) (.reg [ zM 17 6, zA 18 (.bin .sub (.t 17) (.k (.c (.lit (.int .i64 1))))), zM 6 18] [0, 1, 4, 5, 6])))))) (.seq (.reg [ zA 36 (.load true 5 (.t 5)), zS (.store true 5 (.t 4) (.t 36))] [4]) .ret))))
theorem K.spec_randomMap : chkF Go.Proofs.Tryz.prog 174 2 1 C.spec_randomMap [.cell 4 true 5] = true := by kernel_rfl
def C.spec_randomNode : ACode := (.seq (.reg [ zA 4 (.alloc 10 [.c (.lit (.int .i64 0)), .c (.lit (.int .i64 0)), .c (.str []), .nsl 1, .nsl 5])] [0, 1, 4]) (.seq (.reg [ zM 8 0, ⟨none, some 9, .call 43 [.t 8, .k (.c (.lit (.int .i64 5)))]⟩, zM 5 9] [0, 1, 4, 5]) (.cut (.seq (.reg [ zM 10 1, zA 11 (.bin .leq (.t 10) (.k (.c (.lit (.int .i64 1)))))] [0, 1, 4, 5, 11]) (.cond (.t 11) (.reg [ zM 12 0, ⟨none, some 13, .call 43 [.t 12, .k (.c (.lit (.int .i64 3)))]⟩, zM 5 13] [0, 1, 4, 5]) .skip)) (.seq (.seq (.reg [ zM 14 5] [0, 1, 4, 5, 14]) (.block 0 (.seq (.reg [ zA 16 (.bin .eql (.t 14) (.k (.c (.lit (.int .i64 1))))), zM 15 16] [0, 1, 4, 5, 14, 15]) (.cond (.t 15) (.seq (.reg [ zM 17 5, zM 18 0, zM 19 0, ⟨none, some 20, .call 43 [.t 19, .k (.c (.lit (.int .i64 250)))]⟩, zA 21 (.bslice 11 1 8 [.lit (.int .i64 0)] [(0, .k (.c (.lit (.int .i64 0)))), (1, .k (.c (.lit (.int .i64 1)))), (2, .k (.c (.lit (.int .i64 2)))), (3, .k (.c (.lit (.int .i64 7)))), (4, .k (.c (.lit (.int .i64 (-7))))), (5, .k (.c (.lit (.int .i64 999999)))), (6, .k (.c (.lit (.int .i64 (-999999))))), (7, .t 20)]), ⟨none, some 22, .call 102 [.t 18, .t 21]⟩, zA 23 (.build [.c (.lit (.int .i64 0)), .c (.lit (.int .i64 0)), .c (.str []), .nsl 1, .nsl 5] [(0, 1, .t 17), (1, 1, .t 22)]), zS (.store true 5 (.t 4) (.t 23))] [4]) .ret) (.seq (.reg [ zA 25 (.bin .eql (.t 14) (.k (.c (.lit (.int .i64 2))))), zM 24 25] [0, 1, 4, 5, 14, 24]) (.cond (.t 24) (.seq (.reg [ zM 26 5, zM 27 0, ⟨none, some 28, .call 175 [.t 27]⟩, zA 29 (.build [.c (.lit (.int .i64 0)), .c (.lit (.int .i64 0)), .c (.str []), .nsl 1, .nsl 5] [(0, 1, .t 26), (2, 1, .t 28)]), zS (.store true 5 (.t 4) (.t 29))] [4]) .ret) (.seq (.reg [ zA 31 (.bin .eql (.t 14) (.k (.c (.lit (.int .i64 3))))), zM 30 31] [0, 1, 4, 5, 14, 30]) (.cond (.t 30) (.seq (.reg [ zA 32 (.bslice 12 5 0 [.lit (.int .i64 0), .lit (.int .i64 0), .str [], .sl 1 [], .sl 5 []] []), zM 6 32] [0, 1, 4, 5, 6]) (.seq (.seq (.reg [ zM 33 0, ⟨none, some 34, .call 43 [.t 33, .k (.c (.lit (.int .i64 4)))]⟩, zM 7 34] [0, 1, 4, 5, 6, 7]) (.block 1 (.loop (.seq (.seq (.reg [ zM 35 7, zA 36 (.bin .gtr (.t 35) (.k (.c (.lit (.int .i64 0)))))] [0, 1, 4, 5, 6, 7, 36]) (.cond (.t 36) .skip (.exit 1))) (.seq (.block 2 (.reg [ zM 39 6, zM 40 0, zM 41 1, zA 42 (.bin .sub (.t 41) (.k (.c (.lit (.int .i64 1))))), ⟨none, some 43, .call 126 [.t 40, .t 42]⟩, zA 44 (.bslice 13 5 1 [.lit (.int .i64 0), .lit (.int .i64 0), .str [], .sl 1 [], .sl 5 []] [(0, .t 43)]), zA 45 (.append 14 5 80 (.t 39) (.t 44)), zM 6 45] [0, 1, 4, 5, 6, 7])) (.reg [ zM 37 7, zA 38 (.bin .sub (.t 37) (.k (.c (.lit (.int .i64 1))))), zM 7 38] [0, 1, 4, 5, 6, 7])))))) (.seq (.reg [ zM 46 5, zA 47 (.bslice 15 1 0 [.str []] []), zM 48 6, zA 49 (.build [.c (.lit (.int .i64 0)), .c (.lit (.int .i64 0)), .c (.str []), .nsl 1, .nsl 5] [(0, 1, .t 46), (3, 1, .t 47), (4, 1, .t 48)]), zS (.store true 5 (.t 4) (.t 49))] [4]) .ret))) (.seq (.reg [ zA 51 (.bin .eql (.t 14) (.k (.c (.lit (.int .i64 4))))), zM 50 51] [0, 1, 4, 50]) (.cond (.t 50) (.seq (.reg [ zM 52 0, zM 53 1, ⟨none, some 54, .call 174 [.t 52, .t 53]⟩, zS (.store true 5 (.t 4) (.t 54))] [4]) .ret) .skip)))))))))) (.seq (.reg [ zA 55 (.build [.c (.lit (.int .i64 0)), .c (.lit (.int .i64 0)), .c (.str []), .nsl 1, .nsl 5] []), zS (.store true 5 (.t 4) (.t 55))] [4]) .ret)))))
theorem K.spec_randomNode : chkF Go.Proofs.Tryz.prog 126 2 1 C.spec_randomNode [.cell 4 true 5] = true := by kernel_rfl
def C.spec_someNode : ACode := (.seq (.reg [ zA 2 (.alloc 10 [.c (.lit (.int .i64 0)), .c (.lit (.int .i64 0)), .c (.str []), .nsl 1, .nsl 5])] [0, 2]) (.seq (.reg [ zM 4 0, ⟨none, some 5, .call 126 [.t 4, .k (.c (.lit (.int .i64 3)))]⟩, zA 3 (.alloc 11 [.c (.lit (.int .i64 0)), .c (.lit (.int .i64 0)), .c (.str []), .nsl 1, .nsl 5]), zS (.store true 5 (.t 3) (.t 5))] [0, 2, 3]) (.cut (.seq (.reg [ zM 6 0, ⟨none, some 7, .call 43 [.t 6, .k (.c (.lit (.int .i64 3)))]⟩, zA 8 (.bin .gtr (.t 7) (.k (.c (.lit (.int .i64 0)))))] [0, 2, 3, 8]) (.cond (.t 8) (.reg [ zM 9 0, ⟨none, some 10, .call 174 [.t 9, .k (.c (.lit (.int .i64 3)))]⟩, zS (.store true 5 (.t 3) (.t 10))] [2, 3]) .skip)) (.seq (.seq (.reg [ zA 11 (.load true 5 (.t 3)), ⟨none, some 12, .call 40 [.t 11]⟩, zA 13 (.not (.t 12))] [2, 3, 13]) (.cond (.t 13) (.seq (.reg [ zA 14 (.build [.c (.lit (.int .i64 0)), .c (.lit (.int .i64 0)), .c (.str []), .nsl 1, .nsl 5] []), zS (.store true 5 (.t 2) (.t 14))] [2]) .ret) .skip)) (.seq (.reg [ zA 15 (.load true 5 (.t 3)), zS (.store true 5 (.t 2) (.t 15))] [2]) .ret)))))
theorem K.spec_someNode : chkF Go.Proofs.Tryz.prog 122 1 1 C.spec_someNode [.cell 2 true 5] = true := by kernel_rfl
def C.spec_anyNode : ACode := (.seq (.reg [ zA 2 (.alloc 10 [.c (.lit (.int .i64 0)), .c (.lit (.int .i64 0)), .c (.str []), .nsl 1, .nsl 5])] [0, 2]) (.seq (.reg [ zM 6 0, ⟨none, some 7, .call 122 [.t 6]⟩, zA 3 (.alloc 11 [.c (.lit (.int .i64 0)), .c (.lit (.int .i64 0)), .c (.str []), .nsl 1, .nsl 5]), zS (.store true 5 (.t 3) (.t 7))] [0, 2, 3]) (.seq (.seq (.reg [ zM 8 0, ⟨none, some 9, .call 43 [.t 8, .k (.c (.lit (.int .i64 40)))]⟩] [0, 2, 3, 9]) (.block 0 (.seq (.reg [ zA 11 (.bin .eql (.t 9) (.k (.c (.lit (.int .i64 0))))), zM 10 11] [0, 2, 3, 9, 10]) (.cond (.t 10) (.reg [ zM 12 0, zA 13 (.bslice 12 1 4 [.lit (.int .i64 0)] [(0, .k (.c (.lit (.int .i64 (-1))))), (1, .k (.c (.lit (.int .i64 5)))), (2, .k (.c (.lit (.int .i64 0)))), (3, .k (.c (.lit (.int .i64 3))))]), ⟨none, some 14, .call 102 [.t 12, .t 13]⟩, zA 15 (.faddr 0 (.t 3)), zS (.store false 1 (.t 15) (.t 14))] [2, 3]) (.seq (.reg [ zA 17 (.bin .eql (.t 9) (.k (.c (.lit (.int .i64 1))))), zM 16 17] [0, 2, 3, 9, 16]) (.cond (.t 16) (.reg [ zM 18 0, zA 19 (.bslice 13 1 2 [.lit (.int .i64 0)] [(0, .k (.c (.lit (.int .i64 1)))), (1, .k (.c (.lit (.int .i64 1000000))))]), ⟨none, some 20, .call 102 [.t 18, .t 19]⟩, zA 21 (.faddr 1 (.t 3)), zS (.store false 1 (.t 21) (.t 20))] [2, 3]) (.seq (.reg [ zA 23 (.bin .eql (.t 9) (.k (.c (.lit (.int .i64 2))))), zM 22 23] [0, 2, 3, 9, 22]) (.cond (.t 22) (.reg [ zA 24 (.faddr 2 (.t 3)), zS (.store false 1 (.t 24) (.k (.c (.str [97, 98, 99, 100, 101, 102, 103, 104, 105, 106, 107, 108, 109]))))] [2, 3]) (.seq (.reg [ zA 26 (.bin .eql (.t 9) (.k (.c (.lit (.int .i64 3))))), zM 25 26] [0, 2, 3, 9, 25]) (.cond (.t 25) (.reg [ zA 27 (.faddr 3 (.t 3)), zA 28 (.load false 1 (.t 27)), zA 29 (.bslice 14 1 1 [.str []] [(0, .k (.c (.str [])))]), zA 30 (.append 15 1 16 (.t 28) (.t 29)), zA 31 (.faddr 3 (.t 3)), zS (.store false 1 (.t 31) (.t 30))] [2, 3]) (.seq (.reg [ zA 33 (.bin .eql (.t 9) (.k (.c (.lit (.int .i64 4))))), zM 32 33] [0, 2, 3, 9, 32]) (.cond (.t 32) (.reg [ zA 34 (.load true 5 (.t 3)), zA 35 (.bslice 16 5 1 [.lit (.int .i64 0), .lit (.int .i64 0), .str [], .sl 1 [], .sl 5 []] [(0, .t 34)]), zA 36 (.build [.c (.lit (.int .i64 0)), .c (.lit (.int .i64 0)), .c (.str []), .nsl 1, .nsl 5] [(0, 1, .k (.c (.lit (.int .i64 3)))), (4, 1, .t 35)]), zA 37 (.bslice 17 5 1 [.lit (.int .i64 0), .lit (.int .i64 0), .str [], .sl 1 [], .sl 5 []] [(0, .t 36)]), zA 38 (.build [.c (.lit (.int .i64 0)), .c (.lit (.int .i64 0)), .c (.str []), .nsl 1, .nsl 5] [(0, 1, .k (.c (.lit (.int .i64 3)))), (4, 1, .t 37)]), zA 39 (.bslice 18 5 1 [.lit (.int .i64 0), .lit (.int .i64 0), .str [], .sl 1 [], .sl 5 []] [(0, .t 38)]), zA 40 (.build [.c (.lit (.int .i64 0)), .c (.lit (.int .i64 0)), .c (.str []), .nsl 1, .nsl 5] [(0, 1, .k (.c (.lit (.int .i64 3)))), (4, 1, .t 39)]), zA 41 (.bslice 19 5 1 [.lit (.int .i64 0), .lit (.int .i64 0), .str [], .sl 1 [], .sl 5 []] [(0, .t 40)]), zA 42 (.build [.c (.lit (.int .i64 0)), .c (.lit (.int .i64 0)), .c (.str []), .nsl 1, .nsl 5] [(0, 1, .k (.c (.lit (.int .i64 3)))), (4, 1, .t 41)]), zS (.store true 5 (.t 3) (.t 42))] [2, 3]) (.seq (.reg [ zA 44 (.bin .eql (.t 9) (.k (.c (.lit (.int .i64 5))))), zM 43 44] [0, 2, 3, 43]) (.cond (.t 43) (.seq (.reg [ zA 45 (.bslice 20 5 0 [.lit (.int .i64 0), .lit (.int .i64 0), .str [], .sl 1 [], .sl 5 []] []), zM 4 45] [0, 2, 3, 4]) (.seq (.seq (.reg [ zA 5 (.mv (.k (.c (.lit (.int .i64 0)))))] [0, 2, 3, 4, 5]) (.block 1 (.loop (.seq (.seq (.reg [ zM 46 5, zM 47 0, ⟨none, some 48, .call 43 [.t 47, .k (.c (.lit (.int .i64 2)))]⟩, zA 49 (.bin .add (.k (.c (.lit (.int .i64 6)))) (.t 48)), zA 50 (.bin .lss (.t 46) (.t 49))] [0, 2, 3, 4, 5, 50]) (.cond (.t 50) .skip (.exit 1))) (.seq (.block 2 (.reg [ zM 53 4, zA 54 (.load true 5 (.t 3)), ⟨none, some 55, .call 88 [.t 54]⟩, zA 56 (.bslice 21 5 1 [.lit (.int .i64 0), .lit (.int .i64 0), .str [], .sl 1 [], .sl 5 []] [(0, .t 55)]), zA 57 (.append 22 5 80 (.t 53) (.t 56)), zM 4 57] [0, 2, 3, 4, 5])) (.reg [ zM 51 5, zA 52 (.bin .add (.t 51) (.k (.c (.lit (.int .i64 1))))), zM 5 52] [0, 2, 3, 4, 5])))))) (.reg [ zM 58 4, zA 59 (.build [.c (.lit (.int .i64 0)), .c (.lit (.int .i64 0)), .c (.str []), .nsl 1, .nsl 5] [(0, 1, .k (.c (.lit (.int .i64 3)))), (4, 1, .t 58)]), zS (.store true 5 (.t 3) (.t 59))] [2, 3]))) .skip)))))))))))))) (.seq (.reg [ zA 60 (.load true 5 (.t 3)), zS (.store true 5 (.t 2) (.t 60))] [2]) .ret))))
theorem K.spec_anyNode : chkF Go.Proofs.Tryz.prog 75 1 1 C.spec_anyNode [.cell 2 true 5] = true := by kernel_rfl
def C.spec_all : ACode := (.seq (.reg [ zA 1 (.box 10 (.t 0)), zA 2 (.mv (.k (.nsl 1)))] [1]) (.seq (.reg [ zA 8 (.bslice 11 1 0 [.str []] []), zA 9 (.bslice 12 1 1 [.sl 1 []] [(0, .t 8)]), zM 3 9] [1, 3]) (.seq (.seq (.reg [ zA 4 (.mv (.k (.c (.lit (.int .i64 0)))))] [1, 3, 4]) (.block 0 (.loop (.seq (.seq (.reg [ zM 10 4, zA 11 (.faddr 4 (.t 1)), zA 12 (.load false 1 (.t 11)), zA 13 (.len (.t 12)), zA 14 (.bin .lss (.t 10) (.t 13))] [1, 3, 4, 14]) (.cond (.t 14) .skip (.exit 0))) (.seq (.block 1 (.seq (.reg [ zM 17 4, ⟨none, some 18, .call 135 [.t 17]⟩, zM 5 18] [1, 3, 4, 5]) (.cut (.seq (.reg [ zA 19 (.faddr 0 (.t 1)), zA 20 (.load false 1 (.t 19)), zA 21 (.bin .eql (.t 20) (.k (.c (.lit (.int .i64 4)))))] [1, 3, 4, 5, 21]) (.cond (.t 21) (.reg [ zA 22 (.faddr 3 (.t 1)), zA 23 (.load false 1 (.t 22)), zM 24 4, zA 25 (.iaddr 1 (.t 23) (.t 24)), zA 26 (.load false 1 (.t 25)), zM 5 26] [1, 3, 4, 5]) .skip)) (.seq (.reg [ zA 27 (.faddr 4 (.t 1)), zA 28 (.load false 1 (.t 27)), zM 29 4, zA 30 (.iaddr 5 (.t 28) (.t 29)), zA 31 (.load true 5 (.t 30)), ⟨none, some 32, .call 123 [.t 31]⟩, zM 6 32] [1, 3, 4, 5, 6]) (.seq (.reg [ zA 7 (.mv (.k (.c (.lit (.int .i64 0)))))] [1, 3, 4, 5, 6, 7]) (.block 2 (.loop (.seq (.seq (.reg [ zM 33 7, zM 34 6, zA 35 (.len (.t 34)), zA 36 (.bin .lss (.t 33) (.t 35))] [1, 3, 4, 5, 6, 7, 36]) (.cond (.t 36) .skip (.exit 2))) (.seq (.block 3 (.reg [ zM 39 3, zM 40 5, zA 41 (.bslice 13 1 1 [.str []] [(0, .t 40)]), zM 42 6, zM 43 7, zA 44 (.iaddr 1 (.t 42) (.t 43)), zA 45 (.load false 1 (.t 44)), zA 46 (.append 14 1 16 (.t 41) (.t 45)), zA 47 (.bslice 15 1 1 [.sl 1 []] [(0, .t 46)]), zA 48 (.append 16 1 24 (.t 39) (.t 47)), zM 3 48] [1, 3, 4, 5, 6, 7])) (.reg [ zM 37 7, zA 38 (.bin .add (.t 37) (.k (.c (.lit (.int .i64 1))))), zM 7 38] [1, 3, 4, 5, 6, 7])))))))))) (.reg [ zM 15 4, zA 16 (.bin .add (.t 15) (.k (.c (.lit (.int .i64 1))))), zM 4 16] [1, 3, 4])))))) (.seq (.reg [ zM 49 3, zM 2 49] [2]) .ret))))
theorem K.spec_all : chkF Go.Proofs.Tryz.prog 123 1 0 C.spec_all [.tmp 2] = true := by kernel_rfl
def C.spec_nearNode : ACode := (.seq (.reg [ zA 3 (.box 10 (.t 1)), zA 4 (.alloc 11 [.c (.lit (.int .i64 0)), .c (.lit (.int .i64 0)), .c (.str []), .nsl 1, .nsl 5])] [0, 3, 4]) (.seq (.reg [ zA 9 (.load true 5 (.t 3)), ⟨none, some 10, .call 123 [.t 9]⟩, zM 5 10] [0, 3, 4, 5]) (.seq (.reg [ zM 11 5, zM 12 0, zM 13 5, zA 14 (.len (.t 13)), ⟨none, some 15, .call 43 [.t 12, .t 14]⟩, zA 16 (.iaddr 1 (.t 11) (.t 15)), zA 17 (.load false 1 (.t 16)), zM 6 17] [0, 3, 4, 6]) (.seq (.reg [ zA 18 (.load true 5 (.t 3)), ⟨none, some 19, .call 88 [.t 18]⟩, zA 7 (.alloc 12 [.c (.lit (.int .i64 0)), .c (.lit (.int .i64 0)), .c (.str []), .nsl 1, .nsl 5]), zS (.store true 5 (.t 7) (.t 19))] [0, 3, 4, 6, 7]) (.seq (.reg [ zA 8 (.mv (.k (.c (.lit (.bool true)))))] [0, 3, 4, 6, 7, 8]) (.cut (.seq (.reg [ zM 20 0, ⟨none, some 21, .call 43 [.t 20, .k (.c (.lit (.int .i64 5)))]⟩] [0, 3, 4, 6, 7, 8, 21]) (.block 0 (.seq (.reg [ zA 23 (.bin .eql (.t 21) (.k (.c (.lit (.int .i64 0))))), zM 22 23] [0, 3, 4, 6, 7, 8, 21, 22]) (.cond (.t 22) (.reg [ zA 25 (.load true 5 (.t 3)), zM 26 6, ⟨none, some 27, .call 90 [.t 25, .t 26]⟩, zM 24 27, zA 28 (.extract (.t 24) 0), zA 29 (.extract (.t 24) 1), zS (.store true 5 (.t 7) (.t 28)), zM 8 29] [3, 4, 7, 8]) (.seq (.reg [ zA 31 (.bin .eql (.t 21) (.k (.c (.lit (.int .i64 1))))), zM 30 31] [0, 3, 4, 6, 7, 8, 21, 30]) (.cond (.t 30) (.regD [ (zA 33 (.load true 5 (.t 3)), []), (zA 34 (.bslice 13 1 0 [.str []] []), []), (zM 35 6, []), (zA 36 (.append 14 1 16 (.t 34) (.t 35)), [1, 2]), (zM 37 0, []), (zA 38 (.bslice 15 1 4 [.str []] [(0, .k (.c (.str [97]))), (1, .k (.c (.str [48]))), (2, .k (.c (.str [45]))), (3, .k (.c (.str [122])))]), []), (⟨none, some 39, .call 125 [.t 37, .t 38]⟩, [1, 2, 3, 4, 5]), (zA 40 (.bslice 16 1 1 [.str []] [(0, .t 39)]), [1, 2, 3, 4, 5, 6]), (zA 41 (.append 17 1 16 (.t 36) (.t 40)), [1, 2, 3, 4, 5, 6, 7]), (zM 42 0, []), (⟨none, some 43, .call 126 [.t 42, .k (.c (.lit (.int .i64 2)))]⟩, [1, 2, 3, 4, 5, 6, 7, 8, 9]), (⟨none, some 44, .call 124 [.t 33, .t 41, .t 43]⟩, [0, 1, 2, 3, 4, 5, 6, 7, 8, 9, 10]), (zM 32 44, [0, 1, 2, 3, 4, 5, 6, 7, 8, 9, 10, 11]), (zA 45 (.extract (.t 32) 0), [0, 1, 2, 3, 4, 5, 6, 7, 8, 9, 10, 11, 12]), (zA 46 (.extract (.t 32) 1), [0, 1, 2, 3, 4, 5, 6, 7, 8, 9, 10, 11, 12]), (zS (.store true 5 (.t 7) (.t 45)), [0, 1, 2, 3, 4, 5, 6, 7, 8, 9, 10, 11, 12, 13]), (zM 8 46, [0, 1, 2, 3, 4, 5, 6, 7, 8, 9, 10, 11, 12, 13, 14, 15])] [3, 4, 7, 8]) (.seq (.reg [ zA 48 (.bin .eql (.t 21) (.k (.c (.lit (.int .i64 2))))), zM 47 48] [0, 3, 4, 6, 7, 8, 21, 47]) (.cond (.t 47) (.regD [ (zA 50 (.load true 5 (.t 3)), []), (zM 51 6, []), (zM 52 0, []), (⟨none, some 53, .call 126 [.t 52, .k (.c (.lit (.int .i64 2)))]⟩, [2]), (⟨none, some 54, .call 127 [.t 50, .t 51, .t 53]⟩, [0, 1, 2, 3]), (zM 49 54, [0, 1, 2, 3, 4]), (zA 55 (.extract (.t 49) 0), [0, 1, 2, 3, 4, 5]), (zA 56 (.extract (.t 49) 1), [0, 1, 2, 3, 4, 5]), (zS (.store true 5 (.t 7) (.t 55)), [0, 1, 2, 3, 4, 5, 6]), (zM 8 56, [0, 1, 2, 3, 4, 5, 6, 7, 8])] [3, 4, 7, 8]) (.seq (.reg [ zA 58 (.bin .eql (.t 21) (.k (.c (.lit (.int .i64 3))))), zM 57 58] [0, 3, 4, 7, 8, 57]) (.cond (.t 57) (.seq (.reg [ zM 59 0, ⟨none, some 60, .call 122 [.t 59]⟩, zS (.store true 5 (.t 4) (.t 60))] [4]) .ret) .skip)))))))))) (.seq (.seq (.reg [ zM 61 8, zA 62 (.not (.t 61)), zM 63 62, zG 63 false 64 (.load true 5 (.t 7)), ⟨(some (63, false)), some 65, .call 40 [.t 64]⟩, zG 63 false 66 (.not (.t 65)), zA 67 (.pick (.t 63) (.k (.c (.lit (.bool true)))) (.t 66))] [3, 4, 7, 67]) (.cond (.t 67) (.seq (.reg [ zA 68 (.load true 5 (.t 3)), ⟨none, some 69, .call 88 [.t 68]⟩, zS (.store true 5 (.t 4) (.t 69))] [4]) .ret) .skip)) (.seq (.reg [ zA 70 (.load true 5 (.t 7)), zS (.store true 5 (.t 4) (.t 70))] [4]) .ret))))))))
theorem K.spec_nearNode : chkF Go.Proofs.Tryz.prog 76 2 1 C.spec_nearNode [.cell 4 true 5] = true := by kernel_rfl
def C.spec_anyPair : ACode := (.seq (.reg [ zA 2 (.alloc 10 [.c (.lit (.int .i64 0)), .c (.lit (.int .i64 0)), .c (.str []), .nsl 1, .nsl 5]), zA 3 (.alloc 11 [.c (.lit (.int .i64 0)), .c (.lit (.int .i64 0)), .c (.str []), .nsl 1, .nsl 5])] [0, 2, 3]) (.seq (.reg [ zM 5 0, ⟨none, some 6, .call 75 [.t 5]⟩, zA 4 (.alloc 12 [.c (.lit (.int .i64 0)), .c (.lit (.int .i64 0)), .c (.str []), .nsl 1, .nsl 5]), zS (.store true 5 (.t 4) (.t 6))] [0, 2, 3, 4]) (.seq (.seq (.reg [ zA 7 (.load true 5 (.t 4)), ⟨none, some 8, .call 40 [.t 7]⟩, zM 9 8, zG 9 true 10 (.mv (.t 0)), ⟨(some (9, true)), some 11, .call 43 [.t 10, .k (.c (.lit (.int .i64 3)))]⟩, zG 9 true 12 (.bin .gtr (.t 11) (.k (.c (.lit (.int .i64 0))))), zA 13 (.pick (.t 9) (.t 12) (.k (.c (.lit (.bool false)))))] [0, 2, 3, 4, 13]) (.cond (.t 13) (.seq (.regD [ (zA 14 (.load true 5 (.t 4)), []), (zM 15 0, []), (zA 16 (.load true 5 (.t 4)), []), (⟨none, some 17, .call 76 [.t 15, .t 16]⟩, [1, 2]), (zS (.store true 5 (.t 2) (.t 14)), [0, 1, 2, 3]), (zS (.store true 5 (.t 3) (.t 17)), [0, 1, 2, 3, 4])] [2, 3]) .ret) .skip)) (.seq (.regD [ (zA 18 (.load true 5 (.t 4)), []), (zM 19 0, []), (⟨none, some 20, .call 75 [.t 19]⟩, [1]), (zS (.store true 5 (.t 2) (.t 18)), [0, 1, 2]), (zS (.store true 5 (.t 3) (.t 20)), [0, 1, 2, 3])] [2, 3]) .ret))))
theorem K.spec_anyPair : chkF Go.Proofs.Tryz.prog 36 1 1 C.spec_anyPair [.cell 2 true 5, .cell 3 true 5] = true := by kernel_rfl
def C.spec_newReader : ACode := (.seq (.reg [ zA 2 (.mv (.k (.c (.lit (.pointer none)))))] [0]) (.seq (.seq (.reg [ zM 3 0, zA 4 (.len (.t 3)), zA 5 (.bin .gtr (.t 4) (.k (.c (.lit (.int .i64 2000)))))] [0, 5]) (.cond (.t 5) (.reg [ zM 6 0, zA 7 (.slsl 1 (.t 6) none (some (.k (.c (.lit (.int .i64 2000)))))), zM 0 7] [0]) .skip)) (.seq (.reg [ zM 8 0, zA 9 (.build [.nsl 1, .c (.lit (.int .i64 0))] [(0, 1, .t 8)]), zA 10 (.box 10 (.t 9)), zM 2 10] [2]) .ret)))
theorem K.spec_newReader : chkF Go.Proofs.Tryz.prog 37 1 0 C.spec_newReader [.tmp 2] = true := by kernel_rfl
def C.spec_DrawDiffNodes : ACode := (.seq (.reg [ zA 2 (.alloc 10 [.c (.lit (.int .i64 0)), .c (.lit (.int .i64 0)), .c (.str []), .nsl 1, .nsl 5]), zA 3 (.alloc 11 [.c (.lit (.int .i64 0)), .c (.lit (.int .i64 0)), .c (.str []), .nsl 1, .nsl 5])] [0, 2, 3]) (.seq (.reg [ zM 4 0, ⟨none, some 5, .call 37 [.t 4]⟩, ⟨none, some 6, .call 36 [.t 5]⟩, zA 7 (.extract (.t 6) 0), zA 8 (.extract (.t 6) 1), zS (.store true 5 (.t 2) (.t 7)), zS (.store true 5 (.t 3) (.t 8))] [2, 3]) .ret))
theorem K.spec_DrawDiffNodes : chkF Go.Proofs.Tryz.prog 22 1 0 C.spec_DrawDiffNodes [.cell 2 true 5, .cell 3 true 5] = true := by kernel_rfl
def C.laws_FnDiffNodesKinds : ACode := (.seq (.reg [ zA 2 (.mv (.k (.c (.lit (.bool false)))))] [0]) (.seq (.seq (.reg [ zM 10 0, zA 11 (.len (.t 10)), zA 12 (.bin .gtr (.t 11) (.k (.c (.lit (.int .i64 1048576)))))] [0, 12]) (.cond (.t 12) (.seq (.reg [ zA 2 (.mv (.k (.c (.lit (.bool true)))))] [2]) .ret) .skip)) (.seq (.reg [ zM 14 0, ⟨none, some 15, .call 22 [.t 14]⟩, zM 13 15, zA 16 (.extract (.t 13) 0), zA 17 (.extract (.t 13) 1), zA 3 (.alloc 10 [.c (.lit (.int .i64 0)), .c (.lit (.int .i64 0)), .c (.str []), .nsl 1, .nsl 5]), zA 4 (.alloc 11 [.c (.lit (.int .i64 0)), .c (.lit (.int .i64 0)), .c (.str []), .nsl 1, .nsl 5]), zS (.store true 5 (.t 3) (.t 16)), zS (.store true 5 (.t 4) (.t 17))] [3, 4]) (.seq (.reg [ zA 19 (.load true 5 (.t 3)), zA 20 (.load true 5 (.t 4)), ⟨none, some 21, .call 15 [.t 19, .t 20]⟩, zM 18 21, zA 22 (.extract (.t 18) 0), zA 23 (.extract (.t 18) 1), zM 5 22, zM 6 23] [3, 4, 5, 6]) (.seq (.reg [ zA 25 (.load true 5 (.t 3)), zA 26 (.load true 5 (.t 4)), ⟨none, some 27, .call 23 [.t 25, .t 26]⟩, zM 24 27, zA 28 (.extract (.t 24) 0), zA 29 (.extract (.t 24) 1), zM 7 28, zM 8 29] [5, 6, 7, 8]) (.seq (.seq (.reg [ zM 30 5, zM 31 7, ⟨none, some 32, .call 24 [.t 30, .t 31]⟩, zA 33 (.not (.t 32)), zM 34 33, zG 34 false 35 (.mv (.t 6)), zG 34 false 36 (.mv (.t 8)), zG 34 false 37 (.beq true (.t 35) (.t 36)), zA 38 (.pick (.t 34) (.k (.c (.lit (.bool true)))) (.t 37))] [5, 38]) (.cond (.t 38) (.seq (.reg [ zA 2 (.mv (.k (.c (.lit (.bool false)))))] [2]) .ret) .skip)) (.seq (.seq (.reg [ zA 9 (.mv (.k (.c (.lit (.int .i64 0)))))] [5, 9]) (.block 0 (.loop (.seq (.seq (.reg [ zM 39 9, zM 40 5, zA 41 (.len (.t 40)), zA 42 (.bin .lss (.t 39) (.t 41))] [5, 9, 42]) (.cond (.t 42) .skip (.exit 0))) (.seq (.block 1 (.seq (.reg [ zM 45 5, zM 46 9, zA 47 (.iaddr 8 (.t 45) (.t 46)), zA 48 (.faddr 0 (.t 47)), zA 49 (.load false 1 (.t 48)), zA 50 (.bin .lss (.t 49) (.k (.c (.lit (.int .i64 1))))), zM 51 50, zG 51 false 52 (.mv (.t 5)), zG 51 false 53 (.mv (.t 9)), zG 51 false 54 (.iaddr 8 (.t 52) (.t 53)), zG 51 false 55 (.faddr 0 (.t 54)), zG 51 false 56 (.load false 1 (.t 55)), zG 51 false 57 (.bin .gtr (.t 56) (.k (.c (.lit (.int .i64 3))))), zA 58 (.pick (.t 51) (.k (.c (.lit (.bool true)))) (.t 57)), zM 59 58, zG 59 false 60 (.mv (.t 5)), zG 59 false 61 (.mv (.t 9)), zG 59 false 62 (.iaddr 8 (.t 60) (.t 61)), zG 59 false 63 (.faddr 2 (.t 62)), zG 59 false 64 (.load false 1 (.t 63)), zG 59 false 65 (.len (.t 64)), zG 59 false 66 (.bin .gtr (.t 65) (.k (.c (.lit (.int .i64 0))))), zA 67 (.pick (.t 59) (.k (.c (.lit (.bool true)))) (.t 66))] [5, 9, 67]) (.cond (.t 67) (.seq (.reg [ zA 2 (.mv (.k (.c (.lit (.bool false)))))] [2]) .ret) .skip))) (.reg [ zM 43 9, zA 44 (.bin .add (.t 43) (.k (.c (.lit (.int .i64 1))))), zM 9 44] [5, 9])))))) (.seq (.reg [ zM 68 5, zA 69 (.len (.t 68)), zA 70 (.bin .leq (.t 69) (.k (.c (.lit (.int .i64 12))))), zM 2 70] [2]) .ret))))))))
theorem K.laws_FnDiffNodesKinds : chkF Go.Proofs.Tryz.prog 6 1 0 C.laws_FnDiffNodesKinds [.tmp 2] = true := by kernel_rfl
end Go.Ab
end
section
namespace Go.Ab
open Go
def Ev {α : Type} (g : Nat → Option α) (r : α) : Prop := ∃ N, ∀ n, N ≤ n → g n = some r
section
variable {α β : Type} {g g' : Nat → Option α} {r s : α}
theorem Ev.ret (r : α) : Ev (fun _ => some r) r := ⟨0, fun _ _ => rfl⟩
theorem Ev.ret' (h : s = r) : Ev (fun _ => some s) r := by subst h; exact Ev.ret _
theorem Ev.up (h : Ev (fun n => g (n + 1)) r) : Ev g r := by
  obtain ⟨N, h⟩ := h
  refine ⟨N + 1, fun n hn => ?_⟩
  obtain ⟨m, rfl⟩ : ∃ m, n = m + 1 := ⟨n - 1, by omega⟩
  exact h m (by omega)
theorem Ev.bind {h : Nat → Option β} {k : Nat → β → Option α} {a : β} (h1 : Ev h a) (h2 : Ev (fun n => k n a) r) : Ev (fun n => Option.bind (h n) (k n)) r := by
  obtain ⟨N, h1⟩ := h1
  obtain ⟨M, h2⟩ := h2
  refine ⟨max N M, fun n hn => ?_⟩
  show Option.bind (h n) (k n) = some r
  rw [h1 n (by omega)]
  exact h2 n (by omega)
theorem Ev.chk {p : Prop} [Decidable p] (hp : p) (h : Ev g r) : Ev (fun n => Ab.chk p (g n)) r := by
  obtain ⟨N, h⟩ := h
  exact ⟨N, fun n hn => by show Ab.chk p (g n) = some r; rw [Ab.chk, if_pos hp]; exact h n hn⟩
theorem Ev.ct {c : Bool} (hc : c = true) (h : Ev g r) : Ev (fun n => cond c (g n) (g' n)) r := by subst hc; exact h
theorem Ev.cf {c : Bool} (hc : c = false) (h : Ev g' r) : Ev (fun n => cond c (g n) (g' n)) r := by subst hc; exact h
theorem Ev.ite {c : Bool} (h : c = true → Ev g r) (h' : c = false → Ev g' r) : Ev (fun n => cond c (g n) (g' n)) r := by
  cases c
  · exact h' rfl
  · exact h rfl
theorem Ev.eq (h : Ev g r) (e : r = s) : Ev g s := e ▸ h
theorem Ev.val (h : Ev g r) : ∃ n, g n = some r := ⟨h.choose, h.choose_spec _ (Nat.le_refl _)⟩
end
theorem wrapN {x : Int} {m : Nat} (h : x = (m : Int)) (h1 : m < 9223372036854775808) : IntKind.wrap .i64 x = (m : Int) := by
  rw [wrap_id (by omega) (by omega), h]
theorem wrap_suc {i : Nat} (h1 : i + 1 < 9223372036854775808) : IntKind.wrap .i64 ((i : Int) + 1) = ((i + 1 : Nat) : Int) := wrapN (by omega) h1
theorem getD_of_lt {α : Type} {l : List α} {i : Nat} (d : α) (h : i < l.length) : l.getD i d = l[i] := by simp [List.getD, h]
theorem drop_of_lt {α : Type} {l : List α} {i : Nat} (d : α) (h : i < l.length) : l.drop i = l.getD i d :: l.drop (i + 1) := by
  rw [getD_of_lt d h, List.drop_eq_getElem_cons h]
abbrev bl (x y : List UInt8) : Bool := Op.bytesLess x y
theorem bl_nil (x : List UInt8) : bl x [] = false := by cases x <;> rfl
theorem bl_cons (a b : UInt8) (x y : List UInt8) : bl (a :: x) (b :: y) = (decide (a < b) || (a == b && bl x y)) := rfl
theorem bl_irr : ∀ x : List UInt8, bl x x = false
  | [] => rfl
  | a :: x => by rw [bl_cons, bl_irr x]; simp
theorem bl_trans : ∀ {x y z : List UInt8}, bl x y = true → bl y z = true → bl x z = true
  | _, [], _, h, _ => by rw [bl_nil] at h; cases h
  | _, _ :: _, [], _, h => by rw [bl_nil] at h; cases h
  | [], _ :: _, _ :: _, _, _ => rfl
  | a :: x, b :: y, c :: z, h, k => by
    rw [bl_cons] at *
    simp only [Bool.or_eq_true, Bool.and_eq_true, decide_eq_true_eq, beq_iff_eq] at *
    rcases h with h | ⟨rfl, h⟩ <;> rcases k with k | ⟨rfl, k⟩
    · exact .inl (UInt8.lt_trans h k)
    · exact .inl h
    · exact .inl k
    · exact .inr ⟨rfl, bl_trans h k⟩
theorem bl_tri : ∀ {x y : List UInt8}, bl x y = false → bl y x = false → x = y
  | [], [], _, _ => rfl
  | [], _ :: _, h, _ => by cases h
  | _ :: _, [], _, h => by cases h
  | a :: x, b :: y, h, k => by
    rw [bl_cons] at *
    simp only [Bool.or_eq_false_iff, Bool.and_eq_false_iff, decide_eq_false_iff_not] at *
    obtain ⟨h1, h2⟩ := h
    obtain ⟨k1, k2⟩ := k
    have e : a = b := by
      apply UInt8.toNat_inj.1
      simp only [UInt8.lt_iff_toNat_lt] at h1 k1
      omega
    subst e
    simp only [beq_self_eq_true, Bool.true_eq_false, false_or] at h2 k2
    rw [bl_tri h2 k2]
theorem bl_asymm {x y : List UInt8} (h : bl x y = true) : bl y x = false := by
  cases k : bl y x with
  | false => rfl
  | true => have := bl_trans h k; rw [bl_irr] at this; cases this
theorem bl_ne {x y : List UInt8} (h : bl x y = true) : x ≠ y := by
  intro e; subst e; rw [bl_irr] at h; cases h
theorem cmpB : ∀ (x y : List UInt8), Go.Lib.compareBytes x y = if bl x y then -1 else if x = y then 0 else 1
  | [], [] => rfl
  | [], _ :: _ => rfl
  | _ :: _, [] => by simp [Go.Lib.compareBytes, bl_nil]
  | a :: x, b :: y => by
    rw [Go.Lib.compareBytes, bl_cons]
    by_cases h : a < b
    · simp [h]
    · by_cases k : b < a
      · have : a ≠ b := fun e => by subst e; exact h k
        simp [h, k, this]
      · have e : a = b := by
          apply UInt8.toNat_inj.1
          simp only [UInt8.lt_iff_toNat_lt] at h k
          omega
        subst e
        rw [if_neg h, if_neg h, cmpB x y]
        simp
theorem cmpB_zero {x y : List UInt8} : Go.Lib.compareBytes x y = 0 ↔ x = y := by
  rw [cmpB]
  by_cases h : bl x y = true
  · simp only [h, if_true]
    exact ⟨fun e => by omega, fun e => absurd e (bl_ne h)⟩
  · simp only [h]
    by_cases e : x = y <;> simp [e]
end Go.Ab
end
section
namespace Go.Ab
open Go
def okB (b : UInt8) : Bool := decide (32 ≤ b.toNat) && decide (b.toNat ≤ 126)
def PT (s : Txt) : Bool := s.all okB && decide (s.length ≤ 12)
def PP (p : List Txt) : Bool := p.all PT && decide (p.length ≤ 5)
def Asc : List Txt → Bool
  | [] => true
  | [_] => true
  | x :: y :: r => Op.bytesLess x y && Asc (y :: r)
def big : Nat := 4611686018427387904
theorem byte_wrap (b : UInt8) : IntKind.wrap .i64 ((b.toNat : Nat) : Int) = (b.toNat : Int) := by
  have := b.toNat_lt
  exact wrapN rfl (by omega)
theorem T.spec_inRange (a lo hi : Int) : Ev (fun n => G.spec_inRange n a lo hi) (decide (lo ≤ a) && decide (a ≤ hi)) := by
  refine Ev.up ?_
  simp only [G.spec_inRange]
  refine Ev.ite (fun h => ?_) (fun h => ?_)
  · exact Ev.ret' (by rw [h, Bool.true_and])
  · exact Ev.ret' (by rw [h, Bool.false_and])
theorem T.spec_validText.L1 (s : Txt) (hs : s.length < big) : ∀ (k i : Nat), i + k = s.length → Ev (fun n => G.spec_validText.L1 n s i) ((s.drop i).all okB && decide (s.length ≤ 12)) := by
  unfold big at hs
  intro k
  induction k with
  | zero =>
    intro i hi
    refine Ev.up ?_
    simp only [G.spec_validText.L1]
    refine Ev.cf (by simp; omega) (Ev.ret' ?_)
    rw [List.drop_of_length_le (by omega)]
    simp
    omega
  | succ k ih =>
    intro i hi
    refine Ev.up ?_
    simp only [G.spec_validText.L1]
    refine Ev.ct (by simp; omega) (Ev.chk (by omega) ?_)
    refine Ev.bind (T.spec_inRange _ _ _) ?_
    rw [drop_of_lt (0 : UInt8) (by omega : i < s.length), List.all_cons, Int.toNat_natCast, byte_wrap]
    have e : (decide ((32 : Int) ≤ ((s.getD i 0).toNat : Int)) && decide (((s.getD i 0).toNat : Int) ≤ 126)) = okB (s.getD i 0) := by
      unfold okB; congr 1 <;> (apply decide_eq_decide.2; omega)
    rw [e]
    refine Ev.ite (fun h => ?_) (fun h => ?_)
    · rw [wrap_suc (by omega), h, Bool.true_and]
      exact ih (i + 1) (by omega)
    · exact Ev.ret' (by rw [h]; rfl)
theorem T.spec_validText (s : Txt) (hs : s.length < big) : Ev (fun n => G.spec_validText n s) (PT s) := by
  refine Ev.up ?_
  simp only [G.spec_validText]
  exact T.spec_validText.L1 s hs s.length 0 (by omega)
theorem T.impl_isPlainText.L1 (s : Txt) (hs : s.length < big) : ∀ (k i : Nat), i + k = s.length → Ev (fun n => G.impl_isPlainText.L1 n s i) ((s.drop i).all okB) := by
  unfold big at hs
  intro k
  induction k with
  | zero =>
    intro i hi
    refine Ev.up ?_
    simp only [G.impl_isPlainText.L1]
    refine Ev.cf (by simp; omega) (Ev.ret' ?_)
    rw [List.drop_of_length_le (by omega)]
    rfl
  | succ k ih =>
    intro i hi
    refine Ev.up ?_
    simp only [G.impl_isPlainText.L1]
    rw [drop_of_lt (0 : UInt8) (by omega : i < s.length), List.all_cons, Int.toNat_natCast]
    refine Ev.ct (by simp; omega) (Ev.chk (by omega) ?_)
    refine Ev.ite (fun h => ?_) (fun h => ?_)
    · refine Ev.ret' ?_
      have : okB (s.getD i 0) = false := by
        simp only [decide_eq_true_eq] at h
        simp only [okB, Bool.and_eq_false_iff, decide_eq_false_iff_not]
        omega
      rw [this]; rfl
    · refine Ev.chk (by omega) ?_
      refine Ev.ite (fun k => ?_) (fun k => ?_)
      · refine Ev.ret' ?_
        have : okB (s.getD i 0) = false := by
          simp only [decide_eq_true_eq] at k
          simp only [okB, Bool.and_eq_false_iff, decide_eq_false_iff_not]
          omega
        rw [this]; rfl
      · have : okB (s.getD i 0) = true := by
          simp only [decide_eq_false_iff_not] at h k
          simp only [okB, Bool.and_eq_true, decide_eq_true_eq]
          omega
        rw [this, Bool.true_and, wrap_suc (by omega)]
        exact ih (i + 1) (by omega)
theorem T.impl_isPlainText (s : Txt) (hs : s.length < big) : Ev (fun n => G.impl_isPlainText n s) (PT s) := by
  refine Ev.up ?_
  simp only [G.impl_isPlainText]
  refine Ev.ite (fun h => ?_) (fun h => ?_)
  · simp only [decide_eq_true_eq] at h
    refine Ev.ret' ?_
    have : decide (s.length ≤ 12) = false := by simp; omega
    rw [PT, this, Bool.and_false]
  · simp only [decide_eq_false_iff_not] at h
    refine (T.impl_isPlainText.L1 s hs s.length 0 (by omega)).eq ?_
    have : decide (s.length ≤ 12) = true := by simp; omega
    rw [PT, this, Bool.and_true, List.drop_zero]
def Sm (l : List Txt) : Prop := l.length < big ∧ ∀ s, s ∈ l → s.length < big
theorem Sm.get {l : List Txt} (h : Sm l) {i : Nat} (hi : i < l.length) : (l.getD i default).length < big := by
  rw [getD_of_lt _ hi]
  exact h.2 _ (List.getElem_mem hi)
theorem T.spec_validPath.L1 (p : List Txt) (hp : Sm p) : ∀ (k i : Nat), i + k = p.length → Ev (fun n => G.spec_validPath.L1 n p i) ((p.drop i).all PT && decide (p.length ≤ 5)) := by
  have hl := hp.1
  unfold big at hl
  intro k
  induction k with
  | zero =>
    intro i hi
    refine Ev.up ?_
    simp only [G.spec_validPath.L1]
    refine Ev.cf (by simp; omega) (Ev.ret' ?_)
    rw [List.drop_of_length_le (by omega)]
    simp
    omega
  | succ k ih =>
    intro i hi
    refine Ev.up ?_
    simp only [G.spec_validPath.L1]
    refine Ev.ct (by simp; omega) (Ev.chk (by omega) ?_)
    rw [drop_of_lt (default : Txt) (by omega : i < p.length), List.all_cons, Int.toNat_natCast]
    refine Ev.bind (T.spec_validText _ (hp.get (by omega))) ?_
    refine Ev.ite (fun h => ?_) (fun h => ?_)
    · rw [wrap_suc (by omega), h, Bool.true_and]
      exact ih (i + 1) (by omega)
    · exact Ev.ret' (by rw [h]; rfl)
theorem T.spec_validPath (p : List Txt) (hp : Sm p) : Ev (fun n => G.spec_validPath n p) (PP p) := by
  refine Ev.up ?_
  simp only [G.spec_validPath]
  exact T.spec_validPath.L1 p hp p.length 0 (by omega)
theorem T.impl_isPath.L1 (p : List Txt) (hp : Sm p) : ∀ (k i : Nat), i + k = p.length → Ev (fun n => G.impl_isPath.L1 n p i) ((p.drop i).all PT) := by
  have hl := hp.1
  unfold big at hl
  intro k
  induction k with
  | zero =>
    intro i hi
    refine Ev.up ?_
    simp only [G.impl_isPath.L1]
    refine Ev.cf (by simp; omega) (Ev.ret' ?_)
    rw [List.drop_of_length_le (by omega)]
    rfl
  | succ k ih =>
    intro i hi
    refine Ev.up ?_
    simp only [G.impl_isPath.L1]
    refine Ev.ct (by simp; omega) (Ev.chk (by omega) ?_)
    rw [drop_of_lt (default : Txt) (by omega : i < p.length), List.all_cons, Int.toNat_natCast]
    refine Ev.bind (T.impl_isPlainText _ (hp.get (by omega))) ?_
    refine Ev.ite (fun h => ?_) (fun h => ?_)
    · rw [wrap_suc (by omega), h, Bool.true_and]
      exact ih (i + 1) (by omega)
    · exact Ev.ret' (by rw [h]; rfl)
theorem T.impl_isPath (p : List Txt) (hp : Sm p) : Ev (fun n => G.impl_isPath n p) (PP p) := by
  refine Ev.up ?_
  simp only [G.impl_isPath]
  refine Ev.ite (fun h => ?_) (fun h => ?_)
  · simp only [decide_eq_true_eq] at h
    refine Ev.ret' ?_
    have : decide (p.length ≤ 5) = false := by simp; omega
    rw [PP, this, Bool.and_false]
  · simp only [decide_eq_false_iff_not] at h
    refine (T.impl_isPath.L1 p hp p.length 0 (by omega)).eq ?_
    have : decide (p.length ≤ 5) = true := by simp; omega
    rw [PP, this, Bool.and_true, List.drop_zero]
def NM (l : List Txt) : Bool := l.all PT && Asc l
theorem drop_pred {l : List Txt} {i : Nat} (h0 : 0 < i) (h : i < l.length) : l.drop (i - 1) = l.getD (i - 1) default :: l.getD i default :: l.drop (i + 1) := by
  rw [drop_of_lt (default : Txt) (by omega : i - 1 < l.length), show i - 1 + 1 = i by omega, drop_of_lt (default : Txt) h]
theorem T.spec_names.L1 (l : List Txt) (hp : Sm l) : ∀ (k i : Nat), i + k = l.length → Ev (fun n => G.spec_names.L1 n l i) ((l.drop i).all PT && Asc (l.drop (i - 1))) := by
  have hl := hp.1
  unfold big at hl
  intro k
  induction k with
  | zero =>
    intro i hi
    refine Ev.up ?_
    simp only [G.spec_names.L1]
    refine Ev.cf (by simp; omega) (Ev.ret' ?_)
    rw [List.drop_of_length_le (by omega)]
    by_cases h0 : i = 0
    · rw [List.drop_of_length_le (by omega)]; rfl
    · rw [drop_of_lt (default : Txt) (by omega : i - 1 < l.length), List.drop_of_length_le (by omega)]; rfl
  | succ k ih =>
    intro i hi
    refine Ev.up ?_
    simp only [G.spec_names.L1]
    refine Ev.ct (by simp; omega) (Ev.chk (by omega) ?_)
    rw [drop_of_lt (default : Txt) (by omega : i < l.length), List.all_cons, Int.toNat_natCast]
    refine Ev.bind (T.spec_validText _ (hp.get (by omega))) ?_
    refine Ev.ite (fun h => ?_) (fun h => ?_)
    · rw [h, Bool.true_and, wrap_suc (by omega)]
      refine Ev.ite (fun h0 => ?_) (fun h0 => ?_)
      · simp only [decide_eq_true_eq] at h0
        have e : IntKind.wrap .i64 ((i : Int) - 1) = ((i - 1 : Nat) : Int) := wrapN (by omega) (by omega)
        rw [e, Int.toNat_natCast]
        refine Ev.chk (by omega) (Ev.chk (by omega) ?_)
        rw [drop_pred (by omega) (by omega), Asc]
        have hd : l.getD i default :: l.drop (i + 1) = l.drop (i + 1 - 1) := by rw [Nat.add_sub_cancel, ← drop_of_lt (default : Txt) (by omega : i < l.length)]
        refine Ev.ite (fun h1 => ?_) (fun h1 => ?_)
        · exact Ev.ret' (by rw [show Op.bytesLess (l.getD (i - 1) default) (l.getD i default) = false from bl_asymm h1]; simp)
        · refine Ev.ite (fun h2 => ?_) (fun h2 => ?_)
          · rw [beq_iff_eq] at h2
            exact Ev.ret' (by rw [show Op.bytesLess (l.getD (i - 1) default) (l.getD i default) = false by rw [h2]; exact bl_irr _]; simp)
          · have : Op.bytesLess (l.getD (i - 1) default) (l.getD i default) = true := by
              cases hb : Op.bytesLess (l.getD (i - 1) default) (l.getD i default) with
              | true => rfl
              | false => rw [bl_tri h1 hb] at h2; simp at h2
            rw [this, Bool.true_and, hd]
            exact ih (i + 1) (by omega)
      · simp only [decide_eq_false_iff_not] at h0
        have : i = 0 := by omega
        subst this
        exact ih 1 (by omega)
    · exact Ev.ret' (by rw [h]; rfl)
theorem T.spec_names (l : List Txt) (hp : Sm l) : Ev (fun n => G.spec_names n l) (NM l) := by
  refine Ev.up ?_
  simp only [G.spec_names]
  exact T.spec_names.L1 l hp l.length 0 (by omega)
theorem T.impl_areNames.L1 (l : List Txt) (hp : Sm l) : ∀ (k i : Nat), i + k = l.length → Ev (fun n => G.impl_areNames.L1 n l i) ((l.drop i).all PT && Asc (l.drop (i - 1))) := by
  have hl := hp.1
  unfold big at hl
  intro k
  induction k with
  | zero =>
    intro i hi
    refine Ev.up ?_
    simp only [G.impl_areNames.L1]
    refine Ev.cf (by simp; omega) (Ev.ret' ?_)
    rw [List.drop_of_length_le (by omega)]
    by_cases h0 : i = 0
    · rw [List.drop_of_length_le (by omega)]; rfl
    · rw [drop_of_lt (default : Txt) (by omega : i - 1 < l.length), List.drop_of_length_le (by omega)]; rfl
  | succ k ih =>
    intro i hi
    refine Ev.up ?_
    simp only [G.impl_areNames.L1]
    refine Ev.ct (by simp; omega) (Ev.chk (by omega) ?_)
    rw [drop_of_lt (default : Txt) (by omega : i < l.length), List.all_cons, Int.toNat_natCast]
    refine Ev.bind (T.impl_isPlainText _ (hp.get (by omega))) ?_
    refine Ev.ite (fun h => ?_) (fun h => ?_)
    · rw [h, Bool.true_and, wrap_suc (by omega)]
      refine Ev.ite (fun h0 => ?_) (fun h0 => ?_)
      · simp only [decide_eq_true_eq] at h0
        have e : IntKind.wrap .i64 ((i : Int) - 1) = ((i - 1 : Nat) : Int) := wrapN (by omega) (by omega)
        rw [e, Int.toNat_natCast]
        refine Ev.chk (by omega) ?_
        rw [drop_pred (by omega) (by omega), Asc]
        have hd : l.getD i default :: l.drop (i + 1) = l.drop (i + 1 - 1) := by rw [Nat.add_sub_cancel, ← drop_of_lt (default : Txt) (by omega : i < l.length)]
        refine Ev.ite (fun h1 => ?_) (fun h1 => ?_)
        · rw [h1, Bool.true_and, hd]
          exact ih (i + 1) (by omega)
        · exact Ev.ret' (by rw [h1]; simp)
      · simp only [decide_eq_false_iff_not] at h0
        have : i = 0 := by omega
        subst this
        exact ih 1 (by omega)
    · exact Ev.ret' (by rw [h]; rfl)
theorem T.impl_areNames (l : List Txt) (hp : Sm l) : Ev (fun n => G.impl_areNames n l) (NM l && decide (l.length ≤ 6)) := by
  refine Ev.up ?_
  simp only [G.impl_areNames]
  refine Ev.ite (fun h => ?_) (fun h => ?_)
  · simp only [decide_eq_true_eq] at h
    refine Ev.ret' ?_
    have : decide (l.length ≤ 6) = false := by simp; omega
    rw [this, Bool.and_false]
  · simp only [decide_eq_false_iff_not] at h
    refine (T.impl_areNames.L1 l hp l.length 0 (by omega)).eq ?_
    have : decide (l.length ≤ 6) = true := by simp; omega
    rw [NM, this, Bool.and_true, List.drop_zero]
end Go.Ab
end
section
namespace Go.Ab
open Go
def Fine (B : Nat) : Nat → NodeT → Prop
  | 0, _ => False
  | d + 1, n => n.Text.length ≤ B ∧ n.Names.length ≤ B ∧ (∀ s, s ∈ n.Names → s.length ≤ B) ∧ n.Kids.length ≤ B ∧ (n.Kind = 4 → n.Kids.length ≤ n.Names.length) ∧ ∀ k, k ∈ n.Kids → Fine B d k
theorem Fine.mono {B C : Nat} (hB : B ≤ C) : ∀ {d e : Nat} {n : NodeT}, d ≤ e → Fine B d n → Fine C e n
  | 0, _, _, _, h => h.elim
  | d + 1, 0, _, hd, _ => by omega
  | d + 1, e + 1, n, hd, h => by
    obtain ⟨h1, h2, h3, h4, h5, h6⟩ := h
    exact ⟨by omega, by omega, fun s hs => Nat.le_trans (h3 s hs) hB, by omega, h5, fun k hk => (h6 k hk).mono hB (by omega)⟩
def lim : Nat := 4294967296
theorem Fine.sm {B d : Nat} {n : NodeT} (hB : B ≤ lim) (h : Fine B d n) : Sm n.Names := by
  cases d with
  | zero => exact h.elim
  | succ d =>
    obtain ⟨h1, h2, h3, h4, h5, h6⟩ := h
    unfold lim at hB
    exact ⟨by unfold big; omega, fun s hs => by have := h3 s hs; unfold big; omega⟩
theorem Fine.text {B d : Nat} {n : NodeT} (hB : B ≤ lim) (h : Fine B d n) : n.Text.length < big := by
  cases d with
  | zero => exact h.elim
  | succ d => obtain ⟨h1, _⟩ := h; unfold lim at hB; unfold big; omega
theorem Fine.kids {B d : Nat} {n : NodeT} (h : Fine B d n) : n.Kids.length ≤ B := by
  cases d with
  | zero => exact h.elim
  | succ d => exact h.2.2.2.1
theorem Fine.names {B d : Nat} {n : NodeT} (h : Fine B d n) : n.Names.length ≤ B := by
  cases d with
  | zero => exact h.elim
  | succ d => exact h.2.1
theorem Fine.map {B d : Nat} {n : NodeT} (h : Fine B d n) (hk : n.Kind = 4) : n.Kids.length ≤ n.Names.length := by
  cases d with
  | zero => exact h.elim
  | succ d => exact h.2.2.2.2.1 hk
theorem Fine.kid {B d : Nat} {n : NodeT} (h : Fine B (d + 1) n) {i : Nat} (hi : i < n.Kids.length) : Fine B d (n.Kids.getD i default) := by
  rw [getD_of_lt _ hi]
  exact h.2.2.2.2.2 _ (List.getElem_mem hi)
def Parts (n : NodeT) : Bool :=
  (n.Kind == 1 || n.Num == 0) && (n.Kind == 2 || n.Text == []) && (n.Kind == 4 || n.Names.length == 0) &&
  (if n.Kind = 0 then n.Kids.length == 0 else if n.Kind = 1 then (decide (-999999 ≤ n.Num) && decide (n.Num ≤ 999999)) && n.Kids.length == 0 else if n.Kind = 2 then PT n.Text && n.Kids.length == 0
   else if n.Kind = 3 then decide (n.Kids.length ≤ 6) else if n.Kind = 4 then NM n.Names && decide (n.Names.length ≤ 6) && n.Kids.length == n.Names.length else false)
def Shape : Nat → NodeT → Bool
  | 0, _ => false
  | d + 1, n => Parts n && n.Kids.all (Shape d)
theorem ilen {a b : Nat} : (((a : Nat) : Int) == ((b : Nat) : Int)) = (a == b) := by
  rw [Bool.eq_iff_iff]; simp; omega
theorem ilen0 {a : Nat} : (((a : Nat) : Int) == 0) = (a == 0) := by
  rw [Bool.eq_iff_iff]; simp
theorem ile {a b : Nat} : decide (((a : Nat) : Int) ≤ ((b : Nat) : Int)) = decide (a ≤ b) := by
  rw [Bool.eq_iff_iff]; simp
def PartsK (n : NodeT) : Bool :=
  (n.Kind == 4 || n.Names.length == 0) &&
  (if n.Kind = 0 then n.Kids.length == 0 else if n.Kind = 1 then (decide (-999999 ≤ n.Num) && decide (n.Num ≤ 999999)) && n.Kids.length == 0 else if n.Kind = 2 then PT n.Text && n.Kids.length == 0
   else if n.Kind = 3 then decide (n.Kids.length ≤ 6) else if n.Kind = 4 then NM n.Names && decide (n.Names.length ≤ 6) && n.Kids.length == n.Names.length else false)
theorem Parts_eq (n : NodeT) : Parts n = ((n.Kind == 1 || n.Num == 0) && (n.Kind == 2 || n.Text == []) && PartsK n) := by
  unfold Parts PartsK; simp only [Bool.and_assoc]
theorem T.impl_hasValidParts.K1 {B d : Nat} {n : NodeT} (hB : B ≤ lim) (h : Fine B d n) : Ev (fun f => G.impl_hasValidParts.K1 f n) (PartsK n) := by
  refine Ev.up ?_
  simp only [G.impl_hasValidParts.K1]
  have ht := T.impl_isPlainText _ (h.text hB)
  have hn := T.impl_areNames _ (h.sm hB)
  have h0 : decide ((0 : Int) < ((n.Names.length : Nat) : Int)) = !(n.Names.length == 0) := by
    cases hq : n.Names.length <;> simp
  have h6 : decide (((n.Kids.length : Nat) : Int) ≤ 6) = decide (n.Kids.length ≤ 6) := by rw [Bool.eq_iff_iff]; simp; omega
  rw [h0]
  have tail : Ev (fun f => cond (n.Kind == 0) (some (((n.Kids.length : Nat) : Int) == 0)) (cond (n.Kind == 1) (cond (decide ((-999999) ≤ n.Num)) (cond (decide (n.Num ≤ 999999)) (some (((n.Kids.length : Nat) : Int) == 0)) (some false)) (some false))
      (cond (n.Kind == 2) (Option.bind (G.impl_isPlainText f n.Text) fun v3 => cond v3 (some (((n.Kids.length : Nat) : Int) == 0)) (some false))
      (cond (n.Kind == 3) (some (decide (((n.Kids.length : Nat) : Int) ≤ 6))) (cond (n.Kind == 4) (Option.bind (G.impl_areNames f n.Names) fun v4 => cond v4 (some (((n.Kids.length : Nat) : Int) == ((n.Names.length : Nat) : Int))) (some false)) (some false))))))
      (if n.Kind = 0 then n.Kids.length == 0 else if n.Kind = 1 then (decide (-999999 ≤ n.Num) && decide (n.Num ≤ 999999)) && n.Kids.length == 0 else if n.Kind = 2 then PT n.Text && n.Kids.length == 0
        else if n.Kind = 3 then decide (n.Kids.length ≤ 6) else if n.Kind = 4 then NM n.Names && decide (n.Names.length ≤ 6) && n.Kids.length == n.Names.length else false) := by
    rw [ilen0, ilen, h6]
    refine Ev.ite (fun e => Ev.ret' ?_) (fun e0 => ?_)
    · rw [if_pos (by simpa using e)]
    rw [if_neg (by simpa using e0)]
    refine Ev.ite (fun e => ?_) (fun e1 => ?_)
    · rw [if_pos (by simpa using e)]
      refine Ev.ite (fun k => Ev.ite (fun k2 => Ev.ret' ?_) (fun k2 => Ev.ret' ?_)) (fun k => Ev.ret' ?_)
      · rw [k, k2]; simp
      · rw [k2]; simp
      · rw [k]; simp
    rw [if_neg (by simpa using e1)]
    refine Ev.ite (fun e => ?_) (fun e2 => ?_)
    · rw [if_pos (by simpa using e)]
      refine Ev.bind ht (Ev.ite (fun k => Ev.ret' ?_) (fun k => Ev.ret' ?_))
      · rw [k, Bool.true_and]
      · rw [k, Bool.false_and]
    rw [if_neg (by simpa using e2)]
    refine Ev.ite (fun e => Ev.ret' ?_) (fun e3 => ?_)
    · rw [if_pos (by simpa using e)]
    rw [if_neg (by simpa using e3)]
    refine Ev.ite (fun e => ?_) (fun e4 => Ev.ret' ?_)
    · rw [if_pos (by simpa using e)]
      refine Ev.bind hn (Ev.ite (fun k => Ev.ret' ?_) (fun k => Ev.ret' ?_))
      · rw [k, Bool.true_and]
      · rw [k, Bool.false_and]
    · rw [if_neg (by simpa using e4)]
  refine Ev.ite (fun e => ?_) (fun e => ?_)
  · have e' : (n.Kind == 4) = false := by simpa using e
    refine Ev.ite (fun k => Ev.ret' ?_) (fun k => ?_)
    · rw [Bool.not_eq_true'] at k; rw [PartsK, e', k]; rfl
    · rw [Bool.not_eq_false'] at k; exact tail.eq (by rw [PartsK, k, Bool.or_true, Bool.true_and])
  · have e' : (n.Kind == 4) = true := by simpa using e
    exact tail.eq (by rw [PartsK, e', Bool.true_or, Bool.true_and])
theorem T.impl_hasValidParts {B d : Nat} {n : NodeT} (hB : B ≤ lim) (h : Fine B d n) : Ev (fun f => G.impl_hasValidParts f n) (Parts n) := by
  refine Ev.up ?_
  simp only [G.impl_hasValidParts]
  have hk := T.impl_hasValidParts.K1 hB h
  rw [Parts_eq]
  have tail : Ev (fun f => cond (n.Kind != 2) (cond (n.Text == []) (G.impl_hasValidParts.K1 f n) (some false)) (G.impl_hasValidParts.K1 f n)) ((n.Kind == 2 || n.Text == []) && PartsK n) := by
    refine Ev.ite (fun e => ?_) (fun e => ?_)
    · have e' : (n.Kind == 2) = false := by simpa using e
      refine Ev.ite (fun k => ?_) (fun k => Ev.ret' ?_)
      · exact hk.eq (by rw [k, Bool.or_true, Bool.true_and])
      · rw [e', k]; rfl
    · have e' : (n.Kind == 2) = true := by simpa using e
      exact hk.eq (by rw [e', Bool.true_or, Bool.true_and])
  refine Ev.ite (fun e => ?_) (fun e => ?_)
  · have e' : (n.Kind == 1) = false := by simpa using e
    refine Ev.ite (fun k => Ev.ret' ?_) (fun k => ?_)
    · have : (n.Num == 0) = false := by simpa using k
      rw [e', this]; rfl
    · have : (n.Num == 0) = true := by simpa using k
      exact tail.eq (by rw [this, Bool.or_true, Bool.true_and])
  · have e' : (n.Kind == 1) = true := by simpa using e
    exact tail.eq (by rw [e', Bool.true_or, Bool.true_and])
end Go.Ab
end
section
namespace Go.Ab
open Go
theorem T.spec_kids.L1 {B D d : Nat} {n : NodeT} (hB : B ≤ lim) (h : Fine B (D + 1) n) (hd : d < 1000) (hs : ∀ k, k ∈ n.Kids → Ev (fun f => G.spec_shape f k d) (Shape d k)) :
    ∀ (k i : Nat), i + k = n.Kids.length → Ev (fun f => G.spec_kids.L1 f n ((d + 1 : Nat) : Int) i) ((n.Kids.drop i).all (Shape d)) := by
  have hl := h.kids
  unfold lim at hB
  intro k
  induction k with
  | zero =>
    intro i hi
    refine Ev.up ?_
    simp only [G.spec_kids.L1]
    refine Ev.cf (by simp; omega) (Ev.ret' ?_)
    rw [List.drop_of_length_le (by omega)]
    rfl
  | succ k ih =>
    intro i hi
    refine Ev.up ?_
    simp only [G.spec_kids.L1]
    refine Ev.ct (by simp; omega) (Ev.chk (by omega) ?_)
    rw [drop_of_lt (default : NodeT) (by omega : i < n.Kids.length), List.all_cons, Int.toNat_natCast]
    have e : IntKind.wrap .i64 (((d + 1 : Nat) : Int) - 1) = (d : Int) := wrapN (by omega) (by omega)
    rw [e]
    refine Ev.bind (hs _ (by rw [getD_of_lt _ (by omega : i < n.Kids.length)]; exact List.getElem_mem _)) ?_
    refine Ev.ite (fun h => ?_) (fun h => ?_)
    · rw [wrap_suc (by omega), h, Bool.true_and]
      exact ih (i + 1) (by omega)
    · exact Ev.ret' (by rw [h]; rfl)
theorem T.spec_kids {B D d : Nat} {n : NodeT} (hB : B ≤ lim) (h : Fine B (D + 1) n) (hd : d < 1000) (hs : ∀ k, k ∈ n.Kids → Ev (fun f => G.spec_shape f k d) (Shape d k)) :
    Ev (fun f => G.spec_kids f n ((d + 1 : Nat) : Int)) (n.Kids.all (Shape d)) := by
  refine Ev.up ?_
  simp only [G.spec_kids]
  exact T.spec_kids.L1 hB h hd hs n.Kids.length 0 (by omega)
def ShK (d : Nat) (n : NodeT) : Bool :=
  if n.Kind = 1 then decide (-999999 ≤ n.Num) && decide (n.Num ≤ 999999) else if n.Kind = 2 then PT n.Text else if n.Kind = 3 then n.Kids.all (Shape d)
  else if n.Kind = 4 then n.Names.length == n.Kids.length && NM n.Names && n.Kids.all (Shape d) else n.Kind == 0
theorem T.spec_shape.K1 {B D d : Nat} {n : NodeT} (hB : B ≤ lim) (h : Fine B (D + 1) n) (hd : d < 1000) (hs : ∀ k, k ∈ n.Kids → Ev (fun f => G.spec_shape f k d) (Shape d k)) :
    Ev (fun f => G.spec_shape.K1 f n ((d + 1 : Nat) : Int)) (ShK d n) := by
  refine Ev.up ?_
  simp only [G.spec_shape.K1]
  have hk := T.spec_kids hB h hd hs
  unfold ShK
  refine Ev.ite (fun e => ?_) (fun e1 => ?_)
  · rw [if_pos (by simpa using e)]
    exact Ev.bind (T.spec_inRange _ _ _) (Ev.ret _)
  rw [if_neg (by simpa using e1)]
  refine Ev.ite (fun e => ?_) (fun e2 => ?_)
  · rw [if_pos (by simpa using e)]
    exact Ev.bind (T.spec_validText _ (h.text hB)) (Ev.ret _)
  rw [if_neg (by simpa using e2)]
  refine Ev.ite (fun e => ?_) (fun e3 => ?_)
  · rw [if_pos (by simpa using e)]
    exact Ev.bind hk (Ev.ret _)
  rw [if_neg (by simpa using e3)]
  refine Ev.ite (fun e => ?_) (fun e4 => ?_)
  · rw [if_pos (by simpa using e), ilen]
    refine Ev.ite (fun k => ?_) (fun k => Ev.ret' (by rw [k]; rfl))
    refine Ev.bind (T.spec_names _ (h.sm hB)) ?_
    refine Ev.ite (fun k2 => ?_) (fun k2 => Ev.ret' (by rw [k2]; simp))
    exact Ev.bind hk (Ev.ret' (by rw [k, k2]; rfl))
  · exact Ev.ret' (by rw [if_neg (by simpa using e4)])
theorem ilt0 {a : Nat} : decide ((0 : Int) < ((a : Nat) : Int)) = !(a == 0) := by cases a <;> simp
theorem cnd_or {c a : Bool} {g : Nat → Option Bool} {V : Bool} (h : Ev g V) : Ev (fun f => cond c (cond a (some false) (g f)) (g f)) ((!c || !a) && V) := by
  cases c <;> cases a
  · exact h
  · exact h
  · exact h
  · exact Ev.ret _
theorem cnd_or' {c a : Bool} {g : Nat → Option Bool} {V : Bool} (h : Ev g V) : Ev (fun f => cond c (cond a (g f) (some false)) (g f)) ((!c || a) && V) := by
  cases c <;> cases a
  · exact h
  · exact h
  · exact Ev.ret _
  · exact h
theorem shape_long {n : NodeT} (h : 6 < n.Kids.length) : Parts n = false := by
  have e0 : (n.Kids.length == 0) = false := beq_eq_false_iff_ne.2 (by omega)
  have e6 : decide (n.Kids.length ≤ 6) = false := by simp; omega
  have e4 : (NM n.Names && decide (n.Names.length ≤ 6) && n.Kids.length == n.Names.length) = false := by
    cases h1 : decide (n.Names.length ≤ 6) with
    | false => simp
    | true =>
      have : (n.Kids.length == n.Names.length) = false := by simp at h1; simp; omega
      rw [this, Bool.and_false]
  unfold Parts
  rw [e0, e6, e4]
  simp
theorem shape_eq {d : Nat} {n : NodeT} (h : n.Kids.length ≤ 6) :
    ((!(n.Kind != 1) || !(n.Num != 0)) && ((!(n.Kind != 2) || n.Text == []) && ((!(n.Kind != 4) || !(!(n.Names.length == 0))) && ((!(decide (n.Kind < 3)) || !(!(n.Kids.length == 0))) && ShK d n)))) = Shape (d + 1) n := by
  have e6 : decide (n.Kids.length ≤ 6) = true := by simp; omega
  have hall : n.Kids.length = 0 → n.Kids.all (Shape d) = true := fun e => by rw [List.eq_nil_of_length_eq_zero e]; rfl
  have hb : ∀ x y : Int, (!(x != y)) = (x == y) := fun x y => by simp [bne]
  rw [hb, hb, hb, hb]
  unfold Shape Parts ShK
  simp only [Bool.not_not, Bool.and_assoc]
  congr 1
  congr 1
  congr 1
  rw [e6]
  by_cases k0 : n.Kind = 0
  · simp only [k0]; cases hz : (n.Kids.length == 0) <;> simp_all
  by_cases k1 : n.Kind = 1
  · simp only [k1]; cases hz : (n.Kids.length == 0) <;> simp_all
  by_cases k2 : n.Kind = 2
  · simp only [k2]; cases hz : (n.Kids.length == 0) <;> simp_all
  by_cases k3 : n.Kind = 3
  · simp [k3]
  by_cases k4 : n.Kind = 4
  · simp only [k4]
    have hc : (n.Kids.length == n.Names.length) = (n.Names.length == n.Kids.length) := by rw [Bool.eq_iff_iff]; simp; omega
    rw [hc]
    cases hz : (n.Names.length == n.Kids.length)
    · simp
    · have : decide (n.Names.length ≤ 6) = true := by simp at hz; simp; omega
      simp [this]
  · simp [k0, k1, k2, k3, k4]
def Cnt : Nat → NodeT → Nat
  | 0, _ => 0
  | d + 1, n => 1 + (n.Kids.map (Cnt d)).sum
theorem shape_parts {d : Nat} {n : NodeT} (h : Shape (d + 1) n = true) : Parts n = true := by
  unfold Shape at h; simp only [Bool.and_eq_true] at h; exact h.1
theorem shape_kids {d : Nat} {n : NodeT} (h : Shape (d + 1) n = true) : ∀ k, k ∈ n.Kids → Shape d k = true := by
  unfold Shape at h; simp only [Bool.and_eq_true] at h; exact List.all_eq_true.1 h.2
theorem shape_len {d : Nat} {n : NodeT} (h : Shape d n = true) : n.Kids.length ≤ 6 := by
  cases d with
  | zero => cases h
  | succ d =>
    by_cases k : n.Kids.length ≤ 6
    · exact k
    · have := shape_long (n := n) (by omega); rw [shape_parts h] at this; cases this
theorem sum_le {α : Type} (f : α → Nat) (m : Nat) : ∀ l : List α, (∀ x, x ∈ l → f x ≤ m) → (l.map f).sum ≤ l.length * m
  | [], _ => by simp
  | x :: l, h => by
    have h1 := sum_le f m l (fun y hy => h y (by simp [hy]))
    have h2 := h x (by simp)
    simp only [List.map_cons, List.sum_cons, List.length_cons, Nat.add_mul]
    omega
theorem cnt_le : ∀ {d : Nat} {n : NodeT}, Shape d n = true → Cnt d n ≤ 7 ^ d
  | 0, _, h => by cases h
  | d + 1, n, h => by
    have hk := shape_kids h
    have := sum_le (Cnt d) (7 ^ d) n.Kids (fun k hk' => cnt_le (hk k hk'))
    have h6 := shape_len h
    have hm : n.Kids.length * 7 ^ d ≤ 6 * 7 ^ d := Nat.mul_le_mul_right _ h6
    have hp : 1 ≤ 7 ^ d := Nat.one_le_pow _ _ (by omega)
    unfold Cnt
    rw [Nat.pow_succ]
    omega
theorem pow_le {d : Nat} (h : d ≤ 5) : 7 ^ d ≤ 16807 := Nat.le_trans (Nat.pow_le_pow_right (by omega) h) (by decide)
theorem T.spec_shape {B : Nat} (hB : B ≤ lim) : ∀ (d D : Nat) (n : NodeT), d < 1000 → Fine B D n → Ev (fun f => G.spec_shape f n (d : Int)) (Shape d n) := by
  intro d
  induction d with
  | zero =>
    intro D n _ h
    refine Ev.up ?_
    simp only [G.spec_shape]
    exact Ev.ct (by simp) (Ev.ret _)
  | succ d ih =>
    intro D n hd h
    cases D with
    | zero => exact h.elim
    | succ D =>
    have hK := T.spec_shape.K1 (d := d) hB h (by omega) (fun k hk => ih D k (by omega) (h.2.2.2.2.2 k hk))
    refine Ev.up ?_
    simp only [G.spec_shape]
    rw [ilt0, ilt0]
    have t1 := cnd_or (c := decide (n.Kind < 3)) (a := !(n.Kids.length == 0)) hK
    have t2 := cnd_or (c := n.Kind != 4) (a := !(n.Names.length == 0)) t1
    have t3 := cnd_or' (c := n.Kind != 2) (a := n.Text == []) t2
    have t4 := cnd_or (c := n.Kind != 1) (a := n.Num != 0) t3
    refine Ev.cf (by simp; omega) ?_
    refine Ev.ite (fun e => Ev.ret' ?_) (fun e => t4.eq ?_)
    · simp only [decide_eq_true_eq] at e
      rw [Shape, shape_long (by omega)]; rfl
    · simp only [decide_eq_false_iff_not] at e
      exact shape_eq (by omega)
theorem T.spec_count.L1 {B D d : Nat} {n : NodeT} (hB : B ≤ lim) (h : Fine B (D + 1) n) (hs : ∀ k, k ∈ n.Kids → Ev (fun f => G.spec_count f k) ((Cnt d k : Nat) : Int)) :
    ∀ (k i c : Nat), i + k = n.Kids.length → c + ((n.Kids.drop i).map (Cnt d)).sum < big → Ev (fun f => G.spec_count.L1 f n (c : Int) i) ((c + ((n.Kids.drop i).map (Cnt d)).sum : Nat) : Int) := by
  have hl := h.kids
  unfold lim at hB
  unfold big
  intro k
  induction k with
  | zero =>
    intro i c hi hc
    refine Ev.up ?_
    simp only [G.spec_count.L1]
    refine Ev.cf (by simp; omega) (Ev.ret' ?_)
    rw [List.drop_of_length_le (by omega)]
    rfl
  | succ k ih =>
    intro i c hi
    rw [drop_of_lt (default : NodeT) (by omega : i < n.Kids.length), List.map_cons, List.sum_cons]
    intro hc
    refine Ev.up ?_
    simp only [G.spec_count.L1]
    refine Ev.ct (by simp; omega) (Ev.chk (by omega) ?_)
    rw [Int.toNat_natCast]
    refine Ev.bind (hs _ (by rw [getD_of_lt _ (by omega : i < n.Kids.length)]; exact List.getElem_mem _)) ?_
    rw [wrap_suc (by omega), wrapN (m := c + Cnt d (n.Kids.getD i default)) (by omega) (by omega)]
    exact (ih (i + 1) (c + Cnt d (n.Kids.getD i default)) (by omega) (by omega)).eq (by congr 1; omega)
theorem T.spec_count {B : Nat} (hB : B ≤ lim) : ∀ (d D : Nat) (n : NodeT), d ≤ 5 → Fine B D n → Shape d n = true → Ev (fun f => G.spec_count f n) ((Cnt d n : Nat) : Int) := by
  intro d
  induction d with
  | zero => intro D n _ _ h; cases h
  | succ d ih =>
    intro D n hd h hS
    cases D with
    | zero => exact h.elim
    | succ D =>
    have hS' := shape_kids hS
    refine Ev.up ?_
    simp only [G.spec_count]
    have := cnt_le (d := d + 1) (n := n) hS
    have hp := pow_le hd
    refine (T.spec_count.L1 hB h (fun k hk => ih D k (by omega) (h.2.2.2.2.2 k hk) (hS' k hk)) n.Kids.length 0 1 (by omega) ?_).eq rfl
    rw [List.drop_zero]
    show Cnt (d + 1) n < big
    unfold big
    omega
def Val (n : NodeT) : Bool := Shape 5 n && decide (Cnt 5 n ≤ 40)
theorem T.spec_validNode {B D : Nat} {n : NodeT} (hB : B ≤ lim) (h : Fine B D n) : Ev (fun f => G.spec_validNode f n) (Val n) := by
  refine Ev.up ?_
  simp only [G.spec_validNode]
  refine Ev.bind (T.spec_shape hB 5 D n (by omega) h) (Ev.ite (fun e => ?_) (fun e => Ev.ret' (by rw [Val, e]; rfl)))
  refine Ev.bind (T.spec_count hB 5 D n (by omega) h e) (Ev.ret' ?_)
  rw [Val, e, Bool.true_and]
  apply decide_eq_decide.2
  omega
theorem T.impl_measureNode.L1 {B D d l : Nat} {n : NodeT} (hB : B ≤ lim) (h : Fine B (D + 1) n) (hl : l < 1000)
    (hs : ∀ k, k ∈ n.Kids → ∃ c dp, Ev (fun f => G.impl_measureNode f k ((l + 1 : Nat) : Int)) (c, dp, Shape d k) ∧ (Shape d k = true → c = ((Cnt d k : Nat) : Int))) :
    ∀ (k i c : Nat) (dp : Int), i + k = n.Kids.length → (n.Kids.drop i).all (Shape d) = true → c + ((n.Kids.drop i).map (Cnt d)).sum < big →
      ∃ dp', Ev (fun f => G.impl_measureNode.L1 f n (l : Int) (c : Int) dp i) (((c + ((n.Kids.drop i).map (Cnt d)).sum : Nat) : Int), dp', true) := by
  have hk := h.kids
  unfold lim at hB
  unfold big
  intro k
  induction k with
  | zero =>
    intro i c dp hi _ hc
    refine ⟨dp, Ev.up ?_⟩
    simp only [G.impl_measureNode.L1]
    refine Ev.cf (by simp; omega) (Ev.ret' ?_)
    rw [List.drop_of_length_le (by omega)]
    rfl
  | succ k ih =>
    intro i c dp hi
    rw [drop_of_lt (default : NodeT) (by omega : i < n.Kids.length), List.map_cons, List.sum_cons, List.all_cons, Bool.and_eq_true]
    intro ⟨hS, hA⟩ hc
    obtain ⟨c1, d1, h1, h2⟩ := hs (n.Kids.getD i default) (by rw [getD_of_lt _ (by omega : i < n.Kids.length)]; exact List.getElem_mem _)
    have e := h2 hS
    subst e
    obtain ⟨dp', g1⟩ := ih (i + 1) (c + Cnt d (n.Kids.getD i default)) (if IntKind.wrap .i64 (d1 + 1) > dp then IntKind.wrap .i64 (d1 + 1) else dp) (by omega) hA (by omega)
    refine ⟨dp', Ev.up ?_⟩
    simp only [G.impl_measureNode.L1]
    refine Ev.ct (by simp; omega) (Ev.chk (by omega) ?_)
    rw [Int.toNat_natCast, wrap_suc (by omega)]
    refine Ev.bind h1 ?_
    refine Ev.ct hS ?_
    rw [wrap_suc (by omega), wrapN (m := c + Cnt d (n.Kids.getD i default)) (by omega) (by omega)]
    exact g1.eq (by rw [Nat.add_assoc])
theorem T.impl_measureNode.L1f {B D d l : Nat} {n : NodeT} (hB : B ≤ lim) (h : Fine B (D + 1) n) (hl : l < 1000)
    (hs : ∀ k, k ∈ n.Kids → ∃ c dp, Ev (fun f => G.impl_measureNode f k ((l + 1 : Nat) : Int)) (c, dp, Shape d k)) :
    ∀ (k i : Nat) (c dp : Int), i + k = n.Kids.length → (n.Kids.drop i).all (Shape d) = false → Ev (fun f => G.impl_measureNode.L1 f n (l : Int) c dp i) (0, 0, false) := by
  have hk := h.kids
  unfold lim at hB
  intro k
  induction k with
  | zero =>
    intro i c dp hi hA
    rw [List.drop_of_length_le (by omega)] at hA
    cases hA
  | succ k ih =>
    intro i c dp hi
    rw [drop_of_lt (default : NodeT) (by omega : i < n.Kids.length), List.all_cons]
    intro hA
    obtain ⟨c1, d1, h1⟩ := hs (n.Kids.getD i default) (by rw [getD_of_lt _ (by omega : i < n.Kids.length)]; exact List.getElem_mem _)
    refine Ev.up ?_
    simp only [G.impl_measureNode.L1]
    refine Ev.ct (by simp; omega) (Ev.chk (by omega) ?_)
    rw [Int.toNat_natCast, wrap_suc (by omega)]
    refine Ev.bind h1 ?_
    refine Ev.ite (fun hS => ?_) (fun hS => Ev.ret _)
    have hS : Shape d (n.Kids.getD i default) = true := hS
    rw [hS, Bool.true_and] at hA
    rw [wrap_suc (by omega)]
    exact ih (i + 1) _ _ (by omega) hA
theorem T.impl_measureNode {B : Nat} (hB : B ≤ lim) : ∀ (d l D : Nat) (n : NodeT), d + l = 6 → 1 ≤ l → Fine B D n →
    ∃ c dp, Ev (fun f => G.impl_measureNode f n (l : Int)) (c, dp, Shape d n) ∧ (Shape d n = true → c = ((Cnt d n : Nat) : Int)) := by
  intro d
  induction d with
  | zero =>
    intro l D n hl h1 h
    refine ⟨0, 0, Ev.up ?_, fun e => by cases e⟩
    simp only [G.impl_measureNode]
    exact Ev.ct (by simp; omega) (Ev.ret _)
  | succ d ih =>
    intro l D n hl h1 h
    cases D with
    | zero => exact h.elim
    | succ D =>
    have hs := fun k (hk : k ∈ n.Kids) => ih (l + 1) D k (by omega) (by omega) (h.2.2.2.2.2 k hk)
    have hp := T.impl_hasValidParts hB h
    cases hS : Shape (d + 1) n with
    | true =>
      have hk := shape_kids hS
      have hc := cnt_le hS
      have hpw := pow_le (d := d + 1) (by omega)
      obtain ⟨dp', g⟩ := T.impl_measureNode.L1 hB h (by omega) hs n.Kids.length 0 1 1 (by omega) (by rw [List.drop_zero]; exact List.all_eq_true.2 hk) (by rw [List.drop_zero]; unfold big; show Cnt (d + 1) n < _; omega)
      rw [List.drop_zero] at g
      refine ⟨((Cnt (d + 1) n : Nat) : Int), dp', Ev.up ?_, fun _ => rfl⟩
      simp only [G.impl_measureNode]
      exact Ev.cf (by simp; omega) (Ev.bind hp (Ev.ct (shape_parts hS) g))
    | false =>
      refine ⟨0, 0, Ev.up ?_, fun e => by cases e⟩
      simp only [G.impl_measureNode]
      refine Ev.cf (by simp; omega) (Ev.bind hp (Ev.ite (fun e => ?_) (fun e => Ev.ret _)))
      refine T.impl_measureNode.L1f (d := d) hB h (by omega) (fun k hk => ?_) n.Kids.length 0 1 1 (by omega) ?_
      · obtain ⟨c, dp, g, _⟩ := hs k hk; exact ⟨c, dp, g⟩
      · rw [List.drop_zero]; unfold Shape at hS; rw [e, Bool.true_and] at hS; exact hS
theorem T.impl_ValidNode {B D : Nat} {n : NodeT} (hB : B ≤ lim) (h : Fine B D n) : Ev (fun f => G.impl_ValidNode f n) (Val n) := by
  obtain ⟨c, dp, g, hc⟩ := T.impl_measureNode hB 5 1 D n rfl (by omega) h
  refine Ev.up ?_
  simp only [G.impl_ValidNode]
  refine Ev.bind g (Ev.ite (fun e => Ev.ret' ?_) (fun e => Ev.ret' ?_))
  · have e : Shape 5 n = true := e
    show decide (c ≤ 40) = _
    rw [hc e, Val, e, Bool.true_and]
    apply decide_eq_decide.2
    omega
  · have e : Shape 5 n = false := e
    rw [Val, e]; rfl
theorem T.spec_copyNode.L1 {B D : Nat} {n : NodeT} (hB : B ≤ lim) (h : Fine B (D + 1) n) (hs : ∀ k, k ∈ n.Kids → Ev (fun f => G.spec_copyNode f k) k) :
    ∀ (k i : Nat), i + k = n.Kids.length → Ev (fun f => G.spec_copyNode.L1 f n i (n.Kids.take i)) n := by
  have hl := h.kids
  have hn := h.names
  unfold lim at hB
  intro k
  induction k with
  | zero =>
    intro i hi
    refine Ev.up ?_
    simp only [G.spec_copyNode.L1]
    refine Ev.cf (by simp; omega) (Ev.chk (by omega) (Ev.ret' ?_))
    rw [List.take_of_length_le (by omega)]
    cases n; rfl
  | succ k ih =>
    intro i hi
    refine Ev.up ?_
    simp only [G.spec_copyNode.L1]
    refine Ev.ct (by simp; omega) (Ev.chk (by omega) ?_)
    rw [Int.toNat_natCast]
    refine Ev.bind (hs _ (by rw [getD_of_lt _ (by omega : i < n.Kids.length)]; exact List.getElem_mem _)) ?_
    refine Ev.chk (by rw [List.length_take]; omega) ?_
    have e : n.Kids.take i ++ [n.Kids.getD i default] = n.Kids.take (i + 1) := by rw [getD_of_lt _ (by omega : i < n.Kids.length), List.take_succ_eq_append_getElem (by omega)]
    rw [wrap_suc (by omega), e]
    exact ih (i + 1) (by omega)
theorem T.spec_copyNode {B : Nat} (hB : B ≤ lim) : ∀ {D : Nat} {n : NodeT}, Fine B D n → Ev (fun f => G.spec_copyNode f n) n := by
  intro D
  induction D with
  | zero => intro n h; exact h.elim
  | succ D ih =>
    intro n h
    refine Ev.up ?_
    simp only [G.spec_copyNode]
    exact T.spec_copyNode.L1 hB h (fun k hk => ih (h.2.2.2.2.2 k hk)) n.Kids.length 0 (by omega)
theorem T.impl_copyNode.L2 {B D : Nat} {n : NodeT} (zs : List Txt) (hB : B ≤ lim) (h : Fine B (D + 1) n) (hs : ∀ k, k ∈ n.Kids → Ev (fun f => G.impl_copyNode f k) k) :
    ∀ (k i : Nat) (z : List NodeT), i + k = n.Kids.length → z.length = n.Kids.length → z.take i = n.Kids.take i → Ev (fun f => G.impl_copyNode.L2 f n zs i z) (NodeT.mk n.Kind n.Num n.Text zs n.Kids) := by
  have hl := h.kids
  unfold lim at hB
  intro k
  induction k with
  | zero =>
    intro i z hi hz ht
    refine Ev.up ?_
    simp only [G.impl_copyNode.L2]
    refine Ev.cf (by simp; omega) (Ev.ret' ?_)
    rw [List.take_of_length_le (by omega), List.take_of_length_le (by omega)] at ht
    rw [ht]
  | succ k ih =>
    intro i z hi hz ht
    refine Ev.up ?_
    simp only [G.impl_copyNode.L2]
    refine Ev.ct (by simp; omega) (Ev.chk (by omega) ?_)
    rw [Int.toNat_natCast]
    refine Ev.bind (hs _ (by rw [getD_of_lt _ (by omega : i < n.Kids.length)]; exact List.getElem_mem _)) ?_
    refine Ev.chk (by omega) ?_
    rw [wrap_suc (by omega)]
    refine ih (i + 1) _ (by omega) (by rw [List.length_set]; exact hz) ?_
    rw [getD_of_lt _ (by omega : i < n.Kids.length), List.take_succ_eq_append_getElem (by rw [List.length_set]; omega), List.take_succ_eq_append_getElem (by omega : i < n.Kids.length), List.getElem_set_self, List.take_set_of_le (Nat.le_refl i), ht]
theorem T.impl_copyNode {B : Nat} (hB : B ≤ lim) : ∀ {D : Nat} {n : NodeT}, Fine B D n → Ev (fun f => G.impl_copyNode f n) n := by
  intro D
  induction D with
  | zero => intro n h; exact h.elim
  | succ D ih =>
    intro n h
    have hl := h.kids
    have hn := h.names
    have hB' := hB
    unfold lim at hB'
    have hK : Ev (fun f => G.impl_copyNode.K1 f n n.Names) n := by
      refine Ev.up ?_
      simp only [G.impl_copyNode.K1]
      refine Ev.ite (fun e => ?_) (fun e => Ev.ret' ?_)
      · refine Ev.chk (by omega) ?_
        refine (T.impl_copyNode.L2 n.Names hB h (fun k hk => ih (h.2.2.2.2.2 k hk)) n.Kids.length 0 (List.replicate n.Kids.length (NodeT.mk 0 0 [] [] [])) (by omega) (by simp) rfl).eq ?_
        cases n; rfl
      · have : n.Kids = [] := by
          apply List.eq_nil_of_length_eq_zero
          simp only [decide_eq_false_iff_not] at e; omega
        cases n; simp only at this; subst this; rfl
    refine Ev.up ?_
    simp only [G.impl_copyNode]
    refine Ev.ite (fun e => ?_) (fun e => ?_)
    · exact Ev.chk (by omega) hK
    · have : n.Names = [] := by
        apply List.eq_nil_of_length_eq_zero
        simp only [decide_eq_false_iff_not] at e; omega
      rw [this] at hK
      exact hK
end Go.Ab
end
section
namespace Go.Ab
open Go
def decN (i : Nat) : Txt := if i < 10 then [UInt8.ofNat (48 + i)] else decN (i / 10) ++ [UInt8.ofNat (48 + i % 10)]
  termination_by i
theorem decN_small {i : Nat} (h : i < 10) : decN i = [UInt8.ofNat (48 + i)] := by rw [decN, if_pos h]
theorem decN_big {i : Nat} (h : ¬ i < 10) : decN i = decN (i / 10) ++ [UInt8.ofNat (48 + i % 10)] := by rw [decN, if_neg h]
theorem decN_len : ∀ (k i : Nat), i < k → (decN i).length ≤ i + 1 := by
  intro k
  induction k with
  | zero => intro i h; omega
  | succ k ih =>
    intro i h
    by_cases hi : i < 10
    · rw [decN_small hi]; simp
    · rw [decN_big hi, List.length_append]
      have := ih (i / 10) (by omega)
      simp only [List.length_singleton]
      omega
theorem wrap_u8 {m : Nat} (h : m < 256) : IntKind.wrap .u8 (m : Int) = m := by
  simp only [IntKind.wrap, IntKind.bits, IntKind.signed]
  simp
  omega
theorem T.spec_decimal : ∀ (k i : Nat), i < k → i < lim → Ev (fun f => G.spec_decimal f (i : Int)) (decN i) := by
  intro k
  induction k with
  | zero => intro i h; omega
  | succ k ih =>
    intro i h hl
    unfold lim at hl
    have hm : 4294967296 < maxLen := by decide
    refine Ev.up ?_
    simp only [G.spec_decimal]
    refine Ev.cf (by simp) ?_
    refine Ev.ite (fun e => ?_) (fun e => ?_)
    · simp only [decide_eq_true_eq] at e
      refine Ev.chk (by omega) (Ev.ret' ?_)
      rw [decN_small (by omega), wrapN (m := 48 + i) (by omega) (by omega), wrap_u8 (by omega), Int.toNat_natCast]
    · simp only [decide_eq_false_iff_not] at e
      have e1 : Int.tdiv (i : Int) 10 = ((i / 10 : Nat) : Int) := by rw [Int.tdiv_eq_ediv_of_nonneg (by omega)]; omega
      have e2 : Int.tmod (i : Int) 10 = ((i % 10 : Nat) : Int) := by rw [Int.tmod_eq_emod_of_nonneg (by omega)]; omega
      rw [e1, e2, wrapN (m := i / 10) rfl (by omega), wrapN (m := 48 + i % 10) (by omega) (by omega), wrap_u8 (by omega), Int.toNat_natCast]
      refine Ev.bind (ih (i / 10) (by omega) (by unfold lim; omega)) ?_
      have := decN_len (i / 10 + 1) (i / 10) (by omega)
      refine Ev.chk (by omega) (Ev.chk (by omega) (Ev.ret' ?_))
      exact (decN_big (by omega)).symm
theorem T.decimal {i : Nat} (h : i < lim) : Ev (fun f => G.spec_decimal f (i : Int)) (decN i) := T.spec_decimal (i + 1) i (by omega) h
theorem T.strconv_Itoa {i : Nat} (h : i < 10) : Ev (fun f => G.strconv_Itoa f (i : Int)) (decN i) := by
  have hs : Ev (fun f => G.internal_strconv_small f (i : Int)) (decN i) := by
    refine Ev.up ?_
    simp only [G.internal_strconv_small]
    refine Ev.ct (by simp; omega) ?_
    rw [wrap_suc (by omega)]
    refine Ev.chk (by omega) (Ev.ret' ?_)
    rw [decN_small h, Int.toNat_natCast, Int.toNat_natCast]
    have : i = 0 ∨ i = 1 ∨ i = 2 ∨ i = 3 ∨ i = 4 ∨ i = 5 ∨ i = 6 ∨ i = 7 ∨ i = 8 ∨ i = 9 := by omega
    rcases this with rfl | rfl | rfl | rfl | rfl | rfl | rfl | rfl | rfl | rfl <;> rfl
  have hf : Ev (fun f => G.internal_strconv_FormatInt f (i : Int) 10) (decN i) := by
    refine Ev.up ?_
    simp only [G.internal_strconv_FormatInt]
    refine Ev.ct rfl (Ev.ct (by simp) (Ev.ct (by simp; omega) ?_))
    exact Ev.bind hs (Ev.ret _)
  have hi : Ev (fun f => G.internal_strconv_Itoa f (i : Int)) (decN i) := by
    refine Ev.up ?_
    simp only [G.internal_strconv_Itoa]
    exact Ev.bind hf (Ev.ret _)
  refine Ev.up ?_
  simp only [G.strconv_Itoa]
  exact Ev.bind hi (Ev.ret _)
def hit (n : NodeT) (s : Txt) (j : Nat) : Bool := (n.Kind == 4 && n.Names.getD j default == s) || (n.Kind == 3 && decN j == s)
def plc (n : NodeT) (s : Txt) : Option Nat := (List.range' 0 n.Kids.length).find? (hit n s)
def plcI : Option Nat → Int
  | some j => j
  | none => -1
theorem plc_lt {n : NodeT} {s : Txt} {j : Nat} (h : plc n s = some j) : j < n.Kids.length := by
  have := List.mem_of_find?_eq_some h
  simp at this
  exact this
theorem plc_hit {n : NodeT} {s : Txt} {j : Nat} (h : plc n s = some j) : hit n s j = true := List.find?_some h
theorem T.spec_place.L1 {B D : Nat} {n : NodeT} (s : Txt) (hB : B ≤ lim) (h : Fine B D n) :
    ∀ (k i : Nat), i + k = n.Kids.length → Ev (fun f => G.spec_place.L1 f n s i) (plcI ((List.range' i k).find? (hit n s))) := by
  have hl := h.kids
  have hm := h.map
  intro k
  induction k with
  | zero =>
    intro i hi
    refine Ev.up ?_
    simp only [G.spec_place.L1]
    exact Ev.cf (by simp; omega) (Ev.ret _)
  | succ k ih =>
    intro i hi
    have hih := ih (i + 1) (by omega)
    have hd := T.decimal (i := i) (by omega)
    unfold lim at hB
    rw [List.range'_succ, List.find?_cons]
    have fin3 : n.Kind ≠ 4 → Ev (fun f => cond (n.Kind == 3) (Option.bind (G.spec_decimal f (i : Int)) fun v5 => cond (v5 == s) (some (i : Int)) (G.spec_place.L1 f n s (IntKind.wrap .i64 ((i : Int) + 1)))) (G.spec_place.L1 f n s (IntKind.wrap .i64 ((i : Int) + 1))))
        (plcI (match hit n s i with | true => some i | false => (List.range' (i + 1) k).find? (hit n s))) := by
      intro h4
      have e4 : (n.Kind == 4) = false := by simpa using h4
      rw [wrap_suc (by omega)]
      refine Ev.ite (fun e => ?_) (fun e => ?_)
      · refine Ev.bind hd (Ev.ite (fun e2 => Ev.ret' ?_) (fun e2 => ?_))
        · rw [show hit n s i = true by unfold hit; rw [e, e2, e4]; rfl]; rfl
        · exact hih.eq (by rw [show hit n s i = false by unfold hit; rw [e, e2, e4]; rfl])
      · exact hih.eq (by rw [show hit n s i = false by unfold hit; rw [e, e4]; rfl])
    refine Ev.up ?_
    simp only [G.spec_place.L1]
    refine Ev.ct (by simp; omega) ?_
    refine Ev.ite (fun e => ?_) (fun e => fin3 (by simpa using e))
    have h4 : n.Kind = 4 := by simpa using e
    have := hm h4
    refine Ev.chk (by omega) ?_
    rw [Int.toNat_natCast]
    refine Ev.ite (fun e2 => Ev.ret' ?_) (fun e2 => ?_)
    · rw [show hit n s i = true by unfold hit; rw [e, e2]; rfl]; rfl
    · refine Ev.cf (by rw [h4]; rfl) ?_
      rw [wrap_suc (by omega)]
      exact hih.eq (by rw [show hit n s i = false by unfold hit; rw [e2, h4]; rfl])
theorem T.spec_place {B D : Nat} {n : NodeT} (s : Txt) (hB : B ≤ lim) (h : Fine B D n) : Ev (fun f => G.spec_place f n s) (plcI (plc n s)) := by
  refine Ev.up ?_
  simp only [G.spec_place]
  exact T.spec_place.L1 s hB h n.Kids.length 0 (by omega)
theorem T.cmp_Less_string (x y : Txt) : Ev (fun f => G.cmp_Less_string f x y) (bl x y) := by
  refine Ev.up ?_
  simp only [G.cmp_Less_string]
  have : Ev (fun f => G.cmp_isNaN_string f x) false := by
    refine Ev.up ?_
    simp only [G.cmp_isNaN_string]
    exact Ev.ret' (by simp)
  exact Ev.bind this (Ev.ret _)
structure LB (l : List Txt) (t : Txt) (i : Nat) : Prop where
  le : i ≤ l.length
  lo : ∀ j, j < i → bl (l.getD j default) t = true
  hi : ∀ j, i ≤ j → j < l.length → bl (l.getD j default) t = false
theorem half (i j : Nat) (h : i + j < 9223372036854775808) : IntKind.wrap .i64 ((Int.fdiv (IntKind.wrap .u64 (IntKind.wrap .i64 ((i : Int) + (j : Int)))) (2 ^ (min 1 (IntKind.bits .u64))))) = (((i + j) / 2 : Nat) : Int) := by
  rw [wrapN (x := (i : Int) + (j : Int)) (m := i + j) (by omega) h]
  have e : IntKind.wrap .u64 ((i + j : Nat) : Int) = ((i + j : Nat) : Int) := by
    simp only [IntKind.wrap, IntKind.bits, IntKind.signed]
    simp
    omega
  rw [e]
  have e2 : Int.fdiv ((i + j : Nat) : Int) (2 ^ (min 1 (IntKind.bits .u64))) = (((i + j) / 2 : Nat) : Int) := by
    have : (2 : Int) ^ (min 1 (IntKind.bits .u64)) = 2 := rfl
    rw [this, Int.fdiv_eq_ediv_of_nonneg _ (by omega)]
    omega
  rw [e2]
  exact wrapN rfl (by omega)
theorem T.BinarySearch.L1 {l : List Txt} (t : Txt) (hl : l.length < big) (hA : ∀ i j, i < j → j < l.length → bl (l.getD i default) (l.getD j default) = true) :
    ∀ (k i j : Nat), j - i ≤ k → i ≤ j → j ≤ l.length → (∀ q, q < i → bl (l.getD q default) t = true) → (∀ q, j ≤ q → q < l.length → bl (l.getD q default) t = false) →
      ∃ p : Nat, Ev (fun f => G.slices_BinarySearch_string.L1 f l t i j) ((p : Int), decide (p < l.length) && l.getD p default == t) ∧ LB l t p := by
  unfold big at hl
  intro k
  induction k with
  | zero =>
    intro i j hk hij hj hlo hhi
    have : i = j := by omega
    subst this
    refine ⟨i, Ev.up ?_, hj, hlo, hhi⟩
    simp only [G.slices_BinarySearch_string.L1]
    refine Ev.cf (by simp) (Ev.ite (fun e => ?_) (fun e => Ev.ret' ?_))
    · have e' : i < l.length := by simpa using e
      rw [Int.toNat_natCast]
      have d1 : decide (i < l.length) = true := by simpa using e'
      rw [d1, Bool.true_and]
      refine Ev.chk (by omega) (Ev.ite (fun e2 => Ev.ret' (by rw [e2])) (fun e2 => Ev.chk (by omega) ?_))
      have : Ev (fun f => G.slices_isNaN_string f (l.getD i default)) false := by
        refine Ev.up ?_
        simp only [G.slices_isNaN_string]
        exact Ev.ret' (by simp)
      exact Ev.bind this (Ev.ret' (by rw [e2]))
    · have d1 : decide (i < l.length) = false := by simpa using e
      rw [d1]; rfl
  | succ k ih =>
    intro i j hk hij hj hlo hhi
    by_cases he : i = j
    · exact ih i j (by omega) hij hj hlo hhi
    have h1 : (i + j) / 2 < j := by omega
    have h2 : i ≤ (i + j) / 2 := by omega
    cases hc : bl (l.getD ((i + j) / 2) default) t with
    | true =>
      obtain ⟨p, g, hp⟩ := ih ((i + j) / 2 + 1) j (by omega) (by omega) hj (fun q hq => by
        by_cases hq2 : q = (i + j) / 2
        · rw [hq2]; exact hc
        · exact bl_trans (hA q ((i + j) / 2) (by omega) (by omega)) hc) hhi
      refine ⟨p, Ev.up ?_, hp⟩
      simp only [G.slices_BinarySearch_string.L1]
      refine Ev.ct (by simp; omega) ?_
      rw [half i j (by omega), Int.toNat_natCast]
      refine Ev.chk (by omega) (Ev.bind (T.cmp_Less_string _ _) (Ev.ct hc ?_))
      rw [wrap_suc (by omega)]
      exact g
    | false =>
      obtain ⟨p, g, hp⟩ := ih i ((i + j) / 2) (by omega) h2 (by omega) hlo (fun q hq hq2 => by
        by_cases hq3 : q = (i + j) / 2
        · rw [hq3]; exact hc
        · cases hb : bl (l.getD q default) t with
          | false => rfl
          | true => rw [bl_trans (hA ((i + j) / 2) q (by omega) hq2) hb] at hc; cases hc)
      refine ⟨p, Ev.up ?_, hp⟩
      simp only [G.slices_BinarySearch_string.L1]
      refine Ev.ct (by simp; omega) ?_
      rw [half i j (by omega), Int.toNat_natCast]
      refine Ev.chk (by omega) (Ev.bind (T.cmp_Less_string _ _) (Ev.cf hc ?_))
      exact g
theorem Asc_tail {x : Txt} {l : List Txt} (h : Asc (x :: l) = true) : Asc l = true := by
  cases l with
  | nil => rfl
  | cons y r => rw [Asc, Bool.and_eq_true] at h; exact h.2
theorem Asc_head : ∀ {l : List Txt} {x : Txt}, Asc (x :: l) = true → ∀ y, y ∈ l → bl x y = true
  | [], _, _, y, hy => by cases hy
  | z :: r, x, h, y, hy => by
    have h1 : bl x z = true := by rw [Asc, Bool.and_eq_true] at h; exact h.1
    rcases List.mem_cons.1 hy with rfl | hy
    · exact h1
    · exact bl_trans h1 (Asc_head (Asc_tail h) y hy)
theorem Asc_lt : ∀ {l : List Txt}, Asc l = true → ∀ i j, i < j → j < l.length → bl (l.getD i default) (l.getD j default) = true
  | [], _, i, j, _, hj => by simp at hj
  | x :: l, h, i, j, hij, hj => by
    cases j with
    | zero => omega
    | succ j =>
      rw [List.getD_cons_succ]
      have hj' : j < l.length := by simpa using hj
      cases i with
      | zero => rw [List.getD_cons_zero, getD_of_lt _ hj']; exact Asc_head h _ (List.getElem_mem _)
      | succ i => rw [List.getD_cons_succ]; exact Asc_lt (Asc_tail h) i j (by omega) hj'
theorem T.slices_BinarySearch_string {l : List Txt} (t : Txt) (hl : l.length < big) (hA : Asc l = true) :
    ∃ p : Nat, Ev (fun f => G.slices_BinarySearch_string f l t) ((p : Int), decide (p < l.length) && l.getD p default == t) ∧ LB l t p := by
  obtain ⟨p, g, hp⟩ := T.BinarySearch.L1 t hl (Asc_lt hA) l.length 0 l.length (by omega) (by omega) (by omega) (fun q hq => by omega) (fun q h1 h2 => by omega)
  refine ⟨p, Ev.up ?_, hp⟩
  simp only [G.slices_BinarySearch_string]
  exact g
end Go.Ab
end
section
namespace Go.Ab
open Go
theorem NodeT.eta (n : NodeT) : NodeT.mk n.Kind n.Num n.Text n.Names n.Kids = n := by cases n; rfl
theorem find_none {p : Nat → Bool} : ∀ {k i : Nat}, (List.range' i k).find? p = none ↔ ∀ q, i ≤ q → q < i + k → p q = false := by
  intro k i
  rw [List.find?_eq_none]
  constructor
  · intro h q h1 h2
    have := h q (by simp; omega)
    simpa using this
  · intro h q hq
    simp at hq
    rw [h q hq.1 hq.2]; simp
theorem find_some {p : Nat → Bool} : ∀ {k i j : Nat}, (List.range' i k).find? p = some j ↔ (i ≤ j ∧ j < i + k ∧ p j = true ∧ ∀ q, i ≤ q → q < j → p q = false) := by
  intro k
  induction k with
  | zero => intro i j; simp; omega
  | succ k ih =>
    intro i j
    rw [List.range'_succ, List.find?_cons]
    cases h : p i with
    | true =>
      simp only [Option.some.injEq]
      constructor
      · rintro rfl
        exact ⟨by omega, by omega, h, fun q h1 h2 => by omega⟩
      · rintro ⟨h1, h2, h3, h4⟩
        by_cases e : i = j
        · exact e
        · have := h4 i (by omega) (by omega); rw [h] at this; cases this
    | false =>
      simp only
      rw [ih]
      constructor
      · rintro ⟨h1, h2, h3, h4⟩
        refine ⟨by omega, by omega, h3, fun q g1 g2 => ?_⟩
        by_cases e : q = i
        · rw [e]; exact h
        · exact h4 q (by omega) g2
      · rintro ⟨h1, h2, h3, h4⟩
        have : j ≠ i := fun e => by rw [e, h] at h3; cases h3
        exact ⟨by omega, by omega, h3, fun q g1 g2 => h4 q (by omega) g2⟩
theorem plc_some {n : NodeT} {s : Txt} {j : Nat} : plc n s = some j ↔ (j < n.Kids.length ∧ hit n s j = true ∧ ∀ q, q < j → hit n s q = false) := by
  unfold plc
  rw [find_some]
  constructor
  · rintro ⟨h1, h2, h3, h4⟩; exact ⟨by omega, h3, fun q hq => h4 q (by omega) hq⟩
  · rintro ⟨h1, h2, h3⟩; exact ⟨by omega, by omega, h2, fun q _ hq => h3 q hq⟩
theorem plc_none {n : NodeT} {s : Txt} : plc n s = none ↔ ∀ q, q < n.Kids.length → hit n s q = false := by
  unfold plc
  rw [find_none]
  constructor
  · intro h q hq; exact h q (by omega) (by omega)
  · intro h q _ hq; exact h q (by omega)
theorem parts_map {n : NodeT} (h : Parts n = true) (hk : n.Kind = 4) : n.Num = 0 ∧ n.Text = [] ∧ NM n.Names = true ∧ n.Names.length ≤ 6 ∧ n.Kids.length = n.Names.length := by
  unfold Parts at h
  simp [hk] at h
  obtain ⟨⟨h1, h2⟩, ⟨h3, h4⟩, h5⟩ := h
  exact ⟨h1, h2, h3, h4, h5⟩
theorem parts_list {n : NodeT} (h : Parts n = true) (hk : n.Kind = 3) : n.Num = 0 ∧ n.Text = [] ∧ n.Names = [] ∧ n.Kids.length ≤ 6 := by
  unfold Parts at h
  simp [hk] at h
  obtain ⟨⟨⟨h1, h2⟩, h3⟩, h4⟩ := h
  exact ⟨h1, h2, h3, h4⟩
theorem parts_leaf {n : NodeT} (h : Parts n = true) (h4 : n.Kind ≠ 4) (h3 : n.Kind ≠ 3) : n.Names = [] ∧ n.Kids = [] := by
  unfold Parts at h
  have e4 : (n.Kind == 4) = false := by simpa using h4
  simp only [Bool.and_eq_true, e4, Bool.false_or] at h
  obtain ⟨⟨_, h1⟩, h2⟩ := h
  refine ⟨List.eq_nil_of_length_eq_zero (by simpa using h1), List.eq_nil_of_length_eq_zero ?_⟩
  by_cases k0 : n.Kind = 0
  · rw [if_pos k0] at h2; simpa using h2
  rw [if_neg k0] at h2
  by_cases k1 : n.Kind = 1
  · rw [if_pos k1] at h2; simp at h2; rw [h2.2]; rfl
  rw [if_neg k1] at h2
  by_cases k2 : n.Kind = 2
  · rw [if_pos k2] at h2; simp at h2; rw [h2.2]; rfl
  rw [if_neg k2, if_neg h3, if_neg h4] at h2
  cases h2
theorem nm_asc {l : List Txt} (h : NM l = true) : Asc l = true := by unfold NM at h; simp only [Bool.and_eq_true] at h; exact h.2
theorem nm_all {l : List Txt} (h : NM l = true) : ∀ s, s ∈ l → PT s = true := by unfold NM at h; simp only [Bool.and_eq_true] at h; exact List.all_eq_true.1 h.1
theorem parts_len {n : NodeT} (h : Parts n = true) : n.Kids.length ≤ 6 := by
  by_cases k : n.Kids.length ≤ 6
  · exact k
  · rw [shape_long (by omega)] at h; cases h
theorem hit_map {n : NodeT} (hk : n.Kind = 4) (s : Txt) (j : Nat) : hit n s j = (n.Names.getD j default == s) := by unfold hit; rw [hk]; simp
theorem hit_list {n : NodeT} (hk : n.Kind = 3) (s : Txt) (j : Nat) : hit n s j = (decN j == s) := by unfold hit; rw [hk]; simp
theorem hit_leaf {n : NodeT} (h4 : n.Kind ≠ 4) (h3 : n.Kind ≠ 3) (s : Txt) (j : Nat) : hit n s j = false := by
  unfold hit
  rw [show (n.Kind == 4) = false by simpa using h4, show (n.Kind == 3) = false by simpa using h3]; rfl
theorem plc_lb {n : NodeT} {s : Txt} {p : Nat} (hk : n.Kind = 4) (hA : Asc n.Names = true) (hl : n.Kids.length = n.Names.length) (h : LB n.Names s p) :
    plc n s = if decide (p < n.Names.length) && n.Names.getD p default == s then some p else none := by
  cases hc : decide (p < n.Names.length) && n.Names.getD p default == s with
  | true =>
    simp only [Bool.and_eq_true, decide_eq_true_eq] at hc
    rw [if_pos rfl, plc_some]
    refine ⟨by omega, by rw [hit_map hk]; exact hc.2, fun q hq => ?_⟩
    rw [hit_map hk]
    have := bl_ne (h.lo q hq)
    simpa using this
  | false =>
    rw [if_neg (by simp), plc_none]
    intro q hq
    rw [hit_map hk]
    by_cases h1 : q < p
    · have := bl_ne (h.lo q h1)
      simpa using this
    · cases he : n.Names.getD q default == s with
      | false => rfl
      | true =>
        rw [beq_iff_eq] at he
        by_cases h2 : q = p
        · subst h2
          rw [he] at hc
          have : decide (q < n.Names.length) = true := by simp; omega
          rw [this] at hc
          simp at hc
        · have := Asc_lt hA p q (by omega) (by omega)
          rw [he, h.hi p (by omega) (by omega)] at this
          cases this
theorem T.impl_kidIndex.L1 {n : NodeT} (s : Txt) (hk : n.Kind = 3) (hl : n.Kids.length ≤ 6) :
    ∀ (k i : Nat), i + k = n.Kids.length → Ev (fun f => G.impl_kidIndex.L1 f n s i) (match (List.range' i k).find? (hit n s) with | some j => ((j : Int), true) | none => (0, false)) := by
  intro k
  induction k with
  | zero =>
    intro i hi
    refine Ev.up ?_
    simp only [G.impl_kidIndex.L1]
    exact Ev.cf (by simp; omega) (Ev.ret _)
  | succ k ih =>
    intro i hi
    refine Ev.up ?_
    simp only [G.impl_kidIndex.L1]
    refine Ev.ct (by simp; omega) (Ev.bind (T.strconv_Itoa (i := i) (by omega)) ?_)
    rw [List.range'_succ, List.find?_cons, hit_list hk, wrap_suc (by omega)]
    refine Ev.ite (fun e => Ev.ret' (by rw [e])) (fun e => ?_)
    exact (ih (i + 1) (by omega)).eq (by rw [e])
theorem T.impl_kidIndex {n : NodeT} (s : Txt) (h : Parts n = true) :
    ∃ v b, Ev (fun f => G.impl_kidIndex f n s) (v, b) ∧ (∀ j, plc n s = some j → v = (j : Int) ∧ b = true) ∧ (plc n s = none → b = false) := by
  by_cases h4 : n.Kind = 4
  · obtain ⟨_, _, hN, hl, hkl⟩ := parts_map h h4
    obtain ⟨p, g, hp⟩ := T.slices_BinarySearch_string s (by unfold big; omega) (nm_asc hN)
    have hpl := plc_lb h4 (nm_asc hN) hkl hp
    refine ⟨p, decide (p < n.Names.length) && n.Names.getD p default == s, Ev.up ?_, fun j hj => ?_, fun hn => ?_⟩
    · simp only [G.impl_kidIndex]
      exact Ev.ct (by simpa using h4) (Ev.bind g (Ev.ret _))
    · rw [hpl] at hj
      split at hj
      · rename_i hc
        cases hj
        exact ⟨rfl, hc⟩
      · cases hj
    · rw [hpl] at hn
      split at hn
      · cases hn
      · rename_i hc; simpa using hc
  · have e4 : (n.Kind == 4) = false := by simpa using h4
    by_cases h3 : n.Kind = 3
    · obtain ⟨_, _, _, hl⟩ := parts_list h h3
      have g := T.impl_kidIndex.L1 s h3 hl n.Kids.length 0 (by omega)
      cases hp : plc n s with
      | some j =>
        refine ⟨j, true, Ev.up ?_, fun j' hj => (by cases hj; exact ⟨rfl, rfl⟩), fun hn => (by cases hn)⟩
        simp only [G.impl_kidIndex]
        refine Ev.cf e4 (Ev.ct (by simpa using h3) ?_)
        exact g.eq (by unfold plc at hp; rw [hp])
      | none =>
        refine ⟨0, false, Ev.up ?_, fun j' hj => (by cases hj), fun _ => rfl⟩
        simp only [G.impl_kidIndex]
        refine Ev.cf e4 (Ev.ct (by simpa using h3) ?_)
        exact g.eq (by unfold plc at hp; rw [hp])
    · have hp : plc n s = none := plc_none.2 (fun q _ => hit_leaf h4 h3 s q)
      refine ⟨0, false, Ev.up ?_, fun j hj => (by rw [hp] at hj; cases hj), fun _ => rfl⟩
      simp only [G.impl_kidIndex]
      exact Ev.cf e4 (Ev.cf (by simpa using h3) (Ev.ret _))
def atN : NodeT → List Txt → Option NodeT
  | n, [] => some n
  | n, s :: p => match plc n s with
    | some j => atN (n.Kids.getD j default) p
    | none => none
def noNode : NodeT := NodeT.mk 0 0 [] [] []
def pairO : Option NodeT → NodeT × Bool
  | some n => (n, true)
  | none => (noNode, false)
theorem T.spec_at.L1 {B : Nat} (p : List Txt) (hB : B ≤ lim) (hp : p.length < big) :
    ∀ (k i D : Nat) (n : NodeT), i + k = p.length → Fine B D n → Ev (fun f => G.spec_at.L1 f p i n.Kind n.Num n.Text n.Names n.Kids) (pairO (atN n (p.drop i))) := by
  unfold big at hp
  intro k
  induction k with
  | zero =>
    intro i D n hi h
    refine Ev.up ?_
    simp only [G.spec_at.L1, NodeT.eta]
    refine Ev.cf (by simp; omega) ?_
    rw [List.drop_of_length_le (by omega)]
    have hc := T.spec_copyNode hB h
    exact Ev.bind hc (Ev.ret _)
  | succ k ih =>
    intro i D n hi h
    refine Ev.up ?_
    simp only [G.spec_at.L1, NodeT.eta]
    refine Ev.ct (by simp; omega) (Ev.chk (by omega) ?_)
    rw [drop_of_lt (default : Txt) (by omega : i < p.length), Int.toNat_natCast]
    have hP := T.spec_place (p.getD i default) hB h
    refine Ev.bind hP ?_
    rw [atN]
    cases hj : plc n (p.getD i default) with
    | none => exact Ev.ct rfl (Ev.ret _)
    | some j =>
      have hjl := plc_lt hj
      cases D with
      | zero => exact h.elim
      | succ D =>
      refine Ev.cf (decide_eq_false (by simp only [plcI]; omega)) (Ev.chk (by simp only [plcI]; omega) ?_)
      rw [wrap_suc (by omega)]
      exact ih (i + 1) D _ (by omega) (h.kid hjl)
theorem T.spec_at {B D : Nat} {n : NodeT} (p : List Txt) (hB : B ≤ lim) (hp : p.length < big) (h : Fine B D n) : Ev (fun f => G.spec_at f n p) (pairO (atN n p)) := by
  refine Ev.up ?_
  simp only [G.spec_at]
  exact T.spec_at.L1 p hB hp p.length 0 D n (by omega) h
theorem T.impl_findNode.L1 (p : List Txt) (hp : p.length < big) :
    ∀ (k i d : Nat) (n : NodeT), i + k = p.length → Shape d n = true → Ev (fun f => G.impl_findNode.L1 f p i n.Kind n.Num n.Text n.Names n.Kids) (pairO (atN n (p.drop i))) := by
  unfold big at hp
  intro k
  induction k with
  | zero =>
    intro i d n hi h
    refine Ev.up ?_
    simp only [G.impl_findNode.L1, NodeT.eta]
    refine Ev.cf (by simp; omega) ?_
    rw [List.drop_of_length_le (by omega)]
    exact Ev.ret _
  | succ k ih =>
    intro i d n hi h
    cases d with
    | zero => cases h
    | succ d =>
    refine Ev.up ?_
    simp only [G.impl_findNode.L1, NodeT.eta]
    refine Ev.ct (by simp; omega) (Ev.chk (by omega) ?_)
    rw [drop_of_lt (default : Txt) (by omega : i < p.length), Int.toNat_natCast]
    obtain ⟨v, b, g, h1, h2⟩ := T.impl_kidIndex (p.getD i default) (shape_parts h)
    refine Ev.bind g ?_
    rw [atN]
    cases hj : plc n (p.getD i default) with
    | none => exact Ev.cf (h2 hj) (Ev.ret _)
    | some j =>
      have hjl := plc_lt hj
      obtain ⟨rfl, rfl⟩ := h1 j hj
      refine Ev.ct rfl (Ev.chk (by omega) ?_)
      rw [wrap_suc (by omega)]
      exact ih (i + 1) d _ (by omega) (shape_kids h _ (by rw [Int.toNat_natCast, getD_of_lt _ hjl]; exact List.getElem_mem _))
theorem T.impl_findNode {d : Nat} {n : NodeT} (p : List Txt) (hp : p.length < big) (h : Shape d n = true) : Ev (fun f => G.impl_findNode f n p) (pairO (atN n p)) := by
  refine Ev.up ?_
  simp only [G.impl_findNode]
  exact T.impl_findNode.L1 p hp p.length 0 d n (by omega) h
end Go.Ab
end
section
namespace Go.Ab
open Go
def setK (n : NodeT) (j : Nat) (c : NodeT) : NodeT := NodeT.mk n.Kind n.Num n.Text n.Names (n.Kids.set j c)
def chgN (f : NodeT → Option NodeT) : NodeT → List Txt → Option NodeT
  | n, [] => f n
  | n, s :: p => match plc n s with
    | some j => (chgN f (n.Kids.getD j default) p).map (setK n j)
    | none => none
def setN (n : NodeT) (p : List Txt) (v : NodeT) : Option NodeT := chgN (fun _ => some v) n p
theorem chg_at (f : NodeT → Option NodeT) : ∀ (p : List Txt) (n : NodeT), chgN f n p = (atN n p).bind fun m => (f m).bind fun m' => setN n p m'
  | [], n => by
    show f n = (f n).bind fun m' => some m'
    cases f n <;> rfl
  | s :: p, n => by
    rw [chgN, atN]
    cases hj : plc n s with
    | none => rfl
    | some j =>
      simp only
      rw [chg_at f p]
      cases ha : atN (n.Kids.getD j default) p with
      | none => rfl
      | some m =>
        simp only [Option.bind_some]
        cases hf : f m with
        | none => rfl
        | some m' =>
          simp only [Option.bind_some]
          unfold setN
          rw [chgN, hj]
theorem fine_set {B D E : Nat} {n v : NodeT} {j : Nat} (h : Fine B (D + 1) n) (hv : Fine B E v) : Fine B (max D E + 1) (setK n j v) := by
  obtain ⟨h1, h2, h3, h4, h5, h6⟩ := h
  refine ⟨h1, h2, h3, by simpa [setK] using h4, by simpa [setK] using h5, fun k hk => ?_⟩
  rcases List.mem_or_eq_of_mem_set hk with hk | rfl
  · exact (h6 k hk).mono (Nat.le_refl _) (Nat.le_max_left _ _)
  · exact hv.mono (Nat.le_refl _) (Nat.le_max_right _ _)
theorem fine_chg {B E : Nat} {f : NodeT → Option NodeT} : ∀ (p : List Txt) {D : Nat} {n m : NodeT}, (∀ D' k k', Fine B D' k → f k = some k' → Fine B (D' + E) k') → Fine B D n → chgN f n p = some m → Fine B (D + E) m
  | [], D, n, m, hf, h, hm => hf D n m h hm
  | s :: p, D, n, m, hf, h, hm => by
    rw [chgN] at hm
    cases hj : plc n s with
    | none => rw [hj] at hm; cases hm
    | some j =>
      rw [hj] at hm
      simp only at hm
      cases D with
      | zero => exact h.elim
      | succ D =>
      cases hc : chgN f (n.Kids.getD j default) p with
      | none => rw [hc] at hm; cases hm
      | some c =>
        rw [hc] at hm
        cases hm
        have := fine_set (j := j) h (fine_chg p hf (h.kid (plc_lt hj)) hc)
        exact this.mono (Nat.le_refl _) (by omega)
theorem fine_setN {B D E : Nat} {n v m : NodeT} {p : List Txt} (h : Fine B D n) (hv : Fine B E v) (hm : setN n p v = some m) : Fine B (D + E) m :=
  fine_chg p (fun D' k k' _ e => by cases e; exact hv.mono (Nat.le_refl _) (by omega)) h hm
theorem fine_at {B : Nat} : ∀ (p : List Txt) {D : Nat} {n m : NodeT}, Fine B D n → atN n p = some m → Fine B D m
  | [], _, _, _, h, e => by cases e; exact h
  | s :: p, D, n, m, h, e => by
    rw [atN] at e
    cases hj : plc n s with
    | none => rw [hj] at e; cases e
    | some j =>
      rw [hj] at e
      cases D with
      | zero => exact h.elim
      | succ D => exact (fine_at p (h.kid (plc_lt hj)) e).mono (Nat.le_refl _) (by omega)
theorem T.spec_withKid {B D E : Nat} {n v : NodeT} {j : Nat} (hB : B ≤ lim) (h : Fine B D n) (hv : Fine B E v) (hj : j < n.Kids.length) : Ev (fun f => G.spec_withKid f n j v) (setK n j v) := by
  refine Ev.up ?_
  simp only [G.spec_withKid]
  refine Ev.bind (T.spec_copyNode hB h) (Ev.bind (T.spec_copyNode hB hv) (Ev.chk (by omega) (Ev.ret' ?_)))
  rw [Int.toNat_natCast]; rfl
theorem T.spec_setAt {B E : Nat} {v : NodeT} (hB : B ≤ lim) (hv : Fine B E v) : ∀ (p : List Txt) {D : Nat} {n : NodeT}, p.length < big → Fine B D n → Ev (fun f => G.spec_setAt f n p v) (pairO (setN n p v))
  | [], D, n, _, h => by
    refine Ev.up ?_
    simp only [G.spec_setAt]
    exact Ev.ct rfl (Ev.bind (T.spec_copyNode hB hv) (Ev.ret _))
  | s :: p, D, n, hp, h => by
    simp only [List.length_cons] at hp
    have hp' := hp
    unfold big at hp'
    refine Ev.up ?_
    simp only [G.spec_setAt]
    refine Ev.cf (by simp; omega) (Ev.chk (by simp) ?_)
    rw [List.getD_cons_zero]
    refine Ev.bind (T.spec_place s hB h) ?_
    unfold setN
    rw [chgN]
    cases hj : plc n s with
    | none => exact Ev.ct rfl (Ev.ret _)
    | some j =>
      have hjl := plc_lt hj
      cases D with
      | zero => exact h.elim
      | succ D =>
      refine Ev.cf (decide_eq_false (by simp only [plcI]; omega)) (Ev.chk (by simp only [plcI]; omega) (Ev.chk (by simp; omega) ?_))
      have hk := h.kid hjl
      have ih := T.spec_setAt hB hv p (by omega) hk
      refine Ev.bind (show Ev (fun f => G.spec_setAt f (n.Kids.getD (plcI (some j)).toNat default) ((s :: p).drop 1) v) _ from ih) ?_
      show Ev _ (pairO ((setN (n.Kids.getD j default) p v).map (setK n j)))
      cases hc : setN (n.Kids.getD j default) p v with
      | none => exact Ev.cf rfl (Ev.ret _)
      | some c =>
        refine Ev.ct rfl ?_
        exact Ev.bind (T.spec_withKid hB h (fine_setN hk hv hc) hjl) (Ev.ret _)
theorem pt_len {s : Txt} (h : PT s = true) : s.length ≤ 12 := by unfold PT at h; simp at h; exact h.2
theorem shape_fine : ∀ {d : Nat} {n : NodeT}, Shape d n = true → Fine 12 d n
  | 0, _, h => by cases h
  | d + 1, n, h => by
    have hp := shape_parts h
    have hk := shape_kids h
    have hl := parts_len hp
    refine ⟨?_, ?_, ?_, by omega, ?_, fun k hk' => shape_fine (hk k hk')⟩
    · by_cases h2 : n.Kind = 2
      · unfold Parts at hp; simp [h2] at hp; exact pt_len hp.2.1
      · have e2 : (n.Kind == 2) = false := by simpa using h2
        unfold Parts at hp
        simp only [e2, Bool.false_or, Bool.and_eq_true] at hp
        have := hp.1.1.2
        rw [beq_iff_eq] at this
        rw [this]; simp
    · by_cases h4 : n.Kind = 4
      · have := (parts_map hp h4).2.2.2.1; omega
      · by_cases h3 : n.Kind = 3
        · rw [(parts_list hp h3).2.2.1]; simp
        · rw [(parts_leaf hp h4 h3).1]; simp
    · intro s hs
      by_cases h4 : n.Kind = 4
      · exact pt_len (nm_all (parts_map hp h4).2.2.1 s hs)
      · by_cases h3 : n.Kind = 3
        · rw [(parts_list hp h3).2.2.1] at hs; cases hs
        · rw [(parts_leaf hp h4 h3).1] at hs; cases hs
    · intro h4; have := (parts_map hp h4).2.2.2.2; omega
theorem shape_kid {d : Nat} {n : NodeT} (h : Shape (d + 1) n = true) {j : Nat} (hj : j < n.Kids.length) : Shape d (n.Kids.getD j default) = true := by
  rw [getD_of_lt _ hj]; exact shape_kids h _ (List.getElem_mem _)
theorem lim12 : 12 ≤ lim := by decide
theorem T.change {F : Nat → NodeT → List Txt → Option (NodeT × Bool)} {C : Nat → NodeT → Option (NodeT × Bool)} {g : NodeT → Option NodeT}
    (hF : ∀ n a p, F (n + 1) a p = cond (((p.length : Nat) : Int) == 0) (Option.bind (C n a) fun v1 => some (v1.1, v1.2))
      (chk (0 ≤ 0 ∧ 0 < ((p.length : Nat) : Int)) (Option.bind (G.impl_kidIndex n a (p.getD 0 default)) fun v2 => cond v2.2
        (chk (0 ≤ v2.1 ∧ v2.1 < ((a.Kids.length : Nat) : Int)) (chk (0 ≤ 1 ∧ 1 ≤ ((p.length : Nat) : Int) ∧ ((p.length : Nat) : Int) ≤ ((p.length : Nat) : Int))
          (Option.bind (F n (a.Kids.getD v2.1.toNat default) (p.drop 1)) fun v3 => cond v3.2 (Option.bind (G.impl_copyNode n a) fun v4 => chk (0 ≤ v2.1 ∧ v2.1 < ((v4.Kids.length : Nat) : Int)) (some ((NodeT.mk v4.Kind v4.Num v4.Text v4.Names (v4.Kids.set v2.1.toNat v3.1)), true)))
            (some ((NodeT.mk 0 0 [] [] []), false))))) (some ((NodeT.mk 0 0 [] [] []), false)))))
    (hC : ∀ d m, Shape d m = true → Ev (fun n => C n m) (pairO (g m))) :
    ∀ (p : List Txt) {d : Nat} {n : NodeT}, Shape d n = true → Ev (fun k => F k n p) (pairO (chgN g n p))
  | [], d, n, h => by
    refine Ev.up ?_
    simp only [hF]
    refine Ev.ct rfl (Ev.bind (hC d n h) (Ev.ret' ?_))
    rw [chgN]
  | s :: p, d, n, h => by
    cases d with
    | zero => cases h
    | succ d =>
    obtain ⟨v, b, gk, h1, h2⟩ := T.impl_kidIndex s (shape_parts h)
    refine Ev.up ?_
    simp only [hF]
    refine Ev.cf (by simp; omega) (Ev.chk (by simp) ?_)
    rw [List.getD_cons_zero]
    refine Ev.bind gk ?_
    rw [chgN]
    cases hj : plc n s with
    | none => exact Ev.cf (h2 hj) (Ev.ret _)
    | some j =>
      have hjl := plc_lt hj
      obtain ⟨rfl, rfl⟩ := h1 j hj
      refine Ev.ct rfl (Ev.chk (by omega) (Ev.chk (by simp; omega) ?_))
      rw [Int.toNat_natCast]
      have ih := T.change hF hC p (shape_kid h hjl)
      refine Ev.bind (show Ev (fun k => F k (n.Kids.getD j default) ((s :: p).drop 1)) _ from ih) ?_
      simp only
      cases hc : chgN g (n.Kids.getD j default) p with
      | none => exact Ev.cf rfl (Ev.ret _)
      | some c =>
        refine Ev.ct rfl (Ev.bind (T.impl_copyNode lim12 (shape_fine h)) (Ev.chk (by omega) (Ev.ret _)))
end Go.Ab
end
section
namespace Go.Ab
open Go
def insL {α : Type} (l : List α) (k : Nat) (v : α) : List α := (l.take k ++ [v]) ++ l.drop k
def slt (n : NodeT) (s : Txt) : Nat := ((List.range' 0 n.Kids.length).find? fun i => bl s (n.Names.getD i default)).getD n.Kids.length
def addN (n : NodeT) (s : Txt) (v : NodeT) : Option NodeT :=
  match plc n s with
  | some k => if n.Kind = 4 then some (setK n k v) else some (NodeT.mk n.Kind 0 [] [] (insL n.Kids k v))
  | none => if n.Kind = 3 then (if s = [45] ∨ s = decN n.Kids.length then some (NodeT.mk n.Kind 0 [] [] (insL n.Kids n.Kids.length v)) else none)
    else if n.Kind = 4 then some (NodeT.mk n.Kind 0 [] (insL n.Names (slt n s) s) (insL n.Kids (slt n s) v)) else none
theorem slt_le (n : NodeT) (s : Txt) : slt n s ≤ n.Kids.length := by
  unfold slt
  cases h : (List.range' 0 n.Kids.length).find? fun i => bl s (n.Names.getD i default) with
  | none => simp
  | some j => have := (find_some.1 h).2.1; simp only [Option.getD_some]; omega
def slotN (n : NodeT) (s : Txt) : Option (Nat × Bool) :=
  match plc n s with
  | some k => some (k, n.Kind == 4)
  | none => if n.Kind = 3 then (if s = [45] ∨ s = decN n.Kids.length then some (n.Kids.length, false) else none)
    else if n.Kind = 4 then some (slt n s, false) else none
def slotI : Option (Nat × Bool) → Int × Bool
  | some (k, b) => ((k : Int), b)
  | none => (-1, false)
theorem T.spec_slot.L1 {n : NodeT} (s : Txt) (hk : n.Kind ≠ 4) : Ev (fun f => G.spec_slot.L1 f n s 0) (-1, false) := by
  refine Ev.up ?_
  simp only [G.spec_slot.L1]
  exact Ev.cf (by simpa using hk) (Ev.ret _)
theorem T.spec_slot.L2 {B D : Nat} {n : NodeT} (s : Txt) (hB : B ≤ lim) (h : Fine B D n) (hk : n.Kind = 4) :
    ∀ (k i : Nat), i + k = n.Kids.length → Ev (fun f => G.spec_slot.L2 f n s i) (((((List.range' i k).find? fun i => bl s (n.Names.getD i default)).getD n.Kids.length : Nat) : Int), false) := by
  have hl := h.kids
  have hm := h.map hk
  unfold lim at hB
  intro k
  induction k with
  | zero =>
    intro i hi
    refine Ev.up ?_
    simp only [G.spec_slot.L2]
    refine Ev.ct (by simpa using hk) (Ev.ct (by simp; omega) (Ev.ct (by simp; omega) (Ev.ret' ?_)))
    show ((i : Int), false) = (((n.Kids.length : Nat) : Int), false)
    rw [show i = n.Kids.length by omega]
  | succ k ih =>
    intro i hi
    refine Ev.up ?_
    simp only [G.spec_slot.L2]
    refine Ev.ct (by simpa using hk) (Ev.ct (by simp; omega) (Ev.cf (by simp; omega) (Ev.chk (by omega) ?_)))
    rw [List.range'_succ, List.find?_cons, Int.toNat_natCast]
    refine Ev.ite (fun e => Ev.ret' ?_) (fun e => ?_)
    · rw [show bl s (n.Names.getD i default) = true from e]; rfl
    · rw [wrap_suc (by omega), show bl s (n.Names.getD i default) = false from e]
      exact ih (i + 1) (by omega)
theorem T.spec_slot {B D : Nat} {n : NodeT} (s : Txt) (hB : B ≤ lim) (h : Fine B D n) (hB' : B < lim) : Ev (fun f => G.spec_slot f n s) (slotI (slotN n s)) := by
  have hl := h.kids
  refine Ev.up ?_
  simp only [G.spec_slot]
  refine Ev.bind (T.spec_place s hB h) ?_
  unfold slotN
  cases hj : plc n s with
  | some j => exact Ev.ct (decide_eq_true (by simp only [plcI]; omega)) (Ev.ret _)
  | none =>
    refine Ev.cf (by rfl) ?_
    simp only
    by_cases h3 : n.Kind = 3
    · rw [if_pos h3]
      refine Ev.ct (by simpa using h3) ?_
      refine Ev.ite (fun e => Ev.ret' ?_) (fun e => ?_)
      · rw [if_pos (.inl (by simpa using e))]; rfl
      · refine Ev.bind (T.decimal (i := n.Kids.length) (by omega)) (Ev.ite (fun e2 => Ev.ret' ?_) (fun e2 => ?_))
        · rw [if_pos (.inr (by simpa using e2))]; rfl
        · rw [if_neg (by simp at e e2; simp [e, e2])]
          exact T.spec_slot.L1 s (by omega)
    · rw [if_neg h3]
      refine Ev.cf (by simpa using h3) ?_
      by_cases h4 : n.Kind = 4
      · rw [if_pos h4]
        exact T.spec_slot.L2 s hB h h4 n.Kids.length 0 (by omega)
      · rw [if_neg h4]
        refine Ev.up ?_
        simp only [G.spec_slot.L2]
        exact Ev.cf (by simpa using h4) (Ev.ret _)
theorem addN_slot (n : NodeT) (s : Txt) (v : NodeT) : addN n s v = (slotN n s).map fun q => if q.2 then setK n q.1 v else if n.Kind = 3 then NodeT.mk n.Kind 0 [] [] (insL n.Kids q.1 v) else NodeT.mk n.Kind 0 [] (insL n.Names q.1 s) (insL n.Kids q.1 v) := by
  unfold addN slotN
  cases hj : plc n s with
  | some j =>
    simp only [Option.map_some]
    by_cases h4 : n.Kind = 4
    · simp [h4]
    · have h3 : n.Kind = 3 := by
        by_cases h3 : n.Kind = 3
        · exact h3
        · have := plc_hit hj; rw [hit_leaf h4 h3] at this; cases this
      simp [h3]
  | none =>
    simp only
    by_cases h3 : n.Kind = 3
    · simp only [h3, if_true]
      by_cases hs : s = [45] ∨ s = decN n.Kids.length
      · rw [if_pos hs, if_pos hs]; simp
      · rw [if_neg hs, if_neg hs]; rfl
    · rw [if_neg h3, if_neg h3]
      by_cases h4 : n.Kind = 4
      · rw [if_pos h4, if_pos h4]; simp [h3]
      · rw [if_neg h4, if_neg h4]; rfl
theorem slot_le {n : NodeT} {s : Txt} {q : Nat × Bool} (h : slotN n s = some q) : q.1 ≤ n.Kids.length ∧ (q.2 = true → q.1 < n.Kids.length) ∧ (n.Kind = 3 ∨ n.Kind = 4) := by
  unfold slotN at h
  cases hj : plc n s with
  | some j =>
    rw [hj] at h
    cases h
    have := plc_lt hj
    refine ⟨by omega, fun _ => this, ?_⟩
    by_cases h4 : n.Kind = 4
    · exact .inr h4
    · by_cases h3 : n.Kind = 3
      · exact .inl h3
      · have := plc_hit hj; rw [hit_leaf h4 h3] at this; cases this
  | none =>
    rw [hj] at h
    simp only at h
    by_cases h3 : n.Kind = 3
    · rw [if_pos h3] at h
      split at h
      · cases h; exact ⟨Nat.le_refl _, fun e => (by cases e), .inl h3⟩
      · cases h
    · rw [if_neg h3] at h
      split at h
      · rename_i h4; cases h; exact ⟨slt_le n s, fun e => (by cases e), .inr h4⟩
      · cases h
theorem T.spec_addHere {B D E : Nat} {n v : NodeT} (s : Txt) (hB : B < lim) (h : Fine B D n) (hv : Fine B E v) : Ev (fun f => G.spec_addHere f n s v) (pairO (addN n s v)) := by
  have hl := h.kids
  have hn := h.names
  have hB2 := hB
  unfold lim at hB2
  refine Ev.up ?_
  simp only [G.spec_addHere]
  refine Ev.bind (T.spec_slot s (by omega) h hB) ?_
  rw [addN_slot]
  cases hq : slotN n s with
  | none => exact Ev.ct rfl (Ev.ret _)
  | some q =>
    obtain ⟨q1, q2⟩ := q
    obtain ⟨hq1, hq2, hk⟩ := slot_le hq
    simp only at hq1 hq2
    refine Ev.cf (decide_eq_false (by simp only [slotI]; omega)) ?_
    refine Ev.ite (fun e => ?_) (fun e => ?_)
    · have e : q2 = true := e
      subst e
      exact Ev.bind (T.spec_withKid (by omega) h hv (hq2 rfl)) (Ev.ret _)
    · have e : q2 = false := e
      subst e
      simp only [slotI, Int.toNat_natCast]
      have ht : (n.Kids.take q1).length = q1 := by rw [List.length_take]; omega
      have hd : (n.Kids.drop q1).length = n.Kids.length - q1 := List.length_drop
      refine Ev.bind (T.spec_copyNode (by omega) h) (Ev.chk (by omega) (Ev.chk (by omega) (Ev.bind (T.spec_copyNode (by omega) hv) (Ev.chk (by omega) (Ev.chk (by omega) (Ev.chk (by omega) ?_))))))
      refine Ev.ite (fun e3 => Ev.ret' ?_) (fun e3 => ?_)
      · have e3' : n.Kind = 3 := by simpa using e3
        simp only [Option.map_some, if_pos e3']
        rfl
      · have e3' : ¬ n.Kind = 3 := by simpa using e3
        have h4 : n.Kind = 4 := by omega
        have hm := h.map h4
        have ht2 : (n.Names.take q1).length = q1 := by rw [List.length_take]; omega
        have hd2 : (n.Names.drop q1).length = n.Names.length - q1 := List.length_drop
        refine Ev.chk (by omega) (Ev.chk (by omega) (Ev.chk (by omega) (Ev.chk (by omega) (Ev.chk (by omega) (Ev.ret' ?_)))))
        simp only [Option.map_some, if_neg e3']
        rfl
theorem fine_add {B D E : Nat} {n v m : NodeT} {s : Txt} (h : Fine B D n) (hv : Fine B E v) (hs : s.length ≤ B) (hm : addN n s v = some m) : Fine (B + 1) (D + E) m := by
  rw [addN_slot] at hm
  cases hq : slotN n s with
  | none => rw [hq] at hm; cases hm
  | some q =>
    obtain ⟨q1, q2⟩ := q
    obtain ⟨hq1, hq2, hk⟩ := slot_le hq
    simp only at hq1 hq2
    rw [hq] at hm
    cases D with
    | zero => exact h.elim
    | succ D =>
    cases hm
    have hkid : ∀ k, k ∈ insL n.Kids q1 v → Fine (B + 1) (D + E) k := by
      intro k hk
      unfold insL at hk
      simp only [List.mem_append, List.mem_singleton] at hk
      rcases hk with (hk | rfl) | hk
      · exact (h.2.2.2.2.2 k (List.mem_of_mem_take hk)).mono (by omega) (by omega)
      · exact hv.mono (by omega) (by omega)
      · exact (h.2.2.2.2.2 k (List.mem_of_mem_drop hk)).mono (by omega) (by omega)
    have hlen : (insL n.Kids q1 v).length = n.Kids.length + 1 := by unfold insL; simp; omega
    have hl := h.kids
    have hn := h.names
    have hb : 1 ≤ B + 1 := by omega
    cases q2 with
    | true => exact (fine_set (j := q1) h hv).mono (by omega) (by omega)
    | false =>
      simp only [Bool.false_eq_true, if_false]
      rw [show D + 1 + E = (D + E) + 1 by omega]
      by_cases h3 : n.Kind = 3
      · rw [if_pos h3]
        exact ⟨by simp, by simp, by simp, by show (insL n.Kids q1 v).length ≤ _; omega, fun h4 => by simp only at h4; omega, hkid⟩
      · rw [if_neg h3]
        have h4 : n.Kind = 4 := by omega
        have hm := h.map h4
        have hlen2 : (insL n.Names q1 s).length = n.Names.length + 1 := by unfold insL; simp; omega
        refine ⟨by simp, by show (insL n.Names q1 s).length ≤ _; omega, fun x hx => ?_, by show (insL n.Kids q1 v).length ≤ _; omega, fun _ => by show (insL n.Kids q1 v).length ≤ (insL n.Names q1 s).length; omega, hkid⟩
        have hx : x ∈ insL n.Names q1 s := hx
        unfold insL at hx
        simp only [List.mem_append, List.mem_singleton] at hx
        rcases hx with (hx | rfl) | hx
        · have := h.2.2.1 x (List.mem_of_mem_take hx); omega
        · omega
        · have := h.2.2.1 x (List.mem_of_mem_drop hx); omega
theorem slt_lb {n : NodeT} {s : Txt} {p : Nat} (hA : Asc n.Names = true) (hl : n.Kids.length = n.Names.length) (h : LB n.Names s p) (hne : (decide (p < n.Names.length) && n.Names.getD p default == s) = false) : slt n s = p := by
  have hhi : ∀ j, p ≤ j → j < n.Names.length → bl s (n.Names.getD j default) = true := by
    intro j h1 h2
    cases hb : bl s (n.Names.getD j default) with
    | true => rfl
    | false =>
      have e := bl_tri hb (h.hi j h1 h2)
      by_cases hp : p = j
      · subst hp
        have : decide (p < n.Names.length) = true := by simpa using h2
        rw [this, ← e] at hne
        simp at hne
      · have := Asc_lt hA p j (by omega) h2
        rw [← e, h.hi p (by omega) (by omega)] at this
        cases this
  unfold slt
  cases hf : (List.range' 0 n.Kids.length).find? fun i => bl s (n.Names.getD i default) with
  | none =>
    have := find_none.1 hf
    by_cases hp : p = n.Kids.length
    · rw [hp]; rfl
    · have hple := h.le
      have h2 := hhi p (by omega) (by omega)
      rw [this p (by omega) (by omega)] at h2
      cases h2
  | some j =>
    obtain ⟨h1, h2, h3, h4⟩ := find_some.1 hf
    show j = p
    have a1 : ¬ j < p := fun hlt => by
      have := bl_asymm (h.lo j hlt)
      rw [this] at h3; cases h3
    have a2 : ¬ p < j := fun hlt => by
      have := h4 p (by omega) hlt
      rw [hhi p (by omega) (by omega)] at this; cases this
    omega
theorem T.impl_putName {d : Nat} {n v : NodeT} (s : Txt) (h : Shape (d + 1) n = true) (hk : n.Kind = 4) : ∃ m, addN n s v = some m ∧ Ev (fun f => G.impl_putName f n s v) m := by
  have hp := shape_parts h
  obtain ⟨hnum, htext, hN, hl, hkl⟩ := parts_map hp hk
  obtain ⟨p, g, hlb⟩ := T.slices_BinarySearch_string s (by unfold big; omega) (nm_asc hN)
  have hpl := plc_lb hk (nm_asc hN) hkl hlb
  have hple := hlb.le
  cases hc : decide (p < n.Names.length) && n.Names.getD p default == s with
  | true =>
    rw [hc, if_pos rfl] at hpl
    refine ⟨setK n p v, by unfold addN; rw [hpl]; simp [hk], Ev.up ?_⟩
    simp only [G.impl_putName]
    have := plc_lt hpl
    refine Ev.bind g (Ev.ct hc (Ev.chk (by omega) (Ev.ret' ?_)))
    rw [Int.toNat_natCast]; rfl
  | false =>
    rw [hc, if_neg (by simp)] at hpl
    have hsl := slt_lb (nm_asc hN) hkl hlb hc
    refine ⟨NodeT.mk n.Kind 0 [] (insL n.Names p s) (insL n.Kids p v), by unfold addN; rw [hpl, hsl]; simp [hk], Ev.up ?_⟩
    simp only [G.impl_putName]
    refine Ev.bind g (Ev.cf hc ?_)
    have i1 : Ev (fun f => G.slices_Insert_string f n.Names (p : Int) [s]) (insL n.Names p s) := by
      refine Ev.up ?_
      simp only [G.slices_Insert_string]
      refine Ev.chk (by simp; omega) (Ev.ret' ?_)
      rw [Int.toNat_natCast]; rfl
    have i2 : Ev (fun f => G.slices_Insert_impl_Node f n.Kids (p : Int) [v]) (insL n.Kids p v) := by
      refine Ev.up ?_
      simp only [G.slices_Insert_impl_Node]
      refine Ev.chk (by simp; omega) (Ev.ret' ?_)
      rw [Int.toNat_natCast]; rfl
    exact Ev.bind i1 (Ev.bind i2 (Ev.ret' (by rw [hnum, htext])))
theorem T.impl_addKid.K1 {B E : Nat} {n v : NodeT} {k : Nat} (hB : B ≤ lim) (hv : Fine B E v) (hk : k ≤ n.Kids.length) (hl : n.Kids.length ≤ 6) : Ev (fun f => G.impl_addKid.K1 f v n (k : Int) true) (NodeT.mk n.Kind n.Num n.Text n.Names (insL n.Kids k v), true) := by
  refine Ev.up ?_
  simp only [G.impl_addKid.K1]
  refine Ev.ct rfl (Ev.bind (T.impl_copyNode hB hv) ?_)
  have i2 : Ev (fun f => G.slices_Insert_impl_Node f n.Kids (k : Int) [v]) (insL n.Kids k v) := by
    refine Ev.up ?_
    simp only [G.slices_Insert_impl_Node]
    refine Ev.chk (by simp; omega) (Ev.ret' ?_)
    rw [Int.toNat_natCast]; rfl
  exact Ev.bind i2 (Ev.ret _)
theorem T.impl_addKid {B E d : Nat} {n v : NodeT} (s : Txt) (hB : B ≤ lim) (hv : Fine B E v) (h : Shape d n = true) : Ev (fun f => G.impl_addKid f n s v) (pairO (addN n s v)) := by
  cases d with
  | zero => cases h
  | succ d =>
  have hp := shape_parts h
  refine Ev.up ?_
  simp only [G.impl_addKid]
  refine Ev.bind (T.impl_copyNode lim12 (shape_fine h)) ?_
  by_cases h4 : n.Kind = 4
  · refine Ev.ct (by simpa using h4) (Ev.bind (T.impl_copyNode hB hv) ?_)
    obtain ⟨m, hm, g⟩ := T.impl_putName (v := v) s h h4
    rw [hm]
    exact Ev.bind g (Ev.ret _)
  refine Ev.cf (by simpa using h4) ?_
  by_cases h3 : n.Kind = 3
  · obtain ⟨hnum, htext, hnames, hl⟩ := parts_list hp h3
    refine Ev.ct (by simpa using h3) ?_
    obtain ⟨w, b, g, h1, h2⟩ := T.impl_kidIndex s hp
    refine Ev.bind g ?_
    unfold addN
    cases hj : plc n s with
    | some j =>
      obtain ⟨rfl, rfl⟩ := h1 j hj
      have := plc_lt hj
      refine Ev.ct rfl ((T.impl_addKid.K1 (k := j) hB hv (by omega) hl).eq ?_)
      simp only [if_neg h4]
      rw [hnum, htext, hnames]; rfl
    | none =>
      have hb := h2 hj
      subst hb
      simp only [if_pos h3]
      refine Ev.cf rfl (Ev.ite (fun e => ?_) (fun e => ?_))
      · refine (T.impl_addKid.K1 (k := n.Kids.length) hB hv (by omega) hl).eq ?_
        rw [if_pos (.inl (by simpa using e)), hnum, htext, hnames]; rfl
      · refine Ev.bind (T.strconv_Itoa (i := n.Kids.length) (by omega)) (Ev.ite (fun e2 => ?_) (fun e2 => ?_))
        · refine (T.impl_addKid.K1 (k := n.Kids.length) hB hv (by omega) hl).eq ?_
          rw [if_pos (.inr (by simpa using e2)), hnum, htext, hnames]; rfl
        · rw [if_neg (by simp at e e2; simp [e, e2])]
          refine Ev.up ?_
          simp only [G.impl_addKid.K1]
          exact Ev.cf rfl (Ev.ret _)
  · refine Ev.cf (by simpa using h3) (Ev.ret' ?_)
    have hn : plc n s = none := plc_none.2 (fun q _ => hit_leaf h4 h3 s q)
    unfold addN
    rw [hn]
    simp [h3, h4, pairO, noNode]
end Go.Ab
end
section
namespace Go.Ab
open Go
theorem T.spec_toInt (b : Bool) : Ev (fun f => G.spec_toInt f b) (if b then 1 else 0) := by
  refine Ev.up ?_
  simp only [G.spec_toInt]
  cases b
  · exact Ev.ret _
  · exact Ev.ret _
theorem T.spec_order (a b : Int) : ∃ r, Ev (fun f => G.spec_order f a b) r ∧ (r = 0 ↔ a = b) := by
  by_cases h : a < b
  · refine ⟨-1, Ev.up ?_, by omega⟩
    simp only [G.spec_order]
    rw [show decide (b < a) = false by simp; omega, show decide (a < b) = true by simpa using h]
    exact Ev.bind (T.spec_toInt _) (Ev.bind (T.spec_toInt _) (Ev.ret _))
  · by_cases k : b < a
    · refine ⟨1, Ev.up ?_, by omega⟩
      simp only [G.spec_order]
      rw [show decide (a < b) = false by simp; omega, show decide (b < a) = true by simpa using k]
      exact Ev.bind (T.spec_toInt _) (Ev.bind (T.spec_toInt _) (Ev.ret _))
    · refine ⟨0, Ev.up ?_, by omega⟩
      simp only [G.spec_order]
      rw [show decide (a < b) = false by simp; omega, show decide (b < a) = false by simp; omega]
      exact Ev.bind (T.spec_toInt _) (Ev.bind (T.spec_toInt _) (Ev.ret _))
theorem T.spec_orderText (a b : Txt) (hne : a ≠ b) : ∃ r, Ev (fun f => G.spec_orderText f a b) r ∧ r ≠ 0 := by
  cases h : bl a b with
  | true =>
    refine ⟨-1, Ev.up ?_, by omega⟩
    simp only [G.spec_orderText]
    exact Ev.ct h (Ev.bind (T.spec_toInt _) (Ev.bind (T.spec_toInt _) (Ev.ret _)))
  | false =>
    refine ⟨1, Ev.up ?_, by omega⟩
    simp only [G.spec_orderText]
    exact Ev.cf h (Ev.cf (by simpa using hne) (Ev.bind (T.spec_toInt _) (Ev.bind (T.spec_toInt _) (Ev.ret _))))
def EqFrom (a b : NodeT) (i : Nat) : Prop := a.Kids.drop i = b.Kids.drop i ∧ (a.Kind = 4 → a.Names.drop i = b.Names.drop i)
theorem eqFrom_suc {a b : NodeT} {i : Nat} (ha : i < a.Kids.length) (hb : i < b.Kids.length) (h4 : a.Kind = 4 → i < a.Names.length ∧ i < b.Names.length) :
    EqFrom a b i ↔ ((a.Kind = 4 → a.Names.getD i default = b.Names.getD i default) ∧ a.Kids.getD i default = b.Kids.getD i default ∧ EqFrom a b (i + 1)) := by
  unfold EqFrom
  rw [drop_of_lt (default : NodeT) ha, drop_of_lt (default : NodeT) hb, List.cons.injEq]
  by_cases hk : a.Kind = 4
  · obtain ⟨n1, n2⟩ := h4 hk
    rw [drop_of_lt (default : Txt) n1, drop_of_lt (default : Txt) n2, List.cons.injEq]
    simp only [hk, true_implies]
    constructor
    · rintro ⟨⟨x, y⟩, z, w⟩; exact ⟨z, x, y, w⟩
    · rintro ⟨z, x, y, w⟩; exact ⟨⟨x, y⟩, z, w⟩
  · simp only [hk, false_implies, and_true, true_and]
theorem shape_names {d : Nat} {n : NodeT} (h : Shape d n = true) (hk : n.Kind = 4) : n.Names.length = n.Kids.length := by
  cases d with
  | zero => cases h
  | succ d => exact (parts_map (shape_parts h) hk).2.2.2.2.symm
theorem T.spec_compare.L1 {d e : Nat} {a b : NodeT} (ha : Shape (d + 1) a = true) (hb : Shape (e + 1) b = true) (hk : a.Kind = b.Kind)
    (hs : ∀ x y, x ∈ a.Kids → y ∈ b.Kids → ∃ r, Ev (fun f => G.spec_compare f x y) r ∧ (r = 0 ↔ x = y)) :
    ∀ (k i : Nat), a.Kids.length ≤ i + k → i ≤ a.Kids.length → i ≤ b.Kids.length → ∃ r, Ev (fun f => G.spec_compare.L1 f a b i) r ∧ (r = 0 ↔ EqFrom a b i) := by
  have la := shape_len ha
  have lb := shape_len hb
  have tail : ∀ i, i ≤ a.Kids.length → i ≤ b.Kids.length → (i = a.Kids.length ∨ i = b.Kids.length) → ∃ r, Ev (fun f => Option.bind (G.spec_order f ((a.Kids.length : Nat) : Int) ((b.Kids.length : Nat) : Int)) fun v => some v) r ∧ (r = 0 ↔ EqFrom a b i) := by
    intro i h1 h2 h3
    obtain ⟨r, g, hr⟩ := T.spec_order ((a.Kids.length : Nat) : Int) ((b.Kids.length : Nat) : Int)
    refine ⟨r, Ev.bind g (Ev.ret _), hr.trans ⟨fun hl => ?_, fun hE => ?_⟩⟩
    · have hl : a.Kids.length = b.Kids.length := by omega
      refine ⟨by rw [List.drop_of_length_le (by omega), List.drop_of_length_le (by omega)], fun h4 => ?_⟩
      have n1 := shape_names ha h4
      have n2 := shape_names hb (hk ▸ h4)
      rw [List.drop_of_length_le (by omega), List.drop_of_length_le (by omega)]
    · have := congrArg List.length hE.1
      simp only [List.length_drop] at this
      omega
  intro k
  induction k with
  | zero =>
    intro i h1 h2 h3
    obtain ⟨r, g, hr⟩ := tail i h2 h3 (by omega)
    refine ⟨r, Ev.up ?_, hr⟩
    simp only [G.spec_compare.L1]
    exact Ev.cf (by simp; omega) g
  | succ k ih =>
    intro i h1 h2 h3
    by_cases hia : i = a.Kids.length
    · obtain ⟨r, g, hr⟩ := tail i h2 h3 (by omega)
      refine ⟨r, Ev.up ?_, hr⟩
      simp only [G.spec_compare.L1]
      exact Ev.cf (by simp; omega) g
    by_cases hib : i = b.Kids.length
    · obtain ⟨r, g, hr⟩ := tail i h2 h3 (by omega)
      refine ⟨r, Ev.up ?_, hr⟩
      simp only [G.spec_compare.L1]
      exact Ev.ct (by simp; omega) (Ev.cf (by simp; omega) g)
    have n4 : a.Kind = 4 → i < a.Names.length ∧ i < b.Names.length := fun h4 => by
      have n1 := shape_names ha h4
      have n2 := shape_names hb (hk ▸ h4)
      omega
    have hE := eqFrom_suc (a := a) (b := b) (i := i) (by omega) (by omega) n4
    obtain ⟨r2, g2, hr2⟩ := hs (a.Kids.getD i default) (b.Kids.getD i default) (by rw [getD_of_lt _ (by omega : i < a.Kids.length)]; exact List.getElem_mem _) (by rw [getD_of_lt _ (by omega : i < b.Kids.length)]; exact List.getElem_mem _)
    obtain ⟨r3, g3, hr3⟩ := ih (i + 1) (by omega) (by omega) (by omega)
    have rest : ∃ r, Ev (fun f => Option.bind (G.spec_compare f (a.Kids.getD i default) (b.Kids.getD i default)) fun v => cond (v != 0) (some v) (G.spec_compare.L1 f a b ((i + 1 : Nat) : Int))) r ∧ (r = 0 ↔ (a.Kids.getD i default = b.Kids.getD i default ∧ EqFrom a b (i + 1))) := by
      by_cases h0 : r2 = 0
      · refine ⟨r3, Ev.bind g2 (Ev.cf (by rw [h0]; rfl) g3), ?_⟩
        rw [hr3]
        exact ⟨fun h => ⟨hr2.1 h0, h⟩, fun h => h.2⟩
      · refine ⟨r2, Ev.bind g2 (Ev.ct (by simpa using h0) (Ev.ret _)), ?_⟩
        exact ⟨fun h => absurd h h0, fun h => hr2.2 h.1⟩
    obtain ⟨r4, g4, hr4⟩ := rest
    by_cases h4 : a.Kind = 4
    · obtain ⟨m1, m2⟩ := n4 h4
      by_cases hn : a.Names.getD i default = b.Names.getD i default
      · refine ⟨r4, Ev.up ?_, ?_⟩
        · simp only [G.spec_compare.L1]
          rw [Int.toNat_natCast, wrap_suc (by omega)]
          exact Ev.ct (by simp; omega) (Ev.ct (by simp; omega) (Ev.ct (by simpa using h4) (Ev.chk (by omega) (Ev.chk (by omega) (Ev.ct (by simpa using hn) (Ev.chk (by omega) (Ev.chk (by omega) g4)))))))
        · rw [hr4, hE]
          exact ⟨fun h => ⟨fun _ => hn, h⟩, fun h => h.2⟩
      · obtain ⟨r, g, hr⟩ := T.spec_orderText _ _ hn
        refine ⟨r, Ev.up ?_, ?_⟩
        · simp only [G.spec_compare.L1]
          rw [Int.toNat_natCast, wrap_suc (by omega)]
          exact Ev.ct (by simp; omega) (Ev.ct (by simp; omega) (Ev.ct (by simpa using h4) (Ev.chk (by omega) (Ev.chk (by omega) (Ev.cf (by simpa using hn) (Ev.chk (by omega) (Ev.chk (by omega) (Ev.bind g (Ev.ret _)))))))))
        · rw [hE]
          exact ⟨fun h => absurd h hr, fun h => absurd (h.1 h4) hn⟩
    · refine ⟨r4, Ev.up ?_, ?_⟩
      · simp only [G.spec_compare.L1]
        rw [Int.toNat_natCast, wrap_suc (by omega)]
        exact Ev.ct (by simp; omega) (Ev.ct (by simp; omega) (Ev.cf (by simpa using h4) (Ev.chk (by omega) (Ev.chk (by omega) g4))))
      · rw [hr4, hE]
        exact ⟨fun h => ⟨fun e => absurd e h4, h⟩, fun h => h.2⟩
theorem names_nil {d : Nat} {n : NodeT} (h : Shape (d + 1) n = true) (h4 : n.Kind ≠ 4) : n.Names = [] := by
  by_cases h3 : n.Kind = 3
  · exact (parts_list (shape_parts h) h3).2.2.1
  · exact (parts_leaf (shape_parts h) h4 h3).1
theorem eq_iff {d e : Nat} {a b : NodeT} (ha : Shape (d + 1) a = true) (hb : Shape (e + 1) b = true) : a = b ↔ (a.Kind = b.Kind ∧ a.Num = b.Num ∧ a.Text = b.Text ∧ EqFrom a b 0) := by
  constructor
  · rintro rfl; exact ⟨rfl, rfl, rfl, rfl, fun _ => rfl⟩
  · rintro ⟨h1, h2, h3, h4, h5⟩
    simp only [List.drop_zero] at h4 h5
    have hn : a.Names = b.Names := by
      by_cases h : a.Kind = 4
      · exact h5 h
      · rw [names_nil ha h, names_nil hb (h1 ▸ h)]
    cases a; cases b
    simp only at h1 h2 h3 h4 hn
    subst h1 h2 h3 h4 hn
    rfl
theorem T.spec_compare : ∀ (d : Nat) {e : Nat} {a b : NodeT}, Shape d a = true → Shape e b = true → ∃ r, Ev (fun f => G.spec_compare f a b) r ∧ (r = 0 ↔ a = b)
  | 0, _, _, _, h, _ => by cases h
  | _ + 1, 0, _, _, _, h => by cases h
  | d + 1, e + 1, a, b, ha, hb => by
    rw [eq_iff ha hb]
    by_cases h1 : a.Kind = b.Kind
    · by_cases h2 : a.Num = b.Num
      · by_cases h3 : a.Text = b.Text
        · obtain ⟨r, g, hr⟩ := T.spec_compare.L1 ha hb h1 (fun x y hx hy => T.spec_compare d (shape_kids ha x hx) (shape_kids hb y hy)) a.Kids.length 0 (by omega) (by omega) (by omega)
          refine ⟨r, Ev.up ?_, hr.trans ⟨fun h => ⟨h1, h2, h3, h⟩, fun h => h.2.2.2⟩⟩
          simp only [G.spec_compare]
          exact Ev.cf (by simpa using h1) (Ev.cf (by simpa using h2) (Ev.ct (by simpa using h3) g))
        · obtain ⟨r, g, hr⟩ := T.spec_orderText _ _ h3
          refine ⟨r, Ev.up ?_, ⟨fun h => absurd h hr, fun h => absurd h.2.2.1 h3⟩⟩
          simp only [G.spec_compare]
          exact Ev.cf (by simpa using h1) (Ev.cf (by simpa using h2) (Ev.cf (by simpa using h3) (Ev.bind g (Ev.ret _))))
      · obtain ⟨r, g, hr⟩ := T.spec_order a.Num b.Num
        refine ⟨r, Ev.up ?_, hr.trans ⟨fun h => absurd h h2, fun h => h.2.1⟩⟩
        simp only [G.spec_compare]
        exact Ev.cf (by simpa using h1) (Ev.ct (by simpa using h2) (Ev.bind g (Ev.ret _)))
    · obtain ⟨r, g, hr⟩ := T.spec_order a.Kind b.Kind
      refine ⟨r, Ev.up ?_, hr.trans ⟨fun h => absurd h h1, fun h => h.1⟩⟩
      simp only [G.spec_compare]
      exact Ev.ct (by simpa using h1) (Ev.bind g (Ev.ret _))
theorem T.spec_same {d e : Nat} {a b : NodeT} (ha : Shape d a = true) (hb : Shape e b = true) : ∃ v, Ev (fun f => G.spec_same f a b) v ∧ (v = true ↔ a = b) := by
  obtain ⟨r, g, hr⟩ := T.spec_compare d ha hb
  refine ⟨r == 0, Ev.up ?_, by rw [beq_iff_eq]; exact hr⟩
  simp only [G.spec_same]
  exact Ev.bind g (Ev.ret _)
theorem T.cmp_Compare_int (a b : Int) : ∃ r, Ev (fun f => G.cmp_Compare_int f a b) r ∧ (r = 0 ↔ a = b) := by
  have hn : ∀ x : Int, Ev (fun f => G.cmp_isNaN_int f x) false := fun x => by
    refine Ev.up ?_
    simp only [G.cmp_isNaN_int]
    exact Ev.ret' (by simp)
  by_cases h : a < b
  · refine ⟨-1, Ev.up ?_, by omega⟩
    simp only [G.cmp_Compare_int]
    exact Ev.bind (hn a) (Ev.bind (hn b) (Ev.cf rfl (Ev.cf rfl (Ev.ct (by simpa using h) (Ev.ret _)))))
  · by_cases k : b < a
    · refine ⟨1, Ev.up ?_, by omega⟩
      simp only [G.cmp_Compare_int]
      exact Ev.bind (hn a) (Ev.bind (hn b) (Ev.cf rfl (Ev.cf rfl (Ev.cf (by simpa using h) (Ev.ct (by simpa using k) (Ev.ret _))))))
    · refine ⟨0, Ev.up ?_, by omega⟩
      simp only [G.cmp_Compare_int]
      exact Ev.bind (hn a) (Ev.bind (hn b) (Ev.cf rfl (Ev.cf rfl (Ev.cf (by simpa using h) (Ev.cf (by simpa using k) (Ev.ret _))))))
theorem T.strings_Compare (a b : Txt) : ∃ r, Ev (fun f => G.strings_Compare f a b) r ∧ (r = 0 ↔ a = b) := by
  refine ⟨Go.Lib.compareBytes a b, Ev.up ?_, cmpB_zero⟩
  simp only [G.strings_Compare]
  have : Ev (fun f => G.internal_bytealg_CompareString f a b) (Go.Lib.compareBytes a b) := by
    refine Ev.up ?_
    simp only [G.internal_bytealg_CompareString]
    exact Ev.ret _
  exact Ev.bind this (Ev.ret _)
theorem T.impl_compareValid.L3 {d e : Nat} {a b : NodeT} (ha : Shape (d + 1) a = true) (hb : Shape (e + 1) b = true) (hk : a.Kind = b.Kind)
    (hs : ∀ x y, x ∈ a.Kids → y ∈ b.Kids → ∃ r, Ev (fun f => G.impl_compareValid f x y) r ∧ (r = 0 ↔ x = y)) :
    ∀ (k i : Nat), a.Kids.length ≤ i + k → i ≤ a.Kids.length → i ≤ b.Kids.length → ∃ r, Ev (fun f => G.impl_compareValid.L3 f a b i) r ∧ (r = 0 ↔ EqFrom a b i) := by
  have la := shape_len ha
  have lb := shape_len hb
  have tail : ∀ i, i ≤ a.Kids.length → i ≤ b.Kids.length → (i = a.Kids.length ∨ i = b.Kids.length) → ∃ r, Ev (fun f => Option.bind (G.cmp_Compare_int f ((a.Kids.length : Nat) : Int) ((b.Kids.length : Nat) : Int)) fun v => some v) r ∧ (r = 0 ↔ EqFrom a b i) := by
    intro i h1 h2 h3
    obtain ⟨r, g, hr⟩ := T.cmp_Compare_int ((a.Kids.length : Nat) : Int) ((b.Kids.length : Nat) : Int)
    refine ⟨r, Ev.bind g (Ev.ret _), hr.trans ⟨fun hl => ?_, fun hE => ?_⟩⟩
    · have hl : a.Kids.length = b.Kids.length := by omega
      refine ⟨by rw [List.drop_of_length_le (by omega), List.drop_of_length_le (by omega)], fun h4 => ?_⟩
      have n1 := shape_names ha h4
      have n2 := shape_names hb (hk ▸ h4)
      rw [List.drop_of_length_le (by omega), List.drop_of_length_le (by omega)]
    · have := congrArg List.length hE.1
      simp only [List.length_drop] at this
      omega
  intro k
  induction k with
  | zero =>
    intro i h1 h2 h3
    obtain ⟨r, g, hr⟩ := tail i h2 h3 (by omega)
    refine ⟨r, Ev.up ?_, hr⟩
    simp only [G.impl_compareValid.L3]
    exact Ev.cf (by simp; omega) g
  | succ k ih =>
    intro i h1 h2 h3
    by_cases hia : i = a.Kids.length
    · obtain ⟨r, g, hr⟩ := tail i h2 h3 (by omega)
      refine ⟨r, Ev.up ?_, hr⟩
      simp only [G.impl_compareValid.L3]
      exact Ev.cf (by simp; omega) g
    by_cases hib : i = b.Kids.length
    · obtain ⟨r, g, hr⟩ := tail i h2 h3 (by omega)
      refine ⟨r, Ev.up ?_, hr⟩
      simp only [G.impl_compareValid.L3]
      exact Ev.ct (by simp; omega) (Ev.cf (by simp; omega) g)
    have n4 : a.Kind = 4 → i < a.Names.length ∧ i < b.Names.length := fun h4 => by
      have n1 := shape_names ha h4
      have n2 := shape_names hb (hk ▸ h4)
      omega
    have hE := eqFrom_suc (a := a) (b := b) (i := i) (by omega) (by omega) n4
    obtain ⟨r2, g2, hr2⟩ := hs (a.Kids.getD i default) (b.Kids.getD i default) (by rw [getD_of_lt _ (by omega : i < a.Kids.length)]; exact List.getElem_mem _) (by rw [getD_of_lt _ (by omega : i < b.Kids.length)]; exact List.getElem_mem _)
    obtain ⟨r3, g3, hr3⟩ := ih (i + 1) (by omega) (by omega) (by omega)
    have rest : ∃ r, Ev (fun f => G.impl_compareValid.K4 f a b (i : Int)) r ∧ (r = 0 ↔ (a.Kids.getD i default = b.Kids.getD i default ∧ EqFrom a b (i + 1))) := by
      by_cases h0 : r2 = 0
      · refine ⟨r3, Ev.up ?_, ?_⟩
        · simp only [G.impl_compareValid.K4]
          rw [Int.toNat_natCast, wrap_suc (by omega)]
          exact Ev.chk (by omega) (Ev.chk (by omega) (Ev.bind g2 (Ev.cf (by rw [h0]; rfl) g3)))
        · rw [hr3]
          exact ⟨fun h => ⟨hr2.1 h0, h⟩, fun h => h.2⟩
      · refine ⟨r2, Ev.up ?_, ?_⟩
        · simp only [G.impl_compareValid.K4]
          rw [Int.toNat_natCast, wrap_suc (by omega)]
          exact Ev.chk (by omega) (Ev.chk (by omega) (Ev.bind g2 (Ev.ct (by simpa using h0) (Ev.ret _))))
        · exact ⟨fun h => absurd h h0, fun h => hr2.2 h.1⟩
    obtain ⟨r4, g4, hr4⟩ := rest
    by_cases h4 : a.Kind = 4
    · obtain ⟨m1, m2⟩ := n4 h4
      obtain ⟨r, g, hr⟩ := T.strings_Compare (a.Names.getD i default) (b.Names.getD i default)
      by_cases hn : a.Names.getD i default = b.Names.getD i default
      · refine ⟨r4, Ev.up ?_, ?_⟩
        · simp only [G.impl_compareValid.L3]
          rw [Int.toNat_natCast]
          exact Ev.ct (by simp; omega) (Ev.ct (by simp; omega) (Ev.ct (by simpa using h4) (Ev.chk (by omega) (Ev.chk (by omega) (Ev.bind g (Ev.cf (by rw [hr.2 hn]; rfl) g4))))))
        · rw [hr4, hE]
          exact ⟨fun h => ⟨fun _ => hn, h⟩, fun h => h.2⟩
      · have hr0 : r ≠ 0 := fun e => hn (hr.1 e)
        refine ⟨r, Ev.up ?_, ?_⟩
        · simp only [G.impl_compareValid.L3]
          rw [Int.toNat_natCast]
          exact Ev.ct (by simp; omega) (Ev.ct (by simp; omega) (Ev.ct (by simpa using h4) (Ev.chk (by omega) (Ev.chk (by omega) (Ev.bind g (Ev.ct (by simpa using hr0) (Ev.ret _)))))))
        · rw [hE]
          exact ⟨fun h => absurd h hr0, fun h => absurd (h.1 h4) hn⟩
    · refine ⟨r4, Ev.up ?_, ?_⟩
      · simp only [G.impl_compareValid.L3]
        exact Ev.ct (by simp; omega) (Ev.ct (by simp; omega) (Ev.cf (by simpa using h4) g4))
      · rw [hr4, hE]
        exact ⟨fun h => ⟨fun e => absurd e h4, h⟩, fun h => h.2⟩
theorem T.impl_compareValid : ∀ (d : Nat) {e : Nat} {a b : NodeT}, Shape d a = true → Shape e b = true → ∃ r, Ev (fun f => G.impl_compareValid f a b) r ∧ (r = 0 ↔ a = b)
  | 0, _, _, _, h, _ => by cases h
  | _ + 1, 0, _, _, _, h => by cases h
  | d + 1, e + 1, a, b, ha, hb => by
    rw [eq_iff ha hb]
    obtain ⟨r1, g1, hr1⟩ := T.cmp_Compare_int a.Kind b.Kind
    obtain ⟨r2, g2, hr2⟩ := T.cmp_Compare_int a.Num b.Num
    obtain ⟨r3, g3, hr3⟩ := T.strings_Compare a.Text b.Text
    by_cases h1 : r1 = 0
    · by_cases h2 : r2 = 0
      · by_cases h3 : r3 = 0
        · obtain ⟨r, g, hr⟩ := T.impl_compareValid.L3 ha hb (hr1.1 h1) (fun x y hx hy => T.impl_compareValid d (shape_kids ha x hx) (shape_kids hb y hy)) a.Kids.length 0 (by omega) (by omega) (by omega)
          refine ⟨r, Ev.up ?_, hr.trans ⟨fun h => ⟨hr1.1 h1, hr2.1 h2, hr3.1 h3, h⟩, fun h => h.2.2.2⟩⟩
          simp only [G.impl_compareValid]
          exact Ev.bind g1 (Ev.cf (by rw [h1]; rfl) (Ev.bind g2 (Ev.cf (by rw [h2]; rfl) (Ev.bind g3 (Ev.cf (by rw [h3]; rfl) g)))))
        · refine ⟨r3, Ev.up ?_, ⟨fun h => absurd h h3, fun h => hr3.2 h.2.2.1⟩⟩
          simp only [G.impl_compareValid]
          exact Ev.bind g1 (Ev.cf (by rw [h1]; rfl) (Ev.bind g2 (Ev.cf (by rw [h2]; rfl) (Ev.bind g3 (Ev.ct (by simpa using h3) (Ev.ret _))))))
      · refine ⟨r2, Ev.up ?_, ⟨fun h => absurd h h2, fun h => hr2.2 h.2.1⟩⟩
        simp only [G.impl_compareValid]
        exact Ev.bind g1 (Ev.cf (by rw [h1]; rfl) (Ev.bind g2 (Ev.ct (by simpa using h2) (Ev.ret _))))
    · refine ⟨r1, Ev.up ?_, ⟨fun h => absurd h h1, fun h => hr1.2 h.1⟩⟩
      simp only [G.impl_compareValid]
      exact Ev.bind g1 (Ev.ct (by simpa using h1) (Ev.ret _))
theorem T.impl_sameNode {d e : Nat} {a b : NodeT} (ha : Shape d a = true) (hb : Shape e b = true) : ∃ v, Ev (fun f => G.impl_sameNode f a b) v ∧ (v = true ↔ a = b) := by
  obtain ⟨r, g, hr⟩ := T.impl_compareValid d ha hb
  refine ⟨r == 0, Ev.up ?_, by rw [beq_iff_eq]; exact hr⟩
  simp only [G.impl_sameNode]
  exact Ev.bind g (Ev.ret _)
end Go.Ab
end
section
namespace Go.Ab
open Go
theorem shape_mono : ∀ {d e : Nat} {n : NodeT}, d ≤ e → Shape d n = true → Shape e n = true
  | 0, _, _, _, h => by cases h
  | d + 1, 0, _, hd, _ => by omega
  | d + 1, e + 1, n, hd, h => by
    unfold Shape
    rw [shape_parts h, Bool.true_and, List.all_eq_true]
    exact fun k hk => shape_mono (by omega) (shape_kids h k hk)
theorem map_sum_congr {α : Type} {f g : α → Nat} : ∀ {l : List α}, (∀ x, x ∈ l → f x = g x) → (l.map f).sum = (l.map g).sum
  | [], _ => rfl
  | x :: l, h => by
    simp only [List.map_cons, List.sum_cons]
    rw [h x (by simp), map_sum_congr (fun y hy => h y (by simp [hy]))]
theorem cnt_mono : ∀ {d e : Nat} {n : NodeT}, d ≤ e → Shape d n = true → Cnt d n = Cnt e n
  | 0, _, _, _, h => by cases h
  | d + 1, 0, _, hd, _ => by omega
  | d + 1, e + 1, n, hd, h => by
    unfold Cnt
    rw [map_sum_congr (f := Cnt d) (g := Cnt e) (fun k hk => cnt_mono (by omega) (shape_kids h k hk))]
theorem le_sum {α : Type} (f : α → Nat) : ∀ {l : List α} {x : α}, x ∈ l → f x ≤ (l.map f).sum
  | y :: l, x, h => by
    simp only [List.map_cons, List.sum_cons]
    rcases List.mem_cons.1 h with rfl | h
    · omega
    · have := le_sum f h; omega
theorem val_shape {n : NodeT} (h : Val n = true) : Shape 5 n = true := by unfold Val at h; simp only [Bool.and_eq_true] at h; exact h.1
theorem val_cnt {n : NodeT} (h : Val n = true) : Cnt 5 n ≤ 40 := by unfold Val at h; simp only [Bool.and_eq_true, decide_eq_true_eq] at h; exact h.2
theorem val_fine {n : NodeT} (h : Val n = true) : Fine 12 5 n := shape_fine (val_shape h)
theorem val_of {d : Nat} {n : NodeT} (hd : d ≤ 5) (h : Shape d n = true) (hc : Cnt d n ≤ 40) : Val n = true := by
  unfold Val
  rw [shape_mono hd h, Bool.true_and, decide_eq_true_eq, ← cnt_mono hd h]
  exact hc
theorem at_shape : ∀ (p : List Txt) {d : Nat} {n m : NodeT}, Shape d n = true → atN n p = some m → Shape d m = true ∧ Cnt d m ≤ Cnt d n
  | [], d, n, m, h, e => by cases e; exact ⟨h, Nat.le_refl _⟩
  | s :: p, d, n, m, h, e => by
    rw [atN] at e
    cases hj : plc n s with
    | none => rw [hj] at e; cases e
    | some j =>
      rw [hj] at e
      cases d with
      | zero => cases h
      | succ d =>
        have hjl := plc_lt hj
        obtain ⟨h1, h2⟩ := at_shape p (shape_kid h hjl) e
        refine ⟨shape_mono (by omega) h1, ?_⟩
        rw [← cnt_mono (Nat.le_succ d) h1]
        have := le_sum (Cnt d) (l := n.Kids) (x := n.Kids.getD j default) (by rw [getD_of_lt _ hjl]; exact List.getElem_mem _)
        show _ ≤ 1 + (n.Kids.map (Cnt d)).sum
        omega
theorem sum_set {α : Type} (f : α → Nat) {c : α} : ∀ {l : List α} {j : Nat} (d : α), f c ≤ f (l.getD j d) → ((l.set j c).map f).sum ≤ (l.map f).sum
  | [], _, _, _ => by simp
  | x :: l, 0, d, h => by
    rw [List.getD_cons_zero] at h
    simp only [List.set_cons_zero, List.map_cons, List.sum_cons]
    omega
  | x :: l, j + 1, d, h => by
    rw [List.getD_cons_succ] at h
    have := sum_set f (l := l) (j := j) d h
    simp only [List.set_cons_succ, List.map_cons, List.sum_cons]
    omega
theorem parts_set {n c : NodeT} {j : Nat} (h : Parts n = true) : Parts (setK n j c) = true := by
  unfold Parts setK at *
  simpa using h
theorem chg_shape {f : NodeT → Option NodeT} (hf : ∀ d k k', Shape d k = true → f k = some k' → Shape d k' = true ∧ Cnt d k' ≤ Cnt d k) :
    ∀ (p : List Txt) {d : Nat} {n m : NodeT}, Shape d n = true → chgN f n p = some m → Shape d m = true ∧ Cnt d m ≤ Cnt d n
  | [], d, n, m, h, e => hf d n m h (by rw [chgN] at e; exact e)
  | s :: p, d, n, m, h, e => by
    rw [chgN] at e
    cases hj : plc n s with
    | none => rw [hj] at e; cases e
    | some j =>
      rw [hj] at e
      simp only at e
      cases d with
      | zero => cases h
      | succ d =>
      have hjl := plc_lt hj
      cases hc : chgN f (n.Kids.getD j default) p with
      | none => rw [hc] at e; cases e
      | some c =>
        rw [hc] at e
        cases e
        obtain ⟨h1, h2⟩ := chg_shape hf p (shape_kid h hjl) hc
        constructor
        · unfold Shape
          rw [parts_set (shape_parts h), Bool.true_and, List.all_eq_true]
          intro k hk
          rcases List.mem_or_eq_of_mem_set hk with hk | rfl
          · exact shape_kids h k hk
          · exact h1
        · show 1 + ((n.Kids.set j c).map (Cnt d)).sum ≤ 1 + (n.Kids.map (Cnt d)).sum
          have := sum_set (Cnt d) (l := n.Kids) (j := j) default h2
          omega
def dropL {α : Type} (l : List α) (k : Nat) : List α := l.take k ++ l.drop (k + 1)
def remN (n : NodeT) (s : Txt) : Option NodeT := match plc n s with
  | some k => some (NodeT.mk n.Kind 0 [] (if n.Kind = 4 then dropL n.Names k else []) (dropL n.Kids k))
  | none => none
theorem asc_pairwise : ∀ {l : List Txt}, Asc l = true ↔ l.Pairwise (fun x y => bl x y = true)
  | [] => by simp [Asc]
  | x :: l => by
    rw [List.pairwise_cons, ← asc_pairwise (l := l)]
    constructor
    · intro h; exact ⟨Asc_head h, Asc_tail h⟩
    · rintro ⟨h1, h2⟩
      cases l with
      | nil => rfl
      | cons y r => rw [Asc, h2, Bool.and_true]; exact h1 y (by simp)
theorem dropL_sub {α : Type} (l : List α) (k : Nat) : (dropL l k).Sublist l := by
  unfold dropL
  conv => rhs; rw [← List.take_append_drop k l]
  refine List.Sublist.append (List.Sublist.refl _) ?_
  rw [← List.drop_drop]
  exact List.drop_sublist 1 _
theorem dropL_len {α : Type} {l : List α} {k : Nat} (h : k < l.length) : (dropL l k).length = l.length - 1 := by unfold dropL; simp; omega
theorem sum_sub {α : Type} (f : α → Nat) : ∀ {l m : List α}, l.Sublist m → (l.map f).sum ≤ (m.map f).sum := by
  intro l m h
  induction h with
  | slnil => simp
  | cons a h ih => simp only [List.map_cons, List.sum_cons]; omega
  | cons_cons a h ih => simp only [List.map_cons, List.sum_cons]; omega
theorem rem_shape (s : Txt) : ∀ d k k', Shape d k = true → remN k s = some k' → Shape d k' = true ∧ Cnt d k' ≤ Cnt d k := by
  intro d n m h e
  unfold remN at e
  cases hj : plc n s with
  | none => rw [hj] at e; cases e
  | some j =>
    rw [hj] at e
    cases e
    have hjl := plc_lt hj
    cases d with
    | zero => cases h
    | succ d =>
    have hp := shape_parts h
    have hsub := dropL_sub n.Kids j
    have hlen := dropL_len hjl
    have hl := parts_len hp
    constructor
    · unfold Shape
      rw [Bool.and_eq_true, List.all_eq_true]
      refine ⟨?_, fun k hk => shape_kids h k (hsub.subset hk)⟩
      by_cases h4 : n.Kind = 4
      · obtain ⟨_, _, hN, hnl, hkl⟩ := parts_map hp h4
        have hNM : NM (dropL n.Names j) = true := by
          unfold NM
          rw [Bool.and_eq_true]
          refine ⟨List.all_eq_true.2 fun x hx => nm_all hN x ((dropL_sub _ _).subset hx), asc_pairwise.2 ((asc_pairwise.1 (nm_asc hN)).sublist (dropL_sub _ _))⟩
        have hl2 := dropL_len (l := n.Names) (k := j) (by omega)
        unfold Parts
        simp [h4, hNM]
        omega
      · by_cases h3 : n.Kind = 3
        · unfold Parts
          simp [h3]
          omega
        · have := plc_hit hj; rw [hit_leaf h4 h3] at this; cases this
    · show 1 + ((dropL n.Kids j).map (Cnt d)).sum ≤ 1 + (n.Kids.map (Cnt d)).sum
      have := sum_sub (Cnt d) hsub
      omega
def lastS (p : List Txt) : Txt := p.getD (p.length - 1) default
def initS (p : List Txt) : List Txt := p.take (p.length - 1)
def addAtN (n : NodeT) (p : List Txt) (v : NodeT) : Option NodeT := if p = [] then some v else chgN (fun m => addN m (lastS p) v) n (initS p)
def remAtN (n : NodeT) (p : List Txt) : Option NodeT := if p = [] then none else chgN (fun m => remN m (lastS p)) n (initS p)
theorem T.spec_checked {B D : Nat} {o : Option NodeT} (hB : B ≤ lim) (h : ∀ m, o = some m → Fine B D m) : Ev (fun f => G.spec_checked f (pairO o).1 (pairO o).2) (pairO (o.filter Val)) := by
  refine Ev.up ?_
  simp only [G.spec_checked]
  cases o with
  | none => exact Ev.cf rfl (Ev.ret _)
  | some m =>
    refine Ev.ct rfl (Ev.bind (T.spec_validNode hB (h m rfl)) (Ev.ite (fun e => Ev.ret' ?_) (fun e => Ev.ret' ?_)))
    · have e : Val m = true := e
      simp [Option.filter, e, pairO]
    · have e : Val m = false := e
      simp [Option.filter, e, pairO, noNode]
theorem T.impl_checked {B D : Nat} {o : Option NodeT} (hB : B ≤ lim) (h : ∀ m, o = some m → Fine B D m) : Ev (fun f => G.impl_checked f (pairO o).1 (pairO o).2) (pairO (o.filter Val)) := by
  refine Ev.up ?_
  simp only [G.impl_checked]
  cases o with
  | none => exact Ev.cf rfl (Ev.ret _)
  | some m =>
    refine Ev.ct rfl (Ev.bind (T.impl_ValidNode hB (h m rfl)) (Ev.ite (fun e => Ev.ret' ?_) (fun e => Ev.ret' ?_)))
    · have e : Val m = true := e
      simp [Option.filter, e, pairO]
    · have e : Val m = false := e
      simp [Option.filter, e, pairO, noNode]
theorem last_int {p : List Txt} (hp : p ≠ []) (hl : p.length < big) : IntKind.wrap .i64 (((p.length : Nat) : Int) - 1) = ((p.length - 1 : Nat) : Int) := by
  have : 0 < p.length := List.length_pos_iff.2 hp
  unfold big at hl
  exact wrapN (by omega) (by omega)
theorem fine_addAt {B D E : Nat} {n v m : NodeT} {p : List Txt} (h : Fine B D n) (hv : Fine B E v) (hs : ∀ s, s ∈ p → s.length ≤ B) (hm : addAtN n p v = some m) : Fine (B + 1) (D + (D + E)) m := by
  unfold addAtN at hm
  split at hm
  · cases hm; exact hv.mono (by omega) (by omega)
  · rename_i hp
    have hlast : (lastS p).length ≤ B := by
      unfold lastS
      have : 0 < p.length := List.length_pos_iff.2 hp
      rw [getD_of_lt _ (by omega : p.length - 1 < p.length)]
      exact hs _ (List.getElem_mem _)
    rw [chg_at] at hm
    cases ha : atN n (initS p) with
    | none => rw [ha] at hm; cases hm
    | some inner =>
      rw [ha, Option.bind_some] at hm
      cases hn : addN inner (lastS p) v with
      | none => rw [hn] at hm; cases hm
      | some next =>
        rw [hn, Option.bind_some] at hm
        have hi := fine_at _ h ha
        have hnx := fine_add hi hv hlast hn
        exact fine_chg (B := B + 1) (E := D + E) (initS p) (f := fun _ => some next) (D := D) (n := n) (m := m) (fun D' k k' _ e => by cases e; exact hnx.mono (Nat.le_refl _) (by omega)) (h.mono (by omega) (Nat.le_refl _)) hm
theorem T.spec_addAt {B D E : Nat} {n v : NodeT} (p : List Txt) (hB : B + 1 < lim) (hp : p.length < big) (hs : ∀ s, s ∈ p → s.length ≤ B) (h : Fine B D n) (hv : Fine B E v) : Ev (fun f => G.spec_addAt f n p v) (pairO (addAtN n p v)) := by
  refine Ev.up ?_
  simp only [G.spec_addAt]
  by_cases hp0 : p = []
  · subst hp0
    exact Ev.ct rfl (Ev.bind (T.spec_copyNode (by omega) hv) (Ev.ret _))
  · have hpos : 0 < p.length := List.length_pos_iff.2 hp0
    have hlast : (lastS p).length ≤ B := by
      unfold lastS
      rw [getD_of_lt _ (by omega : p.length - 1 < p.length)]
      exact hs _ (List.getElem_mem _)
    rw [last_int hp0 hp, Int.toNat_natCast]
    unfold addAtN
    rw [if_neg hp0, chg_at]
    have hil : (initS p).length < big := by unfold initS; rw [List.length_take]; omega
    refine Ev.cf (by simpa using hp0) (Ev.chk (by omega) (Ev.bind (T.spec_at (initS p) (by omega) hil h) ?_))
    cases ha : atN n (initS p) with
    | none => exact Ev.cf rfl (Ev.ret _)
    | some inner =>
      have hi := fine_at _ h ha
      have hA := T.spec_addHere (n := inner) (lastS p) (by omega) hi hv
      refine Ev.ct rfl (Ev.chk (by omega) (Ev.bind hA ?_))
      rw [Option.bind_some]
      cases hn : addN inner (lastS p) v with
      | none => exact Ev.cf rfl (Ev.ret _)
      | some next =>
        have hnx := fine_add hi hv hlast hn
        refine Ev.ct rfl (Ev.chk (by omega) (Ev.bind (T.spec_setAt (by omega) hnx (initS p) hil (h.mono (by omega) (Nat.le_refl _))) (Ev.ret _)))
theorem fine_rem {B D : Nat} {n m : NodeT} {s : Txt} (h : Fine B D n) (e : remN n s = some m) : Fine B D m := by
  unfold remN at e
  cases hj : plc n s with
  | none => rw [hj] at e; cases e
  | some j =>
    rw [hj] at e
    cases e
    cases D with
    | zero => exact h.elim
    | succ D =>
    have hjl := plc_lt hj
    have hk := h.kids
    have hn := h.names
    have h1 := dropL_len hjl
    refine ⟨by simp, ?_, fun x hx => ?_, by show (dropL n.Kids j).length ≤ B; omega, fun h4 => ?_, fun k hk' => h.2.2.2.2.2 k ((dropL_sub _ _).subset hk')⟩
    · show (if n.Kind = 4 then dropL n.Names j else []).length ≤ B
      split
      · have := (dropL_sub n.Names j).length_le; omega
      · simp
    · have hx : x ∈ (if n.Kind = 4 then dropL n.Names j else []) := hx
      split at hx
      · exact h.2.2.1 x ((dropL_sub _ _).subset hx)
      · cases hx
    · have h4 : n.Kind = 4 := h4
      have hm := h.map h4
      have h2 := dropL_len (l := n.Names) (k := j) (by omega)
      show (dropL n.Kids j).length ≤ (if n.Kind = 4 then dropL n.Names j else []).length
      rw [if_pos h4]
      omega
theorem T.spec_removeAt {B D : Nat} {n : NodeT} (p : List Txt) (hB : B + 1 < lim) (hp : p.length < big) (h : Fine B D n) : Ev (fun f => G.spec_removeAt f n p) (pairO (remAtN n p)) := by
  have hB2 := hB
  unfold lim at hB2
  refine Ev.up ?_
  simp only [G.spec_removeAt]
  by_cases hp0 : p = []
  · subst hp0
    exact Ev.ct (by rfl) (Ev.ret _)
  · have hpos : 0 < p.length := List.length_pos_iff.2 hp0
    rw [last_int hp0 hp, Int.toNat_natCast]
    unfold remAtN
    rw [if_neg hp0, chg_at]
    have hil : (initS p).length < big := by unfold initS; rw [List.length_take]; omega
    refine Ev.cf (by simp) (Ev.chk (by omega) (Ev.bind (T.spec_at (initS p) (by omega) hil h) ?_))
    cases ha : atN n (initS p) with
    | none => exact Ev.cf rfl (Ev.ret _)
    | some inner =>
      have hi := fine_at _ h ha
      have hk := hi.kids
      have hnm := hi.names
      have hP := T.spec_place (n := inner) (lastS p) (by omega) hi
      refine Ev.ct rfl (Ev.chk (by omega) (Ev.bind hP ?_))
      rw [Option.bind_some]
      cases hj : plc inner (lastS p) with
      | none =>
        unfold remN
        rw [hj]
        exact Ev.ct rfl (Ev.ret _)
      | some j =>
        have hjl := plc_lt hj
        simp only [plcI, pairO, Int.toNat_natCast, wrap_suc (show j + 1 < 9223372036854775808 by omega)]
        have ht : (inner.Kids.take j).length = j := by rw [List.length_take]; omega
        have hd : (inner.Kids.drop (j + 1)).length = inner.Kids.length - (j + 1) := List.length_drop
        refine Ev.cf (decide_eq_false (by omega)) (Ev.chk (by omega) (Ev.chk (by omega) (Ev.chk (by omega) (Ev.chk (by omega) ?_))))
        have key : ∀ (b : Bool) (nm : List Txt), remN inner (lastS p) = some (NodeT.mk inner.Kind 0 [] nm (dropL inner.Kids j)) → Ev (fun f => G.spec_removeAt.K1 f n p (inner, b) (dropL inner.Kids j) nm) (pairO ((remN inner (lastS p)).bind fun m' => setN n (initS p) m')) := by
          intro b nm e
          refine Ev.up ?_
          simp only [G.spec_removeAt.K1]
          rw [last_int hp0 hp, Int.toNat_natCast, e, Option.bind_some]
          exact Ev.chk (by omega) (Ev.bind (T.spec_setAt (by omega) (fine_rem hi e) (initS p) hil h) (Ev.ret _))
        refine Ev.ite (fun e4 => ?_) (fun e4 => ?_)
        · have h4 : inner.Kind = 4 := by simpa using e4
          have hm := hi.map h4
          have ht2 : (inner.Names.take j).length = j := by rw [List.length_take]; omega
          have hd2 : (inner.Names.drop (j + 1)).length = inner.Names.length - (j + 1) := List.length_drop
          refine Ev.chk (by omega) (Ev.chk (by omega) (Ev.chk (by omega) (Ev.chk (by omega) ?_)))
          exact key true (dropL inner.Names j) (by unfold remN; rw [hj]; simp [h4])
        · have h4 : ¬ inner.Kind = 4 := by simpa using e4
          exact key true [] (by unfold remN; rw [hj]; simp [h4])
end Go.Ab
end
section
namespace Go.Ab
open Go
theorem pp_sm {B : Nat} (hB : B ≤ lim) {p : List Txt} (hl : p.length ≤ B) (hs : ∀ s, s ∈ p → s.length ≤ B) : Sm p := by
  unfold lim at hB
  exact ⟨by unfold big; omega, fun s h => by have := hs s h; unfold big; omega⟩
def FineP (B : Nat) (p : List Txt) : Prop := p.length ≤ B ∧ ∀ s, s ∈ p → s.length ≤ B
theorem FineP.sm {B : Nat} (hB : B ≤ lim) {p : List Txt} (h : FineP B p) : Sm p := pp_sm hB h.1 h.2
theorem pp_fine {p : List Txt} (h : PP p = true) : FineP 12 p := by
  unfold PP at h
  simp only [Bool.and_eq_true, decide_eq_true_eq] at h
  exact ⟨by omega, fun s hs => pt_len (List.all_eq_true.1 h.1 s hs)⟩
def AddM (n : NodeT) (p : List Txt) (v : NodeT) : Option NodeT := if Val n && PP p && Val v then (addAtN n p v).filter Val else none
def RemM (n : NodeT) (p : List Txt) : Option NodeT := if Val n && PP p then remAtN n p else none
def SetM (n : NodeT) (p : List Txt) (v : NodeT) : Option NodeT := if Val n && PP p && Val v then (setN n p v).filter Val else none
def AtM (n : NodeT) (p : List Txt) : Option NodeT := if Val n && PP p then atN n p else none
theorem rem_val {n m : NodeT} {p : List Txt} (h : Val n = true) (e : remAtN n p = some m) : Val m = true := by
  unfold remAtN at e
  split at e
  · cases e
  · obtain ⟨h1, h2⟩ := chg_shape (rem_shape (lastS p)) (initS p) (val_shape h) e
    exact val_of (Nat.le_refl _) h1 (Nat.le_trans h2 (val_cnt h))
theorem at_val {n m : NodeT} {p : List Txt} (h : Val n = true) (e : atN n p = some m) : Val m = true := by
  obtain ⟨h1, h2⟩ := at_shape p (val_shape h) e
  exact val_of (Nat.le_refl _) h1 (Nat.le_trans h2 (val_cnt h))
theorem T.impl_changeAt_Add {B E : Nat} {v : NodeT} (p : List Txt) (k : Nat) (hB : B ≤ lim) (hv : Fine B E v) (hk : k < p.length) :
    ∀ (q : List Txt) {d : Nat} {n : NodeT}, Shape d n = true → Ev (fun f => G.impl_changeAt__impl_AddNode_1 f n q p (k : Int) v) (pairO (chgN (fun m => addN m (p.getD k default) v) n q)) := by
  refine T.change (F := fun f a q => G.impl_changeAt__impl_AddNode_1 f a q p (k : Int) v) (C := fun f a => G.impl_AddNode_1 f a p (k : Int) v) (fun n a q => by simp only [G.impl_changeAt__impl_AddNode_1]) (fun d m hm => ?_)
  refine Ev.up ?_
  simp only [G.impl_AddNode_1]
  refine Ev.chk (by omega) (Ev.bind (T.impl_addKid _ hB hv hm) (Ev.ret' ?_))
  rw [Int.toNat_natCast]
theorem T.impl_changeAt_Set {B E : Nat} {v : NodeT} (hB : B ≤ lim) (hv : Fine B E v) :
    ∀ (q : List Txt) {d : Nat} {n : NodeT}, Shape d n = true → Ev (fun f => G.impl_changeAt__impl_SetNode_1 f n q v) (pairO (setN n q v)) := by
  refine T.change (F := fun f a q => G.impl_changeAt__impl_SetNode_1 f a q v) (C := fun f a => G.impl_SetNode_1 f a v) (fun n a q => by simp only [G.impl_changeAt__impl_SetNode_1]) (fun d m hm => ?_)
  refine Ev.up ?_
  simp only [G.impl_SetNode_1]
  exact Ev.bind (T.impl_copyNode hB hv) (Ev.ret _)
theorem T.impl_RemoveNode_1 {d : Nat} {n : NodeT} (p : List Txt) (k : Nat) (hk : k < p.length) (h : Shape d n = true) : Ev (fun f => G.impl_RemoveNode_1 f n p (k : Int)) (pairO (remN n (p.getD k default))) := by
  cases d with
  | zero => cases h
  | succ d =>
  have hp := shape_parts h
  have hl := parts_len hp
  obtain ⟨w, b, g, h1, h2⟩ := T.impl_kidIndex (p.getD k default) hp
  refine Ev.up ?_
  simp only [G.impl_RemoveNode_1, Int.toNat_natCast]
  refine Ev.chk (by omega) (Ev.bind g ?_)
  unfold remN
  cases hj : plc n (p.getD k default) with
  | none => exact Ev.cf (h2 hj) (Ev.ret _)
  | some j =>
    have hjl := plc_lt hj
    obtain ⟨rfl, rfl⟩ := h1 j hj
    have d1 : Ev (fun f => G.slices_Delete_impl_Node f n.Kids (j : Int) ((j + 1 : Nat) : Int)) (dropL n.Kids j) := by
      refine Ev.up ?_
      simp only [G.slices_Delete_impl_Node, Int.toNat_natCast]
      exact Ev.chk (by omega) (Ev.ret _)
    have hK : ∀ nm, n.Num = 0 → n.Text = [] → Ev (fun f => G.impl_RemoveNode_1.K1 f ((j : Int), true) n nm) (NodeT.mk n.Kind 0 [] nm (dropL n.Kids j), true) := by
      intro nm e1 e2
      refine Ev.up ?_
      simp only [G.impl_RemoveNode_1.K1, wrap_suc (show j + 1 < 9223372036854775808 by omega)]
      exact Ev.bind d1 (Ev.ret' (by rw [e1, e2]))
    refine Ev.ct rfl (Ev.bind (T.impl_copyNode lim12 (shape_fine h)) ?_)
    by_cases h4 : n.Kind = 4
    · obtain ⟨e1, e2, _, hnl, hkl⟩ := parts_map hp h4
      have d2 : Ev (fun f => G.slices_Delete_string f n.Names (j : Int) ((j + 1 : Nat) : Int)) (dropL n.Names j) := by
        refine Ev.up ?_
        simp only [G.slices_Delete_string, Int.toNat_natCast]
        exact Ev.chk (by omega) (Ev.ret _)
      refine Ev.ct (by simpa using h4) ?_
      simp only [wrap_suc (show j + 1 < 9223372036854775808 by omega)]
      refine Ev.bind d2 ((hK _ e1 e2).eq ?_)
      simp [h4, pairO]
    · by_cases h3 : n.Kind = 3
      · obtain ⟨e1, e2, e3, _⟩ := parts_list hp h3
        refine Ev.cf (by simpa using h4) ((hK _ e1 e2).eq ?_)
        simp [h4, pairO, e3]
      · have := plc_hit hj; rw [hit_leaf h4 h3] at this; cases this
theorem T.impl_changeAt_Rem (p : List Txt) (k : Nat) (hk : k < p.length) :
    ∀ (q : List Txt) {d : Nat} {n : NodeT}, Shape d n = true → Ev (fun f => G.impl_changeAt__impl_RemoveNode_1 f n q p (k : Int)) (pairO (chgN (fun m => remN m (p.getD k default)) n q)) :=
  T.change (F := fun f a q => G.impl_changeAt__impl_RemoveNode_1 f a q p (k : Int)) (C := fun f a => G.impl_RemoveNode_1 f a p (k : Int)) (fun n a q => by simp only [G.impl_changeAt__impl_RemoveNode_1]) (fun d m hm => T.impl_RemoveNode_1 p k hk hm)
theorem T.impl_AddNode {B D E : Nat} {n v : NodeT} {p : List Txt} (hB : B + 2 < lim) (h : Fine B D n) (hp : FineP B p) (hv : Fine B E v) : Ev (fun f => G.impl_AddNode f n p v) (pairO (AddM n p v)) := by
  have hsm := hp.sm (by omega)
  refine Ev.up ?_
  simp only [G.impl_AddNode]
  unfold AddM
  refine Ev.bind (T.impl_ValidNode (by omega) h) (Ev.ite (fun e1 => ?_) (fun e1 => Ev.ret' (by rw [e1]; rfl)))
  refine Ev.bind (T.impl_isPath p hsm) (Ev.ite (fun e2 => ?_) (fun e2 => Ev.ret' (by rw [e1, e2]; rfl)))
  refine Ev.bind (T.impl_ValidNode (by omega) hv) (Ev.ite (fun e3 => ?_) (fun e3 => Ev.ret' (by rw [e1, e2, e3]; rfl)))
  rw [e1, e2, e3, if_pos (by rfl)]
  by_cases hp0 : p = []
  · subst hp0
    refine Ev.ct rfl (Ev.bind (T.impl_copyNode (by omega) hv) (Ev.ret' ?_))
    unfold addAtN
    simp [Option.filter, e3, pairO]
  · have hpos : 0 < p.length := List.length_pos_iff.2 hp0
    simp only [last_int hp0 hsm.1, Int.toNat_natCast]
    refine Ev.cf (by simpa using hp0) (Ev.chk (by omega) ?_)
    have hc := T.impl_changeAt_Add p (p.length - 1) (by omega) hv (by omega) (initS p) (val_shape e1)
    refine Ev.bind hc ?_
    have hA : addAtN n p v = chgN (fun m => addN m (p.getD (p.length - 1) default) v) n (initS p) := by unfold addAtN; rw [if_neg hp0]; rfl
    rw [← hA]
    exact Ev.bind (T.impl_checked (o := addAtN n p v) (B := B + 1) (by omega) (fun m hm => fine_addAt h hv hp.2 hm)) (Ev.ret _)
theorem T.impl_SetNode {B D E : Nat} {n v : NodeT} {p : List Txt} (hB : B + 2 < lim) (h : Fine B D n) (hp : FineP B p) (hv : Fine B E v) : Ev (fun f => G.impl_SetNode f n p v) (pairO (SetM n p v)) := by
  have hsm := hp.sm (by omega)
  refine Ev.up ?_
  simp only [G.impl_SetNode]
  unfold SetM
  refine Ev.bind (T.impl_ValidNode (by omega) h) (Ev.ite (fun e1 => ?_) (fun e1 => Ev.ret' (by rw [e1]; rfl)))
  refine Ev.bind (T.impl_isPath p hsm) (Ev.ite (fun e2 => ?_) (fun e2 => Ev.ret' (by rw [e1, e2]; rfl)))
  refine Ev.bind (T.impl_ValidNode (by omega) hv) (Ev.ite (fun e3 => ?_) (fun e3 => Ev.ret' (by rw [e1, e2, e3]; rfl)))
  rw [e1, e2, e3, if_pos (by rfl)]
  refine Ev.bind (T.impl_changeAt_Set (by omega) hv p (val_shape e1)) ?_
  exact Ev.bind (T.impl_checked (B := B) (by omega) (fun m hm => fine_setN h hv hm)) (Ev.ret _)
theorem T.impl_RemoveNode {B D : Nat} {n : NodeT} {p : List Txt} (hB : B + 2 < lim) (h : Fine B D n) (hp : FineP B p) : Ev (fun f => G.impl_RemoveNode f n p) (pairO (RemM n p)) := by
  have hsm := hp.sm (by omega)
  refine Ev.up ?_
  simp only [G.impl_RemoveNode]
  unfold RemM
  refine Ev.bind (T.impl_ValidNode (by omega) h) (Ev.ite (fun e1 => ?_) (fun e1 => Ev.ret' (by rw [e1]; rfl)))
  refine Ev.bind (T.impl_isPath p hsm) (Ev.ite (fun e2 => ?_) (fun e2 => Ev.ret' (by rw [e1, e2]; rfl)))
  rw [e1, e2, if_pos (by rfl)]
  by_cases hp0 : p = []
  · subst hp0
    exact Ev.ct rfl (Ev.ret _)
  · have hpos : 0 < p.length := List.length_pos_iff.2 hp0
    simp only [last_int hp0 hsm.1, Int.toNat_natCast]
    refine Ev.cf (by simpa using hp0) (Ev.chk (by omega) ?_)
    have hA : remAtN n p = chgN (fun m => remN m (p.getD (p.length - 1) default)) n (initS p) := by unfold remAtN; rw [if_neg hp0]; rfl
    rw [hA]
    exact Ev.bind (T.impl_changeAt_Rem p (p.length - 1) (by omega) (initS p) (val_shape e1)) (Ev.ret _)
theorem T.impl_NodeAt {B D : Nat} {n : NodeT} {p : List Txt} (hB : B + 2 < lim) (h : Fine B D n) (hp : FineP B p) : Ev (fun f => G.impl_NodeAt f n p) (pairO (AtM n p)) := by
  have hsm := hp.sm (by omega)
  refine Ev.up ?_
  simp only [G.impl_NodeAt]
  unfold AtM
  refine Ev.bind (T.impl_ValidNode (by omega) h) (Ev.ite (fun e1 => ?_) (fun e1 => Ev.ret' (by rw [e1]; rfl)))
  refine Ev.bind (T.impl_isPath p hsm) (Ev.ite (fun e2 => ?_) (fun e2 => Ev.ret' (by rw [e1, e2]; rfl)))
  rw [e1, e2, if_pos (by rfl)]
  refine Ev.bind (T.impl_findNode p hsm.1 (val_shape e1)) ?_
  cases ha : atN n p with
  | none => exact Ev.cf rfl (Ev.ret _)
  | some m => exact Ev.ct rfl (Ev.bind (T.impl_copyNode (by omega) (fine_at p h ha)) (Ev.ret _))
theorem T.slices_Equal_string.L1 {a b : List Txt} (hl : a.length = b.length) (hb : a.length < big) : ∀ (k i : Nat), i + k = a.length → Ev (fun f => G.slices_Equal_string.L1 f a b i) (decide (a.drop i = b.drop i)) := by
  unfold big at hb
  intro k
  induction k with
  | zero =>
    intro i hi
    refine Ev.up ?_
    simp only [G.slices_Equal_string.L1]
    refine Ev.cf (by simp; omega) (Ev.ret' ?_)
    rw [List.drop_of_length_le (by omega), List.drop_of_length_le (by omega)]; rfl
  | succ k ih =>
    intro i hi
    refine Ev.up ?_
    simp only [G.slices_Equal_string.L1, Int.toNat_natCast, wrap_suc (show i + 1 < 9223372036854775808 by omega)]
    refine Ev.ct (by simp; omega) (Ev.chk (by omega) (Ev.chk (by omega) ?_))
    rw [drop_of_lt (default : Txt) (by omega : i < a.length), drop_of_lt (default : Txt) (by omega : i < b.length)]
    refine Ev.ite (fun e => (ih (i + 1) (by omega)).eq ?_) (fun e => Ev.ret' ?_)
    · rw [beq_iff_eq] at e
      apply decide_eq_decide.2
      rw [List.cons.injEq]
      exact ⟨fun h => ⟨e, h⟩, fun h => h.2⟩
    · have e : a.getD i default ≠ b.getD i default := by simpa using e
      symm
      apply decide_eq_false
      rw [List.cons.injEq]
      exact fun h => e h.1
theorem T.slices_Equal_string {a b : List Txt} (hb : a.length < big) : Ev (fun f => G.slices_Equal_string f a b) (decide (a = b)) := by
  refine Ev.up ?_
  simp only [G.slices_Equal_string]
  by_cases h : a.length = b.length
  · exact Ev.cf (by simp; omega) (T.slices_Equal_string.L1 h hb a.length 0 (by omega))
  · refine Ev.ct (by simp; omega) (Ev.ret' ?_)
    symm
    exact decide_eq_false (fun e => h (by rw [e]))
def movN (n : NodeT) (o p : List Txt) (t : NodeT) : Option NodeT := if o <+: p then (if p.length = o.length then some n else none) else (remAtN n o).bind fun less => addAtN less p t
theorem pre_take {o p : List Txt} (h : o.length ≤ p.length) : p.take o.length = o ↔ o <+: p := by
  rw [List.prefix_iff_eq_take, eq_comm]
def MovM (n : NodeT) (o p : List Txt) : Option NodeT := if Val n && PP o && PP p then (atN n o).bind fun t => (movN n o p t).filter Val else none
theorem T.impl_moveNode {n : NodeT} {o p : List Txt} (h : Val n = true) (ho : PP o = true) (hp : PP p = true) : Ev (fun f => G.impl_moveNode f n o p) (pairO (MovM n o p)) := by
  have hb : (12 : Nat) + 2 < lim := by decide
  have fo := pp_fine ho
  have fp := pp_fine hp
  have so := fo.sm (by decide)
  have sp := fp.sm (by decide)
  refine Ev.up ?_
  simp only [G.impl_moveNode]
  unfold MovM
  rw [h, ho, hp, if_pos (by rfl)]
  refine Ev.bind (T.impl_NodeAt hb (val_fine h) fo) ?_
  unfold AtM
  rw [h, ho, if_pos (by rfl)]
  cases ha : atN n o with
  | none => exact Ev.cf rfl (Ev.ret _)
  | some t =>
    have hvt := at_val h ha
    refine Ev.ct rfl ?_
    rw [Option.bind_some]
    have mv : ¬ o <+: p → Ev (fun f => Option.bind (G.impl_RemoveNode f n o) fun v5 => cond v5.2 (Option.bind (G.impl_AddNode f v5.1 p t) fun v6 => some (v6.1, v6.2)) (some ((NodeT.mk 0 0 [] [] []), false))) (pairO ((movN n o p t).filter Val)) := by
      intro hn
      unfold movN
      rw [if_neg hn]
      refine Ev.bind (T.impl_RemoveNode hb (val_fine h) fo) ?_
      unfold RemM
      rw [h, ho, if_pos (by rfl)]
      cases hr : remAtN n o with
      | none => exact Ev.cf rfl (Ev.ret _)
      | some less =>
        have hvl := rem_val h hr
        have hA := T.impl_AddNode (n := less) hb (val_fine hvl) fp (val_fine hvt)
        have e : AddM less p t = (addAtN less p t).filter Val := by unfold AddM; rw [hvl, hp, hvt, if_pos (by rfl)]
        rw [e] at hA
        exact Ev.ct rfl (Ev.bind hA (Ev.ret _))
    refine Ev.bind (T.slices_Equal_string sp.1) (Ev.ite (fun e => ?_) (fun e => ?_))
    · rw [decide_eq_true_eq] at e
      subst e
      refine Ev.bind (T.impl_copyNode lim12 (val_fine h)) (Ev.ret' ?_)
      unfold movN
      rw [if_pos (List.prefix_refl _), if_pos rfl]
      simp [Option.filter, h, pairO]
    · have hne : p ≠ o := by simpa using e
      refine Ev.ite (fun e2 => ?_) (fun e2 => ?_)
      · have hlt : o.length < p.length := by simpa using e2
        refine Ev.chk (by omega) (Ev.bind (T.slices_Equal_string (a := p.take o.length) (by rw [List.length_take]; have := sp.1; omega)) (Ev.ite (fun e3 => Ev.ret' ?_) (fun e3 => ?_)))
        · rw [decide_eq_true_eq, pre_take (by omega)] at e3
          unfold movN
          rw [if_pos e3, if_neg (by omega)]
          rfl
        · rw [decide_eq_false_iff_not, pre_take (by omega)] at e3
          exact mv e3
      · have hge : ¬ o.length < p.length := by simpa using e2
        refine mv fun hpre => ?_
        have h1 := hpre.length_le
        exact hne (hpre.eq_of_length (by omega)).symm
end Go.Ab
end
section
namespace Go.Ab
open Go
theorem T.spec_begins.L1 {p w : List Txt} (hp : p.length < big) (hw : w.length < big) : ∀ (k i : Nat), i + k = w.length → Ev (fun f => G.spec_begins.L1 f p w i) (decide (w.drop i <+: p.drop i)) := by
  unfold big at hp hw
  intro k
  induction k with
  | zero =>
    intro i hi
    refine Ev.up ?_
    simp only [G.spec_begins.L1]
    refine Ev.cf (by simp; omega) (Ev.ret' ?_)
    rw [List.drop_of_length_le (by omega : w.length ≤ i)]
    symm
    exact decide_eq_true (List.nil_prefix)
  | succ k ih =>
    intro i hi
    refine Ev.up ?_
    simp only [G.spec_begins.L1, Int.toNat_natCast, wrap_suc (show i + 1 < 9223372036854775808 by omega)]
    refine Ev.ct (by simp; omega) ?_
    rw [drop_of_lt (default : Txt) (by omega : i < w.length)]
    by_cases hpi : p.length ≤ i
    · refine Ev.ct (by simpa using hpi) (Ev.ret' ?_)
      rw [List.drop_of_length_le hpi]
      symm
      exact decide_eq_false (by simp)
    · refine Ev.cf (by simpa using hpi) (Ev.chk (by omega) (Ev.chk (by omega) ?_))
      rw [drop_of_lt (default : Txt) (by omega : i < p.length)]
      refine Ev.ite (fun e => (ih (i + 1) (by omega)).eq ?_) (fun e => Ev.ret' ?_)
      · rw [beq_iff_eq] at e
        apply decide_eq_decide.2
        rw [List.cons_prefix_cons]
        exact ⟨fun h => ⟨e.symm, h⟩, fun h => h.2⟩
      · have e : p.getD i default ≠ w.getD i default := by simpa using e
        symm
        apply decide_eq_false
        rw [List.cons_prefix_cons]
        exact fun h => e h.1.symm
theorem T.spec_begins {p w : List Txt} (hp : p.length < big) (hw : w.length < big) : Ev (fun f => G.spec_begins f p w) (decide (w <+: p)) := by
  refine Ev.up ?_
  simp only [G.spec_begins]
  exact T.spec_begins.L1 hp hw w.length 0 (by omega)
open Classical in
noncomputable def applyN (n : NodeT) (o : OpT) : Option NodeT :=
  if o.Kind = 1 then addAtN n o.Path o.Value else if o.Kind = 2 then remAtN n o.Path else if o.Kind = 3 then setN n o.Path o.Value
  else (atN n (if o.Kind = 6 then o.Path else o.From)).bind fun t =>
    if o.Kind = 6 then (if t = o.Value then some n else none) else if o.Kind = 5 then addAtN n o.Path t else movN n o.From o.Path t
def OpV (o : OpT) : Bool := (decide (1 ≤ o.Kind) && decide (o.Kind ≤ 6)) && PP o.Path && PP o.From && Val o.Value
noncomputable def ApplyM (n : NodeT) (o : OpT) : Option NodeT := if Val n && OpV o then (applyN n o).filter Val else none
def Said (q : NodeT × Bool) (o : Option NodeT) : Prop := (q.2 = true → o = some q.1) ∧ (q.2 = false → o = none)
theorem said_pair (o : Option NodeT) : Said (pairO o) o := by
  cases o with
  | none => exact ⟨fun e => (by cases e), fun _ => rfl⟩
  | some m => exact ⟨fun _ => rfl, fun e => (by cases e)⟩
structure OpFacts (o : OpT) : Prop where
  k1 : 1 ≤ o.Kind
  k6 : o.Kind ≤ 6
  path : PP o.Path = true
  from_ : PP o.From = true
  val : Val o.Value = true
theorem opV_facts {o : OpT} (h : OpV o = true) : OpFacts o := by
  unfold OpV at h
  simp only [Bool.and_eq_true, decide_eq_true_eq] at h
  exact ⟨h.1.1.1.1, h.1.1.1.2, h.1.1.2, h.1.2, h.2⟩
theorem hb12 : (12 : Nat) + 1 < lim := by decide
theorem hb14 : (12 : Nat) + 2 < lim := by decide
theorem T.spec_apply.K1 {n : NodeT} {o : OpT} (h : Val n = true) (ho : OpFacts o) (fr : List Txt) (hf : PP fr = true) (h6 : fr = if o.Kind = 6 then o.Path else o.From) (hk : o.Kind ≠ 1 ∧ o.Kind ≠ 2 ∧ o.Kind ≠ 3) :
    ∃ q, Ev (fun f => G.spec_apply.K1 f n o fr) q ∧ Said q (applyN n o) := by
  have sp := (pp_fine ho.path).sm (by decide)
  have sf := (pp_fine ho.from_).sm (by decide)
  have sr := (pp_fine hf).sm (by decide)
  have hn := val_fine h
  have hat := T.spec_at fr (by decide) sr.1 hn
  have hN : applyN n o = (atN n fr).bind fun t => @ite _ (o.Kind = 6) _ (@ite _ (t = o.Value) (Classical.propDecidable _) (some n) none) (if o.Kind = 5 then addAtN n o.Path t else movN n o.From o.Path t) := by
    unfold applyN
    rw [if_neg hk.1, if_neg hk.2.1, if_neg hk.2.2, h6]
  rw [hN]
  cases ha : atN n fr with
  | none =>
    rw [ha] at hat
    refine ⟨(noNode, false), Ev.up ?_, ⟨fun e => (by cases e), fun _ => rfl⟩⟩
    simp only [G.spec_apply.K1]
    exact Ev.bind hat (Ev.cf rfl (Ev.ret _))
  | some t =>
    rw [ha] at hat
    have ht := val_fine (at_val h ha)
    rw [Option.bind_some]
    by_cases k6 : o.Kind = 6
    · obtain ⟨v, gs, hv⟩ := T.spec_same (val_shape (at_val h ha)) (val_shape ho.val)
      refine ⟨(n, v), Ev.up ?_, ?_⟩
      · simp only [G.spec_apply.K1]
        exact Ev.bind hat (Ev.ct rfl (Ev.ct (by simpa using k6) (Ev.bind gs (Ev.ret _))))
      · rw [if_pos k6]
        refine ⟨fun e => if_pos (hv.1 e), fun e => if_neg fun e2 => ?_⟩
        have := hv.2 e2
        rw [show v = false from e] at this
        cases this
    · rw [if_neg k6]
      by_cases k5 : o.Kind = 5
      · rw [if_pos k5]
        refine ⟨_, Ev.up ?_, said_pair _⟩
        simp only [G.spec_apply.K1]
        exact Ev.bind hat (Ev.ct rfl (Ev.cf (by simpa using k6) (Ev.ct (by simpa using k5) (Ev.bind (T.spec_addAt o.Path hb12 sp.1 (pp_fine ho.path).2 hn ht) (Ev.ret _)))))
      · rw [if_neg k5]
        unfold movN
        have hbg := T.spec_begins sp.1 sf.1
        by_cases hpre : o.From <+: o.Path
        · rw [if_pos hpre]
          refine ⟨(n, ((o.Path.length : Nat) : Int) == ((o.From.length : Nat) : Int)), Ev.up ?_, ?_⟩
          · simp only [G.spec_apply.K1]
            exact Ev.bind hat (Ev.ct rfl (Ev.cf (by simpa using k6) (Ev.cf (by simpa using k5) (Ev.bind hbg (Ev.ct (by simpa using hpre) (Ev.bind (T.spec_copyNode lim12 hn) (Ev.ret _)))))))
          · rw [ilen]
            refine ⟨fun e => if_pos (by simpa using e), fun e => if_neg (by simpa using e)⟩
        · rw [if_neg hpre]
          have hr := T.spec_removeAt (n := n) o.From hb12 sf.1 hn
          cases hre : remAtN n o.From with
          | none =>
            rw [hre] at hr
            refine ⟨(noNode, false), Ev.up ?_, ⟨fun e => (by cases e), fun _ => rfl⟩⟩
            simp only [G.spec_apply.K1]
            exact Ev.bind hat (Ev.ct rfl (Ev.cf (by simpa using k6) (Ev.cf (by simpa using k5) (Ev.bind hbg (Ev.cf (by simpa using hpre) (Ev.bind hr (Ev.cf rfl (Ev.ret _))))))))
          | some less =>
            rw [hre] at hr
            have hl := val_fine (rem_val h hre)
            refine ⟨_, Ev.up ?_, said_pair _⟩
            simp only [G.spec_apply.K1]
            exact Ev.bind hat (Ev.ct rfl (Ev.cf (by simpa using k6) (Ev.cf (by simpa using k5) (Ev.bind hbg (Ev.cf (by simpa using hpre) (Ev.bind hr (Ev.ct rfl (Ev.bind (T.spec_addAt (n := less) o.Path hb12 sp.1 (pp_fine ho.path).2 hl ht) (Ev.ret _)))))))))
theorem T.spec_apply {n : NodeT} {o : OpT} (h : Val n = true) (ho : OpFacts o) : ∃ q, Ev (fun f => G.spec_apply f n o) q ∧ Said q (applyN n o) := by
  have sp := (pp_fine ho.path).sm (by decide)
  have hn := val_fine h
  by_cases k1 : o.Kind = 1
  · refine ⟨_, Ev.up ?_, said_pair _⟩
    simp only [G.spec_apply]
    refine Ev.ct (by simpa using k1) ?_
    have : applyN n o = addAtN n o.Path o.Value := by unfold applyN; rw [if_pos k1]
    rw [this]
    exact Ev.bind (T.spec_addAt o.Path hb12 sp.1 (pp_fine ho.path).2 hn (val_fine ho.val)) (Ev.ret _)
  by_cases k2 : o.Kind = 2
  · refine ⟨_, Ev.up ?_, said_pair _⟩
    simp only [G.spec_apply]
    refine Ev.cf (by simpa using k1) (Ev.ct (by simpa using k2) ?_)
    have : applyN n o = remAtN n o.Path := by unfold applyN; rw [if_neg k1, if_pos k2]
    rw [this]
    exact Ev.bind (T.spec_removeAt o.Path hb12 sp.1 hn) (Ev.ret _)
  by_cases k3 : o.Kind = 3
  · refine ⟨_, Ev.up ?_, said_pair _⟩
    simp only [G.spec_apply]
    refine Ev.cf (by simpa using k1) (Ev.cf (by simpa using k2) (Ev.ct (by simpa using k3) ?_))
    have : applyN n o = setN n o.Path o.Value := by unfold applyN; rw [if_neg k1, if_neg k2, if_pos k3]
    rw [this]
    exact Ev.bind (T.spec_setAt (by decide) (val_fine ho.val) o.Path sp.1 hn) (Ev.ret _)
  by_cases k6 : o.Kind = 6
  · obtain ⟨q, g, hq⟩ := T.spec_apply.K1 h ho o.Path ho.path (by rw [if_pos k6]) ⟨k1, k2, k3⟩
    refine ⟨q, Ev.up ?_, hq⟩
    simp only [G.spec_apply]
    exact Ev.cf (by simpa using k1) (Ev.cf (by simpa using k2) (Ev.cf (by simpa using k3) (Ev.ct (by simpa using k6) g)))
  · obtain ⟨q, g, hq⟩ := T.spec_apply.K1 h ho o.From ho.from_ (by rw [if_neg k6]) ⟨k1, k2, k3⟩
    refine ⟨q, Ev.up ?_, hq⟩
    simp only [G.spec_apply]
    exact Ev.cf (by simpa using k1) (Ev.cf (by simpa using k2) (Ev.cf (by simpa using k3) (Ev.cf (by simpa using k6) g)))
theorem fine_add5 {n v m : NodeT} {p : List Txt} (hn : Val n = true) (hv : Val v = true) (hp : PP p = true) (e : addAtN n p v = some m) : Fine 13 15 m :=
  fine_addAt (val_fine hn) (val_fine hv) (pp_fine hp).2 e
theorem fine_apply {n m : NodeT} {o : OpT} (h : Val n = true) (ho : OpFacts o) (e : applyN n o = some m) : Fine 13 15 m := by
  unfold applyN at e
  by_cases k1 : o.Kind = 1
  · rw [if_pos k1] at e; exact fine_add5 h ho.val ho.path e
  rw [if_neg k1] at e
  by_cases k2 : o.Kind = 2
  · rw [if_pos k2] at e; exact (val_fine (rem_val h e)).mono (by omega) (by omega)
  rw [if_neg k2] at e
  by_cases k3 : o.Kind = 3
  · rw [if_pos k3] at e; exact (fine_setN (val_fine h) (val_fine ho.val) e).mono (by omega) (by omega)
  rw [if_neg k3] at e
  cases ha : atN n (if o.Kind = 6 then o.Path else o.From) with
  | none => rw [ha] at e; cases e
  | some t =>
    have ht := at_val h ha
    rw [ha, Option.bind_some] at e
    by_cases k6 : o.Kind = 6
    · rw [if_pos k6] at e
      split at e
      · cases e; exact (val_fine h).mono (by omega) (by omega)
      · cases e
    rw [if_neg k6] at e
    by_cases k5 : o.Kind = 5
    · rw [if_pos k5] at e; exact fine_add5 h ht ho.path e
    rw [if_neg k5] at e
    unfold movN at e
    split at e
    · split at e
      · cases e; exact (val_fine h).mono (by omega) (by omega)
      · cases e
    · cases hr : remAtN n o.From with
      | none => rw [hr] at e; cases e
      | some less => rw [hr, Option.bind_some] at e; exact fine_add5 (rem_val h hr) ht ho.path e
theorem T.spec_checked_q {B D : Nat} {q : NodeT × Bool} {o : Option NodeT} (hB : B ≤ lim) (hq : Said q o) (h : ∀ m, o = some m → Fine B D m) : Ev (fun f => G.spec_checked f q.1 q.2) (pairO (o.filter Val)) := by
  obtain ⟨m, b⟩ := q
  cases b with
  | false =>
    rw [hq.2 rfl]
    refine Ev.up ?_
    simp only [G.spec_checked]
    exact Ev.cf rfl (Ev.ret _)
  | true =>
    have e := hq.1 rfl
    subst e
    exact T.spec_checked (o := some m) hB h
theorem T.spec_checkedOp {n : NodeT} {o : OpT} (h : Val n = true) (ho : OpFacts o) : Ev (fun f => G.spec_checkedOp f n o) (pairO ((applyN n o).filter Val)) := by
  obtain ⟨q, g, hq⟩ := T.spec_apply h ho
  have hc := T.spec_checked_q (B := 13) (D := 15) (by decide) hq (fun m hm => fine_apply h ho hm)
  refine Ev.up ?_
  simp only [G.spec_checkedOp]
  refine Ev.bind g (Ev.bind hc ?_)
  cases hm : (applyN n o).filter Val with
  | none => exact Ev.cf rfl (Ev.ret _)
  | some m =>
    have hv : Val m = true := by
      have := Option.filter_eq_some_iff.1 hm
      exact this.2
    exact Ev.ct rfl (Ev.bind (T.spec_copyNode lim12 (val_fine hv)) (Ev.ret _))
structure FineO (B D : Nat) (o : OpT) : Prop where
  path : FineP B o.Path
  from_ : FineP B o.From
  val : Fine B D o.Value
theorem T.spec_validOp {B D : Nat} {o : OpT} (hB : B ≤ lim) (h : FineO B D o) : Ev (fun f => G.spec_validOp f o) (OpV o) := by
  refine Ev.up ?_
  simp only [G.spec_validOp]
  unfold OpV
  refine Ev.bind (T.spec_inRange _ _ _) (Ev.ite (fun e1 => ?_) (fun e1 => Ev.ret' (by rw [e1]; rfl)))
  refine Ev.bind (T.spec_validPath _ (h.path.sm hB)) (Ev.ite (fun e2 => ?_) (fun e2 => Ev.ret' (by rw [e1, e2]; rfl)))
  refine Ev.bind (T.spec_validPath _ (h.from_.sm hB)) (Ev.ite (fun e3 => ?_) (fun e3 => Ev.ret' (by rw [e1, e2, e3]; rfl)))
  exact Ev.bind (T.spec_validNode hB h.val) (Ev.ret' (by rw [e1, e2, e3]; rfl))
theorem T.impl_isOp {B D : Nat} {o : OpT} (hB : B ≤ lim) (h : FineO B D o) : Ev (fun f => G.impl_isOp f o) (OpV o) := by
  refine Ev.up ?_
  simp only [G.impl_isOp]
  unfold OpV
  refine Ev.ite (fun e0 => ?_) (fun e0 => Ev.ret' (by rw [e0]; rfl))
  refine Ev.ite (fun e1 => ?_) (fun e1 => Ev.ret' (by rw [e0, e1]; rfl))
  refine Ev.bind (T.impl_isPath _ (h.path.sm hB)) (Ev.ite (fun e2 => ?_) (fun e2 => Ev.ret' (by rw [e0, e1, e2]; rfl)))
  refine Ev.bind (T.impl_isPath _ (h.from_.sm hB)) (Ev.ite (fun e3 => ?_) (fun e3 => Ev.ret' (by rw [e0, e1, e2, e3]; rfl)))
  exact Ev.bind (T.impl_ValidNode hB h.val) (Ev.ret' (by rw [e0, e1, e2, e3]; rfl))
end Go.Ab
end
section
namespace Go.Ab
open Go
theorem T.impl_testNode {n v : NodeT} {p : List Txt} (h : Val n = true) (hp : PP p = true) (hv : Val v = true) :
    ∃ o, Ev (fun f => G.impl_testNode f n p v) (pairO o) ∧ (∀ t, atN n p = some t → t = v → o = some n) ∧ (∀ t, atN n p = some t → t ≠ v → o = none) ∧ (atN n p = none → o = none) := by
  have sp := (pp_fine hp).sm (by decide)
  have hf := T.impl_findNode p sp.1 (val_shape h)
  cases ha : atN n p with
  | none =>
    rw [ha] at hf
    refine ⟨none, Ev.up ?_, (fun t e => by cases e), (fun t e => by cases e), fun _ => rfl⟩
    simp only [G.impl_testNode]
    exact Ev.bind hf (Ev.cf rfl (Ev.ret _))
  | some t =>
    rw [ha] at hf
    obtain ⟨b, gs, hb⟩ := T.impl_sameNode (val_shape (at_val h ha)) (val_shape hv)
    cases b with
    | true =>
      refine ⟨some n, Ev.up ?_, fun t' _ _ => rfl, fun t' e hne => ?_, (fun e => by cases e)⟩
      · simp only [G.impl_testNode]
        exact Ev.bind hf (Ev.ct rfl (Ev.bind gs (Ev.ct rfl (Ev.bind (T.impl_copyNode lim12 (val_fine h)) (Ev.ret _)))))
      · cases e; exact absurd (hb.1 rfl) hne
    | false =>
      refine ⟨none, Ev.up ?_, fun t' e he => ?_, fun t' _ _ => rfl, (fun e => by cases e)⟩
      · simp only [G.impl_testNode]
        exact Ev.bind hf (Ev.ct rfl (Ev.bind gs (Ev.cf rfl (Ev.ret _))))
      · cases e; have := hb.2 he; cases this
theorem filter_self {n : NodeT} (h : Val n = true) : (some n).filter Val = some n := by simp [Option.filter, h]
theorem T.impl_ApplyOp {B D : Nat} {n : NodeT} {o : OpT} (hB : B + 2 < lim) (h : Fine B D n) (ho : FineO B D o) : Ev (fun f => G.impl_ApplyOp f n o) (pairO (ApplyM n o)) := by
  refine Ev.up ?_
  simp only [G.impl_ApplyOp]
  unfold ApplyM
  refine Ev.bind (T.impl_ValidNode (by omega) h) (Ev.ite (fun e1 => ?_) (fun e1 => Ev.ret' (by rw [e1]; rfl)))
  refine Ev.bind (T.impl_isOp (by omega) ho) (Ev.ite (fun e2 => ?_) (fun e2 => Ev.ret' (by rw [e1, e2]; rfl)))
  rw [e1, e2, if_pos (by rfl)]
  have fo := opV_facts e2
  have hn := val_fine e1
  by_cases k1 : o.Kind = 1
  · refine Ev.ct (by simpa using k1) ?_
    have e : AddM n o.Path o.Value = (applyN n o).filter Val := by unfold AddM applyN; rw [e1, fo.path, fo.val, if_pos (by rfl), if_pos k1]
    rw [← e]
    exact Ev.bind (T.impl_AddNode hb14 hn (pp_fine fo.path) (val_fine fo.val)) (Ev.ret _)
  refine Ev.cf (by simpa using k1) ?_
  by_cases k2 : o.Kind = 2
  · refine Ev.ct (by simpa using k2) ?_
    have e : RemM n o.Path = (applyN n o).filter Val := by
      unfold RemM applyN
      rw [e1, fo.path, if_pos (by rfl), if_neg k1, if_pos k2]
      cases hr : remAtN n o.Path with
      | none => rfl
      | some m => exact (filter_self (rem_val e1 hr)).symm
    rw [← e]
    exact Ev.bind (T.impl_RemoveNode hb14 hn (pp_fine fo.path)) (Ev.ret _)
  refine Ev.cf (by simpa using k2) ?_
  by_cases k3 : o.Kind = 3
  · refine Ev.ct (by simpa using k3) ?_
    have e : SetM n o.Path o.Value = (applyN n o).filter Val := by unfold SetM applyN; rw [e1, fo.path, fo.val, if_pos (by rfl), if_neg k1, if_neg k2, if_pos k3]
    rw [← e]
    exact Ev.bind (T.impl_SetNode hb14 hn (pp_fine fo.path) (val_fine fo.val)) (Ev.ret _)
  refine Ev.cf (by simpa using k3) ?_
  have hN : applyN n o = (atN n (if o.Kind = 6 then o.Path else o.From)).bind fun t => @ite _ (o.Kind = 6) _ (@ite _ (t = o.Value) (Classical.propDecidable _) (some n) none) (if o.Kind = 5 then addAtN n o.Path t else movN n o.From o.Path t) := by
    unfold applyN
    rw [if_neg k1, if_neg k2, if_neg k3]
  by_cases k4 : o.Kind = 4
  · refine Ev.ct (by simpa using k4) ?_
    have k6 : ¬ o.Kind = 6 := by omega
    have k5 : ¬ o.Kind = 5 := by omega
    have e : MovM n o.From o.Path = (applyN n o).filter Val := by
      unfold MovM
      rw [e1, fo.path, fo.from_, if_pos (by rfl), hN, if_neg k6]
      cases ha : atN n o.From with
      | none => rfl
      | some t => simp only [Option.bind_some, if_neg k6, if_neg k5]
    rw [← e]
    exact Ev.bind (T.impl_moveNode e1 fo.from_ fo.path) (Ev.ret _)
  refine Ev.cf (by simpa using k4) ?_
  by_cases k5 : o.Kind = 5
  · refine Ev.ct (by simpa using k5) ?_
    have k6 : ¬ o.Kind = 6 := by omega
    refine Ev.bind (T.impl_NodeAt hb14 hn (pp_fine fo.from_)) ?_
    have eA : AtM n o.From = atN n o.From := by unfold AtM; rw [e1, fo.from_, if_pos (by rfl)]
    rw [eA, hN, if_neg k6]
    cases ha : atN n o.From with
    | none => exact Ev.cf rfl (Ev.ret _)
    | some t =>
      have ht := at_val e1 ha
      have hA := T.impl_AddNode (v := t) hb14 hn (pp_fine fo.path) (val_fine ht)
      have e : AddM n o.Path t = (addAtN n o.Path t).filter Val := by unfold AddM; rw [e1, fo.path, ht, if_pos (by rfl)]
      rw [e] at hA
      simp only [Option.bind_some, if_neg k6, if_pos k5]
      exact Ev.ct rfl (Ev.bind hA (Ev.ret _))
  refine Ev.cf (by simpa using k5) ?_
  have k6 : o.Kind = 6 := by have := fo.k1; have := fo.k6; omega
  obtain ⟨q, g, h1, h2, h3⟩ := T.impl_testNode e1 fo.path fo.val
  refine (show Ev _ (pairO q) from Ev.bind g (Ev.ret _)).eq (congrArg pairO ?_)
  rw [hN, if_pos k6]
  cases ha : atN n o.Path with
  | none => rw [h3 ha]; rfl
  | some t =>
    simp only [Option.bind_some, if_pos k6]
    by_cases ht : t = o.Value
    · rw [h1 t ha ht, if_pos ht, filter_self e1]
    · rw [h2 t ha ht, if_neg ht]; rfl
end Go.Ab
end
section
namespace Go.Ab
open Go
structure RdOK (K : Nat) (r : ReaderT) : Prop where
  len : r.b.length ≤ 2000
  bytes : ∀ x, x ∈ r.b → 0 ≤ x ∧ x < 256
  lo : 0 ≤ r.p
  hi : r.p ≤ (K : Int)
theorem RdOK.mono {K L : Nat} {r : ReaderT} (h : RdOK K r) (hk : K ≤ L) : RdOK L r := ⟨h.len, h.bytes, h.lo, by have := h.hi; omega⟩
theorem ReaderT.eta (r : ReaderT) : ReaderT.mk r.b r.p = r := rfl
theorem xor_ok {X Y : Nat} (hX : X < 4611686018427387904) (hY : Y < 4611686018427387904) :
    ∃ z : Nat, IntKind.wrap .i64 (((BitVec.ofInt (IntKind.bits .i64) (X : Int) ^^^ BitVec.ofInt (IntKind.bits .i64) (Y : Int)).toNat : Nat) : Int) = (z : Int) := by
  have e : ((BitVec.ofInt (IntKind.bits .i64) (X : Int) ^^^ BitVec.ofInt (IntKind.bits .i64) (Y : Int)).toNat) = X ^^^ Y := by
    rw [BitVec.toNat_xor]
    show (BitVec.ofInt 64 (X : Int)).toNat ^^^ (BitVec.ofInt 64 (Y : Int)).toNat = _
    rw [BitVec.toNat_ofInt, BitVec.toNat_ofInt]
    congr 1 <;> omega
  have hlt : X ^^^ Y < 2 ^ 62 := Nat.xor_lt_two_pow (by omega) (by omega)
  exact ⟨X ^^^ Y, by rw [e]; exact wrapN rfl (by omega)⟩
theorem tmod_nat (a b : Nat) : Int.tmod (a : Int) (b : Int) = ((a % b : Nat) : Int) := by
  rw [Int.tmod_eq_emod_of_nonneg (by omega)]; exact (Int.natCast_emod a b).symm
theorem tdiv_nat (a b : Nat) : Int.tdiv (a : Int) (b : Int) = ((a / b : Nat) : Int) := by
  rw [Int.tdiv_eq_ediv_of_nonneg (by omega)]; exact (Int.natCast_ediv a b).symm
theorem T.pick {K m : Nat} {r : ReaderT} (hr : RdOK K r) (hK : K ≤ 1000000000) (hm : 0 < m) (hm2 : m ≤ 1000000000) :
    ∃ (v : Nat) (r' : ReaderT), Ev (fun f => G.spec_reader_pick f r (m : Int)) ((v : Int), r') ∧ v < m ∧ RdOK (K + 1) r' := by
  obtain ⟨b, p⟩ := r
  obtain ⟨h1, h2, h3, h4⟩ := hr
  simp only at h1 h2 h3 h4
  obtain ⟨k, rfl⟩ : ∃ k : Nat, p = k := ⟨p.toNat, by omega⟩
  have hr' : RdOK (K + 1) (ReaderT.mk b ((k + 1 : Nat) : Int)) := ⟨h1, h2, by show (0 : Int) ≤ ((k + 1 : Nat) : Int); omega, by show ((k + 1 : Nat) : Int) ≤ _; omega⟩
  have w1 : IntKind.wrap .i64 ((k : Int) + 1) = ((k + 1 : Nat) : Int) := wrap_suc (by omega)
  have w2 : IntKind.wrap .i64 (((k + 1 : Nat) : Int) - 1) = (k : Int) := wrapN (by omega) (by omega)
  by_cases hb : b.length = 0
  · refine ⟨0, _, Ev.up ?_, hm, hr'⟩
    simp only [G.spec_reader_pick, w1]
    exact Ev.cf (by simp; omega) (Ev.ct (by simpa using hb) (Ev.ret _))
  have byte : ∀ i : Nat, i < b.length → ∃ c : Nat, b.getD i default = (c : Int) ∧ c < 256 := fun i hi => by
    rw [getD_of_lt _ hi]
    have := h2 _ (List.getElem_mem hi)
    exact ⟨b[i].toNat, by omega, by omega⟩
  by_cases hk : k < b.length
  · obtain ⟨c, hc, hc2⟩ := byte k hk
    refine ⟨c % m, _, Ev.up ?_, Nat.mod_lt _ hm, hr'⟩
    simp only [G.spec_reader_pick, w1, w2, Int.toNat_natCast, hc, wrapN (x := (c : Int)) (m := c) rfl (by omega), tmod_nat]
    exact Ev.cf (by simp; omega) (Ev.cf (by simpa using hb) (Ev.ct (by simpa using hk) (Ev.chk (by omega) (Ev.chk (by omega) (Ev.ret _)))))
  · have hlt : k % b.length < b.length := Nat.mod_lt _ (by omega)
    have hlt2 : (k * 7 + 3) % b.length < b.length := Nat.mod_lt _ (by omega)
    obtain ⟨c, hc, hc2⟩ := byte _ hlt
    obtain ⟨d, hd, hd2⟩ := byte _ hlt2
    have hdiv : k / b.length ≤ k := Nat.div_le_self _ _
    have w3 : IntKind.wrap .i64 ((k : Int) * 7) = ((k * 7 : Nat) : Int) := wrapN (by omega) (by omega)
    have w4 : IntKind.wrap .i64 (((k * 7 : Nat) : Int) + 3) = ((k * 7 + 3 : Nat) : Int) := wrapN (by omega) (by omega)
    have w5 : IntKind.wrap .i64 (c : Int) = c := wrapN rfl (by omega)
    have w6 : IntKind.wrap .i64 (d : Int) = d := wrapN rfl (by omega)
    have w7 : IntKind.wrap .i64 ((c : Int) * 131) = ((c * 131 : Nat) : Int) := wrapN (by omega) (by omega)
    have w8 : IntKind.wrap .i64 ((d : Int) * 1117) = ((d * 1117 : Nat) : Int) := wrapN (by omega) (by omega)
    have w9 : IntKind.wrap .i64 (((c * 131 : Nat) : Int) + ((d * 1117 : Nat) : Int)) = ((c * 131 + d * 1117 : Nat) : Int) := wrapN (by omega) (by omega)
    have w10 : IntKind.wrap .i64 ((k : Int) * 29) = ((k * 29 : Nat) : Int) := wrapN (by omega) (by omega)
    have w11 : IntKind.wrap .i64 (((c * 131 + d * 1117 : Nat) : Int) + ((k * 29 : Nat) : Int)) = ((c * 131 + d * 1117 + k * 29 : Nat) : Int) := wrapN (by omega) (by omega)
    have w12 : IntKind.wrap .i64 ((k / b.length : Nat) : Int) = ((k / b.length : Nat) : Int) := wrapN rfl (by omega)
    have w13 : IntKind.wrap .i64 (((k / b.length : Nat) : Int) * 53) = ((k / b.length * 53 : Nat) : Int) := wrapN (by omega) (by omega)
    have w14 : IntKind.wrap .i64 (((c * 131 + d * 1117 + k * 29 : Nat) : Int) + ((k / b.length * 53 : Nat) : Int)) = ((c * 131 + d * 1117 + k * 29 + k / b.length * 53 : Nat) : Int) := wrapN (by omega) (by omega)
    have e64 : (64 : Int) = ((64 : Nat) : Int) := rfl
    have w15 : IntKind.wrap .i64 (Int.tdiv ((c * 131 + d * 1117 + k * 29 + k / b.length * 53 : Nat) : Int) 64) = (((c * 131 + d * 1117 + k * 29 + k / b.length * 53) / 64 : Nat) : Int) := by
      rw [e64, tdiv_nat]; exact wrapN rfl (by omega)
    obtain ⟨z, hz⟩ := xor_ok (X := c * 131 + d * 1117 + k * 29 + k / b.length * 53) (Y := (c * 131 + d * 1117 + k * 29 + k / b.length * 53) / 64) (by omega) (by omega)
    refine ⟨z % m, _, Ev.up ?_, Nat.mod_lt _ hm, hr'⟩
    simp only [G.spec_reader_pick, w1, w2, w3, w4, tmod_nat, tdiv_nat, Int.toNat_natCast, hc, hd, w5, w6, w7, w8, w9, w10, w11, w12, w13, w14, w15, hz]
    exact Ev.cf (by simp; omega) (Ev.cf (by simpa using hb) (Ev.cf (by simp; omega) (Ev.chk (by omega) (Ev.chk (by omega) (Ev.chk (by omega) (Ev.chk (by omega) (Ev.chk (by omega) (Ev.chk (by omega) (Ev.ret _)))))))))
end Go.Ab
end
section
namespace Go.Ab
open Go
theorem T.one {K : Nat} {r : ReaderT} (hr : RdOK K r) (hK : K ≤ 1000000000) (l : List Int) (h0 : 0 < l.length) (h1 : l.length ≤ 1000) :
    ∃ x r', Ev (fun f => G.spec_reader_one f r l) (x, r') ∧ x ∈ l ∧ RdOK (K + 1) r' := by
  obtain ⟨v, r', g, hv, hr'⟩ := T.pick (m := l.length) hr hK h0 (by omega)
  refine ⟨l.getD v default, r', Ev.up ?_, by rw [getD_of_lt _ hv]; exact List.getElem_mem _, hr'⟩
  simp only [G.spec_reader_one]
  refine Ev.bind g (Ev.chk (by simp only; omega) (Ev.ret' ?_))
  rw [Int.toNat_natCast]
theorem T.of {K : Nat} {r : ReaderT} (hr : RdOK K r) (hK : K ≤ 1000000000) (l : List Txt) (h0 : 0 < l.length) (h1 : l.length ≤ 1000) :
    ∃ x r', Ev (fun f => G.spec_reader_of f r l) (x, r') ∧ x ∈ l ∧ RdOK (K + 1) r' := by
  obtain ⟨v, r', g, hv, hr'⟩ := T.pick (m := l.length) hr hK h0 (by omega)
  refine ⟨l.getD v default, r', Ev.up ?_, by rw [getD_of_lt _ hv]; exact List.getElem_mem _, hr'⟩
  simp only [G.spec_reader_of]
  refine Ev.bind g (Ev.chk (by simp only; omega) (Ev.ret' ?_))
  rw [Int.toNat_natCast]
theorem all_len {l : List Txt} {x : Txt} {m : Nat} (h : l.all (fun s => decide (s.length ≤ m)) = true) (hx : x ∈ l) : x.length ≤ m := by
  have := List.all_eq_true.1 h x hx
  simpa using this
theorem T.someText {K : Nat} {r : ReaderT} (hr : RdOK K r) (hK : K ≤ 1000000000) : ∃ x r', Ev (fun f => G.spec_someText f r) (x, r') ∧ x.length ≤ 12 ∧ RdOK (K + 1) r' := by
  obtain ⟨x, r', g, hx, hr'⟩ := T.of hr hK [[97], [98], [], [97, 98, 99], [97, 47, 98], [126], [120, 32, 121], [34, 113, 34], [98, 97, 99, 107, 92, 115], [48], [49], [97, 98, 99, 100, 101, 102, 103, 104, 105, 106, 107, 108]] (by decide) (by decide)
  refine ⟨x, r', Ev.up ?_, all_len (by decide) hx, hr'⟩
  simp only [G.spec_someText]
  exact Ev.bind g (Ev.ret _)
theorem T.someName {K : Nat} {r : ReaderT} (hr : RdOK K r) (hK : K ≤ 1000000000) : ∃ x r', Ev (fun f => G.spec_someName f r) (x, r') ∧ x.length ≤ 12 ∧ RdOK (K + 1) r' := by
  obtain ⟨x, r', g, hx, hr'⟩ := T.of hr hK [[97], [98], [99], [100], [97, 47, 98], [126, 120], [], [107]] (by decide) (by decide)
  refine ⟨x, r', Ev.up ?_, all_len (by decide) hx, hr'⟩
  simp only [G.spec_someName]
  exact Ev.bind g (Ev.ret _)
def stp : Nat → Nat
  | 0 => 4
  | d + 1 => 20 + 6 * stp d
theorem fine_leaf {B : Nat} {n : NodeT} (ht : n.Text.length ≤ B) (hn : n.Names = []) (hk : n.Kids = []) : Fine B 1 n :=
  ⟨ht, by rw [hn]; simp, by rw [hn]; simp, by rw [hk]; simp, by rw [hk]; simp, by rw [hk]; simp⟩
def Drawn (d : Nat) (K : Nat) (F : Nat → Option (NodeT × ReaderT)) : Prop := ∃ m r' D, Ev F (m, r') ∧ Fine (20 + 20 * d) D m ∧ RdOK (K + stp d) r'
theorem T.randomMap.L1 {d M : Nat} (hM : M ≤ 900000000) (hd : d ≤ 10) (hrec : ∀ K r, RdOK K r → K ≤ M → Drawn d K (fun f => G.spec_randomNode f r ((d + 1 : Nat) : Int))) :
    ∀ (j K B D : Nat) (r : ReaderT) (out : NodeT), RdOK K r → K + j * (1 + stp d) ≤ M → 20 + 20 * d ≤ B → B + j ≤ 1000 → Fine B D out →
      ∃ m r' D', Ev (fun f => G.spec_randomMap.L1 f ((d + 2 : Nat) : Int) (j : Int) r.b r.p out.Kind out.Num out.Text out.Names out.Kids) (m, r') ∧ Fine (B + j) D' m ∧ RdOK (K + j * (1 + stp d)) r' := by
  intro j
  induction j with
  | zero =>
    intro K B D r out hr hK hB hB2 hf
    refine ⟨out, r, D, Ev.up ?_, hf, hr.mono (by omega)⟩
    simp only [G.spec_randomMap.L1, NodeT.eta]
    exact Ev.cf (by simp) (Ev.ret _)
  | succ j ih =>
    intro K B D r out hr hK hB hB2 hf
    rw [Nat.add_mul] at hK
    obtain ⟨nm, r1, g1, hn, hr1⟩ := T.someName hr (by omega)
    obtain ⟨kid, r2, E, g2, hk, hr2⟩ := hrec (K + 1) r1 hr1 (by omega)
    have w : IntKind.wrap .i64 (((d + 2 : Nat) : Int) - 1) = ((d + 1 : Nat) : Int) := wrapN (by omega) (by omega)
    have w2 : IntKind.wrap .i64 (((j + 1 : Nat) : Int) - 1) = (j : Int) := wrapN (by omega) (by omega)
    have hP := T.spec_place nm (show B ≤ lim by unfold lim; omega) hf
    have hA := T.spec_addHere (v := kid) (E := E) nm (show B < lim by unfold lim; omega) hf (hk.mono (by omega) (Nat.le_refl _))
    have next : ∃ out2 D2, Ev (fun f => cond (decide (plcI (plc out nm) < 0)) (Option.bind (G.spec_addHere f out nm kid) fun v13 => G.spec_randomMap.L1 f ((d + 2 : Nat) : Int) (j : Int) r2.b r2.p v13.1.Kind v13.1.Num v13.1.Text v13.1.Names v13.1.Kids) (G.spec_randomMap.L1 f ((d + 2 : Nat) : Int) (j : Int) r2.b r2.p out.Kind out.Num out.Text out.Names out.Kids)) out2
        ∧ Fine (B + 1 + j) D2 out2.1 ∧ RdOK (K + 1 + stp d + j * (1 + stp d)) out2.2 := by
      refine Classical.byCases (fun e : decide (plcI (plc out nm) < 0) = true => ?_) (fun e => ?_)
      · have hfx : ∃ D3, Fine (B + 1) D3 (pairO (addN out nm kid)).1 := by
          cases ha : addN out nm kid with
          | none => exact ⟨1, fine_leaf (by simp [pairO, noNode]) rfl rfl⟩
          | some m => exact ⟨_, fine_add hf (hk.mono (by omega) (Nat.le_refl _)) (by omega) ha⟩
        obtain ⟨D3, hfx⟩ := hfx
        obtain ⟨m, r', D', g, hm, hr'⟩ := ih (K + 1 + stp d) (B + 1) D3 r2 _ hr2 (by omega) (by omega) (by omega) hfx
        exact ⟨(m, r'), D', Ev.ct e (Ev.bind hA g), hm, hr'⟩
      · obtain ⟨m, r', D', g, hm, hr'⟩ := ih (K + 1 + stp d) (B + 1) D r2 out hr2 (by omega) (by omega) (by omega) (hf.mono (by omega) (Nat.le_refl _))
        exact ⟨(m, r'), D', Ev.cf (by simpa using e) g, hm, hr'⟩
    obtain ⟨⟨m, r'⟩, D2, g, hm, hr'⟩ := next
    refine ⟨m, r', D2, Ev.up ?_, hm.mono (by omega) (Nat.le_refl _), hr'.mono (by rw [Nat.add_mul]; omega)⟩
    simp only [G.spec_randomMap.L1, NodeT.eta, w, w2]
    refine Ev.ct (by simp) (Ev.bind g1 (Ev.bind g2 (Ev.bind hP g)))
end Go.Ab
end
section
namespace Go.Ab
open Go
def Tot {α : Type} (Q : α → Prop) (F : Nat → Option α) : Prop := ∃ x, Ev F x ∧ Q x
section
variable {α β : Type} {Q : α → Prop} {F F' : Nat → Option α}
theorem Tot.up (h : Tot Q (fun n => F (n + 1))) : Tot Q F := let ⟨x, g, q⟩ := h; ⟨x, Ev.up g, q⟩
theorem Tot.ret {x : α} (h : Q x) : Tot Q (fun _ => some x) := ⟨x, Ev.ret x, h⟩
theorem Tot.bind {P : β → Prop} {h : Nat → Option β} {k : Nat → β → Option α} (h1 : Tot P h) (h2 : ∀ x, P x → Tot Q (fun n => k n x)) : Tot Q (fun n => Option.bind (h n) (k n)) := by
  obtain ⟨x, g, p⟩ := h1
  obtain ⟨y, g', q⟩ := h2 x p
  exact ⟨y, Ev.bind g g', q⟩
theorem Tot.bindE {a : β} {h : Nat → Option β} {k : Nat → β → Option α} (h1 : Ev h a) (h2 : Tot Q (fun n => k n a)) : Tot Q (fun n => Option.bind (h n) (k n)) := by
  obtain ⟨y, g', q⟩ := h2
  exact ⟨y, Ev.bind h1 g', q⟩
theorem Tot.chk {p : Prop} [Decidable p] (hp : p) (h : Tot Q F) : Tot Q (fun n => Ab.chk p (F n)) := let ⟨x, g, q⟩ := h; ⟨x, Ev.chk hp g, q⟩
theorem Tot.ite {c : Bool} (h : c = true → Tot Q F) (h' : c = false → Tot Q F') : Tot Q (fun n => cond c (F n) (F' n)) := by
  cases c
  · exact h' rfl
  · exact h rfl
theorem Tot.mono {P : α → Prop} (h : Tot P F) (hq : ∀ x, P x → Q x) : Tot Q F := let ⟨x, g, q⟩ := h; ⟨x, g, hq x q⟩
end
abbrev Dr {α : Type} (L : Nat) (Q : α → Prop) (F : Nat → Option (α × ReaderT)) : Prop := Tot (fun x => Q x.1 ∧ RdOK L x.2) F
theorem D.pick {K : Nat} {r : ReaderT} (hr : RdOK K r) (hK : K ≤ 1000000000) {M : Int} {m : Nat} (hM : M = (m : Int)) (h0 : 0 < m) (h1 : m ≤ 1000000000) :
    Dr (K + 1) (fun x : Int => ∃ v : Nat, x = (v : Int) ∧ v < m) (fun f => G.spec_reader_pick f r M) := by
  subst hM
  obtain ⟨v, r', g, hv, hr'⟩ := T.pick hr hK h0 h1
  exact ⟨_, g, ⟨v, rfl, hv⟩, hr'⟩
theorem D.one {K : Nat} {r : ReaderT} (hr : RdOK K r) (hK : K ≤ 1000000000) (l : List Int) (h0 : 0 < l.length) (h1 : l.length ≤ 1000) : Dr (K + 1) (fun x : Int => x ∈ l) (fun f => G.spec_reader_one f r l) := by
  obtain ⟨v, r', g, hv, hr'⟩ := T.one hr hK l h0 h1
  exact ⟨_, g, hv, hr'⟩
theorem D.of {K m : Nat} {r : ReaderT} (hr : RdOK K r) (hK : K ≤ 1000000000) (l : List Txt) (h0 : 0 < l.length) (h1 : l.length ≤ 1000) (hm : l.all (fun s => decide (s.length ≤ m)) = true) :
    Dr (K + 1) (fun x : Txt => x.length ≤ m) (fun f => G.spec_reader_of f r l) := by
  obtain ⟨v, r', g, hv, hr'⟩ := T.of hr hK l h0 h1
  exact ⟨_, g, all_len hm hv, hr'⟩
abbrev FineE (B : Nat) (n : NodeT) : Prop := ∃ D, Fine B D n
theorem D.randomMap {d M : Nat} (hM : M ≤ 900000000) (hd : d ≤ 10) (hrec : ∀ K r, RdOK K r → K ≤ M → Drawn d K (fun f => G.spec_randomNode f r ((d + 1 : Nat) : Int)))
    {K : Nat} {r : ReaderT} (hr : RdOK K r) (hK : K + 1 + 4 * (1 + stp d) ≤ M) : Dr (K + 1 + 4 * (1 + stp d)) (FineE (24 + 20 * d)) (fun f => G.spec_randomMap f r ((d + 2 : Nat) : Int)) := by
  refine Tot.up ?_
  simp only [G.spec_randomMap]
  refine Tot.bind (D.one hr (by omega) [2, 3, 1, 0, 4] (by decide) (by decide)) ?_
  rintro ⟨x, r'⟩ ⟨hx, hr'⟩
  obtain ⟨j, rfl, hj⟩ : ∃ j : Nat, x = (j : Int) ∧ j ≤ 4 := ⟨x.toNat, by simp at hx; omega⟩
  have hm : j * (1 + stp d) ≤ 4 * (1 + stp d) := Nat.mul_le_mul_right _ hj
  obtain ⟨m, r2, D', g, hm', hr2⟩ := T.randomMap.L1 hM hd hrec j (K + 1) (20 + 20 * d) 1 r' (NodeT.mk 4 0 [] [] []) hr' (by omega) (Nat.le_refl _) (by omega) (fine_leaf (by simp) rfl rfl)
  exact ⟨(m, r2), g, ⟨D', hm'.mono (by omega) (Nat.le_refl _)⟩, hr2.mono (by omega)⟩
theorem fine_list {B D : Nat} {k : Int} {l : List NodeT} (hk : k ≠ 4) (hl : l.length ≤ B) (h : ∀ x, x ∈ l → Fine B D x) : Fine B (D + 1) (NodeT.mk k 0 [] [] l) :=
  ⟨by simp, by simp, by simp, hl, fun e => absurd e hk, h⟩
theorem D.randomNode.L2 {d M : Nat} (hd : d ≤ 10) (hrec : ∀ K r, RdOK K r → K ≤ M → Drawn d K (fun f => G.spec_randomNode f r ((d + 1 : Nat) : Int))) :
    ∀ (j K D : Nat) (r : ReaderT) (z : List NodeT), RdOK K r → K + j * stp d ≤ M → z.length + j ≤ 10 → (∀ x, x ∈ z → Fine (20 + 20 * d) D x) →
      Dr (K + j * stp d) (FineE (20 + 20 * d)) (fun f => G.spec_randomNode.L2 f ((d + 2 : Nat) : Int) 3 (j : Int) r.b r.p z) := by
  intro j
  induction j with
  | zero =>
    intro K D r z hr hK hz hf
    refine Tot.up ?_
    simp only [G.spec_randomNode.L2]
    exact ⟨_, Ev.cf (by simp) (Ev.ret _), ⟨D + 1, fine_list (by decide) (by omega) hf⟩, hr.mono (by omega)⟩
  | succ j ih =>
    intro K D r z hr hK hz hf
    rw [Nat.add_mul] at hK
    have w : IntKind.wrap .i64 (((d + 2 : Nat) : Int) - 1) = ((d + 1 : Nat) : Int) := wrapN (by omega) (by omega)
    have w2 : IntKind.wrap .i64 (((j + 1 : Nat) : Int) - 1) = (j : Int) := wrapN (by omega) (by omega)
    obtain ⟨kid, r2, E, g2, hk, hr2⟩ := hrec K r hr (by omega)
    refine Tot.up ?_
    simp only [G.spec_randomNode.L2, w, w2]
    obtain ⟨x, g, hx, hr'⟩ := ih (K + stp d) (max D E) r2 (z ++ [kid]) hr2 (by omega) (by simp; omega) (fun x hx => by
      rcases List.mem_append.1 hx with h | h
      · exact (hf x h).mono (Nat.le_refl _) (Nat.le_max_left _ _)
      · simp only [List.mem_singleton] at h; subst h; exact hk.mono (Nat.le_refl _) (Nat.le_max_right _ _))
    exact ⟨x, Ev.ct (by simp) (Ev.bind g2 (Ev.chk (by omega) g)), hx, hr'.mono (by rw [Nat.add_mul]; omega)⟩
theorem D.randomNode.K1 {d k : Nat} (hd : d ≤ 10) (hk : k < 3 ∨ (k < 5 ∧ ∃ e, d = e + 1 ∧ ∀ K r, RdOK K r → K ≤ 900000000 - stp e → Drawn e K (fun f => G.spec_randomNode f r ((e + 1 : Nat) : Int))))
    {K : Nat} {r : ReaderT} (hr : RdOK K r) (hK : K + stp d ≤ 900000002) : Dr (K + stp d - 2) (FineE (20 + 20 * d)) (fun f => G.spec_randomNode.K1 f ((d + 1 : Nat) : Int) (k : Int) r.b r.p) := by
  have h2 : 4 ≤ stp d := by cases d <;> simp only [stp] <;> omega
  refine Tot.up ?_
  simp only [G.spec_randomNode.K1]
  refine Tot.ite (fun e => ?_) (fun e1 => Tot.ite (fun e => ?_) (fun e2 => Tot.ite (fun e => ?_) (fun e3 => Tot.ite (fun e => ?_) (fun e4 => ?_))))
  · refine Tot.bind (D.pick (m := 250) hr (by omega) rfl (by decide) (by decide)) ?_
    rintro ⟨x, r1⟩ ⟨_, hr1⟩
    refine Tot.bind (D.one hr1 (by omega) _ (by simp) (by simp)) ?_
    rintro ⟨y, r2⟩ ⟨_, hr2⟩
    exact Tot.ret ⟨⟨1, fine_leaf (by simp) rfl rfl⟩, hr2.mono (by omega)⟩
  · obtain ⟨x, r1, g, hx, hr1⟩ := T.someText hr (by omega)
    exact Tot.bindE g (Tot.ret ⟨⟨1, fine_leaf (by show x.length ≤ _; omega) rfl rfl⟩, hr1.mono (by omega)⟩)
  · rcases hk with hk | ⟨hk, e', rfl, hrec⟩
    · have : (k : Int) = 3 := by simpa using e
      omega
    · have hk3 : k = 3 := by have : (k : Int) = 3 := by simpa using e
                             omega
      subst hk3
      refine Tot.bind (D.pick (m := 4) hr (by omega) rfl (by decide) (by decide)) ?_
      rintro ⟨x, r1⟩ ⟨⟨j, rfl, hj⟩, hr1⟩
      have hm : j * stp e' ≤ 3 * stp e' := Nat.mul_le_mul_right _ (by omega)
      simp only [stp] at hK h2 ⊢
      refine (D.randomNode.L2 (by omega) hrec j (K + 1) 0 r1 [] hr1 (by omega) (by simp; omega) (fun x h => by cases h)).mono ?_
      rintro ⟨n, r2⟩ ⟨⟨D, hn⟩, hr2⟩
      exact ⟨⟨D, hn.mono (by omega) (Nat.le_refl _)⟩, hr2.mono (by omega)⟩
  · rcases hk with hk | ⟨hk, e', rfl, hrec⟩
    · have : (k : Int) = 4 := by simpa using e
      omega
    · simp only [stp] at hK h2 ⊢
      refine Tot.bind (D.randomMap (Nat.sub_le _ _) (by omega) hrec hr (by omega)) ?_
      rintro ⟨n, r2⟩ ⟨⟨D, hn⟩, hr2⟩
      exact Tot.ret ⟨⟨D, hn.mono (by omega) (Nat.le_refl _)⟩, hr2.mono (by omega)⟩
  · exact Tot.ret ⟨⟨1, fine_leaf (by simp) rfl rfl⟩, hr.mono (by omega)⟩
theorem D.randomNode : ∀ (d : Nat), d ≤ 10 → ∀ K r, RdOK K r → K + stp d ≤ 900000000 → Dr (K + stp d) (FineE (20 + 20 * d)) (fun f => G.spec_randomNode f r ((d + 1 : Nat) : Int))
  | 0, hd, K, r, hr, hK => by
    refine Tot.up ?_
    simp only [G.spec_randomNode]
    refine Tot.bind (D.pick (m := 5) hr (by omega) rfl (by decide) (by decide)) ?_
    rintro ⟨x, r1⟩ ⟨_, hr1⟩
    refine Tot.ite (fun _ => ?_) (fun e => by simp at e)
    refine Tot.bind (D.pick (m := 3) hr1 (by omega) rfl (by decide) (by decide)) ?_
    rintro ⟨y, r2⟩ ⟨⟨k, rfl, hk⟩, hr2⟩
    refine (D.randomNode.K1 (d := 0) (by omega) (.inl hk) (K := K + 2) hr2 (by omega)).mono ?_
    rintro ⟨n, r3⟩ ⟨hn, hr3⟩
    exact ⟨hn, hr3.mono (by omega)⟩
  | d + 1, hd, K, r, hr, hK => by
    refine Tot.up ?_
    simp only [G.spec_randomNode]
    refine Tot.bind (D.pick (m := 5) hr (by omega) rfl (by decide) (by decide)) ?_
    rintro ⟨x, r1⟩ ⟨⟨k, rfl, hk⟩, hr1⟩
    refine Tot.ite (fun e => by simp at e; omega) (fun _ => ?_)
    refine (D.randomNode.K1 (d := d + 1) (by omega) (.inr ⟨hk, d, rfl, fun K' r' hr' hK' => ?_⟩) (K := K + 1) hr1 (by omega)).mono ?_
    · have hs : stp d ≤ 900000000 := by simp only [stp] at hK; omega
      obtain ⟨⟨n, r2⟩, g, ⟨D, hn⟩, hr2⟩ := D.randomNode d (by omega) K' r' hr' (by omega)
      exact ⟨n, r2, D, g, hn, hr2⟩
    · rintro ⟨n, r3⟩ ⟨hn, hr3⟩
      exact ⟨hn, hr3.mono (by omega)⟩
theorem D.node (d : Nat) (hd : d ≤ 2) {M : Int} (hM : M = ((d + 1 : Nat) : Int)) {K : Nat} {r : ReaderT} (hr : RdOK K r) (hK : K ≤ 800000000) : Dr (K + 300) (FineE 60) (fun f => G.spec_randomNode f r M) := by
  subst hM
  have h : stp d ≤ 284 := by
    match d, hd with
    | 0, _ => decide
    | 1, _ => decide
    | 2, _ => decide
  refine (D.randomNode d (by omega) K r hr (by omega)).mono ?_
  rintro ⟨n, r'⟩ ⟨⟨D, hn⟩, hr'⟩
  exact ⟨⟨D, hn.mono (by omega) (Nat.le_refl _)⟩, hr'.mono (by omega)⟩
theorem D.map3 {K : Nat} {r : ReaderT} (hr : RdOK K r) (hK : K ≤ 800000000) : Dr (K + 300) (FineE 60) (fun f => G.spec_randomMap f r 3) := by
  have h1 : stp 1 = 44 := by decide
  refine (D.randomMap (d := 1) (M := 800001000) (by omega) (by decide) (fun K' r' hr' hK' => ?_) hr (by omega)).mono ?_
  · obtain ⟨⟨n, r2⟩, g, ⟨D, hn⟩, hr2⟩ := D.randomNode 1 (by omega) K' r' hr' (by omega)
    exact ⟨n, r2, D, g, hn, hr2⟩
  · rintro ⟨n, r'⟩ ⟨⟨D, hn⟩, hr'⟩
    exact ⟨⟨D, hn.mono (by omega) (Nat.le_refl _)⟩, hr'.mono (by omega)⟩
theorem lim60 : 60 ≤ lim := by decide
theorem val_no : Val noNode = true := by decide
theorem D.someNode.K1 {K : Nat} {r : ReaderT} {n : NodeT} (hr : RdOK K r) (hn : FineE 60 n) : Dr K (fun x => Val x = true) (fun f => G.spec_someNode.K1 f r.b r.p n.Kind n.Num n.Text n.Names n.Kids) := by
  obtain ⟨D, hn⟩ := hn
  refine Tot.up ?_
  simp only [G.spec_someNode.K1, NodeT.eta]
  refine Tot.bindE (T.spec_validNode lim60 hn) (Tot.ite (fun e => Tot.ret ⟨e, hr⟩) (fun _ => Tot.ret ⟨val_no, hr⟩))
theorem D.someNode {K : Nat} {r : ReaderT} (hr : RdOK K r) (hK : K ≤ 700000000) : Dr (K + 601) (fun x => Val x = true) (fun f => G.spec_someNode f r) := by
  refine Tot.up ?_
  simp only [G.spec_someNode]
  refine Tot.bind (D.node 2 (by decide) rfl hr (by omega)) ?_
  rintro ⟨n, r1⟩ ⟨hn, hr1⟩
  refine Tot.bind (D.pick (m := 3) hr1 (by omega) rfl (by decide) (by decide)) ?_
  rintro ⟨x, r2⟩ ⟨_, hr2⟩
  refine Tot.ite (fun _ => ?_) (fun _ => ?_)
  · refine Tot.bind (D.map3 hr2 (by omega)) ?_
    rintro ⟨m, r3⟩ ⟨hm, hr3⟩
    exact (D.someNode.K1 hr3 hm).mono (fun x h => ⟨h.1, h.2.mono (by omega)⟩)
  · exact (D.someNode.K1 hr2 hn).mono (fun x h => ⟨h.1, h.2.mono (by omega)⟩)
theorem D.anyNode.L1 {v : NodeT × ReaderT} (hv : Val v.1 = true) : ∀ (k i K : Nat) (r : ReaderT) (z : List NodeT), i + k = 7 → RdOK K r → K + k + 1 ≤ 900000000 → z.length = i → (∀ x, x ∈ z → Fine 14 5 x) →
    Dr (K + k + 1) (FineE 14) (fun f => G.spec_anyNode.L1 f v (i : Int) r.b r.p z) := by
  intro k
  induction k with
  | zero =>
    intro i K r z hi hr hK hz hf
    refine Tot.up ?_
    simp only [G.spec_anyNode.L1]
    refine Tot.bind (D.pick (m := 2) hr (by omega) rfl (by decide) (by decide)) ?_
    rintro ⟨x, r1⟩ ⟨⟨q, rfl, hq⟩, hr1⟩
    have w : IntKind.wrap .i64 (6 + ((q : Nat) : Int)) = ((6 + q : Nat) : Int) := wrapN (by omega) (by omega)
    simp only [w]
    refine Tot.ite (fun e => by simp at e; omega) (fun _ => Tot.ret ⟨⟨6, fine_list (by decide) (by omega) hf⟩, hr1⟩)
  | succ k ih =>
    intro i K r z hi hr hK hz hf
    refine Tot.up ?_
    simp only [G.spec_anyNode.L1, wrap_suc (show i + 1 < 9223372036854775808 by omega)]
    refine Tot.bind (D.pick (m := 2) hr (by omega) rfl (by decide) (by decide)) ?_
    rintro ⟨x, r1⟩ ⟨_, hr1⟩
    refine Tot.ite (fun _ => ?_) (fun _ => Tot.ret ⟨⟨6, fine_list (by decide) (by omega) hf⟩, hr1.mono (by omega)⟩)
    refine Tot.bindE (T.spec_copyNode lim12 (val_fine hv)) (Tot.chk (by omega) ?_)
    refine (ih (i + 1) (K + 1) r1 (z ++ [v.1]) (by omega) hr1 (by omega) (by simp; omega) (fun x hx => ?_)).mono (fun x h => ⟨h.1, h.2.mono (by omega)⟩)
    rcases List.mem_append.1 hx with h | h
    · exact hf x h
    · simp only [List.mem_singleton] at h; subst h; exact (val_fine hv).mono (by omega) (Nat.le_refl _)
theorem D.anyNode {K : Nat} {r : ReaderT} (hr : RdOK K r) (hK : K ≤ 600000000) : Dr (K + 620) (FineE 14) (fun f => G.spec_anyNode f r) := by
  refine Tot.up ?_
  simp only [G.spec_anyNode]
  refine Tot.bind (D.someNode hr (by omega)) ?_
  rintro ⟨n, r1⟩ ⟨hn, hr1⟩
  replace hn : Val n = true := hn
  have hf := val_fine hn
  obtain ⟨f1, f2, f3, f4, f5, f6⟩ := hf
  have hks : ∀ k, k ∈ n.Kids → Fine 14 4 k := fun k hk => (f6 k hk).mono (by omega) (Nat.le_refl _)
  have hns : ∀ s, s ∈ n.Names → s.length ≤ 14 := fun s hs => Nat.le_trans (f3 s hs) (by omega)
  refine Tot.bind (D.pick (m := 40) hr1 (by omega) rfl (by decide) (by decide)) ?_
  rintro ⟨x, r2⟩ ⟨_, hr2⟩
  refine Tot.ite (fun _ => ?_) (fun _ => Tot.ite (fun _ => ?_) (fun _ => Tot.ite (fun _ => ?_) (fun _ => Tot.ite (fun _ => ?_) (fun _ => Tot.ite (fun _ => ?_) (fun _ => Tot.ite (fun _ => ?_) (fun _ => ?_))))))
  · refine Tot.bind (D.one hr2 (by omega) _ (by decide) (by decide)) ?_
    rintro ⟨y, r3⟩ ⟨hy, hr3⟩
    refine Tot.ret ⟨⟨5, by show n.Text.length ≤ 14; omega, by show n.Names.length ≤ 14; omega, hns, by show n.Kids.length ≤ 14; omega, fun e => ?_, hks⟩, hr3.mono (by omega)⟩
    have e : y = 4 := e
    subst e
    simp at hy
  · refine Tot.bind (D.one hr2 (by omega) _ (by decide) (by decide)) ?_
    rintro ⟨y, r3⟩ ⟨hy, hr3⟩
    exact Tot.ret ⟨⟨5, by show n.Text.length ≤ 14; omega, by show n.Names.length ≤ 14; omega, hns, by show n.Kids.length ≤ 14; omega, f5, hks⟩, hr3.mono (by omega)⟩
  · exact Tot.ret ⟨⟨5, by simp, by show n.Names.length ≤ 14; omega, hns, by show n.Kids.length ≤ 14; omega, f5, hks⟩, hr2.mono (by omega)⟩
  · refine Tot.chk (by simp only; omega) (Tot.ret ⟨⟨5, by show n.Text.length ≤ 14; omega, by show (n.Names ++ [[]]).length ≤ 14; simp; omega, fun s hs => ?_, by show n.Kids.length ≤ 14; omega, fun e => ?_, hks⟩, hr2.mono (by omega)⟩)
    · rcases List.mem_append.1 hs with h | h
      · exact hns s h
      · simp only [List.mem_singleton] at h; subst h; simp
    · have := f5 e
      show n.Kids.length ≤ (n.Names ++ [[]]).length
      simp; omega
  · have h0 : Fine 14 5 n := (val_fine hn).mono (by omega) (Nat.le_refl _)
    have up : ∀ {D m}, Fine 14 D m → Fine 14 (D + 1) (NodeT.mk 3 0 [] [] [m]) := fun hm => fine_list (by decide) (by simp) (fun x hx => by simp only [List.mem_singleton] at hx; subst hx; exact hm)
    exact Tot.ret ⟨⟨9, up (up (up (up h0)))⟩, hr2.mono (by omega)⟩
  · exact (D.anyNode.L1 (v := (n, r1)) hn 7 0 (K + 601 + 1) r2 [] (by omega) hr2 (by omega) rfl (fun x h => by cases h)).mono (fun x h => ⟨h.1, h.2.mono (by omega)⟩)
  · exact Tot.ret ⟨⟨5, (val_fine hn).mono (by omega) (Nat.le_refl _)⟩, hr2.mono (by omega)⟩
end Go.Ab
end
section
namespace Go.Ab
open Go
def Few (m d : Nat) (l : List (List Txt)) : Prop := l.length ≤ m ∧ ∀ p, p ∈ l → p.length ≤ d ∧ ∀ s, s ∈ p → s.length ≤ 12
theorem few_add {m d k : Nat} {l : List (List Txt)} {s : Txt} {p : List Txt} (h : Few (m + k) (d + 1) l) (hl : l.length < m + k) (hs : s.length ≤ 12) (hp : p.length ≤ d ∧ ∀ s, s ∈ p → s.length ≤ 12) : Few (m + k) (d + 1) (l ++ [[s] ++ p]) := by
  refine ⟨by simp; omega, fun q hq => ?_⟩
  rcases List.mem_append.1 hq with h' | h'
  · exact h.2 q h'
  · simp only [List.mem_singleton] at h'
    subst h'
    refine ⟨by simp; omega, fun t ht => ?_⟩
    rcases List.mem_append.1 ht with h' | h'
    · simp only [List.mem_singleton] at h'; subst h'; exact hs
    · exact hp.2 t h'
theorem D.all.L7 {n : NodeT} {i M d : Nat} {s : Txt} {v : List (List Txt)} {Q : List (List Txt) → Prop} (hv : Few M d v) (hM : M ≤ 20000) (hd : d ≤ 5) (hs : s.length ≤ 12) (C : Nat) (hC : C ≤ 900000)
    (next : ∀ z, Few (C + M) (d + 1) z → Tot Q (fun f => G.spec_all.L5 f n (IntKind.wrap .i64 ((i : Int) + 1)) z)) :
    ∀ (k j : Nat) (z : List (List Txt)), j + k = v.length → Few (C + j) (d + 1) z → Tot Q (fun f => G.spec_all.L7 f n (i : Int) s v (j : Int) z) := by
  have hl := hv.1
  intro k
  induction k with
  | zero =>
    intro j z hj hz
    refine Tot.up ?_
    simp only [G.spec_all.L7]
    refine Tot.ite (fun e => by simp at e; omega) (fun _ => next z ⟨by have := hz.1; omega, hz.2⟩)
  | succ k ih =>
    intro j z hj hz
    have hjv : j < v.length := by omega
    have hp := hv.2 _ (List.getElem_mem hjv)
    have hz1 := hz.1
    refine Tot.up ?_
    simp only [G.spec_all.L7, Int.toNat_natCast, wrap_suc (show j + 1 < 9223372036854775808 by omega), getD_of_lt _ hjv]
    refine Tot.ite (fun _ => ?_) (fun e => by simp at e; omega)
    refine Tot.chk (by omega) (Tot.chk (by omega) (Tot.chk (by omega) ?_))
    refine ih (j + 1) _ (by omega) ?_
    exact few_add (m := C) (k := j + 1) ⟨by omega, hz.2⟩ (by omega) hs hp
theorem D.all : ∀ (d : Nat) {n : NodeT}, d ≤ 5 → Shape d n = true → Tot (Few (7 ^ d) d) (fun f => G.spec_all f n)
  | 0, _, _, h => by cases h
  | d + 1, n, hd, h => by
    have hk := shape_len h
    have hf := shape_fine h
    have h7 := pow_le (show d ≤ 5 by omega)
    have hns : ∀ i, i < n.Names.length → (n.Names.getD i default).length ≤ 12 := fun i hi => by
      rw [getD_of_lt _ hi]; exact hf.2.2.1 _ (List.getElem_mem hi)
    have L5 : ∀ (k i : Nat) (z : List (List Txt)), i + k = n.Kids.length → Few (1 + i * 7 ^ d) (d + 1) z → Tot (Few (7 ^ (d + 1)) (d + 1)) (fun f => G.spec_all.L5 f n (i : Int) z) := by
      intro k
      induction k with
      | zero =>
        intro i z hi hz
        have hm : i * 7 ^ d ≤ 6 * 7 ^ d := Nat.mul_le_mul_right _ (by omega)
        have h1 : 0 < 7 ^ d := Nat.pow_pos (by omega)
        refine Tot.up ?_
        simp only [G.spec_all.L5]
        refine Tot.ite (fun e => by simp at e; omega) (fun _ => Tot.ret ⟨?_, hz.2⟩)
        have := hz.1
        rw [Nat.pow_succ]; omega
      | succ k ih =>
        intro i z hi hz
        have hm : i * 7 ^ d ≤ 6 * 7 ^ d := Nat.mul_le_mul_right _ (by omega)
        have K6 : ∀ s : Txt, s.length ≤ 12 → Tot (Few (7 ^ (d + 1)) (d + 1)) (fun f => G.spec_all.K6 f n (i : Int) z s) := fun s hs => by
          refine Tot.up ?_
          simp only [G.spec_all.K6, Int.toNat_natCast]
          refine Tot.chk (by omega) (Tot.bind (D.all d (by omega) (shape_kid h (j := i) (by omega))) ?_)
          intro v hv
          refine D.all.L7 hv (by omega) (by omega) hs (1 + i * 7 ^ d) (by omega) (fun z' hz' => ?_) v.length 0 z (by omega) hz
          rw [wrap_suc (by omega)]
          exact ih (i + 1) z' (by omega) ⟨by have := hz'.1; rw [Nat.add_mul]; omega, hz'.2⟩
        refine Tot.up ?_
        simp only [G.spec_all.L5, Int.toNat_natCast]
        refine Tot.ite (fun _ => ?_) (fun e => by simp at e; omega)
        refine Tot.bindE (T.decimal (i := i) (by unfold lim; omega)) (Tot.ite (fun e => ?_) (fun _ => ?_))
        · have h4 : n.Kind = 4 := by simpa using e
          have hnl := shape_names h h4
          exact Tot.chk (by omega) (K6 _ (hns i (by omega)))
        · exact K6 _ (by unfold decN; rw [if_pos (by omega)]; simp)
    refine Tot.up ?_
    simp only [G.spec_all]
    exact L5 n.Kids.length 0 [[]] (by omega) ⟨by simp, fun p hp => by simp only [List.mem_singleton] at hp; subst hp; exact ⟨by simp, fun s hs => by cases hs⟩⟩
end Go.Ab
end
section
namespace Go.Ab
open Go
abbrev FineOE (o : OpT) : Prop := ∃ E, FineO 60 E o
theorem FineP.mono {B C : Nat} {p : List Txt} (h : FineP B p) (hB : B ≤ C) : FineP C p := ⟨Nat.le_trans h.1 hB, fun s hs => Nat.le_trans (h.2 s hs) hB⟩
section
variable {v1 : Int × ReaderT} {v2 : List Txt × ReaderT} {K : Nat} {r : ReaderT} {fr : List Txt} {m : NodeT}
end
def Bytes (l : List Int) : Prop := ∀ z, z ∈ l → 0 ≤ z ∧ z < 256
theorem D.newReader {c : List Int} (hc : Bytes c) (hl : c.length ≤ 1048576) : Tot (RdOK 0) (fun f => G.spec_newReader f c) := by
  refine Tot.up ?_
  simp only [G.spec_newReader]
  refine Tot.ite (fun e => ?_) (fun e => ?_)
  · have h : 2000 < c.length := by simp at e; omega
    exact Tot.chk (by omega) (Tot.ret ⟨by show (c.take 2000).length ≤ 2000; simp; omega, fun z hz => hc z (List.mem_of_mem_take hz), Int.le_refl _, Int.le_refl _⟩)
  · have h : c.length ≤ 2000 := by simp at e; omega
    exact Tot.ret ⟨h, hc, Int.le_refl _, Int.le_refl _⟩
structure NO (n : NodeT) (o : OpT) : Prop where
  node : ∃ E, Fine 60 E n
  op : ∃ E, FineO 60 E o
theorem T.laws_equalTexts.L1 {a b : List Txt} (hl : a.length = b.length) (hb : a.length < big) : ∀ (k i : Nat), i + k = a.length → Ev (fun f => G.laws_equalTexts.L1 f a b i) (decide (a.drop i = b.drop i)) := by
  unfold big at hb
  intro k
  induction k with
  | zero =>
    intro i hi
    refine Ev.up ?_
    simp only [G.laws_equalTexts.L1]
    refine Ev.cf (by simp; omega) (Ev.ret' ?_)
    rw [List.drop_of_length_le (by omega), List.drop_of_length_le (by omega)]
    simp
  | succ k ih =>
    intro i hi
    refine Ev.up ?_
    simp only [G.laws_equalTexts.L1, Int.toNat_natCast, wrap_suc (show i + 1 < 9223372036854775808 by omega)]
    refine Ev.ct (by simp; omega) (Ev.chk (by omega) (Ev.chk (by omega) ?_))
    rw [drop_of_lt (default : Txt) (by omega : i < a.length), drop_of_lt (default : Txt) (by omega : i < b.length)]
    refine Ev.ite (fun e => (ih (i + 1) (by omega)).eq ?_) (fun e => Ev.ret' ?_)
    · have e : a.getD i default = b.getD i default := by simpa using e
      rw [e]; simp
    · have e : a.getD i default ≠ b.getD i default := by simpa using e
      symm
      exact decide_eq_false (fun h => e (List.cons.inj h).1)
theorem T.laws_equalTexts {a b : List Txt} (hb : a.length < big) : Ev (fun f => G.laws_equalTexts f a b) (decide (a = b)) := by
  refine Ev.up ?_
  simp only [G.laws_equalTexts]
  refine Ev.ite (fun e => Ev.ret' ?_) (fun e => ?_)
  · have e : a.length ≠ b.length := fun h => by rw [h] at e; simp at e
    symm
    exact decide_eq_false (fun h => e (by rw [h]))
  · have e : ((a.length : Nat) : Int) = ((b.length : Nat) : Int) := by simpa using e
    exact T.laws_equalTexts.L1 (by omega) hb a.length 0 (by omega)
open Classical in
theorem T.laws_equalNodes.L1 {a b : List NodeT} (hl : a.length = b.length) (hb : a.length < big) (hs : ∀ x y, x ∈ a → y ∈ b → Ev (fun f => G.laws_equalNode f x y) (decide (x = y))) :
    ∀ (k i : Nat), i + k = a.length → Ev (fun f => G.laws_equalNodes.L1 f a b i) (decide (a.drop i = b.drop i)) := by
  unfold big at hb
  intro k
  induction k with
  | zero =>
    intro i hi
    refine Ev.up ?_
    simp only [G.laws_equalNodes.L1]
    refine Ev.cf (by simp; omega) (Ev.ret' ?_)
    rw [List.drop_of_length_le (by omega), List.drop_of_length_le (by omega)]
    simp
  | succ k ih =>
    intro i hi
    refine Ev.up ?_
    simp only [G.laws_equalNodes.L1, Int.toNat_natCast, wrap_suc (show i + 1 < 9223372036854775808 by omega)]
    refine Ev.ct (by simp; omega) (Ev.chk (by omega) (Ev.chk (by omega) ?_))
    have ha : a.getD i default ∈ a := by rw [getD_of_lt _ (by omega : i < a.length)]; exact List.getElem_mem _
    have hb' : b.getD i default ∈ b := by rw [getD_of_lt _ (by omega : i < b.length)]; exact List.getElem_mem _
    refine Ev.bind (hs _ _ ha hb') ?_
    rw [drop_of_lt (default : NodeT) (by omega : i < a.length), drop_of_lt (default : NodeT) (by omega : i < b.length)]
    refine Ev.ite (fun e => (ih (i + 1) (by omega)).eq ?_) (fun e => Ev.ret' ?_)
    · have e : a.getD i default = b.getD i default := by simpa using e
      rw [e]; simp
    · have e : a.getD i default ≠ b.getD i default := by simpa using e
      symm
      exact decide_eq_false (fun h => e (List.cons.inj h).1)
open Classical in
theorem T.laws_equalNode {B C : Nat} (hB : B ≤ lim) (hC : C ≤ lim) : ∀ {D E : Nat} {a b : NodeT}, Fine B D a → Fine C E b → Ev (fun f => G.laws_equalNode f a b) (decide (a = b))
  | 0, _, _, _, h, _ => h.elim
  | _ + 1, 0, _, _, _, h => h.elim
  | D + 1, E + 1, a, b, ha, hb => by
    have hka := ha.kids
    have hna := ha.names
    have hl : lim < big := by decide
    refine Ev.up ?_
    simp only [G.laws_equalNode]
    by_cases h1 : a.Kind = b.Kind
    · refine Ev.ct (by simpa using h1) ?_
      by_cases h2 : a.Num = b.Num
      · refine Ev.ct (by simpa using h2) ?_
        by_cases h3 : a.Text = b.Text
        · refine Ev.ct (by simpa using h3) (Ev.bind (T.laws_equalTexts (by omega)) ?_)
          by_cases h4 : a.Names = b.Names
          · refine Ev.ct (by simpa using h4) ?_
            by_cases h5 : a.Kids.length = b.Kids.length
            · have hk : Ev (fun f => G.laws_equalNodes f a.Kids b.Kids) (decide (a.Kids = b.Kids)) := by
                refine Ev.up ?_
                simp only [G.laws_equalNodes]
                refine Ev.cf (by rw [h5]; simp) ?_
                exact T.laws_equalNodes.L1 h5 (by omega) (fun x y hx hy => T.laws_equalNode hB hC (ha.2.2.2.2.2 x hx) (hb.2.2.2.2.2 y hy)) a.Kids.length 0 (by omega)
              refine Ev.bind hk (Ev.ret' ?_)
              apply decide_eq_decide.2
              constructor
              · intro h
                cases a; cases b
                simp only at h h1 h2 h3 h4
                rw [h, h1, h2, h3, h4]
              · intro h; rw [h]
            · have hk : Ev (fun f => G.laws_equalNodes f a.Kids b.Kids) false := by
                refine Ev.up ?_
                simp only [G.laws_equalNodes]
                exact Ev.ct (by simp; omega) (Ev.ret _)
              exact Ev.bind hk (Ev.ret' (decide_eq_false (fun h => h5 (by rw [h]))).symm)
          · exact Ev.cf (by simpa using h4) (Ev.ret' (decide_eq_false (fun h => h4 (by rw [h]))).symm)
        · exact Ev.cf (by simpa using h3) (Ev.ret' (decide_eq_false (fun h => h3 (by rw [h]))).symm)
      · exact Ev.cf (by simpa using h2) (Ev.ret' (decide_eq_false (fun h => h2 (by rw [h]))).symm)
    · exact Ev.cf (by simpa using h1) (Ev.ret' (decide_eq_false (fun h => h1 (by rw [h]))).symm)
end Go.Ab
end
section
namespace Go.Ab
open Go
theorem NO.fine {n : NodeT} {o : OpT} (h : NO n o) : ∃ E, Fine 60 E n ∧ FineO 60 E o := by
  obtain ⟨⟨E, hn⟩, ⟨F, ho⟩⟩ := h
  exact ⟨max E F, hn.mono (Nat.le_refl _) (Nat.le_max_left _ _), ho.path, ho.from_, ho.val.mono (Nat.le_refl _) (Nat.le_max_right _ _)⟩
theorem fine_val {n : NodeT} (h : Val n = true) : Fine 60 5 n := (val_fine h).mono (by omega) (Nat.le_refl _)
structure Applied (n : NodeT) (o : OpT) (m : NodeT) : Prop where
  vn : Val n = true
  vo : OpV o = true
  app : applyN n o = some m
  vm : Val m = true
theorem applied {n m : NodeT} {o : OpT} (h : ApplyM n o = some m) : Applied n o m := by
  unfold ApplyM at h
  split at h
  · rename_i hv
    simp only [Bool.and_eq_true] at hv
    obtain ⟨h1, h2⟩ := Option.filter_eq_some_iff.1 h
    exact ⟨hv.1, hv.2, h1, h2⟩
  · cases h
theorem applyM_of {n : NodeT} {o : OpT} (hn : Val n = true) (ho : OpV o = true) : ApplyM n o = (applyN n o).filter Val := by unfold ApplyM; rw [hn, ho]; rfl
theorem OpT.eta (o : OpT) : OpT.mk o.Kind o.Path o.From o.Value = o := rfl
theorem opV_fine {o : OpT} (h : OpV o = true) : FineO 12 5 o := by
  have f := opV_facts h
  exact ⟨pp_fine f.path, pp_fine f.from_, val_fine f.val⟩
open Classical in
noncomputable def runO : NodeT → List OpT → Option NodeT
  | n, [] => some n
  | n, o :: r => match ApplyM n o with
    | some m => runO m r
    | none => none
noncomputable def failN : NodeT → List OpT → Nat
  | _, [] => 0
  | n, o :: r => match ApplyM n o with
    | some m => failN m r + 1
    | none => 0
def PatV (l : List OpT) : Bool := l.all OpV && decide (l.length ≤ 12)
noncomputable def PatchM (n : NodeT) (l : List OpT) : Option NodeT := if Val n && PatV l then runO n l else none
theorem runO_val {l : List OpT} : ∀ {n m : NodeT}, Val n = true → runO n l = some m → Val m = true := by
  induction l with
  | nil => intro n m hn h; cases h; exact hn
  | cons o r ih =>
    intro n m hn h
    rw [runO] at h
    cases ha : ApplyM n o with
    | none => rw [ha] at h; cases h
    | some k => rw [ha] at h; exact ih (applied ha).vm h
theorem failN_all {l : List OpT} : ∀ {n : NodeT}, failN n l = l.length ↔ (runO n l).isSome = true := by
  induction l with
  | nil => intro n; simp [failN, runO]
  | cons o l ih =>
    intro n
    rw [failN, runO]
    cases ApplyM n o with
    | none => simp
    | some k => simp only [List.length_cons, Nat.add_right_cancel_iff]; exact ih
theorem patV_all {l : List OpT} (h : PatV l = true) : (∀ o, o ∈ l → OpV o = true) ∧ l.length ≤ 12 := by
  unfold PatV at h
  simp only [Bool.and_eq_true, decide_eq_true_eq, List.all_eq_true] at h
  exact h
theorem patchM_some {n m : NodeT} {l : List OpT} (h : PatchM n l = some m) : Val n = true ∧ PatV l = true ∧ runO n l = some m ∧ Val m = true := by
  unfold PatchM at h
  split at h
  · rename_i hv
    simp only [Bool.and_eq_true] at hv
    exact ⟨hv.1, hv.2, h, runO_val hv.1 h⟩
  · cases h
def FineL (l : List OpT) : Prop := l.length ≤ 1000 ∧ ∀ o, o ∈ l → FineOE o
theorem getD_mem {α : Type} {l : List α} {i : Nat} (d : α) (h : i < l.length) : l.getD i d ∈ l := by rw [getD_of_lt d h]; exact List.getElem_mem h
theorem T.impl_arePatchOps.L1 {l : List OpT} (h : FineL l) : ∀ (k i : Nat), i + k = l.length → Ev (fun f => G.impl_arePatchOps.L1 f l i) ((l.drop i).all OpV) := by
  obtain ⟨hl, ho⟩ := h
  intro k
  induction k with
  | zero =>
    intro i hi
    refine Ev.up ?_
    simp only [G.impl_arePatchOps.L1]
    refine Ev.cf (by simp; omega) (Ev.ret' ?_)
    rw [List.drop_of_length_le (by omega)]; rfl
  | succ k ih =>
    intro i hi
    have hlt : i < l.length := by omega
    refine Ev.up ?_
    simp only [G.impl_arePatchOps.L1, Int.toNat_natCast, OpT.eta, wrap_suc (show i + 1 < 9223372036854775808 by omega)]
    obtain ⟨E, hf⟩ := ho _ (getD_mem default hlt)
    refine Ev.ct (by simpa using hlt) (Ev.chk (by omega) (Ev.bind (T.impl_isOp lim60 hf) ?_))
    rw [drop_of_lt (default : OpT) hlt, List.all_cons]
    refine Ev.ite (fun e => ?_) (fun e => ?_)
    · rw [e, Bool.true_and]; exact ih (i + 1) (by omega)
    · rw [e, Bool.false_and]; exact Ev.ret _
theorem T.impl_arePatchOps {l : List OpT} (h : FineL l) : Ev (fun f => G.impl_arePatchOps f l) (PatV l) := by
  refine Ev.up ?_
  simp only [G.impl_arePatchOps]
  have hL := T.impl_arePatchOps.L1 h l.length 0 (by omega)
  unfold PatV
  refine Ev.ite (fun e => Ev.ret' ?_) (fun e => ?_)
  · have : ¬ l.length ≤ 12 := by simp at e; omega
    simp [this]
  · have : l.length ≤ 12 := by simp at e; omega
    simp only [this, decide_true, Bool.and_true]
    exact hL
theorem T.spec_validPatch.L1 {l : List OpT} (h : FineL l) : ∀ (k i : Nat), i + k = l.length → Ev (fun f => G.spec_validPatch.L1 f l i) ((l.drop i).all OpV && decide (l.length ≤ 12)) := by
  obtain ⟨hl, ho⟩ := h
  intro k
  induction k with
  | zero =>
    intro i hi
    refine Ev.up ?_
    simp only [G.spec_validPatch.L1]
    refine Ev.cf (by simp; omega) (Ev.ret' ?_)
    rw [List.drop_of_length_le (by omega), List.all_nil, Bool.true_and]
    simp; omega
  | succ k ih =>
    intro i hi
    have hlt : i < l.length := by omega
    refine Ev.up ?_
    simp only [G.spec_validPatch.L1, Int.toNat_natCast, OpT.eta, wrap_suc (show i + 1 < 9223372036854775808 by omega)]
    obtain ⟨E, hf⟩ := ho _ (getD_mem default hlt)
    refine Ev.ct (by simpa using hlt) (Ev.chk (by omega) (Ev.bind (T.spec_validOp lim60 hf) ?_))
    rw [drop_of_lt (default : OpT) hlt, List.all_cons]
    refine Ev.ite (fun e => ?_) (fun e => ?_)
    · rw [e, Bool.true_and]; exact ih (i + 1) (by omega)
    · rw [e, Bool.false_and]; exact Ev.ret _
theorem T.spec_validPatch {l : List OpT} (h : FineL l) : Ev (fun f => G.spec_validPatch f l) (PatV l) := by
  refine Ev.up ?_
  simp only [G.spec_validPatch]
  exact T.spec_validPatch.L1 h l.length 0 (by omega)
noncomputable def runR (N i : Nat) (n : NodeT) (l : List OpT) : NodeT × Int :=
  match runO n l with
  | some m => (m, ((N : Nat) : Int))
  | none => (noNode, ((i + failN n l : Nat) : Int))
theorem T.impl_runPatch.L1 {l : List OpT} (h : PatV l = true) : ∀ (k i : Nat) (n : NodeT), i + k = l.length → Val n = true →
    Ev (fun f => G.impl_runPatch.L1 f l i n.Kind n.Num n.Text n.Names n.Kids) (runR l.length i n (l.drop i)) := by
  obtain ⟨ho, hl⟩ := patV_all h
  intro k
  induction k with
  | zero =>
    intro i n hi hn
    refine Ev.up ?_
    simp only [G.impl_runPatch.L1, NodeT.eta]
    refine Ev.cf (by simp; omega) (Ev.ret' ?_)
    rw [List.drop_of_length_le (by omega)]; rfl
  | succ k ih =>
    intro i n hi hn
    have hlt : i < l.length := by omega
    refine Ev.up ?_
    simp only [G.impl_runPatch.L1, Int.toNat_natCast, OpT.eta, NodeT.eta, wrap_suc (show i + 1 < 9223372036854775808 by omega)]
    have hv := ho _ (getD_mem default hlt)
    have hA := T.impl_ApplyOp hb14 (val_fine hn) (opV_fine hv)
    refine Ev.ct (by simpa using hlt) (Ev.chk (by omega) (Ev.bind hA ?_))
    rw [drop_of_lt (default : OpT) hlt]
    unfold runR
    rw [runO, failN]
    cases ha : ApplyM n (l.getD i default) with
    | none => exact Ev.cf rfl (Ev.ret' rfl)
    | some m =>
      refine Ev.ct rfl ((ih (i + 1) m (by omega) (applied ha).vm).eq ?_)
      unfold runR
      simp only
      cases runO m (l.drop (i + 1)) with
      | some k => rfl
      | none =>
        refine congrArg (Prod.mk noNode) ?_
        show ((i + 1 + failN m (l.drop (i + 1)) : Nat) : Int) = ((i + (failN m (l.drop (i + 1)) + 1) : Nat) : Int)
        omega
theorem T.impl_runPatch {n : NodeT} {l : List OpT} (hn : Val n = true) (h : PatV l = true) : Ev (fun f => G.impl_runPatch f n l) (runR l.length 0 n l) := by
  refine Ev.up ?_
  simp only [G.impl_runPatch]
  exact Ev.bind (T.impl_copyNode lim12 (val_fine hn)) (T.impl_runPatch.L1 h l.length 0 n (by omega) hn)
theorem T.impl_ApplyPatch {B E : Nat} {n : NodeT} {l : List OpT} (hB : B ≤ lim) (hn : Fine B E n) (hl : FineL l) : Ev (fun f => G.impl_ApplyPatch f n l) (pairO (PatchM n l)) := by
  refine Ev.up ?_
  simp only [G.impl_ApplyPatch]
  unfold PatchM
  refine Ev.bind (T.impl_ValidNode hB hn) (Ev.ite (fun e1 => ?_) (fun e1 => Ev.ret' (by rw [e1]; rfl)))
  refine Ev.bind (T.impl_arePatchOps hl) (Ev.ite (fun e2 => ?_) (fun e2 => Ev.ret' (by rw [e1, e2]; rfl)))
  refine Ev.bind (T.impl_runPatch e1 e2) (Ev.ret' ?_)
  rw [e1, e2, if_pos (by rfl)]
  unfold runR
  cases hr : runO n l with
  | some m => simp [pairO]
  | none =>
    have h1 : ¬ failN n l = l.length := fun e => by have := failN_all.1 e; rw [hr] at this; cases this
    simp only [Nat.zero_add, pairO]
    rw [ilen]
    simp [h1]
theorem checkedOpM {n : NodeT} {o : OpT} (hn : Val n = true) (ho : OpV o = true) : Ev (fun f => G.spec_checkedOp f n o) (pairO (ApplyM n o)) := by
  rw [applyM_of hn ho]; exact T.spec_checkedOp hn (opV_facts ho)
theorem T.spec_ApplyPatch.L1 {l : List OpT} (h : PatV l = true) : ∀ (k i : Nat) (n : NodeT), i + k = l.length → Val n = true →
    Ev (fun f => G.spec_ApplyPatch.L1 f l i n.Kind n.Num n.Text n.Names n.Kids) (pairO (runO n (l.drop i))) := by
  obtain ⟨ho, hl⟩ := patV_all h
  intro k
  induction k with
  | zero =>
    intro i n hi hn
    refine Ev.up ?_
    simp only [G.spec_ApplyPatch.L1, NodeT.eta]
    refine Ev.cf (by simp; omega) (Ev.ret' ?_)
    rw [List.drop_of_length_le (by omega)]; rfl
  | succ k ih =>
    intro i n hi hn
    have hlt : i < l.length := by omega
    refine Ev.up ?_
    simp only [G.spec_ApplyPatch.L1, Int.toNat_natCast, OpT.eta, NodeT.eta, wrap_suc (show i + 1 < 9223372036854775808 by omega)]
    have hv := ho _ (getD_mem default hlt)
    refine Ev.ct (by simpa using hlt) (Ev.chk (by omega) (Ev.bind (checkedOpM hn hv) ?_))
    rw [drop_of_lt (default : OpT) hlt, runO]
    cases ha : ApplyM n (l.getD i default) with
    | none => exact Ev.cf rfl (Ev.ret' rfl)
    | some m => exact Ev.ct rfl (ih (i + 1) m (by omega) (applied ha).vm)
theorem T.spec_ApplyPatch {B E : Nat} {n : NodeT} {l : List OpT} (hB : B ≤ lim) (hn : Fine B E n) (hl : FineL l) : Ev (fun f => G.spec_ApplyPatch f n l) (pairO (PatchM n l)) := by
  refine Ev.up ?_
  simp only [G.spec_ApplyPatch]
  unfold PatchM
  refine Ev.bind (T.spec_validNode hB hn) (Ev.ite (fun e1 => ?_) (fun e1 => Ev.ret' (by rw [e1]; rfl)))
  refine Ev.bind (T.spec_validPatch hl) (Ev.ite (fun e2 => ?_) (fun e2 => Ev.ret' (by rw [e1, e2]; rfl)))
  rw [e1, e2, if_pos (by rfl)]
  exact Ev.bind (T.spec_copyNode lim12 (val_fine e1)) (T.spec_ApplyPatch.L1 e2 l.length 0 n (by omega) e1)
end Go.Ab
end
section
namespace Go.Ab
open Go
set_option maxRecDepth 100000
end Go.Ab
end
section
namespace Go.Ab
open Go
set_option maxRecDepth 100000
theorem opT_eq {a b : OpT} (h1 : a.Kind = b.Kind) (h2 : a.Path = b.Path) (h3 : a.From = b.From) (h4 : a.Value = b.Value) : a = b := by
  cases a; cases b; simp only at h1 h2 h3 h4; rw [h1, h2, h3, h4]
theorem FineP.big {B : Nat} {p : List Txt} (hB : B ≤ 1000) (h : FineP B p) : p.length < Ab.big := by have := h.1; unfold Ab.big; omega
open Classical in
theorem T.laws_equalOps.L1 {a b : List OpT} (hl : a.length = b.length) (ha : FineL a) (hb : FineL b) : ∀ (k i : Nat), i + k = a.length → Ev (fun f => G.laws_equalOps.L1 f a b i) (decide (a.drop i = b.drop i)) := by
  have ha1 : a.length ≤ 1000 := ha.1
  intro k
  induction k with
  | zero =>
    intro i hi
    refine Ev.up ?_
    simp only [G.laws_equalOps.L1]
    refine Ev.cf (by simp; omega) (Ev.ret' ?_)
    rw [List.drop_of_length_le (by omega), List.drop_of_length_le (by omega)]
    simp
  | succ k ih =>
    intro i hi
    refine Ev.up ?_
    simp only [G.laws_equalOps.L1, Int.toNat_natCast, wrap_suc (show i + 1 < 9223372036854775808 by omega)]
    obtain ⟨E, hx⟩ := ha.2 _ (getD_mem default (by omega : i < a.length))
    obtain ⟨F, hy⟩ := hb.2 _ (getD_mem default (by omega : i < b.length))
    rw [drop_of_lt (default : OpT) (by omega : i < a.length), drop_of_lt (default : OpT) (by omega : i < b.length)]
    refine Ev.ct (by simp; omega) (Ev.chk (by omega) (Ev.chk (by omega) ?_))
    have no : a.getD i default ≠ b.getD i default → (decide (a.getD i default :: a.drop (i + 1) = b.getD i default :: b.drop (i + 1))) = false := fun h => decide_eq_false (fun e => h (List.cons.inj e).1)
    by_cases h1 : (a.getD i default).Kind = (b.getD i default).Kind
    · refine Ev.cf (by simpa using h1) (Ev.chk (by omega) (Ev.chk (by omega) (Ev.bind (T.laws_equalTexts (hx.path.big (by omega))) ?_)))
      by_cases h2 : (a.getD i default).Path = (b.getD i default).Path
      · refine Ev.ct (by simpa using h2) (Ev.chk (by omega) (Ev.chk (by omega) (Ev.bind (T.laws_equalTexts (hx.from_.big (by omega))) ?_)))
        by_cases h3 : (a.getD i default).From = (b.getD i default).From
        · refine Ev.ct (by simpa using h3) (Ev.chk (by omega) (Ev.chk (by omega) (Ev.bind (T.laws_equalNode lim60 lim60 hx.val hy.val) ?_)))
          by_cases h4 : (a.getD i default).Value = (b.getD i default).Value
          · refine Ev.ct (by simpa using h4) ((ih (i + 1) (by omega)).eq ?_)
            rw [opT_eq h1 h2 h3 h4]
            simp
          · exact Ev.cf (by simpa using h4) (Ev.ret' (no (fun e => h4 (by rw [e]))).symm)
        · exact Ev.cf (by simpa using h3) (Ev.ret' (no (fun e => h3 (by rw [e]))).symm)
      · exact Ev.cf (by simpa using h2) (Ev.ret' (no (fun e => h2 (by rw [e]))).symm)
    · exact Ev.ct (by simpa using h1) (Ev.ret' (no (fun e => h1 (by rw [e]))).symm)
open Classical in
theorem T.laws_equalOps {a b : List OpT} (ha : FineL a) (hb : FineL b) : Ev (fun f => G.laws_equalOps f a b) (decide (a = b)) := by
  refine Ev.up ?_
  simp only [G.laws_equalOps]
  by_cases hl : a.length = b.length
  · exact Ev.cf (by rw [hl]; simp) (T.laws_equalOps.L1 hl ha hb a.length 0 (by omega))
  · exact Ev.ct (by simp; omega) (Ev.ret' (decide_eq_false (fun h => hl (by rw [h]))).symm)
theorem equalOps_self {a : List OpT} (ha : FineL a) : Ev (fun f => G.laws_equalOps f a a) true := (T.laws_equalOps ha ha).eq (by simp)
end Go.Ab
end
section
namespace Go.Ab
open Go
set_option maxRecDepth 100000
theorem Asc_cons {x : Txt} {l : List Txt} (h : Asc l = true) (hx : ∀ y, y ∈ l → bl x y = true) : Asc (x :: l) = true := by
  cases l with
  | nil => rfl
  | cons y l => rw [Asc, h, Bool.and_true]; exact hx y (by simp)
theorem asc_ext : ∀ {a b : List Txt}, Asc a = true → Asc b = true → (∀ s, s ∈ a ↔ s ∈ b) → a = b
  | [], [], _, _, _ => rfl
  | [], y :: b, _, _, h => absurd ((h y).2 (by simp)) (by simp)
  | x :: a, [], _, _, h => absurd ((h x).1 (by simp)) (by simp)
  | x :: a, y :: b, ha, hb, h => by
    have e : x = y := by
      rcases List.mem_cons.1 ((h x).1 (by simp)) with e | hx
      · exact e
      · rcases List.mem_cons.1 ((h y).2 (by simp)) with e | hy
        · exact e.symm
        · have h1 := Asc_head hb x hx
          have h2 := Asc_head ha y hy
          rw [bl_asymm h1] at h2; cases h2
    subst e
    rw [asc_ext (Asc_tail ha) (Asc_tail hb) (fun s => ?_)]
    have nx : ∀ {l : List Txt}, Asc (x :: l) = true → x ∉ l := fun hl hx => by have := Asc_head hl x hx; rw [bl_irr] at this; cases this
    constructor
    · intro hs
      rcases List.mem_cons.1 ((h s).1 (List.mem_cons_of_mem _ hs)) with rfl | h'
      · exact absurd hs (nx ha)
      · exact h'
    · intro hs
      rcases List.mem_cons.1 ((h s).2 (List.mem_cons_of_mem _ hs)) with rfl | h'
      · exact absurd hs (nx hb)
      · exact h'
end Go.Ab
end
section
namespace Go.Ab
open Go
set_option maxRecDepth 100000
def lk (n : NodeT) (s : Txt) : Option NodeT := (plc n s).map fun j => n.Kids.getD j default
structure MapN (n : NodeT) : Prop where
  kind : n.Kind = 4
  asc : Asc n.Names = true
  len : n.Kids.length = n.Names.length
theorem mapN_of {n : NodeT} (h : Parts n = true) (hk : n.Kind = 4) : MapN n ∧ n.Names.length ≤ 6 ∧ ∀ s, s ∈ n.Names → s.length ≤ 12 := by
  obtain ⟨_, _, hN, hl, hkl⟩ := parts_map h hk
  exact ⟨⟨hk, nm_asc hN, hkl⟩, hl, fun s hs => pt_len (nm_all hN s hs)⟩
theorem lk_mem {n : NodeT} (h : MapN n) {s : Txt} : (lk n s).isSome = true ↔ s ∈ n.Names := by
  unfold lk
  rw [Option.isSome_map]
  constructor
  · intro hs
    obtain ⟨j, hj⟩ := Option.isSome_iff_exists.1 hs
    obtain ⟨h1, h2, _⟩ := plc_some.1 hj
    rw [hit_map h.kind, beq_iff_eq] at h2
    rw [← h2]
    exact getD_mem default (by rw [← h.len]; exact h1)
  · intro hs
    cases hp : plc n s with
    | some j => rfl
    | none =>
      obtain ⟨i, hi, e⟩ := List.mem_iff_getElem.1 hs
      have := plc_none.1 hp i (by rw [h.len]; exact hi)
      rw [hit_map h.kind, getD_of_lt default hi, e] at this
      simp at this
theorem lk_kid {n x : NodeT} {s : Txt} (h : lk n s = some x) : x ∈ n.Kids := by
  unfold lk at h
  obtain ⟨j, hj, rfl⟩ := Option.map_eq_some_iff.1 h
  exact getD_mem default (plc_lt hj)
theorem lk_none {n : NodeT} (h : MapN n) {s : Txt} : lk n s = none ↔ s ∉ n.Names := by
  rw [← lk_mem h]; cases lk n s <;> simp
structure Acc (n : NodeT) (m : Nat) : Prop where
  map : MapN n
  num : n.Num = 0
  text : n.Text = []
  len : n.Names.length ≤ m
  small : ∀ s, s ∈ n.Names → s.length ≤ 12
theorem Acc.eq {n : NodeT} {m : Nat} (h : Acc n m) : n = NodeT.mk 4 0 [] n.Names n.Kids := by
  obtain ⟨⟨h1, _, _⟩, h2, h3, _, _⟩ := h
  cases n
  simp only at h1 h2 h3
  subst h1; subst h2; subst h3; rfl
theorem asc_drop : ∀ {l : List Txt} (i : Nat), Asc l = true → Asc (l.drop i) = true
  | l, 0, h => by simpa using h
  | [], i + 1, _ => rfl
  | x :: l, i + 1, h => asc_drop (l := l) i (Asc_tail h)
section
variable {F : NodeT → NodeT → NodeT → Option NodeT} {o a b : NodeT}
end
end Go.Ab
end
