/- The law FnTouchesOrder of the package laws answers true for every code of bytes and leaves it as it is: the abstract interpreter of the program, the printed functions and proofs, the laws of the data, the statement (part 4 of the proof). Conditions: none but what the row lists. -/
import Derived.Test.YtffpflffdijmfaaGreatB1
set_option linter.unusedVariables false
set_option linter.unusedSimpArgs false
section
namespace Go.Ab
open Go
set_option maxRecDepth 100000
set_option maxHeartbeats 4000000
set_option linter.unusedVariables false
set_option linter.unusedSimpArgs false
def C.spec_anyRequest : ACode := (.seq (.reg [ zA 3 (.box 10 (.t 1)), zA 4 (.alloc 11 [.c (.lit (.int .i64 0)), .c (.str []), .nsl 1, .nsl 1, .c (.lit (.int .i64 0)), .c (.lit (.int .i64 0)), .c (.str []), .nsl 1, .nsl 5, .nsl 8])] [0, 3, 4]) (.seq (.reg [ zM 6 0, zA 7 (.load true 2 (.t 3)), ⟨none, some 8, .call 23 [.t 6, .t 7]⟩, zA 5 (.alloc 12 [.c (.lit (.int .i64 0)), .c (.str []), .nsl 1, .nsl 1, .c (.lit (.int .i64 0)), .c (.lit (.int .i64 0)), .c (.str []), .nsl 1, .nsl 5, .nsl 8]), zS (.store true 10 (.t 5) (.t 8))] [0, 4, 5]) (.seq (.seq (.reg [ zM 9 0, ⟨none, some 10, .call 22 [.t 9, .k (.c (.lit (.int .i64 30)))]⟩] [0, 4, 5, 10]) (.block 0 (.seq (.reg [ zA 12 (.bin .eql (.t 10) (.k (.c (.lit (.int .i64 0))))), zM 11 12] [0, 4, 5, 10, 11]) (.cond (.t 11) (.reg [ zM 13 0, zA 14 (.bslice 13 1 2 [.lit (.int .i64 0)] [(0, .k (.c (.lit (.int .i64 0)))), (1, .k (.c (.lit (.int .i64 6))))]), ⟨none, some 15, .call 20 [.t 13, .t 14]⟩, zA 16 (.faddr 0 (.t 5)), zS (.store false 1 (.t 16) (.t 15))] [4, 5]) (.seq (.reg [ zA 18 (.bin .eql (.t 10) (.k (.c (.lit (.int .i64 1))))), zM 17 18] [0, 4, 5, 10, 17]) (.cond (.t 17) (.reg [ zM 19 0, ⟨none, some 20, .call 32 [.t 19]⟩, zA 21 (.faddr 1 (.t 5)), zS (.store false 1 (.t 21) (.t 20))] [4, 5]) (.seq (.reg [ zA 23 (.bin .eql (.t 10) (.k (.c (.lit (.int .i64 2))))), zM 22 23] [0, 4, 5, 22]) (.cond (.t 22) (.reg [ zM 24 0, ⟨none, some 25, .call 33 [.t 24]⟩, zA 26 (.faddr 4 (.t 5)), zS (.store true 5 (.t 26) (.t 25))] [4, 5]) .skip)))))))) (.seq (.reg [ zA 27 (.load true 10 (.t 5)), zS (.store true 10 (.t 4) (.t 27))] [4]) .ret))))
theorem K.spec_anyRequest : chkF Go.Proofs.Tryz.prog 21 2 1 C.spec_anyRequest [.cell 4 true 10] = true := by kernel_rfl
def C.spec_drop : ACode := (.seq (.reg [ zA 2 (.box 10 (.t 0)), zA 4 (.alloc 11 [.nsl 7, .c (.lit (.int .i64 0))])] [1, 2, 4]) (.seq (.reg [ zA 8 (.bslice 12 7 0 [.str [], .lit (.int .i64 0), .lit (.int .i64 0), .lit (.int .i64 0), .str [], .sl 1 [], .sl 5 []] []), zM 5 8] [1, 2, 4, 5]) (.seq (.reg [ zA 9 (.load true 2 (.t 2)), ⟨none, some 10, .call 67 [.t 9]⟩, zA 11 (.field false 0 1 (.t 10)), zM 6 11] [1, 2, 4, 5, 6]) (.seq (.seq (.reg [ zA 7 (.mv (.k (.c (.lit (.int .i64 0)))))] [1, 2, 4, 5, 6, 7]) (.block 0 (.loop (.seq (.seq (.reg [ zM 12 7, zM 13 6, zA 14 (.len (.t 13)), zA 15 (.bin .lss (.t 12) (.t 14))] [1, 2, 4, 5, 6, 7, 15]) (.cond (.t 15) .skip (.exit 0))) (.seq (.block 1 (.seq (.reg [ zM 18 6, zM 19 7, zA 20 (.iaddr 7 (.t 18) (.t 19)), zA 21 (.faddr 0 (.t 20)), zA 22 (.load false 1 (.t 21)), zM 23 1, zA 24 (.bin .neq (.t 22) (.t 23))] [1, 2, 4, 5, 6, 7, 24]) (.cond (.t 24) (.reg [ zM 25 5, zM 26 6, zM 27 7, zA 28 (.iaddr 7 (.t 26) (.t 27)), zA 29 (.load true 7 (.t 28)), zA 30 (.bslice 13 7 1 [.str [], .lit (.int .i64 0), .lit (.int .i64 0), .lit (.int .i64 0), .str [], .sl 1 [], .sl 5 []] [(0, .t 29)]), zA 31 (.append 14 7 104 (.t 25) (.t 30)), zM 5 31] [1, 2, 4, 5, 6, 7]) .skip))) (.reg [ zM 16 7, zA 17 (.bin .add (.t 16) (.k (.c (.lit (.int .i64 1))))), zM 7 17] [1, 2, 4, 5, 6, 7])))))) (.seq (.reg [ zM 32 5, zA 33 (.faddr 1 (.t 2)), zA 34 (.load false 1 (.t 33)), zA 35 (.bin .add (.t 34) (.k (.c (.lit (.int .i64 1))))), zA 36 (.build [.nsl 7, .c (.lit (.int .i64 0))] [(0, 1, .t 32), (1, 1, .t 35)]), zS (.store true 2 (.t 4) (.t 36))] [4]) .ret)))))
theorem K.spec_drop_r : chkF Go.Proofs.Tryz.prog 93 2 1 C.spec_drop [.cell 4 true 2] = true := by kernel_rfl
def C.spec_DropItem : ACode := (.seq (.reg [ zA 2 (.box 10 (.t 0)), zA 4 (.alloc 11 [.nsl 7, .c (.lit (.int .i64 0))]), zA 5 (.mv (.k (.c (.lit (.bool false)))))] [1, 2, 4]) (.seq (.seq (.reg [ zA 6 (.load true 2 (.t 2)), ⟨none, some 7, .call 65 [.t 6]⟩, zA 8 (.not (.t 7)), zM 9 8, zG 9 false 10 (.load true 2 (.t 2)), zG 9 false 11 (.mv (.t 1)), ⟨(some (9, false)), some 12, .call 66 [.t 10, .t 11]⟩, zG 9 false 13 (.bin .lss (.t 12) (.k (.c (.lit (.int .i64 0))))), zA 14 (.pick (.t 9) (.k (.c (.lit (.bool true)))) (.t 13)), zM 15 14, zG 15 false 16 (.faddr 1 (.t 2)), zG 15 false 17 (.load false 1 (.t 16)), zG 15 false 18 (.bin .eql (.t 17) (.k (.c (.lit (.int .i64 999))))), zA 19 (.pick (.t 15) (.k (.c (.lit (.bool true)))) (.t 18))] [1, 2, 4, 19]) (.cond (.t 19) (.seq (.reg [ zA 20 (.build [.nsl 7, .c (.lit (.int .i64 0))] []), zS (.store true 2 (.t 4) (.t 20)), zA 5 (.mv (.k (.c (.lit (.bool false)))))] [4, 5]) .ret) .skip)) (.seq (.reg [ zA 21 (.load true 2 (.t 2)), zM 22 1, ⟨none, some 23, .call 93 [.t 21, .t 22]⟩, zS (.store true 2 (.t 4) (.t 23)), zA 5 (.mv (.k (.c (.lit (.bool true)))))] [4, 5]) .ret)))
theorem K.spec_DropItem_r : chkF Go.Proofs.Tryz.prog 62 2 1 C.spec_DropItem [.cell 4 true 2, .tmp 5] = true := by kernel_rfl
def C.spec_put : ACode := (.seq (.reg [ zA 3 (.box 10 (.t 0)), zA 5 (.box 11 (.t 2)), zA 6 (.alloc 12 [.nsl 7, .c (.lit (.int .i64 0))])] [1, 3, 5, 6]) (.seq (.reg [ zA 12 (.bslice 13 7 0 [.str [], .lit (.int .i64 0), .lit (.int .i64 0), .lit (.int .i64 0), .str [], .sl 1 [], .sl 5 []] []), zM 7 12] [1, 3, 5, 6, 7]) (.seq (.regD [ (zM 13 1, []), (zA 14 (.faddr 1 (.t 3)), []), (zA 15 (.load false 1 (.t 14)), [1]), (zA 16 (.bin .add (.t 15) (.k (.c (.lit (.int .i64 1))))), [1, 2]), (zA 17 (.load true 5 (.t 5)), []), (⟨none, some 18, .call 64 [.t 17]⟩, [4]), (zA 19 (.build [.c (.str []), .c (.lit (.int .i64 0)), .c (.lit (.int .i64 0)), .c (.lit (.int .i64 0)), .c (.str []), .nsl 1, .nsl 5] [(0, 1, .t 13), (1, 1, .t 16), (2, 5, .t 18)]), [0, 1, 2, 3, 4, 5]), (zA 8 (.alloc 14 [.c (.str []), .c (.lit (.int .i64 0)), .c (.lit (.int .i64 0)), .c (.lit (.int .i64 0)), .c (.str []), .nsl 1, .nsl 5]), []), (zS (.store true 7 (.t 8) (.t 19)), [0, 1, 2, 3, 4, 5, 6, 7])] [1, 3, 6, 7, 8]) (.seq (.reg [ zA 20 (.load true 2 (.t 3)), ⟨none, some 21, .call 67 [.t 20]⟩, zA 22 (.field false 0 1 (.t 21)), zM 9 22] [1, 3, 6, 7, 8, 9]) (.seq (.reg [ zA 10 (.mv (.k (.c (.lit (.bool false)))))] [1, 3, 6, 7, 8, 9, 10]) (.seq (.seq (.reg [ zA 11 (.mv (.k (.c (.lit (.int .i64 0)))))] [1, 3, 6, 7, 8, 9, 10, 11]) (.block 0 (.loop (.seq (.seq (.reg [ zM 23 11, zM 24 9, zA 25 (.len (.t 24)), zA 26 (.bin .lss (.t 23) (.t 25))] [1, 3, 6, 7, 8, 9, 10, 11, 26]) (.cond (.t 26) .skip (.exit 0))) (.seq (.block 1 (.cut (.seq (.reg [ zM 29 10, zA 30 (.not (.t 29)), zM 31 30, zG 31 true 32 (.mv (.t 9)), zG 31 true 33 (.mv (.t 11)), zG 31 true 34 (.iaddr 7 (.t 32) (.t 33)), zG 31 true 35 (.faddr 0 (.t 34)), zG 31 true 36 (.load false 1 (.t 35)), zG 31 true 37 (.mv (.t 1)), zG 31 true 38 (.bin .geq (.t 36) (.t 37)), zA 39 (.pick (.t 31) (.t 38) (.k (.c (.lit (.bool false)))))] [1, 3, 6, 7, 8, 9, 10, 11, 39]) (.cond (.t 39) (.seq (.reg [ zM 40 7, zA 41 (.load true 7 (.t 8)), zA 42 (.bslice 15 7 1 [.str [], .lit (.int .i64 0), .lit (.int .i64 0), .lit (.int .i64 0), .str [], .sl 1 [], .sl 5 []] [(0, .t 41)]), zA 43 (.append 16 7 104 (.t 40) (.t 42)), zM 7 43] [1, 3, 6, 7, 8, 9, 11]) (.reg [ zA 10 (.mv (.k (.c (.lit (.bool true)))))] [1, 3, 6, 7, 8, 9, 10, 11])) .skip)) (.seq (.reg [ zM 44 9, zM 45 11, zA 46 (.iaddr 7 (.t 44) (.t 45)), zA 47 (.faddr 0 (.t 46)), zA 48 (.load false 1 (.t 47)), zM 49 1, zA 50 (.bin .neq (.t 48) (.t 49))] [1, 3, 6, 7, 8, 9, 10, 11, 50]) (.cond (.t 50) (.reg [ zM 51 7, zM 52 9, zM 53 11, zA 54 (.iaddr 7 (.t 52) (.t 53)), zA 55 (.load true 7 (.t 54)), zA 56 (.bslice 17 7 1 [.str [], .lit (.int .i64 0), .lit (.int .i64 0), .lit (.int .i64 0), .str [], .sl 1 [], .sl 5 []] [(0, .t 55)]), zA 57 (.append 18 7 104 (.t 51) (.t 56)), zM 7 57] [1, 3, 6, 7, 8, 9, 10, 11]) .skip)))) (.reg [ zM 27 11, zA 28 (.bin .add (.t 27) (.k (.c (.lit (.int .i64 1))))), zM 11 28] [1, 3, 6, 7, 8, 9, 10, 11])))))) (.seq (.seq (.reg [ zM 58 10, zA 59 (.not (.t 58))] [3, 6, 7, 8, 59]) (.cond (.t 59) (.reg [ zM 60 7, zA 61 (.load true 7 (.t 8)), zA 62 (.bslice 19 7 1 [.str [], .lit (.int .i64 0), .lit (.int .i64 0), .lit (.int .i64 0), .str [], .sl 1 [], .sl 5 []] [(0, .t 61)]), zA 63 (.append 20 7 104 (.t 60) (.t 62)), zM 7 63] [3, 6, 7]) .skip)) (.seq (.reg [ zM 64 7, zA 65 (.faddr 1 (.t 3)), zA 66 (.load false 1 (.t 65)), zA 67 (.bin .add (.t 66) (.k (.c (.lit (.int .i64 1))))), zA 68 (.build [.nsl 7, .c (.lit (.int .i64 0))] [(0, 1, .t 64), (1, 1, .t 67)]), zS (.store true 2 (.t 6) (.t 68))] [6]) .ret))))))))
theorem K.spec_put_r : chkF Go.Proofs.Tryz.prog 92 3 1 C.spec_put [.cell 6 true 2] = true := by kernel_rfl
def C.spec_PutItem : ACode := (.seq (.reg [ zA 3 (.box 10 (.t 0)), zA 5 (.box 11 (.t 2)), zA 6 (.alloc 12 [.nsl 7, .c (.lit (.int .i64 0))]), zA 7 (.mv (.k (.c (.lit (.bool false)))))] [1, 3, 5, 6]) (.seq (.seq (.reg [ zA 9 (.load true 2 (.t 3)), ⟨none, some 10, .call 65 [.t 9]⟩, zA 11 (.not (.t 10)), zM 12 11, zG 12 false 13 (.mv (.t 1)), ⟨(some (12, false)), some 14, .call 53 [.t 13]⟩, zG 12 false 15 (.not (.t 14)), zA 16 (.pick (.t 12) (.k (.c (.lit (.bool true)))) (.t 15)), zM 17 16, zG 17 false 18 (.load true 5 (.t 5)), ⟨(some (17, false)), some 19, .call 55 [.t 18]⟩, zG 17 false 20 (.not (.t 19)), zA 21 (.pick (.t 17) (.k (.c (.lit (.bool true)))) (.t 20))] [1, 3, 5, 6, 21]) (.cond (.t 21) (.seq (.reg [ zA 22 (.build [.nsl 7, .c (.lit (.int .i64 0))] []), zS (.store true 2 (.t 6) (.t 22)), zA 7 (.mv (.k (.c (.lit (.bool false)))))] [6, 7]) .ret) .skip)) (.seq (.reg [ zA 23 (.load true 2 (.t 3)), zM 24 1, zA 25 (.load true 5 (.t 5)), ⟨none, some 26, .call 92 [.t 23, .t 24, .t 25]⟩, zA 8 (.alloc 13 [.nsl 7, .c (.lit (.int .i64 0))]), zS (.store true 2 (.t 8) (.t 26))] [6, 8]) (.seq (.seq (.reg [ zA 27 (.load true 2 (.t 8)), ⟨none, some 28, .call 65 [.t 27]⟩, zA 29 (.not (.t 28))] [6, 8, 29]) (.cond (.t 29) (.seq (.reg [ zA 30 (.build [.nsl 7, .c (.lit (.int .i64 0))] []), zS (.store true 2 (.t 6) (.t 30)), zA 7 (.mv (.k (.c (.lit (.bool false)))))] [6, 7]) .ret) .skip)) (.seq (.reg [ zA 31 (.load true 2 (.t 8)), zS (.store true 2 (.t 6) (.t 31)), zA 7 (.mv (.k (.c (.lit (.bool true)))))] [6, 7]) .ret)))))
theorem K.spec_PutItem_r : chkF Go.Proofs.Tryz.prog 60 3 1 C.spec_PutItem [.cell 6 true 2, .tmp 7] = true := by kernel_rfl
def C.spec_someStore : ACode := (.seq (.reg [ zA 2 (.alloc 10 [.nsl 7, .c (.lit (.int .i64 0))])] [0, 2]) (.seq (.reg [ zA 7 (.bslice 11 7 0 [.str [], .lit (.int .i64 0), .lit (.int .i64 0), .lit (.int .i64 0), .str [], .sl 1 [], .sl 5 []] []), zA 8 (.build [.nsl 7, .c (.lit (.int .i64 0))] [(0, 1, .t 7)]), zA 3 (.alloc 12 [.nsl 7, .c (.lit (.int .i64 0))]), zS (.store true 2 (.t 3) (.t 8))] [0, 2, 3]) (.seq (.seq (.reg [ zM 9 0, zA 10 (.bslice 13 1 6 [.lit (.int .i64 0)] [(0, .k (.c (.lit (.int .i64 3)))), (1, .k (.c (.lit (.int .i64 4)))), (2, .k (.c (.lit (.int .i64 2)))), (3, .k (.c (.lit (.int .i64 5)))), (4, .k (.c (.lit (.int .i64 0)))), (5, .k (.c (.lit (.int .i64 12))))]), ⟨none, some 11, .call 20 [.t 9, .t 10]⟩, zM 4 11] [0, 2, 3, 4]) (.block 0 (.loop (.seq (.seq (.reg [ zM 12 4, zA 13 (.bin .gtr (.t 12) (.k (.c (.lit (.int .i64 0)))))] [0, 2, 3, 4, 13]) (.cond (.t 13) .skip (.exit 0))) (.seq (.block 1 (.seq (.regD [ (zA 17 (.load true 2 (.t 3)), []), (zM 18 0, []), (⟨none, some 19, .call 61 [.t 18]⟩, [1]), (zM 20 0, []), (⟨none, some 21, .call 38 [.t 20]⟩, [1, 2, 3]), (⟨none, some 22, .call 60 [.t 17, .t 19, .t 21]⟩, [0, 1, 2, 3, 4]), (zM 16 22, [0, 1, 2, 3, 4, 5]), (zA 23 (.extract (.t 16) 0), [0, 1, 2, 3, 4, 5, 6]), (zA 24 (.extract (.t 16) 1), [0, 1, 2, 3, 4, 5, 6]), (zA 5 (.alloc 14 [.nsl 7, .c (.lit (.int .i64 0))]), []), (zS (.store true 2 (.t 5) (.t 23)), [0, 1, 2, 3, 4, 5, 6, 7, 9]), (zM 6 24, [0, 1, 2, 3, 4, 5, 6, 7, 8, 9, 10])] [0, 2, 3, 4, 5, 6]) (.cut (.seq (.reg [ zM 25 0, ⟨none, some 26, .call 22 [.t 25, .k (.c (.lit (.int .i64 8)))]⟩, zA 27 (.bin .eql (.t 26) (.k (.c (.lit (.int .i64 0)))))] [0, 2, 3, 4, 5, 6, 27]) (.cond (.t 27) (.regD [ (zA 29 (.load true 2 (.t 3)), []), (zM 30 0, []), (⟨none, some 31, .call 61 [.t 30]⟩, [1]), (⟨none, some 32, .call 62 [.t 29, .t 31]⟩, [0, 1, 2]), (zM 28 32, [0, 1, 2, 3]), (zA 33 (.extract (.t 28) 0), [0, 1, 2, 3, 4]), (zA 34 (.extract (.t 28) 1), [0, 1, 2, 3, 4]), (zS (.store true 2 (.t 5) (.t 33)), [0, 1, 2, 3, 4, 5]), (zM 6 34, [0, 1, 2, 3, 4, 5, 6, 7])] [0, 2, 3, 4, 5, 6]) .skip)) (.seq (.reg [ zM 35 6] [0, 2, 3, 4, 5, 35]) (.cond (.t 35) (.reg [ zA 36 (.load true 2 (.t 5)), zS (.store true 2 (.t 3) (.t 36))] [0, 2, 3, 4]) .skip))))) (.reg [ zM 14 4, zA 15 (.bin .sub (.t 14) (.k (.c (.lit (.int .i64 1))))), zM 4 15] [0, 2, 3, 4])))))) (.seq (.reg [ zA 37 (.load true 2 (.t 3)), zS (.store true 2 (.t 2) (.t 37))] [2]) .ret))))
theorem K.spec_someStore : chkF Go.Proofs.Tryz.prog 31 1 1 C.spec_someStore [.cell 2 true 2] = true := by kernel_rfl
def C.spec_anyStore : ACode := (.seq (.reg [ zA 2 (.alloc 10 [.nsl 7, .c (.lit (.int .i64 0))])] [0, 2]) (.seq (.reg [ zM 4 0, ⟨none, some 5, .call 31 [.t 4]⟩, zA 3 (.alloc 11 [.nsl 7, .c (.lit (.int .i64 0))]), zS (.store true 2 (.t 3) (.t 5))] [0, 2, 3]) (.seq (.seq (.reg [ zM 6 0, ⟨none, some 7, .call 22 [.t 6, .k (.c (.lit (.int .i64 30)))]⟩] [0, 2, 3, 7]) (.block 0 (.seq (.reg [ zA 9 (.bin .eql (.t 7) (.k (.c (.lit (.int .i64 0))))), zM 8 9] [0, 2, 3, 7, 8]) (.cond (.t 8) (.reg [ zM 10 0, zA 11 (.bslice 12 1 4 [.lit (.int .i64 0)] [(0, .k (.c (.lit (.int .i64 0)))), (1, .k (.c (.lit (.int .i64 999)))), (2, .k (.c (.lit (.int .i64 1000)))), (3, .k (.c (.lit (.int .i64 (-1)))))]), ⟨none, some 12, .call 20 [.t 10, .t 11]⟩, zA 13 (.faddr 1 (.t 3)), zS (.store false 1 (.t 13) (.t 12))] [2, 3]) (.seq (.reg [ zA 15 (.bin .eql (.t 7) (.k (.c (.lit (.int .i64 1))))), zM 14 15] [0, 2, 3, 7, 14]) (.cond (.t 14) (.regD [ (zA 16 (.faddr 0 (.t 3)), []), (zA 17 (.load false 1 (.t 16)), [0]), (zM 18 0, []), (⟨none, some 19, .call 32 [.t 18]⟩, [2]), (zA 20 (.build [.c (.str []), .c (.lit (.int .i64 0)), .c (.lit (.int .i64 0)), .c (.lit (.int .i64 0)), .c (.str []), .nsl 1, .nsl 5] [(0, 1, .t 19), (1, 1, .k (.c (.lit (.int .i64 1))))]), [2, 3]), (zA 21 (.bslice 13 7 1 [.str [], .lit (.int .i64 0), .lit (.int .i64 0), .lit (.int .i64 0), .str [], .sl 1 [], .sl 5 []] [(0, .t 20)]), [2, 3, 4]), (zA 22 (.append 14 7 104 (.t 17) (.t 21)), [0, 1, 2, 3, 4, 5]), (zA 23 (.faddr 0 (.t 3)), [0, 1, 2, 3, 4, 5, 6]), (zS (.store false 1 (.t 23) (.t 22)), [0, 1, 2, 3, 4, 5, 6, 7])] [2, 3]) (.seq (.reg [ zA 25 (.bin .eql (.t 7) (.k (.c (.lit (.int .i64 2))))), zM 24 25] [0, 2, 3, 7, 24]) (.cond (.t 24) (.seq (.reg [ zA 26 (.faddr 0 (.t 3)), zA 27 (.load false 1 (.t 26)), zA 28 (.len (.t 27)), zA 29 (.bin .gtr (.t 28) (.k (.c (.lit (.int .i64 0)))))] [0, 2, 3, 29]) (.cond (.t 29) (.regD [ (zA 30 (.faddr 0 (.t 3)), []), (zA 31 (.load false 1 (.t 30)), [0]), (zM 32 0, []), (zA 33 (.faddr 1 (.t 3)), []), (zA 34 (.load false 1 (.t 33)), [3]), (zA 35 (.bin .add (.t 34) (.k (.c (.lit (.int .i64 1))))), [3, 4]), (zA 36 (.bslice 15 1 3 [.lit (.int .i64 0)] [(0, .k (.c (.lit (.int .i64 0)))), (1, .t 35), (2, .k (.c (.lit (.int .i64 1))))]), [3, 4, 5]), (⟨none, some 37, .call 20 [.t 32, .t 36]⟩, [2, 3, 4, 5, 6]), (zA 38 (.iaddr 7 (.t 31) (.k (.c (.lit (.int .i64 0))))), [0, 1, 2, 3, 4, 5, 6, 7]), (zA 39 (.faddr 1 (.t 38)), [0, 1, 2, 3, 4, 5, 6, 7, 8]), (zS (.store false 1 (.t 39) (.t 37)), [0, 1, 2, 3, 4, 5, 6, 7, 8, 9])] [2, 3]) .skip)) (.seq (.reg [ zA 41 (.bin .eql (.t 7) (.k (.c (.lit (.int .i64 3))))), zM 40 41] [0, 2, 3, 40]) (.cond (.t 40) (.seq (.reg [ zA 42 (.faddr 0 (.t 3)), zA 43 (.load false 1 (.t 42)), zA 44 (.len (.t 43)), zA 45 (.bin .gtr (.t 44) (.k (.c (.lit (.int .i64 0)))))] [0, 2, 3, 45]) (.cond (.t 45) (.regD [ (zA 46 (.faddr 0 (.t 3)), []), (zA 47 (.load false 1 (.t 46)), [0]), (zM 48 0, []), (⟨none, some 49, .call 33 [.t 48]⟩, [2]), (zA 50 (.iaddr 7 (.t 47) (.k (.c (.lit (.int .i64 0))))), [0, 1, 2, 3]), (zA 51 (.faddr 2 (.t 50)), [0, 1, 2, 3, 4]), (zS (.store true 5 (.t 51) (.t 49)), [0, 1, 2, 3, 4, 5])] [2, 3]) .skip)) .skip)))))))))) (.seq (.reg [ zA 52 (.load true 2 (.t 3)), zS (.store true 2 (.t 2) (.t 52))] [2]) .ret))))
theorem K.spec_anyStore : chkF Go.Proofs.Tryz.prog 19 1 1 C.spec_anyStore [.cell 2 true 2] = true := by kernel_rfl
def C.spec_anyBatch : ACode := (.seq (.reg [ zA 2 (.alloc 10 [.nsl 7, .c (.lit (.int .i64 0))]), zA 3 (.mv (.k (.nsl 10)))] [0, 2]) (.seq (.reg [ zM 7 0, ⟨none, some 8, .call 19 [.t 7]⟩, zA 4 (.alloc 11 [.nsl 7, .c (.lit (.int .i64 0))]), zS (.store true 2 (.t 4) (.t 8))] [0, 2, 4]) (.seq (.reg [ zA 9 (.bslice 12 10 0 [.lit (.int .i64 0), .str [], .sl 1 [], .sl 1 [], .lit (.int .i64 0), .lit (.int .i64 0), .str [], .sl 1 [], .sl 5 [], .sl 8 []] []), zM 5 9] [0, 2, 4, 5]) (.seq (.seq (.reg [ zM 10 0, zA 11 (.bslice 13 1 6 [.lit (.int .i64 0)] [(0, .k (.c (.lit (.int .i64 2)))), (1, .k (.c (.lit (.int .i64 3)))), (2, .k (.c (.lit (.int .i64 1)))), (3, .k (.c (.lit (.int .i64 4)))), (4, .k (.c (.lit (.int .i64 0)))), (5, .k (.c (.lit (.int .i64 8))))]), ⟨none, some 12, .call 20 [.t 10, .t 11]⟩, zM 6 12] [0, 2, 4, 5, 6]) (.block 0 (.loop (.seq (.seq (.reg [ zM 13 6, zA 14 (.bin .gtr (.t 13) (.k (.c (.lit (.int .i64 0)))))] [0, 2, 4, 5, 6, 14]) (.cond (.t 14) .skip (.exit 0))) (.seq (.block 1 (.reg [ zM 17 5, zM 18 0, zA 19 (.load true 2 (.t 4)), ⟨none, some 20, .call 21 [.t 18, .t 19]⟩, zA 21 (.bslice 14 10 1 [.lit (.int .i64 0), .str [], .sl 1 [], .sl 1 [], .lit (.int .i64 0), .lit (.int .i64 0), .str [], .sl 1 [], .sl 5 [], .sl 8 []] [(0, .t 20)]), zA 22 (.append 15 10 176 (.t 17) (.t 21)), zM 5 22] [0, 2, 4, 5, 6])) (.reg [ zM 15 6, zA 16 (.bin .sub (.t 15) (.k (.c (.lit (.int .i64 1))))), zM 6 16] [0, 2, 4, 5, 6])))))) (.seq (.seq (.reg [ zM 23 0, ⟨none, some 24, .call 22 [.t 23, .k (.c (.lit (.int .i64 30)))]⟩, zA 25 (.bin .eql (.t 24) (.k (.c (.lit (.int .i64 0)))))] [0, 2, 4, 5, 25]) (.cond (.t 25) (.block 2 (.loop (.seq (.seq (.reg [ zM 26 5, zA 27 (.len (.t 26)), zA 28 (.bin .lss (.t 27) (.k (.c (.lit (.int .i64 9)))))] [0, 2, 4, 5, 28]) (.cond (.t 28) .skip (.exit 2))) (.block 3 (.reg [ zM 29 5, zM 30 0, zA 31 (.load true 2 (.t 4)), ⟨none, some 32, .call 23 [.t 30, .t 31]⟩, zA 33 (.bslice 16 10 1 [.lit (.int .i64 0), .str [], .sl 1 [], .sl 1 [], .lit (.int .i64 0), .lit (.int .i64 0), .str [], .sl 1 [], .sl 5 [], .sl 8 []] [(0, .t 32)]), zA 34 (.append 17 10 176 (.t 29) (.t 33)), zM 5 34] [0, 2, 4, 5]))))) .skip)) (.seq (.reg [ zA 35 (.load true 2 (.t 4)), zM 36 5, zS (.store true 2 (.t 2) (.t 35)), zM 3 36] [2, 3]) .ret))))))
theorem K.spec_anyBatch : chkF Go.Proofs.Tryz.prog 11 1 1 C.spec_anyBatch [.cell 2 true 2, .tmp 3] = true := by kernel_rfl
def C.spec_newReader : ACode := (.seq (.reg [ zA 2 (.mv (.k (.c (.lit (.pointer none)))))] [0]) (.seq (.seq (.reg [ zM 3 0, zA 4 (.len (.t 3)), zA 5 (.bin .gtr (.t 4) (.k (.c (.lit (.int .i64 2000)))))] [0, 5]) (.cond (.t 5) (.reg [ zM 6 0, zA 7 (.slsl 1 (.t 6) none (some (.k (.c (.lit (.int .i64 2000)))))), zM 0 7] [0]) .skip)) (.seq (.reg [ zM 8 0, zA 9 (.build [.nsl 1, .c (.lit (.int .i64 0))] [(0, 1, .t 8)]), zA 10 (.box 10 (.t 9)), zM 2 10] [2]) .ret)))
theorem K.spec_newReader : chkF Go.Proofs.Tryz.prog 12 1 0 C.spec_newReader [.tmp 2] = true := by kernel_rfl
def C.spec_DrawTouches : ACode := (.seq (.reg [ zA 2 (.mv (.k (.nsl 10)))] [0]) (.seq (.reg [ zM 6 0, ⟨none, some 7, .call 12 [.t 6]⟩, ⟨none, some 8, .call 11 [.t 7]⟩, zM 5 8, zA 9 (.extract (.t 5) 0), zA 10 (.extract (.t 5) 1), zA 3 (.alloc 10 [.nsl 7, .c (.lit (.int .i64 0))]), zS (.store true 2 (.t 3) (.t 9)), zM 4 10] [4]) (.seq (.reg [ zM 11 4, zM 2 11] [2]) .ret)))
theorem K.spec_DrawTouches : chkF Go.Proofs.Tryz.prog 5 1 0 C.spec_DrawTouches [.tmp 2] = true := by kernel_rfl
def C.spec_nameUnion : ACode := (.seq (.reg [ zA 4 (.mv (.k (.nsl 1)))] [0, 1]) (.seq (.reg [ zA 8 (.bslice 10 1 0 [.str []] []), zM 5 8] [0, 1, 5]) (.seq (.reg [ zA 6 (.mv (.k (.c (.lit (.int .i64 0)))))] [0, 1, 5, 6]) (.seq (.reg [ zA 7 (.mv (.k (.c (.lit (.int .i64 0)))))] [0, 1, 5, 6, 7]) (.seq (.block 0 (.loop (.seq (.seq (.reg [ zM 9 6, zM 10 0, zA 11 (.len (.t 10)), zA 12 (.bin .lss (.t 9) (.t 11)), zM 13 12, zG 13 false 14 (.mv (.t 7)), zG 13 false 15 (.mv (.t 1)), zG 13 false 16 (.len (.t 15)), zG 13 false 17 (.bin .lss (.t 14) (.t 16)), zA 18 (.pick (.t 13) (.k (.c (.lit (.bool true)))) (.t 17))] [0, 1, 5, 6, 7, 18]) (.cond (.t 18) .skip (.exit 0))) (.block 1 (.block 2 (.seq (.regD [ (zM 31 7, []), (zM 32 1, []), (zA 33 (.len (.t 32)), [1]), (zA 34 (.bin .eql (.t 31) (.t 33)), [0, 1, 2]), (zM 35 34, [0, 1, 2, 3]), (zG 35 false 36 (.mv (.t 6)), [0, 1, 2, 3, 4]), (zG 35 false 37 (.mv (.t 0)), [0, 1, 2, 3, 4]), (zG 35 false 38 (.len (.t 37)), [0, 1, 2, 3, 4, 6]), (zG 35 false 39 (.bin .lss (.t 36) (.t 38)), [0, 1, 2, 3, 4, 5, 6, 7]), (zG 35 false 40 (.mv (.t 39)), [0, 1, 2, 3, 4, 5, 6, 7, 8]), (zG 40 true 41 (.mv (.t 0)), [0, 1, 2, 3, 4, 5, 6, 7, 8, 9]), (zG 40 true 42 (.mv (.t 6)), [0, 1, 2, 3, 4, 5, 6, 7, 8, 9]), (zG 40 true 43 (.iaddr 1 (.t 41) (.t 42)), [0, 1, 2, 3, 4, 5, 6, 7, 8, 9, 10, 11]), (zG 40 true 44 (.load false 1 (.t 43)), [0, 1, 2, 3, 4, 5, 6, 7, 8, 9, 10, 11, 12]), (zG 40 true 45 (.mv (.t 1)), [0, 1, 2, 3, 4, 5, 6, 7, 8, 9]), (zG 40 true 46 (.mv (.t 7)), [0, 1, 2, 3, 4, 5, 6, 7, 8, 9]), (zG 40 true 47 (.iaddr 1 (.t 45) (.t 46)), [0, 1, 2, 3, 4, 5, 6, 7, 8, 9, 14, 15]), (zG 40 true 48 (.load false 1 (.t 47)), [0, 1, 2, 3, 4, 5, 6, 7, 8, 9, 14, 15, 16]), (zG 40 true 49 (.bin .lss (.t 44) (.t 48)), [0, 1, 2, 3, 4, 5, 6, 7, 8, 9, 10, 11, 12, 13, 14, 15, 16, 17]), (zG 35 false 50 (.pick (.t 40) (.t 49) (.k (.c (.lit (.bool false))))), [0, 1, 2, 3, 4, 5, 6, 7, 8, 9, 10, 11, 12, 13, 14, 15, 16, 17, 18]), (zA 51 (.pick (.t 35) (.k (.c (.lit (.bool true)))) (.t 50)), [0, 1, 2, 3, 4, 5, 6, 7, 8, 9, 10, 11, 12, 13, 14, 15, 16, 17, 18, 19]), (zM 30 51, [0, 1, 2, 3, 4, 5, 6, 7, 8, 9, 10, 11, 12, 13, 14, 15, 16, 17, 18, 19, 20])] [0, 1, 5, 6, 7, 30]) (.cond (.t 30) (.seq (.reg [ zM 52 5, zM 53 0, zM 54 6, zA 55 (.iaddr 1 (.t 53) (.t 54)), zA 56 (.load false 1 (.t 55)), zA 57 (.bslice 11 1 1 [.str []] [(0, .t 56)]), zA 58 (.append 12 1 16 (.t 52) (.t 57)), zM 5 58] [0, 1, 5, 6, 7]) (.reg [ zM 59 6, zA 60 (.bin .add (.t 59) (.k (.c (.lit (.int .i64 1))))), zM 6 60] [0, 1, 5, 6, 7])) (.seq (.regD [ (zM 62 6, []), (zM 63 0, []), (zA 64 (.len (.t 63)), [1]), (zA 65 (.bin .eql (.t 62) (.t 64)), [0, 1, 2]), (zM 66 65, [0, 1, 2, 3]), (zG 66 false 67 (.mv (.t 1)), [0, 1, 2, 3, 4]), (zG 66 false 68 (.mv (.t 7)), [0, 1, 2, 3, 4]), (zG 66 false 69 (.iaddr 1 (.t 67) (.t 68)), [0, 1, 2, 3, 4, 5, 6]), (zG 66 false 70 (.load false 1 (.t 69)), [0, 1, 2, 3, 4, 5, 6, 7]), (zG 66 false 71 (.mv (.t 0)), [0, 1, 2, 3, 4]), (zG 66 false 72 (.mv (.t 6)), [0, 1, 2, 3, 4]), (zG 66 false 73 (.iaddr 1 (.t 71) (.t 72)), [0, 1, 2, 3, 4, 9, 10]), (zG 66 false 74 (.load false 1 (.t 73)), [0, 1, 2, 3, 4, 9, 10, 11]), (zG 66 false 75 (.bin .lss (.t 70) (.t 74)), [0, 1, 2, 3, 4, 5, 6, 7, 8, 9, 10, 11, 12]), (zA 76 (.pick (.t 66) (.k (.c (.lit (.bool true)))) (.t 75)), [0, 1, 2, 3, 4, 5, 6, 7, 8, 9, 10, 11, 12, 13]), (zM 61 76, [0, 1, 2, 3, 4, 5, 6, 7, 8, 9, 10, 11, 12, 13, 14])] [0, 1, 5, 6, 7, 61]) (.cond (.t 61) (.seq (.reg [ zM 77 5, zM 78 1, zM 79 7, zA 80 (.iaddr 1 (.t 78) (.t 79)), zA 81 (.load false 1 (.t 80)), zA 82 (.bslice 13 1 1 [.str []] [(0, .t 81)]), zA 83 (.append 14 1 16 (.t 77) (.t 82)), zM 5 83] [0, 1, 5, 6, 7]) (.reg [ zM 84 7, zA 85 (.bin .add (.t 84) (.k (.c (.lit (.int .i64 1))))), zM 7 85] [0, 1, 5, 6, 7])) (.seq (.reg [ zM 19 5, zM 20 0, zM 21 6, zA 22 (.iaddr 1 (.t 20) (.t 21)), zA 23 (.load false 1 (.t 22)), zA 24 (.bslice 15 1 1 [.str []] [(0, .t 23)]), zA 25 (.append 16 1 16 (.t 19) (.t 24)), zM 5 25] [0, 1, 5, 6, 7]) (.seq (.reg [ zM 26 6, zA 27 (.bin .add (.t 26) (.k (.c (.lit (.int .i64 1))))), zM 6 27] [0, 1, 5, 6, 7]) (.reg [ zM 28 7, zA 29 (.bin .add (.t 28) (.k (.c (.lit (.int .i64 1))))), zM 7 29] [0, 1, 5, 6, 7])))))))))))) (.seq (.reg [ zM 86 5, zM 4 86] [4]) .ret))))))
theorem K.spec_nameUnion : chkF Go.Proofs.Tryz.prog 17 2 0 C.spec_nameUnion [.tmp 4] = true := by kernel_rfl
def C.spec_validPath : ACode := (.seq (.reg [ zA 2 (.mv (.k (.c (.lit (.bool false)))))] [0]) (.seq (.seq (.reg [ zA 3 (.mv (.k (.c (.lit (.int .i64 0)))))] [0, 3]) (.block 0 (.loop (.seq (.seq (.reg [ zM 4 3, zM 5 0, zA 6 (.len (.t 5)), zA 7 (.bin .lss (.t 4) (.t 6))] [0, 3, 7]) (.cond (.t 7) .skip (.exit 0))) (.seq (.block 1 (.seq (.reg [ zM 10 0, zM 11 3, zA 12 (.iaddr 1 (.t 10) (.t 11)), zA 13 (.load false 1 (.t 12)), ⟨none, some 14, .call 104 [.t 13]⟩, zA 15 (.not (.t 14))] [0, 3, 15]) (.cond (.t 15) (.seq (.reg [ zA 2 (.mv (.k (.c (.lit (.bool false)))))] [2]) .ret) .skip))) (.reg [ zM 8 3, zA 9 (.bin .add (.t 8) (.k (.c (.lit (.int .i64 1))))), zM 3 9] [0, 3])))))) (.seq (.reg [ zM 16 0, zA 17 (.len (.t 16)), zA 18 (.bin .leq (.t 17) (.k (.c (.lit (.int .i64 5))))), zM 2 18] [2]) .ret)))
theorem K.spec_validPath : chkF Go.Proofs.Tryz.prog 107 1 0 C.spec_validPath [.tmp 2] = true := by kernel_rfl
def C.spec_validOp : ACode := (.seq (.reg [ zA 1 (.box 10 (.t 0)), zA 2 (.mv (.k (.c (.lit (.bool false)))))] [1]) (.seq (.reg [ zA 3 (.faddr 0 (.t 1)), zA 4 (.load false 1 (.t 3)), ⟨none, some 5, .call 52 [.t 4, .k (.c (.lit (.int .i64 1))), .k (.c (.lit (.int .i64 6)))]⟩, zM 6 5, zG 6 true 7 (.faddr 1 (.t 1)), zG 6 true 8 (.load false 1 (.t 7)), ⟨(some (6, true)), some 9, .call 107 [.t 8]⟩, zA 10 (.pick (.t 6) (.t 9) (.k (.c (.lit (.bool false))))), zM 11 10, zG 11 true 12 (.faddr 2 (.t 1)), zG 11 true 13 (.load false 1 (.t 12)), ⟨(some (11, true)), some 14, .call 107 [.t 13]⟩, zA 15 (.pick (.t 11) (.t 14) (.k (.c (.lit (.bool false))))), zM 16 15, zG 16 true 17 (.faddr 3 (.t 1)), zG 16 true 18 (.load true 5 (.t 17)), ⟨(some (16, true)), some 19, .call 55 [.t 18]⟩, zA 20 (.pick (.t 16) (.t 19) (.k (.c (.lit (.bool false))))), zM 2 20] [2]) .ret))
theorem K.spec_validOp : chkF Go.Proofs.Tryz.prog 88 1 0 C.spec_validOp [.tmp 2] = true := by kernel_rfl
def C.spec_validPatch : ACode := (.seq (.reg [ zA 2 (.mv (.k (.c (.lit (.bool false)))))] [0]) (.seq (.seq (.reg [ zA 3 (.mv (.k (.c (.lit (.int .i64 0)))))] [0, 3]) (.block 0 (.loop (.seq (.seq (.reg [ zM 4 3, zM 5 0, zA 6 (.len (.t 5)), zA 7 (.bin .lss (.t 4) (.t 6))] [0, 3, 7]) (.cond (.t 7) .skip (.exit 0))) (.seq (.block 1 (.seq (.reg [ zM 10 0, zM 11 3, zA 12 (.iaddr 8 (.t 10) (.t 11)), zA 13 (.load true 8 (.t 12)), ⟨none, some 14, .call 88 [.t 13]⟩, zA 15 (.not (.t 14))] [0, 3, 15]) (.cond (.t 15) (.seq (.reg [ zA 2 (.mv (.k (.c (.lit (.bool false)))))] [2]) .ret) .skip))) (.reg [ zM 8 3, zA 9 (.bin .add (.t 8) (.k (.c (.lit (.int .i64 1))))), zM 3 9] [0, 3])))))) (.seq (.reg [ zM 16 0, zA 17 (.len (.t 16)), zA 18 (.bin .leq (.t 17) (.k (.c (.lit (.int .i64 12))))), zM 2 18] [2]) .ret)))
theorem K.spec_validPatch : chkF Go.Proofs.Tryz.prog 56 1 0 C.spec_validPatch [.tmp 2] = true := by kernel_rfl
def C.spec_validTag : ACode := (.seq (.reg [ zA 2 (.mv (.k (.c (.lit (.bool false)))))] [0]) (.seq (.seq (.reg [ zA 3 (.mv (.k (.c (.lit (.int .i64 0)))))] [0, 3]) (.block 0 (.loop (.seq (.seq (.reg [ zM 4 3, zM 5 0, zA 6 (.lens (.t 5)), zA 7 (.bin .lss (.t 4) (.t 6))] [0, 3, 7]) (.cond (.t 7) .skip (.exit 0))) (.seq (.block 1 (.seq (.reg [ zM 10 0, zM 11 3, zA 12 (.idxs (.t 10) (.t 11)), zA 13 (.cint .i64 (.t 12)), ⟨none, some 14, .call 52 [.t 13, .k (.c (.lit (.int .i64 48))), .k (.c (.lit (.int .i64 57)))]⟩, zA 15 (.not (.t 14)), zM 16 15, zG 16 true 17 (.mv (.t 0)), zG 16 true 18 (.mv (.t 3)), zG 16 true 19 (.idxs (.t 17) (.t 18)), zG 16 true 20 (.cint .i64 (.t 19)), ⟨(some (16, true)), some 21, .call 52 [.t 20, .k (.c (.lit (.int .i64 97))), .k (.c (.lit (.int .i64 102)))]⟩, zG 16 true 22 (.not (.t 21)), zA 23 (.pick (.t 16) (.t 22) (.k (.c (.lit (.bool false)))))] [0, 3, 23]) (.cond (.t 23) (.seq (.reg [ zA 2 (.mv (.k (.c (.lit (.bool false)))))] [2]) .ret) .skip))) (.reg [ zM 8 3, zA 9 (.bin .add (.t 8) (.k (.c (.lit (.int .i64 1))))), zM 3 9] [0, 3])))))) (.seq (.reg [ zM 24 0, zA 25 (.lens (.t 24)), zA 26 (.bin .eql (.t 25) (.k (.c (.lit (.int .i64 4))))), zM 2 26] [2]) .ret)))
theorem K.spec_validTag : chkF Go.Proofs.Tryz.prog 85 1 0 C.spec_validTag [.tmp 2] = true := by kernel_rfl
def C.spec_validTags : ACode := (.seq (.reg [ zA 2 (.mv (.k (.c (.lit (.bool false)))))] [0]) (.seq (.seq (.reg [ zA 3 (.mv (.k (.c (.lit (.int .i64 0)))))] [0, 3]) (.block 0 (.loop (.seq (.seq (.reg [ zM 4 3, zM 5 0, zA 6 (.len (.t 5)), zA 7 (.bin .lss (.t 4) (.t 6))] [0, 3, 7]) (.cond (.t 7) .skip (.exit 0))) (.seq (.block 1 (.seq (.reg [ zM 10 0, zM 11 3, zA 12 (.iaddr 1 (.t 10) (.t 11)), zA 13 (.load false 1 (.t 12)), zA 14 (.bin .neq (.t 13) (.k (.c (.str [42])))), zM 15 14, zG 15 true 16 (.mv (.t 0)), zG 15 true 17 (.mv (.t 3)), zG 15 true 18 (.iaddr 1 (.t 16) (.t 17)), zG 15 true 19 (.load false 1 (.t 18)), ⟨(some (15, true)), some 20, .call 85 [.t 19]⟩, zG 15 true 21 (.not (.t 20)), zA 22 (.pick (.t 15) (.t 21) (.k (.c (.lit (.bool false)))))] [0, 3, 22]) (.cond (.t 22) (.seq (.reg [ zA 2 (.mv (.k (.c (.lit (.bool false)))))] [2]) .ret) .skip))) (.reg [ zM 8 3, zA 9 (.bin .add (.t 8) (.k (.c (.lit (.int .i64 1))))), zM 3 9] [0, 3])))))) (.seq (.reg [ zM 23 0, zA 24 (.len (.t 23)), zA 25 (.bin .leq (.t 24) (.k (.c (.lit (.int .i64 4))))), zM 2 25] [2]) .ret)))
theorem K.spec_validTags : chkF Go.Proofs.Tryz.prog 54 1 0 C.spec_validTags [.tmp 2] = true := by kernel_rfl
def C.spec_validRequest : ACode := (.seq (.reg [ zA 1 (.box 10 (.t 0)), zA 2 (.mv (.k (.c (.lit (.bool false)))))] [1]) (.seq (.reg [ zA 3 (.faddr 0 (.t 1)), zA 4 (.load false 1 (.t 3)), ⟨none, some 5, .call 52 [.t 4, .k (.c (.lit (.int .i64 1))), .k (.c (.lit (.int .i64 5)))]⟩, zM 6 5, zG 6 true 7 (.faddr 1 (.t 1)), zG 6 true 8 (.load false 1 (.t 7)), ⟨(some (6, true)), some 9, .call 53 [.t 8]⟩, zA 10 (.pick (.t 6) (.t 9) (.k (.c (.lit (.bool false))))), zM 11 10, zG 11 true 12 (.faddr 2 (.t 1)), zG 11 true 13 (.load false 1 (.t 12)), ⟨(some (11, true)), some 14, .call 54 [.t 13]⟩, zA 15 (.pick (.t 11) (.t 14) (.k (.c (.lit (.bool false))))), zM 16 15, zG 16 true 17 (.faddr 3 (.t 1)), zG 16 true 18 (.load false 1 (.t 17)), ⟨(some (16, true)), some 19, .call 54 [.t 18]⟩, zA 20 (.pick (.t 16) (.t 19) (.k (.c (.lit (.bool false))))), zM 21 20, zG 21 true 22 (.faddr 4 (.t 1)), zG 21 true 23 (.load true 5 (.t 22)), ⟨(some (21, true)), some 24, .call 55 [.t 23]⟩, zA 25 (.pick (.t 21) (.t 24) (.k (.c (.lit (.bool false))))), zM 26 25, zG 26 true 27 (.faddr 9 (.t 1)), zG 26 true 28 (.load false 1 (.t 27)), ⟨(some (26, true)), some 29, .call 56 [.t 28]⟩, zA 30 (.pick (.t 26) (.t 29) (.k (.c (.lit (.bool false))))), zM 2 30] [2]) .ret))
theorem K.spec_validRequest : chkF Go.Proofs.Tryz.prog 26 1 0 C.spec_validRequest [.tmp 2] = true := by kernel_rfl
def C.spec_validBatch : ACode := (.seq (.reg [ zA 2 (.mv (.k (.c (.lit (.bool false)))))] [0]) (.seq (.seq (.reg [ zA 3 (.mv (.k (.c (.lit (.int .i64 0)))))] [0, 3]) (.block 0 (.loop (.seq (.seq (.reg [ zM 4 3, zM 5 0, zA 6 (.len (.t 5)), zA 7 (.bin .lss (.t 4) (.t 6))] [0, 3, 7]) (.cond (.t 7) .skip (.exit 0))) (.seq (.block 1 (.seq (.reg [ zM 10 0, zM 11 3, zA 12 (.iaddr 10 (.t 10) (.t 11)), zA 13 (.load true 10 (.t 12)), ⟨none, some 14, .call 26 [.t 13]⟩, zA 15 (.not (.t 14))] [0, 3, 15]) (.cond (.t 15) (.seq (.reg [ zA 2 (.mv (.k (.c (.lit (.bool false)))))] [2]) .ret) .skip))) (.reg [ zM 8 3, zA 9 (.bin .add (.t 8) (.k (.c (.lit (.int .i64 1))))), zM 3 9] [0, 3])))))) (.seq (.reg [ zM 16 0, zA 17 (.len (.t 16)), zA 18 (.bin .leq (.t 17) (.k (.c (.lit (.int .i64 8))))), zM 2 18] [2]) .ret)))
theorem K.spec_validBatch : chkF Go.Proofs.Tryz.prog 16 1 0 C.spec_validBatch [.tmp 2] = true := by kernel_rfl
def C.spec_Touches : ACode := (.seq (.reg [ zA 2 (.mv (.k (.nsl 1)))] [0]) (.seq (.reg [ zA 5 (.bslice 10 1 0 [.str []] []), zM 3 5] [0, 3]) (.seq (.seq (.reg [ zM 6 0, ⟨none, some 7, .call 16 [.t 6]⟩, zA 8 (.not (.t 7))] [0, 3, 8]) (.cond (.t 8) (.seq (.reg [ zA 2 (.mv (.k (.nsl 1)))] [2]) .ret) .skip)) (.seq (.seq (.reg [ zA 4 (.mv (.k (.c (.lit (.int .i64 0)))))] [0, 3, 4]) (.block 0 (.loop (.seq (.seq (.reg [ zM 9 4, zM 10 0, zA 11 (.len (.t 10)), zA 12 (.bin .lss (.t 9) (.t 11))] [0, 3, 4, 12]) (.cond (.t 12) .skip (.exit 0))) (.seq (.block 1 (.seq (.reg [ zM 15 0, zM 16 4, zA 17 (.iaddr 10 (.t 15) (.t 16)), zA 18 (.faddr 0 (.t 17)), zA 19 (.load false 1 (.t 18)), zA 20 (.bin .neq (.t 19) (.k (.c (.lit (.int .i64 1)))))] [0, 3, 4, 20]) (.cond (.t 20) (.reg [ zM 21 3, zM 22 0, zM 23 4, zA 24 (.iaddr 10 (.t 22) (.t 23)), zA 25 (.faddr 1 (.t 24)), zA 26 (.load false 1 (.t 25)), zA 27 (.bslice 11 1 1 [.str []] [(0, .t 26)]), ⟨none, some 28, .call 17 [.t 21, .t 27]⟩, zM 3 28] [0, 3, 4]) .skip))) (.reg [ zM 13 4, zA 14 (.bin .add (.t 13) (.k (.c (.lit (.int .i64 1))))), zM 4 14] [0, 3, 4])))))) (.seq (.reg [ zM 29 3, zM 2 29] [2]) .ret)))))
theorem K.spec_Touches : chkF Go.Proofs.Tryz.prog 8 1 0 C.spec_Touches [.tmp 2] = true := by kernel_rfl
def C.laws_FnTouchesOrder : ACode := (.seq (.reg [ zA 2 (.mv (.k (.c (.lit (.bool false)))))] [0]) (.seq (.seq (.reg [ zM 7 0, zA 8 (.len (.t 7)), zA 9 (.bin .gtr (.t 8) (.k (.c (.lit (.int .i64 1048576)))))] [0, 9]) (.cond (.t 9) (.seq (.reg [ zA 2 (.mv (.k (.c (.lit (.bool true)))))] [2]) .ret) .skip)) (.seq (.reg [ zM 10 0, ⟨none, some 11, .call 5 [.t 10]⟩, zM 3 11] [3]) (.seq (.reg [ zM 12 3, ⟨none, some 13, .call 6 [.t 12]⟩, zM 4 13] [3, 4]) (.seq (.seq (.reg [ zM 14 4, zM 15 3, ⟨none, some 16, .call 8 [.t 15]⟩, ⟨none, some 17, .call 7 [.t 14, .t 16]⟩, zA 18 (.not (.t 17)), zM 19 18, zG 19 false 20 (.mv (.t 4)), zG 19 false 21 (.len (.t 20)), zG 19 false 22 (.bin .eql (.t 21) (.k (.c (.lit (.int .i64 0))))), zA 23 (.pick (.t 19) (.k (.c (.lit (.bool true)))) (.t 22))] [3, 4, 23]) (.cond (.t 23) (.seq (.reg [ zM 24 4, zM 25 3, ⟨none, some 26, .call 8 [.t 25]⟩, ⟨none, some 27, .call 7 [.t 24, .t 26]⟩, zM 2 27] [2]) .ret) .skip)) (.seq (.seq (.reg [ zA 5 (.mv (.k (.c (.lit (.int .i64 1)))))] [3, 4, 5]) (.block 0 (.loop (.seq (.seq (.reg [ zM 28 5, zM 29 4, zA 30 (.len (.t 29)), zA 31 (.bin .lss (.t 28) (.t 30))] [3, 4, 5, 31]) (.cond (.t 31) .skip (.exit 0))) (.seq (.block 1 (.seq (.regD [ (zM 34 4, []), (zM 35 5, []), (zA 36 (.iaddr 1 (.t 34) (.t 35)), [0, 1]), (zA 37 (.load false 1 (.t 36)), [0, 1, 2]), (zM 38 4, []), (zM 39 5, []), (zA 40 (.bin .sub (.t 39) (.k (.c (.lit (.int .i64 1))))), [5]), (zA 41 (.iaddr 1 (.t 38) (.t 40)), [4, 5, 6]), (zA 42 (.load false 1 (.t 41)), [4, 5, 6, 7]), (zA 43 (.bin .leq (.t 37) (.t 42)), [0, 1, 2, 3, 4, 5, 6, 7, 8])] [3, 4, 5, 43]) (.cond (.t 43) (.seq (.reg [ zA 2 (.mv (.k (.c (.lit (.bool false)))))] [2]) .ret) .skip))) (.reg [ zM 32 5, zA 33 (.bin .add (.t 32) (.k (.c (.lit (.int .i64 1))))), zM 5 33] [3, 4, 5])))))) (.seq (.seq (.reg [ zA 6 (.mv (.k (.c (.lit (.int .i64 0)))))] [3, 4, 6]) (.block 2 (.loop (.seq (.seq (.reg [ zM 44 6, zM 45 3, zA 46 (.len (.t 45)), zA 47 (.bin .lss (.t 44) (.t 46))] [3, 4, 6, 47]) (.cond (.t 47) .skip (.exit 2))) (.seq (.block 3 (.seq (.reg [ zM 50 3, zM 51 6, zA 52 (.iaddr 10 (.t 50) (.t 51)), zA 53 (.load true 10 (.t 52)), ⟨none, some 54, .call 9 [.t 53]⟩, zA 55 (.not (.t 54)), zM 56 55, zG 56 true 57 (.mv (.t 4)), zG 56 true 58 (.mv (.t 3)), zG 56 true 59 (.mv (.t 6)), zG 56 true 60 (.iaddr 10 (.t 58) (.t 59)), zG 56 true 61 (.faddr 1 (.t 60)), zG 56 true 62 (.load false 1 (.t 61)), ⟨(some (56, true)), some 63, .call 10 [.t 57, .t 62]⟩, zG 56 true 64 (.not (.t 63)), zA 65 (.pick (.t 56) (.t 64) (.k (.c (.lit (.bool false)))))] [3, 4, 6, 65]) (.cond (.t 65) (.seq (.reg [ zA 2 (.mv (.k (.c (.lit (.bool false)))))] [2]) .ret) .skip))) (.reg [ zM 48 6, zA 49 (.bin .add (.t 48) (.k (.c (.lit (.int .i64 1))))), zM 6 49] [3, 4, 6])))))) (.seq (.reg [ zA 2 (.mv (.k (.c (.lit (.bool true)))))] [2]) .ret))))))))
theorem K.laws_FnTouchesOrder : chkF Go.Proofs.Tryz.prog 4 1 0 C.laws_FnTouchesOrder [.tmp 2] = true := by kernel_rfl
end Go.Ab
end
section
namespace Go.Ab
open Go
def Ev {α : Type} (g : Nat → Option α) (r : α) : Prop := ∃ N, ∀ n, N ≤ n → g n = some r
section
variable {α β : Type} {g g' : Nat → Option α} {r s : α}
theorem Ev.ret (r : α) : Ev (fun _ => some r) r := ⟨0, fun _ _ => rfl⟩
theorem Ev.ret' (h : s = r) : Ev (fun _ => some s) r := by subst h; exact Ev.ret _
theorem Ev.up (h : Ev (fun n => g (n + 1)) r) : Ev g r := by
  obtain ⟨N, h⟩ := h
  refine ⟨N + 1, fun n hn => ?_⟩
  obtain ⟨m, rfl⟩ : ∃ m, n = m + 1 := ⟨n - 1, by omega⟩
  exact h m (by omega)
theorem Ev.bind {h : Nat → Option β} {k : Nat → β → Option α} {a : β} (h1 : Ev h a) (h2 : Ev (fun n => k n a) r) : Ev (fun n => Option.bind (h n) (k n)) r := by
  obtain ⟨N, h1⟩ := h1
  obtain ⟨M, h2⟩ := h2
  refine ⟨max N M, fun n hn => ?_⟩
  show Option.bind (h n) (k n) = some r
  rw [h1 n (by omega)]
  exact h2 n (by omega)
theorem Ev.chk {p : Prop} [Decidable p] (hp : p) (h : Ev g r) : Ev (fun n => Ab.chk p (g n)) r := by
  obtain ⟨N, h⟩ := h
  exact ⟨N, fun n hn => by show Ab.chk p (g n) = some r; rw [Ab.chk, if_pos hp]; exact h n hn⟩
theorem Ev.ct {c : Bool} (hc : c = true) (h : Ev g r) : Ev (fun n => cond c (g n) (g' n)) r := by subst hc; exact h
theorem Ev.cf {c : Bool} (hc : c = false) (h : Ev g' r) : Ev (fun n => cond c (g n) (g' n)) r := by subst hc; exact h
theorem Ev.ite {c : Bool} (h : c = true → Ev g r) (h' : c = false → Ev g' r) : Ev (fun n => cond c (g n) (g' n)) r := by
  cases c
  · exact h' rfl
  · exact h rfl
theorem Ev.eq (h : Ev g r) (e : r = s) : Ev g s := e ▸ h
theorem Ev.val (h : Ev g r) : ∃ n, g n = some r := ⟨h.choose, h.choose_spec _ (Nat.le_refl _)⟩
end
theorem wrapN {x : Int} {m : Nat} (h : x = (m : Int)) (h1 : m < 9223372036854775808) : IntKind.wrap .i64 x = (m : Int) := by
  rw [wrap_id (by omega) (by omega), h]
theorem wrap_suc {i : Nat} (h1 : i + 1 < 9223372036854775808) : IntKind.wrap .i64 ((i : Int) + 1) = ((i + 1 : Nat) : Int) := wrapN (by omega) h1
theorem getD_of_lt {α : Type} {l : List α} {i : Nat} (d : α) (h : i < l.length) : l.getD i d = l[i] := by simp [List.getD, h]
theorem drop_of_lt {α : Type} {l : List α} {i : Nat} (d : α) (h : i < l.length) : l.drop i = l.getD i d :: l.drop (i + 1) := by
  rw [getD_of_lt d h, List.drop_eq_getElem_cons h]
abbrev bl (x y : List UInt8) : Bool := Op.bytesLess x y
theorem bl_nil (x : List UInt8) : bl x [] = false := by cases x <;> rfl
theorem bl_cons (a b : UInt8) (x y : List UInt8) : bl (a :: x) (b :: y) = (decide (a < b) || (a == b && bl x y)) := rfl
theorem bl_irr : ∀ x : List UInt8, bl x x = false
  | [] => rfl
  | a :: x => by rw [bl_cons, bl_irr x]; simp
theorem bl_trans : ∀ {x y z : List UInt8}, bl x y = true → bl y z = true → bl x z = true
  | _, [], _, h, _ => by rw [bl_nil] at h; cases h
  | _, _ :: _, [], _, h => by rw [bl_nil] at h; cases h
  | [], _ :: _, _ :: _, _, _ => rfl
  | a :: x, b :: y, c :: z, h, k => by
    rw [bl_cons] at *
    simp only [Bool.or_eq_true, Bool.and_eq_true, decide_eq_true_eq, beq_iff_eq] at *
    rcases h with h | ⟨rfl, h⟩ <;> rcases k with k | ⟨rfl, k⟩
    · exact .inl (UInt8.lt_trans h k)
    · exact .inl h
    · exact .inl k
    · exact .inr ⟨rfl, bl_trans h k⟩
theorem bl_tri : ∀ {x y : List UInt8}, bl x y = false → bl y x = false → x = y
  | [], [], _, _ => rfl
  | [], _ :: _, h, _ => by cases h
  | _ :: _, [], _, h => by cases h
  | a :: x, b :: y, h, k => by
    rw [bl_cons] at *
    simp only [Bool.or_eq_false_iff, Bool.and_eq_false_iff, decide_eq_false_iff_not] at *
    obtain ⟨h1, h2⟩ := h
    obtain ⟨k1, k2⟩ := k
    have e : a = b := by
      apply UInt8.toNat_inj.1
      simp only [UInt8.lt_iff_toNat_lt] at h1 k1
      omega
    subst e
    simp only [beq_self_eq_true, Bool.true_eq_false, false_or] at h2 k2
    rw [bl_tri h2 k2]
theorem bl_asymm {x y : List UInt8} (h : bl x y = true) : bl y x = false := by
  cases k : bl y x with
  | false => rfl
  | true => have := bl_trans h k; rw [bl_irr] at this; cases this
theorem bl_ne {x y : List UInt8} (h : bl x y = true) : x ≠ y := by
  intro e; subst e; rw [bl_irr] at h; cases h
end Go.Ab
end
section
namespace Go.Ab
open Go
def okB (b : UInt8) : Bool := decide (32 ≤ b.toNat) && decide (b.toNat ≤ 126)
def PT (s : Txt) : Bool := s.all okB && decide (s.length ≤ 12)
def PP (p : List Txt) : Bool := p.all PT && decide (p.length ≤ 5)
def Asc : List Txt → Bool
  | [] => true
  | [_] => true
  | x :: y :: r => Op.bytesLess x y && Asc (y :: r)
def big : Nat := 4611686018427387904
theorem byte_wrap (b : UInt8) : IntKind.wrap .i64 ((b.toNat : Nat) : Int) = (b.toNat : Int) := by
  have := b.toNat_lt
  exact wrapN rfl (by omega)
theorem T.spec_inRange (a lo hi : Int) : Ev (fun n => G.spec_inRange n a lo hi) (decide (lo ≤ a) && decide (a ≤ hi)) := by
  refine Ev.up ?_
  simp only [G.spec_inRange]
  refine Ev.ite (fun h => ?_) (fun h => ?_)
  · exact Ev.ret' (by rw [h, Bool.true_and])
  · exact Ev.ret' (by rw [h, Bool.false_and])
theorem T.spec_validText.L1 (s : Txt) (hs : s.length < big) : ∀ (k i : Nat), i + k = s.length → Ev (fun n => G.spec_validText.L1 n s i) ((s.drop i).all okB && decide (s.length ≤ 12)) := by
  unfold big at hs
  intro k
  induction k with
  | zero =>
    intro i hi
    refine Ev.up ?_
    simp only [G.spec_validText.L1]
    refine Ev.cf (by simp; omega) (Ev.ret' ?_)
    rw [List.drop_of_length_le (by omega)]
    simp
    omega
  | succ k ih =>
    intro i hi
    refine Ev.up ?_
    simp only [G.spec_validText.L1]
    refine Ev.ct (by simp; omega) (Ev.chk (by omega) ?_)
    refine Ev.bind (T.spec_inRange _ _ _) ?_
    rw [drop_of_lt (0 : UInt8) (by omega : i < s.length), List.all_cons, Int.toNat_natCast, byte_wrap]
    have e : (decide ((32 : Int) ≤ ((s.getD i 0).toNat : Int)) && decide (((s.getD i 0).toNat : Int) ≤ 126)) = okB (s.getD i 0) := by
      unfold okB; congr 1 <;> (apply decide_eq_decide.2; omega)
    rw [e]
    refine Ev.ite (fun h => ?_) (fun h => ?_)
    · rw [wrap_suc (by omega), h, Bool.true_and]
      exact ih (i + 1) (by omega)
    · exact Ev.ret' (by rw [h]; rfl)
theorem T.spec_validText (s : Txt) (hs : s.length < big) : Ev (fun n => G.spec_validText n s) (PT s) := by
  refine Ev.up ?_
  simp only [G.spec_validText]
  exact T.spec_validText.L1 s hs s.length 0 (by omega)
theorem T.impl_isPlainText.L1 (s : Txt) (hs : s.length < big) : ∀ (k i : Nat), i + k = s.length → Ev (fun n => G.impl_isPlainText.L1 n s i) ((s.drop i).all okB) := by
  unfold big at hs
  intro k
  induction k with
  | zero =>
    intro i hi
    refine Ev.up ?_
    simp only [G.impl_isPlainText.L1]
    refine Ev.cf (by simp; omega) (Ev.ret' ?_)
    rw [List.drop_of_length_le (by omega)]
    rfl
  | succ k ih =>
    intro i hi
    refine Ev.up ?_
    simp only [G.impl_isPlainText.L1]
    rw [drop_of_lt (0 : UInt8) (by omega : i < s.length), List.all_cons, Int.toNat_natCast]
    refine Ev.ct (by simp; omega) (Ev.chk (by omega) ?_)
    refine Ev.ite (fun h => ?_) (fun h => ?_)
    · refine Ev.ret' ?_
      have : okB (s.getD i 0) = false := by
        simp only [decide_eq_true_eq] at h
        simp only [okB, Bool.and_eq_false_iff, decide_eq_false_iff_not]
        omega
      rw [this]; rfl
    · refine Ev.chk (by omega) ?_
      refine Ev.ite (fun k => ?_) (fun k => ?_)
      · refine Ev.ret' ?_
        have : okB (s.getD i 0) = false := by
          simp only [decide_eq_true_eq] at k
          simp only [okB, Bool.and_eq_false_iff, decide_eq_false_iff_not]
          omega
        rw [this]; rfl
      · have : okB (s.getD i 0) = true := by
          simp only [decide_eq_false_iff_not] at h k
          simp only [okB, Bool.and_eq_true, decide_eq_true_eq]
          omega
        rw [this, Bool.true_and, wrap_suc (by omega)]
        exact ih (i + 1) (by omega)
theorem T.impl_isPlainText (s : Txt) (hs : s.length < big) : Ev (fun n => G.impl_isPlainText n s) (PT s) := by
  refine Ev.up ?_
  simp only [G.impl_isPlainText]
  refine Ev.ite (fun h => ?_) (fun h => ?_)
  · simp only [decide_eq_true_eq] at h
    refine Ev.ret' ?_
    have : decide (s.length ≤ 12) = false := by simp; omega
    rw [PT, this, Bool.and_false]
  · simp only [decide_eq_false_iff_not] at h
    refine (T.impl_isPlainText.L1 s hs s.length 0 (by omega)).eq ?_
    have : decide (s.length ≤ 12) = true := by simp; omega
    rw [PT, this, Bool.and_true, List.drop_zero]
def Sm (l : List Txt) : Prop := l.length < big ∧ ∀ s, s ∈ l → s.length < big
theorem Sm.get {l : List Txt} (h : Sm l) {i : Nat} (hi : i < l.length) : (l.getD i default).length < big := by
  rw [getD_of_lt _ hi]
  exact h.2 _ (List.getElem_mem hi)
theorem T.spec_validPath.L1 (p : List Txt) (hp : Sm p) : ∀ (k i : Nat), i + k = p.length → Ev (fun n => G.spec_validPath.L1 n p i) ((p.drop i).all PT && decide (p.length ≤ 5)) := by
  have hl := hp.1
  unfold big at hl
  intro k
  induction k with
  | zero =>
    intro i hi
    refine Ev.up ?_
    simp only [G.spec_validPath.L1]
    refine Ev.cf (by simp; omega) (Ev.ret' ?_)
    rw [List.drop_of_length_le (by omega)]
    simp
    omega
  | succ k ih =>
    intro i hi
    refine Ev.up ?_
    simp only [G.spec_validPath.L1]
    refine Ev.ct (by simp; omega) (Ev.chk (by omega) ?_)
    rw [drop_of_lt (default : Txt) (by omega : i < p.length), List.all_cons, Int.toNat_natCast]
    refine Ev.bind (T.spec_validText _ (hp.get (by omega))) ?_
    refine Ev.ite (fun h => ?_) (fun h => ?_)
    · rw [wrap_suc (by omega), h, Bool.true_and]
      exact ih (i + 1) (by omega)
    · exact Ev.ret' (by rw [h]; rfl)
theorem T.spec_validPath (p : List Txt) (hp : Sm p) : Ev (fun n => G.spec_validPath n p) (PP p) := by
  refine Ev.up ?_
  simp only [G.spec_validPath]
  exact T.spec_validPath.L1 p hp p.length 0 (by omega)
theorem T.impl_isPath.L1 (p : List Txt) (hp : Sm p) : ∀ (k i : Nat), i + k = p.length → Ev (fun n => G.impl_isPath.L1 n p i) ((p.drop i).all PT) := by
  have hl := hp.1
  unfold big at hl
  intro k
  induction k with
  | zero =>
    intro i hi
    refine Ev.up ?_
    simp only [G.impl_isPath.L1]
    refine Ev.cf (by simp; omega) (Ev.ret' ?_)
    rw [List.drop_of_length_le (by omega)]
    rfl
  | succ k ih =>
    intro i hi
    refine Ev.up ?_
    simp only [G.impl_isPath.L1]
    refine Ev.ct (by simp; omega) (Ev.chk (by omega) ?_)
    rw [drop_of_lt (default : Txt) (by omega : i < p.length), List.all_cons, Int.toNat_natCast]
    refine Ev.bind (T.impl_isPlainText _ (hp.get (by omega))) ?_
    refine Ev.ite (fun h => ?_) (fun h => ?_)
    · rw [wrap_suc (by omega), h, Bool.true_and]
      exact ih (i + 1) (by omega)
    · exact Ev.ret' (by rw [h]; rfl)
theorem T.impl_isPath (p : List Txt) (hp : Sm p) : Ev (fun n => G.impl_isPath n p) (PP p) := by
  refine Ev.up ?_
  simp only [G.impl_isPath]
  refine Ev.ite (fun h => ?_) (fun h => ?_)
  · simp only [decide_eq_true_eq] at h
    refine Ev.ret' ?_
    have : decide (p.length ≤ 5) = false := by simp; omega
    rw [PP, this, Bool.and_false]
  · simp only [decide_eq_false_iff_not] at h
    refine (T.impl_isPath.L1 p hp p.length 0 (by omega)).eq ?_
    have : decide (p.length ≤ 5) = true := by simp; omega
    rw [PP, this, Bool.and_true, List.drop_zero]
def NM (l : List Txt) : Bool := l.all PT && Asc l
theorem drop_pred {l : List Txt} {i : Nat} (h0 : 0 < i) (h : i < l.length) : l.drop (i - 1) = l.getD (i - 1) default :: l.getD i default :: l.drop (i + 1) := by
  rw [drop_of_lt (default : Txt) (by omega : i - 1 < l.length), show i - 1 + 1 = i by omega, drop_of_lt (default : Txt) h]
theorem T.spec_names.L1 (l : List Txt) (hp : Sm l) : ∀ (k i : Nat), i + k = l.length → Ev (fun n => G.spec_names.L1 n l i) ((l.drop i).all PT && Asc (l.drop (i - 1))) := by
  have hl := hp.1
  unfold big at hl
  intro k
  induction k with
  | zero =>
    intro i hi
    refine Ev.up ?_
    simp only [G.spec_names.L1]
    refine Ev.cf (by simp; omega) (Ev.ret' ?_)
    rw [List.drop_of_length_le (by omega)]
    by_cases h0 : i = 0
    · rw [List.drop_of_length_le (by omega)]; rfl
    · rw [drop_of_lt (default : Txt) (by omega : i - 1 < l.length), List.drop_of_length_le (by omega)]; rfl
  | succ k ih =>
    intro i hi
    refine Ev.up ?_
    simp only [G.spec_names.L1]
    refine Ev.ct (by simp; omega) (Ev.chk (by omega) ?_)
    rw [drop_of_lt (default : Txt) (by omega : i < l.length), List.all_cons, Int.toNat_natCast]
    refine Ev.bind (T.spec_validText _ (hp.get (by omega))) ?_
    refine Ev.ite (fun h => ?_) (fun h => ?_)
    · rw [h, Bool.true_and, wrap_suc (by omega)]
      refine Ev.ite (fun h0 => ?_) (fun h0 => ?_)
      · simp only [decide_eq_true_eq] at h0
        have e : IntKind.wrap .i64 ((i : Int) - 1) = ((i - 1 : Nat) : Int) := wrapN (by omega) (by omega)
        rw [e, Int.toNat_natCast]
        refine Ev.chk (by omega) (Ev.chk (by omega) ?_)
        rw [drop_pred (by omega) (by omega), Asc]
        have hd : l.getD i default :: l.drop (i + 1) = l.drop (i + 1 - 1) := by rw [Nat.add_sub_cancel, ← drop_of_lt (default : Txt) (by omega : i < l.length)]
        refine Ev.ite (fun h1 => ?_) (fun h1 => ?_)
        · exact Ev.ret' (by rw [show Op.bytesLess (l.getD (i - 1) default) (l.getD i default) = false from bl_asymm h1]; simp)
        · refine Ev.ite (fun h2 => ?_) (fun h2 => ?_)
          · rw [beq_iff_eq] at h2
            exact Ev.ret' (by rw [show Op.bytesLess (l.getD (i - 1) default) (l.getD i default) = false by rw [h2]; exact bl_irr _]; simp)
          · have : Op.bytesLess (l.getD (i - 1) default) (l.getD i default) = true := by
              cases hb : Op.bytesLess (l.getD (i - 1) default) (l.getD i default) with
              | true => rfl
              | false => rw [bl_tri h1 hb] at h2; simp at h2
            rw [this, Bool.true_and, hd]
            exact ih (i + 1) (by omega)
      · simp only [decide_eq_false_iff_not] at h0
        have : i = 0 := by omega
        subst this
        exact ih 1 (by omega)
    · exact Ev.ret' (by rw [h]; rfl)
theorem T.spec_names (l : List Txt) (hp : Sm l) : Ev (fun n => G.spec_names n l) (NM l) := by
  refine Ev.up ?_
  simp only [G.spec_names]
  exact T.spec_names.L1 l hp l.length 0 (by omega)
theorem T.impl_areNames.L1 (l : List Txt) (hp : Sm l) : ∀ (k i : Nat), i + k = l.length → Ev (fun n => G.impl_areNames.L1 n l i) ((l.drop i).all PT && Asc (l.drop (i - 1))) := by
  have hl := hp.1
  unfold big at hl
  intro k
  induction k with
  | zero =>
    intro i hi
    refine Ev.up ?_
    simp only [G.impl_areNames.L1]
    refine Ev.cf (by simp; omega) (Ev.ret' ?_)
    rw [List.drop_of_length_le (by omega)]
    by_cases h0 : i = 0
    · rw [List.drop_of_length_le (by omega)]; rfl
    · rw [drop_of_lt (default : Txt) (by omega : i - 1 < l.length), List.drop_of_length_le (by omega)]; rfl
  | succ k ih =>
    intro i hi
    refine Ev.up ?_
    simp only [G.impl_areNames.L1]
    refine Ev.ct (by simp; omega) (Ev.chk (by omega) ?_)
    rw [drop_of_lt (default : Txt) (by omega : i < l.length), List.all_cons, Int.toNat_natCast]
    refine Ev.bind (T.impl_isPlainText _ (hp.get (by omega))) ?_
    refine Ev.ite (fun h => ?_) (fun h => ?_)
    · rw [h, Bool.true_and, wrap_suc (by omega)]
      refine Ev.ite (fun h0 => ?_) (fun h0 => ?_)
      · simp only [decide_eq_true_eq] at h0
        have e : IntKind.wrap .i64 ((i : Int) - 1) = ((i - 1 : Nat) : Int) := wrapN (by omega) (by omega)
        rw [e, Int.toNat_natCast]
        refine Ev.chk (by omega) ?_
        rw [drop_pred (by omega) (by omega), Asc]
        have hd : l.getD i default :: l.drop (i + 1) = l.drop (i + 1 - 1) := by rw [Nat.add_sub_cancel, ← drop_of_lt (default : Txt) (by omega : i < l.length)]
        refine Ev.ite (fun h1 => ?_) (fun h1 => ?_)
        · rw [h1, Bool.true_and, hd]
          exact ih (i + 1) (by omega)
        · exact Ev.ret' (by rw [h1]; simp)
      · simp only [decide_eq_false_iff_not] at h0
        have : i = 0 := by omega
        subst this
        exact ih 1 (by omega)
    · exact Ev.ret' (by rw [h]; rfl)
theorem T.impl_areNames (l : List Txt) (hp : Sm l) : Ev (fun n => G.impl_areNames n l) (NM l && decide (l.length ≤ 6)) := by
  refine Ev.up ?_
  simp only [G.impl_areNames]
  refine Ev.ite (fun h => ?_) (fun h => ?_)
  · simp only [decide_eq_true_eq] at h
    refine Ev.ret' ?_
    have : decide (l.length ≤ 6) = false := by simp; omega
    rw [this, Bool.and_false]
  · simp only [decide_eq_false_iff_not] at h
    refine (T.impl_areNames.L1 l hp l.length 0 (by omega)).eq ?_
    have : decide (l.length ≤ 6) = true := by simp; omega
    rw [NM, this, Bool.and_true, List.drop_zero]
end Go.Ab
end
section
namespace Go.Ab
open Go
def Fine (B : Nat) : Nat → NodeT → Prop
  | 0, _ => False
  | d + 1, n => n.Text.length ≤ B ∧ n.Names.length ≤ B ∧ (∀ s, s ∈ n.Names → s.length ≤ B) ∧ n.Kids.length ≤ B ∧ (n.Kind = 4 → n.Kids.length ≤ n.Names.length) ∧ ∀ k, k ∈ n.Kids → Fine B d k
theorem Fine.mono {B C : Nat} (hB : B ≤ C) : ∀ {d e : Nat} {n : NodeT}, d ≤ e → Fine B d n → Fine C e n
  | 0, _, _, _, h => h.elim
  | d + 1, 0, _, hd, _ => by omega
  | d + 1, e + 1, n, hd, h => by
    obtain ⟨h1, h2, h3, h4, h5, h6⟩ := h
    exact ⟨by omega, by omega, fun s hs => Nat.le_trans (h3 s hs) hB, by omega, h5, fun k hk => (h6 k hk).mono hB (by omega)⟩
def lim : Nat := 4294967296
theorem Fine.sm {B d : Nat} {n : NodeT} (hB : B ≤ lim) (h : Fine B d n) : Sm n.Names := by
  cases d with
  | zero => exact h.elim
  | succ d =>
    obtain ⟨h1, h2, h3, h4, h5, h6⟩ := h
    unfold lim at hB
    exact ⟨by unfold big; omega, fun s hs => by have := h3 s hs; unfold big; omega⟩
theorem Fine.text {B d : Nat} {n : NodeT} (hB : B ≤ lim) (h : Fine B d n) : n.Text.length < big := by
  cases d with
  | zero => exact h.elim
  | succ d => obtain ⟨h1, _⟩ := h; unfold lim at hB; unfold big; omega
theorem Fine.kids {B d : Nat} {n : NodeT} (h : Fine B d n) : n.Kids.length ≤ B := by
  cases d with
  | zero => exact h.elim
  | succ d => exact h.2.2.2.1
theorem Fine.names {B d : Nat} {n : NodeT} (h : Fine B d n) : n.Names.length ≤ B := by
  cases d with
  | zero => exact h.elim
  | succ d => exact h.2.1
theorem Fine.map {B d : Nat} {n : NodeT} (h : Fine B d n) (hk : n.Kind = 4) : n.Kids.length ≤ n.Names.length := by
  cases d with
  | zero => exact h.elim
  | succ d => exact h.2.2.2.2.1 hk
theorem Fine.kid {B d : Nat} {n : NodeT} (h : Fine B (d + 1) n) {i : Nat} (hi : i < n.Kids.length) : Fine B d (n.Kids.getD i default) := by
  rw [getD_of_lt _ hi]
  exact h.2.2.2.2.2 _ (List.getElem_mem hi)
def Parts (n : NodeT) : Bool :=
  (n.Kind == 1 || n.Num == 0) && (n.Kind == 2 || n.Text == []) && (n.Kind == 4 || n.Names.length == 0) &&
  (if n.Kind = 0 then n.Kids.length == 0 else if n.Kind = 1 then (decide (-999999 ≤ n.Num) && decide (n.Num ≤ 999999)) && n.Kids.length == 0 else if n.Kind = 2 then PT n.Text && n.Kids.length == 0
   else if n.Kind = 3 then decide (n.Kids.length ≤ 6) else if n.Kind = 4 then NM n.Names && decide (n.Names.length ≤ 6) && n.Kids.length == n.Names.length else false)
def Shape : Nat → NodeT → Bool
  | 0, _ => false
  | d + 1, n => Parts n && n.Kids.all (Shape d)
theorem ilen {a b : Nat} : (((a : Nat) : Int) == ((b : Nat) : Int)) = (a == b) := by
  rw [Bool.eq_iff_iff]; simp; omega
theorem ilen0 {a : Nat} : (((a : Nat) : Int) == 0) = (a == 0) := by
  rw [Bool.eq_iff_iff]; simp
theorem ile {a b : Nat} : decide (((a : Nat) : Int) ≤ ((b : Nat) : Int)) = decide (a ≤ b) := by
  rw [Bool.eq_iff_iff]; simp
def PartsK (n : NodeT) : Bool :=
  (n.Kind == 4 || n.Names.length == 0) &&
  (if n.Kind = 0 then n.Kids.length == 0 else if n.Kind = 1 then (decide (-999999 ≤ n.Num) && decide (n.Num ≤ 999999)) && n.Kids.length == 0 else if n.Kind = 2 then PT n.Text && n.Kids.length == 0
   else if n.Kind = 3 then decide (n.Kids.length ≤ 6) else if n.Kind = 4 then NM n.Names && decide (n.Names.length ≤ 6) && n.Kids.length == n.Names.length else false)
theorem Parts_eq (n : NodeT) : Parts n = ((n.Kind == 1 || n.Num == 0) && (n.Kind == 2 || n.Text == []) && PartsK n) := by
  unfold Parts PartsK; simp only [Bool.and_assoc]
theorem T.impl_hasValidParts.K1 {B d : Nat} {n : NodeT} (hB : B ≤ lim) (h : Fine B d n) : Ev (fun f => G.impl_hasValidParts.K1 f n) (PartsK n) := by
  refine Ev.up ?_
  simp only [G.impl_hasValidParts.K1]
  have ht := T.impl_isPlainText _ (h.text hB)
  have hn := T.impl_areNames _ (h.sm hB)
  have h0 : decide ((0 : Int) < ((n.Names.length : Nat) : Int)) = !(n.Names.length == 0) := by
    cases hq : n.Names.length <;> simp
  have h6 : decide (((n.Kids.length : Nat) : Int) ≤ 6) = decide (n.Kids.length ≤ 6) := by rw [Bool.eq_iff_iff]; simp; omega
  rw [h0]
  have tail : Ev (fun f => cond (n.Kind == 0) (some (((n.Kids.length : Nat) : Int) == 0)) (cond (n.Kind == 1) (cond (decide ((-999999) ≤ n.Num)) (cond (decide (n.Num ≤ 999999)) (some (((n.Kids.length : Nat) : Int) == 0)) (some false)) (some false))
      (cond (n.Kind == 2) (Option.bind (G.impl_isPlainText f n.Text) fun v3 => cond v3 (some (((n.Kids.length : Nat) : Int) == 0)) (some false))
      (cond (n.Kind == 3) (some (decide (((n.Kids.length : Nat) : Int) ≤ 6))) (cond (n.Kind == 4) (Option.bind (G.impl_areNames f n.Names) fun v4 => cond v4 (some (((n.Kids.length : Nat) : Int) == ((n.Names.length : Nat) : Int))) (some false)) (some false))))))
      (if n.Kind = 0 then n.Kids.length == 0 else if n.Kind = 1 then (decide (-999999 ≤ n.Num) && decide (n.Num ≤ 999999)) && n.Kids.length == 0 else if n.Kind = 2 then PT n.Text && n.Kids.length == 0
        else if n.Kind = 3 then decide (n.Kids.length ≤ 6) else if n.Kind = 4 then NM n.Names && decide (n.Names.length ≤ 6) && n.Kids.length == n.Names.length else false) := by
    rw [ilen0, ilen, h6]
    refine Ev.ite (fun e => Ev.ret' ?_) (fun e0 => ?_)
    · rw [if_pos (by simpa using e)]
    rw [if_neg (by simpa using e0)]
    refine Ev.ite (fun e => ?_) (fun e1 => ?_)
    · rw [if_pos (by simpa using e)]
      refine Ev.ite (fun k => Ev.ite (fun k2 => Ev.ret' ?_) (fun k2 => Ev.ret' ?_)) (fun k => Ev.ret' ?_)
      · rw [k, k2]; simp
      · rw [k2]; simp
      · rw [k]; simp
    rw [if_neg (by simpa using e1)]
    refine Ev.ite (fun e => ?_) (fun e2 => ?_)
    · rw [if_pos (by simpa using e)]
      refine Ev.bind ht (Ev.ite (fun k => Ev.ret' ?_) (fun k => Ev.ret' ?_))
      · rw [k, Bool.true_and]
      · rw [k, Bool.false_and]
    rw [if_neg (by simpa using e2)]
    refine Ev.ite (fun e => Ev.ret' ?_) (fun e3 => ?_)
    · rw [if_pos (by simpa using e)]
    rw [if_neg (by simpa using e3)]
    refine Ev.ite (fun e => ?_) (fun e4 => Ev.ret' ?_)
    · rw [if_pos (by simpa using e)]
      refine Ev.bind hn (Ev.ite (fun k => Ev.ret' ?_) (fun k => Ev.ret' ?_))
      · rw [k, Bool.true_and]
      · rw [k, Bool.false_and]
    · rw [if_neg (by simpa using e4)]
  refine Ev.ite (fun e => ?_) (fun e => ?_)
  · have e' : (n.Kind == 4) = false := by simpa using e
    refine Ev.ite (fun k => Ev.ret' ?_) (fun k => ?_)
    · rw [Bool.not_eq_true'] at k; rw [PartsK, e', k]; rfl
    · rw [Bool.not_eq_false'] at k; exact tail.eq (by rw [PartsK, k, Bool.or_true, Bool.true_and])
  · have e' : (n.Kind == 4) = true := by simpa using e
    exact tail.eq (by rw [PartsK, e', Bool.true_or, Bool.true_and])
theorem T.impl_hasValidParts {B d : Nat} {n : NodeT} (hB : B ≤ lim) (h : Fine B d n) : Ev (fun f => G.impl_hasValidParts f n) (Parts n) := by
  refine Ev.up ?_
  simp only [G.impl_hasValidParts]
  have hk := T.impl_hasValidParts.K1 hB h
  rw [Parts_eq]
  have tail : Ev (fun f => cond (n.Kind != 2) (cond (n.Text == []) (G.impl_hasValidParts.K1 f n) (some false)) (G.impl_hasValidParts.K1 f n)) ((n.Kind == 2 || n.Text == []) && PartsK n) := by
    refine Ev.ite (fun e => ?_) (fun e => ?_)
    · have e' : (n.Kind == 2) = false := by simpa using e
      refine Ev.ite (fun k => ?_) (fun k => Ev.ret' ?_)
      · exact hk.eq (by rw [k, Bool.or_true, Bool.true_and])
      · rw [e', k]; rfl
    · have e' : (n.Kind == 2) = true := by simpa using e
      exact hk.eq (by rw [e', Bool.true_or, Bool.true_and])
  refine Ev.ite (fun e => ?_) (fun e => ?_)
  · have e' : (n.Kind == 1) = false := by simpa using e
    refine Ev.ite (fun k => Ev.ret' ?_) (fun k => ?_)
    · have : (n.Num == 0) = false := by simpa using k
      rw [e', this]; rfl
    · have : (n.Num == 0) = true := by simpa using k
      exact tail.eq (by rw [this, Bool.or_true, Bool.true_and])
  · have e' : (n.Kind == 1) = true := by simpa using e
    exact tail.eq (by rw [e', Bool.true_or, Bool.true_and])
end Go.Ab
end
section
namespace Go.Ab
open Go
theorem T.spec_kids.L1 {B D d : Nat} {n : NodeT} (hB : B ≤ lim) (h : Fine B (D + 1) n) (hd : d < 1000) (hs : ∀ k, k ∈ n.Kids → Ev (fun f => G.spec_shape f k d) (Shape d k)) :
    ∀ (k i : Nat), i + k = n.Kids.length → Ev (fun f => G.spec_kids.L1 f n ((d + 1 : Nat) : Int) i) ((n.Kids.drop i).all (Shape d)) := by
  have hl := h.kids
  unfold lim at hB
  intro k
  induction k with
  | zero =>
    intro i hi
    refine Ev.up ?_
    simp only [G.spec_kids.L1]
    refine Ev.cf (by simp; omega) (Ev.ret' ?_)
    rw [List.drop_of_length_le (by omega)]
    rfl
  | succ k ih =>
    intro i hi
    refine Ev.up ?_
    simp only [G.spec_kids.L1]
    refine Ev.ct (by simp; omega) (Ev.chk (by omega) ?_)
    rw [drop_of_lt (default : NodeT) (by omega : i < n.Kids.length), List.all_cons, Int.toNat_natCast]
    have e : IntKind.wrap .i64 (((d + 1 : Nat) : Int) - 1) = (d : Int) := wrapN (by omega) (by omega)
    rw [e]
    refine Ev.bind (hs _ (by rw [getD_of_lt _ (by omega : i < n.Kids.length)]; exact List.getElem_mem _)) ?_
    refine Ev.ite (fun h => ?_) (fun h => ?_)
    · rw [wrap_suc (by omega), h, Bool.true_and]
      exact ih (i + 1) (by omega)
    · exact Ev.ret' (by rw [h]; rfl)
theorem T.spec_kids {B D d : Nat} {n : NodeT} (hB : B ≤ lim) (h : Fine B (D + 1) n) (hd : d < 1000) (hs : ∀ k, k ∈ n.Kids → Ev (fun f => G.spec_shape f k d) (Shape d k)) :
    Ev (fun f => G.spec_kids f n ((d + 1 : Nat) : Int)) (n.Kids.all (Shape d)) := by
  refine Ev.up ?_
  simp only [G.spec_kids]
  exact T.spec_kids.L1 hB h hd hs n.Kids.length 0 (by omega)
def ShK (d : Nat) (n : NodeT) : Bool :=
  if n.Kind = 1 then decide (-999999 ≤ n.Num) && decide (n.Num ≤ 999999) else if n.Kind = 2 then PT n.Text else if n.Kind = 3 then n.Kids.all (Shape d)
  else if n.Kind = 4 then n.Names.length == n.Kids.length && NM n.Names && n.Kids.all (Shape d) else n.Kind == 0
theorem T.spec_shape.K1 {B D d : Nat} {n : NodeT} (hB : B ≤ lim) (h : Fine B (D + 1) n) (hd : d < 1000) (hs : ∀ k, k ∈ n.Kids → Ev (fun f => G.spec_shape f k d) (Shape d k)) :
    Ev (fun f => G.spec_shape.K1 f n ((d + 1 : Nat) : Int)) (ShK d n) := by
  refine Ev.up ?_
  simp only [G.spec_shape.K1]
  have hk := T.spec_kids hB h hd hs
  unfold ShK
  refine Ev.ite (fun e => ?_) (fun e1 => ?_)
  · rw [if_pos (by simpa using e)]
    exact Ev.bind (T.spec_inRange _ _ _) (Ev.ret _)
  rw [if_neg (by simpa using e1)]
  refine Ev.ite (fun e => ?_) (fun e2 => ?_)
  · rw [if_pos (by simpa using e)]
    exact Ev.bind (T.spec_validText _ (h.text hB)) (Ev.ret _)
  rw [if_neg (by simpa using e2)]
  refine Ev.ite (fun e => ?_) (fun e3 => ?_)
  · rw [if_pos (by simpa using e)]
    exact Ev.bind hk (Ev.ret _)
  rw [if_neg (by simpa using e3)]
  refine Ev.ite (fun e => ?_) (fun e4 => ?_)
  · rw [if_pos (by simpa using e), ilen]
    refine Ev.ite (fun k => ?_) (fun k => Ev.ret' (by rw [k]; rfl))
    refine Ev.bind (T.spec_names _ (h.sm hB)) ?_
    refine Ev.ite (fun k2 => ?_) (fun k2 => Ev.ret' (by rw [k2]; simp))
    exact Ev.bind hk (Ev.ret' (by rw [k, k2]; rfl))
  · exact Ev.ret' (by rw [if_neg (by simpa using e4)])
theorem ilt0 {a : Nat} : decide ((0 : Int) < ((a : Nat) : Int)) = !(a == 0) := by cases a <;> simp
theorem cnd_or {c a : Bool} {g : Nat → Option Bool} {V : Bool} (h : Ev g V) : Ev (fun f => cond c (cond a (some false) (g f)) (g f)) ((!c || !a) && V) := by
  cases c <;> cases a
  · exact h
  · exact h
  · exact h
  · exact Ev.ret _
theorem cnd_or' {c a : Bool} {g : Nat → Option Bool} {V : Bool} (h : Ev g V) : Ev (fun f => cond c (cond a (g f) (some false)) (g f)) ((!c || a) && V) := by
  cases c <;> cases a
  · exact h
  · exact h
  · exact Ev.ret _
  · exact h
theorem shape_long {n : NodeT} (h : 6 < n.Kids.length) : Parts n = false := by
  have e0 : (n.Kids.length == 0) = false := beq_eq_false_iff_ne.2 (by omega)
  have e6 : decide (n.Kids.length ≤ 6) = false := by simp; omega
  have e4 : (NM n.Names && decide (n.Names.length ≤ 6) && n.Kids.length == n.Names.length) = false := by
    cases h1 : decide (n.Names.length ≤ 6) with
    | false => simp
    | true =>
      have : (n.Kids.length == n.Names.length) = false := by simp at h1; simp; omega
      rw [this, Bool.and_false]
  unfold Parts
  rw [e0, e6, e4]
  simp
theorem shape_eq {d : Nat} {n : NodeT} (h : n.Kids.length ≤ 6) :
    ((!(n.Kind != 1) || !(n.Num != 0)) && ((!(n.Kind != 2) || n.Text == []) && ((!(n.Kind != 4) || !(!(n.Names.length == 0))) && ((!(decide (n.Kind < 3)) || !(!(n.Kids.length == 0))) && ShK d n)))) = Shape (d + 1) n := by
  have e6 : decide (n.Kids.length ≤ 6) = true := by simp; omega
  have hall : n.Kids.length = 0 → n.Kids.all (Shape d) = true := fun e => by rw [List.eq_nil_of_length_eq_zero e]; rfl
  have hb : ∀ x y : Int, (!(x != y)) = (x == y) := fun x y => by simp [bne]
  rw [hb, hb, hb, hb]
  unfold Shape Parts ShK
  simp only [Bool.not_not, Bool.and_assoc]
  congr 1
  congr 1
  congr 1
  rw [e6]
  by_cases k0 : n.Kind = 0
  · simp only [k0]; cases hz : (n.Kids.length == 0) <;> simp_all
  by_cases k1 : n.Kind = 1
  · simp only [k1]; cases hz : (n.Kids.length == 0) <;> simp_all
  by_cases k2 : n.Kind = 2
  · simp only [k2]; cases hz : (n.Kids.length == 0) <;> simp_all
  by_cases k3 : n.Kind = 3
  · simp [k3]
  by_cases k4 : n.Kind = 4
  · simp only [k4]
    have hc : (n.Kids.length == n.Names.length) = (n.Names.length == n.Kids.length) := by rw [Bool.eq_iff_iff]; simp; omega
    rw [hc]
    cases hz : (n.Names.length == n.Kids.length)
    · simp
    · have : decide (n.Names.length ≤ 6) = true := by simp at hz; simp; omega
      simp [this]
  · simp [k0, k1, k2, k3, k4]
def Cnt : Nat → NodeT → Nat
  | 0, _ => 0
  | d + 1, n => 1 + (n.Kids.map (Cnt d)).sum
theorem shape_parts {d : Nat} {n : NodeT} (h : Shape (d + 1) n = true) : Parts n = true := by
  unfold Shape at h; simp only [Bool.and_eq_true] at h; exact h.1
theorem shape_kids {d : Nat} {n : NodeT} (h : Shape (d + 1) n = true) : ∀ k, k ∈ n.Kids → Shape d k = true := by
  unfold Shape at h; simp only [Bool.and_eq_true] at h; exact List.all_eq_true.1 h.2
theorem shape_len {d : Nat} {n : NodeT} (h : Shape d n = true) : n.Kids.length ≤ 6 := by
  cases d with
  | zero => cases h
  | succ d =>
    by_cases k : n.Kids.length ≤ 6
    · exact k
    · have := shape_long (n := n) (by omega); rw [shape_parts h] at this; cases this
theorem sum_le {α : Type} (f : α → Nat) (m : Nat) : ∀ l : List α, (∀ x, x ∈ l → f x ≤ m) → (l.map f).sum ≤ l.length * m
  | [], _ => by simp
  | x :: l, h => by
    have h1 := sum_le f m l (fun y hy => h y (by simp [hy]))
    have h2 := h x (by simp)
    simp only [List.map_cons, List.sum_cons, List.length_cons, Nat.add_mul]
    omega
theorem cnt_le : ∀ {d : Nat} {n : NodeT}, Shape d n = true → Cnt d n ≤ 7 ^ d
  | 0, _, h => by cases h
  | d + 1, n, h => by
    have hk := shape_kids h
    have := sum_le (Cnt d) (7 ^ d) n.Kids (fun k hk' => cnt_le (hk k hk'))
    have h6 := shape_len h
    have hm : n.Kids.length * 7 ^ d ≤ 6 * 7 ^ d := Nat.mul_le_mul_right _ h6
    have hp : 1 ≤ 7 ^ d := Nat.one_le_pow _ _ (by omega)
    unfold Cnt
    rw [Nat.pow_succ]
    omega
theorem pow_le {d : Nat} (h : d ≤ 5) : 7 ^ d ≤ 16807 := Nat.le_trans (Nat.pow_le_pow_right (by omega) h) (by decide)
theorem T.spec_shape {B : Nat} (hB : B ≤ lim) : ∀ (d D : Nat) (n : NodeT), d < 1000 → Fine B D n → Ev (fun f => G.spec_shape f n (d : Int)) (Shape d n) := by
  intro d
  induction d with
  | zero =>
    intro D n _ h
    refine Ev.up ?_
    simp only [G.spec_shape]
    exact Ev.ct (by simp) (Ev.ret _)
  | succ d ih =>
    intro D n hd h
    cases D with
    | zero => exact h.elim
    | succ D =>
    have hK := T.spec_shape.K1 (d := d) hB h (by omega) (fun k hk => ih D k (by omega) (h.2.2.2.2.2 k hk))
    refine Ev.up ?_
    simp only [G.spec_shape]
    rw [ilt0, ilt0]
    have t1 := cnd_or (c := decide (n.Kind < 3)) (a := !(n.Kids.length == 0)) hK
    have t2 := cnd_or (c := n.Kind != 4) (a := !(n.Names.length == 0)) t1
    have t3 := cnd_or' (c := n.Kind != 2) (a := n.Text == []) t2
    have t4 := cnd_or (c := n.Kind != 1) (a := n.Num != 0) t3
    refine Ev.cf (by simp; omega) ?_
    refine Ev.ite (fun e => Ev.ret' ?_) (fun e => t4.eq ?_)
    · simp only [decide_eq_true_eq] at e
      rw [Shape, shape_long (by omega)]; rfl
    · simp only [decide_eq_false_iff_not] at e
      exact shape_eq (by omega)
theorem T.spec_count.L1 {B D d : Nat} {n : NodeT} (hB : B ≤ lim) (h : Fine B (D + 1) n) (hs : ∀ k, k ∈ n.Kids → Ev (fun f => G.spec_count f k) ((Cnt d k : Nat) : Int)) :
    ∀ (k i c : Nat), i + k = n.Kids.length → c + ((n.Kids.drop i).map (Cnt d)).sum < big → Ev (fun f => G.spec_count.L1 f n (c : Int) i) ((c + ((n.Kids.drop i).map (Cnt d)).sum : Nat) : Int) := by
  have hl := h.kids
  unfold lim at hB
  unfold big
  intro k
  induction k with
  | zero =>
    intro i c hi hc
    refine Ev.up ?_
    simp only [G.spec_count.L1]
    refine Ev.cf (by simp; omega) (Ev.ret' ?_)
    rw [List.drop_of_length_le (by omega)]
    rfl
  | succ k ih =>
    intro i c hi
    rw [drop_of_lt (default : NodeT) (by omega : i < n.Kids.length), List.map_cons, List.sum_cons]
    intro hc
    refine Ev.up ?_
    simp only [G.spec_count.L1]
    refine Ev.ct (by simp; omega) (Ev.chk (by omega) ?_)
    rw [Int.toNat_natCast]
    refine Ev.bind (hs _ (by rw [getD_of_lt _ (by omega : i < n.Kids.length)]; exact List.getElem_mem _)) ?_
    rw [wrap_suc (by omega), wrapN (m := c + Cnt d (n.Kids.getD i default)) (by omega) (by omega)]
    exact (ih (i + 1) (c + Cnt d (n.Kids.getD i default)) (by omega) (by omega)).eq (by congr 1; omega)
theorem T.spec_count {B : Nat} (hB : B ≤ lim) : ∀ (d D : Nat) (n : NodeT), d ≤ 5 → Fine B D n → Shape d n = true → Ev (fun f => G.spec_count f n) ((Cnt d n : Nat) : Int) := by
  intro d
  induction d with
  | zero => intro D n _ _ h; cases h
  | succ d ih =>
    intro D n hd h hS
    cases D with
    | zero => exact h.elim
    | succ D =>
    have hS' := shape_kids hS
    refine Ev.up ?_
    simp only [G.spec_count]
    have := cnt_le (d := d + 1) (n := n) hS
    have hp := pow_le hd
    refine (T.spec_count.L1 hB h (fun k hk => ih D k (by omega) (h.2.2.2.2.2 k hk) (hS' k hk)) n.Kids.length 0 1 (by omega) ?_).eq rfl
    rw [List.drop_zero]
    show Cnt (d + 1) n < big
    unfold big
    omega
def Val (n : NodeT) : Bool := Shape 5 n && decide (Cnt 5 n ≤ 40)
theorem T.spec_validNode {B D : Nat} {n : NodeT} (hB : B ≤ lim) (h : Fine B D n) : Ev (fun f => G.spec_validNode f n) (Val n) := by
  refine Ev.up ?_
  simp only [G.spec_validNode]
  refine Ev.bind (T.spec_shape hB 5 D n (by omega) h) (Ev.ite (fun e => ?_) (fun e => Ev.ret' (by rw [Val, e]; rfl)))
  refine Ev.bind (T.spec_count hB 5 D n (by omega) h e) (Ev.ret' ?_)
  rw [Val, e, Bool.true_and]
  apply decide_eq_decide.2
  omega
theorem T.impl_measureNode.L1 {B D d l : Nat} {n : NodeT} (hB : B ≤ lim) (h : Fine B (D + 1) n) (hl : l < 1000)
    (hs : ∀ k, k ∈ n.Kids → ∃ c dp, Ev (fun f => G.impl_measureNode f k ((l + 1 : Nat) : Int)) (c, dp, Shape d k) ∧ (Shape d k = true → c = ((Cnt d k : Nat) : Int))) :
    ∀ (k i c : Nat) (dp : Int), i + k = n.Kids.length → (n.Kids.drop i).all (Shape d) = true → c + ((n.Kids.drop i).map (Cnt d)).sum < big →
      ∃ dp', Ev (fun f => G.impl_measureNode.L1 f n (l : Int) (c : Int) dp i) (((c + ((n.Kids.drop i).map (Cnt d)).sum : Nat) : Int), dp', true) := by
  have hk := h.kids
  unfold lim at hB
  unfold big
  intro k
  induction k with
  | zero =>
    intro i c dp hi _ hc
    refine ⟨dp, Ev.up ?_⟩
    simp only [G.impl_measureNode.L1]
    refine Ev.cf (by simp; omega) (Ev.ret' ?_)
    rw [List.drop_of_length_le (by omega)]
    rfl
  | succ k ih =>
    intro i c dp hi
    rw [drop_of_lt (default : NodeT) (by omega : i < n.Kids.length), List.map_cons, List.sum_cons, List.all_cons, Bool.and_eq_true]
    intro ⟨hS, hA⟩ hc
    obtain ⟨c1, d1, h1, h2⟩ := hs (n.Kids.getD i default) (by rw [getD_of_lt _ (by omega : i < n.Kids.length)]; exact List.getElem_mem _)
    have e := h2 hS
    subst e
    obtain ⟨dp', g1⟩ := ih (i + 1) (c + Cnt d (n.Kids.getD i default)) (if IntKind.wrap .i64 (d1 + 1) > dp then IntKind.wrap .i64 (d1 + 1) else dp) (by omega) hA (by omega)
    refine ⟨dp', Ev.up ?_⟩
    simp only [G.impl_measureNode.L1]
    refine Ev.ct (by simp; omega) (Ev.chk (by omega) ?_)
    rw [Int.toNat_natCast, wrap_suc (by omega)]
    refine Ev.bind h1 ?_
    refine Ev.ct hS ?_
    rw [wrap_suc (by omega), wrapN (m := c + Cnt d (n.Kids.getD i default)) (by omega) (by omega)]
    exact g1.eq (by rw [Nat.add_assoc])
theorem T.impl_measureNode.L1f {B D d l : Nat} {n : NodeT} (hB : B ≤ lim) (h : Fine B (D + 1) n) (hl : l < 1000)
    (hs : ∀ k, k ∈ n.Kids → ∃ c dp, Ev (fun f => G.impl_measureNode f k ((l + 1 : Nat) : Int)) (c, dp, Shape d k)) :
    ∀ (k i : Nat) (c dp : Int), i + k = n.Kids.length → (n.Kids.drop i).all (Shape d) = false → Ev (fun f => G.impl_measureNode.L1 f n (l : Int) c dp i) (0, 0, false) := by
  have hk := h.kids
  unfold lim at hB
  intro k
  induction k with
  | zero =>
    intro i c dp hi hA
    rw [List.drop_of_length_le (by omega)] at hA
    cases hA
  | succ k ih =>
    intro i c dp hi
    rw [drop_of_lt (default : NodeT) (by omega : i < n.Kids.length), List.all_cons]
    intro hA
    obtain ⟨c1, d1, h1⟩ := hs (n.Kids.getD i default) (by rw [getD_of_lt _ (by omega : i < n.Kids.length)]; exact List.getElem_mem _)
    refine Ev.up ?_
    simp only [G.impl_measureNode.L1]
    refine Ev.ct (by simp; omega) (Ev.chk (by omega) ?_)
    rw [Int.toNat_natCast, wrap_suc (by omega)]
    refine Ev.bind h1 ?_
    refine Ev.ite (fun hS => ?_) (fun hS => Ev.ret _)
    have hS : Shape d (n.Kids.getD i default) = true := hS
    rw [hS, Bool.true_and] at hA
    rw [wrap_suc (by omega)]
    exact ih (i + 1) _ _ (by omega) hA
theorem T.impl_measureNode {B : Nat} (hB : B ≤ lim) : ∀ (d l D : Nat) (n : NodeT), d + l = 6 → 1 ≤ l → Fine B D n →
    ∃ c dp, Ev (fun f => G.impl_measureNode f n (l : Int)) (c, dp, Shape d n) ∧ (Shape d n = true → c = ((Cnt d n : Nat) : Int)) := by
  intro d
  induction d with
  | zero =>
    intro l D n hl h1 h
    refine ⟨0, 0, Ev.up ?_, fun e => by cases e⟩
    simp only [G.impl_measureNode]
    exact Ev.ct (by simp; omega) (Ev.ret _)
  | succ d ih =>
    intro l D n hl h1 h
    cases D with
    | zero => exact h.elim
    | succ D =>
    have hs := fun k (hk : k ∈ n.Kids) => ih (l + 1) D k (by omega) (by omega) (h.2.2.2.2.2 k hk)
    have hp := T.impl_hasValidParts hB h
    cases hS : Shape (d + 1) n with
    | true =>
      have hk := shape_kids hS
      have hc := cnt_le hS
      have hpw := pow_le (d := d + 1) (by omega)
      obtain ⟨dp', g⟩ := T.impl_measureNode.L1 hB h (by omega) hs n.Kids.length 0 1 1 (by omega) (by rw [List.drop_zero]; exact List.all_eq_true.2 hk) (by rw [List.drop_zero]; unfold big; show Cnt (d + 1) n < _; omega)
      rw [List.drop_zero] at g
      refine ⟨((Cnt (d + 1) n : Nat) : Int), dp', Ev.up ?_, fun _ => rfl⟩
      simp only [G.impl_measureNode]
      exact Ev.cf (by simp; omega) (Ev.bind hp (Ev.ct (shape_parts hS) g))
    | false =>
      refine ⟨0, 0, Ev.up ?_, fun e => by cases e⟩
      simp only [G.impl_measureNode]
      refine Ev.cf (by simp; omega) (Ev.bind hp (Ev.ite (fun e => ?_) (fun e => Ev.ret _)))
      refine T.impl_measureNode.L1f (d := d) hB h (by omega) (fun k hk => ?_) n.Kids.length 0 1 1 (by omega) ?_
      · obtain ⟨c, dp, g, _⟩ := hs k hk; exact ⟨c, dp, g⟩
      · rw [List.drop_zero]; unfold Shape at hS; rw [e, Bool.true_and] at hS; exact hS
theorem T.impl_ValidNode {B D : Nat} {n : NodeT} (hB : B ≤ lim) (h : Fine B D n) : Ev (fun f => G.impl_ValidNode f n) (Val n) := by
  obtain ⟨c, dp, g, hc⟩ := T.impl_measureNode hB 5 1 D n rfl (by omega) h
  refine Ev.up ?_
  simp only [G.impl_ValidNode]
  refine Ev.bind g (Ev.ite (fun e => Ev.ret' ?_) (fun e => Ev.ret' ?_))
  · have e : Shape 5 n = true := e
    show decide (c ≤ 40) = _
    rw [hc e, Val, e, Bool.true_and]
    apply decide_eq_decide.2
    omega
  · have e : Shape 5 n = false := e
    rw [Val, e]; rfl
theorem T.spec_copyNode.L1 {B D : Nat} {n : NodeT} (hB : B ≤ lim) (h : Fine B (D + 1) n) (hs : ∀ k, k ∈ n.Kids → Ev (fun f => G.spec_copyNode f k) k) :
    ∀ (k i : Nat), i + k = n.Kids.length → Ev (fun f => G.spec_copyNode.L1 f n i (n.Kids.take i)) n := by
  have hl := h.kids
  have hn := h.names
  unfold lim at hB
  intro k
  induction k with
  | zero =>
    intro i hi
    refine Ev.up ?_
    simp only [G.spec_copyNode.L1]
    refine Ev.cf (by simp; omega) (Ev.chk (by omega) (Ev.ret' ?_))
    rw [List.take_of_length_le (by omega)]
    cases n; rfl
  | succ k ih =>
    intro i hi
    refine Ev.up ?_
    simp only [G.spec_copyNode.L1]
    refine Ev.ct (by simp; omega) (Ev.chk (by omega) ?_)
    rw [Int.toNat_natCast]
    refine Ev.bind (hs _ (by rw [getD_of_lt _ (by omega : i < n.Kids.length)]; exact List.getElem_mem _)) ?_
    refine Ev.chk (by rw [List.length_take]; omega) ?_
    have e : n.Kids.take i ++ [n.Kids.getD i default] = n.Kids.take (i + 1) := by rw [getD_of_lt _ (by omega : i < n.Kids.length), List.take_succ_eq_append_getElem (by omega)]
    rw [wrap_suc (by omega), e]
    exact ih (i + 1) (by omega)
theorem T.spec_copyNode {B : Nat} (hB : B ≤ lim) : ∀ {D : Nat} {n : NodeT}, Fine B D n → Ev (fun f => G.spec_copyNode f n) n := by
  intro D
  induction D with
  | zero => intro n h; exact h.elim
  | succ D ih =>
    intro n h
    refine Ev.up ?_
    simp only [G.spec_copyNode]
    exact T.spec_copyNode.L1 hB h (fun k hk => ih (h.2.2.2.2.2 k hk)) n.Kids.length 0 (by omega)
end Go.Ab
end
section
namespace Go.Ab
open Go
def decN (i : Nat) : Txt := if i < 10 then [UInt8.ofNat (48 + i)] else decN (i / 10) ++ [UInt8.ofNat (48 + i % 10)]
  termination_by i
theorem decN_small {i : Nat} (h : i < 10) : decN i = [UInt8.ofNat (48 + i)] := by rw [decN, if_pos h]
theorem decN_big {i : Nat} (h : ¬ i < 10) : decN i = decN (i / 10) ++ [UInt8.ofNat (48 + i % 10)] := by rw [decN, if_neg h]
theorem decN_len : ∀ (k i : Nat), i < k → (decN i).length ≤ i + 1 := by
  intro k
  induction k with
  | zero => intro i h; omega
  | succ k ih =>
    intro i h
    by_cases hi : i < 10
    · rw [decN_small hi]; simp
    · rw [decN_big hi, List.length_append]
      have := ih (i / 10) (by omega)
      simp only [List.length_singleton]
      omega
theorem wrap_u8 {m : Nat} (h : m < 256) : IntKind.wrap .u8 (m : Int) = m := by
  simp only [IntKind.wrap, IntKind.bits, IntKind.signed]
  simp
  omega
theorem T.spec_decimal : ∀ (k i : Nat), i < k → i < lim → Ev (fun f => G.spec_decimal f (i : Int)) (decN i) := by
  intro k
  induction k with
  | zero => intro i h; omega
  | succ k ih =>
    intro i h hl
    unfold lim at hl
    have hm : 4294967296 < maxLen := by decide
    refine Ev.up ?_
    simp only [G.spec_decimal]
    refine Ev.cf (by simp) ?_
    refine Ev.ite (fun e => ?_) (fun e => ?_)
    · simp only [decide_eq_true_eq] at e
      refine Ev.chk (by omega) (Ev.ret' ?_)
      rw [decN_small (by omega), wrapN (m := 48 + i) (by omega) (by omega), wrap_u8 (by omega), Int.toNat_natCast]
    · simp only [decide_eq_false_iff_not] at e
      have e1 : Int.tdiv (i : Int) 10 = ((i / 10 : Nat) : Int) := by rw [Int.tdiv_eq_ediv_of_nonneg (by omega)]; omega
      have e2 : Int.tmod (i : Int) 10 = ((i % 10 : Nat) : Int) := by rw [Int.tmod_eq_emod_of_nonneg (by omega)]; omega
      rw [e1, e2, wrapN (m := i / 10) rfl (by omega), wrapN (m := 48 + i % 10) (by omega) (by omega), wrap_u8 (by omega), Int.toNat_natCast]
      refine Ev.bind (ih (i / 10) (by omega) (by unfold lim; omega)) ?_
      have := decN_len (i / 10 + 1) (i / 10) (by omega)
      refine Ev.chk (by omega) (Ev.chk (by omega) (Ev.ret' ?_))
      exact (decN_big (by omega)).symm
theorem T.decimal {i : Nat} (h : i < lim) : Ev (fun f => G.spec_decimal f (i : Int)) (decN i) := T.spec_decimal (i + 1) i (by omega) h
def hit (n : NodeT) (s : Txt) (j : Nat) : Bool := (n.Kind == 4 && n.Names.getD j default == s) || (n.Kind == 3 && decN j == s)
def plc (n : NodeT) (s : Txt) : Option Nat := (List.range' 0 n.Kids.length).find? (hit n s)
def plcI : Option Nat → Int
  | some j => j
  | none => -1
theorem plc_lt {n : NodeT} {s : Txt} {j : Nat} (h : plc n s = some j) : j < n.Kids.length := by
  have := List.mem_of_find?_eq_some h
  simp at this
  exact this
theorem plc_hit {n : NodeT} {s : Txt} {j : Nat} (h : plc n s = some j) : hit n s j = true := List.find?_some h
theorem T.spec_place.L1 {B D : Nat} {n : NodeT} (s : Txt) (hB : B ≤ lim) (h : Fine B D n) :
    ∀ (k i : Nat), i + k = n.Kids.length → Ev (fun f => G.spec_place.L1 f n s i) (plcI ((List.range' i k).find? (hit n s))) := by
  have hl := h.kids
  have hm := h.map
  intro k
  induction k with
  | zero =>
    intro i hi
    refine Ev.up ?_
    simp only [G.spec_place.L1]
    exact Ev.cf (by simp; omega) (Ev.ret _)
  | succ k ih =>
    intro i hi
    have hih := ih (i + 1) (by omega)
    have hd := T.decimal (i := i) (by omega)
    unfold lim at hB
    rw [List.range'_succ, List.find?_cons]
    have fin3 : n.Kind ≠ 4 → Ev (fun f => cond (n.Kind == 3) (Option.bind (G.spec_decimal f (i : Int)) fun v5 => cond (v5 == s) (some (i : Int)) (G.spec_place.L1 f n s (IntKind.wrap .i64 ((i : Int) + 1)))) (G.spec_place.L1 f n s (IntKind.wrap .i64 ((i : Int) + 1))))
        (plcI (match hit n s i with | true => some i | false => (List.range' (i + 1) k).find? (hit n s))) := by
      intro h4
      have e4 : (n.Kind == 4) = false := by simpa using h4
      rw [wrap_suc (by omega)]
      refine Ev.ite (fun e => ?_) (fun e => ?_)
      · refine Ev.bind hd (Ev.ite (fun e2 => Ev.ret' ?_) (fun e2 => ?_))
        · rw [show hit n s i = true by unfold hit; rw [e, e2, e4]; rfl]; rfl
        · exact hih.eq (by rw [show hit n s i = false by unfold hit; rw [e, e2, e4]; rfl])
      · exact hih.eq (by rw [show hit n s i = false by unfold hit; rw [e, e4]; rfl])
    refine Ev.up ?_
    simp only [G.spec_place.L1]
    refine Ev.ct (by simp; omega) ?_
    refine Ev.ite (fun e => ?_) (fun e => fin3 (by simpa using e))
    have h4 : n.Kind = 4 := by simpa using e
    have := hm h4
    refine Ev.chk (by omega) ?_
    rw [Int.toNat_natCast]
    refine Ev.ite (fun e2 => Ev.ret' ?_) (fun e2 => ?_)
    · rw [show hit n s i = true by unfold hit; rw [e, e2]; rfl]; rfl
    · refine Ev.cf (by rw [h4]; rfl) ?_
      rw [wrap_suc (by omega)]
      exact hih.eq (by rw [show hit n s i = false by unfold hit; rw [e2, h4]; rfl])
theorem T.spec_place {B D : Nat} {n : NodeT} (s : Txt) (hB : B ≤ lim) (h : Fine B D n) : Ev (fun f => G.spec_place f n s) (plcI (plc n s)) := by
  refine Ev.up ?_
  simp only [G.spec_place]
  exact T.spec_place.L1 s hB h n.Kids.length 0 (by omega)
theorem T.cmp_Less_string (x y : Txt) : Ev (fun f => G.cmp_Less_string f x y) (bl x y) := by
  refine Ev.up ?_
  simp only [G.cmp_Less_string]
  have : Ev (fun f => G.cmp_isNaN_string f x) false := by
    refine Ev.up ?_
    simp only [G.cmp_isNaN_string]
    exact Ev.ret' (by simp)
  exact Ev.bind this (Ev.ret _)
theorem Asc_tail {x : Txt} {l : List Txt} (h : Asc (x :: l) = true) : Asc l = true := by
  cases l with
  | nil => rfl
  | cons y r => rw [Asc, Bool.and_eq_true] at h; exact h.2
theorem Asc_head : ∀ {l : List Txt} {x : Txt}, Asc (x :: l) = true → ∀ y, y ∈ l → bl x y = true
  | [], _, _, y, hy => by cases hy
  | z :: r, x, h, y, hy => by
    have h1 : bl x z = true := by rw [Asc, Bool.and_eq_true] at h; exact h.1
    rcases List.mem_cons.1 hy with rfl | hy
    · exact h1
    · exact bl_trans h1 (Asc_head (Asc_tail h) y hy)
theorem Asc_lt : ∀ {l : List Txt}, Asc l = true → ∀ i j, i < j → j < l.length → bl (l.getD i default) (l.getD j default) = true
  | [], _, i, j, _, hj => by simp at hj
  | x :: l, h, i, j, hij, hj => by
    cases j with
    | zero => omega
    | succ j =>
      rw [List.getD_cons_succ]
      have hj' : j < l.length := by simpa using hj
      cases i with
      | zero => rw [List.getD_cons_zero, getD_of_lt _ hj']; exact Asc_head h _ (List.getElem_mem _)
      | succ i => rw [List.getD_cons_succ]; exact Asc_lt (Asc_tail h) i j (by omega) hj'
end Go.Ab
end
section
namespace Go.Ab
open Go
theorem NodeT.eta (n : NodeT) : NodeT.mk n.Kind n.Num n.Text n.Names n.Kids = n := by cases n; rfl
theorem find_some {p : Nat → Bool} : ∀ {k i j : Nat}, (List.range' i k).find? p = some j ↔ (i ≤ j ∧ j < i + k ∧ p j = true ∧ ∀ q, i ≤ q → q < j → p q = false) := by
  intro k
  induction k with
  | zero => intro i j; simp; omega
  | succ k ih =>
    intro i j
    rw [List.range'_succ, List.find?_cons]
    cases h : p i with
    | true =>
      simp only [Option.some.injEq]
      constructor
      · rintro rfl
        exact ⟨by omega, by omega, h, fun q h1 h2 => by omega⟩
      · rintro ⟨h1, h2, h3, h4⟩
        by_cases e : i = j
        · exact e
        · have := h4 i (by omega) (by omega); rw [h] at this; cases this
    | false =>
      simp only
      rw [ih]
      constructor
      · rintro ⟨h1, h2, h3, h4⟩
        refine ⟨by omega, by omega, h3, fun q g1 g2 => ?_⟩
        by_cases e : q = i
        · rw [e]; exact h
        · exact h4 q (by omega) g2
      · rintro ⟨h1, h2, h3, h4⟩
        have : j ≠ i := fun e => by rw [e, h] at h3; cases h3
        exact ⟨by omega, by omega, h3, fun q g1 g2 => h4 q (by omega) g2⟩
theorem parts_map {n : NodeT} (h : Parts n = true) (hk : n.Kind = 4) : n.Num = 0 ∧ n.Text = [] ∧ NM n.Names = true ∧ n.Names.length ≤ 6 ∧ n.Kids.length = n.Names.length := by
  unfold Parts at h
  simp [hk] at h
  obtain ⟨⟨h1, h2⟩, ⟨h3, h4⟩, h5⟩ := h
  exact ⟨h1, h2, h3, h4, h5⟩
theorem parts_list {n : NodeT} (h : Parts n = true) (hk : n.Kind = 3) : n.Num = 0 ∧ n.Text = [] ∧ n.Names = [] ∧ n.Kids.length ≤ 6 := by
  unfold Parts at h
  simp [hk] at h
  obtain ⟨⟨⟨h1, h2⟩, h3⟩, h4⟩ := h
  exact ⟨h1, h2, h3, h4⟩
theorem parts_leaf {n : NodeT} (h : Parts n = true) (h4 : n.Kind ≠ 4) (h3 : n.Kind ≠ 3) : n.Names = [] ∧ n.Kids = [] := by
  unfold Parts at h
  have e4 : (n.Kind == 4) = false := by simpa using h4
  simp only [Bool.and_eq_true, e4, Bool.false_or] at h
  obtain ⟨⟨_, h1⟩, h2⟩ := h
  refine ⟨List.eq_nil_of_length_eq_zero (by simpa using h1), List.eq_nil_of_length_eq_zero ?_⟩
  by_cases k0 : n.Kind = 0
  · rw [if_pos k0] at h2; simpa using h2
  rw [if_neg k0] at h2
  by_cases k1 : n.Kind = 1
  · rw [if_pos k1] at h2; simp at h2; rw [h2.2]; rfl
  rw [if_neg k1] at h2
  by_cases k2 : n.Kind = 2
  · rw [if_pos k2] at h2; simp at h2; rw [h2.2]; rfl
  rw [if_neg k2, if_neg h3, if_neg h4] at h2
  cases h2
theorem nm_asc {l : List Txt} (h : NM l = true) : Asc l = true := by unfold NM at h; simp only [Bool.and_eq_true] at h; exact h.2
theorem nm_all {l : List Txt} (h : NM l = true) : ∀ s, s ∈ l → PT s = true := by unfold NM at h; simp only [Bool.and_eq_true] at h; exact List.all_eq_true.1 h.1
theorem parts_len {n : NodeT} (h : Parts n = true) : n.Kids.length ≤ 6 := by
  by_cases k : n.Kids.length ≤ 6
  · exact k
  · rw [shape_long (by omega)] at h; cases h
theorem hit_leaf {n : NodeT} (h4 : n.Kind ≠ 4) (h3 : n.Kind ≠ 3) (s : Txt) (j : Nat) : hit n s j = false := by
  unfold hit
  rw [show (n.Kind == 4) = false by simpa using h4, show (n.Kind == 3) = false by simpa using h3]; rfl
def atN : NodeT → List Txt → Option NodeT
  | n, [] => some n
  | n, s :: p => match plc n s with
    | some j => atN (n.Kids.getD j default) p
    | none => none
def noNode : NodeT := NodeT.mk 0 0 [] [] []
def pairO : Option NodeT → NodeT × Bool
  | some n => (n, true)
  | none => (noNode, false)
theorem T.spec_at.L1 {B : Nat} (p : List Txt) (hB : B ≤ lim) (hp : p.length < big) :
    ∀ (k i D : Nat) (n : NodeT), i + k = p.length → Fine B D n → Ev (fun f => G.spec_at.L1 f p i n.Kind n.Num n.Text n.Names n.Kids) (pairO (atN n (p.drop i))) := by
  unfold big at hp
  intro k
  induction k with
  | zero =>
    intro i D n hi h
    refine Ev.up ?_
    simp only [G.spec_at.L1, NodeT.eta]
    refine Ev.cf (by simp; omega) ?_
    rw [List.drop_of_length_le (by omega)]
    have hc := T.spec_copyNode hB h
    exact Ev.bind hc (Ev.ret _)
  | succ k ih =>
    intro i D n hi h
    refine Ev.up ?_
    simp only [G.spec_at.L1, NodeT.eta]
    refine Ev.ct (by simp; omega) (Ev.chk (by omega) ?_)
    rw [drop_of_lt (default : Txt) (by omega : i < p.length), Int.toNat_natCast]
    have hP := T.spec_place (p.getD i default) hB h
    refine Ev.bind hP ?_
    rw [atN]
    cases hj : plc n (p.getD i default) with
    | none => exact Ev.ct rfl (Ev.ret _)
    | some j =>
      have hjl := plc_lt hj
      cases D with
      | zero => exact h.elim
      | succ D =>
      refine Ev.cf (decide_eq_false (by simp only [plcI]; omega)) (Ev.chk (by simp only [plcI]; omega) ?_)
      rw [wrap_suc (by omega)]
      exact ih (i + 1) D _ (by omega) (h.kid hjl)
theorem T.spec_at {B D : Nat} {n : NodeT} (p : List Txt) (hB : B ≤ lim) (hp : p.length < big) (h : Fine B D n) : Ev (fun f => G.spec_at f n p) (pairO (atN n p)) := by
  refine Ev.up ?_
  simp only [G.spec_at]
  exact T.spec_at.L1 p hB hp p.length 0 D n (by omega) h
end Go.Ab
end
section
namespace Go.Ab
open Go
def setK (n : NodeT) (j : Nat) (c : NodeT) : NodeT := NodeT.mk n.Kind n.Num n.Text n.Names (n.Kids.set j c)
def chgN (f : NodeT → Option NodeT) : NodeT → List Txt → Option NodeT
  | n, [] => f n
  | n, s :: p => match plc n s with
    | some j => (chgN f (n.Kids.getD j default) p).map (setK n j)
    | none => none
def setN (n : NodeT) (p : List Txt) (v : NodeT) : Option NodeT := chgN (fun _ => some v) n p
theorem chg_at (f : NodeT → Option NodeT) : ∀ (p : List Txt) (n : NodeT), chgN f n p = (atN n p).bind fun m => (f m).bind fun m' => setN n p m'
  | [], n => by
    show f n = (f n).bind fun m' => some m'
    cases f n <;> rfl
  | s :: p, n => by
    rw [chgN, atN]
    cases hj : plc n s with
    | none => rfl
    | some j =>
      simp only
      rw [chg_at f p]
      cases ha : atN (n.Kids.getD j default) p with
      | none => rfl
      | some m =>
        simp only [Option.bind_some]
        cases hf : f m with
        | none => rfl
        | some m' =>
          simp only [Option.bind_some]
          unfold setN
          rw [chgN, hj]
theorem fine_set {B D E : Nat} {n v : NodeT} {j : Nat} (h : Fine B (D + 1) n) (hv : Fine B E v) : Fine B (max D E + 1) (setK n j v) := by
  obtain ⟨h1, h2, h3, h4, h5, h6⟩ := h
  refine ⟨h1, h2, h3, by simpa [setK] using h4, by simpa [setK] using h5, fun k hk => ?_⟩
  rcases List.mem_or_eq_of_mem_set hk with hk | rfl
  · exact (h6 k hk).mono (Nat.le_refl _) (Nat.le_max_left _ _)
  · exact hv.mono (Nat.le_refl _) (Nat.le_max_right _ _)
theorem fine_chg {B E : Nat} {f : NodeT → Option NodeT} : ∀ (p : List Txt) {D : Nat} {n m : NodeT}, (∀ D' k k', Fine B D' k → f k = some k' → Fine B (D' + E) k') → Fine B D n → chgN f n p = some m → Fine B (D + E) m
  | [], D, n, m, hf, h, hm => hf D n m h hm
  | s :: p, D, n, m, hf, h, hm => by
    rw [chgN] at hm
    cases hj : plc n s with
    | none => rw [hj] at hm; cases hm
    | some j =>
      rw [hj] at hm
      simp only at hm
      cases D with
      | zero => exact h.elim
      | succ D =>
      cases hc : chgN f (n.Kids.getD j default) p with
      | none => rw [hc] at hm; cases hm
      | some c =>
        rw [hc] at hm
        cases hm
        have := fine_set (j := j) h (fine_chg p hf (h.kid (plc_lt hj)) hc)
        exact this.mono (Nat.le_refl _) (by omega)
theorem fine_setN {B D E : Nat} {n v m : NodeT} {p : List Txt} (h : Fine B D n) (hv : Fine B E v) (hm : setN n p v = some m) : Fine B (D + E) m :=
  fine_chg p (fun D' k k' _ e => by cases e; exact hv.mono (Nat.le_refl _) (by omega)) h hm
theorem fine_at {B : Nat} : ∀ (p : List Txt) {D : Nat} {n m : NodeT}, Fine B D n → atN n p = some m → Fine B D m
  | [], _, _, _, h, e => by cases e; exact h
  | s :: p, D, n, m, h, e => by
    rw [atN] at e
    cases hj : plc n s with
    | none => rw [hj] at e; cases e
    | some j =>
      rw [hj] at e
      cases D with
      | zero => exact h.elim
      | succ D => exact (fine_at p (h.kid (plc_lt hj)) e).mono (Nat.le_refl _) (by omega)
theorem T.spec_withKid {B D E : Nat} {n v : NodeT} {j : Nat} (hB : B ≤ lim) (h : Fine B D n) (hv : Fine B E v) (hj : j < n.Kids.length) : Ev (fun f => G.spec_withKid f n j v) (setK n j v) := by
  refine Ev.up ?_
  simp only [G.spec_withKid]
  refine Ev.bind (T.spec_copyNode hB h) (Ev.bind (T.spec_copyNode hB hv) (Ev.chk (by omega) (Ev.ret' ?_)))
  rw [Int.toNat_natCast]; rfl
theorem T.spec_setAt {B E : Nat} {v : NodeT} (hB : B ≤ lim) (hv : Fine B E v) : ∀ (p : List Txt) {D : Nat} {n : NodeT}, p.length < big → Fine B D n → Ev (fun f => G.spec_setAt f n p v) (pairO (setN n p v))
  | [], D, n, _, h => by
    refine Ev.up ?_
    simp only [G.spec_setAt]
    exact Ev.ct rfl (Ev.bind (T.spec_copyNode hB hv) (Ev.ret _))
  | s :: p, D, n, hp, h => by
    simp only [List.length_cons] at hp
    have hp' := hp
    unfold big at hp'
    refine Ev.up ?_
    simp only [G.spec_setAt]
    refine Ev.cf (by simp; omega) (Ev.chk (by simp) ?_)
    rw [List.getD_cons_zero]
    refine Ev.bind (T.spec_place s hB h) ?_
    unfold setN
    rw [chgN]
    cases hj : plc n s with
    | none => exact Ev.ct rfl (Ev.ret _)
    | some j =>
      have hjl := plc_lt hj
      cases D with
      | zero => exact h.elim
      | succ D =>
      refine Ev.cf (decide_eq_false (by simp only [plcI]; omega)) (Ev.chk (by simp only [plcI]; omega) (Ev.chk (by simp; omega) ?_))
      have hk := h.kid hjl
      have ih := T.spec_setAt hB hv p (by omega) hk
      refine Ev.bind (show Ev (fun f => G.spec_setAt f (n.Kids.getD (plcI (some j)).toNat default) ((s :: p).drop 1) v) _ from ih) ?_
      show Ev _ (pairO ((setN (n.Kids.getD j default) p v).map (setK n j)))
      cases hc : setN (n.Kids.getD j default) p v with
      | none => exact Ev.cf rfl (Ev.ret _)
      | some c =>
        refine Ev.ct rfl ?_
        exact Ev.bind (T.spec_withKid hB h (fine_setN hk hv hc) hjl) (Ev.ret _)
theorem pt_len {s : Txt} (h : PT s = true) : s.length ≤ 12 := by unfold PT at h; simp at h; exact h.2
theorem shape_fine : ∀ {d : Nat} {n : NodeT}, Shape d n = true → Fine 12 d n
  | 0, _, h => by cases h
  | d + 1, n, h => by
    have hp := shape_parts h
    have hk := shape_kids h
    have hl := parts_len hp
    refine ⟨?_, ?_, ?_, by omega, ?_, fun k hk' => shape_fine (hk k hk')⟩
    · by_cases h2 : n.Kind = 2
      · unfold Parts at hp; simp [h2] at hp; exact pt_len hp.2.1
      · have e2 : (n.Kind == 2) = false := by simpa using h2
        unfold Parts at hp
        simp only [e2, Bool.false_or, Bool.and_eq_true] at hp
        have := hp.1.1.2
        rw [beq_iff_eq] at this
        rw [this]; simp
    · by_cases h4 : n.Kind = 4
      · have := (parts_map hp h4).2.2.2.1; omega
      · by_cases h3 : n.Kind = 3
        · rw [(parts_list hp h3).2.2.1]; simp
        · rw [(parts_leaf hp h4 h3).1]; simp
    · intro s hs
      by_cases h4 : n.Kind = 4
      · exact pt_len (nm_all (parts_map hp h4).2.2.1 s hs)
      · by_cases h3 : n.Kind = 3
        · rw [(parts_list hp h3).2.2.1] at hs; cases hs
        · rw [(parts_leaf hp h4 h3).1] at hs; cases hs
    · intro h4; have := (parts_map hp h4).2.2.2.2; omega
theorem shape_kid {d : Nat} {n : NodeT} (h : Shape (d + 1) n = true) {j : Nat} (hj : j < n.Kids.length) : Shape d (n.Kids.getD j default) = true := by
  rw [getD_of_lt _ hj]; exact shape_kids h _ (List.getElem_mem _)
theorem lim12 : 12 ≤ lim := by decide
end Go.Ab
end
section
namespace Go.Ab
open Go
def insL {α : Type} (l : List α) (k : Nat) (v : α) : List α := (l.take k ++ [v]) ++ l.drop k
def slt (n : NodeT) (s : Txt) : Nat := ((List.range' 0 n.Kids.length).find? fun i => bl s (n.Names.getD i default)).getD n.Kids.length
def addN (n : NodeT) (s : Txt) (v : NodeT) : Option NodeT :=
  match plc n s with
  | some k => if n.Kind = 4 then some (setK n k v) else some (NodeT.mk n.Kind 0 [] [] (insL n.Kids k v))
  | none => if n.Kind = 3 then (if s = [45] ∨ s = decN n.Kids.length then some (NodeT.mk n.Kind 0 [] [] (insL n.Kids n.Kids.length v)) else none)
    else if n.Kind = 4 then some (NodeT.mk n.Kind 0 [] (insL n.Names (slt n s) s) (insL n.Kids (slt n s) v)) else none
theorem slt_le (n : NodeT) (s : Txt) : slt n s ≤ n.Kids.length := by
  unfold slt
  cases h : (List.range' 0 n.Kids.length).find? fun i => bl s (n.Names.getD i default) with
  | none => simp
  | some j => have := (find_some.1 h).2.1; simp only [Option.getD_some]; omega
def slotN (n : NodeT) (s : Txt) : Option (Nat × Bool) :=
  match plc n s with
  | some k => some (k, n.Kind == 4)
  | none => if n.Kind = 3 then (if s = [45] ∨ s = decN n.Kids.length then some (n.Kids.length, false) else none)
    else if n.Kind = 4 then some (slt n s, false) else none
def slotI : Option (Nat × Bool) → Int × Bool
  | some (k, b) => ((k : Int), b)
  | none => (-1, false)
theorem T.spec_slot.L1 {n : NodeT} (s : Txt) (hk : n.Kind ≠ 4) : Ev (fun f => G.spec_slot.L1 f n s 0) (-1, false) := by
  refine Ev.up ?_
  simp only [G.spec_slot.L1]
  exact Ev.cf (by simpa using hk) (Ev.ret _)
theorem T.spec_slot.L2 {B D : Nat} {n : NodeT} (s : Txt) (hB : B ≤ lim) (h : Fine B D n) (hk : n.Kind = 4) :
    ∀ (k i : Nat), i + k = n.Kids.length → Ev (fun f => G.spec_slot.L2 f n s i) (((((List.range' i k).find? fun i => bl s (n.Names.getD i default)).getD n.Kids.length : Nat) : Int), false) := by
  have hl := h.kids
  have hm := h.map hk
  unfold lim at hB
  intro k
  induction k with
  | zero =>
    intro i hi
    refine Ev.up ?_
    simp only [G.spec_slot.L2]
    refine Ev.ct (by simpa using hk) (Ev.ct (by simp; omega) (Ev.ct (by simp; omega) (Ev.ret' ?_)))
    show ((i : Int), false) = (((n.Kids.length : Nat) : Int), false)
    rw [show i = n.Kids.length by omega]
  | succ k ih =>
    intro i hi
    refine Ev.up ?_
    simp only [G.spec_slot.L2]
    refine Ev.ct (by simpa using hk) (Ev.ct (by simp; omega) (Ev.cf (by simp; omega) (Ev.chk (by omega) ?_)))
    rw [List.range'_succ, List.find?_cons, Int.toNat_natCast]
    refine Ev.ite (fun e => Ev.ret' ?_) (fun e => ?_)
    · rw [show bl s (n.Names.getD i default) = true from e]; rfl
    · rw [wrap_suc (by omega), show bl s (n.Names.getD i default) = false from e]
      exact ih (i + 1) (by omega)
theorem T.spec_slot {B D : Nat} {n : NodeT} (s : Txt) (hB : B ≤ lim) (h : Fine B D n) (hB' : B < lim) : Ev (fun f => G.spec_slot f n s) (slotI (slotN n s)) := by
  have hl := h.kids
  refine Ev.up ?_
  simp only [G.spec_slot]
  refine Ev.bind (T.spec_place s hB h) ?_
  unfold slotN
  cases hj : plc n s with
  | some j => exact Ev.ct (decide_eq_true (by simp only [plcI]; omega)) (Ev.ret _)
  | none =>
    refine Ev.cf (by rfl) ?_
    simp only
    by_cases h3 : n.Kind = 3
    · rw [if_pos h3]
      refine Ev.ct (by simpa using h3) ?_
      refine Ev.ite (fun e => Ev.ret' ?_) (fun e => ?_)
      · rw [if_pos (.inl (by simpa using e))]; rfl
      · refine Ev.bind (T.decimal (i := n.Kids.length) (by omega)) (Ev.ite (fun e2 => Ev.ret' ?_) (fun e2 => ?_))
        · rw [if_pos (.inr (by simpa using e2))]; rfl
        · rw [if_neg (by simp at e e2; simp [e, e2])]
          exact T.spec_slot.L1 s (by omega)
    · rw [if_neg h3]
      refine Ev.cf (by simpa using h3) ?_
      by_cases h4 : n.Kind = 4
      · rw [if_pos h4]
        exact T.spec_slot.L2 s hB h h4 n.Kids.length 0 (by omega)
      · rw [if_neg h4]
        refine Ev.up ?_
        simp only [G.spec_slot.L2]
        exact Ev.cf (by simpa using h4) (Ev.ret _)
theorem addN_slot (n : NodeT) (s : Txt) (v : NodeT) : addN n s v = (slotN n s).map fun q => if q.2 then setK n q.1 v else if n.Kind = 3 then NodeT.mk n.Kind 0 [] [] (insL n.Kids q.1 v) else NodeT.mk n.Kind 0 [] (insL n.Names q.1 s) (insL n.Kids q.1 v) := by
  unfold addN slotN
  cases hj : plc n s with
  | some j =>
    simp only [Option.map_some]
    by_cases h4 : n.Kind = 4
    · simp [h4]
    · have h3 : n.Kind = 3 := by
        by_cases h3 : n.Kind = 3
        · exact h3
        · have := plc_hit hj; rw [hit_leaf h4 h3] at this; cases this
      simp [h3]
  | none =>
    simp only
    by_cases h3 : n.Kind = 3
    · simp only [h3, if_true]
      by_cases hs : s = [45] ∨ s = decN n.Kids.length
      · rw [if_pos hs, if_pos hs]; simp
      · rw [if_neg hs, if_neg hs]; rfl
    · rw [if_neg h3, if_neg h3]
      by_cases h4 : n.Kind = 4
      · rw [if_pos h4, if_pos h4]; simp [h3]
      · rw [if_neg h4, if_neg h4]; rfl
theorem slot_le {n : NodeT} {s : Txt} {q : Nat × Bool} (h : slotN n s = some q) : q.1 ≤ n.Kids.length ∧ (q.2 = true → q.1 < n.Kids.length) ∧ (n.Kind = 3 ∨ n.Kind = 4) := by
  unfold slotN at h
  cases hj : plc n s with
  | some j =>
    rw [hj] at h
    cases h
    have := plc_lt hj
    refine ⟨by omega, fun _ => this, ?_⟩
    by_cases h4 : n.Kind = 4
    · exact .inr h4
    · by_cases h3 : n.Kind = 3
      · exact .inl h3
      · have := plc_hit hj; rw [hit_leaf h4 h3] at this; cases this
  | none =>
    rw [hj] at h
    simp only at h
    by_cases h3 : n.Kind = 3
    · rw [if_pos h3] at h
      split at h
      · cases h; exact ⟨Nat.le_refl _, fun e => (by cases e), .inl h3⟩
      · cases h
    · rw [if_neg h3] at h
      split at h
      · rename_i h4; cases h; exact ⟨slt_le n s, fun e => (by cases e), .inr h4⟩
      · cases h
theorem T.spec_addHere {B D E : Nat} {n v : NodeT} (s : Txt) (hB : B < lim) (h : Fine B D n) (hv : Fine B E v) : Ev (fun f => G.spec_addHere f n s v) (pairO (addN n s v)) := by
  have hl := h.kids
  have hn := h.names
  have hB2 := hB
  unfold lim at hB2
  refine Ev.up ?_
  simp only [G.spec_addHere]
  refine Ev.bind (T.spec_slot s (by omega) h hB) ?_
  rw [addN_slot]
  cases hq : slotN n s with
  | none => exact Ev.ct rfl (Ev.ret _)
  | some q =>
    obtain ⟨q1, q2⟩ := q
    obtain ⟨hq1, hq2, hk⟩ := slot_le hq
    simp only at hq1 hq2
    refine Ev.cf (decide_eq_false (by simp only [slotI]; omega)) ?_
    refine Ev.ite (fun e => ?_) (fun e => ?_)
    · have e : q2 = true := e
      subst e
      exact Ev.bind (T.spec_withKid (by omega) h hv (hq2 rfl)) (Ev.ret _)
    · have e : q2 = false := e
      subst e
      simp only [slotI, Int.toNat_natCast]
      have ht : (n.Kids.take q1).length = q1 := by rw [List.length_take]; omega
      have hd : (n.Kids.drop q1).length = n.Kids.length - q1 := List.length_drop
      refine Ev.bind (T.spec_copyNode (by omega) h) (Ev.chk (by omega) (Ev.chk (by omega) (Ev.bind (T.spec_copyNode (by omega) hv) (Ev.chk (by omega) (Ev.chk (by omega) (Ev.chk (by omega) ?_))))))
      refine Ev.ite (fun e3 => Ev.ret' ?_) (fun e3 => ?_)
      · have e3' : n.Kind = 3 := by simpa using e3
        simp only [Option.map_some, if_pos e3']
        rfl
      · have e3' : ¬ n.Kind = 3 := by simpa using e3
        have h4 : n.Kind = 4 := by omega
        have hm := h.map h4
        have ht2 : (n.Names.take q1).length = q1 := by rw [List.length_take]; omega
        have hd2 : (n.Names.drop q1).length = n.Names.length - q1 := List.length_drop
        refine Ev.chk (by omega) (Ev.chk (by omega) (Ev.chk (by omega) (Ev.chk (by omega) (Ev.chk (by omega) (Ev.ret' ?_)))))
        simp only [Option.map_some, if_neg e3']
        rfl
theorem fine_add {B D E : Nat} {n v m : NodeT} {s : Txt} (h : Fine B D n) (hv : Fine B E v) (hs : s.length ≤ B) (hm : addN n s v = some m) : Fine (B + 1) (D + E) m := by
  rw [addN_slot] at hm
  cases hq : slotN n s with
  | none => rw [hq] at hm; cases hm
  | some q =>
    obtain ⟨q1, q2⟩ := q
    obtain ⟨hq1, hq2, hk⟩ := slot_le hq
    simp only at hq1 hq2
    rw [hq] at hm
    cases D with
    | zero => exact h.elim
    | succ D =>
    cases hm
    have hkid : ∀ k, k ∈ insL n.Kids q1 v → Fine (B + 1) (D + E) k := by
      intro k hk
      unfold insL at hk
      simp only [List.mem_append, List.mem_singleton] at hk
      rcases hk with (hk | rfl) | hk
      · exact (h.2.2.2.2.2 k (List.mem_of_mem_take hk)).mono (by omega) (by omega)
      · exact hv.mono (by omega) (by omega)
      · exact (h.2.2.2.2.2 k (List.mem_of_mem_drop hk)).mono (by omega) (by omega)
    have hlen : (insL n.Kids q1 v).length = n.Kids.length + 1 := by unfold insL; simp; omega
    have hl := h.kids
    have hn := h.names
    have hb : 1 ≤ B + 1 := by omega
    cases q2 with
    | true => exact (fine_set (j := q1) h hv).mono (by omega) (by omega)
    | false =>
      simp only [Bool.false_eq_true, if_false]
      rw [show D + 1 + E = (D + E) + 1 by omega]
      by_cases h3 : n.Kind = 3
      · rw [if_pos h3]
        exact ⟨by simp, by simp, by simp, by show (insL n.Kids q1 v).length ≤ _; omega, fun h4 => by simp only at h4; omega, hkid⟩
      · rw [if_neg h3]
        have h4 : n.Kind = 4 := by omega
        have hm := h.map h4
        have hlen2 : (insL n.Names q1 s).length = n.Names.length + 1 := by unfold insL; simp; omega
        refine ⟨by simp, by show (insL n.Names q1 s).length ≤ _; omega, fun x hx => ?_, by show (insL n.Kids q1 v).length ≤ _; omega, fun _ => by show (insL n.Kids q1 v).length ≤ (insL n.Names q1 s).length; omega, hkid⟩
        have hx : x ∈ insL n.Names q1 s := hx
        unfold insL at hx
        simp only [List.mem_append, List.mem_singleton] at hx
        rcases hx with (hx | rfl) | hx
        · have := h.2.2.1 x (List.mem_of_mem_take hx); omega
        · omega
        · have := h.2.2.1 x (List.mem_of_mem_drop hx); omega
end Go.Ab
end
section
namespace Go.Ab
open Go
theorem shape_names {d : Nat} {n : NodeT} (h : Shape d n = true) (hk : n.Kind = 4) : n.Names.length = n.Kids.length := by
  cases d with
  | zero => cases h
  | succ d => exact (parts_map (shape_parts h) hk).2.2.2.2.symm
end Go.Ab
end
section
namespace Go.Ab
open Go
theorem shape_mono : ∀ {d e : Nat} {n : NodeT}, d ≤ e → Shape d n = true → Shape e n = true
  | 0, _, _, _, h => by cases h
  | d + 1, 0, _, hd, _ => by omega
  | d + 1, e + 1, n, hd, h => by
    unfold Shape
    rw [shape_parts h, Bool.true_and, List.all_eq_true]
    exact fun k hk => shape_mono (by omega) (shape_kids h k hk)
theorem map_sum_congr {α : Type} {f g : α → Nat} : ∀ {l : List α}, (∀ x, x ∈ l → f x = g x) → (l.map f).sum = (l.map g).sum
  | [], _ => rfl
  | x :: l, h => by
    simp only [List.map_cons, List.sum_cons]
    rw [h x (by simp), map_sum_congr (fun y hy => h y (by simp [hy]))]
theorem cnt_mono : ∀ {d e : Nat} {n : NodeT}, d ≤ e → Shape d n = true → Cnt d n = Cnt e n
  | 0, _, _, _, h => by cases h
  | d + 1, 0, _, hd, _ => by omega
  | d + 1, e + 1, n, hd, h => by
    unfold Cnt
    rw [map_sum_congr (f := Cnt d) (g := Cnt e) (fun k hk => cnt_mono (by omega) (shape_kids h k hk))]
theorem val_shape {n : NodeT} (h : Val n = true) : Shape 5 n = true := by unfold Val at h; simp only [Bool.and_eq_true] at h; exact h.1
theorem val_cnt {n : NodeT} (h : Val n = true) : Cnt 5 n ≤ 40 := by unfold Val at h; simp only [Bool.and_eq_true, decide_eq_true_eq] at h; exact h.2
theorem val_fine {n : NodeT} (h : Val n = true) : Fine 12 5 n := shape_fine (val_shape h)
theorem val_of {d : Nat} {n : NodeT} (hd : d ≤ 5) (h : Shape d n = true) (hc : Cnt d n ≤ 40) : Val n = true := by
  unfold Val
  rw [shape_mono hd h, Bool.true_and, decide_eq_true_eq, ← cnt_mono hd h]
  exact hc
theorem sum_set {α : Type} (f : α → Nat) {c : α} : ∀ {l : List α} {j : Nat} (d : α), f c ≤ f (l.getD j d) → ((l.set j c).map f).sum ≤ (l.map f).sum
  | [], _, _, _ => by simp
  | x :: l, 0, d, h => by
    rw [List.getD_cons_zero] at h
    simp only [List.set_cons_zero, List.map_cons, List.sum_cons]
    omega
  | x :: l, j + 1, d, h => by
    rw [List.getD_cons_succ] at h
    have := sum_set f (l := l) (j := j) d h
    simp only [List.set_cons_succ, List.map_cons, List.sum_cons]
    omega
theorem parts_set {n c : NodeT} {j : Nat} (h : Parts n = true) : Parts (setK n j c) = true := by
  unfold Parts setK at *
  simpa using h
theorem chg_shape {f : NodeT → Option NodeT} (hf : ∀ d k k', Shape d k = true → f k = some k' → Shape d k' = true ∧ Cnt d k' ≤ Cnt d k) :
    ∀ (p : List Txt) {d : Nat} {n m : NodeT}, Shape d n = true → chgN f n p = some m → Shape d m = true ∧ Cnt d m ≤ Cnt d n
  | [], d, n, m, h, e => hf d n m h (by rw [chgN] at e; exact e)
  | s :: p, d, n, m, h, e => by
    rw [chgN] at e
    cases hj : plc n s with
    | none => rw [hj] at e; cases e
    | some j =>
      rw [hj] at e
      simp only at e
      cases d with
      | zero => cases h
      | succ d =>
      have hjl := plc_lt hj
      cases hc : chgN f (n.Kids.getD j default) p with
      | none => rw [hc] at e; cases e
      | some c =>
        rw [hc] at e
        cases e
        obtain ⟨h1, h2⟩ := chg_shape hf p (shape_kid h hjl) hc
        constructor
        · unfold Shape
          rw [parts_set (shape_parts h), Bool.true_and, List.all_eq_true]
          intro k hk
          rcases List.mem_or_eq_of_mem_set hk with hk | rfl
          · exact shape_kids h k hk
          · exact h1
        · show 1 + ((n.Kids.set j c).map (Cnt d)).sum ≤ 1 + (n.Kids.map (Cnt d)).sum
          have := sum_set (Cnt d) (l := n.Kids) (j := j) default h2
          omega
def dropL {α : Type} (l : List α) (k : Nat) : List α := l.take k ++ l.drop (k + 1)
def remN (n : NodeT) (s : Txt) : Option NodeT := match plc n s with
  | some k => some (NodeT.mk n.Kind 0 [] (if n.Kind = 4 then dropL n.Names k else []) (dropL n.Kids k))
  | none => none
theorem asc_pairwise : ∀ {l : List Txt}, Asc l = true ↔ l.Pairwise (fun x y => bl x y = true)
  | [] => by simp [Asc]
  | x :: l => by
    rw [List.pairwise_cons, ← asc_pairwise (l := l)]
    constructor
    · intro h; exact ⟨Asc_head h, Asc_tail h⟩
    · rintro ⟨h1, h2⟩
      cases l with
      | nil => rfl
      | cons y r => rw [Asc, h2, Bool.and_true]; exact h1 y (by simp)
theorem dropL_sub {α : Type} (l : List α) (k : Nat) : (dropL l k).Sublist l := by
  unfold dropL
  conv => rhs; rw [← List.take_append_drop k l]
  refine List.Sublist.append (List.Sublist.refl _) ?_
  rw [← List.drop_drop]
  exact List.drop_sublist 1 _
theorem dropL_len {α : Type} {l : List α} {k : Nat} (h : k < l.length) : (dropL l k).length = l.length - 1 := by unfold dropL; simp; omega
theorem sum_sub {α : Type} (f : α → Nat) : ∀ {l m : List α}, l.Sublist m → (l.map f).sum ≤ (m.map f).sum := by
  intro l m h
  induction h with
  | slnil => simp
  | cons a h ih => simp only [List.map_cons, List.sum_cons]; omega
  | cons_cons a h ih => simp only [List.map_cons, List.sum_cons]; omega
theorem rem_shape (s : Txt) : ∀ d k k', Shape d k = true → remN k s = some k' → Shape d k' = true ∧ Cnt d k' ≤ Cnt d k := by
  intro d n m h e
  unfold remN at e
  cases hj : plc n s with
  | none => rw [hj] at e; cases e
  | some j =>
    rw [hj] at e
    cases e
    have hjl := plc_lt hj
    cases d with
    | zero => cases h
    | succ d =>
    have hp := shape_parts h
    have hsub := dropL_sub n.Kids j
    have hlen := dropL_len hjl
    have hl := parts_len hp
    constructor
    · unfold Shape
      rw [Bool.and_eq_true, List.all_eq_true]
      refine ⟨?_, fun k hk => shape_kids h k (hsub.subset hk)⟩
      by_cases h4 : n.Kind = 4
      · obtain ⟨_, _, hN, hnl, hkl⟩ := parts_map hp h4
        have hNM : NM (dropL n.Names j) = true := by
          unfold NM
          rw [Bool.and_eq_true]
          refine ⟨List.all_eq_true.2 fun x hx => nm_all hN x ((dropL_sub _ _).subset hx), asc_pairwise.2 ((asc_pairwise.1 (nm_asc hN)).sublist (dropL_sub _ _))⟩
        have hl2 := dropL_len (l := n.Names) (k := j) (by omega)
        unfold Parts
        simp [h4, hNM]
        omega
      · by_cases h3 : n.Kind = 3
        · unfold Parts
          simp [h3]
          omega
        · have := plc_hit hj; rw [hit_leaf h4 h3] at this; cases this
    · show 1 + ((dropL n.Kids j).map (Cnt d)).sum ≤ 1 + (n.Kids.map (Cnt d)).sum
      have := sum_sub (Cnt d) hsub
      omega
def lastS (p : List Txt) : Txt := p.getD (p.length - 1) default
def initS (p : List Txt) : List Txt := p.take (p.length - 1)
def addAtN (n : NodeT) (p : List Txt) (v : NodeT) : Option NodeT := if p = [] then some v else chgN (fun m => addN m (lastS p) v) n (initS p)
def remAtN (n : NodeT) (p : List Txt) : Option NodeT := if p = [] then none else chgN (fun m => remN m (lastS p)) n (initS p)
theorem last_int {p : List Txt} (hp : p ≠ []) (hl : p.length < big) : IntKind.wrap .i64 (((p.length : Nat) : Int) - 1) = ((p.length - 1 : Nat) : Int) := by
  have : 0 < p.length := List.length_pos_iff.2 hp
  unfold big at hl
  exact wrapN (by omega) (by omega)
theorem fine_addAt {B D E : Nat} {n v m : NodeT} {p : List Txt} (h : Fine B D n) (hv : Fine B E v) (hs : ∀ s, s ∈ p → s.length ≤ B) (hm : addAtN n p v = some m) : Fine (B + 1) (D + (D + E)) m := by
  unfold addAtN at hm
  split at hm
  · cases hm; exact hv.mono (by omega) (by omega)
  · rename_i hp
    have hlast : (lastS p).length ≤ B := by
      unfold lastS
      have : 0 < p.length := List.length_pos_iff.2 hp
      rw [getD_of_lt _ (by omega : p.length - 1 < p.length)]
      exact hs _ (List.getElem_mem _)
    rw [chg_at] at hm
    cases ha : atN n (initS p) with
    | none => rw [ha] at hm; cases hm
    | some inner =>
      rw [ha, Option.bind_some] at hm
      cases hn : addN inner (lastS p) v with
      | none => rw [hn] at hm; cases hm
      | some next =>
        rw [hn, Option.bind_some] at hm
        have hi := fine_at _ h ha
        have hnx := fine_add hi hv hlast hn
        exact fine_chg (B := B + 1) (E := D + E) (initS p) (f := fun _ => some next) (D := D) (n := n) (m := m) (fun D' k k' _ e => by cases e; exact hnx.mono (Nat.le_refl _) (by omega)) (h.mono (by omega) (Nat.le_refl _)) hm
theorem T.spec_addAt {B D E : Nat} {n v : NodeT} (p : List Txt) (hB : B + 1 < lim) (hp : p.length < big) (hs : ∀ s, s ∈ p → s.length ≤ B) (h : Fine B D n) (hv : Fine B E v) : Ev (fun f => G.spec_addAt f n p v) (pairO (addAtN n p v)) := by
  refine Ev.up ?_
  simp only [G.spec_addAt]
  by_cases hp0 : p = []
  · subst hp0
    exact Ev.ct rfl (Ev.bind (T.spec_copyNode (by omega) hv) (Ev.ret _))
  · have hpos : 0 < p.length := List.length_pos_iff.2 hp0
    have hlast : (lastS p).length ≤ B := by
      unfold lastS
      rw [getD_of_lt _ (by omega : p.length - 1 < p.length)]
      exact hs _ (List.getElem_mem _)
    rw [last_int hp0 hp, Int.toNat_natCast]
    unfold addAtN
    rw [if_neg hp0, chg_at]
    have hil : (initS p).length < big := by unfold initS; rw [List.length_take]; omega
    refine Ev.cf (by simpa using hp0) (Ev.chk (by omega) (Ev.bind (T.spec_at (initS p) (by omega) hil h) ?_))
    cases ha : atN n (initS p) with
    | none => exact Ev.cf rfl (Ev.ret _)
    | some inner =>
      have hi := fine_at _ h ha
      have hA := T.spec_addHere (n := inner) (lastS p) (by omega) hi hv
      refine Ev.ct rfl (Ev.chk (by omega) (Ev.bind hA ?_))
      rw [Option.bind_some]
      cases hn : addN inner (lastS p) v with
      | none => exact Ev.cf rfl (Ev.ret _)
      | some next =>
        have hnx := fine_add hi hv hlast hn
        refine Ev.ct rfl (Ev.chk (by omega) (Ev.bind (T.spec_setAt (by omega) hnx (initS p) hil (h.mono (by omega) (Nat.le_refl _))) (Ev.ret _)))
theorem fine_rem {B D : Nat} {n m : NodeT} {s : Txt} (h : Fine B D n) (e : remN n s = some m) : Fine B D m := by
  unfold remN at e
  cases hj : plc n s with
  | none => rw [hj] at e; cases e
  | some j =>
    rw [hj] at e
    cases e
    cases D with
    | zero => exact h.elim
    | succ D =>
    have hjl := plc_lt hj
    have hk := h.kids
    have hn := h.names
    have h1 := dropL_len hjl
    refine ⟨by simp, ?_, fun x hx => ?_, by show (dropL n.Kids j).length ≤ B; omega, fun h4 => ?_, fun k hk' => h.2.2.2.2.2 k ((dropL_sub _ _).subset hk')⟩
    · show (if n.Kind = 4 then dropL n.Names j else []).length ≤ B
      split
      · have := (dropL_sub n.Names j).length_le; omega
      · simp
    · have hx : x ∈ (if n.Kind = 4 then dropL n.Names j else []) := hx
      split at hx
      · exact h.2.2.1 x ((dropL_sub _ _).subset hx)
      · cases hx
    · have h4 : n.Kind = 4 := h4
      have hm := h.map h4
      have h2 := dropL_len (l := n.Names) (k := j) (by omega)
      show (dropL n.Kids j).length ≤ (if n.Kind = 4 then dropL n.Names j else []).length
      rw [if_pos h4]
      omega
theorem T.spec_removeAt {B D : Nat} {n : NodeT} (p : List Txt) (hB : B + 1 < lim) (hp : p.length < big) (h : Fine B D n) : Ev (fun f => G.spec_removeAt f n p) (pairO (remAtN n p)) := by
  have hB2 := hB
  unfold lim at hB2
  refine Ev.up ?_
  simp only [G.spec_removeAt]
  by_cases hp0 : p = []
  · subst hp0
    exact Ev.ct (by rfl) (Ev.ret _)
  · have hpos : 0 < p.length := List.length_pos_iff.2 hp0
    rw [last_int hp0 hp, Int.toNat_natCast]
    unfold remAtN
    rw [if_neg hp0, chg_at]
    have hil : (initS p).length < big := by unfold initS; rw [List.length_take]; omega
    refine Ev.cf (by simp) (Ev.chk (by omega) (Ev.bind (T.spec_at (initS p) (by omega) hil h) ?_))
    cases ha : atN n (initS p) with
    | none => exact Ev.cf rfl (Ev.ret _)
    | some inner =>
      have hi := fine_at _ h ha
      have hk := hi.kids
      have hnm := hi.names
      have hP := T.spec_place (n := inner) (lastS p) (by omega) hi
      refine Ev.ct rfl (Ev.chk (by omega) (Ev.bind hP ?_))
      rw [Option.bind_some]
      cases hj : plc inner (lastS p) with
      | none =>
        unfold remN
        rw [hj]
        exact Ev.ct rfl (Ev.ret _)
      | some j =>
        have hjl := plc_lt hj
        simp only [plcI, pairO, Int.toNat_natCast, wrap_suc (show j + 1 < 9223372036854775808 by omega)]
        have ht : (inner.Kids.take j).length = j := by rw [List.length_take]; omega
        have hd : (inner.Kids.drop (j + 1)).length = inner.Kids.length - (j + 1) := List.length_drop
        refine Ev.cf (decide_eq_false (by omega)) (Ev.chk (by omega) (Ev.chk (by omega) (Ev.chk (by omega) (Ev.chk (by omega) ?_))))
        have key : ∀ (b : Bool) (nm : List Txt), remN inner (lastS p) = some (NodeT.mk inner.Kind 0 [] nm (dropL inner.Kids j)) → Ev (fun f => G.spec_removeAt.K1 f n p (inner, b) (dropL inner.Kids j) nm) (pairO ((remN inner (lastS p)).bind fun m' => setN n (initS p) m')) := by
          intro b nm e
          refine Ev.up ?_
          simp only [G.spec_removeAt.K1]
          rw [last_int hp0 hp, Int.toNat_natCast, e, Option.bind_some]
          exact Ev.chk (by omega) (Ev.bind (T.spec_setAt (by omega) (fine_rem hi e) (initS p) hil h) (Ev.ret _))
        refine Ev.ite (fun e4 => ?_) (fun e4 => ?_)
        · have h4 : inner.Kind = 4 := by simpa using e4
          have hm := hi.map h4
          have ht2 : (inner.Names.take j).length = j := by rw [List.length_take]; omega
          have hd2 : (inner.Names.drop (j + 1)).length = inner.Names.length - (j + 1) := List.length_drop
          refine Ev.chk (by omega) (Ev.chk (by omega) (Ev.chk (by omega) (Ev.chk (by omega) ?_)))
          exact key true (dropL inner.Names j) (by unfold remN; rw [hj]; simp [h4])
        · have h4 : ¬ inner.Kind = 4 := by simpa using e4
          exact key true [] (by unfold remN; rw [hj]; simp [h4])
end Go.Ab
end
section
namespace Go.Ab
open Go
theorem pp_sm {B : Nat} (hB : B ≤ lim) {p : List Txt} (hl : p.length ≤ B) (hs : ∀ s, s ∈ p → s.length ≤ B) : Sm p := by
  unfold lim at hB
  exact ⟨by unfold big; omega, fun s h => by have := hs s h; unfold big; omega⟩
def FineP (B : Nat) (p : List Txt) : Prop := p.length ≤ B ∧ ∀ s, s ∈ p → s.length ≤ B
theorem FineP.sm {B : Nat} (hB : B ≤ lim) {p : List Txt} (h : FineP B p) : Sm p := pp_sm hB h.1 h.2
theorem rem_val {n m : NodeT} {p : List Txt} (h : Val n = true) (e : remAtN n p = some m) : Val m = true := by
  unfold remAtN at e
  split at e
  · cases e
  · obtain ⟨h1, h2⟩ := chg_shape (rem_shape (lastS p)) (initS p) (val_shape h) e
    exact val_of (Nat.le_refl _) h1 (Nat.le_trans h2 (val_cnt h))
end Go.Ab
end
section
namespace Go.Ab
open Go
def OpV (o : OpT) : Bool := (decide (1 ≤ o.Kind) && decide (o.Kind ≤ 6)) && PP o.Path && PP o.From && Val o.Value
theorem hb12 : (12 : Nat) + 1 < lim := by decide
structure FineO (B D : Nat) (o : OpT) : Prop where
  path : FineP B o.Path
  from_ : FineP B o.From
  val : Fine B D o.Value
theorem T.spec_validOp {B D : Nat} {o : OpT} (hB : B ≤ lim) (h : FineO B D o) : Ev (fun f => G.spec_validOp f o) (OpV o) := by
  refine Ev.up ?_
  simp only [G.spec_validOp]
  unfold OpV
  refine Ev.bind (T.spec_inRange _ _ _) (Ev.ite (fun e1 => ?_) (fun e1 => Ev.ret' (by rw [e1]; rfl)))
  refine Ev.bind (T.spec_validPath _ (h.path.sm hB)) (Ev.ite (fun e2 => ?_) (fun e2 => Ev.ret' (by rw [e1, e2]; rfl)))
  refine Ev.bind (T.spec_validPath _ (h.from_.sm hB)) (Ev.ite (fun e3 => ?_) (fun e3 => Ev.ret' (by rw [e1, e2, e3]; rfl)))
  exact Ev.bind (T.spec_validNode hB h.val) (Ev.ret' (by rw [e1, e2, e3]; rfl))
theorem T.impl_isOp {B D : Nat} {o : OpT} (hB : B ≤ lim) (h : FineO B D o) : Ev (fun f => G.impl_isOp f o) (OpV o) := by
  refine Ev.up ?_
  simp only [G.impl_isOp]
  unfold OpV
  refine Ev.ite (fun e0 => ?_) (fun e0 => Ev.ret' (by rw [e0]; rfl))
  refine Ev.ite (fun e1 => ?_) (fun e1 => Ev.ret' (by rw [e0, e1]; rfl))
  refine Ev.bind (T.impl_isPath _ (h.path.sm hB)) (Ev.ite (fun e2 => ?_) (fun e2 => Ev.ret' (by rw [e0, e1, e2]; rfl)))
  refine Ev.bind (T.impl_isPath _ (h.from_.sm hB)) (Ev.ite (fun e3 => ?_) (fun e3 => Ev.ret' (by rw [e0, e1, e2, e3]; rfl)))
  exact Ev.bind (T.impl_ValidNode hB h.val) (Ev.ret' (by rw [e0, e1, e2, e3]; rfl))
end Go.Ab
end
section
namespace Go.Ab
open Go
end Go.Ab
end
section
namespace Go.Ab
open Go
structure RdOK (K : Nat) (r : ReaderT) : Prop where
  len : r.b.length ≤ 2000
  bytes : ∀ x, x ∈ r.b → 0 ≤ x ∧ x < 256
  lo : 0 ≤ r.p
  hi : r.p ≤ (K : Int)
theorem RdOK.mono {K L : Nat} {r : ReaderT} (h : RdOK K r) (hk : K ≤ L) : RdOK L r := ⟨h.len, h.bytes, h.lo, by have := h.hi; omega⟩
theorem ReaderT.eta (r : ReaderT) : ReaderT.mk r.b r.p = r := rfl
theorem xor_ok {X Y : Nat} (hX : X < 4611686018427387904) (hY : Y < 4611686018427387904) :
    ∃ z : Nat, IntKind.wrap .i64 (((BitVec.ofInt (IntKind.bits .i64) (X : Int) ^^^ BitVec.ofInt (IntKind.bits .i64) (Y : Int)).toNat : Nat) : Int) = (z : Int) := by
  have e : ((BitVec.ofInt (IntKind.bits .i64) (X : Int) ^^^ BitVec.ofInt (IntKind.bits .i64) (Y : Int)).toNat) = X ^^^ Y := by
    rw [BitVec.toNat_xor]
    show (BitVec.ofInt 64 (X : Int)).toNat ^^^ (BitVec.ofInt 64 (Y : Int)).toNat = _
    rw [BitVec.toNat_ofInt, BitVec.toNat_ofInt]
    congr 1 <;> omega
  have hlt : X ^^^ Y < 2 ^ 62 := Nat.xor_lt_two_pow (by omega) (by omega)
  exact ⟨X ^^^ Y, by rw [e]; exact wrapN rfl (by omega)⟩
theorem tmod_nat (a b : Nat) : Int.tmod (a : Int) (b : Int) = ((a % b : Nat) : Int) := by
  rw [Int.tmod_eq_emod_of_nonneg (by omega)]; exact (Int.natCast_emod a b).symm
theorem tdiv_nat (a b : Nat) : Int.tdiv (a : Int) (b : Int) = ((a / b : Nat) : Int) := by
  rw [Int.tdiv_eq_ediv_of_nonneg (by omega)]; exact (Int.natCast_ediv a b).symm
theorem T.pick {K m : Nat} {r : ReaderT} (hr : RdOK K r) (hK : K ≤ 1000000000) (hm : 0 < m) (hm2 : m ≤ 1000000000) :
    ∃ (v : Nat) (r' : ReaderT), Ev (fun f => G.spec_reader_pick f r (m : Int)) ((v : Int), r') ∧ v < m ∧ RdOK (K + 1) r' := by
  obtain ⟨b, p⟩ := r
  obtain ⟨h1, h2, h3, h4⟩ := hr
  simp only at h1 h2 h3 h4
  obtain ⟨k, rfl⟩ : ∃ k : Nat, p = k := ⟨p.toNat, by omega⟩
  have hr' : RdOK (K + 1) (ReaderT.mk b ((k + 1 : Nat) : Int)) := ⟨h1, h2, by show (0 : Int) ≤ ((k + 1 : Nat) : Int); omega, by show ((k + 1 : Nat) : Int) ≤ _; omega⟩
  have w1 : IntKind.wrap .i64 ((k : Int) + 1) = ((k + 1 : Nat) : Int) := wrap_suc (by omega)
  have w2 : IntKind.wrap .i64 (((k + 1 : Nat) : Int) - 1) = (k : Int) := wrapN (by omega) (by omega)
  by_cases hb : b.length = 0
  · refine ⟨0, _, Ev.up ?_, hm, hr'⟩
    simp only [G.spec_reader_pick, w1]
    exact Ev.cf (by simp; omega) (Ev.ct (by simpa using hb) (Ev.ret _))
  have byte : ∀ i : Nat, i < b.length → ∃ c : Nat, b.getD i default = (c : Int) ∧ c < 256 := fun i hi => by
    rw [getD_of_lt _ hi]
    have := h2 _ (List.getElem_mem hi)
    exact ⟨b[i].toNat, by omega, by omega⟩
  by_cases hk : k < b.length
  · obtain ⟨c, hc, hc2⟩ := byte k hk
    refine ⟨c % m, _, Ev.up ?_, Nat.mod_lt _ hm, hr'⟩
    simp only [G.spec_reader_pick, w1, w2, Int.toNat_natCast, hc, wrapN (x := (c : Int)) (m := c) rfl (by omega), tmod_nat]
    exact Ev.cf (by simp; omega) (Ev.cf (by simpa using hb) (Ev.ct (by simpa using hk) (Ev.chk (by omega) (Ev.chk (by omega) (Ev.ret _)))))
  · have hlt : k % b.length < b.length := Nat.mod_lt _ (by omega)
    have hlt2 : (k * 7 + 3) % b.length < b.length := Nat.mod_lt _ (by omega)
    obtain ⟨c, hc, hc2⟩ := byte _ hlt
    obtain ⟨d, hd, hd2⟩ := byte _ hlt2
    have hdiv : k / b.length ≤ k := Nat.div_le_self _ _
    have w3 : IntKind.wrap .i64 ((k : Int) * 7) = ((k * 7 : Nat) : Int) := wrapN (by omega) (by omega)
    have w4 : IntKind.wrap .i64 (((k * 7 : Nat) : Int) + 3) = ((k * 7 + 3 : Nat) : Int) := wrapN (by omega) (by omega)
    have w5 : IntKind.wrap .i64 (c : Int) = c := wrapN rfl (by omega)
    have w6 : IntKind.wrap .i64 (d : Int) = d := wrapN rfl (by omega)
    have w7 : IntKind.wrap .i64 ((c : Int) * 131) = ((c * 131 : Nat) : Int) := wrapN (by omega) (by omega)
    have w8 : IntKind.wrap .i64 ((d : Int) * 1117) = ((d * 1117 : Nat) : Int) := wrapN (by omega) (by omega)
    have w9 : IntKind.wrap .i64 (((c * 131 : Nat) : Int) + ((d * 1117 : Nat) : Int)) = ((c * 131 + d * 1117 : Nat) : Int) := wrapN (by omega) (by omega)
    have w10 : IntKind.wrap .i64 ((k : Int) * 29) = ((k * 29 : Nat) : Int) := wrapN (by omega) (by omega)
    have w11 : IntKind.wrap .i64 (((c * 131 + d * 1117 : Nat) : Int) + ((k * 29 : Nat) : Int)) = ((c * 131 + d * 1117 + k * 29 : Nat) : Int) := wrapN (by omega) (by omega)
    have w12 : IntKind.wrap .i64 ((k / b.length : Nat) : Int) = ((k / b.length : Nat) : Int) := wrapN rfl (by omega)
    have w13 : IntKind.wrap .i64 (((k / b.length : Nat) : Int) * 53) = ((k / b.length * 53 : Nat) : Int) := wrapN (by omega) (by omega)
    have w14 : IntKind.wrap .i64 (((c * 131 + d * 1117 + k * 29 : Nat) : Int) + ((k / b.length * 53 : Nat) : Int)) = ((c * 131 + d * 1117 + k * 29 + k / b.length * 53 : Nat) : Int) := wrapN (by omega) (by omega)
    have e64 : (64 : Int) = ((64 : Nat) : Int) := rfl
    have w15 : IntKind.wrap .i64 (Int.tdiv ((c * 131 + d * 1117 + k * 29 + k / b.length * 53 : Nat) : Int) 64) = (((c * 131 + d * 1117 + k * 29 + k / b.length * 53) / 64 : Nat) : Int) := by
      rw [e64, tdiv_nat]; exact wrapN rfl (by omega)
    obtain ⟨z, hz⟩ := xor_ok (X := c * 131 + d * 1117 + k * 29 + k / b.length * 53) (Y := (c * 131 + d * 1117 + k * 29 + k / b.length * 53) / 64) (by omega) (by omega)
    refine ⟨z % m, _, Ev.up ?_, Nat.mod_lt _ hm, hr'⟩
    simp only [G.spec_reader_pick, w1, w2, w3, w4, tmod_nat, tdiv_nat, Int.toNat_natCast, hc, hd, w5, w6, w7, w8, w9, w10, w11, w12, w13, w14, w15, hz]
    exact Ev.cf (by simp; omega) (Ev.cf (by simpa using hb) (Ev.cf (by simp; omega) (Ev.chk (by omega) (Ev.chk (by omega) (Ev.chk (by omega) (Ev.chk (by omega) (Ev.chk (by omega) (Ev.chk (by omega) (Ev.ret _)))))))))
end Go.Ab
end
section
namespace Go.Ab
open Go
theorem T.one {K : Nat} {r : ReaderT} (hr : RdOK K r) (hK : K ≤ 1000000000) (l : List Int) (h0 : 0 < l.length) (h1 : l.length ≤ 1000) :
    ∃ x r', Ev (fun f => G.spec_reader_one f r l) (x, r') ∧ x ∈ l ∧ RdOK (K + 1) r' := by
  obtain ⟨v, r', g, hv, hr'⟩ := T.pick (m := l.length) hr hK h0 (by omega)
  refine ⟨l.getD v default, r', Ev.up ?_, by rw [getD_of_lt _ hv]; exact List.getElem_mem _, hr'⟩
  simp only [G.spec_reader_one]
  refine Ev.bind g (Ev.chk (by simp only; omega) (Ev.ret' ?_))
  rw [Int.toNat_natCast]
theorem T.of {K : Nat} {r : ReaderT} (hr : RdOK K r) (hK : K ≤ 1000000000) (l : List Txt) (h0 : 0 < l.length) (h1 : l.length ≤ 1000) :
    ∃ x r', Ev (fun f => G.spec_reader_of f r l) (x, r') ∧ x ∈ l ∧ RdOK (K + 1) r' := by
  obtain ⟨v, r', g, hv, hr'⟩ := T.pick (m := l.length) hr hK h0 (by omega)
  refine ⟨l.getD v default, r', Ev.up ?_, by rw [getD_of_lt _ hv]; exact List.getElem_mem _, hr'⟩
  simp only [G.spec_reader_of]
  refine Ev.bind g (Ev.chk (by simp only; omega) (Ev.ret' ?_))
  rw [Int.toNat_natCast]
theorem all_len {l : List Txt} {x : Txt} {m : Nat} (h : l.all (fun s => decide (s.length ≤ m)) = true) (hx : x ∈ l) : x.length ≤ m := by
  have := List.all_eq_true.1 h x hx
  simpa using this
theorem T.someText {K : Nat} {r : ReaderT} (hr : RdOK K r) (hK : K ≤ 1000000000) : ∃ x r', Ev (fun f => G.spec_someText f r) (x, r') ∧ x.length ≤ 12 ∧ RdOK (K + 1) r' := by
  obtain ⟨x, r', g, hx, hr'⟩ := T.of hr hK [[97], [98], [], [97, 98, 99], [97, 47, 98], [126], [120, 32, 121], [34, 113, 34], [98, 97, 99, 107, 92, 115], [48], [49], [97, 98, 99, 100, 101, 102, 103, 104, 105, 106, 107, 108]] (by decide) (by decide)
  refine ⟨x, r', Ev.up ?_, all_len (by decide) hx, hr'⟩
  simp only [G.spec_someText]
  exact Ev.bind g (Ev.ret _)
theorem T.someName {K : Nat} {r : ReaderT} (hr : RdOK K r) (hK : K ≤ 1000000000) : ∃ x r', Ev (fun f => G.spec_someName f r) (x, r') ∧ x.length ≤ 12 ∧ RdOK (K + 1) r' := by
  obtain ⟨x, r', g, hx, hr'⟩ := T.of hr hK [[97], [98], [99], [100], [97, 47, 98], [126, 120], [], [107]] (by decide) (by decide)
  refine ⟨x, r', Ev.up ?_, all_len (by decide) hx, hr'⟩
  simp only [G.spec_someName]
  exact Ev.bind g (Ev.ret _)
def stp : Nat → Nat
  | 0 => 4
  | d + 1 => 20 + 6 * stp d
theorem fine_leaf {B : Nat} {n : NodeT} (ht : n.Text.length ≤ B) (hn : n.Names = []) (hk : n.Kids = []) : Fine B 1 n :=
  ⟨ht, by rw [hn]; simp, by rw [hn]; simp, by rw [hk]; simp, by rw [hk]; simp, by rw [hk]; simp⟩
def Drawn (d : Nat) (K : Nat) (F : Nat → Option (NodeT × ReaderT)) : Prop := ∃ m r' D, Ev F (m, r') ∧ Fine (20 + 20 * d) D m ∧ RdOK (K + stp d) r'
theorem T.randomMap.L1 {d M : Nat} (hM : M ≤ 900000000) (hd : d ≤ 10) (hrec : ∀ K r, RdOK K r → K ≤ M → Drawn d K (fun f => G.spec_randomNode f r ((d + 1 : Nat) : Int))) :
    ∀ (j K B D : Nat) (r : ReaderT) (out : NodeT), RdOK K r → K + j * (1 + stp d) ≤ M → 20 + 20 * d ≤ B → B + j ≤ 1000 → Fine B D out →
      ∃ m r' D', Ev (fun f => G.spec_randomMap.L1 f ((d + 2 : Nat) : Int) (j : Int) r.b r.p out.Kind out.Num out.Text out.Names out.Kids) (m, r') ∧ Fine (B + j) D' m ∧ RdOK (K + j * (1 + stp d)) r' := by
  intro j
  induction j with
  | zero =>
    intro K B D r out hr hK hB hB2 hf
    refine ⟨out, r, D, Ev.up ?_, hf, hr.mono (by omega)⟩
    simp only [G.spec_randomMap.L1, NodeT.eta]
    exact Ev.cf (by simp) (Ev.ret _)
  | succ j ih =>
    intro K B D r out hr hK hB hB2 hf
    rw [Nat.add_mul] at hK
    obtain ⟨nm, r1, g1, hn, hr1⟩ := T.someName hr (by omega)
    obtain ⟨kid, r2, E, g2, hk, hr2⟩ := hrec (K + 1) r1 hr1 (by omega)
    have w : IntKind.wrap .i64 (((d + 2 : Nat) : Int) - 1) = ((d + 1 : Nat) : Int) := wrapN (by omega) (by omega)
    have w2 : IntKind.wrap .i64 (((j + 1 : Nat) : Int) - 1) = (j : Int) := wrapN (by omega) (by omega)
    have hP := T.spec_place nm (show B ≤ lim by unfold lim; omega) hf
    have hA := T.spec_addHere (v := kid) (E := E) nm (show B < lim by unfold lim; omega) hf (hk.mono (by omega) (Nat.le_refl _))
    have next : ∃ out2 D2, Ev (fun f => cond (decide (plcI (plc out nm) < 0)) (Option.bind (G.spec_addHere f out nm kid) fun v13 => G.spec_randomMap.L1 f ((d + 2 : Nat) : Int) (j : Int) r2.b r2.p v13.1.Kind v13.1.Num v13.1.Text v13.1.Names v13.1.Kids) (G.spec_randomMap.L1 f ((d + 2 : Nat) : Int) (j : Int) r2.b r2.p out.Kind out.Num out.Text out.Names out.Kids)) out2
        ∧ Fine (B + 1 + j) D2 out2.1 ∧ RdOK (K + 1 + stp d + j * (1 + stp d)) out2.2 := by
      refine Classical.byCases (fun e : decide (plcI (plc out nm) < 0) = true => ?_) (fun e => ?_)
      · have hfx : ∃ D3, Fine (B + 1) D3 (pairO (addN out nm kid)).1 := by
          cases ha : addN out nm kid with
          | none => exact ⟨1, fine_leaf (by simp [pairO, noNode]) rfl rfl⟩
          | some m => exact ⟨_, fine_add hf (hk.mono (by omega) (Nat.le_refl _)) (by omega) ha⟩
        obtain ⟨D3, hfx⟩ := hfx
        obtain ⟨m, r', D', g, hm, hr'⟩ := ih (K + 1 + stp d) (B + 1) D3 r2 _ hr2 (by omega) (by omega) (by omega) hfx
        exact ⟨(m, r'), D', Ev.ct e (Ev.bind hA g), hm, hr'⟩
      · obtain ⟨m, r', D', g, hm, hr'⟩ := ih (K + 1 + stp d) (B + 1) D r2 out hr2 (by omega) (by omega) (by omega) (hf.mono (by omega) (Nat.le_refl _))
        exact ⟨(m, r'), D', Ev.cf (by simpa using e) g, hm, hr'⟩
    obtain ⟨⟨m, r'⟩, D2, g, hm, hr'⟩ := next
    refine ⟨m, r', D2, Ev.up ?_, hm.mono (by omega) (Nat.le_refl _), hr'.mono (by rw [Nat.add_mul]; omega)⟩
    simp only [G.spec_randomMap.L1, NodeT.eta, w, w2]
    refine Ev.ct (by simp) (Ev.bind g1 (Ev.bind g2 (Ev.bind hP g)))
end Go.Ab
end
section
namespace Go.Ab
open Go
def Tot {α : Type} (Q : α → Prop) (F : Nat → Option α) : Prop := ∃ x, Ev F x ∧ Q x
section
variable {α β : Type} {Q : α → Prop} {F F' : Nat → Option α}
theorem Tot.up (h : Tot Q (fun n => F (n + 1))) : Tot Q F := let ⟨x, g, q⟩ := h; ⟨x, Ev.up g, q⟩
theorem Tot.ret {x : α} (h : Q x) : Tot Q (fun _ => some x) := ⟨x, Ev.ret x, h⟩
theorem Tot.bind {P : β → Prop} {h : Nat → Option β} {k : Nat → β → Option α} (h1 : Tot P h) (h2 : ∀ x, P x → Tot Q (fun n => k n x)) : Tot Q (fun n => Option.bind (h n) (k n)) := by
  obtain ⟨x, g, p⟩ := h1
  obtain ⟨y, g', q⟩ := h2 x p
  exact ⟨y, Ev.bind g g', q⟩
theorem Tot.bindE {a : β} {h : Nat → Option β} {k : Nat → β → Option α} (h1 : Ev h a) (h2 : Tot Q (fun n => k n a)) : Tot Q (fun n => Option.bind (h n) (k n)) := by
  obtain ⟨y, g', q⟩ := h2
  exact ⟨y, Ev.bind h1 g', q⟩
theorem Tot.chk {p : Prop} [Decidable p] (hp : p) (h : Tot Q F) : Tot Q (fun n => Ab.chk p (F n)) := let ⟨x, g, q⟩ := h; ⟨x, Ev.chk hp g, q⟩
theorem Tot.ite {c : Bool} (h : c = true → Tot Q F) (h' : c = false → Tot Q F') : Tot Q (fun n => cond c (F n) (F' n)) := by
  cases c
  · exact h' rfl
  · exact h rfl
theorem Tot.mono {P : α → Prop} (h : Tot P F) (hq : ∀ x, P x → Q x) : Tot Q F := let ⟨x, g, q⟩ := h; ⟨x, g, hq x q⟩
end
abbrev Dr {α : Type} (L : Nat) (Q : α → Prop) (F : Nat → Option (α × ReaderT)) : Prop := Tot (fun x => Q x.1 ∧ RdOK L x.2) F
theorem D.pick {K : Nat} {r : ReaderT} (hr : RdOK K r) (hK : K ≤ 1000000000) {M : Int} {m : Nat} (hM : M = (m : Int)) (h0 : 0 < m) (h1 : m ≤ 1000000000) :
    Dr (K + 1) (fun x : Int => ∃ v : Nat, x = (v : Int) ∧ v < m) (fun f => G.spec_reader_pick f r M) := by
  subst hM
  obtain ⟨v, r', g, hv, hr'⟩ := T.pick hr hK h0 h1
  exact ⟨_, g, ⟨v, rfl, hv⟩, hr'⟩
theorem D.one {K : Nat} {r : ReaderT} (hr : RdOK K r) (hK : K ≤ 1000000000) (l : List Int) (h0 : 0 < l.length) (h1 : l.length ≤ 1000) : Dr (K + 1) (fun x : Int => x ∈ l) (fun f => G.spec_reader_one f r l) := by
  obtain ⟨v, r', g, hv, hr'⟩ := T.one hr hK l h0 h1
  exact ⟨_, g, hv, hr'⟩
theorem D.of {K m : Nat} {r : ReaderT} (hr : RdOK K r) (hK : K ≤ 1000000000) (l : List Txt) (h0 : 0 < l.length) (h1 : l.length ≤ 1000) (hm : l.all (fun s => decide (s.length ≤ m)) = true) :
    Dr (K + 1) (fun x : Txt => x.length ≤ m) (fun f => G.spec_reader_of f r l) := by
  obtain ⟨v, r', g, hv, hr'⟩ := T.of hr hK l h0 h1
  exact ⟨_, g, all_len hm hv, hr'⟩
abbrev FineE (B : Nat) (n : NodeT) : Prop := ∃ D, Fine B D n
theorem D.randomMap {d M : Nat} (hM : M ≤ 900000000) (hd : d ≤ 10) (hrec : ∀ K r, RdOK K r → K ≤ M → Drawn d K (fun f => G.spec_randomNode f r ((d + 1 : Nat) : Int)))
    {K : Nat} {r : ReaderT} (hr : RdOK K r) (hK : K + 1 + 4 * (1 + stp d) ≤ M) : Dr (K + 1 + 4 * (1 + stp d)) (FineE (24 + 20 * d)) (fun f => G.spec_randomMap f r ((d + 2 : Nat) : Int)) := by
  refine Tot.up ?_
  simp only [G.spec_randomMap]
  refine Tot.bind (D.one hr (by omega) [2, 3, 1, 0, 4] (by decide) (by decide)) ?_
  rintro ⟨x, r'⟩ ⟨hx, hr'⟩
  obtain ⟨j, rfl, hj⟩ : ∃ j : Nat, x = (j : Int) ∧ j ≤ 4 := ⟨x.toNat, by simp at hx; omega⟩
  have hm : j * (1 + stp d) ≤ 4 * (1 + stp d) := Nat.mul_le_mul_right _ hj
  obtain ⟨m, r2, D', g, hm', hr2⟩ := T.randomMap.L1 hM hd hrec j (K + 1) (20 + 20 * d) 1 r' (NodeT.mk 4 0 [] [] []) hr' (by omega) (Nat.le_refl _) (by omega) (fine_leaf (by simp) rfl rfl)
  exact ⟨(m, r2), g, ⟨D', hm'.mono (by omega) (Nat.le_refl _)⟩, hr2.mono (by omega)⟩
theorem fine_list {B D : Nat} {k : Int} {l : List NodeT} (hk : k ≠ 4) (hl : l.length ≤ B) (h : ∀ x, x ∈ l → Fine B D x) : Fine B (D + 1) (NodeT.mk k 0 [] [] l) :=
  ⟨by simp, by simp, by simp, hl, fun e => absurd e hk, h⟩
theorem D.randomNode.L2 {d M : Nat} (hd : d ≤ 10) (hrec : ∀ K r, RdOK K r → K ≤ M → Drawn d K (fun f => G.spec_randomNode f r ((d + 1 : Nat) : Int))) :
    ∀ (j K D : Nat) (r : ReaderT) (z : List NodeT), RdOK K r → K + j * stp d ≤ M → z.length + j ≤ 10 → (∀ x, x ∈ z → Fine (20 + 20 * d) D x) →
      Dr (K + j * stp d) (FineE (20 + 20 * d)) (fun f => G.spec_randomNode.L2 f ((d + 2 : Nat) : Int) 3 (j : Int) r.b r.p z) := by
  intro j
  induction j with
  | zero =>
    intro K D r z hr hK hz hf
    refine Tot.up ?_
    simp only [G.spec_randomNode.L2]
    exact ⟨_, Ev.cf (by simp) (Ev.ret _), ⟨D + 1, fine_list (by decide) (by omega) hf⟩, hr.mono (by omega)⟩
  | succ j ih =>
    intro K D r z hr hK hz hf
    rw [Nat.add_mul] at hK
    have w : IntKind.wrap .i64 (((d + 2 : Nat) : Int) - 1) = ((d + 1 : Nat) : Int) := wrapN (by omega) (by omega)
    have w2 : IntKind.wrap .i64 (((j + 1 : Nat) : Int) - 1) = (j : Int) := wrapN (by omega) (by omega)
    obtain ⟨kid, r2, E, g2, hk, hr2⟩ := hrec K r hr (by omega)
    refine Tot.up ?_
    simp only [G.spec_randomNode.L2, w, w2]
    obtain ⟨x, g, hx, hr'⟩ := ih (K + stp d) (max D E) r2 (z ++ [kid]) hr2 (by omega) (by simp; omega) (fun x hx => by
      rcases List.mem_append.1 hx with h | h
      · exact (hf x h).mono (Nat.le_refl _) (Nat.le_max_left _ _)
      · simp only [List.mem_singleton] at h; subst h; exact hk.mono (Nat.le_refl _) (Nat.le_max_right _ _))
    exact ⟨x, Ev.ct (by simp) (Ev.bind g2 (Ev.chk (by omega) g)), hx, hr'.mono (by rw [Nat.add_mul]; omega)⟩
theorem D.randomNode.K1 {d k : Nat} (hd : d ≤ 10) (hk : k < 3 ∨ (k < 5 ∧ ∃ e, d = e + 1 ∧ ∀ K r, RdOK K r → K ≤ 900000000 - stp e → Drawn e K (fun f => G.spec_randomNode f r ((e + 1 : Nat) : Int))))
    {K : Nat} {r : ReaderT} (hr : RdOK K r) (hK : K + stp d ≤ 900000002) : Dr (K + stp d - 2) (FineE (20 + 20 * d)) (fun f => G.spec_randomNode.K1 f ((d + 1 : Nat) : Int) (k : Int) r.b r.p) := by
  have h2 : 4 ≤ stp d := by cases d <;> simp only [stp] <;> omega
  refine Tot.up ?_
  simp only [G.spec_randomNode.K1]
  refine Tot.ite (fun e => ?_) (fun e1 => Tot.ite (fun e => ?_) (fun e2 => Tot.ite (fun e => ?_) (fun e3 => Tot.ite (fun e => ?_) (fun e4 => ?_))))
  · refine Tot.bind (D.pick (m := 250) hr (by omega) rfl (by decide) (by decide)) ?_
    rintro ⟨x, r1⟩ ⟨_, hr1⟩
    refine Tot.bind (D.one hr1 (by omega) _ (by simp) (by simp)) ?_
    rintro ⟨y, r2⟩ ⟨_, hr2⟩
    exact Tot.ret ⟨⟨1, fine_leaf (by simp) rfl rfl⟩, hr2.mono (by omega)⟩
  · obtain ⟨x, r1, g, hx, hr1⟩ := T.someText hr (by omega)
    exact Tot.bindE g (Tot.ret ⟨⟨1, fine_leaf (by show x.length ≤ _; omega) rfl rfl⟩, hr1.mono (by omega)⟩)
  · rcases hk with hk | ⟨hk, e', rfl, hrec⟩
    · have : (k : Int) = 3 := by simpa using e
      omega
    · have hk3 : k = 3 := by have : (k : Int) = 3 := by simpa using e
                             omega
      subst hk3
      refine Tot.bind (D.pick (m := 4) hr (by omega) rfl (by decide) (by decide)) ?_
      rintro ⟨x, r1⟩ ⟨⟨j, rfl, hj⟩, hr1⟩
      have hm : j * stp e' ≤ 3 * stp e' := Nat.mul_le_mul_right _ (by omega)
      simp only [stp] at hK h2 ⊢
      refine (D.randomNode.L2 (by omega) hrec j (K + 1) 0 r1 [] hr1 (by omega) (by simp; omega) (fun x h => by cases h)).mono ?_
      rintro ⟨n, r2⟩ ⟨⟨D, hn⟩, hr2⟩
      exact ⟨⟨D, hn.mono (by omega) (Nat.le_refl _)⟩, hr2.mono (by omega)⟩
  · rcases hk with hk | ⟨hk, e', rfl, hrec⟩
    · have : (k : Int) = 4 := by simpa using e
      omega
    · simp only [stp] at hK h2 ⊢
      refine Tot.bind (D.randomMap (Nat.sub_le _ _) (by omega) hrec hr (by omega)) ?_
      rintro ⟨n, r2⟩ ⟨⟨D, hn⟩, hr2⟩
      exact Tot.ret ⟨⟨D, hn.mono (by omega) (Nat.le_refl _)⟩, hr2.mono (by omega)⟩
  · exact Tot.ret ⟨⟨1, fine_leaf (by simp) rfl rfl⟩, hr.mono (by omega)⟩
theorem D.randomNode : ∀ (d : Nat), d ≤ 10 → ∀ K r, RdOK K r → K + stp d ≤ 900000000 → Dr (K + stp d) (FineE (20 + 20 * d)) (fun f => G.spec_randomNode f r ((d + 1 : Nat) : Int))
  | 0, hd, K, r, hr, hK => by
    refine Tot.up ?_
    simp only [G.spec_randomNode]
    refine Tot.bind (D.pick (m := 5) hr (by omega) rfl (by decide) (by decide)) ?_
    rintro ⟨x, r1⟩ ⟨_, hr1⟩
    refine Tot.ite (fun _ => ?_) (fun e => by simp at e)
    refine Tot.bind (D.pick (m := 3) hr1 (by omega) rfl (by decide) (by decide)) ?_
    rintro ⟨y, r2⟩ ⟨⟨k, rfl, hk⟩, hr2⟩
    refine (D.randomNode.K1 (d := 0) (by omega) (.inl hk) (K := K + 2) hr2 (by omega)).mono ?_
    rintro ⟨n, r3⟩ ⟨hn, hr3⟩
    exact ⟨hn, hr3.mono (by omega)⟩
  | d + 1, hd, K, r, hr, hK => by
    refine Tot.up ?_
    simp only [G.spec_randomNode]
    refine Tot.bind (D.pick (m := 5) hr (by omega) rfl (by decide) (by decide)) ?_
    rintro ⟨x, r1⟩ ⟨⟨k, rfl, hk⟩, hr1⟩
    refine Tot.ite (fun e => by simp at e; omega) (fun _ => ?_)
    refine (D.randomNode.K1 (d := d + 1) (by omega) (.inr ⟨hk, d, rfl, fun K' r' hr' hK' => ?_⟩) (K := K + 1) hr1 (by omega)).mono ?_
    · have hs : stp d ≤ 900000000 := by simp only [stp] at hK; omega
      obtain ⟨⟨n, r2⟩, g, ⟨D, hn⟩, hr2⟩ := D.randomNode d (by omega) K' r' hr' (by omega)
      exact ⟨n, r2, D, g, hn, hr2⟩
    · rintro ⟨n, r3⟩ ⟨hn, hr3⟩
      exact ⟨hn, hr3.mono (by omega)⟩
theorem D.node (d : Nat) (hd : d ≤ 2) {M : Int} (hM : M = ((d + 1 : Nat) : Int)) {K : Nat} {r : ReaderT} (hr : RdOK K r) (hK : K ≤ 800000000) : Dr (K + 300) (FineE 60) (fun f => G.spec_randomNode f r M) := by
  subst hM
  have h : stp d ≤ 284 := by
    match d, hd with
    | 0, _ => decide
    | 1, _ => decide
    | 2, _ => decide
  refine (D.randomNode d (by omega) K r hr (by omega)).mono ?_
  rintro ⟨n, r'⟩ ⟨⟨D, hn⟩, hr'⟩
  exact ⟨⟨D, hn.mono (by omega) (Nat.le_refl _)⟩, hr'.mono (by omega)⟩
theorem D.map3 {K : Nat} {r : ReaderT} (hr : RdOK K r) (hK : K ≤ 800000000) : Dr (K + 300) (FineE 60) (fun f => G.spec_randomMap f r 3) := by
  have h1 : stp 1 = 44 := by decide
  refine (D.randomMap (d := 1) (M := 800001000) (by omega) (by decide) (fun K' r' hr' hK' => ?_) hr (by omega)).mono ?_
  · obtain ⟨⟨n, r2⟩, g, ⟨D, hn⟩, hr2⟩ := D.randomNode 1 (by omega) K' r' hr' (by omega)
    exact ⟨n, r2, D, g, hn, hr2⟩
  · rintro ⟨n, r'⟩ ⟨⟨D, hn⟩, hr'⟩
    exact ⟨⟨D, hn.mono (by omega) (Nat.le_refl _)⟩, hr'.mono (by omega)⟩
theorem lim60 : 60 ≤ lim := by decide
theorem val_no : Val noNode = true := by decide
theorem D.someNode.K1 {K : Nat} {r : ReaderT} {n : NodeT} (hr : RdOK K r) (hn : FineE 60 n) : Dr K (fun x => Val x = true) (fun f => G.spec_someNode.K1 f r.b r.p n.Kind n.Num n.Text n.Names n.Kids) := by
  obtain ⟨D, hn⟩ := hn
  refine Tot.up ?_
  simp only [G.spec_someNode.K1, NodeT.eta]
  refine Tot.bindE (T.spec_validNode lim60 hn) (Tot.ite (fun e => Tot.ret ⟨e, hr⟩) (fun _ => Tot.ret ⟨val_no, hr⟩))
theorem D.someNode {K : Nat} {r : ReaderT} (hr : RdOK K r) (hK : K ≤ 700000000) : Dr (K + 601) (fun x => Val x = true) (fun f => G.spec_someNode f r) := by
  refine Tot.up ?_
  simp only [G.spec_someNode]
  refine Tot.bind (D.node 2 (by decide) rfl hr (by omega)) ?_
  rintro ⟨n, r1⟩ ⟨hn, hr1⟩
  refine Tot.bind (D.pick (m := 3) hr1 (by omega) rfl (by decide) (by decide)) ?_
  rintro ⟨x, r2⟩ ⟨_, hr2⟩
  refine Tot.ite (fun _ => ?_) (fun _ => ?_)
  · refine Tot.bind (D.map3 hr2 (by omega)) ?_
    rintro ⟨m, r3⟩ ⟨hm, hr3⟩
    exact (D.someNode.K1 hr3 hm).mono (fun x h => ⟨h.1, h.2.mono (by omega)⟩)
  · exact (D.someNode.K1 hr2 hn).mono (fun x h => ⟨h.1, h.2.mono (by omega)⟩)
theorem D.anyNode.L1 {v : NodeT × ReaderT} (hv : Val v.1 = true) : ∀ (k i K : Nat) (r : ReaderT) (z : List NodeT), i + k = 7 → RdOK K r → K + k + 1 ≤ 900000000 → z.length = i → (∀ x, x ∈ z → Fine 14 5 x) →
    Dr (K + k + 1) (FineE 14) (fun f => G.spec_anyNode.L1 f v (i : Int) r.b r.p z) := by
  intro k
  induction k with
  | zero =>
    intro i K r z hi hr hK hz hf
    refine Tot.up ?_
    simp only [G.spec_anyNode.L1]
    refine Tot.bind (D.pick (m := 2) hr (by omega) rfl (by decide) (by decide)) ?_
    rintro ⟨x, r1⟩ ⟨⟨q, rfl, hq⟩, hr1⟩
    have w : IntKind.wrap .i64 (6 + ((q : Nat) : Int)) = ((6 + q : Nat) : Int) := wrapN (by omega) (by omega)
    simp only [w]
    refine Tot.ite (fun e => by simp at e; omega) (fun _ => Tot.ret ⟨⟨6, fine_list (by decide) (by omega) hf⟩, hr1⟩)
  | succ k ih =>
    intro i K r z hi hr hK hz hf
    refine Tot.up ?_
    simp only [G.spec_anyNode.L1, wrap_suc (show i + 1 < 9223372036854775808 by omega)]
    refine Tot.bind (D.pick (m := 2) hr (by omega) rfl (by decide) (by decide)) ?_
    rintro ⟨x, r1⟩ ⟨_, hr1⟩
    refine Tot.ite (fun _ => ?_) (fun _ => Tot.ret ⟨⟨6, fine_list (by decide) (by omega) hf⟩, hr1.mono (by omega)⟩)
    refine Tot.bindE (T.spec_copyNode lim12 (val_fine hv)) (Tot.chk (by omega) ?_)
    refine (ih (i + 1) (K + 1) r1 (z ++ [v.1]) (by omega) hr1 (by omega) (by simp; omega) (fun x hx => ?_)).mono (fun x h => ⟨h.1, h.2.mono (by omega)⟩)
    rcases List.mem_append.1 hx with h | h
    · exact hf x h
    · simp only [List.mem_singleton] at h; subst h; exact (val_fine hv).mono (by omega) (Nat.le_refl _)
theorem D.anyNode {K : Nat} {r : ReaderT} (hr : RdOK K r) (hK : K ≤ 600000000) : Dr (K + 620) (FineE 14) (fun f => G.spec_anyNode f r) := by
  refine Tot.up ?_
  simp only [G.spec_anyNode]
  refine Tot.bind (D.someNode hr (by omega)) ?_
  rintro ⟨n, r1⟩ ⟨hn, hr1⟩
  replace hn : Val n = true := hn
  have hf := val_fine hn
  obtain ⟨f1, f2, f3, f4, f5, f6⟩ := hf
  have hks : ∀ k, k ∈ n.Kids → Fine 14 4 k := fun k hk => (f6 k hk).mono (by omega) (Nat.le_refl _)
  have hns : ∀ s, s ∈ n.Names → s.length ≤ 14 := fun s hs => Nat.le_trans (f3 s hs) (by omega)
  refine Tot.bind (D.pick (m := 40) hr1 (by omega) rfl (by decide) (by decide)) ?_
  rintro ⟨x, r2⟩ ⟨_, hr2⟩
  refine Tot.ite (fun _ => ?_) (fun _ => Tot.ite (fun _ => ?_) (fun _ => Tot.ite (fun _ => ?_) (fun _ => Tot.ite (fun _ => ?_) (fun _ => Tot.ite (fun _ => ?_) (fun _ => Tot.ite (fun _ => ?_) (fun _ => ?_))))))
  · refine Tot.bind (D.one hr2 (by omega) _ (by decide) (by decide)) ?_
    rintro ⟨y, r3⟩ ⟨hy, hr3⟩
    refine Tot.ret ⟨⟨5, by show n.Text.length ≤ 14; omega, by show n.Names.length ≤ 14; omega, hns, by show n.Kids.length ≤ 14; omega, fun e => ?_, hks⟩, hr3.mono (by omega)⟩
    have e : y = 4 := e
    subst e
    simp at hy
  · refine Tot.bind (D.one hr2 (by omega) _ (by decide) (by decide)) ?_
    rintro ⟨y, r3⟩ ⟨hy, hr3⟩
    exact Tot.ret ⟨⟨5, by show n.Text.length ≤ 14; omega, by show n.Names.length ≤ 14; omega, hns, by show n.Kids.length ≤ 14; omega, f5, hks⟩, hr3.mono (by omega)⟩
  · exact Tot.ret ⟨⟨5, by simp, by show n.Names.length ≤ 14; omega, hns, by show n.Kids.length ≤ 14; omega, f5, hks⟩, hr2.mono (by omega)⟩
  · refine Tot.chk (by simp only; omega) (Tot.ret ⟨⟨5, by show n.Text.length ≤ 14; omega, by show (n.Names ++ [[]]).length ≤ 14; simp; omega, fun s hs => ?_, by show n.Kids.length ≤ 14; omega, fun e => ?_, hks⟩, hr2.mono (by omega)⟩)
    · rcases List.mem_append.1 hs with h | h
      · exact hns s h
      · simp only [List.mem_singleton] at h; subst h; simp
    · have := f5 e
      show n.Kids.length ≤ (n.Names ++ [[]]).length
      simp; omega
  · have h0 : Fine 14 5 n := (val_fine hn).mono (by omega) (Nat.le_refl _)
    have up : ∀ {D m}, Fine 14 D m → Fine 14 (D + 1) (NodeT.mk 3 0 [] [] [m]) := fun hm => fine_list (by decide) (by simp) (fun x hx => by simp only [List.mem_singleton] at hx; subst hx; exact hm)
    exact Tot.ret ⟨⟨9, up (up (up (up h0)))⟩, hr2.mono (by omega)⟩
  · exact (D.anyNode.L1 (v := (n, r1)) hn 7 0 (K + 601 + 1) r2 [] (by omega) hr2 (by omega) rfl (fun x h => by cases h)).mono (fun x h => ⟨h.1, h.2.mono (by omega)⟩)
  · exact Tot.ret ⟨⟨5, (val_fine hn).mono (by omega) (Nat.le_refl _)⟩, hr2.mono (by omega)⟩
end Go.Ab
end
section
namespace Go.Ab
open Go
theorem D.anyPath.L1 : ∀ (j K : Nat) (r : ReaderT) (z : List Txt), RdOK K r → K + j + 2 ≤ 900000000 → z.length + j ≤ 6 → (∀ s, s ∈ z → s.length ≤ 13) →
    Dr (K + j + 2) (FineP 13) (fun f => G.spec_anyPath.L1 f (j : Int) r.b r.p z) := by
  intro j
  induction j with
  | zero =>
    intro K r z hr hK hz hs
    refine Tot.up ?_
    simp only [G.spec_anyPath.L1]
    refine Tot.ite (fun e => by simp at e) (fun _ => Tot.ite (fun e => ?_) (fun _ => Tot.ret ⟨⟨by show z.length ≤ 13; omega, hs⟩, hr.mono (by omega)⟩))
    refine Tot.bind (D.pick (m := 20) hr (by omega) rfl (by decide) (by decide)) ?_
    rintro ⟨x, r1⟩ ⟨_, hr1⟩
    refine Tot.ite (fun _ => ?_) (fun _ => Tot.ret ⟨⟨by show z.length ≤ 13; omega, hs⟩, hr1.mono (by omega)⟩)
    refine Tot.bind (D.of (m := 13) hr1 (by omega) _ (by decide) (by decide) (by decide)) ?_
    rintro ⟨y, r2⟩ ⟨hy, hr2⟩
    refine Tot.chk (by simp at e; omega) (Tot.ret ⟨⟨by show (z.set 0 y).length ≤ 13; simp; omega, fun s h => ?_⟩, hr2.mono (by omega)⟩)
    rcases List.mem_or_eq_of_mem_set h with h | rfl
    · exact hs s h
    · exact hy
  | succ j ih =>
    intro K r z hr hK hz hs
    have w2 : IntKind.wrap .i64 (((j + 1 : Nat) : Int) - 1) = (j : Int) := wrapN (by omega) (by omega)
    refine Tot.up ?_
    simp only [G.spec_anyPath.L1, w2]
    refine Tot.ite (fun _ => ?_) (fun e => by simp at e)
    refine Tot.bind (D.of (m := 13) hr (by omega) _ (by decide) (by decide) (by decide)) ?_
    rintro ⟨y, r1⟩ ⟨hy, hr1⟩
    refine Tot.chk (by omega) ?_
    refine (ih (K + 1) r1 (z ++ [y]) hr1 (by omega) (by simp; omega) (fun s h => ?_)).mono (fun x h => ⟨h.1, h.2.mono (by omega)⟩)
    rcases List.mem_append.1 h with h | h
    · exact hs s h
    · simp only [List.mem_singleton] at h; subst h; exact hy
theorem D.anyPath {K : Nat} {r : ReaderT} (hr : RdOK K r) (hK : K ≤ 800000000) : Dr (K + 9) (FineP 13) (fun f => G.spec_anyPath f r) := by
  refine Tot.up ?_
  simp only [G.spec_anyPath]
  refine Tot.bind (D.one hr (by omega) [1, 2, 1, 0, 3, 5, 6] (by decide) (by decide)) ?_
  rintro ⟨x, r'⟩ ⟨hx, hr'⟩
  obtain ⟨j, rfl, hj⟩ : ∃ j : Nat, x = (j : Int) ∧ j ≤ 6 := ⟨x.toNat, by simp at hx; omega⟩
  exact (D.anyPath.L1 j (K + 1) r' [] hr' (by omega) (by simp; omega) (fun s h => by cases h)).mono (fun x h => ⟨h.1, h.2.mono (by omega)⟩)
def Few (m d : Nat) (l : List (List Txt)) : Prop := l.length ≤ m ∧ ∀ p, p ∈ l → p.length ≤ d ∧ ∀ s, s ∈ p → s.length ≤ 12
theorem few_add {m d k : Nat} {l : List (List Txt)} {s : Txt} {p : List Txt} (h : Few (m + k) (d + 1) l) (hl : l.length < m + k) (hs : s.length ≤ 12) (hp : p.length ≤ d ∧ ∀ s, s ∈ p → s.length ≤ 12) : Few (m + k) (d + 1) (l ++ [[s] ++ p]) := by
  refine ⟨by simp; omega, fun q hq => ?_⟩
  rcases List.mem_append.1 hq with h' | h'
  · exact h.2 q h'
  · simp only [List.mem_singleton] at h'
    subst h'
    refine ⟨by simp; omega, fun t ht => ?_⟩
    rcases List.mem_append.1 ht with h' | h'
    · simp only [List.mem_singleton] at h'; subst h'; exact hs
    · exact hp.2 t h'
theorem D.all.L7 {n : NodeT} {i M d : Nat} {s : Txt} {v : List (List Txt)} {Q : List (List Txt) → Prop} (hv : Few M d v) (hM : M ≤ 20000) (hd : d ≤ 5) (hs : s.length ≤ 12) (C : Nat) (hC : C ≤ 900000)
    (next : ∀ z, Few (C + M) (d + 1) z → Tot Q (fun f => G.spec_all.L5 f n (IntKind.wrap .i64 ((i : Int) + 1)) z)) :
    ∀ (k j : Nat) (z : List (List Txt)), j + k = v.length → Few (C + j) (d + 1) z → Tot Q (fun f => G.spec_all.L7 f n (i : Int) s v (j : Int) z) := by
  have hl := hv.1
  intro k
  induction k with
  | zero =>
    intro j z hj hz
    refine Tot.up ?_
    simp only [G.spec_all.L7]
    refine Tot.ite (fun e => by simp at e; omega) (fun _ => next z ⟨by have := hz.1; omega, hz.2⟩)
  | succ k ih =>
    intro j z hj hz
    have hjv : j < v.length := by omega
    have hp := hv.2 _ (List.getElem_mem hjv)
    have hz1 := hz.1
    refine Tot.up ?_
    simp only [G.spec_all.L7, Int.toNat_natCast, wrap_suc (show j + 1 < 9223372036854775808 by omega), getD_of_lt _ hjv]
    refine Tot.ite (fun _ => ?_) (fun e => by simp at e; omega)
    refine Tot.chk (by omega) (Tot.chk (by omega) (Tot.chk (by omega) ?_))
    refine ih (j + 1) _ (by omega) ?_
    exact few_add (m := C) (k := j + 1) ⟨by omega, hz.2⟩ (by omega) hs hp
theorem D.all : ∀ (d : Nat) {n : NodeT}, d ≤ 5 → Shape d n = true → Tot (Few (7 ^ d) d) (fun f => G.spec_all f n)
  | 0, _, _, h => by cases h
  | d + 1, n, hd, h => by
    have hk := shape_len h
    have hf := shape_fine h
    have h7 := pow_le (show d ≤ 5 by omega)
    have hns : ∀ i, i < n.Names.length → (n.Names.getD i default).length ≤ 12 := fun i hi => by
      rw [getD_of_lt _ hi]; exact hf.2.2.1 _ (List.getElem_mem hi)
    have L5 : ∀ (k i : Nat) (z : List (List Txt)), i + k = n.Kids.length → Few (1 + i * 7 ^ d) (d + 1) z → Tot (Few (7 ^ (d + 1)) (d + 1)) (fun f => G.spec_all.L5 f n (i : Int) z) := by
      intro k
      induction k with
      | zero =>
        intro i z hi hz
        have hm : i * 7 ^ d ≤ 6 * 7 ^ d := Nat.mul_le_mul_right _ (by omega)
        have h1 : 0 < 7 ^ d := Nat.pow_pos (by omega)
        refine Tot.up ?_
        simp only [G.spec_all.L5]
        refine Tot.ite (fun e => by simp at e; omega) (fun _ => Tot.ret ⟨?_, hz.2⟩)
        have := hz.1
        rw [Nat.pow_succ]; omega
      | succ k ih =>
        intro i z hi hz
        have hm : i * 7 ^ d ≤ 6 * 7 ^ d := Nat.mul_le_mul_right _ (by omega)
        have K6 : ∀ s : Txt, s.length ≤ 12 → Tot (Few (7 ^ (d + 1)) (d + 1)) (fun f => G.spec_all.K6 f n (i : Int) z s) := fun s hs => by
          refine Tot.up ?_
          simp only [G.spec_all.K6, Int.toNat_natCast]
          refine Tot.chk (by omega) (Tot.bind (D.all d (by omega) (shape_kid h (j := i) (by omega))) ?_)
          intro v hv
          refine D.all.L7 hv (by omega) (by omega) hs (1 + i * 7 ^ d) (by omega) (fun z' hz' => ?_) v.length 0 z (by omega) hz
          rw [wrap_suc (by omega)]
          exact ih (i + 1) z' (by omega) ⟨by have := hz'.1; rw [Nat.add_mul]; omega, hz'.2⟩
        refine Tot.up ?_
        simp only [G.spec_all.L5, Int.toNat_natCast]
        refine Tot.ite (fun _ => ?_) (fun e => by simp at e; omega)
        refine Tot.bindE (T.decimal (i := i) (by unfold lim; omega)) (Tot.ite (fun e => ?_) (fun _ => ?_))
        · have h4 : n.Kind = 4 := by simpa using e
          have hnl := shape_names h h4
          exact Tot.chk (by omega) (K6 _ (hns i (by omega)))
        · exact K6 _ (by unfold decN; rw [if_pos (by omega)]; simp)
    refine Tot.up ?_
    simp only [G.spec_all]
    exact L5 n.Kids.length 0 [[]] (by omega) ⟨by simp, fun p hp => by simp only [List.mem_singleton] at hp; subst hp; exact ⟨by simp, fun s hs => by cases hs⟩⟩
theorem D.AllPaths {B E : Nat} {n : NodeT} (hB : B ≤ lim) (h : Fine B E n) : Tot (Few (7 ^ 5) 5) (fun f => G.spec_AllPaths f n) := by
  refine Tot.up ?_
  simp only [G.spec_AllPaths]
  refine Tot.bindE (T.spec_validNode hB h) (Tot.ite (fun e => ?_) (fun _ => Tot.ret ⟨by simp, fun p hp => by cases hp⟩))
  exact Tot.bind (D.all 5 (by omega) (val_shape e)) (fun v hv => Tot.ret hv)
theorem D.pathIn {K B E : Nat} {r : ReaderT} {n : NodeT} (hB : B ≤ lim) (h : Fine B E n) (hr : RdOK K r) (hK : K ≤ 700000000) : Dr (K + 10) (FineP 13) (fun f => G.spec_pathIn f r n) := by
  refine Tot.up ?_
  simp only [G.spec_pathIn]
  refine Tot.bind (D.AllPaths hB h) ?_
  intro l hl
  have h7 : (7 : Nat) ^ 5 = 16807 := by decide
  have hl1 := hl.1
  refine Tot.ite (fun e => ?_) (fun _ => ?_)
  · have hl0 : 0 < l.length := by simpa using e
    refine Tot.bind (D.pick (m := 4) hr (by omega) rfl (by decide) (by decide)) ?_
    rintro ⟨x, r1⟩ ⟨_, hr1⟩
    refine Tot.ite (fun _ => ?_) (fun _ => ?_)
    · refine Tot.bind (D.pick (m := l.length) hr1 (by omega) rfl hl0 (by omega)) ?_
      rintro ⟨y, r2⟩ ⟨⟨q, rfl, hq⟩, hr2⟩
      have hp := hl.2 _ (List.getElem_mem hq)
      refine Tot.chk (by simp only; omega) (Tot.ret ⟨?_, hr2.mono (by omega)⟩)
      simp only [Int.toNat_natCast, getD_of_lt _ hq]
      exact ⟨by omega, fun s hs => Nat.le_trans (hp.2 s hs) (by omega)⟩
    · exact Tot.bind (D.anyPath hr1 (by omega)) (fun x h => Tot.ret ⟨h.1, h.2.mono (by omega)⟩)
  · exact Tot.bind (D.anyPath hr (by omega)) (fun x h => Tot.ret ⟨h.1, h.2.mono (by omega)⟩)
end Go.Ab
end
section
namespace Go.Ab
open Go
abbrev FineOE (o : OpT) : Prop := ∃ E, FineO 60 E o
theorem FineP.mono {B C : Nat} {p : List Txt} (h : FineP B p) (hB : B ≤ C) : FineP C p := ⟨Nat.le_trans h.1 hB, fun s hs => Nat.le_trans (h.2 s hs) hB⟩
theorem fineP_nil : FineP 13 [] := ⟨by simp, fun s h => by cases h⟩
theorem fine_no : Fine 60 1 (NodeT.mk 0 0 [] [] []) := fine_leaf (by simp) rfl rfl
section
variable {v1 : Int × ReaderT} {v2 : List Txt × ReaderT} {K : Nat} {r : ReaderT} {fr : List Txt} {m : NodeT}
theorem D.someOp.K4 (hp : FineP 13 v2.1) (hf : FineP 13 fr) (hm : FineE 60 m) (hr : RdOK K r) (hK : K ≤ 900000000) (t : Bool) (ht : t = true → v2.1.length < 4) :
    Dr (K + 1) FineOE (fun f => G.spec_someOp.K4 f v1 v2 fr m.Kind m.Num m.Text m.Names m.Kids t r.b r.p) := by
  obtain ⟨E, hm⟩ := hm
  have hl := hp.1
  refine Tot.up ?_
  simp only [G.spec_someOp.K4, NodeT.eta]
  refine Tot.ite (fun e => ?_) (fun _ => Tot.ret ⟨⟨E, hp.mono (by omega), hf.mono (by omega), hm⟩, hr.mono (by omega)⟩)
  have h4 := ht e
  refine Tot.chk (by omega) (Tot.bind (D.of (m := 13) hr (by omega) _ (by decide) (by decide) (by decide)) ?_)
  rintro ⟨y, r1⟩ ⟨hy, hr1⟩
  refine Tot.chk (by omega) (Tot.ret ⟨⟨E, ⟨by show (v2.1 ++ [y]).length ≤ 60; simp; omega, fun s hs => ?_⟩, hf.mono (by omega), hm⟩, hr1⟩)
  rcases List.mem_append.1 hs with h | h
  · exact Nat.le_trans (hp.2 s h) (by omega)
  · simp only [List.mem_singleton] at h; subst h; exact Nat.le_trans hy (by omega)
theorem D.someOp.K3 (hp : FineP 13 v2.1) (hf : FineP 13 fr) (hm : FineE 60 m) (hr : RdOK K r) (hK : K ≤ 800000000) :
    Dr (K + 2) FineOE (fun f => G.spec_someOp.K3 f v1 v2 r.b r.p fr m.Kind m.Num m.Text m.Names m.Kids) := by
  refine Tot.up ?_
  simp only [G.spec_someOp.K3]
  have go : ∀ {g : Nat → Option (OpT × ReaderT)}, v2.1.length < 4 → Dr (K + 2) FineOE (fun f => Option.bind (G.spec_reader_pick f r 2) fun v => G.spec_someOp.K4 f v1 v2 fr m.Kind m.Num m.Text m.Names m.Kids (v.1 == 0) v.2.b v.2.p) := fun {g} h4 => by
    refine Tot.bind (D.pick (m := 2) hr (by omega) rfl (by decide) (by decide)) ?_
    rintro ⟨x, r1⟩ ⟨_, hr1⟩
    exact D.someOp.K4 hp hf hm hr1 (by omega) _ (fun _ => h4)
  have no : Dr (K + 2) FineOE (fun f => G.spec_someOp.K4 f v1 v2 fr m.Kind m.Num m.Text m.Names m.Kids false r.b r.p) :=
    (D.someOp.K4 hp hf hm hr (by omega) false (fun h => by cases h)).mono (fun x h => ⟨h.1, h.2.mono (by omega)⟩)
  refine Tot.ite (fun e => ?_) (fun _ => no)
  have h4 : v2.1.length < 4 := by simp at e; omega
  exact Tot.ite (fun _ => go (g := fun _ => none) h4) (fun _ => Tot.ite (fun _ => go (g := fun _ => none) h4) (fun _ => Tot.ite (fun _ => go (g := fun _ => none) h4) (fun _ => no)))
theorem D.someOp.K6 {B E : Nat} {n : NodeT} (hB : B ≤ lim) (hn : Fine B E n) (hp : FineP 13 v2.1) (hr : RdOK K v2.2) (hK : K ≤ 700000000) (t : Bool) :
    Dr (K + 12) FineOE (fun f => G.spec_someOp.K6 f n v1 v2 t) := by
  refine Tot.up ?_
  simp only [G.spec_someOp.K6]
  refine Tot.ite (fun _ => ?_) (fun _ => (D.someOp.K3 (m := NodeT.mk 0 0 [] [] []) hp fineP_nil ⟨1, fine_no⟩ hr (by omega)).mono (fun x h => ⟨h.1, h.2.mono (by omega)⟩))
  refine Tot.bind (D.pathIn hB hn hr (by omega)) ?_
  rintro ⟨p, r1⟩ ⟨hq, hr1⟩
  exact D.someOp.K3 (m := NodeT.mk 0 0 [] [] []) hp hq ⟨1, fine_no⟩ hr1 (by omega)
theorem D.someOp.K5 {E : Nat} {n : NodeT} (hn : Fine 60 E n) (hp : FineP 13 v2.1) (hr : RdOK K v2.2) (hK : K ≤ 700000000) (t : Bool) :
    Dr (K + 302) FineOE (fun f => G.spec_someOp.K5 f n v1 v2 t) := by
  refine Tot.up ?_
  simp only [G.spec_someOp.K5]
  have no : ∀ {r K'}, RdOK K' r → K' ≤ K + 1 → Dr (K + 302) FineOE (fun f => G.spec_someOp.K3 f v1 v2 r.b r.p [] 0 0 [] [] []) := fun {r K'} h h' =>
    (D.someOp.K3 (m := NodeT.mk 0 0 [] [] []) hp fineP_nil ⟨1, fine_no⟩ h (by omega)).mono (fun x h => ⟨h.1, h.2.mono (by omega)⟩)
  refine Tot.ite (fun _ => ?_) (fun _ => Tot.ite (fun _ => ?_) (fun _ => ?_))
  · refine Tot.bind (D.node 1 (by decide) rfl hr (by omega)) ?_
    rintro ⟨m, r1⟩ ⟨hm, hr1⟩
    exact D.someOp.K3 hp fineP_nil hm hr1 (by omega)
  · refine Tot.bindE (T.spec_at v2.1 lim60 (by have := hp.1; unfold big; omega) hn) ?_
    cases ha : atN n v2.1 with
    | none => exact no hr (by omega)
    | some t =>
      refine Tot.bind (D.pick (m := 3) hr (by omega) rfl (by decide) (by decide)) ?_
      rintro ⟨x, r1⟩ ⟨_, hr1⟩
      refine Tot.ite (fun _ => ?_) (fun _ => no hr1 (by omega))
      exact (D.someOp.K3 hp fineP_nil ⟨E, fine_at _ hn ha⟩ hr1 (by omega)).mono (fun x h => ⟨h.1, h.2.mono (by omega)⟩)
  · refine Tot.ite (fun _ => ?_) (fun _ => ?_)
    · exact (D.someOp.K6 lim60 hn hp hr hK true).mono (fun x h => ⟨h.1, h.2.mono (by omega)⟩)
    · exact (D.someOp.K6 lim60 hn hp hr hK _).mono (fun x h => ⟨h.1, h.2.mono (by omega)⟩)
end
theorem D.someOp {K E : Nat} {r : ReaderT} {n : NodeT} (hn : Fine 60 E n) (hr : RdOK K r) (hK : K ≤ 600000000) : Dr (K + 320) FineOE (fun f => G.spec_someOp f r n) := by
  refine Tot.up ?_
  simp only [G.spec_someOp]
  refine Tot.bind (D.pick (m := 6) hr (by omega) rfl (by decide) (by decide)) ?_
  rintro ⟨x, r1⟩ ⟨_, hr1⟩
  refine Tot.bind (D.pathIn lim60 hn hr1 (by omega)) ?_
  rintro ⟨p, r2⟩ ⟨hp, hr2⟩
  exact Tot.ite (fun _ => (D.someOp.K5 (v2 := (p, r2)) hn hp hr2 (by omega) true).mono (fun x h => ⟨h.1, h.2.mono (by omega)⟩)) (fun _ => (D.someOp.K5 (v2 := (p, r2)) hn hp hr2 (by omega) _).mono (fun x h => ⟨h.1, h.2.mono (by omega)⟩))
def Bytes (l : List Int) : Prop := ∀ z, z ∈ l → 0 ≤ z ∧ z < 256
theorem D.newReader {c : List Int} (hc : Bytes c) (hl : c.length ≤ 1048576) : Tot (RdOK 0) (fun f => G.spec_newReader f c) := by
  refine Tot.up ?_
  simp only [G.spec_newReader]
  refine Tot.ite (fun e => ?_) (fun e => ?_)
  · have h : 2000 < c.length := by simp at e; omega
    exact Tot.chk (by omega) (Tot.ret ⟨by show (c.take 2000).length ≤ 2000; simp; omega, fun z hz => hc z (List.mem_of_mem_take hz), Int.le_refl _, Int.le_refl _⟩)
  · have h : c.length ≤ 2000 := by simp at e; omega
    exact Tot.ret ⟨h, hc, Int.le_refl _, Int.le_refl _⟩
structure NO (n : NodeT) (o : OpT) : Prop where
  node : ∃ E, Fine 60 E n
  op : ∃ E, FineO 60 E o
theorem T.laws_equalTexts.L1 {a b : List Txt} (hl : a.length = b.length) (hb : a.length < big) : ∀ (k i : Nat), i + k = a.length → Ev (fun f => G.laws_equalTexts.L1 f a b i) (decide (a.drop i = b.drop i)) := by
  unfold big at hb
  intro k
  induction k with
  | zero =>
    intro i hi
    refine Ev.up ?_
    simp only [G.laws_equalTexts.L1]
    refine Ev.cf (by simp; omega) (Ev.ret' ?_)
    rw [List.drop_of_length_le (by omega), List.drop_of_length_le (by omega)]
    simp
  | succ k ih =>
    intro i hi
    refine Ev.up ?_
    simp only [G.laws_equalTexts.L1, Int.toNat_natCast, wrap_suc (show i + 1 < 9223372036854775808 by omega)]
    refine Ev.ct (by simp; omega) (Ev.chk (by omega) (Ev.chk (by omega) ?_))
    rw [drop_of_lt (default : Txt) (by omega : i < a.length), drop_of_lt (default : Txt) (by omega : i < b.length)]
    refine Ev.ite (fun e => (ih (i + 1) (by omega)).eq ?_) (fun e => Ev.ret' ?_)
    · have e : a.getD i default = b.getD i default := by simpa using e
      rw [e]; simp
    · have e : a.getD i default ≠ b.getD i default := by simpa using e
      symm
      exact decide_eq_false (fun h => e (List.cons.inj h).1)
theorem T.laws_equalTexts {a b : List Txt} (hb : a.length < big) : Ev (fun f => G.laws_equalTexts f a b) (decide (a = b)) := by
  refine Ev.up ?_
  simp only [G.laws_equalTexts]
  refine Ev.ite (fun e => Ev.ret' ?_) (fun e => ?_)
  · have e : a.length ≠ b.length := fun h => by rw [h] at e; simp at e
    symm
    exact decide_eq_false (fun h => e (by rw [h]))
  · have e : ((a.length : Nat) : Int) = ((b.length : Nat) : Int) := by simpa using e
    exact T.laws_equalTexts.L1 (by omega) hb a.length 0 (by omega)
end Go.Ab
end
section
namespace Go.Ab
open Go
theorem NO.fine {n : NodeT} {o : OpT} (h : NO n o) : ∃ E, Fine 60 E n ∧ FineO 60 E o := by
  obtain ⟨⟨E, hn⟩, ⟨F, ho⟩⟩ := h
  exact ⟨max E F, hn.mono (Nat.le_refl _) (Nat.le_max_left _ _), ho.path, ho.from_, ho.val.mono (Nat.le_refl _) (Nat.le_max_right _ _)⟩
theorem fine_val {n : NodeT} (h : Val n = true) : Fine 60 5 n := (val_fine h).mono (by omega) (Nat.le_refl _)
theorem OpT.eta (o : OpT) : OpT.mk o.Kind o.Path o.From o.Value = o := rfl
def PatV (l : List OpT) : Bool := l.all OpV && decide (l.length ≤ 12)
def FineL (l : List OpT) : Prop := l.length ≤ 1000 ∧ ∀ o, o ∈ l → FineOE o
theorem getD_mem {α : Type} {l : List α} {i : Nat} (d : α) (h : i < l.length) : l.getD i d ∈ l := by rw [getD_of_lt d h]; exact List.getElem_mem h
theorem T.impl_arePatchOps.L1 {l : List OpT} (h : FineL l) : ∀ (k i : Nat), i + k = l.length → Ev (fun f => G.impl_arePatchOps.L1 f l i) ((l.drop i).all OpV) := by
  obtain ⟨hl, ho⟩ := h
  intro k
  induction k with
  | zero =>
    intro i hi
    refine Ev.up ?_
    simp only [G.impl_arePatchOps.L1]
    refine Ev.cf (by simp; omega) (Ev.ret' ?_)
    rw [List.drop_of_length_le (by omega)]; rfl
  | succ k ih =>
    intro i hi
    have hlt : i < l.length := by omega
    refine Ev.up ?_
    simp only [G.impl_arePatchOps.L1, Int.toNat_natCast, OpT.eta, wrap_suc (show i + 1 < 9223372036854775808 by omega)]
    obtain ⟨E, hf⟩ := ho _ (getD_mem default hlt)
    refine Ev.ct (by simpa using hlt) (Ev.chk (by omega) (Ev.bind (T.impl_isOp lim60 hf) ?_))
    rw [drop_of_lt (default : OpT) hlt, List.all_cons]
    refine Ev.ite (fun e => ?_) (fun e => ?_)
    · rw [e, Bool.true_and]; exact ih (i + 1) (by omega)
    · rw [e, Bool.false_and]; exact Ev.ret _
theorem T.impl_arePatchOps {l : List OpT} (h : FineL l) : Ev (fun f => G.impl_arePatchOps f l) (PatV l) := by
  refine Ev.up ?_
  simp only [G.impl_arePatchOps]
  have hL := T.impl_arePatchOps.L1 h l.length 0 (by omega)
  unfold PatV
  refine Ev.ite (fun e => Ev.ret' ?_) (fun e => ?_)
  · have : ¬ l.length ≤ 12 := by simp at e; omega
    simp [this]
  · have : l.length ≤ 12 := by simp at e; omega
    simp only [this, decide_true, Bool.and_true]
    exact hL
theorem T.spec_validPatch.L1 {l : List OpT} (h : FineL l) : ∀ (k i : Nat), i + k = l.length → Ev (fun f => G.spec_validPatch.L1 f l i) ((l.drop i).all OpV && decide (l.length ≤ 12)) := by
  obtain ⟨hl, ho⟩ := h
  intro k
  induction k with
  | zero =>
    intro i hi
    refine Ev.up ?_
    simp only [G.spec_validPatch.L1]
    refine Ev.cf (by simp; omega) (Ev.ret' ?_)
    rw [List.drop_of_length_le (by omega), List.all_nil, Bool.true_and]
    simp; omega
  | succ k ih =>
    intro i hi
    have hlt : i < l.length := by omega
    refine Ev.up ?_
    simp only [G.spec_validPatch.L1, Int.toNat_natCast, OpT.eta, wrap_suc (show i + 1 < 9223372036854775808 by omega)]
    obtain ⟨E, hf⟩ := ho _ (getD_mem default hlt)
    refine Ev.ct (by simpa using hlt) (Ev.chk (by omega) (Ev.bind (T.spec_validOp lim60 hf) ?_))
    rw [drop_of_lt (default : OpT) hlt, List.all_cons]
    refine Ev.ite (fun e => ?_) (fun e => ?_)
    · rw [e, Bool.true_and]; exact ih (i + 1) (by omega)
    · rw [e, Bool.false_and]; exact Ev.ret _
theorem T.spec_validPatch {l : List OpT} (h : FineL l) : Ev (fun f => G.spec_validPatch f l) (PatV l) := by
  refine Ev.up ?_
  simp only [G.spec_validPatch]
  exact T.spec_validPatch.L1 h l.length 0 (by omega)
end Go.Ab
end
section
namespace Go.Ab
open Go
set_option maxRecDepth 100000
theorem fineL_nil : FineL [] := ⟨by simp, fun o h => by cases h⟩
end Go.Ab
end
section
namespace Go.Ab
open Go
set_option maxRecDepth 100000
def Srt (l : List Txt) : Prop := l.Pairwise fun x y => bl y x = false
def outS : List Txt → Txt → List Txt → List Txt
  | [], x, S => x :: S
  | r :: R, x, S => if bl x r then outS R x (r :: S) else (r :: R).reverse ++ x :: S
theorem outS_spec : ∀ (R : List Txt) (x : Txt) (S : List Txt), Srt R.reverse → ∃ P, outS R x S = P ++ S ∧ Srt P ∧ (∀ s, s ∈ P ↔ s = x ∨ s ∈ R) ∧ P.length = R.length + 1
  | [], x, S, _ => ⟨[x], rfl, by simp [Srt], by simp, rfl⟩
  | r :: R, x, S, h => by
    rw [List.reverse_cons] at h
    obtain ⟨h1, _, h3⟩ := List.pairwise_append.1 h
    rw [outS]
    by_cases hx : bl x r = true
    · rw [if_pos hx]
      obtain ⟨P, e, hs, hm, hl⟩ := outS_spec R x (r :: S) h1
      refine ⟨P ++ [r], by rw [e]; simp, ?_, fun s => ?_, by simp [hl]⟩
      · refine List.pairwise_append.2 ⟨hs, by simp, fun a ha b hb => ?_⟩
        rw [List.mem_singleton] at hb
        subst hb
        rcases (hm a).1 ha with rfl | ha
        · exact bl_asymm hx
        · exact h3 a (List.mem_reverse.2 ha) b (by simp)
      · rw [List.mem_append, hm s, List.mem_singleton, List.mem_cons]
        constructor
        · rintro ((h | h) | h)
          · exact .inl h
          · exact .inr (.inr h)
          · exact .inr (.inl h)
        · rintro (h | h | h)
          · exact .inl (.inl h)
          · exact .inr h
          · exact .inl (.inr h)
    · rw [if_neg hx]
      have hx : bl x r = false := by simpa using hx
      refine ⟨(r :: R).reverse ++ [x], by simp, ?_, fun s => ?_, by simp⟩
      · rw [List.reverse_cons]
        refine List.pairwise_append.2 ⟨h, by simp, fun a ha b hb => ?_⟩
        rw [List.mem_singleton] at hb
        subst hb
        rcases List.mem_append.1 ha with ha | ha
        · have ar := h3 a ha r (by simp)
          cases hba : bl b a with
          | false => rfl
          | true =>
            cases hra : bl a r with
            | true => rw [bl_trans hba hra] at hx; cases hx
            | false => rw [bl_tri hra ar] at hba; rw [hba] at hx; cases hx
        · rw [List.mem_singleton] at ha; subst ha; exact hx
      · rw [List.mem_append, List.mem_reverse, List.mem_singleton]
        constructor
        · rintro (h | h)
          · exact .inr h
          · exact .inl h
        · rintro (h | h)
          · exact .inr h
          · exact .inl h
theorem getD_mid {α : Type} (d : α) {A S : List α} {x : α} {j : Nat} (h : j = A.length) : (A ++ x :: S).getD j d = x := by
  subst h; simp [List.getD]
theorem set_mid {α : Type} {A S : List α} {x y : α} {j : Nat} (h : j = A.length) : (A ++ x :: S).set j y = A ++ y :: S := by
  subst h; simp
theorem T.ins.L4 {b i : Nat} {q : List Txt} (hi : i < 1000) : ∀ (R : List Txt) (x : Txt) (S : List Txt), R.length + S.length < 1000 →
    Ev (fun f => G.slices_insertionSortOrdered_string.L3 f 0 b ((i + 1 : Nat) : Int) (outS R x S)) q →
    Ev (fun f => G.slices_insertionSortOrdered_string.L4 f 0 b i (R.length : Int) (R.reverse ++ x :: S)) q
  | [], x, S, hl, h => by
    refine Ev.up ?_
    simp only [G.slices_insertionSortOrdered_string.L4, wrap_suc (show i + 1 < 9223372036854775808 by omega)]
    exact Ev.cf (by simp) h
  | r :: R, x, S, hl, h => by
    have hl' : R.length + 1 + S.length < 1000 := by simpa using hl
    have e1 : (r :: R).length = R.length + 1 := rfl
    have w1 : IntKind.wrap .i64 (((R.length + 1 : Nat) : Int) - 1) = ((R.length : Nat) : Int) := wrapN (by omega) (by omega)
    have g1 : ((r :: R).reverse ++ x :: S).getD (R.length + 1) default = x := getD_mid _ (by simp)
    have g0 : ((r :: R).reverse ++ x :: S).getD R.length default = r := by
      rw [List.reverse_cons, List.append_assoc]; exact getD_mid _ (by simp)
    have hlen : ((r :: R).reverse ++ x :: S).length = R.length + 1 + (S.length + 1) := by simp; omega
    refine Ev.up ?_
    simp only [G.slices_insertionSortOrdered_string.L4, wrap_suc (show i + 1 < 9223372036854775808 by omega), e1, w1, Int.toNat_natCast, g0, g1]
    refine Ev.ct (decide_eq_true (by omega)) (Ev.chk (by rw [hlen]; omega) (Ev.chk (by rw [hlen]; omega) (Ev.bind (T.cmp_Less_string x r) ?_)))
    rw [outS] at h
    by_cases hx : bl x r = true
    · rw [if_pos hx] at h
      refine Ev.ct hx (Ev.chk (by rw [hlen]; omega) (Ev.chk (by rw [hlen]; omega) (Ev.chk (by rw [hlen]; omega) (Ev.chk (by rw [hlen]; omega) ?_))))
      have e2 : (((r :: R).reverse ++ x :: S).set (R.length + 1) r).set R.length x = R.reverse ++ x :: (r :: S) := by
        rw [set_mid (by simp), List.reverse_cons, List.append_assoc]
        exact set_mid (by simp)
      rw [e2]
      exact T.ins.L4 hi R x (r :: S) (by simp; omega) h
    · rw [if_neg hx] at h
      exact Ev.cf (by simpa using hx) h
theorem T.ins.L3 {m : Nat} (hm : m < 1000) : ∀ (k i : Nat) (P S : List Txt), i + k = m → P.length = i → S.length = k → Srt P →
    ∃ q, Ev (fun f => G.slices_insertionSortOrdered_string.L3 f 0 m i (P ++ S)) q ∧ Srt q ∧ (∀ s, s ∈ q ↔ s ∈ P ∨ s ∈ S) ∧ q.length = m := by
  intro k
  induction k with
  | zero =>
    intro i P S hi hp hs hP
    have : S = [] := List.eq_nil_of_length_eq_zero hs
    subst this
    refine ⟨P, Ev.up ?_, hP, by simp, by omega⟩
    simp only [G.slices_insertionSortOrdered_string.L3, List.append_nil]
    exact Ev.cf (by simp; omega) (Ev.ret _)
  | succ k ih =>
    intro i P S hi hp hs hP
    cases S with
    | nil => simp at hs
    | cons x S =>
      have hs' : S.length = k := by simpa using hs
      obtain ⟨P', e, hs1, hm1, hl1⟩ := outS_spec P.reverse x S (by rw [List.reverse_reverse]; exact hP)
      obtain ⟨q, g, hq, hqm, hql⟩ := ih (i + 1) P' S (by omega) (by rw [hl1]; simp; omega) hs' hs1
      refine ⟨q, Ev.up ?_, hq, fun s => ?_, hql⟩
      · simp only [G.slices_insertionSortOrdered_string.L3]
        refine Ev.ct (decide_eq_true (by omega)) ?_
        have := T.ins.L4 (b := m) (i := i) (q := q) (by omega) P.reverse x S (by simp; omega) (by rw [e]; exact g)
        rw [List.reverse_reverse, List.length_reverse, hp] at this
        exact this
      · rw [hqm s, hm1 s, List.mem_reverse, List.mem_cons]
        constructor
        · rintro ((h | h) | h)
          · exact .inr (.inl h)
          · exact .inl h
          · exact .inr (.inr h)
        · rintro (h | h | h)
          · exact .inl (.inr h)
          · exact .inl (.inl h)
          · exact .inr h
theorem T.ins {l : List Txt} (hl : l.length < 1000) : ∃ q, Ev (fun f => G.slices_insertionSortOrdered_string f l 0 (l.length : Int)) q ∧ Srt q ∧ (∀ s, s ∈ q ↔ s ∈ l) ∧ q.length = l.length := by
  cases l with
  | nil =>
    refine ⟨[], Ev.up ?_, by simp [Srt], by simp, rfl⟩
    simp only [G.slices_insertionSortOrdered_string]
    refine Ev.up ?_
    simp only [G.slices_insertionSortOrdered_string.L3]
    exact Ev.cf (by decide) (Ev.ret _)
  | cons x l =>
    obtain ⟨q, g, h1, h2, h3⟩ := T.ins.L3 (m := l.length + 1) (by simpa using hl) l.length 1 [x] l (by omega) rfl rfl (by simp [Srt])
    refine ⟨q, Ev.up ?_, h1, fun s => ?_, h3⟩
    · simp only [G.slices_insertionSortOrdered_string]
      exact g
    · rw [h2 s]; simp
theorem T.len_small : ∀ k : Nat, k ≤ 12 → ∃ v, Ev (fun f => G.math_bits_Len f (k : Int)) v := by
  intro k hk
  have h : ∃ v, G.math_bits_Len 5 (k : Int) = some v ∧ ∀ n, G.math_bits_Len (n + 5) (k : Int) = some v := by
    rcases k with _ | _ | _ | _ | _ | _ | _ | _ | _ | _ | _ | _ | _ | k
    all_goals first | exact ⟨_, rfl, fun n => rfl⟩ | omega
  obtain ⟨v, _, h⟩ := h
  exact ⟨v, 5, fun n hn => by obtain ⟨m, rfl⟩ : ∃ m, n = m + 5 := ⟨n - 5, by omega⟩; exact h m⟩
theorem T.sort {l : List Txt} (hl : l.length ≤ 12) : ∃ q, Ev (fun f => G.slices_Sort_string f l) q ∧ Srt q ∧ (∀ s, s ∈ q ↔ s ∈ l) ∧ q.length = l.length := by
  obtain ⟨q, g, h1, h2, h3⟩ := T.ins (l := l) (by omega)
  obtain ⟨v, gv⟩ := T.len_small l.length hl
  have w : IntKind.wrap .u64 ((l.length : Nat) : Int) = ((l.length : Nat) : Int) := by
    unfold IntKind.wrap
    simp only [show IntKind.bits .u64 = 64 from rfl, show IntKind.signed .u64 = false from rfl, Bool.false_and]
    simp
    omega
  have w0 : IntKind.wrap .i64 (((l.length : Nat) : Int) - 0) = ((l.length : Nat) : Int) := wrapN (by omega) (by omega)
  refine ⟨q, Ev.up ?_, h1, h2, h3⟩
  simp only [G.slices_Sort_string, w]
  refine Ev.bind gv (Ev.bind ?_ (Ev.chk h3.symm (Ev.ret q)))
  refine Ev.up ?_
  simp only [G.slices_pdqsortOrdered_string]
  refine Ev.up ?_
  simp only [G.slices_pdqsortOrdered_string.L2, w0]
  exact Ev.ct (decide_eq_true (by omega)) (Ev.bind g (Ev.chk h3.symm (Ev.ret q)))
def ddr : Txt → List Txt → List Txt
  | _, [] => []
  | x, y :: l => if y = x then ddr y l else y :: ddr y l
def ded : List Txt → List Txt
  | [] => []
  | x :: l => x :: ddr x l
theorem ddr_mem : ∀ (l : List Txt) (x s : Txt), s ∈ x :: ddr x l ↔ s ∈ x :: l
  | [], x, s => by simp [ddr]
  | y :: l, x, s => by
    have ih := ddr_mem l y s
    rw [ddr]
    split
    · rename_i e; subst e
      rw [ih]; simp
    · rw [List.mem_cons, ih, List.mem_cons]
      simp only [List.mem_cons]
theorem ddr_asc : ∀ (l : List Txt) (x : Txt), Srt (x :: l) → Asc (x :: ddr x l) = true
  | [], x, _ => rfl
  | y :: l, x, h => by
    have h1 := List.pairwise_cons.1 h
    have ih := ddr_asc l y h1.2
    rw [ddr]
    split
    · rename_i e; subst e; exact ih
    · rename_i e
      rw [Asc, ih, Bool.and_true]
      have hyx := h1.1 y (by simp)
      cases hxy : bl x y with
      | true => exact hxy
      | false => exact absurd (bl_tri hyx hxy) e
theorem ded_asc {l : List Txt} (h : Srt l) : Asc (ded l) = true := by
  cases l with
  | nil => rfl
  | cons x l => exact ddr_asc l x h
theorem ded_mem {l : List Txt} {s : Txt} : s ∈ ded l ↔ s ∈ l := by
  cases l with
  | nil => rfl
  | cons x l => exact ddr_mem l x s
theorem T.cmp.L2 {m k0 : Nat} (hm : m < 1000) : ∀ (t k k2 : Nat) (z : List Txt), k0 + k2 + t = m → z.length = m → 1 ≤ k2 → k + 1 ≤ k0 + k2 →
    Ev (fun f => G.slices_Compact_string.L2 f m k0 k k2 z) (z.take k ++ ddr (z.getD (k0 + (k2 - 1)) default) (z.drop (k0 + k2))) := by
  intro t
  induction t with
  | zero =>
    intro k k2 z h1 hz h2 hk
    refine Ev.up ?_
    simp only [G.slices_Compact_string.L2]
    refine Ev.chk ⟨hz, by omega⟩ (Ev.cf (decide_eq_false (by omega)) (Ev.chk (by omega) (Ev.ret' ?_)))
    rw [List.drop_of_length_le (by omega), ddr, List.append_nil]
  | succ t ih =>
    intro k k2 z h1 hz h2 hk
    have w1 : IntKind.wrap .i64 ((k2 : Int) - 1) = ((k2 - 1 : Nat) : Int) := wrapN (by omega) (by omega)
    refine Ev.up ?_
    simp only [G.slices_Compact_string.L2]
    refine Ev.chk ⟨hz, by omega⟩ (Ev.ct (decide_eq_true (by omega)) (Ev.chk ⟨h2, by omega, by omega, by omega, w1, wrap_suc (by omega), wrap_suc (by omega)⟩ ?_))
    rw [drop_of_lt (default : Txt) (by omega : k0 + k2 < z.length), ddr]
    refine Ev.ite (fun e => ?_) (fun e => ?_)
    · rw [beq_iff_eq] at e
      rw [if_pos e]
      exact (ih k (k2 + 1) z (by omega) hz (by omega) (by omega)).eq (by rw [show k0 + (k2 + 1 - 1) = k0 + k2 by omega, show k0 + (k2 + 1) = k0 + k2 + 1 by omega])
    · have e : ¬ z.getD (k0 + k2) default = z.getD (k0 + (k2 - 1)) default := by simpa using e
      rw [if_neg e]
      refine (ih (k + 1) (k2 + 1) (z.set k (z.getD (k0 + k2) default)) (by omega) (by simpa using hz) (by omega) (by omega)).eq ?_
      have hk' : k < z.length := by omega
      rw [show k0 + (k2 + 1 - 1) = k0 + k2 by omega, show k0 + (k2 + 1) = k0 + k2 + 1 by omega]
      have t1 : (z.set k (z.getD (k0 + k2) default)).take (k + 1) = z.take k ++ [z.getD (k0 + k2) default] := by
        rw [List.take_add_one, List.take_set_of_le (Nat.le_refl k)]
        simp [hk']
      have t2 : (z.set k (z.getD (k0 + k2) default)).drop (k0 + k2 + 1) = z.drop (k0 + k2 + 1) := by
        rw [List.drop_set_of_lt (by omega)]
      have t3 : (z.set k (z.getD (k0 + k2) default)).getD (k0 + k2) default = z.getD (k0 + k2) default := by
        simp [List.getD, List.getElem?_set, show ¬ k = k0 + k2 by omega]
      rw [t1, t2, t3]
      simp
theorem T.cmp.L1 {s : List Txt} (hs : s.length < 1000) : ∀ (t k : Nat), k + t = s.length → 1 ≤ k →
    Ev (fun f => G.slices_Compact_string.L1 f s k) (s.take k ++ ddr (s.getD (k - 1) default) (s.drop k)) := by
  intro t
  induction t with
  | zero =>
    intro k h1 h2
    refine Ev.up ?_
    simp only [G.slices_Compact_string.L1]
    refine Ev.cf (by simp; omega) (Ev.ret' ?_)
    rw [List.drop_of_length_le (by omega), List.take_of_length_le (by omega), ddr, List.append_nil]
  | succ t ih =>
    intro k h1 h2
    have w1 : IntKind.wrap .i64 ((k : Int) - 1) = ((k - 1 : Nat) : Int) := wrapN (by omega) (by omega)
    refine Ev.up ?_
    simp only [G.slices_Compact_string.L1]
    refine Ev.ct (decide_eq_true (by omega)) (Ev.chk ⟨h2, by omega, by omega, w1, wrap_suc (by omega)⟩ ?_)
    rw [drop_of_lt (default : Txt) (by omega : k < s.length), ddr]
    refine Ev.ite (fun e => ?_) (fun e => ?_)
    · rw [beq_iff_eq] at e
      rw [if_pos e]
      exact T.cmp.L2 hs t k 1 s (by omega) rfl (Nat.le_refl _) (Nat.le_refl _)
    · have e : ¬ s.getD k default = s.getD (k - 1) default := by simpa using e
      rw [if_neg e]
      refine (ih (k + 1) (by omega) (by omega)).eq ?_
      have hk : k < s.length := by omega
      have t1 : s.take (k + 1) = s.take k ++ [s[k]] := by rw [List.take_add_one]; simp [hk]
      rw [show k + 1 - 1 = k by omega, t1, getD_of_lt default hk, List.append_assoc]
      rfl
theorem T.compact {s : List Txt} (hs : s.length < 1000) : Ev (fun f => G.slices_Compact_string f s) (ded s) := by
  refine Ev.up ?_
  simp only [G.slices_Compact_string]
  refine Ev.ite (fun e => Ev.ret' ?_) (fun e => ?_)
  · have : s.length < 2 := by simp at e; omega
    match s, this with
    | [], _ => rfl
    | [x], _ => rfl
  · have : ¬ s.length < 2 := by simp at e; omega
    refine (T.cmp.L1 hs (s.length - 1) 1 (by omega) (Nat.le_refl _)).eq ?_
    match s, this with
    | x :: l, _ => simp [ded, List.getD]
def uni : List Txt → List Txt → List Txt
  | [], b => b
  | a, [] => a
  | x :: a, y :: b => if bl x y then x :: uni a (y :: b) else if bl y x then y :: uni (x :: a) b else x :: uni a b
termination_by a b => a.length + b.length
theorem uni_nil (a : List Txt) : uni a [] = a := by cases a <;> simp [uni]
theorem uni_mem : ∀ (a b : List Txt) (s : Txt), s ∈ uni a b ↔ s ∈ a ∨ s ∈ b
  | [], b, s => by simp [uni]
  | x :: a, [], s => by simp [uni]
  | x :: a, y :: b, s => by
    rw [uni]
    split
    · rw [List.mem_cons, uni_mem a (y :: b) s]; simp only [List.mem_cons, or_assoc]
    · split
      · rw [List.mem_cons, uni_mem (x :: a) b s]; simp only [List.mem_cons]
        constructor
        · rintro (h | (h | h) | h) <;> simp [h]
        · rintro ((h | h) | h | h) <;> simp [h]
      · rename_i h1 h2
        have e : x = y := bl_tri (by simpa using h1) (by simpa using h2)
        subst e
        rw [List.mem_cons, uni_mem a b s]; simp only [List.mem_cons]
        constructor
        · rintro (h | h | h) <;> simp [h]
        · rintro ((h | h) | h | h) <;> simp [h]
termination_by a b => a.length + b.length
theorem Asc_cons {x : Txt} {l : List Txt} (h : Asc l = true) (hx : ∀ y, y ∈ l → bl x y = true) : Asc (x :: l) = true := by
  cases l with
  | nil => rfl
  | cons y l => rw [Asc, h, Bool.and_true]; exact hx y (by simp)
theorem uni_asc : ∀ (a b : List Txt), Asc a = true → Asc b = true → Asc (uni a b) = true
  | [], b, _, hb => by simpa [uni] using hb
  | x :: a, [], ha, _ => by simpa [uni] using ha
  | x :: a, y :: b, ha, hb => by
    rw [uni]
    split
    · rename_i h
      refine Asc_cons (uni_asc a (y :: b) (Asc_tail ha) hb) (fun s hs => ?_)
      rcases (uni_mem _ _ _).1 hs with hs | hs
      · exact Asc_head ha s hs
      · rcases List.mem_cons.1 hs with rfl | hs
        · exact h
        · exact bl_trans h (Asc_head hb s hs)
    · split
      · rename_i h
        refine Asc_cons (uni_asc (x :: a) b ha (Asc_tail hb)) (fun s hs => ?_)
        rcases (uni_mem _ _ _).1 hs with hs | hs
        · rcases List.mem_cons.1 hs with rfl | hs
          · exact h
          · exact bl_trans h (Asc_head ha s hs)
        · exact Asc_head hb s hs
      · rename_i h1 h2
        have e : x = y := bl_tri (by simpa using h1) (by simpa using h2)
        subst e
        refine Asc_cons (uni_asc a b (Asc_tail ha) (Asc_tail hb)) (fun s hs => ?_)
        rcases (uni_mem _ _ _).1 hs with hs | hs
        · exact Asc_head ha s hs
        · exact Asc_head hb s hs
termination_by a b => a.length + b.length
theorem uni_len : ∀ (a b : List Txt), (uni a b).length ≤ a.length + b.length
  | [], b => by simp [uni]
  | x :: a, [] => by simp [uni]
  | x :: a, y :: b => by
    rw [uni]
    split
    · have := uni_len a (y :: b); simp at this ⊢; omega
    · split
      · have := uni_len (x :: a) b; simp at this ⊢; omega
      · have := uni_len a b; simp at this ⊢; omega
termination_by a b => a.length + b.length
theorem T.spec_nameUnion.L1 {a b : List Txt} (ha : a.length < 1000) (hb : b.length < 1000) : ∀ (t i k : Nat) (z : List Txt), (a.length - i) + (b.length - k) ≤ t → i ≤ a.length → k ≤ b.length → z.length + ((a.length - i) + (b.length - k)) < 3000 →
    Ev (fun f => G.spec_nameUnion.L1 f a b i k z) (z ++ uni (a.drop i) (b.drop k)) := by
  intro t
  induction t with
  | zero =>
    intro i k z ht hi hk hz
    refine Ev.up ?_
    simp only [G.spec_nameUnion.L1]
    refine Ev.cf (decide_eq_false (by omega)) (Ev.cf (decide_eq_false (by omega)) (Ev.ret' ?_))
    rw [List.drop_of_length_le (by omega), List.drop_of_length_le (by omega)]
    simp [uni]
  | succ t ih =>
    intro i k z ht hi hk hz
    have wi : IntKind.wrap .i64 ((i : Int) + 1) = ((i + 1 : Nat) : Int) := wrap_suc (by omega)
    have wk : IntKind.wrap .i64 ((k : Int) + 1) = ((k + 1 : Nat) : Int) := wrap_suc (by omega)
    refine Ev.up ?_
    simp only [G.spec_nameUnion.L1, Int.toNat_natCast, wi, wk]
    by_cases hia : i < a.length
    · refine Ev.ct (decide_eq_true (by omega)) ?_
      rw [drop_of_lt (default : Txt) hia]
      by_cases hkb : k < b.length
      · rw [drop_of_lt (default : Txt) hkb, uni]
        refine Ev.cf (by simp; omega) (Ev.chk (by omega) (Ev.chk (by omega) (Ev.ite (fun e => ?_) (fun e => ?_))))
        · have e : bl (a.getD i default) (b.getD k default) = true := e
          rw [if_pos e]
          refine Ev.chk (by omega) (Ev.chk (by omega) ((ih (i + 1) k (z ++ [a.getD i default]) (by omega) (by omega) hk (by simp; omega)).eq ?_))
          rw [← drop_of_lt (default : Txt) hkb]; simp
        · have e : bl (a.getD i default) (b.getD k default) = false := e
          rw [if_neg (by rw [e]; exact Bool.false_ne_true)]
          refine Ev.cf (by simp; omega) (Ev.chk (by omega) (Ev.chk (by omega) (Ev.ite (fun e2 => ?_) (fun e2 => ?_))))
          · have e2 : bl (b.getD k default) (a.getD i default) = true := e2
            rw [if_pos e2]
            refine Ev.chk (by omega) (Ev.chk (by omega) ((ih i (k + 1) (z ++ [b.getD k default]) (by omega) hi (by omega) (by simp; omega)).eq ?_))
            rw [← drop_of_lt (default : Txt) hia]; simp
          · have e2 : bl (b.getD k default) (a.getD i default) = false := e2
            rw [if_neg (by rw [e2]; exact Bool.false_ne_true)]
            refine Ev.chk (by omega) (Ev.chk (by omega) ((ih (i + 1) (k + 1) (z ++ [a.getD i default]) (by omega) (by omega) (by omega) (by simp; omega)).eq ?_))
            simp
      · rw [List.drop_of_length_le (by omega : b.length ≤ k), uni_nil]
        refine Ev.ct (by simp; omega) (Ev.chk (by omega) (Ev.chk (by omega) ((ih (i + 1) k (z ++ [a.getD i default]) (by omega) (by omega) hk (by simp; omega)).eq ?_)))
        rw [List.drop_of_length_le (by omega : b.length ≤ k), uni_nil]; simp
    · rw [List.drop_of_length_le (by omega : a.length ≤ i)]
      refine Ev.cf (decide_eq_false (by omega)) ?_
      by_cases hkb : k < b.length
      · rw [drop_of_lt (default : Txt) hkb]
        refine Ev.ct (decide_eq_true (by omega)) (Ev.cf (by simp; omega) (Ev.ct (by simp; omega) (Ev.chk (by omega) (Ev.chk (by omega) ((ih i (k + 1) (z ++ [b.getD k default]) (by omega) hi (by omega) (by simp; omega)).eq ?_)))))
        rw [List.drop_of_length_le (by omega : a.length ≤ i)]; simp [uni]
      · refine Ev.cf (decide_eq_false (by omega)) (Ev.ret' ?_)
        rw [List.drop_of_length_le (by omega : b.length ≤ k)]; simp [uni]
theorem T.spec_nameUnion {a b : List Txt} (ha : a.length < 1000) (hb : b.length < 1000) : Ev (fun f => G.spec_nameUnion f a b) (uni a b) := by
  refine Ev.up ?_
  simp only [G.spec_nameUnion]
  exact T.spec_nameUnion.L1 ha hb _ 0 0 [] (Nat.le_refl _) (by omega) (by omega) (by simp; omega)
theorem asc_ext : ∀ {a b : List Txt}, Asc a = true → Asc b = true → (∀ s, s ∈ a ↔ s ∈ b) → a = b
  | [], [], _, _, _ => rfl
  | [], y :: b, _, _, h => absurd ((h y).2 (by simp)) (by simp)
  | x :: a, [], _, _, h => absurd ((h x).1 (by simp)) (by simp)
  | x :: a, y :: b, ha, hb, h => by
    have e : x = y := by
      rcases List.mem_cons.1 ((h x).1 (by simp)) with e | hx
      · exact e
      · rcases List.mem_cons.1 ((h y).2 (by simp)) with e | hy
        · exact e.symm
        · have h1 := Asc_head hb x hx
          have h2 := Asc_head ha y hy
          rw [bl_asymm h1] at h2; cases h2
    subst e
    rw [asc_ext (Asc_tail ha) (Asc_tail hb) (fun s => ?_)]
    have nx : ∀ {l : List Txt}, Asc (x :: l) = true → x ∉ l := fun hl hx => by have := Asc_head hl x hx; rw [bl_irr] at this; cases this
    constructor
    · intro hs
      rcases List.mem_cons.1 ((h s).1 (List.mem_cons_of_mem _ hs)) with rfl | h'
      · exact absurd hs (nx ha)
      · exact h'
    · intro hs
      rcases List.mem_cons.1 ((h s).2 (List.mem_cons_of_mem _ hs)) with rfl | h'
      · exact absurd hs (nx hb)
      · exact h'
end Go.Ab
end
section
namespace Go.Ab
open Go
set_option maxRecDepth 100000
def lk (n : NodeT) (s : Txt) : Option NodeT := (plc n s).map fun j => n.Kids.getD j default
structure MapN (n : NodeT) : Prop where
  kind : n.Kind = 4
  asc : Asc n.Names = true
  len : n.Kids.length = n.Names.length
theorem mapN_of {n : NodeT} (h : Parts n = true) (hk : n.Kind = 4) : MapN n ∧ n.Names.length ≤ 6 ∧ ∀ s, s ∈ n.Names → s.length ≤ 12 := by
  obtain ⟨_, _, hN, hl, hkl⟩ := parts_map h hk
  exact ⟨⟨hk, nm_asc hN, hkl⟩, hl, fun s hs => pt_len (nm_all hN s hs)⟩
def snoc (n : NodeT) (s : Txt) (k : NodeT) : NodeT := NodeT.mk 4 0 [] (n.Names ++ [s]) (n.Kids ++ [k])
structure Acc (n : NodeT) (m : Nat) : Prop where
  map : MapN n
  num : n.Num = 0
  text : n.Text = []
  len : n.Names.length ≤ m
  small : ∀ s, s ∈ n.Names → s.length ≤ 12
theorem Acc.eq {n : NodeT} {m : Nat} (h : Acc n m) : n = NodeT.mk 4 0 [] n.Names n.Kids := by
  obtain ⟨⟨h1, _, _⟩, h2, h3, _, _⟩ := h
  cases n
  simp only at h1 h2 h3
  subst h1; subst h2; subst h3; rfl
open Classical in
noncomputable def mn (F : NodeT → NodeT → NodeT → Option NodeT) (o a b : NodeT) (s : Txt) : Option (Option NodeT) :=
  match lk a s, lk b s, lk o s with
  | some x, some y, some z => (F z x y).map some
  | some x, some y, none => if x = y then some (some x) else none
  | some x, none, none => some (some x)
  | none, some y, none => some (some y)
  | some x, none, some z => if x = z then some none else none
  | none, some y, some z => if y = z then some none else none
  | none, none, _ => some none
section
variable {F : NodeT → NodeT → NodeT → Option NodeT} {o a b : NodeT}
end
end Go.Ab
end
section
namespace Go.Ab
open Go
set_option maxRecDepth 100000
end Go.Ab
end
section
namespace Go.Ab
open Go
set_option maxRecDepth 100000
section
variable {B D E F : Nat} {o a b : NodeT} (hB : B ≤ lim) (ho : Fine B D o) (ha : Fine B E a) (hb : Fine B F b)
include hB ho ha hb
end
end Go.Ab
end
section
namespace Go.Ab
open Go
set_option maxRecDepth 100000
theorem all_grow : ∀ f : Nat, (∀ n i z l, G.spec_all.L5 f n i z = some l → z.length ≤ l.length) ∧ (∀ n i z s l, G.spec_all.K6 f n i z s = some l → z.length ≤ l.length) ∧
    (∀ n i s v k z l, G.spec_all.L7 f n i s v k z = some l → z.length ≤ l.length)
  | 0 => ⟨fun n i z l h => (by simp only [G.spec_all.L5, reduceCtorEq] at h), fun n i z s l h => (by simp only [G.spec_all.K6, reduceCtorEq] at h), fun n i s v k z l h => (by simp only [G.spec_all.L7, reduceCtorEq] at h)⟩
  | f + 1 => by
    obtain ⟨h5, h6, h7⟩ := all_grow f
    refine ⟨fun n i z l h => ?_, fun n i z s l h => ?_, fun n i s v k z l h => ?_⟩
    · simp only [G.spec_all.L5] at h
      rcases cond_some.1 h with ⟨_, h⟩ | ⟨_, h⟩
      · obtain ⟨v, _, h⟩ := Option.bind_eq_some_iff.1 h
        rcases cond_some.1 h with ⟨_, h⟩ | ⟨_, h⟩
        · exact h6 _ _ _ _ _ (chk_some.1 h).2
        · exact h6 _ _ _ _ _ h
      · cases h; exact Nat.le_refl _
    · simp only [G.spec_all.K6] at h
      obtain ⟨v, _, h⟩ := Option.bind_eq_some_iff.1 (chk_some.1 h).2
      exact h7 _ _ _ _ _ _ _ h
    · simp only [G.spec_all.L7] at h
      rcases cond_some.1 h with ⟨_, h⟩ | ⟨_, h⟩
      · have := h7 _ _ _ _ _ _ _ (chk_some.1 (chk_some.1 (chk_some.1 h).2).2).2
        simp at this; omega
      · exact h5 _ _ _ _ h
theorem all_pos {f : Nat} {n : NodeT} {l : List (List Txt)} (h : G.spec_all f n = some l) : 0 < l.length := by
  cases f with
  | zero => simp only [G.spec_all, reduceCtorEq] at h
  | succ f =>
    simp only [G.spec_all] at h
    have := (all_grow f).1 _ _ _ _ h
    simp at this; omega
theorem D.all1 {n : NodeT} (h : Val n = true) : Tot (fun l => Few 16807 5 l ∧ 0 < l.length) (fun f => G.spec_all f n) := by
  obtain ⟨l, g, hl⟩ := D.all 5 (Nat.le_refl _) (val_shape h)
  obtain ⟨m, hm⟩ := g.val
  exact ⟨l, g, hl, all_pos hm⟩
theorem D.near.K1 {K : Nat} {r : ReaderT} {n : NodeT} {o : Option NodeT} (hn : Val n = true) (ho : ∀ m, o = some m → FineE 61 m) (hr : RdOK K r) :
    Dr K (fun x => Val x = true) (fun f => G.spec_nearNode.K1 f n (pairO o).2 r.b r.p (pairO o).1.Kind (pairO o).1.Num (pairO o).1.Text (pairO o).1.Names (pairO o).1.Kids) := by
  refine Tot.up ?_
  simp only [G.spec_nearNode.K1, NodeT.eta, ReaderT.eta]
  have cp := T.spec_copyNode lim12 (val_fine hn)
  cases o with
  | none => exact Tot.ite (fun e => by cases e) (fun _ => Tot.bindE cp (Tot.ret ⟨hn, hr⟩))
  | some m =>
    obtain ⟨E, hm⟩ := ho m rfl
    refine Tot.ite (fun _ => Tot.bindE (T.spec_validNode (by decide : 61 ≤ lim) hm) (Tot.ite (fun e => Tot.ret ⟨e, hr⟩) (fun _ => Tot.bindE cp (Tot.ret ⟨hn, hr⟩)))) (fun e => by cases e)
theorem D.nearNode {K : Nat} {r : ReaderT} {n : NodeT} (hn : Val n = true) (hr : RdOK K r) (hK : K ≤ 600000000) : Dr (K + 2000) (fun x => Val x = true) (fun f => G.spec_nearNode f r n) := by
  have h12 := val_fine hn
  have h60 := fine_val hn
  refine Tot.up ?_
  simp only [G.spec_nearNode]
  refine Tot.bind (D.all1 hn) ?_
  rintro l ⟨⟨hl1, hl2⟩, hl3⟩
  refine Tot.bind (D.pick (m := l.length) hr (by omega) rfl hl3 (by omega)) ?_
  rintro ⟨x, r1⟩ ⟨⟨w, rfl, hw⟩, hr1⟩
  have hp := hl2 _ (getD_mem default hw)
  simp only [Int.toNat_natCast]
  have hpb : (l.getD w default).length < big := by unfold big; have := hp.1; omega
  refine Tot.chk (by show 0 ≤ (w : Int) ∧ (w : Int) < _; omega) (Tot.bindE (T.spec_copyNode lim12 h12) (Tot.bind (D.pick (m := 5) hr1 (by omega) rfl (by decide) (by decide)) ?_))
  rintro ⟨y, r2⟩ ⟨_, hr2⟩
  have hr2' : RdOK (K + 2) r2 := hr2
  refine Tot.ite (fun _ => ?_) (fun _ => Tot.ite (fun _ => ?_) (fun _ => Tot.ite (fun _ => ?_) (fun _ => Tot.ite (fun _ => ?_) (fun _ => ?_))))
  · refine Tot.bindE (T.spec_removeAt (l.getD w default) hb12 hpb h12) ?_
    exact (D.near.K1 hn (fun m hm => ⟨5, (val_fine (rem_val hn hm)).mono (by omega) (Nat.le_refl _)⟩) hr2').mono (fun x h => ⟨h.1, h.2.mono (by omega)⟩)
  · have hpl := hp.1
    refine Tot.chk (by omega) (Tot.bind (D.of (m := 1) hr2' (by omega) _ (by decide) (by decide) (by decide)) ?_)
    rintro ⟨s, r3⟩ ⟨hs, hr3⟩
    refine Tot.chk (by omega) (Tot.bind (D.node 1 (by decide) (by rfl) hr3 (by omega)) ?_)
    rintro ⟨v, r4⟩ ⟨⟨E, hv⟩, hr4⟩
    have hps : ∀ t, t ∈ l.getD w default ++ [s] → t.length ≤ 60 := fun t ht => by
      rcases List.mem_append.1 ht with ht | ht
      · have := hp.2 t ht; omega
      · rw [List.mem_singleton] at ht; subst ht; have : t.length ≤ 1 := hs; omega
    refine Tot.bindE (T.spec_addAt (l.getD w default ++ [s]) (by decide : 60 + 1 < lim) (by unfold big; rw [List.length_append, List.length_singleton]; omega) hps h60 hv) ?_
    exact (D.near.K1 hn (fun m hm => ⟨_, fine_addAt h60 hv hps hm⟩) hr4).mono (fun x h => ⟨h.1, h.2.mono (by omega)⟩)
  · refine Tot.bind (D.node 1 (by decide) (by rfl) hr2' (by omega)) ?_
    rintro ⟨v, r4⟩ ⟨⟨E, hv⟩, hr4⟩
    refine Tot.bindE (T.spec_setAt lim60 hv (l.getD w default) hpb h60) ?_
    exact (D.near.K1 hn (fun m hm => ⟨_, (fine_setN h60 hv hm).mono (by omega) (Nat.le_refl _)⟩) hr4).mono (fun x h => ⟨h.1, h.2.mono (by omega)⟩)
  · refine Tot.bind (D.someNode hr2' (by omega)) ?_
    rintro ⟨v, r4⟩ ⟨hv, hr4⟩
    exact Tot.ret ⟨hv, hr4.mono (by omega)⟩
  · exact (D.near.K1 (o := some n) hn (fun m hm => by cases hm; exact ⟨5, h12.mono (by omega) (Nat.le_refl _)⟩) hr2').mono (fun x h => ⟨h.1, h.2.mono (by omega)⟩)
end Go.Ab
end
section
namespace Go.Ab
open Go
set_option maxRecDepth 100000
def okN (b : UInt8) : Bool := (decide (97 ≤ b.toNat) && decide (b.toNat ≤ 122)) || (decide (48 ≤ b.toNat) && decide (b.toNat ≤ 57))
def NmV (s : Txt) : Bool := s.all okN && (decide (1 ≤ s.length) && decide (s.length ≤ 8))
def ItV (c : Int) (it : ItemT) : Bool := NmV it.Name && (Val it.Node && (decide (1 ≤ it.Version) && decide (it.Version ≤ c)))
def nmsI (l : List ItemT) : List Txt := l.map fun it => it.Name
def StV (s : StoreT) : Bool := (s.Items.all (ItV s.Clock) && Asc (nmsI s.Items)) && (decide (s.Items.length ≤ 10) && (decide (0 ≤ s.Clock) && decide (s.Clock ≤ 999)))
structure FineS (B : Nat) (s : StoreT) : Prop where
  len : s.Items.length ≤ B
  nam : ∀ it, it ∈ s.Items → it.Name.length ≤ B
  nod : ∀ it, it ∈ s.Items → FineE B it.Node
theorem nms_len {l : List ItemT} : (nmsI l).length = l.length := by unfold nmsI; rw [List.length_map]
theorem nms_at {l : List ItemT} {i : Nat} (h : i < l.length) : (nmsI l).getD i default = (l.getD i default).Name := by
  rw [getD_of_lt _ (by rw [nms_len]; exact h), getD_of_lt _ h]
  unfold nmsI
  rw [List.getElem_map]
theorem asc_step {l : List Txt} {i : Nat} (h0 : 0 < i) (h : i < l.length) : Asc (l.drop (i - 1)) = (bl (l.getD (i - 1) default) (l.getD i default) && Asc (l.drop i)) := by
  rw [drop_pred h0 h, Asc, drop_of_lt (default : Txt) h]
theorem asc_end {l : List Txt} {i : Nat} (h : l.length ≤ i) : Asc (l.drop (i - 1)) = true := by
  by_cases h0 : l.length ≤ i - 1
  · rw [List.drop_of_length_le h0]; rfl
  · rw [drop_of_lt (default : Txt) (by omega : i - 1 < l.length), List.drop_of_length_le (by omega)]; rfl
theorem T.spec_validName.L1 (s : Txt) (hs : s.length < big) : ∀ (k i : Nat), i + k = s.length → Ev (fun f => G.spec_validName.L1 f s i) ((s.drop i).all okN && (decide (1 ≤ s.length) && decide (s.length ≤ 8))) := by
  unfold big at hs
  intro k
  induction k with
  | zero =>
    intro i hi
    refine Ev.up ?_
    simp only [G.spec_validName.L1]
    refine Ev.cf (decide_eq_false (by omega)) (Ev.bind (T.spec_inRange _ _ _) (Ev.ret' ?_))
    rw [List.drop_of_length_le (by omega), List.all_nil, Bool.true_and]
    congr 1 <;> (apply decide_eq_decide.2; omega)
  | succ k ih =>
    intro i hi
    refine Ev.up ?_
    simp only [G.spec_validName.L1, Int.toNat_natCast, byte_wrap, wrap_suc (show i + 1 < 9223372036854775808 by omega)]
    rw [drop_of_lt (0 : UInt8) (by omega : i < s.length), List.all_cons]
    have e1 : (decide ((97 : Int) ≤ ((s.getD i 0).toNat : Int)) && decide (((s.getD i 0).toNat : Int) ≤ 122)) = (decide (97 ≤ (s.getD i 0).toNat) && decide ((s.getD i 0).toNat ≤ 122)) := by congr 1 <;> (apply decide_eq_decide.2; omega)
    have e2 : (decide ((48 : Int) ≤ ((s.getD i 0).toNat : Int)) && decide (((s.getD i 0).toNat : Int) ≤ 57)) = (decide (48 ≤ (s.getD i 0).toNat) && decide ((s.getD i 0).toNat ≤ 57)) := by congr 1 <;> (apply decide_eq_decide.2; omega)
    refine Ev.ct (decide_eq_true (by omega)) (Ev.chk (by omega) (Ev.bind (T.spec_inRange _ _ _) ?_))
    rw [e1]
    refine Ev.ite (fun h => ?_) (fun h => ?_)
    · refine (ih (i + 1) (by omega)).eq ?_
      unfold okN
      rw [show (decide (97 ≤ (s.getD i 0).toNat) && decide ((s.getD i 0).toNat ≤ 122)) = true from h, Bool.true_or, Bool.true_and]
    · refine Ev.chk (by omega) (Ev.bind (T.spec_inRange _ _ _) ?_)
      rw [e2]
      refine Ev.ite (fun h2 => ?_) (fun h2 => Ev.ret' ?_)
      · refine (ih (i + 1) (by omega)).eq ?_
        unfold okN
        rw [show (decide (48 ≤ (s.getD i 0).toNat) && decide ((s.getD i 0).toNat ≤ 57)) = true from h2, Bool.or_true, Bool.true_and]
      · unfold okN
        rw [show (decide (97 ≤ (s.getD i 0).toNat) && decide ((s.getD i 0).toNat ≤ 122)) = false from h, show (decide (48 ≤ (s.getD i 0).toNat) && decide ((s.getD i 0).toNat ≤ 57)) = false from h2]
        rfl
theorem T.spec_validName (s : Txt) (hs : s.length < big) : Ev (fun f => G.spec_validName f s) (NmV s) := by
  refine Ev.up ?_
  simp only [G.spec_validName]
  exact T.spec_validName.L1 s hs s.length 0 (by omega)
theorem T.impl_isName.L1 (s : Txt) (hs : s.length < big) : ∀ (k i : Nat), i + k = s.length → Ev (fun f => G.impl_isName.L1 f s i) ((s.drop i).all okN) := by
  unfold big at hs
  intro k
  induction k with
  | zero =>
    intro i hi
    refine Ev.up ?_
    simp only [G.impl_isName.L1]
    refine Ev.cf (decide_eq_false (by omega)) (Ev.ret' ?_)
    rw [List.drop_of_length_le (by omega)]; rfl
  | succ k ih =>
    intro i hi
    refine Ev.up ?_
    simp only [G.impl_isName.L1, Int.toNat_natCast, wrap_suc (show i + 1 < 9223372036854775808 by omega)]
    rw [drop_of_lt (0 : UInt8) (by omega : i < s.length), List.all_cons]
    have yes : okN (s.getD i 0) = true → Ev (fun f => G.impl_isName.L1 f s ((i + 1 : Nat) : Int)) (okN (s.getD i 0) && (s.drop (i + 1)).all okN) := fun h => (ih (i + 1) (by omega)).eq (by rw [h]; rfl)
    have no : okN (s.getD i 0) = false → Ev (fun _ => some false) (okN (s.getD i 0) && (s.drop (i + 1)).all okN) := fun h => Ev.ret' (by rw [h]; rfl)
    have ok : okN (s.getD i 0) = decide ((97 ≤ (s.getD i 0).toNat ∧ (s.getD i 0).toNat ≤ 122) ∨ (48 ≤ (s.getD i 0).toNat ∧ (s.getD i 0).toNat ≤ 57)) := by unfold okN; simp
    refine Ev.ct (decide_eq_true (by omega)) (Ev.chk (by omega) ?_)
    refine Ev.ite (fun h => ?_) (fun h => ?_)
    · simp only [decide_eq_true_eq] at h
      refine Ev.chk (by omega) (Ev.ite (fun h2 => ?_) (fun h2 => ?_))
      · simp only [decide_eq_true_eq] at h2
        exact no (by rw [ok]; exact decide_eq_false (by omega))
      · simp only [decide_eq_false_iff_not] at h2
        refine Ev.chk (by omega) (Ev.ite (fun h3 => ?_) (fun h3 => ?_))
        · simp only [decide_eq_true_eq] at h3
          exact no (by rw [ok]; exact decide_eq_false (by omega))
        · simp only [decide_eq_false_iff_not] at h3
          exact yes (by rw [ok]; exact decide_eq_true (by omega))
    · simp only [decide_eq_false_iff_not] at h
      refine Ev.chk (by omega) (Ev.ite (fun h2 => ?_) (fun h2 => ?_))
      · simp only [decide_eq_true_eq] at h2
        refine Ev.chk (by omega) (Ev.cf (decide_eq_false (by omega)) (Ev.chk (by omega) (Ev.ct (decide_eq_true (by omega)) ?_)))
        exact no (by rw [ok]; exact decide_eq_false (by omega))
      · simp only [decide_eq_false_iff_not] at h2
        exact yes (by rw [ok]; exact decide_eq_true (by omega))
theorem T.impl_isName (s : Txt) (hs : s.length < big) : Ev (fun f => G.impl_isName f s) (NmV s) := by
  refine Ev.up ?_
  simp only [G.impl_isName]
  unfold NmV
  refine Ev.ite (fun h => Ev.ret' ?_) (fun h => Ev.ite (fun h2 => Ev.ret' ?_) (fun h2 => ?_))
  · have : s = [] := by simpa using h
    subst this; rfl
  · simp only [decide_eq_true_eq] at h2
    rw [decide_eq_false (show ¬ s.length ≤ 8 by omega), Bool.and_false, Bool.and_false]
  · simp only [decide_eq_false_iff_not] at h2
    have hne : s ≠ [] := by simpa using h
    have hl : 1 ≤ s.length := by cases s with
      | nil => exact absurd rfl hne
      | cons _ _ => simp
    refine (T.impl_isName.L1 s hs s.length 0 (by omega)).eq ?_
    rw [decide_eq_true hl, decide_eq_true (show s.length ≤ 8 by omega), List.drop_zero]
    simp
theorem FineS.at_ {B : Nat} {s : StoreT} (h : FineS B s) {i : Nat} (hi : i < s.Items.length) : (s.Items.getD i default).Name.length ≤ B ∧ FineE B (s.Items.getD i default).Node :=
  ⟨h.nam _ (getD_mem default hi), h.nod _ (getD_mem default hi)⟩
section
variable {B : Nat} {s : StoreT} (hB : B ≤ lim) (h : FineS B s)
include hB h
theorem T.spec_validStore.L1 : ∀ (k i : Nat), i + k = s.Items.length → Ev (fun f => G.spec_validStore.L1 f s i) (((s.Items.drop i).all (ItV s.Clock) && Asc ((nmsI s.Items).drop (i - 1))) && (decide (s.Items.length ≤ 10) && (decide (0 ≤ s.Clock) && decide (s.Clock ≤ 999)))) := by
  have hl := h.len
  unfold lim at hB
  intro k
  induction k with
  | zero =>
    intro i hi
    refine Ev.up ?_
    simp only [G.spec_validStore.L1]
    rw [List.drop_of_length_le (by omega), asc_end (by rw [nms_len]; omega)]
    refine Ev.cf (decide_eq_false (by omega)) (Ev.ite (fun e => ?_) (fun e => Ev.ret' ?_))
    · refine Ev.bind (T.spec_inRange _ _ _) (Ev.ret' ?_)
      rw [decide_eq_true (show s.Items.length ≤ 10 by simp only [decide_eq_true_eq] at e; omega)]
      simp
    · rw [decide_eq_false (show ¬ s.Items.length ≤ 10 by simp only [decide_eq_false_iff_not] at e; omega)]
      simp
  | succ k ih =>
    intro i hi
    have hil : i < s.Items.length := by omega
    obtain ⟨hn, ⟨D, hd⟩⟩ := h.at_ hil
    refine Ev.up ?_
    simp only [G.spec_validStore.L1, Int.toNat_natCast, wrap_suc (show i + 1 < 9223372036854775808 by omega)]
    rw [drop_of_lt (default : ItemT) hil, List.all_cons]
    refine Ev.ct (decide_eq_true (by omega)) (Ev.chk (by omega) ?_)
    unfold ItV
    refine Ev.bind (T.spec_validName _ (by unfold big; omega)) (Ev.ite (fun e1 => ?_) (fun e1 => Ev.ret' (by rw [e1]; simp)))
    refine Ev.bind (T.spec_validNode (by unfold lim; omega) hd) (Ev.ite (fun e2 => ?_) (fun e2 => Ev.ret' (by rw [e2]; simp)))
    refine Ev.bind (T.spec_inRange _ _ _) (Ev.ite (fun e3 => ?_) (fun e3 => Ev.ret' (by rw [e3]; simp)))
    rw [e1, e2, e3]
    have ih' := ih (i + 1) (by omega)
    unfold ItV at ih'
    rw [Nat.add_sub_cancel] at ih'
    by_cases h0 : 0 < i
    · have e : IntKind.wrap .i64 ((i : Int) - 1) = ((i - 1 : Nat) : Int) := wrapN (by omega) (by omega)
      rw [e, Int.toNat_natCast]
      rw [asc_step h0 (by rw [nms_len]; exact hil), nms_at hil, nms_at (by omega : i - 1 < s.Items.length)]
      refine Ev.ct (decide_eq_true (by omega)) (Ev.chk (by omega) (Ev.ite (fun h1 => Ev.ret' ?_) (fun h1 => Ev.ite (fun h2 => Ev.ret' ?_) (fun h2 => ?_))))
      · rw [show bl (s.Items.getD (i - 1) default).Name (s.Items.getD i default).Name = false from bl_asymm h1]; simp
      · rw [beq_iff_eq] at h2
        rw [show bl (s.Items.getD (i - 1) default).Name (s.Items.getD i default).Name = false by rw [h2]; exact bl_irr _]; simp
      · have hb : bl (s.Items.getD (i - 1) default).Name (s.Items.getD i default).Name = true := by
          cases hb : bl (s.Items.getD (i - 1) default).Name (s.Items.getD i default).Name with
          | true => rfl
          | false => rw [bl_tri h1 hb] at h2; simp at h2
        rw [hb]
        exact ih'.eq (by simp)
    · have : i = 0 := by omega
      subst this
      exact Ev.cf (by decide) (ih'.eq (by simp))
theorem T.spec_validStore : Ev (fun f => G.spec_validStore f s) (StV s) := by
  refine Ev.up ?_
  simp only [G.spec_validStore]
  exact T.spec_validStore.L1 hB h s.Items.length 0 (by omega)
theorem T.spec_copyStore : Ev (fun f => G.spec_copyStore f s) s := by
  have hl := h.len
  unfold lim at hB
  have L : ∀ (k i : Nat), i + k = s.Items.length → Ev (fun f => G.spec_copyStore.L1 f s i (s.Items.take i)) s := by
    intro k
    induction k with
    | zero =>
      intro i hi
      refine Ev.up ?_
      simp only [G.spec_copyStore.L1]
      refine Ev.cf (decide_eq_false (by omega)) (Ev.ret' ?_)
      rw [List.take_of_length_le (by omega)]
    | succ k ih =>
      intro i hi
      have hil : i < s.Items.length := by omega
      obtain ⟨hn, ⟨D, hd⟩⟩ := h.at_ hil
      refine Ev.up ?_
      simp only [G.spec_copyStore.L1, Int.toNat_natCast, wrap_suc (show i + 1 < 9223372036854775808 by omega)]
      refine Ev.ct (decide_eq_true (by omega)) (Ev.chk (by omega) (Ev.chk (by omega) (Ev.chk (by omega) (Ev.bind (T.spec_copyNode (by unfold lim; omega) hd) (Ev.chk (by simp; omega) ?_)))))
      have := ih (i + 1) (by omega)
      rw [List.take_succ_eq_append_getElem hil, ← getD_of_lt (default : ItemT) hil] at this
      exact this
  refine Ev.up ?_
  simp only [G.spec_copyStore]
  exact L s.Items.length 0 (by omega)
end
structure StF (s : StoreT) : Prop where
  itm : ∀ it, it ∈ s.Items → ItV s.Clock it = true
  asc : Asc (nmsI s.Items) = true
  len : s.Items.length ≤ 10
  lo : 0 ≤ s.Clock
  hi : s.Clock ≤ 999
theorem st_iff {s : StoreT} : StV s = true ↔ StF s := by
  unfold StV
  simp only [Bool.and_eq_true, decide_eq_true_eq, List.all_eq_true]
  exact ⟨fun ⟨⟨h1, h2⟩, h3, h4, h5⟩ => ⟨h1, h2, h3, h4, h5⟩, fun h => ⟨⟨h.itm, h.asc⟩, h.len, h.lo, h.hi⟩⟩
structure ItF (c : Int) (it : ItemT) : Prop where
  nam : NmV it.Name = true
  nod : Val it.Node = true
  lo : 1 ≤ it.Version
  hi : it.Version ≤ c
theorem it_iff {c : Int} {it : ItemT} : ItV c it = true ↔ ItF c it := by
  unfold ItV
  simp only [Bool.and_eq_true, decide_eq_true_eq]
  exact ⟨fun ⟨h1, h2, h3, h4⟩ => ⟨h1, h2, h3, h4⟩, fun h => ⟨h.nam, h.nod, h.lo, h.hi⟩⟩
theorem nm_len {s : Txt} (h : NmV s = true) : 1 ≤ s.length ∧ s.length ≤ 8 := by
  unfold NmV at h
  simp only [Bool.and_eq_true, decide_eq_true_eq] at h
  exact h.2
theorem StF.it {s : StoreT} (h : StF s) {i : Nat} (hi : i < s.Items.length) : ItF s.Clock (s.Items.getD i default) := it_iff.1 (h.itm _ (getD_mem default hi))
theorem StF.fine {s : StoreT} (h : StF s) : FineS 60 s :=
  ⟨by have := h.len; omega, fun it hi => by have := (nm_len (it_iff.1 (h.itm it hi)).nam).2; omega, fun it hi => ⟨5, fine_val (it_iff.1 (h.itm it hi)).nod⟩⟩
def noSt : StoreT := StoreT.mk [] 0
end Go.Ab
end
section
namespace Go.Ab
open Go
set_option maxRecDepth 100000
set_option linter.unusedSectionVars false
def putL (x : ItemT) : List ItemT → List ItemT
  | [] => [x]
  | y :: r => if bl y.Name x.Name then y :: putL x r else if y.Name = x.Name then x :: r else x :: y :: r
def putM (s : StoreT) (t : Txt) (n : NodeT) : StoreT := StoreT.mk (putL (ItemT.mk t (s.Clock + 1) n) s.Items) (s.Clock + 1)
def PutM (s : StoreT) (t : Txt) (n : NodeT) : Option StoreT := if StV s && NmV t && Val n then (some (putM s t n)).filter StV else none
def pairS : Option StoreT → StoreT × Bool
  | some s => (s, true)
  | none => (noSt, false)
theorem pairS_filter {s : StoreT} : pairS ((some s).filter StV) = if StV s then (s, true) else (noSt, false) := by
  cases h : StV s <;> simp [Option.filter, h, pairS]
theorem nms_cons {y : ItemT} {r : List ItemT} : nmsI (y :: r) = y.Name :: nmsI r := rfl
theorem asc_nm_tail {y : ItemT} {r : List ItemT} (h : Asc (nmsI (y :: r)) = true) : Asc (nmsI r) = true ∧ ∀ z, z ∈ r → bl y.Name z.Name = true := by
  rw [nms_cons] at h
  exact ⟨Asc_tail h, fun z hz => Asc_head h _ (List.mem_map.2 ⟨z, hz, rfl⟩)⟩
theorem putL_mem {x : ItemT} : ∀ {l : List ItemT} {it : ItemT}, Asc (nmsI l) = true → (it ∈ putL x l ↔ it = x ∨ (it ∈ l ∧ it.Name ≠ x.Name))
  | [], it, _ => by simp [putL]
  | y :: r, it, h => by
    obtain ⟨h1, h2⟩ := asc_nm_tail h
    rw [putL]
    cases hb : bl y.Name x.Name with
    | true =>
      have hne := bl_ne hb
      rw [if_pos rfl, List.mem_cons, putL_mem h1, List.mem_cons]
      constructor
      · rintro (e | e | ⟨e, e2⟩)
        · exact .inr ⟨.inl e, e ▸ hne⟩
        · exact .inl e
        · exact .inr ⟨.inr e, e2⟩
      · rintro (e | ⟨e | e, e2⟩)
        · exact .inr (.inl e)
        · exact .inl e
        · exact .inr (.inr ⟨e, e2⟩)
    | false =>
      rw [if_neg (by simp)]
      by_cases e : y.Name = x.Name
      · rw [if_pos e, List.mem_cons, List.mem_cons]
        constructor
        · rintro (q | q)
          · exact .inl q
          · exact .inr ⟨.inr q, fun w => by have := bl_ne (h2 it q); rw [e, w] at this; exact this rfl⟩
        · rintro (q | ⟨q | q, w⟩)
          · exact .inl q
          · exact absurd (q ▸ e) w
          · exact .inr q
      · rw [if_neg e, List.mem_cons, List.mem_cons]
        have hx : bl x.Name y.Name = true := by
          cases k : bl x.Name y.Name with
          | true => rfl
          | false => exact absurd (bl_tri hb k) e
        constructor
        · rintro (q | q | q)
          · exact .inl q
          · exact .inr ⟨.inl q, q ▸ e⟩
          · exact .inr ⟨.inr q, fun w => by have := bl_ne (bl_trans hx (h2 it q)); rw [w] at this; exact this rfl⟩
        · rintro (q | ⟨q, _⟩)
          · exact .inl q
          · exact .inr q
theorem putL_len {x : ItemT} : ∀ {l : List ItemT}, (putL x l).length ≤ l.length + 1
  | [] => by simp [putL]
  | y :: r => by
    have := putL_len (x := x) (l := r)
    rw [putL]
    split
    · simp only [List.length_cons]; omega
    · split <;> simp
section
variable {B D : Nat} {s : StoreT} {t : Txt} {n : NodeT} (hB : B ≤ lim) (h : FineS B s) (ht : t.length ≤ B) (hn : Fine B D n)
include hB h ht hn
end
section
variable {s : StoreT} {t : Txt} {n : NodeT}
theorem T.spec_put.done (hl : s.Items.length ≤ 1000) : ∀ (k i : Nat) (z : List ItemT), i + k = s.Items.length → z.length ≤ i + 1 → (∀ it, it ∈ s.Items.drop i → it.Name ≠ t) →
    Ev (fun f => G.spec_put.L3 f s t n s true i z) (StoreT.mk (z ++ s.Items.drop i) (IntKind.wrap .i64 (s.Clock + 1))) := by
  intro k
  induction k with
  | zero =>
    intro i z hi hz _
    refine Ev.up ?_
    simp only [G.spec_put.L3]
    refine Ev.cf (decide_eq_false (by omega)) (Ev.ct rfl (Ev.ret' ?_))
    rw [List.drop_of_length_le (by omega), List.append_nil]
  | succ k ih =>
    intro i z hi hz hne
    have hil : i < s.Items.length := by omega
    have hd := drop_of_lt (default : ItemT) hil
    rw [hd] at hne
    have h1 := hne (s.Items.getD i default) (by simp)
    refine Ev.up ?_
    simp only [G.spec_put.L3]
    refine Ev.ct (decide_eq_true (by omega)) (Ev.ct rfl (Ev.up ?_))
    simp only [G.spec_put.K4, Int.toNat_natCast, wrap_suc (show i + 1 < 9223372036854775808 by omega)]
    refine Ev.chk (by omega) (Ev.cf (by simpa using h1) (Ev.chk (by omega) (Ev.chk (by omega) ?_)))
    refine (ih (i + 1) _ (by omega) (by simp; omega) (fun it hit => hne it (by simp [hit]))).eq ?_
    rw [hd]
    simp
theorem T.spec_put.more (hl : s.Items.length ≤ 1000) (hA : Asc (nmsI s.Items) = true) : ∀ (k i : Nat) (z : List ItemT), i + k = s.Items.length → z.length ≤ i →
    Ev (fun f => G.spec_put.L3 f s t n s false i z) (StoreT.mk (z ++ putL (ItemT.mk t (IntKind.wrap .i64 (s.Clock + 1)) n) (s.Items.drop i)) (IntKind.wrap .i64 (s.Clock + 1))) := by
  intro k
  induction k with
  | zero =>
    intro i z hi hz
    refine Ev.up ?_
    simp only [G.spec_put.L3]
    refine Ev.cf (decide_eq_false (by omega)) (Ev.cf rfl (Ev.chk (by omega) (Ev.ret' ?_)))
    rw [List.drop_of_length_le (by omega)]
    rfl
  | succ k ih =>
    intro i z hi hz
    have hil : i < s.Items.length := by omega
    have hd := drop_of_lt (default : ItemT) hil
    have later : ∀ it, it ∈ s.Items.drop (i + 1) → bl (s.Items.getD i default).Name it.Name = true := fun it hit => by
      obtain ⟨j, hj, e⟩ := List.mem_drop_iff_getElem.1 hit
      have hj' : i + 1 + j < s.Items.length := by omega
      have := Asc_lt hA i (i + 1 + j) (by omega) (by rw [nms_len]; exact hj')
      rw [nms_at hil, nms_at hj', getD_of_lt _ hj', e] at this
      exact this
    refine Ev.up ?_
    simp only [G.spec_put.L3, Int.toNat_natCast]
    rw [hd, putL]
    refine Ev.ct (decide_eq_true (by omega)) (Ev.cf rfl (Ev.chk (by omega) ?_))
    refine Ev.ite (fun e => ?_) (fun e => ?_)
    · have e : bl (s.Items.getD i default).Name t = true := e
      rw [if_pos e]
      refine Ev.up ?_
      simp only [G.spec_put.K4, Int.toNat_natCast, wrap_suc (show i + 1 < 9223372036854775808 by omega)]
      refine Ev.chk (by omega) (Ev.cf (by simpa using bl_ne e) (Ev.chk (by omega) (Ev.chk (by omega) ?_)))
      refine (ih (i + 1) _ (by omega) (by simp; omega)).eq ?_
      simp
    · have e : bl (s.Items.getD i default).Name t = false := e
      rw [if_neg (by simp only [e]; simp)]
      refine Ev.chk (by omega) (Ev.up ?_)
      simp only [G.spec_put.K4, Int.toNat_natCast, wrap_suc (show i + 1 < 9223372036854775808 by omega)]
      refine Ev.chk (by omega) (Ev.ite (fun e2 => ?_) (fun e2 => ?_))
      · have e2 : (s.Items.getD i default).Name = t := by simpa using e2
        rw [if_pos e2]
        refine (T.spec_put.done hl k (i + 1) _ (by omega) (by simp; omega) (fun it hit w => by have := bl_ne (later it hit); rw [e2, w] at this; exact this rfl)).eq ?_
        simp
      · have e2 : (s.Items.getD i default).Name ≠ t := by simpa using e2
        rw [if_neg e2]
        have hx : bl t (s.Items.getD i default).Name = true := by
          cases q : bl t (s.Items.getD i default).Name with
          | true => rfl
          | false => exact absurd (bl_tri e q) e2
        refine Ev.chk (by omega) (Ev.chk (by simp; omega) ?_)
        refine (T.spec_put.done hl k (i + 1) _ (by omega) (by simp; omega) (fun it hit w => by have := bl_ne (bl_trans hx (later it hit)); rw [w] at this; exact this rfl)).eq ?_
        simp
end
section
variable {B D : Nat} {s : StoreT} {t : Txt} {n : NodeT} (hB : B ≤ lim) (h : FineS B s)
include hB h
theorem T.spec_put (hn : Fine B D n) (hs : StF s) : Ev (fun f => G.spec_put f s t n) (putM s t n) := by
  have hl := hs.len
  have hlo := hs.lo
  have hhi := hs.hi
  refine Ev.up ?_
  simp only [G.spec_put]
  refine Ev.bind (T.spec_copyNode hB hn) (Ev.bind (T.spec_copyStore hB h) ?_)
  refine (T.spec_put.more (by omega) hs.asc s.Items.length 0 [] (by omega) (by simp)).eq ?_
  rw [wrap_id (by omega) (by omega)]
  rfl
theorem put_fine (hs : StF s) (ht : NmV t = true) (hn : Val n = true) : FineS 60 (putM s t n) := by
  have := putL_len (x := ItemT.mk t (s.Clock + 1) n) (l := s.Items)
  have := hs.len
  refine ⟨by show (putL _ _).length ≤ _; omega, fun it hi => ?_, fun it hi => ?_⟩
  · rcases (putL_mem hs.asc).1 hi with e | ⟨e, _⟩
    · rw [e]; show t.length ≤ 60; have := (nm_len ht).2; omega
    · exact hs.fine.nam it e
  · rcases (putL_mem hs.asc).1 hi with e | ⟨e, _⟩
    · rw [e]; exact ⟨5, fine_val hn⟩
    · exact hs.fine.nod it e
theorem T.spec_PutItem (ht : t.length ≤ B) (hn : Fine B D n) : Ev (fun f => G.spec_PutItem f s t n) (pairS (PutM s t n)) := by
  refine Ev.up ?_
  simp only [G.spec_PutItem]
  unfold PutM
  refine Ev.bind (T.spec_validStore hB h) (Ev.ite (fun e1 => ?_) (fun e1 => Ev.ret' (by rw [e1]; rfl)))
  refine Ev.bind (T.spec_validName _ (by unfold big; unfold lim at hB; omega)) (Ev.ite (fun e2 => ?_) (fun e2 => Ev.ret' (by rw [e1, e2]; rfl)))
  refine Ev.bind (T.spec_validNode hB hn) (Ev.ite (fun e3 => ?_) (fun e3 => Ev.ret' (by rw [e1, e2, e3]; rfl)))
  have hs := st_iff.1 e1
  rw [e1, e2, e3]
  refine Ev.bind (T.spec_put hB h hn hs) (Ev.bind (T.spec_validStore lim60 (put_fine hB h hs e2 e3)) ?_)
  show Ev _ (pairS ((some (putM s t n)).filter StV))
  rw [pairS_filter]
  cases hv : StV (putM s t n) with
  | true => exact Ev.ct rfl (Ev.ret _)
  | false => exact Ev.cf rfl (Ev.ret _)
end
theorem putM_val {s m : StoreT} {t : Txt} {n : NodeT} (h : PutM s t n = some m) : StV s = true ∧ NmV t = true ∧ Val n = true ∧ m = putM s t n ∧ StV m = true := by
  unfold PutM at h
  split at h
  · rename_i c
    obtain ⟨⟨c1, c2⟩, c3⟩ : (StV s = true ∧ NmV t = true) ∧ Val n = true := by simpa using c
    obtain ⟨h1, h2⟩ := Option.filter_eq_some_iff.1 h
    cases h1
    exact ⟨c1, c2, c3, rfl, h2⟩
  · cases h
def fnd (l : List ItemT) (t : Txt) : Option Nat := (List.range' 0 l.length).find? fun i => (l.getD i default).Name == t
theorem fnd_some {l : List ItemT} {t : Txt} {j : Nat} : fnd l t = some j ↔ (j < l.length ∧ (l.getD j default).Name = t ∧ ∀ q, q < j → (l.getD q default).Name ≠ t) := by
  unfold fnd
  rw [find_some]
  constructor
  · rintro ⟨_, h2, h3, h4⟩
    exact ⟨by omega, by simpa using h3, fun q hq => by simpa using h4 q (by omega) hq⟩
  · rintro ⟨h2, h3, h4⟩
    exact ⟨by omega, by omega, by simpa using h3, fun q _ hq => by simpa using h4 q hq⟩
theorem T.spec_find {s : StoreT} (t : Txt) (hl : s.Items.length ≤ lim) : Ev (fun f => G.spec_find f s t) (plcI (fnd s.Items t)) := by
  unfold lim at hl
  have L : ∀ (k i : Nat), i + k = s.Items.length → Ev (fun f => G.spec_find.L1 f s t i) (plcI ((List.range' i k).find? fun i => (s.Items.getD i default).Name == t)) := by
    intro k
    induction k with
    | zero =>
      intro i hi
      refine Ev.up ?_
      simp only [G.spec_find.L1]
      exact Ev.cf (decide_eq_false (by omega)) (Ev.ret _)
    | succ k ih =>
      intro i hi
      refine Ev.up ?_
      simp only [G.spec_find.L1, Int.toNat_natCast, wrap_suc (show i + 1 < 9223372036854775808 by omega)]
      rw [List.range'_succ, List.find?_cons]
      refine Ev.ct (decide_eq_true (by omega)) (Ev.chk (by omega) (Ev.ite (fun e => Ev.ret' ?_) (fun e => ?_)))
      · simp only [show ((s.Items.getD i default).Name == t) = true from e]; rfl
      · simp only [show ((s.Items.getD i default).Name == t) = false from e]
        exact ih (i + 1) (by omega)
  refine Ev.up ?_
  simp only [G.spec_find]
  exact L s.Items.length 0 (by omega)
def dropM (s : StoreT) (t : Txt) : StoreT := StoreT.mk (s.Items.filter fun it => !(it.Name == t)) (s.Clock + 1)
def DropM (s : StoreT) (t : Txt) : Option StoreT := if StV s && (fnd s.Items t).isSome && !(s.Clock == 999) then some (dropM s t) else none
theorem T.spec_drop {B : Nat} {s : StoreT} {t : Txt} (hB : B ≤ lim) (h : FineS B s) (hs : StF s) : Ev (fun f => G.spec_drop f s t) (dropM s t) := by
  have hl := hs.len
  have hlo := hs.lo
  have hhi := hs.hi
  have L : ∀ (k i : Nat) (z : List ItemT), i + k = s.Items.length → z.length ≤ i → Ev (fun f => G.spec_drop.L1 f s t s i z) (StoreT.mk (z ++ (s.Items.drop i).filter fun it => !(it.Name == t)) (IntKind.wrap .i64 (s.Clock + 1))) := by
    intro k
    induction k with
    | zero =>
      intro i z hi hz
      refine Ev.up ?_
      simp only [G.spec_drop.L1]
      refine Ev.cf (decide_eq_false (by omega)) (Ev.ret' ?_)
      rw [List.drop_of_length_le (by omega)]; simp
    | succ k ih =>
      intro i z hi hz
      have hil : i < s.Items.length := by omega
      refine Ev.up ?_
      simp only [G.spec_drop.L1, Int.toNat_natCast, wrap_suc (show i + 1 < 9223372036854775808 by omega)]
      rw [drop_of_lt (default : ItemT) hil, List.filter_cons]
      refine Ev.ct (decide_eq_true (by omega)) (Ev.chk (by omega) (Ev.ite (fun e => ?_) (fun e => ?_)))
      · rw [show ((s.Items.getD i default).Name == t) = true from e]
        exact (ih (i + 1) z (by omega) (by omega)).eq (by simp)
      · rw [show ((s.Items.getD i default).Name == t) = false from e]
        refine Ev.chk (by omega) (Ev.chk (by omega) ?_)
        exact (ih (i + 1) _ (by omega) (by simp; omega)).eq (by simp)
  refine Ev.up ?_
  simp only [G.spec_drop]
  refine Ev.bind (T.spec_copyStore hB h) ((L s.Items.length 0 [] (by omega) (by simp)).eq ?_)
  rw [wrap_id (by omega) (by omega)]
  rfl
theorem T.spec_DropItem {B : Nat} {s : StoreT} {t : Txt} (hB : B ≤ lim) (h : FineS B s) : Ev (fun f => G.spec_DropItem f s t) (pairS (DropM s t)) := by
  have hl := h.len
  refine Ev.up ?_
  simp only [G.spec_DropItem]
  unfold DropM
  refine Ev.bind (T.spec_validStore hB h) (Ev.ite (fun e1 => ?_) (fun e1 => Ev.ret' (by rw [e1]; rfl)))
  refine Ev.bind (T.spec_find t (Nat.le_trans hl hB)) ?_
  cases hf : fnd s.Items t with
  | none => exact Ev.ct (by decide) (Ev.ret' (by rw [e1]; rfl))
  | some j =>
    refine Ev.cf (decide_eq_false (by simp only [plcI]; omega)) (Ev.ite (fun e2 => Ev.ret' (by rw [e1, e2]; rfl)) (fun e2 => ?_))
    refine Ev.bind (T.spec_drop hB h (st_iff.1 e1)) (Ev.ret' (by rw [e1, e2]; rfl))
theorem asc_sub {l m : List Txt} (h : l.Sublist m) (hm : Asc m = true) : Asc l = true := asc_pairwise.2 ((asc_pairwise.1 hm).sublist h)
theorem drop_val {s m : StoreT} {t : Txt} (h : DropM s t = some m) : StV s = true ∧ (fnd s.Items t).isSome = true ∧ s.Clock ≠ 999 ∧ m = dropM s t ∧ StV m = true := by
  unfold DropM at h
  split at h
  · rename_i c
    obtain ⟨⟨c1, c2⟩, c3⟩ : (StV s = true ∧ (fnd s.Items t).isSome = true) ∧ s.Clock ≠ 999 := by simpa using c
    cases h
    have hs := st_iff.1 c1
    refine ⟨c1, c2, c3, rfl, st_iff.2 ⟨fun it hit => ?_, ?_, ?_, ?_, ?_⟩⟩
    · have := it_iff.1 (hs.itm it (List.mem_filter.1 hit).1)
      have hhi := this.hi
      exact it_iff.2 ⟨this.nam, this.nod, this.lo, by show it.Version ≤ s.Clock + 1; omega⟩
    · exact asc_sub (List.Sublist.map _ List.filter_sublist) hs.asc
    · show (s.Items.filter _).length ≤ 10
      exact Nat.le_trans (List.length_filter_le _ _) hs.len
    · show 0 ≤ s.Clock + 1
      have := hs.lo
      omega
    · show s.Clock + 1 ≤ 999
      have := hs.hi
      omega
  · cases h
end Go.Ab
end
section
namespace Go.Ab
open Go
set_option maxRecDepth 100000
theorem D.itemName {K : Nat} {r : ReaderT} (hr : RdOK K r) (hK : K ≤ 1000000000) : Dr (K + 1) (fun x => NmV x = true) (fun f => G.spec_itemName f r) := by
  refine Tot.up ?_
  simp only [G.spec_itemName]
  obtain ⟨x, r', g, hx, hr'⟩ := T.of hr hK [[97], [98], [100, 111, 99], [122, 122], [97, 49], [109], [120, 57], [98, 111, 111, 107], [97, 98, 99, 100, 101, 102, 103, 104], [113]] (by decide) (by decide)
  exact Tot.bindE g (Tot.ret ⟨List.all_eq_true.1 (by decide : List.all [[97], [98], [100, 111, 99], [122, 122], [97, 49], [109], [120, 57], [98, 111, 111, 107], [97, 98, 99, 100, 101, 102, 103, 104], [113]] NmV = true) x hx, hr'⟩)
theorem D.badName {K : Nat} {r : ReaderT} (hr : RdOK K r) (hK : K ≤ 1000000000) : Dr (K + 1) (fun x : Txt => x.length ≤ 12) (fun f => G.spec_badName f r) := by
  refine Tot.up ?_
  simp only [G.spec_badName]
  refine Tot.bind (D.of (m := 12) hr hK _ (by decide) (by decide) (by decide)) ?_
  rintro ⟨x, r'⟩ ⟨hx, hr'⟩
  exact Tot.ret ⟨hx, hr'⟩
theorem st_new : StV noSt = true := by decide
theorem D.someStore.K4 {K : Nat} {Q : StoreT → Prop} {s m : StoreT} {j : Nat} {r : ReaderT} {ok : Bool} (hj : j + 1 ≤ 1000)
    (h1 : ok = true → Dr K Q (fun f => G.spec_someStore.L3 f (j : Int) r.b r.p m.Items m.Clock)) (h2 : Dr K Q (fun f => G.spec_someStore.L3 f (j : Int) r.b r.p s.Items s.Clock)) :
    Dr K Q (fun f => G.spec_someStore.K4 f ((j + 1 : Nat) : Int) s.Items s.Clock ok r.b r.p m.Items m.Clock) := by
  have w : IntKind.wrap .i64 (((j + 1 : Nat) : Int) - 1) = (j : Int) := wrapN (by omega) (by omega)
  refine Tot.up ?_
  simp only [G.spec_someStore.K4, w]
  exact Tot.ite (fun e => h1 e) (fun _ => h2)
theorem D.someStore.L3 : ∀ (j K : Nat) (r : ReaderT) (s : StoreT), j ≤ 12 → RdOK K r → K + 700 * j ≤ 500000000 → StV s = true →
    Dr (K + 700 * j) (fun s => StV s = true) (fun f => G.spec_someStore.L3 f (j : Int) r.b r.p s.Items s.Clock) := by
  intro j
  induction j with
  | zero =>
    intro K r s _ hr _ hs
    refine Tot.up ?_
    simp only [G.spec_someStore.L3]
    exact Tot.ite (fun e => by simp at e) (fun _ => Tot.ret ⟨hs, hr.mono (by omega)⟩)
  | succ j ih =>
    intro K r s hj hr hK hs
    refine Tot.up ?_
    simp only [G.spec_someStore.L3]
    refine Tot.ite (fun _ => ?_) (fun e => absurd e (by simp))
    refine Tot.bind (D.itemName hr (by omega)) ?_
    rintro ⟨nm, r1⟩ ⟨hnm, hr1⟩
    refine Tot.bind (D.someNode hr1 (by omega)) ?_
    rintro ⟨v, r2⟩ ⟨hv, hr2⟩
    have hfs := (st_iff.1 hs).fine
    refine Tot.bindE (T.spec_PutItem lim60 hfs (by have := (nm_len hnm).2; omega) (fine_val hv)) ?_
    refine Tot.bind (D.pick (m := 8) hr2 (by omega) rfl (by decide) (by decide)) ?_
    rintro ⟨x, r3⟩ ⟨_, hr3⟩
    refine Tot.ite (fun _ => ?_) (fun _ => ?_)
    · refine Tot.bind (D.itemName hr3 (by omega)) ?_
      rintro ⟨nm2, r4⟩ ⟨hnm2, hr4⟩
      refine Tot.bindE (T.spec_DropItem lim60 hfs) ?_
      refine D.someStore.K4 (K := K + 700 * (j + 1)) (Q := fun s => StV s = true) (s := s) (m := (pairS (DropM s nm2)).1) (r := r4) (ok := (pairS (DropM s nm2)).2) (j := j) (by omega) (fun e => ?_) ?_
      · cases hd : DropM s nm2 with
        | none => rw [hd] at e; cases e
        | some m =>
          have := (ih (K + 700) r4 m (by omega) (hr4.mono (by omega)) (by omega) (drop_val hd).2.2.2.2)
          refine Tot.mono this (fun x hx => ⟨hx.1, hx.2.mono (by omega)⟩)
      · exact Tot.mono (ih (K + 700) r4 s (by omega) (hr4.mono (by omega)) (by omega) hs) (fun x hx => ⟨hx.1, hx.2.mono (by omega)⟩)
    · refine D.someStore.K4 (K := K + 700 * (j + 1)) (Q := fun s => StV s = true) (s := s) (m := (pairS (PutM s nm v)).1) (r := r3) (ok := (pairS (PutM s nm v)).2) (j := j) (by omega) (fun e => ?_) ?_
      · cases hd : PutM s nm v with
        | none => rw [hd] at e; cases e
        | some m =>
          exact Tot.mono (ih (K + 700) r3 m (by omega) (hr3.mono (by omega)) (by omega) (putM_val hd).2.2.2.2) (fun x hx => ⟨hx.1, hx.2.mono (by omega)⟩)
      · exact Tot.mono (ih (K + 700) r3 s (by omega) (hr3.mono (by omega)) (by omega) hs) (fun x hx => ⟨hx.1, hx.2.mono (by omega)⟩)
theorem D.someStore {K : Nat} {r : ReaderT} (hr : RdOK K r) (hK : K ≤ 400000000) : Dr (K + 9000) (fun s => StV s = true) (fun f => G.spec_someStore f r) := by
  refine Tot.up ?_
  simp only [G.spec_someStore]
  obtain ⟨x, r1, g, hx, hr1⟩ := T.one hr (by omega) [3, 4, 2, 5, 0, 12] (by decide) (by decide)
  refine Tot.bindE g ?_
  obtain ⟨j, hj, rfl⟩ : ∃ j : Nat, j ≤ 12 ∧ x = (j : Int) := by
    simp only [List.mem_cons, List.not_mem_nil, or_false] at hx
    rcases hx with rfl | rfl | rfl | rfl | rfl | rfl
    · exact ⟨3, by omega, rfl⟩
    · exact ⟨4, by omega, rfl⟩
    · exact ⟨2, by omega, rfl⟩
    · exact ⟨5, by omega, rfl⟩
    · exact ⟨0, by omega, rfl⟩
    · exact ⟨12, by omega, rfl⟩
  exact Tot.mono (D.someStore.L3 j (K + 1) r1 noSt hj hr1 (by omega) st_new) (fun x hx => ⟨hx.1, hx.2.mono (by omega)⟩)
theorem fineS_set {s : StoreT} {x : ItemT} (h : FineS 60 s) (hx : x.Name.length ≤ 60) (hn : FineE 60 x.Node) : FineS 60 (StoreT.mk (s.Items.set 0 x) s.Clock) := by
  refine ⟨by show (s.Items.set 0 x).length ≤ 60; rw [List.length_set]; exact h.len, fun it hi => ?_, fun it hi => ?_⟩
  · rcases List.mem_or_eq_of_mem_set hi with e | e
    · exact h.nam it e
    · exact e ▸ hx
  · rcases List.mem_or_eq_of_mem_set hi with e | e
    · exact h.nod it e
    · exact e ▸ hn
theorem D.anyStore {K : Nat} {r : ReaderT} (hr : RdOK K r) (hK : K ≤ 300000000) : Dr (K + 10000) (FineS 60) (fun f => G.spec_anyStore f r) := by
  refine Tot.up ?_
  simp only [G.spec_anyStore]
  refine Tot.bind (D.someStore hr (by omega)) ?_
  rintro ⟨s, r1⟩ ⟨hs, hr1⟩
  have hs : StV s = true := hs
  have hf := (st_iff.1 hs).fine
  have hl := (st_iff.1 hs).len
  refine Tot.bind (D.pick (m := 30) hr1 (by omega) rfl (by decide) (by decide)) ?_
  rintro ⟨x, r2⟩ ⟨_, hr2⟩
  refine Tot.ite (fun _ => ?_) (fun _ => Tot.ite (fun _ => ?_) (fun _ => Tot.ite (fun _ => Tot.ite (fun e => ?_) (fun _ => Tot.ret ⟨hf, hr2.mono (by omega)⟩)) (fun _ => Tot.ite (fun _ => Tot.ite (fun e => ?_) (fun _ => Tot.ret ⟨hf, hr2.mono (by omega)⟩)) (fun _ => Tot.ret ⟨hf, hr2.mono (by omega)⟩))))
  · refine Tot.bind (D.one hr2 (by omega) _ (by decide) (by decide)) ?_
    rintro ⟨c, r3⟩ ⟨_, hr3⟩
    exact Tot.ret ⟨⟨hf.len, hf.nam, hf.nod⟩, hr3.mono (by omega)⟩
  · refine Tot.bind (D.badName hr2 (by omega)) ?_
    rintro ⟨b, r3⟩ ⟨hb, hr3⟩
    have hb : b.length ≤ 12 := hb
    refine Tot.chk (by simp only; omega) (Tot.ret ⟨⟨by show (s.Items ++ _).length ≤ 60; simp; omega, fun it hi => ?_, fun it hi => ?_⟩, hr3.mono (by omega)⟩)
    · rcases List.mem_append.1 hi with e | e
      · exact hf.nam it e
      · rw [List.mem_singleton.1 e]; show b.length ≤ 60; omega
    · rcases List.mem_append.1 hi with e | e
      · exact hf.nod it e
      · rw [List.mem_singleton.1 e]; exact ⟨5, fine_val val_no⟩
  · have e' : 0 < s.Items.length := by simp only [decide_eq_true_eq] at e; omega
    obtain ⟨h1, h2⟩ := hf.at_ e'
    refine Tot.bind (D.one hr2 (by omega) _ (by simp) (by simp)) ?_
    rintro ⟨c, r3⟩ ⟨_, hr3⟩
    exact Tot.chk (by simp only; omega) (Tot.ret ⟨fineS_set hf h1 h2, hr3.mono (by omega)⟩)
  · have e' : 0 < s.Items.length := by simp only [decide_eq_true_eq] at e; omega
    obtain ⟨h1, h2⟩ := hf.at_ e'
    refine Tot.bind (D.anyNode hr2 (by omega)) ?_
    rintro ⟨v, r3⟩ ⟨⟨E, hv⟩, hr3⟩
    exact Tot.chk (by simp only; omega) (Tot.ret ⟨fineS_set hf h1 ⟨E, hv.mono (by omega) (Nat.le_refl _)⟩, hr3.mono (by omega)⟩)
end Go.Ab
end
section
namespace Go.Ab
open Go
set_option maxRecDepth 100000
def okH (b : UInt8) : Bool := (decide (48 ≤ b.toNat) && decide (b.toNat ≤ 57)) || (decide (97 ≤ b.toNat) && decide (b.toNat ≤ 102))
def SumV (s : Txt) : Bool := s.all okH && decide (s.length = 4)
def TagV (s : Txt) : Bool := s == [42] || SumV s
def TagsV (l : List Txt) : Bool := l.all TagV && decide (l.length ≤ 4)
def hexD : Txt := [48, 49, 50, 51, 52, 53, 54, 55, 56, 57, 97, 98, 99, 100, 101, 102]
theorem hex_all : ∀ n : Nat, n < 256 → decide (Go.Lib.indexByte hexD (UInt8.ofNat n) < 0) = !okH (UInt8.ofNat n) := by decide +kernel
theorem hex_at (b : UInt8) : decide (Go.Lib.indexByte hexD b < 0) = !okH b := by
  have := hex_all b.toNat b.toNat_lt
  rwa [UInt8.ofNat_toNat] at this
theorem T.spec_validTag (s : Txt) (hs : s.length < big) : Ev (fun f => G.spec_validTag f s) (SumV s) := by
  unfold big at hs
  have L : ∀ (k i : Nat), i + k = s.length → Ev (fun f => G.spec_validTag.L1 f s i) ((s.drop i).all okH && decide (s.length = 4)) := by
    intro k
    induction k with
    | zero =>
      intro i hi
      refine Ev.up ?_
      simp only [G.spec_validTag.L1]
      refine Ev.cf (decide_eq_false (by omega)) (Ev.ret' ?_)
      rw [List.drop_of_length_le (by omega), List.all_nil, Bool.true_and, Bool.eq_iff_iff, beq_iff_eq, decide_eq_true_eq]
      omega
    | succ k ih =>
      intro i hi
      refine Ev.up ?_
      simp only [G.spec_validTag.L1, Int.toNat_natCast, byte_wrap, wrap_suc (show i + 1 < 9223372036854775808 by omega)]
      rw [drop_of_lt (0 : UInt8) (by omega : i < s.length), List.all_cons]
      have e1 : (decide ((48 : Int) ≤ ((s.getD i 0).toNat : Int)) && decide (((s.getD i 0).toNat : Int) ≤ 57)) = (decide (48 ≤ (s.getD i 0).toNat) && decide ((s.getD i 0).toNat ≤ 57)) := by congr 1 <;> (apply decide_eq_decide.2; omega)
      have e2 : (decide ((97 : Int) ≤ ((s.getD i 0).toNat : Int)) && decide (((s.getD i 0).toNat : Int) ≤ 102)) = (decide (97 ≤ (s.getD i 0).toNat) && decide ((s.getD i 0).toNat ≤ 102)) := by congr 1 <;> (apply decide_eq_decide.2; omega)
      refine Ev.ct (decide_eq_true (by omega)) (Ev.chk (by omega) (Ev.bind (T.spec_inRange _ _ _) ?_))
      rw [e1]
      refine Ev.ite (fun h => ?_) (fun h => ?_)
      · refine (ih (i + 1) (by omega)).eq ?_
        unfold okH
        rw [show (decide (48 ≤ (s.getD i 0).toNat) && decide ((s.getD i 0).toNat ≤ 57)) = true from h, Bool.true_or, Bool.true_and]
      · refine Ev.chk (by omega) (Ev.bind (T.spec_inRange _ _ _) ?_)
        rw [e2]
        refine Ev.ite (fun h2 => ?_) (fun h2 => Ev.ret' ?_)
        · refine (ih (i + 1) (by omega)).eq ?_
          unfold okH
          rw [show (decide (97 ≤ (s.getD i 0).toNat) && decide ((s.getD i 0).toNat ≤ 102)) = true from h2, Bool.or_true, Bool.true_and]
        · unfold okH
          rw [show (decide (48 ≤ (s.getD i 0).toNat) && decide ((s.getD i 0).toNat ≤ 57)) = false from h, show (decide (97 ≤ (s.getD i 0).toNat) && decide ((s.getD i 0).toNat ≤ 102)) = false from h2]
          rfl
  refine Ev.up ?_
  simp only [G.spec_validTag]
  exact L s.length 0 (by omega)
theorem T.impl_isSum (s : Txt) (hs : s.length < big) : Ev (fun f => G.impl_isSum f s) (SumV s) := by
  unfold big at hs
  have hI : ∀ b : UInt8, Ev (fun f => G.strings_IndexByte f [48, 49, 50, 51, 52, 53, 54, 55, 56, 57, 97, 98, 99, 100, 101, 102] ((b.toNat : Nat) : Int)) (Go.Lib.indexByte hexD b) := fun b => by
    refine Ev.up ?_
    simp only [G.strings_IndexByte]
    refine Ev.bind (Ev.up ?_) (Ev.ret _)
    simp only [G.internal_stringslite_IndexByte]
    refine Ev.ret' ?_
    rw [Int.toNat_natCast, show b.toNat.toUInt8 = b from UInt8.ofNat_toNat]
    rfl
  have L : ∀ (k i : Nat), i + k = s.length → Ev (fun f => G.impl_isSum.L1 f s i) ((s.drop i).all okH) := by
    intro k
    induction k with
    | zero =>
      intro i hi
      refine Ev.up ?_
      simp only [G.impl_isSum.L1]
      refine Ev.cf (decide_eq_false (by omega)) (Ev.ret' ?_)
      rw [List.drop_of_length_le (by omega)]; rfl
    | succ k ih =>
      intro i hi
      refine Ev.up ?_
      simp only [G.impl_isSum.L1, Int.toNat_natCast, wrap_suc (show i + 1 < 9223372036854775808 by omega)]
      rw [drop_of_lt (0 : UInt8) (by omega : i < s.length), List.all_cons]
      refine Ev.ct (decide_eq_true (by omega)) (Ev.chk (by omega) (Ev.bind (hI _) ?_))
      rw [hex_at]
      refine Ev.ite (fun h => Ev.ret' ?_) (fun h => (ih (i + 1) (by omega)).eq ?_)
      · have : okH (s.getD i 0) = false := by simpa using h
        rw [this]; rfl
      · have : okH (s.getD i 0) = true := by simpa using h
        rw [this]; rfl
  refine Ev.up ?_
  simp only [G.impl_isSum]
  unfold SumV
  refine Ev.ite (fun e => Ev.ret' ?_) (fun e => ?_)
  · have : ¬ s.length = 4 := by
      have : ((s.length : Nat) : Int) ≠ 4 := by simpa using e
      omega
    rw [decide_eq_false this, Bool.and_false]
  · have : s.length = 4 := by
      have : ((s.length : Nat) : Int) = 4 := by simpa using e
      omega
    exact (L s.length 0 (by omega)).eq (by rw [decide_eq_true this, Bool.and_true, List.drop_zero])
theorem T.spec_validTags {l : List Txt} (h : Sm l) : Ev (fun f => G.spec_validTags f l) (TagsV l) := by
  have hl := h.1
  unfold big at hl
  have L : ∀ (k i : Nat), i + k = l.length → Ev (fun f => G.spec_validTags.L1 f l i) ((l.drop i).all TagV && decide (l.length ≤ 4)) := by
    intro k
    induction k with
    | zero =>
      intro i hi
      refine Ev.up ?_
      simp only [G.spec_validTags.L1]
      refine Ev.cf (decide_eq_false (by omega)) (Ev.ret' ?_)
      rw [List.drop_of_length_le (by omega), List.all_nil, Bool.true_and]
      apply decide_eq_decide.2; omega
    | succ k ih =>
      intro i hi
      refine Ev.up ?_
      simp only [G.spec_validTags.L1, Int.toNat_natCast, wrap_suc (show i + 1 < 9223372036854775808 by omega)]
      rw [drop_of_lt (default : Txt) (by omega : i < l.length), List.all_cons]
      unfold TagV
      refine Ev.ct (decide_eq_true (by omega)) (Ev.chk (by omega) (Ev.ite (fun e => (ih (i + 1) (by omega)).eq (by rw [e]; rfl)) (fun e => Ev.chk (by omega) (Ev.bind (T.spec_validTag _ (h.get (by omega))) ?_))))
      exact Ev.ite (fun e2 => (ih (i + 1) (by omega)).eq (by rw [e, e2]; rfl)) (fun e2 => Ev.ret' (by rw [e, e2]; rfl))
  refine Ev.up ?_
  simp only [G.spec_validTags]
  exact L l.length 0 (by omega)
theorem T.impl_areTags {l : List Txt} (h : Sm l) : Ev (fun f => G.impl_areTags f l) (TagsV l) := by
  have hl := h.1
  unfold big at hl
  have L : ∀ (k i : Nat), i + k = l.length → Ev (fun f => G.impl_areTags.L1 f l i) ((l.drop i).all TagV) := by
    intro k
    induction k with
    | zero =>
      intro i hi
      refine Ev.up ?_
      simp only [G.impl_areTags.L1]
      refine Ev.cf (decide_eq_false (by omega)) (Ev.ret' ?_)
      rw [List.drop_of_length_le (by omega)]; rfl
    | succ k ih =>
      intro i hi
      refine Ev.up ?_
      simp only [G.impl_areTags.L1, Int.toNat_natCast, wrap_suc (show i + 1 < 9223372036854775808 by omega)]
      rw [drop_of_lt (default : Txt) (by omega : i < l.length), List.all_cons]
      unfold TagV
      refine Ev.ct (decide_eq_true (by omega)) (Ev.chk (by omega) (Ev.ite (fun e => (ih (i + 1) (by omega)).eq (by rw [e]; rfl)) (fun e => Ev.bind (T.impl_isSum _ (h.get (by omega))) ?_)))
      exact Ev.ite (fun e2 => (ih (i + 1) (by omega)).eq (by rw [e, e2]; rfl)) (fun e2 => Ev.ret' (by rw [e, e2]; rfl))
  refine Ev.up ?_
  simp only [G.impl_areTags]
  unfold TagsV
  refine Ev.ite (fun e => Ev.ret' ?_) (fun e => (L l.length 0 (by omega)).eq ?_)
  · rw [decide_eq_false (show ¬ l.length ≤ 4 by simp only [decide_eq_true_eq] at e; omega), Bool.and_false]
  · rw [decide_eq_true (show l.length ≤ 4 by simp only [decide_eq_false_iff_not] at e; omega), Bool.and_true, List.drop_zero]
structure FineQ (B : Nat) (q : RequestT) : Prop where
  nam : q.Name.length ≤ B
  want : FineP B q.Want
  avoid : FineP B q.Avoid
  body : FineE B q.Body
  ops : FineL q.Ops
def RqV (q : RequestT) : Bool := (decide (1 ≤ q.Method) && decide (q.Method ≤ 5)) && (NmV q.Name && (TagsV q.Want && (TagsV q.Avoid && (Val q.Body && PatV q.Ops))))
section
variable {B : Nat} {q : RequestT} (hB : B ≤ lim) (h : FineQ B q)
include hB h
theorem T.spec_validRequest : Ev (fun f => G.spec_validRequest f q) (RqV q) := by
  obtain ⟨E, hb⟩ := h.body
  have hn := h.nam
  unfold lim at hB
  refine Ev.up ?_
  simp only [G.spec_validRequest]
  unfold RqV
  refine Ev.bind (T.spec_inRange _ _ _) (Ev.ite (fun e1 => ?_) (fun e1 => Ev.ret' (by rw [e1]; rfl)))
  refine Ev.bind (T.spec_validName _ (by unfold big; omega)) (Ev.ite (fun e2 => ?_) (fun e2 => Ev.ret' (by rw [e1, e2]; rfl)))
  refine Ev.bind (T.spec_validTags (h.want.sm (by unfold lim; omega))) (Ev.ite (fun e3 => ?_) (fun e3 => Ev.ret' (by rw [e1, e2, e3]; rfl)))
  refine Ev.bind (T.spec_validTags (h.avoid.sm (by unfold lim; omega))) (Ev.ite (fun e4 => ?_) (fun e4 => Ev.ret' (by rw [e1, e2, e3, e4]; rfl)))
  refine Ev.bind (T.spec_validNode (by unfold lim; omega) hb) (Ev.ite (fun e5 => ?_) (fun e5 => Ev.ret' (by rw [e1, e2, e3, e4, e5]; rfl)))
  exact Ev.bind (T.spec_validPatch h.ops) (Ev.ret' (by rw [e1, e2, e3, e4, e5]; rfl))
theorem T.impl_isRequest : Ev (fun f => G.impl_isRequest f q) (RqV q) := by
  obtain ⟨E, hb⟩ := h.body
  have hn := h.nam
  unfold lim at hB
  refine Ev.up ?_
  simp only [G.impl_isRequest]
  unfold RqV
  refine Ev.ite (fun e0 => ?_) (fun e0 => Ev.ret' (by rw [e0]; rfl))
  refine Ev.ite (fun e1 => ?_) (fun e1 => Ev.ret' (by rw [e0, e1]; rfl))
  refine Ev.bind (T.impl_isName _ (by unfold big; omega)) (Ev.ite (fun e2 => ?_) (fun e2 => Ev.ret' (by rw [e0, e1, e2]; rfl)))
  refine Ev.bind (T.impl_areTags (h.want.sm (by unfold lim; omega))) (Ev.ite (fun e3 => ?_) (fun e3 => Ev.ret' (by rw [e0, e1, e2, e3]; rfl)))
  refine Ev.bind (T.impl_areTags (h.avoid.sm (by unfold lim; omega))) (Ev.ite (fun e4 => ?_) (fun e4 => Ev.ret' (by rw [e0, e1, e2, e3, e4]; rfl)))
  refine Ev.bind (T.impl_ValidNode (by unfold lim; omega) hb) (Ev.ite (fun e5 => ?_) (fun e5 => Ev.ret' (by rw [e0, e1, e2, e3, e4, e5]; rfl)))
  exact Ev.bind (T.impl_arePatchOps h.ops) (Ev.ret' (by rw [e0, e1, e2, e3, e4, e5]; rfl))
theorem T.impl_IsSafe : Ev (fun f => G.impl_IsSafe f q) (RqV q && q.Method == 1) := by
  refine Ev.up ?_
  simp only [G.impl_IsSafe]
  exact Ev.bind (T.impl_isRequest hB h) (Ev.ite (fun e => Ev.ret' (by rw [e]; rfl)) (fun e => Ev.ret' (by rw [e]; rfl)))
end
def BatV (l : List RequestT) : Bool := l.all RqV && decide (l.length ≤ 8)
structure FineB (l : List RequestT) : Prop where
  len : l.length ≤ 1000
  req : ∀ q, q ∈ l → FineQ 60 q
theorem FineB.at_ {l : List RequestT} (h : FineB l) {i : Nat} (hi : i < l.length) : FineQ 60 (l.getD i default) := h.req _ (getD_mem default hi)
theorem T.spec_validBatch {l : List RequestT} (h : FineB l) : Ev (fun f => G.spec_validBatch f l) (BatV l) := by
  have hl := h.len
  have L : ∀ (k i : Nat), i + k = l.length → Ev (fun f => G.spec_validBatch.L1 f l i) ((l.drop i).all RqV && decide (l.length ≤ 8)) := by
    intro k
    induction k with
    | zero =>
      intro i hi
      refine Ev.up ?_
      simp only [G.spec_validBatch.L1]
      refine Ev.cf (decide_eq_false (by omega)) (Ev.ret' ?_)
      rw [List.drop_of_length_le (by omega), List.all_nil, Bool.true_and]
      apply decide_eq_decide.2; omega
    | succ k ih =>
      intro i hi
      refine Ev.up ?_
      simp only [G.spec_validBatch.L1, Int.toNat_natCast, wrap_suc (show i + 1 < 9223372036854775808 by omega)]
      rw [drop_of_lt (default : RequestT) (by omega : i < l.length), List.all_cons]
      exact Ev.ct (decide_eq_true (by omega)) (Ev.chk (by omega) (Ev.bind (T.spec_validRequest lim60 (h.at_ (by omega))) (Ev.ite (fun e => (ih (i + 1) (by omega)).eq (by rw [e]; rfl)) (fun e => Ev.ret' (by rw [e]; rfl)))))
  refine Ev.up ?_
  simp only [G.spec_validBatch]
  exact L l.length 0 (by omega)
theorem T.impl_areRequests {l : List RequestT} (h : FineB l) : Ev (fun f => G.impl_areRequests f l) (BatV l) := by
  have hl := h.len
  have L : ∀ (k i : Nat), i + k = l.length → Ev (fun f => G.impl_areRequests.L1 f l i) ((l.drop i).all RqV) := by
    intro k
    induction k with
    | zero =>
      intro i hi
      refine Ev.up ?_
      simp only [G.impl_areRequests.L1]
      refine Ev.cf (decide_eq_false (by omega)) (Ev.ret' ?_)
      rw [List.drop_of_length_le (by omega)]; rfl
    | succ k ih =>
      intro i hi
      refine Ev.up ?_
      simp only [G.impl_areRequests.L1, Int.toNat_natCast, wrap_suc (show i + 1 < 9223372036854775808 by omega)]
      rw [drop_of_lt (default : RequestT) (by omega : i < l.length), List.all_cons]
      exact Ev.ct (decide_eq_true (by omega)) (Ev.chk (by omega) (Ev.bind (T.impl_isRequest lim60 (h.at_ (by omega))) (Ev.ite (fun e => (ih (i + 1) (by omega)).eq (by rw [e]; rfl)) (fun e => Ev.ret' (by rw [e]; rfl)))))
  refine Ev.up ?_
  simp only [G.impl_areRequests]
  unfold BatV
  refine Ev.ite (fun e => Ev.ret' ?_) (fun e => (L l.length 0 (by omega)).eq ?_)
  · rw [decide_eq_false (show ¬ l.length ≤ 8 by simp only [decide_eq_true_eq] at e; omega), Bool.and_false]
  · rw [decide_eq_true (show l.length ≤ 8 by simp only [decide_eq_false_iff_not] at e; omega), Bool.and_true, List.drop_zero]
end Go.Ab
end
section
namespace Go.Ab
open Go
set_option maxRecDepth 100000
def decT (z : Int) : Txt := if z < 0 then 45 :: decN (-z).toNat else decN z.toNat
def quoB (b : UInt8) : Txt := if b = 34 ∨ b = 92 then [92, b] else [b]
def quoM (s : Txt) : Txt := 34 :: (s.flatMap quoB ++ [34])
def fmtP (F : NodeT → Txt) (n : NodeT) (i : Nat) : Txt := ((if 0 < i then [44] else []) ++ (if n.Kind = 4 then quoM (n.Names.getD i default) ++ [58] else [])) ++ F (n.Kids.getD i default)
def fmtM : Nat → NodeT → Txt
  | 0, _ => []
  | d + 1, n => if n.Kind = 1 then decT n.Num else if n.Kind = 2 then quoM n.Text else if n.Kind = 0 then [110, 117, 108, 108] else
    if n.Kind = 4 then ([123] ++ (List.range' 0 n.Kids.length).flatMap (fmtP (fmtM d) n)) ++ [125] else ([91] ++ (List.range' 0 n.Kids.length).flatMap (fmtP (fmtM d) n)) ++ [93]
theorem fmtM_succ {d : Nat} {n : NodeT} : fmtM (d + 1) n = if n.Kind = 1 then decT n.Num else if n.Kind = 2 then quoM n.Text else if n.Kind = 0 then [110, 117, 108, 108] else
    if n.Kind = 4 then ([123] ++ (List.range' 0 n.Kids.length).flatMap (fmtP (fmtM d) n)) ++ [125] else ([91] ++ (List.range' 0 n.Kids.length).flatMap (fmtP (fmtM d) n)) ++ [93] := by rw [fmtM]
theorem maxL : 4000000000 ≤ maxLen := by decide
theorem quo_len (s : Txt) : (quoM s).length ≤ 2 * s.length + 2 := by
  have : (s.flatMap quoB).length ≤ 2 * s.length := by
    induction s with
    | nil => simp
    | cons b s ih =>
      rw [List.flatMap_cons, List.length_append, List.length_cons]
      have : (quoB b).length ≤ 2 := by unfold quoB; split <;> simp
      omega
  unfold quoM
  simp only [List.length_cons, List.length_append, List.length_nil]
  omega
theorem take_drop_one {s : Txt} {i : Nat} (h : i < s.length) : (s.take (i + 1)).drop i = [s.getD i 0] := by
  rw [List.take_succ_eq_append_getElem h, List.drop_append_of_le_length (by simp; omega), List.drop_of_length_le (by rw [List.length_take]; omega), List.nil_append, getD_of_lt _ h]
theorem T.spec_quote (s : Txt) (hs : s.length ≤ 1000000) : Ev (fun f => G.spec_quote f s) (quoM s) := by
  have hM := maxL
  have L : ∀ (k i : Nat) (z : Txt), i + k = s.length → z.length ≤ 2 * i + 1 → Ev (fun f => G.spec_quote.L1 f s z i) (z ++ ((s.drop i).flatMap quoB ++ [34])) := by
    intro k
    induction k with
    | zero =>
      intro i z hi hz
      refine Ev.up ?_
      simp only [G.spec_quote.L1]
      refine Ev.cf (decide_eq_false (by omega)) (Ev.chk (by omega) (Ev.ret' ?_))
      rw [List.drop_of_length_le (by omega)]; rfl
    | succ k ih =>
      intro i z hi hz
      have hil : i < s.length := by omega
      have e1 := take_drop_one hil
      have two : s.getD i 0 = 34 ∨ s.getD i 0 = 92 → Ev (fun f => G.spec_quote.L1 f s ((z ++ [92]) ++ [s.getD i 0]) ((i + 1 : Nat) : Int)) (z ++ ((s.drop i).flatMap quoB ++ [34])) := fun hq => by
        refine (ih (i + 1) _ (by omega) (by simp; omega)).eq ?_
        rw [drop_of_lt (0 : UInt8) hil, List.flatMap_cons]
        have : quoB (s.getD i 0) = [92, s.getD i 0] := if_pos hq
        rw [this]
        simp
      have byt : ∀ c : UInt8, ((((s.getD i 0).toNat : Nat) : Int) == ((c.toNat : Nat) : Int)) = (s.getD i 0 == c) := fun c => by
        rw [Bool.eq_iff_iff, beq_iff_eq, beq_iff_eq]
        exact ⟨fun h => UInt8.toNat_inj.1 (by omega), fun h => by rw [h]⟩
      refine Ev.up ?_
      simp only [G.spec_quote.L1, Int.toNat_natCast, wrap_suc (show i + 1 < 9223372036854775808 by omega), e1]
      refine Ev.ct (decide_eq_true (by omega)) (Ev.chk (by omega) (Ev.ite (fun h => ?_) (fun h => ?_)))
      · have h : s.getD i 0 = 34 := by rw [show ((34 : Int)) = (((34 : UInt8).toNat : Nat) : Int) from rfl, byt] at h; simpa using h
        exact Ev.chk (by omega) (Ev.chk (by omega) (Ev.chk (by simp only [List.length_singleton]; omega) (two (.inl h))))
      · have h : s.getD i 0 ≠ 34 := by rw [show ((34 : Int)) = (((34 : UInt8).toNat : Nat) : Int) from rfl, byt] at h; simpa using h
        refine Ev.chk (by omega) (Ev.ite (fun h2 => ?_) (fun h2 => ?_))
        · have h2 : s.getD i 0 = 92 := by rw [show ((92 : Int)) = (((92 : UInt8).toNat : Nat) : Int) from rfl, byt] at h2; simpa using h2
          exact Ev.chk (by omega) (Ev.chk (by omega) (Ev.chk (by simp only [List.length_singleton]; omega) (two (.inr h2))))
        · have h2 : s.getD i 0 ≠ 92 := by rw [show ((92 : Int)) = (((92 : UInt8).toNat : Nat) : Int) from rfl, byt] at h2; simpa using h2
          refine Ev.chk (by omega) (Ev.chk (by simp only [List.length_singleton]; omega) ?_)
          refine (ih (i + 1) _ (by omega) (by simp; omega)).eq ?_
          rw [drop_of_lt (0 : UInt8) hil, List.flatMap_cons]
          have : quoB (s.getD i 0) = [s.getD i 0] := if_neg (fun q => q.elim h h2)
          rw [this]
          simp
  refine Ev.up ?_
  simp only [G.spec_quote]
  exact (L s.length 0 [34] (by omega) (by simp)).eq (by rw [List.drop_zero]; rfl)
theorem decN_short7 : ∀ {i : Nat}, i ≤ 999999 → (decN i).length ≤ 6 := by
  have step : ∀ {i m : Nat}, (decN (i / 10)).length ≤ m → (decN i).length ≤ m + 1 := fun {i m} h => by
    rw [decN]
    split
    · simp
    · simp; omega
  intro i h
  have h1 : (decN (i / 10 / 10 / 10 / 10 / 10)).length ≤ 1 := by rw [decN_small (by omega)]; simp
  exact step (step (step (step (step h1))))
theorem decT_len {z : Int} (h1 : -999999 ≤ z) (h2 : z ≤ 999999) : (decT z).length ≤ 7 := by
  unfold decT
  split
  · have := decN_short7 (i := (-z).toNat) (by omega)
    simp; omega
  · have := decN_short7 (i := z.toNat) (by omega)
    omega
theorem T.spec_decT {z : Int} (h1 : -999999 ≤ z) (h2 : z ≤ 999999) : Ev (fun f => G.spec_decimal f z) (decT z) := by
  have hM := maxL
  unfold decT
  by_cases h : z < 0
  · rw [if_pos h]
    have w : IntKind.wrap .i64 (0 - z) = (((-z).toNat : Nat) : Int) := wrapN (by omega) (by omega)
    have hl := decN_short7 (i := (-z).toNat) (by omega)
    refine Ev.up ?_
    simp only [G.spec_decimal, w]
    exact Ev.ct (decide_eq_true h) (Ev.cf (by simp only [beq_eq_false_iff_ne]; omega) (Ev.bind (T.decimal (by unfold lim; omega)) (Ev.chk (by omega) (Ev.ret' rfl))))
  · rw [if_neg h]
    obtain ⟨k, rfl⟩ : ∃ k : Nat, z = k := ⟨z.toNat, by omega⟩
    rw [Int.toNat_natCast]
    exact T.decimal (by unfold lim; omega)
theorem parts_num {n : NodeT} (h : Parts n = true) (hk : n.Kind = 1) : -999999 ≤ n.Num ∧ n.Num ≤ 999999 := by
  unfold Parts at h
  simp [hk] at h
  omega
theorem parts_text {n : NodeT} (h : Parts n = true) : n.Text.length ≤ 12 := by
  by_cases hk : n.Kind = 2
  · unfold Parts at h
    simp [hk] at h
    exact pt_len h.2.1
  · unfold Parts at h
    simp only [Bool.and_eq_true, Bool.or_eq_true, beq_iff_eq] at h
    have := h.1.1.2.resolve_left hk
    rw [this]; simp
theorem flat_le {α : Type} {g : Nat → List α} {m : Nat} : ∀ (k i : Nat), (∀ j, i ≤ j → j < i + k → (g j).length ≤ m) → ((List.range' i k).flatMap g).length ≤ k * m := by
  intro k
  induction k with
  | zero => intro i _; simp
  | succ k ih =>
    intro i h
    have h1 := h i (by omega) (by omega)
    have h2 := ih (i + 1) (fun j h1 h2 => h j (by omega) (by omega))
    rw [List.range'_succ, List.flatMap_cons, List.length_append, Nat.add_mul]
    omega
theorem fmt_len : ∀ (d : Nat) {n : NodeT}, Shape d n = true → (fmtM d n).length ≤ 200 * 7 ^ d
  | 0, _, h => by cases h
  | d + 1, n, h => by
    have hp := shape_parts h
    have h6 := shape_len h
    have hpow : 1 ≤ 7 ^ d := Nat.one_le_pow _ _ (by omega)
    rw [fmtM_succ, Nat.pow_succ]
    have hb : ((List.range' 0 n.Kids.length).flatMap (fmtP (fmtM d) n)).length ≤ 6 * (28 + 200 * 7 ^ d) := by
      refine Nat.le_trans (flat_le (m := 28 + 200 * 7 ^ d) _ _ (fun j _ hj => ?_)) (Nat.mul_le_mul_right _ h6)
      have hj' : j < n.Kids.length := by omega
      have hk := fmt_len d (shape_kid h hj')
      unfold fmtP
      rw [List.length_append, List.length_append]
      have a1 : (if 0 < j then ([44] : Txt) else []).length ≤ 1 := by split <;> simp
      have a2 : (if n.Kind = 4 then quoM (n.Names.getD j default) ++ [58] else []).length ≤ 27 := by
        split
        · rename_i h4
          obtain ⟨mn, _, hn⟩ := mapN_of hp h4
          have := hn _ (getD_mem default (show j < n.Names.length by rw [← mn.len]; exact hj'))
          have := quo_len (n.Names.getD j default)
          simp only [List.length_append, List.length_singleton]
          omega
        · simp
      omega
    split
    · rename_i h1
      obtain ⟨b1, b2⟩ := parts_num hp h1
      have := decT_len b1 b2
      omega
    · split
      · have := parts_text hp
        have := quo_len n.Text
        omega
      · split
        · simp only [List.length_cons, List.length_nil]; omega
        · split
          · simp only [List.length_append, List.length_singleton]; omega
          · simp only [List.length_append, List.length_singleton]; omega
theorem T.spec_format : ∀ (d : Nat) {n : NodeT}, d ≤ 5 → Shape d n = true → Ev (fun f => G.spec_format f n) (fmtM d n)
  | 0, _, _, h => by cases h
  | d + 1, n, hd, h => by
    have hM := maxL
    have hp := shape_parts h
    have h6 := shape_len h
    have hpow := pow_le hd
    rw [Nat.pow_succ] at hpow
    have L : ∀ (k i : Nat) (z : Txt), i + k = n.Kids.length → z.length ≤ i * 1000000 → Ev (fun f => G.spec_format.L5 f n z i)
        (if n.Kind = 4 then ([123] ++ (z ++ (List.range' i k).flatMap (fmtP (fmtM d) n))) ++ [125] else ([91] ++ (z ++ (List.range' i k).flatMap (fmtP (fmtM d) n))) ++ [93]) := by
      intro k
      induction k with
      | zero =>
        intro i z hi hz
        refine Ev.up ?_
        simp only [G.spec_format.L5]
        refine Ev.cf (decide_eq_false (by omega)) (Ev.ite (fun e => Ev.chk (by omega) (Ev.chk (by omega) (Ev.ret' ?_))) (fun e => Ev.chk (by omega) (Ev.chk (by omega) (Ev.ret' ?_))))
        · rw [if_pos (by simpa using e)]; simp
        · rw [if_neg (by simpa using e)]; simp
      | succ k ih =>
        intro i z hi hz
        have hil : i < n.Kids.length := by omega
        have hk := shape_kid h hil
        have hkl := fmt_len d hk
        have K7 : ∀ z' : Txt, z'.length ≤ i * 1000000 + 28 → z' ++ fmtM d (n.Kids.getD i default) = z ++ fmtP (fmtM d) n i → Ev (fun f => G.spec_format.K7 f n (i : Int) z')
            (if n.Kind = 4 then ([123] ++ (z ++ (List.range' i (k + 1)).flatMap (fmtP (fmtM d) n))) ++ [125] else ([91] ++ (z ++ (List.range' i (k + 1)).flatMap (fmtP (fmtM d) n))) ++ [93]) := fun z' hz' he => by
          refine Ev.up ?_
          simp only [G.spec_format.K7, Int.toNat_natCast, wrap_suc (show i + 1 < 9223372036854775808 by omega)]
          refine Ev.chk (by omega) (Ev.bind (T.spec_format d (by omega) hk) (Ev.chk (by omega) ?_))
          refine (ih (i + 1) _ (by omega) (by rw [List.length_append]; omega)).eq ?_
          rw [List.range'_succ, List.flatMap_cons, ← List.append_assoc z, ← he]
        have K6 : ∀ z' : Txt, z' = z ++ (if 0 < i then [44] else []) → Ev (fun f => G.spec_format.K6 f n (i : Int) z')
            (if n.Kind = 4 then ([123] ++ (z ++ (List.range' i (k + 1)).flatMap (fmtP (fmtM d) n))) ++ [125] else ([91] ++ (z ++ (List.range' i (k + 1)).flatMap (fmtP (fmtM d) n))) ++ [93]) := fun z' he => by
          have hz' : z'.length ≤ i * 1000000 + 1 := by
            rw [he, List.length_append]
            have : (if 0 < i then ([44] : Txt) else []).length ≤ 1 := by split <;> simp
            omega
          refine Ev.up ?_
          simp only [G.spec_format.K6, Int.toNat_natCast]
          by_cases h4 : n.Kind = 4
          · obtain ⟨mn, _, hn⟩ := mapN_of hp h4
            have hin : i < n.Names.length := by rw [← mn.len]; exact hil
            have h12 := hn _ (getD_mem default hin)
            have hq := quo_len (n.Names.getD i default)
            refine Ev.ct (by simpa using h4) (Ev.chk (by omega) (Ev.bind (T.spec_quote _ (by omega)) (Ev.chk (by omega) (Ev.chk (by omega) (K7 _ (by simp only [List.length_append, List.length_singleton]; omega) ?_)))))
            rw [he]
            unfold fmtP
            rw [if_pos h4]
            simp
          · refine Ev.cf (by simpa using h4) (K7 z' (Nat.le_trans hz' (Nat.add_le_add_left (by decide) _)) ?_)
            rw [he]
            unfold fmtP
            rw [if_neg h4]
            simp
        refine Ev.up ?_
        simp only [G.spec_format.L5]
        refine Ev.ct (decide_eq_true (by omega)) ?_
        by_cases h0 : 0 < i
        · exact Ev.ct (decide_eq_true (by omega)) (Ev.chk (by omega) (K6 _ (by rw [if_pos h0])))
        · exact Ev.cf (decide_eq_false (by omega)) (K6 _ (by rw [if_neg h0, List.append_nil]))
    refine Ev.up ?_
    simp only [G.spec_format]
    rw [fmtM_succ]
    refine Ev.ite (fun e => ?_) (fun e1 => ?_)
    · have e : n.Kind = 1 := by simpa using e
      rw [if_pos e]
      obtain ⟨b1, b2⟩ := parts_num hp e
      exact Ev.bind (T.spec_decT b1 b2) (Ev.ret _)
    rw [if_neg (by simpa using e1)]
    refine Ev.ite (fun e => ?_) (fun e2 => ?_)
    · rw [if_pos (by simpa using e)]
      have := parts_text hp
      exact Ev.bind (T.spec_quote _ (by omega)) (Ev.ret _)
    rw [if_neg (by simpa using e2)]
    refine Ev.ite (fun e => ?_) (fun e3 => ?_)
    · rw [if_pos (by simpa using e)]
      exact Ev.ret _
    rw [if_neg (by simpa using e3)]
    exact (L n.Kids.length 0 [] (by omega) (by simp)).eq (by simp)
def sumM (s : Txt) : Nat := s.foldl (fun n b => (131 * n + b.toNat) % 65521) 17
def hexC (k : Nat) : UInt8 := hexD.getD k 0
def hexM (n : Nat) : Txt := [hexC (n / 4096), hexC (n / 256 % 16), hexC (n / 16 % 16), hexC (n % 16)]
def TagM (n : NodeT) : Txt := if Val n then hexM (sumM (fmtM 5 n)) else []
theorem T.spec_sumOf (s : Txt) (hs : s.length < big) : Ev (fun f => G.spec_sumOf f s) ((sumM s : Nat) : Int) := by
  unfold big at hs
  have L : ∀ (k i m : Nat), i + k = s.length → m < 65521 → Ev (fun f => G.spec_sumOf.L1 f s (m : Int) i) (((s.drop i).foldl (fun n b => (131 * n + b.toNat) % 65521) m : Nat) : Int) := by
    intro k
    induction k with
    | zero =>
      intro i m hi _
      refine Ev.up ?_
      simp only [G.spec_sumOf.L1]
      refine Ev.cf (decide_eq_false (by omega)) (Ev.ret' ?_)
      rw [List.drop_of_length_le (by omega)]; rfl
    | succ k ih =>
      intro i m hi hm
      have hb := (s.getD i 0).toNat_lt
      refine Ev.up ?_
      simp only [G.spec_sumOf.L1, Int.toNat_natCast, byte_wrap, wrap_suc (show i + 1 < 9223372036854775808 by omega), wrapN (x := 131 * (m : Int)) (m := 131 * m) (by omega) (by omega)]
      rw [wrapN (x := ((131 * m : Nat) : Int) + (((s.getD i 0).toNat : Nat) : Int)) (m := 131 * m + (s.getD i 0).toNat) (by omega) (by omega), show (65521 : Int) = ((65521 : Nat) : Int) from rfl, tmod_nat]
      rw [drop_of_lt (0 : UInt8) (by omega : i < s.length), List.foldl_cons]
      exact Ev.ct (decide_eq_true (by omega)) (Ev.chk (by omega) (ih (i + 1) _ (by omega) (Nat.mod_lt _ (by omega))))
  refine Ev.up ?_
  simp only [G.spec_sumOf]
  exact L s.length 0 17 (by omega) (by omega)
theorem sum_lt (s : Txt) : sumM s < 65521 := by
  unfold sumM
  have : ∀ (s : Txt) (m : Nat), m < 65521 → s.foldl (fun n b => (131 * n + b.toNat) % 65521) m < 65521 := by
    intro s
    induction s with
    | nil => intro m hm; exact hm
    | cons b s ih => intro m hm; exact ih _ (Nat.mod_lt _ (by omega))
  exact this s 17 (by omega)
theorem T.spec_hex {n : Nat} (h : n < 65536) : Ev (fun f => G.spec_hex f (n : Int)) (hexM n) := by
  have hM := maxL
  have w1 : IntKind.wrap .i64 (Int.tdiv (n : Int) 4096) = ((n / 4096 : Nat) : Int) := by rw [show (4096 : Int) = ((4096 : Nat) : Int) from rfl, tdiv_nat]; exact wrapN rfl (by omega)
  have w2 : IntKind.wrap .i64 (Int.tdiv (n : Int) 256) = ((n / 256 : Nat) : Int) := by rw [show (256 : Int) = ((256 : Nat) : Int) from rfl, tdiv_nat]; exact wrapN rfl (by omega)
  have w3 : IntKind.wrap .i64 (Int.tdiv (n : Int) 16) = ((n / 16 : Nat) : Int) := by rw [show (16 : Int) = ((16 : Nat) : Int) from rfl, tdiv_nat]; exact wrapN rfl (by omega)
  have t2 : Int.tmod ((n / 256 : Nat) : Int) 16 = ((n / 256 % 16 : Nat) : Int) := by rw [show (16 : Int) = ((16 : Nat) : Int) from rfl, tmod_nat]
  have t3 : Int.tmod ((n / 16 : Nat) : Int) 16 = ((n / 16 % 16 : Nat) : Int) := by rw [show (16 : Int) = ((16 : Nat) : Int) from rfl, tmod_nat]
  have t4 : Int.tmod (n : Int) 16 = ((n % 16 : Nat) : Int) := by rw [show (16 : Int) = ((16 : Nat) : Int) from rfl, tmod_nat]
  refine Ev.up ?_
  simp only [G.spec_hex, w1, w2, w3, t2, t3, t4, Int.toNat_natCast, UInt8.ofNat_toNat]
  exact Ev.chk (by omega) (Ev.chk (by omega) (Ev.chk (by omega) (Ev.chk (by omega) (Ev.chk (by omega) (Ev.ret' rfl)))))
theorem T.spec_TagOf {B D : Nat} {n : NodeT} (hB : B ≤ lim) (h : Fine B D n) : Ev (fun f => G.spec_TagOf f n) (TagM n) := by
  refine Ev.up ?_
  simp only [G.spec_TagOf]
  unfold TagM
  refine Ev.bind (T.spec_validNode hB h) (Ev.ite (fun e => ?_) (fun e => Ev.ret' (by rw [e]; rfl)))
  rw [e]
  have hl := fmt_len 5 (val_shape e)
  have hp := pow_le (Nat.le_refl 5)
  have := sum_lt (fmtM 5 n)
  exact Ev.bind (T.spec_format 5 (by omega) (val_shape e)) (Ev.bind (T.spec_sumOf _ (by unfold big; omega)) (Ev.bind (T.spec_hex (by omega)) (Ev.ret _)))
theorem tag_len (n : NodeT) : (TagM n).length ≤ 4 := by
  unfold TagM
  split
  · simp [hexM]
  · simp
theorem D.nameIn {K : Nat} {r : ReaderT} {s : StoreT} (hs : FineS 60 s) (hr : RdOK K r) (hK : K ≤ 900000000) : Dr (K + 3) (fun x : Txt => x.length ≤ 60) (fun f => G.spec_nameIn f r s) := by
  have hl := hs.len
  have w : ∀ {K' : Nat} {r' : ReaderT}, RdOK K' r' → K' + 2 ≤ K + 3 → Dr (K + 3) (fun x : Txt => x.length ≤ 60) (fun f => Option.bind (G.spec_reader_pick f r' 12) fun v => cond (v.1 == 0) (Option.bind (G.spec_badName f v.2) fun v4 => some (v4.1, v4.2)) (Option.bind (G.spec_itemName f v.2) fun v5 => some (v5.1, v5.2))) := fun hr' h => by
    refine Tot.bind (D.pick (m := 12) hr' (by omega) rfl (by decide) (by decide)) ?_
    rintro ⟨x, r1⟩ ⟨_, hr1⟩
    refine Tot.ite (fun _ => ?_) (fun _ => ?_)
    · refine Tot.bind (D.badName hr1 (by omega)) ?_
      rintro ⟨b, r2⟩ ⟨hb, hr2⟩
      have hb : b.length ≤ 12 := hb
      exact Tot.ret ⟨by show b.length ≤ 60; omega, hr2.mono (by omega)⟩
    · refine Tot.bind (D.itemName hr1 (by omega)) ?_
      rintro ⟨b, r2⟩ ⟨hb, hr2⟩
      have := (nm_len hb).2
      exact Tot.ret ⟨by show b.length ≤ 60; simp only at this; omega, hr2.mono (by omega)⟩
  refine Tot.up ?_
  simp only [G.spec_nameIn]
  refine Tot.ite (fun e => ?_) (fun _ => w hr (by omega))
  have e' : 0 < s.Items.length := by simp only [decide_eq_true_eq] at e; omega
  refine Tot.bind (D.pick (m := 4) hr (by omega) rfl (by decide) (by decide)) ?_
  rintro ⟨x, r1⟩ ⟨_, hr1⟩
  refine Tot.ite (fun _ => ?_) (fun _ => w hr1 (by omega))
  refine Tot.bind (D.pick (m := s.Items.length) hr1 (by omega) rfl e' (by omega)) ?_
  rintro ⟨y, r2⟩ ⟨⟨j, rfl, hj⟩, hr2⟩
  refine Tot.chk (by omega) ?_
  simp only [Int.toNat_natCast]
  exact Tot.ret ⟨(hs.at_ hj).1, hr2.mono (by omega)⟩
def noIt : ItemT := ItemT.mk [] 0 noNode
def pairI : Option ItemT → ItemT × Bool
  | some it => (it, true)
  | none => (noIt, false)
def GetM (s : StoreT) (t : Txt) : Option ItemT := if StV s then (fnd s.Items t).map fun j => s.Items.getD j default else none
theorem T.spec_GetItem {B : Nat} {s : StoreT} (t : Txt) (hB : B ≤ lim) (h : FineS B s) : Ev (fun f => G.spec_GetItem f s t) (pairI (GetM s t)) := by
  have hl := h.len
  have hf := T.spec_find (s := s) t (Nat.le_trans hl hB)
  refine Ev.up ?_
  simp only [G.spec_GetItem]
  unfold GetM
  refine Ev.bind (T.spec_validStore hB h) (Ev.ite (fun e => ?_) (fun e => Ev.ret' (by rw [e]; rfl)))
  rw [e]
  refine Ev.bind hf ?_
  cases hj : fnd s.Items t with
  | none => exact Ev.ct (by decide) (Ev.ret' rfl)
  | some j =>
    have hjl := (fnd_some.1 hj).1
    rw [hj] at hf
    refine Ev.cf (decide_eq_false (by simp only [plcI]; omega)) (Ev.bind (T.spec_copyStore hB h) (Ev.bind hf (Ev.chk (by simp only [plcI]; omega) (Ev.ret' ?_))))
    simp only [plcI, Int.toNat_natCast]
    rfl
theorem get_cases {s : StoreT} {t : Txt} {it : ItemT} (h : GetM s t = some it) : StF s ∧ it ∈ s.Items ∧ it.Name = t ∧ Val it.Node = true := by
  unfold GetM at h
  split at h
  · rename_i hs
    obtain ⟨j, hj, rfl⟩ := Option.map_eq_some_iff.1 h
    obtain ⟨h1, h2, _⟩ := fnd_some.1 hj
    have := st_iff.1 hs
    exact ⟨this, getD_mem default h1, h2, (this.it h1).nod⟩
  · cases h
theorem get_node (s : StoreT) (t : Txt) : Val (pairI (GetM s t)).1.Node = true := by
  cases h : GetM s t with
  | none => exact val_no
  | some it => exact (get_cases h).2.2.2
theorem D.anyTags {K : Nat} {r : ReaderT} {tag : Txt} (ht : tag.length ≤ 4) (hr : RdOK K r) (hK : K ≤ 900000000) : Dr (K + 20) (FineP 60) (fun f => G.spec_anyTags f r tag) := by
  have L : ∀ (j K : Nat) (r : ReaderT) (z : List Txt), j ≤ 5 → z.length + j ≤ 5 → RdOK K r → K + j + 2 ≤ 990000000 → (∀ s, s ∈ z → s.length ≤ 60) → Dr (K + j + 2) (FineP 60) (fun f => G.spec_anyTags.L1 f tag (j : Int) r.b r.p z) := by
    intro j
    induction j with
    | zero =>
      intro K r z _ hz hr hK hs
      refine Tot.up ?_
      simp only [G.spec_anyTags.L1]
      refine Tot.ite (fun e => by simp at e) (fun _ => Tot.ite (fun e => ?_) (fun _ => Tot.ret ⟨⟨by show z.length ≤ 60; omega, hs⟩, hr.mono (by omega)⟩))
      refine Tot.bind (D.pick (m := 20) hr (by omega) rfl (by decide) (by decide)) ?_
      rintro ⟨x, r1⟩ ⟨_, hr1⟩
      refine Tot.ite (fun _ => ?_) (fun _ => Tot.ret ⟨⟨by show z.length ≤ 60; omega, hs⟩, hr1.mono (by omega)⟩)
      refine Tot.bind (D.of (m := 12) hr1 (by omega) _ (by decide) (by decide) (by decide)) ?_
      rintro ⟨y, r2⟩ ⟨hy, hr2⟩
      have hy : y.length ≤ 12 := hy
      refine Tot.chk (by simp only [decide_eq_true_eq] at e; omega) (Tot.ret ⟨⟨by show (z.set 0 y).length ≤ 60; rw [List.length_set]; omega, fun s hs' => ?_⟩, hr2.mono (by omega)⟩)
      rcases List.mem_or_eq_of_mem_set hs' with q | q
      · exact hs s q
      · rw [q]; omega
    | succ j ih =>
      intro K r z hj hz hr hK hs
      have w : IntKind.wrap .i64 (((j + 1 : Nat) : Int) - 1) = (j : Int) := wrapN (by omega) (by omega)
      refine Tot.up ?_
      simp only [G.spec_anyTags.L1, w]
      refine Tot.ite (fun _ => ?_) (fun e => absurd e (by simp))
      obtain ⟨x, r1, g, hx, hr1⟩ := T.of hr (by omega) [[42], [48, 48, 48, 48], [49, 50, 97, 98], [102, 102, 102, 102], tag, tag] (by simp) (by simp)
      refine Tot.bindE g ?_
      have hxl : x.length ≤ 60 := by
        simp only [List.mem_cons, List.not_mem_nil, or_false] at hx
        rcases hx with rfl | rfl | rfl | rfl | rfl | rfl <;> first | decide | omega
      refine Tot.chk (by omega) (Tot.mono (ih (K + 1) r1 (z ++ [x]) (by omega) (by simp; omega) hr1 (by omega) (fun s hs' => ?_)) (fun y hy => ⟨hy.1, hy.2.mono (by omega)⟩))
      rcases List.mem_append.1 hs' with q | q
      · exact hs s q
      · rw [List.mem_singleton.1 q]; exact hxl
  refine Tot.up ?_
  simp only [G.spec_anyTags]
  obtain ⟨x, r1, g, hx, hr1⟩ := T.one hr (by omega) [0, 1, 0, 2, 0, 4, 5] (by decide) (by decide)
  refine Tot.bindE g ?_
  obtain ⟨j, hj, rfl⟩ : ∃ j : Nat, j ≤ 5 ∧ x = (j : Int) := by
    simp only [List.mem_cons, List.not_mem_nil, or_false] at hx
    rcases hx with rfl | rfl | rfl | rfl | rfl | rfl | rfl
    · exact ⟨0, by omega, rfl⟩
    · exact ⟨1, by omega, rfl⟩
    · exact ⟨0, by omega, rfl⟩
    · exact ⟨2, by omega, rfl⟩
    · exact ⟨0, by omega, rfl⟩
    · exact ⟨4, by omega, rfl⟩
    · exact ⟨5, by omega, rfl⟩
  exact Tot.mono (L j (K + 1) r1 [] hj (by simp; omega) hr1 (by omega) (fun s hs => by cases hs)) (fun y hy => ⟨hy.1, hy.2.mono (by omega)⟩)
theorem fineP_no : FineP 60 [] := ⟨by simp, fun s h => by cases h⟩
abbrev Qx (x : RequestT) : Prop := FineQ 60 x
section
variable {K : Nat} {v1 : Txt × ReaderT} {v2 : ItemT × Bool} {v3 : Int × ReaderT} (h1 : v1.1.length ≤ 60) (h2 : Val v2.1.Node = true)
include h1
theorem D.someRequest.K4 {r : ReaderT} {b : NodeT} {w a : List Txt} {z : List OpT} (hw : FineP 60 w) (ha : FineP 60 a) (hb : FineE 60 b) (hz : FineL z) (hr : RdOK K r) (hK : K ≤ 900000000) :
    Dr (K + 1) Qx (fun f => G.spec_someRequest.K4 f v1 v2 v3 w a r.b r.p b.Kind b.Num b.Text b.Names b.Kids z) := by
  have hb : FineE 60 (NodeT.mk b.Kind b.Num b.Text b.Names b.Kids) := by rw [NodeT.eta]; exact hb
  refine Tot.up ?_
  simp only [G.spec_someRequest.K4]
  refine Tot.ite (fun _ => Tot.ret ⟨⟨h1, hw, ha, hb, hz⟩, hr.mono (by omega)⟩) (fun _ => ?_)
  refine Tot.bind (D.pick (m := 2) hr (by omega) rfl (by decide) (by decide)) ?_
  rintro ⟨x, r1⟩ ⟨_, hr1⟩
  exact Tot.ite (fun _ => Tot.ret ⟨⟨h1, hw, ha, hb, hz⟩, hr1.mono (by omega)⟩) (fun _ => Tot.ret ⟨⟨h1, hw, ha, hb, hz⟩, hr1.mono (by omega)⟩)
include h2
theorem D.someRequest.L5 {w a : List Txt} (hw : FineP 60 w) (ha : FineP 60 a) : ∀ (j K : Nat) (r : ReaderT) (z : List OpT), z.length + j ≤ 3 → FineL z → RdOK K r → K + 400 * j + 1 ≤ 500000000 →
    Dr (K + 400 * j + 1) Qx (fun f => G.spec_someRequest.L5 f v1 v2 v3 w a (j : Int) r.b r.p z) := by
  intro j
  induction j with
  | zero =>
    intro K r z _ hz hr hK
    refine Tot.up ?_
    simp only [G.spec_someRequest.L5]
    exact Tot.ite (fun e => by simp at e) (fun _ => Tot.mono (D.someRequest.K4 h1 (b := noNode) hw ha ⟨5, fine_val val_no⟩ hz hr (by omega)) (fun x hx => ⟨hx.1, hx.2.mono (by omega)⟩))
  | succ j ih =>
    intro K r z hl hz hr hK
    have w' : IntKind.wrap .i64 (((j + 1 : Nat) : Int) - 1) = (j : Int) := wrapN (by omega) (by omega)
    refine Tot.up ?_
    simp only [G.spec_someRequest.L5, w']
    refine Tot.ite (fun _ => ?_) (fun e => absurd e (by simp))
    refine Tot.bind (D.someOp (fine_val h2) hr (by omega)) ?_
    rintro ⟨o, r1⟩ ⟨ho, hr1⟩
    refine Tot.chk (by omega) (Tot.mono (ih (K + 400) r1 (z ++ [o]) (by simp; omega) ⟨by simp; omega, fun x hx => ?_⟩ (hr1.mono (by omega)) (by omega)) (fun x hx => ⟨hx.1, hx.2.mono (by omega)⟩))
    rcases List.mem_append.1 hx with q | q
    · exact hz.2 x q
    · rw [List.mem_singleton.1 q]; exact ho
theorem D.someRequest.K2 {r : ReaderT} {w a : List Txt} (hw : FineP 60 w) (ha : FineP 60 a) (hr : RdOK K r) (hK : K ≤ 300000000) :
    Dr (K + 3000) Qx (fun f => G.spec_someRequest.K2 f v1 v2 v3 w r.b r.p a) := by
  have fin : ∀ {K' : Nat} {r' : ReaderT} {b : NodeT}, FineE 60 b → RdOK K' r' → K' + 1 ≤ K + 3000 → Dr (K + 3000) Qx (fun f => G.spec_someRequest.K4 f v1 v2 v3 w a r'.b r'.p b.Kind b.Num b.Text b.Names b.Kids []) := fun hb hr' h => by
    exact Tot.mono (D.someRequest.K4 h1 hw ha hb (fineL_nil) hr' (by omega)) (fun x hx => ⟨hx.1, hx.2.mono (by omega)⟩)
  refine Tot.up ?_
  simp only [G.spec_someRequest.K2]
  refine Tot.ite (fun _ => ?_) (fun _ => Tot.ite (fun _ => ?_) (fun _ => Tot.ite (fun _ => ?_) (fun _ => fin (b := noNode) ⟨5, fine_val val_no⟩ hr (by omega))))
  · refine Tot.bind (D.someNode hr (by omega)) ?_
    rintro ⟨b, r1⟩ ⟨hb, hr1⟩
    exact fin ⟨5, fine_val hb⟩ hr1 (by omega)
  · refine Tot.bind (D.nearNode h2 hr (by omega)) ?_
    rintro ⟨b, r1⟩ ⟨hb, hr1⟩
    exact fin ⟨5, fine_val hb⟩ hr1 (by omega)
  · refine Tot.bind (D.pick (m := 3) hr (by omega) rfl (by decide) (by decide)) ?_
    rintro ⟨x, r1⟩ ⟨⟨j, rfl, hj⟩, hr1⟩
    exact Tot.mono (D.someRequest.L5 h1 h2 hw ha j (K + 1) r1 [] (by simp; omega) fineL_nil hr1 (by omega)) (fun x hx => ⟨hx.1, hx.2.mono (by omega)⟩)
theorem D.someRequest.K1 {r : ReaderT} {w : List Txt} (hw : FineP 60 w) (hr : RdOK K r) (hK : K ≤ 200000000) :
    Dr (K + 3100) Qx (fun f => G.spec_someRequest.K1 f v1 v2 v3 r.b r.p w) := by
  refine Tot.up ?_
  simp only [G.spec_someRequest.K1]
  refine Tot.bind (D.pick (m := 4) hr (by omega) rfl (by decide) (by decide)) ?_
  rintro ⟨x, r1⟩ ⟨_, hr1⟩
  refine Tot.ite (fun _ => ?_) (fun _ => Tot.mono (D.someRequest.K2 h1 h2 hw fineP_no hr1 (by omega)) (fun x hx => ⟨hx.1, hx.2.mono (by omega)⟩))
  refine Tot.bindE (T.spec_TagOf lim60 (fine_val h2)) (Tot.bind (D.anyTags (tag_len _) hr1 (by omega)) ?_)
  rintro ⟨t, r2⟩ ⟨ht, hr2⟩
  exact Tot.mono (D.someRequest.K2 h1 h2 hw ht hr2 (by omega)) (fun x hx => ⟨hx.1, hx.2.mono (by omega)⟩)
end
theorem D.someRequest {K : Nat} {r : ReaderT} {s : StoreT} (hs : FineS 60 s) (hr : RdOK K r) (hK : K ≤ 100000000) : Dr (K + 3200) Qx (fun f => G.spec_someRequest f r s) := by
  refine Tot.up ?_
  simp only [G.spec_someRequest]
  refine Tot.bind (D.nameIn hs hr (by omega)) ?_
  rintro ⟨nm, r1⟩ ⟨hnm, hr1⟩
  refine Tot.bindE (T.spec_GetItem nm lim60 hs) ?_
  have hv := get_node s nm
  generalize pairI (GetM s nm) = v2 at hv
  refine Tot.bind (D.pick (m := 5) hr1 (by omega) rfl (by decide) (by decide)) ?_
  rintro ⟨m, r2⟩ ⟨_, hr2⟩
  refine Tot.bind (D.pick (m := 3) hr2 (by omega) rfl (by decide) (by decide)) ?_
  rintro ⟨x, r3⟩ ⟨_, hr3⟩
  refine Tot.ite (fun _ => ?_) (fun _ => Tot.mono (D.someRequest.K1 hnm hv fineP_no hr3 (by omega)) (fun x hx => ⟨hx.1, hx.2.mono (by omega)⟩))
  refine Tot.bindE (T.spec_TagOf lim60 (fine_val hv)) (Tot.bind (D.anyTags (tag_len _) hr3 (by omega)) ?_)
  rintro ⟨t, r4⟩ ⟨ht, hr4⟩
  exact Tot.mono (D.someRequest.K1 hnm hv ht hr4 (by omega)) (fun x hx => ⟨hx.1, hx.2.mono (by omega)⟩)
theorem D.anyRequest {K : Nat} {r : ReaderT} {s : StoreT} (hs : FineS 60 s) (hr : RdOK K r) (hK : K ≤ 90000000) : Dr (K + 4000) Qx (fun f => G.spec_anyRequest f r s) := by
  refine Tot.up ?_
  simp only [G.spec_anyRequest]
  refine Tot.bind (D.someRequest hs hr (by omega)) ?_
  rintro ⟨q, r1⟩ ⟨hq, hr1⟩
  have hq : FineQ 60 q := hq
  refine Tot.bind (D.pick (m := 30) hr1 (by omega) rfl (by decide) (by decide)) ?_
  rintro ⟨x, r2⟩ ⟨_, hr2⟩
  refine Tot.ite (fun _ => ?_) (fun _ => Tot.ite (fun _ => ?_) (fun _ => Tot.ite (fun _ => ?_) (fun _ => Tot.ret ⟨hq, hr2.mono (by omega)⟩)))
  · refine Tot.bind (D.one hr2 (by omega) _ (by decide) (by decide)) ?_
    rintro ⟨c, r3⟩ ⟨_, hr3⟩
    exact Tot.ret ⟨⟨hq.nam, hq.want, hq.avoid, hq.body, hq.ops⟩, hr3.mono (by omega)⟩
  · refine Tot.bind (D.badName hr2 (by omega)) ?_
    rintro ⟨b, r3⟩ ⟨hb, hr3⟩
    have hb : b.length ≤ 12 := hb
    exact Tot.ret ⟨⟨by show b.length ≤ 60; omega, hq.want, hq.avoid, hq.body, hq.ops⟩, hr3.mono (by omega)⟩
  · refine Tot.bind (D.anyNode hr2 (by omega)) ?_
    rintro ⟨v, r3⟩ ⟨⟨E, hv⟩, hr3⟩
    exact Tot.ret ⟨⟨hq.nam, hq.want, hq.avoid, ⟨E, hv.mono (by omega) (Nat.le_refl _)⟩, hq.ops⟩, hr3.mono (by omega)⟩
theorem D.anyBatch {K : Nat} {r : ReaderT} (hr : RdOK K r) (hK : K ≤ 1000) : Tot (fun x => FineS 60 x.1 ∧ FineB x.2.1 ∧ RdOK 1000000 x.2.2) (fun f => G.spec_anyBatch f r) := by
  refine Tot.up ?_
  simp only [G.spec_anyBatch]
  refine Tot.bind (D.anyStore hr (by omega)) ?_
  rintro ⟨s, r1⟩ ⟨hs, hr1⟩
  have hs : FineS 60 s := hs
  obtain ⟨x, r2, g, hx, hr2⟩ := T.one hr1 (by omega) [2, 3, 1, 4, 0, 8] (by decide) (by decide)
  refine Tot.bindE g ?_
  obtain ⟨j, hj, rfl⟩ : ∃ j : Nat, j ≤ 8 ∧ x = (j : Int) := by
    simp only [List.mem_cons, List.not_mem_nil, or_false] at hx
    rcases hx with rfl | rfl | rfl | rfl | rfl | rfl
    · exact ⟨2, by omega, rfl⟩
    · exact ⟨3, by omega, rfl⟩
    · exact ⟨1, by omega, rfl⟩
    · exact ⟨4, by omega, rfl⟩
    · exact ⟨0, by omega, rfl⟩
    · exact ⟨8, by omega, rfl⟩
  have snoc : ∀ {z : List RequestT} {q : RequestT}, (∀ q, q ∈ z → FineQ 60 q) → FineQ 60 q → ∀ x, x ∈ z ++ [q] → FineQ 60 x := fun hz hq x hx => by
    rcases List.mem_append.1 hx with h | h
    · exact hz x h
    · rw [List.mem_singleton.1 h]; exact hq
  have L2 : ∀ (m K : Nat) (r : ReaderT) (z : List RequestT), z.length + m = 9 → RdOK K r → K + 4000 * m ≤ 1000000 → (∀ q, q ∈ z → FineQ 60 q) →
      Tot (fun x => FineS 60 x.1 ∧ FineB x.2.1 ∧ RdOK 1000000 x.2.2) (fun f => G.spec_anyBatch.L2 f (s, r1) r.b r.p z) := by
    intro m
    induction m with
    | zero =>
      intro K r z hz hr hK hq
      refine Tot.up ?_
      simp only [G.spec_anyBatch.L2]
      exact Tot.ite (fun e => by simp only [decide_eq_true_eq] at e; omega) (fun _ => Tot.ret ⟨hs, ⟨by show z.length ≤ 1000; omega, hq⟩, hr.mono (by omega)⟩)
    | succ m ih =>
      intro K r z hz hr hK hq
      refine Tot.up ?_
      simp only [G.spec_anyBatch.L2]
      refine Tot.ite (fun _ => ?_) (fun e => by simp only [decide_eq_false_iff_not] at e; omega)
      refine Tot.bind (D.someRequest hs hr (by omega)) ?_
      rintro ⟨q, r3⟩ ⟨hq', hr3⟩
      exact Tot.chk (by omega) (ih (K + 4000) r3 (z ++ [q]) (by simp; omega) (hr3.mono (by omega)) (by omega) (snoc hq hq'))
  have L1 : ∀ (j K : Nat) (r : ReaderT) (z : List RequestT), z.length + j ≤ 8 → RdOK K r → K + 4000 * j + 50000 ≤ 1000000 → (∀ q, q ∈ z → FineQ 60 q) →
      Tot (fun x => FineS 60 x.1 ∧ FineB x.2.1 ∧ RdOK 1000000 x.2.2) (fun f => G.spec_anyBatch.L1 f (s, r1) (j : Int) r.b r.p z) := by
    intro j
    induction j with
    | zero =>
      intro K r z hz hr hK hq
      refine Tot.up ?_
      simp only [G.spec_anyBatch.L1]
      refine Tot.ite (fun e => by simp at e) (fun _ => ?_)
      refine Tot.bind (D.pick (m := 30) hr (by omega) rfl (by decide) (by decide)) ?_
      rintro ⟨y, r3⟩ ⟨_, hr3⟩
      refine Tot.ite (fun _ => ?_) (fun _ => Tot.ret ⟨hs, ⟨by show z.length ≤ 1000; omega, hq⟩, hr3.mono (by omega)⟩)
      exact L2 (9 - z.length) (K + 1) r3 z (by omega) hr3 (by omega) hq
    | succ j ih =>
      intro K r z hz hr hK hq
      have w : IntKind.wrap .i64 (((j + 1 : Nat) : Int) - 1) = (j : Int) := wrapN (by omega) (by omega)
      refine Tot.up ?_
      simp only [G.spec_anyBatch.L1, w]
      refine Tot.ite (fun _ => ?_) (fun e => absurd e (by simp))
      refine Tot.bind (D.anyRequest hs hr (by omega)) ?_
      rintro ⟨q, r3⟩ ⟨hq', hr3⟩
      exact Tot.chk (by omega) (ih (K + 4000) r3 (z ++ [q]) (by simp; omega) hr3 (by omega) (snoc hq hq'))
  exact L1 j (K + 10001) r2 [] (by simp; omega) (hr2.mono (by omega)) (by omega) (fun q hq => by cases hq)
end Go.Ab
end
