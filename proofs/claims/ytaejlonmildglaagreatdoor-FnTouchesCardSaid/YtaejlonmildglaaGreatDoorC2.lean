/- The functions of the program that the laws reach: what they compute, the proofs that they do, the laws of the data (part 2). No conditions. -/
import Derived.Test.YtaejlonmildglaaGreatDoorC1
set_option linter.unusedVariables false
set_option linter.unusedSimpArgs false
section
namespace Go.Ab
open Go
set_option maxRecDepth 100000
set_option maxHeartbeats 4000000
set_option linter.unusedVariables false
set_option linter.unusedSimpArgs false
def C.je:aT:=(.seq (.reg [qX 2 10 0,qI 4 0,qB 5 false] [1,2]) (.seq (.reg [qT 8 5 2,zM 9 1,q2 10 182 8 9,zM 6 10] [1,2,6]) (.seq (.seq (.reg [zM 11 6,zA 12 (.bin .geq (.t 11) (kI 0))] [1,2,6,12]) (.cond (.t 12) (.seq (.kN [(zM 13 6,[]),(qA 14 0 2,[]),(qF 15 1 14,[1]),(zA 16 (.bin .eql (.t 15) (kI 4)),[1,2]),(zM 4 13,[0]),(zM 5 16,[0,1,2,3,4])] [4,5]) .ret) .skip)) (.seq (.seq (.reg [qA 17 0 2,qF 18 1 17,zA 19 (.bin .eql (.t 18) (kI 3)),zM 20 19,zG 20 true 21 (.mv (.t 1)),zG 20 true 22 (.bin .eql (.t 21) (.k (.c (.str [45])))),zG 20 true 23 (.mv (.t 22)),zG 23 false 24 (.mv (.t 1)),zG 23 false 25 (.eH 4 (.t 2)),zG 23 false 26 (.load false 1 (.t 25)),zG 23 false 27 (.len (.t 26)),⟨(some (23,false)),some 28,.call 179 [.t 27]⟩,zG 23 false 29 (.bin .eql (.t 24) (.t 28)),zG 20 true 30 (.pick (.t 23) (kB true) (.t 29)),qP 31 20 30] [1,2,31]) (.cond (.t 31) (.seq (.reg [qA 32 4 2,qF 33 1 32,qL 34 33,zM 4 34,qB 5 false] [4,5]) .ret) .skip)) (.seq (.seq (.reg [qI 7 0] [1,2,7]) (.block 0 (.loop (.seq (.seq (.reg [qA 35 0 2,qF 36 1 35,zA 37 (.bin .eql (.t 36) (kI 4)),zM 38 37,zG 38 true 39 (.mv (.t 7)),zG 38 true 40 (.eH 4 (.t 2)),zG 38 true 41 (.load false 1 (.t 40)),zG 38 true 42 (.len (.t 41)),zG 38 true 43 (.bin .leq (.t 39) (.t 42)),qP 44 38 43] [1,2,7,44]) (.cond (.t 44) .skip (.exit 0))) (.seq (.block 1 (.seq (.reg [zM 47 7,qA 48 4 2,qF 49 1 48,qL 50 49,zA 51 (.bin .eql (.t 47) (.t 50)),zM 52 51,zG 52 false 53 (.mv (.t 1)),zG 52 false 54 (.eH 3 (.t 2)),zG 52 false 55 (.load false 1 (.t 54)),zG 52 false 56 (.mv (.t 7)),zG 52 false 57 (.oD 1 (.t 55) (.t 56)),zG 52 false 58 (.load false 1 (.t 57)),zG 52 false 59 (.bin .lss (.t 53) (.t 58)),qQ 60 52 59] [1,2,7,60]) (.cond (.t 60) (.seq (.reg [zM 61 7,zM 4 61,qB 5 false] [4,5]) .ret) .skip))) (.reg [zM 45 7,zA 46 (.bin .add (.t 45) (kI 1)),zM 7 46] [1,2,7])))))) (.seq (.reg [qI 4 (-1),qB 5 false] [4,5]) .ret))))))
theorem K.je:dR pZ 218 2 0 C.je [.tmp 4,.tmp 5]=true:=by kernel_rfl
def C.jD:aT:=(.seq (.reg [qX 3 10 0,qX 5 11 2,qZ 6 12] [1,3,5,6]) (.seq (.reg [qT 8 5 3,q1 9 89 8,qZ 7 13,qS 5 7 9] [1,5,6,7]) (.seq (.kN [(qA 10 4 7,[]),(qF 11 1 10,[0]),(zM 12 1,[]),(qT 13 5 5,[]),(q1 14 89 13,[3]),(qD 15 5 11 12,[0,1,2,3,4]),(qS 5 15 14,[0,1,2,3,4,5])] [6,7]) (.seq (.reg [qT 16 5 7,qS 5 6 16] [6]) .ret))))
theorem K.jD:dR pZ 183 3 0 C.jD [.cell 6 true 5]=true:=by kernel_rfl
def C.jd:aT:=(.seq (.reg [qX 3 10 0,qX 5 11 2,qZ 6 12,qB 7 false] [1,3,5,6]) (.seq (.reg [qT 14 5 3,zM 15 1,q2 16 218 14 15,zM 13 16,qE 17 13 0,qE 18 13 1,zM 8 17,zM 9 18] [1,3,5,6,8,9]) (.seq (.seq (.reg [zM 19 8,zA 20 (.bin .lss (.t 19) (kI 0))] [1,3,5,6,8,9,20]) (.cond (.t 20) (.seq (.reg [zA 21 (.build zN []),qS 5 6 21,qB 7 false] [6,7]) .ret) .skip)) (.seq (.seq (.reg [zM 22 9] [1,3,5,6,8,22]) (.cond (.t 22) (.seq (.reg [qT 23 5 3,zM 24 8,qT 25 5 5,q3 26 183 23 24 25,qS 5 6 26,qB 7 true] [6,7]) .ret) .skip)) (.seq (.reg [qT 27 5 3,q1 28 89 27,qZ 10 13,qS 5 10 28] [1,3,5,6,8,10]) (.seq (.kN [(zA 29 (.dJ 14 5 0 [.lit (.int .i64 0),.lit (.int .i64 0),.str [],.sl 1 [],.sl 5 []] []),[]),(qA 30 4 10,[]),(qF 31 1 30,[1]),(zM 32 8,[]),(zA 33 (.uS 5 (.t 31) none (some (.t 32))),[1,2,3]),(zA 34 (.append 15 5 80 (.t 29) (.t 33)),[0,1,2,3,4]),(qT 35 5 5,[]),(q1 36 89 35,[0,1,2,3,4,5,6]),(zA 37 (.dJ 16 5 1 [.lit (.int .i64 0),.lit (.int .i64 0),.str [],.sl 1 [],.sl 5 []] [(0,.t 36)]),[0,1,2,3,4,5,6,7]),(zA 38 (.append 17 5 80 (.t 34) (.t 37)),[0,1,2,3,4,5,6,7,8]),(zM 11 38,[0,1,2,3,4,5,6,7,8,9])] [1,3,6,8,10,11]) (.seq (.reg [zM 39 11,qA 40 4 10,qF 41 1 40,zM 42 8,zA 43 (.uS 5 (.t 41) (some (.t 42)) none),zA 44 (.append 18 5 80 (.t 39) (.t 43)),zM 11 44] [1,3,6,8,10,11]) (.seq (.seq (.reg [qA 45 0 3,qF 46 1 45,zA 47 (.bin .eql (.t 46) (kI 3))] [1,3,6,8,10,11,47]) (.cond (.t 47) (.seq (.reg [qA 48 0 3,qF 49 1 48,zA 50 (.dJ 19 1 0 [.str []] []),zM 51 11,zA 52 (.build zN [(0,1,.t 49),(3,1,.t 50),(4,1,.t 51)]),qS 5 6 52,qB 7 true] [6,7]) .ret) .skip)) (.seq (.reg [zA 53 (.dJ 20 1 0 [.str []] []),qA 54 3 10,qF 55 1 54,zM 56 8,zA 57 (.uS 1 (.t 55) none (some (.t 56))),zA 58 (.append 21 1 16 (.t 53) (.t 57)),zM 59 1,zA 60 (.dJ 22 1 1 [.str []] [(0,.t 59)]),zA 61 (.append 23 1 16 (.t 58) (.t 60)),zM 12 61] [3,6,8,10,11,12]) (.seq (.reg [zM 62 12,qA 63 3 10,qF 64 1 63,zM 65 8,zA 66 (.uS 1 (.t 64) (some (.t 65)) none),zA 67 (.append 24 1 16 (.t 62) (.t 66)),zM 12 67] [3,6,11,12]) (.seq (.reg [qA 68 0 3,qF 69 1 68,zM 70 12,zM 71 11,zA 72 (.build zN [(0,1,.t 69),(3,1,.t 70),(4,1,.t 71)]),qS 5 6 72,qB 7 true] [6,7]) .ret)))))))))))
theorem K.jd:dR pZ 184 3 0 C.jd [.cell 6 true 5,.tmp 7]=true:=by kernel_rfl
def C.fO:aT:=(.seq (.reg [zA 4 (.mv (.k (.c (.str []))))] [0,1]) (.seq (.reg [zM 5 1,zM 6 0,zM 7 1,qL 8 7,q2 9 62 6 8,qD 10 1 5 9,qF 11 1 10,zM 4 11] [4]) .ret))
theorem K.fO:dR pZ 112 2 1 C.fO [.tmp 4]=true:=by kernel_rfl
def C.nC:aT:=(.seq (.reg [zA 2 (.mv (.k (.c (.str []))))] [0]) (.seq (.reg [zM 3 0,zA 4 (.dJ 10 1 12 [.str []] [(0,.k (.c (.str [97]))),(1,.k (.c (.str [98]))),(2,.k (.c (.str []))),(3,.k (.c (.str [97,98,99]))),(4,.k (.c (.str [97,47,98]))),(5,.k (.c (.str [126]))),(6,.k (.c (.str [120,32,121]))),(7,.k (.c (.str [34,113,34]))),(8,.k (.c (.str [98,97,99,107,92,115]))),(9,.k (.c (.str [48]))),(10,.k (.c (.str [49]))),(11,.k (.c (.str [97,98,99,100,101,102,103,104,105,106,107,108])))]),q2 5 112 3 4,zM 2 5] [2]) .ret))
theorem K.nC:dR pZ 209 1 1 C.nC [.tmp 2]=true:=by kernel_rfl
def C.ny:aT:=(.seq (.reg [zA 2 (.mv (.k (.c (.str []))))] [0]) (.seq (.reg [zM 3 0,zA 4 (.dJ 10 1 8 [.str []] [(0,.k (.c (.str [97]))),(1,.k (.c (.str [98]))),(2,.k (.c (.str [99]))),(3,.k (.c (.str [100]))),(4,.k (.c (.str [97,47,98]))),(5,.k (.c (.str [126,120]))),(6,.k (.c (.str []))),(7,.k (.c (.str [107])))]),q2 5 112 3 4,zM 2 5] [2]) .ret))
theorem K.ny:dR pZ 210 1 1 C.ny [.tmp 2]=true:=by kernel_rfl
def C.dO:aT:=(.seq (.reg [qZ 4 10] [0,1,4]) (.seq (.reg [zA 9 (.dJ 11 1 0 [.str []] []),zA 10 (.dJ 12 5 0 [.lit (.int .i64 0),.lit (.int .i64 0),.str [],.sl 1 [],.sl 5 []] []),zA 11 (.build zN [(0,1,kI 4),(3,1,.t 9),(4,1,.t 10)]),qZ 5 13,qS 5 5 11] [0,1,4,5]) (.seq (.seq (.reg [zM 12 0,zA 13 (.dJ 14 1 5 [.lit (.int .i64 0)] [(0,kI 2),(1,kI 3),(2,kI 1),(3,kI 0),(4,kI 4)]),q2 14 71 12 13,zM 6 14] [0,1,4,5,6]) (.block 0 (.loop (.seq (.seq (.reg [zM 15 6,zA 16 (.bin .gtr (.t 15) (kI 0))] [0,1,4,5,6,16]) (.cond (.t 16) .skip (.exit 0))) (.seq (.block 1 (.seq (.reg [zM 19 0,q1 20 210 19,zM 7 20] [0,1,4,5,6,7]) (.seq (.reg [zM 21 0,zM 22 1,zA 23 (.bin .sub (.t 22) (kI 1)),q2 24 164 21 23,qZ 8 15,qS 5 8 24] [0,1,4,5,6,7,8]) (.seq (.reg [qT 25 5 5,zM 26 7,q2 27 182 25 26,zA 28 (.bin .lss (.t 27) (kI 0))] [0,1,4,5,6,7,8,28]) (.cond (.t 28) (.reg [qT 30 5 5,zM 31 7,qT 32 5 8,q3 33 184 30 31 32,zM 29 33,qE 34 29 0,qE 35 29 1,qS 5 5 34] [0,1,4,5,6]) .skip))))) (.reg [zM 17 6,zA 18 (.bin .sub (.t 17) (kI 1)),zM 6 18] [0,1,4,5,6])))))) (.seq (.reg [qT 36 5 5,qS 5 4 36] [4]) .ret))))
theorem K.dO:dR pZ 165 2 1 C.dO [.cell 4 true 5]=true:=by kernel_rfl
def C.aS:aT:=(.seq (.reg [qZ 4 10] [0,1,4]) (.seq (.reg [zM 8 0,⟨none,some 9,.call 62 [.t 8,kI 5]⟩,zM 5 9] [0,1,4,5]) (.cut (.seq (.reg [zM 10 1,zA 11 (.bin .leq (.t 10) (kI 1))] [0,1,4,5,11]) (.cond (.t 11) (.reg [zM 12 0,⟨none,some 13,.call 62 [.t 12,kI 3]⟩,zM 5 13] [0,1,4,5]) .skip)) (.seq (.seq (.reg [zM 14 5] [0,1,4,5,14]) (.block 0 (.seq (.reg [zA 16 (.bin .eql (.t 14) (kI 1)),zM 15 16] [0,1,4,5,14,15]) (.cond (.t 15) (.seq (.reg [zM 17 5,zM 18 0,zM 19 0,⟨none,some 20,.call 62 [.t 19,kI 250]⟩,zA 21 (.dJ 11 1 8 [.lit (.int .i64 0)] [(0,kI 0),(1,kI 1),(2,kI 2),(3,kI 7),(4,kI (-7)),(5,kI 999999),(6,kI (-999999)),(7,.t 20)]),q2 22 71 18 21,zA 23 (.build zN [(0,1,.t 17),(1,1,.t 22)]),qS 5 4 23] [4]) .ret) (.seq (.reg [zA 25 (.bin .eql (.t 14) (kI 2)),zM 24 25] [0,1,4,5,14,24]) (.cond (.t 24) (.seq (.reg [zM 26 5,zM 27 0,q1 28 209 27,zA 29 (.build zN [(0,1,.t 26),(2,1,.t 28)]),qS 5 4 29] [4]) .ret) (.seq (.reg [zA 31 (.bin .eql (.t 14) (kI 3)),zM 30 31] [0,1,4,5,14,30]) (.cond (.t 30) (.seq (.reg [zA 32 (.dJ 12 5 0 [.lit (.int .i64 0),.lit (.int .i64 0),.str [],.sl 1 [],.sl 5 []] []),zM 6 32] [0,1,4,5,6]) (.seq (.seq (.reg [zM 33 0,⟨none,some 34,.call 62 [.t 33,kI 4]⟩,zM 7 34] [0,1,4,5,6,7]) (.block 1 (.loop (.seq (.seq (.reg [zM 35 7,zA 36 (.bin .gtr (.t 35) (kI 0))] [0,1,4,5,6,7,36]) (.cond (.t 36) .skip (.exit 1))) (.seq (.block 2 (.reg [zM 39 6,zM 40 0,zM 41 1,zA 42 (.bin .sub (.t 41) (kI 1)),q2 43 164 40 42,zA 44 (.dJ 13 5 1 [.lit (.int .i64 0),.lit (.int .i64 0),.str [],.sl 1 [],.sl 5 []] [(0,.t 43)]),zA 45 (.append 14 5 80 (.t 39) (.t 44)),zM 6 45] [0,1,4,5,6,7])) (.reg [zM 37 7,zA 38 (.bin .sub (.t 37) (kI 1)),zM 7 38] [0,1,4,5,6,7])))))) (.seq (.reg [zM 46 5,zA 47 (.dJ 15 1 0 [.str []] []),zM 48 6,zA 49 (.build zN [(0,1,.t 46),(3,1,.t 47),(4,1,.t 48)]),qS 5 4 49] [4]) .ret))) (.seq (.reg [zA 51 (.bin .eql (.t 14) (kI 4)),zM 50 51] [0,1,4,50]) (.cond (.t 50) (.seq (.reg [zM 52 0,zM 53 1,q2 54 165 52 53,qS 5 4 54] [4]) .ret) .skip)))))))))) (.seq (.reg [zA 55 (.build zN []),qS 5 4 55] [4]) .ret)))))
theorem K.aS:dR pZ 164 2 1 C.aS [.cell 4 true 5]=true:=by kernel_rfl
def C.jO:aT:=(.seq (.reg [qX 1 10 0,qI 2 0] [1]) (.seq (.reg [qI 3 1] [1,3]) (.seq (.seq (.reg [qI 4 0] [1,3,4]) (.block 0 (.loop (.seq (.seq (.reg [zM 5 4,qA 6 4 1,qF 7 1 6,qL 8 7,zA 9 (.bin .lss (.t 5) (.t 8))] [1,3,4,9]) (.cond (.t 9) .skip (.exit 0))) (.seq (.block 1 (.reg [zM 12 3,qA 13 4 1,qF 14 1 13,zM 15 4,qD 16 5 14 15,qT 17 5 16,q1 18 124 17,zA 19 (.bin .add (.t 12) (.t 18)),zM 3 19] [1,3,4])) (.reg [zM 10 4,zA 11 (.bin .add (.t 10) (kI 1)),zM 4 11] [1,3,4])))))) (.seq (.reg [zM 20 3,zM 2 20] [2]) .ret))))
theorem K.jO:dR pZ 124 1 0 C.jO [.tmp 2]=true:=by kernel_rfl
def C.dW:aT:=(.seq (.reg [qB 6 false] [0,1,2]) (.seq (.reg [zM 7 1,zM 8 0,zA 9 (.bin .leq (.t 7) (.t 8)),zM 10 9,zG 10 true 11 (.mv (.t 0)),zG 10 true 12 (.mv (.t 2)),zG 10 true 13 (.bin .leq (.t 11) (.t 12)),qP 14 10 13,zM 6 14] [6]) .ret))
theorem K.dW:dR pZ 83 3 0 C.dW [.tmp 6]=true:=by kernel_rfl
def C.eU:aT:=(.seq (.reg [qB 2 false] [0]) (.seq (.seq (.reg [qI 3 0] [0,3]) (.block 0 (.loop (.seq (.seq (.reg [zM 4 3,zM 5 0,zA 6 (.lens (.t 5)),zA 7 (.bin .lss (.t 4) (.t 6))] [0,3,7]) (.cond (.t 7) .skip (.exit 0))) (.seq (.block 1 (.seq (.reg [zM 10 0,zM 11 3,zA 12 (.idxs (.t 10) (.t 11)),zA 13 (.wB .i64 (.t 12)),⟨none,some 14,.call 83 [.t 13,kI 32,kI 126]⟩,qO 15 14] [0,3,15]) (.cond (.t 15) (.seq (.reg [qB 2 false] [2]) .ret) .skip))) (.reg [zM 8 3,zA 9 (.bin .add (.t 8) (kI 1)),zM 3 9] [0,3])))))) (.seq (.reg [zM 16 0,zA 17 (.lens (.t 16)),zA 18 (.bin .leq (.t 17) (kI 12)),zM 2 18] [2]) .ret)))
theorem K.eU:dR pZ 175 1 0 C.eU [.tmp 2]=true:=by kernel_rfl
def C.kF:aT:=(.seq (.reg [qB 2 false] [0]) (.seq (.seq (.reg [qI 3 0] [0,3]) (.block 0 (.loop (.seq (.seq (.reg [zM 4 3,zM 5 0,qL 6 5,zA 7 (.bin .lss (.t 4) (.t 6))] [0,3,7]) (.cond (.t 7) .skip (.exit 0))) (.seq (.block 1 (.seq (.kN [(zM 10 0,[]),(zM 11 3,[]),(qD 12 1 10 11,[0,1]),(qF 13 1 12,[0,1,2]),(q1 14 175 13,[0,1,2,3]),(qO 15 14,[0,1,2,3,4]),(zM 16 15,[0,1,2,3,4,5]),(zG 16 false 17 (.mv (.t 3)),[0,1,2,3,4,5,6]),(zG 16 false 18 (.bin .gtr (.t 17) (kI 0)),[0,1,2,3,4,5,6,7]),(zG 16 false 19 (.mv (.t 18)),[0,1,2,3,4,5,6,7,8]),(zG 19 true 20 (.mv (.t 0)),[0,1,2,3,4,5,6,7,8,9]),(zG 19 true 21 (.mv (.t 3)),[0,1,2,3,4,5,6,7,8,9]),(zG 19 true 22 (.oD 1 (.t 20) (.t 21)),[0,1,2,3,4,5,6,7,8,9,10,11]),(zG 19 true 23 (.load false 1 (.t 22)),[0,1,2,3,4,5,6,7,8,9,10,11,12]),(zG 19 true 24 (.mv (.t 0)),[0,1,2,3,4,5,6,7,8,9]),(zG 19 true 25 (.mv (.t 3)),[0,1,2,3,4,5,6,7,8,9]),(zG 19 true 26 (.bin .sub (.t 25) (kI 1)),[0,1,2,3,4,5,6,7,8,9,15]),(zG 19 true 27 (.oD 1 (.t 24) (.t 26)),[0,1,2,3,4,5,6,7,8,9,14,15,16]),(zG 19 true 28 (.load false 1 (.t 27)),[0,1,2,3,4,5,6,7,8,9,14,15,16,17]),(zG 19 true 29 (.bin .leq (.t 23) (.t 28)),[0,1,2,3,4,5,6,7,8,9,10,11,12,13,14,15,16,17,18]),(zG 16 false 30 (.pick (.t 19) (.t 29) (kB false)),[0,1,2,3,4,5,6,7,8,9,10,11,12,13,14,15,16,17,18,19]),(qQ 31 16 30,[0,1,2,3,4,5,6,7,8,9,10,11,12,13,14,15,16,17,18,19,20])] [0,3,31]) (.cond (.t 31) (.seq (.reg [qB 2 false] [2]) .ret) .skip))) (.reg [zM 8 3,zA 9 (.bin .add (.t 8) (kI 1)),zM 3 9] [0,3])))))) (.seq (.reg [qB 2 true] [2]) .ret)))
theorem K.kF:dR pZ 177 1 0 C.kF [.tmp 2]=true:=by kernel_rfl
def C.lZ:aT:=(.seq (.reg [qX 2 10 0,qB 4 false] [1,2]) (.seq (.seq (.reg [qI 5 0] [1,2,5]) (.block 0 (.loop (.seq (.seq (.reg [zM 6 5,qA 7 4 2,qF 8 1 7,qL 9 8,zA 10 (.bin .lss (.t 6) (.t 9))] [1,2,5,10]) (.cond (.t 10) .skip (.exit 0))) (.seq (.block 1 (.seq (.reg [qA 13 4 2,qF 14 1 13,zM 15 5,qD 16 5 14 15,qT 17 5 16,zM 18 1,zA 19 (.bin .sub (.t 18) (kI 1)),q2 20 123 17 19,qO 21 20] [1,2,5,21]) (.cond (.t 21) (.seq (.reg [qB 4 false] [4]) .ret) .skip))) (.reg [zM 11 5,zA 12 (.bin .add (.t 11) (kI 1)),zM 5 12] [1,2,5])))))) (.seq (.reg [qB 4 true] [4]) .ret)))
theorem K.lZ:dR pZ 176 2 0 C.lZ [.tmp 4]=true:=by kernel_rfl
def C.fP:aT:=(.seq (.reg [qX 2 10 0,qB 4 false] [1,2]) (.cut (.seq (.reg [zM 5 1,zA 6 (.bin .eql (.t 5) (kI 0)),zM 7 6,zG 7 false 8 (.eH 4 (.t 2)),zG 7 false 9 (.load false 1 (.t 8)),zG 7 false 10 (.len (.t 9)),zG 7 false 11 (.bin .gtr (.t 10) (kI 6)),qQ 12 7 11,zM 13 12,zG 13 false 14 (.eH 0 (.t 2)),zG 13 false 15 (.load false 1 (.t 14)),zG 13 false 16 (.bin .neq (.t 15) (kI 1)),zG 13 false 17 (.mv (.t 16)),zG 17 true 18 (.eH 1 (.t 2)),zG 17 true 19 (.load false 1 (.t 18)),zG 17 true 20 (.bin .neq (.t 19) (kI 0)),zG 13 false 21 (.pick (.t 17) (.t 20) (kB false)),qQ 22 13 21,zM 23 22,zG 23 false 24 (.eH 0 (.t 2)),zG 23 false 25 (.load false 1 (.t 24)),zG 23 false 26 (.bin .neq (.t 25) (kI 2)),zG 23 false 27 (.mv (.t 26)),zG 27 true 28 (.eH 2 (.t 2)),zG 27 true 29 (.load false 1 (.t 28)),zG 27 true 30 (.bin .neq (.t 29) (.k (.c (.str [])))),zG 23 false 31 (.pick (.t 27) (.t 30) (kB false)),qQ 32 23 31,zM 33 32,zG 33 false 34 (.eH 0 (.t 2)),zG 33 false 35 (.load false 1 (.t 34)),zG 33 false 36 (.bin .neq (.t 35) (kI 4)),zG 33 false 37 (.mv (.t 36)),zG 37 true 38 (.eH 3 (.t 2)),zG 37 true 39 (.load false 1 (.t 38)),zG 37 true 40 (.len (.t 39)),zG 37 true 41 (.bin .gtr (.t 40) (kI 0)),zG 33 false 42 (.pick (.t 37) (.t 41) (kB false)),qQ 43 33 42,zM 44 43,zG 44 false 45 (.eH 0 (.t 2)),zG 44 false 46 (.load false 1 (.t 45)),zG 44 false 47 (.bin .lss (.t 46) (kI 3)),zG 44 false 48 (.mv (.t 47)),zG 48 true 49 (.eH 4 (.t 2)),zG 48 true 50 (.load false 1 (.t 49)),zG 48 true 51 (.len (.t 50)),zG 48 true 52 (.bin .gtr (.t 51) (kI 0)),zG 44 false 53 (.pick (.t 48) (.t 52) (kB false)),qQ 54 44 53] [1,2,54]) (.cond (.t 54) (.seq (.reg [qB 4 false] [4]) .ret) .skip)) (.seq (.seq (.reg [qA 55 0 2,qF 56 1 55] [1,2,56]) (.block 0 (.seq (.reg [zA 58 (.bin .eql (.t 56) (kI 1)),zM 57 58] [1,2,56,57]) (.cond (.t 57) (.seq (.reg [qA 59 1 2,qF 60 1 59,⟨none,some 61,.call 83 [.t 60,kI (-999999),kI 999999]⟩,zM 4 61] [4]) .ret) (.seq (.reg [zA 63 (.bin .eql (.t 56) (kI 2)),zM 62 63] [1,2,56,62]) (.cond (.t 62) (.seq (.reg [qA 64 2 2,qF 65 1 64,q1 66 175 65,zM 4 66] [4]) .ret) (.seq (.reg [zA 68 (.bin .eql (.t 56) (kI 3)),zM 67 68] [1,2,56,67]) (.cond (.t 67) (.seq (.reg [qT 69 5 2,zM 70 1,q2 71 176 69 70,zM 4 71] [4]) .ret) (.seq (.reg [zA 73 (.bin .eql (.t 56) (kI 4)),zM 72 73] [1,2,72]) (.cond (.t 72) (.seq (.reg [qA 74 3 2,qF 75 1 74,qL 76 75,qA 77 4 2,qF 78 1 77,qL 79 78,zA 80 (.bin .eql (.t 76) (.t 79)),zM 81 80,zG 81 true 82 (.eH 3 (.t 2)),zG 81 true 83 (.load false 1 (.t 82)),⟨(some (81,true)),some 84,.call 177 [.t 83]⟩,qP 85 81 84,zM 86 85,zG 86 true 87 (.load true 5 (.t 2)),zG 86 true 88 (.mv (.t 1)),⟨(some (86,true)),some 89,.call 176 [.t 87,.t 88]⟩,qP 90 86 89,zM 4 90] [4]) .ret) .skip)))))))))) (.seq (.reg [qA 91 0 2,qF 92 1 91,zA 93 (.bin .eql (.t 92) (kI 0)),zM 4 93] [4]) .ret))))
theorem K.fP:dR pZ 123 2 0 C.fP [.tmp 4]=true:=by kernel_rfl
def C.bH:aT:=(.seq (.reg [qX 1 10 0,qB 2 false] [1]) (.seq (.reg [qT 3 5 1,⟨none,some 4,.call 123 [.t 3,kI 5]⟩,zM 5 4,zG 5 true 6 (.load true 5 (.t 1)),⟨(some (5,true)),some 7,.call 124 [.t 6]⟩,zG 5 true 8 (.bin .leq (.t 7) (kI 40)),qP 9 5 8,zM 2 9] [2]) .ret))
theorem K.bH:dR pZ 82 1 0 C.bH [.tmp 2]=true:=by kernel_rfl
def C.fH:aT:=(.seq (.reg [qZ 2 10] [0,2]) (.seq (.reg [zM 4 0,⟨none,some 5,.call 164 [.t 4,kI 3]⟩,qZ 3 11,qS 5 3 5] [0,2,3]) (.cut (.seq (.reg [zM 6 0,⟨none,some 7,.call 62 [.t 6,kI 3]⟩,zA 8 (.bin .gtr (.t 7) (kI 0))] [0,2,3,8]) (.cond (.t 8) (.reg [zM 9 0,⟨none,some 10,.call 165 [.t 9,kI 3]⟩,qS 5 3 10] [2,3]) .skip)) (.seq (.seq (.reg [qT 11 5 3,q1 12 82 11,qO 13 12] [2,3,13]) (.cond (.t 13) (.seq (.reg [zA 14 (.build zN []),qS 5 2 14] [2]) .ret) .skip)) (.seq (.reg [qT 15 5 3,qS 5 2 15] [2]) .ret)))))
theorem K.fH:dR pZ 110 1 1 C.fH [.cell 2 true 5]=true:=by kernel_rfl
def C.jI:aT:=(.seq (.reg [qZ 2 10] [0,2]) (.seq (.reg [zM 6 0,q1 7 110 6,qZ 3 11,qS 5 3 7] [0,2,3]) (.seq (.seq (.reg [zM 8 0,⟨none,some 9,.call 62 [.t 8,kI 40]⟩] [0,2,3,9]) (.block 0 (.seq (.reg [zA 11 (.bin .eql (.t 9) (kI 0)),zM 10 11] [0,2,3,9,10]) (.cond (.t 10) (.reg [zM 12 0,zA 13 (.dJ 12 1 4 [.lit (.int .i64 0)] [(0,kI (-1)),(1,kI 5),(2,kI 0),(3,kI 3)]),q2 14 71 12 13,qA 15 0 3,qU 1 15 14] [2,3]) (.seq (.reg [zA 17 (.bin .eql (.t 9) (kI 1)),zM 16 17] [0,2,3,9,16]) (.cond (.t 16) (.reg [zM 18 0,zA 19 (.dJ 13 1 2 [.lit (.int .i64 0)] [(0,kI 1),(1,kI 1000000)]),q2 20 71 18 19,qA 21 1 3,qU 1 21 20] [2,3]) (.seq (.reg [zA 23 (.bin .eql (.t 9) (kI 2)),zM 22 23] [0,2,3,9,22]) (.cond (.t 22) (.reg [qA 24 2 3,zS (.store false 1 (.t 24) (.k (.c (.str [97,98,99,100,101,102,103,104,105,106,107,108,109]))))] [2,3]) (.seq (.reg [zA 26 (.bin .eql (.t 9) (kI 3)),zM 25 26] [0,2,3,9,25]) (.cond (.t 25) (.reg [qA 27 3 3,qF 28 1 27,zA 29 (.dJ 14 1 1 [.str []] [(0,.k (.c (.str [])))]),zA 30 (.append 15 1 16 (.t 28) (.t 29)),qA 31 3 3,qU 1 31 30] [2,3]) (.seq (.reg [zA 33 (.bin .eql (.t 9) (kI 4)),zM 32 33] [0,2,3,9,32]) (.cond (.t 32) (.reg [qT 34 5 3,zA 35 (.dJ 16 5 1 [.lit (.int .i64 0),.lit (.int .i64 0),.str [],.sl 1 [],.sl 5 []] [(0,.t 34)]),zA 36 (.build zN [(0,1,kI 3),(4,1,.t 35)]),zA 37 (.dJ 17 5 1 [.lit (.int .i64 0),.lit (.int .i64 0),.str [],.sl 1 [],.sl 5 []] [(0,.t 36)]),zA 38 (.build zN [(0,1,kI 3),(4,1,.t 37)]),zA 39 (.dJ 18 5 1 [.lit (.int .i64 0),.lit (.int .i64 0),.str [],.sl 1 [],.sl 5 []] [(0,.t 38)]),zA 40 (.build zN [(0,1,kI 3),(4,1,.t 39)]),zA 41 (.dJ 19 5 1 [.lit (.int .i64 0),.lit (.int .i64 0),.str [],.sl 1 [],.sl 5 []] [(0,.t 40)]),zA 42 (.build zN [(0,1,kI 3),(4,1,.t 41)]),qS 5 3 42] [2,3]) (.seq (.reg [zA 44 (.bin .eql (.t 9) (kI 5)),zM 43 44] [0,2,3,43]) (.cond (.t 43) (.seq (.reg [zA 45 (.dJ 20 5 0 [.lit (.int .i64 0),.lit (.int .i64 0),.str [],.sl 1 [],.sl 5 []] []),zM 4 45] [0,2,3,4]) (.seq (.seq (.reg [qI 5 0] [0,2,3,4,5]) (.block 1 (.loop (.seq (.seq (.reg [zM 46 5,zM 47 0,⟨none,some 48,.call 62 [.t 47,kI 2]⟩,zA 49 (.bin .add (kI 6) (.t 48)),zA 50 (.bin .lss (.t 46) (.t 49))] [0,2,3,4,5,50]) (.cond (.t 50) .skip (.exit 1))) (.seq (.block 2 (.reg [zM 53 4,qT 54 5 3,q1 55 89 54,zA 56 (.dJ 21 5 1 [.lit (.int .i64 0),.lit (.int .i64 0),.str [],.sl 1 [],.sl 5 []] [(0,.t 55)]),zA 57 (.append 22 5 80 (.t 53) (.t 56)),zM 4 57] [0,2,3,4,5])) (.reg [zM 51 5,zA 52 (.bin .add (.t 51) (kI 1)),zM 5 52] [0,2,3,4,5])))))) (.reg [zM 58 4,zA 59 (.build zN [(0,1,kI 3),(4,1,.t 58)]),qS 5 3 59] [2,3]))) .skip)))))))))))))) (.seq (.reg [qT 60 5 3,qS 5 2 60] [2]) .ret))))
theorem K.jI:dR pZ 73 1 1 C.jI [.cell 2 true 5]=true:=by kernel_rfl
def C.lI:aT:=(.seq (.reg [zA 2 (.mv (.k (.c (.str []))))] [0]) (.seq (.reg [zM 3 0,zA 4 (.dJ 10 1 5 [.str []] [(0,.k (.c (.str []))),(1,.k (.c (.str [65]))),(2,.k (.c (.str [97,98,99,100,101,102,103,104,105]))),(3,.k (.c (.str [97,32,98]))),(4,.k (.c (.str [97])))]),q2 5 112 3 4,zM 2 5] [2]) .ret))
theorem K.lI:dR pZ 72 1 1 C.lI [.tmp 2]=true:=by kernel_rfl
def C.aU:aT:=(.seq (.reg [qX 1 10 0,zA 2 (.alloc 11 [.cO 7,fD 0])] [1,2]) (.seq (.reg [zA 5 (.dJ 12 7 0 [.str [],.lit (.int .i64 0),.lit (.int .i64 0),.lit (.int .i64 0),.str [],.sl 1 [],.sl 5 []] []),zM 3 5] [1,2,3]) (.seq (.seq (.reg [qI 4 0] [1,2,3,4]) (.block 0 (.loop (.seq (.seq (.reg [zM 6 4,qA 7 0 1,qF 8 1 7,qL 9 8,zA 10 (.bin .lss (.t 6) (.t 9))] [1,2,3,4,10]) (.cond (.t 10) .skip (.exit 0))) (.seq (.block 1 (.kN [(zM 13 3,[]),(qA 14 0 1,[]),(qF 15 1 14,[1]),(zM 16 4,[]),(qD 17 7 15 16,[1,2,3]),(qA 18 0 17,[1,2,3,4]),(qF 19 1 18,[1,2,3,4,5]),(qA 20 0 1,[]),(qF 21 1 20,[7]),(zM 22 4,[]),(qD 23 7 21 22,[7,8,9]),(qA 24 1 23,[7,8,9,10]),(qF 25 1 24,[7,8,9,10,11]),(qA 26 0 1,[]),(qF 27 1 26,[13]),(zM 28 4,[]),(qD 29 7 27 28,[13,14,15]),(qA 30 2 29,[13,14,15,16]),(qT 31 5 30,[13,14,15,16,17]),(q1 32 89 31,[13,14,15,16,17,18]),(zA 33 (.build [.c (.str []),fD 0,fD 0,fD 0,.c (.str []),.cO 1,.cO 5] [(0,1,.t 19),(1,1,.t 25),(2,5,.t 32)]),[1,2,3,4,5,6,7,8,9,10,11,12,13,14,15,16,17,18,19]),(zA 34 (.dJ 13 7 1 [.str [],.lit (.int .i64 0),.lit (.int .i64 0),.lit (.int .i64 0),.str [],.sl 1 [],.sl 5 []] [(0,.t 33)]),[1,2,3,4,5,6,7,8,9,10,11,12,13,14,15,16,17,18,19,20]),(zA 35 (.append 14 7 104 (.t 13) (.t 34)),[0,1,2,3,4,5,6,7,8,9,10,11,12,13,14,15,16,17,18,19,20,21]),(zM 3 35,[0,1,2,3,4,5,6,7,8,9,10,11,12,13,14,15,16,17,18,19,20,21,22])] [1,2,3,4])) (.reg [zM 11 4,zA 12 (.bin .add (.t 11) (kI 1)),zM 4 12] [1,2,3,4])))))) (.seq (.reg [zM 36 3,qA 37 1 1,qF 38 1 37,zA 39 (.build [.cO 7,fD 0] [(0,1,.t 36),(1,1,.t 38)]),qS 2 2 39] [2]) .ret))))
theorem K.aU:dR pZ 61 1 0 C.aU [.cell 2 true 2]=true:=by kernel_rfl
theorem K.tu:dR pZ 61 1 1 C.aU [.cell 2 true 2]=true:=by kernel_rfl
def C.jq:aT:=(.seq (.reg [qX 2 10 0,qI 4 0] [1,2]) (.seq (.seq (.reg [qI 5 0] [1,2,5]) (.block 0 (.loop (.seq (.seq (.reg [zM 6 5,qA 7 0 2,qF 8 1 7,qL 9 8,zA 10 (.bin .lss (.t 6) (.t 9))] [1,2,5,10]) (.cond (.t 10) .skip (.exit 0))) (.seq (.block 1 (.seq (.reg [qA 13 0 2,qF 14 1 13,zM 15 5,qD 16 7 14 15,qA 17 0 16,qF 18 1 17,zM 19 1,zA 20 (.bin .eql (.t 18) (.t 19))] [1,2,5,20]) (.cond (.t 20) (.seq (.reg [zM 21 5,zM 4 21] [4]) .ret) .skip))) (.reg [zM 11 5,zA 12 (.bin .add (.t 11) (kI 1)),zM 5 12] [1,2,5])))))) (.seq (.reg [qI 4 (-1)] [4]) .ret)))
theorem K.jq:dR pZ 86 2 0 C.jq [.tmp 4]=true:=by kernel_rfl
def C.eF:aT:=(.seq (.reg [qB 2 false] [0]) (.seq (.seq (.reg [qI 3 0] [0,3]) (.block 0 (.loop (.seq (.seq (.reg [zM 4 3,zM 5 0,zA 6 (.lens (.t 5)),zA 7 (.bin .lss (.t 4) (.t 6))] [0,3,7]) (.cond (.t 7) .skip (.exit 0))) (.seq (.block 1 (.seq (.reg [zM 10 0,zM 11 3,zA 12 (.idxs (.t 10) (.t 11)),zA 13 (.wB .i64 (.t 12)),⟨none,some 14,.call 83 [.t 13,kI 97,kI 122]⟩,qO 15 14,zM 16 15,zG 16 true 17 (.mv (.t 0)),zG 16 true 18 (.mv (.t 3)),zG 16 true 19 (.idxs (.t 17) (.t 18)),zG 16 true 20 (.wB .i64 (.t 19)),⟨(some (16,true)),some 21,.call 83 [.t 20,kI 48,kI 57]⟩,zG 16 true 22 (.not (.t 21)),qP 23 16 22] [0,3,23]) (.cond (.t 23) (.seq (.reg [qB 2 false] [2]) .ret) .skip))) (.reg [zM 8 3,zA 9 (.bin .add (.t 8) (kI 1)),zM 3 9] [0,3])))))) (.seq (.reg [zM 24 0,zA 25 (.lens (.t 24)),⟨none,some 26,.call 83 [.t 25,kI 1,kI 8]⟩,zM 2 26] [2]) .ret)))
theorem K.eF:dR pZ 81 1 0 C.eF [.tmp 2]=true:=by kernel_rfl
def C.aY:aT:=(.seq (.reg [qX 1 10 0,qB 2 false] [1]) (.seq (.seq (.reg [qI 3 0] [1,3]) (.block 0 (.loop (.seq (.seq (.reg [zM 5 3,qA 6 0 1,qF 7 1 6,qL 8 7,zA 9 (.bin .lss (.t 5) (.t 8))] [1,3,9]) (.cond (.t 9) .skip (.exit 0))) (.seq (.block 1 (.seq (.reg [qA 12 0 1,qF 13 1 12,zM 14 3,qD 15 7 13 14,qT 16 7 15,zA 4 (.alloc 11 [.c (.str []),fD 0,fD 0,fD 0,.c (.str []),.cO 1,.cO 5]),qS 7 4 16] [1,3,4]) (.seq (.kN [(qA 17 0 4,[]),(qF 18 1 17,[0]),(q1 19 81 18,[0,1]),(qO 20 19,[0,1,2]),(zM 21 20,[0,1,2,3]),(zG 21 false 22 (.eH 2 (.t 4)),[0,1,2,3,4]),(zG 21 false 23 (.load true 5 (.t 22)),[0,1,2,3,4,5]),(⟨(some (21,false)),some 24,.call 82 [.t 23]⟩,[0,1,2,3,4,5,6]),(zG 21 false 25 (.not (.t 24)),[0,1,2,3,4,5,6,7]),(qQ 26 21 25,[0,1,2,3,4,5,6,7,8]),(zM 27 26,[0,1,2,3,4,5,6,7,8,9]),(zG 27 false 28 (.eH 1 (.t 4)),[0,1,2,3,4,5,6,7,8,9,10]),(zG 27 false 29 (.load false 1 (.t 28)),[0,1,2,3,4,5,6,7,8,9,10,11]),(zG 27 false 30 (.eH 1 (.t 1)),[0,1,2,3,4,5,6,7,8,9,10]),(zG 27 false 31 (.load false 1 (.t 30)),[0,1,2,3,4,5,6,7,8,9,10,13]),(⟨(some (27,false)),some 32,.call 83 [.t 29,kI 1,.t 31]⟩,[0,1,2,3,4,5,6,7,8,9,10,11,12,13,14]),(zG 27 false 33 (.not (.t 32)),[0,1,2,3,4,5,6,7,8,9,10,11,12,13,14,15]),(qQ 34 27 33,[0,1,2,3,4,5,6,7,8,9,10,11,12,13,14,15,16]),(zM 35 34,[0,1,2,3,4,5,6,7,8,9,10,11,12,13,14,15,16,17]),(zG 35 false 36 (.mv (.t 3)),[0,1,2,3,4,5,6,7,8,9,10,11,12,13,14,15,16,17,18]),(zG 35 false 37 (.bin .gtr (.t 36) (kI 0)),[0,1,2,3,4,5,6,7,8,9,10,11,12,13,14,15,16,17,18,19]),(zG 35 false 38 (.mv (.t 37)),[0,1,2,3,4,5,6,7,8,9,10,11,12,13,14,15,16,17,18,19,20]),(zG 38 true 39 (.eH 0 (.t 4)),[0,1,2,3,4,5,6,7,8,9,10,11,12,13,14,15,16,17,18,19,20,21]),(zG 38 true 40 (.load false 1 (.t 39)),[0,1,2,3,4,5,6,7,8,9,10,11,12,13,14,15,16,17,18,19,20,21,22]),(zG 38 true 41 (.eH 0 (.t 1)),[0,1,2,3,4,5,6,7,8,9,10,11,12,13,14,15,16,17,18,19,20,21]),(zG 38 true 42 (.load false 1 (.t 41)),[0,1,2,3,4,5,6,7,8,9,10,11,12,13,14,15,16,17,18,19,20,21,24]),(zG 38 true 43 (.mv (.t 3)),[0,1,2,3,4,5,6,7,8,9,10,11,12,13,14,15,16,17,18,19,20,21]),(zG 38 true 44 (.bin .sub (.t 43) (kI 1)),[0,1,2,3,4,5,6,7,8,9,10,11,12,13,14,15,16,17,18,19,20,21,26]),(zG 38 true 45 (.oD 7 (.t 42) (.t 44)),[0,1,2,3,4,5,6,7,8,9,10,11,12,13,14,15,16,17,18,19,20,21,24,25,26,27]),(zG 38 true 46 (.eH 0 (.t 45)),[0,1,2,3,4,5,6,7,8,9,10,11,12,13,14,15,16,17,18,19,20,21,24,25,26,27,28]),(zG 38 true 47 (.load false 1 (.t 46)),[0,1,2,3,4,5,6,7,8,9,10,11,12,13,14,15,16,17,18,19,20,21,24,25,26,27,28,29]),(zG 38 true 48 (.bin .leq (.t 40) (.t 47)),[0,1,2,3,4,5,6,7,8,9,10,11,12,13,14,15,16,17,18,19,20,21,22,23,24,25,26,27,28,29,30]),(zG 35 false 49 (.pick (.t 38) (.t 48) (kB false)),[0,1,2,3,4,5,6,7,8,9,10,11,12,13,14,15,16,17,18,19,20,21,22,23,24,25,26,27,28,29,30,31]),(qQ 50 35 49,[0,1,2,3,4,5,6,7,8,9,10,11,12,13,14,15,16,17,18,19,20,21,22,23,24,25,26,27,28,29,30,31,32])] [1,3,50]) (.cond (.t 50) (.seq (.reg [qB 2 false] [2]) .ret) .skip)))) (.reg [zM 10 3,zA 11 (.bin .add (.t 10) (kI 1)),zM 3 11] [1,3])))))) (.seq (.reg [qA 51 0 1,qF 52 1 51,qL 53 52,zA 54 (.bin .leq (.t 53) (kI 10)),zM 55 54,zG 55 true 56 (.eH 1 (.t 1)),zG 55 true 57 (.load false 1 (.t 56)),⟨(some (55,true)),some 58,.call 83 [.t 57,kI 0,kI 999]⟩,qP 59 55 58,zM 2 59] [2]) .ret)))
theorem K.aY:dR pZ 40 1 0 C.aY [.tmp 2]=true:=by kernel_rfl
def C.nK:aT:=(.seq (.reg [qX 2 10 0,zA 4 (.alloc 11 [.c (.str []),fD 0,fD 0,fD 0,.c (.str []),.cO 1,.cO 5]),qB 5 false] [1,2,4]) (.seq (.seq (.reg [qT 6 2 2,q1 7 40 6,qO 8 7,zM 9 8,zG 9 false 10 (.load true 2 (.t 2)),zG 9 false 11 (.mv (.t 1)),⟨(some (9,false)),some 12,.call 86 [.t 10,.t 11]⟩,zG 9 false 13 (.bin .lss (.t 12) (kI 0)),qQ 14 9 13] [1,2,4,14]) (.cond (.t 14) (.seq (.reg [zA 15 (.build [.c (.str []),fD 0,fD 0,fD 0,.c (.str []),.cO 1,.cO 5] []),qS 7 4 15,qB 5 false] [4,5]) .ret) .skip)) (.seq (.kN [(qT 16 2 2,[]),(q1 17 61 16,[0]),(zA 18 (.field false 0 1 (.t 17)),[0,1]),(qT 19 2 2,[]),(zM 20 1,[]),(q2 21 86 19 20,[0,1,3,4]),(qD 22 7 18 21,[0,1,2,3,4,5]),(qT 23 7 22,[0,1,2,3,4,5,6]),(qS 7 4 23,[0,1,2,3,4,5,6,7]),(qB 5 true,[0,1,2,3,4,5,6,7,8])] [4,5]) .ret)))
theorem K.nK:dR pZ 114 2 0 C.nK [.cell 4 true 7,.tmp 5]=true:=by kernel_rfl
def C.jP:aT:=(.seq (.reg [zA 2 (.mv (.k (.c (.str []))))] [0]) (.seq (.reg [zA 3 (.mv (.k (.c (.str [34]))))] [0,3]) (.seq (.seq (.reg [qI 4 0] [0,3,4]) (.block 0 (.loop (.seq (.seq (.reg [zM 5 4,zM 6 0,zA 7 (.lens (.t 6)),zA 8 (.bin .lss (.t 5) (.t 7))] [0,3,4,8]) (.cond (.t 8) .skip (.exit 0))) (.seq (.block 1 (.seq (.seq (.reg [zM 11 0,zM 12 4,zA 13 (.idxs (.t 11) (.t 12)),zA 14 (.bin .eql (.t 13) (.k (.c (.lit (.int .u8 34))))),zM 15 14,zG 15 false 16 (.mv (.t 0)),zG 15 false 17 (.mv (.t 4)),zG 15 false 18 (.idxs (.t 16) (.t 17)),zG 15 false 19 (.bin .eql (.t 18) (.k (.c (.lit (.int .u8 92))))),qQ 20 15 19] [0,3,4,20]) (.cond (.t 20) (.reg [zM 21 3,zA 22 (.bin .add (.t 21) (.k (.c (.str [92])))),zM 3 22] [0,3,4]) .skip)) (.reg [zM 23 3,zM 24 0,zM 25 4,zM 26 4,zA 27 (.bin .add (.t 26) (kI 1)),zA 28 (.IB (.t 24) (some (.t 25)) (some (.t 27))),zA 29 (.bin .add (.t 23) (.t 28)),zM 3 29] [0,3,4]))) (.reg [zM 9 4,zA 10 (.bin .add (.t 9) (kI 1)),zM 4 10] [0,3,4])))))) (.seq (.reg [zM 30 3,zA 31 (.bin .add (.t 30) (.k (.c (.str [34])))),zM 2 31] [2]) .ret))))
theorem K.jP:dR pZ 180 1 0 C.jP [.tmp 2]=true:=by kernel_rfl
def C.cu:aT:=(.seq (.reg [qX 1 10 0,zA 2 (.mv (.k (.c (.str []))))] [1]) (.seq (.reg [zA 3 (.mv (.k (.c (.str []))))] [1,3]) (.seq (.seq (.reg [qA 5 0 1,qF 6 1 5] [1,3,6]) (.block 0 (.seq (.reg [zA 8 (.bin .eql (.t 6) (kI 1)),zM 7 8] [1,3,6,7]) (.cond (.t 7) (.seq (.reg [qA 9 1 1,qF 10 1 9,q1 11 179 10,zM 2 11] [2]) .ret) (.seq (.reg [zA 13 (.bin .eql (.t 6) (kI 2)),zM 12 13] [1,3,6,12]) (.cond (.t 12) (.seq (.reg [qA 14 2 1,qF 15 1 14,q1 16 180 15,zM 2 16] [2]) .ret) (.seq (.reg [zA 18 (.bin .eql (.t 6) (kI 0)),zM 17 18] [1,3,17]) (.cond (.t 17) (.seq (.reg [zA 2 (.mv (.k (.c (.str [110,117,108,108]))))] [2]) .ret) .skip)))))))) (.seq (.seq (.reg [qI 4 0] [1,3,4]) (.block 1 (.loop (.seq (.seq (.reg [zM 19 4,qA 20 4 1,qF 21 1 20,qL 22 21,zA 23 (.bin .lss (.t 19) (.t 22))] [1,3,4,23]) (.cond (.t 23) .skip (.exit 1))) (.seq (.block 2 (.cut (.seq (.reg [zM 26 4,zA 27 (.bin .gtr (.t 26) (kI 0))] [1,3,4,27]) (.cond (.t 27) (.reg [zM 28 3,zA 29 (.bin .add (.t 28) (.k (.c (.str [44])))),zM 3 29] [1,3,4]) .skip)) (.cut (.seq (.reg [qA 30 0 1,qF 31 1 30,zA 32 (.bin .eql (.t 31) (kI 4))] [1,3,4,32]) (.cond (.t 32) (.reg [zM 33 3,qA 34 3 1,qF 35 1 34,zM 36 4,qD 37 1 35 36,qF 38 1 37,q1 39 180 38,zA 40 (.bin .add (.t 33) (.t 39)),zA 41 (.bin .add (.t 40) (.k (.c (.str [58])))),zM 3 41] [1,3,4]) .skip)) (.reg [zM 42 3,qA 43 4 1,qF 44 1 43,zM 45 4,qD 46 5 44 45,qT 47 5 46,q1 48 130 47,zA 49 (.bin .add (.t 42) (.t 48)),zM 3 49] [1,3,4])))) (.reg [zM 24 4,zA 25 (.bin .add (.t 24) (kI 1)),zM 4 25] [1,3,4])))))) (.seq (.seq (.reg [qA 50 0 1,qF 51 1 50,zA 52 (.bin .eql (.t 51) (kI 4))] [3,52]) (.cond (.t 52) (.seq (.reg [zM 53 3,zA 54 (.bin .add (.k (.c (.str [123]))) (.t 53)),zA 55 (.bin .add (.t 54) (.k (.c (.str [125])))),zM 2 55] [2]) .ret) .skip)) (.seq (.reg [zM 56 3,zA 57 (.bin .add (.k (.c (.str [91]))) (.t 56)),zA 58 (.bin .add (.t 57) (.k (.c (.str [93])))),zM 2 58] [2]) .ret))))))
theorem K.cu:dR pZ 130 1 0 C.cu [.tmp 2]=true:=by kernel_rfl
def C.pF:aT:=(.seq (.reg [zA 2 (.mv (.k (.c (.str []))))] [0]) (.seq (.reg [zA 3 (.mv (.k (.c (.str [48,49,50,51,52,53,54,55,56,57,97,98,99,100,101,102]))))] [0,3]) (.seq (.kN [(zM 4 3,[]),(zM 5 0,[]),(zA 6 (.bin .quo (.t 5) (kI 4096)),[1]),(zA 7 (.idxs (.t 4) (.t 6)),[0,1,2]),(zM 8 3,[]),(zM 9 0,[]),(zA 10 (.bin .quo (.t 9) (kI 256)),[5]),(zA 11 (.bin .rem (.t 10) (kI 16)),[5,6]),(zA 12 (.idxs (.t 8) (.t 11)),[4,5,6,7]),(zM 13 3,[]),(zM 14 0,[]),(zA 15 (.bin .quo (.t 14) (kI 16)),[10]),(zA 16 (.bin .rem (.t 15) (kI 16)),[10,11]),(zA 17 (.idxs (.t 13) (.t 16)),[9,10,11,12]),(zM 18 3,[]),(zM 19 0,[]),(zA 20 (.bin .rem (.t 19) (kI 16)),[15]),(zA 21 (.idxs (.t 18) (.t 20)),[14,15,16]),(zA 22 (.dJ 10 1 4 [.lit (.int .u8 0)] [(0,.t 7),(1,.t 12),(2,.t 17),(3,.t 21)]),[0,1,2,3,4,5,6,7,8,9,10,11,12,13,14,15,16,17]),(zA 23 (.I9 (.t 22)),[0,1,2,3,4,5,6,7,8,9,10,11,12,13,14,15,16,17,18]),(zM 2 23,[0,1,2,3,4,5,6,7,8,9,10,11,12,13,14,15,16,17,18,19])] [2]) .ret)))
theorem K.pF:dR pZ 128 1 0 C.pF [.tmp 2]=true:=by kernel_rfl
def C.kH:aT:=(.seq (.reg [qI 2 0] [0]) (.seq (.reg [qI 3 17] [0,3]) (.seq (.seq (.reg [qI 4 0] [0,3,4]) (.block 0 (.loop (.seq (.seq (.reg [zM 5 4,zM 6 0,zA 7 (.lens (.t 6)),zA 8 (.bin .lss (.t 5) (.t 7))] [0,3,4,8]) (.cond (.t 8) .skip (.exit 0))) (.seq (.block 1 (.reg [zM 11 3,zA 12 (.bin .mul (kI 131) (.t 11)),zM 13 0,zM 14 4,zA 15 (.idxs (.t 13) (.t 14)),zA 16 (.wB .i64 (.t 15)),zA 17 (.bin .add (.t 12) (.t 16)),zA 18 (.bin .rem (.t 17) (kI 65521)),zM 3 18] [0,3,4])) (.reg [zM 9 4,zA 10 (.bin .add (.t 9) (kI 1)),zM 4 10] [0,3,4])))))) (.seq (.reg [zM 19 3,zM 2 19] [2]) .ret))))
theorem K.kH:dR pZ 129 1 0 C.kH [.tmp 2]=true:=by kernel_rfl
def C.nY:aT:=(.seq (.reg [qX 1 10 0,zA 2 (.mv (.k (.c (.str []))))] [1]) (.seq (.seq (.reg [qT 3 5 1,q1 4 82 3,qO 5 4] [1,5]) (.cond (.t 5) (.seq (.reg [zA 2 (.mv (.k (.c (.str []))))] [2]) .ret) .skip)) (.seq (.reg [qT 6 5 1,q1 7 130 6,q1 8 129 7,q1 9 128 8,zM 2 9] [2]) .ret)))
theorem K.nY:dR pZ 116 1 0 C.nY [.tmp 2]=true:=by kernel_rfl
def C.jV:aT:=(.seq (.reg [zA 4 (.mv (.k (.cO 1)))] [0,1]) (.seq (.reg [zA 7 (.dJ 10 1 0 [.str []] []),zM 5 7] [0,1,5]) (.seq (.seq (.reg [zM 8 0,zA 9 (.dJ 11 1 7 [.lit (.int .i64 0)] [(0,kI 0),(1,kI 1),(2,kI 0),(3,kI 2),(4,kI 0),(5,kI 4),(6,kI 5)]),q2 10 71 8 9,zM 6 10] [0,1,5,6]) (.block 0 (.loop (.seq (.seq (.reg [zM 11 6,zA 12 (.bin .gtr (.t 11) (kI 0))] [0,1,5,6,12]) (.cond (.t 12) .skip (.exit 0))) (.seq (.block 1 (.reg [zM 15 5,zM 16 0,zM 17 1,zM 18 1,zA 19 (.dJ 12 1 6 [.str []] [(0,.k (.c (.str [42]))),(1,.k (.c (.str [48,48,48,48]))),(2,.k (.c (.str [49,50,97,98]))),(3,.k (.c (.str [102,102,102,102]))),(4,.t 17),(5,.t 18)]),q2 20 112 16 19,zA 21 (.dJ 13 1 1 [.str []] [(0,.t 20)]),zA 22 (.append 14 1 16 (.t 15) (.t 21)),zM 5 22] [0,1,5,6])) (.reg [zM 13 6,zA 14 (.bin .sub (.t 13) (kI 1)),zM 6 14] [0,1,5,6])))))) (.seq (.seq (.reg [zM 23 5,qL 24 23,zA 25 (.bin .gtr (.t 24) (kI 0)),zM 26 25,zG 26 true 27 (.mv (.t 0)),⟨(some (26,true)),some 28,.call 62 [.t 27,kI 20]⟩,zG 26 true 29 (.bin .eql (.t 28) (kI 0)),qP 30 26 29] [0,5,30]) (.cond (.t 30) (.reg [zM 31 5,zM 32 0,zA 33 (.dJ 15 1 4 [.str []] [(0,.k (.c (.str []))),(1,.k (.c (.str [49,50,97,66]))),(2,.k (.c (.str [49,50,51]))),(3,.k (.c (.str [49,50,51,52,53])))]),q2 34 112 32 33,zA 35 (.oD 1 (.t 31) (kI 0)),qU 1 35 34] [5]) .skip)) (.seq (.reg [zM 36 5,zM 4 36] [4]) .ret)))))
theorem K.jV:dR pZ 115 2 1 C.jV [.tmp 4]=true:=by kernel_rfl
def C.kX:aT:=(.seq (.reg [zA 2 (.mv (.k (.c (.str []))))] [0]) (.seq (.reg [zM 3 0,zA 4 (.dJ 10 1 10 [.str []] [(0,.k (.c (.str [97]))),(1,.k (.c (.str [98]))),(2,.k (.c (.str [100,111,99]))),(3,.k (.c (.str [122,122]))),(4,.k (.c (.str [97,49]))),(5,.k (.c (.str [109]))),(6,.k (.c (.str [120,57]))),(7,.k (.c (.str [98,111,111,107]))),(8,.k (.c (.str [97,98,99,100,101,102,103,104]))),(9,.k (.c (.str [113])))]),q2 5 112 3 4,zM 2 5] [2]) .ret))
theorem K.kX:dR pZ 109 1 1 C.kX [.tmp 2]=true:=by kernel_rfl
def C.oP:aT:=(.seq (.reg [qX 3 10 1,zA 4 (.mv (.k (.c (.str []))))] [0,3]) (.seq (.seq (.reg [qA 5 0 3,qF 6 1 5,qL 7 6,zA 8 (.bin .gtr (.t 7) (kI 0)),zM 9 8,zG 9 true 10 (.mv (.t 0)),⟨(some (9,true)),some 11,.call 62 [.t 10,kI 4]⟩,zG 9 true 12 (.bin .gtr (.t 11) (kI 0)),qP 13 9 12] [0,3,13]) (.cond (.t 13) (.seq (.kN [(qA 14 0 3,[]),(qF 15 1 14,[0]),(zM 16 0,[]),(qA 17 0 3,[]),(qF 18 1 17,[3]),(qL 19 18,[3,4]),(q2 20 62 16 19,[2,3,4,5]),(qD 21 7 15 20,[0,1,2,3,4,5,6]),(qA 22 0 21,[0,1,2,3,4,5,6,7]),(qF 23 1 22,[0,1,2,3,4,5,6,7,8]),(zM 4 23,[0,1,2,3,4,5,6,7,8,9])] [4]) .ret) .skip)) (.seq (.seq (.reg [zM 24 0,⟨none,some 25,.call 62 [.t 24,kI 12]⟩,zA 26 (.bin .eql (.t 25) (kI 0))] [0,26]) (.cond (.t 26) (.seq (.reg [zM 27 0,q1 28 72 27,zM 4 28] [4]) .ret) .skip)) (.seq (.reg [zM 29 0,q1 30 109 29,zM 4 30] [4]) .ret))))
theorem K.oP:dR pZ 113 2 1 C.oP [.tmp 4]=true:=by kernel_rfl
def C.lY:aT:=(.seq (.reg [qX 2 10 0,qZ 4 11,qB 5 false] [1,2,4]) (.seq (.seq (.reg [qI 6 0] [1,2,4,6]) (.block 0 (.loop (.seq (.seq (.reg [zM 8 6,zM 9 1,qL 10 9,zA 11 (.bin .lss (.t 8) (.t 10))] [1,2,4,6,11]) (.cond (.t 11) .skip (.exit 0))) (.seq (.block 1 (.seq (.kN [(qT 14 5 2,[]),(zM 15 1,[]),(zM 16 6,[]),(qD 17 1 15 16,[1,2]),(qF 18 1 17,[1,2,3]),(q2 19 182 14 18,[0,1,2,3,4]),(zM 7 19,[0,1,2,3,4,5])] [1,2,4,6,7]) (.seq (.seq (.reg [zM 20 7,zA 21 (.bin .lss (.t 20) (kI 0))] [1,2,4,6,7,21]) (.cond (.t 21) (.seq (.reg [zA 22 (.build zN []),qS 5 4 22,qB 5 false] [4,5]) .ret) .skip)) (.reg [qA 23 4 2,qF 24 1 23,zM 25 7,qD 26 5 24 25,qT 27 5 26,qS 5 2 27] [1,2,4,6])))) (.reg [zM 12 6,zA 13 (.bin .add (.t 12) (kI 1)),zM 6 13] [1,2,4,6])))))) (.seq (.reg [qT 28 5 2,q1 29 89 28,qS 5 4 29,qB 5 true] [4,5]) .ret)))
theorem K.lY:dR pZ 171 2 0 C.lY [.cell 4 true 5,.tmp 5]=true:=by kernel_rfl
def C.jQ:aT:=(.seq (.reg [qX 3 10 0,qX 5 11 2,qZ 6 12,qB 7 false] [1,3,5,6]) (.seq (.seq (.reg [zM 11 1,qL 12 11,zA 13 (.bin .eql (.t 12) (kI 0))] [1,3,5,6,13]) (.cond (.t 13) (.seq (.reg [qT 14 5 5,q1 15 89 14,qS 5 6 15,qB 7 true] [6,7]) .ret) .skip)) (.seq (.kN [(qT 16 5 3,[]),(zM 17 1,[]),(zA 18 (.oD 1 (.t 17) (kI 0)),[1]),(qF 19 1 18,[1,2]),(q2 20 182 16 19,[0,1,2,3]),(zM 8 20,[0,1,2,3,4])] [1,3,5,6,8]) (.seq (.seq (.reg [zM 21 8,zA 22 (.bin .lss (.t 21) (kI 0))] [1,3,5,6,8,22]) (.cond (.t 22) (.seq (.reg [zA 23 (.build zN []),qS 5 6 23,qB 7 false] [6,7]) .ret) .skip)) (.seq (.kN [(qA 25 4 3,[]),(qF 26 1 25,[0]),(zM 27 8,[]),(qD 28 5 26 27,[0,1,2]),(qT 29 5 28,[0,1,2,3]),(zM 30 1,[]),(zA 31 (.uS 1 (.t 30) (some (kI 1)) none),[5]),(qT 32 5 5,[]),(q3 33 169 29 31 32,[0,1,2,3,4,5,6,7]),(zM 24 33,[0,1,2,3,4,5,6,7,8]),(qE 34 24 0,[0,1,2,3,4,5,6,7,8,9]),(qE 35 24 1,[0,1,2,3,4,5,6,7,8,9]),(qZ 9 13,[]),(qS 5 9 34,[0,1,2,3,4,5,6,7,8,9,10,12]),(zM 10 35,[0,1,2,3,4,5,6,7,8,9,10,11,12,13])] [3,6,8,9,10]) (.seq (.seq (.reg [zM 36 10,qO 37 36] [3,6,8,9,37]) (.cond (.t 37) (.seq (.reg [zA 38 (.build zN []),qS 5 6 38,qB 7 false] [6,7]) .ret) .skip)) (.seq (.reg [qT 39 5 3,zM 40 8,qT 41 5 9,q3 42 183 39 40 41,qS 5 6 42,qB 7 true] [6,7]) .ret)))))))
theorem K.jQ:dR pZ 169 3 0 C.jQ [.cell 6 true 5,.tmp 7]=true:=by kernel_rfl
def C.lX:aT:=(.seq (.reg [qX 3 10 0,qX 5 11 2,qZ 6 12,qB 7 false] [1,3,5,6]) (.seq (.seq (.reg [zM 13 1,qL 14 13,zA 15 (.bin .eql (.t 14) (kI 0))] [1,3,5,6,15]) (.cond (.t 15) (.seq (.reg [qT 16 5 5,q1 17 89 16,qS 5 6 17,qB 7 true] [6,7]) .ret) .skip)) (.seq (.reg [zM 18 1,qL 19 18,zA 20 (.bin .sub (.t 19) (kI 1)),zM 8 20] [1,3,5,6,8]) (.seq (.kN [(qT 22 5 3,[]),(zM 23 1,[]),(zM 24 8,[]),(zA 25 (.uS 1 (.t 23) none (some (.t 24))),[1,2]),(q2 26 171 22 25,[0,1,2,3]),(zM 21 26,[0,1,2,3,4]),(qE 27 21 0,[0,1,2,3,4,5]),(qE 28 21 1,[0,1,2,3,4,5]),(qZ 9 13,[]),(qS 5 9 27,[0,1,2,3,4,5,6,8]),(zM 10 28,[0,1,2,3,4,5,6,7,8,9])] [1,3,5,6,8,9,10]) (.seq (.seq (.reg [zM 29 10,qO 30 29] [1,3,5,6,8,9,30]) (.cond (.t 30) (.seq (.reg [zA 31 (.build zN []),qS 5 6 31,qB 7 false] [6,7]) .ret) .skip)) (.seq (.kN [(qT 33 5 9,[]),(zM 34 1,[]),(zM 35 8,[]),(qD 36 1 34 35,[1,2]),(qF 37 1 36,[1,2,3]),(qT 38 5 5,[]),(q3 39 184 33 37 38,[0,1,2,3,4,5]),(zM 32 39,[0,1,2,3,4,5,6]),(qE 40 32 0,[0,1,2,3,4,5,6,7]),(qE 41 32 1,[0,1,2,3,4,5,6,7]),(qZ 11 14,[]),(qS 5 11 40,[0,1,2,3,4,5,6,7,8,10]),(zM 12 41,[0,1,2,3,4,5,6,7,8,9,10,11])] [1,3,6,8,11,12]) (.seq (.seq (.reg [zM 42 12,qO 43 42] [1,3,6,8,11,43]) (.cond (.t 43) (.seq (.reg [zA 44 (.build zN []),qS 5 6 44,qB 7 false] [6,7]) .ret) .skip)) (.seq (.kN [(qT 45 5 3,[]),(zM 46 1,[]),(zM 47 8,[]),(zA 48 (.uS 1 (.t 46) none (some (.t 47))),[1,2]),(qT 49 5 11,[]),(q3 50 169 45 48 49,[0,1,2,3,4]),(qE 51 50 0,[0,1,2,3,4,5]),(qE 52 50 1,[0,1,2,3,4,5]),(qS 5 6 51,[0,1,2,3,4,5,6,7]),(zM 7 52,[0,1,2,3,4,5,6,7,8])] [6,7]) .ret))))))))
theorem K.lX:dR pZ 168 3 0 C.lX [.cell 6 true 5,.tmp 7]=true:=by kernel_rfl
def C.gB:aT:=(.seq (.reg [qX 1 10 0,zA 2 (.mv (.k (.cO 1)))] [1]) (.seq (.reg [zA 8 (.dJ 11 1 0 [.str []] []),zA 9 (.dJ 12 1 1 [.sl 1 []] [(0,.t 8)]),zM 3 9] [1,3]) (.seq (.seq (.reg [qI 4 0] [1,3,4]) (.block 0 (.loop (.seq (.seq (.reg [zM 10 4,qA 11 4 1,qF 12 1 11,qL 13 12,zA 14 (.bin .lss (.t 10) (.t 13))] [1,3,4,14]) (.cond (.t 14) .skip (.exit 0))) (.seq (.block 1 (.seq (.reg [zM 17 4,q1 18 179 17,zM 5 18] [1,3,4,5]) (.cut (.seq (.reg [qA 19 0 1,qF 20 1 19,zA 21 (.bin .eql (.t 20) (kI 4))] [1,3,4,5,21]) (.cond (.t 21) (.reg [qA 22 3 1,qF 23 1 22,zM 24 4,qD 25 1 23 24,qF 26 1 25,zM 5 26] [1,3,4,5]) .skip)) (.seq (.reg [qA 27 4 1,qF 28 1 27,zM 29 4,qD 30 5 28 29,qT 31 5 30,q1 32 166 31,zM 6 32] [1,3,4,5,6]) (.seq (.reg [qI 7 0] [1,3,4,5,6,7]) (.block 2 (.loop (.seq (.seq (.reg [zM 33 7,zM 34 6,qL 35 34,zA 36 (.bin .lss (.t 33) (.t 35))] [1,3,4,5,6,7,36]) (.cond (.t 36) .skip (.exit 2))) (.seq (.block 3 (.reg [zM 39 3,zM 40 5,zA 41 (.dJ 13 1 1 [.str []] [(0,.t 40)]),zM 42 6,zM 43 7,qD 44 1 42 43,qF 45 1 44,zA 46 (.append 14 1 16 (.t 41) (.t 45)),zA 47 (.dJ 15 1 1 [.sl 1 []] [(0,.t 46)]),zA 48 (.append 16 1 24 (.t 39) (.t 47)),zM 3 48] [1,3,4,5,6,7])) (.reg [zM 37 7,zA 38 (.bin .add (.t 37) (kI 1)),zM 7 38] [1,3,4,5,6,7])))))))))) (.reg [zM 15 4,zA 16 (.bin .add (.t 15) (kI 1)),zM 4 16] [1,3,4])))))) (.seq (.reg [zM 49 3,zM 2 49] [2]) .ret))))
theorem K.gB:dR pZ 166 1 0 C.gB [.tmp 2]=true:=by kernel_rfl
def C.gG:aT:=(.seq (.reg [qX 2 10 0,qZ 4 11,qB 5 false] [1,2,4]) (.seq (.reg [zM 12 1,qL 13 12,zA 14 (.bin .sub (.t 13) (kI 1)),zM 6 14] [1,2,4,6]) (.seq (.seq (.reg [zM 15 6,zA 16 (.bin .lss (.t 15) (kI 0))] [1,2,4,6,16]) (.cond (.t 16) (.seq (.reg [zA 17 (.build zN []),qS 5 4 17,qB 5 false] [4,5]) .ret) .skip)) (.seq (.kN [(qT 19 5 2,[]),(zM 20 1,[]),(zM 21 6,[]),(zA 22 (.uS 1 (.t 20) none (some (.t 21))),[1,2]),(q2 23 171 19 22,[0,1,2,3]),(zM 18 23,[0,1,2,3,4]),(qE 24 18 0,[0,1,2,3,4,5]),(qE 25 18 1,[0,1,2,3,4,5]),(qZ 7 12,[]),(qS 5 7 24,[0,1,2,3,4,5,6,8]),(zM 8 25,[0,1,2,3,4,5,6,7,8,9])] [1,2,4,6,7,8]) (.seq (.seq (.reg [zM 26 8,qO 27 26] [1,2,4,6,7,27]) (.cond (.t 27) (.seq (.reg [zA 28 (.build zN []),qS 5 4 28,qB 5 false] [4,5]) .ret) .skip)) (.seq (.kN [(qT 29 5 7,[]),(zM 30 1,[]),(zM 31 6,[]),(qD 32 1 30 31,[1,2]),(qF 33 1 32,[1,2,3]),(q2 34 182 29 33,[0,1,2,3,4]),(zM 9 34,[0,1,2,3,4,5])] [1,2,4,6,7,9]) (.seq (.seq (.reg [zM 35 9,zA 36 (.bin .lss (.t 35) (kI 0))] [1,2,4,6,7,9,36]) (.cond (.t 36) (.seq (.reg [zA 37 (.build zN []),qS 5 4 37,qB 5 false] [4,5]) .ret) .skip)) (.seq (.kN [(zA 38 (.dJ 13 5 0 [.lit (.int .i64 0),.lit (.int .i64 0),.str [],.sl 1 [],.sl 5 []] []),[]),(qA 39 4 7,[]),(qF 40 1 39,[1]),(zM 41 9,[]),(zA 42 (.uS 5 (.t 40) none (some (.t 41))),[1,2,3]),(zA 43 (.append 14 5 80 (.t 38) (.t 42)),[0,1,2,3,4]),(qA 44 4 7,[]),(qF 45 1 44,[6]),(zM 46 9,[]),(zA 47 (.bin .add (.t 46) (kI 1)),[8]),(zA 48 (.uS 5 (.t 45) (some (.t 47)) none),[6,7,8,9]),(zA 49 (.append 15 5 80 (.t 43) (.t 48)),[0,1,2,3,4,5,6,7,8,9,10]),(zM 10 49,[0,1,2,3,4,5,6,7,8,9,10,11])] [1,2,4,6,7,9,10]) (.seq (.reg [zA 50 (.dJ 16 1 0 [.str []] []),zM 11 50] [1,2,4,6,7,9,10,11]) (.cut (.seq (.reg [qA 51 0 7,qF 52 1 51,zA 53 (.bin .eql (.t 52) (kI 4))] [1,2,4,6,7,9,10,11,53]) (.cond (.t 53) (.kN [(zA 54 (.dJ 17 1 0 [.str []] []),[]),(qA 55 3 7,[]),(qF 56 1 55,[1]),(zM 57 9,[]),(zA 58 (.uS 1 (.t 56) none (some (.t 57))),[1,2,3]),(zA 59 (.append 18 1 16 (.t 54) (.t 58)),[0,1,2,3,4]),(qA 60 3 7,[]),(qF 61 1 60,[6]),(zM 62 9,[]),(zA 63 (.bin .add (.t 62) (kI 1)),[8]),(zA 64 (.uS 1 (.t 61) (some (.t 63)) none),[6,7,8,9]),(zA 65 (.append 19 1 16 (.t 59) (.t 64)),[0,1,2,3,4,5,6,7,8,9,10]),(zM 11 65,[0,1,2,3,4,5,6,7,8,9,10,11])] [1,2,4,6,7,10,11]) .skip)) (.seq (.kN [(qT 66 5 2,[]),(zM 67 1,[]),(zM 68 6,[]),(zA 69 (.uS 1 (.t 67) none (some (.t 68))),[1,2]),(qA 70 0 7,[]),(qF 71 1 70,[4]),(zM 72 11,[]),(zM 73 10,[]),(zA 74 (.build zN [(0,1,.t 71),(3,1,.t 72),(4,1,.t 73)]),[4,5,6,7]),(q3 75 169 66 69 74,[0,1,2,3,4,5,6,7,8]),(qE 76 75 0,[0,1,2,3,4,5,6,7,8,9]),(qE 77 75 1,[0,1,2,3,4,5,6,7,8,9]),(qS 5 4 76,[0,1,2,3,4,5,6,7,8,9,10,11]),(zM 5 77,[0,1,2,3,4,5,6,7,8,9,10,11,12])] [4,5]) .ret)))))))))))
theorem K.gG:dR pZ 167 2 0 C.gG [.cell 4 true 5,.tmp 5]=true:=by kernel_rfl
def C.jA:aT:=(.seq (.reg [qX 3 10 1,qZ 4 11] [0,3,4]) (.seq (.reg [qT 9 5 3,q1 10 166 9,zM 5 10] [0,3,4,5]) (.seq (.reg [zM 11 5,zM 12 0,zM 13 5,qL 14 13,q2 15 62 12 14,qD 16 1 11 15,qF 17 1 16,zM 6 17] [0,3,4,6]) (.seq (.reg [qT 18 5 3,q1 19 89 18,qZ 7 12,qS 5 7 19] [0,3,4,6,7]) (.seq (.reg [qB 8 true] [0,3,4,6,7,8]) (.cut (.seq (.reg [zM 20 0,⟨none,some 21,.call 62 [.t 20,kI 5]⟩] [0,3,4,6,7,8,21]) (.block 0 (.seq (.reg [zA 23 (.bin .eql (.t 21) (kI 0)),zM 22 23] [0,3,4,6,7,8,21,22]) (.cond (.t 22) (.reg [qT 25 5 3,zM 26 6,q2 27 167 25 26,zM 24 27,qE 28 24 0,qE 29 24 1,qS 5 7 28,zM 8 29] [3,4,7,8]) (.seq (.reg [zA 31 (.bin .eql (.t 21) (kI 1)),zM 30 31] [0,3,4,6,7,8,21,30]) (.cond (.t 30) (.kN [(qT 33 5 3,[]),(zA 34 (.dJ 13 1 0 [.str []] []),[]),(zM 35 6,[]),(zA 36 (.append 14 1 16 (.t 34) (.t 35)),[1,2]),(zM 37 0,[]),(zA 38 (.dJ 15 1 4 [.str []] [(0,.k (.c (.str [97]))),(1,.k (.c (.str [48]))),(2,.k (.c (.str [45]))),(3,.k (.c (.str [122])))]),[]),(q2 39 112 37 38,[1,2,3,4,5]),(zA 40 (.dJ 16 1 1 [.str []] [(0,.t 39)]),[1,2,3,4,5,6]),(zA 41 (.append 17 1 16 (.t 36) (.t 40)),[1,2,3,4,5,6,7]),(zM 42 0,[]),(⟨none,some 43,.call 164 [.t 42,kI 2]⟩,[1,2,3,4,5,6,7,8,9]),(q3 44 168 33 41 43,[0,1,2,3,4,5,6,7,8,9,10]),(zM 32 44,[0,1,2,3,4,5,6,7,8,9,10,11]),(qE 45 32 0,[0,1,2,3,4,5,6,7,8,9,10,11,12]),(qE 46 32 1,[0,1,2,3,4,5,6,7,8,9,10,11,12]),(qS 5 7 45,[0,1,2,3,4,5,6,7,8,9,10,11,12,13]),(zM 8 46,[0,1,2,3,4,5,6,7,8,9,10,11,12,13,14,15])] [3,4,7,8]) (.seq (.reg [zA 48 (.bin .eql (.t 21) (kI 2)),zM 47 48] [0,3,4,6,7,8,21,47]) (.cond (.t 47) (.kN [(qT 50 5 3,[]),(zM 51 6,[]),(zM 52 0,[]),(⟨none,some 53,.call 164 [.t 52,kI 2]⟩,[2]),(q3 54 169 50 51 53,[0,1,2,3]),(zM 49 54,[0,1,2,3,4]),(qE 55 49 0,[0,1,2,3,4,5]),(qE 56 49 1,[0,1,2,3,4,5]),(qS 5 7 55,[0,1,2,3,4,5,6]),(zM 8 56,[0,1,2,3,4,5,6,7,8])] [3,4,7,8]) (.seq (.reg [zA 58 (.bin .eql (.t 21) (kI 3)),zM 57 58] [0,3,4,7,8,57]) (.cond (.t 57) (.seq (.reg [zM 59 0,q1 60 110 59,qS 5 4 60] [4]) .ret) .skip)))))))))) (.seq (.seq (.reg [zM 61 8,qO 62 61,zM 63 62,zG 63 false 64 (.load true 5 (.t 7)),⟨(some (63,false)),some 65,.call 82 [.t 64]⟩,zG 63 false 66 (.not (.t 65)),qQ 67 63 66] [3,4,7,67]) (.cond (.t 67) (.seq (.reg [qT 68 5 3,q1 69 89 68,qS 5 4 69] [4]) .ret) .skip)) (.seq (.reg [qT 70 5 7,qS 5 4 70] [4]) .ret))))))))
theorem K.jA:dR pZ 117 2 1 C.jA [.cell 4 true 5]=true:=by kernel_rfl
def C.nS:aT:=(.seq (.reg [qX 1 10 0,zA 2 (.mv (.k (.cO 1)))] [1]) (.seq (.seq (.reg [qT 3 5 1,q1 4 82 3,qO 5 4] [1,5]) (.cond (.t 5) (.seq (.reg [zA 2 (.mv (.k (.cO 1)))] [2]) .ret) .skip)) (.seq (.reg [qT 6 5 1,q1 7 166 6,zM 2 7] [2]) .ret)))
theorem K.nS:dR pZ 211 1 0 C.nS [.tmp 2]=true:=by kernel_rfl
def C.jU:aT:=(.seq (.reg [zA 2 (.mv (.k (.cO 1)))] [0]) (.seq (.reg [zA 5 (.dJ 10 1 0 [.str []] []),zM 3 5] [0,3]) (.seq (.seq (.reg [zM 6 0,zA 7 (.dJ 11 1 7 [.lit (.int .i64 0)] [(0,kI 1),(1,kI 2),(2,kI 1),(3,kI 0),(4,kI 3),(5,kI 5),(6,kI 6)]),q2 8 71 6 7,zM 4 8] [0,3,4]) (.block 0 (.loop (.seq (.seq (.reg [zM 9 4,zA 10 (.bin .gtr (.t 9) (kI 0))] [0,3,4,10]) (.cond (.t 10) .skip (.exit 0))) (.seq (.block 1 (.reg [zM 13 3,zM 14 0,zA 15 (.dJ 12 1 9 [.str []] [(0,.k (.c (.str [97]))),(1,.k (.c (.str [98]))),(2,.k (.c (.str [48]))),(3,.k (.c (.str [49]))),(4,.k (.c (.str [45]))),(5,.k (.c (.str [97,47,98]))),(6,.k (.c (.str [126,120]))),(7,.k (.c (.str []))),(8,.k (.c (.str [99])))]),q2 16 112 14 15,zA 17 (.dJ 13 1 1 [.str []] [(0,.t 16)]),zA 18 (.append 14 1 16 (.t 13) (.t 17)),zM 3 18] [0,3,4])) (.reg [zM 11 4,zA 12 (.bin .sub (.t 11) (kI 1)),zM 4 12] [0,3,4])))))) (.seq (.seq (.reg [zM 19 3,qL 20 19,zA 21 (.bin .gtr (.t 20) (kI 0)),zM 22 21,zG 22 true 23 (.mv (.t 0)),⟨(some (22,true)),some 24,.call 62 [.t 23,kI 20]⟩,zG 22 true 25 (.bin .eql (.t 24) (kI 0)),qP 26 22 25] [0,3,26]) (.cond (.t 26) (.reg [zM 27 3,zM 28 0,zA 29 (.dJ 15 1 2 [.str []] [(0,.k (.c (.str [97,98,99,100,101,102,103,104,105,106,107,108,109]))),(1,.k (.c (.str [10])))]),q2 30 112 28 29,zA 31 (.oD 1 (.t 27) (kI 0)),qU 1 31 30] [3]) .skip)) (.seq (.reg [zM 32 3,zM 2 32] [2]) .ret)))))
theorem K.jU:dR pZ 212 1 1 C.jU [.tmp 2]=true:=by kernel_rfl
def C.oI:aT:=(.seq (.reg [qX 3 10 1,zA 4 (.mv (.k (.cO 1)))] [0,3]) (.seq (.reg [qT 6 5 3,q1 7 211 6,zM 5 7] [0,5]) (.seq (.seq (.reg [zM 8 5,qL 9 8,zA 10 (.bin .gtr (.t 9) (kI 0)),zM 11 10,zG 11 true 12 (.mv (.t 0)),⟨(some (11,true)),some 13,.call 62 [.t 12,kI 4]⟩,zG 11 true 14 (.bin .gtr (.t 13) (kI 0)),qP 15 11 14] [0,5,15]) (.cond (.t 15) (.seq (.reg [zM 16 5,zM 17 0,zM 18 5,qL 19 18,q2 20 62 17 19,qD 21 1 16 20,qF 22 1 21,zM 4 22] [4]) .ret) .skip)) (.seq (.reg [zM 23 0,q1 24 212 23,zM 4 24] [4]) .ret))))
theorem K.oI:dR pZ 170 2 1 C.oI [.tmp 4]=true:=by kernel_rfl
def C.bD:aT:=(.seq (.reg [qX 3 10 1,zA 4 (.alloc 11 [fD 0,.cO 1,.cO 1,fD 0,fD 0,.c (.str []),.cO 1,.cO 5])] [0,3,4]) (.seq (.kN [(zM 8 0,[]),(⟨none,some 9,.call 62 [.t 8,kI 6]⟩,[0]),(zA 10 (.bin .add (kI 1) (.t 9)),[0,1]),(zM 11 0,[]),(qT 12 5 3,[]),(q2 13 170 11 12,[0,1,3,4]),(zA 14 (.dJ 12 1 0 [.str []] []),[]),(zA 15 (.build zN []),[]),(zA 16 (.build [fD 0,.cO 1,.cO 1,fD 0,fD 0,.c (.str []),.cO 1,.cO 5] [(0,1,.t 10),(1,1,.t 13),(2,1,.t 14),(3,5,.t 15)]),[0,1,2,3,4,5,6,7]),(zA 5 (.alloc 13 [fD 0,.cO 1,.cO 1,fD 0,fD 0,.c (.str []),.cO 1,.cO 5]),[]),(qS 8 5 16,[0,1,2,3,4,5,6,7,8,9])] [0,3,4,5]) (.cut (.seq (.reg [qA 17 0 5,qF 18 1 17] [0,3,4,5,18]) (.block 0 (.cut (.seq (.reg [zA 20 (.bin .eql (.t 18) (kI 1)),zM 19 20] [0,3,4,5,18,19]) (.cond (.t 19) .skip (.reg [zA 21 (.bin .eql (.t 18) (kI 3)),zM 19 21] [0,3,4,5,18,19]))) (.cond (.t 19) (.reg [zM 22 0,⟨none,some 23,.call 164 [.t 22,kI 2]⟩,qA 24 3 5,qS 5 24 23] [0,4,5]) (.seq (.reg [zA 26 (.bin .eql (.t 18) (kI 6)),zM 25 26] [0,3,4,5,18,25]) (.cond (.t 25) (.seq (.reg [qT 28 5 3,qA 29 1 5,qF 30 1 29,q2 31 171 28 30,zM 27 31,qE 32 27 0,qE 33 27 1,qZ 6 14,qS 5 6 32,zM 7 33] [0,4,5,6,7]) (.seq (.reg [zM 34 7,zM 35 34,zG 35 true 36 (.mv (.t 0)),⟨(some (35,true)),some 37,.call 62 [.t 36,kI 3]⟩,zG 35 true 38 (.bin .gtr (.t 37) (kI 0)),qP 39 35 38] [0,4,5,6,39]) (.cond (.t 39) (.reg [qT 40 5 6,qA 41 3 5,qS 5 41 40] [0,4,5]) .skip))) (.cut (.seq (.reg [zA 43 (.bin .eql (.t 18) (kI 4)),zM 42 43] [0,3,4,5,18,42]) (.cond (.t 42) .skip (.reg [zA 44 (.bin .eql (.t 18) (kI 5)),zM 42 44] [0,3,4,5,42]))) (.cond (.t 42) (.reg [zM 45 0,qT 46 5 3,q2 47 170 45 46,qA 48 2 5,qU 1 48 47] [0,4,5]) .skip)))))))) (.seq (.cut (.reg [qA 49 1 5,qF 50 1 49,qL 51 50,zA 52 (.bin .lss (.t 51) (kI 4)),zM 53 52,zG 53 true 54 (.eH 0 (.t 5)),zG 53 true 55 (.load false 1 (.t 54)),zG 53 true 56 (.bin .eql (.t 55) (kI 1)),zG 53 true 57 (.mv (.t 56)),zG 57 false 58 (.eH 0 (.t 5)),zG 57 false 59 (.load false 1 (.t 58)),zG 57 false 60 (.bin .eql (.t 59) (kI 4)),zG 53 true 61 (.pick (.t 57) (kB true) (.t 60)),zG 53 true 62 (.mv (.t 61)),zG 62 false 63 (.eH 0 (.t 5)),zG 62 false 64 (.load false 1 (.t 63)),zG 62 false 65 (.bin .eql (.t 64) (kI 5)),zG 53 true 66 (.pick (.t 62) (kB true) (.t 65)),qP 67 53 66,zM 68 67,zG 68 true 69 (.mv (.t 0)),⟨(some (68,true)),some 70,.call 62 [.t 69,kI 2]⟩,zG 68 true 71 (.bin .eql (.t 70) (kI 0)),qP 72 68 71] [0,4,5,72]) (.cond (.t 72) (.reg [zA 73 (.dJ 15 1 0 [.str []] []),qA 74 1 5,qF 75 1 74,zA 76 (.append 16 1 16 (.t 73) (.t 75)),zM 77 0,zA 78 (.dJ 17 1 4 [.str []] [(0,.k (.c (.str [122]))),(1,.k (.c (.str [45]))),(2,.k (.c (.str [48]))),(3,.k (.c (.str [101])))]),q2 79 112 77 78,zA 80 (.dJ 18 1 1 [.str []] [(0,.t 79)]),zA 81 (.append 19 1 16 (.t 76) (.t 80)),qA 82 1 5,qU 1 82 81] [4,5]) .skip)) (.seq (.reg [qT 83 8 5,qS 8 4 83] [4]) .ret)))))
theorem K.bD:dR pZ 118 2 1 C.bD [.cell 4 true 8]=true:=by kernel_rfl
def C.aI:aT:=(.seq (.reg [qX 3 10 1,zA 4 (.alloc 11 [fD 0,.c (.str []),.cO 1,.cO 1,fD 0,fD 0,.c (.str []),.cO 1,.cO 5,.cO 8])] [0,3,4]) (.seq (.reg [zM 10 0,qT 11 2 3,q2 12 113 10 11,zM 5 12] [0,3,4,5]) (.seq (.reg [qT 14 2 3,zM 15 5,q2 16 114 14 15,zM 13 16,qE 17 13 0,qE 18 13 1,zA 6 (.alloc 12 [.c (.str []),fD 0,fD 0,fD 0,.c (.str []),.cO 1,.cO 5]),qS 7 6 17,zM 7 18] [0,4,5,6,7]) (.seq (.reg [zM 19 0,⟨none,some 20,.call 62 [.t 19,kI 5]⟩,zA 21 (.bin .add (kI 1) (.t 20)),zM 22 5,zA 23 (.dJ 13 1 0 [.str []] []),zA 24 (.dJ 14 1 0 [.str []] []),zA 25 (.dJ 15 8 0 [.lit (.int .i64 0),.sl 1 [],.sl 1 [],.lit (.int .i64 0),.lit (.int .i64 0),.str [],.sl 1 [],.sl 5 []] []),zA 26 (.build [fD 0,.c (.str []),.cO 1,.cO 1,fD 0,fD 0,.c (.str []),.cO 1,.cO 5,.cO 8] [(0,1,.t 21),(1,1,.t 22),(2,1,.t 23),(3,1,.t 24),(9,1,.t 25)]),zA 8 (.alloc 16 [fD 0,.c (.str []),.cO 1,.cO 1,fD 0,fD 0,.c (.str []),.cO 1,.cO 5,.cO 8]),qS 10 8 26] [0,4,6,7,8]) (.cut (.seq (.reg [zM 27 0,⟨none,some 28,.call 62 [.t 27,kI 3]⟩,zA 29 (.bin .eql (.t 28) (kI 0))] [0,4,6,7,8,29]) (.cond (.t 29) (.reg [zM 30 0,qA 31 2 6,qT 32 5 31,q1 33 116 32,q2 34 115 30 33,qA 35 2 8,qU 1 35 34] [0,4,6,7,8]) .skip)) (.cut (.seq (.reg [zM 36 0,⟨none,some 37,.call 62 [.t 36,kI 4]⟩,zA 38 (.bin .eql (.t 37) (kI 0))] [0,4,6,7,8,38]) (.cond (.t 38) (.reg [zM 39 0,qA 40 2 6,qT 41 5 40,q1 42 116 41,q2 43 115 39 42,qA 44 3 8,qU 1 44 43] [0,4,6,7,8]) .skip)) (.cut (.seq (.reg [qA 45 0 8,qF 46 1 45] [0,4,6,7,8,46]) (.block 0 (.seq (.reg [zA 48 (.bin .eql (.t 46) (kI 2)),zM 47 48] [0,4,6,7,8,46,47]) (.cond (.t 47) (.reg [zM 49 0,q1 50 110 49,qA 51 4 8,qS 5 51 50] [0,4,7,8]) (.seq (.reg [zA 53 (.bin .eql (.t 46) (kI 5)),zM 52 53] [0,4,6,7,8,46,52]) (.cond (.t 52) (.reg [zM 54 0,qA 55 2 6,qT 56 5 55,q2 57 117 54 56,qA 58 4 8,qS 5 58 57] [0,4,7,8]) (.seq (.reg [zA 60 (.bin .eql (.t 46) (kI 4)),zM 59 60] [0,4,6,7,8,59]) (.cond (.t 59) (.seq (.reg [zM 61 0,⟨none,some 62,.call 62 [.t 61,kI 3]⟩,zM 9 62] [0,4,6,7,8,9]) (.block 1 (.loop (.seq (.seq (.reg [zM 63 9,zA 64 (.bin .gtr (.t 63) (kI 0))] [0,4,6,7,8,9,64]) (.cond (.t 64) .skip (.exit 1))) (.seq (.block 2 (.kN [(qA 67 9 8,[]),(qF 68 1 67,[0]),(zM 69 0,[]),(qA 70 2 6,[]),(qT 71 5 70,[3]),(q2 72 118 69 71,[2,3,4]),(zA 73 (.dJ 17 8 1 [.lit (.int .i64 0),.sl 1 [],.sl 1 [],.lit (.int .i64 0),.lit (.int .i64 0),.str [],.sl 1 [],.sl 5 []] [(0,.t 72)]),[2,3,4,5]),(zA 74 (.append 18 8 136 (.t 68) (.t 73)),[0,1,2,3,4,5,6]),(qA 75 9 8,[0,1,2,3,4,5,6,7]),(qU 1 75 74,[0,1,2,3,4,5,6,7,8])] [0,4,6,7,8,9])) (.reg [zM 65 9,zA 66 (.bin .sub (.t 65) (kI 1)),zM 9 66] [0,4,6,7,8,9])))))) .skip)))))))) (.seq (.seq (.reg [zM 76 7,qO 77 76,zM 78 77,zG 78 true 79 (.mv (.t 0)),⟨(some (78,true)),some 80,.call 62 [.t 79,kI 2]⟩,zG 78 true 81 (.bin .eql (.t 80) (kI 0)),qP 82 78 81] [4,8,82]) (.cond (.t 82) (.reg [qA 83 0 8,zS (.store false 1 (.t 83) (kI 2))] [4,8]) .skip)) (.seq (.reg [qT 84 10 8,qS 10 4 84] [4]) .ret)))))))))
theorem K.aI:dR pZ 74 2 1 C.aI [.cell 4 true 10]=true:=by kernel_rfl
def C.lu:aT:=(.seq (.reg [qX 3 10 1,zA 4 (.alloc 11 [fD 0,.c (.str []),.cO 1,.cO 1,fD 0,fD 0,.c (.str []),.cO 1,.cO 5,.cO 8])] [0,3,4]) (.seq (.reg [zM 6 0,qT 7 2 3,q2 8 74 6 7,zA 5 (.alloc 12 [fD 0,.c (.str []),.cO 1,.cO 1,fD 0,fD 0,.c (.str []),.cO 1,.cO 5,.cO 8]),qS 10 5 8] [0,4,5]) (.seq (.seq (.reg [zM 9 0,⟨none,some 10,.call 62 [.t 9,kI 30]⟩] [0,4,5,10]) (.block 0 (.seq (.reg [zA 12 (.bin .eql (.t 10) (kI 0)),zM 11 12] [0,4,5,10,11]) (.cond (.t 11) (.reg [zM 13 0,zA 14 (.dJ 13 1 2 [.lit (.int .i64 0)] [(0,kI 0),(1,kI 6)]),q2 15 71 13 14,qA 16 0 5,qU 1 16 15] [4,5]) (.seq (.reg [zA 18 (.bin .eql (.t 10) (kI 1)),zM 17 18] [0,4,5,10,17]) (.cond (.t 17) (.reg [zM 19 0,q1 20 72 19,qA 21 1 5,qU 1 21 20] [4,5]) (.seq (.reg [zA 23 (.bin .eql (.t 10) (kI 2)),zM 22 23] [0,4,5,22]) (.cond (.t 22) (.reg [zM 24 0,q1 25 73 24,qA 26 4 5,qS 5 26 25] [4,5]) .skip)))))))) (.seq (.reg [qT 27 10 5,qS 10 4 27] [4]) .ret))))
theorem K.lu:dR pZ 34 2 1 C.lu [.cell 4 true 10]=true:=by kernel_rfl
def C.jF:aT:=(.seq (.reg [qX 2 10 0,zA 4 (.alloc 11 [.cO 7,fD 0])] [1,2,4]) (.seq (.reg [zA 8 (.dJ 12 7 0 [.str [],.lit (.int .i64 0),.lit (.int .i64 0),.lit (.int .i64 0),.str [],.sl 1 [],.sl 5 []] []),zM 5 8] [1,2,4,5]) (.seq (.reg [qT 9 2 2,q1 10 61 9,zA 11 (.field false 0 1 (.t 10)),zM 6 11] [1,2,4,5,6]) (.seq (.seq (.reg [qI 7 0] [1,2,4,5,6,7]) (.block 0 (.loop (.seq (.seq (.reg [zM 12 7,zM 13 6,qL 14 13,zA 15 (.bin .lss (.t 12) (.t 14))] [1,2,4,5,6,7,15]) (.cond (.t 15) .skip (.exit 0))) (.seq (.block 1 (.seq (.reg [zM 18 6,zM 19 7,qD 20 7 18 19,qA 21 0 20,qF 22 1 21,zM 23 1,zA 24 (.bin .neq (.t 22) (.t 23))] [1,2,4,5,6,7,24]) (.cond (.t 24) (.reg [zM 25 5,zM 26 6,zM 27 7,qD 28 7 26 27,qT 29 7 28,zA 30 (.dJ 13 7 1 [.str [],.lit (.int .i64 0),.lit (.int .i64 0),.lit (.int .i64 0),.str [],.sl 1 [],.sl 5 []] [(0,.t 29)]),zA 31 (.append 14 7 104 (.t 25) (.t 30)),zM 5 31] [1,2,4,5,6,7]) .skip))) (.reg [zM 16 7,zA 17 (.bin .add (.t 16) (kI 1)),zM 7 17] [1,2,4,5,6,7])))))) (.seq (.reg [zM 32 5,qA 33 1 2,qF 34 1 33,zA 35 (.bin .add (.t 34) (kI 1)),zA 36 (.build [.cO 7,fD 0] [(0,1,.t 32),(1,1,.t 35)]),qS 2 4 36] [4]) .ret)))))
theorem K.jF:dR pZ 91 2 0 C.jF [.cell 4 true 2]=true:=by kernel_rfl
theorem K.Au:dR pZ 91 2 1 C.jF [.cell 4 true 2]=true:=by kernel_rfl
def C.oL:aT:=(.seq (.reg [qX 2 10 0,zA 4 (.alloc 11 [.cO 7,fD 0]),qB 5 false] [1,2,4]) (.seq (.seq (.reg [qT 6 2 2,q1 7 40 6,qO 8 7,zM 9 8,zG 9 false 10 (.load true 2 (.t 2)),zG 9 false 11 (.mv (.t 1)),⟨(some (9,false)),some 12,.call 86 [.t 10,.t 11]⟩,zG 9 false 13 (.bin .lss (.t 12) (kI 0)),qQ 14 9 13,zM 15 14,zG 15 false 16 (.eH 1 (.t 2)),zG 15 false 17 (.load false 1 (.t 16)),zG 15 false 18 (.bin .eql (.t 17) (kI 999)),qQ 19 15 18] [1,2,4,19]) (.cond (.t 19) (.seq (.reg [zA 20 (.build [.cO 7,fD 0] []),qS 2 4 20,qB 5 false] [4,5]) .ret) .skip)) (.seq (.reg [qT 21 2 2,zM 22 1,q2 23 91 21 22,qS 2 4 23,qB 5 true] [4,5]) .ret)))
theorem K.vX:dR pZ 111 2 1 C.oL [.cell 4 true 2,.tmp 5]=true:=by kernel_rfl
def C.gZ:aT:=(.seq (.reg [qX 3 10 0,qX 5 11 2,zA 6 (.alloc 12 [.cO 7,fD 0])] [1,3,5,6]) (.seq (.reg [zA 12 (.dJ 13 7 0 [.str [],.lit (.int .i64 0),.lit (.int .i64 0),.lit (.int .i64 0),.str [],.sl 1 [],.sl 5 []] []),zM 7 12] [1,3,5,6,7]) (.seq (.kN [(zM 13 1,[]),(qA 14 1 3,[]),(qF 15 1 14,[1]),(zA 16 (.bin .add (.t 15) (kI 1)),[1,2]),(qT 17 5 5,[]),(q1 18 89 17,[4]),(zA 19 (.build [.c (.str []),fD 0,fD 0,fD 0,.c (.str []),.cO 1,.cO 5] [(0,1,.t 13),(1,1,.t 16),(2,5,.t 18)]),[0,1,2,3,4,5]),(zA 8 (.alloc 14 [.c (.str []),fD 0,fD 0,fD 0,.c (.str []),.cO 1,.cO 5]),[]),(qS 7 8 19,[0,1,2,3,4,5,6,7])] [1,3,6,7,8]) (.seq (.reg [qT 20 2 3,q1 21 61 20,zA 22 (.field false 0 1 (.t 21)),zM 9 22] [1,3,6,7,8,9]) (.seq (.reg [qB 10 false] [1,3,6,7,8,9,10]) (.seq (.seq (.reg [qI 11 0] [1,3,6,7,8,9,10,11]) (.block 0 (.loop (.seq (.seq (.reg [zM 23 11,zM 24 9,qL 25 24,zA 26 (.bin .lss (.t 23) (.t 25))] [1,3,6,7,8,9,10,11,26]) (.cond (.t 26) .skip (.exit 0))) (.seq (.block 1 (.cut (.seq (.reg [zM 29 10,qO 30 29,zM 31 30,zG 31 true 32 (.mv (.t 9)),zG 31 true 33 (.mv (.t 11)),zG 31 true 34 (.oD 7 (.t 32) (.t 33)),zG 31 true 35 (.eH 0 (.t 34)),zG 31 true 36 (.load false 1 (.t 35)),zG 31 true 37 (.mv (.t 1)),zG 31 true 38 (.bin .geq (.t 36) (.t 37)),qP 39 31 38] [1,3,6,7,8,9,10,11,39]) (.cond (.t 39) (.seq (.reg [zM 40 7,qT 41 7 8,zA 42 (.dJ 15 7 1 [.str [],.lit (.int .i64 0),.lit (.int .i64 0),.lit (.int .i64 0),.str [],.sl 1 [],.sl 5 []] [(0,.t 41)]),zA 43 (.append 16 7 104 (.t 40) (.t 42)),zM 7 43] [1,3,6,7,8,9,11]) (.reg [qB 10 true] [1,3,6,7,8,9,10,11])) .skip)) (.seq (.reg [zM 44 9,zM 45 11,qD 46 7 44 45,qA 47 0 46,qF 48 1 47,zM 49 1,zA 50 (.bin .neq (.t 48) (.t 49))] [1,3,6,7,8,9,10,11,50]) (.cond (.t 50) (.reg [zM 51 7,zM 52 9,zM 53 11,qD 54 7 52 53,qT 55 7 54,zA 56 (.dJ 17 7 1 [.str [],.lit (.int .i64 0),.lit (.int .i64 0),.lit (.int .i64 0),.str [],.sl 1 [],.sl 5 []] [(0,.t 55)]),zA 57 (.append 18 7 104 (.t 51) (.t 56)),zM 7 57] [1,3,6,7,8,9,10,11]) .skip)))) (.reg [zM 27 11,zA 28 (.bin .add (.t 27) (kI 1)),zM 11 28] [1,3,6,7,8,9,10,11])))))) (.seq (.seq (.reg [zM 58 10,qO 59 58] [3,6,7,8,59]) (.cond (.t 59) (.reg [zM 60 7,qT 61 7 8,zA 62 (.dJ 19 7 1 [.str [],.lit (.int .i64 0),.lit (.int .i64 0),.lit (.int .i64 0),.str [],.sl 1 [],.sl 5 []] [(0,.t 61)]),zA 63 (.append 20 7 104 (.t 60) (.t 62)),zM 7 63] [3,6,7]) .skip)) (.seq (.reg [zM 64 7,qA 65 1 3,qF 66 1 65,zA 67 (.bin .add (.t 66) (kI 1)),zA 68 (.build [.cO 7,fD 0] [(0,1,.t 64),(1,1,.t 67)]),qS 2 6 68] [6]) .ret))))))))
theorem K.gZ:dR pZ 131 3 0 C.gZ [.cell 6 true 2]=true:=by kernel_rfl
theorem K.Dj:dR pZ 131 3 1 C.gZ [.cell 6 true 2]=true:=by kernel_rfl
def C.o9:aT:=(.seq (.reg [qX 3 10 0,qX 5 11 2,zA 6 (.alloc 12 [.cO 7,fD 0]),qB 7 false] [1,3,5,6]) (.seq (.seq (.reg [qT 9 2 3,q1 10 40 9,qO 11 10,zM 12 11,zG 12 false 13 (.mv (.t 1)),⟨(some (12,false)),some 14,.call 81 [.t 13]⟩,zG 12 false 15 (.not (.t 14)),qQ 16 12 15,zM 17 16,zG 17 false 18 (.load true 5 (.t 5)),⟨(some (17,false)),some 19,.call 82 [.t 18]⟩,zG 17 false 20 (.not (.t 19)),qQ 21 17 20] [1,3,5,6,21]) (.cond (.t 21) (.seq (.reg [zA 22 (.build [.cO 7,fD 0] []),qS 2 6 22,qB 7 false] [6,7]) .ret) .skip)) (.seq (.reg [qT 23 2 3,zM 24 1,qT 25 5 5,q3 26 131 23 24 25,zA 8 (.alloc 13 [.cO 7,fD 0]),qS 2 8 26] [6,8]) (.seq (.seq (.reg [qT 27 2 8,q1 28 40 27,qO 29 28] [6,8,29]) (.cond (.t 29) (.seq (.reg [zA 30 (.build [.cO 7,fD 0] []),qS 2 6 30,qB 7 false] [6,7]) .ret) .skip)) (.seq (.reg [qT 31 2 8,qS 2 6 31,qB 7 true] [6,7]) .ret)))))
theorem K.xw:dR pZ 108 3 1 C.o9 [.cell 6 true 2,.tmp 7]=true:=by kernel_rfl
def C.fC:aT:=(.seq (.reg [zA 2 (.alloc 10 [.cO 7,fD 0])] [0,2]) (.seq (.reg [zA 7 (.dJ 11 7 0 [.str [],.lit (.int .i64 0),.lit (.int .i64 0),.lit (.int .i64 0),.str [],.sl 1 [],.sl 5 []] []),zA 8 (.build [.cO 7,fD 0] [(0,1,.t 7)]),zA 3 (.alloc 12 [.cO 7,fD 0]),qS 2 3 8] [0,2,3]) (.seq (.seq (.reg [zM 9 0,zA 10 (.dJ 13 1 6 [.lit (.int .i64 0)] [(0,kI 3),(1,kI 4),(2,kI 2),(3,kI 5),(4,kI 0),(5,kI 12)]),q2 11 71 9 10,zM 4 11] [0,2,3,4]) (.block 0 (.loop (.seq (.seq (.reg [zM 12 4,zA 13 (.bin .gtr (.t 12) (kI 0))] [0,2,3,4,13]) (.cond (.t 13) .skip (.exit 0))) (.seq (.block 1 (.seq (.kN [(qT 17 2 3,[]),(zM 18 0,[]),(q1 19 109 18,[1]),(zM 20 0,[]),(q1 21 110 20,[1,2,3]),(q3 22 108 17 19 21,[0,1,2,3,4]),(zM 16 22,[0,1,2,3,4,5]),(qE 23 16 0,[0,1,2,3,4,5,6]),(qE 24 16 1,[0,1,2,3,4,5,6]),(zA 5 (.alloc 14 [.cO 7,fD 0]),[]),(qS 2 5 23,[0,1,2,3,4,5,6,7,9]),(zM 6 24,[0,1,2,3,4,5,6,7,8,9,10])] [0,2,3,4,5,6]) (.cut (.seq (.reg [zM 25 0,⟨none,some 26,.call 62 [.t 25,kI 8]⟩,zA 27 (.bin .eql (.t 26) (kI 0))] [0,2,3,4,5,6,27]) (.cond (.t 27) (.kN [(qT 29 2 3,[]),(zM 30 0,[]),(q1 31 109 30,[1]),(q2 32 111 29 31,[0,1,2]),(zM 28 32,[0,1,2,3]),(qE 33 28 0,[0,1,2,3,4]),(qE 34 28 1,[0,1,2,3,4]),(qS 2 5 33,[0,1,2,3,4,5]),(zM 6 34,[0,1,2,3,4,5,6,7])] [0,2,3,4,5,6]) .skip)) (.seq (.reg [zM 35 6] [0,2,3,4,5,35]) (.cond (.t 35) (.reg [qT 36 2 5,qS 2 3 36] [0,2,3,4]) .skip))))) (.reg [zM 14 4,zA 15 (.bin .sub (.t 14) (kI 1)),zM 4 15] [0,2,3,4])))))) (.seq (.reg [qT 37 2 3,qS 2 2 37] [2]) .ret))))
theorem K.fC:dR pZ 70 1 1 C.fC [.cell 2 true 2]=true:=by kernel_rfl
def C.mM:aT:=(.seq (.reg [zA 2 (.alloc 10 [.cO 7,fD 0])] [0,2]) (.seq (.reg [zM 4 0,q1 5 70 4,zA 3 (.alloc 11 [.cO 7,fD 0]),qS 2 3 5] [0,2,3]) (.seq (.seq (.reg [zM 6 0,⟨none,some 7,.call 62 [.t 6,kI 30]⟩] [0,2,3,7]) (.block 0 (.seq (.reg [zA 9 (.bin .eql (.t 7) (kI 0)),zM 8 9] [0,2,3,7,8]) (.cond (.t 8) (.reg [zM 10 0,zA 11 (.dJ 12 1 4 [.lit (.int .i64 0)] [(0,kI 0),(1,kI 999),(2,kI 1000),(3,kI (-1))]),q2 12 71 10 11,qA 13 1 3,qU 1 13 12] [2,3]) (.seq (.reg [zA 15 (.bin .eql (.t 7) (kI 1)),zM 14 15] [0,2,3,7,14]) (.cond (.t 14) (.kN [(qA 16 0 3,[]),(qF 17 1 16,[0]),(zM 18 0,[]),(q1 19 72 18,[2]),(zA 20 (.build [.c (.str []),fD 0,fD 0,fD 0,.c (.str []),.cO 1,.cO 5] [(0,1,.t 19),(1,1,kI 1)]),[2,3]),(zA 21 (.dJ 13 7 1 [.str [],.lit (.int .i64 0),.lit (.int .i64 0),.lit (.int .i64 0),.str [],.sl 1 [],.sl 5 []] [(0,.t 20)]),[2,3,4]),(zA 22 (.append 14 7 104 (.t 17) (.t 21)),[0,1,2,3,4,5]),(qA 23 0 3,[0,1,2,3,4,5,6]),(qU 1 23 22,[0,1,2,3,4,5,6,7])] [2,3]) (.seq (.reg [zA 25 (.bin .eql (.t 7) (kI 2)),zM 24 25] [0,2,3,7,24]) (.cond (.t 24) (.seq (.reg [qA 26 0 3,qF 27 1 26,qL 28 27,zA 29 (.bin .gtr (.t 28) (kI 0))] [0,2,3,29]) (.cond (.t 29) (.kN [(qA 30 0 3,[]),(qF 31 1 30,[0]),(zM 32 0,[]),(qA 33 1 3,[]),(qF 34 1 33,[3]),(zA 35 (.bin .add (.t 34) (kI 1)),[3,4]),(zA 36 (.dJ 15 1 3 [.lit (.int .i64 0)] [(0,kI 0),(1,.t 35),(2,kI 1)]),[3,4,5]),(q2 37 71 32 36,[2,3,4,5,6]),(zA 38 (.oD 7 (.t 31) (kI 0)),[0,1,2,3,4,5,6,7]),(qA 39 1 38,[0,1,2,3,4,5,6,7,8]),(qU 1 39 37,[0,1,2,3,4,5,6,7,8,9])] [2,3]) .skip)) (.seq (.reg [zA 41 (.bin .eql (.t 7) (kI 3)),zM 40 41] [0,2,3,40]) (.cond (.t 40) (.seq (.reg [qA 42 0 3,qF 43 1 42,qL 44 43,zA 45 (.bin .gtr (.t 44) (kI 0))] [0,2,3,45]) (.cond (.t 45) (.kN [(qA 46 0 3,[]),(qF 47 1 46,[0]),(zM 48 0,[]),(q1 49 73 48,[2]),(zA 50 (.oD 7 (.t 47) (kI 0)),[0,1,2,3]),(qA 51 2 50,[0,1,2,3,4]),(qS 5 51 49,[0,1,2,3,4,5])] [2,3]) .skip)) .skip)))))))))) (.seq (.reg [qT 52 2 3,qS 2 2 52] [2]) .ret))))
theorem K.mM:dR pZ 33 1 1 C.mM [.cell 2 true 2]=true:=by kernel_rfl
def C.kR:aT:=(.seq (.reg [zA 2 (.mv (.k (.c (.lit (.pointer none)))))] [0]) (.seq (.seq (.reg [zM 3 0,qL 4 3,zA 5 (.bin .gtr (.t 4) (kI 2000))] [0,5]) (.cond (.t 5) (.reg [zM 6 0,zA 7 (.uS 1 (.t 6) none (some (kI 2000))),zM 0 7] [0]) .skip)) (.seq (.reg [zM 8 0,zA 9 (.build [.cO 1,fD 0] [(0,1,.t 8)]),qX 10 10 9,zM 2 10] [2]) .ret)))
theorem K.kR:dR pZ 32 1 0 C.kR [.tmp 2]=true:=by kernel_rfl
def C.jh:aT:=(.seq (.reg [zA 2 (.alloc 10 [fD 0,.c (.str []),fD 0,fD 0,fD 0,.c (.str []),.cO 1,.cO 5])] [0,2]) (.seq (.reg [zM 3 0,zA 4 (.build [fD 0,.c (.str []),fD 0,fD 0,fD 0,.c (.str []),.cO 1,.cO 5] [(0,1,.t 3)]),qS 8 2 4] [2]) .ret))
theorem K.jh:dR pZ 42 1 0 C.jh [.cell 2 true 8]=true:=by kernel_rfl
def C.jM:aT:=(.seq (.reg [qB 4 false] [0,1]) (.seq (.seq (.reg [qI 5 0] [0,1,5]) (.block 0 (.loop (.seq (.seq (.reg [zM 6 5,zM 7 1,qL 8 7,zA 9 (.bin .lss (.t 6) (.t 8))] [0,1,5,9]) (.cond (.t 9) .skip (.exit 0))) (.seq (.block 1 (.seq (.kN [(zM 12 5,[]),(zM 13 0,[]),(qL 14 13,[1]),(zA 15 (.bin .geq (.t 12) (.t 14)),[0,1,2]),(zM 16 15,[0,1,2,3]),(zG 16 false 17 (.mv (.t 0)),[0,1,2,3,4]),(zG 16 false 18 (.mv (.t 5)),[0,1,2,3,4]),(zG 16 false 19 (.oD 1 (.t 17) (.t 18)),[0,1,2,3,4,5,6]),(zG 16 false 20 (.load false 1 (.t 19)),[0,1,2,3,4,5,6,7]),(zG 16 false 21 (.mv (.t 1)),[0,1,2,3,4]),(zG 16 false 22 (.mv (.t 5)),[0,1,2,3,4]),(zG 16 false 23 (.oD 1 (.t 21) (.t 22)),[0,1,2,3,4,9,10]),(zG 16 false 24 (.load false 1 (.t 23)),[0,1,2,3,4,9,10,11]),(zG 16 false 25 (.bin .neq (.t 20) (.t 24)),[0,1,2,3,4,5,6,7,8,9,10,11,12]),(qQ 26 16 25,[0,1,2,3,4,5,6,7,8,9,10,11,12,13])] [0,1,5,26]) (.cond (.t 26) (.seq (.reg [qB 4 false] [4]) .ret) .skip))) (.reg [zM 10 5,zA 11 (.bin .add (.t 10) (kI 1)),zM 5 11] [0,1,5])))))) (.seq (.reg [qB 4 true] [4]) .ret)))
theorem K.jM:dR pZ 217 2 0 C.jM [.tmp 4]=true:=by kernel_rfl
def C.jv:aT:=(.seq (.reg [qI 2 0] [0]) (.seq (.seq (.reg [zM 3 0] [3]) (.cond (.t 3) (.seq (.reg [qI 2 1] [2]) .ret) .skip)) (.seq (.reg [qI 2 0] [2]) .ret)))
theorem K.jv:dR pZ 242 1 0 C.jv [.tmp 2]=true:=by kernel_rfl
def C.lN:aT:=(.seq (.reg [qI 4 0] [0,1]) (.seq (.reg [zM 5 0,zM 6 1,zA 7 (.bin .gtr (.t 5) (.t 6)),q1 8 242 7,zM 9 0,zM 10 1,zA 11 (.bin .lss (.t 9) (.t 10)),q1 12 242 11,zA 13 (.bin .sub (.t 8) (.t 12)),zM 4 13] [4]) .ret))
theorem K.lN:dR pZ 235 2 0 C.lN [.tmp 4]=true:=by kernel_rfl
def C.kG:aT:=(.seq (.reg [qI 4 0] [0,1]) (.seq (.reg [zM 5 0,zM 6 1,zA 7 (.bin .gtr (.t 5) (.t 6)),q1 8 242 7,zM 9 0,zM 10 1,zA 11 (.bin .lss (.t 9) (.t 10)),q1 12 242 11,zA 13 (.bin .sub (.t 8) (.t 12)),zM 4 13] [4]) .ret))
theorem K.kG:dR pZ 236 2 0 C.kG [.tmp 4]=true:=by kernel_rfl
def C.dU:aT:=(.seq (.reg [qX 2 10 0,qX 3 11 1,qI 4 0] [2,3]) (.seq (.seq (.reg [qA 7 0 2,qF 8 1 7,qA 9 0 3,qF 10 1 9,zA 11 (.bin .neq (.t 8) (.t 10))] [2,3,11]) (.cond (.t 11) (.seq (.reg [qA 12 0 2,qF 13 1 12,qA 14 0 3,qF 15 1 14,q2 16 235 13 15,zM 4 16] [4]) .ret) .skip)) (.seq (.seq (.reg [qA 17 1 2,qF 18 1 17,qA 19 1 3,qF 20 1 19,zA 21 (.bin .neq (.t 18) (.t 20))] [2,3,21]) (.cond (.t 21) (.seq (.reg [qA 22 1 2,qF 23 1 22,qA 24 1 3,qF 25 1 24,q2 26 235 23 25,zM 4 26] [4]) .ret) .skip)) (.seq (.seq (.reg [qA 27 2 2,qF 28 1 27,qA 29 2 3,qF 30 1 29,zA 31 (.bin .neq (.t 28) (.t 30))] [2,3,31]) (.cond (.t 31) (.seq (.reg [qA 32 2 2,qF 33 1 32,qA 34 2 3,qF 35 1 34,q2 36 236 33 35,zM 4 36] [4]) .ret) .skip)) (.seq (.seq (.reg [qI 5 0] [2,3,5]) (.block 0 (.loop (.seq (.seq (.reg [zM 37 5,qA 38 4 2,qF 39 1 38,qL 40 39,zA 41 (.bin .lss (.t 37) (.t 40)),zM 42 41,zG 42 true 43 (.mv (.t 5)),zG 42 true 44 (.eH 4 (.t 3)),zG 42 true 45 (.load false 1 (.t 44)),zG 42 true 46 (.len (.t 45)),zG 42 true 47 (.bin .lss (.t 43) (.t 46)),qP 48 42 47] [2,3,5,48]) (.cond (.t 48) .skip (.exit 0))) (.seq (.block 1 (.seq (.seq (.kN [(qA 51 0 2,[]),(qF 52 1 51,[0]),(zA 53 (.bin .eql (.t 52) (kI 4)),[0,1]),(zM 54 53,[0,1,2]),(zG 54 true 55 (.eH 3 (.t 2)),[0,1,2,3]),(zG 54 true 56 (.load false 1 (.t 55)),[0,1,2,3,4]),(zG 54 true 57 (.mv (.t 5)),[0,1,2,3]),(zG 54 true 58 (.oD 1 (.t 56) (.t 57)),[0,1,2,3,4,5,6]),(zG 54 true 59 (.load false 1 (.t 58)),[0,1,2,3,4,5,6,7]),(zG 54 true 60 (.eH 3 (.t 3)),[0,1,2,3]),(zG 54 true 61 (.load false 1 (.t 60)),[0,1,2,3,9]),(zG 54 true 62 (.mv (.t 5)),[0,1,2,3]),(zG 54 true 63 (.oD 1 (.t 61) (.t 62)),[0,1,2,3,9,10,11]),(zG 54 true 64 (.load false 1 (.t 63)),[0,1,2,3,9,10,11,12]),(zG 54 true 65 (.bin .neq (.t 59) (.t 64)),[0,1,2,3,4,5,6,7,8,9,10,11,12,13]),(qP 66 54 65,[0,1,2,3,4,5,6,7,8,9,10,11,12,13,14])] [2,3,5,66]) (.cond (.t 66) (.seq (.kN [(qA 67 3 2,[]),(qF 68 1 67,[0]),(zM 69 5,[]),(qD 70 1 68 69,[0,1,2]),(qF 71 1 70,[0,1,2,3]),(qA 72 3 3,[]),(qF 73 1 72,[5]),(zM 74 5,[]),(qD 75 1 73 74,[5,6,7]),(qF 76 1 75,[5,6,7,8]),(q2 77 236 71 76,[0,1,2,3,4,5,6,7,8,9]),(zM 4 77,[0,1,2,3,4,5,6,7,8,9,10])] [4]) .ret) .skip)) (.seq (.kN [(qA 78 4 2,[]),(qF 79 1 78,[0]),(zM 80 5,[]),(qD 81 5 79 80,[0,1,2]),(qT 82 5 81,[0,1,2,3]),(qA 83 4 3,[]),(qF 84 1 83,[5]),(zM 85 5,[]),(qD 86 5 84 85,[5,6,7]),(qT 87 5 86,[5,6,7,8]),(q2 88 226 82 87,[0,1,2,3,4,5,6,7,8,9]),(zM 6 88,[0,1,2,3,4,5,6,7,8,9,10])] [2,3,5,6]) (.seq (.reg [zM 89 6,zA 90 (.bin .neq (.t 89) (kI 0))] [2,3,5,6,90]) (.cond (.t 90) (.seq (.reg [zM 91 6,zM 4 91] [4]) .ret) .skip))))) (.reg [zM 49 5,zA 50 (.bin .add (.t 49) (kI 1)),zM 5 50] [2,3,5])))))) (.seq (.reg [qA 92 4 2,qF 93 1 92,qL 94 93,qA 95 4 3,qF 96 1 95,qL 97 96,q2 98 235 94 97,zM 4 98] [4]) .ret))))))
theorem K.dU:dR pZ 226 2 0 C.dU [.tmp 4]=true:=by kernel_rfl
def C.pJ:aT:=(.seq (.reg [qX 2 10 0,qX 3 11 1,qB 4 false] [2,3]) (.seq (.reg [qT 5 5 2,qT 6 5 3,q2 7 226 5 6,zA 8 (.bin .eql (.t 7) (kI 0)),zM 4 8] [4]) .ret))
theorem K.pJ:dR pZ 216 2 0 C.pJ [.tmp 4]=true:=by kernel_rfl
def C.iY:aT:=(.seq (.reg [qX 2 10 0,qX 3 11 1,qZ 4 12,qB 5 false] [2,3,4]) (.seq (.seq (.reg [qA 11 0 3,qF 12 1 11] [2,3,4,12]) (.block 0 (.seq (.reg [zA 14 (.bin .eql (.t 12) (kI 1)),zM 13 14] [2,3,4,12,13]) (.cond (.t 13) (.seq (.reg [qT 15 5 2,qA 16 1 3,qF 17 1 16,qA 18 3 3,qT 19 5 18,q3 20 168 15 17 19,qE 21 20 0,qE 22 20 1,qS 5 4 21,zM 5 22] [4,5]) .ret) (.seq (.reg [zA 24 (.bin .eql (.t 12) (kI 2)),zM 23 24] [2,3,4,12,23]) (.cond (.t 23) (.seq (.reg [qT 25 5 2,qA 26 1 3,qF 27 1 26,q2 28 167 25 27,qE 29 28 0,qE 30 28 1,qS 5 4 29,zM 5 30] [4,5]) .ret) (.seq (.reg [zA 32 (.bin .eql (.t 12) (kI 3)),zM 31 32] [2,3,4,31]) (.cond (.t 31) (.seq (.reg [qT 33 5 2,qA 34 1 3,qF 35 1 34,qA 36 3 3,qT 37 5 36,q3 38 169 33 35 37,qE 39 38 0,qE 40 38 1,qS 5 4 39,zM 5 40] [4,5]) .ret) .skip)))))))) (.seq (.reg [qA 41 2 3,qF 42 1 41,zM 6 42] [2,3,4,6]) (.cut (.seq (.reg [qA 43 0 3,qF 44 1 43,zA 45 (.bin .eql (.t 44) (kI 6))] [2,3,4,6,45]) (.cond (.t 45) (.reg [qA 46 1 3,qF 47 1 46,zM 6 47] [2,3,4,6]) .skip)) (.seq (.reg [qT 49 5 2,zM 50 6,q2 51 171 49 50,zM 48 51,qE 52 48 0,qE 53 48 1,qZ 7 13,qS 5 7 52,zM 8 53] [2,3,4,7,8]) (.seq (.seq (.reg [zM 54 8,qO 55 54] [2,3,4,7,55]) (.cond (.t 55) (.seq (.reg [zA 56 (.build zN []),qS 5 4 56,qB 5 false] [4,5]) .ret) .skip)) (.seq (.seq (.reg [qA 57 0 3,qF 58 1 57] [2,3,4,7,58]) (.block 1 (.seq (.reg [zA 60 (.bin .eql (.t 58) (kI 6)),zM 59 60] [2,3,4,7,58,59]) (.cond (.t 59) (.seq (.kN [(qT 61 5 2,[]),(qT 62 5 7,[]),(qA 63 3 3,[]),(qT 64 5 63,[2]),(q2 65 216 62 64,[1,2,3]),(qS 5 4 61,[0,1,2,3,4]),(zM 5 65,[0,1,2,3,4,5])] [4,5]) .ret) (.seq (.reg [zA 67 (.bin .eql (.t 58) (kI 5)),zM 66 67] [2,3,4,7,66]) (.cond (.t 66) (.seq (.reg [qT 68 5 2,qA 69 1 3,qF 70 1 69,qT 71 5 7,q3 72 168 68 70 71,qE 73 72 0,qE 74 72 1,qS 5 4 73,zM 5 74] [4,5]) .ret) .skip)))))) (.seq (.seq (.reg [qA 75 1 3,qF 76 1 75,qA 77 2 3,qF 78 1 77,q2 79 217 76 78] [2,3,4,7,79]) (.cond (.t 79) (.seq (.kN [(qT 80 5 2,[]),(q1 81 89 80,[0]),(qA 82 1 3,[]),(qF 83 1 82,[2]),(qL 84 83,[2,3]),(qA 85 2 3,[]),(qF 86 1 85,[5]),(qL 87 86,[5,6]),(zA 88 (.bin .eql (.t 84) (.t 87)),[2,3,4,5,6,7]),(qS 5 4 81,[0,1]),(zM 5 88,[0,1,2,3,4,5,6,7,8,9])] [4,5]) .ret) .skip)) (.seq (.reg [qT 90 5 2,qA 91 2 3,qF 92 1 91,q2 93 167 90 92,zM 89 93,qE 94 89 0,qE 95 89 1,qZ 9 14,qS 5 9 94,zM 10 95] [3,4,7,9,10]) (.seq (.seq (.reg [zM 96 10,qO 97 96] [3,4,7,9,97]) (.cond (.t 97) (.seq (.reg [zA 98 (.build zN []),qS 5 4 98,qB 5 false] [4,5]) .ret) .skip)) (.seq (.reg [qT 99 5 9,qA 100 1 3,qF 101 1 100,qT 102 5 7,q3 103 168 99 101 102,qE 104 103 0,qE 105 103 1,qS 5 4 104,zM 5 105] [4,5]) .ret)))))))))))
theorem K.iY:dR pZ 181 2 0 C.iY [.cell 4 true 5,.tmp 5]=true:=by kernel_rfl
def C.kV:aT:=(.seq (.reg [qX 2 10 0,qZ 4 11,qB 5 false] [1,2,4]) (.seq (.seq (.reg [zM 6 1,qO 7 6,zM 8 7,zG 8 false 9 (.load true 5 (.t 2)),⟨(some (8,false)),some 10,.call 82 [.t 9]⟩,zG 8 false 11 (.not (.t 10)),qQ 12 8 11] [2,4,12]) (.cond (.t 12) (.seq (.reg [zA 13 (.build zN []),qS 5 4 13,qB 5 false] [4,5]) .ret) .skip)) (.seq (.reg [qT 14 5 2,qS 5 4 14,qB 5 true] [4,5]) .ret)))
theorem K.kV:dR pZ 133 2 0 C.kV [.cell 4 true 5,.tmp 5]=true:=by kernel_rfl
def C.lH:aT:=(.seq (.reg [qX 2 10 0,qX 3 11 1,qZ 4 12,qB 5 false] [2,3,4]) (.seq (.reg [qT 9 5 2,qT 10 8 3,q2 11 181 9 10,qE 12 11 0,qE 13 11 1,q2 14 133 12 13,zM 8 14,qE 15 8 0,qE 16 8 1,qZ 6 13,qS 5 6 15,zM 7 16] [4,6,7]) (.seq (.seq (.reg [zM 17 7,qO 18 17] [4,6,18]) (.cond (.t 18) (.seq (.reg [zA 19 (.build zN []),qS 5 4 19,qB 5 false] [4,5]) .ret) .skip)) (.seq (.reg [qT 20 5 6,q1 21 89 20,qS 5 4 21,qB 5 true] [4,5]) .ret))))
theorem K.lH:dR pZ 132 2 0 C.lH [.cell 4 true 5,.tmp 5]=true:=by kernel_rfl
def C.gW:aT:=(.seq (.reg [qB 2 false] [0]) (.seq (.seq (.reg [qI 3 0] [0,3]) (.block 0 (.loop (.seq (.seq (.reg [zM 4 3,zM 5 0,qL 6 5,zA 7 (.bin .lss (.t 4) (.t 6))] [0,3,7]) (.cond (.t 7) .skip (.exit 0))) (.seq (.block 1 (.seq (.reg [zM 10 0,zM 11 3,qD 12 1 10 11,qF 13 1 12,q1 14 175 13,qO 15 14] [0,3,15]) (.cond (.t 15) (.seq (.reg [qB 2 false] [2]) .ret) .skip))) (.reg [zM 8 3,zA 9 (.bin .add (.t 8) (kI 1)),zM 3 9] [0,3])))))) (.seq (.reg [zM 16 0,qL 17 16,zA 18 (.bin .leq (.t 17) (kI 5)),zM 2 18] [2]) .ret)))
theorem K.gW:dR pZ 178 1 0 C.gW [.tmp 2]=true:=by kernel_rfl
def C.nM:aT:=(.seq (.reg [qX 1 10 0,qB 2 false] [1]) (.seq (.reg [qA 3 0 1,qF 4 1 3,⟨none,some 5,.call 83 [.t 4,kI 1,kI 6]⟩,zM 6 5,zG 6 true 7 (.eH 1 (.t 1)),zG 6 true 8 (.load false 1 (.t 7)),⟨(some (6,true)),some 9,.call 178 [.t 8]⟩,qP 10 6 9,zM 11 10,zG 11 true 12 (.eH 2 (.t 1)),zG 11 true 13 (.load false 1 (.t 12)),⟨(some (11,true)),some 14,.call 178 [.t 13]⟩,qP 15 11 14,zM 16 15,zG 16 true 17 (.eH 3 (.t 1)),zG 16 true 18 (.load true 5 (.t 17)),⟨(some (16,true)),some 19,.call 82 [.t 18]⟩,qP 20 16 19,zM 2 20] [2]) .ret))
theorem K.nM:dR pZ 126 1 0 C.nM [.tmp 2]=true:=by kernel_rfl
def C.fA:aT:=(.seq (.reg [qB 2 false] [0]) (.seq (.seq (.reg [qI 3 0] [0,3]) (.block 0 (.loop (.seq (.seq (.reg [zM 4 3,zM 5 0,qL 6 5,zA 7 (.bin .lss (.t 4) (.t 6))] [0,3,7]) (.cond (.t 7) .skip (.exit 0))) (.seq (.block 1 (.seq (.reg [zM 10 0,zM 11 3,qD 12 8 10 11,qT 13 8 12,q1 14 126 13,qO 15 14] [0,3,15]) (.cond (.t 15) (.seq (.reg [qB 2 false] [2]) .ret) .skip))) (.reg [zM 8 3,zA 9 (.bin .add (.t 8) (kI 1)),zM 3 9] [0,3])))))) (.seq (.reg [zM 16 0,qL 17 16,zA 18 (.bin .leq (.t 17) (kI 12)),zM 2 18] [2]) .ret)))
theorem K.fA:dR pZ 85 1 0 C.fA [.tmp 2]=true:=by kernel_rfl
def C.fZ:aT:=(.seq (.reg [qX 2 10 0,qZ 4 11,qB 5 false] [1,2,4]) (.seq (.seq (.reg [qT 10 5 2,q1 11 82 10,qO 12 11,zM 13 12,zG 13 false 14 (.mv (.t 1)),⟨(some (13,false)),some 15,.call 85 [.t 14]⟩,zG 13 false 16 (.not (.t 15)),qQ 17 13 16] [1,2,4,17]) (.cond (.t 17) (.seq (.reg [zA 18 (.build zN []),qS 5 4 18,qB 5 false] [4,5]) .ret) .skip)) (.seq (.reg [qT 19 5 2,q1 20 89 19,qZ 6 12,qS 5 6 20] [1,4,6]) (.seq (.seq (.reg [qI 7 0] [1,4,6,7]) (.block 0 (.loop (.seq (.seq (.reg [zM 21 7,zM 22 1,qL 23 22,zA 24 (.bin .lss (.t 21) (.t 23))] [1,4,6,7,24]) (.cond (.t 24) .skip (.exit 0))) (.seq (.block 1 (.seq (.kN [(qT 28 5 6,[]),(zM 29 1,[]),(zM 30 7,[]),(qD 31 8 29 30,[1,2]),(qT 32 8 31,[1,2,3]),(q2 33 132 28 32,[0,1,2,3,4]),(zM 27 33,[0,1,2,3,4,5]),(qE 34 27 0,[0,1,2,3,4,5,6]),(qE 35 27 1,[0,1,2,3,4,5,6]),(qZ 8 13,[]),(qS 5 8 34,[0,1,2,3,4,5,6,7,9]),(zM 9 35,[0,1,2,3,4,5,6,7,8,9,10])] [1,4,6,7,8,9]) (.seq (.seq (.reg [zM 36 9,qO 37 36] [1,4,6,7,8,37]) (.cond (.t 37) (.seq (.reg [zA 38 (.build zN []),qS 5 4 38,qB 5 false] [4,5]) .ret) .skip)) (.reg [qT 39 5 8,qS 5 6 39] [1,4,6,7])))) (.reg [zM 25 7,zA 26 (.bin .add (.t 25) (kI 1)),zM 7 26] [1,4,6,7])))))) (.seq (.reg [qT 40 5 6,qS 5 4 40,qB 5 true] [4,5]) .ret)))))
theorem K.fZ:dR pZ 92 2 0 C.fZ [.cell 4 true 5,.tmp 5]=true:=by kernel_rfl
def C.gy:aT:=(.seq (.reg [qX 2 10 0,qX 3 11 1,qZ 4 12] [2,3,4]) (.seq (.seq (.reg [qA 9 0 3,qF 10 1 9,zA 11 (.bin .neq (.t 10) (kI 4))] [2,3,4,11]) (.cond (.t 11) (.seq (.reg [qT 12 5 3,q1 13 89 12,qS 5 4 13] [4]) .ret) .skip)) (.seq (.reg [zA 14 (.dJ 13 1 0 [.str []] []),zA 15 (.dJ 14 5 0 [.lit (.int .i64 0),.lit (.int .i64 0),.str [],.sl 1 [],.sl 5 []] []),zA 16 (.build zN [(0,1,kI 4),(3,1,.t 14),(4,1,.t 15)]),qZ 5 15,qS 5 5 16] [2,3,4,5]) (.cut (.seq (.reg [qA 17 0 2,qF 18 1 17,zA 19 (.bin .eql (.t 18) (kI 4))] [2,3,4,5,19]) (.cond (.t 19) (.reg [qT 20 5 2,q1 21 89 20,qS 5 5 21] [3,4,5]) .skip)) (.seq (.seq (.reg [qI 6 0] [3,4,5,6]) (.block 0 (.loop (.seq (.seq (.reg [zM 22 6,qA 23 4 3,qF 24 1 23,qL 25 24,zA 26 (.bin .lss (.t 22) (.t 25))] [3,4,5,6,26]) (.cond (.t 26) .skip (.exit 0))) (.seq (.block 1 (.seq (.reg [qA 29 3 3,qF 30 1 29,zM 31 6,qD 32 1 30 31,qF 33 1 32,zM 7 33] [3,4,5,6,7]) (.seq (.reg [qT 34 5 5,zM 35 7,q2 36 182 34 35,zM 8 36] [3,4,5,6,7,8]) (.block 2 (.seq (.reg [qA 38 4 3,qF 39 1 38,zM 40 6,qD 41 5 39 40,qA 42 0 41,qF 43 1 42,zA 44 (.bin .eql (.t 43) (kI 0)),zM 45 44,zG 45 true 46 (.mv (.t 8)),zG 45 true 47 (.bin .geq (.t 46) (kI 0)),qP 48 45 47,zM 37 48] [3,4,5,6,7,8,37]) (.cond (.t 37) (.reg [qT 50 5 5,zM 51 7,zA 52 (.dJ 16 1 1 [.str []] [(0,.t 51)]),q2 53 167 50 52,zM 49 53,qE 54 49 0,qE 55 49 1,qS 5 5 54] [3,4,5,6]) (.seq (.reg [qA 57 4 3,qF 58 1 57,zM 59 6,qD 60 5 58 59,qA 61 0 60,qF 62 1 61,zA 63 (.bin .neq (.t 62) (kI 0)),zM 64 63,zG 64 true 65 (.mv (.t 8)),zG 64 true 66 (.bin .geq (.t 65) (kI 0)),qP 67 64 66,zM 56 67] [3,4,5,6,7,8,56]) (.cond (.t 56) (.kN [(qT 68 5 5,[]),(zM 69 8,[]),(qA 70 4 5,[]),(qF 71 1 70,[2]),(zM 72 8,[]),(qD 73 5 71 72,[2,3,4]),(qT 74 5 73,[2,3,4,5]),(qA 75 4 3,[]),(qF 76 1 75,[7]),(zM 77 6,[]),(qD 78 5 76 77,[7,8,9]),(qT 79 5 78,[7,8,9,10]),(q2 80 134 74 79,[2,3,4,5,6,7,8,9,10,11]),(q3 81 183 68 69 80,[0,1,2,3,4,5,6,7,8,9,10,11,12]),(qS 5 5 81,[0,1,2,3,4,5,6,7,8,9,10,11,12,13])] [3,4,5,6]) (.seq (.reg [qA 83 4 3,qF 84 1 83,zM 85 6,qD 86 5 84 85,qA 87 0 86,qF 88 1 87,zA 89 (.bin .neq (.t 88) (kI 0)),zM 82 89] [3,4,5,6,7,82]) (.cond (.t 82) (.kN [(qT 91 5 5,[]),(zM 92 7,[]),(zA 93 (.build zN []),[]),(qA 94 4 3,[]),(qF 95 1 94,[3]),(zM 96 6,[]),(qD 97 5 95 96,[3,4,5]),(qT 98 5 97,[3,4,5,6]),(q2 99 134 93 98,[2,3,4,5,6,7]),(q3 100 184 91 92 99,[0,1,2,3,4,5,6,7,8]),(zM 90 100,[0,1,2,3,4,5,6,7,8,9]),(qE 101 90 0,[0,1,2,3,4,5,6,7,8,9,10]),(qE 102 90 1,[0,1,2,3,4,5,6,7,8,9,10]),(qS 5 5 101,[0,1,2,3,4,5,6,7,8,9,10,11])] [3,4,5,6]) .skip)))))))))) (.reg [zM 27 6,zA 28 (.bin .add (.t 27) (kI 1)),zM 6 28] [3,4,5,6])))))) (.seq (.reg [qT 103 5 5,qS 5 4 103] [4]) .ret))))))
theorem K.gy:dR pZ 134 2 0 C.gy [.cell 4 true 5]=true:=by kernel_rfl
def C.lG:aT:=(.seq (.reg [qX 2 10 0,qX 3 11 1,qZ 4 12,qB 5 false] [2,3,4]) (.seq (.seq (.reg [qT 6 5 2,q1 7 82 6,qO 8 7,zM 9 8,zG 9 false 10 (.load true 5 (.t 3)),⟨(some (9,false)),some 11,.call 82 [.t 10]⟩,zG 9 false 12 (.not (.t 11)),qQ 13 9 12] [2,3,4,13]) (.cond (.t 13) (.seq (.reg [zA 14 (.build zN []),qS 5 4 14,qB 5 false] [4,5]) .ret) .skip)) (.seq (.reg [qT 15 5 2,qT 16 5 3,q2 17 134 15 16,⟨none,some 18,.call 133 [.t 17,.k (.c (.lit (.bool true)))]⟩,qE 19 18 0,qE 20 18 1,qS 5 4 19,zM 5 20] [4,5]) .ret)))
theorem K.lG:dR pZ 93 2 0 C.lG [.cell 4 true 5,.tmp 5]=true:=by kernel_rfl
def C.jG:aT:=(.seq (.reg [qB 4 false] [0,1]) (.seq (.seq (.reg [qI 5 0] [0,1,5]) (.block 0 (.loop (.seq (.seq (.reg [zM 6 5,zM 7 0,qL 8 7,zA 9 (.bin .lss (.t 6) (.t 8))] [0,1,5,9]) (.cond (.t 9) .skip (.exit 0))) (.seq (.block 1 (.seq (.reg [zM 12 0,zM 13 5,qD 14 1 12 13,qF 15 1 14,zM 16 1,zA 17 (.bin .eql (.t 15) (.t 16)),zM 18 17,zG 18 false 19 (.mv (.t 0)),zG 18 false 20 (.mv (.t 5)),zG 18 false 21 (.oD 1 (.t 19) (.t 20)),zG 18 false 22 (.load false 1 (.t 21)),zG 18 false 23 (.bin .eql (.t 22) (.k (.c (.str [42])))),qQ 24 18 23] [0,1,5,24]) (.cond (.t 24) (.seq (.reg [qB 4 true] [4]) .ret) .skip))) (.reg [zM 10 5,zA 11 (.bin .add (.t 10) (kI 1)),zM 5 11] [0,1,5])))))) (.seq (.reg [qB 4 false] [4]) .ret)))
theorem K.jG:dR pZ 127 2 0 C.jG [.tmp 4]=true:=by kernel_rfl
def C.nZ:aT:=(.seq (.reg [qI 8 0] [0,1,2,3]) (.seq (.seq (.reg [zM 9 0,qL 10 9,zA 11 (.bin .gtr (.t 10) (kI 0)),zM 12 11,zG 12 true 13 (.mv (.t 2)),zG 12 true 14 (.bin .eql (.t 13) (.k (.c (.str [])))),zG 12 true 15 (.mv (.t 14)),zG 15 false 16 (.mv (.t 0)),zG 15 false 17 (.mv (.t 2)),⟨(some (15,false)),some 18,.call 127 [.t 16,.t 17]⟩,zG 15 false 19 (.not (.t 18)),zG 12 true 20 (.pick (.t 15) (kB true) (.t 19)),qP 21 12 20] [1,2,3,21]) (.cond (.t 21) (.seq (.reg [qI 8 412] [8]) .ret) .skip)) (.seq (.seq (.reg [zM 22 1,qL 23 22,zA 24 (.bin .gtr (.t 23) (kI 0)),zM 25 24,zG 25 true 26 (.mv (.t 2)),zG 25 true 27 (.bin .neq (.t 26) (.k (.c (.str [])))),qP 28 25 27,zM 29 28,zG 29 true 30 (.mv (.t 1)),zG 29 true 31 (.mv (.t 2)),⟨(some (29,true)),some 32,.call 127 [.t 30,.t 31]⟩,qP 33 29 32] [3,33]) (.cond (.t 33) (.seq (.seq (.reg [zM 34 3] [34]) (.cond (.t 34) (.seq (.reg [qI 8 304] [8]) .ret) .skip)) (.seq (.reg [qI 8 412] [8]) .ret)) .skip)) (.seq (.reg [qI 8 200] [8]) .ret))))
theorem K.nZ:dR pZ 87 4 0 C.nZ [.tmp 8]=true:=by kernel_rfl
def C.mg:aT:=(.seq (.reg [qX 2 10 0,zA 4 (.mv (.k (.c (.str []))))] [1,2]) (.seq (.reg [qT 6 2 2,zM 7 1,q2 8 86 6 7,zM 5 8] [2,5]) (.seq (.seq (.reg [zM 9 5,zA 10 (.bin .lss (.t 9) (kI 0))] [2,5,10]) (.cond (.t 10) (.seq (.reg [zA 4 (.mv (.k (.c (.str []))))] [4]) .ret) .skip)) (.seq (.reg [qA 11 0 2,qF 12 1 11,zM 13 5,qD 14 7 12 13,qA 15 2 14,qT 16 5 15,q1 17 130 16,q1 18 129 17,q1 19 128 18,zM 4 19] [4]) .ret))))
theorem K.mg:dR pZ 88 2 0 C.mg [.tmp 4]=true:=by kernel_rfl
def C.jo:aT:=(.seq (.reg [qX 3 10 0,qX 5 11 2,zA 6 (.alloc 12 [.cO 7,fD 0]),zA 7 (.alloc 13 [fD 0,.c (.str []),fD 0,fD 0,fD 0,.c (.str []),.cO 1,.cO 5])] [1,3,5,6,7]) (.seq (.reg [qI 8 200] [1,3,5,6,7,8]) (.cut (.seq (.reg [qT 10 2 3,zM 11 1,q2 12 86 10 11,zA 13 (.bin .lss (.t 12) (kI 0))] [1,3,5,6,7,8,13]) (.cond (.t 13) (.reg [qI 8 201] [1,3,5,6,7,8]) .skip)) (.seq (.reg [qT 14 2 3,zM 15 1,qT 16 5 5,q3 17 131 14 15 16,zA 9 (.alloc 14 [.cO 7,fD 0]),qS 2 9 17] [1,3,6,7,8,9]) (.seq (.seq (.reg [qT 18 2 9,q1 19 40 18,qO 20 19] [1,3,6,7,8,9,20]) (.cond (.t 20) (.seq (.reg [qT 21 2 3,q1 22 61 21,⟨none,some 23,.call 42 [kI 422]⟩,qS 2 6 22,qS 8 7 23] [6,7]) .ret) .skip)) (.seq (.kN [(qT 24 2 9,[]),(zM 25 8,[]),(qT 26 2 9,[]),(zM 27 1,[]),(q2 28 88 26 27,[2,3]),(qA 29 1 9,[]),(qF 30 1 29,[5]),(zA 31 (.build [fD 0,.c (.str []),fD 0,fD 0,fD 0,.c (.str []),.cO 1,.cO 5] [(0,1,.t 25),(1,1,.t 28),(2,1,.t 30)]),[1,2,3,4,5,6]),(qS 2 6 24,[0,2,3,4]),(qS 8 7 31,[0,1,2,3,4,5,6,7,8])] [6,7]) .ret))))))
theorem K.jo:dR pZ 90 3 0 C.jo [.cell 6 true 2,.cell 7 true 8]=true:=by kernel_rfl
def C.eu:aT:=(.seq (.reg [qX 2 10 0,qX 3 11 1,zA 4 (.alloc 12 [.cO 7,fD 0]),zA 5 (.alloc 13 [fD 0,.c (.str []),fD 0,fD 0,fD 0,.c (.str []),.cO 1,.cO 5])] [2,3,4,5]) (.seq (.reg [qT 10 2 2,qA 11 1 3,qF 12 1 11,q2 13 86 10 12,zM 6 13] [2,3,4,5,6]) (.seq (.seq (.reg [zM 14 6,zA 15 (.bin .lss (.t 14) (kI 0)),zM 16 15,zG 16 true 17 (.eH 0 (.t 3)),zG 16 true 18 (.load false 1 (.t 17)),zG 16 true 19 (.bin .neq (.t 18) (kI 2)),qP 20 16 19] [2,3,4,5,6,20]) (.cond (.t 20) (.seq (.reg [qT 21 2 2,q1 22 61 21,⟨none,some 23,.call 42 [kI 404]⟩,qS 2 4 22,qS 8 5 23] [4,5]) .ret) .skip)) (.seq (.kN [(qA 24 2 3,[]),(qF 25 1 24,[0]),(qA 26 3 3,[]),(qF 27 1 26,[2]),(qT 28 2 2,[]),(qA 29 1 3,[]),(qF 30 1 29,[5]),(q2 31 88 28 30,[4,5,6]),(qA 32 0 3,[]),(qF 33 1 32,[8]),(zA 34 (.bin .eql (.t 33) (kI 1)),[8,9]),(⟨none,some 35,.call 87 [.t 25,.t 27,.t 31,.t 34]⟩,[0,1,2,3,4,5,6,7,8,9,10]),(zM 7 35,[0,1,2,3,4,5,6,7,8,9,10,11])] [2,3,4,5,6,7]) (.seq (.seq (.reg [zM 36 7,zA 37 (.bin .neq (.t 36) (kI 200))] [2,3,4,5,6,7,37]) (.cond (.t 37) (.seq (.reg [qT 38 2 2,q1 39 61 38,zM 40 7,q1 41 42 40,qS 2 4 39,qS 8 5 41] [4,5]) .ret) .skip)) (.seq (.seq (.reg [qA 42 0 3,qF 43 1 42] [2,3,4,5,6,7,43]) (.block 0 (.seq (.reg [zA 45 (.bin .eql (.t 43) (kI 1)),zM 44 45] [2,3,4,5,6,7,43,44]) (.cond (.t 44) (.seq (.kN [(qT 46 2 2,[]),(q1 47 61 46,[0]),(zM 48 7,[]),(qT 49 2 2,[]),(qA 50 1 3,[]),(qF 51 1 50,[4]),(q2 52 88 49 51,[0,1,3,4,5]),(qA 53 0 2,[]),(qF 54 1 53,[7]),(zM 55 6,[]),(qD 56 7 54 55,[7,8,9]),(qA 57 1 56,[7,8,9,10]),(qF 58 1 57,[7,8,9,10,11]),(qA 59 0 2,[]),(qF 60 1 59,[13]),(zM 61 6,[]),(qD 62 7 60 61,[13,14,15]),(qA 63 2 62,[13,14,15,16]),(qT 64 5 63,[13,14,15,16,17]),(q1 65 89 64,[0,1,3,4,5,6,13,14,15,16,17,18]),(zA 66 (.build [fD 0,.c (.str []),fD 0,fD 0,fD 0,.c (.str []),.cO 1,.cO 5] [(0,1,.t 48),(1,1,.t 52),(2,1,.t 58),(3,5,.t 65)]),[0,1,2,3,4,5,6,7,8,9,10,11,12,13,14,15,16,17,18,19]),(qS 2 4 47,[0,1,3,4,5,6,13,14,15,16,17,18,19]),(qS 8 5 66,[0,1,2,3,4,5,6,7,8,9,10,11,12,13,14,15,16,17,18,19,20,21])] [4,5]) .ret) (.seq (.reg [zA 68 (.bin .eql (.t 43) (kI 2)),zM 67 68] [2,3,4,5,6,7,43,67]) (.cond (.t 67) (.seq (.reg [qT 69 2 2,qA 70 1 3,qF 71 1 70,qA 72 4 3,qT 73 5 72,q3 74 90 69 71 73,qE 75 74 0,qE 76 74 1,qS 2 4 75,qS 8 5 76] [4,5]) .ret) (.seq (.reg [zA 78 (.bin .eql (.t 43) (kI 3)),zM 77 78] [2,3,4,5,6,7,77]) (.cond (.t 77) (.seq (.seq (.reg [qA 79 1 2,qF 80 1 79,zA 81 (.bin .eql (.t 80) (kI 999))] [2,3,4,5,7,81]) (.cond (.t 81) (.seq (.reg [qT 82 2 2,q1 83 61 82,⟨none,some 84,.call 42 [kI 422]⟩,qS 2 4 83,qS 8 5 84] [4,5]) .ret) .skip)) (.seq (.kN [(qT 85 2 2,[]),(qA 86 1 3,[]),(qF 87 1 86,[1]),(q2 88 91 85 87,[0,1,2]),(zM 89 7,[]),(qA 90 1 2,[]),(qF 91 1 90,[5]),(zA 92 (.bin .add (.t 91) (kI 1)),[5,6]),(zA 93 (.build [fD 0,.c (.str []),fD 0,fD 0,fD 0,.c (.str []),.cO 1,.cO 5] [(0,1,.t 89),(2,1,.t 92)]),[4,5,6,7]),(qS 2 4 88,[0,1,2,3]),(qS 8 5 93,[0,1,2,3,4,5,6,7,8,9])] [4,5]) .ret)) .skip)))))))) (.seq (.kN [(qA 95 0 2,[]),(qF 96 1 95,[0]),(zM 97 6,[]),(qD 98 7 96 97,[0,1,2]),(qA 99 2 98,[0,1,2,3]),(qT 100 5 99,[0,1,2,3,4]),(qA 101 9 3,[]),(qF 102 1 101,[6]),(q2 103 92 100 102,[0,1,2,3,4,5,6,7]),(zM 94 103,[0,1,2,3,4,5,6,7,8]),(qE 104 94 0,[0,1,2,3,4,5,6,7,8,9]),(qE 105 94 1,[0,1,2,3,4,5,6,7,8,9]),(qZ 8 14,[]),(qS 5 8 104,[0,1,2,3,4,5,6,7,8,9,10,12]),(zM 9 105,[0,1,2,3,4,5,6,7,8,9,10,11,12,13])] [2,3,4,5,6,8,9]) (.cut (.seq (.reg [qA 106 0 3,qF 107 1 106,zA 108 (.bin .eql (.t 107) (kI 5))] [2,3,4,5,6,8,9,108]) (.cond (.t 108) (.kN [(qA 110 0 2,[]),(qF 111 1 110,[0]),(zM 112 6,[]),(qD 113 7 111 112,[0,1,2]),(qA 114 2 113,[0,1,2,3]),(qT 115 5 114,[0,1,2,3,4]),(qA 116 4 3,[]),(qT 117 5 116,[6]),(q2 118 93 115 117,[0,1,2,3,4,5,6,7]),(zM 109 118,[0,1,2,3,4,5,6,7,8]),(qE 119 109 0,[0,1,2,3,4,5,6,7,8,9]),(qE 120 109 1,[0,1,2,3,4,5,6,7,8,9]),(qS 5 8 119,[0,1,2,3,4,5,6,7,8,9,10]),(zM 9 120,[0,1,2,3,4,5,6,7,8,9,10,11,12])] [2,3,4,5,8,9]) .skip)) (.seq (.seq (.reg [zM 121 9,qO 122 121] [2,3,4,5,8,122]) (.cond (.t 122) (.seq (.reg [qT 123 2 2,q1 124 61 123,⟨none,some 125,.call 42 [kI 422]⟩,qS 2 4 124,qS 8 5 125] [4,5]) .ret) .skip)) (.seq (.reg [qT 126 2 2,qA 127 1 3,qF 128 1 127,qT 129 5 8,q3 130 90 126 128 129,qE 131 130 0,qE 132 130 1,qS 2 4 131,qS 8 5 132] [4,5]) .ret))))))))))
theorem K.eu:dR pZ 43 2 0 C.eu [.cell 4 true 2,.cell 5 true 8]=true:=by kernel_rfl
def C.iZ:aT:=(.seq (.reg [qB 2 false] [0]) (.seq (.seq (.reg [qI 3 0] [0,3]) (.block 0 (.loop (.seq (.seq (.reg [zM 4 3,zM 5 0,zA 6 (.lens (.t 5)),zA 7 (.bin .lss (.t 4) (.t 6))] [0,3,7]) (.cond (.t 7) .skip (.exit 0))) (.seq (.block 1 (.seq (.reg [zM 10 0,zM 11 3,zA 12 (.idxs (.t 10) (.t 11)),zA 13 (.wB .i64 (.t 12)),⟨none,some 14,.call 83 [.t 13,kI 48,kI 57]⟩,qO 15 14,zM 16 15,zG 16 true 17 (.mv (.t 0)),zG 16 true 18 (.mv (.t 3)),zG 16 true 19 (.idxs (.t 17) (.t 18)),zG 16 true 20 (.wB .i64 (.t 19)),⟨(some (16,true)),some 21,.call 83 [.t 20,kI 97,kI 102]⟩,zG 16 true 22 (.not (.t 21)),qP 23 16 22] [0,3,23]) (.cond (.t 23) (.seq (.reg [qB 2 false] [2]) .ret) .skip))) (.reg [zM 8 3,zA 9 (.bin .add (.t 8) (kI 1)),zM 3 9] [0,3])))))) (.seq (.reg [zM 24 0,zA 25 (.lens (.t 24)),zA 26 (.bin .eql (.t 25) (kI 4)),zM 2 26] [2]) .ret)))
theorem K.iZ:dR pZ 125 1 0 C.iZ [.tmp 2]=true:=by kernel_rfl
def C.iy:aT:=(.seq (.reg [qB 2 false] [0]) (.seq (.seq (.reg [qI 3 0] [0,3]) (.block 0 (.loop (.seq (.seq (.reg [zM 4 3,zM 5 0,qL 6 5,zA 7 (.bin .lss (.t 4) (.t 6))] [0,3,7]) (.cond (.t 7) .skip (.exit 0))) (.seq (.block 1 (.seq (.reg [zM 10 0,zM 11 3,qD 12 1 10 11,qF 13 1 12,zA 14 (.bin .neq (.t 13) (.k (.c (.str [42])))),zM 15 14,zG 15 true 16 (.mv (.t 0)),zG 15 true 17 (.mv (.t 3)),zG 15 true 18 (.oD 1 (.t 16) (.t 17)),zG 15 true 19 (.load false 1 (.t 18)),⟨(some (15,true)),some 20,.call 125 [.t 19]⟩,zG 15 true 21 (.not (.t 20)),qP 22 15 21] [0,3,22]) (.cond (.t 22) (.seq (.reg [qB 2 false] [2]) .ret) .skip))) (.reg [zM 8 3,zA 9 (.bin .add (.t 8) (kI 1)),zM 3 9] [0,3])))))) (.seq (.reg [zM 23 0,qL 24 23,zA 25 (.bin .leq (.t 24) (kI 4)),zM 2 25] [2]) .ret)))
theorem K.iy:dR pZ 84 1 0 C.iy [.tmp 2]=true:=by kernel_rfl
def C.iJ:aT:=(.seq (.reg [qX 1 10 0,qB 2 false] [1]) (.seq (.reg [qA 3 0 1,qF 4 1 3,⟨none,some 5,.call 83 [.t 4,kI 1,kI 5]⟩,zM 6 5,zG 6 true 7 (.eH 1 (.t 1)),zG 6 true 8 (.load false 1 (.t 7)),⟨(some (6,true)),some 9,.call 81 [.t 8]⟩,qP 10 6 9,zM 11 10,zG 11 true 12 (.eH 2 (.t 1)),zG 11 true 13 (.load false 1 (.t 12)),⟨(some (11,true)),some 14,.call 84 [.t 13]⟩,qP 15 11 14,zM 16 15,zG 16 true 17 (.eH 3 (.t 1)),zG 16 true 18 (.load false 1 (.t 17)),⟨(some (16,true)),some 19,.call 84 [.t 18]⟩,qP 20 16 19,zM 21 20,zG 21 true 22 (.eH 4 (.t 1)),zG 21 true 23 (.load true 5 (.t 22)),⟨(some (21,true)),some 24,.call 82 [.t 23]⟩,qP 25 21 24,zM 26 25,zG 26 true 27 (.eH 9 (.t 1)),zG 26 true 28 (.load false 1 (.t 27)),⟨(some (26,true)),some 29,.call 85 [.t 28]⟩,qP 30 26 29,zM 2 30] [2]) .ret))
theorem K.iJ:dR pZ 41 1 0 C.iJ [.tmp 2]=true:=by kernel_rfl
def C.aN:aT:=(.seq (.reg [qB 4 false] [0,1]) (.seq (.seq (.reg [zM 6 0,qL 7 6,zM 8 1,qL 9 8,zA 10 (.bin .neq (.t 7) (.t 9))] [0,1,10]) (.cond (.t 10) (.seq (.reg [qB 4 false] [4]) .ret) .skip)) (.seq (.seq (.reg [qI 5 0] [0,1,5]) (.block 0 (.loop (.seq (.seq (.reg [zM 11 5,zM 12 0,qL 13 12,zA 14 (.bin .lss (.t 11) (.t 13))] [0,1,5,14]) (.cond (.t 14) .skip (.exit 0))) (.seq (.block 1 (.seq (.kN [(zM 17 0,[]),(zM 18 5,[]),(qD 19 8 17 18,[0,1]),(qT 20 8 19,[0,1,2]),(zM 21 1,[]),(zM 22 5,[]),(qD 23 8 21 22,[4,5]),(qT 24 8 23,[4,5,6]),(q2 25 16 20 24,[0,1,2,3,4,5,6,7]),(qO 26 25,[0,1,2,3,4,5,6,7,8])] [0,1,5,26]) (.cond (.t 26) (.seq (.reg [qB 4 false] [4]) .ret) .skip))) (.reg [zM 15 5,zA 16 (.bin .add (.t 15) (kI 1)),zM 5 16] [0,1,5])))))) (.seq (.reg [qB 4 true] [4]) .ret))))
theorem K.aN:dR pZ 23 2 0 C.aN [.tmp 4]=true:=by kernel_rfl
def C.fG:aT:=(.seq (.reg [zA 2 (.alloc 10 [.cO 7,fD 0]),zA 3 (.mv (.k (.cO 10)))] [0,2]) (.seq (.reg [zM 7 0,q1 8 33 7,zA 4 (.alloc 11 [.cO 7,fD 0]),qS 2 4 8] [0,2,4]) (.seq (.reg [zA 9 (.dJ 12 10 0 [.lit (.int .i64 0),.str [],.sl 1 [],.sl 1 [],.lit (.int .i64 0),.lit (.int .i64 0),.str [],.sl 1 [],.sl 5 [],.sl 8 []] []),zM 5 9] [0,2,4,5]) (.seq (.seq (.reg [zM 10 0,zA 11 (.dJ 13 1 6 [.lit (.int .i64 0)] [(0,kI 2),(1,kI 3),(2,kI 1),(3,kI 4),(4,kI 0),(5,kI 8)]),q2 12 71 10 11,zM 6 12] [0,2,4,5,6]) (.block 0 (.loop (.seq (.seq (.reg [zM 13 6,zA 14 (.bin .gtr (.t 13) (kI 0))] [0,2,4,5,6,14]) (.cond (.t 14) .skip (.exit 0))) (.seq (.block 1 (.reg [zM 17 5,zM 18 0,qT 19 2 4,q2 20 34 18 19,zA 21 (.dJ 14 10 1 [.lit (.int .i64 0),.str [],.sl 1 [],.sl 1 [],.lit (.int .i64 0),.lit (.int .i64 0),.str [],.sl 1 [],.sl 5 [],.sl 8 []] [(0,.t 20)]),zA 22 (.append 15 10 176 (.t 17) (.t 21)),zM 5 22] [0,2,4,5,6])) (.reg [zM 15 6,zA 16 (.bin .sub (.t 15) (kI 1)),zM 6 16] [0,2,4,5,6])))))) (.seq (.seq (.reg [zM 23 0,⟨none,some 24,.call 62 [.t 23,kI 30]⟩,zA 25 (.bin .eql (.t 24) (kI 0))] [0,2,4,5,25]) (.cond (.t 25) (.block 2 (.loop (.seq (.seq (.reg [zM 26 5,qL 27 26,zA 28 (.bin .lss (.t 27) (kI 9))] [0,2,4,5,28]) (.cond (.t 28) .skip (.exit 2))) (.block 3 (.reg [zM 29 5,zM 30 0,qT 31 2 4,q2 32 74 30 31,zA 33 (.dJ 16 10 1 [.lit (.int .i64 0),.str [],.sl 1 [],.sl 1 [],.lit (.int .i64 0),.lit (.int .i64 0),.str [],.sl 1 [],.sl 5 [],.sl 8 []] [(0,.t 32)]),zA 34 (.append 17 10 176 (.t 29) (.t 33)),zM 5 34] [0,2,4,5]))))) .skip)) (.seq (.reg [qT 35 2 4,zM 36 5,qS 2 2 35,zM 3 36] [2,3]) .ret))))))
theorem K.fG:dR pZ 59 1 1 C.fG [.cell 2 true 2,.tmp 3]=true:=by kernel_rfl
def C.gm:aT:=(.seq (.reg [qB 2 false] [0]) (.seq (.seq (.reg [qI 3 0] [0,3]) (.block 0 (.loop (.seq (.seq (.reg [zM 4 3,zM 5 0,qL 6 5,zA 7 (.bin .lss (.t 4) (.t 6))] [0,3,7]) (.cond (.t 7) .skip (.exit 0))) (.seq (.block 1 (.seq (.reg [zM 10 0,zM 11 3,qD 12 10 10 11,qT 13 10 12,q1 14 41 13,qO 15 14] [0,3,15]) (.cond (.t 15) (.seq (.reg [qB 2 false] [2]) .ret) .skip))) (.reg [zM 8 3,zA 9 (.bin .add (.t 8) (kI 1)),zM 3 9] [0,3])))))) (.seq (.reg [zM 16 0,qL 17 16,zA 18 (.bin .leq (.t 17) (kI 8)),zM 2 18] [2]) .ret)))
theorem K.gm:dR pZ 60 1 0 C.gm [.tmp 2]=true:=by kernel_rfl
def C.jc:aT:=(.seq (.reg [zA 2 (.alloc 10 [.cO 7,fD 0]),zA 3 (.mv (.k (.cO 10)))] [0,2]) (.seq (.reg [zM 4 0,q1 5 32 4,q1 6 59 5,qE 7 6 0,qE 8 6 1,qS 2 2 7,zM 3 8] [2,3]) .ret))
theorem K.jc:dR pZ 24 1 0 C.jc [.cell 2 true 2,.tmp 3]=true:=by kernel_rfl
def C.eY:aT:=(.seq (.reg [qX 2 10 0,zA 4 (.alloc 11 [.cO 7,fD 0]),zA 5 (.mv (.k (.cO 8)))] [1,2,4]) (.seq (.reg [zA 11 (.dJ 12 8 0 [.lit (.int .i64 0),.str [],.lit (.int .i64 0),.lit (.int .i64 0),.lit (.int .i64 0),.str [],.sl 1 [],.sl 5 []] []),zM 6 11] [1,2,4,6]) (.seq (.seq (.reg [qT 12 2 2,q1 13 40 12,qO 14 13,zM 15 14,zG 15 false 16 (.mv (.t 1)),⟨(some (15,false)),some 17,.call 60 [.t 16]⟩,zG 15 false 18 (.not (.t 17)),qQ 19 15 18] [1,2,4,6,19]) (.cond (.t 19) (.seq (.reg [zA 20 (.build [.cO 7,fD 0] []),qS 2 4 20,zA 5 (.mv (.k (.cO 8)))] [4,5]) .ret) .skip)) (.seq (.reg [qT 21 2 2,q1 22 61 21,zA 7 (.alloc 13 [.cO 7,fD 0]),qS 2 7 22] [1,4,6,7]) (.seq (.seq (.reg [qI 8 0] [1,4,6,7,8]) (.block 0 (.loop (.seq (.seq (.reg [zM 23 8,zM 24 1,qL 25 24,zA 26 (.bin .lss (.t 23) (.t 25))] [1,4,6,7,8,26]) (.cond (.t 26) .skip (.exit 0))) (.seq (.block 1 (.seq (.kN [(qT 30 2 7,[]),(zM 31 1,[]),(zM 32 8,[]),(qD 33 10 31 32,[1,2]),(qT 34 10 33,[1,2,3]),(q2 35 43 30 34,[0,1,2,3,4]),(zM 29 35,[0,1,2,3,4,5]),(qE 36 29 0,[0,1,2,3,4,5,6]),(qE 37 29 1,[0,1,2,3,4,5,6]),(zA 9 (.alloc 14 [.cO 7,fD 0]),[]),(zA 10 (.alloc 15 [fD 0,.c (.str []),fD 0,fD 0,fD 0,.c (.str []),.cO 1,.cO 5]),[]),(qS 2 9 36,[0,1,2,3,4,5,6,7,9,10]),(qS 8 10 37,[0,1,2,3,4,5,6,7,8,9,10,11])] [1,4,6,7,8,9,10]) (.seq (.reg [qT 38 2 9,qS 2 7 38] [1,4,6,7,8,10]) (.reg [zM 39 6,qT 40 8 10,zA 41 (.dJ 16 8 1 [.lit (.int .i64 0),.str [],.lit (.int .i64 0),.lit (.int .i64 0),.lit (.int .i64 0),.str [],.sl 1 [],.sl 5 []] [(0,.t 40)]),zA 42 (.append 17 8 112 (.t 39) (.t 41)),zM 6 42] [1,4,6,7,8])))) (.reg [zM 27 8,zA 28 (.bin .add (.t 27) (kI 1)),zM 8 28] [1,4,6,7,8])))))) (.seq (.reg [qT 43 2 7,zM 44 6,qS 2 4 43,zM 5 44] [4,5]) .ret))))))
theorem K.eY:dR pZ 25 2 0 C.eY [.cell 4 true 2,.tmp 5]=true:=by kernel_rfl
def C.jL:aT:=(.seq (.reg [qB 4 false] [0,1]) (.seq (.seq (.reg [qI 5 0] [0,1,5]) (.block 0 (.loop (.seq (.seq (.reg [zM 6 5,zM 7 0,qL 8 7,zA 9 (.bin .lss (.t 6) (.t 8))] [0,1,5,9]) (.cond (.t 9) .skip (.exit 0))) (.seq (.block 1 (.seq (.reg [zM 12 0,zM 13 5,qD 14 1 12 13,qF 15 1 14,zM 16 1,zA 17 (.bin .eql (.t 15) (.t 16))] [0,1,5,17]) (.cond (.t 17) (.seq (.reg [qB 4 true] [4]) .ret) .skip))) (.reg [zM 10 5,zA 11 (.bin .add (.t 10) (kI 1)),zM 5 11] [0,1,5])))))) (.seq (.reg [qB 4 false] [4]) .ret)))
theorem K.jL:dR pZ 31 2 0 C.jL [.tmp 4]=true:=by kernel_rfl
def C.gV:aT:=(.seq (.reg [qB 2 false] [0]) (.seq (.seq (.reg [zM 13 0,qL 14 13,zA 15 (.bin .gtr (.t 14) (kI 1048576))] [0,15]) (.cond (.t 15) (.seq (.reg [qB 2 true] [2]) .ret) .skip)) (.seq (.reg [zM 17 0,q1 18 24 17,zM 16 18,qE 19 16 0,qE 20 16 1,zA 3 (.alloc 10 [.cO 7,fD 0]),qS 2 3 19,zM 4 20] [3,4]) (.seq (.reg [qT 22 2 3,zM 23 4,q2 24 22 22 23,zM 21 24,qE 25 21 0,qE 26 21 1,zA 5 (.alloc 11 [.cO 7,fD 0]),qS 2 5 25,zM 6 26] [3,4,5,6]) (.seq (.reg [qT 28 2 3,zM 29 4,q2 30 25 28 29,zM 27 30,qE 31 27 0,qE 32 27 1,zA 7 (.alloc 12 [.cO 7,fD 0]),qS 2 7 31,zM 8 32] [3,4,5,6,7,8]) (.cut (.seq (.reg [qT 33 2 5,qT 34 2 7,q2 35 15 33 34,qO 36 35,zM 37 36,zG 37 false 38 (.mv (.t 6)),zG 37 false 39 (.mv (.t 8)),⟨(some (37,false)),some 40,.call 23 [.t 38,.t 39]⟩,zG 37 false 41 (.not (.t 40)),qQ 42 37 41,zM 43 42,zG 43 false 44 (.mv (.t 6)),zG 43 false 45 (.len (.t 44)),zG 43 false 46 (.bin .eql (.t 45) (kI 0)),qQ 47 43 46] [3,4,5,6,7,8,47]) (.cond (.t 47) (.seq (.reg [qT 48 2 5,qT 49 2 7,q2 50 15 48 49,zM 51 50,zG 51 true 52 (.mv (.t 6)),zG 51 true 53 (.mv (.t 8)),⟨(some (51,true)),some 54,.call 23 [.t 52,.t 53]⟩,qP 55 51 54,zM 2 55] [2]) .ret) .skip)) (.seq (.reg [zM 56 4,q1 57 30 56,zM 9 57] [3,5,9]) (.seq (.seq (.reg [qI 10 0] [3,5,9,10]) (.block 0 (.loop (.seq (.seq (.reg [zM 58 10,qA 59 0 3,qF 60 1 59,qL 61 60,zA 62 (.bin .lss (.t 58) (.t 61))] [3,5,9,10,62]) (.cond (.t 62) .skip (.exit 0))) (.seq (.block 1 (.seq (.kN [(qT 66 2 5,[]),(qA 67 0 3,[]),(qF 68 1 67,[1]),(zM 69 10,[]),(qD 70 7 68 69,[1,2,3]),(qA 71 0 70,[1,2,3,4]),(qF 72 1 71,[1,2,3,4,5]),(q2 73 19 66 72,[0,1,2,3,4,5,6]),(zM 65 73,[0,1,2,3,4,5,6,7]),(qE 74 65 0,[0,1,2,3,4,5,6,7,8]),(qE 75 65 1,[0,1,2,3,4,5,6,7,8]),(zA 11 (.alloc 13 [.c (.str []),fD 0,fD 0,fD 0,.c (.str []),.cO 1,.cO 5]),[]),(qS 7 11 74,[0,1,2,3,4,5,6,7,8,9,11]),(zM 12 75,[0,1,2,3,4,5,6,7,8,9,10,11,12])] [3,5,9,10,11,12]) (.seq (.kN [(zM 76 9,[]),(qA 77 0 3,[]),(qF 78 1 77,[1]),(zM 79 10,[]),(qD 80 7 78 79,[1,2,3]),(qA 81 0 80,[1,2,3,4]),(qF 82 1 81,[1,2,3,4,5]),(q2 83 31 76 82,[0,1,2,3,4,5,6]),(qO 84 83,[0,1,2,3,4,5,6,7]),(zM 85 84,[0,1,2,3,4,5,6,7,8]),(zG 85 true 86 (.mv (.t 12)),[0,1,2,3,4,5,6,7,8,9]),(zG 85 true 87 (.not (.t 86)),[0,1,2,3,4,5,6,7,8,9,10]),(zG 85 true 88 (.mv (.t 87)),[0,1,2,3,4,5,6,7,8,9,10,11]),(zG 88 false 89 (.eH 1 (.t 11)),[0,1,2,3,4,5,6,7,8,9,10,11,12]),(zG 88 false 90 (.load false 1 (.t 89)),[0,1,2,3,4,5,6,7,8,9,10,11,12,13]),(zG 88 false 91 (.eH 0 (.t 3)),[0,1,2,3,4,5,6,7,8,9,10,11,12]),(zG 88 false 92 (.load false 1 (.t 91)),[0,1,2,3,4,5,6,7,8,9,10,11,12,15]),(zG 88 false 93 (.mv (.t 10)),[0,1,2,3,4,5,6,7,8,9,10,11,12]),(zG 88 false 94 (.oD 7 (.t 92) (.t 93)),[0,1,2,3,4,5,6,7,8,9,10,11,12,15,16,17]),(zG 88 false 95 (.eH 1 (.t 94)),[0,1,2,3,4,5,6,7,8,9,10,11,12,15,16,17,18]),(zG 88 false 96 (.load false 1 (.t 95)),[0,1,2,3,4,5,6,7,8,9,10,11,12,15,16,17,18,19]),(zG 88 false 97 (.bin .neq (.t 90) (.t 96)),[0,1,2,3,4,5,6,7,8,9,10,11,12,13,14,15,16,17,18,19,20]),(zG 85 true 98 (.pick (.t 88) (kB true) (.t 97)),[0,1,2,3,4,5,6,7,8,9,10,11,12,13,14,15,16,17,18,19,20,21]),(zG 85 true 99 (.mv (.t 98)),[0,1,2,3,4,5,6,7,8,9,10,11,12,13,14,15,16,17,18,19,20,21,22]),(zG 99 false 100 (.eH 2 (.t 11)),[0,1,2,3,4,5,6,7,8,9,10,11,12,13,14,15,16,17,18,19,20,21,22,23]),(zG 99 false 101 (.load true 5 (.t 100)),[0,1,2,3,4,5,6,7,8,9,10,11,12,13,14,15,16,17,18,19,20,21,22,23,24]),(zG 99 false 102 (.eH 0 (.t 3)),[0,1,2,3,4,5,6,7,8,9,10,11,12,13,14,15,16,17,18,19,20,21,22,23]),(zG 99 false 103 (.load false 1 (.t 102)),[0,1,2,3,4,5,6,7,8,9,10,11,12,13,14,15,16,17,18,19,20,21,22,23,26]),(zG 99 false 104 (.mv (.t 10)),[0,1,2,3,4,5,6,7,8,9,10,11,12,13,14,15,16,17,18,19,20,21,22,23]),(zG 99 false 105 (.oD 7 (.t 103) (.t 104)),[0,1,2,3,4,5,6,7,8,9,10,11,12,13,14,15,16,17,18,19,20,21,22,23,26,27,28]),(zG 99 false 106 (.eH 2 (.t 105)),[0,1,2,3,4,5,6,7,8,9,10,11,12,13,14,15,16,17,18,19,20,21,22,23,26,27,28,29]),(zG 99 false 107 (.load true 5 (.t 106)),[0,1,2,3,4,5,6,7,8,9,10,11,12,13,14,15,16,17,18,19,20,21,22,23,26,27,28,29,30]),(⟨(some (99,false)),some 108,.call 17 [.t 101,.t 107]⟩,[0,1,2,3,4,5,6,7,8,9,10,11,12,13,14,15,16,17,18,19,20,21,22,23,24,25,26,27,28,29,30,31]),(zG 99 false 109 (.not (.t 108)),[0,1,2,3,4,5,6,7,8,9,10,11,12,13,14,15,16,17,18,19,20,21,22,23,24,25,26,27,28,29,30,31,32]),(zG 85 true 110 (.pick (.t 99) (kB true) (.t 109)),[0,1,2,3,4,5,6,7,8,9,10,11,12,13,14,15,16,17,18,19,20,21,22,23,24,25,26,27,28,29,30,31,32,33]),(qP 111 85 110,[0,1,2,3,4,5,6,7,8,9,10,11,12,13,14,15,16,17,18,19,20,21,22,23,24,25,26,27,28,29,30,31,32,33,34])] [3,5,9,10,111]) (.cond (.t 111) (.seq (.reg [qB 2 false] [2]) .ret) .skip)))) (.reg [zM 63 10,zA 64 (.bin .add (.t 63) (kI 1)),zM 10 64] [3,5,9,10])))))) (.seq (.reg [qB 2 true] [2]) .ret)))))))))
theorem K.gV:dR pZ 11 1 0 C.gV [.tmp 2]=true:=by kernel_rfl
end Go.Ab
end
section
namespace Go.Ab
open Go
def Ev {α:Type} (g:Nat->Option α) (r:α):Prop:=∃ N,∀ n,N<=n->g n=some r
section
variable {α β:Type} {g g':Nat->Option α} {r s:α}
theorem Ev.ret (r:α):Ev (fun _=>some r) r:=⟨0,fun _ _=>rfl⟩
theorem Ev.ret' (h:s=r):Ev (fun _=>some s) r:=by subst h; exact Ev.ret _
theorem Ev.up (h:Ev (fun n=>g (n+1)) r):Ev g r:=by
 obtain ⟨N,h⟩:=h
 refine ⟨N+1,fun n hn => ?_⟩
 obtain ⟨m,rfl⟩:∃ m,n=m+1:=⟨n-1,by omega⟩
 exact h m (by omega)
theorem Ev.bind {h:Nat->Option β} {k:Nat->β->Option α} {a:β} (h1:Ev h a) (h2:Ev (fun n=>k n a) r):Ev (fun n=>Option.bind (h n) (k n)) r:=by
 obtain ⟨N,h1⟩:=h1
 obtain ⟨M,h2⟩:=h2
 refine ⟨max N M,fun n hn => ?_⟩
 show Option.bind (h n) (k n)=some r
 rw [h1 n (by omega)]
 exact h2 n (by omega)
theorem Ev.chk {p:Prop} [Decidable p] (hp:p) (h:Ev g r):Ev (fun n=>Ab.chk p (g n)) r:=by
 obtain ⟨N,h⟩:=h
 exact ⟨N,fun n hn=>by show Ab.chk p (g n)=some r; rw [Ab.chk,if_pos hp]; exact h n hn⟩
theorem Ev.ct {c:Bool} (hc:c=true) (h:Ev g r):Ev (fun n=>cond c (g n) (g' n)) r:=by subst hc; exact h
theorem Ev.cf {c:Bool} (hc:c=false) (h:Ev g' r):Ev (fun n=>cond c (g n) (g' n)) r:=by subst hc; exact h
theorem Ev.ite {c:Bool} (h:c=true->Ev g r) (h':c=false->Ev g' r):Ev (fun n=>cond c (g n) (g' n)) r:=by
 cases c
 ·exact h' rfl
 ·exact h rfl
theorem Ev.eq (h:Ev g r) (e:r=s):Ev g s:=e ▸ h
theorem Ev.val (h:Ev g r):∃ n,g n=some r:=⟨h.choose,h.choose_spec _ (Nat.le_refl _)⟩
end
theorem wrapN {x:Int} {m:Nat} (h:x=(m:Int)) (h1:m<9223372036854775808):IntKind.wrap .i64 x=(m:Int):=by
 rw [rQ (by omega) (by omega),h]
theorem bP {i:Nat} (h1:i+1<9223372036854775808):IntKind.wrap .i64 ((i:Int)+1)=((i+1:Nat):Int):=wrapN (by omega) h1
theorem dh {α:Type} {l:List α} {i:Nat} (d:α) (h:i<l.length):l.getD i d=l[i]:=by simp [List.getD,h]
theorem bT {α:Type} {l:List α} {i:Nat} (d:α) (h:i<l.length):l.drop i=l.getD i d::l.drop (i+1):=by
 rw [dh d h,List.drop_eq_getElem_cons h]
abbrev bl (x y:List UInt8):Bool:=Op.bytesLess x y
theorem OB (x:List UInt8):bl x []=false:=by cases x<;>rfl
theorem Gl (a b:UInt8) (x y:List UInt8):bl (a::x) (b::y)=(decide (a<b)||(a==b&&bl x y)):=rfl
theorem Cj:∀ x:List UInt8,bl x x=false
 | []=>rfl
 | a::x=>by rw [Gl,Cj x]; simp
theorem rV:∀ {x y z:List UInt8},bl x y=true->bl y z=true->bl x z=true
  | _,[],_,h,_=>by rw [OB] at h; cases h
  | _,_::_,[],_,h=>by rw [OB] at h; cases h
  | [],_::_,_::_,_,_=>rfl
  | a::x,b::y,c::z,h,k=>by
    rw [Gl] at *
    simp only [Bool.or_eq_true,Bool.and_eq_true,decide_eq_true_eq,beq_iff_eq] at *
    rcases h with h | ⟨rfl,h⟩<;>rcases k with k | ⟨rfl,k⟩
    · exact .inl (UInt8.lt_trans h k)
    · exact .inl h
    · exact .inl k
    · exact .inr ⟨rfl,rV h k⟩
theorem yP:∀ {x y:List UInt8},bl x y=false->bl y x=false->x=y
  | [],[],_,_=>rfl
  | [],_::_,h,_=>by cases h
  | _::_,[],_,h=>by cases h
  | a::x,b::y,h,k=>by
    rw [Gl] at *
    simp only [Bool.or_eq_false_iff,Bool.and_eq_false_iff,decide_eq_false_iff_not] at *
    obtain ⟨h1,h2⟩:=h
    obtain ⟨k1,k2⟩:=k
    have e:a=b:=by
      apply UInt8.toNat_inj.1
      simp only [UInt8.lt_iff_toNat_lt] at h1 k1
      omega
    subst e
    simp only [beq_self_eq_true,Bool.true_eq_false,false_or] at h2 k2
    rw [yP h2 k2]
theorem Dv {x y:List UInt8} (h:bl x y=true):bl y x=false:=by
 cases k:bl y x with
 | false=>rfl
 | true=>have:=rV h k; rw [Cj] at this; cases this
theorem xG {x y:List UInt8} (h:bl x y=true):x ≠ y:=by
 intro e; subst e; rw [Cj] at h; cases h
theorem XL:∀ (x y:List UInt8),Go.Lib.compareBytes x y=if bl x y then -1 else if x=y then 0 else 1
  | [],[]=>rfl
  | [],_::_=>rfl
  | _::_,[]=>by simp [Go.Lib.compareBytes,OB]
  | a::x,b::y=>by
    rw [Go.Lib.compareBytes,Gl]
    by_cases h:a<b
    · simp [h]
    · by_cases k:b<a
      · have:a ≠ b:=fun e=>by subst e; exact h k
        simp [h,k,this]
      · have e:a=b:=by
          apply UInt8.toNat_inj.1
          simp only [UInt8.lt_iff_toNat_lt] at h k
          omega
        subst e
        rw [if_neg h,if_neg h,XL x y]
        simp
theorem Ju {x y:List UInt8} : Go.Lib.compareBytes x y=0<->x=y:=by
 rw [XL]
 by_cases h:bl x y=true
 ·simp only [h,if_true]
  exact ⟨fun e=>by omega,fun e=>absurd e (xG h)⟩
 ·simp only [h]
  by_cases e:x=y<;>simp [e]
end Go.Ab
end
section
namespace Go.Ab
open Go
def okB (b:UInt8):Bool:=decide (32<=b.toNat)&&decide (b.toNat<=126)
def PT (s:aG):Bool:=s.all okB&&decide (s.length<=12)
def PP (p:List aG):Bool:=p.all PT&&decide (p.length<=5)
def Asc:List aG->Bool
 | []=>true
 | [_]=>true
 | x::y::r=>Op.bytesLess x y&&Asc (y::r)
def big:Nat:=4611686018427387904
theorem yt (b:UInt8):IntKind.wrap .i64 ((b.toNat:Nat):Int)=(b.toNat:Int):=by
 have:=b.toNat_lt
 exact wrapN rfl (by omega)
theorem T.dW (a lo hi:Int):Ev (fun n=>G.dW n a lo hi) (decide (lo<=a)&&decide (a<=hi)):=by
 refine Ev.up ?_
 simp only [G.dW]
 refine Ev.ite (fun h => ?_) (fun h => ?_)
 ·exact Ev.ret' (by rw [h,Bool.true_and])
 ·exact Ev.ret' (by rw [h,Bool.false_and])
theorem T.eU.L1 (s:aG) (hs:s.length<big):∀ (k i:Nat),i+k=s.length->Ev (fun n=>G.eU.L1 n s i) ((s.drop i).all okB&&decide (s.length<=12)):=by
  unfold big at hs
  intro k
  induction k with
  | zero =>
    intro i hi
    refine Ev.up ?_
    simp only [G.eU.L1]
    refine Ev.cf (by simp; omega) (Ev.ret' ?_)
    rw [List.drop_of_length_le (by omega)]
    simp
    omega
  | succ k ih =>
    intro i hi
    refine Ev.up ?_
    simp only [G.eU.L1]
    refine Ev.ct (by simp; omega) (Ev.chk (by omega) ?_)
    refine Ev.bind (T.dW _ _ _) ?_
    rw [bT (0:UInt8) (by omega:i<s.length),List.all_cons,Int.toNat_natCast,yt]
    have e:(decide ((32:Int)<=((s.getD i 0).toNat:Int))&&decide (((s.getD i 0).toNat:Int)<=126))=okB (s.getD i 0):=by
      unfold okB; congr 1<;>(apply decide_eq_decide.2; omega)
    rw [e]
    refine Ev.ite (fun h => ?_) (fun h => ?_)
    · rw [bP (by omega),h,Bool.true_and]
      exact ih (i+1) (by omega)
    · exact Ev.ret' (by rw [h]; rfl)
theorem T.eU (s:aG) (hs:s.length<big):Ev (fun n=>G.eU n s) (PT s):=by
 refine Ev.up ?_
 simp only [G.eU]
 exact T.eU.L1 s hs s.length 0 (by omega)
theorem T.bY.L1 (s:aG) (hs:s.length<big):∀ (k i:Nat),i+k=s.length->Ev (fun n=>G.bY.L1 n s i) ((s.drop i).all okB):=by
  unfold big at hs
  intro k
  induction k with
  | zero =>
    intro i hi
    refine Ev.up ?_
    simp only [G.bY.L1]
    refine Ev.cf (by simp; omega) (Ev.ret' ?_)
    rw [List.drop_of_length_le (by omega)]
    rfl
  | succ k ih =>
    intro i hi
    refine Ev.up ?_
    simp only [G.bY.L1]
    rw [bT (0:UInt8) (by omega:i<s.length),List.all_cons,Int.toNat_natCast]
    refine Ev.ct (by simp; omega) (Ev.chk (by omega) ?_)
    refine Ev.ite (fun h => ?_) (fun h => ?_)
    · refine Ev.ret' ?_
      have:okB (s.getD i 0)=false:=by
        simp only [decide_eq_true_eq] at h
        simp only [okB,Bool.and_eq_false_iff,decide_eq_false_iff_not]
        omega
      rw [this]; rfl
    · refine Ev.chk (by omega) ?_
      refine Ev.ite (fun k => ?_) (fun k => ?_)
      · refine Ev.ret' ?_
        have:okB (s.getD i 0)=false:=by
          simp only [decide_eq_true_eq] at k
          simp only [okB,Bool.and_eq_false_iff,decide_eq_false_iff_not]
          omega
        rw [this]; rfl
      · have:okB (s.getD i 0)=true:=by
          simp only [decide_eq_false_iff_not] at h k
          simp only [okB,Bool.and_eq_true,decide_eq_true_eq]
          omega
        rw [this,Bool.true_and,bP (by omega)]
        exact ih (i+1) (by omega)
theorem T.bY (s:aG) (hs:s.length<big):Ev (fun n=>G.bY n s) (PT s):=by
 refine Ev.up ?_
 simp only [G.bY]
 refine Ev.ite (fun h => ?_) (fun h => ?_)
 ·simp only [decide_eq_true_eq] at h
  refine Ev.ret' ?_
  have:decide (s.length<=12)=false:=by simp; omega
  rw [PT,this,Bool.and_false]
 ·simp only [decide_eq_false_iff_not] at h
  refine (T.bY.L1 s hs s.length 0 (by omega)).eq ?_
  have:decide (s.length<=12)=true:=by simp; omega
  rw [PT,this,Bool.and_true,List.drop_zero]
def Sm (l:List aG):Prop:=l.length<big/\∀ s,s∈l->s.length<big
theorem Sm.get {l:List aG} (h:Sm l) {i:Nat} (hi:i<l.length):(l.getD i default).length<big:=by
 rw [dh _ hi]
 exact h.2 _ (List.getElem_mem hi)
theorem T.gW.L1 (p:List aG) (hp:Sm p):∀ (k i:Nat),i+k=p.length->Ev (fun n=>G.gW.L1 n p i) ((p.drop i).all PT&&decide (p.length<=5)):=by
  have hl:=hp.1
  unfold big at hl
  intro k
  induction k with
  | zero =>
    intro i hi
    refine Ev.up ?_
    simp only [G.gW.L1]
    refine Ev.cf (by simp; omega) (Ev.ret' ?_)
    rw [List.drop_of_length_le (by omega)]
    simp
    omega
  | succ k ih =>
    intro i hi
    refine Ev.up ?_
    simp only [G.gW.L1]
    refine Ev.ct (by simp; omega) (Ev.chk (by omega) ?_)
    rw [bT (default:aG) (by omega:i<p.length),List.all_cons,Int.toNat_natCast]
    refine Ev.bind (T.eU _ (hp.get (by omega))) ?_
    refine Ev.ite (fun h => ?_) (fun h => ?_)
    · rw [bP (by omega),h,Bool.true_and]
      exact ih (i+1) (by omega)
    · exact Ev.ret' (by rw [h]; rfl)
theorem T.gW (p:List aG) (hp:Sm p):Ev (fun n=>G.gW n p) (PP p):=by
 refine Ev.up ?_
 simp only [G.gW]
 exact T.gW.L1 p hp p.length 0 (by omega)
theorem T.fK.L1 (p:List aG) (hp:Sm p):∀ (k i:Nat),i+k=p.length->Ev (fun n=>G.fK.L1 n p i) ((p.drop i).all PT):=by
  have hl:=hp.1
  unfold big at hl
  intro k
  induction k with
  | zero =>
    intro i hi
    refine Ev.up ?_
    simp only [G.fK.L1]
    refine Ev.cf (by simp; omega) (Ev.ret' ?_)
    rw [List.drop_of_length_le (by omega)]
    rfl
  | succ k ih =>
    intro i hi
    refine Ev.up ?_
    simp only [G.fK.L1]
    refine Ev.ct (by simp; omega) (Ev.chk (by omega) ?_)
    rw [bT (default:aG) (by omega:i<p.length),List.all_cons,Int.toNat_natCast]
    refine Ev.bind (T.bY _ (hp.get (by omega))) ?_
    refine Ev.ite (fun h => ?_) (fun h => ?_)
    · rw [bP (by omega),h,Bool.true_and]
      exact ih (i+1) (by omega)
    · exact Ev.ret' (by rw [h]; rfl)
theorem T.fK (p:List aG) (hp:Sm p):Ev (fun n=>G.fK n p) (PP p):=by
 refine Ev.up ?_
 simp only [G.fK]
 refine Ev.ite (fun h => ?_) (fun h => ?_)
 ·simp only [decide_eq_true_eq] at h
  refine Ev.ret' ?_
  have:decide (p.length<=5)=false:=by simp; omega
  rw [PP,this,Bool.and_false]
 ·simp only [decide_eq_false_iff_not] at h
  refine (T.fK.L1 p hp p.length 0 (by omega)).eq ?_
  have:decide (p.length<=5)=true:=by simp; omega
  rw [PP,this,Bool.and_true,List.drop_zero]
def NM (l:List aG):Bool:=l.all PT&&Asc l
theorem drop_pred {l:List aG} {i:Nat} (h0:0<i) (h:i<l.length):l.drop (i-1)=l.getD (i-1) default::l.getD i default::l.drop (i+1):=by
 rw [bT (default:aG) (by omega:i-1<l.length),show i-1+1=i by omega,bT (default:aG) h]
theorem T.kF.L1 (l:List aG) (hp:Sm l):∀ (k i:Nat),i+k=l.length->Ev (fun n=>G.kF.L1 n l i) ((l.drop i).all PT&&Asc (l.drop (i-1))):=by
  have hl:=hp.1
  unfold big at hl
  intro k
  induction k with
  | zero =>
    intro i hi
    refine Ev.up ?_
    simp only [G.kF.L1]
    refine Ev.cf (by simp; omega) (Ev.ret' ?_)
    rw [List.drop_of_length_le (by omega)]
    by_cases h0:i=0
    · rw [List.drop_of_length_le (by omega)]; rfl
    · rw [bT (default:aG) (by omega:i-1<l.length),List.drop_of_length_le (by omega)]; rfl
  | succ k ih =>
    intro i hi
    refine Ev.up ?_
    simp only [G.kF.L1]
    refine Ev.ct (by simp; omega) (Ev.chk (by omega) ?_)
    rw [bT (default:aG) (by omega:i<l.length),List.all_cons,Int.toNat_natCast]
    refine Ev.bind (T.eU _ (hp.get (by omega))) ?_
    refine Ev.ite (fun h => ?_) (fun h => ?_)
    · rw [h,Bool.true_and,bP (by omega)]
      refine Ev.ite (fun h0 => ?_) (fun h0 => ?_)
      · simp only [decide_eq_true_eq] at h0
        have e:IntKind.wrap .i64 ((i:Int)-1)=((i-1:Nat):Int):=wrapN (by omega) (by omega)
        rw [e,Int.toNat_natCast]
        refine Ev.chk (by omega) (Ev.chk (by omega) ?_)
        rw [drop_pred (by omega) (by omega),Asc]
        have hd:l.getD i default::l.drop (i+1)=l.drop (i+1-1):=by rw [Nat.add_sub_cancel,<- bT (default:aG) (by omega:i<l.length)]
        refine Ev.ite (fun h1 => ?_) (fun h1 => ?_)
        · exact Ev.ret' (by rw [show Op.bytesLess (l.getD (i-1) default) (l.getD i default)=false from Dv h1]; simp)
        · refine Ev.ite (fun h2 => ?_) (fun h2 => ?_)
          · rw [beq_iff_eq] at h2
            exact Ev.ret' (by rw [show Op.bytesLess (l.getD (i-1) default) (l.getD i default)=false by rw [h2]; exact Cj _]; simp)
          · have:Op.bytesLess (l.getD (i-1) default) (l.getD i default)=true:=by
              cases hb:Op.bytesLess (l.getD (i-1) default) (l.getD i default) with
              | true=>rfl
              | false=>rw [yP h1 hb] at h2; simp at h2
            rw [this,Bool.true_and,hd]
            exact ih (i+1) (by omega)
      · simp only [decide_eq_false_iff_not] at h0
        have:i=0:=by omega
        subst this
        exact ih 1 (by omega)
    · exact Ev.ret' (by rw [h]; rfl)
theorem T.kF (l:List aG) (hp:Sm l):Ev (fun n=>G.kF n l) (NM l):=by
 refine Ev.up ?_
 simp only [G.kF]
 exact T.kF.L1 l hp l.length 0 (by omega)
theorem T.iE.L1 (l:List aG) (hp:Sm l):∀ (k i:Nat),i+k=l.length->Ev (fun n=>G.iE.L1 n l i) ((l.drop i).all PT&&Asc (l.drop (i-1))):=by
  have hl:=hp.1
  unfold big at hl
  intro k
  induction k with
  | zero =>
    intro i hi
    refine Ev.up ?_
    simp only [G.iE.L1]
    refine Ev.cf (by simp; omega) (Ev.ret' ?_)
    rw [List.drop_of_length_le (by omega)]
    by_cases h0:i=0
    · rw [List.drop_of_length_le (by omega)]; rfl
    · rw [bT (default:aG) (by omega:i-1<l.length),List.drop_of_length_le (by omega)]; rfl
  | succ k ih =>
    intro i hi
    refine Ev.up ?_
    simp only [G.iE.L1]
    refine Ev.ct (by simp; omega) (Ev.chk (by omega) ?_)
    rw [bT (default:aG) (by omega:i<l.length),List.all_cons,Int.toNat_natCast]
    refine Ev.bind (T.bY _ (hp.get (by omega))) ?_
    refine Ev.ite (fun h => ?_) (fun h => ?_)
    · rw [h,Bool.true_and,bP (by omega)]
      refine Ev.ite (fun h0 => ?_) (fun h0 => ?_)
      · simp only [decide_eq_true_eq] at h0
        have e:IntKind.wrap .i64 ((i:Int)-1)=((i-1:Nat):Int):=wrapN (by omega) (by omega)
        rw [e,Int.toNat_natCast]
        refine Ev.chk (by omega) ?_
        rw [drop_pred (by omega) (by omega),Asc]
        have hd:l.getD i default::l.drop (i+1)=l.drop (i+1-1):=by rw [Nat.add_sub_cancel,<- bT (default:aG) (by omega:i<l.length)]
        refine Ev.ite (fun h1 => ?_) (fun h1 => ?_)
        · rw [h1,Bool.true_and,hd]
          exact ih (i+1) (by omega)
        · exact Ev.ret' (by rw [h1]; simp)
      · simp only [decide_eq_false_iff_not] at h0
        have:i=0:=by omega
        subst this
        exact ih 1 (by omega)
    · exact Ev.ret' (by rw [h]; rfl)
theorem T.iE (l:List aG) (hp:Sm l):Ev (fun n=>G.iE n l) (NM l&&decide (l.length<=6)):=by
 refine Ev.up ?_
 simp only [G.iE]
 refine Ev.ite (fun h => ?_) (fun h => ?_)
 ·simp only [decide_eq_true_eq] at h
  refine Ev.ret' ?_
  have:decide (l.length<=6)=false:=by simp; omega
  rw [this,Bool.and_false]
 ·simp only [decide_eq_false_iff_not] at h
  refine (T.iE.L1 l hp l.length 0 (by omega)).eq ?_
  have:decide (l.length<=6)=true:=by simp; omega
  rw [NM,this,Bool.and_true,List.drop_zero]
end Go.Ab
end
section
namespace Go.Ab
open Go
def Fine (B:Nat):Nat->af->Prop
 | 0,_=>False
 | d+1,n=>n.Text.length<=B/\n.Names.length<=B/\(∀ s,s∈n.Names->s.length<=B)/\n.Kids.length<=B/\(n.Kind=4->n.Kids.length<=n.Names.length)/\∀ k,k∈n.Kids->Fine B d k
theorem Fine.mono {B C:Nat} (hB:B<=C):∀ {d e:Nat} {n:af},d<=e->Fine B d n->Fine C e n
  | 0,_,_,_,h=>h.elim
  | d+1,0,_,hd,_=>by omega
  | d+1,e+1,n,hd,h=>by
    obtain ⟨h1,h2,h3,h4,h5,h6⟩:=h
    exact ⟨by omega,by omega,fun s hs=>Nat.le_trans (h3 s hs) hB,by omega,h5,fun k hk=>(h6 k hk).mono hB (by omega)⟩
def lim:Nat:=4294967296
theorem Fine.sm {B d:Nat} {n:af} (hB:B<=lim) (h:Fine B d n):Sm n.Names:=by
  cases d with
  | zero=>exact h.elim
  | succ d =>
    obtain ⟨h1,h2,h3,h4,h5,h6⟩:=h
    unfold lim at hB
    exact ⟨by unfold big; omega,fun s hs=>by have:=h3 s hs; unfold big; omega⟩
theorem Fine.text {B d:Nat} {n:af} (hB:B<=lim) (h:Fine B d n):n.Text.length<big:=by
 cases d with
 | zero=>exact h.elim
 | succ d=>obtain ⟨h1,_⟩:=h; unfold lim at hB; unfold big; omega
theorem Fine.kids {B d:Nat} {n:af} (h:Fine B d n):n.Kids.length<=B:=by
 cases d with
 | zero=>exact h.elim
 | succ d=>exact h.2.2.2.1
theorem Fine.names {B d:Nat} {n:af} (h:Fine B d n):n.Names.length<=B:=by
 cases d with
 | zero=>exact h.elim
 | succ d=>exact h.2.1
theorem Fine.map {B d:Nat} {n:af} (h:Fine B d n) (hk:n.Kind=4):n.Kids.length<=n.Names.length:=by
 cases d with
 | zero=>exact h.elim
 | succ d=>exact h.2.2.2.2.1 hk
theorem Fine.kid {B d:Nat} {n:af} (h:Fine B (d+1) n) {i:Nat} (hi:i<n.Kids.length):Fine B d (n.Kids.getD i default):=by
 rw [dh _ hi]
 exact h.2.2.2.2.2 _ (List.getElem_mem hi)
def Parts (n:af):Bool :=
  (n.Kind==1||n.Num==0)&&(n.Kind==2||n.Text==[])&&(n.Kind==4||n.Names.length==0) &&
  (if n.Kind=0 then n.Kids.length==0 else if n.Kind=1 then (decide (-999999<=n.Num)&&decide (n.Num<=999999))&&n.Kids.length==0 else if n.Kind=2 then PT n.Text&&n.Kids.length==0
   else if n.Kind=3 then decide (n.Kids.length<=6) else if n.Kind=4 then NM n.Names&&decide (n.Names.length<=6)&&n.Kids.length==n.Names.length else false)
def Shape:Nat->af->Bool
 | 0,_=>false
 | d+1,n=>Parts n&&n.Kids.all (Shape d)
theorem ilen {a b:Nat} : (((a:Nat):Int)==((b:Nat):Int))=(a==b):=by
 rw [Bool.eq_iff_iff]; simp; omega
theorem YQ {a:Nat} : (((a:Nat):Int)==0)=(a==0):=by
 rw [Bool.eq_iff_iff]; simp
theorem Gp {a b:Nat} : decide (((a:Nat):Int)<=((b:Nat):Int))=decide (a<=b):=by
 rw [Bool.eq_iff_iff]; simp
def BV (n:af):Bool :=
  (n.Kind==4||n.Names.length==0) &&
  (if n.Kind=0 then n.Kids.length==0 else if n.Kind=1 then (decide (-999999<=n.Num)&&decide (n.Num<=999999))&&n.Kids.length==0 else if n.Kind=2 then PT n.Text&&n.Kids.length==0
   else if n.Kind=3 then decide (n.Kids.length<=6) else if n.Kind=4 then NM n.Names&&decide (n.Names.length<=6)&&n.Kids.length==n.Names.length else false)
theorem TL (n:af):Parts n=((n.Kind==1||n.Num==0)&&(n.Kind==2||n.Text==[])&&BV n):=by
 unfold Parts BV; simp only [Bool.and_assoc]
theorem T.di.K1 {B d:Nat} {n:af} (hB:B<=lim) (h:Fine B d n):Ev (fun f=>G.di.K1 f n) (BV n):=by
 refine Ev.up ?_
 simp only [G.di.K1]
 have ht:=T.bY _ (h.text hB)
 have hn:=T.iE _ (h.sm hB)
 have h0:decide ((0:Int)<((n.Names.length:Nat):Int)) = !(n.Names.length==0):=by
  cases hq:n.Names.length<;>simp
 have h6:decide (((n.Kids.length:Nat):Int)<=6)=decide (n.Kids.length<=6):=by rw [Bool.eq_iff_iff]; simp; omega
 rw [h0]
 have tail:Ev (fun f=>cond (n.Kind==0) (some (((n.Kids.length:Nat):Int)==0)) (cond (n.Kind==1) (cond (decide ((-999999)<=n.Num)) (cond (decide (n.Num<=999999)) (some (((n.Kids.length:Nat):Int)==0)) (some false)) (some false))
   (cond (n.Kind==2) (Option.bind (G.bY f n.Text) fun v3=>cond v3 (some (((n.Kids.length:Nat):Int)==0)) (some false))
   (cond (n.Kind==3) (some (decide (((n.Kids.length:Nat):Int)<=6))) (cond (n.Kind==4) (Option.bind (G.iE f n.Names) fun v4=>cond v4 (some (((n.Kids.length:Nat):Int)==((n.Names.length:Nat):Int))) (some false)) (some false))))))
   (if n.Kind=0 then n.Kids.length==0 else if n.Kind=1 then (decide (-999999<=n.Num)&&decide (n.Num<=999999))&&n.Kids.length==0 else if n.Kind=2 then PT n.Text&&n.Kids.length==0
    else if n.Kind=3 then decide (n.Kids.length<=6) else if n.Kind=4 then NM n.Names&&decide (n.Names.length<=6)&&n.Kids.length==n.Names.length else false):=by
  rw [YQ,ilen,h6]
  refine Ev.ite (fun e=>Ev.ret' ?_) (fun e0 => ?_)
  ·rw [if_pos (by simpa using e)]
  rw [if_neg (by simpa using e0)]
  refine Ev.ite (fun e => ?_) (fun e1 => ?_)
  ·rw [if_pos (by simpa using e)]
   refine Ev.ite (fun k=>Ev.ite (fun k2=>Ev.ret' ?_) (fun k2=>Ev.ret' ?_)) (fun k=>Ev.ret' ?_)
   ·rw [k,k2]; simp
   ·rw [k2]; simp
   ·rw [k]; simp
  rw [if_neg (by simpa using e1)]
  refine Ev.ite (fun e => ?_) (fun e2 => ?_)
  ·rw [if_pos (by simpa using e)]
   refine Ev.bind ht (Ev.ite (fun k=>Ev.ret' ?_) (fun k=>Ev.ret' ?_))
   ·rw [k,Bool.true_and]
   ·rw [k,Bool.false_and]
  rw [if_neg (by simpa using e2)]
  refine Ev.ite (fun e=>Ev.ret' ?_) (fun e3 => ?_)
  ·rw [if_pos (by simpa using e)]
  rw [if_neg (by simpa using e3)]
  refine Ev.ite (fun e => ?_) (fun e4=>Ev.ret' ?_)
  ·rw [if_pos (by simpa using e)]
   refine Ev.bind hn (Ev.ite (fun k=>Ev.ret' ?_) (fun k=>Ev.ret' ?_))
   ·rw [k,Bool.true_and]
   ·rw [k,Bool.false_and]
  ·rw [if_neg (by simpa using e4)]
 refine Ev.ite (fun e => ?_) (fun e => ?_)
 ·have e':(n.Kind==4)=false:=by simpa using e
  refine Ev.ite (fun k=>Ev.ret' ?_) (fun k => ?_)
  ·rw [Bool.not_eq_true'] at k; rw [BV,e',k]; rfl
  ·rw [Bool.not_eq_false'] at k; exact tail.eq (by rw [BV,k,Bool.or_true,Bool.true_and])
 ·have e':(n.Kind==4)=true:=by simpa using e
  exact tail.eq (by rw [BV,e',Bool.true_or,Bool.true_and])
theorem T.di {B d:Nat} {n:af} (hB:B<=lim) (h:Fine B d n):Ev (fun f=>G.di f n) (Parts n):=by
 refine Ev.up ?_
 simp only [G.di]
 have hk:=T.di.K1 hB h
 rw [TL]
 have tail:Ev (fun f=>cond (n.Kind != 2) (cond (n.Text==[]) (G.di.K1 f n) (some false)) (G.di.K1 f n)) ((n.Kind==2||n.Text==[])&&BV n):=by
  refine Ev.ite (fun e => ?_) (fun e => ?_)
  ·have e':(n.Kind==2)=false:=by simpa using e
   refine Ev.ite (fun k => ?_) (fun k=>Ev.ret' ?_)
   ·exact hk.eq (by rw [k,Bool.or_true,Bool.true_and])
   ·rw [e',k]; rfl
  ·have e':(n.Kind==2)=true:=by simpa using e
   exact hk.eq (by rw [e',Bool.true_or,Bool.true_and])
 refine Ev.ite (fun e => ?_) (fun e => ?_)
 ·have e':(n.Kind==1)=false:=by simpa using e
  refine Ev.ite (fun k=>Ev.ret' ?_) (fun k => ?_)
  ·have:(n.Num==0)=false:=by simpa using k
   rw [e',this]; rfl
  ·have:(n.Num==0)=true:=by simpa using k
   exact tail.eq (by rw [this,Bool.or_true,Bool.true_and])
 ·have e':(n.Kind==1)=true:=by simpa using e
  exact tail.eq (by rw [e',Bool.true_or,Bool.true_and])
end Go.Ab
end
section
namespace Go.Ab
open Go
theorem T.lZ.L1 {B D d:Nat} {n:af} (hB:B<=lim) (h:Fine B (D+1) n) (hd:d<1000) (hs:∀ k,k∈n.Kids->Ev (fun f=>G.fP f k d) (Shape d k)) :
    ∀ (k i:Nat),i+k=n.Kids.length->Ev (fun f=>G.lZ.L1 f n ((d+1:Nat):Int) i) ((n.Kids.drop i).all (Shape d)):=by
  have hl:=h.kids
  unfold lim at hB
  intro k
  induction k with
  | zero =>
    intro i hi
    refine Ev.up ?_
    simp only [G.lZ.L1]
    refine Ev.cf (by simp; omega) (Ev.ret' ?_)
    rw [List.drop_of_length_le (by omega)]
    rfl
  | succ k ih =>
    intro i hi
    refine Ev.up ?_
    simp only [G.lZ.L1]
    refine Ev.ct (by simp; omega) (Ev.chk (by omega) ?_)
    rw [bT (default:af) (by omega:i<n.Kids.length),List.all_cons,Int.toNat_natCast]
    have e:IntKind.wrap .i64 (((d+1:Nat):Int)-1)=(d:Int):=wrapN (by omega) (by omega)
    rw [e]
    refine Ev.bind (hs _ (by rw [dh _ (by omega:i<n.Kids.length)]; exact List.getElem_mem _)) ?_
    refine Ev.ite (fun h => ?_) (fun h => ?_)
    · rw [bP (by omega),h,Bool.true_and]
      exact ih (i+1) (by omega)
    · exact Ev.ret' (by rw [h]; rfl)
theorem T.lZ {B D d:Nat} {n:af} (hB:B<=lim) (h:Fine B (D+1) n) (hd:d<1000) (hs:∀ k,k∈n.Kids->Ev (fun f=>G.fP f k d) (Shape d k)) :
  Ev (fun f=>G.lZ f n ((d+1:Nat):Int)) (n.Kids.all (Shape d)):=by
 refine Ev.up ?_
 simp only [G.lZ]
 exact T.lZ.L1 hB h hd hs n.Kids.length 0 (by omega)
def Y1 (d:Nat) (n:af):Bool :=
 if n.Kind=1 then decide (-999999<=n.Num)&&decide (n.Num<=999999) else if n.Kind=2 then PT n.Text else if n.Kind=3 then n.Kids.all (Shape d)
 else if n.Kind=4 then n.Names.length==n.Kids.length&&NM n.Names&&n.Kids.all (Shape d) else n.Kind==0
theorem T.fP.K1 {B D d:Nat} {n:af} (hB:B<=lim) (h:Fine B (D+1) n) (hd:d<1000) (hs:∀ k,k∈n.Kids->Ev (fun f=>G.fP f k d) (Shape d k)) :
  Ev (fun f=>G.fP.K1 f n ((d+1:Nat):Int)) (Y1 d n):=by
 refine Ev.up ?_
 simp only [G.fP.K1]
 have hk:=T.lZ hB h hd hs
 unfold Y1
 refine Ev.ite (fun e => ?_) (fun e1 => ?_)
 ·rw [if_pos (by simpa using e)]
  exact Ev.bind (T.dW _ _ _) (Ev.ret _)
 rw [if_neg (by simpa using e1)]
 refine Ev.ite (fun e => ?_) (fun e2 => ?_)
 ·rw [if_pos (by simpa using e)]
  exact Ev.bind (T.eU _ (h.text hB)) (Ev.ret _)
 rw [if_neg (by simpa using e2)]
 refine Ev.ite (fun e => ?_) (fun e3 => ?_)
 ·rw [if_pos (by simpa using e)]
  exact Ev.bind hk (Ev.ret _)
 rw [if_neg (by simpa using e3)]
 refine Ev.ite (fun e => ?_) (fun e4 => ?_)
 ·rw [if_pos (by simpa using e),ilen]
  refine Ev.ite (fun k => ?_) (fun k=>Ev.ret' (by rw [k]; rfl))
  refine Ev.bind (T.kF _ (h.sm hB)) ?_
  refine Ev.ite (fun k2 => ?_) (fun k2=>Ev.ret' (by rw [k2]; simp))
  exact Ev.bind hk (Ev.ret' (by rw [k,k2]; rfl))
 ·exact Ev.ret' (by rw [if_neg (by simpa using e4)])
theorem YR {a:Nat} : decide ((0:Int)<((a:Nat):Int)) = !(a==0):=by cases a<;>simp
theorem O0 {c a:Bool} {g:Nat->Option Bool} {V:Bool} (h:Ev g V):Ev (fun f=>cond c (cond a (some false) (g f)) (g f)) ((!c || !a)&&V):=by
 cases c<;>cases a
 ·exact h
 ·exact h
 ·exact h
 ·exact Ev.ret _
theorem WA {c a:Bool} {g:Nat->Option Bool} {V:Bool} (h:Ev g V):Ev (fun f=>cond c (cond a (g f) (some false)) (g f)) ((!c||a)&&V):=by
 cases c<;>cases a
 ·exact h
 ·exact h
 ·exact Ev.ret _
 ·exact h
theorem Df {n:af} (h:6<n.Kids.length):Parts n=false:=by
  have e0:(n.Kids.length==0)=false:=beq_eq_false_iff_ne.2 (by omega)
  have e6:decide (n.Kids.length<=6)=false:=by simp; omega
  have e4:(NM n.Names&&decide (n.Names.length<=6)&&n.Kids.length==n.Names.length)=false:=by
    cases h1:decide (n.Names.length<=6) with
    | false=>simp
    | true =>
      have:(n.Kids.length==n.Names.length)=false:=by simp at h1; simp; omega
      rw [this,Bool.and_false]
  unfold Parts
  rw [e0,e6,e4]
  simp
theorem Vr {d:Nat} {n:af} (h:n.Kids.length<=6) :
  ((!(n.Kind != 1) || !(n.Num != 0))&&((!(n.Kind != 2)||n.Text==[])&&((!(n.Kind != 4) || !(!(n.Names.length==0)))&&((!(decide (n.Kind<3)) || !(!(n.Kids.length==0)))&&Y1 d n))))=Shape (d+1) n:=by
 have e6:decide (n.Kids.length<=6)=true:=by simp; omega
 have hall:n.Kids.length=0->n.Kids.all (Shape d)=true:=fun e=>by rw [List.eq_nil_of_length_eq_zero e]; rfl
 have hb:∀ x y:Int,(!(x != y))=(x==y):=fun x y=>by simp [bne]
 rw [hb,hb,hb,hb]
 unfold Shape Parts Y1
 simp only [Bool.not_not,Bool.and_assoc]
 congr 1
 congr 1
 congr 1
 rw [e6]
 by_cases k0:n.Kind=0
 ·simp only [k0]; cases hz:(n.Kids.length==0)<;>simp_all
 by_cases k1:n.Kind=1
 ·simp only [k1]; cases hz:(n.Kids.length==0)<;>simp_all
 by_cases k2:n.Kind=2
 ·simp only [k2]; cases hz:(n.Kids.length==0)<;>simp_all
 by_cases k3:n.Kind=3
 ·simp [k3]
 by_cases k4:n.Kind=4
 ·simp only [k4]
  have hc:(n.Kids.length==n.Names.length)=(n.Names.length==n.Kids.length):=by rw [Bool.eq_iff_iff]; simp; omega
  rw [hc]
  cases hz:(n.Names.length==n.Kids.length)
  ·simp
  ·have:decide (n.Names.length<=6)=true:=by simp at hz; simp; omega
   simp [this]
 ·simp [k0,k1,k2,k3,k4]
def Cnt:Nat->af->Nat
 | 0,_=>0
 | d+1,n=>1+(n.Kids.map (Cnt d)).sum
theorem lV {d:Nat} {n:af} (h:Shape (d+1) n=true):Parts n=true:=by
 unfold Shape at h; simp only [Bool.and_eq_true] at h; exact h.1
theorem nX {d:Nat} {n:af} (h:Shape (d+1) n=true):∀ k,k∈n.Kids->Shape d k=true:=by
 unfold Shape at h; simp only [Bool.and_eq_true] at h; exact List.all_eq_true.1 h.2
theorem tq {d:Nat} {n:af} (h:Shape d n=true):n.Kids.length<=6:=by
  cases d with
  | zero=>cases h
  | succ d =>
    by_cases k:n.Kids.length<=6
    · exact k
    · have:=Df (n:=n) (by omega); rw [lV h] at this; cases this
theorem VA {α:Type} (f:α->Nat) (m:Nat):∀ l:List α,(∀ x,x∈l->f x<=m)->(l.map f).sum<=l.length*m
  | [],_=>by simp
  | x::l,h=>by
    have h1:=VA f m l (fun y hy=>h y (by simp [hy]))
    have h2:=h x (by simp)
    simp only [List.map_cons,List.sum_cons,List.length_cons,Nat.add_mul]
    omega
theorem cnt_le:∀ {d:Nat} {n:af},Shape d n=true->Cnt d n<=7^d
  | 0,_,h=>by cases h
  | d+1,n,h=>by
    have hk:=nX h
    have:=VA (Cnt d) (7^d) n.Kids (fun k hk'=>cnt_le (hk k hk'))
    have h6:=tq h
    have hm:n.Kids.length*7^d<=6*7^d:=Nat.mul_le_mul_right _ h6
    have hp:1<=7^d:=Nat.one_le_pow _ _ (by omega)
    unfold Cnt
    rw [Nat.pow_succ]
    omega
theorem E8 {d:Nat} (h:d<=5):7^d<=16807:=Nat.le_trans (Nat.pow_le_pow_right (by omega) h) (by decide)
theorem T.fP {B:Nat} (hB:B<=lim):∀ (d D:Nat) (n:af),d<1000->Fine B D n->Ev (fun f=>G.fP f n (d:Int)) (Shape d n):=by
  intro d
  induction d with
  | zero =>
    intro D n _ h
    refine Ev.up ?_
    simp only [G.fP]
    exact Ev.ct (by simp) (Ev.ret _)
  | succ d ih =>
    intro D n hd h
    cases D with
    | zero=>exact h.elim
    | succ D =>
    have hK:=T.fP.K1 (d:=d) hB h (by omega) (fun k hk=>ih D k (by omega) (h.2.2.2.2.2 k hk))
    refine Ev.up ?_
    simp only [G.fP]
    rw [YR,YR]
    have t1:=O0 (c:=decide (n.Kind<3)) (a := !(n.Kids.length==0)) hK
    have t2:=O0 (c:=n.Kind != 4) (a := !(n.Names.length==0)) t1
    have t3:=WA (c:=n.Kind != 2) (a:=n.Text==[]) t2
    have t4:=O0 (c:=n.Kind != 1) (a:=n.Num != 0) t3
    refine Ev.cf (by simp; omega) ?_
    refine Ev.ite (fun e=>Ev.ret' ?_) (fun e=>t4.eq ?_)
    · simp only [decide_eq_true_eq] at e
      rw [Shape,Df (by omega)]; rfl
    · simp only [decide_eq_false_iff_not] at e
      exact Vr (by omega)
theorem T.jO.L1 {B D d:Nat} {n:af} (hB:B<=lim) (h:Fine B (D+1) n) (hs:∀ k,k∈n.Kids->Ev (fun f=>G.jO f k) ((Cnt d k:Nat):Int)) :
    ∀ (k i c:Nat),i+k=n.Kids.length->c+((n.Kids.drop i).map (Cnt d)).sum<big->Ev (fun f=>G.jO.L1 f n (c:Int) i) ((c+((n.Kids.drop i).map (Cnt d)).sum:Nat):Int):=by
  have hl:=h.kids
  unfold lim at hB
  unfold big
  intro k
  induction k with
  | zero =>
    intro i c hi hc
    refine Ev.up ?_
    simp only [G.jO.L1]
    refine Ev.cf (by simp; omega) (Ev.ret' ?_)
    rw [List.drop_of_length_le (by omega)]
    rfl
  | succ k ih =>
    intro i c hi
    rw [bT (default:af) (by omega:i<n.Kids.length),List.map_cons,List.sum_cons]
    intro hc
    refine Ev.up ?_
    simp only [G.jO.L1]
    refine Ev.ct (by simp; omega) (Ev.chk (by omega) ?_)
    rw [Int.toNat_natCast]
    refine Ev.bind (hs _ (by rw [dh _ (by omega:i<n.Kids.length)]; exact List.getElem_mem _)) ?_
    rw [bP (by omega),wrapN (m:=c+Cnt d (n.Kids.getD i default)) (by omega) (by omega)]
    exact (ih (i+1) (c+Cnt d (n.Kids.getD i default)) (by omega) (by omega)).eq (by congr 1; omega)
theorem T.jO {B:Nat} (hB:B<=lim):∀ (d D:Nat) (n:af),d<=5->Fine B D n->Shape d n=true->Ev (fun f=>G.jO f n) ((Cnt d n:Nat):Int):=by
  intro d
  induction d with
  | zero=>intro D n _ _ h; cases h
  | succ d ih =>
    intro D n hd h hS
    cases D with
    | zero=>exact h.elim
    | succ D =>
    have hS':=nX hS
    refine Ev.up ?_
    simp only [G.jO]
    have:=cnt_le (d:=d+1) (n:=n) hS
    have hp:=E8 hd
    refine (T.jO.L1 hB h (fun k hk=>ih D k (by omega) (h.2.2.2.2.2 k hk) (hS' k hk)) n.Kids.length 0 1 (by omega) ?_).eq rfl
    rw [List.drop_zero]
    show Cnt (d+1) n<big
    unfold big
    omega
def Val (n:af):Bool:=Shape 5 n&&decide (Cnt 5 n<=40)
theorem T.bH {B D:Nat} {n:af} (hB:B<=lim) (h:Fine B D n):Ev (fun f=>G.bH f n) (Val n):=by
 refine Ev.up ?_
 simp only [G.bH]
 refine Ev.bind (T.fP hB 5 D n (by omega) h) (Ev.ite (fun e => ?_) (fun e=>Ev.ret' (by rw [Val,e]; rfl)))
 refine Ev.bind (T.jO hB 5 D n (by omega) h e) (Ev.ret' ?_)
 rw [Val,e,Bool.true_and]
 apply decide_eq_decide.2
 omega
theorem T.bV.L1 {B D d l:Nat} {n:af} (hB:B<=lim) (h:Fine B (D+1) n) (hl:l<1000)
    (hs:∀ k,k∈n.Kids->∃ c dp,Ev (fun f=>G.bV f k ((l+1:Nat):Int)) (c,dp,Shape d k)/\(Shape d k=true->c=((Cnt d k:Nat):Int))) :
    ∀ (k i c:Nat) (dp:Int),i+k=n.Kids.length->(n.Kids.drop i).all (Shape d)=true->c+((n.Kids.drop i).map (Cnt d)).sum<big ->
      ∃ YB,Ev (fun f=>G.bV.L1 f n (l:Int) (c:Int) dp i) (((c+((n.Kids.drop i).map (Cnt d)).sum:Nat):Int),YB,true):=by
  have hk:=h.kids
  unfold lim at hB
  unfold big
  intro k
  induction k with
  | zero =>
    intro i c dp hi _ hc
    refine ⟨dp,Ev.up ?_⟩
    simp only [G.bV.L1]
    refine Ev.cf (by simp; omega) (Ev.ret' ?_)
    rw [List.drop_of_length_le (by omega)]
    rfl
  | succ k ih =>
    intro i c dp hi
    rw [bT (default:af) (by omega:i<n.Kids.length),List.map_cons,List.sum_cons,List.all_cons,Bool.and_eq_true]
    intro ⟨hS,hA⟩ hc
    obtain ⟨c1,d1,h1,h2⟩:=hs (n.Kids.getD i default) (by rw [dh _ (by omega:i<n.Kids.length)]; exact List.getElem_mem _)
    have e:=h2 hS
    subst e
    obtain ⟨YB,g1⟩:=ih (i+1) (c+Cnt d (n.Kids.getD i default)) (if IntKind.wrap .i64 (d1+1)>dp then IntKind.wrap .i64 (d1+1) else dp) (by omega) hA (by omega)
    refine ⟨YB,Ev.up ?_⟩
    simp only [G.bV.L1]
    refine Ev.ct (by simp; omega) (Ev.chk (by omega) ?_)
    rw [Int.toNat_natCast,bP (by omega)]
    refine Ev.bind h1 ?_
    refine Ev.ct hS ?_
    rw [bP (by omega),wrapN (m:=c+Cnt d (n.Kids.getD i default)) (by omega) (by omega)]
    exact g1.eq (by rw [Nat.add_assoc])
theorem T.bV.ZW {B D d l:Nat} {n:af} (hB:B<=lim) (h:Fine B (D+1) n) (hl:l<1000)
    (hs:∀ k,k∈n.Kids->∃ c dp,Ev (fun f=>G.bV f k ((l+1:Nat):Int)) (c,dp,Shape d k)) :
    ∀ (k i:Nat) (c dp:Int),i+k=n.Kids.length->(n.Kids.drop i).all (Shape d)=false->Ev (fun f=>G.bV.L1 f n (l:Int) c dp i) (0,0,false):=by
  have hk:=h.kids
  unfold lim at hB
  intro k
  induction k with
  | zero =>
    intro i c dp hi hA
    rw [List.drop_of_length_le (by omega)] at hA
    cases hA
  | succ k ih =>
    intro i c dp hi
    rw [bT (default:af) (by omega:i<n.Kids.length),List.all_cons]
    intro hA
    obtain ⟨c1,d1,h1⟩:=hs (n.Kids.getD i default) (by rw [dh _ (by omega:i<n.Kids.length)]; exact List.getElem_mem _)
    refine Ev.up ?_
    simp only [G.bV.L1]
    refine Ev.ct (by simp; omega) (Ev.chk (by omega) ?_)
    rw [Int.toNat_natCast,bP (by omega)]
    refine Ev.bind h1 ?_
    refine Ev.ite (fun hS => ?_) (fun hS=>Ev.ret _)
    have hS:Shape d (n.Kids.getD i default)=true:=hS
    rw [hS,Bool.true_and] at hA
    rw [bP (by omega)]
    exact ih (i+1) _ _ (by omega) hA
theorem T.bV {B:Nat} (hB:B<=lim):∀ (d l D:Nat) (n:af),d+l=6->1<=l->Fine B D n ->
    ∃ c dp,Ev (fun f=>G.bV f n (l:Int)) (c,dp,Shape d n)/\(Shape d n=true->c=((Cnt d n:Nat):Int)):=by
  intro d
  induction d with
  | zero =>
    intro l D n hl h1 h
    refine ⟨0,0,Ev.up ?_,fun e=>by cases e⟩
    simp only [G.bV]
    exact Ev.ct (by simp; omega) (Ev.ret _)
  | succ d ih =>
    intro l D n hl h1 h
    cases D with
    | zero=>exact h.elim
    | succ D =>
    have hs:=fun k (hk:k∈n.Kids)=>ih (l+1) D k (by omega) (by omega) (h.2.2.2.2.2 k hk)
    have hp:=T.di hB h
    cases hS:Shape (d+1) n with
    | true =>
      have hk:=nX hS
      have hc:=cnt_le hS
      have hpw:=E8 (d:=d+1) (by omega)
      obtain ⟨YB,g⟩:=T.bV.L1 hB h (by omega) hs n.Kids.length 0 1 1 (by omega) (by rw [List.drop_zero]; exact List.all_eq_true.2 hk) (by rw [List.drop_zero]; unfold big; show Cnt (d+1) n<_; omega)
      rw [List.drop_zero] at g
      refine ⟨((Cnt (d+1) n:Nat):Int),YB,Ev.up ?_,fun _=>rfl⟩
      simp only [G.bV]
      exact Ev.cf (by simp; omega) (Ev.bind hp (Ev.ct (lV hS) g))
    | false =>
      refine ⟨0,0,Ev.up ?_,fun e=>by cases e⟩
      simp only [G.bV]
      refine Ev.cf (by simp; omega) (Ev.bind hp (Ev.ite (fun e => ?_) (fun e=>Ev.ret _)))
      refine T.bV.ZW (d:=d) hB h (by omega) (fun k hk => ?_) n.Kids.length 0 1 1 (by omega) ?_
      · obtain ⟨c,dp,g,_⟩:=hs k hk; exact ⟨c,dp,g⟩
      · rw [List.drop_zero]; unfold Shape at hS; rw [e,Bool.true_and] at hS; exact hS
theorem T.aO {B D:Nat} {n:af} (hB:B<=lim) (h:Fine B D n):Ev (fun f=>G.aO f n) (Val n):=by
 obtain ⟨c,dp,g,hc⟩:=T.bV hB 5 1 D n rfl (by omega) h
 refine Ev.up ?_
 simp only [G.aO]
 refine Ev.bind g (Ev.ite (fun e=>Ev.ret' ?_) (fun e=>Ev.ret' ?_))
 ·have e:Shape 5 n=true:=e
  show decide (c<=40)=_
  rw [hc e,Val,e,Bool.true_and]
  apply decide_eq_decide.2
  omega
 ·have e:Shape 5 n=false:=e
  rw [Val,e]; rfl
theorem T.aB.L1 {B D:Nat} {n:af} (hB:B<=lim) (h:Fine B (D+1) n) (hs:∀ k,k∈n.Kids->Ev (fun f=>G.aB f k) k) :
    ∀ (k i:Nat),i+k=n.Kids.length->Ev (fun f=>G.aB.L1 f n i (n.Kids.take i)) n:=by
  have hl:=h.kids
  have hn:=h.names
  unfold lim at hB
  intro k
  induction k with
  | zero =>
    intro i hi
    refine Ev.up ?_
    simp only [G.aB.L1]
    refine Ev.cf (by simp; omega) (Ev.chk (by omega) (Ev.ret' ?_))
    rw [List.take_of_length_le (by omega)]
    cases n; rfl
  | succ k ih =>
    intro i hi
    refine Ev.up ?_
    simp only [G.aB.L1]
    refine Ev.ct (by simp; omega) (Ev.chk (by omega) ?_)
    rw [Int.toNat_natCast]
    refine Ev.bind (hs _ (by rw [dh _ (by omega:i<n.Kids.length)]; exact List.getElem_mem _)) ?_
    refine Ev.chk (by rw [List.length_take]; omega) ?_
    have e:n.Kids.take i++[n.Kids.getD i default]=n.Kids.take (i+1):=by rw [dh _ (by omega:i<n.Kids.length),List.take_succ_eq_append_getElem (by omega)]
    rw [bP (by omega),e]
    exact ih (i+1) (by omega)
theorem T.aB {B:Nat} (hB:B<=lim):∀ {D:Nat} {n:af},Fine B D n->Ev (fun f=>G.aB f n) n:=by
  intro D
  induction D with
  | zero=>intro n h; exact h.elim
  | succ D ih =>
    intro n h
    refine Ev.up ?_
    simp only [G.aB]
    exact T.aB.L1 hB h (fun k hk=>ih (h.2.2.2.2.2 k hk)) n.Kids.length 0 (by omega)
theorem T.aF.L2 {B D:Nat} {n:af} (zs:List aG) (hB:B<=lim) (h:Fine B (D+1) n) (hs:∀ k,k∈n.Kids->Ev (fun f=>G.aF f k) k) :
    ∀ (k i:Nat) (z:List af),i+k=n.Kids.length->z.length=n.Kids.length->z.take i=n.Kids.take i->Ev (fun f=>G.aF.L2 f n zs i z) (af.mk n.Kind n.Num n.Text zs n.Kids):=by
  have hl:=h.kids
  unfold lim at hB
  intro k
  induction k with
  | zero =>
    intro i z hi hz ht
    refine Ev.up ?_
    simp only [G.aF.L2]
    refine Ev.cf (by simp; omega) (Ev.ret' ?_)
    rw [List.take_of_length_le (by omega),List.take_of_length_le (by omega)] at ht
    rw [ht]
  | succ k ih =>
    intro i z hi hz ht
    refine Ev.up ?_
    simp only [G.aF.L2]
    refine Ev.ct (by simp; omega) (Ev.chk (by omega) ?_)
    rw [Int.toNat_natCast]
    refine Ev.bind (hs _ (by rw [dh _ (by omega:i<n.Kids.length)]; exact List.getElem_mem _)) ?_
    refine Ev.chk (by omega) ?_
    rw [bP (by omega)]
    refine ih (i+1) _ (by omega) (by rw [List.length_set]; exact hz) ?_
    rw [dh _ (by omega:i<n.Kids.length),List.take_succ_eq_append_getElem (by rw [List.length_set]; omega),List.take_succ_eq_append_getElem (by omega:i<n.Kids.length),List.getElem_set_self,List.take_set_of_le (Nat.le_refl i),ht]
theorem T.aF {B:Nat} (hB:B<=lim):∀ {D:Nat} {n:af},Fine B D n->Ev (fun f=>G.aF f n) n:=by
  intro D
  induction D with
  | zero=>intro n h; exact h.elim
  | succ D ih =>
    intro n h
    have hl:=h.kids
    have hn:=h.names
    have hB':=hB
    unfold lim at hB'
    have hK:Ev (fun f=>G.aF.K1 f n n.Names) n:=by
      refine Ev.up ?_
      simp only [G.aF.K1]
      refine Ev.ite (fun e => ?_) (fun e=>Ev.ret' ?_)
      · refine Ev.chk (by omega) ?_
        refine (T.aF.L2 n.Names hB h (fun k hk=>ih (h.2.2.2.2.2 k hk)) n.Kids.length 0 (List.replicate n.Kids.length (af.mk 0 0 [] [] [])) (by omega) (by simp) rfl).eq ?_
        cases n; rfl
      · have:n.Kids=[]:=by
          apply List.eq_nil_of_length_eq_zero
          simp only [decide_eq_false_iff_not] at e; omega
        cases n; simp only at this; subst this; rfl
    refine Ev.up ?_
    simp only [G.aF]
    refine Ev.ite (fun e => ?_) (fun e => ?_)
    · exact Ev.chk (by omega) hK
    · have:n.Names=[]:=by
        apply List.eq_nil_of_length_eq_zero
        simp only [decide_eq_false_iff_not] at e; omega
      rw [this] at hK
      exact hK
end Go.Ab
end
section
namespace Go.Ab
open Go
def vU (i:Nat):aG:=if i<10 then [UInt8.ofNat (48+i)] else vU (i/10)++[UInt8.ofNat (48+i%10)]
 termination_by i
theorem yS {i:Nat} (h:i<10):vU i=[UInt8.ofNat (48+i)]:=by rw [vU,if_pos h]
theorem Hq {i:Nat} (h:¬ i<10):vU i=vU (i/10)++[UInt8.ofNat (48+i%10)]:=by rw [vU,if_neg h]
theorem Uh:∀ (k i:Nat),i<k->(vU i).length<=i+1:=by
  intro k
  induction k with
  | zero=>intro i h; omega
  | succ k ih =>
    intro i h
    by_cases hi:i<10
    · rw [yS hi]; simp
    · rw [Hq hi,List.length_append]
      have:=ih (i/10) (by omega)
      simp only [List.length_singleton]
      omega
theorem wrap_u8 {m:Nat} (h:m<256):IntKind.wrap .u8 (m:Int)=m:=by
 simp only [IntKind.wrap,IntKind.bits,IntKind.signed]
 simp
 omega
theorem T.iQ:∀ (k i:Nat),i<k->i<lim->Ev (fun f=>G.iQ f (i:Int)) (vU i):=by
  intro k
  induction k with
  | zero=>intro i h; omega
  | succ k ih =>
    intro i h hl
    unfold lim at hl
    have hm:4294967296<maxLen:=by decide
    refine Ev.up ?_
    simp only [G.iQ]
    refine Ev.cf (by simp) ?_
    refine Ev.ite (fun e => ?_) (fun e => ?_)
    · simp only [decide_eq_true_eq] at e
      refine Ev.chk (by omega) (Ev.ret' ?_)
      rw [yS (by omega),wrapN (m:=48+i) (by omega) (by omega),wrap_u8 (by omega),Int.toNat_natCast]
    · simp only [decide_eq_false_iff_not] at e
      have e1:Int.tdiv (i:Int) 10=((i/10:Nat):Int):=by rw [Int.tdiv_eq_ediv_of_nonneg (by omega)]; omega
      have e2:Int.tmod (i:Int) 10=((i%10:Nat):Int):=by rw [Int.tmod_eq_emod_of_nonneg (by omega)]; omega
      rw [e1,e2,wrapN (m:=i/10) rfl (by omega),wrapN (m:=48+i%10) (by omega) (by omega),wrap_u8 (by omega),Int.toNat_natCast]
      refine Ev.bind (ih (i/10) (by omega) (by unfold lim; omega)) ?_
      have:=Uh (i/10+1) (i/10) (by omega)
      refine Ev.chk (by omega) (Ev.chk (by omega) (Ev.ret' ?_))
      exact (Hq (by omega)).symm
theorem T.decimal {i:Nat} (h:i<lim):Ev (fun f=>G.iQ f (i:Int)) (vU i):=T.iQ (i+1) i (by omega) h
theorem O3:∀ (k i:Nat),i<k->Lib.decDigits i=vU i:=by
  intro k
  induction k with
  | zero=>intro i h; omega
  | succ k ih =>
    intro i h
    by_cases h10:i<10
    · rw [Lib.decDigits_one h10,yS h10]
    · rw [Hq h10,Lib.decDigits,dif_neg h10,ih (i/10) (by omega)]
theorem UM (i:Nat):Lib.itoa (i:Int)=vU i:=by
 unfold Lib.itoa
 rw [if_neg (by omega),Int.toNat_natCast,O3 (i+1) i (by omega)]
theorem T.Itoa {n:Int} (h : -900000000000000<=n/\n<=900000000000000):Ev (fun f=>G.strconv_Itoa f n) (Lib.itoa n):=by
 refine Ev.up ?_
 simp only [G.strconv_Itoa]
 exact Ev.chk ⟨by omega,Nat.le_trans (Lib.itoa_length_le n (by omega) (by omega)) (by decide)⟩ (Ev.ret _)
theorem T.strconv_Itoa {i:Nat} (h:i<10):Ev (fun f=>G.strconv_Itoa f (i:Int)) (vU i):=by
 have:=T.Itoa (n:=(i:Int)) (by omega)
 rwa [UM] at this
def hit (n:af) (s:aG) (j:Nat):Bool:=(n.Kind==4&&n.Names.getD j default==s)||(n.Kind==3&&vU j==s)
def uF (n:af) (s:aG):Option Nat:=(List.range' 0 n.Kids.length).find? (hit n s)
def vJ:Option Nat->Int
 | some j=>j
 | none => -1
theorem qp {n:af} {s:aG} {j:Nat} (h:uF n s=some j):j<n.Kids.length:=by
 have:=List.mem_of_find?_eq_some h
 simp at this
 exact this
theorem Bv {n:af} {s:aG} {j:Nat} (h:uF n s=some j):hit n s j=true:=List.find?_some h
theorem T.fB.L1 {B D:Nat} {n:af} (s:aG) (hB:B<=lim) (h:Fine B D n) :
    ∀ (k i:Nat),i+k=n.Kids.length->Ev (fun f=>G.fB.L1 f n s i) (vJ ((List.range' i k).find? (hit n s))):=by
  have hl:=h.kids
  have hm:=h.map
  intro k
  induction k with
  | zero =>
    intro i hi
    refine Ev.up ?_
    simp only [G.fB.L1]
    exact Ev.cf (by simp; omega) (Ev.ret _)
  | succ k ih =>
    intro i hi
    have hih:=ih (i+1) (by omega)
    have hd:=T.decimal (i:=i) (by omega)
    unfold lim at hB
    rw [List.range'_succ,List.find?_cons]
    have Zg:n.Kind ≠ 4->Ev (fun f=>cond (n.Kind==3) (Option.bind (G.iQ f (i:Int)) fun v5=>cond (v5==s) (some (i:Int)) (G.fB.L1 f n s (IntKind.wrap .i64 ((i:Int)+1)))) (G.fB.L1 f n s (IntKind.wrap .i64 ((i:Int)+1))))
        (vJ (match hit n s i with | true=>some i | false=>(List.range' (i+1) k).find? (hit n s))):=by
      intro h4
      have e4:(n.Kind==4)=false:=by simpa using h4
      rw [bP (by omega)]
      refine Ev.ite (fun e => ?_) (fun e => ?_)
      · refine Ev.bind hd (Ev.ite (fun e2=>Ev.ret' ?_) (fun e2 => ?_))
        · rw [show hit n s i=true by unfold hit; rw [e,e2,e4]; rfl]; rfl
        · exact hih.eq (by rw [show hit n s i=false by unfold hit; rw [e,e2,e4]; rfl])
      · exact hih.eq (by rw [show hit n s i=false by unfold hit; rw [e,e4]; rfl])
    refine Ev.up ?_
    simp only [G.fB.L1]
    refine Ev.ct (by simp; omega) ?_
    refine Ev.ite (fun e => ?_) (fun e=>Zg (by simpa using e))
    have h4:n.Kind=4:=by simpa using e
    have:=hm h4
    refine Ev.chk (by omega) ?_
    rw [Int.toNat_natCast]
    refine Ev.ite (fun e2=>Ev.ret' ?_) (fun e2 => ?_)
    · rw [show hit n s i=true by unfold hit; rw [e,e2]; rfl]; rfl
    · refine Ev.cf (by rw [h4]; rfl) ?_
      rw [bP (by omega)]
      exact hih.eq (by rw [show hit n s i=false by unfold hit; rw [e2,h4]; rfl])
theorem T.fB {B D:Nat} {n:af} (s:aG) (hB:B<=lim) (h:Fine B D n):Ev (fun f=>G.fB f n s) (vJ (uF n s)):=by
 refine Ev.up ?_
 simp only [G.fB]
 exact T.fB.L1 s hB h n.Kids.length 0 (by omega)
theorem T.cmp_Less_string (x y:aG):Ev (fun f=>G.cmp_Less_string f x y) (bl x y):=by
 refine Ev.up ?_
 simp only [G.cmp_Less_string]
 have:Ev (fun f=>G.cmp_isNaN_string f x) false:=by
  refine Ev.up ?_
  simp only [G.cmp_isNaN_string]
  exact Ev.ret' (by simp)
 exact Ev.bind this (Ev.ret _)
structure LB (l:List aG) (t:aG) (i:Nat):Prop where
 le:i<=l.length
 lo:∀ j,j<i->bl (l.getD j default) t=true
 hi:∀ j,i<=j->j<l.length->bl (l.getD j default) t=false
theorem half (i j:Nat) (h:i+j<9223372036854775808):IntKind.wrap .i64 ((Int.fdiv (IntKind.wrap .u64 (IntKind.wrap .i64 ((i:Int)+(j:Int)))) (2^(min 1 (IntKind.bits .u64)))))=(((i+j)/2:Nat):Int):=by
 rw [wrapN (x:=(i:Int)+(j:Int)) (m:=i+j) (by omega) h]
 have e:IntKind.wrap .u64 ((i+j:Nat):Int)=((i+j:Nat):Int):=by
  simp only [IntKind.wrap,IntKind.bits,IntKind.signed]
  simp
  omega
 rw [e]
 have e2:Int.fdiv ((i+j:Nat):Int) (2^(min 1 (IntKind.bits .u64)))=(((i+j)/2:Nat):Int):=by
  have:(2:Int)^(min 1 (IntKind.bits .u64))=2:=rfl
  rw [this,Int.fdiv_eq_ediv_of_nonneg _ (by omega)]
  omega
 rw [e2]
 exact wrapN rfl (by omega)
theorem T.BinarySearch.L1 {l:List aG} (t:aG) (hl:l.length<big) (hA:∀ i j,i<j->j<l.length->bl (l.getD i default) (l.getD j default)=true) :
    ∀ (k i j:Nat),j-i<=k->i<=j->j<=l.length->(∀ q,q<i->bl (l.getD q default) t=true)->(∀ q,j<=q->q<l.length->bl (l.getD q default) t=false) ->
      ∃ p:Nat,Ev (fun f=>G.slices_BinarySearch_string.L1 f l t i j) ((p:Int),decide (p<l.length)&&l.getD p default==t)/\LB l t p:=by
  unfold big at hl
  intro k
  induction k with
  | zero =>
    intro i j hk hij hj hlo hhi
    have:i=j:=by omega
    subst this
    refine ⟨i,Ev.up ?_,hj,hlo,hhi⟩
    simp only [G.slices_BinarySearch_string.L1]
    refine Ev.cf (by simp) (Ev.ite (fun e => ?_) (fun e=>Ev.ret' ?_))
    · have e':i<l.length:=by simpa using e
      rw [Int.toNat_natCast]
      have d1:decide (i<l.length)=true:=by simpa using e'
      rw [d1,Bool.true_and]
      refine Ev.chk (by omega) (Ev.ite (fun e2=>Ev.ret' (by rw [e2])) (fun e2=>Ev.chk (by omega) ?_))
      have:Ev (fun f=>G.slices_isNaN_string f (l.getD i default)) false:=by
        refine Ev.up ?_
        simp only [G.slices_isNaN_string]
        exact Ev.ret' (by simp)
      exact Ev.bind this (Ev.ret' (by rw [e2]))
    · have d1:decide (i<l.length)=false:=by simpa using e
      rw [d1]; rfl
  | succ k ih =>
    intro i j hk hij hj hlo hhi
    by_cases he:i=j
    · exact ih i j (by omega) hij hj hlo hhi
    have h1:(i+j)/2<j:=by omega
    have h2:i<=(i+j)/2:=by omega
    cases hc:bl (l.getD ((i+j)/2) default) t with
    | true =>
      obtain ⟨p,g,hp⟩:=ih ((i+j)/2+1) j (by omega) (by omega) hj (fun q hq=>by
        by_cases hq2:q=(i+j)/2
        · rw [hq2]; exact hc
        · exact rV (hA q ((i+j)/2) (by omega) (by omega)) hc) hhi
      refine ⟨p,Ev.up ?_,hp⟩
      simp only [G.slices_BinarySearch_string.L1]
      refine Ev.ct (by simp; omega) ?_
      rw [half i j (by omega),Int.toNat_natCast]
      refine Ev.chk (by omega) (Ev.bind (T.cmp_Less_string _ _) (Ev.ct hc ?_))
      rw [bP (by omega)]
      exact g
    | false =>
      obtain ⟨p,g,hp⟩:=ih i ((i+j)/2) (by omega) h2 (by omega) hlo (fun q hq hq2=>by
        by_cases hq3:q=(i+j)/2
        · rw [hq3]; exact hc
        · cases hb:bl (l.getD q default) t with
          | false=>rfl
          | true=>rw [rV (hA ((i+j)/2) q (by omega) hq2) hb] at hc; cases hc)
      refine ⟨p,Ev.up ?_,hp⟩
      simp only [G.slices_BinarySearch_string.L1]
      refine Ev.ct (by simp; omega) ?_
      rw [half i j (by omega),Int.toNat_natCast]
      refine Ev.chk (by omega) (Ev.bind (T.cmp_Less_string _ _) (Ev.cf hc ?_))
      exact g
theorem wW {x:aG} {l:List aG} (h:Asc (x::l)=true):Asc l=true:=by
 cases l with
 | nil=>rfl
 | cons y r=>rw [Asc,Bool.and_eq_true] at h; exact h.2
theorem yc:∀ {l:List aG} {x:aG},Asc (x::l)=true->∀ y,y∈l->bl x y=true
  | [],_,_,y,hy=>by cases hy
  | z::r,x,h,y,hy=>by
    have h1:bl x z=true:=by rw [Asc,Bool.and_eq_true] at h; exact h.1
    rcases List.mem_cons.1 hy with rfl | hy
    · exact h1
    · exact rV h1 (yc (wW h) y hy)
theorem uX:∀ {l:List aG},Asc l=true->∀ i j,i<j->j<l.length->bl (l.getD i default) (l.getD j default)=true
  | [],_,i,j,_,hj=>by simp at hj
  | x::l,h,i,j,hij,hj=>by
    cases j with
    | zero=>omega
    | succ j =>
      rw [List.getD_cons_succ]
      have hj':j<l.length:=by simpa using hj
      cases i with
      | zero=>rw [List.getD_cons_zero,dh _ hj']; exact yc h _ (List.getElem_mem _)
      | succ i=>rw [List.getD_cons_succ]; exact uX (wW h) i j (by omega) hj'
theorem T.slices_BinarySearch_string {l:List aG} (t:aG) (hl:l.length<big) (hA:Asc l=true) :
  ∃ p:Nat,Ev (fun f=>G.slices_BinarySearch_string f l t) ((p:Int),decide (p<l.length)&&l.getD p default==t)/\LB l t p:=by
 obtain ⟨p,g,hp⟩:=T.BinarySearch.L1 t hl (uX hA) l.length 0 l.length (by omega) (by omega) (by omega) (fun q hq=>by omega) (fun q h1 h2=>by omega)
 refine ⟨p,Ev.up ?_,hp⟩
 simp only [G.slices_BinarySearch_string]
 exact g
end Go.Ab
end
section
namespace Go.Ab
open Go
theorem af.eta (n:af):af.mk n.Kind n.Num n.Text n.Names n.Kids=n:=by cases n; rfl
theorem Ba {p:Nat->Bool} : ∀ {k i:Nat},(List.range' i k).find? p=none<->∀ q,i<=q->q<i+k->p q=false:=by
 intro k i
 rw [List.find?_eq_none]
 constructor
 ·intro h q h1 h2
  have:=h q (by simp; omega)
  simpa using this
 ·intro h q hq
  simp at hq
  rw [h q hq.1 hq.2]; simp
theorem wQ {p:Nat->Bool} : ∀ {k i j:Nat},(List.range' i k).find? p=some j<->(i<=j/\j<i+k/\p j=true/\∀ q,i<=q->q<j->p q=false):=by
  intro k
  induction k with
  | zero=>intro i j; simp; omega
  | succ k ih =>
    intro i j
    rw [List.range'_succ,List.find?_cons]
    cases h:p i with
    | true =>
      simp only [Option.some.injEq]
      constructor
      · rintro rfl
        exact ⟨by omega,by omega,h,fun q h1 h2=>by omega⟩
      · rintro ⟨h1,h2,h3,h4⟩
        by_cases e:i=j
        · exact e
        · have:=h4 i (by omega) (by omega); rw [h] at this; cases this
    | false =>
      simp only
      rw [ih]
      constructor
      · rintro ⟨h1,h2,h3,h4⟩
        refine ⟨by omega,by omega,h3,fun q g1 g2 => ?_⟩
        by_cases e:q=i
        · rw [e]; exact h
        · exact h4 q (by omega) g2
      · rintro ⟨h1,h2,h3,h4⟩
        have:j ≠ i:=fun e=>by rw [e,h] at h3; cases h3
        exact ⟨by omega,by omega,h3,fun q g1 g2=>h4 q (by omega) g2⟩
theorem Am {n:af} {s:aG} {j:Nat} : uF n s=some j<->(j<n.Kids.length/\hit n s j=true/\∀ q,q<j->hit n s q=false):=by
 unfold uF
 rw [wQ]
 constructor
 ·rintro ⟨h1,h2,h3,h4⟩; exact ⟨by omega,h3,fun q hq=>h4 q (by omega) hq⟩
 ·rintro ⟨h1,h2,h3⟩; exact ⟨by omega,by omega,h2,fun q _ hq=>h3 q hq⟩
theorem Ec {n:af} {s:aG} : uF n s=none<->∀ q,q<n.Kids.length->hit n s q=false:=by
 unfold uF
 rw [Ba]
 constructor
 ·intro h q hq; exact h q (by omega) (by omega)
 ·intro h q _ hq; exact h q (by omega)
theorem rq {n:af} (h:Parts n=true) (hk:n.Kind=4):n.Num=0/\n.Text=[]/\NM n.Names=true/\n.Names.length<=6/\n.Kids.length=n.Names.length:=by
 unfold Parts at h
 simp [hk] at h
 obtain ⟨⟨h1,h2⟩,⟨h3,h4⟩,h5⟩:=h
 exact ⟨h1,h2,h3,h4,h5⟩
theorem vg {n:af} (h:Parts n=true) (hk:n.Kind=3):n.Num=0/\n.Text=[]/\n.Names=[]/\n.Kids.length<=6:=by
 unfold Parts at h
 simp [hk] at h
 obtain ⟨⟨⟨h1,h2⟩,h3⟩,h4⟩:=h
 exact ⟨h1,h2,h3,h4⟩
theorem CY {n:af} (h:Parts n=true) (h4:n.Kind ≠ 4) (h3:n.Kind ≠ 3):n.Names=[]/\n.Kids=[]:=by
 unfold Parts at h
 have e4:(n.Kind==4)=false:=by simpa using h4
 simp only [Bool.and_eq_true,e4,Bool.false_or] at h
 obtain ⟨⟨_,h1⟩,h2⟩:=h
 refine ⟨List.eq_nil_of_length_eq_zero (by simpa using h1),List.eq_nil_of_length_eq_zero ?_⟩
 by_cases k0:n.Kind=0
 ·rw [if_pos k0] at h2; simpa using h2
 rw [if_neg k0] at h2
 by_cases k1:n.Kind=1
 ·rw [if_pos k1] at h2; simp at h2; rw [h2.2]; rfl
 rw [if_neg k1] at h2
 by_cases k2:n.Kind=2
 ·rw [if_pos k2] at h2; simp at h2; rw [h2.2]; rfl
 rw [if_neg k2,if_neg h3,if_neg h4] at h2
 cases h2
theorem CV {l:List aG} (h:NM l=true):Asc l=true:=by unfold NM at h; simp only [Bool.and_eq_true] at h; exact h.2
theorem Pv {l:List aG} (h:NM l=true):∀ s,s∈l->PT s=true:=by unfold NM at h; simp only [Bool.and_eq_true] at h; exact List.all_eq_true.1 h.1
theorem EZ {n:af} (h:Parts n=true):n.Kids.length<=6:=by
 by_cases k:n.Kids.length<=6
 ·exact k
 ·rw [Df (by omega)] at h; cases h
theorem vC {n:af} (hk:n.Kind=4) (s:aG) (j:Nat):hit n s j=(n.Names.getD j default==s):=by unfold hit; rw [hk]; simp
theorem UB {n:af} (hk:n.Kind=3) (s:aG) (j:Nat):hit n s j=(vU j==s):=by unfold hit; rw [hk]; simp
theorem yx {n:af} (h4:n.Kind ≠ 4) (h3:n.Kind ≠ 3) (s:aG) (j:Nat):hit n s j=false:=by
 unfold hit
 rw [show (n.Kind==4)=false by simpa using h4,show (n.Kind==3)=false by simpa using h3]; rfl
theorem KX {n:af} {s:aG} {p:Nat} (hk:n.Kind=4) (hA:Asc n.Names=true) (hl:n.Kids.length=n.Names.length) (h:LB n.Names s p) :
    uF n s=if decide (p<n.Names.length)&&n.Names.getD p default==s then some p else none:=by
  cases hc:decide (p<n.Names.length)&&n.Names.getD p default==s with
  | true =>
    simp only [Bool.and_eq_true,decide_eq_true_eq] at hc
    rw [if_pos rfl,Am]
    refine ⟨by omega,by rw [vC hk]; exact hc.2,fun q hq => ?_⟩
    rw [vC hk]
    have:=xG (h.lo q hq)
    simpa using this
  | false =>
    rw [if_neg (by simp),Ec]
    intro q hq
    rw [vC hk]
    by_cases h1:q<p
    · have:=xG (h.lo q h1)
      simpa using this
    · cases he:n.Names.getD q default==s with
      | false=>rfl
      | true =>
        rw [beq_iff_eq] at he
        by_cases h2:q=p
        · subst h2
          rw [he] at hc
          have:decide (q<n.Names.length)=true:=by simp; omega
          rw [this] at hc
          simp at hc
        · have:=uX hA p q (by omega) (by omega)
          rw [he,h.hi p (by omega) (by omega)] at this
          cases this
theorem T.bZ.L1 {n:af} (s:aG) (hk:n.Kind=3) (hl:n.Kids.length<=6) :
    ∀ (k i:Nat),i+k=n.Kids.length->Ev (fun f=>G.bZ.L1 f n s i) (match (List.range' i k).find? (hit n s) with | some j=>((j:Int),true) | none=>(0,false)):=by
  intro k
  induction k with
  | zero =>
    intro i hi
    refine Ev.up ?_
    simp only [G.bZ.L1]
    exact Ev.cf (by simp; omega) (Ev.ret _)
  | succ k ih =>
    intro i hi
    refine Ev.up ?_
    simp only [G.bZ.L1]
    refine Ev.ct (by simp; omega) (Ev.bind (T.strconv_Itoa (i:=i) (by omega)) ?_)
    rw [List.range'_succ,List.find?_cons,UB hk,bP (by omega)]
    refine Ev.ite (fun e=>Ev.ret' (by rw [e])) (fun e => ?_)
    exact (ih (i+1) (by omega)).eq (by rw [e])
theorem T.bZ {n:af} (s:aG) (h:Parts n=true) :
    ∃ v b,Ev (fun f=>G.bZ f n s) (v,b)/\(∀ j,uF n s=some j->v=(j:Int)/\b=true)/\(uF n s=none->b=false):=by
  by_cases h4:n.Kind=4
  · obtain ⟨_,_,hN,hl,hkl⟩:=rq h h4
    obtain ⟨p,g,hp⟩:=T.slices_BinarySearch_string s (by unfold big; omega) (CV hN)
    have hpl:=KX h4 (CV hN) hkl hp
    refine ⟨p,decide (p<n.Names.length)&&n.Names.getD p default==s,Ev.up ?_,fun j hj => ?_,fun hn => ?_⟩
    · simp only [G.bZ]
      exact Ev.ct (by simpa using h4) (Ev.bind g (Ev.ret _))
    · rw [hpl] at hj
      split at hj
      · rename_i hc
        cases hj
        exact ⟨rfl,hc⟩
      · cases hj
    · rw [hpl] at hn
      split at hn
      · cases hn
      · rename_i hc; simpa using hc
  · have e4:(n.Kind==4)=false:=by simpa using h4
    by_cases h3:n.Kind=3
    · obtain ⟨_,_,_,hl⟩:=vg h h3
      have g:=T.bZ.L1 s h3 hl n.Kids.length 0 (by omega)
      cases hp:uF n s with
      | some j =>
        refine ⟨j,true,Ev.up ?_,fun j' hj=>(by cases hj; exact ⟨rfl,rfl⟩),fun hn=>(by cases hn)⟩
        simp only [G.bZ]
        refine Ev.cf e4 (Ev.ct (by simpa using h3) ?_)
        exact g.eq (by unfold uF at hp; rw [hp])
      | none =>
        refine ⟨0,false,Ev.up ?_,fun j' hj=>(by cases hj),fun _=>rfl⟩
        simp only [G.bZ]
        refine Ev.cf e4 (Ev.ct (by simpa using h3) ?_)
        exact g.eq (by unfold uF at hp; rw [hp])
    · have hp:uF n s=none:=Ec.2 (fun q _=>yx h4 h3 s q)
      refine ⟨0,false,Ev.up ?_,fun j hj=>(by rw [hp] at hj; cases hj),fun _=>rfl⟩
      simp only [G.bZ]
      exact Ev.cf e4 (Ev.cf (by simpa using h3) (Ev.ret _))
def zT:af->List aG->Option af
  | n,[]=>some n
  | n,s::p=>match uF n s with
    | some j=>zT (n.Kids.getD j default) p
    | none=>none
def mX:af:=af.mk 0 0 [] [] []
def jT:Option af->af × Bool
 | some n=>(n,true)
 | none=>(mX,false)
theorem T.lY.L1 {B:Nat} (p:List aG) (hB:B<=lim) (hp:p.length<big) :
    ∀ (k i D:Nat) (n:af),i+k=p.length->Fine B D n->Ev (fun f=>G.lY.L1 f p i n.Kind n.Num n.Text n.Names n.Kids) (jT (zT n (p.drop i))):=by
  unfold big at hp
  intro k
  induction k with
  | zero =>
    intro i D n hi h
    refine Ev.up ?_
    simp only [G.lY.L1,af.eta]
    refine Ev.cf (by simp; omega) ?_
    rw [List.drop_of_length_le (by omega)]
    have hc:=T.aB hB h
    exact Ev.bind hc (Ev.ret _)
  | succ k ih =>
    intro i D n hi h
    refine Ev.up ?_
    simp only [G.lY.L1,af.eta]
    refine Ev.ct (by simp; omega) (Ev.chk (by omega) ?_)
    rw [bT (default:aG) (by omega:i<p.length),Int.toNat_natCast]
    have hP:=T.fB (p.getD i default) hB h
    refine Ev.bind hP ?_
    rw [zT]
    cases hj:uF n (p.getD i default) with
    | none=>exact Ev.ct rfl (Ev.ret _)
    | some j =>
      have hjl:=qp hj
      cases D with
      | zero=>exact h.elim
      | succ D =>
      refine Ev.cf (decide_eq_false (by simp only [vJ]; omega)) (Ev.chk (by simp only [vJ]; omega) ?_)
      rw [bP (by omega)]
      exact ih (i+1) D _ (by omega) (h.kid hjl)
theorem T.lY {B D:Nat} {n:af} (p:List aG) (hB:B<=lim) (hp:p.length<big) (h:Fine B D n):Ev (fun f=>G.lY f n p) (jT (zT n p)):=by
 refine Ev.up ?_
 simp only [G.lY]
 exact T.lY.L1 p hB hp p.length 0 D n (by omega) h
theorem T.iF.L1 (p:List aG) (hp:p.length<big) :
    ∀ (k i d:Nat) (n:af),i+k=p.length->Shape d n=true->Ev (fun f=>G.iF.L1 f p i n.Kind n.Num n.Text n.Names n.Kids) (jT (zT n (p.drop i))):=by
  unfold big at hp
  intro k
  induction k with
  | zero =>
    intro i d n hi h
    refine Ev.up ?_
    simp only [G.iF.L1,af.eta]
    refine Ev.cf (by simp; omega) ?_
    rw [List.drop_of_length_le (by omega)]
    exact Ev.ret _
  | succ k ih =>
    intro i d n hi h
    cases d with
    | zero=>cases h
    | succ d =>
    refine Ev.up ?_
    simp only [G.iF.L1,af.eta]
    refine Ev.ct (by simp; omega) (Ev.chk (by omega) ?_)
    rw [bT (default:aG) (by omega:i<p.length),Int.toNat_natCast]
    obtain ⟨v,b,g,h1,h2⟩:=T.bZ (p.getD i default) (lV h)
    refine Ev.bind g ?_
    rw [zT]
    cases hj:uF n (p.getD i default) with
    | none=>exact Ev.cf (h2 hj) (Ev.ret _)
    | some j =>
      have hjl:=qp hj
      obtain ⟨rfl,rfl⟩:=h1 j hj
      refine Ev.ct rfl (Ev.chk (by omega) ?_)
      rw [bP (by omega)]
      exact ih (i+1) d _ (by omega) (nX h _ (by rw [Int.toNat_natCast,dh _ hjl]; exact List.getElem_mem _))
theorem T.iF {d:Nat} {n:af} (p:List aG) (hp:p.length<big) (h:Shape d n=true):Ev (fun f=>G.iF f n p) (jT (zT n p)):=by
 refine Ev.up ?_
 simp only [G.iF]
 exact T.iF.L1 p hp p.length 0 d n (by omega) h
end Go.Ab
end
section
namespace Go.Ab
open Go
def xq (n:af) (j:Nat) (c:af):af:=af.mk n.Kind n.Num n.Text n.Names (n.Kids.set j c)
def wz (f:af->Option af):af->List aG->Option af
  | n,[]=>f n
  | n,s::p=>match uF n s with
    | some j=>(wz f (n.Kids.getD j default) p).map (xq n j)
    | none=>none
def F7 (n:af) (p:List aG) (v:af):Option af:=wz (fun _=>some v) n p
theorem JV (f:af->Option af):∀ (p:List aG) (n:af),wz f n p=(zT n p).bind fun m=>(f m).bind fun m'=>F7 n p m'
  | [],n=>by
    show f n=(f n).bind fun m'=>some m'
    cases f n<;>rfl
  | s::p,n=>by
    rw [wz,zT]
    cases hj:uF n s with
    | none=>rfl
    | some j =>
      simp only
      rw [JV f p]
      cases ha:zT (n.Kids.getD j default) p with
      | none=>rfl
      | some m =>
        simp only [Option.bind_some]
        cases hf:f m with
        | none=>rfl
        | some m' =>
          simp only [Option.bind_some]
          unfold F7
          rw [wz,hj]
theorem MV {B D E:Nat} {n v:af} {j:Nat} (h:Fine B (D+1) n) (hv:Fine B E v):Fine B (max D E+1) (xq n j v):=by
 obtain ⟨h1,h2,h3,h4,h5,h6⟩:=h
 refine ⟨h1,h2,h3,by simpa [xq] using h4,by simpa [xq] using h5,fun k hk => ?_⟩
 rcases List.mem_or_eq_of_mem_set hk with hk | rfl
 ·exact (h6 k hk).mono (Nat.le_refl _) (Nat.le_max_left _ _)
 ·exact hv.mono (Nat.le_refl _) (Nat.le_max_right _ _)
theorem HY {B E:Nat} {f:af->Option af} : ∀ (p:List aG) {D:Nat} {n m:af},(∀ D' k k',Fine B D' k->f k=some k'->Fine B (D'+E) k')->Fine B D n->wz f n p=some m->Fine B (D+E) m
  | [],D,n,m,hf,h,hm=>hf D n m h hm
  | s::p,D,n,m,hf,h,hm=>by
    rw [wz] at hm
    cases hj:uF n s with
    | none=>rw [hj] at hm; cases hm
    | some j =>
      rw [hj] at hm
      simp only at hm
      cases D with
      | zero=>exact h.elim
      | succ D =>
      cases hc:wz f (n.Kids.getD j default) p with
      | none=>rw [hc] at hm; cases hm
      | some c =>
        rw [hc] at hm
        cases hm
        have:=MV (j:=j) h (HY p hf (h.kid (qp hj)) hc)
        exact this.mono (Nat.le_refl _) (by omega)
theorem Bg {B D E:Nat} {n v m:af} {p:List aG} (h:Fine B D n) (hv:Fine B E v) (hm:F7 n p v=some m):Fine B (D+E) m :=
 HY p (fun D' k k' _ e=>by cases e; exact hv.mono (Nat.le_refl _) (by omega)) h hm
theorem Be {B:Nat} : ∀ (p:List aG) {D:Nat} {n m:af},Fine B D n->zT n p=some m->Fine B D m
  | [],_,_,_,h,e=>by cases e; exact h
  | s::p,D,n,m,h,e=>by
    rw [zT] at e
    cases hj:uF n s with
    | none=>rw [hj] at e; cases e
    | some j =>
      rw [hj] at e
      cases D with
      | zero=>exact h.elim
      | succ D=>exact (Be p (h.kid (qp hj)) e).mono (Nat.le_refl _) (by omega)
theorem T.jD {B D E:Nat} {n v:af} {j:Nat} (hB:B<=lim) (h:Fine B D n) (hv:Fine B E v) (hj:j<n.Kids.length):Ev (fun f=>G.jD f n j v) (xq n j v):=by
 refine Ev.up ?_
 simp only [G.jD]
 refine Ev.bind (T.aB hB h) (Ev.bind (T.aB hB hv) (Ev.chk (by omega) (Ev.ret' ?_)))
 rw [Int.toNat_natCast]; rfl
theorem T.jQ {B E:Nat} {v:af} (hB:B<=lim) (hv:Fine B E v):∀ (p:List aG) {D:Nat} {n:af},p.length<big->Fine B D n->Ev (fun f=>G.jQ f n p v) (jT (F7 n p v))
  | [],D,n,_,h=>by
    refine Ev.up ?_
    simp only [G.jQ]
    exact Ev.ct rfl (Ev.bind (T.aB hB hv) (Ev.ret _))
  | s::p,D,n,hp,h=>by
    simp only [List.length_cons] at hp
    have hp':=hp
    unfold big at hp'
    refine Ev.up ?_
    simp only [G.jQ]
    refine Ev.cf (by simp; omega) (Ev.chk (by simp) ?_)
    rw [List.getD_cons_zero]
    refine Ev.bind (T.fB s hB h) ?_
    unfold F7
    rw [wz]
    cases hj:uF n s with
    | none=>exact Ev.ct rfl (Ev.ret _)
    | some j =>
      have hjl:=qp hj
      cases D with
      | zero=>exact h.elim
      | succ D =>
      refine Ev.cf (decide_eq_false (by simp only [vJ]; omega)) (Ev.chk (by simp only [vJ]; omega) (Ev.chk (by simp; omega) ?_))
      have hk:=h.kid hjl
      have ih:=T.jQ hB hv p (by omega) hk
      refine Ev.bind (show Ev (fun f=>G.jQ f (n.Kids.getD (vJ (some j)).toNat default) ((s::p).drop 1) v) _ from ih) ?_
      show Ev _ (jT ((F7 (n.Kids.getD j default) p v).map (xq n j)))
      cases hc:F7 (n.Kids.getD j default) p v with
      | none=>exact Ev.cf rfl (Ev.ret _)
      | some c =>
        refine Ev.ct rfl ?_
        exact Ev.bind (T.jD hB h (Bg hk hv hc) hjl) (Ev.ret _)
theorem Il {s:aG} (h:PT s=true):s.length<=12:=by unfold PT at h; simp at h; exact h.2
theorem pR:∀ {d:Nat} {n:af},Shape d n=true->Fine 12 d n
  | 0,_,h=>by cases h
  | d+1,n,h=>by
    have hp:=lV h
    have hk:=nX h
    have hl:=EZ hp
    refine ⟨?_,?_,?_,by omega,?_,fun k hk'=>pR (hk k hk')⟩
    · by_cases h2:n.Kind=2
      · unfold Parts at hp; simp [h2] at hp; exact Il hp.2.1
      · have e2:(n.Kind==2)=false:=by simpa using h2
        unfold Parts at hp
        simp only [e2,Bool.false_or,Bool.and_eq_true] at hp
        have:=hp.1.1.2
        rw [beq_iff_eq] at this
        rw [this]; simp
    · by_cases h4:n.Kind=4
      · have:=(rq hp h4).2.2.2.1; omega
      · by_cases h3:n.Kind=3
        · rw [(vg hp h3).2.2.1]; simp
        · rw [(CY hp h4 h3).1]; simp
    · intro s hs
      by_cases h4:n.Kind=4
      · exact Il (Pv (rq hp h4).2.2.1 s hs)
      · by_cases h3:n.Kind=3
        · rw [(vg hp h3).2.2.1] at hs; cases hs
        · rw [(CY hp h4 h3).1] at hs; cases hs
    · intro h4; have:=(rq hp h4).2.2.2.2; omega
theorem rC {d:Nat} {n:af} (h:Shape (d+1) n=true) {j:Nat} (hj:j<n.Kids.length):Shape d (n.Kids.getD j default)=true:=by
 rw [dh _ hj]; exact nX h _ (List.getElem_mem _)
theorem rH:12<=lim:=by decide
theorem T.change {F:Nat->af->List aG->Option (af × Bool)} {C:Nat->af->Option (af × Bool)} {g:af->Option af}
    (hF:∀ n a p,F (n+1) a p=cond (((p.length:Nat):Int)==0) (Option.bind (C n a) fun v1=>some (v1.1,v1.2))
      (chk (0<=0/\0<((p.length:Nat):Int)) (Option.bind (G.bZ n a (p.getD 0 default)) fun v2=>cond v2.2
        (chk (0<=v2.1/\v2.1<((a.Kids.length:Nat):Int)) (chk (0<=1/\1<=((p.length:Nat):Int)/\((p.length:Nat):Int)<=((p.length:Nat):Int))
          (Option.bind (F n (a.Kids.getD v2.1.toNat default) (p.drop 1)) fun v3=>cond v3.2 (Option.bind (G.aF n a) fun v4=>chk (0<=v2.1/\v2.1<((v4.Kids.length:Nat):Int)) (some ((af.mk v4.Kind v4.Num v4.Text v4.Names (v4.Kids.set v2.1.toNat v3.1)),true)))
            (some ((af.mk 0 0 [] [] []),false))))) (some ((af.mk 0 0 [] [] []),false)))))
    (hC:∀ d m,Shape d m=true->Ev (fun n=>C n m) (jT (g m))) :
    ∀ (p:List aG) {d:Nat} {n:af},Shape d n=true->Ev (fun k=>F k n p) (jT (wz g n p))
  | [],d,n,h=>by
    refine Ev.up ?_
    simp only [hF]
    refine Ev.ct rfl (Ev.bind (hC d n h) (Ev.ret' ?_))
    rw [wz]
  | s::p,d,n,h=>by
    cases d with
    | zero=>cases h
    | succ d =>
    obtain ⟨v,b,gk,h1,h2⟩:=T.bZ s (lV h)
    refine Ev.up ?_
    simp only [hF]
    refine Ev.cf (by simp; omega) (Ev.chk (by simp) ?_)
    rw [List.getD_cons_zero]
    refine Ev.bind gk ?_
    rw [wz]
    cases hj:uF n s with
    | none=>exact Ev.cf (h2 hj) (Ev.ret _)
    | some j =>
      have hjl:=qp hj
      obtain ⟨rfl,rfl⟩:=h1 j hj
      refine Ev.ct rfl (Ev.chk (by omega) (Ev.chk (by simp; omega) ?_))
      rw [Int.toNat_natCast]
      have ih:=T.change hF hC p (rC h hjl)
      refine Ev.bind (show Ev (fun k=>F k (n.Kids.getD j default) ((s::p).drop 1)) _ from ih) ?_
      simp only
      cases hc:wz g (n.Kids.getD j default) p with
      | none=>exact Ev.cf rfl (Ev.ret _)
      | some c =>
        refine Ev.ct rfl (Ev.bind (T.aF rH (pR h)) (Ev.chk (by omega) (Ev.ret _)))
end Go.Ab
end
section
namespace Go.Ab
open Go
def insL {α:Type} (l:List α) (k:Nat) (v:α):List α:=(l.take k++[v])++l.drop k
def slt (n:af) (s:aG):Nat:=((List.range' 0 n.Kids.length).find? fun i=>bl s (n.Names.getD i default)).getD n.Kids.length
def addN (n:af) (s:aG) (v:af):Option af :=
  match uF n s with
  | some k=>if n.Kind=4 then some (xq n k v) else some (af.mk n.Kind 0 [] [] (insL n.Kids k v))
  | none=>if n.Kind=3 then (if s=[45]\/s=vU n.Kids.length then some (af.mk n.Kind 0 [] [] (insL n.Kids n.Kids.length v)) else none)
    else if n.Kind=4 then some (af.mk n.Kind 0 [] (insL n.Names (slt n s) s) (insL n.Kids (slt n s) v)) else none
theorem PO (n:af) (s:aG):slt n s<=n.Kids.length:=by
 unfold slt
 cases h:(List.range' 0 n.Kids.length).find? fun i=>bl s (n.Names.getD i default) with
 | none=>simp
 | some j=>have:=(wQ.1 h).2.1; simp only [Option.getD_some]; omega
def FI (n:af) (s:aG):Option (Nat × Bool) :=
  match uF n s with
  | some k=>some (k,n.Kind==4)
  | none=>if n.Kind=3 then (if s=[45]\/s=vU n.Kids.length then some (n.Kids.length,false) else none)
    else if n.Kind=4 then some (slt n s,false) else none
def Vu:Option (Nat × Bool)->Int × Bool
 | some (k,b)=>((k:Int),b)
 | none=>(-1,false)
theorem T.je.L1 {n:af} (s:aG) (hk:n.Kind ≠ 4):Ev (fun f=>G.je.L1 f n s 0) (-1,false):=by
 refine Ev.up ?_
 simp only [G.je.L1]
 exact Ev.cf (by simpa using hk) (Ev.ret _)
theorem T.je.L2 {B D:Nat} {n:af} (s:aG) (hB:B<=lim) (h:Fine B D n) (hk:n.Kind=4) :
    ∀ (k i:Nat),i+k=n.Kids.length->Ev (fun f=>G.je.L2 f n s i) (((((List.range' i k).find? fun i=>bl s (n.Names.getD i default)).getD n.Kids.length:Nat):Int),false):=by
  have hl:=h.kids
  have hm:=h.map hk
  unfold lim at hB
  intro k
  induction k with
  | zero =>
    intro i hi
    refine Ev.up ?_
    simp only [G.je.L2]
    refine Ev.ct (by simpa using hk) (Ev.ct (by simp; omega) (Ev.ct (by simp; omega) (Ev.ret' ?_)))
    show ((i:Int),false)=(((n.Kids.length:Nat):Int),false)
    rw [show i=n.Kids.length by omega]
  | succ k ih =>
    intro i hi
    refine Ev.up ?_
    simp only [G.je.L2]
    refine Ev.ct (by simpa using hk) (Ev.ct (by simp; omega) (Ev.cf (by simp; omega) (Ev.chk (by omega) ?_)))
    rw [List.range'_succ,List.find?_cons,Int.toNat_natCast]
    refine Ev.ite (fun e=>Ev.ret' ?_) (fun e => ?_)
    · rw [show bl s (n.Names.getD i default)=true from e]; rfl
    · rw [bP (by omega),show bl s (n.Names.getD i default)=false from e]
      exact ih (i+1) (by omega)
theorem T.je {B D:Nat} {n:af} (s:aG) (hB:B<=lim) (h:Fine B D n) (hB':B<lim):Ev (fun f=>G.je f n s) (Vu (FI n s)):=by
  have hl:=h.kids
  refine Ev.up ?_
  simp only [G.je]
  refine Ev.bind (T.fB s hB h) ?_
  unfold FI
  cases hj:uF n s with
  | some j=>exact Ev.ct (decide_eq_true (by simp only [vJ]; omega)) (Ev.ret _)
  | none =>
    refine Ev.cf (by rfl) ?_
    simp only
    by_cases h3:n.Kind=3
    · rw [if_pos h3]
      refine Ev.ct (by simpa using h3) ?_
      refine Ev.ite (fun e=>Ev.ret' ?_) (fun e => ?_)
      · rw [if_pos (.inl (by simpa using e))]; rfl
      · refine Ev.bind (T.decimal (i:=n.Kids.length) (by omega)) (Ev.ite (fun e2=>Ev.ret' ?_) (fun e2 => ?_))
        · rw [if_pos (.inr (by simpa using e2))]; rfl
        · rw [if_neg (by simp at e e2; simp [e,e2])]
          exact T.je.L1 s (by omega)
    · rw [if_neg h3]
      refine Ev.cf (by simpa using h3) ?_
      by_cases h4:n.Kind=4
      · rw [if_pos h4]
        exact T.je.L2 s hB h h4 n.Kids.length 0 (by omega)
      · rw [if_neg h4]
        refine Ev.up ?_
        simp only [G.je.L2]
        exact Ev.cf (by simpa using h4) (Ev.ret _)
theorem Jo (n:af) (s:aG) (v:af):addN n s v=(FI n s).map fun q=>if q.2 then xq n q.1 v else if n.Kind=3 then af.mk n.Kind 0 [] [] (insL n.Kids q.1 v) else af.mk n.Kind 0 [] (insL n.Names q.1 s) (insL n.Kids q.1 v):=by
  unfold addN FI
  cases hj:uF n s with
  | some j =>
    simp only [Option.map_some]
    by_cases h4:n.Kind=4
    · simp [h4]
    · have h3:n.Kind=3:=by
        by_cases h3:n.Kind=3
        · exact h3
        · have:=Bv hj; rw [yx h4 h3] at this; cases this
      simp [h3]
  | none =>
    simp only
    by_cases h3:n.Kind=3
    · simp only [h3,if_true]
      by_cases hs:s=[45]\/s=vU n.Kids.length
      · rw [if_pos hs,if_pos hs]; simp
      · rw [if_neg hs,if_neg hs]; rfl
    · rw [if_neg h3,if_neg h3]
      by_cases h4:n.Kind=4
      · rw [if_pos h4,if_pos h4]; simp [h3]
      · rw [if_neg h4,if_neg h4]; rfl
theorem QA {n:af} {s:aG} {q:Nat × Bool} (h:FI n s=some q):q.1<=n.Kids.length/\(q.2=true->q.1<n.Kids.length)/\(n.Kind=3\/n.Kind=4):=by
  unfold FI at h
  cases hj:uF n s with
  | some j =>
    rw [hj] at h
    cases h
    have:=qp hj
    refine ⟨by omega,fun _=>this,?_⟩
    by_cases h4:n.Kind=4
    · exact .inr h4
    · by_cases h3:n.Kind=3
      · exact .inl h3
      · have:=Bv hj; rw [yx h4 h3] at this; cases this
  | none =>
    rw [hj] at h
    simp only at h
    by_cases h3:n.Kind=3
    · rw [if_pos h3] at h
      split at h
      · cases h; exact ⟨Nat.le_refl _,fun e=>(by cases e),.inl h3⟩
      · cases h
    · rw [if_neg h3] at h
      split at h
      · rename_i h4; cases h; exact ⟨PO n s,fun e=>(by cases e),.inr h4⟩
      · cases h
theorem T.jd {B D E:Nat} {n v:af} (s:aG) (hB:B<lim) (h:Fine B D n) (hv:Fine B E v):Ev (fun f=>G.jd f n s v) (jT (addN n s v)):=by
  have hl:=h.kids
  have hn:=h.names
  have hB2:=hB
  unfold lim at hB2
  refine Ev.up ?_
  simp only [G.jd]
  refine Ev.bind (T.je s (by omega) h hB) ?_
  rw [Jo]
  cases hq:FI n s with
  | none=>exact Ev.ct rfl (Ev.ret _)
  | some q =>
    obtain ⟨q1,q2⟩:=q
    obtain ⟨hq1,hq2,hk⟩:=QA hq
    simp only at hq1 hq2
    refine Ev.cf (decide_eq_false (by simp only [Vu]; omega)) ?_
    refine Ev.ite (fun e => ?_) (fun e => ?_)
    · have e:q2=true:=e
      subst e
      exact Ev.bind (T.jD (by omega) h hv (hq2 rfl)) (Ev.ret _)
    · have e:q2=false:=e
      subst e
      simp only [Vu,Int.toNat_natCast]
      have ht:(n.Kids.take q1).length=q1:=by rw [List.length_take]; omega
      have hd:(n.Kids.drop q1).length=n.Kids.length-q1:=List.length_drop
      refine Ev.bind (T.aB (by omega) h) (Ev.chk (by omega) (Ev.chk (by omega) (Ev.bind (T.aB (by omega) hv) (Ev.chk (by omega) (Ev.chk (by omega) (Ev.chk (by omega) ?_))))))
      refine Ev.ite (fun e3=>Ev.ret' ?_) (fun e3 => ?_)
      · have e3':n.Kind=3:=by simpa using e3
        simp only [Option.map_some,if_pos e3']
        rfl
      · have e3':¬ n.Kind=3:=by simpa using e3
        have h4:n.Kind=4:=by omega
        have hm:=h.map h4
        have ht2:(n.Names.take q1).length=q1:=by rw [List.length_take]; omega
        have hd2:(n.Names.drop q1).length=n.Names.length-q1:=List.length_drop
        refine Ev.chk (by omega) (Ev.chk (by omega) (Ev.chk (by omega) (Ev.chk (by omega) (Ev.chk (by omega) (Ev.ret' ?_)))))
        simp only [Option.map_some,if_neg e3']
        rfl
theorem Hz {B D E:Nat} {n v m:af} {s:aG} (h:Fine B D n) (hv:Fine B E v) (hs:s.length<=B) (hm:addN n s v=some m):Fine (B+1) (D+E) m:=by
  rw [Jo] at hm
  cases hq:FI n s with
  | none=>rw [hq] at hm; cases hm
  | some q =>
    obtain ⟨q1,q2⟩:=q
    obtain ⟨hq1,hq2,hk⟩:=QA hq
    simp only at hq1 hq2
    rw [hq] at hm
    cases D with
    | zero=>exact h.elim
    | succ D =>
    cases hm
    have YH:∀ k,k∈insL n.Kids q1 v->Fine (B+1) (D+E) k:=by
      intro k hk
      unfold insL at hk
      simp only [List.mem_append,List.mem_singleton] at hk
      rcases hk with (hk | rfl) | hk
      · exact (h.2.2.2.2.2 k (List.mem_of_mem_take hk)).mono (by omega) (by omega)
      · exact hv.mono (by omega) (by omega)
      · exact (h.2.2.2.2.2 k (List.mem_of_mem_drop hk)).mono (by omega) (by omega)
    have hlen:(insL n.Kids q1 v).length=n.Kids.length+1:=by unfold insL; simp; omega
    have hl:=h.kids
    have hn:=h.names
    have hb:1<=B+1:=by omega
    cases q2 with
    | true=>exact (MV (j:=q1) h hv).mono (by omega) (by omega)
    | false =>
      simp only [Bool.false_eq_true,if_false]
      rw [show D+1+E=(D+E)+1 by omega]
      by_cases h3:n.Kind=3
      · rw [if_pos h3]
        exact ⟨by simp,by simp,by simp,by show (insL n.Kids q1 v).length<=_; omega,fun h4=>by simp only at h4; omega,YH⟩
      · rw [if_neg h3]
        have h4:n.Kind=4:=by omega
        have hm:=h.map h4
        have hlen2:(insL n.Names q1 s).length=n.Names.length+1:=by unfold insL; simp; omega
        refine ⟨by simp,by show (insL n.Names q1 s).length<=_; omega,fun x hx => ?_,by show (insL n.Kids q1 v).length<=_; omega,fun _=>by show (insL n.Kids q1 v).length<=(insL n.Names q1 s).length; omega,YH⟩
        have hx:x∈insL n.Names q1 s:=hx
        unfold insL at hx
        simp only [List.mem_append,List.mem_singleton] at hx
        rcases hx with (hx | rfl) | hx
        · have:=h.2.2.1 x (List.mem_of_mem_take hx); omega
        · omega
        · have:=h.2.2.1 x (List.mem_of_mem_drop hx); omega
theorem Vw {n:af} {s:aG} {p:Nat} (hA:Asc n.Names=true) (hl:n.Kids.length=n.Names.length) (h:LB n.Names s p) (hne:(decide (p<n.Names.length)&&n.Names.getD p default==s)=false):slt n s=p:=by
  have hhi:∀ j,p<=j->j<n.Names.length->bl s (n.Names.getD j default)=true:=by
    intro j h1 h2
    cases hb:bl s (n.Names.getD j default) with
    | true=>rfl
    | false =>
      have e:=yP hb (h.hi j h1 h2)
      by_cases hp:p=j
      · subst hp
        have:decide (p<n.Names.length)=true:=by simpa using h2
        rw [this,<- e] at hne
        simp at hne
      · have:=uX hA p j (by omega) h2
        rw [<- e,h.hi p (by omega) (by omega)] at this
        cases this
  unfold slt
  cases hf:(List.range' 0 n.Kids.length).find? fun i=>bl s (n.Names.getD i default) with
  | none =>
    have:=Ba.1 hf
    by_cases hp:p=n.Kids.length
    · rw [hp]; rfl
    · have YJ:=h.le
      have h2:=hhi p (by omega) (by omega)
      rw [this p (by omega) (by omega)] at h2
      cases h2
  | some j =>
    obtain ⟨h1,h2,h3,h4⟩:=wQ.1 hf
    show j=p
    have a1:¬ j<p:=fun hlt=>by
      have:=Dv (h.lo j hlt)
      rw [this] at h3; cases h3
    have a2:¬ p<j:=fun hlt=>by
      have:=h4 p (by omega) hlt
      rw [hhi p (by omega) (by omega)] at this; cases this
    omega
theorem T.kM {d:Nat} {n v:af} (s:aG) (h:Shape (d+1) n=true) (hk:n.Kind=4):∃ m,addN n s v=some m/\Ev (fun f=>G.kM f n s v) m:=by
  have hp:=lV h
  obtain ⟨hnum,htext,hN,hl,hkl⟩:=rq hp hk
  obtain ⟨p,g,hlb⟩:=T.slices_BinarySearch_string s (by unfold big; omega) (CV hN)
  have hpl:=KX hk (CV hN) hkl hlb
  have YJ:=hlb.le
  cases hc:decide (p<n.Names.length)&&n.Names.getD p default==s with
  | true =>
    rw [hc,if_pos rfl] at hpl
    refine ⟨xq n p v,by unfold addN; rw [hpl]; simp [hk],Ev.up ?_⟩
    simp only [G.kM]
    have:=qp hpl
    refine Ev.bind g (Ev.ct hc (Ev.chk (by omega) (Ev.ret' ?_)))
    rw [Int.toNat_natCast]; rfl
  | false =>
    rw [hc,if_neg (by simp)] at hpl
    have hsl:=Vw (CV hN) hkl hlb hc
    refine ⟨af.mk n.Kind 0 [] (insL n.Names p s) (insL n.Kids p v),by unfold addN; rw [hpl,hsl]; simp [hk],Ev.up ?_⟩
    simp only [G.kM]
    refine Ev.bind g (Ev.cf hc ?_)
    have i1:Ev (fun f=>G.iw f n.Names (p:Int) [s]) (insL n.Names p s):=by
      refine Ev.up ?_
      simp only [G.iw]
      refine Ev.chk (by simp; omega) (Ev.ret' ?_)
      rw [Int.toNat_natCast]; rfl
    have i2:Ev (fun f=>G.dm f n.Kids (p:Int) [v]) (insL n.Kids p v):=by
      refine Ev.up ?_
      simp only [G.dm]
      refine Ev.chk (by simp; omega) (Ev.ret' ?_)
      rw [Int.toNat_natCast]; rfl
    exact Ev.bind i1 (Ev.bind i2 (Ev.ret' (by rw [hnum,htext])))
theorem T.jb.K1 {B E:Nat} {n v:af} {k:Nat} (hB:B<=lim) (hv:Fine B E v) (hk:k<=n.Kids.length) (hl:n.Kids.length<=6):Ev (fun f=>G.jb.K1 f v n (k:Int) true) (af.mk n.Kind n.Num n.Text n.Names (insL n.Kids k v),true):=by
 refine Ev.up ?_
 simp only [G.jb.K1]
 refine Ev.ct rfl (Ev.bind (T.aF hB hv) ?_)
 have i2:Ev (fun f=>G.dm f n.Kids (k:Int) [v]) (insL n.Kids k v):=by
  refine Ev.up ?_
  simp only [G.dm]
  refine Ev.chk (by simp; omega) (Ev.ret' ?_)
  rw [Int.toNat_natCast]; rfl
 exact Ev.bind i2 (Ev.ret _)
theorem T.jb {B E d:Nat} {n v:af} (s:aG) (hB:B<=lim) (hv:Fine B E v) (h:Shape d n=true):Ev (fun f=>G.jb f n s v) (jT (addN n s v)):=by
  cases d with
  | zero=>cases h
  | succ d =>
  have hp:=lV h
  refine Ev.up ?_
  simp only [G.jb]
  refine Ev.bind (T.aF rH (pR h)) ?_
  by_cases h4:n.Kind=4
  · refine Ev.ct (by simpa using h4) (Ev.bind (T.aF hB hv) ?_)
    obtain ⟨m,hm,g⟩:=T.kM (v:=v) s h h4
    rw [hm]
    exact Ev.bind g (Ev.ret _)
  refine Ev.cf (by simpa using h4) ?_
  by_cases h3:n.Kind=3
  · obtain ⟨hnum,htext,Pe,hl⟩:=vg hp h3
    refine Ev.ct (by simpa using h3) ?_
    obtain ⟨w,b,g,h1,h2⟩:=T.bZ s hp
    refine Ev.bind g ?_
    unfold addN
    cases hj:uF n s with
    | some j =>
      obtain ⟨rfl,rfl⟩:=h1 j hj
      have:=qp hj
      refine Ev.ct rfl ((T.jb.K1 (k:=j) hB hv (by omega) hl).eq ?_)
      simp only [if_neg h4]
      rw [hnum,htext,Pe]; rfl
    | none =>
      have hb:=h2 hj
      subst hb
      simp only [if_pos h3]
      refine Ev.cf rfl (Ev.ite (fun e => ?_) (fun e => ?_))
      · refine (T.jb.K1 (k:=n.Kids.length) hB hv (by omega) hl).eq ?_
        rw [if_pos (.inl (by simpa using e)),hnum,htext,Pe]; rfl
      · refine Ev.bind (T.strconv_Itoa (i:=n.Kids.length) (by omega)) (Ev.ite (fun e2 => ?_) (fun e2 => ?_))
        · refine (T.jb.K1 (k:=n.Kids.length) hB hv (by omega) hl).eq ?_
          rw [if_pos (.inr (by simpa using e2)),hnum,htext,Pe]; rfl
        · rw [if_neg (by simp at e e2; simp [e,e2])]
          refine Ev.up ?_
          simp only [G.jb.K1]
          exact Ev.cf rfl (Ev.ret _)
  · refine Ev.cf (by simpa using h3) (Ev.ret' ?_)
    have hn:uF n s=none:=Ec.2 (fun q _=>yx h4 h3 s q)
    unfold addN
    rw [hn]
    simp [h3,h4,jT,mX]
end Go.Ab
end
section
namespace Go.Ab
open Go
theorem T.jv (b:Bool):Ev (fun f=>G.jv f b) (if b then 1 else 0):=by
 refine Ev.up ?_
 simp only [G.jv]
 cases b
 ·exact Ev.ret _
 ·exact Ev.ret _
theorem T.lN (a b:Int):∃ r,Ev (fun f=>G.lN f a b) r/\(r=0<->a=b):=by
 by_cases h:a<b
 ·refine ⟨-1,Ev.up ?_,by omega⟩
  simp only [G.lN]
  rw [show decide (b<a)=false by simp; omega,show decide (a<b)=true by simpa using h]
  exact Ev.bind (T.jv _) (Ev.bind (T.jv _) (Ev.ret _))
 ·by_cases k:b<a
  ·refine ⟨1,Ev.up ?_,by omega⟩
   simp only [G.lN]
   rw [show decide (a<b)=false by simp; omega,show decide (b<a)=true by simpa using k]
   exact Ev.bind (T.jv _) (Ev.bind (T.jv _) (Ev.ret _))
  ·refine ⟨0,Ev.up ?_,by omega⟩
   simp only [G.lN]
   rw [show decide (a<b)=false by simp; omega,show decide (b<a)=false by simp; omega]
   exact Ev.bind (T.jv _) (Ev.bind (T.jv _) (Ev.ret _))
theorem T.kG (a b:aG) (hne:a ≠ b):∃ r,Ev (fun f=>G.kG f a b) r/\r ≠ 0:=by
  cases h:bl a b with
  | true =>
    refine ⟨-1,Ev.up ?_,by omega⟩
    simp only [G.kG]
    exact Ev.ct h (Ev.bind (T.jv _) (Ev.bind (T.jv _) (Ev.ret _)))
  | false =>
    refine ⟨1,Ev.up ?_,by omega⟩
    simp only [G.kG]
    exact Ev.cf h (Ev.cf (by simpa using hne) (Ev.bind (T.jv _) (Ev.bind (T.jv _) (Ev.ret _))))
def xN (a b:af) (i:Nat):Prop:=a.Kids.drop i=b.Kids.drop i/\(a.Kind=4->a.Names.drop i=b.Names.drop i)
theorem Hu {a b:af} {i:Nat} (ha:i<a.Kids.length) (hb:i<b.Kids.length) (h4:a.Kind=4->i<a.Names.length/\i<b.Names.length) :
  xN a b i<->((a.Kind=4->a.Names.getD i default=b.Names.getD i default)/\a.Kids.getD i default=b.Kids.getD i default/\xN a b (i+1)):=by
 unfold xN
 rw [bT (default:af) ha,bT (default:af) hb,List.cons.injEq]
 by_cases hk:a.Kind=4
 ·obtain ⟨n1,n2⟩:=h4 hk
  rw [bT (default:aG) n1,bT (default:aG) n2,List.cons.injEq]
  simp only [hk,true_implies]
  constructor
  ·rintro ⟨⟨x,y⟩,z,w⟩; exact ⟨z,x,y,w⟩
  ·rintro ⟨z,x,y,w⟩; exact ⟨⟨x,y⟩,z,w⟩
 ·simp only [hk,false_implies,and_true,true_and]
theorem qH {d:Nat} {n:af} (h:Shape d n=true) (hk:n.Kind=4):n.Names.length=n.Kids.length:=by
 cases d with
 | zero=>cases h
 | succ d=>exact (rq (lV h) hk).2.2.2.2.symm
theorem T.dU.L1 {d e:Nat} {a b:af} (ha:Shape (d+1) a=true) (hb:Shape (e+1) b=true) (hk:a.Kind=b.Kind)
    (hs:∀ x y,x∈a.Kids->y∈b.Kids->∃ r,Ev (fun f=>G.dU f x y) r/\(r=0<->x=y)) :
    ∀ (k i:Nat),a.Kids.length<=i+k->i<=a.Kids.length->i<=b.Kids.length->∃ r,Ev (fun f=>G.dU.L1 f a b i) r/\(r=0<->xN a b i):=by
  have la:=tq ha
  have lb:=tq hb
  have tail:∀ i,i<=a.Kids.length->i<=b.Kids.length->(i=a.Kids.length\/i=b.Kids.length)->∃ r,Ev (fun f=>Option.bind (G.lN f ((a.Kids.length:Nat):Int) ((b.Kids.length:Nat):Int)) fun v=>some v) r/\(r=0<->xN a b i):=by
    intro i h1 h2 h3
    obtain ⟨r,g,hr⟩:=T.lN ((a.Kids.length:Nat):Int) ((b.Kids.length:Nat):Int)
    refine ⟨r,Ev.bind g (Ev.ret _),hr.trans ⟨fun hl => ?_,fun hE => ?_⟩⟩
    · have hl:a.Kids.length=b.Kids.length:=by omega
      refine ⟨by rw [List.drop_of_length_le (by omega),List.drop_of_length_le (by omega)],fun h4 => ?_⟩
      have n1:=qH ha h4
      have n2:=qH hb (hk ▸ h4)
      rw [List.drop_of_length_le (by omega),List.drop_of_length_le (by omega)]
    · have:=congrArg List.length hE.1
      simp only [List.length_drop] at this
      omega
  intro k
  induction k with
  | zero =>
    intro i h1 h2 h3
    obtain ⟨r,g,hr⟩:=tail i h2 h3 (by omega)
    refine ⟨r,Ev.up ?_,hr⟩
    simp only [G.dU.L1]
    exact Ev.cf (by simp; omega) g
  | succ k ih =>
    intro i h1 h2 h3
    by_cases hia:i=a.Kids.length
    · obtain ⟨r,g,hr⟩:=tail i h2 h3 (by omega)
      refine ⟨r,Ev.up ?_,hr⟩
      simp only [G.dU.L1]
      exact Ev.cf (by simp; omega) g
    by_cases hib:i=b.Kids.length
    · obtain ⟨r,g,hr⟩:=tail i h2 h3 (by omega)
      refine ⟨r,Ev.up ?_,hr⟩
      simp only [G.dU.L1]
      exact Ev.ct (by simp; omega) (Ev.cf (by simp; omega) g)
    have n4:a.Kind=4->i<a.Names.length/\i<b.Names.length:=fun h4=>by
      have n1:=qH ha h4
      have n2:=qH hb (hk ▸ h4)
      omega
    have hE:=Hu (a:=a) (b:=b) (i:=i) (by omega) (by omega) n4
    obtain ⟨r2,g2,hr2⟩:=hs (a.Kids.getD i default) (b.Kids.getD i default) (by rw [dh _ (by omega:i<a.Kids.length)]; exact List.getElem_mem _) (by rw [dh _ (by omega:i<b.Kids.length)]; exact List.getElem_mem _)
    obtain ⟨r3,g3,hr3⟩:=ih (i+1) (by omega) (by omega) (by omega)
    have rest:∃ r,Ev (fun f=>Option.bind (G.dU f (a.Kids.getD i default) (b.Kids.getD i default)) fun v=>cond (v != 0) (some v) (G.dU.L1 f a b ((i+1:Nat):Int))) r/\(r=0<->(a.Kids.getD i default=b.Kids.getD i default/\xN a b (i+1))):=by
      by_cases h0:r2=0
      · refine ⟨r3,Ev.bind g2 (Ev.cf (by rw [h0]; rfl) g3),?_⟩
        rw [hr3]
        exact ⟨fun h=>⟨hr2.1 h0,h⟩,fun h=>h.2⟩
      · refine ⟨r2,Ev.bind g2 (Ev.ct (by simpa using h0) (Ev.ret _)),?_⟩
        exact ⟨fun h=>absurd h h0,fun h=>hr2.2 h.1⟩
    obtain ⟨r4,g4,hr4⟩:=rest
    by_cases h4:a.Kind=4
    · obtain ⟨m1,m2⟩:=n4 h4
      by_cases hn:a.Names.getD i default=b.Names.getD i default
      · refine ⟨r4,Ev.up ?_,?_⟩
        · simp only [G.dU.L1]
          rw [Int.toNat_natCast,bP (by omega)]
          exact Ev.ct (by simp; omega) (Ev.ct (by simp; omega) (Ev.ct (by simpa using h4) (Ev.chk (by omega) (Ev.chk (by omega) (Ev.ct (by simpa using hn) (Ev.chk (by omega) (Ev.chk (by omega) g4)))))))
        · rw [hr4,hE]
          exact ⟨fun h=>⟨fun _=>hn,h⟩,fun h=>h.2⟩
      · obtain ⟨r,g,hr⟩:=T.kG _ _ hn
        refine ⟨r,Ev.up ?_,?_⟩
        · simp only [G.dU.L1]
          rw [Int.toNat_natCast,bP (by omega)]
          exact Ev.ct (by simp; omega) (Ev.ct (by simp; omega) (Ev.ct (by simpa using h4) (Ev.chk (by omega) (Ev.chk (by omega) (Ev.cf (by simpa using hn) (Ev.chk (by omega) (Ev.chk (by omega) (Ev.bind g (Ev.ret _)))))))))
        · rw [hE]
          exact ⟨fun h=>absurd h hr,fun h=>absurd (h.1 h4) hn⟩
    · refine ⟨r4,Ev.up ?_,?_⟩
      · simp only [G.dU.L1]
        rw [Int.toNat_natCast,bP (by omega)]
        exact Ev.ct (by simp; omega) (Ev.ct (by simp; omega) (Ev.cf (by simpa using h4) (Ev.chk (by omega) (Ev.chk (by omega) g4))))
      · rw [hr4,hE]
        exact ⟨fun h=>⟨fun e=>absurd e h4,h⟩,fun h=>h.2⟩
theorem JA {d:Nat} {n:af} (h:Shape (d+1) n=true) (h4:n.Kind ≠ 4):n.Names=[]:=by
 by_cases h3:n.Kind=3
 ·exact (vg (lV h) h3).2.2.1
 ·exact (CY (lV h) h4 h3).1
theorem eq_iff {d e:Nat} {a b:af} (ha:Shape (d+1) a=true) (hb:Shape (e+1) b=true):a=b<->(a.Kind=b.Kind/\a.Num=b.Num/\a.Text=b.Text/\xN a b 0):=by
 constructor
 ·rintro rfl; exact ⟨rfl,rfl,rfl,rfl,fun _=>rfl⟩
 ·rintro ⟨h1,h2,h3,h4,h5⟩
  simp only [List.drop_zero] at h4 h5
  have hn:a.Names=b.Names:=by
   by_cases h:a.Kind=4
   ·exact h5 h
   ·rw [JA ha h,JA hb (h1 ▸ h)]
  cases a; cases b
  simp only at h1 h2 h3 h4 hn
  subst h1 h2 h3 h4 hn
  rfl
theorem T.dU:∀ (d:Nat) {e:Nat} {a b:af},Shape d a=true->Shape e b=true->∃ r,Ev (fun f=>G.dU f a b) r/\(r=0<->a=b)
  | 0,_,_,_,h,_=>by cases h
  | _+1,0,_,_,_,h=>by cases h
  | d+1,e+1,a,b,ha,hb=>by
    rw [eq_iff ha hb]
    by_cases h1:a.Kind=b.Kind
    · by_cases h2:a.Num=b.Num
      · by_cases h3:a.Text=b.Text
        · obtain ⟨r,g,hr⟩:=T.dU.L1 ha hb h1 (fun x y hx hy=>T.dU d (nX ha x hx) (nX hb y hy)) a.Kids.length 0 (by omega) (by omega) (by omega)
          refine ⟨r,Ev.up ?_,hr.trans ⟨fun h=>⟨h1,h2,h3,h⟩,fun h=>h.2.2.2⟩⟩
          simp only [G.dU]
          exact Ev.cf (by simpa using h1) (Ev.cf (by simpa using h2) (Ev.ct (by simpa using h3) g))
        · obtain ⟨r,g,hr⟩:=T.kG _ _ h3
          refine ⟨r,Ev.up ?_,⟨fun h=>absurd h hr,fun h=>absurd h.2.2.1 h3⟩⟩
          simp only [G.dU]
          exact Ev.cf (by simpa using h1) (Ev.cf (by simpa using h2) (Ev.cf (by simpa using h3) (Ev.bind g (Ev.ret _))))
      · obtain ⟨r,g,hr⟩:=T.lN a.Num b.Num
        refine ⟨r,Ev.up ?_,hr.trans ⟨fun h=>absurd h h2,fun h=>h.2.1⟩⟩
        simp only [G.dU]
        exact Ev.cf (by simpa using h1) (Ev.ct (by simpa using h2) (Ev.bind g (Ev.ret _)))
    · obtain ⟨r,g,hr⟩:=T.lN a.Kind b.Kind
      refine ⟨r,Ev.up ?_,hr.trans ⟨fun h=>absurd h h1,fun h=>h.1⟩⟩
      simp only [G.dU]
      exact Ev.ct (by simpa using h1) (Ev.bind g (Ev.ret _))
theorem T.pJ {d e:Nat} {a b:af} (ha:Shape d a=true) (hb:Shape e b=true):∃ v,Ev (fun f=>G.pJ f a b) v/\(v=true<->a=b):=by
 obtain ⟨r,g,hr⟩:=T.dU d ha hb
 refine ⟨r==0,Ev.up ?_,by rw [beq_iff_eq]; exact hr⟩
 simp only [G.pJ]
 exact Ev.bind g (Ev.ret _)
theorem T.cmp_Compare_int (a b:Int):∃ r,Ev (fun f=>G.cmp_Compare_int f a b) r/\(r=0<->a=b):=by
 have hn:∀ x:Int,Ev (fun f=>G.cmp_isNaN_int f x) false:=fun x=>by
  refine Ev.up ?_
  simp only [G.cmp_isNaN_int]
  exact Ev.ret' (by simp)
 by_cases h:a<b
 ·refine ⟨-1,Ev.up ?_,by omega⟩
  simp only [G.cmp_Compare_int]
  exact Ev.bind (hn a) (Ev.bind (hn b) (Ev.cf rfl (Ev.cf rfl (Ev.ct (by simpa using h) (Ev.ret _)))))
 ·by_cases k:b<a
  ·refine ⟨1,Ev.up ?_,by omega⟩
   simp only [G.cmp_Compare_int]
   exact Ev.bind (hn a) (Ev.bind (hn b) (Ev.cf rfl (Ev.cf rfl (Ev.cf (by simpa using h) (Ev.ct (by simpa using k) (Ev.ret _))))))
  ·refine ⟨0,Ev.up ?_,by omega⟩
   simp only [G.cmp_Compare_int]
   exact Ev.bind (hn a) (Ev.bind (hn b) (Ev.cf rfl (Ev.cf rfl (Ev.cf (by simpa using h) (Ev.cf (by simpa using k) (Ev.ret _))))))
theorem T.strings_Compare (a b:aG):∃ r,Ev (fun f=>G.strings_Compare f a b) r/\(r=0<->a=b):=by
 refine ⟨Go.Lib.compareBytes a b,Ev.up ?_,Ju⟩
 simp only [G.strings_Compare]
 have:Ev (fun f=>G.dL f a b) (Go.Lib.compareBytes a b):=by
  refine Ev.up ?_
  simp only [G.dL]
  exact Ev.ret _
 exact Ev.bind this (Ev.ret _)
theorem T.aV.L3 {d e:Nat} {a b:af} (ha:Shape (d+1) a=true) (hb:Shape (e+1) b=true) (hk:a.Kind=b.Kind)
    (hs:∀ x y,x∈a.Kids->y∈b.Kids->∃ r,Ev (fun f=>G.aV f x y) r/\(r=0<->x=y)) :
    ∀ (k i:Nat),a.Kids.length<=i+k->i<=a.Kids.length->i<=b.Kids.length->∃ r,Ev (fun f=>G.aV.L3 f a b i) r/\(r=0<->xN a b i):=by
  have la:=tq ha
  have lb:=tq hb
  have tail:∀ i,i<=a.Kids.length->i<=b.Kids.length->(i=a.Kids.length\/i=b.Kids.length)->∃ r,Ev (fun f=>Option.bind (G.cmp_Compare_int f ((a.Kids.length:Nat):Int) ((b.Kids.length:Nat):Int)) fun v=>some v) r/\(r=0<->xN a b i):=by
    intro i h1 h2 h3
    obtain ⟨r,g,hr⟩:=T.cmp_Compare_int ((a.Kids.length:Nat):Int) ((b.Kids.length:Nat):Int)
    refine ⟨r,Ev.bind g (Ev.ret _),hr.trans ⟨fun hl => ?_,fun hE => ?_⟩⟩
    · have hl:a.Kids.length=b.Kids.length:=by omega
      refine ⟨by rw [List.drop_of_length_le (by omega),List.drop_of_length_le (by omega)],fun h4 => ?_⟩
      have n1:=qH ha h4
      have n2:=qH hb (hk ▸ h4)
      rw [List.drop_of_length_le (by omega),List.drop_of_length_le (by omega)]
    · have:=congrArg List.length hE.1
      simp only [List.length_drop] at this
      omega
  intro k
  induction k with
  | zero =>
    intro i h1 h2 h3
    obtain ⟨r,g,hr⟩:=tail i h2 h3 (by omega)
    refine ⟨r,Ev.up ?_,hr⟩
    simp only [G.aV.L3]
    exact Ev.cf (by simp; omega) g
  | succ k ih =>
    intro i h1 h2 h3
    by_cases hia:i=a.Kids.length
    · obtain ⟨r,g,hr⟩:=tail i h2 h3 (by omega)
      refine ⟨r,Ev.up ?_,hr⟩
      simp only [G.aV.L3]
      exact Ev.cf (by simp; omega) g
    by_cases hib:i=b.Kids.length
    · obtain ⟨r,g,hr⟩:=tail i h2 h3 (by omega)
      refine ⟨r,Ev.up ?_,hr⟩
      simp only [G.aV.L3]
      exact Ev.ct (by simp; omega) (Ev.cf (by simp; omega) g)
    have n4:a.Kind=4->i<a.Names.length/\i<b.Names.length:=fun h4=>by
      have n1:=qH ha h4
      have n2:=qH hb (hk ▸ h4)
      omega
    have hE:=Hu (a:=a) (b:=b) (i:=i) (by omega) (by omega) n4
    obtain ⟨r2,g2,hr2⟩:=hs (a.Kids.getD i default) (b.Kids.getD i default) (by rw [dh _ (by omega:i<a.Kids.length)]; exact List.getElem_mem _) (by rw [dh _ (by omega:i<b.Kids.length)]; exact List.getElem_mem _)
    obtain ⟨r3,g3,hr3⟩:=ih (i+1) (by omega) (by omega) (by omega)
    have rest:∃ r,Ev (fun f=>G.aV.K4 f a b (i:Int)) r/\(r=0<->(a.Kids.getD i default=b.Kids.getD i default/\xN a b (i+1))):=by
      by_cases h0:r2=0
      · refine ⟨r3,Ev.up ?_,?_⟩
        · simp only [G.aV.K4]
          rw [Int.toNat_natCast,bP (by omega)]
          exact Ev.chk (by omega) (Ev.chk (by omega) (Ev.bind g2 (Ev.cf (by rw [h0]; rfl) g3)))
        · rw [hr3]
          exact ⟨fun h=>⟨hr2.1 h0,h⟩,fun h=>h.2⟩
      · refine ⟨r2,Ev.up ?_,?_⟩
        · simp only [G.aV.K4]
          rw [Int.toNat_natCast,bP (by omega)]
          exact Ev.chk (by omega) (Ev.chk (by omega) (Ev.bind g2 (Ev.ct (by simpa using h0) (Ev.ret _))))
        · exact ⟨fun h=>absurd h h0,fun h=>hr2.2 h.1⟩
    obtain ⟨r4,g4,hr4⟩:=rest
    by_cases h4:a.Kind=4
    · obtain ⟨m1,m2⟩:=n4 h4
      obtain ⟨r,g,hr⟩:=T.strings_Compare (a.Names.getD i default) (b.Names.getD i default)
      by_cases hn:a.Names.getD i default=b.Names.getD i default
      · refine ⟨r4,Ev.up ?_,?_⟩
        · simp only [G.aV.L3]
          rw [Int.toNat_natCast]
          exact Ev.ct (by simp; omega) (Ev.ct (by simp; omega) (Ev.ct (by simpa using h4) (Ev.chk (by omega) (Ev.chk (by omega) (Ev.bind g (Ev.cf (by rw [hr.2 hn]; rfl) g4))))))
        · rw [hr4,hE]
          exact ⟨fun h=>⟨fun _=>hn,h⟩,fun h=>h.2⟩
      · have hr0:r ≠ 0:=fun e=>hn (hr.1 e)
        refine ⟨r,Ev.up ?_,?_⟩
        · simp only [G.aV.L3]
          rw [Int.toNat_natCast]
          exact Ev.ct (by simp; omega) (Ev.ct (by simp; omega) (Ev.ct (by simpa using h4) (Ev.chk (by omega) (Ev.chk (by omega) (Ev.bind g (Ev.ct (by simpa using hr0) (Ev.ret _)))))))
        · rw [hE]
          exact ⟨fun h=>absurd h hr0,fun h=>absurd (h.1 h4) hn⟩
    · refine ⟨r4,Ev.up ?_,?_⟩
      · simp only [G.aV.L3]
        exact Ev.ct (by simp; omega) (Ev.ct (by simp; omega) (Ev.cf (by simpa using h4) g4))
      · rw [hr4,hE]
        exact ⟨fun h=>⟨fun e=>absurd e h4,h⟩,fun h=>h.2⟩
theorem T.aV:∀ (d:Nat) {e:Nat} {a b:af},Shape d a=true->Shape e b=true->∃ r,Ev (fun f=>G.aV f a b) r/\(r=0<->a=b)
  | 0,_,_,_,h,_=>by cases h
  | _+1,0,_,_,_,h=>by cases h
  | d+1,e+1,a,b,ha,hb=>by
    rw [eq_iff ha hb]
    obtain ⟨r1,g1,hr1⟩:=T.cmp_Compare_int a.Kind b.Kind
    obtain ⟨r2,g2,hr2⟩:=T.cmp_Compare_int a.Num b.Num
    obtain ⟨r3,g3,hr3⟩:=T.strings_Compare a.Text b.Text
    by_cases h1:r1=0
    · by_cases h2:r2=0
      · by_cases h3:r3=0
        · obtain ⟨r,g,hr⟩:=T.aV.L3 ha hb (hr1.1 h1) (fun x y hx hy=>T.aV d (nX ha x hx) (nX hb y hy)) a.Kids.length 0 (by omega) (by omega) (by omega)
          refine ⟨r,Ev.up ?_,hr.trans ⟨fun h=>⟨hr1.1 h1,hr2.1 h2,hr3.1 h3,h⟩,fun h=>h.2.2.2⟩⟩
          simp only [G.aV]
          exact Ev.bind g1 (Ev.cf (by rw [h1]; rfl) (Ev.bind g2 (Ev.cf (by rw [h2]; rfl) (Ev.bind g3 (Ev.cf (by rw [h3]; rfl) g)))))
        · refine ⟨r3,Ev.up ?_,⟨fun h=>absurd h h3,fun h=>hr3.2 h.2.2.1⟩⟩
          simp only [G.aV]
          exact Ev.bind g1 (Ev.cf (by rw [h1]; rfl) (Ev.bind g2 (Ev.cf (by rw [h2]; rfl) (Ev.bind g3 (Ev.ct (by simpa using h3) (Ev.ret _))))))
      · refine ⟨r2,Ev.up ?_,⟨fun h=>absurd h h2,fun h=>hr2.2 h.2.1⟩⟩
        simp only [G.aV]
        exact Ev.bind g1 (Ev.cf (by rw [h1]; rfl) (Ev.bind g2 (Ev.ct (by simpa using h2) (Ev.ret _))))
    · refine ⟨r1,Ev.up ?_,⟨fun h=>absurd h h1,fun h=>hr1.2 h.1⟩⟩
      simp only [G.aV]
      exact Ev.bind g1 (Ev.ct (by simpa using h1) (Ev.ret _))
theorem T.mG {d e:Nat} {a b:af} (ha:Shape d a=true) (hb:Shape e b=true):∃ v,Ev (fun f=>G.mG f a b) v/\(v=true<->a=b):=by
 obtain ⟨r,g,hr⟩:=T.aV d ha hb
 refine ⟨r==0,Ev.up ?_,by rw [beq_iff_eq]; exact hr⟩
 simp only [G.mG]
 exact Ev.bind g (Ev.ret _)
end Go.Ab
end
section
namespace Go.Ab
open Go
theorem Dh:∀ {d e:Nat} {n:af},d<=e->Shape d n=true->Shape e n=true
  | 0,_,_,_,h=>by cases h
  | d+1,0,_,hd,_=>by omega
  | d+1,e+1,n,hd,h=>by
    unfold Shape
    rw [lV h,Bool.true_and,List.all_eq_true]
    exact fun k hk=>Dh (by omega) (nX h k hk)
theorem BP {α:Type} {f g:α->Nat} : ∀ {l:List α},(∀ x,x∈l->f x=g x)->(l.map f).sum=(l.map g).sum
  | [],_=>rfl
  | x::l,h=>by
    simp only [List.map_cons,List.sum_cons]
    rw [h x (by simp),BP (fun y hy=>h y (by simp [hy]))]
theorem cnt_mono:∀ {d e:Nat} {n:af},d<=e->Shape d n=true->Cnt d n=Cnt e n
  | 0,_,_,_,h=>by cases h
  | d+1,0,_,hd,_=>by omega
  | d+1,e+1,n,hd,h=>by
    unfold Cnt
    rw [BP (f:=Cnt d) (g:=Cnt e) (fun k hk=>cnt_mono (by omega) (nX h k hk))]
theorem UO {α:Type} (f:α->Nat):∀ {l:List α} {x:α},x∈l->f x<=(l.map f).sum
  | y::l,x,h=>by
    simp only [List.map_cons,List.sum_cons]
    rcases List.mem_cons.1 h with rfl | h
    · omega
    · have:=UO f h; omega
theorem kZ {n:af} (h:Val n=true):Shape 5 n=true:=by unfold Val at h; simp only [Bool.and_eq_true] at h; exact h.1
theorem QG {n:af} (h:Val n=true):Cnt 5 n<=40:=by unfold Val at h; simp only [Bool.and_eq_true,decide_eq_true_eq] at h; exact h.2
theorem jf {n:af} (h:Val n=true):Fine 12 5 n:=pR (kZ h)
theorem VE {d:Nat} {n:af} (hd:d<=5) (h:Shape d n=true) (hc:Cnt d n<=40):Val n=true:=by
 unfold Val
 rw [Dh hd h,Bool.true_and,decide_eq_true_eq,<- cnt_mono hd h]
 exact hc
theorem Mc:∀ (p:List aG) {d:Nat} {n m:af},Shape d n=true->zT n p=some m->Shape d m=true/\Cnt d m<=Cnt d n
  | [],d,n,m,h,e=>by cases e; exact ⟨h,Nat.le_refl _⟩
  | s::p,d,n,m,h,e=>by
    rw [zT] at e
    cases hj:uF n s with
    | none=>rw [hj] at e; cases e
    | some j =>
      rw [hj] at e
      cases d with
      | zero=>cases h
      | succ d =>
        have hjl:=qp hj
        obtain ⟨h1,h2⟩:=Mc p (rC h hjl) e
        refine ⟨Dh (by omega) h1,?_⟩
        rw [<- cnt_mono (Nat.le_succ d) h1]
        have:=UO (Cnt d) (l:=n.Kids) (x:=n.Kids.getD j default) (by rw [dh _ hjl]; exact List.getElem_mem _)
        show _<=1+(n.Kids.map (Cnt d)).sum
        omega
theorem QC {α:Type} (f:α->Nat) {c:α} : ∀ {l:List α} {j:Nat} (d:α),f c<=f (l.getD j d)->((l.set j c).map f).sum<=(l.map f).sum
  | [],_,_,_=>by simp
  | x::l,0,d,h=>by
    rw [List.getD_cons_zero] at h
    simp only [List.set_cons_zero,List.map_cons,List.sum_cons]
    omega
  | x::l,j+1,d,h=>by
    rw [List.getD_cons_succ] at h
    have:=QC f (l:=l) (j:=j) d h
    simp only [List.set_cons_succ,List.map_cons,List.sum_cons]
    omega
theorem SA {n c:af} {j:Nat} (h:Parts n=true):Parts (xq n j c)=true:=by
 unfold Parts xq at *
 simpa using h
theorem Jr {f:af->Option af} (hf:∀ d k k',Shape d k=true->f k=some k'->Shape d k'=true/\Cnt d k'<=Cnt d k) :
    ∀ (p:List aG) {d:Nat} {n m:af},Shape d n=true->wz f n p=some m->Shape d m=true/\Cnt d m<=Cnt d n
  | [],d,n,m,h,e=>hf d n m h (by rw [wz] at e; exact e)
  | s::p,d,n,m,h,e=>by
    rw [wz] at e
    cases hj:uF n s with
    | none=>rw [hj] at e; cases e
    | some j =>
      rw [hj] at e
      simp only at e
      cases d with
      | zero=>cases h
      | succ d =>
      have hjl:=qp hj
      cases hc:wz f (n.Kids.getD j default) p with
      | none=>rw [hc] at e; cases e
      | some c =>
        rw [hc] at e
        cases e
        obtain ⟨h1,h2⟩:=Jr hf p (rC h hjl) hc
        constructor
        · unfold Shape
          rw [SA (lV h),Bool.true_and,List.all_eq_true]
          intro k hk
          rcases List.mem_or_eq_of_mem_set hk with hk | rfl
          · exact nX h k hk
          · exact h1
        · show 1+((n.Kids.set j c).map (Cnt d)).sum<=1+(n.Kids.map (Cnt d)).sum
          have:=QC (Cnt d) (l:=n.Kids) (j:=j) default h2
          omega
def pI {α:Type} (l:List α) (k:Nat):List α:=l.take k++l.drop (k+1)
def uM (n:af) (s:aG):Option af:=match uF n s with
 | some k=>some (af.mk n.Kind 0 [] (if n.Kind=4 then pI n.Names k else []) (pI n.Kids k))
 | none=>none
theorem rJ:∀ {l:List aG},Asc l=true<->l.Pairwise (fun x y=>bl x y=true)
  | []=>by simp [Asc]
  | x::l=>by
    rw [List.pairwise_cons,<- rJ (l:=l)]
    constructor
    · intro h; exact ⟨yc h,wW h⟩
    · rintro ⟨h1,h2⟩
      cases l with
      | nil=>rfl
      | cons y r=>rw [Asc,h2,Bool.and_true]; exact h1 y (by simp)
theorem sV {α:Type} (l:List α) (k:Nat):(pI l k).Sublist l:=by
 unfold pI
 conv=>rhs; rw [<- List.take_append_drop k l]
 refine List.Sublist.append (List.Sublist.refl _) ?_
 rw [<- List.drop_drop]
 exact List.drop_sublist 1 _
theorem uZ {α:Type} {l:List α} {k:Nat} (h:k<l.length):(pI l k).length=l.length-1:=by unfold pI; simp; omega
theorem Xg {α:Type} (f:α->Nat):∀ {l m:List α},l.Sublist m->(l.map f).sum<=(m.map f).sum:=by
 intro l m h
 induction h with
 | slnil=>simp
 | cons a h ih=>simp only [List.map_cons,List.sum_cons]; omega
 | cons_cons a h ih=>simp only [List.map_cons,List.sum_cons]; omega
theorem SI (s:aG):∀ d k k',Shape d k=true->uM k s=some k'->Shape d k'=true/\Cnt d k'<=Cnt d k:=by
  intro d n m h e
  unfold uM at e
  cases hj:uF n s with
  | none=>rw [hj] at e; cases e
  | some j =>
    rw [hj] at e
    cases e
    have hjl:=qp hj
    cases d with
    | zero=>cases h
    | succ d =>
    have hp:=lV h
    have hsub:=sV n.Kids j
    have hlen:=uZ hjl
    have hl:=EZ hp
    constructor
    · unfold Shape
      rw [Bool.and_eq_true,List.all_eq_true]
      refine ⟨?_,fun k hk=>nX h k (hsub.subset hk)⟩
      by_cases h4:n.Kind=4
      · obtain ⟨_,_,hN,hnl,hkl⟩:=rq hp h4
        have hNM:NM (pI n.Names j)=true:=by
          unfold NM
          rw [Bool.and_eq_true]
          refine ⟨List.all_eq_true.2 fun x hx=>Pv hN x ((sV _ _).subset hx),rJ.2 ((rJ.1 (CV hN)).sublist (sV _ _))⟩
        have hl2:=uZ (l:=n.Names) (k:=j) (by omega)
        unfold Parts
        simp [h4,hNM]
        omega
      · by_cases h3:n.Kind=3
        · unfold Parts
          simp [h3]
          omega
        · have:=Bv hj; rw [yx h4 h3] at this; cases this
    · show 1+((pI n.Kids j).map (Cnt d)).sum<=1+(n.Kids.map (Cnt d)).sum
      have:=Xg (Cnt d) hsub
      omega
def xM (p:List aG):aG:=p.getD (p.length-1) default
def uB (p:List aG):List aG:=p.take (p.length-1)
def sG (n:af) (p:List aG) (v:af):Option af:=if p=[] then some v else wz (fun m=>addN m (xM p) v) n (uB p)
def tJ (n:af) (p:List aG):Option af:=if p=[] then none else wz (fun m=>uM m (xM p)) n (uB p)
theorem T.kV {B D:Nat} {o:Option af} (hB:B<=lim) (h:∀ m,o=some m->Fine B D m):Ev (fun f=>G.kV f (jT o).1 (jT o).2) (jT (o.filter Val)):=by
  refine Ev.up ?_
  simp only [G.kV]
  cases o with
  | none=>exact Ev.cf rfl (Ev.ret _)
  | some m =>
    refine Ev.ct rfl (Ev.bind (T.bH hB (h m rfl)) (Ev.ite (fun e=>Ev.ret' ?_) (fun e=>Ev.ret' ?_)))
    · have e:Val m=true:=e
      simp [Option.filter,e,jT]
    · have e:Val m=false:=e
      simp [Option.filter,e,jT,mX]
theorem T.kL {B D:Nat} {o:Option af} (hB:B<=lim) (h:∀ m,o=some m->Fine B D m):Ev (fun f=>G.kL f (jT o).1 (jT o).2) (jT (o.filter Val)):=by
  refine Ev.up ?_
  simp only [G.kL]
  cases o with
  | none=>exact Ev.cf rfl (Ev.ret _)
  | some m =>
    refine Ev.ct rfl (Ev.bind (T.aO hB (h m rfl)) (Ev.ite (fun e=>Ev.ret' ?_) (fun e=>Ev.ret' ?_)))
    · have e:Val m=true:=e
      simp [Option.filter,e,jT]
    · have e:Val m=false:=e
      simp [Option.filter,e,jT,mX]
theorem Ag {p:List aG} (hp:p ≠ []) (hl:p.length<big):IntKind.wrap .i64 (((p.length:Nat):Int)-1)=((p.length-1:Nat):Int):=by
 have:0<p.length:=List.length_pos_iff.2 hp
 unfold big at hl
 exact wrapN (by omega) (by omega)
theorem CG {B D E:Nat} {n v m:af} {p:List aG} (h:Fine B D n) (hv:Fine B E v) (hs:∀ s,s∈p->s.length<=B) (hm:sG n p v=some m):Fine (B+1) (D+(D+E)) m:=by
  unfold sG at hm
  split at hm
  · cases hm; exact hv.mono (by omega) (by omega)
  · rename_i hp
    have hlast:(xM p).length<=B:=by
      unfold xM
      have:0<p.length:=List.length_pos_iff.2 hp
      rw [dh _ (by omega:p.length-1<p.length)]
      exact hs _ (List.getElem_mem _)
    rw [JV] at hm
    cases ha:zT n (uB p) with
    | none=>rw [ha] at hm; cases hm
    | some inner =>
      rw [ha,Option.bind_some] at hm
      cases hn:addN inner (xM p) v with
      | none=>rw [hn] at hm; cases hm
      | some next =>
        rw [hn,Option.bind_some] at hm
        have hi:=Be _ h ha
        have hnx:=Hz hi hv hlast hn
        exact HY (B:=B+1) (E:=D+E) (uB p) (f:=fun _=>some next) (D:=D) (n:=n) (m:=m) (fun D' k k' _ e=>by cases e; exact hnx.mono (Nat.le_refl _) (by omega)) (h.mono (by omega) (Nat.le_refl _)) hm
theorem T.lX {B D E:Nat} {n v:af} (p:List aG) (hB:B+1<lim) (hp:p.length<big) (hs:∀ s,s∈p->s.length<=B) (h:Fine B D n) (hv:Fine B E v):Ev (fun f=>G.lX f n p v) (jT (sG n p v)):=by
  refine Ev.up ?_
  simp only [G.lX]
  by_cases hp0:p=[]
  · subst hp0
    exact Ev.ct rfl (Ev.bind (T.aB (by omega) hv) (Ev.ret _))
  · have hpos:0<p.length:=List.length_pos_iff.2 hp0
    have hlast:(xM p).length<=B:=by
      unfold xM
      rw [dh _ (by omega:p.length-1<p.length)]
      exact hs _ (List.getElem_mem _)
    rw [Ag hp0 hp,Int.toNat_natCast]
    unfold sG
    rw [if_neg hp0,JV]
    have hil:(uB p).length<big:=by unfold uB; rw [List.length_take]; omega
    refine Ev.cf (by simpa using hp0) (Ev.chk (by omega) (Ev.bind (T.lY (uB p) (by omega) hil h) ?_))
    cases ha:zT n (uB p) with
    | none=>exact Ev.cf rfl (Ev.ret _)
    | some inner =>
      have hi:=Be _ h ha
      have hA:=T.jd (n:=inner) (xM p) (by omega) hi hv
      refine Ev.ct rfl (Ev.chk (by omega) (Ev.bind hA ?_))
      rw [Option.bind_some]
      cases hn:addN inner (xM p) v with
      | none=>exact Ev.cf rfl (Ev.ret _)
      | some next =>
        have hnx:=Hz hi hv hlast hn
        refine Ev.ct rfl (Ev.chk (by omega) (Ev.bind (T.jQ (by omega) hnx (uB p) hil (h.mono (by omega) (Nat.le_refl _))) (Ev.ret _)))
theorem Un {B D:Nat} {n m:af} {s:aG} (h:Fine B D n) (e:uM n s=some m):Fine B D m:=by
  unfold uM at e
  cases hj:uF n s with
  | none=>rw [hj] at e; cases e
  | some j =>
    rw [hj] at e
    cases e
    cases D with
    | zero=>exact h.elim
    | succ D =>
    have hjl:=qp hj
    have hk:=h.kids
    have hn:=h.names
    have h1:=uZ hjl
    refine ⟨by simp,?_,fun x hx => ?_,by show (pI n.Kids j).length<=B; omega,fun h4 => ?_,fun k hk'=>h.2.2.2.2.2 k ((sV _ _).subset hk')⟩
    · show (if n.Kind=4 then pI n.Names j else []).length<=B
      split
      · have:=(sV n.Names j).length_le; omega
      · simp
    · have hx:x∈(if n.Kind=4 then pI n.Names j else []):=hx
      split at hx
      · exact h.2.2.1 x ((sV _ _).subset hx)
      · cases hx
    · have h4:n.Kind=4:=h4
      have hm:=h.map h4
      have h2:=uZ (l:=n.Names) (k:=j) (by omega)
      show (pI n.Kids j).length<=(if n.Kind=4 then pI n.Names j else []).length
      rw [if_pos h4]
      omega
theorem T.gG {B D:Nat} {n:af} (p:List aG) (hB:B+1<lim) (hp:p.length<big) (h:Fine B D n):Ev (fun f=>G.gG f n p) (jT (tJ n p)):=by
  have hB2:=hB
  unfold lim at hB2
  refine Ev.up ?_
  simp only [G.gG]
  by_cases hp0:p=[]
  · subst hp0
    exact Ev.ct (by rfl) (Ev.ret _)
  · have hpos:0<p.length:=List.length_pos_iff.2 hp0
    rw [Ag hp0 hp,Int.toNat_natCast]
    unfold tJ
    rw [if_neg hp0,JV]
    have hil:(uB p).length<big:=by unfold uB; rw [List.length_take]; omega
    refine Ev.cf (by simp) (Ev.chk (by omega) (Ev.bind (T.lY (uB p) (by omega) hil h) ?_))
    cases ha:zT n (uB p) with
    | none=>exact Ev.cf rfl (Ev.ret _)
    | some inner =>
      have hi:=Be _ h ha
      have hk:=hi.kids
      have hnm:=hi.names
      have hP:=T.fB (n:=inner) (xM p) (by omega) hi
      refine Ev.ct rfl (Ev.chk (by omega) (Ev.bind hP ?_))
      rw [Option.bind_some]
      cases hj:uF inner (xM p) with
      | none =>
        unfold uM
        rw [hj]
        exact Ev.ct rfl (Ev.ret _)
      | some j =>
        have hjl:=qp hj
        simp only [vJ,jT,Int.toNat_natCast,bP (show j+1<9223372036854775808 by omega)]
        have ht:(inner.Kids.take j).length=j:=by rw [List.length_take]; omega
        have hd:(inner.Kids.drop (j+1)).length=inner.Kids.length-(j+1):=List.length_drop
        refine Ev.cf (decide_eq_false (by omega)) (Ev.chk (by omega) (Ev.chk (by omega) (Ev.chk (by omega) (Ev.chk (by omega) ?_))))
        have key:∀ (b:Bool) (nm:List aG),uM inner (xM p)=some (af.mk inner.Kind 0 [] nm (pI inner.Kids j))->Ev (fun f=>G.gG.K1 f n p (inner,b) (pI inner.Kids j) nm) (jT ((uM inner (xM p)).bind fun m'=>F7 n (uB p) m')):=by
          intro b nm e
          refine Ev.up ?_
          simp only [G.gG.K1]
          rw [Ag hp0 hp,Int.toNat_natCast,e,Option.bind_some]
          exact Ev.chk (by omega) (Ev.bind (T.jQ (by omega) (Un hi e) (uB p) hil h) (Ev.ret _))
        refine Ev.ite (fun e4 => ?_) (fun e4 => ?_)
        · have h4:inner.Kind=4:=by simpa using e4
          have hm:=hi.map h4
          have ht2:(inner.Names.take j).length=j:=by rw [List.length_take]; omega
          have hd2:(inner.Names.drop (j+1)).length=inner.Names.length-(j+1):=List.length_drop
          refine Ev.chk (by omega) (Ev.chk (by omega) (Ev.chk (by omega) (Ev.chk (by omega) ?_)))
          exact key true (pI inner.Names j) (by unfold uM; rw [hj]; simp [h4])
        · have h4:¬ inner.Kind=4:=by simpa using e4
          exact key true [] (by unfold uM; rw [hj]; simp [h4])
end Go.Ab
end
section
namespace Go.Ab
open Go
theorem YV {B:Nat} (hB:B<=lim) {p:List aG} (hl:p.length<=B) (hs:∀ s,s∈p->s.length<=B):Sm p:=by
 unfold lim at hB
 exact ⟨by unfold big; omega,fun s h=>by have:=hs s h; unfold big; omega⟩
def pG (B:Nat) (p:List aG):Prop:=p.length<=B/\∀ s,s∈p->s.length<=B
theorem pG.sm {B:Nat} (hB:B<=lim) {p:List aG} (h:pG B p):Sm p:=YV hB h.1 h.2
theorem ql {p:List aG} (h:PP p=true):pG 12 p:=by
 unfold PP at h
 simp only [Bool.and_eq_true,decide_eq_true_eq] at h
 exact ⟨by omega,fun s hs=>Il (List.all_eq_true.1 h.1 s hs)⟩
def LH (n:af) (p:List aG) (v:af):Option af:=if Val n&&PP p&&Val v then (sG n p v).filter Val else none
def TM (n:af) (p:List aG):Option af:=if Val n&&PP p then tJ n p else none
def Wl (n:af) (p:List aG) (v:af):Option af:=if Val n&&PP p&&Val v then (F7 n p v).filter Val else none
def AtM (n:af) (p:List aG):Option af:=if Val n&&PP p then zT n p else none
theorem BA {n m:af} {p:List aG} (h:Val n=true) (e:tJ n p=some m):Val m=true:=by
 unfold tJ at e
 split at e
 ·cases e
 ·obtain ⟨h1,h2⟩:=Jr (SI (xM p)) (uB p) (kZ h) e
  exact VE (Nat.le_refl _) h1 (Nat.le_trans h2 (QG h))
theorem Es {n m:af} {p:List aG} (h:Val n=true) (e:zT n p=some m):Val m=true:=by
 obtain ⟨h1,h2⟩:=Mc p (kZ h) e
 exact VE (Nat.le_refl _) h1 (Nat.le_trans h2 (QG h))
theorem T.DT {B E:Nat} {v:af} (p:List aG) (k:Nat) (hB:B<=lim) (hv:Fine B E v) (hk:k<p.length) :
  ∀ (q:List aG) {d:Nat} {n:af},Shape d n=true->Ev (fun f=>G.fU f n q p (k:Int) v) (jT (wz (fun m=>addN m (p.getD k default) v) n q)):=by
 refine T.change (F:=fun f a q=>G.fU f a q p (k:Int) v) (C:=fun f a=>G.mV f a p (k:Int) v) (fun n a q=>by simp only [G.fU]) (fun d m hm => ?_)
 refine Ev.up ?_
 simp only [G.mV]
 refine Ev.chk (by omega) (Ev.bind (T.jb _ hB hv hm) (Ev.ret' ?_))
 rw [Int.toNat_natCast]
theorem T.DW {B E:Nat} {v:af} (hB:B<=lim) (hv:Fine B E v) :
  ∀ (q:List aG) {d:Nat} {n:af},Shape d n=true->Ev (fun f=>G.fV f n q v) (jT (F7 n q v)):=by
 refine T.change (F:=fun f a q=>G.fV f a q v) (C:=fun f a=>G.mW f a v) (fun n a q=>by simp only [G.fV]) (fun d m hm => ?_)
 refine Ev.up ?_
 simp only [G.mW]
 exact Ev.bind (T.aF hB hv) (Ev.ret _)
theorem T.fJ {d:Nat} {n:af} (p:List aG) (k:Nat) (hk:k<p.length) (h:Shape d n=true):Ev (fun f=>G.fJ f n p (k:Int)) (jT (uM n (p.getD k default))):=by
  cases d with
  | zero=>cases h
  | succ d =>
  have hp:=lV h
  have hl:=EZ hp
  obtain ⟨w,b,g,h1,h2⟩:=T.bZ (p.getD k default) hp
  refine Ev.up ?_
  simp only [G.fJ,Int.toNat_natCast]
  refine Ev.chk (by omega) (Ev.bind g ?_)
  unfold uM
  cases hj:uF n (p.getD k default) with
  | none=>exact Ev.cf (h2 hj) (Ev.ret _)
  | some j =>
    have hjl:=qp hj
    obtain ⟨rfl,rfl⟩:=h1 j hj
    have d1:Ev (fun f=>G.dN f n.Kids (j:Int) ((j+1:Nat):Int)) (pI n.Kids j):=by
      refine Ev.up ?_
      simp only [G.dN,Int.toNat_natCast]
      exact Ev.chk (by omega) (Ev.ret _)
    have hK:∀ nm,n.Num=0->n.Text=[]->Ev (fun f=>G.fJ.K1 f ((j:Int),true) n nm) (af.mk n.Kind 0 [] nm (pI n.Kids j),true):=by
      intro nm e1 e2
      refine Ev.up ?_
      simp only [G.fJ.K1,bP (show j+1<9223372036854775808 by omega)]
      exact Ev.bind d1 (Ev.ret' (by rw [e1,e2]))
    refine Ev.ct rfl (Ev.bind (T.aF rH (pR h)) ?_)
    by_cases h4:n.Kind=4
    · obtain ⟨e1,e2,_,hnl,hkl⟩:=rq hp h4
      have d2:Ev (fun f=>G.slices_Delete_string f n.Names (j:Int) ((j+1:Nat):Int)) (pI n.Names j):=by
        refine Ev.up ?_
        simp only [G.slices_Delete_string,Int.toNat_natCast]
        exact Ev.chk (by omega) (Ev.ret _)
      refine Ev.ct (by simpa using h4) ?_
      simp only [bP (show j+1<9223372036854775808 by omega)]
      refine Ev.bind d2 ((hK _ e1 e2).eq ?_)
      simp [h4,jT]
    · by_cases h3:n.Kind=3
      · obtain ⟨e1,e2,e3,_⟩:=vg hp h3
        refine Ev.cf (by simpa using h4) ((hK _ e1 e2).eq ?_)
        simp [h4,jT,e3]
      · have:=Bv hj; rw [yx h4 h3] at this; cases this
theorem T.DV (p:List aG) (k:Nat) (hk:k<p.length) :
  ∀ (q:List aG) {d:Nat} {n:af},Shape d n=true->Ev (fun f=>G.eG f n q p (k:Int)) (jT (wz (fun m=>uM m (p.getD k default)) n q)) :=
 T.change (F:=fun f a q=>G.eG f a q p (k:Int)) (C:=fun f a=>G.fJ f a p (k:Int)) (fun n a q=>by simp only [G.eG]) (fun d m hm=>T.fJ p k hk hm)
theorem T.jY {B D E:Nat} {n v:af} {p:List aG} (hB:B+2<lim) (h:Fine B D n) (hp:pG B p) (hv:Fine B E v):Ev (fun f=>G.jY f n p v) (jT (LH n p v)):=by
 have hsm:=hp.sm (by omega)
 refine Ev.up ?_
 simp only [G.jY]
 unfold LH
 refine Ev.bind (T.aO (by omega) h) (Ev.ite (fun e1 => ?_) (fun e1=>Ev.ret' (by rw [e1]; rfl)))
 refine Ev.bind (T.fK p hsm) (Ev.ite (fun e2 => ?_) (fun e2=>Ev.ret' (by rw [e1,e2]; rfl)))
 refine Ev.bind (T.aO (by omega) hv) (Ev.ite (fun e3 => ?_) (fun e3=>Ev.ret' (by rw [e1,e2,e3]; rfl)))
 rw [e1,e2,e3,if_pos (by rfl)]
 by_cases hp0:p=[]
 ·subst hp0
  refine Ev.ct rfl (Ev.bind (T.aF (by omega) hv) (Ev.ret' ?_))
  unfold sG
  simp [Option.filter,e3,jT]
 ·have hpos:0<p.length:=List.length_pos_iff.2 hp0
  simp only [Ag hp0 hsm.1,Int.toNat_natCast]
  refine Ev.cf (by simpa using hp0) (Ev.chk (by omega) ?_)
  have hc:=T.DT p (p.length-1) (by omega) hv (by omega) (uB p) (kZ e1)
  refine Ev.bind hc ?_
  have hA:sG n p v=wz (fun m=>addN m (p.getD (p.length-1) default) v) n (uB p):=by unfold sG; rw [if_neg hp0]; rfl
  rw [<- hA]
  exact Ev.bind (T.kL (o:=sG n p v) (B:=B+1) (by omega) (fun m hm=>CG h hv hp.2 hm)) (Ev.ret _)
theorem T.nI {B D E:Nat} {n v:af} {p:List aG} (hB:B+2<lim) (h:Fine B D n) (hp:pG B p) (hv:Fine B E v):Ev (fun f=>G.nI f n p v) (jT (Wl n p v)):=by
 have hsm:=hp.sm (by omega)
 refine Ev.up ?_
 simp only [G.nI]
 unfold Wl
 refine Ev.bind (T.aO (by omega) h) (Ev.ite (fun e1 => ?_) (fun e1=>Ev.ret' (by rw [e1]; rfl)))
 refine Ev.bind (T.fK p hsm) (Ev.ite (fun e2 => ?_) (fun e2=>Ev.ret' (by rw [e1,e2]; rfl)))
 refine Ev.bind (T.aO (by omega) hv) (Ev.ite (fun e3 => ?_) (fun e3=>Ev.ret' (by rw [e1,e2,e3]; rfl)))
 rw [e1,e2,e3,if_pos (by rfl)]
 refine Ev.bind (T.DW (by omega) hv p (kZ e1)) ?_
 exact Ev.bind (T.kL (B:=B) (by omega) (fun m hm=>Bg h hv hm)) (Ev.ret _)
theorem T.jk {B D:Nat} {n:af} {p:List aG} (hB:B+2<lim) (h:Fine B D n) (hp:pG B p):Ev (fun f=>G.jk f n p) (jT (TM n p)):=by
 have hsm:=hp.sm (by omega)
 refine Ev.up ?_
 simp only [G.jk]
 unfold TM
 refine Ev.bind (T.aO (by omega) h) (Ev.ite (fun e1 => ?_) (fun e1=>Ev.ret' (by rw [e1]; rfl)))
 refine Ev.bind (T.fK p hsm) (Ev.ite (fun e2 => ?_) (fun e2=>Ev.ret' (by rw [e1,e2]; rfl)))
 rw [e1,e2,if_pos (by rfl)]
 by_cases hp0:p=[]
 ·subst hp0
  exact Ev.ct rfl (Ev.ret _)
 ·have hpos:0<p.length:=List.length_pos_iff.2 hp0
  simp only [Ag hp0 hsm.1,Int.toNat_natCast]
  refine Ev.cf (by simpa using hp0) (Ev.chk (by omega) ?_)
  have hA:tJ n p=wz (fun m=>uM m (p.getD (p.length-1) default)) n (uB p):=by unfold tJ; rw [if_neg hp0]; rfl
  rw [hA]
  exact Ev.bind (T.DV p (p.length-1) (by omega) (uB p) (kZ e1)) (Ev.ret _)
theorem T.mO {B D:Nat} {n:af} {p:List aG} (hB:B+2<lim) (h:Fine B D n) (hp:pG B p):Ev (fun f=>G.mO f n p) (jT (AtM n p)):=by
 have hsm:=hp.sm (by omega)
 refine Ev.up ?_
 simp only [G.mO]
 unfold AtM
 refine Ev.bind (T.aO (by omega) h) (Ev.ite (fun e1 => ?_) (fun e1=>Ev.ret' (by rw [e1]; rfl)))
 refine Ev.bind (T.fK p hsm) (Ev.ite (fun e2 => ?_) (fun e2=>Ev.ret' (by rw [e1,e2]; rfl)))
 rw [e1,e2,if_pos (by rfl)]
 refine Ev.bind (T.iF p hsm.1 (kZ e1)) ?_
 cases ha:zT n p with
 | none=>exact Ev.cf rfl (Ev.ret _)
 | some m=>exact Ev.ct rfl (Ev.bind (T.aF (by omega) (Be p h ha)) (Ev.ret _))
theorem T.slices_Equal_string.L1 {a b:List aG} (hl:a.length=b.length) (hb:a.length<big):∀ (k i:Nat),i+k=a.length->Ev (fun f=>G.slices_Equal_string.L1 f a b i) (decide (a.drop i=b.drop i)):=by
  unfold big at hb
  intro k
  induction k with
  | zero =>
    intro i hi
    refine Ev.up ?_
    simp only [G.slices_Equal_string.L1]
    refine Ev.cf (by simp; omega) (Ev.ret' ?_)
    rw [List.drop_of_length_le (by omega),List.drop_of_length_le (by omega)]; rfl
  | succ k ih =>
    intro i hi
    refine Ev.up ?_
    simp only [G.slices_Equal_string.L1,Int.toNat_natCast,bP (show i+1<9223372036854775808 by omega)]
    refine Ev.ct (by simp; omega) (Ev.chk (by omega) (Ev.chk (by omega) ?_))
    rw [bT (default:aG) (by omega:i<a.length),bT (default:aG) (by omega:i<b.length)]
    refine Ev.ite (fun e=>(ih (i+1) (by omega)).eq ?_) (fun e=>Ev.ret' ?_)
    · rw [beq_iff_eq] at e
      apply decide_eq_decide.2
      rw [List.cons.injEq]
      exact ⟨fun h=>⟨e,h⟩,fun h=>h.2⟩
    · have e:a.getD i default ≠ b.getD i default:=by simpa using e
      symm
      apply decide_eq_false
      rw [List.cons.injEq]
      exact fun h=>e h.1
theorem T.slices_Equal_string {a b:List aG} (hb:a.length<big):Ev (fun f=>G.slices_Equal_string f a b) (decide (a=b)):=by
 refine Ev.up ?_
 simp only [G.slices_Equal_string]
 by_cases h:a.length=b.length
 ·exact Ev.cf (by simp; omega) (T.slices_Equal_string.L1 h hb a.length 0 (by omega))
 ·refine Ev.ct (by simp; omega) (Ev.ret' ?_)
  symm
  exact decide_eq_false (fun e=>h (by rw [e]))
def Jb (n:af) (o p:List aG) (t:af):Option af:=if o <+: p then (if p.length=o.length then some n else none) else (tJ n o).bind fun less=>sG less p t
theorem NI {o p:List aG} (h:o.length<=p.length):p.take o.length=o<->o <+: p:=by
 rw [List.prefix_iff_eq_take,eq_comm]
def V8 (n:af) (o p:List aG):Option af:=if Val n&&PP o&&PP p then (zT n o).bind fun t=>(Jb n o p t).filter Val else none
theorem T.mF {n:af} {o p:List aG} (h:Val n=true) (ho:PP o=true) (hp:PP p=true):Ev (fun f=>G.mF f n o p) (jT (V8 n o p)):=by
  have hb:(12:Nat)+2<lim:=by decide
  have fo:=ql ho
  have fp:=ql hp
  have so:=fo.sm (by decide)
  have sp:=fp.sm (by decide)
  refine Ev.up ?_
  simp only [G.mF]
  unfold V8
  rw [h,ho,hp,if_pos (by rfl)]
  refine Ev.bind (T.mO hb (jf h) fo) ?_
  unfold AtM
  rw [h,ho,if_pos (by rfl)]
  cases ha:zT n o with
  | none=>exact Ev.cf rfl (Ev.ret _)
  | some t =>
    have hvt:=Es h ha
    refine Ev.ct rfl ?_
    rw [Option.bind_some]
    have mv:¬ o <+: p->Ev (fun f=>Option.bind (G.jk f n o) fun v5=>cond v5.2 (Option.bind (G.jY f v5.1 p t) fun v6=>some (v6.1,v6.2)) (some ((af.mk 0 0 [] [] []),false))) (jT ((Jb n o p t).filter Val)):=by
      intro hn
      unfold Jb
      rw [if_neg hn]
      refine Ev.bind (T.jk hb (jf h) fo) ?_
      unfold TM
      rw [h,ho,if_pos (by rfl)]
      cases hr:tJ n o with
      | none=>exact Ev.cf rfl (Ev.ret _)
      | some less =>
        have hvl:=BA h hr
        have hA:=T.jY (n:=less) hb (jf hvl) fp (jf hvt)
        have e:LH less p t=(sG less p t).filter Val:=by unfold LH; rw [hvl,hp,hvt,if_pos (by rfl)]
        rw [e] at hA
        exact Ev.ct rfl (Ev.bind hA (Ev.ret _))
    refine Ev.bind (T.slices_Equal_string sp.1) (Ev.ite (fun e => ?_) (fun e => ?_))
    · rw [decide_eq_true_eq] at e
      subst e
      refine Ev.bind (T.aF rH (jf h)) (Ev.ret' ?_)
      unfold Jb
      rw [if_pos (List.prefix_refl _),if_pos rfl]
      simp [Option.filter,h,jT]
    · have hne:p ≠ o:=by simpa using e
      refine Ev.ite (fun e2 => ?_) (fun e2 => ?_)
      · have hlt:o.length<p.length:=by simpa using e2
        refine Ev.chk (by omega) (Ev.bind (T.slices_Equal_string (a:=p.take o.length) (by rw [List.length_take]; have:=sp.1; omega)) (Ev.ite (fun e3=>Ev.ret' ?_) (fun e3 => ?_)))
        · rw [decide_eq_true_eq,NI (by omega)] at e3
          unfold Jb
          rw [if_pos e3,if_neg (by omega)]
          rfl
        · rw [decide_eq_false_iff_not,NI (by omega)] at e3
          exact mv e3
      · have hge:¬ o.length<p.length:=by simpa using e2
        refine mv fun hpre => ?_
        have h1:=hpre.length_le
        exact hne (hpre.eq_of_length (by omega)).symm
end Go.Ab
end
section
namespace Go.Ab
open Go
theorem T.jM.L1 {p w:List aG} (hp:p.length<big) (hw:w.length<big):∀ (k i:Nat),i+k=w.length->Ev (fun f=>G.jM.L1 f p w i) (decide (w.drop i <+: p.drop i)):=by
  unfold big at hp hw
  intro k
  induction k with
  | zero =>
    intro i hi
    refine Ev.up ?_
    simp only [G.jM.L1]
    refine Ev.cf (by simp; omega) (Ev.ret' ?_)
    rw [List.drop_of_length_le (by omega:w.length<=i)]
    symm
    exact decide_eq_true (List.nil_prefix)
  | succ k ih =>
    intro i hi
    refine Ev.up ?_
    simp only [G.jM.L1,Int.toNat_natCast,bP (show i+1<9223372036854775808 by omega)]
    refine Ev.ct (by simp; omega) ?_
    rw [bT (default:aG) (by omega:i<w.length)]
    by_cases hpi:p.length<=i
    · refine Ev.ct (by simpa using hpi) (Ev.ret' ?_)
      rw [List.drop_of_length_le hpi]
      symm
      exact decide_eq_false (by simp)
    · refine Ev.cf (by simpa using hpi) (Ev.chk (by omega) (Ev.chk (by omega) ?_))
      rw [bT (default:aG) (by omega:i<p.length)]
      refine Ev.ite (fun e=>(ih (i+1) (by omega)).eq ?_) (fun e=>Ev.ret' ?_)
      · rw [beq_iff_eq] at e
        apply decide_eq_decide.2
        rw [List.cons_prefix_cons]
        exact ⟨fun h=>⟨e.symm,h⟩,fun h=>h.2⟩
      · have e:p.getD i default ≠ w.getD i default:=by simpa using e
        symm
        apply decide_eq_false
        rw [List.cons_prefix_cons]
        exact fun h=>e h.1.symm
theorem T.jM {p w:List aG} (hp:p.length<big) (hw:w.length<big):Ev (fun f=>G.jM f p w) (decide (w <+: p)):=by
 refine Ev.up ?_
 simp only [G.jM]
 exact T.jM.L1 hp hw w.length 0 (by omega)
open Classical in
noncomputable def applyN (n:af) (o:nO):Option af :=
 if o.Kind=1 then sG n o.Path o.Value else if o.Kind=2 then tJ n o.Path else if o.Kind=3 then F7 n o.Path o.Value
 else (zT n (if o.Kind=6 then o.Path else o.From)).bind fun t =>
  if o.Kind=6 then (if t=o.Value then some n else none) else if o.Kind=5 then sG n o.Path t else Jb n o.From o.Path t
def Oq (o:nO):Bool:=(decide (1<=o.Kind)&&decide (o.Kind<=6))&&PP o.Path&&PP o.From&&Val o.Value
noncomputable def uV (n:af) (o:nO):Option af:=if Val n&&Oq o then (applyN n o).filter Val else none
def Said (q:af × Bool) (o:Option af):Prop:=(q.2=true->o=some q.1)/\(q.2=false->o=none)
theorem yF (o:Option af):Said (jT o) o:=by
 cases o with
 | none=>exact ⟨fun e=>(by cases e),fun _=>rfl⟩
 | some m=>exact ⟨fun _=>rfl,fun e=>(by cases e)⟩
structure Dn (o:nO):Prop where
 k1:1<=o.Kind
 k6:o.Kind<=6
 path:PP o.Path=true
 from_:PP o.From=true
 val:Val o.Value=true
theorem EY {o:nO} (h:Oq o=true):Dn o:=by
 unfold Oq at h
 simp only [Bool.and_eq_true,decide_eq_true_eq] at h
 exact ⟨h.1.1.1.1,h.1.1.1.2,h.1.1.2,h.1.2,h.2⟩
theorem Ry:(12:Nat)+1<lim:=by decide
theorem Rz:(12:Nat)+2<lim:=by decide
theorem T.iY.K1 {n:af} {o:nO} (h:Val n=true) (ho:Dn o) (fr:List aG) (hf:PP fr=true) (h6:fr=if o.Kind=6 then o.Path else o.From) (hk:o.Kind ≠ 1/\o.Kind ≠ 2/\o.Kind ≠ 3) :
    ∃ q,Ev (fun f=>G.iY.K1 f n o fr) q/\Said q (applyN n o):=by
  have sp:=(ql ho.path).sm (by decide)
  have sf:=(ql ho.from_).sm (by decide)
  have sr:=(ql hf).sm (by decide)
  have hn:=jf h
  have hat:=T.lY fr (by decide) sr.1 hn
  have hN:applyN n o=(zT n fr).bind fun t => @ite _ (o.Kind=6) _ (@ite _ (t=o.Value) (Classical.propDecidable _) (some n) none) (if o.Kind=5 then sG n o.Path t else Jb n o.From o.Path t):=by
    unfold applyN
    rw [if_neg hk.1,if_neg hk.2.1,if_neg hk.2.2,h6]
  rw [hN]
  cases ha:zT n fr with
  | none =>
    rw [ha] at hat
    refine ⟨(mX,false),Ev.up ?_,⟨fun e=>(by cases e),fun _=>rfl⟩⟩
    simp only [G.iY.K1]
    exact Ev.bind hat (Ev.cf rfl (Ev.ret _))
  | some t =>
    rw [ha] at hat
    have ht:=jf (Es h ha)
    rw [Option.bind_some]
    by_cases k6:o.Kind=6
    · obtain ⟨v,gs,hv⟩:=T.pJ (kZ (Es h ha)) (kZ ho.val)
      refine ⟨(n,v),Ev.up ?_,?_⟩
      · simp only [G.iY.K1]
        exact Ev.bind hat (Ev.ct rfl (Ev.ct (by simpa using k6) (Ev.bind gs (Ev.ret _))))
      · rw [if_pos k6]
        refine ⟨fun e=>if_pos (hv.1 e),fun e=>if_neg fun e2 => ?_⟩
        have:=hv.2 e2
        rw [show v=false from e] at this
        cases this
    · rw [if_neg k6]
      by_cases k5:o.Kind=5
      · rw [if_pos k5]
        refine ⟨_,Ev.up ?_,yF _⟩
        simp only [G.iY.K1]
        exact Ev.bind hat (Ev.ct rfl (Ev.cf (by simpa using k6) (Ev.ct (by simpa using k5) (Ev.bind (T.lX o.Path Ry sp.1 (ql ho.path).2 hn ht) (Ev.ret _)))))
      · rw [if_neg k5]
        unfold Jb
        have hbg:=T.jM sp.1 sf.1
        by_cases hpre:o.From <+: o.Path
        · rw [if_pos hpre]
          refine ⟨(n,((o.Path.length:Nat):Int)==((o.From.length:Nat):Int)),Ev.up ?_,?_⟩
          · simp only [G.iY.K1]
            exact Ev.bind hat (Ev.ct rfl (Ev.cf (by simpa using k6) (Ev.cf (by simpa using k5) (Ev.bind hbg (Ev.ct (by simpa using hpre) (Ev.bind (T.aB rH hn) (Ev.ret _)))))))
          · rw [ilen]
            refine ⟨fun e=>if_pos (by simpa using e),fun e=>if_neg (by simpa using e)⟩
        · rw [if_neg hpre]
          have hr:=T.gG (n:=n) o.From Ry sf.1 hn
          cases hre:tJ n o.From with
          | none =>
            rw [hre] at hr
            refine ⟨(mX,false),Ev.up ?_,⟨fun e=>(by cases e),fun _=>rfl⟩⟩
            simp only [G.iY.K1]
            exact Ev.bind hat (Ev.ct rfl (Ev.cf (by simpa using k6) (Ev.cf (by simpa using k5) (Ev.bind hbg (Ev.cf (by simpa using hpre) (Ev.bind hr (Ev.cf rfl (Ev.ret _))))))))
          | some less =>
            rw [hre] at hr
            have hl:=jf (BA h hre)
            refine ⟨_,Ev.up ?_,yF _⟩
            simp only [G.iY.K1]
            exact Ev.bind hat (Ev.ct rfl (Ev.cf (by simpa using k6) (Ev.cf (by simpa using k5) (Ev.bind hbg (Ev.cf (by simpa using hpre) (Ev.bind hr (Ev.ct rfl (Ev.bind (T.lX (n:=less) o.Path Ry sp.1 (ql ho.path).2 hl ht) (Ev.ret _)))))))))
theorem T.iY {n:af} {o:nO} (h:Val n=true) (ho:Dn o):∃ q,Ev (fun f=>G.iY f n o) q/\Said q (applyN n o):=by
 have sp:=(ql ho.path).sm (by decide)
 have hn:=jf h
 by_cases k1:o.Kind=1
 ·refine ⟨_,Ev.up ?_,yF _⟩
  simp only [G.iY]
  refine Ev.ct (by simpa using k1) ?_
  have:applyN n o=sG n o.Path o.Value:=by unfold applyN; rw [if_pos k1]
  rw [this]
  exact Ev.bind (T.lX o.Path Ry sp.1 (ql ho.path).2 hn (jf ho.val)) (Ev.ret _)
 by_cases k2:o.Kind=2
 ·refine ⟨_,Ev.up ?_,yF _⟩
  simp only [G.iY]
  refine Ev.cf (by simpa using k1) (Ev.ct (by simpa using k2) ?_)
  have:applyN n o=tJ n o.Path:=by unfold applyN; rw [if_neg k1,if_pos k2]
  rw [this]
  exact Ev.bind (T.gG o.Path Ry sp.1 hn) (Ev.ret _)
 by_cases k3:o.Kind=3
 ·refine ⟨_,Ev.up ?_,yF _⟩
  simp only [G.iY]
  refine Ev.cf (by simpa using k1) (Ev.cf (by simpa using k2) (Ev.ct (by simpa using k3) ?_))
  have:applyN n o=F7 n o.Path o.Value:=by unfold applyN; rw [if_neg k1,if_neg k2,if_pos k3]
  rw [this]
  exact Ev.bind (T.jQ (by decide) (jf ho.val) o.Path sp.1 hn) (Ev.ret _)
 by_cases k6:o.Kind=6
 ·obtain ⟨q,g,hq⟩:=T.iY.K1 h ho o.Path ho.path (by rw [if_pos k6]) ⟨k1,k2,k3⟩
  refine ⟨q,Ev.up ?_,hq⟩
  simp only [G.iY]
  exact Ev.cf (by simpa using k1) (Ev.cf (by simpa using k2) (Ev.cf (by simpa using k3) (Ev.ct (by simpa using k6) g)))
 ·obtain ⟨q,g,hq⟩:=T.iY.K1 h ho o.From ho.from_ (by rw [if_neg k6]) ⟨k1,k2,k3⟩
  refine ⟨q,Ev.up ?_,hq⟩
  simp only [G.iY]
  exact Ev.cf (by simpa using k1) (Ev.cf (by simpa using k2) (Ev.cf (by simpa using k3) (Ev.cf (by simpa using k6) g)))
theorem EF {n v m:af} {p:List aG} (hn:Val n=true) (hv:Val v=true) (hp:PP p=true) (e:sG n p v=some m):Fine 13 15 m :=
 CG (jf hn) (jf hv) (ql hp).2 e
theorem O7 {n m:af} {o:nO} (h:Val n=true) (ho:Dn o) (e:applyN n o=some m):Fine 13 15 m:=by
  unfold applyN at e
  by_cases k1:o.Kind=1
  · rw [if_pos k1] at e; exact EF h ho.val ho.path e
  rw [if_neg k1] at e
  by_cases k2:o.Kind=2
  · rw [if_pos k2] at e; exact (jf (BA h e)).mono (by omega) (by omega)
  rw [if_neg k2] at e
  by_cases k3:o.Kind=3
  · rw [if_pos k3] at e; exact (Bg (jf h) (jf ho.val) e).mono (by omega) (by omega)
  rw [if_neg k3] at e
  cases ha:zT n (if o.Kind=6 then o.Path else o.From) with
  | none=>rw [ha] at e; cases e
  | some t =>
    have ht:=Es h ha
    rw [ha,Option.bind_some] at e
    by_cases k6:o.Kind=6
    · rw [if_pos k6] at e
      split at e
      · cases e; exact (jf h).mono (by omega) (by omega)
      · cases e
    rw [if_neg k6] at e
    by_cases k5:o.Kind=5
    · rw [if_pos k5] at e; exact EF h ht ho.path e
    rw [if_neg k5] at e
    unfold Jb at e
    split at e
    · split at e
      · cases e; exact (jf h).mono (by omega) (by omega)
      · cases e
    · cases hr:tJ n o.From with
      | none=>rw [hr] at e; cases e
      | some less=>rw [hr,Option.bind_some] at e; exact EF (BA h hr) ht ho.path e
theorem T.IE {B D:Nat} {q:af × Bool} {o:Option af} (hB:B<=lim) (hq:Said q o) (h:∀ m,o=some m->Fine B D m):Ev (fun f=>G.kV f q.1 q.2) (jT (o.filter Val)):=by
  obtain ⟨m,b⟩:=q
  cases b with
  | false =>
    rw [hq.2 rfl]
    refine Ev.up ?_
    simp only [G.kV]
    exact Ev.cf rfl (Ev.ret _)
  | true =>
    have e:=hq.1 rfl
    subst e
    exact T.kV (o:=some m) hB h
theorem T.lH {n:af} {o:nO} (h:Val n=true) (ho:Dn o):Ev (fun f=>G.lH f n o) (jT ((applyN n o).filter Val)):=by
  obtain ⟨q,g,hq⟩:=T.iY h ho
  have hc:=T.IE (B:=13) (D:=15) (by decide) hq (fun m hm=>O7 h ho hm)
  refine Ev.up ?_
  simp only [G.lH]
  refine Ev.bind g (Ev.bind hc ?_)
  cases hm:(applyN n o).filter Val with
  | none=>exact Ev.cf rfl (Ev.ret _)
  | some m =>
    have hv:Val m=true:=by
      have:=Option.filter_eq_some_iff.1 hm
      exact this.2
    exact Ev.ct rfl (Ev.bind (T.aB rH (jf hv)) (Ev.ret _))
structure Gz (B D:Nat) (o:nO):Prop where
 path:pG B o.Path
 from_:pG B o.From
 val:Fine B D o.Value
theorem T.nM {B D:Nat} {o:nO} (hB:B<=lim) (h:Gz B D o):Ev (fun f=>G.nM f o) (Oq o):=by
 refine Ev.up ?_
 simp only [G.nM]
 unfold Oq
 refine Ev.bind (T.dW _ _ _) (Ev.ite (fun e1 => ?_) (fun e1=>Ev.ret' (by rw [e1]; rfl)))
 refine Ev.bind (T.gW _ (h.path.sm hB)) (Ev.ite (fun e2 => ?_) (fun e2=>Ev.ret' (by rw [e1,e2]; rfl)))
 refine Ev.bind (T.gW _ (h.from_.sm hB)) (Ev.ite (fun e3 => ?_) (fun e3=>Ev.ret' (by rw [e1,e2,e3]; rfl)))
 exact Ev.bind (T.bH hB h.val) (Ev.ret' (by rw [e1,e2,e3]; rfl))
theorem T.oG {B D:Nat} {o:nO} (hB:B<=lim) (h:Gz B D o):Ev (fun f=>G.oG f o) (Oq o):=by
 refine Ev.up ?_
 simp only [G.oG]
 unfold Oq
 refine Ev.ite (fun e0 => ?_) (fun e0=>Ev.ret' (by rw [e0]; rfl))
 refine Ev.ite (fun e1 => ?_) (fun e1=>Ev.ret' (by rw [e0,e1]; rfl))
 refine Ev.bind (T.fK _ (h.path.sm hB)) (Ev.ite (fun e2 => ?_) (fun e2=>Ev.ret' (by rw [e0,e1,e2]; rfl)))
 refine Ev.bind (T.fK _ (h.from_.sm hB)) (Ev.ite (fun e3 => ?_) (fun e3=>Ev.ret' (by rw [e0,e1,e2,e3]; rfl)))
 exact Ev.bind (T.aO hB h.val) (Ev.ret' (by rw [e0,e1,e2,e3]; rfl))
end Go.Ab
end
section
namespace Go.Ab
open Go
theorem T.lM {n v:af} {p:List aG} (h:Val n=true) (hp:PP p=true) (hv:Val v=true) :
    ∃ o,Ev (fun f=>G.lM f n p v) (jT o)/\(∀ t,zT n p=some t->t=v->o=some n)/\(∀ t,zT n p=some t->t ≠ v->o=none)/\(zT n p=none->o=none):=by
  have sp:=(ql hp).sm (by decide)
  have hf:=T.iF p sp.1 (kZ h)
  cases ha:zT n p with
  | none =>
    rw [ha] at hf
    refine ⟨none,Ev.up ?_,(fun t e=>by cases e),(fun t e=>by cases e),fun _=>rfl⟩
    simp only [G.lM]
    exact Ev.bind hf (Ev.cf rfl (Ev.ret _))
  | some t =>
    rw [ha] at hf
    obtain ⟨b,gs,hb⟩:=T.mG (kZ (Es h ha)) (kZ hv)
    cases b with
    | true =>
      refine ⟨some n,Ev.up ?_,fun t' _ _=>rfl,fun t' e hne => ?_,(fun e=>by cases e)⟩
      · simp only [G.lM]
        exact Ev.bind hf (Ev.ct rfl (Ev.bind gs (Ev.ct rfl (Ev.bind (T.aF rH (jf h)) (Ev.ret _)))))
      · cases e; exact absurd (hb.1 rfl) hne
    | false =>
      refine ⟨none,Ev.up ?_,fun t' e he => ?_,fun t' _ _=>rfl,(fun e=>by cases e)⟩
      · simp only [G.lM]
        exact Ev.bind hf (Ev.ct rfl (Ev.bind gs (Ev.cf rfl (Ev.ret _))))
      · cases e; have:=hb.2 he; cases this
theorem FB {n:af} (h:Val n=true):(some n).filter Val=some n:=by simp [Option.filter,h]
theorem T.nG {B D:Nat} {n:af} {o:nO} (hB:B+2<lim) (h:Fine B D n) (ho:Gz B D o):Ev (fun f=>G.nG f n o) (jT (uV n o)):=by
  refine Ev.up ?_
  simp only [G.nG]
  unfold uV
  refine Ev.bind (T.aO (by omega) h) (Ev.ite (fun e1 => ?_) (fun e1=>Ev.ret' (by rw [e1]; rfl)))
  refine Ev.bind (T.oG (by omega) ho) (Ev.ite (fun e2 => ?_) (fun e2=>Ev.ret' (by rw [e1,e2]; rfl)))
  rw [e1,e2,if_pos (by rfl)]
  have fo:=EY e2
  have hn:=jf e1
  by_cases k1:o.Kind=1
  · refine Ev.ct (by simpa using k1) ?_
    have e:LH n o.Path o.Value=(applyN n o).filter Val:=by unfold LH applyN; rw [e1,fo.path,fo.val,if_pos (by rfl),if_pos k1]
    rw [<- e]
    exact Ev.bind (T.jY Rz hn (ql fo.path) (jf fo.val)) (Ev.ret _)
  refine Ev.cf (by simpa using k1) ?_
  by_cases k2:o.Kind=2
  · refine Ev.ct (by simpa using k2) ?_
    have e:TM n o.Path=(applyN n o).filter Val:=by
      unfold TM applyN
      rw [e1,fo.path,if_pos (by rfl),if_neg k1,if_pos k2]
      cases hr:tJ n o.Path with
      | none=>rfl
      | some m=>exact (FB (BA e1 hr)).symm
    rw [<- e]
    exact Ev.bind (T.jk Rz hn (ql fo.path)) (Ev.ret _)
  refine Ev.cf (by simpa using k2) ?_
  by_cases k3:o.Kind=3
  · refine Ev.ct (by simpa using k3) ?_
    have e:Wl n o.Path o.Value=(applyN n o).filter Val:=by unfold Wl applyN; rw [e1,fo.path,fo.val,if_pos (by rfl),if_neg k1,if_neg k2,if_pos k3]
    rw [<- e]
    exact Ev.bind (T.nI Rz hn (ql fo.path) (jf fo.val)) (Ev.ret _)
  refine Ev.cf (by simpa using k3) ?_
  have hN:applyN n o=(zT n (if o.Kind=6 then o.Path else o.From)).bind fun t => @ite _ (o.Kind=6) _ (@ite _ (t=o.Value) (Classical.propDecidable _) (some n) none) (if o.Kind=5 then sG n o.Path t else Jb n o.From o.Path t):=by
    unfold applyN
    rw [if_neg k1,if_neg k2,if_neg k3]
  by_cases k4:o.Kind=4
  · refine Ev.ct (by simpa using k4) ?_
    have k6:¬ o.Kind=6:=by omega
    have k5:¬ o.Kind=5:=by omega
    have e:V8 n o.From o.Path=(applyN n o).filter Val:=by
      unfold V8
      rw [e1,fo.path,fo.from_,if_pos (by rfl),hN,if_neg k6]
      cases ha:zT n o.From with
      | none=>rfl
      | some t=>simp only [Option.bind_some,if_neg k6,if_neg k5]
    rw [<- e]
    exact Ev.bind (T.mF e1 fo.from_ fo.path) (Ev.ret _)
  refine Ev.cf (by simpa using k4) ?_
  by_cases k5:o.Kind=5
  · refine Ev.ct (by simpa using k5) ?_
    have k6:¬ o.Kind=6:=by omega
    refine Ev.bind (T.mO Rz hn (ql fo.from_)) ?_
    have eA:AtM n o.From=zT n o.From:=by unfold AtM; rw [e1,fo.from_,if_pos (by rfl)]
    rw [eA,hN,if_neg k6]
    cases ha:zT n o.From with
    | none=>exact Ev.cf rfl (Ev.ret _)
    | some t =>
      have ht:=Es e1 ha
      have hA:=T.jY (v:=t) Rz hn (ql fo.path) (jf ht)
      have e:LH n o.Path t=(sG n o.Path t).filter Val:=by unfold LH; rw [e1,fo.path,ht,if_pos (by rfl)]
      rw [e] at hA
      simp only [Option.bind_some,if_neg k6,if_pos k5]
      exact Ev.ct rfl (Ev.bind hA (Ev.ret _))
  refine Ev.cf (by simpa using k5) ?_
  have k6:o.Kind=6:=by have:=fo.k1; have:=fo.k6; omega
  obtain ⟨q,g,h1,h2,h3⟩:=T.lM e1 fo.path fo.val
  refine (show Ev _ (jT q) from Ev.bind g (Ev.ret _)).eq (congrArg jT ?_)
  rw [hN,if_pos k6]
  cases ha:zT n o.Path with
  | none=>rw [h3 ha]; rfl
  | some t =>
    simp only [Option.bind_some,if_pos k6]
    by_cases ht:t=o.Value
    · rw [h1 t ha ht,if_pos ht,FB e1]
    · rw [h2 t ha ht,if_neg ht]; rfl
end Go.Ab
end
section
namespace Go.Ab
open Go
structure nN (K:Nat) (r:ReaderT):Prop where
 len:r.b.length<=2000
 bytes:∀ x,x∈r.b->0<=x/\x<256
 lo:0<=r.p
 hi:r.p<=(K:Int)
theorem nN.mono {K L:Nat} {r:ReaderT} (h:nN K r) (hk:K<=L):nN L r:=⟨h.len,h.bytes,h.lo,by have:=h.hi; omega⟩
theorem ReaderT.eta (r:ReaderT):ReaderT.mk r.b r.p=r:=rfl
theorem Yo {X Y:Nat} (hX:X<4611686018427387904) (hY:Y<4611686018427387904) :
  ∃ z:Nat,IntKind.wrap .i64 (((BitVec.ofInt (IntKind.bits .i64) (X:Int) ^^^ BitVec.ofInt (IntKind.bits .i64) (Y:Int)).toNat:Nat):Int)=(z:Int):=by
 have e:((BitVec.ofInt (IntKind.bits .i64) (X:Int) ^^^ BitVec.ofInt (IntKind.bits .i64) (Y:Int)).toNat)=X ^^^ Y:=by
  rw [BitVec.toNat_xor]
  show (BitVec.ofInt 64 (X:Int)).toNat ^^^ (BitVec.ofInt 64 (Y:Int)).toNat=_
  rw [BitVec.toNat_ofInt,BitVec.toNat_ofInt]
  congr 1<;>omega
 have hlt:X ^^^ Y<2^62:=Nat.xor_lt_two_pow (by omega) (by omega)
 exact ⟨X ^^^ Y,by rw [e]; exact wrapN rfl (by omega)⟩
theorem vM (a b:Nat):Int.tmod (a:Int) (b:Int)=((a%b:Nat):Int):=by
 rw [Int.tmod_eq_emod_of_nonneg (by omega)]; exact (Int.natCast_emod a b).symm
theorem xx (a b:Nat):Int.tdiv (a:Int) (b:Int)=((a/b:Nat):Int):=by
 rw [Int.tdiv_eq_ediv_of_nonneg (by omega)]; exact (Int.natCast_ediv a b).symm
theorem T.pick {K m:Nat} {r:ReaderT} (hr:nN K r) (hK:K<=1000000000) (hm:0<m) (hm2:m<=1000000000) :
  ∃ (v:Nat) (r':ReaderT),Ev (fun f=>G.aC f r (m:Int)) ((v:Int),r')/\v<m/\nN (K+1) r':=by
 obtain ⟨b,p⟩:=r
 obtain ⟨h1,h2,h3,h4⟩:=hr
 simp only at h1 h2 h3 h4
 obtain ⟨k,rfl⟩:∃ k:Nat,p=k:=⟨p.toNat,by omega⟩
 have hr':nN (K+1) (ReaderT.mk b ((k+1:Nat):Int)):=⟨h1,h2,by show (0:Int)<=((k+1:Nat):Int); omega,by show ((k+1:Nat):Int)<=_; omega⟩
 have w1:IntKind.wrap .i64 ((k:Int)+1)=((k+1:Nat):Int):=bP (by omega)
 have w2:IntKind.wrap .i64 (((k+1:Nat):Int)-1)=(k:Int):=wrapN (by omega) (by omega)
 by_cases hb:b.length=0
 ·refine ⟨0,_,Ev.up ?_,hm,hr'⟩
  simp only [G.aC,w1]
  exact Ev.cf (by simp; omega) (Ev.ct (by simpa using hb) (Ev.ret _))
 have byte:∀ i:Nat,i<b.length->∃ c:Nat,b.getD i default=(c:Int)/\c<256:=fun i hi=>by
  rw [dh _ hi]
  have:=h2 _ (List.getElem_mem hi)
  exact ⟨b[i].toNat,by omega,by omega⟩
 by_cases hk:k<b.length
 ·obtain ⟨c,hc,hc2⟩:=byte k hk
  refine ⟨c%m,_,Ev.up ?_,Nat.mod_lt _ hm,hr'⟩
  simp only [G.aC,w1,w2,Int.toNat_natCast,hc,wrapN (x:=(c:Int)) (m:=c) rfl (by omega),vM]
  exact Ev.cf (by simp; omega) (Ev.cf (by simpa using hb) (Ev.ct (by simpa using hk) (Ev.chk (by omega) (Ev.chk (by omega) (Ev.ret _)))))
 ·have hlt:k%b.length<b.length:=Nat.mod_lt _ (by omega)
  have hlt2:(k*7+3)%b.length<b.length:=Nat.mod_lt _ (by omega)
  obtain ⟨c,hc,hc2⟩:=byte _ hlt
  obtain ⟨d,hd,hd2⟩:=byte _ hlt2
  have hdiv:k/b.length<=k:=Nat.div_le_self _ _
  have w3:IntKind.wrap .i64 ((k:Int)*7)=((k*7:Nat):Int):=wrapN (by omega) (by omega)
  have w4:IntKind.wrap .i64 (((k*7:Nat):Int)+3)=((k*7+3:Nat):Int):=wrapN (by omega) (by omega)
  have w5:IntKind.wrap .i64 (c:Int)=c:=wrapN rfl (by omega)
  have w6:IntKind.wrap .i64 (d:Int)=d:=wrapN rfl (by omega)
  have w7:IntKind.wrap .i64 ((c:Int)*131)=((c*131:Nat):Int):=wrapN (by omega) (by omega)
  have w8:IntKind.wrap .i64 ((d:Int)*1117)=((d*1117:Nat):Int):=wrapN (by omega) (by omega)
  have w9:IntKind.wrap .i64 (((c*131:Nat):Int)+((d*1117:Nat):Int))=((c*131+d*1117:Nat):Int):=wrapN (by omega) (by omega)
  have w10:IntKind.wrap .i64 ((k:Int)*29)=((k*29:Nat):Int):=wrapN (by omega) (by omega)
  have w11:IntKind.wrap .i64 (((c*131+d*1117:Nat):Int)+((k*29:Nat):Int))=((c*131+d*1117+k*29:Nat):Int):=wrapN (by omega) (by omega)
  have w12:IntKind.wrap .i64 ((k/b.length:Nat):Int)=((k/b.length:Nat):Int):=wrapN rfl (by omega)
  have w13:IntKind.wrap .i64 (((k/b.length:Nat):Int)*53)=((k/b.length*53:Nat):Int):=wrapN (by omega) (by omega)
  have w14:IntKind.wrap .i64 (((c*131+d*1117+k*29:Nat):Int)+((k/b.length*53:Nat):Int))=((c*131+d*1117+k*29+k/b.length*53:Nat):Int):=wrapN (by omega) (by omega)
  have e64:(64:Int)=((64:Nat):Int):=rfl
  have w15:IntKind.wrap .i64 (Int.tdiv ((c*131+d*1117+k*29+k/b.length*53:Nat):Int) 64)=(((c*131+d*1117+k*29+k/b.length*53)/64:Nat):Int):=by
   rw [e64,xx]; exact wrapN rfl (by omega)
  obtain ⟨z,hz⟩:=Yo (X:=c*131+d*1117+k*29+k/b.length*53) (Y:=(c*131+d*1117+k*29+k/b.length*53)/64) (by omega) (by omega)
  refine ⟨z%m,_,Ev.up ?_,Nat.mod_lt _ hm,hr'⟩
  simp only [G.aC,w1,w2,w3,w4,vM,xx,Int.toNat_natCast,hc,hd,w5,w6,w7,w8,w9,w10,w11,w12,w13,w14,w15,hz]
  exact Ev.cf (by simp; omega) (Ev.cf (by simpa using hb) (Ev.cf (by simp; omega) (Ev.chk (by omega) (Ev.chk (by omega) (Ev.chk (by omega) (Ev.chk (by omega) (Ev.chk (by omega) (Ev.chk (by omega) (Ev.ret _)))))))))
end Go.Ab
end
section
namespace Go.Ab
open Go
theorem T.one {K:Nat} {r:ReaderT} (hr:nN K r) (hK:K<=1000000000) (l:List Int) (h0:0<l.length) (h1:l.length<=1000) :
  ∃ x r',Ev (fun f=>G.dD f r l) (x,r')/\x∈l/\nN (K+1) r':=by
 obtain ⟨v,r',g,hv,hr'⟩:=T.pick (m:=l.length) hr hK h0 (by omega)
 refine ⟨l.getD v default,r',Ev.up ?_,by rw [dh _ hv]; exact List.getElem_mem _,hr'⟩
 simp only [G.dD]
 refine Ev.bind g (Ev.chk (by simp only; omega) (Ev.ret' ?_))
 rw [Int.toNat_natCast]
theorem T.of {K:Nat} {r:ReaderT} (hr:nN K r) (hK:K<=1000000000) (l:List aG) (h0:0<l.length) (h1:l.length<=1000) :
  ∃ x r',Ev (fun f=>G.fO f r l) (x,r')/\x∈l/\nN (K+1) r':=by
 obtain ⟨v,r',g,hv,hr'⟩:=T.pick (m:=l.length) hr hK h0 (by omega)
 refine ⟨l.getD v default,r',Ev.up ?_,by rw [dh _ hv]; exact List.getElem_mem _,hr'⟩
 simp only [G.fO]
 refine Ev.bind g (Ev.chk (by simp only; omega) (Ev.ret' ?_))
 rw [Int.toNat_natCast]
theorem JM {l:List aG} {x:aG} {m:Nat} (h:l.all (fun s=>decide (s.length<=m))=true) (hx:x∈l):x.length<=m:=by
 have:=List.all_eq_true.1 h x hx
 simpa using this
theorem T.Vy {K:Nat} {r:ReaderT} (hr:nN K r) (hK:K<=1000000000):∃ x r',Ev (fun f=>G.nC f r) (x,r')/\x.length<=12/\nN (K+1) r':=by
 obtain ⟨x,r',g,hx,hr'⟩:=T.of hr hK [[97],[98],[],[97,98,99],[97,47,98],[126],[120,32,121],[34,113,34],[98,97,99,107,92,115],[48],[49],[97,98,99,100,101,102,103,104,105,106,107,108]] (by decide) (by decide)
 refine ⟨x,r',Ev.up ?_,JM (by decide) hx,hr'⟩
 simp only [G.nC]
 exact Ev.bind g (Ev.ret _)
theorem T.Vx {K:Nat} {r:ReaderT} (hr:nN K r) (hK:K<=1000000000):∃ x r',Ev (fun f=>G.ny f r) (x,r')/\x.length<=12/\nN (K+1) r':=by
 obtain ⟨x,r',g,hx,hr'⟩:=T.of hr hK [[97],[98],[99],[100],[97,47,98],[126,120],[],[107]] (by decide) (by decide)
 refine ⟨x,r',Ev.up ?_,JM (by decide) hx,hr'⟩
 simp only [G.ny]
 exact Ev.bind g (Ev.ret _)
def Dl:Nat->Nat
 | 0=>4
 | d+1=>20+6*Dl d
theorem wR {B:Nat} {n:af} (ht:n.Text.length<=B) (hn:n.Names=[]) (hk:n.Kids=[]):Fine B 1 n :=
 ⟨ht,by rw [hn]; simp,by rw [hn]; simp,by rw [hk]; simp,by rw [hk]; simp,by rw [hk]; simp⟩
def P5 (d:Nat) (K:Nat) (F:Nat->Option (af × ReaderT)):Prop:=∃ m r' D,Ev F (m,r')/\Fine (20+20*d) D m/\nN (K+Dl d) r'
theorem T.Bz.L1 {d M:Nat} (hM:M<=900000000) (hd:d<=10) (hrec:∀ K r,nN K r->K<=M->P5 d K (fun f=>G.aS f r ((d+1:Nat):Int))) :
    ∀ (j K B D:Nat) (r:ReaderT) (out:af),nN K r->K+j*(1+Dl d)<=M->20+20*d<=B->B+j<=1000->Fine B D out ->
      ∃ m r' D',Ev (fun f=>G.dO.L1 f ((d+2:Nat):Int) (j:Int) r.b r.p out.Kind out.Num out.Text out.Names out.Kids) (m,r')/\Fine (B+j) D' m/\nN (K+j*(1+Dl d)) r':=by
  intro j
  induction j with
  | zero =>
    intro K B D r out hr hK hB hB2 hf
    refine ⟨out,r,D,Ev.up ?_,hf,hr.mono (by omega)⟩
    simp only [G.dO.L1,af.eta]
    exact Ev.cf (by simp) (Ev.ret _)
  | succ j ih =>
    intro K B D r out hr hK hB hB2 hf
    rw [Nat.add_mul] at hK
    obtain ⟨nm,r1,g1,hn,hr1⟩:=T.Vx hr (by omega)
    obtain ⟨kid,r2,E,g2,hk,hr2⟩:=hrec (K+1) r1 hr1 (by omega)
    have w:IntKind.wrap .i64 (((d+2:Nat):Int)-1)=((d+1:Nat):Int):=wrapN (by omega) (by omega)
    have w2:IntKind.wrap .i64 (((j+1:Nat):Int)-1)=(j:Int):=wrapN (by omega) (by omega)
    have hP:=T.fB nm (show B<=lim by unfold lim; omega) hf
    have hA:=T.jd (v:=kid) (E:=E) nm (show B<lim by unfold lim; omega) hf (hk.mono (by omega) (Nat.le_refl _))
    have next:∃ Yi D2,Ev (fun f=>cond (decide (vJ (uF out nm)<0)) (Option.bind (G.jd f out nm kid) fun v13=>G.dO.L1 f ((d+2:Nat):Int) (j:Int) r2.b r2.p v13.1.Kind v13.1.Num v13.1.Text v13.1.Names v13.1.Kids) (G.dO.L1 f ((d+2:Nat):Int) (j:Int) r2.b r2.p out.Kind out.Num out.Text out.Names out.Kids)) Yi
        /\ Fine (B+1+j) D2 Yi.1/\nN (K+1+Dl d+j*(1+Dl d)) Yi.2:=by
      refine Classical.byCases (fun e:decide (vJ (uF out nm)<0)=true => ?_) (fun e => ?_)
      · have hfx:∃ D3,Fine (B+1) D3 (jT (addN out nm kid)).1:=by
          cases ha:addN out nm kid with
          | none=>exact ⟨1,wR (by simp [jT,mX]) rfl rfl⟩
          | some m=>exact ⟨_,Hz hf (hk.mono (by omega) (Nat.le_refl _)) (by omega) ha⟩
        obtain ⟨D3,hfx⟩:=hfx
        obtain ⟨m,r',D',g,hm,hr'⟩:=ih (K+1+Dl d) (B+1) D3 r2 _ hr2 (by omega) (by omega) (by omega) hfx
        exact ⟨(m,r'),D',Ev.ct e (Ev.bind hA g),hm,hr'⟩
      · obtain ⟨m,r',D',g,hm,hr'⟩:=ih (K+1+Dl d) (B+1) D r2 out hr2 (by omega) (by omega) (by omega) (hf.mono (by omega) (Nat.le_refl _))
        exact ⟨(m,r'),D',Ev.cf (by simpa using e) g,hm,hr'⟩
    obtain ⟨⟨m,r'⟩,D2,g,hm,hr'⟩:=next
    refine ⟨m,r',D2,Ev.up ?_,hm.mono (by omega) (Nat.le_refl _),hr'.mono (by rw [Nat.add_mul]; omega)⟩
    simp only [G.dO.L1,af.eta,w,w2]
    refine Ev.ct (by simp) (Ev.bind g1 (Ev.bind g2 (Ev.bind hP g)))
end Go.Ab
end
section
namespace Go.Ab
open Go
def Tot {α:Type} (Q:α->Prop) (F:Nat->Option α):Prop:=∃ x,Ev F x/\Q x
section
variable {α β:Type} {Q:α->Prop} {F F':Nat->Option α}
theorem Tot.up (h:Tot Q (fun n=>F (n+1))):Tot Q F:=let ⟨x,g,q⟩:=h; ⟨x,Ev.up g,q⟩
theorem Tot.ret {x:α} (h:Q x):Tot Q (fun _=>some x):=⟨x,Ev.ret x,h⟩
theorem Tot.bind {P:β->Prop} {h:Nat->Option β} {k:Nat->β->Option α} (h1:Tot P h) (h2:∀ x,P x->Tot Q (fun n=>k n x)):Tot Q (fun n=>Option.bind (h n) (k n)):=by
 obtain ⟨x,g,p⟩:=h1
 obtain ⟨y,g',q⟩:=h2 x p
 exact ⟨y,Ev.bind g g',q⟩
theorem Tot.rU {a:β} {h:Nat->Option β} {k:Nat->β->Option α} (h1:Ev h a) (h2:Tot Q (fun n=>k n a)):Tot Q (fun n=>Option.bind (h n) (k n)):=by
 obtain ⟨y,g',q⟩:=h2
 exact ⟨y,Ev.bind h1 g',q⟩
theorem Tot.chk {p:Prop} [Decidable p] (hp:p) (h:Tot Q F):Tot Q (fun n=>Ab.chk p (F n)):=let ⟨x,g,q⟩:=h; ⟨x,Ev.chk hp g,q⟩
theorem Tot.ite {c:Bool} (h:c=true->Tot Q F) (h':c=false->Tot Q F'):Tot Q (fun n=>cond c (F n) (F' n)):=by
 cases c
 ·exact h' rfl
 ·exact h rfl
theorem Tot.mono {P:α->Prop} (h:Tot P F) (hq:∀ x,P x->Q x):Tot Q F:=let ⟨x,g,q⟩:=h; ⟨x,g,hq x q⟩
end
abbrev Dr {α:Type} (L:Nat) (Q:α->Prop) (F:Nat->Option (α × ReaderT)):Prop:=Tot (fun x=>Q x.1/\nN L x.2) F
theorem D.pick {K:Nat} {r:ReaderT} (hr:nN K r) (hK:K<=1000000000) {M:Int} {m:Nat} (hM:M=(m:Int)) (h0:0<m) (h1:m<=1000000000) :
  Dr (K+1) (fun x:Int=>∃ v:Nat,x=(v:Int)/\v<m) (fun f=>G.aC f r M):=by
 subst hM
 obtain ⟨v,r',g,hv,hr'⟩:=T.pick hr hK h0 h1
 exact ⟨_,g,⟨v,rfl,hv⟩,hr'⟩
theorem D.one {K:Nat} {r:ReaderT} (hr:nN K r) (hK:K<=1000000000) (l:List Int) (h0:0<l.length) (h1:l.length<=1000):Dr (K+1) (fun x:Int=>x∈l) (fun f=>G.dD f r l):=by
 obtain ⟨v,r',g,hv,hr'⟩:=T.one hr hK l h0 h1
 exact ⟨_,g,hv,hr'⟩
theorem D.of {K m:Nat} {r:ReaderT} (hr:nN K r) (hK:K<=1000000000) (l:List aG) (h0:0<l.length) (h1:l.length<=1000) (hm:l.all (fun s=>decide (s.length<=m))=true) :
  Dr (K+1) (fun x:aG=>x.length<=m) (fun f=>G.fO f r l):=by
 obtain ⟨v,r',g,hv,hr'⟩:=T.of hr hK l h0 h1
 exact ⟨_,g,JM hm hv,hr'⟩
abbrev tC (B:Nat) (n:af):Prop:=∃ D,Fine B D n
theorem D.Bz {d M:Nat} (hM:M<=900000000) (hd:d<=10) (hrec:∀ K r,nN K r->K<=M->P5 d K (fun f=>G.aS f r ((d+1:Nat):Int)))
  {K:Nat} {r:ReaderT} (hr:nN K r) (hK:K+1+4*(1+Dl d)<=M):Dr (K+1+4*(1+Dl d)) (tC (24+20*d)) (fun f=>G.dO f r ((d+2:Nat):Int)):=by
 refine Tot.up ?_
 simp only [G.dO]
 refine Tot.bind (D.one hr (by omega) [2,3,1,0,4] (by decide) (by decide)) ?_
 rintro ⟨x,r'⟩ ⟨hx,hr'⟩
 obtain ⟨j,rfl,hj⟩:∃ j:Nat,x=(j:Int)/\j<=4:=⟨x.toNat,by simp at hx; omega⟩
 have hm:j*(1+Dl d)<=4*(1+Dl d):=Nat.mul_le_mul_right _ hj
 obtain ⟨m,r2,D',g,hm',hr2⟩:=T.Bz.L1 hM hd hrec j (K+1) (20+20*d) 1 r' (af.mk 4 0 [] [] []) hr' (by omega) (Nat.le_refl _) (by omega) (wR (by simp) rfl rfl)
 exact ⟨(m,r2),g,⟨D',hm'.mono (by omega) (Nat.le_refl _)⟩,hr2.mono (by omega)⟩
theorem Bf {B D:Nat} {k:Int} {l:List af} (hk:k ≠ 4) (hl:l.length<=B) (h:∀ x,x∈l->Fine B D x):Fine B (D+1) (af.mk k 0 [] [] l) :=
 ⟨by simp,by simp,by simp,hl,fun e=>absurd e hk,h⟩
theorem D.sO.L2 {d M:Nat} (hd:d<=10) (hrec:∀ K r,nN K r->K<=M->P5 d K (fun f=>G.aS f r ((d+1:Nat):Int))) :
    ∀ (j K D:Nat) (r:ReaderT) (z:List af),nN K r->K+j*Dl d<=M->z.length+j<=10->(∀ x,x∈z->Fine (20+20*d) D x) ->
      Dr (K+j*Dl d) (tC (20+20*d)) (fun f=>G.aS.L2 f ((d+2:Nat):Int) 3 (j:Int) r.b r.p z):=by
  intro j
  induction j with
  | zero =>
    intro K D r z hr hK hz hf
    refine Tot.up ?_
    simp only [G.aS.L2]
    exact ⟨_,Ev.cf (by simp) (Ev.ret _),⟨D+1,Bf (by decide) (by omega) hf⟩,hr.mono (by omega)⟩
  | succ j ih =>
    intro K D r z hr hK hz hf
    rw [Nat.add_mul] at hK
    have w:IntKind.wrap .i64 (((d+2:Nat):Int)-1)=((d+1:Nat):Int):=wrapN (by omega) (by omega)
    have w2:IntKind.wrap .i64 (((j+1:Nat):Int)-1)=(j:Int):=wrapN (by omega) (by omega)
    obtain ⟨kid,r2,E,g2,hk,hr2⟩:=hrec K r hr (by omega)
    refine Tot.up ?_
    simp only [G.aS.L2,w,w2]
    obtain ⟨x,g,hx,hr'⟩:=ih (K+Dl d) (max D E) r2 (z++[kid]) hr2 (by omega) (by simp; omega) (fun x hx=>by
      rcases List.mem_append.1 hx with h | h
      · exact (hf x h).mono (Nat.le_refl _) (Nat.le_max_left _ _)
      · simp only [List.mem_singleton] at h; subst h; exact hk.mono (Nat.le_refl _) (Nat.le_max_right _ _))
    exact ⟨x,Ev.ct (by simp) (Ev.bind g2 (Ev.chk (by omega) g)),hx,hr'.mono (by rw [Nat.add_mul]; omega)⟩
theorem D.sO.K1 {d k:Nat} (hd:d<=10) (hk:k<3\/(k<5/\∃ e,d=e+1/\∀ K r,nN K r->K<=900000000-Dl e->P5 e K (fun f=>G.aS f r ((e+1:Nat):Int))))
    {K:Nat} {r:ReaderT} (hr:nN K r) (hK:K+Dl d<=900000002):Dr (K+Dl d-2) (tC (20+20*d)) (fun f=>G.aS.K1 f ((d+1:Nat):Int) (k:Int) r.b r.p):=by
  have h2:4<=Dl d:=by cases d<;>simp only [Dl]<;>omega
  refine Tot.up ?_
  simp only [G.aS.K1]
  refine Tot.ite (fun e => ?_) (fun e1=>Tot.ite (fun e => ?_) (fun e2=>Tot.ite (fun e => ?_) (fun e3=>Tot.ite (fun e => ?_) (fun e4 => ?_))))
  · refine Tot.bind (D.pick (m:=250) hr (by omega) rfl (by decide) (by decide)) ?_
    rintro ⟨x,r1⟩ ⟨_,hr1⟩
    refine Tot.bind (D.one hr1 (by omega) _ (by simp) (by simp)) ?_
    rintro ⟨y,r2⟩ ⟨_,hr2⟩
    exact Tot.ret ⟨⟨1,wR (by simp) rfl rfl⟩,hr2.mono (by omega)⟩
  · obtain ⟨x,r1,g,hx,hr1⟩:=T.Vy hr (by omega)
    exact Tot.rU g (Tot.ret ⟨⟨1,wR (by show x.length<=_; omega) rfl rfl⟩,hr1.mono (by omega)⟩)
  · rcases hk with hk | ⟨hk,e',rfl,hrec⟩
    · have:(k:Int)=3:=by simpa using e
      omega
    · have hk3 : k = 3 := by have:(k:Int)=3:=by simpa using e
                             omega
      subst hk3
      refine Tot.bind (D.pick (m:=4) hr (by omega) rfl (by decide) (by decide)) ?_
      rintro ⟨x,r1⟩ ⟨⟨j,rfl,hj⟩,hr1⟩
      have hm:j*Dl e'<=3*Dl e':=Nat.mul_le_mul_right _ (by omega)
      simp only [Dl] at hK h2 ⊢
      refine (D.sO.L2 (by omega) hrec j (K+1) 0 r1 [] hr1 (by omega) (by simp; omega) (fun x h=>by cases h)).mono ?_
      rintro ⟨n,r2⟩ ⟨⟨D,hn⟩,hr2⟩
      exact ⟨⟨D,hn.mono (by omega) (Nat.le_refl _)⟩,hr2.mono (by omega)⟩
  · rcases hk with hk | ⟨hk,e',rfl,hrec⟩
    · have:(k:Int)=4:=by simpa using e
      omega
    · simp only [Dl] at hK h2 ⊢
      refine Tot.bind (D.Bz (Nat.sub_le _ _) (by omega) hrec hr (by omega)) ?_
      rintro ⟨n,r2⟩ ⟨⟨D,hn⟩,hr2⟩
      exact Tot.ret ⟨⟨D,hn.mono (by omega) (Nat.le_refl _)⟩,hr2.mono (by omega)⟩
  · exact Tot.ret ⟨⟨1,wR (by simp) rfl rfl⟩,hr.mono (by omega)⟩
theorem D.sO:∀ (d:Nat),d<=10->∀ K r,nN K r->K+Dl d<=900000000->Dr (K+Dl d) (tC (20+20*d)) (fun f=>G.aS f r ((d+1:Nat):Int))
  | 0,hd,K,r,hr,hK=>by
    refine Tot.up ?_
    simp only [G.aS]
    refine Tot.bind (D.pick (m:=5) hr (by omega) rfl (by decide) (by decide)) ?_
    rintro ⟨x,r1⟩ ⟨_,hr1⟩
    refine Tot.ite (fun _ => ?_) (fun e=>by simp at e)
    refine Tot.bind (D.pick (m:=3) hr1 (by omega) rfl (by decide) (by decide)) ?_
    rintro ⟨y,r2⟩ ⟨⟨k,rfl,hk⟩,hr2⟩
    refine (D.sO.K1 (d:=0) (by omega) (.inl hk) (K:=K+2) hr2 (by omega)).mono ?_
    rintro ⟨n,r3⟩ ⟨hn,hr3⟩
    exact ⟨hn,hr3.mono (by omega)⟩
  | d+1,hd,K,r,hr,hK=>by
    refine Tot.up ?_
    simp only [G.aS]
    refine Tot.bind (D.pick (m:=5) hr (by omega) rfl (by decide) (by decide)) ?_
    rintro ⟨x,r1⟩ ⟨⟨k,rfl,hk⟩,hr1⟩
    refine Tot.ite (fun e=>by simp at e; omega) (fun _ => ?_)
    refine (D.sO.K1 (d:=d+1) (by omega) (.inr ⟨hk,d,rfl,fun K' r' hr' hK' => ?_⟩) (K:=K+1) hr1 (by omega)).mono ?_
    · have hs:Dl d<=900000000:=by simp only [Dl] at hK; omega
      obtain ⟨⟨n,r2⟩,g,⟨D,hn⟩,hr2⟩:=D.sO d (by omega) K' r' hr' (by omega)
      exact ⟨n,r2,D,g,hn,hr2⟩
    · rintro ⟨n,r3⟩ ⟨hn,hr3⟩
      exact ⟨hn,hr3.mono (by omega)⟩
theorem D.node (d:Nat) (hd:d<=2) {M:Int} (hM:M=((d+1:Nat):Int)) {K:Nat} {r:ReaderT} (hr:nN K r) (hK:K<=800000000):Dr (K+300) (tC 60) (fun f=>G.aS f r M):=by
 subst hM
 have h:Dl d<=284:=by
  match d,hd with
  | 0,_=>decide
  | 1,_=>decide
  | 2,_=>decide
 refine (D.sO d (by omega) K r hr (by omega)).mono ?_
 rintro ⟨n,r'⟩ ⟨⟨D,hn⟩,hr'⟩
 exact ⟨⟨D,hn.mono (by omega) (Nat.le_refl _)⟩,hr'.mono (by omega)⟩
theorem D.Zw {K:Nat} {r:ReaderT} (hr:nN K r) (hK:K<=800000000):Dr (K+300) (tC 60) (fun f=>G.dO f r 3):=by
 have h1:Dl 1=44:=by decide
 refine (D.Bz (d:=1) (M:=800001000) (by omega) (by decide) (fun K' r' hr' hK' => ?_) hr (by omega)).mono ?_
 ·obtain ⟨⟨n,r2⟩,g,⟨D,hn⟩,hr2⟩:=D.sO 1 (by omega) K' r' hr' (by omega)
  exact ⟨n,r2,D,g,hn,hr2⟩
 ·rintro ⟨n,r'⟩ ⟨⟨D,hn⟩,hr'⟩
  exact ⟨⟨D,hn.mono (by omega) (Nat.le_refl _)⟩,hr'.mono (by omega)⟩
theorem lW:60<=lim:=by decide
theorem vz:Val mX=true:=by decide
theorem D.xu.K1 {K:Nat} {r:ReaderT} {n:af} (hr:nN K r) (hn:tC 60 n):Dr K (fun x=>Val x=true) (fun f=>G.fH.K1 f r.b r.p n.Kind n.Num n.Text n.Names n.Kids):=by
 obtain ⟨D,hn⟩:=hn
 refine Tot.up ?_
 simp only [G.fH.K1,af.eta]
 refine Tot.rU (T.bH lW hn) (Tot.ite (fun e=>Tot.ret ⟨e,hr⟩) (fun _=>Tot.ret ⟨vz,hr⟩))
theorem D.xu {K:Nat} {r:ReaderT} (hr:nN K r) (hK:K<=700000000):Dr (K+601) (fun x=>Val x=true) (fun f=>G.fH f r):=by
 refine Tot.up ?_
 simp only [G.fH]
 refine Tot.bind (D.node 2 (by decide) rfl hr (by omega)) ?_
 rintro ⟨n,r1⟩ ⟨hn,hr1⟩
 refine Tot.bind (D.pick (m:=3) hr1 (by omega) rfl (by decide) (by decide)) ?_
 rintro ⟨x,r2⟩ ⟨_,hr2⟩
 refine Tot.ite (fun _ => ?_) (fun _ => ?_)
 ·refine Tot.bind (D.Zw hr2 (by omega)) ?_
  rintro ⟨m,r3⟩ ⟨hm,hr3⟩
  exact (D.xu.K1 hr3 hm).mono (fun x h=>⟨h.1,h.2.mono (by omega)⟩)
 ·exact (D.xu.K1 hr2 hn).mono (fun x h=>⟨h.1,h.2.mono (by omega)⟩)
theorem D.Gh.L1 {v:af × ReaderT} (hv:Val v.1=true):∀ (k i K:Nat) (r:ReaderT) (z:List af),i+k=7->nN K r->K+k+1<=900000000->z.length=i->(∀ x,x∈z->Fine 14 5 x) ->
    Dr (K+k+1) (tC 14) (fun f=>G.jI.L1 f v (i:Int) r.b r.p z):=by
  intro k
  induction k with
  | zero =>
    intro i K r z hi hr hK hz hf
    refine Tot.up ?_
    simp only [G.jI.L1]
    refine Tot.bind (D.pick (m:=2) hr (by omega) rfl (by decide) (by decide)) ?_
    rintro ⟨x,r1⟩ ⟨⟨q,rfl,hq⟩,hr1⟩
    have w:IntKind.wrap .i64 (6+((q:Nat):Int))=((6+q:Nat):Int):=wrapN (by omega) (by omega)
    simp only [w]
    refine Tot.ite (fun e=>by simp at e; omega) (fun _=>Tot.ret ⟨⟨6,Bf (by decide) (by omega) hf⟩,hr1⟩)
  | succ k ih =>
    intro i K r z hi hr hK hz hf
    refine Tot.up ?_
    simp only [G.jI.L1,bP (show i+1<9223372036854775808 by omega)]
    refine Tot.bind (D.pick (m:=2) hr (by omega) rfl (by decide) (by decide)) ?_
    rintro ⟨x,r1⟩ ⟨_,hr1⟩
    refine Tot.ite (fun _ => ?_) (fun _=>Tot.ret ⟨⟨6,Bf (by decide) (by omega) hf⟩,hr1.mono (by omega)⟩)
    refine Tot.rU (T.aB rH (jf hv)) (Tot.chk (by omega) ?_)
    refine (ih (i+1) (K+1) r1 (z++[v.1]) (by omega) hr1 (by omega) (by simp; omega) (fun x hx => ?_)).mono (fun x h=>⟨h.1,h.2.mono (by omega)⟩)
    rcases List.mem_append.1 hx with h | h
    · exact hf x h
    · simp only [List.mem_singleton] at h; subst h; exact (jf hv).mono (by omega) (Nat.le_refl _)
theorem D.Gh {K:Nat} {r:ReaderT} (hr:nN K r) (hK:K<=600000000):Dr (K+620) (tC 14) (fun f=>G.jI f r):=by
 refine Tot.up ?_
 simp only [G.jI]
 refine Tot.bind (D.xu hr (by omega)) ?_
 rintro ⟨n,r1⟩ ⟨hn,hr1⟩
 replace hn:Val n=true:=hn
 have hf:=jf hn
 obtain ⟨f1,f2,f3,f4,f5,f6⟩:=hf
 have hks:∀ k,k∈n.Kids->Fine 14 4 k:=fun k hk=>(f6 k hk).mono (by omega) (Nat.le_refl _)
 have hns:∀ s,s∈n.Names->s.length<=14:=fun s hs=>Nat.le_trans (f3 s hs) (by omega)
 refine Tot.bind (D.pick (m:=40) hr1 (by omega) rfl (by decide) (by decide)) ?_
 rintro ⟨x,r2⟩ ⟨_,hr2⟩
 refine Tot.ite (fun _ => ?_) (fun _=>Tot.ite (fun _ => ?_) (fun _=>Tot.ite (fun _ => ?_) (fun _=>Tot.ite (fun _ => ?_) (fun _=>Tot.ite (fun _ => ?_) (fun _=>Tot.ite (fun _ => ?_) (fun _ => ?_))))))
 ·refine Tot.bind (D.one hr2 (by omega) _ (by decide) (by decide)) ?_
  rintro ⟨y,r3⟩ ⟨hy,hr3⟩
  refine Tot.ret ⟨⟨5,by show n.Text.length<=14; omega,by show n.Names.length<=14; omega,hns,by show n.Kids.length<=14; omega,fun e => ?_,hks⟩,hr3.mono (by omega)⟩
  have e:y=4:=e
  subst e
  simp at hy
 ·refine Tot.bind (D.one hr2 (by omega) _ (by decide) (by decide)) ?_
  rintro ⟨y,r3⟩ ⟨hy,hr3⟩
  exact Tot.ret ⟨⟨5,by show n.Text.length<=14; omega,by show n.Names.length<=14; omega,hns,by show n.Kids.length<=14; omega,f5,hks⟩,hr3.mono (by omega)⟩
 ·exact Tot.ret ⟨⟨5,by simp,by show n.Names.length<=14; omega,hns,by show n.Kids.length<=14; omega,f5,hks⟩,hr2.mono (by omega)⟩
 ·refine Tot.chk (by simp only; omega) (Tot.ret ⟨⟨5,by show n.Text.length<=14; omega,by show (n.Names++[[]]).length<=14; simp; omega,fun s hs => ?_,by show n.Kids.length<=14; omega,fun e => ?_,hks⟩,hr2.mono (by omega)⟩)
  ·rcases List.mem_append.1 hs with h | h
   ·exact hns s h
   ·simp only [List.mem_singleton] at h; subst h; simp
  ·have:=f5 e
   show n.Kids.length<=(n.Names++[[]]).length
   simp; omega
 ·have h0:Fine 14 5 n:=(jf hn).mono (by omega) (Nat.le_refl _)
  have up:∀ {D m},Fine 14 D m->Fine 14 (D+1) (af.mk 3 0 [] [] [m]):=fun hm=>Bf (by decide) (by simp) (fun x hx=>by simp only [List.mem_singleton] at hx; subst hx; exact hm)
  exact Tot.ret ⟨⟨9,up (up (up (up h0)))⟩,hr2.mono (by omega)⟩
 ·exact (D.Gh.L1 (v:=(n,r1)) hn 7 0 (K+601+1) r2 [] (by omega) hr2 (by omega) rfl (fun x h=>by cases h)).mono (fun x h=>⟨h.1,h.2.mono (by omega)⟩)
 ·exact Tot.ret ⟨⟨5,(jf hn).mono (by omega) (Nat.le_refl _)⟩,hr2.mono (by omega)⟩
end Go.Ab
end
section
namespace Go.Ab
open Go
theorem D.Gi.L1:∀ (j K:Nat) (r:ReaderT) (z:List aG),nN K r->K+j+2<=900000000->z.length+j<=6->(∀ s,s∈z->s.length<=13) ->
    Dr (K+j+2) (pG 13) (fun f=>G.jU.L1 f (j:Int) r.b r.p z):=by
  intro j
  induction j with
  | zero =>
    intro K r z hr hK hz hs
    refine Tot.up ?_
    simp only [G.jU.L1]
    refine Tot.ite (fun e=>by simp at e) (fun _=>Tot.ite (fun e => ?_) (fun _=>Tot.ret ⟨⟨by show z.length<=13; omega,hs⟩,hr.mono (by omega)⟩))
    refine Tot.bind (D.pick (m:=20) hr (by omega) rfl (by decide) (by decide)) ?_
    rintro ⟨x,r1⟩ ⟨_,hr1⟩
    refine Tot.ite (fun _ => ?_) (fun _=>Tot.ret ⟨⟨by show z.length<=13; omega,hs⟩,hr1.mono (by omega)⟩)
    refine Tot.bind (D.of (m:=13) hr1 (by omega) _ (by decide) (by decide) (by decide)) ?_
    rintro ⟨y,r2⟩ ⟨hy,hr2⟩
    refine Tot.chk (by simp at e; omega) (Tot.ret ⟨⟨by show (z.set 0 y).length<=13; simp; omega,fun s h => ?_⟩,hr2.mono (by omega)⟩)
    rcases List.mem_or_eq_of_mem_set h with h | rfl
    · exact hs s h
    · exact hy
  | succ j ih =>
    intro K r z hr hK hz hs
    have w2:IntKind.wrap .i64 (((j+1:Nat):Int)-1)=(j:Int):=wrapN (by omega) (by omega)
    refine Tot.up ?_
    simp only [G.jU.L1,w2]
    refine Tot.ite (fun _ => ?_) (fun e=>by simp at e)
    refine Tot.bind (D.of (m:=13) hr (by omega) _ (by decide) (by decide) (by decide)) ?_
    rintro ⟨y,r1⟩ ⟨hy,hr1⟩
    refine Tot.chk (by omega) ?_
    refine (ih (K+1) r1 (z++[y]) hr1 (by omega) (by simp; omega) (fun s h => ?_)).mono (fun x h=>⟨h.1,h.2.mono (by omega)⟩)
    rcases List.mem_append.1 h with h | h
    · exact hs s h
    · simp only [List.mem_singleton] at h; subst h; exact hy
theorem D.Gi {K:Nat} {r:ReaderT} (hr:nN K r) (hK:K<=800000000):Dr (K+9) (pG 13) (fun f=>G.jU f r):=by
 refine Tot.up ?_
 simp only [G.jU]
 refine Tot.bind (D.one hr (by omega) [1,2,1,0,3,5,6] (by decide) (by decide)) ?_
 rintro ⟨x,r'⟩ ⟨hx,hr'⟩
 obtain ⟨j,rfl,hj⟩:∃ j:Nat,x=(j:Int)/\j<=6:=⟨x.toNat,by simp at hx; omega⟩
 exact (D.Gi.L1 j (K+1) r' [] hr' (by omega) (by simp; omega) (fun s h=>by cases h)).mono (fun x h=>⟨h.1,h.2.mono (by omega)⟩)
def TI (m d:Nat) (l:List (List aG)):Prop:=l.length<=m/\∀ p,p∈l->p.length<=d/\∀ s,s∈p->s.length<=12
theorem WL {m d k:Nat} {l:List (List aG)} {s:aG} {p:List aG} (h:TI (m+k) (d+1) l) (hl:l.length<m+k) (hs:s.length<=12) (hp:p.length<=d/\∀ s,s∈p->s.length<=12):TI (m+k) (d+1) (l++[[s]++p]):=by
 refine ⟨by simp; omega,fun q hq => ?_⟩
 rcases List.mem_append.1 hq with h' | h'
 ·exact h.2 q h'
 ·simp only [List.mem_singleton] at h'
  subst h'
  refine ⟨by simp; omega,fun t ht => ?_⟩
  rcases List.mem_append.1 ht with h' | h'
  ·simp only [List.mem_singleton] at h'; subst h'; exact hs
  ·exact hp.2 t h'
theorem D.all.L7 {n:af} {i M d:Nat} {s:aG} {v:List (List aG)} {Q:List (List aG)->Prop} (hv:TI M d v) (hM:M<=20000) (hd:d<=5) (hs:s.length<=12) (C:Nat) (hC:C<=900000)
    (next:∀ z,TI (C+M) (d+1) z->Tot Q (fun f=>G.gB.L5 f n (IntKind.wrap .i64 ((i:Int)+1)) z)) :
    ∀ (k j:Nat) (z:List (List aG)),j+k=v.length->TI (C+j) (d+1) z->Tot Q (fun f=>G.gB.L7 f n (i:Int) s v (j:Int) z):=by
  have hl:=hv.1
  intro k
  induction k with
  | zero =>
    intro j z hj hz
    refine Tot.up ?_
    simp only [G.gB.L7]
    refine Tot.ite (fun e=>by simp at e; omega) (fun _=>next z ⟨by have:=hz.1; omega,hz.2⟩)
  | succ k ih =>
    intro j z hj hz
    have ZO:j<v.length:=by omega
    have hp:=hv.2 _ (List.getElem_mem ZO)
    have hz1:=hz.1
    refine Tot.up ?_
    simp only [G.gB.L7,Int.toNat_natCast,bP (show j+1<9223372036854775808 by omega),dh _ ZO]
    refine Tot.ite (fun _ => ?_) (fun e=>by simp at e; omega)
    refine Tot.chk (by omega) (Tot.chk (by omega) (Tot.chk (by omega) ?_))
    refine ih (j+1) _ (by omega) ?_
    exact WL (m:=C) (k:=j+1) ⟨by omega,hz.2⟩ (by omega) hs hp
theorem D.all:∀ (d:Nat) {n:af},d<=5->Shape d n=true->Tot (TI (7^d) d) (fun f=>G.gB f n)
  | 0,_,_,h=>by cases h
  | d+1,n,hd,h=>by
    have hk:=tq h
    have hf:=pR h
    have h7:=E8 (show d<=5 by omega)
    have hns:∀ i,i<n.Names.length->(n.Names.getD i default).length<=12:=fun i hi=>by
      rw [dh _ hi]; exact hf.2.2.1 _ (List.getElem_mem hi)
    have L5:∀ (k i:Nat) (z:List (List aG)),i+k=n.Kids.length->TI (1+i*7^d) (d+1) z->Tot (TI (7^(d+1)) (d+1)) (fun f=>G.gB.L5 f n (i:Int) z):=by
      intro k
      induction k with
      | zero =>
        intro i z hi hz
        have hm:i*7^d<=6*7^d:=Nat.mul_le_mul_right _ (by omega)
        have h1:0<7^d:=Nat.pow_pos (by omega)
        refine Tot.up ?_
        simp only [G.gB.L5]
        refine Tot.ite (fun e=>by simp at e; omega) (fun _=>Tot.ret ⟨?_,hz.2⟩)
        have:=hz.1
        rw [Nat.pow_succ]; omega
      | succ k ih =>
        intro i z hi hz
        have hm:i*7^d<=6*7^d:=Nat.mul_le_mul_right _ (by omega)
        have K6:∀ s:aG,s.length<=12->Tot (TI (7^(d+1)) (d+1)) (fun f=>G.gB.K6 f n (i:Int) z s):=fun s hs=>by
          refine Tot.up ?_
          simp only [G.gB.K6,Int.toNat_natCast]
          refine Tot.chk (by omega) (Tot.bind (D.all d (by omega) (rC h (j:=i) (by omega))) ?_)
          intro v hv
          refine D.all.L7 hv (by omega) (by omega) hs (1+i*7^d) (by omega) (fun z' hz' => ?_) v.length 0 z (by omega) hz
          rw [bP (by omega)]
          exact ih (i+1) z' (by omega) ⟨by have:=hz'.1; rw [Nat.add_mul]; omega,hz'.2⟩
        refine Tot.up ?_
        simp only [G.gB.L5,Int.toNat_natCast]
        refine Tot.ite (fun _ => ?_) (fun e=>by simp at e; omega)
        refine Tot.rU (T.decimal (i:=i) (by unfold lim; omega)) (Tot.ite (fun e => ?_) (fun _ => ?_))
        · have h4:n.Kind=4:=by simpa using e
          have hnl:=qH h h4
          exact Tot.chk (by omega) (K6 _ (hns i (by omega)))
        · exact K6 _ (by unfold vU; rw [if_pos (by omega)]; simp)
    refine Tot.up ?_
    simp only [G.gB]
    exact L5 n.Kids.length 0 [[]] (by omega) ⟨by simp,fun p hp=>by simp only [List.mem_singleton] at hp; subst hp; exact ⟨by simp,fun s hs=>by cases hs⟩⟩
theorem D.TG {B E:Nat} {n:af} (hB:B<=lim) (h:Fine B E n):Tot (TI (7^5) 5) (fun f=>G.nS f n):=by
 refine Tot.up ?_
 simp only [G.nS]
 refine Tot.rU (T.bH hB h) (Tot.ite (fun e => ?_) (fun _=>Tot.ret ⟨by simp,fun p hp=>by cases hp⟩))
 exact Tot.bind (D.all 5 (by omega) (kZ e)) (fun v hv=>Tot.ret hv)
theorem D.pathIn {K B E:Nat} {r:ReaderT} {n:af} (hB:B<=lim) (h:Fine B E n) (hr:nN K r) (hK:K<=700000000):Dr (K+10) (pG 13) (fun f=>G.oI f r n):=by
 refine Tot.up ?_
 simp only [G.oI]
 refine Tot.bind (D.TG hB h) ?_
 intro l hl
 have h7:(7:Nat)^5=16807:=by decide
 have hl1:=hl.1
 refine Tot.ite (fun e => ?_) (fun _ => ?_)
 ·have hl0:0<l.length:=by simpa using e
  refine Tot.bind (D.pick (m:=4) hr (by omega) rfl (by decide) (by decide)) ?_
  rintro ⟨x,r1⟩ ⟨_,hr1⟩
  refine Tot.ite (fun _ => ?_) (fun _ => ?_)
  ·refine Tot.bind (D.pick (m:=l.length) hr1 (by omega) rfl hl0 (by omega)) ?_
   rintro ⟨y,r2⟩ ⟨⟨q,rfl,hq⟩,hr2⟩
   have hp:=hl.2 _ (List.getElem_mem hq)
   refine Tot.chk (by simp only; omega) (Tot.ret ⟨?_,hr2.mono (by omega)⟩)
   simp only [Int.toNat_natCast,dh _ hq]
   exact ⟨by omega,fun s hs=>Nat.le_trans (hp.2 s hs) (by omega)⟩
  ·exact Tot.bind (D.Gi hr1 (by omega)) (fun x h=>Tot.ret ⟨h.1,h.2.mono (by omega)⟩)
 ·exact Tot.bind (D.Gi hr (by omega)) (fun x h=>Tot.ret ⟨h.1,h.2.mono (by omega)⟩)
end Go.Ab
end
section
namespace Go.Ab
open Go
abbrev yL (o:nO):Prop:=∃ E,Gz 60 E o
theorem pG.mono {B C:Nat} {p:List aG} (h:pG B p) (hB:B<=C):pG C p:=⟨Nat.le_trans h.1 hB,fun s hs=>Nat.le_trans (h.2 s hs) hB⟩
theorem Bd:pG 13 []:=⟨by simp,fun s h=>by cases h⟩
theorem KC:Fine 60 1 (af.mk 0 0 [] [] []):=wR (by simp) rfl rfl
section
variable {v1:Int × ReaderT} {v2:List aG × ReaderT} {K:Nat} {r:ReaderT} {fr:List aG} {m:af}
theorem D.someOp.K4 (hp:pG 13 v2.1) (hf:pG 13 fr) (hm:tC 60 m) (hr:nN K r) (hK:K<=900000000) (t:Bool) (ht:t=true->v2.1.length<4) :
  Dr (K+1) yL (fun f=>G.bD.K4 f v1 v2 fr m.Kind m.Num m.Text m.Names m.Kids t r.b r.p):=by
 obtain ⟨E,hm⟩:=hm
 have hl:=hp.1
 refine Tot.up ?_
 simp only [G.bD.K4,af.eta]
 refine Tot.ite (fun e => ?_) (fun _=>Tot.ret ⟨⟨E,hp.mono (by omega),hf.mono (by omega),hm⟩,hr.mono (by omega)⟩)
 have h4:=ht e
 refine Tot.chk (by omega) (Tot.bind (D.of (m:=13) hr (by omega) _ (by decide) (by decide) (by decide)) ?_)
 rintro ⟨y,r1⟩ ⟨hy,hr1⟩
 refine Tot.chk (by omega) (Tot.ret ⟨⟨E,⟨by show (v2.1++[y]).length<=60; simp; omega,fun s hs => ?_⟩,hf.mono (by omega),hm⟩,hr1⟩)
 rcases List.mem_append.1 hs with h | h
 ·exact Nat.le_trans (hp.2 s h) (by omega)
 ·simp only [List.mem_singleton] at h; subst h; exact Nat.le_trans hy (by omega)
theorem D.someOp.K3 (hp:pG 13 v2.1) (hf:pG 13 fr) (hm:tC 60 m) (hr:nN K r) (hK:K<=800000000) :
  Dr (K+2) yL (fun f=>G.bD.K3 f v1 v2 r.b r.p fr m.Kind m.Num m.Text m.Names m.Kids):=by
 refine Tot.up ?_
 simp only [G.bD.K3]
 have go:∀ {g:Nat->Option (nO × ReaderT)},v2.1.length<4->Dr (K+2) yL (fun f=>Option.bind (G.aC f r 2) fun v=>G.bD.K4 f v1 v2 fr m.Kind m.Num m.Text m.Names m.Kids (v.1==0) v.2.b v.2.p):=fun {g} h4=>by
  refine Tot.bind (D.pick (m:=2) hr (by omega) rfl (by decide) (by decide)) ?_
  rintro ⟨x,r1⟩ ⟨_,hr1⟩
  exact D.someOp.K4 hp hf hm hr1 (by omega) _ (fun _=>h4)
 have no:Dr (K+2) yL (fun f=>G.bD.K4 f v1 v2 fr m.Kind m.Num m.Text m.Names m.Kids false r.b r.p) :=
  (D.someOp.K4 hp hf hm hr (by omega) false (fun h=>by cases h)).mono (fun x h=>⟨h.1,h.2.mono (by omega)⟩)
 refine Tot.ite (fun e => ?_) (fun _=>no)
 have h4:v2.1.length<4:=by simp at e; omega
 exact Tot.ite (fun _=>go (g:=fun _=>none) h4) (fun _=>Tot.ite (fun _=>go (g:=fun _=>none) h4) (fun _=>Tot.ite (fun _=>go (g:=fun _=>none) h4) (fun _=>no)))
theorem D.someOp.K6 {B E:Nat} {n:af} (hB:B<=lim) (hn:Fine B E n) (hp:pG 13 v2.1) (hr:nN K v2.2) (hK:K<=700000000) (t:Bool) :
  Dr (K+12) yL (fun f=>G.bD.K6 f n v1 v2 t):=by
 refine Tot.up ?_
 simp only [G.bD.K6]
 refine Tot.ite (fun _ => ?_) (fun _=>(D.someOp.K3 (m:=af.mk 0 0 [] [] []) hp Bd ⟨1,KC⟩ hr (by omega)).mono (fun x h=>⟨h.1,h.2.mono (by omega)⟩))
 refine Tot.bind (D.pathIn hB hn hr (by omega)) ?_
 rintro ⟨p,r1⟩ ⟨hq,hr1⟩
 exact D.someOp.K3 (m:=af.mk 0 0 [] [] []) hp hq ⟨1,KC⟩ hr1 (by omega)
theorem D.someOp.K5 {E:Nat} {n:af} (hn:Fine 60 E n) (hp:pG 13 v2.1) (hr:nN K v2.2) (hK:K<=700000000) (t:Bool) :
    Dr (K+302) yL (fun f=>G.bD.K5 f n v1 v2 t):=by
  refine Tot.up ?_
  simp only [G.bD.K5]
  have no:∀ {r K'},nN K' r->K'<=K+1->Dr (K+302) yL (fun f=>G.bD.K3 f v1 v2 r.b r.p [] 0 0 [] [] []):=fun {r K'} h h' =>
    (D.someOp.K3 (m:=af.mk 0 0 [] [] []) hp Bd ⟨1,KC⟩ h (by omega)).mono (fun x h=>⟨h.1,h.2.mono (by omega)⟩)
  refine Tot.ite (fun _ => ?_) (fun _=>Tot.ite (fun _ => ?_) (fun _ => ?_))
  · refine Tot.bind (D.node 1 (by decide) rfl hr (by omega)) ?_
    rintro ⟨m,r1⟩ ⟨hm,hr1⟩
    exact D.someOp.K3 hp Bd hm hr1 (by omega)
  · refine Tot.rU (T.lY v2.1 lW (by have:=hp.1; unfold big; omega) hn) ?_
    cases ha:zT n v2.1 with
    | none=>exact no hr (by omega)
    | some t =>
      refine Tot.bind (D.pick (m:=3) hr (by omega) rfl (by decide) (by decide)) ?_
      rintro ⟨x,r1⟩ ⟨_,hr1⟩
      refine Tot.ite (fun _ => ?_) (fun _=>no hr1 (by omega))
      exact (D.someOp.K3 hp Bd ⟨E,Be _ hn ha⟩ hr1 (by omega)).mono (fun x h=>⟨h.1,h.2.mono (by omega)⟩)
  · refine Tot.ite (fun _ => ?_) (fun _ => ?_)
    · exact (D.someOp.K6 lW hn hp hr hK true).mono (fun x h=>⟨h.1,h.2.mono (by omega)⟩)
    · exact (D.someOp.K6 lW hn hp hr hK _).mono (fun x h=>⟨h.1,h.2.mono (by omega)⟩)
end
theorem D.someOp {K E:Nat} {r:ReaderT} {n:af} (hn:Fine 60 E n) (hr:nN K r) (hK:K<=600000000):Dr (K+320) yL (fun f=>G.bD f r n):=by
 refine Tot.up ?_
 simp only [G.bD]
 refine Tot.bind (D.pick (m:=6) hr (by omega) rfl (by decide) (by decide)) ?_
 rintro ⟨x,r1⟩ ⟨_,hr1⟩
 refine Tot.bind (D.pathIn lW hn hr1 (by omega)) ?_
 rintro ⟨p,r2⟩ ⟨hp,hr2⟩
 exact Tot.ite (fun _=>(D.someOp.K5 (v2:=(p,r2)) hn hp hr2 (by omega) true).mono (fun x h=>⟨h.1,h.2.mono (by omega)⟩)) (fun _=>(D.someOp.K5 (v2:=(p,r2)) hn hp hr2 (by omega) _).mono (fun x h=>⟨h.1,h.2.mono (by omega)⟩))
def Bytes (l:List Int):Prop:=∀ z,z∈l->0<=z/\z<256
theorem D.ET {c:List Int} (hc:Bytes c) (hl:c.length<=1048576):Tot (nN 0) (fun f=>G.kR f c):=by
 refine Tot.up ?_
 simp only [G.kR]
 refine Tot.ite (fun e => ?_) (fun e => ?_)
 ·have h:2000<c.length:=by simp at e; omega
  exact Tot.chk (by omega) (Tot.ret ⟨by show (c.take 2000).length<=2000; simp; omega,fun z hz=>hc z (List.mem_of_mem_take hz),Int.le_refl _,Int.le_refl _⟩)
 ·have h:c.length<=2000:=by simp at e; omega
  exact Tot.ret ⟨h,hc,Int.le_refl _,Int.le_refl _⟩
structure NO (n:af) (o:nO):Prop where
 node:∃ E,Fine 60 E n
 op:∃ E,Gz 60 E o
theorem T.gJ.L1 {a b:List aG} (hl:a.length=b.length) (hb:a.length<big):∀ (k i:Nat),i+k=a.length->Ev (fun f=>G.gJ.L1 f a b i) (decide (a.drop i=b.drop i)):=by
  unfold big at hb
  intro k
  induction k with
  | zero =>
    intro i hi
    refine Ev.up ?_
    simp only [G.gJ.L1]
    refine Ev.cf (by simp; omega) (Ev.ret' ?_)
    rw [List.drop_of_length_le (by omega),List.drop_of_length_le (by omega)]
    simp
  | succ k ih =>
    intro i hi
    refine Ev.up ?_
    simp only [G.gJ.L1,Int.toNat_natCast,bP (show i+1<9223372036854775808 by omega)]
    refine Ev.ct (by simp; omega) (Ev.chk (by omega) (Ev.chk (by omega) ?_))
    rw [bT (default:aG) (by omega:i<a.length),bT (default:aG) (by omega:i<b.length)]
    refine Ev.ite (fun e=>(ih (i+1) (by omega)).eq ?_) (fun e=>Ev.ret' ?_)
    · have e:a.getD i default=b.getD i default:=by simpa using e
      rw [e]; simp
    · have e:a.getD i default ≠ b.getD i default:=by simpa using e
      symm
      exact decide_eq_false (fun h=>e (List.cons.inj h).1)
theorem T.gJ {a b:List aG} (hb:a.length<big):Ev (fun f=>G.gJ f a b) (decide (a=b)):=by
 refine Ev.up ?_
 simp only [G.gJ]
 refine Ev.ite (fun e=>Ev.ret' ?_) (fun e => ?_)
 ·have e:a.length ≠ b.length:=fun h=>by rw [h] at e; simp at e
  symm
  exact decide_eq_false (fun h=>e (by rw [h]))
 ·have e:((a.length:Nat):Int)=((b.length:Nat):Int):=by simpa using e
  exact T.gJ.L1 (by omega) hb a.length 0 (by omega)
open Classical in
theorem T.iK.L1 {a b:List af} (hl:a.length=b.length) (hb:a.length<big) (hs:∀ x y,x∈a->y∈b->Ev (fun f=>G.gu f x y) (decide (x=y))) :
    ∀ (k i:Nat),i+k=a.length->Ev (fun f=>G.iK.L1 f a b i) (decide (a.drop i=b.drop i)):=by
  unfold big at hb
  intro k
  induction k with
  | zero =>
    intro i hi
    refine Ev.up ?_
    simp only [G.iK.L1]
    refine Ev.cf (by simp; omega) (Ev.ret' ?_)
    rw [List.drop_of_length_le (by omega),List.drop_of_length_le (by omega)]
    simp
  | succ k ih =>
    intro i hi
    refine Ev.up ?_
    simp only [G.iK.L1,Int.toNat_natCast,bP (show i+1<9223372036854775808 by omega)]
    refine Ev.ct (by simp; omega) (Ev.chk (by omega) (Ev.chk (by omega) ?_))
    have ha:a.getD i default∈a:=by rw [dh _ (by omega:i<a.length)]; exact List.getElem_mem _
    have hb':b.getD i default∈b:=by rw [dh _ (by omega:i<b.length)]; exact List.getElem_mem _
    refine Ev.bind (hs _ _ ha hb') ?_
    rw [bT (default:af) (by omega:i<a.length),bT (default:af) (by omega:i<b.length)]
    refine Ev.ite (fun e=>(ih (i+1) (by omega)).eq ?_) (fun e=>Ev.ret' ?_)
    · have e:a.getD i default=b.getD i default:=by simpa using e
      rw [e]; simp
    · have e:a.getD i default ≠ b.getD i default:=by simpa using e
      symm
      exact decide_eq_false (fun h=>e (List.cons.inj h).1)
open Classical in
theorem T.gu {B C:Nat} (hB:B<=lim) (hC:C<=lim):∀ {D E:Nat} {a b:af},Fine B D a->Fine C E b->Ev (fun f=>G.gu f a b) (decide (a=b))
  | 0,_,_,_,h,_=>h.elim
  | _+1,0,_,_,_,h=>h.elim
  | D+1,E+1,a,b,ha,hb=>by
    have hka:=ha.kids
    have hna:=ha.names
    have hl:lim<big:=by decide
    refine Ev.up ?_
    simp only [G.gu]
    by_cases h1:a.Kind=b.Kind
    · refine Ev.ct (by simpa using h1) ?_
      by_cases h2:a.Num=b.Num
      · refine Ev.ct (by simpa using h2) ?_
        by_cases h3:a.Text=b.Text
        · refine Ev.ct (by simpa using h3) (Ev.bind (T.gJ (by omega)) ?_)
          by_cases h4:a.Names=b.Names
          · refine Ev.ct (by simpa using h4) ?_
            by_cases h5:a.Kids.length=b.Kids.length
            · have hk:Ev (fun f=>G.iK f a.Kids b.Kids) (decide (a.Kids=b.Kids)):=by
                refine Ev.up ?_
                simp only [G.iK]
                refine Ev.cf (by rw [h5]; simp) ?_
                exact T.iK.L1 h5 (by omega) (fun x y hx hy=>T.gu hB hC (ha.2.2.2.2.2 x hx) (hb.2.2.2.2.2 y hy)) a.Kids.length 0 (by omega)
              refine Ev.bind hk (Ev.ret' ?_)
              apply decide_eq_decide.2
              constructor
              · intro h
                cases a; cases b
                simp only at h h1 h2 h3 h4
                rw [h,h1,h2,h3,h4]
              · intro h; rw [h]
            · have hk:Ev (fun f=>G.iK f a.Kids b.Kids) false:=by
                refine Ev.up ?_
                simp only [G.iK]
                exact Ev.ct (by simp; omega) (Ev.ret _)
              exact Ev.bind hk (Ev.ret' (decide_eq_false (fun h=>h5 (by rw [h]))).symm)
          · exact Ev.cf (by simpa using h4) (Ev.ret' (decide_eq_false (fun h=>h4 (by rw [h]))).symm)
        · exact Ev.cf (by simpa using h3) (Ev.ret' (decide_eq_false (fun h=>h3 (by rw [h]))).symm)
      · exact Ev.cf (by simpa using h2) (Ev.ret' (decide_eq_false (fun h=>h2 (by rw [h]))).symm)
    · exact Ev.cf (by simpa using h1) (Ev.ret' (decide_eq_false (fun h=>h1 (by rw [h]))).symm)
theorem T.Hw {B D:Nat} (hB:B<=lim) {a:af} (h:Fine B D a):Ev (fun f=>G.gu f a a) true:=(T.gu hB hB h h).eq (by simp)
end Go.Ab
end
