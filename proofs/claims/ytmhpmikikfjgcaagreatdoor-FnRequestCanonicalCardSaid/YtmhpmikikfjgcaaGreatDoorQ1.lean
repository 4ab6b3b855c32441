/- The law FnRequestCanonical of the package laws answers true for every code of bytes and leaves it as it is (part 1). Conditions: none but what the row lists. -/
import Derived.Test.YtmhpmikikfjgcaaGreatDoorB3
set_option linter.unusedVariables false
set_option linter.unusedSimpArgs false
section
namespace Go.Ab
open Go
set_option maxRecDepth 100000
set_option maxHeartbeats 4000000
set_option linter.unusedVariables false
set_option linter.unusedSimpArgs false
def G.jX (f:Nat) (aC:ReaderT) (ai:aA):Option (aA × ReaderT):=match f with
| 0=>none
| n+1 =>
((G.aj n aC (IntKind.wrap .i64 (((ai.length:Nat):Int)+1))).bind fun v1 =>
((G.aj n v1.2 5).bind fun v2 =>
(cond (v2.1==0)
(cond (decide (v1.1<((ai.length:Nat):Int)))
(chk (0<=0/\0<=v1.1/\v1.1<=((ai.length:Nat):Int))
((G.dA n v2.2 [[48],[49],[32],[45],[44],[97],[34],[93]]).bind fun v3 =>
(chk ((ai.take v1.1.toNat).length+v3.1.length<=maxLen)
(chk (0<=(IntKind.wrap .i64 (v1.1+1))/\(IntKind.wrap .i64 (v1.1+1))<=((ai.length:Nat):Int)/\((ai.length:Nat):Int)<=((ai.length:Nat):Int))
(chk (((ai.take v1.1.toNat).length+v3.1.length)+(ai.drop ((IntKind.wrap .i64 (v1.1+1)).toNat)).length<=maxLen)
(some ((((ai.take v1.1.toNat)++v3.1)++(ai.drop ((IntKind.wrap .i64 (v1.1+1)).toNat))),v3.2)))))))
(some (ai,v2.2)))
(cond (v2.1==1)
(chk (0<=0/\0<=v1.1/\v1.1<=((ai.length:Nat):Int))
(some ((ai.take v1.1.toNat),v2.2)))
(cond (v2.1==2)
((G.dA n v2.2 [[48],[32],[110,117,108,108],[44,49],[120],[126]]).bind fun v4 =>
(chk (ai.length+v4.1.length<=maxLen)
(some ((ai++v4.1),v4.2))))
(some (ai,v2.2)))))))
def G.gz (f:Nat) (iW:List Int):Option (aA):=match f with
| 0=>none
| n+1 =>
((G.iV n iW).bind fun v1 =>
((G.dP n v1).bind fun v2 =>
((G.aF n v2.1).bind fun v3 =>
((G.aj n v2.2 3).bind fun v4 =>
(cond (v4.1==0)
((G.jX n v4.2 v3).bind fun v5 =>
(some (v5.1)))
(some (v3)))))))
def G.iT (f:Nat) (ai:aA):Option (af × Bool):=match f with
| 0=>none
| n+1 =>
(cond (decide (2000<((ai.length:Nat):Int)))
(some ((af.mk 0 0 [] [] []),false))
((G.dY n (aV.mk ai 0 false) 5).bind fun v1 =>
(cond v1.2.bad
(some ((af.mk 0 0 [] [] []),false))
((G.aT n v1.1).bind fun v2 =>
(cond v2
((G.bI n v1.1).bind fun v3 =>
(cond (v3==ai)
(some (v1.1,true))
(some ((af.mk 0 0 [] [] []),false))))
(some ((af.mk 0 0 [] [] []),false)))))))
def G.dJ.L1 (f:Nat) (ai:aA) (kR:Int) (z2:List aA):Option (List aA × Bool):=match f with
| 0=>none
| n+1 =>
(cond (decide (kR<((ai.length:Nat):Int)))
(cond (decide (((z2.length:Nat):Int)<=4))
(cond (decide (0<kR))
(chk (0<=kR/\kR<((ai.length:Nat):Int))
(cond ((((ai.getD kR.toNat 0).toNat:Nat):Int)==44)
(G.dJ.L1 n ai (IntKind.wrap .i64 (kR+1)) z2)
(chk (0<=kR/\kR<((ai.length:Nat):Int))
(cond ((((ai.getD kR.toNat 0).toNat:Nat):Int)==42)
(chk ((z2.length+1)*18<=2^46)
(G.dJ.L1 n ai (IntKind.wrap .i64 (kR+1)) (z2++[[42]])))
(cond (decide ((IntKind.wrap .i64 (kR+6))<=((ai.length:Nat):Int)))
(chk (0<=(IntKind.wrap .i64 (kR+1))/\(IntKind.wrap .i64 (kR+1))<=(IntKind.wrap .i64 (kR+5))/\(IntKind.wrap .i64 (kR+5))<=((ai.length:Nat):Int))
(chk ((z2.length+1)*18<=2^46)
(G.dJ.L1 n ai (IntKind.wrap .i64 (kR+6)) (z2++[((ai.take ((IntKind.wrap .i64 (kR+5)).toNat)).drop ((IntKind.wrap .i64 (kR+1)).toNat))]))))
(some ([],false)))))))
(chk (0<=kR/\kR<((ai.length:Nat):Int))
(cond ((((ai.getD kR.toNat 0).toNat:Nat):Int)==42)
(chk ((z2.length+1)*18<=2^46)
(G.dJ.L1 n ai (IntKind.wrap .i64 (kR+1)) (z2++[[42]])))
(cond (decide ((IntKind.wrap .i64 (kR+6))<=((ai.length:Nat):Int)))
(chk (0<=(IntKind.wrap .i64 (kR+1))/\(IntKind.wrap .i64 (kR+1))<=(IntKind.wrap .i64 (kR+5))/\(IntKind.wrap .i64 (kR+5))<=((ai.length:Nat):Int))
(chk ((z2.length+1)*18<=2^46)
(G.dJ.L1 n ai (IntKind.wrap .i64 (kR+6)) (z2++[((ai.take ((IntKind.wrap .i64 (kR+5)).toNat)).drop ((IntKind.wrap .i64 (kR+1)).toNat))]))))
(some ([],false))))))
((G.bF n z2).bind fun v1 =>
(cond (v1==ai)
((G.bZ n z2).bind fun v2 =>
(cond v2
(some (z2,true))
(some ([],false))))
(some ([],false)))))
((G.bF n z2).bind fun v3 =>
(cond (v3==ai)
((G.bZ n z2).bind fun v4 =>
(cond v4
(some (z2,true))
(some ([],false))))
(some ([],false)))))
def G.dJ (f:Nat) (ai:aA):Option (List aA × Bool):=match f with
| 0=>none
| n+1 =>
(G.dJ.L1 n ai 0 [])
def G.iU.L1 (f:Nat) (ai:aA) (ak:Int):Option (aA × aA):=match f with
| 0=>none
| n+1 =>
(cond (decide (ak<((ai.length:Nat):Int)))
(chk (0<=ak/\ak<((ai.length:Nat):Int))
(cond ((((ai.getD ak.toNat 0).toNat:Nat):Int)==32)
(chk (0<=0/\0<=ak/\ak<=((ai.length:Nat):Int))
(chk (0<=(IntKind.wrap .i64 (ak+1))/\(IntKind.wrap .i64 (ak+1))<=((ai.length:Nat):Int)/\((ai.length:Nat):Int)<=((ai.length:Nat):Int))
(some ((ai.take ak.toNat),(ai.drop ((IntKind.wrap .i64 (ak+1)).toNat))))))
(G.iU.L1 n ai (IntKind.wrap .i64 (ak+1)))))
(some (ai,[])))
def G.iU (f:Nat) (ai:aA):Option (aA × aA):=match f with
| 0=>none
| n+1 =>
(G.iU.L1 n ai 0)
def G.gJ.L1 (f:Nat) (ag:af) (ak:Int) (z2:List aA):Option (List aA):=match f with
| 0=>none
| n+1 =>
(cond (decide (ak<((ag.Kids.length:Nat):Int)))
(chk (0<=ak/\ak<((ag.Kids.length:Nat):Int))
(chk ((z2.length+1)*18<=2^46)
(G.gJ.L1 n ag (IntKind.wrap .i64 (ak+1)) (z2++[(ag.Kids.getD ak.toNat default).Text]))))
(some (z2)))
def G.gJ (f:Nat) (ag:af):Option (List aA):=match f with
| 0=>none
| n+1 =>
(G.gJ.L1 n ag 0 [])
def G.fZ (f:Nat) (fK:Bool):Option (Int):=match f with
| 0=>none
| n+1 =>
(cond fK
(some (1))
(some (0)))
def G.iP (f:Nat) (fO:Int) (fK:Int):Option (Int):=match f with
| 0=>none
| n+1 =>
((G.fZ n (decide (fK<fO))).bind fun v1 =>
((G.fZ n (decide (fO<fK))).bind fun v2 =>
(some ((IntKind.wrap .i64 (v1-v2))))))
def G.iw (f:Nat) (fO:aA) (fK:aA):Option (Int):=match f with
| 0=>none
| n+1 =>
(cond (Op.bytesLess fO fK)
((G.fZ n false).bind fun v1 =>
((G.fZ n true).bind fun v2 =>
(some ((IntKind.wrap .i64 (v1-v2))))))
(cond (fO==fK)
((G.fZ n false).bind fun v3 =>
((G.fZ n false).bind fun v4 =>
(some ((IntKind.wrap .i64 (v3-v4))))))
((G.fZ n true).bind fun v5 =>
((G.fZ n false).bind fun v6 =>
(some ((IntKind.wrap .i64 (v5-v6))))))))
mutual
def G.dw.L1 (f:Nat) (fO:af) (fK:af) (ak:Int):Option (Int):=match f with
| 0=>none
| n+1 =>
(cond (decide (ak<((fO.Kids.length:Nat):Int)))
(cond (decide (ak<((fK.Kids.length:Nat):Int)))
(cond (fO.Kind==4)
(chk (0<=ak/\ak<((fO.Names.length:Nat):Int))
(chk (0<=ak/\ak<((fK.Names.length:Nat):Int))
(cond ((fO.Names.getD ak.toNat default)==(fK.Names.getD ak.toNat default))
(chk (0<=ak/\ak<((fO.Kids.length:Nat):Int))
(chk (0<=ak/\ak<((fK.Kids.length:Nat):Int))
((G.dw n (fO.Kids.getD ak.toNat default) (fK.Kids.getD ak.toNat default)).bind fun v9 =>
(cond (v9 != 0)
(some (v9))
(G.dw.L1 n fO fK (IntKind.wrap .i64 (ak+1)))))))
(chk (0<=ak/\ak<((fO.Names.length:Nat):Int))
(chk (0<=ak/\ak<((fK.Names.length:Nat):Int))
((G.iw n (fO.Names.getD ak.toNat default) (fK.Names.getD ak.toNat default)).bind fun v10 =>
(some (v10))))))))
(chk (0<=ak/\ak<((fO.Kids.length:Nat):Int))
(chk (0<=ak/\ak<((fK.Kids.length:Nat):Int))
((G.dw n (fO.Kids.getD ak.toNat default) (fK.Kids.getD ak.toNat default)).bind fun v11 =>
(cond (v11 != 0)
(some (v11))
(G.dw.L1 n fO fK (IntKind.wrap .i64 (ak+1))))))))
((G.iP n ((fO.Kids.length:Nat):Int) ((fK.Kids.length:Nat):Int)).bind fun v12 =>
(some (v12))))
((G.iP n ((fO.Kids.length:Nat):Int) ((fK.Kids.length:Nat):Int)).bind fun v13 =>
(some (v13))))
def G.dw (f:Nat) (fO:af) (fK:af):Option (Int):=match f with
| 0=>none
| n+1 =>
(cond (fO.Kind != fK.Kind)
((G.iP n fO.Kind fK.Kind).bind fun v1 =>
(some (v1)))
(cond (fO.Num != fK.Num)
((G.iP n fO.Num fK.Num).bind fun v2 =>
(some (v2)))
(cond (fO.Text==fK.Text)
(G.dw.L1 n fO fK 0)
((G.iw n fO.Text fK.Text).bind fun v14 =>
(some (v14))))))
end
def G.kM (f:Nat) (fO:af) (fK:af):Option (Bool):=match f with
| 0=>none
| n+1 =>
((G.dw n fO fK).bind fun v1 =>
(some ((v1==0))))
def G.fH.L1 (f:Nat) (ag:af) (v2:List aA) (xm:Int) (ak:Int):Option (iI × Bool):=match f with
| 0=>none
| n+1 =>
(cond (decide (ak<((v2.length:Nat):Int)))
(chk (0<=1/\1<((ag.Kids.length:Nat):Int))
(chk (0<=ak/\ak<((v2.length:Nat):Int))
(cond ((ag.Kids.getD 1 default).Text==(v2.getD ak.toNat default))
(G.fH.L1 n ag v2 ak (IntKind.wrap .i64 (ak+1)))
(G.fH.L1 n ag v2 xm (IntKind.wrap .i64 (ak+1))))))
(chk (0<=2/\2<((ag.Kids.length:Nat):Int))
((G.gJ n (ag.Kids.getD 2 default)).bind fun v3 =>
(chk (0<=0/\0<((ag.Kids.length:Nat):Int))
((G.gJ n (ag.Kids.getD 0 default)).bind fun v4 =>
(chk (0<=3/\3<((ag.Kids.length:Nat):Int))
((G.ay n (ag.Kids.getD 3 default)).bind fun v5 =>
((G.ig n (iI.mk xm v3 v4 v5)).bind fun v6 =>
(cond v6
((G.iM n (iI.mk xm v3 v4 v5)).bind fun v7 =>
((G.kM n v7 ag).bind fun v8 =>
(cond v8
(some ((iI.mk xm v3 v4 v5),true))
(some ((iI.mk 0 [] [] (af.mk 0 0 [] [] [])),false)))))
(some ((iI.mk 0 [] [] (af.mk 0 0 [] [] [])),false)))))))))))
def G.fH (f:Nat) (ag:af):Option (iI × Bool):=match f with
| 0=>none
| n+1 =>
((G.aT n ag).bind fun v1 =>
(cond v1
(cond (ag.Kind != 4)
(some ((iI.mk 0 [] [] (af.mk 0 0 [] [] [])),false))
(cond (((ag.Kids.length:Nat):Int) != 4)
(some ((iI.mk 0 [] [] (af.mk 0 0 [] [] [])),false))
((G.jE n).bind fun v2 =>
(G.fH.L1 n ag v2 0 1))))
(some ((iI.mk 0 [] [] (af.mk 0 0 [] [] [])),false))))
def G.gp.L1 (f:Nat) (G9:aA) (z2:List iI):Option (List iI × Bool):=match f with
| 0=>none
| n+1 =>
(cond (decide (0<((G9.length:Nat):Int)))
(cond (decide (((z2.length:Nat):Int)<=12))
((G.dY n (aV.mk G9 0 false) 5).bind fun v7 =>
((G.fH n v7.1).bind fun v8 =>
(cond v7.2.bad
(some ([],false))
(cond v8.2
((G.bM n (aV.mk v7.2.text v7.2.at_ false)).bind fun v9 =>
(cond (v9.1 != 59)
(some ([],false))
(chk ((z2.length+1)*145<=2^46)
(chk (0<=(IntKind.wrap .i64 (v9.2.at_+1))/\(IntKind.wrap .i64 (v9.2.at_+1))<=((G9.length:Nat):Int)/\((G9.length:Nat):Int)<=((G9.length:Nat):Int))
(G.gp.L1 n (G9.drop ((IntKind.wrap .i64 (v9.2.at_+1)).toNat)) (z2++[v8.1]))))))
(some ([],false))))))
(some (z2,true)))
(some (z2,true)))
def G.gp (f:Nat) (ai:aA):Option (List iI × Bool):=match f with
| 0=>none
| n+1 =>
(G.gp.L1 n ai [])
def G.bK.K2 (f:Nat) (ai:aA) (v2:aA × aA) (y2:Int) (v6:List aA × Bool) (v7:List aA × Bool) (JR:Bool) (y3:Int) (y4:Int) (y5:aA) (y6:List aA) (y7:List af) (y8:List iI):Option (RequestT × Bool):=match f with
| 0=>none
| n+1 =>
(cond v6.2
(cond v7.2
(cond JR
((G.aF n (RequestT.mk y2 v2.1 v6.1 v7.1 (af.mk y3 y4 y5 y6 y7) y8)).bind fun v10 =>
(cond (v10==ai)
(cond (ai==[])
(some ((RequestT.mk 0 [] [] [] (af.mk 0 0 [] [] []) []),false))
(some ((RequestT.mk y2 v2.1 v6.1 v7.1 (af.mk y3 y4 y5 y6 y7) y8),true)))
(some ((RequestT.mk 0 [] [] [] (af.mk 0 0 [] [] []) []),false))))
(some ((RequestT.mk 0 [] [] [] (af.mk 0 0 [] [] []) []),false)))
(some ((RequestT.mk 0 [] [] [] (af.mk 0 0 [] [] []) []),false)))
(some ((RequestT.mk 0 [] [] [] (af.mk 0 0 [] [] []) []),false)))
def G.bK.L1 (f:Nat) (ai:aA) (v1:aA × aA) (v2:aA × aA) (v3:aA × aA) (v4:aA × aA) (v5:List aA) (ak:Int) (y2:Int):Option (RequestT × Bool):=match f with
| 0=>none
| n+1 =>
(cond (decide (ak<((v5.length:Nat):Int)))
(chk (0<=ak/\ak<((v5.length:Nat):Int))
(cond ((v5.getD ak.toNat default)==v1.1)
(G.bK.L1 n ai v1 v2 v3 v4 v5 (IntKind.wrap .i64 (ak+1)) ak)
(G.bK.L1 n ai v1 v2 v3 v4 v5 (IntKind.wrap .i64 (ak+1)) y2)))
((G.dJ n v3.1).bind fun v6 =>
((G.dJ n v4.1).bind fun v7 =>
(cond (y2==4)
((G.gp n v4.2).bind fun v11 =>
(G.bK.K2 n ai v2 y2 v6 v7 v11.2 0 0 [] [] [] v11.1))
((G.iT n v4.2).bind fun v12 =>
(G.bK.K2 n ai v2 y2 v6 v7 v12.2 v12.1.Kind v12.1.Num v12.1.Text v12.1.Names v12.1.Kids []))))))
def G.bK (f:Nat) (ai:aA):Option (RequestT × Bool):=match f with
| 0=>none
| n+1 =>
(cond (decide (2000<((ai.length:Nat):Int)))
(some ((RequestT.mk 0 [] [] [] (af.mk 0 0 [] [] []) []),false))
((G.iU n ai).bind fun v1 =>
((G.iU n v1.2).bind fun v2 =>
((G.iU n v2.2).bind fun v3 =>
((G.iU n v3.2).bind fun v4 =>
((G.jV n).bind fun v5 =>
(G.bK.L1 n ai v1 v2 v3 v4 v5 1 0)))))))
def G.gu (f:Nat) (iW:List Int):Option (Bool):=match f with
| 0=>none
| n+1 =>
(cond (decide (1048576<((iW.length:Nat):Int)))
(some (true))
((G.gz n iW).bind fun v1 =>
((G.dG n v1).bind fun v2 =>
((G.bK n v1).bind fun v3 =>
((G.gW n v2.1 v3.1).bind fun v4 =>
(cond v4
(cond v2.2
(cond v3.2
((G.ah n v2.1).bind fun v5 =>
(some ((v5==v1))))
(some (false)))
(cond v3.2
(some (false))
(some (true))))
(some (false))))))))
end Go.Ab
end
section
namespace Go.Ab
open Go
set_option maxRecDepth 100000
set_option maxHeartbeats 4000000
set_option linter.unusedVariables false
set_option linter.unusedSimpArgs false
def C.jX:bD:=(.seq (.reg [zA 4 (.mv (.k (.c (.str []))))] [0,1]) (.seq (.reg [zM 6 0,zM 7 1,zA 8 (.lens (.t 7)),zA 9 (.bin .add (.t 8) (kI 1)),q2 10 46 6 9,zM 5 10] [0,1,5]) (.seq (.seq (.reg [zM 11 0,⟨none,some 12,.call 46 [.t 11,kI 5]⟩] [0,1,5,12]) (.block 0 (.seq (.reg [zA 14 (.bin .eql (.t 12) (kI 0)),zM 13 14] [0,1,5,12,13]) (.cond (.t 13) (.seq (.reg [zM 15 5,zM 16 1,zA 17 (.lens (.t 16)),zA 18 (.bin .lss (.t 15) (.t 17))] [0,1,5,18]) (.cond (.t 18) (.seq (.jQ [(zM 19 1,[]),(zM 20 5,[]),(zA 21 (.slstr (.t 19) none (some (.t 20))),[0,1]),(zM 22 0,[]),(zA 23 (.bslice 10 1 8 [.str []] [(0,.k (.c (.str [48]))),(1,.k (.c (.str [49]))),(2,.k (.c (.str [32]))),(3,.k (.c (.str [45]))),(4,.k (.c (.str [44]))),(5,.k (.c (.str [97]))),(6,.k (.c (.str [34]))),(7,.k (.c (.str [93])))]),[]),(q2 24 53 22 23,[3,4]),(zA 25 (.bin .add (.t 21) (.t 24)),[0,1,2,3,4,5]),(zM 26 1,[]),(zM 27 5,[]),(zA 28 (.bin .add (.t 27) (kI 1)),[8]),(zA 29 (.slstr (.t 26) (some (.t 28)) none),[7,8,9]),(zA 30 (.bin .add (.t 25) (.t 29)),[0,1,2,3,4,5,6,7,8,9,10]),(zM 4 30,[0,1,2,3,4,5,6,7,8,9,10,11])] [4]) .ret) .skip)) (.seq (.reg [zA 32 (.bin .eql (.t 12) (kI 1)),zM 31 32] [0,1,5,12,31]) (.cond (.t 31) (.seq (.reg [zM 33 1,zM 34 5,zA 35 (.slstr (.t 33) none (some (.t 34))),zM 4 35] [4]) .ret) (.seq (.reg [zA 37 (.bin .eql (.t 12) (kI 2)),zM 36 37] [0,1,36]) (.cond (.t 36) (.seq (.reg [zM 38 1,zM 39 0,zA 40 (.bslice 11 1 6 [.str []] [(0,.k (.c (.str [48]))),(1,.k (.c (.str [32]))),(2,.k (.c (.str [110,117,108,108]))),(3,.k (.c (.str [44,49]))),(4,.k (.c (.str [120]))),(5,.k (.c (.str [126])))]),q2 41 53 39 40,zA 42 (.bin .add (.t 38) (.t 41)),zM 4 42] [4]) .ret) .skip)))))))) (.seq (.reg [zM 43 1,zM 4 43] [4]) .ret))))
theorem K.jX:fE pZ 47 2 1 C.jX [.tmp 4]=true:=by kernel_rfl
def C.gz:bD:=(.seq (.reg [zA 2 (.mv (.k (.c (.str []))))] [0]) (.seq (.reg [zM 5 0,q1 6 27 5,zM 3 6] [3]) (.seq (.reg [zM 7 3,q1 8 26 7,q1 9 12 8,zM 4 9] [3,4]) (.seq (.seq (.reg [zM 10 3,⟨none,some 11,.call 46 [.t 10,kI 3]⟩,zA 12 (.bin .eql (.t 11) (kI 0))] [3,4,12]) (.cond (.t 12) (.reg [zM 13 3,zM 14 4,q2 15 47 13 14,zM 4 15] [4]) .skip)) (.seq (.reg [zM 16 4,zM 2 16] [2]) .ret)))))
theorem K.gz:fE pZ 15 1 0 C.gz [.tmp 2]=true:=by kernel_rfl
def C.bM:bD:=(.seq (.reg [zA 2 (.mv (.k (.c (.lit (.int .u8 0)))))] [0]) (.seq (.seq (.jQ [(zM 3 0,[]),(qN 4 3,[0]),(qA 5 1 4,[0,1]),(qF 6 1 5,[0,1,2]),(zM 7 0,[]),(qN 8 7,[4]),(qA 9 0 8,[4,5]),(qF 10 1 9,[4,5,6]),(zA 11 (.lens (.t 10)),[4,5,6,7]),(zA 12 (.bin .geq (.t 6) (.t 11)),[0,1,2,3,4,5,6,7,8])] [0,12]) (.cond (.t 12) (.seq (.reg [zA 2 (.mv (.k (.c (.lit (.int .u8 0)))))] [2]) .ret) .skip)) (.seq (.jQ [(zM 13 0,[]),(qN 14 13,[0]),(qA 15 0 14,[0,1]),(qF 16 1 15,[0,1,2]),(zM 17 0,[]),(qN 18 17,[4]),(qA 19 1 18,[4,5]),(qF 20 1 19,[4,5,6]),(zA 21 (.idxs (.t 16) (.t 20)),[0,1,2,3,4,5,6,7]),(zM 2 21,[0,1,2,3,4,5,6,7,8])] [2]) .ret)))
theorem K.bM:fE pZ 100 1 1 C.bM [.tmp 2]=true:=by kernel_rfl
def C.dZ:bD:=(.seq (.seq (.reg [zM 4 0,q1 5 100 4,zM 6 1,zA 7 (.bin .neq (.t 5) (.t 6))] [0,7]) (.cond (.t 7) (.seq (.reg [zM 8 0,qN 9 8,qA 10 2 9,zS (.store false 1 (.t 10) (kB true))] []) .ret) .skip)) (.reg [zM 11 0,zM 12 0,qN 13 12,qA 14 1 13,qF 15 1 14,zA 16 (.bin .add (.t 15) (kI 1)),qN 17 11,qA 18 1 17,qU 1 18 16] []))
theorem K.dZ:fE pZ 183 2 1 C.dZ []=true:=by kernel_rfl
def C.bf:bD:=(.seq (.reg [zA 2 (.mv (.k (.c (.str []))))] [0]) (.seq (.reg [zA 4 (.bslice 10 1 0 [.lit (.int .u8 0)] []),zM 3 4] [0,3]) (.seq (.reg [zM 5 0,⟨none,some 6,.call 183 [.t 5,.k (.c (.lit (.int .u8 34)))]⟩] [0,3]) (.seq (.block 0 (.loop (.seq (.seq (.reg [zM 7 0,qN 8 7,qA 9 2 8,qF 10 1 9,qO 11 10,zM 12 11,zG 12 true 13 (.mv (.t 0)),⟨(some (12,true)),some 14,.call 100 [.t 13]⟩,zG 12 true 15 (.bin .neq (.t 14) (.k (.c (.lit (.int .u8 34))))),qP 16 12 15] [0,3,16]) (.cond (.t 16) .skip (.exit 0))) (.block 1 (.cut (.seq (.reg [zM 17 0,q1 18 100 17,zA 19 (.bin .eql (.t 18) (.k (.c (.lit (.int .u8 92)))))] [0,3,19]) (.cond (.t 19) (.reg [zM 20 0,zM 21 0,qN 22 21,qA 23 1 22,qF 24 1 23,zA 25 (.bin .add (.t 24) (kI 1)),qN 26 20,qA 27 1 26,qU 1 27 25] [0,3]) .skip)) (.seq (.seq (.reg [zM 28 0,q1 29 100 28,zA 30 (.bin .eql (.t 29) (.k (.c (.lit (.int .u8 0)))))] [0,3,30]) (.cond (.t 30) (.seq (.reg [zM 31 0,qN 32 31,qA 33 2 32,zS (.store false 1 (.t 33) (kB true))] []) (.seq (.reg [zA 2 (.mv (.k (.c (.str []))))] [2]) .ret)) .skip)) (.seq (.reg [zM 34 3,zM 35 0,q1 36 100 35,zA 37 (.bslice 11 1 1 [.lit (.int .u8 0)] [(0,.t 36)]),zA 38 (.append 12 1 1 (.t 34) (.t 37)),zM 3 38] [0,3]) (.reg [zM 39 0,zM 40 0,qN 41 40,qA 42 1 41,qF 43 1 42,zA 44 (.bin .add (.t 43) (kI 1)),qN 45 39,qA 46 1 45,qU 1 46 44] [0,3])))))))) (.seq (.reg [zM 47 0,⟨none,some 48,.call 183 [.t 47,.k (.c (.lit (.int .u8 34)))]⟩] [3]) (.seq (.reg [zM 49 3,zA 50 (.cstr (.t 49)),zM 2 50] [2]) .ret))))))
theorem K.bf:fE pZ 147 1 1 C.bf [.tmp 2]=true:=by kernel_rfl
def C.bz:bD:=(.seq (.reg [qI 2 0] [0]) (.seq (.reg [qI 3 0] [0,3]) (.seq (.reg [qI 4 1] [0,3,4]) (.cut (.seq (.reg [zM 6 0,q1 7 100 6,zA 8 (.bin .eql (.t 7) (.k (.c (.lit (.int .u8 45)))))] [0,3,4,8]) (.cond (.t 8) (.seq (.reg [qI 4 (-1)] [0,3,4]) (.reg [zM 9 0,zM 10 0,qN 11 10,qA 12 1 11,qF 13 1 12,zA 14 (.bin .add (.t 13) (kI 1)),qN 15 9,qA 16 1 15,qU 1 16 14] [0,3,4])) .skip)) (.seq (.seq (.reg [qI 5 0] [0,3,4,5]) (.block 0 (.loop (.seq (.seq (.reg [zM 17 5,zA 18 (.bin .lss (.t 17) (kI 7)),zM 19 18,zG 19 true 20 (.mv (.t 0)),⟨(some (19,true)),some 21,.call 100 [.t 20]⟩,zG 19 true 22 (.cint .i64 (.t 21)),⟨(some (19,true)),some 23,.call 78 [.t 22,kI 48,kI 57]⟩,qP 24 19 23] [0,3,4,5,24]) (.cond (.t 24) .skip (.exit 0))) (.seq (.block 1 (.seq (.reg [zM 27 3,zA 28 (.bin .mul (kI 10) (.t 27)),zM 29 0,q1 30 100 29,zA 31 (.cint .i64 (.t 30)),zA 32 (.bin .add (.t 28) (.t 31)),zA 33 (.bin .sub (.t 32) (kI 48)),zM 3 33] [0,3,4,5]) (.reg [zM 34 0,zM 35 0,qN 36 35,qA 37 1 36,qF 38 1 37,zA 39 (.bin .add (.t 38) (kI 1)),qN 40 34,qA 41 1 40,qU 1 41 39] [0,3,4,5]))) (.reg [zM 25 5,zA 26 (.bin .add (.t 25) (kI 1)),zM 5 26] [0,3,4,5])))))) (.seq (.reg [zM 42 4,zM 43 3,zA 44 (.bin .mul (.t 42) (.t 43)),zM 2 44] [2]) .ret))))))
theorem K.bz:fE pZ 149 1 1 C.bz [.tmp 2]=true:=by kernel_rfl
def C.aI:bD:=(.seq (.reg [qX 5 10 1,qZ 8 11] [0,2,3,5,8]) (.seq (.reg [zA 11 (.bslice 12 1 0 [.str []] []),zM 9 11] [0,2,3,5,8,9]) (.seq (.reg [zA 12 (.bslice 13 5 0 [.lit (.int .i64 0),.lit (.int .i64 0),.str [],.sl 1 [],.sl 5 []] []),zM 10 12] [0,2,3,5,8,9,10]) (.seq (.reg [zM 13 0,zM 14 0,qN 15 14,qA 16 1 15,qF 17 1 16,zA 18 (.bin .add (.t 17) (kI 1)),qN 19 13,qA 20 1 19,qU 1 20 18] [0,2,3,5,8,9,10]) (.seq (.block 0 (.loop (.seq (.seq (.reg [zM 21 0,qN 22 21,qA 23 2 22,qF 24 1 23,qO 25 24,zM 26 25,zG 26 true 27 (.mv (.t 0)),⟨(some (26,true)),some 28,.call 100 [.t 27]⟩,zG 26 true 29 (.mv (.t 2)),zG 26 true 30 (.bin .neq (.t 28) (.t 29)),qP 31 26 30] [0,2,3,5,8,9,10,31]) (.cond (.t 31) .skip (.exit 0))) (.block 1 (.cut (.seq (.reg [zM 32 10,qL 33 32,zA 34 (.bin .gtr (.t 33) (kI 0))] [0,2,3,5,8,9,10,34]) (.cond (.t 34) (.reg [zM 35 0,⟨none,some 36,.call 183 [.t 35,.k (.c (.lit (.int .u8 44)))]⟩] [0,2,3,5,8,9,10]) .skip)) (.cut (.seq (.reg [qA 37 0 5,qF 38 1 37,zA 39 (.bin .eql (.t 38) (kI 4))] [0,2,3,5,8,9,10,39]) (.cond (.t 39) (.seq (.reg [zM 40 9,zM 41 0,q1 42 147 41,zA 43 (.bslice 14 1 1 [.str []] [(0,.t 42)]),zA 44 (.append 15 1 16 (.t 40) (.t 43)),zM 9 44] [0,2,3,5,8,9,10]) (.reg [zM 45 0,⟨none,some 46,.call 183 [.t 45,.k (.c (.lit (.int .u8 58)))]⟩] [0,2,3,5,8,9,10])) .skip)) (.reg [zM 47 10,zM 48 0,zM 49 3,zA 50 (.bin .sub (.t 49) (kI 1)),q2 51 98 48 50,zA 52 (.bslice 16 5 1 [.lit (.int .i64 0),.lit (.int .i64 0),.str [],.sl 1 [],.sl 5 []] [(0,.t 51)]),zA 53 (.append 17 5 80 (.t 47) (.t 52)),zM 10 53] [0,2,3,5,8,9,10]))))))) (.seq (.reg [zM 54 0,zM 55 2,q2 56 183 54 55] [5,8,9,10]) (.seq (.reg [qA 57 0 5,qF 58 1 57,zM 59 9,zM 60 10,zA 61 (.build zN [(0,1,.t 58),(3,1,.t 59),(4,1,.t 60)]),qS 5 8 61] [8]) .ret)))))))
theorem K.aI:fE pZ 148 4 1 C.aI [.cell 8 true 5]=true:=by kernel_rfl
def C.dY:bD:=(.seq (.reg [qZ 4 10] [0,1,4]) (.seq (.block 0 (.seq (.reg [zM 6 1,zA 7 (.bin .eql (.t 6) (kI 0)),zM 8 7,zG 8 false 9 (.mv (.t 0)),zG 8 false 10 (.nilck (.t 9)),zG 8 false 11 (.faddr 2 (.t 10)),zG 8 false 12 (.load false 1 (.t 11)),qQ 13 8 12,zM 5 13] [0,1,4,5]) (.cond (.t 5) (.seq (.reg [zM 14 0,qN 15 14,qA 16 2 15,zS (.store false 1 (.t 16) (kB true))] [4]) (.seq (.reg [zA 17 (.build zN []),qS 5 4 17] [4]) .ret)) (.seq (.reg [zM 19 0,q1 20 100 19,zA 21 (.bin .eql (.t 20) (.k (.c (.lit (.int .u8 34))))),zM 18 21] [0,1,4,18]) (.cond (.t 18) (.seq (.reg [zM 22 0,q1 23 147 22,zA 24 (.build zN [(0,1,kI 2),(2,1,.t 23)]),qS 5 4 24] [4]) .ret) (.seq (.reg [zM 26 0,q1 27 100 26,zA 28 (.bin .eql (.t 27) (.k (.c (.lit (.int .u8 91))))),zM 25 28] [0,1,4,25]) (.cond (.t 25) (.seq (.reg [zM 29 0,zA 30 (.build zN [(0,1,kI 3)]),zM 31 1,⟨none,some 32,.call 148 [.t 29,.t 30,.k (.c (.lit (.int .u8 93))),.t 31]⟩,qS 5 4 32] [4]) .ret) (.seq (.reg [zM 34 0,q1 35 100 34,zA 36 (.bin .eql (.t 35) (.k (.c (.lit (.int .u8 123))))),zM 33 36] [0,1,4,33]) (.cond (.t 33) (.seq (.reg [zM 37 0,zA 38 (.build zN [(0,1,kI 4)]),zM 39 1,⟨none,some 40,.call 148 [.t 37,.t 38,.k (.c (.lit (.int .u8 125))),.t 39]⟩,qS 5 4 40] [4]) .ret) (.seq (.reg [zM 42 0,q1 43 100 42,zA 44 (.bin .eql (.t 43) (.k (.c (.lit (.int .u8 110))))),zM 41 44] [0,4,41]) (.cond (.t 41) (.seq (.jQ [(zM 45 0,[]),(zM 46 0,[]),(qN 47 46,[1]),(qA 48 1 47,[1,2]),(qF 49 1 48,[1,2,3]),(zA 50 (.bin .add (.t 49) (kI 4)),[1,2,3,4]),(zM 51 0,[]),(qN 52 51,[6]),(qA 53 0 52,[6,7]),(qF 54 1 53,[6,7,8]),(zA 55 (.lens (.t 54)),[6,7,8,9]),(zA 56 (.min (.t 50) (.t 55)),[1,2,3,4,5,6,7,8,9,10]),(qN 57 45,[0,1,2,3,4,5,6,7,8,9,10,11]),(qA 58 1 57,[0,1,2,3,4,5,6,7,8,9,10,11,12]),(qU 1 58 56,[0,1,2,3,4,5,6,7,8,9,10,11,12,13])] [4]) (.seq (.reg [zA 59 (.build zN []),qS 5 4 59] [4]) .ret)) (.seq (.reg [zM 61 0,q1 62 100 61,zA 63 (.bin .eql (.t 62) (.k (.c (.lit (.int .u8 45))))),zM 64 63,zG 64 false 65 (.mv (.t 0)),⟨(some (64,false)),some 66,.call 100 [.t 65]⟩,zG 64 false 67 (.cint .i64 (.t 66)),⟨(some (64,false)),some 68,.call 78 [.t 67,kI 48,kI 57]⟩,qQ 69 64 68,zM 60 69] [0,4,60]) (.cond (.t 60) (.seq (.reg [zM 70 0,q1 71 149 70,zA 72 (.build zN [(0,1,kI 1),(1,1,.t 71)]),qS 5 4 72] [4]) .ret) .skip))))))))))))) (.seq (.reg [zM 73 0,qN 74 73,qA 75 2 74,zS (.store false 1 (.t 75) (kB true))] [4]) (.seq (.reg [zA 76 (.build zN []),qS 5 4 76] [4]) .ret))))
theorem K.dY:fE pZ 98 2 1 C.dY [.cell 4 true 5]=true:=by kernel_rfl
def C.iT:bD:=(.seq (.reg [qZ 2 10,qB 3 false] [0,2]) (.seq (.seq (.reg [zM 6 0,zA 7 (.lens (.t 6)),zA 8 (.bin .gtr (.t 7) (kI 2000))] [0,2,8]) (.cond (.t 8) (.seq (.reg [zA 9 (.build zN []),qS 5 2 9,qB 3 false] [2,3]) .ret) .skip)) (.seq (.reg [zM 10 0,zA 11 (.build [.c (.str []),jc 0,.c (.lit (.bool false))] [(0,1,.t 10)]),qX 12 11 11,zM 4 12] [0,2,4]) (.seq (.reg [zM 13 4,⟨none,some 14,.call 98 [.t 13,kI 5]⟩,qZ 5 12,qS 5 5 14] [0,2,4,5]) (.seq (.seq (.reg [zM 15 4,qN 16 15,qA 17 2 16,qF 18 1 17,zM 19 18,zG 19 false 20 (.load true 5 (.t 5)),⟨(some (19,false)),some 21,.call 35 [.t 20]⟩,zG 19 false 22 (.not (.t 21)),qQ 23 19 22,zM 24 23,zG 24 false 25 (.load true 5 (.t 5)),⟨(some (24,false)),some 26,.call 89 [.t 25]⟩,zG 24 false 27 (.mv (.t 0)),zG 24 false 28 (.bin .neq (.t 26) (.t 27)),qQ 29 24 28] [2,5,29]) (.cond (.t 29) (.seq (.reg [zA 30 (.build zN []),qS 5 2 30,qB 3 false] [2,3]) .ret) .skip)) (.seq (.reg [qT 31 5 5,qS 5 2 31,qB 3 true] [2,3]) .ret))))))
theorem K.iT:fE pZ 52 1 0 C.iT [.cell 2 true 5,.tmp 3]=true:=by kernel_rfl
def C.dJ:bD:=(.seq (.reg [zA 2 (.mv (.k (.nsl 1))),qB 3 false] [0]) (.seq (.reg [zA 6 (.bslice 10 1 0 [.str []] []),zM 4 6] [0,4]) (.seq (.seq (.reg [qI 5 0] [0,4,5]) (.block 0 (.loop (.seq (.seq (.reg [zM 7 5,zM 8 0,zA 9 (.lens (.t 8)),zA 10 (.bin .lss (.t 7) (.t 9)),zM 11 10,zG 11 true 12 (.mv (.t 4)),zG 11 true 13 (.len (.t 12)),zG 11 true 14 (.bin .leq (.t 13) (kI 4)),qP 15 11 14] [0,4,5,15]) (.cond (.t 15) .skip (.exit 0))) (.block 1 (.block 2 (.seq (.reg [zM 17 5,zA 18 (.bin .gtr (.t 17) (kI 0)),zM 19 18,zG 19 true 20 (.mv (.t 0)),zG 19 true 21 (.mv (.t 5)),zG 19 true 22 (.idxs (.t 20) (.t 21)),zG 19 true 23 (.bin .eql (.t 22) (.k (.c (.lit (.int .u8 44))))),qP 24 19 23,zM 16 24] [0,4,5,16]) (.cond (.t 16) (.reg [zM 25 5,zA 26 (.bin .add (.t 25) (kI 1)),zM 5 26] [0,4,5]) (.seq (.reg [zM 28 0,zM 29 5,zA 30 (.idxs (.t 28) (.t 29)),zA 31 (.bin .eql (.t 30) (.k (.c (.lit (.int .u8 42))))),zM 27 31] [0,4,5,27]) (.cond (.t 27) (.seq (.reg [zM 32 4,zA 33 (.bslice 11 1 1 [.str []] [(0,.k (.c (.str [42])))]),zA 34 (.append 12 1 16 (.t 32) (.t 33)),zM 4 34] [0,4,5]) (.reg [zM 35 5,zA 36 (.bin .add (.t 35) (kI 1)),zM 5 36] [0,4,5])) (.seq (.reg [zM 38 5,zA 39 (.bin .add (.t 38) (kI 6)),zM 40 0,zA 41 (.lens (.t 40)),zA 42 (.bin .leq (.t 39) (.t 41)),zM 37 42] [0,4,5,37]) (.cond (.t 37) (.seq (.reg [zM 43 4,zM 44 0,zM 45 5,zA 46 (.bin .add (.t 45) (kI 1)),zM 47 5,zA 48 (.bin .add (.t 47) (kI 5)),zA 49 (.slstr (.t 44) (some (.t 46)) (some (.t 48))),zA 50 (.bslice 13 1 1 [.str []] [(0,.t 49)]),zA 51 (.append 14 1 16 (.t 43) (.t 50)),zM 4 51] [0,4,5]) (.reg [zM 52 5,zA 53 (.bin .add (.t 52) (kI 6)),zM 5 53] [0,4,5])) (.seq (.reg [zA 2 (.mv (.k (.nsl 1))),qB 3 false] [2,3]) .ret))))))))))))) (.seq (.seq (.reg [zM 54 4,q1 55 88 54,zM 56 0,zA 57 (.bin .neq (.t 55) (.t 56)),zM 58 57,zG 58 false 59 (.mv (.t 4)),⟨(some (58,false)),some 60,.call 80 [.t 59]⟩,zG 58 false 61 (.not (.t 60)),qQ 62 58 61] [4,62]) (.cond (.t 62) (.seq (.reg [zA 2 (.mv (.k (.nsl 1))),qB 3 false] [2,3]) .ret) .skip)) (.seq (.reg [zM 63 4,zM 2 63,qB 3 true] [2,3]) .ret)))))
theorem K.dJ:fE pZ 50 1 0 C.dJ [.tmp 2,.tmp 3]=true:=by kernel_rfl
def C.iU:bD:=(.seq (.reg [zA 2 (.mv (.k (.c (.str [])))),zA 3 (.mv (.k (.c (.str []))))] [0]) (.seq (.seq (.reg [qI 4 0] [0,4]) (.block 0 (.loop (.seq (.seq (.reg [zM 5 4,zM 6 0,zA 7 (.lens (.t 6)),zA 8 (.bin .lss (.t 5) (.t 7))] [0,4,8]) (.cond (.t 8) .skip (.exit 0))) (.seq (.block 1 (.seq (.reg [zM 11 0,zM 12 4,zA 13 (.idxs (.t 11) (.t 12)),zA 14 (.bin .eql (.t 13) (.k (.c (.lit (.int .u8 32)))))] [0,4,14]) (.cond (.t 14) (.seq (.jQ [(zM 15 0,[]),(zM 16 4,[]),(zA 17 (.slstr (.t 15) none (some (.t 16))),[0,1]),(zM 18 0,[]),(zM 19 4,[]),(zA 20 (.bin .add (.t 19) (kI 1)),[4]),(zA 21 (.slstr (.t 18) (some (.t 20)) none),[3,4,5]),(zM 2 17,[0,1,2]),(zM 3 21,[0,1,2,3,4,5,6,7])] [2,3]) .ret) .skip))) (.reg [zM 9 4,zA 10 (.bin .add (.t 9) (kI 1)),zM 4 10] [0,4])))))) (.seq (.reg [zM 22 0,zM 2 22,zA 3 (.mv (.k (.c (.str []))))] [2,3]) .ret)))
theorem K.iU:fE pZ 48 1 0 C.iU [.tmp 2,.tmp 3]=true:=by kernel_rfl
def C.gJ:bD:=(.seq (.reg [qX 1 10 0,zA 2 (.mv (.k (.nsl 1)))] [1]) (.seq (.reg [zA 5 (.bslice 11 1 0 [.str []] []),zM 3 5] [1,3]) (.seq (.seq (.reg [qI 4 0] [1,3,4]) (.block 0 (.loop (.seq (.seq (.reg [zM 6 4,qA 7 4 1,qF 8 1 7,qL 9 8,zA 10 (.bin .lss (.t 6) (.t 9))] [1,3,4,10]) (.cond (.t 10) .skip (.exit 0))) (.seq (.block 1 (.reg [zM 13 3,qA 14 4 1,qF 15 1 14,zM 16 4,qD 17 5 15 16,qA 18 2 17,qF 19 1 18,zA 20 (.bslice 12 1 1 [.str []] [(0,.t 19)]),zA 21 (.append 13 1 16 (.t 13) (.t 20)),zM 3 21] [1,3,4])) (.reg [zM 11 4,zA 12 (.bin .add (.t 11) (kI 1)),zM 4 12] [1,3,4])))))) (.seq (.reg [zM 22 3,zM 2 22] [2]) .ret))))
theorem K.gJ:fE pZ 150 1 0 C.gJ [.tmp 2]=true:=by kernel_rfl
def C.fZ:bD:=(.seq (.reg [qI 2 0] [0]) (.seq (.seq (.reg [zM 3 0] [3]) (.cond (.t 3) (.seq (.reg [qI 2 1] [2]) .ret) .skip)) (.seq (.reg [qI 2 0] [2]) .ret)))
theorem K.fZ:fE pZ 245 1 0 C.fZ [.tmp 2]=true:=by kernel_rfl
def C.iP:bD:=(.seq (.reg [qI 4 0] [0,1]) (.seq (.reg [zM 5 0,zM 6 1,zA 7 (.bin .gtr (.t 5) (.t 6)),q1 8 245 7,zM 9 0,zM 10 1,zA 11 (.bin .lss (.t 9) (.t 10)),q1 12 245 11,zA 13 (.bin .sub (.t 8) (.t 12)),zM 4 13] [4]) .ret))
theorem K.iP:fE pZ 219 2 0 C.iP [.tmp 4]=true:=by kernel_rfl
def C.iw:bD:=(.seq (.reg [qI 4 0] [0,1]) (.seq (.reg [zM 5 0,zM 6 1,zA 7 (.bin .gtr (.t 5) (.t 6)),q1 8 245 7,zM 9 0,zM 10 1,zA 11 (.bin .lss (.t 9) (.t 10)),q1 12 245 11,zA 13 (.bin .sub (.t 8) (.t 12)),zM 4 13] [4]) .ret))
theorem K.iw:fE pZ 220 2 0 C.iw [.tmp 4]=true:=by kernel_rfl
def C.dw:bD:=(.seq (.reg [qX 2 10 0,qX 3 11 1,qI 4 0] [2,3]) (.seq (.seq (.reg [qA 7 0 2,qF 8 1 7,qA 9 0 3,qF 10 1 9,zA 11 (.bin .neq (.t 8) (.t 10))] [2,3,11]) (.cond (.t 11) (.seq (.reg [qA 12 0 2,qF 13 1 12,qA 14 0 3,qF 15 1 14,q2 16 219 13 15,zM 4 16] [4]) .ret) .skip)) (.seq (.seq (.reg [qA 17 1 2,qF 18 1 17,qA 19 1 3,qF 20 1 19,zA 21 (.bin .neq (.t 18) (.t 20))] [2,3,21]) (.cond (.t 21) (.seq (.reg [qA 22 1 2,qF 23 1 22,qA 24 1 3,qF 25 1 24,q2 26 219 23 25,zM 4 26] [4]) .ret) .skip)) (.seq (.seq (.reg [qA 27 2 2,qF 28 1 27,qA 29 2 3,qF 30 1 29,zA 31 (.bin .neq (.t 28) (.t 30))] [2,3,31]) (.cond (.t 31) (.seq (.reg [qA 32 2 2,qF 33 1 32,qA 34 2 3,qF 35 1 34,q2 36 220 33 35,zM 4 36] [4]) .ret) .skip)) (.seq (.seq (.reg [qI 5 0] [2,3,5]) (.block 0 (.loop (.seq (.seq (.reg [zM 37 5,qA 38 4 2,qF 39 1 38,qL 40 39,zA 41 (.bin .lss (.t 37) (.t 40)),zM 42 41,zG 42 true 43 (.mv (.t 5)),zG 42 true 44 (.faddr 4 (.t 3)),zG 42 true 45 (.load false 1 (.t 44)),zG 42 true 46 (.len (.t 45)),zG 42 true 47 (.bin .lss (.t 43) (.t 46)),qP 48 42 47] [2,3,5,48]) (.cond (.t 48) .skip (.exit 0))) (.seq (.block 1 (.seq (.seq (.jQ [(qA 51 0 2,[]),(qF 52 1 51,[0]),(zA 53 (.bin .eql (.t 52) (kI 4)),[0,1]),(zM 54 53,[0,1,2]),(zG 54 true 55 (.faddr 3 (.t 2)),[0,1,2,3]),(zG 54 true 56 (.load false 1 (.t 55)),[0,1,2,3,4]),(zG 54 true 57 (.mv (.t 5)),[0,1,2,3]),(zG 54 true 58 (.iaddr 1 (.t 56) (.t 57)),[0,1,2,3,4,5,6]),(zG 54 true 59 (.load false 1 (.t 58)),[0,1,2,3,4,5,6,7]),(zG 54 true 60 (.faddr 3 (.t 3)),[0,1,2,3]),(zG 54 true 61 (.load false 1 (.t 60)),[0,1,2,3,9]),(zG 54 true 62 (.mv (.t 5)),[0,1,2,3]),(zG 54 true 63 (.iaddr 1 (.t 61) (.t 62)),[0,1,2,3,9,10,11]),(zG 54 true 64 (.load false 1 (.t 63)),[0,1,2,3,9,10,11,12]),(zG 54 true 65 (.bin .neq (.t 59) (.t 64)),[0,1,2,3,4,5,6,7,8,9,10,11,12,13]),(qP 66 54 65,[0,1,2,3,4,5,6,7,8,9,10,11,12,13,14])] [2,3,5,66]) (.cond (.t 66) (.seq (.jQ [(qA 67 3 2,[]),(qF 68 1 67,[0]),(zM 69 5,[]),(qD 70 1 68 69,[0,1,2]),(qF 71 1 70,[0,1,2,3]),(qA 72 3 3,[]),(qF 73 1 72,[5]),(zM 74 5,[]),(qD 75 1 73 74,[5,6,7]),(qF 76 1 75,[5,6,7,8]),(q2 77 220 71 76,[0,1,2,3,4,5,6,7,8,9]),(zM 4 77,[0,1,2,3,4,5,6,7,8,9,10])] [4]) .ret) .skip)) (.seq (.jQ [(qA 78 4 2,[]),(qF 79 1 78,[0]),(zM 80 5,[]),(qD 81 5 79 80,[0,1,2]),(qT 82 5 81,[0,1,2,3]),(qA 83 4 3,[]),(qF 84 1 83,[5]),(zM 85 5,[]),(qD 86 5 84 85,[5,6,7]),(qT 87 5 86,[5,6,7,8]),(q2 88 184 82 87,[0,1,2,3,4,5,6,7,8,9]),(zM 6 88,[0,1,2,3,4,5,6,7,8,9,10])] [2,3,5,6]) (.seq (.reg [zM 89 6,zA 90 (.bin .neq (.t 89) (kI 0))] [2,3,5,6,90]) (.cond (.t 90) (.seq (.reg [zM 91 6,zM 4 91] [4]) .ret) .skip))))) (.reg [zM 49 5,zA 50 (.bin .add (.t 49) (kI 1)),zM 5 50] [2,3,5])))))) (.seq (.reg [qA 92 4 2,qF 93 1 92,qL 94 93,qA 95 4 3,qF 96 1 95,qL 97 96,q2 98 219 94 97,zM 4 98] [4]) .ret))))))
theorem K.dw:fE pZ 184 2 0 C.dw [.tmp 4]=true:=by kernel_rfl
def C.kM:bD:=(.seq (.reg [qX 2 10 0,qX 3 11 1,qB 4 false] [2,3]) (.seq (.reg [qT 5 5 2,qT 6 5 3,q2 7 184 5 6,zA 8 (.bin .eql (.t 7) (kI 0)),zM 4 8] [4]) .ret))
theorem K.kM:fE pZ 151 2 0 C.kM [.tmp 4]=true:=by kernel_rfl
def C.fH:bD:=(.seq (.reg [qX 1 10 0,zA 2 (.alloc 11 [jc 0,.nsl 1,.nsl 1,jc 0,jc 0,.c (.str []),.nsl 1,.nsl 5]),qB 3 false] [1,2]) (.seq (.seq (.reg [qT 8 5 1,q1 9 35 8,qO 10 9,zM 11 10,zG 11 false 12 (.faddr 0 (.t 1)),zG 11 false 13 (.load false 1 (.t 12)),zG 11 false 14 (.bin .neq (.t 13) (kI 4)),qQ 15 11 14,zM 16 15,zG 16 false 17 (.faddr 4 (.t 1)),zG 16 false 18 (.load false 1 (.t 17)),zG 16 false 19 (.len (.t 18)),zG 16 false 20 (.bin .neq (.t 19) (kI 4)),qQ 21 16 20] [1,2,21]) (.cond (.t 21) (.seq (.reg [zA 22 (.build [jc 0,.nsl 1,.nsl 1,jc 0,jc 0,.c (.str []),.nsl 1,.nsl 5] []),qS 8 2 22,qB 3 false] [2,3]) .ret) .skip)) (.seq (.reg [⟨none,some 23,.call 86 []⟩,zM 4 23] [1,2,4]) (.seq (.reg [qI 5 0] [1,2,4,5]) (.seq (.seq (.reg [qI 6 1] [1,2,4,5,6]) (.block 0 (.loop (.seq (.seq (.reg [zM 24 6,zM 25 4,qL 26 25,zA 27 (.bin .lss (.t 24) (.t 26))] [1,2,4,5,6,27]) (.cond (.t 27) .skip (.exit 0))) (.seq (.block 1 (.seq (.jQ [(qA 30 4 1,[]),(qF 31 1 30,[0]),(zA 32 (.iaddr 5 (.t 31) (kI 1)),[0,1]),(qA 33 2 32,[0,1,2]),(qF 34 1 33,[0,1,2,3]),(zM 35 4,[]),(zM 36 6,[]),(qD 37 1 35 36,[5,6]),(qF 38 1 37,[5,6,7]),(zA 39 (.bin .eql (.t 34) (.t 38)),[0,1,2,3,4,5,6,7,8])] [1,2,4,5,6,39]) (.cond (.t 39) (.reg [zM 40 6,zM 5 40] [1,2,4,5,6]) .skip))) (.reg [zM 28 6,zA 29 (.bin .add (.t 28) (kI 1)),zM 6 29] [1,2,4,5,6])))))) (.seq (.jQ [(zM 41 5,[]),(qA 42 4 1,[]),(qF 43 1 42,[1]),(zA 44 (.iaddr 5 (.t 43) (kI 2)),[1,2]),(qT 45 5 44,[1,2,3]),(q1 46 150 45,[1,2,3,4]),(qA 47 4 1,[]),(qF 48 1 47,[6]),(zA 49 (.iaddr 5 (.t 48) (kI 0)),[6,7]),(qT 50 5 49,[6,7,8]),(q1 51 150 50,[1,2,3,4,5,6,7,8,9]),(qA 52 4 1,[]),(qF 53 1 52,[11]),(zA 54 (.iaddr 5 (.t 53) (kI 3)),[11,12]),(qT 55 5 54,[11,12,13]),(q1 56 87 55,[1,2,3,4,5,6,7,8,9,10,11,12,13,14]),(zA 57 (.build [jc 0,.nsl 1,.nsl 1,jc 0,jc 0,.c (.str []),.nsl 1,.nsl 5] [(0,1,.t 41),(1,1,.t 46),(2,1,.t 51),(3,5,.t 56)]),[0,1,2,3,4,5,6,7,8,9,10,11,12,13,14,15]),(zA 7 (.alloc 12 [jc 0,.nsl 1,.nsl 1,jc 0,jc 0,.c (.str []),.nsl 1,.nsl 5]),[]),(qS 8 7 57,[0,1,2,3,4,5,6,7,8,9,10,11,12,13,14,15,16,17])] [1,2,7]) (.seq (.seq (.jQ [(qT 58 8 7,[]),(q1 59 131 58,[0]),(qO 60 59,[0,1]),(zM 61 60,[0,1,2]),(zG 61 false 62 (.load true 8 (.t 7)),[0,1,2,3]),(⟨(some (61,false)),some 63,.call 36 [.t 62]⟩,[0,1,2,3,4]),(zG 61 false 64 (.load true 5 (.t 1)),[0,1,2,3]),(⟨(some (61,false)),some 65,.call 151 [.t 63,.t 64]⟩,[0,1,2,3,4,5,6]),(zG 61 false 66 (.not (.t 65)),[0,1,2,3,4,5,6,7]),(qQ 67 61 66,[0,1,2,3,4,5,6,7,8])] [2,7,67]) (.cond (.t 67) (.seq (.reg [zA 68 (.build [jc 0,.nsl 1,.nsl 1,jc 0,jc 0,.c (.str []),.nsl 1,.nsl 5] []),qS 8 2 68,qB 3 false] [2,3]) .ret) .skip)) (.seq (.reg [qT 69 8 7,qS 8 2 69,qB 3 true] [2,3]) .ret))))))))
theorem K.fH:fE pZ 99 1 0 C.fH [.cell 2 true 8,.tmp 3]=true:=by kernel_rfl
def C.gp:bD:=(.seq (.reg [zA 2 (.mv (.k (.nsl 8))),qB 3 false] [0]) (.seq (.reg [zA 9 (.bslice 10 8 0 [.lit (.int .i64 0),.sl 1 [],.sl 1 [],.lit (.int .i64 0),.lit (.int .i64 0),.str [],.sl 1 [],.sl 5 []] []),zM 4 9] [0,4]) (.seq (.block 0 (.loop (.seq (.seq (.reg [zM 10 0,zA 11 (.lens (.t 10)),zA 12 (.bin .gtr (.t 11) (kI 0)),zM 13 12,zG 13 true 14 (.mv (.t 4)),zG 13 true 15 (.len (.t 14)),zG 13 true 16 (.bin .leq (.t 15) (kI 12)),qP 17 13 16] [0,4,17]) (.cond (.t 17) .skip (.exit 0))) (.block 1 (.seq (.reg [zM 18 0,zA 19 (.build [.c (.str []),jc 0,.c (.lit (.bool false))] [(0,1,.t 18)]),qX 20 11 19,zM 5 20] [0,4,5]) (.seq (.reg [zM 21 5,⟨none,some 22,.call 98 [.t 21,kI 5]⟩,qZ 6 12,qS 5 6 22] [0,4,5,6]) (.seq (.reg [qT 24 5 6,q1 25 99 24,zM 23 25,qE 26 23 0,qE 27 23 1,zA 7 (.alloc 13 [jc 0,.nsl 1,.nsl 1,jc 0,jc 0,.c (.str []),.nsl 1,.nsl 5]),qS 8 7 26,zM 8 27] [0,4,5,7,8]) (.seq (.seq (.reg [zM 28 5,qN 29 28,qA 30 2 29,qF 31 1 30,zM 32 31,zG 32 false 33 (.mv (.t 8)),zG 32 false 34 (.not (.t 33)),qQ 35 32 34,zM 36 35,zG 36 false 37 (.mv (.t 5)),⟨(some (36,false)),some 38,.call 100 [.t 37]⟩,zG 36 false 39 (.bin .neq (.t 38) (.k (.c (.lit (.int .u8 59))))),qQ 40 36 39] [0,4,5,7,40]) (.cond (.t 40) (.seq (.reg [zA 2 (.mv (.k (.nsl 8))),qB 3 false] [2,3]) .ret) .skip)) (.seq (.reg [zM 41 4,qT 42 8 7,zA 43 (.bslice 14 8 1 [.lit (.int .i64 0),.sl 1 [],.sl 1 [],.lit (.int .i64 0),.lit (.int .i64 0),.str [],.sl 1 [],.sl 5 []] [(0,.t 42)]),zA 44 (.append 15 8 136 (.t 41) (.t 43)),zM 4 44] [0,4,5]) (.reg [zM 45 0,zM 46 5,qN 47 46,qA 48 1 47,qF 49 1 48,zA 50 (.bin .add (.t 49) (kI 1)),zA 51 (.slstr (.t 45) (some (.t 50)) none),zM 0 51] [0,4])))))))))) (.seq (.reg [zM 52 4,zM 2 52,qB 3 true] [2,3]) .ret))))
theorem K.gp:fE pZ 51 1 0 C.gp [.tmp 2,.tmp 3]=true:=by kernel_rfl
def C.bK:bD:=(.seq (.reg [zA 2 (.alloc 10 [jc 0,.c (.str []),.nsl 1,.nsl 1,jc 0,jc 0,.c (.str []),.nsl 1,.nsl 5,.nsl 8]),qB 3 false] [0,2]) (.seq (.seq (.reg [zM 20 0,zA 21 (.lens (.t 20)),zA 22 (.bin .gtr (.t 21) (kI 2000))] [0,2,22]) (.cond (.t 22) (.seq (.reg [zA 23 (.build [jc 0,.c (.str []),.nsl 1,.nsl 1,jc 0,jc 0,.c (.str []),.nsl 1,.nsl 5,.nsl 8] []),qS 10 2 23,qB 3 false] [2,3]) .ret) .skip)) (.seq (.reg [zM 25 0,q1 26 48 25,zM 24 26,qE 27 24 0,qE 28 24 1,zM 4 27,zM 5 28] [0,2,4,5]) (.seq (.reg [zM 30 5,q1 31 48 30,zM 29 31,qE 32 29 0,qE 33 29 1,zM 6 32,zM 7 33] [0,2,4,6,7]) (.seq (.reg [zM 35 7,q1 36 48 35,zM 34 36,qE 37 34 0,qE 38 34 1,zM 8 37,zM 9 38] [0,2,4,6,8,9]) (.seq (.reg [zM 40 9,q1 41 48 40,zM 39 41,qE 42 39 0,qE 43 39 1,zM 10 42,zM 11 43] [0,2,4,6,8,10,11]) (.seq (.reg [zM 44 6,zA 45 (.bslice 11 1 0 [.str []] []),zA 46 (.bslice 12 1 0 [.str []] []),zA 47 (.bslice 13 8 0 [.lit (.int .i64 0),.sl 1 [],.sl 1 [],.lit (.int .i64 0),.lit (.int .i64 0),.str [],.sl 1 [],.sl 5 []] []),zA 48 (.build [jc 0,.c (.str []),.nsl 1,.nsl 1,jc 0,jc 0,.c (.str []),.nsl 1,.nsl 5,.nsl 8] [(1,1,.t 44),(2,1,.t 45),(3,1,.t 46),(9,1,.t 47)]),zA 12 (.alloc 14 [jc 0,.c (.str []),.nsl 1,.nsl 1,jc 0,jc 0,.c (.str []),.nsl 1,.nsl 5,.nsl 8]),qS 10 12 48] [0,2,4,8,10,11,12]) (.seq (.reg [⟨none,some 49,.call 49 []⟩,zM 13 49] [0,2,4,8,10,11,12,13]) (.seq (.seq (.reg [qI 14 1] [0,2,4,8,10,11,12,13,14]) (.block 0 (.loop (.seq (.seq (.reg [zM 50 14,zM 51 13,qL 52 51,zA 53 (.bin .lss (.t 50) (.t 52))] [0,2,4,8,10,11,12,13,14,53]) (.cond (.t 53) .skip (.exit 0))) (.seq (.block 1 (.seq (.reg [zM 56 13,zM 57 14,qD 58 1 56 57,qF 59 1 58,zM 60 4,zA 61 (.bin .eql (.t 59) (.t 60))] [0,2,4,8,10,11,12,13,14,61]) (.cond (.t 61) (.reg [zM 62 14,qA 63 0 12,qU 1 63 62] [0,2,4,8,10,11,12,13,14]) .skip))) (.reg [zM 54 14,zA 55 (.bin .add (.t 54) (kI 1)),zM 14 55] [0,2,4,8,10,11,12,13,14])))))) (.seq (.reg [zM 65 8,q1 66 50 65,zM 64 66,qE 67 64 0,qE 68 64 1,zM 15 67,zM 16 68] [0,2,10,11,12,15,16]) (.seq (.reg [zM 70 10,q1 71 50 70,zM 69 71,qE 72 69 0,qE 73 69 1,zM 17 72,zM 18 73] [0,2,11,12,15,16,17,18]) (.seq (.reg [qB 19 true] [0,2,11,12,15,16,17,18]) (.cut (.seq (.reg [qA 74 0 12,qF 75 1 74,zA 76 (.bin .eql (.t 75) (kI 4))] [0,2,11,12,15,16,17,18,76]) (.cond (.t 76) (.reg [zM 78 11,q1 79 51 78,zM 77 79,qE 80 77 0,qE 81 77 1,qA 82 9 12,qU 1 82 80,zM 19 81] [0,2,12,15,16,17,18,19]) (.reg [zM 84 11,q1 85 52 84,zM 83 85,qE 86 83 0,qE 87 83 1,qA 88 4 12,qS 5 88 86,zM 19 87] [0,2,12,15,16,17,18,19]))) (.seq (.reg [zM 89 15,qA 90 2 12,qU 1 90 89] [0,2,12,16,17,18,19]) (.seq (.reg [zM 91 17,qA 92 3 12,qU 1 92 91] [0,2,12,16,18,19]) (.seq (.seq (.reg [zM 93 16,qO 94 93,zM 95 94,zG 95 false 96 (.mv (.t 18)),zG 95 false 97 (.not (.t 96)),qQ 98 95 97,zM 99 98,zG 99 false 100 (.mv (.t 19)),zG 99 false 101 (.not (.t 100)),qQ 102 99 101,zM 103 102,zG 103 false 104 (.load true 10 (.t 12)),⟨(some (103,false)),some 105,.call 12 [.t 104]⟩,zG 103 false 106 (.mv (.t 0)),zG 103 false 107 (.bin .neq (.t 105) (.t 106)),qQ 108 103 107,zM 109 108,zG 109 false 110 (.mv (.t 0)),zG 109 false 111 (.bin .eql (.t 110) (.k (.c (.str [])))),qQ 112 109 111] [2,12,112]) (.cond (.t 112) (.seq (.reg [zA 113 (.build [jc 0,.c (.str []),.nsl 1,.nsl 1,jc 0,jc 0,.c (.str []),.nsl 1,.nsl 5,.nsl 8] []),qS 10 2 113,qB 3 false] [2,3]) .ret) .skip)) (.seq (.reg [qT 114 10 12,qS 10 2 114,qB 3 true] [2,3]) .ret)))))))))))))))))
theorem K.bK:fE pZ 16 1 0 C.bK [.cell 2 true 10,.tmp 3]=true:=by kernel_rfl
def C.gu:bD:=(.seq (.reg [qB 2 false] [0]) (.seq (.seq (.reg [zM 8 0,qL 9 8,zA 10 (.bin .gtr (.t 9) (kI 1048576))] [0,10]) (.cond (.t 10) (.seq (.reg [qB 2 true] [2]) .ret) .skip)) (.seq (.reg [zM 11 0,q1 12 15 11,zM 3 12] [3]) (.seq (.reg [zM 14 3,q1 15 13 14,zM 13 15,qE 16 13 0,qE 17 13 1,zA 4 (.alloc 10 [jc 0,.c (.str []),.nsl 1,.nsl 1,jc 0,jc 0,.c (.str []),.nsl 1,.nsl 5,.nsl 8]),qS 10 4 16,zM 5 17] [3,4,5]) (.seq (.reg [zM 19 3,q1 20 16 19,zM 18 20,qE 21 18 0,qE 22 18 1,zA 6 (.alloc 11 [jc 0,.c (.str []),.nsl 1,.nsl 1,jc 0,jc 0,.c (.str []),.nsl 1,.nsl 5,.nsl 8]),qS 10 6 21,zM 7 22] [3,4,5,6,7]) (.seq (.seq (.reg [qT 23 10 4,qT 24 10 6,q2 25 14 23 24,qO 26 25,zM 27 26,zG 27 false 28 (.mv (.t 5)),zG 27 false 29 (.mv (.t 7)),zG 27 false 30 (.beq true (.t 28) (.t 29)),qQ 31 27 30] [3,4,5,31]) (.cond (.t 31) (.seq (.reg [qB 2 false] [2]) .ret) .skip)) (.seq (.reg [zM 32 5,qO 33 32,zM 34 33,zG 34 false 35 (.load true 10 (.t 4)),⟨(some (34,false)),some 36,.call 11 [.t 35]⟩,zG 34 false 37 (.mv (.t 3)),zG 34 false 38 (.bin .eql (.t 36) (.t 37)),qQ 39 34 38,zM 2 39] [2]) .ret)))))))
theorem K.gu:fE pZ 4 1 0 C.gu [.tmp 2]=true:=by kernel_rfl
end Go.Ab
end
section
namespace Go.Ab
open Go
section
variable {α β:Type} {g g':Nat->Option α} {r s:α}
theorem Ev.uniq (h:Ev g r) (k:Ev g s):r=s:=by
 obtain ⟨N,h⟩:=h
 obtain ⟨M,k⟩:=k
 have e:=h (max N M) (by omega)
 rw [k (max N M) (by omega)] at e
 exact (Option.some.inj e).symm
end
end Go.Ab
end
section
namespace Go.Ab
open Go
theorem T.fZ (b:Bool):Ev (fun f=>G.fZ f b) (if b then 1 else 0):=by
 refine Ev.up ?_
 simp only [G.fZ]
 cases b
 ·exact Ev.ret _
 ·exact Ev.ret _
theorem T.iP (a b:Int):∃ r,Ev (fun f=>G.iP f a b) r/\(r=0<->a=b):=by
 by_cases h:a<b
 ·refine ⟨-1,Ev.up ?_,by omega⟩
  simp only [G.iP]
  rw [show decide (b<a)=false by simp; omega,show decide (a<b)=true by simpa using h]
  exact Ev.bind (T.fZ _) (Ev.bind (T.fZ _) (Ev.ret _))
 ·by_cases k:b<a
  ·refine ⟨1,Ev.up ?_,by omega⟩
   simp only [G.iP]
   rw [show decide (a<b)=false by simp; omega,show decide (b<a)=true by simpa using k]
   exact Ev.bind (T.fZ _) (Ev.bind (T.fZ _) (Ev.ret _))
  ·refine ⟨0,Ev.up ?_,by omega⟩
   simp only [G.iP]
   rw [show decide (a<b)=false by simp; omega,show decide (b<a)=false by simp; omega]
   exact Ev.bind (T.fZ _) (Ev.bind (T.fZ _) (Ev.ret _))
theorem T.iw (a b:aA) (hne:a ≠ b):∃ r,Ev (fun f=>G.iw f a b) r/\r ≠ 0:=by
  cases h:bl a b with
  | true =>
    refine ⟨-1,Ev.up ?_,by omega⟩
    simp only [G.iw]
    exact Ev.ct h (Ev.bind (T.fZ _) (Ev.bind (T.fZ _) (Ev.ret _)))
  | false =>
    refine ⟨1,Ev.up ?_,by omega⟩
    simp only [G.iw]
    exact Ev.cf h (Ev.cf (by simpa using hne) (Ev.bind (T.fZ _) (Ev.bind (T.fZ _) (Ev.ret _))))
def sU (a b:af) (i:Nat):Prop:=a.Kids.drop i=b.Kids.drop i/\(a.Kind=4->a.Names.drop i=b.Names.drop i)
theorem Eb {a b:af} {i:Nat} (ha:i<a.Kids.length) (hb:i<b.Kids.length) (h4:a.Kind=4->i<a.Names.length/\i<b.Names.length) :
  sU a b i<->((a.Kind=4->a.Names.getD i default=b.Names.getD i default)/\a.Kids.getD i default=b.Kids.getD i default/\sU a b (i+1)):=by
 unfold sU
 rw [aY (default:af) ha,aY (default:af) hb,List.cons.injEq]
 by_cases hk:a.Kind=4
 ·obtain ⟨n1,n2⟩:=h4 hk
  rw [aY (default:aA) n1,aY (default:aA) n2,List.cons.injEq]
  simp only [hk,true_implies]
  constructor
  ·rintro ⟨⟨x,y⟩,z,w⟩; exact ⟨z,x,y,w⟩
  ·rintro ⟨z,x,y,w⟩; exact ⟨⟨x,y⟩,z,w⟩
 ·simp only [hk,false_implies,and_true,true_and]
theorem T.dw.L1 {d e:Nat} {a b:af} (ha:Shape (d+1) a=true) (hb:Shape (e+1) b=true) (hk:a.Kind=b.Kind)
    (hs:∀ x y,x∈a.Kids->y∈b.Kids->∃ r,Ev (fun f=>G.dw f x y) r/\(r=0<->x=y)) :
    ∀ (k i:Nat),a.Kids.length<=i+k->i<=a.Kids.length->i<=b.Kids.length->∃ r,Ev (fun f=>G.dw.L1 f a b i) r/\(r=0<->sU a b i):=by
  have la:=nK ha
  have lb:=nK hb
  have tail:∀ i,i<=a.Kids.length->i<=b.Kids.length->(i=a.Kids.length\/i=b.Kids.length)->∃ r,Ev (fun f=>Option.bind (G.iP f ((a.Kids.length:Nat):Int) ((b.Kids.length:Nat):Int)) fun v=>some v) r/\(r=0<->sU a b i):=by
    intro i h1 h2 h3
    obtain ⟨r,g,hr⟩:=T.iP ((a.Kids.length:Nat):Int) ((b.Kids.length:Nat):Int)
    refine ⟨r,Ev.bind g (Ev.ret _),hr.trans ⟨fun hl => ?_,fun hE => ?_⟩⟩
    · have hl:a.Kids.length=b.Kids.length:=by omega
      refine ⟨by rw [List.drop_of_length_le (by omega),List.drop_of_length_le (by omega)],fun h4 => ?_⟩
      have n1:=nV ha h4
      have n2:=nV hb (hk ▸ h4)
      rw [List.drop_of_length_le (by omega),List.drop_of_length_le (by omega)]
    · have:=congrArg List.length hE.1
      simp only [List.length_drop] at this
      omega
  intro k
  induction k with
  | zero =>
    intro i h1 h2 h3
    obtain ⟨r,g,hr⟩:=tail i h2 h3 (by omega)
    refine ⟨r,Ev.up ?_,hr⟩
    simp only [G.dw.L1]
    exact Ev.cf (by simp; omega) g
  | succ k ih =>
    intro i h1 h2 h3
    by_cases hia:i=a.Kids.length
    · obtain ⟨r,g,hr⟩:=tail i h2 h3 (by omega)
      refine ⟨r,Ev.up ?_,hr⟩
      simp only [G.dw.L1]
      exact Ev.cf (by simp; omega) g
    by_cases hib:i=b.Kids.length
    · obtain ⟨r,g,hr⟩:=tail i h2 h3 (by omega)
      refine ⟨r,Ev.up ?_,hr⟩
      simp only [G.dw.L1]
      exact Ev.ct (by simp; omega) (Ev.cf (by simp; omega) g)
    have n4:a.Kind=4->i<a.Names.length/\i<b.Names.length:=fun h4=>by
      have n1:=nV ha h4
      have n2:=nV hb (hk ▸ h4)
      omega
    have hE:=Eb (a:=a) (b:=b) (i:=i) (by omega) (by omega) n4
    obtain ⟨r2,g2,hr2⟩:=hs (a.Kids.getD i default) (b.Kids.getD i default) (by rw [dI _ (by omega:i<a.Kids.length)]; exact List.getElem_mem _) (by rw [dI _ (by omega:i<b.Kids.length)]; exact List.getElem_mem _)
    obtain ⟨r3,g3,hr3⟩:=ih (i+1) (by omega) (by omega) (by omega)
    have rest:∃ r,Ev (fun f=>Option.bind (G.dw f (a.Kids.getD i default) (b.Kids.getD i default)) fun v=>cond (v != 0) (some v) (G.dw.L1 f a b ((i+1:Nat):Int))) r/\(r=0<->(a.Kids.getD i default=b.Kids.getD i default/\sU a b (i+1))):=by
      by_cases h0:r2=0
      · refine ⟨r3,Ev.bind g2 (Ev.cf (by rw [h0]; rfl) g3),?_⟩
        rw [hr3]
        exact ⟨fun h=>⟨hr2.1 h0,h⟩,fun h=>h.2⟩
      · refine ⟨r2,Ev.bind g2 (Ev.ct (by simpa using h0) (Ev.ret _)),?_⟩
        exact ⟨fun h=>absurd h h0,fun h=>hr2.2 h.1⟩
    obtain ⟨r4,g4,hr4⟩:=rest
    by_cases h4:a.Kind=4
    · obtain ⟨m1,m2⟩:=n4 h4
      by_cases hn:a.Names.getD i default=b.Names.getD i default
      · refine ⟨r4,Ev.up ?_,?_⟩
        · simp only [G.dw.L1]
          rw [Int.toNat_natCast,bu (by omega)]
          exact Ev.ct (by simp; omega) (Ev.ct (by simp; omega) (Ev.ct (by simpa using h4) (Ev.chk (by omega) (Ev.chk (by omega) (Ev.ct (by simpa using hn) (Ev.chk (by omega) (Ev.chk (by omega) g4)))))))
        · rw [hr4,hE]
          exact ⟨fun h=>⟨fun _=>hn,h⟩,fun h=>h.2⟩
      · obtain ⟨r,g,hr⟩:=T.iw _ _ hn
        refine ⟨r,Ev.up ?_,?_⟩
        · simp only [G.dw.L1]
          rw [Int.toNat_natCast,bu (by omega)]
          exact Ev.ct (by simp; omega) (Ev.ct (by simp; omega) (Ev.ct (by simpa using h4) (Ev.chk (by omega) (Ev.chk (by omega) (Ev.cf (by simpa using hn) (Ev.chk (by omega) (Ev.chk (by omega) (Ev.bind g (Ev.ret _)))))))))
        · rw [hE]
          exact ⟨fun h=>absurd h hr,fun h=>absurd (h.1 h4) hn⟩
    · refine ⟨r4,Ev.up ?_,?_⟩
      · simp only [G.dw.L1]
        rw [Int.toNat_natCast,bu (by omega)]
        exact Ev.ct (by simp; omega) (Ev.ct (by simp; omega) (Ev.cf (by simpa using h4) (Ev.chk (by omega) (Ev.chk (by omega) g4))))
      · rw [hr4,hE]
        exact ⟨fun h=>⟨fun e=>absurd e h4,h⟩,fun h=>h.2⟩
theorem zT {d:Nat} {n:af} (h:Shape (d+1) n=true) (h4:n.Kind ≠ 4):n.Names=[]:=by
 by_cases h3:n.Kind=3
 ·exact (qg (iq h) h3).2.2.1
 ·exact (kW (iq h) h4 h3).1
theorem eq_iff {d e:Nat} {a b:af} (ha:Shape (d+1) a=true) (hb:Shape (e+1) b=true):a=b<->(a.Kind=b.Kind/\a.Num=b.Num/\a.Text=b.Text/\sU a b 0):=by
 constructor
 ·rintro rfl; exact ⟨rfl,rfl,rfl,rfl,fun _=>rfl⟩
 ·rintro ⟨h1,h2,h3,h4,h5⟩
  simp only [List.drop_zero] at h4 h5
  have hn:a.Names=b.Names:=by
   by_cases h:a.Kind=4
   ·exact h5 h
   ·rw [zT ha h,zT hb (h1 ▸ h)]
  cases a; cases b
  simp only at h1 h2 h3 h4 hn
  subst h1 h2 h3 h4 hn
  rfl
theorem T.dw:∀ (d:Nat) {e:Nat} {a b:af},Shape d a=true->Shape e b=true->∃ r,Ev (fun f=>G.dw f a b) r/\(r=0<->a=b)
  | 0,_,_,_,h,_=>by cases h
  | _+1,0,_,_,_,h=>by cases h
  | d+1,e+1,a,b,ha,hb=>by
    rw [eq_iff ha hb]
    by_cases h1:a.Kind=b.Kind
    · by_cases h2:a.Num=b.Num
      · by_cases h3:a.Text=b.Text
        · obtain ⟨r,g,hr⟩:=T.dw.L1 ha hb h1 (fun x y hx hy=>T.dw d (kN ha x hx) (kN hb y hy)) a.Kids.length 0 (by omega) (by omega) (by omega)
          refine ⟨r,Ev.up ?_,hr.trans ⟨fun h=>⟨h1,h2,h3,h⟩,fun h=>h.2.2.2⟩⟩
          simp only [G.dw]
          exact Ev.cf (by simpa using h1) (Ev.cf (by simpa using h2) (Ev.ct (by simpa using h3) g))
        · obtain ⟨r,g,hr⟩:=T.iw _ _ h3
          refine ⟨r,Ev.up ?_,⟨fun h=>absurd h hr,fun h=>absurd h.2.2.1 h3⟩⟩
          simp only [G.dw]
          exact Ev.cf (by simpa using h1) (Ev.cf (by simpa using h2) (Ev.cf (by simpa using h3) (Ev.bind g (Ev.ret _))))
      · obtain ⟨r,g,hr⟩:=T.iP a.Num b.Num
        refine ⟨r,Ev.up ?_,hr.trans ⟨fun h=>absurd h h2,fun h=>h.2.1⟩⟩
        simp only [G.dw]
        exact Ev.cf (by simpa using h1) (Ev.ct (by simpa using h2) (Ev.bind g (Ev.ret _)))
    · obtain ⟨r,g,hr⟩:=T.iP a.Kind b.Kind
      refine ⟨r,Ev.up ?_,hr.trans ⟨fun h=>absurd h h1,fun h=>h.1⟩⟩
      simp only [G.dw]
      exact Ev.ct (by simpa using h1) (Ev.bind g (Ev.ret _))
theorem T.kM {d e:Nat} {a b:af} (ha:Shape d a=true) (hb:Shape e b=true):∃ v,Ev (fun f=>G.kM f a b) v/\(v=true<->a=b):=by
 obtain ⟨r,g,hr⟩:=T.dw d ha hb
 refine ⟨r==0,Ev.up ?_,by rw [beq_iff_eq]; exact hr⟩
 simp only [G.kM]
 exact Ev.bind g (Ev.ret _)
end Go.Ab
end
section
namespace Go.Ab
open Go
set_option maxRecDepth 100000
theorem yN {x:Int} (h0 : -9223372036854775808<=x) (h1:x<9223372036854775808):IntKind.wrap .i64 x=x:=by
 simp only [IntKind.wrap,IntKind.bits,IntKind.signed]
 simp
 omega
end Go.Ab
end
section
namespace Go.Ab
open Go
set_option maxRecDepth 100000
theorem EO {s x r:aA} {a:Nat} (ha:a<=s.length) (h:s.drop a=x++r):a+x.length<=s.length:=by
 have:=congrArg List.length h
 rw [List.length_drop,List.length_append] at this; omega
end Go.Ab
end
section
namespace Go.Ab
open Go
set_option maxRecDepth 100000
theorem PR.uniq {s:aA} {v w:RequestT × Bool} (h:PR s v) (k:PR s w):v=w:=by
  obtain ⟨q,b⟩:=v
  obtain ⟨p,c⟩:=w
  cases b with
  | true =>
    obtain ⟨h1,h2,h3⟩:=h.yes rfl
    exact (k.all q h2 h3 h1).symm
  | false =>
    cases c with
    | true =>
      obtain ⟨h1,h2,h3⟩:=k.yes rfl
      exact h.all p h2 h3 h1
    | false=>rw [show q=sS from h.no rfl,show p=sS from k.no rfl]
end Go.Ab
end
section
namespace Go.Ab
open Go
set_option maxRecDepth 100000
theorem SV {s x r:aA} {a:Nat} (ha:a<=s.length) (h:s.drop a=x++r):aV.mk s ((a+x.length:Nat):Int) false=Zq s r:=by
 have:=congrArg List.length h
 rw [List.length_drop,List.length_append] at this
 unfold Zq
 congr 2; omega
def pk (s:aA) (a:Nat):Int:=if a<s.length then (((s.getD a 0).toNat:Nat):Int) else 0
theorem kJ {s r:aA} {a:Nat} {b:UInt8} (h:s.drop a=b::r):pk s a=((b.toNat:Nat):Int):=by
 have:=kL h
 unfold pk
 rw [if_pos this.1,this.2.1]
theorem qy {s:aA} {a:Nat} (h:pk s a ≠ 0):a<s.length/\pk s a=(((s.getD a 0).toNat:Nat):Int):=by
 unfold pk at h ⊢
 split
 ·rename_i hl; exact ⟨hl,rfl⟩
 ·rename_i hl; rw [if_neg hl] at h; exact absurd rfl h
theorem Jg (s:aA) (a:Nat):0<=pk s a/\pk s a<=255:=by
 unfold pk
 split
 ·have:=(s.getD a 0).toNat_lt; omega
 ·omega
section
variable {s:aA} {a:Nat} {bd:Bool} (ha:a<=s.length) (hl:s.length<=1000000)
include ha hl
theorem T.peek:Ev (fun f=>G.bM f (aV.mk s (a:Int) bd)) (pk s a,aV.mk s (a:Int) bd):=by
 have _:=hl
 refine Ev.up ?_
 simp only [G.bM,Int.toNat_natCast]
 unfold pk
 refine Ev.ite (fun e => ?_) (fun e => ?_)
 ·simp only [decide_eq_true_eq] at e
  rw [if_neg (by omega)]; exact Ev.ret _
 ·simp only [decide_eq_false_iff_not] at e
  rw [if_pos (by omega)]
  exact Ev.chk ⟨by omega,by omega⟩ (Ev.ret _)
theorem T.Oq (c:Int):Ev (fun f=>G.dZ f (aV.mk s (a:Int) bd) c) (if pk s a=c then aV.mk s ((a+1:Nat):Int) bd else aV.mk s (a:Int) true):=by
 refine Ev.up ?_
 simp only [G.dZ]
 refine Ev.bind (T.peek ha hl) (Ev.ite (fun e => ?_) (fun e => ?_))
 ·have:pk s a ≠ c:=by simpa using e
  rw [if_neg this]; exact Ev.ret _
 ·have:pk s a=c:=by simpa using e
  rw [if_pos this]
  exact Ev.ret' (by simp only [bu (show a+1<9223372036854775808 by omega)])
def PZ (s:aA) (a:Nat) (bd:Bool) (v:aV):Prop:=∃ (b:Nat) (uk:Bool),v=aV.mk s (b:Int) uk/\a<=b/\b<=s.length/\(bd=true->uk=true)
theorem T.yF (c:Int) (hc:c ≠ 0):Tot (fun v=>PZ s a bd v/\(pk s a=c->v=aV.mk s ((a+1:Nat):Int) bd)/\(pk s a ≠ c->v=aV.mk s (a:Int) true)) (fun f=>G.dZ f (aV.mk s (a:Int) bd) c):=by
 refine ⟨_,T.Oq ha hl c,?_,fun h=>by rw [if_pos h],fun h=>by rw [if_neg h]⟩
 by_cases h:pk s a=c
 ·have:=qy (h ▸ hc)
  rw [if_pos h]; exact ⟨a+1,bd,rfl,by omega,by omega,fun h=>h⟩
 ·rw [if_neg h]; exact ⟨a,true,rfl,Nat.le_refl _,ha,fun _=>rfl⟩
end
theorem MW {b:UInt8} (h:okB b=true):b ≠ 0:=fun e=>by rw [e] at h; exact absurd h (by decide)
theorem Jk {t:aA} (h:PT t=true):∀ b,b∈t->b ≠ 0:=fun b hb=>by
 unfold PT at h
 simp only [Bool.and_eq_true,List.all_eq_true] at h
 exact MW (h.1 b hb)
structure P7 (s:aA) (a:Nat) (bd:Bool) (v:aA × aV):Prop where
 pos:∃ (b:Nat) (uk:Bool),v.2=aV.mk s (b:Int) uk/\a<=b/\b<=s.length/\(uk=false->a<b/\bd=false)
 len:v.1.length<=1000000
 all:bd=false->∀ t r,(∀ b,b∈t->b ≠ 0)->s.drop a=ny t++r->v=(t,Zq s r)
theorem T.quoted.Pq {s:aA} (hl:s.length<=1000000) {y:Nat} {z:List Int} (hy:y<=s.length) (hz:z.length<=y) :
  Tot (fun v:aA × aV=>(∃ (b:Nat),v.2=aV.mk s (b:Int) true/\y<=b/\b<=s.length)/\v.1.length<=1000000) (fun f=>G.bf.L3 f s (y:Int) true z):=by
 have hM:=maxL
 refine Tot.up ?_
 simp only [G.bf.L3]
 refine Tot.ct rfl (Tot.bind (T.yF hy hl 34 (by decide)) ?_)
 rintro v ⟨⟨b,uk,rfl,h1,h2,h3⟩,_⟩
 refine Tot.chk (by omega) (Tot.ret ⟨⟨b,by rw [h3 rfl],h1,h2⟩,?_⟩)
 rw [lD]; omega
theorem D6 {z:List Int} {b:UInt8} {t:aA} : lM (z++[((b.toNat:Nat):Int)])++t=lM z++b::t:=by
 unfold lM
 rw [List.map_append,List.map_singleton,Int.toNat_natCast,UInt8.ofNat_toNat]
 simp
theorem T.quoted.L3 {s:aA} (hl:s.length<=1000000):∀ (k y:Nat) (z:List Int),y+k=s.length->z.length<=y ->
    Tot (fun v:aA × aV=>(∃ (b:Nat) (uk:Bool),v.2=aV.mk s (b:Int) uk/\y<=b/\b<=s.length)/\v.1.length<=1000000/\∀ t r,(∀ b,b∈t->b ≠ 0)->s.drop y=t.flatMap mg++34::r->v=(lM z++t,Zq s r))
      (fun f=>G.bf.L3 f s (y:Int) false z):=by
  have hM:=maxL
  intro k
  induction k using Nat.strongRecOn with | _ k ih =>
  intro y z hy hz
  have K4:∀ y':Nat,y<=y'->y'<=s.length->Tot (fun v:aA × aV=>(∃ (b:Nat) (uk:Bool),v.2=aV.mk s (b:Int) uk/\y<=b/\b<=s.length)/\v.1.length<=1000000 /\
      ∀ b t r,b ≠ 0->(∀ c,c∈t->c ≠ 0)->s.drop y'=b::(t.flatMap mg++34::r)->v=(lM z++b::t,Zq s r)) (fun f=>G.bf.K4 f z s (y':Int) false):=fun y' h1 h2=>by
    refine Tot.up ?_
    simp only [G.bf.K4]
    refine Tot.iy (T.peek h2 hl) (Tot.ite (fun e=>Tot.ret ⟨⟨y',true,rfl,h1,h2⟩,Nat.zero_le _,fun b t r hb _ hd => ?_⟩) (fun e=>Tot.iy (T.peek h2 hl) (Tot.chk (by omega) ?_)))
    · have e:pk s y'=0:=by simpa using e
      rw [kJ hd] at e
      exact absurd (UInt8.toNat_inj.1 (show b.toNat=(0:UInt8).toNat by show b.toNat=0; omega)) hb
    · have e:pk s y' ≠ 0:=by simpa using e
      obtain ⟨hlt,hp⟩:=qy e
      simp only [bu (show y'+1<9223372036854775808 by omega)]
      rw [hp]
      refine (ih (s.length-(y'+1)) (by omega) (y'+1) _ (by omega) (by simp; omega)).mono ?_
      rintro v ⟨⟨b,uk,p1,p2,p3⟩,p4,p5⟩
      refine ⟨⟨b,uk,p1,by omega,p3⟩,p4,fun b t r hb ht hd => ?_⟩
      obtain ⟨_,g2,g3⟩:=kL hd
      rw [p5 t r ht g3,g2,D6]
  refine Tot.up ?_
  simp only [G.bf.L3]
  refine Tot.cf rfl (Tot.iy (T.peek (by omega) hl) (Tot.ite (fun e=>Tot.iy (T.peek (by omega) hl) ?_) (fun e=>Tot.bind (T.yF (by omega) hl 34 (by decide)) ?_)))
  · have n34:pk s y ≠ 34:=by simpa using e
    refine Tot.ite (fun e2 => ?_) (fun e2 => ?_)
    · have e2:pk s y=92:=by simpa using e2
      have hlt:=(qy (show pk s y ≠ 0 by omega)).1
      simp only [bu (show y+1<9223372036854775808 by omega)]
      refine (K4 (y+1) (by omega) (by omega)).mono ?_
      rintro v ⟨p1,p4,p5⟩
      refine ⟨p1,p4,fun t r ht hd => ?_⟩
      have hd0:=aY (0:UInt8) hlt
      rw [hd0] at hd
      have hb:=kJ hd0
      rcases nT hd with ⟨zK,_⟩ | ⟨_,c,t',hc,rfl,hq⟩ | ⟨_,DI,_⟩
      · rw [zK] at hb; exact absurd hb n34
      · exact p5 c t' r (ht c (List.mem_cons_self ..)) (fun b hb=>ht b (List.mem_cons_of_mem _ hb)) hq
      · exact absurd (UInt8.toNat_inj.1 (show (s.getD y 0).toNat=(92:UInt8).toNat by show _=92; omega)) DI
    · have e2:pk s y ≠ 92:=by simpa using e2
      refine (K4 y (Nat.le_refl _) (by omega)).mono ?_
      rintro v ⟨p1,p4,p5⟩
      refine ⟨p1,p4,fun t r ht hd => ?_⟩
      cases hdy:s.drop y with
      | nil=>rw [hdy] at hd; have:=congrArg List.length hd; simp at this
      | cons b q =>
        have hb:=kJ hdy
        rw [hdy] at hd
        rcases nT hd with ⟨zK,_⟩ | ⟨DI,_⟩ | ⟨_,_,t',rfl,hq⟩
        · rw [zK] at hb; exact absurd hb n34
        · rw [DI] at hb; exact absurd hb e2
        · exact p5 b t' r (ht b (List.mem_cons_self ..)) (fun c hc=>ht c (List.mem_cons_of_mem _ hc)) (by rw [hdy,hq])
  · have e34:pk s y=34:=by simpa using e
    rintro v ⟨_,h1,_⟩
    rw [h1 e34]
    have hlt:=(qy (show pk s y ≠ 0 by omega)).1
    refine Tot.chk (by omega) (Tot.ret ⟨⟨y+1,false,rfl,by omega,by omega⟩,by rw [lD]; omega,fun t r ht hd => ?_⟩)
    have hd0:=aY (0:UInt8) hlt
    rw [hd0] at hd
    have hb:=kJ hd0
    rcases nT hd with ⟨zK,rfl,hr⟩ | ⟨DI,_⟩ | ⟨zK,_⟩
    · have:aV.mk s ((y+[34].length:Nat):Int) false=Zq s r:=SV (x:=[34]) (r:=r) (Nat.le_of_lt hlt) (by rw [hd0,hr,zK]; rfl)
      rw [List.append_nil,<- this]; rfl
    · rw [DI] at hb; exact absurd (hb.symm.trans e34) (by decide)
    · exact absurd (UInt8.toNat_inj.1 (show (s.getD y 0).toNat=(34:UInt8).toNat by show _=34; omega)) zK
theorem T.quoted {s:aA} (hl:s.length<=1000000) {a:Nat} (ha:a<=s.length) (bd:Bool):Tot (P7 s a bd) (fun f=>G.bf f (aV.mk s (a:Int) bd)):=by
  refine Tot.up ?_
  simp only [G.bf]
  refine Tot.bind (T.yF ha hl 34 (by decide)) ?_
  rintro v ⟨_,h1,h2⟩
  by_cases e:pk s a=34
  · rw [h1 e]
    have hlt:=(qy (show pk s a ≠ 0 by omega)).1
    cases bd with
    | true =>
      refine (T.quoted.Pq (s:=s) hl (y:=a+1) (z:=[]) (by omega) (by simp)).mono ?_
      rintro v ⟨⟨b,p1,p2,p3⟩,p4⟩
      exact ⟨⟨b,true,p1,by omega,p3,fun h=>by cases h⟩,p4,fun h=>by cases h⟩
    | false =>
      refine (T.quoted.L3 hl (s.length-(a+1)) (a+1) [] (by omega) (by simp)).mono ?_
      rintro v ⟨⟨b,uk,p1,p2,p3⟩,p4,p5⟩
      refine ⟨⟨b,uk,p1,by omega,p3,fun _=>⟨by omega,rfl⟩⟩,p4,fun _ t r ht hd => ?_⟩
      unfold ny at hd
      rw [p5 t r ht (by rw [(kL (hd.trans (List.cons_append ..))).2.2]; simp)]
      rfl
  · rw [h2 e]
    refine (T.quoted.Pq (s:=s) hl (y:=a) (z:=[]) ha (by simp)).mono ?_
    rintro v ⟨⟨b,p1,p2,p3⟩,p4⟩
    refine ⟨⟨b,true,p1,p2,p3,fun h=>by cases h⟩,p4,fun _ t r _ hd => ?_⟩
    unfold ny at hd
    exact absurd (kJ (hd.trans (List.cons_append ..))) e
def Nr (acc:Nat) (x:aA):Nat:=x.foldl (fun n b=>10*n+(b.toNat-48)) acc
theorem Dl (i:Nat):Nr 0 (kT i)=i:=by
 induction i using Nat.strongRecOn with | _ i ih =>
 have MG:∀ k:Nat,k<10->(UInt8.ofNat (48+k)).toNat=48+k:=fun k hk=>by
  rw [UInt8.toNat_ofNat']; omega
 by_cases h:i<10
 ·rw [kV h]
  show 10*0+((UInt8.ofNat (48+i)).toNat-48)=i
  rw [MG i h]; omega
 ·have:=ih (i/10) (by omega)
  rw [mZ h]
  unfold Nr at this ⊢
  rw [List.foldl_append,this,List.foldl_cons,List.foldl_nil,MG _ (by omega)]
  omega
def LM (b:UInt8):Prop:=48<=b.toNat/\b.toNat<=57
theorem xO (i:Nat):∀ b,b∈kT i->LM b:=by
 induction i using Nat.strongRecOn with | _ i ih =>
 have MG:∀ k:Nat,k<10->LM (UInt8.ofNat (48+k)):=fun k hk=>by
  unfold LM
  rw [UInt8.toNat_ofNat']; omega
 intro b hb
 by_cases h:i<10
 ·rw [kV h,List.mem_singleton] at hb
  rw [hb]; exact MG i h
 ·rw [mZ h] at hb
  rcases List.mem_append.1 hb with e | e
  ·exact ih (i/10) (by omega) b e
  ·rw [List.mem_singleton] at e
   rw [e]; exact MG (i%10) (by omega)
theorem T.number.L2 {s:aA} (hl:s.length<=1000000) {sg:Int} (hs:sg=1\/sg = -1) {bd:Bool} : ∀ (j k y n:Nat),k+j=7->y<=s.length->n<10^k ->
    Tot (fun v:Int × aV=>(∃ b:Nat,v.2=aV.mk s (b:Int) bd/\y<=b/\b<=s.length/\(48<=pk s y->pk s y<=57->0<j->y<b))/\∀ x r,x.length<=j->(∀ b,b∈x->LM b)->okR r->s.drop y=x++r->v=(sg*((Nr n x:Nat):Int),aV.mk s ((y+x.length:Nat):Int) bd))
      (fun f=>G.bz.L2 f sg (n:Int) (k:Int) s (y:Int) bd):=by
  have wm:∀ n:Nat,n<10000000->IntKind.wrap .i64 (sg*(n:Int))=sg*(n:Int):=fun n hn=>yN (by rcases hs with e | e<;>rw [e]<;>omega) (by rcases hs with e | e<;>rw [e]<;>omega)
  intro j
  induction j with
  | zero =>
    intro k y n hk hy hn
    have Qj:k=7:=by omega
    subst Qj
    refine Tot.up ?_
    simp only [G.bz.L2]
    refine Tot.cf (decide_eq_false (by omega)) (Tot.ret ⟨⟨y,rfl,Nat.le_refl _,hy,fun _ _ h=>by omega⟩,fun x r hx _ _ hd => ?_⟩)
    have:x=[]:=List.eq_nil_of_length_eq_zero (by omega)
    subst this
    rw [wm n (by simpa using hn)]; rfl
  | succ j ih =>
    intro k y n hk hy hn
    have hk6:10^k<=10^6:=Nat.pow_le_pow_right (by decide) (by omega)
    have QO:n<1000000:=Nat.lt_of_lt_of_le hn (by simpa using hk6)
    have hp:=Jg s y
    have w0:IntKind.wrap .i64 (pk s y)=pk s y:=yN (by omega) (by omega)
    refine Tot.up ?_
    simp only [G.bz.L2]
    refine Tot.ct (decide_eq_true (by omega)) (Tot.iy (T.peek hy hl) (Tot.iy (T.bG _ _ _) (Tot.ite (fun e=>Tot.iy (T.peek hy hl) ?_) (fun e=>Tot.ret ⟨⟨y,rfl,Nat.le_refl _,hy,fun h1 h2 _ => ?_⟩,fun x r hx hd0 hr hd => ?_⟩))))
    · simp only [w0,Bool.and_eq_true,decide_eq_true_eq] at e
      obtain ⟨hlt,hb⟩:=qy (show pk s y ≠ 0 by omega)
      have hw:IntKind.wrap .i64 (IntKind.wrap .i64 (IntKind.wrap .i64 (10*(n:Int))+IntKind.wrap .i64 (pk s y))-48)=((10*n+((s.getD y 0).toNat-48):Nat):Int):=by
        rw [w0,yN (x:=10*(n:Int)) (by omega) (by omega),yN (x:=10*(n:Int)+pk s y) (by omega) (by omega),yN (by omega) (by omega)]
        omega
      simp only [hw,bu (show k+1<9223372036854775808 by omega),bu (show y+1<9223372036854775808 by omega)]
      refine (ih (k+1) (y+1) _ (by omega) (by omega) (by rw [Nat.pow_succ]; omega)).mono ?_
      rintro v ⟨⟨b,p1,p2,p3,_⟩,p5⟩
      refine ⟨⟨b,p1,by omega,p3,fun _ _ _=>by omega⟩,fun x r hx hd0 hr hd => ?_⟩
      cases x with
      | nil =>
        rw [List.nil_append] at hd
        have:=hr (s.getD y 0) (by rw [<- hd,aY (0:UInt8) hlt]; rfl)
        unfold qH at this
        rw [decide_eq_true (show 48<=(s.getD y 0).toNat by omega),decide_eq_true (show (s.getD y 0).toNat<=57 by omega)] at this
        simp at this
      | cons c x =>
        obtain ⟨_,g2,g3⟩:=kL (hd.trans (List.cons_append ..))
        rw [p5 x r (by simpa using hx) (fun b hb=>hd0 b (List.mem_cons_of_mem _ hb)) hr g3,g2]
        refine Prod.ext rfl ?_
        show aV.mk _ _ _=aV.mk _ _ _
        congr 2
        simp only [List.length_cons]; omega
    · simp only [w0,Bool.and_eq_false_iff,decide_eq_false_iff_not] at e
      omega
    · simp only [w0,Bool.and_eq_false_iff,decide_eq_false_iff_not] at e
      cases x with
      | nil=>rw [wm n (by omega)]; rfl
      | cons c x =>
        have:=kJ (hd.trans (List.cons_append ..))
        have hc:=hd0 c (List.mem_cons_self ..)
        unfold LM at hc
        omega
theorem EM (i:Nat):∃ b q,kT i=b::q/\LM b:=by
 cases h:kT i with
 | nil=>exact absurd h (uF i)
 | cons b q=>exact ⟨b,q,rfl,xO i b (by rw [h]; exact List.mem_cons_self ..)⟩
theorem T.number {s:aA} (hl:s.length<=1000000) {a:Nat} (ha:a<=s.length) (h0:pk s a=45\/(48<=pk s a/\pk s a<=57)) :
  Tot (fun v:Int × aV=>(∃ b:Nat,v.2=aV.mk s (b:Int) false/\a<b/\b<=s.length)/\∀ z r,-999999<=z->z<=999999->okR r->s.drop a=mM z++r->v=(z,Zq s r)) (fun f=>G.bz f (aV.mk s (a:Int) false)):=by
 have hlt:=(qy (show pk s a ≠ 0 by omega)).1
 refine Tot.up ?_
 simp only [G.bz]
 refine Tot.iy (T.peek ha hl) (Tot.ite (fun e=>Tot.up ?_) (fun e=>Tot.up ?_))
 ·have e:pk s a=45:=by simpa using e
  simp only [G.bz.K1,bu (show a+1<9223372036854775808 by omega)]
  refine (T.number.L2 hl (.inr rfl) 7 0 (a+1) 0 (by omega) (by omega) (by decide)).mono ?_
  rintro v ⟨⟨b,p1,p2,p3,_⟩,p5⟩
  refine ⟨⟨b,p1,by omega,p3⟩,fun z r h1 h2 hr hd => ?_⟩
  by_cases hz:z<0
  ·have ez:mM z=45::kT (-z).toNat:=if_pos hz
   rw [ez] at hd
   have g3:=(kL (hd.trans (List.cons_append ..))).2.2
   have hlen:=nS (i:=(-z).toNat) (by omega)
   rw [p5 _ r (by omega) (xO _) hr g3,Dl]
   refine Prod.ext (by show (-1:Int)*_=z; omega) ?_
   rw [<- SV (show a+1<=s.length by omega) g3]
  ·have ez:mM z=kT z.toNat:=if_neg hz
   rw [ez] at hd
   obtain ⟨b,q,hb,hd0⟩:=EM z.toNat
   rw [hb] at hd
   have:=kJ (hd.trans (List.cons_append ..))
   unfold LM at hd0
   omega
 ·have e:pk s a ≠ 45:=by simpa using e
  simp only [G.bz.K1]
  refine (T.number.L2 hl (.inl rfl) 7 0 a 0 (by omega) ha (by decide)).mono ?_
  rintro v ⟨⟨b,p1,p2,p3,p4⟩,p5⟩
  refine ⟨⟨b,p1,p4 (by omega) (by omega) (by omega),p3⟩,fun z r h1 h2 hr hd => ?_⟩
  by_cases hz:z<0
  ·have ez:mM z=45::kT (-z).toNat:=if_pos hz
   rw [ez] at hd
   exact absurd (kJ (hd.trans (List.cons_append ..))) e
  ·have ez:mM z=kT z.toNat:=if_neg hz
   rw [ez] at hd
   have hlen:=nS (i:=z.toNat) (by omega)
   rw [p5 _ r (by omega) (xO _) hr hd,Dl]
   refine Prod.ext (by show (1:Int)*_=z; omega) ?_
   rw [<- SV ha hd]
end Go.Ab
end
section
namespace Go.Ab
open Go
set_option maxRecDepth 100000
theorem Je {n:af} (h:Parts n=true) (hk:n.Kind=2):PT n.Text=true:=by
 unfold Parts at h
 rw [if_neg (by omega),if_neg (by omega),if_pos hk] at h
 simp only [Bool.and_eq_true] at h
 exact h.2.1
theorem oD {d:Nat} {k z:Int} {t:aA} (ht:t.length<=1000000):jT tH (d+1) (af.mk k z t [] []) :=
 ⟨Nat.le_trans ht (by decide),Nat.zero_le _,fun s h=>(by cases h),Nat.zero_le _,trivial,fun k h=>(by cases h)⟩
theorem T.I8 {s:aA} {a:Nat} (lv:Int):Ev (fun f=>G.dY f (aV.mk s (a:Int) true) lv) (af.mk 0 0 [] [] [],aV.mk s (a:Int) true):=by
 refine Ev.up ?_
 simp only [G.dY]
 exact Ev.ite (fun _=>Ev.ret _) (fun _=>Ev.ct rfl (Ev.ret _))
structure OD (d:Nat) (kind:Int) (c:UInt8) (s:aA) (y:Nat) (bd:Bool) (z5:List aA) (z6:List af) (v:af × aV):Prop where
 pos:∃ (b:Nat) (uk:Bool),v.2=aV.mk s (b:Int) uk/\y<=b/\b<=s.length
 fin:jT tH (d+2) v.1
 all:bd=false->∀ n r,Big d kind n->z6.length<=n.Kids.length->z6=n.Kids.take z6.length->z5=(if kind=4 then n.Names.take z6.length else []) ->
  (∀ t,t∈n.Names->PT t=true)->s.drop y=kz (iH d) n z6.length [c] r->v=(n,Zq s r)
section
variable {d:Nat} (hd:d<=4) (IH:∀ (s:aA) (a:Nat),a<=s.length->s.length<=1000000->Tot (OE d s a) (fun f=>G.dY f (aV.mk s (a:Int) false) (d:Int)))
 {kind:Int} {c:UInt8} (hk:kind=3/\c=93\/kind=4/\c=125) {s:aA} (hl:s.length<=1000000)
include hd IH hk hl
theorem T.inside.Pv {y:Nat} {z5:List aA} {z6:List af} (hy:y<=s.length) (h6:z6.length<=y+1) (h5:z5.length<=y+1) (ht:∀ t,t∈z5->t.length<=1000000) (hn:∀ n,n∈z6->jT tH (d+1) n) :
  Tot (OD d kind c s y true z5 z6) (fun f=>G.aI.L5 f (af.mk kind 0 [] [] []) ((c.toNat:Nat):Int) ((d+1:Nat):Int) s (y:Int) true z5 z6):=by
 have _:=hd
 have _:=IH
 have hc:((c.toNat:Nat):Int) ≠ 0:=by rcases hk with ⟨_,h⟩ | ⟨_,h⟩<;>rw [h]<;>decide
 refine Tot.up ?_
 simp only [G.aI.L5]
 refine Tot.ct rfl (Tot.bind (T.yF hy hl _ hc) ?_)
 rintro v ⟨⟨b,uk,rfl,h1,h2,h3⟩,_⟩
 refine Tot.ret ⟨⟨b,uk,rfl,h1,h2⟩,⟨Nat.zero_le _,?_,fun t h=>Nat.le_trans (ht t h) (by decide),?_,trivial,hn⟩,fun h=>by cases h⟩
 ·show z5.length<=tH
  unfold tH; omega
 ·show z6.length<=tH
  unfold tH; omega
theorem T.inside.L5:∀ (k y:Nat) (z5:List aA) (z6:List af),y+k=s.length->z6.length<=y->z5.length<=y->(∀ t,t∈z5->t.length<=1000000)->(∀ n,n∈z6->jT tH (d+1) n) ->
    Tot (OD d kind c s y false z5 z6) (fun f=>G.aI.L5 f (af.mk kind 0 [] [] []) ((c.toNat:Nat):Int) ((d+1:Nat):Int) s (y:Int) false z5 z6):=by
  have hc:c=93\/c=125:=by rcases hk with ⟨_,h⟩ | ⟨_,h⟩<;>simp [h]
  have hc0:((c.toNat:Nat):Int) ≠ 0:=by rcases hc with h | h<;>rw [h]<;>decide
  have OL:∀ {b:UInt8},b ≠ c->((b.toNat:Nat):Int) ≠ ((c.toNat:Nat):Int):=fun h e=>h (UInt8.toNat_inj.1 (by omega))
  intro k
  induction k using Nat.strongRecOn with | _ k ih =>
  intro y z5 z6 hy h6 h5 ht hn
  have hM:=maxL
  have K7:∀ (p:Nat) (bd:Bool) (z7:List aA),y<=p->p<=s.length->z7.length<=p+1->(∀ t,t∈z7->t.length<=1000000) ->
      Tot (fun v:af × aV=>(∃ (b:Nat) (uk:Bool),v.2=aV.mk s (b:Int) uk/\y<=b/\b<=s.length)/\jT tH (d+2) v.1/\(bd=false->∀ n r,Big d kind n->z6.length<n.Kids.length->z6=n.Kids.take z6.length->z7=(if kind=4 then n.Names.take (z6.length+1) else []) ->
        (∀ t,t∈n.Names->PT t=true)->s.drop p=iH d (n.Kids.getD z6.length default)++kz (iH d) n (z6.length+1) [c] r->v=(n,Zq s r)))
      (fun f=>G.aI.K7 f (af.mk kind 0 [] [] []) ((c.toNat:Nat):Int) ((d+1:Nat):Int) z6 s (p:Int) bd z7):=fun p bd z7 hp hpl h7 ND=>by
    refine Tot.up ?_
    simp only [G.aI.K7]
    have w1:IntKind.wrap .i64 (((d+1:Nat):Int)-1)=(d:Int):=by rw [yN (by omega) (by omega)]; omega
    rw [w1]
    cases bd with
    | true =>
      refine Tot.iy (T.I8 _) (Tot.chk (by omega) ((T.inside.Pv hd IH hk hl (y:=p) (z5:=z7) (z6:=z6++[af.mk 0 0 [] [] []]) hpl (by simp; omega) h7 ND (fun x hx => ?_)).mono ?_))
      · rcases List.mem_append.1 hx with e | e
        · exact hn x e
        · rw [List.mem_singleton] at e; subst e; exact oD (Nat.zero_le _)
      rintro v ⟨⟨b,uk,g1,g2,g3⟩,g4,_⟩
      exact ⟨⟨b,uk,g1,by omega,g3⟩,g4,fun h=>by cases h⟩
    | false =>
      refine Tot.bind (IH s p hpl hl) ?_
      rintro ⟨m,q⟩ ⟨⟨b,bd,hb1,hb2,hb3,hb4⟩,hf,hall⟩
      simp only at hb1 hf
      subst hb1
      have hn':∀ x,x∈z6++[m]->jT tH (d+1) x:=fun x hx=>by
        rcases List.mem_append.1 hx with e | e
        · exact hn x e
        · rw [List.mem_singleton] at e; subst e; exact hf
      have kid:∀ n r,Big d kind n->z6.length<n.Kids.length->s.drop p=iH d (n.Kids.getD z6.length default)++kz (iH d) n (z6.length+1) [c] r->m=n.Kids.getD z6.length default/\bd=false/\s.drop b=kz (iH d) n (z6.length+1) [c] r:=fun n r hB hlt hdr=>by
        have h1:=hall _ (kz (iH d) n (z6.length+1) [c] r) (hB.kids _ (getD_mem default hlt)) (yE hc (Nat.succ_pos _)) hdr
        simp only [Prod.mk.injEq] at h1
        have h3:=h1.2
        unfold Zq at h3
        injection h3 with _ h4 h5
        refine ⟨h1.1,h5,?_⟩
        have h6:b=s.length-(kz (iH d) n (z6.length+1) [c] r).length:=by omega
        rw [h6]; exact (qV hpl hdr).1
      cases bd with
      | true =>
        refine Tot.chk (by omega) ((T.inside.Pv hd IH hk hl (y:=b) (z5:=z7) (z6:=z6++[m]) hb3 (by simp; omega) (by omega) ND hn').mono ?_)
        rintro v ⟨⟨b2,uk,g1,g2,g3⟩,g4,_⟩
        exact ⟨⟨b2,uk,g1,by omega,g3⟩,g4,fun _ n r hB hlt _ _ _ hdr=>by have:=(kid n r hB hlt hdr).2.1; cases this⟩
      | false =>
        have hpb:=hb4 rfl
        refine Tot.chk (by omega) ((ih (s.length-b) (by omega) b z7 (z6++[m]) (by omega) (by simp; omega) (by omega) ND hn').mono ?_)
        rintro v ⟨⟨b2,uk,g1,g2,g3⟩,g4,g5⟩
        refine ⟨⟨b2,uk,g1,by omega,g3⟩,g4,fun _ n r hB hlt zL NC hnm hdr => ?_⟩
        obtain ⟨hm,_,hdb⟩:=kid n r hB hlt hdr
        have hlen:(z6++[m]).length=z6.length+1:=by simp
        refine g5 rfl n r hB (by rw [hlen]; omega) ?_ (by rw [hlen]; exact NC) hnm (by rw [hlen]; exact hdb)
        rw [hlen,<- take_snoc default hlt,<- zL,<- hm]
  have K6:∀ (p:Nat) (bd:Bool),y<=p->p<=s.length ->
      Tot (fun v:af × aV=>(∃ (b:Nat) (uk:Bool),v.2=aV.mk s (b:Int) uk/\y<=b/\b<=s.length)/\jT tH (d+2) v.1/\(bd=false->∀ n r,Big d kind n->z6.length<n.Kids.length->z6=n.Kids.take z6.length->z5=(if kind=4 then n.Names.take z6.length else []) ->
        (∀ t,t∈n.Names->PT t=true)->s.drop p=oN (iH d) n z6.length++kz (iH d) n (z6.length+1) [c] r->v=(n,Zq s r)))
      (fun f=>G.aI.K6 f (af.mk kind 0 [] [] []) ((c.toNat:Nat):Int) ((d+1:Nat):Int) z5 z6 s (p:Int) bd):=fun p bd hp hpl=>by
    refine Tot.up ?_
    simp only [G.aI.K6]
    refine Tot.ite (fun e => ?_) (fun e => ?_)
    · have k4:kind=4:=by simpa using e
      refine Tot.bind (T.quoted hl hpl bd) ?_
      rintro ⟨t,q⟩ ⟨⟨b,QL,hb1,hb2,hb3,hb4⟩,hlen,hall⟩
      simp only at hb1 hlen
      subst hb1
      refine Tot.chk (by omega) (Tot.bind (T.yF hb3 hl 58 (by decide)) ?_)
      rintro v ⟨⟨b2,P8,rfl,c1,c2,c3⟩,c4,c5⟩
      refine (K7 b2 P8 (z5++[t]) (by omega) c2 (by simp; omega) (fun x hx => ?_)).mono ?_
      · rcases List.mem_append.1 hx with e | e
        · exact ht x e
        · rw [List.mem_singleton] at e; subst e; exact hlen
      rintro v ⟨g1,g2,g3⟩
      refine ⟨g1,g2,fun hbd n r hB hlt zL Cm hnm hdr => ?_⟩
      have hnl:=hB.len k4
      have hlt':z6.length<n.Names.length:=by omega
      have hd2:s.drop p=ny (n.Names.getD z6.length default)++(58::(iH d (n.Kids.getD z6.length default)++kz (iH d) n (z6.length+1) [c] r)):=by
        rw [hdr]; unfold oN; rw [if_pos (by rw [hB.kd,k4])]; simp
      have h1:=hall hbd _ _ (Jk (hnm _ (getD_mem default hlt'))) hd2
      simp only [Prod.mk.injEq] at h1
      have h3:=h1.2
      unfold Zq at h3
      injection h3 with _ h4 h5'
      have h6':b=s.length-(58::(iH d (n.Kids.getD z6.length default)++kz (iH d) n (z6.length+1) [c] r)).length:=by omega
      have hdb:=(qV hpl hd2).1
      rw [<- h6'] at hdb
      have h7:=c4 (kJ hdb)
      injection h7 with _ h8 h9
      have h10:b2=b+1:=by omega
      refine g3 (by rw [h9,h5']) n r hB hlt zL ?_ hnm (by rw [h10]; exact (kL hdb).2.2)
      rw [if_pos k4] at Cm ⊢
      rw [Cm,h1.1]
      exact take_snoc (default:aA) (by omega)
    · have k3:kind=3:=by
        rcases hk with ⟨h,_⟩ | ⟨h,_⟩
        · exact h
        · rw [h] at e; simp at e
      refine (K7 p bd z5 hp hpl (by omega) ht).mono ?_
      rintro v ⟨g1,g2,g3⟩
      refine ⟨g1,g2,fun hbd n r hB hlt zL Cm hnm hdr=>g3 hbd n r hB hlt zL ?_ hnm ?_⟩
      · rw [if_neg (by omega)] at Cm ⊢; exact Cm
      · unfold oN at hdr
        rw [if_neg (by rw [hB.kd]; omega)] at hdr
        simpa using hdr
  refine Tot.up ?_
  simp only [G.aI.L5]
  refine Tot.cf rfl (Tot.iy (T.peek (by omega) hl) (Tot.ite (fun e => ?_) (fun e => ?_)))
  · have ne:pk s y ≠ ((c.toNat:Nat):Int):=by simpa using e
    have more:∀ n r,s.drop y=kz (iH d) n z6.length [c] r->z6.length<n.Kids.length:=fun n r hdr=>by
      rcases Nat.lt_or_ge z6.length n.Kids.length with h | h
      · exact h
      · rw [nM h] at hdr
        exact absurd (kJ hdr) ne
    refine Tot.ite (fun e0=>Tot.bind (T.yF (by omega) hl 44 (by decide)) ?_) (fun e0 => ?_)
    · have h0:0<z6.length:=by simp only [decide_eq_true_eq] at e0; omega
      rintro v ⟨⟨b,uk,rfl,c1,c2,_⟩,c4,_⟩
      refine (K6 b uk c1 c2).mono ?_
      rintro v ⟨g1,g2,g3⟩
      refine ⟨g1,g2,fun _ n r hB hle zL Cm hnm hdr => ?_⟩
      have hlt:=more n r hdr
      rw [nN hlt h0] at hdr
      have h7:=c4 (kJ hdr)
      injection h7 with _ h8 h9
      have h10:b=y+1:=by omega
      exact g3 h9 n r hB hlt zL Cm hnm (by rw [h10]; exact (kL hdr).2.2)
    · have h0:z6.length=0:=by simp only [decide_eq_false_iff_not] at e0; omega
      refine (K6 y false (Nat.le_refl _) (by omega)).mono ?_
      rintro v ⟨g1,g2,g3⟩
      refine ⟨g1,g2,fun _ n r hB hle zL Cm hnm hdr => ?_⟩
      have hlt:=more n r hdr
      refine g3 rfl n r hB hlt zL Cm hnm ?_
      rw [hdr,h0]
      exact qm (by omega)
  · have ec:pk s y=((c.toNat:Nat):Int):=by simpa using e
    have hlt:=(qy (show pk s y ≠ 0 by rw [ec]; exact hc0)).1
    refine Tot.bind (T.yF (by omega) hl _ hc0) ?_
    rintro v ⟨_,h1,_⟩
    rw [h1 ec]
    refine Tot.ret ⟨⟨y+1,false,rfl,by omega,by omega⟩,⟨Nat.zero_le _,?_,fun t h=>Nat.le_trans (ht t h) (by decide),?_,trivial,hn⟩,fun _ n r hB hle zL Cm hnm hdr => ?_⟩
    · show z5.length<=tH
      unfold tH; omega
    · show z6.length<=tH
      unfold tH; omega
    · have hend:z6.length=n.Kids.length:=by
        rcases Nat.lt_or_ge z6.length n.Kids.length with h | h
        · exfalso
          by_cases h0:0<z6.length
          · rw [nN h h0] at hdr
            exact OL (show (44:UInt8) ≠ c by rcases hc with e | e<;>rw [e]<;>decide) ((kJ hdr).symm.trans ec)
          · have h0:z6.length=0:=by omega
            rw [h0] at hdr h
            rw [qm h] at hdr
            unfold oN at hdr
            rcases hk with ⟨k3,rfl⟩ | ⟨k4,rfl⟩
            · rw [if_neg (by rw [hB.kd]; omega)] at hdr
              obtain ⟨b,q,hq,hb⟩:=xU (hB.kids _ (getD_mem default h))
              rw [List.nil_append,hq,List.cons_append] at hdr
              exact OL hb.1 ((kJ hdr).symm.trans ec)
            · rw [if_pos (by rw [hB.kd]; omega)] at hdr
              unfold ny at hdr
              rw [List.cons_append,List.cons_append,List.cons_append] at hdr
              exact OL (show (34:UInt8) ≠ 125 by decide) ((kJ hdr).symm.trans ec)
        · omega
      rw [nM (by omega)] at hdr
      have hpos:aV.mk s ((y+[c].length:Nat):Int) false=Zq s r:=SV (x:=[c]) (Nat.le_of_lt hlt) hdr
      have hkids:z6=n.Kids:=by rw [zL,List.take_of_length_le (by omega)]
      have IE:z5=n.Names:=by
        rw [Cm]
        rcases hk with ⟨k3,_⟩ | ⟨k4,_⟩
        · rw [if_neg (by omega),hB.tJ k3]
        · rw [if_pos k4,List.take_of_length_le (by have:=hB.len k4; omega)]
      refine Prod.ext ?_ hpos
      show af.mk kind 0 [] z5 z6=n
      rw [hkids,IE]
      conv=>rhs; rw [<- l9 n,hB.kd,hB.num,hB.text]
end
theorem T.node:∀ (d:Nat),d<=5->∀ (s:aA) (a:Nat),a<=s.length->s.length<=1000000->Tot (OE d s a) (fun f=>G.dY f (aV.mk s (a:Int) false) (d:Int))
  | 0,_,s,a,ha,hl=>by
    refine Tot.up ?_
    simp only [G.dY]
    exact Tot.ct (by simp) (Tot.ret ⟨⟨a,true,rfl,Nat.le_refl _,ha,fun h=>by cases h⟩,oD (Nat.zero_le _),fun n r hS=>by cases hS⟩)
  | d+1,hd,s,a,ha,hl=>by
    have hp:=Jg s a
    have w0:IntKind.wrap .i64 (pk s a)=pk s a:=yN (by omega) (by omega)
    have w1:IntKind.wrap .i64 ((a:Int)+1)=((a+1:Nat):Int):=bu (by omega)
    have w4:IntKind.wrap .i64 ((a:Int)+4)=((a+4:Nat):Int):=wrapN (m:=a+4) (by omega) (by omega)
    have FZ:∀ n r,Shape (d+1) n=true->s.drop a=iH (d+1) n++r->(n.Kind=0/\pk s a=110)\/(n.Kind=1/\(pk s a=45\/(48<=pk s a/\pk s a<=57)))\/(n.Kind=2/\pk s a=34)\/(n.Kind=3/\pk s a=91)\/(n.Kind=4/\pk s a=123):=fun n r hS hdr=>by
      rcases qf (iq hS) with k | k | k | k | k
      · rw [jd,if_neg (by omega),if_neg (by omega),if_pos k] at hdr
        exact .inl ⟨k,kJ hdr⟩
      · rw [jd,if_pos k] at hdr
        refine .inr (.inl ⟨k,?_⟩)
        by_cases hz:n.Num<0
        · rw [show mM n.Num=45::kT (-n.Num).toNat from if_pos hz] at hdr
          exact .inl (kJ hdr)
        · rw [show mM n.Num=kT n.Num.toNat from if_neg hz] at hdr
          obtain ⟨b,q,hb,h0⟩:=EM n.Num.toNat
          rw [hb] at hdr
          have:=kJ hdr
          unfold LM at h0
          exact .inr (by omega)
      · rw [jd,if_neg (by omega),if_pos k] at hdr
        exact .inr (.inr (.inl ⟨k,kJ hdr⟩))
      · rw [uI r k] at hdr
        exact .inr (.inr (.inr (.inl ⟨k,kJ hdr⟩)))
      · rw [xe r k] at hdr
        exact .inr (.inr (.inr (.inr ⟨k,kJ hdr⟩)))
    have sub:∀ {kind:Int} {c:UInt8},(kind=3/\c=93\/kind=4/\c=125)->a<s.length->Tot (OD d kind c s (a+1) false [] []) (fun f=>G.aI f (aV.mk s (a:Int) false) (af.mk kind 0 [] [] []) ((c.toNat:Nat):Int) ((d+1:Nat):Int)):=fun {kind c} hk hlt=>by
      refine Tot.up ?_
      simp only [G.aI]
      rw [w1]
      exact T.inside.L5 (by omega) (fun s a h1 h2=>T.node d (by omega) s a h1 h2) hk hl (s.length-(a+1)) (a+1) [] [] (by omega) (Nat.zero_le _) (Nat.zero_le _) (fun t h=>by cases h) (fun n h=>by cases h)
    have num:(pk s a=45\/(48<=pk s a/\pk s a<=57))->Tot (OE (d+1) s a) (fun f=>Option.bind (G.bz f (aV.mk s (a:Int) false)) fun v9=>some ((af.mk 1 v9.1 [] [] []),v9.2)):=fun h0=>by
      refine Tot.bind (T.number hl ha h0) ?_
      rintro ⟨z,q⟩ ⟨⟨b,p1,p2,p3⟩,p5⟩
      refine Tot.ret ⟨⟨b,false,p1,by omega,p3,fun _=>p2⟩,oD (Nat.zero_le _),fun n r hS hr hdr => ?_⟩
      have k:n.Kind=1:=by rcases FZ n r hS hdr with ⟨_,hx⟩ | ⟨k,_⟩ | ⟨_,hx⟩ | ⟨_,hx⟩ | ⟨_,hx⟩<;>omega
      have hpp:=iq hS
      have hlf:=kW hpp (by omega) (by omega)
      have hnn:=pg hpp k
      have htt:=yg hpp (by omega)
      rw [jd,if_pos k] at hdr
      have h3:=p5 n.Num r hnn.1 hnn.2 hr hdr
      simp only [Prod.mk.injEq] at h3
      refine Prod.ext ?_ h3.2
      show af.mk 1 z [] [] []=n
      conv=>rhs; rw [<- l9 n,k,htt,hlf.1,hlf.2,<- h3.1]
    refine Tot.up ?_
    simp only [G.dY]
    refine Tot.cf (by simp; omega) (Tot.cf rfl (Tot.iy (T.peek ha hl) (Tot.ite (fun e2 => ?_) (fun e2=>Tot.iy (T.peek ha hl) (Tot.ite (fun e3 => ?_) (fun e3=>Tot.iy (T.peek ha hl) (Tot.ite (fun e4 => ?_) (fun e4=>Tot.iy (T.peek ha hl) (Tot.ite (fun e0 => ?_) (fun e0=>Tot.iy (T.peek ha hl) (Tot.ite (fun e1 => ?_) (fun e1=>Tot.iy (T.peek ha hl) (Tot.iy (T.bG _ _ _) (Tot.ite (fun e5 => ?_) (fun e5 => ?_)))))))))))))))
    · have e2:pk s a=34:=by simpa using e2
      refine Tot.bind (T.quoted hl ha false) ?_
      rintro ⟨t,q⟩ ⟨⟨b,bd,p1,p2,p3,p4⟩,hlen,hall⟩
      refine Tot.ret ⟨⟨b,bd,p1,p2,p3,fun h=>(p4 h).1⟩,oD hlen,fun n r hS _ hdr => ?_⟩
      have k:n.Kind=2:=by rcases FZ n r hS hdr with ⟨_,hx⟩ | ⟨_,hx⟩ | ⟨k,_⟩ | ⟨_,hx⟩ | ⟨_,hx⟩<;>omega
      have hpp:=iq hS
      have hlf:=kW hpp (by omega) (by omega)
      have hn0:n.Num=0:=yf hpp (by omega)
      rw [jd,if_neg (by omega),if_pos k] at hdr
      have h3:=hall rfl _ _ (Jk (Je hpp k)) hdr
      simp only [Prod.mk.injEq] at h3
      refine Prod.ext ?_ h3.2
      show af.mk 2 0 t [] []=n
      conv=>rhs; rw [<- l9 n,k,hn0,hlf.1,hlf.2,<- h3.1]
    · have e3:pk s a=91:=by simpa using e3
      have hlt:=(qy (show pk s a ≠ 0 by omega)).1
      refine Tot.bind (sub (.inl ⟨rfl,rfl⟩) hlt) ?_
      rintro ⟨m,q⟩ ⟨⟨b,bd,p1,p2,p3⟩,hf,hall⟩
      refine Tot.ret ⟨⟨b,bd,p1,by omega,p3,fun _=>by omega⟩,hf,fun n r hS _ hdr => ?_⟩
      have k:n.Kind=3:=by rcases FZ n r hS hdr with ⟨_,hx⟩ | ⟨_,hx⟩ | ⟨_,hx⟩ | ⟨k,_⟩ | ⟨_,hx⟩<;>omega
      rw [uI r k] at hdr
      have hB:=Aq hS (.inl k)
      rw [k] at hB
      exact hall rfl n r hB (Nat.zero_le _) rfl rfl (fun t ht=>by rw [hB.tJ rfl] at ht; cases ht) (kL hdr).2.2
    · have e4:pk s a=123:=by simpa using e4
      have hlt:=(qy (show pk s a ≠ 0 by omega)).1
      refine Tot.bind (sub (.inr ⟨rfl,rfl⟩) hlt) ?_
      rintro ⟨m,q⟩ ⟨⟨b,bd,p1,p2,p3⟩,hf,hall⟩
      refine Tot.ret ⟨⟨b,bd,p1,by omega,p3,fun _=>by omega⟩,hf,fun n r hS _ hdr => ?_⟩
      have k:n.Kind=4:=by rcases FZ n r hS hdr with ⟨_,hx⟩ | ⟨_,hx⟩ | ⟨_,hx⟩ | ⟨_,hx⟩ | ⟨k,_⟩<;>omega
      rw [xe r k] at hdr
      have hB:=Aq hS (.inr k)
      rw [k] at hB
      exact hall rfl n r hB (Nat.zero_le _) rfl rfl (I5 (nJ (iq hS) k).2.2.1) (kL hdr).2.2
    · have e0:pk s a=110:=by simpa using e0
      have hlt:=(qy (show pk s a ≠ 0 by omega)).1
      rw [w4]
      have hpos:(if ((s.length:Nat):Int)<((a+4:Nat):Int) then ((s.length:Nat):Int) else ((a+4:Nat):Int))=((min s.length (a+4):Nat):Int):=by
        split<;>omega
      refine Tot.ret ⟨⟨min s.length (a+4),false,by rw [<- hpos],by omega,by omega,fun _=>by omega⟩,oD (Nat.zero_le _),fun n r hS _ hdr => ?_⟩
      have k:n.Kind=0:=by rcases FZ n r hS hdr with ⟨k,_⟩ | ⟨_,hx⟩ | ⟨_,hx⟩ | ⟨_,hx⟩ | ⟨_,hx⟩<;>omega
      have hpp:=iq hS
      have hlf:=kW hpp (by omega) (by omega)
      have hn0:n.Num=0/\n.Text=[]:=tX hpp k
      rw [jd,if_neg (by omega),if_neg (by omega),if_pos k] at hdr
      have hl4:=EO ha hdr
      have hq:aV.mk s ((a+[110,117,108,108].length:Nat):Int) false=Zq s r:=SV ha hdr
      refine Prod.ext ?_ ?_
      · show af.mk 0 0 [] [] []=n
        conv=>rhs; rw [<- l9 n,k,hn0.1,hn0.2,hlf.1,hlf.2]
      · rw [<- hq]
        simp only [hpos]
        congr 2
        simp only [List.length_cons,List.length_nil] at hl4 ⊢; omega
    · have e1:pk s a=45:=by simpa using e1
      exact num (.inl e1)
    · simp only [w0,Bool.and_eq_true,decide_eq_true_eq] at e5
      exact num (.inr e5)
    · have QT:¬ (48<=pk s a/\pk s a<=57):=by
        simp only [w0,Bool.and_eq_false_iff,decide_eq_false_iff_not] at e5
        omega
      have n2:pk s a ≠ 34:=by simpa using e2
      have n3:pk s a ≠ 91:=by simpa using e3
      have n4:pk s a ≠ 123:=by simpa using e4
      have n0:pk s a ≠ 110:=by simpa using e0
      have n1:pk s a ≠ 45:=by simpa using e1
      refine Tot.ret ⟨⟨a,true,rfl,Nat.le_refl _,ha,fun h=>by cases h⟩,oD (Nat.zero_le _),fun n r hS _ hdr => ?_⟩
      exfalso
      rcases FZ n r hS hdr with ⟨_,hx⟩ | ⟨_,hx⟩ | ⟨_,hx⟩ | ⟨_,hx⟩ | ⟨_,hx⟩<;>omega
end Go.Ab
end
section
namespace Go.Ab
open Go
set_option maxRecDepth 100000
theorem KR:tH<=lim:=by decide
theorem T.iT {s:aA} (hl:s.length<=1000000):Tot (fun v:af × Bool=>jT tH 6 v.1/\∀ n,Val n=true->s.length<=2000->s=iH 5 n->v=(n,true)) (fun f=>G.iT f s):=by
 refine Tot.up ?_
 simp only [G.iT]
 refine Tot.ite (fun e=>Tot.ret ⟨lG _ _,fun n _ hl=>by simp only [decide_eq_true_eq] at e; omega⟩) (fun _=>Tot.bind (T.node 5 (by omega) s 0 (Nat.zero_le _) hl) ?_)
 rintro ⟨m,q⟩ ⟨⟨b,bd,hb,_,hbl,_⟩,hf,hall⟩
 simp only at hb hf
 subst hb
 have key:∀ n,Val n=true->s=iH 5 n->m=n/\bd=false:=fun n hn hs=>by
  have:=hall n [] (jP hn) Fa (by rw [List.drop_zero,List.append_nil]; exact hs)
  simp only [Prod.mk.injEq] at this
  have h3:=this.2
  unfold Zq at h3
  injection h3 with _ _ h5
  exact ⟨this.1,h5⟩
 refine Tot.ite (fun e=>Tot.ret ⟨lG _ _,fun n hn _ hs => ?_⟩) (fun e=>Tot.iy (T0.aT KR hf) (Tot.ite (fun ev=>Tot.iy (T.bI 5 (by omega) (jP ev)) (Tot.ite (fun e2=>Tot.ret ⟨hf,fun n hn _ hs => ?_⟩) (fun e2=>Tot.ret ⟨lG _ _,fun n hn _ hs => ?_⟩))) (fun ev=>Tot.ret ⟨lG _ _,fun n hn _ hs => ?_⟩)))
 ·rw [(key n hn hs).2] at e; cases e
 ·rw [(key n hn hs).1]
 ·rw [(key n hn hs).1,<- hs] at e2; simp at e2
 ·rw [(key n hn hs).1,hn] at ev; cases ev
theorem Ic {l:List aA} (h:l.flatMap pY=[]):l=[]:=by
 cases l with
 | nil=>rfl
 | cons t l=>rw [List.flatMap_cons] at h; cases h
theorem Jy (t:aA):oI t ≠ []:=by unfold oI; split<;>simp
theorem T.dJ {s:aA} (hl:s.length<=1000000):Tot (fun v:List aA × Bool=>ji 60 v.1/\∀ l,lY l=true->s=nG l->v=(l,true)) (fun f=>G.dJ f s):=by
  have fin0:ji 60 []:=⟨by simp,fun t h=>by cases h⟩
  have L:∀ (k a:Nat) (z:List aA),a+k=s.length->z.length<=5->(∀ t,t∈z->t.length<=4) ->
      Tot (fun v:List aA × Bool=>ji 60 v.1/\∀ rest,lY (z++rest)=true->s=nG (z++rest)->(((0<a\/rest=[])/\s.drop a=rest.flatMap pY)\/(∃ t r',rest=t::r'/\s.drop a=oI t++r'.flatMap pY))->v=(z++rest,true))
        (fun f=>G.dJ.L1 f s (a:Int) z):=by
    intro k
    induction k using Nat.strongRecOn with | _ k ih =>
    intro a z ha hz ht
    have hfz:ji 60 z:=⟨by omega,fun t h=>by have:=ht t h; omega⟩
    have hsz:Sm z:=hfz.sm l7
    have fin:(∀ rest,lY (z++rest)=true->s=nG (z++rest)->(((0<a\/rest=[])/\s.drop a=rest.flatMap pY)\/(∃ t r',rest=t::r'/\s.drop a=oI t++r'.flatMap pY))->rest=[]) ->
        Tot (fun v:List aA × Bool=>ji 60 v.1/\∀ rest,lY (z++rest)=true->s=nG (z++rest)->(((0<a\/rest=[])/\s.drop a=rest.flatMap pY)\/(∃ t r',rest=t::r'/\s.drop a=oI t++r'.flatMap pY))->v=(z++rest,true))
          (fun n=>Option.bind (G.bF n z) fun v1=>cond (v1==s) (Option.bind (G.bZ n z) fun v2=>cond v2 (some (z,true)) (some ([],false))) (some ([],false))):=fun h=>by
      refine Tot.iy (T.bF hsz) (Tot.ite (fun e=>Tot.iy (T.bZ hsz) (Tot.ite (fun e2=>Tot.ret ⟨hfz,fun rest h1 h2 h3 => ?_⟩) (fun e2=>Tot.ret ⟨fin0,fun rest h1 h2 h3 => ?_⟩))) (fun e=>Tot.ret ⟨fin0,fun rest h1 h2 h3 => ?_⟩))
      · rw [h rest h1 h2 h3,List.append_nil]
      · have:=h rest h1 h2 h3
        rw [this,List.append_nil] at h1
        rw [h1] at e2; cases e2
      · have:=h rest h1 h2 h3
        rw [this,List.append_nil] at h2
        rw [<- h2] at e; simp at e
    refine Tot.up ?_
    simp only [G.dJ.L1]
    refine Tot.ite (fun e => ?_) (fun e=>fin fun rest _ _ h => ?_)
    · have hal:a<s.length:=by simp only [decide_eq_true_eq] at e; omega
      refine Tot.ite (fun e4 => ?_) (fun e4=>fin fun rest h1 _ _ => ?_)
      · have h4:z.length<=4:=by simp only [decide_eq_true_eq] at e4; omega
        have w1:IntKind.wrap .i64 ((a:Int)+1)=((a+1:Nat):Int):=bu (by omega)
        have w5:IntKind.wrap .i64 ((a:Int)+5)=((a+5:Nat):Int):=wrapN (m:=a+5) (by omega) (by omega)
        have w6:IntKind.wrap .i64 ((a:Int)+6)=((a+6:Nat):Int):=wrapN (m:=a+6) (by omega) (by omega)
        have hd0:=aY (0:UInt8) hal
        have tag:(∀ rest,(((0<a\/rest=[])/\s.drop a=rest.flatMap pY)\/(∃ t r',rest=t::r'/\s.drop a=oI t++r'.flatMap pY))->∃ t r',rest=t::r'/\s.drop a=oI t++r'.flatMap pY) ->
            Tot (fun v:List aA × Bool=>ji 60 v.1/\∀ rest,lY (z++rest)=true->s=nG (z++rest)->(((0<a\/rest=[])/\s.drop a=rest.flatMap pY)\/(∃ t r',rest=t::r'/\s.drop a=oI t++r'.flatMap pY))->v=(z++rest,true))
            (fun n=>chk (0<=(a:Int)/\(a:Int)<((s.length:Nat):Int)) (cond ((((s.getD a 0).toNat:Nat):Int)==42)
              (chk ((z.length+1)*18<=2^46) (G.dJ.L1 n s ((a+1:Nat):Int) (z++[[42]])))
              (cond (decide (((a+6:Nat):Int)<=((s.length:Nat):Int)))
              (chk (0<=((a+1:Nat):Int)/\((a+1:Nat):Int)<=((a+5:Nat):Int)/\((a+5:Nat):Int)<=((s.length:Nat):Int))
              (chk ((z.length+1)*18<=2^46) (G.dJ.L1 n s ((a+6:Nat):Int) (z++[((s.take (a+5)).drop (a+1))]))))
              (some ([],false))))):=fun hr=>by
          rw [show (42:Int)=(((42:UInt8).toNat:Nat):Int) from rfl]
          have PX:∀ {t:aA} {r':List aA},lY (z++t::r')=true->qG t=true:=fun {t r'} h=>(lq h).2 t (List.mem_append_right _ (List.mem_cons_self ..))
          refine Tot.chk ⟨by omega,by omega⟩ (Tot.ite (fun e1=>Tot.chk (by omega) ((ih (s.length-(a+1)) (by omega) (a+1) (z++[[42]]) (by omega) (by simp; omega) (fun t h => ?_)).mono ?_)) (fun e1=>Tot.ite (fun e2=>Tot.chk ⟨by omega,by omega,?_⟩ (Tot.chk (by omega) ((ih (s.length-(a+6)) (by omega) (a+6) (z++[(s.take (a+5)).drop (a+1)]) ?_ (by simp; omega) (fun t h => ?_)).mono ?_))) (fun e2=>Tot.ret ⟨fin0,fun rest h1 h2 h3 => ?_⟩)))
          · rcases List.mem_append.1 h with e | e
            · exact ht t e
            · rw [List.mem_singleton] at e; rw [e]; decide
          · rintro v ⟨g1,g2⟩
            refine ⟨g1,fun rest h1 h2 h3 => ?_⟩
            obtain ⟨t,r',rfl,hd⟩:=hr rest h3
            rw [kP,beq_iff_eq] at e1
            rw [hd0,e1] at hd
            have h42:t=[42]:=by
              unfold oI at hd
              split at hd
              · rename_i c; exact c
              · have:=(List.cons.inj hd).1
                exact absurd this (by decide)
            subst h42
            have hq:oI [42]=[42]:=rfl
            rw [hq] at hd
            have h5:=g2 r' (by rw [List.append_assoc]; exact h1) (by rw [List.append_assoc]; exact h2) (.inl ⟨.inl (by omega),(List.cons.inj hd).2⟩)
            rw [h5,List.append_assoc]; rfl
          · simp only [decide_eq_true_eq] at e2; omega
          · simp only [decide_eq_true_eq] at e2; omega
          · rcases List.mem_append.1 h with e | e
            · exact ht t e
            · rw [List.mem_singleton] at e; rw [e,List.length_drop,List.length_take]; omega
          · rintro v ⟨g1,g2⟩
            refine ⟨g1,fun rest h1 h2 h3 => ?_⟩
            obtain ⟨t,r',rfl,hd⟩:=hr rest h3
            rw [kP] at e1
            have KN:=PX h1
            have hne:t ≠ [42]:=fun h42=>by
              subst h42
              have hq:oI [42]=[42]:=rfl
              rw [hq,hd0] at hd
              rw [(List.cons.inj hd).1] at e1
              exact absurd e1 (by decide)
            have hq:oI t=34::(t++[34]):=if_neg hne
            have hsv:uy t=true:=by
              unfold qG at KN
              simp only [Bool.or_eq_true,beq_iff_eq] at KN
              exact KN.resolve_left hne
            have h4':=su hsv
            have hd6:s.drop (a+6)=r'.flatMap pY:=by
              have:=drop_tail hd
              rw [hq] at this
              simpa [h4'] using this
            have Qr:(s.take (a+5)).drop (a+1)=t:=by
              rw [hq] at hd
              have e1:s.drop (a+1)=t++([34]++r'.flatMap pY):=by
                have:=(kL (hd.trans (List.cons_append ..))).2.2
                rw [this,List.append_assoc]
              rw [List.drop_take,e1,show a+5-(a+1)=4 by omega,List.take_append_of_le_length (by omega),List.take_of_length_le (by omega)]
            rw [Qr] at g2
            have h5:=g2 r' (by rw [List.append_assoc]; exact h1) (by rw [List.append_assoc]; exact h2) (.inl ⟨.inl (by omega),hd6⟩)
            rw [h5,List.append_assoc]; rfl
          · obtain ⟨t,r',rfl,hd⟩:=hr rest h3
            rw [kP] at e1
            have hne:t ≠ [42]:=fun h42=>by
              subst h42
              have hq:oI [42]=[42]:=rfl
              rw [hq,hd0] at hd
              rw [(List.cons.inj hd).1] at e1
              exact absurd e1 (by decide)
            have hq:oI t=34::(t++[34]):=if_neg hne
            have hsv:uy t=true:=by
              have KN:=PX h1
              unfold qG at KN
              simp only [Bool.or_eq_true,beq_iff_eq] at KN
              exact KN.resolve_left hne
            have h4':=su hsv
            have:=EO (Nat.le_of_lt hal) hd
            rw [hq] at this
            simp [h4'] at this
            simp only [decide_eq_false_iff_not] at e2
            omega
        simp only [w1,w5,w6,Int.toNat_natCast]
        refine Tot.ite (fun e0=>Tot.chk ⟨by omega,by omega⟩ ?_) (fun e0=>tag fun rest h => ?_)
        · rw [show (44:Int)=(((44:UInt8).toNat:Nat):Int) from rfl]
          refine Tot.ite (fun e1 => ?_) (fun e1=>tag fun rest h => ?_)
          · rw [kP,beq_iff_eq] at e1
            refine (ih (s.length-(a+1)) (by omega) (a+1) z (by omega) hz ht).mono ?_
            rintro v ⟨g1,g2⟩
            refine ⟨g1,fun rest h1 h2 h3=>g2 rest h1 h2 ?_⟩
            rcases h3 with ⟨_,h3⟩ | ⟨t,r',rfl,h3⟩
            · rw [hd0] at h3
              cases rest with
              | nil=>cases h3
              | cons t r' =>
                rw [List.flatMap_cons] at h3
                exact .inr ⟨t,r',rfl,(List.cons.inj h3).2⟩
            · exfalso
              rw [hd0,e1] at h3
              have KN:=(lq h1).2 t (List.mem_append_right _ (List.mem_cons_self ..))
              cases hq:oI t with
              | nil=>exact Jy t hq
              | cons b q =>
                rw [hq] at h3
                have hb:(44:UInt8)=b:=(List.cons.inj h3).1
                exact xh KN 44 (.inr rfl) (by rw [hq,hb]; exact List.mem_cons_self ..)
          · rw [kP] at e1
            rcases h with ⟨_,h⟩ | h
            · exfalso
              rw [hd0] at h
              cases rest with
              | nil=>cases h
              | cons t r' =>
                rw [List.flatMap_cons] at h
                have hb:s.getD a 0=44:=(List.cons.inj h).1
                rw [hb] at e1; exact absurd e1 (by decide)
            · exact h
        · have h0:a=0:=by simp only [decide_eq_false_iff_not] at e0; omega
          rcases h with ⟨h | h,h2⟩ | h
          · omega
          · rw [h,hd0] at h2; cases h2
          · exact h
      · simp only [decide_eq_false_iff_not] at e4
        have:=(lq h1).1
        rw [List.length_append] at this
        omega
    · simp only [decide_eq_false_iff_not] at e
      have hd:s.drop a=[]:=List.drop_of_length_le (by omega)
      rw [hd] at h
      rcases h with ⟨_,h⟩ | ⟨t,r',_,h⟩
      · exact Ic h.symm
      · exact absurd (List.append_eq_nil_iff.1 h.symm).1 (Jy t)
  refine Tot.up ?_
  simp only [G.dJ]
  refine (L s.length 0 [] (by omega) (by simp) (fun t h=>by cases h)).mono fun v hv=>⟨hv.1,fun l h1 h2=>hv.2 l h1 h2 ?_⟩
  rw [List.drop_zero,h2]
  cases l with
  | nil=>exact .inl ⟨.inr rfl,rfl⟩
  | cons t r=>exact .inr ⟨t,r,rfl,yH h1⟩
theorem T.gJ {d:Nat} {n:af} (h:jT tH (d+1) n):Tot (fun v:List aA=>ji tH v/\∀ p,n=nX p->v=p) (fun f=>G.gJ f n):=by
  have hk:=h.kids
  have hmx:tH=1048576:=rfl
  have L:∀ (k i:Nat) (z:List aA),i+k=n.Kids.length->z.length=i->(∀ t,t∈z->t.length<=tH)->Tot (fun v:List aA=>ji tH v/\∀ p,n=nX p->z=p.take i->v=p) (fun f=>G.gJ.L1 f n (i:Int) z):=by
    intro k
    induction k with
    | zero =>
      intro i z hi hz ht
      refine Tot.up ?_
      simp only [G.gJ.L1]
      refine Tot.cf (decide_eq_false (by omega)) (Tot.ret ⟨⟨by omega,ht⟩,fun p hn he => ?_⟩)
      rw [he,List.take_of_length_le]
      rw [hn] at hi
      simp [nX] at hi; omega
    | succ k ih =>
      intro i z hi hz ht
      have hil:i<n.Kids.length:=by omega
      refine Tot.up ?_
      simp only [G.gJ.L1,Int.toNat_natCast,bu (show i+1<9223372036854775808 by omega)]
      refine Tot.ct (decide_eq_true (by omega)) (Tot.chk (by omega) (Tot.chk (by omega) ((ih (i+1) _ (by omega) (by simp [hz]) (fun t hm => ?_)).mono fun v hv=>⟨hv.1,fun p hn he=>hv.2 p hn ?_⟩)))
      · rcases List.mem_append.1 hm with e | e
        · exact ht t e
        · rw [List.mem_singleton] at e
          subst e
          have:=h.kid hil
          cases d with
          | zero=>exact this.elim
          | succ d=>exact this.1
      · rw [hn] at hil ⊢
        have MP:i<p.length:=by simpa [nX] using hil
        have:(nX p).Kids.getD i default=oZ (p.getD i default):=by
          show (p.map oZ).getD i default=_
          rw [dI _ (by simpa using MP),dI _ MP,List.getElem_map]
        rw [this,he]
        exact take_snoc (default:aA) MP
  refine Tot.up ?_
  simp only [G.gJ]
  exact (L n.Kids.length 0 [] (by omega) rfl (fun t h=>by cases h)).mono fun v hv=>⟨hv.1,fun p hn=>hv.2 p hn rfl⟩
theorem Gu {o:iI} (h:vK o=true):Shape 6 (qc o)=true:=by
 have hf:=kD h
 have W:∀ (d:Nat) {s:aA},PT s=true->Shape (d+1) (oZ s)=true:=fun d s hs=>by
  unfold Shape Parts
  simp [oZ,hs]
 have S:∀ (d:Nat) {p:List aA},PP p=true->Shape (d+2) (nX p)=true:=fun d p hp=>by
  unfold PP at hp
  simp only [Bool.and_eq_true,decide_eq_true_eq,List.all_eq_true] at hp
  unfold Shape Parts
  simp only [nX,List.all_map,List.length_map,Bool.and_eq_true,List.all_eq_true]
  refine ⟨by simp; omega,fun s hs=>W d (hp.1 s hs)⟩
 have e:Shape 6 (qc o)=(Parts (qc o)&&(qc o).Kids.all (Shape 5)):=rfl
 rw [e,Bool.and_eq_true]
 refine ⟨?_,?_⟩
 ·unfold Parts
  have:NM yc=true:=by decide
  simp only [qc,this]
  rfl
 ·show [nX o.From,oZ (oW.getD o.Kind.toNat default),nX o.Path,o.Value].all (Shape 5)=true
  simp only [List.all_cons,List.all_nil,Bool.and_eq_true,and_true]
  refine ⟨S 3 hf.from_,W 4 ?_,S 3 hf.path,jP hf.val⟩
  rcases A8 hf with e | e | e | e | e | e<;>rw [e]<;>decide
theorem T.fH {d:Nat} {n:af} (h:jT tH (d+2) n):Tot (fun v:iI × Bool=>(∃ D,qC tH D v.1)/\∀ o,vK o=true->Val (qc o)=true->n=qc o->v=(o,true)) (fun f=>G.fH f n):=by
  have no:∃ D,qC tH D (iI.mk 0 [] [] (af.mk 0 0 [] [] [])):=⟨1,⟨Nat.zero_le _,fun t h=>by cases h⟩,⟨Nat.zero_le _,fun t h=>by cases h⟩,lG _ _⟩
  refine Tot.up ?_
  simp only [G.fH]
  refine Tot.iy (T0.aT KR h) (Tot.ite (fun ev=>Tot.ite (fun e4=>Tot.ret ⟨no,fun o _ _ hn => ?_⟩) (fun e4=>Tot.ite (fun ek=>Tot.ret ⟨no,fun o _ _ hn => ?_⟩) (fun ek=>Tot.iy (a:=oW) (Ev.up ?_) ?_))) (fun ev=>Tot.ret ⟨no,fun o _ hv hn => ?_⟩))
  · rw [hn] at e4; exact absurd e4 (by simp [qc])
  · rw [hn] at ek; exact absurd ek (by simp [qc])
  · simp only [G.jE]; exact Ev.ret _
  · have hl:n.Kids.length=4:=by
      have:((n.Kids.length:Nat):Int)=4:=by simpa using ek
      omega
    have kf:∀ i,i<4->jT tH (d+1) (n.Kids.getD i default):=fun i hi=>h.kid (by omega)
    have L:∀ (k i:Nat) (kd:Int),i+k=7->1<=i->Tot (fun v:iI × Bool=>(∃ D,qC tH D v.1)/\∀ o,vK o=true->Val (qc o)=true->n=qc o->(o.Kind.toNat<i->kd=o.Kind)->v=(o,true)) (fun f=>G.fH.L1 f n oW kd (i:Int)):=by
      intro k
      induction k with
      | zero =>
        intro i kd hi h1
        refine Tot.up ?_
        simp only [G.fH.L1]
        refine Tot.cf (decide_eq_false (by show ¬ (i:Int)<((7:Nat):Int); omega)) (Tot.chk (by omega) (Tot.bind (T.gJ (kf 2 (by omega))) ?_))
        rintro p2 ⟨f2,c2⟩
        refine Tot.chk (by omega) (Tot.bind (T.gJ (kf 0 (by omega))) ?_)
        rintro p0 ⟨f0,c0⟩
        refine Tot.chk (by omega) (Tot.iy (T0.ay KR (kf 3 (by omega))) ?_)
        have hfo:qC tH (d+1) (iI.mk kd p2 p0 (n.Kids.getD 3 default)):=⟨f2,f0,kf 3 (by omega)⟩
        have eq:∀ o,vK o=true->n=qc o->(o.Kind.toNat<i->kd=o.Kind)->iI.mk kd p2 p0 (n.Kids.getD 3 default)=o:=fun o ho hn hkd=>by
          have hf:=kD ho
          have k1:=hf.k1
          have k6:=hf.k6
          rw [c2 o.Path (by rw [hn]; rfl),c0 o.From (by rw [hn]; rfl),hkd (by omega),hn]; rfl
        refine Tot.iy (T0.ig KR hfo) (Tot.ite (fun eo=>Tot.iy (T.iM eo) ?_) (fun eo=>Tot.ret ⟨no,fun o ho _ hn hkd => ?_⟩))
        · obtain ⟨w,gw,hw⟩:=T.kM (Gu eo) (jP ev)
          refine Tot.iy gw (Tot.ite (fun es=>Tot.ret ⟨⟨_,hfo⟩,fun o ho _ hn hkd => ?_⟩) (fun es=>Tot.ret ⟨no,fun o ho _ hn hkd => ?_⟩))
          · rw [eq o ho hn hkd]
          · have:=hw.2 (by rw [eq o ho hn hkd,hn])
            rw [this] at es; cases es
        · rw [eq o ho hn hkd,ho] at eo; cases eo
      | succ k ih =>
        intro i kd hi h1
        refine Tot.up ?_
        simp only [G.fH.L1,Int.toNat_natCast,bu (show i+1<9223372036854775808 by omega)]
        refine Tot.ct (decide_eq_true (by show (i:Int)<((7:Nat):Int); omega)) (Tot.chk (by omega) (Tot.chk (by show 0<=(i:Int)/\(i:Int)<((7:Nat):Int); omega) (Tot.ite (fun e=>(ih (i+1) (i:Int) (by omega) (by omega)).mono fun v hv=>⟨hv.1,fun o ho hv' hn hkd=>hv.2 o ho hv' hn fun hlt => ?_⟩) (fun e=>(ih (i+1) kd (by omega) (by omega)).mono fun v hv=>⟨hv.1,fun o ho hv' hn hkd=>hv.2 o ho hv' hn fun hlt => ?_⟩))))
        · have hf:=kD ho
          have k1:=hf.k1
          have k6:=hf.k6
          have:oW.getD o.Kind.toNat default=oW.getD i default:=by
            rw [hn] at e
            have e:oW.getD o.Kind.toNat default=oW.getD i default:=beq_iff_eq.1 e
            exact e
          have:=CX _ (by omega) _ (by omega) this
          omega
        · have hf:=kD ho
          have k1:=hf.k1
          have k6:=hf.k6
          refine hkd ?_
          have:o.Kind.toNat ≠ i:=fun he=>by
            rw [hn] at e
            have e:oW.getD o.Kind.toNat default ≠ oW.getD i default:=beq_eq_false_iff_ne.1 e
            rw [he] at e; exact e rfl
          omega
    exact (L 6 1 0 (by omega) (by omega)).mono fun v hv=>⟨hv.1,fun o ho hv' hn=>hv.2 o ho hv' hn fun hlt=>by
      have hf:=kD ho
      have k1:=hf.k1
      omega⟩
  · rw [hn,hv] at ev; cases ev
theorem T.gp {s:aA} (hl:s.length<=1000000):Tot (fun v:List iI × Bool=>uw v.1/\∀ l,o6 l=true->okO l=true->s=opsT l->v=(l,true)) (fun f=>G.gp f s):=by
 have fin0:uw []:=⟨Nat.zero_le _,fun o h=>by cases h⟩
 have L:∀ (k:Nat) (s:aA) (z:List iI),s.length=k->s.length<=1000000->z.length<=13->(∀ o,o∈z->∃ D,qC tH D o)->Tot (fun v:List iI × Bool=>uw v.1/\∀ l,o6 l=true->okO l=true->z.length<=l.length->z=l.take z.length->s=opsT (l.drop z.length)->v=(l,true)) (fun f=>G.gp.L1 f s z):=by
  intro k
  induction k using Nat.strongRecOn with | _ k ih =>
  intro s z hk hl hz hf
  have fz:uw z:=⟨by omega,hf⟩
  refine Tot.up ?_
  simp only [G.gp.L1]
  refine Tot.ite (fun e=>Tot.ite (fun e12 => ?_) (fun e12=>Tot.ret ⟨fz,fun l hp _ hzl _ _ => ?_⟩)) (fun e=>Tot.ret ⟨fz,fun l _ _ hzl he hd => ?_⟩)
  ·have hal:0<s.length:=by simp only [decide_eq_true_eq] at e; omega
   have Qv:z.length<=12:=by simp only [decide_eq_true_eq] at e12; omega
   refine Tot.bind (T.node 5 (by omega) s 0 (Nat.zero_le _) hl) ?_
   rintro ⟨m,q⟩ ⟨⟨b,bd,hb,_,hbl,_⟩,hfm,hall⟩
   simp only at hb hfm
   subst hb
   have JX:∀ l,o6 l=true->okO l=true->z.length<=l.length->s=opsT (l.drop z.length)->z.length<l.length/\vK (l.getD z.length default)=true/\Val (qc (l.getD z.length default))=true /\
     m=qc (l.getD z.length default)/\bd=false/\s.drop b=59::opsT (l.drop (z.length+1)):=fun l hp ho hzl hd=>by
    have hlt:z.length<l.length:=by
     rcases Nat.lt_or_ge z.length l.length with h | h
     ·exact h
     ·rw [List.drop_of_length_le h] at hd
      have:s.length=0:=by rw [hd]; rfl
      omega
    have hm:=getD_mem default hlt
    have hv:Val (qc (l.getD z.length default))=true:=by
     unfold okO at ho
     exact List.all_eq_true.1 ho _ hm
    have hd2:s.drop 0=iH 5 (qc (l.getD z.length default))++(59::opsT (l.drop (z.length+1))):=by
     rw [List.drop_zero,hd,aY default hlt]
     unfold opsT
     rw [List.flatMap_cons]
     unfold Ja
     simp
    have h1:=hall _ _ (jP hv) (uQ rfl) hd2
    simp only [Prod.mk.injEq] at h1
    have h3:=h1.2
    unfold Zq at h3
    injection h3 with _ h4 h5
    have h6:b=s.length-(59::opsT (l.drop (z.length+1))).length:=by omega
    refine ⟨hlt,(wF hp).2 _ hm,hv,h1.1,h5,?_⟩
    rw [h6]; exact (qV (Nat.zero_le _) hd2).1
   refine Tot.bind (T.fH (d:=4) hfm) ?_
   rintro ⟨o,ko⟩ ⟨fo,co⟩
   refine Tot.ite (fun eb=>Tot.ret ⟨fin0,fun l hp ho hzl _ hd => ?_⟩) (fun eb=>Tot.ite (fun e2=>Tot.iy (T.peek hbl hl) (Tot.ite (fun e59=>Tot.ret ⟨fin0,fun l hp ho hzl _ hd => ?_⟩) (fun e59=>Tot.chk (by omega) ?_))) (fun e2=>Tot.ret ⟨fin0,fun l hp ho hzl _ hd => ?_⟩))
   ·rw [(JX l hp ho hzl hd).2.2.2.2.1] at eb; cases eb
   ·have:=kJ (JX l hp ho hzl hd).2.2.2.2.2
    rw [this] at e59
    simp at e59
   ·have e59:pk s b=59:=by simpa using e59
    have Qh:=(qy (show pk s b ≠ 0 by omega)).1
    simp only [bu (show b+1<9223372036854775808 by omega),Int.toNat_natCast]
    refine Tot.chk ⟨by omega,by omega,by omega⟩ ((ih (s.length-(b+1)) (by omega) (s.drop (b+1)) (z++[o]) (by rw [List.length_drop]) (by rw [List.length_drop]; omega) (by simp; omega) (fun x hx => ?_)).mono fun v hv=>⟨hv.1,fun l hp ho hzl he hd => ?_⟩)
    ·rcases List.mem_append.1 hx with e | e
     ·exact hf x e
     ·rw [List.mem_singleton] at e; subst e; exact fo
    ·obtain ⟨n1,n2,n3,n4,_,n6⟩:=JX l hp ho hzl hd
     have hc:=co _ n2 n3 n4
     simp only [Prod.mk.injEq] at hc
     have hlen:(z++[o]).length=z.length+1:=by simp
     refine hv.2 l hp ho (by rw [hlen]; omega) ?_ (by rw [hlen]; exact (kL n6).2.2)
     rw [hlen,<- take_snoc default n1,<- he,<- hc.1]
   ·obtain ⟨_,n2,n3,n4,_,_⟩:=JX l hp ho hzl hd
    have hc:=co _ n2 n3 n4
    simp only [Prod.mk.injEq] at hc
    rw [hc.2] at e2; cases e2
  ·simp only [decide_eq_false_iff_not] at e12
   have:=(wF hp).1
   omega
  ·have hal:s.length=0:=by simp only [decide_eq_false_iff_not] at e; omega
   have hd:opsT (l.drop z.length)=[]:=by rw [<- hd]; exact List.eq_nil_of_length_eq_zero hal
   have:l.length<=z.length:=by
    rcases Nat.lt_or_ge z.length l.length with h | h
    ·rw [aY default h] at hd
     unfold opsT at hd
     rw [List.flatMap_cons] at hd
     exact absurd (List.append_eq_nil_iff.1 hd).1 (Jb _)
    ·exact h
   rw [List.take_of_length_le this] at he
   rw [he]
 refine Tot.up ?_
 simp only [G.gp]
 exact (L s.length s [] rfl hl (by simp) (fun o h=>by cases h)).mono fun v hv=>⟨hv.1,fun l hp ho hs=>hv.2 l hp ho (Nat.zero_le _) rfl (by simpa using hs)⟩
theorem T.iU {s:aA} (hl:s.length<=1000000):Tot (fun v:aA × aA=>v.1.length<=s.length/\v.2.length<=s.length/\∀ a b,(32:UInt8) ∉ a->s=a++32::b->v=(a,b)) (fun f=>G.iU f s):=by
  have L:∀ (k i:Nat),i+k=s.length->Tot (fun v:aA × aA=>v.1.length<=s.length/\v.2.length<=s.length/\∀ a b,(32:UInt8) ∉ a->s=a++32::b->i<=a.length->v=(a,b)) (fun f=>G.iU.L1 f s (i:Int)):=by
    intro k
    induction k with
    | zero =>
      intro i hi
      refine Tot.up ?_
      simp only [G.iU.L1]
      refine Tot.cf (decide_eq_false (by omega)) (Tot.ret ⟨Nat.le_refl _,Nat.zero_le _,fun a b _ hs hle => ?_⟩)
      have:=congrArg List.length hs
      simp at this; omega
    | succ k ih =>
      intro i hi
      have hil:i<s.length:=by omega
      refine Tot.up ?_
      simp only [G.iU.L1,Int.toNat_natCast,bu (show i+1<9223372036854775808 by omega)]
      rw [show (32:Int)=(((32:UInt8).toNat:Nat):Int) from rfl]
      have at_:∀ a b,s=a++32::b->i<=a.length->(i<a.length->s.getD i 0∈a)/\(i=a.length->s.getD i 0=32):=fun a b hs hle=>by
        constructor
        · intro h
          rw [dI (0:UInt8) hil]
          have:s[i]=a[i]:=by
            simp only [hs]
            rw [List.getElem_append_left h]
          rw [this]; exact List.getElem_mem h
        · intro h
          subst h
          rw [dI (0:UInt8) hil]
          simp only [hs]
          rw [List.getElem_append_right (Nat.le_refl _)]
          simp
      refine Tot.ct (decide_eq_true (by omega)) (Tot.chk ⟨by omega,by omega⟩ (Tot.ite (fun e=>Tot.chk ⟨by omega,by omega,by omega⟩ (Tot.chk ⟨by omega,by omega,by omega⟩ (Tot.ret ⟨by rw [List.length_take]; omega,by rw [List.length_drop]; omega,fun a b ha hs hle => ?_⟩))) (fun e=>(ih (i+1) (by omega)).mono fun v hv=>⟨hv.1,hv.2.1,fun a b ha hs hle=>hv.2.2 a b ha hs ?_⟩)))
      · rw [kP,beq_iff_eq] at e
        obtain ⟨h1,h2⟩:=at_ a b hs hle
        have:i=a.length:=by
          rcases Nat.lt_or_ge i a.length with h | h
          · have:=h1 h
            rw [e] at this; exact absurd this ha
          · omega
        subst this
        rw [hs]
        refine Prod.ext ?_ ?_
        · show (a++32::b).take a.length=a
          simp
        · show (a++32::b).drop (a.length+1)=b
          simp
      · rw [kP] at e
        obtain ⟨h1,h2⟩:=at_ a b hs hle
        have:i ≠ a.length:=fun h=>by rw [h2 h] at e; exact absurd e (by decide)
        omega
  refine Tot.up ?_
  simp only [G.iU]
  exact (L s.length 0 (by omega)).mono fun v hv=>⟨hv.1,hv.2.1,fun a b ha hs=>hv.2.2 a b ha hs (Nat.zero_le _)⟩
theorem T.bK (s:aA):Tot (PR s) (fun f=>G.bK f s):=by
  refine Tot.up ?_
  simp only [G.bK]
  refine Tot.ite (fun e=>Tot.ret (wG fun q _ h2 _=>by simp only [decide_eq_true_eq] at e; omega)) (fun e => ?_)
  have hs2:s.length<=2000:=by simp only [decide_eq_false_iff_not] at e; omega
  have hl:s.length<=1000000:=by omega
  refine Tot.bind (T.iU hl) ?_
  rintro ⟨w1,x1⟩ ⟨a1,b1,c1⟩
  have a1:w1.length<=s.length:=a1
  have b1:x1.length<=s.length:=b1
  refine Tot.bind (T.iU (s:=x1) (by omega)) ?_
  rintro ⟨w2,x2⟩ ⟨a2,b2,c2⟩
  have a2:w2.length<=x1.length:=a2
  have b2:x2.length<=x1.length:=b2
  refine Tot.bind (T.iU (s:=x2) (by omega)) ?_
  rintro ⟨w3,x3⟩ ⟨a3,b3,c3⟩
  have a3:w3.length<=x2.length:=a3
  have b3:x3.length<=x2.length:=b3
  refine Tot.bind (T.iU (s:=x3) (by omega)) ?_
  rintro ⟨w4,x4⟩ ⟨a4,b4,c4⟩
  have a4:w4.length<=x3.length:=a4
  have b4:x4.length<=x3.length:=b4
  have words:∀ q,s ≠ []->jZ q=s->w1=pO.getD q.Method.toNat default/\w2=q.Name/\w3=nG q.Want/\w4=nG q.jk/\x4=(if q.Method=4 then opsT q.Ops else iH 5 q.Body):=fun q h0 hw=>by
    have hne:jZ q ≠ []:=by rw [hw]; exact h0
    obtain ⟨o1,o2,o3,o4⟩:=lS hne
    have hr:=zX o1
    rw [hw] at o4
    have e1:s=pO.getD q.Method.toNat default++32::(q.Name++32::(nG q.Want++32::(nG q.jk++32::(if q.Method=4 then opsT q.Ops else iH 5 q.Body)))):=by
      rw [o4]; unfold qJ IB; simp
    have h1:=c1 _ _ (JB hr) e1
    simp only [Prod.mk.injEq] at h1
    have h2:=c2 _ _ (IZ hr.tJ) h1.2
    simp only [Prod.mk.injEq] at h2
    have h3:=c3 _ _ (Bq _) h2.2
    simp only [Prod.mk.injEq] at h3
    have h4:=c4 _ _ (Bq _) h3.2
    simp only [Prod.mk.injEq] at h4
    exact ⟨h1.1,h2.1,h3.1,h4.1,h4.2⟩
  refine Tot.iy (a:=pO) (Ev.up ?_) ?_
  · simp only [G.jV]; exact Ev.ret _
  have L:∀ (k i:Nat) (m:Int),i+k=6->1<=i->Tot (fun v:RequestT × Bool=>(v.2=false->v.1=sS)/\(v.2=true->jZ v.1=s/\s ≠ []/\s.length<=2000)/\∀ q,s ≠ []->s.length<=2000->jZ q=s->(q.Method.toNat<i->m=q.Method)->v=(q,true)) (fun f=>G.bK.L1 f s (w1,x1) (w2,x2) (w3,x3) (w4,x4) pO (i:Int) m):=by
    intro k
    induction k with
    | zero =>
      intro i m hi h1
      have no:(∀ q,s ≠ []->s.length<=2000->jZ q=s->(q.Method.toNat<i->m=q.Method)->False)->(fun v:RequestT × Bool=>(v.2=false->v.1=sS)/\(v.2=true->jZ v.1=s/\s ≠ []/\s.length<=2000)/\∀ q,s ≠ []->s.length<=2000->jZ q=s->(q.Method.toNat<i->m=q.Method)->v=(q,true)) (sS,false) :=
        fun h=>⟨fun _=>rfl,fun h=>(by cases h),fun q g1 g2 g3 g4=>(h q g1 g2 g3 g4).elim⟩
      refine Tot.up ?_
      simp only [G.bK.L1]
      refine Tot.cf (decide_eq_false (by show ¬ (i:Int)<((6:Nat):Int); omega)) (Tot.bind (T.dJ (s:=w3) (by omega)) ?_)
      rintro ⟨p3,k3⟩ ⟨f3,d3⟩
      refine Tot.bind (T.dJ (s:=w4) (by omega)) ?_
      rintro ⟨p4,k4⟩ ⟨f4,d4⟩
      have mono:∀ {l:List aA},ji 60 l->ji 1048576 l:=fun h=>⟨by have:=h.1; omega,fun t ht=>by have:=h.2 t ht; omega⟩
      have hd3:∀ q,s ≠ []->jZ q=s->p3=q.Want/\k3=true:=fun q h0 hw=>by
        have:=d3 q.Want (zX (lS (show jZ q ≠ [] by rw [hw]; exact h0)).1).want (words q h0 hw).2.2.1
        simp only [Prod.mk.injEq] at this; exact this
      have hd4:∀ q,s ≠ []->jZ q=s->p4=q.jk/\k4=true:=fun q h0 hw=>by
        have:=d4 q.jk (zX (lS (show jZ q ≠ [] by rw [hw]; exact h0)).1).avoid (words q h0 hw).2.2.2.1
        simp only [Prod.mk.injEq] at this; exact this
      have Qk:∀ q,s ≠ []->jZ q=s->(q.Method.toNat<i->m=q.Method)->m=q.Method:=fun q h0 hw hm=>by
        have hr:=zX (lS (show jZ q ≠ [] by rw [hw]; exact h0)).1
        have lo:=hr.lo
        have hi':=hr.hi
        exact hm (by omega)
      have K:∀ (ok:Bool) (n:af) (l:List iI),jT tH 6 n->uw l->(∀ q,s ≠ []->jZ q=s->m=q.Method->n=q.Body/\l=q.Ops/\ok=true) ->
          Tot (fun v:RequestT × Bool=>(v.2=false->v.1=sS)/\(v.2=true->jZ v.1=s/\s ≠ []/\s.length<=2000)/\∀ q,s ≠ []->s.length<=2000->jZ q=s->(q.Method.toNat<i->m=q.Method)->v=(q,true))
            (fun f=>G.bK.K2 f s (w2,x2) m (p3,k3) (p4,k4) ok n.Kind n.Num n.Text n.Names n.Kids l):=fun ok n l hn hL hq=>by
        refine Tot.up ?_
        simp only [G.bK.K2,af.eta]
        have OV:Ht 1048576 (RequestT.mk m w2 p3 p4 n l):=⟨by show w2.length<=_; omega,mono f3,mono f4,⟨6,hn⟩,hL⟩
        have same:∀ q,s ≠ []->jZ q=s->(q.Method.toNat<i->m=q.Method)->RequestT.mk m w2 p3 p4 n l=q/\ok=true:=fun q h0 hw hm=>by
          have h5:=Qk q h0 hw hm
          obtain ⟨h6,h7,h8⟩:=hq q h0 hw h5
          refine ⟨?_,h8⟩
          rw [h5,(words q h0 hw).2.1,(hd3 q h0 hw).1,(hd4 q h0 hw).1,h6,h7]
        refine Tot.ite (fun e3=>Tot.ite (fun e4=>Tot.ite (fun e1=>Tot.iy (T0.aF KQ OV) (Tot.ite (fun e2=>Tot.ite (fun e0=>Tot.ret (no fun q g1 _ _ _ => ?_)) (fun e0=>Tot.ret ⟨fun h=>(by cases h),fun _=>⟨by simpa using e2,by simpa using e0,hs2⟩,fun q g1 _ g3 g4 => ?_⟩)) (fun e2=>Tot.ret (no fun q g1 _ g3 g4 => ?_)))) (fun e1=>Tot.ret (no fun q g1 _ g3 g4 => ?_))) (fun e4=>Tot.ret (no fun q g1 _ g3 g4 => ?_))) (fun e3=>Tot.ret (no fun q g1 _ g3 g4 => ?_))
        · exact g1 (by simpa using e0)
        · rw [(same q g1 g3 g4).1]
        · rw [(same q g1 g3 g4).1,g3] at e2; simp at e2
        · rw [(same q g1 g3 g4).2] at e1; cases e1
        · rw [(hd4 q g1 g3).2] at e4; cases e4
        · rw [(hd3 q g1 g3).2] at e3; cases e3
      refine Tot.ite (fun em=>Tot.bind (T.gp (s:=x4) (by omega)) ?_) (fun em=>Tot.bind (T.iT (s:=x4) (by omega)) ?_)
      · rintro ⟨l,kl⟩ ⟨fl,cl⟩
        have em:m=4:=by simpa using em
        refine K kl (af.mk 0 0 [] [] []) l (lG _ _) fl (fun q g1 g3 g4 => ?_)
        obtain ⟨o1,o2,o3,_⟩:=lS (show jZ q ≠ [] by rw [g3]; exact g1)
        have hm4:q.Method=4:=by omega
        have:=cl q.Ops (zX o1).ops o3 (by rw [(words q g1 g3).2.2.2.2,if_pos hm4])
        simp only [Prod.mk.injEq] at this
        exact ⟨(zQ o1 o2 hm4).symm,this.1,this.2⟩
      · rintro ⟨n,kn⟩ ⟨fn,cn⟩
        have em:m ≠ 4:=by simpa using em
        refine K kn n [] fn ⟨Nat.zero_le _,fun o h=>by cases h⟩ (fun q g1 g3 g4 => ?_)
        obtain ⟨o1,o2,o3,_⟩:=lS (show jZ q ≠ [] by rw [g3]; exact g1)
        have hm4:q.Method ≠ 4:=by omega
        have:=cn q.Body (zX o1).body (by omega) (by rw [(words q g1 g3).2.2.2.2,if_neg hm4])
        simp only [Prod.mk.injEq] at this
        exact ⟨this.1,(CU o2 hm4).symm,this.2⟩
    | succ k ih =>
      intro i m hi h1
      refine Tot.up ?_
      simp only [G.bK.L1,Int.toNat_natCast,bu (show i+1<9223372036854775808 by omega)]
      refine Tot.ct (decide_eq_true (by show (i:Int)<((6:Nat):Int); omega)) (Tot.chk (by show 0<=(i:Int)/\(i:Int)<((6:Nat):Int); omega) (Tot.ite (fun e=>(ih (i+1) (i:Int) (by omega) (by omega)).mono fun v hv=>⟨hv.1,hv.2.1,fun q g1 g2 g3 g4=>hv.2.2 q g1 g2 g3 fun hlt => ?_⟩) (fun e=>(ih (i+1) m (by omega) (by omega)).mono fun v hv=>⟨hv.1,hv.2.1,fun q g1 g2 g3 g4=>hv.2.2 q g1 g2 g3 fun hlt => ?_⟩)))
      · have hr:=zX (lS (show jZ q ≠ [] by rw [g3]; exact g1)).1
        have lo:=hr.lo
        have hi':=hr.hi
        have e:pO.getD i default=w1:=by simpa using e
        rw [(words q g1 g3).1] at e
        have:=Dn _ (by omega) _ (by omega) e
        omega
      · have hr:=zX (lS (show jZ q ≠ [] by rw [g3]; exact g1)).1
        have lo:=hr.lo
        have hi':=hr.hi
        refine g4 ?_
        have e:pO.getD i default ≠ w1:=by simpa using e
        rw [(words q g1 g3).1] at e
        have:q.Method.toNat ≠ i:=fun he=>by rw [he] at e; exact e rfl
        omega
  exact (L 5 1 0 (by omega) (by omega)).mono fun v hv=>⟨hv.1,hv.2.1,fun q g1 g2 g3=>hv.2.2 q g1 g2 g3 fun hlt=>by
    have hr:=zX (lS (show jZ q ≠ [] by rw [g3]; exact g1)).1
    have lo:=hr.lo
    omega⟩
end Go.Ab
end
section
namespace Go.Ab
open Go
set_option maxRecDepth 100000
theorem D.MS {K:Nat} {r:ReaderT} (hr:jO K r) (hK:K<=900000000) {s:aA} (hs:s.length<=100000000):Dr (K+3) (fun x:aA=>x.length<=s.length+4) (fun f=>G.jX f r s):=by
 have hM:=maxL
 refine Tot.up ?_
 simp only [G.jX]
 have w0:IntKind.wrap .i64 (((s.length:Nat):Int)+1)=((s.length+1:Nat):Int):=bu (by omega)
 refine Tot.bind (D.pick (m:=s.length+1) hr (by omega) w0 (by omega) (by omega)) ?_
 rintro ⟨x,r1⟩ ⟨⟨k,hk,hkl⟩,hr1⟩
 simp only at hk
 subst hk
 refine Tot.bind (D.pick (m:=5) hr1 (by omega) rfl (by decide) (by decide)) ?_
 rintro ⟨y,r2⟩ ⟨_,hr2⟩
 have hr2:jO (K+1+1) r2:=hr2
 refine Tot.ite (fun _=>Tot.ite (fun e => ?_) (fun _=>Tot.ret ⟨by show s.length<=_; omega,hr2.mono (by omega)⟩)) (fun _=>Tot.ite (fun _=>Tot.chk ⟨by omega,by omega,by omega⟩ (Tot.ret ⟨by show (s.take _).length<=_; rw [List.length_take]; omega,hr2.mono (by omega)⟩)) (fun _=>Tot.ite (fun _ => ?_) (fun _=>Tot.ret ⟨by show s.length<=_; omega,hr2.mono (by omega)⟩)))
 ·have hk:k<s.length:=by simp only [decide_eq_true_eq] at e; omega
  refine Tot.chk ⟨by omega,by omega,by omega⟩ (Tot.bind (D.of (m:=4) hr2 (by omega) _ (by decide) (by decide) (by decide)) ?_)
  rintro ⟨t,r3⟩ ⟨ht,hr3⟩
  have ht:t.length<=4:=ht
  simp only [Int.toNat_natCast,bu (show k+1<9223372036854775808 by omega)]
  have h1:(s.take k).length<=s.length:=by rw [List.length_take]; omega
  have h2:(s.drop (k+1)).length<=s.length-k:=by rw [List.length_drop]; omega
  have h3:(s.take k).length<=k:=by rw [List.length_take]; omega
  refine Tot.chk (by omega) (Tot.chk ⟨by omega,by omega,by omega⟩ (Tot.chk (by omega) (Tot.ret ⟨?_,hr3⟩)))
  show ((s.take k++t)++s.drop (k+1)).length<=_
  rw [List.length_append,List.length_append]; omega
 ·refine Tot.bind (D.of (m:=4) hr2 (by omega) _ (by decide) (by decide) (by decide)) ?_
  rintro ⟨t,r3⟩ ⟨ht,hr3⟩
  have ht:t.length<=4:=ht
  refine Tot.chk (by show s.length+t.length<=_; omega) (Tot.ret ⟨?_,hr3⟩)
  show (s++t).length<=_
  rw [List.length_append]; omega
theorem D.vJ {c:List Int} (hc:Bytes c) (hl:c.length<=1048576):Tot (fun s:aA=>s.length<=100000000) (fun f=>G.gz f c):=by
 refine Tot.up ?_
 simp only [G.gz]
 refine Tot.bind (D.zU hc hl) (fun r hr=>Tot.bind (D.wL hr) ?_)
 rintro ⟨q,r2⟩ ⟨hq,hr2⟩
 have hq:oL 60 q:=hq
 have hlen:=Fv q
 refine Tot.iy (T.aF hq) (Tot.bind (D.pick (m:=3) hr2 (by omega) rfl (by decide) (by decide)) ?_)
 rintro ⟨x,r3⟩ ⟨_,hr3⟩
 refine Tot.ite (fun _=>Tot.bind (D.MS (s:=jZ q) hr3 (by omega) (by omega)) ?_) (fun _=>Tot.ret (by show (jZ q).length<=_; omega))
 rintro ⟨t,r4⟩ ⟨ht,_⟩
 exact Tot.ret (Nat.le_trans ht (by omega))
theorem T.qY {c:List Int} (hc:Bytes c):Ev (fun f=>G.gu f c) true:=by
 refine Ev.up ?_
 simp only [G.gu]
 refine Ev.ite (fun _=>Ev.ret _) (fun e => ?_)
 obtain ⟨s,g,hs⟩:=D.vJ hc (by simp at e; omega)
 obtain ⟨v,gv,hv⟩:=T.dG (s:=s) (by omega)
 obtain ⟨w,gw,hw⟩:=T.bK s
 have:=hv.uniq hw
 subst this
 refine Ev.bind g (Ev.bind gv (Ev.bind gw (Ev.bind (zI hv.fine) (Ev.ct rfl ?_))))
 refine Ev.ite (fun e2=>Ev.ct e2 (Ev.bind (T.ah hv.fine) (Ev.ret' ?_))) (fun e2=>Ev.cf e2 (Ev.ret _))
 rw [(hv.yes e2).1]; simp
end Go.Ab
end
section
namespace Go.Ab
open Go
set_option maxRecDepth 100000
set_option maxHeartbeats 4000000
set_option linter.unusedVariables false
set_option linter.unusedSimpArgs false
theorem F.jX {n:Nat} : ∀ {aC ai r},G.jX n aC ai=some r->ACalls pZ 47 [.one (.ptr 0 0),.one (wS ai)] [.var [.c (.sl 1 (List.map cU aC.b)),wI aC.p]] (fun r1 b1=>r1 = .one (wS r.1)/\b1=[.var [.c (.sl 1 (List.map cU r.2.b)),wI r.2.p]]):=by
 intro aC ai r h
 refine eH K.jX (jG ?_)
 unfold C.jX
 rcases n with _ | n<;>simp only [G.jX,reduceCtorEq] at h
 have z:=pp () <| pp (pp (pp @F.aj (@cG [0] [])) <| pp (pp @F.dA (@cH [0] [])) ()) <| pp () <| pp () <| pp () <| pp () <| (pp (@jR [] [(0,0)] []) ())
 exact jK
theorem F.gz {n:Nat} : ∀ {iW r},G.gz n iW=some r->APure pZ 15 [.one (.c (.sl 1 (List.map cU iW)))] (.one (wS r)):=by
 intro iW r h
 refine aU K.gz (jG ?_)
 unfold C.gz
 rcases n with _ | n<;>simp only [G.gz,reduceCtorEq] at h
 have z:=pp (pp @F.aF ()) <| pp (pp (pp @F.iV (@cG [] [101])) <| pp (pp @F.dP (@cG [101] [])) <| pp (pp @F.aj (@cG [101] [])) <| pp (pp @F.jX (@cG [101] [])) ()) <| pp () <| pp () <| pp () <| pp () <| ()
 exact jK
theorem F.bM {n:Nat} : ∀ {aC r},G.bM n aC=some r->ACalls pZ 100 [.one (.ptr 0 0)] [.var [wS aC.text,wI aC.at_,.c (.lit (.bool aC.bad))]] (fun r1 b1=>r1 = .one (.c (.lit (.int .u8 r.1)))/\b1=[.var [wS r.2.text,wI r.2.at_,.c (.lit (.bool r.2.bad))]]):=by
 intro aC r h
 refine eH K.bM (jG ?_)
 unfold C.bM
 rcases n with _ | n<;>simp only [G.bM,reduceCtorEq] at h
 have z:=pp () <| pp () <| pp () <| pp () <| pp () <| pp () <| (pp (@jR [] [(0,0)] []) ())
 exact jK
theorem F.dZ {n:Nat} : ∀ {aC o7 r},G.dZ n aC o7=some r->ACalls pZ 183 [.one (.ptr 0 0),.one (.c (.lit (.int .u8 o7)))] [.var [wS aC.text,wI aC.at_,.c (.lit (.bool aC.bad))]] (fun r1 b1=>r1 = .tup []/\b1=[.var [wS r.text,wI r.at_,.c (.lit (.bool r.bad))]]):=by
 intro aC o7 r h
 refine eH K.dZ (jG ?_)
 unfold C.dZ
 rcases n with _ | n<;>simp only [G.dZ,reduceCtorEq] at h
 have z:=pp () <| pp (pp (pp @F.bM (@cG [0] [])) ()) <| pp () <| pp () <| pp () <| pp () <| (pp (@jR [] [(0,0)] []) ())
 exact jK
theorem F.bf {n:Nat} : ∀ {aC r},G.bf n aC=some r->ACalls pZ 147 [.one (.ptr 0 0)] [.var [wS aC.text,wI aC.at_,.c (.lit (.bool aC.bad))]] (fun r1 b1=>r1 = .one (wS r.1)/\b1=[.var [wS r.2.text,wI r.2.at_,.c (.lit (.bool r.2.bad))]]):=by
 intro aC r h
 refine eH K.bf (jG ?_)
 unfold C.bf
 rcases n with _ | n<;>simp only [G.bf,reduceCtorEq] at h
 have z:=pp () <| pp (pp (pp @F.dZ (@cG [0] [])) <| pp (pp @F.bM (@cG [0] [])) ()) <| pp (pp (@jA (aA × Int × Bool × List Int) _ (fun n x=>G.bf.L3 n x.1 x.2.1 x.2.2.1 x.2.2.2) r (fun x=>ASt.of [eP 0 0,(3,.v true (.one (.own 105 x.2.2.2.length 1)))] [(0,.var [wS x.1,wI x.2.1,.c (.lit (.bool x.2.2.1))]),(105,.dat 1 (List.map cU x.2.2.2))])) ()) <| pp (pp (@lu (List Int × aA × Int × Bool) _ (fun n x=>G.bf.K4 n x.1 x.2.1 x.2.2.1 x.2.2.2) r (fun x=>ASt.of [eP 0 0,(3,.v true (.one (.own 106 x.1.length 1)))] [(0,.var [wS x.2.1,wI x.2.2.1,.c (.lit (.bool x.2.2.2))]),(106,.dat 1 (List.map cU x.1))])) ()) <| pp (pp (And.intro @G.bf.L3.eq_1 <| And.intro @G.bf.L3.eq_2 <| And.intro @G.bf.K4.eq_1 <| @G.bf.K4.eq_2) ()) <| pp (pp (@bn [] [(0,0),(105,10)] []) <| pp (@bn [] [(0,0),(106,105)] []) <| pp (@bn [] [(0,0),(105,12)] []) ()) <| (pp (@jR [] [(0,0)] []) ())
 exact jK
theorem F.bz {n:Nat} : ∀ {aC r},G.bz n aC=some r->ACalls pZ 149 [.one (.ptr 0 0)] [.var [wS aC.text,wI aC.at_,.c (.lit (.bool aC.bad))]] (fun r1 b1=>r1 = .one (wI r.1)/\b1=[.var [wS r.2.text,wI r.2.at_,.c (.lit (.bool r.2.bad))]]):=by
 intro aC r h
 refine eH K.bz (jG ?_)
 unfold C.bz
 rcases n with _ | n<;>simp only [G.bz,reduceCtorEq] at h
 have z:=pp (pp @F.bG ()) <| pp (pp (pp @F.bM (@cG [0] [])) ()) <| pp (pp (@jA (Int × Int × Int × aA × Int × Bool) _ (fun n x=>G.bz.L2 n x.1 x.2.1 x.2.2.1 x.2.2.2.1 x.2.2.2.2.1 x.2.2.2.2.2) r (fun x=>ASt.of [eP 0 0,eI 3 x.2.1,eI 4 x.1,eI 5 x.2.2.1] [(0,.var [wS x.2.2.2.1,wI x.2.2.2.2.1,.c (.lit (.bool x.2.2.2.2.2))])])) ()) <| pp (pp (@lu (Int × aA × Int × Bool) _ (fun n x=>G.bz.K1 n x.1 x.2.1 x.2.2.1 x.2.2.2) r (fun x=>ASt.of [eP 0 0,eI 3 0,eI 4 x.1] [(0,.var [wS x.2.1,wI x.2.2.1,.c (.lit (.bool x.2.2.2))])])) ()) <| pp (pp (And.intro @G.bz.K1.eq_1 <| And.intro @G.bz.K1.eq_2 <| And.intro @G.bz.L2.eq_1 <| @G.bz.L2.eq_2) ()) <| pp (pp (@bn [] [(0,0)] []) ()) <| (pp (@jR [] [(0,0)] []) ())
 exact jK
theorem F.pq:∀ (n:Nat),(∀ {aC:aV} {ag:af} {kS:Int} {aK:Int} {r:af × aV},G.aI n aC ag kS aK=some r->ACalls pZ 148 [.one (.ptr 0 0),.agg [.c (.lit (.int .i64 ag.Kind)),.c (.lit (.int .i64 ag.Num)),.c (.str ag.Text),.c (.sl 1 (List.map cS ag.Names)),.c (.sl 5 (List.map af.cells ag.Kids))],.one (.c (.lit (.int .u8 kS))),.one (.c (.lit (.int .i64 aK)))] [.var [.c (.str aC.text),.c (.lit (.int .i64 aC.at_)),.c (.lit (.bool aC.bad))]] (fun r1 b1=>r1 = .agg [.c (.lit (.int .i64 r.1.Kind)),.c (.lit (.int .i64 r.1.Num)),.c (.str r.1.Text),.c (.sl 1 (List.map cS r.1.Names)),.c (.sl 5 (List.map af.cells r.1.Kids))]/\b1=[.var [.c (.str r.2.text),.c (.lit (.int .i64 r.2.at_)),.c (.lit (.bool r.2.bad))]]))/\(∀ {aC:aV} {aK:Int} {r:af × aV},G.dY n aC aK=some r->ACalls pZ 98 [.one (.ptr 0 0),.one (.c (.lit (.int .i64 aK)))] [.var [.c (.str aC.text),.c (.lit (.int .i64 aC.at_)),.c (.lit (.bool aC.bad))]] (fun r1 b1=>r1 = .agg [.c (.lit (.int .i64 r.1.Kind)),.c (.lit (.int .i64 r.1.Num)),.c (.str r.1.Text),.c (.sl 1 (List.map cS r.1.Names)),.c (.sl 5 (List.map af.cells r.1.Kids))]/\b1=[.var [.c (.str r.2.text),.c (.lit (.int .i64 r.2.at_)),.c (.lit (.bool r.2.bad))]])):=by
 intro n
 induction n using Nat.strongRecOn with | _ n ih =>
 refine ⟨?_,?_⟩
 ·intro aC ag kS aK r h
  refine eH K.aI (jG ?_)
  unfold C.aI
  rcases n with _ | n<;>simp only [G.aI,reduceCtorEq] at h
  have:=Mk.mk 1; have:=Mk.mk 2
  have z:=pp () <| pp (pp (pp (ihR ih) (@cG [0] [])) <| pp (pp @F.dZ (@cG [0] [])) <| pp (pp @F.bM (@cG [0] [])) <| pp (pp @F.bf (@cG [0] [])) ()) <| pp (pp (@jA (aA × Int × Bool × List aA × List af) _ (fun n x=>G.aI.L5 n ag kS aK x.1 x.2.1 x.2.2.1 x.2.2.2.1 x.2.2.2.2) r (fun x=>ASt.of [(0,.v true (.one (.ptr 0 0))),(2,.v true (.one (.c (.lit (.int .u8 kS))))),(3,.v true (.one (.c (.lit (.int .i64 aK))))),(5,.v true (.one (.ptr 125 0))),(8,.v true (.one (.ptr 126 0))),(9,.v true (.one (.own 127 x.2.2.2.1.length 1))),(10,.v true (.one (.own 128 x.2.2.2.2.length 5)))] [(0,.var [.c (.str x.1),.c (.lit (.int .i64 x.2.1)),.c (.lit (.bool x.2.2.1))]),(125,.var [.c (.lit (.int .i64 ag.Kind)),.c (.lit (.int .i64 ag.Num)),.c (.str ag.Text),.c (.sl 1 (List.map cS ag.Names)),.c (.sl 5 (List.map af.cells ag.Kids))]),(126,.var [.c (.lit (.int .i64 0)),.c (.lit (.int .i64 0)),.c (.str []),.nsl 1,.nsl 5]),(127,.dat 1 (List.map cS x.2.2.2.1)),(128,.dat 5 (List.map af.cells x.2.2.2.2))])) ()) <| pp (pp (@lu (List aA × List af × aA × Int × Bool) _ (fun n x=>G.aI.K6 n ag kS aK x.1 x.2.1 x.2.2.1 x.2.2.2.1 x.2.2.2.2) r (fun x=>ASt.of [(0,.v true (.one (.ptr 0 0))),(2,.v true (.one (.c (.lit (.int .u8 kS))))),(3,.v true (.one (.c (.lit (.int .i64 aK))))),(5,.v true (.one (.ptr 129 0))),(8,.v true (.one (.ptr 130 0))),(9,.v true (.one (.own 131 x.1.length 1))),(10,.v true (.one (.own 132 x.2.1.length 5)))] [(0,.var [.c (.str x.2.2.1),.c (.lit (.int .i64 x.2.2.2.1)),.c (.lit (.bool x.2.2.2.2))]),(129,.var [.c (.lit (.int .i64 ag.Kind)),.c (.lit (.int .i64 ag.Num)),.c (.str ag.Text),.c (.sl 1 (List.map cS ag.Names)),.c (.sl 5 (List.map af.cells ag.Kids))]),(130,.var [.c (.lit (.int .i64 0)),.c (.lit (.int .i64 0)),.c (.str []),.nsl 1,.nsl 5]),(131,.dat 1 (List.map cS x.1)),(132,.dat 5 (List.map af.cells x.2.1))])) <| pp (@lu (List af × aA × Int × Bool × List aA) _ (fun n x=>G.aI.K7 n ag kS aK x.1 x.2.1 x.2.2.1 x.2.2.2.1 x.2.2.2.2) r (fun x=>ASt.of [(0,.v true (.one (.ptr 0 0))),(2,.v true (.one (.c (.lit (.int .u8 kS))))),(3,.v true (.one (.c (.lit (.int .i64 aK))))),(5,.v true (.one (.ptr 133 0))),(8,.v true (.one (.ptr 134 0))),(9,.v true (.one (.own 135 x.2.2.2.2.length 1))),(10,.v true (.one (.own 136 x.1.length 5)))] [(0,.var [.c (.str x.2.1),.c (.lit (.int .i64 x.2.2.1)),.c (.lit (.bool x.2.2.2.1))]),(133,.var [.c (.lit (.int .i64 ag.Kind)),.c (.lit (.int .i64 ag.Num)),.c (.str ag.Text),.c (.sl 1 (List.map cS ag.Names)),.c (.sl 5 (List.map af.cells ag.Kids))]),(134,.var [.c (.lit (.int .i64 0)),.c (.lit (.int .i64 0)),.c (.str []),.nsl 1,.nsl 5]),(135,.dat 1 (List.map cS x.2.2.2.2)),(136,.dat 5 (List.map af.cells x.1))])) ()) <| pp (pp (And.intro @G.aI.L5.eq_1 <| And.intro @G.aI.L5.eq_2 <| And.intro @G.aI.K6.eq_1 <| And.intro @G.aI.K6.eq_2 <| And.intro @G.aI.K7.eq_1 <| @G.aI.K7.eq_2) ()) <| pp (pp (@bn [] [(0,0),(125,10),(126,11),(127,12),(128,13)] []) <| pp (@bn [] [(0,0),(129,125),(130,126),(131,127),(132,128)] []) <| pp (@bn [] [(0,0),(133,129),(134,130),(135,15),(136,132)] []) <| pp (@bn [] [(0,0),(133,129),(134,130),(135,131),(136,132)] []) <| pp (@bn [] [(0,0),(125,133),(126,134),(127,135),(128,17)] []) ()) <| pp (pp (@jR [127,128] [(0,0)] []) ()) <| (pp (pp (rfl : @G.aI.K6=_) <| pp (rfl : @G.aI.L5=_) <| pp (rfl : @G.aI.K7=_) ()) <| pp (pp (rfl : @G.aI.K7=_) <| pp (rfl : @G.aI.K6=_) <| pp (rfl : @G.aI.L5=_) ()) ())
  exact Gg
 ·intro aC aK r h
  refine eH K.dY (jG ?_)
  unfold C.dY
  rcases n with _ | n<;>simp only [G.dY,reduceCtorEq] at h
  have z:=pp (pp @F.bG ()) <| pp (pp (pp (ihL ih) (@cH [0] [])) <| pp (pp @F.bM (@cG [0] [])) <| pp (pp @F.bf (@cG [0] [])) <| pp (pp @F.bz (@cG [0] [])) ()) <| pp () <| pp () <| pp () <| pp () <| (pp (@jR [] [(0,0)] []) ())
  exact jK
theorem F.dY {n:Nat} : ∀ {aC:aV} {aK:Int} {r:af × aV},G.dY n aC aK=some r->ACalls pZ 98 [.one (.ptr 0 0),.one (wI aK)] [.var [wS aC.text,wI aC.at_,.c (.lit (.bool aC.bad))]] (fun r1 b1=>r1 = .agg (wN r.1)/\b1=[.var [wS r.2.text,wI r.2.at_,.c (.lit (.bool r.2.bad))]]):=(F.pq n).2
theorem F.iT {n:Nat} : ∀ {ai r},G.iT n ai=some r->APure pZ 52 [.one (wS ai)] (.tup [(true,(wN r.1)),(false,[.c (.lit (.bool r.2))])]):=by
 intro ai r h
 refine aU K.iT (jG ?_)
 unfold C.iT
 rcases n with _ | n<;>simp only [G.iT,reduceCtorEq] at h
 have z:=pp (pp @F.aT <| pp @F.bI ()) <| pp (pp (pp @F.dY (@cG [11] [])) ()) <| pp () <| pp () <| pp () <| pp () <| ()
 exact jK
theorem F.dJ {n:Nat} : ∀ {ai r},G.dJ n ai=some r->APure pZ 50 [.one (wS ai)] (.tup [(false,[wT r.1]),(false,[.c (.lit (.bool r.2))])]):=by
 intro ai r h
 refine aU K.dJ (jG ?_)
 unfold C.dJ
 rcases n with _ | n<;>simp only [G.dJ,reduceCtorEq] at h
 have z:=pp (pp @F.bF <| pp @F.bZ ()) <| pp () <| pp (pp (@jA (Int × List aA) _ (fun n x=>G.dJ.L1 n ai x.1 x.2) r (fun x=>ASt.of [eS 0 ai,(4,.v true (.one (.own 103 x.2.length 1))),eI 5 x.1] [(103,.dat 1 (List.map cS x.2))])) ()) <| pp () <| pp (pp (And.intro @G.dJ.L1.eq_1 <| @G.dJ.L1.eq_2) ()) <| pp (pp (@bn [] [(103,10)] []) <| pp (@bn [] [(103,103)] []) <| pp (@bn [] [(103,12)] []) <| pp (@bn [] [(103,14)] []) ()) <| ()
 exact jK
theorem F.iU {n:Nat} : ∀ {ai r},G.iU n ai=some r->APure pZ 48 [.one (wS ai)] (.tup [(false,[wS r.1]),(false,[wS r.2])]):=by
 intro ai r h
 refine aU K.iU (jG ?_)
 unfold C.iU
 rcases n with _ | n<;>simp only [G.iU,reduceCtorEq] at h
 have z:=pp () <| pp () <| pp (pp (@jA (Int) _ (fun n x=>G.iU.L1 n ai x) r (fun x=>ASt.of [eS 0 ai,eI 4 x] [])) ()) <| pp () <| pp (pp (And.intro @G.iU.L1.eq_1 <| @G.iU.L1.eq_2) ()) <| pp (pp (@bn [] [] []) ()) <| ()
 exact jK
theorem F.gJ {n:Nat} : ∀ {ag r},G.gJ n ag=some r->APure pZ 150 [.agg (wN ag)] (.one (wT r)):=by
 intro ag r h
 refine aU K.gJ (jG ?_)
 unfold C.gJ
 rcases n with _ | n<;>simp only [G.gJ,reduceCtorEq] at h
 have z:=pp () <| pp () <| pp (pp (@jA (Int × List aA) _ (fun n x=>G.gJ.L1 n ag x.1 x.2) r (fun x=>ASt.of [eP 1 105,(3,.v true (.one (.own 106 x.2.length 1))),eI 4 x.1] [(105,.var (wN ag)),(106,.dat 1 (List.map cS x.2))])) ()) <| pp () <| pp (pp (And.intro @G.gJ.L1.eq_1 <| @G.gJ.L1.eq_2) ()) <| pp (pp (@bn [] [(105,10),(106,11)] []) <| pp (@bn [] [(105,105),(106,13)] []) ()) <| ()
 exact jK
theorem F.fZ {n:Nat} : ∀ {fK r},G.fZ n fK=some r->APure pZ 245 [.one (.c (.lit (.bool fK)))] (.one (wI r)):=by
 intro fK r h
 refine aU K.fZ (jG ?_)
 unfold C.fZ
 rcases n with _ | n<;>simp only [G.fZ,reduceCtorEq] at h
 have z:=pp () <| pp () <| pp () <| pp () <| pp () <| pp () <| ()
 exact jK
theorem F.iP {n:Nat} : ∀ {fO fK r},G.iP n fO fK=some r->APure pZ 219 [.one (wI fO),.one (wI fK)] (.one (wI r)):=by
 intro fO fK r h
 refine aU K.iP (jG ?_)
 unfold C.iP
 rcases n with _ | n<;>simp only [G.iP,reduceCtorEq] at h
 have z:=pp (pp @F.fZ ()) <| pp () <| pp () <| pp () <| pp () <| pp () <| ()
 exact jK
theorem F.iw {n:Nat} : ∀ {fO fK r},G.iw n fO fK=some r->APure pZ 220 [.one (wS fO),.one (wS fK)] (.one (wI r)):=by
 intro fO fK r h
 refine aU K.iw (jG ?_)
 unfold C.iw
 rcases n with _ | n<;>simp only [G.iw,reduceCtorEq] at h
 have z:=pp (pp @F.fZ ()) <| pp () <| pp () <| pp () <| pp () <| pp () <| ()
 exact jK
theorem F.yA:∀ (n:Nat),∀ {fO fK r},G.dw n fO fK=some r->APure pZ 184 [.agg (wN fO),.agg (wN fK)] (.one (wI r)):=by
 intro n
 induction n using Nat.strongRecOn with | _ n ih =>
 intro fO fK r h
 refine aU K.dw (jG ?_)
 unfold C.dw
 rcases n with _ | n<;>simp only [G.dw,reduceCtorEq] at h
 have z:=pp (pp ih <| pp @F.iP <| pp @F.iw ()) <| pp () <| pp (pp (@jA (Int) _ (fun n x=>G.dw.L1 n fO fK x) r (fun x=>ASt.of [eP 2 105,eP 3 106,eI 5 x] [(105,.var (wN fO)),(106,.var (wN fK))])) ()) <| pp () <| pp (pp (And.intro @G.dw.L1.eq_1 <| @G.dw.L1.eq_2) ()) <| pp (pp (@bn [] [(105,10),(106,11)] []) <| pp (@bn [] [(105,105),(106,106)] []) ()) <| ()
 exact jK
theorem F.dw {n:Nat} : ∀ {fO:af} {fK:af} {r:Int},G.dw n fO fK=some r->APure pZ 184 [.agg (wN fO),.agg (wN fK)] (.one (wI r)):=F.yA n
theorem F.kM {n:Nat} : ∀ {fO fK r},G.kM n fO fK=some r->APure pZ 151 [.agg (wN fO),.agg (wN fK)] (.one (.c (.lit (.bool r)))):=by
 intro fO fK r h
 refine aU K.kM (jG ?_)
 unfold C.kM
 rcases n with _ | n<;>simp only [G.kM,reduceCtorEq] at h
 have z:=pp (pp @F.dw ()) <| pp () <| pp () <| pp () <| pp () <| pp () <| ()
 exact jK
theorem F.fH {n:Nat} : ∀ {ag r},G.fH n ag=some r->APure pZ 99 [.agg (wN ag)] (.tup [(true,[wI r.1.Kind,wT r.1.Path,wT r.1.From,wI r.1.Value.Kind,wI r.1.Value.Num,wS r.1.Value.Text,wT r.1.Value.Names,wK r.1.Value.Kids]),(false,[.c (.lit (.bool r.2))])]):=by
 intro ag r h
 refine aU K.fH (jG ?_)
 unfold C.fH
 rcases n with _ | n<;>simp only [G.fH,reduceCtorEq] at h
 have z:=pp (pp @F.aT <| pp @F.jE <| pp @F.gJ <| pp @F.ay <| pp @F.ig <| pp @F.iM <| pp @F.kM ()) <| pp () <| pp (pp (@jA (List aA × Int × Int) _ (fun n x=>G.fH.L1 n ag x.1 x.2.1 x.2.2) r (fun x=>ASt.of [eP 1 105,eP 2 106,eT 4 x.1,eI 5 x.2.1,eI 6 x.2.2] [(105,.var (wN ag)),(106,.var [wI 0,.nsl 1,.nsl 1,wI 0,wI 0,.c (.str []),.nsl 1,.nsl 5])])) ()) <| pp () <| pp (pp (And.intro @G.fH.L1.eq_1 <| @G.fH.L1.eq_2) ()) <| pp (pp (@bn [] [(105,10),(106,11)] []) <| pp (@bn [] [(105,105),(106,106)] []) ()) <| ()
 exact jK
theorem F.gp {n:Nat} : ∀ {ai r},G.gp n ai=some r->APure pZ 51 [.one (wS ai)] (.tup [(false,[.c (.sl 8 (List.map iI.cells r.1))]),(false,[.c (.lit (.bool r.2))])]):=by
 intro ai r h
 refine aU K.gp (jG ?_)
 unfold C.gp
 rcases n with _ | n<;>simp only [G.gp,reduceCtorEq] at h
 have z:=pp (pp @F.fH ()) <| pp (pp (pp @F.dY (@cG [11] [])) <| pp (pp @F.bM (@cG [11] [])) ()) <| pp (pp (@jA (aA × List iI) _ (fun n x=>G.gp.L1 n x.1 x.2) r (fun x=>ASt.of [eS 0 x.1,(4,.v true (.one (.own 103 x.2.length 8)))] [(103,.dat 8 (List.map iI.cells x.2))])) ()) <| pp () <| pp (pp (And.intro @G.gp.L1.eq_1 <| @G.gp.L1.eq_2) ()) <| pp (pp (@bn [] [(103,10)] []) <| pp (@bn [] [(103,15)] []) ()) <| ()
 exact jK
theorem F.bK {n:Nat} : ∀ {ai r},G.bK n ai=some r->APure pZ 16 [.one (wS ai)] (.tup [(true,[wI r.1.Method,wS r.1.Name,wT r.1.Want,wT r.1.jk,wI r.1.Body.Kind,wI r.1.Body.Num,wS r.1.Body.Text,wT r.1.Body.Names,wK r.1.Body.Kids,.c (.sl 8 (List.map iI.cells r.1.Ops))]),(false,[.c (.lit (.bool r.2))])]):=by
 intro ai r h
 refine aU K.bK (jG ?_)
 unfold C.bK
 rcases n with _ | n<;>simp only [G.bK,reduceCtorEq] at h
 have z:=pp (pp @F.iU <| pp @F.jV <| pp @F.dJ <| pp @F.gp <| pp @F.iT <| pp @F.aF ()) <| pp () <| pp (pp (@jA ((aA × aA) × (aA × aA) × (aA × aA) × (aA × aA) × List aA × Int × Int) _ (fun n x=>G.bK.L1 n ai x.1 x.2.1 x.2.2.1 x.2.2.2.1 x.2.2.2.2.1 x.2.2.2.2.2.1 x.2.2.2.2.2.2) r (fun x=>ASt.of [eS 0 ai,eP 2 111,eS 4 x.1.1,eS 8 x.2.2.1.1,eS 10 x.2.2.2.1.1,eS 11 x.2.2.2.1.2,eP 12 112,eT 13 x.2.2.2.2.1,eI 14 x.2.2.2.2.2.1] [(111,.var [wI 0,.c (.str []),.nsl 1,.nsl 1,wI 0,wI 0,.c (.str []),.nsl 1,.nsl 5,.nsl 8]),(112,.var [wI x.2.2.2.2.2.2,wS x.2.1.1,.own 113 0 1,.own 114 0 1,wI 0,wI 0,.c (.str []),.nsl 1,.nsl 5,.own 115 0 8]),(113,.dat 1 (List.map cS [])),(114,.dat 1 (List.map cS [])),(115,.dat 8 (List.map iI.cells []))])) ()) <| pp (pp (@lu ((aA × aA) × Int × (List aA × Bool) × (List aA × Bool) × Bool × Int × Int × aA × List aA × List af × List iI) _ (fun n x=>G.bK.K2 n ai x.1 x.2.1 x.2.2.1 x.2.2.2.1 x.2.2.2.2.1 x.2.2.2.2.2.1 x.2.2.2.2.2.2.1 x.2.2.2.2.2.2.2.1 x.2.2.2.2.2.2.2.2.1 x.2.2.2.2.2.2.2.2.2.1 x.2.2.2.2.2.2.2.2.2.2) r (fun x=>ASt.of [eS 0 ai,eP 2 116,eP 12 117,eT 15 x.2.2.1.1,(16,.v true (.one (.c (.lit (.bool x.2.2.1.2))))),eT 17 x.2.2.2.1.1,(18,.v true (.one (.c (.lit (.bool x.2.2.2.1.2))))),(19,.v true (.one (.c (.lit (.bool x.2.2.2.2.1)))))] [(116,.var [wI 0,.c (.str []),.nsl 1,.nsl 1,wI 0,wI 0,.c (.str []),.nsl 1,.nsl 5,.nsl 8]),(117,.var [wI x.2.1,wS x.1.1,.own 118 0 1,.own 119 0 1,wI x.2.2.2.2.2.1,wI x.2.2.2.2.2.2.1,wS x.2.2.2.2.2.2.2.1,wT x.2.2.2.2.2.2.2.2.1,wK x.2.2.2.2.2.2.2.2.2.1,.c (.sl 8 (List.map iI.cells x.2.2.2.2.2.2.2.2.2.2))]),(118,.dat 1 (List.map cS [])),(119,.dat 1 (List.map cS []))])) ()) <| pp (pp (And.intro @G.bK.L1.eq_1 <| And.intro @G.bK.L1.eq_2 <| And.intro @G.bK.K2.eq_1 <| @G.bK.K2.eq_2) ()) <| pp (pp (@bn [] [(111,10),(112,14),(113,11),(114,12),(115,13)] []) <| pp (@bn [] [(111,111),(112,112),(113,113),(114,114),(115,115)] []) <| pp (@bn [] [(116,111),(117,112),(118,113),(119,114)] []) <| pp (@bn [115] [(116,111),(117,112),(118,113),(119,114)] []) ()) <| ()
 exact jK
theorem F.gu {n:Nat} : ∀ {iW r},G.gu n iW=some r->APure pZ 4 [.one (.c (.sl 1 (List.map cU iW)))] (.one (.c (.lit (.bool r)))):=by
 intro iW r h
 refine aU K.gu (jG ?_)
 unfold C.gu
 rcases n with _ | n<;>simp only [G.gu,reduceCtorEq] at h
 have z:=pp (pp @F.gz <| pp @F.dG <| pp @F.bK <| pp @F.gW <| pp @F.ah ()) <| pp () <| pp () <| pp () <| pp () <| pp () <| ()
 exact jK
end Go.Ab
end
section
namespace Go.Proofs.YtmhpmikikfjgcaaGreatDoor.fnRequestCanonical
open Go Go.ChangeShapes Go.WideShapes Go.ChangeAt Go.RowKit Go.Ab
set_option maxRecDepth 100000
theorem own:ownKnob Tryz.prog.godebug=none:=by kernel_rfl
theorem laidOut:laidOutB Tryz.prog=true:=by kernel_rfl
theorem cellsB:Tryz.prog.cellsOf 5=1:=by kernel_rfl
theorem calls (zs:List Int) (hz:∀ z,z∈zs->0<=z/\z<256):APure Tryz.prog 4 [vSl 1 (zs.map xH)] (vBool true):=by
 obtain ⟨n,hn⟩:=(T.qY hz).val
 exact F.gu hn
theorem met {W:World} (h:laidMetH Tryz.prog Rows.fnRequestCanonicalRow.laid W):laidMet Tryz.prog Rows.fnRequestCanonicalRow.laid W:=by
 unfold laidMetH at h
 rw [show (Rows.fnRequestCanonicalRow.laid.filter fun x=>x.2.handleName?.isSome)=[] from by kernel_rfl] at h
 exact h
theorem Nj {W:World} (hL:laidMetH Tryz.prog Rows.fnRequestCanonicalRow.laid W):∀ g,Tryz.prog.globalNamed "internal/strconv.uint64pow10" = some g->I0 W g=some (Lib.pow10Tab.map fun z=>Value.int .u64 z).toArray:=by
 have h:=nI 2 (met hL)
 rw [show Rows.fnRequestCanonicalRow.laid.drop 2=("internal/strconv.uint64pow10",Lib.tabData .u64 Lib.pow10Tab)::Rows.fnRequestCanonicalRow.laid.drop 3 from by kernel_rfl] at h
 exact Ji (g:=3) (t:=227) (e:=200) (by kernel_rfl) (by kernel_rfl) (by kernel_rfl) (by kernel_rfl) (by kernel_rfl) (by kernel_rfl) h
theorem Nk {W:World} (hS:W.ShapedOpen Tryz.prog):∀ g,Tryz.prog.globalNamed "internal/bytealg.MaxLen" = some g->∃ m,(I0 W).cell ⟨g,0,none⟩=some (.int .i64 m) :=
 IY (g:=0) (t:=3) hS (by kernel_rfl) (of_decide_eq_true (by kernel_rfl)) (by kernel_rfl) (by kernel_rfl) (by kernel_rfl) (by kernel_rfl)
theorem Dj : "*" ++ "errors.errorString" = "*errors.errorString" := by decide
theorem Jw (u:TypeId) (h:Tryz.prog.typeName? 3 u=some "*errors.errorString"):u=247 :=
 typeName_ptr_named (nm := "errors.errorString") (by rw [Dj]; kernel_rfl) (by kernel_rfl) (by decide) u (by rw [Dj]; exact h)
theorem Nl {W:World} (hL:laidMetH Tryz.prog Rows.fnRequestCanonicalRow.laid W):∀ g,Tryz.prog.globalNamed "strconv.ErrSyntax" = some g->∃ v,(I0 W).cell ⟨g,0,none⟩=some v/\(v = .nilIface\/∃ t p,v = .iface t p):=by
 have h:=nI 5 (met hL)
 rw [show Rows.fnRequestCanonicalRow.laid.drop 5=("strconv.ErrSyntax",.iface "*errors.errorString" (.ptr (.agg [.lit (.string [105,110,118,97,108,105,100,32,115,121,110,116,97,120])])))::Rows.fnRequestCanonicalRow.laid.drop 6 from by kernel_rfl] at h
 exact AO (g:=4) (ti:=85) (tp:=247) (te:=249) (ts:=9) (ms := #[("Error",90)]) (f := { name := "s",type:=9,offset:=0,embedded:=false,tag := "",pkgPath := "errors",byteOffset:=0 }) h (by kernel_rfl) (by kernel_rfl) (by kernel_rfl) Jw (by kernel_rfl) (by kernel_rfl) rfl rfl (by kernel_rfl) (by kernel_rfl) (by kernel_rfl)
theorem Np {W:World} (hL:laidMetH Tryz.prog Rows.fnRequestCanonicalRow.laid W):∀ g,Tryz.prog.globalNamed "strconv.ErrRange" = some g->∃ v,(I0 W).cell ⟨g,0,none⟩=some v/\(v = .nilIface\/∃ t p,v = .iface t p):=by
 have h:=nI 4 (met hL)
 rw [show Rows.fnRequestCanonicalRow.laid.drop 4=("strconv.ErrRange",.iface "*errors.errorString" (.ptr (.agg [.lit (.string [118,97,108,117,101,32,111,117,116,32,111,102,32,114,97,110,103,101])])))::Rows.fnRequestCanonicalRow.laid.drop 5 from by kernel_rfl] at h
 exact AO (g:=5) (ti:=85) (tp:=247) (te:=249) (ts:=9) (ms := #[("Error",90)]) (f := { name := "s",type:=9,offset:=0,embedded:=false,tag := "",pkgPath := "errors",byteOffset:=0 }) h (by kernel_rfl) (by kernel_rfl) (by kernel_rfl) Jw (by kernel_rfl) (by kernel_rfl) rfl rfl (by kernel_rfl) (by kernel_rfl) (by kernel_rfl)
theorem tabs {W:World} (hS:W.ShapedOpen Tryz.prog) (hL:laidMetH Tryz.prog Rows.fnRequestCanonicalRow.laid W):Tabs Tryz.prog (I0 W):=⟨Nj hL,Nk hS,Nl hL,Np hL⟩
theorem contract (H:Type) (enc:TypeId × Value->H) (W:World) (base:Nat) (args:Array Value) (ds gs:List (DataW H)) (before:List MemPlace)
  (hval:∀ (j:Nat) t v,Tryz.f4.params[j]? = some t->args[j]? = some v->Value.okWide Tryz.prog W .any base t v)
  (hW:DataW.Whole enc Tryz.prog Tryz.f4.params.toList Rows.fnRequestCanonicalSpec.vars false W args.toList ds gs before)
  (hS:W.ShapedOpen Tryz.prog) (hL:laidMetH Tryz.prog Rows.fnRequestCanonicalRow.laid W) :
  Calls Tryz.prog 4 args W fun e W'=>∃ v,e = .returned v/\Rows.fnRequestCanonicalSpec.post enc Tryz.prog Tryz.f4 false true false false W args v W':=by
 have hW':=hW
 obtain ⟨p,q,hA0,hV,rfl,hfz,hnd⟩:=hW
 have hA:DataW.TrodAll enc Tryz.prog W 0 (fun _=>true) true Tryz.f4.params.toList args.toList ds p:=hA0
 rw [Tryz.params4] at hA hval
 obtain ⟨v0,QB,d0,ds0,p0,q0,hargs,rfl,rfl,h0,r0⟩:=trodAll_cons hA
 obtain ⟨rfl,rfl,rfl⟩:=trodAll_nil r0
 obtain rfl:args = #[v0]:=by cases args; simp_all
 obtain ⟨rfl,rfl⟩:=trodVars_none hV
 clear hA0
 simp only [List.append_nil] at hW'
 have hlt:∀ x∈p0,x.block<W.heap.size:=fun x hx=>by simpa using hW'.lt x hx
 refine (zO (enc:=enc) (tabs hS hL) Tryz.underlying22 Tryz.underlying5 cellsB (hval 0 22 v0 rfl rfl) h0 (fun zs _ hz=>calls zs hz)).mono fun e W' ⟨he,hb⟩ => ?_
 subst he
 have ht:DataW.TrodAll enc Tryz.prog W' 0 (fun b=>decide (b<W.heap.size)) true [22] [v0] [d0] (p0++[]):=trodAll_cons_mk (Below.trod laidOut (by kernel_rfl) (of_decide_eq_true (by kernel_rfl)) h0 hb hlt) trodAll_mk0
 rw [List.append_nil] at ht
 exact ⟨_,rfl,_,_,_,[],p0,[],hW',trodAll_cons_mk (shut_bool Tryz.underlying4 _) trodAll_mk0,
  ht,rfl,hb.frame _,fun h=>by cases h⟩
noncomputable def laidWorld (os:Os):World:=World.laidAll Tryz.prog os Rows.fnRequestCanonicalRow.laid
theorem laid_met (os:Os):laidMet Tryz.prog Rows.fnRequestCanonicalRow.laid ((laidWorld os).forCall (fun _ _=>0) ⟨#[],#[.slice none 0 0],[]⟩).memory :=
 laidMet_laidAll _ (by kernel_rfl) (by kernel_rfl)
theorem reads (os:Os) {H:Type} (enc:TypeId × Value->H):∃ places,DataW.whole enc Tryz.prog ((laidWorld os).forCall (fun _ _=>0) ⟨#[],#[.slice none 0 0],[]⟩).memory Tryz.f4.params.toList Rows.fnRequestCanonicalSpec.vars false #[Value.slice none 0 0].toList 8=some ([.nil],[],places) :=
 ⟨[],by kernel_rfl⟩
theorem lifted (os:Os) (started:os.Started) (H:Type) (enc:TypeId × Value->H) (F:Stop.Interp) :
  ReturnsInHanded {} Tryz.checked os 4 .any ((OpenSpec.ofChange Rows.fnRequestCanonicalSpec).preRow enc Tryz.prog Tryz.f4 Rows.fnRequestCanonicalRow.domain false Rows.fnRequestCanonicalRow.laid) (((OpenSpec.ofChange Rows.fnRequestCanonicalSpec).at F).post enc Tryz.prog Tryz.f4 false true false false):=by
 obtain ⟨places,hx⟩:=reads os enc
 refine returnsInHanded_of_row (C:=Tryz.checked) (s:=OpenSpec.ofChange Rows.fnRequestCanonicalSpec) own started (by kernel_rfl) Tryz.func4
  (witness_row_atRef (enc:=enc) (C:=Tryz.checked) false (laidWorld os) #[.slice none 0 0] (World.laidAll_os _ _ _) (by kernel_rfl) (by kernel_rfl) (by kernel_rfl)
   (OpenSpec.preRow_of_cond 8 hx (by kernel_rfl) (fun k hk=>by cases hk) (by kernel_rfl) (laid_met os))) ?_
 intro W base args ds gs before hval hW _ _ _ hL hS _
 exact contract H enc W base args ds gs before hval hW hS hL
theorem j1:(Rows.fnRequestCanonicalRow.inPlace==Tryz.prog.inPlace 4)=true:=by kernel_rfl
theorem j2:(Rows.fnRequestCanonicalRow.unfollowed==Tryz.prog.unfollowed 4)=true:=by kernel_rfl
theorem j3:(Rows.fnRequestCanonicalRow.recurses==Tryz.prog.recurses 4)=true:=by kernel_rfl
theorem j4:(Rows.fnRequestCanonicalRow.named==Tryz.prog.varsNamed 4)=true:=by kernel_rfl
theorem j5:joinedFacts Tryz.prog 4 Tryz.f4 (OpenSpec.ofChange Rows.fnRequestCanonicalSpec).bare Rows.fnRequestCanonicalRow=true:=by
 unfold joinedFacts
 rw [j1,j2,j3,j4]
 kernel_rfl
theorem j6:Tryz.prog.funcNamed Rows.fnRequestCanonicalRow.func=some 4:=by kernel_rfl
theorem said:Rows.FnRequestCanonicalSaid :=
 OpenClaim.holds_of_cond 4 Tryz.f4 rfl rfl rfl rfl rfl rfl rfl ⟨rfl,rfl,rfl,rfl,rfl⟩ rfl rfl rfl rfl rfl j6 Tryz.func4 j5
  (of_decide_eq_true (by kernel_rfl)) (by unfold Func.isWrapper; first | (rw [if_pos (by decide +kernel)]; kernel_rfl) | (rw [if_neg (by decide +kernel)]; exact ⟨rfl,rfl⟩))
  (fun os started H enc _ F=>by rw [OpenClaim.pre_eq_preRow]; exact lifted os started H enc F)
theorem jw:Rows.fnRequestCanonicalRow.wfByText (OpenSpec.ofChange Rows.fnRequestCanonicalSpec)=true:=by kernel_rfl
theorem jm:Tryz.pinned.checked.prog.mainIs=some (Rows.fnRequestCanonicalCard.stood.harness.1,Rows.fnRequestCanonicalCard.stood.harness.2.toList):=by kernel_rfl
theorem jg:false=Rows.fnRequestCanonicalRow.goesBy Tryz.pinned.checked.prog:=by kernel_rfl
theorem plain (f:FuncId) (fn:Func) (hf:Tryz.pinned.checked.prog.funcNamed Rows.fnRequestCanonicalRow.func=some f) (hfn:Tryz.pinned.checked.prog.funcs[f]? = some fn) :
  true=Tryz.pinned.checked.prog.looks []/\∀ (j:Nat) t,fn.params[j]? = some t->Tryz.pinned.checked.prog.wantsStandIn t=false:=by
 obtain rfl:f=4:=Option.some.inj ((show Tryz.prog.funcNamed Rows.fnRequestCanonicalRow.func=some 4 by kernel_rfl).symm.trans hf) |>.symm
 obtain rfl:fn=Tryz.f4:=(Option.some.inj (Tryz.func4.symm.trans hfn)).symm
 refine ⟨by kernel_rfl,fun j t ht => ?_⟩
 rw [Tryz.params4] at ht
 obtain rfl:t=22:=by simpa using Array.mem_of_getElem? ht
 exact (show Tryz.prog.wantsStandIn 22=false by kernel_rfl)
theorem card:Rows.FnRequestCanonicalCardSaid :=
 Claim7.holds_tied_plain_at .later [] _ _ _ _ said (fun _ h=>by cases h) jw (fun _ h=>by cases h) fnRequestCanonical_row_tie rfl ⟨rfl,rfl⟩ jm rfl plain jg
end Go.Proofs.YtmhpmikikfjgcaaGreatDoor.fnRequestCanonical
end
