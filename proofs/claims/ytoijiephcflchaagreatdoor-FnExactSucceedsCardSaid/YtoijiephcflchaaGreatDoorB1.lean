/- The functions of the program that the laws reach: what they compute, the proofs that they do, the laws of the data (part 1). No conditions. -/
import Derived.Test.YtoijiephcflchaaGreatDoorX2
set_option linter.unusedVariables false
set_option linter.unusedSimpArgs false
section
namespace Go.Ab
open Go
set_option maxRecDepth 100000
set_option maxHeartbeats 4000000
set_option linter.unusedVariables false
set_option linter.unusedSimpArgs false
structure af where
 Kind:Int
 Num:Int
 Text:aS
 Names:List aS
 Kids:List af
 deriving Inhabited
mutual
def af.cells:af->List Cell
 | af.mk x0 x1 x2 x3 x4=>[.lit (.int .i64 x0),.lit (.int .i64 x1),.str x2,.sl 1 (List.map cS x3),.sl 5 (af.vU x4)]
def af.vU:List af->List (List Cell)
 | []=>[]
 | x::r=>x.cells::af.vU r
end
theorem af.Gh (ks:List af):af.vU ks=List.map af.cells ks:=by
 induction ks with
 | nil=>rfl
 | cons x r ih=>simp [af.vU,ih]
theorem af.dZ (n:af):n.cells=[.lit (.int .i64 n.Kind),.lit (.int .i64 n.Num),.str n.Text,.sl 1 (List.map cS n.Names),.sl 5 (List.map af.cells n.Kids)]:=by
 cases n
 rw [af.cells,af.Gh]
structure jq where
 Kind:Int
 Path:List aS
 From:List aS
 Value:af
 deriving Inhabited
def jq.cells (n:jq):List Cell:=[.lit (.int .i64 n.Kind),.sl 1 (List.map cS n.Path),.sl 1 (List.map cS n.From),.lit (.int .i64 n.Value.Kind),.lit (.int .i64 n.Value.Num),.str n.Value.Text,.sl 1 (List.map cS n.Value.Names),.sl 5 (List.map af.cells n.Value.Kids)]
theorem jq.dZ (n:jq):n.cells=[.lit (.int .i64 n.Kind),.sl 1 (List.map cS n.Path),.sl 1 (List.map cS n.From),.lit (.int .i64 n.Value.Kind),.lit (.int .i64 n.Value.Num),.str n.Value.Text,.sl 1 (List.map cS n.Value.Names),.sl 5 (List.map af.cells n.Value.Kids)]:=rfl
structure aH where
 Name:aS
 Version:Int
 Node:af
 deriving Inhabited
def aH.cells (n:aH):List Cell:=[.str n.Name,.lit (.int .i64 n.Version),.lit (.int .i64 n.Node.Kind),.lit (.int .i64 n.Node.Num),.str n.Node.Text,.sl 1 (List.map cS n.Node.Names),.sl 5 (List.map af.cells n.Node.Kids)]
theorem aH.dZ (n:aH):n.cells=[.str n.Name,.lit (.int .i64 n.Version),.lit (.int .i64 n.Node.Kind),.lit (.int .i64 n.Node.Num),.str n.Node.Text,.sl 1 (List.map cS n.Node.Names),.sl 5 (List.map af.cells n.Node.Kids)]:=rfl
structure StoreT where
 Items:List aH
 Clock:Int
 deriving Inhabited
def StoreT.cells (n:StoreT):List Cell:=[.sl 7 (List.map aH.cells n.Items),.lit (.int .i64 n.Clock)]
theorem StoreT.dZ (n:StoreT):n.cells=[.sl 7 (List.map aH.cells n.Items),.lit (.int .i64 n.Clock)]:=rfl
structure RequestT where
 Method:Int
 Name:aS
 Want:List aS
 lK:List aS
 Body:af
 Ops:List jq
 deriving Inhabited
def RequestT.cells (n:RequestT):List Cell:=[.lit (.int .i64 n.Method),.str n.Name,.sl 1 (List.map cS n.Want),.sl 1 (List.map cS n.lK),.lit (.int .i64 n.Body.Kind),.lit (.int .i64 n.Body.Num),.str n.Body.Text,.sl 1 (List.map cS n.Body.Names),.sl 5 (List.map af.cells n.Body.Kids),.sl 8 (List.map jq.cells n.Ops)]
theorem RequestT.dZ (n:RequestT):n.cells=[.lit (.int .i64 n.Method),.str n.Name,.sl 1 (List.map cS n.Want),.sl 1 (List.map cS n.lK),.lit (.int .i64 n.Body.Kind),.lit (.int .i64 n.Body.Num),.str n.Body.Text,.sl 1 (List.map cS n.Body.Names),.sl 5 (List.map af.cells n.Body.Kids),.sl 8 (List.map jq.cells n.Ops)]:=rfl
structure dA where
 Status:Int
 Tag:aS
 Version:Int
 Body:af
 deriving Inhabited
def dA.cells (n:dA):List Cell:=[.lit (.int .i64 n.Status),.str n.Tag,.lit (.int .i64 n.Version),.lit (.int .i64 n.Body.Kind),.lit (.int .i64 n.Body.Num),.str n.Body.Text,.sl 1 (List.map cS n.Body.Names),.sl 5 (List.map af.cells n.Body.Kids)]
theorem dA.dZ (n:dA):n.cells=[.lit (.int .i64 n.Status),.str n.Tag,.lit (.int .i64 n.Version),.lit (.int .i64 n.Body.Kind),.lit (.int .i64 n.Body.Num),.str n.Body.Text,.sl 1 (List.map cS n.Body.Names),.sl 5 (List.map af.cells n.Body.Kids)]:=rfl
end Go.Ab
end
section
namespace Go.Ab
open Go
set_option maxRecDepth 100000
set_option maxHeartbeats 4000000
set_option linter.unusedVariables false
set_option linter.unusedSimpArgs false
def G.cmp_isNaN_int (f:Nat) (kP:Int):Option (Bool):=match f with
| 0=>none
| n+1 =>
(some ((kP != kP)))
def G.cmp_Compare_int (f:Nat) (kP:Int) (yK:Int):Option (Int):=match f with
| 0=>none
| n+1 =>
((G.cmp_isNaN_int n kP).bind fun v1 =>
((G.cmp_isNaN_int n yK).bind fun v2 =>
(cond v1
(cond v2
(some (0))
(some ((-1))))
(cond v2
(some (1))
(cond (decide (kP<yK))
(some ((-1)))
(cond (decide (yK<kP))
(some (1))
(some (0))))))))
def G.cmp_isNaN_string (f:Nat) (kP:aS):Option (Bool):=match f with
| 0=>none
| n+1 =>
(some ((!(kP==kP))))
def G.cmp_Less_string (f:Nat) (kP:aS) (yK:aS):Option (Bool):=match f with
| 0=>none
| n+1 =>
((G.cmp_isNaN_string n kP).bind fun v1 =>
(cond v1
((G.cmp_isNaN_string n yK).bind fun v2 =>
(cond v2
(some ((Op.bytesLess kP yK)))
(some (true))))
(some ((Op.bytesLess kP yK)))))
mutual
def G.au.L2 (f:Nat) (ag:af) (z1:List aS) (fB:Int) (z4:List af):Option (af):=match f with
| 0=>none
| n+1 =>
(cond (decide (fB<((ag.Kids.length:Nat):Int)))
(chk (0<=fB/\fB<((ag.Kids.length:Nat):Int))
((G.au n (ag.Kids.getD fB.toNat default)).bind fun v3 =>
(chk (0<=fB/\fB<((z4.length:Nat):Int))
(G.au.L2 n ag z1 (IntKind.wrap .i64 (fB+1)) (z4.set fB.toNat v3)))))
(some ((af.mk ag.Kind ag.Num ag.Text z1 z4))))
def G.au.K1 (f:Nat) (ag:af) (z1:List aS):Option (af):=match f with
| 0=>none
| n+1 =>
(cond (decide (0<((ag.Kids.length:Nat):Int)))
(chk (0<=((ag.Kids.length:Nat):Int)/\((ag.Kids.length:Nat):Int)<=((ag.Kids.length:Nat):Int)/\80*((ag.Kids.length:Nat):Int)<=2^47/\((ag.Kids.length:Nat):Int)<=2^47)
(G.au.L2 n ag z1 0 (List.replicate ag.Kids.length (af.mk 0 0 [] [] []))))
(some ((af.mk ag.Kind ag.Num ag.Text z1 []))))
def G.au (f:Nat) (ag:af):Option (af):=match f with
| 0=>none
| n+1 =>
(cond (decide (0<((ag.Names.length:Nat):Int)))
(chk (0<=((ag.Names.length:Nat):Int)/\((ag.Names.length:Nat):Int)<=((ag.Names.length:Nat):Int)/\16*((ag.Names.length:Nat):Int)<=2^47/\((ag.Names.length:Nat):Int)<=2^47)
(G.au.K1 n ag ag.Names))
(G.au.K1 n ag []))
end
def G.slices_isNaN_string (f:Nat) (kP:aS):Option (Bool):=match f with
| 0=>none
| n+1 =>
(some ((!(kP==kP))))
def G.slices_BinarySearch_string.L1 (f:Nat) (kP:List aS) (jF:aS) (ak:Int) (xQ:Int):Option (Int × Bool):=match f with
| 0=>none
| n+1 =>
(cond (decide (ak<xQ))
(chk (0<=(IntKind.wrap .i64 ((Int.fdiv (IntKind.wrap .u64 ((IntKind.wrap .i64 (ak+xQ)))) (2^(min 1 (IntKind.bits .u64))))))/\(IntKind.wrap .i64 ((Int.fdiv (IntKind.wrap .u64 ((IntKind.wrap .i64 (ak+xQ)))) (2^(min 1 (IntKind.bits .u64))))))<((kP.length:Nat):Int))
((G.cmp_Less_string n (kP.getD (IntKind.wrap .i64 ((Int.fdiv (IntKind.wrap .u64 ((IntKind.wrap .i64 (ak+xQ)))) (2^(min 1 (IntKind.bits .u64)))))).toNat default) jF).bind fun v3 =>
(cond v3
(G.slices_BinarySearch_string.L1 n kP jF (IntKind.wrap .i64 ((IntKind.wrap .i64 ((Int.fdiv (IntKind.wrap .u64 ((IntKind.wrap .i64 (ak+xQ)))) (2^(min 1 (IntKind.bits .u64))))))+1)) xQ)
(G.slices_BinarySearch_string.L1 n kP jF ak (IntKind.wrap .i64 ((Int.fdiv (IntKind.wrap .u64 ((IntKind.wrap .i64 (ak+xQ)))) (2^(min 1 (IntKind.bits .u64))))))))))
(cond (decide (ak<((kP.length:Nat):Int)))
(chk (0<=ak/\ak<((kP.length:Nat):Int))
(cond ((kP.getD ak.toNat default)==jF)
(some (ak,true))
(chk (0<=ak/\ak<((kP.length:Nat):Int))
((G.slices_isNaN_string n (kP.getD ak.toNat default)).bind fun v4 =>
(cond v4
((G.slices_isNaN_string n jF).bind fun v5 =>
(some (ak,v5)))
(some (ak,false)))))))
(some (ak,false))))
def G.slices_BinarySearch_string (f:Nat) (kP:List aS) (jF:aS):Option (Int × Bool):=match f with
| 0=>none
| n+1 =>
(G.slices_BinarySearch_string.L1 n kP jF 0 ((kP.length:Nat):Int))
def G.strconv_Itoa (f:Nat) (i:Int):Option aS:=match f with
| 0=>none
| _+1=>(chk ((-9223372036854775808<=i/\i<=9223372036854775807)/\(Lib.itoa i).length<=1000000) (some (Lib.itoa i)))
def G.bG.L1 (f:Nat) (ag:af) (dU:aS) (fB:Int):Option (Int × Bool):=match f with
| 0=>none
| n+1 =>
(cond (decide (fB<((ag.Kids.length:Nat):Int)))
((G.strconv_Itoa n fB).bind fun v4 =>
(cond (v4==dU)
(some (fB,true))
(G.bG.L1 n ag dU (IntKind.wrap .i64 (fB+1)))))
(some (0,false)))
def G.bG (f:Nat) (ag:af) (dU:aS):Option (Int × Bool):=match f with
| 0=>none
| n+1 =>
(cond (ag.Kind==4)
((G.slices_BinarySearch_string n ag.Names dU).bind fun v1 =>
(some (v1.1,v1.2)))
(cond (ag.Kind==3)
(G.bG.L1 n ag dU 0)
(some (0,false))))
def G.bI (f:Nat) (s:List af) (i:Int) (v:List af):Option (List af):=match f with
| 0=>none
| _+1=>chk (0<=i/\i<=((s.length:Nat):Int)/\v.length=1/\(s.length+1)*86<=2^46) (some (s.take i.toNat++v++s.drop i.toNat))
def G.dQ (f:Nat) (s:List aS) (i:Int) (v:List aS):Option (List aS):=match f with
| 0=>none
| _+1=>chk (0<=i/\i<=((s.length:Nat):Int)/\v.length=1/\(s.length+1)*18<=2^46) (some (s.take i.toNat++v++s.drop i.toNat))
def G.iO (f:Nat) (oP:af) (aW:aS) (bW:af):Option (af):=match f with
| 0=>none
| n+1 =>
((G.slices_BinarySearch_string n oP.Names aW).bind fun v1 =>
(cond v1.2
(chk (0<=v1.1/\v1.1<((oP.Kids.length:Nat):Int))
(some ((af.mk oP.Kind oP.Num oP.Text oP.Names (oP.Kids.set v1.1.toNat bW)))))
((G.dQ n oP.Names v1.1 [aW]).bind fun v2 =>
((G.bI n oP.Kids v1.1 [bW]).bind fun v3 =>
(some ((af.mk oP.Kind oP.Num oP.Text v2 v3)))))))
def G.fF.K1 (f:Nat) (bW:af) (v1:af) (WN:Int) (SS:Bool):Option (af × Bool):=match f with
| 0=>none
| n+1 =>
(cond SS
((G.au n bW).bind fun v6 =>
((G.bI n v1.Kids WN [v6]).bind fun v7 =>
(some ((af.mk v1.Kind v1.Num v1.Text v1.Names v7),true))))
(some ((af.mk 0 0 [] [] []),false)))
def G.fF (f:Nat) (ag:af) (dU:aS) (bW:af):Option (af × Bool):=match f with
| 0=>none
| n+1 =>
((G.au n ag).bind fun v1 =>
(cond (ag.Kind==4)
((G.au n bW).bind fun v2 =>
((G.iO n v1 dU v2).bind fun v3 =>
(some (v3,true))))
(cond (ag.Kind==3)
((G.bG n ag dU).bind fun v4 =>
(cond v4.2
(G.fF.K1 n bW v1 v4.1 true)
(cond (dU==[45])
(G.fF.K1 n bW v1 ((ag.Kids.length:Nat):Int) true)
((G.strconv_Itoa n ((ag.Kids.length:Nat):Int)).bind fun v8 =>
(cond (dU==v8)
(G.fF.K1 n bW v1 ((ag.Kids.length:Nat):Int) true)
(G.fF.K1 n bW v1 v4.1 false))))))
(some ((af.mk 0 0 [] [] []),false)))))
def G.kR (f:Nat) (nN:af) (eY:List aS) (iJ:Int) (nT:af):Option (af × Bool):=match f with
| 0=>none
| n+1 =>
(chk (0<=iJ/\iJ<((eY.length:Nat):Int))
((G.fF n nN (eY.getD iJ.toNat default) nT).bind fun v1 =>
(some (v1.1,v1.2))))
def G.bu.L1 (f:Nat) (ai:aS) (ak:Int):Option (Bool):=match f with
| 0=>none
| n+1 =>
(cond (decide (ak<((ai.length:Nat):Int)))
(chk (0<=ak/\ak<((ai.length:Nat):Int))
(cond (decide ((((ai.getD ak.toNat 0).toNat:Nat):Int)<32))
(some (false))
(chk (0<=ak/\ak<((ai.length:Nat):Int))
(cond (decide (126<(((ai.getD ak.toNat 0).toNat:Nat):Int)))
(some (false))
(G.bu.L1 n ai (IntKind.wrap .i64 (ak+1)))))))
(some (true)))
def G.bu (f:Nat) (ai:aS):Option (Bool):=match f with
| 0=>none
| n+1 =>
(cond (decide (12<((ai.length:Nat):Int)))
(some (false))
(G.bu.L1 n ai 0))
def G.dJ.L1 (f:Nat) (l7:List aS) (fB:Int):Option (Bool):=match f with
| 0=>none
| n+1 =>
(cond (decide (fB<((l7.length:Nat):Int)))
(chk (0<=fB/\fB<((l7.length:Nat):Int))
((G.bu n (l7.getD fB.toNat default)).bind fun v3 =>
(cond v3
(cond (decide (0<fB))
(chk (0<=(IntKind.wrap .i64 (fB-1))/\(IntKind.wrap .i64 (fB-1))<((l7.length:Nat):Int))
(cond (Op.bytesLess (l7.getD (IntKind.wrap .i64 (fB-1)).toNat default) (l7.getD fB.toNat default))
(G.dJ.L1 n l7 (IntKind.wrap .i64 (fB+1)))
(some (false))))
(G.dJ.L1 n l7 (IntKind.wrap .i64 (fB+1))))
(some (false)))))
(some (true)))
def G.dJ (f:Nat) (l7:List aS):Option (Bool):=match f with
| 0=>none
| n+1 =>
(cond (decide (6<((l7.length:Nat):Int)))
(some (false))
(G.dJ.L1 n l7 0))
def G.aN.K1 (f:Nat) (ag:af):Option (Bool):=match f with
| 0=>none
| n+1 =>
(cond (ag.Kind != 4)
(cond (decide (0<((ag.Names.length:Nat):Int)))
(some (false))
(cond (ag.Kind==0)
(some ((((ag.Kids.length:Nat):Int)==0)))
(cond (ag.Kind==1)
(cond (decide ((-999999)<=ag.Num))
(cond (decide (ag.Num<=999999))
(some ((((ag.Kids.length:Nat):Int)==0)))
(some (false)))
(some (false)))
(cond (ag.Kind==2)
((G.bu n ag.Text).bind fun v1 =>
(cond v1
(some ((((ag.Kids.length:Nat):Int)==0)))
(some (false))))
(cond (ag.Kind==3)
(some ((decide (((ag.Kids.length:Nat):Int)<=6))))
(cond (ag.Kind==4)
((G.dJ n ag.Names).bind fun v2 =>
(cond v2
(some ((((ag.Kids.length:Nat):Int)==((ag.Names.length:Nat):Int))))
(some (false))))
(some (false))))))))
(cond (ag.Kind==0)
(some ((((ag.Kids.length:Nat):Int)==0)))
(cond (ag.Kind==1)
(cond (decide ((-999999)<=ag.Num))
(cond (decide (ag.Num<=999999))
(some ((((ag.Kids.length:Nat):Int)==0)))
(some (false)))
(some (false)))
(cond (ag.Kind==2)
((G.bu n ag.Text).bind fun v3 =>
(cond v3
(some ((((ag.Kids.length:Nat):Int)==0)))
(some (false))))
(cond (ag.Kind==3)
(some ((decide (((ag.Kids.length:Nat):Int)<=6))))
(cond (ag.Kind==4)
((G.dJ n ag.Names).bind fun v4 =>
(cond v4
(some ((((ag.Kids.length:Nat):Int)==((ag.Names.length:Nat):Int))))
(some (false))))
(some (false))))))))
def G.aN (f:Nat) (ag:af):Option (Bool):=match f with
| 0=>none
| n+1 =>
(cond (ag.Kind != 1)
(cond (ag.Num != 0)
(some (false))
(cond (ag.Kind != 2)
(cond (ag.Text==[])
(G.aN.K1 n ag)
(some (false)))
(G.aN.K1 n ag)))
(cond (ag.Kind != 2)
(cond (ag.Text==[])
(G.aN.K1 n ag)
(some (false)))
(G.aN.K1 n ag)))
mutual
def G.aF.L1 (f:Nat) (ag:af) (oh:Int) (KE:Int) (Fv:Int) (fB:Int):Option (Int × Int × Bool):=match f with
| 0=>none
| n+1 =>
(cond (decide (fB<((ag.Kids.length:Nat):Int)))
(chk (0<=fB/\fB<((ag.Kids.length:Nat):Int))
((G.aF n (ag.Kids.getD fB.toNat default) (IntKind.wrap .i64 (oh+1))).bind fun v4 =>
(cond v4.2.2
(G.aF.L1 n ag oh (IntKind.wrap .i64 (KE+v4.1)) (if (IntKind.wrap .i64 (v4.2.1+1))>Fv then (IntKind.wrap .i64 (v4.2.1+1)) else Fv) (IntKind.wrap .i64 (fB+1)))
(some (0,0,false)))))
(some (KE,Fv,true)))
def G.aF (f:Nat) (ag:af) (oh:Int):Option (Int × Int × Bool):=match f with
| 0=>none
| n+1 =>
(cond (decide (5<oh))
(some (0,0,false))
((G.aN n ag).bind fun v1 =>
(cond v1
(G.aF.L1 n ag oh 1 1 0)
(some (0,0,false)))))
end
def G.aC (f:Nat) (ag:af):Option (Bool):=match f with
| 0=>none
| n+1 =>
((G.aF n ag 1).bind fun v1 =>
(cond v1.2.2
(some ((decide (v1.1<=40))))
(some (false))))
mutual
def G.dB (f:Nat) (ag:af) (ah:List aS) (eY:List aS) (iJ:Int) (nT:af):Option (af × Bool):=match f with
| 0=>none
| n+1 =>
(cond (((ah.length:Nat):Int)==0)
((G.kR n ag eY iJ nT).bind fun v1 =>
(some (v1.1,v1.2)))
(chk (0<=0/\0<((ah.length:Nat):Int))
((G.bG n ag (ah.getD 0 default)).bind fun v2 =>
(cond v2.2
(chk (0<=v2.1/\v2.1<((ag.Kids.length:Nat):Int))
(chk (0<=1/\1<=((ah.length:Nat):Int)/\((ah.length:Nat):Int)<=((ah.length:Nat):Int))
((G.dB n (ag.Kids.getD v2.1.toNat default) (ah.drop 1) eY iJ nT).bind fun v3 =>
(cond v3.2
((G.au n ag).bind fun v4 =>
(chk (0<=v2.1/\v2.1<((v4.Kids.length:Nat):Int))
(some ((af.mk v4.Kind v4.Num v4.Text v4.Names (v4.Kids.set v2.1.toNat v3.1)),true))))
(some ((af.mk 0 0 [] [] []),false))))))
(some ((af.mk 0 0 [] [] []),false))))))
end
def G.iM (f:Nat) (ag:af) (xe:Bool):Option (af × Bool):=match f with
| 0=>none
| n+1 =>
(cond xe
((G.aC n ag).bind fun v1 =>
(cond v1
(some (ag,true))
(some ((af.mk 0 0 [] [] []),false))))
(some ((af.mk 0 0 [] [] []),false)))
def G.cO.L1 (f:Nat) (ah:List aS) (fB:Int):Option (Bool):=match f with
| 0=>none
| n+1 =>
(cond (decide (fB<((ah.length:Nat):Int)))
(chk (0<=fB/\fB<((ah.length:Nat):Int))
((G.bu n (ah.getD fB.toNat default)).bind fun v3 =>
(cond v3
(G.cO.L1 n ah (IntKind.wrap .i64 (fB+1)))
(some (false)))))
(some (true)))
def G.cO (f:Nat) (ah:List aS):Option (Bool):=match f with
| 0=>none
| n+1 =>
(cond (decide (5<((ah.length:Nat):Int)))
(some (false))
(G.cO.L1 n ah 0))
def G.gY (f:Nat) (ag:af) (ah:List aS) (bW:af):Option (af × Bool):=match f with
| 0=>none
| n+1 =>
((G.aC n ag).bind fun v1 =>
(cond v1
((G.cO n ah).bind fun v2 =>
(cond v2
((G.aC n bW).bind fun v3 =>
(cond v3
(cond (((ah.length:Nat):Int)==0)
((G.au n bW).bind fun v4 =>
(some (v4,true)))
(chk (0<=0/\0<=(IntKind.wrap .i64 (((ah.length:Nat):Int)-1))/\(IntKind.wrap .i64 (((ah.length:Nat):Int)-1))<=((ah.length:Nat):Int))
((G.dB n ag (ah.take ((IntKind.wrap .i64 (((ah.length:Nat):Int)-1)).toNat)) ah (IntKind.wrap .i64 (((ah.length:Nat):Int)-1)) bW).bind fun v5 =>
((G.iM n v5.1 v5.2).bind fun v6 =>
(some (v6.1,v6.2))))))
(some ((af.mk 0 0 [] [] []),false))))
(some ((af.mk 0 0 [] [] []),false))))
(some ((af.mk 0 0 [] [] []),false))))
def G.dX.L1 (f:Nat) (ah:List aS) (fB:Int) (y6:Int) (y7:Int) (y8:aS) (y9:List aS) (CE:List af):Option (af × Bool):=match f with
| 0=>none
| n+1 =>
(cond (decide (fB<((ah.length:Nat):Int)))
(chk (0<=fB/\fB<((ah.length:Nat):Int))
((G.bG n (af.mk y6 y7 y8 y9 CE) (ah.getD fB.toNat default)).bind fun v3 =>
(cond v3.2
(chk (0<=v3.1/\v3.1<((CE.length:Nat):Int))
(G.dX.L1 n ah (IntKind.wrap .i64 (fB+1)) ((CE.getD v3.1.toNat default).Kind) ((CE.getD v3.1.toNat default).Num) ((CE.getD v3.1.toNat default).Text) ((CE.getD v3.1.toNat default).Names) ((CE.getD v3.1.toNat default).Kids)))
(some ((af.mk 0 0 [] [] []),false)))))
(some ((af.mk y6 y7 y8 y9 CE),true)))
def G.dX (f:Nat) (ag:af) (ah:List aS):Option (af × Bool):=match f with
| 0=>none
| n+1 =>
(G.dX.L1 n ah 0 ag.Kind ag.Num ag.Text ag.Names ag.Kids)
def G.kH (f:Nat) (ag:af) (ah:List aS):Option (af × Bool):=match f with
| 0=>none
| n+1 =>
((G.aC n ag).bind fun v1 =>
(cond v1
((G.cO n ah).bind fun v2 =>
(cond v2
((G.dX n ag ah).bind fun v3 =>
(cond v3.2
((G.au n v3.1).bind fun v4 =>
(some (v4,true)))
(some ((af.mk 0 0 [] [] []),false))))
(some ((af.mk 0 0 [] [] []),false))))
(some ((af.mk 0 0 [] [] []),false))))
def G.bU (f:Nat) (s:List af) (i:Int) (j:Int):Option (List af):=match f with
| 0=>none
| _+1=>chk (0<=i/\i<j/\j<=((s.length:Nat):Int)/\s.length*86<=2^46) (some (s.take i.toNat++s.drop j.toNat))
def G.slices_Delete_string (f:Nat) (s:List aS) (i:Int) (j:Int):Option (List aS):=match f with
| 0=>none
| _+1=>chk (0<=i/\i<j/\j<=((s.length:Nat):Int)/\s.length*18<=2^46) (some (s.take i.toNat++s.drop j.toNat))
def G.dh.K1 (f:Nat) (v1:Int × Bool) (v2:af) (z1:List aS):Option (af × Bool):=match f with
| 0=>none
| n+1 =>
((G.bU n v2.Kids v1.1 (IntKind.wrap .i64 (v1.1+1))).bind fun v4 =>
(some ((af.mk v2.Kind v2.Num v2.Text z1 v4),true)))
def G.dh (f:Nat) (nN:af) (eY:List aS) (iJ:Int):Option (af × Bool):=match f with
| 0=>none
| n+1 =>
(chk (0<=iJ/\iJ<((eY.length:Nat):Int))
((G.bG n nN (eY.getD iJ.toNat default)).bind fun v1 =>
(cond v1.2
((G.au n nN).bind fun v2 =>
(cond (nN.Kind==4)
((G.slices_Delete_string n v2.Names v1.1 (IntKind.wrap .i64 (v1.1+1))).bind fun v5 =>
(G.dh.K1 n v1 v2 v5))
(G.dh.K1 n v1 v2 v2.Names)))
(some ((af.mk 0 0 [] [] []),false)))))
mutual
def G.cu (f:Nat) (ag:af) (ah:List aS) (eY:List aS) (iJ:Int):Option (af × Bool):=match f with
| 0=>none
| n+1 =>
(cond (((ah.length:Nat):Int)==0)
((G.dh n ag eY iJ).bind fun v1 =>
(some (v1.1,v1.2)))
(chk (0<=0/\0<((ah.length:Nat):Int))
((G.bG n ag (ah.getD 0 default)).bind fun v2 =>
(cond v2.2
(chk (0<=v2.1/\v2.1<((ag.Kids.length:Nat):Int))
(chk (0<=1/\1<=((ah.length:Nat):Int)/\((ah.length:Nat):Int)<=((ah.length:Nat):Int))
((G.cu n (ag.Kids.getD v2.1.toNat default) (ah.drop 1) eY iJ).bind fun v3 =>
(cond v3.2
((G.au n ag).bind fun v4 =>
(chk (0<=v2.1/\v2.1<((v4.Kids.length:Nat):Int))
(some ((af.mk v4.Kind v4.Num v4.Text v4.Names (v4.Kids.set v2.1.toNat v3.1)),true))))
(some ((af.mk 0 0 [] [] []),false))))))
(some ((af.mk 0 0 [] [] []),false))))))
end
def G.fJ (f:Nat) (ag:af) (ah:List aS):Option (af × Bool):=match f with
| 0=>none
| n+1 =>
((G.aC n ag).bind fun v1 =>
(cond v1
((G.cO n ah).bind fun v2 =>
(cond v2
(cond (((ah.length:Nat):Int)==0)
(some ((af.mk 0 0 [] [] []),false))
(chk (0<=0/\0<=(IntKind.wrap .i64 (((ah.length:Nat):Int)-1))/\(IntKind.wrap .i64 (((ah.length:Nat):Int)-1))<=((ah.length:Nat):Int))
((G.cu n ag (ah.take ((IntKind.wrap .i64 (((ah.length:Nat):Int)-1)).toNat)) ah (IntKind.wrap .i64 (((ah.length:Nat):Int)-1))).bind fun v3 =>
(some (v3.1,v3.2)))))
(some ((af.mk 0 0 [] [] []),false))))
(some ((af.mk 0 0 [] [] []),false))))
def G.kS (f:Nat) (ax:af) (eY:af):Option (af × Bool):=match f with
| 0=>none
| n+1 =>
((G.au n eY).bind fun v1 =>
(some (v1,true)))
mutual
def G.dD (f:Nat) (ag:af) (ah:List aS) (eY:af):Option (af × Bool):=match f with
| 0=>none
| n+1 =>
(cond (((ah.length:Nat):Int)==0)
((G.kS n ag eY).bind fun v1 =>
(some (v1.1,v1.2)))
(chk (0<=0/\0<((ah.length:Nat):Int))
((G.bG n ag (ah.getD 0 default)).bind fun v2 =>
(cond v2.2
(chk (0<=v2.1/\v2.1<((ag.Kids.length:Nat):Int))
(chk (0<=1/\1<=((ah.length:Nat):Int)/\((ah.length:Nat):Int)<=((ah.length:Nat):Int))
((G.dD n (ag.Kids.getD v2.1.toNat default) (ah.drop 1) eY).bind fun v3 =>
(cond v3.2
((G.au n ag).bind fun v4 =>
(chk (0<=v2.1/\v2.1<((v4.Kids.length:Nat):Int))
(some ((af.mk v4.Kind v4.Num v4.Text v4.Names (v4.Kids.set v2.1.toNat v3.1)),true))))
(some ((af.mk 0 0 [] [] []),false))))))
(some ((af.mk 0 0 [] [] []),false))))))
end
def G.lC (f:Nat) (ag:af) (ah:List aS) (bW:af):Option (af × Bool):=match f with
| 0=>none
| n+1 =>
((G.aC n ag).bind fun v1 =>
(cond v1
((G.cO n ah).bind fun v2 =>
(cond v2
((G.aC n bW).bind fun v3 =>
(cond v3
((G.dD n ag ah bW).bind fun v4 =>
((G.iM n v4.1 v4.2).bind fun v5 =>
(some (v5.1,v5.2))))
(some ((af.mk 0 0 [] [] []),false))))
(some ((af.mk 0 0 [] [] []),false))))
(some ((af.mk 0 0 [] [] []),false))))
def G.kV (f:Nat) (gy:jq):Option (Bool):=match f with
| 0=>none
| n+1 =>
(cond (decide (1<=gy.Kind))
(cond (decide (gy.Kind<=6))
((G.cO n gy.Path).bind fun v1 =>
(cond v1
((G.cO n gy.From).bind fun v2 =>
(cond v2
((G.aC n gy.Value).bind fun v3 =>
(some (v3)))
(some (false))))
(some (false))))
(some (false)))
(some (false)))
def G.slices_Equal_string.L1 (f:Nat) (uw:List aS) (wM:List aS) (fB:Int):Option (Bool):=match f with
| 0=>none
| n+1 =>
(cond (decide (fB<((uw.length:Nat):Int)))
(chk (0<=fB/\fB<((uw.length:Nat):Int))
(chk (0<=fB/\fB<((wM.length:Nat):Int))
(cond ((uw.getD fB.toNat default)==(wM.getD fB.toNat default))
(G.slices_Equal_string.L1 n uw wM (IntKind.wrap .i64 (fB+1)))
(some (false)))))
(some (true)))
def G.slices_Equal_string (f:Nat) (uw:List aS) (wM:List aS):Option (Bool):=match f with
| 0=>none
| n+1 =>
(cond (((uw.length:Nat):Int) != ((wM.length:Nat):Int))
(some (false))
(G.slices_Equal_string.L1 n uw wM 0))
def G.kE (f:Nat) (ag:af) (pO:List aS) (ah:List aS):Option (af × Bool):=match f with
| 0=>none
| n+1 =>
((G.kH n ag pO).bind fun v1 =>
(cond v1.2
((G.slices_Equal_string n ah pO).bind fun v2 =>
(cond v2
((G.au n ag).bind fun v3 =>
(some (v3,true)))
(cond (decide (((pO.length:Nat):Int)<((ah.length:Nat):Int)))
(chk (0<=0/\0<=((pO.length:Nat):Int)/\((pO.length:Nat):Int)<=((ah.length:Nat):Int))
((G.slices_Equal_string n (ah.take pO.length) pO).bind fun v4 =>
(cond v4
(some ((af.mk 0 0 [] [] []),false))
((G.fJ n ag pO).bind fun v5 =>
(cond v5.2
((G.gY n v5.1 ah v1.1).bind fun v6 =>
(some (v6.1,v6.2)))
(some ((af.mk 0 0 [] [] []),false)))))))
((G.fJ n ag pO).bind fun v7 =>
(cond v7.2
((G.gY n v7.1 ah v1.1).bind fun v8 =>
(some (v8.1,v8.2)))
(some ((af.mk 0 0 [] [] []),false)))))))
(some ((af.mk 0 0 [] [] []),false))))
def G.bT (f:Nat) (ax:aS) (bH:aS):Option (Int):=match f with
| 0=>none
| n+1 =>
(some ((Go.Lib.compareBytes ax bH)))
def G.strings_Compare (f:Nat) (ax:aS) (bH:aS):Option (Int):=match f with
| 0=>none
| n+1 =>
((G.bT n ax bH).bind fun v1 =>
(some (v1)))
mutual
def G.aJ.K4 (f:Nat) (ax:af) (bH:af) (ak:Int):Option (Int):=match f with
| 0=>none
| n+1 =>
(chk (0<=ak/\ak<((ax.Kids.length:Nat):Int))
(chk (0<=ak/\ak<((bH.Kids.length:Nat):Int))
((G.aJ n (ax.Kids.getD ak.toNat default) (bH.Kids.getD ak.toNat default)).bind fun v11 =>
(cond (v11 != 0)
(some (v11))
(G.aJ.L3 n ax bH (IntKind.wrap .i64 (ak+1)))))))
def G.aJ.L3 (f:Nat) (ax:af) (bH:af) (ak:Int):Option (Int):=match f with
| 0=>none
| n+1 =>
(cond (decide (ak<((ax.Kids.length:Nat):Int)))
(cond (decide (ak<((bH.Kids.length:Nat):Int)))
(cond (ax.Kind==4)
(chk (0<=ak/\ak<((ax.Names.length:Nat):Int))
(chk (0<=ak/\ak<((bH.Names.length:Nat):Int))
((G.strings_Compare n (ax.Names.getD ak.toNat default) (bH.Names.getD ak.toNat default)).bind fun v12 =>
(cond (v12 != 0)
(some (v12))
(G.aJ.K4 n ax bH ak)))))
(G.aJ.K4 n ax bH ak))
((G.cmp_Compare_int n ((ax.Kids.length:Nat):Int) ((bH.Kids.length:Nat):Int)).bind fun v13 =>
(some (v13))))
((G.cmp_Compare_int n ((ax.Kids.length:Nat):Int) ((bH.Kids.length:Nat):Int)).bind fun v14 =>
(some (v14))))
def G.aJ (f:Nat) (ax:af) (bH:af):Option (Int):=match f with
| 0=>none
| n+1 =>
((G.cmp_Compare_int n ax.Kind bH.Kind).bind fun v1 =>
(cond (v1 != 0)
(some (v1))
((G.cmp_Compare_int n ax.Num bH.Num).bind fun v2 =>
(cond (v2 != 0)
(some (v2))
((G.strings_Compare n ax.Text bH.Text).bind fun v3 =>
(cond (v3 != 0)
(some (v3))
(G.aJ.L3 n ax bH 0)))))))
end
def G.kF (f:Nat) (ax:af) (bH:af):Option (Bool):=match f with
| 0=>none
| n+1 =>
((G.aJ n ax bH).bind fun v1 =>
(some ((v1==0))))
def G.jJ (f:Nat) (ag:af) (ah:List aS) (bW:af):Option (af × Bool):=match f with
| 0=>none
| n+1 =>
((G.dX n ag ah).bind fun v1 =>
(cond v1.2
((G.kF n v1.1 bW).bind fun v2 =>
(cond v2
((G.au n ag).bind fun v3 =>
(some (v3,true)))
(some ((af.mk 0 0 [] [] []),false))))
(some ((af.mk 0 0 [] [] []),false))))
def G.lg (f:Nat) (ag:af) (gy:jq):Option (af × Bool):=match f with
| 0=>none
| n+1 =>
((G.aC n ag).bind fun v1 =>
(cond v1
((G.kV n gy).bind fun v2 =>
(cond v2
(cond (gy.Kind==1)
((G.gY n ag gy.Path gy.Value).bind fun v3 =>
(some (v3.1,v3.2)))
(cond (gy.Kind==2)
((G.fJ n ag gy.Path).bind fun v4 =>
(some (v4.1,v4.2)))
(cond (gy.Kind==3)
((G.lC n ag gy.Path gy.Value).bind fun v5 =>
(some (v5.1,v5.2)))
(cond (gy.Kind==4)
((G.kE n ag gy.From gy.Path).bind fun v6 =>
(some (v6.1,v6.2)))
(cond (gy.Kind==5)
((G.kH n ag gy.From).bind fun v7 =>
(cond v7.2
((G.gY n ag gy.Path v7.1).bind fun v8 =>
(some (v8.1,v8.2)))
(some ((af.mk 0 0 [] [] []),false))))
((G.jJ n ag gy.Path gy.Value).bind fun v9 =>
(some (v9.1,v9.2))))))))
(some ((af.mk 0 0 [] [] []),false))))
(some ((af.mk 0 0 [] [] []),false))))
def G.aT.L1 (f:Nat) (aA:List jq) (fB:Int):Option (Bool):=match f with
| 0=>none
| n+1 =>
(cond (decide (fB<((aA.length:Nat):Int)))
(chk (0<=fB/\fB<((aA.length:Nat):Int))
((G.kV n (jq.mk ((aA.getD fB.toNat default).Kind) ((aA.getD fB.toNat default).Path) ((aA.getD fB.toNat default).From) ((aA.getD fB.toNat default).Value))).bind fun v3 =>
(cond v3
(G.aT.L1 n aA (IntKind.wrap .i64 (fB+1)))
(some (false)))))
(some (true)))
def G.aT (f:Nat) (aA:List jq):Option (Bool):=match f with
| 0=>none
| n+1 =>
(cond (decide (12<((aA.length:Nat):Int)))
(some (false))
(G.aT.L1 n aA 0))
def G.dY.L1 (f:Nat) (aA:List jq) (fB:Int) (y6:Int) (y7:Int) (y8:aS) (y9:List aS) (CE:List af):Option (af × Int):=match f with
| 0=>none
| n+1 =>
(cond (decide (fB<((aA.length:Nat):Int)))
(chk (0<=fB/\fB<((aA.length:Nat):Int))
((G.lg n (af.mk y6 y7 y8 y9 CE) (jq.mk ((aA.getD fB.toNat default).Kind) ((aA.getD fB.toNat default).Path) ((aA.getD fB.toNat default).From) ((aA.getD fB.toNat default).Value))).bind fun v4 =>
(cond v4.2
(G.dY.L1 n aA (IntKind.wrap .i64 (fB+1)) v4.1.Kind v4.1.Num v4.1.Text v4.1.Names v4.1.Kids)
(some ((af.mk 0 0 [] [] []),fB)))))
(some ((af.mk y6 y7 y8 y9 CE),((aA.length:Nat):Int))))
def G.dY (f:Nat) (ag:af) (aA:List jq):Option (af × Int):=match f with
| 0=>none
| n+1 =>
((G.au n ag).bind fun v1 =>
(G.dY.L1 n aA 0 v1.Kind v1.Num v1.Text v1.Names v1.Kids))
def G.dP.L1 (f:Nat) (ai:aS) (ak:Int):Option (Bool):=match f with
| 0=>none
| n+1 =>
(cond (decide (ak<((ai.length:Nat):Int)))
(chk (0<=ak/\ak<((ai.length:Nat):Int))
(cond (decide ((((ai.getD ak.toNat 0).toNat:Nat):Int)<97))
(chk (0<=ak/\ak<((ai.length:Nat):Int))
(cond (decide ((((ai.getD ak.toNat 0).toNat:Nat):Int)<48))
(some (false))
(chk (0<=ak/\ak<((ai.length:Nat):Int))
(cond (decide (57<(((ai.getD ak.toNat 0).toNat:Nat):Int)))
(some (false))
(G.dP.L1 n ai (IntKind.wrap .i64 (ak+1)))))))
(chk (0<=ak/\ak<((ai.length:Nat):Int))
(cond (decide (122<(((ai.getD ak.toNat 0).toNat:Nat):Int)))
(chk (0<=ak/\ak<((ai.length:Nat):Int))
(cond (decide ((((ai.getD ak.toNat 0).toNat:Nat):Int)<48))
(some (false))
(chk (0<=ak/\ak<((ai.length:Nat):Int))
(cond (decide (57<(((ai.getD ak.toNat 0).toNat:Nat):Int)))
(some (false))
(G.dP.L1 n ai (IntKind.wrap .i64 (ak+1)))))))
(G.dP.L1 n ai (IntKind.wrap .i64 (ak+1)))))))
(some (true)))
def G.dP (f:Nat) (ai:aS):Option (Bool):=match f with
| 0=>none
| n+1 =>
(cond (ai==[])
(some (false))
(cond (decide (8<((ai.length:Nat):Int)))
(some (false))
(G.dP.L1 n ai 0)))
def G.aK.L1 (f:Nat) (ai:StoreT) (fB:Int):Option (Bool):=match f with
| 0=>none
| n+1 =>
(cond (decide (fB<((ai.Items.length:Nat):Int)))
(chk (0<=fB/\fB<((ai.Items.length:Nat):Int))
((G.dP n ((ai.Items.getD fB.toNat default).Name)).bind fun v6 =>
(cond v6
(cond (decide (0<fB))
(chk (0<=(IntKind.wrap .i64 (fB-1))/\(IntKind.wrap .i64 (fB-1))<((ai.Items.length:Nat):Int))
(cond (Op.bytesLess ((ai.Items.getD (IntKind.wrap .i64 (fB-1)).toNat default).Name) ((ai.Items.getD fB.toNat default).Name))
(cond (decide ((ai.Items.getD fB.toNat default).Version<1))
(some (false))
(cond (decide (ai.Clock<(ai.Items.getD fB.toNat default).Version))
(some (false))
((G.aC n ((ai.Items.getD fB.toNat default).Node)).bind fun v7 =>
(cond v7
(G.aK.L1 n ai (IntKind.wrap .i64 (fB+1)))
(some (false))))))
(some (false))))
(cond (decide ((ai.Items.getD fB.toNat default).Version<1))
(some (false))
(cond (decide (ai.Clock<(ai.Items.getD fB.toNat default).Version))
(some (false))
((G.aC n ((ai.Items.getD fB.toNat default).Node)).bind fun v8 =>
(cond v8
(G.aK.L1 n ai (IntKind.wrap .i64 (fB+1)))
(some (false)))))))
(some (false)))))
(some (true)))
def G.aK (f:Nat) (ai:StoreT):Option (Bool):=match f with
| 0=>none
| n+1 =>
(cond (decide (10<((ai.Items.length:Nat):Int)))
(some (false))
(cond (decide (ai.Clock<0))
(some (false))
(cond (decide (999<ai.Clock))
(some (false))
(G.aK.L1 n ai 0))))
def G.dM.L1 (f:Nat) (ax:List aS) (bH:List aS) (ak:Int):Option (Bool):=match f with
| 0=>none
| n+1 =>
(cond (decide (ak<((ax.length:Nat):Int)))
(chk (0<=ak/\ak<((ax.length:Nat):Int))
(chk (0<=ak/\ak<((bH.length:Nat):Int))
(cond ((ax.getD ak.toNat default)==(bH.getD ak.toNat default))
(G.dM.L1 n ax bH (IntKind.wrap .i64 (ak+1)))
(some (false)))))
(some (true)))
def G.dM (f:Nat) (ax:List aS) (bH:List aS):Option (Bool):=match f with
| 0=>none
| n+1 =>
(cond (((ax.length:Nat):Int) != ((bH.length:Nat):Int))
(some (false))
(G.dM.L1 n ax bH 0))
mutual
def G.jh (f:Nat) (ax:af) (bH:af):Option (Bool):=match f with
| 0=>none
| n+1 =>
(cond (ax.Kind != bH.Kind)
(some (false))
(cond (ax.Num != bH.Num)
(some (false))
(cond (ax.Text==bH.Text)
((G.dM n ax.Names bH.Names).bind fun v1 =>
(cond v1
((G.jb n ax.Kids bH.Kids).bind fun v2 =>
(cond v2
(some (true))
(some (false))))
(some (false))))
(some (false)))))
def G.jb.L1 (f:Nat) (ax:List af) (bH:List af) (ak:Int):Option (Bool):=match f with
| 0=>none
| n+1 =>
(cond (decide (ak<((ax.length:Nat):Int)))
(chk (0<=ak/\ak<((ax.length:Nat):Int))
(chk (0<=ak/\ak<((bH.length:Nat):Int))
((G.jh n (ax.getD ak.toNat default) (bH.getD ak.toNat default)).bind fun v3 =>
(cond v3
(G.jb.L1 n ax bH (IntKind.wrap .i64 (ak+1)))
(some (false))))))
(some (true)))
def G.jb (f:Nat) (ax:List af) (bH:List af):Option (Bool):=match f with
| 0=>none
| n+1 =>
(cond (((ax.length:Nat):Int) != ((bH.length:Nat):Int))
(some (false))
(G.jb.L1 n ax bH 0))
end
def G.nZ (f:Nat) (ax:jq) (bH:jq):Option (Bool):=match f with
| 0=>none
| n+1 =>
(cond (ax.Kind != bH.Kind)
(some (false))
((G.dM n ax.Path bH.Path).bind fun v1 =>
(cond v1
((G.dM n ax.From bH.From).bind fun v2 =>
(cond v2
((G.jh n ax.Value bH.Value).bind fun v3 =>
(cond v3
(some (true))
(some (false))))
(some (false))))
(some (false)))))
def G.jv.L1 (f:Nat) (ax:List jq) (bH:List jq) (ak:Int):Option (Bool):=match f with
| 0=>none
| n+1 =>
(cond (decide (ak<((ax.length:Nat):Int)))
(chk (0<=ak/\ak<((ax.length:Nat):Int))
(chk (0<=ak/\ak<((bH.length:Nat):Int))
((G.nZ n (jq.mk ((ax.getD ak.toNat default).Kind) ((ax.getD ak.toNat default).Path) ((ax.getD ak.toNat default).From) ((ax.getD ak.toNat default).Value)) (jq.mk ((bH.getD ak.toNat default).Kind) ((bH.getD ak.toNat default).Path) ((bH.getD ak.toNat default).From) ((bH.getD ak.toNat default).Value))).bind fun v3 =>
(cond v3
(G.jv.L1 n ax bH (IntKind.wrap .i64 (ak+1)))
(some (false))))))
(some (true)))
def G.jv (f:Nat) (ax:List jq) (bH:List jq):Option (Bool):=match f with
| 0=>none
| n+1 =>
(cond (((ax.length:Nat):Int) != ((bH.length:Nat):Int))
(some (false))
(G.jv.L1 n ax bH 0))
def G.dm.L1 (f:Nat) (ax:List aS) (qj:Int) (ak:Int):Option (Int):=match f with
| 0=>none
| n+1 =>
(cond (decide (ak<((ax.length:Nat):Int)))
(chk (0<=ak/\ak<((ax.length:Nat):Int))
(cond (decide ((IntKind.wrap .i64 (qj-(((ax.getD ak.toNat default).length:Nat):Int)))<0))
(some ((-1)))
(G.dm.L1 n ax (IntKind.wrap .i64 (qj-(((ax.getD ak.toNat default).length:Nat):Int))) (IntKind.wrap .i64 (ak+1)))))
(some (qj)))
def G.dm (f:Nat) (ax:List aS) (dS:Int):Option (Int):=match f with
| 0=>none
| n+1 =>
(cond (decide ((IntKind.wrap .i64 (dS-((ax.length:Nat):Int)))<0))
(some ((-1)))
(G.dm.L1 n ax (IntKind.wrap .i64 (dS-((ax.length:Nat):Int))) 0))
mutual
def G.iy (f:Nat) (ax:af) (dS:Int):Option (Int):=match f with
| 0=>none
| n+1 =>
(cond (decide ((IntKind.wrap .i64 (dS-((ax.Text.length:Nat):Int)))<0))
(some ((-1)))
((G.dm n ax.Names (IntKind.wrap .i64 (dS-((ax.Text.length:Nat):Int)))).bind fun v1 =>
(cond (decide (v1<0))
(some ((-1)))
((G.ig n ax.Kids v1).bind fun v2 =>
(cond (decide (v2<0))
(some ((-1)))
(some (v2)))))))
def G.ig.L1 (f:Nat) (ax:List af) (qj:Int) (ak:Int):Option (Int):=match f with
| 0=>none
| n+1 =>
(cond (decide (ak<((ax.length:Nat):Int)))
(chk (0<=ak/\ak<((ax.length:Nat):Int))
((G.iy n (ax.getD ak.toNat default) qj).bind fun v3 =>
(cond (decide (v3<0))
(some ((-1)))
(G.ig.L1 n ax v3 (IntKind.wrap .i64 (ak+1))))))
(some (qj)))
def G.ig (f:Nat) (ax:List af) (dS:Int):Option (Int):=match f with
| 0=>none
| n+1 =>
(cond (decide ((IntKind.wrap .i64 (dS-((ax.length:Nat):Int)))<0))
(some ((-1)))
(G.ig.L1 n ax (IntKind.wrap .i64 (dS-((ax.length:Nat):Int))) 0))
end
def G.mP (f:Nat) (ax:jq) (dS:Int):Option (Int):=match f with
| 0=>none
| n+1 =>
((G.dm n ax.Path dS).bind fun v1 =>
(cond (decide (v1<0))
(some ((-1)))
((G.dm n ax.From v1).bind fun v2 =>
(cond (decide (v2<0))
(some ((-1)))
((G.iy n ax.Value v2).bind fun v3 =>
(cond (decide (v3<0))
(some ((-1)))
(some (v3))))))))
def G.iR.L1 (f:Nat) (ax:List jq) (qj:Int) (ak:Int):Option (Int):=match f with
| 0=>none
| n+1 =>
(cond (decide (ak<((ax.length:Nat):Int)))
(chk (0<=ak/\ak<((ax.length:Nat):Int))
((G.mP n (jq.mk ((ax.getD ak.toNat default).Kind) ((ax.getD ak.toNat default).Path) ((ax.getD ak.toNat default).From) ((ax.getD ak.toNat default).Value)) qj).bind fun v3 =>
(cond (decide (v3<0))
(some ((-1)))
(G.iR.L1 n ax v3 (IntKind.wrap .i64 (ak+1))))))
(some (qj)))
def G.iR (f:Nat) (ax:List jq) (dS:Int):Option (Int):=match f with
| 0=>none
| n+1 =>
(cond (decide ((IntKind.wrap .i64 (dS-((ax.length:Nat):Int)))<0))
(some ((-1)))
(G.iR.L1 n ax (IntKind.wrap .i64 (dS-((ax.length:Nat):Int))) 0))
def G.dN.L1 (f:Nat) (ax:List aS) (ak:Int) (z3:List aS):Option (List aS):=match f with
| 0=>none
| n+1 =>
(cond (decide (ak<((ax.length:Nat):Int)))
(chk (0<=ak/\ak<((ax.length:Nat):Int))
(chk (0<=ak/\ak<((z3.length:Nat):Int))
(G.dN.L1 n ax (IntKind.wrap .i64 (ak+1)) (z3.set ak.toNat (ax.getD ak.toNat default)))))
(some (z3)))
def G.dN (f:Nat) (ax:List aS):Option (List aS):=match f with
| 0=>none
| n+1 =>
(chk (0<=((ax.length:Nat):Int)/\((ax.length:Nat):Int)<=((ax.length:Nat):Int)/\16*((ax.length:Nat):Int)<=2^47/\((ax.length:Nat):Int)<=2^47)
(G.dN.L1 n ax 0 (List.replicate ax.length [])))
mutual
def G.iD (f:Nat) (ax:af):Option (af):=match f with
| 0=>none
| n+1 =>
((G.dN n ax.Names).bind fun v1 =>
((G.jc n ax.Kids).bind fun v2 =>
(some ((af.mk ax.Kind ax.Num ax.Text v1 v2)))))
def G.jc.L1 (f:Nat) (ax:List af) (ak:Int) (z3:List af):Option (List af):=match f with
| 0=>none
| n+1 =>
(cond (decide (ak<((ax.length:Nat):Int)))
(chk (0<=ak/\ak<((ax.length:Nat):Int))
((G.iD n (ax.getD ak.toNat default)).bind fun v3 =>
(chk (0<=ak/\ak<((z3.length:Nat):Int))
(G.jc.L1 n ax (IntKind.wrap .i64 (ak+1)) (z3.set ak.toNat v3)))))
(some (z3)))
def G.jc (f:Nat) (ax:List af):Option (List af):=match f with
| 0=>none
| n+1 =>
(chk (0<=((ax.length:Nat):Int)/\((ax.length:Nat):Int)<=((ax.length:Nat):Int)/\80*((ax.length:Nat):Int)<=2^47/\((ax.length:Nat):Int)<=2^47)
(G.jc.L1 n ax 0 (List.replicate ax.length (af.mk 0 0 [] [] []))))
end
def G.og (f:Nat) (ax:jq):Option (jq):=match f with
| 0=>none
| n+1 =>
((G.dN n ax.Path).bind fun v1 =>
((G.dN n ax.From).bind fun v2 =>
((G.iD n ax.Value).bind fun v3 =>
(some ((jq.mk ax.Kind v1 v2 v3))))))
def G.iT.L1 (f:Nat) (ax:List jq) (ak:Int) (z3:List jq):Option (List jq):=match f with
| 0=>none
| n+1 =>
(cond (decide (ak<((ax.length:Nat):Int)))
(chk (0<=ak/\ak<((ax.length:Nat):Int))
((G.og n (jq.mk ((ax.getD ak.toNat default).Kind) ((ax.getD ak.toNat default).Path) ((ax.getD ak.toNat default).From) ((ax.getD ak.toNat default).Value))).bind fun v3 =>
(chk (0<=ak/\ak<((z3.length:Nat):Int))
(G.iT.L1 n ax (IntKind.wrap .i64 (ak+1)) (z3.set ak.toNat v3)))))
(some (z3)))
def G.iT (f:Nat) (ax:List jq):Option (List jq):=match f with
| 0=>none
| n+1 =>
(chk (0<=((ax.length:Nat):Int)/\((ax.length:Nat):Int)<=((ax.length:Nat):Int)/\136*((ax.length:Nat):Int)<=2^47/\((ax.length:Nat):Int)<=2^47)
(G.iT.L1 n ax 0 (List.replicate ax.length (jq.mk 0 [] [] (af.mk 0 0 [] [] [])))))
mutual
def G.ay.L1 (f:Nat) (ag:af) (ak:Int) (z2:List af):Option (af):=match f with
| 0=>none
| n+1 =>
(cond (decide (ak<((ag.Kids.length:Nat):Int)))
(chk (0<=ak/\ak<((ag.Kids.length:Nat):Int))
((G.ay n (ag.Kids.getD ak.toNat default)).bind fun v3 =>
(chk ((z2.length+1)*86<=2^46)
(G.ay.L1 n ag (IntKind.wrap .i64 (ak+1)) (z2++[v3])))))
(chk (ag.Names.length*18<=2^46)
(some ((af.mk ag.Kind ag.Num ag.Text ag.Names z2)))))
def G.ay (f:Nat) (ag:af):Option (af):=match f with
| 0=>none
| n+1 =>
(G.ay.L1 n ag 0 [])
end
mutual
def G.fG (f:Nat) (ag:Int):Option (aS):=match f with
| 0=>none
| n+1 =>
(cond (decide (ag<0))
(cond (ag==(IntKind.wrap .i64 (0-ag)))
(some ([45,57,50,50,51,51,55,50,48,51,54,56,53,52,55,55,53,56,48,56]))
((G.fG n (IntKind.wrap .i64 (0-ag))).bind fun v1 =>
(chk (1+v1.length<=maxLen)
(some (([45]++v1))))))
(cond (decide (ag<10))
(chk (1<=maxLen)
(some ([UInt8.ofNat (IntKind.wrap .u8 ((IntKind.wrap .i64 (48+ag)))).toNat])))
((G.fG n (IntKind.wrap .i64 (Int.tdiv ag 10))).bind fun v2 =>
(chk (1<=maxLen)
(chk (v2.length+1<=maxLen)
(some ((v2++[UInt8.ofNat (IntKind.wrap .u8 ((IntKind.wrap .i64 (48+(Int.tmod ag 10))))).toNat]))))))))
end
def G.dH.L1 (f:Nat) (ag:af) (dU:aS) (ak:Int):Option (Int):=match f with
| 0=>none
| n+1 =>
(cond (decide (ak<((ag.Kids.length:Nat):Int)))
(cond (ag.Kind==4)
(chk (0<=ak/\ak<((ag.Names.length:Nat):Int))
(cond ((ag.Names.getD ak.toNat default)==dU)
(some (ak))
(cond (ag.Kind==3)
((G.fG n ak).bind fun v5 =>
(cond (v5==dU)
(some (ak))
(G.dH.L1 n ag dU (IntKind.wrap .i64 (ak+1)))))
(G.dH.L1 n ag dU (IntKind.wrap .i64 (ak+1))))))
(cond (ag.Kind==3)
((G.fG n ak).bind fun v6 =>
(cond (v6==dU)
(some (ak))
(G.dH.L1 n ag dU (IntKind.wrap .i64 (ak+1)))))
(G.dH.L1 n ag dU (IntKind.wrap .i64 (ak+1)))))
(some ((-1))))
def G.dH (f:Nat) (ag:af) (dU:aS):Option (Int):=match f with
| 0=>none
| n+1 =>
(G.dH.L1 n ag dU 0)
def G.fM.L1 (f:Nat) (ag:af) (dU:aS) (ak:Int):Option (Int × Bool):=match f with
| 0=>none
| n+1 =>
(cond (ag.Kind==4)
(cond (decide (ak<=((ag.Kids.length:Nat):Int)))
(cond (ak==((ag.Kids.length:Nat):Int))
(some (ak,false))
(chk (0<=ak/\ak<((ag.Names.length:Nat):Int))
(cond (Op.bytesLess dU (ag.Names.getD ak.toNat default))
(some (ak,false))
(G.fM.L1 n ag dU (IntKind.wrap .i64 (ak+1))))))
(some ((-1),false)))
(some ((-1),false)))
def G.fM.L2 (f:Nat) (ag:af) (dU:aS) (yC:Int):Option (Int × Bool):=match f with
| 0=>none
| n+1 =>
(cond (ag.Kind==4)
(cond (decide (yC<=((ag.Kids.length:Nat):Int)))
(cond (yC==((ag.Kids.length:Nat):Int))
(some (yC,false))
(chk (0<=yC/\yC<((ag.Names.length:Nat):Int))
(cond (Op.bytesLess dU (ag.Names.getD yC.toNat default))
(some (yC,false))
(G.fM.L2 n ag dU (IntKind.wrap .i64 (yC+1))))))
(some ((-1),false)))
(some ((-1),false)))
def G.fM (f:Nat) (ag:af) (dU:aS):Option (Int × Bool):=match f with
| 0=>none
| n+1 =>
((G.dH n ag dU).bind fun v1 =>
(cond (decide (0<=v1))
(some (v1,(ag.Kind==4)))
(cond (ag.Kind==3)
(cond (dU==[45])
(some (((ag.Kids.length:Nat):Int),false))
((G.fG n ((ag.Kids.length:Nat):Int)).bind fun v2 =>
(cond (dU==v2)
(some (((ag.Kids.length:Nat):Int),false))
(G.fM.L1 n ag dU 0))))
(G.fM.L2 n ag dU 0))))
def G.iQ (f:Nat) (ag:af) (KT:Int) (D7:af):Option (af):=match f with
| 0=>none
| n+1 =>
((G.ay n ag).bind fun v1 =>
((G.ay n D7).bind fun v2 =>
(chk (0<=KT/\KT<((v1.Kids.length:Nat):Int))
(some ((af.mk v1.Kind v1.Num v1.Text v1.Names (v1.Kids.set KT.toNat v2)))))))
def G.jC (f:Nat) (ag:af) (dU:aS) (bW:af):Option (af × Bool):=match f with
| 0=>none
| n+1 =>
((G.fM n ag dU).bind fun v1 =>
(cond (decide (v1.1<0))
(some ((af.mk 0 0 [] [] []),false))
(cond v1.2
((G.iQ n ag v1.1 bW).bind fun v2 =>
(some (v2,true)))
((G.ay n ag).bind fun v3 =>
(chk (0<=0/\0<=v1.1/\v1.1<=((v3.Kids.length:Nat):Int))
(chk (((v3.Kids.take v1.1.toNat).length)*86<=2^46)
((G.ay n bW).bind fun v4 =>
(chk (((v3.Kids.take v1.1.toNat).length+1)*86<=2^46)
(chk (0<=v1.1/\v1.1<=((v3.Kids.length:Nat):Int)/\((v3.Kids.length:Nat):Int)<=((v3.Kids.length:Nat):Int))
(chk ((((v3.Kids.take v1.1.toNat).length+1)+(v3.Kids.drop v1.1.toNat).length)*86<=2^46)
(cond (ag.Kind==3)
(some ((af.mk ag.Kind 0 [] [] (((v3.Kids.take v1.1.toNat)++[v4])++(v3.Kids.drop v1.1.toNat))),true))
(chk (0<=0/\0<=v1.1/\v1.1<=((v3.Names.length:Nat):Int))
(chk (((v3.Names.take v1.1.toNat).length)*18<=2^46)
(chk (((v3.Names.take v1.1.toNat).length+1)*18<=2^46)
(chk (0<=v1.1/\v1.1<=((v3.Names.length:Nat):Int)/\((v3.Names.length:Nat):Int)<=((v3.Names.length:Nat):Int))
(chk ((((v3.Names.take v1.1.toNat).length+1)+(v3.Names.drop v1.1.toNat).length)*18<=2^46)
(some ((af.mk ag.Kind 0 [] (((v3.Names.take v1.1.toNat)++[dU])++(v3.Names.drop v1.1.toNat)) (((v3.Kids.take v1.1.toNat)++[v4])++(v3.Kids.drop v1.1.toNat))),true))))))))))))))))))
def G.kM.L1 (f:Nat) (ah:List aS) (ak:Int) (y6:Int) (y7:Int) (y8:aS) (y9:List aS) (CE:List af):Option (af × Bool):=match f with
| 0=>none
| n+1 =>
(cond (decide (ak<((ah.length:Nat):Int)))
(chk (0<=ak/\ak<((ah.length:Nat):Int))
((G.dH n (af.mk y6 y7 y8 y9 CE) (ah.getD ak.toNat default)).bind fun v3 =>
(cond (decide (v3<0))
(some ((af.mk 0 0 [] [] []),false))
(chk (0<=v3/\v3<((CE.length:Nat):Int))
(G.kM.L1 n ah (IntKind.wrap .i64 (ak+1)) ((CE.getD v3.toNat default).Kind) ((CE.getD v3.toNat default).Num) ((CE.getD v3.toNat default).Text) ((CE.getD v3.toNat default).Names) ((CE.getD v3.toNat default).Kids))))))
((G.ay n (af.mk y6 y7 y8 y9 CE)).bind fun v4 =>
(some (v4,true))))
def G.kM (f:Nat) (ag:af) (ah:List aS):Option (af × Bool):=match f with
| 0=>none
| n+1 =>
(G.kM.L1 n ah 0 ag.Kind ag.Num ag.Text ag.Names ag.Kids)
mutual
def G.iU (f:Nat) (ag:af) (ah:List aS) (bW:af):Option (af × Bool):=match f with
| 0=>none
| n+1 =>
(cond (((ah.length:Nat):Int)==0)
((G.ay n bW).bind fun v1 =>
(some (v1,true)))
(chk (0<=0/\0<((ah.length:Nat):Int))
((G.dH n ag (ah.getD 0 default)).bind fun v2 =>
(cond (decide (v2<0))
(some ((af.mk 0 0 [] [] []),false))
(chk (0<=v2/\v2<((ag.Kids.length:Nat):Int))
(chk (0<=1/\1<=((ah.length:Nat):Int)/\((ah.length:Nat):Int)<=((ah.length:Nat):Int))
((G.iU n (ag.Kids.getD v2.toNat default) (ah.drop 1) bW).bind fun v3 =>
(cond v3.2
((G.iQ n ag v2 v3.1).bind fun v4 =>
(some (v4,true)))
(some ((af.mk 0 0 [] [] []),false))))))))))
end
def G.kZ (f:Nat) (ag:af) (ah:List aS) (bW:af):Option (af × Bool):=match f with
| 0=>none
| n+1 =>
(cond (((ah.length:Nat):Int)==0)
((G.ay n bW).bind fun v1 =>
(some (v1,true)))
(chk (0<=0/\0<=(IntKind.wrap .i64 (((ah.length:Nat):Int)-1))/\(IntKind.wrap .i64 (((ah.length:Nat):Int)-1))<=((ah.length:Nat):Int))
((G.kM n ag (ah.take ((IntKind.wrap .i64 (((ah.length:Nat):Int)-1)).toNat))).bind fun v2 =>
(cond v2.2
(chk (0<=(IntKind.wrap .i64 (((ah.length:Nat):Int)-1))/\(IntKind.wrap .i64 (((ah.length:Nat):Int)-1))<((ah.length:Nat):Int))
((G.jC n v2.1 (ah.getD (IntKind.wrap .i64 (((ah.length:Nat):Int)-1)).toNat default) bW).bind fun v3 =>
(cond v3.2
(chk (0<=0/\0<=(IntKind.wrap .i64 (((ah.length:Nat):Int)-1))/\(IntKind.wrap .i64 (((ah.length:Nat):Int)-1))<=((ah.length:Nat):Int))
((G.iU n ag (ah.take ((IntKind.wrap .i64 (((ah.length:Nat):Int)-1)).toNat)) v3.1).bind fun v4 =>
(some (v4.1,v4.2))))
(some ((af.mk 0 0 [] [] []),false)))))
(some ((af.mk 0 0 [] [] []),false))))))
def G.gI.L1 (f:Nat) (ah:List aS) (qg:List aS) (ak:Int):Option (Bool):=match f with
| 0=>none
| n+1 =>
(cond (decide (ak<((qg.length:Nat):Int)))
(cond (decide (((ah.length:Nat):Int)<=ak))
(some (false))
(chk (0<=ak/\ak<((ah.length:Nat):Int))
(chk (0<=ak/\ak<((qg.length:Nat):Int))
(cond ((ah.getD ak.toNat default)==(qg.getD ak.toNat default))
(G.gI.L1 n ah qg (IntKind.wrap .i64 (ak+1)))
(some (false))))))
(some (true)))
def G.gI (f:Nat) (ah:List aS) (qg:List aS):Option (Bool):=match f with
| 0=>none
| n+1 =>
(G.gI.L1 n ah qg 0)
def G.eU.K1 (f:Nat) (ag:af) (ah:List aS) (v1:af × Bool) (z1:List af) (z2:List aS):Option (af × Bool):=match f with
| 0=>none
| n+1 =>
(chk (0<=0/\0<=(IntKind.wrap .i64 (((ah.length:Nat):Int)-1))/\(IntKind.wrap .i64 (((ah.length:Nat):Int)-1))<=((ah.length:Nat):Int))
((G.iU n ag (ah.take ((IntKind.wrap .i64 (((ah.length:Nat):Int)-1)).toNat)) (af.mk v1.1.Kind 0 [] z2 z1)).bind fun v3 =>
(some (v3.1,v3.2))))
def G.eU (f:Nat) (ag:af) (ah:List aS):Option (af × Bool):=match f with
| 0=>none
| n+1 =>
(cond (decide ((IntKind.wrap .i64 (((ah.length:Nat):Int)-1))<0))
(some ((af.mk 0 0 [] [] []),false))
(chk (0<=0/\0<=(IntKind.wrap .i64 (((ah.length:Nat):Int)-1))/\(IntKind.wrap .i64 (((ah.length:Nat):Int)-1))<=((ah.length:Nat):Int))
((G.kM n ag (ah.take ((IntKind.wrap .i64 (((ah.length:Nat):Int)-1)).toNat))).bind fun v1 =>
(cond v1.2
(chk (0<=(IntKind.wrap .i64 (((ah.length:Nat):Int)-1))/\(IntKind.wrap .i64 (((ah.length:Nat):Int)-1))<((ah.length:Nat):Int))
((G.dH n v1.1 (ah.getD (IntKind.wrap .i64 (((ah.length:Nat):Int)-1)).toNat default)).bind fun v2 =>
(cond (decide (v2<0))
(some ((af.mk 0 0 [] [] []),false))
(chk (0<=0/\0<=v2/\v2<=((v1.1.Kids.length:Nat):Int))
(chk (((v1.1.Kids.take v2.toNat).length)*86<=2^46)
(chk (0<=(IntKind.wrap .i64 (v2+1))/\(IntKind.wrap .i64 (v2+1))<=((v1.1.Kids.length:Nat):Int)/\((v1.1.Kids.length:Nat):Int)<=((v1.1.Kids.length:Nat):Int))
(chk (((v1.1.Kids.take v2.toNat).length+(v1.1.Kids.drop ((IntKind.wrap .i64 (v2+1)).toNat)).length)*86<=2^46)
(cond (v1.1.Kind==4)
(chk (0<=0/\0<=v2/\v2<=((v1.1.Names.length:Nat):Int))
(chk (((v1.1.Names.take v2.toNat).length)*18<=2^46)
(chk (0<=(IntKind.wrap .i64 (v2+1))/\(IntKind.wrap .i64 (v2+1))<=((v1.1.Names.length:Nat):Int)/\((v1.1.Names.length:Nat):Int)<=((v1.1.Names.length:Nat):Int))
(chk (((v1.1.Names.take v2.toNat).length+(v1.1.Names.drop ((IntKind.wrap .i64 (v2+1)).toNat)).length)*18<=2^46)
(G.eU.K1 n ag ah v1 ((v1.1.Kids.take v2.toNat)++(v1.1.Kids.drop ((IntKind.wrap .i64 (v2+1)).toNat))) ((v1.1.Names.take v2.toNat)++(v1.1.Names.drop ((IntKind.wrap .i64 (v2+1)).toNat))))))))
(G.eU.K1 n ag ah v1 ((v1.1.Kids.take v2.toNat)++(v1.1.Kids.drop ((IntKind.wrap .i64 (v2+1)).toNat))) [])))))))))
(some ((af.mk 0 0 [] [] []),false))))))
def G.fP (f:Nat) (bH:Bool):Option (Int):=match f with
| 0=>none
| n+1 =>
(cond bH
(some (1))
(some (0)))
def G.jK (f:Nat) (ax:Int) (bH:Int):Option (Int):=match f with
| 0=>none
| n+1 =>
((G.fP n (decide (bH<ax))).bind fun v1 =>
((G.fP n (decide (ax<bH))).bind fun v2 =>
(some ((IntKind.wrap .i64 (v1-v2))))))
def G.iI (f:Nat) (ax:aS) (bH:aS):Option (Int):=match f with
| 0=>none
| n+1 =>
(cond (Op.bytesLess ax bH)
((G.fP n false).bind fun v1 =>
((G.fP n true).bind fun v2 =>
(some ((IntKind.wrap .i64 (v1-v2))))))
(cond (ax==bH)
((G.fP n false).bind fun v3 =>
((G.fP n false).bind fun v4 =>
(some ((IntKind.wrap .i64 (v3-v4))))))
((G.fP n true).bind fun v5 =>
((G.fP n false).bind fun v6 =>
(some ((IntKind.wrap .i64 (v5-v6))))))))
mutual
def G.bV.L1 (f:Nat) (ax:af) (bH:af) (ak:Int):Option (Int):=match f with
| 0=>none
| n+1 =>
(cond (decide (ak<((ax.Kids.length:Nat):Int)))
(cond (decide (ak<((bH.Kids.length:Nat):Int)))
(cond (ax.Kind==4)
(chk (0<=ak/\ak<((ax.Names.length:Nat):Int))
(chk (0<=ak/\ak<((bH.Names.length:Nat):Int))
(cond ((ax.Names.getD ak.toNat default)==(bH.Names.getD ak.toNat default))
(chk (0<=ak/\ak<((ax.Kids.length:Nat):Int))
(chk (0<=ak/\ak<((bH.Kids.length:Nat):Int))
((G.bV n (ax.Kids.getD ak.toNat default) (bH.Kids.getD ak.toNat default)).bind fun v9 =>
(cond (v9 != 0)
(some (v9))
(G.bV.L1 n ax bH (IntKind.wrap .i64 (ak+1)))))))
(chk (0<=ak/\ak<((ax.Names.length:Nat):Int))
(chk (0<=ak/\ak<((bH.Names.length:Nat):Int))
((G.iI n (ax.Names.getD ak.toNat default) (bH.Names.getD ak.toNat default)).bind fun v10 =>
(some (v10))))))))
(chk (0<=ak/\ak<((ax.Kids.length:Nat):Int))
(chk (0<=ak/\ak<((bH.Kids.length:Nat):Int))
((G.bV n (ax.Kids.getD ak.toNat default) (bH.Kids.getD ak.toNat default)).bind fun v11 =>
(cond (v11 != 0)
(some (v11))
(G.bV.L1 n ax bH (IntKind.wrap .i64 (ak+1))))))))
((G.jK n ((ax.Kids.length:Nat):Int) ((bH.Kids.length:Nat):Int)).bind fun v12 =>
(some (v12))))
((G.jK n ((ax.Kids.length:Nat):Int) ((bH.Kids.length:Nat):Int)).bind fun v13 =>
(some (v13))))
def G.bV (f:Nat) (ax:af) (bH:af):Option (Int):=match f with
| 0=>none
| n+1 =>
(cond (ax.Kind != bH.Kind)
((G.jK n ax.Kind bH.Kind).bind fun v1 =>
(some (v1)))
(cond (ax.Num != bH.Num)
((G.jK n ax.Num bH.Num).bind fun v2 =>
(some (v2)))
(cond (ax.Text==bH.Text)
(G.bV.L1 n ax bH 0)
((G.iI n ax.Text bH.Text).bind fun v14 =>
(some (v14))))))
end
def G.ny (f:Nat) (ax:af) (bH:af):Option (Bool):=match f with
| 0=>none
| n+1 =>
((G.bV n ax bH).bind fun v1 =>
(some ((v1==0))))
def G.fD.K1 (f:Nat) (ag:af) (gy:jq) (UA:List aS):Option (af × Bool):=match f with
| 0=>none
| n+1 =>
((G.kM n ag UA).bind fun v4 =>
(cond v4.2
(cond (gy.Kind==6)
((G.ny n v4.1 gy.Value).bind fun v5 =>
(some (ag,v5)))
(cond (gy.Kind==5)
((G.kZ n ag gy.Path v4.1).bind fun v6 =>
(some (v6.1,v6.2)))
((G.gI n gy.Path gy.From).bind fun v7 =>
(cond v7
((G.ay n ag).bind fun v8 =>
(some (v8,(((gy.Path.length:Nat):Int)==((gy.From.length:Nat):Int)))))
((G.eU n ag gy.From).bind fun v9 =>
(cond v9.2
((G.kZ n v9.1 gy.Path v4.1).bind fun v10 =>
(some (v10.1,v10.2)))
(some ((af.mk 0 0 [] [] []),false))))))))
(some ((af.mk 0 0 [] [] []),false))))
def G.fD (f:Nat) (ag:af) (gy:jq):Option (af × Bool):=match f with
| 0=>none
| n+1 =>
(cond (gy.Kind==1)
((G.kZ n ag gy.Path gy.Value).bind fun v1 =>
(some (v1.1,v1.2)))
(cond (gy.Kind==2)
((G.eU n ag gy.Path).bind fun v2 =>
(some (v2.1,v2.2)))
(cond (gy.Kind==3)
((G.iU n ag gy.Path gy.Value).bind fun v3 =>
(some (v3.1,v3.2)))
(cond (gy.Kind==6)
(G.fD.K1 n ag gy gy.Path)
(G.fD.K1 n ag gy gy.From)))))
mutual
def G.eH.L1 (f:Nat) (ag:af) (WO:Int) (ak:Int):Option (Int):=match f with
| 0=>none
| n+1 =>
(cond (decide (ak<((ag.Kids.length:Nat):Int)))
(chk (0<=ak/\ak<((ag.Kids.length:Nat):Int))
((G.eH n (ag.Kids.getD ak.toNat default)).bind fun v3 =>
(G.eH.L1 n ag (IntKind.wrap .i64 (WO+v3)) (IntKind.wrap .i64 (ak+1)))))
(some (WO)))
def G.eH (f:Nat) (ag:af):Option (Int):=match f with
| 0=>none
| n+1 =>
(G.eH.L1 n ag 1 0)
end
def G.bK (f:Nat) (ag:Int) (D8:Int) (zJ:Int):Option (Bool):=match f with
| 0=>none
| n+1 =>
(cond (decide (D8<=ag))
(some ((decide (ag<=zJ))))
(some (false)))
def G.bY.L1 (f:Nat) (ai:aS) (ak:Int):Option (Bool):=match f with
| 0=>none
| n+1 =>
(cond (decide (ak<((ai.length:Nat):Int)))
(chk (0<=ak/\ak<((ai.length:Nat):Int))
((G.bK n (IntKind.wrap .i64 ((((ai.getD ak.toNat 0).toNat:Nat):Int))) 32 126).bind fun v3 =>
(cond v3
(G.bY.L1 n ai (IntKind.wrap .i64 (ak+1)))
(some (false)))))
(some ((decide (((ai.length:Nat):Int)<=12)))))
def G.bY (f:Nat) (ai:aS):Option (Bool):=match f with
| 0=>none
| n+1 =>
(G.bY.L1 n ai 0)
def G.gW.L1 (f:Nat) (aA:List aS) (ak:Int):Option (Bool):=match f with
| 0=>none
| n+1 =>
(cond (decide (ak<((aA.length:Nat):Int)))
(chk (0<=ak/\ak<((aA.length:Nat):Int))
((G.bY n (aA.getD ak.toNat default)).bind fun v3 =>
(cond v3
(cond (decide (0<ak))
(chk (0<=ak/\ak<((aA.length:Nat):Int))
(chk (0<=(IntKind.wrap .i64 (ak-1))/\(IntKind.wrap .i64 (ak-1))<((aA.length:Nat):Int))
(cond (Op.bytesLess (aA.getD ak.toNat default) (aA.getD (IntKind.wrap .i64 (ak-1)).toNat default))
(some (false))
(cond ((aA.getD ak.toNat default)==(aA.getD (IntKind.wrap .i64 (ak-1)).toNat default))
(some (false))
(G.gW.L1 n aA (IntKind.wrap .i64 (ak+1)))))))
(G.gW.L1 n aA (IntKind.wrap .i64 (ak+1))))
(some (false)))))
(some (true)))
def G.gW (f:Nat) (aA:List aS):Option (Bool):=match f with
| 0=>none
| n+1 =>
(G.gW.L1 n aA 0)
mutual
def G.gG.L1 (f:Nat) (ag:af) (fZ:Int) (ak:Int):Option (Bool):=match f with
| 0=>none
| n+1 =>
(cond (decide (ak<((ag.Kids.length:Nat):Int)))
(chk (0<=ak/\ak<((ag.Kids.length:Nat):Int))
((G.bJ n (ag.Kids.getD ak.toNat default) (IntKind.wrap .i64 (fZ-1))).bind fun v3 =>
(cond v3
(G.gG.L1 n ag fZ (IntKind.wrap .i64 (ak+1)))
(some (false)))))
(some (true)))
def G.gG (f:Nat) (ag:af) (fZ:Int):Option (Bool):=match f with
| 0=>none
| n+1 =>
(G.gG.L1 n ag fZ 0)
def G.bJ.K1 (f:Nat) (ag:af) (fZ:Int):Option (Bool):=match f with
| 0=>none
| n+1 =>
(cond (ag.Kind==1)
((G.bK n ag.Num (-999999) 999999).bind fun v1 =>
(some (v1)))
(cond (ag.Kind==2)
((G.bY n ag.Text).bind fun v2 =>
(some (v2)))
(cond (ag.Kind==3)
((G.gG n ag fZ).bind fun v3 =>
(some (v3)))
(cond (ag.Kind==4)
(cond (((ag.Names.length:Nat):Int)==((ag.Kids.length:Nat):Int))
((G.gW n ag.Names).bind fun v4 =>
(cond v4
((G.gG n ag fZ).bind fun v5 =>
(some (v5)))
(some (false))))
(some (false)))
(some ((ag.Kind==0)))))))
def G.bJ (f:Nat) (ag:af) (fZ:Int):Option (Bool):=match f with
| 0=>none
| n+1 =>
(cond (fZ==0)
(some (false))
(cond (decide (6<((ag.Kids.length:Nat):Int)))
(some (false))
(cond (ag.Kind != 1)
(cond (ag.Num != 0)
(some (false))
(cond (ag.Kind != 2)
(cond (ag.Text==[])
(cond (ag.Kind != 4)
(cond (decide (0<((ag.Names.length:Nat):Int)))
(some (false))
(cond (decide (ag.Kind<3))
(cond (decide (0<((ag.Kids.length:Nat):Int)))
(some (false))
(G.bJ.K1 n ag fZ))
(G.bJ.K1 n ag fZ)))
(cond (decide (ag.Kind<3))
(cond (decide (0<((ag.Kids.length:Nat):Int)))
(some (false))
(G.bJ.K1 n ag fZ))
(G.bJ.K1 n ag fZ)))
(some (false)))
(cond (ag.Kind != 4)
(cond (decide (0<((ag.Names.length:Nat):Int)))
(some (false))
(cond (decide (ag.Kind<3))
(cond (decide (0<((ag.Kids.length:Nat):Int)))
(some (false))
(G.bJ.K1 n ag fZ))
(G.bJ.K1 n ag fZ)))
(cond (decide (ag.Kind<3))
(cond (decide (0<((ag.Kids.length:Nat):Int)))
(some (false))
(G.bJ.K1 n ag fZ))
(G.bJ.K1 n ag fZ)))))
(cond (ag.Kind != 2)
(cond (ag.Text==[])
(cond (ag.Kind != 4)
(cond (decide (0<((ag.Names.length:Nat):Int)))
(some (false))
(cond (decide (ag.Kind<3))
(cond (decide (0<((ag.Kids.length:Nat):Int)))
(some (false))
(G.bJ.K1 n ag fZ))
(G.bJ.K1 n ag fZ)))
(cond (decide (ag.Kind<3))
(cond (decide (0<((ag.Kids.length:Nat):Int)))
(some (false))
(G.bJ.K1 n ag fZ))
(G.bJ.K1 n ag fZ)))
(some (false)))
(cond (ag.Kind != 4)
(cond (decide (0<((ag.Names.length:Nat):Int)))
(some (false))
(cond (decide (ag.Kind<3))
(cond (decide (0<((ag.Kids.length:Nat):Int)))
(some (false))
(G.bJ.K1 n ag fZ))
(G.bJ.K1 n ag fZ)))
(cond (decide (ag.Kind<3))
(cond (decide (0<((ag.Kids.length:Nat):Int)))
(some (false))
(G.bJ.K1 n ag fZ))
(G.bJ.K1 n ag fZ)))))))
end
def G.bD (f:Nat) (ag:af):Option (Bool):=match f with
| 0=>none
| n+1 =>
((G.bJ n ag 5).bind fun v1 =>
(cond v1
((G.eH n ag).bind fun v2 =>
(some ((decide (v2<=40)))))
(some (false))))
def G.je (f:Nat) (ag:af) (xe:Bool):Option (af × Bool):=match f with
| 0=>none
| n+1 =>
(cond xe
((G.bD n ag).bind fun v1 =>
(cond v1
(some (ag,true))
(some ((af.mk 0 0 [] [] []),false))))
(some ((af.mk 0 0 [] [] []),false)))
def G.iH (f:Nat) (ag:af) (gy:jq):Option (af × Bool):=match f with
| 0=>none
| n+1 =>
((G.fD n ag gy).bind fun v1 =>
((G.je n v1.1 v1.2).bind fun v2 =>
(cond v2.2
((G.ay n v2.1).bind fun v3 =>
(some (v3,true)))
(some ((af.mk 0 0 [] [] []),false)))))
def G.dw.L1 (f:Nat) (ah:List aS) (ak:Int):Option (Bool):=match f with
| 0=>none
| n+1 =>
(cond (decide (ak<((ah.length:Nat):Int)))
(chk (0<=ak/\ak<((ah.length:Nat):Int))
((G.bY n (ah.getD ak.toNat default)).bind fun v3 =>
(cond v3
(G.dw.L1 n ah (IntKind.wrap .i64 (ak+1)))
(some (false)))))
(some ((decide (((ah.length:Nat):Int)<=5)))))
def G.dw (f:Nat) (ah:List aS):Option (Bool):=match f with
| 0=>none
| n+1 =>
(G.dw.L1 n ah 0)
def G.jD (f:Nat) (gy:jq):Option (Bool):=match f with
| 0=>none
| n+1 =>
((G.bK n gy.Kind 1 6).bind fun v1 =>
(cond v1
((G.dw n gy.Path).bind fun v2 =>
(cond v2
((G.dw n gy.From).bind fun v3 =>
(cond v3
((G.bD n gy.Value).bind fun v4 =>
(some (v4)))
(some (false))))
(some (false))))
(some (false))))
def G.bf.L1 (f:Nat) (aA:List jq) (ak:Int):Option (Bool):=match f with
| 0=>none
| n+1 =>
(cond (decide (ak<((aA.length:Nat):Int)))
(chk (0<=ak/\ak<((aA.length:Nat):Int))
((G.jD n (jq.mk ((aA.getD ak.toNat default).Kind) ((aA.getD ak.toNat default).Path) ((aA.getD ak.toNat default).From) ((aA.getD ak.toNat default).Value))).bind fun v3 =>
(cond v3
(G.bf.L1 n aA (IntKind.wrap .i64 (ak+1)))
(some (false)))))
(some ((decide (((aA.length:Nat):Int)<=12)))))
def G.bf (f:Nat) (aA:List jq):Option (Bool):=match f with
| 0=>none
| n+1 =>
(G.bf.L1 n aA 0)
def G.cZ.L1 (f:Nat) (ai:aS) (ak:Int):Option (Bool):=match f with
| 0=>none
| n+1 =>
(cond (decide (ak<((ai.length:Nat):Int)))
(chk (0<=ak/\ak<((ai.length:Nat):Int))
((G.bK n (IntKind.wrap .i64 ((((ai.getD ak.toNat 0).toNat:Nat):Int))) 97 122).bind fun v5 =>
(cond v5
(G.cZ.L1 n ai (IntKind.wrap .i64 (ak+1)))
(chk (0<=ak/\ak<((ai.length:Nat):Int))
((G.bK n (IntKind.wrap .i64 ((((ai.getD ak.toNat 0).toNat:Nat):Int))) 48 57).bind fun v6 =>
(cond v6
(G.cZ.L1 n ai (IntKind.wrap .i64 (ak+1)))
(some (false))))))))
((G.bK n ((ai.length:Nat):Int) 1 8).bind fun v7 =>
(some (v7))))
def G.cZ (f:Nat) (ai:aS):Option (Bool):=match f with
| 0=>none
| n+1 =>
(G.cZ.L1 n ai 0)
def G.bz.L1 (f:Nat) (ai:StoreT) (ak:Int):Option (Bool):=match f with
| 0=>none
| n+1 =>
(cond (decide (ak<((ai.Items.length:Nat):Int)))
(chk (0<=ak/\ak<((ai.Items.length:Nat):Int))
((G.cZ n ((ai.Items.getD ak.toNat default).Name)).bind fun v7 =>
(cond v7
((G.bD n ((ai.Items.getD ak.toNat default).Node)).bind fun v8 =>
(cond v8
((G.bK n ((ai.Items.getD ak.toNat default).Version) 1 ai.Clock).bind fun v9 =>
(cond v9
(cond (decide (0<ak))
(chk (0<=(IntKind.wrap .i64 (ak-1))/\(IntKind.wrap .i64 (ak-1))<((ai.Items.length:Nat):Int))
(cond (Op.bytesLess ((ai.Items.getD ak.toNat default).Name) ((ai.Items.getD (IntKind.wrap .i64 (ak-1)).toNat default).Name))
(some (false))
(cond ((ai.Items.getD ak.toNat default).Name==(ai.Items.getD (IntKind.wrap .i64 (ak-1)).toNat default).Name)
(some (false))
(G.bz.L1 n ai (IntKind.wrap .i64 (ak+1))))))
(G.bz.L1 n ai (IntKind.wrap .i64 (ak+1))))
(some (false))))
(some (false))))
(some (false)))))
(cond (decide (((ai.Items.length:Nat):Int)<=10))
((G.bK n ai.Clock 0 999).bind fun v10 =>
(some (v10)))
(some (false))))
def G.bz (f:Nat) (ai:StoreT):Option (Bool):=match f with
| 0=>none
| n+1 =>
(G.bz.L1 n ai 0)
end Go.Ab
end
section
namespace Go.Ab
open Go
set_option maxRecDepth 100000
set_option linter.defProp false
theorem Ro {α β:Type} (f:α->β) (l:List α) (n:Nat):List.take n (List.map f l)=List.map f (List.take n l):=List.map_take.symm
theorem Rn {α β:Type} (f:α->β) (l:List α) (n:Nat):List.drop n (List.map f l)=List.map f (List.drop n l):=List.map_drop.symm
theorem XJ {i:Int} {m:Nat} [inst:Decidable (0<=i/\i<(m:Int))] {α:Type} {k:Option α} {r:α} (h:chk (0<=i/\i<(m:Int)) k=some r):(0<=i/\i<(m:Int))/\i.toNat<m/\k=some r:=by
 obtain ⟨h1,h2⟩:=oJ.1 h
 exact ⟨h1,by omega,h2⟩
theorem XI {m:Nat} [inst:Decidable ((0:Nat)<=0/\(0:Int)<(m:Int))] {α:Type} {k:Option α} {r:α} (h:chk ((0:Nat)<=0/\(0:Int)<(m:Int)) k=some r):(0:Int)<(m:Int)/\0<m/\k=some r:=by
 obtain ⟨h1,h2⟩:=oJ.1 h
 exact ⟨h1.2,by omega,h2⟩
theorem kq {c:Prop} [Decidable c] {α:Type} {k:Option α} {r:α} (h:chk c k=some r):c/\k=some r:=oJ.1 h
theorem bq {α β:Type} {x:Option α} {f:α->Option β} {r:β} (h:Option.bind x f=some r):∃ a,x=some a/\f a=some r:=Option.bind_eq_some_iff.1 h
section
variable {P:Program} {Q:AQ} {st:bZ}
theorem QV {f:FuncId} {lX:List AV} {p:Bool} {d:Option Nat} {K:List Nat->List Nat->bZ->Prop} {du:DU K} (k:lY P f lX p d st K du):lY P f lX p d st K du:=k
theorem QW {a:AQ->bZ->Prop} {d1:DU a} {d2:DU Q} (k:vT a Q st d1 d2):vT a Q st d1 d2:=k
theorem UW {a b:AQ->bZ->Prop} {d1:DU a} {d2:DU b} {d3:DU Q} (k:zH a b Q st d1 d2 d3):zH a b Q st d1 d2 d3:=k
theorem WC {X:Type} {p:X->Prop} (k:∃ x,p x):∃ x,p x:=k
theorem UX {rs:List pg} {r:AV} (k:Dh rs r st):Dh rs r st:=k
theorem UY {rs:List pg} {m:Nat} {post:AV->List Box->Prop} (k:yD rs m post st):yD rs m post st:=k
end
theorem sq {α:Type} {x r:α} (h:some x=some r):r=x:=(Option.some.inj h).symm
theorem cq {b:Bool} {α:Type} {x y:Option α} {r:α} (h:cond b x y=some r):(b=true/\x=some r)\/(b=false/\y=some r):=Ot.1 h
def XD:=And.intro @PV (And.intro @SH (And.intro @PU (And.intro @SK (And.intro @SG (And.intro @PS (And.intro @MW (And.intro @PR (And.intro @SI (And.intro @PO (And.intro @TP (And.intro @TN (And.intro @N8 (And.intro @N7 (And.intro @N9 (And.intro @NY (And.intro @NW (And.intro @NZ (And.intro @KP (And.intro @KO (And.intro @KQ (And.intro @TB (And.intro @TC (And.intro @Tz (And.intro @TA (And.intro @MX (And.intro @KC (And.intro @SL (And.intro @PX (And.intro @Va (And.intro @V6 (And.intro @V5 (And.intro @Vd (And.intro @TF (And.intro @Qd (And.intro @Oa (And.intro @Qc (And.intro @zx.eq_1 (And.intro @zx.eq_2 (And.intro @ru.eq_1 (And.intro @ru.eq_2 (And.intro @st0.eq_1 (And.intro @qh.eq_1 (And.intro @qh.eq_2 (And.intro @lS.eq_1 (And.intro @lS.eq_2 (And.intro @fA.valid.eq_1 (And.intro @fA.valid.eq_2 (And.intro @aU.eq_1 (And.intro @Xe (And.intro @Xd (And.intro @Xj (And.intro @Xy (And.intro @wQ (And.intro @sN (And.intro @VM (And.intro @Ul (And.intro @Uk (And.intro @pJ.eq_1 (And.intro @pJ.eq_2 (And.intro @kJ.eq_1 (And.intro @kJ.eq_2 (And.intro @JS.eq_1 (And.intro @JS.eq_2 (And.intro @setB.eq_1 (And.intro @setB.eq_2 (And.intro @O8 (And.intro @O9 (And.intro @Pz (And.intro @ML (And.intro @FR.ok.eq_1 (And.intro @Di.eq_1 (And.intro @Di.eq_2 (And.intro @Di.eq_3 (And.intro @AV.flat.eq_1 (And.intro @AV.flat.eq_2 (And.intro @AV.cells.eq_1 (And.intro @AV.cells.eq_2 (And.intro @AV.cells.eq_3 (And.intro @oH.eq_1 (And.intro @oH.eq_2 (And.intro @oH.eq_3 (And.intro @oH.eq_4 (And.intro @Iw.eq_1 (And.intro @Ez.eq_1 (And.intro @Ez.eq_2 (And.intro @splice.eq_1 (And.intro @Box.arr.eq_1 (And.intro @Box.arr.eq_2 (And.intro @Box.arr.eq_3 (And.intro @dataOf.eq_1 (And.intro @dataOf.eq_2 (And.intro @dataOf.eq_3 (And.intro @dataOf.eq_4 (And.intro @wP.eq_1 (And.intro @wP.eq_2 (And.intro @bnd.eq_1 (And.intro @bnd.eq_2 (And.intro @CX.eq_1 (And.intro @CX.eq_2 (And.intro @Rh (And.intro @Rf (And.intro @wE.eq_1 (And.intro @mM.eq_1 (And.intro @oz.eq_1 (And.intro @Uy.eq_1 (And.intro @qf.eq_1 (And.intro @qf.eq_2 (And.intro @qf.eq_3 (And.intro @sK.eq_1 (And.intro @sK.eq_2 (And.intro @sK.eq_3 (And.intro @nS.eq_1 (And.intro @nS.eq_2 (And.intro @nS.eq_3 (And.intro @oD.eq_1 (And.intro @oD.eq_2 (And.intro @oD.eq_3 (And.intro @AV.owns.eq_1 (And.intro @AV.owns.eq_2 (And.intro @AV.owns.eq_3 (And.intro @jd.eq_1 (And.intro @jd.eq_2 (And.intro @jd.eq_3 (And.intro @AC.nD.eq_1 (And.intro @AC.nD.eq_2 (And.intro @AC.isLit.eq_1 (And.intro @AC.isLit.eq_2 (And.intro @AV.all.eq_1 (And.intro @AV.all.eq_2 (And.intro @AV.all.eq_3 (And.intro @Cell.isLit.eq_1 (And.intro @Cell.isLit.eq_2 (And.intro @List.mem_cons.{0} (And.intro @List.not_mem_nil.{0} (And.intro @or_false (And.intro @false_or (And.intro @or_true (And.intro @true_or (And.intro @forall_eq.{1} (And.intro @forall_eq_or_imp.{1} (And.intro @true_and (And.intro @and_true (And.intro @true_implies (And.intro @false_implies (And.intro @implies_true.{1} (And.intro @if_true.{1} (And.intro @if_false.{1} (And.intro @Bool.false_eq_true (And.intro @Bool.true_eq_false (And.intro @imp_self (And.intro @and_self (And.intro @cond_true.{1} (And.intro @cond_false.{1} (And.intro @List.map_cons.{0,0} (And.intro @List.map_nil.{0,0} (And.intro @List.take_succ_cons.{0} (And.intro @List.take_zero.{0} (And.intro @List.drop_succ_cons.{0} (And.intro @List.drop_zero.{0} (And.intro @List.take_nil.{0} (And.intro @List.drop_nil.{0} (And.intro @List.cons_append.{0} (And.intro @List.nil_append.{0} (And.intro @List.append_nil.{0} (And.intro @List.length_cons.{0} (And.intro @List.length_nil.{0} (And.intro @List.getElem?_cons_zero.{0} (And.intro @List.getElem?_cons_succ.{0} (And.intro @List.length_map.{0,0} (And.intro @List.length_replicate.{0} (And.intro @List.length_append.{0} (And.intro @List.map_append.{0,0} (And.intro @List.flatMap_cons.{0,0} (And.intro @List.flatMap_nil.{0,0} (And.intro @List.all_cons.{0} (And.intro @List.all_nil.{0} (And.intro @List.contains_cons.{0} (And.intro @List.contains_nil.{0} (And.intro @Bool.and_true (And.intro @Bool.or_false (And.intro @Bool.false_or (And.intro @Bool.true_or (And.intro @Bool.or_true (And.intro @Bool.and_self (And.intro @Bool.not_false (And.intro @Bool.not_true (And.intro @Bool.true_and (And.intro @Bool.false_and (And.intro @Bool.and_false (And.intro @Nat.zero_lt_succ (And.intro @Nat.zero_le (And.intro @Nat.zero_add (And.intro @Nat.le_refl (And.intro @Nat.min_self (And.intro @Xa (And.intro @W9 (And.intro @decide_true (And.intro @decide_false (And.intro @Jn.eq_1 (And.intro @Jn.eq_2 (And.intro @IM.eq_1 (And.intro @IM.eq_2 (And.intro @FK.eq_1 (And.intro @FK.eq_2 (And.intro @FK.eq_3 (And.intro @zT.eq_1 (And.intro @zT.eq_2 (And.intro @Aa.eq_1 (And.intro @Aa.eq_2 (And.intro @Ir.eq_1 (And.intro @rf.eq_1 (And.intro @rf.eq_2 (And.intro @rf.eq_3 (And.intro @cI.eq_1 (And.intro @cU.eq_1 (And.intro @cB.eq_1 (And.intro @cS.eq_1 (And.intro @cL.eq_1 (And.intro @cK.eq_1 (And.intro @af.dZ (And.intro @jq.dZ (And.intro @StoreT.dZ (And.intro @aH.dZ (And.intro @RequestT.dZ (And.intro @dA.dZ (And.intro @List.getD_cons_zero.{0} (And.intro @List.getD_cons_succ.{0} (And.intro @List.map_set.{0,0} (And.intro @List.length_set.{0} (And.intro @OB (And.intro @take_len (And.intro @yu (And.intro @yw (And.intro @Nz (And.intro @EF.eq_1 (And.intro @EF.eq_2 (And.intro @QA (And.intro @uI.eq_1 (And.intro @uI.eq_2 (And.intro @Le (And.intro @sF (And.intro @Jr (And.intro @Js (And.intro @Option.map_some.{0,0} (And.intro @Int.toNat_natCast (And.intro @Int.toNat_zero (And.intro @Ro (And.intro @Rn (And.intro @bne_self_eq_false.{0} (And.intro @Bool.bne_true (And.intro @Bool.bne_false (And.intro @List.drop_replicate.{0} (And.intro @Nat.sub_self (And.intro @uG.eq_1 (And.intro @uG.eq_2 (And.intro @uG.eq_3 (And.intro @Option.toList_none.{0} (And.intro @Option.toList_some.{0} (And.intro @Ib.eq_1 (And.intro @lV.eq_1 (And.intro @lV.eq_2 (And.intro @o7.eq_1 (And.intro @o7.eq_2 (And.intro @eq_self.{1} (And.intro @List.replicate_zero.{0} (And.intro @List.replicate_succ.{0} (And.intro @zW.eq_1 (And.intro @zW.eq_2 (And.intro @oq.eq_1 (And.intro @oq.eq_2 (And.intro @List.set_cons_zero.{0} (And.intro @List.set_cons_succ.{0} (And.intro @Vo (And.intro @qp.eq_1 (And.intro @qp.eq_2 (And.intro @qV.eq_1 (And.intro @qV.eq_2 (And.intro @qV.eq_3 (And.intro @List.zip_cons_cons.{0,0} (And.intro @List.zip_nil_right.{0,0} (And.intro @List.zip_nil_left.{0,0} (And.intro @beq_self_eq_true.{0} @Nat.add_zero))))))))))))))))))))))))))))))))))))))))))))))))))))))))))))))))))))))))))))))))))))))))))))))))))))))))))))))))))))))))))))))))))))))))))))))))))))))))))))))))))))))))))))))))))))))))))))))))))))))))))))))))))))))))))))))))))))))))))))))))))))))))))))))))))))))))))))))))))))))))))
theorem yF:type_of% XD:=XD
def XO:=And.intro @Fj.eq_1 (And.intro @Fj.eq_2 (And.intro @Kz.eq_1 (And.intro @Kz.eq_2 (And.intro @F6.eq_1 (And.intro @F6.eq_2 (And.intro @F6.eq_3 (And.intro @NP.eq_1 (And.intro @NP.eq_2 (And.intro @NP.eq_3 (And.intro @NP.eq_4 (And.intro @zy.eq_1 (And.intro @zy.eq_2 (And.intro @zy.eq_3 (And.intro @FB.eq_1 (And.intro @FB.eq_2 (And.intro @pJ.eq_1 (And.intro @pJ.eq_2 (And.intro @kJ.eq_1 (And.intro @kJ.eq_2 (And.intro @true_and (And.intro @and_true (And.intro @implies_true.{1} (And.intro @List.mem_cons.{0} (And.intro @List.not_mem_nil.{0} (And.intro @or_false (And.intro @or_true (And.intro @true_or (And.intro @Box.arr.eq_1 (And.intro @Box.arr.eq_2 (And.intro @Box.arr.eq_3 (And.intro @wE.eq_1 (And.intro @mM.eq_1 (And.intro @oz.eq_1 (And.intro @Uy.eq_1 (And.intro @not_false_eq_true (And.intro @false_or (And.intro @Option.some.injEq.{0} (And.intro @true_implies (And.intro @cI.eq_1 (And.intro @cU.eq_1 (And.intro @cB.eq_1 (And.intro @cS.eq_1 (And.intro @cL.eq_1 (And.intro @cK.eq_1 (And.intro @af.dZ (And.intro @jq.dZ (And.intro @StoreT.dZ (And.intro @aH.dZ (And.intro @RequestT.dZ (And.intro @dA.dZ (And.intro @List.map_append.{0,0} (And.intro @List.map_cons.{0,0} (And.intro @List.map_nil.{0,0} (And.intro @List.map_set.{0,0} (And.intro @List.map_take.{0,0} (And.intro @List.map_drop.{0,0} (And.intro @List.map_replicate.{0,0} (And.intro @List.length_append.{0} (And.intro @List.length_cons.{0} (And.intro @List.length_nil.{0} (And.intro @List.length_map.{0,0} (And.intro @List.length_set.{0} (And.intro @List.length_replicate.{0} (And.intro @Nat.zero_add (And.intro @Nat.add_zero (And.intro @List.nil_append.{0} (And.intro @List.cons_append.{0} (And.intro @List.append_nil.{0} (And.intro @take_len (And.intro @yu (And.intro @yw @and_self)))))))))))))))))))))))))))))))))))))))))))))))))))))))))))))))))))))))
theorem Yg:type_of% XO:=XO
def XL:=And.intro @Dh.eq_1 (And.intro @uj.eq_1 (And.intro @uj.eq_2 (And.intro @pg.ok.eq_1 (And.intro @pg.ok.eq_2 (And.intro @pg.val.eq_1 (And.intro @pg.val.eq_2 (And.intro @FT.eq_1 (And.intro @FT.eq_2 (And.intro @oN.eq_1 (And.intro @oN.eq_2 (And.intro @partOf.eq_1 (And.intro @partOf.eq_2 (And.intro @partOf.eq_3 (And.intro @wQ (And.intro @sN (And.intro @zi (And.intro @Xj (And.intro @Xy (And.intro @AV.flat.eq_1 (And.intro @AV.flat.eq_2 (And.intro @oH.eq_1 (And.intro @oH.eq_2 (And.intro @oH.eq_3 (And.intro @oH.eq_4 (And.intro @pJ.eq_1 (And.intro @pJ.eq_2 (And.intro @kJ.eq_1 (And.intro @kJ.eq_2 (And.intro @dV.eq_1 (And.intro @dV.eq_2 (And.intro @dV.eq_3 (And.intro @dV.eq_4 (And.intro @dC.eq_1 (And.intro @dC.eq_2 (And.intro @dC.eq_3 (And.intro @dC.eq_4 (And.intro @S9.eq_1 (And.intro @S9.eq_2 (And.intro @S9.eq_3 (And.intro @TR.eq_1 (And.intro @TR.eq_2 (And.intro @TR.eq_3 (And.intro @Box.arr.eq_1 (And.intro @Box.arr.eq_2 (And.intro @Box.arr.eq_3 (And.intro @List.take_succ_cons.{0} (And.intro @List.take_zero.{0} (And.intro @List.drop_zero.{0} (And.intro @List.drop_succ_cons.{0} (And.intro @List.length_cons.{0} (And.intro @List.length_nil.{0} (And.intro @List.getElem?_cons_zero.{0} (And.intro @List.getElem?_cons_succ.{0} (And.intro @true_and (And.intro @and_true (And.intro @Nat.zero_add (And.intro @mM.eq_1 (And.intro @oz.eq_1 (And.intro @wE.eq_1 (And.intro @Uy.eq_1 (And.intro @FR.ok.eq_1 (And.intro @cI.eq_1 (And.intro @cU.eq_1 (And.intro @cB.eq_1 (And.intro @cS.eq_1 (And.intro @cL.eq_1 (And.intro @cK.eq_1 (And.intro @af.dZ (And.intro @jq.dZ (And.intro @StoreT.dZ (And.intro @aH.dZ (And.intro @RequestT.dZ (And.intro @dA.dZ (And.intro @List.map_append.{0,0} (And.intro @List.map_cons.{0,0} (And.intro @List.map_nil.{0,0} (And.intro @List.map_set.{0,0} (And.intro @List.map_take.{0,0} (And.intro @List.map_drop.{0,0} (And.intro @List.map_replicate.{0,0} (And.intro @List.length_append.{0} (And.intro @List.length_map.{0,0} (And.intro @List.length_set.{0} (And.intro @List.length_replicate.{0} (And.intro @Nat.add_zero (And.intro @List.nil_append.{0} (And.intro @List.cons_append.{0} (And.intro @List.append_nil.{0} (And.intro @take_len (And.intro @yu (And.intro @yw (And.intro @and_self @sF))))))))))))))))))))))))))))))))))))))))))))))))))))))))))))))))))))))))))))))))))))))))))))
theorem Yb:type_of% XL:=XL
def XM:=And.intro @Fj.eq_1 (And.intro @Fj.eq_2 (And.intro @Kz.eq_1 (And.intro @Kz.eq_2 (And.intro @F6.eq_1 (And.intro @F6.eq_2 (And.intro @F6.eq_3 (And.intro @NP.eq_1 (And.intro @NP.eq_2 (And.intro @NP.eq_3 (And.intro @NP.eq_4 (And.intro @zy.eq_1 (And.intro @zy.eq_2 (And.intro @zy.eq_3 (And.intro @FB.eq_1 (And.intro @FB.eq_2 (And.intro @pJ.eq_1 (And.intro @pJ.eq_2 (And.intro @kJ.eq_1 (And.intro @kJ.eq_2 (And.intro @true_and (And.intro @and_true (And.intro @implies_true.{1} (And.intro @List.mem_cons.{0} (And.intro @List.not_mem_nil.{0} (And.intro @or_false (And.intro @or_true (And.intro @true_or (And.intro @Box.arr.eq_1 (And.intro @Box.arr.eq_2 (And.intro @Box.arr.eq_3 (And.intro @wE.eq_1 (And.intro @mM.eq_1 (And.intro @oz.eq_1 (And.intro @Uy.eq_1 (And.intro @not_false_eq_true (And.intro @false_or (And.intro @Option.some.injEq.{0} (And.intro @true_implies (And.intro @cI.eq_1 (And.intro @cU.eq_1 (And.intro @cB.eq_1 (And.intro @cS.eq_1 (And.intro @cL.eq_1 (And.intro @cK.eq_1 (And.intro @af.dZ (And.intro @jq.dZ (And.intro @StoreT.dZ (And.intro @aH.dZ (And.intro @RequestT.dZ (And.intro @dA.dZ (And.intro @List.map_append.{0,0} (And.intro @List.map_cons.{0,0} (And.intro @List.map_nil.{0,0} (And.intro @List.map_set.{0,0} (And.intro @List.map_take.{0,0} (And.intro @List.map_drop.{0,0} (And.intro @List.map_replicate.{0,0} (And.intro @List.length_append.{0} (And.intro @List.length_cons.{0} (And.intro @List.length_nil.{0} (And.intro @List.length_map.{0,0} (And.intro @List.length_set.{0} (And.intro @List.length_replicate.{0} (And.intro @Nat.zero_add (And.intro @Nat.add_zero (And.intro @List.nil_append.{0} (And.intro @List.cons_append.{0} (And.intro @List.append_nil.{0} (And.intro @take_len (And.intro @yu (And.intro @yw (And.intro @and_self (And.intro @ru.eq_1 (And.intro @ru.eq_2 (And.intro @F5.eq_1 (And.intro @F5.eq_2 (And.intro @F5.eq_3 (And.intro @Dh.eq_1 (And.intro @uj.eq_1 (And.intro @uj.eq_2 (And.intro @pg.ok.eq_1 (And.intro @pg.ok.eq_2 (And.intro @pg.val.eq_1 (And.intro @pg.val.eq_2 (And.intro @FT.eq_1 (And.intro @FT.eq_2 (And.intro @oN.eq_1 (And.intro @oN.eq_2 (And.intro @partOf.eq_1 (And.intro @partOf.eq_2 (And.intro @partOf.eq_3 (And.intro @wQ (And.intro @sN (And.intro @zi (And.intro @Xj (And.intro @Xy (And.intro @AV.flat.eq_1 (And.intro @AV.flat.eq_2 (And.intro @oH.eq_1 (And.intro @oH.eq_2 (And.intro @oH.eq_3 (And.intro @oH.eq_4 (And.intro @dV.eq_1 (And.intro @dV.eq_2 (And.intro @dV.eq_3 (And.intro @dV.eq_4 (And.intro @dC.eq_1 (And.intro @dC.eq_2 (And.intro @dC.eq_3 (And.intro @dC.eq_4 (And.intro @S9.eq_1 (And.intro @S9.eq_2 (And.intro @S9.eq_3 (And.intro @TR.eq_1 (And.intro @TR.eq_2 (And.intro @TR.eq_3 (And.intro @List.take_succ_cons.{0} (And.intro @List.take_zero.{0} (And.intro @List.drop_zero.{0} (And.intro @List.drop_succ_cons.{0} (And.intro @List.getElem?_cons_zero.{0} (And.intro @List.getElem?_cons_succ.{0} (And.intro @FR.ok.eq_1 @sF)))))))))))))))))))))))))))))))))))))))))))))))))))))))))))))))))))))))))))))))))))))))))))))))))))))))))))))))))))))))))))
theorem KI:type_of% XM:=XM
def XK:=And.intro @qf.eq_1 (And.intro @qf.eq_2 (And.intro @qf.eq_3 (And.intro @sK.eq_1 (And.intro @sK.eq_2 (And.intro @sK.eq_3 (And.intro @nS.eq_1 (And.intro @nS.eq_2 (And.intro @nS.eq_3 (And.intro @oD.eq_1 (And.intro @oD.eq_2 (And.intro @oD.eq_3 (And.intro @sN (And.intro @kJ.eq_1 (And.intro @kJ.eq_2 (And.intro @Box.arr.eq_1 (And.intro @Box.arr.eq_2 (And.intro @Box.arr.eq_3 (And.intro @AV.cells.eq_1 (And.intro @AV.cells.eq_2 (And.intro @AV.cells.eq_3 (And.intro @List.map_cons.{0,0} (And.intro @List.map_nil.{0,0} (And.intro @List.length_map.{0,0} (And.intro @List.length_append.{0} (And.intro @List.length_cons.{0} (And.intro @List.length_nil.{0} (And.intro @List.length_replicate.{0} (And.intro @List.length_set.{0} (And.intro @take_len (And.intro @yu (And.intro @yw (And.intro @true_and (And.intro @and_true (And.intro @and_self (And.intro @Nat.le_refl (And.intro @Nat.zero_add (And.intro @Nat.add_zero (And.intro @mM.eq_1 (And.intro @oz.eq_1 (And.intro @wE.eq_1 (And.intro @Uy.eq_1 (And.intro @cI.eq_1 (And.intro @cU.eq_1 (And.intro @cB.eq_1 (And.intro @cS.eq_1 (And.intro @cL.eq_1 (And.intro @cK.eq_1 (And.intro @List.map_append.{0,0} (And.intro @List.cons_append.{0} (And.intro @List.nil_append.{0} (And.intro @af.dZ (And.intro @jq.dZ (And.intro @StoreT.dZ (And.intro @aH.dZ (And.intro @RequestT.dZ @dA.dZ)))))))))))))))))))))))))))))))))))))))))))))))))))))))
theorem Ya:type_of% XK:=XK
def XE:=And.intro @FW.eq_1 (And.intro @FW.eq_2 (And.intro @FP.eq_1 (And.intro @FP.eq_2 (And.intro @sN (And.intro @kJ.eq_1 (And.intro @kJ.eq_2 (And.intro @qp.eq_1 (And.intro @qp.eq_2 (And.intro @List.getD_cons_zero.{0} (And.intro @List.getD_cons_succ.{0} (And.intro @List.cons_append.{0} (And.intro @List.nil_append.{0} (And.intro @List.append_nil.{0} (And.intro @List.map_cons.{0,0} (And.intro @List.map_nil.{0,0} (And.intro @List.map_append.{0,0} (And.intro @List.map_set.{0,0} (And.intro @List.length_append.{0} (And.intro @List.length_cons.{0} (And.intro @List.length_nil.{0} (And.intro @List.length_map.{0,0} (And.intro @List.length_set.{0} (And.intro @List.length_replicate.{0} (And.intro @List.replicate_zero.{0} (And.intro @List.replicate_succ.{0} (And.intro @List.map_replicate.{0,0} (And.intro @Nat.zero_add (And.intro @Nat.add_zero (And.intro @qV.eq_1 (And.intro @qV.eq_2 (And.intro @qV.eq_3 (And.intro @and_self (And.intro @and_true (And.intro @true_and (And.intro @cI.eq_1 (And.intro @cU.eq_1 (And.intro @cB.eq_1 (And.intro @cS.eq_1 (And.intro @cL.eq_1 (And.intro @cK.eq_1 (And.intro @af.dZ (And.intro @jq.dZ (And.intro @StoreT.dZ (And.intro @aH.dZ (And.intro @RequestT.dZ @dA.dZ)))))))))))))))))))))))))))))))))))))))))))))
theorem XF:type_of% XE:=XE
def XG:=And.intro @FW.eq_1 (And.intro @FW.eq_2 (And.intro @FP.eq_1 (And.intro @FP.eq_2 (And.intro @sN (And.intro @kJ.eq_1 (And.intro @kJ.eq_2 (And.intro @qp.eq_1 (And.intro @qp.eq_2 (And.intro @List.getD_cons_zero.{0} (And.intro @List.getD_cons_succ.{0} (And.intro @List.cons_append.{0} (And.intro @List.nil_append.{0} (And.intro @List.append_nil.{0} (And.intro @List.map_cons.{0,0} (And.intro @List.map_nil.{0,0} (And.intro @List.map_append.{0,0} (And.intro @List.map_set.{0,0} (And.intro @List.length_append.{0} (And.intro @List.length_cons.{0} (And.intro @List.length_nil.{0} (And.intro @List.length_map.{0,0} (And.intro @List.length_set.{0} (And.intro @List.length_replicate.{0} (And.intro @List.replicate_zero.{0} (And.intro @List.replicate_succ.{0} (And.intro @List.map_replicate.{0,0} (And.intro @Nat.zero_add (And.intro @Nat.add_zero (And.intro @qV.eq_1 (And.intro @qV.eq_2 (And.intro @qV.eq_3 (And.intro @and_self (And.intro @and_true (And.intro @true_and (And.intro @cI.eq_1 (And.intro @cU.eq_1 (And.intro @cB.eq_1 (And.intro @cS.eq_1 (And.intro @cL.eq_1 (And.intro @cK.eq_1 (And.intro @af.dZ (And.intro @jq.dZ (And.intro @StoreT.dZ (And.intro @aH.dZ (And.intro @RequestT.dZ (And.intro @dA.dZ (And.intro @Nz (And.intro @EF.eq_1 (And.intro @EF.eq_2 (And.intro @uI.eq_1 (And.intro @uI.eq_2 (And.intro @List.flatMap_cons.{0,0} (And.intro @List.flatMap_nil.{0,0} (And.intro @AV.owns.eq_1 (And.intro @AV.owns.eq_2 (And.intro @AV.owns.eq_3 (And.intro @jd.eq_1 (And.intro @jd.eq_2 (And.intro @jd.eq_3 (And.intro @List.contains_cons.{0} (And.intro @List.contains_nil.{0} (And.intro @Bool.or_false (And.intro @Bool.or_true (And.intro @Bool.false_or (And.intro @if_true.{1} (And.intro @if_false.{1} (And.intro @Bool.false_eq_true (And.intro @qf.eq_1 (And.intro @qf.eq_2 (And.intro @qf.eq_3 (And.intro @sK.eq_1 (And.intro @sK.eq_2 (And.intro @sK.eq_3 (And.intro @nS.eq_1 (And.intro @nS.eq_2 (And.intro @nS.eq_3 (And.intro @oD.eq_1 (And.intro @oD.eq_2 (And.intro @oD.eq_3 (And.intro @Box.arr.eq_1 (And.intro @Box.arr.eq_2 (And.intro @Box.arr.eq_3 (And.intro @AV.cells.eq_1 (And.intro @AV.cells.eq_2 (And.intro @AV.cells.eq_3 (And.intro @Nat.le_refl (And.intro @take_len (And.intro @yu (And.intro @yw (And.intro @mM.eq_1 (And.intro @oz.eq_1 (And.intro @wE.eq_1 @Uy.eq_1))))))))))))))))))))))))))))))))))))))))))))))))))))))))))))))))))))))))))))))))))))))))))))
theorem XU:type_of% XG:=XG
end Go.Ab
end
section
namespace Go.Ab
open Go
set_option maxRecDepth 100000
set_option linter.unusedVariables false
abbrev zN:List AC:=[.c (.lit (.int .i64 0)),.c (.lit (.int .i64 0)),.c (.str []),.iL 1,.iL 5]
abbrev wI (z:Int):AC := .c (.lit (.int .i64 z))
abbrev wS (s:aS):AC := .c (.str s)
abbrev wT (l:List aS):AC := .c (.sl 1 (List.map cS l))
abbrev wK (l:List af):AC := .c (.sl 5 (List.map af.cells l))
abbrev wN (x:af):List AC:=[wI x.Kind,wI x.Num,wS x.Text,wT x.Names,wK x.Kids]
abbrev eP (a b:Nat):Nat × Slot:=(a,.v true (.one (.ptr b 0)))
abbrev eI (a:Nat) (z:Int):Nat × Slot:=(a,.v true (.one (wI z)))
abbrev eS (a:Nat) (z:aS):Nat × Slot:=(a,.v true (.one (wS z)))
abbrev eT (a:Nat) (z:List aS):Nat × Slot:=(a,.v true (.one (wT z)))
def pp {α:Sort _} {β:Sort _} (a:α) (b:β):PProd α β:=⟨a,b⟩
theorem ihL {n:Nat} {A B:Nat->Prop} (h:∀ m,m<n->A m/\B m):∀ m,m<n->A m:=fun m hm=>(h m hm).1
theorem ihR {n:Nat} {A B:Nat->Prop} (h:∀ m,m<n->A m/\B m):∀ m,m<n->B m:=fun m hm=>(h m hm).2
theorem bQ (zs:List Nat) (pi:List (Nat × Nat)) (vs:List Nat) {m:Nat} {Sz ts:List (Nat × Slot)} {tC bs:List (Nat × Box)} (hk:BO m tC bs pi vs=true)
  (hb:Fj zs (kJ tC) (FB pi) vs bs) (ht:Kz zs (kJ tC) (FB pi) vs Sz ts):yA m (bZ.of Sz tC) (bZ.of ts bs):=Uz zs pi vs hk hb ht
theorem qx (zs:List Nat) (pi:List (Nat × Nat)) (vs:List Nat) {rs:List pg} {ts:List (Nat × Slot)} {tC:List (Nat × Box)} {m:Nat} {r:AV} {bs:List Box} (hk:BO m tC (ru bs 0) pi vs=true)
  (hok:uj (bZ.of ts tC) rs) (hb:Fj zs (kJ tC) (FB pi) vs (ru bs 0)) (hv:NP zs (kJ tC) (FB pi) vs (FT (bZ.of ts tC) rs) r) :
  yD rs m (fun r1 b1=>r1=r/\b1=bs) (bZ.of ts tC):=pX zs pi vs hk hok hb hv
section
variable {P:Program} {f:FuncId} {lX:List AV} {d:Option Nat} {st:bZ} {K:List Nat->List Nat->bZ->Prop} {du:DU K} {Q:AQ}
theorem cG (sg nu:List Nat) {P:Program} {f:FuncId} {lX:List AV} {d:Option Nat} {st:bZ} {K:List Nat->List Nat->bZ->Prop} {du:DU K} {ds:List AV} {fp tC:List Box} {r0:AV} (h:iZ P f ds fp (fun r bs=>r=r0/\bs=tC)) (hl:sg.length=fp.length) (hn:nodupB (sg++nu)=true) (hf:FW st (sg++nu) fp 0) (hv:FP st nu)
  (hra:(ds.all fun x=>x.all (AC.lZ fp.length))=true) (hrf:fp.all (Box.lZ fp.length)=true) (ha:lX=ds.map (qV fun b=>(sg++nu).getD b 0)) (hb:tC.length=(sg++nu).length)
  (k:K (sg++nu) (sg++nu) ((st.kT ((sg++nu).zip (tC.map (qp fun b=>(sg++nu).getD b 0)))).oM d (.v true (qV (fun b=>(sg++nu).getD b 0) r0)))):lY P f lX true d st K du:=V9 sg nu h hl hn hf hv hra hrf ha hb k
theorem cH (sg nu:List Nat) {P:Program} {f:FuncId} {lX:List AV} {d:Option Nat} {st:bZ} {K:List Nat->List Nat->bZ->Prop} {du:DU K} {ds:List AV} {fp tC:List Box} {r0:AV} (h:iZ P f ds fp (fun r bs=>r=r0/\bs=tC)) (he:lX.map (qf st.bx)=ds.map (qV fun b=>(sg++nu).getD b 0)) (hlo:nS st.bx lX)
  (hl:sg.length=fp.length) (hn:nodupB (sg++nu)=true) (hf:FW (st.sJ (lX.flatMap AV.owns)) (sg++nu) fp 0) (hv:FP st nu)
  (hra:(ds.all fun x=>x.all (AC.lZ fp.length))=true) (hrf:fp.all (Box.lZ fp.length)=true) (hb:tC.length=(sg++nu).length)
  (k:K (lX.flatMap AV.owns++(sg++nu)) (lX.flatMap AV.owns++(sg++nu)) (((st.sJ (lX.flatMap AV.owns)).kT ((sg++nu).zip (tC.map (qp fun b=>(sg++nu).getD b 0)))).oM d (.v true (qV (fun b=>(sg++nu).getD b 0) r0)))):lY P f lX true d st K du:=We sg nu h he hlo hl hn hf hv hra hrf hb k
theorem sQ (X:Type) (R:Type) (g:Nat->X->Option R) (r:R) (S:X->bZ) (N:Nat) {P:Program} {st:bZ} {Q:AQ} {a b:aO} {d1:DU (wpC P a)} {d2:DU (wpC P b)} {d3:DU Q}
  (h1:pK P a (mY.then (fun st'=>∃ x m,(g m x=some r/\m<=N)/\yA 10 st' (S x)) Q) st .mk .mk) (h2:∀ n x,n<=N->g n x=some r->pK P b Q (S x) .mk .mk):zH (wpC P a) (wpC P b) Q st d1 d2 d3:=by
 refine Xb (X:=X × Nat) (fun p=>g p.2 p.1=some r/\p.2<=N) (fun p=>S p.1) (wpC_mono (fun e st h => ?_) h1) (fun p hp=>h2 p.2 p.1 hp.2 hp.1)
 cases e with
 | normal=>obtain ⟨x,m,h,hw⟩:=h; exact ⟨(x,m),h,hw⟩
 | _=>exact h
theorem lQ (X:Type) (R:Type) (g:Nat->X->Option R) (r:R) (S:X->bZ) (N:Nat) {P:Program} {st:bZ} {Q:AQ} {a:aO} {d1:DU (wpC P a)} {d2:DU Q} (h0:∃ x m,(g m x=some r/\m<=N)/\yA 10 st (S x))
  (h:∀ n x,n<=N->g n x=some r->pK P a (mY.then (fun st'=>∃ x' m,(g m x'=some r/\m<=N/\m<n)/\yA 10 st' (S x')) Q) (S x) .mk .mk):vT (wpC P a) Q st d1 d2:=by
 obtain ⟨x,m,h0,hw⟩:=h0
 refine WG (X:=X × Nat) (fun p=>g p.2 p.1=some r/\p.2<=N) (fun p=>S p.1) (fun p=>p.2) (x,m) h0 hw (fun p hp=>wpC_mono (fun e st h => ?_) (h p.2 p.1 hp.2 hp.1))
 cases e with
 | normal=>obtain ⟨x,m,h,hw⟩:=h; exact ⟨(x,m),⟨⟨h.1,h.2.1⟩,h.2.2⟩,hw⟩
 | _=>exact h
end
theorem Bg {p:Prop} (x:p:=by simp -dsimp only [Yg,Cm,uB,reduceIte,Nat.reduceEqDiff,reduceCtorEq]<;>simp [List.take_of_length_le]<;>fail):p:=x
theorem XN {p:Prop} (x:p:=by (simp -dsimp only [Yb,reduceIte,Nat.reduceEqDiff,Nat.reduceAdd,Nat.reduceLeDiff,reduceCtorEq]<;>first | (simp [List.take_of_length_le]; done) | ((try simp only [List.map_take,List.map_drop,List.map_append,List.map_cons,List.map_nil])<;>(repeat' apply And.intro)<;>first | rfl | (simp; done) | (simp<;>omega; done) | (congr 1; exact (List.take_of_length_le (by simp<;>omega)).symm)))):p:=x
theorem pG {p:Prop} (x:p:=by (simp -dsimp only [KI,Cm,uB,reduceIte,Nat.reduceEqDiff,reduceCtorEq,Nat.reduceAdd,Nat.reduceLeDiff]<;>first | (simp [List.take_of_length_le]; done) | ((try simp only [List.map_take,List.map_drop,List.map_append,List.map_cons,List.map_nil])<;>(repeat' apply And.intro)<;>first | rfl | (simp; done) | (simp<;>omega; done) | (congr 1; exact (List.take_of_length_le (by simp<;>omega)).symm)))):p:=x
theorem U0 {p:Prop} (x:p:=by (simp only [Ya,reduceIte,Nat.reduceEqDiff]<;>omega)):p:=x
theorem rP {p:Prop} (x:p:=by (simp only [XF,nU,reduceIte,Nat.reduceEqDiff,Nat.reduceLeDiff,Nat.reduceAdd]<;>omega)):p:=x
theorem Bf {p:Prop} (x:p:=by first | rfl | (simp only [XF,nU,reduceIte,Nat.reduceEqDiff,Nat.reduceLeDiff,Nat.reduceAdd]<;>omega)):p:=x
theorem mO {p:Prop} (x:p:=by (simp only [XU,nU,reduceIte,Nat.reduceEqDiff,Nat.reduceLeDiff,Nat.reduceAdd,Nat.reduceBEq]<;>omega)):p:=x
theorem AY {p:Prop} (x:p:=by ((try simp only [Prod.exists]); (first | refine ⟨_,_,⟨h,?_⟩,?_⟩ | refine ⟨_,_,_,⟨h,?_⟩,?_⟩ | refine ⟨_,_,_,_,⟨h,?_⟩,?_⟩ | refine ⟨_,_,_,_,_,⟨h,?_⟩,?_⟩ | refine ⟨_,_,_,_,_,_,⟨h,?_⟩,?_⟩ | refine ⟨_,_,_,_,_,_,_,⟨h,?_⟩,?_⟩ | refine ⟨_,_,_,_,_,_,_,_,⟨h,?_⟩,?_⟩ | refine ⟨_,_,_,_,_,_,_,_,_,⟨h,?_⟩,?_⟩ | refine ⟨_,_,_,_,_,_,_,_,_,_,⟨h,?_⟩,?_⟩ | refine ⟨_,_,_,_,_,_,_,_,_,_,_,⟨h,?_⟩,?_⟩ | refine ⟨_,_,_,_,_,_,_,_,_,_,_,_,⟨h,?_⟩,?_⟩ | refine ⟨_,_,_,_,_,_,_,_,_,_,_,_,_,⟨h,?_⟩,?_⟩ | refine ⟨_,_,_,_,_,_,_,_,_,_,_,_,_,_,⟨h,?_⟩,?_⟩ | refine ⟨_,_,_,_,_,_,_,_,_,_,_,_,_,_,_,⟨h,?_⟩,?_⟩ | refine ⟨_,_,_,_,_,_,_,_,_,_,_,_,_,_,_,_,⟨h,?_⟩,?_⟩ | refine ⟨_,_,_,_,_,_,_,_,_,_,_,_,_,_,_,_,_,⟨h,?_⟩,?_⟩ | refine ⟨_,_,_,_,_,_,_,_,_,_,_,_,_,_,_,_,_,_,⟨h,?_⟩,?_⟩ | refine ⟨_,_,_,_,_,_,_,_,_,_,_,_,_,_,_,_,_,_,_,⟨h,?_⟩,?_⟩ | refine ⟨_,_,_,_,_,_,_,_,_,_,_,_,_,_,_,_,_,_,_,_,⟨h,?_⟩,?_⟩ | refine ⟨_,_,_,_,_,_,_,_,_,_,_,_,_,_,_,_,_,_,_,_,_,⟨h,?_⟩,?_⟩ | refine ⟨_,_,_,_,_,_,_,_,_,_,_,_,_,_,_,_,_,_,_,_,_,_,⟨h,?_⟩,?_⟩ | refine ⟨_,_,_,_,_,_,_,_,_,_,_,_,_,_,_,_,_,_,_,_,_,_,_,⟨h,?_⟩,?_⟩ | refine ⟨_,_,_,_,_,_,_,_,_,_,_,_,_,_,_,_,_,_,_,_,_,_,_,_,⟨h,?_⟩,?_⟩ | refine ⟨(),_,⟨h,?_⟩,?_⟩); (focus omega); first | exact zj.1 (by rfl) Bg Bg | exact zj.2.1 (by rfl) Bg Bg | exact zj.2.2.1 (by rfl) Bg Bg | exact zj.2.2.2.1 (by rfl) Bg Bg | exact zj.2.2.2.2.1 (by rfl) Bg Bg | exact zj.2.2.2.2.2.1 (by rfl) Bg Bg | exact zj.2.2.2.2.2.2.1 (by rfl) Bg Bg | exact zj.2.2.2.2.2.2.2.1 (by rfl) Bg Bg | exact zj.2.2.2.2.2.2.2.2.1 (by rfl) Bg Bg | exact zj.2.2.2.2.2.2.2.2.2.1 (by rfl) Bg Bg | exact zj.2.2.2.2.2.2.2.2.2.2.1 (by rfl) Bg Bg | exact zj.2.2.2.2.2.2.2.2.2.2.2.1 (by rfl) Bg Bg | exact zj.2.2.2.2.2.2.2.2.2.2.2.2.1 (by rfl) Bg Bg | exact zj.2.2.2.2.2.2.2.2.2.2.2.2.2.1 (by rfl) Bg Bg)):p:=x
theorem kQ {p:Prop} (x:p:=by
  obtain ⟨zc,zg,zk,zu,ze,zj,zt⟩:=z
  try simp only [wN,wI,wS,wT,wK,zN,eP,eI,eS,eT] at zc zk zu zt zj ⊢
  repeat' first
  | (clear h; (with_reducible intro n x hn h); rcases n with _ | n<;>simp only [ze.1,reduceCtorEq] at h)
  | (simp only [reduceCtorEq] at h; done)
  | ((with_reducible replace h:=XI h); obtain ⟨_,_,h⟩:=h)
  | ((with_reducible replace h:=XJ h); obtain ⟨_,_,h⟩:=h)
  | ((with_reducible replace h:=kq h); obtain ⟨_,h⟩:=h)
  | ((with_reducible replace h:=sq h); subst h; have h:=True.intro)
  | (try simp -dsimp only [yF,fA.gm,fA.f,fA.rd,lH,jX,lvl,kK,reduceIte,Nat.reduceEqDiff,Nat.reduceAdd,Nat.reduceLeDiff,Nat.reduceBEq,reduceCtorEq,Int.reduceBNe,Int.reduceBEq,Int.reduceLT,Int.reduceLE,Int.reduceNeg,Nat.reduceLT,lI,Int.reduceToNat,nU, *]
     repeat ((with_reducible refine And.intro ?_ ?_); focus first | (show kW _ _ _ _=true; kernel_rfl) | (show jT _ _=true; kernel_rfl) | omega | assumption | (show _<=maxLen; decide))
     first
     | with_reducible refine UI ?_
     | ((with_reducible refine UW ?_); with_reducible refine zu.1 n ?_ ?_)
     | ((with_reducible refine QW ?_); first | ((with_reducible refine zk.1 n ?_ ?_); (focus exact AY)) | ((with_reducible refine zk.2.1 n ?_ ?_); (focus exact AY)) | ((with_reducible refine zk.2.2.1 n ?_ ?_); (focus exact AY)) | ((with_reducible refine zk.2.2.2.1 n ?_ ?_); (focus exact AY)) | ((with_reducible refine zk.2.2.2.2.1 n ?_ ?_); (focus exact AY)) | ((with_reducible refine zk.2.2.2.2.2.1 n ?_ ?_); (focus exact AY)))
     | ((with_reducible refine QV ?_); (with_reducible replace h:=bq h); obtain ⟨_,hv,h⟩:=h; first | ((first | with_reducible have hc:=zc.1 hv | with_reducible have hc:=zc.1 _ (by omega) hv | with_reducible have hc:=zc.2.1 hv | with_reducible have hc:=zc.2.1 _ (by omega) hv | with_reducible have hc:=zc.2.2.1 hv | with_reducible have hc:=zc.2.2.1 _ (by omega) hv | with_reducible have hc:=zc.2.2.2.1 hv | with_reducible have hc:=zc.2.2.2.2.1 hv | with_reducible have hc:=zc.2.2.2.2.2.1 hv | with_reducible have hc:=zc.2.2.2.2.2.2.1 hv | with_reducible have hc:=zc.2.2.2.2.2.2.2.1 hv | with_reducible have hc:=zc.2.2.2.2.2.2.2.2.1 hv | with_reducible have hc:=zc.2.2.2.2.2.2.2.2.2.1 hv | with_reducible have hc:=zc.2.2.2.2.2.2.2.2.2.2.1 hv | with_reducible have hc:=zc.2.2.2.2.2.2.2.2.2.2.2.1 hv | with_reducible have hc:=zc.2.2.2.2.2.2.2.2.2.2.2.2.1 hv | with_reducible have hc:=zc.2.2.2.2.2.2.2.2.2.2.2.2.2.1 hv | with_reducible have hc:=zc.2.2.2.2.2.2.2.2.2.2.2.2.2.2.1 hv | with_reducible have hc:=zc.2.2.2.2.2.2.2.2.2.2.2.2.2.2.2.1 hv | with_reducible have hc:=zc.2.2.2.2.2.2.2.2.2.2.2.2.2.2.2.2.1 hv | with_reducible have hc:=zc.2.2.2.2.2.2.2.2.2.2.2.2.2.2.2.2.2.1 hv | with_reducible have hc:=zc.2.2.2.2.2.2.2.2.2.2.2.2.2.2.2.2.2.2.1 hv | with_reducible have hc:=zc.2.2.2.2.2.2.2.2.2.2.2.2.2.2.2.2.2.2.2.1 hv | with_reducible have hc:=zc.2.2.2.2.2.2.2.2.2.2.2.2.2.2.2.2.2.2.2.2.1 hv | with_reducible have hc:=zc.2.2.2.2.2.2.2.2.2.2.2.2.2.2.2.2.2.2.2.2.2.1 hv); (first | refine UH (fun _=>hc) rfl rfl ?_ | refine UJ hc rfl rfl ?_ | refine UG hc U0 U0 rfl rfl ?_ | refine UF hc U0 U0 rfl rfl ?_)) | ((first | with_reducible have hc:=zg.1.1 hv | with_reducible have hc:=zg.1.1 _ (by omega) hv); (first | refine zg.1.2 hc rfl rfl rP rP rfl rfl Bf rfl ?_ | refine zg.1.2 hc mO mO rfl rfl mO mO rfl rfl rfl ?_)) | ((first | with_reducible have hc:=zg.2.1.1 hv | with_reducible have hc:=zg.2.1.1 _ (by omega) hv); (first | refine zg.2.1.2 hc rfl rfl rP rP rfl rfl Bf rfl ?_ | refine zg.2.1.2 hc mO mO rfl rfl mO mO rfl rfl rfl ?_)) | ((first | with_reducible have hc:=zg.2.2.1.1 hv | with_reducible have hc:=zg.2.2.1.1 _ (by omega) hv); (first | refine zg.2.2.1.2 hc rfl rfl rP rP rfl rfl Bf rfl ?_ | refine zg.2.2.1.2 hc mO mO rfl rfl mO mO rfl rfl rfl ?_)) | ((with_reducible have hc:=zg.2.2.2.1.1 hv); (first | refine zg.2.2.2.1.2 hc rfl rfl rP rP rfl rfl Bf rfl ?_ | refine zg.2.2.2.1.2 hc mO mO rfl rfl mO mO rfl rfl rfl ?_)) | ((with_reducible have hc:=zg.2.2.2.2.1.1 hv); (first | refine zg.2.2.2.2.1.2 hc rfl rfl rP rP rfl rfl Bf rfl ?_ | refine zg.2.2.2.2.1.2 hc mO mO rfl rfl mO mO rfl rfl rfl ?_)) | ((with_reducible have hc:=zg.2.2.2.2.2.1.1 hv); (first | refine zg.2.2.2.2.2.1.2 hc rfl rfl rP rP rfl rfl Bf rfl ?_ | refine zg.2.2.2.2.2.1.2 hc mO mO rfl rfl mO mO rfl rfl rfl ?_)) | ((with_reducible have hc:=zg.2.2.2.2.2.2.1.1 hv); (first | refine zg.2.2.2.2.2.2.1.2 hc rfl rfl rP rP rfl rfl Bf rfl ?_ | refine zg.2.2.2.2.2.2.1.2 hc mO mO rfl rfl mO mO rfl rfl rfl ?_)) | ((with_reducible have hc:=zg.2.2.2.2.2.2.2.1.1 hv); (first | refine zg.2.2.2.2.2.2.2.1.2 hc rfl rfl rP rP rfl rfl Bf rfl ?_ | refine zg.2.2.2.2.2.2.2.1.2 hc mO mO rfl rfl mO mO rfl rfl rfl ?_)) | ((with_reducible have hc:=zg.2.2.2.2.2.2.2.2.1.1 hv); (first | refine zg.2.2.2.2.2.2.2.2.1.2 hc rfl rfl rP rP rfl rfl Bf rfl ?_ | refine zg.2.2.2.2.2.2.2.2.1.2 hc mO mO rfl rfl mO mO rfl rfl rfl ?_)) | ((with_reducible have hc:=zg.2.2.2.2.2.2.2.2.2.1.1 hv); (first | refine zg.2.2.2.2.2.2.2.2.2.1.2 hc rfl rfl rP rP rfl rfl Bf rfl ?_ | refine zg.2.2.2.2.2.2.2.2.2.1.2 hc mO mO rfl rfl mO mO rfl rfl rfl ?_)) | ((with_reducible have hc:=zg.2.2.2.2.2.2.2.2.2.2.1.1 hv); (first | refine zg.2.2.2.2.2.2.2.2.2.2.1.2 hc rfl rfl rP rP rfl rfl Bf rfl ?_ | refine zg.2.2.2.2.2.2.2.2.2.2.1.2 hc mO mO rfl rfl mO mO rfl rfl rfl ?_)) | ((with_reducible have hc:=zg.2.2.2.2.2.2.2.2.2.2.2.1.1 hv); (first | refine zg.2.2.2.2.2.2.2.2.2.2.2.1.2 hc rfl rfl rP rP rfl rfl Bf rfl ?_ | refine zg.2.2.2.2.2.2.2.2.2.2.2.1.2 hc mO mO rfl rfl mO mO rfl rfl rfl ?_)) | ((with_reducible have hc:=zg.2.2.2.2.2.2.2.2.2.2.2.2.1.1 hv); (first | refine zg.2.2.2.2.2.2.2.2.2.2.2.2.1.2 hc rfl rfl rP rP rfl rfl Bf rfl ?_ | refine zg.2.2.2.2.2.2.2.2.2.2.2.2.1.2 hc mO mO rfl rfl mO mO rfl rfl rfl ?_)) | ((with_reducible have hc:=zg.2.2.2.2.2.2.2.2.2.2.2.2.2.1.1 hv); (first | refine zg.2.2.2.2.2.2.2.2.2.2.2.2.2.1.2 hc rfl rfl rP rP rfl rfl Bf rfl ?_ | refine zg.2.2.2.2.2.2.2.2.2.2.2.2.2.1.2 hc mO mO rfl rfl mO mO rfl rfl rfl ?_)))
     | ((with_reducible replace h:=cq h); rcases h with ⟨c,h⟩ | ⟨c,h⟩<;>try (simp only [*,Bool.false_eq_true,reduceCtorEq] at c; done))
     | ((with_reducible refine WC ?_); exact AY)
     | ((with_reducible refine UX ?_); exact XN)
     | ((with_reducible refine UY ?_); first | exact zt.1 (by rfl) pG pG pG | exact zt.2.1 (by rfl) pG pG pG | exact zt.2.2.1 (by rfl) pG pG pG | exact zt.2.2.2.1 (by rfl) pG pG pG | exact zt.2.2.2.2.1 (by rfl) pG pG pG | exact zt.2.2.2.2.2.1 (by rfl) pG pG pG | exact zt.2.2.2.2.2.2.1 (by rfl) pG pG pG | exact zt.2.2.2.2.2.2.2.1 (by rfl) pG pG pG | exact zt.2.2.2.2.2.2.2.2.1 (by rfl) pG pG pG | exact zt.2.2.2.2.2.2.2.2.2.1 (by rfl) pG pG pG | exact zt.2.2.2.2.2.2.2.2.2.2.1 (by rfl) pG pG pG | exact zt.2.2.2.2.2.2.2.2.2.2.2.1 (by rfl) pG pG pG)
     | (cases h; done))):p:=x
end Go.Ab
end
section
namespace Go.Ab
open Go
set_option maxRecDepth 100000
set_option maxHeartbeats 4000000
set_option linter.unusedVariables false
set_option linter.unusedSimpArgs false
abbrev zA (d:Nat) (x:fA):gK:=⟨none,some d,.op x⟩
abbrev zM (d s:Nat):gK:=⟨none,some d,.op (.mv (.t s))⟩
abbrev zS (x:fA):gK:=⟨none,none,.op x⟩
abbrev zG (g:Nat) (b:Bool) (d:Nat) (x:fA):gK:=⟨some (g,b),some d,.op x⟩
noncomputable abbrev pZ:Program:=Go.Proofs.Tryz.prog
abbrev kI (n:Int):iY := .k (.c (.lit (.int .i64 n)))
abbrev kB (b:Bool):iY := .k (.c (.lit (.bool b)))
abbrev jH (n:Int):AC := .c (.lit (.int .i64 n))
abbrev qF (d k a:Nat):gK:=zA d (.load false k (.t a))
abbrev qT (d k a:Nat):gK:=zA d (.load true k (.t a))
abbrev qS (k a b:Nat):gK:=zS (.store true k (.t a) (.t b))
abbrev qU (k a b:Nat):gK:=zS (.store false k (.t a) (.t b))
abbrev qA (d k a:Nat):gK:=zA d (.gX k (.t a))
abbrev qX (d k a:Nat):gK:=zA d (.box k (.t a))
abbrev qB (d:Nat) (b:Bool):gK:=zA d (.mv (kB b))
abbrev qI (d:Nat) (n:Int):gK:=zA d (.mv (kI n))
abbrev qL (d a:Nat):gK:=zA d (.len (.t a))
abbrev qO (d a:Nat):gK:=zA d (.not (.t a))
abbrev qE (d a k:Nat):gK:=zA d (.extract (.t a) k)
abbrev qP (d a b:Nat):gK:=zA d (.pick (.t a) (.t b) (kB false))
abbrev qQ (d a b:Nat):gK:=zA d (.pick (.t a) (kB true) (.t b))
abbrev qN (d a:Nat):gK:=zA d (.Gu (.t a))
abbrev qD (d k a b:Nat):gK:=zA d (.o6 k (.t a) (.t b))
abbrev qZ (d k:Nat):gK:=zA d (.alloc k zN)
abbrev q1 (d f a:Nat):gK:=⟨none,some d,.call f [.t a]⟩
abbrev q2 (d f a b:Nat):gK:=⟨none,some d,.call f [.t a,.t b]⟩
abbrev q3 (d f a b c:Nat):gK:=⟨none,some d,.call f [.t a,.t b,.t c]⟩
def C.cmp_isNaN_int:aO:=(.seq (.reg [qB 2 false] [0]) (.seq (.reg [zM 3 0,zM 4 0,zA 5 (.bin .neq (.t 3) (.t 4)),zM 2 5] [2]) .ret))
theorem K.cmp_isNaN_int:dO pZ 195 1 0 C.cmp_isNaN_int [.tmp 2]=true:=by kernel_rfl
def C.cmp_Compare_int:aO:=(.seq (.reg [qI 4 0] [0,1]) (.seq (.reg [zM 7 0,q1 8 195 7,zM 5 8] [0,1,5]) (.seq (.reg [zM 9 1,q1 10 195 9,zM 6 10] [0,1,5,6]) (.seq (.seq (.reg [zM 11 5] [0,1,6,11]) (.cond (.t 11) (.seq (.seq (.reg [zM 12 6] [12]) (.cond (.t 12) (.seq (.reg [qI 4 0] [4]) .ret) .skip)) (.seq (.reg [qI 4 (-1)] [4]) .ret)) .skip)) (.seq (.seq (.reg [zM 13 6] [0,1,13]) (.cond (.t 13) (.seq (.reg [qI 4 1] [4]) .ret) .skip)) (.seq (.seq (.reg [zM 14 0,zM 15 1,zA 16 (.bin .lss (.t 14) (.t 15))] [0,1,16]) (.cond (.t 16) (.seq (.reg [qI 4 (-1)] [4]) .ret) .skip)) (.seq (.seq (.reg [zM 17 0,zM 18 1,zA 19 (.bin .gtr (.t 17) (.t 18))] [19]) (.cond (.t 19) (.seq (.reg [qI 4 1] [4]) .ret) .skip)) (.seq (.reg [qI 4 0] [4]) .ret))))))))
theorem K.cmp_Compare_int:dO pZ 148 2 0 C.cmp_Compare_int [.tmp 4]=true:=by kernel_rfl
def C.cmp_isNaN_string:aO:=(.seq (.reg [qB 2 false] [0]) (.seq (.reg [zM 3 0,zM 4 0,zA 5 (.bin .neq (.t 3) (.t 4)),zM 2 5] [2]) .ret))
theorem K.cmp_isNaN_string:dO pZ 234 1 0 C.cmp_isNaN_string [.tmp 2]=true:=by kernel_rfl
def C.cmp_Less_string:aO:=(.seq (.reg [qB 4 false] [0,1]) (.seq (.reg [zM 5 0,q1 6 234 5,zM 7 6,zG 7 true 8 (.mv (.t 1)),⟨(some (7,true)),some 9,.call 234 [.t 8]⟩,zG 7 true 10 (.not (.t 9)),qP 11 7 10,zM 12 11,zG 12 false 13 (.mv (.t 0)),zG 12 false 14 (.mv (.t 1)),zG 12 false 15 (.bin .lss (.t 13) (.t 14)),qQ 16 12 15,zM 4 16] [4]) .ret))
theorem K.cmp_Less_string:dO pZ 214 2 0 C.cmp_Less_string [.tmp 4]=true:=by kernel_rfl
def C.au:aO:=(.seq (.reg [qX 1 10 0,qZ 2 11] [1,2]) (.seq (.reg [qA 6 0 1,qF 7 1 6,qA 8 1 1,qF 9 1 8,qA 10 2 1,qF 11 1 10,zA 12 (.build zN [(0,1,.t 7),(1,1,.t 9),(2,1,.t 11)]),qZ 3 12,qS 5 3 12] [1,2,3]) (.cut (.seq (.reg [qA 13 3 1,qF 14 1 13,qL 15 14,zA 16 (.bin .gtr (.t 15) (kI 0))] [1,2,3,16]) (.cond (.t 16) (.seq (.reg [qA 17 3 1,qF 18 1 17,qL 19 18,zA 20 (.makes 13 1 16 [.str []] (.t 19) (.t 19)),qA 21 3 3,qU 1 21 20] [1,2,3]) (.reg [qA 22 3 3,qF 23 1 22,qA 24 3 1,qF 25 1 24,zA 26 (.copy 1 (.t 23) (.t 25))] [1,2,3])) .skip)) (.seq (.seq (.reg [qA 27 4 1,qF 28 1 27,qL 29 28,zA 30 (.bin .gtr (.t 29) (kI 0))] [1,2,3,30]) (.cond (.t 30) (.seq (.reg [qA 31 4 1,qF 32 1 31,qL 33 32,zA 34 (.makes 14 5 80 [.lit (.int .i64 0),.lit (.int .i64 0),.str [],.sl 1 [],.sl 5 []] (.t 33) (.t 33)),qA 35 4 3,qU 1 35 34] [1,2,3]) (.seq (.reg [qA 36 4 1,qF 37 1 36,qL 38 37,qI 39 0] [2,3,37,38,39]) (.block 0 (.loop (.seq (.reg [zA 40 (.bin .lss (.t 39) (.t 38))] [2,3,37,38,39,40]) (.seq (.cond (.t 40) .skip (.exit 0)) (.seq (.block 1 (.seq (.reg [zM 41 39,qD 42 5 37 39,qT 43 5 42,qZ 5 15,zM 4 41,qS 5 5 43] [2,3,4,5,37,38,39]) (.kz [(qA 44 4 3,[]),(qF 45 1 44,[0]),(zM 46 4,[]),(qT 47 5 5,[]),(q1 48 83 47,[3]),(qD 49 5 45 46,[0,1,2,3,4]),(qS 5 49 48,[0,1,2,3,4,5])] [2,3,37,38,39]))) (.reg [zA 50 (.bin .add (.t 39) (kI 1)),zM 39 50] [2,3,37,38,39])))))))) .skip)) (.seq (.reg [qT 51 5 3,qS 5 2 51] [2]) .ret)))))
theorem K.au:dO pZ 83 1 0 C.au [.cell 2 true 5]=true:=by kernel_rfl
def C.slices_isNaN_string:aO:=(.seq (.reg [qB 2 false] [0]) (.seq (.reg [zM 3 0,zM 4 0,zA 5 (.bin .neq (.t 3) (.t 4)),zM 2 5] [2]) .ret))
theorem K.slices_isNaN_string:dO pZ 215 1 0 C.slices_isNaN_string [.tmp 2]=true:=by kernel_rfl
def C.slices_BinarySearch_string:aO:=(.seq (.reg [qI 4 0,qB 5 false] [0,1]) (.seq (.reg [zM 10 0,qL 11 10,zM 6 11] [0,1,6]) (.seq (.reg [zM 12 6,qI 7 0,zM 8 12] [0,1,6,7,8]) (.seq (.block 0 (.loop (.seq (.seq (.reg [zM 13 7,zM 14 8,zA 15 (.bin .lss (.t 13) (.t 14))] [0,1,6,7,8,15]) (.cond (.t 15) .skip (.exit 0))) (.block 1 (.seq (.reg [zM 16 7,zM 17 8,zA 18 (.bin .add (.t 16) (.t 17)),zA 19 (.xq .u64 (.t 18)),zA 20 (.VR false (.t 19) (.k (.c (.lit (.int .u64 1))))),zA 21 (.xq .i64 (.t 20)),zM 9 21] [0,1,6,7,8,9]) (.seq (.reg [zM 22 0,zM 23 9,qD 24 1 22 23,qF 25 1 24,zM 26 1,q2 27 214 25 26] [0,1,6,7,8,9,27]) (.cond (.t 27) (.reg [zM 28 9,zA 29 (.bin .add (.t 28) (kI 1)),zM 7 29] [0,1,6,7,8]) (.reg [zM 30 9,zM 8 30] [0,1,6,7,8])))))))) (.seq (.reg [zM 31 7,zM 32 7,zM 33 6,zA 34 (.bin .lss (.t 32) (.t 33)),zM 35 34,zG 35 true 36 (.mv (.t 0)),zG 35 true 37 (.mv (.t 7)),zG 35 true 38 (.o6 1 (.t 36) (.t 37)),zG 35 true 39 (.load false 1 (.t 38)),zG 35 true 40 (.mv (.t 1)),zG 35 true 41 (.bin .eql (.t 39) (.t 40)),zG 35 true 42 (.mv (.t 41)),zG 42 false 43 (.mv (.t 0)),zG 42 false 44 (.mv (.t 7)),zG 42 false 45 (.o6 1 (.t 43) (.t 44)),zG 42 false 46 (.load false 1 (.t 45)),⟨(some (42,false)),some 47,.call 215 [.t 46]⟩,zG 42 false 48 (.mv (.t 47)),zG 48 true 49 (.mv (.t 1)),⟨(some (48,true)),some 50,.call 215 [.t 49]⟩,zG 42 false 51 (.pick (.t 48) (.t 50) (kB false)),zG 35 true 52 (.pick (.t 42) (kB true) (.t 51)),qP 53 35 52,zM 4 31,zM 5 53] [4,5]) .ret)))))
theorem K.slices_BinarySearch_string:dO pZ 177 2 0 C.slices_BinarySearch_string [.tmp 4,.tmp 5]=true:=by kernel_rfl
def C.bG:aO:=(.seq (.reg [qX 2 10 0,qI 4 0,qB 5 false] [1,2]) (.seq (.seq (.reg [qA 7 0 2,qF 8 1 7] [1,2,8]) (.block 0 (.seq (.reg [zA 10 (.bin .eql (.t 8) (kI 4)),zM 9 10] [1,2,8,9]) (.cond (.t 9) (.seq (.reg [qA 11 3 2,qF 12 1 11,zM 13 1,q2 14 177 12 13,qE 15 14 0,qE 16 14 1,zM 4 15,zM 5 16] [4,5]) .ret) (.seq (.reg [zA 18 (.bin .eql (.t 8) (kI 3)),zM 17 18] [1,2,17]) (.cond (.t 17) (.seq (.reg [qA 19 4 2,qF 20 1 19,qL 21 20,qI 22 0] [1,21,22]) (.block 1 (.loop (.seq (.reg [zA 23 (.bin .lss (.t 22) (.t 21))] [1,21,22,23]) (.seq (.cond (.t 23) .skip (.exit 1)) (.seq (.block 2 (.seq (.reg [zM 24 22,zM 6 24] [1,6,21,22]) (.seq (.reg [zM 25 6,q1 26 175 25,zM 27 1,zA 28 (.bin .eql (.t 26) (.t 27))] [1,6,21,22,28]) (.cond (.t 28) (.seq (.reg [zM 29 6,zM 4 29,qB 5 true] [4,5]) .ret) .skip)))) (.reg [zA 30 (.bin .add (.t 22) (kI 1)),zM 22 30] [1,21,22]))))))) .skip)))))) (.seq (.reg [qI 4 0,qB 5 false] [4,5]) .ret)))
theorem K.bG:dO pZ 130 2 0 C.bG [.tmp 4,.tmp 5]=true:=by kernel_rfl
def C.bI:aO:=(.seq (.reg [zA 6 (.mv (.k (.iL 5)))] [0,1,2]) (.seq (.reg [zM 10 0,zM 11 1,zA 12 (.iK 5 (.t 10) (some (.t 11)) none)] [0,1,2]) (.seq (.reg [zM 13 2,qL 14 13,zM 7 14] [0,1,2,7]) (.seq (.seq (.reg [zM 15 7,zA 16 (.bin .eql (.t 15) (kI 0))] [0,1,2,7,16]) (.cond (.t 16) (.seq (.reg [zM 17 0,zM 6 17] [6]) .ret) .skip)) (.seq (.reg [zM 18 0,qL 19 18,zM 8 19] [0,1,2,7,8]) (.seq (.seq (.reg [zM 20 1,zM 21 8,zA 22 (.bin .eql (.t 20) (.t 21))] [0,1,2,7,8,22]) (.cond (.t 22) (.seq (.reg [zM 23 0,zM 24 2,zA 25 (.Du 10 5 80 (.t 23) (.t 24)),zM 6 25] [6]) .ret) .skip)) (.seq (.seq (.reg [zM 26 8,zM 27 7,zA 28 (.bin .add (.t 26) (.t 27)),zM 29 0,zA 30 (.Ju (.t 29)),zA 31 (.bin .gtr (.t 28) (.t 30))] [0,1,2,7,8,31]) (.cond (.t 31) (.seq (.reg [zM 32 0,zM 33 1,zA 34 (.iK 5 (.t 32) none (some (.t 33))),zM 35 8,zM 36 7,zA 37 (.bin .add (.t 35) (.t 36)),zM 38 1,zA 39 (.bin .sub (.t 37) (.t 38)),zA 40 (.GM 11 5 80 [.lit (.int .i64 0),.lit (.int .i64 0),.str [],.sl 1 [],.sl 5 []] (.t 34) (.t 39)),zM 9 40] [0,1,2,7,9]) (.seq (.reg [zM 41 9,zM 42 1,zA 43 (.iK 5 (.t 41) (some (.t 42)) none),zM 44 2,zA 45 (.uO 5 (.t 43) (.t 44))] [0,1,7,9]) (.seq (.kz [(zM 46 9,[]),(zM 47 1,[]),(zM 48 7,[]),(zA 49 (.bin .add (.t 47) (.t 48)),[1,2]),(zA 50 (.iK 5 (.t 46) (some (.t 49)) none),[0,1,2,3]),(zM 51 0,[]),(zM 52 1,[]),(zA 53 (.iK 5 (.t 51) (some (.t 52)) none),[5,6]),(zA 54 (.uO 5 (.t 50) (.t 53)),[0,1,2,3,4,5,6,7])] [9]) (.seq (.reg [zM 55 9,zM 6 55] [6]) .ret)))) .skip)) (.seq (.reg [zM 56 0,zM 57 8,zM 58 7,zA 59 (.bin .add (.t 57) (.t 58)),zA 60 (.iK 5 (.t 56) none (some (.t 59))),zM 0 60] [0,1,2,7,8]) (.seq (.seq (.reg [zM 61 2,zM 62 0,zM 63 1,zM 64 7,zA 65 (.bin .add (.t 63) (.t 64)),zA 66 (.iK 5 (.t 62) (some (.t 65)) none),zA 67 (.Tj (.t 61) (.t 66)),qO 68 67] [0,1,2,7,8,68]) (.cond (.t 68) (.seq (.kz [(zM 69 0,[]),(zM 70 1,[]),(zM 71 7,[]),(zA 72 (.bin .add (.t 70) (.t 71)),[1,2]),(zA 73 (.iK 5 (.t 69) (some (.t 72)) none),[0,1,2,3]),(zM 74 0,[]),(zM 75 1,[]),(zA 76 (.iK 5 (.t 74) (some (.t 75)) none),[5,6]),(zA 77 (.uO 5 (.t 73) (.t 76)),[0,1,2,3,4,5,6,7])] [0,1,2]) (.seq (.reg [zM 78 0,zM 79 1,zA 80 (.iK 5 (.t 78) (some (.t 79)) none),zM 81 2,zA 82 (.uO 5 (.t 80) (.t 81))] [0]) (.seq (.reg [zM 83 0,zM 6 83] [6]) .ret))) .skip)) (.seq (.reg [zM 84 0,zM 85 8,zA 86 (.iK 5 (.t 84) (some (.t 85)) none),zM 87 2,zA 88 (.uO 5 (.t 86) (.t 87))] [0,1,7]) (.seq (.reg [zM 89 0,zM 90 1,zA 91 (.iK 5 (.t 89) (some (.t 90)) none),zM 92 7,q2 93 213 91 92] [0]) (.seq (.reg [zM 94 0,zM 6 94] [6]) .ret))))))))))))
theorem K.bI:dO pZ 176 3 2 C.bI [.tmp 6]=true:=by kernel_rfl
def C.dQ:aO:=(.seq (.reg [zA 6 (.mv (.k (.iL 1)))] [0,1,2]) (.seq (.reg [zM 10 0,zM 11 1,zA 12 (.iK 1 (.t 10) (some (.t 11)) none)] [0,1,2]) (.seq (.reg [zM 13 2,qL 14 13,zM 7 14] [0,1,2,7]) (.seq (.seq (.reg [zM 15 7,zA 16 (.bin .eql (.t 15) (kI 0))] [0,1,2,7,16]) (.cond (.t 16) (.seq (.reg [zM 17 0,zM 6 17] [6]) .ret) .skip)) (.seq (.reg [zM 18 0,qL 19 18,zM 8 19] [0,1,2,7,8]) (.seq (.seq (.reg [zM 20 1,zM 21 8,zA 22 (.bin .eql (.t 20) (.t 21))] [0,1,2,7,8,22]) (.cond (.t 22) (.seq (.reg [zM 23 0,zM 24 2,zA 25 (.Du 10 1 16 (.t 23) (.t 24)),zM 6 25] [6]) .ret) .skip)) (.seq (.seq (.reg [zM 26 8,zM 27 7,zA 28 (.bin .add (.t 26) (.t 27)),zM 29 0,zA 30 (.Ju (.t 29)),zA 31 (.bin .gtr (.t 28) (.t 30))] [0,1,2,7,8,31]) (.cond (.t 31) (.seq (.reg [zM 32 0,zM 33 1,zA 34 (.iK 1 (.t 32) none (some (.t 33))),zM 35 8,zM 36 7,zA 37 (.bin .add (.t 35) (.t 36)),zM 38 1,zA 39 (.bin .sub (.t 37) (.t 38)),zA 40 (.GM 11 1 16 [.str []] (.t 34) (.t 39)),zM 9 40] [0,1,2,7,9]) (.seq (.reg [zM 41 9,zM 42 1,zA 43 (.iK 1 (.t 41) (some (.t 42)) none),zM 44 2,zA 45 (.uO 1 (.t 43) (.t 44))] [0,1,7,9]) (.seq (.kz [(zM 46 9,[]),(zM 47 1,[]),(zM 48 7,[]),(zA 49 (.bin .add (.t 47) (.t 48)),[1,2]),(zA 50 (.iK 1 (.t 46) (some (.t 49)) none),[0,1,2,3]),(zM 51 0,[]),(zM 52 1,[]),(zA 53 (.iK 1 (.t 51) (some (.t 52)) none),[5,6]),(zA 54 (.uO 1 (.t 50) (.t 53)),[0,1,2,3,4,5,6,7])] [9]) (.seq (.reg [zM 55 9,zM 6 55] [6]) .ret)))) .skip)) (.seq (.reg [zM 56 0,zM 57 8,zM 58 7,zA 59 (.bin .add (.t 57) (.t 58)),zA 60 (.iK 1 (.t 56) none (some (.t 59))),zM 0 60] [0,1,2,7,8]) (.seq (.seq (.reg [zM 61 2,zM 62 0,zM 63 1,zM 64 7,zA 65 (.bin .add (.t 63) (.t 64)),zA 66 (.iK 1 (.t 62) (some (.t 65)) none),zA 67 (.Tj (.t 61) (.t 66)),qO 68 67] [0,1,2,7,8,68]) (.cond (.t 68) (.seq (.kz [(zM 69 0,[]),(zM 70 1,[]),(zM 71 7,[]),(zA 72 (.bin .add (.t 70) (.t 71)),[1,2]),(zA 73 (.iK 1 (.t 69) (some (.t 72)) none),[0,1,2,3]),(zM 74 0,[]),(zM 75 1,[]),(zA 76 (.iK 1 (.t 74) (some (.t 75)) none),[5,6]),(zA 77 (.uO 1 (.t 73) (.t 76)),[0,1,2,3,4,5,6,7])] [0,1,2]) (.seq (.reg [zM 78 0,zM 79 1,zA 80 (.iK 1 (.t 78) (some (.t 79)) none),zM 81 2,zA 82 (.uO 1 (.t 80) (.t 81))] [0]) (.seq (.reg [zM 83 0,zM 6 83] [6]) .ret))) .skip)) (.seq (.reg [zM 84 0,zM 85 8,zA 86 (.iK 1 (.t 84) (some (.t 85)) none),zM 87 2,zA 88 (.uO 1 (.t 86) (.t 87))] [0,1,7]) (.seq (.reg [zM 89 0,zM 90 1,zA 91 (.iK 1 (.t 89) (some (.t 90)) none),zM 92 7,q2 93 231 91 92] [0]) (.seq (.reg [zM 94 0,zM 6 94] [6]) .ret))))))))))))
theorem K.dQ:dO pZ 210 3 2 C.dQ [.tmp 6]=true:=by kernel_rfl
def C.iO:aO:=(.seq (.reg [qX 5 10 2] [0,1,5]) (.seq (.reg [zM 9 0,qN 10 9,qA 11 3 10,qF 12 1 11,zM 13 1,q2 14 177 12 13,zM 8 14,qE 15 8 0,qE 16 8 1,zM 6 15,zM 7 16] [0,1,5,6,7]) (.seq (.seq (.reg [zM 17 7] [0,1,5,6,17]) (.cond (.t 17) (.seq (.kz [(zM 18 0,[]),(qN 19 18,[0]),(qA 20 4 19,[0,1]),(qF 21 1 20,[0,1,2]),(zM 22 6,[]),(qT 23 5 5,[]),(qD 24 5 21 22,[0,1,2,3,4,5]),(qS 5 24 23,[0,1,2,3,4,5,6])] []) .ret) .skip)) (.seq (.reg [zM 25 0,zM 26 0,qN 27 26,qA 28 3 27,qF 29 1 28,zM 30 6,zM 31 1,zA 32 (.kX 11 1 1 [.str []] [(0,.t 31)]),q3 33 210 29 30 32,qN 34 25,qA 35 3 34,qU 1 35 33] [0,5,6]) (.kz [(zM 36 0,[]),(zM 37 0,[]),(qN 38 37,[1]),(qA 39 4 38,[1,2]),(qF 40 1 39,[1,2,3]),(zM 41 6,[]),(qT 42 5 5,[]),(zA 43 (.kX 12 5 1 [.lit (.int .i64 0),.lit (.int .i64 0),.str [],.sl 1 [],.sl 5 []] [(0,.t 42)]),[6]),(q3 44 176 40 41 43,[1,2,3,4,5,6,7]),(qN 45 36,[0,1,2,3,4,5,6,7,8]),(qA 46 4 45,[0,1,2,3,4,5,6,7,8,9]),(qU 1 46 44,[0,1,2,3,4,5,6,7,8,9,10])] [])))))
theorem K.iO:dO pZ 174 3 3 C.iO []=true:=by kernel_rfl
def C.fF:aO:=(.seq (.reg [qX 3 10 0,qX 5 11 2,qZ 6 12,qB 7 false] [1,3,5,6]) (.seq (.reg [qT 11 5 3,q1 12 83 11,qZ 8 13,qS 5 8 12] [1,3,5,6,8]) (.seq (.seq (.reg [qA 13 0 3,qF 14 1 13] [1,3,5,6,8,14]) (.block 0 (.seq (.reg [zA 16 (.bin .eql (.t 14) (kI 4)),zM 15 16] [1,3,5,6,8,14,15]) (.cond (.t 15) (.seq (.reg [zM 17 1,qT 18 5 5,q1 19 83 18,q3 20 174 8 17 19] [6,8]) (.seq (.reg [qT 21 5 8,qS 5 6 21,qB 7 true] [6,7]) .ret)) (.seq (.reg [zA 23 (.bin .eql (.t 14) (kI 3)),zM 22 23] [1,3,5,6,8,22]) (.cond (.t 22) (.seq (.reg [qT 25 5 3,zM 26 1,q2 27 130 25 26,zM 24 27,qE 28 24 0,qE 29 24 1,zM 9 28,zM 10 29] [1,3,5,6,8,9,10]) (.cut (.seq (.reg [zM 30 10,qO 31 30,zM 32 31,zG 32 true 33 (.mv (.t 1)),zG 32 true 34 (.bin .eql (.t 33) (.k (.c (.str [45])))),zG 32 true 35 (.mv (.t 34)),zG 35 false 36 (.mv (.t 1)),zG 35 false 37 (.gX 4 (.t 3)),zG 35 false 38 (.load false 1 (.t 37)),zG 35 false 39 (.len (.t 38)),⟨(some (35,false)),some 40,.call 175 [.t 39]⟩,zG 35 false 41 (.bin .eql (.t 36) (.t 40)),zG 32 true 42 (.pick (.t 35) (kB true) (.t 41)),qP 43 32 42] [3,5,6,8,9,10,43]) (.cond (.t 43) (.reg [qA 44 4 3,qF 45 1 44,qL 46 45,zM 9 46,qB 10 true] [5,6,8,9,10]) .skip)) (.seq (.seq (.reg [zM 47 10,qO 48 47] [5,6,8,9,48]) (.cond (.t 48) (.seq (.reg [zA 49 (.build zN []),qS 5 6 49,qB 7 false] [6,7]) .ret) .skip)) (.seq (.kz [(qA 50 4 8,[]),(qF 51 1 50,[0]),(zM 52 9,[]),(qT 53 5 5,[]),(q1 54 83 53,[3]),(zA 55 (.kX 14 5 1 [.lit (.int .i64 0),.lit (.int .i64 0),.str [],.sl 1 [],.sl 5 []] [(0,.t 54)]),[3,4]),(q3 56 176 51 52 55,[0,1,2,3,4,5]),(qA 57 4 8,[0,1,2,3,4,5,6]),(qU 1 57 56,[0,1,2,3,4,5,6,7])] [6,8]) (.seq (.reg [qT 58 5 8,qS 5 6 58,qB 7 true] [6,7]) .ret))))) .skip)))))) (.seq (.reg [zA 59 (.build zN []),qS 5 6 59,qB 7 false] [6,7]) .ret))))
theorem K.fF:dO pZ 128 3 0 C.fF [.cell 6 true 5,.tmp 7]=true:=by kernel_rfl
def C.kR:aO:=(.seq (.reg [qX 4 10 0,qZ 5 11,qB 6 false] [1,2,3,4,5]) (.seq (.kz [(qT 7 5 4,[]),(qF 8 1 1,[]),(qF 9 1 2,[]),(qD 10 1 8 9,[1,2]),(qF 11 1 10,[1,2,3]),(qT 12 5 3,[]),(q3 13 128 7 11 12,[0,1,2,3,4,5]),(qE 14 13 0,[0,1,2,3,4,5,6]),(qE 15 13 1,[0,1,2,3,4,5,6]),(qS 5 5 14,[0,1,2,3,4,5,6,7,8]),(zM 6 15,[0,1,2,3,4,5,6,7,8,9])] [5,6]) .ret))
theorem K.kR:dO pZ 127 4 3 C.kR [.cell 5 true 5,.tmp 6]=true:=by kernel_rfl
def C.bu:aO:=(.seq (.reg [qB 2 false] [0]) (.seq (.seq (.reg [zM 4 0,zA 5 (.lens (.t 4)),zA 6 (.bin .gtr (.t 5) (kI 12))] [0,6]) (.cond (.t 6) (.seq (.reg [qB 2 false] [2]) .ret) .skip)) (.seq (.seq (.reg [qI 3 0] [0,3]) (.block 0 (.loop (.seq (.seq (.reg [zM 7 3,zM 8 0,zA 9 (.lens (.t 8)),zA 10 (.bin .lss (.t 7) (.t 9))] [0,3,10]) (.cond (.t 10) .skip (.exit 0))) (.seq (.block 1 (.seq (.reg [zM 13 0,zM 14 3,zA 15 (.idxs (.t 13) (.t 14)),zA 16 (.bin .lss (.t 15) (.k (.c (.lit (.int .u8 32))))),zM 17 16,zG 17 false 18 (.mv (.t 0)),zG 17 false 19 (.mv (.t 3)),zG 17 false 20 (.idxs (.t 18) (.t 19)),zG 17 false 21 (.bin .gtr (.t 20) (.k (.c (.lit (.int .u8 126))))),qQ 22 17 21] [0,3,22]) (.cond (.t 22) (.seq (.reg [qB 2 false] [2]) .ret) .skip))) (.reg [zM 11 3,zA 12 (.bin .add (.t 11) (kI 1)),zM 3 12] [0,3])))))) (.seq (.reg [qB 2 true] [2]) .ret))))
theorem K.bu:dO pZ 145 1 0 C.bu [.tmp 2]=true:=by kernel_rfl
def C.dJ:aO:=(.seq (.reg [qB 2 false] [0]) (.seq (.seq (.reg [zM 5 0,qL 6 5,zA 7 (.bin .gtr (.t 6) (kI 6))] [0,7]) (.cond (.t 7) (.seq (.reg [qB 2 false] [2]) .ret) .skip)) (.seq (.seq (.reg [zM 8 0,qL 9 8,qI 10 0] [0,8,9,10]) (.block 0 (.loop (.seq (.reg [zA 11 (.bin .lss (.t 10) (.t 9))] [0,8,9,10,11]) (.seq (.cond (.t 11) .skip (.exit 0)) (.seq (.block 1 (.seq (.reg [zM 12 10,qD 13 1 8 10,qF 14 1 13,zM 3 12,zM 4 14] [0,3,4,8,9,10]) (.seq (.reg [zM 15 4,q1 16 145 15,qO 17 16,zM 18 17,zG 18 false 19 (.mv (.t 3)),zG 18 false 20 (.bin .gtr (.t 19) (kI 0)),zG 18 false 21 (.mv (.t 20)),zG 21 true 22 (.mv (.t 0)),zG 21 true 23 (.mv (.t 3)),zG 21 true 24 (.bin .sub (.t 23) (kI 1)),zG 21 true 25 (.o6 1 (.t 22) (.t 24)),zG 21 true 26 (.load false 1 (.t 25)),zG 21 true 27 (.mv (.t 4)),zG 21 true 28 (.bin .geq (.t 26) (.t 27)),zG 18 false 29 (.pick (.t 21) (.t 28) (kB false)),qQ 30 18 29] [0,8,9,10,30]) (.cond (.t 30) (.seq (.reg [qB 2 false] [2]) .ret) .skip)))) (.reg [zA 31 (.bin .add (.t 10) (kI 1)),zM 10 31] [0,8,9,10]))))))) (.seq (.reg [qB 2 true] [2]) .ret))))
theorem K.dJ:dO pZ 199 1 0 C.dJ [.tmp 2]=true:=by kernel_rfl
def C.aN:aO:=(.seq (.reg [qX 1 10 0,qB 2 false] [1]) (.cut (.seq (.reg [qA 3 0 1,qF 4 1 3,zA 5 (.bin .neq (.t 4) (kI 1)),zM 6 5,zG 6 true 7 (.gX 1 (.t 1)),zG 6 true 8 (.load false 1 (.t 7)),zG 6 true 9 (.bin .neq (.t 8) (kI 0)),qP 10 6 9,zM 11 10,zG 11 false 12 (.gX 0 (.t 1)),zG 11 false 13 (.load false 1 (.t 12)),zG 11 false 14 (.bin .neq (.t 13) (kI 2)),zG 11 false 15 (.mv (.t 14)),zG 15 true 16 (.gX 2 (.t 1)),zG 15 true 17 (.load false 1 (.t 16)),zG 15 true 18 (.bin .neq (.t 17) (.k (.c (.str [])))),zG 11 false 19 (.pick (.t 15) (.t 18) (kB false)),qQ 20 11 19] [1,20]) (.cond (.t 20) (.seq (.reg [qB 2 false] [2]) .ret) .skip)) (.seq (.seq (.reg [qA 21 0 1,qF 22 1 21,zA 23 (.bin .neq (.t 22) (kI 4)),zM 24 23,zG 24 true 25 (.gX 3 (.t 1)),zG 24 true 26 (.load false 1 (.t 25)),zG 24 true 27 (.len (.t 26)),zG 24 true 28 (.bin .gtr (.t 27) (kI 0)),qP 29 24 28] [1,29]) (.cond (.t 29) (.seq (.reg [qB 2 false] [2]) .ret) .skip)) (.seq (.seq (.reg [qA 30 0 1,qF 31 1 30] [1,31]) (.block 0 (.seq (.reg [zA 33 (.bin .eql (.t 31) (kI 0)),zM 32 33] [1,31,32]) (.cond (.t 32) (.seq (.reg [qA 34 4 1,qF 35 1 34,qL 36 35,zA 37 (.bin .eql (.t 36) (kI 0)),zM 2 37] [2]) .ret) (.seq (.reg [zA 39 (.bin .eql (.t 31) (kI 1)),zM 38 39] [1,31,38]) (.cond (.t 38) (.seq (.reg [qA 40 1 1,qF 41 1 40,zA 42 (.bin .geq (.t 41) (kI (-999999))),zM 43 42,zG 43 true 44 (.gX 1 (.t 1)),zG 43 true 45 (.load false 1 (.t 44)),zG 43 true 46 (.bin .leq (.t 45) (kI 999999)),qP 47 43 46,zM 48 47,zG 48 true 49 (.gX 4 (.t 1)),zG 48 true 50 (.load false 1 (.t 49)),zG 48 true 51 (.len (.t 50)),zG 48 true 52 (.bin .eql (.t 51) (kI 0)),qP 53 48 52,zM 2 53] [2]) .ret) (.seq (.reg [zA 55 (.bin .eql (.t 31) (kI 2)),zM 54 55] [1,31,54]) (.cond (.t 54) (.seq (.reg [qA 56 2 1,qF 57 1 56,q1 58 145 57,zM 59 58,zG 59 true 60 (.gX 4 (.t 1)),zG 59 true 61 (.load false 1 (.t 60)),zG 59 true 62 (.len (.t 61)),zG 59 true 63 (.bin .eql (.t 62) (kI 0)),qP 64 59 63,zM 2 64] [2]) .ret) (.seq (.reg [zA 66 (.bin .eql (.t 31) (kI 3)),zM 65 66] [1,31,65]) (.cond (.t 65) (.seq (.reg [qA 67 4 1,qF 68 1 67,qL 69 68,zA 70 (.bin .leq (.t 69) (kI 6)),zM 2 70] [2]) .ret) (.seq (.reg [zA 72 (.bin .eql (.t 31) (kI 4)),zM 71 72] [1,71]) (.cond (.t 71) (.seq (.reg [qA 73 3 1,qF 74 1 73,q1 75 199 74,zM 76 75,zG 76 true 77 (.gX 4 (.t 1)),zG 76 true 78 (.load false 1 (.t 77)),zG 76 true 79 (.len (.t 78)),zG 76 true 80 (.gX 3 (.t 1)),zG 76 true 81 (.load false 1 (.t 80)),zG 76 true 82 (.len (.t 81)),zG 76 true 83 (.bin .eql (.t 79) (.t 82)),qP 84 76 83,zM 2 84] [2]) .ret) .skip)))))))))))) (.seq (.reg [qB 2 false] [2]) .ret)))))
theorem K.aN:dO pZ 156 1 0 C.aN [.tmp 2]=true:=by kernel_rfl
def C.aF:aO:=(.seq (.reg [qX 2 10 0,qI 4 0,qI 5 0,qB 6 false] [1,2]) (.seq (.seq (.reg [zM 12 1,zA 13 (.bin .gtr (.t 12) (kI 5)),zM 14 13,zG 14 false 15 (.load true 5 (.t 2)),⟨(some (14,false)),some 16,.call 156 [.t 15]⟩,zG 14 false 17 (.not (.t 16)),qQ 18 14 17] [1,2,18]) (.cond (.t 18) (.seq (.reg [qI 4 0,qI 5 0,qB 6 false] [4,5,6]) .ret) .skip)) (.seq (.reg [qI 4 1,qI 5 1] [1,2,4,5]) (.seq (.seq (.reg [qA 19 4 2,qF 20 1 19,qL 21 20,qI 22 0] [1,4,5,20,21,22]) (.block 0 (.loop (.seq (.reg [zA 23 (.bin .lss (.t 22) (.t 21))] [1,4,5,20,21,22,23]) (.seq (.cond (.t 23) .skip (.exit 0)) (.seq (.block 1 (.seq (.reg [qD 24 5 20 22,qT 25 5 24,qZ 8 11,qS 5 8 25] [1,4,5,8,20,21,22]) (.seq (.reg [qT 27 5 8,zM 28 1,zA 29 (.bin .add (.t 28) (kI 1)),q2 30 103 27 29,zM 26 30,qE 31 26 0,qE 32 26 1,qE 33 26 2,zM 9 31,zM 10 32,zM 11 33] [1,4,5,9,10,11,20,21,22]) (.seq (.seq (.reg [zM 34 11,qO 35 34] [1,4,5,9,10,20,21,22,35]) (.cond (.t 35) (.seq (.reg [qI 4 0,qI 5 0,qB 6 false] [4,5,6]) .ret) .skip)) (.seq (.reg [zM 36 4,zM 37 9,zA 38 (.bin .add (.t 36) (.t 37)),zM 4 38] [1,4,5,10,20,21,22]) (.reg [zM 39 5,zM 40 10,zA 41 (.bin .add (.t 40) (kI 1)),zA 42 (.max (.t 39) (.t 41)),zM 5 42] [1,4,5,20,21,22])))))) (.reg [zA 43 (.bin .add (.t 22) (kI 1)),zM 22 43] [1,4,5,20,21,22]))))))) (.seq (.reg [zM 44 4,zM 45 5,zM 4 44,zM 5 45,qB 6 true] [4,5,6]) .ret)))))
theorem K.aF:dO pZ 103 2 0 C.aF [.tmp 4,.tmp 5,.tmp 6]=true:=by kernel_rfl
def C.aC:aO:=(.seq (.reg [qX 1 10 0,qB 2 false] [1]) (.seq (.reg [qT 7 5 1,⟨none,some 8,.call 103 [.t 7,kI 1]⟩,zM 6 8,qE 9 6 0,qE 10 6 1,qE 11 6 2,zM 3 9,zM 4 10,zM 5 11] [3,5]) (.seq (.reg [zM 12 5,zM 13 12,zG 13 true 14 (.mv (.t 3)),zG 13 true 15 (.bin .leq (.t 14) (kI 40)),qP 16 13 15,zM 2 16] [2]) .ret)))
theorem K.aC:dO pZ 57 1 0 C.aC [.tmp 2]=true:=by kernel_rfl
def C.o8:aO:=(.seq (.reg [qX 3 10 0,qZ 6 11,qB 7 false] [1,2,3,6]) (.seq (.seq (.reg [zM 12 1,qL 13 12,zA 14 (.bin .eql (.t 13) (kI 0))] [1,2,3,6,14]) (.cond (.t 14) (.seq (.reg [zM 15 2,qT 16 5 3,⟨none,some 17,.ve (.t 15) [.t 16]⟩,qE 18 17 0,qE 19 17 1,qS 5 6 18,zM 7 19] [6,7]) .ret) .skip)) (.seq (.kz [(qT 21 5 3,[]),(zM 22 1,[]),(zA 23 (.o6 1 (.t 22) (kI 0)),[1]),(qF 24 1 23,[1,2]),(q2 25 130 21 24,[0,1,2,3]),(zM 20 25,[0,1,2,3,4]),(qE 26 20 0,[0,1,2,3,4,5]),(qE 27 20 1,[0,1,2,3,4,5]),(zM 8 26,[0,1,2,3,4,5,6]),(zM 9 27,[0,1,2,3,4,5,6,7,8])] [1,2,3,6,8,9]) (.seq (.seq (.reg [zM 28 9,qO 29 28] [1,2,3,6,8,29]) (.cond (.t 29) (.seq (.reg [zA 30 (.build zN []),qS 5 6 30,qB 7 false] [6,7]) .ret) .skip)) (.seq (.kz [(qA 32 4 3,[]),(qF 33 1 32,[0]),(zM 34 8,[]),(qD 35 5 33 34,[0,1,2]),(qT 36 5 35,[0,1,2,3]),(zM 37 1,[]),(zA 38 (.sZ 1 (.t 37) (some (kI 1)) none),[5]),(zM 39 2,[]),(q3 40 126 36 38 39,[0,1,2,3,4,5,6,7]),(zM 31 40,[0,1,2,3,4,5,6,7,8]),(qE 41 31 0,[0,1,2,3,4,5,6,7,8,9]),(qE 42 31 1,[0,1,2,3,4,5,6,7,8,9]),(qZ 10 12,[]),(qS 5 10 41,[0,1,2,3,4,5,6,7,8,9,10,12]),(zM 9 42,[0,1,2,3,4,5,6,7,8,9,10,11,12,13])] [3,6,8,9,10]) (.seq (.seq (.reg [zM 43 9,qO 44 43] [3,6,8,10,44]) (.cond (.t 44) (.seq (.reg [zA 45 (.build zN []),qS 5 6 45,qB 7 false] [6,7]) .ret) .skip)) (.seq (.reg [qT 46 5 3,q1 47 83 46,qZ 11 13,qS 5 11 47] [6,8,10,11]) (.seq (.reg [qA 48 4 11,qF 49 1 48,zM 50 8,qT 51 5 10,qD 52 5 49 50,qS 5 52 51] [6,11]) (.seq (.reg [qT 53 5 11,qS 5 6 53,qB 7 true] [6,7]) .ret)))))))))
theorem K.dB:dO pZ 126 3 3 C.o8 [.cell 6 true 5,.tmp 7]=true:=by kernel_rfl
def C.iM:aO:=(.seq (.reg [qX 2 10 0,qZ 4 11,qB 5 false] [1,2,4]) (.seq (.seq (.reg [zM 6 1,qO 7 6,zM 8 7,zG 8 false 9 (.load true 5 (.t 2)),⟨(some (8,false)),some 10,.call 57 [.t 9]⟩,zG 8 false 11 (.not (.t 10)),qQ 12 8 11] [2,4,12]) (.cond (.t 12) (.seq (.reg [zA 13 (.build zN []),qS 5 4 13,qB 5 false] [4,5]) .ret) .skip)) (.seq (.reg [qT 14 5 2,qS 5 4 14,qB 5 true] [4,5]) .ret)))
theorem K.iM:dO pZ 125 2 0 C.iM [.cell 4 true 5,.tmp 5]=true:=by kernel_rfl
def C.cO:aO:=(.seq (.reg [qB 2 false] [0]) (.seq (.seq (.reg [zM 5 0,qL 6 5,zA 7 (.bin .gtr (.t 6) (kI 5))] [0,7]) (.cond (.t 7) (.seq (.reg [qB 2 false] [2]) .ret) .skip)) (.seq (.seq (.reg [zM 8 0,qL 9 8,qI 10 0] [8,9,10]) (.block 0 (.loop (.seq (.reg [zA 11 (.bin .lss (.t 10) (.t 9))] [8,9,10,11]) (.seq (.cond (.t 11) .skip (.exit 0)) (.seq (.block 1 (.seq (.reg [qD 12 1 8 10,qF 13 1 12,zM 4 13] [4,8,9,10]) (.seq (.reg [zM 14 4,q1 15 145 14,qO 16 15] [8,9,10,16]) (.cond (.t 16) (.seq (.reg [qB 2 false] [2]) .ret) .skip)))) (.reg [zA 17 (.bin .add (.t 10) (kI 1)),zM 10 17] [8,9,10]))))))) (.seq (.reg [qB 2 true] [2]) .ret))))
theorem K.cO:dO pZ 90 1 0 C.cO [.tmp 2]=true:=by kernel_rfl
def C.gY:aO:=(.seq (.reg [qX 3 10 0,qX 4 11 1,qX 5 12 2,qZ 6 13,qB 7 false] [3,4,5,6]) (.seq (.seq (.reg [qT 9 5 3,q1 10 57 9,qO 11 10,zM 12 11,zG 12 false 13 (.load false 1 (.t 4)),⟨(some (12,false)),some 14,.call 90 [.t 13]⟩,zG 12 false 15 (.not (.t 14)),qQ 16 12 15,zM 17 16,zG 17 false 18 (.load true 5 (.t 5)),⟨(some (17,false)),some 19,.call 57 [.t 18]⟩,zG 17 false 20 (.not (.t 19)),qQ 21 17 20] [3,4,5,6,21]) (.cond (.t 21) (.seq (.reg [zA 22 (.build zN []),qS 5 6 22,qB 7 false] [6,7]) .ret) .skip)) (.seq (.seq (.reg [qF 23 1 4,qL 24 23,zA 25 (.bin .eql (.t 24) (kI 0))] [3,4,5,6,25]) (.cond (.t 25) (.seq (.reg [qT 26 5 5,q1 27 83 26,qS 5 6 27,qB 7 true] [6,7]) .ret) .skip)) (.seq (.reg [qF 28 1 4,qL 29 28,zA 30 (.bin .sub (.t 29) (kI 1)),zA 8 (.alloc 14 [jH 0]),qU 1 8 30] [3,4,5,6,8]) (.seq (.kz [(qT 31 5 3,[]),(qF 32 1 4,[]),(qF 33 1 8,[]),(zA 34 (.sZ 1 (.t 32) none (some (.t 33))),[1,2]),(zA 35 (.Il 127 [.t 4,.t 8,.t 5]),[]),(q3 36 126 31 34 35,[0,1,2,3,4]),(qE 37 36 0,[0,1,2,3,4,5]),(qE 38 36 1,[0,1,2,3,4,5]),(q2 39 125 37 38,[0,1,2,3,4,5,6,7]),(qE 40 39 0,[0,1,2,3,4,5,6,7,8]),(qE 41 39 1,[0,1,2,3,4,5,6,7,8]),(qS 5 6 40,[0,1,2,3,4,5,6,7,8,9,10]),(zM 7 41,[0,1,2,3,4,5,6,7,8,9,10,11])] [6,7]) .ret)))))
theorem K.gY:dO pZ 71 3 0 C.gY [.cell 6 true 5,.tmp 7]=true:=by kernel_rfl
def C.dX:aO:=(.seq (.reg [qX 2 10 0,qZ 4 11,qB 5 false] [1,2,4]) (.seq (.seq (.reg [zM 10 1,qL 11 10,qI 12 0] [2,4,10,11,12]) (.block 0 (.loop (.seq (.reg [zA 13 (.bin .lss (.t 12) (.t 11))] [2,4,10,11,12,13]) (.seq (.cond (.t 13) .skip (.exit 0)) (.seq (.block 1 (.seq (.reg [qD 14 1 10 12,qF 15 1 14,zM 7 15] [2,4,7,10,11,12]) (.seq (.reg [qT 17 5 2,zM 18 7,q2 19 130 17 18,zM 16 19,qE 20 16 0,qE 21 16 1,zM 8 20,zM 9 21] [2,4,8,9,10,11,12]) (.seq (.seq (.reg [zM 22 9,qO 23 22] [2,4,8,10,11,12,23]) (.cond (.t 23) (.seq (.reg [zA 24 (.build zN []),qS 5 4 24,qB 5 false] [4,5]) .ret) .skip)) (.reg [qA 25 4 2,qF 26 1 25,zM 27 8,qD 28 5 26 27,qT 29 5 28,qS 5 2 29] [2,4,10,11,12]))))) (.reg [zA 30 (.bin .add (.t 12) (kI 1)),zM 12 30] [2,4,10,11,12]))))))) (.seq (.reg [qT 31 5 2,qS 5 4 31,qB 5 true] [4,5]) .ret)))
theorem K.dX:dO pZ 91 2 0 C.dX [.cell 4 true 5,.tmp 5]=true:=by kernel_rfl
def C.kH:aO:=(.seq (.reg [qX 2 10 0,qZ 4 11,qB 5 false] [1,2,4]) (.seq (.seq (.reg [qT 8 5 2,q1 9 57 8,qO 10 9,zM 11 10,zG 11 false 12 (.mv (.t 1)),⟨(some (11,false)),some 13,.call 90 [.t 12]⟩,zG 11 false 14 (.not (.t 13)),qQ 15 11 14] [1,2,4,15]) (.cond (.t 15) (.seq (.reg [zA 16 (.build zN []),qS 5 4 16,qB 5 false] [4,5]) .ret) .skip)) (.seq (.reg [qT 18 5 2,zM 19 1,q2 20 91 18 19,zM 17 20,qE 21 17 0,qE 22 17 1,qZ 6 12,qS 5 6 21,zM 7 22] [4,6,7]) (.seq (.seq (.reg [zM 23 7,qO 24 23] [4,6,24]) (.cond (.t 24) (.seq (.reg [zA 25 (.build zN []),qS 5 4 25,qB 5 false] [4,5]) .ret) .skip)) (.seq (.reg [qT 26 5 6,q1 27 83 26,qS 5 4 27,qB 5 true] [4,5]) .ret)))))
theorem K.kH:dO pZ 75 2 0 C.kH [.cell 4 true 5,.tmp 5]=true:=by kernel_rfl
def C.bU:aO:=(.seq (.reg [zA 6 (.mv (.k (.iL 5)))] [0,1,2]) (.seq (.reg [zM 8 0,zM 9 1,zM 10 2,zM 11 0,qL 12 11,zA 13 (.sl3 5 (.t 8) (.t 9) (.t 10) (.t 12))] [0,1,2]) (.seq (.seq (.reg [zM 14 1,zM 15 2,zA 16 (.bin .eql (.t 14) (.t 15))] [0,1,2,16]) (.cond (.t 16) (.seq (.reg [zM 17 0,zM 6 17] [6]) .ret) .skip)) (.seq (.reg [zM 18 0,qL 19 18,zM 7 19] [0,1,2,7]) (.seq (.kz [(zM 20 0,[]),(zM 21 1,[]),(zA 22 (.iK 5 (.t 20) none (some (.t 21))),[0,1]),(zM 23 0,[]),(zM 24 2,[]),(zA 25 (.iK 5 (.t 23) (some (.t 24)) none),[3,4]),(zA 26 (.Du 10 5 80 (.t 22) (.t 25)),[0,1,2,3,4,5]),(zM 0 26,[0,1,2,3,4,5,6])] [0,7]) (.seq (.reg [zM 27 0,zM 28 0,qL 29 28,zM 30 7,zA 31 (.iK 5 (.t 27) (some (.t 29)) (some (.t 30))),zS (.IK 5 [.lit (.int .i64 0),.lit (.int .i64 0),.str [],.sl 1 [],.sl 5 []] (.t 31))] [0]) (.seq (.reg [zM 32 0,zM 6 32] [6]) .ret)))))))
theorem K.bU:dO pZ 132 3 1 C.bU [.tmp 6]=true:=by kernel_rfl
def C.slices_Delete_string:aO:=(.seq (.reg [zA 6 (.mv (.k (.iL 1)))] [0,1,2]) (.seq (.reg [zM 8 0,zM 9 1,zM 10 2,zM 11 0,qL 12 11,zA 13 (.sl3 1 (.t 8) (.t 9) (.t 10) (.t 12))] [0,1,2]) (.seq (.seq (.reg [zM 14 1,zM 15 2,zA 16 (.bin .eql (.t 14) (.t 15))] [0,1,2,16]) (.cond (.t 16) (.seq (.reg [zM 17 0,zM 6 17] [6]) .ret) .skip)) (.seq (.reg [zM 18 0,qL 19 18,zM 7 19] [0,1,2,7]) (.seq (.kz [(zM 20 0,[]),(zM 21 1,[]),(zA 22 (.iK 1 (.t 20) none (some (.t 21))),[0,1]),(zM 23 0,[]),(zM 24 2,[]),(zA 25 (.iK 1 (.t 23) (some (.t 24)) none),[3,4]),(zA 26 (.Du 10 1 16 (.t 22) (.t 25)),[0,1,2,3,4,5]),(zM 0 26,[0,1,2,3,4,5,6])] [0,7]) (.seq (.reg [zM 27 0,zM 28 0,qL 29 28,zM 30 7,zA 31 (.iK 1 (.t 27) (some (.t 29)) (some (.t 30))),zS (.IK 1 [.str []] (.t 31))] [0]) (.seq (.reg [zM 32 0,zM 6 32] [6]) .ret)))))))
theorem K.slices_Delete_string:dO pZ 131 3 1 C.slices_Delete_string [.tmp 6]=true:=by kernel_rfl
def C.dh:aO:=(.seq (.reg [qX 3 10 0,qZ 4 11,qB 5 false] [1,2,3,4]) (.seq (.kz [(qT 10 5 3,[]),(qF 11 1 1,[]),(qF 12 1 2,[]),(qD 13 1 11 12,[1,2]),(qF 14 1 13,[1,2,3]),(q2 15 130 10 14,[0,1,2,3,4]),(zM 9 15,[0,1,2,3,4,5]),(qE 16 9 0,[0,1,2,3,4,5,6]),(qE 17 9 1,[0,1,2,3,4,5,6]),(zM 6 16,[0,1,2,3,4,5,6,7]),(zM 7 17,[0,1,2,3,4,5,6,7,8,9])] [3,4,6,7]) (.seq (.seq (.reg [zM 18 7,qO 19 18] [3,4,6,19]) (.cond (.t 19) (.seq (.reg [zA 20 (.build zN []),qS 5 4 20,qB 5 false] [4,5]) .ret) .skip)) (.seq (.reg [qT 21 5 3,q1 22 83 21,qZ 8 12,qS 5 8 22] [3,4,6,8]) (.cut (.seq (.reg [qA 23 0 3,qF 24 1 23,zA 25 (.bin .eql (.t 24) (kI 4))] [4,6,8,25]) (.cond (.t 25) (.reg [qA 26 3 8,qF 27 1 26,zM 28 6,zM 29 6,zA 30 (.bin .add (.t 29) (kI 1)),q3 31 131 27 28 30,qA 32 3 8,qU 1 32 31] [4,6,8]) .skip)) (.seq (.reg [qA 33 4 8,qF 34 1 33,zM 35 6,zM 36 6,zA 37 (.bin .add (.t 36) (kI 1)),q3 38 132 34 35 37,qA 39 4 8,qU 1 39 38] [4,8]) (.seq (.reg [qT 40 5 8,qS 5 4 40,qB 5 true] [4,5]) .ret)))))))
theorem K.dh:dO pZ 129 3 2 C.dh [.cell 4 true 5,.tmp 5]=true:=by kernel_rfl
theorem K.cu:dO pZ 126 3 2 C.o8 [.cell 6 true 5,.tmp 7]=true:=by kernel_rfl
def C.fJ:aO:=(.seq (.reg [qX 2 10 0,qX 3 11 1,qZ 4 12,qB 5 false] [2,3,4]) (.seq (.seq (.reg [qT 7 5 2,q1 8 57 7,qO 9 8,zM 10 9,zG 10 false 11 (.load false 1 (.t 3)),⟨(some (10,false)),some 12,.call 90 [.t 11]⟩,zG 10 false 13 (.not (.t 12)),qQ 14 10 13,zM 15 14,zG 15 false 16 (.load false 1 (.t 3)),zG 15 false 17 (.len (.t 16)),zG 15 false 18 (.bin .eql (.t 17) (kI 0)),qQ 19 15 18] [2,3,4,19]) (.cond (.t 19) (.seq (.reg [zA 20 (.build zN []),qS 5 4 20,qB 5 false] [4,5]) .ret) .skip)) (.seq (.reg [qF 21 1 3,qL 22 21,zA 23 (.bin .sub (.t 22) (kI 1)),zA 6 (.alloc 13 [jH 0]),qU 1 6 23] [2,3,4,6]) (.seq (.kz [(qT 24 5 2,[]),(qF 25 1 3,[]),(qF 26 1 6,[]),(zA 27 (.sZ 1 (.t 25) none (some (.t 26))),[1,2]),(zA 28 (.Il 129 [.t 3,.t 6]),[]),(q3 29 126 24 27 28,[0,1,2,3,4]),(qE 30 29 0,[0,1,2,3,4,5]),(qE 31 29 1,[0,1,2,3,4,5]),(qS 5 4 30,[0,1,2,3,4,5,6,7]),(zM 5 31,[0,1,2,3,4,5,6,7,8])] [4,5]) .ret))))
theorem K.fJ:dO pZ 72 2 0 C.fJ [.cell 4 true 5,.tmp 5]=true:=by kernel_rfl
def C.kS:aO:=(.seq (.reg [qX 2 10 0,qZ 3 11,qB 4 false] [1,3]) (.seq (.reg [qT 5 5 1,q1 6 83 5,qS 5 3 6,qB 4 true] [3,4]) .ret))
theorem K.kS:dO pZ 133 2 1 C.kS [.cell 3 true 5,.tmp 4]=true:=by kernel_rfl
theorem K.dD:dO pZ 126 3 1 C.o8 [.cell 6 true 5,.tmp 7]=true:=by kernel_rfl
def C.lC:aO:=(.seq (.reg [qX 3 10 0,qX 5 11 2,qZ 6 12,qB 7 false] [1,3,5,6]) (.seq (.seq (.reg [qT 8 5 3,q1 9 57 8,qO 10 9,zM 11 10,zG 11 false 12 (.mv (.t 1)),⟨(some (11,false)),some 13,.call 90 [.t 12]⟩,zG 11 false 14 (.not (.t 13)),qQ 15 11 14,zM 16 15,zG 16 false 17 (.load true 5 (.t 5)),⟨(some (16,false)),some 18,.call 57 [.t 17]⟩,zG 16 false 19 (.not (.t 18)),qQ 20 16 19] [1,3,5,6,20]) (.cond (.t 20) (.seq (.reg [zA 21 (.build zN []),qS 5 6 21,qB 7 false] [6,7]) .ret) .skip)) (.seq (.reg [qT 22 5 3,zM 23 1,zA 24 (.Il 133 [.t 5]),q3 25 126 22 23 24,qE 26 25 0,qE 27 25 1,q2 28 125 26 27,qE 29 28 0,qE 30 28 1,qS 5 6 29,zM 7 30] [6,7]) .ret)))
theorem K.lC:dO pZ 73 3 0 C.lC [.cell 6 true 5,.tmp 7]=true:=by kernel_rfl
def C.kV:aO:=(.seq (.reg [qX 1 10 0,qB 2 false] [1]) (.seq (.reg [qA 3 0 1,qF 4 1 3,zA 5 (.bin .geq (.t 4) (kI 1)),zM 6 5,zG 6 true 7 (.gX 0 (.t 1)),zG 6 true 8 (.load false 1 (.t 7)),zG 6 true 9 (.bin .leq (.t 8) (kI 6)),qP 10 6 9,zM 11 10,zG 11 true 12 (.gX 1 (.t 1)),zG 11 true 13 (.load false 1 (.t 12)),⟨(some (11,true)),some 14,.call 90 [.t 13]⟩,qP 15 11 14,zM 16 15,zG 16 true 17 (.gX 2 (.t 1)),zG 16 true 18 (.load false 1 (.t 17)),⟨(some (16,true)),some 19,.call 90 [.t 18]⟩,qP 20 16 19,zM 21 20,zG 21 true 22 (.gX 3 (.t 1)),zG 21 true 23 (.load true 5 (.t 22)),⟨(some (21,true)),some 24,.call 57 [.t 23]⟩,qP 25 21 24,zM 2 25] [2]) .ret))
theorem K.kV:dO pZ 70 1 0 C.kV [.tmp 2]=true:=by kernel_rfl
def C.slices_Equal_string:aO:=(.seq (.reg [qB 4 false] [0,1]) (.seq (.seq (.reg [zM 6 0,qL 7 6,zM 8 1,qL 9 8,zA 10 (.bin .neq (.t 7) (.t 9))] [0,1,10]) (.cond (.t 10) (.seq (.reg [qB 4 false] [4]) .ret) .skip)) (.seq (.seq (.reg [zM 11 0,qL 12 11,qI 13 0] [0,1,12,13]) (.block 0 (.loop (.seq (.reg [zA 14 (.bin .lss (.t 13) (.t 12))] [0,1,12,13,14]) (.seq (.cond (.t 14) .skip (.exit 0)) (.seq (.block 1 (.seq (.reg [zM 15 13,zM 5 15] [0,1,5,12,13]) (.seq (.kz [(zM 16 0,[]),(zM 17 5,[]),(qD 18 1 16 17,[0,1]),(qF 19 1 18,[0,1,2]),(zM 20 1,[]),(zM 21 5,[]),(qD 22 1 20 21,[4,5]),(qF 23 1 22,[4,5,6]),(zA 24 (.bin .neq (.t 19) (.t 23)),[0,1,2,3,4,5,6,7])] [0,1,12,13,24]) (.cond (.t 24) (.seq (.reg [qB 4 false] [4]) .ret) .skip)))) (.reg [zA 25 (.bin .add (.t 13) (kI 1)),zM 13 25] [0,1,12,13]))))))) (.seq (.reg [qB 4 true] [4]) .ret))))
theorem K.slices_Equal_string:dO pZ 134 2 0 C.slices_Equal_string [.tmp 4]=true:=by kernel_rfl
def C.kE:aO:=(.seq (.reg [qX 3 10 0,qZ 6 11,qB 7 false] [1,2,3,6]) (.seq (.reg [qT 12 5 3,zM 13 1,q2 14 75 12 13,zM 11 14,qE 15 11 0,qE 16 11 1,qZ 8 12,qS 5 8 15,zM 9 16] [1,2,3,6,8,9]) (.seq (.seq (.reg [zM 17 9,qO 18 17] [1,2,3,6,8,18]) (.cond (.t 18) (.seq (.reg [zA 19 (.build zN []),qS 5 6 19,qB 7 false] [6,7]) .ret) .skip)) (.seq (.seq (.reg [zM 20 2,zM 21 1,q2 22 134 20 21] [1,2,3,6,8,22]) (.cond (.t 22) (.seq (.reg [qT 23 5 3,q1 24 83 23,qS 5 6 24,qB 7 true] [6,7]) .ret) .skip)) (.seq (.seq (.reg [zM 25 2,qL 26 25,zM 27 1,qL 28 27,zA 29 (.bin .gtr (.t 26) (.t 28)),zM 30 29,zG 30 true 31 (.mv (.t 2)),zG 30 true 32 (.mv (.t 1)),zG 30 true 33 (.len (.t 32)),zG 30 true 34 (.sZ 1 (.t 31) none (some (.t 33))),zG 30 true 35 (.mv (.t 1)),⟨(some (30,true)),some 36,.call 134 [.t 34,.t 35]⟩,qP 37 30 36] [1,2,3,6,8,37]) (.cond (.t 37) (.seq (.reg [zA 38 (.build zN []),qS 5 6 38,qB 7 false] [6,7]) .ret) .skip)) (.seq (.reg [qT 40 5 3,zM 41 1,q2 42 72 40 41,zM 39 42,qE 43 39 0,qE 44 39 1,qZ 10 13,qS 5 10 43,zM 9 44] [2,6,8,9,10]) (.seq (.seq (.reg [zM 45 9,qO 46 45] [2,6,8,10,46]) (.cond (.t 46) (.seq (.reg [zA 47 (.build zN []),qS 5 6 47,qB 7 false] [6,7]) .ret) .skip)) (.seq (.reg [qT 48 5 10,zM 49 2,qT 50 5 8,q3 51 71 48 49 50,qE 52 51 0,qE 53 51 1,qS 5 6 52,zM 7 53] [6,7]) .ret))))))))
theorem K.kE:dO pZ 74 3 0 C.kE [.cell 6 true 5,.tmp 7]=true:=by kernel_rfl
def C.bT:aO:=(.seq (.reg [qI 4 0] [0,1]) (.seq (.reg [zM 5 0,zM 6 1,zA 7 (.Oo (.t 5) (.t 6)),zM 4 7] [4]) .ret))
theorem K.bT:dO pZ 149 2 0 C.bT [.tmp 4]=true:=by kernel_rfl
def C.strings_Compare:aO:=(.seq (.reg [qI 4 0] [0,1]) (.seq (.reg [zM 5 0,zM 6 1,q2 7 149 5 6,zM 4 7] [4]) .ret))
theorem K.strings_Compare:dO pZ 96 2 0 C.strings_Compare [.tmp 4]=true:=by kernel_rfl
def C.aJ:aO:=(.seq (.reg [qX 2 10 0,qX 3 11 1,qI 4 0] [2,3]) (.seq (.seq (.reg [qA 11 0 2,qF 12 1 11,qA 13 0 3,qF 14 1 13,q2 15 148 12 14,zM 5 15] [2,3,5]) (.seq (.reg [zM 16 5,zA 17 (.bin .neq (.t 16) (kI 0))] [2,3,5,17]) (.cond (.t 17) (.seq (.reg [zM 18 5,zM 4 18] [4]) .ret) .skip))) (.seq (.seq (.reg [qA 19 1 2,qF 20 1 19,qA 21 1 3,qF 22 1 21,q2 23 148 20 22,zM 6 23] [2,3,6]) (.seq (.reg [zM 24 6,zA 25 (.bin .neq (.t 24) (kI 0))] [2,3,6,25]) (.cond (.t 25) (.seq (.reg [zM 26 6,zM 4 26] [4]) .ret) .skip))) (.seq (.seq (.reg [qA 27 2 2,qF 28 1 27,qA 29 2 3,qF 30 1 29,q2 31 96 28 30,zM 7 31] [2,3,7]) (.seq (.reg [zM 32 7,zA 33 (.bin .neq (.t 32) (kI 0))] [2,3,7,33]) (.cond (.t 33) (.seq (.reg [zM 34 7,zM 4 34] [4]) .ret) .skip))) (.seq (.seq (.reg [qI 8 0] [2,3,8]) (.block 0 (.loop (.seq (.seq (.reg [zM 35 8,qA 36 4 2,qF 37 1 36,qL 38 37,zA 39 (.bin .lss (.t 35) (.t 38)),zM 40 39,zG 40 true 41 (.mv (.t 8)),zG 40 true 42 (.gX 4 (.t 3)),zG 40 true 43 (.load false 1 (.t 42)),zG 40 true 44 (.len (.t 43)),zG 40 true 45 (.bin .lss (.t 41) (.t 44)),qP 46 40 45] [2,3,8,46]) (.cond (.t 46) .skip (.exit 0))) (.seq (.block 1 (.cut (.seq (.reg [qA 49 0 2,qF 50 1 49,zA 51 (.bin .eql (.t 50) (kI 4))] [2,3,8,51]) (.cond (.t 51) (.seq (.kz [(qA 52 3 2,[]),(qF 53 1 52,[0]),(zM 54 8,[]),(qD 55 1 53 54,[0,1,2]),(qF 56 1 55,[0,1,2,3]),(qA 57 3 3,[]),(qF 58 1 57,[5]),(zM 59 8,[]),(qD 60 1 58 59,[5,6,7]),(qF 61 1 60,[5,6,7,8]),(q2 62 96 56 61,[0,1,2,3,4,5,6,7,8,9]),(zM 9 62,[0,1,2,3,4,5,6,7,8,9,10])] [2,3,8,9]) (.seq (.reg [zM 63 9,zA 64 (.bin .neq (.t 63) (kI 0))] [2,3,8,9,64]) (.cond (.t 64) (.seq (.reg [zM 65 9,zM 4 65] [4]) .ret) .skip))) .skip)) (.seq (.kz [(qA 66 4 2,[]),(qF 67 1 66,[0]),(zM 68 8,[]),(qD 69 5 67 68,[0,1,2]),(qT 70 5 69,[0,1,2,3]),(qA 71 4 3,[]),(qF 72 1 71,[5]),(zM 73 8,[]),(qD 74 5 72 73,[5,6,7]),(qT 75 5 74,[5,6,7,8]),(q2 76 95 70 75,[0,1,2,3,4,5,6,7,8,9]),(zM 10 76,[0,1,2,3,4,5,6,7,8,9,10])] [2,3,8,10]) (.seq (.reg [zM 77 10,zA 78 (.bin .neq (.t 77) (kI 0))] [2,3,8,10,78]) (.cond (.t 78) (.seq (.reg [zM 79 10,zM 4 79] [4]) .ret) .skip))))) (.reg [zM 47 8,zA 48 (.bin .add (.t 47) (kI 1)),zM 8 48] [2,3,8])))))) (.seq (.reg [qA 80 4 2,qF 81 1 80,qL 82 81,qA 83 4 3,qF 84 1 83,qL 85 84,q2 86 148 82 85,zM 4 86] [4]) .ret))))))
theorem K.aJ:dO pZ 95 2 0 C.aJ [.tmp 4]=true:=by kernel_rfl
def C.kF:aO:=(.seq (.reg [qX 2 10 0,qX 3 11 1,qB 4 false] [2,3]) (.seq (.reg [qT 5 5 2,qT 6 5 3,q2 7 95 5 6,zA 8 (.bin .eql (.t 7) (kI 0)),zM 4 8] [4]) .ret))
theorem K.kF:dO pZ 82 2 0 C.kF [.tmp 4]=true:=by kernel_rfl
def C.jJ:aO:=(.seq (.reg [qX 3 10 0,qX 5 11 2,qZ 6 12,qB 7 false] [1,3,5,6]) (.seq (.reg [qT 11 5 3,zM 12 1,q2 13 91 11 12,zM 10 13,qE 14 10 0,qE 15 10 1,qZ 8 13,qS 5 8 14,zM 9 15] [3,5,6,8,9]) (.seq (.seq (.reg [zM 16 9,qO 17 16,zM 18 17,zG 18 false 19 (.load true 5 (.t 8)),zG 18 false 20 (.load true 5 (.t 5)),⟨(some (18,false)),some 21,.call 82 [.t 19,.t 20]⟩,zG 18 false 22 (.not (.t 21)),qQ 23 18 22] [3,6,23]) (.cond (.t 23) (.seq (.reg [zA 24 (.build zN []),qS 5 6 24,qB 7 false] [6,7]) .ret) .skip)) (.seq (.reg [qT 25 5 3,q1 26 83 25,qS 5 6 26,qB 7 true] [6,7]) .ret))))
theorem K.jJ:dO pZ 76 3 0 C.jJ [.cell 6 true 5,.tmp 7]=true:=by kernel_rfl
def C.lg:aO:=(.seq (.reg [qX 2 10 0,qX 3 11 1,qZ 4 12,qB 5 false] [2,3,4]) (.seq (.seq (.reg [qT 8 5 2,q1 9 57 8,qO 10 9,zM 11 10,zG 11 false 12 (.load true 8 (.t 3)),⟨(some (11,false)),some 13,.call 70 [.t 12]⟩,zG 11 false 14 (.not (.t 13)),qQ 15 11 14] [2,3,4,15]) (.cond (.t 15) (.seq (.reg [zA 16 (.build zN []),qS 5 4 16,qB 5 false] [4,5]) .ret) .skip)) (.seq (.seq (.reg [qA 17 0 3,qF 18 1 17] [2,3,4,18]) (.block 0 (.seq (.reg [zA 20 (.bin .eql (.t 18) (kI 1)),zM 19 20] [2,3,4,18,19]) (.cond (.t 19) (.seq (.reg [qT 21 5 2,qA 22 1 3,qF 23 1 22,qA 24 3 3,qT 25 5 24,q3 26 71 21 23 25,qE 27 26 0,qE 28 26 1,qS 5 4 27,zM 5 28] [4,5]) .ret) (.seq (.reg [zA 30 (.bin .eql (.t 18) (kI 2)),zM 29 30] [2,3,4,18,29]) (.cond (.t 29) (.seq (.reg [qT 31 5 2,qA 32 1 3,qF 33 1 32,q2 34 72 31 33,qE 35 34 0,qE 36 34 1,qS 5 4 35,zM 5 36] [4,5]) .ret) (.seq (.reg [zA 38 (.bin .eql (.t 18) (kI 3)),zM 37 38] [2,3,4,18,37]) (.cond (.t 37) (.seq (.reg [qT 39 5 2,qA 40 1 3,qF 41 1 40,qA 42 3 3,qT 43 5 42,q3 44 73 39 41 43,qE 45 44 0,qE 46 44 1,qS 5 4 45,zM 5 46] [4,5]) .ret) (.seq (.reg [zA 48 (.bin .eql (.t 18) (kI 4)),zM 47 48] [2,3,4,18,47]) (.cond (.t 47) (.seq (.reg [qT 49 5 2,qA 50 2 3,qF 51 1 50,qA 52 1 3,qF 53 1 52,q3 54 74 49 51 53,qE 55 54 0,qE 56 54 1,qS 5 4 55,zM 5 56] [4,5]) .ret) (.seq (.reg [zA 58 (.bin .eql (.t 18) (kI 5)),zM 57 58] [2,3,4,57]) (.cond (.t 57) (.seq (.reg [qT 60 5 2,qA 61 2 3,qF 62 1 61,q2 63 75 60 62,zM 59 63,qE 64 59 0,qE 65 59 1,qZ 6 13,qS 5 6 64,zM 7 65] [2,3,4,6,7]) (.seq (.seq (.reg [zM 66 7,qO 67 66] [2,3,4,6,67]) (.cond (.t 67) (.seq (.reg [zA 68 (.build zN []),qS 5 4 68,qB 5 false] [4,5]) .ret) .skip)) (.seq (.reg [qT 69 5 2,qA 70 1 3,qF 71 1 70,qT 72 5 6,q3 73 71 69 71 72,qE 74 73 0,qE 75 73 1,qS 5 4 74,zM 5 75] [4,5]) .ret))) .skip)))))))))))) (.seq (.reg [qT 76 5 2,qA 77 1 3,qF 78 1 77,qA 79 3 3,qT 80 5 79,q3 81 76 76 78 80,qE 82 81 0,qE 83 81 1,qS 5 4 82,zM 5 83] [4,5]) .ret))))
theorem K.lg:dO pZ 29 2 0 C.lg [.cell 4 true 5,.tmp 5]=true:=by kernel_rfl
def C.aT:aO:=(.seq (.reg [qB 2 false] [0]) (.seq (.seq (.reg [zM 5 0,qL 6 5,zA 7 (.bin .gtr (.t 6) (kI 12))] [0,7]) (.cond (.t 7) (.seq (.reg [qB 2 false] [2]) .ret) .skip)) (.seq (.seq (.reg [zM 8 0,qL 9 8,qI 10 0] [8,9,10]) (.block 0 (.loop (.seq (.reg [zA 11 (.bin .lss (.t 10) (.t 9))] [8,9,10,11]) (.seq (.cond (.t 11) .skip (.exit 0)) (.seq (.block 1 (.seq (.reg [qD 12 8 8 10,qT 13 8 12,zA 4 (.alloc 10 [jH 0,.iL 1,.iL 1,jH 0,jH 0,.c (.str []),.iL 1,.iL 5]),qS 8 4 13] [4,8,9,10]) (.seq (.reg [qT 14 8 4,q1 15 70 14,qO 16 15] [8,9,10,16]) (.cond (.t 16) (.seq (.reg [qB 2 false] [2]) .ret) .skip)))) (.reg [zA 17 (.bin .add (.t 10) (kI 1)),zM 10 17] [8,9,10]))))))) (.seq (.reg [qB 2 true] [2]) .ret))))
theorem K.aT:dO pZ 58 1 0 C.aT [.tmp 2]=true:=by kernel_rfl
def C.dY:aO:=(.seq (.reg [qX 2 10 0,qZ 4 11,qI 5 0] [1,2,4]) (.seq (.reg [qT 11 5 2,q1 12 83 11,qZ 6 12,qS 5 6 12] [1,4,6]) (.seq (.seq (.reg [zM 13 1,qL 14 13,qI 15 0] [1,4,6,13,14,15]) (.block 0 (.loop (.seq (.reg [zA 16 (.bin .lss (.t 15) (.t 14))] [1,4,6,13,14,15,16]) (.seq (.cond (.t 16) .skip (.exit 0)) (.seq (.block 1 (.seq (.reg [zM 17 15,qD 18 8 13 15,qT 19 8 18,zA 8 (.alloc 13 [jH 0,.iL 1,.iL 1,jH 0,jH 0,.c (.str []),.iL 1,.iL 5]),zM 7 17,qS 8 8 19] [1,4,6,7,8,13,14,15]) (.seq (.reg [qT 21 5 6,qT 22 8 8,q2 23 29 21 22,zM 20 23,qE 24 20 0,qE 25 20 1,qZ 9 14,qS 5 9 24,zM 10 25] [1,4,6,7,9,10,13,14,15]) (.seq (.seq (.reg [zM 26 10,qO 27 26] [1,4,6,7,9,13,14,15,27]) (.cond (.t 27) (.seq (.reg [zA 28 (.build zN []),zM 29 7,qS 5 4 28,zM 5 29] [4,5]) .ret) .skip)) (.reg [qT 30 5 9,qS 5 6 30] [1,4,6,13,14,15]))))) (.reg [zA 31 (.bin .add (.t 15) (kI 1)),zM 15 31] [1,4,6,13,14,15]))))))) (.seq (.reg [qT 32 5 6,zM 33 1,qL 34 33,qS 5 4 32,zM 5 34] [4,5]) .ret))))
theorem K.dY:dO pZ 59 2 0 C.dY [.cell 4 true 5,.tmp 5]=true:=by kernel_rfl
def C.dM:aO:=(.seq (.reg [qB 4 false] [0,1]) (.seq (.seq (.reg [zM 6 0,qL 7 6,zM 8 1,qL 9 8,zA 10 (.bin .neq (.t 7) (.t 9))] [0,1,10]) (.cond (.t 10) (.seq (.reg [qB 4 false] [4]) .ret) .skip)) (.seq (.seq (.reg [qI 5 0] [0,1,5]) (.block 0 (.loop (.seq (.seq (.reg [zM 11 5,zM 12 0,qL 13 12,zA 14 (.bin .lss (.t 11) (.t 13))] [0,1,5,14]) (.cond (.t 14) .skip (.exit 0))) (.seq (.block 1 (.seq (.kz [(zM 17 0,[]),(zM 18 5,[]),(qD 19 1 17 18,[0,1]),(qF 20 1 19,[0,1,2]),(zM 21 1,[]),(zM 22 5,[]),(qD 23 1 21 22,[4,5]),(qF 24 1 23,[4,5,6]),(zA 25 (.bin .neq (.t 20) (.t 24)),[0,1,2,3,4,5,6,7])] [0,1,5,25]) (.cond (.t 25) (.seq (.reg [qB 4 false] [4]) .ret) .skip))) (.reg [zM 15 5,zA 16 (.bin .add (.t 15) (kI 1)),zM 5 16] [0,1,5])))))) (.seq (.reg [qB 4 true] [4]) .ret))))
theorem K.dM:dO pZ 47 2 0 C.dM [.tmp 4]=true:=by kernel_rfl
def C.jh:aO:=(.seq (.reg [qX 2 10 0,qX 3 11 1,qB 4 false] [2,3]) (.seq (.seq (.reg [qA 5 0 2,qF 6 1 5,qA 7 0 3,qF 8 1 7,zA 9 (.bin .neq (.t 6) (.t 8))] [2,3,9]) (.cond (.t 9) (.seq (.reg [qB 4 false] [4]) .ret) .skip)) (.seq (.seq (.reg [qA 10 1 2,qF 11 1 10,qA 12 1 3,qF 13 1 12,zA 14 (.bin .neq (.t 11) (.t 13))] [2,3,14]) (.cond (.t 14) (.seq (.reg [qB 4 false] [4]) .ret) .skip)) (.seq (.seq (.reg [qA 15 2 2,qF 16 1 15,qA 17 2 3,qF 18 1 17,zA 19 (.bin .neq (.t 16) (.t 18))] [2,3,19]) (.cond (.t 19) (.seq (.reg [qB 4 false] [4]) .ret) .skip)) (.seq (.seq (.reg [qA 20 3 2,qF 21 1 20,qA 22 3 3,qF 23 1 22,q2 24 47 21 23,qO 25 24] [2,3,25]) (.cond (.t 25) (.seq (.reg [qB 4 false] [4]) .ret) .skip)) (.seq (.seq (.reg [qA 26 4 2,qF 27 1 26,qA 28 4 3,qF 29 1 28,q2 30 60 27 29,qO 31 30] [31]) (.cond (.t 31) (.seq (.reg [qB 4 false] [4]) .ret) .skip)) (.seq (.reg [qB 4 true] [4]) .ret)))))))
theorem K.jh:dO pZ 16 2 0 C.jh [.tmp 4]=true:=by kernel_rfl
def C.jb:aO:=(.seq (.reg [qB 4 false] [0,1]) (.seq (.seq (.reg [zM 6 0,qL 7 6,zM 8 1,qL 9 8,zA 10 (.bin .neq (.t 7) (.t 9))] [0,1,10]) (.cond (.t 10) (.seq (.reg [qB 4 false] [4]) .ret) .skip)) (.seq (.seq (.reg [qI 5 0] [0,1,5]) (.block 0 (.loop (.seq (.seq (.reg [zM 11 5,zM 12 0,qL 13 12,zA 14 (.bin .lss (.t 11) (.t 13))] [0,1,5,14]) (.cond (.t 14) .skip (.exit 0))) (.seq (.block 1 (.seq (.kz [(zM 17 0,[]),(zM 18 5,[]),(qD 19 5 17 18,[0,1]),(qT 20 5 19,[0,1,2]),(zM 21 1,[]),(zM 22 5,[]),(qD 23 5 21 22,[4,5]),(qT 24 5 23,[4,5,6]),(q2 25 16 20 24,[0,1,2,3,4,5,6,7]),(qO 26 25,[0,1,2,3,4,5,6,7,8])] [0,1,5,26]) (.cond (.t 26) (.seq (.reg [qB 4 false] [4]) .ret) .skip))) (.reg [zM 15 5,zA 16 (.bin .add (.t 15) (kI 1)),zM 5 16] [0,1,5])))))) (.seq (.reg [qB 4 true] [4]) .ret))))
theorem K.jb:dO pZ 60 2 0 C.jb [.tmp 4]=true:=by kernel_rfl
def C.nZ:aO:=(.seq (.reg [qX 2 10 0,qX 3 11 1,qB 4 false] [2,3]) (.seq (.seq (.reg [qA 5 0 2,qF 6 1 5,qA 7 0 3,qF 8 1 7,zA 9 (.bin .neq (.t 6) (.t 8))] [2,3,9]) (.cond (.t 9) (.seq (.reg [qB 4 false] [4]) .ret) .skip)) (.seq (.seq (.reg [qA 10 1 2,qF 11 1 10,qA 12 1 3,qF 13 1 12,q2 14 47 11 13,qO 15 14] [2,3,15]) (.cond (.t 15) (.seq (.reg [qB 4 false] [4]) .ret) .skip)) (.seq (.seq (.reg [qA 16 2 2,qF 17 1 16,qA 18 2 3,qF 19 1 18,q2 20 47 17 19,qO 21 20] [2,3,21]) (.cond (.t 21) (.seq (.reg [qB 4 false] [4]) .ret) .skip)) (.seq (.seq (.reg [qA 22 3 2,qT 23 5 22,qA 24 3 3,qT 25 5 24,q2 26 16 23 25,qO 27 26] [27]) (.cond (.t 27) (.seq (.reg [qB 4 false] [4]) .ret) .skip)) (.seq (.reg [qB 4 true] [4]) .ret))))))
theorem K.nZ:dO pZ 30 2 0 C.nZ [.tmp 4]=true:=by kernel_rfl
def C.jv:aO:=(.seq (.reg [qB 4 false] [0,1]) (.seq (.seq (.reg [zM 6 0,qL 7 6,zM 8 1,qL 9 8,zA 10 (.bin .neq (.t 7) (.t 9))] [0,1,10]) (.cond (.t 10) (.seq (.reg [qB 4 false] [4]) .ret) .skip)) (.seq (.seq (.reg [qI 5 0] [0,1,5]) (.block 0 (.loop (.seq (.seq (.reg [zM 11 5,zM 12 0,qL 13 12,zA 14 (.bin .lss (.t 11) (.t 13))] [0,1,5,14]) (.cond (.t 14) .skip (.exit 0))) (.seq (.block 1 (.seq (.kz [(zM 17 0,[]),(zM 18 5,[]),(qD 19 8 17 18,[0,1]),(qT 20 8 19,[0,1,2]),(zM 21 1,[]),(zM 22 5,[]),(qD 23 8 21 22,[4,5]),(qT 24 8 23,[4,5,6]),(q2 25 30 20 24,[0,1,2,3,4,5,6,7]),(qO 26 25,[0,1,2,3,4,5,6,7,8])] [0,1,5,26]) (.cond (.t 26) (.seq (.reg [qB 4 false] [4]) .ret) .skip))) (.reg [zM 15 5,zA 16 (.bin .add (.t 15) (kI 1)),zM 5 16] [0,1,5])))))) (.seq (.reg [qB 4 true] [4]) .ret))))
theorem K.jv:dO pZ 17 2 0 C.jv [.tmp 4]=true:=by kernel_rfl
def C.dm:aO:=(.seq (.reg [qI 4 0] [0,1]) (.seq (.reg [zM 6 1,zM 7 0,qL 8 7,zA 9 (.bin .sub (.t 6) (.t 8)),zM 1 9] [0,1]) (.seq (.seq (.reg [zM 10 1,zA 11 (.bin .lss (.t 10) (kI 0))] [0,1,11]) (.cond (.t 11) (.seq (.reg [qI 4 (-1)] [4]) .ret) .skip)) (.seq (.seq (.reg [qI 5 0] [0,1,5]) (.block 0 (.loop (.seq (.seq (.reg [zM 12 5,zM 13 0,qL 14 13,zA 15 (.bin .lss (.t 12) (.t 14))] [0,1,5,15]) (.cond (.t 15) .skip (.exit 0))) (.seq (.block 1 (.seq (.reg [zM 18 1,zM 19 0,zM 20 5,qD 21 1 19 20,qF 22 1 21,zA 23 (.lens (.t 22)),zA 24 (.bin .sub (.t 18) (.t 23)),zM 1 24] [0,1,5]) (.seq (.reg [zM 25 1,zA 26 (.bin .lss (.t 25) (kI 0))] [0,1,5,26]) (.cond (.t 26) (.seq (.reg [qI 4 (-1)] [4]) .ret) .skip)))) (.reg [zM 16 5,zA 17 (.bin .add (.t 16) (kI 1)),zM 5 17] [0,1,5])))))) (.seq (.reg [zM 27 1,zM 4 27] [4]) .ret)))))
theorem K.dm:dO pZ 42 2 0 C.dm [.tmp 4]=true:=by kernel_rfl
def C.iy:aO:=(.seq (.reg [qX 2 10 0,qI 4 0] [1,2]) (.seq (.reg [zM 5 1,qA 6 2 2,qF 7 1 6,zA 8 (.lens (.t 7)),zA 9 (.bin .sub (.t 5) (.t 8)),zM 1 9] [1,2]) (.seq (.seq (.reg [zM 10 1,zA 11 (.bin .lss (.t 10) (kI 0))] [1,2,11]) (.cond (.t 11) (.seq (.reg [qI 4 (-1)] [4]) .ret) .skip)) (.seq (.reg [qA 12 3 2,qF 13 1 12,zM 14 1,q2 15 42 13 14,zM 1 15] [1,2]) (.seq (.seq (.reg [zM 16 1,zA 17 (.bin .lss (.t 16) (kI 0))] [1,2,17]) (.cond (.t 17) (.seq (.reg [qI 4 (-1)] [4]) .ret) .skip)) (.seq (.reg [qA 18 4 2,qF 19 1 18,zM 20 1,q2 21 52 19 20,zM 1 21] [1]) (.seq (.seq (.reg [zM 22 1,zA 23 (.bin .lss (.t 22) (kI 0))] [1,23]) (.cond (.t 23) (.seq (.reg [qI 4 (-1)] [4]) .ret) .skip)) (.seq (.reg [zM 24 1,zM 4 24] [4]) .ret))))))))
theorem K.iy:dO pZ 10 2 0 C.iy [.tmp 4]=true:=by kernel_rfl
def C.ig:aO:=(.seq (.reg [qI 4 0] [0,1]) (.seq (.reg [zM 6 1,zM 7 0,qL 8 7,zA 9 (.bin .sub (.t 6) (.t 8)),zM 1 9] [0,1]) (.seq (.seq (.reg [zM 10 1,zA 11 (.bin .lss (.t 10) (kI 0))] [0,1,11]) (.cond (.t 11) (.seq (.reg [qI 4 (-1)] [4]) .ret) .skip)) (.seq (.seq (.reg [qI 5 0] [0,1,5]) (.block 0 (.loop (.seq (.seq (.reg [zM 12 5,zM 13 0,qL 14 13,zA 15 (.bin .lss (.t 12) (.t 14))] [0,1,5,15]) (.cond (.t 15) .skip (.exit 0))) (.seq (.block 1 (.seq (.reg [zM 18 0,zM 19 5,qD 20 5 18 19,qT 21 5 20,zM 22 1,q2 23 10 21 22,zM 1 23] [0,1,5]) (.seq (.reg [zM 24 1,zA 25 (.bin .lss (.t 24) (kI 0))] [0,1,5,25]) (.cond (.t 25) (.seq (.reg [qI 4 (-1)] [4]) .ret) .skip)))) (.reg [zM 16 5,zA 17 (.bin .add (.t 16) (kI 1)),zM 5 17] [0,1,5])))))) (.seq (.reg [zM 26 1,zM 4 26] [4]) .ret)))))
theorem K.ig:dO pZ 52 2 0 C.ig [.tmp 4]=true:=by kernel_rfl
def C.mP:aO:=(.seq (.reg [qX 2 10 0,qI 4 0] [1,2]) (.seq (.reg [qA 5 1 2,qF 6 1 5,zM 7 1,q2 8 42 6 7,zM 1 8] [1,2]) (.seq (.seq (.reg [zM 9 1,zA 10 (.bin .lss (.t 9) (kI 0))] [1,2,10]) (.cond (.t 10) (.seq (.reg [qI 4 (-1)] [4]) .ret) .skip)) (.seq (.reg [qA 11 2 2,qF 12 1 11,zM 13 1,q2 14 42 12 13,zM 1 14] [1,2]) (.seq (.seq (.reg [zM 15 1,zA 16 (.bin .lss (.t 15) (kI 0))] [1,2,16]) (.cond (.t 16) (.seq (.reg [qI 4 (-1)] [4]) .ret) .skip)) (.seq (.reg [qA 17 3 2,qT 18 5 17,zM 19 1,q2 20 10 18 19,zM 1 20] [1]) (.seq (.seq (.reg [zM 21 1,zA 22 (.bin .lss (.t 21) (kI 0))] [1,22]) (.cond (.t 22) (.seq (.reg [qI 4 (-1)] [4]) .ret) .skip)) (.seq (.reg [zM 23 1,zM 4 23] [4]) .ret))))))))
theorem K.mP:dO pZ 26 2 0 C.mP [.tmp 4]=true:=by kernel_rfl
def C.iR:aO:=(.seq (.reg [qI 4 0] [0,1]) (.seq (.reg [zM 6 1,zM 7 0,qL 8 7,zA 9 (.bin .sub (.t 6) (.t 8)),zM 1 9] [0,1]) (.seq (.seq (.reg [zM 10 1,zA 11 (.bin .lss (.t 10) (kI 0))] [0,1,11]) (.cond (.t 11) (.seq (.reg [qI 4 (-1)] [4]) .ret) .skip)) (.seq (.seq (.reg [qI 5 0] [0,1,5]) (.block 0 (.loop (.seq (.seq (.reg [zM 12 5,zM 13 0,qL 14 13,zA 15 (.bin .lss (.t 12) (.t 14))] [0,1,5,15]) (.cond (.t 15) .skip (.exit 0))) (.seq (.block 1 (.seq (.reg [zM 18 0,zM 19 5,qD 20 8 18 19,qT 21 8 20,zM 22 1,q2 23 26 21 22,zM 1 23] [0,1,5]) (.seq (.reg [zM 24 1,zA 25 (.bin .lss (.t 24) (kI 0))] [0,1,5,25]) (.cond (.t 25) (.seq (.reg [qI 4 (-1)] [4]) .ret) .skip)))) (.reg [zM 16 5,zA 17 (.bin .add (.t 16) (kI 1)),zM 5 17] [0,1,5])))))) (.seq (.reg [zM 26 1,zM 4 26] [4]) .ret)))))
theorem K.iR:dO pZ 11 2 0 C.iR [.tmp 4]=true:=by kernel_rfl
def C.dN:aO:=(.seq (.reg [zA 2 (.mv (.k (.iL 1)))] [0]) (.seq (.reg [zM 5 0,qL 6 5,zA 7 (.makes 10 1 16 [.str []] (.t 6) (.t 6)),zM 3 7] [0,3]) (.seq (.seq (.reg [qI 4 0] [0,3,4]) (.block 0 (.loop (.seq (.seq (.reg [zM 8 4,zM 9 0,qL 10 9,zA 11 (.bin .lss (.t 8) (.t 10))] [0,3,4,11]) (.cond (.t 11) .skip (.exit 0))) (.seq (.block 1 (.reg [zM 14 3,zM 15 4,zM 16 0,zM 17 4,qD 18 1 16 17,qF 19 1 18,qD 20 1 14 15,qU 1 20 19] [0,3,4])) (.reg [zM 12 4,zA 13 (.bin .add (.t 12) (kI 1)),zM 4 13] [0,3,4])))))) (.seq (.reg [zM 21 3,zM 2 21] [2]) .ret))))
theorem K.dN:dO pZ 44 1 0 C.dN [.tmp 2]=true:=by kernel_rfl
def C.iD:aO:=(.seq (.reg [qX 1 10 0,qZ 2 11] [1,2]) (.seq (.reg [qZ 3 12] [1,2,3]) (.seq (.reg [qA 4 0 1,qF 5 1 4,qA 6 0 3,qU 1 6 5] [1,2,3]) (.seq (.reg [qA 7 1 1,qF 8 1 7,qA 9 1 3,qU 1 9 8] [1,2,3]) (.seq (.reg [qA 10 2 1,qF 11 1 10,qA 12 2 3,qU 1 12 11] [1,2,3]) (.seq (.reg [qA 13 3 1,qF 14 1 13,q1 15 44 14,qA 16 3 3,qU 1 16 15] [1,2,3]) (.seq (.reg [qA 17 4 1,qF 18 1 17,q1 19 56 18,qA 20 4 3,qU 1 20 19] [2,3]) (.seq (.reg [qT 21 5 3,qS 5 2 21] [2]) .ret))))))))
theorem K.iD:dO pZ 13 1 0 C.iD [.cell 2 true 5]=true:=by kernel_rfl
def C.jc:aO:=(.seq (.reg [zA 2 (.mv (.k (.iL 5)))] [0]) (.seq (.reg [zM 5 0,qL 6 5,zA 7 (.makes 10 5 80 [.lit (.int .i64 0),.lit (.int .i64 0),.str [],.sl 1 [],.sl 5 []] (.t 6) (.t 6)),zM 3 7] [0,3]) (.seq (.seq (.reg [qI 4 0] [0,3,4]) (.block 0 (.loop (.seq (.seq (.reg [zM 8 4,zM 9 0,qL 10 9,zA 11 (.bin .lss (.t 8) (.t 10))] [0,3,4,11]) (.cond (.t 11) .skip (.exit 0))) (.seq (.block 1 (.reg [zM 14 3,zM 15 4,zM 16 0,zM 17 4,qD 18 5 16 17,qT 19 5 18,q1 20 13 19,qD 21 5 14 15,qS 5 21 20] [0,3,4])) (.reg [zM 12 4,zA 13 (.bin .add (.t 12) (kI 1)),zM 4 13] [0,3,4])))))) (.seq (.reg [zM 22 3,zM 2 22] [2]) .ret))))
theorem K.jc:dO pZ 56 1 0 C.jc [.tmp 2]=true:=by kernel_rfl
def C.og:aO:=(.seq (.reg [qX 1 10 0,zA 2 (.alloc 11 [jH 0,.iL 1,.iL 1,jH 0,jH 0,.c (.str []),.iL 1,.iL 5])] [1,2]) (.seq (.reg [zA 3 (.alloc 12 [jH 0,.iL 1,.iL 1,jH 0,jH 0,.c (.str []),.iL 1,.iL 5])] [1,2,3]) (.seq (.reg [qA 4 0 1,qF 5 1 4,qA 6 0 3,qU 1 6 5] [1,2,3]) (.seq (.reg [qA 7 1 1,qF 8 1 7,q1 9 44 8,qA 10 1 3,qU 1 10 9] [1,2,3]) (.seq (.reg [qA 11 2 1,qF 12 1 11,q1 13 44 12,qA 14 2 3,qU 1 14 13] [1,2,3]) (.seq (.reg [qA 15 3 1,qT 16 5 15,q1 17 13 16,qA 18 3 3,qS 5 18 17] [2,3]) (.seq (.reg [qT 19 8 3,qS 8 2 19] [2]) .ret)))))))
theorem K.og:dO pZ 28 1 0 C.og [.cell 2 true 8]=true:=by kernel_rfl
def C.iT:aO:=(.seq (.reg [zA 2 (.mv (.k (.iL 8)))] [0]) (.seq (.reg [zM 5 0,qL 6 5,zA 7 (.makes 10 8 136 [.lit (.int .i64 0),.sl 1 [],.sl 1 [],.lit (.int .i64 0),.lit (.int .i64 0),.str [],.sl 1 [],.sl 5 []] (.t 6) (.t 6)),zM 3 7] [0,3]) (.seq (.seq (.reg [qI 4 0] [0,3,4]) (.block 0 (.loop (.seq (.seq (.reg [zM 8 4,zM 9 0,qL 10 9,zA 11 (.bin .lss (.t 8) (.t 10))] [0,3,4,11]) (.cond (.t 11) .skip (.exit 0))) (.seq (.block 1 (.reg [zM 14 3,zM 15 4,zM 16 0,zM 17 4,qD 18 8 16 17,qT 19 8 18,q1 20 28 19,qD 21 8 14 15,qS 8 21 20] [0,3,4])) (.reg [zM 12 4,zA 13 (.bin .add (.t 12) (kI 1)),zM 4 13] [0,3,4])))))) (.seq (.reg [zM 22 3,zM 2 22] [2]) .ret))))
theorem K.iT:dO pZ 14 1 0 C.iT [.tmp 2]=true:=by kernel_rfl
def C.ay:aO:=(.seq (.reg [qX 1 10 0,qZ 2 11] [1,2]) (.seq (.reg [zA 5 (.kX 12 5 0 [.lit (.int .i64 0),.lit (.int .i64 0),.str [],.sl 1 [],.sl 5 []] []),zM 3 5] [1,2,3]) (.seq (.seq (.reg [qI 4 0] [1,2,3,4]) (.block 0 (.loop (.seq (.seq (.reg [zM 6 4,qA 7 4 1,qF 8 1 7,qL 9 8,zA 10 (.bin .lss (.t 6) (.t 9))] [1,2,3,4,10]) (.cond (.t 10) .skip (.exit 0))) (.seq (.block 1 (.reg [zM 13 3,qA 14 4 1,qF 15 1 14,zM 16 4,qD 17 5 15 16,qT 18 5 17,q1 19 81 18,zA 20 (.kX 13 5 1 [.lit (.int .i64 0),.lit (.int .i64 0),.str [],.sl 1 [],.sl 5 []] [(0,.t 19)]),zA 21 (.append 14 5 80 (.t 13) (.t 20)),zM 3 21] [1,2,3,4])) (.reg [zM 11 4,zA 12 (.bin .add (.t 11) (kI 1)),zM 4 12] [1,2,3,4])))))) (.seq (.kz [(qA 22 0 1,[]),(qF 23 1 22,[0]),(qA 24 1 1,[]),(qF 25 1 24,[2]),(qA 26 2 1,[]),(qF 27 1 26,[4]),(zA 28 (.kX 15 1 0 [.str []] []),[]),(qA 29 3 1,[]),(qF 30 1 29,[7]),(zA 31 (.append 16 1 16 (.t 28) (.t 30)),[6,7,8]),(zM 32 3,[]),(zA 33 (.build zN [(0,1,.t 23),(1,1,.t 25),(2,1,.t 27),(3,1,.t 31),(4,1,.t 32)]),[0,1,2,3,4,5,6,7,8,9,10]),(qS 5 2 33,[0,1,2,3,4,5,6,7,8,9,10,11])] [2]) .ret))))
theorem K.ay:dO pZ 81 1 0 C.ay [.cell 2 true 5]=true:=by kernel_rfl
def C.fG:aO:=(.seq (.reg [zA 2 (.mv (.k (.c (.str []))))] [0]) (.seq (.seq (.reg [zM 3 0,zA 4 (.bin .lss (.t 3) (kI 0)),zM 5 4,zG 5 true 6 (.mv (.t 0)),zG 5 true 7 (.mv (.t 0)),zG 5 true 8 (.neg (.t 7)),zG 5 true 9 (.bin .eql (.t 6) (.t 8)),qP 10 5 9] [0,10]) (.cond (.t 10) (.seq (.reg [zA 2 (.mv (.k (.c (.str [45,57,50,50,51,51,55,50,48,51,54,56,53,52,55,55,53,56,48,56]))))] [2]) .ret) .skip)) (.seq (.seq (.reg [zM 11 0,zA 12 (.bin .lss (.t 11) (kI 0))] [0,12]) (.cond (.t 12) (.seq (.reg [zM 13 0,zA 14 (.neg (.t 13)),q1 15 182 14,zA 16 (.bin .add (.k (.c (.str [45]))) (.t 15)),zM 2 16] [2]) .ret) .skip)) (.seq (.seq (.reg [zM 17 0,zA 18 (.bin .lss (.t 17) (kI 10))] [0,18]) (.cond (.t 18) (.seq (.reg [zM 19 0,zA 20 (.bin .add (kI 48) (.t 19)),zA 21 (.xq .u8 (.t 20)),zA 22 (.kX 10 1 1 [.lit (.int .u8 0)] [(0,.t 21)]),zA 23 (.FM (.t 22)),zM 2 23] [2]) .ret) .skip)) (.seq (.kz [(zM 24 0,[]),(zA 25 (.bin .quo (.t 24) (kI 10)),[0]),(q1 26 182 25,[0,1]),(zM 27 0,[]),(zA 28 (.bin .rem (.t 27) (kI 10)),[3]),(zA 29 (.bin .add (kI 48) (.t 28)),[3,4]),(zA 30 (.xq .u8 (.t 29)),[3,4,5]),(zA 31 (.kX 11 1 1 [.lit (.int .u8 0)] [(0,.t 30)]),[3,4,5,6]),(zA 32 (.FM (.t 31)),[3,4,5,6,7]),(zA 33 (.bin .add (.t 26) (.t 32)),[0,1,2,3,4,5,6,7,8]),(zM 2 33,[0,1,2,3,4,5,6,7,8,9])] [2]) .ret)))))
theorem K.fG:dO pZ 182 1 0 C.fG [.tmp 2]=true:=by kernel_rfl
def C.dH:aO:=(.seq (.reg [qX 2 10 0,qI 4 0] [1,2]) (.seq (.seq (.reg [qI 5 0] [1,2,5]) (.block 0 (.loop (.seq (.seq (.reg [zM 6 5,qA 7 4 2,qF 8 1 7,qL 9 8,zA 10 (.bin .lss (.t 6) (.t 9))] [1,2,5,10]) (.cond (.t 10) .skip (.exit 0))) (.seq (.block 1 (.seq (.reg [qA 13 0 2,qF 14 1 13,zA 15 (.bin .eql (.t 14) (kI 4)),zM 16 15,zG 16 true 17 (.gX 3 (.t 2)),zG 16 true 18 (.load false 1 (.t 17)),zG 16 true 19 (.mv (.t 5)),zG 16 true 20 (.o6 1 (.t 18) (.t 19)),zG 16 true 21 (.load false 1 (.t 20)),zG 16 true 22 (.mv (.t 1)),zG 16 true 23 (.bin .eql (.t 21) (.t 22)),qP 24 16 23,zM 25 24,zG 25 false 26 (.gX 0 (.t 2)),zG 25 false 27 (.load false 1 (.t 26)),zG 25 false 28 (.bin .eql (.t 27) (kI 3)),zG 25 false 29 (.mv (.t 28)),zG 29 true 30 (.mv (.t 5)),⟨(some (29,true)),some 31,.call 182 [.t 30]⟩,zG 29 true 32 (.mv (.t 1)),zG 29 true 33 (.bin .eql (.t 31) (.t 32)),zG 25 false 34 (.pick (.t 29) (.t 33) (kB false)),qQ 35 25 34] [1,2,5,35]) (.cond (.t 35) (.seq (.reg [zM 36 5,zM 4 36] [4]) .ret) .skip))) (.reg [zM 11 5,zA 12 (.bin .add (.t 11) (kI 1)),zM 5 12] [1,2,5])))))) (.seq (.reg [qI 4 (-1)] [4]) .ret)))
theorem K.dH:dO pZ 180 2 0 C.dH [.tmp 4]=true:=by kernel_rfl
def C.fM:aO:=(.seq (.reg [qX 2 10 0,qI 4 0,qB 5 false] [1,2]) (.seq (.reg [qT 8 5 2,zM 9 1,q2 10 180 8 9,zM 6 10] [1,2,6]) (.seq (.seq (.reg [zM 11 6,zA 12 (.bin .geq (.t 11) (kI 0))] [1,2,6,12]) (.cond (.t 12) (.seq (.kz [(zM 13 6,[]),(qA 14 0 2,[]),(qF 15 1 14,[1]),(zA 16 (.bin .eql (.t 15) (kI 4)),[1,2]),(zM 4 13,[0]),(zM 5 16,[0,1,2,3,4])] [4,5]) .ret) .skip)) (.seq (.seq (.reg [qA 17 0 2,qF 18 1 17,zA 19 (.bin .eql (.t 18) (kI 3)),zM 20 19,zG 20 true 21 (.mv (.t 1)),zG 20 true 22 (.bin .eql (.t 21) (.k (.c (.str [45])))),zG 20 true 23 (.mv (.t 22)),zG 23 false 24 (.mv (.t 1)),zG 23 false 25 (.gX 4 (.t 2)),zG 23 false 26 (.load false 1 (.t 25)),zG 23 false 27 (.len (.t 26)),⟨(some (23,false)),some 28,.call 182 [.t 27]⟩,zG 23 false 29 (.bin .eql (.t 24) (.t 28)),zG 20 true 30 (.pick (.t 23) (kB true) (.t 29)),qP 31 20 30] [1,2,31]) (.cond (.t 31) (.seq (.reg [qA 32 4 2,qF 33 1 32,qL 34 33,zM 4 34,qB 5 false] [4,5]) .ret) .skip)) (.seq (.seq (.reg [qI 7 0] [1,2,7]) (.block 0 (.loop (.seq (.seq (.reg [qA 35 0 2,qF 36 1 35,zA 37 (.bin .eql (.t 36) (kI 4)),zM 38 37,zG 38 true 39 (.mv (.t 7)),zG 38 true 40 (.gX 4 (.t 2)),zG 38 true 41 (.load false 1 (.t 40)),zG 38 true 42 (.len (.t 41)),zG 38 true 43 (.bin .leq (.t 39) (.t 42)),qP 44 38 43] [1,2,7,44]) (.cond (.t 44) .skip (.exit 0))) (.seq (.block 1 (.seq (.reg [zM 47 7,qA 48 4 2,qF 49 1 48,qL 50 49,zA 51 (.bin .eql (.t 47) (.t 50)),zM 52 51,zG 52 false 53 (.mv (.t 1)),zG 52 false 54 (.gX 3 (.t 2)),zG 52 false 55 (.load false 1 (.t 54)),zG 52 false 56 (.mv (.t 7)),zG 52 false 57 (.o6 1 (.t 55) (.t 56)),zG 52 false 58 (.load false 1 (.t 57)),zG 52 false 59 (.bin .lss (.t 53) (.t 58)),qQ 60 52 59] [1,2,7,60]) (.cond (.t 60) (.seq (.reg [zM 61 7,zM 4 61,qB 5 false] [4,5]) .ret) .skip))) (.reg [zM 45 7,zA 46 (.bin .add (.t 45) (kI 1)),zM 7 46] [1,2,7])))))) (.seq (.reg [qI 4 (-1),qB 5 false] [4,5]) .ret))))))
theorem K.fM:dO pZ 222 2 0 C.fM [.tmp 4,.tmp 5]=true:=by kernel_rfl
def C.iQ:aO:=(.seq (.reg [qX 3 10 0,qX 5 11 2,qZ 6 12] [1,3,5,6]) (.seq (.reg [qT 8 5 3,q1 9 81 8,qZ 7 13,qS 5 7 9] [1,5,6,7]) (.seq (.kz [(qA 10 4 7,[]),(qF 11 1 10,[0]),(zM 12 1,[]),(qT 13 5 5,[]),(q1 14 81 13,[3]),(qD 15 5 11 12,[0,1,2,3,4]),(qS 5 15 14,[0,1,2,3,4,5])] [6,7]) (.seq (.reg [qT 16 5 7,qS 5 6 16] [6]) .ret))))
theorem K.iQ:dO pZ 198 3 0 C.iQ [.cell 6 true 5]=true:=by kernel_rfl
def C.jC:aO:=(.seq (.reg [qX 3 10 0,qX 5 11 2,qZ 6 12,qB 7 false] [1,3,5,6]) (.seq (.reg [qT 14 5 3,zM 15 1,q2 16 222 14 15,zM 13 16,qE 17 13 0,qE 18 13 1,zM 8 17,zM 9 18] [1,3,5,6,8,9]) (.seq (.seq (.reg [zM 19 8,zA 20 (.bin .lss (.t 19) (kI 0))] [1,3,5,6,8,9,20]) (.cond (.t 20) (.seq (.reg [zA 21 (.build zN []),qS 5 6 21,qB 7 false] [6,7]) .ret) .skip)) (.seq (.seq (.reg [zM 22 9] [1,3,5,6,8,22]) (.cond (.t 22) (.seq (.reg [qT 23 5 3,zM 24 8,qT 25 5 5,q3 26 198 23 24 25,qS 5 6 26,qB 7 true] [6,7]) .ret) .skip)) (.seq (.reg [qT 27 5 3,q1 28 81 27,qZ 10 13,qS 5 10 28] [1,3,5,6,8,10]) (.seq (.kz [(zA 29 (.kX 14 5 0 [.lit (.int .i64 0),.lit (.int .i64 0),.str [],.sl 1 [],.sl 5 []] []),[]),(qA 30 4 10,[]),(qF 31 1 30,[1]),(zM 32 8,[]),(zA 33 (.sZ 5 (.t 31) none (some (.t 32))),[1,2,3]),(zA 34 (.append 15 5 80 (.t 29) (.t 33)),[0,1,2,3,4]),(qT 35 5 5,[]),(q1 36 81 35,[0,1,2,3,4,5,6]),(zA 37 (.kX 16 5 1 [.lit (.int .i64 0),.lit (.int .i64 0),.str [],.sl 1 [],.sl 5 []] [(0,.t 36)]),[0,1,2,3,4,5,6,7]),(zA 38 (.append 17 5 80 (.t 34) (.t 37)),[0,1,2,3,4,5,6,7,8]),(zM 11 38,[0,1,2,3,4,5,6,7,8,9])] [1,3,6,8,10,11]) (.seq (.reg [zM 39 11,qA 40 4 10,qF 41 1 40,zM 42 8,zA 43 (.sZ 5 (.t 41) (some (.t 42)) none),zA 44 (.append 18 5 80 (.t 39) (.t 43)),zM 11 44] [1,3,6,8,10,11]) (.seq (.seq (.reg [qA 45 0 3,qF 46 1 45,zA 47 (.bin .eql (.t 46) (kI 3))] [1,3,6,8,10,11,47]) (.cond (.t 47) (.seq (.reg [qA 48 0 3,qF 49 1 48,zA 50 (.kX 19 1 0 [.str []] []),zM 51 11,zA 52 (.build zN [(0,1,.t 49),(3,1,.t 50),(4,1,.t 51)]),qS 5 6 52,qB 7 true] [6,7]) .ret) .skip)) (.seq (.reg [zA 53 (.kX 20 1 0 [.str []] []),qA 54 3 10,qF 55 1 54,zM 56 8,zA 57 (.sZ 1 (.t 55) none (some (.t 56))),zA 58 (.append 21 1 16 (.t 53) (.t 57)),zM 59 1,zA 60 (.kX 22 1 1 [.str []] [(0,.t 59)]),zA 61 (.append 23 1 16 (.t 58) (.t 60)),zM 12 61] [3,6,8,10,11,12]) (.seq (.reg [zM 62 12,qA 63 3 10,qF 64 1 63,zM 65 8,zA 66 (.sZ 1 (.t 64) (some (.t 65)) none),zA 67 (.append 24 1 16 (.t 62) (.t 66)),zM 12 67] [3,6,11,12]) (.seq (.reg [qA 68 0 3,qF 69 1 68,zM 70 12,zM 71 11,zA 72 (.build zN [(0,1,.t 69),(3,1,.t 70),(4,1,.t 71)]),qS 5 6 72,qB 7 true] [6,7]) .ret)))))))))))
theorem K.jC:dO pZ 197 3 0 C.jC [.cell 6 true 5,.tmp 7]=true:=by kernel_rfl
def C.kM:aO:=(.seq (.reg [qX 2 10 0,qZ 4 11,qB 5 false] [1,2,4]) (.seq (.seq (.reg [qI 6 0] [1,2,4,6]) (.block 0 (.loop (.seq (.seq (.reg [zM 8 6,zM 9 1,qL 10 9,zA 11 (.bin .lss (.t 8) (.t 10))] [1,2,4,6,11]) (.cond (.t 11) .skip (.exit 0))) (.seq (.block 1 (.seq (.kz [(qT 14 5 2,[]),(zM 15 1,[]),(zM 16 6,[]),(qD 17 1 15 16,[1,2]),(qF 18 1 17,[1,2,3]),(q2 19 180 14 18,[0,1,2,3,4]),(zM 7 19,[0,1,2,3,4,5])] [1,2,4,6,7]) (.seq (.seq (.reg [zM 20 7,zA 21 (.bin .lss (.t 20) (kI 0))] [1,2,4,6,7,21]) (.cond (.t 21) (.seq (.reg [zA 22 (.build zN []),qS 5 4 22,qB 5 false] [4,5]) .ret) .skip)) (.reg [qA 23 4 2,qF 24 1 23,zM 25 7,qD 26 5 24 25,qT 27 5 26,qS 5 2 27] [1,2,4,6])))) (.reg [zM 12 6,zA 13 (.bin .add (.t 12) (kI 1)),zM 6 13] [1,2,4,6])))))) (.seq (.reg [qT 28 5 2,q1 29 81 28,qS 5 4 29,qB 5 true] [4,5]) .ret)))
theorem K.kM:dO pZ 143 2 0 C.kM [.cell 4 true 5,.tmp 5]=true:=by kernel_rfl
def C.iU:aO:=(.seq (.reg [qX 3 10 0,qX 5 11 2,qZ 6 12,qB 7 false] [1,3,5,6]) (.seq (.seq (.reg [zM 11 1,qL 12 11,zA 13 (.bin .eql (.t 12) (kI 0))] [1,3,5,6,13]) (.cond (.t 13) (.seq (.reg [qT 14 5 5,q1 15 81 14,qS 5 6 15,qB 7 true] [6,7]) .ret) .skip)) (.seq (.kz [(qT 16 5 3,[]),(zM 17 1,[]),(zA 18 (.o6 1 (.t 17) (kI 0)),[1]),(qF 19 1 18,[1,2]),(q2 20 180 16 19,[0,1,2,3]),(zM 8 20,[0,1,2,3,4])] [1,3,5,6,8]) (.seq (.seq (.reg [zM 21 8,zA 22 (.bin .lss (.t 21) (kI 0))] [1,3,5,6,8,22]) (.cond (.t 22) (.seq (.reg [zA 23 (.build zN []),qS 5 6 23,qB 7 false] [6,7]) .ret) .skip)) (.seq (.kz [(qA 25 4 3,[]),(qF 26 1 25,[0]),(zM 27 8,[]),(qD 28 5 26 27,[0,1,2]),(qT 29 5 28,[0,1,2,3]),(zM 30 1,[]),(zA 31 (.sZ 1 (.t 30) (some (kI 1)) none),[5]),(qT 32 5 5,[]),(q3 33 154 29 31 32,[0,1,2,3,4,5,6,7]),(zM 24 33,[0,1,2,3,4,5,6,7,8]),(qE 34 24 0,[0,1,2,3,4,5,6,7,8,9]),(qE 35 24 1,[0,1,2,3,4,5,6,7,8,9]),(qZ 9 13,[]),(qS 5 9 34,[0,1,2,3,4,5,6,7,8,9,10,12]),(zM 10 35,[0,1,2,3,4,5,6,7,8,9,10,11,12,13])] [3,6,8,9,10]) (.seq (.seq (.reg [zM 36 10,qO 37 36] [3,6,8,9,37]) (.cond (.t 37) (.seq (.reg [zA 38 (.build zN []),qS 5 6 38,qB 7 false] [6,7]) .ret) .skip)) (.seq (.reg [qT 39 5 3,zM 40 8,qT 41 5 9,q3 42 198 39 40 41,qS 5 6 42,qB 7 true] [6,7]) .ret)))))))
theorem K.iU:dO pZ 154 3 0 C.iU [.cell 6 true 5,.tmp 7]=true:=by kernel_rfl
def C.kZ:aO:=(.seq (.reg [qX 3 10 0,qX 5 11 2,qZ 6 12,qB 7 false] [1,3,5,6]) (.seq (.seq (.reg [zM 13 1,qL 14 13,zA 15 (.bin .eql (.t 14) (kI 0))] [1,3,5,6,15]) (.cond (.t 15) (.seq (.reg [qT 16 5 5,q1 17 81 16,qS 5 6 17,qB 7 true] [6,7]) .ret) .skip)) (.seq (.reg [zM 18 1,qL 19 18,zA 20 (.bin .sub (.t 19) (kI 1)),zM 8 20] [1,3,5,6,8]) (.seq (.kz [(qT 22 5 3,[]),(zM 23 1,[]),(zM 24 8,[]),(zA 25 (.sZ 1 (.t 23) none (some (.t 24))),[1,2]),(q2 26 143 22 25,[0,1,2,3]),(zM 21 26,[0,1,2,3,4]),(qE 27 21 0,[0,1,2,3,4,5]),(qE 28 21 1,[0,1,2,3,4,5]),(qZ 9 13,[]),(qS 5 9 27,[0,1,2,3,4,5,6,8]),(zM 10 28,[0,1,2,3,4,5,6,7,8,9])] [1,3,5,6,8,9,10]) (.seq (.seq (.reg [zM 29 10,qO 30 29] [1,3,5,6,8,9,30]) (.cond (.t 30) (.seq (.reg [zA 31 (.build zN []),qS 5 6 31,qB 7 false] [6,7]) .ret) .skip)) (.seq (.kz [(qT 33 5 9,[]),(zM 34 1,[]),(zM 35 8,[]),(qD 36 1 34 35,[1,2]),(qF 37 1 36,[1,2,3]),(qT 38 5 5,[]),(q3 39 197 33 37 38,[0,1,2,3,4,5]),(zM 32 39,[0,1,2,3,4,5,6]),(qE 40 32 0,[0,1,2,3,4,5,6,7]),(qE 41 32 1,[0,1,2,3,4,5,6,7]),(qZ 11 14,[]),(qS 5 11 40,[0,1,2,3,4,5,6,7,8,10]),(zM 12 41,[0,1,2,3,4,5,6,7,8,9,10,11])] [1,3,6,8,11,12]) (.seq (.seq (.reg [zM 42 12,qO 43 42] [1,3,6,8,11,43]) (.cond (.t 43) (.seq (.reg [zA 44 (.build zN []),qS 5 6 44,qB 7 false] [6,7]) .ret) .skip)) (.seq (.kz [(qT 45 5 3,[]),(zM 46 1,[]),(zM 47 8,[]),(zA 48 (.sZ 1 (.t 46) none (some (.t 47))),[1,2]),(qT 49 5 11,[]),(q3 50 154 45 48 49,[0,1,2,3,4]),(qE 51 50 0,[0,1,2,3,4,5]),(qE 52 50 1,[0,1,2,3,4,5]),(qS 5 6 51,[0,1,2,3,4,5,6,7]),(zM 7 52,[0,1,2,3,4,5,6,7,8])] [6,7]) .ret))))))))
theorem K.kZ:dO pZ 152 3 0 C.kZ [.cell 6 true 5,.tmp 7]=true:=by kernel_rfl
def C.gI:aO:=(.seq (.reg [qB 4 false] [0,1]) (.seq (.seq (.reg [qI 5 0] [0,1,5]) (.block 0 (.loop (.seq (.seq (.reg [zM 6 5,zM 7 1,qL 8 7,zA 9 (.bin .lss (.t 6) (.t 8))] [0,1,5,9]) (.cond (.t 9) .skip (.exit 0))) (.seq (.block 1 (.seq (.kz [(zM 12 5,[]),(zM 13 0,[]),(qL 14 13,[1]),(zA 15 (.bin .geq (.t 12) (.t 14)),[0,1,2]),(zM 16 15,[0,1,2,3]),(zG 16 false 17 (.mv (.t 0)),[0,1,2,3,4]),(zG 16 false 18 (.mv (.t 5)),[0,1,2,3,4]),(zG 16 false 19 (.o6 1 (.t 17) (.t 18)),[0,1,2,3,4,5,6]),(zG 16 false 20 (.load false 1 (.t 19)),[0,1,2,3,4,5,6,7]),(zG 16 false 21 (.mv (.t 1)),[0,1,2,3,4]),(zG 16 false 22 (.mv (.t 5)),[0,1,2,3,4]),(zG 16 false 23 (.o6 1 (.t 21) (.t 22)),[0,1,2,3,4,9,10]),(zG 16 false 24 (.load false 1 (.t 23)),[0,1,2,3,4,9,10,11]),(zG 16 false 25 (.bin .neq (.t 20) (.t 24)),[0,1,2,3,4,5,6,7,8,9,10,11,12]),(qQ 26 16 25,[0,1,2,3,4,5,6,7,8,9,10,11,12,13])] [0,1,5,26]) (.cond (.t 26) (.seq (.reg [qB 4 false] [4]) .ret) .skip))) (.reg [zM 10 5,zA 11 (.bin .add (.t 10) (kI 1)),zM 5 11] [0,1,5])))))) (.seq (.reg [qB 4 true] [4]) .ret)))
theorem K.gI:dO pZ 155 2 0 C.gI [.tmp 4]=true:=by kernel_rfl
def C.eU:aO:=(.seq (.reg [qX 2 10 0,qZ 4 11,qB 5 false] [1,2,4]) (.seq (.reg [zM 12 1,qL 13 12,zA 14 (.bin .sub (.t 13) (kI 1)),zM 6 14] [1,2,4,6]) (.seq (.seq (.reg [zM 15 6,zA 16 (.bin .lss (.t 15) (kI 0))] [1,2,4,6,16]) (.cond (.t 16) (.seq (.reg [zA 17 (.build zN []),qS 5 4 17,qB 5 false] [4,5]) .ret) .skip)) (.seq (.kz [(qT 19 5 2,[]),(zM 20 1,[]),(zM 21 6,[]),(zA 22 (.sZ 1 (.t 20) none (some (.t 21))),[1,2]),(q2 23 143 19 22,[0,1,2,3]),(zM 18 23,[0,1,2,3,4]),(qE 24 18 0,[0,1,2,3,4,5]),(qE 25 18 1,[0,1,2,3,4,5]),(qZ 7 12,[]),(qS 5 7 24,[0,1,2,3,4,5,6,8]),(zM 8 25,[0,1,2,3,4,5,6,7,8,9])] [1,2,4,6,7,8]) (.seq (.seq (.reg [zM 26 8,qO 27 26] [1,2,4,6,7,27]) (.cond (.t 27) (.seq (.reg [zA 28 (.build zN []),qS 5 4 28,qB 5 false] [4,5]) .ret) .skip)) (.seq (.kz [(qT 29 5 7,[]),(zM 30 1,[]),(zM 31 6,[]),(qD 32 1 30 31,[1,2]),(qF 33 1 32,[1,2,3]),(q2 34 180 29 33,[0,1,2,3,4]),(zM 9 34,[0,1,2,3,4,5])] [1,2,4,6,7,9]) (.seq (.seq (.reg [zM 35 9,zA 36 (.bin .lss (.t 35) (kI 0))] [1,2,4,6,7,9,36]) (.cond (.t 36) (.seq (.reg [zA 37 (.build zN []),qS 5 4 37,qB 5 false] [4,5]) .ret) .skip)) (.seq (.kz [(zA 38 (.kX 13 5 0 [.lit (.int .i64 0),.lit (.int .i64 0),.str [],.sl 1 [],.sl 5 []] []),[]),(qA 39 4 7,[]),(qF 40 1 39,[1]),(zM 41 9,[]),(zA 42 (.sZ 5 (.t 40) none (some (.t 41))),[1,2,3]),(zA 43 (.append 14 5 80 (.t 38) (.t 42)),[0,1,2,3,4]),(qA 44 4 7,[]),(qF 45 1 44,[6]),(zM 46 9,[]),(zA 47 (.bin .add (.t 46) (kI 1)),[8]),(zA 48 (.sZ 5 (.t 45) (some (.t 47)) none),[6,7,8,9]),(zA 49 (.append 15 5 80 (.t 43) (.t 48)),[0,1,2,3,4,5,6,7,8,9,10]),(zM 10 49,[0,1,2,3,4,5,6,7,8,9,10,11])] [1,2,4,6,7,9,10]) (.seq (.reg [zA 50 (.kX 16 1 0 [.str []] []),zM 11 50] [1,2,4,6,7,9,10,11]) (.cut (.seq (.reg [qA 51 0 7,qF 52 1 51,zA 53 (.bin .eql (.t 52) (kI 4))] [1,2,4,6,7,9,10,11,53]) (.cond (.t 53) (.kz [(zA 54 (.kX 17 1 0 [.str []] []),[]),(qA 55 3 7,[]),(qF 56 1 55,[1]),(zM 57 9,[]),(zA 58 (.sZ 1 (.t 56) none (some (.t 57))),[1,2,3]),(zA 59 (.append 18 1 16 (.t 54) (.t 58)),[0,1,2,3,4]),(qA 60 3 7,[]),(qF 61 1 60,[6]),(zM 62 9,[]),(zA 63 (.bin .add (.t 62) (kI 1)),[8]),(zA 64 (.sZ 1 (.t 61) (some (.t 63)) none),[6,7,8,9]),(zA 65 (.append 19 1 16 (.t 59) (.t 64)),[0,1,2,3,4,5,6,7,8,9,10]),(zM 11 65,[0,1,2,3,4,5,6,7,8,9,10,11])] [1,2,4,6,7,10,11]) .skip)) (.seq (.kz [(qT 66 5 2,[]),(zM 67 1,[]),(zM 68 6,[]),(zA 69 (.sZ 1 (.t 67) none (some (.t 68))),[1,2]),(qA 70 0 7,[]),(qF 71 1 70,[4]),(zM 72 11,[]),(zM 73 10,[]),(zA 74 (.build zN [(0,1,.t 71),(3,1,.t 72),(4,1,.t 73)]),[4,5,6,7]),(q3 75 154 66 69 74,[0,1,2,3,4,5,6,7,8]),(qE 76 75 0,[0,1,2,3,4,5,6,7,8,9]),(qE 77 75 1,[0,1,2,3,4,5,6,7,8,9]),(qS 5 4 76,[0,1,2,3,4,5,6,7,8,9,10,11]),(zM 5 77,[0,1,2,3,4,5,6,7,8,9,10,11,12])] [4,5]) .ret)))))))))))
theorem K.eU:dO pZ 153 2 0 C.eU [.cell 4 true 5,.tmp 5]=true:=by kernel_rfl
def C.fP:aO:=(.seq (.reg [qI 2 0] [0]) (.seq (.seq (.reg [zM 3 0] [3]) (.cond (.t 3) (.seq (.reg [qI 2 1] [2]) .ret) .skip)) (.seq (.reg [qI 2 0] [2]) .ret)))
theorem K.fP:dO pZ 216 1 0 C.fP [.tmp 2]=true:=by kernel_rfl
def C.jK:aO:=(.seq (.reg [qI 4 0] [0,1]) (.seq (.reg [zM 5 0,zM 6 1,zA 7 (.bin .gtr (.t 5) (.t 6)),q1 8 216 7,zM 9 0,zM 10 1,zA 11 (.bin .lss (.t 9) (.t 10)),q1 12 216 11,zA 13 (.bin .sub (.t 8) (.t 12)),zM 4 13] [4]) .ret))
theorem K.jK:dO pZ 178 2 0 C.jK [.tmp 4]=true:=by kernel_rfl
def C.iI:aO:=(.seq (.reg [qI 4 0] [0,1]) (.seq (.reg [zM 5 0,zM 6 1,zA 7 (.bin .gtr (.t 5) (.t 6)),q1 8 216 7,zM 9 0,zM 10 1,zA 11 (.bin .lss (.t 9) (.t 10)),q1 12 216 11,zA 13 (.bin .sub (.t 8) (.t 12)),zM 4 13] [4]) .ret))
theorem K.iI:dO pZ 179 2 0 C.iI [.tmp 4]=true:=by kernel_rfl
def C.bV:aO:=(.seq (.reg [qX 2 10 0,qX 3 11 1,qI 4 0] [2,3]) (.seq (.seq (.reg [qA 7 0 2,qF 8 1 7,qA 9 0 3,qF 10 1 9,zA 11 (.bin .neq (.t 8) (.t 10))] [2,3,11]) (.cond (.t 11) (.seq (.reg [qA 12 0 2,qF 13 1 12,qA 14 0 3,qF 15 1 14,q2 16 178 13 15,zM 4 16] [4]) .ret) .skip)) (.seq (.seq (.reg [qA 17 1 2,qF 18 1 17,qA 19 1 3,qF 20 1 19,zA 21 (.bin .neq (.t 18) (.t 20))] [2,3,21]) (.cond (.t 21) (.seq (.reg [qA 22 1 2,qF 23 1 22,qA 24 1 3,qF 25 1 24,q2 26 178 23 25,zM 4 26] [4]) .ret) .skip)) (.seq (.seq (.reg [qA 27 2 2,qF 28 1 27,qA 29 2 3,qF 30 1 29,zA 31 (.bin .neq (.t 28) (.t 30))] [2,3,31]) (.cond (.t 31) (.seq (.reg [qA 32 2 2,qF 33 1 32,qA 34 2 3,qF 35 1 34,q2 36 179 33 35,zM 4 36] [4]) .ret) .skip)) (.seq (.seq (.reg [qI 5 0] [2,3,5]) (.block 0 (.loop (.seq (.seq (.reg [zM 37 5,qA 38 4 2,qF 39 1 38,qL 40 39,zA 41 (.bin .lss (.t 37) (.t 40)),zM 42 41,zG 42 true 43 (.mv (.t 5)),zG 42 true 44 (.gX 4 (.t 3)),zG 42 true 45 (.load false 1 (.t 44)),zG 42 true 46 (.len (.t 45)),zG 42 true 47 (.bin .lss (.t 43) (.t 46)),qP 48 42 47] [2,3,5,48]) (.cond (.t 48) .skip (.exit 0))) (.seq (.block 1 (.seq (.seq (.kz [(qA 51 0 2,[]),(qF 52 1 51,[0]),(zA 53 (.bin .eql (.t 52) (kI 4)),[0,1]),(zM 54 53,[0,1,2]),(zG 54 true 55 (.gX 3 (.t 2)),[0,1,2,3]),(zG 54 true 56 (.load false 1 (.t 55)),[0,1,2,3,4]),(zG 54 true 57 (.mv (.t 5)),[0,1,2,3]),(zG 54 true 58 (.o6 1 (.t 56) (.t 57)),[0,1,2,3,4,5,6]),(zG 54 true 59 (.load false 1 (.t 58)),[0,1,2,3,4,5,6,7]),(zG 54 true 60 (.gX 3 (.t 3)),[0,1,2,3]),(zG 54 true 61 (.load false 1 (.t 60)),[0,1,2,3,9]),(zG 54 true 62 (.mv (.t 5)),[0,1,2,3]),(zG 54 true 63 (.o6 1 (.t 61) (.t 62)),[0,1,2,3,9,10,11]),(zG 54 true 64 (.load false 1 (.t 63)),[0,1,2,3,9,10,11,12]),(zG 54 true 65 (.bin .neq (.t 59) (.t 64)),[0,1,2,3,4,5,6,7,8,9,10,11,12,13]),(qP 66 54 65,[0,1,2,3,4,5,6,7,8,9,10,11,12,13,14])] [2,3,5,66]) (.cond (.t 66) (.seq (.kz [(qA 67 3 2,[]),(qF 68 1 67,[0]),(zM 69 5,[]),(qD 70 1 68 69,[0,1,2]),(qF 71 1 70,[0,1,2,3]),(qA 72 3 3,[]),(qF 73 1 72,[5]),(zM 74 5,[]),(qD 75 1 73 74,[5,6,7]),(qF 76 1 75,[5,6,7,8]),(q2 77 179 71 76,[0,1,2,3,4,5,6,7,8,9]),(zM 4 77,[0,1,2,3,4,5,6,7,8,9,10])] [4]) .ret) .skip)) (.seq (.kz [(qA 78 4 2,[]),(qF 79 1 78,[0]),(zM 80 5,[]),(qD 81 5 79 80,[0,1,2]),(qT 82 5 81,[0,1,2,3]),(qA 83 4 3,[]),(qF 84 1 83,[5]),(zM 85 5,[]),(qD 86 5 84 85,[5,6,7]),(qT 87 5 86,[5,6,7,8]),(q2 88 135 82 87,[0,1,2,3,4,5,6,7,8,9]),(zM 6 88,[0,1,2,3,4,5,6,7,8,9,10])] [2,3,5,6]) (.seq (.reg [zM 89 6,zA 90 (.bin .neq (.t 89) (kI 0))] [2,3,5,6,90]) (.cond (.t 90) (.seq (.reg [zM 91 6,zM 4 91] [4]) .ret) .skip))))) (.reg [zM 49 5,zA 50 (.bin .add (.t 49) (kI 1)),zM 5 50] [2,3,5])))))) (.seq (.reg [qA 92 4 2,qF 93 1 92,qL 94 93,qA 95 4 3,qF 96 1 95,qL 97 96,q2 98 178 94 97,zM 4 98] [4]) .ret))))))
theorem K.bV:dO pZ 135 2 0 C.bV [.tmp 4]=true:=by kernel_rfl
def C.ny:aO:=(.seq (.reg [qX 2 10 0,qX 3 11 1,qB 4 false] [2,3]) (.seq (.reg [qT 5 5 2,qT 6 5 3,q2 7 135 5 6,zA 8 (.bin .eql (.t 7) (kI 0)),zM 4 8] [4]) .ret))
theorem K.ny:dO pZ 80 2 0 C.ny [.tmp 4]=true:=by kernel_rfl
def C.fD:aO:=(.seq (.reg [qX 2 10 0,qX 3 11 1,qZ 4 12,qB 5 false] [2,3,4]) (.seq (.seq (.reg [qA 11 0 3,qF 12 1 11] [2,3,4,12]) (.block 0 (.seq (.reg [zA 14 (.bin .eql (.t 12) (kI 1)),zM 13 14] [2,3,4,12,13]) (.cond (.t 13) (.seq (.reg [qT 15 5 2,qA 16 1 3,qF 17 1 16,qA 18 3 3,qT 19 5 18,q3 20 152 15 17 19,qE 21 20 0,qE 22 20 1,qS 5 4 21,zM 5 22] [4,5]) .ret) (.seq (.reg [zA 24 (.bin .eql (.t 12) (kI 2)),zM 23 24] [2,3,4,12,23]) (.cond (.t 23) (.seq (.reg [qT 25 5 2,qA 26 1 3,qF 27 1 26,q2 28 153 25 27,qE 29 28 0,qE 30 28 1,qS 5 4 29,zM 5 30] [4,5]) .ret) (.seq (.reg [zA 32 (.bin .eql (.t 12) (kI 3)),zM 31 32] [2,3,4,31]) (.cond (.t 31) (.seq (.reg [qT 33 5 2,qA 34 1 3,qF 35 1 34,qA 36 3 3,qT 37 5 36,q3 38 154 33 35 37,qE 39 38 0,qE 40 38 1,qS 5 4 39,zM 5 40] [4,5]) .ret) .skip)))))))) (.seq (.reg [qA 41 2 3,qF 42 1 41,zM 6 42] [2,3,4,6]) (.cut (.seq (.reg [qA 43 0 3,qF 44 1 43,zA 45 (.bin .eql (.t 44) (kI 6))] [2,3,4,6,45]) (.cond (.t 45) (.reg [qA 46 1 3,qF 47 1 46,zM 6 47] [2,3,4,6]) .skip)) (.seq (.reg [qT 49 5 2,zM 50 6,q2 51 143 49 50,zM 48 51,qE 52 48 0,qE 53 48 1,qZ 7 13,qS 5 7 52,zM 8 53] [2,3,4,7,8]) (.seq (.seq (.reg [zM 54 8,qO 55 54] [2,3,4,7,55]) (.cond (.t 55) (.seq (.reg [zA 56 (.build zN []),qS 5 4 56,qB 5 false] [4,5]) .ret) .skip)) (.seq (.seq (.reg [qA 57 0 3,qF 58 1 57] [2,3,4,7,58]) (.block 1 (.seq (.reg [zA 60 (.bin .eql (.t 58) (kI 6)),zM 59 60] [2,3,4,7,58,59]) (.cond (.t 59) (.seq (.kz [(qT 61 5 2,[]),(qT 62 5 7,[]),(qA 63 3 3,[]),(qT 64 5 63,[2]),(q2 65 80 62 64,[1,2,3]),(qS 5 4 61,[0,1,2,3,4]),(zM 5 65,[0,1,2,3,4,5])] [4,5]) .ret) (.seq (.reg [zA 67 (.bin .eql (.t 58) (kI 5)),zM 66 67] [2,3,4,7,66]) (.cond (.t 66) (.seq (.reg [qT 68 5 2,qA 69 1 3,qF 70 1 69,qT 71 5 7,q3 72 152 68 70 71,qE 73 72 0,qE 74 72 1,qS 5 4 73,zM 5 74] [4,5]) .ret) .skip)))))) (.seq (.seq (.reg [qA 75 1 3,qF 76 1 75,qA 77 2 3,qF 78 1 77,q2 79 155 76 78] [2,3,4,7,79]) (.cond (.t 79) (.seq (.kz [(qT 80 5 2,[]),(q1 81 81 80,[0]),(qA 82 1 3,[]),(qF 83 1 82,[2]),(qL 84 83,[2,3]),(qA 85 2 3,[]),(qF 86 1 85,[5]),(qL 87 86,[5,6]),(zA 88 (.bin .eql (.t 84) (.t 87)),[2,3,4,5,6,7]),(qS 5 4 81,[0,1]),(zM 5 88,[0,1,2,3,4,5,6,7,8,9])] [4,5]) .ret) .skip)) (.seq (.reg [qT 90 5 2,qA 91 2 3,qF 92 1 91,q2 93 153 90 92,zM 89 93,qE 94 89 0,qE 95 89 1,qZ 9 14,qS 5 9 94,zM 10 95] [3,4,7,9,10]) (.seq (.seq (.reg [zM 96 10,qO 97 96] [3,4,7,9,97]) (.cond (.t 97) (.seq (.reg [zA 98 (.build zN []),qS 5 4 98,qB 5 false] [4,5]) .ret) .skip)) (.seq (.reg [qT 99 5 9,qA 100 1 3,qF 101 1 100,qT 102 5 7,q3 103 152 99 101 102,qE 104 103 0,qE 105 103 1,qS 5 4 104,zM 5 105] [4,5]) .ret)))))))))))
theorem K.fD:dO pZ 102 2 0 C.fD [.cell 4 true 5,.tmp 5]=true:=by kernel_rfl
def C.eH:aO:=(.seq (.reg [qX 1 10 0,qI 2 0] [1]) (.seq (.reg [qI 3 1] [1,3]) (.seq (.seq (.reg [qI 4 0] [1,3,4]) (.block 0 (.loop (.seq (.seq (.reg [zM 5 4,qA 6 4 1,qF 7 1 6,qL 8 7,zA 9 (.bin .lss (.t 5) (.t 8))] [1,3,4,9]) (.cond (.t 9) .skip (.exit 0))) (.seq (.block 1 (.reg [zM 12 3,qA 13 4 1,qF 14 1 13,zM 15 4,qD 16 5 14 15,qT 17 5 16,q1 18 100 17,zA 19 (.bin .add (.t 12) (.t 18)),zM 3 19] [1,3,4])) (.reg [zM 10 4,zA 11 (.bin .add (.t 10) (kI 1)),zM 4 11] [1,3,4])))))) (.seq (.reg [zM 20 3,zM 2 20] [2]) .ret))))
theorem K.eH:dO pZ 100 1 0 C.eH [.tmp 2]=true:=by kernel_rfl
def C.bK:aO:=(.seq (.reg [qB 6 false] [0,1,2]) (.seq (.reg [zM 7 1,zM 8 0,zA 9 (.bin .leq (.t 7) (.t 8)),zM 10 9,zG 10 true 11 (.mv (.t 0)),zG 10 true 12 (.mv (.t 2)),zG 10 true 13 (.bin .leq (.t 11) (.t 12)),qP 14 10 13,zM 6 14] [6]) .ret))
theorem K.bK:dO pZ 106 3 0 C.bK [.tmp 6]=true:=by kernel_rfl
def C.bY:aO:=(.seq (.reg [qB 2 false] [0]) (.seq (.seq (.reg [qI 3 0] [0,3]) (.block 0 (.loop (.seq (.seq (.reg [zM 4 3,zM 5 0,zA 6 (.lens (.t 5)),zA 7 (.bin .lss (.t 4) (.t 6))] [0,3,7]) (.cond (.t 7) .skip (.exit 0))) (.seq (.block 1 (.seq (.reg [zM 10 0,zM 11 3,zA 12 (.idxs (.t 10) (.t 11)),zA 13 (.xq .i64 (.t 12)),⟨none,some 14,.call 106 [.t 13,kI 32,kI 126]⟩,qO 15 14] [0,3,15]) (.cond (.t 15) (.seq (.reg [qB 2 false] [2]) .ret) .skip))) (.reg [zM 8 3,zA 9 (.bin .add (.t 8) (kI 1)),zM 3 9] [0,3])))))) (.seq (.reg [zM 16 0,zA 17 (.lens (.t 16)),zA 18 (.bin .leq (.t 17) (kI 12)),zM 2 18] [2]) .ret)))
theorem K.bY:dO pZ 142 1 0 C.bY [.tmp 2]=true:=by kernel_rfl
def C.gW:aO:=(.seq (.reg [qB 2 false] [0]) (.seq (.seq (.reg [qI 3 0] [0,3]) (.block 0 (.loop (.seq (.seq (.reg [zM 4 3,zM 5 0,qL 6 5,zA 7 (.bin .lss (.t 4) (.t 6))] [0,3,7]) (.cond (.t 7) .skip (.exit 0))) (.seq (.block 1 (.seq (.kz [(zM 10 0,[]),(zM 11 3,[]),(qD 12 1 10 11,[0,1]),(qF 13 1 12,[0,1,2]),(q1 14 142 13,[0,1,2,3]),(qO 15 14,[0,1,2,3,4]),(zM 16 15,[0,1,2,3,4,5]),(zG 16 false 17 (.mv (.t 3)),[0,1,2,3,4,5,6]),(zG 16 false 18 (.bin .gtr (.t 17) (kI 0)),[0,1,2,3,4,5,6,7]),(zG 16 false 19 (.mv (.t 18)),[0,1,2,3,4,5,6,7,8]),(zG 19 true 20 (.mv (.t 0)),[0,1,2,3,4,5,6,7,8,9]),(zG 19 true 21 (.mv (.t 3)),[0,1,2,3,4,5,6,7,8,9]),(zG 19 true 22 (.o6 1 (.t 20) (.t 21)),[0,1,2,3,4,5,6,7,8,9,10,11]),(zG 19 true 23 (.load false 1 (.t 22)),[0,1,2,3,4,5,6,7,8,9,10,11,12]),(zG 19 true 24 (.mv (.t 0)),[0,1,2,3,4,5,6,7,8,9]),(zG 19 true 25 (.mv (.t 3)),[0,1,2,3,4,5,6,7,8,9]),(zG 19 true 26 (.bin .sub (.t 25) (kI 1)),[0,1,2,3,4,5,6,7,8,9,15]),(zG 19 true 27 (.o6 1 (.t 24) (.t 26)),[0,1,2,3,4,5,6,7,8,9,14,15,16]),(zG 19 true 28 (.load false 1 (.t 27)),[0,1,2,3,4,5,6,7,8,9,14,15,16,17]),(zG 19 true 29 (.bin .leq (.t 23) (.t 28)),[0,1,2,3,4,5,6,7,8,9,10,11,12,13,14,15,16,17,18]),(zG 16 false 30 (.pick (.t 19) (.t 29) (kB false)),[0,1,2,3,4,5,6,7,8,9,10,11,12,13,14,15,16,17,18,19]),(qQ 31 16 30,[0,1,2,3,4,5,6,7,8,9,10,11,12,13,14,15,16,17,18,19,20])] [0,3,31]) (.cond (.t 31) (.seq (.reg [qB 2 false] [2]) .ret) .skip))) (.reg [zM 8 3,zA 9 (.bin .add (.t 8) (kI 1)),zM 3 9] [0,3])))))) (.seq (.reg [qB 2 true] [2]) .ret)))
theorem K.gW:dO pZ 151 1 0 C.gW [.tmp 2]=true:=by kernel_rfl
def C.gG:aO:=(.seq (.reg [qX 2 10 0,qB 4 false] [1,2]) (.seq (.seq (.reg [qI 5 0] [1,2,5]) (.block 0 (.loop (.seq (.seq (.reg [zM 6 5,qA 7 4 2,qF 8 1 7,qL 9 8,zA 10 (.bin .lss (.t 6) (.t 9))] [1,2,5,10]) (.cond (.t 10) .skip (.exit 0))) (.seq (.block 1 (.seq (.reg [qA 13 4 2,qF 14 1 13,zM 15 5,qD 16 5 14 15,qT 17 5 16,zM 18 1,zA 19 (.bin .sub (.t 18) (kI 1)),q2 20 99 17 19,qO 21 20] [1,2,5,21]) (.cond (.t 21) (.seq (.reg [qB 4 false] [4]) .ret) .skip))) (.reg [zM 11 5,zA 12 (.bin .add (.t 11) (kI 1)),zM 5 12] [1,2,5])))))) (.seq (.reg [qB 4 true] [4]) .ret)))
theorem K.gG:dO pZ 150 2 0 C.gG [.tmp 4]=true:=by kernel_rfl
def C.bJ:aO:=(.seq (.reg [qX 2 10 0,qB 4 false] [1,2]) (.cut (.seq (.reg [zM 5 1,zA 6 (.bin .eql (.t 5) (kI 0)),zM 7 6,zG 7 false 8 (.gX 4 (.t 2)),zG 7 false 9 (.load false 1 (.t 8)),zG 7 false 10 (.len (.t 9)),zG 7 false 11 (.bin .gtr (.t 10) (kI 6)),qQ 12 7 11,zM 13 12,zG 13 false 14 (.gX 0 (.t 2)),zG 13 false 15 (.load false 1 (.t 14)),zG 13 false 16 (.bin .neq (.t 15) (kI 1)),zG 13 false 17 (.mv (.t 16)),zG 17 true 18 (.gX 1 (.t 2)),zG 17 true 19 (.load false 1 (.t 18)),zG 17 true 20 (.bin .neq (.t 19) (kI 0)),zG 13 false 21 (.pick (.t 17) (.t 20) (kB false)),qQ 22 13 21,zM 23 22,zG 23 false 24 (.gX 0 (.t 2)),zG 23 false 25 (.load false 1 (.t 24)),zG 23 false 26 (.bin .neq (.t 25) (kI 2)),zG 23 false 27 (.mv (.t 26)),zG 27 true 28 (.gX 2 (.t 2)),zG 27 true 29 (.load false 1 (.t 28)),zG 27 true 30 (.bin .neq (.t 29) (.k (.c (.str [])))),zG 23 false 31 (.pick (.t 27) (.t 30) (kB false)),qQ 32 23 31,zM 33 32,zG 33 false 34 (.gX 0 (.t 2)),zG 33 false 35 (.load false 1 (.t 34)),zG 33 false 36 (.bin .neq (.t 35) (kI 4)),zG 33 false 37 (.mv (.t 36)),zG 37 true 38 (.gX 3 (.t 2)),zG 37 true 39 (.load false 1 (.t 38)),zG 37 true 40 (.len (.t 39)),zG 37 true 41 (.bin .gtr (.t 40) (kI 0)),zG 33 false 42 (.pick (.t 37) (.t 41) (kB false)),qQ 43 33 42,zM 44 43,zG 44 false 45 (.gX 0 (.t 2)),zG 44 false 46 (.load false 1 (.t 45)),zG 44 false 47 (.bin .lss (.t 46) (kI 3)),zG 44 false 48 (.mv (.t 47)),zG 48 true 49 (.gX 4 (.t 2)),zG 48 true 50 (.load false 1 (.t 49)),zG 48 true 51 (.len (.t 50)),zG 48 true 52 (.bin .gtr (.t 51) (kI 0)),zG 44 false 53 (.pick (.t 48) (.t 52) (kB false)),qQ 54 44 53] [1,2,54]) (.cond (.t 54) (.seq (.reg [qB 4 false] [4]) .ret) .skip)) (.seq (.seq (.reg [qA 55 0 2,qF 56 1 55] [1,2,56]) (.block 0 (.seq (.reg [zA 58 (.bin .eql (.t 56) (kI 1)),zM 57 58] [1,2,56,57]) (.cond (.t 57) (.seq (.reg [qA 59 1 2,qF 60 1 59,⟨none,some 61,.call 106 [.t 60,kI (-999999),kI 999999]⟩,zM 4 61] [4]) .ret) (.seq (.reg [zA 63 (.bin .eql (.t 56) (kI 2)),zM 62 63] [1,2,56,62]) (.cond (.t 62) (.seq (.reg [qA 64 2 2,qF 65 1 64,q1 66 142 65,zM 4 66] [4]) .ret) (.seq (.reg [zA 68 (.bin .eql (.t 56) (kI 3)),zM 67 68] [1,2,56,67]) (.cond (.t 67) (.seq (.reg [qT 69 5 2,zM 70 1,q2 71 150 69 70,zM 4 71] [4]) .ret) (.seq (.reg [zA 73 (.bin .eql (.t 56) (kI 4)),zM 72 73] [1,2,72]) (.cond (.t 72) (.seq (.reg [qA 74 3 2,qF 75 1 74,qL 76 75,qA 77 4 2,qF 78 1 77,qL 79 78,zA 80 (.bin .eql (.t 76) (.t 79)),zM 81 80,zG 81 true 82 (.gX 3 (.t 2)),zG 81 true 83 (.load false 1 (.t 82)),⟨(some (81,true)),some 84,.call 151 [.t 83]⟩,qP 85 81 84,zM 86 85,zG 86 true 87 (.load true 5 (.t 2)),zG 86 true 88 (.mv (.t 1)),⟨(some (86,true)),some 89,.call 150 [.t 87,.t 88]⟩,qP 90 86 89,zM 4 90] [4]) .ret) .skip)))))))))) (.seq (.reg [qA 91 0 2,qF 92 1 91,zA 93 (.bin .eql (.t 92) (kI 0)),zM 4 93] [4]) .ret))))
theorem K.bJ:dO pZ 99 2 0 C.bJ [.tmp 4]=true:=by kernel_rfl
def C.bD:aO:=(.seq (.reg [qX 1 10 0,qB 2 false] [1]) (.seq (.reg [qT 3 5 1,⟨none,some 4,.call 99 [.t 3,kI 5]⟩,zM 5 4,zG 5 true 6 (.load true 5 (.t 1)),⟨(some (5,true)),some 7,.call 100 [.t 6]⟩,zG 5 true 8 (.bin .leq (.t 7) (kI 40)),qP 9 5 8,zM 2 9] [2]) .ret))
theorem K.bD:dO pZ 53 1 0 C.bD [.tmp 2]=true:=by kernel_rfl
def C.je:aO:=(.seq (.reg [qX 2 10 0,qZ 4 11,qB 5 false] [1,2,4]) (.seq (.seq (.reg [zM 6 1,qO 7 6,zM 8 7,zG 8 false 9 (.load true 5 (.t 2)),⟨(some (8,false)),some 10,.call 53 [.t 9]⟩,zG 8 false 11 (.not (.t 10)),qQ 12 8 11] [2,4,12]) (.cond (.t 12) (.seq (.reg [zA 13 (.build zN []),qS 5 4 13,qB 5 false] [4,5]) .ret) .skip)) (.seq (.reg [qT 14 5 2,qS 5 4 14,qB 5 true] [4,5]) .ret)))
theorem K.je:dO pZ 101 2 0 C.je [.cell 4 true 5,.tmp 5]=true:=by kernel_rfl
def C.iH:aO:=(.seq (.reg [qX 2 10 0,qX 3 11 1,qZ 4 12,qB 5 false] [2,3,4]) (.seq (.reg [qT 9 5 2,qT 10 8 3,q2 11 102 9 10,qE 12 11 0,qE 13 11 1,q2 14 101 12 13,zM 8 14,qE 15 8 0,qE 16 8 1,qZ 6 13,qS 5 6 15,zM 7 16] [4,6,7]) (.seq (.seq (.reg [zM 17 7,qO 18 17] [4,6,18]) (.cond (.t 18) (.seq (.reg [zA 19 (.build zN []),qS 5 4 19,qB 5 false] [4,5]) .ret) .skip)) (.seq (.reg [qT 20 5 6,q1 21 81 20,qS 5 4 21,qB 5 true] [4,5]) .ret))))
theorem K.iH:dO pZ 55 2 0 C.iH [.cell 4 true 5,.tmp 5]=true:=by kernel_rfl
def C.dw:aO:=(.seq (.reg [qB 2 false] [0]) (.seq (.seq (.reg [qI 3 0] [0,3]) (.block 0 (.loop (.seq (.seq (.reg [zM 4 3,zM 5 0,qL 6 5,zA 7 (.bin .lss (.t 4) (.t 6))] [0,3,7]) (.cond (.t 7) .skip (.exit 0))) (.seq (.block 1 (.seq (.reg [zM 10 0,zM 11 3,qD 12 1 10 11,qF 13 1 12,q1 14 142 13,qO 15 14] [0,3,15]) (.cond (.t 15) (.seq (.reg [qB 2 false] [2]) .ret) .skip))) (.reg [zM 8 3,zA 9 (.bin .add (.t 8) (kI 1)),zM 3 9] [0,3])))))) (.seq (.reg [zM 16 0,qL 17 16,zA 18 (.bin .leq (.t 17) (kI 5)),zM 2 18] [2]) .ret)))
theorem K.dw:dO pZ 87 1 0 C.dw [.tmp 2]=true:=by kernel_rfl
def C.jD:aO:=(.seq (.reg [qX 1 10 0,qB 2 false] [1]) (.seq (.reg [qA 3 0 1,qF 4 1 3,⟨none,some 5,.call 106 [.t 4,kI 1,kI 6]⟩,zM 6 5,zG 6 true 7 (.gX 1 (.t 1)),zG 6 true 8 (.load false 1 (.t 7)),⟨(some (6,true)),some 9,.call 87 [.t 8]⟩,qP 10 6 9,zM 11 10,zG 11 true 12 (.gX 2 (.t 1)),zG 11 true 13 (.load false 1 (.t 12)),⟨(some (11,true)),some 14,.call 87 [.t 13]⟩,qP 15 11 14,zM 16 15,zG 16 true 17 (.gX 3 (.t 1)),zG 16 true 18 (.load true 5 (.t 17)),⟨(some (16,true)),some 19,.call 53 [.t 18]⟩,qP 20 16 19,zM 2 20] [2]) .ret))
theorem K.jD:dO pZ 69 1 0 C.jD [.tmp 2]=true:=by kernel_rfl
def C.bf:aO:=(.seq (.reg [qB 2 false] [0]) (.seq (.seq (.reg [qI 3 0] [0,3]) (.block 0 (.loop (.seq (.seq (.reg [zM 4 3,zM 5 0,qL 6 5,zA 7 (.bin .lss (.t 4) (.t 6))] [0,3,7]) (.cond (.t 7) .skip (.exit 0))) (.seq (.block 1 (.seq (.reg [zM 10 0,zM 11 3,qD 12 8 10 11,qT 13 8 12,q1 14 69 13,qO 15 14] [0,3,15]) (.cond (.t 15) (.seq (.reg [qB 2 false] [2]) .ret) .skip))) (.reg [zM 8 3,zA 9 (.bin .add (.t 8) (kI 1)),zM 3 9] [0,3])))))) (.seq (.reg [zM 16 0,qL 17 16,zA 18 (.bin .leq (.t 17) (kI 12)),zM 2 18] [2]) .ret)))
theorem K.bf:dO pZ 54 1 0 C.bf [.tmp 2]=true:=by kernel_rfl
end Go.Ab
end
section
namespace Go.Ab
open Go
def Ev {α:Type} (g:Nat->Option α) (r:α):Prop:=∃ N,∀ n,N<=n->g n=some r
section
variable {α β:Type} {g g':Nat->Option α} {r s:α}
theorem Ev.ret (r:α):Ev (fun _=>some r) r:=⟨0,fun _ _=>rfl⟩
theorem Ev.ret' (h:s=r):Ev (fun _=>some s) r:=by subst h; exact Ev.ret _
theorem Ev.up (h:Ev (fun n=>g (n+1)) r):Ev g r:=by
 obtain ⟨N,h⟩:=h
 refine ⟨N+1,fun n hn => ?_⟩
 obtain ⟨m,rfl⟩:∃ m,n=m+1:=⟨n-1,by omega⟩
 exact h m (by omega)
theorem Ev.bind {h:Nat->Option β} {k:Nat->β->Option α} {a:β} (h1:Ev h a) (h2:Ev (fun n=>k n a) r):Ev (fun n=>Option.bind (h n) (k n)) r:=by
 obtain ⟨N,h1⟩:=h1
 obtain ⟨M,h2⟩:=h2
 refine ⟨max N M,fun n hn => ?_⟩
 show Option.bind (h n) (k n)=some r
 rw [h1 n (by omega)]
 exact h2 n (by omega)
theorem Ev.chk {p:Prop} [Decidable p] (hp:p) (h:Ev g r):Ev (fun n=>Ab.chk p (g n)) r:=by
 obtain ⟨N,h⟩:=h
 exact ⟨N,fun n hn=>by show Ab.chk p (g n)=some r; rw [Ab.chk,if_pos hp]; exact h n hn⟩
theorem Ev.ct {c:Bool} (hc:c=true) (h:Ev g r):Ev (fun n=>cond c (g n) (g' n)) r:=by subst hc; exact h
theorem Ev.cf {c:Bool} (hc:c=false) (h:Ev g' r):Ev (fun n=>cond c (g n) (g' n)) r:=by subst hc; exact h
theorem Ev.ite {c:Bool} (h:c=true->Ev g r) (h':c=false->Ev g' r):Ev (fun n=>cond c (g n) (g' n)) r:=by
 cases c
 ·exact h' rfl
 ·exact h rfl
theorem Ev.eq (h:Ev g r) (e:r=s):Ev g s:=e ▸ h
theorem Ev.val (h:Ev g r):∃ n,g n=some r:=⟨h.choose,h.choose_spec _ (Nat.le_refl _)⟩
end
theorem wrapN {x:Int} {m:Nat} (h:x=(m:Int)) (h1:m<9223372036854775808):IntKind.wrap .i64 x=(m:Int):=by
 rw [o5 (by omega) (by omega),h]
theorem aV {i:Nat} (h1:i+1<9223372036854775808):IntKind.wrap .i64 ((i:Int)+1)=((i+1:Nat):Int):=wrapN (by omega) h1
theorem bF {α:Type} {l:List α} {i:Nat} (d:α) (h:i<l.length):l.getD i d=l[i]:=by simp [List.getD,h]
theorem bg {α:Type} {l:List α} {i:Nat} (d:α) (h:i<l.length):l.drop i=l.getD i d::l.drop (i+1):=by
 rw [bF d h,List.drop_eq_getElem_cons h]
abbrev bl (x y:List UInt8):Bool:=Op.bytesLess x y
theorem KZ (x:List UInt8):bl x []=false:=by cases x<;>rfl
theorem DN (a b:UInt8) (x y:List UInt8):bl (a::x) (b::y)=(decide (a<b)||(a==b&&bl x y)):=rfl
theorem yQ:∀ x:List UInt8,bl x x=false
 | []=>rfl
 | a::x=>by rw [DN,yQ x]; simp
theorem pI:∀ {x y z:List UInt8},bl x y=true->bl y z=true->bl x z=true
  | _,[],_,h,_=>by rw [KZ] at h; cases h
  | _,_::_,[],_,h=>by rw [KZ] at h; cases h
  | [],_::_,_::_,_,_=>rfl
  | a::x,b::y,c::z,h,k=>by
    rw [DN] at *
    simp only [Bool.or_eq_true,Bool.and_eq_true,decide_eq_true_eq,beq_iff_eq] at *
    rcases h with h | ⟨rfl,h⟩<;>rcases k with k | ⟨rfl,k⟩
    · exact .inl (UInt8.lt_trans h k)
    · exact .inl h
    · exact .inl k
    · exact .inr ⟨rfl,pI h k⟩
theorem xm:∀ {x y:List UInt8},bl x y=false->bl y x=false->x=y
  | [],[],_,_=>rfl
  | [],_::_,h,_=>by cases h
  | _::_,[],_,h=>by cases h
  | a::x,b::y,h,k=>by
    rw [DN] at *
    simp only [Bool.or_eq_false_iff,Bool.and_eq_false_iff,decide_eq_false_iff_not] at *
    obtain ⟨h1,h2⟩:=h
    obtain ⟨k1,k2⟩:=k
    have e:a=b:=by
      apply UInt8.toNat_inj.1
      simp only [UInt8.lt_iff_toNat_lt] at h1 k1
      omega
    subst e
    simp only [beq_self_eq_true,Bool.true_eq_false,false_or] at h2 k2
    rw [xm h2 k2]
theorem zL {x y:List UInt8} (h:bl x y=true):bl y x=false:=by
 cases k:bl y x with
 | false=>rfl
 | true=>have:=pI h k; rw [yQ] at this; cases this
theorem uy {x y:List UInt8} (h:bl x y=true):x ≠ y:=by
 intro e; subst e; rw [yQ] at h; cases h
theorem Vj:∀ (x y:List UInt8),Go.Lib.compareBytes x y=if bl x y then -1 else if x=y then 0 else 1
  | [],[]=>rfl
  | [],_::_=>rfl
  | _::_,[]=>by simp [Go.Lib.compareBytes,KZ]
  | a::x,b::y=>by
    rw [Go.Lib.compareBytes,DN]
    by_cases h:a<b
    · simp [h]
    · by_cases k:b<a
      · have:a ≠ b:=fun e=>by subst e; exact h k
        simp [h,k,this]
      · have e:a=b:=by
          apply UInt8.toNat_inj.1
          simp only [UInt8.lt_iff_toNat_lt] at h k
          omega
        subst e
        rw [if_neg h,if_neg h,Vj x y]
        simp
theorem Gl {x y:List UInt8} : Go.Lib.compareBytes x y=0<->x=y:=by
 rw [Vj]
 by_cases h:bl x y=true
 ·simp only [h,if_true]
  exact ⟨fun e=>by omega,fun e=>absurd e (uy h)⟩
 ·simp only [h]
  by_cases e:x=y<;>simp [e]
end Go.Ab
end
section
namespace Go.Ab
open Go
def okB (b:UInt8):Bool:=decide (32<=b.toNat)&&decide (b.toNat<=126)
def PT (s:aS):Bool:=s.all okB&&decide (s.length<=12)
def PP (p:List aS):Bool:=p.all PT&&decide (p.length<=5)
def Asc:List aS->Bool
 | []=>true
 | [_]=>true
 | x::y::r=>Op.bytesLess x y&&Asc (y::r)
def big:Nat:=4611686018427387904
theorem uZ (b:UInt8):IntKind.wrap .i64 ((b.toNat:Nat):Int)=(b.toNat:Int):=by
 have:=b.toNat_lt
 exact wrapN rfl (by omega)
theorem T.bK (a lo hi:Int):Ev (fun n=>G.bK n a lo hi) (decide (lo<=a)&&decide (a<=hi)):=by
 refine Ev.up ?_
 simp only [G.bK]
 refine Ev.ite (fun h => ?_) (fun h => ?_)
 ·exact Ev.ret' (by rw [h,Bool.true_and])
 ·exact Ev.ret' (by rw [h,Bool.false_and])
theorem T.bY.L1 (s:aS) (hs:s.length<big):∀ (k i:Nat),i+k=s.length->Ev (fun n=>G.bY.L1 n s i) ((s.drop i).all okB&&decide (s.length<=12)):=by
  unfold big at hs
  intro k
  induction k with
  | zero =>
    intro i hi
    refine Ev.up ?_
    simp only [G.bY.L1]
    refine Ev.cf (by simp; omega) (Ev.ret' ?_)
    rw [List.drop_of_length_le (by omega)]
    simp
    omega
  | succ k ih =>
    intro i hi
    refine Ev.up ?_
    simp only [G.bY.L1]
    refine Ev.ct (by simp; omega) (Ev.chk (by omega) ?_)
    refine Ev.bind (T.bK _ _ _) ?_
    rw [bg (0:UInt8) (by omega:i<s.length),List.all_cons,Int.toNat_natCast,uZ]
    have e:(decide ((32:Int)<=((s.getD i 0).toNat:Int))&&decide (((s.getD i 0).toNat:Int)<=126))=okB (s.getD i 0):=by
      unfold okB; congr 1<;>(apply decide_eq_decide.2; omega)
    rw [e]
    refine Ev.ite (fun h => ?_) (fun h => ?_)
    · rw [aV (by omega),h,Bool.true_and]
      exact ih (i+1) (by omega)
    · exact Ev.ret' (by rw [h]; rfl)
theorem T.bY (s:aS) (hs:s.length<big):Ev (fun n=>G.bY n s) (PT s):=by
 refine Ev.up ?_
 simp only [G.bY]
 exact T.bY.L1 s hs s.length 0 (by omega)
theorem T.bu.L1 (s:aS) (hs:s.length<big):∀ (k i:Nat),i+k=s.length->Ev (fun n=>G.bu.L1 n s i) ((s.drop i).all okB):=by
  unfold big at hs
  intro k
  induction k with
  | zero =>
    intro i hi
    refine Ev.up ?_
    simp only [G.bu.L1]
    refine Ev.cf (by simp; omega) (Ev.ret' ?_)
    rw [List.drop_of_length_le (by omega)]
    rfl
  | succ k ih =>
    intro i hi
    refine Ev.up ?_
    simp only [G.bu.L1]
    rw [bg (0:UInt8) (by omega:i<s.length),List.all_cons,Int.toNat_natCast]
    refine Ev.ct (by simp; omega) (Ev.chk (by omega) ?_)
    refine Ev.ite (fun h => ?_) (fun h => ?_)
    · refine Ev.ret' ?_
      have:okB (s.getD i 0)=false:=by
        simp only [decide_eq_true_eq] at h
        simp only [okB,Bool.and_eq_false_iff,decide_eq_false_iff_not]
        omega
      rw [this]; rfl
    · refine Ev.chk (by omega) ?_
      refine Ev.ite (fun k => ?_) (fun k => ?_)
      · refine Ev.ret' ?_
        have:okB (s.getD i 0)=false:=by
          simp only [decide_eq_true_eq] at k
          simp only [okB,Bool.and_eq_false_iff,decide_eq_false_iff_not]
          omega
        rw [this]; rfl
      · have:okB (s.getD i 0)=true:=by
          simp only [decide_eq_false_iff_not] at h k
          simp only [okB,Bool.and_eq_true,decide_eq_true_eq]
          omega
        rw [this,Bool.true_and,aV (by omega)]
        exact ih (i+1) (by omega)
theorem T.bu (s:aS) (hs:s.length<big):Ev (fun n=>G.bu n s) (PT s):=by
 refine Ev.up ?_
 simp only [G.bu]
 refine Ev.ite (fun h => ?_) (fun h => ?_)
 ·simp only [decide_eq_true_eq] at h
  refine Ev.ret' ?_
  have:decide (s.length<=12)=false:=by simp; omega
  rw [PT,this,Bool.and_false]
 ·simp only [decide_eq_false_iff_not] at h
  refine (T.bu.L1 s hs s.length 0 (by omega)).eq ?_
  have:decide (s.length<=12)=true:=by simp; omega
  rw [PT,this,Bool.and_true,List.drop_zero]
def Sm (l:List aS):Prop:=l.length<big/\∀ s,s∈l->s.length<big
theorem Sm.get {l:List aS} (h:Sm l) {i:Nat} (hi:i<l.length):(l.getD i default).length<big:=by
 rw [bF _ hi]
 exact h.2 _ (List.getElem_mem hi)
theorem T.dw.L1 (p:List aS) (hp:Sm p):∀ (k i:Nat),i+k=p.length->Ev (fun n=>G.dw.L1 n p i) ((p.drop i).all PT&&decide (p.length<=5)):=by
  have hl:=hp.1
  unfold big at hl
  intro k
  induction k with
  | zero =>
    intro i hi
    refine Ev.up ?_
    simp only [G.dw.L1]
    refine Ev.cf (by simp; omega) (Ev.ret' ?_)
    rw [List.drop_of_length_le (by omega)]
    simp
    omega
  | succ k ih =>
    intro i hi
    refine Ev.up ?_
    simp only [G.dw.L1]
    refine Ev.ct (by simp; omega) (Ev.chk (by omega) ?_)
    rw [bg (default:aS) (by omega:i<p.length),List.all_cons,Int.toNat_natCast]
    refine Ev.bind (T.bY _ (hp.get (by omega))) ?_
    refine Ev.ite (fun h => ?_) (fun h => ?_)
    · rw [aV (by omega),h,Bool.true_and]
      exact ih (i+1) (by omega)
    · exact Ev.ret' (by rw [h]; rfl)
theorem T.dw (p:List aS) (hp:Sm p):Ev (fun n=>G.dw n p) (PP p):=by
 refine Ev.up ?_
 simp only [G.dw]
 exact T.dw.L1 p hp p.length 0 (by omega)
theorem T.cO.L1 (p:List aS) (hp:Sm p):∀ (k i:Nat),i+k=p.length->Ev (fun n=>G.cO.L1 n p i) ((p.drop i).all PT):=by
  have hl:=hp.1
  unfold big at hl
  intro k
  induction k with
  | zero =>
    intro i hi
    refine Ev.up ?_
    simp only [G.cO.L1]
    refine Ev.cf (by simp; omega) (Ev.ret' ?_)
    rw [List.drop_of_length_le (by omega)]
    rfl
  | succ k ih =>
    intro i hi
    refine Ev.up ?_
    simp only [G.cO.L1]
    refine Ev.ct (by simp; omega) (Ev.chk (by omega) ?_)
    rw [bg (default:aS) (by omega:i<p.length),List.all_cons,Int.toNat_natCast]
    refine Ev.bind (T.bu _ (hp.get (by omega))) ?_
    refine Ev.ite (fun h => ?_) (fun h => ?_)
    · rw [aV (by omega),h,Bool.true_and]
      exact ih (i+1) (by omega)
    · exact Ev.ret' (by rw [h]; rfl)
theorem T.cO (p:List aS) (hp:Sm p):Ev (fun n=>G.cO n p) (PP p):=by
 refine Ev.up ?_
 simp only [G.cO]
 refine Ev.ite (fun h => ?_) (fun h => ?_)
 ·simp only [decide_eq_true_eq] at h
  refine Ev.ret' ?_
  have:decide (p.length<=5)=false:=by simp; omega
  rw [PP,this,Bool.and_false]
 ·simp only [decide_eq_false_iff_not] at h
  refine (T.cO.L1 p hp p.length 0 (by omega)).eq ?_
  have:decide (p.length<=5)=true:=by simp; omega
  rw [PP,this,Bool.and_true,List.drop_zero]
def NM (l:List aS):Bool:=l.all PT&&Asc l
theorem drop_pred {l:List aS} {i:Nat} (h0:0<i) (h:i<l.length):l.drop (i-1)=l.getD (i-1) default::l.getD i default::l.drop (i+1):=by
 rw [bg (default:aS) (by omega:i-1<l.length),show i-1+1=i by omega,bg (default:aS) h]
theorem T.gW.L1 (l:List aS) (hp:Sm l):∀ (k i:Nat),i+k=l.length->Ev (fun n=>G.gW.L1 n l i) ((l.drop i).all PT&&Asc (l.drop (i-1))):=by
  have hl:=hp.1
  unfold big at hl
  intro k
  induction k with
  | zero =>
    intro i hi
    refine Ev.up ?_
    simp only [G.gW.L1]
    refine Ev.cf (by simp; omega) (Ev.ret' ?_)
    rw [List.drop_of_length_le (by omega)]
    by_cases h0:i=0
    · rw [List.drop_of_length_le (by omega)]; rfl
    · rw [bg (default:aS) (by omega:i-1<l.length),List.drop_of_length_le (by omega)]; rfl
  | succ k ih =>
    intro i hi
    refine Ev.up ?_
    simp only [G.gW.L1]
    refine Ev.ct (by simp; omega) (Ev.chk (by omega) ?_)
    rw [bg (default:aS) (by omega:i<l.length),List.all_cons,Int.toNat_natCast]
    refine Ev.bind (T.bY _ (hp.get (by omega))) ?_
    refine Ev.ite (fun h => ?_) (fun h => ?_)
    · rw [h,Bool.true_and,aV (by omega)]
      refine Ev.ite (fun h0 => ?_) (fun h0 => ?_)
      · simp only [decide_eq_true_eq] at h0
        have e:IntKind.wrap .i64 ((i:Int)-1)=((i-1:Nat):Int):=wrapN (by omega) (by omega)
        rw [e,Int.toNat_natCast]
        refine Ev.chk (by omega) (Ev.chk (by omega) ?_)
        rw [drop_pred (by omega) (by omega),Asc]
        have hd:l.getD i default::l.drop (i+1)=l.drop (i+1-1):=by rw [Nat.add_sub_cancel,<- bg (default:aS) (by omega:i<l.length)]
        refine Ev.ite (fun h1 => ?_) (fun h1 => ?_)
        · exact Ev.ret' (by rw [show Op.bytesLess (l.getD (i-1) default) (l.getD i default)=false from zL h1]; simp)
        · refine Ev.ite (fun h2 => ?_) (fun h2 => ?_)
          · rw [beq_iff_eq] at h2
            exact Ev.ret' (by rw [show Op.bytesLess (l.getD (i-1) default) (l.getD i default)=false by rw [h2]; exact yQ _]; simp)
          · have:Op.bytesLess (l.getD (i-1) default) (l.getD i default)=true:=by
              cases hb:Op.bytesLess (l.getD (i-1) default) (l.getD i default) with
              | true=>rfl
              | false=>rw [xm h1 hb] at h2; simp at h2
            rw [this,Bool.true_and,hd]
            exact ih (i+1) (by omega)
      · simp only [decide_eq_false_iff_not] at h0
        have:i=0:=by omega
        subst this
        exact ih 1 (by omega)
    · exact Ev.ret' (by rw [h]; rfl)
theorem T.gW (l:List aS) (hp:Sm l):Ev (fun n=>G.gW n l) (NM l):=by
 refine Ev.up ?_
 simp only [G.gW]
 exact T.gW.L1 l hp l.length 0 (by omega)
theorem T.dJ.L1 (l:List aS) (hp:Sm l):∀ (k i:Nat),i+k=l.length->Ev (fun n=>G.dJ.L1 n l i) ((l.drop i).all PT&&Asc (l.drop (i-1))):=by
  have hl:=hp.1
  unfold big at hl
  intro k
  induction k with
  | zero =>
    intro i hi
    refine Ev.up ?_
    simp only [G.dJ.L1]
    refine Ev.cf (by simp; omega) (Ev.ret' ?_)
    rw [List.drop_of_length_le (by omega)]
    by_cases h0:i=0
    · rw [List.drop_of_length_le (by omega)]; rfl
    · rw [bg (default:aS) (by omega:i-1<l.length),List.drop_of_length_le (by omega)]; rfl
  | succ k ih =>
    intro i hi
    refine Ev.up ?_
    simp only [G.dJ.L1]
    refine Ev.ct (by simp; omega) (Ev.chk (by omega) ?_)
    rw [bg (default:aS) (by omega:i<l.length),List.all_cons,Int.toNat_natCast]
    refine Ev.bind (T.bu _ (hp.get (by omega))) ?_
    refine Ev.ite (fun h => ?_) (fun h => ?_)
    · rw [h,Bool.true_and,aV (by omega)]
      refine Ev.ite (fun h0 => ?_) (fun h0 => ?_)
      · simp only [decide_eq_true_eq] at h0
        have e:IntKind.wrap .i64 ((i:Int)-1)=((i-1:Nat):Int):=wrapN (by omega) (by omega)
        rw [e,Int.toNat_natCast]
        refine Ev.chk (by omega) ?_
        rw [drop_pred (by omega) (by omega),Asc]
        have hd:l.getD i default::l.drop (i+1)=l.drop (i+1-1):=by rw [Nat.add_sub_cancel,<- bg (default:aS) (by omega:i<l.length)]
        refine Ev.ite (fun h1 => ?_) (fun h1 => ?_)
        · rw [h1,Bool.true_and,hd]
          exact ih (i+1) (by omega)
        · exact Ev.ret' (by rw [h1]; simp)
      · simp only [decide_eq_false_iff_not] at h0
        have:i=0:=by omega
        subst this
        exact ih 1 (by omega)
    · exact Ev.ret' (by rw [h]; rfl)
theorem T.dJ (l:List aS) (hp:Sm l):Ev (fun n=>G.dJ n l) (NM l&&decide (l.length<=6)):=by
 refine Ev.up ?_
 simp only [G.dJ]
 refine Ev.ite (fun h => ?_) (fun h => ?_)
 ·simp only [decide_eq_true_eq] at h
  refine Ev.ret' ?_
  have:decide (l.length<=6)=false:=by simp; omega
  rw [this,Bool.and_false]
 ·simp only [decide_eq_false_iff_not] at h
  refine (T.dJ.L1 l hp l.length 0 (by omega)).eq ?_
  have:decide (l.length<=6)=true:=by simp; omega
  rw [NM,this,Bool.and_true,List.drop_zero]
end Go.Ab
end
section
namespace Go.Ab
open Go
def Fine (B:Nat):Nat->af->Prop
 | 0,_=>False
 | d+1,n=>n.Text.length<=B/\n.Names.length<=B/\(∀ s,s∈n.Names->s.length<=B)/\n.Kids.length<=B/\(n.Kind=4->n.Kids.length<=n.Names.length)/\∀ k,k∈n.Kids->Fine B d k
theorem Fine.mono {B C:Nat} (hB:B<=C):∀ {d e:Nat} {n:af},d<=e->Fine B d n->Fine C e n
  | 0,_,_,_,h=>h.elim
  | d+1,0,_,hd,_=>by omega
  | d+1,e+1,n,hd,h=>by
    obtain ⟨h1,h2,h3,h4,h5,h6⟩:=h
    exact ⟨by omega,by omega,fun s hs=>Nat.le_trans (h3 s hs) hB,by omega,h5,fun k hk=>(h6 k hk).mono hB (by omega)⟩
def lim:Nat:=4294967296
theorem Fine.sm {B d:Nat} {n:af} (hB:B<=lim) (h:Fine B d n):Sm n.Names:=by
  cases d with
  | zero=>exact h.elim
  | succ d =>
    obtain ⟨h1,h2,h3,h4,h5,h6⟩:=h
    unfold lim at hB
    exact ⟨by unfold big; omega,fun s hs=>by have:=h3 s hs; unfold big; omega⟩
theorem Fine.text {B d:Nat} {n:af} (hB:B<=lim) (h:Fine B d n):n.Text.length<big:=by
 cases d with
 | zero=>exact h.elim
 | succ d=>obtain ⟨h1,_⟩:=h; unfold lim at hB; unfold big; omega
theorem Fine.kids {B d:Nat} {n:af} (h:Fine B d n):n.Kids.length<=B:=by
 cases d with
 | zero=>exact h.elim
 | succ d=>exact h.2.2.2.1
theorem Fine.names {B d:Nat} {n:af} (h:Fine B d n):n.Names.length<=B:=by
 cases d with
 | zero=>exact h.elim
 | succ d=>exact h.2.1
theorem Fine.map {B d:Nat} {n:af} (h:Fine B d n) (hk:n.Kind=4):n.Kids.length<=n.Names.length:=by
 cases d with
 | zero=>exact h.elim
 | succ d=>exact h.2.2.2.2.1 hk
theorem Fine.kid {B d:Nat} {n:af} (h:Fine B (d+1) n) {i:Nat} (hi:i<n.Kids.length):Fine B d (n.Kids.getD i default):=by
 rw [bF _ hi]
 exact h.2.2.2.2.2 _ (List.getElem_mem hi)
def Parts (n:af):Bool :=
  (n.Kind==1||n.Num==0)&&(n.Kind==2||n.Text==[])&&(n.Kind==4||n.Names.length==0) &&
  (if n.Kind=0 then n.Kids.length==0 else if n.Kind=1 then (decide (-999999<=n.Num)&&decide (n.Num<=999999))&&n.Kids.length==0 else if n.Kind=2 then PT n.Text&&n.Kids.length==0
   else if n.Kind=3 then decide (n.Kids.length<=6) else if n.Kind=4 then NM n.Names&&decide (n.Names.length<=6)&&n.Kids.length==n.Names.length else false)
def Shape:Nat->af->Bool
 | 0,_=>false
 | d+1,n=>Parts n&&n.Kids.all (Shape d)
theorem ilen {a b:Nat} : (((a:Nat):Int)==((b:Nat):Int))=(a==b):=by
 rw [Bool.eq_iff_iff]; simp; omega
theorem UU {a:Nat} : (((a:Nat):Int)==0)=(a==0):=by
 rw [Bool.eq_iff_iff]; simp
theorem DT {a b:Nat} : decide (((a:Nat):Int)<=((b:Nat):Int))=decide (a<=b):=by
 rw [Bool.eq_iff_iff]; simp
def su (n:af):Bool :=
  (n.Kind==4||n.Names.length==0) &&
  (if n.Kind=0 then n.Kids.length==0 else if n.Kind=1 then (decide (-999999<=n.Num)&&decide (n.Num<=999999))&&n.Kids.length==0 else if n.Kind=2 then PT n.Text&&n.Kids.length==0
   else if n.Kind=3 then decide (n.Kids.length<=6) else if n.Kind=4 then NM n.Names&&decide (n.Names.length<=6)&&n.Kids.length==n.Names.length else false)
theorem Jb (n:af):Parts n=((n.Kind==1||n.Num==0)&&(n.Kind==2||n.Text==[])&&su n):=by
 unfold Parts su; simp only [Bool.and_assoc]
theorem T.aN.K1 {B d:Nat} {n:af} (hB:B<=lim) (h:Fine B d n):Ev (fun f=>G.aN.K1 f n) (su n):=by
 refine Ev.up ?_
 simp only [G.aN.K1]
 have ht:=T.bu _ (h.text hB)
 have hn:=T.dJ _ (h.sm hB)
 have h0:decide ((0:Int)<((n.Names.length:Nat):Int)) = !(n.Names.length==0):=by
  cases hq:n.Names.length<;>simp
 have h6:decide (((n.Kids.length:Nat):Int)<=6)=decide (n.Kids.length<=6):=by rw [Bool.eq_iff_iff]; simp; omega
 rw [h0]
 have tail:Ev (fun f=>cond (n.Kind==0) (some (((n.Kids.length:Nat):Int)==0)) (cond (n.Kind==1) (cond (decide ((-999999)<=n.Num)) (cond (decide (n.Num<=999999)) (some (((n.Kids.length:Nat):Int)==0)) (some false)) (some false))
   (cond (n.Kind==2) (Option.bind (G.bu f n.Text) fun v3=>cond v3 (some (((n.Kids.length:Nat):Int)==0)) (some false))
   (cond (n.Kind==3) (some (decide (((n.Kids.length:Nat):Int)<=6))) (cond (n.Kind==4) (Option.bind (G.dJ f n.Names) fun v4=>cond v4 (some (((n.Kids.length:Nat):Int)==((n.Names.length:Nat):Int))) (some false)) (some false))))))
   (if n.Kind=0 then n.Kids.length==0 else if n.Kind=1 then (decide (-999999<=n.Num)&&decide (n.Num<=999999))&&n.Kids.length==0 else if n.Kind=2 then PT n.Text&&n.Kids.length==0
    else if n.Kind=3 then decide (n.Kids.length<=6) else if n.Kind=4 then NM n.Names&&decide (n.Names.length<=6)&&n.Kids.length==n.Names.length else false):=by
  rw [UU,ilen,h6]
  refine Ev.ite (fun e=>Ev.ret' ?_) (fun e0 => ?_)
  ·rw [if_pos (by simpa using e)]
  rw [if_neg (by simpa using e0)]
  refine Ev.ite (fun e => ?_) (fun e1 => ?_)
  ·rw [if_pos (by simpa using e)]
   refine Ev.ite (fun k=>Ev.ite (fun k2=>Ev.ret' ?_) (fun k2=>Ev.ret' ?_)) (fun k=>Ev.ret' ?_)
   ·rw [k,k2]; simp
   ·rw [k2]; simp
   ·rw [k]; simp
  rw [if_neg (by simpa using e1)]
  refine Ev.ite (fun e => ?_) (fun e2 => ?_)
  ·rw [if_pos (by simpa using e)]
   refine Ev.bind ht (Ev.ite (fun k=>Ev.ret' ?_) (fun k=>Ev.ret' ?_))
   ·rw [k,Bool.true_and]
   ·rw [k,Bool.false_and]
  rw [if_neg (by simpa using e2)]
  refine Ev.ite (fun e=>Ev.ret' ?_) (fun e3 => ?_)
  ·rw [if_pos (by simpa using e)]
  rw [if_neg (by simpa using e3)]
  refine Ev.ite (fun e => ?_) (fun e4=>Ev.ret' ?_)
  ·rw [if_pos (by simpa using e)]
   refine Ev.bind hn (Ev.ite (fun k=>Ev.ret' ?_) (fun k=>Ev.ret' ?_))
   ·rw [k,Bool.true_and]
   ·rw [k,Bool.false_and]
  ·rw [if_neg (by simpa using e4)]
 refine Ev.ite (fun e => ?_) (fun e => ?_)
 ·have e':(n.Kind==4)=false:=by simpa using e
  refine Ev.ite (fun k=>Ev.ret' ?_) (fun k => ?_)
  ·rw [Bool.not_eq_true'] at k; rw [su,e',k]; rfl
  ·rw [Bool.not_eq_false'] at k; exact tail.eq (by rw [su,k,Bool.or_true,Bool.true_and])
 ·have e':(n.Kind==4)=true:=by simpa using e
  exact tail.eq (by rw [su,e',Bool.true_or,Bool.true_and])
theorem T.aN {B d:Nat} {n:af} (hB:B<=lim) (h:Fine B d n):Ev (fun f=>G.aN f n) (Parts n):=by
 refine Ev.up ?_
 simp only [G.aN]
 have hk:=T.aN.K1 hB h
 rw [Jb]
 have tail:Ev (fun f=>cond (n.Kind != 2) (cond (n.Text==[]) (G.aN.K1 f n) (some false)) (G.aN.K1 f n)) ((n.Kind==2||n.Text==[])&&su n):=by
  refine Ev.ite (fun e => ?_) (fun e => ?_)
  ·have e':(n.Kind==2)=false:=by simpa using e
   refine Ev.ite (fun k => ?_) (fun k=>Ev.ret' ?_)
   ·exact hk.eq (by rw [k,Bool.or_true,Bool.true_and])
   ·rw [e',k]; rfl
  ·have e':(n.Kind==2)=true:=by simpa using e
   exact hk.eq (by rw [e',Bool.true_or,Bool.true_and])
 refine Ev.ite (fun e => ?_) (fun e => ?_)
 ·have e':(n.Kind==1)=false:=by simpa using e
  refine Ev.ite (fun k=>Ev.ret' ?_) (fun k => ?_)
  ·have:(n.Num==0)=false:=by simpa using k
   rw [e',this]; rfl
  ·have:(n.Num==0)=true:=by simpa using k
   exact tail.eq (by rw [this,Bool.or_true,Bool.true_and])
 ·have e':(n.Kind==1)=true:=by simpa using e
  exact tail.eq (by rw [e',Bool.true_or,Bool.true_and])
end Go.Ab
end
section
namespace Go.Ab
open Go
theorem T.gG.L1 {B D d:Nat} {n:af} (hB:B<=lim) (h:Fine B (D+1) n) (hd:d<1000) (hs:∀ k,k∈n.Kids->Ev (fun f=>G.bJ f k d) (Shape d k)) :
    ∀ (k i:Nat),i+k=n.Kids.length->Ev (fun f=>G.gG.L1 f n ((d+1:Nat):Int) i) ((n.Kids.drop i).all (Shape d)):=by
  have hl:=h.kids
  unfold lim at hB
  intro k
  induction k with
  | zero =>
    intro i hi
    refine Ev.up ?_
    simp only [G.gG.L1]
    refine Ev.cf (by simp; omega) (Ev.ret' ?_)
    rw [List.drop_of_length_le (by omega)]
    rfl
  | succ k ih =>
    intro i hi
    refine Ev.up ?_
    simp only [G.gG.L1]
    refine Ev.ct (by simp; omega) (Ev.chk (by omega) ?_)
    rw [bg (default:af) (by omega:i<n.Kids.length),List.all_cons,Int.toNat_natCast]
    have e:IntKind.wrap .i64 (((d+1:Nat):Int)-1)=(d:Int):=wrapN (by omega) (by omega)
    rw [e]
    refine Ev.bind (hs _ (by rw [bF _ (by omega:i<n.Kids.length)]; exact List.getElem_mem _)) ?_
    refine Ev.ite (fun h => ?_) (fun h => ?_)
    · rw [aV (by omega),h,Bool.true_and]
      exact ih (i+1) (by omega)
    · exact Ev.ret' (by rw [h]; rfl)
theorem T.gG {B D d:Nat} {n:af} (hB:B<=lim) (h:Fine B (D+1) n) (hd:d<1000) (hs:∀ k,k∈n.Kids->Ev (fun f=>G.bJ f k d) (Shape d k)) :
  Ev (fun f=>G.gG f n ((d+1:Nat):Int)) (n.Kids.all (Shape d)):=by
 refine Ev.up ?_
 simp only [G.gG]
 exact T.gG.L1 hB h hd hs n.Kids.length 0 (by omega)
def VW (d:Nat) (n:af):Bool :=
 if n.Kind=1 then decide (-999999<=n.Num)&&decide (n.Num<=999999) else if n.Kind=2 then PT n.Text else if n.Kind=3 then n.Kids.all (Shape d)
 else if n.Kind=4 then n.Names.length==n.Kids.length&&NM n.Names&&n.Kids.all (Shape d) else n.Kind==0
theorem T.bJ.K1 {B D d:Nat} {n:af} (hB:B<=lim) (h:Fine B (D+1) n) (hd:d<1000) (hs:∀ k,k∈n.Kids->Ev (fun f=>G.bJ f k d) (Shape d k)) :
  Ev (fun f=>G.bJ.K1 f n ((d+1:Nat):Int)) (VW d n):=by
 refine Ev.up ?_
 simp only [G.bJ.K1]
 have hk:=T.gG hB h hd hs
 unfold VW
 refine Ev.ite (fun e => ?_) (fun e1 => ?_)
 ·rw [if_pos (by simpa using e)]
  exact Ev.bind (T.bK _ _ _) (Ev.ret _)
 rw [if_neg (by simpa using e1)]
 refine Ev.ite (fun e => ?_) (fun e2 => ?_)
 ·rw [if_pos (by simpa using e)]
  exact Ev.bind (T.bY _ (h.text hB)) (Ev.ret _)
 rw [if_neg (by simpa using e2)]
 refine Ev.ite (fun e => ?_) (fun e3 => ?_)
 ·rw [if_pos (by simpa using e)]
  exact Ev.bind hk (Ev.ret _)
 rw [if_neg (by simpa using e3)]
 refine Ev.ite (fun e => ?_) (fun e4 => ?_)
 ·rw [if_pos (by simpa using e),ilen]
  refine Ev.ite (fun k => ?_) (fun k=>Ev.ret' (by rw [k]; rfl))
  refine Ev.bind (T.gW _ (h.sm hB)) ?_
  refine Ev.ite (fun k2 => ?_) (fun k2=>Ev.ret' (by rw [k2]; simp))
  exact Ev.bind hk (Ev.ret' (by rw [k,k2]; rfl))
 ·exact Ev.ret' (by rw [if_neg (by simpa using e4)])
theorem Uf {a:Nat} : decide ((0:Int)<((a:Nat):Int)) = !(a==0):=by cases a<;>simp
theorem BC {c a:Bool} {g:Nat->Option Bool} {V:Bool} (h:Ev g V):Ev (fun f=>cond c (cond a (some false) (g f)) (g f)) ((!c || !a)&&V):=by
 cases c<;>cases a
 ·exact h
 ·exact h
 ·exact h
 ·exact Ev.ret _
theorem Nj {c a:Bool} {g:Nat->Option Bool} {V:Bool} (h:Ev g V):Ev (fun f=>cond c (cond a (g f) (some false)) (g f)) ((!c||a)&&V):=by
 cases c<;>cases a
 ·exact h
 ·exact h
 ·exact Ev.ret _
 ·exact h
theorem wC {n:af} (h:6<n.Kids.length):Parts n=false:=by
  have e0:(n.Kids.length==0)=false:=beq_eq_false_iff_ne.2 (by omega)
  have e6:decide (n.Kids.length<=6)=false:=by simp; omega
  have e4:(NM n.Names&&decide (n.Names.length<=6)&&n.Kids.length==n.Names.length)=false:=by
    cases h1:decide (n.Names.length<=6) with
    | false=>simp
    | true =>
      have:(n.Kids.length==n.Names.length)=false:=by simp at h1; simp; omega
      rw [this,Bool.and_false]
  unfold Parts
  rw [e0,e6,e4]
  simp
theorem Kt {d:Nat} {n:af} (h:n.Kids.length<=6) :
  ((!(n.Kind != 1) || !(n.Num != 0))&&((!(n.Kind != 2)||n.Text==[])&&((!(n.Kind != 4) || !(!(n.Names.length==0)))&&((!(decide (n.Kind<3)) || !(!(n.Kids.length==0)))&&VW d n))))=Shape (d+1) n:=by
 have e6:decide (n.Kids.length<=6)=true:=by simp; omega
 have hall:n.Kids.length=0->n.Kids.all (Shape d)=true:=fun e=>by rw [List.eq_nil_of_length_eq_zero e]; rfl
 have hb:∀ x y:Int,(!(x != y))=(x==y):=fun x y=>by simp [bne]
 rw [hb,hb,hb,hb]
 unfold Shape Parts VW
 simp only [Bool.not_not,Bool.and_assoc]
 congr 1
 congr 1
 congr 1
 rw [e6]
 by_cases k0:n.Kind=0
 ·simp only [k0]; cases hz:(n.Kids.length==0)<;>simp_all
 by_cases k1:n.Kind=1
 ·simp only [k1]; cases hz:(n.Kids.length==0)<;>simp_all
 by_cases k2:n.Kind=2
 ·simp only [k2]; cases hz:(n.Kids.length==0)<;>simp_all
 by_cases k3:n.Kind=3
 ·simp [k3]
 by_cases k4:n.Kind=4
 ·simp only [k4]
  have hc:(n.Kids.length==n.Names.length)=(n.Names.length==n.Kids.length):=by rw [Bool.eq_iff_iff]; simp; omega
  rw [hc]
  cases hz:(n.Names.length==n.Kids.length)
  ·simp
  ·have:decide (n.Names.length<=6)=true:=by simp at hz; simp; omega
   simp [this]
 ·simp [k0,k1,k2,k3,k4]
def Cnt:Nat->af->Nat
 | 0,_=>0
 | d+1,n=>1+(n.Kids.map (Cnt d)).sum
theorem jG {d:Nat} {n:af} (h:Shape (d+1) n=true):Parts n=true:=by
 unfold Shape at h; simp only [Bool.and_eq_true] at h; exact h.1
theorem kY {d:Nat} {n:af} (h:Shape (d+1) n=true):∀ k,k∈n.Kids->Shape d k=true:=by
 unfold Shape at h; simp only [Bool.and_eq_true] at h; exact List.all_eq_true.1 h.2
theorem qR {d:Nat} {n:af} (h:Shape d n=true):n.Kids.length<=6:=by
  cases d with
  | zero=>cases h
  | succ d =>
    by_cases k:n.Kids.length<=6
    · exact k
    · have:=wC (n:=n) (by omega); rw [jG h] at this; cases this
theorem Sr {α:Type} (f:α->Nat) (m:Nat):∀ l:List α,(∀ x,x∈l->f x<=m)->(l.map f).sum<=l.length*m
  | [],_=>by simp
  | x::l,h=>by
    have h1:=Sr f m l (fun y hy=>h y (by simp [hy]))
    have h2:=h x (by simp)
    simp only [List.map_cons,List.sum_cons,List.length_cons,Nat.add_mul]
    omega
theorem cnt_le:∀ {d:Nat} {n:af},Shape d n=true->Cnt d n<=7^d
  | 0,_,h=>by cases h
  | d+1,n,h=>by
    have hk:=kY h
    have:=Sr (Cnt d) (7^d) n.Kids (fun k hk'=>cnt_le (hk k hk'))
    have h6:=qR h
    have hm:n.Kids.length*7^d<=6*7^d:=Nat.mul_le_mul_right _ h6
    have hp:1<=7^d:=Nat.one_le_pow _ _ (by omega)
    unfold Cnt
    rw [Nat.pow_succ]
    omega
theorem Cc {d:Nat} (h:d<=5):7^d<=16807:=Nat.le_trans (Nat.pow_le_pow_right (by omega) h) (by decide)
theorem T.bJ {B:Nat} (hB:B<=lim):∀ (d D:Nat) (n:af),d<1000->Fine B D n->Ev (fun f=>G.bJ f n (d:Int)) (Shape d n):=by
  intro d
  induction d with
  | zero =>
    intro D n _ h
    refine Ev.up ?_
    simp only [G.bJ]
    exact Ev.ct (by simp) (Ev.ret _)
  | succ d ih =>
    intro D n hd h
    cases D with
    | zero=>exact h.elim
    | succ D =>
    have hK:=T.bJ.K1 (d:=d) hB h (by omega) (fun k hk=>ih D k (by omega) (h.2.2.2.2.2 k hk))
    refine Ev.up ?_
    simp only [G.bJ]
    rw [Uf,Uf]
    have t1:=BC (c:=decide (n.Kind<3)) (a := !(n.Kids.length==0)) hK
    have t2:=BC (c:=n.Kind != 4) (a := !(n.Names.length==0)) t1
    have t3:=Nj (c:=n.Kind != 2) (a:=n.Text==[]) t2
    have t4:=BC (c:=n.Kind != 1) (a:=n.Num != 0) t3
    refine Ev.cf (by simp; omega) ?_
    refine Ev.ite (fun e=>Ev.ret' ?_) (fun e=>t4.eq ?_)
    · simp only [decide_eq_true_eq] at e
      rw [Shape,wC (by omega)]; rfl
    · simp only [decide_eq_false_iff_not] at e
      exact Kt (by omega)
theorem T.eH.L1 {B D d:Nat} {n:af} (hB:B<=lim) (h:Fine B (D+1) n) (hs:∀ k,k∈n.Kids->Ev (fun f=>G.eH f k) ((Cnt d k:Nat):Int)) :
    ∀ (k i c:Nat),i+k=n.Kids.length->c+((n.Kids.drop i).map (Cnt d)).sum<big->Ev (fun f=>G.eH.L1 f n (c:Int) i) ((c+((n.Kids.drop i).map (Cnt d)).sum:Nat):Int):=by
  have hl:=h.kids
  unfold lim at hB
  unfold big
  intro k
  induction k with
  | zero =>
    intro i c hi hc
    refine Ev.up ?_
    simp only [G.eH.L1]
    refine Ev.cf (by simp; omega) (Ev.ret' ?_)
    rw [List.drop_of_length_le (by omega)]
    rfl
  | succ k ih =>
    intro i c hi
    rw [bg (default:af) (by omega:i<n.Kids.length),List.map_cons,List.sum_cons]
    intro hc
    refine Ev.up ?_
    simp only [G.eH.L1]
    refine Ev.ct (by simp; omega) (Ev.chk (by omega) ?_)
    rw [Int.toNat_natCast]
    refine Ev.bind (hs _ (by rw [bF _ (by omega:i<n.Kids.length)]; exact List.getElem_mem _)) ?_
    rw [aV (by omega),wrapN (m:=c+Cnt d (n.Kids.getD i default)) (by omega) (by omega)]
    exact (ih (i+1) (c+Cnt d (n.Kids.getD i default)) (by omega) (by omega)).eq (by congr 1; omega)
theorem T.eH {B:Nat} (hB:B<=lim):∀ (d D:Nat) (n:af),d<=5->Fine B D n->Shape d n=true->Ev (fun f=>G.eH f n) ((Cnt d n:Nat):Int):=by
  intro d
  induction d with
  | zero=>intro D n _ _ h; cases h
  | succ d ih =>
    intro D n hd h hS
    cases D with
    | zero=>exact h.elim
    | succ D =>
    have hS':=kY hS
    refine Ev.up ?_
    simp only [G.eH]
    have:=cnt_le (d:=d+1) (n:=n) hS
    have hp:=Cc hd
    refine (T.eH.L1 hB h (fun k hk=>ih D k (by omega) (h.2.2.2.2.2 k hk) (hS' k hk)) n.Kids.length 0 1 (by omega) ?_).eq rfl
    rw [List.drop_zero]
    show Cnt (d+1) n<big
    unfold big
    omega
def Val (n:af):Bool:=Shape 5 n&&decide (Cnt 5 n<=40)
theorem T.bD {B D:Nat} {n:af} (hB:B<=lim) (h:Fine B D n):Ev (fun f=>G.bD f n) (Val n):=by
 refine Ev.up ?_
 simp only [G.bD]
 refine Ev.bind (T.bJ hB 5 D n (by omega) h) (Ev.ite (fun e => ?_) (fun e=>Ev.ret' (by rw [Val,e]; rfl)))
 refine Ev.bind (T.eH hB 5 D n (by omega) h e) (Ev.ret' ?_)
 rw [Val,e,Bool.true_and]
 apply decide_eq_decide.2
 omega
theorem T.aF.L1 {B D d l:Nat} {n:af} (hB:B<=lim) (h:Fine B (D+1) n) (hl:l<1000)
    (hs:∀ k,k∈n.Kids->∃ c dp,Ev (fun f=>G.aF f k ((l+1:Nat):Int)) (c,dp,Shape d k)/\(Shape d k=true->c=((Cnt d k:Nat):Int))) :
    ∀ (k i c:Nat) (dp:Int),i+k=n.Kids.length->(n.Kids.drop i).all (Shape d)=true->c+((n.Kids.drop i).map (Cnt d)).sum<big ->
      ∃ Qu,Ev (fun f=>G.aF.L1 f n (l:Int) (c:Int) dp i) (((c+((n.Kids.drop i).map (Cnt d)).sum:Nat):Int),Qu,true):=by
  have hk:=h.kids
  unfold lim at hB
  unfold big
  intro k
  induction k with
  | zero =>
    intro i c dp hi _ hc
    refine ⟨dp,Ev.up ?_⟩
    simp only [G.aF.L1]
    refine Ev.cf (by simp; omega) (Ev.ret' ?_)
    rw [List.drop_of_length_le (by omega)]
    rfl
  | succ k ih =>
    intro i c dp hi
    rw [bg (default:af) (by omega:i<n.Kids.length),List.map_cons,List.sum_cons,List.all_cons,Bool.and_eq_true]
    intro ⟨hS,hA⟩ hc
    obtain ⟨c1,d1,h1,h2⟩:=hs (n.Kids.getD i default) (by rw [bF _ (by omega:i<n.Kids.length)]; exact List.getElem_mem _)
    have e:=h2 hS
    subst e
    obtain ⟨Qu,g1⟩:=ih (i+1) (c+Cnt d (n.Kids.getD i default)) (if IntKind.wrap .i64 (d1+1)>dp then IntKind.wrap .i64 (d1+1) else dp) (by omega) hA (by omega)
    refine ⟨Qu,Ev.up ?_⟩
    simp only [G.aF.L1]
    refine Ev.ct (by simp; omega) (Ev.chk (by omega) ?_)
    rw [Int.toNat_natCast,aV (by omega)]
    refine Ev.bind h1 ?_
    refine Ev.ct hS ?_
    rw [aV (by omega),wrapN (m:=c+Cnt d (n.Kids.getD i default)) (by omega) (by omega)]
    exact g1.eq (by rw [Nat.add_assoc])
theorem T.aF.WX {B D d l:Nat} {n:af} (hB:B<=lim) (h:Fine B (D+1) n) (hl:l<1000)
    (hs:∀ k,k∈n.Kids->∃ c dp,Ev (fun f=>G.aF f k ((l+1:Nat):Int)) (c,dp,Shape d k)) :
    ∀ (k i:Nat) (c dp:Int),i+k=n.Kids.length->(n.Kids.drop i).all (Shape d)=false->Ev (fun f=>G.aF.L1 f n (l:Int) c dp i) (0,0,false):=by
  have hk:=h.kids
  unfold lim at hB
  intro k
  induction k with
  | zero =>
    intro i c dp hi hA
    rw [List.drop_of_length_le (by omega)] at hA
    cases hA
  | succ k ih =>
    intro i c dp hi
    rw [bg (default:af) (by omega:i<n.Kids.length),List.all_cons]
    intro hA
    obtain ⟨c1,d1,h1⟩:=hs (n.Kids.getD i default) (by rw [bF _ (by omega:i<n.Kids.length)]; exact List.getElem_mem _)
    refine Ev.up ?_
    simp only [G.aF.L1]
    refine Ev.ct (by simp; omega) (Ev.chk (by omega) ?_)
    rw [Int.toNat_natCast,aV (by omega)]
    refine Ev.bind h1 ?_
    refine Ev.ite (fun hS => ?_) (fun hS=>Ev.ret _)
    have hS:Shape d (n.Kids.getD i default)=true:=hS
    rw [hS,Bool.true_and] at hA
    rw [aV (by omega)]
    exact ih (i+1) _ _ (by omega) hA
theorem T.aF {B:Nat} (hB:B<=lim):∀ (d l D:Nat) (n:af),d+l=6->1<=l->Fine B D n ->
    ∃ c dp,Ev (fun f=>G.aF f n (l:Int)) (c,dp,Shape d n)/\(Shape d n=true->c=((Cnt d n:Nat):Int)):=by
  intro d
  induction d with
  | zero =>
    intro l D n hl h1 h
    refine ⟨0,0,Ev.up ?_,fun e=>by cases e⟩
    simp only [G.aF]
    exact Ev.ct (by simp; omega) (Ev.ret _)
  | succ d ih =>
    intro l D n hl h1 h
    cases D with
    | zero=>exact h.elim
    | succ D =>
    have hs:=fun k (hk:k∈n.Kids)=>ih (l+1) D k (by omega) (by omega) (h.2.2.2.2.2 k hk)
    have hp:=T.aN hB h
    cases hS:Shape (d+1) n with
    | true =>
      have hk:=kY hS
      have hc:=cnt_le hS
      have hpw:=Cc (d:=d+1) (by omega)
      obtain ⟨Qu,g⟩:=T.aF.L1 hB h (by omega) hs n.Kids.length 0 1 1 (by omega) (by rw [List.drop_zero]; exact List.all_eq_true.2 hk) (by rw [List.drop_zero]; unfold big; show Cnt (d+1) n<_; omega)
      rw [List.drop_zero] at g
      refine ⟨((Cnt (d+1) n:Nat):Int),Qu,Ev.up ?_,fun _=>rfl⟩
      simp only [G.aF]
      exact Ev.cf (by simp; omega) (Ev.bind hp (Ev.ct (jG hS) g))
    | false =>
      refine ⟨0,0,Ev.up ?_,fun e=>by cases e⟩
      simp only [G.aF]
      refine Ev.cf (by simp; omega) (Ev.bind hp (Ev.ite (fun e => ?_) (fun e=>Ev.ret _)))
      refine T.aF.WX (d:=d) hB h (by omega) (fun k hk => ?_) n.Kids.length 0 1 1 (by omega) ?_
      · obtain ⟨c,dp,g,_⟩:=hs k hk; exact ⟨c,dp,g⟩
      · rw [List.drop_zero]; unfold Shape at hS; rw [e,Bool.true_and] at hS; exact hS
theorem T.aC {B D:Nat} {n:af} (hB:B<=lim) (h:Fine B D n):Ev (fun f=>G.aC f n) (Val n):=by
 obtain ⟨c,dp,g,hc⟩:=T.aF hB 5 1 D n rfl (by omega) h
 refine Ev.up ?_
 simp only [G.aC]
 refine Ev.bind g (Ev.ite (fun e=>Ev.ret' ?_) (fun e=>Ev.ret' ?_))
 ·have e:Shape 5 n=true:=e
  show decide (c<=40)=_
  rw [hc e,Val,e,Bool.true_and]
  apply decide_eq_decide.2
  omega
 ·have e:Shape 5 n=false:=e
  rw [Val,e]; rfl
theorem T.ay.L1 {B D:Nat} {n:af} (hB:B<=lim) (h:Fine B (D+1) n) (hs:∀ k,k∈n.Kids->Ev (fun f=>G.ay f k) k) :
    ∀ (k i:Nat),i+k=n.Kids.length->Ev (fun f=>G.ay.L1 f n i (n.Kids.take i)) n:=by
  have hl:=h.kids
  have hn:=h.names
  unfold lim at hB
  intro k
  induction k with
  | zero =>
    intro i hi
    refine Ev.up ?_
    simp only [G.ay.L1]
    refine Ev.cf (by simp; omega) (Ev.chk (by omega) (Ev.ret' ?_))
    rw [List.take_of_length_le (by omega)]
    cases n; rfl
  | succ k ih =>
    intro i hi
    refine Ev.up ?_
    simp only [G.ay.L1]
    refine Ev.ct (by simp; omega) (Ev.chk (by omega) ?_)
    rw [Int.toNat_natCast]
    refine Ev.bind (hs _ (by rw [bF _ (by omega:i<n.Kids.length)]; exact List.getElem_mem _)) ?_
    refine Ev.chk (by rw [List.length_take]; omega) ?_
    have e:n.Kids.take i++[n.Kids.getD i default]=n.Kids.take (i+1):=by rw [bF _ (by omega:i<n.Kids.length),List.take_succ_eq_append_getElem (by omega)]
    rw [aV (by omega),e]
    exact ih (i+1) (by omega)
theorem T.ay {B:Nat} (hB:B<=lim):∀ {D:Nat} {n:af},Fine B D n->Ev (fun f=>G.ay f n) n:=by
  intro D
  induction D with
  | zero=>intro n h; exact h.elim
  | succ D ih =>
    intro n h
    refine Ev.up ?_
    simp only [G.ay]
    exact T.ay.L1 hB h (fun k hk=>ih (h.2.2.2.2.2 k hk)) n.Kids.length 0 (by omega)
theorem T.au.L2 {B D:Nat} {n:af} (zs:List aS) (hB:B<=lim) (h:Fine B (D+1) n) (hs:∀ k,k∈n.Kids->Ev (fun f=>G.au f k) k) :
    ∀ (k i:Nat) (z:List af),i+k=n.Kids.length->z.length=n.Kids.length->z.take i=n.Kids.take i->Ev (fun f=>G.au.L2 f n zs i z) (af.mk n.Kind n.Num n.Text zs n.Kids):=by
  have hl:=h.kids
  unfold lim at hB
  intro k
  induction k with
  | zero =>
    intro i z hi hz ht
    refine Ev.up ?_
    simp only [G.au.L2]
    refine Ev.cf (by simp; omega) (Ev.ret' ?_)
    rw [List.take_of_length_le (by omega),List.take_of_length_le (by omega)] at ht
    rw [ht]
  | succ k ih =>
    intro i z hi hz ht
    refine Ev.up ?_
    simp only [G.au.L2]
    refine Ev.ct (by simp; omega) (Ev.chk (by omega) ?_)
    rw [Int.toNat_natCast]
    refine Ev.bind (hs _ (by rw [bF _ (by omega:i<n.Kids.length)]; exact List.getElem_mem _)) ?_
    refine Ev.chk (by omega) ?_
    rw [aV (by omega)]
    refine ih (i+1) _ (by omega) (by rw [List.length_set]; exact hz) ?_
    rw [bF _ (by omega:i<n.Kids.length),List.take_succ_eq_append_getElem (by rw [List.length_set]; omega),List.take_succ_eq_append_getElem (by omega:i<n.Kids.length),List.getElem_set_self,List.take_set_of_le (Nat.le_refl i),ht]
theorem T.au {B:Nat} (hB:B<=lim):∀ {D:Nat} {n:af},Fine B D n->Ev (fun f=>G.au f n) n:=by
  intro D
  induction D with
  | zero=>intro n h; exact h.elim
  | succ D ih =>
    intro n h
    have hl:=h.kids
    have hn:=h.names
    have hB':=hB
    unfold lim at hB'
    have hK:Ev (fun f=>G.au.K1 f n n.Names) n:=by
      refine Ev.up ?_
      simp only [G.au.K1]
      refine Ev.ite (fun e => ?_) (fun e=>Ev.ret' ?_)
      · refine Ev.chk (by omega) ?_
        refine (T.au.L2 n.Names hB h (fun k hk=>ih (h.2.2.2.2.2 k hk)) n.Kids.length 0 (List.replicate n.Kids.length (af.mk 0 0 [] [] [])) (by omega) (by simp) rfl).eq ?_
        cases n; rfl
      · have:n.Kids=[]:=by
          apply List.eq_nil_of_length_eq_zero
          simp only [decide_eq_false_iff_not] at e; omega
        cases n; simp only at this; subst this; rfl
    refine Ev.up ?_
    simp only [G.au]
    refine Ev.ite (fun e => ?_) (fun e => ?_)
    · exact Ev.chk (by omega) hK
    · have:n.Names=[]:=by
        apply List.eq_nil_of_length_eq_zero
        simp only [decide_eq_false_iff_not] at e; omega
      rw [this] at hK
      exact hK
end Go.Ab
end
section
namespace Go.Ab
open Go
def sS (i:Nat):aS:=if i<10 then [UInt8.ofNat (48+i)] else sS (i/10)++[UInt8.ofNat (48+i%10)]
 termination_by i
theorem vV {i:Nat} (h:i<10):sS i=[UInt8.ofNat (48+i)]:=by rw [sS,if_pos h]
theorem Et {i:Nat} (h:¬ i<10):sS i=sS (i/10)++[UInt8.ofNat (48+i%10)]:=by rw [sS,if_neg h]
theorem Qr:∀ (k i:Nat),i<k->(sS i).length<=i+1:=by
  intro k
  induction k with
  | zero=>intro i h; omega
  | succ k ih =>
    intro i h
    by_cases hi:i<10
    · rw [vV hi]; simp
    · rw [Et hi,List.length_append]
      have:=ih (i/10) (by omega)
      simp only [List.length_singleton]
      omega
theorem wrap_u8 {m:Nat} (h:m<256):IntKind.wrap .u8 (m:Int)=m:=by
 simp only [IntKind.wrap,IntKind.bits,IntKind.signed]
 simp
 omega
theorem T.fG:∀ (k i:Nat),i<k->i<lim->Ev (fun f=>G.fG f (i:Int)) (sS i):=by
  intro k
  induction k with
  | zero=>intro i h; omega
  | succ k ih =>
    intro i h hl
    unfold lim at hl
    have hm:4294967296<maxLen:=by decide
    refine Ev.up ?_
    simp only [G.fG]
    refine Ev.cf (by simp) ?_
    refine Ev.ite (fun e => ?_) (fun e => ?_)
    · simp only [decide_eq_true_eq] at e
      refine Ev.chk (by omega) (Ev.ret' ?_)
      rw [vV (by omega),wrapN (m:=48+i) (by omega) (by omega),wrap_u8 (by omega),Int.toNat_natCast]
    · simp only [decide_eq_false_iff_not] at e
      have e1:Int.tdiv (i:Int) 10=((i/10:Nat):Int):=by rw [Int.tdiv_eq_ediv_of_nonneg (by omega)]; omega
      have e2:Int.tmod (i:Int) 10=((i%10:Nat):Int):=by rw [Int.tmod_eq_emod_of_nonneg (by omega)]; omega
      rw [e1,e2,wrapN (m:=i/10) rfl (by omega),wrapN (m:=48+i%10) (by omega) (by omega),wrap_u8 (by omega),Int.toNat_natCast]
      refine Ev.bind (ih (i/10) (by omega) (by unfold lim; omega)) ?_
      have:=Qr (i/10+1) (i/10) (by omega)
      refine Ev.chk (by omega) (Ev.chk (by omega) (Ev.ret' ?_))
      exact (Et (by omega)).symm
theorem T.decimal {i:Nat} (h:i<lim):Ev (fun f=>G.fG f (i:Int)) (sS i):=T.fG (i+1) i (by omega) h
theorem LK:∀ (k i:Nat),i<k->Lib.decDigits i=sS i:=by
  intro k
  induction k with
  | zero=>intro i h; omega
  | succ k ih =>
    intro i h
    by_cases h10:i<10
    · rw [Lib.decDigits_one h10,vV h10]
    · rw [Et h10,Lib.decDigits,dif_neg h10,ih (i/10) (by omega)]
theorem QZ (i:Nat):Lib.itoa (i:Int)=sS i:=by
 unfold Lib.itoa
 rw [if_neg (by omega),Int.toNat_natCast,LK (i+1) i (by omega)]
theorem T.Itoa {n:Int} (h : -900000000000000<=n/\n<=900000000000000):Ev (fun f=>G.strconv_Itoa f n) (Lib.itoa n):=by
 refine Ev.up ?_
 simp only [G.strconv_Itoa]
 exact Ev.chk ⟨by omega,Nat.le_trans (Lib.itoa_length_le n (by omega) (by omega)) (by decide)⟩ (Ev.ret _)
theorem T.strconv_Itoa {i:Nat} (h:i<10):Ev (fun f=>G.strconv_Itoa f (i:Int)) (sS i):=by
 have:=T.Itoa (n:=(i:Int)) (by omega)
 rwa [QZ] at this
def hit (n:af) (s:aS) (j:Nat):Bool:=(n.Kind==4&&n.Names.getD j default==s)||(n.Kind==3&&sS j==s)
def rG (n:af) (s:aS):Option Nat:=(List.range' 0 n.Kids.length).find? (hit n s)
def vH:Option Nat->Int
 | some j=>j
 | none => -1
theorem nX {n:af} {s:aS} {j:Nat} (h:rG n s=some j):j<n.Kids.length:=by
 have:=List.mem_of_find?_eq_some h
 simp at this
 exact this
theorem yh {n:af} {s:aS} {j:Nat} (h:rG n s=some j):hit n s j=true:=List.find?_some h
theorem T.dH.L1 {B D:Nat} {n:af} (s:aS) (hB:B<=lim) (h:Fine B D n) :
    ∀ (k i:Nat),i+k=n.Kids.length->Ev (fun f=>G.dH.L1 f n s i) (vH ((List.range' i k).find? (hit n s))):=by
  have hl:=h.kids
  have hm:=h.map
  intro k
  induction k with
  | zero =>
    intro i hi
    refine Ev.up ?_
    simp only [G.dH.L1]
    exact Ev.cf (by simp; omega) (Ev.ret _)
  | succ k ih =>
    intro i hi
    have hih:=ih (i+1) (by omega)
    have hd:=T.decimal (i:=i) (by omega)
    unfold lim at hB
    rw [List.range'_succ,List.find?_cons]
    have Xi:n.Kind ≠ 4->Ev (fun f=>cond (n.Kind==3) (Option.bind (G.fG f (i:Int)) fun v5=>cond (v5==s) (some (i:Int)) (G.dH.L1 f n s (IntKind.wrap .i64 ((i:Int)+1)))) (G.dH.L1 f n s (IntKind.wrap .i64 ((i:Int)+1))))
        (vH (match hit n s i with | true=>some i | false=>(List.range' (i+1) k).find? (hit n s))):=by
      intro h4
      have e4:(n.Kind==4)=false:=by simpa using h4
      rw [aV (by omega)]
      refine Ev.ite (fun e => ?_) (fun e => ?_)
      · refine Ev.bind hd (Ev.ite (fun e2=>Ev.ret' ?_) (fun e2 => ?_))
        · rw [show hit n s i=true by unfold hit; rw [e,e2,e4]; rfl]; rfl
        · exact hih.eq (by rw [show hit n s i=false by unfold hit; rw [e,e2,e4]; rfl])
      · exact hih.eq (by rw [show hit n s i=false by unfold hit; rw [e,e4]; rfl])
    refine Ev.up ?_
    simp only [G.dH.L1]
    refine Ev.ct (by simp; omega) ?_
    refine Ev.ite (fun e => ?_) (fun e=>Xi (by simpa using e))
    have h4:n.Kind=4:=by simpa using e
    have:=hm h4
    refine Ev.chk (by omega) ?_
    rw [Int.toNat_natCast]
    refine Ev.ite (fun e2=>Ev.ret' ?_) (fun e2 => ?_)
    · rw [show hit n s i=true by unfold hit; rw [e,e2]; rfl]; rfl
    · refine Ev.cf (by rw [h4]; rfl) ?_
      rw [aV (by omega)]
      exact hih.eq (by rw [show hit n s i=false by unfold hit; rw [e2,h4]; rfl])
theorem T.dH {B D:Nat} {n:af} (s:aS) (hB:B<=lim) (h:Fine B D n):Ev (fun f=>G.dH f n s) (vH (rG n s)):=by
 refine Ev.up ?_
 simp only [G.dH]
 exact T.dH.L1 s hB h n.Kids.length 0 (by omega)
theorem T.cmp_Less_string (x y:aS):Ev (fun f=>G.cmp_Less_string f x y) (bl x y):=by
 refine Ev.up ?_
 simp only [G.cmp_Less_string]
 have:Ev (fun f=>G.cmp_isNaN_string f x) false:=by
  refine Ev.up ?_
  simp only [G.cmp_isNaN_string]
  exact Ev.ret' (by simp)
 exact Ev.bind this (Ev.ret _)
structure LB (l:List aS) (t:aS) (i:Nat):Prop where
 le:i<=l.length
 lo:∀ j,j<i->bl (l.getD j default) t=true
 hi:∀ j,i<=j->j<l.length->bl (l.getD j default) t=false
theorem half (i j:Nat) (h:i+j<9223372036854775808):IntKind.wrap .i64 ((Int.fdiv (IntKind.wrap .u64 (IntKind.wrap .i64 ((i:Int)+(j:Int)))) (2^(min 1 (IntKind.bits .u64)))))=(((i+j)/2:Nat):Int):=by
 rw [wrapN (x:=(i:Int)+(j:Int)) (m:=i+j) (by omega) h]
 have e:IntKind.wrap .u64 ((i+j:Nat):Int)=((i+j:Nat):Int):=by
  simp only [IntKind.wrap,IntKind.bits,IntKind.signed]
  simp
  omega
 rw [e]
 have e2:Int.fdiv ((i+j:Nat):Int) (2^(min 1 (IntKind.bits .u64)))=(((i+j)/2:Nat):Int):=by
  have:(2:Int)^(min 1 (IntKind.bits .u64))=2:=rfl
  rw [this,Int.fdiv_eq_ediv_of_nonneg _ (by omega)]
  omega
 rw [e2]
 exact wrapN rfl (by omega)
theorem T.BinarySearch.L1 {l:List aS} (t:aS) (hl:l.length<big) (hA:∀ i j,i<j->j<l.length->bl (l.getD i default) (l.getD j default)=true) :
    ∀ (k i j:Nat),j-i<=k->i<=j->j<=l.length->(∀ q,q<i->bl (l.getD q default) t=true)->(∀ q,j<=q->q<l.length->bl (l.getD q default) t=false) ->
      ∃ p:Nat,Ev (fun f=>G.slices_BinarySearch_string.L1 f l t i j) ((p:Int),decide (p<l.length)&&l.getD p default==t)/\LB l t p:=by
  unfold big at hl
  intro k
  induction k with
  | zero =>
    intro i j hk hij hj hlo hhi
    have:i=j:=by omega
    subst this
    refine ⟨i,Ev.up ?_,hj,hlo,hhi⟩
    simp only [G.slices_BinarySearch_string.L1]
    refine Ev.cf (by simp) (Ev.ite (fun e => ?_) (fun e=>Ev.ret' ?_))
    · have e':i<l.length:=by simpa using e
      rw [Int.toNat_natCast]
      have d1:decide (i<l.length)=true:=by simpa using e'
      rw [d1,Bool.true_and]
      refine Ev.chk (by omega) (Ev.ite (fun e2=>Ev.ret' (by rw [e2])) (fun e2=>Ev.chk (by omega) ?_))
      have:Ev (fun f=>G.slices_isNaN_string f (l.getD i default)) false:=by
        refine Ev.up ?_
        simp only [G.slices_isNaN_string]
        exact Ev.ret' (by simp)
      exact Ev.bind this (Ev.ret' (by rw [e2]))
    · have d1:decide (i<l.length)=false:=by simpa using e
      rw [d1]; rfl
  | succ k ih =>
    intro i j hk hij hj hlo hhi
    by_cases he:i=j
    · exact ih i j (by omega) hij hj hlo hhi
    have h1:(i+j)/2<j:=by omega
    have h2:i<=(i+j)/2:=by omega
    cases hc:bl (l.getD ((i+j)/2) default) t with
    | true =>
      obtain ⟨p,g,hp⟩:=ih ((i+j)/2+1) j (by omega) (by omega) hj (fun q hq=>by
        by_cases hq2:q=(i+j)/2
        · rw [hq2]; exact hc
        · exact pI (hA q ((i+j)/2) (by omega) (by omega)) hc) hhi
      refine ⟨p,Ev.up ?_,hp⟩
      simp only [G.slices_BinarySearch_string.L1]
      refine Ev.ct (by simp; omega) ?_
      rw [half i j (by omega),Int.toNat_natCast]
      refine Ev.chk (by omega) (Ev.bind (T.cmp_Less_string _ _) (Ev.ct hc ?_))
      rw [aV (by omega)]
      exact g
    | false =>
      obtain ⟨p,g,hp⟩:=ih i ((i+j)/2) (by omega) h2 (by omega) hlo (fun q hq hq2=>by
        by_cases hq3:q=(i+j)/2
        · rw [hq3]; exact hc
        · cases hb:bl (l.getD q default) t with
          | false=>rfl
          | true=>rw [pI (hA ((i+j)/2) q (by omega) hq2) hb] at hc; cases hc)
      refine ⟨p,Ev.up ?_,hp⟩
      simp only [G.slices_BinarySearch_string.L1]
      refine Ev.ct (by simp; omega) ?_
      rw [half i j (by omega),Int.toNat_natCast]
      refine Ev.chk (by omega) (Ev.bind (T.cmp_Less_string _ _) (Ev.cf hc ?_))
      exact g
theorem tY {x:aS} {l:List aS} (h:Asc (x::l)=true):Asc l=true:=by
 cases l with
 | nil=>rfl
 | cons y r=>rw [Asc,Bool.and_eq_true] at h; exact h.2
theorem uQ:∀ {l:List aS} {x:aS},Asc (x::l)=true->∀ y,y∈l->bl x y=true
  | [],_,_,y,hy=>by cases hy
  | z::r,x,h,y,hy=>by
    have h1:bl x z=true:=by rw [Asc,Bool.and_eq_true] at h; exact h.1
    rcases List.mem_cons.1 hy with rfl | hy
    · exact h1
    · exact pI h1 (uQ (tY h) y hy)
theorem rZ:∀ {l:List aS},Asc l=true->∀ i j,i<j->j<l.length->bl (l.getD i default) (l.getD j default)=true
  | [],_,i,j,_,hj=>by simp at hj
  | x::l,h,i,j,hij,hj=>by
    cases j with
    | zero=>omega
    | succ j =>
      rw [List.getD_cons_succ]
      have hj':j<l.length:=by simpa using hj
      cases i with
      | zero=>rw [List.getD_cons_zero,bF _ hj']; exact uQ h _ (List.getElem_mem _)
      | succ i=>rw [List.getD_cons_succ]; exact rZ (tY h) i j (by omega) hj'
theorem T.slices_BinarySearch_string {l:List aS} (t:aS) (hl:l.length<big) (hA:Asc l=true) :
  ∃ p:Nat,Ev (fun f=>G.slices_BinarySearch_string f l t) ((p:Int),decide (p<l.length)&&l.getD p default==t)/\LB l t p:=by
 obtain ⟨p,g,hp⟩:=T.BinarySearch.L1 t hl (rZ hA) l.length 0 l.length (by omega) (by omega) (by omega) (fun q hq=>by omega) (fun q h1 h2=>by omega)
 refine ⟨p,Ev.up ?_,hp⟩
 simp only [G.slices_BinarySearch_string]
 exact g
end Go.Ab
end
section
namespace Go.Ab
open Go
theorem af.eta (n:af):af.mk n.Kind n.Num n.Text n.Names n.Kids=n:=by cases n; rfl
theorem xZ {p:Nat->Bool} : ∀ {k i:Nat},(List.range' i k).find? p=none<->∀ q,i<=q->q<i+k->p q=false:=by
 intro k i
 rw [List.find?_eq_none]
 constructor
 ·intro h q h1 h2
  have:=h q (by simp; omega)
  simpa using this
 ·intro h q hq
  simp at hq
  rw [h q hq.1 hq.2]; simp
theorem tV {p:Nat->Bool} : ∀ {k i j:Nat},(List.range' i k).find? p=some j<->(i<=j/\j<i+k/\p j=true/\∀ q,i<=q->q<j->p q=false):=by
  intro k
  induction k with
  | zero=>intro i j; simp; omega
  | succ k ih =>
    intro i j
    rw [List.range'_succ,List.find?_cons]
    cases h:p i with
    | true =>
      simp only [Option.some.injEq]
      constructor
      · rintro rfl
        exact ⟨by omega,by omega,h,fun q h1 h2=>by omega⟩
      · rintro ⟨h1,h2,h3,h4⟩
        by_cases e:i=j
        · exact e
        · have:=h4 i (by omega) (by omega); rw [h] at this; cases this
    | false =>
      simp only
      rw [ih]
      constructor
      · rintro ⟨h1,h2,h3,h4⟩
        refine ⟨by omega,by omega,h3,fun q g1 g2 => ?_⟩
        by_cases e:q=i
        · rw [e]; exact h
        · exact h4 q (by omega) g2
      · rintro ⟨h1,h2,h3,h4⟩
        have:j ≠ i:=fun e=>by rw [e,h] at h3; cases h3
        exact ⟨by omega,by omega,h3,fun q g1 g2=>h4 q (by omega) g2⟩
theorem xI {n:af} {s:aS} {j:Nat} : rG n s=some j<->(j<n.Kids.length/\hit n s j=true/\∀ q,q<j->hit n s q=false):=by
 unfold rG
 rw [tV]
 constructor
 ·rintro ⟨h1,h2,h3,h4⟩; exact ⟨by omega,h3,fun q hq=>h4 q (by omega) hq⟩
 ·rintro ⟨h1,h2,h3⟩; exact ⟨by omega,by omega,h2,fun q _ hq=>h3 q hq⟩
theorem Aw {n:af} {s:aS} : rG n s=none<->∀ q,q<n.Kids.length->hit n s q=false:=by
 unfold rG
 rw [xZ]
 constructor
 ·intro h q hq; exact h q (by omega) (by omega)
 ·intro h q _ hq; exact h q (by omega)
theorem oL {n:af} (h:Parts n=true) (hk:n.Kind=4):n.Num=0/\n.Text=[]/\NM n.Names=true/\n.Names.length<=6/\n.Kids.length=n.Names.length:=by
 unfold Parts at h
 simp [hk] at h
 obtain ⟨⟨h1,h2⟩,⟨h3,h4⟩,h5⟩:=h
 exact ⟨h1,h2,h3,h4,h5⟩
theorem rV {n:af} (h:Parts n=true) (hk:n.Kind=3):n.Num=0/\n.Text=[]/\n.Names=[]/\n.Kids.length<=6:=by
 unfold Parts at h
 simp [hk] at h
 obtain ⟨⟨⟨h1,h2⟩,h3⟩,h4⟩:=h
 exact ⟨h1,h2,h3,h4⟩
theorem zl {n:af} (h:Parts n=true) (h4:n.Kind ≠ 4) (h3:n.Kind ≠ 3):n.Names=[]/\n.Kids=[]:=by
 unfold Parts at h
 have e4:(n.Kind==4)=false:=by simpa using h4
 simp only [Bool.and_eq_true,e4,Bool.false_or] at h
 obtain ⟨⟨_,h1⟩,h2⟩:=h
 refine ⟨List.eq_nil_of_length_eq_zero (by simpa using h1),List.eq_nil_of_length_eq_zero ?_⟩
 by_cases k0:n.Kind=0
 ·rw [if_pos k0] at h2; simpa using h2
 rw [if_neg k0] at h2
 by_cases k1:n.Kind=1
 ·rw [if_pos k1] at h2; simp at h2; rw [h2.2]; rfl
 rw [if_neg k1] at h2
 by_cases k2:n.Kind=2
 ·rw [if_pos k2] at h2; simp at h2; rw [h2.2]; rfl
 rw [if_neg k2,if_neg h3,if_neg h4] at h2
 cases h2
theorem zf {l:List aS} (h:NM l=true):Asc l=true:=by unfold NM at h; simp only [Bool.and_eq_true] at h; exact h.2
theorem Md {l:List aS} (h:NM l=true):∀ s,s∈l->PT s=true:=by unfold NM at h; simp only [Bool.and_eq_true] at h; exact List.all_eq_true.1 h.1
theorem BZ {n:af} (h:Parts n=true):n.Kids.length<=6:=by
 by_cases k:n.Kids.length<=6
 ·exact k
 ·rw [wC (by omega)] at h; cases h
theorem rW {n:af} (hk:n.Kind=4) (s:aS) (j:Nat):hit n s j=(n.Names.getD j default==s):=by unfold hit; rw [hk]; simp
theorem QM {n:af} (hk:n.Kind=3) (s:aS) (j:Nat):hit n s j=(sS j==s):=by unfold hit; rw [hk]; simp
theorem vz {n:af} (h4:n.Kind ≠ 4) (h3:n.Kind ≠ 3) (s:aS) (j:Nat):hit n s j=false:=by
 unfold hit
 rw [show (n.Kind==4)=false by simpa using h4,show (n.Kind==3)=false by simpa using h3]; rfl
theorem Iy {n:af} {s:aS} {p:Nat} (hk:n.Kind=4) (hA:Asc n.Names=true) (hl:n.Kids.length=n.Names.length) (h:LB n.Names s p) :
    rG n s=if decide (p<n.Names.length)&&n.Names.getD p default==s then some p else none:=by
  cases hc:decide (p<n.Names.length)&&n.Names.getD p default==s with
  | true =>
    simp only [Bool.and_eq_true,decide_eq_true_eq] at hc
    rw [if_pos rfl,xI]
    refine ⟨by omega,by rw [rW hk]; exact hc.2,fun q hq => ?_⟩
    rw [rW hk]
    have:=uy (h.lo q hq)
    simpa using this
  | false =>
    rw [if_neg (by simp),Aw]
    intro q hq
    rw [rW hk]
    by_cases h1:q<p
    · have:=uy (h.lo q h1)
      simpa using this
    · cases he:n.Names.getD q default==s with
      | false=>rfl
      | true =>
        rw [beq_iff_eq] at he
        by_cases h2:q=p
        · subst h2
          rw [he] at hc
          have:decide (q<n.Names.length)=true:=by simp; omega
          rw [this] at hc
          simp at hc
        · have:=rZ hA p q (by omega) (by omega)
          rw [he,h.hi p (by omega) (by omega)] at this
          cases this
theorem T.bG.L1 {n:af} (s:aS) (hk:n.Kind=3) (hl:n.Kids.length<=6) :
    ∀ (k i:Nat),i+k=n.Kids.length->Ev (fun f=>G.bG.L1 f n s i) (match (List.range' i k).find? (hit n s) with | some j=>((j:Int),true) | none=>(0,false)):=by
  intro k
  induction k with
  | zero =>
    intro i hi
    refine Ev.up ?_
    simp only [G.bG.L1]
    exact Ev.cf (by simp; omega) (Ev.ret _)
  | succ k ih =>
    intro i hi
    refine Ev.up ?_
    simp only [G.bG.L1]
    refine Ev.ct (by simp; omega) (Ev.bind (T.strconv_Itoa (i:=i) (by omega)) ?_)
    rw [List.range'_succ,List.find?_cons,QM hk,aV (by omega)]
    refine Ev.ite (fun e=>Ev.ret' (by rw [e])) (fun e => ?_)
    exact (ih (i+1) (by omega)).eq (by rw [e])
theorem T.bG {n:af} (s:aS) (h:Parts n=true) :
    ∃ v b,Ev (fun f=>G.bG f n s) (v,b)/\(∀ j,rG n s=some j->v=(j:Int)/\b=true)/\(rG n s=none->b=false):=by
  by_cases h4:n.Kind=4
  · obtain ⟨_,_,hN,hl,hkl⟩:=oL h h4
    obtain ⟨p,g,hp⟩:=T.slices_BinarySearch_string s (by unfold big; omega) (zf hN)
    have hpl:=Iy h4 (zf hN) hkl hp
    refine ⟨p,decide (p<n.Names.length)&&n.Names.getD p default==s,Ev.up ?_,fun j hj => ?_,fun hn => ?_⟩
    · simp only [G.bG]
      exact Ev.ct (by simpa using h4) (Ev.bind g (Ev.ret _))
    · rw [hpl] at hj
      split at hj
      · rename_i hc
        cases hj
        exact ⟨rfl,hc⟩
      · cases hj
    · rw [hpl] at hn
      split at hn
      · cases hn
      · rename_i hc; simpa using hc
  · have e4:(n.Kind==4)=false:=by simpa using h4
    by_cases h3:n.Kind=3
    · obtain ⟨_,_,_,hl⟩:=rV h h3
      have g:=T.bG.L1 s h3 hl n.Kids.length 0 (by omega)
      cases hp:rG n s with
      | some j =>
        refine ⟨j,true,Ev.up ?_,fun j' hj=>(by cases hj; exact ⟨rfl,rfl⟩),fun hn=>(by cases hn)⟩
        simp only [G.bG]
        refine Ev.cf e4 (Ev.ct (by simpa using h3) ?_)
        exact g.eq (by unfold rG at hp; rw [hp])
      | none =>
        refine ⟨0,false,Ev.up ?_,fun j' hj=>(by cases hj),fun _=>rfl⟩
        simp only [G.bG]
        refine Ev.cf e4 (Ev.ct (by simpa using h3) ?_)
        exact g.eq (by unfold rG at hp; rw [hp])
    · have hp:rG n s=none:=Aw.2 (fun q _=>vz h4 h3 s q)
      refine ⟨0,false,Ev.up ?_,fun j hj=>(by rw [hp] at hj; cases hj),fun _=>rfl⟩
      simp only [G.bG]
      exact Ev.cf e4 (Ev.cf (by simpa using h3) (Ev.ret _))
def xk:af->List aS->Option af
  | n,[]=>some n
  | n,s::p=>match rG n s with
    | some j=>xk (n.Kids.getD j default) p
    | none=>none
def nG:af:=af.mk 0 0 [] [] []
def iV:Option af->af × Bool
 | some n=>(n,true)
 | none=>(nG,false)
theorem T.kM.L1 {B:Nat} (p:List aS) (hB:B<=lim) (hp:p.length<big) :
    ∀ (k i D:Nat) (n:af),i+k=p.length->Fine B D n->Ev (fun f=>G.kM.L1 f p i n.Kind n.Num n.Text n.Names n.Kids) (iV (xk n (p.drop i))):=by
  unfold big at hp
  intro k
  induction k with
  | zero =>
    intro i D n hi h
    refine Ev.up ?_
    simp only [G.kM.L1,af.eta]
    refine Ev.cf (by simp; omega) ?_
    rw [List.drop_of_length_le (by omega)]
    have hc:=T.ay hB h
    exact Ev.bind hc (Ev.ret _)
  | succ k ih =>
    intro i D n hi h
    refine Ev.up ?_
    simp only [G.kM.L1,af.eta]
    refine Ev.ct (by simp; omega) (Ev.chk (by omega) ?_)
    rw [bg (default:aS) (by omega:i<p.length),Int.toNat_natCast]
    have hP:=T.dH (p.getD i default) hB h
    refine Ev.bind hP ?_
    rw [xk]
    cases hj:rG n (p.getD i default) with
    | none=>exact Ev.ct rfl (Ev.ret _)
    | some j =>
      have hjl:=nX hj
      cases D with
      | zero=>exact h.elim
      | succ D =>
      refine Ev.cf (decide_eq_false (by simp only [vH]; omega)) (Ev.chk (by simp only [vH]; omega) ?_)
      rw [aV (by omega)]
      exact ih (i+1) D _ (by omega) (h.kid hjl)
theorem T.kM {B D:Nat} {n:af} (p:List aS) (hB:B<=lim) (hp:p.length<big) (h:Fine B D n):Ev (fun f=>G.kM f n p) (iV (xk n p)):=by
 refine Ev.up ?_
 simp only [G.kM]
 exact T.kM.L1 p hB hp p.length 0 D n (by omega) h
theorem T.dX.L1 (p:List aS) (hp:p.length<big) :
    ∀ (k i d:Nat) (n:af),i+k=p.length->Shape d n=true->Ev (fun f=>G.dX.L1 f p i n.Kind n.Num n.Text n.Names n.Kids) (iV (xk n (p.drop i))):=by
  unfold big at hp
  intro k
  induction k with
  | zero =>
    intro i d n hi h
    refine Ev.up ?_
    simp only [G.dX.L1,af.eta]
    refine Ev.cf (by simp; omega) ?_
    rw [List.drop_of_length_le (by omega)]
    exact Ev.ret _
  | succ k ih =>
    intro i d n hi h
    cases d with
    | zero=>cases h
    | succ d =>
    refine Ev.up ?_
    simp only [G.dX.L1,af.eta]
    refine Ev.ct (by simp; omega) (Ev.chk (by omega) ?_)
    rw [bg (default:aS) (by omega:i<p.length),Int.toNat_natCast]
    obtain ⟨v,b,g,h1,h2⟩:=T.bG (p.getD i default) (jG h)
    refine Ev.bind g ?_
    rw [xk]
    cases hj:rG n (p.getD i default) with
    | none=>exact Ev.cf (h2 hj) (Ev.ret _)
    | some j =>
      have hjl:=nX hj
      obtain ⟨rfl,rfl⟩:=h1 j hj
      refine Ev.ct rfl (Ev.chk (by omega) ?_)
      rw [aV (by omega)]
      exact ih (i+1) d _ (by omega) (kY h _ (by rw [Int.toNat_natCast,bF _ hjl]; exact List.getElem_mem _))
theorem T.dX {d:Nat} {n:af} (p:List aS) (hp:p.length<big) (h:Shape d n=true):Ev (fun f=>G.dX f n p) (iV (xk n p)):=by
 refine Ev.up ?_
 simp only [G.dX]
 exact T.dX.L1 p hp p.length 0 d n (by omega) h
end Go.Ab
end
section
namespace Go.Ab
open Go
def uk (n:af) (j:Nat) (c:af):af:=af.mk n.Kind n.Num n.Text n.Names (n.Kids.set j c)
def sO (f:af->Option af):af->List aS->Option af
  | n,[]=>f n
  | n,s::p=>match rG n s with
    | some j=>(sO f (n.Kids.getD j default) p).map (uk n j)
    | none=>none
def DD (n:af) (p:List aS) (v:af):Option af:=sO (fun _=>some v) n p
theorem GZ (f:af->Option af):∀ (p:List aS) (n:af),sO f n p=(xk n p).bind fun m=>(f m).bind fun m'=>DD n p m'
  | [],n=>by
    show f n=(f n).bind fun m'=>some m'
    cases f n<;>rfl
  | s::p,n=>by
    rw [sO,xk]
    cases hj:rG n s with
    | none=>rfl
    | some j =>
      simp only
      rw [GZ f p]
      cases ha:xk (n.Kids.getD j default) p with
      | none=>rfl
      | some m =>
        simp only [Option.bind_some]
        cases hf:f m with
        | none=>rfl
        | some m' =>
          simp only [Option.bind_some]
          unfold DD
          rw [sO,hj]
theorem JD {B D E:Nat} {n v:af} {j:Nat} (h:Fine B (D+1) n) (hv:Fine B E v):Fine B (max D E+1) (uk n j v):=by
 obtain ⟨h1,h2,h3,h4,h5,h6⟩:=h
 refine ⟨h1,h2,h3,by simpa [uk] using h4,by simpa [uk] using h5,fun k hk => ?_⟩
 rcases List.mem_or_eq_of_mem_set hk with hk | rfl
 ·exact (h6 k hk).mono (Nat.le_refl _) (Nat.le_max_left _ _)
 ·exact hv.mono (Nat.le_refl _) (Nat.le_max_right _ _)
theorem ED {B E:Nat} {f:af->Option af} : ∀ (p:List aS) {D:Nat} {n m:af},(∀ D' k k',Fine B D' k->f k=some k'->Fine B (D'+E) k')->Fine B D n->sO f n p=some m->Fine B (D+E) m
  | [],D,n,m,hf,h,hm=>hf D n m h hm
  | s::p,D,n,m,hf,h,hm=>by
    rw [sO] at hm
    cases hj:rG n s with
    | none=>rw [hj] at hm; cases hm
    | some j =>
      rw [hj] at hm
      simp only at hm
      cases D with
      | zero=>exact h.elim
      | succ D =>
      cases hc:sO f (n.Kids.getD j default) p with
      | none=>rw [hc] at hm; cases hm
      | some c =>
        rw [hc] at hm
        cases hm
        have:=JD (j:=j) h (ED p hf (h.kid (nX hj)) hc)
        exact this.mono (Nat.le_refl _) (by omega)
theorem BG {B D E:Nat} {n v m:af} {p:List aS} (h:Fine B D n) (hv:Fine B E v) (hm:DD n p v=some m):Fine B (D+E) m :=
 ED p (fun D' k k' _ e=>by cases e; exact hv.mono (Nat.le_refl _) (by omega)) h hm
theorem zX {B:Nat} : ∀ (p:List aS) {D:Nat} {n m:af},Fine B D n->xk n p=some m->Fine B D m
  | [],_,_,_,h,e=>by cases e; exact h
  | s::p,D,n,m,h,e=>by
    rw [xk] at e
    cases hj:rG n s with
    | none=>rw [hj] at e; cases e
    | some j =>
      rw [hj] at e
      cases D with
      | zero=>exact h.elim
      | succ D=>exact (zX p (h.kid (nX hj)) e).mono (Nat.le_refl _) (by omega)
theorem T.iQ {B D E:Nat} {n v:af} {j:Nat} (hB:B<=lim) (h:Fine B D n) (hv:Fine B E v) (hj:j<n.Kids.length):Ev (fun f=>G.iQ f n j v) (uk n j v):=by
 refine Ev.up ?_
 simp only [G.iQ]
 refine Ev.bind (T.ay hB h) (Ev.bind (T.ay hB hv) (Ev.chk (by omega) (Ev.ret' ?_)))
 rw [Int.toNat_natCast]; rfl
theorem T.iU {B E:Nat} {v:af} (hB:B<=lim) (hv:Fine B E v):∀ (p:List aS) {D:Nat} {n:af},p.length<big->Fine B D n->Ev (fun f=>G.iU f n p v) (iV (DD n p v))
  | [],D,n,_,h=>by
    refine Ev.up ?_
    simp only [G.iU]
    exact Ev.ct rfl (Ev.bind (T.ay hB hv) (Ev.ret _))
  | s::p,D,n,hp,h=>by
    simp only [List.length_cons] at hp
    have hp':=hp
    unfold big at hp'
    refine Ev.up ?_
    simp only [G.iU]
    refine Ev.cf (by simp; omega) (Ev.chk (by simp) ?_)
    rw [List.getD_cons_zero]
    refine Ev.bind (T.dH s hB h) ?_
    unfold DD
    rw [sO]
    cases hj:rG n s with
    | none=>exact Ev.ct rfl (Ev.ret _)
    | some j =>
      have hjl:=nX hj
      cases D with
      | zero=>exact h.elim
      | succ D =>
      refine Ev.cf (decide_eq_false (by simp only [vH]; omega)) (Ev.chk (by simp only [vH]; omega) (Ev.chk (by simp; omega) ?_))
      have hk:=h.kid hjl
      have ih:=T.iU hB hv p (by omega) hk
      refine Ev.bind (show Ev (fun f=>G.iU f (n.Kids.getD (vH (some j)).toNat default) ((s::p).drop 1) v) _ from ih) ?_
      show Ev _ (iV ((DD (n.Kids.getD j default) p v).map (uk n j)))
      cases hc:DD (n.Kids.getD j default) p v with
      | none=>exact Ev.cf rfl (Ev.ret _)
      | some c =>
        refine Ev.ct rfl ?_
        exact Ev.bind (T.iQ hB h (BG hk hv hc) hjl) (Ev.ret _)
theorem EM {s:aS} (h:PT s=true):s.length<=12:=by unfold PT at h; simp at h; exact h.2
theorem nR:∀ {d:Nat} {n:af},Shape d n=true->Fine 12 d n
  | 0,_,h=>by cases h
  | d+1,n,h=>by
    have hp:=jG h
    have hk:=kY h
    have hl:=BZ hp
    refine ⟨?_,?_,?_,by omega,?_,fun k hk'=>nR (hk k hk')⟩
    · by_cases h2:n.Kind=2
      · unfold Parts at hp; simp [h2] at hp; exact EM hp.2.1
      · have e2:(n.Kind==2)=false:=by simpa using h2
        unfold Parts at hp
        simp only [e2,Bool.false_or,Bool.and_eq_true] at hp
        have:=hp.1.1.2
        rw [beq_iff_eq] at this
        rw [this]; simp
    · by_cases h4:n.Kind=4
      · have:=(oL hp h4).2.2.2.1; omega
      · by_cases h3:n.Kind=3
        · rw [(rV hp h3).2.2.1]; simp
        · rw [(zl hp h4 h3).1]; simp
    · intro s hs
      by_cases h4:n.Kind=4
      · exact EM (Md (oL hp h4).2.2.1 s hs)
      · by_cases h3:n.Kind=3
        · rw [(rV hp h3).2.2.1] at hs; cases hs
        · rw [(zl hp h4 h3).1] at hs; cases hs
    · intro h4; have:=(oL hp h4).2.2.2.2; omega
theorem o9 {d:Nat} {n:af} (h:Shape (d+1) n=true) {j:Nat} (hj:j<n.Kids.length):Shape d (n.Kids.getD j default)=true:=by
 rw [bF _ hj]; exact kY h _ (List.getElem_mem _)
theorem qJ:12<=lim:=by decide
theorem T.change {F:Nat->af->List aS->Option (af × Bool)} {C:Nat->af->Option (af × Bool)} {g:af->Option af}
    (hF:∀ n a p,F (n+1) a p=cond (((p.length:Nat):Int)==0) (Option.bind (C n a) fun v1=>some (v1.1,v1.2))
      (chk (0<=0/\0<((p.length:Nat):Int)) (Option.bind (G.bG n a (p.getD 0 default)) fun v2=>cond v2.2
        (chk (0<=v2.1/\v2.1<((a.Kids.length:Nat):Int)) (chk (0<=1/\1<=((p.length:Nat):Int)/\((p.length:Nat):Int)<=((p.length:Nat):Int))
          (Option.bind (F n (a.Kids.getD v2.1.toNat default) (p.drop 1)) fun v3=>cond v3.2 (Option.bind (G.au n a) fun v4=>chk (0<=v2.1/\v2.1<((v4.Kids.length:Nat):Int)) (some ((af.mk v4.Kind v4.Num v4.Text v4.Names (v4.Kids.set v2.1.toNat v3.1)),true)))
            (some ((af.mk 0 0 [] [] []),false))))) (some ((af.mk 0 0 [] [] []),false)))))
    (hC:∀ d m,Shape d m=true->Ev (fun n=>C n m) (iV (g m))) :
    ∀ (p:List aS) {d:Nat} {n:af},Shape d n=true->Ev (fun k=>F k n p) (iV (sO g n p))
  | [],d,n,h=>by
    refine Ev.up ?_
    simp only [hF]
    refine Ev.ct rfl (Ev.bind (hC d n h) (Ev.ret' ?_))
    rw [sO]
  | s::p,d,n,h=>by
    cases d with
    | zero=>cases h
    | succ d =>
    obtain ⟨v,b,gk,h1,h2⟩:=T.bG s (jG h)
    refine Ev.up ?_
    simp only [hF]
    refine Ev.cf (by simp; omega) (Ev.chk (by simp) ?_)
    rw [List.getD_cons_zero]
    refine Ev.bind gk ?_
    rw [sO]
    cases hj:rG n s with
    | none=>exact Ev.cf (h2 hj) (Ev.ret _)
    | some j =>
      have hjl:=nX hj
      obtain ⟨rfl,rfl⟩:=h1 j hj
      refine Ev.ct rfl (Ev.chk (by omega) (Ev.chk (by simp; omega) ?_))
      rw [Int.toNat_natCast]
      have ih:=T.change hF hC p (o9 h hjl)
      refine Ev.bind (show Ev (fun k=>F k (n.Kids.getD j default) ((s::p).drop 1)) _ from ih) ?_
      simp only
      cases hc:sO g (n.Kids.getD j default) p with
      | none=>exact Ev.cf rfl (Ev.ret _)
      | some c =>
        refine Ev.ct rfl (Ev.bind (T.au qJ (nR h)) (Ev.chk (by omega) (Ev.ret _)))
end Go.Ab
end
section
namespace Go.Ab
open Go
def insL {α:Type} (l:List α) (k:Nat) (v:α):List α:=(l.take k++[v])++l.drop k
def slt (n:af) (s:aS):Nat:=((List.range' 0 n.Kids.length).find? fun i=>bl s (n.Names.getD i default)).getD n.Kids.length
def addN (n:af) (s:aS) (v:af):Option af :=
  match rG n s with
  | some k=>if n.Kind=4 then some (uk n k v) else some (af.mk n.Kind 0 [] [] (insL n.Kids k v))
  | none=>if n.Kind=3 then (if s=[45]\/s=sS n.Kids.length then some (af.mk n.Kind 0 [] [] (insL n.Kids n.Kids.length v)) else none)
    else if n.Kind=4 then some (af.mk n.Kind 0 [] (insL n.Names (slt n s) s) (insL n.Kids (slt n s) v)) else none
theorem MO (n:af) (s:aS):slt n s<=n.Kids.length:=by
 unfold slt
 cases h:(List.range' 0 n.Kids.length).find? fun i=>bl s (n.Names.getD i default) with
 | none=>simp
 | some j=>have:=(tV.1 h).2.1; simp only [Option.getD_some]; omega
def CY (n:af) (s:aS):Option (Nat × Bool) :=
  match rG n s with
  | some k=>some (k,n.Kind==4)
  | none=>if n.Kind=3 then (if s=[45]\/s=sS n.Kids.length then some (n.Kids.length,false) else none)
    else if n.Kind=4 then some (slt n s,false) else none
def RZ:Option (Nat × Bool)->Int × Bool
 | some (k,b)=>((k:Int),b)
 | none=>(-1,false)
theorem T.fM.L1 {n:af} (s:aS) (hk:n.Kind ≠ 4):Ev (fun f=>G.fM.L1 f n s 0) (-1,false):=by
 refine Ev.up ?_
 simp only [G.fM.L1]
 exact Ev.cf (by simpa using hk) (Ev.ret _)
theorem T.fM.L2 {B D:Nat} {n:af} (s:aS) (hB:B<=lim) (h:Fine B D n) (hk:n.Kind=4) :
    ∀ (k i:Nat),i+k=n.Kids.length->Ev (fun f=>G.fM.L2 f n s i) (((((List.range' i k).find? fun i=>bl s (n.Names.getD i default)).getD n.Kids.length:Nat):Int),false):=by
  have hl:=h.kids
  have hm:=h.map hk
  unfold lim at hB
  intro k
  induction k with
  | zero =>
    intro i hi
    refine Ev.up ?_
    simp only [G.fM.L2]
    refine Ev.ct (by simpa using hk) (Ev.ct (by simp; omega) (Ev.ct (by simp; omega) (Ev.ret' ?_)))
    show ((i:Int),false)=(((n.Kids.length:Nat):Int),false)
    rw [show i=n.Kids.length by omega]
  | succ k ih =>
    intro i hi
    refine Ev.up ?_
    simp only [G.fM.L2]
    refine Ev.ct (by simpa using hk) (Ev.ct (by simp; omega) (Ev.cf (by simp; omega) (Ev.chk (by omega) ?_)))
    rw [List.range'_succ,List.find?_cons,Int.toNat_natCast]
    refine Ev.ite (fun e=>Ev.ret' ?_) (fun e => ?_)
    · rw [show bl s (n.Names.getD i default)=true from e]; rfl
    · rw [aV (by omega),show bl s (n.Names.getD i default)=false from e]
      exact ih (i+1) (by omega)
theorem T.fM {B D:Nat} {n:af} (s:aS) (hB:B<=lim) (h:Fine B D n) (hB':B<lim):Ev (fun f=>G.fM f n s) (RZ (CY n s)):=by
  have hl:=h.kids
  refine Ev.up ?_
  simp only [G.fM]
  refine Ev.bind (T.dH s hB h) ?_
  unfold CY
  cases hj:rG n s with
  | some j=>exact Ev.ct (decide_eq_true (by simp only [vH]; omega)) (Ev.ret _)
  | none =>
    refine Ev.cf (by rfl) ?_
    simp only
    by_cases h3:n.Kind=3
    · rw [if_pos h3]
      refine Ev.ct (by simpa using h3) ?_
      refine Ev.ite (fun e=>Ev.ret' ?_) (fun e => ?_)
      · rw [if_pos (.inl (by simpa using e))]; rfl
      · refine Ev.bind (T.decimal (i:=n.Kids.length) (by omega)) (Ev.ite (fun e2=>Ev.ret' ?_) (fun e2 => ?_))
        · rw [if_pos (.inr (by simpa using e2))]; rfl
        · rw [if_neg (by simp at e e2; simp [e,e2])]
          exact T.fM.L1 s (by omega)
    · rw [if_neg h3]
      refine Ev.cf (by simpa using h3) ?_
      by_cases h4:n.Kind=4
      · rw [if_pos h4]
        exact T.fM.L2 s hB h h4 n.Kids.length 0 (by omega)
      · rw [if_neg h4]
        refine Ev.up ?_
        simp only [G.fM.L2]
        exact Ev.cf (by simpa using h4) (Ev.ret _)
theorem Gf (n:af) (s:aS) (v:af):addN n s v=(CY n s).map fun q=>if q.2 then uk n q.1 v else if n.Kind=3 then af.mk n.Kind 0 [] [] (insL n.Kids q.1 v) else af.mk n.Kind 0 [] (insL n.Names q.1 s) (insL n.Kids q.1 v):=by
  unfold addN CY
  cases hj:rG n s with
  | some j =>
    simp only [Option.map_some]
    by_cases h4:n.Kind=4
    · simp [h4]
    · have h3:n.Kind=3:=by
        by_cases h3:n.Kind=3
        · exact h3
        · have:=yh hj; rw [vz h4 h3] at this; cases this
      simp [h3]
  | none =>
    simp only
    by_cases h3:n.Kind=3
    · simp only [h3,if_true]
      by_cases hs:s=[45]\/s=sS n.Kids.length
      · rw [if_pos hs,if_pos hs]; simp
      · rw [if_neg hs,if_neg hs]; rfl
    · rw [if_neg h3,if_neg h3]
      by_cases h4:n.Kind=4
      · rw [if_pos h4,if_pos h4]; simp [h3]
      · rw [if_neg h4,if_neg h4]; rfl
theorem NF {n:af} {s:aS} {q:Nat × Bool} (h:CY n s=some q):q.1<=n.Kids.length/\(q.2=true->q.1<n.Kids.length)/\(n.Kind=3\/n.Kind=4):=by
  unfold CY at h
  cases hj:rG n s with
  | some j =>
    rw [hj] at h
    cases h
    have:=nX hj
    refine ⟨by omega,fun _=>this,?_⟩
    by_cases h4:n.Kind=4
    · exact .inr h4
    · by_cases h3:n.Kind=3
      · exact .inl h3
      · have:=yh hj; rw [vz h4 h3] at this; cases this
  | none =>
    rw [hj] at h
    simp only at h
    by_cases h3:n.Kind=3
    · rw [if_pos h3] at h
      split at h
      · cases h; exact ⟨Nat.le_refl _,fun e=>(by cases e),.inl h3⟩
      · cases h
    · rw [if_neg h3] at h
      split at h
      · rename_i h4; cases h; exact ⟨MO n s,fun e=>(by cases e),.inr h4⟩
      · cases h
theorem T.jC {B D E:Nat} {n v:af} (s:aS) (hB:B<lim) (h:Fine B D n) (hv:Fine B E v):Ev (fun f=>G.jC f n s v) (iV (addN n s v)):=by
  have hl:=h.kids
  have hn:=h.names
  have hB2:=hB
  unfold lim at hB2
  refine Ev.up ?_
  simp only [G.jC]
  refine Ev.bind (T.fM s (by omega) h hB) ?_
  rw [Gf]
  cases hq:CY n s with
  | none=>exact Ev.ct rfl (Ev.ret _)
  | some q =>
    obtain ⟨q1,q2⟩:=q
    obtain ⟨hq1,hq2,hk⟩:=NF hq
    simp only at hq1 hq2
    refine Ev.cf (decide_eq_false (by simp only [RZ]; omega)) ?_
    refine Ev.ite (fun e => ?_) (fun e => ?_)
    · have e:q2=true:=e
      subst e
      exact Ev.bind (T.iQ (by omega) h hv (hq2 rfl)) (Ev.ret _)
    · have e:q2=false:=e
      subst e
      simp only [RZ,Int.toNat_natCast]
      have ht:(n.Kids.take q1).length=q1:=by rw [List.length_take]; omega
      have hd:(n.Kids.drop q1).length=n.Kids.length-q1:=List.length_drop
      refine Ev.bind (T.ay (by omega) h) (Ev.chk (by omega) (Ev.chk (by omega) (Ev.bind (T.ay (by omega) hv) (Ev.chk (by omega) (Ev.chk (by omega) (Ev.chk (by omega) ?_))))))
      refine Ev.ite (fun e3=>Ev.ret' ?_) (fun e3 => ?_)
      · have e3':n.Kind=3:=by simpa using e3
        simp only [Option.map_some,if_pos e3']
        rfl
      · have e3':¬ n.Kind=3:=by simpa using e3
        have h4:n.Kind=4:=by omega
        have hm:=h.map h4
        have ht2:(n.Names.take q1).length=q1:=by rw [List.length_take]; omega
        have hd2:(n.Names.drop q1).length=n.Names.length-q1:=List.length_drop
        refine Ev.chk (by omega) (Ev.chk (by omega) (Ev.chk (by omega) (Ev.chk (by omega) (Ev.chk (by omega) (Ev.ret' ?_)))))
        simp only [Option.map_some,if_neg e3']
        rfl
theorem JC {B D E:Nat} {n v m:af} {s:aS} (h:Fine B D n) (hv:Fine B E v) (hs:s.length<=B) (hm:addN n s v=some m):Fine (B+1) (D+E) m:=by
  rw [Gf] at hm
  cases hq:CY n s with
  | none=>rw [hq] at hm; cases hm
  | some q =>
    obtain ⟨q1,q2⟩:=q
    obtain ⟨hq1,hq2,hk⟩:=NF hq
    simp only at hq1 hq2
    rw [hq] at hm
    cases D with
    | zero=>exact h.elim
    | succ D =>
    cases hm
    have Wp:∀ k,k∈insL n.Kids q1 v->Fine (B+1) (D+E) k:=by
      intro k hk
      unfold insL at hk
      simp only [List.mem_append,List.mem_singleton] at hk
      rcases hk with (hk | rfl) | hk
      · exact (h.2.2.2.2.2 k (List.mem_of_mem_take hk)).mono (by omega) (by omega)
      · exact hv.mono (by omega) (by omega)
      · exact (h.2.2.2.2.2 k (List.mem_of_mem_drop hk)).mono (by omega) (by omega)
    have hlen:(insL n.Kids q1 v).length=n.Kids.length+1:=by unfold insL; simp; omega
    have hl:=h.kids
    have hn:=h.names
    have hb:1<=B+1:=by omega
    cases q2 with
    | true=>exact (JD (j:=q1) h hv).mono (by omega) (by omega)
    | false =>
      simp only [Bool.false_eq_true,if_false]
      rw [show D+1+E=(D+E)+1 by omega]
      by_cases h3:n.Kind=3
      · rw [if_pos h3]
        exact ⟨by simp,by simp,by simp,by show (insL n.Kids q1 v).length<=_; omega,fun h4=>by simp only at h4; omega,Wp⟩
      · rw [if_neg h3]
        have h4:n.Kind=4:=by omega
        have hm:=h.map h4
        have hlen2:(insL n.Names q1 s).length=n.Names.length+1:=by unfold insL; simp; omega
        refine ⟨by simp,by show (insL n.Names q1 s).length<=_; omega,fun x hx => ?_,by show (insL n.Kids q1 v).length<=_; omega,fun _=>by show (insL n.Kids q1 v).length<=(insL n.Names q1 s).length; omega,Wp⟩
        have hx:x∈insL n.Names q1 s:=hx
        unfold insL at hx
        simp only [List.mem_append,List.mem_singleton] at hx
        rcases hx with (hx | rfl) | hx
        · have:=h.2.2.1 x (List.mem_of_mem_take hx); omega
        · omega
        · have:=h.2.2.1 x (List.mem_of_mem_drop hx); omega
theorem Si {n:af} {s:aS} {p:Nat} (hA:Asc n.Names=true) (hl:n.Kids.length=n.Names.length) (h:LB n.Names s p) (hne:(decide (p<n.Names.length)&&n.Names.getD p default==s)=false):slt n s=p:=by
  have hhi:∀ j,p<=j->j<n.Names.length->bl s (n.Names.getD j default)=true:=by
    intro j h1 h2
    cases hb:bl s (n.Names.getD j default) with
    | true=>rfl
    | false =>
      have e:=xm hb (h.hi j h1 h2)
      by_cases hp:p=j
      · subst hp
        have:decide (p<n.Names.length)=true:=by simpa using h2
        rw [this,<- e] at hne
        simp at hne
      · have:=rZ hA p j (by omega) h2
        rw [<- e,h.hi p (by omega) (by omega)] at this
        cases this
  unfold slt
  cases hf:(List.range' 0 n.Kids.length).find? fun i=>bl s (n.Names.getD i default) with
  | none =>
    have:=xZ.1 hf
    by_cases hp:p=n.Kids.length
    · rw [hp]; rfl
    · have Ws:=h.le
      have h2:=hhi p (by omega) (by omega)
      rw [this p (by omega) (by omega)] at h2
      cases h2
  | some j =>
    obtain ⟨h1,h2,h3,h4⟩:=tV.1 hf
    show j=p
    have a1:¬ j<p:=fun hlt=>by
      have:=zL (h.lo j hlt)
      rw [this] at h3; cases h3
    have a2:¬ p<j:=fun hlt=>by
      have:=h4 p (by omega) hlt
      rw [hhi p (by omega) (by omega)] at this; cases this
    omega
theorem T.iO {d:Nat} {n v:af} (s:aS) (h:Shape (d+1) n=true) (hk:n.Kind=4):∃ m,addN n s v=some m/\Ev (fun f=>G.iO f n s v) m:=by
  have hp:=jG h
  obtain ⟨hnum,htext,hN,hl,hkl⟩:=oL hp hk
  obtain ⟨p,g,hlb⟩:=T.slices_BinarySearch_string s (by unfold big; omega) (zf hN)
  have hpl:=Iy hk (zf hN) hkl hlb
  have Ws:=hlb.le
  cases hc:decide (p<n.Names.length)&&n.Names.getD p default==s with
  | true =>
    rw [hc,if_pos rfl] at hpl
    refine ⟨uk n p v,by unfold addN; rw [hpl]; simp [hk],Ev.up ?_⟩
    simp only [G.iO]
    have:=nX hpl
    refine Ev.bind g (Ev.ct hc (Ev.chk (by omega) (Ev.ret' ?_)))
    rw [Int.toNat_natCast]; rfl
  | false =>
    rw [hc,if_neg (by simp)] at hpl
    have hsl:=Si (zf hN) hkl hlb hc
    refine ⟨af.mk n.Kind 0 [] (insL n.Names p s) (insL n.Kids p v),by unfold addN; rw [hpl,hsl]; simp [hk],Ev.up ?_⟩
    simp only [G.iO]
    refine Ev.bind g (Ev.cf hc ?_)
    have i1:Ev (fun f=>G.dQ f n.Names (p:Int) [s]) (insL n.Names p s):=by
      refine Ev.up ?_
      simp only [G.dQ]
      refine Ev.chk (by simp; omega) (Ev.ret' ?_)
      rw [Int.toNat_natCast]; rfl
    have i2:Ev (fun f=>G.bI f n.Kids (p:Int) [v]) (insL n.Kids p v):=by
      refine Ev.up ?_
      simp only [G.bI]
      refine Ev.chk (by simp; omega) (Ev.ret' ?_)
      rw [Int.toNat_natCast]; rfl
    exact Ev.bind i1 (Ev.bind i2 (Ev.ret' (by rw [hnum,htext])))
theorem T.fF.K1 {B E:Nat} {n v:af} {k:Nat} (hB:B<=lim) (hv:Fine B E v) (hk:k<=n.Kids.length) (hl:n.Kids.length<=6):Ev (fun f=>G.fF.K1 f v n (k:Int) true) (af.mk n.Kind n.Num n.Text n.Names (insL n.Kids k v),true):=by
 refine Ev.up ?_
 simp only [G.fF.K1]
 refine Ev.ct rfl (Ev.bind (T.au hB hv) ?_)
 have i2:Ev (fun f=>G.bI f n.Kids (k:Int) [v]) (insL n.Kids k v):=by
  refine Ev.up ?_
  simp only [G.bI]
  refine Ev.chk (by simp; omega) (Ev.ret' ?_)
  rw [Int.toNat_natCast]; rfl
 exact Ev.bind i2 (Ev.ret _)
theorem T.fF {B E d:Nat} {n v:af} (s:aS) (hB:B<=lim) (hv:Fine B E v) (h:Shape d n=true):Ev (fun f=>G.fF f n s v) (iV (addN n s v)):=by
  cases d with
  | zero=>cases h
  | succ d =>
  have hp:=jG h
  refine Ev.up ?_
  simp only [G.fF]
  refine Ev.bind (T.au qJ (nR h)) ?_
  by_cases h4:n.Kind=4
  · refine Ev.ct (by simpa using h4) (Ev.bind (T.au hB hv) ?_)
    obtain ⟨m,hm,g⟩:=T.iO (v:=v) s h h4
    rw [hm]
    exact Ev.bind g (Ev.ret _)
  refine Ev.cf (by simpa using h4) ?_
  by_cases h3:n.Kind=3
  · obtain ⟨hnum,htext,LW,hl⟩:=rV hp h3
    refine Ev.ct (by simpa using h3) ?_
    obtain ⟨w,b,g,h1,h2⟩:=T.bG s hp
    refine Ev.bind g ?_
    unfold addN
    cases hj:rG n s with
    | some j =>
      obtain ⟨rfl,rfl⟩:=h1 j hj
      have:=nX hj
      refine Ev.ct rfl ((T.fF.K1 (k:=j) hB hv (by omega) hl).eq ?_)
      simp only [if_neg h4]
      rw [hnum,htext,LW]; rfl
    | none =>
      have hb:=h2 hj
      subst hb
      simp only [if_pos h3]
      refine Ev.cf rfl (Ev.ite (fun e => ?_) (fun e => ?_))
      · refine (T.fF.K1 (k:=n.Kids.length) hB hv (by omega) hl).eq ?_
        rw [if_pos (.inl (by simpa using e)),hnum,htext,LW]; rfl
      · refine Ev.bind (T.strconv_Itoa (i:=n.Kids.length) (by omega)) (Ev.ite (fun e2 => ?_) (fun e2 => ?_))
        · refine (T.fF.K1 (k:=n.Kids.length) hB hv (by omega) hl).eq ?_
          rw [if_pos (.inr (by simpa using e2)),hnum,htext,LW]; rfl
        · rw [if_neg (by simp at e e2; simp [e,e2])]
          refine Ev.up ?_
          simp only [G.fF.K1]
          exact Ev.cf rfl (Ev.ret _)
  · refine Ev.cf (by simpa using h3) (Ev.ret' ?_)
    have hn:rG n s=none:=Aw.2 (fun q _=>vz h4 h3 s q)
    unfold addN
    rw [hn]
    simp [h3,h4,iV,nG]
end Go.Ab
end
section
namespace Go.Ab
open Go
theorem T.fP (b:Bool):Ev (fun f=>G.fP f b) (if b then 1 else 0):=by
 refine Ev.up ?_
 simp only [G.fP]
 cases b
 ·exact Ev.ret _
 ·exact Ev.ret _
theorem T.jK (a b:Int):∃ r,Ev (fun f=>G.jK f a b) r/\(r=0<->a=b):=by
 by_cases h:a<b
 ·refine ⟨-1,Ev.up ?_,by omega⟩
  simp only [G.jK]
  rw [show decide (b<a)=false by simp; omega,show decide (a<b)=true by simpa using h]
  exact Ev.bind (T.fP _) (Ev.bind (T.fP _) (Ev.ret _))
 ·by_cases k:b<a
  ·refine ⟨1,Ev.up ?_,by omega⟩
   simp only [G.jK]
   rw [show decide (a<b)=false by simp; omega,show decide (b<a)=true by simpa using k]
   exact Ev.bind (T.fP _) (Ev.bind (T.fP _) (Ev.ret _))
  ·refine ⟨0,Ev.up ?_,by omega⟩
   simp only [G.jK]
   rw [show decide (a<b)=false by simp; omega,show decide (b<a)=false by simp; omega]
   exact Ev.bind (T.fP _) (Ev.bind (T.fP _) (Ev.ret _))
theorem T.iI (a b:aS) (hne:a ≠ b):∃ r,Ev (fun f=>G.iI f a b) r/\r ≠ 0:=by
  cases h:bl a b with
  | true =>
    refine ⟨-1,Ev.up ?_,by omega⟩
    simp only [G.iI]
    exact Ev.ct h (Ev.bind (T.fP _) (Ev.bind (T.fP _) (Ev.ret _)))
  | false =>
    refine ⟨1,Ev.up ?_,by omega⟩
    simp only [G.iI]
    exact Ev.cf h (Ev.cf (by simpa using hne) (Ev.bind (T.fP _) (Ev.bind (T.fP _) (Ev.ret _))))
def uC (a b:af) (i:Nat):Prop:=a.Kids.drop i=b.Kids.drop i/\(a.Kind=4->a.Names.drop i=b.Names.drop i)
theorem Eu {a b:af} {i:Nat} (ha:i<a.Kids.length) (hb:i<b.Kids.length) (h4:a.Kind=4->i<a.Names.length/\i<b.Names.length) :
  uC a b i<->((a.Kind=4->a.Names.getD i default=b.Names.getD i default)/\a.Kids.getD i default=b.Kids.getD i default/\uC a b (i+1)):=by
 unfold uC
 rw [bg (default:af) ha,bg (default:af) hb,List.cons.injEq]
 by_cases hk:a.Kind=4
 ·obtain ⟨n1,n2⟩:=h4 hk
  rw [bg (default:aS) n1,bg (default:aS) n2,List.cons.injEq]
  simp only [hk,true_implies]
  constructor
  ·rintro ⟨⟨x,y⟩,z,w⟩; exact ⟨z,x,y,w⟩
  ·rintro ⟨z,x,y,w⟩; exact ⟨⟨x,y⟩,z,w⟩
 ·simp only [hk,false_implies,and_true,true_and]
theorem oU {d:Nat} {n:af} (h:Shape d n=true) (hk:n.Kind=4):n.Names.length=n.Kids.length:=by
 cases d with
 | zero=>cases h
 | succ d=>exact (oL (jG h) hk).2.2.2.2.symm
theorem T.bV.L1 {d e:Nat} {a b:af} (ha:Shape (d+1) a=true) (hb:Shape (e+1) b=true) (hk:a.Kind=b.Kind)
    (hs:∀ x y,x∈a.Kids->y∈b.Kids->∃ r,Ev (fun f=>G.bV f x y) r/\(r=0<->x=y)) :
    ∀ (k i:Nat),a.Kids.length<=i+k->i<=a.Kids.length->i<=b.Kids.length->∃ r,Ev (fun f=>G.bV.L1 f a b i) r/\(r=0<->uC a b i):=by
  have la:=qR ha
  have lb:=qR hb
  have tail:∀ i,i<=a.Kids.length->i<=b.Kids.length->(i=a.Kids.length\/i=b.Kids.length)->∃ r,Ev (fun f=>Option.bind (G.jK f ((a.Kids.length:Nat):Int) ((b.Kids.length:Nat):Int)) fun v=>some v) r/\(r=0<->uC a b i):=by
    intro i h1 h2 h3
    obtain ⟨r,g,hr⟩:=T.jK ((a.Kids.length:Nat):Int) ((b.Kids.length:Nat):Int)
    refine ⟨r,Ev.bind g (Ev.ret _),hr.trans ⟨fun hl => ?_,fun hE => ?_⟩⟩
    · have hl:a.Kids.length=b.Kids.length:=by omega
      refine ⟨by rw [List.drop_of_length_le (by omega),List.drop_of_length_le (by omega)],fun h4 => ?_⟩
      have n1:=oU ha h4
      have n2:=oU hb (hk ▸ h4)
      rw [List.drop_of_length_le (by omega),List.drop_of_length_le (by omega)]
    · have:=congrArg List.length hE.1
      simp only [List.length_drop] at this
      omega
  intro k
  induction k with
  | zero =>
    intro i h1 h2 h3
    obtain ⟨r,g,hr⟩:=tail i h2 h3 (by omega)
    refine ⟨r,Ev.up ?_,hr⟩
    simp only [G.bV.L1]
    exact Ev.cf (by simp; omega) g
  | succ k ih =>
    intro i h1 h2 h3
    by_cases hia:i=a.Kids.length
    · obtain ⟨r,g,hr⟩:=tail i h2 h3 (by omega)
      refine ⟨r,Ev.up ?_,hr⟩
      simp only [G.bV.L1]
      exact Ev.cf (by simp; omega) g
    by_cases hib:i=b.Kids.length
    · obtain ⟨r,g,hr⟩:=tail i h2 h3 (by omega)
      refine ⟨r,Ev.up ?_,hr⟩
      simp only [G.bV.L1]
      exact Ev.ct (by simp; omega) (Ev.cf (by simp; omega) g)
    have n4:a.Kind=4->i<a.Names.length/\i<b.Names.length:=fun h4=>by
      have n1:=oU ha h4
      have n2:=oU hb (hk ▸ h4)
      omega
    have hE:=Eu (a:=a) (b:=b) (i:=i) (by omega) (by omega) n4
    obtain ⟨r2,g2,hr2⟩:=hs (a.Kids.getD i default) (b.Kids.getD i default) (by rw [bF _ (by omega:i<a.Kids.length)]; exact List.getElem_mem _) (by rw [bF _ (by omega:i<b.Kids.length)]; exact List.getElem_mem _)
    obtain ⟨r3,g3,hr3⟩:=ih (i+1) (by omega) (by omega) (by omega)
    have rest:∃ r,Ev (fun f=>Option.bind (G.bV f (a.Kids.getD i default) (b.Kids.getD i default)) fun v=>cond (v != 0) (some v) (G.bV.L1 f a b ((i+1:Nat):Int))) r/\(r=0<->(a.Kids.getD i default=b.Kids.getD i default/\uC a b (i+1))):=by
      by_cases h0:r2=0
      · refine ⟨r3,Ev.bind g2 (Ev.cf (by rw [h0]; rfl) g3),?_⟩
        rw [hr3]
        exact ⟨fun h=>⟨hr2.1 h0,h⟩,fun h=>h.2⟩
      · refine ⟨r2,Ev.bind g2 (Ev.ct (by simpa using h0) (Ev.ret _)),?_⟩
        exact ⟨fun h=>absurd h h0,fun h=>hr2.2 h.1⟩
    obtain ⟨r4,g4,hr4⟩:=rest
    by_cases h4:a.Kind=4
    · obtain ⟨m1,m2⟩:=n4 h4
      by_cases hn:a.Names.getD i default=b.Names.getD i default
      · refine ⟨r4,Ev.up ?_,?_⟩
        · simp only [G.bV.L1]
          rw [Int.toNat_natCast,aV (by omega)]
          exact Ev.ct (by simp; omega) (Ev.ct (by simp; omega) (Ev.ct (by simpa using h4) (Ev.chk (by omega) (Ev.chk (by omega) (Ev.ct (by simpa using hn) (Ev.chk (by omega) (Ev.chk (by omega) g4)))))))
        · rw [hr4,hE]
          exact ⟨fun h=>⟨fun _=>hn,h⟩,fun h=>h.2⟩
      · obtain ⟨r,g,hr⟩:=T.iI _ _ hn
        refine ⟨r,Ev.up ?_,?_⟩
        · simp only [G.bV.L1]
          rw [Int.toNat_natCast,aV (by omega)]
          exact Ev.ct (by simp; omega) (Ev.ct (by simp; omega) (Ev.ct (by simpa using h4) (Ev.chk (by omega) (Ev.chk (by omega) (Ev.cf (by simpa using hn) (Ev.chk (by omega) (Ev.chk (by omega) (Ev.bind g (Ev.ret _)))))))))
        · rw [hE]
          exact ⟨fun h=>absurd h hr,fun h=>absurd (h.1 h4) hn⟩
    · refine ⟨r4,Ev.up ?_,?_⟩
      · simp only [G.bV.L1]
        rw [Int.toNat_natCast,aV (by omega)]
        exact Ev.ct (by simp; omega) (Ev.ct (by simp; omega) (Ev.cf (by simpa using h4) (Ev.chk (by omega) (Ev.chk (by omega) g4))))
      · rw [hr4,hE]
        exact ⟨fun h=>⟨fun e=>absurd e h4,h⟩,fun h=>h.2⟩
theorem Gt {d:Nat} {n:af} (h:Shape (d+1) n=true) (h4:n.Kind ≠ 4):n.Names=[]:=by
 by_cases h3:n.Kind=3
 ·exact (rV (jG h) h3).2.2.1
 ·exact (zl (jG h) h4 h3).1
theorem eq_iff {d e:Nat} {a b:af} (ha:Shape (d+1) a=true) (hb:Shape (e+1) b=true):a=b<->(a.Kind=b.Kind/\a.Num=b.Num/\a.Text=b.Text/\uC a b 0):=by
 constructor
 ·rintro rfl; exact ⟨rfl,rfl,rfl,rfl,fun _=>rfl⟩
 ·rintro ⟨h1,h2,h3,h4,h5⟩
  simp only [List.drop_zero] at h4 h5
  have hn:a.Names=b.Names:=by
   by_cases h:a.Kind=4
   ·exact h5 h
   ·rw [Gt ha h,Gt hb (h1 ▸ h)]
  cases a; cases b
  simp only at h1 h2 h3 h4 hn
  subst h1 h2 h3 h4 hn
  rfl
theorem T.bV:∀ (d:Nat) {e:Nat} {a b:af},Shape d a=true->Shape e b=true->∃ r,Ev (fun f=>G.bV f a b) r/\(r=0<->a=b)
  | 0,_,_,_,h,_=>by cases h
  | _+1,0,_,_,_,h=>by cases h
  | d+1,e+1,a,b,ha,hb=>by
    rw [eq_iff ha hb]
    by_cases h1:a.Kind=b.Kind
    · by_cases h2:a.Num=b.Num
      · by_cases h3:a.Text=b.Text
        · obtain ⟨r,g,hr⟩:=T.bV.L1 ha hb h1 (fun x y hx hy=>T.bV d (kY ha x hx) (kY hb y hy)) a.Kids.length 0 (by omega) (by omega) (by omega)
          refine ⟨r,Ev.up ?_,hr.trans ⟨fun h=>⟨h1,h2,h3,h⟩,fun h=>h.2.2.2⟩⟩
          simp only [G.bV]
          exact Ev.cf (by simpa using h1) (Ev.cf (by simpa using h2) (Ev.ct (by simpa using h3) g))
        · obtain ⟨r,g,hr⟩:=T.iI _ _ h3
          refine ⟨r,Ev.up ?_,⟨fun h=>absurd h hr,fun h=>absurd h.2.2.1 h3⟩⟩
          simp only [G.bV]
          exact Ev.cf (by simpa using h1) (Ev.cf (by simpa using h2) (Ev.cf (by simpa using h3) (Ev.bind g (Ev.ret _))))
      · obtain ⟨r,g,hr⟩:=T.jK a.Num b.Num
        refine ⟨r,Ev.up ?_,hr.trans ⟨fun h=>absurd h h2,fun h=>h.2.1⟩⟩
        simp only [G.bV]
        exact Ev.cf (by simpa using h1) (Ev.ct (by simpa using h2) (Ev.bind g (Ev.ret _)))
    · obtain ⟨r,g,hr⟩:=T.jK a.Kind b.Kind
      refine ⟨r,Ev.up ?_,hr.trans ⟨fun h=>absurd h h1,fun h=>h.1⟩⟩
      simp only [G.bV]
      exact Ev.ct (by simpa using h1) (Ev.bind g (Ev.ret _))
theorem T.ny {d e:Nat} {a b:af} (ha:Shape d a=true) (hb:Shape e b=true):∃ v,Ev (fun f=>G.ny f a b) v/\(v=true<->a=b):=by
 obtain ⟨r,g,hr⟩:=T.bV d ha hb
 refine ⟨r==0,Ev.up ?_,by rw [beq_iff_eq]; exact hr⟩
 simp only [G.ny]
 exact Ev.bind g (Ev.ret _)
theorem T.cmp_Compare_int (a b:Int):∃ r,Ev (fun f=>G.cmp_Compare_int f a b) r/\(r=0<->a=b):=by
 have hn:∀ x:Int,Ev (fun f=>G.cmp_isNaN_int f x) false:=fun x=>by
  refine Ev.up ?_
  simp only [G.cmp_isNaN_int]
  exact Ev.ret' (by simp)
 by_cases h:a<b
 ·refine ⟨-1,Ev.up ?_,by omega⟩
  simp only [G.cmp_Compare_int]
  exact Ev.bind (hn a) (Ev.bind (hn b) (Ev.cf rfl (Ev.cf rfl (Ev.ct (by simpa using h) (Ev.ret _)))))
 ·by_cases k:b<a
  ·refine ⟨1,Ev.up ?_,by omega⟩
   simp only [G.cmp_Compare_int]
   exact Ev.bind (hn a) (Ev.bind (hn b) (Ev.cf rfl (Ev.cf rfl (Ev.cf (by simpa using h) (Ev.ct (by simpa using k) (Ev.ret _))))))
  ·refine ⟨0,Ev.up ?_,by omega⟩
   simp only [G.cmp_Compare_int]
   exact Ev.bind (hn a) (Ev.bind (hn b) (Ev.cf rfl (Ev.cf rfl (Ev.cf (by simpa using h) (Ev.cf (by simpa using k) (Ev.ret _))))))
theorem T.strings_Compare (a b:aS):∃ r,Ev (fun f=>G.strings_Compare f a b) r/\(r=0<->a=b):=by
 refine ⟨Go.Lib.compareBytes a b,Ev.up ?_,Gl⟩
 simp only [G.strings_Compare]
 have:Ev (fun f=>G.bT f a b) (Go.Lib.compareBytes a b):=by
  refine Ev.up ?_
  simp only [G.bT]
  exact Ev.ret _
 exact Ev.bind this (Ev.ret _)
theorem T.aJ.L3 {d e:Nat} {a b:af} (ha:Shape (d+1) a=true) (hb:Shape (e+1) b=true) (hk:a.Kind=b.Kind)
    (hs:∀ x y,x∈a.Kids->y∈b.Kids->∃ r,Ev (fun f=>G.aJ f x y) r/\(r=0<->x=y)) :
    ∀ (k i:Nat),a.Kids.length<=i+k->i<=a.Kids.length->i<=b.Kids.length->∃ r,Ev (fun f=>G.aJ.L3 f a b i) r/\(r=0<->uC a b i):=by
  have la:=qR ha
  have lb:=qR hb
  have tail:∀ i,i<=a.Kids.length->i<=b.Kids.length->(i=a.Kids.length\/i=b.Kids.length)->∃ r,Ev (fun f=>Option.bind (G.cmp_Compare_int f ((a.Kids.length:Nat):Int) ((b.Kids.length:Nat):Int)) fun v=>some v) r/\(r=0<->uC a b i):=by
    intro i h1 h2 h3
    obtain ⟨r,g,hr⟩:=T.cmp_Compare_int ((a.Kids.length:Nat):Int) ((b.Kids.length:Nat):Int)
    refine ⟨r,Ev.bind g (Ev.ret _),hr.trans ⟨fun hl => ?_,fun hE => ?_⟩⟩
    · have hl:a.Kids.length=b.Kids.length:=by omega
      refine ⟨by rw [List.drop_of_length_le (by omega),List.drop_of_length_le (by omega)],fun h4 => ?_⟩
      have n1:=oU ha h4
      have n2:=oU hb (hk ▸ h4)
      rw [List.drop_of_length_le (by omega),List.drop_of_length_le (by omega)]
    · have:=congrArg List.length hE.1
      simp only [List.length_drop] at this
      omega
  intro k
  induction k with
  | zero =>
    intro i h1 h2 h3
    obtain ⟨r,g,hr⟩:=tail i h2 h3 (by omega)
    refine ⟨r,Ev.up ?_,hr⟩
    simp only [G.aJ.L3]
    exact Ev.cf (by simp; omega) g
  | succ k ih =>
    intro i h1 h2 h3
    by_cases hia:i=a.Kids.length
    · obtain ⟨r,g,hr⟩:=tail i h2 h3 (by omega)
      refine ⟨r,Ev.up ?_,hr⟩
      simp only [G.aJ.L3]
      exact Ev.cf (by simp; omega) g
    by_cases hib:i=b.Kids.length
    · obtain ⟨r,g,hr⟩:=tail i h2 h3 (by omega)
      refine ⟨r,Ev.up ?_,hr⟩
      simp only [G.aJ.L3]
      exact Ev.ct (by simp; omega) (Ev.cf (by simp; omega) g)
    have n4:a.Kind=4->i<a.Names.length/\i<b.Names.length:=fun h4=>by
      have n1:=oU ha h4
      have n2:=oU hb (hk ▸ h4)
      omega
    have hE:=Eu (a:=a) (b:=b) (i:=i) (by omega) (by omega) n4
    obtain ⟨r2,g2,hr2⟩:=hs (a.Kids.getD i default) (b.Kids.getD i default) (by rw [bF _ (by omega:i<a.Kids.length)]; exact List.getElem_mem _) (by rw [bF _ (by omega:i<b.Kids.length)]; exact List.getElem_mem _)
    obtain ⟨r3,g3,hr3⟩:=ih (i+1) (by omega) (by omega) (by omega)
    have rest:∃ r,Ev (fun f=>G.aJ.K4 f a b (i:Int)) r/\(r=0<->(a.Kids.getD i default=b.Kids.getD i default/\uC a b (i+1))):=by
      by_cases h0:r2=0
      · refine ⟨r3,Ev.up ?_,?_⟩
        · simp only [G.aJ.K4]
          rw [Int.toNat_natCast,aV (by omega)]
          exact Ev.chk (by omega) (Ev.chk (by omega) (Ev.bind g2 (Ev.cf (by rw [h0]; rfl) g3)))
        · rw [hr3]
          exact ⟨fun h=>⟨hr2.1 h0,h⟩,fun h=>h.2⟩
      · refine ⟨r2,Ev.up ?_,?_⟩
        · simp only [G.aJ.K4]
          rw [Int.toNat_natCast,aV (by omega)]
          exact Ev.chk (by omega) (Ev.chk (by omega) (Ev.bind g2 (Ev.ct (by simpa using h0) (Ev.ret _))))
        · exact ⟨fun h=>absurd h h0,fun h=>hr2.2 h.1⟩
    obtain ⟨r4,g4,hr4⟩:=rest
    by_cases h4:a.Kind=4
    · obtain ⟨m1,m2⟩:=n4 h4
      obtain ⟨r,g,hr⟩:=T.strings_Compare (a.Names.getD i default) (b.Names.getD i default)
      by_cases hn:a.Names.getD i default=b.Names.getD i default
      · refine ⟨r4,Ev.up ?_,?_⟩
        · simp only [G.aJ.L3]
          rw [Int.toNat_natCast]
          exact Ev.ct (by simp; omega) (Ev.ct (by simp; omega) (Ev.ct (by simpa using h4) (Ev.chk (by omega) (Ev.chk (by omega) (Ev.bind g (Ev.cf (by rw [hr.2 hn]; rfl) g4))))))
        · rw [hr4,hE]
          exact ⟨fun h=>⟨fun _=>hn,h⟩,fun h=>h.2⟩
      · have hr0:r ≠ 0:=fun e=>hn (hr.1 e)
        refine ⟨r,Ev.up ?_,?_⟩
        · simp only [G.aJ.L3]
          rw [Int.toNat_natCast]
          exact Ev.ct (by simp; omega) (Ev.ct (by simp; omega) (Ev.ct (by simpa using h4) (Ev.chk (by omega) (Ev.chk (by omega) (Ev.bind g (Ev.ct (by simpa using hr0) (Ev.ret _)))))))
        · rw [hE]
          exact ⟨fun h=>absurd h hr0,fun h=>absurd (h.1 h4) hn⟩
    · refine ⟨r4,Ev.up ?_,?_⟩
      · simp only [G.aJ.L3]
        exact Ev.ct (by simp; omega) (Ev.ct (by simp; omega) (Ev.cf (by simpa using h4) g4))
      · rw [hr4,hE]
        exact ⟨fun h=>⟨fun e=>absurd e h4,h⟩,fun h=>h.2⟩
theorem T.aJ:∀ (d:Nat) {e:Nat} {a b:af},Shape d a=true->Shape e b=true->∃ r,Ev (fun f=>G.aJ f a b) r/\(r=0<->a=b)
  | 0,_,_,_,h,_=>by cases h
  | _+1,0,_,_,_,h=>by cases h
  | d+1,e+1,a,b,ha,hb=>by
    rw [eq_iff ha hb]
    obtain ⟨r1,g1,hr1⟩:=T.cmp_Compare_int a.Kind b.Kind
    obtain ⟨r2,g2,hr2⟩:=T.cmp_Compare_int a.Num b.Num
    obtain ⟨r3,g3,hr3⟩:=T.strings_Compare a.Text b.Text
    by_cases h1:r1=0
    · by_cases h2:r2=0
      · by_cases h3:r3=0
        · obtain ⟨r,g,hr⟩:=T.aJ.L3 ha hb (hr1.1 h1) (fun x y hx hy=>T.aJ d (kY ha x hx) (kY hb y hy)) a.Kids.length 0 (by omega) (by omega) (by omega)
          refine ⟨r,Ev.up ?_,hr.trans ⟨fun h=>⟨hr1.1 h1,hr2.1 h2,hr3.1 h3,h⟩,fun h=>h.2.2.2⟩⟩
          simp only [G.aJ]
          exact Ev.bind g1 (Ev.cf (by rw [h1]; rfl) (Ev.bind g2 (Ev.cf (by rw [h2]; rfl) (Ev.bind g3 (Ev.cf (by rw [h3]; rfl) g)))))
        · refine ⟨r3,Ev.up ?_,⟨fun h=>absurd h h3,fun h=>hr3.2 h.2.2.1⟩⟩
          simp only [G.aJ]
          exact Ev.bind g1 (Ev.cf (by rw [h1]; rfl) (Ev.bind g2 (Ev.cf (by rw [h2]; rfl) (Ev.bind g3 (Ev.ct (by simpa using h3) (Ev.ret _))))))
      · refine ⟨r2,Ev.up ?_,⟨fun h=>absurd h h2,fun h=>hr2.2 h.2.1⟩⟩
        simp only [G.aJ]
        exact Ev.bind g1 (Ev.cf (by rw [h1]; rfl) (Ev.bind g2 (Ev.ct (by simpa using h2) (Ev.ret _))))
    · refine ⟨r1,Ev.up ?_,⟨fun h=>absurd h h1,fun h=>hr1.2 h.1⟩⟩
      simp only [G.aJ]
      exact Ev.bind g1 (Ev.ct (by simpa using h1) (Ev.ret _))
theorem T.kF {d e:Nat} {a b:af} (ha:Shape d a=true) (hb:Shape e b=true):∃ v,Ev (fun f=>G.kF f a b) v/\(v=true<->a=b):=by
 obtain ⟨r,g,hr⟩:=T.aJ d ha hb
 refine ⟨r==0,Ev.up ?_,by rw [beq_iff_eq]; exact hr⟩
 simp only [G.kF]
 exact Ev.bind g (Ev.ret _)
end Go.Ab
end
