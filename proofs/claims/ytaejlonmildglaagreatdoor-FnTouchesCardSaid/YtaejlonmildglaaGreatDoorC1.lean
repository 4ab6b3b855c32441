/- The functions of the program that the laws reach: what they compute, the proofs that they do, the laws of the data (part 1). No conditions. -/
import Derived.Test.YtaejlonmildglaaGreatDoorX2
set_option linter.unusedVariables false
set_option linter.unusedSimpArgs false
section
namespace Go.Ab
open Go
set_option maxRecDepth 100000
set_option maxHeartbeats 4000000
set_option linter.unusedVariables false
set_option linter.unusedSimpArgs false
structure af where
 Kind:Int
 Num:Int
 Text:aG
 Names:List aG
 Kids:List af
 deriving Inhabited
mutual
def af.cells:af->List Cell
 | af.mk x0 x1 x2 x3 x4=>[.lit (.int .i64 x0),.lit (.int .i64 x1),.str x2,.sl 1 (List.map cS x3),.sl 5 (af.yR x4)]
def af.yR:List af->List (List Cell)
 | []=>[]
 | x::r=>x.cells::af.yR r
end
theorem af.Jq (ks:List af):af.yR ks=List.map af.cells ks:=by
 induction ks with
 | nil=>rfl
 | cons x r ih=>simp [af.yR,ih]
theorem af.gQ (n:af):n.cells=[.lit (.int .i64 n.Kind),.lit (.int .i64 n.Num),.str n.Text,.sl 1 (List.map cS n.Names),.sl 5 (List.map af.cells n.Kids)]:=by
 cases n
 rw [af.cells,af.Jq]
structure nO where
 Kind:Int
 Path:List aG
 From:List aG
 Value:af
 deriving Inhabited
def nO.cells (n:nO):List Cell:=[.lit (.int .i64 n.Kind),.sl 1 (List.map cS n.Path),.sl 1 (List.map cS n.From),.lit (.int .i64 n.Value.Kind),.lit (.int .i64 n.Value.Num),.str n.Value.Text,.sl 1 (List.map cS n.Value.Names),.sl 5 (List.map af.cells n.Value.Kids)]
theorem nO.gQ (n:nO):n.cells=[.lit (.int .i64 n.Kind),.sl 1 (List.map cS n.Path),.sl 1 (List.map cS n.From),.lit (.int .i64 n.Value.Kind),.lit (.int .i64 n.Value.Num),.str n.Value.Text,.sl 1 (List.map cS n.Value.Names),.sl 5 (List.map af.cells n.Value.Kids)]:=rfl
structure aA where
 Name:aG
 Version:Int
 Node:af
 deriving Inhabited
def aA.cells (n:aA):List Cell:=[.str n.Name,.lit (.int .i64 n.Version),.lit (.int .i64 n.Node.Kind),.lit (.int .i64 n.Node.Num),.str n.Node.Text,.sl 1 (List.map cS n.Node.Names),.sl 5 (List.map af.cells n.Node.Kids)]
theorem aA.gQ (n:aA):n.cells=[.str n.Name,.lit (.int .i64 n.Version),.lit (.int .i64 n.Node.Kind),.lit (.int .i64 n.Node.Num),.str n.Node.Text,.sl 1 (List.map cS n.Node.Names),.sl 5 (List.map af.cells n.Node.Kids)]:=rfl
structure StoreT where
 Items:List aA
 Clock:Int
 deriving Inhabited
def StoreT.cells (n:StoreT):List Cell:=[.sl 7 (List.map aA.cells n.Items),.lit (.int .i64 n.Clock)]
theorem StoreT.gQ (n:StoreT):n.cells=[.sl 7 (List.map aA.cells n.Items),.lit (.int .i64 n.Clock)]:=rfl
structure RequestT where
 Method:Int
 Name:aG
 Want:List aG
 lT:List aG
 Body:af
 Ops:List nO
 deriving Inhabited
def RequestT.cells (n:RequestT):List Cell:=[.lit (.int .i64 n.Method),.str n.Name,.sl 1 (List.map cS n.Want),.sl 1 (List.map cS n.lT),.lit (.int .i64 n.Body.Kind),.lit (.int .i64 n.Body.Num),.str n.Body.Text,.sl 1 (List.map cS n.Body.Names),.sl 5 (List.map af.cells n.Body.Kids),.sl 8 (List.map nO.cells n.Ops)]
theorem RequestT.gQ (n:RequestT):n.cells=[.lit (.int .i64 n.Method),.str n.Name,.sl 1 (List.map cS n.Want),.sl 1 (List.map cS n.lT),.lit (.int .i64 n.Body.Kind),.lit (.int .i64 n.Body.Num),.str n.Body.Text,.sl 1 (List.map cS n.Body.Names),.sl 5 (List.map af.cells n.Body.Kids),.sl 8 (List.map nO.cells n.Ops)]:=rfl
structure aj where
 Status:Int
 Tag:aG
 Version:Int
 Body:af
 deriving Inhabited
def aj.cells (n:aj):List Cell:=[.lit (.int .i64 n.Status),.str n.Tag,.lit (.int .i64 n.Version),.lit (.int .i64 n.Body.Kind),.lit (.int .i64 n.Body.Num),.str n.Body.Text,.sl 1 (List.map cS n.Body.Names),.sl 5 (List.map af.cells n.Body.Kids)]
theorem aj.gQ (n:aj):n.cells=[.lit (.int .i64 n.Status),.str n.Tag,.lit (.int .i64 n.Version),.lit (.int .i64 n.Body.Kind),.lit (.int .i64 n.Body.Num),.str n.Body.Text,.sl 1 (List.map cS n.Body.Names),.sl 5 (List.map af.cells n.Body.Kids)]:=rfl
structure ReaderT where
 b:List Int
 p:Int
 deriving Inhabited
def ReaderT.cells (n:ReaderT):List Cell:=[.sl 1 (List.map cU n.b),.lit (.int .i64 n.p)]
theorem ReaderT.gQ (n:ReaderT):n.cells=[.sl 1 (List.map cU n.b),.lit (.int .i64 n.p)]:=rfl
end Go.Ab
end
section
namespace Go.Ab
open Go
set_option maxRecDepth 100000
set_option maxHeartbeats 4000000
set_option linter.unusedVariables false
set_option linter.unusedSimpArgs false
def G.cmp_isNaN_int (f:Nat) (kQ:Int):Option (Bool):=match f with
| 0=>none
| n+1 =>
(some ((kQ != kQ)))
def G.cmp_Compare_int (f:Nat) (kQ:Int) (BZ:Int):Option (Int):=match f with
| 0=>none
| n+1 =>
((G.cmp_isNaN_int n kQ).bind fun v1 =>
((G.cmp_isNaN_int n BZ).bind fun v2 =>
(cond v1
(cond v2
(some (0))
(some ((-1))))
(cond v2
(some (1))
(cond (decide (kQ<BZ))
(some ((-1)))
(cond (decide (BZ<kQ))
(some (1))
(some (0))))))))
def G.cmp_isNaN_string (f:Nat) (kQ:aG):Option (Bool):=match f with
| 0=>none
| n+1 =>
(some ((!(kQ==kQ))))
def G.cmp_Less_string (f:Nat) (kQ:aG) (BZ:aG):Option (Bool):=match f with
| 0=>none
| n+1 =>
((G.cmp_isNaN_string n kQ).bind fun v1 =>
(cond v1
((G.cmp_isNaN_string n BZ).bind fun v2 =>
(cond v2
(some ((Op.bytesLess kQ BZ)))
(some (true))))
(some ((Op.bytesLess kQ BZ)))))
mutual
def G.aF.L2 (f:Nat) (ag:af) (z1:List aG) (dH:Int) (z4:List af):Option (af):=match f with
| 0=>none
| n+1 =>
(cond (decide (dH<((ag.Kids.length:Nat):Int)))
(chk (0<=dH/\dH<((ag.Kids.length:Nat):Int))
((G.aF n (ag.Kids.getD dH.toNat default)).bind fun v3 =>
(chk (0<=dH/\dH<((z4.length:Nat):Int))
(G.aF.L2 n ag z1 (IntKind.wrap .i64 (dH+1)) (z4.set dH.toNat v3)))))
(some ((af.mk ag.Kind ag.Num ag.Text z1 z4))))
def G.aF.K1 (f:Nat) (ag:af) (z1:List aG):Option (af):=match f with
| 0=>none
| n+1 =>
(cond (decide (0<((ag.Kids.length:Nat):Int)))
(chk (0<=((ag.Kids.length:Nat):Int)/\((ag.Kids.length:Nat):Int)<=((ag.Kids.length:Nat):Int)/\80*((ag.Kids.length:Nat):Int)<=2^47/\((ag.Kids.length:Nat):Int)<=2^47)
(G.aF.L2 n ag z1 0 (List.replicate ag.Kids.length (af.mk 0 0 [] [] []))))
(some ((af.mk ag.Kind ag.Num ag.Text z1 []))))
def G.aF (f:Nat) (ag:af):Option (af):=match f with
| 0=>none
| n+1 =>
(cond (decide (0<((ag.Names.length:Nat):Int)))
(chk (0<=((ag.Names.length:Nat):Int)/\((ag.Names.length:Nat):Int)<=((ag.Names.length:Nat):Int)/\16*((ag.Names.length:Nat):Int)<=2^47/\((ag.Names.length:Nat):Int)<=2^47)
(G.aF.K1 n ag ag.Names))
(G.aF.K1 n ag []))
end
def G.slices_isNaN_string (f:Nat) (kQ:aG):Option (Bool):=match f with
| 0=>none
| n+1 =>
(some ((!(kQ==kQ))))
def G.slices_BinarySearch_string.L1 (f:Nat) (kQ:List aG) (lJ:aG) (ak:Int) (AO:Int):Option (Int × Bool):=match f with
| 0=>none
| n+1 =>
(cond (decide (ak<AO))
(chk (0<=(IntKind.wrap .i64 ((Int.fdiv (IntKind.wrap .u64 ((IntKind.wrap .i64 (ak+AO)))) (2^(min 1 (IntKind.bits .u64))))))/\(IntKind.wrap .i64 ((Int.fdiv (IntKind.wrap .u64 ((IntKind.wrap .i64 (ak+AO)))) (2^(min 1 (IntKind.bits .u64))))))<((kQ.length:Nat):Int))
((G.cmp_Less_string n (kQ.getD (IntKind.wrap .i64 ((Int.fdiv (IntKind.wrap .u64 ((IntKind.wrap .i64 (ak+AO)))) (2^(min 1 (IntKind.bits .u64)))))).toNat default) lJ).bind fun v3 =>
(cond v3
(G.slices_BinarySearch_string.L1 n kQ lJ (IntKind.wrap .i64 ((IntKind.wrap .i64 ((Int.fdiv (IntKind.wrap .u64 ((IntKind.wrap .i64 (ak+AO)))) (2^(min 1 (IntKind.bits .u64))))))+1)) AO)
(G.slices_BinarySearch_string.L1 n kQ lJ ak (IntKind.wrap .i64 ((Int.fdiv (IntKind.wrap .u64 ((IntKind.wrap .i64 (ak+AO)))) (2^(min 1 (IntKind.bits .u64))))))))))
(cond (decide (ak<((kQ.length:Nat):Int)))
(chk (0<=ak/\ak<((kQ.length:Nat):Int))
(cond ((kQ.getD ak.toNat default)==lJ)
(some (ak,true))
(chk (0<=ak/\ak<((kQ.length:Nat):Int))
((G.slices_isNaN_string n (kQ.getD ak.toNat default)).bind fun v4 =>
(cond v4
((G.slices_isNaN_string n lJ).bind fun v5 =>
(some (ak,v5)))
(some (ak,false)))))))
(some (ak,false))))
def G.slices_BinarySearch_string (f:Nat) (kQ:List aG) (lJ:aG):Option (Int × Bool):=match f with
| 0=>none
| n+1 =>
(G.slices_BinarySearch_string.L1 n kQ lJ 0 ((kQ.length:Nat):Int))
def G.gK.K2 (f:Nat) (PZ:Int) (uT:Int):Option (Int):=match f with
| 0=>none
| n+1 =>
(cond (decide (256<=PZ))
(chk (0<=(IntKind.wrap .u8 ((Int.fdiv PZ (2^(min 8 (IntKind.bits .u64))))))/\(IntKind.wrap .u8 ((Int.fdiv PZ (2^(min 8 (IntKind.bits .u64))))))<((256:Nat):Int))
(some ((IntKind.wrap .i64 ((IntKind.wrap .i64 (uT+8))+(IntKind.wrap .i64 ((((([0,1,2,2,3,3,3,3,4,4,4,4,4,4,4,4,5,5,5,5,5,5,5,5,5,5,5,5,5,5,5,5,6,6,6,6,6,6,6,6,6,6,6,6,6,6,6,6,6,6,6,6,6,6,6,6,6,6,6,6,6,6,6,6,7,7,7,7,7,7,7,7,7,7,7,7,7,7,7,7,7,7,7,7,7,7,7,7,7,7,7,7,7,7,7,7,7,7,7,7,7,7,7,7,7,7,7,7,7,7,7,7,7,7,7,7,7,7,7,7,7,7,7,7,7,7,7,7,8,8,8,8,8,8,8,8,8,8,8,8,8,8,8,8,8,8,8,8,8,8,8,8,8,8,8,8,8,8,8,8,8,8,8,8,8,8,8,8,8,8,8,8,8,8,8,8,8,8,8,8,8,8,8,8,8,8,8,8,8,8,8,8,8,8,8,8,8,8,8,8,8,8,8,8,8,8,8,8,8,8,8,8,8,8,8,8,8,8,8,8,8,8,8,8,8,8,8,8,8,8,8,8,8,8,8,8,8,8,8,8,8,8,8,8,8,8,8,8,8,8,8,8,8,8,8,8]:aG).getD (IntKind.wrap .u8 ((Int.fdiv PZ (2^(min 8 (IntKind.bits .u64)))))).toNat 0).toNat:Nat):Int))))))))
(chk (0<=(IntKind.wrap .u8 (PZ))/\(IntKind.wrap .u8 (PZ))<((256:Nat):Int))
(some ((IntKind.wrap .i64 (uT+(IntKind.wrap .i64 ((((([0,1,2,2,3,3,3,3,4,4,4,4,4,4,4,4,5,5,5,5,5,5,5,5,5,5,5,5,5,5,5,5,6,6,6,6,6,6,6,6,6,6,6,6,6,6,6,6,6,6,6,6,6,6,6,6,6,6,6,6,6,6,6,6,7,7,7,7,7,7,7,7,7,7,7,7,7,7,7,7,7,7,7,7,7,7,7,7,7,7,7,7,7,7,7,7,7,7,7,7,7,7,7,7,7,7,7,7,7,7,7,7,7,7,7,7,7,7,7,7,7,7,7,7,7,7,7,7,8,8,8,8,8,8,8,8,8,8,8,8,8,8,8,8,8,8,8,8,8,8,8,8,8,8,8,8,8,8,8,8,8,8,8,8,8,8,8,8,8,8,8,8,8,8,8,8,8,8,8,8,8,8,8,8,8,8,8,8,8,8,8,8,8,8,8,8,8,8,8,8,8,8,8,8,8,8,8,8,8,8,8,8,8,8,8,8,8,8,8,8,8,8,8,8,8,8,8,8,8,8,8,8,8,8,8,8,8,8,8,8,8,8,8,8,8,8,8,8,8,8,8,8,8,8,8,8]:aG).getD (IntKind.wrap .u8 (PZ)).toNat 0).toNat:Nat):Int)))))))))
def G.gK.K1 (f:Nat) (Yn:Int) (YZ:Int):Option (Int):=match f with
| 0=>none
| n+1 =>
(cond (decide (65536<=Yn))
(G.gK.K2 n (Int.fdiv Yn (2^(min 16 (IntKind.bits .u64)))) (IntKind.wrap .i64 (YZ+16)))
(G.gK.K2 n Yn YZ))
def G.gK (f:Nat) (kQ:Int):Option (Int):=match f with
| 0=>none
| n+1 =>
(cond (decide (4294967296<=kQ))
(G.gK.K1 n (Int.fdiv kQ (2^(min 32 (IntKind.bits .u64)))) 32)
(G.gK.K1 n kQ 0))
def G.strconv_Itoa (f:Nat) (i:Int):Option aG:=match f with
| 0=>none
| _+1=>(chk ((-9223372036854775808<=i/\i<=9223372036854775807)/\(Lib.itoa i).length<=1000000) (some (Lib.itoa i)))
def G.bZ.L1 (f:Nat) (ag:af) (gI:aG) (dH:Int):Option (Int × Bool):=match f with
| 0=>none
| n+1 =>
(cond (decide (dH<((ag.Kids.length:Nat):Int)))
((G.strconv_Itoa n dH).bind fun v4 =>
(cond (v4==gI)
(some (dH,true))
(G.bZ.L1 n ag gI (IntKind.wrap .i64 (dH+1)))))
(some (0,false)))
def G.bZ (f:Nat) (ag:af) (gI:aG):Option (Int × Bool):=match f with
| 0=>none
| n+1 =>
(cond (ag.Kind==4)
((G.slices_BinarySearch_string n ag.Names gI).bind fun v1 =>
(some (v1.1,v1.2)))
(cond (ag.Kind==3)
(G.bZ.L1 n ag gI 0)
(some (0,false))))
def G.dm (f:Nat) (s:List af) (i:Int) (v:List af):Option (List af):=match f with
| 0=>none
| _+1=>chk (0<=i/\i<=((s.length:Nat):Int)/\v.length=1/\(s.length+1)*86<=2^46) (some (s.take i.toNat++v++s.drop i.toNat))
def G.iw (f:Nat) (s:List aG) (i:Int) (v:List aG):Option (List aG):=match f with
| 0=>none
| _+1=>chk (0<=i/\i<=((s.length:Nat):Int)/\v.length=1/\(s.length+1)*18<=2^46) (some (s.take i.toNat++v++s.drop i.toNat))
def G.kM (f:Nat) (rE:af) (aQ:aG) (dI:af):Option (af):=match f with
| 0=>none
| n+1 =>
((G.slices_BinarySearch_string n rE.Names aQ).bind fun v1 =>
(cond v1.2
(chk (0<=v1.1/\v1.1<((rE.Kids.length:Nat):Int))
(some ((af.mk rE.Kind rE.Num rE.Text rE.Names (rE.Kids.set v1.1.toNat dI)))))
((G.iw n rE.Names v1.1 [aQ]).bind fun v2 =>
((G.dm n rE.Kids v1.1 [dI]).bind fun v3 =>
(some ((af.mk rE.Kind rE.Num rE.Text v2 v3)))))))
def G.jb.K1 (f:Nat) (dI:af) (v1:af) (YX:Int) (Oc:Bool):Option (af × Bool):=match f with
| 0=>none
| n+1 =>
(cond Oc
((G.aF n dI).bind fun v6 =>
((G.dm n v1.Kids YX [v6]).bind fun v7 =>
(some ((af.mk v1.Kind v1.Num v1.Text v1.Names v7),true))))
(some ((af.mk 0 0 [] [] []),false)))
def G.jb (f:Nat) (ag:af) (gI:aG) (dI:af):Option (af × Bool):=match f with
| 0=>none
| n+1 =>
((G.aF n ag).bind fun v1 =>
(cond (ag.Kind==4)
((G.aF n dI).bind fun v2 =>
((G.kM n v1 gI v2).bind fun v3 =>
(some (v3,true))))
(cond (ag.Kind==3)
((G.bZ n ag gI).bind fun v4 =>
(cond v4.2
(G.jb.K1 n dI v1 v4.1 true)
(cond (gI==[45])
(G.jb.K1 n dI v1 ((ag.Kids.length:Nat):Int) true)
((G.strconv_Itoa n ((ag.Kids.length:Nat):Int)).bind fun v8 =>
(cond (gI==v8)
(G.jb.K1 n dI v1 ((ag.Kids.length:Nat):Int) true)
(G.jb.K1 n dI v1 v4.1 false))))))
(some ((af.mk 0 0 [] [] []),false)))))
def G.mV (f:Nat) (pX:af) (iP:List aG) (kJ:Int) (qj:af):Option (af × Bool):=match f with
| 0=>none
| n+1 =>
(chk (0<=kJ/\kJ<((iP.length:Nat):Int))
((G.jb n pX (iP.getD kJ.toNat default) qj).bind fun v1 =>
(some (v1.1,v1.2))))
def G.bY.L1 (f:Nat) (ai:aG) (ak:Int):Option (Bool):=match f with
| 0=>none
| n+1 =>
(cond (decide (ak<((ai.length:Nat):Int)))
(chk (0<=ak/\ak<((ai.length:Nat):Int))
(cond (decide ((((ai.getD ak.toNat 0).toNat:Nat):Int)<32))
(some (false))
(chk (0<=ak/\ak<((ai.length:Nat):Int))
(cond (decide (126<(((ai.getD ak.toNat 0).toNat:Nat):Int)))
(some (false))
(G.bY.L1 n ai (IntKind.wrap .i64 (ak+1)))))))
(some (true)))
def G.bY (f:Nat) (ai:aG):Option (Bool):=match f with
| 0=>none
| n+1 =>
(cond (decide (12<((ai.length:Nat):Int)))
(some (false))
(G.bY.L1 n ai 0))
def G.iE.L1 (f:Nat) (oM:List aG) (dH:Int):Option (Bool):=match f with
| 0=>none
| n+1 =>
(cond (decide (dH<((oM.length:Nat):Int)))
(chk (0<=dH/\dH<((oM.length:Nat):Int))
((G.bY n (oM.getD dH.toNat default)).bind fun v3 =>
(cond v3
(cond (decide (0<dH))
(chk (0<=(IntKind.wrap .i64 (dH-1))/\(IntKind.wrap .i64 (dH-1))<((oM.length:Nat):Int))
(cond (Op.bytesLess (oM.getD (IntKind.wrap .i64 (dH-1)).toNat default) (oM.getD dH.toNat default))
(G.iE.L1 n oM (IntKind.wrap .i64 (dH+1)))
(some (false))))
(G.iE.L1 n oM (IntKind.wrap .i64 (dH+1))))
(some (false)))))
(some (true)))
def G.iE (f:Nat) (oM:List aG):Option (Bool):=match f with
| 0=>none
| n+1 =>
(cond (decide (6<((oM.length:Nat):Int)))
(some (false))
(G.iE.L1 n oM 0))
def G.di.K1 (f:Nat) (ag:af):Option (Bool):=match f with
| 0=>none
| n+1 =>
(cond (ag.Kind != 4)
(cond (decide (0<((ag.Names.length:Nat):Int)))
(some (false))
(cond (ag.Kind==0)
(some ((((ag.Kids.length:Nat):Int)==0)))
(cond (ag.Kind==1)
(cond (decide ((-999999)<=ag.Num))
(cond (decide (ag.Num<=999999))
(some ((((ag.Kids.length:Nat):Int)==0)))
(some (false)))
(some (false)))
(cond (ag.Kind==2)
((G.bY n ag.Text).bind fun v1 =>
(cond v1
(some ((((ag.Kids.length:Nat):Int)==0)))
(some (false))))
(cond (ag.Kind==3)
(some ((decide (((ag.Kids.length:Nat):Int)<=6))))
(cond (ag.Kind==4)
((G.iE n ag.Names).bind fun v2 =>
(cond v2
(some ((((ag.Kids.length:Nat):Int)==((ag.Names.length:Nat):Int))))
(some (false))))
(some (false))))))))
(cond (ag.Kind==0)
(some ((((ag.Kids.length:Nat):Int)==0)))
(cond (ag.Kind==1)
(cond (decide ((-999999)<=ag.Num))
(cond (decide (ag.Num<=999999))
(some ((((ag.Kids.length:Nat):Int)==0)))
(some (false)))
(some (false)))
(cond (ag.Kind==2)
((G.bY n ag.Text).bind fun v3 =>
(cond v3
(some ((((ag.Kids.length:Nat):Int)==0)))
(some (false))))
(cond (ag.Kind==3)
(some ((decide (((ag.Kids.length:Nat):Int)<=6))))
(cond (ag.Kind==4)
((G.iE n ag.Names).bind fun v4 =>
(cond v4
(some ((((ag.Kids.length:Nat):Int)==((ag.Names.length:Nat):Int))))
(some (false))))
(some (false))))))))
def G.di (f:Nat) (ag:af):Option (Bool):=match f with
| 0=>none
| n+1 =>
(cond (ag.Kind != 1)
(cond (ag.Num != 0)
(some (false))
(cond (ag.Kind != 2)
(cond (ag.Text==[])
(G.di.K1 n ag)
(some (false)))
(G.di.K1 n ag)))
(cond (ag.Kind != 2)
(cond (ag.Text==[])
(G.di.K1 n ag)
(some (false)))
(G.di.K1 n ag)))
mutual
def G.bV.L1 (f:Nat) (ag:af) (qC:Int) (Ob:Int) (IX:Int) (dH:Int):Option (Int × Int × Bool):=match f with
| 0=>none
| n+1 =>
(cond (decide (dH<((ag.Kids.length:Nat):Int)))
(chk (0<=dH/\dH<((ag.Kids.length:Nat):Int))
((G.bV n (ag.Kids.getD dH.toNat default) (IntKind.wrap .i64 (qC+1))).bind fun v4 =>
(cond v4.2.2
(G.bV.L1 n ag qC (IntKind.wrap .i64 (Ob+v4.1)) (if (IntKind.wrap .i64 (v4.2.1+1))>IX then (IntKind.wrap .i64 (v4.2.1+1)) else IX) (IntKind.wrap .i64 (dH+1)))
(some (0,0,false)))))
(some (Ob,IX,true)))
def G.bV (f:Nat) (ag:af) (qC:Int):Option (Int × Int × Bool):=match f with
| 0=>none
| n+1 =>
(cond (decide (5<qC))
(some (0,0,false))
((G.di n ag).bind fun v1 =>
(cond v1
(G.bV.L1 n ag qC 1 1 0)
(some (0,0,false)))))
end
def G.aO (f:Nat) (ag:af):Option (Bool):=match f with
| 0=>none
| n+1 =>
((G.bV n ag 1).bind fun v1 =>
(cond v1.2.2
(some ((decide (v1.1<=40))))
(some (false))))
mutual
def G.fU (f:Nat) (ag:af) (au:List aG) (iP:List aG) (kJ:Int) (qj:af):Option (af × Bool):=match f with
| 0=>none
| n+1 =>
(cond (((au.length:Nat):Int)==0)
((G.mV n ag iP kJ qj).bind fun v1 =>
(some (v1.1,v1.2)))
(chk (0<=0/\0<((au.length:Nat):Int))
((G.bZ n ag (au.getD 0 default)).bind fun v2 =>
(cond v2.2
(chk (0<=v2.1/\v2.1<((ag.Kids.length:Nat):Int))
(chk (0<=1/\1<=((au.length:Nat):Int)/\((au.length:Nat):Int)<=((au.length:Nat):Int))
((G.fU n (ag.Kids.getD v2.1.toNat default) (au.drop 1) iP kJ qj).bind fun v3 =>
(cond v3.2
((G.aF n ag).bind fun v4 =>
(chk (0<=v2.1/\v2.1<((v4.Kids.length:Nat):Int))
(some ((af.mk v4.Kind v4.Num v4.Text v4.Names (v4.Kids.set v2.1.toNat v3.1)),true))))
(some ((af.mk 0 0 [] [] []),false))))))
(some ((af.mk 0 0 [] [] []),false))))))
end
def G.kL (f:Nat) (ag:af) (zV:Bool):Option (af × Bool):=match f with
| 0=>none
| n+1 =>
(cond zV
((G.aO n ag).bind fun v1 =>
(cond v1
(some (ag,true))
(some ((af.mk 0 0 [] [] []),false))))
(some ((af.mk 0 0 [] [] []),false)))
def G.fK.L1 (f:Nat) (au:List aG) (dH:Int):Option (Bool):=match f with
| 0=>none
| n+1 =>
(cond (decide (dH<((au.length:Nat):Int)))
(chk (0<=dH/\dH<((au.length:Nat):Int))
((G.bY n (au.getD dH.toNat default)).bind fun v3 =>
(cond v3
(G.fK.L1 n au (IntKind.wrap .i64 (dH+1)))
(some (false)))))
(some (true)))
def G.fK (f:Nat) (au:List aG):Option (Bool):=match f with
| 0=>none
| n+1 =>
(cond (decide (5<((au.length:Nat):Int)))
(some (false))
(G.fK.L1 n au 0))
def G.jY (f:Nat) (ag:af) (au:List aG) (dI:af):Option (af × Bool):=match f with
| 0=>none
| n+1 =>
((G.aO n ag).bind fun v1 =>
(cond v1
((G.fK n au).bind fun v2 =>
(cond v2
((G.aO n dI).bind fun v3 =>
(cond v3
(cond (((au.length:Nat):Int)==0)
((G.aF n dI).bind fun v4 =>
(some (v4,true)))
(chk (0<=0/\0<=(IntKind.wrap .i64 (((au.length:Nat):Int)-1))/\(IntKind.wrap .i64 (((au.length:Nat):Int)-1))<=((au.length:Nat):Int))
((G.fU n ag (au.take ((IntKind.wrap .i64 (((au.length:Nat):Int)-1)).toNat)) au (IntKind.wrap .i64 (((au.length:Nat):Int)-1)) dI).bind fun v5 =>
((G.kL n v5.1 v5.2).bind fun v6 =>
(some (v6.1,v6.2))))))
(some ((af.mk 0 0 [] [] []),false))))
(some ((af.mk 0 0 [] [] []),false))))
(some ((af.mk 0 0 [] [] []),false))))
def G.iF.L1 (f:Nat) (au:List aG) (dH:Int) (y6:Int) (y7:Int) (y8:aG) (y9:List aG) (BK:List af):Option (af × Bool):=match f with
| 0=>none
| n+1 =>
(cond (decide (dH<((au.length:Nat):Int)))
(chk (0<=dH/\dH<((au.length:Nat):Int))
((G.bZ n (af.mk y6 y7 y8 y9 BK) (au.getD dH.toNat default)).bind fun v3 =>
(cond v3.2
(chk (0<=v3.1/\v3.1<((BK.length:Nat):Int))
(G.iF.L1 n au (IntKind.wrap .i64 (dH+1)) ((BK.getD v3.1.toNat default).Kind) ((BK.getD v3.1.toNat default).Num) ((BK.getD v3.1.toNat default).Text) ((BK.getD v3.1.toNat default).Names) ((BK.getD v3.1.toNat default).Kids)))
(some ((af.mk 0 0 [] [] []),false)))))
(some ((af.mk y6 y7 y8 y9 BK),true)))
def G.iF (f:Nat) (ag:af) (au:List aG):Option (af × Bool):=match f with
| 0=>none
| n+1 =>
(G.iF.L1 n au 0 ag.Kind ag.Num ag.Text ag.Names ag.Kids)
def G.mO (f:Nat) (ag:af) (au:List aG):Option (af × Bool):=match f with
| 0=>none
| n+1 =>
((G.aO n ag).bind fun v1 =>
(cond v1
((G.fK n au).bind fun v2 =>
(cond v2
((G.iF n ag au).bind fun v3 =>
(cond v3.2
((G.aF n v3.1).bind fun v4 =>
(some (v4,true)))
(some ((af.mk 0 0 [] [] []),false))))
(some ((af.mk 0 0 [] [] []),false))))
(some ((af.mk 0 0 [] [] []),false))))
def G.dN (f:Nat) (s:List af) (i:Int) (j:Int):Option (List af):=match f with
| 0=>none
| _+1=>chk (0<=i/\i<j/\j<=((s.length:Nat):Int)/\s.length*86<=2^46) (some (s.take i.toNat++s.drop j.toNat))
def G.slices_Delete_string (f:Nat) (s:List aG) (i:Int) (j:Int):Option (List aG):=match f with
| 0=>none
| _+1=>chk (0<=i/\i<j/\j<=((s.length:Nat):Int)/\s.length*18<=2^46) (some (s.take i.toNat++s.drop j.toNat))
def G.fJ.K1 (f:Nat) (v1:Int × Bool) (v2:af) (z1:List aG):Option (af × Bool):=match f with
| 0=>none
| n+1 =>
((G.dN n v2.Kids v1.1 (IntKind.wrap .i64 (v1.1+1))).bind fun v4 =>
(some ((af.mk v2.Kind v2.Num v2.Text z1 v4),true)))
def G.fJ (f:Nat) (pX:af) (iP:List aG) (kJ:Int):Option (af × Bool):=match f with
| 0=>none
| n+1 =>
(chk (0<=kJ/\kJ<((iP.length:Nat):Int))
((G.bZ n pX (iP.getD kJ.toNat default)).bind fun v1 =>
(cond v1.2
((G.aF n pX).bind fun v2 =>
(cond (pX.Kind==4)
((G.slices_Delete_string n v2.Names v1.1 (IntKind.wrap .i64 (v1.1+1))).bind fun v5 =>
(G.fJ.K1 n v1 v2 v5))
(G.fJ.K1 n v1 v2 v2.Names)))
(some ((af.mk 0 0 [] [] []),false)))))
mutual
def G.eG (f:Nat) (ag:af) (au:List aG) (iP:List aG) (kJ:Int):Option (af × Bool):=match f with
| 0=>none
| n+1 =>
(cond (((au.length:Nat):Int)==0)
((G.fJ n ag iP kJ).bind fun v1 =>
(some (v1.1,v1.2)))
(chk (0<=0/\0<((au.length:Nat):Int))
((G.bZ n ag (au.getD 0 default)).bind fun v2 =>
(cond v2.2
(chk (0<=v2.1/\v2.1<((ag.Kids.length:Nat):Int))
(chk (0<=1/\1<=((au.length:Nat):Int)/\((au.length:Nat):Int)<=((au.length:Nat):Int))
((G.eG n (ag.Kids.getD v2.1.toNat default) (au.drop 1) iP kJ).bind fun v3 =>
(cond v3.2
((G.aF n ag).bind fun v4 =>
(chk (0<=v2.1/\v2.1<((v4.Kids.length:Nat):Int))
(some ((af.mk v4.Kind v4.Num v4.Text v4.Names (v4.Kids.set v2.1.toNat v3.1)),true))))
(some ((af.mk 0 0 [] [] []),false))))))
(some ((af.mk 0 0 [] [] []),false))))))
end
def G.jk (f:Nat) (ag:af) (au:List aG):Option (af × Bool):=match f with
| 0=>none
| n+1 =>
((G.aO n ag).bind fun v1 =>
(cond v1
((G.fK n au).bind fun v2 =>
(cond v2
(cond (((au.length:Nat):Int)==0)
(some ((af.mk 0 0 [] [] []),false))
(chk (0<=0/\0<=(IntKind.wrap .i64 (((au.length:Nat):Int)-1))/\(IntKind.wrap .i64 (((au.length:Nat):Int)-1))<=((au.length:Nat):Int))
((G.eG n ag (au.take ((IntKind.wrap .i64 (((au.length:Nat):Int)-1)).toNat)) au (IntKind.wrap .i64 (((au.length:Nat):Int)-1))).bind fun v3 =>
(some (v3.1,v3.2)))))
(some ((af.mk 0 0 [] [] []),false))))
(some ((af.mk 0 0 [] [] []),false))))
def G.mW (f:Nat) (bW:af) (iP:af):Option (af × Bool):=match f with
| 0=>none
| n+1 =>
((G.aF n iP).bind fun v1 =>
(some (v1,true)))
mutual
def G.fV (f:Nat) (ag:af) (au:List aG) (iP:af):Option (af × Bool):=match f with
| 0=>none
| n+1 =>
(cond (((au.length:Nat):Int)==0)
((G.mW n ag iP).bind fun v1 =>
(some (v1.1,v1.2)))
(chk (0<=0/\0<((au.length:Nat):Int))
((G.bZ n ag (au.getD 0 default)).bind fun v2 =>
(cond v2.2
(chk (0<=v2.1/\v2.1<((ag.Kids.length:Nat):Int))
(chk (0<=1/\1<=((au.length:Nat):Int)/\((au.length:Nat):Int)<=((au.length:Nat):Int))
((G.fV n (ag.Kids.getD v2.1.toNat default) (au.drop 1) iP).bind fun v3 =>
(cond v3.2
((G.aF n ag).bind fun v4 =>
(chk (0<=v2.1/\v2.1<((v4.Kids.length:Nat):Int))
(some ((af.mk v4.Kind v4.Num v4.Text v4.Names (v4.Kids.set v2.1.toNat v3.1)),true))))
(some ((af.mk 0 0 [] [] []),false))))))
(some ((af.mk 0 0 [] [] []),false))))))
end
def G.nI (f:Nat) (ag:af) (au:List aG) (dI:af):Option (af × Bool):=match f with
| 0=>none
| n+1 =>
((G.aO n ag).bind fun v1 =>
(cond v1
((G.fK n au).bind fun v2 =>
(cond v2
((G.aO n dI).bind fun v3 =>
(cond v3
((G.fV n ag au dI).bind fun v4 =>
((G.kL n v4.1 v4.2).bind fun v5 =>
(some (v5.1,v5.2))))
(some ((af.mk 0 0 [] [] []),false))))
(some ((af.mk 0 0 [] [] []),false))))
(some ((af.mk 0 0 [] [] []),false))))
def G.oG (f:Nat) (jH:nO):Option (Bool):=match f with
| 0=>none
| n+1 =>
(cond (decide (1<=jH.Kind))
(cond (decide (jH.Kind<=6))
((G.fK n jH.Path).bind fun v1 =>
(cond v1
((G.fK n jH.From).bind fun v2 =>
(cond v2
((G.aO n jH.Value).bind fun v3 =>
(some (v3)))
(some (false))))
(some (false))))
(some (false)))
(some (false)))
def G.slices_Equal_string.L1 (f:Nat) (xE:List aG) (zD:List aG) (dH:Int):Option (Bool):=match f with
| 0=>none
| n+1 =>
(cond (decide (dH<((xE.length:Nat):Int)))
(chk (0<=dH/\dH<((xE.length:Nat):Int))
(chk (0<=dH/\dH<((zD.length:Nat):Int))
(cond ((xE.getD dH.toNat default)==(zD.getD dH.toNat default))
(G.slices_Equal_string.L1 n xE zD (IntKind.wrap .i64 (dH+1)))
(some (false)))))
(some (true)))
def G.slices_Equal_string (f:Nat) (xE:List aG) (zD:List aG):Option (Bool):=match f with
| 0=>none
| n+1 =>
(cond (((xE.length:Nat):Int) != ((zD.length:Nat):Int))
(some (false))
(G.slices_Equal_string.L1 n xE zD 0))
def G.mF (f:Nat) (ag:af) (sU:List aG) (au:List aG):Option (af × Bool):=match f with
| 0=>none
| n+1 =>
((G.mO n ag sU).bind fun v1 =>
(cond v1.2
((G.slices_Equal_string n au sU).bind fun v2 =>
(cond v2
((G.aF n ag).bind fun v3 =>
(some (v3,true)))
(cond (decide (((sU.length:Nat):Int)<((au.length:Nat):Int)))
(chk (0<=0/\0<=((sU.length:Nat):Int)/\((sU.length:Nat):Int)<=((au.length:Nat):Int))
((G.slices_Equal_string n (au.take sU.length) sU).bind fun v4 =>
(cond v4
(some ((af.mk 0 0 [] [] []),false))
((G.jk n ag sU).bind fun v5 =>
(cond v5.2
((G.jY n v5.1 au v1.1).bind fun v6 =>
(some (v6.1,v6.2)))
(some ((af.mk 0 0 [] [] []),false)))))))
((G.jk n ag sU).bind fun v7 =>
(cond v7.2
((G.jY n v7.1 au v1.1).bind fun v8 =>
(some (v8.1,v8.2)))
(some ((af.mk 0 0 [] [] []),false)))))))
(some ((af.mk 0 0 [] [] []),false))))
def G.dL (f:Nat) (bW:aG) (cZ:aG):Option (Int):=match f with
| 0=>none
| n+1 =>
(some ((Go.Lib.compareBytes bW cZ)))
def G.strings_Compare (f:Nat) (bW:aG) (cZ:aG):Option (Int):=match f with
| 0=>none
| n+1 =>
((G.dL n bW cZ).bind fun v1 =>
(some (v1)))
mutual
def G.aV.K4 (f:Nat) (bW:af) (cZ:af) (ak:Int):Option (Int):=match f with
| 0=>none
| n+1 =>
(chk (0<=ak/\ak<((bW.Kids.length:Nat):Int))
(chk (0<=ak/\ak<((cZ.Kids.length:Nat):Int))
((G.aV n (bW.Kids.getD ak.toNat default) (cZ.Kids.getD ak.toNat default)).bind fun v11 =>
(cond (v11 != 0)
(some (v11))
(G.aV.L3 n bW cZ (IntKind.wrap .i64 (ak+1)))))))
def G.aV.L3 (f:Nat) (bW:af) (cZ:af) (ak:Int):Option (Int):=match f with
| 0=>none
| n+1 =>
(cond (decide (ak<((bW.Kids.length:Nat):Int)))
(cond (decide (ak<((cZ.Kids.length:Nat):Int)))
(cond (bW.Kind==4)
(chk (0<=ak/\ak<((bW.Names.length:Nat):Int))
(chk (0<=ak/\ak<((cZ.Names.length:Nat):Int))
((G.strings_Compare n (bW.Names.getD ak.toNat default) (cZ.Names.getD ak.toNat default)).bind fun v12 =>
(cond (v12 != 0)
(some (v12))
(G.aV.K4 n bW cZ ak)))))
(G.aV.K4 n bW cZ ak))
((G.cmp_Compare_int n ((bW.Kids.length:Nat):Int) ((cZ.Kids.length:Nat):Int)).bind fun v13 =>
(some (v13))))
((G.cmp_Compare_int n ((bW.Kids.length:Nat):Int) ((cZ.Kids.length:Nat):Int)).bind fun v14 =>
(some (v14))))
def G.aV (f:Nat) (bW:af) (cZ:af):Option (Int):=match f with
| 0=>none
| n+1 =>
((G.cmp_Compare_int n bW.Kind cZ.Kind).bind fun v1 =>
(cond (v1 != 0)
(some (v1))
((G.cmp_Compare_int n bW.Num cZ.Num).bind fun v2 =>
(cond (v2 != 0)
(some (v2))
((G.strings_Compare n bW.Text cZ.Text).bind fun v3 =>
(cond (v3 != 0)
(some (v3))
(G.aV.L3 n bW cZ 0)))))))
end
def G.mG (f:Nat) (bW:af) (cZ:af):Option (Bool):=match f with
| 0=>none
| n+1 =>
((G.aV n bW cZ).bind fun v1 =>
(some ((v1==0))))
def G.lM (f:Nat) (ag:af) (au:List aG) (dI:af):Option (af × Bool):=match f with
| 0=>none
| n+1 =>
((G.iF n ag au).bind fun v1 =>
(cond v1.2
((G.mG n v1.1 dI).bind fun v2 =>
(cond v2
((G.aF n ag).bind fun v3 =>
(some (v3,true)))
(some ((af.mk 0 0 [] [] []),false))))
(some ((af.mk 0 0 [] [] []),false))))
def G.nG (f:Nat) (ag:af) (jH:nO):Option (af × Bool):=match f with
| 0=>none
| n+1 =>
((G.aO n ag).bind fun v1 =>
(cond v1
((G.oG n jH).bind fun v2 =>
(cond v2
(cond (jH.Kind==1)
((G.jY n ag jH.Path jH.Value).bind fun v3 =>
(some (v3.1,v3.2)))
(cond (jH.Kind==2)
((G.jk n ag jH.Path).bind fun v4 =>
(some (v4.1,v4.2)))
(cond (jH.Kind==3)
((G.nI n ag jH.Path jH.Value).bind fun v5 =>
(some (v5.1,v5.2)))
(cond (jH.Kind==4)
((G.mF n ag jH.From jH.Path).bind fun v6 =>
(some (v6.1,v6.2)))
(cond (jH.Kind==5)
((G.mO n ag jH.From).bind fun v7 =>
(cond v7.2
((G.jY n ag jH.Path v7.1).bind fun v8 =>
(some (v8.1,v8.2)))
(some ((af.mk 0 0 [] [] []),false))))
((G.lM n ag jH.Path jH.Value).bind fun v9 =>
(some (v9.1,v9.2))))))))
(some ((af.mk 0 0 [] [] []),false))))
(some ((af.mk 0 0 [] [] []),false))))
def G.dX.L1 (f:Nat) (ah:List nO) (dH:Int):Option (Bool):=match f with
| 0=>none
| n+1 =>
(cond (decide (dH<((ah.length:Nat):Int)))
(chk (0<=dH/\dH<((ah.length:Nat):Int))
((G.oG n (nO.mk ((ah.getD dH.toNat default).Kind) ((ah.getD dH.toNat default).Path) ((ah.getD dH.toNat default).From) ((ah.getD dH.toNat default).Value))).bind fun v3 =>
(cond v3
(G.dX.L1 n ah (IntKind.wrap .i64 (dH+1)))
(some (false)))))
(some (true)))
def G.dX (f:Nat) (ah:List nO):Option (Bool):=match f with
| 0=>none
| n+1 =>
(cond (decide (12<((ah.length:Nat):Int)))
(some (false))
(G.dX.L1 n ah 0))
def G.iT.L1 (f:Nat) (ah:List nO) (dH:Int) (y6:Int) (y7:Int) (y8:aG) (y9:List aG) (BK:List af):Option (af × Int):=match f with
| 0=>none
| n+1 =>
(cond (decide (dH<((ah.length:Nat):Int)))
(chk (0<=dH/\dH<((ah.length:Nat):Int))
((G.nG n (af.mk y6 y7 y8 y9 BK) (nO.mk ((ah.getD dH.toNat default).Kind) ((ah.getD dH.toNat default).Path) ((ah.getD dH.toNat default).From) ((ah.getD dH.toNat default).Value))).bind fun v4 =>
(cond v4.2
(G.iT.L1 n ah (IntKind.wrap .i64 (dH+1)) v4.1.Kind v4.1.Num v4.1.Text v4.1.Names v4.1.Kids)
(some ((af.mk 0 0 [] [] []),dH)))))
(some ((af.mk y6 y7 y8 y9 BK),((ah.length:Nat):Int))))
def G.iT (f:Nat) (ag:af) (ah:List nO):Option (af × Int):=match f with
| 0=>none
| n+1 =>
((G.aF n ag).bind fun v1 =>
(G.iT.L1 n ah 0 v1.Kind v1.Num v1.Text v1.Names v1.Kids))
def G.jK (f:Nat) (ag:af) (ah:List nO):Option (af × Bool):=match f with
| 0=>none
| n+1 =>
((G.aO n ag).bind fun v1 =>
(cond v1
((G.dX n ah).bind fun v2 =>
(cond v2
((G.iT n ag ah).bind fun v3 =>
(some (v3.1,(v3.2==((ah.length:Nat):Int)))))
(some ((af.mk 0 0 [] [] []),false))))
(some ((af.mk 0 0 [] [] []),false))))
def G.gU (f:Nat) (ai:aG) (Dt:Int):Option (Int):=match f with
| 0=>none
| n+1 =>
(some ((Go.Lib.indexByte ai Dt.toNat.toUInt8)))
def G.strings_IndexByte (f:Nat) (ai:aG) (Dt:Int):Option (Int):=match f with
| 0=>none
| n+1 =>
((G.gU n ai Dt).bind fun v1 =>
(some (v1)))
def G.kC.L1 (f:Nat) (ai:aG) (ak:Int):Option (Bool):=match f with
| 0=>none
| n+1 =>
(cond (decide (ak<((ai.length:Nat):Int)))
(chk (0<=ak/\ak<((ai.length:Nat):Int))
((G.strings_IndexByte n [48,49,50,51,52,53,54,55,56,57,97,98,99,100,101,102] (((ai.getD ak.toNat 0).toNat:Nat):Int)).bind fun v3 =>
(cond (decide (v3<0))
(some (false))
(G.kC.L1 n ai (IntKind.wrap .i64 (ak+1))))))
(some (true)))
def G.kC (f:Nat) (ai:aG):Option (Bool):=match f with
| 0=>none
| n+1 =>
(cond (((ai.length:Nat):Int) != 4)
(some (false))
(G.kC.L1 n ai 0))
def G.iD.L1 (f:Nat) (ah:List aG) (dH:Int):Option (Bool):=match f with
| 0=>none
| n+1 =>
(cond (decide (dH<((ah.length:Nat):Int)))
(chk (0<=dH/\dH<((ah.length:Nat):Int))
(cond ((ah.getD dH.toNat default)==[42])
(G.iD.L1 n ah (IntKind.wrap .i64 (dH+1)))
((G.kC n (ah.getD dH.toNat default)).bind fun v3 =>
(cond v3
(G.iD.L1 n ah (IntKind.wrap .i64 (dH+1)))
(some (false))))))
(some (true)))
def G.iD (f:Nat) (ah:List aG):Option (Bool):=match f with
| 0=>none
| n+1 =>
(cond (decide (4<((ah.length:Nat):Int)))
(some (false))
(G.iD.L1 n ah 0))
def G.slices_Index_string.L1 (f:Nat) (ai:List aG) (uk:aG) (dH:Int):Option (Int):=match f with
| 0=>none
| n+1 =>
(cond (decide (dH<((ai.length:Nat):Int)))
(chk (0<=dH/\dH<((ai.length:Nat):Int))
(cond (uk==(ai.getD dH.toNat default))
(some (dH))
(G.slices_Index_string.L1 n ai uk (IntKind.wrap .i64 (dH+1)))))
(some ((-1))))
def G.slices_Index_string (f:Nat) (ai:List aG) (uk:aG):Option (Int):=match f with
| 0=>none
| n+1 =>
(G.slices_Index_string.L1 n ai uk 0)
def G.slices_Contains_string (f:Nat) (ai:List aG) (uk:aG):Option (Bool):=match f with
| 0=>none
| n+1 =>
((G.slices_Index_string n ai uk).bind fun v1 =>
(some ((decide (0<=v1)))))
def G.kW (f:Nat) (ah:List aG) (jW:aG):Option (Bool):=match f with
| 0=>none
| n+1 =>
((G.slices_Contains_string n ah jW).bind fun v1 =>
(cond v1
(some (true))
((G.slices_Contains_string n ah [42]).bind fun v2 =>
(some (v2)))))
def G.iO.K1 (f:Nat) (pV:List aG) (nP:List aG) (jW:aG) (oU:Bool):Option (Int):=match f with
| 0=>none
| n+1 =>
(cond (decide (0<((pV.length:Nat):Int)))
(cond (jW==[])
(some (412))
((G.kW n pV jW).bind fun v4 =>
(cond v4
(cond (decide (0<((nP.length:Nat):Int)))
((G.kW n nP jW).bind fun v5 =>
(cond v5
(cond oU
(some (304))
(some (412)))
(some (200))))
(some (200)))
(some (412)))))
(cond (decide (0<((nP.length:Nat):Int)))
(cond (jW==[])
(some (200))
((G.kW n nP jW).bind fun v6 =>
(cond v6
(cond oU
(some (304))
(some (412)))
(some (200)))))
(some (200))))
def G.iO (f:Nat) (pV:List aG) (nP:List aG) (jW:aG) (oU:Bool):Option (Int):=match f with
| 0=>none
| n+1 =>
((G.iD n pV).bind fun v7 =>
(cond v7
((G.iD n nP).bind fun v8 =>
(cond v8
(cond (jW==[])
(G.iO.K1 n pV nP jW oU)
((G.kC n jW).bind fun v9 =>
(cond v9
(G.iO.K1 n pV nP jW oU)
(some (400)))))
(some (400))))
(some (400))))
def G.iG.L1 (f:Nat) (ai:aG) (ak:Int):Option (Bool):=match f with
| 0=>none
| n+1 =>
(cond (decide (ak<((ai.length:Nat):Int)))
(chk (0<=ak/\ak<((ai.length:Nat):Int))
(cond (decide ((((ai.getD ak.toNat 0).toNat:Nat):Int)<97))
(chk (0<=ak/\ak<((ai.length:Nat):Int))
(cond (decide ((((ai.getD ak.toNat 0).toNat:Nat):Int)<48))
(some (false))
(chk (0<=ak/\ak<((ai.length:Nat):Int))
(cond (decide (57<(((ai.getD ak.toNat 0).toNat:Nat):Int)))
(some (false))
(G.iG.L1 n ai (IntKind.wrap .i64 (ak+1)))))))
(chk (0<=ak/\ak<((ai.length:Nat):Int))
(cond (decide (122<(((ai.getD ak.toNat 0).toNat:Nat):Int)))
(chk (0<=ak/\ak<((ai.length:Nat):Int))
(cond (decide ((((ai.getD ak.toNat 0).toNat:Nat):Int)<48))
(some (false))
(chk (0<=ak/\ak<((ai.length:Nat):Int))
(cond (decide (57<(((ai.getD ak.toNat 0).toNat:Nat):Int)))
(some (false))
(G.iG.L1 n ai (IntKind.wrap .i64 (ak+1)))))))
(G.iG.L1 n ai (IntKind.wrap .i64 (ak+1)))))))
(some (true)))
def G.iG (f:Nat) (ai:aG):Option (Bool):=match f with
| 0=>none
| n+1 =>
(cond (ai==[])
(some (false))
(cond (decide (8<((ai.length:Nat):Int)))
(some (false))
(G.iG.L1 n ai 0)))
def G.bg.L1 (f:Nat) (ai:StoreT) (dH:Int):Option (Bool):=match f with
| 0=>none
| n+1 =>
(cond (decide (dH<((ai.Items.length:Nat):Int)))
(chk (0<=dH/\dH<((ai.Items.length:Nat):Int))
((G.iG n ((ai.Items.getD dH.toNat default).Name)).bind fun v6 =>
(cond v6
(cond (decide (0<dH))
(chk (0<=(IntKind.wrap .i64 (dH-1))/\(IntKind.wrap .i64 (dH-1))<((ai.Items.length:Nat):Int))
(cond (Op.bytesLess ((ai.Items.getD (IntKind.wrap .i64 (dH-1)).toNat default).Name) ((ai.Items.getD dH.toNat default).Name))
(cond (decide ((ai.Items.getD dH.toNat default).Version<1))
(some (false))
(cond (decide (ai.Clock<(ai.Items.getD dH.toNat default).Version))
(some (false))
((G.aO n ((ai.Items.getD dH.toNat default).Node)).bind fun v7 =>
(cond v7
(G.bg.L1 n ai (IntKind.wrap .i64 (dH+1)))
(some (false))))))
(some (false))))
(cond (decide ((ai.Items.getD dH.toNat default).Version<1))
(some (false))
(cond (decide (ai.Clock<(ai.Items.getD dH.toNat default).Version))
(some (false))
((G.aO n ((ai.Items.getD dH.toNat default).Node)).bind fun v8 =>
(cond v8
(G.bg.L1 n ai (IntKind.wrap .i64 (dH+1)))
(some (false)))))))
(some (false)))))
(some (true)))
def G.bg (f:Nat) (ai:StoreT):Option (Bool):=match f with
| 0=>none
| n+1 =>
(cond (decide (10<((ai.Items.length:Nat):Int)))
(some (false))
(cond (decide (ai.Clock<0))
(some (false))
(cond (decide (999<ai.Clock))
(some (false))
(G.bg.L1 n ai 0))))
def G.lK (f:Nat) (kT:aA):Option (aA):=match f with
| 0=>none
| n+1 =>
((G.aF n kT.Node).bind fun v1 =>
(some ((aA.mk kT.Name kT.Version v1))))
def G.bn.L1 (f:Nat) (ai:StoreT) (dH:Int) (z3:List aA):Option (StoreT):=match f with
| 0=>none
| n+1 =>
(cond (decide (dH<((ai.Items.length:Nat):Int)))
(chk (0<=dH/\dH<((ai.Items.length:Nat):Int))
((G.lK n (aA.mk ((ai.Items.getD dH.toNat default).Name) ((ai.Items.getD dH.toNat default).Version) ((ai.Items.getD dH.toNat default).Node))).bind fun v3 =>
(chk (0<=dH/\dH<((z3.length:Nat):Int))
(G.bn.L1 n ai (IntKind.wrap .i64 (dH+1)) (z3.set dH.toNat v3)))))
(some ((StoreT.mk z3 ai.Clock))))
def G.bn (f:Nat) (ai:StoreT):Option (StoreT):=match f with
| 0=>none
| n+1 =>
(cond (decide (0<((ai.Items.length:Nat):Int)))
(chk (0<=((ai.Items.length:Nat):Int)/\((ai.Items.length:Nat):Int)<=((ai.Items.length:Nat):Int)/\104*((ai.Items.length:Nat):Int)<=2^47/\((ai.Items.length:Nat):Int)<=2^47)
(G.bn.L1 n ai 0 (List.replicate ai.Items.length (aA.mk [] 0 (af.mk 0 0 [] [] [])))))
(some ((StoreT.mk [] ai.Clock))))
def G.lQ (f:Nat) (kT:aA) (aQ:aG):Option (Int):=match f with
| 0=>none
| n+1 =>
((G.strings_Compare n kT.Name aQ).bind fun v1 =>
(some (v1)))
def G.ax.L1 (f:Nat) (kQ:List aA) (lJ:aG) (ak:Int) (AO:Int):Option (Int × Bool):=match f with
| 0=>none
| n+1 =>
(cond (decide (ak<AO))
(chk (0<=(IntKind.wrap .i64 ((Int.fdiv (IntKind.wrap .u64 ((IntKind.wrap .i64 (ak+AO)))) (2^(min 1 (IntKind.bits .u64))))))/\(IntKind.wrap .i64 ((Int.fdiv (IntKind.wrap .u64 ((IntKind.wrap .i64 (ak+AO)))) (2^(min 1 (IntKind.bits .u64))))))<((kQ.length:Nat):Int))
((G.lQ n (aA.mk ((kQ.getD (IntKind.wrap .i64 ((Int.fdiv (IntKind.wrap .u64 ((IntKind.wrap .i64 (ak+AO)))) (2^(min 1 (IntKind.bits .u64)))))).toNat default).Name) ((kQ.getD (IntKind.wrap .i64 ((Int.fdiv (IntKind.wrap .u64 ((IntKind.wrap .i64 (ak+AO)))) (2^(min 1 (IntKind.bits .u64)))))).toNat default).Version) ((kQ.getD (IntKind.wrap .i64 ((Int.fdiv (IntKind.wrap .u64 ((IntKind.wrap .i64 (ak+AO)))) (2^(min 1 (IntKind.bits .u64)))))).toNat default).Node)) lJ).bind fun v3 =>
(cond (decide (v3<0))
(G.ax.L1 n kQ lJ (IntKind.wrap .i64 ((IntKind.wrap .i64 ((Int.fdiv (IntKind.wrap .u64 ((IntKind.wrap .i64 (ak+AO)))) (2^(min 1 (IntKind.bits .u64))))))+1)) AO)
(G.ax.L1 n kQ lJ ak (IntKind.wrap .i64 ((Int.fdiv (IntKind.wrap .u64 ((IntKind.wrap .i64 (ak+AO)))) (2^(min 1 (IntKind.bits .u64))))))))))
(cond (decide (ak<((kQ.length:Nat):Int)))
(chk (0<=ak/\ak<((kQ.length:Nat):Int))
((G.lQ n (aA.mk ((kQ.getD ak.toNat default).Name) ((kQ.getD ak.toNat default).Version) ((kQ.getD ak.toNat default).Node)) lJ).bind fun v4 =>
(some (ak,(v4==0)))))
(some (ak,false))))
def G.ax (f:Nat) (kQ:List aA) (lJ:aG):Option (Int × Bool):=match f with
| 0=>none
| n+1 =>
(G.ax.L1 n kQ lJ 0 ((kQ.length:Nat):Int))
def G.jS (f:Nat) (qh:List aA) (aQ:aG):Option (Int × Bool):=match f with
| 0=>none
| n+1 =>
((G.ax n qh aQ).bind fun v1 =>
(some (v1.1,v1.2)))
def G.iH (f:Nat) (s:List aA) (i:Int) (j:Int):Option (List aA):=match f with
| 0=>none
| _+1=>chk (0<=i/\i<j/\j<=((s.length:Nat):Int)/\s.length*112<=2^46) (some (s.take i.toNat++s.drop j.toNat))
def G.mD (f:Nat) (ai:StoreT) (aQ:aG):Option (StoreT × Bool):=match f with
| 0=>none
| n+1 =>
((G.bg n ai).bind fun v1 =>
(cond v1
(cond (ai.Clock==999)
(some ((StoreT.mk [] 0),false))
((G.jS n ai.Items aQ).bind fun v2 =>
(cond v2.2
((G.bn n ai).bind fun v3 =>
((G.iH n v3.Items v2.1 (IntKind.wrap .i64 (v2.1+1))).bind fun v4 =>
(some ((StoreT.mk v4 (IntKind.wrap .i64 (v3.Clock+1))),true))))
(some ((StoreT.mk [] 0),false)))))
(some ((StoreT.mk [] 0),false))))
def G.aP (f:Nat) (b:fE) (c:Int):Option (Unit × fE):=match f with
| 0=>none
| _+1=>(chk ((0<=c/\c<256)/\b.buf.length+1<=140737488355328) (some ((),fE.mk (b.buf++[UInt8.ofNat c.toNat]))))
mutual
def G.dG.K4 (f:Nat) (ai:aG) (ak:Int) (z5:aG):Option (fE):=match f with
| 0=>none
| n+1 =>
(chk (0<=ak/\ak<((ai.length:Nat):Int))
((G.aP n (fE.mk z5) (((ai.getD ak.toNat 0).toNat:Nat):Int)).bind fun v14 =>
(G.dG.L3 n ai (IntKind.wrap .i64 (ak+1)) v14.2.buf)))
def G.dG.L3 (f:Nat) (ai:aG) (ak:Int) (z4:aG):Option (fE):=match f with
| 0=>none
| n+1 =>
(cond (decide (ak<((ai.length:Nat):Int)))
(chk (0<=ak/\ak<((ai.length:Nat):Int))
(cond ((((ai.getD ak.toNat 0).toNat:Nat):Int)==34)
((G.aP n (fE.mk z4) 92).bind fun v15 =>
(G.dG.K4 n ai ak v15.2.buf))
(chk (0<=ak/\ak<((ai.length:Nat):Int))
(cond ((((ai.getD ak.toNat 0).toNat:Nat):Int)==92)
((G.aP n (fE.mk z4) 92).bind fun v16 =>
(G.dG.K4 n ai ak v16.2.buf))
(G.dG.K4 n ai ak z4)))))
((G.aP n (fE.mk z4) 34).bind fun v17 =>
(some (v17.2))))
end
def G.dG (f:Nat) (sZ:fE) (ai:aG):Option (fE):=match f with
| 0=>none
| n+1 =>
((G.aP n sZ 34).bind fun v1 =>
(G.dG.L3 n ai 0 v1.2.buf))
def G.jE (f:Nat) (b:fE) (s:aG):Option (Int × Unit × fE):=match f with
| 0=>none
| _+1=>(chk (b.buf.length+s.length<=140737488355328) (some (((s.length:Nat):Int),(),fE.mk (b.buf++s))))
mutual
def G.aZ.K4 (f:Nat) (ag:af) (dH:Int) (z4:aG):Option (fE):=match f with
| 0=>none
| n+1 =>
((G.aZ n (fE.mk z4) (ag.Kids.getD dH.toNat default)).bind fun v11 =>
(G.aZ.L3 n ag (IntKind.wrap .i64 (dH+1)) v11.buf))
def G.aZ.L3 (f:Nat) (ag:af) (dH:Int) (z3:aG):Option (fE):=match f with
| 0=>none
| n+1 =>
(cond (decide (dH<((ag.Kids.length:Nat):Int)))
(chk (0<=dH/\dH<((ag.Kids.length:Nat):Int))
(cond (decide (0<dH))
((G.aP n (fE.mk z3) 44).bind fun v12 =>
(G.aZ.K4 n ag dH v12.2.buf))
(G.aZ.K4 n ag dH z3)))
((G.aP n (fE.mk z3) 93).bind fun v13 =>
(some (v13.2))))
def G.aZ.K8 (f:Nat) (ag:af) (vN:Int) (z8:aG):Option (fE):=match f with
| 0=>none
| n+1 =>
(chk (0<=vN/\vN<((ag.Names.length:Nat):Int))
((G.dG n (fE.mk z8) (ag.Names.getD vN.toNat default)).bind fun v24 =>
((G.aP n v24 58).bind fun v25 =>
((G.aZ n v25.2 (ag.Kids.getD vN.toNat default)).bind fun v26 =>
(G.aZ.L7 n ag (IntKind.wrap .i64 (vN+1)) v26.buf)))))
def G.aZ.L7 (f:Nat) (ag:af) (vN:Int) (z7:aG):Option (fE):=match f with
| 0=>none
| n+1 =>
(cond (decide (vN<((ag.Kids.length:Nat):Int)))
(chk (0<=vN/\vN<((ag.Kids.length:Nat):Int))
(cond (decide (0<vN))
((G.aP n (fE.mk z7) 44).bind fun v27 =>
(G.aZ.K8 n ag vN v27.2.buf))
(G.aZ.K8 n ag vN z7)))
((G.aP n (fE.mk z7) 125).bind fun v28 =>
(some (v28.2))))
def G.aZ (f:Nat) (sZ:fE) (ag:af):Option (fE):=match f with
| 0=>none
| n+1 =>
(cond (ag.Kind==0)
((G.jE n sZ [110,117,108,108]).bind fun v1 =>
(some (v1.2.2)))
(cond (ag.Kind==1)
((G.strconv_Itoa n ag.Num).bind fun v2 =>
((G.jE n sZ v2).bind fun v3 =>
(some (v3.2.2))))
(cond (ag.Kind==2)
((G.dG n sZ ag.Text).bind fun v4 =>
(some (v4)))
(cond (ag.Kind==3)
((G.aP n sZ 91).bind fun v5 =>
(G.aZ.L3 n ag 0 v5.2.buf))
(cond (ag.Kind==4)
((G.aP n sZ 123).bind fun v14 =>
(G.aZ.L7 n ag 0 v14.2.buf))
(some (sZ)))))))
end
def G.mQ (f:Nat) (b:fE):Option aG:=match f with
| 0=>none
| _+1=>(chk (b.buf.length<=140737488355328) (some b.buf))
def G.lg (f:Nat) (ag:af):Option (aG):=match f with
| 0=>none
| n+1 =>
((G.aO n ag).bind fun v1 =>
(cond v1
((G.aZ n (fE.mk []) ag).bind fun v2 =>
((G.mQ n v2).bind fun v3 =>
(some (v3))))
(some ([]))))
def G.ji (f:Nat) (ai:StoreT) (aQ:aG):Option (aA × Bool):=match f with
| 0=>none
| n+1 =>
((G.bg n ai).bind fun v1 =>
(cond v1
((G.jS n ai.Items aQ).bind fun v2 =>
(cond v2.2
(chk (0<=v2.1/\v2.1<((ai.Items.length:Nat):Int))
((G.lK n (aA.mk ((ai.Items.getD v2.1.toNat default).Name) ((ai.Items.getD v2.1.toNat default).Version) ((ai.Items.getD v2.1.toNat default).Node))).bind fun v3 =>
(some (v3,true))))
(some ((aA.mk [] 0 (af.mk 0 0 [] [] [])),false))))
(some ((aA.mk [] 0 (af.mk 0 0 [] [] [])),false))))
def G.fM.L2 (f:Nat) (LG:Int) (BJ:Int) (z3:List Int):Option (aG):=match f with
| 0=>none
| n+1 =>
(cond (decide (0<=BJ))
(chk (0<=(Int.tmod LG 16)/\(Int.tmod LG 16)<((16:Nat):Int))
(chk (0<=BJ/\BJ<((z3.length:Nat):Int))
(chk (0<=BJ/\BJ<4)
(G.fM.L2 n (IntKind.wrap .i64 (Int.tdiv LG 16)) (IntKind.wrap .i64 (BJ-1)) (z3.set BJ.toNat (((([48,49,50,51,52,53,54,55,56,57,97,98,99,100,101,102]:aG).getD (Int.tmod LG 16).toNat 0).toNat:Nat):Int))))))
(chk (z3.length=4)
(chk ((z3.take 4).length<=maxLen)
(some ((wZ (z3.take 4)))))))
def G.fM.L1 (f:Nat) (ai:aG) (VQ:Int) (ak:Int):Option (aG):=match f with
| 0=>none
| n+1 =>
(cond (decide (ak<((ai.length:Nat):Int)))
(chk (0<=ak/\ak<((ai.length:Nat):Int))
(G.fM.L1 n ai (Int.tmod (IntKind.wrap .i64 ((IntKind.wrap .i64 (131*VQ))+(IntKind.wrap .i64 ((((ai.getD ak.toNat 0).toNat:Nat):Int))))) 65521) (IntKind.wrap .i64 (ak+1))))
(G.fM.L2 n VQ 3 (List.replicate 4 0)))
def G.fM (f:Nat) (ai:aG):Option (aG):=match f with
| 0=>none
| n+1 =>
(G.fM.L1 n ai 17 0)
def G.lF (f:Nat) (ag:af):Option (aG):=match f with
| 0=>none
| n+1 =>
((G.aO n ag).bind fun v1 =>
(cond v1
((G.lg n ag).bind fun v2 =>
((G.fM n v2).bind fun v3 =>
(some (v3))))
(some ([]))))
def G.lq (f:Nat) (ai:StoreT) (bQ:RequestT):Option (StoreT × aj):=match f with
| 0=>none
| n+1 =>
((G.mD n ai bQ.Name).bind fun v1 =>
(cond v1.2
(some (v1.1,(aj.mk 200 [] v1.1.Clock (af.mk 0 0 [] [] []))))
((G.bn n ai).bind fun v2 =>
(some (v2,(aj.mk 422 [] 0 (af.mk 0 0 [] [] [])))))))
def G.iI (f:Nat) (s:List aA) (i:Int) (v:List aA):Option (List aA):=match f with
| 0=>none
| _+1=>chk (0<=i/\i<=((s.length:Nat):Int)/\v.length=1/\(s.length+1)*112<=2^46) (some (s.take i.toNat++v++s.drop i.toNat))
def G.oN (f:Nat) (qh:List aA) (kT:aA):Option (List aA):=match f with
| 0=>none
| n+1 =>
((G.jS n qh kT.Name).bind fun v1 =>
(cond v1.2
(chk (0<=v1.1/\v1.1<((qh.length:Nat):Int))
(some ((qh.set v1.1.toNat kT))))
((G.iI n qh v1.1 [kT]).bind fun v2 =>
(some (v2)))))
def G.nH (f:Nat) (ai:StoreT) (aQ:aG) (ag:af):Option (StoreT × Bool):=match f with
| 0=>none
| n+1 =>
((G.bg n ai).bind fun v1 =>
(cond v1
((G.iG n aQ).bind fun v2 =>
(cond v2
((G.aO n ag).bind fun v3 =>
(cond v3
((G.bn n ai).bind fun v4 =>
((G.aF n ag).bind fun v5 =>
((G.oN n v4.Items (aA.mk aQ (IntKind.wrap .i64 (v4.Clock+1)) v5)).bind fun v6 =>
((G.bg n (StoreT.mk v6 (IntKind.wrap .i64 (v4.Clock+1)))).bind fun v7 =>
(cond v7
(some ((StoreT.mk v6 (IntKind.wrap .i64 (v4.Clock+1))),true))
(some ((StoreT.mk [] 0),false)))))))
(some ((StoreT.mk [] 0),false))))
(some ((StoreT.mk [] 0),false))))
(some ((StoreT.mk [] 0),false))))
def G.nR (f:Nat) (rE:af) (aQ:aG):Option (af):=match f with
| 0=>none
| n+1 =>
((G.slices_BinarySearch_string n rE.Names aQ).bind fun v1 =>
(cond v1.2
((G.slices_Delete_string n rE.Names v1.1 (IntKind.wrap .i64 (v1.1+1))).bind fun v2 =>
((G.dN n rE.Kids v1.1 (IntKind.wrap .i64 (v1.1+1))).bind fun v3 =>
(some ((af.mk rE.Kind rE.Num rE.Text v2 v3)))))
(some (rE))))
mutual
def G.bC.K5 (f:Nat) (bz:af) (dH:Int) (TD:Int) (Xi:Int) (XB:aG) (z5:List aG) (z6:List af) (y20:Int) (y21:Int) (y22:aG) (y23:List aG) (y24:List af):Option (af):=match f with
| 0=>none
| n+1 =>
(chk (0<=dH/\dH<((bz.Kids.length:Nat):Int))
((G.bC n (af.mk y20 y21 y22 y23 y24) (bz.Kids.getD dH.toNat default)).bind fun v15 =>
((G.kM n (af.mk TD Xi XB z5 z6) (bz.Names.getD dH.toNat default) v15).bind fun v16 =>
(G.bC.L4 n bz (IntKind.wrap .i64 (dH+1)) v16.Kind v16.Num v16.Text v16.Names v16.Kids))))
def G.bC.L4 (f:Nat) (bz:af) (dH:Int) (TD:Int) (Xi:Int) (XB:aG) (z5:List aG) (z6:List af):Option (af):=match f with
| 0=>none
| n+1 =>
(cond (decide (dH<((bz.Names.length:Nat):Int)))
(chk (0<=dH/\dH<((bz.Names.length:Nat):Int))
(chk (0<=dH/\dH<((bz.Kids.length:Nat):Int))
(cond ((bz.Kids.getD dH.toNat default).Kind==0)
((G.nR n (af.mk TD Xi XB z5 z6) (bz.Names.getD dH.toNat default)).bind fun v13 =>
(G.bC.L4 n bz (IntKind.wrap .i64 (dH+1)) v13.Kind v13.Num v13.Text v13.Names v13.Kids))
((G.slices_BinarySearch_string n z5 (bz.Names.getD dH.toNat default)).bind fun v17 =>
(cond v17.2
(chk (0<=v17.1/\v17.1<((z6.length:Nat):Int))
(G.bC.K5 n bz dH TD Xi XB z5 z6 ((z6.getD v17.1.toNat default).Kind) ((z6.getD v17.1.toNat default).Num) ((z6.getD v17.1.toNat default).Text) ((z6.getD v17.1.toNat default).Names) ((z6.getD v17.1.toNat default).Kids)))
(G.bC.K5 n bz dH TD Xi XB z5 z6 0 0 [] [] []))))))
(some ((af.mk TD Xi XB z5 z6))))
def G.bC.K1 (f:Nat) (bz:af) (y1:Int) (y2:Int) (y3:aG) (z1:List aG) (z2:List af):Option (af):=match f with
| 0=>none
| n+1 =>
(G.bC.L4 n bz 0 y1 y2 y3 z1 z2)
def G.bC (f:Nat) (ag:af) (bz:af):Option (af):=match f with
| 0=>none
| n+1 =>
(cond (bz.Kind != 4)
((G.aF n bz).bind fun v1 =>
(some (v1)))
(cond (ag.Kind==4)
((G.aF n ag).bind fun v18 =>
(G.bC.K1 n bz v18.Kind v18.Num v18.Text v18.Names v18.Kids))
(G.bC.K1 n bz 4 0 [] [] [])))
end
def G.jZ (f:Nat) (ag:af) (bz:af):Option (af × Bool):=match f with
| 0=>none
| n+1 =>
((G.aO n ag).bind fun v1 =>
(cond v1
((G.aO n bz).bind fun v2 =>
(cond v2
((G.bC n ag bz).bind fun v3 =>
((G.kL n v3 true).bind fun v4 =>
(some (v4.1,v4.2))))
(some ((af.mk 0 0 [] [] []),false))))
(some ((af.mk 0 0 [] [] []),false))))
def G.nJ (f:Nat) (vS:af) (bQ:RequestT):Option (af × Bool):=match f with
| 0=>none
| n+1 =>
(cond (bQ.Method==4)
((G.jK n vS bQ.Ops).bind fun v1 =>
(some (v1.1,v1.2)))
(cond (bQ.Method==5)
((G.jZ n vS bQ.Body).bind fun v2 =>
(some (v2.1,v2.2)))
(some (bQ.Body,true))))
def G.jJ (f:Nat) (ai:StoreT) (bQ:RequestT) (vS:af) (zW:Bool):Option (StoreT × aj):=match f with
| 0=>none
| n+1 =>
((G.nJ n vS bQ).bind fun v1 =>
(cond v1.2
((G.nH n ai bQ.Name v1.1).bind fun v2 =>
(cond v2.2
((G.lF n v1.1).bind fun v3 =>
(cond zW
(some (v2.1,(aj.mk 200 v3 v2.1.Clock (af.mk 0 0 [] [] []))))
(some (v2.1,(aj.mk 201 v3 v2.1.Clock (af.mk 0 0 [] [] []))))))
((G.bn n ai).bind fun v4 =>
(some (v4,(aj.mk 422 [] 0 (af.mk 0 0 [] [] [])))))))
((G.bn n ai).bind fun v5 =>
(some (v5,(aj.mk 422 [] 0 (af.mk 0 0 [] [] [])))))))
def G.jB (f:Nat) (bQ:RequestT):Option (Bool):=match f with
| 0=>none
| n+1 =>
(cond (decide (1<=bQ.Method))
(cond (decide (bQ.Method<=5))
((G.iG n bQ.Name).bind fun v1 =>
(cond v1
((G.iD n bQ.Want).bind fun v2 =>
(cond v2
((G.iD n bQ.lT).bind fun v3 =>
(cond v3
((G.aO n bQ.Body).bind fun v4 =>
(cond v4
((G.dX n bQ.Ops).bind fun v5 =>
(some (v5)))
(some (false))))
(some (false))))
(some (false))))
(some (false))))
(some (false)))
(some (false)))
def G.aW.K1 (f:Nat) (ai:StoreT) (bQ:RequestT) (v3:aA × Bool) (VR:aG):Option (StoreT × aj):=match f with
| 0=>none
| n+1 =>
((G.iO n bQ.Want bQ.lT VR (bQ.Method==1)).bind fun v5 =>
(cond (v5 != 200)
((G.bn n ai).bind fun v6 =>
(some (v6,(aj.mk v5 [] 0 (af.mk 0 0 [] [] [])))))
(cond (bQ.Method==1)
((G.bn n ai).bind fun v7 =>
(some (v7,(aj.mk 200 VR v3.1.Version v3.1.Node))))
(cond (bQ.Method==3)
((G.lq n ai bQ).bind fun v8 =>
(some (v8.1,v8.2)))
((G.jJ n ai bQ v3.1.Node true).bind fun v9 =>
(some (v9.1,v9.2)))))))
def G.aW.K2 (f:Nat) (ai:StoreT) (bQ:RequestT) (v3:aA × Bool):Option (StoreT × aj):=match f with
| 0=>none
| n+1 =>
((G.iO n bQ.Want bQ.lT [] (bQ.Method==1)).bind fun v12 =>
(cond (v12 != 200)
((G.bn n ai).bind fun v13 =>
(some (v13,(aj.mk v12 [] 0 (af.mk 0 0 [] [] [])))))
(cond (bQ.Method==1)
((G.bn n ai).bind fun v14 =>
(some (v14,(aj.mk 200 [] v3.1.Version v3.1.Node))))
(cond (bQ.Method==3)
((G.lq n ai bQ).bind fun v15 =>
(some (v15.1,v15.2)))
((G.jJ n ai bQ v3.1.Node false).bind fun v16 =>
(some (v16.1,v16.2)))))))
def G.aW (f:Nat) (ai:StoreT) (bQ:RequestT):Option (StoreT × aj):=match f with
| 0=>none
| n+1 =>
((G.bg n ai).bind fun v1 =>
(cond v1
((G.jB n bQ).bind fun v2 =>
(cond v2
((G.ji n ai bQ.Name).bind fun v3 =>
(cond v3.2
((G.lF n v3.1.Node).bind fun v10 =>
(G.aW.K1 n ai bQ v3 v10))
(cond (bQ.Method != 2)
((G.bn n ai).bind fun v11 =>
(some (v11,(aj.mk 404 [] 0 (af.mk 0 0 [] [] [])))))
(G.aW.K2 n ai bQ v3))))
(some ((StoreT.mk [] 0),(aj.mk 400 [] 0 (af.mk 0 0 [] [] []))))))
(some ((StoreT.mk [] 0),(aj.mk 400 [] 0 (af.mk 0 0 [] [] []))))))
def G.og (f:Nat) (bQ:RequestT):Option (Bool):=match f with
| 0=>none
| n+1 =>
((G.jB n bQ).bind fun v1 =>
(cond v1
(some ((bQ.Method==1)))
(some (false))))
def G.dK.L1 (f:Nat) (ah:List RequestT) (dH:Int):Option (Bool):=match f with
| 0=>none
| n+1 =>
(cond (decide (dH<((ah.length:Nat):Int)))
(chk (0<=dH/\dH<((ah.length:Nat):Int))
((G.jB n (RequestT.mk ((ah.getD dH.toNat default).Method) ((ah.getD dH.toNat default).Name) ((ah.getD dH.toNat default).Want) ((ah.getD dH.toNat default).lT) ((ah.getD dH.toNat default).Body) ((ah.getD dH.toNat default).Ops))).bind fun v3 =>
(cond v3
(G.dK.L1 n ah (IntKind.wrap .i64 (dH+1)))
(some (false)))))
(some (true)))
def G.dK (f:Nat) (ah:List RequestT):Option (Bool):=match f with
| 0=>none
| n+1 =>
(cond (decide (8<((ah.length:Nat):Int)))
(some (false))
(G.dK.L1 n ah 0))
def G.kP (f:Nat) (bW:Int):Option (Bool):=match f with
| 0=>none
| n+1 =>
(some (true))
def G.bJ.L1 (f:Nat) (ah:List RequestT) (dH:Int) (y3:List aA) (y4:Int) (z2:List aj):Option (StoreT × List aj):=match f with
| 0=>none
| n+1 =>
(cond (decide (dH<((ah.length:Nat):Int)))
(chk (0<=dH/\dH<((ah.length:Nat):Int))
((G.aW n (StoreT.mk y3 y4) (RequestT.mk ((ah.getD dH.toNat default).Method) ((ah.getD dH.toNat default).Name) ((ah.getD dH.toNat default).Want) ((ah.getD dH.toNat default).lT) ((ah.getD dH.toNat default).Body) ((ah.getD dH.toNat default).Ops))).bind fun v6 =>
(chk ((z2.length+1)*121<=2^46)
((G.kP n v6.2.Status).bind fun v7 =>
(cond v7
(G.bJ.L1 n ah (IntKind.wrap .i64 (dH+1)) v6.1.Items v6.1.Clock (z2++[v6.2]))
(some (v6.1,(z2++[v6.2]))))))))
(some ((StoreT.mk y3 y4),z2)))
def G.bJ (f:Nat) (ai:StoreT) (ah:List RequestT):Option (StoreT × List aj):=match f with
| 0=>none
| n+1 =>
((G.bn n ai).bind fun v1 =>
(G.bJ.L1 n ah 0 v1.Items v1.Clock []))
def G.dF (f:Nat) (ai:StoreT) (ah:List RequestT):Option (StoreT × List aj):=match f with
| 0=>none
| n+1 =>
((G.bg n ai).bind fun v1 =>
(cond v1
((G.dK n ah).bind fun v2 =>
(cond v2
((G.bJ n ai ah).bind fun v3 =>
(some (v3.1,v3.2)))
(some ((StoreT.mk [] 0),[]))))
(some ((StoreT.mk [] 0),[]))))
def G.slices_Compact_string.L2 (f:Nat) (m k0 k k2:Nat) (z:List aG):Option (List aG):=match f with
| 0=>none
| n+1 =>
(chk (z.length=m/\k0<=m)
(cond (decide ((k2:Int)<((m-k0:Nat):Int)))
(chk (1<=k2/\k0+k2<m/\k0+(k2-1)<m/\k<m/\IntKind.wrap .i64 ((k2:Int)-1)=((k2-1:Nat):Int)/\IntKind.wrap .i64 ((k2:Int)+1)=((k2+1:Nat):Int)/\IntKind.wrap .i64 ((k:Int)+1)=((k+1:Nat):Int))
(cond (z.getD (k0+k2) default==z.getD (k0+(k2-1)) default)
(G.slices_Compact_string.L2 n m k0 k (k2+1) z)
(G.slices_Compact_string.L2 n m k0 (k+1) (k2+1) (z.set k (z.getD (k0+k2) default)))))
(chk (k<=m)
(some (z.take k)))))
def G.slices_Compact_string.L1 (f:Nat) (s:List aG) (k:Nat):Option (List aG):=match f with
| 0=>none
| n+1 =>
(cond (decide ((k:Int)<((s.length:Nat):Int)))
(chk (1<=k/\k<s.length/\k-1<s.length/\IntKind.wrap .i64 ((k:Int)-1)=((k-1:Nat):Int)/\IntKind.wrap .i64 ((k:Int)+1)=((k+1:Nat):Int))
(cond (s.getD k default==s.getD (k-1) default)
(G.slices_Compact_string.L2 n s.length k k 1 s)
(G.slices_Compact_string.L1 n s (k+1))))
(some s))
def G.slices_Compact_string (f:Nat) (s:List aG):Option (List aG):=match f with
| 0=>none
| n+1=>cond (decide (((s.length:Nat):Int)<2)) (some s) (G.slices_Compact_string.L1 n s 1)
def G.mZ (f:Nat) (kQ:Int):Option (Int):=match f with
| 0=>none
| n+1 =>
((G.gK n kQ).bind fun v1 =>
(some (v1)))
mutual
def G.ay.L4 (f:Nat) (bW:Int) (cZ:Int) (ak:Int) (yJ:Int) (z8:List aG):Option (List aG):=match f with
| 0=>none
| n+1 =>
(cond (decide (bW<yJ))
(chk (0<=yJ/\yJ<((z8.length:Nat):Int))
(chk (0<=(IntKind.wrap .i64 (yJ-1))/\(IntKind.wrap .i64 (yJ-1))<((z8.length:Nat):Int))
((G.cmp_Less_string n (z8.getD yJ.toNat default) (z8.getD (IntKind.wrap .i64 (yJ-1)).toNat default)).bind fun v9 =>
(cond v9
(chk (0<=(IntKind.wrap .i64 (yJ-1))/\(IntKind.wrap .i64 (yJ-1))<((z8.length:Nat):Int))
(chk (0<=yJ/\yJ<((z8.length:Nat):Int))
(chk (0<=yJ/\yJ<((z8.length:Nat):Int))
(chk (0<=(IntKind.wrap .i64 (yJ-1))/\(IntKind.wrap .i64 (yJ-1))<((z8.length:Nat):Int))
(G.ay.L4 n bW cZ ak (IntKind.wrap .i64 (yJ-1)) ((z8.set yJ.toNat (z8.getD (IntKind.wrap .i64 (yJ-1)).toNat default)).set ((IntKind.wrap .i64 (yJ-1)).toNat) (z8.getD yJ.toNat default)))))))
(G.ay.L3 n bW cZ (IntKind.wrap .i64 (ak+1)) z8)))))
(G.ay.L3 n bW cZ (IntKind.wrap .i64 (ak+1)) z8))
def G.ay.L3 (f:Nat) (bW:Int) (cZ:Int) (ak:Int) (z6:List aG):Option (List aG):=match f with
| 0=>none
| n+1 =>
(cond (decide (ak<cZ))
(G.ay.L4 n bW cZ ak ak z6)
(some (z6)))
end
def G.ay (f:Nat) (ou:List aG) (bW:Int) (cZ:Int):Option (List aG):=match f with
| 0=>none
| n+1 =>
(G.ay.L3 n bW cZ (IntKind.wrap .i64 (bW+1)) ou)
mutual
def G.bu.K3 (f:Nat):Option (List aG):=match f with
| 0=>none
| n+1 =>
(none)
def G.bu.L2 (f:Nat) (ou:List aG) (bW:Int) (cZ:Int) (rf:Int):Option (List aG):=match f with
| 0=>none
| n+1 =>
(cond (decide ((IntKind.wrap .i64 (cZ-bW))<=12))
((G.ay n ou bW cZ).bind fun v2 =>
(chk (ou.length=v2.length)
(some (v2))))
(cond (rf==0)
(none)
(G.bu.K3 n)))
def G.bu (f:Nat) (ou:List aG) (bW:Int) (cZ:Int) (rf:Int):Option (List aG):=match f with
| 0=>none
| n+1 =>
(G.bu.L2 n ou bW cZ rf)
end
def G.slices_Sort_string (f:Nat) (kQ:List aG):Option (List aG):=match f with
| 0=>none
| n+1 =>
((G.mZ n (IntKind.wrap .u64 (((kQ.length:Nat):Int)))).bind fun v1 =>
((G.bu n kQ 0 ((kQ.length:Nat):Int) v1).bind fun v2 =>
(chk (kQ.length=v2.length)
(some (v2)))))
def G.jl.L1 (f:Nat) (ah:List RequestT) (dH:Int) (z2:List aG):Option (List aG):=match f with
| 0=>none
| n+1 =>
(cond (decide (dH<((ah.length:Nat):Int)))
(chk (0<=dH/\dH<((ah.length:Nat):Int))
((G.og n (RequestT.mk ((ah.getD dH.toNat default).Method) ((ah.getD dH.toNat default).Name) ((ah.getD dH.toNat default).Want) ((ah.getD dH.toNat default).lT) ((ah.getD dH.toNat default).Body) ((ah.getD dH.toNat default).Ops))).bind fun v4 =>
(cond v4
(G.jl.L1 n ah (IntKind.wrap .i64 (dH+1)) z2)
(chk ((z2.length+1)*18<=2^46)
(G.jl.L1 n ah (IntKind.wrap .i64 (dH+1)) (z2++[(ah.getD dH.toNat default).Name]))))))
((G.slices_Sort_string n z2).bind fun v5 =>
(chk (z2.length=v5.length)
((G.slices_Compact_string n v5).bind fun v6 =>
(some (v6))))))
def G.jl (f:Nat) (ah:List RequestT):Option (List aG):=match f with
| 0=>none
| n+1 =>
((G.dK n ah).bind fun v1 =>
(cond v1
(G.jl.L1 n ah 0 [])
(some ([]))))
def G.gJ.L1 (f:Nat) (bW:List aG) (cZ:List aG) (ak:Int):Option (Bool):=match f with
| 0=>none
| n+1 =>
(cond (decide (ak<((bW.length:Nat):Int)))
(chk (0<=ak/\ak<((bW.length:Nat):Int))
(chk (0<=ak/\ak<((cZ.length:Nat):Int))
(cond ((bW.getD ak.toNat default)==(cZ.getD ak.toNat default))
(G.gJ.L1 n bW cZ (IntKind.wrap .i64 (ak+1)))
(some (false)))))
(some (true)))
def G.gJ (f:Nat) (bW:List aG) (cZ:List aG):Option (Bool):=match f with
| 0=>none
| n+1 =>
(cond (((bW.length:Nat):Int) != ((cZ.length:Nat):Int))
(some (false))
(G.gJ.L1 n bW cZ 0))
mutual
def G.gu (f:Nat) (bW:af) (cZ:af):Option (Bool):=match f with
| 0=>none
| n+1 =>
(cond (bW.Kind==cZ.Kind)
(cond (bW.Num==cZ.Num)
(cond (bW.Text==cZ.Text)
((G.gJ n bW.Names cZ.Names).bind fun v1 =>
(cond v1
((G.iK n bW.Kids cZ.Kids).bind fun v2 =>
(some (v2)))
(some (false))))
(some (false)))
(some (false)))
(some (false)))
def G.iK.L1 (f:Nat) (bW:List af) (cZ:List af) (ak:Int):Option (Bool):=match f with
| 0=>none
| n+1 =>
(cond (decide (ak<((bW.length:Nat):Int)))
(chk (0<=ak/\ak<((bW.length:Nat):Int))
(chk (0<=ak/\ak<((cZ.length:Nat):Int))
((G.gu n (bW.getD ak.toNat default) (cZ.getD ak.toNat default)).bind fun v3 =>
(cond v3
(G.iK.L1 n bW cZ (IntKind.wrap .i64 (ak+1)))
(some (false))))))
(some (true)))
def G.iK (f:Nat) (bW:List af) (cZ:List af):Option (Bool):=match f with
| 0=>none
| n+1 =>
(cond (((bW.length:Nat):Int) != ((cZ.length:Nat):Int))
(some (false))
(G.iK.L1 n bW cZ 0))
end
def G.bG (f:Nat) (bW:aj) (cZ:aj):Option (Bool):=match f with
| 0=>none
| n+1 =>
(cond (bW.Status==cZ.Status)
(cond (bW.Tag==cZ.Tag)
(cond (bW.Version==cZ.Version)
((G.gu n bW.Body cZ.Body).bind fun v1 =>
(some (v1)))
(some (false)))
(some (false)))
(some (false)))
def G.iU.L1 (f:Nat) (bW:List aA) (cZ:List aA) (ak:Int):Option (Bool):=match f with
| 0=>none
| n+1 =>
(cond (decide (ak<((bW.length:Nat):Int)))
(chk (0<=ak/\ak<((bW.length:Nat):Int))
(chk (0<=ak/\ak<((cZ.length:Nat):Int))
(cond ((bW.getD ak.toNat default).Name==(cZ.getD ak.toNat default).Name)
(chk (0<=ak/\ak<((bW.length:Nat):Int))
(chk (0<=ak/\ak<((cZ.length:Nat):Int))
(cond ((bW.getD ak.toNat default).Version != (cZ.getD ak.toNat default).Version)
(some (false))
(chk (0<=ak/\ak<((bW.length:Nat):Int))
(chk (0<=ak/\ak<((cZ.length:Nat):Int))
((G.gu n ((bW.getD ak.toNat default).Node) ((cZ.getD ak.toNat default).Node)).bind fun v3 =>
(cond v3
(G.iU.L1 n bW cZ (IntKind.wrap .i64 (ak+1)))
(some (false)))))))))
(some (false)))))
(some (true)))
def G.iU (f:Nat) (bW:List aA) (cZ:List aA):Option (Bool):=match f with
| 0=>none
| n+1 =>
(cond (((bW.length:Nat):Int) != ((cZ.length:Nat):Int))
(some (false))
(G.iU.L1 n bW cZ 0))
def G.aK (f:Nat) (bW:StoreT) (cZ:StoreT):Option (Bool):=match f with
| 0=>none
| n+1 =>
(cond (bW.Clock==cZ.Clock)
((G.iU n bW.Items cZ.Items).bind fun v1 =>
(some (v1)))
(some (false)))
mutual
def G.aB.L1 (f:Nat) (ag:af) (ak:Int) (z2:List af):Option (af):=match f with
| 0=>none
| n+1 =>
(cond (decide (ak<((ag.Kids.length:Nat):Int)))
(chk (0<=ak/\ak<((ag.Kids.length:Nat):Int))
((G.aB n (ag.Kids.getD ak.toNat default)).bind fun v3 =>
(chk ((z2.length+1)*86<=2^46)
(G.aB.L1 n ag (IntKind.wrap .i64 (ak+1)) (z2++[v3])))))
(chk (ag.Names.length*18<=2^46)
(some ((af.mk ag.Kind ag.Num ag.Text ag.Names z2)))))
def G.aB (f:Nat) (ag:af):Option (af):=match f with
| 0=>none
| n+1 =>
(G.aB.L1 n ag 0 [])
end
def G.aC (f:Nat) (dA:ReaderT) (ag:Int):Option (Int × ReaderT):=match f with
| 0=>none
| n+1 =>
(cond (decide (ag<1))
(some (0,(ReaderT.mk dA.b (IntKind.wrap .i64 (dA.p+1)))))
(cond (((dA.b.length:Nat):Int)==0)
(some (0,(ReaderT.mk dA.b (IntKind.wrap .i64 (dA.p+1)))))
(cond (decide ((IntKind.wrap .i64 ((IntKind.wrap .i64 (dA.p+1))-1))<((dA.b.length:Nat):Int)))
(chk (0<=(IntKind.wrap .i64 ((IntKind.wrap .i64 (dA.p+1))-1))/\(IntKind.wrap .i64 ((IntKind.wrap .i64 (dA.p+1))-1))<((dA.b.length:Nat):Int))
(chk (ag ≠ 0)
(some ((Int.tmod (IntKind.wrap .i64 ((dA.b.getD (IntKind.wrap .i64 ((IntKind.wrap .i64 (dA.p+1))-1)).toNat default))) ag),(ReaderT.mk dA.b (IntKind.wrap .i64 (dA.p+1)))))))
(chk (((dA.b.length:Nat):Int) ≠ 0)
(chk (0<=(Int.tmod (IntKind.wrap .i64 ((IntKind.wrap .i64 (dA.p+1))-1)) ((dA.b.length:Nat):Int))/\(Int.tmod (IntKind.wrap .i64 ((IntKind.wrap .i64 (dA.p+1))-1)) ((dA.b.length:Nat):Int))<((dA.b.length:Nat):Int))
(chk (((dA.b.length:Nat):Int) ≠ 0)
(chk (0<=(Int.tmod (IntKind.wrap .i64 ((IntKind.wrap .i64 ((IntKind.wrap .i64 ((IntKind.wrap .i64 (dA.p+1))-1))*7))+3)) ((dA.b.length:Nat):Int))/\(Int.tmod (IntKind.wrap .i64 ((IntKind.wrap .i64 ((IntKind.wrap .i64 ((IntKind.wrap .i64 (dA.p+1))-1))*7))+3)) ((dA.b.length:Nat):Int))<((dA.b.length:Nat):Int))
(chk (((dA.b.length:Nat):Int) ≠ 0)
(chk (ag ≠ 0)
(some ((Int.tmod (IntKind.wrap .i64 (((BitVec.ofInt (IntKind.bits .i64) (IntKind.wrap .i64 ((IntKind.wrap .i64 ((IntKind.wrap .i64 ((IntKind.wrap .i64 ((IntKind.wrap .i64 ((dA.b.getD (Int.tmod (IntKind.wrap .i64 ((IntKind.wrap .i64 (dA.p+1))-1)) ((dA.b.length:Nat):Int)).toNat default)))*131))+(IntKind.wrap .i64 ((IntKind.wrap .i64 ((dA.b.getD (Int.tmod (IntKind.wrap .i64 ((IntKind.wrap .i64 ((IntKind.wrap .i64 ((IntKind.wrap .i64 (dA.p+1))-1))*7))+3)) ((dA.b.length:Nat):Int)).toNat default)))*1117))))+(IntKind.wrap .i64 ((IntKind.wrap .i64 ((IntKind.wrap .i64 (dA.p+1))-1))*29))))+(IntKind.wrap .i64 ((IntKind.wrap .i64 (Int.tdiv (IntKind.wrap .i64 ((IntKind.wrap .i64 (dA.p+1))-1)) ((dA.b.length:Nat):Int)))*53)))) ^^^ BitVec.ofInt (IntKind.bits .i64) (IntKind.wrap .i64 (Int.tdiv (IntKind.wrap .i64 ((IntKind.wrap .i64 ((IntKind.wrap .i64 ((IntKind.wrap .i64 ((IntKind.wrap .i64 ((dA.b.getD (Int.tmod (IntKind.wrap .i64 ((IntKind.wrap .i64 (dA.p+1))-1)) ((dA.b.length:Nat):Int)).toNat default)))*131))+(IntKind.wrap .i64 ((IntKind.wrap .i64 ((dA.b.getD (Int.tmod (IntKind.wrap .i64 ((IntKind.wrap .i64 ((IntKind.wrap .i64 ((IntKind.wrap .i64 (dA.p+1))-1))*7))+3)) ((dA.b.length:Nat):Int)).toNat default)))*1117))))+(IntKind.wrap .i64 ((IntKind.wrap .i64 ((IntKind.wrap .i64 (dA.p+1))-1))*29))))+(IntKind.wrap .i64 ((IntKind.wrap .i64 (Int.tdiv (IntKind.wrap .i64 ((IntKind.wrap .i64 (dA.p+1))-1)) ((dA.b.length:Nat):Int)))*53)))) 64))).toNat:Int))) ag),(ReaderT.mk dA.b (IntKind.wrap .i64 (dA.p+1))))))))))))))
def G.dD (f:Nat) (dA:ReaderT) (ah:List Int):Option (Int × ReaderT):=match f with
| 0=>none
| n+1 =>
((G.aC n dA ((ah.length:Nat):Int)).bind fun v1 =>
(chk (0<=v1.1/\v1.1<((ah.length:Nat):Int))
(some ((ah.getD v1.1.toNat default),v1.2))))
mutual
def G.iQ (f:Nat) (ag:Int):Option (aG):=match f with
| 0=>none
| n+1 =>
(cond (decide (ag<0))
(cond (ag==(IntKind.wrap .i64 (0-ag)))
(some ([45,57,50,50,51,51,55,50,48,51,54,56,53,52,55,55,53,56,48,56]))
((G.iQ n (IntKind.wrap .i64 (0-ag))).bind fun v1 =>
(chk (1+v1.length<=maxLen)
(some (([45]++v1))))))
(cond (decide (ag<10))
(chk (1<=maxLen)
(some ([UInt8.ofNat (IntKind.wrap .u8 ((IntKind.wrap .i64 (48+ag)))).toNat])))
((G.iQ n (IntKind.wrap .i64 (Int.tdiv ag 10))).bind fun v2 =>
(chk (1<=maxLen)
(chk (v2.length+1<=maxLen)
(some ((v2++[UInt8.ofNat (IntKind.wrap .u8 ((IntKind.wrap .i64 (48+(Int.tmod ag 10))))).toNat]))))))))
end
def G.fB.L1 (f:Nat) (ag:af) (gI:aG) (ak:Int):Option (Int):=match f with
| 0=>none
| n+1 =>
(cond (decide (ak<((ag.Kids.length:Nat):Int)))
(cond (ag.Kind==4)
(chk (0<=ak/\ak<((ag.Names.length:Nat):Int))
(cond ((ag.Names.getD ak.toNat default)==gI)
(some (ak))
(cond (ag.Kind==3)
((G.iQ n ak).bind fun v5 =>
(cond (v5==gI)
(some (ak))
(G.fB.L1 n ag gI (IntKind.wrap .i64 (ak+1)))))
(G.fB.L1 n ag gI (IntKind.wrap .i64 (ak+1))))))
(cond (ag.Kind==3)
((G.iQ n ak).bind fun v6 =>
(cond (v6==gI)
(some (ak))
(G.fB.L1 n ag gI (IntKind.wrap .i64 (ak+1)))))
(G.fB.L1 n ag gI (IntKind.wrap .i64 (ak+1)))))
(some ((-1))))
def G.fB (f:Nat) (ag:af) (gI:aG):Option (Int):=match f with
| 0=>none
| n+1 =>
(G.fB.L1 n ag gI 0)
def G.je.L1 (f:Nat) (ag:af) (gI:aG) (ak:Int):Option (Int × Bool):=match f with
| 0=>none
| n+1 =>
(cond (ag.Kind==4)
(cond (decide (ak<=((ag.Kids.length:Nat):Int)))
(cond (ak==((ag.Kids.length:Nat):Int))
(some (ak,false))
(chk (0<=ak/\ak<((ag.Names.length:Nat):Int))
(cond (Op.bytesLess gI (ag.Names.getD ak.toNat default))
(some (ak,false))
(G.je.L1 n ag gI (IntKind.wrap .i64 (ak+1))))))
(some ((-1),false)))
(some ((-1),false)))
def G.je.L2 (f:Nat) (ag:af) (gI:aG) (BJ:Int):Option (Int × Bool):=match f with
| 0=>none
| n+1 =>
(cond (ag.Kind==4)
(cond (decide (BJ<=((ag.Kids.length:Nat):Int)))
(cond (BJ==((ag.Kids.length:Nat):Int))
(some (BJ,false))
(chk (0<=BJ/\BJ<((ag.Names.length:Nat):Int))
(cond (Op.bytesLess gI (ag.Names.getD BJ.toNat default))
(some (BJ,false))
(G.je.L2 n ag gI (IntKind.wrap .i64 (BJ+1))))))
(some ((-1),false)))
(some ((-1),false)))
def G.je (f:Nat) (ag:af) (gI:aG):Option (Int × Bool):=match f with
| 0=>none
| n+1 =>
((G.fB n ag gI).bind fun v1 =>
(cond (decide (0<=v1))
(some (v1,(ag.Kind==4)))
(cond (ag.Kind==3)
(cond (gI==[45])
(some (((ag.Kids.length:Nat):Int),false))
((G.iQ n ((ag.Kids.length:Nat):Int)).bind fun v2 =>
(cond (gI==v2)
(some (((ag.Kids.length:Nat):Int),false))
(G.je.L1 n ag gI 0))))
(G.je.L2 n ag gI 0))))
def G.jD (f:Nat) (ag:af) (GK:Int) (yO:af):Option (af):=match f with
| 0=>none
| n+1 =>
((G.aB n ag).bind fun v1 =>
((G.aB n yO).bind fun v2 =>
(chk (0<=GK/\GK<((v1.Kids.length:Nat):Int))
(some ((af.mk v1.Kind v1.Num v1.Text v1.Names (v1.Kids.set GK.toNat v2)))))))
def G.jd (f:Nat) (ag:af) (gI:aG) (dI:af):Option (af × Bool):=match f with
| 0=>none
| n+1 =>
((G.je n ag gI).bind fun v1 =>
(cond (decide (v1.1<0))
(some ((af.mk 0 0 [] [] []),false))
(cond v1.2
((G.jD n ag v1.1 dI).bind fun v2 =>
(some (v2,true)))
((G.aB n ag).bind fun v3 =>
(chk (0<=0/\0<=v1.1/\v1.1<=((v3.Kids.length:Nat):Int))
(chk (((v3.Kids.take v1.1.toNat).length)*86<=2^46)
((G.aB n dI).bind fun v4 =>
(chk (((v3.Kids.take v1.1.toNat).length+1)*86<=2^46)
(chk (0<=v1.1/\v1.1<=((v3.Kids.length:Nat):Int)/\((v3.Kids.length:Nat):Int)<=((v3.Kids.length:Nat):Int))
(chk ((((v3.Kids.take v1.1.toNat).length+1)+(v3.Kids.drop v1.1.toNat).length)*86<=2^46)
(cond (ag.Kind==3)
(some ((af.mk ag.Kind 0 [] [] (((v3.Kids.take v1.1.toNat)++[v4])++(v3.Kids.drop v1.1.toNat))),true))
(chk (0<=0/\0<=v1.1/\v1.1<=((v3.Names.length:Nat):Int))
(chk (((v3.Names.take v1.1.toNat).length)*18<=2^46)
(chk (((v3.Names.take v1.1.toNat).length+1)*18<=2^46)
(chk (0<=v1.1/\v1.1<=((v3.Names.length:Nat):Int)/\((v3.Names.length:Nat):Int)<=((v3.Names.length:Nat):Int))
(chk ((((v3.Names.take v1.1.toNat).length+1)+(v3.Names.drop v1.1.toNat).length)*18<=2^46)
(some ((af.mk ag.Kind 0 [] (((v3.Names.take v1.1.toNat)++[gI])++(v3.Names.drop v1.1.toNat)) (((v3.Kids.take v1.1.toNat)++[v4])++(v3.Kids.drop v1.1.toNat))),true))))))))))))))))))
def G.fO (f:Nat) (dA:ReaderT) (ah:List aG):Option (aG × ReaderT):=match f with
| 0=>none
| n+1 =>
((G.aC n dA ((ah.length:Nat):Int)).bind fun v1 =>
(chk (0<=v1.1/\v1.1<((ah.length:Nat):Int))
(some ((ah.getD v1.1.toNat default),v1.2))))
def G.nC (f:Nat) (dA:ReaderT):Option (aG × ReaderT):=match f with
| 0=>none
| n+1 =>
((G.fO n dA [[97],[98],[],[97,98,99],[97,47,98],[126],[120,32,121],[34,113,34],[98,97,99,107,92,115],[48],[49],[97,98,99,100,101,102,103,104,105,106,107,108]]).bind fun v1 =>
(some (v1.1,v1.2)))
def G.ny (f:Nat) (dA:ReaderT):Option (aG × ReaderT):=match f with
| 0=>none
| n+1 =>
((G.fO n dA [[97],[98],[99],[100],[97,47,98],[126,120],[],[107]]).bind fun v1 =>
(some (v1.1,v1.2)))
mutual
def G.dO.L1 (f:Nat) (bM:Int) (uT:Int) (y8:List Int) (y9:Int) (BK:Int) (Oi:Int) (Oj:aG) (y13:List aG) (JH:List af):Option (af × ReaderT):=match f with
| 0=>none
| n+1 =>
(cond (decide (0<uT))
((G.ny n (ReaderT.mk y8 y9)).bind fun v10 =>
((G.aS n v10.2 (IntKind.wrap .i64 (bM-1))).bind fun v11 =>
((G.fB n (af.mk BK Oi Oj y13 JH) v10.1).bind fun v12 =>
(cond (decide (v12<0))
((G.jd n (af.mk BK Oi Oj y13 JH) v10.1 v11.1).bind fun v13 =>
(G.dO.L1 n bM (IntKind.wrap .i64 (uT-1)) v11.2.b v11.2.p v13.1.Kind v13.1.Num v13.1.Text v13.1.Names v13.1.Kids))
(G.dO.L1 n bM (IntKind.wrap .i64 (uT-1)) v11.2.b v11.2.p BK Oi Oj y13 JH)))))
(some ((af.mk BK Oi Oj y13 JH),(ReaderT.mk y8 y9))))
def G.dO (f:Nat) (dA:ReaderT) (bM:Int):Option (af × ReaderT):=match f with
| 0=>none
| n+1 =>
((G.dD n dA [2,3,1,0,4]).bind fun v1 =>
(G.dO.L1 n bM v1.1 v1.2.b v1.2.p 4 0 [] [] []))
def G.aS.L2 (f:Nat) (bM:Int) (vG:Int) (uT:Int) (y5:List Int) (y6:Int) (z2:List af):Option (af × ReaderT):=match f with
| 0=>none
| n+1 =>
(cond (decide (0<uT))
((G.aS n (ReaderT.mk y5 y6) (IntKind.wrap .i64 (bM-1))).bind fun v9 =>
(chk ((z2.length+1)*86<=2^46)
(G.aS.L2 n bM vG (IntKind.wrap .i64 (uT-1)) v9.2.b v9.2.p (z2++[v9.1]))))
(some ((af.mk vG 0 [] [] z2),(ReaderT.mk y5 y6))))
def G.aS.K1 (f:Nat) (bM:Int) (vG:Int) (y1:List Int) (y2:Int):Option (af × ReaderT):=match f with
| 0=>none
| n+1 =>
(cond (vG==1)
((G.aC n (ReaderT.mk y1 y2) 250).bind fun v3 =>
((G.dD n v3.2 [0,1,2,7,(-7),999999,(-999999),v3.1]).bind fun v4 =>
(some ((af.mk vG v4.1 [] [] []),v4.2))))
(cond (vG==2)
((G.nC n (ReaderT.mk y1 y2)).bind fun v5 =>
(some ((af.mk vG 0 v5.1 [] []),v5.2)))
(cond (vG==3)
((G.aC n (ReaderT.mk y1 y2) 4).bind fun v6 =>
(G.aS.L2 n bM vG v6.1 v6.2.b v6.2.p []))
(cond (vG==4)
((G.dO n (ReaderT.mk y1 y2) bM).bind fun v10 =>
(some (v10.1,v10.2)))
(some ((af.mk 0 0 [] [] []),(ReaderT.mk y1 y2)))))))
def G.aS (f:Nat) (dA:ReaderT) (bM:Int):Option (af × ReaderT):=match f with
| 0=>none
| n+1 =>
((G.aC n dA 5).bind fun v1 =>
(cond (decide (bM<=1))
((G.aC n v1.2 3).bind fun v11 =>
(G.aS.K1 n bM v11.1 v11.2.b v11.2.p))
(G.aS.K1 n bM v1.1 v1.2.b v1.2.p)))
end
mutual
def G.jO.L1 (f:Nat) (ag:af) (YY:Int) (ak:Int):Option (Int):=match f with
| 0=>none
| n+1 =>
(cond (decide (ak<((ag.Kids.length:Nat):Int)))
(chk (0<=ak/\ak<((ag.Kids.length:Nat):Int))
((G.jO n (ag.Kids.getD ak.toNat default)).bind fun v3 =>
(G.jO.L1 n ag (IntKind.wrap .i64 (YY+v3)) (IntKind.wrap .i64 (ak+1)))))
(some (YY)))
def G.jO (f:Nat) (ag:af):Option (Int):=match f with
| 0=>none
| n+1 =>
(G.jO.L1 n ag 1 0)
end
def G.dW (f:Nat) (ag:Int) (GL:Int) (Du:Int):Option (Bool):=match f with
| 0=>none
| n+1 =>
(cond (decide (GL<=ag))
(some ((decide (ag<=Du))))
(some (false)))
def G.eU.L1 (f:Nat) (ai:aG) (ak:Int):Option (Bool):=match f with
| 0=>none
| n+1 =>
(cond (decide (ak<((ai.length:Nat):Int)))
(chk (0<=ak/\ak<((ai.length:Nat):Int))
((G.dW n (IntKind.wrap .i64 ((((ai.getD ak.toNat 0).toNat:Nat):Int))) 32 126).bind fun v3 =>
(cond v3
(G.eU.L1 n ai (IntKind.wrap .i64 (ak+1)))
(some (false)))))
(some ((decide (((ai.length:Nat):Int)<=12)))))
def G.eU (f:Nat) (ai:aG):Option (Bool):=match f with
| 0=>none
| n+1 =>
(G.eU.L1 n ai 0)
def G.kF.L1 (f:Nat) (ah:List aG) (ak:Int):Option (Bool):=match f with
| 0=>none
| n+1 =>
(cond (decide (ak<((ah.length:Nat):Int)))
(chk (0<=ak/\ak<((ah.length:Nat):Int))
((G.eU n (ah.getD ak.toNat default)).bind fun v3 =>
(cond v3
(cond (decide (0<ak))
(chk (0<=ak/\ak<((ah.length:Nat):Int))
(chk (0<=(IntKind.wrap .i64 (ak-1))/\(IntKind.wrap .i64 (ak-1))<((ah.length:Nat):Int))
(cond (Op.bytesLess (ah.getD ak.toNat default) (ah.getD (IntKind.wrap .i64 (ak-1)).toNat default))
(some (false))
(cond ((ah.getD ak.toNat default)==(ah.getD (IntKind.wrap .i64 (ak-1)).toNat default))
(some (false))
(G.kF.L1 n ah (IntKind.wrap .i64 (ak+1)))))))
(G.kF.L1 n ah (IntKind.wrap .i64 (ak+1))))
(some (false)))))
(some (true)))
def G.kF (f:Nat) (ah:List aG):Option (Bool):=match f with
| 0=>none
| n+1 =>
(G.kF.L1 n ah 0)
mutual
def G.lZ.L1 (f:Nat) (ag:af) (bM:Int) (ak:Int):Option (Bool):=match f with
| 0=>none
| n+1 =>
(cond (decide (ak<((ag.Kids.length:Nat):Int)))
(chk (0<=ak/\ak<((ag.Kids.length:Nat):Int))
((G.fP n (ag.Kids.getD ak.toNat default) (IntKind.wrap .i64 (bM-1))).bind fun v3 =>
(cond v3
(G.lZ.L1 n ag bM (IntKind.wrap .i64 (ak+1)))
(some (false)))))
(some (true)))
def G.lZ (f:Nat) (ag:af) (bM:Int):Option (Bool):=match f with
| 0=>none
| n+1 =>
(G.lZ.L1 n ag bM 0)
def G.fP.K1 (f:Nat) (ag:af) (bM:Int):Option (Bool):=match f with
| 0=>none
| n+1 =>
(cond (ag.Kind==1)
((G.dW n ag.Num (-999999) 999999).bind fun v1 =>
(some (v1)))
(cond (ag.Kind==2)
((G.eU n ag.Text).bind fun v2 =>
(some (v2)))
(cond (ag.Kind==3)
((G.lZ n ag bM).bind fun v3 =>
(some (v3)))
(cond (ag.Kind==4)
(cond (((ag.Names.length:Nat):Int)==((ag.Kids.length:Nat):Int))
((G.kF n ag.Names).bind fun v4 =>
(cond v4
((G.lZ n ag bM).bind fun v5 =>
(some (v5)))
(some (false))))
(some (false)))
(some ((ag.Kind==0)))))))
def G.fP (f:Nat) (ag:af) (bM:Int):Option (Bool):=match f with
| 0=>none
| n+1 =>
(cond (bM==0)
(some (false))
(cond (decide (6<((ag.Kids.length:Nat):Int)))
(some (false))
(cond (ag.Kind != 1)
(cond (ag.Num != 0)
(some (false))
(cond (ag.Kind != 2)
(cond (ag.Text==[])
(cond (ag.Kind != 4)
(cond (decide (0<((ag.Names.length:Nat):Int)))
(some (false))
(cond (decide (ag.Kind<3))
(cond (decide (0<((ag.Kids.length:Nat):Int)))
(some (false))
(G.fP.K1 n ag bM))
(G.fP.K1 n ag bM)))
(cond (decide (ag.Kind<3))
(cond (decide (0<((ag.Kids.length:Nat):Int)))
(some (false))
(G.fP.K1 n ag bM))
(G.fP.K1 n ag bM)))
(some (false)))
(cond (ag.Kind != 4)
(cond (decide (0<((ag.Names.length:Nat):Int)))
(some (false))
(cond (decide (ag.Kind<3))
(cond (decide (0<((ag.Kids.length:Nat):Int)))
(some (false))
(G.fP.K1 n ag bM))
(G.fP.K1 n ag bM)))
(cond (decide (ag.Kind<3))
(cond (decide (0<((ag.Kids.length:Nat):Int)))
(some (false))
(G.fP.K1 n ag bM))
(G.fP.K1 n ag bM)))))
(cond (ag.Kind != 2)
(cond (ag.Text==[])
(cond (ag.Kind != 4)
(cond (decide (0<((ag.Names.length:Nat):Int)))
(some (false))
(cond (decide (ag.Kind<3))
(cond (decide (0<((ag.Kids.length:Nat):Int)))
(some (false))
(G.fP.K1 n ag bM))
(G.fP.K1 n ag bM)))
(cond (decide (ag.Kind<3))
(cond (decide (0<((ag.Kids.length:Nat):Int)))
(some (false))
(G.fP.K1 n ag bM))
(G.fP.K1 n ag bM)))
(some (false)))
(cond (ag.Kind != 4)
(cond (decide (0<((ag.Names.length:Nat):Int)))
(some (false))
(cond (decide (ag.Kind<3))
(cond (decide (0<((ag.Kids.length:Nat):Int)))
(some (false))
(G.fP.K1 n ag bM))
(G.fP.K1 n ag bM)))
(cond (decide (ag.Kind<3))
(cond (decide (0<((ag.Kids.length:Nat):Int)))
(some (false))
(G.fP.K1 n ag bM))
(G.fP.K1 n ag bM)))))))
end
def G.bH (f:Nat) (ag:af):Option (Bool):=match f with
| 0=>none
| n+1 =>
((G.fP n ag 5).bind fun v1 =>
(cond v1
((G.jO n ag).bind fun v2 =>
(some ((decide (v2<=40)))))
(some (false))))
def G.fH.K1 (f:Nat) (y1:List Int) (y2:Int) (y3:Int) (y4:Int) (y5:aG) (y6:List aG) (y7:List af):Option (af × ReaderT):=match f with
| 0=>none
| n+1 =>
((G.bH n (af.mk y3 y4 y5 y6 y7)).bind fun v4 =>
(cond v4
(some ((af.mk y3 y4 y5 y6 y7),(ReaderT.mk y1 y2)))
(some ((af.mk 0 0 [] [] []),(ReaderT.mk y1 y2)))))
def G.fH (f:Nat) (dA:ReaderT):Option (af × ReaderT):=match f with
| 0=>none
| n+1 =>
((G.aS n dA 3).bind fun v1 =>
((G.aC n v1.2 3).bind fun v5 =>
(cond (decide (0<v5.1))
((G.dO n v5.2 3).bind fun v6 =>
(G.fH.K1 n v6.2.b v6.2.p v6.1.Kind v6.1.Num v6.1.Text v6.1.Names v6.1.Kids))
(G.fH.K1 n v5.2.b v5.2.p v1.1.Kind v1.1.Num v1.1.Text v1.1.Names v1.1.Kids))))
def G.jI.L1 (f:Nat) (v1:af × ReaderT) (ak:Int) (y3:List Int) (y4:Int) (z2:List af):Option (af × ReaderT):=match f with
| 0=>none
| n+1 =>
((G.aC n (ReaderT.mk y3 y4) 2).bind fun v9 =>
(cond (decide (ak<(IntKind.wrap .i64 (6+v9.1))))
((G.aB n v1.1).bind fun v10 =>
(chk ((z2.length+1)*86<=2^46)
(G.jI.L1 n v1 (IntKind.wrap .i64 (ak+1)) v9.2.b v9.2.p (z2++[v10]))))
(some ((af.mk 3 0 [] [] z2),v9.2))))
def G.jI (f:Nat) (dA:ReaderT):Option (af × ReaderT):=match f with
| 0=>none
| n+1 =>
((G.fH n dA).bind fun v1 =>
((G.aC n v1.2 40).bind fun v2 =>
(cond (v2.1==0)
((G.dD n v2.2 [(-1),5,0,3]).bind fun v3 =>
(some ((af.mk v3.1 v1.1.Num v1.1.Text v1.1.Names v1.1.Kids),v3.2)))
(cond (v2.1==1)
((G.dD n v2.2 [1,1000000]).bind fun v4 =>
(some ((af.mk v1.1.Kind v4.1 v1.1.Text v1.1.Names v1.1.Kids),v4.2)))
(cond (v2.1==2)
(some ((af.mk v1.1.Kind v1.1.Num [97,98,99,100,101,102,103,104,105,106,107,108,109] v1.1.Names v1.1.Kids),v2.2))
(cond (v2.1==3)
(chk ((v1.1.Names.length+1)*18<=2^46)
(some ((af.mk v1.1.Kind v1.1.Num v1.1.Text (v1.1.Names++[[]]) v1.1.Kids),v2.2)))
(cond (v2.1==4)
(some ((af.mk 3 0 [] [] [(af.mk 3 0 [] [] [(af.mk 3 0 [] [] [(af.mk 3 0 [] [] [v1.1])])])]),v2.2))
(cond (v2.1==5)
(G.jI.L1 n v1 0 v2.2.b v2.2.p [])
(some (v1.1,v2.2))))))))))
def G.lI (f:Nat) (dA:ReaderT):Option (aG × ReaderT):=match f with
| 0=>none
| n+1 =>
((G.fO n dA [[],[65],[97,98,99,100,101,102,103,104,105],[97,32,98],[97]]).bind fun v1 =>
(some (v1.1,v1.2)))
def G.aU.L1 (f:Nat) (ai:StoreT) (ak:Int) (z2:List aA):Option (StoreT):=match f with
| 0=>none
| n+1 =>
(cond (decide (ak<((ai.Items.length:Nat):Int)))
(chk (0<=ak/\ak<((ai.Items.length:Nat):Int))
(chk (0<=ak/\ak<((ai.Items.length:Nat):Int))
(chk (0<=ak/\ak<((ai.Items.length:Nat):Int))
((G.aB n ((ai.Items.getD ak.toNat default).Node)).bind fun v3 =>
(chk ((z2.length+1)*112<=2^46)
(G.aU.L1 n ai (IntKind.wrap .i64 (ak+1)) (z2++[(aA.mk ((ai.Items.getD ak.toNat default).Name) ((ai.Items.getD ak.toNat default).Version) v3)])))))))
(some ((StoreT.mk z2 ai.Clock))))
def G.aU (f:Nat) (ai:StoreT):Option (StoreT):=match f with
| 0=>none
| n+1 =>
(G.aU.L1 n ai 0 [])
def G.jq.L1 (f:Nat) (ai:StoreT) (aQ:aG) (ak:Int):Option (Int):=match f with
| 0=>none
| n+1 =>
(cond (decide (ak<((ai.Items.length:Nat):Int)))
(chk (0<=ak/\ak<((ai.Items.length:Nat):Int))
(cond ((ai.Items.getD ak.toNat default).Name==aQ)
(some (ak))
(G.jq.L1 n ai aQ (IntKind.wrap .i64 (ak+1)))))
(some ((-1))))
def G.jq (f:Nat) (ai:StoreT) (aQ:aG):Option (Int):=match f with
| 0=>none
| n+1 =>
(G.jq.L1 n ai aQ 0)
def G.eF.L1 (f:Nat) (ai:aG) (ak:Int):Option (Bool):=match f with
| 0=>none
| n+1 =>
(cond (decide (ak<((ai.length:Nat):Int)))
(chk (0<=ak/\ak<((ai.length:Nat):Int))
((G.dW n (IntKind.wrap .i64 ((((ai.getD ak.toNat 0).toNat:Nat):Int))) 97 122).bind fun v5 =>
(cond v5
(G.eF.L1 n ai (IntKind.wrap .i64 (ak+1)))
(chk (0<=ak/\ak<((ai.length:Nat):Int))
((G.dW n (IntKind.wrap .i64 ((((ai.getD ak.toNat 0).toNat:Nat):Int))) 48 57).bind fun v6 =>
(cond v6
(G.eF.L1 n ai (IntKind.wrap .i64 (ak+1)))
(some (false))))))))
((G.dW n ((ai.length:Nat):Int) 1 8).bind fun v7 =>
(some (v7))))
def G.eF (f:Nat) (ai:aG):Option (Bool):=match f with
| 0=>none
| n+1 =>
(G.eF.L1 n ai 0)
def G.aY.L1 (f:Nat) (ai:StoreT) (ak:Int):Option (Bool):=match f with
| 0=>none
| n+1 =>
(cond (decide (ak<((ai.Items.length:Nat):Int)))
(chk (0<=ak/\ak<((ai.Items.length:Nat):Int))
((G.eF n ((ai.Items.getD ak.toNat default).Name)).bind fun v7 =>
(cond v7
((G.bH n ((ai.Items.getD ak.toNat default).Node)).bind fun v8 =>
(cond v8
((G.dW n ((ai.Items.getD ak.toNat default).Version) 1 ai.Clock).bind fun v9 =>
(cond v9
(cond (decide (0<ak))
(chk (0<=(IntKind.wrap .i64 (ak-1))/\(IntKind.wrap .i64 (ak-1))<((ai.Items.length:Nat):Int))
(cond (Op.bytesLess ((ai.Items.getD ak.toNat default).Name) ((ai.Items.getD (IntKind.wrap .i64 (ak-1)).toNat default).Name))
(some (false))
(cond ((ai.Items.getD ak.toNat default).Name==(ai.Items.getD (IntKind.wrap .i64 (ak-1)).toNat default).Name)
(some (false))
(G.aY.L1 n ai (IntKind.wrap .i64 (ak+1))))))
(G.aY.L1 n ai (IntKind.wrap .i64 (ak+1))))
(some (false))))
(some (false))))
(some (false)))))
(cond (decide (((ai.Items.length:Nat):Int)<=10))
((G.dW n ai.Clock 0 999).bind fun v10 =>
(some (v10)))
(some (false))))
def G.aY (f:Nat) (ai:StoreT):Option (Bool):=match f with
| 0=>none
| n+1 =>
(G.aY.L1 n ai 0)
def G.nK (f:Nat) (ai:StoreT) (aQ:aG):Option (aA × Bool):=match f with
| 0=>none
| n+1 =>
((G.aY n ai).bind fun v1 =>
(cond v1
((G.jq n ai aQ).bind fun v2 =>
(cond (decide (v2<0))
(some ((aA.mk [] 0 (af.mk 0 0 [] [] [])),false))
((G.aU n ai).bind fun v3 =>
((G.jq n ai aQ).bind fun v4 =>
(chk (0<=v4/\v4<((v3.Items.length:Nat):Int))
(some ((aA.mk ((v3.Items.getD v4.toNat default).Name) ((v3.Items.getD v4.toNat default).Version) ((v3.Items.getD v4.toNat default).Node)),true)))))))
(some ((aA.mk [] 0 (af.mk 0 0 [] [] [])),false))))
def G.jP.L1 (f:Nat) (ai:aG) (x9:aG) (ak:Int):Option (aG):=match f with
| 0=>none
| n+1 =>
(cond (decide (ak<((ai.length:Nat):Int)))
(chk (0<=ak/\ak<((ai.length:Nat):Int))
(cond ((((ai.getD ak.toNat 0).toNat:Nat):Int)==34)
(chk (x9.length+1<=maxLen)
(chk (0<=ak/\ak<=(IntKind.wrap .i64 (ak+1))/\(IntKind.wrap .i64 (ak+1))<=((ai.length:Nat):Int))
(chk ((x9.length+1)+((ai.take ((IntKind.wrap .i64 (ak+1)).toNat)).drop ak.toNat).length<=maxLen)
(G.jP.L1 n ai ((x9++[92])++((ai.take ((IntKind.wrap .i64 (ak+1)).toNat)).drop ak.toNat)) (IntKind.wrap .i64 (ak+1))))))
(chk (0<=ak/\ak<((ai.length:Nat):Int))
(cond ((((ai.getD ak.toNat 0).toNat:Nat):Int)==92)
(chk (x9.length+1<=maxLen)
(chk (0<=ak/\ak<=(IntKind.wrap .i64 (ak+1))/\(IntKind.wrap .i64 (ak+1))<=((ai.length:Nat):Int))
(chk ((x9.length+1)+((ai.take ((IntKind.wrap .i64 (ak+1)).toNat)).drop ak.toNat).length<=maxLen)
(G.jP.L1 n ai ((x9++[92])++((ai.take ((IntKind.wrap .i64 (ak+1)).toNat)).drop ak.toNat)) (IntKind.wrap .i64 (ak+1))))))
(chk (0<=ak/\ak<=(IntKind.wrap .i64 (ak+1))/\(IntKind.wrap .i64 (ak+1))<=((ai.length:Nat):Int))
(chk (x9.length+((ai.take ((IntKind.wrap .i64 (ak+1)).toNat)).drop ak.toNat).length<=maxLen)
(G.jP.L1 n ai (x9++((ai.take ((IntKind.wrap .i64 (ak+1)).toNat)).drop ak.toNat)) (IntKind.wrap .i64 (ak+1)))))))))
(chk (x9.length+1<=maxLen)
(some ((x9++[34])))))
def G.jP (f:Nat) (ai:aG):Option (aG):=match f with
| 0=>none
| n+1 =>
(G.jP.L1 n ai [34] 0)
mutual
def G.cu.K7 (f:Nat) (ag:af) (ak:Int) (VP:aG):Option (aG):=match f with
| 0=>none
| n+1 =>
(chk (0<=ak/\ak<((ag.Kids.length:Nat):Int))
((G.cu n (ag.Kids.getD ak.toNat default)).bind fun v10 =>
(chk (VP.length+v10.length<=maxLen)
(G.cu.L5 n ag (VP++v10) (IntKind.wrap .i64 (ak+1))))))
def G.cu.K6 (f:Nat) (ag:af) (ak:Int) (LD:aG):Option (aG):=match f with
| 0=>none
| n+1 =>
(cond (ag.Kind==4)
(chk (0<=ak/\ak<((ag.Names.length:Nat):Int))
((G.jP n (ag.Names.getD ak.toNat default)).bind fun v11 =>
(chk (LD.length+v11.length<=maxLen)
(chk ((LD.length+v11.length)+1<=maxLen)
(G.cu.K7 n ag ak ((LD++v11)++[58]))))))
(G.cu.K7 n ag ak LD))
def G.cu.L5 (f:Nat) (ag:af) (zo:aG) (ak:Int):Option (aG):=match f with
| 0=>none
| n+1 =>
(cond (decide (ak<((ag.Kids.length:Nat):Int)))
(cond (decide (0<ak))
(chk (zo.length+1<=maxLen)
(G.cu.K6 n ag ak (zo++[44])))
(G.cu.K6 n ag ak zo))
(cond (ag.Kind==4)
(chk (1+zo.length<=maxLen)
(chk ((1+zo.length)+1<=maxLen)
(some ((([123]++zo)++[125])))))
(chk (1+zo.length<=maxLen)
(chk ((1+zo.length)+1<=maxLen)
(some ((([91]++zo)++[93])))))))
def G.cu (f:Nat) (ag:af):Option (aG):=match f with
| 0=>none
| n+1 =>
(cond (ag.Kind==1)
((G.iQ n ag.Num).bind fun v1 =>
(some (v1)))
(cond (ag.Kind==2)
((G.jP n ag.Text).bind fun v2 =>
(some (v2)))
(cond (ag.Kind==0)
(some ([110,117,108,108]))
(G.cu.L5 n ag [] 0))))
end
def G.pF (f:Nat) (ag:Int):Option (aG):=match f with
| 0=>none
| n+1 =>
(chk (0<=(IntKind.wrap .i64 (Int.tdiv ag 4096))/\(IntKind.wrap .i64 (Int.tdiv ag 4096))<((16:Nat):Int))
(chk (0<=(Int.tmod (IntKind.wrap .i64 (Int.tdiv ag 256)) 16)/\(Int.tmod (IntKind.wrap .i64 (Int.tdiv ag 256)) 16)<((16:Nat):Int))
(chk (0<=(Int.tmod (IntKind.wrap .i64 (Int.tdiv ag 16)) 16)/\(Int.tmod (IntKind.wrap .i64 (Int.tdiv ag 16)) 16)<((16:Nat):Int))
(chk (0<=(Int.tmod ag 16)/\(Int.tmod ag 16)<((16:Nat):Int))
(chk (4<=maxLen)
(some ([UInt8.ofNat ((([48,49,50,51,52,53,54,55,56,57,97,98,99,100,101,102]:aG).getD (IntKind.wrap .i64 (Int.tdiv ag 4096)).toNat 0).toNat),UInt8.ofNat ((([48,49,50,51,52,53,54,55,56,57,97,98,99,100,101,102]:aG).getD (Int.tmod (IntKind.wrap .i64 (Int.tdiv ag 256)) 16).toNat 0).toNat),UInt8.ofNat ((([48,49,50,51,52,53,54,55,56,57,97,98,99,100,101,102]:aG).getD (Int.tmod (IntKind.wrap .i64 (Int.tdiv ag 16)) 16).toNat 0).toNat),UInt8.ofNat ((([48,49,50,51,52,53,54,55,56,57,97,98,99,100,101,102]:aG).getD (Int.tmod ag 16).toNat 0).toNat)])))))))
def G.kH.L1 (f:Nat) (ai:aG) (uT:Int) (ak:Int):Option (Int):=match f with
| 0=>none
| n+1 =>
(cond (decide (ak<((ai.length:Nat):Int)))
(chk (0<=ak/\ak<((ai.length:Nat):Int))
(G.kH.L1 n ai (Int.tmod (IntKind.wrap .i64 ((IntKind.wrap .i64 (131*uT))+(IntKind.wrap .i64 ((((ai.getD ak.toNat 0).toNat:Nat):Int))))) 65521) (IntKind.wrap .i64 (ak+1))))
(some (uT)))
def G.kH (f:Nat) (ai:aG):Option (Int):=match f with
| 0=>none
| n+1 =>
(G.kH.L1 n ai 17 0)
def G.nY (f:Nat) (ag:af):Option (aG):=match f with
| 0=>none
| n+1 =>
((G.bH n ag).bind fun v1 =>
(cond v1
((G.cu n ag).bind fun v2 =>
((G.kH n v2).bind fun v3 =>
((G.pF n v3).bind fun v4 =>
(some (v4)))))
(some ([]))))
def G.jV.L1 (f:Nat) (jW:aG) (uT:Int) (y3:List Int) (y4:Int) (z2:List aG):Option (List aG × ReaderT):=match f with
| 0=>none
| n+1 =>
(cond (decide (0<uT))
((G.fO n (ReaderT.mk y3 y4) [[42],[48,48,48,48],[49,50,97,98],[102,102,102,102],jW,jW]).bind fun v4 =>
(chk ((z2.length+1)*18<=2^46)
(G.jV.L1 n jW (IntKind.wrap .i64 (uT-1)) v4.2.b v4.2.p (z2++[v4.1]))))
(cond (decide (0<((z2.length:Nat):Int)))
((G.aC n (ReaderT.mk y3 y4) 20).bind fun v5 =>
(cond (v5.1==0)
((G.fO n v5.2 [[],[49,50,97,66],[49,50,51],[49,50,51,52,53]]).bind fun v6 =>
(chk (0<=0/\0<((z2.length:Nat):Int))
(some ((z2.set 0 v6.1),v6.2))))
(some (z2,v5.2))))
(some (z2,(ReaderT.mk y3 y4)))))
def G.jV (f:Nat) (dA:ReaderT) (jW:aG):Option (List aG × ReaderT):=match f with
| 0=>none
| n+1 =>
((G.dD n dA [0,1,0,2,0,4,5]).bind fun v1 =>
(G.jV.L1 n jW v1.1 v1.2.b v1.2.p []))
def G.kX (f:Nat) (dA:ReaderT):Option (aG × ReaderT):=match f with
| 0=>none
| n+1 =>
((G.fO n dA [[97],[98],[100,111,99],[122,122],[97,49],[109],[120,57],[98,111,111,107],[97,98,99,100,101,102,103,104],[113]]).bind fun v1 =>
(some (v1.1,v1.2)))
def G.oP (f:Nat) (dA:ReaderT) (ai:StoreT):Option (aG × ReaderT):=match f with
| 0=>none
| n+1 =>
(cond (decide (0<((ai.Items.length:Nat):Int)))
((G.aC n dA 4).bind fun v1 =>
(cond (decide (0<v1.1))
((G.aC n v1.2 ((ai.Items.length:Nat):Int)).bind fun v2 =>
(chk (0<=v2.1/\v2.1<((ai.Items.length:Nat):Int))
(some ((ai.Items.getD v2.1.toNat default).Name,v2.2))))
((G.aC n v1.2 12).bind fun v3 =>
(cond (v3.1==0)
((G.lI n v3.2).bind fun v4 =>
(some (v4.1,v4.2)))
((G.kX n v3.2).bind fun v5 =>
(some (v5.1,v5.2)))))))
((G.aC n dA 12).bind fun v6 =>
(cond (v6.1==0)
((G.lI n v6.2).bind fun v7 =>
(some (v7.1,v7.2)))
((G.kX n v6.2).bind fun v8 =>
(some (v8.1,v8.2))))))
def G.lY.L1 (f:Nat) (au:List aG) (ak:Int) (y6:Int) (y7:Int) (y8:aG) (y9:List aG) (BK:List af):Option (af × Bool):=match f with
| 0=>none
| n+1 =>
(cond (decide (ak<((au.length:Nat):Int)))
(chk (0<=ak/\ak<((au.length:Nat):Int))
((G.fB n (af.mk y6 y7 y8 y9 BK) (au.getD ak.toNat default)).bind fun v3 =>
(cond (decide (v3<0))
(some ((af.mk 0 0 [] [] []),false))
(chk (0<=v3/\v3<((BK.length:Nat):Int))
(G.lY.L1 n au (IntKind.wrap .i64 (ak+1)) ((BK.getD v3.toNat default).Kind) ((BK.getD v3.toNat default).Num) ((BK.getD v3.toNat default).Text) ((BK.getD v3.toNat default).Names) ((BK.getD v3.toNat default).Kids))))))
((G.aB n (af.mk y6 y7 y8 y9 BK)).bind fun v4 =>
(some (v4,true))))
def G.lY (f:Nat) (ag:af) (au:List aG):Option (af × Bool):=match f with
| 0=>none
| n+1 =>
(G.lY.L1 n au 0 ag.Kind ag.Num ag.Text ag.Names ag.Kids)
mutual
def G.jQ (f:Nat) (ag:af) (au:List aG) (dI:af):Option (af × Bool):=match f with
| 0=>none
| n+1 =>
(cond (((au.length:Nat):Int)==0)
((G.aB n dI).bind fun v1 =>
(some (v1,true)))
(chk (0<=0/\0<((au.length:Nat):Int))
((G.fB n ag (au.getD 0 default)).bind fun v2 =>
(cond (decide (v2<0))
(some ((af.mk 0 0 [] [] []),false))
(chk (0<=v2/\v2<((ag.Kids.length:Nat):Int))
(chk (0<=1/\1<=((au.length:Nat):Int)/\((au.length:Nat):Int)<=((au.length:Nat):Int))
((G.jQ n (ag.Kids.getD v2.toNat default) (au.drop 1) dI).bind fun v3 =>
(cond v3.2
((G.jD n ag v2 v3.1).bind fun v4 =>
(some (v4,true)))
(some ((af.mk 0 0 [] [] []),false))))))))))
end
def G.lX (f:Nat) (ag:af) (au:List aG) (dI:af):Option (af × Bool):=match f with
| 0=>none
| n+1 =>
(cond (((au.length:Nat):Int)==0)
((G.aB n dI).bind fun v1 =>
(some (v1,true)))
(chk (0<=0/\0<=(IntKind.wrap .i64 (((au.length:Nat):Int)-1))/\(IntKind.wrap .i64 (((au.length:Nat):Int)-1))<=((au.length:Nat):Int))
((G.lY n ag (au.take ((IntKind.wrap .i64 (((au.length:Nat):Int)-1)).toNat))).bind fun v2 =>
(cond v2.2
(chk (0<=(IntKind.wrap .i64 (((au.length:Nat):Int)-1))/\(IntKind.wrap .i64 (((au.length:Nat):Int)-1))<((au.length:Nat):Int))
((G.jd n v2.1 (au.getD (IntKind.wrap .i64 (((au.length:Nat):Int)-1)).toNat default) dI).bind fun v3 =>
(cond v3.2
(chk (0<=0/\0<=(IntKind.wrap .i64 (((au.length:Nat):Int)-1))/\(IntKind.wrap .i64 (((au.length:Nat):Int)-1))<=((au.length:Nat):Int))
((G.jQ n ag (au.take ((IntKind.wrap .i64 (((au.length:Nat):Int)-1)).toNat)) v3.1).bind fun v4 =>
(some (v4.1,v4.2))))
(some ((af.mk 0 0 [] [] []),false)))))
(some ((af.mk 0 0 [] [] []),false))))))
mutual
def G.gB.L7 (f:Nat) (ag:af) (ak:Int) (Gv:aG) (v6:List (List aG)) (TB:Int) (z8:List (List aG)):Option (List (List aG)):=match f with
| 0=>none
| n+1 =>
(cond (decide (TB<((v6.length:Nat):Int)))
(chk (0<=TB/\TB<((v6.length:Nat):Int))
(chk ((1+(v6.getD TB.toNat default).length)*18<=2^46)
(chk ((z8.length+1)*26<=2^46)
(G.gB.L7 n ag ak Gv v6 (IntKind.wrap .i64 (TB+1)) (z8++[([Gv]++(v6.getD TB.toNat default))])))))
(G.gB.L5 n ag (IntKind.wrap .i64 (ak+1)) z8))
def G.gB.K6 (f:Nat) (ag:af) (ak:Int) (z6:List (List aG)) (Gv:aG):Option (List (List aG)):=match f with
| 0=>none
| n+1 =>
(chk (0<=ak/\ak<((ag.Kids.length:Nat):Int))
((G.gB n (ag.Kids.getD ak.toNat default)).bind fun v6 =>
(G.gB.L7 n ag ak Gv v6 0 z6)))
def G.gB.L5 (f:Nat) (ag:af) (ak:Int) (z6:List (List aG)):Option (List (List aG)):=match f with
| 0=>none
| n+1 =>
(cond (decide (ak<((ag.Kids.length:Nat):Int)))
((G.iQ n ak).bind fun v5 =>
(cond (ag.Kind==4)
(chk (0<=ak/\ak<((ag.Names.length:Nat):Int))
(G.gB.K6 n ag ak z6 (ag.Names.getD ak.toNat default)))
(G.gB.K6 n ag ak z6 v5)))
(some (z6)))
def G.gB (f:Nat) (ag:af):Option (List (List aG)):=match f with
| 0=>none
| n+1 =>
(G.gB.L5 n ag 0 [[]])
end
def G.gG.K1 (f:Nat) (ag:af) (au:List aG) (v1:af × Bool) (z1:List af) (z2:List aG):Option (af × Bool):=match f with
| 0=>none
| n+1 =>
(chk (0<=0/\0<=(IntKind.wrap .i64 (((au.length:Nat):Int)-1))/\(IntKind.wrap .i64 (((au.length:Nat):Int)-1))<=((au.length:Nat):Int))
((G.jQ n ag (au.take ((IntKind.wrap .i64 (((au.length:Nat):Int)-1)).toNat)) (af.mk v1.1.Kind 0 [] z2 z1)).bind fun v3 =>
(some (v3.1,v3.2))))
def G.gG (f:Nat) (ag:af) (au:List aG):Option (af × Bool):=match f with
| 0=>none
| n+1 =>
(cond (decide ((IntKind.wrap .i64 (((au.length:Nat):Int)-1))<0))
(some ((af.mk 0 0 [] [] []),false))
(chk (0<=0/\0<=(IntKind.wrap .i64 (((au.length:Nat):Int)-1))/\(IntKind.wrap .i64 (((au.length:Nat):Int)-1))<=((au.length:Nat):Int))
((G.lY n ag (au.take ((IntKind.wrap .i64 (((au.length:Nat):Int)-1)).toNat))).bind fun v1 =>
(cond v1.2
(chk (0<=(IntKind.wrap .i64 (((au.length:Nat):Int)-1))/\(IntKind.wrap .i64 (((au.length:Nat):Int)-1))<((au.length:Nat):Int))
((G.fB n v1.1 (au.getD (IntKind.wrap .i64 (((au.length:Nat):Int)-1)).toNat default)).bind fun v2 =>
(cond (decide (v2<0))
(some ((af.mk 0 0 [] [] []),false))
(chk (0<=0/\0<=v2/\v2<=((v1.1.Kids.length:Nat):Int))
(chk (((v1.1.Kids.take v2.toNat).length)*86<=2^46)
(chk (0<=(IntKind.wrap .i64 (v2+1))/\(IntKind.wrap .i64 (v2+1))<=((v1.1.Kids.length:Nat):Int)/\((v1.1.Kids.length:Nat):Int)<=((v1.1.Kids.length:Nat):Int))
(chk (((v1.1.Kids.take v2.toNat).length+(v1.1.Kids.drop ((IntKind.wrap .i64 (v2+1)).toNat)).length)*86<=2^46)
(cond (v1.1.Kind==4)
(chk (0<=0/\0<=v2/\v2<=((v1.1.Names.length:Nat):Int))
(chk (((v1.1.Names.take v2.toNat).length)*18<=2^46)
(chk (0<=(IntKind.wrap .i64 (v2+1))/\(IntKind.wrap .i64 (v2+1))<=((v1.1.Names.length:Nat):Int)/\((v1.1.Names.length:Nat):Int)<=((v1.1.Names.length:Nat):Int))
(chk (((v1.1.Names.take v2.toNat).length+(v1.1.Names.drop ((IntKind.wrap .i64 (v2+1)).toNat)).length)*18<=2^46)
(G.gG.K1 n ag au v1 ((v1.1.Kids.take v2.toNat)++(v1.1.Kids.drop ((IntKind.wrap .i64 (v2+1)).toNat))) ((v1.1.Names.take v2.toNat)++(v1.1.Names.drop ((IntKind.wrap .i64 (v2+1)).toNat))))))))
(G.gG.K1 n ag au v1 ((v1.1.Kids.take v2.toNat)++(v1.1.Kids.drop ((IntKind.wrap .i64 (v2+1)).toNat))) [])))))))))
(some ((af.mk 0 0 [] [] []),false))))))
def G.jA.K1 (f:Nat) (ag:af) (Oc:Bool) (y1:List Int) (y2:Int) (y3:Int) (y4:Int) (y5:aG) (y6:List aG) (y7:List af):Option (af × ReaderT):=match f with
| 0=>none
| n+1 =>
(cond Oc
((G.bH n (af.mk y3 y4 y5 y6 y7)).bind fun v12 =>
(cond v12
(some ((af.mk y3 y4 y5 y6 y7),(ReaderT.mk y1 y2)))
((G.aB n ag).bind fun v13 =>
(some (v13,(ReaderT.mk y1 y2))))))
((G.aB n ag).bind fun v14 =>
(some (v14,(ReaderT.mk y1 y2)))))
def G.jA (f:Nat) (dA:ReaderT) (ag:af):Option (af × ReaderT):=match f with
| 0=>none
| n+1 =>
((G.gB n ag).bind fun v1 =>
((G.aC n dA ((v1.length:Nat):Int)).bind fun v2 =>
(chk (0<=v2.1/\v2.1<((v1.length:Nat):Int))
((G.aB n ag).bind fun v3 =>
((G.aC n v2.2 5).bind fun v15 =>
(cond (v15.1==0)
((G.gG n ag (v1.getD v2.1.toNat default)).bind fun v16 =>
(G.jA.K1 n ag v16.2 v15.2.b v15.2.p v16.1.Kind v16.1.Num v16.1.Text v16.1.Names v16.1.Kids))
(cond (v15.1==1)
(chk (((v1.getD v2.1.toNat default).length)*18<=2^46)
((G.fO n v15.2 [[97],[48],[45],[122]]).bind fun v17 =>
(chk (((v1.getD v2.1.toNat default).length+1)*18<=2^46)
((G.aS n v17.2 2).bind fun v18 =>
((G.lX n ag ((v1.getD v2.1.toNat default)++[v17.1]) v18.1).bind fun v19 =>
(G.jA.K1 n ag v19.2 v18.2.b v18.2.p v19.1.Kind v19.1.Num v19.1.Text v19.1.Names v19.1.Kids))))))
(cond (v15.1==2)
((G.aS n v15.2 2).bind fun v20 =>
((G.jQ n ag (v1.getD v2.1.toNat default) v20.1).bind fun v21 =>
(G.jA.K1 n ag v21.2 v20.2.b v20.2.p v21.1.Kind v21.1.Num v21.1.Text v21.1.Names v21.1.Kids)))
(cond (v15.1==3)
((G.fH n v15.2).bind fun v22 =>
(some (v22.1,v22.2)))
(G.jA.K1 n ag true v15.2.b v15.2.p v3.Kind v3.Num v3.Text v3.Names v3.Kids))))))))))
def G.nS (f:Nat) (ag:af):Option (List (List aG)):=match f with
| 0=>none
| n+1 =>
((G.bH n ag).bind fun v1 =>
(cond v1
((G.gB n ag).bind fun v2 =>
(some (v2)))
(some ([]))))
def G.jU.L1 (f:Nat) (uT:Int) (y3:List Int) (y4:Int) (z2:List aG):Option (List aG × ReaderT):=match f with
| 0=>none
| n+1 =>
(cond (decide (0<uT))
((G.fO n (ReaderT.mk y3 y4) [[97],[98],[48],[49],[45],[97,47,98],[126,120],[],[99]]).bind fun v4 =>
(chk ((z2.length+1)*18<=2^46)
(G.jU.L1 n (IntKind.wrap .i64 (uT-1)) v4.2.b v4.2.p (z2++[v4.1]))))
(cond (decide (0<((z2.length:Nat):Int)))
((G.aC n (ReaderT.mk y3 y4) 20).bind fun v5 =>
(cond (v5.1==0)
((G.fO n v5.2 [[97,98,99,100,101,102,103,104,105,106,107,108,109],[10]]).bind fun v6 =>
(chk (0<=0/\0<((z2.length:Nat):Int))
(some ((z2.set 0 v6.1),v6.2))))
(some (z2,v5.2))))
(some (z2,(ReaderT.mk y3 y4)))))
def G.jU (f:Nat) (dA:ReaderT):Option (List aG × ReaderT):=match f with
| 0=>none
| n+1 =>
((G.dD n dA [1,2,1,0,3,5,6]).bind fun v1 =>
(G.jU.L1 n v1.1 v1.2.b v1.2.p []))
def G.oI (f:Nat) (dA:ReaderT) (ag:af):Option (List aG × ReaderT):=match f with
| 0=>none
| n+1 =>
((G.nS n ag).bind fun v1 =>
(cond (decide (0<((v1.length:Nat):Int)))
((G.aC n dA 4).bind fun v2 =>
(cond (decide (0<v2.1))
((G.aC n v2.2 ((v1.length:Nat):Int)).bind fun v3 =>
(chk (0<=v3.1/\v3.1<((v1.length:Nat):Int))
(some ((v1.getD v3.1.toNat default),v3.2))))
((G.jU n v2.2).bind fun v4 =>
(some (v4.1,v4.2)))))
((G.jU n dA).bind fun v5 =>
(some (v5.1,v5.2)))))
def G.bD.K4 (f:Nat) (v1:Int × ReaderT) (v2:List aG × ReaderT) (y3:List aG) (y4:Int) (y5:Int) (y6:aG) (y7:List aG) (y8:List af) (ZE:Bool) (y9:List Int) (BK:Int):Option (nO × ReaderT):=match f with
| 0=>none
| n+1 =>
(cond ZE
(chk (v2.1.length*18<=2^46)
((G.fO n (ReaderT.mk y9 BK) [[122],[45],[48],[101]]).bind fun v10 =>
(chk ((v2.1.length+1)*18<=2^46)
(some ((nO.mk (IntKind.wrap .i64 (1+v1.1)) (v2.1++[v10.1]) y3 (af.mk y4 y5 y6 y7 y8)),v10.2)))))
(some ((nO.mk (IntKind.wrap .i64 (1+v1.1)) v2.1 y3 (af.mk y4 y5 y6 y7 y8)),(ReaderT.mk y9 BK))))
def G.bD.K3 (f:Nat) (v1:Int × ReaderT) (v2:List aG × ReaderT) (y1:List Int) (y2:Int) (y3:List aG) (y4:Int) (y5:Int) (y6:aG) (y7:List aG) (y8:List af):Option (nO × ReaderT):=match f with
| 0=>none
| n+1 =>
(cond (decide (((v2.1.length:Nat):Int)<4))
(cond ((IntKind.wrap .i64 (1+v1.1))==1)
((G.aC n (ReaderT.mk y1 y2) 2).bind fun v11 =>
(G.bD.K4 n v1 v2 y3 y4 y5 y6 y7 y8 (v11.1==0) v11.2.b v11.2.p))
(cond ((IntKind.wrap .i64 (1+v1.1))==4)
((G.aC n (ReaderT.mk y1 y2) 2).bind fun v12 =>
(G.bD.K4 n v1 v2 y3 y4 y5 y6 y7 y8 (v12.1==0) v12.2.b v12.2.p))
(cond ((IntKind.wrap .i64 (1+v1.1))==5)
((G.aC n (ReaderT.mk y1 y2) 2).bind fun v13 =>
(G.bD.K4 n v1 v2 y3 y4 y5 y6 y7 y8 (v13.1==0) v13.2.b v13.2.p))
(G.bD.K4 n v1 v2 y3 y4 y5 y6 y7 y8 false y1 y2))))
(G.bD.K4 n v1 v2 y3 y4 y5 y6 y7 y8 false y1 y2))
def G.bD.K6 (f:Nat) (ag:af) (v1:Int × ReaderT) (v2:List aG × ReaderT) (ZF:Bool):Option (nO × ReaderT):=match f with
| 0=>none
| n+1 =>
(cond ZF
((G.oI n v2.2 ag).bind fun v17 =>
(G.bD.K3 n v1 v2 v17.2.b v17.2.p v17.1 0 0 [] [] []))
(G.bD.K3 n v1 v2 v2.2.b v2.2.p [] 0 0 [] [] []))
def G.bD.K5 (f:Nat) (ag:af) (v1:Int × ReaderT) (v2:List aG × ReaderT) (vN:Bool):Option (nO × ReaderT):=match f with
| 0=>none
| n+1 =>
(cond vN
((G.aS n v2.2 2).bind fun v14 =>
(G.bD.K3 n v1 v2 v14.2.b v14.2.p [] v14.1.Kind v14.1.Num v14.1.Text v14.1.Names v14.1.Kids))
(cond ((IntKind.wrap .i64 (1+v1.1))==6)
((G.lY n ag v2.1).bind fun v15 =>
(cond v15.2
((G.aC n v2.2 3).bind fun v16 =>
(cond (decide (0<v16.1))
(G.bD.K3 n v1 v2 v16.2.b v16.2.p [] v15.1.Kind v15.1.Num v15.1.Text v15.1.Names v15.1.Kids)
(G.bD.K3 n v1 v2 v16.2.b v16.2.p [] 0 0 [] [] [])))
(G.bD.K3 n v1 v2 v2.2.b v2.2.p [] 0 0 [] [] [])))
(cond ((IntKind.wrap .i64 (1+v1.1))==4)
(G.bD.K6 n ag v1 v2 true)
(G.bD.K6 n ag v1 v2 ((IntKind.wrap .i64 (1+v1.1))==5)))))
def G.bD (f:Nat) (dA:ReaderT) (ag:af):Option (nO × ReaderT):=match f with
| 0=>none
| n+1 =>
((G.aC n dA 6).bind fun v1 =>
((G.oI n v1.2 ag).bind fun v2 =>
(cond ((IntKind.wrap .i64 (1+v1.1))==1)
(G.bD.K5 n ag v1 v2 true)
(G.bD.K5 n ag v1 v2 ((IntKind.wrap .i64 (1+v1.1))==3)))))
def G.aI.K4 (f:Nat) (v1:aG × ReaderT) (v2:aA × Bool) (v3:Int × ReaderT) (y3:List aG) (y6:List aG) (Oi:List Int) (Oj:Int) (y13:Int) (JH:Int) (I5:aG) (VT:List aG) (TD:List af) (z3:List nO):Option (RequestT × ReaderT):=match f with
| 0=>none
| n+1 =>
(cond v2.2
(some ((RequestT.mk (IntKind.wrap .i64 (1+v3.1)) v1.1 y3 y6 (af.mk y13 JH I5 VT TD) z3),(ReaderT.mk Oi Oj)))
((G.aC n (ReaderT.mk Oi Oj) 2).bind fun v16 =>
(cond (v16.1==0)
(some ((RequestT.mk 2 v1.1 y3 y6 (af.mk y13 JH I5 VT TD) z3),v16.2))
(some ((RequestT.mk (IntKind.wrap .i64 (1+v3.1)) v1.1 y3 y6 (af.mk y13 JH I5 VT TD) z3),v16.2)))))
def G.aI.L5 (f:Nat) (v1:aG × ReaderT) (v2:aA × Bool) (v3:Int × ReaderT) (y3:List aG) (y6:List aG) (Y0:Int) (y20:List Int) (y21:Int) (z5:List nO):Option (RequestT × ReaderT):=match f with
| 0=>none
| n+1 =>
(cond (decide (0<Y0))
((G.bD n (ReaderT.mk y20 y21) v2.1.Node).bind fun v22 =>
(chk ((z5.length+1)*145<=2^46)
(G.aI.L5 n v1 v2 v3 y3 y6 (IntKind.wrap .i64 (Y0-1)) v22.2.b v22.2.p (z5++[v22.1]))))
(G.aI.K4 n v1 v2 v3 y3 y6 y20 y21 0 0 [] [] [] z5))
def G.aI.K2 (f:Nat) (v1:aG × ReaderT) (v2:aA × Bool) (v3:Int × ReaderT) (y3:List aG) (y4:List Int) (y5:Int) (y6:List aG):Option (RequestT × ReaderT):=match f with
| 0=>none
| n+1 =>
(cond ((IntKind.wrap .i64 (1+v3.1))==2)
((G.fH n (ReaderT.mk y4 y5)).bind fun v17 =>
(G.aI.K4 n v1 v2 v3 y3 y6 v17.2.b v17.2.p v17.1.Kind v17.1.Num v17.1.Text v17.1.Names v17.1.Kids []))
(cond ((IntKind.wrap .i64 (1+v3.1))==5)
((G.jA n (ReaderT.mk y4 y5) v2.1.Node).bind fun v18 =>
(G.aI.K4 n v1 v2 v3 y3 y6 v18.2.b v18.2.p v18.1.Kind v18.1.Num v18.1.Text v18.1.Names v18.1.Kids []))
(cond ((IntKind.wrap .i64 (1+v3.1))==4)
((G.aC n (ReaderT.mk y4 y5) 3).bind fun v19 =>
(G.aI.L5 n v1 v2 v3 y3 y6 v19.1 v19.2.b v19.2.p []))
(G.aI.K4 n v1 v2 v3 y3 y6 y4 y5 0 0 [] [] [] []))))
def G.aI.K1 (f:Nat) (v1:aG × ReaderT) (v2:aA × Bool) (v3:Int × ReaderT) (y1:List Int) (y2:Int) (y3:List aG):Option (RequestT × ReaderT):=match f with
| 0=>none
| n+1 =>
((G.aC n (ReaderT.mk y1 y2) 4).bind fun v23 =>
(cond (v23.1==0)
((G.nY n v2.1.Node).bind fun v24 =>
((G.jV n v23.2 v24).bind fun v25 =>
(G.aI.K2 n v1 v2 v3 y3 v25.2.b v25.2.p v25.1)))
(G.aI.K2 n v1 v2 v3 y3 v23.2.b v23.2.p [])))
def G.aI (f:Nat) (dA:ReaderT) (ai:StoreT):Option (RequestT × ReaderT):=match f with
| 0=>none
| n+1 =>
((G.oP n dA ai).bind fun v1 =>
((G.nK n ai v1.1).bind fun v2 =>
((G.aC n v1.2 5).bind fun v3 =>
((G.aC n v3.2 3).bind fun v26 =>
(cond (v26.1==0)
((G.nY n v2.1.Node).bind fun v27 =>
((G.jV n v26.2 v27).bind fun v28 =>
(G.aI.K1 n v1 v2 v3 v28.2.b v28.2.p v28.1)))
(G.aI.K1 n v1 v2 v3 v26.2.b v26.2.p []))))))
def G.lu (f:Nat) (dA:ReaderT) (ai:StoreT):Option (RequestT × ReaderT):=match f with
| 0=>none
| n+1 =>
((G.aI n dA ai).bind fun v1 =>
((G.aC n v1.2 30).bind fun v2 =>
(cond (v2.1==0)
((G.dD n v2.2 [0,6]).bind fun v3 =>
(some ((RequestT.mk v3.1 v1.1.Name v1.1.Want v1.1.lT v1.1.Body v1.1.Ops),v3.2)))
(cond (v2.1==1)
((G.lI n v2.2).bind fun v4 =>
(some ((RequestT.mk v1.1.Method v4.1 v1.1.Want v1.1.lT v1.1.Body v1.1.Ops),v4.2)))
(cond (v2.1==2)
((G.jI n v2.2).bind fun v5 =>
(some ((RequestT.mk v1.1.Method v1.1.Name v1.1.Want v1.1.lT v5.1 v1.1.Ops),v5.2)))
(some (v1.1,v2.2)))))))
def G.jF.L1 (f:Nat) (ai:StoreT) (aQ:aG) (v1:StoreT) (ak:Int) (z2:List aA):Option (StoreT):=match f with
| 0=>none
| n+1 =>
(cond (decide (ak<((v1.Items.length:Nat):Int)))
(chk (0<=ak/\ak<((v1.Items.length:Nat):Int))
(cond ((v1.Items.getD ak.toNat default).Name==aQ)
(G.jF.L1 n ai aQ v1 (IntKind.wrap .i64 (ak+1)) z2)
(chk (0<=ak/\ak<((v1.Items.length:Nat):Int))
(chk ((z2.length+1)*112<=2^46)
(G.jF.L1 n ai aQ v1 (IntKind.wrap .i64 (ak+1)) (z2++[(aA.mk ((v1.Items.getD ak.toNat default).Name) ((v1.Items.getD ak.toNat default).Version) ((v1.Items.getD ak.toNat default).Node))]))))))
(some ((StoreT.mk z2 (IntKind.wrap .i64 (ai.Clock+1))))))
def G.jF (f:Nat) (ai:StoreT) (aQ:aG):Option (StoreT):=match f with
| 0=>none
| n+1 =>
((G.aU n ai).bind fun v1 =>
(G.jF.L1 n ai aQ v1 0 []))
def G.oL (f:Nat) (ai:StoreT) (aQ:aG):Option (StoreT × Bool):=match f with
| 0=>none
| n+1 =>
((G.aY n ai).bind fun v1 =>
(cond v1
((G.jq n ai aQ).bind fun v2 =>
(cond (decide (v2<0))
(some ((StoreT.mk [] 0),false))
(cond (ai.Clock==999)
(some ((StoreT.mk [] 0),false))
((G.jF n ai aQ).bind fun v3 =>
(some (v3,true))))))
(some ((StoreT.mk [] 0),false))))
mutual
def G.gZ.K4 (f:Nat) (ai:StoreT) (aQ:aG) (v1:af) (v2:StoreT) (ak:Int) (QL:Bool) (z5:List aA):Option (StoreT):=match f with
| 0=>none
| n+1 =>
(chk (0<=ak/\ak<((v2.Items.length:Nat):Int))
(cond ((v2.Items.getD ak.toNat default).Name==aQ)
(G.gZ.L3 n ai aQ v1 v2 QL (IntKind.wrap .i64 (ak+1)) z5)
(chk (0<=ak/\ak<((v2.Items.length:Nat):Int))
(chk ((z5.length+1)*112<=2^46)
(G.gZ.L3 n ai aQ v1 v2 QL (IntKind.wrap .i64 (ak+1)) (z5++[(aA.mk ((v2.Items.getD ak.toNat default).Name) ((v2.Items.getD ak.toNat default).Version) ((v2.Items.getD ak.toNat default).Node))]))))))
def G.gZ.L3 (f:Nat) (ai:StoreT) (aQ:aG) (v1:af) (v2:StoreT) (QJ:Bool) (ak:Int) (z4:List aA):Option (StoreT):=match f with
| 0=>none
| n+1 =>
(cond (decide (ak<((v2.Items.length:Nat):Int)))
(cond QJ
(G.gZ.K4 n ai aQ v1 v2 ak true z4)
(chk (0<=ak/\ak<((v2.Items.length:Nat):Int))
(cond (Op.bytesLess ((v2.Items.getD ak.toNat default).Name) aQ)
(G.gZ.K4 n ai aQ v1 v2 ak false z4)
(chk ((z4.length+1)*112<=2^46)
(G.gZ.K4 n ai aQ v1 v2 ak true (z4++[(aA.mk aQ (IntKind.wrap .i64 (ai.Clock+1)) v1)]))))))
(cond QJ
(some ((StoreT.mk z4 (IntKind.wrap .i64 (ai.Clock+1)))))
(chk ((z4.length+1)*112<=2^46)
(some ((StoreT.mk (z4++[(aA.mk aQ (IntKind.wrap .i64 (ai.Clock+1)) v1)]) (IntKind.wrap .i64 (ai.Clock+1))))))))
end
def G.gZ (f:Nat) (ai:StoreT) (aQ:aG) (ag:af):Option (StoreT):=match f with
| 0=>none
| n+1 =>
((G.aB n ag).bind fun v1 =>
((G.aU n ai).bind fun v2 =>
(G.gZ.L3 n ai aQ v1 v2 false 0 [])))
def G.o9 (f:Nat) (ai:StoreT) (aQ:aG) (ag:af):Option (StoreT × Bool):=match f with
| 0=>none
| n+1 =>
((G.aY n ai).bind fun v1 =>
(cond v1
((G.eF n aQ).bind fun v2 =>
(cond v2
((G.bH n ag).bind fun v3 =>
(cond v3
((G.gZ n ai aQ ag).bind fun v4 =>
((G.aY n v4).bind fun v5 =>
(cond v5
(some (v4,true))
(some ((StoreT.mk [] 0),false)))))
(some ((StoreT.mk [] 0),false))))
(some ((StoreT.mk [] 0),false))))
(some ((StoreT.mk [] 0),false))))
mutual
def G.fC.K4 (f:Nat) (uT:Int) (I5:List aA) (VT:Int) (BR:Bool) (TD:List Int) (Xi:Int) (XB:List aA) (y20:Int):Option (StoreT × ReaderT):=match f with
| 0=>none
| n+1 =>
(cond BR
(G.fC.L3 n (IntKind.wrap .i64 (uT-1)) TD Xi XB y20)
(G.fC.L3 n (IntKind.wrap .i64 (uT-1)) TD Xi I5 VT))
def G.fC.L3 (f:Nat) (uT:Int) (y13:List Int) (JH:Int) (I5:List aA) (VT:Int):Option (StoreT × ReaderT):=match f with
| 0=>none
| n+1 =>
(cond (decide (0<uT))
((G.kX n (ReaderT.mk y13 JH)).bind fun v20 =>
((G.fH n v20.2).bind fun v21 =>
((G.o9 n (StoreT.mk I5 VT) v20.1 v21.1).bind fun v22 =>
((G.aC n v21.2 8).bind fun v26 =>
(cond (v26.1==0)
((G.kX n v26.2).bind fun v27 =>
((G.oL n (StoreT.mk I5 VT) v27.1).bind fun v28 =>
(G.fC.K4 n uT I5 VT v28.2 v27.2.b v27.2.p v28.1.Items v28.1.Clock)))
(G.fC.K4 n uT I5 VT v22.2 v26.2.b v26.2.p v22.1.Items v22.1.Clock))))))
(some ((StoreT.mk I5 VT),(ReaderT.mk y13 JH))))
end
def G.fC (f:Nat) (dA:ReaderT):Option (StoreT × ReaderT):=match f with
| 0=>none
| n+1 =>
((G.dD n dA [3,4,2,5,0,12]).bind fun v1 =>
(G.fC.L3 n v1.1 v1.2.b v1.2.p [] 0))
def G.mM (f:Nat) (dA:ReaderT):Option (StoreT × ReaderT):=match f with
| 0=>none
| n+1 =>
((G.fC n dA).bind fun v1 =>
((G.aC n v1.2 30).bind fun v2 =>
(cond (v2.1==0)
((G.dD n v2.2 [0,999,1000,(-1)]).bind fun v3 =>
(some ((StoreT.mk v1.1.Items v3.1),v3.2)))
(cond (v2.1==1)
((G.lI n v2.2).bind fun v4 =>
(chk ((v1.1.Items.length+1)*112<=2^46)
(some ((StoreT.mk (v1.1.Items++[(aA.mk v4.1 1 (af.mk 0 0 [] [] []))]) v1.1.Clock),v4.2))))
(cond (v2.1==2)
(cond (decide (0<((v1.1.Items.length:Nat):Int)))
((G.dD n v2.2 [0,(IntKind.wrap .i64 (v1.1.Clock+1)),1]).bind fun v5 =>
(chk (0<=0/\0<((v1.1.Items.length:Nat):Int))
(some ((StoreT.mk (v1.1.Items.set 0 (aA.mk ((v1.1.Items.getD 0 default).Name) v5.1 ((v1.1.Items.getD 0 default).Node))) v1.1.Clock),v5.2))))
(some (v1.1,v2.2)))
(cond (v2.1==3)
(cond (decide (0<((v1.1.Items.length:Nat):Int)))
((G.jI n v2.2).bind fun v6 =>
(chk (0<=0/\0<((v1.1.Items.length:Nat):Int))
(some ((StoreT.mk (v1.1.Items.set 0 (aA.mk ((v1.1.Items.getD 0 default).Name) ((v1.1.Items.getD 0 default).Version) v6.1)) v1.1.Clock),v6.2))))
(some (v1.1,v2.2)))
(some (v1.1,v2.2))))))))
def G.kR (f:Nat) (dw:List Int):Option (ReaderT):=match f with
| 0=>none
| n+1 =>
(cond (decide (2000<((dw.length:Nat):Int)))
(chk (0<=0/\0<=2000/\2000<=((dw.length:Nat):Int))
(some ((ReaderT.mk (dw.take 2000) 0))))
(some ((ReaderT.mk dw 0))))
def G.jh (f:Nat) (nT:Int):Option (aj):=match f with
| 0=>none
| n+1 =>
(some ((aj.mk nT [] 0 (af.mk 0 0 [] [] []))))
def G.jM.L1 (f:Nat) (au:List aG) (tY:List aG) (ak:Int):Option (Bool):=match f with
| 0=>none
| n+1 =>
(cond (decide (ak<((tY.length:Nat):Int)))
(cond (decide (((au.length:Nat):Int)<=ak))
(some (false))
(chk (0<=ak/\ak<((au.length:Nat):Int))
(chk (0<=ak/\ak<((tY.length:Nat):Int))
(cond ((au.getD ak.toNat default)==(tY.getD ak.toNat default))
(G.jM.L1 n au tY (IntKind.wrap .i64 (ak+1)))
(some (false))))))
(some (true)))
def G.jM (f:Nat) (au:List aG) (tY:List aG):Option (Bool):=match f with
| 0=>none
| n+1 =>
(G.jM.L1 n au tY 0)
def G.jv (f:Nat) (cZ:Bool):Option (Int):=match f with
| 0=>none
| n+1 =>
(cond cZ
(some (1))
(some (0)))
def G.lN (f:Nat) (bW:Int) (cZ:Int):Option (Int):=match f with
| 0=>none
| n+1 =>
((G.jv n (decide (cZ<bW))).bind fun v1 =>
((G.jv n (decide (bW<cZ))).bind fun v2 =>
(some ((IntKind.wrap .i64 (v1-v2))))))
def G.kG (f:Nat) (bW:aG) (cZ:aG):Option (Int):=match f with
| 0=>none
| n+1 =>
(cond (Op.bytesLess bW cZ)
((G.jv n false).bind fun v1 =>
((G.jv n true).bind fun v2 =>
(some ((IntKind.wrap .i64 (v1-v2))))))
(cond (bW==cZ)
((G.jv n false).bind fun v3 =>
((G.jv n false).bind fun v4 =>
(some ((IntKind.wrap .i64 (v3-v4))))))
((G.jv n true).bind fun v5 =>
((G.jv n false).bind fun v6 =>
(some ((IntKind.wrap .i64 (v5-v6))))))))
mutual
def G.dU.L1 (f:Nat) (bW:af) (cZ:af) (ak:Int):Option (Int):=match f with
| 0=>none
| n+1 =>
(cond (decide (ak<((bW.Kids.length:Nat):Int)))
(cond (decide (ak<((cZ.Kids.length:Nat):Int)))
(cond (bW.Kind==4)
(chk (0<=ak/\ak<((bW.Names.length:Nat):Int))
(chk (0<=ak/\ak<((cZ.Names.length:Nat):Int))
(cond ((bW.Names.getD ak.toNat default)==(cZ.Names.getD ak.toNat default))
(chk (0<=ak/\ak<((bW.Kids.length:Nat):Int))
(chk (0<=ak/\ak<((cZ.Kids.length:Nat):Int))
((G.dU n (bW.Kids.getD ak.toNat default) (cZ.Kids.getD ak.toNat default)).bind fun v9 =>
(cond (v9 != 0)
(some (v9))
(G.dU.L1 n bW cZ (IntKind.wrap .i64 (ak+1)))))))
(chk (0<=ak/\ak<((bW.Names.length:Nat):Int))
(chk (0<=ak/\ak<((cZ.Names.length:Nat):Int))
((G.kG n (bW.Names.getD ak.toNat default) (cZ.Names.getD ak.toNat default)).bind fun v10 =>
(some (v10))))))))
(chk (0<=ak/\ak<((bW.Kids.length:Nat):Int))
(chk (0<=ak/\ak<((cZ.Kids.length:Nat):Int))
((G.dU n (bW.Kids.getD ak.toNat default) (cZ.Kids.getD ak.toNat default)).bind fun v11 =>
(cond (v11 != 0)
(some (v11))
(G.dU.L1 n bW cZ (IntKind.wrap .i64 (ak+1))))))))
((G.lN n ((bW.Kids.length:Nat):Int) ((cZ.Kids.length:Nat):Int)).bind fun v12 =>
(some (v12))))
((G.lN n ((bW.Kids.length:Nat):Int) ((cZ.Kids.length:Nat):Int)).bind fun v13 =>
(some (v13))))
def G.dU (f:Nat) (bW:af) (cZ:af):Option (Int):=match f with
| 0=>none
| n+1 =>
(cond (bW.Kind != cZ.Kind)
((G.lN n bW.Kind cZ.Kind).bind fun v1 =>
(some (v1)))
(cond (bW.Num != cZ.Num)
((G.lN n bW.Num cZ.Num).bind fun v2 =>
(some (v2)))
(cond (bW.Text==cZ.Text)
(G.dU.L1 n bW cZ 0)
((G.kG n bW.Text cZ.Text).bind fun v14 =>
(some (v14))))))
end
def G.pJ (f:Nat) (bW:af) (cZ:af):Option (Bool):=match f with
| 0=>none
| n+1 =>
((G.dU n bW cZ).bind fun v1 =>
(some ((v1==0))))
def G.iY.K1 (f:Nat) (ag:af) (jH:nO) (Xh:List aG):Option (af × Bool):=match f with
| 0=>none
| n+1 =>
((G.lY n ag Xh).bind fun v4 =>
(cond v4.2
(cond (jH.Kind==6)
((G.pJ n v4.1 jH.Value).bind fun v5 =>
(some (ag,v5)))
(cond (jH.Kind==5)
((G.lX n ag jH.Path v4.1).bind fun v6 =>
(some (v6.1,v6.2)))
((G.jM n jH.Path jH.From).bind fun v7 =>
(cond v7
((G.aB n ag).bind fun v8 =>
(some (v8,(((jH.Path.length:Nat):Int)==((jH.From.length:Nat):Int)))))
((G.gG n ag jH.From).bind fun v9 =>
(cond v9.2
((G.lX n v9.1 jH.Path v4.1).bind fun v10 =>
(some (v10.1,v10.2)))
(some ((af.mk 0 0 [] [] []),false))))))))
(some ((af.mk 0 0 [] [] []),false))))
def G.iY (f:Nat) (ag:af) (jH:nO):Option (af × Bool):=match f with
| 0=>none
| n+1 =>
(cond (jH.Kind==1)
((G.lX n ag jH.Path jH.Value).bind fun v1 =>
(some (v1.1,v1.2)))
(cond (jH.Kind==2)
((G.gG n ag jH.Path).bind fun v2 =>
(some (v2.1,v2.2)))
(cond (jH.Kind==3)
((G.jQ n ag jH.Path jH.Value).bind fun v3 =>
(some (v3.1,v3.2)))
(cond (jH.Kind==6)
(G.iY.K1 n ag jH jH.Path)
(G.iY.K1 n ag jH jH.From)))))
def G.kV (f:Nat) (ag:af) (zV:Bool):Option (af × Bool):=match f with
| 0=>none
| n+1 =>
(cond zV
((G.bH n ag).bind fun v1 =>
(cond v1
(some (ag,true))
(some ((af.mk 0 0 [] [] []),false))))
(some ((af.mk 0 0 [] [] []),false)))
def G.lH (f:Nat) (ag:af) (jH:nO):Option (af × Bool):=match f with
| 0=>none
| n+1 =>
((G.iY n ag jH).bind fun v1 =>
((G.kV n v1.1 v1.2).bind fun v2 =>
(cond v2.2
((G.aB n v2.1).bind fun v3 =>
(some (v3,true)))
(some ((af.mk 0 0 [] [] []),false)))))
def G.gW.L1 (f:Nat) (au:List aG) (ak:Int):Option (Bool):=match f with
| 0=>none
| n+1 =>
(cond (decide (ak<((au.length:Nat):Int)))
(chk (0<=ak/\ak<((au.length:Nat):Int))
((G.eU n (au.getD ak.toNat default)).bind fun v3 =>
(cond v3
(G.gW.L1 n au (IntKind.wrap .i64 (ak+1)))
(some (false)))))
(some ((decide (((au.length:Nat):Int)<=5)))))
def G.gW (f:Nat) (au:List aG):Option (Bool):=match f with
| 0=>none
| n+1 =>
(G.gW.L1 n au 0)
def G.nM (f:Nat) (jH:nO):Option (Bool):=match f with
| 0=>none
| n+1 =>
((G.dW n jH.Kind 1 6).bind fun v1 =>
(cond v1
((G.gW n jH.Path).bind fun v2 =>
(cond v2
((G.gW n jH.From).bind fun v3 =>
(cond v3
((G.bH n jH.Value).bind fun v4 =>
(some (v4)))
(some (false))))
(some (false))))
(some (false))))
def G.fA.L1 (f:Nat) (ah:List nO) (ak:Int):Option (Bool):=match f with
| 0=>none
| n+1 =>
(cond (decide (ak<((ah.length:Nat):Int)))
(chk (0<=ak/\ak<((ah.length:Nat):Int))
((G.nM n (nO.mk ((ah.getD ak.toNat default).Kind) ((ah.getD ak.toNat default).Path) ((ah.getD ak.toNat default).From) ((ah.getD ak.toNat default).Value))).bind fun v3 =>
(cond v3
(G.fA.L1 n ah (IntKind.wrap .i64 (ak+1)))
(some (false)))))
(some ((decide (((ah.length:Nat):Int)<=12)))))
def G.fA (f:Nat) (ah:List nO):Option (Bool):=match f with
| 0=>none
| n+1 =>
(G.fA.L1 n ah 0)
def G.fZ.L1 (f:Nat) (ah:List nO) (ak:Int) (y6:Int) (y7:Int) (y8:aG) (y9:List aG) (BK:List af):Option (af × Bool):=match f with
| 0=>none
| n+1 =>
(cond (decide (ak<((ah.length:Nat):Int)))
(chk (0<=ak/\ak<((ah.length:Nat):Int))
((G.lH n (af.mk y6 y7 y8 y9 BK) (nO.mk ((ah.getD ak.toNat default).Kind) ((ah.getD ak.toNat default).Path) ((ah.getD ak.toNat default).From) ((ah.getD ak.toNat default).Value))).bind fun v6 =>
(cond v6.2
(G.fZ.L1 n ah (IntKind.wrap .i64 (ak+1)) v6.1.Kind v6.1.Num v6.1.Text v6.1.Names v6.1.Kids)
(some ((af.mk 0 0 [] [] []),false)))))
(some ((af.mk y6 y7 y8 y9 BK),true)))
def G.fZ (f:Nat) (ag:af) (ah:List nO):Option (af × Bool):=match f with
| 0=>none
| n+1 =>
((G.bH n ag).bind fun v1 =>
(cond v1
((G.fA n ah).bind fun v2 =>
(cond v2
((G.aB n ag).bind fun v3 =>
(G.fZ.L1 n ah 0 v3.Kind v3.Num v3.Text v3.Names v3.Kids))
(some ((af.mk 0 0 [] [] []),false))))
(some ((af.mk 0 0 [] [] []),false))))
mutual
def G.gy.L2 (f:Nat) (bz:af) (ak:Int) (Oi:Int) (Oj:Int) (y13:aG) (JH:List aG) (I5:List af):Option (af):=match f with
| 0=>none
| n+1 =>
(cond (decide (ak<((bz.Kids.length:Nat):Int)))
(chk (0<=ak/\ak<((bz.Names.length:Nat):Int))
((G.fB n (af.mk Oi Oj y13 JH I5) (bz.Names.getD ak.toNat default)).bind fun v19 =>
(chk (0<=ak/\ak<((bz.Kids.length:Nat):Int))
(cond ((bz.Kids.getD ak.toNat default).Kind==0)
(cond (decide (0<=v19))
((G.gG n (af.mk Oi Oj y13 JH I5) [(bz.Names.getD ak.toNat default)]).bind fun v20 =>
(G.gy.L2 n bz (IntKind.wrap .i64 (ak+1)) v20.1.Kind v20.1.Num v20.1.Text v20.1.Names v20.1.Kids))
(chk (0<=ak/\ak<((bz.Kids.length:Nat):Int))
(cond ((bz.Kids.getD ak.toNat default).Kind != 0)
(chk (0<=ak/\ak<((bz.Kids.length:Nat):Int))
(chk (0<=ak/\ak<((bz.Kids.length:Nat):Int))
((G.gy n (af.mk 0 0 [] [] []) (bz.Kids.getD ak.toNat default)).bind fun v21 =>
((G.jd n (af.mk Oi Oj y13 JH I5) (bz.Names.getD ak.toNat default) v21).bind fun v22 =>
(G.gy.L2 n bz (IntKind.wrap .i64 (ak+1)) v22.1.Kind v22.1.Num v22.1.Text v22.1.Names v22.1.Kids)))))
(chk (0<=ak/\ak<((bz.Kids.length:Nat):Int))
(G.gy.L2 n bz (IntKind.wrap .i64 (ak+1)) Oi Oj y13 JH I5)))))
(chk (0<=ak/\ak<((bz.Kids.length:Nat):Int))
(cond ((bz.Kids.getD ak.toNat default).Kind != 0)
(cond (decide (0<=v19))
(chk (0<=v19/\v19<((I5.length:Nat):Int))
(chk (0<=ak/\ak<((bz.Kids.length:Nat):Int))
((G.gy n (I5.getD v19.toNat default) (bz.Kids.getD ak.toNat default)).bind fun v23 =>
((G.jD n (af.mk Oi Oj y13 JH I5) v19 v23).bind fun v24 =>
(G.gy.L2 n bz (IntKind.wrap .i64 (ak+1)) v24.Kind v24.Num v24.Text v24.Names v24.Kids)))))
(chk (0<=ak/\ak<((bz.Kids.length:Nat):Int))
(chk (0<=ak/\ak<((bz.Kids.length:Nat):Int))
((G.gy n (af.mk 0 0 [] [] []) (bz.Kids.getD ak.toNat default)).bind fun v25 =>
((G.jd n (af.mk Oi Oj y13 JH I5) (bz.Names.getD ak.toNat default) v25).bind fun v26 =>
(G.gy.L2 n bz (IntKind.wrap .i64 (ak+1)) v26.1.Kind v26.1.Num v26.1.Text v26.1.Names v26.1.Kids))))))
(chk (0<=ak/\ak<((bz.Kids.length:Nat):Int))
(G.gy.L2 n bz (IntKind.wrap .i64 (ak+1)) Oi Oj y13 JH I5))))))))
(some ((af.mk Oi Oj y13 JH I5))))
def G.gy.K1 (f:Nat) (bz:af) (y1:Int) (y2:Int) (y3:aG) (y4:List aG) (y5:List af):Option (af):=match f with
| 0=>none
| n+1 =>
(G.gy.L2 n bz 0 y1 y2 y3 y4 y5)
def G.gy (f:Nat) (ag:af) (bz:af):Option (af):=match f with
| 0=>none
| n+1 =>
(cond (bz.Kind != 4)
((G.aB n bz).bind fun v1 =>
(some (v1)))
(cond (ag.Kind==4)
((G.aB n ag).bind fun v27 =>
(G.gy.K1 n bz v27.Kind v27.Num v27.Text v27.Names v27.Kids))
(G.gy.K1 n bz 4 0 [] [] [])))
end
def G.lG (f:Nat) (ag:af) (bz:af):Option (af × Bool):=match f with
| 0=>none
| n+1 =>
((G.bH n ag).bind fun v1 =>
(cond v1
((G.bH n bz).bind fun v2 =>
(cond v2
((G.gy n ag bz).bind fun v3 =>
((G.kV n v3 true).bind fun v4 =>
(some (v4.1,v4.2))))
(some ((af.mk 0 0 [] [] []),false))))
(some ((af.mk 0 0 [] [] []),false))))
def G.jG.L1 (f:Nat) (ah:List aG) (jW:aG) (ak:Int):Option (Bool):=match f with
| 0=>none
| n+1 =>
(cond (decide (ak<((ah.length:Nat):Int)))
(chk (0<=ak/\ak<((ah.length:Nat):Int))
(cond ((ah.getD ak.toNat default)==jW)
(some (true))
(chk (0<=ak/\ak<((ah.length:Nat):Int))
(cond ((ah.getD ak.toNat default)==[42])
(some (true))
(G.jG.L1 n ah jW (IntKind.wrap .i64 (ak+1)))))))
(some (false)))
def G.jG (f:Nat) (ah:List aG) (jW:aG):Option (Bool):=match f with
| 0=>none
| n+1 =>
(G.jG.L1 n ah jW 0)
def G.nZ (f:Nat) (pV:List aG) (nP:List aG) (jW:aG) (oU:Bool):Option (Int):=match f with
| 0=>none
| n+1 =>
(cond (decide (0<((pV.length:Nat):Int)))
(cond (jW==[])
(some (412))
((G.jG n pV jW).bind fun v1 =>
(cond v1
(cond (decide (0<((nP.length:Nat):Int)))
((G.jG n nP jW).bind fun v2 =>
(cond v2
(cond oU
(some (304))
(some (412)))
(some (200))))
(some (200)))
(some (412)))))
(cond (decide (0<((nP.length:Nat):Int)))
(cond (jW==[])
(some (200))
((G.jG n nP jW).bind fun v3 =>
(cond v3
(cond oU
(some (304))
(some (412)))
(some (200)))))
(some (200))))
def G.mg (f:Nat) (ai:StoreT) (aQ:aG):Option (aG):=match f with
| 0=>none
| n+1 =>
((G.jq n ai aQ).bind fun v1 =>
(cond (decide (v1<0))
(some ([]))
(chk (0<=v1/\v1<((ai.Items.length:Nat):Int))
((G.cu n ((ai.Items.getD v1.toNat default).Node)).bind fun v2 =>
((G.kH n v2).bind fun v3 =>
((G.pF n v3).bind fun v4 =>
(some (v4))))))))
def G.jo.K1 (f:Nat) (ai:StoreT) (aQ:aG) (ag:af) (TC:Int):Option (StoreT × aj):=match f with
| 0=>none
| n+1 =>
((G.gZ n ai aQ ag).bind fun v2 =>
((G.aY n v2).bind fun v3 =>
(cond v3
((G.mg n v2 aQ).bind fun v4 =>
(some (v2,(aj.mk TC v4 v2.Clock (af.mk 0 0 [] [] [])))))
((G.aU n ai).bind fun v5 =>
((G.jh n 422).bind fun v6 =>
(some (v5,v6)))))))
def G.jo (f:Nat) (ai:StoreT) (aQ:aG) (ag:af):Option (StoreT × aj):=match f with
| 0=>none
| n+1 =>
((G.jq n ai aQ).bind fun v7 =>
(cond (decide (v7<0))
(G.jo.K1 n ai aQ ag 201)
(G.jo.K1 n ai aQ ag 200)))
def G.eu.K1 (f:Nat) (ai:StoreT) (bQ:RequestT) (Oc:Bool) (y1:Int) (y2:Int) (y3:aG) (y4:List aG) (y5:List af):Option (StoreT × aj):=match f with
| 0=>none
| n+1 =>
(cond Oc
((G.jo n ai bQ.Name (af.mk y1 y2 y3 y4 y5)).bind fun v17 =>
(some (v17.1,v17.2)))
((G.aU n ai).bind fun v18 =>
((G.jh n 422).bind fun v19 =>
(some (v18,v19)))))
def G.eu.K2 (f:Nat) (ai:StoreT) (bQ:RequestT) (zL:Bool) (y6:Int) (y7:Int) (y8:aG) (y9:List aG) (BK:List af):Option (StoreT × aj):=match f with
| 0=>none
| n+1 =>
(cond zL
((G.jo n ai bQ.Name (af.mk y6 y7 y8 y9 BK)).bind fun v34 =>
(some (v34.1,v34.2)))
((G.aU n ai).bind fun v35 =>
((G.jh n 422).bind fun v36 =>
(some (v35,v36)))))
def G.eu (f:Nat) (ai:StoreT) (bQ:RequestT):Option (StoreT × aj):=match f with
| 0=>none
| n+1 =>
((G.jq n ai bQ.Name).bind fun v1 =>
(cond (decide (v1<0))
(cond (bQ.Method != 2)
((G.aU n ai).bind fun v2 =>
((G.jh n 404).bind fun v3 =>
(some (v2,v3))))
((G.mg n ai bQ.Name).bind fun v4 =>
((G.nZ n bQ.Want bQ.lT v4 (bQ.Method==1)).bind fun v5 =>
(cond (v5 != 200)
((G.aU n ai).bind fun v6 =>
((G.jh n v5).bind fun v7 =>
(some (v6,v7))))
(cond (bQ.Method==1)
((G.aU n ai).bind fun v8 =>
((G.mg n ai bQ.Name).bind fun v9 =>
(chk (0<=v1/\v1<((ai.Items.length:Nat):Int))
(chk (0<=v1/\v1<((ai.Items.length:Nat):Int))
((G.aB n ((ai.Items.getD v1.toNat default).Node)).bind fun v10 =>
(some (v8,(aj.mk v5 v9 ((ai.Items.getD v1.toNat default).Version) v10))))))))
(cond (bQ.Method==2)
((G.jo n ai bQ.Name bQ.Body).bind fun v11 =>
(some (v11.1,v11.2)))
(cond (bQ.Method==3)
(cond (ai.Clock==999)
((G.aU n ai).bind fun v12 =>
((G.jh n 422).bind fun v13 =>
(some (v12,v13))))
((G.jF n ai bQ.Name).bind fun v14 =>
(some (v14,(aj.mk v5 [] (IntKind.wrap .i64 (ai.Clock+1)) (af.mk 0 0 [] [] []))))))
(chk (0<=v1/\v1<((ai.Items.length:Nat):Int))
((G.fZ n ((ai.Items.getD v1.toNat default).Node) bQ.Ops).bind fun v15 =>
(cond (bQ.Method==5)
(chk (0<=v1/\v1<((ai.Items.length:Nat):Int))
((G.lG n ((ai.Items.getD v1.toNat default).Node) bQ.Body).bind fun v20 =>
(G.eu.K1 n ai bQ v20.2 v20.1.Kind v20.1.Num v20.1.Text v20.1.Names v20.1.Kids)))
(G.eu.K1 n ai bQ v15.2 v15.1.Kind v15.1.Num v15.1.Text v15.1.Names v15.1.Kids)))))))))))
((G.mg n ai bQ.Name).bind fun v21 =>
((G.nZ n bQ.Want bQ.lT v21 (bQ.Method==1)).bind fun v22 =>
(cond (v22 != 200)
((G.aU n ai).bind fun v23 =>
((G.jh n v22).bind fun v24 =>
(some (v23,v24))))
(cond (bQ.Method==1)
((G.aU n ai).bind fun v25 =>
((G.mg n ai bQ.Name).bind fun v26 =>
(chk (0<=v1/\v1<((ai.Items.length:Nat):Int))
(chk (0<=v1/\v1<((ai.Items.length:Nat):Int))
((G.aB n ((ai.Items.getD v1.toNat default).Node)).bind fun v27 =>
(some (v25,(aj.mk v22 v26 ((ai.Items.getD v1.toNat default).Version) v27))))))))
(cond (bQ.Method==2)
((G.jo n ai bQ.Name bQ.Body).bind fun v28 =>
(some (v28.1,v28.2)))
(cond (bQ.Method==3)
(cond (ai.Clock==999)
((G.aU n ai).bind fun v29 =>
((G.jh n 422).bind fun v30 =>
(some (v29,v30))))
((G.jF n ai bQ.Name).bind fun v31 =>
(some (v31,(aj.mk v22 [] (IntKind.wrap .i64 (ai.Clock+1)) (af.mk 0 0 [] [] []))))))
(chk (0<=v1/\v1<((ai.Items.length:Nat):Int))
((G.fZ n ((ai.Items.getD v1.toNat default).Node) bQ.Ops).bind fun v32 =>
(cond (bQ.Method==5)
(chk (0<=v1/\v1<((ai.Items.length:Nat):Int))
((G.lG n ((ai.Items.getD v1.toNat default).Node) bQ.Body).bind fun v37 =>
(G.eu.K2 n ai bQ v37.2 v37.1.Kind v37.1.Num v37.1.Text v37.1.Names v37.1.Kids)))
(G.eu.K2 n ai bQ v32.2 v32.1.Kind v32.1.Num v32.1.Text v32.1.Names v32.1.Kids))))))))))))
def G.iZ.L1 (f:Nat) (ai:aG) (ak:Int):Option (Bool):=match f with
| 0=>none
| n+1 =>
(cond (decide (ak<((ai.length:Nat):Int)))
(chk (0<=ak/\ak<((ai.length:Nat):Int))
((G.dW n (IntKind.wrap .i64 ((((ai.getD ak.toNat 0).toNat:Nat):Int))) 48 57).bind fun v5 =>
(cond v5
(G.iZ.L1 n ai (IntKind.wrap .i64 (ak+1)))
(chk (0<=ak/\ak<((ai.length:Nat):Int))
((G.dW n (IntKind.wrap .i64 ((((ai.getD ak.toNat 0).toNat:Nat):Int))) 97 102).bind fun v6 =>
(cond v6
(G.iZ.L1 n ai (IntKind.wrap .i64 (ak+1)))
(some (false))))))))
(some ((((ai.length:Nat):Int)==4))))
def G.iZ (f:Nat) (ai:aG):Option (Bool):=match f with
| 0=>none
| n+1 =>
(G.iZ.L1 n ai 0)
def G.iy.L1 (f:Nat) (ah:List aG) (ak:Int):Option (Bool):=match f with
| 0=>none
| n+1 =>
(cond (decide (ak<((ah.length:Nat):Int)))
(chk (0<=ak/\ak<((ah.length:Nat):Int))
(cond ((ah.getD ak.toNat default)==[42])
(G.iy.L1 n ah (IntKind.wrap .i64 (ak+1)))
(chk (0<=ak/\ak<((ah.length:Nat):Int))
((G.iZ n (ah.getD ak.toNat default)).bind fun v3 =>
(cond v3
(G.iy.L1 n ah (IntKind.wrap .i64 (ak+1)))
(some (false)))))))
(some ((decide (((ah.length:Nat):Int)<=4)))))
def G.iy (f:Nat) (ah:List aG):Option (Bool):=match f with
| 0=>none
| n+1 =>
(G.iy.L1 n ah 0)
def G.iJ (f:Nat) (bQ:RequestT):Option (Bool):=match f with
| 0=>none
| n+1 =>
((G.dW n bQ.Method 1 5).bind fun v1 =>
(cond v1
((G.eF n bQ.Name).bind fun v2 =>
(cond v2
((G.iy n bQ.Want).bind fun v3 =>
(cond v3
((G.iy n bQ.lT).bind fun v4 =>
(cond v4
((G.bH n bQ.Body).bind fun v5 =>
(cond v5
((G.fA n bQ.Ops).bind fun v6 =>
(some (v6)))
(some (false))))
(some (false))))
(some (false))))
(some (false))))
(some (false))))
def G.aN.L1 (f:Nat) (bW:List aj) (cZ:List aj) (ak:Int):Option (Bool):=match f with
| 0=>none
| n+1 =>
(cond (decide (ak<((bW.length:Nat):Int)))
(chk (0<=ak/\ak<((bW.length:Nat):Int))
(chk (0<=ak/\ak<((cZ.length:Nat):Int))
((G.bG n (aj.mk ((bW.getD ak.toNat default).Status) ((bW.getD ak.toNat default).Tag) ((bW.getD ak.toNat default).Version) ((bW.getD ak.toNat default).Body)) (aj.mk ((cZ.getD ak.toNat default).Status) ((cZ.getD ak.toNat default).Tag) ((cZ.getD ak.toNat default).Version) ((cZ.getD ak.toNat default).Body))).bind fun v3 =>
(cond v3
(G.aN.L1 n bW cZ (IntKind.wrap .i64 (ak+1)))
(some (false))))))
(some (true)))
def G.aN (f:Nat) (bW:List aj) (cZ:List aj):Option (Bool):=match f with
| 0=>none
| n+1 =>
(cond (((bW.length:Nat):Int) != ((cZ.length:Nat):Int))
(some (false))
(G.aN.L1 n bW cZ 0))
def G.fG.L2 (f:Nat) (v1:StoreT × ReaderT) (y7:List Int) (y8:Int) (z4:List RequestT):Option (StoreT × List RequestT × ReaderT):=match f with
| 0=>none
| n+1 =>
(cond (decide (((z4.length:Nat):Int)<9))
((G.aI n (ReaderT.mk y7 y8) v1.1).bind fun v9 =>
(chk ((z4.length+1)*187<=2^46)
(G.fG.L2 n v1 v9.2.b v9.2.p (z4++[v9.1]))))
(some (v1.1,z4,(ReaderT.mk y7 y8))))
def G.fG.L1 (f:Nat) (v1:StoreT × ReaderT) (uT:Int) (y3:List Int) (y4:Int) (z2:List RequestT):Option (StoreT × List RequestT × ReaderT):=match f with
| 0=>none
| n+1 =>
(cond (decide (0<uT))
((G.lu n (ReaderT.mk y3 y4) v1.1).bind fun v5 =>
(chk ((z2.length+1)*187<=2^46)
(G.fG.L1 n v1 (IntKind.wrap .i64 (uT-1)) v5.2.b v5.2.p (z2++[v5.1]))))
((G.aC n (ReaderT.mk y3 y4) 30).bind fun v6 =>
(cond (v6.1==0)
(G.fG.L2 n v1 v6.2.b v6.2.p z2)
(some (v1.1,z2,v6.2)))))
def G.fG (f:Nat) (dA:ReaderT):Option (StoreT × List RequestT × ReaderT):=match f with
| 0=>none
| n+1 =>
((G.mM n dA).bind fun v1 =>
((G.dD n v1.2 [2,3,1,4,0,8]).bind fun v2 =>
(G.fG.L1 n v1 v2.1 v2.2.b v2.2.p [])))
def G.gm.L1 (f:Nat) (ah:List RequestT) (ak:Int):Option (Bool):=match f with
| 0=>none
| n+1 =>
(cond (decide (ak<((ah.length:Nat):Int)))
(chk (0<=ak/\ak<((ah.length:Nat):Int))
((G.iJ n (RequestT.mk ((ah.getD ak.toNat default).Method) ((ah.getD ak.toNat default).Name) ((ah.getD ak.toNat default).Want) ((ah.getD ak.toNat default).lT) ((ah.getD ak.toNat default).Body) ((ah.getD ak.toNat default).Ops))).bind fun v3 =>
(cond v3
(G.gm.L1 n ah (IntKind.wrap .i64 (ak+1)))
(some (false)))))
(some ((decide (((ah.length:Nat):Int)<=8)))))
def G.gm (f:Nat) (ah:List RequestT):Option (Bool):=match f with
| 0=>none
| n+1 =>
(G.gm.L1 n ah 0)
def G.jc (f:Nat) (dw:List Int):Option (StoreT × List RequestT):=match f with
| 0=>none
| n+1 =>
((G.kR n dw).bind fun v1 =>
((G.fG n v1).bind fun v2 =>
(some (v2.1,v2.2.1))))
def G.eY.L1 (f:Nat) (ah:List RequestT) (ak:Int) (z2:List aj) (y3:List aA) (y4:Int):Option (StoreT × List aj):=match f with
| 0=>none
| n+1 =>
(cond (decide (ak<((ah.length:Nat):Int)))
(chk (0<=ak/\ak<((ah.length:Nat):Int))
((G.eu n (StoreT.mk y3 y4) (RequestT.mk ((ah.getD ak.toNat default).Method) ((ah.getD ak.toNat default).Name) ((ah.getD ak.toNat default).Want) ((ah.getD ak.toNat default).lT) ((ah.getD ak.toNat default).Body) ((ah.getD ak.toNat default).Ops))).bind fun v6 =>
(chk ((z2.length+1)*121<=2^46)
(G.eY.L1 n ah (IntKind.wrap .i64 (ak+1)) (z2++[v6.2]) v6.1.Items v6.1.Clock))))
(some ((StoreT.mk y3 y4),z2)))
def G.eY (f:Nat) (ai:StoreT) (ah:List RequestT):Option (StoreT × List aj):=match f with
| 0=>none
| n+1 =>
((G.aY n ai).bind fun v1 =>
(cond v1
((G.gm n ah).bind fun v2 =>
(cond v2
((G.aU n ai).bind fun v3 =>
(G.eY.L1 n ah 0 [] v3.Items v3.Clock))
(some ((StoreT.mk [] 0),[]))))
(some ((StoreT.mk [] 0),[]))))
def G.jL.L1 (f:Nat) (ah:List aG) (ai:aG) (ak:Int):Option (Bool):=match f with
| 0=>none
| n+1 =>
(cond (decide (ak<((ah.length:Nat):Int)))
(chk (0<=ak/\ak<((ah.length:Nat):Int))
(cond ((ah.getD ak.toNat default)==ai)
(some (true))
(G.jL.L1 n ah ai (IntKind.wrap .i64 (ak+1)))))
(some (false)))
def G.jL (f:Nat) (ah:List aG) (ai:aG):Option (Bool):=match f with
| 0=>none
| n+1 =>
(G.jL.L1 n ah ai 0)
def G.gV.L2 (f:Nat) (v1:StoreT × List RequestT) (v2:StoreT × List aj) (v12:List aG) (ak:Int):Option (Bool):=match f with
| 0=>none
| n+1 =>
(cond (decide (ak<((v1.1.Items.length:Nat):Int)))
(chk (0<=ak/\ak<((v1.1.Items.length:Nat):Int))
((G.ji n v2.1 ((v1.1.Items.getD ak.toNat default).Name)).bind fun v19 =>
(chk (0<=ak/\ak<((v1.1.Items.length:Nat):Int))
((G.jL n v12 ((v1.1.Items.getD ak.toNat default).Name)).bind fun v20 =>
(cond v20
(G.gV.L2 n v1 v2 v12 (IntKind.wrap .i64 (ak+1)))
(cond v19.2
(chk (0<=ak/\ak<((v1.1.Items.length:Nat):Int))
(cond (v19.1.Version != (v1.1.Items.getD ak.toNat default).Version)
(some (false))
(chk (0<=ak/\ak<((v1.1.Items.length:Nat):Int))
((G.gu n v19.1.Node ((v1.1.Items.getD ak.toNat default).Node)).bind fun v21 =>
(cond v21
(G.gV.L2 n v1 v2 v12 (IntKind.wrap .i64 (ak+1)))
(some (false)))))))
(some (false))))))))
(some (true)))
def G.gV.K1 (f:Nat) (v1:StoreT × List RequestT) (v2:StoreT × List aj):Option (Bool):=match f with
| 0=>none
| n+1 =>
((G.jl n v1.2).bind fun v12 =>
(G.gV.L2 n v1 v2 v12 0))
def G.gV (f:Nat) (dw:List Int):Option (Bool):=match f with
| 0=>none
| n+1 =>
(cond (decide (1048576<((dw.length:Nat):Int)))
(some (true))
((G.jc n dw).bind fun v1 =>
((G.dF n v1.1 v1.2).bind fun v2 =>
((G.eY n v1.1 v1.2).bind fun v3 =>
((G.aK n v2.1 v3.1).bind fun v22 =>
(cond v22
((G.aN n v2.2 v3.2).bind fun v23 =>
(cond v23
(cond (((v2.2.length:Nat):Int)==0)
((G.aK n v2.1 v3.1).bind fun v24 =>
(cond v24
((G.aN n v2.2 v3.2).bind fun v25 =>
(some (v25)))
(some (false))))
(G.gV.K1 n v1 v2))
((G.aK n v2.1 v3.1).bind fun v26 =>
(cond v26
((G.aN n v2.2 v3.2).bind fun v27 =>
(some (v27)))
(some (false))))))
((G.aK n v2.1 v3.1).bind fun v28 =>
(cond v28
((G.aN n v2.2 v3.2).bind fun v29 =>
(some (v29)))
(some (false))))))))))
end Go.Ab
end
section
namespace Go.Ab
open Go
set_option maxRecDepth 100000
set_option linter.defProp false
theorem U3 {α β:Type} (f:α->β) (l:List α) (n:Nat):List.take n (List.map f l)=List.map f (List.take n l):=List.map_take.symm
theorem U2 {α β:Type} (f:α->β) (l:List α) (n:Nat):List.drop n (List.map f l)=List.map f (List.drop n l):=List.map_drop.symm
theorem Zv {i:Int} {m:Nat} [inst:Decidable (0<=i/\i<(m:Int))] {α:Type} {k:Option α} {r:α} (h:chk (0<=i/\i<(m:Int)) k=some r):(0<=i/\i<(m:Int))/\i.toNat<m/\k=some r:=by
 obtain ⟨h1,h2⟩:=oh.1 h
 exact ⟨h1,by omega,h2⟩
inductive Mk:Nat->Prop
 | mk (n:Nat):Mk n
theorem Zu {m:Nat} [inst:Decidable ((0:Nat)<=0/\(0:Int)<(m:Int))] {α:Type} {k:Option α} {r:α} (h:chk ((0:Nat)<=0/\(0:Int)<(m:Int)) k=some r):(0:Int)<(m:Int)/\0<m/\k=some r:=by
 obtain ⟨h1,h2⟩:=oh.1 h
 exact ⟨h1.2,by omega,h2⟩
theorem kq {c:Prop} [Decidable c] {α:Type} {k:Option α} {r:α} (h:chk c k=some r):c/\k=some r:=oh.1 h
theorem bq {α β:Type} {x:Option α} {f:α->Option β} {r:β} (h:Option.bind x f=some r):∃ a,x=some a/\f a=some r:=Option.bind_eq_some_iff.1 h
section
variable {P:Program} {Q:AQ} {st:dB}
theorem UH {f:FuncId} {oC:List AV} {p:Bool} {d:Option Nat} {K:List Nat->List Nat->dB->Prop} {du:DU K} (k:oJ P f oC p d st K du):oJ P f oC p d st K du:=k
theorem Pj {a:AQ->dB->Prop} {d1:DU a} {d2:DU Q} (k:yN a Q st d1 d2):yN a Q st d1 d2:=k
theorem Xw {a b:AQ->dB->Prop} {d1:DU a} {d2:DU b} {d3:DU Q} (k:Dq a b Q st d1 d2 d3):Dq a b Q st d1 d2 d3:=k
theorem X8 {X:Type} {p:X->Prop} (k:∃ x,p x):∃ x,p x:=k
theorem UI {rs:List sF} {r:AV} (k:FN rs r st):FN rs r st:=k
theorem UK {rs:List sF} {m:Nat} {post:AV->List Box->Prop} (k:BM rs m post st):BM rs m post st:=k
end
theorem sq {α:Type} {x r:α} (h:some x=some r):r=x:=(Option.some.inj h).symm
theorem cq {b:Bool} {α:Type} {x y:Option α} {r:α} (h:cond b x y=some r):(b=true/\x=some r)\/(b=false/\y=some r):=pY.1 h
def ZL:=And.intro @Tv (And.intro @VJ (And.intro @Tu (And.intro @VL (And.intro @VI (And.intro @Tt (And.intro @PX (And.intro @Tq (And.intro @VK (And.intro @Tn (And.intro @WC (And.intro @WB (And.intro @QV (And.intro @QU (And.intro @QW (And.intro @QS (And.intro @QO (And.intro @QT (And.intro @Ou (And.intro @Ot (And.intro @Ov (And.intro @Wi (And.intro @Wj (And.intro @We (And.intro @Wh (And.intro @PY (And.intro @N9 (And.intro @VM (And.intro @TA (And.intro @XD (And.intro @Yw (And.intro @Yv (And.intro @XF (And.intro @Wn (And.intro @TQ (And.intro @QX (And.intro @TP (And.intro @Di.eq_1 (And.intro @Di.eq_2 (And.intro @uI.eq_1 (And.intro @uI.eq_2 (And.intro @st0.eq_1 (And.intro @tZ.eq_1 (And.intro @tZ.eq_2 (And.intro @nV.eq_1 (And.intro @nV.eq_2 (And.intro @dS.valid.eq_1 (And.intro @dS.valid.eq_2 (And.intro @bK.eq_1 (And.intro @Zd (And.intro @Zc (And.intro @Zh (And.intro @ZG (And.intro @zI (And.intro @vZ (And.intro @Yg (And.intro @Xc (And.intro @Xb (And.intro @sN.eq_1 (And.intro @sN.eq_2 (And.intro @mP.eq_1 (And.intro @mP.eq_2 (And.intro @Nu.eq_1 (And.intro @Nu.eq_2 (And.intro @setB.eq_1 (And.intro @setB.eq_2 (And.intro @SE (And.intro @SG (And.intro @S9 (And.intro @PL (And.intro @FR.ok.eq_1 (And.intro @FO.eq_1 (And.intro @FO.eq_2 (And.intro @FO.eq_3 (And.intro @AV.flat.eq_1 (And.intro @AV.flat.eq_2 (And.intro @AV.cells.eq_1 (And.intro @AV.cells.eq_2 (And.intro @AV.cells.eq_3 (And.intro @qM.eq_1 (And.intro @qM.eq_2 (And.intro @qM.eq_3 (And.intro @qM.eq_4 (And.intro @KW.eq_1 (And.intro @Hy.eq_1 (And.intro @Hy.eq_2 (And.intro @splice.eq_1 (And.intro @Box.arr.eq_1 (And.intro @Box.arr.eq_2 (And.intro @Box.arr.eq_3 (And.intro @dataOf.eq_1 (And.intro @dataOf.eq_2 (And.intro @dataOf.eq_3 (And.intro @dataOf.eq_4 (And.intro @zH.eq_1 (And.intro @zH.eq_2 (And.intro @bnd.eq_1 (And.intro @bnd.eq_2 (And.intro @FH.eq_1 (And.intro @FH.eq_2 (And.intro @UW (And.intro @UU (And.intro @zn.eq_1 (And.intro @o7.eq_1 (And.intro @oQ.eq_1 (And.intro @Lt.eq_1 (And.intro @tV.eq_1 (And.intro @tV.eq_2 (And.intro @tV.eq_3 (And.intro @vY.eq_1 (And.intro @vY.eq_2 (And.intro @vY.eq_3 (And.intro @qi.eq_1 (And.intro @qi.eq_2 (And.intro @qi.eq_3 (And.intro @qK.eq_1 (And.intro @qK.eq_2 (And.intro @qK.eq_3 (And.intro @AV.owns.eq_1 (And.intro @AV.owns.eq_2 (And.intro @AV.owns.eq_3 (And.intro @kU.eq_1 (And.intro @kU.eq_2 (And.intro @kU.eq_3 (And.intro @AC.pO.eq_1 (And.intro @AC.pO.eq_2 (And.intro @AC.isLit.eq_1 (And.intro @AC.isLit.eq_2 (And.intro @AV.all.eq_1 (And.intro @AV.all.eq_2 (And.intro @AV.all.eq_3 (And.intro @Cell.isLit.eq_1 (And.intro @Cell.isLit.eq_2 (And.intro @List.mem_cons.{0} (And.intro @List.not_mem_nil.{0} (And.intro @or_false (And.intro @false_or (And.intro @or_true (And.intro @true_or (And.intro @forall_eq.{1} (And.intro @forall_eq_or_imp.{1} (And.intro @true_and (And.intro @and_true (And.intro @true_implies (And.intro @false_implies (And.intro @implies_true.{1} (And.intro @if_true.{1} (And.intro @if_false.{1} (And.intro @Bool.false_eq_true (And.intro @Bool.true_eq_false (And.intro @imp_self (And.intro @and_self (And.intro @cond_true.{1} (And.intro @cond_false.{1} (And.intro @List.map_cons.{0,0} (And.intro @List.map_nil.{0,0} (And.intro @List.take_succ_cons.{0} (And.intro @List.take_zero.{0} (And.intro @List.drop_succ_cons.{0} (And.intro @List.drop_zero.{0} (And.intro @List.take_nil.{0} (And.intro @List.drop_nil.{0} (And.intro @List.cons_append.{0} (And.intro @List.nil_append.{0} (And.intro @List.append_nil.{0} (And.intro @List.length_cons.{0} (And.intro @List.length_nil.{0} (And.intro @List.getElem?_cons_zero.{0} (And.intro @List.getElem?_cons_succ.{0} (And.intro @List.length_map.{0,0} (And.intro @List.length_replicate.{0} (And.intro @List.length_append.{0} (And.intro @List.map_append.{0,0} (And.intro @List.flatMap_cons.{0,0} (And.intro @List.flatMap_nil.{0,0} (And.intro @List.all_cons.{0} (And.intro @List.all_nil.{0} (And.intro @List.contains_cons.{0} (And.intro @List.contains_nil.{0} (And.intro @Bool.and_true (And.intro @Bool.or_false (And.intro @Bool.false_or (And.intro @Bool.true_or (And.intro @Bool.or_true (And.intro @Bool.and_self (And.intro @Bool.not_false (And.intro @Bool.not_true (And.intro @Bool.true_and (And.intro @Bool.false_and (And.intro @Bool.and_false (And.intro @Nat.zero_lt_succ (And.intro @Nat.zero_le (And.intro @Nat.zero_add (And.intro @Nat.le_refl (And.intro @Nat.min_self (And.intro @Za (And.intro @Y9 (And.intro @decide_true (And.intro @decide_false (And.intro @Md.eq_1 (And.intro @Md.eq_2 (And.intro @Lj.eq_1 (And.intro @Lj.eq_2 (And.intro @I8.eq_1 (And.intro @I8.eq_2 (And.intro @I8.eq_3 (And.intro @DD.eq_1 (And.intro @DD.eq_2 (And.intro @DR.eq_1 (And.intro @DR.eq_2 (And.intro @KU.eq_1 (And.intro @uH.eq_1 (And.intro @uH.eq_2 (And.intro @uH.eq_3 (And.intro @cI.eq_1 (And.intro @cU.eq_1 (And.intro @cB.eq_1 (And.intro @cS.eq_1 (And.intro @cL.eq_1 (And.intro @cK.eq_1 (And.intro @af.gQ (And.intro @nO.gQ (And.intro @StoreT.gQ (And.intro @aA.gQ (And.intro @RequestT.gQ (And.intro @aj.gQ (And.intro @ReaderT.gQ (And.intro @List.getD_cons_zero.{0} (And.intro @List.getD_cons_succ.{0} (And.intro @List.map_set.{0,0} (And.intro @List.length_set.{0} (And.intro @Ru (And.intro @take_len (And.intro @BD (And.intro @BF (And.intro @Qw (And.intro @H8.eq_1 (And.intro @H8.eq_2 (And.intro @Uo (And.intro @xU.eq_1 (And.intro @xU.eq_2 (And.intro @OG (And.intro @vT (And.intro @MG (And.intro @MH (And.intro @Option.map_some.{0,0} (And.intro @Int.toNat_natCast (And.intro @Int.toNat_zero (And.intro @U3 (And.intro @U2 (And.intro @bne_self_eq_false.{0} (And.intro @Bool.bne_true (And.intro @Bool.bne_false (And.intro @List.drop_replicate.{0} (And.intro @Nat.sub_self (And.intro @xQ.eq_1 (And.intro @xQ.eq_2 (And.intro @xQ.eq_3 (And.intro @Option.toList_none.{0} (And.intro @Option.toList_some.{0} (And.intro @KE.eq_1 (And.intro @oq.eq_1 (And.intro @oq.eq_2 (And.intro @rY.eq_1 (And.intro @rY.eq_2 (And.intro @eq_self.{1} (And.intro @List.replicate_zero.{0} (And.intro @List.replicate_succ.{0} (And.intro @DK.eq_1 (And.intro @DK.eq_2 (And.intro @qG.eq_1 (And.intro @qG.eq_2 (And.intro @List.set_cons_zero.{0} (And.intro @List.set_cons_succ.{0} (And.intro @XQ (And.intro @uo.eq_1 (And.intro @uo.eq_2 (And.intro @uD.eq_1 (And.intro @uD.eq_2 (And.intro @uD.eq_3 (And.intro @List.zip_cons_cons.{0,0} (And.intro @List.zip_nil_right.{0,0} (And.intro @List.zip_nil_left.{0,0} (And.intro @beq_self_eq_true.{0} @Nat.add_zero)))))))))))))))))))))))))))))))))))))))))))))))))))))))))))))))))))))))))))))))))))))))))))))))))))))))))))))))))))))))))))))))))))))))))))))))))))))))))))))))))))))))))))))))))))))))))))))))))))))))))))))))))))))))))))))))))))))))))))))))))))))))))))))))))))))))))))))))))))))))))))
theorem sK:type_of% ZL:=ZL
def ZU:=And.intro @IU.eq_1 (And.intro @IU.eq_2 (And.intro @N7.eq_1 (And.intro @N7.eq_2 (And.intro @Jl.eq_1 (And.intro @Jl.eq_2 (And.intro @Jl.eq_3 (And.intro @QH.eq_1 (And.intro @QH.eq_2 (And.intro @QH.eq_3 (And.intro @QH.eq_4 (And.intro @Dk.eq_1 (And.intro @Dk.eq_2 (And.intro @Dk.eq_3 (And.intro @IZ.eq_1 (And.intro @IZ.eq_2 (And.intro @sN.eq_1 (And.intro @sN.eq_2 (And.intro @mP.eq_1 (And.intro @mP.eq_2 (And.intro @true_and (And.intro @and_true (And.intro @implies_true.{1} (And.intro @List.mem_cons.{0} (And.intro @List.not_mem_nil.{0} (And.intro @or_false (And.intro @or_true (And.intro @true_or (And.intro @Box.arr.eq_1 (And.intro @Box.arr.eq_2 (And.intro @Box.arr.eq_3 (And.intro @zn.eq_1 (And.intro @o7.eq_1 (And.intro @oQ.eq_1 (And.intro @Lt.eq_1 (And.intro @not_false_eq_true (And.intro @false_or (And.intro @Option.some.injEq.{0} (And.intro @true_implies (And.intro @cI.eq_1 (And.intro @cU.eq_1 (And.intro @cB.eq_1 (And.intro @cS.eq_1 (And.intro @cL.eq_1 (And.intro @cK.eq_1 (And.intro @af.gQ (And.intro @nO.gQ (And.intro @StoreT.gQ (And.intro @aA.gQ (And.intro @RequestT.gQ (And.intro @aj.gQ (And.intro @ReaderT.gQ (And.intro @List.map_append.{0,0} (And.intro @List.map_cons.{0,0} (And.intro @List.map_nil.{0,0} (And.intro @List.map_set.{0,0} (And.intro @List.map_take.{0,0} (And.intro @List.map_drop.{0,0} (And.intro @List.map_replicate.{0,0} (And.intro @List.length_append.{0} (And.intro @List.length_cons.{0} (And.intro @List.length_nil.{0} (And.intro @List.length_map.{0,0} (And.intro @List.length_set.{0} (And.intro @List.length_replicate.{0} (And.intro @Nat.zero_add (And.intro @Nat.add_zero (And.intro @List.nil_append.{0} (And.intro @List.cons_append.{0} (And.intro @List.append_nil.{0} (And.intro @take_len (And.intro @BD (And.intro @BF @and_self))))))))))))))))))))))))))))))))))))))))))))))))))))))))))))))))))))))))
theorem NZ:type_of% ZU:=ZU
def ZR:=And.intro @FN.eq_1 (And.intro @xk.eq_1 (And.intro @xk.eq_2 (And.intro @sF.ok.eq_1 (And.intro @sF.ok.eq_2 (And.intro @sF.val.eq_1 (And.intro @sF.val.eq_2 (And.intro @Jd.eq_1 (And.intro @Jd.eq_2 (And.intro @ry.eq_1 (And.intro @ry.eq_2 (And.intro @partOf.eq_1 (And.intro @partOf.eq_2 (And.intro @partOf.eq_3 (And.intro @zI (And.intro @vZ (And.intro @CX (And.intro @Zh (And.intro @ZG (And.intro @AV.flat.eq_1 (And.intro @AV.flat.eq_2 (And.intro @qM.eq_1 (And.intro @qM.eq_2 (And.intro @qM.eq_3 (And.intro @qM.eq_4 (And.intro @sN.eq_1 (And.intro @sN.eq_2 (And.intro @mP.eq_1 (And.intro @mP.eq_2 (And.intro @dV.eq_1 (And.intro @dV.eq_2 (And.intro @dV.eq_3 (And.intro @dV.eq_4 (And.intro @dC.eq_1 (And.intro @dC.eq_2 (And.intro @dC.eq_3 (And.intro @dC.eq_4 (And.intro @VU.eq_1 (And.intro @VU.eq_2 (And.intro @VU.eq_3 (And.intro @WG.eq_1 (And.intro @WG.eq_2 (And.intro @WG.eq_3 (And.intro @Box.arr.eq_1 (And.intro @Box.arr.eq_2 (And.intro @Box.arr.eq_3 (And.intro @List.take_succ_cons.{0} (And.intro @List.take_zero.{0} (And.intro @List.drop_zero.{0} (And.intro @List.drop_succ_cons.{0} (And.intro @List.length_cons.{0} (And.intro @List.length_nil.{0} (And.intro @List.getElem?_cons_zero.{0} (And.intro @List.getElem?_cons_succ.{0} (And.intro @true_and (And.intro @and_true (And.intro @Nat.zero_add (And.intro @o7.eq_1 (And.intro @oQ.eq_1 (And.intro @zn.eq_1 (And.intro @Lt.eq_1 (And.intro @FR.ok.eq_1 (And.intro @cI.eq_1 (And.intro @cU.eq_1 (And.intro @cB.eq_1 (And.intro @cS.eq_1 (And.intro @cL.eq_1 (And.intro @cK.eq_1 (And.intro @af.gQ (And.intro @nO.gQ (And.intro @StoreT.gQ (And.intro @aA.gQ (And.intro @RequestT.gQ (And.intro @aj.gQ (And.intro @ReaderT.gQ (And.intro @List.map_append.{0,0} (And.intro @List.map_cons.{0,0} (And.intro @List.map_nil.{0,0} (And.intro @List.map_set.{0,0} (And.intro @List.map_take.{0,0} (And.intro @List.map_drop.{0,0} (And.intro @List.map_replicate.{0,0} (And.intro @List.length_append.{0} (And.intro @List.length_map.{0,0} (And.intro @List.length_set.{0} (And.intro @List.length_replicate.{0} (And.intro @Nat.add_zero (And.intro @List.nil_append.{0} (And.intro @List.cons_append.{0} (And.intro @List.append_nil.{0} (And.intro @take_len (And.intro @BD (And.intro @BF (And.intro @and_self @vT)))))))))))))))))))))))))))))))))))))))))))))))))))))))))))))))))))))))))))))))))))))))))))))
theorem peR:type_of% ZR:=ZR
def ZT:=And.intro @IU.eq_1 (And.intro @IU.eq_2 (And.intro @N7.eq_1 (And.intro @N7.eq_2 (And.intro @Jl.eq_1 (And.intro @Jl.eq_2 (And.intro @Jl.eq_3 (And.intro @QH.eq_1 (And.intro @QH.eq_2 (And.intro @QH.eq_3 (And.intro @QH.eq_4 (And.intro @Dk.eq_1 (And.intro @Dk.eq_2 (And.intro @Dk.eq_3 (And.intro @IZ.eq_1 (And.intro @IZ.eq_2 (And.intro @sN.eq_1 (And.intro @sN.eq_2 (And.intro @mP.eq_1 (And.intro @mP.eq_2 (And.intro @true_and (And.intro @and_true (And.intro @implies_true.{1} (And.intro @List.mem_cons.{0} (And.intro @List.not_mem_nil.{0} (And.intro @or_false (And.intro @or_true (And.intro @true_or (And.intro @Box.arr.eq_1 (And.intro @Box.arr.eq_2 (And.intro @Box.arr.eq_3 (And.intro @zn.eq_1 (And.intro @o7.eq_1 (And.intro @oQ.eq_1 (And.intro @Lt.eq_1 (And.intro @not_false_eq_true (And.intro @false_or (And.intro @Option.some.injEq.{0} (And.intro @true_implies (And.intro @cI.eq_1 (And.intro @cU.eq_1 (And.intro @cB.eq_1 (And.intro @cS.eq_1 (And.intro @cL.eq_1 (And.intro @cK.eq_1 (And.intro @af.gQ (And.intro @nO.gQ (And.intro @StoreT.gQ (And.intro @aA.gQ (And.intro @RequestT.gQ (And.intro @aj.gQ (And.intro @ReaderT.gQ (And.intro @List.map_append.{0,0} (And.intro @List.map_cons.{0,0} (And.intro @List.map_nil.{0,0} (And.intro @List.map_set.{0,0} (And.intro @List.map_take.{0,0} (And.intro @List.map_drop.{0,0} (And.intro @List.map_replicate.{0,0} (And.intro @List.length_append.{0} (And.intro @List.length_cons.{0} (And.intro @List.length_nil.{0} (And.intro @List.length_map.{0,0} (And.intro @List.length_set.{0} (And.intro @List.length_replicate.{0} (And.intro @Nat.zero_add (And.intro @Nat.add_zero (And.intro @List.nil_append.{0} (And.intro @List.cons_append.{0} (And.intro @List.append_nil.{0} (And.intro @take_len (And.intro @BD (And.intro @BF (And.intro @and_self (And.intro @uI.eq_1 (And.intro @uI.eq_2 (And.intro @Jk.eq_1 (And.intro @Jk.eq_2 (And.intro @Jk.eq_3 (And.intro @FN.eq_1 (And.intro @xk.eq_1 (And.intro @xk.eq_2 (And.intro @sF.ok.eq_1 (And.intro @sF.ok.eq_2 (And.intro @sF.val.eq_1 (And.intro @sF.val.eq_2 (And.intro @Jd.eq_1 (And.intro @Jd.eq_2 (And.intro @ry.eq_1 (And.intro @ry.eq_2 (And.intro @partOf.eq_1 (And.intro @partOf.eq_2 (And.intro @partOf.eq_3 (And.intro @zI (And.intro @vZ (And.intro @CX (And.intro @Zh (And.intro @ZG (And.intro @AV.flat.eq_1 (And.intro @AV.flat.eq_2 (And.intro @qM.eq_1 (And.intro @qM.eq_2 (And.intro @qM.eq_3 (And.intro @qM.eq_4 (And.intro @dV.eq_1 (And.intro @dV.eq_2 (And.intro @dV.eq_3 (And.intro @dV.eq_4 (And.intro @dC.eq_1 (And.intro @dC.eq_2 (And.intro @dC.eq_3 (And.intro @dC.eq_4 (And.intro @VU.eq_1 (And.intro @VU.eq_2 (And.intro @VU.eq_3 (And.intro @WG.eq_1 (And.intro @WG.eq_2 (And.intro @WG.eq_3 (And.intro @List.take_succ_cons.{0} (And.intro @List.take_zero.{0} (And.intro @List.drop_zero.{0} (And.intro @List.drop_succ_cons.{0} (And.intro @List.getElem?_cons_zero.{0} (And.intro @List.getElem?_cons_succ.{0} (And.intro @FR.ok.eq_1 @vT))))))))))))))))))))))))))))))))))))))))))))))))))))))))))))))))))))))))))))))))))))))))))))))))))))))))))))))))))))))))))))
theorem I4:type_of% ZT:=ZT
def ZQ:=And.intro @tV.eq_1 (And.intro @tV.eq_2 (And.intro @tV.eq_3 (And.intro @vY.eq_1 (And.intro @vY.eq_2 (And.intro @vY.eq_3 (And.intro @qi.eq_1 (And.intro @qi.eq_2 (And.intro @qi.eq_3 (And.intro @qK.eq_1 (And.intro @qK.eq_2 (And.intro @qK.eq_3 (And.intro @vZ (And.intro @mP.eq_1 (And.intro @mP.eq_2 (And.intro @Box.arr.eq_1 (And.intro @Box.arr.eq_2 (And.intro @Box.arr.eq_3 (And.intro @AV.cells.eq_1 (And.intro @AV.cells.eq_2 (And.intro @AV.cells.eq_3 (And.intro @List.map_cons.{0,0} (And.intro @List.map_nil.{0,0} (And.intro @List.length_map.{0,0} (And.intro @List.length_append.{0} (And.intro @List.length_cons.{0} (And.intro @List.length_nil.{0} (And.intro @List.length_replicate.{0} (And.intro @List.length_set.{0} (And.intro @take_len (And.intro @BD (And.intro @BF (And.intro @true_and (And.intro @and_true (And.intro @and_self (And.intro @Nat.le_refl (And.intro @Nat.zero_add (And.intro @Nat.add_zero (And.intro @o7.eq_1 (And.intro @oQ.eq_1 (And.intro @zn.eq_1 (And.intro @Lt.eq_1 (And.intro @cI.eq_1 (And.intro @cU.eq_1 (And.intro @cB.eq_1 (And.intro @cS.eq_1 (And.intro @cL.eq_1 (And.intro @cK.eq_1 (And.intro @List.map_append.{0,0} (And.intro @List.cons_append.{0} (And.intro @List.nil_append.{0} (And.intro @af.gQ (And.intro @nO.gQ (And.intro @StoreT.gQ (And.intro @aA.gQ (And.intro @RequestT.gQ (And.intro @aj.gQ @ReaderT.gQ))))))))))))))))))))))))))))))))))))))))))))))))))))))))
theorem lnR:type_of% ZQ:=ZQ
def ZM:=And.intro @Jh.eq_1 (And.intro @Jh.eq_2 (And.intro @Jc.eq_1 (And.intro @Jc.eq_2 (And.intro @vZ (And.intro @mP.eq_1 (And.intro @mP.eq_2 (And.intro @uo.eq_1 (And.intro @uo.eq_2 (And.intro @List.getD_cons_zero.{0} (And.intro @List.getD_cons_succ.{0} (And.intro @List.cons_append.{0} (And.intro @List.nil_append.{0} (And.intro @List.append_nil.{0} (And.intro @List.map_cons.{0,0} (And.intro @List.map_nil.{0,0} (And.intro @List.map_append.{0,0} (And.intro @List.map_set.{0,0} (And.intro @List.length_append.{0} (And.intro @List.length_cons.{0} (And.intro @List.length_nil.{0} (And.intro @List.length_map.{0,0} (And.intro @List.length_set.{0} (And.intro @List.length_replicate.{0} (And.intro @List.replicate_zero.{0} (And.intro @List.replicate_succ.{0} (And.intro @List.map_replicate.{0,0} (And.intro @Nat.zero_add (And.intro @Nat.add_zero (And.intro @uD.eq_1 (And.intro @uD.eq_2 (And.intro @uD.eq_3 (And.intro @and_self (And.intro @and_true (And.intro @true_and (And.intro @cI.eq_1 (And.intro @cU.eq_1 (And.intro @cB.eq_1 (And.intro @cS.eq_1 (And.intro @cL.eq_1 (And.intro @cK.eq_1 (And.intro @af.gQ (And.intro @nO.gQ (And.intro @StoreT.gQ (And.intro @aA.gQ (And.intro @RequestT.gQ (And.intro @aj.gQ @ReaderT.gQ))))))))))))))))))))))))))))))))))))))))))))))
theorem yw:type_of% ZM:=ZM
def ZN:=And.intro @Jh.eq_1 (And.intro @Jh.eq_2 (And.intro @Jc.eq_1 (And.intro @Jc.eq_2 (And.intro @vZ (And.intro @mP.eq_1 (And.intro @mP.eq_2 (And.intro @uo.eq_1 (And.intro @uo.eq_2 (And.intro @List.getD_cons_zero.{0} (And.intro @List.getD_cons_succ.{0} (And.intro @List.cons_append.{0} (And.intro @List.nil_append.{0} (And.intro @List.append_nil.{0} (And.intro @List.map_cons.{0,0} (And.intro @List.map_nil.{0,0} (And.intro @List.map_append.{0,0} (And.intro @List.map_set.{0,0} (And.intro @List.length_append.{0} (And.intro @List.length_cons.{0} (And.intro @List.length_nil.{0} (And.intro @List.length_map.{0,0} (And.intro @List.length_set.{0} (And.intro @List.length_replicate.{0} (And.intro @List.replicate_zero.{0} (And.intro @List.replicate_succ.{0} (And.intro @List.map_replicate.{0,0} (And.intro @Nat.zero_add (And.intro @Nat.add_zero (And.intro @uD.eq_1 (And.intro @uD.eq_2 (And.intro @uD.eq_3 (And.intro @and_self (And.intro @and_true (And.intro @true_and (And.intro @cI.eq_1 (And.intro @cU.eq_1 (And.intro @cB.eq_1 (And.intro @cS.eq_1 (And.intro @cL.eq_1 (And.intro @cK.eq_1 (And.intro @af.gQ (And.intro @nO.gQ (And.intro @StoreT.gQ (And.intro @aA.gQ (And.intro @RequestT.gQ (And.intro @aj.gQ (And.intro @ReaderT.gQ (And.intro @Qw (And.intro @H8.eq_1 (And.intro @H8.eq_2 (And.intro @xU.eq_1 (And.intro @xU.eq_2 (And.intro @List.flatMap_cons.{0,0} (And.intro @List.flatMap_nil.{0,0} (And.intro @AV.owns.eq_1 (And.intro @AV.owns.eq_2 (And.intro @AV.owns.eq_3 (And.intro @kU.eq_1 (And.intro @kU.eq_2 (And.intro @kU.eq_3 (And.intro @List.contains_cons.{0} (And.intro @List.contains_nil.{0} (And.intro @Bool.or_false (And.intro @Bool.or_true (And.intro @Bool.false_or (And.intro @if_true.{1} (And.intro @if_false.{1} (And.intro @Bool.false_eq_true (And.intro @tV.eq_1 (And.intro @tV.eq_2 (And.intro @tV.eq_3 (And.intro @vY.eq_1 (And.intro @vY.eq_2 (And.intro @vY.eq_3 (And.intro @qi.eq_1 (And.intro @qi.eq_2 (And.intro @qi.eq_3 (And.intro @qK.eq_1 (And.intro @qK.eq_2 (And.intro @qK.eq_3 (And.intro @Box.arr.eq_1 (And.intro @Box.arr.eq_2 (And.intro @Box.arr.eq_3 (And.intro @AV.cells.eq_1 (And.intro @AV.cells.eq_2 (And.intro @AV.cells.eq_3 (And.intro @Nat.le_refl (And.intro @take_len (And.intro @BD (And.intro @BF (And.intro @o7.eq_1 (And.intro @oQ.eq_1 (And.intro @zn.eq_1 @Lt.eq_1)))))))))))))))))))))))))))))))))))))))))))))))))))))))))))))))))))))))))))))))))))))))))))))
theorem Z7:type_of% ZN:=ZN
end Go.Ab
end
section
namespace Go.Ab
open Go
set_option maxRecDepth 100000
set_option linter.unusedVariables false
abbrev zN:List AC:=[.c (.lit (.int .i64 0)),.c (.lit (.int .i64 0)),.c (.str []),.cO 1,.cO 5]
abbrev wI (z:Int):AC := .c (.lit (.int .i64 z))
abbrev wS (s:aG):AC := .c (.str s)
abbrev wT (l:List aG):AC := .c (.sl 1 (List.map cS l))
abbrev wK (l:List af):AC := .c (.sl 5 (List.map af.cells l))
abbrev wN (x:af):List AC:=[wI x.Kind,wI x.Num,wS x.Text,wT x.Names,wK x.Kids]
abbrev eP (a b:Nat):Nat × Slot:=(a,.v true (.one (.ptr b 0)))
abbrev eI (a:Nat) (z:Int):Nat × Slot:=(a,.v true (.one (wI z)))
abbrev eS (a:Nat) (z:aG):Nat × Slot:=(a,.v true (.one (wS z)))
abbrev eT (a:Nat) (z:List aG):Nat × Slot:=(a,.v true (.one (wT z)))
def pp {α:Sort _} {β:Sort _} (a:α) (b:β):PProd α β:=⟨a,b⟩
theorem ihL {n:Nat} {A B:Nat->Prop} (h:∀ m,m<n->A m/\B m):∀ m,m<n->A m:=fun m hm=>(h m hm).1
theorem ihR {n:Nat} {A B:Nat->Prop} (h:∀ m,m<n->A m/\B m):∀ m,m<n->B m:=fun m hm=>(h m hm).2
theorem bf (zs:List Nat) (pi:List (Nat × Nat)) (vs:List Nat) {m:Nat} {VD ts:List (Nat × Slot)} {wM bs:List (Nat × Box)} (hk:EO m wM bs pi vs=true)
  (hb:IU zs (mP wM) (IZ pi) vs bs) (ht:N7 zs (mP wM) (IZ pi) vs VD ts):BH m (dB.of VD wM) (dB.of ts bs):=wH zs pi vs hk hb ht
theorem ni (zs:List Nat) (pi:List (Nat × Nat)) (vs:List Nat) {rs:List sF} {ts:List (Nat × Slot)} {wM:List (Nat × Box)} {m:Nat} {r:AV} {bs:List Box} (hk:EO m wM (uI bs 0) pi vs=true)
  (hok:xk (dB.of ts wM) rs) (hb:IU zs (mP wM) (IZ pi) vs (uI bs 0)) (hv:QH zs (mP wM) (IZ pi) vs (Jd (dB.of ts wM) rs) r) :
  BM rs m (fun r1 b1=>r1=r/\b1=bs) (dB.of ts wM):=qw zs pi vs hk hok hb hv
section
variable {P:Program} {f:FuncId} {oC:List AV} {d:Option Nat} {st:dB} {K:List Nat->List Nat->dB->Prop} {du:DU K} {Q:AQ}
theorem cG (sg nu:List Nat) {P:Program} {f:FuncId} {oC:List AV} {d:Option Nat} {st:dB} {K:List Nat->List Nat->dB->Prop} {du:DU K} {ds:List AV} {fp wM:List Box} {r0:AV} (h:fF P f ds fp (fun r bs=>r=r0/\bs=wM)) (hl:sg.length=fp.length) (hn:nodupB (sg++nu)=true) (hf:Jh st (sg++nu) fp 0) (hv:Jc st nu)
  (hra:(ds.all fun x=>x.all (AC.oK fp.length))=true) (hrf:fp.all (Box.oK fp.length)=true) (ha:oC=ds.map (uD fun b=>(sg++nu).getD b 0)) (hb:wM.length=(sg++nu).length)
  (k:K (sg++nu) (sg++nu) ((st.mY ((sg++nu).zip (wM.map (uo fun b=>(sg++nu).getD b 0)))).ru d (.v true (uD (fun b=>(sg++nu).getD b 0) r0)))):oJ P f oC true d st K du:=xI sg nu h hl hn hf hv hra hrf ha hb k
theorem cH (sg nu:List Nat) {P:Program} {f:FuncId} {oC:List AV} {d:Option Nat} {st:dB} {K:List Nat->List Nat->dB->Prop} {du:DU K} {ds:List AV} {fp wM:List Box} {r0:AV} (h:fF P f ds fp (fun r bs=>r=r0/\bs=wM)) (he:oC.map (tV st.bx)=ds.map (uD fun b=>(sg++nu).getD b 0)) (hlo:qi st.bx oC)
  (hl:sg.length=fp.length) (hn:nodupB (sg++nu)=true) (hf:Jh (st.vO (oC.flatMap AV.owns)) (sg++nu) fp 0) (hv:Jc st nu)
  (hra:(ds.all fun x=>x.all (AC.oK fp.length))=true) (hrf:fp.all (Box.oK fp.length)=true) (hb:wM.length=(sg++nu).length)
  (k:K (oC.flatMap AV.owns++(sg++nu)) (oC.flatMap AV.owns++(sg++nu)) (((st.vO (oC.flatMap AV.owns)).mY ((sg++nu).zip (wM.map (uo fun b=>(sg++nu).getD b 0)))).ru d (.v true (uD (fun b=>(sg++nu).getD b 0) r0)))):oJ P f oC true d st K du:=Yz sg nu h he hlo hl hn hf hv hra hrf hb k
theorem pq (X:Type) (R:Type) (g:Nat->X->Option R) (r:R) (S:X->dB) (N:Nat) {P:Program} {st:dB} {Q:AQ} {a b:aT} {d1:DU (wpC P a)} {d2:DU (wpC P b)} {d3:DU Q}
  (h1:sQ P a (pg.then (fun st'=>∃ x m,(g m x=some r/\m<=N)/\BH 10 st' (S x)) Q) st .mk .mk) (h2:∀ n x,n<=N->g n x=some r->sQ P b Q (S x) .mk .mk):Dq (wpC P a) (wpC P b) Q st d1 d2 d3:=by
 refine XM (X:=X × Nat) (fun p=>g p.2 p.1=some r/\p.2<=N) (fun p=>S p.1) (wpC_mono (fun e st h => ?_) h1) (fun p hp=>h2 p.2 p.1 hp.2 hp.1)
 cases e with
 | normal=>obtain ⟨x,m,h,hw⟩:=h; exact ⟨(x,m),h,hw⟩
 | _=>exact h
theorem lS (X:Type) (R:Type) (g:Nat->X->Option R) (r:R) (S:X->dB) (N:Nat) {P:Program} {st:dB} {Q:AQ} {a:aT} {d1:DU (wpC P a)} {d2:DU Q} (h0:∃ x m,(g m x=some r/\m<=N)/\BH 10 st (S x))
  (h:∀ n x,n<=N->g n x=some r->sQ P a (pg.then (fun st'=>∃ x' m,(g m x'=some r/\m<=N/\m<n)/\BH 10 st' (S x')) Q) (S x) .mk .mk):yN (wpC P a) Q st d1 d2:=by
 obtain ⟨x,m,h0,hw⟩:=h0
 refine U1 (X:=X × Nat) (fun p=>g p.2 p.1=some r/\p.2<=N) (fun p=>S p.1) (fun p=>p.2) (x,m) h0 hw (fun p hp=>wpC_mono (fun e st h => ?_) (h p.2 p.1 hp.2 hp.1))
 cases e with
 | normal=>obtain ⟨x,m,h,hw⟩:=h; exact ⟨(x,m),⟨⟨h.1,h.2.1⟩,h.2.2⟩,hw⟩
 | _=>exact h
end
theorem En {p:Prop} (x:p:=by simp -dsimp only [NZ,wJ,tK,reduceIte,Nat.reduceEqDiff,reduceCtorEq]<;>simp [List.take_of_length_le]<;>fail):p:=x
theorem Zz {p:Prop} (x:p:=by (simp -dsimp only [peR,reduceIte,Nat.reduceEqDiff,Nat.reduceAdd,Nat.reduceLeDiff,reduceCtorEq]<;>first | (simp [List.take_of_length_le]; done) | ((try simp only [List.map_take,List.map_drop,List.map_append,List.map_cons,List.map_nil])<;>(repeat' apply And.intro)<;>first | rfl | (simp; done) | (simp<;>omega; done) | (congr 1; exact (List.take_of_length_le (by simp<;>omega)).symm)))):p:=x
theorem rF {p:Prop} (x:p:=by (simp -dsimp only [I4,wJ,tK,reduceIte,Nat.reduceEqDiff,reduceCtorEq,Nat.reduceAdd,Nat.reduceLeDiff]<;>first | (simp [List.take_of_length_le]; done) | ((try simp only [List.map_take,List.map_drop,List.map_append,List.map_cons,List.map_nil])<;>(repeat' apply And.intro)<;>first | rfl | (simp; done) | (simp<;>omega; done) | (congr 1; exact (List.take_of_length_le (by simp<;>omega)).symm)))):p:=x
theorem Xy {p:Prop} (x:p:=by (simp only [lnR,reduceIte,Nat.reduceEqDiff]<;>omega)):p:=x
theorem wV {p:Prop} (x:p:=by (simp only [yw,jC,reduceIte,Nat.reduceEqDiff,Nat.reduceLeDiff,Nat.reduceAdd]<;>omega)):p:=x
theorem Gs {p:Prop} (x:p:=by first | rfl | (simp only [yw,jC,reduceIte,Nat.reduceEqDiff,Nat.reduceLeDiff,Nat.reduceAdd]<;>omega)):p:=x
theorem qf {p:Prop} (x:p:=by (simp only [Z7,jC,reduceIte,Nat.reduceEqDiff,Nat.reduceLeDiff,Nat.reduceAdd,Nat.reduceBEq]<;>omega)):p:=x
theorem x8 {p:Prop} (x:p:=by ((try simp only [Prod.exists]); (first | refine ⟨_,_,⟨h,?_⟩,?_⟩ | refine ⟨_,_,_,⟨h,?_⟩,?_⟩ | refine ⟨_,_,_,_,⟨h,?_⟩,?_⟩ | refine ⟨_,_,_,_,_,⟨h,?_⟩,?_⟩ | refine ⟨_,_,_,_,_,_,⟨h,?_⟩,?_⟩ | refine ⟨_,_,_,_,_,_,_,⟨h,?_⟩,?_⟩ | refine ⟨_,_,_,_,_,_,_,_,⟨h,?_⟩,?_⟩ | refine ⟨_,_,_,_,_,_,_,_,_,⟨h,?_⟩,?_⟩ | refine ⟨_,_,_,_,_,_,_,_,_,_,⟨h,?_⟩,?_⟩ | refine ⟨_,_,_,_,_,_,_,_,_,_,_,⟨h,?_⟩,?_⟩ | refine ⟨_,_,_,_,_,_,_,_,_,_,_,_,⟨h,?_⟩,?_⟩ | refine ⟨_,_,_,_,_,_,_,_,_,_,_,_,_,⟨h,?_⟩,?_⟩ | refine ⟨_,_,_,_,_,_,_,_,_,_,_,_,_,_,⟨h,?_⟩,?_⟩ | refine ⟨_,_,_,_,_,_,_,_,_,_,_,_,_,_,_,⟨h,?_⟩,?_⟩ | refine ⟨_,_,_,_,_,_,_,_,_,_,_,_,_,_,_,_,⟨h,?_⟩,?_⟩ | refine ⟨_,_,_,_,_,_,_,_,_,_,_,_,_,_,_,_,_,⟨h,?_⟩,?_⟩ | refine ⟨_,_,_,_,_,_,_,_,_,_,_,_,_,_,_,_,_,_,⟨h,?_⟩,?_⟩ | refine ⟨_,_,_,_,_,_,_,_,_,_,_,_,_,_,_,_,_,_,_,⟨h,?_⟩,?_⟩ | refine ⟨_,_,_,_,_,_,_,_,_,_,_,_,_,_,_,_,_,_,_,_,⟨h,?_⟩,?_⟩ | refine ⟨_,_,_,_,_,_,_,_,_,_,_,_,_,_,_,_,_,_,_,_,_,⟨h,?_⟩,?_⟩ | refine ⟨_,_,_,_,_,_,_,_,_,_,_,_,_,_,_,_,_,_,_,_,_,_,⟨h,?_⟩,?_⟩ | refine ⟨_,_,_,_,_,_,_,_,_,_,_,_,_,_,_,_,_,_,_,_,_,_,_,⟨h,?_⟩,?_⟩ | refine ⟨_,_,_,_,_,_,_,_,_,_,_,_,_,_,_,_,_,_,_,_,_,_,_,_,⟨h,?_⟩,?_⟩ | refine ⟨(),_,⟨h,?_⟩,?_⟩); (focus omega); first | exact zj.1 (by rfl) En En | exact zj.2.1 (by rfl) En En | exact zj.2.2.1 (by rfl) En En | exact zj.2.2.2.1 (by rfl) En En | exact zj.2.2.2.2.1 (by rfl) En En | exact zj.2.2.2.2.2.1 (by rfl) En En | exact zj.2.2.2.2.2.2.1 (by rfl) En En | exact zj.2.2.2.2.2.2.2.1 (by rfl) En En | exact zj.2.2.2.2.2.2.2.2.1 (by rfl) En En | exact zj.2.2.2.2.2.2.2.2.2.1 (by rfl) En En | exact zj.2.2.2.2.2.2.2.2.2.2.1 (by rfl) En En | exact zj.2.2.2.2.2.2.2.2.2.2.2.1 (by rfl) En En | exact zj.2.2.2.2.2.2.2.2.2.2.2.2.1 (by rfl) En En | exact zj.2.2.2.2.2.2.2.2.2.2.2.2.2.1 (by rfl) En En)):p:=x
theorem lD {p:Prop} (x:p:=by
  obtain ⟨zc,zg,zk,zu,ze,zj,zt⟩:=z
  try simp only [wN,wI,wS,wT,wK,zN,eP,eI,eS,eT] at zc zk zu zt zj ⊢
  repeat' first
  | (clear h; (with_reducible intro n x hn h); rcases n with _ | n<;>simp only [ze.1,reduceCtorEq] at h)
  | (simp only [reduceCtorEq] at h; done)
  | ((with_reducible replace h:=Zu h); obtain ⟨_,_,h⟩:=h)
  | ((with_reducible replace h:=Zv h); obtain ⟨_,_,h⟩:=h)
  | ((with_reducible replace h:=kq h); obtain ⟨_,h⟩:=h)
  | ((with_reducible replace h:=sq h); subst h; have h:=True.intro)
  | (try simp -dsimp only [sK,dS.iq,dS.f,dS.rd,iL,ig,lvl,iV,reduceIte,Nat.reduceEqDiff,Nat.reduceAdd,Nat.reduceLeDiff,Nat.reduceBEq,reduceCtorEq,Int.reduceBNe,Int.reduceBEq,Int.reduceLT,Int.reduceLE,Int.reduceNeg,Nat.reduceLT,iM,Int.reduceToNat,jC, *]
     repeat ((with_reducible refine And.intro ?_ ?_); focus first | (show ja _ _ _ _=true; kernel_rfl) | (show gX _ _=true; kernel_rfl) | omega | assumption | (show _<=maxLen; decide))
     first
     | with_reducible refine Ub ?_
     | ((with_reducible refine Xw ?_); with_reducible refine zu.1 n ?_ ?_)
     | ((with_reducible refine Pj ?_); first | ((with_reducible refine zk.1 n ?_ ?_); (focus exact x8)) | ((with_reducible refine zk.2.1 n ?_ ?_); (focus exact x8)) | ((with_reducible refine zk.2.2.1 n ?_ ?_); (focus exact x8)) | ((with_reducible refine zk.2.2.2.1 n ?_ ?_); (focus exact x8)) | ((with_reducible refine zk.2.2.2.2.1 n ?_ ?_); (focus exact x8)) | ((with_reducible refine zk.2.2.2.2.2.1 n ?_ ?_); (focus exact x8)))
     | ((with_reducible refine UH ?_); (with_reducible replace h:=bq h); obtain ⟨_,hv,h⟩:=h; first | ((first | with_reducible have hc:=zc.1 hv | with_reducible have hc:=zc.1 _ (by omega) hv | with_reducible have hc:=zc.2.1 hv | with_reducible have hc:=zc.2.1 _ (by omega) hv | with_reducible have hc:=zc.2.2.1 hv | with_reducible have hc:=zc.2.2.1 _ (by omega) hv | with_reducible have hc:=zc.2.2.2.1 hv | with_reducible have hc:=zc.2.2.2.2.1 hv | with_reducible have hc:=zc.2.2.2.2.2.1 hv | with_reducible have hc:=zc.2.2.2.2.2.2.1 hv | with_reducible have hc:=zc.2.2.2.2.2.2.2.1 hv | with_reducible have hc:=zc.2.2.2.2.2.2.2.2.1 hv | with_reducible have hc:=zc.2.2.2.2.2.2.2.2.2.1 hv | with_reducible have hc:=zc.2.2.2.2.2.2.2.2.2.2.1 hv | with_reducible have hc:=zc.2.2.2.2.2.2.2.2.2.2.2.1 hv | with_reducible have hc:=zc.2.2.2.2.2.2.2.2.2.2.2.2.1 hv | with_reducible have hc:=zc.2.2.2.2.2.2.2.2.2.2.2.2.2.1 hv | with_reducible have hc:=zc.2.2.2.2.2.2.2.2.2.2.2.2.2.2.1 hv | with_reducible have hc:=zc.2.2.2.2.2.2.2.2.2.2.2.2.2.2.2.1 hv | with_reducible have hc:=zc.2.2.2.2.2.2.2.2.2.2.2.2.2.2.2.2.1 hv | with_reducible have hc:=zc.2.2.2.2.2.2.2.2.2.2.2.2.2.2.2.2.2.1 hv | with_reducible have hc:=zc.2.2.2.2.2.2.2.2.2.2.2.2.2.2.2.2.2.2.1 hv | with_reducible have hc:=zc.2.2.2.2.2.2.2.2.2.2.2.2.2.2.2.2.2.2.2.1 hv | with_reducible have hc:=zc.2.2.2.2.2.2.2.2.2.2.2.2.2.2.2.2.2.2.2.2.1 hv | with_reducible have hc:=zc.2.2.2.2.2.2.2.2.2.2.2.2.2.2.2.2.2.2.2.2.2.1 hv); (first | refine Ua (fun _=>hc) rfl rfl ?_ | refine Xo hc rfl rfl ?_ | refine Xn hc Xy Xy rfl rfl ?_ | refine Xm hc Xy Xy rfl rfl ?_)) | ((first | with_reducible have hc:=zg.1.1 hv | with_reducible have hc:=zg.1.1 _ (by omega) hv); (first | refine zg.1.2 hc rfl rfl wV wV rfl rfl Gs rfl ?_ | refine zg.1.2 hc qf qf rfl rfl qf qf rfl rfl rfl ?_)) | ((first | with_reducible have hc:=zg.2.1.1 hv | with_reducible have hc:=zg.2.1.1 _ (by omega) hv); (first | refine zg.2.1.2 hc rfl rfl wV wV rfl rfl Gs rfl ?_ | refine zg.2.1.2 hc qf qf rfl rfl qf qf rfl rfl rfl ?_)) | ((first | with_reducible have hc:=zg.2.2.1.1 hv | with_reducible have hc:=zg.2.2.1.1 _ (by omega) hv); (first | refine zg.2.2.1.2 hc rfl rfl wV wV rfl rfl Gs rfl ?_ | refine zg.2.2.1.2 hc qf qf rfl rfl qf qf rfl rfl rfl ?_)) | ((with_reducible have hc:=zg.2.2.2.1.1 hv); (first | refine zg.2.2.2.1.2 hc rfl rfl wV wV rfl rfl Gs rfl ?_ | refine zg.2.2.2.1.2 hc qf qf rfl rfl qf qf rfl rfl rfl ?_)) | ((with_reducible have hc:=zg.2.2.2.2.1.1 hv); (first | refine zg.2.2.2.2.1.2 hc rfl rfl wV wV rfl rfl Gs rfl ?_ | refine zg.2.2.2.2.1.2 hc qf qf rfl rfl qf qf rfl rfl rfl ?_)) | ((with_reducible have hc:=zg.2.2.2.2.2.1.1 hv); (first | refine zg.2.2.2.2.2.1.2 hc rfl rfl wV wV rfl rfl Gs rfl ?_ | refine zg.2.2.2.2.2.1.2 hc qf qf rfl rfl qf qf rfl rfl rfl ?_)) | ((with_reducible have hc:=zg.2.2.2.2.2.2.1.1 hv); (first | refine zg.2.2.2.2.2.2.1.2 hc rfl rfl wV wV rfl rfl Gs rfl ?_ | refine zg.2.2.2.2.2.2.1.2 hc qf qf rfl rfl qf qf rfl rfl rfl ?_)) | ((with_reducible have hc:=zg.2.2.2.2.2.2.2.1.1 hv); (first | refine zg.2.2.2.2.2.2.2.1.2 hc rfl rfl wV wV rfl rfl Gs rfl ?_ | refine zg.2.2.2.2.2.2.2.1.2 hc qf qf rfl rfl qf qf rfl rfl rfl ?_)) | ((with_reducible have hc:=zg.2.2.2.2.2.2.2.2.1.1 hv); (first | refine zg.2.2.2.2.2.2.2.2.1.2 hc rfl rfl wV wV rfl rfl Gs rfl ?_ | refine zg.2.2.2.2.2.2.2.2.1.2 hc qf qf rfl rfl qf qf rfl rfl rfl ?_)) | ((with_reducible have hc:=zg.2.2.2.2.2.2.2.2.2.1.1 hv); (first | refine zg.2.2.2.2.2.2.2.2.2.1.2 hc rfl rfl wV wV rfl rfl Gs rfl ?_ | refine zg.2.2.2.2.2.2.2.2.2.1.2 hc qf qf rfl rfl qf qf rfl rfl rfl ?_)) | ((with_reducible have hc:=zg.2.2.2.2.2.2.2.2.2.2.1.1 hv); (first | refine zg.2.2.2.2.2.2.2.2.2.2.1.2 hc rfl rfl wV wV rfl rfl Gs rfl ?_ | refine zg.2.2.2.2.2.2.2.2.2.2.1.2 hc qf qf rfl rfl qf qf rfl rfl rfl ?_)) | ((with_reducible have hc:=zg.2.2.2.2.2.2.2.2.2.2.2.1.1 hv); (first | refine zg.2.2.2.2.2.2.2.2.2.2.2.1.2 hc rfl rfl wV wV rfl rfl Gs rfl ?_ | refine zg.2.2.2.2.2.2.2.2.2.2.2.1.2 hc qf qf rfl rfl qf qf rfl rfl rfl ?_)) | ((with_reducible have hc:=zg.2.2.2.2.2.2.2.2.2.2.2.2.1.1 hv); (first | refine zg.2.2.2.2.2.2.2.2.2.2.2.2.1.2 hc rfl rfl wV wV rfl rfl Gs rfl ?_ | refine zg.2.2.2.2.2.2.2.2.2.2.2.2.1.2 hc qf qf rfl rfl qf qf rfl rfl rfl ?_)) | ((with_reducible have hc:=zg.2.2.2.2.2.2.2.2.2.2.2.2.2.1.1 hv); (first | refine zg.2.2.2.2.2.2.2.2.2.2.2.2.2.1.2 hc rfl rfl wV wV rfl rfl Gs rfl ?_ | refine zg.2.2.2.2.2.2.2.2.2.2.2.2.2.1.2 hc qf qf rfl rfl qf qf rfl rfl rfl ?_)))
     | ((with_reducible replace h:=cq h); rcases h with ⟨c,h⟩ | ⟨c,h⟩<;>try (simp only [*,Bool.false_eq_true,reduceCtorEq] at c; done))
     | ((with_reducible refine X8 ?_); exact x8)
     | ((with_reducible refine UI ?_); exact Zz)
     | ((with_reducible refine UK ?_); first | exact zt.1 (by rfl) rF rF rF | exact zt.2.1 (by rfl) rF rF rF | exact zt.2.2.1 (by rfl) rF rF rF | exact zt.2.2.2.1 (by rfl) rF rF rF | exact zt.2.2.2.2.1 (by rfl) rF rF rF | exact zt.2.2.2.2.2.1 (by rfl) rF rF rF | exact zt.2.2.2.2.2.2.1 (by rfl) rF rF rF | exact zt.2.2.2.2.2.2.2.1 (by rfl) rF rF rF | exact zt.2.2.2.2.2.2.2.2.1 (by rfl) rF rF rF | exact zt.2.2.2.2.2.2.2.2.2.1 (by rfl) rF rF rF | exact zt.2.2.2.2.2.2.2.2.2.2.1 (by rfl) rF rF rF | exact zt.2.2.2.2.2.2.2.2.2.2.2.1 (by rfl) rF rF rF)
     | (cases h; done))):p:=x
theorem Ht {p:Prop} (x:p:=by
  obtain ⟨zc,zg,zk,zu,ze,zj,zt,zq⟩:=z
  try simp only [wN,wI,wS,wT,wK,zN,eP,eI,eS,eT] at zc zk zu zt zj ⊢
  repeat' first
  | (clear h; (with_reducible intro n x hn h); rcases n with _ | n<;>simp only [ze.1,reduceCtorEq] at h)
  | (simp only [reduceCtorEq] at h; done)
  | ((with_reducible replace h:=Zu h); obtain ⟨_,_,h⟩:=h)
  | ((with_reducible replace h:=Zv h); obtain ⟨_,_,h⟩:=h)
  | ((with_reducible replace h:=kq h); obtain ⟨_,h⟩:=h)
  | ((with_reducible replace h:=sq h); subst h; have h:=True.intro)
  | (try simp -dsimp only [sK,dS.iq,dS.f,dS.rd,iL,ig,lvl,iV,reduceIte,Nat.reduceEqDiff,Nat.reduceAdd,Nat.reduceLeDiff,Nat.reduceBEq,reduceCtorEq,Int.reduceBNe,Int.reduceBEq,Int.reduceLT,Int.reduceLE,Int.reduceNeg,Nat.reduceLT,iM,Int.reduceToNat,jC, *]
     repeat ((with_reducible refine And.intro ?_ ?_); focus first | (show ja _ _ _ _=true; kernel_rfl) | (show gX _ _=true; kernel_rfl) | omega | assumption | (show _<=maxLen; decide))
     first
     | with_reducible refine Ub ?_
     | ((with_reducible refine Xw ?_); first | (rename Mk 1=>tk; clear tk; have:True:=(by (first | rewrite [zq.1.1] at h | rewrite [zq.1.2.1] at h | rewrite [zq.1.2.2.1] at h | rewrite [zq.1.2.2.2.1] at h | rewrite [zq.1.2.2.2.2.1] at h | rewrite [zq.1.2.2.2.2.2.1] at h | rewrite [zq.1.2.2.2.2.2.2.1] at h | rewrite [zq.1.2.2.2.2.2.2.2.1] at h); exact True.intro); with_reducible refine zu.1 n ?_ ?_) | (rename Mk 2=>tk; clear tk; have:True:=(by (first | rewrite [zq.2.1.1] at h | rewrite [zq.2.1.2.1] at h | rewrite [zq.2.1.2.2.1] at h | rewrite [zq.2.1.2.2.2.1] at h | rewrite [zq.2.1.2.2.2.2.1] at h | rewrite [zq.2.1.2.2.2.2.2.1] at h | rewrite [zq.2.1.2.2.2.2.2.2.1] at h | rewrite [zq.2.1.2.2.2.2.2.2.2.1] at h); exact True.intro); with_reducible refine zu.2.1 n ?_ ?_) | (rename Mk 3=>tk; clear tk; have:True:=(by (first | rewrite [zq.2.2.1.1] at h | rewrite [zq.2.2.1.2.1] at h | rewrite [zq.2.2.1.2.2.1] at h | rewrite [zq.2.2.1.2.2.2.1] at h | rewrite [zq.2.2.1.2.2.2.2.1] at h | rewrite [zq.2.2.1.2.2.2.2.2.1] at h | rewrite [zq.2.2.1.2.2.2.2.2.2.1] at h | rewrite [zq.2.2.1.2.2.2.2.2.2.2.1] at h); exact True.intro); with_reducible refine zu.2.2.1 n ?_ ?_) | (rename Mk 4=>tk; clear tk; have:True:=(by (first | rewrite [zq.2.2.2.1.1] at h | rewrite [zq.2.2.2.1.2.1] at h | rewrite [zq.2.2.2.1.2.2.1] at h | rewrite [zq.2.2.2.1.2.2.2.1] at h | rewrite [zq.2.2.2.1.2.2.2.2.1] at h | rewrite [zq.2.2.2.1.2.2.2.2.2.1] at h | rewrite [zq.2.2.2.1.2.2.2.2.2.2.1] at h | rewrite [zq.2.2.2.1.2.2.2.2.2.2.2.1] at h); exact True.intro); with_reducible refine zu.2.2.2.1 n ?_ ?_) | (rename Mk 5=>tk; clear tk; have:True:=(by (first | rewrite [zq.2.2.2.2.1.1] at h | rewrite [zq.2.2.2.2.1.2.1] at h | rewrite [zq.2.2.2.2.1.2.2.1] at h | rewrite [zq.2.2.2.2.1.2.2.2.1] at h | rewrite [zq.2.2.2.2.1.2.2.2.2.1] at h | rewrite [zq.2.2.2.2.1.2.2.2.2.2.1] at h | rewrite [zq.2.2.2.2.1.2.2.2.2.2.2.1] at h | rewrite [zq.2.2.2.2.1.2.2.2.2.2.2.2.1] at h); exact True.intro); with_reducible refine zu.2.2.2.2.1 n ?_ ?_) | (rename Mk 6=>tk; clear tk; have:True:=(by (first | rewrite [zq.2.2.2.2.2.1.1] at h | rewrite [zq.2.2.2.2.2.1.2.1] at h | rewrite [zq.2.2.2.2.2.1.2.2.1] at h | rewrite [zq.2.2.2.2.2.1.2.2.2.1] at h | rewrite [zq.2.2.2.2.2.1.2.2.2.2.1] at h | rewrite [zq.2.2.2.2.2.1.2.2.2.2.2.1] at h | rewrite [zq.2.2.2.2.2.1.2.2.2.2.2.2.1] at h | rewrite [zq.2.2.2.2.2.1.2.2.2.2.2.2.2.1] at h); exact True.intro); with_reducible refine zu.2.2.2.2.2.1 n ?_ ?_))
     | ((with_reducible refine Pj ?_); first | ((with_reducible refine zk.1 n ?_ ?_); (focus exact x8)) | ((with_reducible refine zk.2.1 n ?_ ?_); (focus exact x8)) | ((with_reducible refine zk.2.2.1 n ?_ ?_); (focus exact x8)) | ((with_reducible refine zk.2.2.2.1 n ?_ ?_); (focus exact x8)) | ((with_reducible refine zk.2.2.2.2.1 n ?_ ?_); (focus exact x8)) | ((with_reducible refine zk.2.2.2.2.2.1 n ?_ ?_); (focus exact x8)))
     | ((with_reducible refine UH ?_); (with_reducible replace h:=bq h); obtain ⟨_,hv,h⟩:=h; first | ((first | with_reducible have hc:=zc.1 hv | with_reducible have hc:=zc.1 _ (by omega) hv | with_reducible have hc:=zc.2.1 hv | with_reducible have hc:=zc.2.1 _ (by omega) hv | with_reducible have hc:=zc.2.2.1 hv | with_reducible have hc:=zc.2.2.1 _ (by omega) hv | with_reducible have hc:=zc.2.2.2.1 hv | with_reducible have hc:=zc.2.2.2.2.1 hv | with_reducible have hc:=zc.2.2.2.2.2.1 hv | with_reducible have hc:=zc.2.2.2.2.2.2.1 hv | with_reducible have hc:=zc.2.2.2.2.2.2.2.1 hv | with_reducible have hc:=zc.2.2.2.2.2.2.2.2.1 hv | with_reducible have hc:=zc.2.2.2.2.2.2.2.2.2.1 hv | with_reducible have hc:=zc.2.2.2.2.2.2.2.2.2.2.1 hv | with_reducible have hc:=zc.2.2.2.2.2.2.2.2.2.2.2.1 hv | with_reducible have hc:=zc.2.2.2.2.2.2.2.2.2.2.2.2.1 hv | with_reducible have hc:=zc.2.2.2.2.2.2.2.2.2.2.2.2.2.1 hv | with_reducible have hc:=zc.2.2.2.2.2.2.2.2.2.2.2.2.2.2.1 hv | with_reducible have hc:=zc.2.2.2.2.2.2.2.2.2.2.2.2.2.2.2.1 hv | with_reducible have hc:=zc.2.2.2.2.2.2.2.2.2.2.2.2.2.2.2.2.1 hv | with_reducible have hc:=zc.2.2.2.2.2.2.2.2.2.2.2.2.2.2.2.2.2.1 hv | with_reducible have hc:=zc.2.2.2.2.2.2.2.2.2.2.2.2.2.2.2.2.2.2.1 hv | with_reducible have hc:=zc.2.2.2.2.2.2.2.2.2.2.2.2.2.2.2.2.2.2.2.1 hv | with_reducible have hc:=zc.2.2.2.2.2.2.2.2.2.2.2.2.2.2.2.2.2.2.2.2.1 hv | with_reducible have hc:=zc.2.2.2.2.2.2.2.2.2.2.2.2.2.2.2.2.2.2.2.2.2.1 hv); (first | refine Ua (fun _=>hc) rfl rfl ?_ | refine Xo hc rfl rfl ?_ | refine Xn hc Xy Xy rfl rfl ?_ | refine Xm hc Xy Xy rfl rfl ?_)) | ((first | with_reducible have hc:=zg.1.1 hv | with_reducible have hc:=zg.1.1 _ (by omega) hv); (first | refine zg.1.2 hc rfl rfl wV wV rfl rfl Gs rfl ?_ | refine zg.1.2 hc qf qf rfl rfl qf qf rfl rfl rfl ?_)) | ((first | with_reducible have hc:=zg.2.1.1 hv | with_reducible have hc:=zg.2.1.1 _ (by omega) hv); (first | refine zg.2.1.2 hc rfl rfl wV wV rfl rfl Gs rfl ?_ | refine zg.2.1.2 hc qf qf rfl rfl qf qf rfl rfl rfl ?_)) | ((first | with_reducible have hc:=zg.2.2.1.1 hv | with_reducible have hc:=zg.2.2.1.1 _ (by omega) hv); (first | refine zg.2.2.1.2 hc rfl rfl wV wV rfl rfl Gs rfl ?_ | refine zg.2.2.1.2 hc qf qf rfl rfl qf qf rfl rfl rfl ?_)) | ((with_reducible have hc:=zg.2.2.2.1.1 hv); (first | refine zg.2.2.2.1.2 hc rfl rfl wV wV rfl rfl Gs rfl ?_ | refine zg.2.2.2.1.2 hc qf qf rfl rfl qf qf rfl rfl rfl ?_)) | ((with_reducible have hc:=zg.2.2.2.2.1.1 hv); (first | refine zg.2.2.2.2.1.2 hc rfl rfl wV wV rfl rfl Gs rfl ?_ | refine zg.2.2.2.2.1.2 hc qf qf rfl rfl qf qf rfl rfl rfl ?_)) | ((with_reducible have hc:=zg.2.2.2.2.2.1.1 hv); (first | refine zg.2.2.2.2.2.1.2 hc rfl rfl wV wV rfl rfl Gs rfl ?_ | refine zg.2.2.2.2.2.1.2 hc qf qf rfl rfl qf qf rfl rfl rfl ?_)) | ((with_reducible have hc:=zg.2.2.2.2.2.2.1.1 hv); (first | refine zg.2.2.2.2.2.2.1.2 hc rfl rfl wV wV rfl rfl Gs rfl ?_ | refine zg.2.2.2.2.2.2.1.2 hc qf qf rfl rfl qf qf rfl rfl rfl ?_)) | ((with_reducible have hc:=zg.2.2.2.2.2.2.2.1.1 hv); (first | refine zg.2.2.2.2.2.2.2.1.2 hc rfl rfl wV wV rfl rfl Gs rfl ?_ | refine zg.2.2.2.2.2.2.2.1.2 hc qf qf rfl rfl qf qf rfl rfl rfl ?_)) | ((with_reducible have hc:=zg.2.2.2.2.2.2.2.2.1.1 hv); (first | refine zg.2.2.2.2.2.2.2.2.1.2 hc rfl rfl wV wV rfl rfl Gs rfl ?_ | refine zg.2.2.2.2.2.2.2.2.1.2 hc qf qf rfl rfl qf qf rfl rfl rfl ?_)) | ((with_reducible have hc:=zg.2.2.2.2.2.2.2.2.2.1.1 hv); (first | refine zg.2.2.2.2.2.2.2.2.2.1.2 hc rfl rfl wV wV rfl rfl Gs rfl ?_ | refine zg.2.2.2.2.2.2.2.2.2.1.2 hc qf qf rfl rfl qf qf rfl rfl rfl ?_)) | ((with_reducible have hc:=zg.2.2.2.2.2.2.2.2.2.2.1.1 hv); (first | refine zg.2.2.2.2.2.2.2.2.2.2.1.2 hc rfl rfl wV wV rfl rfl Gs rfl ?_ | refine zg.2.2.2.2.2.2.2.2.2.2.1.2 hc qf qf rfl rfl qf qf rfl rfl rfl ?_)) | ((with_reducible have hc:=zg.2.2.2.2.2.2.2.2.2.2.2.1.1 hv); (first | refine zg.2.2.2.2.2.2.2.2.2.2.2.1.2 hc rfl rfl wV wV rfl rfl Gs rfl ?_ | refine zg.2.2.2.2.2.2.2.2.2.2.2.1.2 hc qf qf rfl rfl qf qf rfl rfl rfl ?_)) | ((with_reducible have hc:=zg.2.2.2.2.2.2.2.2.2.2.2.2.1.1 hv); (first | refine zg.2.2.2.2.2.2.2.2.2.2.2.2.1.2 hc rfl rfl wV wV rfl rfl Gs rfl ?_ | refine zg.2.2.2.2.2.2.2.2.2.2.2.2.1.2 hc qf qf rfl rfl qf qf rfl rfl rfl ?_)) | ((with_reducible have hc:=zg.2.2.2.2.2.2.2.2.2.2.2.2.2.1.1 hv); (first | refine zg.2.2.2.2.2.2.2.2.2.2.2.2.2.1.2 hc rfl rfl wV wV rfl rfl Gs rfl ?_ | refine zg.2.2.2.2.2.2.2.2.2.2.2.2.2.1.2 hc qf qf rfl rfl qf qf rfl rfl rfl ?_)))
     | ((with_reducible replace h:=cq h); rcases h with ⟨c,h⟩ | ⟨c,h⟩<;>try (simp only [*,Bool.false_eq_true,reduceCtorEq] at c; done))
     | ((with_reducible refine X8 ?_); exact x8)
     | ((with_reducible refine UI ?_); exact Zz)
     | ((with_reducible refine UK ?_); first | exact zt.1 (by rfl) rF rF rF | exact zt.2.1 (by rfl) rF rF rF | exact zt.2.2.1 (by rfl) rF rF rF | exact zt.2.2.2.1 (by rfl) rF rF rF | exact zt.2.2.2.2.1 (by rfl) rF rF rF | exact zt.2.2.2.2.2.1 (by rfl) rF rF rF | exact zt.2.2.2.2.2.2.1 (by rfl) rF rF rF | exact zt.2.2.2.2.2.2.2.1 (by rfl) rF rF rF | exact zt.2.2.2.2.2.2.2.2.1 (by rfl) rF rF rF | exact zt.2.2.2.2.2.2.2.2.2.1 (by rfl) rF rF rF | exact zt.2.2.2.2.2.2.2.2.2.2.1 (by rfl) rF rF rF | exact zt.2.2.2.2.2.2.2.2.2.2.2.1 (by rfl) rF rF rF)
     | (cases h; done))):p:=x
theorem Zb {p:Prop} (x:p:=by
  obtain ⟨zc,zg,zk,zu,ze,zj,zt⟩:=z
  try simp only [wN,wI,wS,wT,wK,zN,eP,eI,eS,eT] at zc zk zu zt zj ⊢
  repeat' first
  | (clear h; (with_reducible intro n x hn h); rcases n with _ | n<;>simp only [ze.1,reduceCtorEq] at h)
  | (simp only [reduceCtorEq] at h; done)
  | ((with_reducible replace h:=Zu h); obtain ⟨_,_,h⟩:=h)
  | ((with_reducible replace h:=Zv h); obtain ⟨_,_,h⟩:=h)
  | ((with_reducible replace h:=kq h); obtain ⟨_,h⟩:=h)
  | ((with_reducible replace h:=sq h); subst h; have h:=True.intro)
  | (try simp -dsimp only [sK,dS.iq,dS.f,dS.rd,iL,ig,lvl,iV,reduceIte,Nat.reduceEqDiff,Nat.reduceAdd,Nat.reduceLeDiff,Nat.reduceBEq,reduceCtorEq,Int.reduceBNe,Int.reduceBEq,Int.reduceLT,Int.reduceLE,Int.reduceNeg,Nat.reduceLT,iM,Int.reduceToNat,jC,lC,rZ,oW,o5,oV,oZ,truncS,Option.map_none,Int.sub_zero,Nat.sub_zero,Int.toNat_sub,Int.ofNat_zero,List.drop_zero,List.take_length,Nat.add_sub_cancel, *]
     repeat ((with_reducible refine And.intro ?_ ?_); focus first | (show ja _ _ _ _=true; kernel_rfl) | (show gX _ _=true; kernel_rfl) | omega | assumption | (show _<=maxLen; decide))
     first
     | with_reducible refine Ub ?_
     | ((with_reducible refine Pj ?_); first | ((with_reducible refine zk.1 n ?_ ?_); (focus exact x8)) | ((with_reducible refine zk.2.1 n ?_ ?_); (focus exact x8)) | ((with_reducible refine zk.2.2.1 n ?_ ?_); (focus exact x8)) | ((with_reducible refine zk.2.2.2.1 n ?_ ?_); (focus exact x8)) | ((with_reducible refine zk.2.2.2.2.1 n ?_ ?_); (focus exact x8)) | ((with_reducible refine zk.2.2.2.2.2.1 n ?_ ?_); (focus exact x8)))
     | ((with_reducible replace h:=cq h); rcases h with ⟨c,h⟩ | ⟨c,h⟩<;>try (simp only [*,Bool.false_eq_true,reduceCtorEq] at c; done))
     | ((with_reducible refine X8 ?_); exact x8)
     | ((with_reducible refine UI ?_); exact Zz)
     | ((with_reducible refine UK ?_); first | exact zt.1 (by rfl) rF rF rF | exact zt.2.1 (by rfl) rF rF rF | exact zt.2.2.1 (by rfl) rF rF rF)
     | (cases h; done))):p:=x
end Go.Ab
end
section
namespace Go.Ab
open Go
set_option maxRecDepth 100000
set_option maxHeartbeats 4000000
set_option linter.unusedVariables false
set_option linter.unusedSimpArgs false
abbrev zA (d:Nat) (x:dS):jR:=⟨none,some d,.op x⟩
abbrev zM (d s:Nat):jR:=⟨none,some d,.op (.mv (.t s))⟩
abbrev zS (x:dS):jR:=⟨none,none,.op x⟩
abbrev zG (g:Nat) (b:Bool) (d:Nat) (x:dS):jR:=⟨some (g,b),some d,.op x⟩
noncomputable abbrev pZ:Program:=Go.Proofs.Tryz.prog
abbrev kI (n:Int):kS := .k (.c (.lit (.int .i64 n)))
abbrev kB (b:Bool):kS := .k (.c (.lit (.bool b)))
abbrev fD (n:Int):AC := .c (.lit (.int .i64 n))
abbrev qF (d k a:Nat):jR:=zA d (.load false k (.t a))
abbrev qT (d k a:Nat):jR:=zA d (.load true k (.t a))
abbrev qS (k a b:Nat):jR:=zS (.store true k (.t a) (.t b))
abbrev qU (k a b:Nat):jR:=zS (.store false k (.t a) (.t b))
abbrev qA (d k a:Nat):jR:=zA d (.eH k (.t a))
abbrev qX (d k a:Nat):jR:=zA d (.box k (.t a))
abbrev qB (d:Nat) (b:Bool):jR:=zA d (.mv (kB b))
abbrev qI (d:Nat) (n:Int):jR:=zA d (.mv (kI n))
abbrev qL (d a:Nat):jR:=zA d (.len (.t a))
abbrev qO (d a:Nat):jR:=zA d (.not (.t a))
abbrev qE (d a k:Nat):jR:=zA d (.extract (.t a) k)
abbrev qP (d a b:Nat):jR:=zA d (.pick (.t a) (.t b) (kB false))
abbrev qQ (d a b:Nat):jR:=zA d (.pick (.t a) (kB true) (.t b))
abbrev qN (d a:Nat):jR:=zA d (.Ii (.t a))
abbrev qD (d k a b:Nat):jR:=zA d (.oD k (.t a) (.t b))
abbrev qZ (d k:Nat):jR:=zA d (.alloc k zN)
abbrev q1 (d f a:Nat):jR:=⟨none,some d,.call f [.t a]⟩
abbrev q2 (d f a b:Nat):jR:=⟨none,some d,.call f [.t a,.t b]⟩
abbrev q3 (d f a b c:Nat):jR:=⟨none,some d,.call f [.t a,.t b,.t c]⟩
def C.cmp_isNaN_int:aT:=(.seq (.reg [qB 2 false] [0]) (.seq (.reg [zM 3 0,zM 4 0,zA 5 (.bin .neq (.t 3) (.t 4)),zM 2 5] [2]) .ret))
theorem K.cmp_isNaN_int:dR pZ 241 1 0 C.cmp_isNaN_int [.tmp 2]=true:=by kernel_rfl
def C.cmp_Compare_int:aT:=(.seq (.reg [qI 4 0] [0,1]) (.seq (.reg [zM 7 0,q1 8 241 7,zM 5 8] [0,1,5]) (.seq (.reg [zM 9 1,q1 10 241 9,zM 6 10] [0,1,5,6]) (.seq (.seq (.reg [zM 11 5] [0,1,6,11]) (.cond (.t 11) (.seq (.seq (.reg [zM 12 6] [12]) (.cond (.t 12) (.seq (.reg [qI 4 0] [4]) .ret) .skip)) (.seq (.reg [qI 4 (-1)] [4]) .ret)) .skip)) (.seq (.seq (.reg [zM 13 6] [0,1,13]) (.cond (.t 13) (.seq (.reg [qI 4 1] [4]) .ret) .skip)) (.seq (.seq (.reg [zM 14 0,zM 15 1,zA 16 (.bin .lss (.t 14) (.t 15))] [0,1,16]) (.cond (.t 16) (.seq (.reg [qI 4 (-1)] [4]) .ret) .skip)) (.seq (.seq (.reg [zM 17 0,zM 18 1,zA 19 (.bin .gtr (.t 17) (.t 18))] [19]) (.cond (.t 19) (.seq (.reg [qI 4 1] [4]) .ret) .skip)) (.seq (.reg [qI 4 0] [4]) .ret))))))))
theorem K.cmp_Compare_int:dR pZ 231 2 0 C.cmp_Compare_int [.tmp 4]=true:=by kernel_rfl
def C.cmp_isNaN_string:aT:=(.seq (.reg [qB 2 false] [0]) (.seq (.reg [zM 3 0,zM 4 0,zA 5 (.bin .neq (.t 3) (.t 4)),zM 2 5] [2]) .ret))
theorem K.cmp_isNaN_string:dR pZ 199 1 0 C.cmp_isNaN_string [.tmp 2]=true:=by kernel_rfl
def C.cmp_Less_string:aT:=(.seq (.reg [qB 4 false] [0,1]) (.seq (.reg [zM 5 0,q1 6 199 5,zM 7 6,zG 7 true 8 (.mv (.t 1)),⟨(some (7,true)),some 9,.call 199 [.t 8]⟩,zG 7 true 10 (.not (.t 9)),qP 11 7 10,zM 12 11,zG 12 false 13 (.mv (.t 0)),zG 12 false 14 (.mv (.t 1)),zG 12 false 15 (.bin .lss (.t 13) (.t 14)),qQ 16 12 15,zM 4 16] [4]) .ret))
theorem K.cmp_Less_string:dR pZ 150 2 0 C.cmp_Less_string [.tmp 4]=true:=by kernel_rfl
def C.aF:aT:=(.seq (.reg [qX 1 10 0,qZ 2 11] [1,2]) (.seq (.reg [qA 6 0 1,qF 7 1 6,qA 8 1 1,qF 9 1 8,qA 10 2 1,qF 11 1 10,zA 12 (.build zN [(0,1,.t 7),(1,1,.t 9),(2,1,.t 11)]),qZ 3 12,qS 5 3 12] [1,2,3]) (.cut (.seq (.reg [qA 13 3 1,qF 14 1 13,qL 15 14,zA 16 (.bin .gtr (.t 15) (kI 0))] [1,2,3,16]) (.cond (.t 16) (.seq (.reg [qA 17 3 1,qF 18 1 17,qL 19 18,zA 20 (.makes 13 1 16 [.str []] (.t 19) (.t 19)),qA 21 3 3,qU 1 21 20] [1,2,3]) (.reg [qA 22 3 3,qF 23 1 22,qA 24 3 1,qF 25 1 24,zA 26 (.copy 1 (.t 23) (.t 25))] [1,2,3])) .skip)) (.seq (.seq (.reg [qA 27 4 1,qF 28 1 27,qL 29 28,zA 30 (.bin .gtr (.t 29) (kI 0))] [1,2,3,30]) (.cond (.t 30) (.seq (.reg [qA 31 4 1,qF 32 1 31,qL 33 32,zA 34 (.makes 14 5 80 [.lit (.int .i64 0),.lit (.int .i64 0),.str [],.sl 1 [],.sl 5 []] (.t 33) (.t 33)),qA 35 4 3,qU 1 35 34] [1,2,3]) (.seq (.reg [qA 36 4 1,qF 37 1 36,qL 38 37,qI 39 0] [2,3,37,38,39]) (.block 0 (.loop (.seq (.reg [zA 40 (.bin .lss (.t 39) (.t 38))] [2,3,37,38,39,40]) (.seq (.cond (.t 40) .skip (.exit 0)) (.seq (.block 1 (.seq (.reg [zM 41 39,qD 42 5 37 39,qT 43 5 42,qZ 5 15,zM 4 41,qS 5 5 43] [2,3,4,5,37,38,39]) (.kN [(qA 44 4 3,[]),(qF 45 1 44,[0]),(zM 46 4,[]),(qT 47 5 5,[]),(q1 48 100 47,[3]),(qD 49 5 45 46,[0,1,2,3,4]),(qS 5 49 48,[0,1,2,3,4,5])] [2,3,37,38,39]))) (.reg [zA 50 (.bin .add (.t 39) (kI 1)),zM 39 50] [2,3,37,38,39])))))))) .skip)) (.seq (.reg [qT 51 5 3,qS 5 2 51] [2]) .ret)))))
theorem K.aF:dR pZ 100 1 0 C.aF [.cell 2 true 5]=true:=by kernel_rfl
def C.slices_isNaN_string:aT:=(.seq (.reg [qB 2 false] [0]) (.seq (.reg [zM 3 0,zM 4 0,zA 5 (.bin .neq (.t 3) (.t 4)),zM 2 5] [2]) .ret))
theorem K.slices_isNaN_string:dR pZ 151 1 0 C.slices_isNaN_string [.tmp 2]=true:=by kernel_rfl
def C.slices_BinarySearch_string:aT:=(.seq (.reg [qI 4 0,qB 5 false] [0,1]) (.seq (.reg [zM 10 0,qL 11 10,zM 6 11] [0,1,6]) (.seq (.reg [zM 12 6,qI 7 0,zM 8 12] [0,1,6,7,8]) (.seq (.block 0 (.loop (.seq (.seq (.reg [zM 13 7,zM 14 8,zA 15 (.bin .lss (.t 13) (.t 14))] [0,1,6,7,8,15]) (.cond (.t 15) .skip (.exit 0))) (.block 1 (.seq (.reg [zM 16 7,zM 17 8,zA 18 (.bin .add (.t 16) (.t 17)),zA 19 (.wB .u64 (.t 18)),zA 20 (.V3 false (.t 19) (.k (.c (.lit (.int .u64 1))))),zA 21 (.wB .i64 (.t 20)),zM 9 21] [0,1,6,7,8,9]) (.seq (.reg [zM 22 0,zM 23 9,qD 24 1 22 23,qF 25 1 24,zM 26 1,q2 27 150 25 26] [0,1,6,7,8,9,27]) (.cond (.t 27) (.reg [zM 28 9,zA 29 (.bin .add (.t 28) (kI 1)),zM 7 29] [0,1,6,7,8]) (.reg [zM 30 9,zM 8 30] [0,1,6,7,8])))))))) (.seq (.reg [zM 31 7,zM 32 7,zM 33 6,zA 34 (.bin .lss (.t 32) (.t 33)),zM 35 34,zG 35 true 36 (.mv (.t 0)),zG 35 true 37 (.mv (.t 7)),zG 35 true 38 (.oD 1 (.t 36) (.t 37)),zG 35 true 39 (.load false 1 (.t 38)),zG 35 true 40 (.mv (.t 1)),zG 35 true 41 (.bin .eql (.t 39) (.t 40)),zG 35 true 42 (.mv (.t 41)),zG 42 false 43 (.mv (.t 0)),zG 42 false 44 (.mv (.t 7)),zG 42 false 45 (.oD 1 (.t 43) (.t 44)),zG 42 false 46 (.load false 1 (.t 45)),⟨(some (42,false)),some 47,.call 151 [.t 46]⟩,zG 42 false 48 (.mv (.t 47)),zG 48 true 49 (.mv (.t 1)),⟨(some (48,true)),some 50,.call 151 [.t 49]⟩,zG 42 false 51 (.pick (.t 48) (.t 50) (kB false)),zG 35 true 52 (.pick (.t 42) (kB true) (.t 51)),qP 53 35 52,zM 4 31,zM 5 53] [4,5]) .ret)))))
theorem K.slices_BinarySearch_string:dR pZ 104 2 0 C.slices_BinarySearch_string [.tmp 4,.tmp 5]=true:=by kernel_rfl
def C.gK:aT:=(.seq (.reg [qI 2 0] [0,2]) (.cut (.seq (.reg [zM 3 0,zA 4 (.bin .geq (.t 3) (.k (.c (.lit (.int .u64 4294967296)))))] [0,2,4]) (.cond (.t 4) (.seq (.reg [zM 5 0,zA 6 (.V3 false (.t 5) (.k (.c (.lit (.int .u64 32))))),zM 0 6] [0]) (.reg [qI 2 32] [0,2])) .skip)) (.cut (.seq (.reg [zM 7 0,zA 8 (.bin .geq (.t 7) (.k (.c (.lit (.int .u64 65536)))))] [0,2,8]) (.cond (.t 8) (.seq (.reg [zM 9 0,zA 10 (.V3 false (.t 9) (.k (.c (.lit (.int .u64 16))))),zM 0 10] [0,2]) (.reg [zM 11 2,zA 12 (.bin .add (.t 11) (kI 16)),zM 2 12] [0,2])) .skip)) (.seq (.seq (.reg [zM 13 0,zA 14 (.bin .geq (.t 13) (.k (.c (.lit (.int .u64 256)))))] [0,2,14]) (.cond (.t 14) (.seq (.reg [zM 15 0,zA 16 (.V3 false (.t 15) (.k (.c (.lit (.int .u64 8))))),zM 0 16] [0,2]) (.reg [zM 17 2,zA 18 (.bin .add (.t 17) (kI 8)),zM 2 18] [0,2])) .skip)) (.seq (.reg [zM 19 2,zM 20 0,zA 21 (.wB .u8 (.t 20)),zA 22 (.idxs (.k (.c (.str [0,1,2,2,3,3,3,3,4,4,4,4,4,4,4,4,5,5,5,5,5,5,5,5,5,5,5,5,5,5,5,5,6,6,6,6,6,6,6,6,6,6,6,6,6,6,6,6,6,6,6,6,6,6,6,6,6,6,6,6,6,6,6,6,7,7,7,7,7,7,7,7,7,7,7,7,7,7,7,7,7,7,7,7,7,7,7,7,7,7,7,7,7,7,7,7,7,7,7,7,7,7,7,7,7,7,7,7,7,7,7,7,7,7,7,7,7,7,7,7,7,7,7,7,7,7,7,7,8,8,8,8,8,8,8,8,8,8,8,8,8,8,8,8,8,8,8,8,8,8,8,8,8,8,8,8,8,8,8,8,8,8,8,8,8,8,8,8,8,8,8,8,8,8,8,8,8,8,8,8,8,8,8,8,8,8,8,8,8,8,8,8,8,8,8,8,8,8,8,8,8,8,8,8,8,8,8,8,8,8,8,8,8,8,8,8,8,8,8,8,8,8,8,8,8,8,8,8,8,8,8,8,8,8,8,8,8,8,8,8,8,8,8,8,8,8,8,8,8,8,8,8,8,8,8,8]))) (.t 21)),zA 23 (.wB .i64 (.t 22)),zA 24 (.bin .add (.t 19) (.t 23)),zM 2 24] [2]) .ret)))))
theorem K.gK:dR pZ 163 1 0 C.gK [.tmp 2]=true:=by kernel_rfl
def C.bZ:aT:=(.seq (.reg [qX 2 10 0,qI 4 0,qB 5 false] [1,2]) (.seq (.seq (.reg [qA 7 0 2,qF 8 1 7] [1,2,8]) (.block 0 (.seq (.reg [zA 10 (.bin .eql (.t 8) (kI 4)),zM 9 10] [1,2,8,9]) (.cond (.t 9) (.seq (.reg [qA 11 3 2,qF 12 1 11,zM 13 1,q2 14 104 12 13,qE 15 14 0,qE 16 14 1,zM 4 15,zM 5 16] [4,5]) .ret) (.seq (.reg [zA 18 (.bin .eql (.t 8) (kI 3)),zM 17 18] [1,2,17]) (.cond (.t 17) (.seq (.reg [qA 19 4 2,qF 20 1 19,qL 21 20,qI 22 0] [1,21,22]) (.block 1 (.loop (.seq (.reg [zA 23 (.bin .lss (.t 22) (.t 21))] [1,21,22,23]) (.seq (.cond (.t 23) .skip (.exit 1)) (.seq (.block 2 (.seq (.reg [zM 24 22,zM 6 24] [1,6,21,22]) (.seq (.reg [zM 25 6,q1 26 137 25,zM 27 1,zA 28 (.bin .eql (.t 26) (.t 27))] [1,6,21,22,28]) (.cond (.t 28) (.seq (.reg [zM 29 6,zM 4 29,qB 5 true] [4,5]) .ret) .skip)))) (.reg [zA 30 (.bin .add (.t 22) (kI 1)),zM 22 30] [1,21,22]))))))) .skip)))))) (.seq (.reg [qI 4 0,qB 5 false] [4,5]) .ret)))
theorem K.bZ:dR pZ 194 2 0 C.bZ [.tmp 4,.tmp 5]=true:=by kernel_rfl
def C.dm:aT:=(.seq (.reg [zA 6 (.mv (.k (.cO 5)))] [0,1,2]) (.seq (.reg [zM 10 0,zM 11 1,zA 12 (.jX 5 (.t 10) (some (.t 11)) none)] [0,1,2]) (.seq (.reg [zM 13 2,qL 14 13,zM 7 14] [0,1,2,7]) (.seq (.seq (.reg [zM 15 7,zA 16 (.bin .eql (.t 15) (kI 0))] [0,1,2,7,16]) (.cond (.t 16) (.seq (.reg [zM 17 0,zM 6 17] [6]) .ret) .skip)) (.seq (.reg [zM 18 0,qL 19 18,zM 8 19] [0,1,2,7,8]) (.seq (.seq (.reg [zM 20 1,zM 21 8,zA 22 (.bin .eql (.t 20) (.t 21))] [0,1,2,7,8,22]) (.cond (.t 22) (.seq (.reg [zM 23 0,zM 24 2,zA 25 (.F6 10 5 80 (.t 23) (.t 24)),zM 6 25] [6]) .ret) .skip)) (.seq (.seq (.reg [zM 26 8,zM 27 7,zA 28 (.bin .add (.t 26) (.t 27)),zM 29 0,zA 30 (.MJ (.t 29)),zA 31 (.bin .gtr (.t 28) (.t 30))] [0,1,2,7,8,31]) (.cond (.t 31) (.seq (.reg [zM 32 0,zM 33 1,zA 34 (.jX 5 (.t 32) none (some (.t 33))),zM 35 8,zM 36 7,zA 37 (.bin .add (.t 35) (.t 36)),zM 38 1,zA 39 (.bin .sub (.t 37) (.t 38)),zA 40 (.JO 11 5 80 [.lit (.int .i64 0),.lit (.int .i64 0),.str [],.sl 1 [],.sl 5 []] (.t 34) (.t 39)),zM 9 40] [0,1,2,7,9]) (.seq (.reg [zM 41 9,zM 42 1,zA 43 (.jX 5 (.t 41) (some (.t 42)) none),zM 44 2,zA 45 (.xZ 5 (.t 43) (.t 44))] [0,1,7,9]) (.seq (.kN [(zM 46 9,[]),(zM 47 1,[]),(zM 48 7,[]),(zA 49 (.bin .add (.t 47) (.t 48)),[1,2]),(zA 50 (.jX 5 (.t 46) (some (.t 49)) none),[0,1,2,3]),(zM 51 0,[]),(zM 52 1,[]),(zA 53 (.jX 5 (.t 51) (some (.t 52)) none),[5,6]),(zA 54 (.xZ 5 (.t 50) (.t 53)),[0,1,2,3,4,5,6,7])] [9]) (.seq (.reg [zM 55 9,zM 6 55] [6]) .ret)))) .skip)) (.seq (.reg [zM 56 0,zM 57 8,zM 58 7,zA 59 (.bin .add (.t 57) (.t 58)),zA 60 (.jX 5 (.t 56) none (some (.t 59))),zM 0 60] [0,1,2,7,8]) (.seq (.seq (.reg [zM 61 2,zM 62 0,zM 63 1,zM 64 7,zA 65 (.bin .add (.t 63) (.t 64)),zA 66 (.jX 5 (.t 62) (some (.t 65)) none),zA 67 (.VZ (.t 61) (.t 66)),qO 68 67] [0,1,2,7,8,68]) (.cond (.t 68) (.seq (.kN [(zM 69 0,[]),(zM 70 1,[]),(zM 71 7,[]),(zA 72 (.bin .add (.t 70) (.t 71)),[1,2]),(zA 73 (.jX 5 (.t 69) (some (.t 72)) none),[0,1,2,3]),(zM 74 0,[]),(zM 75 1,[]),(zA 76 (.jX 5 (.t 74) (some (.t 75)) none),[5,6]),(zA 77 (.xZ 5 (.t 73) (.t 76)),[0,1,2,3,4,5,6,7])] [0,1,2]) (.seq (.reg [zM 78 0,zM 79 1,zA 80 (.jX 5 (.t 78) (some (.t 79)) none),zM 81 2,zA 82 (.xZ 5 (.t 80) (.t 81))] [0]) (.seq (.reg [zM 83 0,zM 6 83] [6]) .ret))) .skip)) (.seq (.reg [zM 84 0,zM 85 8,zA 86 (.jX 5 (.t 84) (some (.t 85)) none),zM 87 2,zA 88 (.xZ 5 (.t 86) (.t 87))] [0,1,7]) (.seq (.reg [zM 89 0,zM 90 1,zA 91 (.jX 5 (.t 89) (some (.t 90)) none),zM 92 7,q2 93 203 91 92] [0]) (.seq (.reg [zM 94 0,zM 6 94] [6]) .ret))))))))))))
theorem K.dm:dR pZ 153 3 2 C.dm [.tmp 6]=true:=by kernel_rfl
def C.iw:aT:=(.seq (.reg [zA 6 (.mv (.k (.cO 1)))] [0,1,2]) (.seq (.reg [zM 10 0,zM 11 1,zA 12 (.jX 1 (.t 10) (some (.t 11)) none)] [0,1,2]) (.seq (.reg [zM 13 2,qL 14 13,zM 7 14] [0,1,2,7]) (.seq (.seq (.reg [zM 15 7,zA 16 (.bin .eql (.t 15) (kI 0))] [0,1,2,7,16]) (.cond (.t 16) (.seq (.reg [zM 17 0,zM 6 17] [6]) .ret) .skip)) (.seq (.reg [zM 18 0,qL 19 18,zM 8 19] [0,1,2,7,8]) (.seq (.seq (.reg [zM 20 1,zM 21 8,zA 22 (.bin .eql (.t 20) (.t 21))] [0,1,2,7,8,22]) (.cond (.t 22) (.seq (.reg [zM 23 0,zM 24 2,zA 25 (.F6 10 1 16 (.t 23) (.t 24)),zM 6 25] [6]) .ret) .skip)) (.seq (.seq (.reg [zM 26 8,zM 27 7,zA 28 (.bin .add (.t 26) (.t 27)),zM 29 0,zA 30 (.MJ (.t 29)),zA 31 (.bin .gtr (.t 28) (.t 30))] [0,1,2,7,8,31]) (.cond (.t 31) (.seq (.reg [zM 32 0,zM 33 1,zA 34 (.jX 1 (.t 32) none (some (.t 33))),zM 35 8,zM 36 7,zA 37 (.bin .add (.t 35) (.t 36)),zM 38 1,zA 39 (.bin .sub (.t 37) (.t 38)),zA 40 (.JO 11 1 16 [.str []] (.t 34) (.t 39)),zM 9 40] [0,1,2,7,9]) (.seq (.reg [zM 41 9,zM 42 1,zA 43 (.jX 1 (.t 41) (some (.t 42)) none),zM 44 2,zA 45 (.xZ 1 (.t 43) (.t 44))] [0,1,7,9]) (.seq (.kN [(zM 46 9,[]),(zM 47 1,[]),(zM 48 7,[]),(zA 49 (.bin .add (.t 47) (.t 48)),[1,2]),(zA 50 (.jX 1 (.t 46) (some (.t 49)) none),[0,1,2,3]),(zM 51 0,[]),(zM 52 1,[]),(zA 53 (.jX 1 (.t 51) (some (.t 52)) none),[5,6]),(zA 54 (.xZ 1 (.t 50) (.t 53)),[0,1,2,3,4,5,6,7])] [9]) (.seq (.reg [zM 55 9,zM 6 55] [6]) .ret)))) .skip)) (.seq (.reg [zM 56 0,zM 57 8,zM 58 7,zA 59 (.bin .add (.t 57) (.t 58)),zA 60 (.jX 1 (.t 56) none (some (.t 59))),zM 0 60] [0,1,2,7,8]) (.seq (.seq (.reg [zM 61 2,zM 62 0,zM 63 1,zM 64 7,zA 65 (.bin .add (.t 63) (.t 64)),zA 66 (.jX 1 (.t 62) (some (.t 65)) none),zA 67 (.VZ (.t 61) (.t 66)),qO 68 67] [0,1,2,7,8,68]) (.cond (.t 68) (.seq (.kN [(zM 69 0,[]),(zM 70 1,[]),(zM 71 7,[]),(zA 72 (.bin .add (.t 70) (.t 71)),[1,2]),(zA 73 (.jX 1 (.t 69) (some (.t 72)) none),[0,1,2,3]),(zM 74 0,[]),(zM 75 1,[]),(zA 76 (.jX 1 (.t 74) (some (.t 75)) none),[5,6]),(zA 77 (.xZ 1 (.t 73) (.t 76)),[0,1,2,3,4,5,6,7])] [0,1,2]) (.seq (.reg [zM 78 0,zM 79 1,zA 80 (.jX 1 (.t 78) (some (.t 79)) none),zM 81 2,zA 82 (.xZ 1 (.t 80) (.t 81))] [0]) (.seq (.reg [zM 83 0,zM 6 83] [6]) .ret))) .skip)) (.seq (.reg [zM 84 0,zM 85 8,zA 86 (.jX 1 (.t 84) (some (.t 85)) none),zM 87 2,zA 88 (.xZ 1 (.t 86) (.t 87))] [0,1,7]) (.seq (.reg [zM 89 0,zM 90 1,zA 91 (.jX 1 (.t 89) (some (.t 90)) none),zM 92 7,q2 93 201 91 92] [0]) (.seq (.reg [zM 94 0,zM 6 94] [6]) .ret))))))))))))
theorem K.iw:dR pZ 152 3 2 C.iw [.tmp 6]=true:=by kernel_rfl
def C.kM:aT:=(.seq (.reg [qX 5 10 2] [0,1,5]) (.seq (.reg [zM 9 0,qN 10 9,qA 11 3 10,qF 12 1 11,zM 13 1,q2 14 104 12 13,zM 8 14,qE 15 8 0,qE 16 8 1,zM 6 15,zM 7 16] [0,1,5,6,7]) (.seq (.seq (.reg [zM 17 7] [0,1,5,6,17]) (.cond (.t 17) (.seq (.kN [(zM 18 0,[]),(qN 19 18,[0]),(qA 20 4 19,[0,1]),(qF 21 1 20,[0,1,2]),(zM 22 6,[]),(qT 23 5 5,[]),(qD 24 5 21 22,[0,1,2,3,4,5]),(qS 5 24 23,[0,1,2,3,4,5,6])] []) .ret) .skip)) (.seq (.reg [zM 25 0,zM 26 0,qN 27 26,qA 28 3 27,qF 29 1 28,zM 30 6,zM 31 1,zA 32 (.dJ 11 1 1 [.str []] [(0,.t 31)]),q3 33 152 29 30 32,qN 34 25,qA 35 3 34,qU 1 35 33] [0,5,6]) (.kN [(zM 36 0,[]),(zM 37 0,[]),(qN 38 37,[1]),(qA 39 4 38,[1,2]),(qF 40 1 39,[1,2,3]),(zM 41 6,[]),(qT 42 5 5,[]),(zA 43 (.dJ 12 5 1 [.lit (.int .i64 0),.lit (.int .i64 0),.str [],.sl 1 [],.sl 5 []] [(0,.t 42)]),[6]),(q3 44 153 40 41 43,[1,2,3,4,5,6,7]),(qN 45 36,[0,1,2,3,4,5,6,7,8]),(qA 46 4 45,[0,1,2,3,4,5,6,7,8,9]),(qU 1 46 44,[0,1,2,3,4,5,6,7,8,9,10])] [])))))
theorem K.kM:dR pZ 105 3 3 C.kM []=true:=by kernel_rfl
def C.jb:aT:=(.seq (.reg [qX 3 10 0,qX 5 11 2,qZ 6 12,qB 7 false] [1,3,5,6]) (.seq (.reg [qT 11 5 3,q1 12 100 11,qZ 8 13,qS 5 8 12] [1,3,5,6,8]) (.seq (.seq (.reg [qA 13 0 3,qF 14 1 13] [1,3,5,6,8,14]) (.block 0 (.seq (.reg [zA 16 (.bin .eql (.t 14) (kI 4)),zM 15 16] [1,3,5,6,8,14,15]) (.cond (.t 15) (.seq (.reg [zM 17 1,qT 18 5 5,q1 19 100 18,q3 20 105 8 17 19] [6,8]) (.seq (.reg [qT 21 5 8,qS 5 6 21,qB 7 true] [6,7]) .ret)) (.seq (.reg [zA 23 (.bin .eql (.t 14) (kI 3)),zM 22 23] [1,3,5,6,8,22]) (.cond (.t 22) (.seq (.reg [qT 25 5 3,zM 26 1,q2 27 194 25 26,zM 24 27,qE 28 24 0,qE 29 24 1,zM 9 28,zM 10 29] [1,3,5,6,8,9,10]) (.cut (.seq (.reg [zM 30 10,qO 31 30,zM 32 31,zG 32 true 33 (.mv (.t 1)),zG 32 true 34 (.bin .eql (.t 33) (.k (.c (.str [45])))),zG 32 true 35 (.mv (.t 34)),zG 35 false 36 (.mv (.t 1)),zG 35 false 37 (.eH 4 (.t 3)),zG 35 false 38 (.load false 1 (.t 37)),zG 35 false 39 (.len (.t 38)),⟨(some (35,false)),some 40,.call 137 [.t 39]⟩,zG 35 false 41 (.bin .eql (.t 36) (.t 40)),zG 32 true 42 (.pick (.t 35) (kB true) (.t 41)),qP 43 32 42] [3,5,6,8,9,10,43]) (.cond (.t 43) (.reg [qA 44 4 3,qF 45 1 44,qL 46 45,zM 9 46,qB 10 true] [5,6,8,9,10]) .skip)) (.seq (.seq (.reg [zM 47 10,qO 48 47] [5,6,8,9,48]) (.cond (.t 48) (.seq (.reg [zA 49 (.build zN []),qS 5 6 49,qB 7 false] [6,7]) .ret) .skip)) (.seq (.kN [(qA 50 4 8,[]),(qF 51 1 50,[0]),(zM 52 9,[]),(qT 53 5 5,[]),(q1 54 100 53,[3]),(zA 55 (.dJ 14 5 1 [.lit (.int .i64 0),.lit (.int .i64 0),.str [],.sl 1 [],.sl 5 []] [(0,.t 54)]),[3,4]),(q3 56 153 51 52 55,[0,1,2,3,4,5]),(qA 57 4 8,[0,1,2,3,4,5,6]),(qU 1 57 56,[0,1,2,3,4,5,6,7])] [6,8]) (.seq (.reg [qT 58 5 8,qS 5 6 58,qB 7 true] [6,7]) .ret))))) .skip)))))) (.seq (.reg [zA 59 (.build zN []),qS 5 6 59,qB 7 false] [6,7]) .ret))))
theorem K.jb:dR pZ 192 3 0 C.jb [.cell 6 true 5,.tmp 7]=true:=by kernel_rfl
def C.mV:aT:=(.seq (.reg [qX 4 10 0,qZ 5 11,qB 6 false] [1,2,3,4,5]) (.seq (.kN [(qT 7 5 4,[]),(qF 8 1 1,[]),(qF 9 1 2,[]),(qD 10 1 8 9,[1,2]),(qF 11 1 10,[1,2,3]),(qT 12 5 3,[]),(q3 13 192 7 11 12,[0,1,2,3,4,5]),(qE 14 13 0,[0,1,2,3,4,5,6]),(qE 15 13 1,[0,1,2,3,4,5,6]),(qS 5 5 14,[0,1,2,3,4,5,6,7,8]),(zM 6 15,[0,1,2,3,4,5,6,7,8,9])] [5,6]) .ret))
theorem K.mV:dR pZ 191 4 3 C.mV [.cell 5 true 5,.tmp 6]=true:=by kernel_rfl
def C.bY:aT:=(.seq (.reg [qB 2 false] [0]) (.seq (.seq (.reg [zM 4 0,zA 5 (.lens (.t 4)),zA 6 (.bin .gtr (.t 5) (kI 12))] [0,6]) (.cond (.t 6) (.seq (.reg [qB 2 false] [2]) .ret) .skip)) (.seq (.seq (.reg [qI 3 0] [0,3]) (.block 0 (.loop (.seq (.seq (.reg [zM 7 3,zM 8 0,zA 9 (.lens (.t 8)),zA 10 (.bin .lss (.t 7) (.t 9))] [0,3,10]) (.cond (.t 10) .skip (.exit 0))) (.seq (.block 1 (.seq (.reg [zM 13 0,zM 14 3,zA 15 (.idxs (.t 13) (.t 14)),zA 16 (.bin .lss (.t 15) (.k (.c (.lit (.int .u8 32))))),zM 17 16,zG 17 false 18 (.mv (.t 0)),zG 17 false 19 (.mv (.t 3)),zG 17 false 20 (.idxs (.t 18) (.t 19)),zG 17 false 21 (.bin .gtr (.t 20) (.k (.c (.lit (.int .u8 126))))),qQ 22 17 21] [0,3,22]) (.cond (.t 22) (.seq (.reg [qB 2 false] [2]) .ret) .skip))) (.reg [zM 11 3,zA 12 (.bin .add (.t 11) (kI 1)),zM 3 12] [0,3])))))) (.seq (.reg [qB 2 true] [2]) .ret))))
theorem K.bY:dR pZ 185 1 0 C.bY [.tmp 2]=true:=by kernel_rfl
def C.iE:aT:=(.seq (.reg [qB 2 false] [0]) (.seq (.seq (.reg [zM 5 0,qL 6 5,zA 7 (.bin .gtr (.t 6) (kI 6))] [0,7]) (.cond (.t 7) (.seq (.reg [qB 2 false] [2]) .ret) .skip)) (.seq (.seq (.reg [zM 8 0,qL 9 8,qI 10 0] [0,8,9,10]) (.block 0 (.loop (.seq (.reg [zA 11 (.bin .lss (.t 10) (.t 9))] [0,8,9,10,11]) (.seq (.cond (.t 11) .skip (.exit 0)) (.seq (.block 1 (.seq (.reg [zM 12 10,qD 13 1 8 10,qF 14 1 13,zM 3 12,zM 4 14] [0,3,4,8,9,10]) (.seq (.reg [zM 15 4,q1 16 185 15,qO 17 16,zM 18 17,zG 18 false 19 (.mv (.t 3)),zG 18 false 20 (.bin .gtr (.t 19) (kI 0)),zG 18 false 21 (.mv (.t 20)),zG 21 true 22 (.mv (.t 0)),zG 21 true 23 (.mv (.t 3)),zG 21 true 24 (.bin .sub (.t 23) (kI 1)),zG 21 true 25 (.oD 1 (.t 22) (.t 24)),zG 21 true 26 (.load false 1 (.t 25)),zG 21 true 27 (.mv (.t 4)),zG 21 true 28 (.bin .geq (.t 26) (.t 27)),zG 18 false 29 (.pick (.t 21) (.t 28) (kB false)),qQ 30 18 29] [0,8,9,10,30]) (.cond (.t 30) (.seq (.reg [qB 2 false] [2]) .ret) .skip)))) (.reg [zA 31 (.bin .add (.t 10) (kI 1)),zM 10 31] [0,8,9,10]))))))) (.seq (.reg [qB 2 true] [2]) .ret))))
theorem K.iE:dR pZ 186 1 0 C.iE [.tmp 2]=true:=by kernel_rfl
def C.di:aT:=(.seq (.reg [qX 1 10 0,qB 2 false] [1]) (.cut (.seq (.reg [qA 3 0 1,qF 4 1 3,zA 5 (.bin .neq (.t 4) (kI 1)),zM 6 5,zG 6 true 7 (.eH 1 (.t 1)),zG 6 true 8 (.load false 1 (.t 7)),zG 6 true 9 (.bin .neq (.t 8) (kI 0)),qP 10 6 9,zM 11 10,zG 11 false 12 (.eH 0 (.t 1)),zG 11 false 13 (.load false 1 (.t 12)),zG 11 false 14 (.bin .neq (.t 13) (kI 2)),zG 11 false 15 (.mv (.t 14)),zG 15 true 16 (.eH 2 (.t 1)),zG 15 true 17 (.load false 1 (.t 16)),zG 15 true 18 (.bin .neq (.t 17) (.k (.c (.str [])))),zG 11 false 19 (.pick (.t 15) (.t 18) (kB false)),qQ 20 11 19] [1,20]) (.cond (.t 20) (.seq (.reg [qB 2 false] [2]) .ret) .skip)) (.seq (.seq (.reg [qA 21 0 1,qF 22 1 21,zA 23 (.bin .neq (.t 22) (kI 4)),zM 24 23,zG 24 true 25 (.eH 3 (.t 1)),zG 24 true 26 (.load false 1 (.t 25)),zG 24 true 27 (.len (.t 26)),zG 24 true 28 (.bin .gtr (.t 27) (kI 0)),qP 29 24 28] [1,29]) (.cond (.t 29) (.seq (.reg [qB 2 false] [2]) .ret) .skip)) (.seq (.seq (.reg [qA 30 0 1,qF 31 1 30] [1,31]) (.block 0 (.seq (.reg [zA 33 (.bin .eql (.t 31) (kI 0)),zM 32 33] [1,31,32]) (.cond (.t 32) (.seq (.reg [qA 34 4 1,qF 35 1 34,qL 36 35,zA 37 (.bin .eql (.t 36) (kI 0)),zM 2 37] [2]) .ret) (.seq (.reg [zA 39 (.bin .eql (.t 31) (kI 1)),zM 38 39] [1,31,38]) (.cond (.t 38) (.seq (.reg [qA 40 1 1,qF 41 1 40,zA 42 (.bin .geq (.t 41) (kI (-999999))),zM 43 42,zG 43 true 44 (.eH 1 (.t 1)),zG 43 true 45 (.load false 1 (.t 44)),zG 43 true 46 (.bin .leq (.t 45) (kI 999999)),qP 47 43 46,zM 48 47,zG 48 true 49 (.eH 4 (.t 1)),zG 48 true 50 (.load false 1 (.t 49)),zG 48 true 51 (.len (.t 50)),zG 48 true 52 (.bin .eql (.t 51) (kI 0)),qP 53 48 52,zM 2 53] [2]) .ret) (.seq (.reg [zA 55 (.bin .eql (.t 31) (kI 2)),zM 54 55] [1,31,54]) (.cond (.t 54) (.seq (.reg [qA 56 2 1,qF 57 1 56,q1 58 185 57,zM 59 58,zG 59 true 60 (.eH 4 (.t 1)),zG 59 true 61 (.load false 1 (.t 60)),zG 59 true 62 (.len (.t 61)),zG 59 true 63 (.bin .eql (.t 62) (kI 0)),qP 64 59 63,zM 2 64] [2]) .ret) (.seq (.reg [zA 66 (.bin .eql (.t 31) (kI 3)),zM 65 66] [1,31,65]) (.cond (.t 65) (.seq (.reg [qA 67 4 1,qF 68 1 67,qL 69 68,zA 70 (.bin .leq (.t 69) (kI 6)),zM 2 70] [2]) .ret) (.seq (.reg [zA 72 (.bin .eql (.t 31) (kI 4)),zM 71 72] [1,71]) (.cond (.t 71) (.seq (.reg [qA 73 3 1,qF 74 1 73,q1 75 186 74,zM 76 75,zG 76 true 77 (.eH 4 (.t 1)),zG 76 true 78 (.load false 1 (.t 77)),zG 76 true 79 (.len (.t 78)),zG 76 true 80 (.eH 3 (.t 1)),zG 76 true 81 (.load false 1 (.t 80)),zG 76 true 82 (.len (.t 81)),zG 76 true 83 (.bin .eql (.t 79) (.t 82)),qP 84 76 83,zM 2 84] [2]) .ret) .skip)))))))))))) (.seq (.reg [qB 2 false] [2]) .ret)))))
theorem K.di:dR pZ 135 1 0 C.di [.tmp 2]=true:=by kernel_rfl
def C.bV:aT:=(.seq (.reg [qX 2 10 0,qI 4 0,qI 5 0,qB 6 false] [1,2]) (.seq (.seq (.reg [zM 12 1,zA 13 (.bin .gtr (.t 12) (kI 5)),zM 14 13,zG 14 false 15 (.load true 5 (.t 2)),⟨(some (14,false)),some 16,.call 135 [.t 15]⟩,zG 14 false 17 (.not (.t 16)),qQ 18 14 17] [1,2,18]) (.cond (.t 18) (.seq (.reg [qI 4 0,qI 5 0,qB 6 false] [4,5,6]) .ret) .skip)) (.seq (.reg [qI 4 1,qI 5 1] [1,2,4,5]) (.seq (.seq (.reg [qA 19 4 2,qF 20 1 19,qL 21 20,qI 22 0] [1,4,5,20,21,22]) (.block 0 (.loop (.seq (.reg [zA 23 (.bin .lss (.t 22) (.t 21))] [1,4,5,20,21,22,23]) (.seq (.cond (.t 23) .skip (.exit 0)) (.seq (.block 1 (.seq (.reg [qD 24 5 20 22,qT 25 5 24,qZ 8 11,qS 5 8 25] [1,4,5,8,20,21,22]) (.seq (.reg [qT 27 5 8,zM 28 1,zA 29 (.bin .add (.t 28) (kI 1)),q2 30 94 27 29,zM 26 30,qE 31 26 0,qE 32 26 1,qE 33 26 2,zM 9 31,zM 10 32,zM 11 33] [1,4,5,9,10,11,20,21,22]) (.seq (.seq (.reg [zM 34 11,qO 35 34] [1,4,5,9,10,20,21,22,35]) (.cond (.t 35) (.seq (.reg [qI 4 0,qI 5 0,qB 6 false] [4,5,6]) .ret) .skip)) (.seq (.reg [zM 36 4,zM 37 9,zA 38 (.bin .add (.t 36) (.t 37)),zM 4 38] [1,4,5,10,20,21,22]) (.reg [zM 39 5,zM 40 10,zA 41 (.bin .add (.t 40) (kI 1)),zA 42 (.max (.t 39) (.t 41)),zM 5 42] [1,4,5,20,21,22])))))) (.reg [zA 43 (.bin .add (.t 22) (kI 1)),zM 22 43] [1,4,5,20,21,22]))))))) (.seq (.reg [zM 44 4,zM 45 5,zM 4 44,zM 5 45,qB 6 true] [4,5,6]) .ret)))))
theorem K.bV:dR pZ 94 2 0 C.bV [.tmp 4,.tmp 5,.tmp 6]=true:=by kernel_rfl
def C.aO:aT:=(.seq (.reg [qX 1 10 0,qB 2 false] [1]) (.seq (.reg [qT 7 5 1,⟨none,some 8,.call 94 [.t 7,kI 1]⟩,zM 6 8,qE 9 6 0,qE 10 6 1,qE 11 6 2,zM 3 9,zM 4 10,zM 5 11] [3,5]) (.seq (.reg [zM 12 5,zM 13 12,zG 13 true 14 (.mv (.t 3)),zG 13 true 15 (.bin .leq (.t 14) (kI 40)),qP 16 13 15,zM 2 16] [2]) .ret)))
theorem K.aO:dR pZ 47 1 0 C.aO [.tmp 2]=true:=by kernel_rfl
def C.su:aT:=(.seq (.reg [qX 3 10 0,qZ 6 11,qB 7 false] [1,2,3,6]) (.seq (.seq (.reg [zM 12 1,qL 13 12,zA 14 (.bin .eql (.t 13) (kI 0))] [1,2,3,6,14]) (.cond (.t 14) (.seq (.reg [zM 15 2,qT 16 5 3,⟨none,some 17,.xJ (.t 15) [.t 16]⟩,qE 18 17 0,qE 19 17 1,qS 5 6 18,zM 7 19] [6,7]) .ret) .skip)) (.seq (.kN [(qT 21 5 3,[]),(zM 22 1,[]),(zA 23 (.oD 1 (.t 22) (kI 0)),[1]),(qF 24 1 23,[1,2]),(q2 25 194 21 24,[0,1,2,3]),(zM 20 25,[0,1,2,3,4]),(qE 26 20 0,[0,1,2,3,4,5]),(qE 27 20 1,[0,1,2,3,4,5]),(zM 8 26,[0,1,2,3,4,5,6]),(zM 9 27,[0,1,2,3,4,5,6,7,8])] [1,2,3,6,8,9]) (.seq (.seq (.reg [zM 28 9,qO 29 28] [1,2,3,6,8,29]) (.cond (.t 29) (.seq (.reg [zA 30 (.build zN []),qS 5 6 30,qB 7 false] [6,7]) .ret) .skip)) (.seq (.kN [(qA 32 4 3,[]),(qF 33 1 32,[0]),(zM 34 8,[]),(qD 35 5 33 34,[0,1,2]),(qT 36 5 35,[0,1,2,3]),(zM 37 1,[]),(zA 38 (.uS 1 (.t 37) (some (kI 1)) none),[5]),(zM 39 2,[]),(q3 40 190 36 38 39,[0,1,2,3,4,5,6,7]),(zM 31 40,[0,1,2,3,4,5,6,7,8]),(qE 41 31 0,[0,1,2,3,4,5,6,7,8,9]),(qE 42 31 1,[0,1,2,3,4,5,6,7,8,9]),(qZ 10 12,[]),(qS 5 10 41,[0,1,2,3,4,5,6,7,8,9,10,12]),(zM 9 42,[0,1,2,3,4,5,6,7,8,9,10,11,12,13])] [3,6,8,9,10]) (.seq (.seq (.reg [zM 43 9,qO 44 43] [3,6,8,10,44]) (.cond (.t 44) (.seq (.reg [zA 45 (.build zN []),qS 5 6 45,qB 7 false] [6,7]) .ret) .skip)) (.seq (.reg [qT 46 5 3,q1 47 100 46,qZ 11 13,qS 5 11 47] [6,8,10,11]) (.seq (.reg [qA 48 4 11,qF 49 1 48,zM 50 8,qT 51 5 10,qD 52 5 49 50,qS 5 52 51] [6,11]) (.seq (.reg [qT 53 5 11,qS 5 6 53,qB 7 true] [6,7]) .ret)))))))))
theorem K.fU:dR pZ 190 3 3 C.su [.cell 6 true 5,.tmp 7]=true:=by kernel_rfl
def C.kL:aT:=(.seq (.reg [qX 2 10 0,qZ 4 11,qB 5 false] [1,2,4]) (.seq (.seq (.reg [zM 6 1,qO 7 6,zM 8 7,zG 8 false 9 (.load true 5 (.t 2)),⟨(some (8,false)),some 10,.call 47 [.t 9]⟩,zG 8 false 11 (.not (.t 10)),qQ 12 8 11] [2,4,12]) (.cond (.t 12) (.seq (.reg [zA 13 (.build zN []),qS 5 4 13,qB 5 false] [4,5]) .ret) .skip)) (.seq (.reg [qT 14 5 2,qS 5 4 14,qB 5 true] [4,5]) .ret)))
theorem K.kL:dR pZ 54 2 0 C.kL [.cell 4 true 5,.tmp 5]=true:=by kernel_rfl
def C.fK:aT:=(.seq (.reg [qB 2 false] [0]) (.seq (.seq (.reg [zM 5 0,qL 6 5,zA 7 (.bin .gtr (.t 6) (kI 5))] [0,7]) (.cond (.t 7) (.seq (.reg [qB 2 false] [2]) .ret) .skip)) (.seq (.seq (.reg [zM 8 0,qL 9 8,qI 10 0] [8,9,10]) (.block 0 (.loop (.seq (.reg [zA 11 (.bin .lss (.t 10) (.t 9))] [8,9,10,11]) (.seq (.cond (.t 11) .skip (.exit 0)) (.seq (.block 1 (.seq (.reg [qD 12 1 8 10,qF 13 1 12,zM 4 13] [4,8,9,10]) (.seq (.reg [zM 14 4,q1 15 185 14,qO 16 15] [8,9,10,16]) (.cond (.t 16) (.seq (.reg [qB 2 false] [2]) .ret) .skip)))) (.reg [zA 17 (.bin .add (.t 10) (kI 1)),zM 10 17] [8,9,10]))))))) (.seq (.reg [qB 2 true] [2]) .ret))))
theorem K.fK:dR pZ 141 1 0 C.fK [.tmp 2]=true:=by kernel_rfl
def C.jY:aT:=(.seq (.reg [qX 3 10 0,qX 4 11 1,qX 5 12 2,qZ 6 13,qB 7 false] [3,4,5,6]) (.seq (.seq (.reg [qT 9 5 3,q1 10 47 9,qO 11 10,zM 12 11,zG 12 false 13 (.load false 1 (.t 4)),⟨(some (12,false)),some 14,.call 141 [.t 13]⟩,zG 12 false 15 (.not (.t 14)),qQ 16 12 15,zM 17 16,zG 17 false 18 (.load true 5 (.t 5)),⟨(some (17,false)),some 19,.call 47 [.t 18]⟩,zG 17 false 20 (.not (.t 19)),qQ 21 17 20] [3,4,5,6,21]) (.cond (.t 21) (.seq (.reg [zA 22 (.build zN []),qS 5 6 22,qB 7 false] [6,7]) .ret) .skip)) (.seq (.seq (.reg [qF 23 1 4,qL 24 23,zA 25 (.bin .eql (.t 24) (kI 0))] [3,4,5,6,25]) (.cond (.t 25) (.seq (.reg [qT 26 5 5,q1 27 100 26,qS 5 6 27,qB 7 true] [6,7]) .ret) .skip)) (.seq (.reg [qF 28 1 4,qL 29 28,zA 30 (.bin .sub (.t 29) (kI 1)),zA 8 (.alloc 14 [fD 0]),qU 1 8 30] [3,4,5,6,8]) (.seq (.kN [(qT 31 5 3,[]),(qF 32 1 4,[]),(qF 33 1 8,[]),(zA 34 (.uS 1 (.t 32) none (some (.t 33))),[1,2]),(zA 35 (.KP 191 [.t 4,.t 8,.t 5]),[]),(q3 36 190 31 34 35,[0,1,2,3,4]),(qE 37 36 0,[0,1,2,3,4,5]),(qE 38 36 1,[0,1,2,3,4,5]),(q2 39 54 37 38,[0,1,2,3,4,5,6,7]),(qE 40 39 0,[0,1,2,3,4,5,6,7,8]),(qE 41 39 1,[0,1,2,3,4,5,6,7,8]),(qS 5 6 40,[0,1,2,3,4,5,6,7,8,9,10]),(zM 7 41,[0,1,2,3,4,5,6,7,8,9,10,11])] [6,7]) .ret)))))
theorem K.jY:dR pZ 142 3 0 C.jY [.cell 6 true 5,.tmp 7]=true:=by kernel_rfl
def C.iF:aT:=(.seq (.reg [qX 2 10 0,qZ 4 11,qB 5 false] [1,2,4]) (.seq (.seq (.reg [zM 10 1,qL 11 10,qI 12 0] [2,4,10,11,12]) (.block 0 (.loop (.seq (.reg [zA 13 (.bin .lss (.t 12) (.t 11))] [2,4,10,11,12,13]) (.seq (.cond (.t 13) .skip (.exit 0)) (.seq (.block 1 (.seq (.reg [qD 14 1 10 12,qF 15 1 14,zM 7 15] [2,4,7,10,11,12]) (.seq (.reg [qT 17 5 2,zM 18 7,q2 19 194 17 18,zM 16 19,qE 20 16 0,qE 21 16 1,zM 8 20,zM 9 21] [2,4,8,9,10,11,12]) (.seq (.seq (.reg [zM 22 9,qO 23 22] [2,4,8,10,11,12,23]) (.cond (.t 23) (.seq (.reg [zA 24 (.build zN []),qS 5 4 24,qB 5 false] [4,5]) .ret) .skip)) (.reg [qA 25 4 2,qF 26 1 25,zM 27 8,qD 28 5 26 27,qT 29 5 28,qS 5 2 29] [2,4,10,11,12]))))) (.reg [zA 30 (.bin .add (.t 12) (kI 1)),zM 12 30] [2,4,10,11,12]))))))) (.seq (.reg [qT 31 5 2,qS 5 4 31,qB 5 true] [4,5]) .ret)))
theorem K.iF:dR pZ 197 2 0 C.iF [.cell 4 true 5,.tmp 5]=true:=by kernel_rfl
def C.mO:aT:=(.seq (.reg [qX 2 10 0,qZ 4 11,qB 5 false] [1,2,4]) (.seq (.seq (.reg [qT 8 5 2,q1 9 47 8,qO 10 9,zM 11 10,zG 11 false 12 (.mv (.t 1)),⟨(some (11,false)),some 13,.call 141 [.t 12]⟩,zG 11 false 14 (.not (.t 13)),qQ 15 11 14] [1,2,4,15]) (.cond (.t 15) (.seq (.reg [zA 16 (.build zN []),qS 5 4 16,qB 5 false] [4,5]) .ret) .skip)) (.seq (.reg [qT 18 5 2,zM 19 1,q2 20 197 18 19,zM 17 20,qE 21 17 0,qE 22 17 1,qZ 6 12,qS 5 6 21,zM 7 22] [4,6,7]) (.seq (.seq (.reg [zM 23 7,qO 24 23] [4,6,24]) (.cond (.t 24) (.seq (.reg [zA 25 (.build zN []),qS 5 4 25,qB 5 false] [4,5]) .ret) .skip)) (.seq (.reg [qT 26 5 6,q1 27 100 26,qS 5 4 27,qB 5 true] [4,5]) .ret)))))
theorem K.mO:dR pZ 146 2 0 C.mO [.cell 4 true 5,.tmp 5]=true:=by kernel_rfl
def C.dN:aT:=(.seq (.reg [zA 6 (.mv (.k (.cO 5)))] [0,1,2]) (.seq (.reg [zM 8 0,zM 9 1,zM 10 2,zM 11 0,qL 12 11,zA 13 (.sl3 5 (.t 8) (.t 9) (.t 10) (.t 12))] [0,1,2]) (.seq (.seq (.reg [zM 14 1,zM 15 2,zA 16 (.bin .eql (.t 14) (.t 15))] [0,1,2,16]) (.cond (.t 16) (.seq (.reg [zM 17 0,zM 6 17] [6]) .ret) .skip)) (.seq (.reg [zM 18 0,qL 19 18,zM 7 19] [0,1,2,7]) (.seq (.kN [(zM 20 0,[]),(zM 21 1,[]),(zA 22 (.jX 5 (.t 20) none (some (.t 21))),[0,1]),(zM 23 0,[]),(zM 24 2,[]),(zA 25 (.jX 5 (.t 23) (some (.t 24)) none),[3,4]),(zA 26 (.F6 10 5 80 (.t 22) (.t 25)),[0,1,2,3,4,5]),(zM 0 26,[0,1,2,3,4,5,6])] [0,7]) (.seq (.reg [zM 27 0,zM 28 0,qL 29 28,zM 30 7,zA 31 (.jX 5 (.t 27) (some (.t 29)) (some (.t 30))),zS (.Jg 5 [.lit (.int .i64 0),.lit (.int .i64 0),.str [],.sl 1 [],.sl 5 []] (.t 31))] [0]) (.seq (.reg [zM 32 0,zM 6 32] [6]) .ret)))))))
theorem K.dN:dR pZ 149 3 1 C.dN [.tmp 6]=true:=by kernel_rfl
def C.slices_Delete_string:aT:=(.seq (.reg [zA 6 (.mv (.k (.cO 1)))] [0,1,2]) (.seq (.reg [zM 8 0,zM 9 1,zM 10 2,zM 11 0,qL 12 11,zA 13 (.sl3 1 (.t 8) (.t 9) (.t 10) (.t 12))] [0,1,2]) (.seq (.seq (.reg [zM 14 1,zM 15 2,zA 16 (.bin .eql (.t 14) (.t 15))] [0,1,2,16]) (.cond (.t 16) (.seq (.reg [zM 17 0,zM 6 17] [6]) .ret) .skip)) (.seq (.reg [zM 18 0,qL 19 18,zM 7 19] [0,1,2,7]) (.seq (.kN [(zM 20 0,[]),(zM 21 1,[]),(zA 22 (.jX 1 (.t 20) none (some (.t 21))),[0,1]),(zM 23 0,[]),(zM 24 2,[]),(zA 25 (.jX 1 (.t 23) (some (.t 24)) none),[3,4]),(zA 26 (.F6 10 1 16 (.t 22) (.t 25)),[0,1,2,3,4,5]),(zM 0 26,[0,1,2,3,4,5,6])] [0,7]) (.seq (.reg [zM 27 0,zM 28 0,qL 29 28,zM 30 7,zA 31 (.jX 1 (.t 27) (some (.t 29)) (some (.t 30))),zS (.Jg 1 [.str []] (.t 31))] [0]) (.seq (.reg [zM 32 0,zM 6 32] [6]) .ret)))))))
theorem K.slices_Delete_string:dR pZ 148 3 1 C.slices_Delete_string [.tmp 6]=true:=by kernel_rfl
def C.fJ:aT:=(.seq (.reg [qX 3 10 0,qZ 4 11,qB 5 false] [1,2,3,4]) (.seq (.kN [(qT 10 5 3,[]),(qF 11 1 1,[]),(qF 12 1 2,[]),(qD 13 1 11 12,[1,2]),(qF 14 1 13,[1,2,3]),(q2 15 194 10 14,[0,1,2,3,4]),(zM 9 15,[0,1,2,3,4,5]),(qE 16 9 0,[0,1,2,3,4,5,6]),(qE 17 9 1,[0,1,2,3,4,5,6]),(zM 6 16,[0,1,2,3,4,5,6,7]),(zM 7 17,[0,1,2,3,4,5,6,7,8,9])] [3,4,6,7]) (.seq (.seq (.reg [zM 18 7,qO 19 18] [3,4,6,19]) (.cond (.t 19) (.seq (.reg [zA 20 (.build zN []),qS 5 4 20,qB 5 false] [4,5]) .ret) .skip)) (.seq (.reg [qT 21 5 3,q1 22 100 21,qZ 8 12,qS 5 8 22] [3,4,6,8]) (.cut (.seq (.reg [qA 23 0 3,qF 24 1 23,zA 25 (.bin .eql (.t 24) (kI 4))] [4,6,8,25]) (.cond (.t 25) (.reg [qA 26 3 8,qF 27 1 26,zM 28 6,zM 29 6,zA 30 (.bin .add (.t 29) (kI 1)),q3 31 148 27 28 30,qA 32 3 8,qU 1 32 31] [4,6,8]) .skip)) (.seq (.reg [qA 33 4 8,qF 34 1 33,zM 35 6,zM 36 6,zA 37 (.bin .add (.t 36) (kI 1)),q3 38 149 34 35 37,qA 39 4 8,qU 1 39 38] [4,8]) (.seq (.reg [qT 40 5 8,qS 5 4 40,qB 5 true] [4,5]) .ret)))))))
theorem K.fJ:dR pZ 193 3 2 C.fJ [.cell 4 true 5,.tmp 5]=true:=by kernel_rfl
theorem K.eG:dR pZ 190 3 2 C.su [.cell 6 true 5,.tmp 7]=true:=by kernel_rfl
def C.jk:aT:=(.seq (.reg [qX 2 10 0,qX 3 11 1,qZ 4 12,qB 5 false] [2,3,4]) (.seq (.seq (.reg [qT 7 5 2,q1 8 47 7,qO 9 8,zM 10 9,zG 10 false 11 (.load false 1 (.t 3)),⟨(some (10,false)),some 12,.call 141 [.t 11]⟩,zG 10 false 13 (.not (.t 12)),qQ 14 10 13,zM 15 14,zG 15 false 16 (.load false 1 (.t 3)),zG 15 false 17 (.len (.t 16)),zG 15 false 18 (.bin .eql (.t 17) (kI 0)),qQ 19 15 18] [2,3,4,19]) (.cond (.t 19) (.seq (.reg [zA 20 (.build zN []),qS 5 4 20,qB 5 false] [4,5]) .ret) .skip)) (.seq (.reg [qF 21 1 3,qL 22 21,zA 23 (.bin .sub (.t 22) (kI 1)),zA 6 (.alloc 13 [fD 0]),qU 1 6 23] [2,3,4,6]) (.seq (.kN [(qT 24 5 2,[]),(qF 25 1 3,[]),(qF 26 1 6,[]),(zA 27 (.uS 1 (.t 25) none (some (.t 26))),[1,2]),(zA 28 (.KP 193 [.t 3,.t 6]),[]),(q3 29 190 24 27 28,[0,1,2,3,4]),(qE 30 29 0,[0,1,2,3,4,5]),(qE 31 29 1,[0,1,2,3,4,5]),(qS 5 4 30,[0,1,2,3,4,5,6,7]),(zM 5 31,[0,1,2,3,4,5,6,7,8])] [4,5]) .ret))))
theorem K.jk:dR pZ 143 2 0 C.jk [.cell 4 true 5,.tmp 5]=true:=by kernel_rfl
def C.mW:aT:=(.seq (.reg [qX 2 10 0,qZ 3 11,qB 4 false] [1,3]) (.seq (.reg [qT 5 5 1,q1 6 100 5,qS 5 3 6,qB 4 true] [3,4]) .ret))
theorem K.mW:dR pZ 195 2 1 C.mW [.cell 3 true 5,.tmp 4]=true:=by kernel_rfl
theorem K.fV:dR pZ 190 3 1 C.su [.cell 6 true 5,.tmp 7]=true:=by kernel_rfl
def C.nI:aT:=(.seq (.reg [qX 3 10 0,qX 5 11 2,qZ 6 12,qB 7 false] [1,3,5,6]) (.seq (.seq (.reg [qT 8 5 3,q1 9 47 8,qO 10 9,zM 11 10,zG 11 false 12 (.mv (.t 1)),⟨(some (11,false)),some 13,.call 141 [.t 12]⟩,zG 11 false 14 (.not (.t 13)),qQ 15 11 14,zM 16 15,zG 16 false 17 (.load true 5 (.t 5)),⟨(some (16,false)),some 18,.call 47 [.t 17]⟩,zG 16 false 19 (.not (.t 18)),qQ 20 16 19] [1,3,5,6,20]) (.cond (.t 20) (.seq (.reg [zA 21 (.build zN []),qS 5 6 21,qB 7 false] [6,7]) .ret) .skip)) (.seq (.reg [qT 22 5 3,zM 23 1,zA 24 (.KP 195 [.t 5]),q3 25 190 22 23 24,qE 26 25 0,qE 27 25 1,q2 28 54 26 27,qE 29 28 0,qE 30 28 1,qS 5 6 29,zM 7 30] [6,7]) .ret)))
theorem K.nI:dR pZ 144 3 0 C.nI [.cell 6 true 5,.tmp 7]=true:=by kernel_rfl
def C.oG:aT:=(.seq (.reg [qX 1 10 0,qB 2 false] [1]) (.seq (.reg [qA 3 0 1,qF 4 1 3,zA 5 (.bin .geq (.t 4) (kI 1)),zM 6 5,zG 6 true 7 (.eH 0 (.t 1)),zG 6 true 8 (.load false 1 (.t 7)),zG 6 true 9 (.bin .leq (.t 8) (kI 6)),qP 10 6 9,zM 11 10,zG 11 true 12 (.eH 1 (.t 1)),zG 11 true 13 (.load false 1 (.t 12)),⟨(some (11,true)),some 14,.call 141 [.t 13]⟩,qP 15 11 14,zM 16 15,zG 16 true 17 (.eH 2 (.t 1)),zG 16 true 18 (.load false 1 (.t 17)),⟨(some (16,true)),some 19,.call 141 [.t 18]⟩,qP 20 16 19,zM 21 20,zG 21 true 22 (.eH 3 (.t 1)),zG 21 true 23 (.load true 5 (.t 22)),⟨(some (21,true)),some 24,.call 47 [.t 23]⟩,qP 25 21 24,zM 2 25] [2]) .ret))
theorem K.oG:dR pZ 101 1 0 C.oG [.tmp 2]=true:=by kernel_rfl
def C.slices_Equal_string:aT:=(.seq (.reg [qB 4 false] [0,1]) (.seq (.seq (.reg [zM 6 0,qL 7 6,zM 8 1,qL 9 8,zA 10 (.bin .neq (.t 7) (.t 9))] [0,1,10]) (.cond (.t 10) (.seq (.reg [qB 4 false] [4]) .ret) .skip)) (.seq (.seq (.reg [zM 11 0,qL 12 11,qI 13 0] [0,1,12,13]) (.block 0 (.loop (.seq (.reg [zA 14 (.bin .lss (.t 13) (.t 12))] [0,1,12,13,14]) (.seq (.cond (.t 14) .skip (.exit 0)) (.seq (.block 1 (.seq (.reg [zM 15 13,zM 5 15] [0,1,5,12,13]) (.seq (.kN [(zM 16 0,[]),(zM 17 5,[]),(qD 18 1 16 17,[0,1]),(qF 19 1 18,[0,1,2]),(zM 20 1,[]),(zM 21 5,[]),(qD 22 1 20 21,[4,5]),(qF 23 1 22,[4,5,6]),(zA 24 (.bin .neq (.t 19) (.t 23)),[0,1,2,3,4,5,6,7])] [0,1,12,13,24]) (.cond (.t 24) (.seq (.reg [qB 4 false] [4]) .ret) .skip)))) (.reg [zA 25 (.bin .add (.t 13) (kI 1)),zM 13 25] [0,1,12,13]))))))) (.seq (.reg [qB 4 true] [4]) .ret))))
theorem K.slices_Equal_string:dR pZ 196 2 0 C.slices_Equal_string [.tmp 4]=true:=by kernel_rfl
def C.mF:aT:=(.seq (.reg [qX 3 10 0,qZ 6 11,qB 7 false] [1,2,3,6]) (.seq (.reg [qT 12 5 3,zM 13 1,q2 14 146 12 13,zM 11 14,qE 15 11 0,qE 16 11 1,qZ 8 12,qS 5 8 15,zM 9 16] [1,2,3,6,8,9]) (.seq (.seq (.reg [zM 17 9,qO 18 17] [1,2,3,6,8,18]) (.cond (.t 18) (.seq (.reg [zA 19 (.build zN []),qS 5 6 19,qB 7 false] [6,7]) .ret) .skip)) (.seq (.seq (.reg [zM 20 2,zM 21 1,q2 22 196 20 21] [1,2,3,6,8,22]) (.cond (.t 22) (.seq (.reg [qT 23 5 3,q1 24 100 23,qS 5 6 24,qB 7 true] [6,7]) .ret) .skip)) (.seq (.seq (.reg [zM 25 2,qL 26 25,zM 27 1,qL 28 27,zA 29 (.bin .gtr (.t 26) (.t 28)),zM 30 29,zG 30 true 31 (.mv (.t 2)),zG 30 true 32 (.mv (.t 1)),zG 30 true 33 (.len (.t 32)),zG 30 true 34 (.uS 1 (.t 31) none (some (.t 33))),zG 30 true 35 (.mv (.t 1)),⟨(some (30,true)),some 36,.call 196 [.t 34,.t 35]⟩,qP 37 30 36] [1,2,3,6,8,37]) (.cond (.t 37) (.seq (.reg [zA 38 (.build zN []),qS 5 6 38,qB 7 false] [6,7]) .ret) .skip)) (.seq (.reg [qT 40 5 3,zM 41 1,q2 42 143 40 41,zM 39 42,qE 43 39 0,qE 44 39 1,qZ 10 13,qS 5 10 43,zM 9 44] [2,6,8,9,10]) (.seq (.seq (.reg [zM 45 9,qO 46 45] [2,6,8,10,46]) (.cond (.t 46) (.seq (.reg [zA 47 (.build zN []),qS 5 6 47,qB 7 false] [6,7]) .ret) .skip)) (.seq (.reg [qT 48 5 10,zM 49 2,qT 50 5 8,q3 51 142 48 49 50,qE 52 51 0,qE 53 51 1,qS 5 6 52,zM 7 53] [6,7]) .ret))))))))
theorem K.mF:dR pZ 145 3 0 C.mF [.cell 6 true 5,.tmp 7]=true:=by kernel_rfl
def C.dL:aT:=(.seq (.reg [qI 4 0] [0,1]) (.seq (.reg [zM 5 0,zM 6 1,zA 7 (.Ri (.t 5) (.t 6)),zM 4 7] [4]) .ret))
theorem K.dL:dR pZ 140 2 0 C.dL [.tmp 4]=true:=by kernel_rfl
def C.strings_Compare:aT:=(.seq (.reg [qI 4 0] [0,1]) (.seq (.reg [zM 5 0,zM 6 1,q2 7 140 5 6,zM 4 7] [4]) .ret))
theorem K.strings_Compare:dR pZ 99 2 0 C.strings_Compare [.tmp 4]=true:=by kernel_rfl
def C.aV:aT:=(.seq (.reg [qX 2 10 0,qX 3 11 1,qI 4 0] [2,3]) (.seq (.seq (.reg [qA 11 0 2,qF 12 1 11,qA 13 0 3,qF 14 1 13,q2 15 231 12 14,zM 5 15] [2,3,5]) (.seq (.reg [zM 16 5,zA 17 (.bin .neq (.t 16) (kI 0))] [2,3,5,17]) (.cond (.t 17) (.seq (.reg [zM 18 5,zM 4 18] [4]) .ret) .skip))) (.seq (.seq (.reg [qA 19 1 2,qF 20 1 19,qA 21 1 3,qF 22 1 21,q2 23 231 20 22,zM 6 23] [2,3,6]) (.seq (.reg [zM 24 6,zA 25 (.bin .neq (.t 24) (kI 0))] [2,3,6,25]) (.cond (.t 25) (.seq (.reg [zM 26 6,zM 4 26] [4]) .ret) .skip))) (.seq (.seq (.reg [qA 27 2 2,qF 28 1 27,qA 29 2 3,qF 30 1 29,q2 31 99 28 30,zM 7 31] [2,3,7]) (.seq (.reg [zM 32 7,zA 33 (.bin .neq (.t 32) (kI 0))] [2,3,7,33]) (.cond (.t 33) (.seq (.reg [zM 34 7,zM 4 34] [4]) .ret) .skip))) (.seq (.seq (.reg [qI 8 0] [2,3,8]) (.block 0 (.loop (.seq (.seq (.reg [zM 35 8,qA 36 4 2,qF 37 1 36,qL 38 37,zA 39 (.bin .lss (.t 35) (.t 38)),zM 40 39,zG 40 true 41 (.mv (.t 8)),zG 40 true 42 (.eH 4 (.t 3)),zG 40 true 43 (.load false 1 (.t 42)),zG 40 true 44 (.len (.t 43)),zG 40 true 45 (.bin .lss (.t 41) (.t 44)),qP 46 40 45] [2,3,8,46]) (.cond (.t 46) .skip (.exit 0))) (.seq (.block 1 (.cut (.seq (.reg [qA 49 0 2,qF 50 1 49,zA 51 (.bin .eql (.t 50) (kI 4))] [2,3,8,51]) (.cond (.t 51) (.seq (.kN [(qA 52 3 2,[]),(qF 53 1 52,[0]),(zM 54 8,[]),(qD 55 1 53 54,[0,1,2]),(qF 56 1 55,[0,1,2,3]),(qA 57 3 3,[]),(qF 58 1 57,[5]),(zM 59 8,[]),(qD 60 1 58 59,[5,6,7]),(qF 61 1 60,[5,6,7,8]),(q2 62 99 56 61,[0,1,2,3,4,5,6,7,8,9]),(zM 9 62,[0,1,2,3,4,5,6,7,8,9,10])] [2,3,8,9]) (.seq (.reg [zM 63 9,zA 64 (.bin .neq (.t 63) (kI 0))] [2,3,8,9,64]) (.cond (.t 64) (.seq (.reg [zM 65 9,zM 4 65] [4]) .ret) .skip))) .skip)) (.seq (.kN [(qA 66 4 2,[]),(qF 67 1 66,[0]),(zM 68 8,[]),(qD 69 5 67 68,[0,1,2]),(qT 70 5 69,[0,1,2,3]),(qA 71 4 3,[]),(qF 72 1 71,[5]),(zM 73 8,[]),(qD 74 5 72 73,[5,6,7]),(qT 75 5 74,[5,6,7,8]),(q2 76 221 70 75,[0,1,2,3,4,5,6,7,8,9]),(zM 10 76,[0,1,2,3,4,5,6,7,8,9,10])] [2,3,8,10]) (.seq (.reg [zM 77 10,zA 78 (.bin .neq (.t 77) (kI 0))] [2,3,8,10,78]) (.cond (.t 78) (.seq (.reg [zM 79 10,zM 4 79] [4]) .ret) .skip))))) (.reg [zM 47 8,zA 48 (.bin .add (.t 47) (kI 1)),zM 8 48] [2,3,8])))))) (.seq (.reg [qA 80 4 2,qF 81 1 80,qL 82 81,qA 83 4 3,qF 84 1 83,qL 85 84,q2 86 231 82 85,zM 4 86] [4]) .ret))))))
theorem K.aV:dR pZ 221 2 0 C.aV [.tmp 4]=true:=by kernel_rfl
def C.mG:aT:=(.seq (.reg [qX 2 10 0,qX 3 11 1,qB 4 false] [2,3]) (.seq (.reg [qT 5 5 2,qT 6 5 3,q2 7 221 5 6,zA 8 (.bin .eql (.t 7) (kI 0)),zM 4 8] [4]) .ret))
theorem K.mG:dR pZ 198 2 0 C.mG [.tmp 4]=true:=by kernel_rfl
def C.lM:aT:=(.seq (.reg [qX 3 10 0,qX 5 11 2,qZ 6 12,qB 7 false] [1,3,5,6]) (.seq (.reg [qT 11 5 3,zM 12 1,q2 13 197 11 12,zM 10 13,qE 14 10 0,qE 15 10 1,qZ 8 13,qS 5 8 14,zM 9 15] [3,5,6,8,9]) (.seq (.seq (.reg [zM 16 9,qO 17 16,zM 18 17,zG 18 false 19 (.load true 5 (.t 8)),zG 18 false 20 (.load true 5 (.t 5)),⟨(some (18,false)),some 21,.call 198 [.t 19,.t 20]⟩,zG 18 false 22 (.not (.t 21)),qQ 23 18 22] [3,6,23]) (.cond (.t 23) (.seq (.reg [zA 24 (.build zN []),qS 5 6 24,qB 7 false] [6,7]) .ret) .skip)) (.seq (.reg [qT 25 5 3,q1 26 100 25,qS 5 6 26,qB 7 true] [6,7]) .ret))))
theorem K.lM:dR pZ 147 3 0 C.lM [.cell 6 true 5,.tmp 7]=true:=by kernel_rfl
def C.nG:aT:=(.seq (.reg [qX 2 10 0,qX 3 11 1,qZ 4 12,qB 5 false] [2,3,4]) (.seq (.seq (.reg [qT 8 5 2,q1 9 47 8,qO 10 9,zM 11 10,zG 11 false 12 (.load true 8 (.t 3)),⟨(some (11,false)),some 13,.call 101 [.t 12]⟩,zG 11 false 14 (.not (.t 13)),qQ 15 11 14] [2,3,4,15]) (.cond (.t 15) (.seq (.reg [zA 16 (.build zN []),qS 5 4 16,qB 5 false] [4,5]) .ret) .skip)) (.seq (.seq (.reg [qA 17 0 3,qF 18 1 17] [2,3,4,18]) (.block 0 (.seq (.reg [zA 20 (.bin .eql (.t 18) (kI 1)),zM 19 20] [2,3,4,18,19]) (.cond (.t 19) (.seq (.reg [qT 21 5 2,qA 22 1 3,qF 23 1 22,qA 24 3 3,qT 25 5 24,q3 26 142 21 23 25,qE 27 26 0,qE 28 26 1,qS 5 4 27,zM 5 28] [4,5]) .ret) (.seq (.reg [zA 30 (.bin .eql (.t 18) (kI 2)),zM 29 30] [2,3,4,18,29]) (.cond (.t 29) (.seq (.reg [qT 31 5 2,qA 32 1 3,qF 33 1 32,q2 34 143 31 33,qE 35 34 0,qE 36 34 1,qS 5 4 35,zM 5 36] [4,5]) .ret) (.seq (.reg [zA 38 (.bin .eql (.t 18) (kI 3)),zM 37 38] [2,3,4,18,37]) (.cond (.t 37) (.seq (.reg [qT 39 5 2,qA 40 1 3,qF 41 1 40,qA 42 3 3,qT 43 5 42,q3 44 144 39 41 43,qE 45 44 0,qE 46 44 1,qS 5 4 45,zM 5 46] [4,5]) .ret) (.seq (.reg [zA 48 (.bin .eql (.t 18) (kI 4)),zM 47 48] [2,3,4,18,47]) (.cond (.t 47) (.seq (.reg [qT 49 5 2,qA 50 2 3,qF 51 1 50,qA 52 1 3,qF 53 1 52,q3 54 145 49 51 53,qE 55 54 0,qE 56 54 1,qS 5 4 55,zM 5 56] [4,5]) .ret) (.seq (.reg [zA 58 (.bin .eql (.t 18) (kI 5)),zM 57 58] [2,3,4,57]) (.cond (.t 57) (.seq (.reg [qT 60 5 2,qA 61 2 3,qF 62 1 61,q2 63 146 60 62,zM 59 63,qE 64 59 0,qE 65 59 1,qZ 6 13,qS 5 6 64,zM 7 65] [2,3,4,6,7]) (.seq (.seq (.reg [zM 66 7,qO 67 66] [2,3,4,6,67]) (.cond (.t 67) (.seq (.reg [zA 68 (.build zN []),qS 5 4 68,qB 5 false] [4,5]) .ret) .skip)) (.seq (.reg [qT 69 5 2,qA 70 1 3,qF 71 1 70,qT 72 5 6,q3 73 142 69 71 72,qE 74 73 0,qE 75 73 1,qS 5 4 74,zM 5 75] [4,5]) .ret))) .skip)))))))))))) (.seq (.reg [qT 76 5 2,qA 77 1 3,qF 78 1 77,qA 79 3 3,qT 80 5 79,q3 81 147 76 78 80,qE 82 81 0,qE 83 81 1,qS 5 4 82,zM 5 83] [4,5]) .ret))))
theorem K.nG:dR pZ 102 2 0 C.nG [.cell 4 true 5,.tmp 5]=true:=by kernel_rfl
def C.dX:aT:=(.seq (.reg [qB 2 false] [0]) (.seq (.seq (.reg [zM 5 0,qL 6 5,zA 7 (.bin .gtr (.t 6) (kI 12))] [0,7]) (.cond (.t 7) (.seq (.reg [qB 2 false] [2]) .ret) .skip)) (.seq (.seq (.reg [zM 8 0,qL 9 8,qI 10 0] [8,9,10]) (.block 0 (.loop (.seq (.reg [zA 11 (.bin .lss (.t 10) (.t 9))] [8,9,10,11]) (.seq (.cond (.t 11) .skip (.exit 0)) (.seq (.block 1 (.seq (.reg [qD 12 8 8 10,qT 13 8 12,zA 4 (.alloc 10 [fD 0,.cO 1,.cO 1,fD 0,fD 0,.c (.str []),.cO 1,.cO 5]),qS 8 4 13] [4,8,9,10]) (.seq (.reg [qT 14 8 4,q1 15 101 14,qO 16 15] [8,9,10,16]) (.cond (.t 16) (.seq (.reg [qB 2 false] [2]) .ret) .skip)))) (.reg [zA 17 (.bin .add (.t 10) (kI 1)),zM 10 17] [8,9,10]))))))) (.seq (.reg [qB 2 true] [2]) .ret))))
theorem K.dX:dR pZ 52 1 0 C.dX [.tmp 2]=true:=by kernel_rfl
def C.iT:aT:=(.seq (.reg [qX 2 10 0,qZ 4 11,qI 5 0] [1,2,4]) (.seq (.reg [qT 11 5 2,q1 12 100 11,qZ 6 12,qS 5 6 12] [1,4,6]) (.seq (.seq (.reg [zM 13 1,qL 14 13,qI 15 0] [1,4,6,13,14,15]) (.block 0 (.loop (.seq (.reg [zA 16 (.bin .lss (.t 15) (.t 14))] [1,4,6,13,14,15,16]) (.seq (.cond (.t 16) .skip (.exit 0)) (.seq (.block 1 (.seq (.reg [zM 17 15,qD 18 8 13 15,qT 19 8 18,zA 8 (.alloc 13 [fD 0,.cO 1,.cO 1,fD 0,fD 0,.c (.str []),.cO 1,.cO 5]),zM 7 17,qS 8 8 19] [1,4,6,7,8,13,14,15]) (.seq (.reg [qT 21 5 6,qT 22 8 8,q2 23 102 21 22,zM 20 23,qE 24 20 0,qE 25 20 1,qZ 9 14,qS 5 9 24,zM 10 25] [1,4,6,7,9,10,13,14,15]) (.seq (.seq (.reg [zM 26 10,qO 27 26] [1,4,6,7,9,13,14,15,27]) (.cond (.t 27) (.seq (.reg [zA 28 (.build zN []),zM 29 7,qS 5 4 28,zM 5 29] [4,5]) .ret) .skip)) (.reg [qT 30 5 9,qS 5 6 30] [1,4,6,13,14,15]))))) (.reg [zA 31 (.bin .add (.t 15) (kI 1)),zM 15 31] [1,4,6,13,14,15]))))))) (.seq (.reg [qT 32 5 6,zM 33 1,qL 34 33,qS 5 4 32,zM 5 34] [4,5]) .ret))))
theorem K.iT:dR pZ 53 2 0 C.iT [.cell 4 true 5,.tmp 5]=true:=by kernel_rfl
def C.jK:aT:=(.seq (.reg [qX 2 10 0,qZ 4 11,qB 5 false] [1,2,4]) (.seq (.seq (.reg [qT 8 5 2,q1 9 47 8,qO 10 9,zM 11 10,zG 11 false 12 (.mv (.t 1)),⟨(some (11,false)),some 13,.call 52 [.t 12]⟩,zG 11 false 14 (.not (.t 13)),qQ 15 11 14] [1,2,4,15]) (.cond (.t 15) (.seq (.reg [zA 16 (.build zN []),qS 5 4 16,qB 5 false] [4,5]) .ret) .skip)) (.seq (.reg [qT 18 5 2,zM 19 1,q2 20 53 18 19,zM 17 20,qE 21 17 0,qE 22 17 1,qZ 6 12,qS 5 6 21,zM 7 22] [1,4,6,7]) (.seq (.reg [qT 23 5 6,zM 24 7,zM 25 1,qL 26 25,zA 27 (.bin .eql (.t 24) (.t 26)),qS 5 4 23,zM 5 27] [4,5]) .ret))))
theorem K.jK:dR pZ 20 2 0 C.jK [.cell 4 true 5,.tmp 5]=true:=by kernel_rfl
def C.gU:aT:=(.seq (.reg [qI 4 0] [0,1]) (.seq (.reg [zM 5 0,zM 6 1,zA 7 (.RG (.t 5) (.t 6)),zM 4 7] [4]) .ret))
theorem K.gU:dR pZ 172 2 0 C.gU [.tmp 4]=true:=by kernel_rfl
def C.strings_IndexByte:aT:=(.seq (.reg [qI 4 0] [0,1]) (.seq (.reg [zM 5 0,zM 6 1,q2 7 172 5 6,zM 4 7] [4]) .ret))
theorem K.strings_IndexByte:dR pZ 119 2 0 C.strings_IndexByte [.tmp 4]=true:=by kernel_rfl
def C.kC:aT:=(.seq (.reg [qB 2 false] [0]) (.seq (.seq (.reg [zM 4 0,zA 5 (.lens (.t 4)),zA 6 (.bin .neq (.t 5) (kI 4))] [0,6]) (.cond (.t 6) (.seq (.reg [qB 2 false] [2]) .ret) .skip)) (.seq (.seq (.reg [qI 3 0] [0,3]) (.block 0 (.loop (.seq (.seq (.reg [zM 7 3,zM 8 0,zA 9 (.lens (.t 8)),zA 10 (.bin .lss (.t 7) (.t 9))] [0,3,10]) (.cond (.t 10) .skip (.exit 0))) (.seq (.block 1 (.seq (.reg [zM 13 0,zM 14 3,zA 15 (.idxs (.t 13) (.t 14)),⟨none,some 16,.call 119 [.k (.c (.str [48,49,50,51,52,53,54,55,56,57,97,98,99,100,101,102])),.t 15]⟩,zA 17 (.bin .lss (.t 16) (kI 0))] [0,3,17]) (.cond (.t 17) (.seq (.reg [qB 2 false] [2]) .ret) .skip))) (.reg [zM 11 3,zA 12 (.bin .add (.t 11) (kI 1)),zM 3 12] [0,3])))))) (.seq (.reg [qB 2 true] [2]) .ret))))
theorem K.kC:dR pZ 76 1 0 C.kC [.tmp 2]=true:=by kernel_rfl
def C.iD:aT:=(.seq (.reg [qB 2 false] [0]) (.seq (.seq (.reg [zM 5 0,qL 6 5,zA 7 (.bin .gtr (.t 6) (kI 4))] [0,7]) (.cond (.t 7) (.seq (.reg [qB 2 false] [2]) .ret) .skip)) (.seq (.seq (.reg [zM 8 0,qL 9 8,qI 10 0] [8,9,10]) (.block 0 (.loop (.seq (.reg [zA 11 (.bin .lss (.t 10) (.t 9))] [8,9,10,11]) (.seq (.cond (.t 11) .skip (.exit 0)) (.seq (.block 1 (.seq (.reg [qD 12 1 8 10,qF 13 1 12,zM 4 13] [4,8,9,10]) (.seq (.reg [zM 14 4,zA 15 (.bin .neq (.t 14) (.k (.c (.str [42])))),zM 16 15,zG 16 true 17 (.mv (.t 4)),⟨(some (16,true)),some 18,.call 76 [.t 17]⟩,zG 16 true 19 (.not (.t 18)),qP 20 16 19] [8,9,10,20]) (.cond (.t 20) (.seq (.reg [qB 2 false] [2]) .ret) .skip)))) (.reg [zA 21 (.bin .add (.t 10) (kI 1)),zM 10 21] [8,9,10]))))))) (.seq (.reg [qB 2 true] [2]) .ret))))
theorem K.iD:dR pZ 75 1 0 C.iD [.tmp 2]=true:=by kernel_rfl
def C.slices_Index_string:aT:=(.seq (.reg [qI 4 0] [0,1]) (.seq (.seq (.reg [zM 6 0,qL 7 6,qI 8 0] [0,1,7,8]) (.block 0 (.loop (.seq (.reg [zA 9 (.bin .lss (.t 8) (.t 7))] [0,1,7,8,9]) (.seq (.cond (.t 9) .skip (.exit 0)) (.seq (.block 1 (.seq (.reg [zM 10 8,zM 5 10] [0,1,5,7,8]) (.seq (.reg [zM 11 1,zM 12 0,zM 13 5,qD 14 1 12 13,qF 15 1 14,zA 16 (.bin .eql (.t 11) (.t 15))] [0,1,5,7,8,16]) (.cond (.t 16) (.seq (.reg [zM 17 5,zM 4 17] [4]) .ret) .skip)))) (.reg [zA 18 (.bin .add (.t 8) (kI 1)),zM 8 18] [0,1,7,8]))))))) (.seq (.reg [qI 4 (-1)] [4]) .ret)))
theorem K.slices_Index_string:dR pZ 173 2 0 C.slices_Index_string [.tmp 4]=true:=by kernel_rfl
def C.slices_Contains_string:aT:=(.seq (.reg [qB 4 false] [0,1]) (.seq (.reg [zM 5 0,zM 6 1,q2 7 173 5 6,zA 8 (.bin .geq (.t 7) (kI 0)),zM 4 8] [4]) .ret))
theorem K.slices_Contains_string:dR pZ 120 2 0 C.slices_Contains_string [.tmp 4]=true:=by kernel_rfl
def C.kW:aT:=(.seq (.reg [qB 4 false] [0,1]) (.seq (.reg [zM 5 0,zM 6 1,q2 7 120 5 6,zM 8 7,zG 8 false 9 (.mv (.t 0)),⟨(some (8,false)),some 10,.call 120 [.t 9,.k (.c (.str [42]))]⟩,qQ 11 8 10,zM 4 11] [4]) .ret))
theorem K.kW:dR pZ 77 2 0 C.kW [.tmp 4]=true:=by kernel_rfl
def C.iO:aT:=(.seq (.reg [qI 8 0] [0,1,2,3]) (.cut (.seq (.reg [zM 9 0,q1 10 75 9,qO 11 10,zM 12 11,zG 12 false 13 (.mv (.t 1)),⟨(some (12,false)),some 14,.call 75 [.t 13]⟩,zG 12 false 15 (.not (.t 14)),qQ 16 12 15,zM 17 16,zG 17 false 18 (.mv (.t 2)),zG 17 false 19 (.bin .neq (.t 18) (.k (.c (.str [])))),zG 17 false 20 (.mv (.t 19)),zG 20 true 21 (.mv (.t 2)),⟨(some (20,true)),some 22,.call 76 [.t 21]⟩,zG 20 true 23 (.not (.t 22)),zG 17 false 24 (.pick (.t 20) (.t 23) (kB false)),qQ 25 17 24] [0,1,2,3,25]) (.cond (.t 25) (.seq (.reg [qI 8 400] [8]) .ret) .skip)) (.seq (.seq (.reg [zM 26 0,qL 27 26,zA 28 (.bin .gtr (.t 27) (kI 0)),zM 29 28,zG 29 true 30 (.mv (.t 2)),zG 29 true 31 (.bin .eql (.t 30) (.k (.c (.str [])))),zG 29 true 32 (.mv (.t 31)),zG 32 false 33 (.mv (.t 0)),zG 32 false 34 (.mv (.t 2)),⟨(some (32,false)),some 35,.call 77 [.t 33,.t 34]⟩,zG 32 false 36 (.not (.t 35)),zG 29 true 37 (.pick (.t 32) (kB true) (.t 36)),qP 38 29 37] [1,2,3,38]) (.cond (.t 38) (.seq (.reg [qI 8 412] [8]) .ret) .skip)) (.seq (.seq (.reg [zM 39 1,qL 40 39,zA 41 (.bin .gtr (.t 40) (kI 0)),zM 42 41,zG 42 true 43 (.mv (.t 2)),zG 42 true 44 (.bin .neq (.t 43) (.k (.c (.str [])))),qP 45 42 44,zM 46 45,zG 46 true 47 (.mv (.t 1)),zG 46 true 48 (.mv (.t 2)),⟨(some (46,true)),some 49,.call 77 [.t 47,.t 48]⟩,qP 50 46 49] [3,50]) (.cond (.t 50) (.seq (.seq (.reg [zM 51 3] [51]) (.cond (.t 51) (.seq (.reg [qI 8 304] [8]) .ret) .skip)) (.seq (.reg [qI 8 412] [8]) .ret)) .skip)) (.seq (.reg [qI 8 200] [8]) .ret)))))
theorem K.iO:dR pZ 37 4 0 C.iO [.tmp 8]=true:=by kernel_rfl
def C.iG:aT:=(.seq (.reg [qB 2 false] [0]) (.seq (.seq (.reg [zM 4 0,zA 5 (.bin .eql (.t 4) (.k (.c (.str [])))),zM 6 5,zG 6 false 7 (.mv (.t 0)),zG 6 false 8 (.lens (.t 7)),zG 6 false 9 (.bin .gtr (.t 8) (kI 8)),qQ 10 6 9] [0,10]) (.cond (.t 10) (.seq (.reg [qB 2 false] [2]) .ret) .skip)) (.seq (.seq (.reg [qI 3 0] [0,3]) (.block 0 (.loop (.seq (.seq (.reg [zM 11 3,zM 12 0,zA 13 (.lens (.t 12)),zA 14 (.bin .lss (.t 11) (.t 13))] [0,3,14]) (.cond (.t 14) .skip (.exit 0))) (.seq (.block 1 (.seq (.reg [zM 17 0,zM 18 3,zA 19 (.idxs (.t 17) (.t 18)),zA 20 (.bin .lss (.t 19) (.k (.c (.lit (.int .u8 97))))),zM 21 20,zG 21 false 22 (.mv (.t 0)),zG 21 false 23 (.mv (.t 3)),zG 21 false 24 (.idxs (.t 22) (.t 23)),zG 21 false 25 (.bin .gtr (.t 24) (.k (.c (.lit (.int .u8 122))))),qQ 26 21 25,zM 27 26,zG 27 true 28 (.mv (.t 0)),zG 27 true 29 (.mv (.t 3)),zG 27 true 30 (.idxs (.t 28) (.t 29)),zG 27 true 31 (.bin .lss (.t 30) (.k (.c (.lit (.int .u8 48))))),zG 27 true 32 (.mv (.t 31)),zG 32 false 33 (.mv (.t 0)),zG 32 false 34 (.mv (.t 3)),zG 32 false 35 (.idxs (.t 33) (.t 34)),zG 32 false 36 (.bin .gtr (.t 35) (.k (.c (.lit (.int .u8 57))))),zG 27 true 37 (.pick (.t 32) (kB true) (.t 36)),qP 38 27 37] [0,3,38]) (.cond (.t 38) (.seq (.reg [qB 2 false] [2]) .ret) .skip))) (.reg [zM 15 3,zA 16 (.bin .add (.t 15) (kI 1)),zM 3 16] [0,3])))))) (.seq (.reg [qB 2 true] [2]) .ret))))
theorem K.iG:dR pZ 66 1 0 C.iG [.tmp 2]=true:=by kernel_rfl
def C.bg:aT:=(.seq (.reg [qX 1 10 0,qB 2 false] [1]) (.seq (.seq (.reg [qA 5 0 1,qF 6 1 5,qL 7 6,zA 8 (.bin .gtr (.t 7) (kI 10)),zM 9 8,zG 9 false 10 (.eH 1 (.t 1)),zG 9 false 11 (.load false 1 (.t 10)),zG 9 false 12 (.bin .lss (.t 11) (kI 0)),qQ 13 9 12,zM 14 13,zG 14 false 15 (.eH 1 (.t 1)),zG 14 false 16 (.load false 1 (.t 15)),zG 14 false 17 (.bin .gtr (.t 16) (kI 999)),qQ 18 14 17] [1,18]) (.cond (.t 18) (.seq (.reg [qB 2 false] [2]) .ret) .skip)) (.seq (.seq (.reg [qA 19 0 1,qF 20 1 19,qL 21 20,qI 22 0] [1,20,21,22]) (.block 0 (.loop (.seq (.reg [zA 23 (.bin .lss (.t 22) (.t 21))] [1,20,21,22,23]) (.seq (.cond (.t 23) .skip (.exit 0)) (.seq (.block 1 (.seq (.reg [zM 24 22,qD 25 7 20 22,qT 26 7 25,zA 4 (.alloc 11 [.c (.str []),fD 0,fD 0,fD 0,.c (.str []),.cO 1,.cO 5]),zM 3 24,qS 7 4 26] [1,3,4,20,21,22]) (.seq (.seq (.kN [(qA 27 0 4,[]),(qF 28 1 27,[0]),(q1 29 66 28,[0,1]),(qO 30 29,[0,1,2]),(zM 31 30,[0,1,2,3]),(zG 31 false 32 (.mv (.t 3)),[0,1,2,3,4]),(zG 31 false 33 (.bin .gtr (.t 32) (kI 0)),[0,1,2,3,4,5]),(zG 31 false 34 (.mv (.t 33)),[0,1,2,3,4,5,6]),(zG 34 true 35 (.eH 0 (.t 1)),[0,1,2,3,4,5,6,7]),(zG 34 true 36 (.load false 1 (.t 35)),[0,1,2,3,4,5,6,7,8]),(zG 34 true 37 (.mv (.t 3)),[0,1,2,3,4,5,6,7]),(zG 34 true 38 (.bin .sub (.t 37) (kI 1)),[0,1,2,3,4,5,6,7,10]),(zG 34 true 39 (.oD 7 (.t 36) (.t 38)),[0,1,2,3,4,5,6,7,8,9,10,11]),(zG 34 true 40 (.eH 0 (.t 39)),[0,1,2,3,4,5,6,7,8,9,10,11,12]),(zG 34 true 41 (.load false 1 (.t 40)),[0,1,2,3,4,5,6,7,8,9,10,11,12,13]),(zG 34 true 42 (.eH 0 (.t 4)),[0,1,2,3,4,5,6,7]),(zG 34 true 43 (.load false 1 (.t 42)),[0,1,2,3,4,5,6,7,15]),(zG 34 true 44 (.bin .geq (.t 41) (.t 43)),[0,1,2,3,4,5,6,7,8,9,10,11,12,13,14,15,16]),(zG 31 false 45 (.pick (.t 34) (.t 44) (kB false)),[0,1,2,3,4,5,6,7,8,9,10,11,12,13,14,15,16,17]),(qQ 46 31 45,[0,1,2,3,4,5,6,7,8,9,10,11,12,13,14,15,16,17,18])] [1,4,20,21,22,46]) (.cond (.t 46) (.seq (.reg [qB 2 false] [2]) .ret) .skip)) (.seq (.reg [qA 47 1 4,qF 48 1 47,zA 49 (.bin .lss (.t 48) (kI 1)),zM 50 49,zG 50 false 51 (.eH 1 (.t 4)),zG 50 false 52 (.load false 1 (.t 51)),zG 50 false 53 (.eH 1 (.t 1)),zG 50 false 54 (.load false 1 (.t 53)),zG 50 false 55 (.bin .gtr (.t 52) (.t 54)),qQ 56 50 55,zM 57 56,zG 57 false 58 (.eH 2 (.t 4)),zG 57 false 59 (.load true 5 (.t 58)),⟨(some (57,false)),some 60,.call 47 [.t 59]⟩,zG 57 false 61 (.not (.t 60)),qQ 62 57 61] [1,20,21,22,62]) (.cond (.t 62) (.seq (.reg [qB 2 false] [2]) .ret) .skip))))) (.reg [zA 63 (.bin .add (.t 22) (kI 1)),zM 22 63] [1,20,21,22]))))))) (.seq (.reg [qB 2 true] [2]) .ret))))
theorem K.bg:dR pZ 29 1 0 C.bg [.tmp 2]=true:=by kernel_rfl
def C.lK:aT:=(.seq (.reg [qX 1 10 0,zA 2 (.alloc 11 [.c (.str []),fD 0,fD 0,fD 0,.c (.str []),.cO 1,.cO 5])] [1,2]) (.seq (.kN [(qA 3 0 1,[]),(qF 4 1 3,[0]),(qA 5 1 1,[]),(qF 6 1 5,[2]),(qA 7 2 1,[]),(qT 8 5 7,[4]),(q1 9 100 8,[4,5]),(zA 10 (.build [.c (.str []),fD 0,fD 0,fD 0,.c (.str []),.cO 1,.cO 5] [(0,1,.t 4),(1,1,.t 6),(2,5,.t 9)]),[0,1,2,3,4,5,6]),(qS 7 2 10,[0,1,2,3,4,5,6,7])] [2]) .ret))
theorem K.lK:dR pZ 51 1 0 C.lK [.cell 2 true 7]=true:=by kernel_rfl
def C.bn:aT:=(.seq (.reg [qX 1 10 0,zA 2 (.alloc 11 [.cO 7,fD 0])] [1,2]) (.seq (.reg [qA 6 1 1,qF 7 1 6,zA 8 (.build [.cO 7,fD 0] [(1,1,.t 7)]),zA 3 (.alloc 12 [.cO 7,fD 0]),qS 2 3 8] [1,2,3]) (.seq (.seq (.reg [qA 9 0 1,qF 10 1 9,qL 11 10,zA 12 (.bin .gtr (.t 11) (kI 0))] [1,2,3,12]) (.cond (.t 12) (.seq (.reg [qA 13 0 1,qF 14 1 13,qL 15 14,zA 16 (.makes 13 7 104 [.str [],.lit (.int .i64 0),.lit (.int .i64 0),.lit (.int .i64 0),.str [],.sl 1 [],.sl 5 []] (.t 15) (.t 15)),qA 17 0 3,qU 1 17 16] [1,2,3]) (.seq (.reg [qA 18 0 1,qF 19 1 18,qL 20 19,qI 21 0] [2,3,19,20,21]) (.block 0 (.loop (.seq (.reg [zA 22 (.bin .lss (.t 21) (.t 20))] [2,3,19,20,21,22]) (.seq (.cond (.t 22) .skip (.exit 0)) (.seq (.block 1 (.seq (.reg [zM 23 21,qD 24 7 19 21,qT 25 7 24,zA 5 (.alloc 14 [.c (.str []),fD 0,fD 0,fD 0,.c (.str []),.cO 1,.cO 5]),zM 4 23,qS 7 5 25] [2,3,4,5,19,20,21]) (.kN [(qA 26 0 3,[]),(qF 27 1 26,[0]),(zM 28 4,[]),(qT 29 7 5,[]),(q1 30 51 29,[3]),(qD 31 7 27 28,[0,1,2,3,4]),(qS 7 31 30,[0,1,2,3,4,5])] [2,3,19,20,21]))) (.reg [zA 32 (.bin .add (.t 21) (kI 1)),zM 21 32] [2,3,19,20,21])))))))) .skip)) (.seq (.reg [qT 33 2 3,qS 2 2 33] [2]) .ret))))
theorem K.bn:dR pZ 36 1 0 C.bn [.cell 2 true 2]=true:=by kernel_rfl
def C.lQ:aT:=(.seq (.reg [qX 2 10 0,qI 4 0] [1,2]) (.seq (.reg [qA 5 0 2,qF 6 1 5,zM 7 1,q2 8 99 6 7,zM 4 8] [4]) .ret))
theorem K.lQ:dR pZ 98 2 0 C.lQ [.tmp 4]=true:=by kernel_rfl
def C.o6:aT:=(.seq (.reg [qI 6 0,qB 7 false] [0,1,2]) (.seq (.reg [zM 12 0,qL 13 12,zM 8 13] [0,1,2,8]) (.seq (.reg [zM 14 8,qI 9 0,zM 10 14] [0,1,2,8,9,10]) (.seq (.block 0 (.loop (.seq (.seq (.reg [zM 15 9,zM 16 10,zA 17 (.bin .lss (.t 15) (.t 16))] [0,1,2,8,9,10,17]) (.cond (.t 17) .skip (.exit 0))) (.block 1 (.seq (.reg [zM 18 9,zM 19 10,zA 20 (.bin .add (.t 18) (.t 19)),zA 21 (.wB .u64 (.t 20)),zA 22 (.V3 false (.t 21) (.k (.c (.lit (.int .u64 1))))),zA 23 (.wB .i64 (.t 22)),zM 11 23] [0,1,2,8,9,10,11]) (.seq (.reg [zM 24 2,zM 25 0,zM 26 11,qD 27 7 25 26,qT 28 7 27,zM 29 1,⟨none,some 30,.xJ (.t 24) [.t 28,.t 29]⟩,zA 31 (.bin .lss (.t 30) (kI 0))] [0,1,2,8,9,10,11,31]) (.cond (.t 31) (.reg [zM 32 11,zA 33 (.bin .add (.t 32) (kI 1)),zM 9 33] [0,1,2,8,9,10]) (.reg [zM 34 11,zM 10 34] [0,1,2,8,9,10])))))))) (.seq (.reg [zM 35 9,zM 36 9,zM 37 8,zA 38 (.bin .lss (.t 36) (.t 37)),zM 39 38,zG 39 true 40 (.mv (.t 2)),zG 39 true 41 (.mv (.t 0)),zG 39 true 42 (.mv (.t 9)),zG 39 true 43 (.oD 7 (.t 41) (.t 42)),zG 39 true 44 (.load true 7 (.t 43)),zG 39 true 45 (.mv (.t 1)),⟨(some (39,true)),some 46,.xJ (.t 40) [.t 44,.t 45]⟩,zG 39 true 47 (.bin .eql (.t 46) (kI 0)),qP 48 39 47,zM 6 35,zM 7 48] [6,7]) .ret)))))
theorem K.ax:dR pZ 97 3 0 C.o6 [.tmp 6,.tmp 7]=true:=by kernel_rfl
def C.jS:aT:=(.seq (.reg [qI 4 0,qB 5 false] [0,1]) (.seq (.reg [zM 6 0,zM 7 1,⟨none,some 8,.call 97 [.t 6,.t 7,.k (.fn 98 [])]⟩,qE 9 8 0,qE 10 8 1,zM 4 9,zM 5 10] [4,5]) .ret))
theorem K.jS:dR pZ 50 2 0 C.jS [.tmp 4,.tmp 5]=true:=by kernel_rfl
def C.iH:aT:=(.seq (.reg [zA 6 (.mv (.k (.cO 7)))] [0,1,2]) (.seq (.reg [zM 8 0,zM 9 1,zM 10 2,zM 11 0,qL 12 11,zA 13 (.sl3 7 (.t 8) (.t 9) (.t 10) (.t 12))] [0,1,2]) (.seq (.seq (.reg [zM 14 1,zM 15 2,zA 16 (.bin .eql (.t 14) (.t 15))] [0,1,2,16]) (.cond (.t 16) (.seq (.reg [zM 17 0,zM 6 17] [6]) .ret) .skip)) (.seq (.reg [zM 18 0,qL 19 18,zM 7 19] [0,1,2,7]) (.seq (.kN [(zM 20 0,[]),(zM 21 1,[]),(zA 22 (.jX 7 (.t 20) none (some (.t 21))),[0,1]),(zM 23 0,[]),(zM 24 2,[]),(zA 25 (.jX 7 (.t 23) (some (.t 24)) none),[3,4]),(zA 26 (.F6 10 7 104 (.t 22) (.t 25)),[0,1,2,3,4,5]),(zM 0 26,[0,1,2,3,4,5,6])] [0,7]) (.seq (.reg [zM 27 0,zM 28 0,qL 29 28,zM 30 7,zA 31 (.jX 7 (.t 27) (some (.t 29)) (some (.t 30))),zS (.Jg 7 [.str [],.lit (.int .i64 0),.lit (.int .i64 0),.lit (.int .i64 0),.str [],.sl 1 [],.sl 5 []] (.t 31))] [0]) (.seq (.reg [zM 32 0,zM 6 32] [6]) .ret)))))))
theorem K.iH:dR pZ 121 3 1 C.iH [.tmp 6]=true:=by kernel_rfl
def C.mD:aT:=(.seq (.reg [qX 2 10 0,zA 4 (.alloc 11 [.cO 7,fD 0]),qB 5 false] [1,2,4]) (.seq (.seq (.reg [qT 9 2 2,q1 10 29 9,qO 11 10,zM 12 11,zG 12 false 13 (.eH 1 (.t 2)),zG 12 false 14 (.load false 1 (.t 13)),zG 12 false 15 (.bin .eql (.t 14) (kI 999)),qQ 16 12 15] [1,2,4,16]) (.cond (.t 16) (.seq (.reg [zA 17 (.build [.cO 7,fD 0] []),qS 2 4 17,qB 5 false] [4,5]) .ret) .skip)) (.seq (.reg [qA 19 0 2,qF 20 1 19,zM 21 1,q2 22 50 20 21,zM 18 22,qE 23 18 0,qE 24 18 1,zM 6 23,zM 7 24] [2,4,6,7]) (.seq (.seq (.reg [zM 25 7,qO 26 25] [2,4,6,26]) (.cond (.t 26) (.seq (.reg [zA 27 (.build [.cO 7,fD 0] []),qS 2 4 27,qB 5 false] [4,5]) .ret) .skip)) (.seq (.reg [qT 28 2 2,q1 29 36 28,zA 8 (.alloc 12 [.cO 7,fD 0]),qS 2 8 29] [4,6,8]) (.seq (.reg [qA 30 1 8,qF 31 1 30,zA 32 (.bin .add (.t 31) (kI 1)),qA 33 1 8,qU 1 33 32] [4,6,8]) (.seq (.reg [qA 34 0 8,qF 35 1 34,zM 36 6,zM 37 6,zA 38 (.bin .add (.t 37) (kI 1)),q3 39 121 35 36 38,qA 40 0 8,qU 1 40 39] [4,8]) (.seq (.reg [qT 41 2 8,qS 2 4 41,qB 5 true] [4,5]) .ret))))))))
theorem K.mD:dR pZ 78 2 0 C.mD [.cell 4 true 2,.tmp 5]=true:=by kernel_rfl
def C.dG:aT:=(.seq (.reg [zM 5 0,⟨none,some 6,.call 139 [.t 5,.k (.c (.lit (.int .u8 34)))]⟩] [0,1]) (.seq (.seq (.reg [qI 4 0] [0,1,4]) (.block 0 (.loop (.seq (.seq (.reg [zM 7 4,zM 8 1,zA 9 (.lens (.t 8)),zA 10 (.bin .lss (.t 7) (.t 9))] [0,1,4,10]) (.cond (.t 10) .skip (.exit 0))) (.seq (.block 1 (.cut (.seq (.reg [zM 13 1,zM 14 4,zA 15 (.idxs (.t 13) (.t 14)),zA 16 (.bin .eql (.t 15) (.k (.c (.lit (.int .u8 34))))),zM 17 16,zG 17 false 18 (.mv (.t 1)),zG 17 false 19 (.mv (.t 4)),zG 17 false 20 (.idxs (.t 18) (.t 19)),zG 17 false 21 (.bin .eql (.t 20) (.k (.c (.lit (.int .u8 92))))),qQ 22 17 21] [0,1,4,22]) (.cond (.t 22) (.reg [zM 23 0,⟨none,some 24,.call 139 [.t 23,.k (.c (.lit (.int .u8 92)))]⟩] [0,1,4]) .skip)) (.reg [zM 25 0,zM 26 1,zM 27 4,zA 28 (.idxs (.t 26) (.t 27)),q2 29 139 25 28] [0,1,4]))) (.reg [zM 11 4,zA 12 (.bin .add (.t 11) (kI 1)),zM 4 12] [0,1,4])))))) (.reg [zM 30 0,⟨none,some 31,.call 139 [.t 30,.k (.c (.lit (.int .u8 34)))]⟩] [])))
theorem K.dG:dR pZ 138 2 2 C.dG []=true:=by kernel_rfl
def C.aZ:aT:=(.seq (.reg [qX 3 10 1] [0,3]) (.seq (.reg [qA 8 0 3,qF 9 1 8] [0,3,9]) (.block 0 (.seq (.reg [zA 11 (.bin .eql (.t 9) (kI 0)),zM 10 11] [0,3,9,10]) (.cond (.t 10) (.reg [zM 12 0,⟨none,some 13,.call 136 [.t 12,.k (.c (.str [110,117,108,108]))]⟩] []) (.seq (.reg [zA 15 (.bin .eql (.t 9) (kI 1)),zM 14 15] [0,3,9,14]) (.cond (.t 14) (.reg [zM 16 0,qA 17 1 3,qF 18 1 17,q1 19 137 18,q2 20 136 16 19] []) (.seq (.reg [zA 22 (.bin .eql (.t 9) (kI 2)),zM 21 22] [0,3,9,21]) (.cond (.t 21) (.reg [zM 23 0,qA 24 2 3,qF 25 1 24,q2 26 138 23 25] []) (.seq (.reg [zA 28 (.bin .eql (.t 9) (kI 3)),zM 27 28] [0,3,9,27]) (.cond (.t 27) (.seq (.reg [zM 29 0,⟨none,some 30,.call 139 [.t 29,.k (.c (.lit (.int .u8 91)))]⟩] [0,3]) (.seq (.seq (.reg [qA 31 4 3,qF 32 1 31,qL 33 32,qI 34 0] [0,32,33,34]) (.block 1 (.loop (.seq (.reg [zA 35 (.bin .lss (.t 34) (.t 33))] [0,32,33,34,35]) (.seq (.cond (.t 35) .skip (.exit 1)) (.seq (.block 2 (.seq (.reg [zM 36 34,qD 37 5 32 34,qT 38 5 37,qZ 5 11,zM 4 36,qS 5 5 38] [0,4,5,32,33,34]) (.cut (.seq (.reg [zM 39 4,zA 40 (.bin .gtr (.t 39) (kI 0))] [0,5,32,33,34,40]) (.cond (.t 40) (.reg [zM 41 0,⟨none,some 42,.call 139 [.t 41,.k (.c (.lit (.int .u8 44)))]⟩] [0,5,32,33,34]) .skip)) (.reg [zM 43 0,qT 44 5 5,q2 45 95 43 44] [0,32,33,34])))) (.reg [zA 46 (.bin .add (.t 34) (kI 1)),zM 34 46] [0,32,33,34]))))))) (.reg [zM 47 0,⟨none,some 48,.call 139 [.t 47,.k (.c (.lit (.int .u8 93)))]⟩] []))) (.seq (.reg [zA 50 (.bin .eql (.t 9) (kI 4)),zM 49 50] [0,3,49]) (.cond (.t 49) (.seq (.reg [zM 51 0,⟨none,some 52,.call 139 [.t 51,.k (.c (.lit (.int .u8 123)))]⟩] [0,3]) (.seq (.seq (.reg [qA 53 4 3,qF 54 1 53,qL 55 54,qI 56 0] [0,3,54,55,56]) (.block 3 (.loop (.seq (.reg [zA 57 (.bin .lss (.t 56) (.t 55))] [0,3,54,55,56,57]) (.seq (.cond (.t 57) .skip (.exit 3)) (.seq (.block 4 (.seq (.reg [zM 58 56,qD 59 5 54 56,qT 60 5 59,qZ 7 12,zM 6 58,qS 5 7 60] [0,3,6,7,54,55,56]) (.cut (.seq (.reg [zM 61 6,zA 62 (.bin .gtr (.t 61) (kI 0))] [0,3,6,7,54,55,56,62]) (.cond (.t 62) (.reg [zM 63 0,⟨none,some 64,.call 139 [.t 63,.k (.c (.lit (.int .u8 44)))]⟩] [0,3,6,7,54,55,56]) .skip)) (.seq (.reg [zM 65 0,qA 66 3 3,qF 67 1 66,zM 68 6,qD 69 1 67 68,qF 70 1 69,q2 71 138 65 70] [0,3,7,54,55,56]) (.seq (.reg [zM 72 0,⟨none,some 73,.call 139 [.t 72,.k (.c (.lit (.int .u8 58)))]⟩] [0,3,7,54,55,56]) (.reg [zM 74 0,qT 75 5 7,q2 76 95 74 75] [0,3,54,55,56])))))) (.reg [zA 77 (.bin .add (.t 56) (kI 1)),zM 56 77] [0,3,54,55,56]))))))) (.reg [zM 78 0,⟨none,some 79,.call 139 [.t 78,.k (.c (.lit (.int .u8 125)))]⟩] []))) .skip)))))))))))))
theorem K.aZ:dR pZ 95 2 2 C.aZ []=true:=by kernel_rfl
def C.lg:aT:=(.seq (.reg [qX 1 10 0,zA 2 (.mv (.k (.c (.str []))))] [1]) (.seq (.seq (.reg [qT 4 5 1,q1 5 47 4,qO 6 5] [1,6]) (.cond (.t 6) (.seq (.reg [zA 2 (.mv (.k (.c (.str []))))] [2]) .ret) .skip)) (.seq (.reg [zA 3 (.Cc 116 5 12 11)] [1,3]) (.seq (.reg [qT 7 5 1,q2 8 95 3 7] [3]) (.seq (.reg [q1 9 96 3,zM 2 9] [2]) .ret)))))
theorem K.lg:dR pZ 49 1 0 C.lg [.tmp 2]=true:=by kernel_rfl
def C.ji:aT:=(.seq (.reg [qX 2 10 0,zA 4 (.alloc 11 [.c (.str []),fD 0,fD 0,fD 0,.c (.str []),.cO 1,.cO 5]),qB 5 false] [1,2,4]) (.seq (.seq (.reg [qT 8 2 2,q1 9 29 8,qO 10 9] [1,2,4,10]) (.cond (.t 10) (.seq (.reg [zA 11 (.build [.c (.str []),fD 0,fD 0,fD 0,.c (.str []),.cO 1,.cO 5] []),qS 7 4 11,qB 5 false] [4,5]) .ret) .skip)) (.seq (.reg [qA 13 0 2,qF 14 1 13,zM 15 1,q2 16 50 14 15,zM 12 16,qE 17 12 0,qE 18 12 1,zM 6 17,zM 7 18] [2,4,6,7]) (.seq (.seq (.reg [zM 19 7,qO 20 19] [2,4,6,20]) (.cond (.t 20) (.seq (.reg [zA 21 (.build [.c (.str []),fD 0,fD 0,fD 0,.c (.str []),.cO 1,.cO 5] []),qS 7 4 21,qB 5 false] [4,5]) .ret) .skip)) (.seq (.reg [qA 22 0 2,qF 23 1 22,zM 24 6,qD 25 7 23 24,qT 26 7 25,q1 27 51 26,qS 7 4 27,qB 5 true] [4,5]) .ret)))))
theorem K.ji:dR pZ 19 2 0 C.ji [.cell 4 true 7,.tmp 5]=true:=by kernel_rfl
def C.fM:aT:=(.seq (.reg [zA 2 (.mv (.k (.c (.str []))))] [0]) (.seq (.reg [qI 3 17] [0,3]) (.seq (.seq (.reg [qI 4 0] [0,3,4]) (.block 0 (.loop (.seq (.seq (.reg [zM 7 4,zM 8 0,zA 9 (.lens (.t 8)),zA 10 (.bin .lss (.t 7) (.t 9))] [0,3,4,10]) (.cond (.t 10) .skip (.exit 0))) (.seq (.block 1 (.reg [zM 13 3,zA 14 (.bin .mul (kI 131) (.t 13)),zM 15 0,zM 16 4,zA 17 (.idxs (.t 15) (.t 16)),zA 18 (.wB .i64 (.t 17)),zA 19 (.bin .add (.t 14) (.t 18)),zA 20 (.bin .rem (.t 19) (kI 65521)),zM 3 20] [0,3,4])) (.reg [zM 11 4,zA 12 (.bin .add (.t 11) (kI 1)),zM 4 12] [0,3,4])))))) (.seq (.reg [zA 5 (.Cb 10 1 4 [.lit (.int .u8 0)])] [3,5]) (.seq (.seq (.reg [qI 6 3] [3,5,6]) (.block 2 (.loop (.seq (.seq (.reg [zM 21 6,zA 22 (.bin .geq (.t 21) (kI 0))] [3,5,6,22]) (.cond (.t 22) .skip (.exit 2))) (.seq (.block 3 (.seq (.reg [zM 25 6,zM 26 3,zA 27 (.bin .rem (.t 26) (kI 16)),zA 28 (.idxs (.k (.c (.str [48,49,50,51,52,53,54,55,56,57,97,98,99,100,101,102]))) (.t 27)),zA 29 (.Ib 1 4 (.t 5) (.t 25)),qU 1 29 28] [3,5,6]) (.reg [zM 30 3,zA 31 (.bin .quo (.t 30) (kI 16)),zM 3 31] [3,5,6]))) (.reg [zM 23 6,zA 24 (.bin .sub (.t 23) (kI 1)),zM 6 24] [3,5,6])))))) (.seq (.reg [zA 32 (.IA 1 4 (.t 5)),zA 33 (.I9 (.t 32)),zM 2 33] [2]) .ret))))))
theorem K.fM:dR pZ 48 1 0 C.fM [.tmp 2]=true:=by kernel_rfl
def C.lF:aT:=(.seq (.reg [qX 1 10 0,zA 2 (.mv (.k (.c (.str []))))] [1]) (.seq (.seq (.reg [qT 3 5 1,q1 4 47 3,qO 5 4] [1,5]) (.cond (.t 5) (.seq (.reg [zA 2 (.mv (.k (.c (.str []))))] [2]) .ret) .skip)) (.seq (.reg [qT 6 5 1,q1 7 49 6,q1 8 48 7,zM 2 8] [2]) .ret)))
theorem K.lF:dR pZ 18 1 0 C.lF [.tmp 2]=true:=by kernel_rfl
def C.lq:aT:=(.seq (.reg [qX 2 10 0,qX 3 11 1,zA 4 (.alloc 12 [.cO 7,fD 0]),zA 5 (.alloc 13 [fD 0,.c (.str []),fD 0,fD 0,fD 0,.c (.str []),.cO 1,.cO 5])] [2,3,4,5]) (.seq (.reg [qT 9 2 2,qA 10 1 3,qF 11 1 10,q2 12 78 9 11,zM 8 12,qE 13 8 0,qE 14 8 1,zA 6 (.alloc 14 [.cO 7,fD 0]),qS 2 6 13,zM 7 14] [2,4,5,6,7]) (.seq (.seq (.reg [zM 15 7,qO 16 15] [2,4,5,6,16]) (.cond (.t 16) (.seq (.reg [qT 17 2 2,q1 18 36 17,zA 19 (.build [fD 0,.c (.str []),fD 0,fD 0,fD 0,.c (.str []),.cO 1,.cO 5] [(0,1,kI 422)]),qS 2 4 18,qS 8 5 19] [4,5]) .ret) .skip)) (.seq (.kN [(qT 20 2 6,[]),(qA 21 1 6,[]),(qF 22 1 21,[1]),(zA 23 (.build [fD 0,.c (.str []),fD 0,fD 0,fD 0,.c (.str []),.cO 1,.cO 5] [(0,1,kI 200),(2,1,.t 22)]),[1,2]),(qS 2 4 20,[0]),(qS 8 5 23,[0,1,2,3,4])] [4,5]) .ret))))
theorem K.lq:dR pZ 38 2 0 C.lq [.cell 4 true 2,.cell 5 true 8]=true:=by kernel_rfl
def C.iI:aT:=(.seq (.reg [zA 6 (.mv (.k (.cO 7)))] [0,1,2]) (.seq (.reg [zM 10 0,zM 11 1,zA 12 (.jX 7 (.t 10) (some (.t 11)) none)] [0,1,2]) (.seq (.reg [zM 13 2,qL 14 13,zM 7 14] [0,1,2,7]) (.seq (.seq (.reg [zM 15 7,zA 16 (.bin .eql (.t 15) (kI 0))] [0,1,2,7,16]) (.cond (.t 16) (.seq (.reg [zM 17 0,zM 6 17] [6]) .ret) .skip)) (.seq (.reg [zM 18 0,qL 19 18,zM 8 19] [0,1,2,7,8]) (.seq (.seq (.reg [zM 20 1,zM 21 8,zA 22 (.bin .eql (.t 20) (.t 21))] [0,1,2,7,8,22]) (.cond (.t 22) (.seq (.reg [zM 23 0,zM 24 2,zA 25 (.F6 10 7 104 (.t 23) (.t 24)),zM 6 25] [6]) .ret) .skip)) (.seq (.seq (.reg [zM 26 8,zM 27 7,zA 28 (.bin .add (.t 26) (.t 27)),zM 29 0,zA 30 (.MJ (.t 29)),zA 31 (.bin .gtr (.t 28) (.t 30))] [0,1,2,7,8,31]) (.cond (.t 31) (.seq (.reg [zM 32 0,zM 33 1,zA 34 (.jX 7 (.t 32) none (some (.t 33))),zM 35 8,zM 36 7,zA 37 (.bin .add (.t 35) (.t 36)),zM 38 1,zA 39 (.bin .sub (.t 37) (.t 38)),zA 40 (.JO 11 7 104 [.str [],.lit (.int .i64 0),.lit (.int .i64 0),.lit (.int .i64 0),.str [],.sl 1 [],.sl 5 []] (.t 34) (.t 39)),zM 9 40] [0,1,2,7,9]) (.seq (.reg [zM 41 9,zM 42 1,zA 43 (.jX 7 (.t 41) (some (.t 42)) none),zM 44 2,zA 45 (.xZ 7 (.t 43) (.t 44))] [0,1,7,9]) (.seq (.kN [(zM 46 9,[]),(zM 47 1,[]),(zM 48 7,[]),(zA 49 (.bin .add (.t 47) (.t 48)),[1,2]),(zA 50 (.jX 7 (.t 46) (some (.t 49)) none),[0,1,2,3]),(zM 51 0,[]),(zM 52 1,[]),(zA 53 (.jX 7 (.t 51) (some (.t 52)) none),[5,6]),(zA 54 (.xZ 7 (.t 50) (.t 53)),[0,1,2,3,4,5,6,7])] [9]) (.seq (.reg [zM 55 9,zM 6 55] [6]) .ret)))) .skip)) (.seq (.reg [zM 56 0,zM 57 8,zM 58 7,zA 59 (.bin .add (.t 57) (.t 58)),zA 60 (.jX 7 (.t 56) none (some (.t 59))),zM 0 60] [0,1,2,7,8]) (.seq (.seq (.reg [zM 61 2,zM 62 0,zM 63 1,zM 64 7,zA 65 (.bin .add (.t 63) (.t 64)),zA 66 (.jX 7 (.t 62) (some (.t 65)) none),zA 67 (.VZ (.t 61) (.t 66)),qO 68 67] [0,1,2,7,8,68]) (.cond (.t 68) (.seq (.kN [(zM 69 0,[]),(zM 70 1,[]),(zM 71 7,[]),(zA 72 (.bin .add (.t 70) (.t 71)),[1,2]),(zA 73 (.jX 7 (.t 69) (some (.t 72)) none),[0,1,2,3]),(zM 74 0,[]),(zM 75 1,[]),(zA 76 (.jX 7 (.t 74) (some (.t 75)) none),[5,6]),(zA 77 (.xZ 7 (.t 73) (.t 76)),[0,1,2,3,4,5,6,7])] [0,1,2]) (.seq (.reg [zM 78 0,zM 79 1,zA 80 (.jX 7 (.t 78) (some (.t 79)) none),zM 81 2,zA 82 (.xZ 7 (.t 80) (.t 81))] [0]) (.seq (.reg [zM 83 0,zM 6 83] [6]) .ret))) .skip)) (.seq (.reg [zM 84 0,zM 85 8,zA 86 (.jX 7 (.t 84) (some (.t 85)) none),zM 87 2,zA 88 (.xZ 7 (.t 86) (.t 87))] [0,1,7]) (.seq (.reg [zM 89 0,zM 90 1,zA 91 (.jX 7 (.t 89) (some (.t 90)) none),zM 92 7,q2 93 215 91 92] [0]) (.seq (.reg [zM 94 0,zM 6 94] [6]) .ret))))))))))))
theorem K.iI:dR pZ 174 3 2 C.iI [.tmp 6]=true:=by kernel_rfl
def C.oN:aT:=(.seq (.reg [qX 3 10 1,zA 4 (.mv (.k (.cO 7)))] [0,3]) (.seq (.reg [zM 8 0,qA 9 0 3,qF 10 1 9,q2 11 50 8 10,zM 7 11,qE 12 7 0,qE 13 7 1,zM 5 12,zM 6 13] [0,3,5,6]) (.seq (.seq (.reg [zM 14 6] [0,3,5,14]) (.cond (.t 14) (.seq (.reg [zM 15 0,zM 16 5,qT 17 7 3,qD 18 7 15 16,qS 7 18 17] [0]) (.seq (.reg [zM 19 0,zM 4 19] [4]) .ret)) .skip)) (.seq (.reg [zM 20 0,zM 21 5,qT 22 7 3,zA 23 (.dJ 11 7 1 [.str [],.lit (.int .i64 0),.lit (.int .i64 0),.lit (.int .i64 0),.str [],.sl 1 [],.sl 5 []] [(0,.t 22)]),q3 24 174 20 21 23,zM 4 24] [4]) .ret))))
theorem K.oN:dR pZ 122 2 1 C.oN [.tmp 4]=true:=by kernel_rfl
def C.nH:aT:=(.seq (.reg [qX 3 10 0,qX 5 11 2,zA 6 (.alloc 12 [.cO 7,fD 0]),qB 7 false] [1,3,5,6]) (.seq (.seq (.reg [qT 9 2 3,q1 10 29 9,qO 11 10,zM 12 11,zG 12 false 13 (.mv (.t 1)),⟨(some (12,false)),some 14,.call 66 [.t 13]⟩,zG 12 false 15 (.not (.t 14)),qQ 16 12 15,zM 17 16,zG 17 false 18 (.load true 5 (.t 5)),⟨(some (17,false)),some 19,.call 47 [.t 18]⟩,zG 17 false 20 (.not (.t 19)),qQ 21 17 20] [1,3,5,6,21]) (.cond (.t 21) (.seq (.reg [zA 22 (.build [.cO 7,fD 0] []),qS 2 6 22,qB 7 false] [6,7]) .ret) .skip)) (.seq (.reg [qT 23 2 3,q1 24 36 23,zA 8 (.alloc 13 [.cO 7,fD 0]),qS 2 8 24] [1,5,6,8]) (.seq (.reg [qA 25 1 8,qF 26 1 25,zA 27 (.bin .add (.t 26) (kI 1)),qA 28 1 8,qU 1 28 27] [1,5,6,8]) (.seq (.kN [(qA 29 0 8,[]),(qF 30 1 29,[0]),(zM 31 1,[]),(qA 32 1 8,[]),(qF 33 1 32,[3]),(qT 34 5 5,[]),(q1 35 100 34,[5]),(zA 36 (.build [.c (.str []),fD 0,fD 0,fD 0,.c (.str []),.cO 1,.cO 5] [(0,1,.t 31),(1,1,.t 33),(2,5,.t 35)]),[2,3,4,5,6]),(q2 37 122 30 36,[0,1,2,3,4,5,6,7]),(qA 38 0 8,[0,1,2,3,4,5,6,7,8]),(qU 1 38 37,[0,1,2,3,4,5,6,7,8,9])] [6,8]) (.seq (.seq (.reg [qT 39 2 8,q1 40 29 39,qO 41 40] [6,8,41]) (.cond (.t 41) (.seq (.reg [zA 42 (.build [.cO 7,fD 0] []),qS 2 6 42,qB 7 false] [6,7]) .ret) .skip)) (.seq (.reg [qT 43 2 8,qS 2 6 43,qB 7 true] [6,7]) .ret)))))))
theorem K.nH:dR pZ 80 3 0 C.nH [.cell 6 true 2,.tmp 7]=true:=by kernel_rfl
def C.nR:aT:=(.seq (.reg [zM 7 0,qN 8 7,qA 9 3 8,qF 10 1 9,zM 11 1,q2 12 104 10 11,zM 6 12,qE 13 6 0,qE 14 6 1,zM 4 13,zM 5 14] [0,4,5]) (.seq (.reg [zM 15 5] [0,4,15]) (.cond (.t 15) (.seq (.reg [zM 16 0,zM 17 0,qN 18 17,qA 19 3 18,qF 20 1 19,zM 21 4,zM 22 4,zA 23 (.bin .add (.t 22) (kI 1)),q3 24 148 20 21 23,qN 25 16,qA 26 3 25,qU 1 26 24] [0,4]) (.reg [zM 27 0,zM 28 0,qN 29 28,qA 30 4 29,qF 31 1 30,zM 32 4,zM 33 4,zA 34 (.bin .add (.t 33) (kI 1)),q3 35 149 31 32 34,qN 36 27,qA 37 4 36,qU 1 37 35] [])) .skip)))
theorem K.nR:dR pZ 103 2 3 C.nR []=true:=by kernel_rfl
def C.bC:aT:=(.seq (.reg [qX 2 10 0,qX 3 11 1,qZ 4 12] [2,3,4]) (.seq (.seq (.reg [qA 11 0 3,qF 12 1 11,zA 13 (.bin .neq (.t 12) (kI 4))] [2,3,4,13]) (.cond (.t 13) (.seq (.reg [qT 14 5 3,q1 15 100 14,qS 5 4 15] [4]) .ret) .skip)) (.seq (.reg [zA 16 (.build zN [(0,1,kI 4)]),qZ 5 13,qS 5 5 16] [2,3,4,5]) (.cut (.seq (.reg [qA 17 0 2,qF 18 1 17,zA 19 (.bin .eql (.t 18) (kI 4))] [2,3,4,5,19]) (.cond (.t 19) (.reg [qT 20 5 2,q1 21 100 20,qS 5 5 21] [3,4,5]) .skip)) (.seq (.seq (.reg [qA 22 3 3,qF 23 1 22,qL 24 23,qI 25 0] [3,4,5,23,24,25]) (.block 0 (.loop (.seq (.reg [zA 26 (.bin .lss (.t 25) (.t 24))] [3,4,5,23,24,25,26]) (.seq (.cond (.t 26) .skip (.exit 0)) (.seq (.block 1 (.seq (.reg [zM 27 25,qD 28 1 23 25,qF 29 1 28,zM 6 27,zM 7 29] [3,4,5,6,7,23,24,25]) (.seq (.seq (.reg [qA 30 4 3,qF 31 1 30,zM 32 6,qD 33 5 31 32,qA 34 0 33,qF 35 1 34,zA 36 (.bin .eql (.t 35) (kI 0))] [3,4,5,6,7,23,24,25,36]) (.cond (.t 36) (.seq (.reg [zM 37 7,q2 38 103 5 37] [3,4,5,23,24,25]) (.exit 1)) .skip)) (.seq (.reg [qZ 8 14] [3,4,5,6,7,8,23,24,25]) (.cut (.seq (.reg [qA 40 3 5,qF 41 1 40,zM 42 7,q2 43 104 41 42,zM 39 43,qE 44 39 0,qE 45 39 1,zM 9 44,zM 10 45] [3,4,5,6,7,8,9,10,23,24,25]) (.seq (.reg [zM 46 10] [3,4,5,6,7,8,9,23,24,25,46]) (.cond (.t 46) (.reg [qA 47 4 5,qF 48 1 47,zM 49 9,qD 50 5 48 49,qT 51 5 50,qS 5 8 51] [3,4,5,6,7,8,23,24,25]) .skip))) (.kN [(zM 52 7,[]),(qT 53 5 8,[]),(qA 54 4 3,[]),(qF 55 1 54,[2]),(zM 56 6,[]),(qD 57 5 55 56,[2,3,4]),(qT 58 5 57,[2,3,4,5]),(q2 59 55 53 58,[1,2,3,4,5,6]),(q3 60 105 5 52 59,[0,1,2,3,4,5,6,7])] [3,4,5,23,24,25])))))) (.reg [zA 61 (.bin .add (.t 25) (kI 1)),zM 25 61] [3,4,5,23,24,25]))))))) (.seq (.reg [qT 62 5 5,qS 5 4 62] [4]) .ret))))))
theorem K.bC:dR pZ 55 2 0 C.bC [.cell 4 true 5]=true:=by kernel_rfl
def C.jZ:aT:=(.seq (.reg [qX 2 10 0,qX 3 11 1,qZ 4 12,qB 5 false] [2,3,4]) (.seq (.seq (.reg [qT 6 5 2,q1 7 47 6,qO 8 7,zM 9 8,zG 9 false 10 (.load true 5 (.t 3)),⟨(some (9,false)),some 11,.call 47 [.t 10]⟩,zG 9 false 12 (.not (.t 11)),qQ 13 9 12] [2,3,4,13]) (.cond (.t 13) (.seq (.reg [zA 14 (.build zN []),qS 5 4 14,qB 5 false] [4,5]) .ret) .skip)) (.seq (.reg [qT 15 5 2,qT 16 5 3,q2 17 55 15 16,⟨none,some 18,.call 54 [.t 17,.k (.c (.lit (.bool true)))]⟩,qE 19 18 0,qE 20 18 1,qS 5 4 19,zM 5 20] [4,5]) .ret)))
theorem K.jZ:dR pZ 21 2 0 C.jZ [.cell 4 true 5,.tmp 5]=true:=by kernel_rfl
def C.nJ:aT:=(.seq (.reg [qX 2 10 0,qX 3 11 1,qZ 4 12,qB 5 false] [2,3,4]) (.seq (.seq (.reg [qA 6 0 3,qF 7 1 6] [2,3,4,7]) (.block 0 (.seq (.reg [zA 9 (.bin .eql (.t 7) (kI 4)),zM 8 9] [2,3,4,7,8]) (.cond (.t 8) (.seq (.reg [qT 10 5 2,qA 11 9 3,qF 12 1 11,q2 13 20 10 12,qE 14 13 0,qE 15 13 1,qS 5 4 14,zM 5 15] [4,5]) .ret) (.seq (.reg [zA 17 (.bin .eql (.t 7) (kI 5)),zM 16 17] [2,3,4,16]) (.cond (.t 16) (.seq (.reg [qT 18 5 2,qA 19 4 3,qT 20 5 19,q2 21 21 18 20,qE 22 21 0,qE 23 21 1,qS 5 4 22,zM 5 23] [4,5]) .ret) .skip)))))) (.seq (.reg [qA 24 4 3,qT 25 5 24,qS 5 4 25,qB 5 true] [4,5]) .ret)))
theorem K.nJ:dR pZ 79 2 0 C.nJ [.cell 4 true 5,.tmp 5]=true:=by kernel_rfl
def C.jJ:aT:=(.seq (.reg [qX 4 10 0,qX 5 11 1,qX 6 12 2,zA 8 (.alloc 13 [.cO 7,fD 0]),zA 9 (.alloc 14 [fD 0,.c (.str []),fD 0,fD 0,fD 0,.c (.str []),.cO 1,.cO 5])] [3,4,5,6,8,9]) (.seq (.reg [qT 15 5 6,qT 16 10 5,q2 17 79 15 16,zM 14 17,qE 18 14 0,qE 19 14 1,qZ 10 15,qS 5 10 18,zM 11 19] [3,4,5,8,9,10,11]) (.seq (.seq (.reg [zM 20 11,qO 21 20] [3,4,5,8,9,10,21]) (.cond (.t 21) (.seq (.reg [qT 22 2 4,q1 23 36 22,zA 24 (.build [fD 0,.c (.str []),fD 0,fD 0,fD 0,.c (.str []),.cO 1,.cO 5] [(0,1,kI 422)]),qS 2 8 23,qS 8 9 24] [8,9]) .ret) .skip)) (.seq (.reg [qT 26 2 4,qA 27 1 5,qF 28 1 27,qT 29 5 10,q3 30 80 26 28 29,zM 25 30,qE 31 25 0,qE 32 25 1,zA 12 (.alloc 16 [.cO 7,fD 0]),qS 2 12 31,zM 11 32] [3,4,8,9,10,11,12]) (.seq (.seq (.reg [zM 33 11,qO 34 33] [3,4,8,9,10,12,34]) (.cond (.t 34) (.seq (.reg [qT 35 2 4,q1 36 36 35,zA 37 (.build [fD 0,.c (.str []),fD 0,fD 0,fD 0,.c (.str []),.cO 1,.cO 5] [(0,1,kI 422)]),qS 2 8 36,qS 8 9 37] [8,9]) .ret) .skip)) (.seq (.kN [(qT 38 5 10,[]),(q1 39 18 38,[0]),(qA 40 1 12,[]),(qF 41 1 40,[2]),(zA 42 (.build [fD 0,.c (.str []),fD 0,fD 0,fD 0,.c (.str []),.cO 1,.cO 5] [(0,1,kI 200),(1,1,.t 39),(2,1,.t 41)]),[0,1,2,3]),(zA 13 (.alloc 17 [fD 0,.c (.str []),fD 0,fD 0,fD 0,.c (.str []),.cO 1,.cO 5]),[]),(qS 8 13 42,[0,1,2,3,4,5])] [3,8,9,12,13]) (.seq (.seq (.reg [zM 43 3,qO 44 43] [8,9,12,13,44]) (.cond (.t 44) (.reg [qA 45 0 13,zS (.store false 1 (.t 45) (kI 201))] [8,9,12,13]) .skip)) (.seq (.kN [(qT 46 2 12,[]),(qT 47 8 13,[]),(qS 2 8 46,[0]),(qS 8 9 47,[0,1,2])] [8,9]) .ret))))))))
theorem K.jJ:dR pZ 39 4 0 C.jJ [.cell 8 true 2,.cell 9 true 8]=true:=by kernel_rfl
def C.jB:aT:=(.seq (.reg [qX 1 10 0,qB 2 false] [1]) (.seq (.reg [qA 3 0 1,qF 4 1 3,zA 5 (.bin .geq (.t 4) (kI 1)),zM 6 5,zG 6 true 7 (.eH 0 (.t 1)),zG 6 true 8 (.load false 1 (.t 7)),zG 6 true 9 (.bin .leq (.t 8) (kI 5)),qP 10 6 9,zM 11 10,zG 11 true 12 (.eH 1 (.t 1)),zG 11 true 13 (.load false 1 (.t 12)),⟨(some (11,true)),some 14,.call 66 [.t 13]⟩,qP 15 11 14,zM 16 15,zG 16 true 17 (.eH 2 (.t 1)),zG 16 true 18 (.load false 1 (.t 17)),⟨(some (16,true)),some 19,.call 75 [.t 18]⟩,qP 20 16 19,zM 21 20,zG 21 true 22 (.eH 3 (.t 1)),zG 21 true 23 (.load false 1 (.t 22)),⟨(some (21,true)),some 24,.call 75 [.t 23]⟩,qP 25 21 24,zM 26 25,zG 26 true 27 (.eH 4 (.t 1)),zG 26 true 28 (.load true 5 (.t 27)),⟨(some (26,true)),some 29,.call 47 [.t 28]⟩,qP 30 26 29,zM 31 30,zG 31 true 32 (.eH 9 (.t 1)),zG 31 true 33 (.load false 1 (.t 32)),⟨(some (31,true)),some 34,.call 52 [.t 33]⟩,qP 35 31 34,zM 2 35] [2]) .ret))
theorem K.jB:dR pZ 35 1 0 C.jB [.tmp 2]=true:=by kernel_rfl
def C.aW:aT:=(.seq (.reg [qX 2 10 0,qX 3 11 1,zA 4 (.alloc 12 [.cO 7,fD 0]),zA 5 (.alloc 13 [fD 0,.c (.str []),fD 0,fD 0,fD 0,.c (.str []),.cO 1,.cO 5])] [2,3,4,5]) (.seq (.seq (.reg [qT 10 2 2,q1 11 29 10,qO 12 11,zM 13 12,zG 13 false 14 (.load true 10 (.t 3)),⟨(some (13,false)),some 15,.call 35 [.t 14]⟩,zG 13 false 16 (.not (.t 15)),qQ 17 13 16] [2,3,4,5,17]) (.cond (.t 17) (.seq (.reg [zA 18 (.build [.cO 7,fD 0] []),zA 19 (.build [fD 0,.c (.str []),fD 0,fD 0,fD 0,.c (.str []),.cO 1,.cO 5] [(0,1,kI 400)]),qS 2 4 18,qS 8 5 19] [4,5]) .ret) .skip)) (.seq (.reg [qT 21 2 2,qA 22 1 3,qF 23 1 22,q2 24 19 21 23,zM 20 24,qE 25 20 0,qE 26 20 1,zA 6 (.alloc 14 [.c (.str []),fD 0,fD 0,fD 0,.c (.str []),.cO 1,.cO 5]),qS 7 6 25,zM 7 26] [2,3,4,5,6,7]) (.seq (.seq (.reg [zM 27 7,qO 28 27,zM 29 28,zG 29 true 30 (.eH 0 (.t 3)),zG 29 true 31 (.load false 1 (.t 30)),zG 29 true 32 (.bin .neq (.t 31) (kI 2)),qP 33 29 32] [2,3,4,5,6,7,33]) (.cond (.t 33) (.seq (.reg [qT 34 2 2,q1 35 36 34,zA 36 (.build [fD 0,.c (.str []),fD 0,fD 0,fD 0,.c (.str []),.cO 1,.cO 5] [(0,1,kI 404)]),qS 2 4 35,qS 8 5 36] [4,5]) .ret) .skip)) (.seq (.reg [zA 8 (.mv (.k (.c (.str []))))] [2,3,4,5,6,7,8]) (.cut (.seq (.reg [zM 37 7] [2,3,4,5,6,7,8,37]) (.cond (.t 37) (.reg [qA 38 2 6,qT 39 5 38,q1 40 18 39,zM 8 40] [2,3,4,5,6,7,8]) .skip)) (.seq (.reg [qA 41 2 3,qF 42 1 41,qA 43 3 3,qF 44 1 43,zM 45 8,qA 46 0 3,qF 47 1 46,zA 48 (.bin .eql (.t 47) (kI 1)),⟨none,some 49,.call 37 [.t 42,.t 44,.t 45,.t 48]⟩,zM 9 49] [2,3,4,5,6,7,8,9]) (.seq (.seq (.reg [zM 50 9,zA 51 (.bin .neq (.t 50) (kI 200))] [2,3,4,5,6,7,8,9,51]) (.cond (.t 51) (.seq (.reg [qT 52 2 2,q1 53 36 52,zM 54 9,zA 55 (.build [fD 0,.c (.str []),fD 0,fD 0,fD 0,.c (.str []),.cO 1,.cO 5] [(0,1,.t 54)]),qS 2 4 53,qS 8 5 55] [4,5]) .ret) .skip)) (.seq (.seq (.reg [qA 56 0 3,qF 57 1 56] [2,3,4,5,6,7,8,57]) (.block 0 (.seq (.reg [zA 59 (.bin .eql (.t 57) (kI 1)),zM 58 59] [2,3,4,5,6,7,8,57,58]) (.cond (.t 58) (.seq (.kN [(qT 60 2 2,[]),(q1 61 36 60,[0]),(zM 62 8,[]),(qA 63 1 6,[]),(qF 64 1 63,[3]),(qA 65 2 6,[]),(qT 66 5 65,[5]),(zA 67 (.build [fD 0,.c (.str []),fD 0,fD 0,fD 0,.c (.str []),.cO 1,.cO 5] [(0,1,kI 200),(1,1,.t 62),(2,1,.t 64),(3,5,.t 66)]),[2,3,4,5,6]),(qS 2 4 61,[0,1]),(qS 8 5 67,[0,1,2,3,4,5,6,7,8])] [4,5]) .ret) (.seq (.reg [zA 69 (.bin .eql (.t 57) (kI 3)),zM 68 69] [2,3,4,5,6,7,68]) (.cond (.t 68) (.seq (.reg [qT 70 2 2,qT 71 10 3,q2 72 38 70 71,qE 73 72 0,qE 74 72 1,qS 2 4 73,qS 8 5 74] [4,5]) .ret) .skip)))))) (.seq (.reg [qT 75 2 2,qT 76 10 3,qA 77 2 6,qT 78 5 77,zM 79 7,⟨none,some 80,.call 39 [.t 75,.t 76,.t 78,.t 79]⟩,qE 81 80 0,qE 82 80 1,qS 2 4 81,qS 8 5 82] [4,5]) .ret))))))))))
theorem K.aW:dR pZ 13 2 0 C.aW [.cell 4 true 2,.cell 5 true 8]=true:=by kernel_rfl
def C.og:aT:=(.seq (.reg [qX 1 10 0,qB 2 false] [1]) (.seq (.reg [qT 3 10 1,q1 4 35 3,zM 5 4,zG 5 true 6 (.eH 0 (.t 1)),zG 5 true 7 (.load false 1 (.t 6)),zG 5 true 8 (.bin .eql (.t 7) (kI 1)),qP 9 5 8,zM 2 9] [2]) .ret))
theorem K.og:dR pZ 67 1 0 C.og [.tmp 2]=true:=by kernel_rfl
def C.dK:aT:=(.seq (.reg [qB 2 false] [0]) (.seq (.seq (.reg [zM 5 0,qL 6 5,zA 7 (.bin .gtr (.t 6) (kI 8))] [0,7]) (.cond (.t 7) (.seq (.reg [qB 2 false] [2]) .ret) .skip)) (.seq (.seq (.reg [zM 8 0,qL 9 8,qI 10 0] [8,9,10]) (.block 0 (.loop (.seq (.reg [zA 11 (.bin .lss (.t 10) (.t 9))] [8,9,10,11]) (.seq (.cond (.t 11) .skip (.exit 0)) (.seq (.block 1 (.seq (.reg [qD 12 10 8 10,qT 13 10 12,zA 4 (.alloc 10 [fD 0,.c (.str []),.cO 1,.cO 1,fD 0,fD 0,.c (.str []),.cO 1,.cO 5,.cO 8]),qS 10 4 13] [4,8,9,10]) (.seq (.reg [qT 14 10 4,q1 15 35 14,qO 16 15] [8,9,10,16]) (.cond (.t 16) (.seq (.reg [qB 2 false] [2]) .ret) .skip)))) (.reg [zA 17 (.bin .add (.t 10) (kI 1)),zM 10 17] [8,9,10]))))))) (.seq (.reg [qB 2 true] [2]) .ret))))
theorem K.dK:dR pZ 56 1 0 C.dK [.tmp 2]=true:=by kernel_rfl
def C.vF:aT:=(.seq (.reg [qX 3 10 0,zA 6 (.alloc 11 [.cO 7,fD 0]),zA 7 (.mv (.k (.cO 8)))] [1,2,3,6]) (.seq (.reg [qT 14 2 3,q1 15 36 14,zA 8 (.alloc 12 [.cO 7,fD 0]),qS 2 8 15] [1,2,6,8]) (.seq (.reg [zA 9 (.mv (.k (.cO 8)))] [1,2,6,8,9]) (.seq (.seq (.reg [zM 16 1,qL 17 16,qI 18 0] [2,6,8,9,16,17,18]) (.block 0 (.loop (.seq (.reg [zA 19 (.bin .lss (.t 18) (.t 17))] [2,6,8,9,16,17,18,19]) (.seq (.cond (.t 19) .skip (.exit 0)) (.seq (.block 1 (.seq (.reg [qD 20 10 16 18,qT 21 10 20,zA 11 (.alloc 13 [fD 0,.c (.str []),.cO 1,.cO 1,fD 0,fD 0,.c (.str []),.cO 1,.cO 5,.cO 8]),qS 10 11 21] [2,6,8,9,11,16,17,18]) (.seq (.reg [qT 23 2 8,qT 24 10 11,q2 25 13 23 24,zM 22 25,qE 26 22 0,qE 27 22 1,zA 12 (.alloc 14 [.cO 7,fD 0]),zA 13 (.alloc 15 [fD 0,.c (.str []),fD 0,fD 0,fD 0,.c (.str []),.cO 1,.cO 5]),qS 2 12 26,qS 8 13 27] [2,6,8,9,12,13,16,17,18]) (.seq (.reg [qT 28 2 12,qS 2 8 28] [2,6,8,9,13,16,17,18]) (.seq (.reg [zM 29 9,qT 30 8 13,zA 31 (.dJ 16 8 1 [.lit (.int .i64 0),.str [],.lit (.int .i64 0),.lit (.int .i64 0),.lit (.int .i64 0),.str [],.sl 1 [],.sl 5 []] [(0,.t 30)]),zA 32 (.append 17 8 112 (.t 29) (.t 31)),zM 9 32] [2,6,8,9,13,16,17,18]) (.seq (.reg [zM 33 2,qA 34 0 13,qF 35 1 34,⟨none,some 36,.xJ (.t 33) [.t 35]⟩,qO 37 36] [2,6,8,9,16,17,18,37]) (.cond (.t 37) (.exit 0) .skip))))))) (.reg [zA 38 (.bin .add (.t 18) (kI 1)),zM 18 38] [2,6,8,9,16,17,18]))))))) (.seq (.reg [qT 39 2 8,zM 40 9,qS 2 6 39,zM 7 40] [6,7]) .ret)))))
def C.kP:aT:=(.seq (.reg [qB 2 false] []) (.seq (.reg [qB 2 true] [2]) .ret))
theorem K.kP:dR pZ 58 1 0 C.kP [.tmp 2]=true:=by kernel_rfl
theorem K.bJ:dR pZ 57 3 0 C.vF [.cell 6 true 2,.tmp 7]=true:=by kernel_rfl
def C.dF:aT:=(.seq (.reg [qX 2 10 0,zA 4 (.alloc 11 [.cO 7,fD 0]),zA 5 (.mv (.k (.cO 8)))] [1,2,4]) (.seq (.seq (.reg [qT 6 2 2,q1 7 29 6,qO 8 7,zM 9 8,zG 9 false 10 (.mv (.t 1)),⟨(some (9,false)),some 11,.call 56 [.t 10]⟩,zG 9 false 12 (.not (.t 11)),qQ 13 9 12] [1,2,4,13]) (.cond (.t 13) (.seq (.reg [zA 14 (.build [.cO 7,fD 0] []),qS 2 4 14,zA 5 (.mv (.k (.cO 8)))] [4,5]) .ret) .skip)) (.seq (.reg [qT 15 2 2,zM 16 1,⟨none,some 17,.call 57 [.t 15,.t 16,.k (.fn 58 [])]⟩,qE 18 17 0,qE 19 17 1,qS 2 4 18,zM 5 19] [4,5]) .ret)))
theorem K.dF:dR pZ 22 2 0 C.dF [.cell 4 true 2,.tmp 5]=true:=by kernel_rfl
def C.slices_Compact_string:aT:=(.seq (.reg [zA 2 (.mv (.k (.cO 1)))] [0]) (.seq (.seq (.reg [zM 6 0,qL 7 6,zA 8 (.bin .lss (.t 7) (kI 2))] [0,8]) (.cond (.t 8) (.seq (.reg [zM 9 0,zM 2 9] [2]) .ret) .skip)) (.seq (.seq (.reg [qI 3 1] [0,3]) (.block 0 (.loop (.seq (.seq (.reg [zM 10 3,zM 11 0,qL 12 11,zA 13 (.bin .lss (.t 10) (.t 12))] [0,3,13]) (.cond (.t 13) .skip (.exit 0))) (.seq (.block 1 (.seq (.kN [(zM 16 0,[]),(zM 17 3,[]),(qD 18 1 16 17,[0,1]),(qF 19 1 18,[0,1,2]),(zM 20 0,[]),(zM 21 3,[]),(zA 22 (.bin .sub (.t 21) (kI 1)),[5]),(qD 23 1 20 22,[4,5,6]),(qF 24 1 23,[4,5,6,7]),(zA 25 (.bin .eql (.t 19) (.t 24)),[0,1,2,3,4,5,6,7,8])] [0,3,25]) (.cond (.t 25) (.seq (.reg [zM 26 0,zM 27 3,zA 28 (.jX 1 (.t 26) (some (.t 27)) none),zM 4 28] [0,3,4]) (.seq (.seq (.reg [qI 5 1] [0,3,4,5]) (.block 2 (.loop (.seq (.seq (.reg [zM 29 5,zM 30 4,qL 31 30,zA 32 (.bin .lss (.t 29) (.t 31))] [0,3,4,5,32]) (.cond (.t 32) .skip (.exit 2))) (.seq (.block 3 (.seq (.kN [(zM 35 4,[]),(zM 36 5,[]),(qD 37 1 35 36,[0,1]),(qF 38 1 37,[0,1,2]),(zM 39 4,[]),(zM 40 5,[]),(zA 41 (.bin .sub (.t 40) (kI 1)),[5]),(qD 42 1 39 41,[4,5,6]),(qF 43 1 42,[4,5,6,7]),(zA 44 (.bin .neq (.t 38) (.t 43)),[0,1,2,3,4,5,6,7,8])] [0,3,4,5,44]) (.cond (.t 44) (.seq (.reg [zM 45 0,zM 46 3,zM 47 4,zM 48 5,qD 49 1 47 48,qF 50 1 49,qD 51 1 45 46,qU 1 51 50] [0,3,4,5]) (.reg [zM 52 3,zA 53 (.bin .add (.t 52) (kI 1)),zM 3 53] [0,3,4,5])) .skip))) (.reg [zM 33 5,zA 34 (.bin .add (.t 33) (kI 1)),zM 5 34] [0,3,4,5])))))) (.seq (.reg [zM 54 0,zM 55 3,zA 56 (.jX 1 (.t 54) (some (.t 55)) none),zS (.Jg 1 [.str []] (.t 56))] [0,3]) (.seq (.reg [zM 57 0,zM 58 3,zA 59 (.jX 1 (.t 57) none (some (.t 58))),zM 2 59] [2]) .ret)))) .skip))) (.reg [zM 14 3,zA 15 (.bin .add (.t 14) (kI 1)),zM 3 15] [0,3])))))) (.seq (.reg [zM 60 0,zM 2 60] [2]) .ret))))
theorem K.slices_Compact_string:dR pZ 69 1 1 C.slices_Compact_string [.tmp 2]=true:=by kernel_rfl
def C.mZ:aT:=(.seq (.reg [qI 2 0] [0]) (.seq (.cond (kB false) (.seq (.reg [zM 3 0,zA 4 (.wB .u32 (.t 3)),q1 5 162 4,zM 2 5] [2]) .ret) .skip) (.seq (.reg [zM 6 0,q1 7 163 6,zM 2 7] [2]) .ret)))
theorem K.mZ:dR pZ 107 1 0 C.mZ [.tmp 2]=true:=by kernel_rfl
def C.ay:aT:=(.seq (.reg [zM 8 1,zA 9 (.bin .add (.t 8) (kI 1)),zM 6 9] [0,1,2,6]) (.block 0 (.loop (.seq (.seq (.reg [zM 10 6,zM 11 2,zA 12 (.bin .lss (.t 10) (.t 11))] [0,1,2,6,12]) (.cond (.t 12) .skip (.exit 0))) (.seq (.block 1 (.seq (.reg [zM 15 6,zM 7 15] [0,1,2,6,7]) (.block 2 (.loop (.seq (.seq (.kN [(zM 16 7,[]),(zM 17 1,[]),(zA 18 (.bin .gtr (.t 16) (.t 17)),[0,1]),(zM 19 18,[0,1,2]),(zG 19 true 20 (.mv (.t 0)),[0,1,2,3]),(zG 19 true 21 (.mv (.t 7)),[0,1,2,3]),(zG 19 true 22 (.oD 1 (.t 20) (.t 21)),[0,1,2,3,4,5]),(zG 19 true 23 (.load false 1 (.t 22)),[0,1,2,3,4,5,6]),(zG 19 true 24 (.mv (.t 0)),[0,1,2,3]),(zG 19 true 25 (.mv (.t 7)),[0,1,2,3]),(zG 19 true 26 (.bin .sub (.t 25) (kI 1)),[0,1,2,3,9]),(zG 19 true 27 (.oD 1 (.t 24) (.t 26)),[0,1,2,3,8,9,10]),(zG 19 true 28 (.load false 1 (.t 27)),[0,1,2,3,8,9,10,11]),(⟨(some (19,true)),some 29,.call 150 [.t 23,.t 28]⟩,[0,1,2,3,4,5,6,7,8,9,10,11,12]),(qP 30 19 29,[0,1,2,3,4,5,6,7,8,9,10,11,12,13])] [0,1,2,6,7,30]) (.cond (.t 30) .skip (.exit 2))) (.seq (.block 3 (.kN [(zM 33 0,[]),(zM 34 7,[]),(zM 35 0,[]),(zM 36 7,[]),(zA 37 (.bin .sub (.t 36) (kI 1)),[3]),(zM 38 0,[]),(zM 39 7,[]),(zA 40 (.bin .sub (.t 39) (kI 1)),[6]),(qD 41 1 38 40,[5,6,7]),(qF 42 1 41,[5,6,7,8]),(zM 43 0,[]),(zM 44 7,[]),(qD 45 1 43 44,[10,11]),(qF 46 1 45,[10,11,12]),(qD 47 1 33 34,[0,1,5,6,7,8,9,10,11,12,13]),(qU 1 47 42,[0,1,5,6,7,8,9,10,11,12,13,14]),(qD 48 1 35 37,[0,1,2,3,4,5,6,7,8,9,10,11,12,13,14,15]),(qU 1 48 46,[0,1,2,3,4,5,6,7,8,9,10,11,12,13,14,15,16])] [0,1,2,6,7])) (.reg [zM 31 7,zA 32 (.bin .sub (.t 31) (kI 1)),zM 7 32] [0,1,2,6,7]))))))) (.reg [zM 13 6,zA 14 (.bin .add (.t 13) (kI 1)),zM 6 14] [0,1,2,6]))))))
theorem K.ay:dR pZ 154 3 1 C.ay []=true:=by kernel_rfl
def C.bu:aT:=(.seq (.reg [qB 8 true] [0,1,2,3,8]) (.seq (.reg [qB 9 true] [0,1,2,3,8,9]) (.block 0 (.loop (.block 1 (.seq (.reg [zM 19 2,zM 20 1,zA 21 (.bin .sub (.t 19) (.t 20)),zM 10 21] [0,1,2,3,8,9,10]) (.seq (.seq (.reg [zM 22 10,zA 23 (.bin .leq (.t 22) (kI 12))] [0,1,2,3,8,9,10,23]) (.cond (.t 23) (.seq (.reg [zM 24 0,zM 25 1,zM 26 2,q3 27 154 24 25 26] []) .ret) .skip)) (.seq (.seq (.reg [zM 28 3,zA 29 (.bin .eql (.t 28) (kI 0))] [0,1,2,3,8,9,10,29]) (.cond (.t 29) (.seq (.reg [zM 30 0,zM 31 1,zM 32 2,q3 33 155 30 31 32] []) .ret) .skip)) (.cut (.seq (.reg [zM 34 8,qO 35 34] [0,1,2,3,8,9,10,35]) (.cond (.t 35) (.seq (.reg [zM 36 0,zM 37 1,zM 38 2,q3 39 156 36 37 38] [0,1,2,3,8,9,10]) (.reg [zM 40 3,zA 41 (.bin .sub (.t 40) (kI 1)),zM 3 41] [0,1,2,3,8,9,10])) .skip)) (.seq (.reg [zM 43 0,zM 44 1,zM 45 2,q3 46 157 43 44 45,zM 42 46,qE 47 42 0,qE 48 42 1,zM 11 47,zM 12 48] [0,1,2,3,8,9,10,11,12]) (.cut (.seq (.reg [zM 49 12,zA 50 (.bin .eql (.t 49) (kI 2))] [0,1,2,3,8,9,10,11,12,50]) (.cond (.t 50) (.seq (.reg [zM 51 0,zM 52 1,zM 53 2,q3 54 158 51 52 53] [0,1,2,3,8,9,10,11]) (.seq (.reg [zM 55 2,zA 56 (.bin .sub (.t 55) (kI 1)),zM 57 11,zM 58 1,zA 59 (.bin .sub (.t 57) (.t 58)),zA 60 (.bin .sub (.t 56) (.t 59)),zM 11 60] [0,1,2,3,8,9,10,11]) (.reg [qI 12 1] [0,1,2,3,8,9,10,11,12]))) .skip)) (.cut (.seq (.reg [zM 61 8,zM 62 61,zG 62 true 63 (.mv (.t 9)),qP 64 62 63,zM 65 64,zG 65 true 66 (.mv (.t 12)),zG 65 true 67 (.bin .eql (.t 66) (kI 1)),qP 68 65 67] [0,1,2,3,8,9,10,11,68]) (.cond (.t 68) (.seq (.reg [zM 69 0,zM 70 1,zM 71 2,q3 72 159 69 70 71] [0,1,2,3,8,9,10,11,72]) (.cond (.t 72) .ret .skip)) .skip)) (.seq (.seq (.kN [(zM 73 1,[]),(zA 74 (.bin .gtr (.t 73) (kI 0)),[0]),(zM 75 74,[0,1]),(zG 75 true 76 (.mv (.t 0)),[0,1,2]),(zG 75 true 77 (.mv (.t 1)),[0,1,2]),(zG 75 true 78 (.bin .sub (.t 77) (kI 1)),[0,1,2,4]),(zG 75 true 79 (.oD 1 (.t 76) (.t 78)),[0,1,2,3,4,5]),(zG 75 true 80 (.load false 1 (.t 79)),[0,1,2,3,4,5,6]),(zG 75 true 81 (.mv (.t 0)),[0,1,2]),(zG 75 true 82 (.mv (.t 11)),[0,1,2]),(zG 75 true 83 (.oD 1 (.t 81) (.t 82)),[0,1,2,8,9]),(zG 75 true 84 (.load false 1 (.t 83)),[0,1,2,8,9,10]),(⟨(some (75,true)),some 85,.call 150 [.t 80,.t 84]⟩,[0,1,2,3,4,5,6,7,8,9,10,11]),(zG 75 true 86 (.not (.t 85)),[0,1,2,3,4,5,6,7,8,9,10,11,12]),(qP 87 75 86,[0,1,2,3,4,5,6,7,8,9,10,11,12,13])] [0,1,2,3,8,9,10,11,87]) (.cond (.t 87) (.seq (.reg [zM 88 0,zM 89 1,zM 90 2,zM 91 11,⟨none,some 92,.call 160 [.t 88,.t 89,.t 90,.t 91]⟩,zM 13 92] [0,2,3,8,9,13]) (.seq (.reg [zM 93 13,zM 1 93] [0,1,2,3,8,9]) (.exit 1))) .skip)) (.seq (.reg [zM 95 0,zM 96 1,zM 97 2,zM 98 11,⟨none,some 99,.call 161 [.t 95,.t 96,.t 97,.t 98]⟩,zM 94 99,qE 100 94 0,qE 101 94 1,zM 14 100,zM 15 101] [0,1,2,3,10,14,15]) (.seq (.reg [zM 102 15,zM 9 102] [0,1,2,3,9,10,14]) (.seq (.reg [zM 103 14,zM 104 1,zA 105 (.bin .sub (.t 103) (.t 104)),zM 106 2,zM 107 14,zA 108 (.bin .sub (.t 106) (.t 107)),zM 16 105,zM 17 108] [0,1,2,3,9,10,14,16,17]) (.seq (.reg [zM 109 10,zA 110 (.bin .quo (.t 109) (kI 8)),zM 18 110] [0,1,2,3,9,14,16,17,18]) (.seq (.reg [zM 111 16,zM 112 17,zA 113 (.bin .lss (.t 111) (.t 112))] [0,1,2,3,9,14,16,17,18,113]) (.cond (.t 113) (.seq (.reg [zM 114 16,zM 115 18,zA 116 (.bin .geq (.t 114) (.t 115)),zM 8 116] [0,1,2,3,8,9,14]) (.seq (.reg [zM 117 0,zM 118 1,zM 119 14,zM 120 3,⟨none,some 121,.call 106 [.t 117,.t 118,.t 119,.t 120]⟩] [0,2,3,8,9,14]) (.reg [zM 122 14,zA 123 (.bin .add (.t 122) (kI 1)),zM 1 123] [0,1,2,3,8,9]))) (.seq (.reg [zM 124 17,zM 125 18,zA 126 (.bin .geq (.t 124) (.t 125)),zM 8 126] [0,1,2,3,8,9,14]) (.seq (.reg [zM 127 0,zM 128 14,zA 129 (.bin .add (.t 128) (kI 1)),zM 130 2,zM 131 3,⟨none,some 132,.call 106 [.t 127,.t 129,.t 130,.t 131]⟩] [0,1,3,8,9,14]) (.reg [zM 133 14,zM 2 133] [0,1,2,3,8,9]))))))))))))))))))))))
theorem K.bu:dR pZ 106 4 1 C.bu []=true:=by kernel_rfl
def C.slices_Sort_string:aT:=(.seq (.reg [zM 3 0,qL 4 3,zM 2 4] [0,2]) (.reg [zM 5 0,zM 6 2,zM 7 2,zA 8 (.wB .u64 (.t 7)),q1 9 107 8,⟨none,some 10,.call 106 [.t 5,kI 0,.t 6,.t 9]⟩] []))
theorem K.slices_Sort_string:dR pZ 68 1 1 C.slices_Sort_string []=true:=by kernel_rfl
def C.jl:aT:=(.seq (.reg [zA 2 (.mv (.k (.cO 1)))] [0]) (.seq (.seq (.reg [zM 6 0,q1 7 56 6,qO 8 7] [0,8]) (.cond (.t 8) (.seq (.reg [zA 2 (.mv (.k (.cO 1)))] [2]) .ret) .skip)) (.seq (.reg [zA 3 (.mv (.k (.cO 1)))] [0,3]) (.seq (.seq (.reg [zM 9 0,qL 10 9,qI 11 0] [3,9,10,11]) (.block 0 (.loop (.seq (.reg [zA 12 (.bin .lss (.t 11) (.t 10))] [3,9,10,11,12]) (.seq (.cond (.t 12) .skip (.exit 0)) (.seq (.block 1 (.seq (.reg [qD 13 10 9 11,qT 14 10 13,zA 5 (.alloc 10 [fD 0,.c (.str []),.cO 1,.cO 1,fD 0,fD 0,.c (.str []),.cO 1,.cO 5,.cO 8]),qS 10 5 14] [3,5,9,10,11]) (.seq (.reg [qT 15 10 5,q1 16 67 15,qO 17 16] [3,5,9,10,11,17]) (.cond (.t 17) (.reg [zM 18 3,qA 19 1 5,qF 20 1 19,zA 21 (.dJ 11 1 1 [.str []] [(0,.t 20)]),zA 22 (.append 12 1 16 (.t 18) (.t 21)),zM 3 22] [3,9,10,11]) .skip)))) (.reg [zA 23 (.bin .add (.t 11) (kI 1)),zM 11 23] [3,9,10,11]))))))) (.seq (.reg [zM 24 3,q1 25 68 24] [3]) (.seq (.reg [zM 26 3,q1 27 69 26,zM 2 27] [2]) .ret))))))
theorem K.jl:dR pZ 30 1 0 C.jl [.tmp 2]=true:=by kernel_rfl
def C.gJ:aT:=(.seq (.reg [qB 4 false] [0,1]) (.seq (.seq (.reg [zM 6 0,qL 7 6,zM 8 1,qL 9 8,zA 10 (.bin .neq (.t 7) (.t 9))] [0,1,10]) (.cond (.t 10) (.seq (.reg [qB 4 false] [4]) .ret) .skip)) (.seq (.seq (.reg [qI 5 0] [0,1,5]) (.block 0 (.loop (.seq (.seq (.reg [zM 11 5,zM 12 0,qL 13 12,zA 14 (.bin .lss (.t 11) (.t 13))] [0,1,5,14]) (.cond (.t 14) .skip (.exit 0))) (.seq (.block 1 (.seq (.kN [(zM 17 0,[]),(zM 18 5,[]),(qD 19 1 17 18,[0,1]),(qF 20 1 19,[0,1,2]),(zM 21 1,[]),(zM 22 5,[]),(qD 23 1 21 22,[4,5]),(qF 24 1 23,[4,5,6]),(zA 25 (.bin .neq (.t 20) (.t 24)),[0,1,2,3,4,5,6,7])] [0,1,5,25]) (.cond (.t 25) (.seq (.reg [qB 4 false] [4]) .ret) .skip))) (.reg [zM 15 5,zA 16 (.bin .add (.t 15) (kI 1)),zM 5 16] [0,1,5])))))) (.seq (.reg [qB 4 true] [4]) .ret))))
theorem K.gJ:dR pZ 45 2 0 C.gJ [.tmp 4]=true:=by kernel_rfl
def C.gu:aT:=(.seq (.reg [qX 2 10 0,qX 3 11 1,qB 4 false] [2,3]) (.seq (.reg [qA 5 0 2,qF 6 1 5,qA 7 0 3,qF 8 1 7,zA 9 (.bin .eql (.t 6) (.t 8)),zM 10 9,zG 10 true 11 (.eH 1 (.t 2)),zG 10 true 12 (.load false 1 (.t 11)),zG 10 true 13 (.eH 1 (.t 3)),zG 10 true 14 (.load false 1 (.t 13)),zG 10 true 15 (.bin .eql (.t 12) (.t 14)),qP 16 10 15,zM 17 16,zG 17 true 18 (.eH 2 (.t 2)),zG 17 true 19 (.load false 1 (.t 18)),zG 17 true 20 (.eH 2 (.t 3)),zG 17 true 21 (.load false 1 (.t 20)),zG 17 true 22 (.bin .eql (.t 19) (.t 21)),qP 23 17 22,zM 24 23,zG 24 true 25 (.eH 3 (.t 2)),zG 24 true 26 (.load false 1 (.t 25)),zG 24 true 27 (.eH 3 (.t 3)),zG 24 true 28 (.load false 1 (.t 27)),⟨(some (24,true)),some 29,.call 45 [.t 26,.t 28]⟩,qP 30 24 29,zM 31 30,zG 31 true 32 (.eH 4 (.t 2)),zG 31 true 33 (.load false 1 (.t 32)),zG 31 true 34 (.eH 4 (.t 3)),zG 31 true 35 (.load false 1 (.t 34)),⟨(some (31,true)),some 36,.call 46 [.t 33,.t 35]⟩,qP 37 31 36,zM 4 37] [4]) .ret))
theorem K.gu:dR pZ 17 2 0 C.gu [.tmp 4]=true:=by kernel_rfl
def C.iK:aT:=(.seq (.reg [qB 4 false] [0,1]) (.seq (.seq (.reg [zM 6 0,qL 7 6,zM 8 1,qL 9 8,zA 10 (.bin .neq (.t 7) (.t 9))] [0,1,10]) (.cond (.t 10) (.seq (.reg [qB 4 false] [4]) .ret) .skip)) (.seq (.seq (.reg [qI 5 0] [0,1,5]) (.block 0 (.loop (.seq (.seq (.reg [zM 11 5,zM 12 0,qL 13 12,zA 14 (.bin .lss (.t 11) (.t 13))] [0,1,5,14]) (.cond (.t 14) .skip (.exit 0))) (.seq (.block 1 (.seq (.kN [(zM 17 0,[]),(zM 18 5,[]),(qD 19 5 17 18,[0,1]),(qT 20 5 19,[0,1,2]),(zM 21 1,[]),(zM 22 5,[]),(qD 23 5 21 22,[4,5]),(qT 24 5 23,[4,5,6]),(q2 25 17 20 24,[0,1,2,3,4,5,6,7]),(qO 26 25,[0,1,2,3,4,5,6,7,8])] [0,1,5,26]) (.cond (.t 26) (.seq (.reg [qB 4 false] [4]) .ret) .skip))) (.reg [zM 15 5,zA 16 (.bin .add (.t 15) (kI 1)),zM 5 16] [0,1,5])))))) (.seq (.reg [qB 4 true] [4]) .ret))))
theorem K.iK:dR pZ 46 2 0 C.iK [.tmp 4]=true:=by kernel_rfl
def C.bG:aT:=(.seq (.reg [qX 2 10 0,qX 3 11 1,qB 4 false] [2,3]) (.seq (.reg [qA 5 0 2,qF 6 1 5,qA 7 0 3,qF 8 1 7,zA 9 (.bin .eql (.t 6) (.t 8)),zM 10 9,zG 10 true 11 (.eH 1 (.t 2)),zG 10 true 12 (.load false 1 (.t 11)),zG 10 true 13 (.eH 1 (.t 3)),zG 10 true 14 (.load false 1 (.t 13)),zG 10 true 15 (.bin .eql (.t 12) (.t 14)),qP 16 10 15,zM 17 16,zG 17 true 18 (.eH 2 (.t 2)),zG 17 true 19 (.load false 1 (.t 18)),zG 17 true 20 (.eH 2 (.t 3)),zG 17 true 21 (.load false 1 (.t 20)),zG 17 true 22 (.bin .eql (.t 19) (.t 21)),qP 23 17 22,zM 24 23,zG 24 true 25 (.eH 3 (.t 2)),zG 24 true 26 (.load true 5 (.t 25)),zG 24 true 27 (.eH 3 (.t 3)),zG 24 true 28 (.load true 5 (.t 27)),⟨(some (24,true)),some 29,.call 17 [.t 26,.t 28]⟩,qP 30 24 29,zM 4 30] [4]) .ret))
theorem K.bG:dR pZ 16 2 0 C.bG [.tmp 4]=true:=by kernel_rfl
def C.iU:aT:=(.seq (.reg [qB 4 false] [0,1]) (.seq (.seq (.reg [zM 6 0,qL 7 6,zM 8 1,qL 9 8,zA 10 (.bin .neq (.t 7) (.t 9))] [0,1,10]) (.cond (.t 10) (.seq (.reg [qB 4 false] [4]) .ret) .skip)) (.seq (.seq (.reg [qI 5 0] [0,1,5]) (.block 0 (.loop (.seq (.seq (.reg [zM 11 5,zM 12 0,qL 13 12,zA 14 (.bin .lss (.t 11) (.t 13))] [0,1,5,14]) (.cond (.t 14) .skip (.exit 0))) (.seq (.block 1 (.seq (.kN [(zM 17 0,[]),(zM 18 5,[]),(qD 19 7 17 18,[0,1]),(qA 20 0 19,[0,1,2]),(qF 21 1 20,[0,1,2,3]),(zM 22 1,[]),(zM 23 5,[]),(qD 24 7 22 23,[5,6]),(qA 25 0 24,[5,6,7]),(qF 26 1 25,[5,6,7,8]),(zA 27 (.bin .neq (.t 21) (.t 26)),[0,1,2,3,4,5,6,7,8,9]),(zM 28 27,[0,1,2,3,4,5,6,7,8,9,10]),(zG 28 false 29 (.mv (.t 0)),[0,1,2,3,4,5,6,7,8,9,10,11]),(zG 28 false 30 (.mv (.t 5)),[0,1,2,3,4,5,6,7,8,9,10,11]),(zG 28 false 31 (.oD 7 (.t 29) (.t 30)),[0,1,2,3,4,5,6,7,8,9,10,11,12,13]),(zG 28 false 32 (.eH 1 (.t 31)),[0,1,2,3,4,5,6,7,8,9,10,11,12,13,14]),(zG 28 false 33 (.load false 1 (.t 32)),[0,1,2,3,4,5,6,7,8,9,10,11,12,13,14,15]),(zG 28 false 34 (.mv (.t 1)),[0,1,2,3,4,5,6,7,8,9,10,11]),(zG 28 false 35 (.mv (.t 5)),[0,1,2,3,4,5,6,7,8,9,10,11]),(zG 28 false 36 (.oD 7 (.t 34) (.t 35)),[0,1,2,3,4,5,6,7,8,9,10,11,17,18]),(zG 28 false 37 (.eH 1 (.t 36)),[0,1,2,3,4,5,6,7,8,9,10,11,17,18,19]),(zG 28 false 38 (.load false 1 (.t 37)),[0,1,2,3,4,5,6,7,8,9,10,11,17,18,19,20]),(zG 28 false 39 (.bin .neq (.t 33) (.t 38)),[0,1,2,3,4,5,6,7,8,9,10,11,12,13,14,15,16,17,18,19,20,21]),(qQ 40 28 39,[0,1,2,3,4,5,6,7,8,9,10,11,12,13,14,15,16,17,18,19,20,21,22]),(zM 41 40,[0,1,2,3,4,5,6,7,8,9,10,11,12,13,14,15,16,17,18,19,20,21,22,23]),(zG 41 false 42 (.mv (.t 0)),[0,1,2,3,4,5,6,7,8,9,10,11,12,13,14,15,16,17,18,19,20,21,22,23,24]),(zG 41 false 43 (.mv (.t 5)),[0,1,2,3,4,5,6,7,8,9,10,11,12,13,14,15,16,17,18,19,20,21,22,23,24]),(zG 41 false 44 (.oD 7 (.t 42) (.t 43)),[0,1,2,3,4,5,6,7,8,9,10,11,12,13,14,15,16,17,18,19,20,21,22,23,24,25,26]),(zG 41 false 45 (.eH 2 (.t 44)),[0,1,2,3,4,5,6,7,8,9,10,11,12,13,14,15,16,17,18,19,20,21,22,23,24,25,26,27]),(zG 41 false 46 (.load true 5 (.t 45)),[0,1,2,3,4,5,6,7,8,9,10,11,12,13,14,15,16,17,18,19,20,21,22,23,24,25,26,27,28]),(zG 41 false 47 (.mv (.t 1)),[0,1,2,3,4,5,6,7,8,9,10,11,12,13,14,15,16,17,18,19,20,21,22,23,24]),(zG 41 false 48 (.mv (.t 5)),[0,1,2,3,4,5,6,7,8,9,10,11,12,13,14,15,16,17,18,19,20,21,22,23,24]),(zG 41 false 49 (.oD 7 (.t 47) (.t 48)),[0,1,2,3,4,5,6,7,8,9,10,11,12,13,14,15,16,17,18,19,20,21,22,23,24,30,31]),(zG 41 false 50 (.eH 2 (.t 49)),[0,1,2,3,4,5,6,7,8,9,10,11,12,13,14,15,16,17,18,19,20,21,22,23,24,30,31,32]),(zG 41 false 51 (.load true 5 (.t 50)),[0,1,2,3,4,5,6,7,8,9,10,11,12,13,14,15,16,17,18,19,20,21,22,23,24,30,31,32,33]),(⟨(some (41,false)),some 52,.call 17 [.t 46,.t 51]⟩,[0,1,2,3,4,5,6,7,8,9,10,11,12,13,14,15,16,17,18,19,20,21,22,23,24,25,26,27,28,29,30,31,32,33,34]),(zG 41 false 53 (.not (.t 52)),[0,1,2,3,4,5,6,7,8,9,10,11,12,13,14,15,16,17,18,19,20,21,22,23,24,25,26,27,28,29,30,31,32,33,34,35]),(qQ 54 41 53,[0,1,2,3,4,5,6,7,8,9,10,11,12,13,14,15,16,17,18,19,20,21,22,23,24,25,26,27,28,29,30,31,32,33,34,35,36])] [0,1,5,54]) (.cond (.t 54) (.seq (.reg [qB 4 false] [4]) .ret) .skip))) (.reg [zM 15 5,zA 16 (.bin .add (.t 15) (kI 1)),zM 5 16] [0,1,5])))))) (.seq (.reg [qB 4 true] [4]) .ret))))
theorem K.iU:dR pZ 44 2 0 C.iU [.tmp 4]=true:=by kernel_rfl
def C.aK:aT:=(.seq (.reg [qX 2 10 0,qX 3 11 1,qB 4 false] [2,3]) (.seq (.reg [qA 5 1 2,qF 6 1 5,qA 7 1 3,qF 8 1 7,zA 9 (.bin .eql (.t 6) (.t 8)),zM 10 9,zG 10 true 11 (.eH 0 (.t 2)),zG 10 true 12 (.load false 1 (.t 11)),zG 10 true 13 (.eH 0 (.t 3)),zG 10 true 14 (.load false 1 (.t 13)),⟨(some (10,true)),some 15,.call 44 [.t 12,.t 14]⟩,qP 16 10 15,zM 4 16] [4]) .ret))
theorem K.aK:dR pZ 15 2 0 C.aK [.tmp 4]=true:=by kernel_rfl
def C.aB:aT:=(.seq (.reg [qX 1 10 0,qZ 2 11] [1,2]) (.seq (.reg [zA 5 (.dJ 12 5 0 [.lit (.int .i64 0),.lit (.int .i64 0),.str [],.sl 1 [],.sl 5 []] []),zM 3 5] [1,2,3]) (.seq (.seq (.reg [qI 4 0] [1,2,3,4]) (.block 0 (.loop (.seq (.seq (.reg [zM 6 4,qA 7 4 1,qF 8 1 7,qL 9 8,zA 10 (.bin .lss (.t 6) (.t 9))] [1,2,3,4,10]) (.cond (.t 10) .skip (.exit 0))) (.seq (.block 1 (.reg [zM 13 3,qA 14 4 1,qF 15 1 14,zM 16 4,qD 17 5 15 16,qT 18 5 17,q1 19 89 18,zA 20 (.dJ 13 5 1 [.lit (.int .i64 0),.lit (.int .i64 0),.str [],.sl 1 [],.sl 5 []] [(0,.t 19)]),zA 21 (.append 14 5 80 (.t 13) (.t 20)),zM 3 21] [1,2,3,4])) (.reg [zM 11 4,zA 12 (.bin .add (.t 11) (kI 1)),zM 4 12] [1,2,3,4])))))) (.seq (.kN [(qA 22 0 1,[]),(qF 23 1 22,[0]),(qA 24 1 1,[]),(qF 25 1 24,[2]),(qA 26 2 1,[]),(qF 27 1 26,[4]),(zA 28 (.dJ 15 1 0 [.str []] []),[]),(qA 29 3 1,[]),(qF 30 1 29,[7]),(zA 31 (.append 16 1 16 (.t 28) (.t 30)),[6,7,8]),(zM 32 3,[]),(zA 33 (.build zN [(0,1,.t 23),(1,1,.t 25),(2,1,.t 27),(3,1,.t 31),(4,1,.t 32)]),[0,1,2,3,4,5,6,7,8,9,10]),(qS 5 2 33,[0,1,2,3,4,5,6,7,8,9,10,11])] [2]) .ret))))
theorem K.aB:dR pZ 89 1 0 C.aB [.cell 2 true 5]=true:=by kernel_rfl
def C.aC:aT:=(.seq (.reg [qI 4 0] [0,1]) (.seq (.reg [zM 7 0,zM 8 0,qN 9 8,qA 10 1 9,qF 11 1 10,zA 12 (.bin .add (.t 11) (kI 1)),qN 13 7,qA 14 1 13,qU 1 14 12] [0,1]) (.seq (.seq (.reg [zM 15 1,zA 16 (.bin .lss (.t 15) (kI 1)),zM 17 16,zG 17 false 18 (.mv (.t 0)),zG 17 false 19 (.Ii (.t 18)),zG 17 false 20 (.eH 0 (.t 19)),zG 17 false 21 (.load false 1 (.t 20)),zG 17 false 22 (.len (.t 21)),zG 17 false 23 (.bin .eql (.t 22) (kI 0)),qQ 24 17 23] [0,1,24]) (.cond (.t 24) (.seq (.reg [qI 4 0] [4]) .ret) .skip)) (.seq (.reg [zM 25 0,qN 26 25,qA 27 1 26,qF 28 1 27,zA 29 (.bin .sub (.t 28) (kI 1)),zM 5 29] [0,1,5]) (.seq (.seq (.reg [zM 30 5,zM 31 0,qN 32 31,qA 33 0 32,qF 34 1 33,qL 35 34,zA 36 (.bin .lss (.t 30) (.t 35))] [0,1,5,36]) (.cond (.t 36) (.seq (.reg [zM 37 0,qN 38 37,qA 39 0 38,qF 40 1 39,zM 41 5,qD 42 1 40 41,qF 43 1 42,zA 44 (.wB .i64 (.t 43)),zM 45 1,zA 46 (.bin .rem (.t 44) (.t 45)),zM 4 46] [4]) .ret) .skip)) (.seq (.kN [(zM 47 0,[]),(qN 48 47,[0]),(qA 49 0 48,[0,1]),(qF 50 1 49,[0,1,2]),(zM 51 5,[]),(zM 52 0,[]),(qN 53 52,[5]),(qA 54 0 53,[5,6]),(qF 55 1 54,[5,6,7]),(qL 56 55,[5,6,7,8]),(zA 57 (.bin .rem (.t 51) (.t 56)),[4,5,6,7,8,9]),(qD 58 1 50 57,[0,1,2,3,4,5,6,7,8,9,10]),(qF 59 1 58,[0,1,2,3,4,5,6,7,8,9,10,11]),(zA 60 (.wB .i64 (.t 59)),[0,1,2,3,4,5,6,7,8,9,10,11,12]),(zA 61 (.bin .mul (.t 60) (kI 131)),[0,1,2,3,4,5,6,7,8,9,10,11,12,13]),(zM 62 0,[]),(qN 63 62,[15]),(qA 64 0 63,[15,16]),(qF 65 1 64,[15,16,17]),(zM 66 5,[]),(zA 67 (.bin .mul (.t 66) (kI 7)),[19]),(zA 68 (.bin .add (.t 67) (kI 3)),[19,20]),(zM 69 0,[]),(qN 70 69,[22]),(qA 71 0 70,[22,23]),(qF 72 1 71,[22,23,24]),(qL 73 72,[22,23,24,25]),(zA 74 (.bin .rem (.t 68) (.t 73)),[19,20,21,22,23,24,25,26]),(qD 75 1 65 74,[15,16,17,18,19,20,21,22,23,24,25,26,27]),(qF 76 1 75,[15,16,17,18,19,20,21,22,23,24,25,26,27,28]),(zA 77 (.wB .i64 (.t 76)),[15,16,17,18,19,20,21,22,23,24,25,26,27,28,29]),(zA 78 (.bin .mul (.t 77) (kI 1117)),[15,16,17,18,19,20,21,22,23,24,25,26,27,28,29,30]),(zA 79 (.bin .add (.t 61) (.t 78)),[0,1,2,3,4,5,6,7,8,9,10,11,12,13,14,15,16,17,18,19,20,21,22,23,24,25,26,27,28,29,30,31]),(zM 80 5,[]),(zA 81 (.bin .mul (.t 80) (kI 29)),[33]),(zA 82 (.bin .add (.t 79) (.t 81)),[0,1,2,3,4,5,6,7,8,9,10,11,12,13,14,15,16,17,18,19,20,21,22,23,24,25,26,27,28,29,30,31,32,33,34]),(zM 83 5,[]),(zM 84 0,[]),(qN 85 84,[37]),(qA 86 0 85,[37,38]),(qF 87 1 86,[37,38,39]),(qL 88 87,[37,38,39,40]),(zA 89 (.bin .quo (.t 83) (.t 88)),[36,37,38,39,40,41]),(zA 90 (.bin .mul (.t 89) (kI 53)),[36,37,38,39,40,41,42]),(zA 91 (.bin .add (.t 82) (.t 90)),[0,1,2,3,4,5,6,7,8,9,10,11,12,13,14,15,16,17,18,19,20,21,22,23,24,25,26,27,28,29,30,31,32,33,34,35,36,37,38,39,40,41,42,43]),(zM 6 91,[0,1,2,3,4,5,6,7,8,9,10,11,12,13,14,15,16,17,18,19,20,21,22,23,24,25,26,27,28,29,30,31,32,33,34,35,36,37,38,39,40,41,42,43,44])] [1,6]) (.seq (.reg [zM 92 6,zM 93 6,zA 94 (.bin .quo (.t 93) (kI 64)),zA 95 (.bin .xor (.t 92) (.t 94)),zM 6 95] [1,6]) (.seq (.reg [zM 96 6,zM 97 1,zA 98 (.bin .rem (.t 96) (.t 97)),zM 4 98] [4]) .ret))))))))
theorem K.aC:dR pZ 62 2 1 C.aC [.tmp 4]=true:=by kernel_rfl
def C.dD:aT:=(.seq (.reg [qI 4 0] [0,1]) (.seq (.reg [zM 5 1,zM 6 0,zM 7 1,qL 8 7,q2 9 62 6 8,qD 10 1 5 9,qF 11 1 10,zM 4 11] [4]) .ret))
theorem K.dD:dR pZ 71 2 1 C.dD [.tmp 4]=true:=by kernel_rfl
def C.iQ:aT:=(.seq (.reg [zA 2 (.mv (.k (.c (.str []))))] [0]) (.seq (.seq (.reg [zM 3 0,zA 4 (.bin .lss (.t 3) (kI 0)),zM 5 4,zG 5 true 6 (.mv (.t 0)),zG 5 true 7 (.mv (.t 0)),zG 5 true 8 (.neg (.t 7)),zG 5 true 9 (.bin .eql (.t 6) (.t 8)),qP 10 5 9] [0,10]) (.cond (.t 10) (.seq (.reg [zA 2 (.mv (.k (.c (.str [45,57,50,50,51,51,55,50,48,51,54,56,53,52,55,55,53,56,48,56]))))] [2]) .ret) .skip)) (.seq (.seq (.reg [zM 11 0,zA 12 (.bin .lss (.t 11) (kI 0))] [0,12]) (.cond (.t 12) (.seq (.reg [zM 13 0,zA 14 (.neg (.t 13)),q1 15 179 14,zA 16 (.bin .add (.k (.c (.str [45]))) (.t 15)),zM 2 16] [2]) .ret) .skip)) (.seq (.seq (.reg [zM 17 0,zA 18 (.bin .lss (.t 17) (kI 10))] [0,18]) (.cond (.t 18) (.seq (.reg [zM 19 0,zA 20 (.bin .add (kI 48) (.t 19)),zA 21 (.wB .u8 (.t 20)),zA 22 (.dJ 10 1 1 [.lit (.int .u8 0)] [(0,.t 21)]),zA 23 (.I9 (.t 22)),zM 2 23] [2]) .ret) .skip)) (.seq (.kN [(zM 24 0,[]),(zA 25 (.bin .quo (.t 24) (kI 10)),[0]),(q1 26 179 25,[0,1]),(zM 27 0,[]),(zA 28 (.bin .rem (.t 27) (kI 10)),[3]),(zA 29 (.bin .add (kI 48) (.t 28)),[3,4]),(zA 30 (.wB .u8 (.t 29)),[3,4,5]),(zA 31 (.dJ 11 1 1 [.lit (.int .u8 0)] [(0,.t 30)]),[3,4,5,6]),(zA 32 (.I9 (.t 31)),[3,4,5,6,7]),(zA 33 (.bin .add (.t 26) (.t 32)),[0,1,2,3,4,5,6,7,8]),(zM 2 33,[0,1,2,3,4,5,6,7,8,9])] [2]) .ret)))))
theorem K.iQ:dR pZ 179 1 0 C.iQ [.tmp 2]=true:=by kernel_rfl
def C.fB:aT:=(.seq (.reg [qX 2 10 0,qI 4 0] [1,2]) (.seq (.seq (.reg [qI 5 0] [1,2,5]) (.block 0 (.loop (.seq (.seq (.reg [zM 6 5,qA 7 4 2,qF 8 1 7,qL 9 8,zA 10 (.bin .lss (.t 6) (.t 9))] [1,2,5,10]) (.cond (.t 10) .skip (.exit 0))) (.seq (.block 1 (.seq (.reg [qA 13 0 2,qF 14 1 13,zA 15 (.bin .eql (.t 14) (kI 4)),zM 16 15,zG 16 true 17 (.eH 3 (.t 2)),zG 16 true 18 (.load false 1 (.t 17)),zG 16 true 19 (.mv (.t 5)),zG 16 true 20 (.oD 1 (.t 18) (.t 19)),zG 16 true 21 (.load false 1 (.t 20)),zG 16 true 22 (.mv (.t 1)),zG 16 true 23 (.bin .eql (.t 21) (.t 22)),qP 24 16 23,zM 25 24,zG 25 false 26 (.eH 0 (.t 2)),zG 25 false 27 (.load false 1 (.t 26)),zG 25 false 28 (.bin .eql (.t 27) (kI 3)),zG 25 false 29 (.mv (.t 28)),zG 29 true 30 (.mv (.t 5)),⟨(some (29,true)),some 31,.call 179 [.t 30]⟩,zG 29 true 32 (.mv (.t 1)),zG 29 true 33 (.bin .eql (.t 31) (.t 32)),zG 25 false 34 (.pick (.t 29) (.t 33) (kB false)),qQ 35 25 34] [1,2,5,35]) (.cond (.t 35) (.seq (.reg [zM 36 5,zM 4 36] [4]) .ret) .skip))) (.reg [zM 11 5,zA 12 (.bin .add (.t 11) (kI 1)),zM 5 12] [1,2,5])))))) (.seq (.reg [qI 4 (-1)] [4]) .ret)))
theorem K.fB:dR pZ 182 2 0 C.fB [.tmp 4]=true:=by kernel_rfl
end Go.Ab
end
