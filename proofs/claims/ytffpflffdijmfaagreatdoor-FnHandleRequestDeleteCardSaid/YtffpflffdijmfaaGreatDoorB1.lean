/- The functions of the program that the laws reach: what they compute, the proofs that they do, the laws of the data (part 1). No conditions. -/
import Derived.Test.YtffpflffdijmfaaGreatDoorX2
set_option linter.unusedVariables false
set_option linter.unusedSimpArgs false
section
namespace Go.Ab
open Go
set_option maxRecDepth 100000
set_option maxHeartbeats 4000000
set_option linter.unusedVariables false
set_option linter.unusedSimpArgs false
structure af where
  Kind:Int
  Num:Int
  Text:aC
  Names:List aC
  Kids:List af
  deriving Inhabited
mutual
def af.cells:af->List Cell
  | af.mk x0 x1 x2 x3 x4=>[.lit (.int .i64 x0),.lit (.int .i64 x1),.str x2,.sl 1 (List.map cS x3),.sl 5 (af.wU x4)]
def af.wU:List af->List (List Cell)
  | []=>[]
  | x::r=>x.cells::af.wU r
end
theorem af.GL (ks:List af):af.wU ks=List.map af.cells ks:=by
  induction ks with
  | nil=>rfl
  | cons x r ih=>simp [af.wU,ih]
theorem af.eG (n:af):n.cells=[.lit (.int .i64 n.Kind),.lit (.int .i64 n.Num),.str n.Text,.sl 1 (List.map cS n.Names),.sl 5 (List.map af.cells n.Kids)]:=by
  cases n
  rw [af.cells,af.GL]
structure lU where
  Kind:Int
  Path:List aC
  From:List aC
  Value:af
  deriving Inhabited
def lU.cells (n:lU):List Cell:=[.lit (.int .i64 n.Kind),.sl 1 (List.map cS n.Path),.sl 1 (List.map cS n.From),.lit (.int .i64 n.Value.Kind),.lit (.int .i64 n.Value.Num),.str n.Value.Text,.sl 1 (List.map cS n.Value.Names),.sl 5 (List.map af.cells n.Value.Kids)]
theorem lU.eG (n:lU):n.cells=[.lit (.int .i64 n.Kind),.sl 1 (List.map cS n.Path),.sl 1 (List.map cS n.From),.lit (.int .i64 n.Value.Kind),.lit (.int .i64 n.Value.Num),.str n.Value.Text,.sl 1 (List.map cS n.Value.Names),.sl 5 (List.map af.cells n.Value.Kids)]:=rfl
structure aB where
  Name:aC
  Version:Int
  Node:af
  deriving Inhabited
def aB.cells (n:aB):List Cell:=[.str n.Name,.lit (.int .i64 n.Version),.lit (.int .i64 n.Node.Kind),.lit (.int .i64 n.Node.Num),.str n.Node.Text,.sl 1 (List.map cS n.Node.Names),.sl 5 (List.map af.cells n.Node.Kids)]
theorem aB.eG (n:aB):n.cells=[.str n.Name,.lit (.int .i64 n.Version),.lit (.int .i64 n.Node.Kind),.lit (.int .i64 n.Node.Num),.str n.Node.Text,.sl 1 (List.map cS n.Node.Names),.sl 5 (List.map af.cells n.Node.Kids)]:=rfl
structure StoreT where
  Items:List aB
  Clock:Int
  deriving Inhabited
def StoreT.cells (n:StoreT):List Cell:=[.sl 7 (List.map aB.cells n.Items),.lit (.int .i64 n.Clock)]
theorem StoreT.eG (n:StoreT):n.cells=[.sl 7 (List.map aB.cells n.Items),.lit (.int .i64 n.Clock)]:=rfl
structure RequestT where
  Method:Int
  Name:aC
  Want:List aC
  l7:List aC
  Body:af
  Ops:List lU
  deriving Inhabited
def RequestT.cells (n:RequestT):List Cell:=[.lit (.int .i64 n.Method),.str n.Name,.sl 1 (List.map cS n.Want),.sl 1 (List.map cS n.l7),.lit (.int .i64 n.Body.Kind),.lit (.int .i64 n.Body.Num),.str n.Body.Text,.sl 1 (List.map cS n.Body.Names),.sl 5 (List.map af.cells n.Body.Kids),.sl 8 (List.map lU.cells n.Ops)]
theorem RequestT.eG (n:RequestT):n.cells=[.lit (.int .i64 n.Method),.str n.Name,.sl 1 (List.map cS n.Want),.sl 1 (List.map cS n.l7),.lit (.int .i64 n.Body.Kind),.lit (.int .i64 n.Body.Num),.str n.Body.Text,.sl 1 (List.map cS n.Body.Names),.sl 5 (List.map af.cells n.Body.Kids),.sl 8 (List.map lU.cells n.Ops)]:=rfl
structure bn where
  Status:Int
  Tag:aC
  Version:Int
  Body:af
  deriving Inhabited
def bn.cells (n:bn):List Cell:=[.lit (.int .i64 n.Status),.str n.Tag,.lit (.int .i64 n.Version),.lit (.int .i64 n.Body.Kind),.lit (.int .i64 n.Body.Num),.str n.Body.Text,.sl 1 (List.map cS n.Body.Names),.sl 5 (List.map af.cells n.Body.Kids)]
theorem bn.eG (n:bn):n.cells=[.lit (.int .i64 n.Status),.str n.Tag,.lit (.int .i64 n.Version),.lit (.int .i64 n.Body.Kind),.lit (.int .i64 n.Body.Num),.str n.Body.Text,.sl 1 (List.map cS n.Body.Names),.sl 5 (List.map af.cells n.Body.Kids)]:=rfl
structure ReaderT where
  b:List Int
  p:Int
  deriving Inhabited
def ReaderT.cells (n:ReaderT):List Cell:=[.sl 1 (List.map cU n.b),.lit (.int .i64 n.p)]
theorem ReaderT.eG (n:ReaderT):n.cells=[.sl 1 (List.map cU n.b),.lit (.int .i64 n.p)]:=rfl
end Go.Ab
end
section
namespace Go.Ab
open Go
set_option maxRecDepth 100000
set_option maxHeartbeats 4000000
set_option linter.unusedVariables false
set_option linter.unusedSimpArgs false
def G.cmp_isNaN_int (f:Nat) (kV:Int):Option (Bool):=match f with
| 0=>none
| n+1 =>
(some ((kV != kV)))
def G.cmp_Compare_int (f:Nat) (kV:Int) (zB:Int):Option (Int):=match f with
| 0=>none
| n+1 =>
((G.cmp_isNaN_int n kV).bind fun v1 =>
((G.cmp_isNaN_int n zB).bind fun v2 =>
(cond v1
(cond v2
(some (0))
(some ((-1))))
(cond v2
(some (1))
(cond (decide (kV<zB))
(some ((-1)))
(cond (decide (zB<kV))
(some (1))
(some (0))))))))
def G.cmp_isNaN_string (f:Nat) (kV:aC):Option (Bool):=match f with
| 0=>none
| n+1 =>
(some ((!(kV==kV))))
def G.cmp_Less_string (f:Nat) (kV:aC) (zB:aC):Option (Bool):=match f with
| 0=>none
| n+1 =>
((G.cmp_isNaN_string n kV).bind fun v1 =>
(cond v1
((G.cmp_isNaN_string n zB).bind fun v2 =>
(cond v2
(some ((Op.bytesLess kV zB)))
(some (true))))
(some ((Op.bytesLess kV zB)))))
mutual
def G.ax.L2 (f:Nat) (ag:af) (z1:List aC) (fV:Int) (z4:List af):Option (af):=match f with
| 0=>none
| n+1 =>
(cond (decide (fV<((ag.Kids.length:Nat):Int)))
(chk (0<=fV/\fV<((ag.Kids.length:Nat):Int))
((G.ax n (ag.Kids.getD fV.toNat default)).bind fun v3 =>
(chk (0<=fV/\fV<((z4.length:Nat):Int))
(G.ax.L2 n ag z1 (IntKind.wrap .i64 (fV+1)) (z4.set fV.toNat v3)))))
(some ((af.mk ag.Kind ag.Num ag.Text z1 z4))))
def G.ax.K1 (f:Nat) (ag:af) (z1:List aC):Option (af):=match f with
| 0=>none
| n+1 =>
(cond (decide (0<((ag.Kids.length:Nat):Int)))
(chk (0<=((ag.Kids.length:Nat):Int)/\((ag.Kids.length:Nat):Int)<=((ag.Kids.length:Nat):Int)/\80*((ag.Kids.length:Nat):Int)<=2^47/\((ag.Kids.length:Nat):Int)<=2^47)
(G.ax.L2 n ag z1 0 (List.replicate ag.Kids.length (af.mk 0 0 [] [] []))))
(some ((af.mk ag.Kind ag.Num ag.Text z1 []))))
def G.ax (f:Nat) (ag:af):Option (af):=match f with
| 0=>none
| n+1 =>
(cond (decide (0<((ag.Names.length:Nat):Int)))
(chk (0<=((ag.Names.length:Nat):Int)/\((ag.Names.length:Nat):Int)<=((ag.Names.length:Nat):Int)/\16*((ag.Names.length:Nat):Int)<=2^47/\((ag.Names.length:Nat):Int)<=2^47)
(G.ax.K1 n ag ag.Names))
(G.ax.K1 n ag []))
end
def G.slices_isNaN_string (f:Nat) (kV:aC):Option (Bool):=match f with
| 0=>none
| n+1 =>
(some ((!(kV==kV))))
def G.slices_BinarySearch_string.L1 (f:Nat) (kV:List aC) (jU:aC) (ak:Int) (yx:Int):Option (Int × Bool):=match f with
| 0=>none
| n+1 =>
(cond (decide (ak<yx))
(chk (0<=(IntKind.wrap .i64 ((Int.fdiv (IntKind.wrap .u64 ((IntKind.wrap .i64 (ak+yx)))) (2^(min 1 (IntKind.bits .u64))))))/\(IntKind.wrap .i64 ((Int.fdiv (IntKind.wrap .u64 ((IntKind.wrap .i64 (ak+yx)))) (2^(min 1 (IntKind.bits .u64))))))<((kV.length:Nat):Int))
((G.cmp_Less_string n (kV.getD (IntKind.wrap .i64 ((Int.fdiv (IntKind.wrap .u64 ((IntKind.wrap .i64 (ak+yx)))) (2^(min 1 (IntKind.bits .u64)))))).toNat default) jU).bind fun v3 =>
(cond v3
(G.slices_BinarySearch_string.L1 n kV jU (IntKind.wrap .i64 ((IntKind.wrap .i64 ((Int.fdiv (IntKind.wrap .u64 ((IntKind.wrap .i64 (ak+yx)))) (2^(min 1 (IntKind.bits .u64))))))+1)) yx)
(G.slices_BinarySearch_string.L1 n kV jU ak (IntKind.wrap .i64 ((Int.fdiv (IntKind.wrap .u64 ((IntKind.wrap .i64 (ak+yx)))) (2^(min 1 (IntKind.bits .u64))))))))))
(cond (decide (ak<((kV.length:Nat):Int)))
(chk (0<=ak/\ak<((kV.length:Nat):Int))
(cond ((kV.getD ak.toNat default)==jU)
(some (ak,true))
(chk (0<=ak/\ak<((kV.length:Nat):Int))
((G.slices_isNaN_string n (kV.getD ak.toNat default)).bind fun v4 =>
(cond v4
((G.slices_isNaN_string n jU).bind fun v5 =>
(some (ak,v5)))
(some (ak,false)))))))
(some (ak,false))))
def G.slices_BinarySearch_string (f:Nat) (kV:List aC) (jU:aC):Option (Int × Bool):=match f with
| 0=>none
| n+1 =>
(G.slices_BinarySearch_string.L1 n kV jU 0 ((kV.length:Nat):Int))
def G.strconv_Itoa (f:Nat) (i:Int):Option aC:=match f with
| 0=>none
| _+1=>(chk ((-9223372036854775808<=i/\i<=9223372036854775807)/\(Lib.itoa i).length<=1000000) (some (Lib.itoa i)))
def G.bF.L1 (f:Nat) (ag:af) (dZ:aC) (fV:Int):Option (Int × Bool):=match f with
| 0=>none
| n+1 =>
(cond (decide (fV<((ag.Kids.length:Nat):Int)))
((G.strconv_Itoa n fV).bind fun v4 =>
(cond (v4==dZ)
(some (fV,true))
(G.bF.L1 n ag dZ (IntKind.wrap .i64 (fV+1)))))
(some (0,false)))
def G.bF (f:Nat) (ag:af) (dZ:aC):Option (Int × Bool):=match f with
| 0=>none
| n+1 =>
(cond (ag.Kind==4)
((G.slices_BinarySearch_string n ag.Names dZ).bind fun v1 =>
(some (v1.1,v1.2)))
(cond (ag.Kind==3)
(G.bF.L1 n ag dZ 0)
(some (0,false))))
def G.bJ (f:Nat) (s:List af) (i:Int) (v:List af):Option (List af):=match f with
| 0=>none
| _+1=>chk (0<=i/\i<=((s.length:Nat):Int)/\v.length=1/\(s.length+1)*86<=2^46) (some (s.take i.toNat++v++s.drop i.toNat))
def G.fB (f:Nat) (s:List aC) (i:Int) (v:List aC):Option (List aC):=match f with
| 0=>none
| _+1=>chk (0<=i/\i<=((s.length:Nat):Int)/\v.length=1/\(s.length+1)*18<=2^46) (some (s.take i.toNat++v++s.drop i.toNat))
def G.jD (f:Nat) (pq:af) (aJ:aC) (bU:af):Option (af):=match f with
| 0=>none
| n+1 =>
((G.slices_BinarySearch_string n pq.Names aJ).bind fun v1 =>
(cond v1.2
(chk (0<=v1.1/\v1.1<((pq.Kids.length:Nat):Int))
(some ((af.mk pq.Kind pq.Num pq.Text pq.Names (pq.Kids.set v1.1.toNat bU)))))
((G.fB n pq.Names v1.1 [aJ]).bind fun v2 =>
((G.bJ n pq.Kids v1.1 [bU]).bind fun v3 =>
(some ((af.mk pq.Kind pq.Num pq.Text v2 v3)))))))
def G.gX.K1 (f:Nat) (bU:af) (v1:af) (Xd:Int) (KX:Bool):Option (af × Bool):=match f with
| 0=>none
| n+1 =>
(cond KX
((G.ax n bU).bind fun v6 =>
((G.bJ n v1.Kids Xd [v6]).bind fun v7 =>
(some ((af.mk v1.Kind v1.Num v1.Text v1.Names v7),true))))
(some ((af.mk 0 0 [] [] []),false)))
def G.gX (f:Nat) (ag:af) (dZ:aC) (bU:af):Option (af × Bool):=match f with
| 0=>none
| n+1 =>
((G.ax n ag).bind fun v1 =>
(cond (ag.Kind==4)
((G.ax n bU).bind fun v2 =>
((G.jD n v1 dZ v2).bind fun v3 =>
(some (v3,true))))
(cond (ag.Kind==3)
((G.bF n ag dZ).bind fun v4 =>
(cond v4.2
(G.gX.K1 n bU v1 v4.1 true)
(cond (dZ==[45])
(G.gX.K1 n bU v1 ((ag.Kids.length:Nat):Int) true)
((G.strconv_Itoa n ((ag.Kids.length:Nat):Int)).bind fun v8 =>
(cond (dZ==v8)
(G.gX.K1 n bU v1 ((ag.Kids.length:Nat):Int) true)
(G.gX.K1 n bU v1 v4.1 false))))))
(some ((af.mk 0 0 [] [] []),false)))))
def G.kW (f:Nat) (ou:af) (gy:List aC) (jA:Int) (oJ:af):Option (af × Bool):=match f with
| 0=>none
| n+1 =>
(chk (0<=jA/\jA<((gy.length:Nat):Int))
((G.gX n ou (gy.getD jA.toNat default) oJ).bind fun v1 =>
(some (v1.1,v1.2))))
def G.bD.L1 (f:Nat) (ah:aC) (ak:Int):Option (Bool):=match f with
| 0=>none
| n+1 =>
(cond (decide (ak<((ah.length:Nat):Int)))
(chk (0<=ak/\ak<((ah.length:Nat):Int))
(cond (decide ((((ah.getD ak.toNat 0).toNat:Nat):Int)<32))
(some (false))
(chk (0<=ak/\ak<((ah.length:Nat):Int))
(cond (decide (126<(((ah.getD ak.toNat 0).toNat:Nat):Int)))
(some (false))
(G.bD.L1 n ah (IntKind.wrap .i64 (ak+1)))))))
(some (true)))
def G.bD (f:Nat) (ah:aC):Option (Bool):=match f with
| 0=>none
| n+1 =>
(cond (decide (12<((ah.length:Nat):Int)))
(some (false))
(G.bD.L1 n ah 0))
def G.fH.L1 (f:Nat) (mV:List aC) (fV:Int):Option (Bool):=match f with
| 0=>none
| n+1 =>
(cond (decide (fV<((mV.length:Nat):Int)))
(chk (0<=fV/\fV<((mV.length:Nat):Int))
((G.bD n (mV.getD fV.toNat default)).bind fun v3 =>
(cond v3
(cond (decide (0<fV))
(chk (0<=(IntKind.wrap .i64 (fV-1))/\(IntKind.wrap .i64 (fV-1))<((mV.length:Nat):Int))
(cond (Op.bytesLess (mV.getD (IntKind.wrap .i64 (fV-1)).toNat default) (mV.getD fV.toNat default))
(G.fH.L1 n mV (IntKind.wrap .i64 (fV+1)))
(some (false))))
(G.fH.L1 n mV (IntKind.wrap .i64 (fV+1))))
(some (false)))))
(some (true)))
def G.fH (f:Nat) (mV:List aC):Option (Bool):=match f with
| 0=>none
| n+1 =>
(cond (decide (6<((mV.length:Nat):Int)))
(some (false))
(G.fH.L1 n mV 0))
def G.bI.K1 (f:Nat) (ag:af):Option (Bool):=match f with
| 0=>none
| n+1 =>
(cond (ag.Kind != 4)
(cond (decide (0<((ag.Names.length:Nat):Int)))
(some (false))
(cond (ag.Kind==0)
(some ((((ag.Kids.length:Nat):Int)==0)))
(cond (ag.Kind==1)
(cond (decide ((-999999)<=ag.Num))
(cond (decide (ag.Num<=999999))
(some ((((ag.Kids.length:Nat):Int)==0)))
(some (false)))
(some (false)))
(cond (ag.Kind==2)
((G.bD n ag.Text).bind fun v1 =>
(cond v1
(some ((((ag.Kids.length:Nat):Int)==0)))
(some (false))))
(cond (ag.Kind==3)
(some ((decide (((ag.Kids.length:Nat):Int)<=6))))
(cond (ag.Kind==4)
((G.fH n ag.Names).bind fun v2 =>
(cond v2
(some ((((ag.Kids.length:Nat):Int)==((ag.Names.length:Nat):Int))))
(some (false))))
(some (false))))))))
(cond (ag.Kind==0)
(some ((((ag.Kids.length:Nat):Int)==0)))
(cond (ag.Kind==1)
(cond (decide ((-999999)<=ag.Num))
(cond (decide (ag.Num<=999999))
(some ((((ag.Kids.length:Nat):Int)==0)))
(some (false)))
(some (false)))
(cond (ag.Kind==2)
((G.bD n ag.Text).bind fun v3 =>
(cond v3
(some ((((ag.Kids.length:Nat):Int)==0)))
(some (false))))
(cond (ag.Kind==3)
(some ((decide (((ag.Kids.length:Nat):Int)<=6))))
(cond (ag.Kind==4)
((G.fH n ag.Names).bind fun v4 =>
(cond v4
(some ((((ag.Kids.length:Nat):Int)==((ag.Names.length:Nat):Int))))
(some (false))))
(some (false))))))))
def G.bI (f:Nat) (ag:af):Option (Bool):=match f with
| 0=>none
| n+1 =>
(cond (ag.Kind != 1)
(cond (ag.Num != 0)
(some (false))
(cond (ag.Kind != 2)
(cond (ag.Text==[])
(G.bI.K1 n ag)
(some (false)))
(G.bI.K1 n ag)))
(cond (ag.Kind != 2)
(cond (ag.Text==[])
(G.bI.K1 n ag)
(some (false)))
(G.bI.K1 n ag)))
mutual
def G.bu.L1 (f:Nat) (ag:af) (oO:Int) (KW:Int) (F9:Int) (fV:Int):Option (Int × Int × Bool):=match f with
| 0=>none
| n+1 =>
(cond (decide (fV<((ag.Kids.length:Nat):Int)))
(chk (0<=fV/\fV<((ag.Kids.length:Nat):Int))
((G.bu n (ag.Kids.getD fV.toNat default) (IntKind.wrap .i64 (oO+1))).bind fun v4 =>
(cond v4.2.2
(G.bu.L1 n ag oO (IntKind.wrap .i64 (KW+v4.1)) (if (IntKind.wrap .i64 (v4.2.1+1))>F9 then (IntKind.wrap .i64 (v4.2.1+1)) else F9) (IntKind.wrap .i64 (fV+1)))
(some (0,0,false)))))
(some (KW,F9,true)))
def G.bu (f:Nat) (ag:af) (oO:Int):Option (Int × Int × Bool):=match f with
| 0=>none
| n+1 =>
(cond (decide (5<oO))
(some (0,0,false))
((G.bI n ag).bind fun v1 =>
(cond v1
(G.bu.L1 n ag oO 1 1 0)
(some (0,0,false)))))
end
def G.aH (f:Nat) (ag:af):Option (Bool):=match f with
| 0=>none
| n+1 =>
((G.bu n ag 1).bind fun v1 =>
(cond v1.2.2
(some ((decide (v1.1<=40))))
(some (false))))
mutual
def G.dQ (f:Nat) (ag:af) (ai:List aC) (gy:List aC) (jA:Int) (oJ:af):Option (af × Bool):=match f with
| 0=>none
| n+1 =>
(cond (((ai.length:Nat):Int)==0)
((G.kW n ag gy jA oJ).bind fun v1 =>
(some (v1.1,v1.2)))
(chk (0<=0/\0<((ai.length:Nat):Int))
((G.bF n ag (ai.getD 0 default)).bind fun v2 =>
(cond v2.2
(chk (0<=v2.1/\v2.1<((ag.Kids.length:Nat):Int))
(chk (0<=1/\1<=((ai.length:Nat):Int)/\((ai.length:Nat):Int)<=((ai.length:Nat):Int))
((G.dQ n (ag.Kids.getD v2.1.toNat default) (ai.drop 1) gy jA oJ).bind fun v3 =>
(cond v3.2
((G.ax n ag).bind fun v4 =>
(chk (0<=v2.1/\v2.1<((v4.Kids.length:Nat):Int))
(some ((af.mk v4.Kind v4.Num v4.Text v4.Names (v4.Kids.set v2.1.toNat v3.1)),true))))
(some ((af.mk 0 0 [] [] []),false))))))
(some ((af.mk 0 0 [] [] []),false))))))
end
def G.jC (f:Nat) (ag:af) (xM:Bool):Option (af × Bool):=match f with
| 0=>none
| n+1 =>
(cond xM
((G.aH n ag).bind fun v1 =>
(cond v1
(some (ag,true))
(some ((af.mk 0 0 [] [] []),false))))
(some ((af.mk 0 0 [] [] []),false)))
def G.dL.L1 (f:Nat) (ai:List aC) (fV:Int):Option (Bool):=match f with
| 0=>none
| n+1 =>
(cond (decide (fV<((ai.length:Nat):Int)))
(chk (0<=fV/\fV<((ai.length:Nat):Int))
((G.bD n (ai.getD fV.toNat default)).bind fun v3 =>
(cond v3
(G.dL.L1 n ai (IntKind.wrap .i64 (fV+1)))
(some (false)))))
(some (true)))
def G.dL (f:Nat) (ai:List aC):Option (Bool):=match f with
| 0=>none
| n+1 =>
(cond (decide (5<((ai.length:Nat):Int)))
(some (false))
(G.dL.L1 n ai 0))
def G.ji (f:Nat) (ag:af) (ai:List aC) (bU:af):Option (af × Bool):=match f with
| 0=>none
| n+1 =>
((G.aH n ag).bind fun v1 =>
(cond v1
((G.dL n ai).bind fun v2 =>
(cond v2
((G.aH n bU).bind fun v3 =>
(cond v3
(cond (((ai.length:Nat):Int)==0)
((G.ax n bU).bind fun v4 =>
(some (v4,true)))
(chk (0<=0/\0<=(IntKind.wrap .i64 (((ai.length:Nat):Int)-1))/\(IntKind.wrap .i64 (((ai.length:Nat):Int)-1))<=((ai.length:Nat):Int))
((G.dQ n ag (ai.take ((IntKind.wrap .i64 (((ai.length:Nat):Int)-1)).toNat)) ai (IntKind.wrap .i64 (((ai.length:Nat):Int)-1)) bU).bind fun v5 =>
((G.jC n v5.1 v5.2).bind fun v6 =>
(some (v6.1,v6.2))))))
(some ((af.mk 0 0 [] [] []),false))))
(some ((af.mk 0 0 [] [] []),false))))
(some ((af.mk 0 0 [] [] []),false))))
def G.fJ.L1 (f:Nat) (ai:List aC) (fV:Int) (y6:Int) (y7:Int) (y8:aC) (y9:List aC) (zf:List af):Option (af × Bool):=match f with
| 0=>none
| n+1 =>
(cond (decide (fV<((ai.length:Nat):Int)))
(chk (0<=fV/\fV<((ai.length:Nat):Int))
((G.bF n (af.mk y6 y7 y8 y9 zf) (ai.getD fV.toNat default)).bind fun v3 =>
(cond v3.2
(chk (0<=v3.1/\v3.1<((zf.length:Nat):Int))
(G.fJ.L1 n ai (IntKind.wrap .i64 (fV+1)) ((zf.getD v3.1.toNat default).Kind) ((zf.getD v3.1.toNat default).Num) ((zf.getD v3.1.toNat default).Text) ((zf.getD v3.1.toNat default).Names) ((zf.getD v3.1.toNat default).Kids)))
(some ((af.mk 0 0 [] [] []),false)))))
(some ((af.mk y6 y7 y8 y9 zf),true)))
def G.fJ (f:Nat) (ag:af) (ai:List aC):Option (af × Bool):=match f with
| 0=>none
| n+1 =>
(G.fJ.L1 n ai 0 ag.Kind ag.Num ag.Text ag.Names ag.Kids)
def G.kS (f:Nat) (ag:af) (ai:List aC):Option (af × Bool):=match f with
| 0=>none
| n+1 =>
((G.aH n ag).bind fun v1 =>
(cond v1
((G.dL n ai).bind fun v2 =>
(cond v2
((G.fJ n ag ai).bind fun v3 =>
(cond v3.2
((G.ax n v3.1).bind fun v4 =>
(some (v4,true)))
(some ((af.mk 0 0 [] [] []),false))))
(some ((af.mk 0 0 [] [] []),false))))
(some ((af.mk 0 0 [] [] []),false))))
def G.bW (f:Nat) (s:List af) (i:Int) (j:Int):Option (List af):=match f with
| 0=>none
| _+1=>chk (0<=i/\i<j/\j<=((s.length:Nat):Int)/\s.length*86<=2^46) (some (s.take i.toNat++s.drop j.toNat))
def G.slices_Delete_string (f:Nat) (s:List aC) (i:Int) (j:Int):Option (List aC):=match f with
| 0=>none
| _+1=>chk (0<=i/\i<j/\j<=((s.length:Nat):Int)/\s.length*18<=2^46) (some (s.take i.toNat++s.drop j.toNat))
def G.dK.K1 (f:Nat) (v1:Int × Bool) (v2:af) (z1:List aC):Option (af × Bool):=match f with
| 0=>none
| n+1 =>
((G.bW n v2.Kids v1.1 (IntKind.wrap .i64 (v1.1+1))).bind fun v4 =>
(some ((af.mk v2.Kind v2.Num v2.Text z1 v4),true)))
def G.dK (f:Nat) (ou:af) (gy:List aC) (jA:Int):Option (af × Bool):=match f with
| 0=>none
| n+1 =>
(chk (0<=jA/\jA<((gy.length:Nat):Int))
((G.bF n ou (gy.getD jA.toNat default)).bind fun v1 =>
(cond v1.2
((G.ax n ou).bind fun v2 =>
(cond (ou.Kind==4)
((G.slices_Delete_string n v2.Names v1.1 (IntKind.wrap .i64 (v1.1+1))).bind fun v5 =>
(G.dK.K1 n v1 v2 v5))
(G.dK.K1 n v1 v2 v2.Names)))
(some ((af.mk 0 0 [] [] []),false)))))
mutual
def G.dn (f:Nat) (ag:af) (ai:List aC) (gy:List aC) (jA:Int):Option (af × Bool):=match f with
| 0=>none
| n+1 =>
(cond (((ai.length:Nat):Int)==0)
((G.dK n ag gy jA).bind fun v1 =>
(some (v1.1,v1.2)))
(chk (0<=0/\0<((ai.length:Nat):Int))
((G.bF n ag (ai.getD 0 default)).bind fun v2 =>
(cond v2.2
(chk (0<=v2.1/\v2.1<((ag.Kids.length:Nat):Int))
(chk (0<=1/\1<=((ai.length:Nat):Int)/\((ai.length:Nat):Int)<=((ai.length:Nat):Int))
((G.dn n (ag.Kids.getD v2.1.toNat default) (ai.drop 1) gy jA).bind fun v3 =>
(cond v3.2
((G.ax n ag).bind fun v4 =>
(chk (0<=v2.1/\v2.1<((v4.Kids.length:Nat):Int))
(some ((af.mk v4.Kind v4.Num v4.Text v4.Names (v4.Kids.set v2.1.toNat v3.1)),true))))
(some ((af.mk 0 0 [] [] []),false))))))
(some ((af.mk 0 0 [] [] []),false))))))
end
def G.iw (f:Nat) (ag:af) (ai:List aC):Option (af × Bool):=match f with
| 0=>none
| n+1 =>
((G.aH n ag).bind fun v1 =>
(cond v1
((G.dL n ai).bind fun v2 =>
(cond v2
(cond (((ai.length:Nat):Int)==0)
(some ((af.mk 0 0 [] [] []),false))
(chk (0<=0/\0<=(IntKind.wrap .i64 (((ai.length:Nat):Int)-1))/\(IntKind.wrap .i64 (((ai.length:Nat):Int)-1))<=((ai.length:Nat):Int))
((G.dn n ag (ai.take ((IntKind.wrap .i64 (((ai.length:Nat):Int)-1)).toNat)) ai (IntKind.wrap .i64 (((ai.length:Nat):Int)-1))).bind fun v3 =>
(some (v3.1,v3.2)))))
(some ((af.mk 0 0 [] [] []),false))))
(some ((af.mk 0 0 [] [] []),false))))
def G.kX (f:Nat) (dF:af) (gy:af):Option (af × Bool):=match f with
| 0=>none
| n+1 =>
((G.ax n gy).bind fun v1 =>
(some (v1,true)))
mutual
def G.dR (f:Nat) (ag:af) (ai:List aC) (gy:af):Option (af × Bool):=match f with
| 0=>none
| n+1 =>
(cond (((ai.length:Nat):Int)==0)
((G.kX n ag gy).bind fun v1 =>
(some (v1.1,v1.2)))
(chk (0<=0/\0<((ai.length:Nat):Int))
((G.bF n ag (ai.getD 0 default)).bind fun v2 =>
(cond v2.2
(chk (0<=v2.1/\v2.1<((ag.Kids.length:Nat):Int))
(chk (0<=1/\1<=((ai.length:Nat):Int)/\((ai.length:Nat):Int)<=((ai.length:Nat):Int))
((G.dR n (ag.Kids.getD v2.1.toNat default) (ai.drop 1) gy).bind fun v3 =>
(cond v3.2
((G.ax n ag).bind fun v4 =>
(chk (0<=v2.1/\v2.1<((v4.Kids.length:Nat):Int))
(some ((af.mk v4.Kind v4.Num v4.Text v4.Names (v4.Kids.set v2.1.toNat v3.1)),true))))
(some ((af.mk 0 0 [] [] []),false))))))
(some ((af.mk 0 0 [] [] []),false))))))
end
def G.lF (f:Nat) (ag:af) (ai:List aC) (bU:af):Option (af × Bool):=match f with
| 0=>none
| n+1 =>
((G.aH n ag).bind fun v1 =>
(cond v1
((G.dL n ai).bind fun v2 =>
(cond v2
((G.aH n bU).bind fun v3 =>
(cond v3
((G.dR n ag ai bU).bind fun v4 =>
((G.jC n v4.1 v4.2).bind fun v5 =>
(some (v5.1,v5.2))))
(some ((af.mk 0 0 [] [] []),false))))
(some ((af.mk 0 0 [] [] []),false))))
(some ((af.mk 0 0 [] [] []),false))))
def G.mJ (f:Nat) (iQ:lU):Option (Bool):=match f with
| 0=>none
| n+1 =>
(cond (decide (1<=iQ.Kind))
(cond (decide (iQ.Kind<=6))
((G.dL n iQ.Path).bind fun v1 =>
(cond v1
((G.dL n iQ.From).bind fun v2 =>
(cond v2
((G.aH n iQ.Value).bind fun v3 =>
(some (v3)))
(some (false))))
(some (false))))
(some (false)))
(some (false)))
def G.slices_Equal_string.L1 (f:Nat) (uT:List aC) (xy:List aC) (fV:Int):Option (Bool):=match f with
| 0=>none
| n+1 =>
(cond (decide (fV<((uT.length:Nat):Int)))
(chk (0<=fV/\fV<((uT.length:Nat):Int))
(chk (0<=fV/\fV<((xy.length:Nat):Int))
(cond ((uT.getD fV.toNat default)==(xy.getD fV.toNat default))
(G.slices_Equal_string.L1 n uT xy (IntKind.wrap .i64 (fV+1)))
(some (false)))))
(some (true)))
def G.slices_Equal_string (f:Nat) (uT:List aC) (xy:List aC):Option (Bool):=match f with
| 0=>none
| n+1 =>
(cond (((uT.length:Nat):Int) != ((xy.length:Nat):Int))
(some (false))
(G.slices_Equal_string.L1 n uT xy 0))
def G.kQ (f:Nat) (ag:af) (qp:List aC) (ai:List aC):Option (af × Bool):=match f with
| 0=>none
| n+1 =>
((G.kS n ag qp).bind fun v1 =>
(cond v1.2
((G.slices_Equal_string n ai qp).bind fun v2 =>
(cond v2
((G.ax n ag).bind fun v3 =>
(some (v3,true)))
(cond (decide (((qp.length:Nat):Int)<((ai.length:Nat):Int)))
(chk (0<=0/\0<=((qp.length:Nat):Int)/\((qp.length:Nat):Int)<=((ai.length:Nat):Int))
((G.slices_Equal_string n (ai.take qp.length) qp).bind fun v4 =>
(cond v4
(some ((af.mk 0 0 [] [] []),false))
((G.iw n ag qp).bind fun v5 =>
(cond v5.2
((G.ji n v5.1 ai v1.1).bind fun v6 =>
(some (v6.1,v6.2)))
(some ((af.mk 0 0 [] [] []),false)))))))
((G.iw n ag qp).bind fun v7 =>
(cond v7.2
((G.ji n v7.1 ai v1.1).bind fun v8 =>
(some (v8.1,v8.2)))
(some ((af.mk 0 0 [] [] []),false)))))))
(some ((af.mk 0 0 [] [] []),false))))
def G.bV (f:Nat) (dF:aC) (dI:aC):Option (Int):=match f with
| 0=>none
| n+1 =>
(some ((Go.Lib.compareBytes dF dI)))
def G.strings_Compare (f:Nat) (dF:aC) (dI:aC):Option (Int):=match f with
| 0=>none
| n+1 =>
((G.bV n dF dI).bind fun v1 =>
(some (v1)))
mutual
def G.aN.K4 (f:Nat) (dF:af) (dI:af) (ak:Int):Option (Int):=match f with
| 0=>none
| n+1 =>
(chk (0<=ak/\ak<((dF.Kids.length:Nat):Int))
(chk (0<=ak/\ak<((dI.Kids.length:Nat):Int))
((G.aN n (dF.Kids.getD ak.toNat default) (dI.Kids.getD ak.toNat default)).bind fun v11 =>
(cond (v11 != 0)
(some (v11))
(G.aN.L3 n dF dI (IntKind.wrap .i64 (ak+1)))))))
def G.aN.L3 (f:Nat) (dF:af) (dI:af) (ak:Int):Option (Int):=match f with
| 0=>none
| n+1 =>
(cond (decide (ak<((dF.Kids.length:Nat):Int)))
(cond (decide (ak<((dI.Kids.length:Nat):Int)))
(cond (dF.Kind==4)
(chk (0<=ak/\ak<((dF.Names.length:Nat):Int))
(chk (0<=ak/\ak<((dI.Names.length:Nat):Int))
((G.strings_Compare n (dF.Names.getD ak.toNat default) (dI.Names.getD ak.toNat default)).bind fun v12 =>
(cond (v12 != 0)
(some (v12))
(G.aN.K4 n dF dI ak)))))
(G.aN.K4 n dF dI ak))
((G.cmp_Compare_int n ((dF.Kids.length:Nat):Int) ((dI.Kids.length:Nat):Int)).bind fun v13 =>
(some (v13))))
((G.cmp_Compare_int n ((dF.Kids.length:Nat):Int) ((dI.Kids.length:Nat):Int)).bind fun v14 =>
(some (v14))))
def G.aN (f:Nat) (dF:af) (dI:af):Option (Int):=match f with
| 0=>none
| n+1 =>
((G.cmp_Compare_int n dF.Kind dI.Kind).bind fun v1 =>
(cond (v1 != 0)
(some (v1))
((G.cmp_Compare_int n dF.Num dI.Num).bind fun v2 =>
(cond (v2 != 0)
(some (v2))
((G.strings_Compare n dF.Text dI.Text).bind fun v3 =>
(cond (v3 != 0)
(some (v3))
(G.aN.L3 n dF dI 0)))))))
end
def G.kR (f:Nat) (dF:af) (dI:af):Option (Bool):=match f with
| 0=>none
| n+1 =>
((G.aN n dF dI).bind fun v1 =>
(some ((v1==0))))
def G.jW (f:Nat) (ag:af) (ai:List aC) (bU:af):Option (af × Bool):=match f with
| 0=>none
| n+1 =>
((G.fJ n ag ai).bind fun v1 =>
(cond v1.2
((G.kR n v1.1 bU).bind fun v2 =>
(cond v2
((G.ax n ag).bind fun v3 =>
(some (v3,true)))
(some ((af.mk 0 0 [] [] []),false))))
(some ((af.mk 0 0 [] [] []),false))))
def G.lu (f:Nat) (ag:af) (iQ:lU):Option (af × Bool):=match f with
| 0=>none
| n+1 =>
((G.aH n ag).bind fun v1 =>
(cond v1
((G.mJ n iQ).bind fun v2 =>
(cond v2
(cond (iQ.Kind==1)
((G.ji n ag iQ.Path iQ.Value).bind fun v3 =>
(some (v3.1,v3.2)))
(cond (iQ.Kind==2)
((G.iw n ag iQ.Path).bind fun v4 =>
(some (v4.1,v4.2)))
(cond (iQ.Kind==3)
((G.lF n ag iQ.Path iQ.Value).bind fun v5 =>
(some (v5.1,v5.2)))
(cond (iQ.Kind==4)
((G.kQ n ag iQ.From iQ.Path).bind fun v6 =>
(some (v6.1,v6.2)))
(cond (iQ.Kind==5)
((G.kS n ag iQ.From).bind fun v7 =>
(cond v7.2
((G.ji n ag iQ.Path v7.1).bind fun v8 =>
(some (v8.1,v8.2)))
(some ((af.mk 0 0 [] [] []),false))))
((G.jW n ag iQ.Path iQ.Value).bind fun v9 =>
(some (v9.1,v9.2))))))))
(some ((af.mk 0 0 [] [] []),false))))
(some ((af.mk 0 0 [] [] []),false))))
def G.di.L1 (f:Nat) (aA:List lU) (fV:Int):Option (Bool):=match f with
| 0=>none
| n+1 =>
(cond (decide (fV<((aA.length:Nat):Int)))
(chk (0<=fV/\fV<((aA.length:Nat):Int))
((G.mJ n (lU.mk ((aA.getD fV.toNat default).Kind) ((aA.getD fV.toNat default).Path) ((aA.getD fV.toNat default).From) ((aA.getD fV.toNat default).Value))).bind fun v3 =>
(cond v3
(G.di.L1 n aA (IntKind.wrap .i64 (fV+1)))
(some (false)))))
(some (true)))
def G.di (f:Nat) (aA:List lU):Option (Bool):=match f with
| 0=>none
| n+1 =>
(cond (decide (12<((aA.length:Nat):Int)))
(some (false))
(G.di.L1 n aA 0))
def G.gG.L1 (f:Nat) (aA:List lU) (fV:Int) (y6:Int) (y7:Int) (y8:aC) (y9:List aC) (zf:List af):Option (af × Int):=match f with
| 0=>none
| n+1 =>
(cond (decide (fV<((aA.length:Nat):Int)))
(chk (0<=fV/\fV<((aA.length:Nat):Int))
((G.lu n (af.mk y6 y7 y8 y9 zf) (lU.mk ((aA.getD fV.toNat default).Kind) ((aA.getD fV.toNat default).Path) ((aA.getD fV.toNat default).From) ((aA.getD fV.toNat default).Value))).bind fun v4 =>
(cond v4.2
(G.gG.L1 n aA (IntKind.wrap .i64 (fV+1)) v4.1.Kind v4.1.Num v4.1.Text v4.1.Names v4.1.Kids)
(some ((af.mk 0 0 [] [] []),fV)))))
(some ((af.mk y6 y7 y8 y9 zf),((aA.length:Nat):Int))))
def G.gG (f:Nat) (ag:af) (aA:List lU):Option (af × Int):=match f with
| 0=>none
| n+1 =>
((G.ax n ag).bind fun v1 =>
(G.gG.L1 n aA 0 v1.Kind v1.Num v1.Text v1.Names v1.Kids))
def G.jM (f:Nat) (ag:af) (aA:List lU):Option (af × Bool):=match f with
| 0=>none
| n+1 =>
((G.aH n ag).bind fun v1 =>
(cond v1
((G.di n aA).bind fun v2 =>
(cond v2
((G.gG n ag aA).bind fun v3 =>
(some (v3.1,(v3.2==((aA.length:Nat):Int)))))
(some ((af.mk 0 0 [] [] []),false))))
(some ((af.mk 0 0 [] [] []),false))))
def G.eH (f:Nat) (ah:aC) (Aw:Int):Option (Int):=match f with
| 0=>none
| n+1 =>
(some ((Go.Lib.indexByte ah Aw.toNat.toUInt8)))
def G.strings_IndexByte (f:Nat) (ah:aC) (Aw:Int):Option (Int):=match f with
| 0=>none
| n+1 =>
((G.eH n ah Aw).bind fun v1 =>
(some (v1)))
def G.jk.L1 (f:Nat) (ah:aC) (ak:Int):Option (Bool):=match f with
| 0=>none
| n+1 =>
(cond (decide (ak<((ah.length:Nat):Int)))
(chk (0<=ak/\ak<((ah.length:Nat):Int))
((G.strings_IndexByte n [48,49,50,51,52,53,54,55,56,57,97,98,99,100,101,102] (((ah.getD ak.toNat 0).toNat:Nat):Int)).bind fun v3 =>
(cond (decide (v3<0))
(some (false))
(G.jk.L1 n ah (IntKind.wrap .i64 (ak+1))))))
(some (true)))
def G.jk (f:Nat) (ah:aC):Option (Bool):=match f with
| 0=>none
| n+1 =>
(cond (((ah.length:Nat):Int) != 4)
(some (false))
(G.jk.L1 n ah 0))
def G.fG.L1 (f:Nat) (aA:List aC) (fV:Int):Option (Bool):=match f with
| 0=>none
| n+1 =>
(cond (decide (fV<((aA.length:Nat):Int)))
(chk (0<=fV/\fV<((aA.length:Nat):Int))
(cond ((aA.getD fV.toNat default)==[42])
(G.fG.L1 n aA (IntKind.wrap .i64 (fV+1)))
((G.jk n (aA.getD fV.toNat default)).bind fun v3 =>
(cond v3
(G.fG.L1 n aA (IntKind.wrap .i64 (fV+1)))
(some (false))))))
(some (true)))
def G.fG (f:Nat) (aA:List aC):Option (Bool):=match f with
| 0=>none
| n+1 =>
(cond (decide (4<((aA.length:Nat):Int)))
(some (false))
(G.fG.L1 n aA 0))
def G.slices_Index_string.L1 (f:Nat) (ah:List aC) (rC:aC) (fV:Int):Option (Int):=match f with
| 0=>none
| n+1 =>
(cond (decide (fV<((ah.length:Nat):Int)))
(chk (0<=fV/\fV<((ah.length:Nat):Int))
(cond (rC==(ah.getD fV.toNat default))
(some (fV))
(G.slices_Index_string.L1 n ah rC (IntKind.wrap .i64 (fV+1)))))
(some ((-1))))
def G.slices_Index_string (f:Nat) (ah:List aC) (rC:aC):Option (Int):=match f with
| 0=>none
| n+1 =>
(G.slices_Index_string.L1 n ah rC 0)
def G.slices_Contains_string (f:Nat) (ah:List aC) (rC:aC):Option (Bool):=match f with
| 0=>none
| n+1 =>
((G.slices_Index_string n ah rC).bind fun v1 =>
(some ((decide (0<=v1)))))
def G.jI (f:Nat) (aA:List aC) (jh:aC):Option (Bool):=match f with
| 0=>none
| n+1 =>
((G.slices_Contains_string n aA jh).bind fun v1 =>
(cond v1
(some (true))
((G.slices_Contains_string n aA [42]).bind fun v2 =>
(some (v2)))))
def G.gm.K1 (f:Nat) (og:List aC) (lJ:List aC) (jh:aC) (nC:Bool):Option (Int):=match f with
| 0=>none
| n+1 =>
(cond (decide (0<((og.length:Nat):Int)))
(cond (jh==[])
(some (412))
((G.jI n og jh).bind fun v4 =>
(cond v4
(cond (decide (0<((lJ.length:Nat):Int)))
((G.jI n lJ jh).bind fun v5 =>
(cond v5
(cond nC
(some (304))
(some (412)))
(some (200))))
(some (200)))
(some (412)))))
(cond (decide (0<((lJ.length:Nat):Int)))
(cond (jh==[])
(some (200))
((G.jI n lJ jh).bind fun v6 =>
(cond v6
(cond nC
(some (304))
(some (412)))
(some (200)))))
(some (200))))
def G.gm (f:Nat) (og:List aC) (lJ:List aC) (jh:aC) (nC:Bool):Option (Int):=match f with
| 0=>none
| n+1 =>
((G.fG n og).bind fun v7 =>
(cond v7
((G.fG n lJ).bind fun v8 =>
(cond v8
(cond (jh==[])
(G.gm.K1 n og lJ jh nC)
((G.jk n jh).bind fun v9 =>
(cond v9
(G.gm.K1 n og lJ jh nC)
(some (400)))))
(some (400))))
(some (400))))
def G.fK.L1 (f:Nat) (ah:aC) (ak:Int):Option (Bool):=match f with
| 0=>none
| n+1 =>
(cond (decide (ak<((ah.length:Nat):Int)))
(chk (0<=ak/\ak<((ah.length:Nat):Int))
(cond (decide ((((ah.getD ak.toNat 0).toNat:Nat):Int)<97))
(chk (0<=ak/\ak<((ah.length:Nat):Int))
(cond (decide ((((ah.getD ak.toNat 0).toNat:Nat):Int)<48))
(some (false))
(chk (0<=ak/\ak<((ah.length:Nat):Int))
(cond (decide (57<(((ah.getD ak.toNat 0).toNat:Nat):Int)))
(some (false))
(G.fK.L1 n ah (IntKind.wrap .i64 (ak+1)))))))
(chk (0<=ak/\ak<((ah.length:Nat):Int))
(cond (decide (122<(((ah.getD ak.toNat 0).toNat:Nat):Int)))
(chk (0<=ak/\ak<((ah.length:Nat):Int))
(cond (decide ((((ah.getD ak.toNat 0).toNat:Nat):Int)<48))
(some (false))
(chk (0<=ak/\ak<((ah.length:Nat):Int))
(cond (decide (57<(((ah.getD ak.toNat 0).toNat:Nat):Int)))
(some (false))
(G.fK.L1 n ah (IntKind.wrap .i64 (ak+1)))))))
(G.fK.L1 n ah (IntKind.wrap .i64 (ak+1)))))))
(some (true)))
def G.fK (f:Nat) (ah:aC):Option (Bool):=match f with
| 0=>none
| n+1 =>
(cond (ah==[])
(some (false))
(cond (decide (8<((ah.length:Nat):Int)))
(some (false))
(G.fK.L1 n ah 0)))
def G.aW.L1 (f:Nat) (ah:StoreT) (fV:Int):Option (Bool):=match f with
| 0=>none
| n+1 =>
(cond (decide (fV<((ah.Items.length:Nat):Int)))
(chk (0<=fV/\fV<((ah.Items.length:Nat):Int))
((G.fK n ((ah.Items.getD fV.toNat default).Name)).bind fun v6 =>
(cond v6
(cond (decide (0<fV))
(chk (0<=(IntKind.wrap .i64 (fV-1))/\(IntKind.wrap .i64 (fV-1))<((ah.Items.length:Nat):Int))
(cond (Op.bytesLess ((ah.Items.getD (IntKind.wrap .i64 (fV-1)).toNat default).Name) ((ah.Items.getD fV.toNat default).Name))
(cond (decide ((ah.Items.getD fV.toNat default).Version<1))
(some (false))
(cond (decide (ah.Clock<(ah.Items.getD fV.toNat default).Version))
(some (false))
((G.aH n ((ah.Items.getD fV.toNat default).Node)).bind fun v7 =>
(cond v7
(G.aW.L1 n ah (IntKind.wrap .i64 (fV+1)))
(some (false))))))
(some (false))))
(cond (decide ((ah.Items.getD fV.toNat default).Version<1))
(some (false))
(cond (decide (ah.Clock<(ah.Items.getD fV.toNat default).Version))
(some (false))
((G.aH n ((ah.Items.getD fV.toNat default).Node)).bind fun v8 =>
(cond v8
(G.aW.L1 n ah (IntKind.wrap .i64 (fV+1)))
(some (false)))))))
(some (false)))))
(some (true)))
def G.aW (f:Nat) (ah:StoreT):Option (Bool):=match f with
| 0=>none
| n+1 =>
(cond (decide (10<((ah.Items.length:Nat):Int)))
(some (false))
(cond (decide (ah.Clock<0))
(some (false))
(cond (decide (999<ah.Clock))
(some (false))
(G.aW.L1 n ah 0))))
def G.jV (f:Nat) (jF:aB):Option (aB):=match f with
| 0=>none
| n+1 =>
((G.ax n jF.Node).bind fun v1 =>
(some ((aB.mk jF.Name jF.Version v1))))
def G.bf.L1 (f:Nat) (ah:StoreT) (fV:Int) (z3:List aB):Option (StoreT):=match f with
| 0=>none
| n+1 =>
(cond (decide (fV<((ah.Items.length:Nat):Int)))
(chk (0<=fV/\fV<((ah.Items.length:Nat):Int))
((G.jV n (aB.mk ((ah.Items.getD fV.toNat default).Name) ((ah.Items.getD fV.toNat default).Version) ((ah.Items.getD fV.toNat default).Node))).bind fun v3 =>
(chk (0<=fV/\fV<((z3.length:Nat):Int))
(G.bf.L1 n ah (IntKind.wrap .i64 (fV+1)) (z3.set fV.toNat v3)))))
(some ((StoreT.mk z3 ah.Clock))))
def G.bf (f:Nat) (ah:StoreT):Option (StoreT):=match f with
| 0=>none
| n+1 =>
(cond (decide (0<((ah.Items.length:Nat):Int)))
(chk (0<=((ah.Items.length:Nat):Int)/\((ah.Items.length:Nat):Int)<=((ah.Items.length:Nat):Int)/\104*((ah.Items.length:Nat):Int)<=2^47/\((ah.Items.length:Nat):Int)<=2^47)
(G.bf.L1 n ah 0 (List.replicate ah.Items.length (aB.mk [] 0 (af.mk 0 0 [] [] [])))))
(some ((StoreT.mk [] ah.Clock))))
def G.jY (f:Nat) (jF:aB) (aJ:aC):Option (Int):=match f with
| 0=>none
| n+1 =>
((G.strings_Compare n jF.Name aJ).bind fun v1 =>
(some (v1)))
def G.aj.L1 (f:Nat) (kV:List aB) (jU:aC) (ak:Int) (yx:Int):Option (Int × Bool):=match f with
| 0=>none
| n+1 =>
(cond (decide (ak<yx))
(chk (0<=(IntKind.wrap .i64 ((Int.fdiv (IntKind.wrap .u64 ((IntKind.wrap .i64 (ak+yx)))) (2^(min 1 (IntKind.bits .u64))))))/\(IntKind.wrap .i64 ((Int.fdiv (IntKind.wrap .u64 ((IntKind.wrap .i64 (ak+yx)))) (2^(min 1 (IntKind.bits .u64))))))<((kV.length:Nat):Int))
((G.jY n (aB.mk ((kV.getD (IntKind.wrap .i64 ((Int.fdiv (IntKind.wrap .u64 ((IntKind.wrap .i64 (ak+yx)))) (2^(min 1 (IntKind.bits .u64)))))).toNat default).Name) ((kV.getD (IntKind.wrap .i64 ((Int.fdiv (IntKind.wrap .u64 ((IntKind.wrap .i64 (ak+yx)))) (2^(min 1 (IntKind.bits .u64)))))).toNat default).Version) ((kV.getD (IntKind.wrap .i64 ((Int.fdiv (IntKind.wrap .u64 ((IntKind.wrap .i64 (ak+yx)))) (2^(min 1 (IntKind.bits .u64)))))).toNat default).Node)) jU).bind fun v3 =>
(cond (decide (v3<0))
(G.aj.L1 n kV jU (IntKind.wrap .i64 ((IntKind.wrap .i64 ((Int.fdiv (IntKind.wrap .u64 ((IntKind.wrap .i64 (ak+yx)))) (2^(min 1 (IntKind.bits .u64))))))+1)) yx)
(G.aj.L1 n kV jU ak (IntKind.wrap .i64 ((Int.fdiv (IntKind.wrap .u64 ((IntKind.wrap .i64 (ak+yx)))) (2^(min 1 (IntKind.bits .u64))))))))))
(cond (decide (ak<((kV.length:Nat):Int)))
(chk (0<=ak/\ak<((kV.length:Nat):Int))
((G.jY n (aB.mk ((kV.getD ak.toNat default).Name) ((kV.getD ak.toNat default).Version) ((kV.getD ak.toNat default).Node)) jU).bind fun v4 =>
(some (ak,(v4==0)))))
(some (ak,false))))
def G.aj (f:Nat) (kV:List aB) (jU:aC):Option (Int × Bool):=match f with
| 0=>none
| n+1 =>
(G.aj.L1 n kV jU 0 ((kV.length:Nat):Int))
def G.ja (f:Nat) (oG:List aB) (aJ:aC):Option (Int × Bool):=match f with
| 0=>none
| n+1 =>
((G.aj n oG aJ).bind fun v1 =>
(some (v1.1,v1.2)))
def G.fM (f:Nat) (s:List aB) (i:Int) (j:Int):Option (List aB):=match f with
| 0=>none
| _+1=>chk (0<=i/\i<j/\j<=((s.length:Nat):Int)/\s.length*112<=2^46) (some (s.take i.toNat++s.drop j.toNat))
def G.kP (f:Nat) (ah:StoreT) (aJ:aC):Option (StoreT × Bool):=match f with
| 0=>none
| n+1 =>
((G.aW n ah).bind fun v1 =>
(cond v1
(cond (ah.Clock==999)
(some ((StoreT.mk [] 0),false))
((G.ja n ah.Items aJ).bind fun v2 =>
(cond v2.2
((G.bf n ah).bind fun v3 =>
((G.fM n v3.Items v2.1 (IntKind.wrap .i64 (v2.1+1))).bind fun v4 =>
(some ((StoreT.mk v4 (IntKind.wrap .i64 (v3.Clock+1))),true))))
(some ((StoreT.mk [] 0),false)))))
(some ((StoreT.mk [] 0),false))))
def G.aI (f:Nat) (b:dH) (c:Int):Option (Unit × dH):=match f with
| 0=>none
| _+1=>(chk ((0<=c/\c<256)/\b.buf.length+1<=140737488355328) (some ((),dH.mk (b.buf++[UInt8.ofNat c.toNat]))))
mutual
def G.bT.K4 (f:Nat) (ah:aC) (ak:Int) (z5:aC):Option (dH):=match f with
| 0=>none
| n+1 =>
(chk (0<=ak/\ak<((ah.length:Nat):Int))
((G.aI n (dH.mk z5) (((ah.getD ak.toNat 0).toNat:Nat):Int)).bind fun v14 =>
(G.bT.L3 n ah (IntKind.wrap .i64 (ak+1)) v14.2.buf)))
def G.bT.L3 (f:Nat) (ah:aC) (ak:Int) (z4:aC):Option (dH):=match f with
| 0=>none
| n+1 =>
(cond (decide (ak<((ah.length:Nat):Int)))
(chk (0<=ak/\ak<((ah.length:Nat):Int))
(cond ((((ah.getD ak.toNat 0).toNat:Nat):Int)==34)
((G.aI n (dH.mk z4) 92).bind fun v15 =>
(G.bT.K4 n ah ak v15.2.buf))
(chk (0<=ak/\ak<((ah.length:Nat):Int))
(cond ((((ah.getD ak.toNat 0).toNat:Nat):Int)==92)
((G.aI n (dH.mk z4) 92).bind fun v16 =>
(G.bT.K4 n ah ak v16.2.buf))
(G.bT.K4 n ah ak z4)))))
((G.aI n (dH.mk z4) 34).bind fun v17 =>
(some (v17.2))))
end
def G.bT (f:Nat) (qx:dH) (ah:aC):Option (dH):=match f with
| 0=>none
| n+1 =>
((G.aI n qx 34).bind fun v1 =>
(G.bT.L3 n ah 0 v1.2.buf))
def G.iM (f:Nat) (b:dH) (s:aC):Option (Int × Unit × dH):=match f with
| 0=>none
| _+1=>(chk (b.buf.length+s.length<=140737488355328) (some (((s.length:Nat):Int),(),dH.mk (b.buf++s))))
mutual
def G.aO.K4 (f:Nat) (ag:af) (fV:Int) (z4:aC):Option (dH):=match f with
| 0=>none
| n+1 =>
((G.aO n (dH.mk z4) (ag.Kids.getD fV.toNat default)).bind fun v11 =>
(G.aO.L3 n ag (IntKind.wrap .i64 (fV+1)) v11.buf))
def G.aO.L3 (f:Nat) (ag:af) (fV:Int) (z3:aC):Option (dH):=match f with
| 0=>none
| n+1 =>
(cond (decide (fV<((ag.Kids.length:Nat):Int)))
(chk (0<=fV/\fV<((ag.Kids.length:Nat):Int))
(cond (decide (0<fV))
((G.aI n (dH.mk z3) 44).bind fun v12 =>
(G.aO.K4 n ag fV v12.2.buf))
(G.aO.K4 n ag fV z3)))
((G.aI n (dH.mk z3) 93).bind fun v13 =>
(some (v13.2))))
def G.aO.K8 (f:Nat) (ag:af) (sV:Int) (z8:aC):Option (dH):=match f with
| 0=>none
| n+1 =>
(chk (0<=sV/\sV<((ag.Names.length:Nat):Int))
((G.bT n (dH.mk z8) (ag.Names.getD sV.toNat default)).bind fun v24 =>
((G.aI n v24 58).bind fun v25 =>
((G.aO n v25.2 (ag.Kids.getD sV.toNat default)).bind fun v26 =>
(G.aO.L7 n ag (IntKind.wrap .i64 (sV+1)) v26.buf)))))
def G.aO.L7 (f:Nat) (ag:af) (sV:Int) (z7:aC):Option (dH):=match f with
| 0=>none
| n+1 =>
(cond (decide (sV<((ag.Kids.length:Nat):Int)))
(chk (0<=sV/\sV<((ag.Kids.length:Nat):Int))
(cond (decide (0<sV))
((G.aI n (dH.mk z7) 44).bind fun v27 =>
(G.aO.K8 n ag sV v27.2.buf))
(G.aO.K8 n ag sV z7)))
((G.aI n (dH.mk z7) 125).bind fun v28 =>
(some (v28.2))))
def G.aO (f:Nat) (qx:dH) (ag:af):Option (dH):=match f with
| 0=>none
| n+1 =>
(cond (ag.Kind==0)
((G.iM n qx [110,117,108,108]).bind fun v1 =>
(some (v1.2.2)))
(cond (ag.Kind==1)
((G.strconv_Itoa n ag.Num).bind fun v2 =>
((G.iM n qx v2).bind fun v3 =>
(some (v3.2.2))))
(cond (ag.Kind==2)
((G.bT n qx ag.Text).bind fun v4 =>
(some (v4)))
(cond (ag.Kind==3)
((G.aI n qx 91).bind fun v5 =>
(G.aO.L3 n ag 0 v5.2.buf))
(cond (ag.Kind==4)
((G.aI n qx 123).bind fun v14 =>
(G.aO.L7 n ag 0 v14.2.buf))
(some (qx)))))))
end
def G.kU (f:Nat) (b:dH):Option aC:=match f with
| 0=>none
| _+1=>(chk (b.buf.length<=140737488355328) (some b.buf))
def G.jO (f:Nat) (ag:af):Option (aC):=match f with
| 0=>none
| n+1 =>
((G.aH n ag).bind fun v1 =>
(cond v1
((G.aO n (dH.mk []) ag).bind fun v2 =>
((G.kU n v2).bind fun v3 =>
(some (v3))))
(some ([]))))
def G.lC (f:Nat) (ah:StoreT) (aJ:aC):Option (aB × Bool):=match f with
| 0=>none
| n+1 =>
((G.aW n ah).bind fun v1 =>
(cond v1
((G.ja n ah.Items aJ).bind fun v2 =>
(cond v2.2
(chk (0<=v2.1/\v2.1<((ah.Items.length:Nat):Int))
((G.jV n (aB.mk ((ah.Items.getD v2.1.toNat default).Name) ((ah.Items.getD v2.1.toNat default).Version) ((ah.Items.getD v2.1.toNat default).Node))).bind fun v3 =>
(some (v3,true))))
(some ((aB.mk [] 0 (af.mk 0 0 [] [] [])),false))))
(some ((aB.mk [] 0 (af.mk 0 0 [] [] [])),false))))
def G.dM.L2 (f:Nat) (Jn:Int) (yZ:Int) (z3:List Int):Option (aC):=match f with
| 0=>none
| n+1 =>
(cond (decide (0<=yZ))
(chk (0<=(Int.tmod Jn 16)/\(Int.tmod Jn 16)<((16:Nat):Int))
(chk (0<=yZ/\yZ<((z3.length:Nat):Int))
(chk (0<=yZ/\yZ<4)
(G.dM.L2 n (IntKind.wrap .i64 (Int.tdiv Jn 16)) (IntKind.wrap .i64 (yZ-1)) (z3.set yZ.toNat (((([48,49,50,51,52,53,54,55,56,57,97,98,99,100,101,102]:aC).getD (Int.tmod Jn 16).toNat 0).toNat:Nat):Int))))))
(chk (z3.length=4)
(chk ((z3.take 4).length<=maxLen)
(some ((uC (z3.take 4)))))))
def G.dM.L1 (f:Nat) (ah:aC) (TV:Int) (ak:Int):Option (aC):=match f with
| 0=>none
| n+1 =>
(cond (decide (ak<((ah.length:Nat):Int)))
(chk (0<=ak/\ak<((ah.length:Nat):Int))
(G.dM.L1 n ah (Int.tmod (IntKind.wrap .i64 ((IntKind.wrap .i64 (131*TV))+(IntKind.wrap .i64 ((((ah.getD ak.toNat 0).toNat:Nat):Int))))) 65521) (IntKind.wrap .i64 (ak+1))))
(G.dM.L2 n TV 3 (List.replicate 4 0)))
def G.dM (f:Nat) (ah:aC):Option (aC):=match f with
| 0=>none
| n+1 =>
(G.dM.L1 n ah 17 0)
def G.lK (f:Nat) (ag:af):Option (aC):=match f with
| 0=>none
| n+1 =>
((G.aH n ag).bind fun v1 =>
(cond v1
((G.jO n ag).bind fun v2 =>
((G.dM n v2).bind fun v3 =>
(some (v3))))
(some ([]))))
def G.jP (f:Nat) (ah:StoreT) (bC:RequestT):Option (StoreT × bn):=match f with
| 0=>none
| n+1 =>
((G.kP n ah bC.Name).bind fun v1 =>
(cond v1.2
(some (v1.1,(bn.mk 200 [] v1.1.Clock (af.mk 0 0 [] [] []))))
((G.bf n ah).bind fun v2 =>
(some (v2,(bn.mk 422 [] 0 (af.mk 0 0 [] [] [])))))))
def G.fO (f:Nat) (s:List aB) (i:Int) (v:List aB):Option (List aB):=match f with
| 0=>none
| _+1=>chk (0<=i/\i<=((s.length:Nat):Int)/\v.length=1/\(s.length+1)*112<=2^46) (some (s.take i.toNat++v++s.drop i.toNat))
def G.mX (f:Nat) (oG:List aB) (jF:aB):Option (List aB):=match f with
| 0=>none
| n+1 =>
((G.ja n oG jF.Name).bind fun v1 =>
(cond v1.2
(chk (0<=v1.1/\v1.1<((oG.length:Nat):Int))
(some ((oG.set v1.1.toNat jF))))
((G.fO n oG v1.1 [jF]).bind fun v2 =>
(some (v2)))))
def G.lD (f:Nat) (ah:StoreT) (aJ:aC) (ag:af):Option (StoreT × Bool):=match f with
| 0=>none
| n+1 =>
((G.aW n ah).bind fun v1 =>
(cond v1
((G.fK n aJ).bind fun v2 =>
(cond v2
((G.aH n ag).bind fun v3 =>
(cond v3
((G.bf n ah).bind fun v4 =>
((G.ax n ag).bind fun v5 =>
((G.mX n v4.Items (aB.mk aJ (IntKind.wrap .i64 (v4.Clock+1)) v5)).bind fun v6 =>
((G.aW n (StoreT.mk v6 (IntKind.wrap .i64 (v4.Clock+1)))).bind fun v7 =>
(cond v7
(some ((StoreT.mk v6 (IntKind.wrap .i64 (v4.Clock+1))),true))
(some ((StoreT.mk [] 0),false)))))))
(some ((StoreT.mk [] 0),false))))
(some ((StoreT.mk [] 0),false))))
(some ((StoreT.mk [] 0),false))))
def G.lM (f:Nat) (pq:af) (aJ:aC):Option (af):=match f with
| 0=>none
| n+1 =>
((G.slices_BinarySearch_string n pq.Names aJ).bind fun v1 =>
(cond v1.2
((G.slices_Delete_string n pq.Names v1.1 (IntKind.wrap .i64 (v1.1+1))).bind fun v2 =>
((G.bW n pq.Kids v1.1 (IntKind.wrap .i64 (v1.1+1))).bind fun v3 =>
(some ((af.mk pq.Kind pq.Num pq.Text v2 v3)))))
(some (pq))))
mutual
def G.aT.K5 (f:Nat) (aS:af) (fV:Int) (Qr:Int) (U7:Int) (Vu:aC) (z5:List aC) (z6:List af) (y20:Int) (y21:Int) (y22:aC) (y23:List aC) (y24:List af):Option (af):=match f with
| 0=>none
| n+1 =>
(chk (0<=fV/\fV<((aS.Kids.length:Nat):Int))
((G.aT n (af.mk y20 y21 y22 y23 y24) (aS.Kids.getD fV.toNat default)).bind fun v15 =>
((G.jD n (af.mk Qr U7 Vu z5 z6) (aS.Names.getD fV.toNat default) v15).bind fun v16 =>
(G.aT.L4 n aS (IntKind.wrap .i64 (fV+1)) v16.Kind v16.Num v16.Text v16.Names v16.Kids))))
def G.aT.L4 (f:Nat) (aS:af) (fV:Int) (Qr:Int) (U7:Int) (Vu:aC) (z5:List aC) (z6:List af):Option (af):=match f with
| 0=>none
| n+1 =>
(cond (decide (fV<((aS.Names.length:Nat):Int)))
(chk (0<=fV/\fV<((aS.Names.length:Nat):Int))
(chk (0<=fV/\fV<((aS.Kids.length:Nat):Int))
(cond ((aS.Kids.getD fV.toNat default).Kind==0)
((G.lM n (af.mk Qr U7 Vu z5 z6) (aS.Names.getD fV.toNat default)).bind fun v13 =>
(G.aT.L4 n aS (IntKind.wrap .i64 (fV+1)) v13.Kind v13.Num v13.Text v13.Names v13.Kids))
((G.slices_BinarySearch_string n z5 (aS.Names.getD fV.toNat default)).bind fun v17 =>
(cond v17.2
(chk (0<=v17.1/\v17.1<((z6.length:Nat):Int))
(G.aT.K5 n aS fV Qr U7 Vu z5 z6 ((z6.getD v17.1.toNat default).Kind) ((z6.getD v17.1.toNat default).Num) ((z6.getD v17.1.toNat default).Text) ((z6.getD v17.1.toNat default).Names) ((z6.getD v17.1.toNat default).Kids)))
(G.aT.K5 n aS fV Qr U7 Vu z5 z6 0 0 [] [] []))))))
(some ((af.mk Qr U7 Vu z5 z6))))
def G.aT.K1 (f:Nat) (aS:af) (y1:Int) (y2:Int) (y3:aC) (z1:List aC) (z2:List af):Option (af):=match f with
| 0=>none
| n+1 =>
(G.aT.L4 n aS 0 y1 y2 y3 z1 z2)
def G.aT (f:Nat) (ag:af) (aS:af):Option (af):=match f with
| 0=>none
| n+1 =>
(cond (aS.Kind != 4)
((G.ax n aS).bind fun v1 =>
(some (v1)))
(cond (ag.Kind==4)
((G.ax n ag).bind fun v18 =>
(G.aT.K1 n aS v18.Kind v18.Num v18.Text v18.Names v18.Kids))
(G.aT.K1 n aS 4 0 [] [] [])))
end
def G.jZ (f:Nat) (ag:af) (aS:af):Option (af × Bool):=match f with
| 0=>none
| n+1 =>
((G.aH n ag).bind fun v1 =>
(cond v1
((G.aH n aS).bind fun v2 =>
(cond v2
((G.aT n ag aS).bind fun v3 =>
((G.jC n v3 true).bind fun v4 =>
(some (v4.1,v4.2))))
(some ((af.mk 0 0 [] [] []),false))))
(some ((af.mk 0 0 [] [] []),false))))
def G.lG (f:Nat) (tq:af) (bC:RequestT):Option (af × Bool):=match f with
| 0=>none
| n+1 =>
(cond (bC.Method==4)
((G.jM n tq bC.Ops).bind fun v1 =>
(some (v1.1,v1.2)))
(cond (bC.Method==5)
((G.jZ n tq bC.Body).bind fun v2 =>
(some (v2.1,v2.2)))
(some (bC.Body,true))))
def G.iT (f:Nat) (ah:StoreT) (bC:RequestT) (tq:af) (xN:Bool):Option (StoreT × bn):=match f with
| 0=>none
| n+1 =>
((G.lG n tq bC).bind fun v1 =>
(cond v1.2
((G.lD n ah bC.Name v1.1).bind fun v2 =>
(cond v2.2
((G.lK n v1.1).bind fun v3 =>
(cond xN
(some (v2.1,(bn.mk 200 v3 v2.1.Clock (af.mk 0 0 [] [] []))))
(some (v2.1,(bn.mk 201 v3 v2.1.Clock (af.mk 0 0 [] [] []))))))
((G.bf n ah).bind fun v4 =>
(some (v4,(bn.mk 422 [] 0 (af.mk 0 0 [] [] [])))))))
((G.bf n ah).bind fun v5 =>
(some (v5,(bn.mk 422 [] 0 (af.mk 0 0 [] [] [])))))))
def G.kz (f:Nat) (bC:RequestT):Option (Bool):=match f with
| 0=>none
| n+1 =>
(cond (decide (1<=bC.Method))
(cond (decide (bC.Method<=5))
((G.fK n bC.Name).bind fun v1 =>
(cond v1
((G.fG n bC.Want).bind fun v2 =>
(cond v2
((G.fG n bC.l7).bind fun v3 =>
(cond v3
((G.aH n bC.Body).bind fun v4 =>
(cond v4
((G.di n bC.Ops).bind fun v5 =>
(some (v5)))
(some (false))))
(some (false))))
(some (false))))
(some (false))))
(some (false)))
(some (false)))
def G.bz.K1 (f:Nat) (ah:StoreT) (bC:RequestT) (v3:aB × Bool) (TW:aC):Option (StoreT × bn):=match f with
| 0=>none
| n+1 =>
((G.gm n bC.Want bC.l7 TW (bC.Method==1)).bind fun v5 =>
(cond (v5 != 200)
((G.bf n ah).bind fun v6 =>
(some (v6,(bn.mk v5 [] 0 (af.mk 0 0 [] [] [])))))
(cond (bC.Method==1)
((G.bf n ah).bind fun v7 =>
(some (v7,(bn.mk 200 TW v3.1.Version v3.1.Node))))
(cond (bC.Method==3)
((G.jP n ah bC).bind fun v8 =>
(some (v8.1,v8.2)))
((G.iT n ah bC v3.1.Node true).bind fun v9 =>
(some (v9.1,v9.2)))))))
def G.bz.K2 (f:Nat) (ah:StoreT) (bC:RequestT) (v3:aB × Bool):Option (StoreT × bn):=match f with
| 0=>none
| n+1 =>
((G.gm n bC.Want bC.l7 [] (bC.Method==1)).bind fun v12 =>
(cond (v12 != 200)
((G.bf n ah).bind fun v13 =>
(some (v13,(bn.mk v12 [] 0 (af.mk 0 0 [] [] [])))))
(cond (bC.Method==1)
((G.bf n ah).bind fun v14 =>
(some (v14,(bn.mk 200 [] v3.1.Version v3.1.Node))))
(cond (bC.Method==3)
((G.jP n ah bC).bind fun v15 =>
(some (v15.1,v15.2)))
((G.iT n ah bC v3.1.Node false).bind fun v16 =>
(some (v16.1,v16.2)))))))
def G.bz (f:Nat) (ah:StoreT) (bC:RequestT):Option (StoreT × bn):=match f with
| 0=>none
| n+1 =>
((G.aW n ah).bind fun v1 =>
(cond v1
((G.kz n bC).bind fun v2 =>
(cond v2
((G.lC n ah bC.Name).bind fun v3 =>
(cond v3.2
((G.lK n v3.1.Node).bind fun v10 =>
(G.bz.K1 n ah bC v3 v10))
(cond (bC.Method != 2)
((G.bf n ah).bind fun v11 =>
(some (v11,(bn.mk 404 [] 0 (af.mk 0 0 [] [] [])))))
(G.bz.K2 n ah bC v3))))
(some ((StoreT.mk [] 0),(bn.mk 400 [] 0 (af.mk 0 0 [] [] []))))))
(some ((StoreT.mk [] 0),(bn.mk 400 [] 0 (af.mk 0 0 [] [] []))))))
def G.YT (f:Nat) (vO:Int):Option (Bool):=match f with
| 0=>none
| n+1 =>
(cond (vO==200)
(some (true))
(some ((vO==201))))
def G.YP (f:Nat) (ah:StoreT) (bC:RequestT):Option (Bool):=match f with
| 0=>none
| n+1 =>
((G.bz n ah bC).bind fun v1 =>
((G.YT n v1.2.Status).bind fun v2 =>
(some (v2))))
def G.eu.L1 (f:Nat) (dF:List aC) (dI:List aC) (ak:Int):Option (Bool):=match f with
| 0=>none
| n+1 =>
(cond (decide (ak<((dF.length:Nat):Int)))
(chk (0<=ak/\ak<((dF.length:Nat):Int))
(chk (0<=ak/\ak<((dI.length:Nat):Int))
(cond ((dF.getD ak.toNat default)==(dI.getD ak.toNat default))
(G.eu.L1 n dF dI (IntKind.wrap .i64 (ak+1)))
(some (false)))))
(some (true)))
def G.eu (f:Nat) (dF:List aC) (dI:List aC):Option (Bool):=match f with
| 0=>none
| n+1 =>
(cond (((dF.length:Nat):Int) != ((dI.length:Nat):Int))
(some (false))
(G.eu.L1 n dF dI 0))
mutual
def G.gU (f:Nat) (dF:af) (dI:af):Option (Bool):=match f with
| 0=>none
| n+1 =>
(cond (dF.Kind==dI.Kind)
(cond (dF.Num==dI.Num)
(cond (dF.Text==dI.Text)
((G.eu n dF.Names dI.Names).bind fun v1 =>
(cond v1
((G.fQ n dF.Kids dI.Kids).bind fun v2 =>
(some (v2)))
(some (false))))
(some (false)))
(some (false)))
(some (false)))
def G.fQ.L1 (f:Nat) (dF:List af) (dI:List af) (ak:Int):Option (Bool):=match f with
| 0=>none
| n+1 =>
(cond (decide (ak<((dF.length:Nat):Int)))
(chk (0<=ak/\ak<((dF.length:Nat):Int))
(chk (0<=ak/\ak<((dI.length:Nat):Int))
((G.gU n (dF.getD ak.toNat default) (dI.getD ak.toNat default)).bind fun v3 =>
(cond v3
(G.fQ.L1 n dF dI (IntKind.wrap .i64 (ak+1)))
(some (false))))))
(some (true)))
def G.fQ (f:Nat) (dF:List af) (dI:List af):Option (Bool):=match f with
| 0=>none
| n+1 =>
(cond (((dF.length:Nat):Int) != ((dI.length:Nat):Int))
(some (false))
(G.fQ.L1 n dF dI 0))
end
def G.iF (f:Nat) (dF:bn) (dI:bn):Option (Bool):=match f with
| 0=>none
| n+1 =>
(cond (dF.Status==dI.Status)
(cond (dF.Tag==dI.Tag)
(cond (dF.Version==dI.Version)
((G.gU n dF.Body dI.Body).bind fun v1 =>
(some (v1)))
(some (false)))
(some (false)))
(some (false)))
def G.gI.L1 (f:Nat) (dF:List aB) (dI:List aB) (ak:Int):Option (Bool):=match f with
| 0=>none
| n+1 =>
(cond (decide (ak<((dF.length:Nat):Int)))
(chk (0<=ak/\ak<((dF.length:Nat):Int))
(chk (0<=ak/\ak<((dI.length:Nat):Int))
(cond ((dF.getD ak.toNat default).Name==(dI.getD ak.toNat default).Name)
(chk (0<=ak/\ak<((dF.length:Nat):Int))
(chk (0<=ak/\ak<((dI.length:Nat):Int))
(cond ((dF.getD ak.toNat default).Version != (dI.getD ak.toNat default).Version)
(some (false))
(chk (0<=ak/\ak<((dF.length:Nat):Int))
(chk (0<=ak/\ak<((dI.length:Nat):Int))
((G.gU n ((dF.getD ak.toNat default).Node) ((dI.getD ak.toNat default).Node)).bind fun v3 =>
(cond v3
(G.gI.L1 n dF dI (IntKind.wrap .i64 (ak+1)))
(some (false)))))))))
(some (false)))))
(some (true)))
def G.gI (f:Nat) (dF:List aB) (dI:List aB):Option (Bool):=match f with
| 0=>none
| n+1 =>
(cond (((dF.length:Nat):Int) != ((dI.length:Nat):Int))
(some (false))
(G.gI.L1 n dF dI 0))
def G.iy (f:Nat) (dF:StoreT) (dI:StoreT):Option (Bool):=match f with
| 0=>none
| n+1 =>
(cond (dF.Clock==dI.Clock)
((G.gI n dF.Items dI.Items).bind fun v1 =>
(some (v1)))
(some (false)))
mutual
def G.au.L1 (f:Nat) (ag:af) (ak:Int) (z2:List af):Option (af):=match f with
| 0=>none
| n+1 =>
(cond (decide (ak<((ag.Kids.length:Nat):Int)))
(chk (0<=ak/\ak<((ag.Kids.length:Nat):Int))
((G.au n (ag.Kids.getD ak.toNat default)).bind fun v3 =>
(chk ((z2.length+1)*86<=2^46)
(G.au.L1 n ag (IntKind.wrap .i64 (ak+1)) (z2++[v3])))))
(chk (ag.Names.length*18<=2^46)
(some ((af.mk ag.Kind ag.Num ag.Text ag.Names z2)))))
def G.au (f:Nat) (ag:af):Option (af):=match f with
| 0=>none
| n+1 =>
(G.au.L1 n ag 0 [])
end
def G.ay (f:Nat) (bQ:ReaderT) (ag:Int):Option (Int × ReaderT):=match f with
| 0=>none
| n+1 =>
(cond (decide (ag<1))
(some (0,(ReaderT.mk bQ.b (IntKind.wrap .i64 (bQ.p+1)))))
(cond (((bQ.b.length:Nat):Int)==0)
(some (0,(ReaderT.mk bQ.b (IntKind.wrap .i64 (bQ.p+1)))))
(cond (decide ((IntKind.wrap .i64 ((IntKind.wrap .i64 (bQ.p+1))-1))<((bQ.b.length:Nat):Int)))
(chk (0<=(IntKind.wrap .i64 ((IntKind.wrap .i64 (bQ.p+1))-1))/\(IntKind.wrap .i64 ((IntKind.wrap .i64 (bQ.p+1))-1))<((bQ.b.length:Nat):Int))
(chk (ag ≠ 0)
(some ((Int.tmod (IntKind.wrap .i64 ((bQ.b.getD (IntKind.wrap .i64 ((IntKind.wrap .i64 (bQ.p+1))-1)).toNat default))) ag),(ReaderT.mk bQ.b (IntKind.wrap .i64 (bQ.p+1)))))))
(chk (((bQ.b.length:Nat):Int) ≠ 0)
(chk (0<=(Int.tmod (IntKind.wrap .i64 ((IntKind.wrap .i64 (bQ.p+1))-1)) ((bQ.b.length:Nat):Int))/\(Int.tmod (IntKind.wrap .i64 ((IntKind.wrap .i64 (bQ.p+1))-1)) ((bQ.b.length:Nat):Int))<((bQ.b.length:Nat):Int))
(chk (((bQ.b.length:Nat):Int) ≠ 0)
(chk (0<=(Int.tmod (IntKind.wrap .i64 ((IntKind.wrap .i64 ((IntKind.wrap .i64 ((IntKind.wrap .i64 (bQ.p+1))-1))*7))+3)) ((bQ.b.length:Nat):Int))/\(Int.tmod (IntKind.wrap .i64 ((IntKind.wrap .i64 ((IntKind.wrap .i64 ((IntKind.wrap .i64 (bQ.p+1))-1))*7))+3)) ((bQ.b.length:Nat):Int))<((bQ.b.length:Nat):Int))
(chk (((bQ.b.length:Nat):Int) ≠ 0)
(chk (ag ≠ 0)
(some ((Int.tmod (IntKind.wrap .i64 (((BitVec.ofInt (IntKind.bits .i64) (IntKind.wrap .i64 ((IntKind.wrap .i64 ((IntKind.wrap .i64 ((IntKind.wrap .i64 ((IntKind.wrap .i64 ((bQ.b.getD (Int.tmod (IntKind.wrap .i64 ((IntKind.wrap .i64 (bQ.p+1))-1)) ((bQ.b.length:Nat):Int)).toNat default)))*131))+(IntKind.wrap .i64 ((IntKind.wrap .i64 ((bQ.b.getD (Int.tmod (IntKind.wrap .i64 ((IntKind.wrap .i64 ((IntKind.wrap .i64 ((IntKind.wrap .i64 (bQ.p+1))-1))*7))+3)) ((bQ.b.length:Nat):Int)).toNat default)))*1117))))+(IntKind.wrap .i64 ((IntKind.wrap .i64 ((IntKind.wrap .i64 (bQ.p+1))-1))*29))))+(IntKind.wrap .i64 ((IntKind.wrap .i64 (Int.tdiv (IntKind.wrap .i64 ((IntKind.wrap .i64 (bQ.p+1))-1)) ((bQ.b.length:Nat):Int)))*53)))) ^^^ BitVec.ofInt (IntKind.bits .i64) (IntKind.wrap .i64 (Int.tdiv (IntKind.wrap .i64 ((IntKind.wrap .i64 ((IntKind.wrap .i64 ((IntKind.wrap .i64 ((IntKind.wrap .i64 ((bQ.b.getD (Int.tmod (IntKind.wrap .i64 ((IntKind.wrap .i64 (bQ.p+1))-1)) ((bQ.b.length:Nat):Int)).toNat default)))*131))+(IntKind.wrap .i64 ((IntKind.wrap .i64 ((bQ.b.getD (Int.tmod (IntKind.wrap .i64 ((IntKind.wrap .i64 ((IntKind.wrap .i64 ((IntKind.wrap .i64 (bQ.p+1))-1))*7))+3)) ((bQ.b.length:Nat):Int)).toNat default)))*1117))))+(IntKind.wrap .i64 ((IntKind.wrap .i64 ((IntKind.wrap .i64 (bQ.p+1))-1))*29))))+(IntKind.wrap .i64 ((IntKind.wrap .i64 (Int.tdiv (IntKind.wrap .i64 ((IntKind.wrap .i64 (bQ.p+1))-1)) ((bQ.b.length:Nat):Int)))*53)))) 64))).toNat:Int))) ag),(ReaderT.mk bQ.b (IntKind.wrap .i64 (bQ.p+1))))))))))))))
def G.bZ (f:Nat) (bQ:ReaderT) (aA:List Int):Option (Int × ReaderT):=match f with
| 0=>none
| n+1 =>
((G.ay n bQ ((aA.length:Nat):Int)).bind fun v1 =>
(chk (0<=v1.1/\v1.1<((aA.length:Nat):Int))
(some ((aA.getD v1.1.toNat default),v1.2))))
mutual
def G.gB (f:Nat) (ag:Int):Option (aC):=match f with
| 0=>none
| n+1 =>
(cond (decide (ag<0))
(cond (ag==(IntKind.wrap .i64 (0-ag)))
(some ([45,57,50,50,51,51,55,50,48,51,54,56,53,52,55,55,53,56,48,56]))
((G.gB n (IntKind.wrap .i64 (0-ag))).bind fun v1 =>
(chk (1+v1.length<=maxLen)
(some (([45]++v1))))))
(cond (decide (ag<10))
(chk (1<=maxLen)
(some ([UInt8.ofNat (IntKind.wrap .u8 ((IntKind.wrap .i64 (48+ag)))).toNat])))
((G.gB n (IntKind.wrap .i64 (Int.tdiv ag 10))).bind fun v2 =>
(chk (1<=maxLen)
(chk (v2.length+1<=maxLen)
(some ((v2++[UInt8.ofNat (IntKind.wrap .u8 ((IntKind.wrap .i64 (48+(Int.tmod ag 10))))).toNat]))))))))
end
def G.dD.L1 (f:Nat) (ag:af) (dZ:aC) (ak:Int):Option (Int):=match f with
| 0=>none
| n+1 =>
(cond (decide (ak<((ag.Kids.length:Nat):Int)))
(cond (ag.Kind==4)
(chk (0<=ak/\ak<((ag.Names.length:Nat):Int))
(cond ((ag.Names.getD ak.toNat default)==dZ)
(some (ak))
(cond (ag.Kind==3)
((G.gB n ak).bind fun v5 =>
(cond (v5==dZ)
(some (ak))
(G.dD.L1 n ag dZ (IntKind.wrap .i64 (ak+1)))))
(G.dD.L1 n ag dZ (IntKind.wrap .i64 (ak+1))))))
(cond (ag.Kind==3)
((G.gB n ak).bind fun v6 =>
(cond (v6==dZ)
(some (ak))
(G.dD.L1 n ag dZ (IntKind.wrap .i64 (ak+1)))))
(G.dD.L1 n ag dZ (IntKind.wrap .i64 (ak+1)))))
(some ((-1))))
def G.dD (f:Nat) (ag:af) (dZ:aC):Option (Int):=match f with
| 0=>none
| n+1 =>
(G.dD.L1 n ag dZ 0)
def G.ig.L1 (f:Nat) (ag:af) (dZ:aC) (ak:Int):Option (Int × Bool):=match f with
| 0=>none
| n+1 =>
(cond (ag.Kind==4)
(cond (decide (ak<=((ag.Kids.length:Nat):Int)))
(cond (ak==((ag.Kids.length:Nat):Int))
(some (ak,false))
(chk (0<=ak/\ak<((ag.Names.length:Nat):Int))
(cond (Op.bytesLess dZ (ag.Names.getD ak.toNat default))
(some (ak,false))
(G.ig.L1 n ag dZ (IntKind.wrap .i64 (ak+1))))))
(some ((-1),false)))
(some ((-1),false)))
def G.ig.L2 (f:Nat) (ag:af) (dZ:aC) (yZ:Int):Option (Int × Bool):=match f with
| 0=>none
| n+1 =>
(cond (ag.Kind==4)
(cond (decide (yZ<=((ag.Kids.length:Nat):Int)))
(cond (yZ==((ag.Kids.length:Nat):Int))
(some (yZ,false))
(chk (0<=yZ/\yZ<((ag.Names.length:Nat):Int))
(cond (Op.bytesLess dZ (ag.Names.getD yZ.toNat default))
(some (yZ,false))
(G.ig.L2 n ag dZ (IntKind.wrap .i64 (yZ+1))))))
(some ((-1),false)))
(some ((-1),false)))
def G.ig (f:Nat) (ag:af) (dZ:aC):Option (Int × Bool):=match f with
| 0=>none
| n+1 =>
((G.dD n ag dZ).bind fun v1 =>
(cond (decide (0<=v1))
(some (v1,(ag.Kind==4)))
(cond (ag.Kind==3)
(cond (dZ==[45])
(some (((ag.Kids.length:Nat):Int),false))
((G.gB n ((ag.Kids.length:Nat):Int)).bind fun v2 =>
(cond (dZ==v2)
(some (((ag.Kids.length:Nat):Int),false))
(G.ig.L1 n ag dZ 0))))
(G.ig.L2 n ag dZ 0))))
def G.iL (f:Nat) (ag:af) (Ez:Int) (wR:af):Option (af):=match f with
| 0=>none
| n+1 =>
((G.au n ag).bind fun v1 =>
((G.au n wR).bind fun v2 =>
(chk (0<=Ez/\Ez<((v1.Kids.length:Nat):Int))
(some ((af.mk v1.Kind v1.Num v1.Text v1.Names (v1.Kids.set Ez.toNat v2)))))))
def G.gZ (f:Nat) (ag:af) (dZ:aC) (bU:af):Option (af × Bool):=match f with
| 0=>none
| n+1 =>
((G.ig n ag dZ).bind fun v1 =>
(cond (decide (v1.1<0))
(some ((af.mk 0 0 [] [] []),false))
(cond v1.2
((G.iL n ag v1.1 bU).bind fun v2 =>
(some (v2,true)))
((G.au n ag).bind fun v3 =>
(chk (0<=0/\0<=v1.1/\v1.1<=((v3.Kids.length:Nat):Int))
(chk (((v3.Kids.take v1.1.toNat).length)*86<=2^46)
((G.au n bU).bind fun v4 =>
(chk (((v3.Kids.take v1.1.toNat).length+1)*86<=2^46)
(chk (0<=v1.1/\v1.1<=((v3.Kids.length:Nat):Int)/\((v3.Kids.length:Nat):Int)<=((v3.Kids.length:Nat):Int))
(chk ((((v3.Kids.take v1.1.toNat).length+1)+(v3.Kids.drop v1.1.toNat).length)*86<=2^46)
(cond (ag.Kind==3)
(some ((af.mk ag.Kind 0 [] [] (((v3.Kids.take v1.1.toNat)++[v4])++(v3.Kids.drop v1.1.toNat))),true))
(chk (0<=0/\0<=v1.1/\v1.1<=((v3.Names.length:Nat):Int))
(chk (((v3.Names.take v1.1.toNat).length)*18<=2^46)
(chk (((v3.Names.take v1.1.toNat).length+1)*18<=2^46)
(chk (0<=v1.1/\v1.1<=((v3.Names.length:Nat):Int)/\((v3.Names.length:Nat):Int)<=((v3.Names.length:Nat):Int))
(chk ((((v3.Names.take v1.1.toNat).length+1)+(v3.Names.drop v1.1.toNat).length)*18<=2^46)
(some ((af.mk ag.Kind 0 [] (((v3.Names.take v1.1.toNat)++[dZ])++(v3.Names.drop v1.1.toNat)) (((v3.Kids.take v1.1.toNat)++[v4])++(v3.Kids.drop v1.1.toNat))),true))))))))))))))))))
def G.dN (f:Nat) (bQ:ReaderT) (aA:List aC):Option (aC × ReaderT):=match f with
| 0=>none
| n+1 =>
((G.ay n bQ ((aA.length:Nat):Int)).bind fun v1 =>
(chk (0<=v1.1/\v1.1<((aA.length:Nat):Int))
(some ((aA.getD v1.1.toNat default),v1.2))))
def G.lq (f:Nat) (bQ:ReaderT):Option (aC × ReaderT):=match f with
| 0=>none
| n+1 =>
((G.dN n bQ [[97],[98],[],[97,98,99],[97,47,98],[126],[120,32,121],[34,113,34],[98,97,99,107,92,115],[48],[49],[97,98,99,100,101,102,103,104,105,106,107,108]]).bind fun v1 =>
(some (v1.1,v1.2)))
def G.lg (f:Nat) (bQ:ReaderT):Option (aC × ReaderT):=match f with
| 0=>none
| n+1 =>
((G.dN n bQ [[97],[98],[99],[100],[97,47,98],[126,120],[],[107]]).bind fun v1 =>
(some (v1.1,v1.2)))
mutual
def G.bY.L1 (f:Nat) (aY:Int) (uP:Int) (y8:List Int) (y9:Int) (zf:Int) (Lc:Int) (Ld:aC) (y13:List aC) (Hq:List af):Option (af × ReaderT):=match f with
| 0=>none
| n+1 =>
(cond (decide (0<uP))
((G.lg n (ReaderT.mk y8 y9)).bind fun v10 =>
((G.aK n v10.2 (IntKind.wrap .i64 (aY-1))).bind fun v11 =>
((G.dD n (af.mk zf Lc Ld y13 Hq) v10.1).bind fun v12 =>
(cond (decide (v12<0))
((G.gZ n (af.mk zf Lc Ld y13 Hq) v10.1 v11.1).bind fun v13 =>
(G.bY.L1 n aY (IntKind.wrap .i64 (uP-1)) v11.2.b v11.2.p v13.1.Kind v13.1.Num v13.1.Text v13.1.Names v13.1.Kids))
(G.bY.L1 n aY (IntKind.wrap .i64 (uP-1)) v11.2.b v11.2.p zf Lc Ld y13 Hq)))))
(some ((af.mk zf Lc Ld y13 Hq),(ReaderT.mk y8 y9))))
def G.bY (f:Nat) (bQ:ReaderT) (aY:Int):Option (af × ReaderT):=match f with
| 0=>none
| n+1 =>
((G.bZ n bQ [2,3,1,0,4]).bind fun v1 =>
(G.bY.L1 n aY v1.1 v1.2.b v1.2.p 4 0 [] [] []))
def G.aK.L2 (f:Nat) (aY:Int) (sO:Int) (uP:Int) (y5:List Int) (y6:Int) (z2:List af):Option (af × ReaderT):=match f with
| 0=>none
| n+1 =>
(cond (decide (0<uP))
((G.aK n (ReaderT.mk y5 y6) (IntKind.wrap .i64 (aY-1))).bind fun v9 =>
(chk ((z2.length+1)*86<=2^46)
(G.aK.L2 n aY sO (IntKind.wrap .i64 (uP-1)) v9.2.b v9.2.p (z2++[v9.1]))))
(some ((af.mk sO 0 [] [] z2),(ReaderT.mk y5 y6))))
def G.aK.K1 (f:Nat) (aY:Int) (sO:Int) (y1:List Int) (y2:Int):Option (af × ReaderT):=match f with
| 0=>none
| n+1 =>
(cond (sO==1)
((G.ay n (ReaderT.mk y1 y2) 250).bind fun v3 =>
((G.bZ n v3.2 [0,1,2,7,(-7),999999,(-999999),v3.1]).bind fun v4 =>
(some ((af.mk sO v4.1 [] [] []),v4.2))))
(cond (sO==2)
((G.lq n (ReaderT.mk y1 y2)).bind fun v5 =>
(some ((af.mk sO 0 v5.1 [] []),v5.2)))
(cond (sO==3)
((G.ay n (ReaderT.mk y1 y2) 4).bind fun v6 =>
(G.aK.L2 n aY sO v6.1 v6.2.b v6.2.p []))
(cond (sO==4)
((G.bY n (ReaderT.mk y1 y2) aY).bind fun v10 =>
(some (v10.1,v10.2)))
(some ((af.mk 0 0 [] [] []),(ReaderT.mk y1 y2)))))))
def G.aK (f:Nat) (bQ:ReaderT) (aY:Int):Option (af × ReaderT):=match f with
| 0=>none
| n+1 =>
((G.ay n bQ 5).bind fun v1 =>
(cond (decide (aY<=1))
((G.ay n v1.2 3).bind fun v11 =>
(G.aK.K1 n aY v11.1 v11.2.b v11.2.p))
(G.aK.K1 n aY v1.1 v1.2.b v1.2.p)))
end
mutual
def G.iV.L1 (f:Nat) (ag:af) (Xe:Int) (ak:Int):Option (Int):=match f with
| 0=>none
| n+1 =>
(cond (decide (ak<((ag.Kids.length:Nat):Int)))
(chk (0<=ak/\ak<((ag.Kids.length:Nat):Int))
((G.iV n (ag.Kids.getD ak.toNat default)).bind fun v3 =>
(G.iV.L1 n ag (IntKind.wrap .i64 (Xe+v3)) (IntKind.wrap .i64 (ak+1)))))
(some (Xe)))
def G.iV (f:Nat) (ag:af):Option (Int):=match f with
| 0=>none
| n+1 =>
(G.iV.L1 n ag 1 0)
end
def G.cZ (f:Nat) (ag:Int) (EC:Int) (Az:Int):Option (Bool):=match f with
| 0=>none
| n+1 =>
(cond (decide (EC<=ag))
(some ((decide (ag<=Az))))
(some (false)))
def G.dw.L1 (f:Nat) (ah:aC) (ak:Int):Option (Bool):=match f with
| 0=>none
| n+1 =>
(cond (decide (ak<((ah.length:Nat):Int)))
(chk (0<=ak/\ak<((ah.length:Nat):Int))
((G.cZ n (IntKind.wrap .i64 ((((ah.getD ak.toNat 0).toNat:Nat):Int))) 32 126).bind fun v3 =>
(cond v3
(G.dw.L1 n ah (IntKind.wrap .i64 (ak+1)))
(some (false)))))
(some ((decide (((ah.length:Nat):Int)<=12)))))
def G.dw (f:Nat) (ah:aC):Option (Bool):=match f with
| 0=>none
| n+1 =>
(G.dw.L1 n ah 0)
def G.jq.L1 (f:Nat) (aA:List aC) (ak:Int):Option (Bool):=match f with
| 0=>none
| n+1 =>
(cond (decide (ak<((aA.length:Nat):Int)))
(chk (0<=ak/\ak<((aA.length:Nat):Int))
((G.dw n (aA.getD ak.toNat default)).bind fun v3 =>
(cond v3
(cond (decide (0<ak))
(chk (0<=ak/\ak<((aA.length:Nat):Int))
(chk (0<=(IntKind.wrap .i64 (ak-1))/\(IntKind.wrap .i64 (ak-1))<((aA.length:Nat):Int))
(cond (Op.bytesLess (aA.getD ak.toNat default) (aA.getD (IntKind.wrap .i64 (ak-1)).toNat default))
(some (false))
(cond ((aA.getD ak.toNat default)==(aA.getD (IntKind.wrap .i64 (ak-1)).toNat default))
(some (false))
(G.jq.L1 n aA (IntKind.wrap .i64 (ak+1)))))))
(G.jq.L1 n aA (IntKind.wrap .i64 (ak+1))))
(some (false)))))
(some (true)))
def G.jq (f:Nat) (aA:List aC):Option (Bool):=match f with
| 0=>none
| n+1 =>
(G.jq.L1 n aA 0)
mutual
def G.kJ.L1 (f:Nat) (ag:af) (aY:Int) (ak:Int):Option (Bool):=match f with
| 0=>none
| n+1 =>
(cond (decide (ak<((ag.Kids.length:Nat):Int)))
(chk (0<=ak/\ak<((ag.Kids.length:Nat):Int))
((G.dO n (ag.Kids.getD ak.toNat default) (IntKind.wrap .i64 (aY-1))).bind fun v3 =>
(cond v3
(G.kJ.L1 n ag aY (IntKind.wrap .i64 (ak+1)))
(some (false)))))
(some (true)))
def G.kJ (f:Nat) (ag:af) (aY:Int):Option (Bool):=match f with
| 0=>none
| n+1 =>
(G.kJ.L1 n ag aY 0)
def G.dO.K1 (f:Nat) (ag:af) (aY:Int):Option (Bool):=match f with
| 0=>none
| n+1 =>
(cond (ag.Kind==1)
((G.cZ n ag.Num (-999999) 999999).bind fun v1 =>
(some (v1)))
(cond (ag.Kind==2)
((G.dw n ag.Text).bind fun v2 =>
(some (v2)))
(cond (ag.Kind==3)
((G.kJ n ag aY).bind fun v3 =>
(some (v3)))
(cond (ag.Kind==4)
(cond (((ag.Names.length:Nat):Int)==((ag.Kids.length:Nat):Int))
((G.jq n ag.Names).bind fun v4 =>
(cond v4
((G.kJ n ag aY).bind fun v5 =>
(some (v5)))
(some (false))))
(some (false)))
(some ((ag.Kind==0)))))))
def G.dO (f:Nat) (ag:af) (aY:Int):Option (Bool):=match f with
| 0=>none
| n+1 =>
(cond (aY==0)
(some (false))
(cond (decide (6<((ag.Kids.length:Nat):Int)))
(some (false))
(cond (ag.Kind != 1)
(cond (ag.Num != 0)
(some (false))
(cond (ag.Kind != 2)
(cond (ag.Text==[])
(cond (ag.Kind != 4)
(cond (decide (0<((ag.Names.length:Nat):Int)))
(some (false))
(cond (decide (ag.Kind<3))
(cond (decide (0<((ag.Kids.length:Nat):Int)))
(some (false))
(G.dO.K1 n ag aY))
(G.dO.K1 n ag aY)))
(cond (decide (ag.Kind<3))
(cond (decide (0<((ag.Kids.length:Nat):Int)))
(some (false))
(G.dO.K1 n ag aY))
(G.dO.K1 n ag aY)))
(some (false)))
(cond (ag.Kind != 4)
(cond (decide (0<((ag.Names.length:Nat):Int)))
(some (false))
(cond (decide (ag.Kind<3))
(cond (decide (0<((ag.Kids.length:Nat):Int)))
(some (false))
(G.dO.K1 n ag aY))
(G.dO.K1 n ag aY)))
(cond (decide (ag.Kind<3))
(cond (decide (0<((ag.Kids.length:Nat):Int)))
(some (false))
(G.dO.K1 n ag aY))
(G.dO.K1 n ag aY)))))
(cond (ag.Kind != 2)
(cond (ag.Text==[])
(cond (ag.Kind != 4)
(cond (decide (0<((ag.Names.length:Nat):Int)))
(some (false))
(cond (decide (ag.Kind<3))
(cond (decide (0<((ag.Kids.length:Nat):Int)))
(some (false))
(G.dO.K1 n ag aY))
(G.dO.K1 n ag aY)))
(cond (decide (ag.Kind<3))
(cond (decide (0<((ag.Kids.length:Nat):Int)))
(some (false))
(G.dO.K1 n ag aY))
(G.dO.K1 n ag aY)))
(some (false)))
(cond (ag.Kind != 4)
(cond (decide (0<((ag.Names.length:Nat):Int)))
(some (false))
(cond (decide (ag.Kind<3))
(cond (decide (0<((ag.Kids.length:Nat):Int)))
(some (false))
(G.dO.K1 n ag aY))
(G.dO.K1 n ag aY)))
(cond (decide (ag.Kind<3))
(cond (decide (0<((ag.Kids.length:Nat):Int)))
(some (false))
(G.dO.K1 n ag aY))
(G.dO.K1 n ag aY)))))))
end
def G.aV (f:Nat) (ag:af):Option (Bool):=match f with
| 0=>none
| n+1 =>
((G.dO n ag 5).bind fun v1 =>
(cond v1
((G.iV n ag).bind fun v2 =>
(some ((decide (v2<=40)))))
(some (false))))
def G.dJ.K1 (f:Nat) (y1:List Int) (y2:Int) (y3:Int) (y4:Int) (y5:aC) (y6:List aC) (y7:List af):Option (af × ReaderT):=match f with
| 0=>none
| n+1 =>
((G.aV n (af.mk y3 y4 y5 y6 y7)).bind fun v4 =>
(cond v4
(some ((af.mk y3 y4 y5 y6 y7),(ReaderT.mk y1 y2)))
(some ((af.mk 0 0 [] [] []),(ReaderT.mk y1 y2)))))
def G.dJ (f:Nat) (bQ:ReaderT):Option (af × ReaderT):=match f with
| 0=>none
| n+1 =>
((G.aK n bQ 3).bind fun v1 =>
((G.ay n v1.2 3).bind fun v5 =>
(cond (decide (0<v5.1))
((G.bY n v5.2 3).bind fun v6 =>
(G.dJ.K1 n v6.2.b v6.2.p v6.1.Kind v6.1.Num v6.1.Text v6.1.Names v6.1.Kids))
(G.dJ.K1 n v5.2.b v5.2.p v1.1.Kind v1.1.Num v1.1.Text v1.1.Names v1.1.Kids))))
def G.iR.L1 (f:Nat) (v1:af × ReaderT) (ak:Int) (y3:List Int) (y4:Int) (z2:List af):Option (af × ReaderT):=match f with
| 0=>none
| n+1 =>
((G.ay n (ReaderT.mk y3 y4) 2).bind fun v9 =>
(cond (decide (ak<(IntKind.wrap .i64 (6+v9.1))))
((G.au n v1.1).bind fun v10 =>
(chk ((z2.length+1)*86<=2^46)
(G.iR.L1 n v1 (IntKind.wrap .i64 (ak+1)) v9.2.b v9.2.p (z2++[v10]))))
(some ((af.mk 3 0 [] [] z2),v9.2))))
def G.iR (f:Nat) (bQ:ReaderT):Option (af × ReaderT):=match f with
| 0=>none
| n+1 =>
((G.dJ n bQ).bind fun v1 =>
((G.ay n v1.2 40).bind fun v2 =>
(cond (v2.1==0)
((G.bZ n v2.2 [(-1),5,0,3]).bind fun v3 =>
(some ((af.mk v3.1 v1.1.Num v1.1.Text v1.1.Names v1.1.Kids),v3.2)))
(cond (v2.1==1)
((G.bZ n v2.2 [1,1000000]).bind fun v4 =>
(some ((af.mk v1.1.Kind v4.1 v1.1.Text v1.1.Names v1.1.Kids),v4.2)))
(cond (v2.1==2)
(some ((af.mk v1.1.Kind v1.1.Num [97,98,99,100,101,102,103,104,105,106,107,108,109] v1.1.Names v1.1.Kids),v2.2))
(cond (v2.1==3)
(chk ((v1.1.Names.length+1)*18<=2^46)
(some ((af.mk v1.1.Kind v1.1.Num v1.1.Text (v1.1.Names++[[]]) v1.1.Kids),v2.2)))
(cond (v2.1==4)
(some ((af.mk 3 0 [] [] [(af.mk 3 0 [] [] [(af.mk 3 0 [] [] [(af.mk 3 0 [] [] [v1.1])])])]),v2.2))
(cond (v2.1==5)
(G.iR.L1 n v1 0 v2.2.b v2.2.p [])
(some (v1.1,v2.2))))))))))
def G.jS (f:Nat) (bQ:ReaderT):Option (aC × ReaderT):=match f with
| 0=>none
| n+1 =>
((G.dN n bQ [[],[65],[97,98,99,100,101,102,103,104,105],[97,32,98],[97]]).bind fun v1 =>
(some (v1.1,v1.2)))
def G.aQ.L1 (f:Nat) (ah:StoreT) (ak:Int) (z2:List aB):Option (StoreT):=match f with
| 0=>none
| n+1 =>
(cond (decide (ak<((ah.Items.length:Nat):Int)))
(chk (0<=ak/\ak<((ah.Items.length:Nat):Int))
(chk (0<=ak/\ak<((ah.Items.length:Nat):Int))
(chk (0<=ak/\ak<((ah.Items.length:Nat):Int))
((G.au n ((ah.Items.getD ak.toNat default).Node)).bind fun v3 =>
(chk ((z2.length+1)*112<=2^46)
(G.aQ.L1 n ah (IntKind.wrap .i64 (ak+1)) (z2++[(aB.mk ((ah.Items.getD ak.toNat default).Name) ((ah.Items.getD ak.toNat default).Version) v3)])))))))
(some ((StoreT.mk z2 ah.Clock))))
def G.aQ (f:Nat) (ah:StoreT):Option (StoreT):=match f with
| 0=>none
| n+1 =>
(G.aQ.L1 n ah 0 [])
def G.iE.L1 (f:Nat) (ah:StoreT) (aJ:aC) (ak:Int):Option (Int):=match f with
| 0=>none
| n+1 =>
(cond (decide (ak<((ah.Items.length:Nat):Int)))
(chk (0<=ak/\ak<((ah.Items.length:Nat):Int))
(cond ((ah.Items.getD ak.toNat default).Name==aJ)
(some (ak))
(G.iE.L1 n ah aJ (IntKind.wrap .i64 (ak+1)))))
(some ((-1))))
def G.iE (f:Nat) (ah:StoreT) (aJ:aC):Option (Int):=match f with
| 0=>none
| n+1 =>
(G.iE.L1 n ah aJ 0)
def G.dm.L1 (f:Nat) (ah:aC) (ak:Int):Option (Bool):=match f with
| 0=>none
| n+1 =>
(cond (decide (ak<((ah.length:Nat):Int)))
(chk (0<=ak/\ak<((ah.length:Nat):Int))
((G.cZ n (IntKind.wrap .i64 ((((ah.getD ak.toNat 0).toNat:Nat):Int))) 97 122).bind fun v5 =>
(cond v5
(G.dm.L1 n ah (IntKind.wrap .i64 (ak+1)))
(chk (0<=ak/\ak<((ah.length:Nat):Int))
((G.cZ n (IntKind.wrap .i64 ((((ah.getD ak.toNat 0).toNat:Nat):Int))) 48 57).bind fun v6 =>
(cond v6
(G.dm.L1 n ah (IntKind.wrap .i64 (ak+1)))
(some (false))))))))
((G.cZ n ((ah.length:Nat):Int) 1 8).bind fun v7 =>
(some (v7))))
def G.dm (f:Nat) (ah:aC):Option (Bool):=match f with
| 0=>none
| n+1 =>
(G.dm.L1 n ah 0)
def G.aZ.L1 (f:Nat) (ah:StoreT) (ak:Int):Option (Bool):=match f with
| 0=>none
| n+1 =>
(cond (decide (ak<((ah.Items.length:Nat):Int)))
(chk (0<=ak/\ak<((ah.Items.length:Nat):Int))
((G.dm n ((ah.Items.getD ak.toNat default).Name)).bind fun v7 =>
(cond v7
((G.aV n ((ah.Items.getD ak.toNat default).Node)).bind fun v8 =>
(cond v8
((G.cZ n ((ah.Items.getD ak.toNat default).Version) 1 ah.Clock).bind fun v9 =>
(cond v9
(cond (decide (0<ak))
(chk (0<=(IntKind.wrap .i64 (ak-1))/\(IntKind.wrap .i64 (ak-1))<((ah.Items.length:Nat):Int))
(cond (Op.bytesLess ((ah.Items.getD ak.toNat default).Name) ((ah.Items.getD (IntKind.wrap .i64 (ak-1)).toNat default).Name))
(some (false))
(cond ((ah.Items.getD ak.toNat default).Name==(ah.Items.getD (IntKind.wrap .i64 (ak-1)).toNat default).Name)
(some (false))
(G.aZ.L1 n ah (IntKind.wrap .i64 (ak+1))))))
(G.aZ.L1 n ah (IntKind.wrap .i64 (ak+1))))
(some (false))))
(some (false))))
(some (false)))))
(cond (decide (((ah.Items.length:Nat):Int)<=10))
((G.cZ n ah.Clock 0 999).bind fun v10 =>
(some (v10)))
(some (false))))
def G.aZ (f:Nat) (ah:StoreT):Option (Bool):=match f with
| 0=>none
| n+1 =>
(G.aZ.L1 n ah 0)
def G.lH (f:Nat) (ah:StoreT) (aJ:aC):Option (aB × Bool):=match f with
| 0=>none
| n+1 =>
((G.aZ n ah).bind fun v1 =>
(cond v1
((G.iE n ah aJ).bind fun v2 =>
(cond (decide (v2<0))
(some ((aB.mk [] 0 (af.mk 0 0 [] [] [])),false))
((G.aQ n ah).bind fun v3 =>
((G.iE n ah aJ).bind fun v4 =>
(chk (0<=v4/\v4<((v3.Items.length:Nat):Int))
(some ((aB.mk ((v3.Items.getD v4.toNat default).Name) ((v3.Items.getD v4.toNat default).Version) ((v3.Items.getD v4.toNat default).Node)),true)))))))
(some ((aB.mk [] 0 (af.mk 0 0 [] [] [])),false))))
def G.iW.L1 (f:Nat) (ah:aC) (vJ:aC) (ak:Int):Option (aC):=match f with
| 0=>none
| n+1 =>
(cond (decide (ak<((ah.length:Nat):Int)))
(chk (0<=ak/\ak<((ah.length:Nat):Int))
(cond ((((ah.getD ak.toNat 0).toNat:Nat):Int)==34)
(chk (vJ.length+1<=maxLen)
(chk (0<=ak/\ak<=(IntKind.wrap .i64 (ak+1))/\(IntKind.wrap .i64 (ak+1))<=((ah.length:Nat):Int))
(chk ((vJ.length+1)+((ah.take ((IntKind.wrap .i64 (ak+1)).toNat)).drop ak.toNat).length<=maxLen)
(G.iW.L1 n ah ((vJ++[92])++((ah.take ((IntKind.wrap .i64 (ak+1)).toNat)).drop ak.toNat)) (IntKind.wrap .i64 (ak+1))))))
(chk (0<=ak/\ak<((ah.length:Nat):Int))
(cond ((((ah.getD ak.toNat 0).toNat:Nat):Int)==92)
(chk (vJ.length+1<=maxLen)
(chk (0<=ak/\ak<=(IntKind.wrap .i64 (ak+1))/\(IntKind.wrap .i64 (ak+1))<=((ah.length:Nat):Int))
(chk ((vJ.length+1)+((ah.take ((IntKind.wrap .i64 (ak+1)).toNat)).drop ak.toNat).length<=maxLen)
(G.iW.L1 n ah ((vJ++[92])++((ah.take ((IntKind.wrap .i64 (ak+1)).toNat)).drop ak.toNat)) (IntKind.wrap .i64 (ak+1))))))
(chk (0<=ak/\ak<=(IntKind.wrap .i64 (ak+1))/\(IntKind.wrap .i64 (ak+1))<=((ah.length:Nat):Int))
(chk (vJ.length+((ah.take ((IntKind.wrap .i64 (ak+1)).toNat)).drop ak.toNat).length<=maxLen)
(G.iW.L1 n ah (vJ++((ah.take ((IntKind.wrap .i64 (ak+1)).toNat)).drop ak.toNat)) (IntKind.wrap .i64 (ak+1)))))))))
(chk (vJ.length+1<=maxLen)
(some ((vJ++[34])))))
def G.iW (f:Nat) (ah:aC):Option (aC):=match f with
| 0=>none
| n+1 =>
(G.iW.L1 n ah [34] 0)
mutual
def G.bH.K7 (f:Nat) (ag:af) (ak:Int) (TU:aC):Option (aC):=match f with
| 0=>none
| n+1 =>
(chk (0<=ak/\ak<((ag.Kids.length:Nat):Int))
((G.bH n (ag.Kids.getD ak.toNat default)).bind fun v10 =>
(chk (TU.length+v10.length<=maxLen)
(G.bH.L5 n ag (TU++v10) (IntKind.wrap .i64 (ak+1))))))
def G.bH.K6 (f:Nat) (ag:af) (ak:Int) (Jm:aC):Option (aC):=match f with
| 0=>none
| n+1 =>
(cond (ag.Kind==4)
(chk (0<=ak/\ak<((ag.Names.length:Nat):Int))
((G.iW n (ag.Names.getD ak.toNat default)).bind fun v11 =>
(chk (Jm.length+v11.length<=maxLen)
(chk ((Jm.length+v11.length)+1<=maxLen)
(G.bH.K7 n ag ak ((Jm++v11)++[58]))))))
(G.bH.K7 n ag ak Jm))
def G.bH.L5 (f:Nat) (ag:af) (xm:aC) (ak:Int):Option (aC):=match f with
| 0=>none
| n+1 =>
(cond (decide (ak<((ag.Kids.length:Nat):Int)))
(cond (decide (0<ak))
(chk (xm.length+1<=maxLen)
(G.bH.K6 n ag ak (xm++[44])))
(G.bH.K6 n ag ak xm))
(cond (ag.Kind==4)
(chk (1+xm.length<=maxLen)
(chk ((1+xm.length)+1<=maxLen)
(some ((([123]++xm)++[125])))))
(chk (1+xm.length<=maxLen)
(chk ((1+xm.length)+1<=maxLen)
(some ((([91]++xm)++[93])))))))
def G.bH (f:Nat) (ag:af):Option (aC):=match f with
| 0=>none
| n+1 =>
(cond (ag.Kind==1)
((G.gB n ag.Num).bind fun v1 =>
(some (v1)))
(cond (ag.Kind==2)
((G.iW n ag.Text).bind fun v2 =>
(some (v2)))
(cond (ag.Kind==0)
(some ([110,117,108,108]))
(G.bH.L5 n ag [] 0))))
end
def G.nP (f:Nat) (ag:Int):Option (aC):=match f with
| 0=>none
| n+1 =>
(chk (0<=(IntKind.wrap .i64 (Int.tdiv ag 4096))/\(IntKind.wrap .i64 (Int.tdiv ag 4096))<((16:Nat):Int))
(chk (0<=(Int.tmod (IntKind.wrap .i64 (Int.tdiv ag 256)) 16)/\(Int.tmod (IntKind.wrap .i64 (Int.tdiv ag 256)) 16)<((16:Nat):Int))
(chk (0<=(Int.tmod (IntKind.wrap .i64 (Int.tdiv ag 16)) 16)/\(Int.tmod (IntKind.wrap .i64 (Int.tdiv ag 16)) 16)<((16:Nat):Int))
(chk (0<=(Int.tmod ag 16)/\(Int.tmod ag 16)<((16:Nat):Int))
(chk (4<=maxLen)
(some ([UInt8.ofNat ((([48,49,50,51,52,53,54,55,56,57,97,98,99,100,101,102]:aC).getD (IntKind.wrap .i64 (Int.tdiv ag 4096)).toNat 0).toNat),UInt8.ofNat ((([48,49,50,51,52,53,54,55,56,57,97,98,99,100,101,102]:aC).getD (Int.tmod (IntKind.wrap .i64 (Int.tdiv ag 256)) 16).toNat 0).toNat),UInt8.ofNat ((([48,49,50,51,52,53,54,55,56,57,97,98,99,100,101,102]:aC).getD (Int.tmod (IntKind.wrap .i64 (Int.tdiv ag 16)) 16).toNat 0).toNat),UInt8.ofNat ((([48,49,50,51,52,53,54,55,56,57,97,98,99,100,101,102]:aC).getD (Int.tmod ag 16).toNat 0).toNat)])))))))
def G.jy.L1 (f:Nat) (ah:aC) (uP:Int) (ak:Int):Option (Int):=match f with
| 0=>none
| n+1 =>
(cond (decide (ak<((ah.length:Nat):Int)))
(chk (0<=ak/\ak<((ah.length:Nat):Int))
(G.jy.L1 n ah (Int.tmod (IntKind.wrap .i64 ((IntKind.wrap .i64 (131*uP))+(IntKind.wrap .i64 ((((ah.getD ak.toNat 0).toNat:Nat):Int))))) 65521) (IntKind.wrap .i64 (ak+1))))
(some (uP)))
def G.jy (f:Nat) (ah:aC):Option (Int):=match f with
| 0=>none
| n+1 =>
(G.jy.L1 n ah 17 0)
def G.lY (f:Nat) (ag:af):Option (aC):=match f with
| 0=>none
| n+1 =>
((G.aV n ag).bind fun v1 =>
(cond v1
((G.bH n ag).bind fun v2 =>
((G.jy n v2).bind fun v3 =>
((G.nP n v3).bind fun v4 =>
(some (v4)))))
(some ([]))))
def G.jd.L1 (f:Nat) (jh:aC) (uP:Int) (y3:List Int) (y4:Int) (z2:List aC):Option (List aC × ReaderT):=match f with
| 0=>none
| n+1 =>
(cond (decide (0<uP))
((G.dN n (ReaderT.mk y3 y4) [[42],[48,48,48,48],[49,50,97,98],[102,102,102,102],jh,jh]).bind fun v4 =>
(chk ((z2.length+1)*18<=2^46)
(G.jd.L1 n jh (IntKind.wrap .i64 (uP-1)) v4.2.b v4.2.p (z2++[v4.1]))))
(cond (decide (0<((z2.length:Nat):Int)))
((G.ay n (ReaderT.mk y3 y4) 20).bind fun v5 =>
(cond (v5.1==0)
((G.dN n v5.2 [[],[49,50,97,66],[49,50,51],[49,50,51,52,53]]).bind fun v6 =>
(chk (0<=0/\0<((z2.length:Nat):Int))
(some ((z2.set 0 v6.1),v6.2))))
(some (z2,v5.2))))
(some (z2,(ReaderT.mk y3 y4)))))
def G.jd (f:Nat) (bQ:ReaderT) (jh:aC):Option (List aC × ReaderT):=match f with
| 0=>none
| n+1 =>
((G.bZ n bQ [0,1,0,2,0,4,5]).bind fun v1 =>
(G.jd.L1 n jh v1.1 v1.2.b v1.2.p []))
def G.jJ (f:Nat) (bQ:ReaderT):Option (aC × ReaderT):=match f with
| 0=>none
| n+1 =>
((G.dN n bQ [[97],[98],[100,111,99],[122,122],[97,49],[109],[120,57],[98,111,111,107],[97,98,99,100,101,102,103,104],[113]]).bind fun v1 =>
(some (v1.1,v1.2)))
def G.ny (f:Nat) (bQ:ReaderT) (ah:StoreT):Option (aC × ReaderT):=match f with
| 0=>none
| n+1 =>
(cond (decide (0<((ah.Items.length:Nat):Int)))
((G.ay n bQ 4).bind fun v1 =>
(cond (decide (0<v1.1))
((G.ay n v1.2 ((ah.Items.length:Nat):Int)).bind fun v2 =>
(chk (0<=v2.1/\v2.1<((ah.Items.length:Nat):Int))
(some ((ah.Items.getD v2.1.toNat default).Name,v2.2))))
((G.ay n v1.2 12).bind fun v3 =>
(cond (v3.1==0)
((G.jS n v3.2).bind fun v4 =>
(some (v4.1,v4.2)))
((G.jJ n v3.2).bind fun v5 =>
(some (v5.1,v5.2)))))))
((G.ay n bQ 12).bind fun v6 =>
(cond (v6.1==0)
((G.jS n v6.2).bind fun v7 =>
(some (v7.1,v7.2)))
((G.jJ n v6.2).bind fun v8 =>
(some (v8.1,v8.2))))))
def G.kH.L1 (f:Nat) (ai:List aC) (ak:Int) (y6:Int) (y7:Int) (y8:aC) (y9:List aC) (zf:List af):Option (af × Bool):=match f with
| 0=>none
| n+1 =>
(cond (decide (ak<((ai.length:Nat):Int)))
(chk (0<=ak/\ak<((ai.length:Nat):Int))
((G.dD n (af.mk y6 y7 y8 y9 zf) (ai.getD ak.toNat default)).bind fun v3 =>
(cond (decide (v3<0))
(some ((af.mk 0 0 [] [] []),false))
(chk (0<=v3/\v3<((zf.length:Nat):Int))
(G.kH.L1 n ai (IntKind.wrap .i64 (ak+1)) ((zf.getD v3.toNat default).Kind) ((zf.getD v3.toNat default).Num) ((zf.getD v3.toNat default).Text) ((zf.getD v3.toNat default).Names) ((zf.getD v3.toNat default).Kids))))))
((G.au n (af.mk y6 y7 y8 y9 zf)).bind fun v4 =>
(some (v4,true))))
def G.kH (f:Nat) (ag:af) (ai:List aC):Option (af × Bool):=match f with
| 0=>none
| n+1 =>
(G.kH.L1 n ai 0 ag.Kind ag.Num ag.Text ag.Names ag.Kids)
mutual
def G.iY (f:Nat) (ag:af) (ai:List aC) (bU:af):Option (af × Bool):=match f with
| 0=>none
| n+1 =>
(cond (((ai.length:Nat):Int)==0)
((G.au n bU).bind fun v1 =>
(some (v1,true)))
(chk (0<=0/\0<((ai.length:Nat):Int))
((G.dD n ag (ai.getD 0 default)).bind fun v2 =>
(cond (decide (v2<0))
(some ((af.mk 0 0 [] [] []),false))
(chk (0<=v2/\v2<((ag.Kids.length:Nat):Int))
(chk (0<=1/\1<=((ai.length:Nat):Int)/\((ai.length:Nat):Int)<=((ai.length:Nat):Int))
((G.iY n (ag.Kids.getD v2.toNat default) (ai.drop 1) bU).bind fun v3 =>
(cond v3.2
((G.iL n ag v2 v3.1).bind fun v4 =>
(some (v4,true)))
(some ((af.mk 0 0 [] [] []),false))))))))))
end
def G.kG (f:Nat) (ag:af) (ai:List aC) (bU:af):Option (af × Bool):=match f with
| 0=>none
| n+1 =>
(cond (((ai.length:Nat):Int)==0)
((G.au n bU).bind fun v1 =>
(some (v1,true)))
(chk (0<=0/\0<=(IntKind.wrap .i64 (((ai.length:Nat):Int)-1))/\(IntKind.wrap .i64 (((ai.length:Nat):Int)-1))<=((ai.length:Nat):Int))
((G.kH n ag (ai.take ((IntKind.wrap .i64 (((ai.length:Nat):Int)-1)).toNat))).bind fun v2 =>
(cond v2.2
(chk (0<=(IntKind.wrap .i64 (((ai.length:Nat):Int)-1))/\(IntKind.wrap .i64 (((ai.length:Nat):Int)-1))<((ai.length:Nat):Int))
((G.gZ n v2.1 (ai.getD (IntKind.wrap .i64 (((ai.length:Nat):Int)-1)).toNat default) bU).bind fun v3 =>
(cond v3.2
(chk (0<=0/\0<=(IntKind.wrap .i64 (((ai.length:Nat):Int)-1))/\(IntKind.wrap .i64 (((ai.length:Nat):Int)-1))<=((ai.length:Nat):Int))
((G.iY n ag (ai.take ((IntKind.wrap .i64 (((ai.length:Nat):Int)-1)).toNat)) v3.1).bind fun v4 =>
(some (v4.1,v4.2))))
(some ((af.mk 0 0 [] [] []),false)))))
(some ((af.mk 0 0 [] [] []),false))))))
mutual
def G.dX.L7 (f:Nat) (ag:af) (ak:Int) (Eo:aC) (v6:List (List aC)) (Qp:Int) (z8:List (List aC)):Option (List (List aC)):=match f with
| 0=>none
| n+1 =>
(cond (decide (Qp<((v6.length:Nat):Int)))
(chk (0<=Qp/\Qp<((v6.length:Nat):Int))
(chk ((1+(v6.getD Qp.toNat default).length)*18<=2^46)
(chk ((z8.length+1)*26<=2^46)
(G.dX.L7 n ag ak Eo v6 (IntKind.wrap .i64 (Qp+1)) (z8++[([Eo]++(v6.getD Qp.toNat default))])))))
(G.dX.L5 n ag (IntKind.wrap .i64 (ak+1)) z8))
def G.dX.K6 (f:Nat) (ag:af) (ak:Int) (z6:List (List aC)) (Eo:aC):Option (List (List aC)):=match f with
| 0=>none
| n+1 =>
(chk (0<=ak/\ak<((ag.Kids.length:Nat):Int))
((G.dX n (ag.Kids.getD ak.toNat default)).bind fun v6 =>
(G.dX.L7 n ag ak Eo v6 0 z6)))
def G.dX.L5 (f:Nat) (ag:af) (ak:Int) (z6:List (List aC)):Option (List (List aC)):=match f with
| 0=>none
| n+1 =>
(cond (decide (ak<((ag.Kids.length:Nat):Int)))
((G.gB n ak).bind fun v5 =>
(cond (ag.Kind==4)
(chk (0<=ak/\ak<((ag.Names.length:Nat):Int))
(G.dX.K6 n ag ak z6 (ag.Names.getD ak.toNat default)))
(G.dX.K6 n ag ak z6 v5)))
(some (z6)))
def G.dX (f:Nat) (ag:af):Option (List (List aC)):=match f with
| 0=>none
| n+1 =>
(G.dX.L5 n ag 0 [[]])
end
def G.dY.K1 (f:Nat) (ag:af) (ai:List aC) (v1:af × Bool) (z1:List af) (z2:List aC):Option (af × Bool):=match f with
| 0=>none
| n+1 =>
(chk (0<=0/\0<=(IntKind.wrap .i64 (((ai.length:Nat):Int)-1))/\(IntKind.wrap .i64 (((ai.length:Nat):Int)-1))<=((ai.length:Nat):Int))
((G.iY n ag (ai.take ((IntKind.wrap .i64 (((ai.length:Nat):Int)-1)).toNat)) (af.mk v1.1.Kind 0 [] z2 z1)).bind fun v3 =>
(some (v3.1,v3.2))))
def G.dY (f:Nat) (ag:af) (ai:List aC):Option (af × Bool):=match f with
| 0=>none
| n+1 =>
(cond (decide ((IntKind.wrap .i64 (((ai.length:Nat):Int)-1))<0))
(some ((af.mk 0 0 [] [] []),false))
(chk (0<=0/\0<=(IntKind.wrap .i64 (((ai.length:Nat):Int)-1))/\(IntKind.wrap .i64 (((ai.length:Nat):Int)-1))<=((ai.length:Nat):Int))
((G.kH n ag (ai.take ((IntKind.wrap .i64 (((ai.length:Nat):Int)-1)).toNat))).bind fun v1 =>
(cond v1.2
(chk (0<=(IntKind.wrap .i64 (((ai.length:Nat):Int)-1))/\(IntKind.wrap .i64 (((ai.length:Nat):Int)-1))<((ai.length:Nat):Int))
((G.dD n v1.1 (ai.getD (IntKind.wrap .i64 (((ai.length:Nat):Int)-1)).toNat default)).bind fun v2 =>
(cond (decide (v2<0))
(some ((af.mk 0 0 [] [] []),false))
(chk (0<=0/\0<=v2/\v2<=((v1.1.Kids.length:Nat):Int))
(chk (((v1.1.Kids.take v2.toNat).length)*86<=2^46)
(chk (0<=(IntKind.wrap .i64 (v2+1))/\(IntKind.wrap .i64 (v2+1))<=((v1.1.Kids.length:Nat):Int)/\((v1.1.Kids.length:Nat):Int)<=((v1.1.Kids.length:Nat):Int))
(chk (((v1.1.Kids.take v2.toNat).length+(v1.1.Kids.drop ((IntKind.wrap .i64 (v2+1)).toNat)).length)*86<=2^46)
(cond (v1.1.Kind==4)
(chk (0<=0/\0<=v2/\v2<=((v1.1.Names.length:Nat):Int))
(chk (((v1.1.Names.take v2.toNat).length)*18<=2^46)
(chk (0<=(IntKind.wrap .i64 (v2+1))/\(IntKind.wrap .i64 (v2+1))<=((v1.1.Names.length:Nat):Int)/\((v1.1.Names.length:Nat):Int)<=((v1.1.Names.length:Nat):Int))
(chk (((v1.1.Names.take v2.toNat).length+(v1.1.Names.drop ((IntKind.wrap .i64 (v2+1)).toNat)).length)*18<=2^46)
(G.dY.K1 n ag ai v1 ((v1.1.Kids.take v2.toNat)++(v1.1.Kids.drop ((IntKind.wrap .i64 (v2+1)).toNat))) ((v1.1.Names.take v2.toNat)++(v1.1.Names.drop ((IntKind.wrap .i64 (v2+1)).toNat))))))))
(G.dY.K1 n ag ai v1 ((v1.1.Kids.take v2.toNat)++(v1.1.Kids.drop ((IntKind.wrap .i64 (v2+1)).toNat))) [])))))))))
(some ((af.mk 0 0 [] [] []),false))))))
def G.iI.K1 (f:Nat) (ag:af) (KX:Bool) (y1:List Int) (y2:Int) (y3:Int) (y4:Int) (y5:aC) (y6:List aC) (y7:List af):Option (af × ReaderT):=match f with
| 0=>none
| n+1 =>
(cond KX
((G.aV n (af.mk y3 y4 y5 y6 y7)).bind fun v12 =>
(cond v12
(some ((af.mk y3 y4 y5 y6 y7),(ReaderT.mk y1 y2)))
((G.au n ag).bind fun v13 =>
(some (v13,(ReaderT.mk y1 y2))))))
((G.au n ag).bind fun v14 =>
(some (v14,(ReaderT.mk y1 y2)))))
def G.iI (f:Nat) (bQ:ReaderT) (ag:af):Option (af × ReaderT):=match f with
| 0=>none
| n+1 =>
((G.dX n ag).bind fun v1 =>
((G.ay n bQ ((v1.length:Nat):Int)).bind fun v2 =>
(chk (0<=v2.1/\v2.1<((v1.length:Nat):Int))
((G.au n ag).bind fun v3 =>
((G.ay n v2.2 5).bind fun v15 =>
(cond (v15.1==0)
((G.dY n ag (v1.getD v2.1.toNat default)).bind fun v16 =>
(G.iI.K1 n ag v16.2 v15.2.b v15.2.p v16.1.Kind v16.1.Num v16.1.Text v16.1.Names v16.1.Kids))
(cond (v15.1==1)
(chk (((v1.getD v2.1.toNat default).length)*18<=2^46)
((G.dN n v15.2 [[97],[48],[45],[122]]).bind fun v17 =>
(chk (((v1.getD v2.1.toNat default).length+1)*18<=2^46)
((G.aK n v17.2 2).bind fun v18 =>
((G.kG n ag ((v1.getD v2.1.toNat default)++[v17.1]) v18.1).bind fun v19 =>
(G.iI.K1 n ag v19.2 v18.2.b v18.2.p v19.1.Kind v19.1.Num v19.1.Text v19.1.Names v19.1.Kids))))))
(cond (v15.1==2)
((G.aK n v15.2 2).bind fun v20 =>
((G.iY n ag (v1.getD v2.1.toNat default) v20.1).bind fun v21 =>
(G.iI.K1 n ag v21.2 v20.2.b v20.2.p v21.1.Kind v21.1.Num v21.1.Text v21.1.Names v21.1.Kids)))
(cond (v15.1==3)
((G.dJ n v15.2).bind fun v22 =>
(some (v22.1,v22.2)))
(G.iI.K1 n ag true v15.2.b v15.2.p v3.Kind v3.Num v3.Text v3.Names v3.Kids))))))))))
def G.lN (f:Nat) (ag:af):Option (List (List aC)):=match f with
| 0=>none
| n+1 =>
((G.aV n ag).bind fun v1 =>
(cond v1
((G.dX n ag).bind fun v2 =>
(some (v2)))
(some ([]))))
def G.jc.L1 (f:Nat) (uP:Int) (y3:List Int) (y4:Int) (z2:List aC):Option (List aC × ReaderT):=match f with
| 0=>none
| n+1 =>
(cond (decide (0<uP))
((G.dN n (ReaderT.mk y3 y4) [[97],[98],[48],[49],[45],[97,47,98],[126,120],[],[99]]).bind fun v4 =>
(chk ((z2.length+1)*18<=2^46)
(G.jc.L1 n (IntKind.wrap .i64 (uP-1)) v4.2.b v4.2.p (z2++[v4.1]))))
(cond (decide (0<((z2.length:Nat):Int)))
((G.ay n (ReaderT.mk y3 y4) 20).bind fun v5 =>
(cond (v5.1==0)
((G.dN n v5.2 [[97,98,99,100,101,102,103,104,105,106,107,108,109],[10]]).bind fun v6 =>
(chk (0<=0/\0<((z2.length:Nat):Int))
(some ((z2.set 0 v6.1),v6.2))))
(some (z2,v5.2))))
(some (z2,(ReaderT.mk y3 y4)))))
def G.jc (f:Nat) (bQ:ReaderT):Option (List aC × ReaderT):=match f with
| 0=>none
| n+1 =>
((G.bZ n bQ [1,2,1,0,3,5,6]).bind fun v1 =>
(G.jc.L1 n v1.1 v1.2.b v1.2.p []))
def G.mM (f:Nat) (bQ:ReaderT) (ag:af):Option (List aC × ReaderT):=match f with
| 0=>none
| n+1 =>
((G.lN n ag).bind fun v1 =>
(cond (decide (0<((v1.length:Nat):Int)))
((G.ay n bQ 4).bind fun v2 =>
(cond (decide (0<v2.1))
((G.ay n v2.2 ((v1.length:Nat):Int)).bind fun v3 =>
(chk (0<=v3.1/\v3.1<((v1.length:Nat):Int))
(some ((v1.getD v3.1.toNat default),v3.2))))
((G.jc n v2.2).bind fun v4 =>
(some (v4.1,v4.2)))))
((G.jc n bQ).bind fun v5 =>
(some (v5.1,v5.2)))))
def G.aU.K4 (f:Nat) (v1:Int × ReaderT) (v2:List aC × ReaderT) (y3:List aC) (y4:Int) (y5:Int) (y6:aC) (y7:List aC) (y8:List af) (XP:Bool) (y9:List Int) (zf:Int):Option (lU × ReaderT):=match f with
| 0=>none
| n+1 =>
(cond XP
(chk (v2.1.length*18<=2^46)
((G.dN n (ReaderT.mk y9 zf) [[122],[45],[48],[101]]).bind fun v10 =>
(chk ((v2.1.length+1)*18<=2^46)
(some ((lU.mk (IntKind.wrap .i64 (1+v1.1)) (v2.1++[v10.1]) y3 (af.mk y4 y5 y6 y7 y8)),v10.2)))))
(some ((lU.mk (IntKind.wrap .i64 (1+v1.1)) v2.1 y3 (af.mk y4 y5 y6 y7 y8)),(ReaderT.mk y9 zf))))
def G.aU.K3 (f:Nat) (v1:Int × ReaderT) (v2:List aC × ReaderT) (y1:List Int) (y2:Int) (y3:List aC) (y4:Int) (y5:Int) (y6:aC) (y7:List aC) (y8:List af):Option (lU × ReaderT):=match f with
| 0=>none
| n+1 =>
(cond (decide (((v2.1.length:Nat):Int)<4))
(cond ((IntKind.wrap .i64 (1+v1.1))==1)
((G.ay n (ReaderT.mk y1 y2) 2).bind fun v11 =>
(G.aU.K4 n v1 v2 y3 y4 y5 y6 y7 y8 (v11.1==0) v11.2.b v11.2.p))
(cond ((IntKind.wrap .i64 (1+v1.1))==4)
((G.ay n (ReaderT.mk y1 y2) 2).bind fun v12 =>
(G.aU.K4 n v1 v2 y3 y4 y5 y6 y7 y8 (v12.1==0) v12.2.b v12.2.p))
(cond ((IntKind.wrap .i64 (1+v1.1))==5)
((G.ay n (ReaderT.mk y1 y2) 2).bind fun v13 =>
(G.aU.K4 n v1 v2 y3 y4 y5 y6 y7 y8 (v13.1==0) v13.2.b v13.2.p))
(G.aU.K4 n v1 v2 y3 y4 y5 y6 y7 y8 false y1 y2))))
(G.aU.K4 n v1 v2 y3 y4 y5 y6 y7 y8 false y1 y2))
def G.aU.K6 (f:Nat) (ag:af) (v1:Int × ReaderT) (v2:List aC × ReaderT) (XQ:Bool):Option (lU × ReaderT):=match f with
| 0=>none
| n+1 =>
(cond XQ
((G.mM n v2.2 ag).bind fun v17 =>
(G.aU.K3 n v1 v2 v17.2.b v17.2.p v17.1 0 0 [] [] []))
(G.aU.K3 n v1 v2 v2.2.b v2.2.p [] 0 0 [] [] []))
def G.aU.K5 (f:Nat) (ag:af) (v1:Int × ReaderT) (v2:List aC × ReaderT) (sV:Bool):Option (lU × ReaderT):=match f with
| 0=>none
| n+1 =>
(cond sV
((G.aK n v2.2 2).bind fun v14 =>
(G.aU.K3 n v1 v2 v14.2.b v14.2.p [] v14.1.Kind v14.1.Num v14.1.Text v14.1.Names v14.1.Kids))
(cond ((IntKind.wrap .i64 (1+v1.1))==6)
((G.kH n ag v2.1).bind fun v15 =>
(cond v15.2
((G.ay n v2.2 3).bind fun v16 =>
(cond (decide (0<v16.1))
(G.aU.K3 n v1 v2 v16.2.b v16.2.p [] v15.1.Kind v15.1.Num v15.1.Text v15.1.Names v15.1.Kids)
(G.aU.K3 n v1 v2 v16.2.b v16.2.p [] 0 0 [] [] [])))
(G.aU.K3 n v1 v2 v2.2.b v2.2.p [] 0 0 [] [] [])))
(cond ((IntKind.wrap .i64 (1+v1.1))==4)
(G.aU.K6 n ag v1 v2 true)
(G.aU.K6 n ag v1 v2 ((IntKind.wrap .i64 (1+v1.1))==5)))))
def G.aU (f:Nat) (bQ:ReaderT) (ag:af):Option (lU × ReaderT):=match f with
| 0=>none
| n+1 =>
((G.ay n bQ 6).bind fun v1 =>
((G.mM n v1.2 ag).bind fun v2 =>
(cond ((IntKind.wrap .i64 (1+v1.1))==1)
(G.aU.K5 n ag v1 v2 true)
(G.aU.K5 n ag v1 v2 ((IntKind.wrap .i64 (1+v1.1))==3)))))
def G.aF.K4 (f:Nat) (v1:aC × ReaderT) (v2:aB × Bool) (v3:Int × ReaderT) (y3:List aC) (y6:List aC) (Lc:List Int) (Ld:Int) (y13:Int) (Hq:Int) (Gh:aC) (TY:List aC) (Qr:List af) (z3:List lU):Option (RequestT × ReaderT):=match f with
| 0=>none
| n+1 =>
(cond v2.2
(some ((RequestT.mk (IntKind.wrap .i64 (1+v3.1)) v1.1 y3 y6 (af.mk y13 Hq Gh TY Qr) z3),(ReaderT.mk Lc Ld)))
((G.ay n (ReaderT.mk Lc Ld) 2).bind fun v16 =>
(cond (v16.1==0)
(some ((RequestT.mk 2 v1.1 y3 y6 (af.mk y13 Hq Gh TY Qr) z3),v16.2))
(some ((RequestT.mk (IntKind.wrap .i64 (1+v3.1)) v1.1 y3 y6 (af.mk y13 Hq Gh TY Qr) z3),v16.2)))))
def G.aF.L5 (f:Nat) (v1:aC × ReaderT) (v2:aB × Bool) (v3:Int × ReaderT) (y3:List aC) (y6:List aC) (Xf:Int) (y20:List Int) (y21:Int) (z5:List lU):Option (RequestT × ReaderT):=match f with
| 0=>none
| n+1 =>
(cond (decide (0<Xf))
((G.aU n (ReaderT.mk y20 y21) v2.1.Node).bind fun v22 =>
(chk ((z5.length+1)*145<=2^46)
(G.aF.L5 n v1 v2 v3 y3 y6 (IntKind.wrap .i64 (Xf-1)) v22.2.b v22.2.p (z5++[v22.1]))))
(G.aF.K4 n v1 v2 v3 y3 y6 y20 y21 0 0 [] [] [] z5))
def G.aF.K2 (f:Nat) (v1:aC × ReaderT) (v2:aB × Bool) (v3:Int × ReaderT) (y3:List aC) (y4:List Int) (y5:Int) (y6:List aC):Option (RequestT × ReaderT):=match f with
| 0=>none
| n+1 =>
(cond ((IntKind.wrap .i64 (1+v3.1))==2)
((G.dJ n (ReaderT.mk y4 y5)).bind fun v17 =>
(G.aF.K4 n v1 v2 v3 y3 y6 v17.2.b v17.2.p v17.1.Kind v17.1.Num v17.1.Text v17.1.Names v17.1.Kids []))
(cond ((IntKind.wrap .i64 (1+v3.1))==5)
((G.iI n (ReaderT.mk y4 y5) v2.1.Node).bind fun v18 =>
(G.aF.K4 n v1 v2 v3 y3 y6 v18.2.b v18.2.p v18.1.Kind v18.1.Num v18.1.Text v18.1.Names v18.1.Kids []))
(cond ((IntKind.wrap .i64 (1+v3.1))==4)
((G.ay n (ReaderT.mk y4 y5) 3).bind fun v19 =>
(G.aF.L5 n v1 v2 v3 y3 y6 v19.1 v19.2.b v19.2.p []))
(G.aF.K4 n v1 v2 v3 y3 y6 y4 y5 0 0 [] [] [] []))))
def G.aF.K1 (f:Nat) (v1:aC × ReaderT) (v2:aB × Bool) (v3:Int × ReaderT) (y1:List Int) (y2:Int) (y3:List aC):Option (RequestT × ReaderT):=match f with
| 0=>none
| n+1 =>
((G.ay n (ReaderT.mk y1 y2) 4).bind fun v23 =>
(cond (v23.1==0)
((G.lY n v2.1.Node).bind fun v24 =>
((G.jd n v23.2 v24).bind fun v25 =>
(G.aF.K2 n v1 v2 v3 y3 v25.2.b v25.2.p v25.1)))
(G.aF.K2 n v1 v2 v3 y3 v23.2.b v23.2.p [])))
def G.aF (f:Nat) (bQ:ReaderT) (ah:StoreT):Option (RequestT × ReaderT):=match f with
| 0=>none
| n+1 =>
((G.ny n bQ ah).bind fun v1 =>
((G.lH n ah v1.1).bind fun v2 =>
((G.ay n v1.2 5).bind fun v3 =>
((G.ay n v3.2 3).bind fun v26 =>
(cond (v26.1==0)
((G.lY n v2.1.Node).bind fun v27 =>
((G.jd n v26.2 v27).bind fun v28 =>
(G.aF.K1 n v1 v2 v3 v28.2.b v28.2.p v28.1)))
(G.aF.K1 n v1 v2 v3 v26.2.b v26.2.p []))))))
def G.kL (f:Nat) (bQ:ReaderT) (ah:StoreT):Option (RequestT × ReaderT):=match f with
| 0=>none
| n+1 =>
((G.aF n bQ ah).bind fun v1 =>
((G.ay n v1.2 30).bind fun v2 =>
(cond (v2.1==0)
((G.bZ n v2.2 [0,6]).bind fun v3 =>
(some ((RequestT.mk v3.1 v1.1.Name v1.1.Want v1.1.l7 v1.1.Body v1.1.Ops),v3.2)))
(cond (v2.1==1)
((G.jS n v2.2).bind fun v4 =>
(some ((RequestT.mk v1.1.Method v4.1 v1.1.Want v1.1.l7 v1.1.Body v1.1.Ops),v4.2)))
(cond (v2.1==2)
((G.iR n v2.2).bind fun v5 =>
(some ((RequestT.mk v1.1.Method v1.1.Name v1.1.Want v1.1.l7 v5.1 v1.1.Ops),v5.2)))
(some (v1.1,v2.2)))))))
def G.iO.L1 (f:Nat) (ah:StoreT) (aJ:aC) (v1:StoreT) (ak:Int) (z2:List aB):Option (StoreT):=match f with
| 0=>none
| n+1 =>
(cond (decide (ak<((v1.Items.length:Nat):Int)))
(chk (0<=ak/\ak<((v1.Items.length:Nat):Int))
(cond ((v1.Items.getD ak.toNat default).Name==aJ)
(G.iO.L1 n ah aJ v1 (IntKind.wrap .i64 (ak+1)) z2)
(chk (0<=ak/\ak<((v1.Items.length:Nat):Int))
(chk ((z2.length+1)*112<=2^46)
(G.iO.L1 n ah aJ v1 (IntKind.wrap .i64 (ak+1)) (z2++[(aB.mk ((v1.Items.getD ak.toNat default).Name) ((v1.Items.getD ak.toNat default).Version) ((v1.Items.getD ak.toNat default).Node))]))))))
(some ((StoreT.mk z2 (IntKind.wrap .i64 (ah.Clock+1))))))
def G.iO (f:Nat) (ah:StoreT) (aJ:aC):Option (StoreT):=match f with
| 0=>none
| n+1 =>
((G.aQ n ah).bind fun v1 =>
(G.iO.L1 n ah aJ v1 0 []))
def G.mQ (f:Nat) (ah:StoreT) (aJ:aC):Option (StoreT × Bool):=match f with
| 0=>none
| n+1 =>
((G.aZ n ah).bind fun v1 =>
(cond v1
((G.iE n ah aJ).bind fun v2 =>
(cond (decide (v2<0))
(some ((StoreT.mk [] 0),false))
(cond (ah.Clock==999)
(some ((StoreT.mk [] 0),false))
((G.iO n ah aJ).bind fun v3 =>
(some (v3,true))))))
(some ((StoreT.mk [] 0),false))))
mutual
def G.eX.K4 (f:Nat) (ah:StoreT) (aJ:aC) (v1:af) (v2:StoreT) (ak:Int) (Oq:Bool) (z5:List aB):Option (StoreT):=match f with
| 0=>none
| n+1 =>
(chk (0<=ak/\ak<((v2.Items.length:Nat):Int))
(cond ((v2.Items.getD ak.toNat default).Name==aJ)
(G.eX.L3 n ah aJ v1 v2 Oq (IntKind.wrap .i64 (ak+1)) z5)
(chk (0<=ak/\ak<((v2.Items.length:Nat):Int))
(chk ((z5.length+1)*112<=2^46)
(G.eX.L3 n ah aJ v1 v2 Oq (IntKind.wrap .i64 (ak+1)) (z5++[(aB.mk ((v2.Items.getD ak.toNat default).Name) ((v2.Items.getD ak.toNat default).Version) ((v2.Items.getD ak.toNat default).Node))]))))))
def G.eX.L3 (f:Nat) (ah:StoreT) (aJ:aC) (v1:af) (v2:StoreT) (Oo:Bool) (ak:Int) (z4:List aB):Option (StoreT):=match f with
| 0=>none
| n+1 =>
(cond (decide (ak<((v2.Items.length:Nat):Int)))
(cond Oo
(G.eX.K4 n ah aJ v1 v2 ak true z4)
(chk (0<=ak/\ak<((v2.Items.length:Nat):Int))
(cond (Op.bytesLess ((v2.Items.getD ak.toNat default).Name) aJ)
(G.eX.K4 n ah aJ v1 v2 ak false z4)
(chk ((z4.length+1)*112<=2^46)
(G.eX.K4 n ah aJ v1 v2 ak true (z4++[(aB.mk aJ (IntKind.wrap .i64 (ah.Clock+1)) v1)]))))))
(cond Oo
(some ((StoreT.mk z4 (IntKind.wrap .i64 (ah.Clock+1)))))
(chk ((z4.length+1)*112<=2^46)
(some ((StoreT.mk (z4++[(aB.mk aJ (IntKind.wrap .i64 (ah.Clock+1)) v1)]) (IntKind.wrap .i64 (ah.Clock+1))))))))
end
def G.eX (f:Nat) (ah:StoreT) (aJ:aC) (ag:af):Option (StoreT):=match f with
| 0=>none
| n+1 =>
((G.au n ag).bind fun v1 =>
((G.aQ n ah).bind fun v2 =>
(G.eX.L3 n ah aJ v1 v2 false 0 [])))
def G.nN (f:Nat) (ah:StoreT) (aJ:aC) (ag:af):Option (StoreT × Bool):=match f with
| 0=>none
| n+1 =>
((G.aZ n ah).bind fun v1 =>
(cond v1
((G.dm n aJ).bind fun v2 =>
(cond v2
((G.aV n ag).bind fun v3 =>
(cond v3
((G.eX n ah aJ ag).bind fun v4 =>
((G.aZ n v4).bind fun v5 =>
(cond v5
(some (v4,true))
(some ((StoreT.mk [] 0),false)))))
(some ((StoreT.mk [] 0),false))))
(some ((StoreT.mk [] 0),false))))
(some ((StoreT.mk [] 0),false))))
mutual
def G.dG.K4 (f:Nat) (uP:Int) (Gh:List aB) (TY:Int) (Xh:Bool) (Qr:List Int) (U7:Int) (Vu:List aB) (y20:Int):Option (StoreT × ReaderT):=match f with
| 0=>none
| n+1 =>
(cond Xh
(G.dG.L3 n (IntKind.wrap .i64 (uP-1)) Qr U7 Vu y20)
(G.dG.L3 n (IntKind.wrap .i64 (uP-1)) Qr U7 Gh TY))
def G.dG.L3 (f:Nat) (uP:Int) (y13:List Int) (Hq:Int) (Gh:List aB) (TY:Int):Option (StoreT × ReaderT):=match f with
| 0=>none
| n+1 =>
(cond (decide (0<uP))
((G.jJ n (ReaderT.mk y13 Hq)).bind fun v20 =>
((G.dJ n v20.2).bind fun v21 =>
((G.nN n (StoreT.mk Gh TY) v20.1 v21.1).bind fun v22 =>
((G.ay n v21.2 8).bind fun v26 =>
(cond (v26.1==0)
((G.jJ n v26.2).bind fun v27 =>
((G.mQ n (StoreT.mk Gh TY) v27.1).bind fun v28 =>
(G.dG.K4 n uP Gh TY v28.2 v27.2.b v27.2.p v28.1.Items v28.1.Clock)))
(G.dG.K4 n uP Gh TY v22.2 v26.2.b v26.2.p v22.1.Items v22.1.Clock))))))
(some ((StoreT.mk Gh TY),(ReaderT.mk y13 Hq))))
end
def G.dG (f:Nat) (bQ:ReaderT):Option (StoreT × ReaderT):=match f with
| 0=>none
| n+1 =>
((G.bZ n bQ [3,4,2,5,0,12]).bind fun v1 =>
(G.dG.L3 n v1.1 v1.2.b v1.2.p [] 0))
def G.lQ (f:Nat) (bQ:ReaderT):Option (StoreT × ReaderT):=match f with
| 0=>none
| n+1 =>
((G.dG n bQ).bind fun v1 =>
((G.ay n v1.2 30).bind fun v2 =>
(cond (v2.1==0)
((G.bZ n v2.2 [0,999,1000,(-1)]).bind fun v3 =>
(some ((StoreT.mk v1.1.Items v3.1),v3.2)))
(cond (v2.1==1)
((G.jS n v2.2).bind fun v4 =>
(chk ((v1.1.Items.length+1)*112<=2^46)
(some ((StoreT.mk (v1.1.Items++[(aB.mk v4.1 1 (af.mk 0 0 [] [] []))]) v1.1.Clock),v4.2))))
(cond (v2.1==2)
(cond (decide (0<((v1.1.Items.length:Nat):Int)))
((G.bZ n v2.2 [0,(IntKind.wrap .i64 (v1.1.Clock+1)),1]).bind fun v5 =>
(chk (0<=0/\0<((v1.1.Items.length:Nat):Int))
(some ((StoreT.mk (v1.1.Items.set 0 (aB.mk ((v1.1.Items.getD 0 default).Name) v5.1 ((v1.1.Items.getD 0 default).Node))) v1.1.Clock),v5.2))))
(some (v1.1,v2.2)))
(cond (v2.1==3)
(cond (decide (0<((v1.1.Items.length:Nat):Int)))
((G.iR n v2.2).bind fun v6 =>
(chk (0<=0/\0<((v1.1.Items.length:Nat):Int))
(some ((StoreT.mk (v1.1.Items.set 0 (aB.mk ((v1.1.Items.getD 0 default).Name) ((v1.1.Items.getD 0 default).Version) v6.1)) v1.1.Clock),v6.2))))
(some (v1.1,v2.2)))
(some (v1.1,v2.2))))))))
def G.kZ (f:Nat) (nM:List Int):Option (ReaderT):=match f with
| 0=>none
| n+1 =>
(cond (decide (2000<((nM.length:Nat):Int)))
(chk (0<=0/\0<=2000/\2000<=((nM.length:Nat):Int))
(some ((ReaderT.mk (nM.take 2000) 0))))
(some ((ReaderT.mk nM 0))))
def G.iC (f:Nat) (nM:List Int):Option (StoreT × RequestT):=match f with
| 0=>none
| n+1 =>
((G.kZ n nM).bind fun v1 =>
((G.lQ n v1).bind fun v2 =>
((G.kL n v2.2 v2.1).bind fun v3 =>
(some (v2.1,v3.1)))))
def G.iq (f:Nat) (vO:Int):Option (bn):=match f with
| 0=>none
| n+1 =>
(some ((bn.mk vO [] 0 (af.mk 0 0 [] [] []))))
def G.iU.L1 (f:Nat) (ai:List aC) (qY:List aC) (ak:Int):Option (Bool):=match f with
| 0=>none
| n+1 =>
(cond (decide (ak<((qY.length:Nat):Int)))
(cond (decide (((ai.length:Nat):Int)<=ak))
(some (false))
(chk (0<=ak/\ak<((ai.length:Nat):Int))
(chk (0<=ak/\ak<((qY.length:Nat):Int))
(cond ((ai.getD ak.toNat default)==(qY.getD ak.toNat default))
(G.iU.L1 n ai qY (IntKind.wrap .i64 (ak+1)))
(some (false))))))
(some (true)))
def G.iU (f:Nat) (ai:List aC) (qY:List aC):Option (Bool):=match f with
| 0=>none
| n+1 =>
(G.iU.L1 n ai qY 0)
def G.iG (f:Nat) (dI:Bool):Option (Int):=match f with
| 0=>none
| n+1 =>
(cond dI
(some (1))
(some (0)))
def G.jX (f:Nat) (dF:Int) (dI:Int):Option (Int):=match f with
| 0=>none
| n+1 =>
((G.iG n (decide (dI<dF))).bind fun v1 =>
((G.iG n (decide (dF<dI))).bind fun v2 =>
(some ((IntKind.wrap .i64 (v1-v2))))))
def G.jv (f:Nat) (dF:aC) (dI:aC):Option (Int):=match f with
| 0=>none
| n+1 =>
(cond (Op.bytesLess dF dI)
((G.iG n false).bind fun v1 =>
((G.iG n true).bind fun v2 =>
(some ((IntKind.wrap .i64 (v1-v2))))))
(cond (dF==dI)
((G.iG n false).bind fun v3 =>
((G.iG n false).bind fun v4 =>
(some ((IntKind.wrap .i64 (v3-v4))))))
((G.iG n true).bind fun v5 =>
((G.iG n false).bind fun v6 =>
(some ((IntKind.wrap .i64 (v5-v6))))))))
mutual
def G.cO.L1 (f:Nat) (dF:af) (dI:af) (ak:Int):Option (Int):=match f with
| 0=>none
| n+1 =>
(cond (decide (ak<((dF.Kids.length:Nat):Int)))
(cond (decide (ak<((dI.Kids.length:Nat):Int)))
(cond (dF.Kind==4)
(chk (0<=ak/\ak<((dF.Names.length:Nat):Int))
(chk (0<=ak/\ak<((dI.Names.length:Nat):Int))
(cond ((dF.Names.getD ak.toNat default)==(dI.Names.getD ak.toNat default))
(chk (0<=ak/\ak<((dF.Kids.length:Nat):Int))
(chk (0<=ak/\ak<((dI.Kids.length:Nat):Int))
((G.cO n (dF.Kids.getD ak.toNat default) (dI.Kids.getD ak.toNat default)).bind fun v9 =>
(cond (v9 != 0)
(some (v9))
(G.cO.L1 n dF dI (IntKind.wrap .i64 (ak+1)))))))
(chk (0<=ak/\ak<((dF.Names.length:Nat):Int))
(chk (0<=ak/\ak<((dI.Names.length:Nat):Int))
((G.jv n (dF.Names.getD ak.toNat default) (dI.Names.getD ak.toNat default)).bind fun v10 =>
(some (v10))))))))
(chk (0<=ak/\ak<((dF.Kids.length:Nat):Int))
(chk (0<=ak/\ak<((dI.Kids.length:Nat):Int))
((G.cO n (dF.Kids.getD ak.toNat default) (dI.Kids.getD ak.toNat default)).bind fun v11 =>
(cond (v11 != 0)
(some (v11))
(G.cO.L1 n dF dI (IntKind.wrap .i64 (ak+1))))))))
((G.jX n ((dF.Kids.length:Nat):Int) ((dI.Kids.length:Nat):Int)).bind fun v12 =>
(some (v12))))
((G.jX n ((dF.Kids.length:Nat):Int) ((dI.Kids.length:Nat):Int)).bind fun v13 =>
(some (v13))))
def G.cO (f:Nat) (dF:af) (dI:af):Option (Int):=match f with
| 0=>none
| n+1 =>
(cond (dF.Kind != dI.Kind)
((G.jX n dF.Kind dI.Kind).bind fun v1 =>
(some (v1)))
(cond (dF.Num != dI.Num)
((G.jX n dF.Num dI.Num).bind fun v2 =>
(some (v2)))
(cond (dF.Text==dI.Text)
(G.cO.L1 n dF dI 0)
((G.jv n dF.Text dI.Text).bind fun v14 =>
(some (v14))))))
end
def G.nT (f:Nat) (dF:af) (dI:af):Option (Bool):=match f with
| 0=>none
| n+1 =>
((G.cO n dF dI).bind fun v1 =>
(some ((v1==0))))
def G.gK.K1 (f:Nat) (ag:af) (iQ:lU) (U6:List aC):Option (af × Bool):=match f with
| 0=>none
| n+1 =>
((G.kH n ag U6).bind fun v4 =>
(cond v4.2
(cond (iQ.Kind==6)
((G.nT n v4.1 iQ.Value).bind fun v5 =>
(some (ag,v5)))
(cond (iQ.Kind==5)
((G.kG n ag iQ.Path v4.1).bind fun v6 =>
(some (v6.1,v6.2)))
((G.iU n iQ.Path iQ.From).bind fun v7 =>
(cond v7
((G.au n ag).bind fun v8 =>
(some (v8,(((iQ.Path.length:Nat):Int)==((iQ.From.length:Nat):Int)))))
((G.dY n ag iQ.From).bind fun v9 =>
(cond v9.2
((G.kG n v9.1 iQ.Path v4.1).bind fun v10 =>
(some (v10.1,v10.2)))
(some ((af.mk 0 0 [] [] []),false))))))))
(some ((af.mk 0 0 [] [] []),false))))
def G.gK (f:Nat) (ag:af) (iQ:lU):Option (af × Bool):=match f with
| 0=>none
| n+1 =>
(cond (iQ.Kind==1)
((G.kG n ag iQ.Path iQ.Value).bind fun v1 =>
(some (v1.1,v1.2)))
(cond (iQ.Kind==2)
((G.dY n ag iQ.Path).bind fun v2 =>
(some (v2.1,v2.2)))
(cond (iQ.Kind==3)
((G.iY n ag iQ.Path iQ.Value).bind fun v3 =>
(some (v3.1,v3.2)))
(cond (iQ.Kind==6)
(G.gK.K1 n ag iQ iQ.Path)
(G.gK.K1 n ag iQ iQ.From)))))
def G.jH (f:Nat) (ag:af) (xM:Bool):Option (af × Bool):=match f with
| 0=>none
| n+1 =>
(cond xM
((G.aV n ag).bind fun v1 =>
(cond v1
(some (ag,true))
(some ((af.mk 0 0 [] [] []),false))))
(some ((af.mk 0 0 [] [] []),false)))
def G.jR (f:Nat) (ag:af) (iQ:lU):Option (af × Bool):=match f with
| 0=>none
| n+1 =>
((G.gK n ag iQ).bind fun v1 =>
((G.jH n v1.1 v1.2).bind fun v2 =>
(cond v2.2
((G.au n v2.1).bind fun v3 =>
(some (v3,true)))
(some ((af.mk 0 0 [] [] []),false)))))
def G.eU.L1 (f:Nat) (ai:List aC) (ak:Int):Option (Bool):=match f with
| 0=>none
| n+1 =>
(cond (decide (ak<((ai.length:Nat):Int)))
(chk (0<=ak/\ak<((ai.length:Nat):Int))
((G.dw n (ai.getD ak.toNat default)).bind fun v3 =>
(cond v3
(G.eU.L1 n ai (IntKind.wrap .i64 (ak+1)))
(some (false)))))
(some ((decide (((ai.length:Nat):Int)<=5)))))
def G.eU (f:Nat) (ai:List aC):Option (Bool):=match f with
| 0=>none
| n+1 =>
(G.eU.L1 n ai 0)
def G.lI (f:Nat) (iQ:lU):Option (Bool):=match f with
| 0=>none
| n+1 =>
((G.cZ n iQ.Kind 1 6).bind fun v1 =>
(cond v1
((G.eU n iQ.Path).bind fun v2 =>
(cond v2
((G.eU n iQ.From).bind fun v3 =>
(cond v3
((G.aV n iQ.Value).bind fun v4 =>
(some (v4)))
(some (false))))
(some (false))))
(some (false))))
def G.dB.L1 (f:Nat) (aA:List lU) (ak:Int):Option (Bool):=match f with
| 0=>none
| n+1 =>
(cond (decide (ak<((aA.length:Nat):Int)))
(chk (0<=ak/\ak<((aA.length:Nat):Int))
((G.lI n (lU.mk ((aA.getD ak.toNat default).Kind) ((aA.getD ak.toNat default).Path) ((aA.getD ak.toNat default).From) ((aA.getD ak.toNat default).Value))).bind fun v3 =>
(cond v3
(G.dB.L1 n aA (IntKind.wrap .i64 (ak+1)))
(some (false)))))
(some ((decide (((aA.length:Nat):Int)<=12)))))
def G.dB (f:Nat) (aA:List lU):Option (Bool):=match f with
| 0=>none
| n+1 =>
(G.dB.L1 n aA 0)
def G.dS.L1 (f:Nat) (aA:List lU) (ak:Int) (y6:Int) (y7:Int) (y8:aC) (y9:List aC) (zf:List af):Option (af × Bool):=match f with
| 0=>none
| n+1 =>
(cond (decide (ak<((aA.length:Nat):Int)))
(chk (0<=ak/\ak<((aA.length:Nat):Int))
((G.jR n (af.mk y6 y7 y8 y9 zf) (lU.mk ((aA.getD ak.toNat default).Kind) ((aA.getD ak.toNat default).Path) ((aA.getD ak.toNat default).From) ((aA.getD ak.toNat default).Value))).bind fun v6 =>
(cond v6.2
(G.dS.L1 n aA (IntKind.wrap .i64 (ak+1)) v6.1.Kind v6.1.Num v6.1.Text v6.1.Names v6.1.Kids)
(some ((af.mk 0 0 [] [] []),false)))))
(some ((af.mk y6 y7 y8 y9 zf),true)))
def G.dS (f:Nat) (ag:af) (aA:List lU):Option (af × Bool):=match f with
| 0=>none
| n+1 =>
((G.aV n ag).bind fun v1 =>
(cond v1
((G.dB n aA).bind fun v2 =>
(cond v2
((G.au n ag).bind fun v3 =>
(G.dS.L1 n aA 0 v3.Kind v3.Num v3.Text v3.Names v3.Kids))
(some ((af.mk 0 0 [] [] []),false))))
(some ((af.mk 0 0 [] [] []),false))))
mutual
def G.dW.L2 (f:Nat) (aS:af) (ak:Int) (Lc:Int) (Ld:Int) (y13:aC) (Hq:List aC) (Gh:List af):Option (af):=match f with
| 0=>none
| n+1 =>
(cond (decide (ak<((aS.Kids.length:Nat):Int)))
(chk (0<=ak/\ak<((aS.Names.length:Nat):Int))
((G.dD n (af.mk Lc Ld y13 Hq Gh) (aS.Names.getD ak.toNat default)).bind fun v19 =>
(chk (0<=ak/\ak<((aS.Kids.length:Nat):Int))
(cond ((aS.Kids.getD ak.toNat default).Kind==0)
(cond (decide (0<=v19))
((G.dY n (af.mk Lc Ld y13 Hq Gh) [(aS.Names.getD ak.toNat default)]).bind fun v20 =>
(G.dW.L2 n aS (IntKind.wrap .i64 (ak+1)) v20.1.Kind v20.1.Num v20.1.Text v20.1.Names v20.1.Kids))
(chk (0<=ak/\ak<((aS.Kids.length:Nat):Int))
(cond ((aS.Kids.getD ak.toNat default).Kind != 0)
(chk (0<=ak/\ak<((aS.Kids.length:Nat):Int))
(chk (0<=ak/\ak<((aS.Kids.length:Nat):Int))
((G.dW n (af.mk 0 0 [] [] []) (aS.Kids.getD ak.toNat default)).bind fun v21 =>
((G.gZ n (af.mk Lc Ld y13 Hq Gh) (aS.Names.getD ak.toNat default) v21).bind fun v22 =>
(G.dW.L2 n aS (IntKind.wrap .i64 (ak+1)) v22.1.Kind v22.1.Num v22.1.Text v22.1.Names v22.1.Kids)))))
(chk (0<=ak/\ak<((aS.Kids.length:Nat):Int))
(G.dW.L2 n aS (IntKind.wrap .i64 (ak+1)) Lc Ld y13 Hq Gh)))))
(chk (0<=ak/\ak<((aS.Kids.length:Nat):Int))
(cond ((aS.Kids.getD ak.toNat default).Kind != 0)
(cond (decide (0<=v19))
(chk (0<=v19/\v19<((Gh.length:Nat):Int))
(chk (0<=ak/\ak<((aS.Kids.length:Nat):Int))
((G.dW n (Gh.getD v19.toNat default) (aS.Kids.getD ak.toNat default)).bind fun v23 =>
((G.iL n (af.mk Lc Ld y13 Hq Gh) v19 v23).bind fun v24 =>
(G.dW.L2 n aS (IntKind.wrap .i64 (ak+1)) v24.Kind v24.Num v24.Text v24.Names v24.Kids)))))
(chk (0<=ak/\ak<((aS.Kids.length:Nat):Int))
(chk (0<=ak/\ak<((aS.Kids.length:Nat):Int))
((G.dW n (af.mk 0 0 [] [] []) (aS.Kids.getD ak.toNat default)).bind fun v25 =>
((G.gZ n (af.mk Lc Ld y13 Hq Gh) (aS.Names.getD ak.toNat default) v25).bind fun v26 =>
(G.dW.L2 n aS (IntKind.wrap .i64 (ak+1)) v26.1.Kind v26.1.Num v26.1.Text v26.1.Names v26.1.Kids))))))
(chk (0<=ak/\ak<((aS.Kids.length:Nat):Int))
(G.dW.L2 n aS (IntKind.wrap .i64 (ak+1)) Lc Ld y13 Hq Gh))))))))
(some ((af.mk Lc Ld y13 Hq Gh))))
def G.dW.K1 (f:Nat) (aS:af) (y1:Int) (y2:Int) (y3:aC) (y4:List aC) (y5:List af):Option (af):=match f with
| 0=>none
| n+1 =>
(G.dW.L2 n aS 0 y1 y2 y3 y4 y5)
def G.dW (f:Nat) (ag:af) (aS:af):Option (af):=match f with
| 0=>none
| n+1 =>
(cond (aS.Kind != 4)
((G.au n aS).bind fun v1 =>
(some (v1)))
(cond (ag.Kind==4)
((G.au n ag).bind fun v27 =>
(G.dW.K1 n aS v27.Kind v27.Num v27.Text v27.Names v27.Kids))
(G.dW.K1 n aS 4 0 [] [] [])))
end
def G.jQ (f:Nat) (ag:af) (aS:af):Option (af × Bool):=match f with
| 0=>none
| n+1 =>
((G.aV n ag).bind fun v1 =>
(cond v1
((G.aV n aS).bind fun v2 =>
(cond v2
((G.dW n ag aS).bind fun v3 =>
((G.jH n v3 true).bind fun v4 =>
(some (v4.1,v4.2))))
(some ((af.mk 0 0 [] [] []),false))))
(some ((af.mk 0 0 [] [] []),false))))
def G.iP.L1 (f:Nat) (aA:List aC) (jh:aC) (ak:Int):Option (Bool):=match f with
| 0=>none
| n+1 =>
(cond (decide (ak<((aA.length:Nat):Int)))
(chk (0<=ak/\ak<((aA.length:Nat):Int))
(cond ((aA.getD ak.toNat default)==jh)
(some (true))
(chk (0<=ak/\ak<((aA.length:Nat):Int))
(cond ((aA.getD ak.toNat default)==[42])
(some (true))
(G.iP.L1 n aA jh (IntKind.wrap .i64 (ak+1)))))))
(some (false)))
def G.iP (f:Nat) (aA:List aC) (jh:aC):Option (Bool):=match f with
| 0=>none
| n+1 =>
(G.iP.L1 n aA jh 0)
def G.lZ (f:Nat) (og:List aC) (lJ:List aC) (jh:aC) (nC:Bool):Option (Int):=match f with
| 0=>none
| n+1 =>
(cond (decide (0<((og.length:Nat):Int)))
(cond (jh==[])
(some (412))
((G.iP n og jh).bind fun v1 =>
(cond v1
(cond (decide (0<((lJ.length:Nat):Int)))
((G.iP n lJ jh).bind fun v2 =>
(cond v2
(cond nC
(some (304))
(some (412)))
(some (200))))
(some (200)))
(some (412)))))
(cond (decide (0<((lJ.length:Nat):Int)))
(cond (jh==[])
(some (200))
((G.iP n lJ jh).bind fun v3 =>
(cond v3
(cond nC
(some (304))
(some (412)))
(some (200)))))
(some (200))))
def G.kM (f:Nat) (ah:StoreT) (aJ:aC):Option (aC):=match f with
| 0=>none
| n+1 =>
((G.iE n ah aJ).bind fun v1 =>
(cond (decide (v1<0))
(some ([]))
(chk (0<=v1/\v1<((ah.Items.length:Nat):Int))
((G.bH n ((ah.Items.getD v1.toNat default).Node)).bind fun v2 =>
((G.jy n v2).bind fun v3 =>
((G.nP n v3).bind fun v4 =>
(some (v4))))))))
def G.iD.K1 (f:Nat) (ah:StoreT) (aJ:aC) (ag:af) (Qq:Int):Option (StoreT × bn):=match f with
| 0=>none
| n+1 =>
((G.eX n ah aJ ag).bind fun v2 =>
((G.aZ n v2).bind fun v3 =>
(cond v3
((G.kM n v2 aJ).bind fun v4 =>
(some (v2,(bn.mk Qq v4 v2.Clock (af.mk 0 0 [] [] [])))))
((G.aQ n ah).bind fun v5 =>
((G.iq n 422).bind fun v6 =>
(some (v5,v6)))))))
def G.iD (f:Nat) (ah:StoreT) (aJ:aC) (ag:af):Option (StoreT × bn):=match f with
| 0=>none
| n+1 =>
((G.iE n ah aJ).bind fun v7 =>
(cond (decide (v7<0))
(G.iD.K1 n ah aJ ag 201)
(G.iD.K1 n ah aJ ag 200)))
def G.fP.K1 (f:Nat) (ah:StoreT) (bC:RequestT) (KX:Bool) (y1:Int) (y2:Int) (y3:aC) (y4:List aC) (y5:List af):Option (StoreT × bn):=match f with
| 0=>none
| n+1 =>
(cond KX
((G.iD n ah bC.Name (af.mk y1 y2 y3 y4 y5)).bind fun v17 =>
(some (v17.1,v17.2)))
((G.aQ n ah).bind fun v18 =>
((G.iq n 422).bind fun v19 =>
(some (v18,v19)))))
def G.fP.K2 (f:Nat) (ah:StoreT) (bC:RequestT) (Xg:Bool) (y6:Int) (y7:Int) (y8:aC) (y9:List aC) (zf:List af):Option (StoreT × bn):=match f with
| 0=>none
| n+1 =>
(cond Xg
((G.iD n ah bC.Name (af.mk y6 y7 y8 y9 zf)).bind fun v34 =>
(some (v34.1,v34.2)))
((G.aQ n ah).bind fun v35 =>
((G.iq n 422).bind fun v36 =>
(some (v35,v36)))))
def G.fP (f:Nat) (ah:StoreT) (bC:RequestT):Option (StoreT × bn):=match f with
| 0=>none
| n+1 =>
((G.iE n ah bC.Name).bind fun v1 =>
(cond (decide (v1<0))
(cond (bC.Method != 2)
((G.aQ n ah).bind fun v2 =>
((G.iq n 404).bind fun v3 =>
(some (v2,v3))))
((G.kM n ah bC.Name).bind fun v4 =>
((G.lZ n bC.Want bC.l7 v4 (bC.Method==1)).bind fun v5 =>
(cond (v5 != 200)
((G.aQ n ah).bind fun v6 =>
((G.iq n v5).bind fun v7 =>
(some (v6,v7))))
(cond (bC.Method==1)
((G.aQ n ah).bind fun v8 =>
((G.kM n ah bC.Name).bind fun v9 =>
(chk (0<=v1/\v1<((ah.Items.length:Nat):Int))
(chk (0<=v1/\v1<((ah.Items.length:Nat):Int))
((G.au n ((ah.Items.getD v1.toNat default).Node)).bind fun v10 =>
(some (v8,(bn.mk v5 v9 ((ah.Items.getD v1.toNat default).Version) v10))))))))
(cond (bC.Method==2)
((G.iD n ah bC.Name bC.Body).bind fun v11 =>
(some (v11.1,v11.2)))
(cond (bC.Method==3)
(cond (ah.Clock==999)
((G.aQ n ah).bind fun v12 =>
((G.iq n 422).bind fun v13 =>
(some (v12,v13))))
((G.iO n ah bC.Name).bind fun v14 =>
(some (v14,(bn.mk v5 [] (IntKind.wrap .i64 (ah.Clock+1)) (af.mk 0 0 [] [] []))))))
(chk (0<=v1/\v1<((ah.Items.length:Nat):Int))
((G.dS n ((ah.Items.getD v1.toNat default).Node) bC.Ops).bind fun v15 =>
(cond (bC.Method==5)
(chk (0<=v1/\v1<((ah.Items.length:Nat):Int))
((G.jQ n ((ah.Items.getD v1.toNat default).Node) bC.Body).bind fun v20 =>
(G.fP.K1 n ah bC v20.2 v20.1.Kind v20.1.Num v20.1.Text v20.1.Names v20.1.Kids)))
(G.fP.K1 n ah bC v15.2 v15.1.Kind v15.1.Num v15.1.Text v15.1.Names v15.1.Kids)))))))))))
((G.kM n ah bC.Name).bind fun v21 =>
((G.lZ n bC.Want bC.l7 v21 (bC.Method==1)).bind fun v22 =>
(cond (v22 != 200)
((G.aQ n ah).bind fun v23 =>
((G.iq n v22).bind fun v24 =>
(some (v23,v24))))
(cond (bC.Method==1)
((G.aQ n ah).bind fun v25 =>
((G.kM n ah bC.Name).bind fun v26 =>
(chk (0<=v1/\v1<((ah.Items.length:Nat):Int))
(chk (0<=v1/\v1<((ah.Items.length:Nat):Int))
((G.au n ((ah.Items.getD v1.toNat default).Node)).bind fun v27 =>
(some (v25,(bn.mk v22 v26 ((ah.Items.getD v1.toNat default).Version) v27))))))))
(cond (bC.Method==2)
((G.iD n ah bC.Name bC.Body).bind fun v28 =>
(some (v28.1,v28.2)))
(cond (bC.Method==3)
(cond (ah.Clock==999)
((G.aQ n ah).bind fun v29 =>
((G.iq n 422).bind fun v30 =>
(some (v29,v30))))
((G.iO n ah bC.Name).bind fun v31 =>
(some (v31,(bn.mk v22 [] (IntKind.wrap .i64 (ah.Clock+1)) (af.mk 0 0 [] [] []))))))
(chk (0<=v1/\v1<((ah.Items.length:Nat):Int))
((G.dS n ((ah.Items.getD v1.toNat default).Node) bC.Ops).bind fun v32 =>
(cond (bC.Method==5)
(chk (0<=v1/\v1<((ah.Items.length:Nat):Int))
((G.jQ n ((ah.Items.getD v1.toNat default).Node) bC.Body).bind fun v37 =>
(G.fP.K2 n ah bC v37.2 v37.1.Kind v37.1.Num v37.1.Text v37.1.Names v37.1.Kids)))
(G.fP.K2 n ah bC v32.2 v32.1.Kind v32.1.Num v32.1.Text v32.1.Names v32.1.Kids))))))))))))
def G.gV.L1 (f:Nat) (ah:aC) (ak:Int):Option (Bool):=match f with
| 0=>none
| n+1 =>
(cond (decide (ak<((ah.length:Nat):Int)))
(chk (0<=ak/\ak<((ah.length:Nat):Int))
((G.cZ n (IntKind.wrap .i64 ((((ah.getD ak.toNat 0).toNat:Nat):Int))) 48 57).bind fun v5 =>
(cond v5
(G.gV.L1 n ah (IntKind.wrap .i64 (ak+1)))
(chk (0<=ak/\ak<((ah.length:Nat):Int))
((G.cZ n (IntKind.wrap .i64 ((((ah.getD ak.toNat 0).toNat:Nat):Int))) 97 102).bind fun v6 =>
(cond v6
(G.gV.L1 n ah (IntKind.wrap .i64 (ak+1)))
(some (false))))))))
(some ((((ah.length:Nat):Int)==4))))
def G.gV (f:Nat) (ah:aC):Option (Bool):=match f with
| 0=>none
| n+1 =>
(G.gV.L1 n ah 0)
def G.fC.L1 (f:Nat) (aA:List aC) (ak:Int):Option (Bool):=match f with
| 0=>none
| n+1 =>
(cond (decide (ak<((aA.length:Nat):Int)))
(chk (0<=ak/\ak<((aA.length:Nat):Int))
(cond ((aA.getD ak.toNat default)==[42])
(G.fC.L1 n aA (IntKind.wrap .i64 (ak+1)))
(chk (0<=ak/\ak<((aA.length:Nat):Int))
((G.gV n (aA.getD ak.toNat default)).bind fun v3 =>
(cond v3
(G.fC.L1 n aA (IntKind.wrap .i64 (ak+1)))
(some (false)))))))
(some ((decide (((aA.length:Nat):Int)<=4)))))
def G.fC (f:Nat) (aA:List aC):Option (Bool):=match f with
| 0=>none
| n+1 =>
(G.fC.L1 n aA 0)
def G.jf (f:Nat) (bC:RequestT):Option (Bool):=match f with
| 0=>none
| n+1 =>
((G.cZ n bC.Method 1 5).bind fun v1 =>
(cond v1
((G.dm n bC.Name).bind fun v2 =>
(cond v2
((G.fC n bC.Want).bind fun v3 =>
(cond v3
((G.fC n bC.l7).bind fun v4 =>
(cond v4
((G.aV n bC.Body).bind fun v5 =>
(cond v5
((G.dB n bC.Ops).bind fun v6 =>
(some (v6)))
(some (false))))
(some (false))))
(some (false))))
(some (false))))
(some (false))))
def G.gW (f:Nat) (ah:StoreT) (bC:RequestT):Option (StoreT × bn):=match f with
| 0=>none
| n+1 =>
((G.aZ n ah).bind fun v1 =>
(cond v1
((G.jf n bC).bind fun v2 =>
(cond v2
((G.fP n ah bC).bind fun v3 =>
(some (v3.1,v3.2)))
((G.iq n 400).bind fun v4 =>
(some ((StoreT.mk [] 0),v4)))))
((G.iq n 400).bind fun v5 =>
(some ((StoreT.mk [] 0),v5)))))
def G.YQ (f:Nat) (nM:List Int):Option (StoreT × RequestT):=match f with
| 0=>none
| n+1 =>
((G.iC n nM).bind fun v1 =>
(some (v1.1,v1.2)))
def G.YR (f:Nat) (ah:StoreT) (bC:RequestT):Option (Bool):=match f with
| 0=>none
| n+1 =>
((G.aZ n ah).bind fun v1 =>
(cond v1
((G.jf n bC).bind fun v2 =>
(cond v2
((G.fP n ah bC).bind fun v3 =>
(cond (v3.2.Status==200)
(some (true))
(some ((v3.2.Status==201)))))
(some (false))))
(some (false))))
end Go.Ab
end
section
namespace Go.Ab
open Go
set_option maxRecDepth 100000
set_option linter.defProp false
theorem Su {α β:Type} (f:α->β) (l:List α) (n:Nat):List.take n (List.map f l)=List.map f (List.take n l):=List.map_take.symm
theorem Sr {α β:Type} (f:α->β) (l:List α) (n:Nat):List.drop n (List.map f l)=List.map f (List.drop n l):=List.map_drop.symm
theorem X5 {i:Int} {m:Nat} [inst:Decidable (0<=i/\i<(m:Int))] {α:Type} {k:Option α} {r:α} (h:chk (0<=i/\i<(m:Int)) k=some r):(0<=i/\i<(m:Int))/\i.toNat<m/\k=some r:=by
  obtain ⟨h1,h2⟩:=mg.1 h
  exact ⟨h1,by omega,h2⟩
inductive Mk:Nat->Prop
  | mk (n:Nat):Mk n
theorem X4 {m:Nat} [inst:Decidable ((0:Nat)<=0/\(0:Int)<(m:Int))] {α:Type} {k:Option α} {r:α} (h:chk ((0:Nat)<=0/\(0:Int)<(m:Int)) k=some r):(0:Int)<(m:Int)/\0<m/\k=some r:=by
  obtain ⟨h1,h2⟩:=mg.1 h
  exact ⟨h1.2,by omega,h2⟩
theorem kq {c:Prop} [Decidable c] {α:Type} {k:Option α} {r:α} (h:chk c k=some r):c/\k=some r:=mg.1 h
theorem bq {α β:Type} {x:Option α} {f:α->Option β} {r:β} (h:Option.bind x f=some r):∃ a,x=some a/\f a=some r:=Option.bind_eq_some_iff.1 h
section
variable {P:Program} {Q:AQ} {st:cu}
theorem RF {f:FuncId} {mG:List AV} {p:Bool} {d:Option Nat} {K:List Nat->List Nat->cu->Prop} {du:DU K} (k:mO P f mG p d st K du):mO P f mG p d st K du:=k
theorem RG {a:AQ->cu->Prop} {d1:DU a} {d2:DU Q} (k:wQ a Q st d1 d2):wQ a Q st d1 d2:=k
theorem Vp {a b:AQ->cu->Prop} {d1:DU a} {d2:DU b} {d3:DU Q} (k:Au a b Q st d1 d2 d3):Au a b Q st d1 d2 d3:=k
theorem WY {X:Type} {p:X->Prop} (k:∃ x,p x):∃ x,p x:=k
theorem Vq {rs:List pV} {r:AV} (k:DL rs r st):DL rs r st:=k
theorem Vr {rs:List pV} {m:Nat} {post:AV->List Box->Prop} (k:zi rs m post st):zi rs m post st:=k
end
theorem sq {α:Type} {x r:α} (h:some x=some r):r=x:=(Option.some.inj h).symm
theorem cq {b:Bool} {α:Type} {x y:Option α} {r:α} (h:cond b x y=some r):(b=true/\x=some r)\/(b=false/\y=some r):=oz.1 h
def XX:=And.intro @Qm (And.intro @TN (And.intro @Ql (And.intro @TQ (And.intro @TM (And.intro @Qk (And.intro @Ny (And.intro @Qj (And.intro @TP (And.intro @Qi (And.intro @UD (And.intro @UC (And.intro @OB (And.intro @OA (And.intro @OC (And.intro @Oy (And.intro @Ox (And.intro @Oz (And.intro @Ll (And.intro @Lj (And.intro @Lm (And.intro @Un (And.intro @Uo (And.intro @Ul (And.intro @Um (And.intro @Nz (And.intro @KT (And.intro @TR (And.intro @Qo (And.intro @Vx (And.intro @Wy (And.intro @Wx (And.intro @Vz (And.intro @Us (And.intro @QC (And.intro @OE (And.intro @QB (And.intro @Ag.eq_1 (And.intro @Ag.eq_2 (And.intro @rV.eq_1 (And.intro @rV.eq_2 (And.intro @st0.eq_1 (And.intro @rf.eq_1 (And.intro @rf.eq_2 (And.intro @lV.eq_1 (And.intro @lV.eq_2 (And.intro @dh.valid.eq_1 (And.intro @dh.valid.eq_2 (And.intro @aX.eq_1 (And.intro @Xt (And.intro @Xr (And.intro @Xx (And.intro @XR (And.intro @xC (And.intro @tV (And.intro @V8 (And.intro @U0 (And.intro @UZ (And.intro @qj.eq_1 (And.intro @qj.eq_2 (And.intro @kT.eq_1 (And.intro @kT.eq_2 (And.intro @Ku.eq_1 (And.intro @Ku.eq_2 (And.intro @setB.eq_1 (And.intro @setB.eq_2 (And.intro @PU (And.intro @PV (And.intro @Qa (And.intro @Nk (And.intro @FR.ok.eq_1 (And.intro @DN.eq_1 (And.intro @DN.eq_2 (And.intro @DN.eq_3 (And.intro @AV.flat.eq_1 (And.intro @AV.flat.eq_2 (And.intro @AV.cells.eq_1 (And.intro @AV.cells.eq_2 (And.intro @AV.cells.eq_3 (And.intro @oW.eq_1 (And.intro @oW.eq_2 (And.intro @oW.eq_3 (And.intro @oW.eq_4 (And.intro @IZ.eq_1 (And.intro @EY.eq_1 (And.intro @EY.eq_2 (And.intro @splice.eq_1 (And.intro @Box.arr.eq_1 (And.intro @Box.arr.eq_2 (And.intro @Box.arr.eq_3 (And.intro @dataOf.eq_1 (And.intro @dataOf.eq_2 (And.intro @dataOf.eq_3 (And.intro @dataOf.eq_4 (And.intro @xB.eq_1 (And.intro @xB.eq_2 (And.intro @bnd.eq_1 (And.intro @bnd.eq_2 (And.intro @DF.eq_1 (And.intro @DF.eq_2 (And.intro @RX (And.intro @RV (And.intro @xk.eq_1 (And.intro @nG.eq_1 (And.intro @oL.eq_1 (And.intro @TF.eq_1 (And.intro @qW.eq_1 (And.intro @qW.eq_2 (And.intro @qW.eq_3 (And.intro @tN.eq_1 (And.intro @tN.eq_2 (And.intro @tN.eq_3 (And.intro @oI.eq_1 (And.intro @oI.eq_2 (And.intro @oI.eq_3 (And.intro @oV.eq_1 (And.intro @oV.eq_2 (And.intro @oV.eq_3 (And.intro @AV.owns.eq_1 (And.intro @AV.owns.eq_2 (And.intro @AV.owns.eq_3 (And.intro @jG.eq_1 (And.intro @jG.eq_2 (And.intro @jG.eq_3 (And.intro @AC.nV.eq_1 (And.intro @AC.nV.eq_2 (And.intro @AC.isLit.eq_1 (And.intro @AC.isLit.eq_2 (And.intro @AV.all.eq_1 (And.intro @AV.all.eq_2 (And.intro @AV.all.eq_3 (And.intro @Cell.isLit.eq_1 (And.intro @Cell.isLit.eq_2 (And.intro @List.mem_cons.{0} (And.intro @List.not_mem_nil.{0} (And.intro @or_false (And.intro @false_or (And.intro @or_true (And.intro @true_or (And.intro @forall_eq.{1} (And.intro @forall_eq_or_imp.{1} (And.intro @true_and (And.intro @and_true (And.intro @true_implies (And.intro @false_implies (And.intro @implies_true.{1} (And.intro @if_true.{1} (And.intro @if_false.{1} (And.intro @Bool.false_eq_true (And.intro @Bool.true_eq_false (And.intro @imp_self (And.intro @and_self (And.intro @cond_true.{1} (And.intro @cond_false.{1} (And.intro @List.map_cons.{0,0} (And.intro @List.map_nil.{0,0} (And.intro @List.take_succ_cons.{0} (And.intro @List.take_zero.{0} (And.intro @List.drop_succ_cons.{0} (And.intro @List.drop_zero.{0} (And.intro @List.take_nil.{0} (And.intro @List.drop_nil.{0} (And.intro @List.cons_append.{0} (And.intro @List.nil_append.{0} (And.intro @List.append_nil.{0} (And.intro @List.length_cons.{0} (And.intro @List.length_nil.{0} (And.intro @List.getElem?_cons_zero.{0} (And.intro @List.getElem?_cons_succ.{0} (And.intro @List.length_map.{0,0} (And.intro @List.length_replicate.{0} (And.intro @List.length_append.{0} (And.intro @List.map_append.{0,0} (And.intro @List.flatMap_cons.{0,0} (And.intro @List.flatMap_nil.{0,0} (And.intro @List.all_cons.{0} (And.intro @List.all_nil.{0} (And.intro @List.contains_cons.{0} (And.intro @List.contains_nil.{0} (And.intro @Bool.and_true (And.intro @Bool.or_false (And.intro @Bool.false_or (And.intro @Bool.true_or (And.intro @Bool.or_true (And.intro @Bool.and_self (And.intro @Bool.not_false (And.intro @Bool.not_true (And.intro @Bool.true_and (And.intro @Bool.false_and (And.intro @Bool.and_false (And.intro @Nat.zero_lt_succ (And.intro @Nat.zero_le (And.intro @Nat.zero_add (And.intro @Nat.le_refl (And.intro @Nat.min_self (And.intro @Xq (And.intro @Xp (And.intro @decide_true (And.intro @decide_false (And.intro @JE.eq_1 (And.intro @JE.eq_2 (And.intro @Je.eq_1 (And.intro @Je.eq_2 (And.intro @Gl.eq_1 (And.intro @Gl.eq_2 (And.intro @Gl.eq_3 (And.intro @AO.eq_1 (And.intro @AO.eq_2 (And.intro @A8.eq_1 (And.intro @A8.eq_2 (And.intro @IY.eq_1 (And.intro @rU.eq_1 (And.intro @rU.eq_2 (And.intro @rU.eq_3 (And.intro @cI.eq_1 (And.intro @cU.eq_1 (And.intro @cB.eq_1 (And.intro @cS.eq_1 (And.intro @cL.eq_1 (And.intro @cK.eq_1 (And.intro @af.eG (And.intro @lU.eG (And.intro @StoreT.eG (And.intro @aB.eG (And.intro @RequestT.eG (And.intro @bn.eG (And.intro @ReaderT.eG (And.intro @List.getD_cons_zero.{0} (And.intro @List.getD_cons_succ.{0} (And.intro @List.map_set.{0,0} (And.intro @List.length_set.{0} (And.intro @O4 (And.intro @take_len (And.intro @yT (And.intro @yU (And.intro @N7 (And.intro @Fa.eq_1 (And.intro @Fa.eq_2 (And.intro @Q5 (And.intro @vz.eq_1 (And.intro @vz.eq_2 (And.intro @LJ (And.intro @tu (And.intro @JI (And.intro @JJ (And.intro @Option.map_some.{0,0} (And.intro @Int.toNat_natCast (And.intro @Int.toNat_zero (And.intro @Su (And.intro @Sr (And.intro @bne_self_eq_false.{0} (And.intro @Bool.bne_true (And.intro @Bool.bne_false (And.intro @List.drop_replicate.{0} (And.intro @Nat.sub_self (And.intro @vk.eq_1 (And.intro @vk.eq_2 (And.intro @vk.eq_3 (And.intro @Option.toList_none.{0} (And.intro @Option.toList_some.{0} (And.intro @II.eq_1 (And.intro @mD.eq_1 (And.intro @mD.eq_2 (And.intro @pR.eq_1 (And.intro @pR.eq_2 (And.intro @eq_self.{1} (And.intro @List.replicate_zero.{0} (And.intro @List.replicate_succ.{0} (And.intro @AY.eq_1 (And.intro @AY.eq_2 (And.intro @oP.eq_1 (And.intro @oP.eq_2 (And.intro @List.set_cons_zero.{0} (And.intro @List.set_cons_succ.{0} (And.intro @VJ (And.intro @rE.eq_1 (And.intro @rE.eq_2 (And.intro @rP.eq_1 (And.intro @rP.eq_2 (And.intro @rP.eq_3 (And.intro @List.zip_cons_cons.{0,0} (And.intro @List.zip_nil_right.{0,0} (And.intro @List.zip_nil_left.{0,0} (And.intro @beq_self_eq_true.{0} @Nat.add_zero)))))))))))))))))))))))))))))))))))))))))))))))))))))))))))))))))))))))))))))))))))))))))))))))))))))))))))))))))))))))))))))))))))))))))))))))))))))))))))))))))))))))))))))))))))))))))))))))))))))))))))))))))))))))))))))))))))))))))))))))))))))))))))))))))))))))))))))))))))))))))))
theorem qi:type_of% XX:=XX
def Ya:=And.intro @F6.eq_1 (And.intro @F6.eq_2 (And.intro @KQ.eq_1 (And.intro @KQ.eq_2 (And.intro @Gz.eq_1 (And.intro @Gz.eq_2 (And.intro @Gz.eq_3 (And.intro @Ol.eq_1 (And.intro @Ol.eq_2 (And.intro @Ol.eq_3 (And.intro @Ol.eq_4 (And.intro @Ai.eq_1 (And.intro @Ai.eq_2 (And.intro @Ai.eq_3 (And.intro @Gf.eq_1 (And.intro @Gf.eq_2 (And.intro @qj.eq_1 (And.intro @qj.eq_2 (And.intro @kT.eq_1 (And.intro @kT.eq_2 (And.intro @true_and (And.intro @and_true (And.intro @implies_true.{1} (And.intro @List.mem_cons.{0} (And.intro @List.not_mem_nil.{0} (And.intro @or_false (And.intro @or_true (And.intro @true_or (And.intro @Box.arr.eq_1 (And.intro @Box.arr.eq_2 (And.intro @Box.arr.eq_3 (And.intro @xk.eq_1 (And.intro @nG.eq_1 (And.intro @oL.eq_1 (And.intro @TF.eq_1 (And.intro @not_false_eq_true (And.intro @false_or (And.intro @Option.some.injEq.{0} (And.intro @true_implies (And.intro @cI.eq_1 (And.intro @cU.eq_1 (And.intro @cB.eq_1 (And.intro @cS.eq_1 (And.intro @cL.eq_1 (And.intro @cK.eq_1 (And.intro @af.eG (And.intro @lU.eG (And.intro @StoreT.eG (And.intro @aB.eG (And.intro @RequestT.eG (And.intro @bn.eG (And.intro @ReaderT.eG (And.intro @List.map_append.{0,0} (And.intro @List.map_cons.{0,0} (And.intro @List.map_nil.{0,0} (And.intro @List.map_set.{0,0} (And.intro @List.map_take.{0,0} (And.intro @List.map_drop.{0,0} (And.intro @List.map_replicate.{0,0} (And.intro @List.length_append.{0} (And.intro @List.length_cons.{0} (And.intro @List.length_nil.{0} (And.intro @List.length_map.{0,0} (And.intro @List.length_set.{0} (And.intro @List.length_replicate.{0} (And.intro @Nat.zero_add (And.intro @Nat.add_zero (And.intro @List.nil_append.{0} (And.intro @List.cons_append.{0} (And.intro @List.append_nil.{0} (And.intro @take_len (And.intro @yT (And.intro @yU @and_self))))))))))))))))))))))))))))))))))))))))))))))))))))))))))))))))))))))))
theorem KP:type_of% Ya:=Ya
def X7:=And.intro @DL.eq_1 (And.intro @uH.eq_1 (And.intro @uH.eq_2 (And.intro @pV.ok.eq_1 (And.intro @pV.ok.eq_2 (And.intro @pV.val.eq_1 (And.intro @pV.val.eq_2 (And.intro @Gs.eq_1 (And.intro @Gs.eq_2 (And.intro @o8.eq_1 (And.intro @o8.eq_2 (And.intro @partOf.eq_1 (And.intro @partOf.eq_2 (And.intro @partOf.eq_3 (And.intro @xC (And.intro @tV (And.intro @zZ (And.intro @Xx (And.intro @XR (And.intro @AV.flat.eq_1 (And.intro @AV.flat.eq_2 (And.intro @oW.eq_1 (And.intro @oW.eq_2 (And.intro @oW.eq_3 (And.intro @oW.eq_4 (And.intro @qj.eq_1 (And.intro @qj.eq_2 (And.intro @kT.eq_1 (And.intro @kT.eq_2 (And.intro @dV.eq_1 (And.intro @dV.eq_2 (And.intro @dV.eq_3 (And.intro @dV.eq_4 (And.intro @dC.eq_1 (And.intro @dC.eq_2 (And.intro @dC.eq_3 (And.intro @dC.eq_4 (And.intro @Ua.eq_1 (And.intro @Ua.eq_2 (And.intro @Ua.eq_3 (And.intro @UF.eq_1 (And.intro @UF.eq_2 (And.intro @UF.eq_3 (And.intro @Box.arr.eq_1 (And.intro @Box.arr.eq_2 (And.intro @Box.arr.eq_3 (And.intro @List.take_succ_cons.{0} (And.intro @List.take_zero.{0} (And.intro @List.drop_zero.{0} (And.intro @List.drop_succ_cons.{0} (And.intro @List.length_cons.{0} (And.intro @List.length_nil.{0} (And.intro @List.getElem?_cons_zero.{0} (And.intro @List.getElem?_cons_succ.{0} (And.intro @true_and (And.intro @and_true (And.intro @Nat.zero_add (And.intro @nG.eq_1 (And.intro @oL.eq_1 (And.intro @xk.eq_1 (And.intro @TF.eq_1 (And.intro @FR.ok.eq_1 (And.intro @cI.eq_1 (And.intro @cU.eq_1 (And.intro @cB.eq_1 (And.intro @cS.eq_1 (And.intro @cL.eq_1 (And.intro @cK.eq_1 (And.intro @af.eG (And.intro @lU.eG (And.intro @StoreT.eG (And.intro @aB.eG (And.intro @RequestT.eG (And.intro @bn.eG (And.intro @ReaderT.eG (And.intro @List.map_append.{0,0} (And.intro @List.map_cons.{0,0} (And.intro @List.map_nil.{0,0} (And.intro @List.map_set.{0,0} (And.intro @List.map_take.{0,0} (And.intro @List.map_drop.{0,0} (And.intro @List.map_replicate.{0,0} (And.intro @List.length_append.{0} (And.intro @List.length_map.{0,0} (And.intro @List.length_set.{0} (And.intro @List.length_replicate.{0} (And.intro @Nat.add_zero (And.intro @List.nil_append.{0} (And.intro @List.cons_append.{0} (And.intro @List.append_nil.{0} (And.intro @take_len (And.intro @yT (And.intro @yU (And.intro @and_self @tu)))))))))))))))))))))))))))))))))))))))))))))))))))))))))))))))))))))))))))))))))))))))))))))
theorem Yx:type_of% X7:=X7
def X8:=And.intro @F6.eq_1 (And.intro @F6.eq_2 (And.intro @KQ.eq_1 (And.intro @KQ.eq_2 (And.intro @Gz.eq_1 (And.intro @Gz.eq_2 (And.intro @Gz.eq_3 (And.intro @Ol.eq_1 (And.intro @Ol.eq_2 (And.intro @Ol.eq_3 (And.intro @Ol.eq_4 (And.intro @Ai.eq_1 (And.intro @Ai.eq_2 (And.intro @Ai.eq_3 (And.intro @Gf.eq_1 (And.intro @Gf.eq_2 (And.intro @qj.eq_1 (And.intro @qj.eq_2 (And.intro @kT.eq_1 (And.intro @kT.eq_2 (And.intro @true_and (And.intro @and_true (And.intro @implies_true.{1} (And.intro @List.mem_cons.{0} (And.intro @List.not_mem_nil.{0} (And.intro @or_false (And.intro @or_true (And.intro @true_or (And.intro @Box.arr.eq_1 (And.intro @Box.arr.eq_2 (And.intro @Box.arr.eq_3 (And.intro @xk.eq_1 (And.intro @nG.eq_1 (And.intro @oL.eq_1 (And.intro @TF.eq_1 (And.intro @not_false_eq_true (And.intro @false_or (And.intro @Option.some.injEq.{0} (And.intro @true_implies (And.intro @cI.eq_1 (And.intro @cU.eq_1 (And.intro @cB.eq_1 (And.intro @cS.eq_1 (And.intro @cL.eq_1 (And.intro @cK.eq_1 (And.intro @af.eG (And.intro @lU.eG (And.intro @StoreT.eG (And.intro @aB.eG (And.intro @RequestT.eG (And.intro @bn.eG (And.intro @ReaderT.eG (And.intro @List.map_append.{0,0} (And.intro @List.map_cons.{0,0} (And.intro @List.map_nil.{0,0} (And.intro @List.map_set.{0,0} (And.intro @List.map_take.{0,0} (And.intro @List.map_drop.{0,0} (And.intro @List.map_replicate.{0,0} (And.intro @List.length_append.{0} (And.intro @List.length_cons.{0} (And.intro @List.length_nil.{0} (And.intro @List.length_map.{0,0} (And.intro @List.length_set.{0} (And.intro @List.length_replicate.{0} (And.intro @Nat.zero_add (And.intro @Nat.add_zero (And.intro @List.nil_append.{0} (And.intro @List.cons_append.{0} (And.intro @List.append_nil.{0} (And.intro @take_len (And.intro @yT (And.intro @yU (And.intro @and_self (And.intro @rV.eq_1 (And.intro @rV.eq_2 (And.intro @Gy.eq_1 (And.intro @Gy.eq_2 (And.intro @Gy.eq_3 (And.intro @DL.eq_1 (And.intro @uH.eq_1 (And.intro @uH.eq_2 (And.intro @pV.ok.eq_1 (And.intro @pV.ok.eq_2 (And.intro @pV.val.eq_1 (And.intro @pV.val.eq_2 (And.intro @Gs.eq_1 (And.intro @Gs.eq_2 (And.intro @o8.eq_1 (And.intro @o8.eq_2 (And.intro @partOf.eq_1 (And.intro @partOf.eq_2 (And.intro @partOf.eq_3 (And.intro @xC (And.intro @tV (And.intro @zZ (And.intro @Xx (And.intro @XR (And.intro @AV.flat.eq_1 (And.intro @AV.flat.eq_2 (And.intro @oW.eq_1 (And.intro @oW.eq_2 (And.intro @oW.eq_3 (And.intro @oW.eq_4 (And.intro @dV.eq_1 (And.intro @dV.eq_2 (And.intro @dV.eq_3 (And.intro @dV.eq_4 (And.intro @dC.eq_1 (And.intro @dC.eq_2 (And.intro @dC.eq_3 (And.intro @dC.eq_4 (And.intro @Ua.eq_1 (And.intro @Ua.eq_2 (And.intro @Ua.eq_3 (And.intro @UF.eq_1 (And.intro @UF.eq_2 (And.intro @UF.eq_3 (And.intro @List.take_succ_cons.{0} (And.intro @List.take_zero.{0} (And.intro @List.drop_zero.{0} (And.intro @List.drop_succ_cons.{0} (And.intro @List.getElem?_cons_zero.{0} (And.intro @List.getElem?_cons_succ.{0} (And.intro @FR.ok.eq_1 @tu))))))))))))))))))))))))))))))))))))))))))))))))))))))))))))))))))))))))))))))))))))))))))))))))))))))))))))))))))))))))))))
theorem Gg:type_of% X8:=X8
def X6:=And.intro @qW.eq_1 (And.intro @qW.eq_2 (And.intro @qW.eq_3 (And.intro @tN.eq_1 (And.intro @tN.eq_2 (And.intro @tN.eq_3 (And.intro @oI.eq_1 (And.intro @oI.eq_2 (And.intro @oI.eq_3 (And.intro @oV.eq_1 (And.intro @oV.eq_2 (And.intro @oV.eq_3 (And.intro @tV (And.intro @kT.eq_1 (And.intro @kT.eq_2 (And.intro @Box.arr.eq_1 (And.intro @Box.arr.eq_2 (And.intro @Box.arr.eq_3 (And.intro @AV.cells.eq_1 (And.intro @AV.cells.eq_2 (And.intro @AV.cells.eq_3 (And.intro @List.map_cons.{0,0} (And.intro @List.map_nil.{0,0} (And.intro @List.length_map.{0,0} (And.intro @List.length_append.{0} (And.intro @List.length_cons.{0} (And.intro @List.length_nil.{0} (And.intro @List.length_replicate.{0} (And.intro @List.length_set.{0} (And.intro @take_len (And.intro @yT (And.intro @yU (And.intro @true_and (And.intro @and_true (And.intro @and_self (And.intro @Nat.le_refl (And.intro @Nat.zero_add (And.intro @Nat.add_zero (And.intro @nG.eq_1 (And.intro @oL.eq_1 (And.intro @xk.eq_1 (And.intro @TF.eq_1 (And.intro @cI.eq_1 (And.intro @cU.eq_1 (And.intro @cB.eq_1 (And.intro @cS.eq_1 (And.intro @cL.eq_1 (And.intro @cK.eq_1 (And.intro @List.map_append.{0,0} (And.intro @List.cons_append.{0} (And.intro @List.nil_append.{0} (And.intro @af.eG (And.intro @lU.eG (And.intro @StoreT.eG (And.intro @aB.eG (And.intro @RequestT.eG (And.intro @bn.eG @ReaderT.eG))))))))))))))))))))))))))))))))))))))))))))))))))))))))
theorem Yw:type_of% X6:=X6
def XY:=And.intro @Gv.eq_1 (And.intro @Gv.eq_2 (And.intro @Gq.eq_1 (And.intro @Gq.eq_2 (And.intro @tV (And.intro @kT.eq_1 (And.intro @kT.eq_2 (And.intro @rE.eq_1 (And.intro @rE.eq_2 (And.intro @List.getD_cons_zero.{0} (And.intro @List.getD_cons_succ.{0} (And.intro @List.cons_append.{0} (And.intro @List.nil_append.{0} (And.intro @List.append_nil.{0} (And.intro @List.map_cons.{0,0} (And.intro @List.map_nil.{0,0} (And.intro @List.map_append.{0,0} (And.intro @List.map_set.{0,0} (And.intro @List.length_append.{0} (And.intro @List.length_cons.{0} (And.intro @List.length_nil.{0} (And.intro @List.length_map.{0,0} (And.intro @List.length_set.{0} (And.intro @List.length_replicate.{0} (And.intro @List.replicate_zero.{0} (And.intro @List.replicate_succ.{0} (And.intro @List.map_replicate.{0,0} (And.intro @Nat.zero_add (And.intro @Nat.add_zero (And.intro @rP.eq_1 (And.intro @rP.eq_2 (And.intro @rP.eq_3 (And.intro @and_self (And.intro @and_true (And.intro @true_and (And.intro @cI.eq_1 (And.intro @cU.eq_1 (And.intro @cB.eq_1 (And.intro @cS.eq_1 (And.intro @cL.eq_1 (And.intro @cK.eq_1 (And.intro @af.eG (And.intro @lU.eG (And.intro @StoreT.eG (And.intro @aB.eG (And.intro @RequestT.eG (And.intro @bn.eG @ReaderT.eG))))))))))))))))))))))))))))))))))))))))))))))
theorem vZ:type_of% XY:=XY
def XZ:=And.intro @Gv.eq_1 (And.intro @Gv.eq_2 (And.intro @Gq.eq_1 (And.intro @Gq.eq_2 (And.intro @tV (And.intro @kT.eq_1 (And.intro @kT.eq_2 (And.intro @rE.eq_1 (And.intro @rE.eq_2 (And.intro @List.getD_cons_zero.{0} (And.intro @List.getD_cons_succ.{0} (And.intro @List.cons_append.{0} (And.intro @List.nil_append.{0} (And.intro @List.append_nil.{0} (And.intro @List.map_cons.{0,0} (And.intro @List.map_nil.{0,0} (And.intro @List.map_append.{0,0} (And.intro @List.map_set.{0,0} (And.intro @List.length_append.{0} (And.intro @List.length_cons.{0} (And.intro @List.length_nil.{0} (And.intro @List.length_map.{0,0} (And.intro @List.length_set.{0} (And.intro @List.length_replicate.{0} (And.intro @List.replicate_zero.{0} (And.intro @List.replicate_succ.{0} (And.intro @List.map_replicate.{0,0} (And.intro @Nat.zero_add (And.intro @Nat.add_zero (And.intro @rP.eq_1 (And.intro @rP.eq_2 (And.intro @rP.eq_3 (And.intro @and_self (And.intro @and_true (And.intro @true_and (And.intro @cI.eq_1 (And.intro @cU.eq_1 (And.intro @cB.eq_1 (And.intro @cS.eq_1 (And.intro @cL.eq_1 (And.intro @cK.eq_1 (And.intro @af.eG (And.intro @lU.eG (And.intro @StoreT.eG (And.intro @aB.eG (And.intro @RequestT.eG (And.intro @bn.eG (And.intro @ReaderT.eG (And.intro @N7 (And.intro @Fa.eq_1 (And.intro @Fa.eq_2 (And.intro @vz.eq_1 (And.intro @vz.eq_2 (And.intro @List.flatMap_cons.{0,0} (And.intro @List.flatMap_nil.{0,0} (And.intro @AV.owns.eq_1 (And.intro @AV.owns.eq_2 (And.intro @AV.owns.eq_3 (And.intro @jG.eq_1 (And.intro @jG.eq_2 (And.intro @jG.eq_3 (And.intro @List.contains_cons.{0} (And.intro @List.contains_nil.{0} (And.intro @Bool.or_false (And.intro @Bool.or_true (And.intro @Bool.false_or (And.intro @if_true.{1} (And.intro @if_false.{1} (And.intro @Bool.false_eq_true (And.intro @qW.eq_1 (And.intro @qW.eq_2 (And.intro @qW.eq_3 (And.intro @tN.eq_1 (And.intro @tN.eq_2 (And.intro @tN.eq_3 (And.intro @oI.eq_1 (And.intro @oI.eq_2 (And.intro @oI.eq_3 (And.intro @oV.eq_1 (And.intro @oV.eq_2 (And.intro @oV.eq_3 (And.intro @Box.arr.eq_1 (And.intro @Box.arr.eq_2 (And.intro @Box.arr.eq_3 (And.intro @AV.cells.eq_1 (And.intro @AV.cells.eq_2 (And.intro @AV.cells.eq_3 (And.intro @Nat.le_refl (And.intro @take_len (And.intro @yT (And.intro @yU (And.intro @nG.eq_1 (And.intro @oL.eq_1 (And.intro @xk.eq_1 @TF.eq_1)))))))))))))))))))))))))))))))))))))))))))))))))))))))))))))))))))))))))))))))))))))))))))))
theorem Yg:type_of% XZ:=XZ
end Go.Ab
end
section
namespace Go.Ab
open Go
set_option maxRecDepth 100000
set_option linter.unusedVariables false
def pp {α:Sort _} {β:Sort _} (a:α) (b:β):PProd α β:=⟨a,b⟩
theorem ihL {n:Nat} {A B:Nat->Prop} (h:∀ m,m<n->A m/\B m):∀ m,m<n->A m:=fun m hm=>(h m hm).1
theorem ihR {n:Nat} {A B:Nat->Prop} (h:∀ m,m<n->A m/\B m):∀ m,m<n->B m:=fun m hm=>(h m hm).2
theorem bg (zs:List Nat) (pi:List (Nat × Nat)) (vs:List Nat) {m:Nat} {TE ts:List (Nat × Slot)} {uk bs:List (Nat × Box)} (hk:CP m uk bs pi vs=true)
    (hb:F6 zs (kT uk) (Gf pi) vs bs) (ht:KQ zs (kT uk) (Gf pi) vs TE ts):yX m (cu.of TE uk) (cu.of ts bs):=ug zs pi vs hk hb ht
theorem lT (zs:List Nat) (pi:List (Nat × Nat)) (vs:List Nat) {rs:List pV} {ts:List (Nat × Slot)} {uk:List (Nat × Box)} {m:Nat} {r:AV} {bs:List Box} (hk:CP m uk (rV bs 0) pi vs=true)
    (hok:uH (cu.of ts uk) rs) (hb:F6 zs (kT uk) (Gf pi) vs (rV bs 0)) (hv:Ol zs (kT uk) (Gf pi) vs (Gs (cu.of ts uk) rs) r) :
    zi rs m (fun r1 b1=>r1=r/\b1=bs) (cu.of ts uk):=oN zs pi vs hk hok hb hv
section
variable {P:Program} {f:FuncId} {mG:List AV} {d:Option Nat} {st:cu} {K:List Nat->List Nat->cu->Prop} {du:DU K} {Q:AQ}
theorem cG (sg nu:List Nat) {P:Program} {f:FuncId} {mG:List AV} {d:Option Nat} {st:cu} {K:List Nat->List Nat->cu->Prop} {du:DU K} {ds:List AV} {fp uk:List Box} {r0:AV} (h:eF P f ds fp (fun r bs=>r=r0/\bs=uk)) (hl:sg.length=fp.length) (hn:nodupB (sg++nu)=true) (hf:Gv st (sg++nu) fp 0) (hv:Gq st nu)
    (hra:(ds.all fun x=>x.all (AC.mP fp.length))=true) (hrf:fp.all (Box.mP fp.length)=true) (ha:mG=ds.map (rP fun b=>(sg++nu).getD b 0)) (hb:uk.length=(sg++nu).length)
    (k:K (sg++nu) (sg++nu) ((st.kY ((sg++nu).zip (uk.map (rE fun b=>(sg++nu).getD b 0)))).o7 d (.v true (rP (fun b=>(sg++nu).getD b 0) r0)))):mO P f mG true d st K du:=uV sg nu h hl hn hf hv hra hrf ha hb k
theorem cH (sg nu:List Nat) {P:Program} {f:FuncId} {mG:List AV} {d:Option Nat} {st:cu} {K:List Nat->List Nat->cu->Prop} {du:DU K} {ds:List AV} {fp uk:List Box} {r0:AV} (h:eF P f ds fp (fun r bs=>r=r0/\bs=uk)) (he:mG.map (qW st.bx)=ds.map (rP fun b=>(sg++nu).getD b 0)) (hlo:oI st.bx mG)
    (hl:sg.length=fp.length) (hn:nodupB (sg++nu)=true) (hf:Gv (st.sW (mG.flatMap AV.owns)) (sg++nu) fp 0) (hv:Gq st nu)
    (hra:(ds.all fun x=>x.all (AC.mP fp.length))=true) (hrf:fp.all (Box.mP fp.length)=true) (hb:uk.length=(sg++nu).length)
    (k:K (mG.flatMap AV.owns++(sg++nu)) (mG.flatMap AV.owns++(sg++nu)) (((st.sW (mG.flatMap AV.owns)).kY ((sg++nu).zip (uk.map (rE fun b=>(sg++nu).getD b 0)))).o7 d (.v true (rP (fun b=>(sg++nu).getD b 0) r0)))):mO P f mG true d st K du:=WC sg nu h he hlo hl hn hf hv hra hrf hb k
theorem pO (X:Type) (R:Type) (g:Nat->X->Option R) (r:R) (S:X->cu) (N:Nat) {P:Program} {st:cu} {Q:AQ} {a b:aP} {d1:DU (wpC P a)} {d2:DU (wpC P b)} {d3:DU Q}
    (h1:qm P a (nO.then (fun st'=>∃ x m,(g m x=some r/\m<=N)/\yX 10 st' (S x)) Q) st .mk .mk) (h2:∀ n x,n<=N->g n x=some r->qm P b Q (S x) .mk .mk):Au (wpC P a) (wpC P b) Q st d1 d2 d3:=by
  refine VF (X:=X × Nat) (fun p=>g p.2 p.1=some r/\p.2<=N) (fun p=>S p.1) (wpC_mono (fun e st h => ?_) h1) (fun p hp=>h2 p.2 p.1 hp.2 hp.1)
  cases e with
  | normal=>obtain ⟨x,m,h,hw⟩:=h; exact ⟨(x,m),h,hw⟩
  | _=>exact h
theorem lS (X:Type) (R:Type) (g:Nat->X->Option R) (r:R) (S:X->cu) (N:Nat) {P:Program} {st:cu} {Q:AQ} {a:aP} {d1:DU (wpC P a)} {d2:DU Q} (h0:∃ x m,(g m x=some r/\m<=N)/\yX 10 st (S x))
    (h:∀ n x,n<=N->g n x=some r->qm P a (nO.then (fun st'=>∃ x' m,(g m x'=some r/\m<=N/\m<n)/\yX 10 st' (S x')) Q) (S x) .mk .mk):wQ (wpC P a) Q st d1 d2:=by
  obtain ⟨x,m,h0,hw⟩:=h0
  refine Sl (X:=X × Nat) (fun p=>g p.2 p.1=some r/\p.2<=N) (fun p=>S p.1) (fun p=>p.2) (x,m) h0 hw (fun p hp=>wpC_mono (fun e st h => ?_) (h p.2 p.1 hp.2 hp.1))
  cases e with
  | normal=>obtain ⟨x,m,h,hw⟩:=h; exact ⟨(x,m),⟨⟨h.1,h.2.1⟩,h.2.2⟩,hw⟩
  | _=>exact h
end
theorem BL {p:Prop} (x:p:=by simp -dsimp only [KP,uh,qR,reduceIte,Nat.reduceEqDiff,reduceCtorEq]<;>simp [List.take_of_length_le]<;>fail):p:=x
theorem X9 {p:Prop} (x:p:=by (simp -dsimp only [Yx,reduceIte,Nat.reduceEqDiff,Nat.reduceAdd,Nat.reduceLeDiff,reduceCtorEq]<;>first | (simp [List.take_of_length_le]; done) | ((try simp only [List.map_take,List.map_drop,List.map_append,List.map_cons,List.map_nil])<;>(repeat' apply And.intro)<;>first | rfl | (simp; done) | (simp<;>omega; done) | (congr 1; exact (List.take_of_length_le (by simp<;>omega)).symm)))):p:=x
theorem qg {p:Prop} (x:p:=by (simp -dsimp only [Gg,uh,qR,reduceIte,Nat.reduceEqDiff,reduceCtorEq,Nat.reduceAdd,Nat.reduceLeDiff]<;>first | (simp [List.take_of_length_le]; done) | ((try simp only [List.map_take,List.map_drop,List.map_append,List.map_cons,List.map_nil])<;>(repeat' apply And.intro)<;>first | rfl | (simp; done) | (simp<;>omega; done) | (congr 1; exact (List.take_of_length_le (by simp<;>omega)).symm)))):p:=x
theorem Vs {p:Prop} (x:p:=by (simp only [Yw,reduceIte,Nat.reduceEqDiff]<;>omega)):p:=x
theorem uz {p:Prop} (x:p:=by (simp only [vZ,iK,reduceIte,Nat.reduceEqDiff,Nat.reduceLeDiff,Nat.reduceAdd]<;>omega)):p:=x
theorem Em {p:Prop} (x:p:=by first | rfl | (simp only [vZ,iK,reduceIte,Nat.reduceEqDiff,Nat.reduceLeDiff,Nat.reduceAdd]<;>omega)):p:=x
theorem oD {p:Prop} (x:p:=by (simp only [Yg,iK,reduceIte,Nat.reduceEqDiff,Nat.reduceLeDiff,Nat.reduceAdd,Nat.reduceBEq]<;>omega)):p:=x
theorem BH {p:Prop} (x:p:=by ((try simp only [Prod.exists]); (first | refine ⟨_,_,⟨h,?_⟩,?_⟩ | refine ⟨_,_,_,⟨h,?_⟩,?_⟩ | refine ⟨_,_,_,_,⟨h,?_⟩,?_⟩ | refine ⟨_,_,_,_,_,⟨h,?_⟩,?_⟩ | refine ⟨_,_,_,_,_,_,⟨h,?_⟩,?_⟩ | refine ⟨_,_,_,_,_,_,_,⟨h,?_⟩,?_⟩ | refine ⟨_,_,_,_,_,_,_,_,⟨h,?_⟩,?_⟩ | refine ⟨_,_,_,_,_,_,_,_,_,⟨h,?_⟩,?_⟩ | refine ⟨_,_,_,_,_,_,_,_,_,_,⟨h,?_⟩,?_⟩ | refine ⟨_,_,_,_,_,_,_,_,_,_,_,⟨h,?_⟩,?_⟩ | refine ⟨_,_,_,_,_,_,_,_,_,_,_,_,⟨h,?_⟩,?_⟩ | refine ⟨_,_,_,_,_,_,_,_,_,_,_,_,_,⟨h,?_⟩,?_⟩ | refine ⟨_,_,_,_,_,_,_,_,_,_,_,_,_,_,⟨h,?_⟩,?_⟩ | refine ⟨_,_,_,_,_,_,_,_,_,_,_,_,_,_,_,⟨h,?_⟩,?_⟩ | refine ⟨_,_,_,_,_,_,_,_,_,_,_,_,_,_,_,_,⟨h,?_⟩,?_⟩ | refine ⟨_,_,_,_,_,_,_,_,_,_,_,_,_,_,_,_,_,⟨h,?_⟩,?_⟩ | refine ⟨_,_,_,_,_,_,_,_,_,_,_,_,_,_,_,_,_,_,⟨h,?_⟩,?_⟩ | refine ⟨_,_,_,_,_,_,_,_,_,_,_,_,_,_,_,_,_,_,_,⟨h,?_⟩,?_⟩ | refine ⟨_,_,_,_,_,_,_,_,_,_,_,_,_,_,_,_,_,_,_,_,⟨h,?_⟩,?_⟩ | refine ⟨_,_,_,_,_,_,_,_,_,_,_,_,_,_,_,_,_,_,_,_,_,⟨h,?_⟩,?_⟩ | refine ⟨_,_,_,_,_,_,_,_,_,_,_,_,_,_,_,_,_,_,_,_,_,_,⟨h,?_⟩,?_⟩ | refine ⟨_,_,_,_,_,_,_,_,_,_,_,_,_,_,_,_,_,_,_,_,_,_,_,⟨h,?_⟩,?_⟩ | refine ⟨_,_,_,_,_,_,_,_,_,_,_,_,_,_,_,_,_,_,_,_,_,_,_,_,⟨h,?_⟩,?_⟩ | refine ⟨(),_,⟨h,?_⟩,?_⟩); (focus omega); first | exact zj.1 (by rfl) BL BL | exact zj.2.1 (by rfl) BL BL | exact zj.2.2.1 (by rfl) BL BL | exact zj.2.2.2.1 (by rfl) BL BL | exact zj.2.2.2.2.1 (by rfl) BL BL | exact zj.2.2.2.2.2.1 (by rfl) BL BL | exact zj.2.2.2.2.2.2.1 (by rfl) BL BL | exact zj.2.2.2.2.2.2.2.1 (by rfl) BL BL | exact zj.2.2.2.2.2.2.2.2.1 (by rfl) BL BL | exact zj.2.2.2.2.2.2.2.2.2.1 (by rfl) BL BL | exact zj.2.2.2.2.2.2.2.2.2.2.1 (by rfl) BL BL | exact zj.2.2.2.2.2.2.2.2.2.2.2.1 (by rfl) BL BL | exact zj.2.2.2.2.2.2.2.2.2.2.2.2.1 (by rfl) BL BL | exact zj.2.2.2.2.2.2.2.2.2.2.2.2.2.1 (by rfl) BL BL)):p:=x
theorem kN {p:Prop} (x:p:=by
  repeat' first
  | (clear h; (with_reducible intro n x hn h); rcases n with _ | n<;>simp only [ze.1,reduceCtorEq] at h)
  | (simp only [reduceCtorEq] at h; done)
  | ((with_reducible replace h:=X4 h); obtain ⟨_,_,h⟩:=h)
  | ((with_reducible replace h:=X5 h); obtain ⟨_,_,h⟩:=h)
  | ((with_reducible replace h:=kq h); obtain ⟨_,h⟩:=h)
  | ((with_reducible replace h:=sq h); subst h; have h:=True.intro)
  | (try simp -dsimp only [qi,dh.fE,dh.f,dh.rd,gu,fD,lvl,gQ,reduceIte,Nat.reduceEqDiff,Nat.reduceAdd,Nat.reduceLeDiff,Nat.reduceBEq,reduceCtorEq,Int.reduceBNe,Int.reduceBEq,Int.reduceLT,Int.reduceLE,Int.reduceNeg,Nat.reduceLT,gz,Int.reduceToNat,iK, *]
     repeat ((with_reducible refine And.intro ?_ ?_); focus first | (show gY _ _ _ _=true; kernel_rfl) | (show eY _ _=true; kernel_rfl) | omega | assumption | (show _<=maxLen; decide))
     first
     | with_reducible refine Vf ?_
     | ((with_reducible refine Vp ?_); with_reducible refine zu.1 n ?_ ?_)
     | ((with_reducible refine RG ?_); first | ((with_reducible refine zk.1 n ?_ ?_); (focus exact BH)) | ((with_reducible refine zk.2.1 n ?_ ?_); (focus exact BH)) | ((with_reducible refine zk.2.2.1 n ?_ ?_); (focus exact BH)) | ((with_reducible refine zk.2.2.2.1 n ?_ ?_); (focus exact BH)) | ((with_reducible refine zk.2.2.2.2.1 n ?_ ?_); (focus exact BH)) | ((with_reducible refine zk.2.2.2.2.2.1 n ?_ ?_); (focus exact BH)))
     | ((with_reducible refine RF ?_); (with_reducible replace h:=bq h); obtain ⟨_,hv,h⟩:=h; first | ((first | with_reducible have hc:=zc.1 hv | with_reducible have hc:=zc.1 _ (by omega) hv | with_reducible have hc:=zc.2.1 hv | with_reducible have hc:=zc.2.1 _ (by omega) hv | with_reducible have hc:=zc.2.2.1 hv | with_reducible have hc:=zc.2.2.1 _ (by omega) hv | with_reducible have hc:=zc.2.2.2.1 hv | with_reducible have hc:=zc.2.2.2.2.1 hv | with_reducible have hc:=zc.2.2.2.2.2.1 hv | with_reducible have hc:=zc.2.2.2.2.2.2.1 hv | with_reducible have hc:=zc.2.2.2.2.2.2.2.1 hv | with_reducible have hc:=zc.2.2.2.2.2.2.2.2.1 hv | with_reducible have hc:=zc.2.2.2.2.2.2.2.2.2.1 hv | with_reducible have hc:=zc.2.2.2.2.2.2.2.2.2.2.1 hv | with_reducible have hc:=zc.2.2.2.2.2.2.2.2.2.2.2.1 hv | with_reducible have hc:=zc.2.2.2.2.2.2.2.2.2.2.2.2.1 hv | with_reducible have hc:=zc.2.2.2.2.2.2.2.2.2.2.2.2.2.1 hv | with_reducible have hc:=zc.2.2.2.2.2.2.2.2.2.2.2.2.2.2.1 hv | with_reducible have hc:=zc.2.2.2.2.2.2.2.2.2.2.2.2.2.2.2.1 hv | with_reducible have hc:=zc.2.2.2.2.2.2.2.2.2.2.2.2.2.2.2.2.1 hv | with_reducible have hc:=zc.2.2.2.2.2.2.2.2.2.2.2.2.2.2.2.2.2.1 hv | with_reducible have hc:=zc.2.2.2.2.2.2.2.2.2.2.2.2.2.2.2.2.2.2.1 hv | with_reducible have hc:=zc.2.2.2.2.2.2.2.2.2.2.2.2.2.2.2.2.2.2.2.1 hv | with_reducible have hc:=zc.2.2.2.2.2.2.2.2.2.2.2.2.2.2.2.2.2.2.2.2.1 hv | with_reducible have hc:=zc.2.2.2.2.2.2.2.2.2.2.2.2.2.2.2.2.2.2.2.2.2.1 hv); (first | refine QM (fun _=>hc) rfl rfl ?_ | refine Vg hc rfl rfl ?_ | refine Ve hc Vs Vs rfl rfl ?_ | refine Vd hc Vs Vs rfl rfl ?_)) | ((first | with_reducible have hc:=zg.1.1 hv | with_reducible have hc:=zg.1.1 _ (by omega) hv); (first | refine zg.1.2 hc rfl rfl uz uz rfl rfl Em rfl ?_ | refine zg.1.2 hc oD oD rfl rfl oD oD rfl rfl rfl ?_)) | ((first | with_reducible have hc:=zg.2.1.1 hv | with_reducible have hc:=zg.2.1.1 _ (by omega) hv); (first | refine zg.2.1.2 hc rfl rfl uz uz rfl rfl Em rfl ?_ | refine zg.2.1.2 hc oD oD rfl rfl oD oD rfl rfl rfl ?_)) | ((first | with_reducible have hc:=zg.2.2.1.1 hv | with_reducible have hc:=zg.2.2.1.1 _ (by omega) hv); (first | refine zg.2.2.1.2 hc rfl rfl uz uz rfl rfl Em rfl ?_ | refine zg.2.2.1.2 hc oD oD rfl rfl oD oD rfl rfl rfl ?_)) | ((with_reducible have hc:=zg.2.2.2.1.1 hv); (first | refine zg.2.2.2.1.2 hc rfl rfl uz uz rfl rfl Em rfl ?_ | refine zg.2.2.2.1.2 hc oD oD rfl rfl oD oD rfl rfl rfl ?_)) | ((with_reducible have hc:=zg.2.2.2.2.1.1 hv); (first | refine zg.2.2.2.2.1.2 hc rfl rfl uz uz rfl rfl Em rfl ?_ | refine zg.2.2.2.2.1.2 hc oD oD rfl rfl oD oD rfl rfl rfl ?_)) | ((with_reducible have hc:=zg.2.2.2.2.2.1.1 hv); (first | refine zg.2.2.2.2.2.1.2 hc rfl rfl uz uz rfl rfl Em rfl ?_ | refine zg.2.2.2.2.2.1.2 hc oD oD rfl rfl oD oD rfl rfl rfl ?_)) | ((with_reducible have hc:=zg.2.2.2.2.2.2.1.1 hv); (first | refine zg.2.2.2.2.2.2.1.2 hc rfl rfl uz uz rfl rfl Em rfl ?_ | refine zg.2.2.2.2.2.2.1.2 hc oD oD rfl rfl oD oD rfl rfl rfl ?_)) | ((with_reducible have hc:=zg.2.2.2.2.2.2.2.1.1 hv); (first | refine zg.2.2.2.2.2.2.2.1.2 hc rfl rfl uz uz rfl rfl Em rfl ?_ | refine zg.2.2.2.2.2.2.2.1.2 hc oD oD rfl rfl oD oD rfl rfl rfl ?_)) | ((with_reducible have hc:=zg.2.2.2.2.2.2.2.2.1.1 hv); (first | refine zg.2.2.2.2.2.2.2.2.1.2 hc rfl rfl uz uz rfl rfl Em rfl ?_ | refine zg.2.2.2.2.2.2.2.2.1.2 hc oD oD rfl rfl oD oD rfl rfl rfl ?_)) | ((with_reducible have hc:=zg.2.2.2.2.2.2.2.2.2.1.1 hv); (first | refine zg.2.2.2.2.2.2.2.2.2.1.2 hc rfl rfl uz uz rfl rfl Em rfl ?_ | refine zg.2.2.2.2.2.2.2.2.2.1.2 hc oD oD rfl rfl oD oD rfl rfl rfl ?_)) | ((with_reducible have hc:=zg.2.2.2.2.2.2.2.2.2.2.1.1 hv); (first | refine zg.2.2.2.2.2.2.2.2.2.2.1.2 hc rfl rfl uz uz rfl rfl Em rfl ?_ | refine zg.2.2.2.2.2.2.2.2.2.2.1.2 hc oD oD rfl rfl oD oD rfl rfl rfl ?_)) | ((with_reducible have hc:=zg.2.2.2.2.2.2.2.2.2.2.2.1.1 hv); (first | refine zg.2.2.2.2.2.2.2.2.2.2.2.1.2 hc rfl rfl uz uz rfl rfl Em rfl ?_ | refine zg.2.2.2.2.2.2.2.2.2.2.2.1.2 hc oD oD rfl rfl oD oD rfl rfl rfl ?_)))
     | ((with_reducible replace h:=cq h); rcases h with ⟨c,h⟩ | ⟨c,h⟩<;>try (simp only [*,Bool.false_eq_true,reduceCtorEq] at c; done))
     | ((with_reducible refine WY ?_); exact BH)
     | ((with_reducible refine Vq ?_); exact X9)
     | ((with_reducible refine Vr ?_); first | exact zt.1 (by rfl) qg qg qg | exact zt.2.1 (by rfl) qg qg qg | exact zt.2.2.1 (by rfl) qg qg qg | exact zt.2.2.2.1 (by rfl) qg qg qg | exact zt.2.2.2.2.1 (by rfl) qg qg qg | exact zt.2.2.2.2.2.1 (by rfl) qg qg qg | exact zt.2.2.2.2.2.2.1 (by rfl) qg qg qg | exact zt.2.2.2.2.2.2.2.1 (by rfl) qg qg qg | exact zt.2.2.2.2.2.2.2.2.1 (by rfl) qg qg qg | exact zt.2.2.2.2.2.2.2.2.2.1 (by rfl) qg qg qg | exact zt.2.2.2.2.2.2.2.2.2.2.1 (by rfl) qg qg qg | exact zt.2.2.2.2.2.2.2.2.2.2.2.1 (by rfl) qg qg qg)
     | (cases h; done))):p:=x
theorem OZ {p:Prop} (x:p:=by
  repeat' first
  | (clear h; (with_reducible intro n x hn h); rcases n with _ | n<;>simp only [ze.1,reduceCtorEq] at h)
  | (simp only [reduceCtorEq] at h; done)
  | ((with_reducible replace h:=X4 h); obtain ⟨_,_,h⟩:=h)
  | ((with_reducible replace h:=X5 h); obtain ⟨_,_,h⟩:=h)
  | ((with_reducible replace h:=kq h); obtain ⟨_,h⟩:=h)
  | ((with_reducible replace h:=sq h); subst h; have h:=True.intro)
  | (try simp -dsimp only [qi,dh.fE,dh.f,dh.rd,gu,fD,lvl,gQ,reduceIte,Nat.reduceEqDiff,Nat.reduceAdd,Nat.reduceLeDiff,Nat.reduceBEq,reduceCtorEq,Int.reduceBNe,Int.reduceBEq,Int.reduceLT,Int.reduceLE,Int.reduceNeg,Nat.reduceLT,gz,Int.reduceToNat,iK, *]
     repeat ((with_reducible refine And.intro ?_ ?_); focus first | (show gY _ _ _ _=true; kernel_rfl) | (show eY _ _=true; kernel_rfl) | omega | assumption | (show _<=maxLen; decide))
     first
     | with_reducible refine Vf ?_
     | ((with_reducible refine Vp ?_); first | (rename Mk 1=>tk; clear tk; have:True:=(by (first | rewrite [zq.1.1] at h | rewrite [zq.1.2.1] at h | rewrite [zq.1.2.2.1] at h | rewrite [zq.1.2.2.2.1] at h | rewrite [zq.1.2.2.2.2.1] at h | rewrite [zq.1.2.2.2.2.2.1] at h | rewrite [zq.1.2.2.2.2.2.2.1] at h | rewrite [zq.1.2.2.2.2.2.2.2.1] at h); exact True.intro); with_reducible refine zu.1 n ?_ ?_) | (rename Mk 2=>tk; clear tk; have:True:=(by (first | rewrite [zq.2.1.1] at h | rewrite [zq.2.1.2.1] at h | rewrite [zq.2.1.2.2.1] at h | rewrite [zq.2.1.2.2.2.1] at h | rewrite [zq.2.1.2.2.2.2.1] at h | rewrite [zq.2.1.2.2.2.2.2.1] at h | rewrite [zq.2.1.2.2.2.2.2.2.1] at h | rewrite [zq.2.1.2.2.2.2.2.2.2.1] at h); exact True.intro); with_reducible refine zu.2.1 n ?_ ?_) | (rename Mk 3=>tk; clear tk; have:True:=(by (first | rewrite [zq.2.2.1.1] at h | rewrite [zq.2.2.1.2.1] at h | rewrite [zq.2.2.1.2.2.1] at h | rewrite [zq.2.2.1.2.2.2.1] at h | rewrite [zq.2.2.1.2.2.2.2.1] at h | rewrite [zq.2.2.1.2.2.2.2.2.1] at h | rewrite [zq.2.2.1.2.2.2.2.2.2.1] at h | rewrite [zq.2.2.1.2.2.2.2.2.2.2.1] at h); exact True.intro); with_reducible refine zu.2.2.1 n ?_ ?_) | (rename Mk 4=>tk; clear tk; have:True:=(by (first | rewrite [zq.2.2.2.1.1] at h | rewrite [zq.2.2.2.1.2.1] at h | rewrite [zq.2.2.2.1.2.2.1] at h | rewrite [zq.2.2.2.1.2.2.2.1] at h | rewrite [zq.2.2.2.1.2.2.2.2.1] at h | rewrite [zq.2.2.2.1.2.2.2.2.2.1] at h | rewrite [zq.2.2.2.1.2.2.2.2.2.2.1] at h | rewrite [zq.2.2.2.1.2.2.2.2.2.2.2.1] at h); exact True.intro); with_reducible refine zu.2.2.2.1 n ?_ ?_) | (rename Mk 5=>tk; clear tk; have:True:=(by (first | rewrite [zq.2.2.2.2.1.1] at h | rewrite [zq.2.2.2.2.1.2.1] at h | rewrite [zq.2.2.2.2.1.2.2.1] at h | rewrite [zq.2.2.2.2.1.2.2.2.1] at h | rewrite [zq.2.2.2.2.1.2.2.2.2.1] at h | rewrite [zq.2.2.2.2.1.2.2.2.2.2.1] at h | rewrite [zq.2.2.2.2.1.2.2.2.2.2.2.1] at h | rewrite [zq.2.2.2.2.1.2.2.2.2.2.2.2.1] at h); exact True.intro); with_reducible refine zu.2.2.2.2.1 n ?_ ?_) | (rename Mk 6=>tk; clear tk; have:True:=(by (first | rewrite [zq.2.2.2.2.2.1.1] at h | rewrite [zq.2.2.2.2.2.1.2.1] at h | rewrite [zq.2.2.2.2.2.1.2.2.1] at h | rewrite [zq.2.2.2.2.2.1.2.2.2.1] at h | rewrite [zq.2.2.2.2.2.1.2.2.2.2.1] at h | rewrite [zq.2.2.2.2.2.1.2.2.2.2.2.1] at h | rewrite [zq.2.2.2.2.2.1.2.2.2.2.2.2.1] at h | rewrite [zq.2.2.2.2.2.1.2.2.2.2.2.2.2.1] at h); exact True.intro); with_reducible refine zu.2.2.2.2.2.1 n ?_ ?_))
     | ((with_reducible refine RG ?_); first | ((with_reducible refine zk.1 n ?_ ?_); (focus exact BH)) | ((with_reducible refine zk.2.1 n ?_ ?_); (focus exact BH)) | ((with_reducible refine zk.2.2.1 n ?_ ?_); (focus exact BH)) | ((with_reducible refine zk.2.2.2.1 n ?_ ?_); (focus exact BH)) | ((with_reducible refine zk.2.2.2.2.1 n ?_ ?_); (focus exact BH)) | ((with_reducible refine zk.2.2.2.2.2.1 n ?_ ?_); (focus exact BH)))
     | ((with_reducible refine RF ?_); (with_reducible replace h:=bq h); obtain ⟨_,hv,h⟩:=h; first | ((first | with_reducible have hc:=zc.1 hv | with_reducible have hc:=zc.1 _ (by omega) hv | with_reducible have hc:=zc.2.1 hv | with_reducible have hc:=zc.2.1 _ (by omega) hv | with_reducible have hc:=zc.2.2.1 hv | with_reducible have hc:=zc.2.2.1 _ (by omega) hv | with_reducible have hc:=zc.2.2.2.1 hv | with_reducible have hc:=zc.2.2.2.2.1 hv | with_reducible have hc:=zc.2.2.2.2.2.1 hv | with_reducible have hc:=zc.2.2.2.2.2.2.1 hv | with_reducible have hc:=zc.2.2.2.2.2.2.2.1 hv | with_reducible have hc:=zc.2.2.2.2.2.2.2.2.1 hv | with_reducible have hc:=zc.2.2.2.2.2.2.2.2.2.1 hv | with_reducible have hc:=zc.2.2.2.2.2.2.2.2.2.2.1 hv | with_reducible have hc:=zc.2.2.2.2.2.2.2.2.2.2.2.1 hv | with_reducible have hc:=zc.2.2.2.2.2.2.2.2.2.2.2.2.1 hv | with_reducible have hc:=zc.2.2.2.2.2.2.2.2.2.2.2.2.2.1 hv | with_reducible have hc:=zc.2.2.2.2.2.2.2.2.2.2.2.2.2.2.1 hv | with_reducible have hc:=zc.2.2.2.2.2.2.2.2.2.2.2.2.2.2.2.1 hv | with_reducible have hc:=zc.2.2.2.2.2.2.2.2.2.2.2.2.2.2.2.2.1 hv | with_reducible have hc:=zc.2.2.2.2.2.2.2.2.2.2.2.2.2.2.2.2.2.1 hv | with_reducible have hc:=zc.2.2.2.2.2.2.2.2.2.2.2.2.2.2.2.2.2.2.1 hv | with_reducible have hc:=zc.2.2.2.2.2.2.2.2.2.2.2.2.2.2.2.2.2.2.2.1 hv | with_reducible have hc:=zc.2.2.2.2.2.2.2.2.2.2.2.2.2.2.2.2.2.2.2.2.1 hv | with_reducible have hc:=zc.2.2.2.2.2.2.2.2.2.2.2.2.2.2.2.2.2.2.2.2.2.1 hv); (first | refine QM (fun _=>hc) rfl rfl ?_ | refine Vg hc rfl rfl ?_ | refine Ve hc Vs Vs rfl rfl ?_ | refine Vd hc Vs Vs rfl rfl ?_)) | ((first | with_reducible have hc:=zg.1.1 hv | with_reducible have hc:=zg.1.1 _ (by omega) hv); (first | refine zg.1.2 hc rfl rfl uz uz rfl rfl Em rfl ?_ | refine zg.1.2 hc oD oD rfl rfl oD oD rfl rfl rfl ?_)) | ((first | with_reducible have hc:=zg.2.1.1 hv | with_reducible have hc:=zg.2.1.1 _ (by omega) hv); (first | refine zg.2.1.2 hc rfl rfl uz uz rfl rfl Em rfl ?_ | refine zg.2.1.2 hc oD oD rfl rfl oD oD rfl rfl rfl ?_)) | ((first | with_reducible have hc:=zg.2.2.1.1 hv | with_reducible have hc:=zg.2.2.1.1 _ (by omega) hv); (first | refine zg.2.2.1.2 hc rfl rfl uz uz rfl rfl Em rfl ?_ | refine zg.2.2.1.2 hc oD oD rfl rfl oD oD rfl rfl rfl ?_)) | ((with_reducible have hc:=zg.2.2.2.1.1 hv); (first | refine zg.2.2.2.1.2 hc rfl rfl uz uz rfl rfl Em rfl ?_ | refine zg.2.2.2.1.2 hc oD oD rfl rfl oD oD rfl rfl rfl ?_)) | ((with_reducible have hc:=zg.2.2.2.2.1.1 hv); (first | refine zg.2.2.2.2.1.2 hc rfl rfl uz uz rfl rfl Em rfl ?_ | refine zg.2.2.2.2.1.2 hc oD oD rfl rfl oD oD rfl rfl rfl ?_)) | ((with_reducible have hc:=zg.2.2.2.2.2.1.1 hv); (first | refine zg.2.2.2.2.2.1.2 hc rfl rfl uz uz rfl rfl Em rfl ?_ | refine zg.2.2.2.2.2.1.2 hc oD oD rfl rfl oD oD rfl rfl rfl ?_)) | ((with_reducible have hc:=zg.2.2.2.2.2.2.1.1 hv); (first | refine zg.2.2.2.2.2.2.1.2 hc rfl rfl uz uz rfl rfl Em rfl ?_ | refine zg.2.2.2.2.2.2.1.2 hc oD oD rfl rfl oD oD rfl rfl rfl ?_)) | ((with_reducible have hc:=zg.2.2.2.2.2.2.2.1.1 hv); (first | refine zg.2.2.2.2.2.2.2.1.2 hc rfl rfl uz uz rfl rfl Em rfl ?_ | refine zg.2.2.2.2.2.2.2.1.2 hc oD oD rfl rfl oD oD rfl rfl rfl ?_)) | ((with_reducible have hc:=zg.2.2.2.2.2.2.2.2.1.1 hv); (first | refine zg.2.2.2.2.2.2.2.2.1.2 hc rfl rfl uz uz rfl rfl Em rfl ?_ | refine zg.2.2.2.2.2.2.2.2.1.2 hc oD oD rfl rfl oD oD rfl rfl rfl ?_)) | ((with_reducible have hc:=zg.2.2.2.2.2.2.2.2.2.1.1 hv); (first | refine zg.2.2.2.2.2.2.2.2.2.1.2 hc rfl rfl uz uz rfl rfl Em rfl ?_ | refine zg.2.2.2.2.2.2.2.2.2.1.2 hc oD oD rfl rfl oD oD rfl rfl rfl ?_)) | ((with_reducible have hc:=zg.2.2.2.2.2.2.2.2.2.2.1.1 hv); (first | refine zg.2.2.2.2.2.2.2.2.2.2.1.2 hc rfl rfl uz uz rfl rfl Em rfl ?_ | refine zg.2.2.2.2.2.2.2.2.2.2.1.2 hc oD oD rfl rfl oD oD rfl rfl rfl ?_)) | ((with_reducible have hc:=zg.2.2.2.2.2.2.2.2.2.2.2.1.1 hv); (first | refine zg.2.2.2.2.2.2.2.2.2.2.2.1.2 hc rfl rfl uz uz rfl rfl Em rfl ?_ | refine zg.2.2.2.2.2.2.2.2.2.2.2.1.2 hc oD oD rfl rfl oD oD rfl rfl rfl ?_)))
     | ((with_reducible replace h:=cq h); rcases h with ⟨c,h⟩ | ⟨c,h⟩<;>try (simp only [*,Bool.false_eq_true,reduceCtorEq] at c; done))
     | ((with_reducible refine WY ?_); exact BH)
     | ((with_reducible refine Vq ?_); exact X9)
     | ((with_reducible refine Vr ?_); first | exact zt.1 (by rfl) qg qg qg | exact zt.2.1 (by rfl) qg qg qg | exact zt.2.2.1 (by rfl) qg qg qg | exact zt.2.2.2.1 (by rfl) qg qg qg | exact zt.2.2.2.2.1 (by rfl) qg qg qg | exact zt.2.2.2.2.2.1 (by rfl) qg qg qg | exact zt.2.2.2.2.2.2.1 (by rfl) qg qg qg | exact zt.2.2.2.2.2.2.2.1 (by rfl) qg qg qg | exact zt.2.2.2.2.2.2.2.2.1 (by rfl) qg qg qg | exact zt.2.2.2.2.2.2.2.2.2.1 (by rfl) qg qg qg | exact zt.2.2.2.2.2.2.2.2.2.2.1 (by rfl) qg qg qg | exact zt.2.2.2.2.2.2.2.2.2.2.2.1 (by rfl) qg qg qg)
     | (cases h; done))):p:=x
end Go.Ab
end
section
namespace Go.Ab
open Go
set_option maxRecDepth 100000
set_option maxHeartbeats 4000000
set_option linter.unusedVariables false
set_option linter.unusedSimpArgs false
abbrev zA (d:Nat) (x:dh):iZ:=⟨none,some d,.op x⟩
abbrev zM (d s:Nat):iZ:=⟨none,some d,.op (.mv (.t s))⟩
abbrev zS (x:dh):iZ:=⟨none,none,.op x⟩
abbrev zG (g:Nat) (b:Bool) (d:Nat) (x:dh):iZ:=⟨some (g,b),some d,.op x⟩
noncomputable abbrev pZ:Program:=Go.Proofs.Tryz.prog
abbrev kI (n:Int):jE := .k (.c (.lit (.int .i64 n)))
abbrev kB (b:Bool):jE := .k (.c (.lit (.bool b)))
abbrev je (n:Int):AC := .c (.lit (.int .i64 n))
abbrev zN:List AC:=[.c (.lit (.int .i64 0)),.c (.lit (.int .i64 0)),.c (.str []),.fU 1,.fU 5]
abbrev qF (d k a:Nat):iZ:=zA d (.load false k (.t a))
abbrev qT (d k a:Nat):iZ:=zA d (.load true k (.t a))
abbrev qS (k a b:Nat):iZ:=zS (.store true k (.t a) (.t b))
abbrev qU (k a b:Nat):iZ:=zS (.store false k (.t a) (.t b))
abbrev qA (d k a:Nat):iZ:=zA d (.fZ k (.t a))
abbrev qX (d k a:Nat):iZ:=zA d (.box k (.t a))
abbrev qB (d:Nat) (b:Bool):iZ:=zA d (.mv (kB b))
abbrev qI (d:Nat) (n:Int):iZ:=zA d (.mv (kI n))
abbrev qL (d a:Nat):iZ:=zA d (.len (.t a))
abbrev qO (d a:Nat):iZ:=zA d (.not (.t a))
abbrev qE (d a k:Nat):iZ:=zA d (.extract (.t a) k)
abbrev qP (d a b:Nat):iZ:=zA d (.pick (.t a) (.t b) (kB false))
abbrev qQ (d a b:Nat):iZ:=zA d (.pick (.t a) (kB true) (.t b))
abbrev qN (d a:Nat):iZ:=zA d (.Fp (.t a))
abbrev qD (d k a b:Nat):iZ:=zA d (.nZ k (.t a) (.t b))
abbrev qZ (d k:Nat):iZ:=zA d (.alloc k zN)
abbrev q1 (d f a:Nat):iZ:=⟨none,some d,.call f [.t a]⟩
abbrev q2 (d f a b:Nat):iZ:=⟨none,some d,.call f [.t a,.t b]⟩
abbrev q3 (d f a b c:Nat):iZ:=⟨none,some d,.call f [.t a,.t b,.t c]⟩
def C.cmp_isNaN_int:aP:=(.seq (.reg [ qB 2 false] [0]) (.seq (.reg [ zM 3 0,zM 4 0,zA 5 (.bin .neq (.t 3) (.t 4)),zM 2 5] [2]) .ret))
theorem K.cmp_isNaN_int:dU pZ 213 1 0 C.cmp_isNaN_int [.tmp 2]=true:=by kernel_rfl
def C.cmp_Compare_int:aP:=(.seq (.reg [ qI 4 0] [0,1]) (.seq (.reg [ zM 7 0,q1 8 213 7,zM 5 8] [0,1,5]) (.seq (.reg [ zM 9 1,q1 10 213 9,zM 6 10] [0,1,5,6]) (.seq (.seq (.reg [ zM 11 5] [0,1,6,11]) (.cond (.t 11) (.seq (.seq (.reg [ zM 12 6] [12]) (.cond (.t 12) (.seq (.reg [ qI 4 0] [4]) .ret) .skip)) (.seq (.reg [ qI 4 (-1)] [4]) .ret)) .skip)) (.seq (.seq (.reg [ zM 13 6] [0,1,13]) (.cond (.t 13) (.seq (.reg [ qI 4 1] [4]) .ret) .skip)) (.seq (.seq (.reg [ zM 14 0,zM 15 1,zA 16 (.bin .lss (.t 14) (.t 15))] [0,1,16]) (.cond (.t 16) (.seq (.reg [ qI 4 (-1)] [4]) .ret) .skip)) (.seq (.seq (.reg [ zM 17 0,zM 18 1,zA 19 (.bin .gtr (.t 17) (.t 18))] [19]) (.cond (.t 19) (.seq (.reg [ qI 4 1] [4]) .ret) .skip)) (.seq (.reg [ qI 4 0] [4]) .ret))))))))
theorem K.cmp_Compare_int:dU pZ 210 2 0 C.cmp_Compare_int [.tmp 4]=true:=by kernel_rfl
def C.cmp_isNaN_string:aP:=(.seq (.reg [ qB 2 false] [0]) (.seq (.reg [ zM 3 0,zM 4 0,zA 5 (.bin .neq (.t 3) (.t 4)),zM 2 5] [2]) .ret))
theorem K.cmp_isNaN_string:dU pZ 192 1 0 C.cmp_isNaN_string [.tmp 2]=true:=by kernel_rfl
def C.cmp_Less_string:aP:=(.seq (.reg [ qB 4 false] [0,1]) (.seq (.reg [ zM 5 0,q1 6 192 5,zM 7 6,zG 7 true 8 (.mv (.t 1)),⟨(some (7,true)),some 9,.call 192 [.t 8]⟩,zG 7 true 10 (.not (.t 9)),qP 11 7 10,zM 12 11,zG 12 false 13 (.mv (.t 0)),zG 12 false 14 (.mv (.t 1)),zG 12 false 15 (.bin .lss (.t 13) (.t 14)),qQ 16 12 15,zM 4 16] [4]) .ret))
theorem K.cmp_Less_string:dU pZ 174 2 0 C.cmp_Less_string [.tmp 4]=true:=by kernel_rfl
def C.ax:aP:=(.seq (.reg [ qX 1 10 0,qZ 2 11] [1,2]) (.seq (.reg [ qA 6 0 1,qF 7 1 6,qA 8 1 1,qF 9 1 8,qA 10 2 1,qF 11 1 10,zA 12 (.build zN [(0,1,.t 7),(1,1,.t 9),(2,1,.t 11)]),qZ 3 12,qS 5 3 12] [1,2,3]) (.cut (.seq (.reg [ qA 13 3 1,qF 14 1 13,qL 15 14,zA 16 (.bin .gtr (.t 15) (kI 0))] [1,2,3,16]) (.cond (.t 16) (.seq (.reg [ qA 17 3 1,qF 18 1 17,qL 19 18,zA 20 (.makes 13 1 16 [.str []] (.t 19) (.t 19)),qA 21 3 3,qU 1 21 20] [1,2,3]) (.reg [ qA 22 3 3,qF 23 1 22,qA 24 3 1,qF 25 1 24,zA 26 (.copy 1 (.t 23) (.t 25))] [1,2,3])) .skip)) (.seq (.seq (.reg [ qA 27 4 1,qF 28 1 27,qL 29 28,zA 30 (.bin .gtr (.t 29) (kI 0))] [1,2,3,30]) (.cond (.t 30) (.seq (.reg [ qA 31 4 1,qF 32 1 31,qL 33 32,zA 34 (.makes 14 5 80 [.lit (.int .i64 0),.lit (.int .i64 0),.str [],.sl 1 [],.sl 5 []] (.t 33) (.t 33)),qA 35 4 3,qU 1 35 34] [1,2,3]) (.seq (.reg [ qA 36 4 1,qF 37 1 36,qL 38 37,qI 39 0] [2,3,37,38,39]) (.block 0 (.loop (.seq (.reg [ zA 40 (.bin .lss (.t 39) (.t 38))] [2,3,37,38,39,40]) (.seq (.cond (.t 40) .skip (.exit 0)) (.seq (.block 1 (.seq (.reg [ zM 41 39,qD 42 5 37 39,qT 43 5 42,qZ 5 15,zM 4 41,qS 5 5 43] [2,3,4,5,37,38,39]) (.kC [ (qA 44 4 3,[]),(qF 45 1 44,[0]),(zM 46 4,[]),(qT 47 5 5,[]),(q1 48 33 47,[3]),(qD 49 5 45 46,[0,1,2,3,4]),(qS 5 49 48,[0,1,2,3,4,5])] [2,3,37,38,39]))) (.reg [ zA 50 (.bin .add (.t 39) (kI 1)),zM 39 50] [2,3,37,38,39])))))))) .skip)) (.seq (.reg [ qT 51 5 3,qS 5 2 51] [2]) .ret)))))
theorem K.ax:dU pZ 33 1 0 C.ax [.cell 2 true 5]=true:=by kernel_rfl
def C.slices_isNaN_string:aP:=(.seq (.reg [ qB 2 false] [0]) (.seq (.reg [ zM 3 0,zM 4 0,zA 5 (.bin .neq (.t 3) (.t 4)),zM 2 5] [2]) .ret))
theorem K.slices_isNaN_string:dU pZ 175 1 0 C.slices_isNaN_string [.tmp 2]=true:=by kernel_rfl
def C.slices_BinarySearch_string:aP:=(.seq (.reg [ qI 4 0,qB 5 false] [0,1]) (.seq (.reg [ zM 10 0,qL 11 10,zM 6 11] [0,1,6]) (.seq (.reg [ zM 12 6,qI 7 0,zM 8 12] [0,1,6,7,8]) (.seq (.block 0 (.loop (.seq (.seq (.reg [ zM 13 7,zM 14 8,zA 15 (.bin .lss (.t 13) (.t 14))] [0,1,6,7,8,15]) (.cond (.t 15) .skip (.exit 0))) (.block 1 (.seq (.reg [ zM 16 7,zM 17 8,zA 18 (.bin .add (.t 16) (.t 17)),zA 19 (.vX .u64 (.t 18)),zA 20 (.Wl false (.t 19) (.k (.c (.lit (.int .u64 1))))),zA 21 (.vX .i64 (.t 20)),zM 9 21] [0,1,6,7,8,9]) (.seq (.reg [ zM 22 0,zM 23 9,qD 24 1 22 23,qF 25 1 24,zM 26 1,q2 27 174 25 26] [0,1,6,7,8,9,27]) (.cond (.t 27) (.reg [ zM 28 9,zA 29 (.bin .add (.t 28) (kI 1)),zM 7 29] [0,1,6,7,8]) (.reg [ zM 30 9,zM 8 30] [0,1,6,7,8])))))))) (.seq (.reg [ zM 31 7,zM 32 7,zM 33 6,zA 34 (.bin .lss (.t 32) (.t 33)),zM 35 34,zG 35 true 36 (.mv (.t 0)),zG 35 true 37 (.mv (.t 7)),zG 35 true 38 (.nZ 1 (.t 36) (.t 37)),zG 35 true 39 (.load false 1 (.t 38)),zG 35 true 40 (.mv (.t 1)),zG 35 true 41 (.bin .eql (.t 39) (.t 40)),zG 35 true 42 (.mv (.t 41)),zG 42 false 43 (.mv (.t 0)),zG 42 false 44 (.mv (.t 7)),zG 42 false 45 (.nZ 1 (.t 43) (.t 44)),zG 42 false 46 (.load false 1 (.t 45)),⟨(some (42,false)),some 47,.call 175 [.t 46]⟩,zG 42 false 48 (.mv (.t 47)),zG 48 true 49 (.mv (.t 1)),⟨(some (48,true)),some 50,.call 175 [.t 49]⟩,zG 42 false 51 (.pick (.t 48) (.t 50) (kB false)),zG 35 true 52 (.pick (.t 42) (kB true) (.t 51)),qP 53 35 52,zM 4 31,zM 5 53] [4,5]) .ret)))))
theorem K.slices_BinarySearch_string:dU pZ 159 2 0 C.slices_BinarySearch_string [.tmp 4,.tmp 5]=true:=by kernel_rfl
def C.bF:aP:=(.seq (.reg [ qX 2 10 0,qI 4 0,qB 5 false] [1,2]) (.seq (.seq (.reg [ qA 7 0 2,qF 8 1 7] [1,2,8]) (.block 0 (.seq (.reg [ zA 10 (.bin .eql (.t 8) (kI 4)),zM 9 10] [1,2,8,9]) (.cond (.t 9) (.seq (.reg [ qA 11 3 2,qF 12 1 11,zM 13 1,q2 14 159 12 13,qE 15 14 0,qE 16 14 1,zM 4 15,zM 5 16] [4,5]) .ret) (.seq (.reg [ zA 18 (.bin .eql (.t 8) (kI 3)),zM 17 18] [1,2,17]) (.cond (.t 17) (.seq (.reg [ qA 19 4 2,qF 20 1 19,qL 21 20,qI 22 0] [1,21,22]) (.block 1 (.loop (.seq (.reg [ zA 23 (.bin .lss (.t 22) (.t 21))] [1,21,22,23]) (.seq (.cond (.t 23) .skip (.exit 1)) (.seq (.block 2 (.seq (.reg [ zM 24 22,zM 6 24] [1,6,21,22]) (.seq (.reg [ zM 25 6,q1 26 134 25,zM 27 1,zA 28 (.bin .eql (.t 26) (.t 27))] [1,6,21,22,28]) (.cond (.t 28) (.seq (.reg [ zM 29 6,zM 4 29,qB 5 true] [4,5]) .ret) .skip)))) (.reg [ zA 30 (.bin .add (.t 22) (kI 1)),zM 22 30] [1,21,22]))))))) .skip)))))) (.seq (.reg [ qI 4 0,qB 5 false] [4,5]) .ret)))
theorem K.bF:dU pZ 187 2 0 C.bF [.tmp 4,.tmp 5]=true:=by kernel_rfl
def C.bJ:aP:=(.seq (.reg [ zA 6 (.mv (.k (.fU 5)))] [0,1,2]) (.seq (.reg [ zM 10 0,zM 11 1,zA 12 (.jB 5 (.t 10) (some (.t 11)) none)] [0,1,2]) (.seq (.reg [ zM 13 2,qL 14 13,zM 7 14] [0,1,2,7]) (.seq (.seq (.reg [ zM 15 7,zA 16 (.bin .eql (.t 15) (kI 0))] [0,1,2,7,16]) (.cond (.t 16) (.seq (.reg [ zM 17 0,zM 6 17] [6]) .ret) .skip)) (.seq (.reg [ zM 18 0,qL 19 18,zM 8 19] [0,1,2,7,8]) (.seq (.seq (.reg [ zM 20 1,zM 21 8,zA 22 (.bin .eql (.t 20) (.t 21))] [0,1,2,7,8,22]) (.cond (.t 22) (.seq (.reg [ zM 23 0,zM 24 2,zA 25 (.D5 10 5 80 (.t 23) (.t 24)),zM 6 25] [6]) .ret) .skip)) (.seq (.seq (.reg [ zM 26 8,zM 27 7,zA 28 (.bin .add (.t 26) (.t 27)),zM 29 0,zA 30 (.JL (.t 29)),zA 31 (.bin .gtr (.t 28) (.t 30))] [0,1,2,7,8,31]) (.cond (.t 31) (.seq (.reg [ zM 32 0,zM 33 1,zA 34 (.jB 5 (.t 32) none (some (.t 33))),zM 35 8,zM 36 7,zA 37 (.bin .add (.t 35) (.t 36)),zM 38 1,zA 39 (.bin .sub (.t 37) (.t 38)),zA 40 (.Hy 11 5 80 [.lit (.int .i64 0),.lit (.int .i64 0),.str [],.sl 1 [],.sl 5 []] (.t 34) (.t 39)),zM 9 40] [0,1,2,7,9]) (.seq (.reg [ zM 41 9,zM 42 1,zA 43 (.jB 5 (.t 41) (some (.t 42)) none),zM 44 2,zA 45 (.vI 5 (.t 43) (.t 44))] [0,1,7,9]) (.seq (.kC [ (zM 46 9,[]),(zM 47 1,[]),(zM 48 7,[]),(zA 49 (.bin .add (.t 47) (.t 48)),[1,2]),(zA 50 (.jB 5 (.t 46) (some (.t 49)) none),[0,1,2,3]),(zM 51 0,[]),(zM 52 1,[]),(zA 53 (.jB 5 (.t 51) (some (.t 52)) none),[5,6]),(zA 54 (.vI 5 (.t 50) (.t 53)),[0,1,2,3,4,5,6,7])] [9]) (.seq (.reg [ zM 55 9,zM 6 55] [6]) .ret)))) .skip)) (.seq (.reg [ zM 56 0,zM 57 8,zM 58 7,zA 59 (.bin .add (.t 57) (.t 58)),zA 60 (.jB 5 (.t 56) none (some (.t 59))),zM 0 60] [0,1,2,7,8]) (.seq (.seq (.reg [ zM 61 2,zM 62 0,zM 63 1,zM 64 7,zA 65 (.bin .add (.t 63) (.t 64)),zA 66 (.jB 5 (.t 62) (some (.t 65)) none),zA 67 (.Uf (.t 61) (.t 66)),qO 68 67] [0,1,2,7,8,68]) (.cond (.t 68) (.seq (.kC [ (zM 69 0,[]),(zM 70 1,[]),(zM 71 7,[]),(zA 72 (.bin .add (.t 70) (.t 71)),[1,2]),(zA 73 (.jB 5 (.t 69) (some (.t 72)) none),[0,1,2,3]),(zM 74 0,[]),(zM 75 1,[]),(zA 76 (.jB 5 (.t 74) (some (.t 75)) none),[5,6]),(zA 77 (.vI 5 (.t 73) (.t 76)),[0,1,2,3,4,5,6,7])] [0,1,2]) (.seq (.reg [ zM 78 0,zM 79 1,zA 80 (.jB 5 (.t 78) (some (.t 79)) none),zM 81 2,zA 82 (.vI 5 (.t 80) (.t 81))] [0]) (.seq (.reg [ zM 83 0,zM 6 83] [6]) .ret))) .skip)) (.seq (.reg [ zM 84 0,zM 85 8,zA 86 (.jB 5 (.t 84) (some (.t 85)) none),zM 87 2,zA 88 (.vI 5 (.t 86) (.t 87))] [0,1,7]) (.seq (.reg [ zM 89 0,zM 90 1,zA 91 (.jB 5 (.t 89) (some (.t 90)) none),zM 92 7,q2 93 196 91 92] [0]) (.seq (.reg [ zM 94 0,zM 6 94] [6]) .ret))))))))))))
theorem K.bJ:dU pZ 177 3 2 C.bJ [.tmp 6]=true:=by kernel_rfl
def C.fB:aP:=(.seq (.reg [ zA 6 (.mv (.k (.fU 1)))] [0,1,2]) (.seq (.reg [ zM 10 0,zM 11 1,zA 12 (.jB 1 (.t 10) (some (.t 11)) none)] [0,1,2]) (.seq (.reg [ zM 13 2,qL 14 13,zM 7 14] [0,1,2,7]) (.seq (.seq (.reg [ zM 15 7,zA 16 (.bin .eql (.t 15) (kI 0))] [0,1,2,7,16]) (.cond (.t 16) (.seq (.reg [ zM 17 0,zM 6 17] [6]) .ret) .skip)) (.seq (.reg [ zM 18 0,qL 19 18,zM 8 19] [0,1,2,7,8]) (.seq (.seq (.reg [ zM 20 1,zM 21 8,zA 22 (.bin .eql (.t 20) (.t 21))] [0,1,2,7,8,22]) (.cond (.t 22) (.seq (.reg [ zM 23 0,zM 24 2,zA 25 (.D5 10 1 16 (.t 23) (.t 24)),zM 6 25] [6]) .ret) .skip)) (.seq (.seq (.reg [ zM 26 8,zM 27 7,zA 28 (.bin .add (.t 26) (.t 27)),zM 29 0,zA 30 (.JL (.t 29)),zA 31 (.bin .gtr (.t 28) (.t 30))] [0,1,2,7,8,31]) (.cond (.t 31) (.seq (.reg [ zM 32 0,zM 33 1,zA 34 (.jB 1 (.t 32) none (some (.t 33))),zM 35 8,zM 36 7,zA 37 (.bin .add (.t 35) (.t 36)),zM 38 1,zA 39 (.bin .sub (.t 37) (.t 38)),zA 40 (.Hy 11 1 16 [.str []] (.t 34) (.t 39)),zM 9 40] [0,1,2,7,9]) (.seq (.reg [ zM 41 9,zM 42 1,zA 43 (.jB 1 (.t 41) (some (.t 42)) none),zM 44 2,zA 45 (.vI 1 (.t 43) (.t 44))] [0,1,7,9]) (.seq (.kC [ (zM 46 9,[]),(zM 47 1,[]),(zM 48 7,[]),(zA 49 (.bin .add (.t 47) (.t 48)),[1,2]),(zA 50 (.jB 1 (.t 46) (some (.t 49)) none),[0,1,2,3]),(zM 51 0,[]),(zM 52 1,[]),(zA 53 (.jB 1 (.t 51) (some (.t 52)) none),[5,6]),(zA 54 (.vI 1 (.t 50) (.t 53)),[0,1,2,3,4,5,6,7])] [9]) (.seq (.reg [ zM 55 9,zM 6 55] [6]) .ret)))) .skip)) (.seq (.reg [ zM 56 0,zM 57 8,zM 58 7,zA 59 (.bin .add (.t 57) (.t 58)),zA 60 (.jB 1 (.t 56) none (some (.t 59))),zM 0 60] [0,1,2,7,8]) (.seq (.seq (.reg [ zM 61 2,zM 62 0,zM 63 1,zM 64 7,zA 65 (.bin .add (.t 63) (.t 64)),zA 66 (.jB 1 (.t 62) (some (.t 65)) none),zA 67 (.Uf (.t 61) (.t 66)),qO 68 67] [0,1,2,7,8,68]) (.cond (.t 68) (.seq (.kC [ (zM 69 0,[]),(zM 70 1,[]),(zM 71 7,[]),(zA 72 (.bin .add (.t 70) (.t 71)),[1,2]),(zA 73 (.jB 1 (.t 69) (some (.t 72)) none),[0,1,2,3]),(zM 74 0,[]),(zM 75 1,[]),(zA 76 (.jB 1 (.t 74) (some (.t 75)) none),[5,6]),(zA 77 (.vI 1 (.t 73) (.t 76)),[0,1,2,3,4,5,6,7])] [0,1,2]) (.seq (.reg [ zM 78 0,zM 79 1,zA 80 (.jB 1 (.t 78) (some (.t 79)) none),zM 81 2,zA 82 (.vI 1 (.t 80) (.t 81))] [0]) (.seq (.reg [ zM 83 0,zM 6 83] [6]) .ret))) .skip)) (.seq (.reg [ zM 84 0,zM 85 8,zA 86 (.jB 1 (.t 84) (some (.t 85)) none),zM 87 2,zA 88 (.vI 1 (.t 86) (.t 87))] [0,1,7]) (.seq (.reg [ zM 89 0,zM 90 1,zA 91 (.jB 1 (.t 89) (some (.t 90)) none),zM 92 7,q2 93 194 91 92] [0]) (.seq (.reg [ zM 94 0,zM 6 94] [6]) .ret))))))))))))
theorem K.fB:dU pZ 176 3 2 C.fB [.tmp 6]=true:=by kernel_rfl
def C.jD:aP:=(.seq (.reg [ qX 5 10 2] [0,1,5]) (.seq (.reg [ zM 9 0,qN 10 9,qA 11 3 10,qF 12 1 11,zM 13 1,q2 14 159 12 13,zM 8 14,qE 15 8 0,qE 16 8 1,zM 6 15,zM 7 16] [0,1,5,6,7]) (.seq (.seq (.reg [ zM 17 7] [0,1,5,6,17]) (.cond (.t 17) (.seq (.kC [ (zM 18 0,[]),(qN 19 18,[0]),(qA 20 4 19,[0,1]),(qF 21 1 20,[0,1,2]),(zM 22 6,[]),(qT 23 5 5,[]),(qD 24 5 21 22,[0,1,2,3,4,5]),(qS 5 24 23,[0,1,2,3,4,5,6])] []) .ret) .skip)) (.seq (.reg [ zM 25 0,zM 26 0,qN 27 26,qA 28 3 27,qF 29 1 28,zM 30 6,zM 31 1,zA 32 (.dP 11 1 1 [.str []] [(0,.t 31)]),q3 33 176 29 30 32,qN 34 25,qA 35 3 34,qU 1 35 33] [0,5,6]) (.kC [ (zM 36 0,[]),(zM 37 0,[]),(qN 38 37,[1]),(qA 39 4 38,[1,2]),(qF 40 1 39,[1,2,3]),(zM 41 6,[]),(qT 42 5 5,[]),(zA 43 (.dP 12 5 1 [.lit (.int .i64 0),.lit (.int .i64 0),.str [],.sl 1 [],.sl 5 []] [(0,.t 42)]),[6]),(q3 44 177 40 41 43,[1,2,3,4,5,6,7]),(qN 45 36,[0,1,2,3,4,5,6,7,8]),(qA 46 4 45,[0,1,2,3,4,5,6,7,8,9]),(qU 1 46 44,[0,1,2,3,4,5,6,7,8,9,10])] [])))))
theorem K.jD:dU pZ 160 3 3 C.jD []=true:=by kernel_rfl
def C.gX:aP:=(.seq (.reg [ qX 3 10 0,qX 5 11 2,qZ 6 12,qB 7 false] [1,3,5,6]) (.seq (.reg [ qT 11 5 3,q1 12 33 11,qZ 8 13,qS 5 8 12] [1,3,5,6,8]) (.seq (.seq (.reg [ qA 13 0 3,qF 14 1 13] [1,3,5,6,8,14]) (.block 0 (.seq (.reg [ zA 16 (.bin .eql (.t 14) (kI 4)),zM 15 16] [1,3,5,6,8,14,15]) (.cond (.t 15) (.seq (.reg [ zM 17 1,qT 18 5 5,q1 19 33 18,q3 20 160 8 17 19] [6,8]) (.seq (.reg [ qT 21 5 8,qS 5 6 21,qB 7 true] [6,7]) .ret)) (.seq (.reg [ zA 23 (.bin .eql (.t 14) (kI 3)),zM 22 23] [1,3,5,6,8,22]) (.cond (.t 22) (.seq (.reg [ qT 25 5 3,zM 26 1,q2 27 187 25 26,zM 24 27,qE 28 24 0,qE 29 24 1,zM 9 28,zM 10 29] [1,3,5,6,8,9,10]) (.cut (.seq (.reg [ zM 30 10,qO 31 30,zM 32 31,zG 32 true 33 (.mv (.t 1)),zG 32 true 34 (.bin .eql (.t 33) (.k (.c (.str [45])))),zG 32 true 35 (.mv (.t 34)),zG 35 false 36 (.mv (.t 1)),zG 35 false 37 (.fZ 4 (.t 3)),zG 35 false 38 (.load false 1 (.t 37)),zG 35 false 39 (.len (.t 38)),⟨(some (35,false)),some 40,.call 134 [.t 39]⟩,zG 35 false 41 (.bin .eql (.t 36) (.t 40)),zG 32 true 42 (.pick (.t 35) (kB true) (.t 41)),qP 43 32 42] [3,5,6,8,9,10,43]) (.cond (.t 43) (.reg [ qA 44 4 3,qF 45 1 44,qL 46 45,zM 9 46,qB 10 true] [5,6,8,9,10]) .skip)) (.seq (.seq (.reg [ zM 47 10,qO 48 47] [5,6,8,9,48]) (.cond (.t 48) (.seq (.reg [ zA 49 (.build zN []),qS 5 6 49,qB 7 false] [6,7]) .ret) .skip)) (.seq (.kC [ (qA 50 4 8,[]),(qF 51 1 50,[0]),(zM 52 9,[]),(qT 53 5 5,[]),(q1 54 33 53,[3]),(zA 55 (.dP 14 5 1 [.lit (.int .i64 0),.lit (.int .i64 0),.str [],.sl 1 [],.sl 5 []] [(0,.t 54)]),[3,4]),(q3 56 177 51 52 55,[0,1,2,3,4,5]),(qA 57 4 8,[0,1,2,3,4,5,6]),(qU 1 57 56,[0,1,2,3,4,5,6,7])] [6,8]) (.seq (.reg [ qT 58 5 8,qS 5 6 58,qB 7 true] [6,7]) .ret))))) .skip)))))) (.seq (.reg [ zA 59 (.build zN []),qS 5 6 59,qB 7 false] [6,7]) .ret))))
theorem K.gX:dU pZ 185 3 0 C.gX [.cell 6 true 5,.tmp 7]=true:=by kernel_rfl
def C.kW:aP:=(.seq (.reg [ qX 4 10 0,qZ 5 11,qB 6 false] [1,2,3,4,5]) (.seq (.kC [ (qT 7 5 4,[]),(qF 8 1 1,[]),(qF 9 1 2,[]),(qD 10 1 8 9,[1,2]),(qF 11 1 10,[1,2,3]),(qT 12 5 3,[]),(q3 13 185 7 11 12,[0,1,2,3,4,5]),(qE 14 13 0,[0,1,2,3,4,5,6]),(qE 15 13 1,[0,1,2,3,4,5,6]),(qS 5 5 14,[0,1,2,3,4,5,6,7,8]),(zM 6 15,[0,1,2,3,4,5,6,7,8,9])] [5,6]) .ret))
theorem K.kW:dU pZ 184 4 3 C.kW [.cell 5 true 5,.tmp 6]=true:=by kernel_rfl
def C.bD:aP:=(.seq (.reg [ qB 2 false] [0]) (.seq (.seq (.reg [ zM 4 0,zA 5 (.lens (.t 4)),zA 6 (.bin .gtr (.t 5) (kI 12))] [0,6]) (.cond (.t 6) (.seq (.reg [ qB 2 false] [2]) .ret) .skip)) (.seq (.seq (.reg [ qI 3 0] [0,3]) (.block 0 (.loop (.seq (.seq (.reg [ zM 7 3,zM 8 0,zA 9 (.lens (.t 8)),zA 10 (.bin .lss (.t 7) (.t 9))] [0,3,10]) (.cond (.t 10) .skip (.exit 0))) (.seq (.block 1 (.seq (.reg [ zM 13 0,zM 14 3,zA 15 (.idxs (.t 13) (.t 14)),zA 16 (.bin .lss (.t 15) (.k (.c (.lit (.int .u8 32))))),zM 17 16,zG 17 false 18 (.mv (.t 0)),zG 17 false 19 (.mv (.t 3)),zG 17 false 20 (.idxs (.t 18) (.t 19)),zG 17 false 21 (.bin .gtr (.t 20) (.k (.c (.lit (.int .u8 126))))),qQ 22 17 21] [0,3,22]) (.cond (.t 22) (.seq (.reg [ qB 2 false] [2]) .ret) .skip))) (.reg [ zM 11 3,zA 12 (.bin .add (.t 11) (kI 1)),zM 3 12] [0,3])))))) (.seq (.reg [ qB 2 true] [2]) .ret))))
theorem K.bD:dU pZ 130 1 0 C.bD [.tmp 2]=true:=by kernel_rfl
def C.fH:aP:=(.seq (.reg [ qB 2 false] [0]) (.seq (.seq (.reg [ zM 5 0,qL 6 5,zA 7 (.bin .gtr (.t 6) (kI 6))] [0,7]) (.cond (.t 7) (.seq (.reg [ qB 2 false] [2]) .ret) .skip)) (.seq (.seq (.reg [ zM 8 0,qL 9 8,qI 10 0] [0,8,9,10]) (.block 0 (.loop (.seq (.reg [ zA 11 (.bin .lss (.t 10) (.t 9))] [0,8,9,10,11]) (.seq (.cond (.t 11) .skip (.exit 0)) (.seq (.block 1 (.seq (.reg [ zM 12 10,qD 13 1 8 10,qF 14 1 13,zM 3 12,zM 4 14] [0,3,4,8,9,10]) (.seq (.reg [ zM 15 4,q1 16 130 15,qO 17 16,zM 18 17,zG 18 false 19 (.mv (.t 3)),zG 18 false 20 (.bin .gtr (.t 19) (kI 0)),zG 18 false 21 (.mv (.t 20)),zG 21 true 22 (.mv (.t 0)),zG 21 true 23 (.mv (.t 3)),zG 21 true 24 (.bin .sub (.t 23) (kI 1)),zG 21 true 25 (.nZ 1 (.t 22) (.t 24)),zG 21 true 26 (.load false 1 (.t 25)),zG 21 true 27 (.mv (.t 4)),zG 21 true 28 (.bin .geq (.t 26) (.t 27)),zG 18 false 29 (.pick (.t 21) (.t 28) (kB false)),qQ 30 18 29] [0,8,9,10,30]) (.cond (.t 30) (.seq (.reg [ qB 2 false] [2]) .ret) .skip)))) (.reg [ zA 31 (.bin .add (.t 10) (kI 1)),zM 10 31] [0,8,9,10]))))))) (.seq (.reg [ qB 2 true] [2]) .ret))))
theorem K.fH:dU pZ 131 1 0 C.fH [.tmp 2]=true:=by kernel_rfl
def C.bI:aP:=(.seq (.reg [ qX 1 10 0,qB 2 false] [1]) (.cut (.seq (.reg [ qA 3 0 1,qF 4 1 3,zA 5 (.bin .neq (.t 4) (kI 1)),zM 6 5,zG 6 true 7 (.fZ 1 (.t 1)),zG 6 true 8 (.load false 1 (.t 7)),zG 6 true 9 (.bin .neq (.t 8) (kI 0)),qP 10 6 9,zM 11 10,zG 11 false 12 (.fZ 0 (.t 1)),zG 11 false 13 (.load false 1 (.t 12)),zG 11 false 14 (.bin .neq (.t 13) (kI 2)),zG 11 false 15 (.mv (.t 14)),zG 15 true 16 (.fZ 2 (.t 1)),zG 15 true 17 (.load false 1 (.t 16)),zG 15 true 18 (.bin .neq (.t 17) (.k (.c (.str [])))),zG 11 false 19 (.pick (.t 15) (.t 18) (kB false)),qQ 20 11 19] [1,20]) (.cond (.t 20) (.seq (.reg [ qB 2 false] [2]) .ret) .skip)) (.seq (.seq (.reg [ qA 21 0 1,qF 22 1 21,zA 23 (.bin .neq (.t 22) (kI 4)),zM 24 23,zG 24 true 25 (.fZ 3 (.t 1)),zG 24 true 26 (.load false 1 (.t 25)),zG 24 true 27 (.len (.t 26)),zG 24 true 28 (.bin .gtr (.t 27) (kI 0)),qP 29 24 28] [1,29]) (.cond (.t 29) (.seq (.reg [ qB 2 false] [2]) .ret) .skip)) (.seq (.seq (.reg [ qA 30 0 1,qF 31 1 30] [1,31]) (.block 0 (.seq (.reg [ zA 33 (.bin .eql (.t 31) (kI 0)),zM 32 33] [1,31,32]) (.cond (.t 32) (.seq (.reg [ qA 34 4 1,qF 35 1 34,qL 36 35,zA 37 (.bin .eql (.t 36) (kI 0)),zM 2 37] [2]) .ret) (.seq (.reg [ zA 39 (.bin .eql (.t 31) (kI 1)),zM 38 39] [1,31,38]) (.cond (.t 38) (.seq (.reg [ qA 40 1 1,qF 41 1 40,zA 42 (.bin .geq (.t 41) (kI (-999999))),zM 43 42,zG 43 true 44 (.fZ 1 (.t 1)),zG 43 true 45 (.load false 1 (.t 44)),zG 43 true 46 (.bin .leq (.t 45) (kI 999999)),qP 47 43 46,zM 48 47,zG 48 true 49 (.fZ 4 (.t 1)),zG 48 true 50 (.load false 1 (.t 49)),zG 48 true 51 (.len (.t 50)),zG 48 true 52 (.bin .eql (.t 51) (kI 0)),qP 53 48 52,zM 2 53] [2]) .ret) (.seq (.reg [ zA 55 (.bin .eql (.t 31) (kI 2)),zM 54 55] [1,31,54]) (.cond (.t 54) (.seq (.reg [ qA 56 2 1,qF 57 1 56,q1 58 130 57,zM 59 58,zG 59 true 60 (.fZ 4 (.t 1)),zG 59 true 61 (.load false 1 (.t 60)),zG 59 true 62 (.len (.t 61)),zG 59 true 63 (.bin .eql (.t 62) (kI 0)),qP 64 59 63,zM 2 64] [2]) .ret) (.seq (.reg [ zA 66 (.bin .eql (.t 31) (kI 3)),zM 65 66] [1,31,65]) (.cond (.t 65) (.seq (.reg [ qA 67 4 1,qF 68 1 67,qL 69 68,zA 70 (.bin .leq (.t 69) (kI 6)),zM 2 70] [2]) .ret) (.seq (.reg [ zA 72 (.bin .eql (.t 31) (kI 4)),zM 71 72] [1,71]) (.cond (.t 71) (.seq (.reg [ qA 73 3 1,qF 74 1 73,q1 75 131 74,zM 76 75,zG 76 true 77 (.fZ 4 (.t 1)),zG 76 true 78 (.load false 1 (.t 77)),zG 76 true 79 (.len (.t 78)),zG 76 true 80 (.fZ 3 (.t 1)),zG 76 true 81 (.load false 1 (.t 80)),zG 76 true 82 (.len (.t 81)),zG 76 true 83 (.bin .eql (.t 79) (.t 82)),qP 84 76 83,zM 2 84] [2]) .ret) .skip)))))))))))) (.seq (.reg [ qB 2 false] [2]) .ret)))))
theorem K.bI:dU pZ 95 1 0 C.bI [.tmp 2]=true:=by kernel_rfl
def C.bu:aP:=(.seq (.reg [ qX 2 10 0,qI 4 0,qI 5 0,qB 6 false] [1,2]) (.seq (.seq (.reg [ zM 12 1,zA 13 (.bin .gtr (.t 12) (kI 5)),zM 14 13,zG 14 false 15 (.load true 5 (.t 2)),⟨(some (14,false)),some 16,.call 95 [.t 15]⟩,zG 14 false 17 (.not (.t 16)),qQ 18 14 17] [1,2,18]) (.cond (.t 18) (.seq (.reg [ qI 4 0,qI 5 0,qB 6 false] [4,5,6]) .ret) .skip)) (.seq (.reg [ qI 4 1,qI 5 1] [1,2,4,5]) (.seq (.seq (.reg [ qA 19 4 2,qF 20 1 19,qL 21 20,qI 22 0] [1,4,5,20,21,22]) (.block 0 (.loop (.seq (.reg [ zA 23 (.bin .lss (.t 22) (.t 21))] [1,4,5,20,21,22,23]) (.seq (.cond (.t 23) .skip (.exit 0)) (.seq (.block 1 (.seq (.reg [ qD 24 5 20 22,qT 25 5 24,qZ 8 11,qS 5 8 25] [1,4,5,8,20,21,22]) (.seq (.reg [ qT 27 5 8,zM 28 1,zA 29 (.bin .add (.t 28) (kI 1)),q2 30 59 27 29,zM 26 30,qE 31 26 0,qE 32 26 1,qE 33 26 2,zM 9 31,zM 10 32,zM 11 33] [1,4,5,9,10,11,20,21,22]) (.seq (.seq (.reg [ zM 34 11,qO 35 34] [1,4,5,9,10,20,21,22,35]) (.cond (.t 35) (.seq (.reg [ qI 4 0,qI 5 0,qB 6 false] [4,5,6]) .ret) .skip)) (.seq (.reg [ zM 36 4,zM 37 9,zA 38 (.bin .add (.t 36) (.t 37)),zM 4 38] [1,4,5,10,20,21,22]) (.reg [ zM 39 5,zM 40 10,zA 41 (.bin .add (.t 40) (kI 1)),zA 42 (.max (.t 39) (.t 41)),zM 5 42] [1,4,5,20,21,22])))))) (.reg [ zA 43 (.bin .add (.t 22) (kI 1)),zM 22 43] [1,4,5,20,21,22]))))))) (.seq (.reg [ zM 44 4,zM 45 5,zM 4 44,zM 5 45,qB 6 true] [4,5,6]) .ret)))))
theorem K.bu:dU pZ 59 2 0 C.bu [.tmp 4,.tmp 5,.tmp 6]=true:=by kernel_rfl
def C.aH:aP:=(.seq (.reg [ qX 1 10 0,qB 2 false] [1]) (.seq (.reg [ qT 7 5 1,⟨none,some 8,.call 59 [.t 7,kI 1]⟩,zM 6 8,qE 9 6 0,qE 10 6 1,qE 11 6 2,zM 3 9,zM 4 10,zM 5 11] [3,5]) (.seq (.reg [ zM 12 5,zM 13 12,zG 13 true 14 (.mv (.t 3)),zG 13 true 15 (.bin .leq (.t 14) (kI 40)),qP 16 13 15,zM 2 16] [2]) .ret)))
theorem K.aH:dU pZ 30 1 0 C.aH [.tmp 2]=true:=by kernel_rfl
def C.pU:aP:=(.seq (.reg [ qX 3 10 0,qZ 6 11,qB 7 false] [1,2,3,6]) (.seq (.seq (.reg [ zM 12 1,qL 13 12,zA 14 (.bin .eql (.t 13) (kI 0))] [1,2,3,6,14]) (.cond (.t 14) (.seq (.reg [ zM 15 2,qT 16 5 3,⟨none,some 17,.vW (.t 15) [.t 16]⟩,qE 18 17 0,qE 19 17 1,qS 5 6 18,zM 7 19] [6,7]) .ret) .skip)) (.seq (.kC [ (qT 21 5 3,[]),(zM 22 1,[]),(zA 23 (.nZ 1 (.t 22) (kI 0)),[1]),(qF 24 1 23,[1,2]),(q2 25 187 21 24,[0,1,2,3]),(zM 20 25,[0,1,2,3,4]),(qE 26 20 0,[0,1,2,3,4,5]),(qE 27 20 1,[0,1,2,3,4,5]),(zM 8 26,[0,1,2,3,4,5,6]),(zM 9 27,[0,1,2,3,4,5,6,7,8])] [1,2,3,6,8,9]) (.seq (.seq (.reg [ zM 28 9,qO 29 28] [1,2,3,6,8,29]) (.cond (.t 29) (.seq (.reg [ zA 30 (.build zN []),qS 5 6 30,qB 7 false] [6,7]) .ret) .skip)) (.seq (.kC [ (qA 32 4 3,[]),(qF 33 1 32,[0]),(zM 34 8,[]),(qD 35 5 33 34,[0,1,2]),(qT 36 5 35,[0,1,2,3]),(zM 37 1,[]),(zA 38 (.tJ 1 (.t 37) (some (kI 1)) none),[5]),(zM 39 2,[]),(q3 40 183 36 38 39,[0,1,2,3,4,5,6,7]),(zM 31 40,[0,1,2,3,4,5,6,7,8]),(qE 41 31 0,[0,1,2,3,4,5,6,7,8,9]),(qE 42 31 1,[0,1,2,3,4,5,6,7,8,9]),(qZ 10 12,[]),(qS 5 10 41,[0,1,2,3,4,5,6,7,8,9,10,12]),(zM 9 42,[0,1,2,3,4,5,6,7,8,9,10,11,12,13])] [3,6,8,9,10]) (.seq (.seq (.reg [ zM 43 9,qO 44 43] [3,6,8,10,44]) (.cond (.t 44) (.seq (.reg [ zA 45 (.build zN []),qS 5 6 45,qB 7 false] [6,7]) .ret) .skip)) (.seq (.reg [ qT 46 5 3,q1 47 33 46,qZ 11 13,qS 5 11 47] [6,8,10,11]) (.seq (.reg [ qA 48 4 11,qF 49 1 48,zM 50 8,qT 51 5 10,qD 52 5 49 50,qS 5 52 51] [6,11]) (.seq (.reg [ qT 53 5 11,qS 5 6 53,qB 7 true] [6,7]) .ret)))))))))
theorem K.dQ:dU pZ 183 3 3 C.pU [.cell 6 true 5,.tmp 7]=true:=by kernel_rfl
def C.jC:aP:=(.seq (.reg [ qX 2 10 0,qZ 4 11,qB 5 false] [1,2,4]) (.seq (.seq (.reg [ zM 6 1,qO 7 6,zM 8 7,zG 8 false 9 (.load true 5 (.t 2)),⟨(some (8,false)),some 10,.call 30 [.t 9]⟩,zG 8 false 11 (.not (.t 10)),qQ 12 8 11] [2,4,12]) (.cond (.t 12) (.seq (.reg [ zA 13 (.build zN []),qS 5 4 13,qB 5 false] [4,5]) .ret) .skip)) (.seq (.reg [ qT 14 5 2,qS 5 4 14,qB 5 true] [4,5]) .ret)))
theorem K.jC:dU pZ 140 2 0 C.jC [.cell 4 true 5,.tmp 5]=true:=by kernel_rfl
def C.dL:aP:=(.seq (.reg [ qB 2 false] [0]) (.seq (.seq (.reg [ zM 5 0,qL 6 5,zA 7 (.bin .gtr (.t 6) (kI 5))] [0,7]) (.cond (.t 7) (.seq (.reg [ qB 2 false] [2]) .ret) .skip)) (.seq (.seq (.reg [ zM 8 0,qL 9 8,qI 10 0] [8,9,10]) (.block 0 (.loop (.seq (.reg [ zA 11 (.bin .lss (.t 10) (.t 9))] [8,9,10,11]) (.seq (.cond (.t 11) .skip (.exit 0)) (.seq (.block 1 (.seq (.reg [ qD 12 1 8 10,qF 13 1 12,zM 4 13] [4,8,9,10]) (.seq (.reg [ zM 14 4,q1 15 130 14,qO 16 15] [8,9,10,16]) (.cond (.t 16) (.seq (.reg [ qB 2 false] [2]) .ret) .skip)))) (.reg [ zA 17 (.bin .add (.t 10) (kI 1)),zM 10 17] [8,9,10]))))))) (.seq (.reg [ qB 2 true] [2]) .ret))))
theorem K.dL:dU pZ 125 1 0 C.dL [.tmp 2]=true:=by kernel_rfl
def C.ji:aP:=(.seq (.reg [ qX 3 10 0,qX 4 11 1,qX 5 12 2,qZ 6 13,qB 7 false] [3,4,5,6]) (.seq (.seq (.reg [ qT 9 5 3,q1 10 30 9,qO 11 10,zM 12 11,zG 12 false 13 (.load false 1 (.t 4)),⟨(some (12,false)),some 14,.call 125 [.t 13]⟩,zG 12 false 15 (.not (.t 14)),qQ 16 12 15,zM 17 16,zG 17 false 18 (.load true 5 (.t 5)),⟨(some (17,false)),some 19,.call 30 [.t 18]⟩,zG 17 false 20 (.not (.t 19)),qQ 21 17 20] [3,4,5,6,21]) (.cond (.t 21) (.seq (.reg [ zA 22 (.build zN []),qS 5 6 22,qB 7 false] [6,7]) .ret) .skip)) (.seq (.seq (.reg [ qF 23 1 4,qL 24 23,zA 25 (.bin .eql (.t 24) (kI 0))] [3,4,5,6,25]) (.cond (.t 25) (.seq (.reg [ qT 26 5 5,q1 27 33 26,qS 5 6 27,qB 7 true] [6,7]) .ret) .skip)) (.seq (.reg [ qF 28 1 4,qL 29 28,zA 30 (.bin .sub (.t 29) (kI 1)),zA 8 (.alloc 14 [je 0]),qU 1 8 30] [3,4,5,6,8]) (.seq (.kC [ (qT 31 5 3,[]),(qF 32 1 4,[]),(qF 33 1 8,[]),(zA 34 (.tJ 1 (.t 32) none (some (.t 33))),[1,2]),(zA 35 (.IV 184 [.t 4,.t 8,.t 5]),[]),(q3 36 183 31 34 35,[0,1,2,3,4]),(qE 37 36 0,[0,1,2,3,4,5]),(qE 38 36 1,[0,1,2,3,4,5]),(q2 39 140 37 38,[0,1,2,3,4,5,6,7]),(qE 40 39 0,[0,1,2,3,4,5,6,7,8]),(qE 41 39 1,[0,1,2,3,4,5,6,7,8]),(qS 5 6 40,[0,1,2,3,4,5,6,7,8,9,10]),(zM 7 41,[0,1,2,3,4,5,6,7,8,9,10,11])] [6,7]) .ret)))))
theorem K.ji:dU pZ 166 3 0 C.ji [.cell 6 true 5,.tmp 7]=true:=by kernel_rfl
def C.fJ:aP:=(.seq (.reg [ qX 2 10 0,qZ 4 11,qB 5 false] [1,2,4]) (.seq (.seq (.reg [ zM 10 1,qL 11 10,qI 12 0] [2,4,10,11,12]) (.block 0 (.loop (.seq (.reg [ zA 13 (.bin .lss (.t 12) (.t 11))] [2,4,10,11,12,13]) (.seq (.cond (.t 13) .skip (.exit 0)) (.seq (.block 1 (.seq (.reg [ qD 14 1 10 12,qF 15 1 14,zM 7 15] [2,4,7,10,11,12]) (.seq (.reg [ qT 17 5 2,zM 18 7,q2 19 187 17 18,zM 16 19,qE 20 16 0,qE 21 16 1,zM 8 20,zM 9 21] [2,4,8,9,10,11,12]) (.seq (.seq (.reg [ zM 22 9,qO 23 22] [2,4,8,10,11,12,23]) (.cond (.t 23) (.seq (.reg [ zA 24 (.build zN []),qS 5 4 24,qB 5 false] [4,5]) .ret) .skip)) (.reg [ qA 25 4 2,qF 26 1 25,zM 27 8,qD 28 5 26 27,qT 29 5 28,qS 5 2 29] [2,4,10,11,12]))))) (.reg [ zA 30 (.bin .add (.t 12) (kI 1)),zM 12 30] [2,4,10,11,12]))))))) (.seq (.reg [ qT 31 5 2,qS 5 4 31,qB 5 true] [4,5]) .ret)))
theorem K.fJ:dU pZ 190 2 0 C.fJ [.cell 4 true 5,.tmp 5]=true:=by kernel_rfl
def C.kS:aP:=(.seq (.reg [ qX 2 10 0,qZ 4 11,qB 5 false] [1,2,4]) (.seq (.seq (.reg [ qT 8 5 2,q1 9 30 8,qO 10 9,zM 11 10,zG 11 false 12 (.mv (.t 1)),⟨(some (11,false)),some 13,.call 125 [.t 12]⟩,zG 11 false 14 (.not (.t 13)),qQ 15 11 14] [1,2,4,15]) (.cond (.t 15) (.seq (.reg [ zA 16 (.build zN []),qS 5 4 16,qB 5 false] [4,5]) .ret) .skip)) (.seq (.reg [ qT 18 5 2,zM 19 1,q2 20 190 18 19,zM 17 20,qE 21 17 0,qE 22 17 1,qZ 6 12,qS 5 6 21,zM 7 22] [4,6,7]) (.seq (.seq (.reg [ zM 23 7,qO 24 23] [4,6,24]) (.cond (.t 24) (.seq (.reg [ zA 25 (.build zN []),qS 5 4 25,qB 5 false] [4,5]) .ret) .skip)) (.seq (.reg [ qT 26 5 6,q1 27 33 26,qS 5 4 27,qB 5 true] [4,5]) .ret)))))
theorem K.kS:dU pZ 170 2 0 C.kS [.cell 4 true 5,.tmp 5]=true:=by kernel_rfl
def C.bW:aP:=(.seq (.reg [ zA 6 (.mv (.k (.fU 5)))] [0,1,2]) (.seq (.reg [ zM 8 0,zM 9 1,zM 10 2,zM 11 0,qL 12 11,zA 13 (.sl3 5 (.t 8) (.t 9) (.t 10) (.t 12))] [0,1,2]) (.seq (.seq (.reg [ zM 14 1,zM 15 2,zA 16 (.bin .eql (.t 14) (.t 15))] [0,1,2,16]) (.cond (.t 16) (.seq (.reg [ zM 17 0,zM 6 17] [6]) .ret) .skip)) (.seq (.reg [ zM 18 0,qL 19 18,zM 7 19] [0,1,2,7]) (.seq (.kC [ (zM 20 0,[]),(zM 21 1,[]),(zA 22 (.jB 5 (.t 20) none (some (.t 21))),[0,1]),(zM 23 0,[]),(zM 24 2,[]),(zA 25 (.jB 5 (.t 23) (some (.t 24)) none),[3,4]),(zA 26 (.D5 10 5 80 (.t 22) (.t 25)),[0,1,2,3,4,5]),(zM 0 26,[0,1,2,3,4,5,6])] [0,7]) (.seq (.reg [ zM 27 0,zM 28 0,qL 29 28,zM 30 7,zA 31 (.jB 5 (.t 27) (some (.t 29)) (some (.t 30))),zS (.Jc 5 [.lit (.int .i64 0),.lit (.int .i64 0),.str [],.sl 1 [],.sl 5 []] (.t 31))] [0]) (.seq (.reg [ zM 32 0,zM 6 32] [6]) .ret)))))))
theorem K.bW:dU pZ 173 3 1 C.bW [.tmp 6]=true:=by kernel_rfl
def C.slices_Delete_string:aP:=(.seq (.reg [ zA 6 (.mv (.k (.fU 1)))] [0,1,2]) (.seq (.reg [ zM 8 0,zM 9 1,zM 10 2,zM 11 0,qL 12 11,zA 13 (.sl3 1 (.t 8) (.t 9) (.t 10) (.t 12))] [0,1,2]) (.seq (.seq (.reg [ zM 14 1,zM 15 2,zA 16 (.bin .eql (.t 14) (.t 15))] [0,1,2,16]) (.cond (.t 16) (.seq (.reg [ zM 17 0,zM 6 17] [6]) .ret) .skip)) (.seq (.reg [ zM 18 0,qL 19 18,zM 7 19] [0,1,2,7]) (.seq (.kC [ (zM 20 0,[]),(zM 21 1,[]),(zA 22 (.jB 1 (.t 20) none (some (.t 21))),[0,1]),(zM 23 0,[]),(zM 24 2,[]),(zA 25 (.jB 1 (.t 23) (some (.t 24)) none),[3,4]),(zA 26 (.D5 10 1 16 (.t 22) (.t 25)),[0,1,2,3,4,5]),(zM 0 26,[0,1,2,3,4,5,6])] [0,7]) (.seq (.reg [ zM 27 0,zM 28 0,qL 29 28,zM 30 7,zA 31 (.jB 1 (.t 27) (some (.t 29)) (some (.t 30))),zS (.Jc 1 [.str []] (.t 31))] [0]) (.seq (.reg [ zM 32 0,zM 6 32] [6]) .ret)))))))
theorem K.slices_Delete_string:dU pZ 172 3 1 C.slices_Delete_string [.tmp 6]=true:=by kernel_rfl
def C.dK:aP:=(.seq (.reg [ qX 3 10 0,qZ 4 11,qB 5 false] [1,2,3,4]) (.seq (.kC [ (qT 10 5 3,[]),(qF 11 1 1,[]),(qF 12 1 2,[]),(qD 13 1 11 12,[1,2]),(qF 14 1 13,[1,2,3]),(q2 15 187 10 14,[0,1,2,3,4]),(zM 9 15,[0,1,2,3,4,5]),(qE 16 9 0,[0,1,2,3,4,5,6]),(qE 17 9 1,[0,1,2,3,4,5,6]),(zM 6 16,[0,1,2,3,4,5,6,7]),(zM 7 17,[0,1,2,3,4,5,6,7,8,9])] [3,4,6,7]) (.seq (.seq (.reg [ zM 18 7,qO 19 18] [3,4,6,19]) (.cond (.t 19) (.seq (.reg [ zA 20 (.build zN []),qS 5 4 20,qB 5 false] [4,5]) .ret) .skip)) (.seq (.reg [ qT 21 5 3,q1 22 33 21,qZ 8 12,qS 5 8 22] [3,4,6,8]) (.cut (.seq (.reg [ qA 23 0 3,qF 24 1 23,zA 25 (.bin .eql (.t 24) (kI 4))] [4,6,8,25]) (.cond (.t 25) (.reg [ qA 26 3 8,qF 27 1 26,zM 28 6,zM 29 6,zA 30 (.bin .add (.t 29) (kI 1)),q3 31 172 27 28 30,qA 32 3 8,qU 1 32 31] [4,6,8]) .skip)) (.seq (.reg [ qA 33 4 8,qF 34 1 33,zM 35 6,zM 36 6,zA 37 (.bin .add (.t 36) (kI 1)),q3 38 173 34 35 37,qA 39 4 8,qU 1 39 38] [4,8]) (.seq (.reg [ qT 40 5 8,qS 5 4 40,qB 5 true] [4,5]) .ret)))))))
theorem K.dK:dU pZ 186 3 2 C.dK [.cell 4 true 5,.tmp 5]=true:=by kernel_rfl
theorem K.dn:dU pZ 183 3 2 C.pU [.cell 6 true 5,.tmp 7]=true:=by kernel_rfl
def C.iw:aP:=(.seq (.reg [ qX 2 10 0,qX 3 11 1,qZ 4 12,qB 5 false] [2,3,4]) (.seq (.seq (.reg [ qT 7 5 2,q1 8 30 7,qO 9 8,zM 10 9,zG 10 false 11 (.load false 1 (.t 3)),⟨(some (10,false)),some 12,.call 125 [.t 11]⟩,zG 10 false 13 (.not (.t 12)),qQ 14 10 13,zM 15 14,zG 15 false 16 (.load false 1 (.t 3)),zG 15 false 17 (.len (.t 16)),zG 15 false 18 (.bin .eql (.t 17) (kI 0)),qQ 19 15 18] [2,3,4,19]) (.cond (.t 19) (.seq (.reg [ zA 20 (.build zN []),qS 5 4 20,qB 5 false] [4,5]) .ret) .skip)) (.seq (.reg [ qF 21 1 3,qL 22 21,zA 23 (.bin .sub (.t 22) (kI 1)),zA 6 (.alloc 13 [je 0]),qU 1 6 23] [2,3,4,6]) (.seq (.kC [ (qT 24 5 2,[]),(qF 25 1 3,[]),(qF 26 1 6,[]),(zA 27 (.tJ 1 (.t 25) none (some (.t 26))),[1,2]),(zA 28 (.IV 186 [.t 3,.t 6]),[]),(q3 29 183 24 27 28,[0,1,2,3,4]),(qE 30 29 0,[0,1,2,3,4,5]),(qE 31 29 1,[0,1,2,3,4,5]),(qS 5 4 30,[0,1,2,3,4,5,6,7]),(zM 5 31,[0,1,2,3,4,5,6,7,8])] [4,5]) .ret))))
theorem K.iw:dU pZ 167 2 0 C.iw [.cell 4 true 5,.tmp 5]=true:=by kernel_rfl
def C.kX:aP:=(.seq (.reg [ qX 2 10 0,qZ 3 11,qB 4 false] [1,3]) (.seq (.reg [ qT 5 5 1,q1 6 33 5,qS 5 3 6,qB 4 true] [3,4]) .ret))
theorem K.kX:dU pZ 188 2 1 C.kX [.cell 3 true 5,.tmp 4]=true:=by kernel_rfl
theorem K.dR:dU pZ 183 3 1 C.pU [.cell 6 true 5,.tmp 7]=true:=by kernel_rfl
def C.lF:aP:=(.seq (.reg [ qX 3 10 0,qX 5 11 2,qZ 6 12,qB 7 false] [1,3,5,6]) (.seq (.seq (.reg [ qT 8 5 3,q1 9 30 8,qO 10 9,zM 11 10,zG 11 false 12 (.mv (.t 1)),⟨(some (11,false)),some 13,.call 125 [.t 12]⟩,zG 11 false 14 (.not (.t 13)),qQ 15 11 14,zM 16 15,zG 16 false 17 (.load true 5 (.t 5)),⟨(some (16,false)),some 18,.call 30 [.t 17]⟩,zG 16 false 19 (.not (.t 18)),qQ 20 16 19] [1,3,5,6,20]) (.cond (.t 20) (.seq (.reg [ zA 21 (.build zN []),qS 5 6 21,qB 7 false] [6,7]) .ret) .skip)) (.seq (.reg [ qT 22 5 3,zM 23 1,zA 24 (.IV 188 [.t 5]),q3 25 183 22 23 24,qE 26 25 0,qE 27 25 1,q2 28 140 26 27,qE 29 28 0,qE 30 28 1,qS 5 6 29,zM 7 30] [6,7]) .ret)))
theorem K.lF:dU pZ 168 3 0 C.lF [.cell 6 true 5,.tmp 7]=true:=by kernel_rfl
def C.mJ:aP:=(.seq (.reg [ qX 1 10 0,qB 2 false] [1]) (.seq (.reg [ qA 3 0 1,qF 4 1 3,zA 5 (.bin .geq (.t 4) (kI 1)),zM 6 5,zG 6 true 7 (.fZ 0 (.t 1)),zG 6 true 8 (.load false 1 (.t 7)),zG 6 true 9 (.bin .leq (.t 8) (kI 6)),qP 10 6 9,zM 11 10,zG 11 true 12 (.fZ 1 (.t 1)),zG 11 true 13 (.load false 1 (.t 12)),⟨(some (11,true)),some 14,.call 125 [.t 13]⟩,qP 15 11 14,zM 16 15,zG 16 true 17 (.fZ 2 (.t 1)),zG 16 true 18 (.load false 1 (.t 17)),⟨(some (16,true)),some 19,.call 125 [.t 18]⟩,qP 20 16 19,zM 21 20,zG 21 true 22 (.fZ 3 (.t 1)),zG 21 true 23 (.load true 5 (.t 22)),⟨(some (21,true)),some 24,.call 30 [.t 23]⟩,qP 25 21 24,zM 2 25] [2]) .ret))
theorem K.mJ:dU pZ 90 1 0 C.mJ [.tmp 2]=true:=by kernel_rfl
def C.slices_Equal_string:aP:=(.seq (.reg [ qB 4 false] [0,1]) (.seq (.seq (.reg [ zM 6 0,qL 7 6,zM 8 1,qL 9 8,zA 10 (.bin .neq (.t 7) (.t 9))] [0,1,10]) (.cond (.t 10) (.seq (.reg [ qB 4 false] [4]) .ret) .skip)) (.seq (.seq (.reg [ zM 11 0,qL 12 11,qI 13 0] [0,1,12,13]) (.block 0 (.loop (.seq (.reg [ zA 14 (.bin .lss (.t 13) (.t 12))] [0,1,12,13,14]) (.seq (.cond (.t 14) .skip (.exit 0)) (.seq (.block 1 (.seq (.reg [ zM 15 13,zM 5 15] [0,1,5,12,13]) (.seq (.kC [ (zM 16 0,[]),(zM 17 5,[]),(qD 18 1 16 17,[0,1]),(qF 19 1 18,[0,1,2]),(zM 20 1,[]),(zM 21 5,[]),(qD 22 1 20 21,[4,5]),(qF 23 1 22,[4,5,6]),(zA 24 (.bin .neq (.t 19) (.t 23)),[0,1,2,3,4,5,6,7])] [0,1,12,13,24]) (.cond (.t 24) (.seq (.reg [ qB 4 false] [4]) .ret) .skip)))) (.reg [ zA 25 (.bin .add (.t 13) (kI 1)),zM 13 25] [0,1,12,13]))))))) (.seq (.reg [ qB 4 true] [4]) .ret))))
theorem K.slices_Equal_string:dU pZ 189 2 0 C.slices_Equal_string [.tmp 4]=true:=by kernel_rfl
def C.kQ:aP:=(.seq (.reg [ qX 3 10 0,qZ 6 11,qB 7 false] [1,2,3,6]) (.seq (.reg [ qT 12 5 3,zM 13 1,q2 14 170 12 13,zM 11 14,qE 15 11 0,qE 16 11 1,qZ 8 12,qS 5 8 15,zM 9 16] [1,2,3,6,8,9]) (.seq (.seq (.reg [ zM 17 9,qO 18 17] [1,2,3,6,8,18]) (.cond (.t 18) (.seq (.reg [ zA 19 (.build zN []),qS 5 6 19,qB 7 false] [6,7]) .ret) .skip)) (.seq (.seq (.reg [ zM 20 2,zM 21 1,q2 22 189 20 21] [1,2,3,6,8,22]) (.cond (.t 22) (.seq (.reg [ qT 23 5 3,q1 24 33 23,qS 5 6 24,qB 7 true] [6,7]) .ret) .skip)) (.seq (.seq (.reg [ zM 25 2,qL 26 25,zM 27 1,qL 28 27,zA 29 (.bin .gtr (.t 26) (.t 28)),zM 30 29,zG 30 true 31 (.mv (.t 2)),zG 30 true 32 (.mv (.t 1)),zG 30 true 33 (.len (.t 32)),zG 30 true 34 (.tJ 1 (.t 31) none (some (.t 33))),zG 30 true 35 (.mv (.t 1)),⟨(some (30,true)),some 36,.call 189 [.t 34,.t 35]⟩,qP 37 30 36] [1,2,3,6,8,37]) (.cond (.t 37) (.seq (.reg [ zA 38 (.build zN []),qS 5 6 38,qB 7 false] [6,7]) .ret) .skip)) (.seq (.reg [ qT 40 5 3,zM 41 1,q2 42 167 40 41,zM 39 42,qE 43 39 0,qE 44 39 1,qZ 10 13,qS 5 10 43,zM 9 44] [2,6,8,9,10]) (.seq (.seq (.reg [ zM 45 9,qO 46 45] [2,6,8,10,46]) (.cond (.t 46) (.seq (.reg [ zA 47 (.build zN []),qS 5 6 47,qB 7 false] [6,7]) .ret) .skip)) (.seq (.reg [ qT 48 5 10,zM 49 2,qT 50 5 8,q3 51 166 48 49 50,qE 52 51 0,qE 53 51 1,qS 5 6 52,zM 7 53] [6,7]) .ret))))))))
theorem K.kQ:dU pZ 169 3 0 C.kQ [.cell 6 true 5,.tmp 7]=true:=by kernel_rfl
def C.bV:aP:=(.seq (.reg [ qI 4 0] [0,1]) (.seq (.reg [ zM 5 0,zM 6 1,zA 7 (.OU (.t 5) (.t 6)),zM 4 7] [4]) .ret))
theorem K.bV:dU pZ 113 2 0 C.bV [.tmp 4]=true:=by kernel_rfl
def C.strings_Compare:aP:=(.seq (.reg [ qI 4 0] [0,1]) (.seq (.reg [ zM 5 0,zM 6 1,q2 7 113 5 6,zM 4 7] [4]) .ret))
theorem K.strings_Compare:dU pZ 78 2 0 C.strings_Compare [.tmp 4]=true:=by kernel_rfl
def C.aN:aP:=(.seq (.reg [ qX 2 10 0,qX 3 11 1,qI 4 0] [2,3]) (.seq (.seq (.reg [ qA 11 0 2,qF 12 1 11,qA 13 0 3,qF 14 1 13,q2 15 210 12 14,zM 5 15] [2,3,5]) (.seq (.reg [ zM 16 5,zA 17 (.bin .neq (.t 16) (kI 0))] [2,3,5,17]) (.cond (.t 17) (.seq (.reg [ zM 18 5,zM 4 18] [4]) .ret) .skip))) (.seq (.seq (.reg [ qA 19 1 2,qF 20 1 19,qA 21 1 3,qF 22 1 21,q2 23 210 20 22,zM 6 23] [2,3,6]) (.seq (.reg [ zM 24 6,zA 25 (.bin .neq (.t 24) (kI 0))] [2,3,6,25]) (.cond (.t 25) (.seq (.reg [ zM 26 6,zM 4 26] [4]) .ret) .skip))) (.seq (.seq (.reg [ qA 27 2 2,qF 28 1 27,qA 29 2 3,qF 30 1 29,q2 31 78 28 30,zM 7 31] [2,3,7]) (.seq (.reg [ zM 32 7,zA 33 (.bin .neq (.t 32) (kI 0))] [2,3,7,33]) (.cond (.t 33) (.seq (.reg [ zM 34 7,zM 4 34] [4]) .ret) .skip))) (.seq (.seq (.reg [ qI 8 0] [2,3,8]) (.block 0 (.loop (.seq (.seq (.reg [ zM 35 8,qA 36 4 2,qF 37 1 36,qL 38 37,zA 39 (.bin .lss (.t 35) (.t 38)),zM 40 39,zG 40 true 41 (.mv (.t 8)),zG 40 true 42 (.fZ 4 (.t 3)),zG 40 true 43 (.load false 1 (.t 42)),zG 40 true 44 (.len (.t 43)),zG 40 true 45 (.bin .lss (.t 41) (.t 44)),qP 46 40 45] [2,3,8,46]) (.cond (.t 46) .skip (.exit 0))) (.seq (.block 1 (.cut (.seq (.reg [ qA 49 0 2,qF 50 1 49,zA 51 (.bin .eql (.t 50) (kI 4))] [2,3,8,51]) (.cond (.t 51) (.seq (.kC [ (qA 52 3 2,[]),(qF 53 1 52,[0]),(zM 54 8,[]),(qD 55 1 53 54,[0,1,2]),(qF 56 1 55,[0,1,2,3]),(qA 57 3 3,[]),(qF 58 1 57,[5]),(zM 59 8,[]),(qD 60 1 58 59,[5,6,7]),(qF 61 1 60,[5,6,7,8]),(q2 62 78 56 61,[0,1,2,3,4,5,6,7,8,9]),(zM 9 62,[0,1,2,3,4,5,6,7,8,9,10])] [2,3,8,9]) (.seq (.reg [ zM 63 9,zA 64 (.bin .neq (.t 63) (kI 0))] [2,3,8,9,64]) (.cond (.t 64) (.seq (.reg [ zM 65 9,zM 4 65] [4]) .ret) .skip))) .skip)) (.seq (.kC [ (qA 66 4 2,[]),(qF 67 1 66,[0]),(zM 68 8,[]),(qD 69 5 67 68,[0,1,2]),(qT 70 5 69,[0,1,2,3]),(qA 71 4 3,[]),(qF 72 1 71,[5]),(zM 73 8,[]),(qD 74 5 72 73,[5,6,7]),(qT 75 5 74,[5,6,7,8]),(q2 76 204 70 75,[0,1,2,3,4,5,6,7,8,9]),(zM 10 76,[0,1,2,3,4,5,6,7,8,9,10])] [2,3,8,10]) (.seq (.reg [ zM 77 10,zA 78 (.bin .neq (.t 77) (kI 0))] [2,3,8,10,78]) (.cond (.t 78) (.seq (.reg [ zM 79 10,zM 4 79] [4]) .ret) .skip))))) (.reg [ zM 47 8,zA 48 (.bin .add (.t 47) (kI 1)),zM 8 48] [2,3,8])))))) (.seq (.reg [ qA 80 4 2,qF 81 1 80,qL 82 81,qA 83 4 3,qF 84 1 83,qL 85 84,q2 86 210 82 85,zM 4 86] [4]) .ret))))))
theorem K.aN:dU pZ 204 2 0 C.aN [.tmp 4]=true:=by kernel_rfl
def C.kR:aP:=(.seq (.reg [ qX 2 10 0,qX 3 11 1,qB 4 false] [2,3]) (.seq (.reg [ qT 5 5 2,qT 6 5 3,q2 7 204 5 6,zA 8 (.bin .eql (.t 7) (kI 0)),zM 4 8] [4]) .ret))
theorem K.kR:dU pZ 191 2 0 C.kR [.tmp 4]=true:=by kernel_rfl
def C.jW:aP:=(.seq (.reg [ qX 3 10 0,qX 5 11 2,qZ 6 12,qB 7 false] [1,3,5,6]) (.seq (.reg [ qT 11 5 3,zM 12 1,q2 13 190 11 12,zM 10 13,qE 14 10 0,qE 15 10 1,qZ 8 13,qS 5 8 14,zM 9 15] [3,5,6,8,9]) (.seq (.seq (.reg [ zM 16 9,qO 17 16,zM 18 17,zG 18 false 19 (.load true 5 (.t 8)),zG 18 false 20 (.load true 5 (.t 5)),⟨(some (18,false)),some 21,.call 191 [.t 19,.t 20]⟩,zG 18 false 22 (.not (.t 21)),qQ 23 18 22] [3,6,23]) (.cond (.t 23) (.seq (.reg [ zA 24 (.build zN []),qS 5 6 24,qB 7 false] [6,7]) .ret) .skip)) (.seq (.reg [ qT 25 5 3,q1 26 33 25,qS 5 6 26,qB 7 true] [6,7]) .ret))))
theorem K.jW:dU pZ 171 3 0 C.jW [.cell 6 true 5,.tmp 7]=true:=by kernel_rfl
def C.lu:aP:=(.seq (.reg [ qX 2 10 0,qX 3 11 1,qZ 4 12,qB 5 false] [2,3,4]) (.seq (.seq (.reg [ qT 8 5 2,q1 9 30 8,qO 10 9,zM 11 10,zG 11 false 12 (.load true 8 (.t 3)),⟨(some (11,false)),some 13,.call 90 [.t 12]⟩,zG 11 false 14 (.not (.t 13)),qQ 15 11 14] [2,3,4,15]) (.cond (.t 15) (.seq (.reg [ zA 16 (.build zN []),qS 5 4 16,qB 5 false] [4,5]) .ret) .skip)) (.seq (.seq (.reg [ qA 17 0 3,qF 18 1 17] [2,3,4,18]) (.block 0 (.seq (.reg [ zA 20 (.bin .eql (.t 18) (kI 1)),zM 19 20] [2,3,4,18,19]) (.cond (.t 19) (.seq (.reg [ qT 21 5 2,qA 22 1 3,qF 23 1 22,qA 24 3 3,qT 25 5 24,q3 26 166 21 23 25,qE 27 26 0,qE 28 26 1,qS 5 4 27,zM 5 28] [4,5]) .ret) (.seq (.reg [ zA 30 (.bin .eql (.t 18) (kI 2)),zM 29 30] [2,3,4,18,29]) (.cond (.t 29) (.seq (.reg [ qT 31 5 2,qA 32 1 3,qF 33 1 32,q2 34 167 31 33,qE 35 34 0,qE 36 34 1,qS 5 4 35,zM 5 36] [4,5]) .ret) (.seq (.reg [ zA 38 (.bin .eql (.t 18) (kI 3)),zM 37 38] [2,3,4,18,37]) (.cond (.t 37) (.seq (.reg [ qT 39 5 2,qA 40 1 3,qF 41 1 40,qA 42 3 3,qT 43 5 42,q3 44 168 39 41 43,qE 45 44 0,qE 46 44 1,qS 5 4 45,zM 5 46] [4,5]) .ret) (.seq (.reg [ zA 48 (.bin .eql (.t 18) (kI 4)),zM 47 48] [2,3,4,18,47]) (.cond (.t 47) (.seq (.reg [ qT 49 5 2,qA 50 2 3,qF 51 1 50,qA 52 1 3,qF 53 1 52,q3 54 169 49 51 53,qE 55 54 0,qE 56 54 1,qS 5 4 55,zM 5 56] [4,5]) .ret) (.seq (.reg [ zA 58 (.bin .eql (.t 18) (kI 5)),zM 57 58] [2,3,4,57]) (.cond (.t 57) (.seq (.reg [ qT 60 5 2,qA 61 2 3,qF 62 1 61,q2 63 170 60 62,zM 59 63,qE 64 59 0,qE 65 59 1,qZ 6 13,qS 5 6 64,zM 7 65] [2,3,4,6,7]) (.seq (.seq (.reg [ zM 66 7,qO 67 66] [2,3,4,6,67]) (.cond (.t 67) (.seq (.reg [ zA 68 (.build zN []),qS 5 4 68,qB 5 false] [4,5]) .ret) .skip)) (.seq (.reg [ qT 69 5 2,qA 70 1 3,qF 71 1 70,qT 72 5 6,q3 73 166 69 71 72,qE 74 73 0,qE 75 73 1,qS 5 4 74,zM 5 75] [4,5]) .ret))) .skip)))))))))))) (.seq (.reg [ qT 76 5 2,qA 77 1 3,qF 78 1 77,qA 79 3 3,qT 80 5 79,q3 81 171 76 78 80,qE 82 81 0,qE 83 81 1,qS 5 4 82,zM 5 83] [4,5]) .ret))))
theorem K.lu:dU pZ 157 2 0 C.lu [.cell 4 true 5,.tmp 5]=true:=by kernel_rfl
def C.di:aP:=(.seq (.reg [ qB 2 false] [0]) (.seq (.seq (.reg [ zM 5 0,qL 6 5,zA 7 (.bin .gtr (.t 6) (kI 12))] [0,7]) (.cond (.t 7) (.seq (.reg [ qB 2 false] [2]) .ret) .skip)) (.seq (.seq (.reg [ zM 8 0,qL 9 8,qI 10 0] [8,9,10]) (.block 0 (.loop (.seq (.reg [ zA 11 (.bin .lss (.t 10) (.t 9))] [8,9,10,11]) (.seq (.cond (.t 11) .skip (.exit 0)) (.seq (.block 1 (.seq (.reg [ qD 12 8 8 10,qT 13 8 12,zA 4 (.alloc 10 [je 0,.fU 1,.fU 1,je 0,je 0,.c (.str []),.fU 1,.fU 5]),qS 8 4 13] [4,8,9,10]) (.seq (.reg [ qT 14 8 4,q1 15 90 14,qO 16 15] [8,9,10,16]) (.cond (.t 16) (.seq (.reg [ qB 2 false] [2]) .ret) .skip)))) (.reg [ zA 17 (.bin .add (.t 10) (kI 1)),zM 10 17] [8,9,10]))))))) (.seq (.reg [ qB 2 true] [2]) .ret))))
theorem K.di:dU pZ 53 1 0 C.di [.tmp 2]=true:=by kernel_rfl
def C.gG:aP:=(.seq (.reg [ qX 2 10 0,qZ 4 11,qI 5 0] [1,2,4]) (.seq (.reg [ qT 11 5 2,q1 12 33 11,qZ 6 12,qS 5 6 12] [1,4,6]) (.seq (.seq (.reg [ zM 13 1,qL 14 13,qI 15 0] [1,4,6,13,14,15]) (.block 0 (.loop (.seq (.reg [ zA 16 (.bin .lss (.t 15) (.t 14))] [1,4,6,13,14,15,16]) (.seq (.cond (.t 16) .skip (.exit 0)) (.seq (.block 1 (.seq (.reg [ zM 17 15,qD 18 8 13 15,qT 19 8 18,zA 8 (.alloc 13 [je 0,.fU 1,.fU 1,je 0,je 0,.c (.str []),.fU 1,.fU 5]),zM 7 17,qS 8 8 19] [1,4,6,7,8,13,14,15]) (.seq (.reg [ qT 21 5 6,qT 22 8 8,q2 23 157 21 22,zM 20 23,qE 24 20 0,qE 25 20 1,qZ 9 14,qS 5 9 24,zM 10 25] [1,4,6,7,9,10,13,14,15]) (.seq (.seq (.reg [ zM 26 10,qO 27 26] [1,4,6,7,9,13,14,15,27]) (.cond (.t 27) (.seq (.reg [ zA 28 (.build zN []),zM 29 7,qS 5 4 28,zM 5 29] [4,5]) .ret) .skip)) (.reg [ qT 30 5 9,qS 5 6 30] [1,4,6,13,14,15]))))) (.reg [ zA 31 (.bin .add (.t 15) (kI 1)),zM 15 31] [1,4,6,13,14,15]))))))) (.seq (.reg [ qT 32 5 6,zM 33 1,qL 34 33,qS 5 4 32,zM 5 34] [4,5]) .ret))))
theorem K.gG:dU pZ 139 2 0 C.gG [.cell 4 true 5,.tmp 5]=true:=by kernel_rfl
def C.jM:aP:=(.seq (.reg [ qX 2 10 0,qZ 4 11,qB 5 false] [1,2,4]) (.seq (.seq (.reg [ qT 8 5 2,q1 9 30 8,qO 10 9,zM 11 10,zG 11 false 12 (.mv (.t 1)),⟨(some (11,false)),some 13,.call 53 [.t 12]⟩,zG 11 false 14 (.not (.t 13)),qQ 15 11 14] [1,2,4,15]) (.cond (.t 15) (.seq (.reg [ zA 16 (.build zN []),qS 5 4 16,qB 5 false] [4,5]) .ret) .skip)) (.seq (.reg [ qT 18 5 2,zM 19 1,q2 20 139 18 19,zM 17 20,qE 21 17 0,qE 22 17 1,qZ 6 12,qS 5 6 21,zM 7 22] [1,4,6,7]) (.seq (.reg [ qT 23 5 6,zM 24 7,zM 25 1,qL 26 25,zA 27 (.bin .eql (.t 24) (.t 26)),qS 5 4 23,zM 5 27] [4,5]) .ret))))
theorem K.jM:dU pZ 103 2 0 C.jM [.cell 4 true 5,.tmp 5]=true:=by kernel_rfl
def C.eH:aP:=(.seq (.reg [ qI 4 0] [0,1]) (.seq (.reg [ zM 5 0,zM 6 1,zA 7 (.Pe (.t 5) (.t 6)),zM 4 7] [4]) .ret))
theorem K.eH:dU pZ 137 2 0 C.eH [.tmp 4]=true:=by kernel_rfl
def C.strings_IndexByte:aP:=(.seq (.reg [ qI 4 0] [0,1]) (.seq (.reg [ zM 5 0,zM 6 1,q2 7 137 5 6,zM 4 7] [4]) .ret))
theorem K.strings_IndexByte:dU pZ 100 2 0 C.strings_IndexByte [.tmp 4]=true:=by kernel_rfl
def C.jk:aP:=(.seq (.reg [ qB 2 false] [0]) (.seq (.seq (.reg [ zM 4 0,zA 5 (.lens (.t 4)),zA 6 (.bin .neq (.t 5) (kI 4))] [0,6]) (.cond (.t 6) (.seq (.reg [ qB 2 false] [2]) .ret) .skip)) (.seq (.seq (.reg [ qI 3 0] [0,3]) (.block 0 (.loop (.seq (.seq (.reg [ zM 7 3,zM 8 0,zA 9 (.lens (.t 8)),zA 10 (.bin .lss (.t 7) (.t 9))] [0,3,10]) (.cond (.t 10) .skip (.exit 0))) (.seq (.block 1 (.seq (.reg [ zM 13 0,zM 14 3,zA 15 (.idxs (.t 13) (.t 14)),⟨none,some 16,.call 100 [.k (.c (.str [48,49,50,51,52,53,54,55,56,57,97,98,99,100,101,102])),.t 15]⟩,zA 17 (.bin .lss (.t 16) (kI 0))] [0,3,17]) (.cond (.t 17) (.seq (.reg [ qB 2 false] [2]) .ret) .skip))) (.reg [ zM 11 3,zA 12 (.bin .add (.t 11) (kI 1)),zM 3 12] [0,3])))))) (.seq (.reg [ qB 2 true] [2]) .ret))))
theorem K.jk:dU pZ 63 1 0 C.jk [.tmp 2]=true:=by kernel_rfl
def C.fG:aP:=(.seq (.reg [ qB 2 false] [0]) (.seq (.seq (.reg [ zM 5 0,qL 6 5,zA 7 (.bin .gtr (.t 6) (kI 4))] [0,7]) (.cond (.t 7) (.seq (.reg [ qB 2 false] [2]) .ret) .skip)) (.seq (.seq (.reg [ zM 8 0,qL 9 8,qI 10 0] [8,9,10]) (.block 0 (.loop (.seq (.reg [ zA 11 (.bin .lss (.t 10) (.t 9))] [8,9,10,11]) (.seq (.cond (.t 11) .skip (.exit 0)) (.seq (.block 1 (.seq (.reg [ qD 12 1 8 10,qF 13 1 12,zM 4 13] [4,8,9,10]) (.seq (.reg [ zM 14 4,zA 15 (.bin .neq (.t 14) (.k (.c (.str [42])))),zM 16 15,zG 16 true 17 (.mv (.t 4)),⟨(some (16,true)),some 18,.call 63 [.t 17]⟩,zG 16 true 19 (.not (.t 18)),qP 20 16 19] [8,9,10,20]) (.cond (.t 20) (.seq (.reg [ qB 2 false] [2]) .ret) .skip)))) (.reg [ zA 21 (.bin .add (.t 10) (kI 1)),zM 10 21] [8,9,10]))))))) (.seq (.reg [ qB 2 true] [2]) .ret))))
theorem K.fG:dU pZ 52 1 0 C.fG [.tmp 2]=true:=by kernel_rfl
def C.slices_Index_string:aP:=(.seq (.reg [ qI 4 0] [0,1]) (.seq (.seq (.reg [ zM 6 0,qL 7 6,qI 8 0] [0,1,7,8]) (.block 0 (.loop (.seq (.reg [ zA 9 (.bin .lss (.t 8) (.t 7))] [0,1,7,8,9]) (.seq (.cond (.t 9) .skip (.exit 0)) (.seq (.block 1 (.seq (.reg [ zM 10 8,zM 5 10] [0,1,5,7,8]) (.seq (.reg [ zM 11 1,zM 12 0,zM 13 5,qD 14 1 12 13,qF 15 1 14,zA 16 (.bin .eql (.t 11) (.t 15))] [0,1,5,7,8,16]) (.cond (.t 16) (.seq (.reg [ zM 17 5,zM 4 17] [4]) .ret) .skip)))) (.reg [ zA 18 (.bin .add (.t 8) (kI 1)),zM 8 18] [0,1,7,8]))))))) (.seq (.reg [ qI 4 (-1)] [4]) .ret)))
theorem K.slices_Index_string:dU pZ 138 2 0 C.slices_Index_string [.tmp 4]=true:=by kernel_rfl
def C.slices_Contains_string:aP:=(.seq (.reg [ qB 4 false] [0,1]) (.seq (.reg [ zM 5 0,zM 6 1,q2 7 138 5 6,zA 8 (.bin .geq (.t 7) (kI 0)),zM 4 8] [4]) .ret))
theorem K.slices_Contains_string:dU pZ 101 2 0 C.slices_Contains_string [.tmp 4]=true:=by kernel_rfl
def C.jI:aP:=(.seq (.reg [ qB 4 false] [0,1]) (.seq (.reg [ zM 5 0,zM 6 1,q2 7 101 5 6,zM 8 7,zG 8 false 9 (.mv (.t 0)),⟨(some (8,false)),some 10,.call 101 [.t 9,.k (.c (.str [42]))]⟩,qQ 11 8 10,zM 4 11] [4]) .ret))
theorem K.jI:dU pZ 64 2 0 C.jI [.tmp 4]=true:=by kernel_rfl
def C.gm:aP:=(.seq (.reg [ qI 8 0] [0,1,2,3]) (.cut (.seq (.reg [ zM 9 0,q1 10 52 9,qO 11 10,zM 12 11,zG 12 false 13 (.mv (.t 1)),⟨(some (12,false)),some 14,.call 52 [.t 13]⟩,zG 12 false 15 (.not (.t 14)),qQ 16 12 15,zM 17 16,zG 17 false 18 (.mv (.t 2)),zG 17 false 19 (.bin .neq (.t 18) (.k (.c (.str [])))),zG 17 false 20 (.mv (.t 19)),zG 20 true 21 (.mv (.t 2)),⟨(some (20,true)),some 22,.call 63 [.t 21]⟩,zG 20 true 23 (.not (.t 22)),zG 17 false 24 (.pick (.t 20) (.t 23) (kB false)),qQ 25 17 24] [0,1,2,3,25]) (.cond (.t 25) (.seq (.reg [ qI 8 400] [8]) .ret) .skip)) (.seq (.seq (.reg [ zM 26 0,qL 27 26,zA 28 (.bin .gtr (.t 27) (kI 0)),zM 29 28,zG 29 true 30 (.mv (.t 2)),zG 29 true 31 (.bin .eql (.t 30) (.k (.c (.str [])))),zG 29 true 32 (.mv (.t 31)),zG 32 false 33 (.mv (.t 0)),zG 32 false 34 (.mv (.t 2)),⟨(some (32,false)),some 35,.call 64 [.t 33,.t 34]⟩,zG 32 false 36 (.not (.t 35)),zG 29 true 37 (.pick (.t 32) (kB true) (.t 36)),qP 38 29 37] [1,2,3,38]) (.cond (.t 38) (.seq (.reg [ qI 8 412] [8]) .ret) .skip)) (.seq (.seq (.reg [ zM 39 1,qL 40 39,zA 41 (.bin .gtr (.t 40) (kI 0)),zM 42 41,zG 42 true 43 (.mv (.t 2)),zG 42 true 44 (.bin .neq (.t 43) (.k (.c (.str [])))),qP 45 42 44,zM 46 45,zG 46 true 47 (.mv (.t 1)),zG 46 true 48 (.mv (.t 2)),⟨(some (46,true)),some 49,.call 64 [.t 47,.t 48]⟩,qP 50 46 49] [3,50]) (.cond (.t 50) (.seq (.seq (.reg [ zM 51 3] [51]) (.cond (.t 51) (.seq (.reg [ qI 8 304] [8]) .ret) .skip)) (.seq (.reg [ qI 8 412] [8]) .ret)) .skip)) (.seq (.reg [ qI 8 200] [8]) .ret)))))
theorem K.gm:dU pZ 35 4 0 C.gm [.tmp 8]=true:=by kernel_rfl
def C.fK:aP:=(.seq (.reg [ qB 2 false] [0]) (.seq (.seq (.reg [ zM 4 0,zA 5 (.bin .eql (.t 4) (.k (.c (.str [])))),zM 6 5,zG 6 false 7 (.mv (.t 0)),zG 6 false 8 (.lens (.t 7)),zG 6 false 9 (.bin .gtr (.t 8) (kI 8)),qQ 10 6 9] [0,10]) (.cond (.t 10) (.seq (.reg [ qB 2 false] [2]) .ret) .skip)) (.seq (.seq (.reg [ qI 3 0] [0,3]) (.block 0 (.loop (.seq (.seq (.reg [ zM 11 3,zM 12 0,zA 13 (.lens (.t 12)),zA 14 (.bin .lss (.t 11) (.t 13))] [0,3,14]) (.cond (.t 14) .skip (.exit 0))) (.seq (.block 1 (.seq (.reg [ zM 17 0,zM 18 3,zA 19 (.idxs (.t 17) (.t 18)),zA 20 (.bin .lss (.t 19) (.k (.c (.lit (.int .u8 97))))),zM 21 20,zG 21 false 22 (.mv (.t 0)),zG 21 false 23 (.mv (.t 3)),zG 21 false 24 (.idxs (.t 22) (.t 23)),zG 21 false 25 (.bin .gtr (.t 24) (.k (.c (.lit (.int .u8 122))))),qQ 26 21 25,zM 27 26,zG 27 true 28 (.mv (.t 0)),zG 27 true 29 (.mv (.t 3)),zG 27 true 30 (.idxs (.t 28) (.t 29)),zG 27 true 31 (.bin .lss (.t 30) (.k (.c (.lit (.int .u8 48))))),zG 27 true 32 (.mv (.t 31)),zG 32 false 33 (.mv (.t 0)),zG 32 false 34 (.mv (.t 3)),zG 32 false 35 (.idxs (.t 33) (.t 34)),zG 32 false 36 (.bin .gtr (.t 35) (.k (.c (.lit (.int .u8 57))))),zG 27 true 37 (.pick (.t 32) (kB true) (.t 36)),qP 38 27 37] [0,3,38]) (.cond (.t 38) (.seq (.reg [ qB 2 false] [2]) .ret) .skip))) (.reg [ zM 15 3,zA 16 (.bin .add (.t 15) (kI 1)),zM 3 16] [0,3])))))) (.seq (.reg [ qB 2 true] [2]) .ret))))
theorem K.fK:dU pZ 29 1 0 C.fK [.tmp 2]=true:=by kernel_rfl
def C.aW:aP:=(.seq (.reg [ qX 1 10 0,qB 2 false] [1]) (.seq (.seq (.reg [ qA 5 0 1,qF 6 1 5,qL 7 6,zA 8 (.bin .gtr (.t 7) (kI 10)),zM 9 8,zG 9 false 10 (.fZ 1 (.t 1)),zG 9 false 11 (.load false 1 (.t 10)),zG 9 false 12 (.bin .lss (.t 11) (kI 0)),qQ 13 9 12,zM 14 13,zG 14 false 15 (.fZ 1 (.t 1)),zG 14 false 16 (.load false 1 (.t 15)),zG 14 false 17 (.bin .gtr (.t 16) (kI 999)),qQ 18 14 17] [1,18]) (.cond (.t 18) (.seq (.reg [ qB 2 false] [2]) .ret) .skip)) (.seq (.seq (.reg [ qA 19 0 1,qF 20 1 19,qL 21 20,qI 22 0] [1,20,21,22]) (.block 0 (.loop (.seq (.reg [ zA 23 (.bin .lss (.t 22) (.t 21))] [1,20,21,22,23]) (.seq (.cond (.t 23) .skip (.exit 0)) (.seq (.block 1 (.seq (.reg [ zM 24 22,qD 25 7 20 22,qT 26 7 25,zA 4 (.alloc 11 [.c (.str []),je 0,je 0,je 0,.c (.str []),.fU 1,.fU 5]),zM 3 24,qS 7 4 26] [1,3,4,20,21,22]) (.seq (.seq (.kC [ (qA 27 0 4,[]),(qF 28 1 27,[0]),(q1 29 29 28,[0,1]),(qO 30 29,[0,1,2]),(zM 31 30,[0,1,2,3]),(zG 31 false 32 (.mv (.t 3)),[0,1,2,3,4]),(zG 31 false 33 (.bin .gtr (.t 32) (kI 0)),[0,1,2,3,4,5]),(zG 31 false 34 (.mv (.t 33)),[0,1,2,3,4,5,6]),(zG 34 true 35 (.fZ 0 (.t 1)),[0,1,2,3,4,5,6,7]),(zG 34 true 36 (.load false 1 (.t 35)),[0,1,2,3,4,5,6,7,8]),(zG 34 true 37 (.mv (.t 3)),[0,1,2,3,4,5,6,7]),(zG 34 true 38 (.bin .sub (.t 37) (kI 1)),[0,1,2,3,4,5,6,7,10]),(zG 34 true 39 (.nZ 7 (.t 36) (.t 38)),[0,1,2,3,4,5,6,7,8,9,10,11]),(zG 34 true 40 (.fZ 0 (.t 39)),[0,1,2,3,4,5,6,7,8,9,10,11,12]),(zG 34 true 41 (.load false 1 (.t 40)),[0,1,2,3,4,5,6,7,8,9,10,11,12,13]),(zG 34 true 42 (.fZ 0 (.t 4)),[0,1,2,3,4,5,6,7]),(zG 34 true 43 (.load false 1 (.t 42)),[0,1,2,3,4,5,6,7,15]),(zG 34 true 44 (.bin .geq (.t 41) (.t 43)),[0,1,2,3,4,5,6,7,8,9,10,11,12,13,14,15,16]),(zG 31 false 45 (.pick (.t 34) (.t 44) (kB false)),[0,1,2,3,4,5,6,7,8,9,10,11,12,13,14,15,16,17]),(qQ 46 31 45,[0,1,2,3,4,5,6,7,8,9,10,11,12,13,14,15,16,17,18])] [1,4,20,21,22,46]) (.cond (.t 46) (.seq (.reg [ qB 2 false] [2]) .ret) .skip)) (.seq (.reg [ qA 47 1 4,qF 48 1 47,zA 49 (.bin .lss (.t 48) (kI 1)),zM 50 49,zG 50 false 51 (.fZ 1 (.t 4)),zG 50 false 52 (.load false 1 (.t 51)),zG 50 false 53 (.fZ 1 (.t 1)),zG 50 false 54 (.load false 1 (.t 53)),zG 50 false 55 (.bin .gtr (.t 52) (.t 54)),qQ 56 50 55,zM 57 56,zG 57 false 58 (.fZ 2 (.t 4)),zG 57 false 59 (.load true 5 (.t 58)),⟨(some (57,false)),some 60,.call 30 [.t 59]⟩,zG 57 false 61 (.not (.t 60)),qQ 62 57 61] [1,20,21,22,62]) (.cond (.t 62) (.seq (.reg [ qB 2 false] [2]) .ret) .skip))))) (.reg [ zA 63 (.bin .add (.t 22) (kI 1)),zM 22 63] [1,20,21,22]))))))) (.seq (.reg [ qB 2 true] [2]) .ret))))
theorem K.aW:dU pZ 24 1 0 C.aW [.tmp 2]=true:=by kernel_rfl
def C.jV:aP:=(.seq (.reg [ qX 1 10 0,zA 2 (.alloc 11 [.c (.str []),je 0,je 0,je 0,.c (.str []),.fU 1,.fU 5])] [1,2]) (.seq (.kC [ (qA 3 0 1,[]),(qF 4 1 3,[0]),(qA 5 1 1,[]),(qF 6 1 5,[2]),(qA 7 2 1,[]),(qT 8 5 7,[4]),(q1 9 33 8,[4,5]),(zA 10 (.build [.c (.str []),je 0,je 0,je 0,.c (.str []),.fU 1,.fU 5] [(0,1,.t 4),(1,1,.t 6),(2,5,.t 9)]),[0,1,2,3,4,5,6]),(qS 7 2 10,[0,1,2,3,4,5,6,7])] [2]) .ret))
theorem K.jV:dU pZ 43 1 0 C.jV [.cell 2 true 7]=true:=by kernel_rfl
def C.bf:aP:=(.seq (.reg [ qX 1 10 0,zA 2 (.alloc 11 [.fU 7,je 0])] [1,2]) (.seq (.reg [ qA 6 1 1,qF 7 1 6,zA 8 (.build [.fU 7,je 0] [(1,1,.t 7)]),zA 3 (.alloc 12 [.fU 7,je 0]),qS 2 3 8] [1,2,3]) (.seq (.seq (.reg [ qA 9 0 1,qF 10 1 9,qL 11 10,zA 12 (.bin .gtr (.t 11) (kI 0))] [1,2,3,12]) (.cond (.t 12) (.seq (.reg [ qA 13 0 1,qF 14 1 13,qL 15 14,zA 16 (.makes 13 7 104 [.str [],.lit (.int .i64 0),.lit (.int .i64 0),.lit (.int .i64 0),.str [],.sl 1 [],.sl 5 []] (.t 15) (.t 15)),qA 17 0 3,qU 1 17 16] [1,2,3]) (.seq (.reg [ qA 18 0 1,qF 19 1 18,qL 20 19,qI 21 0] [2,3,19,20,21]) (.block 0 (.loop (.seq (.reg [ zA 22 (.bin .lss (.t 21) (.t 20))] [2,3,19,20,21,22]) (.seq (.cond (.t 22) .skip (.exit 0)) (.seq (.block 1 (.seq (.reg [ zM 23 21,qD 24 7 19 21,qT 25 7 24,zA 5 (.alloc 14 [.c (.str []),je 0,je 0,je 0,.c (.str []),.fU 1,.fU 5]),zM 4 23,qS 7 5 25] [2,3,4,5,19,20,21]) (.kC [ (qA 26 0 3,[]),(qF 27 1 26,[0]),(zM 28 4,[]),(qT 29 7 5,[]),(q1 30 43 29,[3]),(qD 31 7 27 28,[0,1,2,3,4]),(qS 7 31 30,[0,1,2,3,4,5])] [2,3,19,20,21]))) (.reg [ zA 32 (.bin .add (.t 21) (kI 1)),zM 21 32] [2,3,19,20,21])))))))) .skip)) (.seq (.reg [ qT 33 2 3,qS 2 2 33] [2]) .ret))))
theorem K.bf:dU pZ 31 1 0 C.bf [.cell 2 true 2]=true:=by kernel_rfl
def C.jY:aP:=(.seq (.reg [ qX 2 10 0,qI 4 0] [1,2]) (.seq (.reg [ qA 5 0 2,qF 6 1 5,zM 7 1,q2 8 78 6 7,zM 4 8] [4]) .ret))
theorem K.jY:dU pZ 77 2 0 C.jY [.tmp 4]=true:=by kernel_rfl
def C.nD:aP:=(.seq (.reg [ qI 6 0,qB 7 false] [0,1,2]) (.seq (.reg [ zM 12 0,qL 13 12,zM 8 13] [0,1,2,8]) (.seq (.reg [ zM 14 8,qI 9 0,zM 10 14] [0,1,2,8,9,10]) (.seq (.block 0 (.loop (.seq (.seq (.reg [ zM 15 9,zM 16 10,zA 17 (.bin .lss (.t 15) (.t 16))] [0,1,2,8,9,10,17]) (.cond (.t 17) .skip (.exit 0))) (.block 1 (.seq (.reg [ zM 18 9,zM 19 10,zA 20 (.bin .add (.t 18) (.t 19)),zA 21 (.vX .u64 (.t 20)),zA 22 (.Wl false (.t 21) (.k (.c (.lit (.int .u64 1))))),zA 23 (.vX .i64 (.t 22)),zM 11 23] [0,1,2,8,9,10,11]) (.seq (.reg [ zM 24 2,zM 25 0,zM 26 11,qD 27 7 25 26,qT 28 7 27,zM 29 1,⟨none,some 30,.vW (.t 24) [.t 28,.t 29]⟩,zA 31 (.bin .lss (.t 30) (kI 0))] [0,1,2,8,9,10,11,31]) (.cond (.t 31) (.reg [ zM 32 11,zA 33 (.bin .add (.t 32) (kI 1)),zM 9 33] [0,1,2,8,9,10]) (.reg [ zM 34 11,zM 10 34] [0,1,2,8,9,10])))))))) (.seq (.reg [ zM 35 9,zM 36 9,zM 37 8,zA 38 (.bin .lss (.t 36) (.t 37)),zM 39 38,zG 39 true 40 (.mv (.t 2)),zG 39 true 41 (.mv (.t 0)),zG 39 true 42 (.mv (.t 9)),zG 39 true 43 (.nZ 7 (.t 41) (.t 42)),zG 39 true 44 (.load true 7 (.t 43)),zG 39 true 45 (.mv (.t 1)),⟨(some (39,true)),some 46,.vW (.t 40) [.t 44,.t 45]⟩,zG 39 true 47 (.bin .eql (.t 46) (kI 0)),qP 48 39 47,zM 6 35,zM 7 48] [6,7]) .ret)))))
theorem K.aj:dU pZ 76 3 0 C.nD [.tmp 6,.tmp 7]=true:=by kernel_rfl
def C.ja:aP:=(.seq (.reg [ qI 4 0,qB 5 false] [0,1]) (.seq (.reg [ zM 6 0,zM 7 1,⟨none,some 8,.call 76 [.t 6,.t 7,.k (.fn 77 [])]⟩,qE 9 8 0,qE 10 8 1,zM 4 9,zM 5 10] [4,5]) .ret))
theorem K.ja:dU pZ 42 2 0 C.ja [.tmp 4,.tmp 5]=true:=by kernel_rfl
def C.fM:aP:=(.seq (.reg [ zA 6 (.mv (.k (.fU 7)))] [0,1,2]) (.seq (.reg [ zM 8 0,zM 9 1,zM 10 2,zM 11 0,qL 12 11,zA 13 (.sl3 7 (.t 8) (.t 9) (.t 10) (.t 12))] [0,1,2]) (.seq (.seq (.reg [ zM 14 1,zM 15 2,zA 16 (.bin .eql (.t 14) (.t 15))] [0,1,2,16]) (.cond (.t 16) (.seq (.reg [ zM 17 0,zM 6 17] [6]) .ret) .skip)) (.seq (.reg [ zM 18 0,qL 19 18,zM 7 19] [0,1,2,7]) (.seq (.kC [ (zM 20 0,[]),(zM 21 1,[]),(zA 22 (.jB 7 (.t 20) none (some (.t 21))),[0,1]),(zM 23 0,[]),(zM 24 2,[]),(zA 25 (.jB 7 (.t 23) (some (.t 24)) none),[3,4]),(zA 26 (.D5 10 7 104 (.t 22) (.t 25)),[0,1,2,3,4,5]),(zM 0 26,[0,1,2,3,4,5,6])] [0,7]) (.seq (.reg [ zM 27 0,zM 28 0,qL 29 28,zM 30 7,zA 31 (.jB 7 (.t 27) (some (.t 29)) (some (.t 30))),zS (.Jc 7 [.str [],.lit (.int .i64 0),.lit (.int .i64 0),.lit (.int .i64 0),.str [],.sl 1 [],.sl 5 []] (.t 31))] [0]) (.seq (.reg [ zM 32 0,zM 6 32] [6]) .ret)))))))
theorem K.fM:dU pZ 102 3 1 C.fM [.tmp 6]=true:=by kernel_rfl
def C.kP:aP:=(.seq (.reg [ qX 2 10 0,zA 4 (.alloc 11 [.fU 7,je 0]),qB 5 false] [1,2,4]) (.seq (.seq (.reg [ qT 9 2 2,q1 10 24 9,qO 11 10,zM 12 11,zG 12 false 13 (.fZ 1 (.t 2)),zG 12 false 14 (.load false 1 (.t 13)),zG 12 false 15 (.bin .eql (.t 14) (kI 999)),qQ 16 12 15] [1,2,4,16]) (.cond (.t 16) (.seq (.reg [ zA 17 (.build [.fU 7,je 0] []),qS 2 4 17,qB 5 false] [4,5]) .ret) .skip)) (.seq (.reg [ qA 19 0 2,qF 20 1 19,zM 21 1,q2 22 42 20 21,zM 18 22,qE 23 18 0,qE 24 18 1,zM 6 23,zM 7 24] [2,4,6,7]) (.seq (.seq (.reg [ zM 25 7,qO 26 25] [2,4,6,26]) (.cond (.t 26) (.seq (.reg [ zA 27 (.build [.fU 7,je 0] []),qS 2 4 27,qB 5 false] [4,5]) .ret) .skip)) (.seq (.reg [ qT 28 2 2,q1 29 31 28,zA 8 (.alloc 12 [.fU 7,je 0]),qS 2 8 29] [4,6,8]) (.seq (.reg [ qA 30 1 8,qF 31 1 30,zA 32 (.bin .add (.t 31) (kI 1)),qA 33 1 8,qU 1 33 32] [4,6,8]) (.seq (.reg [ qA 34 0 8,qF 35 1 34,zM 36 6,zM 37 6,zA 38 (.bin .add (.t 37) (kI 1)),q3 39 102 35 36 38,qA 40 0 8,qU 1 40 39] [4,8]) (.seq (.reg [ qT 41 2 8,qS 2 4 41,qB 5 true] [4,5]) .ret))))))))
theorem K.kP:dU pZ 65 2 0 C.kP [.cell 4 true 2,.tmp 5]=true:=by kernel_rfl
def C.bT:aP:=(.seq (.reg [ zM 5 0,⟨none,some 6,.call 136 [.t 5,.k (.c (.lit (.int .u8 34)))]⟩] [0,1]) (.seq (.seq (.reg [ qI 4 0] [0,1,4]) (.block 0 (.loop (.seq (.seq (.reg [ zM 7 4,zM 8 1,zA 9 (.lens (.t 8)),zA 10 (.bin .lss (.t 7) (.t 9))] [0,1,4,10]) (.cond (.t 10) .skip (.exit 0))) (.seq (.block 1 (.cut (.seq (.reg [ zM 13 1,zM 14 4,zA 15 (.idxs (.t 13) (.t 14)),zA 16 (.bin .eql (.t 15) (.k (.c (.lit (.int .u8 34))))),zM 17 16,zG 17 false 18 (.mv (.t 1)),zG 17 false 19 (.mv (.t 4)),zG 17 false 20 (.idxs (.t 18) (.t 19)),zG 17 false 21 (.bin .eql (.t 20) (.k (.c (.lit (.int .u8 92))))),qQ 22 17 21] [0,1,4,22]) (.cond (.t 22) (.reg [ zM 23 0,⟨none,some 24,.call 136 [.t 23,.k (.c (.lit (.int .u8 92)))]⟩] [0,1,4]) .skip)) (.reg [ zM 25 0,zM 26 1,zM 27 4,zA 28 (.idxs (.t 26) (.t 27)),q2 29 136 25 28] [0,1,4]))) (.reg [ zM 11 4,zA 12 (.bin .add (.t 11) (kI 1)),zM 4 12] [0,1,4])))))) (.reg [ zM 30 0,⟨none,some 31,.call 136 [.t 30,.k (.c (.lit (.int .u8 34)))]⟩] [])))
theorem K.bT:dU pZ 135 2 2 C.bT []=true:=by kernel_rfl
def C.aO:aP:=(.seq (.reg [ qX 3 10 1] [0,3]) (.seq (.reg [ qA 8 0 3,qF 9 1 8] [0,3,9]) (.block 0 (.seq (.reg [ zA 11 (.bin .eql (.t 9) (kI 0)),zM 10 11] [0,3,9,10]) (.cond (.t 10) (.reg [ zM 12 0,⟨none,some 13,.call 133 [.t 12,.k (.c (.str [110,117,108,108]))]⟩] []) (.seq (.reg [ zA 15 (.bin .eql (.t 9) (kI 1)),zM 14 15] [0,3,9,14]) (.cond (.t 14) (.reg [ zM 16 0,qA 17 1 3,qF 18 1 17,q1 19 134 18,q2 20 133 16 19] []) (.seq (.reg [ zA 22 (.bin .eql (.t 9) (kI 2)),zM 21 22] [0,3,9,21]) (.cond (.t 21) (.reg [ zM 23 0,qA 24 2 3,qF 25 1 24,q2 26 135 23 25] []) (.seq (.reg [ zA 28 (.bin .eql (.t 9) (kI 3)),zM 27 28] [0,3,9,27]) (.cond (.t 27) (.seq (.reg [ zM 29 0,⟨none,some 30,.call 136 [.t 29,.k (.c (.lit (.int .u8 91)))]⟩] [0,3]) (.seq (.seq (.reg [ qA 31 4 3,qF 32 1 31,qL 33 32,qI 34 0] [0,32,33,34]) (.block 1 (.loop (.seq (.reg [ zA 35 (.bin .lss (.t 34) (.t 33))] [0,32,33,34,35]) (.seq (.cond (.t 35) .skip (.exit 1)) (.seq (.block 2 (.seq (.reg [ zM 36 34,qD 37 5 32 34,qT 38 5 37,qZ 5 11,zM 4 36,qS 5 5 38] [0,4,5,32,33,34]) (.cut (.seq (.reg [ zM 39 4,zA 40 (.bin .gtr (.t 39) (kI 0))] [0,5,32,33,34,40]) (.cond (.t 40) (.reg [ zM 41 0,⟨none,some 42,.call 136 [.t 41,.k (.c (.lit (.int .u8 44)))]⟩] [0,5,32,33,34]) .skip)) (.reg [ zM 43 0,qT 44 5 5,q2 45 98 43 44] [0,32,33,34])))) (.reg [ zA 46 (.bin .add (.t 34) (kI 1)),zM 34 46] [0,32,33,34]))))))) (.reg [ zM 47 0,⟨none,some 48,.call 136 [.t 47,.k (.c (.lit (.int .u8 93)))]⟩] []))) (.seq (.reg [ zA 50 (.bin .eql (.t 9) (kI 4)),zM 49 50] [0,3,49]) (.cond (.t 49) (.seq (.reg [ zM 51 0,⟨none,some 52,.call 136 [.t 51,.k (.c (.lit (.int .u8 123)))]⟩] [0,3]) (.seq (.seq (.reg [ qA 53 4 3,qF 54 1 53,qL 55 54,qI 56 0] [0,3,54,55,56]) (.block 3 (.loop (.seq (.reg [ zA 57 (.bin .lss (.t 56) (.t 55))] [0,3,54,55,56,57]) (.seq (.cond (.t 57) .skip (.exit 3)) (.seq (.block 4 (.seq (.reg [ zM 58 56,qD 59 5 54 56,qT 60 5 59,qZ 7 12,zM 6 58,qS 5 7 60] [0,3,6,7,54,55,56]) (.cut (.seq (.reg [ zM 61 6,zA 62 (.bin .gtr (.t 61) (kI 0))] [0,3,6,7,54,55,56,62]) (.cond (.t 62) (.reg [ zM 63 0,⟨none,some 64,.call 136 [.t 63,.k (.c (.lit (.int .u8 44)))]⟩] [0,3,6,7,54,55,56]) .skip)) (.seq (.reg [ zM 65 0,qA 66 3 3,qF 67 1 66,zM 68 6,qD 69 1 67 68,qF 70 1 69,q2 71 135 65 70] [0,3,7,54,55,56]) (.seq (.reg [ zM 72 0,⟨none,some 73,.call 136 [.t 72,.k (.c (.lit (.int .u8 58)))]⟩] [0,3,7,54,55,56]) (.reg [ zM 74 0,qT 75 5 7,q2 76 98 74 75] [0,3,54,55,56])))))) (.reg [ zA 77 (.bin .add (.t 56) (kI 1)),zM 56 77] [0,3,54,55,56]))))))) (.reg [ zM 78 0,⟨none,some 79,.call 136 [.t 78,.k (.c (.lit (.int .u8 125)))]⟩] []))) .skip)))))))))))))
theorem K.aO:dU pZ 98 2 2 C.aO []=true:=by kernel_rfl
def C.jO:aP:=(.seq (.reg [ qX 1 10 0,zA 2 (.mv (.k (.c (.str []))))] [1]) (.seq (.seq (.reg [ qT 4 5 1,q1 5 30 4,qO 6 5] [1,6]) (.cond (.t 6) (.seq (.reg [ zA 2 (.mv (.k (.c (.str []))))] [2]) .ret) .skip)) (.seq (.reg [ zA 3 (.zD 115 5 12 11)] [1,3]) (.seq (.reg [ qT 7 5 1,q2 8 98 3 7] [3]) (.seq (.reg [ q1 9 99 3,zM 2 9] [2]) .ret)))))
theorem K.jO:dU pZ 62 1 0 C.jO [.tmp 2]=true:=by kernel_rfl
def C.lC:aP:=(.seq (.reg [ qX 2 10 0,zA 4 (.alloc 11 [.c (.str []),je 0,je 0,je 0,.c (.str []),.fU 1,.fU 5]),qB 5 false] [1,2,4]) (.seq (.seq (.reg [ qT 8 2 2,q1 9 24 8,qO 10 9] [1,2,4,10]) (.cond (.t 10) (.seq (.reg [ zA 11 (.build [.c (.str []),je 0,je 0,je 0,.c (.str []),.fU 1,.fU 5] []),qS 7 4 11,qB 5 false] [4,5]) .ret) .skip)) (.seq (.reg [ qA 13 0 2,qF 14 1 13,zM 15 1,q2 16 42 14 15,zM 12 16,qE 17 12 0,qE 18 12 1,zM 6 17,zM 7 18] [2,4,6,7]) (.seq (.seq (.reg [ zM 19 7,qO 20 19] [2,4,6,20]) (.cond (.t 20) (.seq (.reg [ zA 21 (.build [.c (.str []),je 0,je 0,je 0,.c (.str []),.fU 1,.fU 5] []),qS 7 4 21,qB 5 false] [4,5]) .ret) .skip)) (.seq (.reg [ qA 22 0 2,qF 23 1 22,zM 24 6,qD 25 7 23 24,qT 26 7 25,q1 27 43 26,qS 7 4 27,qB 5 true] [4,5]) .ret)))))
theorem K.lC:dU pZ 20 2 0 C.lC [.cell 4 true 7,.tmp 5]=true:=by kernel_rfl
def C.dM:aP:=(.seq (.reg [ zA 2 (.mv (.k (.c (.str []))))] [0]) (.seq (.reg [ qI 3 17] [0,3]) (.seq (.seq (.reg [ qI 4 0] [0,3,4]) (.block 0 (.loop (.seq (.seq (.reg [ zM 7 4,zM 8 0,zA 9 (.lens (.t 8)),zA 10 (.bin .lss (.t 7) (.t 9))] [0,3,4,10]) (.cond (.t 10) .skip (.exit 0))) (.seq (.block 1 (.reg [ zM 13 3,zA 14 (.bin .mul (kI 131) (.t 13)),zM 15 0,zM 16 4,zA 17 (.idxs (.t 15) (.t 16)),zA 18 (.vX .i64 (.t 17)),zA 19 (.bin .add (.t 14) (.t 18)),zA 20 (.bin .rem (.t 19) (kI 65521)),zM 3 20] [0,3,4])) (.reg [ zM 11 4,zA 12 (.bin .add (.t 11) (kI 1)),zM 4 12] [0,3,4])))))) (.seq (.reg [ zA 5 (.zC 10 1 4 [.lit (.int .u8 0)])] [3,5]) (.seq (.seq (.reg [ qI 6 3] [3,5,6]) (.block 2 (.loop (.seq (.seq (.reg [ zM 21 6,zA 22 (.bin .geq (.t 21) (kI 0))] [3,5,6,22]) (.cond (.t 22) .skip (.exit 2))) (.seq (.block 3 (.seq (.reg [ zM 25 6,zM 26 3,zA 27 (.bin .rem (.t 26) (kI 16)),zA 28 (.idxs (.k (.c (.str [48,49,50,51,52,53,54,55,56,57,97,98,99,100,101,102]))) (.t 27)),zA 29 (.Fe 1 4 (.t 5) (.t 25)),qU 1 29 28] [3,5,6]) (.reg [ zM 30 3,zA 31 (.bin .quo (.t 30) (kI 16)),zM 3 31] [3,5,6]))) (.reg [ zM 23 6,zA 24 (.bin .sub (.t 23) (kI 1)),zM 6 24] [3,5,6])))))) (.seq (.reg [ zA 32 (.FN 1 4 (.t 5)),zA 33 (.Gm (.t 32)),zM 2 33] [2]) .ret))))))
theorem K.dM:dU pZ 61 1 0 C.dM [.tmp 2]=true:=by kernel_rfl
def C.lK:aP:=(.seq (.reg [ qX 1 10 0,zA 2 (.mv (.k (.c (.str []))))] [1]) (.seq (.seq (.reg [ qT 3 5 1,q1 4 30 3,qO 5 4] [1,5]) (.cond (.t 5) (.seq (.reg [ zA 2 (.mv (.k (.c (.str []))))] [2]) .ret) .skip)) (.seq (.reg [ qT 6 5 1,q1 7 62 6,q1 8 61 7,zM 2 8] [2]) .ret)))
theorem K.lK:dU pZ 34 1 0 C.lK [.tmp 2]=true:=by kernel_rfl
def C.jP:aP:=(.seq (.reg [ qX 2 10 0,qX 3 11 1,zA 4 (.alloc 12 [.fU 7,je 0]),zA 5 (.alloc 13 [je 0,.c (.str []),je 0,je 0,je 0,.c (.str []),.fU 1,.fU 5])] [2,3,4,5]) (.seq (.reg [ qT 9 2 2,qA 10 1 3,qF 11 1 10,q2 12 65 9 11,zM 8 12,qE 13 8 0,qE 14 8 1,zA 6 (.alloc 14 [.fU 7,je 0]),qS 2 6 13,zM 7 14] [2,4,5,6,7]) (.seq (.seq (.reg [ zM 15 7,qO 16 15] [2,4,5,6,16]) (.cond (.t 16) (.seq (.reg [ qT 17 2 2,q1 18 31 17,zA 19 (.build [je 0,.c (.str []),je 0,je 0,je 0,.c (.str []),.fU 1,.fU 5] [(0,1,kI 422)]),qS 2 4 18,qS 8 5 19] [4,5]) .ret) .skip)) (.seq (.kC [ (qT 20 2 6,[]),(qA 21 1 6,[]),(qF 22 1 21,[1]),(zA 23 (.build [je 0,.c (.str []),je 0,je 0,je 0,.c (.str []),.fU 1,.fU 5] [(0,1,kI 200),(2,1,.t 22)]),[1,2]),(qS 2 4 20,[0]),(qS 8 5 23,[0,1,2,3,4])] [4,5]) .ret))))
theorem K.jP:dU pZ 36 2 0 C.jP [.cell 4 true 2,.cell 5 true 8]=true:=by kernel_rfl
def C.fO:aP:=(.seq (.reg [ zA 6 (.mv (.k (.fU 7)))] [0,1,2]) (.seq (.reg [ zM 10 0,zM 11 1,zA 12 (.jB 7 (.t 10) (some (.t 11)) none)] [0,1,2]) (.seq (.reg [ zM 13 2,qL 14 13,zM 7 14] [0,1,2,7]) (.seq (.seq (.reg [ zM 15 7,zA 16 (.bin .eql (.t 15) (kI 0))] [0,1,2,7,16]) (.cond (.t 16) (.seq (.reg [ zM 17 0,zM 6 17] [6]) .ret) .skip)) (.seq (.reg [ zM 18 0,qL 19 18,zM 8 19] [0,1,2,7,8]) (.seq (.seq (.reg [ zM 20 1,zM 21 8,zA 22 (.bin .eql (.t 20) (.t 21))] [0,1,2,7,8,22]) (.cond (.t 22) (.seq (.reg [ zM 23 0,zM 24 2,zA 25 (.D5 10 7 104 (.t 23) (.t 24)),zM 6 25] [6]) .ret) .skip)) (.seq (.seq (.reg [ zM 26 8,zM 27 7,zA 28 (.bin .add (.t 26) (.t 27)),zM 29 0,zA 30 (.JL (.t 29)),zA 31 (.bin .gtr (.t 28) (.t 30))] [0,1,2,7,8,31]) (.cond (.t 31) (.seq (.reg [ zM 32 0,zM 33 1,zA 34 (.jB 7 (.t 32) none (some (.t 33))),zM 35 8,zM 36 7,zA 37 (.bin .add (.t 35) (.t 36)),zM 38 1,zA 39 (.bin .sub (.t 37) (.t 38)),zA 40 (.Hy 11 7 104 [.str [],.lit (.int .i64 0),.lit (.int .i64 0),.lit (.int .i64 0),.str [],.sl 1 [],.sl 5 []] (.t 34) (.t 39)),zM 9 40] [0,1,2,7,9]) (.seq (.reg [ zM 41 9,zM 42 1,zA 43 (.jB 7 (.t 41) (some (.t 42)) none),zM 44 2,zA 45 (.vI 7 (.t 43) (.t 44))] [0,1,7,9]) (.seq (.kC [ (zM 46 9,[]),(zM 47 1,[]),(zM 48 7,[]),(zA 49 (.bin .add (.t 47) (.t 48)),[1,2]),(zA 50 (.jB 7 (.t 46) (some (.t 49)) none),[0,1,2,3]),(zM 51 0,[]),(zM 52 1,[]),(zA 53 (.jB 7 (.t 51) (some (.t 52)) none),[5,6]),(zA 54 (.vI 7 (.t 50) (.t 53)),[0,1,2,3,4,5,6,7])] [9]) (.seq (.reg [ zM 55 9,zM 6 55] [6]) .ret)))) .skip)) (.seq (.reg [ zM 56 0,zM 57 8,zM 58 7,zA 59 (.bin .add (.t 57) (.t 58)),zA 60 (.jB 7 (.t 56) none (some (.t 59))),zM 0 60] [0,1,2,7,8]) (.seq (.seq (.reg [ zM 61 2,zM 62 0,zM 63 1,zM 64 7,zA 65 (.bin .add (.t 63) (.t 64)),zA 66 (.jB 7 (.t 62) (some (.t 65)) none),zA 67 (.Uf (.t 61) (.t 66)),qO 68 67] [0,1,2,7,8,68]) (.cond (.t 68) (.seq (.kC [ (zM 69 0,[]),(zM 70 1,[]),(zM 71 7,[]),(zA 72 (.bin .add (.t 70) (.t 71)),[1,2]),(zA 73 (.jB 7 (.t 69) (some (.t 72)) none),[0,1,2,3]),(zM 74 0,[]),(zM 75 1,[]),(zA 76 (.jB 7 (.t 74) (some (.t 75)) none),[5,6]),(zA 77 (.vI 7 (.t 73) (.t 76)),[0,1,2,3,4,5,6,7])] [0,1,2]) (.seq (.reg [ zM 78 0,zM 79 1,zA 80 (.jB 7 (.t 78) (some (.t 79)) none),zM 81 2,zA 82 (.vI 7 (.t 80) (.t 81))] [0]) (.seq (.reg [ zM 83 0,zM 6 83] [6]) .ret))) .skip)) (.seq (.reg [ zM 84 0,zM 85 8,zA 86 (.jB 7 (.t 84) (some (.t 85)) none),zM 87 2,zA 88 (.vI 7 (.t 86) (.t 87))] [0,1,7]) (.seq (.reg [ zM 89 0,zM 90 1,zA 91 (.jB 7 (.t 89) (some (.t 90)) none),zM 92 7,q2 93 97 91 92] [0]) (.seq (.reg [ zM 94 0,zM 6 94] [6]) .ret))))))))))))
theorem K.fO:dU pZ 60 3 2 C.fO [.tmp 6]=true:=by kernel_rfl
def C.mX:aP:=(.seq (.reg [ qX 3 10 1,zA 4 (.mv (.k (.fU 7)))] [0,3]) (.seq (.reg [ zM 8 0,qA 9 0 3,qF 10 1 9,q2 11 42 8 10,zM 7 11,qE 12 7 0,qE 13 7 1,zM 5 12,zM 6 13] [0,3,5,6]) (.seq (.seq (.reg [ zM 14 6] [0,3,5,14]) (.cond (.t 14) (.seq (.reg [ zM 15 0,zM 16 5,qT 17 7 3,qD 18 7 15 16,qS 7 18 17] [0]) (.seq (.reg [ zM 19 0,zM 4 19] [4]) .ret)) .skip)) (.seq (.reg [ zM 20 0,zM 21 5,qT 22 7 3,zA 23 (.dP 11 7 1 [.str [],.lit (.int .i64 0),.lit (.int .i64 0),.lit (.int .i64 0),.str [],.sl 1 [],.sl 5 []] [(0,.t 22)]),q3 24 60 20 21 23,zM 4 24] [4]) .ret))))
theorem K.mX:dU pZ 32 2 1 C.mX [.tmp 4]=true:=by kernel_rfl
def C.lD:aP:=(.seq (.reg [ qX 3 10 0,qX 5 11 2,zA 6 (.alloc 12 [.fU 7,je 0]),qB 7 false] [1,3,5,6]) (.seq (.seq (.reg [ qT 9 2 3,q1 10 24 9,qO 11 10,zM 12 11,zG 12 false 13 (.mv (.t 1)),⟨(some (12,false)),some 14,.call 29 [.t 13]⟩,zG 12 false 15 (.not (.t 14)),qQ 16 12 15,zM 17 16,zG 17 false 18 (.load true 5 (.t 5)),⟨(some (17,false)),some 19,.call 30 [.t 18]⟩,zG 17 false 20 (.not (.t 19)),qQ 21 17 20] [1,3,5,6,21]) (.cond (.t 21) (.seq (.reg [ zA 22 (.build [.fU 7,je 0] []),qS 2 6 22,qB 7 false] [6,7]) .ret) .skip)) (.seq (.reg [ qT 23 2 3,q1 24 31 23,zA 8 (.alloc 13 [.fU 7,je 0]),qS 2 8 24] [1,5,6,8]) (.seq (.reg [ qA 25 1 8,qF 26 1 25,zA 27 (.bin .add (.t 26) (kI 1)),qA 28 1 8,qU 1 28 27] [1,5,6,8]) (.seq (.kC [ (qA 29 0 8,[]),(qF 30 1 29,[0]),(zM 31 1,[]),(qA 32 1 8,[]),(qF 33 1 32,[3]),(qT 34 5 5,[]),(q1 35 33 34,[5]),(zA 36 (.build [.c (.str []),je 0,je 0,je 0,.c (.str []),.fU 1,.fU 5] [(0,1,.t 31),(1,1,.t 33),(2,5,.t 35)]),[2,3,4,5,6]),(q2 37 32 30 36,[0,1,2,3,4,5,6,7]),(qA 38 0 8,[0,1,2,3,4,5,6,7,8]),(qU 1 38 37,[0,1,2,3,4,5,6,7,8,9])] [6,8]) (.seq (.seq (.reg [ qT 39 2 8,q1 40 24 39,qO 41 40] [6,8,41]) (.cond (.t 41) (.seq (.reg [ zA 42 (.build [.fU 7,je 0] []),qS 2 6 42,qB 7 false] [6,7]) .ret) .skip)) (.seq (.reg [ qT 43 2 8,qS 2 6 43,qB 7 true] [6,7]) .ret)))))))
theorem K.lD:dU pZ 13 3 0 C.lD [.cell 6 true 2,.tmp 7]=true:=by kernel_rfl
def C.lM:aP:=(.seq (.reg [ zM 7 0,qN 8 7,qA 9 3 8,qF 10 1 9,zM 11 1,q2 12 159 10 11,zM 6 12,qE 13 6 0,qE 14 6 1,zM 4 13,zM 5 14] [0,4,5]) (.seq (.reg [ zM 15 5] [0,4,15]) (.cond (.t 15) (.seq (.reg [ zM 16 0,zM 17 0,qN 18 17,qA 19 3 18,qF 20 1 19,zM 21 4,zM 22 4,zA 23 (.bin .add (.t 22) (kI 1)),q3 24 172 20 21 23,qN 25 16,qA 26 3 25,qU 1 26 24] [0,4]) (.reg [ zM 27 0,zM 28 0,qN 29 28,qA 30 4 29,qF 31 1 30,zM 32 4,zM 33 4,zA 34 (.bin .add (.t 33) (kI 1)),q3 35 173 31 32 34,qN 36 27,qA 37 4 36,qU 1 37 35] [])) .skip)))
theorem K.lM:dU pZ 158 2 3 C.lM []=true:=by kernel_rfl
def C.aT:aP:=(.seq (.reg [ qX 2 10 0,qX 3 11 1,qZ 4 12] [2,3,4]) (.seq (.seq (.reg [ qA 11 0 3,qF 12 1 11,zA 13 (.bin .neq (.t 12) (kI 4))] [2,3,4,13]) (.cond (.t 13) (.seq (.reg [ qT 14 5 3,q1 15 33 14,qS 5 4 15] [4]) .ret) .skip)) (.seq (.reg [ zA 16 (.build zN [(0,1,kI 4)]),qZ 5 13,qS 5 5 16] [2,3,4,5]) (.cut (.seq (.reg [ qA 17 0 2,qF 18 1 17,zA 19 (.bin .eql (.t 18) (kI 4))] [2,3,4,5,19]) (.cond (.t 19) (.reg [ qT 20 5 2,q1 21 33 20,qS 5 5 21] [3,4,5]) .skip)) (.seq (.seq (.reg [ qA 22 3 3,qF 23 1 22,qL 24 23,qI 25 0] [3,4,5,23,24,25]) (.block 0 (.loop (.seq (.reg [ zA 26 (.bin .lss (.t 25) (.t 24))] [3,4,5,23,24,25,26]) (.seq (.cond (.t 26) .skip (.exit 0)) (.seq (.block 1 (.seq (.reg [ zM 27 25,qD 28 1 23 25,qF 29 1 28,zM 6 27,zM 7 29] [3,4,5,6,7,23,24,25]) (.seq (.seq (.reg [ qA 30 4 3,qF 31 1 30,zM 32 6,qD 33 5 31 32,qA 34 0 33,qF 35 1 34,zA 36 (.bin .eql (.t 35) (kI 0))] [3,4,5,6,7,23,24,25,36]) (.cond (.t 36) (.seq (.reg [ zM 37 7,q2 38 158 5 37] [3,4,5,23,24,25]) (.exit 1)) .skip)) (.seq (.reg [ qZ 8 14] [3,4,5,6,7,8,23,24,25]) (.cut (.seq (.reg [ qA 40 3 5,qF 41 1 40,zM 42 7,q2 43 159 41 42,zM 39 43,qE 44 39 0,qE 45 39 1,zM 9 44,zM 10 45] [3,4,5,6,7,8,9,10,23,24,25]) (.seq (.reg [ zM 46 10] [3,4,5,6,7,8,9,23,24,25,46]) (.cond (.t 46) (.reg [ qA 47 4 5,qF 48 1 47,zM 49 9,qD 50 5 48 49,qT 51 5 50,qS 5 8 51] [3,4,5,6,7,8,23,24,25]) .skip))) (.kC [ (zM 52 7,[]),(qT 53 5 8,[]),(qA 54 4 3,[]),(qF 55 1 54,[2]),(zM 56 6,[]),(qD 57 5 55 56,[2,3,4]),(qT 58 5 57,[2,3,4,5]),(q2 59 141 53 58,[1,2,3,4,5,6]),(q3 60 160 5 52 59,[0,1,2,3,4,5,6,7])] [3,4,5,23,24,25])))))) (.reg [ zA 61 (.bin .add (.t 25) (kI 1)),zM 25 61] [3,4,5,23,24,25]))))))) (.seq (.reg [ qT 62 5 5,qS 5 4 62] [4]) .ret))))))
theorem K.aT:dU pZ 141 2 0 C.aT [.cell 4 true 5]=true:=by kernel_rfl
def C.jZ:aP:=(.seq (.reg [ qX 2 10 0,qX 3 11 1,qZ 4 12,qB 5 false] [2,3,4]) (.seq (.seq (.reg [ qT 6 5 2,q1 7 30 6,qO 8 7,zM 9 8,zG 9 false 10 (.load true 5 (.t 3)),⟨(some (9,false)),some 11,.call 30 [.t 10]⟩,zG 9 false 12 (.not (.t 11)),qQ 13 9 12] [2,3,4,13]) (.cond (.t 13) (.seq (.reg [ zA 14 (.build zN []),qS 5 4 14,qB 5 false] [4,5]) .ret) .skip)) (.seq (.reg [ qT 15 5 2,qT 16 5 3,q2 17 141 15 16,⟨none,some 18,.call 140 [.t 17,.k (.c (.lit (.bool true)))]⟩,qE 19 18 0,qE 20 18 1,qS 5 4 19,zM 5 20] [4,5]) .ret)))
theorem K.jZ:dU pZ 104 2 0 C.jZ [.cell 4 true 5,.tmp 5]=true:=by kernel_rfl
def C.lG:aP:=(.seq (.reg [ qX 2 10 0,qX 3 11 1,qZ 4 12,qB 5 false] [2,3,4]) (.seq (.seq (.reg [ qA 6 0 3,qF 7 1 6] [2,3,4,7]) (.block 0 (.seq (.reg [ zA 9 (.bin .eql (.t 7) (kI 4)),zM 8 9] [2,3,4,7,8]) (.cond (.t 8) (.seq (.reg [ qT 10 5 2,qA 11 9 3,qF 12 1 11,q2 13 103 10 12,qE 14 13 0,qE 15 13 1,qS 5 4 14,zM 5 15] [4,5]) .ret) (.seq (.reg [ zA 17 (.bin .eql (.t 7) (kI 5)),zM 16 17] [2,3,4,16]) (.cond (.t 16) (.seq (.reg [ qT 18 5 2,qA 19 4 3,qT 20 5 19,q2 21 104 18 20,qE 22 21 0,qE 23 21 1,qS 5 4 22,zM 5 23] [4,5]) .ret) .skip)))))) (.seq (.reg [ qA 24 4 3,qT 25 5 24,qS 5 4 25,qB 5 true] [4,5]) .ret)))
theorem K.lG:dU pZ 66 2 0 C.lG [.cell 4 true 5,.tmp 5]=true:=by kernel_rfl
def C.iT:aP:=(.seq (.reg [ qX 4 10 0,qX 5 11 1,qX 6 12 2,zA 8 (.alloc 13 [.fU 7,je 0]),zA 9 (.alloc 14 [je 0,.c (.str []),je 0,je 0,je 0,.c (.str []),.fU 1,.fU 5])] [3,4,5,6,8,9]) (.seq (.reg [ qT 15 5 6,qT 16 10 5,q2 17 66 15 16,zM 14 17,qE 18 14 0,qE 19 14 1,qZ 10 15,qS 5 10 18,zM 11 19] [3,4,5,8,9,10,11]) (.seq (.seq (.reg [ zM 20 11,qO 21 20] [3,4,5,8,9,10,21]) (.cond (.t 21) (.seq (.reg [ qT 22 2 4,q1 23 31 22,zA 24 (.build [je 0,.c (.str []),je 0,je 0,je 0,.c (.str []),.fU 1,.fU 5] [(0,1,kI 422)]),qS 2 8 23,qS 8 9 24] [8,9]) .ret) .skip)) (.seq (.reg [ qT 26 2 4,qA 27 1 5,qF 28 1 27,qT 29 5 10,q3 30 13 26 28 29,zM 25 30,qE 31 25 0,qE 32 25 1,zA 12 (.alloc 16 [.fU 7,je 0]),qS 2 12 31,zM 11 32] [3,4,8,9,10,11,12]) (.seq (.seq (.reg [ zM 33 11,qO 34 33] [3,4,8,9,10,12,34]) (.cond (.t 34) (.seq (.reg [ qT 35 2 4,q1 36 31 35,zA 37 (.build [je 0,.c (.str []),je 0,je 0,je 0,.c (.str []),.fU 1,.fU 5] [(0,1,kI 422)]),qS 2 8 36,qS 8 9 37] [8,9]) .ret) .skip)) (.seq (.kC [ (qT 38 5 10,[]),(q1 39 34 38,[0]),(qA 40 1 12,[]),(qF 41 1 40,[2]),(zA 42 (.build [je 0,.c (.str []),je 0,je 0,je 0,.c (.str []),.fU 1,.fU 5] [(0,1,kI 200),(1,1,.t 39),(2,1,.t 41)]),[0,1,2,3]),(zA 13 (.alloc 17 [je 0,.c (.str []),je 0,je 0,je 0,.c (.str []),.fU 1,.fU 5]),[]),(qS 8 13 42,[0,1,2,3,4,5])] [3,8,9,12,13]) (.seq (.seq (.reg [ zM 43 3,qO 44 43] [8,9,12,13,44]) (.cond (.t 44) (.reg [ qA 45 0 13,zS (.store false 1 (.t 45) (kI 201))] [8,9,12,13]) .skip)) (.seq (.kC [ (qT 46 2 12,[]),(qT 47 8 13,[]),(qS 2 8 46,[0]),(qS 8 9 47,[0,1,2])] [8,9]) .ret))))))))
theorem K.iT:dU pZ 37 4 0 C.iT [.cell 8 true 2,.cell 9 true 8]=true:=by kernel_rfl
def C.kz:aP:=(.seq (.reg [ qX 1 10 0,qB 2 false] [1]) (.seq (.reg [ qA 3 0 1,qF 4 1 3,zA 5 (.bin .geq (.t 4) (kI 1)),zM 6 5,zG 6 true 7 (.fZ 0 (.t 1)),zG 6 true 8 (.load false 1 (.t 7)),zG 6 true 9 (.bin .leq (.t 8) (kI 5)),qP 10 6 9,zM 11 10,zG 11 true 12 (.fZ 1 (.t 1)),zG 11 true 13 (.load false 1 (.t 12)),⟨(some (11,true)),some 14,.call 29 [.t 13]⟩,qP 15 11 14,zM 16 15,zG 16 true 17 (.fZ 2 (.t 1)),zG 16 true 18 (.load false 1 (.t 17)),⟨(some (16,true)),some 19,.call 52 [.t 18]⟩,qP 20 16 19,zM 21 20,zG 21 true 22 (.fZ 3 (.t 1)),zG 21 true 23 (.load false 1 (.t 22)),⟨(some (21,true)),some 24,.call 52 [.t 23]⟩,qP 25 21 24,zM 26 25,zG 26 true 27 (.fZ 4 (.t 1)),zG 26 true 28 (.load true 5 (.t 27)),⟨(some (26,true)),some 29,.call 30 [.t 28]⟩,qP 30 26 29,zM 31 30,zG 31 true 32 (.fZ 9 (.t 1)),zG 31 true 33 (.load false 1 (.t 32)),⟨(some (31,true)),some 34,.call 53 [.t 33]⟩,qP 35 31 34,zM 2 35] [2]) .ret))
theorem K.kz:dU pZ 27 1 0 C.kz [.tmp 2]=true:=by kernel_rfl
def C.bz:aP:=(.seq (.reg [ qX 2 10 0,qX 3 11 1,zA 4 (.alloc 12 [.fU 7,je 0]),zA 5 (.alloc 13 [je 0,.c (.str []),je 0,je 0,je 0,.c (.str []),.fU 1,.fU 5])] [2,3,4,5]) (.seq (.seq (.reg [ qT 10 2 2,q1 11 24 10,qO 12 11,zM 13 12,zG 13 false 14 (.load true 10 (.t 3)),⟨(some (13,false)),some 15,.call 27 [.t 14]⟩,zG 13 false 16 (.not (.t 15)),qQ 17 13 16] [2,3,4,5,17]) (.cond (.t 17) (.seq (.reg [ zA 18 (.build [.fU 7,je 0] []),zA 19 (.build [je 0,.c (.str []),je 0,je 0,je 0,.c (.str []),.fU 1,.fU 5] [(0,1,kI 400)]),qS 2 4 18,qS 8 5 19] [4,5]) .ret) .skip)) (.seq (.reg [ qT 21 2 2,qA 22 1 3,qF 23 1 22,q2 24 20 21 23,zM 20 24,qE 25 20 0,qE 26 20 1,zA 6 (.alloc 14 [.c (.str []),je 0,je 0,je 0,.c (.str []),.fU 1,.fU 5]),qS 7 6 25,zM 7 26] [2,3,4,5,6,7]) (.seq (.seq (.reg [ zM 27 7,qO 28 27,zM 29 28,zG 29 true 30 (.fZ 0 (.t 3)),zG 29 true 31 (.load false 1 (.t 30)),zG 29 true 32 (.bin .neq (.t 31) (kI 2)),qP 33 29 32] [2,3,4,5,6,7,33]) (.cond (.t 33) (.seq (.reg [ qT 34 2 2,q1 35 31 34,zA 36 (.build [je 0,.c (.str []),je 0,je 0,je 0,.c (.str []),.fU 1,.fU 5] [(0,1,kI 404)]),qS 2 4 35,qS 8 5 36] [4,5]) .ret) .skip)) (.seq (.reg [ zA 8 (.mv (.k (.c (.str []))))] [2,3,4,5,6,7,8]) (.cut (.seq (.reg [ zM 37 7] [2,3,4,5,6,7,8,37]) (.cond (.t 37) (.reg [ qA 38 2 6,qT 39 5 38,q1 40 34 39,zM 8 40] [2,3,4,5,6,7,8]) .skip)) (.seq (.reg [ qA 41 2 3,qF 42 1 41,qA 43 3 3,qF 44 1 43,zM 45 8,qA 46 0 3,qF 47 1 46,zA 48 (.bin .eql (.t 47) (kI 1)),⟨none,some 49,.call 35 [.t 42,.t 44,.t 45,.t 48]⟩,zM 9 49] [2,3,4,5,6,7,8,9]) (.seq (.seq (.reg [ zM 50 9,zA 51 (.bin .neq (.t 50) (kI 200))] [2,3,4,5,6,7,8,9,51]) (.cond (.t 51) (.seq (.reg [ qT 52 2 2,q1 53 31 52,zM 54 9,zA 55 (.build [je 0,.c (.str []),je 0,je 0,je 0,.c (.str []),.fU 1,.fU 5] [(0,1,.t 54)]),qS 2 4 53,qS 8 5 55] [4,5]) .ret) .skip)) (.seq (.seq (.reg [ qA 56 0 3,qF 57 1 56] [2,3,4,5,6,7,8,57]) (.block 0 (.seq (.reg [ zA 59 (.bin .eql (.t 57) (kI 1)),zM 58 59] [2,3,4,5,6,7,8,57,58]) (.cond (.t 58) (.seq (.kC [ (qT 60 2 2,[]),(q1 61 31 60,[0]),(zM 62 8,[]),(qA 63 1 6,[]),(qF 64 1 63,[3]),(qA 65 2 6,[]),(qT 66 5 65,[5]),(zA 67 (.build [je 0,.c (.str []),je 0,je 0,je 0,.c (.str []),.fU 1,.fU 5] [(0,1,kI 200),(1,1,.t 62),(2,1,.t 64),(3,5,.t 66)]),[2,3,4,5,6]),(qS 2 4 61,[0,1]),(qS 8 5 67,[0,1,2,3,4,5,6,7,8])] [4,5]) .ret) (.seq (.reg [ zA 69 (.bin .eql (.t 57) (kI 3)),zM 68 69] [2,3,4,5,6,7,68]) (.cond (.t 68) (.seq (.reg [ qT 70 2 2,qT 71 10 3,q2 72 36 70 71,qE 73 72 0,qE 74 72 1,qS 2 4 73,qS 8 5 74] [4,5]) .ret) .skip)))))) (.seq (.reg [ qT 75 2 2,qT 76 10 3,qA 77 2 6,qT 78 5 77,zM 79 7,⟨none,some 80,.call 37 [.t 75,.t 76,.t 78,.t 79]⟩,qE 81 80 0,qE 82 80 1,qS 2 4 81,qS 8 5 82] [4,5]) .ret))))))))))
theorem K.bz:dU pZ 15 2 0 C.bz [.cell 4 true 2,.cell 5 true 8]=true:=by kernel_rfl
def C.YT:aP:=(.seq (.reg [ qB 2 false] [0]) (.seq (.reg [ zM 3 0,zA 4 (.bin .eql (.t 3) (kI 200)),zM 5 4,zG 5 false 6 (.mv (.t 0)),zG 5 false 7 (.bin .eql (.t 6) (kI 201)),qQ 8 5 7,zM 2 8] [2]) .ret))
theorem K.YT:dU pZ 39 1 0 C.YT [.tmp 2]=true:=by kernel_rfl
def C.YP:aP:=(.seq (.reg [ qX 2 10 0,qX 3 11 1,qB 4 false] [2,3]) (.seq (.reg [ qT 8 2 2,qT 9 10 3,q2 10 15 8 9,zM 7 10,qE 11 7 0,qE 12 7 1,zA 5 (.alloc 12 [.fU 7,je 0]),zA 6 (.alloc 13 [je 0,.c (.str []),je 0,je 0,je 0,.c (.str []),.fU 1,.fU 5]),qS 2 5 11,qS 8 6 12] [6]) (.seq (.reg [ qA 13 0 6,qF 14 1 13,q1 15 39 14,zM 4 15] [4]) .ret)))
theorem K.YP:dU pZ 18 2 0 C.YP [.tmp 4]=true:=by kernel_rfl
def C.eu:aP:=(.seq (.reg [ qB 4 false] [0,1]) (.seq (.seq (.reg [ zM 6 0,qL 7 6,zM 8 1,qL 9 8,zA 10 (.bin .neq (.t 7) (.t 9))] [0,1,10]) (.cond (.t 10) (.seq (.reg [ qB 4 false] [4]) .ret) .skip)) (.seq (.seq (.reg [ qI 5 0] [0,1,5]) (.block 0 (.loop (.seq (.seq (.reg [ zM 11 5,zM 12 0,qL 13 12,zA 14 (.bin .lss (.t 11) (.t 13))] [0,1,5,14]) (.cond (.t 14) .skip (.exit 0))) (.seq (.block 1 (.seq (.kC [ (zM 17 0,[]),(zM 18 5,[]),(qD 19 1 17 18,[0,1]),(qF 20 1 19,[0,1,2]),(zM 21 1,[]),(zM 22 5,[]),(qD 23 1 21 22,[4,5]),(qF 24 1 23,[4,5,6]),(zA 25 (.bin .neq (.t 20) (.t 24)),[0,1,2,3,4,5,6,7])] [0,1,5,25]) (.cond (.t 25) (.seq (.reg [ qB 4 false] [4]) .ret) .skip))) (.reg [ zM 15 5,zA 16 (.bin .add (.t 15) (kI 1)),zM 5 16] [0,1,5])))))) (.seq (.reg [ qB 4 true] [4]) .ret))))
theorem K.eu:dU pZ 80 2 0 C.eu [.tmp 4]=true:=by kernel_rfl
def C.gU:aP:=(.seq (.reg [ qX 2 10 0,qX 3 11 1,qB 4 false] [2,3]) (.seq (.reg [ qA 5 0 2,qF 6 1 5,qA 7 0 3,qF 8 1 7,zA 9 (.bin .eql (.t 6) (.t 8)),zM 10 9,zG 10 true 11 (.fZ 1 (.t 2)),zG 10 true 12 (.load false 1 (.t 11)),zG 10 true 13 (.fZ 1 (.t 3)),zG 10 true 14 (.load false 1 (.t 13)),zG 10 true 15 (.bin .eql (.t 12) (.t 14)),qP 16 10 15,zM 17 16,zG 17 true 18 (.fZ 2 (.t 2)),zG 17 true 19 (.load false 1 (.t 18)),zG 17 true 20 (.fZ 2 (.t 3)),zG 17 true 21 (.load false 1 (.t 20)),zG 17 true 22 (.bin .eql (.t 19) (.t 21)),qP 23 17 22,zM 24 23,zG 24 true 25 (.fZ 3 (.t 2)),zG 24 true 26 (.load false 1 (.t 25)),zG 24 true 27 (.fZ 3 (.t 3)),zG 24 true 28 (.load false 1 (.t 27)),⟨(some (24,true)),some 29,.call 80 [.t 26,.t 28]⟩,qP 30 24 29,zM 31 30,zG 31 true 32 (.fZ 4 (.t 2)),zG 31 true 33 (.load false 1 (.t 32)),zG 31 true 34 (.fZ 4 (.t 3)),zG 31 true 35 (.load false 1 (.t 34)),⟨(some (31,true)),some 36,.call 81 [.t 33,.t 35]⟩,qP 37 31 36,zM 4 37] [4]) .ret))
theorem K.gU:dU pZ 46 2 0 C.gU [.tmp 4]=true:=by kernel_rfl
def C.fQ:aP:=(.seq (.reg [ qB 4 false] [0,1]) (.seq (.seq (.reg [ zM 6 0,qL 7 6,zM 8 1,qL 9 8,zA 10 (.bin .neq (.t 7) (.t 9))] [0,1,10]) (.cond (.t 10) (.seq (.reg [ qB 4 false] [4]) .ret) .skip)) (.seq (.seq (.reg [ qI 5 0] [0,1,5]) (.block 0 (.loop (.seq (.seq (.reg [ zM 11 5,zM 12 0,qL 13 12,zA 14 (.bin .lss (.t 11) (.t 13))] [0,1,5,14]) (.cond (.t 14) .skip (.exit 0))) (.seq (.block 1 (.seq (.kC [ (zM 17 0,[]),(zM 18 5,[]),(qD 19 5 17 18,[0,1]),(qT 20 5 19,[0,1,2]),(zM 21 1,[]),(zM 22 5,[]),(qD 23 5 21 22,[4,5]),(qT 24 5 23,[4,5,6]),(q2 25 46 20 24,[0,1,2,3,4,5,6,7]),(qO 26 25,[0,1,2,3,4,5,6,7,8])] [0,1,5,26]) (.cond (.t 26) (.seq (.reg [ qB 4 false] [4]) .ret) .skip))) (.reg [ zM 15 5,zA 16 (.bin .add (.t 15) (kI 1)),zM 5 16] [0,1,5])))))) (.seq (.reg [ qB 4 true] [4]) .ret))))
theorem K.fQ:dU pZ 81 2 0 C.fQ [.tmp 4]=true:=by kernel_rfl
def C.iF:aP:=(.seq (.reg [ qX 2 10 0,qX 3 11 1,qB 4 false] [2,3]) (.seq (.reg [ qA 5 0 2,qF 6 1 5,qA 7 0 3,qF 8 1 7,zA 9 (.bin .eql (.t 6) (.t 8)),zM 10 9,zG 10 true 11 (.fZ 1 (.t 2)),zG 10 true 12 (.load false 1 (.t 11)),zG 10 true 13 (.fZ 1 (.t 3)),zG 10 true 14 (.load false 1 (.t 13)),zG 10 true 15 (.bin .eql (.t 12) (.t 14)),qP 16 10 15,zM 17 16,zG 17 true 18 (.fZ 2 (.t 2)),zG 17 true 19 (.load false 1 (.t 18)),zG 17 true 20 (.fZ 2 (.t 3)),zG 17 true 21 (.load false 1 (.t 20)),zG 17 true 22 (.bin .eql (.t 19) (.t 21)),qP 23 17 22,zM 24 23,zG 24 true 25 (.fZ 3 (.t 2)),zG 24 true 26 (.load true 5 (.t 25)),zG 24 true 27 (.fZ 3 (.t 3)),zG 24 true 28 (.load true 5 (.t 27)),⟨(some (24,true)),some 29,.call 46 [.t 26,.t 28]⟩,qP 30 24 29,zM 4 30] [4]) .ret))
theorem K.iF:dU pZ 23 2 0 C.iF [.tmp 4]=true:=by kernel_rfl
def C.gI:aP:=(.seq (.reg [ qB 4 false] [0,1]) (.seq (.seq (.reg [ zM 6 0,qL 7 6,zM 8 1,qL 9 8,zA 10 (.bin .neq (.t 7) (.t 9))] [0,1,10]) (.cond (.t 10) (.seq (.reg [ qB 4 false] [4]) .ret) .skip)) (.seq (.seq (.reg [ qI 5 0] [0,1,5]) (.block 0 (.loop (.seq (.seq (.reg [ zM 11 5,zM 12 0,qL 13 12,zA 14 (.bin .lss (.t 11) (.t 13))] [0,1,5,14]) (.cond (.t 14) .skip (.exit 0))) (.seq (.block 1 (.seq (.kC [ (zM 17 0,[]),(zM 18 5,[]),(qD 19 7 17 18,[0,1]),(qA 20 0 19,[0,1,2]),(qF 21 1 20,[0,1,2,3]),(zM 22 1,[]),(zM 23 5,[]),(qD 24 7 22 23,[5,6]),(qA 25 0 24,[5,6,7]),(qF 26 1 25,[5,6,7,8]),(zA 27 (.bin .neq (.t 21) (.t 26)),[0,1,2,3,4,5,6,7,8,9]),(zM 28 27,[0,1,2,3,4,5,6,7,8,9,10]),(zG 28 false 29 (.mv (.t 0)),[0,1,2,3,4,5,6,7,8,9,10,11]),(zG 28 false 30 (.mv (.t 5)),[0,1,2,3,4,5,6,7,8,9,10,11]),(zG 28 false 31 (.nZ 7 (.t 29) (.t 30)),[0,1,2,3,4,5,6,7,8,9,10,11,12,13]),(zG 28 false 32 (.fZ 1 (.t 31)),[0,1,2,3,4,5,6,7,8,9,10,11,12,13,14]),(zG 28 false 33 (.load false 1 (.t 32)),[0,1,2,3,4,5,6,7,8,9,10,11,12,13,14,15]),(zG 28 false 34 (.mv (.t 1)),[0,1,2,3,4,5,6,7,8,9,10,11]),(zG 28 false 35 (.mv (.t 5)),[0,1,2,3,4,5,6,7,8,9,10,11]),(zG 28 false 36 (.nZ 7 (.t 34) (.t 35)),[0,1,2,3,4,5,6,7,8,9,10,11,17,18]),(zG 28 false 37 (.fZ 1 (.t 36)),[0,1,2,3,4,5,6,7,8,9,10,11,17,18,19]),(zG 28 false 38 (.load false 1 (.t 37)),[0,1,2,3,4,5,6,7,8,9,10,11,17,18,19,20]),(zG 28 false 39 (.bin .neq (.t 33) (.t 38)),[0,1,2,3,4,5,6,7,8,9,10,11,12,13,14,15,16,17,18,19,20,21]),(qQ 40 28 39,[0,1,2,3,4,5,6,7,8,9,10,11,12,13,14,15,16,17,18,19,20,21,22]),(zM 41 40,[0,1,2,3,4,5,6,7,8,9,10,11,12,13,14,15,16,17,18,19,20,21,22,23]),(zG 41 false 42 (.mv (.t 0)),[0,1,2,3,4,5,6,7,8,9,10,11,12,13,14,15,16,17,18,19,20,21,22,23,24]),(zG 41 false 43 (.mv (.t 5)),[0,1,2,3,4,5,6,7,8,9,10,11,12,13,14,15,16,17,18,19,20,21,22,23,24]),(zG 41 false 44 (.nZ 7 (.t 42) (.t 43)),[0,1,2,3,4,5,6,7,8,9,10,11,12,13,14,15,16,17,18,19,20,21,22,23,24,25,26]),(zG 41 false 45 (.fZ 2 (.t 44)),[0,1,2,3,4,5,6,7,8,9,10,11,12,13,14,15,16,17,18,19,20,21,22,23,24,25,26,27]),(zG 41 false 46 (.load true 5 (.t 45)),[0,1,2,3,4,5,6,7,8,9,10,11,12,13,14,15,16,17,18,19,20,21,22,23,24,25,26,27,28]),(zG 41 false 47 (.mv (.t 1)),[0,1,2,3,4,5,6,7,8,9,10,11,12,13,14,15,16,17,18,19,20,21,22,23,24]),(zG 41 false 48 (.mv (.t 5)),[0,1,2,3,4,5,6,7,8,9,10,11,12,13,14,15,16,17,18,19,20,21,22,23,24]),(zG 41 false 49 (.nZ 7 (.t 47) (.t 48)),[0,1,2,3,4,5,6,7,8,9,10,11,12,13,14,15,16,17,18,19,20,21,22,23,24,30,31]),(zG 41 false 50 (.fZ 2 (.t 49)),[0,1,2,3,4,5,6,7,8,9,10,11,12,13,14,15,16,17,18,19,20,21,22,23,24,30,31,32]),(zG 41 false 51 (.load true 5 (.t 50)),[0,1,2,3,4,5,6,7,8,9,10,11,12,13,14,15,16,17,18,19,20,21,22,23,24,30,31,32,33]),(⟨(some (41,false)),some 52,.call 46 [.t 46,.t 51]⟩,[0,1,2,3,4,5,6,7,8,9,10,11,12,13,14,15,16,17,18,19,20,21,22,23,24,25,26,27,28,29,30,31,32,33,34]),(zG 41 false 53 (.not (.t 52)),[0,1,2,3,4,5,6,7,8,9,10,11,12,13,14,15,16,17,18,19,20,21,22,23,24,25,26,27,28,29,30,31,32,33,34,35]),(qQ 54 41 53,[0,1,2,3,4,5,6,7,8,9,10,11,12,13,14,15,16,17,18,19,20,21,22,23,24,25,26,27,28,29,30,31,32,33,34,35,36])] [0,1,5,54]) (.cond (.t 54) (.seq (.reg [ qB 4 false] [4]) .ret) .skip))) (.reg [ zM 15 5,zA 16 (.bin .add (.t 15) (kI 1)),zM 5 16] [0,1,5])))))) (.seq (.reg [ qB 4 true] [4]) .ret))))
theorem K.gI:dU pZ 38 2 0 C.gI [.tmp 4]=true:=by kernel_rfl
def C.iy:aP:=(.seq (.reg [ qX 2 10 0,qX 3 11 1,qB 4 false] [2,3]) (.seq (.reg [ qA 5 1 2,qF 6 1 5,qA 7 1 3,qF 8 1 7,zA 9 (.bin .eql (.t 6) (.t 8)),zM 10 9,zG 10 true 11 (.fZ 0 (.t 2)),zG 10 true 12 (.load false 1 (.t 11)),zG 10 true 13 (.fZ 0 (.t 3)),zG 10 true 14 (.load false 1 (.t 13)),⟨(some (10,true)),some 15,.call 38 [.t 12,.t 14]⟩,qP 16 10 15,zM 4 16] [4]) .ret))
theorem K.iy:dU pZ 16 2 0 C.iy [.tmp 4]=true:=by kernel_rfl
def C.au:aP:=(.seq (.reg [ qX 1 10 0,qZ 2 11] [1,2]) (.seq (.reg [ zA 5 (.dP 12 5 0 [.lit (.int .i64 0),.lit (.int .i64 0),.str [],.sl 1 [],.sl 5 []] []),zM 3 5] [1,2,3]) (.seq (.seq (.reg [ qI 4 0] [1,2,3,4]) (.block 0 (.loop (.seq (.seq (.reg [ zM 6 4,qA 7 4 1,qF 8 1 7,qL 9 8,zA 10 (.bin .lss (.t 6) (.t 9))] [1,2,3,4,10]) (.cond (.t 10) .skip (.exit 0))) (.seq (.block 1 (.reg [ zM 13 3,qA 14 4 1,qF 15 1 14,zM 16 4,qD 17 5 15 16,qT 18 5 17,q1 19 71 18,zA 20 (.dP 13 5 1 [.lit (.int .i64 0),.lit (.int .i64 0),.str [],.sl 1 [],.sl 5 []] [(0,.t 19)]),zA 21 (.append 14 5 80 (.t 13) (.t 20)),zM 3 21] [1,2,3,4])) (.reg [ zM 11 4,zA 12 (.bin .add (.t 11) (kI 1)),zM 4 12] [1,2,3,4])))))) (.seq (.kC [ (qA 22 0 1,[]),(qF 23 1 22,[0]),(qA 24 1 1,[]),(qF 25 1 24,[2]),(qA 26 2 1,[]),(qF 27 1 26,[4]),(zA 28 (.dP 15 1 0 [.str []] []),[]),(qA 29 3 1,[]),(qF 30 1 29,[7]),(zA 31 (.append 16 1 16 (.t 28) (.t 30)),[6,7,8]),(zM 32 3,[]),(zA 33 (.build zN [(0,1,.t 23),(1,1,.t 25),(2,1,.t 27),(3,1,.t 31),(4,1,.t 32)]),[0,1,2,3,4,5,6,7,8,9,10]),(qS 5 2 33,[0,1,2,3,4,5,6,7,8,9,10,11])] [2]) .ret))))
theorem K.au:dU pZ 71 1 0 C.au [.cell 2 true 5]=true:=by kernel_rfl
def C.ay:aP:=(.seq (.reg [ qI 4 0] [0,1]) (.seq (.reg [ zM 7 0,zM 8 0,qN 9 8,qA 10 1 9,qF 11 1 10,zA 12 (.bin .add (.t 11) (kI 1)),qN 13 7,qA 14 1 13,qU 1 14 12] [0,1]) (.seq (.seq (.reg [ zM 15 1,zA 16 (.bin .lss (.t 15) (kI 1)),zM 17 16,zG 17 false 18 (.mv (.t 0)),zG 17 false 19 (.Fp (.t 18)),zG 17 false 20 (.fZ 0 (.t 19)),zG 17 false 21 (.load false 1 (.t 20)),zG 17 false 22 (.len (.t 21)),zG 17 false 23 (.bin .eql (.t 22) (kI 0)),qQ 24 17 23] [0,1,24]) (.cond (.t 24) (.seq (.reg [ qI 4 0] [4]) .ret) .skip)) (.seq (.reg [ zM 25 0,qN 26 25,qA 27 1 26,qF 28 1 27,zA 29 (.bin .sub (.t 28) (kI 1)),zM 5 29] [0,1,5]) (.seq (.seq (.reg [ zM 30 5,zM 31 0,qN 32 31,qA 33 0 32,qF 34 1 33,qL 35 34,zA 36 (.bin .lss (.t 30) (.t 35))] [0,1,5,36]) (.cond (.t 36) (.seq (.reg [ zM 37 0,qN 38 37,qA 39 0 38,qF 40 1 39,zM 41 5,qD 42 1 40 41,qF 43 1 42,zA 44 (.vX .i64 (.t 43)),zM 45 1,zA 46 (.bin .rem (.t 44) (.t 45)),zM 4 46] [4]) .ret) .skip)) (.seq (.kC [ (zM 47 0,[]),(qN 48 47,[0]),(qA 49 0 48,[0,1]),(qF 50 1 49,[0,1,2]),(zM 51 5,[]),(zM 52 0,[]),(qN 53 52,[5]),(qA 54 0 53,[5,6]),(qF 55 1 54,[5,6,7]),(qL 56 55,[5,6,7,8]),(zA 57 (.bin .rem (.t 51) (.t 56)),[4,5,6,7,8,9]),(qD 58 1 50 57,[0,1,2,3,4,5,6,7,8,9,10]),(qF 59 1 58,[0,1,2,3,4,5,6,7,8,9,10,11]),(zA 60 (.vX .i64 (.t 59)),[0,1,2,3,4,5,6,7,8,9,10,11,12]),(zA 61 (.bin .mul (.t 60) (kI 131)),[0,1,2,3,4,5,6,7,8,9,10,11,12,13]),(zM 62 0,[]),(qN 63 62,[15]),(qA 64 0 63,[15,16]),(qF 65 1 64,[15,16,17]),(zM 66 5,[]),(zA 67 (.bin .mul (.t 66) (kI 7)),[19]),(zA 68 (.bin .add (.t 67) (kI 3)),[19,20]),(zM 69 0,[]),(qN 70 69,[22]),(qA 71 0 70,[22,23]),(qF 72 1 71,[22,23,24]),(qL 73 72,[22,23,24,25]),(zA 74 (.bin .rem (.t 68) (.t 73)),[19,20,21,22,23,24,25,26]),(qD 75 1 65 74,[15,16,17,18,19,20,21,22,23,24,25,26,27]),(qF 76 1 75,[15,16,17,18,19,20,21,22,23,24,25,26,27,28]),(zA 77 (.vX .i64 (.t 76)),[15,16,17,18,19,20,21,22,23,24,25,26,27,28,29]),(zA 78 (.bin .mul (.t 77) (kI 1117)),[15,16,17,18,19,20,21,22,23,24,25,26,27,28,29,30]),(zA 79 (.bin .add (.t 61) (.t 78)),[0,1,2,3,4,5,6,7,8,9,10,11,12,13,14,15,16,17,18,19,20,21,22,23,24,25,26,27,28,29,30,31]),(zM 80 5,[]),(zA 81 (.bin .mul (.t 80) (kI 29)),[33]),(zA 82 (.bin .add (.t 79) (.t 81)),[0,1,2,3,4,5,6,7,8,9,10,11,12,13,14,15,16,17,18,19,20,21,22,23,24,25,26,27,28,29,30,31,32,33,34]),(zM 83 5,[]),(zM 84 0,[]),(qN 85 84,[37]),(qA 86 0 85,[37,38]),(qF 87 1 86,[37,38,39]),(qL 88 87,[37,38,39,40]),(zA 89 (.bin .quo (.t 83) (.t 88)),[36,37,38,39,40,41]),(zA 90 (.bin .mul (.t 89) (kI 53)),[36,37,38,39,40,41,42]),(zA 91 (.bin .add (.t 82) (.t 90)),[0,1,2,3,4,5,6,7,8,9,10,11,12,13,14,15,16,17,18,19,20,21,22,23,24,25,26,27,28,29,30,31,32,33,34,35,36,37,38,39,40,41,42,43]),(zM 6 91,[0,1,2,3,4,5,6,7,8,9,10,11,12,13,14,15,16,17,18,19,20,21,22,23,24,25,26,27,28,29,30,31,32,33,34,35,36,37,38,39,40,41,42,43,44])] [1,6]) (.seq (.reg [ zM 92 6,zM 93 6,zA 94 (.bin .quo (.t 93) (kI 64)),zA 95 (.bin .xor (.t 92) (.t 94)),zM 6 95] [1,6]) (.seq (.reg [ zM 96 6,zM 97 1,zA 98 (.bin .rem (.t 96) (.t 97)),zM 4 98] [4]) .ret))))))))
theorem K.ay:dU pZ 48 2 1 C.ay [.tmp 4]=true:=by kernel_rfl
def C.bZ:aP:=(.seq (.reg [ qI 4 0] [0,1]) (.seq (.reg [ zM 5 1,zM 6 0,zM 7 1,qL 8 7,q2 9 48 6 8,qD 10 1 5 9,qF 11 1 10,zM 4 11] [4]) .ret))
theorem K.bZ:dU pZ 49 2 1 C.bZ [.tmp 4]=true:=by kernel_rfl
def C.gB:aP:=(.seq (.reg [ zA 2 (.mv (.k (.c (.str []))))] [0]) (.seq (.seq (.reg [ zM 3 0,zA 4 (.bin .lss (.t 3) (kI 0)),zM 5 4,zG 5 true 6 (.mv (.t 0)),zG 5 true 7 (.mv (.t 0)),zG 5 true 8 (.neg (.t 7)),zG 5 true 9 (.bin .eql (.t 6) (.t 8)),qP 10 5 9] [0,10]) (.cond (.t 10) (.seq (.reg [ zA 2 (.mv (.k (.c (.str [45,57,50,50,51,51,55,50,48,51,54,56,53,52,55,55,53,56,48,56]))))] [2]) .ret) .skip)) (.seq (.seq (.reg [ zM 11 0,zA 12 (.bin .lss (.t 11) (kI 0))] [0,12]) (.cond (.t 12) (.seq (.reg [ zM 13 0,zA 14 (.neg (.t 13)),q1 15 142 14,zA 16 (.bin .add (.k (.c (.str [45]))) (.t 15)),zM 2 16] [2]) .ret) .skip)) (.seq (.seq (.reg [ zM 17 0,zA 18 (.bin .lss (.t 17) (kI 10))] [0,18]) (.cond (.t 18) (.seq (.reg [ zM 19 0,zA 20 (.bin .add (kI 48) (.t 19)),zA 21 (.vX .u8 (.t 20)),zA 22 (.dP 10 1 1 [.lit (.int .u8 0)] [(0,.t 21)]),zA 23 (.Gm (.t 22)),zM 2 23] [2]) .ret) .skip)) (.seq (.kC [ (zM 24 0,[]),(zA 25 (.bin .quo (.t 24) (kI 10)),[0]),(q1 26 142 25,[0,1]),(zM 27 0,[]),(zA 28 (.bin .rem (.t 27) (kI 10)),[3]),(zA 29 (.bin .add (kI 48) (.t 28)),[3,4]),(zA 30 (.vX .u8 (.t 29)),[3,4,5]),(zA 31 (.dP 11 1 1 [.lit (.int .u8 0)] [(0,.t 30)]),[3,4,5,6]),(zA 32 (.Gm (.t 31)),[3,4,5,6,7]),(zA 33 (.bin .add (.t 26) (.t 32)),[0,1,2,3,4,5,6,7,8]),(zM 2 33,[0,1,2,3,4,5,6,7,8,9])] [2]) .ret)))))
theorem K.gB:dU pZ 142 1 0 C.gB [.tmp 2]=true:=by kernel_rfl
def C.dD:aP:=(.seq (.reg [ qX 2 10 0,qI 4 0] [1,2]) (.seq (.seq (.reg [ qI 5 0] [1,2,5]) (.block 0 (.loop (.seq (.seq (.reg [ zM 6 5,qA 7 4 2,qF 8 1 7,qL 9 8,zA 10 (.bin .lss (.t 6) (.t 9))] [1,2,5,10]) (.cond (.t 10) .skip (.exit 0))) (.seq (.block 1 (.seq (.reg [ qA 13 0 2,qF 14 1 13,zA 15 (.bin .eql (.t 14) (kI 4)),zM 16 15,zG 16 true 17 (.fZ 3 (.t 2)),zG 16 true 18 (.load false 1 (.t 17)),zG 16 true 19 (.mv (.t 5)),zG 16 true 20 (.nZ 1 (.t 18) (.t 19)),zG 16 true 21 (.load false 1 (.t 20)),zG 16 true 22 (.mv (.t 1)),zG 16 true 23 (.bin .eql (.t 21) (.t 22)),qP 24 16 23,zM 25 24,zG 25 false 26 (.fZ 0 (.t 2)),zG 25 false 27 (.load false 1 (.t 26)),zG 25 false 28 (.bin .eql (.t 27) (kI 3)),zG 25 false 29 (.mv (.t 28)),zG 29 true 30 (.mv (.t 5)),⟨(some (29,true)),some 31,.call 142 [.t 30]⟩,zG 29 true 32 (.mv (.t 1)),zG 29 true 33 (.bin .eql (.t 31) (.t 32)),zG 25 false 34 (.pick (.t 29) (.t 33) (kB false)),qQ 35 25 34] [1,2,5,35]) (.cond (.t 35) (.seq (.reg [ zM 36 5,zM 4 36] [4]) .ret) .skip))) (.reg [ zM 11 5,zA 12 (.bin .add (.t 11) (kI 1)),zM 5 12] [1,2,5])))))) (.seq (.reg [ qI 4 (-1)] [4]) .ret)))
theorem K.dD:dU pZ 145 2 0 C.dD [.tmp 4]=true:=by kernel_rfl
def C.ig:aP:=(.seq (.reg [ qX 2 10 0,qI 4 0,qB 5 false] [1,2]) (.seq (.reg [ qT 8 5 2,zM 9 1,q2 10 145 8 9,zM 6 10] [1,2,6]) (.seq (.seq (.reg [ zM 11 6,zA 12 (.bin .geq (.t 11) (kI 0))] [1,2,6,12]) (.cond (.t 12) (.seq (.kC [ (zM 13 6,[]),(qA 14 0 2,[]),(qF 15 1 14,[1]),(zA 16 (.bin .eql (.t 15) (kI 4)),[1,2]),(zM 4 13,[0]),(zM 5 16,[0,1,2,3,4])] [4,5]) .ret) .skip)) (.seq (.seq (.reg [ qA 17 0 2,qF 18 1 17,zA 19 (.bin .eql (.t 18) (kI 3)),zM 20 19,zG 20 true 21 (.mv (.t 1)),zG 20 true 22 (.bin .eql (.t 21) (.k (.c (.str [45])))),zG 20 true 23 (.mv (.t 22)),zG 23 false 24 (.mv (.t 1)),zG 23 false 25 (.fZ 4 (.t 2)),zG 23 false 26 (.load false 1 (.t 25)),zG 23 false 27 (.len (.t 26)),⟨(some (23,false)),some 28,.call 142 [.t 27]⟩,zG 23 false 29 (.bin .eql (.t 24) (.t 28)),zG 20 true 30 (.pick (.t 23) (kB true) (.t 29)),qP 31 20 30] [1,2,31]) (.cond (.t 31) (.seq (.reg [ qA 32 4 2,qF 33 1 32,qL 34 33,zM 4 34,qB 5 false] [4,5]) .ret) .skip)) (.seq (.seq (.reg [ qI 7 0] [1,2,7]) (.block 0 (.loop (.seq (.seq (.reg [ qA 35 0 2,qF 36 1 35,zA 37 (.bin .eql (.t 36) (kI 4)),zM 38 37,zG 38 true 39 (.mv (.t 7)),zG 38 true 40 (.fZ 4 (.t 2)),zG 38 true 41 (.load false 1 (.t 40)),zG 38 true 42 (.len (.t 41)),zG 38 true 43 (.bin .leq (.t 39) (.t 42)),qP 44 38 43] [1,2,7,44]) (.cond (.t 44) .skip (.exit 0))) (.seq (.block 1 (.seq (.reg [ zM 47 7,qA 48 4 2,qF 49 1 48,qL 50 49,zA 51 (.bin .eql (.t 47) (.t 50)),zM 52 51,zG 52 false 53 (.mv (.t 1)),zG 52 false 54 (.fZ 3 (.t 2)),zG 52 false 55 (.load false 1 (.t 54)),zG 52 false 56 (.mv (.t 7)),zG 52 false 57 (.nZ 1 (.t 55) (.t 56)),zG 52 false 58 (.load false 1 (.t 57)),zG 52 false 59 (.bin .lss (.t 53) (.t 58)),qQ 60 52 59] [1,2,7,60]) (.cond (.t 60) (.seq (.reg [ zM 61 7,zM 4 61,qB 5 false] [4,5]) .ret) .skip))) (.reg [ zM 45 7,zA 46 (.bin .add (.t 45) (kI 1)),zM 7 46] [1,2,7])))))) (.seq (.reg [ qI 4 (-1),qB 5 false] [4,5]) .ret))))))
theorem K.ig:dU pZ 163 2 0 C.ig [.tmp 4,.tmp 5]=true:=by kernel_rfl
def C.iL:aP:=(.seq (.reg [ qX 3 10 0,qX 5 11 2,qZ 6 12] [1,3,5,6]) (.seq (.reg [ qT 8 5 3,q1 9 71 8,qZ 7 13,qS 5 7 9] [1,5,6,7]) (.seq (.kC [ (qA 10 4 7,[]),(qF 11 1 10,[0]),(zM 12 1,[]),(qT 13 5 5,[]),(q1 14 71 13,[3]),(qD 15 5 11 12,[0,1,2,3,4]),(qS 5 15 14,[0,1,2,3,4,5])] [6,7]) (.seq (.reg [ qT 16 5 7,qS 5 6 16] [6]) .ret))))
theorem K.iL:dU pZ 146 3 0 C.iL [.cell 6 true 5]=true:=by kernel_rfl
def C.gZ:aP:=(.seq (.reg [ qX 3 10 0,qX 5 11 2,qZ 6 12,qB 7 false] [1,3,5,6]) (.seq (.reg [ qT 14 5 3,zM 15 1,q2 16 163 14 15,zM 13 16,qE 17 13 0,qE 18 13 1,zM 8 17,zM 9 18] [1,3,5,6,8,9]) (.seq (.seq (.reg [ zM 19 8,zA 20 (.bin .lss (.t 19) (kI 0))] [1,3,5,6,8,9,20]) (.cond (.t 20) (.seq (.reg [ zA 21 (.build zN []),qS 5 6 21,qB 7 false] [6,7]) .ret) .skip)) (.seq (.seq (.reg [ zM 22 9] [1,3,5,6,8,22]) (.cond (.t 22) (.seq (.reg [ qT 23 5 3,zM 24 8,qT 25 5 5,q3 26 146 23 24 25,qS 5 6 26,qB 7 true] [6,7]) .ret) .skip)) (.seq (.reg [ qT 27 5 3,q1 28 71 27,qZ 10 13,qS 5 10 28] [1,3,5,6,8,10]) (.seq (.kC [ (zA 29 (.dP 14 5 0 [.lit (.int .i64 0),.lit (.int .i64 0),.str [],.sl 1 [],.sl 5 []] []),[]),(qA 30 4 10,[]),(qF 31 1 30,[1]),(zM 32 8,[]),(zA 33 (.tJ 5 (.t 31) none (some (.t 32))),[1,2,3]),(zA 34 (.append 15 5 80 (.t 29) (.t 33)),[0,1,2,3,4]),(qT 35 5 5,[]),(q1 36 71 35,[0,1,2,3,4,5,6]),(zA 37 (.dP 16 5 1 [.lit (.int .i64 0),.lit (.int .i64 0),.str [],.sl 1 [],.sl 5 []] [(0,.t 36)]),[0,1,2,3,4,5,6,7]),(zA 38 (.append 17 5 80 (.t 34) (.t 37)),[0,1,2,3,4,5,6,7,8]),(zM 11 38,[0,1,2,3,4,5,6,7,8,9])] [1,3,6,8,10,11]) (.seq (.reg [ zM 39 11,qA 40 4 10,qF 41 1 40,zM 42 8,zA 43 (.tJ 5 (.t 41) (some (.t 42)) none),zA 44 (.append 18 5 80 (.t 39) (.t 43)),zM 11 44] [1,3,6,8,10,11]) (.seq (.seq (.reg [ qA 45 0 3,qF 46 1 45,zA 47 (.bin .eql (.t 46) (kI 3))] [1,3,6,8,10,11,47]) (.cond (.t 47) (.seq (.reg [ qA 48 0 3,qF 49 1 48,zA 50 (.dP 19 1 0 [.str []] []),zM 51 11,zA 52 (.build zN [(0,1,.t 49),(3,1,.t 50),(4,1,.t 51)]),qS 5 6 52,qB 7 true] [6,7]) .ret) .skip)) (.seq (.reg [ zA 53 (.dP 20 1 0 [.str []] []),qA 54 3 10,qF 55 1 54,zM 56 8,zA 57 (.tJ 1 (.t 55) none (some (.t 56))),zA 58 (.append 21 1 16 (.t 53) (.t 57)),zM 59 1,zA 60 (.dP 22 1 1 [.str []] [(0,.t 59)]),zA 61 (.append 23 1 16 (.t 58) (.t 60)),zM 12 61] [3,6,8,10,11,12]) (.seq (.reg [ zM 62 12,qA 63 3 10,qF 64 1 63,zM 65 8,zA 66 (.tJ 1 (.t 64) (some (.t 65)) none),zA 67 (.append 24 1 16 (.t 62) (.t 66)),zM 12 67] [3,6,11,12]) (.seq (.reg [ qA 68 0 3,qF 69 1 68,zM 70 12,zM 71 11,zA 72 (.build zN [(0,1,.t 69),(3,1,.t 70),(4,1,.t 71)]),qS 5 6 72,qB 7 true] [6,7]) .ret)))))))))))
theorem K.gZ:dU pZ 147 3 0 C.gZ [.cell 6 true 5,.tmp 7]=true:=by kernel_rfl
def C.dN:aP:=(.seq (.reg [ zA 4 (.mv (.k (.c (.str []))))] [0,1]) (.seq (.reg [ zM 5 1,zM 6 0,zM 7 1,qL 8 7,q2 9 48 6 8,qD 10 1 5 9,qF 11 1 10,zM 4 11] [4]) .ret))
theorem K.dN:dU pZ 89 2 1 C.dN [.tmp 4]=true:=by kernel_rfl
def C.lq:aP:=(.seq (.reg [ zA 2 (.mv (.k (.c (.str []))))] [0]) (.seq (.reg [ zM 3 0,zA 4 (.dP 10 1 12 [.str []] [(0,.k (.c (.str [97]))),(1,.k (.c (.str [98]))),(2,.k (.c (.str []))),(3,.k (.c (.str [97,98,99]))),(4,.k (.c (.str [97,47,98]))),(5,.k (.c (.str [126]))),(6,.k (.c (.str [120,32,121]))),(7,.k (.c (.str [34,113,34]))),(8,.k (.c (.str [98,97,99,107,92,115]))),(9,.k (.c (.str [48]))),(10,.k (.c (.str [49]))),(11,.k (.c (.str [97,98,99,100,101,102,103,104,105,106,107,108])))]),q2 5 89 3 4,zM 2 5] [2]) .ret))
theorem K.lq:dU pZ 149 1 1 C.lq [.tmp 2]=true:=by kernel_rfl
def C.lg:aP:=(.seq (.reg [ zA 2 (.mv (.k (.c (.str []))))] [0]) (.seq (.reg [ zM 3 0,zA 4 (.dP 10 1 8 [.str []] [(0,.k (.c (.str [97]))),(1,.k (.c (.str [98]))),(2,.k (.c (.str [99]))),(3,.k (.c (.str [100]))),(4,.k (.c (.str [97,47,98]))),(5,.k (.c (.str [126,120]))),(6,.k (.c (.str []))),(7,.k (.c (.str [107])))]),q2 5 89 3 4,zM 2 5] [2]) .ret))
theorem K.lg:dU pZ 150 1 1 C.lg [.tmp 2]=true:=by kernel_rfl
def C.bY:aP:=(.seq (.reg [ qZ 4 10] [0,1,4]) (.seq (.reg [ zA 9 (.dP 11 1 0 [.str []] []),zA 10 (.dP 12 5 0 [.lit (.int .i64 0),.lit (.int .i64 0),.str [],.sl 1 [],.sl 5 []] []),zA 11 (.build zN [(0,1,kI 4),(3,1,.t 9),(4,1,.t 10)]),qZ 5 13,qS 5 5 11] [0,1,4,5]) (.seq (.seq (.reg [ zM 12 0,zA 13 (.dP 14 1 5 [.lit (.int .i64 0)] [(0,kI 2),(1,kI 3),(2,kI 1),(3,kI 0),(4,kI 4)]),q2 14 49 12 13,zM 6 14] [0,1,4,5,6]) (.block 0 (.loop (.seq (.seq (.reg [ zM 15 6,zA 16 (.bin .gtr (.t 15) (kI 0))] [0,1,4,5,6,16]) (.cond (.t 16) .skip (.exit 0))) (.seq (.block 1 (.seq (.reg [ zM 19 0,q1 20 150 19,zM 7 20] [0,1,4,5,6,7]) (.seq (.reg [ zM 21 0,zM 22 1,zA 23 (.bin .sub (.t 22) (kI 1)),q2 24 117 21 23,qZ 8 15,qS 5 8 24] [0,1,4,5,6,7,8]) (.seq (.reg [ qT 25 5 5,zM 26 7,q2 27 145 25 26,zA 28 (.bin .lss (.t 27) (kI 0))] [0,1,4,5,6,7,8,28]) (.cond (.t 28) (.reg [ qT 30 5 5,zM 31 7,qT 32 5 8,q3 33 147 30 31 32,zM 29 33,qE 34 29 0,qE 35 29 1,qS 5 5 34] [0,1,4,5,6]) .skip))))) (.reg [ zM 17 6,zA 18 (.bin .sub (.t 17) (kI 1)),zM 6 18] [0,1,4,5,6])))))) (.seq (.reg [ qT 36 5 5,qS 5 4 36] [4]) .ret))))
theorem K.bY:dU pZ 118 2 1 C.bY [.cell 4 true 5]=true:=by kernel_rfl
def C.aK:aP:=(.seq (.reg [ qZ 4 10] [0,1,4]) (.seq (.reg [ zM 8 0,⟨none,some 9,.call 48 [.t 8,kI 5]⟩,zM 5 9] [0,1,4,5]) (.cut (.seq (.reg [ zM 10 1,zA 11 (.bin .leq (.t 10) (kI 1))] [0,1,4,5,11]) (.cond (.t 11) (.reg [ zM 12 0,⟨none,some 13,.call 48 [.t 12,kI 3]⟩,zM 5 13] [0,1,4,5]) .skip)) (.seq (.seq (.reg [ zM 14 5] [0,1,4,5,14]) (.block 0 (.seq (.reg [ zA 16 (.bin .eql (.t 14) (kI 1)),zM 15 16] [0,1,4,5,14,15]) (.cond (.t 15) (.seq (.reg [ zM 17 5,zM 18 0,zM 19 0,⟨none,some 20,.call 48 [.t 19,kI 250]⟩,zA 21 (.dP 11 1 8 [.lit (.int .i64 0)] [(0,kI 0),(1,kI 1),(2,kI 2),(3,kI 7),(4,kI (-7)),(5,kI 999999),(6,kI (-999999)),(7,.t 20)]),q2 22 49 18 21,zA 23 (.build zN [(0,1,.t 17),(1,1,.t 22)]),qS 5 4 23] [4]) .ret) (.seq (.reg [ zA 25 (.bin .eql (.t 14) (kI 2)),zM 24 25] [0,1,4,5,14,24]) (.cond (.t 24) (.seq (.reg [ zM 26 5,zM 27 0,q1 28 149 27,zA 29 (.build zN [(0,1,.t 26),(2,1,.t 28)]),qS 5 4 29] [4]) .ret) (.seq (.reg [ zA 31 (.bin .eql (.t 14) (kI 3)),zM 30 31] [0,1,4,5,14,30]) (.cond (.t 30) (.seq (.reg [ zA 32 (.dP 12 5 0 [.lit (.int .i64 0),.lit (.int .i64 0),.str [],.sl 1 [],.sl 5 []] []),zM 6 32] [0,1,4,5,6]) (.seq (.seq (.reg [ zM 33 0,⟨none,some 34,.call 48 [.t 33,kI 4]⟩,zM 7 34] [0,1,4,5,6,7]) (.block 1 (.loop (.seq (.seq (.reg [ zM 35 7,zA 36 (.bin .gtr (.t 35) (kI 0))] [0,1,4,5,6,7,36]) (.cond (.t 36) .skip (.exit 1))) (.seq (.block 2 (.reg [ zM 39 6,zM 40 0,zM 41 1,zA 42 (.bin .sub (.t 41) (kI 1)),q2 43 117 40 42,zA 44 (.dP 13 5 1 [.lit (.int .i64 0),.lit (.int .i64 0),.str [],.sl 1 [],.sl 5 []] [(0,.t 43)]),zA 45 (.append 14 5 80 (.t 39) (.t 44)),zM 6 45] [0,1,4,5,6,7])) (.reg [ zM 37 7,zA 38 (.bin .sub (.t 37) (kI 1)),zM 7 38] [0,1,4,5,6,7])))))) (.seq (.reg [ zM 46 5,zA 47 (.dP 15 1 0 [.str []] []),zM 48 6,zA 49 (.build zN [(0,1,.t 46),(3,1,.t 47),(4,1,.t 48)]),qS 5 4 49] [4]) .ret))) (.seq (.reg [ zA 51 (.bin .eql (.t 14) (kI 4)),zM 50 51] [0,1,4,50]) (.cond (.t 50) (.seq (.reg [ zM 52 0,zM 53 1,q2 54 118 52 53,qS 5 4 54] [4]) .ret) .skip)))))))))) (.seq (.reg [ zA 55 (.build zN []),qS 5 4 55] [4]) .ret)))))
theorem K.aK:dU pZ 117 2 1 C.aK [.cell 4 true 5]=true:=by kernel_rfl
def C.iV:aP:=(.seq (.reg [ qX 1 10 0,qI 2 0] [1]) (.seq (.reg [ qI 3 1] [1,3]) (.seq (.seq (.reg [ qI 4 0] [1,3,4]) (.block 0 (.loop (.seq (.seq (.reg [ zM 5 4,qA 6 4 1,qF 7 1 6,qL 8 7,zA 9 (.bin .lss (.t 5) (.t 8))] [1,3,4,9]) (.cond (.t 9) .skip (.exit 0))) (.seq (.block 1 (.reg [ zM 12 3,qA 13 4 1,qF 14 1 13,zM 15 4,qD 16 5 14 15,qT 17 5 16,q1 18 93 17,zA 19 (.bin .add (.t 12) (.t 18)),zM 3 19] [1,3,4])) (.reg [ zM 10 4,zA 11 (.bin .add (.t 10) (kI 1)),zM 4 11] [1,3,4])))))) (.seq (.reg [ zM 20 3,zM 2 20] [2]) .ret))))
theorem K.iV:dU pZ 93 1 0 C.iV [.tmp 2]=true:=by kernel_rfl
def C.cZ:aP:=(.seq (.reg [ qB 6 false] [0,1,2]) (.seq (.reg [ zM 7 1,zM 8 0,zA 9 (.bin .leq (.t 7) (.t 8)),zM 10 9,zG 10 true 11 (.mv (.t 0)),zG 10 true 12 (.mv (.t 2)),zG 10 true 13 (.bin .leq (.t 11) (.t 12)),qP 14 10 13,zM 6 14] [6]) .ret))
theorem K.cZ:dU pZ 54 3 0 C.cZ [.tmp 6]=true:=by kernel_rfl
def C.dw:aP:=(.seq (.reg [ qB 2 false] [0]) (.seq (.seq (.reg [ qI 3 0] [0,3]) (.block 0 (.loop (.seq (.seq (.reg [ zM 4 3,zM 5 0,zA 6 (.lens (.t 5)),zA 7 (.bin .lss (.t 4) (.t 6))] [0,3,7]) (.cond (.t 7) .skip (.exit 0))) (.seq (.block 1 (.seq (.reg [ zM 10 0,zM 11 3,zA 12 (.idxs (.t 10) (.t 11)),zA 13 (.vX .i64 (.t 12)),⟨none,some 14,.call 54 [.t 13,kI 32,kI 126]⟩,qO 15 14] [0,3,15]) (.cond (.t 15) (.seq (.reg [ qB 2 false] [2]) .ret) .skip))) (.reg [ zM 8 3,zA 9 (.bin .add (.t 8) (kI 1)),zM 3 9] [0,3])))))) (.seq (.reg [ zM 16 0,zA 17 (.lens (.t 16)),zA 18 (.bin .leq (.t 17) (kI 12)),zM 2 18] [2]) .ret)))
theorem K.dw:dU pZ 126 1 0 C.dw [.tmp 2]=true:=by kernel_rfl
def C.jq:aP:=(.seq (.reg [ qB 2 false] [0]) (.seq (.seq (.reg [ qI 3 0] [0,3]) (.block 0 (.loop (.seq (.seq (.reg [ zM 4 3,zM 5 0,qL 6 5,zA 7 (.bin .lss (.t 4) (.t 6))] [0,3,7]) (.cond (.t 7) .skip (.exit 0))) (.seq (.block 1 (.seq (.kC [ (zM 10 0,[]),(zM 11 3,[]),(qD 12 1 10 11,[0,1]),(qF 13 1 12,[0,1,2]),(q1 14 126 13,[0,1,2,3]),(qO 15 14,[0,1,2,3,4]),(zM 16 15,[0,1,2,3,4,5]),(zG 16 false 17 (.mv (.t 3)),[0,1,2,3,4,5,6]),(zG 16 false 18 (.bin .gtr (.t 17) (kI 0)),[0,1,2,3,4,5,6,7]),(zG 16 false 19 (.mv (.t 18)),[0,1,2,3,4,5,6,7,8]),(zG 19 true 20 (.mv (.t 0)),[0,1,2,3,4,5,6,7,8,9]),(zG 19 true 21 (.mv (.t 3)),[0,1,2,3,4,5,6,7,8,9]),(zG 19 true 22 (.nZ 1 (.t 20) (.t 21)),[0,1,2,3,4,5,6,7,8,9,10,11]),(zG 19 true 23 (.load false 1 (.t 22)),[0,1,2,3,4,5,6,7,8,9,10,11,12]),(zG 19 true 24 (.mv (.t 0)),[0,1,2,3,4,5,6,7,8,9]),(zG 19 true 25 (.mv (.t 3)),[0,1,2,3,4,5,6,7,8,9]),(zG 19 true 26 (.bin .sub (.t 25) (kI 1)),[0,1,2,3,4,5,6,7,8,9,15]),(zG 19 true 27 (.nZ 1 (.t 24) (.t 26)),[0,1,2,3,4,5,6,7,8,9,14,15,16]),(zG 19 true 28 (.load false 1 (.t 27)),[0,1,2,3,4,5,6,7,8,9,14,15,16,17]),(zG 19 true 29 (.bin .leq (.t 23) (.t 28)),[0,1,2,3,4,5,6,7,8,9,10,11,12,13,14,15,16,17,18]),(zG 16 false 30 (.pick (.t 19) (.t 29) (kB false)),[0,1,2,3,4,5,6,7,8,9,10,11,12,13,14,15,16,17,18,19]),(qQ 31 16 30,[0,1,2,3,4,5,6,7,8,9,10,11,12,13,14,15,16,17,18,19,20])] [0,3,31]) (.cond (.t 31) (.seq (.reg [ qB 2 false] [2]) .ret) .skip))) (.reg [ zM 8 3,zA 9 (.bin .add (.t 8) (kI 1)),zM 3 9] [0,3])))))) (.seq (.reg [ qB 2 true] [2]) .ret)))
theorem K.jq:dU pZ 128 1 0 C.jq [.tmp 2]=true:=by kernel_rfl
def C.kJ:aP:=(.seq (.reg [ qX 2 10 0,qB 4 false] [1,2]) (.seq (.seq (.reg [ qI 5 0] [1,2,5]) (.block 0 (.loop (.seq (.seq (.reg [ zM 6 5,qA 7 4 2,qF 8 1 7,qL 9 8,zA 10 (.bin .lss (.t 6) (.t 9))] [1,2,5,10]) (.cond (.t 10) .skip (.exit 0))) (.seq (.block 1 (.seq (.reg [ qA 13 4 2,qF 14 1 13,zM 15 5,qD 16 5 14 15,qT 17 5 16,zM 18 1,zA 19 (.bin .sub (.t 18) (kI 1)),q2 20 92 17 19,qO 21 20] [1,2,5,21]) (.cond (.t 21) (.seq (.reg [ qB 4 false] [4]) .ret) .skip))) (.reg [ zM 11 5,zA 12 (.bin .add (.t 11) (kI 1)),zM 5 12] [1,2,5])))))) (.seq (.reg [ qB 4 true] [4]) .ret)))
theorem K.kJ:dU pZ 127 2 0 C.kJ [.tmp 4]=true:=by kernel_rfl
def C.dO:aP:=(.seq (.reg [ qX 2 10 0,qB 4 false] [1,2]) (.cut (.seq (.reg [ zM 5 1,zA 6 (.bin .eql (.t 5) (kI 0)),zM 7 6,zG 7 false 8 (.fZ 4 (.t 2)),zG 7 false 9 (.load false 1 (.t 8)),zG 7 false 10 (.len (.t 9)),zG 7 false 11 (.bin .gtr (.t 10) (kI 6)),qQ 12 7 11,zM 13 12,zG 13 false 14 (.fZ 0 (.t 2)),zG 13 false 15 (.load false 1 (.t 14)),zG 13 false 16 (.bin .neq (.t 15) (kI 1)),zG 13 false 17 (.mv (.t 16)),zG 17 true 18 (.fZ 1 (.t 2)),zG 17 true 19 (.load false 1 (.t 18)),zG 17 true 20 (.bin .neq (.t 19) (kI 0)),zG 13 false 21 (.pick (.t 17) (.t 20) (kB false)),qQ 22 13 21,zM 23 22,zG 23 false 24 (.fZ 0 (.t 2)),zG 23 false 25 (.load false 1 (.t 24)),zG 23 false 26 (.bin .neq (.t 25) (kI 2)),zG 23 false 27 (.mv (.t 26)),zG 27 true 28 (.fZ 2 (.t 2)),zG 27 true 29 (.load false 1 (.t 28)),zG 27 true 30 (.bin .neq (.t 29) (.k (.c (.str [])))),zG 23 false 31 (.pick (.t 27) (.t 30) (kB false)),qQ 32 23 31,zM 33 32,zG 33 false 34 (.fZ 0 (.t 2)),zG 33 false 35 (.load false 1 (.t 34)),zG 33 false 36 (.bin .neq (.t 35) (kI 4)),zG 33 false 37 (.mv (.t 36)),zG 37 true 38 (.fZ 3 (.t 2)),zG 37 true 39 (.load false 1 (.t 38)),zG 37 true 40 (.len (.t 39)),zG 37 true 41 (.bin .gtr (.t 40) (kI 0)),zG 33 false 42 (.pick (.t 37) (.t 41) (kB false)),qQ 43 33 42,zM 44 43,zG 44 false 45 (.fZ 0 (.t 2)),zG 44 false 46 (.load false 1 (.t 45)),zG 44 false 47 (.bin .lss (.t 46) (kI 3)),zG 44 false 48 (.mv (.t 47)),zG 48 true 49 (.fZ 4 (.t 2)),zG 48 true 50 (.load false 1 (.t 49)),zG 48 true 51 (.len (.t 50)),zG 48 true 52 (.bin .gtr (.t 51) (kI 0)),zG 44 false 53 (.pick (.t 48) (.t 52) (kB false)),qQ 54 44 53] [1,2,54]) (.cond (.t 54) (.seq (.reg [ qB 4 false] [4]) .ret) .skip)) (.seq (.seq (.reg [ qA 55 0 2,qF 56 1 55] [1,2,56]) (.block 0 (.seq (.reg [ zA 58 (.bin .eql (.t 56) (kI 1)),zM 57 58] [1,2,56,57]) (.cond (.t 57) (.seq (.reg [ qA 59 1 2,qF 60 1 59,⟨none,some 61,.call 54 [.t 60,kI (-999999),kI 999999]⟩,zM 4 61] [4]) .ret) (.seq (.reg [ zA 63 (.bin .eql (.t 56) (kI 2)),zM 62 63] [1,2,56,62]) (.cond (.t 62) (.seq (.reg [ qA 64 2 2,qF 65 1 64,q1 66 126 65,zM 4 66] [4]) .ret) (.seq (.reg [ zA 68 (.bin .eql (.t 56) (kI 3)),zM 67 68] [1,2,56,67]) (.cond (.t 67) (.seq (.reg [ qT 69 5 2,zM 70 1,q2 71 127 69 70,zM 4 71] [4]) .ret) (.seq (.reg [ zA 73 (.bin .eql (.t 56) (kI 4)),zM 72 73] [1,2,72]) (.cond (.t 72) (.seq (.reg [ qA 74 3 2,qF 75 1 74,qL 76 75,qA 77 4 2,qF 78 1 77,qL 79 78,zA 80 (.bin .eql (.t 76) (.t 79)),zM 81 80,zG 81 true 82 (.fZ 3 (.t 2)),zG 81 true 83 (.load false 1 (.t 82)),⟨(some (81,true)),some 84,.call 128 [.t 83]⟩,qP 85 81 84,zM 86 85,zG 86 true 87 (.load true 5 (.t 2)),zG 86 true 88 (.mv (.t 1)),⟨(some (86,true)),some 89,.call 127 [.t 87,.t 88]⟩,qP 90 86 89,zM 4 90] [4]) .ret) .skip)))))))))) (.seq (.reg [ qA 91 0 2,qF 92 1 91,zA 93 (.bin .eql (.t 92) (kI 0)),zM 4 93] [4]) .ret))))
theorem K.dO:dU pZ 92 2 0 C.dO [.tmp 4]=true:=by kernel_rfl
def C.aV:aP:=(.seq (.reg [ qX 1 10 0,qB 2 false] [1]) (.seq (.reg [ qT 3 5 1,⟨none,some 4,.call 92 [.t 3,kI 5]⟩,zM 5 4,zG 5 true 6 (.load true 5 (.t 1)),⟨(some (5,true)),some 7,.call 93 [.t 6]⟩,zG 5 true 8 (.bin .leq (.t 7) (kI 40)),qP 9 5 8,zM 2 9] [2]) .ret))
theorem K.aV:dU pZ 57 1 0 C.aV [.tmp 2]=true:=by kernel_rfl
def C.dJ:aP:=(.seq (.reg [ qZ 2 10] [0,2]) (.seq (.reg [ zM 4 0,⟨none,some 5,.call 117 [.t 4,kI 3]⟩,qZ 3 11,qS 5 3 5] [0,2,3]) (.cut (.seq (.reg [ zM 6 0,⟨none,some 7,.call 48 [.t 6,kI 3]⟩,zA 8 (.bin .gtr (.t 7) (kI 0))] [0,2,3,8]) (.cond (.t 8) (.reg [ zM 9 0,⟨none,some 10,.call 118 [.t 9,kI 3]⟩,qS 5 3 10] [2,3]) .skip)) (.seq (.seq (.reg [ qT 11 5 3,q1 12 57 11,qO 13 12] [2,3,13]) (.cond (.t 13) (.seq (.reg [ zA 14 (.build zN []),qS 5 2 14] [2]) .ret) .skip)) (.seq (.reg [ qT 15 5 3,qS 5 2 15] [2]) .ret)))))
theorem K.dJ:dU pZ 86 1 1 C.dJ [.cell 2 true 5]=true:=by kernel_rfl
def C.iR:aP:=(.seq (.reg [ qZ 2 10] [0,2]) (.seq (.reg [ zM 6 0,q1 7 86 6,qZ 3 11,qS 5 3 7] [0,2,3]) (.seq (.seq (.reg [ zM 8 0,⟨none,some 9,.call 48 [.t 8,kI 40]⟩] [0,2,3,9]) (.block 0 (.seq (.reg [ zA 11 (.bin .eql (.t 9) (kI 0)),zM 10 11] [0,2,3,9,10]) (.cond (.t 10) (.reg [ zM 12 0,zA 13 (.dP 12 1 4 [.lit (.int .i64 0)] [(0,kI (-1)),(1,kI 5),(2,kI 0),(3,kI 3)]),q2 14 49 12 13,qA 15 0 3,qU 1 15 14] [2,3]) (.seq (.reg [ zA 17 (.bin .eql (.t 9) (kI 1)),zM 16 17] [0,2,3,9,16]) (.cond (.t 16) (.reg [ zM 18 0,zA 19 (.dP 13 1 2 [.lit (.int .i64 0)] [(0,kI 1),(1,kI 1000000)]),q2 20 49 18 19,qA 21 1 3,qU 1 21 20] [2,3]) (.seq (.reg [ zA 23 (.bin .eql (.t 9) (kI 2)),zM 22 23] [0,2,3,9,22]) (.cond (.t 22) (.reg [ qA 24 2 3,zS (.store false 1 (.t 24) (.k (.c (.str [97,98,99,100,101,102,103,104,105,106,107,108,109]))))] [2,3]) (.seq (.reg [ zA 26 (.bin .eql (.t 9) (kI 3)),zM 25 26] [0,2,3,9,25]) (.cond (.t 25) (.reg [ qA 27 3 3,qF 28 1 27,zA 29 (.dP 14 1 1 [.str []] [(0,.k (.c (.str [])))]),zA 30 (.append 15 1 16 (.t 28) (.t 29)),qA 31 3 3,qU 1 31 30] [2,3]) (.seq (.reg [ zA 33 (.bin .eql (.t 9) (kI 4)),zM 32 33] [0,2,3,9,32]) (.cond (.t 32) (.reg [ qT 34 5 3,zA 35 (.dP 16 5 1 [.lit (.int .i64 0),.lit (.int .i64 0),.str [],.sl 1 [],.sl 5 []] [(0,.t 34)]),zA 36 (.build zN [(0,1,kI 3),(4,1,.t 35)]),zA 37 (.dP 17 5 1 [.lit (.int .i64 0),.lit (.int .i64 0),.str [],.sl 1 [],.sl 5 []] [(0,.t 36)]),zA 38 (.build zN [(0,1,kI 3),(4,1,.t 37)]),zA 39 (.dP 18 5 1 [.lit (.int .i64 0),.lit (.int .i64 0),.str [],.sl 1 [],.sl 5 []] [(0,.t 38)]),zA 40 (.build zN [(0,1,kI 3),(4,1,.t 39)]),zA 41 (.dP 19 5 1 [.lit (.int .i64 0),.lit (.int .i64 0),.str [],.sl 1 [],.sl 5 []] [(0,.t 40)]),zA 42 (.build zN [(0,1,kI 3),(4,1,.t 41)]),qS 5 3 42] [2,3]) (.seq (.reg [ zA 44 (.bin .eql (.t 9) (kI 5)),zM 43 44] [0,2,3,43]) (.cond (.t 43) (.seq (.reg [ zA 45 (.dP 20 5 0 [.lit (.int .i64 0),.lit (.int .i64 0),.str [],.sl 1 [],.sl 5 []] []),zM 4 45] [0,2,3,4]) (.seq (.seq (.reg [ qI 5 0] [0,2,3,4,5]) (.block 1 (.loop (.seq (.seq (.reg [ zM 46 5,zM 47 0,⟨none,some 48,.call 48 [.t 47,kI 2]⟩,zA 49 (.bin .add (kI 6) (.t 48)),zA 50 (.bin .lss (.t 46) (.t 49))] [0,2,3,4,5,50]) (.cond (.t 50) .skip (.exit 1))) (.seq (.block 2 (.reg [ zM 53 4,qT 54 5 3,q1 55 71 54,zA 56 (.dP 21 5 1 [.lit (.int .i64 0),.lit (.int .i64 0),.str [],.sl 1 [],.sl 5 []] [(0,.t 55)]),zA 57 (.append 22 5 80 (.t 53) (.t 56)),zM 4 57] [0,2,3,4,5])) (.reg [ zM 51 5,zA 52 (.bin .add (.t 51) (kI 1)),zM 5 52] [0,2,3,4,5])))))) (.reg [ zM 58 4,zA 59 (.build zN [(0,1,kI 3),(4,1,.t 58)]),qS 5 3 59] [2,3]))) .skip)))))))))))))) (.seq (.reg [ qT 60 5 3,qS 5 2 60] [2]) .ret))))
theorem K.iR:dU pZ 51 1 1 C.iR [.cell 2 true 5]=true:=by kernel_rfl
def C.jS:aP:=(.seq (.reg [ zA 2 (.mv (.k (.c (.str []))))] [0]) (.seq (.reg [ zM 3 0,zA 4 (.dP 10 1 5 [.str []] [(0,.k (.c (.str []))),(1,.k (.c (.str [65]))),(2,.k (.c (.str [97,98,99,100,101,102,103,104,105]))),(3,.k (.c (.str [97,32,98]))),(4,.k (.c (.str [97])))]),q2 5 89 3 4,zM 2 5] [2]) .ret))
theorem K.jS:dU pZ 50 1 1 C.jS [.tmp 2]=true:=by kernel_rfl
def C.aQ:aP:=(.seq (.reg [ qX 1 10 0,zA 2 (.alloc 11 [.fU 7,je 0])] [1,2]) (.seq (.reg [ zA 5 (.dP 12 7 0 [.str [],.lit (.int .i64 0),.lit (.int .i64 0),.lit (.int .i64 0),.str [],.sl 1 [],.sl 5 []] []),zM 3 5] [1,2,3]) (.seq (.seq (.reg [ qI 4 0] [1,2,3,4]) (.block 0 (.loop (.seq (.seq (.reg [ zM 6 4,qA 7 0 1,qF 8 1 7,qL 9 8,zA 10 (.bin .lss (.t 6) (.t 9))] [1,2,3,4,10]) (.cond (.t 10) .skip (.exit 0))) (.seq (.block 1 (.kC [ (zM 13 3,[]),(qA 14 0 1,[]),(qF 15 1 14,[1]),(zM 16 4,[]),(qD 17 7 15 16,[1,2,3]),(qA 18 0 17,[1,2,3,4]),(qF 19 1 18,[1,2,3,4,5]),(qA 20 0 1,[]),(qF 21 1 20,[7]),(zM 22 4,[]),(qD 23 7 21 22,[7,8,9]),(qA 24 1 23,[7,8,9,10]),(qF 25 1 24,[7,8,9,10,11]),(qA 26 0 1,[]),(qF 27 1 26,[13]),(zM 28 4,[]),(qD 29 7 27 28,[13,14,15]),(qA 30 2 29,[13,14,15,16]),(qT 31 5 30,[13,14,15,16,17]),(q1 32 71 31,[13,14,15,16,17,18]),(zA 33 (.build [.c (.str []),je 0,je 0,je 0,.c (.str []),.fU 1,.fU 5] [(0,1,.t 19),(1,1,.t 25),(2,5,.t 32)]),[1,2,3,4,5,6,7,8,9,10,11,12,13,14,15,16,17,18,19]),(zA 34 (.dP 13 7 1 [.str [],.lit (.int .i64 0),.lit (.int .i64 0),.lit (.int .i64 0),.str [],.sl 1 [],.sl 5 []] [(0,.t 33)]),[1,2,3,4,5,6,7,8,9,10,11,12,13,14,15,16,17,18,19,20]),(zA 35 (.append 14 7 104 (.t 13) (.t 34)),[0,1,2,3,4,5,6,7,8,9,10,11,12,13,14,15,16,17,18,19,20,21]),(zM 3 35,[0,1,2,3,4,5,6,7,8,9,10,11,12,13,14,15,16,17,18,19,20,21,22])] [1,2,3,4])) (.reg [ zM 11 4,zA 12 (.bin .add (.t 11) (kI 1)),zM 4 12] [1,2,3,4])))))) (.seq (.reg [ zM 36 3,qA 37 1 1,qF 38 1 37,zA 39 (.build [.fU 7,je 0] [(0,1,.t 36),(1,1,.t 38)]),qS 2 2 39] [2]) .ret))))
theorem K.aQ:dU pZ 68 1 0 C.aQ [.cell 2 true 2]=true:=by kernel_rfl
theorem K.qC:dU pZ 68 1 1 C.aQ [.cell 2 true 2]=true:=by kernel_rfl
def C.iE:aP:=(.seq (.reg [ qX 2 10 0,qI 4 0] [1,2]) (.seq (.seq (.reg [ qI 5 0] [1,2,5]) (.block 0 (.loop (.seq (.seq (.reg [ zM 6 5,qA 7 0 2,qF 8 1 7,qL 9 8,zA 10 (.bin .lss (.t 6) (.t 9))] [1,2,5,10]) (.cond (.t 10) .skip (.exit 0))) (.seq (.block 1 (.seq (.reg [ qA 13 0 2,qF 14 1 13,zM 15 5,qD 16 7 14 15,qA 17 0 16,qF 18 1 17,zM 19 1,zA 20 (.bin .eql (.t 18) (.t 19))] [1,2,5,20]) (.cond (.t 20) (.seq (.reg [ zM 21 5,zM 4 21] [4]) .ret) .skip))) (.reg [ zM 11 5,zA 12 (.bin .add (.t 11) (kI 1)),zM 5 12] [1,2,5])))))) (.seq (.reg [ qI 4 (-1)] [4]) .ret)))
theorem K.iE:dU pZ 67 2 0 C.iE [.tmp 4]=true:=by kernel_rfl
def C.dm:aP:=(.seq (.reg [ qB 2 false] [0]) (.seq (.seq (.reg [ qI 3 0] [0,3]) (.block 0 (.loop (.seq (.seq (.reg [ zM 4 3,zM 5 0,zA 6 (.lens (.t 5)),zA 7 (.bin .lss (.t 4) (.t 6))] [0,3,7]) (.cond (.t 7) .skip (.exit 0))) (.seq (.block 1 (.seq (.reg [ zM 10 0,zM 11 3,zA 12 (.idxs (.t 10) (.t 11)),zA 13 (.vX .i64 (.t 12)),⟨none,some 14,.call 54 [.t 13,kI 97,kI 122]⟩,qO 15 14,zM 16 15,zG 16 true 17 (.mv (.t 0)),zG 16 true 18 (.mv (.t 3)),zG 16 true 19 (.idxs (.t 17) (.t 18)),zG 16 true 20 (.vX .i64 (.t 19)),⟨(some (16,true)),some 21,.call 54 [.t 20,kI 48,kI 57]⟩,zG 16 true 22 (.not (.t 21)),qP 23 16 22] [0,3,23]) (.cond (.t 23) (.seq (.reg [ qB 2 false] [2]) .ret) .skip))) (.reg [ zM 8 3,zA 9 (.bin .add (.t 8) (kI 1)),zM 3 9] [0,3])))))) (.seq (.reg [ zM 24 0,zA 25 (.lens (.t 24)),⟨none,some 26,.call 54 [.t 25,kI 1,kI 8]⟩,zM 2 26] [2]) .ret)))
theorem K.dm:dU pZ 55 1 0 C.dm [.tmp 2]=true:=by kernel_rfl
def C.aZ:aP:=(.seq (.reg [ qX 1 10 0,qB 2 false] [1]) (.seq (.seq (.reg [ qI 3 0] [1,3]) (.block 0 (.loop (.seq (.seq (.reg [ zM 5 3,qA 6 0 1,qF 7 1 6,qL 8 7,zA 9 (.bin .lss (.t 5) (.t 8))] [1,3,9]) (.cond (.t 9) .skip (.exit 0))) (.seq (.block 1 (.seq (.reg [ qA 12 0 1,qF 13 1 12,zM 14 3,qD 15 7 13 14,qT 16 7 15,zA 4 (.alloc 11 [.c (.str []),je 0,je 0,je 0,.c (.str []),.fU 1,.fU 5]),qS 7 4 16] [1,3,4]) (.seq (.kC [ (qA 17 0 4,[]),(qF 18 1 17,[0]),(q1 19 55 18,[0,1]),(qO 20 19,[0,1,2]),(zM 21 20,[0,1,2,3]),(zG 21 false 22 (.fZ 2 (.t 4)),[0,1,2,3,4]),(zG 21 false 23 (.load true 5 (.t 22)),[0,1,2,3,4,5]),(⟨(some (21,false)),some 24,.call 57 [.t 23]⟩,[0,1,2,3,4,5,6]),(zG 21 false 25 (.not (.t 24)),[0,1,2,3,4,5,6,7]),(qQ 26 21 25,[0,1,2,3,4,5,6,7,8]),(zM 27 26,[0,1,2,3,4,5,6,7,8,9]),(zG 27 false 28 (.fZ 1 (.t 4)),[0,1,2,3,4,5,6,7,8,9,10]),(zG 27 false 29 (.load false 1 (.t 28)),[0,1,2,3,4,5,6,7,8,9,10,11]),(zG 27 false 30 (.fZ 1 (.t 1)),[0,1,2,3,4,5,6,7,8,9,10]),(zG 27 false 31 (.load false 1 (.t 30)),[0,1,2,3,4,5,6,7,8,9,10,13]),(⟨(some (27,false)),some 32,.call 54 [.t 29,kI 1,.t 31]⟩,[0,1,2,3,4,5,6,7,8,9,10,11,12,13,14]),(zG 27 false 33 (.not (.t 32)),[0,1,2,3,4,5,6,7,8,9,10,11,12,13,14,15]),(qQ 34 27 33,[0,1,2,3,4,5,6,7,8,9,10,11,12,13,14,15,16]),(zM 35 34,[0,1,2,3,4,5,6,7,8,9,10,11,12,13,14,15,16,17]),(zG 35 false 36 (.mv (.t 3)),[0,1,2,3,4,5,6,7,8,9,10,11,12,13,14,15,16,17,18]),(zG 35 false 37 (.bin .gtr (.t 36) (kI 0)),[0,1,2,3,4,5,6,7,8,9,10,11,12,13,14,15,16,17,18,19]),(zG 35 false 38 (.mv (.t 37)),[0,1,2,3,4,5,6,7,8,9,10,11,12,13,14,15,16,17,18,19,20]),(zG 38 true 39 (.fZ 0 (.t 4)),[0,1,2,3,4,5,6,7,8,9,10,11,12,13,14,15,16,17,18,19,20,21]),(zG 38 true 40 (.load false 1 (.t 39)),[0,1,2,3,4,5,6,7,8,9,10,11,12,13,14,15,16,17,18,19,20,21,22]),(zG 38 true 41 (.fZ 0 (.t 1)),[0,1,2,3,4,5,6,7,8,9,10,11,12,13,14,15,16,17,18,19,20,21]),(zG 38 true 42 (.load false 1 (.t 41)),[0,1,2,3,4,5,6,7,8,9,10,11,12,13,14,15,16,17,18,19,20,21,24]),(zG 38 true 43 (.mv (.t 3)),[0,1,2,3,4,5,6,7,8,9,10,11,12,13,14,15,16,17,18,19,20,21]),(zG 38 true 44 (.bin .sub (.t 43) (kI 1)),[0,1,2,3,4,5,6,7,8,9,10,11,12,13,14,15,16,17,18,19,20,21,26]),(zG 38 true 45 (.nZ 7 (.t 42) (.t 44)),[0,1,2,3,4,5,6,7,8,9,10,11,12,13,14,15,16,17,18,19,20,21,24,25,26,27]),(zG 38 true 46 (.fZ 0 (.t 45)),[0,1,2,3,4,5,6,7,8,9,10,11,12,13,14,15,16,17,18,19,20,21,24,25,26,27,28]),(zG 38 true 47 (.load false 1 (.t 46)),[0,1,2,3,4,5,6,7,8,9,10,11,12,13,14,15,16,17,18,19,20,21,24,25,26,27,28,29]),(zG 38 true 48 (.bin .leq (.t 40) (.t 47)),[0,1,2,3,4,5,6,7,8,9,10,11,12,13,14,15,16,17,18,19,20,21,22,23,24,25,26,27,28,29,30]),(zG 35 false 49 (.pick (.t 38) (.t 48) (kB false)),[0,1,2,3,4,5,6,7,8,9,10,11,12,13,14,15,16,17,18,19,20,21,22,23,24,25,26,27,28,29,30,31]),(qQ 50 35 49,[0,1,2,3,4,5,6,7,8,9,10,11,12,13,14,15,16,17,18,19,20,21,22,23,24,25,26,27,28,29,30,31,32])] [1,3,50]) (.cond (.t 50) (.seq (.reg [ qB 2 false] [2]) .ret) .skip)))) (.reg [ zM 10 3,zA 11 (.bin .add (.t 10) (kI 1)),zM 3 11] [1,3])))))) (.seq (.reg [ qA 51 0 1,qF 52 1 51,qL 53 52,zA 54 (.bin .leq (.t 53) (kI 10)),zM 55 54,zG 55 true 56 (.fZ 1 (.t 1)),zG 55 true 57 (.load false 1 (.t 56)),⟨(some (55,true)),some 58,.call 54 [.t 57,kI 0,kI 999]⟩,qP 59 55 58,zM 2 59] [2]) .ret)))
theorem K.aZ:dU pZ 40 1 0 C.aZ [.tmp 2]=true:=by kernel_rfl
def C.lH:aP:=(.seq (.reg [ qX 2 10 0,zA 4 (.alloc 11 [.c (.str []),je 0,je 0,je 0,.c (.str []),.fU 1,.fU 5]),qB 5 false] [1,2,4]) (.seq (.seq (.reg [ qT 6 2 2,q1 7 40 6,qO 8 7,zM 9 8,zG 9 false 10 (.load true 2 (.t 2)),zG 9 false 11 (.mv (.t 1)),⟨(some (9,false)),some 12,.call 67 [.t 10,.t 11]⟩,zG 9 false 13 (.bin .lss (.t 12) (kI 0)),qQ 14 9 13] [1,2,4,14]) (.cond (.t 14) (.seq (.reg [ zA 15 (.build [.c (.str []),je 0,je 0,je 0,.c (.str []),.fU 1,.fU 5] []),qS 7 4 15,qB 5 false] [4,5]) .ret) .skip)) (.seq (.kC [ (qT 16 2 2,[]),(q1 17 68 16,[0]),(zA 18 (.field false 0 1 (.t 17)),[0,1]),(qT 19 2 2,[]),(zM 20 1,[]),(q2 21 67 19 20,[0,1,3,4]),(qD 22 7 18 21,[0,1,2,3,4,5]),(qT 23 7 22,[0,1,2,3,4,5,6]),(qS 7 4 23,[0,1,2,3,4,5,6,7]),(qB 5 true,[0,1,2,3,4,5,6,7,8])] [4,5]) .ret)))
theorem K.lH:dU pZ 83 2 0 C.lH [.cell 4 true 7,.tmp 5]=true:=by kernel_rfl
def C.iW:aP:=(.seq (.reg [ zA 2 (.mv (.k (.c (.str []))))] [0]) (.seq (.reg [ zA 3 (.mv (.k (.c (.str [34]))))] [0,3]) (.seq (.seq (.reg [ qI 4 0] [0,3,4]) (.block 0 (.loop (.seq (.seq (.reg [ zM 5 4,zM 6 0,zA 7 (.lens (.t 6)),zA 8 (.bin .lss (.t 5) (.t 7))] [0,3,4,8]) (.cond (.t 8) .skip (.exit 0))) (.seq (.block 1 (.seq (.seq (.reg [ zM 11 0,zM 12 4,zA 13 (.idxs (.t 11) (.t 12)),zA 14 (.bin .eql (.t 13) (.k (.c (.lit (.int .u8 34))))),zM 15 14,zG 15 false 16 (.mv (.t 0)),zG 15 false 17 (.mv (.t 4)),zG 15 false 18 (.idxs (.t 16) (.t 17)),zG 15 false 19 (.bin .eql (.t 18) (.k (.c (.lit (.int .u8 92))))),qQ 20 15 19] [0,3,4,20]) (.cond (.t 20) (.reg [ zM 21 3,zA 22 (.bin .add (.t 21) (.k (.c (.str [92])))),zM 3 22] [0,3,4]) .skip)) (.reg [ zM 23 3,zM 24 0,zM 25 4,zM 26 4,zA 27 (.bin .add (.t 26) (kI 1)),zA 28 (.FO (.t 24) (some (.t 25)) (some (.t 27))),zA 29 (.bin .add (.t 23) (.t 28)),zM 3 29] [0,3,4]))) (.reg [ zM 9 4,zA 10 (.bin .add (.t 9) (kI 1)),zM 4 10] [0,3,4])))))) (.seq (.reg [ zM 30 3,zA 31 (.bin .add (.t 30) (.k (.c (.str [34])))),zM 2 31] [2]) .ret))))
theorem K.iW:dU pZ 143 1 0 C.iW [.tmp 2]=true:=by kernel_rfl
end Go.Ab
end
