/- The functions of the program that the laws reach: what they compute, the proofs that they do, the laws of the data (part 1). No conditions. -/
import Derived.Test.YtmhpmikikfjgcaaGreatDoorX2
set_option linter.unusedVariables false
set_option linter.unusedSimpArgs false
section
namespace Go.Ab
open Go
set_option maxRecDepth 100000
set_option maxHeartbeats 4000000
set_option linter.unusedVariables false
set_option linter.unusedSimpArgs false
structure af where
 Kind:Int
 Num:Int
 Text:aA
 Names:List aA
 Kids:List af
 deriving Inhabited
mutual
def af.cells:af->List Cell
 | af.mk x0 x1 x2 x3 x4=>[.lit (.int .i64 x0),.lit (.int .i64 x1),.str x2,.sl 1 (List.map cS x3),.sl 5 (af.pX x4)]
def af.pX:List af->List (List Cell)
 | []=>[]
 | x::r=>x.cells::af.pX r
end
theorem af.zD (ks:List af):af.pX ks=List.map af.cells ks:=by
 induction ks with
 | nil=>rfl
 | cons x r ih=>simp [af.pX,ih]
theorem af.cO (n:af):n.cells=[.lit (.int .i64 n.Kind),.lit (.int .i64 n.Num),.str n.Text,.sl 1 (List.map cS n.Names),.sl 5 (List.map af.cells n.Kids)]:=by
 cases n
 rw [af.cells,af.zD]
structure iI where
 Kind:Int
 Path:List aA
 From:List aA
 Value:af
 deriving Inhabited
def iI.cells (n:iI):List Cell:=[.lit (.int .i64 n.Kind),.sl 1 (List.map cS n.Path),.sl 1 (List.map cS n.From),.lit (.int .i64 n.Value.Kind),.lit (.int .i64 n.Value.Num),.str n.Value.Text,.sl 1 (List.map cS n.Value.Names),.sl 5 (List.map af.cells n.Value.Kids)]
theorem iI.cO (n:iI):n.cells=[.lit (.int .i64 n.Kind),.sl 1 (List.map cS n.Path),.sl 1 (List.map cS n.From),.lit (.int .i64 n.Value.Kind),.lit (.int .i64 n.Value.Num),.str n.Value.Text,.sl 1 (List.map cS n.Value.Names),.sl 5 (List.map af.cells n.Value.Kids)]:=rfl
structure RequestT where
 Method:Int
 Name:aA
 Want:List aA
 jk:List aA
 Body:af
 Ops:List iI
 deriving Inhabited
def RequestT.cells (n:RequestT):List Cell:=[.lit (.int .i64 n.Method),.str n.Name,.sl 1 (List.map cS n.Want),.sl 1 (List.map cS n.jk),.lit (.int .i64 n.Body.Kind),.lit (.int .i64 n.Body.Num),.str n.Body.Text,.sl 1 (List.map cS n.Body.Names),.sl 5 (List.map af.cells n.Body.Kids),.sl 8 (List.map iI.cells n.Ops)]
theorem RequestT.cO (n:RequestT):n.cells=[.lit (.int .i64 n.Method),.str n.Name,.sl 1 (List.map cS n.Want),.sl 1 (List.map cS n.jk),.lit (.int .i64 n.Body.Kind),.lit (.int .i64 n.Body.Num),.str n.Body.Text,.sl 1 (List.map cS n.Body.Names),.sl 5 (List.map af.cells n.Body.Kids),.sl 8 (List.map iI.cells n.Ops)]:=rfl
structure kY where
 Func:aA
 Num:aA
 Err:Unit
 deriving Inhabited
def kY.cells (n:kY):List Cell:=[.str n.Func,.str n.Num,.lit .nilIface]
theorem kY.cO (n:kY):n.cells=[.str n.Func,.str n.Num,.lit .nilIface]:=rfl
structure au where
 text:aA
 at_:Int
 deriving Inhabited
def au.cells (n:au):List Cell:=[.str n.text,.lit (.int .i64 n.at_)]
theorem au.cO (n:au):n.cells=[.str n.text,.lit (.int .i64 n.at_)]:=rfl
structure ReaderT where
 b:List Int
 p:Int
 deriving Inhabited
def ReaderT.cells (n:ReaderT):List Cell:=[.sl 1 (List.map cU n.b),.lit (.int .i64 n.p)]
theorem ReaderT.cO (n:ReaderT):n.cells=[.sl 1 (List.map cU n.b),.lit (.int .i64 n.p)]:=rfl
structure dN where
 Name:aA
 Version:Int
 Node:af
 deriving Inhabited
def dN.cells (n:dN):List Cell:=[.str n.Name,.lit (.int .i64 n.Version),.lit (.int .i64 n.Node.Kind),.lit (.int .i64 n.Node.Num),.str n.Node.Text,.sl 1 (List.map cS n.Node.Names),.sl 5 (List.map af.cells n.Node.Kids)]
theorem dN.cO (n:dN):n.cells=[.str n.Name,.lit (.int .i64 n.Version),.lit (.int .i64 n.Node.Kind),.lit (.int .i64 n.Node.Num),.str n.Node.Text,.sl 1 (List.map cS n.Node.Names),.sl 5 (List.map af.cells n.Node.Kids)]:=rfl
structure StoreT where
 Items:List dN
 Clock:Int
 deriving Inhabited
def StoreT.cells (n:StoreT):List Cell:=[.sl 7 (List.map dN.cells n.Items),.lit (.int .i64 n.Clock)]
theorem StoreT.cO (n:StoreT):n.cells=[.sl 7 (List.map dN.cells n.Items),.lit (.int .i64 n.Clock)]:=rfl
structure aV where
 text:aA
 at_:Int
 bad:Bool
 deriving Inhabited
def aV.cells (n:aV):List Cell:=[.str n.text,.lit (.int .i64 n.at_),.lit (.bool n.bad)]
theorem aV.cO (n:aV):n.cells=[.str n.text,.lit (.int .i64 n.at_),.lit (.bool n.bad)]:=rfl
end Go.Ab
end
section
namespace Go.Ab
open Go
set_option maxRecDepth 100000
set_option maxHeartbeats 4000000
set_option linter.unusedVariables false
set_option linter.unusedSimpArgs false
def G.bJ.L1 (f:Nat) (ai:aA) (ak:Int):Option (Bool):=match f with
| 0=>none
| n+1 =>
(cond (decide (ak<((ai.length:Nat):Int)))
(chk (0<=ak/\ak<((ai.length:Nat):Int))
(cond (decide ((((ai.getD ak.toNat 0).toNat:Nat):Int)<32))
(some (false))
(chk (0<=ak/\ak<((ai.length:Nat):Int))
(cond (decide (126<(((ai.getD ak.toNat 0).toNat:Nat):Int)))
(some (false))
(G.bJ.L1 n ai (IntKind.wrap .i64 (ak+1)))))))
(some (true)))
def G.bJ (f:Nat) (ai:aA):Option (Bool):=match f with
| 0=>none
| n+1 =>
(cond (decide (12<((ai.length:Nat):Int)))
(some (false))
(G.bJ.L1 n ai 0))
def G.dQ.L1 (f:Nat) (jU:List aA) (iG:Int):Option (Bool):=match f with
| 0=>none
| n+1 =>
(cond (decide (iG<((jU.length:Nat):Int)))
(chk (0<=iG/\iG<((jU.length:Nat):Int))
((G.bJ n (jU.getD iG.toNat default)).bind fun v3 =>
(cond v3
(cond (decide (0<iG))
(chk (0<=(IntKind.wrap .i64 (iG-1))/\(IntKind.wrap .i64 (iG-1))<((jU.length:Nat):Int))
(cond (Op.bytesLess (jU.getD (IntKind.wrap .i64 (iG-1)).toNat default) (jU.getD iG.toNat default))
(G.dQ.L1 n jU (IntKind.wrap .i64 (iG+1)))
(some (false))))
(G.dQ.L1 n jU (IntKind.wrap .i64 (iG+1))))
(some (false)))))
(some (true)))
def G.dQ (f:Nat) (jU:List aA):Option (Bool):=match f with
| 0=>none
| n+1 =>
(cond (decide (6<((jU.length:Nat):Int)))
(some (false))
(G.dQ.L1 n jU 0))
def G.aS.K1 (f:Nat) (ag:af):Option (Bool):=match f with
| 0=>none
| n+1 =>
(cond (ag.Kind != 4)
(cond (decide (0<((ag.Names.length:Nat):Int)))
(some (false))
(cond (ag.Kind==0)
(some ((((ag.Kids.length:Nat):Int)==0)))
(cond (ag.Kind==1)
(cond (decide ((-999999)<=ag.Num))
(cond (decide (ag.Num<=999999))
(some ((((ag.Kids.length:Nat):Int)==0)))
(some (false)))
(some (false)))
(cond (ag.Kind==2)
((G.bJ n ag.Text).bind fun v1 =>
(cond v1
(some ((((ag.Kids.length:Nat):Int)==0)))
(some (false))))
(cond (ag.Kind==3)
(some ((decide (((ag.Kids.length:Nat):Int)<=6))))
(cond (ag.Kind==4)
((G.dQ n ag.Names).bind fun v2 =>
(cond v2
(some ((((ag.Kids.length:Nat):Int)==((ag.Names.length:Nat):Int))))
(some (false))))
(some (false))))))))
(cond (ag.Kind==0)
(some ((((ag.Kids.length:Nat):Int)==0)))
(cond (ag.Kind==1)
(cond (decide ((-999999)<=ag.Num))
(cond (decide (ag.Num<=999999))
(some ((((ag.Kids.length:Nat):Int)==0)))
(some (false)))
(some (false)))
(cond (ag.Kind==2)
((G.bJ n ag.Text).bind fun v3 =>
(cond v3
(some ((((ag.Kids.length:Nat):Int)==0)))
(some (false))))
(cond (ag.Kind==3)
(some ((decide (((ag.Kids.length:Nat):Int)<=6))))
(cond (ag.Kind==4)
((G.dQ n ag.Names).bind fun v4 =>
(cond v4
(some ((((ag.Kids.length:Nat):Int)==((ag.Names.length:Nat):Int))))
(some (false))))
(some (false))))))))
def G.aS (f:Nat) (ag:af):Option (Bool):=match f with
| 0=>none
| n+1 =>
(cond (ag.Kind != 1)
(cond (ag.Num != 0)
(some (false))
(cond (ag.Kind != 2)
(cond (ag.Text==[])
(G.aS.K1 n ag)
(some (false)))
(G.aS.K1 n ag)))
(cond (ag.Kind != 2)
(cond (ag.Text==[])
(G.aS.K1 n ag)
(some (false)))
(G.aS.K1 n ag)))
mutual
def G.aJ.L1 (f:Nat) (ag:af) (gq:Int) (DD:Int) (yO:Int) (iG:Int):Option (Int × Int × Bool):=match f with
| 0=>none
| n+1 =>
(cond (decide (iG<((ag.Kids.length:Nat):Int)))
(chk (0<=iG/\iG<((ag.Kids.length:Nat):Int))
((G.aJ n (ag.Kids.getD iG.toNat default) (IntKind.wrap .i64 (gq+1))).bind fun v4 =>
(cond v4.2.2
(G.aJ.L1 n ag gq (IntKind.wrap .i64 (DD+v4.1)) (if (IntKind.wrap .i64 (v4.2.1+1))>yO then (IntKind.wrap .i64 (v4.2.1+1)) else yO) (IntKind.wrap .i64 (iG+1)))
(some (0,0,false)))))
(some (DD,yO,true)))
def G.aJ (f:Nat) (ag:af) (gq:Int):Option (Int × Int × Bool):=match f with
| 0=>none
| n+1 =>
(cond (decide (5<gq))
(some (0,0,false))
((G.aS n ag).bind fun v1 =>
(cond v1
(G.aJ.L1 n ag gq 1 1 0)
(some (0,0,false)))))
end
def G.cZ (f:Nat) (ag:af):Option (Bool):=match f with
| 0=>none
| n+1 =>
((G.aJ n ag 1).bind fun v1 =>
(cond v1.2.2
(some ((decide (v1.1<=40))))
(some (false))))
def G.ax (f:Nat) (b:dF) (c:Int):Option (Unit × dF):=match f with
| 0=>none
| _+1=>(chk ((0<=c/\c<256)/\b.buf.length+1<=140737488355328) (some ((),dF.mk (b.buf++[UInt8.ofNat c.toNat]))))
mutual
def G.bT.K4 (f:Nat) (ai:aA) (ak:Int) (z5:aA):Option (dF):=match f with
| 0=>none
| n+1 =>
(chk (0<=ak/\ak<((ai.length:Nat):Int))
((G.ax n (dF.mk z5) (((ai.getD ak.toNat 0).toNat:Nat):Int)).bind fun v14 =>
(G.bT.L3 n ai (IntKind.wrap .i64 (ak+1)) v14.2.buf)))
def G.bT.L3 (f:Nat) (ai:aA) (ak:Int) (z4:aA):Option (dF):=match f with
| 0=>none
| n+1 =>
(cond (decide (ak<((ai.length:Nat):Int)))
(chk (0<=ak/\ak<((ai.length:Nat):Int))
(cond ((((ai.getD ak.toNat 0).toNat:Nat):Int)==34)
((G.ax n (dF.mk z4) 92).bind fun v15 =>
(G.bT.K4 n ai ak v15.2.buf))
(chk (0<=ak/\ak<((ai.length:Nat):Int))
(cond ((((ai.getD ak.toNat 0).toNat:Nat):Int)==92)
((G.ax n (dF.mk z4) 92).bind fun v16 =>
(G.bT.K4 n ai ak v16.2.buf))
(G.bT.K4 n ai ak z4)))))
((G.ax n (dF.mk z4) 34).bind fun v17 =>
(some (v17.2))))
end
def G.bT (f:Nat) (lV:dF) (ai:aA):Option (dF):=match f with
| 0=>none
| n+1 =>
((G.ax n lV 34).bind fun v1 =>
(G.bT.L3 n ai 0 v1.2.buf))
def G.strconv_Itoa (f:Nat) (i:Int):Option aA:=match f with
| 0=>none
| _+1=>(chk ((-9223372036854775808<=i/\i<=9223372036854775807)/\(Lib.itoa i).length<=1000000) (some (Lib.itoa i)))
def G.eX (f:Nat) (b:dF) (s:aA):Option (Int × Unit × dF):=match f with
| 0=>none
| _+1=>(chk (b.buf.length+s.length<=140737488355328) (some (((s.length:Nat):Int),(),dF.mk (b.buf++s))))
mutual
def G.aN.K4 (f:Nat) (ag:af) (iG:Int) (z4:aA):Option (dF):=match f with
| 0=>none
| n+1 =>
((G.aN n (dF.mk z4) (ag.Kids.getD iG.toNat default)).bind fun v11 =>
(G.aN.L3 n ag (IntKind.wrap .i64 (iG+1)) v11.buf))
def G.aN.L3 (f:Nat) (ag:af) (iG:Int) (z3:aA):Option (dF):=match f with
| 0=>none
| n+1 =>
(cond (decide (iG<((ag.Kids.length:Nat):Int)))
(chk (0<=iG/\iG<((ag.Kids.length:Nat):Int))
(cond (decide (0<iG))
((G.ax n (dF.mk z3) 44).bind fun v12 =>
(G.aN.K4 n ag iG v12.2.buf))
(G.aN.K4 n ag iG z3)))
((G.ax n (dF.mk z3) 93).bind fun v13 =>
(some (v13.2))))
def G.aN.K8 (f:Nat) (ag:af) (vF:Int) (z8:aA):Option (dF):=match f with
| 0=>none
| n+1 =>
(chk (0<=vF/\vF<((ag.Names.length:Nat):Int))
((G.bT n (dF.mk z8) (ag.Names.getD vF.toNat default)).bind fun v24 =>
((G.ax n v24 58).bind fun v25 =>
((G.aN n v25.2 (ag.Kids.getD vF.toNat default)).bind fun v26 =>
(G.aN.L7 n ag (IntKind.wrap .i64 (vF+1)) v26.buf)))))
def G.aN.L7 (f:Nat) (ag:af) (vF:Int) (z7:aA):Option (dF):=match f with
| 0=>none
| n+1 =>
(cond (decide (vF<((ag.Kids.length:Nat):Int)))
(chk (0<=vF/\vF<((ag.Kids.length:Nat):Int))
(cond (decide (0<vF))
((G.ax n (dF.mk z7) 44).bind fun v27 =>
(G.aN.K8 n ag vF v27.2.buf))
(G.aN.K8 n ag vF z7)))
((G.ax n (dF.mk z7) 125).bind fun v28 =>
(some (v28.2))))
def G.aN (f:Nat) (lV:dF) (ag:af):Option (dF):=match f with
| 0=>none
| n+1 =>
(cond (ag.Kind==0)
((G.eX n lV [110,117,108,108]).bind fun v1 =>
(some (v1.2.2)))
(cond (ag.Kind==1)
((G.strconv_Itoa n ag.Num).bind fun v2 =>
((G.eX n lV v2).bind fun v3 =>
(some (v3.2.2))))
(cond (ag.Kind==2)
((G.bT n lV ag.Text).bind fun v4 =>
(some (v4)))
(cond (ag.Kind==3)
((G.ax n lV 91).bind fun v5 =>
(G.aN.L3 n ag 0 v5.2.buf))
(cond (ag.Kind==4)
((G.ax n lV 123).bind fun v14 =>
(G.aN.L7 n ag 0 v14.2.buf))
(some (lV)))))))
end
def G.fF (f:Nat) (b:dF):Option aA:=match f with
| 0=>none
| _+1=>(chk (b.buf.length<=140737488355328) (some b.buf))
def G.iE (f:Nat) (ag:af):Option (aA):=match f with
| 0=>none
| n+1 =>
((G.cZ n ag).bind fun v1 =>
(cond v1
((G.aN n (dF.mk []) ag).bind fun v2 =>
((G.fF n v2).bind fun v3 =>
(some (v3))))
(some ([]))))
def G.dS (f:Nat) (ai:aA) (o7:Int):Option (Int):=match f with
| 0=>none
| n+1 =>
(some ((Go.Lib.indexByte ai o7.toNat.toUInt8)))
def G.strings_IndexByte (f:Nat) (ai:aA) (o7:Int):Option (Int):=match f with
| 0=>none
| n+1 =>
((G.dS n ai o7).bind fun v1 =>
(some (v1)))
def G.iF.L1 (f:Nat) (ai:aA) (ak:Int):Option (Bool):=match f with
| 0=>none
| n+1 =>
(cond (decide (ak<((ai.length:Nat):Int)))
(chk (0<=ak/\ak<((ai.length:Nat):Int))
((G.strings_IndexByte n [48,49,50,51,52,53,54,55,56,57,97,98,99,100,101,102] (((ai.getD ak.toNat 0).toNat:Nat):Int)).bind fun v3 =>
(cond (decide (v3<0))
(some (false))
(G.iF.L1 n ai (IntKind.wrap .i64 (ak+1))))))
(some (true)))
def G.iF (f:Nat) (ai:aA):Option (Bool):=match f with
| 0=>none
| n+1 =>
(cond (((ai.length:Nat):Int) != 4)
(some (false))
(G.iF.L1 n ai 0))
def G.dX.L1 (f:Nat) (aB:List aA) (iG:Int):Option (Bool):=match f with
| 0=>none
| n+1 =>
(cond (decide (iG<((aB.length:Nat):Int)))
(chk (0<=iG/\iG<((aB.length:Nat):Int))
(cond ((aB.getD iG.toNat default)==[42])
(G.dX.L1 n aB (IntKind.wrap .i64 (iG+1)))
((G.iF n (aB.getD iG.toNat default)).bind fun v3 =>
(cond v3
(G.dX.L1 n aB (IntKind.wrap .i64 (iG+1)))
(some (false))))))
(some (true)))
def G.dX (f:Nat) (aB:List aA):Option (Bool):=match f with
| 0=>none
| n+1 =>
(cond (decide (4<((aB.length:Nat):Int)))
(some (false))
(G.dX.L1 n aB 0))
mutual
def G.bQ.K4 (f:Nat) (aB:List aA) (iG:Int) (z4:aA):Option (aA):=match f with
| 0=>none
| n+1 =>
(cond ((aB.getD iG.toNat default)==[42])
((G.eX n (dF.mk z4) (aB.getD iG.toNat default)).bind fun v9 =>
(G.bQ.L3 n aB (IntKind.wrap .i64 (iG+1)) v9.2.2.buf))
((G.bT n (dF.mk z4) (aB.getD iG.toNat default)).bind fun v10 =>
(G.bQ.L3 n aB (IntKind.wrap .i64 (iG+1)) v10.buf)))
def G.bQ.L3 (f:Nat) (aB:List aA) (iG:Int) (z3:aA):Option (aA):=match f with
| 0=>none
| n+1 =>
(cond (decide (iG<((aB.length:Nat):Int)))
(chk (0<=iG/\iG<((aB.length:Nat):Int))
(cond (decide (0<iG))
((G.ax n (dF.mk z3) 44).bind fun v11 =>
(G.bQ.K4 n aB iG v11.2.buf))
(G.bQ.K4 n aB iG z3)))
((G.fF n (dF.mk z3)).bind fun v12 =>
(some (v12))))
end
def G.bQ (f:Nat) (aB:List aA):Option (aA):=match f with
| 0=>none
| n+1 =>
((G.dX n aB).bind fun v1 =>
(cond v1
(G.bQ.L3 n aB 0 [])
(some ([]))))
def G.jy (f:Nat) (ag:af) (BI:Bool):Option (af × Bool):=match f with
| 0=>none
| n+1 =>
(cond BI
((G.cZ n ag).bind fun v1 =>
(cond v1
(some (ag,true))
(some ((af.mk 0 0 [] [] []),false))))
(some ((af.mk 0 0 [] [] []),false)))
mutual
def G.aX.L2 (f:Nat) (ag:af) (z1:List aA) (iG:Int) (z4:List af):Option (af):=match f with
| 0=>none
| n+1 =>
(cond (decide (iG<((ag.Kids.length:Nat):Int)))
(chk (0<=iG/\iG<((ag.Kids.length:Nat):Int))
((G.aX n (ag.Kids.getD iG.toNat default)).bind fun v3 =>
(chk (0<=iG/\iG<((z4.length:Nat):Int))
(G.aX.L2 n ag z1 (IntKind.wrap .i64 (iG+1)) (z4.set iG.toNat v3)))))
(some ((af.mk ag.Kind ag.Num ag.Text z1 z4))))
def G.aX.K1 (f:Nat) (ag:af) (z1:List aA):Option (af):=match f with
| 0=>none
| n+1 =>
(cond (decide (0<((ag.Kids.length:Nat):Int)))
(chk (0<=((ag.Kids.length:Nat):Int)/\((ag.Kids.length:Nat):Int)<=((ag.Kids.length:Nat):Int)/\80*((ag.Kids.length:Nat):Int)<=2^47/\((ag.Kids.length:Nat):Int)<=2^47)
(G.aX.L2 n ag z1 0 (List.replicate ag.Kids.length (af.mk 0 0 [] [] []))))
(some ((af.mk ag.Kind ag.Num ag.Text z1 []))))
def G.aX (f:Nat) (ag:af):Option (af):=match f with
| 0=>none
| n+1 =>
(cond (decide (0<((ag.Names.length:Nat):Int)))
(chk (0<=((ag.Names.length:Nat):Int)/\((ag.Names.length:Nat):Int)<=((ag.Names.length:Nat):Int)/\16*((ag.Names.length:Nat):Int)<=2^47/\((ag.Names.length:Nat):Int)<=2^47)
(G.aX.K1 n ag ag.Names))
(G.aX.K1 n ag []))
end
def G.fA.L1 (f:Nat) (aQ:List aA) (iG:Int):Option (Bool):=match f with
| 0=>none
| n+1 =>
(cond (decide (iG<((aQ.length:Nat):Int)))
(chk (0<=iG/\iG<((aQ.length:Nat):Int))
((G.bJ n (aQ.getD iG.toNat default)).bind fun v3 =>
(cond v3
(G.fA.L1 n aQ (IntKind.wrap .i64 (iG+1)))
(some (false)))))
(some (true)))
def G.fA (f:Nat) (aQ:List aA):Option (Bool):=match f with
| 0=>none
| n+1 =>
(cond (decide (5<((aQ.length:Nat):Int)))
(some (false))
(G.fA.L1 n aQ 0))
def G.jo (f:Nat) (jJ:iI):Option (Bool):=match f with
| 0=>none
| n+1 =>
(cond (decide (1<=jJ.Kind))
(cond (decide (jJ.Kind<=6))
((G.fA n jJ.Path).bind fun v1 =>
(cond v1
((G.fA n jJ.From).bind fun v2 =>
(cond v2
((G.cZ n jJ.Value).bind fun v3 =>
(some (v3)))
(some (false))))
(some (false))))
(some (false)))
(some (false)))
def G.jv (f:Nat) (jl:Int):Option (aA):=match f with
| 0=>none
| n+1 =>
(cond (jl==1)
(some ([97,100,100]))
(cond (jl==2)
(some ([114,101,109,111,118,101]))
(cond (jl==3)
(some ([114,101,112,108,97,99,101]))
(cond (jl==4)
(some ([109,111,118,101]))
(cond (jl==5)
(some ([99,111,112,121]))
(cond (jl==6)
(some ([116,101,115,116]))
(some ([]))))))))
def G.eY.L1 (f:Nat) (aQ:List aA) (iG:Int) (z2:List af):Option (af):=match f with
| 0=>none
| n+1 =>
(cond (decide (iG<((aQ.length:Nat):Int)))
(chk (0<=iG/\iG<((aQ.length:Nat):Int))
(chk ((z2.length+1)*86<=2^46)
(G.eY.L1 n aQ (IntKind.wrap .i64 (iG+1)) (z2++[(af.mk 2 0 (aQ.getD iG.toNat default) [] [])]))))
(some ((af.mk 3 0 [] [] z2))))
def G.eY (f:Nat) (aQ:List aA):Option (af):=match f with
| 0=>none
| n+1 =>
(G.eY.L1 n aQ 0 [])
def G.jf (f:Nat) (jJ:iI):Option (af × Bool):=match f with
| 0=>none
| n+1 =>
((G.jo n jJ).bind fun v1 =>
(cond v1
((G.eY n jJ.From).bind fun v2 =>
((G.jv n jJ.Kind).bind fun v3 =>
((G.eY n jJ.Path).bind fun v4 =>
((G.aX n jJ.Value).bind fun v5 =>
((G.jy n (af.mk 4 0 [] [[102,114,111,109],[111,112],[112,97,116,104],[118,97,108,117,101]] [v2,(af.mk 2 0 v3 [] []),v4,v5]) true).bind fun v6 =>
(some (v6.1,v6.2)))))))
(some ((af.mk 0 0 [] [] []),false))))
def G.eU.L1 (f:Nat) (aB:List iI) (iG:Int) (z2:aA):Option (aA × Bool):=match f with
| 0=>none
| n+1 =>
(cond (decide (iG<((aB.length:Nat):Int)))
(chk (0<=iG/\iG<((aB.length:Nat):Int))
((G.jf n (iI.mk ((aB.getD iG.toNat default).Kind) ((aB.getD iG.toNat default).Path) ((aB.getD iG.toNat default).From) ((aB.getD iG.toNat default).Value))).bind fun v7 =>
(cond v7.2
((G.aN n (dF.mk z2) v7.1).bind fun v8 =>
((G.ax n v8 59).bind fun v9 =>
(G.eU.L1 n aB (IntKind.wrap .i64 (iG+1)) v9.2.buf)))
(some ([],false)))))
((G.fF n (dF.mk z2)).bind fun v10 =>
(some (v10,true))))
def G.eU (f:Nat) (aB:List iI):Option (aA × Bool):=match f with
| 0=>none
| n+1 =>
(G.eU.L1 n aB 0 [])
def G.bP.L1 (f:Nat) (aB:List iI) (iG:Int):Option (Bool):=match f with
| 0=>none
| n+1 =>
(cond (decide (iG<((aB.length:Nat):Int)))
(chk (0<=iG/\iG<((aB.length:Nat):Int))
((G.jo n (iI.mk ((aB.getD iG.toNat default).Kind) ((aB.getD iG.toNat default).Path) ((aB.getD iG.toNat default).From) ((aB.getD iG.toNat default).Value))).bind fun v3 =>
(cond v3
(G.bP.L1 n aB (IntKind.wrap .i64 (iG+1)))
(some (false)))))
(some (true)))
def G.bP (f:Nat) (aB:List iI):Option (Bool):=match f with
| 0=>none
| n+1 =>
(cond (decide (12<((aB.length:Nat):Int)))
(some (false))
(G.bP.L1 n aB 0))
def G.fM.L1 (f:Nat) (ai:aA) (ak:Int):Option (Bool):=match f with
| 0=>none
| n+1 =>
(cond (decide (ak<((ai.length:Nat):Int)))
(chk (0<=ak/\ak<((ai.length:Nat):Int))
(cond (decide ((((ai.getD ak.toNat 0).toNat:Nat):Int)<97))
(chk (0<=ak/\ak<((ai.length:Nat):Int))
(cond (decide ((((ai.getD ak.toNat 0).toNat:Nat):Int)<48))
(some (false))
(chk (0<=ak/\ak<((ai.length:Nat):Int))
(cond (decide (57<(((ai.getD ak.toNat 0).toNat:Nat):Int)))
(some (false))
(G.fM.L1 n ai (IntKind.wrap .i64 (ak+1)))))))
(chk (0<=ak/\ak<((ai.length:Nat):Int))
(cond (decide (122<(((ai.getD ak.toNat 0).toNat:Nat):Int)))
(chk (0<=ak/\ak<((ai.length:Nat):Int))
(cond (decide ((((ai.getD ak.toNat 0).toNat:Nat):Int)<48))
(some (false))
(chk (0<=ak/\ak<((ai.length:Nat):Int))
(cond (decide (57<(((ai.getD ak.toNat 0).toNat:Nat):Int)))
(some (false))
(G.fM.L1 n ai (IntKind.wrap .i64 (ak+1)))))))
(G.fM.L1 n ai (IntKind.wrap .i64 (ak+1)))))))
(some (true)))
def G.fM (f:Nat) (ai:aA):Option (Bool):=match f with
| 0=>none
| n+1 =>
(cond (ai==[])
(some (false))
(cond (decide (8<((ai.length:Nat):Int)))
(some (false))
(G.fM.L1 n ai 0)))
def G.gV (f:Nat) (bH:RequestT):Option (Bool):=match f with
| 0=>none
| n+1 =>
(cond (decide (1<=bH.Method))
(cond (decide (bH.Method<=5))
((G.fM n bH.Name).bind fun v1 =>
(cond v1
((G.dX n bH.Want).bind fun v2 =>
(cond v2
((G.dX n bH.jk).bind fun v3 =>
(cond v3
((G.cZ n bH.Body).bind fun v4 =>
(cond v4
((G.bP n bH.Ops).bind fun v5 =>
(some (v5)))
(some (false))))
(some (false))))
(some (false))))
(some (false))))
(some (false)))
(some (false)))
def G.gI (f:Nat) (lU:Int):Option (aA):=match f with
| 0=>none
| n+1 =>
(cond (lU==1)
(some ([103,101,116]))
(cond (lU==2)
(some ([112,117,116]))
(cond (lU==3)
(some ([100,101,108,101,116,101]))
(cond (lU==4)
(some ([112,97,116,99,104]))
(cond (lU==5)
(some ([109,101,114,103,101]))
(some ([])))))))
def G.strings_Join (f:Nat) (l:List aA) (s:aA):Option aA:=match f with
| 0=>none
| _+1=>(chk (l.length<=140737488355328/\(Lib.join l s).length<=140737488355328) (some (Lib.join l s)))
def G.ah.K2 (f:Nat) (bH:RequestT) (Ey:aA):Option (aA):=match f with
| 0=>none
| n+1 =>
((G.gI n bH.Method).bind fun v4 =>
((G.bQ n bH.Want).bind fun v5 =>
((G.bQ n bH.jk).bind fun v6 =>
((G.strings_Join n [v4,bH.Name,v5,v6,Ey] [32]).bind fun v7 =>
(some (v7))))))
def G.ah.K1 (f:Nat) (bH:RequestT):Option (aA):=match f with
| 0=>none
| n+1 =>
((G.iE n bH.Body).bind fun v2 =>
(cond (bH.Method==4)
((G.eU n bH.Ops).bind fun v8 =>
(cond v8.2
(G.ah.K2 n bH v8.1)
(some ([]))))
(G.ah.K2 n bH v2)))
def G.ah.K4 (f:Nat) (bH:RequestT) (Ez:aA):Option (aA):=match f with
| 0=>none
| n+1 =>
((G.gI n bH.Method).bind fun v11 =>
((G.bQ n bH.Want).bind fun v12 =>
((G.bQ n bH.jk).bind fun v13 =>
((G.strings_Join n [v11,bH.Name,v12,v13,Ez] [32]).bind fun v14 =>
(some (v14))))))
def G.ah.K3 (f:Nat) (bH:RequestT):Option (aA):=match f with
| 0=>none
| n+1 =>
((G.iE n bH.Body).bind fun v9 =>
(cond (bH.Method==4)
((G.eU n bH.Ops).bind fun v15 =>
(cond v15.2
(G.ah.K4 n bH v15.1)
(some ([]))))
(G.ah.K4 n bH v9)))
def G.ah (f:Nat) (bH:RequestT):Option (aA):=match f with
| 0=>none
| n+1 =>
((G.gV n bH).bind fun v1 =>
(cond v1
(cond (bH.Method==2)
(cond (bH.Method != 4)
(cond (decide (0<((bH.Ops.length:Nat):Int)))
(some ([]))
(G.ah.K1 n bH))
(G.ah.K1 n bH))
(cond (bH.Method==5)
(cond (bH.Method != 4)
(cond (decide (0<((bH.Ops.length:Nat):Int)))
(some ([]))
(G.ah.K3 n bH))
(G.ah.K3 n bH))
(cond (bH.Body.Kind != 0)
(some ([]))
(cond (bH.Method != 4)
(cond (decide (0<((bH.Ops.length:Nat):Int)))
(some ([]))
(G.ah.K3 n bH))
(G.ah.K3 n bH)))))
(some ([]))))
def G.dR.L1 (f:Nat) (ag:af) (iG:Int) (z2:List aA):Option (List aA × Bool):=match f with
| 0=>none
| n+1 =>
(cond (decide (iG<((ag.Kids.length:Nat):Int)))
(chk (0<=iG/\iG<((ag.Kids.length:Nat):Int))
(cond ((ag.Kids.getD iG.toNat default).Kind != 2)
(some ([],false))
(chk ((z2.length+1)*18<=2^46)
(G.dR.L1 n ag (IntKind.wrap .i64 (iG+1)) (z2++[(ag.Kids.getD iG.toNat default).Text])))))
((G.fA n z2).bind fun v1 =>
(some (z2,v1))))
def G.dR (f:Nat) (ag:af):Option (List aA × Bool):=match f with
| 0=>none
| n+1 =>
(cond (ag.Kind != 3)
(some ([],false))
(G.dR.L1 n ag 0 []))
def G.bV.L1 (f:Nat) (kH:aA) (kG:Int) (lW:Int):Option (Int × Bool):=match f with
| 0=>none
| n+1 =>
(cond (decide (lW<=kG))
((G.jv n lW).bind fun v3 =>
(cond (v3==kH)
(some (lW,true))
(G.bV.L1 n kH kG (IntKind.wrap .i64 (lW+1)))))
(some (0,false)))
def G.bV (f:Nat) (kH:aA) (lK:Int) (kG:Int):Option (Int × Bool):=match f with
| 0=>none
| n+1 =>
(G.bV.L1 n kH kG lK)
def G.slices_Equal_string.L1 (f:Nat) (oV:List aA) (qw:List aA) (iG:Int):Option (Bool):=match f with
| 0=>none
| n+1 =>
(cond (decide (iG<((oV.length:Nat):Int)))
(chk (0<=iG/\iG<((oV.length:Nat):Int))
(chk (0<=iG/\iG<((qw.length:Nat):Int))
(cond ((oV.getD iG.toNat default)==(qw.getD iG.toNat default))
(G.slices_Equal_string.L1 n oV qw (IntKind.wrap .i64 (iG+1)))
(some (false)))))
(some (true)))
def G.slices_Equal_string (f:Nat) (oV:List aA) (qw:List aA):Option (Bool):=match f with
| 0=>none
| n+1 =>
(cond (((oV.length:Nat):Int) != ((qw.length:Nat):Int))
(some (false))
(G.slices_Equal_string.L1 n oV qw 0))
def G.je (f:Nat) (ag:af):Option (iI × Bool):=match f with
| 0=>none
| n+1 =>
((G.cZ n ag).bind fun v1 =>
(cond v1
(cond (ag.Kind != 4)
(some ((iI.mk 0 [] [] (af.mk 0 0 [] [] [])),false))
((G.slices_Equal_string n ag.Names [[102,114,111,109],[111,112],[112,97,116,104],[118,97,108,117,101]]).bind fun v2 =>
(cond v2
(chk (0<=0/\0<((ag.Kids.length:Nat):Int))
((G.dR n (ag.Kids.getD 0 default)).bind fun v3 =>
(cond v3.2
(chk (0<=1/\1<((ag.Kids.length:Nat):Int))
(cond ((ag.Kids.getD 1 default).Kind != 2)
(some ((iI.mk 0 [] [] (af.mk 0 0 [] [] [])),false))
(chk (0<=1/\1<((ag.Kids.length:Nat):Int))
((G.bV n ((ag.Kids.getD 1 default).Text) 1 6).bind fun v4 =>
(cond v4.2
(chk (0<=2/\2<((ag.Kids.length:Nat):Int))
((G.dR n (ag.Kids.getD 2 default)).bind fun v5 =>
(cond v5.2
(chk (0<=3/\3<((ag.Kids.length:Nat):Int))
((G.aX n (ag.Kids.getD 3 default)).bind fun v6 =>
(some ((iI.mk v4.1 v5.1 v3.1 v6),true))))
(some ((iI.mk 0 [] [] (af.mk 0 0 [] [] [])),false)))))
(some ((iI.mk 0 [] [] (af.mk 0 0 [] [] [])),false)))))))
(some ((iI.mk 0 [] [] (af.mk 0 0 [] [] [])),false)))))
(some ((iI.mk 0 [] [] (af.mk 0 0 [] [] [])),false)))))
(some ((iI.mk 0 [] [] (af.mk 0 0 [] [] [])),false))))
def G.strconv_Atoi (f:Nat) (s:aA):Option (Int × Bool):=match f with
| 0=>none
| _+1=>(chk (s.length<=281474976710656) (some (o8 s)))
def G.aW.L1 (f:Nat) (aC:au) (kF:Int):Option (af × Bool × au):=match f with
| 0=>none
| n+1 =>
(cond (decide (kF<((aC.text.length:Nat):Int)))
(chk (0<=kF/\kF<((aC.text.length:Nat):Int))
(cond ((((aC.text.getD kF.toNat 0).toNat:Nat):Int)==45)
(G.aW.L1 n aC (IntKind.wrap .i64 (kF+1)))
(chk (0<=kF/\kF<((aC.text.length:Nat):Int))
(cond (decide (48<=(((aC.text.getD kF.toNat 0).toNat:Nat):Int)))
(chk (0<=kF/\kF<((aC.text.length:Nat):Int))
(cond (decide ((((aC.text.getD kF.toNat 0).toNat:Nat):Int)<=57))
(G.aW.L1 n aC (IntKind.wrap .i64 (kF+1)))
(chk (0<=aC.at_/\aC.at_<=kF/\kF<=((aC.text.length:Nat):Int))
((G.strconv_Atoi n ((aC.text.take kF.toNat).drop aC.at_.toNat)).bind fun v1 =>
(cond v1.2
(some ((af.mk 0 0 [] [] []),false,aC))
((G.strconv_Itoa n v1.1).bind fun v2 =>
(cond (v2==((aC.text.take kF.toNat).drop aC.at_.toNat))
(some ((af.mk 1 v1.1 [] [] []),true,(au.mk aC.text kF)))
(some ((af.mk 0 0 [] [] []),false,aC)))))))))
(chk (0<=aC.at_/\aC.at_<=kF/\kF<=((aC.text.length:Nat):Int))
((G.strconv_Atoi n ((aC.text.take kF.toNat).drop aC.at_.toNat)).bind fun v3 =>
(cond v3.2
(some ((af.mk 0 0 [] [] []),false,aC))
((G.strconv_Itoa n v3.1).bind fun v4 =>
(cond (v4==((aC.text.take kF.toNat).drop aC.at_.toNat))
(some ((af.mk 1 v3.1 [] [] []),true,(au.mk aC.text kF)))
(some ((af.mk 0 0 [] [] []),false,aC)))))))))))
(chk (0<=aC.at_/\aC.at_<=kF/\kF<=((aC.text.length:Nat):Int))
((G.strconv_Atoi n ((aC.text.take kF.toNat).drop aC.at_.toNat)).bind fun v5 =>
(cond v5.2
(some ((af.mk 0 0 [] [] []),false,aC))
((G.strconv_Itoa n v5.1).bind fun v6 =>
(cond (v6==((aC.text.take kF.toNat).drop aC.at_.toNat))
(some ((af.mk 1 v5.1 [] [] []),true,(au.mk aC.text kF)))
(some ((af.mk 0 0 [] [] []),false,aC))))))))
def G.aW (f:Nat) (aC:au):Option (af × Bool × au):=match f with
| 0=>none
| n+1 =>
(G.aW.L1 n aC aC.at_)
def G.strings_HasPrefix (f:Nat) (s:aA) (p:aA):Option Bool:=match f with
| 0=>none
| _+1=>some (Lib.hasPrefix s p)
def G.dm (f:Nat) (aC:au) (ai:aA):Option (Bool × au):=match f with
| 0=>none
| n+1 =>
(chk (0<=aC.at_/\aC.at_<=((aC.text.length:Nat):Int)/\((aC.text.length:Nat):Int)<=((aC.text.length:Nat):Int))
((G.strings_HasPrefix n (aC.text.drop aC.at_.toNat) ai).bind fun v1 =>
(cond v1
(some (true,(au.mk aC.text (IntKind.wrap .i64 (aC.at_+((ai.length:Nat):Int))))))
(some (false,aC)))))
mutual
def G.aH.K4 (f:Nat) (v1:Bool × au) (z2:aA) (Pg:Int) (y5:Int):Option (aA × Bool × au):=match f with
| 0=>none
| n+1 =>
((G.ax n (dF.mk z2) Pg).bind fun v7 =>
(G.aH.L3 n v1 y5 v7.2.buf))
def G.aH.L3 (f:Nat) (v1:Bool × au) (y4:Int) (z2:aA):Option (aA × Bool × au):=match f with
| 0=>none
| n+1 =>
(cond (decide (y4<((v1.2.text.length:Nat):Int)))
(chk (0<=y4/\y4<((v1.2.text.length:Nat):Int))
(cond ((((v1.2.text.getD y4.toNat 0).toNat:Nat):Int)==34)
((G.fF n (dF.mk z2)).bind fun v6 =>
(some (v6,true,(au.mk v1.2.text (IntKind.wrap .i64 (y4+1))))))
(cond ((((v1.2.text.getD y4.toNat 0).toNat:Nat):Int)==92)
(cond ((IntKind.wrap .i64 (y4+1))==((v1.2.text.length:Nat):Int))
(some ([],false,(au.mk v1.2.text (IntKind.wrap .i64 (y4+1)))))
(chk (0<=(IntKind.wrap .i64 (y4+1))/\(IntKind.wrap .i64 (y4+1))<((v1.2.text.length:Nat):Int))
(cond ((((v1.2.text.getD (IntKind.wrap .i64 (y4+1)).toNat 0).toNat:Nat):Int) != 34)
(chk (0<=(IntKind.wrap .i64 (y4+1))/\(IntKind.wrap .i64 (y4+1))<((v1.2.text.length:Nat):Int))
(cond ((((v1.2.text.getD (IntKind.wrap .i64 (y4+1)).toNat 0).toNat:Nat):Int) != 92)
(some ([],false,(au.mk v1.2.text (IntKind.wrap .i64 (y4+1)))))
(chk (0<=(IntKind.wrap .i64 (y4+1))/\(IntKind.wrap .i64 (y4+1))<((v1.2.text.length:Nat):Int))
(G.aH.K4 n v1 z2 (((v1.2.text.getD (IntKind.wrap .i64 (y4+1)).toNat 0).toNat:Nat):Int) (IntKind.wrap .i64 ((IntKind.wrap .i64 (y4+1))+1))))))
(chk (0<=(IntKind.wrap .i64 (y4+1))/\(IntKind.wrap .i64 (y4+1))<((v1.2.text.length:Nat):Int))
(G.aH.K4 n v1 z2 (((v1.2.text.getD (IntKind.wrap .i64 (y4+1)).toNat 0).toNat:Nat):Int) (IntKind.wrap .i64 ((IntKind.wrap .i64 (y4+1))+1)))))))
(G.aH.K4 n v1 z2 (((v1.2.text.getD y4.toNat 0).toNat:Nat):Int) (IntKind.wrap .i64 (y4+1))))))
(some ([],false,(au.mk v1.2.text y4))))
end
def G.aH (f:Nat) (aC:au):Option (aA × Bool × au):=match f with
| 0=>none
| n+1 =>
((G.dm n aC [34]).bind fun v1 =>
(cond v1.1
(G.aH.L3 n v1 v1.2.at_ [])
(some ([],false,v1.2))))
mutual
def G.cu (f:Nat) (aC:au) (gq:Int):Option (af × Bool × au):=match f with
| 0=>none
| n+1 =>
(cond (decide (5<gq))
(some ((af.mk 0 0 [] [] []),false,aC))
(cond (decide (((aC.text.length:Nat):Int)<=aC.at_))
(some ((af.mk 0 0 [] [] []),false,aC))
(chk (0<=aC.at_/\aC.at_<((aC.text.length:Nat):Int))
(cond ((((aC.text.getD aC.at_.toNat 0).toNat:Nat):Int)==110)
((G.dm n aC [110,117,108,108]).bind fun v1 =>
(some ((af.mk 0 0 [] [] []),v1.1,v1.2)))
(cond ((((aC.text.getD aC.at_.toNat 0).toNat:Nat):Int)==34)
((G.aH n aC).bind fun v2 =>
(some ((af.mk 2 0 v2.1 [] []),v2.2.1,v2.2.2)))
(cond ((((aC.text.getD aC.at_.toNat 0).toNat:Nat):Int)==91)
((G.aP n (au.mk aC.text (IntKind.wrap .i64 (aC.at_+1))) 3 gq [93]).bind fun v3 =>
(some (v3.1,v3.2.1,v3.2.2)))
(cond ((((aC.text.getD aC.at_.toNat 0).toNat:Nat):Int)==123)
((G.aP n (au.mk aC.text (IntKind.wrap .i64 (aC.at_+1))) 4 gq [125]).bind fun v4 =>
(some (v4.1,v4.2.1,v4.2.2)))
((G.aW n aC).bind fun v5 =>
(some (v5.1,v5.2.1,v5.2.2))))))))))
def G.aP.K4 (f:Nat) (jl:Int) (gq:Int) (jI:aA) (z6:List af) (y9:aA) (zn:Int) (z7:List aA):Option (af × Bool × au):=match f with
| 0=>none
| n+1 =>
((G.cu n (au.mk y9 zn) (IntKind.wrap .i64 (gq+1))).bind fun v18 =>
(cond v18.2.1
(chk ((z6.length+1)*86<=2^46)
((G.dm n v18.2.2 jI).bind fun v19 =>
(cond v19.1
(some ((af.mk jl 0 [] z7 (z6++[v18.1])),true,v19.2))
((G.dm n v19.2 [44]).bind fun v20 =>
(cond v20.1
(G.aP.L3 n jl gq jI v20.2.text v20.2.at_ z7 (z6++[v18.1]))
(some ((af.mk 0 0 [] [] []),false,v20.2)))))))
(some ((af.mk 0 0 [] [] []),false,v18.2.2))))
def G.aP.L3 (f:Nat) (jl:Int) (gq:Int) (jI:aA) (y7:aA) (y8:Int) (z5:List aA) (z6:List af):Option (af × Bool × au):=match f with
| 0=>none
| n+1 =>
(cond (jl==4)
((G.aH n (au.mk y7 y8)).bind fun v21 =>
(cond v21.2.1
((G.dm n v21.2.2 [58]).bind fun v22 =>
(cond v22.1
(chk ((z5.length+1)*18<=2^46)
(G.aP.K4 n jl gq jI z6 v22.2.text v22.2.at_ (z5++[v21.1])))
(some ((af.mk 0 0 [] [] []),false,v22.2))))
(some ((af.mk 0 0 [] [] []),false,v21.2.2))))
(G.aP.K4 n jl gq jI z6 y7 y8 z5))
def G.aP (f:Nat) (aC:au) (jl:Int) (gq:Int) (jI:aA):Option (af × Bool × au):=match f with
| 0=>none
| n+1 =>
((G.dm n aC jI).bind fun v1 =>
(cond v1.1
(some ((af.mk jl 0 [] [] []),true,v1.2))
(G.aP.L3 n jl gq jI v1.2.text v1.2.at_ [] [])))
end
def G.iR (f:Nat) (ai:aA):Option (af × Bool):=match f with
| 0=>none
| n+1 =>
(cond (decide (2000<((ai.length:Nat):Int)))
(some ((af.mk 0 0 [] [] []),false))
((G.cu n (au.mk ai 0) 1).bind fun v1 =>
(cond v1.2.1
(cond (v1.2.2.at_ != ((ai.length:Nat):Int))
(some ((af.mk 0 0 [] [] []),false))
((G.cZ n v1.1).bind fun v2 =>
(cond v2
((G.aX n v1.1).bind fun v3 =>
(some (v3,true)))
(some ((af.mk 0 0 [] [] []),false)))))
(some ((af.mk 0 0 [] [] []),false)))))
def G.jF (f:Nat) (s:aA):Option (List aA × Bool):=match f with
| 0=>none
| _+1=>(chk (s.length<=1000000) (some (Bd ql s)))
def G.bC.L1 (f:Nat) (kH:aA) (kG:Int) (lW:Int):Option (Int × Bool):=match f with
| 0=>none
| n+1 =>
(cond (decide (lW<=kG))
((G.gI n lW).bind fun v3 =>
(cond (v3==kH)
(some (lW,true))
(G.bC.L1 n kH kG (IntKind.wrap .i64 (lW+1)))))
(some (0,false)))
def G.bC (f:Nat) (kH:aA) (lK:Int) (kG:Int):Option (Int × Bool):=match f with
| 0=>none
| n+1 =>
(G.bC.L1 n kH kG lK)
def G.gm.L1 (f:Nat) (ai:aA) (z2:List iI) (y3:aA) (y4:Int):Option (List iI × Bool):=match f with
| 0=>none
| n+1 =>
(cond (decide (y4<((ai.length:Nat):Int)))
((G.cu n (au.mk y3 y4) 1).bind fun v7 =>
(cond v7.2.1
((G.dm n v7.2.2 [59]).bind fun v8 =>
(cond v8.1
((G.je n v7.1).bind fun v9 =>
(cond v9.2
(cond (((z2.length:Nat):Int)==12)
(some ([],false))
(chk ((z2.length+1)*145<=2^46)
(G.gm.L1 n ai (z2++[v9.1]) v8.2.text v8.2.at_)))
(some ([],false))))
(some ([],false))))
(some ([],false))))
(some (z2,true)))
def G.gm (f:Nat) (ai:aA):Option (List iI × Bool):=match f with
| 0=>none
| n+1 =>
(G.gm.L1 n ai [] ai 0)
def G.strings_SplitN (f:Nat) (s:aA) (sep:aA) (k:Int):Option (List aA):=match f with
| 0=>none
| _+1=>(chk (s.length<4294967281/\1<=sep.length/\1<=k/\k<=1000000) (some (Lib.splitK sep 0 (min k.toNat (s.length+1)-1) s)))
def G.dG.K1 (f:Nat) (ai:aA) (v1:List aA) (v2:Int × Bool) (v3:List aA × Bool) (v4:List aA × Bool) (JP:Bool) (y1:Int) (y2:Int) (y3:aA) (y4:List aA) (y5:List af) (y6:List iI):Option (RequestT × Bool):=match f with
| 0=>none
| n+1 =>
(cond JP
((G.ah n (RequestT.mk v2.1 (v1.getD 1 default) v3.1 v4.1 (af.mk y1 y2 y3 y4 y5) y6)).bind fun v7 =>
(cond (v7==ai)
(some ((RequestT.mk v2.1 (v1.getD 1 default) v3.1 v4.1 (af.mk y1 y2 y3 y4 y5) y6),true))
(some ((RequestT.mk 0 [] [] [] (af.mk 0 0 [] [] []) []),false))))
(some ((RequestT.mk 0 [] [] [] (af.mk 0 0 [] [] []) []),false)))
def G.dG (f:Nat) (ai:aA):Option (RequestT × Bool):=match f with
| 0=>none
| n+1 =>
((G.strings_SplitN n ai [32] 5).bind fun v1 =>
(cond (decide (2000<((ai.length:Nat):Int)))
(some ((RequestT.mk 0 [] [] [] (af.mk 0 0 [] [] []) []),false))
(cond (((v1.length:Nat):Int) != 5)
(some ((RequestT.mk 0 [] [] [] (af.mk 0 0 [] [] []) []),false))
(chk (0<=0/\0<((v1.length:Nat):Int))
((G.bC n (v1.getD 0 default) 1 5).bind fun v2 =>
(chk (0<=2/\2<((v1.length:Nat):Int))
((G.jF n (v1.getD 2 default)).bind fun v3 =>
(chk (0<=3/\3<((v1.length:Nat):Int))
((G.jF n (v1.getD 3 default)).bind fun v4 =>
(cond v2.2
(cond v3.2
(cond v4.2
(chk (0<=1/\1<((v1.length:Nat):Int))
(cond (v2.1==4)
(chk (0<=4/\4<((v1.length:Nat):Int))
((G.gm n (v1.getD 4 default)).bind fun v8 =>
(G.dG.K1 n ai v1 v2 v3 v4 v8.2 0 0 [] [] [] v8.1)))
(chk (0<=4/\4<((v1.length:Nat):Int))
((G.iR n (v1.getD 4 default)).bind fun v9 =>
(G.dG.K1 n ai v1 v2 v3 v4 v9.2 v9.1.Kind v9.1.Num v9.1.Text v9.1.Names v9.1.Kids [])))))
(some ((RequestT.mk 0 [] [] [] (af.mk 0 0 [] [] []) []),false)))
(some ((RequestT.mk 0 [] [] [] (af.mk 0 0 [] [] []) []),false)))
(some ((RequestT.mk 0 [] [] [] (af.mk 0 0 [] [] []) []),false))))))))))))
def G.bU.L1 (f:Nat) (fO:List aA) (fK:List aA) (ak:Int):Option (Bool):=match f with
| 0=>none
| n+1 =>
(cond (decide (ak<((fO.length:Nat):Int)))
(chk (0<=ak/\ak<((fO.length:Nat):Int))
(chk (0<=ak/\ak<((fK.length:Nat):Int))
(cond ((fO.getD ak.toNat default)==(fK.getD ak.toNat default))
(G.bU.L1 n fO fK (IntKind.wrap .i64 (ak+1)))
(some (false)))))
(some (true)))
def G.bU (f:Nat) (fO:List aA) (fK:List aA):Option (Bool):=match f with
| 0=>none
| n+1 =>
(cond (((fO.length:Nat):Int) != ((fK.length:Nat):Int))
(some (false))
(G.bU.L1 n fO fK 0))
mutual
def G.fG (f:Nat) (fO:af) (fK:af):Option (Bool):=match f with
| 0=>none
| n+1 =>
(cond (fO.Kind==fK.Kind)
(cond (fO.Num==fK.Num)
(cond (fO.Text==fK.Text)
((G.bU n fO.Names fK.Names).bind fun v1 =>
(cond v1
((G.eu n fO.Kids fK.Kids).bind fun v2 =>
(some (v2)))
(some (false))))
(some (false)))
(some (false)))
(some (false)))
def G.eu.L1 (f:Nat) (fO:List af) (fK:List af) (ak:Int):Option (Bool):=match f with
| 0=>none
| n+1 =>
(cond (decide (ak<((fO.length:Nat):Int)))
(chk (0<=ak/\ak<((fO.length:Nat):Int))
(chk (0<=ak/\ak<((fK.length:Nat):Int))
((G.fG n (fO.getD ak.toNat default) (fK.getD ak.toNat default)).bind fun v3 =>
(cond v3
(G.eu.L1 n fO fK (IntKind.wrap .i64 (ak+1)))
(some (false))))))
(some (true)))
def G.eu (f:Nat) (fO:List af) (fK:List af):Option (Bool):=match f with
| 0=>none
| n+1 =>
(cond (((fO.length:Nat):Int) != ((fK.length:Nat):Int))
(some (false))
(G.eu.L1 n fO fK 0))
end
def G.fB.L1 (f:Nat) (fO:List iI) (fK:List iI) (ak:Int):Option (Bool):=match f with
| 0=>none
| n+1 =>
(cond (decide (ak<((fO.length:Nat):Int)))
(chk (0<=ak/\ak<((fO.length:Nat):Int))
(chk (0<=ak/\ak<((fK.length:Nat):Int))
(cond ((fO.getD ak.toNat default).Kind != (fK.getD ak.toNat default).Kind)
(some (false))
(chk (0<=ak/\ak<((fO.length:Nat):Int))
(chk (0<=ak/\ak<((fK.length:Nat):Int))
((G.bU n ((fO.getD ak.toNat default).Path) ((fK.getD ak.toNat default).Path)).bind fun v7 =>
(cond v7
(chk (0<=ak/\ak<((fO.length:Nat):Int))
(chk (0<=ak/\ak<((fK.length:Nat):Int))
((G.bU n ((fO.getD ak.toNat default).From) ((fK.getD ak.toNat default).From)).bind fun v8 =>
(cond v8
(chk (0<=ak/\ak<((fO.length:Nat):Int))
(chk (0<=ak/\ak<((fK.length:Nat):Int))
((G.fG n ((fO.getD ak.toNat default).Value) ((fK.getD ak.toNat default).Value)).bind fun v9 =>
(cond v9
(G.fB.L1 n fO fK (IntKind.wrap .i64 (ak+1)))
(some (false))))))
(some (false))))))
(some (false)))))))))
(some (true)))
def G.fB (f:Nat) (fO:List iI) (fK:List iI):Option (Bool):=match f with
| 0=>none
| n+1 =>
(cond (((fO.length:Nat):Int) != ((fK.length:Nat):Int))
(some (false))
(G.fB.L1 n fO fK 0))
def G.gW (f:Nat) (fO:RequestT) (fK:RequestT):Option (Bool):=match f with
| 0=>none
| n+1 =>
(cond (fO.Method==fK.Method)
(cond (fO.Name==fK.Name)
((G.bU n fO.Want fK.Want).bind fun v1 =>
(cond v1
((G.bU n fO.jk fK.jk).bind fun v2 =>
(cond v2
((G.fG n fO.Body fK.Body).bind fun v3 =>
(cond v3
((G.fB n fO.Ops fK.Ops).bind fun v4 =>
(some (v4)))
(some (false))))
(some (false))))
(some (false))))
(some (false)))
(some (false)))
def G.bG (f:Nat) (ag:Int) (xA:Int) (uA:Int):Option (Bool):=match f with
| 0=>none
| n+1 =>
(cond (decide (xA<=ag))
(some ((decide (ag<=uA))))
(some (false)))
def G.fJ.L1 (f:Nat) (ai:aA) (ak:Int):Option (Bool):=match f with
| 0=>none
| n+1 =>
(cond (decide (ak<((ai.length:Nat):Int)))
(chk (0<=ak/\ak<((ai.length:Nat):Int))
((G.bG n (IntKind.wrap .i64 ((((ai.getD ak.toNat 0).toNat:Nat):Int))) 48 57).bind fun v5 =>
(cond v5
(G.fJ.L1 n ai (IntKind.wrap .i64 (ak+1)))
(chk (0<=ak/\ak<((ai.length:Nat):Int))
((G.bG n (IntKind.wrap .i64 ((((ai.getD ak.toNat 0).toNat:Nat):Int))) 97 102).bind fun v6 =>
(cond v6
(G.fJ.L1 n ai (IntKind.wrap .i64 (ak+1)))
(some (false))))))))
(some ((((ai.length:Nat):Int)==4))))
def G.fJ (f:Nat) (ai:aA):Option (Bool):=match f with
| 0=>none
| n+1 =>
(G.fJ.L1 n ai 0)
def G.bZ.L1 (f:Nat) (aB:List aA) (ak:Int):Option (Bool):=match f with
| 0=>none
| n+1 =>
(cond (decide (ak<((aB.length:Nat):Int)))
(chk (0<=ak/\ak<((aB.length:Nat):Int))
(cond ((aB.getD ak.toNat default)==[42])
(G.bZ.L1 n aB (IntKind.wrap .i64 (ak+1)))
(chk (0<=ak/\ak<((aB.length:Nat):Int))
((G.fJ n (aB.getD ak.toNat default)).bind fun v3 =>
(cond v3
(G.bZ.L1 n aB (IntKind.wrap .i64 (ak+1)))
(some (false)))))))
(some ((decide (((aB.length:Nat):Int)<=4)))))
def G.bZ (f:Nat) (aB:List aA):Option (Bool):=match f with
| 0=>none
| n+1 =>
(G.bZ.L1 n aB 0)
mutual
def G.bF.K4 (f:Nat) (aB:List aA) (ak:Int) (wu:aA):Option (aA):=match f with
| 0=>none
| n+1 =>
(chk (0<=ak/\ak<((aB.length:Nat):Int))
(cond ((aB.getD ak.toNat default)==[42])
(chk (wu.length+1<=maxLen)
(G.bF.L3 n aB (wu++[42]) (IntKind.wrap .i64 (ak+1))))
(chk (wu.length+1<=maxLen)
(chk (0<=ak/\ak<((aB.length:Nat):Int))
(chk ((wu.length+1)+(aB.getD ak.toNat default).length<=maxLen)
(chk (((wu.length+1)+(aB.getD ak.toNat default).length)+1<=maxLen)
(G.bF.L3 n aB (((wu++[34])++(aB.getD ak.toNat default))++[34]) (IntKind.wrap .i64 (ak+1)))))))))
def G.bF.L3 (f:Nat) (aB:List aA) (BB:aA) (ak:Int):Option (aA):=match f with
| 0=>none
| n+1 =>
(cond (decide (ak<((aB.length:Nat):Int)))
(cond (decide (0<ak))
(chk (BB.length+1<=maxLen)
(G.bF.K4 n aB ak (BB++[44])))
(G.bF.K4 n aB ak BB))
(some (BB)))
end
def G.bF (f:Nat) (aB:List aA):Option (aA):=match f with
| 0=>none
| n+1 =>
((G.bZ n aB).bind fun v1 =>
(cond v1
(G.bF.L3 n aB [] 0)
(some ([]))))
mutual
def G.fC (f:Nat) (ag:Int):Option (aA):=match f with
| 0=>none
| n+1 =>
(cond (decide (ag<0))
(cond (ag==(IntKind.wrap .i64 (0-ag)))
(some ([45,57,50,50,51,51,55,50,48,51,54,56,53,52,55,55,53,56,48,56]))
((G.fC n (IntKind.wrap .i64 (0-ag))).bind fun v1 =>
(chk (1+v1.length<=maxLen)
(some (([45]++v1))))))
(cond (decide (ag<10))
(chk (1<=maxLen)
(some ([UInt8.ofNat (IntKind.wrap .u8 ((IntKind.wrap .i64 (48+ag)))).toNat])))
((G.fC n (IntKind.wrap .i64 (Int.tdiv ag 10))).bind fun v2 =>
(chk (1<=maxLen)
(chk (v2.length+1<=maxLen)
(some ((v2++[UInt8.ofNat (IntKind.wrap .u8 ((IntKind.wrap .i64 (48+(Int.tmod ag 10))))).toNat]))))))))
end
def G.gK.L1 (f:Nat) (ai:aA) (mP:aA) (ak:Int):Option (aA):=match f with
| 0=>none
| n+1 =>
(cond (decide (ak<((ai.length:Nat):Int)))
(chk (0<=ak/\ak<((ai.length:Nat):Int))
(cond ((((ai.getD ak.toNat 0).toNat:Nat):Int)==34)
(chk (mP.length+1<=maxLen)
(chk (0<=ak/\ak<=(IntKind.wrap .i64 (ak+1))/\(IntKind.wrap .i64 (ak+1))<=((ai.length:Nat):Int))
(chk ((mP.length+1)+((ai.take ((IntKind.wrap .i64 (ak+1)).toNat)).drop ak.toNat).length<=maxLen)
(G.gK.L1 n ai ((mP++[92])++((ai.take ((IntKind.wrap .i64 (ak+1)).toNat)).drop ak.toNat)) (IntKind.wrap .i64 (ak+1))))))
(chk (0<=ak/\ak<((ai.length:Nat):Int))
(cond ((((ai.getD ak.toNat 0).toNat:Nat):Int)==92)
(chk (mP.length+1<=maxLen)
(chk (0<=ak/\ak<=(IntKind.wrap .i64 (ak+1))/\(IntKind.wrap .i64 (ak+1))<=((ai.length:Nat):Int))
(chk ((mP.length+1)+((ai.take ((IntKind.wrap .i64 (ak+1)).toNat)).drop ak.toNat).length<=maxLen)
(G.gK.L1 n ai ((mP++[92])++((ai.take ((IntKind.wrap .i64 (ak+1)).toNat)).drop ak.toNat)) (IntKind.wrap .i64 (ak+1))))))
(chk (0<=ak/\ak<=(IntKind.wrap .i64 (ak+1))/\(IntKind.wrap .i64 (ak+1))<=((ai.length:Nat):Int))
(chk (mP.length+((ai.take ((IntKind.wrap .i64 (ak+1)).toNat)).drop ak.toNat).length<=maxLen)
(G.gK.L1 n ai (mP++((ai.take ((IntKind.wrap .i64 (ak+1)).toNat)).drop ak.toNat)) (IntKind.wrap .i64 (ak+1)))))))))
(chk (mP.length+1<=maxLen)
(some ((mP++[34])))))
def G.gK (f:Nat) (ai:aA):Option (aA):=match f with
| 0=>none
| n+1 =>
(G.gK.L1 n ai [34] 0)
mutual
def G.bI.K7 (f:Nat) (ag:af) (ak:Int) (JQ:aA):Option (aA):=match f with
| 0=>none
| n+1 =>
(chk (0<=ak/\ak<((ag.Kids.length:Nat):Int))
((G.bI n (ag.Kids.getD ak.toNat default)).bind fun v10 =>
(chk (JQ.length+v10.length<=maxLen)
(G.bI.L5 n ag (JQ++v10) (IntKind.wrap .i64 (ak+1))))))
def G.bI.K6 (f:Nat) (ag:af) (ak:Int) (BC:aA):Option (aA):=match f with
| 0=>none
| n+1 =>
(cond (ag.Kind==4)
(chk (0<=ak/\ak<((ag.Names.length:Nat):Int))
((G.gK n (ag.Names.getD ak.toNat default)).bind fun v11 =>
(chk (BC.length+v11.length<=maxLen)
(chk ((BC.length+v11.length)+1<=maxLen)
(G.bI.K7 n ag ak ((BC++v11)++[58]))))))
(G.bI.K7 n ag ak BC))
def G.bI.L5 (f:Nat) (ag:af) (qo:aA) (ak:Int):Option (aA):=match f with
| 0=>none
| n+1 =>
(cond (decide (ak<((ag.Kids.length:Nat):Int)))
(cond (decide (0<ak))
(chk (qo.length+1<=maxLen)
(G.bI.K6 n ag ak (qo++[44])))
(G.bI.K6 n ag ak qo))
(cond (ag.Kind==4)
(chk (1+qo.length<=maxLen)
(chk ((1+qo.length)+1<=maxLen)
(some ((([123]++qo)++[125])))))
(chk (1+qo.length<=maxLen)
(chk ((1+qo.length)+1<=maxLen)
(some ((([91]++qo)++[93])))))))
def G.bI (f:Nat) (ag:af):Option (aA):=match f with
| 0=>none
| n+1 =>
(cond (ag.Kind==1)
((G.fC n ag.Num).bind fun v1 =>
(some (v1)))
(cond (ag.Kind==2)
((G.gK n ag.Text).bind fun v2 =>
(some (v2)))
(cond (ag.Kind==0)
(some ([110,117,108,108]))
(G.bI.L5 n ag [] 0))))
end
mutual
def G.ay.L1 (f:Nat) (ag:af) (ak:Int) (z2:List af):Option (af):=match f with
| 0=>none
| n+1 =>
(cond (decide (ak<((ag.Kids.length:Nat):Int)))
(chk (0<=ak/\ak<((ag.Kids.length:Nat):Int))
((G.ay n (ag.Kids.getD ak.toNat default)).bind fun v3 =>
(chk ((z2.length+1)*86<=2^46)
(G.ay.L1 n ag (IntKind.wrap .i64 (ak+1)) (z2++[v3])))))
(chk (ag.Names.length*18<=2^46)
(some ((af.mk ag.Kind ag.Num ag.Text ag.Names z2)))))
def G.ay (f:Nat) (ag:af):Option (af):=match f with
| 0=>none
| n+1 =>
(G.ay.L1 n ag 0 [])
end
def G.jE (f:Nat):Option (List aA):=match f with
| 0=>none
| n+1 =>
(some ([[],[97,100,100],[114,101,109,111,118,101],[114,101,112,108,97,99,101],[109,111,118,101],[99,111,112,121],[116,101,115,116]]))
def G.kE (f:Nat) (ai:aA):Option (af):=match f with
| 0=>none
| n+1 =>
(some ((af.mk 2 0 ai [] [])))
def G.iQ.L1 (f:Nat) (aQ:List aA) (ak:Int) (z2:List af):Option (af):=match f with
| 0=>none
| n+1 =>
(cond (decide (ak<((aQ.length:Nat):Int)))
(chk (0<=ak/\ak<((aQ.length:Nat):Int))
((G.kE n (aQ.getD ak.toNat default)).bind fun v3 =>
(chk ((z2.length+1)*86<=2^46)
(G.iQ.L1 n aQ (IntKind.wrap .i64 (ak+1)) (z2++[v3])))))
(some ((af.mk 3 0 [] [] z2))))
def G.iQ (f:Nat) (aQ:List aA):Option (af):=match f with
| 0=>none
| n+1 =>
(G.iQ.L1 n aQ 0 [])
def G.iM (f:Nat) (jJ:iI):Option (af):=match f with
| 0=>none
| n+1 =>
((G.iQ n jJ.From).bind fun v1 =>
((G.jE n).bind fun v2 =>
(chk (0<=jJ.Kind/\jJ.Kind<((v2.length:Nat):Int))
((G.kE n (v2.getD jJ.Kind.toNat default)).bind fun v3 =>
((G.iQ n jJ.Path).bind fun v4 =>
((G.ay n jJ.Value).bind fun v5 =>
(some ((af.mk 4 0 [] [[102,114,111,109],[111,112],[112,97,116,104],[118,97,108,117,101]] [v1,v3,v4,v5])))))))))
def G.jV (f:Nat):Option (List aA):=match f with
| 0=>none
| n+1 =>
(some ([[],[103,101,116],[112,117,116],[100,101,108,101,116,101],[112,97,116,99,104],[109,101,114,103,101]]))
def G.dO.L1 (f:Nat) (bH:RequestT) (mP:aA) (ak:Int):Option (aA):=match f with
| 0=>none
| n+1 =>
(cond (decide (ak<((bH.Ops.length:Nat):Int)))
(chk (0<=ak/\ak<((bH.Ops.length:Nat):Int))
((G.iM n (iI.mk ((bH.Ops.getD ak.toNat default).Kind) ((bH.Ops.getD ak.toNat default).Path) ((bH.Ops.getD ak.toNat default).From) ((bH.Ops.getD ak.toNat default).Value))).bind fun v8 =>
((G.bI n v8).bind fun v9 =>
(chk (mP.length+v9.length<=maxLen)
(chk ((mP.length+v9.length)+1<=maxLen)
(G.dO.L1 n bH ((mP++v9)++[59]) (IntKind.wrap .i64 (ak+1))))))))
(some (mP)))
def G.dO (f:Nat) (bH:RequestT):Option (aA):=match f with
| 0=>none
| n+1 =>
((G.jV n).bind fun v1 =>
(chk (0<=bH.Method/\bH.Method<((v1.length:Nat):Int))
(chk ((v1.getD bH.Method.toNat default).length+1<=maxLen)
(chk (((v1.getD bH.Method.toNat default).length+1)+bH.Name.length<=maxLen)
(chk ((((v1.getD bH.Method.toNat default).length+1)+bH.Name.length)+1<=maxLen)
((G.bF n bH.Want).bind fun v2 =>
(chk (((((v1.getD bH.Method.toNat default).length+1)+bH.Name.length)+1)+v2.length<=maxLen)
(chk ((((((v1.getD bH.Method.toNat default).length+1)+bH.Name.length)+1)+v2.length)+1<=maxLen)
((G.bF n bH.jk).bind fun v3 =>
(chk (((((((v1.getD bH.Method.toNat default).length+1)+bH.Name.length)+1)+v2.length)+1)+v3.length<=maxLen)
(chk ((((((((v1.getD bH.Method.toNat default).length+1)+bH.Name.length)+1)+v2.length)+1)+v3.length)+1<=maxLen)
(cond (bH.Method==4)
(G.dO.L1 n bH ((((((((v1.getD bH.Method.toNat default)++[32])++bH.Name)++[32])++v2)++[32])++v3)++[32]) 0)
((G.bI n bH.Body).bind fun v10 =>
(chk (((((((((v1.getD bH.Method.toNat default).length+1)+bH.Name.length)+1)+v2.length)+1)+v3.length)+1)+v10.length<=maxLen)
(some ((((((((((v1.getD bH.Method.toNat default)++[32])++bH.Name)++[32])++v2)++[32])++v3)++[32])++v10)))))))))))))))))
mutual
def G.eG.L1 (f:Nat) (ag:af) (JO:Int) (ak:Int):Option (Int):=match f with
| 0=>none
| n+1 =>
(cond (decide (ak<((ag.Kids.length:Nat):Int)))
(chk (0<=ak/\ak<((ag.Kids.length:Nat):Int))
((G.eG n (ag.Kids.getD ak.toNat default)).bind fun v3 =>
(G.eG.L1 n ag (IntKind.wrap .i64 (JO+v3)) (IntKind.wrap .i64 (ak+1)))))
(some (JO)))
def G.eG (f:Nat) (ag:af):Option (Int):=match f with
| 0=>none
| n+1 =>
(G.eG.L1 n ag 1 0)
end
def G.dD.L1 (f:Nat) (ai:aA) (ak:Int):Option (Bool):=match f with
| 0=>none
| n+1 =>
(cond (decide (ak<((ai.length:Nat):Int)))
(chk (0<=ak/\ak<((ai.length:Nat):Int))
((G.bG n (IntKind.wrap .i64 ((((ai.getD ak.toNat 0).toNat:Nat):Int))) 32 126).bind fun v3 =>
(cond v3
(G.dD.L1 n ai (IntKind.wrap .i64 (ak+1)))
(some (false)))))
(some ((decide (((ai.length:Nat):Int)<=12)))))
def G.dD (f:Nat) (ai:aA):Option (Bool):=match f with
| 0=>none
| n+1 =>
(G.dD.L1 n ai 0)
def G.gX.L1 (f:Nat) (aB:List aA) (ak:Int):Option (Bool):=match f with
| 0=>none
| n+1 =>
(cond (decide (ak<((aB.length:Nat):Int)))
(chk (0<=ak/\ak<((aB.length:Nat):Int))
((G.dD n (aB.getD ak.toNat default)).bind fun v3 =>
(cond v3
(cond (decide (0<ak))
(chk (0<=ak/\ak<((aB.length:Nat):Int))
(chk (0<=(IntKind.wrap .i64 (ak-1))/\(IntKind.wrap .i64 (ak-1))<((aB.length:Nat):Int))
(cond (Op.bytesLess (aB.getD ak.toNat default) (aB.getD (IntKind.wrap .i64 (ak-1)).toNat default))
(some (false))
(cond ((aB.getD ak.toNat default)==(aB.getD (IntKind.wrap .i64 (ak-1)).toNat default))
(some (false))
(G.gX.L1 n aB (IntKind.wrap .i64 (ak+1)))))))
(G.gX.L1 n aB (IntKind.wrap .i64 (ak+1))))
(some (false)))))
(some (true)))
def G.gX (f:Nat) (aB:List aA):Option (Bool):=match f with
| 0=>none
| n+1 =>
(G.gX.L1 n aB 0)
mutual
def G.gB.L1 (f:Nat) (ag:af) (aK:Int) (ak:Int):Option (Bool):=match f with
| 0=>none
| n+1 =>
(cond (decide (ak<((ag.Kids.length:Nat):Int)))
(chk (0<=ak/\ak<((ag.Kids.length:Nat):Int))
((G.bW n (ag.Kids.getD ak.toNat default) (IntKind.wrap .i64 (aK-1))).bind fun v3 =>
(cond v3
(G.gB.L1 n ag aK (IntKind.wrap .i64 (ak+1)))
(some (false)))))
(some (true)))
def G.gB (f:Nat) (ag:af) (aK:Int):Option (Bool):=match f with
| 0=>none
| n+1 =>
(G.gB.L1 n ag aK 0)
def G.bW.K1 (f:Nat) (ag:af) (aK:Int):Option (Bool):=match f with
| 0=>none
| n+1 =>
(cond (ag.Kind==1)
((G.bG n ag.Num (-999999) 999999).bind fun v1 =>
(some (v1)))
(cond (ag.Kind==2)
((G.dD n ag.Text).bind fun v2 =>
(some (v2)))
(cond (ag.Kind==3)
((G.gB n ag aK).bind fun v3 =>
(some (v3)))
(cond (ag.Kind==4)
(cond (((ag.Names.length:Nat):Int)==((ag.Kids.length:Nat):Int))
((G.gX n ag.Names).bind fun v4 =>
(cond v4
((G.gB n ag aK).bind fun v5 =>
(some (v5)))
(some (false))))
(some (false)))
(some ((ag.Kind==0)))))))
def G.bW (f:Nat) (ag:af) (aK:Int):Option (Bool):=match f with
| 0=>none
| n+1 =>
(cond (aK==0)
(some (false))
(cond (decide (6<((ag.Kids.length:Nat):Int)))
(some (false))
(cond (ag.Kind != 1)
(cond (ag.Num != 0)
(some (false))
(cond (ag.Kind != 2)
(cond (ag.Text==[])
(cond (ag.Kind != 4)
(cond (decide (0<((ag.Names.length:Nat):Int)))
(some (false))
(cond (decide (ag.Kind<3))
(cond (decide (0<((ag.Kids.length:Nat):Int)))
(some (false))
(G.bW.K1 n ag aK))
(G.bW.K1 n ag aK)))
(cond (decide (ag.Kind<3))
(cond (decide (0<((ag.Kids.length:Nat):Int)))
(some (false))
(G.bW.K1 n ag aK))
(G.bW.K1 n ag aK)))
(some (false)))
(cond (ag.Kind != 4)
(cond (decide (0<((ag.Names.length:Nat):Int)))
(some (false))
(cond (decide (ag.Kind<3))
(cond (decide (0<((ag.Kids.length:Nat):Int)))
(some (false))
(G.bW.K1 n ag aK))
(G.bW.K1 n ag aK)))
(cond (decide (ag.Kind<3))
(cond (decide (0<((ag.Kids.length:Nat):Int)))
(some (false))
(G.bW.K1 n ag aK))
(G.bW.K1 n ag aK)))))
(cond (ag.Kind != 2)
(cond (ag.Text==[])
(cond (ag.Kind != 4)
(cond (decide (0<((ag.Names.length:Nat):Int)))
(some (false))
(cond (decide (ag.Kind<3))
(cond (decide (0<((ag.Kids.length:Nat):Int)))
(some (false))
(G.bW.K1 n ag aK))
(G.bW.K1 n ag aK)))
(cond (decide (ag.Kind<3))
(cond (decide (0<((ag.Kids.length:Nat):Int)))
(some (false))
(G.bW.K1 n ag aK))
(G.bW.K1 n ag aK)))
(some (false)))
(cond (ag.Kind != 4)
(cond (decide (0<((ag.Names.length:Nat):Int)))
(some (false))
(cond (decide (ag.Kind<3))
(cond (decide (0<((ag.Kids.length:Nat):Int)))
(some (false))
(G.bW.K1 n ag aK))
(G.bW.K1 n ag aK)))
(cond (decide (ag.Kind<3))
(cond (decide (0<((ag.Kids.length:Nat):Int)))
(some (false))
(G.bW.K1 n ag aK))
(G.bW.K1 n ag aK)))))))
end
def G.aT (f:Nat) (ag:af):Option (Bool):=match f with
| 0=>none
| n+1 =>
((G.bW n ag 5).bind fun v1 =>
(cond v1
((G.eG n ag).bind fun v2 =>
(some ((decide (v2<=40)))))
(some (false))))
def G.di.L1 (f:Nat) (ai:aA) (ak:Int):Option (Bool):=match f with
| 0=>none
| n+1 =>
(cond (decide (ak<((ai.length:Nat):Int)))
(chk (0<=ak/\ak<((ai.length:Nat):Int))
((G.bG n (IntKind.wrap .i64 ((((ai.getD ak.toNat 0).toNat:Nat):Int))) 97 122).bind fun v5 =>
(cond v5
(G.di.L1 n ai (IntKind.wrap .i64 (ak+1)))
(chk (0<=ak/\ak<((ai.length:Nat):Int))
((G.bG n (IntKind.wrap .i64 ((((ai.getD ak.toNat 0).toNat:Nat):Int))) 48 57).bind fun v6 =>
(cond v6
(G.di.L1 n ai (IntKind.wrap .i64 (ak+1)))
(some (false))))))))
((G.bG n ((ai.length:Nat):Int) 1 8).bind fun v7 =>
(some (v7))))
def G.di (f:Nat) (ai:aA):Option (Bool):=match f with
| 0=>none
| n+1 =>
(G.di.L1 n ai 0)
def G.dM.L1 (f:Nat) (aQ:List aA) (ak:Int):Option (Bool):=match f with
| 0=>none
| n+1 =>
(cond (decide (ak<((aQ.length:Nat):Int)))
(chk (0<=ak/\ak<((aQ.length:Nat):Int))
((G.dD n (aQ.getD ak.toNat default)).bind fun v3 =>
(cond v3
(G.dM.L1 n aQ (IntKind.wrap .i64 (ak+1)))
(some (false)))))
(some ((decide (((aQ.length:Nat):Int)<=5)))))
def G.dM (f:Nat) (aQ:List aA):Option (Bool):=match f with
| 0=>none
| n+1 =>
(G.dM.L1 n aQ 0)
def G.ig (f:Nat) (jJ:iI):Option (Bool):=match f with
| 0=>none
| n+1 =>
((G.bG n jJ.Kind 1 6).bind fun v1 =>
(cond v1
((G.dM n jJ.Path).bind fun v2 =>
(cond v2
((G.dM n jJ.From).bind fun v3 =>
(cond v3
((G.aT n jJ.Value).bind fun v4 =>
(some (v4)))
(some (false))))
(some (false))))
(some (false))))
def G.bY.L1 (f:Nat) (aB:List iI) (ak:Int):Option (Bool):=match f with
| 0=>none
| n+1 =>
(cond (decide (ak<((aB.length:Nat):Int)))
(chk (0<=ak/\ak<((aB.length:Nat):Int))
((G.ig n (iI.mk ((aB.getD ak.toNat default).Kind) ((aB.getD ak.toNat default).Path) ((aB.getD ak.toNat default).From) ((aB.getD ak.toNat default).Value))).bind fun v3 =>
(cond v3
(G.bY.L1 n aB (IntKind.wrap .i64 (ak+1)))
(some (false)))))
(some ((decide (((aB.length:Nat):Int)<=12)))))
def G.bY (f:Nat) (aB:List iI):Option (Bool):=match f with
| 0=>none
| n+1 =>
(G.bY.L1 n aB 0)
def G.fD (f:Nat) (bH:RequestT):Option (Bool):=match f with
| 0=>none
| n+1 =>
((G.bG n bH.Method 1 5).bind fun v1 =>
(cond v1
((G.di n bH.Name).bind fun v2 =>
(cond v2
((G.bZ n bH.Want).bind fun v3 =>
(cond v3
((G.bZ n bH.jk).bind fun v4 =>
(cond v4
((G.aT n bH.Body).bind fun v5 =>
(cond v5
((G.bY n bH.Ops).bind fun v6 =>
(some (v6)))
(some (false))))
(some (false))))
(some (false))))
(some (false))))
(some (false))))
def G.aF.L2 (f:Nat) (bH:RequestT) (ak:Int):Option (aA):=match f with
| 0=>none
| n+1 =>
(cond (decide (ak<((bH.Ops.length:Nat):Int)))
(chk (0<=ak/\ak<((bH.Ops.length:Nat):Int))
((G.iM n (iI.mk ((bH.Ops.getD ak.toNat default).Kind) ((bH.Ops.getD ak.toNat default).Path) ((bH.Ops.getD ak.toNat default).From) ((bH.Ops.getD ak.toNat default).Value))).bind fun v6 =>
((G.aT n v6).bind fun v7 =>
(cond v7
(G.aF.L2 n bH (IntKind.wrap .i64 (ak+1)))
(some ([]))))))
((G.dO n bH).bind fun v8 =>
(some (v8))))
def G.aF.K1 (f:Nat) (bH:RequestT):Option (aA):=match f with
| 0=>none
| n+1 =>
(G.aF.L2 n bH 0)
def G.aF (f:Nat) (bH:RequestT):Option (aA):=match f with
| 0=>none
| n+1 =>
((G.fD n bH).bind fun v9 =>
(cond v9
(cond (bH.Body.Kind != 0)
(cond (bH.Method != 2)
(cond (bH.Method != 5)
(some ([]))
(cond (decide (0<((bH.Ops.length:Nat):Int)))
(cond (bH.Method != 4)
(some ([]))
(G.aF.K1 n bH))
(G.aF.K1 n bH)))
(cond (decide (0<((bH.Ops.length:Nat):Int)))
(cond (bH.Method != 4)
(some ([]))
(G.aF.K1 n bH))
(G.aF.K1 n bH)))
(cond (decide (0<((bH.Ops.length:Nat):Int)))
(cond (bH.Method != 4)
(some ([]))
(G.aF.K1 n bH))
(G.aF.K1 n bH)))
(some ([]))))
def G.aj (f:Nat) (aC:ReaderT) (ag:Int):Option (Int × ReaderT):=match f with
| 0=>none
| n+1 =>
(cond (decide (ag<1))
(some (0,(ReaderT.mk aC.b (IntKind.wrap .i64 (aC.p+1)))))
(cond (((aC.b.length:Nat):Int)==0)
(some (0,(ReaderT.mk aC.b (IntKind.wrap .i64 (aC.p+1)))))
(cond (decide ((IntKind.wrap .i64 ((IntKind.wrap .i64 (aC.p+1))-1))<((aC.b.length:Nat):Int)))
(chk (0<=(IntKind.wrap .i64 ((IntKind.wrap .i64 (aC.p+1))-1))/\(IntKind.wrap .i64 ((IntKind.wrap .i64 (aC.p+1))-1))<((aC.b.length:Nat):Int))
(chk (ag ≠ 0)
(some ((Int.tmod (IntKind.wrap .i64 ((aC.b.getD (IntKind.wrap .i64 ((IntKind.wrap .i64 (aC.p+1))-1)).toNat default))) ag),(ReaderT.mk aC.b (IntKind.wrap .i64 (aC.p+1)))))))
(chk (((aC.b.length:Nat):Int) ≠ 0)
(chk (0<=(Int.tmod (IntKind.wrap .i64 ((IntKind.wrap .i64 (aC.p+1))-1)) ((aC.b.length:Nat):Int))/\(Int.tmod (IntKind.wrap .i64 ((IntKind.wrap .i64 (aC.p+1))-1)) ((aC.b.length:Nat):Int))<((aC.b.length:Nat):Int))
(chk (((aC.b.length:Nat):Int) ≠ 0)
(chk (0<=(Int.tmod (IntKind.wrap .i64 ((IntKind.wrap .i64 ((IntKind.wrap .i64 ((IntKind.wrap .i64 (aC.p+1))-1))*7))+3)) ((aC.b.length:Nat):Int))/\(Int.tmod (IntKind.wrap .i64 ((IntKind.wrap .i64 ((IntKind.wrap .i64 ((IntKind.wrap .i64 (aC.p+1))-1))*7))+3)) ((aC.b.length:Nat):Int))<((aC.b.length:Nat):Int))
(chk (((aC.b.length:Nat):Int) ≠ 0)
(chk (ag ≠ 0)
(some ((Int.tmod (IntKind.wrap .i64 (((BitVec.ofInt (IntKind.bits .i64) (IntKind.wrap .i64 ((IntKind.wrap .i64 ((IntKind.wrap .i64 ((IntKind.wrap .i64 ((IntKind.wrap .i64 ((aC.b.getD (Int.tmod (IntKind.wrap .i64 ((IntKind.wrap .i64 (aC.p+1))-1)) ((aC.b.length:Nat):Int)).toNat default)))*131))+(IntKind.wrap .i64 ((IntKind.wrap .i64 ((aC.b.getD (Int.tmod (IntKind.wrap .i64 ((IntKind.wrap .i64 ((IntKind.wrap .i64 ((IntKind.wrap .i64 (aC.p+1))-1))*7))+3)) ((aC.b.length:Nat):Int)).toNat default)))*1117))))+(IntKind.wrap .i64 ((IntKind.wrap .i64 ((IntKind.wrap .i64 (aC.p+1))-1))*29))))+(IntKind.wrap .i64 ((IntKind.wrap .i64 (Int.tdiv (IntKind.wrap .i64 ((IntKind.wrap .i64 (aC.p+1))-1)) ((aC.b.length:Nat):Int)))*53)))) ^^^ BitVec.ofInt (IntKind.bits .i64) (IntKind.wrap .i64 (Int.tdiv (IntKind.wrap .i64 ((IntKind.wrap .i64 ((IntKind.wrap .i64 ((IntKind.wrap .i64 ((IntKind.wrap .i64 ((aC.b.getD (Int.tmod (IntKind.wrap .i64 ((IntKind.wrap .i64 (aC.p+1))-1)) ((aC.b.length:Nat):Int)).toNat default)))*131))+(IntKind.wrap .i64 ((IntKind.wrap .i64 ((aC.b.getD (Int.tmod (IntKind.wrap .i64 ((IntKind.wrap .i64 ((IntKind.wrap .i64 ((IntKind.wrap .i64 (aC.p+1))-1))*7))+3)) ((aC.b.length:Nat):Int)).toNat default)))*1117))))+(IntKind.wrap .i64 ((IntKind.wrap .i64 ((IntKind.wrap .i64 (aC.p+1))-1))*29))))+(IntKind.wrap .i64 ((IntKind.wrap .i64 (Int.tdiv (IntKind.wrap .i64 ((IntKind.wrap .i64 (aC.p+1))-1)) ((aC.b.length:Nat):Int)))*53)))) 64))).toNat:Int))) ag),(ReaderT.mk aC.b (IntKind.wrap .i64 (aC.p+1))))))))))))))
def G.dA (f:Nat) (aC:ReaderT) (aB:List aA):Option (aA × ReaderT):=match f with
| 0=>none
| n+1 =>
((G.aj n aC ((aB.length:Nat):Int)).bind fun v1 =>
(chk (0<=v1.1/\v1.1<((aB.length:Nat):Int))
(some ((aB.getD v1.1.toNat default),v1.2))))
def G.iV (f:Nat) (iW:List Int):Option (ReaderT):=match f with
| 0=>none
| n+1 =>
(cond (decide (2000<((iW.length:Nat):Int)))
(chk (0<=0/\0<=2000/\2000<=((iW.length:Nat):Int))
(some ((ReaderT.mk (iW.take 2000) 0))))
(some ((ReaderT.mk iW 0))))
def G.dH (f:Nat) (aC:ReaderT) (aB:List Int):Option (Int × ReaderT):=match f with
| 0=>none
| n+1 =>
((G.aj n aC ((aB.length:Nat):Int)).bind fun v1 =>
(chk (0<=v1.1/\v1.1<((aB.length:Nat):Int))
(some ((aB.getD v1.1.toNat default),v1.2))))
def G.dU.L1 (f:Nat) (ag:af) (gG:aA) (ak:Int):Option (Int):=match f with
| 0=>none
| n+1 =>
(cond (decide (ak<((ag.Kids.length:Nat):Int)))
(cond (ag.Kind==4)
(chk (0<=ak/\ak<((ag.Names.length:Nat):Int))
(cond ((ag.Names.getD ak.toNat default)==gG)
(some (ak))
(cond (ag.Kind==3)
((G.fC n ak).bind fun v5 =>
(cond (v5==gG)
(some (ak))
(G.dU.L1 n ag gG (IntKind.wrap .i64 (ak+1)))))
(G.dU.L1 n ag gG (IntKind.wrap .i64 (ak+1))))))
(cond (ag.Kind==3)
((G.fC n ak).bind fun v6 =>
(cond (v6==gG)
(some (ak))
(G.dU.L1 n ag gG (IntKind.wrap .i64 (ak+1)))))
(G.dU.L1 n ag gG (IntKind.wrap .i64 (ak+1)))))
(some ((-1))))
def G.dU (f:Nat) (ag:af) (gG:aA):Option (Int):=match f with
| 0=>none
| n+1 =>
(G.dU.L1 n ag gG 0)
def G.fP.L1 (f:Nat) (ag:af) (gG:aA) (ak:Int):Option (Int × Bool):=match f with
| 0=>none
| n+1 =>
(cond (ag.Kind==4)
(cond (decide (ak<=((ag.Kids.length:Nat):Int)))
(cond (ak==((ag.Kids.length:Nat):Int))
(some (ak,false))
(chk (0<=ak/\ak<((ag.Names.length:Nat):Int))
(cond (Op.bytesLess gG (ag.Names.getD ak.toNat default))
(some (ak,false))
(G.fP.L1 n ag gG (IntKind.wrap .i64 (ak+1))))))
(some ((-1),false)))
(some ((-1),false)))
def G.fP.L2 (f:Nat) (ag:af) (gG:aA) (DF:Int):Option (Int × Bool):=match f with
| 0=>none
| n+1 =>
(cond (ag.Kind==4)
(cond (decide (DF<=((ag.Kids.length:Nat):Int)))
(cond (DF==((ag.Kids.length:Nat):Int))
(some (DF,false))
(chk (0<=DF/\DF<((ag.Names.length:Nat):Int))
(cond (Op.bytesLess gG (ag.Names.getD DF.toNat default))
(some (DF,false))
(G.fP.L2 n ag gG (IntKind.wrap .i64 (DF+1))))))
(some ((-1),false)))
(some ((-1),false)))
def G.fP (f:Nat) (ag:af) (gG:aA):Option (Int × Bool):=match f with
| 0=>none
| n+1 =>
((G.dU n ag gG).bind fun v1 =>
(cond (decide (0<=v1))
(some (v1,(ag.Kind==4)))
(cond (ag.Kind==3)
(cond (gG==[45])
(some (((ag.Kids.length:Nat):Int),false))
((G.fC n ((ag.Kids.length:Nat):Int)).bind fun v2 =>
(cond (gG==v2)
(some (((ag.Kids.length:Nat):Int),false))
(G.fP.L1 n ag gG 0))))
(G.fP.L2 n ag gG 0))))
def G.iC (f:Nat) (ag:af) (xy:Int) (pV:af):Option (af):=match f with
| 0=>none
| n+1 =>
((G.ay n ag).bind fun v1 =>
((G.ay n pV).bind fun v2 =>
(chk (0<=xy/\xy<((v1.Kids.length:Nat):Int))
(some ((af.mk v1.Kind v1.Num v1.Text v1.Names (v1.Kids.set xy.toNat v2)))))))
def G.gY (f:Nat) (ag:af) (gG:aA) (jb:af):Option (af × Bool):=match f with
| 0=>none
| n+1 =>
((G.fP n ag gG).bind fun v1 =>
(cond (decide (v1.1<0))
(some ((af.mk 0 0 [] [] []),false))
(cond v1.2
((G.iC n ag v1.1 jb).bind fun v2 =>
(some (v2,true)))
((G.ay n ag).bind fun v3 =>
(chk (0<=0/\0<=v1.1/\v1.1<=((v3.Kids.length:Nat):Int))
(chk (((v3.Kids.take v1.1.toNat).length)*86<=2^46)
((G.ay n jb).bind fun v4 =>
(chk (((v3.Kids.take v1.1.toNat).length+1)*86<=2^46)
(chk (0<=v1.1/\v1.1<=((v3.Kids.length:Nat):Int)/\((v3.Kids.length:Nat):Int)<=((v3.Kids.length:Nat):Int))
(chk ((((v3.Kids.take v1.1.toNat).length+1)+(v3.Kids.drop v1.1.toNat).length)*86<=2^46)
(cond (ag.Kind==3)
(some ((af.mk ag.Kind 0 [] [] (((v3.Kids.take v1.1.toNat)++[v4])++(v3.Kids.drop v1.1.toNat))),true))
(chk (0<=0/\0<=v1.1/\v1.1<=((v3.Names.length:Nat):Int))
(chk (((v3.Names.take v1.1.toNat).length)*18<=2^46)
(chk (((v3.Names.take v1.1.toNat).length+1)*18<=2^46)
(chk (0<=v1.1/\v1.1<=((v3.Names.length:Nat):Int)/\((v3.Names.length:Nat):Int)<=((v3.Names.length:Nat):Int))
(chk ((((v3.Names.take v1.1.toNat).length+1)+(v3.Names.drop v1.1.toNat).length)*18<=2^46)
(some ((af.mk ag.Kind 0 [] (((v3.Names.take v1.1.toNat)++[gG])++(v3.Names.drop v1.1.toNat)) (((v3.Kids.take v1.1.toNat)++[v4])++(v3.Kids.drop v1.1.toNat))),true))))))))))))))))))
def G.jr (f:Nat) (aC:ReaderT):Option (aA × ReaderT):=match f with
| 0=>none
| n+1 =>
((G.dA n aC [[97],[98],[],[97,98,99],[97,47,98],[126],[120,32,121],[34,113,34],[98,97,99,107,92,115],[48],[49],[97,98,99,100,101,102,103,104,105,106,107,108]]).bind fun v1 =>
(some (v1.1,v1.2)))
def G.jq (f:Nat) (aC:ReaderT):Option (aA × ReaderT):=match f with
| 0=>none
| n+1 =>
((G.dA n aC [[97],[98],[99],[100],[97,47,98],[126,120],[],[107]]).bind fun v1 =>
(some (v1.1,v1.2)))
mutual
def G.dh.L1 (f:Nat) (aK:Int) (nY:Int) (y8:List Int) (y9:Int) (zn:Int) (JY:Int) (Lh:aA) (y13:List aA) (He:List af):Option (af × ReaderT):=match f with
| 0=>none
| n+1 =>
(cond (decide (0<nY))
((G.jq n (ReaderT.mk y8 y9)).bind fun v10 =>
((G.aO n v10.2 (IntKind.wrap .i64 (aK-1))).bind fun v11 =>
((G.dU n (af.mk zn JY Lh y13 He) v10.1).bind fun v12 =>
(cond (decide (v12<0))
((G.gY n (af.mk zn JY Lh y13 He) v10.1 v11.1).bind fun v13 =>
(G.dh.L1 n aK (IntKind.wrap .i64 (nY-1)) v11.2.b v11.2.p v13.1.Kind v13.1.Num v13.1.Text v13.1.Names v13.1.Kids))
(G.dh.L1 n aK (IntKind.wrap .i64 (nY-1)) v11.2.b v11.2.p zn JY Lh y13 He)))))
(some ((af.mk zn JY Lh y13 He),(ReaderT.mk y8 y9))))
def G.dh (f:Nat) (aC:ReaderT) (aK:Int):Option (af × ReaderT):=match f with
| 0=>none
| n+1 =>
((G.dH n aC [2,3,1,0,4]).bind fun v1 =>
(G.dh.L1 n aK v1.1 v1.2.b v1.2.p 4 0 [] [] []))
def G.aO.L2 (f:Nat) (aK:Int) (nR:Int) (nY:Int) (y5:List Int) (y6:Int) (z2:List af):Option (af × ReaderT):=match f with
| 0=>none
| n+1 =>
(cond (decide (0<nY))
((G.aO n (ReaderT.mk y5 y6) (IntKind.wrap .i64 (aK-1))).bind fun v9 =>
(chk ((z2.length+1)*86<=2^46)
(G.aO.L2 n aK nR (IntKind.wrap .i64 (nY-1)) v9.2.b v9.2.p (z2++[v9.1]))))
(some ((af.mk nR 0 [] [] z2),(ReaderT.mk y5 y6))))
def G.aO.K1 (f:Nat) (aK:Int) (nR:Int) (y1:List Int) (y2:Int):Option (af × ReaderT):=match f with
| 0=>none
| n+1 =>
(cond (nR==1)
((G.aj n (ReaderT.mk y1 y2) 250).bind fun v3 =>
((G.dH n v3.2 [0,1,2,7,(-7),999999,(-999999),v3.1]).bind fun v4 =>
(some ((af.mk nR v4.1 [] [] []),v4.2))))
(cond (nR==2)
((G.jr n (ReaderT.mk y1 y2)).bind fun v5 =>
(some ((af.mk nR 0 v5.1 [] []),v5.2)))
(cond (nR==3)
((G.aj n (ReaderT.mk y1 y2) 4).bind fun v6 =>
(G.aO.L2 n aK nR v6.1 v6.2.b v6.2.p []))
(cond (nR==4)
((G.dh n (ReaderT.mk y1 y2) aK).bind fun v10 =>
(some (v10.1,v10.2)))
(some ((af.mk 0 0 [] [] []),(ReaderT.mk y1 y2)))))))
def G.aO (f:Nat) (aC:ReaderT) (aK:Int):Option (af × ReaderT):=match f with
| 0=>none
| n+1 =>
((G.aj n aC 5).bind fun v1 =>
(cond (decide (aK<=1))
((G.aj n v1.2 3).bind fun v11 =>
(G.aO.K1 n aK v11.1 v11.2.b v11.2.p))
(G.aO.K1 n aK v1.1 v1.2.b v1.2.p)))
end
def G.dK.K1 (f:Nat) (y1:List Int) (y2:Int) (y3:Int) (y4:Int) (y5:aA) (y6:List aA) (y7:List af):Option (af × ReaderT):=match f with
| 0=>none
| n+1 =>
((G.aT n (af.mk y3 y4 y5 y6 y7)).bind fun v4 =>
(cond v4
(some ((af.mk y3 y4 y5 y6 y7),(ReaderT.mk y1 y2)))
(some ((af.mk 0 0 [] [] []),(ReaderT.mk y1 y2)))))
def G.dK (f:Nat) (aC:ReaderT):Option (af × ReaderT):=match f with
| 0=>none
| n+1 =>
((G.aO n aC 3).bind fun v1 =>
((G.aj n v1.2 3).bind fun v5 =>
(cond (decide (0<v5.1))
((G.dh n v5.2 3).bind fun v6 =>
(G.dK.K1 n v6.2.b v6.2.p v6.1.Kind v6.1.Num v6.1.Text v6.1.Names v6.1.Kids))
(G.dK.K1 n v5.2.b v5.2.p v1.1.Kind v1.1.Num v1.1.Text v1.1.Names v1.1.Kids))))
def G.gZ.L1 (f:Nat) (v1:af × ReaderT) (ak:Int) (y3:List Int) (y4:Int) (z2:List af):Option (af × ReaderT):=match f with
| 0=>none
| n+1 =>
((G.aj n (ReaderT.mk y3 y4) 2).bind fun v9 =>
(cond (decide (ak<(IntKind.wrap .i64 (6+v9.1))))
((G.ay n v1.1).bind fun v10 =>
(chk ((z2.length+1)*86<=2^46)
(G.gZ.L1 n v1 (IntKind.wrap .i64 (ak+1)) v9.2.b v9.2.p (z2++[v10]))))
(some ((af.mk 3 0 [] [] z2),v9.2))))
def G.gZ (f:Nat) (aC:ReaderT):Option (af × ReaderT):=match f with
| 0=>none
| n+1 =>
((G.dK n aC).bind fun v1 =>
((G.aj n v1.2 40).bind fun v2 =>
(cond (v2.1==0)
((G.dH n v2.2 [(-1),5,0,3]).bind fun v3 =>
(some ((af.mk v3.1 v1.1.Num v1.1.Text v1.1.Names v1.1.Kids),v3.2)))
(cond (v2.1==1)
((G.dH n v2.2 [1,1000000]).bind fun v4 =>
(some ((af.mk v1.1.Kind v4.1 v1.1.Text v1.1.Names v1.1.Kids),v4.2)))
(cond (v2.1==2)
(some ((af.mk v1.1.Kind v1.1.Num [97,98,99,100,101,102,103,104,105,106,107,108,109] v1.1.Names v1.1.Kids),v2.2))
(cond (v2.1==3)
(chk ((v1.1.Names.length+1)*18<=2^46)
(some ((af.mk v1.1.Kind v1.1.Num v1.1.Text (v1.1.Names++[[]]) v1.1.Kids),v2.2)))
(cond (v2.1==4)
(some ((af.mk 3 0 [] [] [(af.mk 3 0 [] [] [(af.mk 3 0 [] [] [(af.mk 3 0 [] [] [v1.1])])])]),v2.2))
(cond (v2.1==5)
(G.gZ.L1 n v1 0 v2.2.b v2.2.p [])
(some (v1.1,v2.2))))))))))
def G.iZ (f:Nat) (aC:ReaderT):Option (aA × ReaderT):=match f with
| 0=>none
| n+1 =>
((G.dA n aC [[],[65],[97,98,99,100,101,102,103,104,105],[97,32,98],[97]]).bind fun v1 =>
(some (v1.1,v1.2)))
def G.dL.L1 (f:Nat) (ai:StoreT) (ak:Int) (z2:List dN):Option (StoreT):=match f with
| 0=>none
| n+1 =>
(cond (decide (ak<((ai.Items.length:Nat):Int)))
(chk (0<=ak/\ak<((ai.Items.length:Nat):Int))
(chk (0<=ak/\ak<((ai.Items.length:Nat):Int))
(chk (0<=ak/\ak<((ai.Items.length:Nat):Int))
((G.ay n ((ai.Items.getD ak.toNat default).Node)).bind fun v3 =>
(chk ((z2.length+1)*112<=2^46)
(G.dL.L1 n ai (IntKind.wrap .i64 (ak+1)) (z2++[(dN.mk ((ai.Items.getD ak.toNat default).Name) ((ai.Items.getD ak.toNat default).Version) v3)])))))))
(some ((StoreT.mk z2 ai.Clock))))
def G.dL (f:Nat) (ai:StoreT):Option (StoreT):=match f with
| 0=>none
| n+1 =>
(G.dL.L1 n ai 0 [])
def G.iK.L1 (f:Nat) (ai:StoreT) (dW:aA) (ak:Int):Option (Int):=match f with
| 0=>none
| n+1 =>
(cond (decide (ak<((ai.Items.length:Nat):Int)))
(chk (0<=ak/\ak<((ai.Items.length:Nat):Int))
(cond ((ai.Items.getD ak.toNat default).Name==dW)
(some (ak))
(G.iK.L1 n ai dW (IntKind.wrap .i64 (ak+1)))))
(some ((-1))))
def G.iK (f:Nat) (ai:StoreT) (dW:aA):Option (Int):=match f with
| 0=>none
| n+1 =>
(G.iK.L1 n ai dW 0)
def G.bg.L1 (f:Nat) (ai:StoreT) (ak:Int):Option (Bool):=match f with
| 0=>none
| n+1 =>
(cond (decide (ak<((ai.Items.length:Nat):Int)))
(chk (0<=ak/\ak<((ai.Items.length:Nat):Int))
((G.di n ((ai.Items.getD ak.toNat default).Name)).bind fun v7 =>
(cond v7
((G.aT n ((ai.Items.getD ak.toNat default).Node)).bind fun v8 =>
(cond v8
((G.bG n ((ai.Items.getD ak.toNat default).Version) 1 ai.Clock).bind fun v9 =>
(cond v9
(cond (decide (0<ak))
(chk (0<=(IntKind.wrap .i64 (ak-1))/\(IntKind.wrap .i64 (ak-1))<((ai.Items.length:Nat):Int))
(cond (Op.bytesLess ((ai.Items.getD ak.toNat default).Name) ((ai.Items.getD (IntKind.wrap .i64 (ak-1)).toNat default).Name))
(some (false))
(cond ((ai.Items.getD ak.toNat default).Name==(ai.Items.getD (IntKind.wrap .i64 (ak-1)).toNat default).Name)
(some (false))
(G.bg.L1 n ai (IntKind.wrap .i64 (ak+1))))))
(G.bg.L1 n ai (IntKind.wrap .i64 (ak+1))))
(some (false))))
(some (false))))
(some (false)))))
(cond (decide (((ai.Items.length:Nat):Int)<=10))
((G.bG n ai.Clock 0 999).bind fun v10 =>
(some (v10)))
(some (false))))
def G.bg (f:Nat) (ai:StoreT):Option (Bool):=match f with
| 0=>none
| n+1 =>
(G.bg.L1 n ai 0)
def G.jB (f:Nat) (ai:StoreT) (dW:aA):Option (dN × Bool):=match f with
| 0=>none
| n+1 =>
((G.bg n ai).bind fun v1 =>
(cond v1
((G.iK n ai dW).bind fun v2 =>
(cond (decide (v2<0))
(some ((dN.mk [] 0 (af.mk 0 0 [] [] [])),false))
((G.dL n ai).bind fun v3 =>
((G.iK n ai dW).bind fun v4 =>
(chk (0<=v4/\v4<((v3.Items.length:Nat):Int))
(some ((dN.mk ((v3.Items.getD v4.toNat default).Name) ((v3.Items.getD v4.toNat default).Version) ((v3.Items.getD v4.toNat default).Node)),true)))))))
(some ((dN.mk [] 0 (af.mk 0 0 [] [] [])),false))))
def G.kU (f:Nat) (ag:Int):Option (aA):=match f with
| 0=>none
| n+1 =>
(chk (0<=(IntKind.wrap .i64 (Int.tdiv ag 4096))/\(IntKind.wrap .i64 (Int.tdiv ag 4096))<((16:Nat):Int))
(chk (0<=(Int.tmod (IntKind.wrap .i64 (Int.tdiv ag 256)) 16)/\(Int.tmod (IntKind.wrap .i64 (Int.tdiv ag 256)) 16)<((16:Nat):Int))
(chk (0<=(Int.tmod (IntKind.wrap .i64 (Int.tdiv ag 16)) 16)/\(Int.tmod (IntKind.wrap .i64 (Int.tdiv ag 16)) 16)<((16:Nat):Int))
(chk (0<=(Int.tmod ag 16)/\(Int.tmod ag 16)<((16:Nat):Int))
(chk (4<=maxLen)
(some ([UInt8.ofNat ((([48,49,50,51,52,53,54,55,56,57,97,98,99,100,101,102]:aA).getD (IntKind.wrap .i64 (Int.tdiv ag 4096)).toNat 0).toNat),UInt8.ofNat ((([48,49,50,51,52,53,54,55,56,57,97,98,99,100,101,102]:aA).getD (Int.tmod (IntKind.wrap .i64 (Int.tdiv ag 256)) 16).toNat 0).toNat),UInt8.ofNat ((([48,49,50,51,52,53,54,55,56,57,97,98,99,100,101,102]:aA).getD (Int.tmod (IntKind.wrap .i64 (Int.tdiv ag 16)) 16).toNat 0).toNat),UInt8.ofNat ((([48,49,50,51,52,53,54,55,56,57,97,98,99,100,101,102]:aA).getD (Int.tmod ag 16).toNat 0).toNat)])))))))
def G.iL.L1 (f:Nat) (ai:aA) (nY:Int) (ak:Int):Option (Int):=match f with
| 0=>none
| n+1 =>
(cond (decide (ak<((ai.length:Nat):Int)))
(chk (0<=ak/\ak<((ai.length:Nat):Int))
(G.iL.L1 n ai (Int.tmod (IntKind.wrap .i64 ((IntKind.wrap .i64 (131*nY))+(IntKind.wrap .i64 ((((ai.getD ak.toNat 0).toNat:Nat):Int))))) 65521) (IntKind.wrap .i64 (ak+1))))
(some (nY)))
def G.iL (f:Nat) (ai:aA):Option (Int):=match f with
| 0=>none
| n+1 =>
(G.iL.L1 n ai 17 0)
def G.jL (f:Nat) (ag:af):Option (aA):=match f with
| 0=>none
| n+1 =>
((G.aT n ag).bind fun v1 =>
(cond v1
((G.bI n ag).bind fun v2 =>
((G.iL n v2).bind fun v3 =>
((G.kU n v3).bind fun v4 =>
(some (v4)))))
(some ([]))))
def G.gU.L1 (f:Nat) (oM:aA) (nY:Int) (y3:List Int) (y4:Int) (z2:List aA):Option (List aA × ReaderT):=match f with
| 0=>none
| n+1 =>
(cond (decide (0<nY))
((G.dA n (ReaderT.mk y3 y4) [[42],[48,48,48,48],[49,50,97,98],[102,102,102,102],oM,oM]).bind fun v4 =>
(chk ((z2.length+1)*18<=2^46)
(G.gU.L1 n oM (IntKind.wrap .i64 (nY-1)) v4.2.b v4.2.p (z2++[v4.1]))))
(cond (decide (0<((z2.length:Nat):Int)))
((G.aj n (ReaderT.mk y3 y4) 20).bind fun v5 =>
(cond (v5.1==0)
((G.dA n v5.2 [[],[49,50,97,66],[49,50,51],[49,50,51,52,53]]).bind fun v6 =>
(chk (0<=0/\0<((z2.length:Nat):Int))
(some ((z2.set 0 v6.1),v6.2))))
(some (z2,v5.2))))
(some (z2,(ReaderT.mk y3 y4)))))
def G.gU (f:Nat) (aC:ReaderT) (oM:aA):Option (List aA × ReaderT):=match f with
| 0=>none
| n+1 =>
((G.dH n aC [0,1,0,2,0,4,5]).bind fun v1 =>
(G.gU.L1 n oM v1.1 v1.2.b v1.2.p []))
def G.iJ (f:Nat) (aC:ReaderT):Option (aA × ReaderT):=match f with
| 0=>none
| n+1 =>
((G.dA n aC [[97],[98],[100,111,99],[122,122],[97,49],[109],[120,57],[98,111,111,107],[97,98,99,100,101,102,103,104],[113]]).bind fun v1 =>
(some (v1.1,v1.2)))
def G.jY (f:Nat) (aC:ReaderT) (ai:StoreT):Option (aA × ReaderT):=match f with
| 0=>none
| n+1 =>
(cond (decide (0<((ai.Items.length:Nat):Int)))
((G.aj n aC 4).bind fun v1 =>
(cond (decide (0<v1.1))
((G.aj n v1.2 ((ai.Items.length:Nat):Int)).bind fun v2 =>
(chk (0<=v2.1/\v2.1<((ai.Items.length:Nat):Int))
(some ((ai.Items.getD v2.1.toNat default).Name,v2.2))))
((G.aj n v1.2 12).bind fun v3 =>
(cond (v3.1==0)
((G.iZ n v3.2).bind fun v4 =>
(some (v4.1,v4.2)))
((G.iJ n v3.2).bind fun v5 =>
(some (v5.1,v5.2)))))))
((G.aj n aC 12).bind fun v6 =>
(cond (v6.1==0)
((G.iZ n v6.2).bind fun v7 =>
(some (v7.1,v7.2)))
((G.iJ n v6.2).bind fun v8 =>
(some (v8.1,v8.2))))))
def G.jD.L1 (f:Nat) (aQ:List aA) (ak:Int) (y6:Int) (y7:Int) (y8:aA) (y9:List aA) (zn:List af):Option (af × Bool):=match f with
| 0=>none
| n+1 =>
(cond (decide (ak<((aQ.length:Nat):Int)))
(chk (0<=ak/\ak<((aQ.length:Nat):Int))
((G.dU n (af.mk y6 y7 y8 y9 zn) (aQ.getD ak.toNat default)).bind fun v3 =>
(cond (decide (v3<0))
(some ((af.mk 0 0 [] [] []),false))
(chk (0<=v3/\v3<((zn.length:Nat):Int))
(G.jD.L1 n aQ (IntKind.wrap .i64 (ak+1)) ((zn.getD v3.toNat default).Kind) ((zn.getD v3.toNat default).Num) ((zn.getD v3.toNat default).Text) ((zn.getD v3.toNat default).Names) ((zn.getD v3.toNat default).Kids))))))
((G.ay n (af.mk y6 y7 y8 y9 zn)).bind fun v4 =>
(some (v4,true))))
def G.jD (f:Nat) (ag:af) (aQ:List aA):Option (af × Bool):=match f with
| 0=>none
| n+1 =>
(G.jD.L1 n aQ 0 ag.Kind ag.Num ag.Text ag.Names ag.Kids)
mutual
def G.jM (f:Nat) (ag:af) (aQ:List aA) (jb:af):Option (af × Bool):=match f with
| 0=>none
| n+1 =>
(cond (((aQ.length:Nat):Int)==0)
((G.ay n jb).bind fun v1 =>
(some (v1,true)))
(chk (0<=0/\0<((aQ.length:Nat):Int))
((G.dU n ag (aQ.getD 0 default)).bind fun v2 =>
(cond (decide (v2<0))
(some ((af.mk 0 0 [] [] []),false))
(chk (0<=v2/\v2<((ag.Kids.length:Nat):Int))
(chk (0<=1/\1<=((aQ.length:Nat):Int)/\((aQ.length:Nat):Int)<=((aQ.length:Nat):Int))
((G.jM n (ag.Kids.getD v2.toNat default) (aQ.drop 1) jb).bind fun v3 =>
(cond v3.2
((G.iC n ag v2 v3.1).bind fun v4 =>
(some (v4,true)))
(some ((af.mk 0 0 [] [] []),false))))))))))
end
def G.kX (f:Nat) (ag:af) (aQ:List aA) (jb:af):Option (af × Bool):=match f with
| 0=>none
| n+1 =>
(cond (((aQ.length:Nat):Int)==0)
((G.ay n jb).bind fun v1 =>
(some (v1,true)))
(chk (0<=0/\0<=(IntKind.wrap .i64 (((aQ.length:Nat):Int)-1))/\(IntKind.wrap .i64 (((aQ.length:Nat):Int)-1))<=((aQ.length:Nat):Int))
((G.jD n ag (aQ.take ((IntKind.wrap .i64 (((aQ.length:Nat):Int)-1)).toNat))).bind fun v2 =>
(cond v2.2
(chk (0<=(IntKind.wrap .i64 (((aQ.length:Nat):Int)-1))/\(IntKind.wrap .i64 (((aQ.length:Nat):Int)-1))<((aQ.length:Nat):Int))
((G.gY n v2.1 (aQ.getD (IntKind.wrap .i64 (((aQ.length:Nat):Int)-1)).toNat default) jb).bind fun v3 =>
(cond v3.2
(chk (0<=0/\0<=(IntKind.wrap .i64 (((aQ.length:Nat):Int)-1))/\(IntKind.wrap .i64 (((aQ.length:Nat):Int)-1))<=((aQ.length:Nat):Int))
((G.jM n ag (aQ.take ((IntKind.wrap .i64 (((aQ.length:Nat):Int)-1)).toNat)) v3.1).bind fun v4 =>
(some (v4.1,v4.2))))
(some ((af.mk 0 0 [] [] []),false)))))
(some ((af.mk 0 0 [] [] []),false))))))
mutual
def G.fQ.L7 (f:Nat) (ag:af) (ak:Int) (xq:aA) (v6:List (List aA)) (G8:Int) (z8:List (List aA)):Option (List (List aA)):=match f with
| 0=>none
| n+1 =>
(cond (decide (G8<((v6.length:Nat):Int)))
(chk (0<=G8/\G8<((v6.length:Nat):Int))
(chk ((1+(v6.getD G8.toNat default).length)*18<=2^46)
(chk ((z8.length+1)*26<=2^46)
(G.fQ.L7 n ag ak xq v6 (IntKind.wrap .i64 (G8+1)) (z8++[([xq]++(v6.getD G8.toNat default))])))))
(G.fQ.L5 n ag (IntKind.wrap .i64 (ak+1)) z8))
def G.fQ.K6 (f:Nat) (ag:af) (ak:Int) (z6:List (List aA)) (xq:aA):Option (List (List aA)):=match f with
| 0=>none
| n+1 =>
(chk (0<=ak/\ak<((ag.Kids.length:Nat):Int))
((G.fQ n (ag.Kids.getD ak.toNat default)).bind fun v6 =>
(G.fQ.L7 n ag ak xq v6 0 z6)))
def G.fQ.L5 (f:Nat) (ag:af) (ak:Int) (z6:List (List aA)):Option (List (List aA)):=match f with
| 0=>none
| n+1 =>
(cond (decide (ak<((ag.Kids.length:Nat):Int)))
((G.fC n ak).bind fun v5 =>
(cond (ag.Kind==4)
(chk (0<=ak/\ak<((ag.Names.length:Nat):Int))
(G.fQ.K6 n ag ak z6 (ag.Names.getD ak.toNat default)))
(G.fQ.K6 n ag ak z6 v5)))
(some (z6)))
def G.fQ (f:Nat) (ag:af):Option (List (List aA)):=match f with
| 0=>none
| n+1 =>
(G.fQ.L5 n ag 0 [[]])
end
def G.iO.K1 (f:Nat) (ag:af) (aQ:List aA) (v1:af × Bool) (z1:List af) (z2:List aA):Option (af × Bool):=match f with
| 0=>none
| n+1 =>
(chk (0<=0/\0<=(IntKind.wrap .i64 (((aQ.length:Nat):Int)-1))/\(IntKind.wrap .i64 (((aQ.length:Nat):Int)-1))<=((aQ.length:Nat):Int))
((G.jM n ag (aQ.take ((IntKind.wrap .i64 (((aQ.length:Nat):Int)-1)).toNat)) (af.mk v1.1.Kind 0 [] z2 z1)).bind fun v3 =>
(some (v3.1,v3.2))))
def G.iO (f:Nat) (ag:af) (aQ:List aA):Option (af × Bool):=match f with
| 0=>none
| n+1 =>
(cond (decide ((IntKind.wrap .i64 (((aQ.length:Nat):Int)-1))<0))
(some ((af.mk 0 0 [] [] []),false))
(chk (0<=0/\0<=(IntKind.wrap .i64 (((aQ.length:Nat):Int)-1))/\(IntKind.wrap .i64 (((aQ.length:Nat):Int)-1))<=((aQ.length:Nat):Int))
((G.jD n ag (aQ.take ((IntKind.wrap .i64 (((aQ.length:Nat):Int)-1)).toNat))).bind fun v1 =>
(cond v1.2
(chk (0<=(IntKind.wrap .i64 (((aQ.length:Nat):Int)-1))/\(IntKind.wrap .i64 (((aQ.length:Nat):Int)-1))<((aQ.length:Nat):Int))
((G.dU n v1.1 (aQ.getD (IntKind.wrap .i64 (((aQ.length:Nat):Int)-1)).toNat default)).bind fun v2 =>
(cond (decide (v2<0))
(some ((af.mk 0 0 [] [] []),false))
(chk (0<=0/\0<=v2/\v2<=((v1.1.Kids.length:Nat):Int))
(chk (((v1.1.Kids.take v2.toNat).length)*86<=2^46)
(chk (0<=(IntKind.wrap .i64 (v2+1))/\(IntKind.wrap .i64 (v2+1))<=((v1.1.Kids.length:Nat):Int)/\((v1.1.Kids.length:Nat):Int)<=((v1.1.Kids.length:Nat):Int))
(chk (((v1.1.Kids.take v2.toNat).length+(v1.1.Kids.drop ((IntKind.wrap .i64 (v2+1)).toNat)).length)*86<=2^46)
(cond (v1.1.Kind==4)
(chk (0<=0/\0<=v2/\v2<=((v1.1.Names.length:Nat):Int))
(chk (((v1.1.Names.take v2.toNat).length)*18<=2^46)
(chk (0<=(IntKind.wrap .i64 (v2+1))/\(IntKind.wrap .i64 (v2+1))<=((v1.1.Names.length:Nat):Int)/\((v1.1.Names.length:Nat):Int)<=((v1.1.Names.length:Nat):Int))
(chk (((v1.1.Names.take v2.toNat).length+(v1.1.Names.drop ((IntKind.wrap .i64 (v2+1)).toNat)).length)*18<=2^46)
(G.iO.K1 n ag aQ v1 ((v1.1.Kids.take v2.toNat)++(v1.1.Kids.drop ((IntKind.wrap .i64 (v2+1)).toNat))) ((v1.1.Names.take v2.toNat)++(v1.1.Names.drop ((IntKind.wrap .i64 (v2+1)).toNat))))))))
(G.iO.K1 n ag aQ v1 ((v1.1.Kids.take v2.toNat)++(v1.1.Kids.drop ((IntKind.wrap .i64 (v2+1)).toNat))) [])))))))))
(some ((af.mk 0 0 [] [] []),false))))))
def G.iD.K1 (f:Nat) (ag:af) (JP:Bool) (y1:List Int) (y2:Int) (y3:Int) (y4:Int) (y5:aA) (y6:List aA) (y7:List af):Option (af × ReaderT):=match f with
| 0=>none
| n+1 =>
(cond JP
((G.aT n (af.mk y3 y4 y5 y6 y7)).bind fun v12 =>
(cond v12
(some ((af.mk y3 y4 y5 y6 y7),(ReaderT.mk y1 y2)))
((G.ay n ag).bind fun v13 =>
(some (v13,(ReaderT.mk y1 y2))))))
((G.ay n ag).bind fun v14 =>
(some (v14,(ReaderT.mk y1 y2)))))
def G.iD (f:Nat) (aC:ReaderT) (ag:af):Option (af × ReaderT):=match f with
| 0=>none
| n+1 =>
((G.fQ n ag).bind fun v1 =>
((G.aj n aC ((v1.length:Nat):Int)).bind fun v2 =>
(chk (0<=v2.1/\v2.1<((v1.length:Nat):Int))
((G.ay n ag).bind fun v3 =>
((G.aj n v2.2 5).bind fun v15 =>
(cond (v15.1==0)
((G.iO n ag (v1.getD v2.1.toNat default)).bind fun v16 =>
(G.iD.K1 n ag v16.2 v15.2.b v15.2.p v16.1.Kind v16.1.Num v16.1.Text v16.1.Names v16.1.Kids))
(cond (v15.1==1)
(chk (((v1.getD v2.1.toNat default).length)*18<=2^46)
((G.dA n v15.2 [[97],[48],[45],[122]]).bind fun v17 =>
(chk (((v1.getD v2.1.toNat default).length+1)*18<=2^46)
((G.aO n v17.2 2).bind fun v18 =>
((G.kX n ag ((v1.getD v2.1.toNat default)++[v17.1]) v18.1).bind fun v19 =>
(G.iD.K1 n ag v19.2 v18.2.b v18.2.p v19.1.Kind v19.1.Num v19.1.Text v19.1.Names v19.1.Kids))))))
(cond (v15.1==2)
((G.aO n v15.2 2).bind fun v20 =>
((G.jM n ag (v1.getD v2.1.toNat default) v20.1).bind fun v21 =>
(G.iD.K1 n ag v21.2 v20.2.b v20.2.p v21.1.Kind v21.1.Num v21.1.Text v21.1.Names v21.1.Kids)))
(cond (v15.1==3)
((G.dK n v15.2).bind fun v22 =>
(some (v22.1,v22.2)))
(G.iD.K1 n ag true v15.2.b v15.2.p v3.Kind v3.Num v3.Text v3.Names v3.Kids))))))))))
def G.jH (f:Nat) (ag:af):Option (List (List aA)):=match f with
| 0=>none
| n+1 =>
((G.aT n ag).bind fun v1 =>
(cond v1
((G.fQ n ag).bind fun v2 =>
(some (v2)))
(some ([]))))
def G.gQ.L1 (f:Nat) (nY:Int) (y3:List Int) (y4:Int) (z2:List aA):Option (List aA × ReaderT):=match f with
| 0=>none
| n+1 =>
(cond (decide (0<nY))
((G.dA n (ReaderT.mk y3 y4) [[97],[98],[48],[49],[45],[97,47,98],[126,120],[],[99]]).bind fun v4 =>
(chk ((z2.length+1)*18<=2^46)
(G.gQ.L1 n (IntKind.wrap .i64 (nY-1)) v4.2.b v4.2.p (z2++[v4.1]))))
(cond (decide (0<((z2.length:Nat):Int)))
((G.aj n (ReaderT.mk y3 y4) 20).bind fun v5 =>
(cond (v5.1==0)
((G.dA n v5.2 [[97,98,99,100,101,102,103,104,105,106,107,108,109],[10]]).bind fun v6 =>
(chk (0<=0/\0<((z2.length:Nat):Int))
(some ((z2.set 0 v6.1),v6.2))))
(some (z2,v5.2))))
(some (z2,(ReaderT.mk y3 y4)))))
def G.gQ (f:Nat) (aC:ReaderT):Option (List aA × ReaderT):=match f with
| 0=>none
| n+1 =>
((G.dH n aC [1,2,1,0,3,5,6]).bind fun v1 =>
(G.gQ.L1 n v1.1 v1.2.b v1.2.p []))
def G.jS (f:Nat) (aC:ReaderT) (ag:af):Option (List aA × ReaderT):=match f with
| 0=>none
| n+1 =>
((G.jH n ag).bind fun v1 =>
(cond (decide (0<((v1.length:Nat):Int)))
((G.aj n aC 4).bind fun v2 =>
(cond (decide (0<v2.1))
((G.aj n v2.2 ((v1.length:Nat):Int)).bind fun v3 =>
(chk (0<=v3.1/\v3.1<((v1.length:Nat):Int))
(some ((v1.getD v3.1.toNat default),v3.2))))
((G.gQ n v2.2).bind fun v4 =>
(some (v4.1,v4.2)))))
((G.gQ n aC).bind fun v5 =>
(some (v5.1,v5.2)))))
def G.aZ.K4 (f:Nat) (v1:Int × ReaderT) (v2:List aA × ReaderT) (y3:List aA) (y4:Int) (y5:Int) (y6:aA) (y7:List aA) (y8:List af) (Ph:Bool) (y9:List Int) (zn:Int):Option (iI × ReaderT):=match f with
| 0=>none
| n+1 =>
(cond Ph
(chk (v2.1.length*18<=2^46)
((G.dA n (ReaderT.mk y9 zn) [[122],[45],[48],[101]]).bind fun v10 =>
(chk ((v2.1.length+1)*18<=2^46)
(some ((iI.mk (IntKind.wrap .i64 (1+v1.1)) (v2.1++[v10.1]) y3 (af.mk y4 y5 y6 y7 y8)),v10.2)))))
(some ((iI.mk (IntKind.wrap .i64 (1+v1.1)) v2.1 y3 (af.mk y4 y5 y6 y7 y8)),(ReaderT.mk y9 zn))))
def G.aZ.K3 (f:Nat) (v1:Int × ReaderT) (v2:List aA × ReaderT) (y1:List Int) (y2:Int) (y3:List aA) (y4:Int) (y5:Int) (y6:aA) (y7:List aA) (y8:List af):Option (iI × ReaderT):=match f with
| 0=>none
| n+1 =>
(cond (decide (((v2.1.length:Nat):Int)<4))
(cond ((IntKind.wrap .i64 (1+v1.1))==1)
((G.aj n (ReaderT.mk y1 y2) 2).bind fun v11 =>
(G.aZ.K4 n v1 v2 y3 y4 y5 y6 y7 y8 (v11.1==0) v11.2.b v11.2.p))
(cond ((IntKind.wrap .i64 (1+v1.1))==4)
((G.aj n (ReaderT.mk y1 y2) 2).bind fun v12 =>
(G.aZ.K4 n v1 v2 y3 y4 y5 y6 y7 y8 (v12.1==0) v12.2.b v12.2.p))
(cond ((IntKind.wrap .i64 (1+v1.1))==5)
((G.aj n (ReaderT.mk y1 y2) 2).bind fun v13 =>
(G.aZ.K4 n v1 v2 y3 y4 y5 y6 y7 y8 (v13.1==0) v13.2.b v13.2.p))
(G.aZ.K4 n v1 v2 y3 y4 y5 y6 y7 y8 false y1 y2))))
(G.aZ.K4 n v1 v2 y3 y4 y5 y6 y7 y8 false y1 y2))
def G.aZ.K6 (f:Nat) (ag:af) (v1:Int × ReaderT) (v2:List aA × ReaderT) (Pj:Bool):Option (iI × ReaderT):=match f with
| 0=>none
| n+1 =>
(cond Pj
((G.jS n v2.2 ag).bind fun v17 =>
(G.aZ.K3 n v1 v2 v17.2.b v17.2.p v17.1 0 0 [] [] []))
(G.aZ.K3 n v1 v2 v2.2.b v2.2.p [] 0 0 [] [] []))
def G.aZ.K5 (f:Nat) (ag:af) (v1:Int × ReaderT) (v2:List aA × ReaderT) (vF:Bool):Option (iI × ReaderT):=match f with
| 0=>none
| n+1 =>
(cond vF
((G.aO n v2.2 2).bind fun v14 =>
(G.aZ.K3 n v1 v2 v14.2.b v14.2.p [] v14.1.Kind v14.1.Num v14.1.Text v14.1.Names v14.1.Kids))
(cond ((IntKind.wrap .i64 (1+v1.1))==6)
((G.jD n ag v2.1).bind fun v15 =>
(cond v15.2
((G.aj n v2.2 3).bind fun v16 =>
(cond (decide (0<v16.1))
(G.aZ.K3 n v1 v2 v16.2.b v16.2.p [] v15.1.Kind v15.1.Num v15.1.Text v15.1.Names v15.1.Kids)
(G.aZ.K3 n v1 v2 v16.2.b v16.2.p [] 0 0 [] [] [])))
(G.aZ.K3 n v1 v2 v2.2.b v2.2.p [] 0 0 [] [] [])))
(cond ((IntKind.wrap .i64 (1+v1.1))==4)
(G.aZ.K6 n ag v1 v2 true)
(G.aZ.K6 n ag v1 v2 ((IntKind.wrap .i64 (1+v1.1))==5)))))
def G.aZ (f:Nat) (aC:ReaderT) (ag:af):Option (iI × ReaderT):=match f with
| 0=>none
| n+1 =>
((G.aj n aC 6).bind fun v1 =>
((G.jS n v1.2 ag).bind fun v2 =>
(cond ((IntKind.wrap .i64 (1+v1.1))==1)
(G.aZ.K5 n ag v1 v2 true)
(G.aZ.K5 n ag v1 v2 ((IntKind.wrap .i64 (1+v1.1))==3)))))
def G.aG.K4 (f:Nat) (v1:aA × ReaderT) (v2:dN × Bool) (v3:Int × ReaderT) (y3:List aA) (y6:List aA) (JY:List Int) (Lh:Int) (y13:Int) (He:Int) (Hf:aA) (FH:List aA) (Lj:List af) (z3:List iI):Option (RequestT × ReaderT):=match f with
| 0=>none
| n+1 =>
(cond v2.2
(some ((RequestT.mk (IntKind.wrap .i64 (1+v3.1)) v1.1 y3 y6 (af.mk y13 He Hf FH Lj) z3),(ReaderT.mk JY Lh)))
((G.aj n (ReaderT.mk JY Lh) 2).bind fun v16 =>
(cond (v16.1==0)
(some ((RequestT.mk 2 v1.1 y3 y6 (af.mk y13 He Hf FH Lj) z3),v16.2))
(some ((RequestT.mk (IntKind.wrap .i64 (1+v3.1)) v1.1 y3 y6 (af.mk y13 He Hf FH Lj) z3),v16.2)))))
def G.aG.L5 (f:Nat) (v1:aA × ReaderT) (v2:dN × Bool) (v3:Int × ReaderT) (y3:List aA) (y6:List aA) (Ot:Int) (y20:List Int) (y21:Int) (z5:List iI):Option (RequestT × ReaderT):=match f with
| 0=>none
| n+1 =>
(cond (decide (0<Ot))
((G.aZ n (ReaderT.mk y20 y21) v2.1.Node).bind fun v22 =>
(chk ((z5.length+1)*145<=2^46)
(G.aG.L5 n v1 v2 v3 y3 y6 (IntKind.wrap .i64 (Ot-1)) v22.2.b v22.2.p (z5++[v22.1]))))
(G.aG.K4 n v1 v2 v3 y3 y6 y20 y21 0 0 [] [] [] z5))
def G.aG.K2 (f:Nat) (v1:aA × ReaderT) (v2:dN × Bool) (v3:Int × ReaderT) (y3:List aA) (y4:List Int) (y5:Int) (y6:List aA):Option (RequestT × ReaderT):=match f with
| 0=>none
| n+1 =>
(cond ((IntKind.wrap .i64 (1+v3.1))==2)
((G.dK n (ReaderT.mk y4 y5)).bind fun v17 =>
(G.aG.K4 n v1 v2 v3 y3 y6 v17.2.b v17.2.p v17.1.Kind v17.1.Num v17.1.Text v17.1.Names v17.1.Kids []))
(cond ((IntKind.wrap .i64 (1+v3.1))==5)
((G.iD n (ReaderT.mk y4 y5) v2.1.Node).bind fun v18 =>
(G.aG.K4 n v1 v2 v3 y3 y6 v18.2.b v18.2.p v18.1.Kind v18.1.Num v18.1.Text v18.1.Names v18.1.Kids []))
(cond ((IntKind.wrap .i64 (1+v3.1))==4)
((G.aj n (ReaderT.mk y4 y5) 3).bind fun v19 =>
(G.aG.L5 n v1 v2 v3 y3 y6 v19.1 v19.2.b v19.2.p []))
(G.aG.K4 n v1 v2 v3 y3 y6 y4 y5 0 0 [] [] [] []))))
def G.aG.K1 (f:Nat) (v1:aA × ReaderT) (v2:dN × Bool) (v3:Int × ReaderT) (y1:List Int) (y2:Int) (y3:List aA):Option (RequestT × ReaderT):=match f with
| 0=>none
| n+1 =>
((G.aj n (ReaderT.mk y1 y2) 4).bind fun v23 =>
(cond (v23.1==0)
((G.jL n v2.1.Node).bind fun v24 =>
((G.gU n v23.2 v24).bind fun v25 =>
(G.aG.K2 n v1 v2 v3 y3 v25.2.b v25.2.p v25.1)))
(G.aG.K2 n v1 v2 v3 y3 v23.2.b v23.2.p [])))
def G.aG (f:Nat) (aC:ReaderT) (ai:StoreT):Option (RequestT × ReaderT):=match f with
| 0=>none
| n+1 =>
((G.jY n aC ai).bind fun v1 =>
((G.jB n ai v1.1).bind fun v2 =>
((G.aj n v1.2 5).bind fun v3 =>
((G.aj n v3.2 3).bind fun v26 =>
(cond (v26.1==0)
((G.jL n v2.1.Node).bind fun v27 =>
((G.gU n v26.2 v27).bind fun v28 =>
(G.aG.K1 n v1 v2 v3 v28.2.b v28.2.p v28.1)))
(G.aG.K1 n v1 v2 v3 v26.2.b v26.2.p []))))))
def G.ja (f:Nat) (aC:ReaderT) (ai:StoreT):Option (RequestT × ReaderT):=match f with
| 0=>none
| n+1 =>
((G.aG n aC ai).bind fun v1 =>
((G.aj n v1.2 30).bind fun v2 =>
(cond (v2.1==0)
((G.dH n v2.2 [0,6]).bind fun v3 =>
(some ((RequestT.mk v3.1 v1.1.Name v1.1.Want v1.1.jk v1.1.Body v1.1.Ops),v3.2)))
(cond (v2.1==1)
((G.iZ n v2.2).bind fun v4 =>
(some ((RequestT.mk v1.1.Method v4.1 v1.1.Want v1.1.jk v1.1.Body v1.1.Ops),v4.2)))
(cond (v2.1==2)
((G.gZ n v2.2).bind fun v5 =>
(some ((RequestT.mk v1.1.Method v1.1.Name v1.1.Want v1.1.jk v5.1 v1.1.Ops),v5.2)))
(some (v1.1,v2.2)))))))
def G.iY.L1 (f:Nat) (ai:StoreT) (dW:aA) (v1:StoreT) (ak:Int) (z2:List dN):Option (StoreT):=match f with
| 0=>none
| n+1 =>
(cond (decide (ak<((v1.Items.length:Nat):Int)))
(chk (0<=ak/\ak<((v1.Items.length:Nat):Int))
(cond ((v1.Items.getD ak.toNat default).Name==dW)
(G.iY.L1 n ai dW v1 (IntKind.wrap .i64 (ak+1)) z2)
(chk (0<=ak/\ak<((v1.Items.length:Nat):Int))
(chk ((z2.length+1)*112<=2^46)
(G.iY.L1 n ai dW v1 (IntKind.wrap .i64 (ak+1)) (z2++[(dN.mk ((v1.Items.getD ak.toNat default).Name) ((v1.Items.getD ak.toNat default).Version) ((v1.Items.getD ak.toNat default).Node))]))))))
(some ((StoreT.mk z2 (IntKind.wrap .i64 (ai.Clock+1))))))
def G.iY (f:Nat) (ai:StoreT) (dW:aA):Option (StoreT):=match f with
| 0=>none
| n+1 =>
((G.dL n ai).bind fun v1 =>
(G.iY.L1 n ai dW v1 0 []))
def G.jh (f:Nat) (ai:StoreT) (dW:aA):Option (StoreT × Bool):=match f with
| 0=>none
| n+1 =>
((G.bg n ai).bind fun v1 =>
(cond v1
((G.iK n ai dW).bind fun v2 =>
(cond (decide (v2<0))
(some ((StoreT.mk [] 0),false))
(cond (ai.Clock==999)
(some ((StoreT.mk [] 0),false))
((G.iY n ai dW).bind fun v3 =>
(some (v3,true))))))
(some ((StoreT.mk [] 0),false))))
mutual
def G.fV.K4 (f:Nat) (ai:StoreT) (dW:aA) (v1:af) (v2:StoreT) (ak:Int) (FD:Bool) (z5:List dN):Option (StoreT):=match f with
| 0=>none
| n+1 =>
(chk (0<=ak/\ak<((v2.Items.length:Nat):Int))
(cond ((v2.Items.getD ak.toNat default).Name==dW)
(G.fV.L3 n ai dW v1 v2 FD (IntKind.wrap .i64 (ak+1)) z5)
(chk (0<=ak/\ak<((v2.Items.length:Nat):Int))
(chk ((z5.length+1)*112<=2^46)
(G.fV.L3 n ai dW v1 v2 FD (IntKind.wrap .i64 (ak+1)) (z5++[(dN.mk ((v2.Items.getD ak.toNat default).Name) ((v2.Items.getD ak.toNat default).Version) ((v2.Items.getD ak.toNat default).Node))]))))))
def G.fV.L3 (f:Nat) (ai:StoreT) (dW:aA) (v1:af) (v2:StoreT) (FC:Bool) (ak:Int) (z4:List dN):Option (StoreT):=match f with
| 0=>none
| n+1 =>
(cond (decide (ak<((v2.Items.length:Nat):Int)))
(cond FC
(G.fV.K4 n ai dW v1 v2 ak true z4)
(chk (0<=ak/\ak<((v2.Items.length:Nat):Int))
(cond (Op.bytesLess ((v2.Items.getD ak.toNat default).Name) dW)
(G.fV.K4 n ai dW v1 v2 ak false z4)
(chk ((z4.length+1)*112<=2^46)
(G.fV.K4 n ai dW v1 v2 ak true (z4++[(dN.mk dW (IntKind.wrap .i64 (ai.Clock+1)) v1)]))))))
(cond FC
(some ((StoreT.mk z4 (IntKind.wrap .i64 (ai.Clock+1)))))
(chk ((z4.length+1)*112<=2^46)
(some ((StoreT.mk (z4++[(dN.mk dW (IntKind.wrap .i64 (ai.Clock+1)) v1)]) (IntKind.wrap .i64 (ai.Clock+1))))))))
end
def G.fV (f:Nat) (ai:StoreT) (dW:aA) (ag:af):Option (StoreT):=match f with
| 0=>none
| n+1 =>
((G.ay n ag).bind fun v1 =>
((G.dL n ai).bind fun v2 =>
(G.fV.L3 n ai dW v1 v2 false 0 [])))
def G.jC (f:Nat) (ai:StoreT) (dW:aA) (ag:af):Option (StoreT × Bool):=match f with
| 0=>none
| n+1 =>
((G.bg n ai).bind fun v1 =>
(cond v1
((G.di n dW).bind fun v2 =>
(cond v2
((G.aT n ag).bind fun v3 =>
(cond v3
((G.fV n ai dW ag).bind fun v4 =>
((G.bg n v4).bind fun v5 =>
(cond v5
(some (v4,true))
(some ((StoreT.mk [] 0),false)))))
(some ((StoreT.mk [] 0),false))))
(some ((StoreT.mk [] 0),false))))
(some ((StoreT.mk [] 0),false))))
mutual
def G.dB.K4 (f:Nat) (nY:Int) (Hf:List dN) (FH:Int) (Ou:Bool) (Lj:List Int) (OA:Int) (OB:List dN) (y20:Int):Option (StoreT × ReaderT):=match f with
| 0=>none
| n+1 =>
(cond Ou
(G.dB.L3 n (IntKind.wrap .i64 (nY-1)) Lj OA OB y20)
(G.dB.L3 n (IntKind.wrap .i64 (nY-1)) Lj OA Hf FH))
def G.dB.L3 (f:Nat) (nY:Int) (y13:List Int) (He:Int) (Hf:List dN) (FH:Int):Option (StoreT × ReaderT):=match f with
| 0=>none
| n+1 =>
(cond (decide (0<nY))
((G.iJ n (ReaderT.mk y13 He)).bind fun v20 =>
((G.dK n v20.2).bind fun v21 =>
((G.jC n (StoreT.mk Hf FH) v20.1 v21.1).bind fun v22 =>
((G.aj n v21.2 8).bind fun v26 =>
(cond (v26.1==0)
((G.iJ n v26.2).bind fun v27 =>
((G.jh n (StoreT.mk Hf FH) v27.1).bind fun v28 =>
(G.dB.K4 n nY Hf FH v28.2 v27.2.b v27.2.p v28.1.Items v28.1.Clock)))
(G.dB.K4 n nY Hf FH v22.2 v26.2.b v26.2.p v22.1.Items v22.1.Clock))))))
(some ((StoreT.mk Hf FH),(ReaderT.mk y13 He))))
end
def G.dB (f:Nat) (aC:ReaderT):Option (StoreT × ReaderT):=match f with
| 0=>none
| n+1 =>
((G.dH n aC [3,4,2,5,0,12]).bind fun v1 =>
(G.dB.L3 n v1.1 v1.2.b v1.2.p [] 0))
def G.dP.K1 (f:Nat) (v2:RequestT × ReaderT) (y1:List Int) (y2:Int) (y3:Int) (y4:Int) (y5:aA) (y6:List aA) (y7:List af):Option (RequestT × ReaderT):=match f with
| 0=>none
| n+1 =>
(cond (v2.1.Method != 4)
((G.aj n (ReaderT.mk y1 y2) 8).bind fun v4 =>
(cond (decide (0<v4.1))
(some ((RequestT.mk v2.1.Method v2.1.Name v2.1.Want v2.1.jk (af.mk y3 y4 y5 y6 y7) []),v4.2))
(some ((RequestT.mk v2.1.Method v2.1.Name v2.1.Want v2.1.jk (af.mk y3 y4 y5 y6 y7) v2.1.Ops),v4.2))))
(some ((RequestT.mk v2.1.Method v2.1.Name v2.1.Want v2.1.jk (af.mk y3 y4 y5 y6 y7) v2.1.Ops),(ReaderT.mk y1 y2))))
def G.dP (f:Nat) (aC:ReaderT):Option (RequestT × ReaderT):=match f with
| 0=>none
| n+1 =>
((G.dB n aC).bind fun v1 =>
((G.ja n v1.2 v1.1).bind fun v2 =>
(cond (v2.1.Method != 2)
(cond (v2.1.Method != 5)
((G.aj n v2.2 8).bind fun v5 =>
(cond (decide (0<v5.1))
(G.dP.K1 n v2 v5.2.b v5.2.p 0 0 [] [] [])
(G.dP.K1 n v2 v5.2.b v5.2.p v2.1.Body.Kind v2.1.Body.Num v2.1.Body.Text v2.1.Body.Names v2.1.Body.Kids)))
(G.dP.K1 n v2 v2.2.b v2.2.p v2.1.Body.Kind v2.1.Body.Num v2.1.Body.Text v2.1.Body.Names v2.1.Body.Kids))
(G.dP.K1 n v2 v2.2.b v2.2.p v2.1.Body.Kind v2.1.Body.Num v2.1.Body.Text v2.1.Body.Names v2.1.Body.Kids))))
def G.bM (f:Nat) (aC:aV):Option (Int × aV):=match f with
| 0=>none
| n+1 =>
(cond (decide (((aC.text.length:Nat):Int)<=aC.at_))
(some (0,aC))
(chk (0<=aC.at_/\aC.at_<((aC.text.length:Nat):Int))
(some ((((aC.text.getD aC.at_.toNat 0).toNat:Nat):Int),aC))))
def G.dZ (f:Nat) (aC:aV) (o7:Int):Option (aV):=match f with
| 0=>none
| n+1 =>
((G.bM n aC).bind fun v1 =>
(cond (v1.1 != o7)
(some ((aV.mk v1.2.text v1.2.at_ true)))
(some ((aV.mk v1.2.text (IntKind.wrap .i64 (v1.2.at_+1)) v1.2.bad)))))
mutual
def G.bf.K4 (f:Nat) (z2:List Int) (y13:aA) (He:Int) (Hf:Bool):Option (aA × aV):=match f with
| 0=>none
| n+1 =>
((G.bM n (aV.mk y13 He Hf)).bind fun v15 =>
(cond (v15.1==0)
(some ([],(aV.mk v15.2.text v15.2.at_ true)))
((G.bM n v15.2).bind fun v16 =>
(chk ((z2.length+1)*3<=2^46)
(G.bf.L3 n v16.2.text (IntKind.wrap .i64 (v16.2.at_+1)) v16.2.bad (z2++[v16.1]))))))
def G.bf.L3 (f:Nat) (zn:aA) (JY:Int) (Lh:Bool) (z2:List Int):Option (aA × aV):=match f with
| 0=>none
| n+1 =>
(cond Lh
((G.dZ n (aV.mk zn JY true) 34).bind fun v12 =>
(chk (z2.length<=maxLen)
(some ((lM z2),v12))))
((G.bM n (aV.mk zn JY false)).bind fun v13 =>
(cond (v13.1 != 34)
((G.bM n v13.2).bind fun v17 =>
(cond (v17.1==92)
(G.bf.K4 n z2 v17.2.text (IntKind.wrap .i64 (v17.2.at_+1)) v17.2.bad)
(G.bf.K4 n z2 v17.2.text v17.2.at_ v17.2.bad)))
((G.dZ n v13.2 34).bind fun v18 =>
(chk (z2.length<=maxLen)
(some ((lM z2),v18)))))))
end
def G.bf (f:Nat) (aC:aV):Option (aA × aV):=match f with
| 0=>none
| n+1 =>
((G.dZ n aC 34).bind fun v1 =>
(G.bf.L3 n v1.text v1.at_ v1.bad []))
def G.bz.L2 (f:Nat) (vC:Int) (nY:Int) (JO:Int) (y7:aA) (y8:Int) (y9:Bool):Option (Int × aV):=match f with
| 0=>none
| n+1 =>
(cond (decide (JO<7))
((G.bM n (aV.mk y7 y8 y9)).bind fun v8 =>
((G.bG n (IntKind.wrap .i64 (v8.1)) 48 57).bind fun v9 =>
(cond v9
((G.bM n v8.2).bind fun v10 =>
(G.bz.L2 n vC (IntKind.wrap .i64 ((IntKind.wrap .i64 ((IntKind.wrap .i64 (10*nY))+(IntKind.wrap .i64 (v10.1))))-48)) (IntKind.wrap .i64 (JO+1)) v10.2.text (IntKind.wrap .i64 (v10.2.at_+1)) v10.2.bad))
(some ((IntKind.wrap .i64 (vC*nY)),v8.2)))))
(some ((IntKind.wrap .i64 (vC*nY)),(aV.mk y7 y8 y9))))
def G.bz.K1 (f:Nat) (vC:Int) (y1:aA) (y2:Int) (y3:Bool):Option (Int × aV):=match f with
| 0=>none
| n+1 =>
(G.bz.L2 n vC 0 0 y1 y2 y3)
def G.bz (f:Nat) (aC:aV):Option (Int × aV):=match f with
| 0=>none
| n+1 =>
((G.bM n aC).bind fun v11 =>
(cond (v11.1==45)
(G.bz.K1 n (-1) v11.2.text (IntKind.wrap .i64 (v11.2.at_+1)) v11.2.bad)
(G.bz.K1 n 1 v11.2.text v11.2.at_ v11.2.bad)))
mutual
def G.aI.K7 (f:Nat) (ag:af) (kS:Int) (aK:Int) (z6:List af) (y22:aA) (y23:Int) (y24:Bool) (z7:List aA):Option (af × aV):=match f with
| 0=>none
| n+1 =>
((G.dY n (aV.mk y22 y23 y24) (IntKind.wrap .i64 (aK-1))).bind fun v22 =>
(chk ((z6.length+1)*86<=2^46)
(G.aI.L5 n ag kS aK v22.2.text v22.2.at_ v22.2.bad z7 (z6++[v22.1]))))
def G.aI.K6 (f:Nat) (ag:af) (kS:Int) (aK:Int) (z5:List aA) (z6:List af) (OB:aA) (y20:Int) (y21:Bool):Option (af × aV):=match f with
| 0=>none
| n+1 =>
(cond (ag.Kind==4)
((G.bf n (aV.mk OB y20 y21)).bind fun v23 =>
(chk ((z5.length+1)*18<=2^46)
((G.dZ n v23.2 58).bind fun v24 =>
(G.aI.K7 n ag kS aK z6 v24.text v24.at_ v24.bad (z5++[v23.1])))))
(G.aI.K7 n ag kS aK z6 OB y20 y21 z5))
def G.aI.L5 (f:Nat) (ag:af) (kS:Int) (aK:Int) (FH:aA) (Lj:Int) (OA:Bool) (z5:List aA) (z6:List af):Option (af × aV):=match f with
| 0=>none
| n+1 =>
(cond OA
((G.dZ n (aV.mk FH Lj true) kS).bind fun v17 =>
(some ((af.mk ag.Kind 0 [] z5 z6),v17)))
((G.bM n (aV.mk FH Lj false)).bind fun v18 =>
(cond (v18.1 != kS)
(cond (decide (0<((z6.length:Nat):Int)))
((G.dZ n v18.2 44).bind fun v25 =>
(G.aI.K6 n ag kS aK z5 z6 v25.text v25.at_ v25.bad))
(G.aI.K6 n ag kS aK z5 z6 v18.2.text v18.2.at_ v18.2.bad))
((G.dZ n v18.2 kS).bind fun v26 =>
(some ((af.mk ag.Kind 0 [] z5 z6),v26))))))
def G.aI (f:Nat) (aC:aV) (ag:af) (kS:Int) (aK:Int):Option (af × aV):=match f with
| 0=>none
| n+1 =>
(G.aI.L5 n ag kS aK aC.text (IntKind.wrap .i64 (aC.at_+1)) aC.bad [] [])
def G.dY (f:Nat) (aC:aV) (aK:Int):Option (af × aV):=match f with
| 0=>none
| n+1 =>
(cond (aK==0)
(some ((af.mk 0 0 [] [] []),(aV.mk aC.text aC.at_ true)))
(cond aC.bad
(some ((af.mk 0 0 [] [] []),(aV.mk aC.text aC.at_ true)))
((G.bM n (aV.mk aC.text aC.at_ false)).bind fun v1 =>
(cond (v1.1==34)
((G.bf n v1.2).bind fun v2 =>
(some ((af.mk 2 0 v2.1 [] []),v2.2)))
((G.bM n v1.2).bind fun v3 =>
(cond (v3.1==91)
((G.aI n v3.2 (af.mk 3 0 [] [] []) 93 aK).bind fun v4 =>
(some (v4.1,v4.2)))
((G.bM n v3.2).bind fun v5 =>
(cond (v5.1==123)
((G.aI n v5.2 (af.mk 4 0 [] [] []) 125 aK).bind fun v6 =>
(some (v6.1,v6.2)))
((G.bM n v5.2).bind fun v7 =>
(cond (v7.1==110)
(some ((af.mk 0 0 [] [] []),(aV.mk v7.2.text (if ((v7.2.text.length:Nat):Int)<(IntKind.wrap .i64 (v7.2.at_+4)) then ((v7.2.text.length:Nat):Int) else (IntKind.wrap .i64 (v7.2.at_+4))) v7.2.bad)))
((G.bM n v7.2).bind fun v8 =>
(cond (v8.1==45)
((G.bz n v8.2).bind fun v9 =>
(some ((af.mk 1 v9.1 [] [] []),v9.2)))
((G.bM n v8.2).bind fun v10 =>
((G.bG n (IntKind.wrap .i64 (v10.1)) 48 57).bind fun v11 =>
(cond v11
((G.bz n v10.2).bind fun v12 =>
(some ((af.mk 1 v12.1 [] [] []),v12.2)))
(some ((af.mk 0 0 [] [] []),(aV.mk v10.2.text v10.2.at_ true))))))))))))))))))
end
end Go.Ab
end
section
namespace Go.Ab
open Go
set_option maxRecDepth 100000
set_option linter.defProp false
theorem IX {α β:Type} (f:α->β) (l:List α) (n:Nat):List.take n (List.map f l)=List.map f (List.take n l):=List.map_take.symm
theorem IW {α β:Type} (f:α->β) (l:List α) (n:Nat):List.drop n (List.map f l)=List.map f (List.drop n l):=List.map_drop.symm
theorem PM {i:Int} {m:Nat} [inst:Decidable (0<=i/\i<(m:Int))] {α:Type} {k:Option α} {r:α} (h:chk (0<=i/\i<(m:Int)) k=some r):(0<=i/\i<(m:Int))/\i.toNat<m/\k=some r:=by
 obtain ⟨h1,h2⟩:=lF.1 h
 exact ⟨h1,by omega,h2⟩
inductive Mk:Nat->Prop
 | mk (n:Nat):Mk n
theorem PL {m:Nat} [inst:Decidable ((0:Nat)<=0/\(0:Int)<(m:Int))] {α:Type} {k:Option α} {r:α} (h:chk ((0:Nat)<=0/\(0:Int)<(m:Int)) k=some r):(0:Int)<(m:Int)/\0<m/\k=some r:=by
 obtain ⟨h1,h2⟩:=lF.1 h
 exact ⟨h1.2,by omega,h2⟩
theorem PN {j m:Nat} [inst:Decidable ((0:Nat)<=OfNat.ofNat j/\(OfNat.ofNat j:Int)<(m:Int))] {α:Type} {k:Option α} {r:α} (h:chk ((0:Nat)<=OfNat.ofNat j/\(OfNat.ofNat j:Int)<(m:Int)) k=some r):(OfNat.ofNat j:Int)<(m:Int)/\(OfNat.ofNat j:Nat)<m/\k=some r:=by
 obtain ⟨h1,h2⟩:=lF.1 h
 exact ⟨h1.2,Int.ofNat_lt.1 h1.2,h2⟩
theorem kq {c:Prop} [Decidable c] {α:Type} {k:Option α} {r:α} (h:chk c k=some r):c/\k=some r:=lF.1 h
theorem bq {α β:Type} {x:Option α} {f:α->Option β} {r:β} (h:Option.bind x f=some r):∃ a,x=some a/\f a=some r:=Option.bind_eq_some_iff.1 h
section
variable {P:Program} {Q:AQ} {st:ASt}
theorem IK {f:FuncId} {avs:List AV} {p:Bool} {d:Option Nat} {K:List Nat->List Nat->ASt->Prop} {du:DU K} (k:TCallK P f avs p d st K du):TCallK P f avs p d st K du:=k
theorem IL {a:AQ->ASt->Prop} {d1:DU a} {d2:DU Q} (k:pU a Q st d1 d2):pU a Q st d1 d2:=k
theorem LK {a b:AQ->ASt->Prop} {d1:DU a} {d2:DU b} {d3:DU Q} (k:uz a b Q st d1 d2 d3):uz a b Q st d1 d2 d3:=k
theorem Oa {X:Type} {p:X->Prop} (k:∃ x,p x):∃ x,p x:=k
theorem LP {rs:List lH} {r:AV} (k:wO rs r st):wO rs r st:=k
theorem LQ {rs:List lH} {m:Nat} {post:AV->List Box->Prop} (k:sK rs m post st):sK rs m post st:=k
end
theorem sq {α:Type} {x r:α} (h:some x=some r):r=x:=(Option.some.inj h).symm
theorem cq {b:Bool} {α:Type} {x y:Option α} {r:α} (h:cond b x y=some r):(b=true/\x=some r)\/(b=false/\y=some r):=zH.1 h
def Py:=And.intro @G5 (And.intro @JH (And.intro @GZ (And.intro @JJ (And.intro @JG (And.intro @GY (And.intro @Eu (And.intro @GU (And.intro @JI (And.intro @GR (And.intro @KA (And.intro @Kz (And.intro @FO (And.intro @FN (And.intro @FP (And.intro @FK (And.intro @FI (And.intro @FM (And.intro @DR (And.intro @DN (And.intro @DT (And.intro @J7 (And.intro @J8 (And.intro @J5 (And.intro @J6 (And.intro @Ew (And.intro @Dv (And.intro @JK (And.intro @G7 (And.intro @LZ (And.intro @NH (And.intro @NG (And.intro @L8 (And.intro @Ko (And.intro @Hz (And.intro @FQ (And.intro @Hy (And.intro @uf.eq_1 (And.intro @uf.eq_2 (And.intro @mY.eq_1 (And.intro @mY.eq_2 (And.intro @st0.eq_1 (And.intro @guardVC.eq_1 (And.intro @guardVC.eq_2 (And.intro @guardV.eq_1 (And.intro @guardV.eq_2 (And.intro @AOp.valid.eq_1 (And.intro @AOp.valid.eq_2 (And.intro @avOf.eq_1 (And.intro @ev_t (And.intro @ev_k (And.intro @g_v (And.intro @x_v (And.intro @of_tm (And.intro @of_bx (And.intro @of_put (And.intro @of_setb (And.intro @of_keep (And.intro @lookT.eq_1 (And.intro @lookT.eq_2 (And.intro @lookB.eq_1 (And.intro @lookB.eq_2 (And.intro @keepL.eq_1 (And.intro @keepL.eq_2 (And.intro @setB.eq_1 (And.intro @setB.eq_2 (And.intro @putO_none (And.intro @putO_some (And.intro @setbs_nil (And.intro @setbs_cons (And.intro @FR.ok.eq_1 (And.intro @binV.eq_1 (And.intro @binV.eq_2 (And.intro @binV.eq_3 (And.intro @AV.flat.eq_1 (And.intro @AV.flat.eq_2 (And.intro @AV.cells.eq_1 (And.intro @AV.cells.eq_2 (And.intro @AV.cells.eq_3 (And.intro @loadV.eq_1 (And.intro @loadV.eq_2 (And.intro @loadV.eq_3 (And.intro @loadV.eq_4 (And.intro @partOK.eq_1 (And.intro @fillV.eq_1 (And.intro @fillV.eq_2 (And.intro @splice.eq_1 (And.intro @Box.arr.eq_1 (And.intro @Box.arr.eq_2 (And.intro @Box.arr.eq_3 (And.intro @dataOf.eq_1 (And.intro @dataOf.eq_2 (And.intro @dataOf.eq_3 (And.intro @dataOf.eq_4 (And.intro @datas.eq_1 (And.intro @datas.eq_2 (And.intro @bnd.eq_1 (And.intro @bnd.eq_2 (And.intro @pickV.eq_1 (And.intro @pickV.eq_2 (And.intro @IV (And.intro @IU (And.intro @vStr.eq_1 (And.intro @vInt.eq_1 (And.intro @vBool.eq_1 (And.intro @vSl.eq_1 (And.intro @lZ.eq_1 (And.intro @lZ.eq_2 (And.intro @lZ.eq_3 (And.intro @oh.eq_1 (And.intro @oh.eq_2 (And.intro @oh.eq_3 (And.intro @kQ.eq_1 (And.intro @kQ.eq_2 (And.intro @kQ.eq_3 (And.intro @lendOK.eq_1 (And.intro @lendOK.eq_2 (And.intro @lendOK.eq_3 (And.intro @AV.owns.eq_1 (And.intro @AV.owns.eq_2 (And.intro @AV.owns.eq_3 (And.intro @ownsOf.eq_1 (And.intro @ownsOf.eq_2 (And.intro @ownsOf.eq_3 (And.intro @AC.isData.eq_1 (And.intro @AC.isData.eq_2 (And.intro @AC.isData.eq_3 (And.intro @AC.isLit.eq_1 (And.intro @AC.isLit.eq_2 (And.intro @AV.all.eq_1 (And.intro @AV.all.eq_2 (And.intro @AV.all.eq_3 (And.intro @Cell.isLit.eq_1 (And.intro @Cell.isLit.eq_2 (And.intro @List.mem_cons.{0} (And.intro @List.not_mem_nil.{0} (And.intro @or_false (And.intro @false_or (And.intro @or_true (And.intro @true_or (And.intro @forall_eq.{1} (And.intro @forall_eq_or_imp.{1} (And.intro @true_and (And.intro @and_true (And.intro @true_implies (And.intro @false_implies (And.intro @implies_true.{1} (And.intro @if_true.{1} (And.intro @if_false.{1} (And.intro @Bool.false_eq_true (And.intro @Bool.true_eq_false (And.intro @imp_self (And.intro @and_self (And.intro @cond_true.{1} (And.intro @cond_false.{1} (And.intro @List.map_cons.{0,0} (And.intro @List.map_nil.{0,0} (And.intro @List.take_succ_cons.{0} (And.intro @List.take_zero.{0} (And.intro @List.drop_succ_cons.{0} (And.intro @List.drop_zero.{0} (And.intro @List.take_nil.{0} (And.intro @List.drop_nil.{0} (And.intro @List.cons_append.{0} (And.intro @List.nil_append.{0} (And.intro @List.append_nil.{0} (And.intro @List.length_cons.{0} (And.intro @List.length_nil.{0} (And.intro @List.getElem?_cons_zero.{0} (And.intro @List.getElem?_cons_succ.{0} (And.intro @List.length_map.{0,0} (And.intro @List.length_replicate.{0} (And.intro @List.length_append.{0} (And.intro @List.map_append.{0,0} (And.intro @List.flatMap_cons.{0,0} (And.intro @List.flatMap_nil.{0,0} (And.intro @List.all_cons.{0} (And.intro @List.all_nil.{0} (And.intro @List.contains_cons.{0} (And.intro @List.contains_nil.{0} (And.intro @Bool.and_true (And.intro @Bool.or_false (And.intro @Bool.false_or (And.intro @Bool.true_or (And.intro @Bool.or_true (And.intro @Bool.and_self (And.intro @Bool.not_false (And.intro @Bool.not_true (And.intro @Bool.true_and (And.intro @Bool.false_and (And.intro @Bool.and_false (And.intro @Nat.zero_lt_succ (And.intro @Nat.zero_le (And.intro @Nat.zero_add (And.intro @Nat.le_refl (And.intro @Nat.min_self (And.intro @OJ (And.intro @OI (And.intro @decide_true (And.intro @decide_false (And.intro @beqV.eq_1 (And.intro @beqV.eq_2 (And.intro @shfV.eq_1 (And.intro @shfV.eq_2 (And.intro @capV.eq_1 (And.intro @capV.eq_2 (And.intro @capV.eq_3 (And.intro @cmpsV.eq_1 (And.intro @cmpsV.eq_2 (And.intro @isnilV.eq_1 (And.intro @isnilV.eq_2 (And.intro @idxbV.eq_1 (And.intro @idxbV.eq_2 (And.intro @ovlV.eq_1 (And.intro @asSub.eq_1 (And.intro @asSub.eq_2 (And.intro @asSub.eq_3 (And.intro @cI.eq_1 (And.intro @cU.eq_1 (And.intro @cB.eq_1 (And.intro @cS.eq_1 (And.intro @cL.eq_1 (And.intro @cK.eq_1 (And.intro @af.cO (And.intro @iI.cO (And.intro @RequestT.cO (And.intro @kY.cO (And.intro @au.cO (And.intro @ReaderT.cO (And.intro @StoreT.cO (And.intro @dN.cO (And.intro @aV.cO (And.intro @List.getD_cons_zero.{0} (And.intro @List.getD_cons_succ.{0} (And.intro @List.map_set.{0,0} (And.intro @List.length_set.{0} (And.intro @Gj (And.intro @take_len (And.intro @sF (And.intro @sG (And.intro @E5 (And.intro @xW.eq_1 (And.intro @xW.eq_2 (And.intro @Iu (And.intro @frzB.eq_1 (And.intro @frzB.eq_2 (And.intro @D5 (And.intro @lD (And.intro @BN (And.intro @BO (And.intro @Option.map_some.{0,0} (And.intro @Int.toNat_natCast (And.intro @Int.toNat_zero (And.intro @IX (And.intro @IW (And.intro @bne_self_eq_false.{0} (And.intro @Bool.bne_true (And.intro @Bool.bne_false (And.intro @List.drop_replicate.{0} (And.intro @Nat.sub_self (And.intro @capsOf.eq_1 (And.intro @capsOf.eq_2 (And.intro @capsOf.eq_3 (And.intro @Option.toList_none.{0} (And.intro @Option.toList_some.{0} (And.intro @frzs.eq_1 (And.intro @partOwns.eq_1 (And.intro @partOwns.eq_2 (And.intro @partLend.eq_1 (And.intro @partLend.eq_2 (And.intro @eq_self.{1} (And.intro @List.replicate_zero.{0} (And.intro @List.replicate_succ.{0} (And.intro @fillE.eq_1 (And.intro @fillE.eq_2 (And.intro @datParts.eq_1 (And.intro @datParts.eq_2 (And.intro @List.set_cons_zero.{0} (And.intro @List.set_cons_succ.{0} (And.intro @MH (And.intro @renB.eq_1 (And.intro @renB.eq_2 (And.intro @renA.eq_1 (And.intro @renA.eq_2 (And.intro @renA.eq_3 (And.intro @List.zip_cons_cons.{0,0} (And.intro @List.zip_nil_right.{0,0} (And.intro @List.zip_nil_left.{0,0} (And.intro @beq_self_eq_true.{0} @Nat.add_zero))))))))))))))))))))))))))))))))))))))))))))))))))))))))))))))))))))))))))))))))))))))))))))))))))))))))))))))))))))))))))))))))))))))))))))))))))))))))))))))))))))))))))))))))))))))))))))))))))))))))))))))))))))))))))))))))))))))))))))))))))))))))))))))))))))))))))))))))))))))))))))))))
theorem Nz:type_of% Py:=Py
def PY:=And.intro @yK.eq_1 (And.intro @yK.eq_2 (And.intro @Dt.eq_1 (And.intro @Dt.eq_2 (And.intro @zi.eq_1 (And.intro @zi.eq_2 (And.intro @zi.eq_3 (And.intro @Fz.eq_1 (And.intro @Fz.eq_2 (And.intro @Fz.eq_3 (And.intro @Fz.eq_4 (And.intro @uj.eq_1 (And.intro @uj.eq_2 (And.intro @uj.eq_3 (And.intro @yP.eq_1 (And.intro @yP.eq_2 (And.intro @lookT.eq_1 (And.intro @lookT.eq_2 (And.intro @lookB.eq_1 (And.intro @lookB.eq_2 (And.intro @true_and (And.intro @and_true (And.intro @implies_true.{1} (And.intro @List.mem_cons.{0} (And.intro @List.not_mem_nil.{0} (And.intro @or_false (And.intro @or_true (And.intro @true_or (And.intro @Box.arr.eq_1 (And.intro @Box.arr.eq_2 (And.intro @Box.arr.eq_3 (And.intro @vStr.eq_1 (And.intro @vInt.eq_1 (And.intro @vBool.eq_1 (And.intro @vSl.eq_1 (And.intro @not_false_eq_true (And.intro @false_or (And.intro @Option.some.injEq.{0} (And.intro @true_implies (And.intro @cI.eq_1 (And.intro @cU.eq_1 (And.intro @cB.eq_1 (And.intro @cS.eq_1 (And.intro @cL.eq_1 (And.intro @cK.eq_1 (And.intro @af.cO (And.intro @iI.cO (And.intro @RequestT.cO (And.intro @kY.cO (And.intro @au.cO (And.intro @ReaderT.cO (And.intro @StoreT.cO (And.intro @dN.cO (And.intro @aV.cO (And.intro @List.map_append.{0,0} (And.intro @List.map_cons.{0,0} (And.intro @List.map_nil.{0,0} (And.intro @List.map_set.{0,0} (And.intro @List.map_take.{0,0} (And.intro @List.map_drop.{0,0} (And.intro @List.map_replicate.{0,0} (And.intro @List.length_append.{0} (And.intro @List.length_cons.{0} (And.intro @List.length_nil.{0} (And.intro @List.length_map.{0,0} (And.intro @List.length_set.{0} (And.intro @List.length_replicate.{0} (And.intro @Nat.zero_add (And.intro @Nat.add_zero (And.intro @List.nil_append.{0} (And.intro @List.cons_append.{0} (And.intro @List.append_nil.{0} (And.intro @take_len (And.intro @sF (And.intro @sG @and_self))))))))))))))))))))))))))))))))))))))))))))))))))))))))))))))))))))))))))
theorem QH:type_of% PY:=PY
def PU:=And.intro @wO.eq_1 (And.intro @oP.eq_1 (And.intro @oP.eq_2 (And.intro @lH.ok.eq_1 (And.intro @lH.ok.eq_2 (And.intro @lH.val.eq_1 (And.intro @lH.val.eq_2 (And.intro @yV.eq_1 (And.intro @yV.eq_2 (And.intro @lg.eq_1 (And.intro @lg.eq_2 (And.intro @partOf.eq_1 (And.intro @partOf.eq_2 (And.intro @partOf.eq_3 (And.intro @of_tm (And.intro @of_bx (And.intro @tN (And.intro @g_v (And.intro @x_v (And.intro @AV.flat.eq_1 (And.intro @AV.flat.eq_2 (And.intro @loadV.eq_1 (And.intro @loadV.eq_2 (And.intro @loadV.eq_3 (And.intro @loadV.eq_4 (And.intro @lookT.eq_1 (And.intro @lookT.eq_2 (And.intro @lookB.eq_1 (And.intro @lookB.eq_2 (And.intro @dV.eq_1 (And.intro @dV.eq_2 (And.intro @dV.eq_3 (And.intro @dV.eq_4 (And.intro @dC.eq_1 (And.intro @dC.eq_2 (And.intro @dC.eq_3 (And.intro @dC.eq_4 (And.intro @JV.eq_1 (And.intro @JV.eq_2 (And.intro @JV.eq_3 (And.intro @KD.eq_1 (And.intro @KD.eq_2 (And.intro @KD.eq_3 (And.intro @Box.arr.eq_1 (And.intro @Box.arr.eq_2 (And.intro @Box.arr.eq_3 (And.intro @List.take_succ_cons.{0} (And.intro @List.take_zero.{0} (And.intro @List.drop_zero.{0} (And.intro @List.drop_succ_cons.{0} (And.intro @List.length_cons.{0} (And.intro @List.length_nil.{0} (And.intro @List.getElem?_cons_zero.{0} (And.intro @List.getElem?_cons_succ.{0} (And.intro @true_and (And.intro @and_true (And.intro @Nat.zero_add (And.intro @vInt.eq_1 (And.intro @vBool.eq_1 (And.intro @vStr.eq_1 (And.intro @vSl.eq_1 (And.intro @FR.ok.eq_1 (And.intro @cI.eq_1 (And.intro @cU.eq_1 (And.intro @cB.eq_1 (And.intro @cS.eq_1 (And.intro @cL.eq_1 (And.intro @cK.eq_1 (And.intro @af.cO (And.intro @iI.cO (And.intro @RequestT.cO (And.intro @kY.cO (And.intro @au.cO (And.intro @ReaderT.cO (And.intro @StoreT.cO (And.intro @dN.cO (And.intro @aV.cO (And.intro @List.map_append.{0,0} (And.intro @List.map_cons.{0,0} (And.intro @List.map_nil.{0,0} (And.intro @List.map_set.{0,0} (And.intro @List.map_take.{0,0} (And.intro @List.map_drop.{0,0} (And.intro @List.map_replicate.{0,0} (And.intro @List.length_append.{0} (And.intro @List.length_map.{0,0} (And.intro @List.length_set.{0} (And.intro @List.length_replicate.{0} (And.intro @Nat.add_zero (And.intro @List.nil_append.{0} (And.intro @List.cons_append.{0} (And.intro @List.append_nil.{0} (And.intro @take_len (And.intro @sF (And.intro @sG (And.intro @and_self @lD)))))))))))))))))))))))))))))))))))))))))))))))))))))))))))))))))))))))))))))))))))))))))))))))
theorem O8:type_of% PU:=PU
def PV:=And.intro @yK.eq_1 (And.intro @yK.eq_2 (And.intro @Dt.eq_1 (And.intro @Dt.eq_2 (And.intro @zi.eq_1 (And.intro @zi.eq_2 (And.intro @zi.eq_3 (And.intro @Fz.eq_1 (And.intro @Fz.eq_2 (And.intro @Fz.eq_3 (And.intro @Fz.eq_4 (And.intro @uj.eq_1 (And.intro @uj.eq_2 (And.intro @uj.eq_3 (And.intro @yP.eq_1 (And.intro @yP.eq_2 (And.intro @lookT.eq_1 (And.intro @lookT.eq_2 (And.intro @lookB.eq_1 (And.intro @lookB.eq_2 (And.intro @true_and (And.intro @and_true (And.intro @implies_true.{1} (And.intro @List.mem_cons.{0} (And.intro @List.not_mem_nil.{0} (And.intro @or_false (And.intro @or_true (And.intro @true_or (And.intro @Box.arr.eq_1 (And.intro @Box.arr.eq_2 (And.intro @Box.arr.eq_3 (And.intro @vStr.eq_1 (And.intro @vInt.eq_1 (And.intro @vBool.eq_1 (And.intro @vSl.eq_1 (And.intro @not_false_eq_true (And.intro @false_or (And.intro @Option.some.injEq.{0} (And.intro @true_implies (And.intro @cI.eq_1 (And.intro @cU.eq_1 (And.intro @cB.eq_1 (And.intro @cS.eq_1 (And.intro @cL.eq_1 (And.intro @cK.eq_1 (And.intro @af.cO (And.intro @iI.cO (And.intro @RequestT.cO (And.intro @kY.cO (And.intro @au.cO (And.intro @ReaderT.cO (And.intro @StoreT.cO (And.intro @dN.cO (And.intro @aV.cO (And.intro @List.map_append.{0,0} (And.intro @List.map_cons.{0,0} (And.intro @List.map_nil.{0,0} (And.intro @List.map_set.{0,0} (And.intro @List.map_take.{0,0} (And.intro @List.map_drop.{0,0} (And.intro @List.map_replicate.{0,0} (And.intro @List.length_append.{0} (And.intro @List.length_cons.{0} (And.intro @List.length_nil.{0} (And.intro @List.length_map.{0,0} (And.intro @List.length_set.{0} (And.intro @List.length_replicate.{0} (And.intro @Nat.zero_add (And.intro @Nat.add_zero (And.intro @List.nil_append.{0} (And.intro @List.cons_append.{0} (And.intro @List.append_nil.{0} (And.intro @take_len (And.intro @sF (And.intro @sG (And.intro @and_self (And.intro @mY.eq_1 (And.intro @mY.eq_2 (And.intro @zh.eq_1 (And.intro @zh.eq_2 (And.intro @zh.eq_3 (And.intro @wO.eq_1 (And.intro @oP.eq_1 (And.intro @oP.eq_2 (And.intro @lH.ok.eq_1 (And.intro @lH.ok.eq_2 (And.intro @lH.val.eq_1 (And.intro @lH.val.eq_2 (And.intro @yV.eq_1 (And.intro @yV.eq_2 (And.intro @lg.eq_1 (And.intro @lg.eq_2 (And.intro @partOf.eq_1 (And.intro @partOf.eq_2 (And.intro @partOf.eq_3 (And.intro @of_tm (And.intro @of_bx (And.intro @tN (And.intro @g_v (And.intro @x_v (And.intro @AV.flat.eq_1 (And.intro @AV.flat.eq_2 (And.intro @loadV.eq_1 (And.intro @loadV.eq_2 (And.intro @loadV.eq_3 (And.intro @loadV.eq_4 (And.intro @dV.eq_1 (And.intro @dV.eq_2 (And.intro @dV.eq_3 (And.intro @dV.eq_4 (And.intro @dC.eq_1 (And.intro @dC.eq_2 (And.intro @dC.eq_3 (And.intro @dC.eq_4 (And.intro @JV.eq_1 (And.intro @JV.eq_2 (And.intro @JV.eq_3 (And.intro @KD.eq_1 (And.intro @KD.eq_2 (And.intro @KD.eq_3 (And.intro @List.take_succ_cons.{0} (And.intro @List.take_zero.{0} (And.intro @List.drop_zero.{0} (And.intro @List.drop_succ_cons.{0} (And.intro @List.getElem?_cons_zero.{0} (And.intro @List.getElem?_cons_succ.{0} (And.intro @FR.ok.eq_1 @lD))))))))))))))))))))))))))))))))))))))))))))))))))))))))))))))))))))))))))))))))))))))))))))))))))))))))))))))))))))))))))))))
theorem Qz:type_of% PV:=PV
def PO:=And.intro @lZ.eq_1 (And.intro @lZ.eq_2 (And.intro @lZ.eq_3 (And.intro @oh.eq_1 (And.intro @oh.eq_2 (And.intro @oh.eq_3 (And.intro @kQ.eq_1 (And.intro @kQ.eq_2 (And.intro @kQ.eq_3 (And.intro @lendOK.eq_1 (And.intro @lendOK.eq_2 (And.intro @lendOK.eq_3 (And.intro @of_bx (And.intro @lookB.eq_1 (And.intro @lookB.eq_2 (And.intro @Box.arr.eq_1 (And.intro @Box.arr.eq_2 (And.intro @Box.arr.eq_3 (And.intro @AV.cells.eq_1 (And.intro @AV.cells.eq_2 (And.intro @AV.cells.eq_3 (And.intro @List.map_cons.{0,0} (And.intro @List.map_nil.{0,0} (And.intro @List.length_map.{0,0} (And.intro @List.length_append.{0} (And.intro @List.length_cons.{0} (And.intro @List.length_nil.{0} (And.intro @List.length_replicate.{0} (And.intro @List.length_set.{0} (And.intro @take_len (And.intro @sF (And.intro @sG (And.intro @true_and (And.intro @and_true (And.intro @and_self (And.intro @Nat.le_refl (And.intro @Nat.zero_add (And.intro @Nat.add_zero (And.intro @vInt.eq_1 (And.intro @vBool.eq_1 (And.intro @vStr.eq_1 (And.intro @vSl.eq_1 (And.intro @cI.eq_1 (And.intro @cU.eq_1 (And.intro @cB.eq_1 (And.intro @cS.eq_1 (And.intro @cL.eq_1 (And.intro @cK.eq_1 (And.intro @List.map_append.{0,0} (And.intro @List.cons_append.{0} (And.intro @List.nil_append.{0} (And.intro @af.cO (And.intro @iI.cO (And.intro @RequestT.cO (And.intro @kY.cO (And.intro @au.cO (And.intro @ReaderT.cO (And.intro @StoreT.cO (And.intro @dN.cO @aV.cO))))))))))))))))))))))))))))))))))))))))))))))))))))))))))
theorem Qy:type_of% PO:=PO
def PD:=And.intro @yY.eq_1 (And.intro @yY.eq_2 (And.intro @yT.eq_1 (And.intro @yT.eq_2 (And.intro @of_bx (And.intro @lookB.eq_1 (And.intro @lookB.eq_2 (And.intro @renB.eq_1 (And.intro @renB.eq_2 (And.intro @List.getD_cons_zero.{0} (And.intro @List.getD_cons_succ.{0} (And.intro @List.cons_append.{0} (And.intro @List.nil_append.{0} (And.intro @List.append_nil.{0} (And.intro @List.map_cons.{0,0} (And.intro @List.map_nil.{0,0} (And.intro @List.map_append.{0,0} (And.intro @List.map_set.{0,0} (And.intro @List.length_append.{0} (And.intro @List.length_cons.{0} (And.intro @List.length_nil.{0} (And.intro @List.length_map.{0,0} (And.intro @List.length_set.{0} (And.intro @List.length_replicate.{0} (And.intro @List.replicate_zero.{0} (And.intro @List.replicate_succ.{0} (And.intro @List.map_replicate.{0,0} (And.intro @Nat.zero_add (And.intro @Nat.add_zero (And.intro @renA.eq_1 (And.intro @renA.eq_2 (And.intro @renA.eq_3 (And.intro @and_self (And.intro @and_true (And.intro @true_and (And.intro @cI.eq_1 (And.intro @cU.eq_1 (And.intro @cB.eq_1 (And.intro @cS.eq_1 (And.intro @cL.eq_1 (And.intro @cK.eq_1 (And.intro @af.cO (And.intro @iI.cO (And.intro @RequestT.cO (And.intro @kY.cO (And.intro @au.cO (And.intro @ReaderT.cO (And.intro @StoreT.cO (And.intro @dN.cO @aV.cO))))))))))))))))))))))))))))))))))))))))))))))))
theorem PE:type_of% PD:=PD
def PG:=And.intro @yY.eq_1 (And.intro @yY.eq_2 (And.intro @yT.eq_1 (And.intro @yT.eq_2 (And.intro @of_bx (And.intro @lookB.eq_1 (And.intro @lookB.eq_2 (And.intro @renB.eq_1 (And.intro @renB.eq_2 (And.intro @List.getD_cons_zero.{0} (And.intro @List.getD_cons_succ.{0} (And.intro @List.cons_append.{0} (And.intro @List.nil_append.{0} (And.intro @List.append_nil.{0} (And.intro @List.map_cons.{0,0} (And.intro @List.map_nil.{0,0} (And.intro @List.map_append.{0,0} (And.intro @List.map_set.{0,0} (And.intro @List.length_append.{0} (And.intro @List.length_cons.{0} (And.intro @List.length_nil.{0} (And.intro @List.length_map.{0,0} (And.intro @List.length_set.{0} (And.intro @List.length_replicate.{0} (And.intro @List.replicate_zero.{0} (And.intro @List.replicate_succ.{0} (And.intro @List.map_replicate.{0,0} (And.intro @Nat.zero_add (And.intro @Nat.add_zero (And.intro @renA.eq_1 (And.intro @renA.eq_2 (And.intro @renA.eq_3 (And.intro @and_self (And.intro @and_true (And.intro @true_and (And.intro @cI.eq_1 (And.intro @cU.eq_1 (And.intro @cB.eq_1 (And.intro @cS.eq_1 (And.intro @cL.eq_1 (And.intro @cK.eq_1 (And.intro @af.cO (And.intro @iI.cO (And.intro @RequestT.cO (And.intro @kY.cO (And.intro @au.cO (And.intro @ReaderT.cO (And.intro @StoreT.cO (And.intro @dN.cO (And.intro @aV.cO (And.intro @E5 (And.intro @xW.eq_1 (And.intro @xW.eq_2 (And.intro @frzB.eq_1 (And.intro @frzB.eq_2 (And.intro @List.flatMap_cons.{0,0} (And.intro @List.flatMap_nil.{0,0} (And.intro @AV.owns.eq_1 (And.intro @AV.owns.eq_2 (And.intro @AV.owns.eq_3 (And.intro @ownsOf.eq_1 (And.intro @ownsOf.eq_2 (And.intro @ownsOf.eq_3 (And.intro @List.contains_cons.{0} (And.intro @List.contains_nil.{0} (And.intro @Bool.or_false (And.intro @Bool.or_true (And.intro @Bool.false_or (And.intro @if_true.{1} (And.intro @if_false.{1} (And.intro @Bool.false_eq_true (And.intro @lZ.eq_1 (And.intro @lZ.eq_2 (And.intro @lZ.eq_3 (And.intro @oh.eq_1 (And.intro @oh.eq_2 (And.intro @oh.eq_3 (And.intro @kQ.eq_1 (And.intro @kQ.eq_2 (And.intro @kQ.eq_3 (And.intro @lendOK.eq_1 (And.intro @lendOK.eq_2 (And.intro @lendOK.eq_3 (And.intro @Box.arr.eq_1 (And.intro @Box.arr.eq_2 (And.intro @Box.arr.eq_3 (And.intro @AV.cells.eq_1 (And.intro @AV.cells.eq_2 (And.intro @AV.cells.eq_3 (And.intro @Nat.le_refl (And.intro @take_len (And.intro @sF (And.intro @sG (And.intro @vInt.eq_1 (And.intro @vBool.eq_1 (And.intro @vStr.eq_1 @vSl.eq_1)))))))))))))))))))))))))))))))))))))))))))))))))))))))))))))))))))))))))))))))))))))))))))))))
theorem Qb:type_of% PG:=PG
end Go.Ab
end
section
namespace Go.Ab
open Go
set_option maxRecDepth 100000
set_option linter.unusedVariables false
abbrev zN:List AC:=[.c (.lit (.int .i64 0)),.c (.lit (.int .i64 0)),.c (.str []),.nsl 1,.nsl 5]
abbrev wI (z:Int):AC := .c (.lit (.int .i64 z))
abbrev wS (s:aA):AC := .c (.str s)
abbrev wT (l:List aA):AC := .c (.sl 1 (List.map cS l))
abbrev wK (l:List af):AC := .c (.sl 5 (List.map af.cells l))
abbrev wN (x:af):List AC:=[wI x.Kind,wI x.Num,wS x.Text,wT x.Names,wK x.Kids]
abbrev eP (a b:Nat):Nat × Slot:=(a,.v true (.one (.ptr b 0)))
abbrev eI (a:Nat) (z:Int):Nat × Slot:=(a,.v true (.one (wI z)))
abbrev eS (a:Nat) (z:aA):Nat × Slot:=(a,.v true (.one (wS z)))
abbrev eT (a:Nat) (z:List aA):Nat × Slot:=(a,.v true (.one (wT z)))
def pp {α:Sort _} {β:Sort _} (a:α) (b:β):PProd α β:=⟨a,b⟩
theorem ihL {n:Nat} {A B:Nat->Prop} (h:∀ m,m<n->A m/\B m):∀ m,m<n->A m:=fun m hm=>(h m hm).1
theorem ihR {n:Nat} {A B:Nat->Prop} (h:∀ m,m<n->A m/\B m):∀ m,m<n->B m:=fun m hm=>(h m hm).2
theorem bn (zs:List Nat) (pi:List (Nat × Nat)) (vs:List Nat) {m:Nat} {Jz ts:List (Nat × Slot)} {oC bs:List (Nat × Box)} (hk:vV m oC bs pi vs=true)
  (hb:yK zs (lookB oC) (yP pi) vs bs) (ht:Dt zs (lookB oC) (yP pi) vs Jz ts):sJ m (ASt.of Jz oC) (ASt.of ts bs):=Le zs pi vs hk hb ht
theorem jR (zs:List Nat) (pi:List (Nat × Nat)) (vs:List Nat) {rs:List lH} {ts:List (Nat × Slot)} {oC:List (Nat × Box)} {m:Nat} {r:AV} {bs:List Box} (hk:vV m oC (mY bs 0) pi vs=true)
  (hok:oP (ASt.of ts oC) rs) (hb:yK zs (lookB oC) (yP pi) vs (mY bs 0)) (hv:Fz zs (lookB oC) (yP pi) vs (yV (ASt.of ts oC) rs) r) :
  sK rs m (fun r1 b1=>r1=r/\b1=bs) (ASt.of ts oC):=Na zs pi vs hk hok hb hv
section
variable {P:Program} {f:FuncId} {avs:List AV} {d:Option Nat} {st:ASt} {K:List Nat->List Nat->ASt->Prop} {du:DU K} {Q:AQ}
theorem cG (sg nu:List Nat) {P:Program} {f:FuncId} {avs:List AV} {d:Option Nat} {st:ASt} {K:List Nat->List Nat->ASt->Prop} {du:DU K} {ds:List AV} {fp oC:List Box} {r0:AV} (h:ACalls P f ds fp (fun r bs=>r=r0/\bs=oC)) (hl:sg.length=fp.length) (hn:nodupB (sg++nu)=true) (hf:yY st (sg++nu) fp 0) (hv:yT st nu)
  (hra:(ds.all fun x=>x.all (AC.refsLt fp.length))=true) (hrf:fp.all (Box.refsLt fp.length)=true) (ha:avs=ds.map (renA fun b=>(sg++nu).getD b 0)) (hb:oC.length=(sg++nu).length)
  (k:K (sg++nu) (sg++nu) ((st.setbs ((sg++nu).zip (oC.map (renB fun b=>(sg++nu).getD b 0)))).putO d (.v true (renA (fun b=>(sg++nu).getD b 0) r0)))):TCallK P f avs true d st K du:=NL sg nu h hl hn hf hv hra hrf ha hb k
theorem cH (sg nu:List Nat) {P:Program} {f:FuncId} {avs:List AV} {d:Option Nat} {st:ASt} {K:List Nat->List Nat->ASt->Prop} {du:DU K} {ds:List AV} {fp oC:List Box} {r0:AV} (h:ACalls P f ds fp (fun r bs=>r=r0/\bs=oC)) (he:avs.map (lZ st.bx)=ds.map (renA fun b=>(sg++nu).getD b 0)) (hlo:kQ st.bx avs)
  (hl:sg.length=fp.length) (hn:nodupB (sg++nu)=true) (hf:yY (st.frz (avs.flatMap AV.owns)) (sg++nu) fp 0) (hv:yT st nu)
  (hra:(ds.all fun x=>x.all (AC.refsLt fp.length))=true) (hrf:fp.all (Box.refsLt fp.length)=true) (hb:oC.length=(sg++nu).length)
  (k:K (avs.flatMap AV.owns++(sg++nu)) (avs.flatMap AV.owns++(sg++nu)) (((st.frz (avs.flatMap AV.owns)).setbs ((sg++nu).zip (oC.map (renB fun b=>(sg++nu).getD b 0)))).putO d (.v true (renA (fun b=>(sg++nu).getD b 0) r0)))):TCallK P f avs true d st K du:=NP sg nu h he hlo hl hn hf hv hra hrf hb k
theorem lu (X:Type) (R:Type) (g:Nat->X->Option R) (r:R) (S:X->ASt) (N:Nat) {P:Program} {st:ASt} {Q:AQ} {a b:bD} {d1:DU (wpC P a)} {d2:DU (wpC P b)} {d3:DU Q}
  (h1:lT P a (kK.then (fun st'=>∃ x m,(g m x=some r/\m<=N)/\sJ 10 st' (S x)) Q) st .mk .mk) (h2:∀ n x,n<=N->g n x=some r->lT P b Q (S x) .mk .mk):uz (wpC P a) (wpC P b) Q st d1 d2 d3:=by
 refine OM (X:=X × Nat) (fun p=>g p.2 p.1=some r/\p.2<=N) (fun p=>S p.1) (wpC_mono (fun e st h => ?_) h1) (fun p hp=>h2 p.2 p.1 hp.2 hp.1)
 cases e with
 | normal=>obtain ⟨x,m,h,hw⟩:=h; exact ⟨(x,m),h,hw⟩
 | _=>exact h
theorem jA (X:Type) (R:Type) (g:Nat->X->Option R) (r:R) (S:X->ASt) (N:Nat) {P:Program} {st:ASt} {Q:AQ} {a:bD} {d1:DU (wpC P a)} {d2:DU Q} (h0:∃ x m,(g m x=some r/\m<=N)/\sJ 10 st (S x))
  (h:∀ n x,n<=N->g n x=some r->lT P a (kK.then (fun st'=>∃ x' m,(g m x'=some r/\m<=N/\m<n)/\sJ 10 st' (S x')) Q) (S x) .mk .mk):pU (wpC P a) Q st d1 d2:=by
 obtain ⟨x,m,h0,hw⟩:=h0
 refine Oe (X:=X × Nat) (fun p=>g p.2 p.1=some r/\p.2<=N) (fun p=>S p.1) (fun p=>p.2) (x,m) h0 hw (fun p hp=>wpC_mono (fun e st h => ?_) (h p.2 p.1 hp.2 hp.1))
 cases e with
 | normal=>obtain ⟨x,m,h,hw⟩:=h; exact ⟨(x,m),⟨⟨h.1,h.2.1⟩,h.2.2⟩,hw⟩
 | _=>exact h
end
theorem vI {p:Prop} (x:p:=by simp -dsimp only [QH,Hl,uh,reduceIte,Nat.reduceEqDiff,reduceCtorEq]<;>simp [List.take_of_length_le]<;>fail):p:=x
theorem PW {p:Prop} (x:p:=by (simp -dsimp only [O8,reduceIte,Nat.reduceEqDiff,Nat.reduceAdd,Nat.reduceLeDiff,reduceCtorEq]<;>first | (simp [List.take_of_length_le]; done) | ((try simp only [List.map_take,List.map_drop,List.map_append,List.map_cons,List.map_nil])<;>(repeat' apply And.intro)<;>first | rfl | (simp; done) | (simp<;>omega; done) | (congr 1; exact (List.take_of_length_le (by simp<;>omega)).symm)))):p:=x
theorem lJ {p:Prop} (x:p:=by (simp -dsimp only [Qz,Hl,uh,reduceIte,Nat.reduceEqDiff,reduceCtorEq,Nat.reduceAdd,Nat.reduceLeDiff]<;>first | (simp [List.take_of_length_le]; done) | ((try simp only [List.map_take,List.map_drop,List.map_append,List.map_cons,List.map_nil])<;>(repeat' apply And.intro)<;>first | rfl | (simp; done) | (simp<;>omega; done) | (congr 1; exact (List.take_of_length_le (by simp<;>omega)).symm)))):p:=x
theorem LU {p:Prop} (x:p:=by (simp only [Qy,reduceIte,Nat.reduceEqDiff]<;>omega)):p:=x
theorem nD {p:Prop} (x:p:=by (simp only [PE,renC,reduceIte,Nat.reduceEqDiff,Nat.reduceLeDiff,Nat.reduceAdd]<;>omega)):p:=x
theorem vH {p:Prop} (x:p:=by first | rfl | (simp only [PE,renC,reduceIte,Nat.reduceEqDiff,Nat.reduceLeDiff,Nat.reduceAdd]<;>omega)):p:=x
theorem kC {p:Prop} (x:p:=by (simp only [Qb,renC,reduceIte,Nat.reduceEqDiff,Nat.reduceLeDiff,Nat.reduceAdd,Nat.reduceBEq]<;>omega)):p:=x
theorem vk {p:Prop} (x:p:=by ((try simp only [Prod.exists]); (first | refine ⟨_,_,⟨h,?_⟩,?_⟩ | refine ⟨_,_,_,⟨h,?_⟩,?_⟩ | refine ⟨_,_,_,_,⟨h,?_⟩,?_⟩ | refine ⟨_,_,_,_,_,⟨h,?_⟩,?_⟩ | refine ⟨_,_,_,_,_,_,⟨h,?_⟩,?_⟩ | refine ⟨_,_,_,_,_,_,_,⟨h,?_⟩,?_⟩ | refine ⟨_,_,_,_,_,_,_,_,⟨h,?_⟩,?_⟩ | refine ⟨_,_,_,_,_,_,_,_,_,⟨h,?_⟩,?_⟩ | refine ⟨_,_,_,_,_,_,_,_,_,_,⟨h,?_⟩,?_⟩ | refine ⟨_,_,_,_,_,_,_,_,_,_,_,⟨h,?_⟩,?_⟩ | refine ⟨_,_,_,_,_,_,_,_,_,_,_,_,⟨h,?_⟩,?_⟩ | refine ⟨_,_,_,_,_,_,_,_,_,_,_,_,_,⟨h,?_⟩,?_⟩ | refine ⟨_,_,_,_,_,_,_,_,_,_,_,_,_,_,⟨h,?_⟩,?_⟩ | refine ⟨_,_,_,_,_,_,_,_,_,_,_,_,_,_,_,⟨h,?_⟩,?_⟩ | refine ⟨_,_,_,_,_,_,_,_,_,_,_,_,_,_,_,_,⟨h,?_⟩,?_⟩ | refine ⟨_,_,_,_,_,_,_,_,_,_,_,_,_,_,_,_,_,⟨h,?_⟩,?_⟩ | refine ⟨_,_,_,_,_,_,_,_,_,_,_,_,_,_,_,_,_,_,⟨h,?_⟩,?_⟩ | refine ⟨_,_,_,_,_,_,_,_,_,_,_,_,_,_,_,_,_,_,_,⟨h,?_⟩,?_⟩ | refine ⟨_,_,_,_,_,_,_,_,_,_,_,_,_,_,_,_,_,_,_,_,⟨h,?_⟩,?_⟩ | refine ⟨_,_,_,_,_,_,_,_,_,_,_,_,_,_,_,_,_,_,_,_,_,⟨h,?_⟩,?_⟩ | refine ⟨_,_,_,_,_,_,_,_,_,_,_,_,_,_,_,_,_,_,_,_,_,_,⟨h,?_⟩,?_⟩ | refine ⟨_,_,_,_,_,_,_,_,_,_,_,_,_,_,_,_,_,_,_,_,_,_,_,⟨h,?_⟩,?_⟩ | refine ⟨_,_,_,_,_,_,_,_,_,_,_,_,_,_,_,_,_,_,_,_,_,_,_,_,⟨h,?_⟩,?_⟩ | refine ⟨(),_,⟨h,?_⟩,?_⟩); (focus omega); first | exact zj.1 (by rfl) vI vI | exact zj.2.1 (by rfl) vI vI | exact zj.2.2.1 (by rfl) vI vI | exact zj.2.2.2.1 (by rfl) vI vI | exact zj.2.2.2.2.1 (by rfl) vI vI | exact zj.2.2.2.2.2.1 (by rfl) vI vI | exact zj.2.2.2.2.2.2.1 (by rfl) vI vI | exact zj.2.2.2.2.2.2.2.1 (by rfl) vI vI | exact zj.2.2.2.2.2.2.2.2.1 (by rfl) vI vI | exact zj.2.2.2.2.2.2.2.2.2.1 (by rfl) vI vI | exact zj.2.2.2.2.2.2.2.2.2.2.1 (by rfl) vI vI | exact zj.2.2.2.2.2.2.2.2.2.2.2.1 (by rfl) vI vI | exact zj.2.2.2.2.2.2.2.2.2.2.2.2.1 (by rfl) vI vI | exact zj.2.2.2.2.2.2.2.2.2.2.2.2.2.1 (by rfl) vI vI)):p:=x
theorem jK {p:Prop} (x:p:=by
  obtain ⟨zc,zg,zk,zu,ze,zj,zt⟩:=z
  try simp only [wN,wI,wS,wT,wK,zN,eP,eI,eS,eT] at zc zk zu zt zj ⊢
  repeat' first
  | (clear h; (with_reducible intro n x hn h); rcases n with _ | n<;>simp only [ze.1,reduceCtorEq] at h)
  | (simp only [reduceCtorEq] at h; done)
  | ((with_reducible replace h:=PL h); obtain ⟨_,_,h⟩:=h)
  | ((with_reducible replace h:=PN h); obtain ⟨_,_,h⟩:=h)
  | ((with_reducible replace h:=PM h); obtain ⟨_,_,h⟩:=h)
  | ((with_reducible replace h:=kq h); obtain ⟨_,h⟩:=h)
  | ((with_reducible replace h:=sq h); subst h; have h:=True.intro)
  | (try simp -dsimp only [Nz,AOp.opds,AOp.f,AOp.rd,intBin,storeV,lvl,srcOf,reduceIte,Nat.reduceEqDiff,Nat.reduceAdd,Nat.reduceLeDiff,Nat.reduceBEq,reduceCtorEq,Int.reduceBNe,Int.reduceBEq,Int.reduceLT,Int.reduceLE,Int.reduceNeg,Nat.reduceLT,strBin,Int.reduceToNat,renC, *]
     repeat ((with_reducible refine And.intro ?_ ?_); focus first | (show logOK _ _ _ _=true; kernel_rfl) | (show callOK _ _=true; kernel_rfl) | omega | assumption | (show _<=maxLen; decide))
     first
     | with_reducible refine Ls ?_
     | ((with_reducible refine LK ?_); with_reducible refine zu.1 n ?_ ?_)
     | ((with_reducible refine IL ?_); first | ((with_reducible refine zk.1 n ?_ ?_); (focus exact vk)) | ((with_reducible refine zk.2.1 n ?_ ?_); (focus exact vk)) | ((with_reducible refine zk.2.2.1 n ?_ ?_); (focus exact vk)) | ((with_reducible refine zk.2.2.2.1 n ?_ ?_); (focus exact vk)) | ((with_reducible refine zk.2.2.2.2.1 n ?_ ?_); (focus exact vk)) | ((with_reducible refine zk.2.2.2.2.2.1 n ?_ ?_); (focus exact vk)))
     | ((with_reducible refine IK ?_); (with_reducible replace h:=bq h); obtain ⟨_,hv,h⟩:=h; first | ((first | with_reducible have hc:=zc.1 hv | with_reducible have hc:=zc.1 _ (by omega) hv | with_reducible have hc:=zc.2.1 hv | with_reducible have hc:=zc.2.1 _ (by omega) hv | with_reducible have hc:=zc.2.2.1 hv | with_reducible have hc:=zc.2.2.1 _ (by omega) hv | with_reducible have hc:=zc.2.2.2.1 hv | with_reducible have hc:=zc.2.2.2.2.1 hv | with_reducible have hc:=zc.2.2.2.2.2.1 hv | with_reducible have hc:=zc.2.2.2.2.2.2.1 hv | with_reducible have hc:=zc.2.2.2.2.2.2.2.1 hv | with_reducible have hc:=zc.2.2.2.2.2.2.2.2.1 hv | with_reducible have hc:=zc.2.2.2.2.2.2.2.2.2.1 hv | with_reducible have hc:=zc.2.2.2.2.2.2.2.2.2.2.1 hv | with_reducible have hc:=zc.2.2.2.2.2.2.2.2.2.2.2.1 hv | with_reducible have hc:=zc.2.2.2.2.2.2.2.2.2.2.2.2.1 hv | with_reducible have hc:=zc.2.2.2.2.2.2.2.2.2.2.2.2.2.1 hv | with_reducible have hc:=zc.2.2.2.2.2.2.2.2.2.2.2.2.2.2.1 hv | with_reducible have hc:=zc.2.2.2.2.2.2.2.2.2.2.2.2.2.2.2.1 hv | with_reducible have hc:=zc.2.2.2.2.2.2.2.2.2.2.2.2.2.2.2.2.1 hv | with_reducible have hc:=zc.2.2.2.2.2.2.2.2.2.2.2.2.2.2.2.2.2.1 hv | with_reducible have hc:=zc.2.2.2.2.2.2.2.2.2.2.2.2.2.2.2.2.2.2.1 hv | with_reducible have hc:=zc.2.2.2.2.2.2.2.2.2.2.2.2.2.2.2.2.2.2.2.1 hv | with_reducible have hc:=zc.2.2.2.2.2.2.2.2.2.2.2.2.2.2.2.2.2.2.2.2.1 hv | with_reducible have hc:=zc.2.2.2.2.2.2.2.2.2.2.2.2.2.2.2.2.2.2.2.2.2.1 hv); (first | refine H8 (fun _=>hc) rfl rfl ?_ | refine Lt hc rfl rfl ?_ | refine Lr hc LU LU rfl rfl ?_ | refine Lp hc LU LU rfl rfl ?_)) | ((first | with_reducible have hc:=zg.1.1 hv | with_reducible have hc:=zg.1.1 _ (by omega) hv); (first | refine zg.1.2 hc rfl rfl nD nD rfl rfl vH rfl ?_ | refine zg.1.2 hc kC kC rfl rfl kC kC rfl rfl rfl ?_)) | ((first | with_reducible have hc:=zg.2.1.1 hv | with_reducible have hc:=zg.2.1.1 _ (by omega) hv); (first | refine zg.2.1.2 hc rfl rfl nD nD rfl rfl vH rfl ?_ | refine zg.2.1.2 hc kC kC rfl rfl kC kC rfl rfl rfl ?_)) | ((first | with_reducible have hc:=zg.2.2.1.1 hv | with_reducible have hc:=zg.2.2.1.1 _ (by omega) hv); (first | refine zg.2.2.1.2 hc rfl rfl nD nD rfl rfl vH rfl ?_ | refine zg.2.2.1.2 hc kC kC rfl rfl kC kC rfl rfl rfl ?_)) | ((with_reducible have hc:=zg.2.2.2.1.1 hv); (first | refine zg.2.2.2.1.2 hc rfl rfl nD nD rfl rfl vH rfl ?_ | refine zg.2.2.2.1.2 hc kC kC rfl rfl kC kC rfl rfl rfl ?_)) | ((with_reducible have hc:=zg.2.2.2.2.1.1 hv); (first | refine zg.2.2.2.2.1.2 hc rfl rfl nD nD rfl rfl vH rfl ?_ | refine zg.2.2.2.2.1.2 hc kC kC rfl rfl kC kC rfl rfl rfl ?_)) | ((with_reducible have hc:=zg.2.2.2.2.2.1.1 hv); (first | refine zg.2.2.2.2.2.1.2 hc rfl rfl nD nD rfl rfl vH rfl ?_ | refine zg.2.2.2.2.2.1.2 hc kC kC rfl rfl kC kC rfl rfl rfl ?_)) | ((with_reducible have hc:=zg.2.2.2.2.2.2.1.1 hv); (first | refine zg.2.2.2.2.2.2.1.2 hc rfl rfl nD nD rfl rfl vH rfl ?_ | refine zg.2.2.2.2.2.2.1.2 hc kC kC rfl rfl kC kC rfl rfl rfl ?_)) | ((with_reducible have hc:=zg.2.2.2.2.2.2.2.1.1 hv); (first | refine zg.2.2.2.2.2.2.2.1.2 hc rfl rfl nD nD rfl rfl vH rfl ?_ | refine zg.2.2.2.2.2.2.2.1.2 hc kC kC rfl rfl kC kC rfl rfl rfl ?_)) | ((with_reducible have hc:=zg.2.2.2.2.2.2.2.2.1.1 hv); (first | refine zg.2.2.2.2.2.2.2.2.1.2 hc rfl rfl nD nD rfl rfl vH rfl ?_ | refine zg.2.2.2.2.2.2.2.2.1.2 hc kC kC rfl rfl kC kC rfl rfl rfl ?_)) | ((with_reducible have hc:=zg.2.2.2.2.2.2.2.2.2.1.1 hv); (first | refine zg.2.2.2.2.2.2.2.2.2.1.2 hc rfl rfl nD nD rfl rfl vH rfl ?_ | refine zg.2.2.2.2.2.2.2.2.2.1.2 hc kC kC rfl rfl kC kC rfl rfl rfl ?_)) | ((with_reducible have hc:=zg.2.2.2.2.2.2.2.2.2.2.1.1 hv); (first | refine zg.2.2.2.2.2.2.2.2.2.2.1.2 hc rfl rfl nD nD rfl rfl vH rfl ?_ | refine zg.2.2.2.2.2.2.2.2.2.2.1.2 hc kC kC rfl rfl kC kC rfl rfl rfl ?_)) | ((with_reducible have hc:=zg.2.2.2.2.2.2.2.2.2.2.2.1.1 hv); (first | refine zg.2.2.2.2.2.2.2.2.2.2.2.1.2 hc rfl rfl nD nD rfl rfl vH rfl ?_ | refine zg.2.2.2.2.2.2.2.2.2.2.2.1.2 hc kC kC rfl rfl kC kC rfl rfl rfl ?_)) | ((with_reducible have hc:=zg.2.2.2.2.2.2.2.2.2.2.2.2.1.1 hv); (first | refine zg.2.2.2.2.2.2.2.2.2.2.2.2.1.2 hc rfl rfl nD nD rfl rfl vH rfl ?_ | refine zg.2.2.2.2.2.2.2.2.2.2.2.2.1.2 hc kC kC rfl rfl kC kC rfl rfl rfl ?_)) | ((with_reducible have hc:=zg.2.2.2.2.2.2.2.2.2.2.2.2.2.1.1 hv); (first | refine zg.2.2.2.2.2.2.2.2.2.2.2.2.2.1.2 hc rfl rfl nD nD rfl rfl vH rfl ?_ | refine zg.2.2.2.2.2.2.2.2.2.2.2.2.2.1.2 hc kC kC rfl rfl kC kC rfl rfl rfl ?_)))
     | ((with_reducible replace h:=cq h); rcases h with ⟨c,h⟩ | ⟨c,h⟩<;>try (simp only [*,Bool.false_eq_true,reduceCtorEq] at c; done))
     | ((with_reducible refine Oa ?_); exact vk)
     | ((with_reducible refine LP ?_); exact PW)
     | ((with_reducible refine LQ ?_); first | exact zt.1 (by rfl) lJ lJ lJ | exact zt.2.1 (by rfl) lJ lJ lJ | exact zt.2.2.1 (by rfl) lJ lJ lJ | exact zt.2.2.2.1 (by rfl) lJ lJ lJ | exact zt.2.2.2.2.1 (by rfl) lJ lJ lJ | exact zt.2.2.2.2.2.1 (by rfl) lJ lJ lJ | exact zt.2.2.2.2.2.2.1 (by rfl) lJ lJ lJ | exact zt.2.2.2.2.2.2.2.1 (by rfl) lJ lJ lJ | exact zt.2.2.2.2.2.2.2.2.1 (by rfl) lJ lJ lJ | exact zt.2.2.2.2.2.2.2.2.2.1 (by rfl) lJ lJ lJ | exact zt.2.2.2.2.2.2.2.2.2.2.1 (by rfl) lJ lJ lJ | exact zt.2.2.2.2.2.2.2.2.2.2.2.1 (by rfl) lJ lJ lJ)
     | (cases h; done))):p:=x
theorem Gg {p:Prop} (x:p:=by
  obtain ⟨zc,zg,zk,zu,ze,zj,zt,zq⟩:=z
  try simp only [wN,wI,wS,wT,wK,zN,eP,eI,eS,eT] at zc zk zu zt zj ⊢
  repeat' first
  | (clear h; (with_reducible intro n x hn h); rcases n with _ | n<;>simp only [ze.1,reduceCtorEq] at h)
  | (simp only [reduceCtorEq] at h; done)
  | ((with_reducible replace h:=PL h); obtain ⟨_,_,h⟩:=h)
  | ((with_reducible replace h:=PN h); obtain ⟨_,_,h⟩:=h)
  | ((with_reducible replace h:=PM h); obtain ⟨_,_,h⟩:=h)
  | ((with_reducible replace h:=kq h); obtain ⟨_,h⟩:=h)
  | ((with_reducible replace h:=sq h); subst h; have h:=True.intro)
  | (try simp -dsimp only [Nz,AOp.opds,AOp.f,AOp.rd,intBin,storeV,lvl,srcOf,reduceIte,Nat.reduceEqDiff,Nat.reduceAdd,Nat.reduceLeDiff,Nat.reduceBEq,reduceCtorEq,Int.reduceBNe,Int.reduceBEq,Int.reduceLT,Int.reduceLE,Int.reduceNeg,Nat.reduceLT,strBin,Int.reduceToNat,renC, *]
     repeat ((with_reducible refine And.intro ?_ ?_); focus first | (show logOK _ _ _ _=true; kernel_rfl) | (show callOK _ _=true; kernel_rfl) | omega | assumption | (show _<=maxLen; decide))
     first
     | with_reducible refine Ls ?_
     | ((with_reducible refine LK ?_); first | (rename Mk 1=>tk; clear tk; have:True:=(by (first | rewrite [zq.1.1] at h | rewrite [zq.1.2.1] at h | rewrite [zq.1.2.2.1] at h | rewrite [zq.1.2.2.2.1] at h | rewrite [zq.1.2.2.2.2.1] at h | rewrite [zq.1.2.2.2.2.2.1] at h | rewrite [zq.1.2.2.2.2.2.2.1] at h | rewrite [zq.1.2.2.2.2.2.2.2.1] at h); exact True.intro); with_reducible refine zu.1 n ?_ ?_) | (rename Mk 2=>tk; clear tk; have:True:=(by (first | rewrite [zq.2.1.1] at h | rewrite [zq.2.1.2.1] at h | rewrite [zq.2.1.2.2.1] at h | rewrite [zq.2.1.2.2.2.1] at h | rewrite [zq.2.1.2.2.2.2.1] at h | rewrite [zq.2.1.2.2.2.2.2.1] at h | rewrite [zq.2.1.2.2.2.2.2.2.1] at h | rewrite [zq.2.1.2.2.2.2.2.2.2.1] at h); exact True.intro); with_reducible refine zu.2.1 n ?_ ?_) | (rename Mk 3=>tk; clear tk; have:True:=(by (first | rewrite [zq.2.2.1.1] at h | rewrite [zq.2.2.1.2.1] at h | rewrite [zq.2.2.1.2.2.1] at h | rewrite [zq.2.2.1.2.2.2.1] at h | rewrite [zq.2.2.1.2.2.2.2.1] at h | rewrite [zq.2.2.1.2.2.2.2.2.1] at h | rewrite [zq.2.2.1.2.2.2.2.2.2.1] at h | rewrite [zq.2.2.1.2.2.2.2.2.2.2.1] at h); exact True.intro); with_reducible refine zu.2.2.1 n ?_ ?_) | (rename Mk 4=>tk; clear tk; have:True:=(by (first | rewrite [zq.2.2.2.1.1] at h | rewrite [zq.2.2.2.1.2.1] at h | rewrite [zq.2.2.2.1.2.2.1] at h | rewrite [zq.2.2.2.1.2.2.2.1] at h | rewrite [zq.2.2.2.1.2.2.2.2.1] at h | rewrite [zq.2.2.2.1.2.2.2.2.2.1] at h | rewrite [zq.2.2.2.1.2.2.2.2.2.2.1] at h | rewrite [zq.2.2.2.1.2.2.2.2.2.2.2.1] at h); exact True.intro); with_reducible refine zu.2.2.2.1 n ?_ ?_) | (rename Mk 5=>tk; clear tk; have:True:=(by (first | rewrite [zq.2.2.2.2.1.1] at h | rewrite [zq.2.2.2.2.1.2.1] at h | rewrite [zq.2.2.2.2.1.2.2.1] at h | rewrite [zq.2.2.2.2.1.2.2.2.1] at h | rewrite [zq.2.2.2.2.1.2.2.2.2.1] at h | rewrite [zq.2.2.2.2.1.2.2.2.2.2.1] at h | rewrite [zq.2.2.2.2.1.2.2.2.2.2.2.1] at h | rewrite [zq.2.2.2.2.1.2.2.2.2.2.2.2.1] at h); exact True.intro); with_reducible refine zu.2.2.2.2.1 n ?_ ?_) | (rename Mk 6=>tk; clear tk; have:True:=(by (first | rewrite [zq.2.2.2.2.2.1.1] at h | rewrite [zq.2.2.2.2.2.1.2.1] at h | rewrite [zq.2.2.2.2.2.1.2.2.1] at h | rewrite [zq.2.2.2.2.2.1.2.2.2.1] at h | rewrite [zq.2.2.2.2.2.1.2.2.2.2.1] at h | rewrite [zq.2.2.2.2.2.1.2.2.2.2.2.1] at h | rewrite [zq.2.2.2.2.2.1.2.2.2.2.2.2.1] at h | rewrite [zq.2.2.2.2.2.1.2.2.2.2.2.2.2.1] at h); exact True.intro); with_reducible refine zu.2.2.2.2.2.1 n ?_ ?_))
     | ((with_reducible refine IL ?_); first | ((with_reducible refine zk.1 n ?_ ?_); (focus exact vk)) | ((with_reducible refine zk.2.1 n ?_ ?_); (focus exact vk)) | ((with_reducible refine zk.2.2.1 n ?_ ?_); (focus exact vk)) | ((with_reducible refine zk.2.2.2.1 n ?_ ?_); (focus exact vk)) | ((with_reducible refine zk.2.2.2.2.1 n ?_ ?_); (focus exact vk)) | ((with_reducible refine zk.2.2.2.2.2.1 n ?_ ?_); (focus exact vk)))
     | ((with_reducible refine IK ?_); (with_reducible replace h:=bq h); obtain ⟨_,hv,h⟩:=h; first | ((first | with_reducible have hc:=zc.1 hv | with_reducible have hc:=zc.1 _ (by omega) hv | with_reducible have hc:=zc.2.1 hv | with_reducible have hc:=zc.2.1 _ (by omega) hv | with_reducible have hc:=zc.2.2.1 hv | with_reducible have hc:=zc.2.2.1 _ (by omega) hv | with_reducible have hc:=zc.2.2.2.1 hv | with_reducible have hc:=zc.2.2.2.2.1 hv | with_reducible have hc:=zc.2.2.2.2.2.1 hv | with_reducible have hc:=zc.2.2.2.2.2.2.1 hv | with_reducible have hc:=zc.2.2.2.2.2.2.2.1 hv | with_reducible have hc:=zc.2.2.2.2.2.2.2.2.1 hv | with_reducible have hc:=zc.2.2.2.2.2.2.2.2.2.1 hv | with_reducible have hc:=zc.2.2.2.2.2.2.2.2.2.2.1 hv | with_reducible have hc:=zc.2.2.2.2.2.2.2.2.2.2.2.1 hv | with_reducible have hc:=zc.2.2.2.2.2.2.2.2.2.2.2.2.1 hv | with_reducible have hc:=zc.2.2.2.2.2.2.2.2.2.2.2.2.2.1 hv | with_reducible have hc:=zc.2.2.2.2.2.2.2.2.2.2.2.2.2.2.1 hv | with_reducible have hc:=zc.2.2.2.2.2.2.2.2.2.2.2.2.2.2.2.1 hv | with_reducible have hc:=zc.2.2.2.2.2.2.2.2.2.2.2.2.2.2.2.2.1 hv | with_reducible have hc:=zc.2.2.2.2.2.2.2.2.2.2.2.2.2.2.2.2.2.1 hv | with_reducible have hc:=zc.2.2.2.2.2.2.2.2.2.2.2.2.2.2.2.2.2.2.1 hv | with_reducible have hc:=zc.2.2.2.2.2.2.2.2.2.2.2.2.2.2.2.2.2.2.2.1 hv | with_reducible have hc:=zc.2.2.2.2.2.2.2.2.2.2.2.2.2.2.2.2.2.2.2.2.1 hv | with_reducible have hc:=zc.2.2.2.2.2.2.2.2.2.2.2.2.2.2.2.2.2.2.2.2.2.1 hv); (first | refine H8 (fun _=>hc) rfl rfl ?_ | refine Lt hc rfl rfl ?_ | refine Lr hc LU LU rfl rfl ?_ | refine Lp hc LU LU rfl rfl ?_)) | ((first | with_reducible have hc:=zg.1.1 hv | with_reducible have hc:=zg.1.1 _ (by omega) hv); (first | refine zg.1.2 hc rfl rfl nD nD rfl rfl vH rfl ?_ | refine zg.1.2 hc kC kC rfl rfl kC kC rfl rfl rfl ?_)) | ((first | with_reducible have hc:=zg.2.1.1 hv | with_reducible have hc:=zg.2.1.1 _ (by omega) hv); (first | refine zg.2.1.2 hc rfl rfl nD nD rfl rfl vH rfl ?_ | refine zg.2.1.2 hc kC kC rfl rfl kC kC rfl rfl rfl ?_)) | ((first | with_reducible have hc:=zg.2.2.1.1 hv | with_reducible have hc:=zg.2.2.1.1 _ (by omega) hv); (first | refine zg.2.2.1.2 hc rfl rfl nD nD rfl rfl vH rfl ?_ | refine zg.2.2.1.2 hc kC kC rfl rfl kC kC rfl rfl rfl ?_)) | ((with_reducible have hc:=zg.2.2.2.1.1 hv); (first | refine zg.2.2.2.1.2 hc rfl rfl nD nD rfl rfl vH rfl ?_ | refine zg.2.2.2.1.2 hc kC kC rfl rfl kC kC rfl rfl rfl ?_)) | ((with_reducible have hc:=zg.2.2.2.2.1.1 hv); (first | refine zg.2.2.2.2.1.2 hc rfl rfl nD nD rfl rfl vH rfl ?_ | refine zg.2.2.2.2.1.2 hc kC kC rfl rfl kC kC rfl rfl rfl ?_)) | ((with_reducible have hc:=zg.2.2.2.2.2.1.1 hv); (first | refine zg.2.2.2.2.2.1.2 hc rfl rfl nD nD rfl rfl vH rfl ?_ | refine zg.2.2.2.2.2.1.2 hc kC kC rfl rfl kC kC rfl rfl rfl ?_)) | ((with_reducible have hc:=zg.2.2.2.2.2.2.1.1 hv); (first | refine zg.2.2.2.2.2.2.1.2 hc rfl rfl nD nD rfl rfl vH rfl ?_ | refine zg.2.2.2.2.2.2.1.2 hc kC kC rfl rfl kC kC rfl rfl rfl ?_)) | ((with_reducible have hc:=zg.2.2.2.2.2.2.2.1.1 hv); (first | refine zg.2.2.2.2.2.2.2.1.2 hc rfl rfl nD nD rfl rfl vH rfl ?_ | refine zg.2.2.2.2.2.2.2.1.2 hc kC kC rfl rfl kC kC rfl rfl rfl ?_)) | ((with_reducible have hc:=zg.2.2.2.2.2.2.2.2.1.1 hv); (first | refine zg.2.2.2.2.2.2.2.2.1.2 hc rfl rfl nD nD rfl rfl vH rfl ?_ | refine zg.2.2.2.2.2.2.2.2.1.2 hc kC kC rfl rfl kC kC rfl rfl rfl ?_)) | ((with_reducible have hc:=zg.2.2.2.2.2.2.2.2.2.1.1 hv); (first | refine zg.2.2.2.2.2.2.2.2.2.1.2 hc rfl rfl nD nD rfl rfl vH rfl ?_ | refine zg.2.2.2.2.2.2.2.2.2.1.2 hc kC kC rfl rfl kC kC rfl rfl rfl ?_)) | ((with_reducible have hc:=zg.2.2.2.2.2.2.2.2.2.2.1.1 hv); (first | refine zg.2.2.2.2.2.2.2.2.2.2.1.2 hc rfl rfl nD nD rfl rfl vH rfl ?_ | refine zg.2.2.2.2.2.2.2.2.2.2.1.2 hc kC kC rfl rfl kC kC rfl rfl rfl ?_)) | ((with_reducible have hc:=zg.2.2.2.2.2.2.2.2.2.2.2.1.1 hv); (first | refine zg.2.2.2.2.2.2.2.2.2.2.2.1.2 hc rfl rfl nD nD rfl rfl vH rfl ?_ | refine zg.2.2.2.2.2.2.2.2.2.2.2.1.2 hc kC kC rfl rfl kC kC rfl rfl rfl ?_)) | ((with_reducible have hc:=zg.2.2.2.2.2.2.2.2.2.2.2.2.1.1 hv); (first | refine zg.2.2.2.2.2.2.2.2.2.2.2.2.1.2 hc rfl rfl nD nD rfl rfl vH rfl ?_ | refine zg.2.2.2.2.2.2.2.2.2.2.2.2.1.2 hc kC kC rfl rfl kC kC rfl rfl rfl ?_)) | ((with_reducible have hc:=zg.2.2.2.2.2.2.2.2.2.2.2.2.2.1.1 hv); (first | refine zg.2.2.2.2.2.2.2.2.2.2.2.2.2.1.2 hc rfl rfl nD nD rfl rfl vH rfl ?_ | refine zg.2.2.2.2.2.2.2.2.2.2.2.2.2.1.2 hc kC kC rfl rfl kC kC rfl rfl rfl ?_)))
     | ((with_reducible replace h:=cq h); rcases h with ⟨c,h⟩ | ⟨c,h⟩<;>try (simp only [*,Bool.false_eq_true,reduceCtorEq] at c; done))
     | ((with_reducible refine Oa ?_); exact vk)
     | ((with_reducible refine LP ?_); exact PW)
     | ((with_reducible refine LQ ?_); first | exact zt.1 (by rfl) lJ lJ lJ | exact zt.2.1 (by rfl) lJ lJ lJ | exact zt.2.2.1 (by rfl) lJ lJ lJ | exact zt.2.2.2.1 (by rfl) lJ lJ lJ | exact zt.2.2.2.2.1 (by rfl) lJ lJ lJ | exact zt.2.2.2.2.2.1 (by rfl) lJ lJ lJ | exact zt.2.2.2.2.2.2.1 (by rfl) lJ lJ lJ | exact zt.2.2.2.2.2.2.2.1 (by rfl) lJ lJ lJ | exact zt.2.2.2.2.2.2.2.2.1 (by rfl) lJ lJ lJ | exact zt.2.2.2.2.2.2.2.2.2.1 (by rfl) lJ lJ lJ | exact zt.2.2.2.2.2.2.2.2.2.2.1 (by rfl) lJ lJ lJ | exact zt.2.2.2.2.2.2.2.2.2.2.2.1 (by rfl) lJ lJ lJ)
     | (cases h; done))):p:=x
end Go.Ab
end
section
namespace Go.Ab
open Go
set_option maxRecDepth 100000
set_option maxHeartbeats 4000000
set_option linter.unusedVariables false
set_option linter.unusedSimpArgs false
abbrev zA (d:Nat) (x:AOp):AOper:=⟨none,some d,.op x⟩
abbrev zM (d s:Nat):AOper:=⟨none,some d,.op (.mv (.t s))⟩
abbrev zS (x:AOp):AOper:=⟨none,none,.op x⟩
abbrev zG (g:Nat) (b:Bool) (d:Nat) (x:AOp):AOper:=⟨some (g,b),some d,.op x⟩
noncomputable abbrev pZ:Program:=Go.Proofs.Tryz.prog
abbrev kI (n:Int):Opd := .k (.c (.lit (.int .i64 n)))
abbrev kB (b:Bool):Opd := .k (.c (.lit (.bool b)))
abbrev jc (n:Int):AC := .c (.lit (.int .i64 n))
abbrev qF (d k a:Nat):AOper:=zA d (.load false k (.t a))
abbrev qT (d k a:Nat):AOper:=zA d (.load true k (.t a))
abbrev qS (k a b:Nat):AOper:=zS (.store true k (.t a) (.t b))
abbrev qU (k a b:Nat):AOper:=zS (.store false k (.t a) (.t b))
abbrev qA (d k a:Nat):AOper:=zA d (.faddr k (.t a))
abbrev qX (d k a:Nat):AOper:=zA d (.box k (.t a))
abbrev qB (d:Nat) (b:Bool):AOper:=zA d (.mv (kB b))
abbrev qI (d:Nat) (n:Int):AOper:=zA d (.mv (kI n))
abbrev qL (d a:Nat):AOper:=zA d (.len (.t a))
abbrev qO (d a:Nat):AOper:=zA d (.not (.t a))
abbrev qE (d a k:Nat):AOper:=zA d (.extract (.t a) k)
abbrev qP (d a b:Nat):AOper:=zA d (.pick (.t a) (.t b) (kB false))
abbrev qQ (d a b:Nat):AOper:=zA d (.pick (.t a) (kB true) (.t b))
abbrev qN (d a:Nat):AOper:=zA d (.nilck (.t a))
abbrev qD (d k a b:Nat):AOper:=zA d (.iaddr k (.t a) (.t b))
abbrev qZ (d k:Nat):AOper:=zA d (.alloc k zN)
abbrev q1 (d f a:Nat):AOper:=⟨none,some d,.call f [.t a]⟩
abbrev q2 (d f a b:Nat):AOper:=⟨none,some d,.call f [.t a,.t b]⟩
abbrev q3 (d f a b c:Nat):AOper:=⟨none,some d,.call f [.t a,.t b,.t c]⟩
def C.bJ:bD:=(.seq (.reg [qB 2 false] [0]) (.seq (.seq (.reg [zM 4 0,zA 5 (.lens (.t 4)),zA 6 (.bin .gtr (.t 5) (kI 12))] [0,6]) (.cond (.t 6) (.seq (.reg [qB 2 false] [2]) .ret) .skip)) (.seq (.seq (.reg [qI 3 0] [0,3]) (.block 0 (.loop (.seq (.seq (.reg [zM 7 3,zM 8 0,zA 9 (.lens (.t 8)),zA 10 (.bin .lss (.t 7) (.t 9))] [0,3,10]) (.cond (.t 10) .skip (.exit 0))) (.seq (.block 1 (.seq (.reg [zM 13 0,zM 14 3,zA 15 (.idxs (.t 13) (.t 14)),zA 16 (.bin .lss (.t 15) (.k (.c (.lit (.int .u8 32))))),zM 17 16,zG 17 false 18 (.mv (.t 0)),zG 17 false 19 (.mv (.t 3)),zG 17 false 20 (.idxs (.t 18) (.t 19)),zG 17 false 21 (.bin .gtr (.t 20) (.k (.c (.lit (.int .u8 126))))),qQ 22 17 21] [0,3,22]) (.cond (.t 22) (.seq (.reg [qB 2 false] [2]) .ret) .skip))) (.reg [zM 11 3,zA 12 (.bin .add (.t 11) (kI 1)),zM 3 12] [0,3])))))) (.seq (.reg [qB 2 true] [2]) .ret))))
theorem K.bJ:fE pZ 210 1 0 C.bJ [.tmp 2]=true:=by kernel_rfl
def C.dQ:bD:=(.seq (.reg [qB 2 false] [0]) (.seq (.seq (.reg [zM 5 0,qL 6 5,zA 7 (.bin .gtr (.t 6) (kI 6))] [0,7]) (.cond (.t 7) (.seq (.reg [qB 2 false] [2]) .ret) .skip)) (.seq (.seq (.reg [zM 8 0,qL 9 8,qI 10 0] [0,8,9,10]) (.block 0 (.loop (.seq (.reg [zA 11 (.bin .lss (.t 10) (.t 9))] [0,8,9,10,11]) (.seq (.cond (.t 11) .skip (.exit 0)) (.seq (.block 1 (.seq (.reg [zM 12 10,qD 13 1 8 10,qF 14 1 13,zM 3 12,zM 4 14] [0,3,4,8,9,10]) (.seq (.reg [zM 15 4,q1 16 210 15,qO 17 16,zM 18 17,zG 18 false 19 (.mv (.t 3)),zG 18 false 20 (.bin .gtr (.t 19) (kI 0)),zG 18 false 21 (.mv (.t 20)),zG 21 true 22 (.mv (.t 0)),zG 21 true 23 (.mv (.t 3)),zG 21 true 24 (.bin .sub (.t 23) (kI 1)),zG 21 true 25 (.iaddr 1 (.t 22) (.t 24)),zG 21 true 26 (.load false 1 (.t 25)),zG 21 true 27 (.mv (.t 4)),zG 21 true 28 (.bin .geq (.t 26) (.t 27)),zG 18 false 29 (.pick (.t 21) (.t 28) (kB false)),qQ 30 18 29] [0,8,9,10,30]) (.cond (.t 30) (.seq (.reg [qB 2 false] [2]) .ret) .skip)))) (.reg [zA 31 (.bin .add (.t 10) (kI 1)),zM 10 31] [0,8,9,10]))))))) (.seq (.reg [qB 2 true] [2]) .ret))))
theorem K.dQ:fE pZ 211 1 0 C.dQ [.tmp 2]=true:=by kernel_rfl
def C.aS:bD:=(.seq (.reg [qX 1 10 0,qB 2 false] [1]) (.cut (.seq (.reg [qA 3 0 1,qF 4 1 3,zA 5 (.bin .neq (.t 4) (kI 1)),zM 6 5,zG 6 true 7 (.faddr 1 (.t 1)),zG 6 true 8 (.load false 1 (.t 7)),zG 6 true 9 (.bin .neq (.t 8) (kI 0)),qP 10 6 9,zM 11 10,zG 11 false 12 (.faddr 0 (.t 1)),zG 11 false 13 (.load false 1 (.t 12)),zG 11 false 14 (.bin .neq (.t 13) (kI 2)),zG 11 false 15 (.mv (.t 14)),zG 15 true 16 (.faddr 2 (.t 1)),zG 15 true 17 (.load false 1 (.t 16)),zG 15 true 18 (.bin .neq (.t 17) (.k (.c (.str [])))),zG 11 false 19 (.pick (.t 15) (.t 18) (kB false)),qQ 20 11 19] [1,20]) (.cond (.t 20) (.seq (.reg [qB 2 false] [2]) .ret) .skip)) (.seq (.seq (.reg [qA 21 0 1,qF 22 1 21,zA 23 (.bin .neq (.t 22) (kI 4)),zM 24 23,zG 24 true 25 (.faddr 3 (.t 1)),zG 24 true 26 (.load false 1 (.t 25)),zG 24 true 27 (.len (.t 26)),zG 24 true 28 (.bin .gtr (.t 27) (kI 0)),qP 29 24 28] [1,29]) (.cond (.t 29) (.seq (.reg [qB 2 false] [2]) .ret) .skip)) (.seq (.seq (.reg [qA 30 0 1,qF 31 1 30] [1,31]) (.block 0 (.seq (.reg [zA 33 (.bin .eql (.t 31) (kI 0)),zM 32 33] [1,31,32]) (.cond (.t 32) (.seq (.reg [qA 34 4 1,qF 35 1 34,qL 36 35,zA 37 (.bin .eql (.t 36) (kI 0)),zM 2 37] [2]) .ret) (.seq (.reg [zA 39 (.bin .eql (.t 31) (kI 1)),zM 38 39] [1,31,38]) (.cond (.t 38) (.seq (.reg [qA 40 1 1,qF 41 1 40,zA 42 (.bin .geq (.t 41) (kI (-999999))),zM 43 42,zG 43 true 44 (.faddr 1 (.t 1)),zG 43 true 45 (.load false 1 (.t 44)),zG 43 true 46 (.bin .leq (.t 45) (kI 999999)),qP 47 43 46,zM 48 47,zG 48 true 49 (.faddr 4 (.t 1)),zG 48 true 50 (.load false 1 (.t 49)),zG 48 true 51 (.len (.t 50)),zG 48 true 52 (.bin .eql (.t 51) (kI 0)),qP 53 48 52,zM 2 53] [2]) .ret) (.seq (.reg [zA 55 (.bin .eql (.t 31) (kI 2)),zM 54 55] [1,31,54]) (.cond (.t 54) (.seq (.reg [qA 56 2 1,qF 57 1 56,q1 58 210 57,zM 59 58,zG 59 true 60 (.faddr 4 (.t 1)),zG 59 true 61 (.load false 1 (.t 60)),zG 59 true 62 (.len (.t 61)),zG 59 true 63 (.bin .eql (.t 62) (kI 0)),qP 64 59 63,zM 2 64] [2]) .ret) (.seq (.reg [zA 66 (.bin .eql (.t 31) (kI 3)),zM 65 66] [1,31,65]) (.cond (.t 65) (.seq (.reg [qA 67 4 1,qF 68 1 67,qL 69 68,zA 70 (.bin .leq (.t 69) (kI 6)),zM 2 70] [2]) .ret) (.seq (.reg [zA 72 (.bin .eql (.t 31) (kI 4)),zM 71 72] [1,71]) (.cond (.t 71) (.seq (.reg [qA 73 3 1,qF 74 1 73,q1 75 211 74,zM 76 75,zG 76 true 77 (.faddr 4 (.t 1)),zG 76 true 78 (.load false 1 (.t 77)),zG 76 true 79 (.len (.t 78)),zG 76 true 80 (.faddr 3 (.t 1)),zG 76 true 81 (.load false 1 (.t 80)),zG 76 true 82 (.len (.t 81)),zG 76 true 83 (.bin .eql (.t 79) (.t 82)),qP 84 76 83,zM 2 84] [2]) .ret) .skip)))))))))))) (.seq (.reg [qB 2 false] [2]) .ret)))))
theorem K.aS:fE pZ 171 1 0 C.aS [.tmp 2]=true:=by kernel_rfl
def C.aJ:bD:=(.seq (.reg [qX 2 10 0,qI 4 0,qI 5 0,qB 6 false] [1,2]) (.seq (.seq (.reg [zM 12 1,zA 13 (.bin .gtr (.t 12) (kI 5)),zM 14 13,zG 14 false 15 (.load true 5 (.t 2)),⟨(some (14,false)),some 16,.call 171 [.t 15]⟩,zG 14 false 17 (.not (.t 16)),qQ 18 14 17] [1,2,18]) (.cond (.t 18) (.seq (.reg [qI 4 0,qI 5 0,qB 6 false] [4,5,6]) .ret) .skip)) (.seq (.reg [qI 4 1,qI 5 1] [1,2,4,5]) (.seq (.seq (.reg [qA 19 4 2,qF 20 1 19,qL 21 20,qI 22 0] [1,4,5,20,21,22]) (.block 0 (.loop (.seq (.reg [zA 23 (.bin .lss (.t 22) (.t 21))] [1,4,5,20,21,22,23]) (.seq (.cond (.t 23) .skip (.exit 0)) (.seq (.block 1 (.seq (.reg [qD 24 5 20 22,qT 25 5 24,qZ 8 11,qS 5 8 25] [1,4,5,8,20,21,22]) (.seq (.reg [qT 27 5 8,zM 28 1,zA 29 (.bin .add (.t 28) (kI 1)),q2 30 124 27 29,zM 26 30,qE 31 26 0,qE 32 26 1,qE 33 26 2,zM 9 31,zM 10 32,zM 11 33] [1,4,5,9,10,11,20,21,22]) (.seq (.seq (.reg [zM 34 11,qO 35 34] [1,4,5,9,10,20,21,22,35]) (.cond (.t 35) (.seq (.reg [qI 4 0,qI 5 0,qB 6 false] [4,5,6]) .ret) .skip)) (.seq (.reg [zM 36 4,zM 37 9,zA 38 (.bin .add (.t 36) (.t 37)),zM 4 38] [1,4,5,10,20,21,22]) (.reg [zM 39 5,zM 40 10,zA 41 (.bin .add (.t 40) (kI 1)),zA 42 (.max (.t 39) (.t 41)),zM 5 42] [1,4,5,20,21,22])))))) (.reg [zA 43 (.bin .add (.t 22) (kI 1)),zM 22 43] [1,4,5,20,21,22]))))))) (.seq (.reg [zM 44 4,zM 45 5,zM 4 44,zM 5 45,qB 6 true] [4,5,6]) .ret)))))
theorem K.aJ:fE pZ 124 2 0 C.aJ [.tmp 4,.tmp 5,.tmp 6]=true:=by kernel_rfl
def C.cZ:bD:=(.seq (.reg [qX 1 10 0,qB 2 false] [1]) (.seq (.reg [qT 7 5 1,⟨none,some 8,.call 124 [.t 7,kI 1]⟩,zM 6 8,qE 9 6 0,qE 10 6 1,qE 11 6 2,zM 3 9,zM 4 10,zM 5 11] [3,5]) (.seq (.reg [zM 12 5,zM 13 12,zG 13 true 14 (.mv (.t 3)),zG 13 true 15 (.bin .leq (.t 14) (kI 40)),qP 16 13 15,zM 2 16] [2]) .ret)))
theorem K.cZ:fE pZ 72 1 0 C.cZ [.tmp 2]=true:=by kernel_rfl
def C.bT:bD:=(.seq (.reg [zM 5 0,⟨none,some 6,.call 57 [.t 5,.k (.c (.lit (.int .u8 34)))]⟩] [0,1]) (.seq (.seq (.reg [qI 4 0] [0,1,4]) (.block 0 (.loop (.seq (.seq (.reg [zM 7 4,zM 8 1,zA 9 (.lens (.t 8)),zA 10 (.bin .lss (.t 7) (.t 9))] [0,1,4,10]) (.cond (.t 10) .skip (.exit 0))) (.seq (.block 1 (.cut (.seq (.reg [zM 13 1,zM 14 4,zA 15 (.idxs (.t 13) (.t 14)),zA 16 (.bin .eql (.t 15) (.k (.c (.lit (.int .u8 34))))),zM 17 16,zG 17 false 18 (.mv (.t 1)),zG 17 false 19 (.mv (.t 4)),zG 17 false 20 (.idxs (.t 18) (.t 19)),zG 17 false 21 (.bin .eql (.t 20) (.k (.c (.lit (.int .u8 92))))),qQ 22 17 21] [0,1,4,22]) (.cond (.t 22) (.reg [zM 23 0,⟨none,some 24,.call 57 [.t 23,.k (.c (.lit (.int .u8 92)))]⟩] [0,1,4]) .skip)) (.reg [zM 25 0,zM 26 1,zM 27 4,zA 28 (.idxs (.t 26) (.t 27)),q2 29 57 25 28] [0,1,4]))) (.reg [zM 11 4,zA 12 (.bin .add (.t 11) (kI 1)),zM 4 12] [0,1,4])))))) (.reg [zM 30 0,⟨none,some 31,.call 57 [.t 30,.k (.c (.lit (.int .u8 34)))]⟩] [])))
theorem K.bT:fE pZ 77 2 2 C.bT []=true:=by kernel_rfl
def C.aN:bD:=(.seq (.reg [qX 3 10 1] [0,3]) (.seq (.reg [qA 8 0 3,qF 9 1 8] [0,3,9]) (.block 0 (.seq (.reg [zA 11 (.bin .eql (.t 9) (kI 0)),zM 10 11] [0,3,9,10]) (.cond (.t 10) (.reg [zM 12 0,⟨none,some 13,.call 55 [.t 12,.k (.c (.str [110,117,108,108]))]⟩] []) (.seq (.reg [zA 15 (.bin .eql (.t 9) (kI 1)),zM 14 15] [0,3,9,14]) (.cond (.t 14) (.reg [zM 16 0,qA 17 1 3,qF 18 1 17,q1 19 103 18,q2 20 55 16 19] []) (.seq (.reg [zA 22 (.bin .eql (.t 9) (kI 2)),zM 21 22] [0,3,9,21]) (.cond (.t 21) (.reg [zM 23 0,qA 24 2 3,qF 25 1 24,q2 26 77 23 25] []) (.seq (.reg [zA 28 (.bin .eql (.t 9) (kI 3)),zM 27 28] [0,3,9,27]) (.cond (.t 27) (.seq (.reg [zM 29 0,⟨none,some 30,.call 57 [.t 29,.k (.c (.lit (.int .u8 91)))]⟩] [0,3]) (.seq (.seq (.reg [qA 31 4 3,qF 32 1 31,qL 33 32,qI 34 0] [0,32,33,34]) (.block 1 (.loop (.seq (.reg [zA 35 (.bin .lss (.t 34) (.t 33))] [0,32,33,34,35]) (.seq (.cond (.t 35) .skip (.exit 1)) (.seq (.block 2 (.seq (.reg [zM 36 34,qD 37 5 32 34,qT 38 5 37,qZ 5 11,zM 4 36,qS 5 5 38] [0,4,5,32,33,34]) (.cut (.seq (.reg [zM 39 4,zA 40 (.bin .gtr (.t 39) (kI 0))] [0,5,32,33,34,40]) (.cond (.t 40) (.reg [zM 41 0,⟨none,some 42,.call 57 [.t 41,.k (.c (.lit (.int .u8 44)))]⟩] [0,5,32,33,34]) .skip)) (.reg [zM 43 0,qT 44 5 5,q2 45 74 43 44] [0,32,33,34])))) (.reg [zA 46 (.bin .add (.t 34) (kI 1)),zM 34 46] [0,32,33,34]))))))) (.reg [zM 47 0,⟨none,some 48,.call 57 [.t 47,.k (.c (.lit (.int .u8 93)))]⟩] []))) (.seq (.reg [zA 50 (.bin .eql (.t 9) (kI 4)),zM 49 50] [0,3,49]) (.cond (.t 49) (.seq (.reg [zM 51 0,⟨none,some 52,.call 57 [.t 51,.k (.c (.lit (.int .u8 123)))]⟩] [0,3]) (.seq (.seq (.reg [qA 53 4 3,qF 54 1 53,qL 55 54,qI 56 0] [0,3,54,55,56]) (.block 3 (.loop (.seq (.reg [zA 57 (.bin .lss (.t 56) (.t 55))] [0,3,54,55,56,57]) (.seq (.cond (.t 57) .skip (.exit 3)) (.seq (.block 4 (.seq (.reg [zM 58 56,qD 59 5 54 56,qT 60 5 59,qZ 7 12,zM 6 58,qS 5 7 60] [0,3,6,7,54,55,56]) (.cut (.seq (.reg [zM 61 6,zA 62 (.bin .gtr (.t 61) (kI 0))] [0,3,6,7,54,55,56,62]) (.cond (.t 62) (.reg [zM 63 0,⟨none,some 64,.call 57 [.t 63,.k (.c (.lit (.int .u8 44)))]⟩] [0,3,6,7,54,55,56]) .skip)) (.seq (.reg [zM 65 0,qA 66 3 3,qF 67 1 66,zM 68 6,qD 69 1 67 68,qF 70 1 69,q2 71 77 65 70] [0,3,7,54,55,56]) (.seq (.reg [zM 72 0,⟨none,some 73,.call 57 [.t 72,.k (.c (.lit (.int .u8 58)))]⟩] [0,3,7,54,55,56]) (.reg [zM 74 0,qT 75 5 7,q2 76 74 74 75] [0,3,54,55,56])))))) (.reg [zA 77 (.bin .add (.t 56) (kI 1)),zM 56 77] [0,3,54,55,56]))))))) (.reg [zM 78 0,⟨none,some 79,.call 57 [.t 78,.k (.c (.lit (.int .u8 125)))]⟩] []))) .skip)))))))))))))
theorem K.aN:fE pZ 74 2 2 C.aN []=true:=by kernel_rfl
def C.iE:bD:=(.seq (.reg [qX 1 10 0,zA 2 (.mv (.k (.c (.str []))))] [1]) (.seq (.seq (.reg [qT 4 5 1,q1 5 72 4,qO 6 5] [1,6]) (.cond (.t 6) (.seq (.reg [zA 2 (.mv (.k (.c (.str []))))] [2]) .ret) .skip)) (.seq (.reg [zA 3 (.allocB 83 5 12 11)] [1,3]) (.seq (.reg [qT 7 5 1,q2 8 74 3 7] [3]) (.seq (.reg [q1 9 58 3,zM 2 9] [2]) .ret)))))
theorem K.iE:fE pZ 29 1 0 C.iE [.tmp 2]=true:=by kernel_rfl
def C.dS:bD:=(.seq (.reg [qI 4 0] [0,1]) (.seq (.reg [zM 5 0,zM 6 1,zA 7 (.idxb (.t 5) (.t 6)),zM 4 7] [4]) .ret))
theorem K.dS:fE pZ 180 2 0 C.dS [.tmp 4]=true:=by kernel_rfl
def C.strings_IndexByte:bD:=(.seq (.reg [qI 4 0] [0,1]) (.seq (.reg [zM 5 0,zM 6 1,q2 7 180 5 6,zM 4 7] [4]) .ret))
theorem K.strings_IndexByte:fE pZ 140 2 0 C.strings_IndexByte [.tmp 4]=true:=by kernel_rfl
def C.iF:bD:=(.seq (.reg [qB 2 false] [0]) (.seq (.seq (.reg [zM 4 0,zA 5 (.lens (.t 4)),zA 6 (.bin .neq (.t 5) (kI 4))] [0,6]) (.cond (.t 6) (.seq (.reg [qB 2 false] [2]) .ret) .skip)) (.seq (.seq (.reg [qI 3 0] [0,3]) (.block 0 (.loop (.seq (.seq (.reg [zM 7 3,zM 8 0,zA 9 (.lens (.t 8)),zA 10 (.bin .lss (.t 7) (.t 9))] [0,3,10]) (.cond (.t 10) .skip (.exit 0))) (.seq (.block 1 (.seq (.reg [zM 13 0,zM 14 3,zA 15 (.idxs (.t 13) (.t 14)),⟨none,some 16,.call 140 [.k (.c (.str [48,49,50,51,52,53,54,55,56,57,97,98,99,100,101,102])),.t 15]⟩,zA 17 (.bin .lss (.t 16) (kI 0))] [0,3,17]) (.cond (.t 17) (.seq (.reg [qB 2 false] [2]) .ret) .skip))) (.reg [zM 11 3,zA 12 (.bin .add (.t 11) (kI 1)),zM 3 12] [0,3])))))) (.seq (.reg [qB 2 true] [2]) .ret))))
theorem K.iF:fE pZ 92 1 0 C.iF [.tmp 2]=true:=by kernel_rfl
def C.dX:bD:=(.seq (.reg [qB 2 false] [0]) (.seq (.seq (.reg [zM 5 0,qL 6 5,zA 7 (.bin .gtr (.t 6) (kI 4))] [0,7]) (.cond (.t 7) (.seq (.reg [qB 2 false] [2]) .ret) .skip)) (.seq (.seq (.reg [zM 8 0,qL 9 8,qI 10 0] [8,9,10]) (.block 0 (.loop (.seq (.reg [zA 11 (.bin .lss (.t 10) (.t 9))] [8,9,10,11]) (.seq (.cond (.t 11) .skip (.exit 0)) (.seq (.block 1 (.seq (.reg [qD 12 1 8 10,qF 13 1 12,zM 4 13] [4,8,9,10]) (.seq (.reg [zM 14 4,zA 15 (.bin .neq (.t 14) (.k (.c (.str [42])))),zM 16 15,zG 16 true 17 (.mv (.t 4)),⟨(some (16,true)),some 18,.call 92 [.t 17]⟩,zG 16 true 19 (.not (.t 18)),qP 20 16 19] [8,9,10,20]) (.cond (.t 20) (.seq (.reg [qB 2 false] [2]) .ret) .skip)))) (.reg [zA 21 (.bin .add (.t 10) (kI 1)),zM 10 21] [8,9,10]))))))) (.seq (.reg [qB 2 true] [2]) .ret))))
theorem K.dX:fE pZ 71 1 0 C.dX [.tmp 2]=true:=by kernel_rfl
def C.bQ:bD:=(.seq (.reg [zA 2 (.mv (.k (.c (.str []))))] [0]) (.seq (.seq (.reg [zM 6 0,q1 7 71 6,qO 8 7] [0,8]) (.cond (.t 8) (.seq (.reg [zA 2 (.mv (.k (.c (.str []))))] [2]) .ret) .skip)) (.seq (.reg [zA 3 (.allocB 83 5 11 10)] [0,3]) (.seq (.seq (.reg [zM 9 0,qL 10 9,qI 11 0] [3,9,10,11]) (.block 0 (.loop (.seq (.reg [zA 12 (.bin .lss (.t 11) (.t 10))] [3,9,10,11,12]) (.seq (.cond (.t 12) .skip (.exit 0)) (.seq (.block 1 (.seq (.reg [zM 13 11,qD 14 1 9 11,qF 15 1 14,zM 4 13,zM 5 15] [3,4,5,9,10,11]) (.cut (.seq (.reg [zM 16 4,zA 17 (.bin .gtr (.t 16) (kI 0))] [3,5,9,10,11,17]) (.cond (.t 17) (.reg [⟨none,some 18,.call 57 [.t 3,.k (.c (.lit (.int .u8 44)))]⟩] [3,5,9,10,11]) .skip)) (.seq (.reg [zM 19 5,zA 20 (.bin .eql (.t 19) (.k (.c (.str [42]))))] [3,5,9,10,11,20]) (.cond (.t 20) (.reg [zM 21 5,q2 22 55 3 21] [3,9,10,11]) (.reg [zM 23 5,q2 24 77 3 23] [3,9,10,11])))))) (.reg [zA 25 (.bin .add (.t 11) (kI 1)),zM 11 25] [3,9,10,11]))))))) (.seq (.reg [q1 26 58 3,zM 2 26] [2]) .ret)))))
theorem K.bQ:fE pZ 33 1 0 C.bQ [.tmp 2]=true:=by kernel_rfl
def C.jy:bD:=(.seq (.reg [qX 2 10 0,qZ 4 11,qB 5 false] [1,2,4]) (.seq (.seq (.reg [zM 6 1,qO 7 6,zM 8 7,zG 8 false 9 (.load true 5 (.t 2)),⟨(some (8,false)),some 10,.call 72 [.t 9]⟩,zG 8 false 11 (.not (.t 10)),qQ 12 8 11] [2,4,12]) (.cond (.t 12) (.seq (.reg [zA 13 (.build zN []),qS 5 4 13,qB 5 false] [4,5]) .ret) .skip)) (.seq (.reg [qT 14 5 2,qS 5 4 14,qB 5 true] [4,5]) .ret)))
theorem K.jy:fE pZ 126 2 0 C.jy [.cell 4 true 5,.tmp 5]=true:=by kernel_rfl
def C.aX:bD:=(.seq (.reg [qX 1 10 0,qZ 2 11] [1,2]) (.seq (.reg [qA 6 0 1,qF 7 1 6,qA 8 1 1,qF 9 1 8,qA 10 2 1,qF 11 1 10,zA 12 (.build zN [(0,1,.t 7),(1,1,.t 9),(2,1,.t 11)]),qZ 3 12,qS 5 3 12] [1,2,3]) (.cut (.seq (.reg [qA 13 3 1,qF 14 1 13,qL 15 14,zA 16 (.bin .gtr (.t 15) (kI 0))] [1,2,3,16]) (.cond (.t 16) (.seq (.reg [qA 17 3 1,qF 18 1 17,qL 19 18,zA 20 (.makes 13 1 16 [.str []] (.t 19) (.t 19)),qA 21 3 3,qU 1 21 20] [1,2,3]) (.reg [qA 22 3 3,qF 23 1 22,qA 24 3 1,qF 25 1 24,zA 26 (.copy 1 (.t 23) (.t 25))] [1,2,3])) .skip)) (.seq (.seq (.reg [qA 27 4 1,qF 28 1 27,qL 29 28,zA 30 (.bin .gtr (.t 29) (kI 0))] [1,2,3,30]) (.cond (.t 30) (.seq (.reg [qA 31 4 1,qF 32 1 31,qL 33 32,zA 34 (.makes 14 5 80 [.lit (.int .i64 0),.lit (.int .i64 0),.str [],.sl 1 [],.sl 5 []] (.t 33) (.t 33)),qA 35 4 3,qU 1 35 34] [1,2,3]) (.seq (.reg [qA 36 4 1,qF 37 1 36,qL 38 37,qI 39 0] [2,3,37,38,39]) (.block 0 (.loop (.seq (.reg [zA 40 (.bin .lss (.t 39) (.t 38))] [2,3,37,38,39,40]) (.seq (.cond (.t 40) .skip (.exit 0)) (.seq (.block 1 (.seq (.reg [zM 41 39,qD 42 5 37 39,qT 43 5 42,qZ 5 15,zM 4 41,qS 5 5 43] [2,3,4,5,37,38,39]) (.jQ [(qA 44 4 3,[]),(qF 45 1 44,[0]),(zM 46 4,[]),(qT 47 5 5,[]),(q1 48 96 47,[3]),(qD 49 5 45 46,[0,1,2,3,4]),(qS 5 49 48,[0,1,2,3,4,5])] [2,3,37,38,39]))) (.reg [zA 50 (.bin .add (.t 39) (kI 1)),zM 39 50] [2,3,37,38,39])))))))) .skip)) (.seq (.reg [qT 51 5 3,qS 5 2 51] [2]) .ret)))))
theorem K.aX:fE pZ 96 1 0 C.aX [.cell 2 true 5]=true:=by kernel_rfl
def C.fA:bD:=(.seq (.reg [qB 2 false] [0]) (.seq (.seq (.reg [zM 5 0,qL 6 5,zA 7 (.bin .gtr (.t 6) (kI 5))] [0,7]) (.cond (.t 7) (.seq (.reg [qB 2 false] [2]) .ret) .skip)) (.seq (.seq (.reg [zM 8 0,qL 9 8,qI 10 0] [8,9,10]) (.block 0 (.loop (.seq (.reg [zA 11 (.bin .lss (.t 10) (.t 9))] [8,9,10,11]) (.seq (.cond (.t 11) .skip (.exit 0)) (.seq (.block 1 (.seq (.reg [qD 12 1 8 10,qF 13 1 12,zM 4 13] [4,8,9,10]) (.seq (.reg [zM 14 4,q1 15 210 14,qO 16 15] [8,9,10,16]) (.cond (.t 16) (.seq (.reg [qB 2 false] [2]) .ret) .skip)))) (.reg [zA 17 (.bin .add (.t 10) (kI 1)),zM 10 17] [8,9,10]))))))) (.seq (.reg [qB 2 true] [2]) .ret))))
theorem K.fA:fE pZ 172 1 0 C.fA [.tmp 2]=true:=by kernel_rfl
def C.jo:bD:=(.seq (.reg [qX 1 10 0,qB 2 false] [1]) (.seq (.reg [qA 3 0 1,qF 4 1 3,zA 5 (.bin .geq (.t 4) (kI 1)),zM 6 5,zG 6 true 7 (.faddr 0 (.t 1)),zG 6 true 8 (.load false 1 (.t 7)),zG 6 true 9 (.bin .leq (.t 8) (kI 6)),qP 10 6 9,zM 11 10,zG 11 true 12 (.faddr 1 (.t 1)),zG 11 true 13 (.load false 1 (.t 12)),⟨(some (11,true)),some 14,.call 172 [.t 13]⟩,qP 15 11 14,zM 16 15,zG 16 true 17 (.faddr 2 (.t 1)),zG 16 true 18 (.load false 1 (.t 17)),⟨(some (16,true)),some 19,.call 172 [.t 18]⟩,qP 20 16 19,zM 21 20,zG 21 true 22 (.faddr 3 (.t 1)),zG 21 true 23 (.load true 5 (.t 22)),⟨(some (21,true)),some 24,.call 72 [.t 23]⟩,qP 25 21 24,zM 2 25] [2]) .ret))
theorem K.jo:fE pZ 125 1 0 C.jo [.tmp 2]=true:=by kernel_rfl
def C.jv:bD:=(.seq (.reg [zA 2 (.mv (.k (.c (.str []))))] [0]) (.seq (.seq (.reg [zM 3 0] [3]) (.block 0 (.seq (.reg [zA 5 (.bin .eql (.t 3) (kI 1)),zM 4 5] [3,4]) (.cond (.t 4) (.seq (.reg [zA 2 (.mv (.k (.c (.str [97,100,100]))))] [2]) .ret) (.seq (.reg [zA 7 (.bin .eql (.t 3) (kI 2)),zM 6 7] [3,6]) (.cond (.t 6) (.seq (.reg [zA 2 (.mv (.k (.c (.str [114,101,109,111,118,101]))))] [2]) .ret) (.seq (.reg [zA 9 (.bin .eql (.t 3) (kI 3)),zM 8 9] [3,8]) (.cond (.t 8) (.seq (.reg [zA 2 (.mv (.k (.c (.str [114,101,112,108,97,99,101]))))] [2]) .ret) (.seq (.reg [zA 11 (.bin .eql (.t 3) (kI 4)),zM 10 11] [3,10]) (.cond (.t 10) (.seq (.reg [zA 2 (.mv (.k (.c (.str [109,111,118,101]))))] [2]) .ret) (.seq (.reg [zA 13 (.bin .eql (.t 3) (kI 5)),zM 12 13] [3,12]) (.cond (.t 12) (.seq (.reg [zA 2 (.mv (.k (.c (.str [99,111,112,121]))))] [2]) .ret) (.seq (.reg [zA 15 (.bin .eql (.t 3) (kI 6)),zM 14 15] [14]) (.cond (.t 14) (.seq (.reg [zA 2 (.mv (.k (.c (.str [116,101,115,116]))))] [2]) .ret) .skip)))))))))))))) (.seq (.reg [zA 2 (.mv (.k (.c (.str []))))] [2]) .ret)))
theorem K.jv:fE pZ 128 1 0 C.jv [.tmp 2]=true:=by kernel_rfl
def C.eY:bD:=(.seq (.reg [qZ 2 10] [0,2]) (.seq (.reg [zA 6 (.build zN [(0,1,kI 3)]),qZ 3 11,qS 5 3 6] [0,2,3]) (.seq (.seq (.reg [zM 7 0,qL 8 7,qI 9 0] [2,3,7,8,9]) (.block 0 (.loop (.seq (.reg [zA 10 (.bin .lss (.t 9) (.t 8))] [2,3,7,8,9,10]) (.seq (.cond (.t 10) .skip (.exit 0)) (.seq (.block 1 (.seq (.reg [qD 11 1 7 9,qF 12 1 11,zM 5 12] [2,3,5,7,8,9]) (.reg [qA 13 4 3,qF 14 1 13,zM 15 5,zA 16 (.build zN [(0,1,kI 2),(2,1,.t 15)]),zA 17 (.bslice 12 5 1 [.lit (.int .i64 0),.lit (.int .i64 0),.str [],.sl 1 [],.sl 5 []] [(0,.t 16)]),zA 18 (.append 13 5 80 (.t 14) (.t 17)),qA 19 4 3,qU 1 19 18] [2,3,7,8,9]))) (.reg [zA 20 (.bin .add (.t 9) (kI 1)),zM 9 20] [2,3,7,8,9]))))))) (.seq (.reg [qT 21 5 3,qS 5 2 21] [2]) .ret))))
theorem K.eY:fE pZ 127 1 0 C.eY [.cell 2 true 5]=true:=by kernel_rfl
def C.jf:bD:=(.seq (.reg [qX 1 10 0,qZ 2 11,qB 3 false] [1,2]) (.seq (.seq (.reg [qT 4 8 1,q1 5 125 4,qO 6 5] [1,2,6]) (.cond (.t 6) (.seq (.reg [zA 7 (.build zN []),qS 5 2 7,qB 3 false] [2,3]) .ret) .skip)) (.seq (.jQ [(zA 8 (.bslice 12 1 4 [.str []] [(0,.k (.c (.str [102,114,111,109]))),(1,.k (.c (.str [111,112]))),(2,.k (.c (.str [112,97,116,104]))),(3,.k (.c (.str [118,97,108,117,101])))]),[]),(qA 9 2 1,[]),(qF 10 1 9,[1]),(q1 11 127 10,[1,2]),(qA 12 0 1,[]),(qF 13 1 12,[4]),(q1 14 128 13,[1,2,3,4,5]),(zA 15 (.build zN [(0,1,kI 2),(2,1,.t 14)]),[1,2,3,4,5,6]),(qA 16 1 1,[]),(qF 17 1 16,[8]),(q1 18 127 17,[1,2,3,4,5,6,8,9]),(qA 19 3 1,[]),(qT 20 5 19,[11]),(q1 21 96 20,[1,2,3,4,5,6,8,9,10,11,12]),(zA 22 (.bslice 13 5 4 [.lit (.int .i64 0),.lit (.int .i64 0),.str [],.sl 1 [],.sl 5 []] [(0,.t 11),(1,.t 15),(2,.t 18),(3,.t 21)]),[1,2,3,4,5,6,7,8,9,10,11,12,13]),(zA 23 (.build zN [(0,1,kI 4),(3,1,.t 8),(4,1,.t 22)]),[0,1,2,3,4,5,6,7,8,9,10,11,12,13,14]),(⟨none,some 24,.call 126 [.t 23,.k (.c (.lit (.bool true)))]⟩,[0,1,2,3,4,5,6,7,8,9,10,11,12,13,14,15]),(qE 25 24 0,[0,1,2,3,4,5,6,7,8,9,10,11,12,13,14,15,16]),(qE 26 24 1,[0,1,2,3,4,5,6,7,8,9,10,11,12,13,14,15,16]),(qS 5 2 25,[0,1,2,3,4,5,6,7,8,9,10,11,12,13,14,15,16,17,18]),(zM 3 26,[0,1,2,3,4,5,6,7,8,9,10,11,12,13,14,15,16,17,18,19])] [2,3]) .ret)))
theorem K.jf:fE pZ 75 1 0 C.jf [.cell 2 true 5,.tmp 3]=true:=by kernel_rfl
def C.eU:bD:=(.seq (.reg [zA 2 (.mv (.k (.c (.str [])))),qB 3 false] [0]) (.seq (.reg [zA 4 (.allocB 83 5 11 10)] [0,4]) (.seq (.seq (.reg [zM 9 0,qL 10 9,qI 11 0] [4,9,10,11]) (.block 0 (.loop (.seq (.reg [zA 12 (.bin .lss (.t 11) (.t 10))] [4,9,10,11,12]) (.seq (.cond (.t 12) .skip (.exit 0)) (.seq (.block 1 (.seq (.reg [qD 13 8 9 11,qT 14 8 13,zA 6 (.alloc 12 [jc 0,.nsl 1,.nsl 1,jc 0,jc 0,.c (.str []),.nsl 1,.nsl 5]),qS 8 6 14] [4,6,9,10,11]) (.seq (.reg [qT 16 8 6,q1 17 75 16,zM 15 17,qE 18 15 0,qE 19 15 1,qZ 7 13,qS 5 7 18,zM 8 19] [4,7,8,9,10,11]) (.seq (.seq (.reg [zM 20 8,qO 21 20] [4,7,9,10,11,21]) (.cond (.t 21) (.seq (.reg [zA 2 (.mv (.k (.c (.str [])))),qB 3 false] [2,3]) .ret) .skip)) (.seq (.reg [qT 22 5 7,q2 23 74 4 22] [4,9,10,11]) (.reg [⟨none,some 24,.call 57 [.t 4,.k (.c (.lit (.int .u8 59)))]⟩] [4,9,10,11])))))) (.reg [zA 25 (.bin .add (.t 11) (kI 1)),zM 11 25] [4,9,10,11]))))))) (.seq (.reg [q1 26 58 4,zM 2 26,qB 3 true] [2,3]) .ret))))
theorem K.eU:fE pZ 30 1 0 C.eU [.tmp 2,.tmp 3]=true:=by kernel_rfl
def C.bP:bD:=(.seq (.reg [qB 2 false] [0]) (.seq (.seq (.reg [zM 5 0,qL 6 5,zA 7 (.bin .gtr (.t 6) (kI 12))] [0,7]) (.cond (.t 7) (.seq (.reg [qB 2 false] [2]) .ret) .skip)) (.seq (.seq (.reg [zM 8 0,qL 9 8,qI 10 0] [8,9,10]) (.block 0 (.loop (.seq (.reg [zA 11 (.bin .lss (.t 10) (.t 9))] [8,9,10,11]) (.seq (.cond (.t 11) .skip (.exit 0)) (.seq (.block 1 (.seq (.reg [qD 12 8 8 10,qT 13 8 12,zA 4 (.alloc 10 [jc 0,.nsl 1,.nsl 1,jc 0,jc 0,.c (.str []),.nsl 1,.nsl 5]),qS 8 4 13] [4,8,9,10]) (.seq (.reg [qT 14 8 4,q1 15 125 14,qO 16 15] [8,9,10,16]) (.cond (.t 16) (.seq (.reg [qB 2 false] [2]) .ret) .skip)))) (.reg [zA 17 (.bin .add (.t 10) (kI 1)),zM 10 17] [8,9,10]))))))) (.seq (.reg [qB 2 true] [2]) .ret))))
theorem K.bP:fE pZ 73 1 0 C.bP [.tmp 2]=true:=by kernel_rfl
def C.fM:bD:=(.seq (.reg [qB 2 false] [0]) (.seq (.seq (.reg [zM 4 0,zA 5 (.bin .eql (.t 4) (.k (.c (.str [])))),zM 6 5,zG 6 false 7 (.mv (.t 0)),zG 6 false 8 (.lens (.t 7)),zG 6 false 9 (.bin .gtr (.t 8) (kI 8)),qQ 10 6 9] [0,10]) (.cond (.t 10) (.seq (.reg [qB 2 false] [2]) .ret) .skip)) (.seq (.seq (.reg [qI 3 0] [0,3]) (.block 0 (.loop (.seq (.seq (.reg [zM 11 3,zM 12 0,zA 13 (.lens (.t 12)),zA 14 (.bin .lss (.t 11) (.t 13))] [0,3,14]) (.cond (.t 14) .skip (.exit 0))) (.seq (.block 1 (.seq (.reg [zM 17 0,zM 18 3,zA 19 (.idxs (.t 17) (.t 18)),zA 20 (.bin .lss (.t 19) (.k (.c (.lit (.int .u8 97))))),zM 21 20,zG 21 false 22 (.mv (.t 0)),zG 21 false 23 (.mv (.t 3)),zG 21 false 24 (.idxs (.t 22) (.t 23)),zG 21 false 25 (.bin .gtr (.t 24) (.k (.c (.lit (.int .u8 122))))),qQ 26 21 25,zM 27 26,zG 27 true 28 (.mv (.t 0)),zG 27 true 29 (.mv (.t 3)),zG 27 true 30 (.idxs (.t 28) (.t 29)),zG 27 true 31 (.bin .lss (.t 30) (.k (.c (.lit (.int .u8 48))))),zG 27 true 32 (.mv (.t 31)),zG 32 false 33 (.mv (.t 0)),zG 32 false 34 (.mv (.t 3)),zG 32 false 35 (.idxs (.t 33) (.t 34)),zG 32 false 36 (.bin .gtr (.t 35) (.k (.c (.lit (.int .u8 57))))),zG 27 true 37 (.pick (.t 32) (kB true) (.t 36)),qP 38 27 37] [0,3,38]) (.cond (.t 38) (.seq (.reg [qB 2 false] [2]) .ret) .skip))) (.reg [zM 15 3,zA 16 (.bin .add (.t 15) (kI 1)),zM 3 16] [0,3])))))) (.seq (.reg [qB 2 true] [2]) .ret))))
theorem K.fM:fE pZ 70 1 0 C.fM [.tmp 2]=true:=by kernel_rfl
def C.gV:bD:=(.seq (.reg [qX 1 10 0,qB 2 false] [1]) (.seq (.reg [qA 3 0 1,qF 4 1 3,zA 5 (.bin .geq (.t 4) (kI 1)),zM 6 5,zG 6 true 7 (.faddr 0 (.t 1)),zG 6 true 8 (.load false 1 (.t 7)),zG 6 true 9 (.bin .leq (.t 8) (kI 5)),qP 10 6 9,zM 11 10,zG 11 true 12 (.faddr 1 (.t 1)),zG 11 true 13 (.load false 1 (.t 12)),⟨(some (11,true)),some 14,.call 70 [.t 13]⟩,qP 15 11 14,zM 16 15,zG 16 true 17 (.faddr 2 (.t 1)),zG 16 true 18 (.load false 1 (.t 17)),⟨(some (16,true)),some 19,.call 71 [.t 18]⟩,qP 20 16 19,zM 21 20,zG 21 true 22 (.faddr 3 (.t 1)),zG 21 true 23 (.load false 1 (.t 22)),⟨(some (21,true)),some 24,.call 71 [.t 23]⟩,qP 25 21 24,zM 26 25,zG 26 true 27 (.faddr 4 (.t 1)),zG 26 true 28 (.load true 5 (.t 27)),⟨(some (26,true)),some 29,.call 72 [.t 28]⟩,qP 30 26 29,zM 31 30,zG 31 true 32 (.faddr 9 (.t 1)),zG 31 true 33 (.load false 1 (.t 32)),⟨(some (31,true)),some 34,.call 73 [.t 33]⟩,qP 35 31 34,zM 2 35] [2]) .ret))
theorem K.gV:fE pZ 28 1 0 C.gV [.tmp 2]=true:=by kernel_rfl
def C.gI:bD:=(.seq (.reg [zA 2 (.mv (.k (.c (.str []))))] [0]) (.seq (.seq (.reg [zM 3 0] [3]) (.block 0 (.seq (.reg [zA 5 (.bin .eql (.t 3) (kI 1)),zM 4 5] [3,4]) (.cond (.t 4) (.seq (.reg [zA 2 (.mv (.k (.c (.str [103,101,116]))))] [2]) .ret) (.seq (.reg [zA 7 (.bin .eql (.t 3) (kI 2)),zM 6 7] [3,6]) (.cond (.t 6) (.seq (.reg [zA 2 (.mv (.k (.c (.str [112,117,116]))))] [2]) .ret) (.seq (.reg [zA 9 (.bin .eql (.t 3) (kI 3)),zM 8 9] [3,8]) (.cond (.t 8) (.seq (.reg [zA 2 (.mv (.k (.c (.str [100,101,108,101,116,101]))))] [2]) .ret) (.seq (.reg [zA 11 (.bin .eql (.t 3) (kI 4)),zM 10 11] [3,10]) (.cond (.t 10) (.seq (.reg [zA 2 (.mv (.k (.c (.str [112,97,116,99,104]))))] [2]) .ret) (.seq (.reg [zA 13 (.bin .eql (.t 3) (kI 5)),zM 12 13] [12]) (.cond (.t 12) (.seq (.reg [zA 2 (.mv (.k (.c (.str [109,101,114,103,101]))))] [2]) .ret) .skip)))))))))))) (.seq (.reg [zA 2 (.mv (.k (.c (.str []))))] [2]) .ret)))
theorem K.gI:fE pZ 32 1 0 C.gI [.tmp 2]=true:=by kernel_rfl
def C.ah:bD:=(.seq (.reg [qX 1 10 0,zA 2 (.mv (.k (.c (.str []))))] [1]) (.seq (.seq (.reg [qT 7 10 1,q1 8 28 7,qO 9 8] [1,9]) (.cond (.t 9) (.seq (.reg [zA 2 (.mv (.k (.c (.str []))))] [2]) .ret) .skip)) (.seq (.reg [qA 10 0 1,qF 11 1 10,zA 12 (.bin .eql (.t 11) (kI 2)),zM 13 12,zG 13 false 14 (.faddr 0 (.t 1)),zG 13 false 15 (.load false 1 (.t 14)),zG 13 false 16 (.bin .eql (.t 15) (kI 5)),qQ 17 13 16,zM 3 17] [1,3]) (.cut (.seq (.reg [zM 18 3,qO 19 18,zM 20 19,zG 20 true 21 (.faddr 4 (.t 1)),zG 20 true 22 (.faddr 0 (.t 21)),zG 20 true 23 (.load false 1 (.t 22)),zG 20 true 24 (.bin .neq (.t 23) (kI 0)),qP 25 20 24,zM 26 25,zG 26 false 27 (.faddr 0 (.t 1)),zG 26 false 28 (.load false 1 (.t 27)),zG 26 false 29 (.bin .neq (.t 28) (kI 4)),zG 26 false 30 (.mv (.t 29)),zG 30 true 31 (.faddr 9 (.t 1)),zG 30 true 32 (.load false 1 (.t 31)),zG 30 true 33 (.len (.t 32)),zG 30 true 34 (.bin .gtr (.t 33) (kI 0)),zG 26 false 35 (.pick (.t 30) (.t 34) (kB false)),qQ 36 26 35] [1,36]) (.cond (.t 36) (.seq (.reg [zA 2 (.mv (.k (.c (.str []))))] [2]) .ret) .skip)) (.seq (.reg [qA 37 4 1,qT 38 5 37,q1 39 29 38,zM 4 39] [1,4]) (.cut (.seq (.reg [qA 40 0 1,qF 41 1 40,zA 42 (.bin .eql (.t 41) (kI 4))] [1,4,42]) (.cond (.t 42) (.seq (.reg [qA 44 9 1,qF 45 1 44,q1 46 30 45,zM 43 46,qE 47 43 0,qE 48 43 1,zM 5 47,zM 6 48] [1,5,6]) (.seq (.seq (.reg [zM 49 6,qO 50 49] [1,5,50]) (.cond (.t 50) (.seq (.reg [zA 2 (.mv (.k (.c (.str []))))] [2]) .ret) .skip)) (.reg [zM 51 5,zM 4 51] [1,4]))) .skip)) (.seq (.jQ [(qA 52 0 1,[]),(qF 53 1 52,[0]),(q1 54 32 53,[0,1]),(qA 55 1 1,[]),(qF 56 1 55,[3]),(qA 57 2 1,[]),(qF 58 1 57,[5]),(q1 59 33 58,[0,1,2,5,6]),(qA 60 3 1,[]),(qF 61 1 60,[8]),(q1 62 33 61,[0,1,2,5,6,7,8,9]),(zM 63 4,[]),(zA 64 (.bslice 11 1 5 [.str []] [(0,.t 54),(1,.t 56),(2,.t 59),(3,.t 62),(4,.t 63)]),[0,1,2,3,4,5,6,7,8,9,10,11]),(⟨none,some 65,.call 31 [.t 64,.k (.c (.str [32]))]⟩,[0,1,2,3,4,5,6,7,8,9,10,11,12]),(zM 2 65,[0,1,2,3,4,5,6,7,8,9,10,11,12,13])] [2]) .ret)))))))
theorem K.ah:fE pZ 11 1 0 C.ah [.tmp 2]=true:=by kernel_rfl
def C.dR:bD:=(.seq (.reg [qX 1 10 0,zA 2 (.mv (.k (.nsl 1))),qB 3 false] [1]) (.seq (.seq (.reg [qA 7 0 1,qF 8 1 7,zA 9 (.bin .neq (.t 8) (kI 3))] [1,9]) (.cond (.t 9) (.seq (.reg [zA 2 (.mv (.k (.nsl 1))),qB 3 false] [2,3]) .ret) .skip)) (.seq (.reg [zA 4 (.mv (.k (.nsl 1)))] [1,4]) (.seq (.seq (.reg [qA 10 4 1,qF 11 1 10,qL 12 11,qI 13 0] [4,11,12,13]) (.block 0 (.loop (.seq (.reg [zA 14 (.bin .lss (.t 13) (.t 12))] [4,11,12,13,14]) (.seq (.cond (.t 14) .skip (.exit 0)) (.seq (.block 1 (.seq (.reg [qD 15 5 11 13,qT 16 5 15,qZ 6 11,qS 5 6 16] [4,6,11,12,13]) (.seq (.seq (.reg [qA 17 0 6,qF 18 1 17,zA 19 (.bin .neq (.t 18) (kI 2))] [4,6,11,12,13,19]) (.cond (.t 19) (.seq (.reg [zA 2 (.mv (.k (.nsl 1))),qB 3 false] [2,3]) .ret) .skip)) (.reg [zM 20 4,qA 21 2 6,qF 22 1 21,zA 23 (.bslice 12 1 1 [.str []] [(0,.t 22)]),zA 24 (.append 13 1 16 (.t 20) (.t 23)),zM 4 24] [4,11,12,13])))) (.reg [zA 25 (.bin .add (.t 13) (kI 1)),zM 13 25] [4,11,12,13]))))))) (.seq (.reg [zM 26 4,zM 27 4,q1 28 172 27,zM 2 26,zM 3 28] [2,3]) .ret)))))
theorem K.dR:fE pZ 146 1 0 C.dR [.tmp 2,.tmp 3]=true:=by kernel_rfl
def C.nO:bD:=(.seq (.reg [qI 8 0,qB 9 false] [0,1,2,3]) (.seq (.seq (.reg [zM 11 1,zM 10 11] [0,2,3,10]) (.block 0 (.loop (.seq (.seq (.reg [zM 12 10,zM 13 2,zA 14 (.bin .leq (.t 12) (.t 13))] [0,2,3,10,14]) (.cond (.t 14) .skip (.exit 0))) (.seq (.block 1 (.seq (.reg [zM 17 3,zM 18 10,⟨none,some 19,.callv (.t 17) [.t 18]⟩,zM 20 0,zA 21 (.bin .eql (.t 19) (.t 20))] [0,2,3,10,21]) (.cond (.t 21) (.seq (.reg [zM 22 10,zM 8 22,qB 9 true] [8,9]) .ret) .skip))) (.reg [zM 15 10,zA 16 (.bin .add (.t 15) (kI 1)),zM 10 16] [0,2,3,10])))))) (.seq (.reg [qI 8 0,qB 9 false] [8,9]) .ret)))
theorem K.bV:fE pZ 39 4 0 C.nO [.tmp 8,.tmp 9]=true:=by kernel_rfl
def C.slices_Equal_string:bD:=(.seq (.reg [qB 4 false] [0,1]) (.seq (.seq (.reg [zM 6 0,qL 7 6,zM 8 1,qL 9 8,zA 10 (.bin .neq (.t 7) (.t 9))] [0,1,10]) (.cond (.t 10) (.seq (.reg [qB 4 false] [4]) .ret) .skip)) (.seq (.seq (.reg [zM 11 0,qL 12 11,qI 13 0] [0,1,12,13]) (.block 0 (.loop (.seq (.reg [zA 14 (.bin .lss (.t 13) (.t 12))] [0,1,12,13,14]) (.seq (.cond (.t 14) .skip (.exit 0)) (.seq (.block 1 (.seq (.reg [zM 15 13,zM 5 15] [0,1,5,12,13]) (.seq (.jQ [(zM 16 0,[]),(zM 17 5,[]),(qD 18 1 16 17,[0,1]),(qF 19 1 18,[0,1,2]),(zM 20 1,[]),(zM 21 5,[]),(qD 22 1 20 21,[4,5]),(qF 23 1 22,[4,5,6]),(zA 24 (.bin .neq (.t 19) (.t 23)),[0,1,2,3,4,5,6,7])] [0,1,12,13,24]) (.cond (.t 24) (.seq (.reg [qB 4 false] [4]) .ret) .skip)))) (.reg [zA 25 (.bin .add (.t 13) (kI 1)),zM 13 25] [0,1,12,13]))))))) (.seq (.reg [qB 4 true] [4]) .ret))))
theorem K.slices_Equal_string:fE pZ 145 2 0 C.slices_Equal_string [.tmp 4]=true:=by kernel_rfl
def C.je:bD:=(.seq (.reg [qX 1 10 0,zA 2 (.alloc 11 [jc 0,.nsl 1,.nsl 1,jc 0,jc 0,.c (.str []),.nsl 1,.nsl 5]),qB 3 false] [1,2]) (.seq (.seq (.reg [qT 8 5 1,q1 9 72 8,qO 10 9,zM 11 10,zG 11 false 12 (.faddr 0 (.t 1)),zG 11 false 13 (.load false 1 (.t 12)),zG 11 false 14 (.bin .neq (.t 13) (kI 4)),qQ 15 11 14,zM 16 15,zG 16 false 17 (.faddr 3 (.t 1)),zG 16 false 18 (.load false 1 (.t 17)),zG 16 false 19 (.bslice 12 1 4 [.str []] [(0,.k (.c (.str [102,114,111,109]))),(1,.k (.c (.str [111,112]))),(2,.k (.c (.str [112,97,116,104]))),(3,.k (.c (.str [118,97,108,117,101])))]),⟨(some (16,false)),some 20,.call 145 [.t 18,.t 19]⟩,zG 16 false 21 (.not (.t 20)),qQ 22 16 21] [1,2,22]) (.cond (.t 22) (.seq (.reg [zA 23 (.build [jc 0,.nsl 1,.nsl 1,jc 0,jc 0,.c (.str []),.nsl 1,.nsl 5] []),qS 8 2 23,qB 3 false] [2,3]) .ret) .skip)) (.seq (.reg [qA 25 4 1,qF 26 1 25,zA 27 (.iaddr 5 (.t 26) (kI 0)),qT 28 5 27,q1 29 146 28,zM 24 29,qE 30 24 0,qE 31 24 1,zM 4 30,zM 5 31] [1,2,4,5]) (.seq (.seq (.reg [zM 32 5,qO 33 32,zM 34 33,zG 34 false 35 (.faddr 4 (.t 1)),zG 34 false 36 (.load false 1 (.t 35)),zG 34 false 37 (.iaddr 5 (.t 36) (kI 1)),zG 34 false 38 (.faddr 0 (.t 37)),zG 34 false 39 (.load false 1 (.t 38)),zG 34 false 40 (.bin .neq (.t 39) (kI 2)),qQ 41 34 40] [1,2,4,41]) (.cond (.t 41) (.seq (.reg [zA 42 (.build [jc 0,.nsl 1,.nsl 1,jc 0,jc 0,.c (.str []),.nsl 1,.nsl 5] []),qS 8 2 42,qB 3 false] [2,3]) .ret) .skip)) (.seq (.reg [qA 44 4 1,qF 45 1 44,zA 46 (.iaddr 5 (.t 45) (kI 1)),qA 47 2 46,qF 48 1 47,⟨none,some 49,.call 39 [.t 48,kI 1,kI 6,.k (.fn 128 [])]⟩,zM 43 49,qE 50 43 0,qE 51 43 1,zM 6 50,zM 5 51] [1,2,4,5,6]) (.seq (.seq (.reg [zM 52 5,qO 53 52] [1,2,4,6,53]) (.cond (.t 53) (.seq (.reg [zA 54 (.build [jc 0,.nsl 1,.nsl 1,jc 0,jc 0,.c (.str []),.nsl 1,.nsl 5] []),qS 8 2 54,qB 3 false] [2,3]) .ret) .skip)) (.seq (.reg [qA 56 4 1,qF 57 1 56,zA 58 (.iaddr 5 (.t 57) (kI 2)),qT 59 5 58,q1 60 146 59,zM 55 60,qE 61 55 0,qE 62 55 1,zM 7 61,zM 5 62] [1,2,4,5,6,7]) (.seq (.seq (.reg [zM 63 5,qO 64 63] [1,2,4,6,7,64]) (.cond (.t 64) (.seq (.reg [zA 65 (.build [jc 0,.nsl 1,.nsl 1,jc 0,jc 0,.c (.str []),.nsl 1,.nsl 5] []),qS 8 2 65,qB 3 false] [2,3]) .ret) .skip)) (.seq (.reg [zM 66 6,zM 67 7,zM 68 4,qA 69 4 1,qF 70 1 69,zA 71 (.iaddr 5 (.t 70) (kI 3)),qT 72 5 71,q1 73 96 72,zA 74 (.build [jc 0,.nsl 1,.nsl 1,jc 0,jc 0,.c (.str []),.nsl 1,.nsl 5] [(0,1,.t 66),(1,1,.t 67),(2,1,.t 68),(3,5,.t 73)]),qS 8 2 74,qB 3 true] [2,3]) .ret)))))))))
theorem K.je:fE pZ 95 1 0 C.je [.cell 2 true 8,.tmp 3]=true:=by kernel_rfl
def C.aW:bD:=(.seq (.reg [qZ 2 10,qB 3 false] [0,2]) (.seq (.reg [zM 8 0,qN 9 8,qA 10 1 9,qF 11 1 10,zM 4 11] [0,2,4]) (.seq (.block 0 (.loop (.seq (.seq (.reg [zM 12 4,zM 13 0,qN 14 13,qA 15 0 14,qF 16 1 15,zA 17 (.lens (.t 16)),zA 18 (.bin .lss (.t 12) (.t 17)),zM 19 18,zG 19 true 20 (.mv (.t 0)),zG 19 true 21 (.nilck (.t 20)),zG 19 true 22 (.faddr 0 (.t 21)),zG 19 true 23 (.load false 1 (.t 22)),zG 19 true 24 (.mv (.t 4)),zG 19 true 25 (.idxs (.t 23) (.t 24)),zG 19 true 26 (.bin .eql (.t 25) (.k (.c (.lit (.int .u8 45))))),zG 19 true 27 (.mv (.t 26)),zG 27 false 28 (.mv (.t 0)),zG 27 false 29 (.nilck (.t 28)),zG 27 false 30 (.faddr 0 (.t 29)),zG 27 false 31 (.load false 1 (.t 30)),zG 27 false 32 (.mv (.t 4)),zG 27 false 33 (.idxs (.t 31) (.t 32)),zG 27 false 34 (.bin .geq (.t 33) (.k (.c (.lit (.int .u8 48))))),zG 27 false 35 (.mv (.t 34)),zG 35 true 36 (.mv (.t 0)),zG 35 true 37 (.nilck (.t 36)),zG 35 true 38 (.faddr 0 (.t 37)),zG 35 true 39 (.load false 1 (.t 38)),zG 35 true 40 (.mv (.t 4)),zG 35 true 41 (.idxs (.t 39) (.t 40)),zG 35 true 42 (.bin .leq (.t 41) (.k (.c (.lit (.int .u8 57))))),zG 27 false 43 (.pick (.t 35) (.t 42) (kB false)),zG 19 true 44 (.pick (.t 27) (kB true) (.t 43)),qP 45 19 44] [0,2,4,45]) (.cond (.t 45) .skip (.exit 0))) (.block 1 (.reg [zM 46 4,zA 47 (.bin .add (.t 46) (kI 1)),zM 4 47] [0,2,4]))))) (.seq (.jQ [(zM 48 0,[]),(qN 49 48,[0]),(qA 50 0 49,[0,1]),(qF 51 1 50,[0,1,2]),(zM 52 0,[]),(qN 53 52,[4]),(qA 54 1 53,[4,5]),(qF 55 1 54,[4,5,6]),(zM 56 4,[]),(zA 57 (.slstr (.t 51) (some (.t 55)) (some (.t 56))),[0,1,2,3,4,5,6,7,8]),(zM 5 57,[0,1,2,3,4,5,6,7,8,9])] [0,2,4,5]) (.seq (.reg [zM 59 5,q1 60 181 59,zM 58 60,qE 61 58 0,qE 62 58 1,zM 6 61,zM 7 62] [0,2,4,5,6,7]) (.seq (.seq (.reg [zM 63 7,zA 64 (.isnil true (.t 63)),zM 65 64,zG 65 false 66 (.mv (.t 6)),⟨(some (65,false)),some 67,.call 103 [.t 66]⟩,zG 65 false 68 (.mv (.t 5)),zG 65 false 69 (.bin .neq (.t 67) (.t 68)),qQ 70 65 69] [0,2,4,6,70]) (.cond (.t 70) (.seq (.reg [zA 71 (.build zN []),qS 5 2 71,qB 3 false] [2,3]) .ret) .skip)) (.seq (.reg [zM 72 0,zM 73 4,qN 74 72,qA 75 1 74,qU 1 75 73] [2,6]) (.seq (.reg [zM 76 6,zA 77 (.build zN [(0,1,kI 1),(1,1,.t 76)]),qS 5 2 77,qB 3 true] [2,3]) .ret))))))))
theorem K.aW:fE pZ 143 1 1 C.aW [.cell 2 true 5,.tmp 3]=true:=by kernel_rfl
def C.dm:bD:=(.seq (.reg [qB 4 false] [0,1]) (.seq (.seq (.jQ [(zM 5 0,[]),(qN 6 5,[0]),(qA 7 0 6,[0,1]),(qF 8 1 7,[0,1,2]),(zM 9 0,[]),(qN 10 9,[4]),(qA 11 1 10,[4,5]),(qF 12 1 11,[4,5,6]),(zA 13 (.slstr (.t 8) (some (.t 12)) none),[0,1,2,3,4,5,6,7]),(zM 14 1,[]),(q2 15 144 13 14,[0,1,2,3,4,5,6,7,8,9]),(qO 16 15,[0,1,2,3,4,5,6,7,8,9,10])] [0,1,16]) (.cond (.t 16) (.seq (.reg [qB 4 false] [4]) .ret) .skip)) (.seq (.reg [zM 17 0,qN 18 17,qA 19 1 18,qF 20 1 19,zM 21 1,zA 22 (.lens (.t 21)),zA 23 (.bin .add (.t 20) (.t 22)),qN 24 17,qA 25 1 24,qU 1 25 23] []) (.seq (.reg [qB 4 true] [4]) .ret))))
theorem K.dm:fE pZ 94 2 1 C.dm [.tmp 4]=true:=by kernel_rfl
def C.aH:bD:=(.seq (.reg [zA 2 (.mv (.k (.c (.str [])))),qB 3 false] [0]) (.seq (.seq (.reg [zM 6 0,⟨none,some 7,.call 94 [.t 6,.k (.c (.str [34]))]⟩,qO 8 7] [0,8]) (.cond (.t 8) (.seq (.reg [zA 2 (.mv (.k (.c (.str [])))),qB 3 false] [2,3]) .ret) .skip)) (.seq (.reg [zA 4 (.allocB 83 5 11 10)] [0,4]) (.seq (.block 0 (.loop (.seq (.seq (.jQ [(zM 9 0,[]),(qN 10 9,[0]),(qA 11 1 10,[0,1]),(qF 12 1 11,[0,1,2]),(zM 13 0,[]),(qN 14 13,[4]),(qA 15 0 14,[4,5]),(qF 16 1 15,[4,5,6]),(zA 17 (.lens (.t 16)),[4,5,6,7]),(zA 18 (.bin .lss (.t 12) (.t 17)),[0,1,2,3,4,5,6,7,8])] [0,4,18]) (.cond (.t 18) .skip (.exit 0))) (.block 1 (.seq (.jQ [(zM 19 0,[]),(qN 20 19,[0]),(qA 21 0 20,[0,1]),(qF 22 1 21,[0,1,2]),(zM 23 0,[]),(qN 24 23,[4]),(qA 25 1 24,[4,5]),(qF 26 1 25,[4,5,6]),(zA 27 (.idxs (.t 22) (.t 26)),[0,1,2,3,4,5,6,7]),(zM 5 27,[0,1,2,3,4,5,6,7,8])] [0,4,5]) (.seq (.reg [zM 28 0,qN 29 28,qA 30 1 29,qF 31 1 30,zA 32 (.bin .add (.t 31) (kI 1)),qN 33 28,qA 34 1 33,qU 1 34 32] [0,4,5]) (.seq (.seq (.reg [zM 35 5,zA 36 (.bin .eql (.t 35) (.k (.c (.lit (.int .u8 34)))))] [0,4,5,36]) (.cond (.t 36) (.seq (.reg [q1 37 58 4,zM 2 37,qB 3 true] [2,3]) .ret) .skip)) (.cut (.seq (.reg [zM 38 5,zA 39 (.bin .eql (.t 38) (.k (.c (.lit (.int .u8 92)))))] [0,4,5,39]) (.cond (.t 39) (.seq (.seq (.jQ [(zM 40 0,[]),(qN 41 40,[0]),(qA 42 1 41,[0,1]),(qF 43 1 42,[0,1,2]),(zM 44 0,[]),(qN 45 44,[4]),(qA 46 0 45,[4,5]),(qF 47 1 46,[4,5,6]),(zA 48 (.lens (.t 47)),[4,5,6,7]),(zA 49 (.bin .eql (.t 43) (.t 48)),[0,1,2,3,4,5,6,7,8]),(zM 50 49,[0,1,2,3,4,5,6,7,8,9]),(zG 50 false 51 (.mv (.t 0)),[0,1,2,3,4,5,6,7,8,9,10]),(zG 50 false 52 (.nilck (.t 51)),[0,1,2,3,4,5,6,7,8,9,10,11]),(zG 50 false 53 (.faddr 0 (.t 52)),[0,1,2,3,4,5,6,7,8,9,10,11,12]),(zG 50 false 54 (.load false 1 (.t 53)),[0,1,2,3,4,5,6,7,8,9,10,11,12,13]),(zG 50 false 55 (.mv (.t 0)),[0,1,2,3,4,5,6,7,8,9,10]),(zG 50 false 56 (.nilck (.t 55)),[0,1,2,3,4,5,6,7,8,9,10,15]),(zG 50 false 57 (.faddr 1 (.t 56)),[0,1,2,3,4,5,6,7,8,9,10,15,16]),(zG 50 false 58 (.load false 1 (.t 57)),[0,1,2,3,4,5,6,7,8,9,10,15,16,17]),(zG 50 false 59 (.idxs (.t 54) (.t 58)),[0,1,2,3,4,5,6,7,8,9,10,11,12,13,14,15,16,17,18]),(zG 50 false 60 (.bin .neq (.t 59) (.k (.c (.lit (.int .u8 34))))),[0,1,2,3,4,5,6,7,8,9,10,11,12,13,14,15,16,17,18,19]),(zG 50 false 61 (.mv (.t 60)),[0,1,2,3,4,5,6,7,8,9,10,11,12,13,14,15,16,17,18,19,20]),(zG 61 true 62 (.mv (.t 0)),[0,1,2,3,4,5,6,7,8,9,10,11,12,13,14,15,16,17,18,19,20,21]),(zG 61 true 63 (.nilck (.t 62)),[0,1,2,3,4,5,6,7,8,9,10,11,12,13,14,15,16,17,18,19,20,21,22]),(zG 61 true 64 (.faddr 0 (.t 63)),[0,1,2,3,4,5,6,7,8,9,10,11,12,13,14,15,16,17,18,19,20,21,22,23]),(zG 61 true 65 (.load false 1 (.t 64)),[0,1,2,3,4,5,6,7,8,9,10,11,12,13,14,15,16,17,18,19,20,21,22,23,24]),(zG 61 true 66 (.mv (.t 0)),[0,1,2,3,4,5,6,7,8,9,10,11,12,13,14,15,16,17,18,19,20,21]),(zG 61 true 67 (.nilck (.t 66)),[0,1,2,3,4,5,6,7,8,9,10,11,12,13,14,15,16,17,18,19,20,21,26]),(zG 61 true 68 (.faddr 1 (.t 67)),[0,1,2,3,4,5,6,7,8,9,10,11,12,13,14,15,16,17,18,19,20,21,26,27]),(zG 61 true 69 (.load false 1 (.t 68)),[0,1,2,3,4,5,6,7,8,9,10,11,12,13,14,15,16,17,18,19,20,21,26,27,28]),(zG 61 true 70 (.idxs (.t 65) (.t 69)),[0,1,2,3,4,5,6,7,8,9,10,11,12,13,14,15,16,17,18,19,20,21,22,23,24,25,26,27,28,29]),(zG 61 true 71 (.bin .neq (.t 70) (.k (.c (.lit (.int .u8 92))))),[0,1,2,3,4,5,6,7,8,9,10,11,12,13,14,15,16,17,18,19,20,21,22,23,24,25,26,27,28,29,30]),(zG 50 false 72 (.pick (.t 61) (.t 71) (kB false)),[0,1,2,3,4,5,6,7,8,9,10,11,12,13,14,15,16,17,18,19,20,21,22,23,24,25,26,27,28,29,30,31]),(qQ 73 50 72,[0,1,2,3,4,5,6,7,8,9,10,11,12,13,14,15,16,17,18,19,20,21,22,23,24,25,26,27,28,29,30,31,32])] [0,4,73]) (.cond (.t 73) (.seq (.reg [zA 2 (.mv (.k (.c (.str [])))),qB 3 false] [2,3]) .ret) .skip)) (.seq (.jQ [(zM 74 0,[]),(qN 75 74,[0]),(qA 76 0 75,[0,1]),(qF 77 1 76,[0,1,2]),(zM 78 0,[]),(qN 79 78,[4]),(qA 80 1 79,[4,5]),(qF 81 1 80,[4,5,6]),(zA 82 (.idxs (.t 77) (.t 81)),[0,1,2,3,4,5,6,7]),(zM 5 82,[0,1,2,3,4,5,6,7,8])] [0,4,5]) (.reg [zM 83 0,qN 84 83,qA 85 1 84,qF 86 1 85,zA 87 (.bin .add (.t 86) (kI 1)),qN 88 83,qA 89 1 88,qU 1 89 87] [0,4,5]))) .skip)) (.reg [zM 90 5,q2 91 57 4 90] [0,4]))))))))) (.seq (.reg [zA 2 (.mv (.k (.c (.str [])))),qB 3 false] [2,3]) .ret)))))
theorem K.aH:fE pZ 141 1 1 C.aH [.tmp 2,.tmp 3]=true:=by kernel_rfl
def C.cu:bD:=(.seq (.reg [qZ 4 10,qB 5 false] [0,1,4]) (.seq (.seq (.jQ [(zM 8 1,[]),(zA 9 (.bin .gtr (.t 8) (kI 5)),[0]),(zM 10 9,[0,1]),(zG 10 false 11 (.mv (.t 0)),[0,1,2]),(zG 10 false 12 (.nilck (.t 11)),[0,1,2,3]),(zG 10 false 13 (.faddr 1 (.t 12)),[0,1,2,3,4]),(zG 10 false 14 (.load false 1 (.t 13)),[0,1,2,3,4,5]),(zG 10 false 15 (.mv (.t 0)),[0,1,2]),(zG 10 false 16 (.nilck (.t 15)),[0,1,2,7]),(zG 10 false 17 (.faddr 0 (.t 16)),[0,1,2,7,8]),(zG 10 false 18 (.load false 1 (.t 17)),[0,1,2,7,8,9]),(zG 10 false 19 (.lens (.t 18)),[0,1,2,7,8,9,10]),(zG 10 false 20 (.bin .geq (.t 14) (.t 19)),[0,1,2,3,4,5,6,7,8,9,10,11]),(qQ 21 10 20,[0,1,2,3,4,5,6,7,8,9,10,11,12])] [0,1,4,21]) (.cond (.t 21) (.seq (.reg [zA 22 (.build zN []),qS 5 4 22,qB 5 false] [4,5]) .ret) .skip)) (.seq (.seq (.jQ [(zM 23 0,[]),(qN 24 23,[0]),(qA 25 0 24,[0,1]),(qF 26 1 25,[0,1,2]),(zM 27 0,[]),(qN 28 27,[4]),(qA 29 1 28,[4,5]),(qF 30 1 29,[4,5,6]),(zA 31 (.idxs (.t 26) (.t 30)),[0,1,2,3,4,5,6,7])] [0,1,4,31]) (.block 0 (.seq (.reg [zA 33 (.bin .eql (.t 31) (.k (.c (.lit (.int .u8 110))))),zM 32 33] [0,1,4,31,32]) (.cond (.t 32) (.seq (.reg [zA 34 (.build zN []),zM 35 0,⟨none,some 36,.call 94 [.t 35,.k (.c (.str [110,117,108,108]))]⟩,qS 5 4 34,zM 5 36] [4,5]) .ret) (.seq (.reg [zA 38 (.bin .eql (.t 31) (.k (.c (.lit (.int .u8 34))))),zM 37 38] [0,1,4,31,37]) (.cond (.t 37) (.seq (.reg [zM 40 0,q1 41 141 40,zM 39 41,qE 42 39 0,qE 43 39 1,zM 6 42,zM 7 43] [4,6,7]) (.seq (.reg [zM 44 6,zA 45 (.build zN [(0,1,kI 2),(2,1,.t 44)]),zM 46 7,qS 5 4 45,zM 5 46] [4,5]) .ret)) (.seq (.reg [zA 48 (.bin .eql (.t 31) (.k (.c (.lit (.int .u8 91))))),zM 47 48] [0,1,4,31,47]) (.cond (.t 47) (.seq (.reg [zM 49 0,qN 50 49,qA 51 1 50,qF 52 1 51,zA 53 (.bin .add (.t 52) (kI 1)),qN 54 49,qA 55 1 54,qU 1 55 53] [0,1,4]) (.seq (.reg [zM 56 0,zM 57 1,⟨none,some 58,.call 142 [.t 56,kI 3,.t 57,.k (.c (.str [93]))]⟩,qE 59 58 0,qE 60 58 1,qS 5 4 59,zM 5 60] [4,5]) .ret)) (.seq (.reg [zA 62 (.bin .eql (.t 31) (.k (.c (.lit (.int .u8 123))))),zM 61 62] [0,1,4,61]) (.cond (.t 61) (.seq (.reg [zM 63 0,qN 64 63,qA 65 1 64,qF 66 1 65,zA 67 (.bin .add (.t 66) (kI 1)),qN 68 63,qA 69 1 68,qU 1 69 67] [0,1,4]) (.seq (.reg [zM 70 0,zM 71 1,⟨none,some 72,.call 142 [.t 70,kI 4,.t 71,.k (.c (.str [125]))]⟩,qE 73 72 0,qE 74 72 1,qS 5 4 73,zM 5 74] [4,5]) .ret)) .skip)))))))))) (.seq (.reg [zM 75 0,q1 76 143 75,qE 77 76 0,qE 78 76 1,qS 5 4 77,zM 5 78] [4,5]) .ret))))
theorem K.cu:fE pZ 93 2 1 C.cu [.cell 4 true 5,.tmp 5]=true:=by kernel_rfl
def C.aP:bD:=(.seq (.reg [qZ 8 10,qB 9 false] [0,1,2,3,8]) (.seq (.reg [zM 15 1,zA 16 (.build zN [(0,1,.t 15)]),qZ 10 11,qS 5 10 16] [0,1,2,3,8,10]) (.seq (.seq (.reg [zM 17 0,zM 18 3,q2 19 94 17 18] [0,1,2,3,8,10,19]) (.cond (.t 19) (.seq (.reg [qT 20 5 10,qS 5 8 20,qB 9 true] [8,9]) .ret) .skip)) (.block 0 (.loop (.block 1 (.cut (.seq (.reg [zM 21 1,zA 22 (.bin .eql (.t 21) (kI 4))] [0,1,2,3,8,10,22]) (.cond (.t 22) (.seq (.reg [zM 24 0,q1 25 141 24,zM 23 25,qE 26 23 0,qE 27 23 1,zM 11 26,zM 12 27] [0,1,2,3,8,10,11,12]) (.seq (.seq (.reg [zM 28 12,qO 29 28,zM 30 29,zG 30 false 31 (.mv (.t 0)),⟨(some (30,false)),some 32,.call 94 [.t 31,.k (.c (.str [58]))]⟩,zG 30 false 33 (.not (.t 32)),qQ 34 30 33] [0,1,2,3,8,10,11,34]) (.cond (.t 34) (.seq (.reg [zA 35 (.build zN []),qS 5 8 35,qB 9 false] [8,9]) .ret) .skip)) (.reg [qA 36 3 10,qF 37 1 36,zM 38 11,zA 39 (.bslice 12 1 1 [.str []] [(0,.t 38)]),zA 40 (.append 13 1 16 (.t 37) (.t 39)),qA 41 3 10,qU 1 41 40] [0,1,2,3,8,10]))) .skip)) (.seq (.reg [zM 43 0,zM 44 2,zA 45 (.bin .add (.t 44) (kI 1)),q2 46 93 43 45,zM 42 46,qE 47 42 0,qE 48 42 1,qZ 13 14,qS 5 13 47,zM 14 48] [0,1,2,3,8,10,13,14]) (.seq (.seq (.reg [zM 49 14,qO 50 49] [0,1,2,3,8,10,13,50]) (.cond (.t 50) (.seq (.reg [zA 51 (.build zN []),qS 5 8 51,qB 9 false] [8,9]) .ret) .skip)) (.seq (.reg [qA 52 4 10,qF 53 1 52,qT 54 5 13,zA 55 (.bslice 15 5 1 [.lit (.int .i64 0),.lit (.int .i64 0),.str [],.sl 1 [],.sl 5 []] [(0,.t 54)]),zA 56 (.append 16 5 80 (.t 53) (.t 55)),qA 57 4 10,qU 1 57 56] [0,1,2,3,8,10]) (.seq (.seq (.reg [zM 58 0,zM 59 3,q2 60 94 58 59] [0,1,2,3,8,10,60]) (.cond (.t 60) (.seq (.reg [qT 61 5 10,qS 5 8 61,qB 9 true] [8,9]) .ret) .skip)) (.seq (.reg [zM 62 0,⟨none,some 63,.call 94 [.t 62,.k (.c (.str [44]))]⟩,qO 64 63] [0,1,2,3,8,10,64]) (.cond (.t 64) (.seq (.reg [zA 65 (.build zN []),qS 5 8 65,qB 9 false] [8,9]) .ret) .skip)))))))))))))
theorem K.aP:fE pZ 142 4 1 C.aP [.cell 8 true 5,.tmp 9]=true:=by kernel_rfl
def C.iR:bD:=(.seq (.reg [qZ 2 10,qB 3 false] [0,2]) (.seq (.seq (.reg [zM 7 0,zA 8 (.lens (.t 7)),zA 9 (.bin .gtr (.t 8) (kI 2000))] [0,2,9]) (.cond (.t 9) (.seq (.reg [zA 10 (.build zN []),qS 5 2 10,qB 3 false] [2,3]) .ret) .skip)) (.seq (.reg [zM 11 0,zA 12 (.build [.c (.str []),jc 0] [(0,1,.t 11)]),zA 4 (.alloc 11 [.c (.str []),jc 0]),qS 2 4 12] [0,2,4]) (.seq (.reg [⟨none,some 14,.call 93 [.t 4,kI 1]⟩,zM 13 14,qE 15 13 0,qE 16 13 1,qZ 5 12,qS 5 5 15,zM 6 16] [0,2,4,5,6]) (.seq (.seq (.reg [zM 17 6,qO 18 17,zM 19 18,zG 19 false 20 (.faddr 1 (.t 4)),zG 19 false 21 (.load false 1 (.t 20)),zG 19 false 22 (.mv (.t 0)),zG 19 false 23 (.lens (.t 22)),zG 19 false 24 (.bin .neq (.t 21) (.t 23)),qQ 25 19 24,zM 26 25,zG 26 false 27 (.load true 5 (.t 5)),⟨(some (26,false)),some 28,.call 72 [.t 27]⟩,zG 26 false 29 (.not (.t 28)),qQ 30 26 29] [2,5,30]) (.cond (.t 30) (.seq (.reg [zA 31 (.build zN []),qS 5 2 31,qB 3 false] [2,3]) .ret) .skip)) (.seq (.reg [qT 32 5 5,q1 33 96 32,qS 5 2 33,qB 3 true] [2,3]) .ret))))))
theorem K.iR:fE pZ 42 1 0 C.iR [.cell 2 true 5,.tmp 3]=true:=by kernel_rfl
theorem K.bC:fE pZ 39 4 0 C.nO [.tmp 8,.tmp 9]=true:=by kernel_rfl
def C.gm:bD:=(.seq (.reg [zA 2 (.mv (.k (.nsl 8))),qB 3 false] [0]) (.seq (.reg [zA 4 (.mv (.k (.nsl 8)))] [0,4]) (.seq (.reg [zM 9 0,zA 10 (.build [.c (.str []),jc 0] [(0,1,.t 9)]),zA 5 (.alloc 10 [.c (.str []),jc 0]),qS 2 5 10] [0,4,5]) (.seq (.block 0 (.loop (.seq (.seq (.reg [qA 11 1 5,qF 12 1 11,zM 13 0,zA 14 (.lens (.t 13)),zA 15 (.bin .lss (.t 12) (.t 14))] [0,4,5,15]) (.cond (.t 15) .skip (.exit 0))) (.block 1 (.seq (.reg [⟨none,some 17,.call 93 [.t 5,kI 1]⟩,zM 16 17,qE 18 16 0,qE 19 16 1,qZ 6 11,qS 5 6 18,zM 7 19] [0,4,5,6,7]) (.seq (.seq (.reg [zM 20 7,qO 21 20,zM 22 21,⟨(some (22,false)),some 23,.call 94 [.t 5,.k (.c (.str [59]))]⟩,zG 22 false 24 (.not (.t 23)),qQ 25 22 24] [0,4,5,6,25]) (.cond (.t 25) (.seq (.reg [zA 2 (.mv (.k (.nsl 8))),qB 3 false] [2,3]) .ret) .skip)) (.seq (.reg [qT 27 5 6,q1 28 95 27,zM 26 28,qE 29 26 0,qE 30 26 1,zA 8 (.alloc 12 [jc 0,.nsl 1,.nsl 1,jc 0,jc 0,.c (.str []),.nsl 1,.nsl 5]),qS 8 8 29,zM 7 30] [0,4,5,7,8]) (.seq (.seq (.reg [zM 31 7,qO 32 31,zM 33 32,zG 33 false 34 (.mv (.t 4)),zG 33 false 35 (.len (.t 34)),zG 33 false 36 (.bin .eql (.t 35) (kI 12)),qQ 37 33 36] [0,4,5,8,37]) (.cond (.t 37) (.seq (.reg [zA 2 (.mv (.k (.nsl 8))),qB 3 false] [2,3]) .ret) .skip)) (.reg [zM 38 4,qT 39 8 8,zA 40 (.bslice 13 8 1 [.lit (.int .i64 0),.sl 1 [],.sl 1 [],.lit (.int .i64 0),.lit (.int .i64 0),.str [],.sl 1 [],.sl 5 []] [(0,.t 39)]),zA 41 (.append 14 8 136 (.t 38) (.t 40)),zM 4 41] [0,4,5]))))))))) (.seq (.reg [zM 42 4,zM 2 42,qB 3 true] [2,3]) .ret)))))
theorem K.gm:fE pZ 41 1 0 C.gm [.tmp 2,.tmp 3]=true:=by kernel_rfl
def C.dG:bD:=(.seq (.reg [zA 2 (.alloc 10 [jc 0,.c (.str []),.nsl 1,.nsl 1,jc 0,jc 0,.c (.str []),.nsl 1,.nsl 5,.nsl 8]),qB 3 false] [0,2]) (.seq (.reg [zM 13 0,⟨none,some 14,.call 38 [.t 13,.k (.c (.str [32])),kI 5]⟩,zM 4 14] [0,2,4]) (.seq (.seq (.reg [zM 15 0,zA 16 (.lens (.t 15)),zA 17 (.bin .gtr (.t 16) (kI 2000)),zM 18 17,zG 18 false 19 (.mv (.t 4)),zG 18 false 20 (.len (.t 19)),zG 18 false 21 (.bin .neq (.t 20) (kI 5)),qQ 22 18 21] [0,2,4,22]) (.cond (.t 22) (.seq (.reg [zA 23 (.build [jc 0,.c (.str []),.nsl 1,.nsl 1,jc 0,jc 0,.c (.str []),.nsl 1,.nsl 5,.nsl 8] []),qS 10 2 23,qB 3 false] [2,3]) .ret) .skip)) (.seq (.reg [zM 25 4,zA 26 (.iaddr 1 (.t 25) (kI 0)),qF 27 1 26,⟨none,some 28,.call 39 [.t 27,kI 1,kI 5,.k (.fn 32 [])]⟩,zM 24 28,qE 29 24 0,qE 30 24 1,zM 5 29,zM 6 30] [0,2,4,5,6]) (.seq (.reg [zM 32 4,zA 33 (.iaddr 1 (.t 32) (kI 2)),qF 34 1 33,q1 35 40 34,zM 31 35,qE 36 31 0,qE 37 31 1,zM 7 36,zM 8 37] [0,2,4,5,6,7,8]) (.seq (.reg [zM 39 4,zA 40 (.iaddr 1 (.t 39) (kI 3)),qF 41 1 40,q1 42 40 41,zM 38 42,qE 43 38 0,qE 44 38 1,zM 9 43,zM 10 44] [0,2,4,5,6,7,8,9,10]) (.seq (.seq (.reg [zM 45 6,qO 46 45,zM 47 46,zG 47 false 48 (.mv (.t 8)),zG 47 false 49 (.not (.t 48)),qQ 50 47 49,zM 51 50,zG 51 false 52 (.mv (.t 10)),zG 51 false 53 (.not (.t 52)),qQ 54 51 53] [0,2,4,5,7,9,54]) (.cond (.t 54) (.seq (.reg [zA 55 (.build [jc 0,.c (.str []),.nsl 1,.nsl 1,jc 0,jc 0,.c (.str []),.nsl 1,.nsl 5,.nsl 8] []),qS 10 2 55,qB 3 false] [2,3]) .ret) .skip)) (.seq (.reg [zM 56 5,zM 57 4,zA 58 (.iaddr 1 (.t 57) (kI 1)),qF 59 1 58,zM 60 7,zM 61 9,zA 62 (.build [jc 0,.c (.str []),.nsl 1,.nsl 1,jc 0,jc 0,.c (.str []),.nsl 1,.nsl 5,.nsl 8] [(0,1,.t 56),(1,1,.t 59),(2,1,.t 60),(3,1,.t 61)]),zA 11 (.alloc 11 [jc 0,.c (.str []),.nsl 1,.nsl 1,jc 0,jc 0,.c (.str []),.nsl 1,.nsl 5,.nsl 8]),qS 10 11 62] [0,2,4,5,11]) (.seq (.reg [qB 12 false] [0,2,4,5,11]) (.cut (.seq (.reg [zM 63 5,zA 64 (.bin .eql (.t 63) (kI 4))] [0,2,4,11,64]) (.cond (.t 64) (.reg [zM 66 4,zA 67 (.iaddr 1 (.t 66) (kI 4)),qF 68 1 67,q1 69 41 68,zM 65 69,qE 70 65 0,qE 71 65 1,qA 72 9 11,qU 1 72 70,zM 12 71] [0,2,11,12]) (.reg [zM 74 4,zA 75 (.iaddr 1 (.t 74) (kI 4)),qF 76 1 75,q1 77 42 76,zM 73 77,qE 78 73 0,qE 79 73 1,qA 80 4 11,qS 5 80 78,zM 12 79] [0,2,11,12]))) (.seq (.seq (.reg [zM 81 12,qO 82 81,zM 83 82,zG 83 false 84 (.load true 10 (.t 11)),⟨(some (83,false)),some 85,.call 11 [.t 84]⟩,zG 83 false 86 (.mv (.t 0)),zG 83 false 87 (.bin .neq (.t 85) (.t 86)),qQ 88 83 87] [2,11,88]) (.cond (.t 88) (.seq (.reg [zA 89 (.build [jc 0,.c (.str []),.nsl 1,.nsl 1,jc 0,jc 0,.c (.str []),.nsl 1,.nsl 5,.nsl 8] []),qS 10 2 89,qB 3 false] [2,3]) .ret) .skip)) (.seq (.reg [qT 90 10 11,qS 10 2 90,qB 3 true] [2,3]) .ret))))))))))))
theorem K.dG:fE pZ 13 1 0 C.dG [.cell 2 true 10,.tmp 3]=true:=by kernel_rfl
def C.bU:bD:=(.seq (.reg [qB 4 false] [0,1]) (.seq (.seq (.reg [zM 6 0,qL 7 6,zM 8 1,qL 9 8,zA 10 (.bin .neq (.t 7) (.t 9))] [0,1,10]) (.cond (.t 10) (.seq (.reg [qB 4 false] [4]) .ret) .skip)) (.seq (.seq (.reg [qI 5 0] [0,1,5]) (.block 0 (.loop (.seq (.seq (.reg [zM 11 5,zM 12 0,qL 13 12,zA 14 (.bin .lss (.t 11) (.t 13))] [0,1,5,14]) (.cond (.t 14) .skip (.exit 0))) (.seq (.block 1 (.seq (.jQ [(zM 17 0,[]),(zM 18 5,[]),(qD 19 1 17 18,[0,1]),(qF 20 1 19,[0,1,2]),(zM 21 1,[]),(zM 22 5,[]),(qD 23 1 21 22,[4,5]),(qF 24 1 23,[4,5,6]),(zA 25 (.bin .neq (.t 20) (.t 24)),[0,1,2,3,4,5,6,7])] [0,1,5,25]) (.cond (.t 25) (.seq (.reg [qB 4 false] [4]) .ret) .skip))) (.reg [zM 15 5,zA 16 (.bin .add (.t 15) (kI 1)),zM 5 16] [0,1,5])))))) (.seq (.reg [qB 4 true] [4]) .ret))))
theorem K.bU:fE pZ 43 2 0 C.bU [.tmp 4]=true:=by kernel_rfl
def C.fG:bD:=(.seq (.reg [qX 2 10 0,qX 3 11 1,qB 4 false] [2,3]) (.seq (.reg [qA 5 0 2,qF 6 1 5,qA 7 0 3,qF 8 1 7,zA 9 (.bin .eql (.t 6) (.t 8)),zM 10 9,zG 10 true 11 (.faddr 1 (.t 2)),zG 10 true 12 (.load false 1 (.t 11)),zG 10 true 13 (.faddr 1 (.t 3)),zG 10 true 14 (.load false 1 (.t 13)),zG 10 true 15 (.bin .eql (.t 12) (.t 14)),qP 16 10 15,zM 17 16,zG 17 true 18 (.faddr 2 (.t 2)),zG 17 true 19 (.load false 1 (.t 18)),zG 17 true 20 (.faddr 2 (.t 3)),zG 17 true 21 (.load false 1 (.t 20)),zG 17 true 22 (.bin .eql (.t 19) (.t 21)),qP 23 17 22,zM 24 23,zG 24 true 25 (.faddr 3 (.t 2)),zG 24 true 26 (.load false 1 (.t 25)),zG 24 true 27 (.faddr 3 (.t 3)),zG 24 true 28 (.load false 1 (.t 27)),⟨(some (24,true)),some 29,.call 43 [.t 26,.t 28]⟩,qP 30 24 29,zM 31 30,zG 31 true 32 (.faddr 4 (.t 2)),zG 31 true 33 (.load false 1 (.t 32)),zG 31 true 34 (.faddr 4 (.t 3)),zG 31 true 35 (.load false 1 (.t 34)),⟨(some (31,true)),some 36,.call 97 [.t 33,.t 35]⟩,qP 37 31 36,zM 4 37] [4]) .ret))
theorem K.fG:fE pZ 44 2 0 C.fG [.tmp 4]=true:=by kernel_rfl
def C.eu:bD:=(.seq (.reg [qB 4 false] [0,1]) (.seq (.seq (.reg [zM 6 0,qL 7 6,zM 8 1,qL 9 8,zA 10 (.bin .neq (.t 7) (.t 9))] [0,1,10]) (.cond (.t 10) (.seq (.reg [qB 4 false] [4]) .ret) .skip)) (.seq (.seq (.reg [qI 5 0] [0,1,5]) (.block 0 (.loop (.seq (.seq (.reg [zM 11 5,zM 12 0,qL 13 12,zA 14 (.bin .lss (.t 11) (.t 13))] [0,1,5,14]) (.cond (.t 14) .skip (.exit 0))) (.seq (.block 1 (.seq (.jQ [(zM 17 0,[]),(zM 18 5,[]),(qD 19 5 17 18,[0,1]),(qT 20 5 19,[0,1,2]),(zM 21 1,[]),(zM 22 5,[]),(qD 23 5 21 22,[4,5]),(qT 24 5 23,[4,5,6]),(q2 25 44 20 24,[0,1,2,3,4,5,6,7]),(qO 26 25,[0,1,2,3,4,5,6,7,8])] [0,1,5,26]) (.cond (.t 26) (.seq (.reg [qB 4 false] [4]) .ret) .skip))) (.reg [zM 15 5,zA 16 (.bin .add (.t 15) (kI 1)),zM 5 16] [0,1,5])))))) (.seq (.reg [qB 4 true] [4]) .ret))))
theorem K.eu:fE pZ 97 2 0 C.eu [.tmp 4]=true:=by kernel_rfl
def C.fB:bD:=(.seq (.reg [qB 4 false] [0,1]) (.seq (.seq (.reg [zM 6 0,qL 7 6,zM 8 1,qL 9 8,zA 10 (.bin .neq (.t 7) (.t 9))] [0,1,10]) (.cond (.t 10) (.seq (.reg [qB 4 false] [4]) .ret) .skip)) (.seq (.seq (.reg [qI 5 0] [0,1,5]) (.block 0 (.loop (.seq (.seq (.reg [zM 11 5,zM 12 0,qL 13 12,zA 14 (.bin .lss (.t 11) (.t 13))] [0,1,5,14]) (.cond (.t 14) .skip (.exit 0))) (.seq (.block 1 (.seq (.jQ [(zM 17 0,[]),(zM 18 5,[]),(qD 19 8 17 18,[0,1]),(qA 20 0 19,[0,1,2]),(qF 21 1 20,[0,1,2,3]),(zM 22 1,[]),(zM 23 5,[]),(qD 24 8 22 23,[5,6]),(qA 25 0 24,[5,6,7]),(qF 26 1 25,[5,6,7,8]),(zA 27 (.bin .neq (.t 21) (.t 26)),[0,1,2,3,4,5,6,7,8,9]),(zM 28 27,[0,1,2,3,4,5,6,7,8,9,10]),(zG 28 false 29 (.mv (.t 0)),[0,1,2,3,4,5,6,7,8,9,10,11]),(zG 28 false 30 (.mv (.t 5)),[0,1,2,3,4,5,6,7,8,9,10,11]),(zG 28 false 31 (.iaddr 8 (.t 29) (.t 30)),[0,1,2,3,4,5,6,7,8,9,10,11,12,13]),(zG 28 false 32 (.faddr 1 (.t 31)),[0,1,2,3,4,5,6,7,8,9,10,11,12,13,14]),(zG 28 false 33 (.load false 1 (.t 32)),[0,1,2,3,4,5,6,7,8,9,10,11,12,13,14,15]),(zG 28 false 34 (.mv (.t 1)),[0,1,2,3,4,5,6,7,8,9,10,11]),(zG 28 false 35 (.mv (.t 5)),[0,1,2,3,4,5,6,7,8,9,10,11]),(zG 28 false 36 (.iaddr 8 (.t 34) (.t 35)),[0,1,2,3,4,5,6,7,8,9,10,11,17,18]),(zG 28 false 37 (.faddr 1 (.t 36)),[0,1,2,3,4,5,6,7,8,9,10,11,17,18,19]),(zG 28 false 38 (.load false 1 (.t 37)),[0,1,2,3,4,5,6,7,8,9,10,11,17,18,19,20]),(⟨(some (28,false)),some 39,.call 43 [.t 33,.t 38]⟩,[0,1,2,3,4,5,6,7,8,9,10,11,12,13,14,15,16,17,18,19,20,21]),(zG 28 false 40 (.not (.t 39)),[0,1,2,3,4,5,6,7,8,9,10,11,12,13,14,15,16,17,18,19,20,21,22]),(qQ 41 28 40,[0,1,2,3,4,5,6,7,8,9,10,11,12,13,14,15,16,17,18,19,20,21,22,23]),(zM 42 41,[0,1,2,3,4,5,6,7,8,9,10,11,12,13,14,15,16,17,18,19,20,21,22,23,24]),(zG 42 false 43 (.mv (.t 0)),[0,1,2,3,4,5,6,7,8,9,10,11,12,13,14,15,16,17,18,19,20,21,22,23,24,25]),(zG 42 false 44 (.mv (.t 5)),[0,1,2,3,4,5,6,7,8,9,10,11,12,13,14,15,16,17,18,19,20,21,22,23,24,25]),(zG 42 false 45 (.iaddr 8 (.t 43) (.t 44)),[0,1,2,3,4,5,6,7,8,9,10,11,12,13,14,15,16,17,18,19,20,21,22,23,24,25,26,27]),(zG 42 false 46 (.faddr 2 (.t 45)),[0,1,2,3,4,5,6,7,8,9,10,11,12,13,14,15,16,17,18,19,20,21,22,23,24,25,26,27,28]),(zG 42 false 47 (.load false 1 (.t 46)),[0,1,2,3,4,5,6,7,8,9,10,11,12,13,14,15,16,17,18,19,20,21,22,23,24,25,26,27,28,29]),(zG 42 false 48 (.mv (.t 1)),[0,1,2,3,4,5,6,7,8,9,10,11,12,13,14,15,16,17,18,19,20,21,22,23,24,25]),(zG 42 false 49 (.mv (.t 5)),[0,1,2,3,4,5,6,7,8,9,10,11,12,13,14,15,16,17,18,19,20,21,22,23,24,25]),(zG 42 false 50 (.iaddr 8 (.t 48) (.t 49)),[0,1,2,3,4,5,6,7,8,9,10,11,12,13,14,15,16,17,18,19,20,21,22,23,24,25,31,32]),(zG 42 false 51 (.faddr 2 (.t 50)),[0,1,2,3,4,5,6,7,8,9,10,11,12,13,14,15,16,17,18,19,20,21,22,23,24,25,31,32,33]),(zG 42 false 52 (.load false 1 (.t 51)),[0,1,2,3,4,5,6,7,8,9,10,11,12,13,14,15,16,17,18,19,20,21,22,23,24,25,31,32,33,34]),(⟨(some (42,false)),some 53,.call 43 [.t 47,.t 52]⟩,[0,1,2,3,4,5,6,7,8,9,10,11,12,13,14,15,16,17,18,19,20,21,22,23,24,25,26,27,28,29,30,31,32,33,34,35]),(zG 42 false 54 (.not (.t 53)),[0,1,2,3,4,5,6,7,8,9,10,11,12,13,14,15,16,17,18,19,20,21,22,23,24,25,26,27,28,29,30,31,32,33,34,35,36]),(qQ 55 42 54,[0,1,2,3,4,5,6,7,8,9,10,11,12,13,14,15,16,17,18,19,20,21,22,23,24,25,26,27,28,29,30,31,32,33,34,35,36,37]),(zM 56 55,[0,1,2,3,4,5,6,7,8,9,10,11,12,13,14,15,16,17,18,19,20,21,22,23,24,25,26,27,28,29,30,31,32,33,34,35,36,37,38]),(zG 56 false 57 (.mv (.t 0)),[0,1,2,3,4,5,6,7,8,9,10,11,12,13,14,15,16,17,18,19,20,21,22,23,24,25,26,27,28,29,30,31,32,33,34,35,36,37,38,39]),(zG 56 false 58 (.mv (.t 5)),[0,1,2,3,4,5,6,7,8,9,10,11,12,13,14,15,16,17,18,19,20,21,22,23,24,25,26,27,28,29,30,31,32,33,34,35,36,37,38,39]),(zG 56 false 59 (.iaddr 8 (.t 57) (.t 58)),[0,1,2,3,4,5,6,7,8,9,10,11,12,13,14,15,16,17,18,19,20,21,22,23,24,25,26,27,28,29,30,31,32,33,34,35,36,37,38,39,40,41]),(zG 56 false 60 (.faddr 3 (.t 59)),[0,1,2,3,4,5,6,7,8,9,10,11,12,13,14,15,16,17,18,19,20,21,22,23,24,25,26,27,28,29,30,31,32,33,34,35,36,37,38,39,40,41,42]),(zG 56 false 61 (.load true 5 (.t 60)),[0,1,2,3,4,5,6,7,8,9,10,11,12,13,14,15,16,17,18,19,20,21,22,23,24,25,26,27,28,29,30,31,32,33,34,35,36,37,38,39,40,41,42,43]),(zG 56 false 62 (.mv (.t 1)),[0,1,2,3,4,5,6,7,8,9,10,11,12,13,14,15,16,17,18,19,20,21,22,23,24,25,26,27,28,29,30,31,32,33,34,35,36,37,38,39]),(zG 56 false 63 (.mv (.t 5)),[0,1,2,3,4,5,6,7,8,9,10,11,12,13,14,15,16,17,18,19,20,21,22,23,24,25,26,27,28,29,30,31,32,33,34,35,36,37,38,39]),(zG 56 false 64 (.iaddr 8 (.t 62) (.t 63)),[0,1,2,3,4,5,6,7,8,9,10,11,12,13,14,15,16,17,18,19,20,21,22,23,24,25,26,27,28,29,30,31,32,33,34,35,36,37,38,39,45,46]),(zG 56 false 65 (.faddr 3 (.t 64)),[0,1,2,3,4,5,6,7,8,9,10,11,12,13,14,15,16,17,18,19,20,21,22,23,24,25,26,27,28,29,30,31,32,33,34,35,36,37,38,39,45,46,47]),(zG 56 false 66 (.load true 5 (.t 65)),[0,1,2,3,4,5,6,7,8,9,10,11,12,13,14,15,16,17,18,19,20,21,22,23,24,25,26,27,28,29,30,31,32,33,34,35,36,37,38,39,45,46,47,48]),(⟨(some (56,false)),some 67,.call 44 [.t 61,.t 66]⟩,[0,1,2,3,4,5,6,7,8,9,10,11,12,13,14,15,16,17,18,19,20,21,22,23,24,25,26,27,28,29,30,31,32,33,34,35,36,37,38,39,40,41,42,43,44,45,46,47,48,49]),(zG 56 false 68 (.not (.t 67)),[0,1,2,3,4,5,6,7,8,9,10,11,12,13,14,15,16,17,18,19,20,21,22,23,24,25,26,27,28,29,30,31,32,33,34,35,36,37,38,39,40,41,42,43,44,45,46,47,48,49,50]),(qQ 69 56 68,[0,1,2,3,4,5,6,7,8,9,10,11,12,13,14,15,16,17,18,19,20,21,22,23,24,25,26,27,28,29,30,31,32,33,34,35,36,37,38,39,40,41,42,43,44,45,46,47,48,49,50,51])] [0,1,5,69]) (.cond (.t 69) (.seq (.reg [qB 4 false] [4]) .ret) .skip))) (.reg [zM 15 5,zA 16 (.bin .add (.t 15) (kI 1)),zM 5 16] [0,1,5])))))) (.seq (.reg [qB 4 true] [4]) .ret))))
theorem K.fB:fE pZ 45 2 0 C.fB [.tmp 4]=true:=by kernel_rfl
def C.gW:bD:=(.seq (.reg [qX 2 10 0,qX 3 11 1,qB 4 false] [2,3]) (.seq (.reg [qA 5 0 2,qF 6 1 5,qA 7 0 3,qF 8 1 7,zA 9 (.bin .eql (.t 6) (.t 8)),zM 10 9,zG 10 true 11 (.faddr 1 (.t 2)),zG 10 true 12 (.load false 1 (.t 11)),zG 10 true 13 (.faddr 1 (.t 3)),zG 10 true 14 (.load false 1 (.t 13)),zG 10 true 15 (.bin .eql (.t 12) (.t 14)),qP 16 10 15,zM 17 16,zG 17 true 18 (.faddr 2 (.t 2)),zG 17 true 19 (.load false 1 (.t 18)),zG 17 true 20 (.faddr 2 (.t 3)),zG 17 true 21 (.load false 1 (.t 20)),⟨(some (17,true)),some 22,.call 43 [.t 19,.t 21]⟩,qP 23 17 22,zM 24 23,zG 24 true 25 (.faddr 3 (.t 2)),zG 24 true 26 (.load false 1 (.t 25)),zG 24 true 27 (.faddr 3 (.t 3)),zG 24 true 28 (.load false 1 (.t 27)),⟨(some (24,true)),some 29,.call 43 [.t 26,.t 28]⟩,qP 30 24 29,zM 31 30,zG 31 true 32 (.faddr 4 (.t 2)),zG 31 true 33 (.load true 5 (.t 32)),zG 31 true 34 (.faddr 4 (.t 3)),zG 31 true 35 (.load true 5 (.t 34)),⟨(some (31,true)),some 36,.call 44 [.t 33,.t 35]⟩,qP 37 31 36,zM 38 37,zG 38 true 39 (.faddr 9 (.t 2)),zG 38 true 40 (.load false 1 (.t 39)),zG 38 true 41 (.faddr 9 (.t 3)),zG 38 true 42 (.load false 1 (.t 41)),⟨(some (38,true)),some 43,.call 45 [.t 40,.t 42]⟩,qP 44 38 43,zM 4 44] [4]) .ret))
theorem K.gW:fE pZ 14 2 0 C.gW [.tmp 4]=true:=by kernel_rfl
def C.bG:bD:=(.seq (.reg [qB 6 false] [0,1,2]) (.seq (.reg [zM 7 1,zM 8 0,zA 9 (.bin .leq (.t 7) (.t 8)),zM 10 9,zG 10 true 11 (.mv (.t 0)),zG 10 true 12 (.mv (.t 2)),zG 10 true 13 (.bin .leq (.t 11) (.t 12)),qP 14 10 13,zM 6 14] [6]) .ret))
theorem K.bG:fE pZ 78 3 0 C.bG [.tmp 6]=true:=by kernel_rfl
def C.fJ:bD:=(.seq (.reg [qB 2 false] [0]) (.seq (.seq (.reg [qI 3 0] [0,3]) (.block 0 (.loop (.seq (.seq (.reg [zM 4 3,zM 5 0,zA 6 (.lens (.t 5)),zA 7 (.bin .lss (.t 4) (.t 6))] [0,3,7]) (.cond (.t 7) .skip (.exit 0))) (.seq (.block 1 (.seq (.reg [zM 10 0,zM 11 3,zA 12 (.idxs (.t 10) (.t 11)),zA 13 (.cint .i64 (.t 12)),⟨none,some 14,.call 78 [.t 13,kI 48,kI 57]⟩,qO 15 14,zM 16 15,zG 16 true 17 (.mv (.t 0)),zG 16 true 18 (.mv (.t 3)),zG 16 true 19 (.idxs (.t 17) (.t 18)),zG 16 true 20 (.cint .i64 (.t 19)),⟨(some (16,true)),some 21,.call 78 [.t 20,kI 97,kI 102]⟩,zG 16 true 22 (.not (.t 21)),qP 23 16 22] [0,3,23]) (.cond (.t 23) (.seq (.reg [qB 2 false] [2]) .ret) .skip))) (.reg [zM 8 3,zA 9 (.bin .add (.t 8) (kI 1)),zM 3 9] [0,3])))))) (.seq (.reg [zM 24 0,zA 25 (.lens (.t 24)),zA 26 (.bin .eql (.t 25) (kI 4)),zM 2 26] [2]) .ret)))
theorem K.fJ:fE pZ 130 1 0 C.fJ [.tmp 2]=true:=by kernel_rfl
def C.bZ:bD:=(.seq (.reg [qB 2 false] [0]) (.seq (.seq (.reg [qI 3 0] [0,3]) (.block 0 (.loop (.seq (.seq (.reg [zM 4 3,zM 5 0,qL 6 5,zA 7 (.bin .lss (.t 4) (.t 6))] [0,3,7]) (.cond (.t 7) .skip (.exit 0))) (.seq (.block 1 (.seq (.reg [zM 10 0,zM 11 3,qD 12 1 10 11,qF 13 1 12,zA 14 (.bin .neq (.t 13) (.k (.c (.str [42])))),zM 15 14,zG 15 true 16 (.mv (.t 0)),zG 15 true 17 (.mv (.t 3)),zG 15 true 18 (.iaddr 1 (.t 16) (.t 17)),zG 15 true 19 (.load false 1 (.t 18)),⟨(some (15,true)),some 20,.call 130 [.t 19]⟩,zG 15 true 21 (.not (.t 20)),qP 22 15 21] [0,3,22]) (.cond (.t 22) (.seq (.reg [qB 2 false] [2]) .ret) .skip))) (.reg [zM 8 3,zA 9 (.bin .add (.t 8) (kI 1)),zM 3 9] [0,3])))))) (.seq (.reg [zM 23 0,qL 24 23,zA 25 (.bin .leq (.t 24) (kI 4)),zM 2 25] [2]) .ret)))
theorem K.bZ:fE pZ 80 1 0 C.bZ [.tmp 2]=true:=by kernel_rfl
def C.bF:bD:=(.seq (.reg [zA 2 (.mv (.k (.c (.str []))))] [0]) (.seq (.reg [zA 3 (.mv (.k (.c (.str []))))] [0,3]) (.seq (.seq (.reg [zM 5 0,q1 6 80 5,qO 7 6] [0,3,7]) (.cond (.t 7) (.seq (.reg [zA 2 (.mv (.k (.c (.str []))))] [2]) .ret) .skip)) (.seq (.seq (.reg [qI 4 0] [0,3,4]) (.block 0 (.loop (.seq (.seq (.reg [zM 8 4,zM 9 0,qL 10 9,zA 11 (.bin .lss (.t 8) (.t 10))] [0,3,4,11]) (.cond (.t 11) .skip (.exit 0))) (.seq (.block 1 (.cut (.seq (.reg [zM 14 4,zA 15 (.bin .gtr (.t 14) (kI 0))] [0,3,4,15]) (.cond (.t 15) (.reg [zM 16 3,zA 17 (.bin .add (.t 16) (.k (.c (.str [44])))),zM 3 17] [0,3,4]) .skip)) (.seq (.reg [zM 18 0,zM 19 4,qD 20 1 18 19,qF 21 1 20,zA 22 (.bin .eql (.t 21) (.k (.c (.str [42]))))] [0,3,4,22]) (.cond (.t 22) (.reg [zM 23 3,zA 24 (.bin .add (.t 23) (.k (.c (.str [42])))),zM 3 24] [0,3,4]) (.reg [zM 25 3,zA 26 (.bin .add (.t 25) (.k (.c (.str [34])))),zM 27 0,zM 28 4,qD 29 1 27 28,qF 30 1 29,zA 31 (.bin .add (.t 26) (.t 30)),zA 32 (.bin .add (.t 31) (.k (.c (.str [34])))),zM 3 32] [0,3,4]))))) (.reg [zM 12 4,zA 13 (.bin .add (.t 12) (kI 1)),zM 4 13] [0,3,4])))))) (.seq (.reg [zM 33 3,zM 2 33] [2]) .ret)))))
theorem K.bF:fE pZ 88 1 0 C.bF [.tmp 2]=true:=by kernel_rfl
def C.fC:bD:=(.seq (.reg [zA 2 (.mv (.k (.c (.str []))))] [0]) (.seq (.seq (.reg [zM 3 0,zA 4 (.bin .lss (.t 3) (kI 0)),zM 5 4,zG 5 true 6 (.mv (.t 0)),zG 5 true 7 (.mv (.t 0)),zG 5 true 8 (.neg (.t 7)),zG 5 true 9 (.bin .eql (.t 6) (.t 8)),qP 10 5 9] [0,10]) (.cond (.t 10) (.seq (.reg [zA 2 (.mv (.k (.c (.str [45,57,50,50,51,51,55,50,48,51,54,56,53,52,55,55,53,56,48,56]))))] [2]) .ret) .skip)) (.seq (.seq (.reg [zM 11 0,zA 12 (.bin .lss (.t 11) (kI 0))] [0,12]) (.cond (.t 12) (.seq (.reg [zM 13 0,zA 14 (.neg (.t 13)),q1 15 108 14,zA 16 (.bin .add (.k (.c (.str [45]))) (.t 15)),zM 2 16] [2]) .ret) .skip)) (.seq (.seq (.reg [zM 17 0,zA 18 (.bin .lss (.t 17) (kI 10))] [0,18]) (.cond (.t 18) (.seq (.reg [zM 19 0,zA 20 (.bin .add (kI 48) (.t 19)),zA 21 (.cint .u8 (.t 20)),zA 22 (.bslice 10 1 1 [.lit (.int .u8 0)] [(0,.t 21)]),zA 23 (.cstr (.t 22)),zM 2 23] [2]) .ret) .skip)) (.seq (.jQ [(zM 24 0,[]),(zA 25 (.bin .quo (.t 24) (kI 10)),[0]),(q1 26 108 25,[0,1]),(zM 27 0,[]),(zA 28 (.bin .rem (.t 27) (kI 10)),[3]),(zA 29 (.bin .add (kI 48) (.t 28)),[3,4]),(zA 30 (.cint .u8 (.t 29)),[3,4,5]),(zA 31 (.bslice 11 1 1 [.lit (.int .u8 0)] [(0,.t 30)]),[3,4,5,6]),(zA 32 (.cstr (.t 31)),[3,4,5,6,7]),(zA 33 (.bin .add (.t 26) (.t 32)),[0,1,2,3,4,5,6,7,8]),(zM 2 33,[0,1,2,3,4,5,6,7,8,9])] [2]) .ret)))))
theorem K.fC:fE pZ 108 1 0 C.fC [.tmp 2]=true:=by kernel_rfl
def C.gK:bD:=(.seq (.reg [zA 2 (.mv (.k (.c (.str []))))] [0]) (.seq (.reg [zA 3 (.mv (.k (.c (.str [34]))))] [0,3]) (.seq (.seq (.reg [qI 4 0] [0,3,4]) (.block 0 (.loop (.seq (.seq (.reg [zM 5 4,zM 6 0,zA 7 (.lens (.t 6)),zA 8 (.bin .lss (.t 5) (.t 7))] [0,3,4,8]) (.cond (.t 8) .skip (.exit 0))) (.seq (.block 1 (.seq (.seq (.reg [zM 11 0,zM 12 4,zA 13 (.idxs (.t 11) (.t 12)),zA 14 (.bin .eql (.t 13) (.k (.c (.lit (.int .u8 34))))),zM 15 14,zG 15 false 16 (.mv (.t 0)),zG 15 false 17 (.mv (.t 4)),zG 15 false 18 (.idxs (.t 16) (.t 17)),zG 15 false 19 (.bin .eql (.t 18) (.k (.c (.lit (.int .u8 92))))),qQ 20 15 19] [0,3,4,20]) (.cond (.t 20) (.reg [zM 21 3,zA 22 (.bin .add (.t 21) (.k (.c (.str [92])))),zM 3 22] [0,3,4]) .skip)) (.reg [zM 23 3,zM 24 0,zM 25 4,zM 26 4,zA 27 (.bin .add (.t 26) (kI 1)),zA 28 (.slstr (.t 24) (some (.t 25)) (some (.t 27))),zA 29 (.bin .add (.t 23) (.t 28)),zM 3 29] [0,3,4]))) (.reg [zM 9 4,zA 10 (.bin .add (.t 9) (kI 1)),zM 4 10] [0,3,4])))))) (.seq (.reg [zM 30 3,zA 31 (.bin .add (.t 30) (.k (.c (.str [34])))),zM 2 31] [2]) .ret))))
theorem K.gK:fE pZ 135 1 0 C.gK [.tmp 2]=true:=by kernel_rfl
def C.bI:bD:=(.seq (.reg [qX 1 10 0,zA 2 (.mv (.k (.c (.str []))))] [1]) (.seq (.reg [zA 3 (.mv (.k (.c (.str []))))] [1,3]) (.seq (.seq (.reg [qA 5 0 1,qF 6 1 5] [1,3,6]) (.block 0 (.seq (.reg [zA 8 (.bin .eql (.t 6) (kI 1)),zM 7 8] [1,3,6,7]) (.cond (.t 7) (.seq (.reg [qA 9 1 1,qF 10 1 9,q1 11 108 10,zM 2 11] [2]) .ret) (.seq (.reg [zA 13 (.bin .eql (.t 6) (kI 2)),zM 12 13] [1,3,6,12]) (.cond (.t 12) (.seq (.reg [qA 14 2 1,qF 15 1 14,q1 16 135 15,zM 2 16] [2]) .ret) (.seq (.reg [zA 18 (.bin .eql (.t 6) (kI 0)),zM 17 18] [1,3,17]) (.cond (.t 17) (.seq (.reg [zA 2 (.mv (.k (.c (.str [110,117,108,108]))))] [2]) .ret) .skip)))))))) (.seq (.seq (.reg [qI 4 0] [1,3,4]) (.block 1 (.loop (.seq (.seq (.reg [zM 19 4,qA 20 4 1,qF 21 1 20,qL 22 21,zA 23 (.bin .lss (.t 19) (.t 22))] [1,3,4,23]) (.cond (.t 23) .skip (.exit 1))) (.seq (.block 2 (.cut (.seq (.reg [zM 26 4,zA 27 (.bin .gtr (.t 26) (kI 0))] [1,3,4,27]) (.cond (.t 27) (.reg [zM 28 3,zA 29 (.bin .add (.t 28) (.k (.c (.str [44])))),zM 3 29] [1,3,4]) .skip)) (.cut (.seq (.reg [qA 30 0 1,qF 31 1 30,zA 32 (.bin .eql (.t 31) (kI 4))] [1,3,4,32]) (.cond (.t 32) (.reg [zM 33 3,qA 34 3 1,qF 35 1 34,zM 36 4,qD 37 1 35 36,qF 38 1 37,q1 39 135 38,zA 40 (.bin .add (.t 33) (.t 39)),zA 41 (.bin .add (.t 40) (.k (.c (.str [58])))),zM 3 41] [1,3,4]) .skip)) (.reg [zM 42 3,qA 43 4 1,qF 44 1 43,zM 45 4,qD 46 5 44 45,qT 47 5 46,q1 48 89 47,zA 49 (.bin .add (.t 42) (.t 48)),zM 3 49] [1,3,4])))) (.reg [zM 24 4,zA 25 (.bin .add (.t 24) (kI 1)),zM 4 25] [1,3,4])))))) (.seq (.seq (.reg [qA 50 0 1,qF 51 1 50,zA 52 (.bin .eql (.t 51) (kI 4))] [3,52]) (.cond (.t 52) (.seq (.reg [zM 53 3,zA 54 (.bin .add (.k (.c (.str [123]))) (.t 53)),zA 55 (.bin .add (.t 54) (.k (.c (.str [125])))),zM 2 55] [2]) .ret) .skip)) (.seq (.reg [zM 56 3,zA 57 (.bin .add (.k (.c (.str [91]))) (.t 56)),zA 58 (.bin .add (.t 57) (.k (.c (.str [93])))),zM 2 58] [2]) .ret))))))
theorem K.bI:fE pZ 89 1 0 C.bI [.tmp 2]=true:=by kernel_rfl
def C.ay:bD:=(.seq (.reg [qX 1 10 0,qZ 2 11] [1,2]) (.seq (.reg [zA 5 (.bslice 12 5 0 [.lit (.int .i64 0),.lit (.int .i64 0),.str [],.sl 1 [],.sl 5 []] []),zM 3 5] [1,2,3]) (.seq (.seq (.reg [qI 4 0] [1,2,3,4]) (.block 0 (.loop (.seq (.seq (.reg [zM 6 4,qA 7 4 1,qF 8 1 7,qL 9 8,zA 10 (.bin .lss (.t 6) (.t 9))] [1,2,3,4,10]) (.cond (.t 10) .skip (.exit 0))) (.seq (.block 1 (.reg [zM 13 3,qA 14 4 1,qF 15 1 14,zM 16 4,qD 17 5 15 16,qT 18 5 17,q1 19 87 18,zA 20 (.bslice 13 5 1 [.lit (.int .i64 0),.lit (.int .i64 0),.str [],.sl 1 [],.sl 5 []] [(0,.t 19)]),zA 21 (.append 14 5 80 (.t 13) (.t 20)),zM 3 21] [1,2,3,4])) (.reg [zM 11 4,zA 12 (.bin .add (.t 11) (kI 1)),zM 4 12] [1,2,3,4])))))) (.seq (.jQ [(qA 22 0 1,[]),(qF 23 1 22,[0]),(qA 24 1 1,[]),(qF 25 1 24,[2]),(qA 26 2 1,[]),(qF 27 1 26,[4]),(zA 28 (.bslice 15 1 0 [.str []] []),[]),(qA 29 3 1,[]),(qF 30 1 29,[7]),(zA 31 (.append 16 1 16 (.t 28) (.t 30)),[6,7,8]),(zM 32 3,[]),(zA 33 (.build zN [(0,1,.t 23),(1,1,.t 25),(2,1,.t 27),(3,1,.t 31),(4,1,.t 32)]),[0,1,2,3,4,5,6,7,8,9,10]),(qS 5 2 33,[0,1,2,3,4,5,6,7,8,9,10,11])] [2]) .ret))))
theorem K.ay:fE pZ 87 1 0 C.ay [.cell 2 true 5]=true:=by kernel_rfl
def C.jE:bD:=(.seq (.reg [zA 0 (.mv (.k (.nsl 1)))] []) (.seq (.reg [zA 1 (.bslice 10 1 7 [.str []] [(0,.k (.c (.str []))),(1,.k (.c (.str [97,100,100]))),(2,.k (.c (.str [114,101,109,111,118,101]))),(3,.k (.c (.str [114,101,112,108,97,99,101]))),(4,.k (.c (.str [109,111,118,101]))),(5,.k (.c (.str [99,111,112,121]))),(6,.k (.c (.str [116,101,115,116])))]),zM 0 1] [0]) .ret))
theorem K.jE:fE pZ 86 0 0 C.jE [.tmp 0]=true:=by kernel_rfl
def C.kE:bD:=(.seq (.reg [qZ 2 10] [0,2]) (.seq (.reg [zM 3 0,zA 4 (.build zN [(0,1,kI 2),(2,1,.t 3)]),qS 5 2 4] [2]) .ret))
theorem K.kE:fE pZ 85 1 0 C.kE [.cell 2 true 5]=true:=by kernel_rfl
def C.iQ:bD:=(.seq (.reg [qZ 2 10] [0,2]) (.seq (.reg [zA 5 (.bslice 11 5 0 [.lit (.int .i64 0),.lit (.int .i64 0),.str [],.sl 1 [],.sl 5 []] []),zM 3 5] [0,2,3]) (.seq (.seq (.reg [qI 4 0] [0,2,3,4]) (.block 0 (.loop (.seq (.seq (.reg [zM 6 4,zM 7 0,qL 8 7,zA 9 (.bin .lss (.t 6) (.t 8))] [0,2,3,4,9]) (.cond (.t 9) .skip (.exit 0))) (.seq (.block 1 (.reg [zM 12 3,zM 13 0,zM 14 4,qD 15 1 13 14,qF 16 1 15,q1 17 85 16,zA 18 (.bslice 12 5 1 [.lit (.int .i64 0),.lit (.int .i64 0),.str [],.sl 1 [],.sl 5 []] [(0,.t 17)]),zA 19 (.append 13 5 80 (.t 12) (.t 18)),zM 3 19] [0,2,3,4])) (.reg [zM 10 4,zA 11 (.bin .add (.t 10) (kI 1)),zM 4 11] [0,2,3,4])))))) (.seq (.reg [zA 20 (.bslice 14 1 0 [.str []] []),zM 21 3,zA 22 (.build zN [(0,1,kI 3),(3,1,.t 20),(4,1,.t 21)]),qS 5 2 22] [2]) .ret))))
theorem K.iQ:fE pZ 84 1 0 C.iQ [.cell 2 true 5]=true:=by kernel_rfl
def C.iM:bD:=(.seq (.reg [qX 1 10 0,qZ 2 11] [1,2]) (.seq (.jQ [(zA 3 (.bslice 12 1 4 [.str []] [(0,.k (.c (.str [102,114,111,109]))),(1,.k (.c (.str [111,112]))),(2,.k (.c (.str [112,97,116,104]))),(3,.k (.c (.str [118,97,108,117,101])))]),[]),(qA 4 2 1,[]),(qF 5 1 4,[1]),(q1 6 84 5,[1,2]),(⟨none,some 7,.call 86 []⟩,[1,2,3]),(qA 8 0 1,[]),(qF 9 1 8,[5]),(qD 10 1 7 9,[1,2,3,4,5,6]),(qF 11 1 10,[1,2,3,4,5,6,7]),(q1 12 85 11,[1,2,3,4,5,6,7,8]),(qA 13 1 1,[]),(qF 14 1 13,[10]),(q1 15 84 14,[1,2,3,4,5,6,7,8,9,10,11]),(qA 16 3 1,[]),(qT 17 5 16,[13]),(q1 18 87 17,[1,2,3,4,5,6,7,8,9,10,11,12,13,14]),(zA 19 (.bslice 13 5 4 [.lit (.int .i64 0),.lit (.int .i64 0),.str [],.sl 1 [],.sl 5 []] [(0,.t 6),(1,.t 12),(2,.t 15),(3,.t 18)]),[1,2,3,4,5,6,7,8,9,10,11,12,13,14,15]),(zA 20 (.build zN [(0,1,kI 4),(3,1,.t 3),(4,1,.t 19)]),[0,1,2,3,4,5,6,7,8,9,10,11,12,13,14,15,16]),(qS 5 2 20,[0,1,2,3,4,5,6,7,8,9,10,11,12,13,14,15,16,17])] [2]) .ret))
theorem K.iM:fE pZ 36 1 0 C.iM [.cell 2 true 5]=true:=by kernel_rfl
def C.jV:bD:=(.seq (.reg [zA 0 (.mv (.k (.nsl 1)))] []) (.seq (.reg [zA 1 (.bslice 10 1 6 [.str []] [(0,.k (.c (.str []))),(1,.k (.c (.str [103,101,116]))),(2,.k (.c (.str [112,117,116]))),(3,.k (.c (.str [100,101,108,101,116,101]))),(4,.k (.c (.str [112,97,116,99,104]))),(5,.k (.c (.str [109,101,114,103,101])))]),zM 0 1] [0]) .ret))
theorem K.jV:fE pZ 49 0 0 C.jV [.tmp 0]=true:=by kernel_rfl
def C.dO:bD:=(.seq (.reg [qX 1 10 0,zA 2 (.mv (.k (.c (.str []))))] [1]) (.seq (.jQ [(⟨none,some 5,.call 49 []⟩,[]),(qA 6 0 1,[]),(qF 7 1 6,[1]),(qD 8 1 5 7,[0,1,2]),(qF 9 1 8,[0,1,2,3]),(zA 10 (.bin .add (.t 9) (.k (.c (.str [32])))),[0,1,2,3,4]),(qA 11 1 1,[]),(qF 12 1 11,[6]),(zA 13 (.bin .add (.t 10) (.t 12)),[0,1,2,3,4,5,6,7]),(zA 14 (.bin .add (.t 13) (.k (.c (.str [32])))),[0,1,2,3,4,5,6,7,8]),(qA 15 2 1,[]),(qF 16 1 15,[10]),(q1 17 88 16,[0,10,11]),(zA 18 (.bin .add (.t 14) (.t 17)),[0,1,2,3,4,5,6,7,8,9,10,11,12]),(zA 19 (.bin .add (.t 18) (.k (.c (.str [32])))),[0,1,2,3,4,5,6,7,8,9,10,11,12,13]),(qA 20 3 1,[]),(qF 21 1 20,[15]),(q1 22 88 21,[0,10,11,12,15,16]),(zA 23 (.bin .add (.t 19) (.t 22)),[0,1,2,3,4,5,6,7,8,9,10,11,12,13,14,15,16,17]),(zA 24 (.bin .add (.t 23) (.k (.c (.str [32])))),[0,1,2,3,4,5,6,7,8,9,10,11,12,13,14,15,16,17,18]),(zM 3 24,[0,1,2,3,4,5,6,7,8,9,10,11,12,13,14,15,16,17,18,19])] [1,3]) (.seq (.seq (.reg [qA 25 0 1,qF 26 1 25,zA 27 (.bin .eql (.t 26) (kI 4))] [1,3,27]) (.cond (.t 27) (.seq (.seq (.reg [qI 4 0] [1,3,4]) (.block 0 (.loop (.seq (.seq (.reg [zM 28 4,qA 29 9 1,qF 30 1 29,qL 31 30,zA 32 (.bin .lss (.t 28) (.t 31))] [1,3,4,32]) (.cond (.t 32) .skip (.exit 0))) (.seq (.block 1 (.reg [zM 35 3,qA 36 9 1,qF 37 1 36,zM 38 4,qD 39 8 37 38,qT 40 8 39,q1 41 36 40,q1 42 89 41,zA 43 (.bin .add (.t 35) (.t 42)),zA 44 (.bin .add (.t 43) (.k (.c (.str [59])))),zM 3 44] [1,3,4])) (.reg [zM 33 4,zA 34 (.bin .add (.t 33) (kI 1)),zM 4 34] [1,3,4])))))) (.seq (.reg [zM 45 3,zM 2 45] [2]) .ret)) .skip)) (.seq (.reg [zM 46 3,qA 47 4 1,qT 48 5 47,q1 49 89 48,zA 50 (.bin .add (.t 46) (.t 49)),zM 2 50] [2]) .ret))))
theorem K.dO:fE pZ 37 1 0 C.dO [.tmp 2]=true:=by kernel_rfl
def C.eG:bD:=(.seq (.reg [qX 1 10 0,qI 2 0] [1]) (.seq (.reg [qI 3 1] [1,3]) (.seq (.seq (.reg [qI 4 0] [1,3,4]) (.block 0 (.loop (.seq (.seq (.reg [zM 5 4,qA 6 4 1,qF 7 1 6,qL 8 7,zA 9 (.bin .lss (.t 5) (.t 8))] [1,3,4,9]) (.cond (.t 9) .skip (.exit 0))) (.seq (.block 1 (.reg [zM 12 3,qA 13 4 1,qF 14 1 13,zM 15 4,qD 16 5 14 15,qT 17 5 16,q1 18 83 17,zA 19 (.bin .add (.t 12) (.t 18)),zM 3 19] [1,3,4])) (.reg [zM 10 4,zA 11 (.bin .add (.t 10) (kI 1)),zM 4 11] [1,3,4])))))) (.seq (.reg [zM 20 3,zM 2 20] [2]) .ret))))
theorem K.eG:fE pZ 83 1 0 C.eG [.tmp 2]=true:=by kernel_rfl
def C.dD:bD:=(.seq (.reg [qB 2 false] [0]) (.seq (.seq (.reg [qI 3 0] [0,3]) (.block 0 (.loop (.seq (.seq (.reg [zM 4 3,zM 5 0,zA 6 (.lens (.t 5)),zA 7 (.bin .lss (.t 4) (.t 6))] [0,3,7]) (.cond (.t 7) .skip (.exit 0))) (.seq (.block 1 (.seq (.reg [zM 10 0,zM 11 3,zA 12 (.idxs (.t 10) (.t 11)),zA 13 (.cint .i64 (.t 12)),⟨none,some 14,.call 78 [.t 13,kI 32,kI 126]⟩,qO 15 14] [0,3,15]) (.cond (.t 15) (.seq (.reg [qB 2 false] [2]) .ret) .skip))) (.reg [zM 8 3,zA 9 (.bin .add (.t 8) (kI 1)),zM 3 9] [0,3])))))) (.seq (.reg [zM 16 0,zA 17 (.lens (.t 16)),zA 18 (.bin .leq (.t 17) (kI 12)),zM 2 18] [2]) .ret)))
theorem K.dD:fE pZ 132 1 0 C.dD [.tmp 2]=true:=by kernel_rfl
def C.gX:bD:=(.seq (.reg [qB 2 false] [0]) (.seq (.seq (.reg [qI 3 0] [0,3]) (.block 0 (.loop (.seq (.seq (.reg [zM 4 3,zM 5 0,qL 6 5,zA 7 (.bin .lss (.t 4) (.t 6))] [0,3,7]) (.cond (.t 7) .skip (.exit 0))) (.seq (.block 1 (.seq (.jQ [(zM 10 0,[]),(zM 11 3,[]),(qD 12 1 10 11,[0,1]),(qF 13 1 12,[0,1,2]),(q1 14 132 13,[0,1,2,3]),(qO 15 14,[0,1,2,3,4]),(zM 16 15,[0,1,2,3,4,5]),(zG 16 false 17 (.mv (.t 3)),[0,1,2,3,4,5,6]),(zG 16 false 18 (.bin .gtr (.t 17) (kI 0)),[0,1,2,3,4,5,6,7]),(zG 16 false 19 (.mv (.t 18)),[0,1,2,3,4,5,6,7,8]),(zG 19 true 20 (.mv (.t 0)),[0,1,2,3,4,5,6,7,8,9]),(zG 19 true 21 (.mv (.t 3)),[0,1,2,3,4,5,6,7,8,9]),(zG 19 true 22 (.iaddr 1 (.t 20) (.t 21)),[0,1,2,3,4,5,6,7,8,9,10,11]),(zG 19 true 23 (.load false 1 (.t 22)),[0,1,2,3,4,5,6,7,8,9,10,11,12]),(zG 19 true 24 (.mv (.t 0)),[0,1,2,3,4,5,6,7,8,9]),(zG 19 true 25 (.mv (.t 3)),[0,1,2,3,4,5,6,7,8,9]),(zG 19 true 26 (.bin .sub (.t 25) (kI 1)),[0,1,2,3,4,5,6,7,8,9,15]),(zG 19 true 27 (.iaddr 1 (.t 24) (.t 26)),[0,1,2,3,4,5,6,7,8,9,14,15,16]),(zG 19 true 28 (.load false 1 (.t 27)),[0,1,2,3,4,5,6,7,8,9,14,15,16,17]),(zG 19 true 29 (.bin .leq (.t 23) (.t 28)),[0,1,2,3,4,5,6,7,8,9,10,11,12,13,14,15,16,17,18]),(zG 16 false 30 (.pick (.t 19) (.t 29) (kB false)),[0,1,2,3,4,5,6,7,8,9,10,11,12,13,14,15,16,17,18,19]),(qQ 31 16 30,[0,1,2,3,4,5,6,7,8,9,10,11,12,13,14,15,16,17,18,19,20])] [0,3,31]) (.cond (.t 31) (.seq (.reg [qB 2 false] [2]) .ret) .skip))) (.reg [zM 8 3,zA 9 (.bin .add (.t 8) (kI 1)),zM 3 9] [0,3])))))) (.seq (.reg [qB 2 true] [2]) .ret)))
theorem K.gX:fE pZ 134 1 0 C.gX [.tmp 2]=true:=by kernel_rfl
def C.gB:bD:=(.seq (.reg [qX 2 10 0,qB 4 false] [1,2]) (.seq (.seq (.reg [qI 5 0] [1,2,5]) (.block 0 (.loop (.seq (.seq (.reg [zM 6 5,qA 7 4 2,qF 8 1 7,qL 9 8,zA 10 (.bin .lss (.t 6) (.t 9))] [1,2,5,10]) (.cond (.t 10) .skip (.exit 0))) (.seq (.block 1 (.seq (.reg [qA 13 4 2,qF 14 1 13,zM 15 5,qD 16 5 14 15,qT 17 5 16,zM 18 1,zA 19 (.bin .sub (.t 18) (kI 1)),q2 20 82 17 19,qO 21 20] [1,2,5,21]) (.cond (.t 21) (.seq (.reg [qB 4 false] [4]) .ret) .skip))) (.reg [zM 11 5,zA 12 (.bin .add (.t 11) (kI 1)),zM 5 12] [1,2,5])))))) (.seq (.reg [qB 4 true] [4]) .ret)))
theorem K.gB:fE pZ 133 2 0 C.gB [.tmp 4]=true:=by kernel_rfl
def C.bW:bD:=(.seq (.reg [qX 2 10 0,qB 4 false] [1,2]) (.cut (.seq (.reg [zM 5 1,zA 6 (.bin .eql (.t 5) (kI 0)),zM 7 6,zG 7 false 8 (.faddr 4 (.t 2)),zG 7 false 9 (.load false 1 (.t 8)),zG 7 false 10 (.len (.t 9)),zG 7 false 11 (.bin .gtr (.t 10) (kI 6)),qQ 12 7 11,zM 13 12,zG 13 false 14 (.faddr 0 (.t 2)),zG 13 false 15 (.load false 1 (.t 14)),zG 13 false 16 (.bin .neq (.t 15) (kI 1)),zG 13 false 17 (.mv (.t 16)),zG 17 true 18 (.faddr 1 (.t 2)),zG 17 true 19 (.load false 1 (.t 18)),zG 17 true 20 (.bin .neq (.t 19) (kI 0)),zG 13 false 21 (.pick (.t 17) (.t 20) (kB false)),qQ 22 13 21,zM 23 22,zG 23 false 24 (.faddr 0 (.t 2)),zG 23 false 25 (.load false 1 (.t 24)),zG 23 false 26 (.bin .neq (.t 25) (kI 2)),zG 23 false 27 (.mv (.t 26)),zG 27 true 28 (.faddr 2 (.t 2)),zG 27 true 29 (.load false 1 (.t 28)),zG 27 true 30 (.bin .neq (.t 29) (.k (.c (.str [])))),zG 23 false 31 (.pick (.t 27) (.t 30) (kB false)),qQ 32 23 31,zM 33 32,zG 33 false 34 (.faddr 0 (.t 2)),zG 33 false 35 (.load false 1 (.t 34)),zG 33 false 36 (.bin .neq (.t 35) (kI 4)),zG 33 false 37 (.mv (.t 36)),zG 37 true 38 (.faddr 3 (.t 2)),zG 37 true 39 (.load false 1 (.t 38)),zG 37 true 40 (.len (.t 39)),zG 37 true 41 (.bin .gtr (.t 40) (kI 0)),zG 33 false 42 (.pick (.t 37) (.t 41) (kB false)),qQ 43 33 42,zM 44 43,zG 44 false 45 (.faddr 0 (.t 2)),zG 44 false 46 (.load false 1 (.t 45)),zG 44 false 47 (.bin .lss (.t 46) (kI 3)),zG 44 false 48 (.mv (.t 47)),zG 48 true 49 (.faddr 4 (.t 2)),zG 48 true 50 (.load false 1 (.t 49)),zG 48 true 51 (.len (.t 50)),zG 48 true 52 (.bin .gtr (.t 51) (kI 0)),zG 44 false 53 (.pick (.t 48) (.t 52) (kB false)),qQ 54 44 53] [1,2,54]) (.cond (.t 54) (.seq (.reg [qB 4 false] [4]) .ret) .skip)) (.seq (.seq (.reg [qA 55 0 2,qF 56 1 55] [1,2,56]) (.block 0 (.seq (.reg [zA 58 (.bin .eql (.t 56) (kI 1)),zM 57 58] [1,2,56,57]) (.cond (.t 57) (.seq (.reg [qA 59 1 2,qF 60 1 59,⟨none,some 61,.call 78 [.t 60,kI (-999999),kI 999999]⟩,zM 4 61] [4]) .ret) (.seq (.reg [zA 63 (.bin .eql (.t 56) (kI 2)),zM 62 63] [1,2,56,62]) (.cond (.t 62) (.seq (.reg [qA 64 2 2,qF 65 1 64,q1 66 132 65,zM 4 66] [4]) .ret) (.seq (.reg [zA 68 (.bin .eql (.t 56) (kI 3)),zM 67 68] [1,2,56,67]) (.cond (.t 67) (.seq (.reg [qT 69 5 2,zM 70 1,q2 71 133 69 70,zM 4 71] [4]) .ret) (.seq (.reg [zA 73 (.bin .eql (.t 56) (kI 4)),zM 72 73] [1,2,72]) (.cond (.t 72) (.seq (.reg [qA 74 3 2,qF 75 1 74,qL 76 75,qA 77 4 2,qF 78 1 77,qL 79 78,zA 80 (.bin .eql (.t 76) (.t 79)),zM 81 80,zG 81 true 82 (.faddr 3 (.t 2)),zG 81 true 83 (.load false 1 (.t 82)),⟨(some (81,true)),some 84,.call 134 [.t 83]⟩,qP 85 81 84,zM 86 85,zG 86 true 87 (.load true 5 (.t 2)),zG 86 true 88 (.mv (.t 1)),⟨(some (86,true)),some 89,.call 133 [.t 87,.t 88]⟩,qP 90 86 89,zM 4 90] [4]) .ret) .skip)))))))))) (.seq (.reg [qA 91 0 2,qF 92 1 91,zA 93 (.bin .eql (.t 92) (kI 0)),zM 4 93] [4]) .ret))))
theorem K.bW:fE pZ 82 2 0 C.bW [.tmp 4]=true:=by kernel_rfl
def C.aT:bD:=(.seq (.reg [qX 1 10 0,qB 2 false] [1]) (.seq (.reg [qT 3 5 1,⟨none,some 4,.call 82 [.t 3,kI 5]⟩,zM 5 4,zG 5 true 6 (.load true 5 (.t 1)),⟨(some (5,true)),some 7,.call 83 [.t 6]⟩,zG 5 true 8 (.bin .leq (.t 7) (kI 40)),qP 9 5 8,zM 2 9] [2]) .ret))
theorem K.aT:fE pZ 35 1 0 C.aT [.tmp 2]=true:=by kernel_rfl
def C.di:bD:=(.seq (.reg [qB 2 false] [0]) (.seq (.seq (.reg [qI 3 0] [0,3]) (.block 0 (.loop (.seq (.seq (.reg [zM 4 3,zM 5 0,zA 6 (.lens (.t 5)),zA 7 (.bin .lss (.t 4) (.t 6))] [0,3,7]) (.cond (.t 7) .skip (.exit 0))) (.seq (.block 1 (.seq (.reg [zM 10 0,zM 11 3,zA 12 (.idxs (.t 10) (.t 11)),zA 13 (.cint .i64 (.t 12)),⟨none,some 14,.call 78 [.t 13,kI 97,kI 122]⟩,qO 15 14,zM 16 15,zG 16 true 17 (.mv (.t 0)),zG 16 true 18 (.mv (.t 3)),zG 16 true 19 (.idxs (.t 17) (.t 18)),zG 16 true 20 (.cint .i64 (.t 19)),⟨(some (16,true)),some 21,.call 78 [.t 20,kI 48,kI 57]⟩,zG 16 true 22 (.not (.t 21)),qP 23 16 22] [0,3,23]) (.cond (.t 23) (.seq (.reg [qB 2 false] [2]) .ret) .skip))) (.reg [zM 8 3,zA 9 (.bin .add (.t 8) (kI 1)),zM 3 9] [0,3])))))) (.seq (.reg [zM 24 0,zA 25 (.lens (.t 24)),⟨none,some 26,.call 78 [.t 25,kI 1,kI 8]⟩,zM 2 26] [2]) .ret)))
theorem K.di:fE pZ 79 1 0 C.di [.tmp 2]=true:=by kernel_rfl
def C.dM:bD:=(.seq (.reg [qB 2 false] [0]) (.seq (.seq (.reg [qI 3 0] [0,3]) (.block 0 (.loop (.seq (.seq (.reg [zM 4 3,zM 5 0,qL 6 5,zA 7 (.bin .lss (.t 4) (.t 6))] [0,3,7]) (.cond (.t 7) .skip (.exit 0))) (.seq (.block 1 (.seq (.reg [zM 10 0,zM 11 3,qD 12 1 10 11,qF 13 1 12,q1 14 132 13,qO 15 14] [0,3,15]) (.cond (.t 15) (.seq (.reg [qB 2 false] [2]) .ret) .skip))) (.reg [zM 8 3,zA 9 (.bin .add (.t 8) (kI 1)),zM 3 9] [0,3])))))) (.seq (.reg [zM 16 0,qL 17 16,zA 18 (.bin .leq (.t 17) (kI 5)),zM 2 18] [2]) .ret)))
theorem K.dM:fE pZ 174 1 0 C.dM [.tmp 2]=true:=by kernel_rfl
def C.ig:bD:=(.seq (.reg [qX 1 10 0,qB 2 false] [1]) (.seq (.reg [qA 3 0 1,qF 4 1 3,⟨none,some 5,.call 78 [.t 4,kI 1,kI 6]⟩,zM 6 5,zG 6 true 7 (.faddr 1 (.t 1)),zG 6 true 8 (.load false 1 (.t 7)),⟨(some (6,true)),some 9,.call 174 [.t 8]⟩,qP 10 6 9,zM 11 10,zG 11 true 12 (.faddr 2 (.t 1)),zG 11 true 13 (.load false 1 (.t 12)),⟨(some (11,true)),some 14,.call 174 [.t 13]⟩,qP 15 11 14,zM 16 15,zG 16 true 17 (.faddr 3 (.t 1)),zG 16 true 18 (.load true 5 (.t 17)),⟨(some (16,true)),some 19,.call 35 [.t 18]⟩,qP 20 16 19,zM 2 20] [2]) .ret))
theorem K.ig:fE pZ 131 1 0 C.ig [.tmp 2]=true:=by kernel_rfl
def C.bY:bD:=(.seq (.reg [qB 2 false] [0]) (.seq (.seq (.reg [qI 3 0] [0,3]) (.block 0 (.loop (.seq (.seq (.reg [zM 4 3,zM 5 0,qL 6 5,zA 7 (.bin .lss (.t 4) (.t 6))] [0,3,7]) (.cond (.t 7) .skip (.exit 0))) (.seq (.block 1 (.seq (.reg [zM 10 0,zM 11 3,qD 12 8 10 11,qT 13 8 12,q1 14 131 13,qO 15 14] [0,3,15]) (.cond (.t 15) (.seq (.reg [qB 2 false] [2]) .ret) .skip))) (.reg [zM 8 3,zA 9 (.bin .add (.t 8) (kI 1)),zM 3 9] [0,3])))))) (.seq (.reg [zM 16 0,qL 17 16,zA 18 (.bin .leq (.t 17) (kI 12)),zM 2 18] [2]) .ret)))
theorem K.bY:fE pZ 81 1 0 C.bY [.tmp 2]=true:=by kernel_rfl
def C.fD:bD:=(.seq (.reg [qX 1 10 0,qB 2 false] [1]) (.seq (.reg [qA 3 0 1,qF 4 1 3,⟨none,some 5,.call 78 [.t 4,kI 1,kI 5]⟩,zM 6 5,zG 6 true 7 (.faddr 1 (.t 1)),zG 6 true 8 (.load false 1 (.t 7)),⟨(some (6,true)),some 9,.call 79 [.t 8]⟩,qP 10 6 9,zM 11 10,zG 11 true 12 (.faddr 2 (.t 1)),zG 11 true 13 (.load false 1 (.t 12)),⟨(some (11,true)),some 14,.call 80 [.t 13]⟩,qP 15 11 14,zM 16 15,zG 16 true 17 (.faddr 3 (.t 1)),zG 16 true 18 (.load false 1 (.t 17)),⟨(some (16,true)),some 19,.call 80 [.t 18]⟩,qP 20 16 19,zM 21 20,zG 21 true 22 (.faddr 4 (.t 1)),zG 21 true 23 (.load true 5 (.t 22)),⟨(some (21,true)),some 24,.call 35 [.t 23]⟩,qP 25 21 24,zM 26 25,zG 26 true 27 (.faddr 9 (.t 1)),zG 26 true 28 (.load false 1 (.t 27)),⟨(some (26,true)),some 29,.call 81 [.t 28]⟩,qP 30 26 29,zM 2 30] [2]) .ret))
theorem K.fD:fE pZ 34 1 0 C.fD [.tmp 2]=true:=by kernel_rfl
def C.aF:bD:=(.seq (.reg [qX 1 10 0,zA 2 (.mv (.k (.c (.str []))))] [1]) (.cut (.seq (.reg [qT 4 10 1,q1 5 34 4,qO 6 5,zM 7 6,zG 7 false 8 (.faddr 4 (.t 1)),zG 7 false 9 (.faddr 0 (.t 8)),zG 7 false 10 (.load false 1 (.t 9)),zG 7 false 11 (.bin .neq (.t 10) (kI 0)),zG 7 false 12 (.mv (.t 11)),zG 12 true 13 (.faddr 0 (.t 1)),zG 12 true 14 (.load false 1 (.t 13)),zG 12 true 15 (.bin .neq (.t 14) (kI 2)),zG 7 false 16 (.pick (.t 12) (.t 15) (kB false)),zG 7 false 17 (.mv (.t 16)),zG 17 true 18 (.faddr 0 (.t 1)),zG 17 true 19 (.load false 1 (.t 18)),zG 17 true 20 (.bin .neq (.t 19) (kI 5)),zG 7 false 21 (.pick (.t 17) (.t 20) (kB false)),qQ 22 7 21,zM 23 22,zG 23 false 24 (.faddr 9 (.t 1)),zG 23 false 25 (.load false 1 (.t 24)),zG 23 false 26 (.len (.t 25)),zG 23 false 27 (.bin .gtr (.t 26) (kI 0)),zG 23 false 28 (.mv (.t 27)),zG 28 true 29 (.faddr 0 (.t 1)),zG 28 true 30 (.load false 1 (.t 29)),zG 28 true 31 (.bin .neq (.t 30) (kI 4)),zG 23 false 32 (.pick (.t 28) (.t 31) (kB false)),qQ 33 23 32] [1,33]) (.cond (.t 33) (.seq (.reg [zA 2 (.mv (.k (.c (.str []))))] [2]) .ret) .skip)) (.seq (.seq (.reg [qI 3 0] [1,3]) (.block 0 (.loop (.seq (.seq (.reg [zM 34 3,qA 35 9 1,qF 36 1 35,qL 37 36,zA 38 (.bin .lss (.t 34) (.t 37))] [1,3,38]) (.cond (.t 38) .skip (.exit 0))) (.seq (.block 1 (.seq (.reg [qA 41 9 1,qF 42 1 41,zM 43 3,qD 44 8 42 43,qT 45 8 44,q1 46 36 45,q1 47 35 46,qO 48 47] [1,3,48]) (.cond (.t 48) (.seq (.reg [zA 2 (.mv (.k (.c (.str []))))] [2]) .ret) .skip))) (.reg [zM 39 3,zA 40 (.bin .add (.t 39) (kI 1)),zM 3 40] [1,3])))))) (.seq (.reg [qT 49 10 1,q1 50 37 49,zM 2 50] [2]) .ret))))
theorem K.aF:fE pZ 12 1 0 C.aF [.tmp 2]=true:=by kernel_rfl
def C.aj:bD:=(.seq (.reg [qI 4 0] [0,1]) (.seq (.reg [zM 7 0,zM 8 0,qN 9 8,qA 10 1 9,qF 11 1 10,zA 12 (.bin .add (.t 11) (kI 1)),qN 13 7,qA 14 1 13,qU 1 14 12] [0,1]) (.seq (.seq (.reg [zM 15 1,zA 16 (.bin .lss (.t 15) (kI 1)),zM 17 16,zG 17 false 18 (.mv (.t 0)),zG 17 false 19 (.nilck (.t 18)),zG 17 false 20 (.faddr 0 (.t 19)),zG 17 false 21 (.load false 1 (.t 20)),zG 17 false 22 (.len (.t 21)),zG 17 false 23 (.bin .eql (.t 22) (kI 0)),qQ 24 17 23] [0,1,24]) (.cond (.t 24) (.seq (.reg [qI 4 0] [4]) .ret) .skip)) (.seq (.reg [zM 25 0,qN 26 25,qA 27 1 26,qF 28 1 27,zA 29 (.bin .sub (.t 28) (kI 1)),zM 5 29] [0,1,5]) (.seq (.seq (.reg [zM 30 5,zM 31 0,qN 32 31,qA 33 0 32,qF 34 1 33,qL 35 34,zA 36 (.bin .lss (.t 30) (.t 35))] [0,1,5,36]) (.cond (.t 36) (.seq (.reg [zM 37 0,qN 38 37,qA 39 0 38,qF 40 1 39,zM 41 5,qD 42 1 40 41,qF 43 1 42,zA 44 (.cint .i64 (.t 43)),zM 45 1,zA 46 (.bin .rem (.t 44) (.t 45)),zM 4 46] [4]) .ret) .skip)) (.seq (.jQ [(zM 47 0,[]),(qN 48 47,[0]),(qA 49 0 48,[0,1]),(qF 50 1 49,[0,1,2]),(zM 51 5,[]),(zM 52 0,[]),(qN 53 52,[5]),(qA 54 0 53,[5,6]),(qF 55 1 54,[5,6,7]),(qL 56 55,[5,6,7,8]),(zA 57 (.bin .rem (.t 51) (.t 56)),[4,5,6,7,8,9]),(qD 58 1 50 57,[0,1,2,3,4,5,6,7,8,9,10]),(qF 59 1 58,[0,1,2,3,4,5,6,7,8,9,10,11]),(zA 60 (.cint .i64 (.t 59)),[0,1,2,3,4,5,6,7,8,9,10,11,12]),(zA 61 (.bin .mul (.t 60) (kI 131)),[0,1,2,3,4,5,6,7,8,9,10,11,12,13]),(zM 62 0,[]),(qN 63 62,[15]),(qA 64 0 63,[15,16]),(qF 65 1 64,[15,16,17]),(zM 66 5,[]),(zA 67 (.bin .mul (.t 66) (kI 7)),[19]),(zA 68 (.bin .add (.t 67) (kI 3)),[19,20]),(zM 69 0,[]),(qN 70 69,[22]),(qA 71 0 70,[22,23]),(qF 72 1 71,[22,23,24]),(qL 73 72,[22,23,24,25]),(zA 74 (.bin .rem (.t 68) (.t 73)),[19,20,21,22,23,24,25,26]),(qD 75 1 65 74,[15,16,17,18,19,20,21,22,23,24,25,26,27]),(qF 76 1 75,[15,16,17,18,19,20,21,22,23,24,25,26,27,28]),(zA 77 (.cint .i64 (.t 76)),[15,16,17,18,19,20,21,22,23,24,25,26,27,28,29]),(zA 78 (.bin .mul (.t 77) (kI 1117)),[15,16,17,18,19,20,21,22,23,24,25,26,27,28,29,30]),(zA 79 (.bin .add (.t 61) (.t 78)),[0,1,2,3,4,5,6,7,8,9,10,11,12,13,14,15,16,17,18,19,20,21,22,23,24,25,26,27,28,29,30,31]),(zM 80 5,[]),(zA 81 (.bin .mul (.t 80) (kI 29)),[33]),(zA 82 (.bin .add (.t 79) (.t 81)),[0,1,2,3,4,5,6,7,8,9,10,11,12,13,14,15,16,17,18,19,20,21,22,23,24,25,26,27,28,29,30,31,32,33,34]),(zM 83 5,[]),(zM 84 0,[]),(qN 85 84,[37]),(qA 86 0 85,[37,38]),(qF 87 1 86,[37,38,39]),(qL 88 87,[37,38,39,40]),(zA 89 (.bin .quo (.t 83) (.t 88)),[36,37,38,39,40,41]),(zA 90 (.bin .mul (.t 89) (kI 53)),[36,37,38,39,40,41,42]),(zA 91 (.bin .add (.t 82) (.t 90)),[0,1,2,3,4,5,6,7,8,9,10,11,12,13,14,15,16,17,18,19,20,21,22,23,24,25,26,27,28,29,30,31,32,33,34,35,36,37,38,39,40,41,42,43]),(zM 6 91,[0,1,2,3,4,5,6,7,8,9,10,11,12,13,14,15,16,17,18,19,20,21,22,23,24,25,26,27,28,29,30,31,32,33,34,35,36,37,38,39,40,41,42,43,44])] [1,6]) (.seq (.reg [zM 92 6,zM 93 6,zA 94 (.bin .quo (.t 93) (kI 64)),zA 95 (.bin .xor (.t 92) (.t 94)),zM 6 95] [1,6]) (.seq (.reg [zM 96 6,zM 97 1,zA 98 (.bin .rem (.t 96) (.t 97)),zM 4 98] [4]) .ret))))))))
theorem K.aj:fE pZ 46 2 1 C.aj [.tmp 4]=true:=by kernel_rfl
def C.dA:bD:=(.seq (.reg [zA 4 (.mv (.k (.c (.str []))))] [0,1]) (.seq (.reg [zM 5 1,zM 6 0,zM 7 1,qL 8 7,q2 9 46 6 8,qD 10 1 5 9,qF 11 1 10,zM 4 11] [4]) .ret))
theorem K.dA:fE pZ 53 2 1 C.dA [.tmp 4]=true:=by kernel_rfl
def C.iV:bD:=(.seq (.reg [zA 2 (.mv (.k (.c (.lit (.pointer none)))))] [0]) (.seq (.seq (.reg [zM 3 0,qL 4 3,zA 5 (.bin .gtr (.t 4) (kI 2000))] [0,5]) (.cond (.t 5) (.reg [zM 6 0,zA 7 (.slsl 1 (.t 6) none (some (kI 2000))),zM 0 7] [0]) .skip)) (.seq (.reg [zM 8 0,zA 9 (.build [.nsl 1,jc 0] [(0,1,.t 8)]),qX 10 10 9,zM 2 10] [2]) .ret)))
theorem K.iV:fE pZ 27 1 0 C.iV [.tmp 2]=true:=by kernel_rfl
def C.dH:bD:=(.seq (.reg [qI 4 0] [0,1]) (.seq (.reg [zM 5 1,zM 6 0,zM 7 1,qL 8 7,q2 9 46 6 8,qD 10 1 5 9,qF 11 1 10,zM 4 11] [4]) .ret))
theorem K.dH:fE pZ 54 2 1 C.dH [.tmp 4]=true:=by kernel_rfl
def C.dU:bD:=(.seq (.reg [qX 2 10 0,qI 4 0] [1,2]) (.seq (.seq (.reg [qI 5 0] [1,2,5]) (.block 0 (.loop (.seq (.seq (.reg [zM 6 5,qA 7 4 2,qF 8 1 7,qL 9 8,zA 10 (.bin .lss (.t 6) (.t 9))] [1,2,5,10]) (.cond (.t 10) .skip (.exit 0))) (.seq (.block 1 (.seq (.reg [qA 13 0 2,qF 14 1 13,zA 15 (.bin .eql (.t 14) (kI 4)),zM 16 15,zG 16 true 17 (.faddr 3 (.t 2)),zG 16 true 18 (.load false 1 (.t 17)),zG 16 true 19 (.mv (.t 5)),zG 16 true 20 (.iaddr 1 (.t 18) (.t 19)),zG 16 true 21 (.load false 1 (.t 20)),zG 16 true 22 (.mv (.t 1)),zG 16 true 23 (.bin .eql (.t 21) (.t 22)),qP 24 16 23,zM 25 24,zG 25 false 26 (.faddr 0 (.t 2)),zG 25 false 27 (.load false 1 (.t 26)),zG 25 false 28 (.bin .eql (.t 27) (kI 3)),zG 25 false 29 (.mv (.t 28)),zG 29 true 30 (.mv (.t 5)),⟨(some (29,true)),some 31,.call 108 [.t 30]⟩,zG 29 true 32 (.mv (.t 1)),zG 29 true 33 (.bin .eql (.t 31) (.t 32)),zG 25 false 34 (.pick (.t 29) (.t 33) (kB false)),qQ 35 25 34] [1,2,5,35]) (.cond (.t 35) (.seq (.reg [zM 36 5,zM 4 36] [4]) .ret) .skip))) (.reg [zM 11 5,zA 12 (.bin .add (.t 11) (kI 1)),zM 5 12] [1,2,5])))))) (.seq (.reg [qI 4 (-1)] [4]) .ret)))
theorem K.dU:fE pZ 208 2 0 C.dU [.tmp 4]=true:=by kernel_rfl
def C.fP:bD:=(.seq (.reg [qX 2 10 0,qI 4 0,qB 5 false] [1,2]) (.seq (.reg [qT 8 5 2,zM 9 1,q2 10 208 8 9,zM 6 10] [1,2,6]) (.seq (.seq (.reg [zM 11 6,zA 12 (.bin .geq (.t 11) (kI 0))] [1,2,6,12]) (.cond (.t 12) (.seq (.jQ [(zM 13 6,[]),(qA 14 0 2,[]),(qF 15 1 14,[1]),(zA 16 (.bin .eql (.t 15) (kI 4)),[1,2]),(zM 4 13,[0]),(zM 5 16,[0,1,2,3,4])] [4,5]) .ret) .skip)) (.seq (.seq (.reg [qA 17 0 2,qF 18 1 17,zA 19 (.bin .eql (.t 18) (kI 3)),zM 20 19,zG 20 true 21 (.mv (.t 1)),zG 20 true 22 (.bin .eql (.t 21) (.k (.c (.str [45])))),zG 20 true 23 (.mv (.t 22)),zG 23 false 24 (.mv (.t 1)),zG 23 false 25 (.faddr 4 (.t 2)),zG 23 false 26 (.load false 1 (.t 25)),zG 23 false 27 (.len (.t 26)),⟨(some (23,false)),some 28,.call 108 [.t 27]⟩,zG 23 false 29 (.bin .eql (.t 24) (.t 28)),zG 20 true 30 (.pick (.t 23) (kB true) (.t 29)),qP 31 20 30] [1,2,31]) (.cond (.t 31) (.seq (.reg [qA 32 4 2,qF 33 1 32,qL 34 33,zM 4 34,qB 5 false] [4,5]) .ret) .skip)) (.seq (.seq (.reg [qI 7 0] [1,2,7]) (.block 0 (.loop (.seq (.seq (.reg [qA 35 0 2,qF 36 1 35,zA 37 (.bin .eql (.t 36) (kI 4)),zM 38 37,zG 38 true 39 (.mv (.t 7)),zG 38 true 40 (.faddr 4 (.t 2)),zG 38 true 41 (.load false 1 (.t 40)),zG 38 true 42 (.len (.t 41)),zG 38 true 43 (.bin .leq (.t 39) (.t 42)),qP 44 38 43] [1,2,7,44]) (.cond (.t 44) .skip (.exit 0))) (.seq (.block 1 (.seq (.reg [zM 47 7,qA 48 4 2,qF 49 1 48,qL 50 49,zA 51 (.bin .eql (.t 47) (.t 50)),zM 52 51,zG 52 false 53 (.mv (.t 1)),zG 52 false 54 (.faddr 3 (.t 2)),zG 52 false 55 (.load false 1 (.t 54)),zG 52 false 56 (.mv (.t 7)),zG 52 false 57 (.iaddr 1 (.t 55) (.t 56)),zG 52 false 58 (.load false 1 (.t 57)),zG 52 false 59 (.bin .lss (.t 53) (.t 58)),qQ 60 52 59] [1,2,7,60]) (.cond (.t 60) (.seq (.reg [zM 61 7,zM 4 61,qB 5 false] [4,5]) .ret) .skip))) (.reg [zM 45 7,zA 46 (.bin .add (.t 45) (kI 1)),zM 7 46] [1,2,7])))))) (.seq (.reg [qI 4 (-1),qB 5 false] [4,5]) .ret))))))
theorem K.fP:fE pZ 238 2 0 C.fP [.tmp 4,.tmp 5]=true:=by kernel_rfl
def C.iC:bD:=(.seq (.reg [qX 3 10 0,qX 5 11 2,qZ 6 12] [1,3,5,6]) (.seq (.reg [qT 8 5 3,q1 9 87 8,qZ 7 13,qS 5 7 9] [1,5,6,7]) (.seq (.jQ [(qA 10 4 7,[]),(qF 11 1 10,[0]),(zM 12 1,[]),(qT 13 5 5,[]),(q1 14 87 13,[3]),(qD 15 5 11 12,[0,1,2,3,4]),(qS 5 15 14,[0,1,2,3,4,5])] [6,7]) (.seq (.reg [qT 16 5 7,qS 5 6 16] [6]) .ret))))
theorem K.iC:fE pZ 235 3 0 C.iC [.cell 6 true 5]=true:=by kernel_rfl
def C.gY:bD:=(.seq (.reg [qX 3 10 0,qX 5 11 2,qZ 6 12,qB 7 false] [1,3,5,6]) (.seq (.reg [qT 14 5 3,zM 15 1,q2 16 238 14 15,zM 13 16,qE 17 13 0,qE 18 13 1,zM 8 17,zM 9 18] [1,3,5,6,8,9]) (.seq (.seq (.reg [zM 19 8,zA 20 (.bin .lss (.t 19) (kI 0))] [1,3,5,6,8,9,20]) (.cond (.t 20) (.seq (.reg [zA 21 (.build zN []),qS 5 6 21,qB 7 false] [6,7]) .ret) .skip)) (.seq (.seq (.reg [zM 22 9] [1,3,5,6,8,22]) (.cond (.t 22) (.seq (.reg [qT 23 5 3,zM 24 8,qT 25 5 5,q3 26 235 23 24 25,qS 5 6 26,qB 7 true] [6,7]) .ret) .skip)) (.seq (.reg [qT 27 5 3,q1 28 87 27,qZ 10 13,qS 5 10 28] [1,3,5,6,8,10]) (.seq (.jQ [(zA 29 (.bslice 14 5 0 [.lit (.int .i64 0),.lit (.int .i64 0),.str [],.sl 1 [],.sl 5 []] []),[]),(qA 30 4 10,[]),(qF 31 1 30,[1]),(zM 32 8,[]),(zA 33 (.slsl 5 (.t 31) none (some (.t 32))),[1,2,3]),(zA 34 (.append 15 5 80 (.t 29) (.t 33)),[0,1,2,3,4]),(qT 35 5 5,[]),(q1 36 87 35,[0,1,2,3,4,5,6]),(zA 37 (.bslice 16 5 1 [.lit (.int .i64 0),.lit (.int .i64 0),.str [],.sl 1 [],.sl 5 []] [(0,.t 36)]),[0,1,2,3,4,5,6,7]),(zA 38 (.append 17 5 80 (.t 34) (.t 37)),[0,1,2,3,4,5,6,7,8]),(zM 11 38,[0,1,2,3,4,5,6,7,8,9])] [1,3,6,8,10,11]) (.seq (.reg [zM 39 11,qA 40 4 10,qF 41 1 40,zM 42 8,zA 43 (.slsl 5 (.t 41) (some (.t 42)) none),zA 44 (.append 18 5 80 (.t 39) (.t 43)),zM 11 44] [1,3,6,8,10,11]) (.seq (.seq (.reg [qA 45 0 3,qF 46 1 45,zA 47 (.bin .eql (.t 46) (kI 3))] [1,3,6,8,10,11,47]) (.cond (.t 47) (.seq (.reg [qA 48 0 3,qF 49 1 48,zA 50 (.bslice 19 1 0 [.str []] []),zM 51 11,zA 52 (.build zN [(0,1,.t 49),(3,1,.t 50),(4,1,.t 51)]),qS 5 6 52,qB 7 true] [6,7]) .ret) .skip)) (.seq (.reg [zA 53 (.bslice 20 1 0 [.str []] []),qA 54 3 10,qF 55 1 54,zM 56 8,zA 57 (.slsl 1 (.t 55) none (some (.t 56))),zA 58 (.append 21 1 16 (.t 53) (.t 57)),zM 59 1,zA 60 (.bslice 22 1 1 [.str []] [(0,.t 59)]),zA 61 (.append 23 1 16 (.t 58) (.t 60)),zM 12 61] [3,6,8,10,11,12]) (.seq (.reg [zM 62 12,qA 63 3 10,qF 64 1 63,zM 65 8,zA 66 (.slsl 1 (.t 64) (some (.t 65)) none),zA 67 (.append 24 1 16 (.t 62) (.t 66)),zM 12 67] [3,6,11,12]) (.seq (.reg [qA 68 0 3,qF 69 1 68,zM 70 12,zM 71 11,zA 72 (.build zN [(0,1,.t 69),(3,1,.t 70),(4,1,.t 71)]),qS 5 6 72,qB 7 true] [6,7]) .ret)))))))))))
theorem K.gY:fE pZ 209 3 0 C.gY [.cell 6 true 5,.tmp 7]=true:=by kernel_rfl
def C.jr:bD:=(.seq (.reg [zA 2 (.mv (.k (.c (.str []))))] [0]) (.seq (.reg [zM 3 0,zA 4 (.bslice 10 1 12 [.str []] [(0,.k (.c (.str [97]))),(1,.k (.c (.str [98]))),(2,.k (.c (.str []))),(3,.k (.c (.str [97,98,99]))),(4,.k (.c (.str [97,47,98]))),(5,.k (.c (.str [126]))),(6,.k (.c (.str [120,32,121]))),(7,.k (.c (.str [34,113,34]))),(8,.k (.c (.str [98,97,99,107,92,115]))),(9,.k (.c (.str [48]))),(10,.k (.c (.str [49]))),(11,.k (.c (.str [97,98,99,100,101,102,103,104,105,106,107,108])))]),q2 5 53 3 4,zM 2 5] [2]) .ret))
theorem K.jr:fE pZ 206 1 1 C.jr [.tmp 2]=true:=by kernel_rfl
def C.jq:bD:=(.seq (.reg [zA 2 (.mv (.k (.c (.str []))))] [0]) (.seq (.reg [zM 3 0,zA 4 (.bslice 10 1 8 [.str []] [(0,.k (.c (.str [97]))),(1,.k (.c (.str [98]))),(2,.k (.c (.str [99]))),(3,.k (.c (.str [100]))),(4,.k (.c (.str [97,47,98]))),(5,.k (.c (.str [126,120]))),(6,.k (.c (.str []))),(7,.k (.c (.str [107])))]),q2 5 53 3 4,zM 2 5] [2]) .ret))
theorem K.jq:fE pZ 207 1 1 C.jq [.tmp 2]=true:=by kernel_rfl
def C.dh:bD:=(.seq (.reg [qZ 4 10] [0,1,4]) (.seq (.reg [zA 9 (.bslice 11 1 0 [.str []] []),zA 10 (.bslice 12 5 0 [.lit (.int .i64 0),.lit (.int .i64 0),.str [],.sl 1 [],.sl 5 []] []),zA 11 (.build zN [(0,1,kI 4),(3,1,.t 9),(4,1,.t 10)]),qZ 5 13,qS 5 5 11] [0,1,4,5]) (.seq (.seq (.reg [zM 12 0,zA 13 (.bslice 14 1 5 [.lit (.int .i64 0)] [(0,kI 2),(1,kI 3),(2,kI 1),(3,kI 0),(4,kI 4)]),q2 14 54 12 13,zM 6 14] [0,1,4,5,6]) (.block 0 (.loop (.seq (.seq (.reg [zM 15 6,zA 16 (.bin .gtr (.t 15) (kI 0))] [0,1,4,5,6,16]) (.cond (.t 16) .skip (.exit 0))) (.seq (.block 1 (.seq (.reg [zM 19 0,q1 20 207 19,zM 7 20] [0,1,4,5,6,7]) (.seq (.reg [zM 21 0,zM 22 1,zA 23 (.bin .sub (.t 22) (kI 1)),q2 24 167 21 23,qZ 8 15,qS 5 8 24] [0,1,4,5,6,7,8]) (.seq (.reg [qT 25 5 5,zM 26 7,q2 27 208 25 26,zA 28 (.bin .lss (.t 27) (kI 0))] [0,1,4,5,6,7,8,28]) (.cond (.t 28) (.reg [qT 30 5 5,zM 31 7,qT 32 5 8,q3 33 209 30 31 32,zM 29 33,qE 34 29 0,qE 35 29 1,qS 5 5 34] [0,1,4,5,6]) .skip))))) (.reg [zM 17 6,zA 18 (.bin .sub (.t 17) (kI 1)),zM 6 18] [0,1,4,5,6])))))) (.seq (.reg [qT 36 5 5,qS 5 4 36] [4]) .ret))))
theorem K.dh:fE pZ 168 2 1 C.dh [.cell 4 true 5]=true:=by kernel_rfl
def C.aO:bD:=(.seq (.reg [qZ 4 10] [0,1,4]) (.seq (.reg [zM 8 0,⟨none,some 9,.call 46 [.t 8,kI 5]⟩,zM 5 9] [0,1,4,5]) (.cut (.seq (.reg [zM 10 1,zA 11 (.bin .leq (.t 10) (kI 1))] [0,1,4,5,11]) (.cond (.t 11) (.reg [zM 12 0,⟨none,some 13,.call 46 [.t 12,kI 3]⟩,zM 5 13] [0,1,4,5]) .skip)) (.seq (.seq (.reg [zM 14 5] [0,1,4,5,14]) (.block 0 (.seq (.reg [zA 16 (.bin .eql (.t 14) (kI 1)),zM 15 16] [0,1,4,5,14,15]) (.cond (.t 15) (.seq (.reg [zM 17 5,zM 18 0,zM 19 0,⟨none,some 20,.call 46 [.t 19,kI 250]⟩,zA 21 (.bslice 11 1 8 [.lit (.int .i64 0)] [(0,kI 0),(1,kI 1),(2,kI 2),(3,kI 7),(4,kI (-7)),(5,kI 999999),(6,kI (-999999)),(7,.t 20)]),q2 22 54 18 21,zA 23 (.build zN [(0,1,.t 17),(1,1,.t 22)]),qS 5 4 23] [4]) .ret) (.seq (.reg [zA 25 (.bin .eql (.t 14) (kI 2)),zM 24 25] [0,1,4,5,14,24]) (.cond (.t 24) (.seq (.reg [zM 26 5,zM 27 0,q1 28 206 27,zA 29 (.build zN [(0,1,.t 26),(2,1,.t 28)]),qS 5 4 29] [4]) .ret) (.seq (.reg [zA 31 (.bin .eql (.t 14) (kI 3)),zM 30 31] [0,1,4,5,14,30]) (.cond (.t 30) (.seq (.reg [zA 32 (.bslice 12 5 0 [.lit (.int .i64 0),.lit (.int .i64 0),.str [],.sl 1 [],.sl 5 []] []),zM 6 32] [0,1,4,5,6]) (.seq (.seq (.reg [zM 33 0,⟨none,some 34,.call 46 [.t 33,kI 4]⟩,zM 7 34] [0,1,4,5,6,7]) (.block 1 (.loop (.seq (.seq (.reg [zM 35 7,zA 36 (.bin .gtr (.t 35) (kI 0))] [0,1,4,5,6,7,36]) (.cond (.t 36) .skip (.exit 1))) (.seq (.block 2 (.reg [zM 39 6,zM 40 0,zM 41 1,zA 42 (.bin .sub (.t 41) (kI 1)),q2 43 167 40 42,zA 44 (.bslice 13 5 1 [.lit (.int .i64 0),.lit (.int .i64 0),.str [],.sl 1 [],.sl 5 []] [(0,.t 43)]),zA 45 (.append 14 5 80 (.t 39) (.t 44)),zM 6 45] [0,1,4,5,6,7])) (.reg [zM 37 7,zA 38 (.bin .sub (.t 37) (kI 1)),zM 7 38] [0,1,4,5,6,7])))))) (.seq (.reg [zM 46 5,zA 47 (.bslice 15 1 0 [.str []] []),zM 48 6,zA 49 (.build zN [(0,1,.t 46),(3,1,.t 47),(4,1,.t 48)]),qS 5 4 49] [4]) .ret))) (.seq (.reg [zA 51 (.bin .eql (.t 14) (kI 4)),zM 50 51] [0,1,4,50]) (.cond (.t 50) (.seq (.reg [zM 52 0,zM 53 1,q2 54 168 52 53,qS 5 4 54] [4]) .ret) .skip)))))))))) (.seq (.reg [zA 55 (.build zN []),qS 5 4 55] [4]) .ret)))))
theorem K.aO:fE pZ 167 2 1 C.aO [.cell 4 true 5]=true:=by kernel_rfl
def C.dK:bD:=(.seq (.reg [qZ 2 10] [0,2]) (.seq (.reg [zM 4 0,⟨none,some 5,.call 167 [.t 4,kI 3]⟩,qZ 3 11,qS 5 3 5] [0,2,3]) (.cut (.seq (.reg [zM 6 0,⟨none,some 7,.call 46 [.t 6,kI 3]⟩,zA 8 (.bin .gtr (.t 7) (kI 0))] [0,2,3,8]) (.cond (.t 8) (.reg [zM 9 0,⟨none,some 10,.call 168 [.t 9,kI 3]⟩,qS 5 3 10] [2,3]) .skip)) (.seq (.seq (.reg [qT 11 5 3,q1 12 35 11,qO 13 12] [2,3,13]) (.cond (.t 13) (.seq (.reg [zA 14 (.build zN []),qS 5 2 14] [2]) .ret) .skip)) (.seq (.reg [qT 15 5 3,qS 5 2 15] [2]) .ret)))))
theorem K.dK:fE pZ 122 1 1 C.dK [.cell 2 true 5]=true:=by kernel_rfl
def C.gZ:bD:=(.seq (.reg [qZ 2 10] [0,2]) (.seq (.reg [zM 6 0,q1 7 122 6,qZ 3 11,qS 5 3 7] [0,2,3]) (.seq (.seq (.reg [zM 8 0,⟨none,some 9,.call 46 [.t 8,kI 40]⟩] [0,2,3,9]) (.block 0 (.seq (.reg [zA 11 (.bin .eql (.t 9) (kI 0)),zM 10 11] [0,2,3,9,10]) (.cond (.t 10) (.reg [zM 12 0,zA 13 (.bslice 12 1 4 [.lit (.int .i64 0)] [(0,kI (-1)),(1,kI 5),(2,kI 0),(3,kI 3)]),q2 14 54 12 13,qA 15 0 3,qU 1 15 14] [2,3]) (.seq (.reg [zA 17 (.bin .eql (.t 9) (kI 1)),zM 16 17] [0,2,3,9,16]) (.cond (.t 16) (.reg [zM 18 0,zA 19 (.bslice 13 1 2 [.lit (.int .i64 0)] [(0,kI 1),(1,kI 1000000)]),q2 20 54 18 19,qA 21 1 3,qU 1 21 20] [2,3]) (.seq (.reg [zA 23 (.bin .eql (.t 9) (kI 2)),zM 22 23] [0,2,3,9,22]) (.cond (.t 22) (.reg [qA 24 2 3,zS (.store false 1 (.t 24) (.k (.c (.str [97,98,99,100,101,102,103,104,105,106,107,108,109]))))] [2,3]) (.seq (.reg [zA 26 (.bin .eql (.t 9) (kI 3)),zM 25 26] [0,2,3,9,25]) (.cond (.t 25) (.reg [qA 27 3 3,qF 28 1 27,zA 29 (.bslice 14 1 1 [.str []] [(0,.k (.c (.str [])))]),zA 30 (.append 15 1 16 (.t 28) (.t 29)),qA 31 3 3,qU 1 31 30] [2,3]) (.seq (.reg [zA 33 (.bin .eql (.t 9) (kI 4)),zM 32 33] [0,2,3,9,32]) (.cond (.t 32) (.reg [qT 34 5 3,zA 35 (.bslice 16 5 1 [.lit (.int .i64 0),.lit (.int .i64 0),.str [],.sl 1 [],.sl 5 []] [(0,.t 34)]),zA 36 (.build zN [(0,1,kI 3),(4,1,.t 35)]),zA 37 (.bslice 17 5 1 [.lit (.int .i64 0),.lit (.int .i64 0),.str [],.sl 1 [],.sl 5 []] [(0,.t 36)]),zA 38 (.build zN [(0,1,kI 3),(4,1,.t 37)]),zA 39 (.bslice 18 5 1 [.lit (.int .i64 0),.lit (.int .i64 0),.str [],.sl 1 [],.sl 5 []] [(0,.t 38)]),zA 40 (.build zN [(0,1,kI 3),(4,1,.t 39)]),zA 41 (.bslice 19 5 1 [.lit (.int .i64 0),.lit (.int .i64 0),.str [],.sl 1 [],.sl 5 []] [(0,.t 40)]),zA 42 (.build zN [(0,1,kI 3),(4,1,.t 41)]),qS 5 3 42] [2,3]) (.seq (.reg [zA 44 (.bin .eql (.t 9) (kI 5)),zM 43 44] [0,2,3,43]) (.cond (.t 43) (.seq (.reg [zA 45 (.bslice 20 5 0 [.lit (.int .i64 0),.lit (.int .i64 0),.str [],.sl 1 [],.sl 5 []] []),zM 4 45] [0,2,3,4]) (.seq (.seq (.reg [qI 5 0] [0,2,3,4,5]) (.block 1 (.loop (.seq (.seq (.reg [zM 46 5,zM 47 0,⟨none,some 48,.call 46 [.t 47,kI 2]⟩,zA 49 (.bin .add (kI 6) (.t 48)),zA 50 (.bin .lss (.t 46) (.t 49))] [0,2,3,4,5,50]) (.cond (.t 50) .skip (.exit 1))) (.seq (.block 2 (.reg [zM 53 4,qT 54 5 3,q1 55 87 54,zA 56 (.bslice 21 5 1 [.lit (.int .i64 0),.lit (.int .i64 0),.str [],.sl 1 [],.sl 5 []] [(0,.t 55)]),zA 57 (.append 22 5 80 (.t 53) (.t 56)),zM 4 57] [0,2,3,4,5])) (.reg [zM 51 5,zA 52 (.bin .add (.t 51) (kI 1)),zM 5 52] [0,2,3,4,5])))))) (.reg [zM 58 4,zA 59 (.build zN [(0,1,kI 3),(4,1,.t 58)]),qS 5 3 59] [2,3]))) .skip)))))))))))))) (.seq (.reg [qT 60 5 3,qS 5 2 60] [2]) .ret))))
theorem K.gZ:fE pZ 119 1 1 C.gZ [.cell 2 true 5]=true:=by kernel_rfl
def C.iZ:bD:=(.seq (.reg [zA 2 (.mv (.k (.c (.str []))))] [0]) (.seq (.reg [zM 3 0,zA 4 (.bslice 10 1 5 [.str []] [(0,.k (.c (.str []))),(1,.k (.c (.str [65]))),(2,.k (.c (.str [97,98,99,100,101,102,103,104,105]))),(3,.k (.c (.str [97,32,98]))),(4,.k (.c (.str [97])))]),q2 5 53 3 4,zM 2 5] [2]) .ret))
theorem K.iZ:fE pZ 118 1 1 C.iZ [.tmp 2]=true:=by kernel_rfl
def C.dL:bD:=(.seq (.reg [qX 1 10 0,zA 2 (.alloc 11 [.nsl 7,jc 0])] [1,2]) (.seq (.reg [zA 5 (.bslice 12 7 0 [.str [],.lit (.int .i64 0),.lit (.int .i64 0),.lit (.int .i64 0),.str [],.sl 1 [],.sl 5 []] []),zM 3 5] [1,2,3]) (.seq (.seq (.reg [qI 4 0] [1,2,3,4]) (.block 0 (.loop (.seq (.seq (.reg [zM 6 4,qA 7 0 1,qF 8 1 7,qL 9 8,zA 10 (.bin .lss (.t 6) (.t 9))] [1,2,3,4,10]) (.cond (.t 10) .skip (.exit 0))) (.seq (.block 1 (.jQ [(zM 13 3,[]),(qA 14 0 1,[]),(qF 15 1 14,[1]),(zM 16 4,[]),(qD 17 7 15 16,[1,2,3]),(qA 18 0 17,[1,2,3,4]),(qF 19 1 18,[1,2,3,4,5]),(qA 20 0 1,[]),(qF 21 1 20,[7]),(zM 22 4,[]),(qD 23 7 21 22,[7,8,9]),(qA 24 1 23,[7,8,9,10]),(qF 25 1 24,[7,8,9,10,11]),(qA 26 0 1,[]),(qF 27 1 26,[13]),(zM 28 4,[]),(qD 29 7 27 28,[13,14,15]),(qA 30 2 29,[13,14,15,16]),(qT 31 5 30,[13,14,15,16,17]),(q1 32 87 31,[13,14,15,16,17,18]),(zA 33 (.build [.c (.str []),jc 0,jc 0,jc 0,.c (.str []),.nsl 1,.nsl 5] [(0,1,.t 19),(1,1,.t 25),(2,5,.t 32)]),[1,2,3,4,5,6,7,8,9,10,11,12,13,14,15,16,17,18,19]),(zA 34 (.bslice 13 7 1 [.str [],.lit (.int .i64 0),.lit (.int .i64 0),.lit (.int .i64 0),.str [],.sl 1 [],.sl 5 []] [(0,.t 33)]),[1,2,3,4,5,6,7,8,9,10,11,12,13,14,15,16,17,18,19,20]),(zA 35 (.append 14 7 104 (.t 13) (.t 34)),[0,1,2,3,4,5,6,7,8,9,10,11,12,13,14,15,16,17,18,19,20,21]),(zM 3 35,[0,1,2,3,4,5,6,7,8,9,10,11,12,13,14,15,16,17,18,19,20,21,22])] [1,2,3,4])) (.reg [zM 11 4,zA 12 (.bin .add (.t 11) (kI 1)),zM 4 12] [1,2,3,4])))))) (.seq (.reg [zM 36 3,qA 37 1 1,qF 38 1 37,zA 39 (.build [.nsl 7,jc 0] [(0,1,.t 36),(1,1,.t 38)]),qS 2 2 39] [2]) .ret))))
theorem K.dL:fE pZ 110 1 0 C.dL [.cell 2 true 2]=true:=by kernel_rfl
def C.iK:bD:=(.seq (.reg [qX 2 10 0,qI 4 0] [1,2]) (.seq (.seq (.reg [qI 5 0] [1,2,5]) (.block 0 (.loop (.seq (.seq (.reg [zM 6 5,qA 7 0 2,qF 8 1 7,qL 9 8,zA 10 (.bin .lss (.t 6) (.t 9))] [1,2,5,10]) (.cond (.t 10) .skip (.exit 0))) (.seq (.block 1 (.seq (.reg [qA 13 0 2,qF 14 1 13,zM 15 5,qD 16 7 14 15,qA 17 0 16,qF 18 1 17,zM 19 1,zA 20 (.bin .eql (.t 18) (.t 19))] [1,2,5,20]) (.cond (.t 20) (.seq (.reg [zM 21 5,zM 4 21] [4]) .ret) .skip))) (.reg [zM 11 5,zA 12 (.bin .add (.t 11) (kI 1)),zM 5 12] [1,2,5])))))) (.seq (.reg [qI 4 (-1)] [4]) .ret)))
theorem K.iK:fE pZ 169 2 0 C.iK [.tmp 4]=true:=by kernel_rfl
def C.bg:bD:=(.seq (.reg [qX 1 10 0,qB 2 false] [1]) (.seq (.seq (.reg [qI 3 0] [1,3]) (.block 0 (.loop (.seq (.seq (.reg [zM 5 3,qA 6 0 1,qF 7 1 6,qL 8 7,zA 9 (.bin .lss (.t 5) (.t 8))] [1,3,9]) (.cond (.t 9) .skip (.exit 0))) (.seq (.block 1 (.seq (.reg [qA 12 0 1,qF 13 1 12,zM 14 3,qD 15 7 13 14,qT 16 7 15,zA 4 (.alloc 11 [.c (.str []),jc 0,jc 0,jc 0,.c (.str []),.nsl 1,.nsl 5]),qS 7 4 16] [1,3,4]) (.seq (.jQ [(qA 17 0 4,[]),(qF 18 1 17,[0]),(q1 19 79 18,[0,1]),(qO 20 19,[0,1,2]),(zM 21 20,[0,1,2,3]),(zG 21 false 22 (.faddr 2 (.t 4)),[0,1,2,3,4]),(zG 21 false 23 (.load true 5 (.t 22)),[0,1,2,3,4,5]),(⟨(some (21,false)),some 24,.call 35 [.t 23]⟩,[0,1,2,3,4,5,6]),(zG 21 false 25 (.not (.t 24)),[0,1,2,3,4,5,6,7]),(qQ 26 21 25,[0,1,2,3,4,5,6,7,8]),(zM 27 26,[0,1,2,3,4,5,6,7,8,9]),(zG 27 false 28 (.faddr 1 (.t 4)),[0,1,2,3,4,5,6,7,8,9,10]),(zG 27 false 29 (.load false 1 (.t 28)),[0,1,2,3,4,5,6,7,8,9,10,11]),(zG 27 false 30 (.faddr 1 (.t 1)),[0,1,2,3,4,5,6,7,8,9,10]),(zG 27 false 31 (.load false 1 (.t 30)),[0,1,2,3,4,5,6,7,8,9,10,13]),(⟨(some (27,false)),some 32,.call 78 [.t 29,kI 1,.t 31]⟩,[0,1,2,3,4,5,6,7,8,9,10,11,12,13,14]),(zG 27 false 33 (.not (.t 32)),[0,1,2,3,4,5,6,7,8,9,10,11,12,13,14,15]),(qQ 34 27 33,[0,1,2,3,4,5,6,7,8,9,10,11,12,13,14,15,16]),(zM 35 34,[0,1,2,3,4,5,6,7,8,9,10,11,12,13,14,15,16,17]),(zG 35 false 36 (.mv (.t 3)),[0,1,2,3,4,5,6,7,8,9,10,11,12,13,14,15,16,17,18]),(zG 35 false 37 (.bin .gtr (.t 36) (kI 0)),[0,1,2,3,4,5,6,7,8,9,10,11,12,13,14,15,16,17,18,19]),(zG 35 false 38 (.mv (.t 37)),[0,1,2,3,4,5,6,7,8,9,10,11,12,13,14,15,16,17,18,19,20]),(zG 38 true 39 (.faddr 0 (.t 4)),[0,1,2,3,4,5,6,7,8,9,10,11,12,13,14,15,16,17,18,19,20,21]),(zG 38 true 40 (.load false 1 (.t 39)),[0,1,2,3,4,5,6,7,8,9,10,11,12,13,14,15,16,17,18,19,20,21,22]),(zG 38 true 41 (.faddr 0 (.t 1)),[0,1,2,3,4,5,6,7,8,9,10,11,12,13,14,15,16,17,18,19,20,21]),(zG 38 true 42 (.load false 1 (.t 41)),[0,1,2,3,4,5,6,7,8,9,10,11,12,13,14,15,16,17,18,19,20,21,24]),(zG 38 true 43 (.mv (.t 3)),[0,1,2,3,4,5,6,7,8,9,10,11,12,13,14,15,16,17,18,19,20,21]),(zG 38 true 44 (.bin .sub (.t 43) (kI 1)),[0,1,2,3,4,5,6,7,8,9,10,11,12,13,14,15,16,17,18,19,20,21,26]),(zG 38 true 45 (.iaddr 7 (.t 42) (.t 44)),[0,1,2,3,4,5,6,7,8,9,10,11,12,13,14,15,16,17,18,19,20,21,24,25,26,27]),(zG 38 true 46 (.faddr 0 (.t 45)),[0,1,2,3,4,5,6,7,8,9,10,11,12,13,14,15,16,17,18,19,20,21,24,25,26,27,28]),(zG 38 true 47 (.load false 1 (.t 46)),[0,1,2,3,4,5,6,7,8,9,10,11,12,13,14,15,16,17,18,19,20,21,24,25,26,27,28,29]),(zG 38 true 48 (.bin .leq (.t 40) (.t 47)),[0,1,2,3,4,5,6,7,8,9,10,11,12,13,14,15,16,17,18,19,20,21,22,23,24,25,26,27,28,29,30]),(zG 35 false 49 (.pick (.t 38) (.t 48) (kB false)),[0,1,2,3,4,5,6,7,8,9,10,11,12,13,14,15,16,17,18,19,20,21,22,23,24,25,26,27,28,29,30,31]),(qQ 50 35 49,[0,1,2,3,4,5,6,7,8,9,10,11,12,13,14,15,16,17,18,19,20,21,22,23,24,25,26,27,28,29,30,31,32])] [1,3,50]) (.cond (.t 50) (.seq (.reg [qB 2 false] [2]) .ret) .skip)))) (.reg [zM 10 3,zA 11 (.bin .add (.t 10) (kI 1)),zM 3 11] [1,3])))))) (.seq (.reg [qA 51 0 1,qF 52 1 51,qL 53 52,zA 54 (.bin .leq (.t 53) (kI 10)),zM 55 54,zG 55 true 56 (.faddr 1 (.t 1)),zG 55 true 57 (.load false 1 (.t 56)),⟨(some (55,true)),some 58,.call 78 [.t 57,kI 0,kI 999]⟩,qP 59 55 58,zM 2 59] [2]) .ret)))
theorem K.bg:fE pZ 165 1 0 C.bg [.tmp 2]=true:=by kernel_rfl
def C.jB:bD:=(.seq (.reg [qX 2 10 0,zA 4 (.alloc 11 [.c (.str []),jc 0,jc 0,jc 0,.c (.str []),.nsl 1,.nsl 5]),qB 5 false] [1,2,4]) (.seq (.seq (.reg [qT 6 2 2,q1 7 165 6,qO 8 7,zM 9 8,zG 9 false 10 (.load true 2 (.t 2)),zG 9 false 11 (.mv (.t 1)),⟨(some (9,false)),some 12,.call 169 [.t 10,.t 11]⟩,zG 9 false 13 (.bin .lss (.t 12) (kI 0)),qQ 14 9 13] [1,2,4,14]) (.cond (.t 14) (.seq (.reg [zA 15 (.build [.c (.str []),jc 0,jc 0,jc 0,.c (.str []),.nsl 1,.nsl 5] []),qS 7 4 15,qB 5 false] [4,5]) .ret) .skip)) (.seq (.jQ [(qT 16 2 2,[]),(q1 17 110 16,[0]),(zA 18 (.field false 0 1 (.t 17)),[0,1]),(qT 19 2 2,[]),(zM 20 1,[]),(q2 21 169 19 20,[0,1,3,4]),(qD 22 7 18 21,[0,1,2,3,4,5]),(qT 23 7 22,[0,1,2,3,4,5,6]),(qS 7 4 23,[0,1,2,3,4,5,6,7]),(qB 5 true,[0,1,2,3,4,5,6,7,8])] [4,5]) .ret)))
theorem K.jB:fE pZ 160 2 0 C.jB [.cell 4 true 7,.tmp 5]=true:=by kernel_rfl
def C.kU:bD:=(.seq (.reg [zA 2 (.mv (.k (.c (.str []))))] [0]) (.seq (.reg [zA 3 (.mv (.k (.c (.str [48,49,50,51,52,53,54,55,56,57,97,98,99,100,101,102]))))] [0,3]) (.seq (.jQ [(zM 4 3,[]),(zM 5 0,[]),(zA 6 (.bin .quo (.t 5) (kI 4096)),[1]),(zA 7 (.idxs (.t 4) (.t 6)),[0,1,2]),(zM 8 3,[]),(zM 9 0,[]),(zA 10 (.bin .quo (.t 9) (kI 256)),[5]),(zA 11 (.bin .rem (.t 10) (kI 16)),[5,6]),(zA 12 (.idxs (.t 8) (.t 11)),[4,5,6,7]),(zM 13 3,[]),(zM 14 0,[]),(zA 15 (.bin .quo (.t 14) (kI 16)),[10]),(zA 16 (.bin .rem (.t 15) (kI 16)),[10,11]),(zA 17 (.idxs (.t 13) (.t 16)),[9,10,11,12]),(zM 18 3,[]),(zM 19 0,[]),(zA 20 (.bin .rem (.t 19) (kI 16)),[15]),(zA 21 (.idxs (.t 18) (.t 20)),[14,15,16]),(zA 22 (.bslice 10 1 4 [.lit (.int .u8 0)] [(0,.t 7),(1,.t 12),(2,.t 17),(3,.t 21)]),[0,1,2,3,4,5,6,7,8,9,10,11,12,13,14,15,16,17]),(zA 23 (.cstr (.t 22)),[0,1,2,3,4,5,6,7,8,9,10,11,12,13,14,15,16,17,18]),(zM 2 23,[0,1,2,3,4,5,6,7,8,9,10,11,12,13,14,15,16,17,18,19])] [2]) .ret)))
theorem K.kU:fE pZ 198 1 0 C.kU [.tmp 2]=true:=by kernel_rfl
def C.iL:bD:=(.seq (.reg [qI 2 0] [0]) (.seq (.reg [qI 3 17] [0,3]) (.seq (.seq (.reg [qI 4 0] [0,3,4]) (.block 0 (.loop (.seq (.seq (.reg [zM 5 4,zM 6 0,zA 7 (.lens (.t 6)),zA 8 (.bin .lss (.t 5) (.t 7))] [0,3,4,8]) (.cond (.t 8) .skip (.exit 0))) (.seq (.block 1 (.reg [zM 11 3,zA 12 (.bin .mul (kI 131) (.t 11)),zM 13 0,zM 14 4,zA 15 (.idxs (.t 13) (.t 14)),zA 16 (.cint .i64 (.t 15)),zA 17 (.bin .add (.t 12) (.t 16)),zA 18 (.bin .rem (.t 17) (kI 65521)),zM 3 18] [0,3,4])) (.reg [zM 9 4,zA 10 (.bin .add (.t 9) (kI 1)),zM 4 10] [0,3,4])))))) (.seq (.reg [zM 19 3,zM 2 19] [2]) .ret))))
theorem K.iL:fE pZ 199 1 0 C.iL [.tmp 2]=true:=by kernel_rfl
def C.jL:bD:=(.seq (.reg [qX 1 10 0,zA 2 (.mv (.k (.c (.str []))))] [1]) (.seq (.seq (.reg [qT 3 5 1,q1 4 35 3,qO 5 4] [1,5]) (.cond (.t 5) (.seq (.reg [zA 2 (.mv (.k (.c (.str []))))] [2]) .ret) .skip)) (.seq (.reg [qT 6 5 1,q1 7 89 6,q1 8 199 7,q1 9 198 8,zM 2 9] [2]) .ret)))
theorem K.jL:fE pZ 162 1 0 C.jL [.tmp 2]=true:=by kernel_rfl
def C.gU:bD:=(.seq (.reg [zA 4 (.mv (.k (.nsl 1)))] [0,1]) (.seq (.reg [zA 7 (.bslice 10 1 0 [.str []] []),zM 5 7] [0,1,5]) (.seq (.seq (.reg [zM 8 0,zA 9 (.bslice 11 1 7 [.lit (.int .i64 0)] [(0,kI 0),(1,kI 1),(2,kI 0),(3,kI 2),(4,kI 0),(5,kI 4),(6,kI 5)]),q2 10 54 8 9,zM 6 10] [0,1,5,6]) (.block 0 (.loop (.seq (.seq (.reg [zM 11 6,zA 12 (.bin .gtr (.t 11) (kI 0))] [0,1,5,6,12]) (.cond (.t 12) .skip (.exit 0))) (.seq (.block 1 (.reg [zM 15 5,zM 16 0,zM 17 1,zM 18 1,zA 19 (.bslice 12 1 6 [.str []] [(0,.k (.c (.str [42]))),(1,.k (.c (.str [48,48,48,48]))),(2,.k (.c (.str [49,50,97,98]))),(3,.k (.c (.str [102,102,102,102]))),(4,.t 17),(5,.t 18)]),q2 20 53 16 19,zA 21 (.bslice 13 1 1 [.str []] [(0,.t 20)]),zA 22 (.append 14 1 16 (.t 15) (.t 21)),zM 5 22] [0,1,5,6])) (.reg [zM 13 6,zA 14 (.bin .sub (.t 13) (kI 1)),zM 6 14] [0,1,5,6])))))) (.seq (.seq (.reg [zM 23 5,qL 24 23,zA 25 (.bin .gtr (.t 24) (kI 0)),zM 26 25,zG 26 true 27 (.mv (.t 0)),⟨(some (26,true)),some 28,.call 46 [.t 27,kI 20]⟩,zG 26 true 29 (.bin .eql (.t 28) (kI 0)),qP 30 26 29] [0,5,30]) (.cond (.t 30) (.reg [zM 31 5,zM 32 0,zA 33 (.bslice 15 1 4 [.str []] [(0,.k (.c (.str []))),(1,.k (.c (.str [49,50,97,66]))),(2,.k (.c (.str [49,50,51]))),(3,.k (.c (.str [49,50,51,52,53])))]),q2 34 53 32 33,zA 35 (.iaddr 1 (.t 31) (kI 0)),qU 1 35 34] [5]) .skip)) (.seq (.reg [zM 36 5,zM 4 36] [4]) .ret)))))
theorem K.gU:fE pZ 161 2 1 C.gU [.tmp 4]=true:=by kernel_rfl
def C.iJ:bD:=(.seq (.reg [zA 2 (.mv (.k (.c (.str []))))] [0]) (.seq (.reg [zM 3 0,zA 4 (.bslice 10 1 10 [.str []] [(0,.k (.c (.str [97]))),(1,.k (.c (.str [98]))),(2,.k (.c (.str [100,111,99]))),(3,.k (.c (.str [122,122]))),(4,.k (.c (.str [97,49]))),(5,.k (.c (.str [109]))),(6,.k (.c (.str [120,57]))),(7,.k (.c (.str [98,111,111,107]))),(8,.k (.c (.str [97,98,99,100,101,102,103,104]))),(9,.k (.c (.str [113])))]),q2 5 53 3 4,zM 2 5] [2]) .ret))
theorem K.iJ:fE pZ 121 1 1 C.iJ [.tmp 2]=true:=by kernel_rfl
def C.jY:bD:=(.seq (.reg [qX 3 10 1,zA 4 (.mv (.k (.c (.str []))))] [0,3]) (.seq (.seq (.reg [qA 5 0 3,qF 6 1 5,qL 7 6,zA 8 (.bin .gtr (.t 7) (kI 0)),zM 9 8,zG 9 true 10 (.mv (.t 0)),⟨(some (9,true)),some 11,.call 46 [.t 10,kI 4]⟩,zG 9 true 12 (.bin .gtr (.t 11) (kI 0)),qP 13 9 12] [0,3,13]) (.cond (.t 13) (.seq (.jQ [(qA 14 0 3,[]),(qF 15 1 14,[0]),(zM 16 0,[]),(qA 17 0 3,[]),(qF 18 1 17,[3]),(qL 19 18,[3,4]),(q2 20 46 16 19,[2,3,4,5]),(qD 21 7 15 20,[0,1,2,3,4,5,6]),(qA 22 0 21,[0,1,2,3,4,5,6,7]),(qF 23 1 22,[0,1,2,3,4,5,6,7,8]),(zM 4 23,[0,1,2,3,4,5,6,7,8,9])] [4]) .ret) .skip)) (.seq (.seq (.reg [zM 24 0,⟨none,some 25,.call 46 [.t 24,kI 12]⟩,zA 26 (.bin .eql (.t 25) (kI 0))] [0,26]) (.cond (.t 26) (.seq (.reg [zM 27 0,q1 28 118 27,zM 4 28] [4]) .ret) .skip)) (.seq (.reg [zM 29 0,q1 30 121 29,zM 4 30] [4]) .ret))))
theorem K.jY:fE pZ 159 2 1 C.jY [.tmp 4]=true:=by kernel_rfl
def C.jD:bD:=(.seq (.reg [qX 2 10 0,qZ 4 11,qB 5 false] [1,2,4]) (.seq (.seq (.reg [qI 6 0] [1,2,4,6]) (.block 0 (.loop (.seq (.seq (.reg [zM 8 6,zM 9 1,qL 10 9,zA 11 (.bin .lss (.t 8) (.t 10))] [1,2,4,6,11]) (.cond (.t 11) .skip (.exit 0))) (.seq (.block 1 (.seq (.jQ [(qT 14 5 2,[]),(zM 15 1,[]),(zM 16 6,[]),(qD 17 1 15 16,[1,2]),(qF 18 1 17,[1,2,3]),(q2 19 208 14 18,[0,1,2,3,4]),(zM 7 19,[0,1,2,3,4,5])] [1,2,4,6,7]) (.seq (.seq (.reg [zM 20 7,zA 21 (.bin .lss (.t 20) (kI 0))] [1,2,4,6,7,21]) (.cond (.t 21) (.seq (.reg [zA 22 (.build zN []),qS 5 4 22,qB 5 false] [4,5]) .ret) .skip)) (.reg [qA 23 4 2,qF 24 1 23,zM 25 7,qD 26 5 24 25,qT 27 5 26,qS 5 2 27] [1,2,4,6])))) (.reg [zM 12 6,zA 13 (.bin .add (.t 12) (kI 1)),zM 6 13] [1,2,4,6])))))) (.seq (.reg [qT 28 5 2,q1 29 87 28,qS 5 4 29,qB 5 true] [4,5]) .ret)))
theorem K.jD:fE pZ 205 2 0 C.jD [.cell 4 true 5,.tmp 5]=true:=by kernel_rfl
def C.jM:bD:=(.seq (.reg [qX 3 10 0,qX 5 11 2,qZ 6 12,qB 7 false] [1,3,5,6]) (.seq (.seq (.reg [zM 11 1,qL 12 11,zA 13 (.bin .eql (.t 12) (kI 0))] [1,3,5,6,13]) (.cond (.t 13) (.seq (.reg [qT 14 5 5,q1 15 87 14,qS 5 6 15,qB 7 true] [6,7]) .ret) .skip)) (.seq (.jQ [(qT 16 5 3,[]),(zM 17 1,[]),(zA 18 (.iaddr 1 (.t 17) (kI 0)),[1]),(qF 19 1 18,[1,2]),(q2 20 208 16 19,[0,1,2,3]),(zM 8 20,[0,1,2,3,4])] [1,3,5,6,8]) (.seq (.seq (.reg [zM 21 8,zA 22 (.bin .lss (.t 21) (kI 0))] [1,3,5,6,8,22]) (.cond (.t 22) (.seq (.reg [zA 23 (.build zN []),qS 5 6 23,qB 7 false] [6,7]) .ret) .skip)) (.seq (.jQ [(qA 25 4 3,[]),(qF 26 1 25,[0]),(zM 27 8,[]),(qD 28 5 26 27,[0,1,2]),(qT 29 5 28,[0,1,2,3]),(zM 30 1,[]),(zA 31 (.slsl 1 (.t 30) (some (kI 1)) none),[5]),(qT 32 5 5,[]),(q3 33 203 29 31 32,[0,1,2,3,4,5,6,7]),(zM 24 33,[0,1,2,3,4,5,6,7,8]),(qE 34 24 0,[0,1,2,3,4,5,6,7,8,9]),(qE 35 24 1,[0,1,2,3,4,5,6,7,8,9]),(qZ 9 13,[]),(qS 5 9 34,[0,1,2,3,4,5,6,7,8,9,10,12]),(zM 10 35,[0,1,2,3,4,5,6,7,8,9,10,11,12,13])] [3,6,8,9,10]) (.seq (.seq (.reg [zM 36 10,qO 37 36] [3,6,8,9,37]) (.cond (.t 37) (.seq (.reg [zA 38 (.build zN []),qS 5 6 38,qB 7 false] [6,7]) .ret) .skip)) (.seq (.reg [qT 39 5 3,zM 40 8,qT 41 5 9,q3 42 235 39 40 41,qS 5 6 42,qB 7 true] [6,7]) .ret)))))))
theorem K.jM:fE pZ 203 3 0 C.jM [.cell 6 true 5,.tmp 7]=true:=by kernel_rfl
def C.kX:bD:=(.seq (.reg [qX 3 10 0,qX 5 11 2,qZ 6 12,qB 7 false] [1,3,5,6]) (.seq (.seq (.reg [zM 13 1,qL 14 13,zA 15 (.bin .eql (.t 14) (kI 0))] [1,3,5,6,15]) (.cond (.t 15) (.seq (.reg [qT 16 5 5,q1 17 87 16,qS 5 6 17,qB 7 true] [6,7]) .ret) .skip)) (.seq (.reg [zM 18 1,qL 19 18,zA 20 (.bin .sub (.t 19) (kI 1)),zM 8 20] [1,3,5,6,8]) (.seq (.jQ [(qT 22 5 3,[]),(zM 23 1,[]),(zM 24 8,[]),(zA 25 (.slsl 1 (.t 23) none (some (.t 24))),[1,2]),(q2 26 205 22 25,[0,1,2,3]),(zM 21 26,[0,1,2,3,4]),(qE 27 21 0,[0,1,2,3,4,5]),(qE 28 21 1,[0,1,2,3,4,5]),(qZ 9 13,[]),(qS 5 9 27,[0,1,2,3,4,5,6,8]),(zM 10 28,[0,1,2,3,4,5,6,7,8,9])] [1,3,5,6,8,9,10]) (.seq (.seq (.reg [zM 29 10,qO 30 29] [1,3,5,6,8,9,30]) (.cond (.t 30) (.seq (.reg [zA 31 (.build zN []),qS 5 6 31,qB 7 false] [6,7]) .ret) .skip)) (.seq (.jQ [(qT 33 5 9,[]),(zM 34 1,[]),(zM 35 8,[]),(qD 36 1 34 35,[1,2]),(qF 37 1 36,[1,2,3]),(qT 38 5 5,[]),(q3 39 209 33 37 38,[0,1,2,3,4,5]),(zM 32 39,[0,1,2,3,4,5,6]),(qE 40 32 0,[0,1,2,3,4,5,6,7]),(qE 41 32 1,[0,1,2,3,4,5,6,7]),(qZ 11 14,[]),(qS 5 11 40,[0,1,2,3,4,5,6,7,8,10]),(zM 12 41,[0,1,2,3,4,5,6,7,8,9,10,11])] [1,3,6,8,11,12]) (.seq (.seq (.reg [zM 42 12,qO 43 42] [1,3,6,8,11,43]) (.cond (.t 43) (.seq (.reg [zA 44 (.build zN []),qS 5 6 44,qB 7 false] [6,7]) .ret) .skip)) (.seq (.jQ [(qT 45 5 3,[]),(zM 46 1,[]),(zM 47 8,[]),(zA 48 (.slsl 1 (.t 46) none (some (.t 47))),[1,2]),(qT 49 5 11,[]),(q3 50 203 45 48 49,[0,1,2,3,4]),(qE 51 50 0,[0,1,2,3,4,5]),(qE 52 50 1,[0,1,2,3,4,5]),(qS 5 6 51,[0,1,2,3,4,5,6,7]),(zM 7 52,[0,1,2,3,4,5,6,7,8])] [6,7]) .ret))))))))
theorem K.kX:fE pZ 202 3 0 C.kX [.cell 6 true 5,.tmp 7]=true:=by kernel_rfl
def C.fQ:bD:=(.seq (.reg [qX 1 10 0,zA 2 (.mv (.k (.nsl 1)))] [1]) (.seq (.reg [zA 8 (.bslice 11 1 0 [.str []] []),zA 9 (.bslice 12 1 1 [.sl 1 []] [(0,.t 8)]),zM 3 9] [1,3]) (.seq (.seq (.reg [qI 4 0] [1,3,4]) (.block 0 (.loop (.seq (.seq (.reg [zM 10 4,qA 11 4 1,qF 12 1 11,qL 13 12,zA 14 (.bin .lss (.t 10) (.t 13))] [1,3,4,14]) (.cond (.t 14) .skip (.exit 0))) (.seq (.block 1 (.seq (.reg [zM 17 4,q1 18 108 17,zM 5 18] [1,3,4,5]) (.cut (.seq (.reg [qA 19 0 1,qF 20 1 19,zA 21 (.bin .eql (.t 20) (kI 4))] [1,3,4,5,21]) (.cond (.t 21) (.reg [qA 22 3 1,qF 23 1 22,zM 24 4,qD 25 1 23 24,qF 26 1 25,zM 5 26] [1,3,4,5]) .skip)) (.seq (.reg [qA 27 4 1,qF 28 1 27,zM 29 4,qD 30 5 28 29,qT 31 5 30,q1 32 200 31,zM 6 32] [1,3,4,5,6]) (.seq (.reg [qI 7 0] [1,3,4,5,6,7]) (.block 2 (.loop (.seq (.seq (.reg [zM 33 7,zM 34 6,qL 35 34,zA 36 (.bin .lss (.t 33) (.t 35))] [1,3,4,5,6,7,36]) (.cond (.t 36) .skip (.exit 2))) (.seq (.block 3 (.reg [zM 39 3,zM 40 5,zA 41 (.bslice 13 1 1 [.str []] [(0,.t 40)]),zM 42 6,zM 43 7,qD 44 1 42 43,qF 45 1 44,zA 46 (.append 14 1 16 (.t 41) (.t 45)),zA 47 (.bslice 15 1 1 [.sl 1 []] [(0,.t 46)]),zA 48 (.append 16 1 24 (.t 39) (.t 47)),zM 3 48] [1,3,4,5,6,7])) (.reg [zM 37 7,zA 38 (.bin .add (.t 37) (kI 1)),zM 7 38] [1,3,4,5,6,7])))))))))) (.reg [zM 15 4,zA 16 (.bin .add (.t 15) (kI 1)),zM 4 16] [1,3,4])))))) (.seq (.reg [zM 49 3,zM 2 49] [2]) .ret))))
theorem K.fQ:fE pZ 200 1 0 C.fQ [.tmp 2]=true:=by kernel_rfl
def C.iO:bD:=(.seq (.reg [qX 2 10 0,qZ 4 11,qB 5 false] [1,2,4]) (.seq (.reg [zM 12 1,qL 13 12,zA 14 (.bin .sub (.t 13) (kI 1)),zM 6 14] [1,2,4,6]) (.seq (.seq (.reg [zM 15 6,zA 16 (.bin .lss (.t 15) (kI 0))] [1,2,4,6,16]) (.cond (.t 16) (.seq (.reg [zA 17 (.build zN []),qS 5 4 17,qB 5 false] [4,5]) .ret) .skip)) (.seq (.jQ [(qT 19 5 2,[]),(zM 20 1,[]),(zM 21 6,[]),(zA 22 (.slsl 1 (.t 20) none (some (.t 21))),[1,2]),(q2 23 205 19 22,[0,1,2,3]),(zM 18 23,[0,1,2,3,4]),(qE 24 18 0,[0,1,2,3,4,5]),(qE 25 18 1,[0,1,2,3,4,5]),(qZ 7 12,[]),(qS 5 7 24,[0,1,2,3,4,5,6,8]),(zM 8 25,[0,1,2,3,4,5,6,7,8,9])] [1,2,4,6,7,8]) (.seq (.seq (.reg [zM 26 8,qO 27 26] [1,2,4,6,7,27]) (.cond (.t 27) (.seq (.reg [zA 28 (.build zN []),qS 5 4 28,qB 5 false] [4,5]) .ret) .skip)) (.seq (.jQ [(qT 29 5 7,[]),(zM 30 1,[]),(zM 31 6,[]),(qD 32 1 30 31,[1,2]),(qF 33 1 32,[1,2,3]),(q2 34 208 29 33,[0,1,2,3,4]),(zM 9 34,[0,1,2,3,4,5])] [1,2,4,6,7,9]) (.seq (.seq (.reg [zM 35 9,zA 36 (.bin .lss (.t 35) (kI 0))] [1,2,4,6,7,9,36]) (.cond (.t 36) (.seq (.reg [zA 37 (.build zN []),qS 5 4 37,qB 5 false] [4,5]) .ret) .skip)) (.seq (.jQ [(zA 38 (.bslice 13 5 0 [.lit (.int .i64 0),.lit (.int .i64 0),.str [],.sl 1 [],.sl 5 []] []),[]),(qA 39 4 7,[]),(qF 40 1 39,[1]),(zM 41 9,[]),(zA 42 (.slsl 5 (.t 40) none (some (.t 41))),[1,2,3]),(zA 43 (.append 14 5 80 (.t 38) (.t 42)),[0,1,2,3,4]),(qA 44 4 7,[]),(qF 45 1 44,[6]),(zM 46 9,[]),(zA 47 (.bin .add (.t 46) (kI 1)),[8]),(zA 48 (.slsl 5 (.t 45) (some (.t 47)) none),[6,7,8,9]),(zA 49 (.append 15 5 80 (.t 43) (.t 48)),[0,1,2,3,4,5,6,7,8,9,10]),(zM 10 49,[0,1,2,3,4,5,6,7,8,9,10,11])] [1,2,4,6,7,9,10]) (.seq (.reg [zA 50 (.bslice 16 1 0 [.str []] []),zM 11 50] [1,2,4,6,7,9,10,11]) (.cut (.seq (.reg [qA 51 0 7,qF 52 1 51,zA 53 (.bin .eql (.t 52) (kI 4))] [1,2,4,6,7,9,10,11,53]) (.cond (.t 53) (.jQ [(zA 54 (.bslice 17 1 0 [.str []] []),[]),(qA 55 3 7,[]),(qF 56 1 55,[1]),(zM 57 9,[]),(zA 58 (.slsl 1 (.t 56) none (some (.t 57))),[1,2,3]),(zA 59 (.append 18 1 16 (.t 54) (.t 58)),[0,1,2,3,4]),(qA 60 3 7,[]),(qF 61 1 60,[6]),(zM 62 9,[]),(zA 63 (.bin .add (.t 62) (kI 1)),[8]),(zA 64 (.slsl 1 (.t 61) (some (.t 63)) none),[6,7,8,9]),(zA 65 (.append 19 1 16 (.t 59) (.t 64)),[0,1,2,3,4,5,6,7,8,9,10]),(zM 11 65,[0,1,2,3,4,5,6,7,8,9,10,11])] [1,2,4,6,7,10,11]) .skip)) (.seq (.jQ [(qT 66 5 2,[]),(zM 67 1,[]),(zM 68 6,[]),(zA 69 (.slsl 1 (.t 67) none (some (.t 68))),[1,2]),(qA 70 0 7,[]),(qF 71 1 70,[4]),(zM 72 11,[]),(zM 73 10,[]),(zA 74 (.build zN [(0,1,.t 71),(3,1,.t 72),(4,1,.t 73)]),[4,5,6,7]),(q3 75 203 66 69 74,[0,1,2,3,4,5,6,7,8]),(qE 76 75 0,[0,1,2,3,4,5,6,7,8,9]),(qE 77 75 1,[0,1,2,3,4,5,6,7,8,9]),(qS 5 4 76,[0,1,2,3,4,5,6,7,8,9,10,11]),(zM 5 77,[0,1,2,3,4,5,6,7,8,9,10,11,12])] [4,5]) .ret)))))))))))
theorem K.iO:fE pZ 201 2 0 C.iO [.cell 4 true 5,.tmp 5]=true:=by kernel_rfl
def C.iD:bD:=(.seq (.reg [qX 3 10 1,qZ 4 11] [0,3,4]) (.seq (.reg [qT 9 5 3,q1 10 200 9,zM 5 10] [0,3,4,5]) (.seq (.reg [zM 11 5,zM 12 0,zM 13 5,qL 14 13,q2 15 46 12 14,qD 16 1 11 15,qF 17 1 16,zM 6 17] [0,3,4,6]) (.seq (.reg [qT 18 5 3,q1 19 87 18,qZ 7 12,qS 5 7 19] [0,3,4,6,7]) (.seq (.reg [qB 8 true] [0,3,4,6,7,8]) (.cut (.seq (.reg [zM 20 0,⟨none,some 21,.call 46 [.t 20,kI 5]⟩] [0,3,4,6,7,8,21]) (.block 0 (.seq (.reg [zA 23 (.bin .eql (.t 21) (kI 0)),zM 22 23] [0,3,4,6,7,8,21,22]) (.cond (.t 22) (.reg [qT 25 5 3,zM 26 6,q2 27 201 25 26,zM 24 27,qE 28 24 0,qE 29 24 1,qS 5 7 28,zM 8 29] [3,4,7,8]) (.seq (.reg [zA 31 (.bin .eql (.t 21) (kI 1)),zM 30 31] [0,3,4,6,7,8,21,30]) (.cond (.t 30) (.jQ [(qT 33 5 3,[]),(zA 34 (.bslice 13 1 0 [.str []] []),[]),(zM 35 6,[]),(zA 36 (.append 14 1 16 (.t 34) (.t 35)),[1,2]),(zM 37 0,[]),(zA 38 (.bslice 15 1 4 [.str []] [(0,.k (.c (.str [97]))),(1,.k (.c (.str [48]))),(2,.k (.c (.str [45]))),(3,.k (.c (.str [122])))]),[]),(q2 39 53 37 38,[1,2,3,4,5]),(zA 40 (.bslice 16 1 1 [.str []] [(0,.t 39)]),[1,2,3,4,5,6]),(zA 41 (.append 17 1 16 (.t 36) (.t 40)),[1,2,3,4,5,6,7]),(zM 42 0,[]),(⟨none,some 43,.call 167 [.t 42,kI 2]⟩,[1,2,3,4,5,6,7,8,9]),(q3 44 202 33 41 43,[0,1,2,3,4,5,6,7,8,9,10]),(zM 32 44,[0,1,2,3,4,5,6,7,8,9,10,11]),(qE 45 32 0,[0,1,2,3,4,5,6,7,8,9,10,11,12]),(qE 46 32 1,[0,1,2,3,4,5,6,7,8,9,10,11,12]),(qS 5 7 45,[0,1,2,3,4,5,6,7,8,9,10,11,12,13]),(zM 8 46,[0,1,2,3,4,5,6,7,8,9,10,11,12,13,14,15])] [3,4,7,8]) (.seq (.reg [zA 48 (.bin .eql (.t 21) (kI 2)),zM 47 48] [0,3,4,6,7,8,21,47]) (.cond (.t 47) (.jQ [(qT 50 5 3,[]),(zM 51 6,[]),(zM 52 0,[]),(⟨none,some 53,.call 167 [.t 52,kI 2]⟩,[2]),(q3 54 203 50 51 53,[0,1,2,3]),(zM 49 54,[0,1,2,3,4]),(qE 55 49 0,[0,1,2,3,4,5]),(qE 56 49 1,[0,1,2,3,4,5]),(qS 5 7 55,[0,1,2,3,4,5,6]),(zM 8 56,[0,1,2,3,4,5,6,7,8])] [3,4,7,8]) (.seq (.reg [zA 58 (.bin .eql (.t 21) (kI 3)),zM 57 58] [0,3,4,7,8,57]) (.cond (.t 57) (.seq (.reg [zM 59 0,q1 60 122 59,qS 5 4 60] [4]) .ret) .skip)))))))))) (.seq (.seq (.reg [zM 61 8,qO 62 61,zM 63 62,zG 63 false 64 (.load true 5 (.t 7)),⟨(some (63,false)),some 65,.call 35 [.t 64]⟩,zG 63 false 66 (.not (.t 65)),qQ 67 63 66] [3,4,7,67]) (.cond (.t 67) (.seq (.reg [qT 68 5 3,q1 69 87 68,qS 5 4 69] [4]) .ret) .skip)) (.seq (.reg [qT 70 5 7,qS 5 4 70] [4]) .ret))))))))
theorem K.iD:fE pZ 163 2 1 C.iD [.cell 4 true 5]=true:=by kernel_rfl
def C.jH:bD:=(.seq (.reg [qX 1 10 0,zA 2 (.mv (.k (.nsl 1)))] [1]) (.seq (.seq (.reg [qT 3 5 1,q1 4 35 3,qO 5 4] [1,5]) (.cond (.t 5) (.seq (.reg [zA 2 (.mv (.k (.nsl 1)))] [2]) .ret) .skip)) (.seq (.reg [qT 6 5 1,q1 7 200 6,zM 2 7] [2]) .ret)))
theorem K.jH:fE pZ 236 1 0 C.jH [.tmp 2]=true:=by kernel_rfl
def C.gQ:bD:=(.seq (.reg [zA 2 (.mv (.k (.nsl 1)))] [0]) (.seq (.reg [zA 5 (.bslice 10 1 0 [.str []] []),zM 3 5] [0,3]) (.seq (.seq (.reg [zM 6 0,zA 7 (.bslice 11 1 7 [.lit (.int .i64 0)] [(0,kI 1),(1,kI 2),(2,kI 1),(3,kI 0),(4,kI 3),(5,kI 5),(6,kI 6)]),q2 8 54 6 7,zM 4 8] [0,3,4]) (.block 0 (.loop (.seq (.seq (.reg [zM 9 4,zA 10 (.bin .gtr (.t 9) (kI 0))] [0,3,4,10]) (.cond (.t 10) .skip (.exit 0))) (.seq (.block 1 (.reg [zM 13 3,zM 14 0,zA 15 (.bslice 12 1 9 [.str []] [(0,.k (.c (.str [97]))),(1,.k (.c (.str [98]))),(2,.k (.c (.str [48]))),(3,.k (.c (.str [49]))),(4,.k (.c (.str [45]))),(5,.k (.c (.str [97,47,98]))),(6,.k (.c (.str [126,120]))),(7,.k (.c (.str []))),(8,.k (.c (.str [99])))]),q2 16 53 14 15,zA 17 (.bslice 13 1 1 [.str []] [(0,.t 16)]),zA 18 (.append 14 1 16 (.t 13) (.t 17)),zM 3 18] [0,3,4])) (.reg [zM 11 4,zA 12 (.bin .sub (.t 11) (kI 1)),zM 4 12] [0,3,4])))))) (.seq (.seq (.reg [zM 19 3,qL 20 19,zA 21 (.bin .gtr (.t 20) (kI 0)),zM 22 21,zG 22 true 23 (.mv (.t 0)),⟨(some (22,true)),some 24,.call 46 [.t 23,kI 20]⟩,zG 22 true 25 (.bin .eql (.t 24) (kI 0)),qP 26 22 25] [0,3,26]) (.cond (.t 26) (.reg [zM 27 3,zM 28 0,zA 29 (.bslice 15 1 2 [.str []] [(0,.k (.c (.str [97,98,99,100,101,102,103,104,105,106,107,108,109]))),(1,.k (.c (.str [10])))]),q2 30 53 28 29,zA 31 (.iaddr 1 (.t 27) (kI 0)),qU 1 31 30] [3]) .skip)) (.seq (.reg [zM 32 3,zM 2 32] [2]) .ret)))))
theorem K.gQ:fE pZ 237 1 1 C.gQ [.tmp 2]=true:=by kernel_rfl
def C.jS:bD:=(.seq (.reg [qX 3 10 1,zA 4 (.mv (.k (.nsl 1)))] [0,3]) (.seq (.reg [qT 6 5 3,q1 7 236 6,zM 5 7] [0,5]) (.seq (.seq (.reg [zM 8 5,qL 9 8,zA 10 (.bin .gtr (.t 9) (kI 0)),zM 11 10,zG 11 true 12 (.mv (.t 0)),⟨(some (11,true)),some 13,.call 46 [.t 12,kI 4]⟩,zG 11 true 14 (.bin .gtr (.t 13) (kI 0)),qP 15 11 14] [0,5,15]) (.cond (.t 15) (.seq (.reg [zM 16 5,zM 17 0,zM 18 5,qL 19 18,q2 20 46 17 19,qD 21 1 16 20,qF 22 1 21,zM 4 22] [4]) .ret) .skip)) (.seq (.reg [zM 23 0,q1 24 237 23,zM 4 24] [4]) .ret))))
theorem K.jS:fE pZ 204 2 1 C.jS [.tmp 4]=true:=by kernel_rfl
def C.aZ:bD:=(.seq (.reg [qX 3 10 1,zA 4 (.alloc 11 [jc 0,.nsl 1,.nsl 1,jc 0,jc 0,.c (.str []),.nsl 1,.nsl 5])] [0,3,4]) (.seq (.jQ [(zM 8 0,[]),(⟨none,some 9,.call 46 [.t 8,kI 6]⟩,[0]),(zA 10 (.bin .add (kI 1) (.t 9)),[0,1]),(zM 11 0,[]),(qT 12 5 3,[]),(q2 13 204 11 12,[0,1,3,4]),(zA 14 (.bslice 12 1 0 [.str []] []),[]),(zA 15 (.build zN []),[]),(zA 16 (.build [jc 0,.nsl 1,.nsl 1,jc 0,jc 0,.c (.str []),.nsl 1,.nsl 5] [(0,1,.t 10),(1,1,.t 13),(2,1,.t 14),(3,5,.t 15)]),[0,1,2,3,4,5,6,7]),(zA 5 (.alloc 13 [jc 0,.nsl 1,.nsl 1,jc 0,jc 0,.c (.str []),.nsl 1,.nsl 5]),[]),(qS 8 5 16,[0,1,2,3,4,5,6,7,8,9])] [0,3,4,5]) (.cut (.seq (.reg [qA 17 0 5,qF 18 1 17] [0,3,4,5,18]) (.block 0 (.cut (.seq (.reg [zA 20 (.bin .eql (.t 18) (kI 1)),zM 19 20] [0,3,4,5,18,19]) (.cond (.t 19) .skip (.reg [zA 21 (.bin .eql (.t 18) (kI 3)),zM 19 21] [0,3,4,5,18,19]))) (.cond (.t 19) (.reg [zM 22 0,⟨none,some 23,.call 167 [.t 22,kI 2]⟩,qA 24 3 5,qS 5 24 23] [0,4,5]) (.seq (.reg [zA 26 (.bin .eql (.t 18) (kI 6)),zM 25 26] [0,3,4,5,18,25]) (.cond (.t 25) (.seq (.reg [qT 28 5 3,qA 29 1 5,qF 30 1 29,q2 31 205 28 30,zM 27 31,qE 32 27 0,qE 33 27 1,qZ 6 14,qS 5 6 32,zM 7 33] [0,4,5,6,7]) (.seq (.reg [zM 34 7,zM 35 34,zG 35 true 36 (.mv (.t 0)),⟨(some (35,true)),some 37,.call 46 [.t 36,kI 3]⟩,zG 35 true 38 (.bin .gtr (.t 37) (kI 0)),qP 39 35 38] [0,4,5,6,39]) (.cond (.t 39) (.reg [qT 40 5 6,qA 41 3 5,qS 5 41 40] [0,4,5]) .skip))) (.cut (.seq (.reg [zA 43 (.bin .eql (.t 18) (kI 4)),zM 42 43] [0,3,4,5,18,42]) (.cond (.t 42) .skip (.reg [zA 44 (.bin .eql (.t 18) (kI 5)),zM 42 44] [0,3,4,5,42]))) (.cond (.t 42) (.reg [zM 45 0,qT 46 5 3,q2 47 204 45 46,qA 48 2 5,qU 1 48 47] [0,4,5]) .skip)))))))) (.seq (.cut (.reg [qA 49 1 5,qF 50 1 49,qL 51 50,zA 52 (.bin .lss (.t 51) (kI 4)),zM 53 52,zG 53 true 54 (.faddr 0 (.t 5)),zG 53 true 55 (.load false 1 (.t 54)),zG 53 true 56 (.bin .eql (.t 55) (kI 1)),zG 53 true 57 (.mv (.t 56)),zG 57 false 58 (.faddr 0 (.t 5)),zG 57 false 59 (.load false 1 (.t 58)),zG 57 false 60 (.bin .eql (.t 59) (kI 4)),zG 53 true 61 (.pick (.t 57) (kB true) (.t 60)),zG 53 true 62 (.mv (.t 61)),zG 62 false 63 (.faddr 0 (.t 5)),zG 62 false 64 (.load false 1 (.t 63)),zG 62 false 65 (.bin .eql (.t 64) (kI 5)),zG 53 true 66 (.pick (.t 62) (kB true) (.t 65)),qP 67 53 66,zM 68 67,zG 68 true 69 (.mv (.t 0)),⟨(some (68,true)),some 70,.call 46 [.t 69,kI 2]⟩,zG 68 true 71 (.bin .eql (.t 70) (kI 0)),qP 72 68 71] [0,4,5,72]) (.cond (.t 72) (.reg [zA 73 (.bslice 15 1 0 [.str []] []),qA 74 1 5,qF 75 1 74,zA 76 (.append 16 1 16 (.t 73) (.t 75)),zM 77 0,zA 78 (.bslice 17 1 4 [.str []] [(0,.k (.c (.str [122]))),(1,.k (.c (.str [45]))),(2,.k (.c (.str [48]))),(3,.k (.c (.str [101])))]),q2 79 53 77 78,zA 80 (.bslice 18 1 1 [.str []] [(0,.t 79)]),zA 81 (.append 19 1 16 (.t 76) (.t 80)),qA 82 1 5,qU 1 82 81] [4,5]) .skip)) (.seq (.reg [qT 83 8 5,qS 8 4 83] [4]) .ret)))))
theorem K.aZ:fE pZ 164 2 1 C.aZ [.cell 4 true 8]=true:=by kernel_rfl
def C.aG:bD:=(.seq (.reg [qX 3 10 1,zA 4 (.alloc 11 [jc 0,.c (.str []),.nsl 1,.nsl 1,jc 0,jc 0,.c (.str []),.nsl 1,.nsl 5,.nsl 8])] [0,3,4]) (.seq (.reg [zM 10 0,qT 11 2 3,q2 12 159 10 11,zM 5 12] [0,3,4,5]) (.seq (.reg [qT 14 2 3,zM 15 5,q2 16 160 14 15,zM 13 16,qE 17 13 0,qE 18 13 1,zA 6 (.alloc 12 [.c (.str []),jc 0,jc 0,jc 0,.c (.str []),.nsl 1,.nsl 5]),qS 7 6 17,zM 7 18] [0,4,5,6,7]) (.seq (.reg [zM 19 0,⟨none,some 20,.call 46 [.t 19,kI 5]⟩,zA 21 (.bin .add (kI 1) (.t 20)),zM 22 5,zA 23 (.bslice 13 1 0 [.str []] []),zA 24 (.bslice 14 1 0 [.str []] []),zA 25 (.bslice 15 8 0 [.lit (.int .i64 0),.sl 1 [],.sl 1 [],.lit (.int .i64 0),.lit (.int .i64 0),.str [],.sl 1 [],.sl 5 []] []),zA 26 (.build [jc 0,.c (.str []),.nsl 1,.nsl 1,jc 0,jc 0,.c (.str []),.nsl 1,.nsl 5,.nsl 8] [(0,1,.t 21),(1,1,.t 22),(2,1,.t 23),(3,1,.t 24),(9,1,.t 25)]),zA 8 (.alloc 16 [jc 0,.c (.str []),.nsl 1,.nsl 1,jc 0,jc 0,.c (.str []),.nsl 1,.nsl 5,.nsl 8]),qS 10 8 26] [0,4,6,7,8]) (.cut (.seq (.reg [zM 27 0,⟨none,some 28,.call 46 [.t 27,kI 3]⟩,zA 29 (.bin .eql (.t 28) (kI 0))] [0,4,6,7,8,29]) (.cond (.t 29) (.reg [zM 30 0,qA 31 2 6,qT 32 5 31,q1 33 162 32,q2 34 161 30 33,qA 35 2 8,qU 1 35 34] [0,4,6,7,8]) .skip)) (.cut (.seq (.reg [zM 36 0,⟨none,some 37,.call 46 [.t 36,kI 4]⟩,zA 38 (.bin .eql (.t 37) (kI 0))] [0,4,6,7,8,38]) (.cond (.t 38) (.reg [zM 39 0,qA 40 2 6,qT 41 5 40,q1 42 162 41,q2 43 161 39 42,qA 44 3 8,qU 1 44 43] [0,4,6,7,8]) .skip)) (.cut (.seq (.reg [qA 45 0 8,qF 46 1 45] [0,4,6,7,8,46]) (.block 0 (.seq (.reg [zA 48 (.bin .eql (.t 46) (kI 2)),zM 47 48] [0,4,6,7,8,46,47]) (.cond (.t 47) (.reg [zM 49 0,q1 50 122 49,qA 51 4 8,qS 5 51 50] [0,4,7,8]) (.seq (.reg [zA 53 (.bin .eql (.t 46) (kI 5)),zM 52 53] [0,4,6,7,8,46,52]) (.cond (.t 52) (.reg [zM 54 0,qA 55 2 6,qT 56 5 55,q2 57 163 54 56,qA 58 4 8,qS 5 58 57] [0,4,7,8]) (.seq (.reg [zA 60 (.bin .eql (.t 46) (kI 4)),zM 59 60] [0,4,6,7,8,59]) (.cond (.t 59) (.seq (.reg [zM 61 0,⟨none,some 62,.call 46 [.t 61,kI 3]⟩,zM 9 62] [0,4,6,7,8,9]) (.block 1 (.loop (.seq (.seq (.reg [zM 63 9,zA 64 (.bin .gtr (.t 63) (kI 0))] [0,4,6,7,8,9,64]) (.cond (.t 64) .skip (.exit 1))) (.seq (.block 2 (.jQ [(qA 67 9 8,[]),(qF 68 1 67,[0]),(zM 69 0,[]),(qA 70 2 6,[]),(qT 71 5 70,[3]),(q2 72 164 69 71,[2,3,4]),(zA 73 (.bslice 17 8 1 [.lit (.int .i64 0),.sl 1 [],.sl 1 [],.lit (.int .i64 0),.lit (.int .i64 0),.str [],.sl 1 [],.sl 5 []] [(0,.t 72)]),[2,3,4,5]),(zA 74 (.append 18 8 136 (.t 68) (.t 73)),[0,1,2,3,4,5,6]),(qA 75 9 8,[0,1,2,3,4,5,6,7]),(qU 1 75 74,[0,1,2,3,4,5,6,7,8])] [0,4,6,7,8,9])) (.reg [zM 65 9,zA 66 (.bin .sub (.t 65) (kI 1)),zM 9 66] [0,4,6,7,8,9])))))) .skip)))))))) (.seq (.seq (.reg [zM 76 7,qO 77 76,zM 78 77,zG 78 true 79 (.mv (.t 0)),⟨(some (78,true)),some 80,.call 46 [.t 79,kI 2]⟩,zG 78 true 81 (.bin .eql (.t 80) (kI 0)),qP 82 78 81] [4,8,82]) (.cond (.t 82) (.reg [qA 83 0 8,zS (.store false 1 (.t 83) (kI 2))] [4,8]) .skip)) (.seq (.reg [qT 84 10 8,qS 10 4 84] [4]) .ret)))))))))
theorem K.aG:fE pZ 117 2 1 C.aG [.cell 4 true 10]=true:=by kernel_rfl
def C.ja:bD:=(.seq (.reg [qX 3 10 1,zA 4 (.alloc 11 [jc 0,.c (.str []),.nsl 1,.nsl 1,jc 0,jc 0,.c (.str []),.nsl 1,.nsl 5,.nsl 8])] [0,3,4]) (.seq (.reg [zM 6 0,qT 7 2 3,q2 8 117 6 7,zA 5 (.alloc 12 [jc 0,.c (.str []),.nsl 1,.nsl 1,jc 0,jc 0,.c (.str []),.nsl 1,.nsl 5,.nsl 8]),qS 10 5 8] [0,4,5]) (.seq (.seq (.reg [zM 9 0,⟨none,some 10,.call 46 [.t 9,kI 30]⟩] [0,4,5,10]) (.block 0 (.seq (.reg [zA 12 (.bin .eql (.t 10) (kI 0)),zM 11 12] [0,4,5,10,11]) (.cond (.t 11) (.reg [zM 13 0,zA 14 (.bslice 13 1 2 [.lit (.int .i64 0)] [(0,kI 0),(1,kI 6)]),q2 15 54 13 14,qA 16 0 5,qU 1 16 15] [4,5]) (.seq (.reg [zA 18 (.bin .eql (.t 10) (kI 1)),zM 17 18] [0,4,5,10,17]) (.cond (.t 17) (.reg [zM 19 0,q1 20 118 19,qA 21 1 5,qU 1 21 20] [4,5]) (.seq (.reg [zA 23 (.bin .eql (.t 10) (kI 2)),zM 22 23] [0,4,5,22]) (.cond (.t 22) (.reg [zM 24 0,q1 25 119 24,qA 26 4 5,qS 5 26 25] [4,5]) .skip)))))))) (.seq (.reg [qT 27 10 5,qS 10 4 27] [4]) .ret))))
theorem K.ja:fE pZ 68 2 1 C.ja [.cell 4 true 10]=true:=by kernel_rfl
def C.iY:bD:=(.seq (.reg [qX 2 10 0,zA 4 (.alloc 11 [.nsl 7,jc 0])] [1,2,4]) (.seq (.reg [zA 8 (.bslice 12 7 0 [.str [],.lit (.int .i64 0),.lit (.int .i64 0),.lit (.int .i64 0),.str [],.sl 1 [],.sl 5 []] []),zM 5 8] [1,2,4,5]) (.seq (.reg [qT 9 2 2,q1 10 110 9,zA 11 (.field false 0 1 (.t 10)),zM 6 11] [1,2,4,5,6]) (.seq (.seq (.reg [qI 7 0] [1,2,4,5,6,7]) (.block 0 (.loop (.seq (.seq (.reg [zM 12 7,zM 13 6,qL 14 13,zA 15 (.bin .lss (.t 12) (.t 14))] [1,2,4,5,6,7,15]) (.cond (.t 15) .skip (.exit 0))) (.seq (.block 1 (.seq (.reg [zM 18 6,zM 19 7,qD 20 7 18 19,qA 21 0 20,qF 22 1 21,zM 23 1,zA 24 (.bin .neq (.t 22) (.t 23))] [1,2,4,5,6,7,24]) (.cond (.t 24) (.reg [zM 25 5,zM 26 6,zM 27 7,qD 28 7 26 27,qT 29 7 28,zA 30 (.bslice 13 7 1 [.str [],.lit (.int .i64 0),.lit (.int .i64 0),.lit (.int .i64 0),.str [],.sl 1 [],.sl 5 []] [(0,.t 29)]),zA 31 (.append 14 7 104 (.t 25) (.t 30)),zM 5 31] [1,2,4,5,6,7]) .skip))) (.reg [zM 16 7,zA 17 (.bin .add (.t 16) (kI 1)),zM 7 17] [1,2,4,5,6,7])))))) (.seq (.reg [zM 32 5,qA 33 1 2,qF 34 1 33,zA 35 (.bin .add (.t 34) (kI 1)),zA 36 (.build [.nsl 7,jc 0] [(0,1,.t 32),(1,1,.t 35)]),qS 2 4 36] [4]) .ret)))))
theorem K.iY:fE pZ 170 2 0 C.iY [.cell 4 true 2]=true:=by kernel_rfl
def C.jh:bD:=(.seq (.reg [qX 2 10 0,zA 4 (.alloc 11 [.nsl 7,jc 0]),qB 5 false] [1,2,4]) (.seq (.seq (.reg [qT 6 2 2,q1 7 165 6,qO 8 7,zM 9 8,zG 9 false 10 (.load true 2 (.t 2)),zG 9 false 11 (.mv (.t 1)),⟨(some (9,false)),some 12,.call 169 [.t 10,.t 11]⟩,zG 9 false 13 (.bin .lss (.t 12) (kI 0)),qQ 14 9 13,zM 15 14,zG 15 false 16 (.faddr 1 (.t 2)),zG 15 false 17 (.load false 1 (.t 16)),zG 15 false 18 (.bin .eql (.t 17) (kI 999)),qQ 19 15 18] [1,2,4,19]) (.cond (.t 19) (.seq (.reg [zA 20 (.build [.nsl 7,jc 0] []),qS 2 4 20,qB 5 false] [4,5]) .ret) .skip)) (.seq (.reg [qT 21 2 2,zM 22 1,q2 23 170 21 22,qS 2 4 23,qB 5 true] [4,5]) .ret)))
theorem K.jh:fE pZ 123 2 0 C.jh [.cell 4 true 2,.tmp 5]=true:=by kernel_rfl
end Go.Ab
end
