/- The functions of the program that the laws reach: what they compute, the proofs that they do, the laws of the data (part 1). No conditions. -/
import Derived.Test.YtmfgjjhlnaibkaaGreatDoorX2
set_option linter.unusedVariables false
set_option linter.unusedSimpArgs false
section
namespace Go.Ab
open Go
set_option maxRecDepth 100000
set_option maxHeartbeats 4000000
set_option linter.unusedVariables false
set_option linter.unusedSimpArgs false
structure af where
 Kind:Int
 Num:Int
 Text:aK
 Names:List aK
 Kids:List af
 deriving Inhabited
mutual
def af.cells:af->List Cell
 | af.mk x0 x1 x2 x3 x4=>[.lit (.int .i64 x0),.lit (.int .i64 x1),.str x2,.sl 1 (List.map cS x3),.sl 5 (af.pR x4)]
def af.pR:List af->List (List Cell)
 | []=>[]
 | x::r=>x.cells::af.pR r
end
theorem af.Bf (ks:List af):af.pR ks=List.map af.cells ks:=by
 induction ks with
 | nil=>rfl
 | cons x r ih=>simp [af.pR,ih]
theorem af.dL (n:af):n.cells=[.lit (.int .i64 n.Kind),.lit (.int .i64 n.Num),.str n.Text,.sl 1 (List.map cS n.Names),.sl 5 (List.map af.cells n.Kids)]:=by
 cases n
 rw [af.cells,af.Bf]
structure jr where
 Kind:Int
 Path:List aK
 From:List aK
 Value:af
 deriving Inhabited
def jr.cells (n:jr):List Cell:=[.lit (.int .i64 n.Kind),.sl 1 (List.map cS n.Path),.sl 1 (List.map cS n.From),.lit (.int .i64 n.Value.Kind),.lit (.int .i64 n.Value.Num),.str n.Value.Text,.sl 1 (List.map cS n.Value.Names),.sl 5 (List.map af.cells n.Value.Kids)]
theorem jr.dL (n:jr):n.cells=[.lit (.int .i64 n.Kind),.sl 1 (List.map cS n.Path),.sl 1 (List.map cS n.From),.lit (.int .i64 n.Value.Kind),.lit (.int .i64 n.Value.Num),.str n.Value.Text,.sl 1 (List.map cS n.Value.Names),.sl 5 (List.map af.cells n.Value.Kids)]:=rfl
structure RequestT where
 Method:Int
 Name:aK
 Want:List aK
 ja:List aK
 Body:af
 Ops:List jr
 deriving Inhabited
def RequestT.cells (n:RequestT):List Cell:=[.lit (.int .i64 n.Method),.str n.Name,.sl 1 (List.map cS n.Want),.sl 1 (List.map cS n.ja),.lit (.int .i64 n.Body.Kind),.lit (.int .i64 n.Body.Num),.str n.Body.Text,.sl 1 (List.map cS n.Body.Names),.sl 5 (List.map af.cells n.Body.Kids),.sl 8 (List.map jr.cells n.Ops)]
theorem RequestT.dL (n:RequestT):n.cells=[.lit (.int .i64 n.Method),.str n.Name,.sl 1 (List.map cS n.Want),.sl 1 (List.map cS n.ja),.lit (.int .i64 n.Body.Kind),.lit (.int .i64 n.Body.Num),.str n.Body.Text,.sl 1 (List.map cS n.Body.Names),.sl 5 (List.map af.cells n.Body.Kids),.sl 8 (List.map jr.cells n.Ops)]:=rfl
structure ReaderT where
 b:List Int
 p:Int
 deriving Inhabited
def ReaderT.cells (n:ReaderT):List Cell:=[.sl 1 (List.map cU n.b),.lit (.int .i64 n.p)]
theorem ReaderT.dL (n:ReaderT):n.cells=[.sl 1 (List.map cU n.b),.lit (.int .i64 n.p)]:=rfl
structure bY where
 Name:aK
 Version:Int
 Node:af
 deriving Inhabited
def bY.cells (n:bY):List Cell:=[.str n.Name,.lit (.int .i64 n.Version),.lit (.int .i64 n.Node.Kind),.lit (.int .i64 n.Node.Num),.str n.Node.Text,.sl 1 (List.map cS n.Node.Names),.sl 5 (List.map af.cells n.Node.Kids)]
theorem bY.dL (n:bY):n.cells=[.str n.Name,.lit (.int .i64 n.Version),.lit (.int .i64 n.Node.Kind),.lit (.int .i64 n.Node.Num),.str n.Node.Text,.sl 1 (List.map cS n.Node.Names),.sl 5 (List.map af.cells n.Node.Kids)]:=rfl
structure StoreT where
 Items:List bY
 Clock:Int
 deriving Inhabited
def StoreT.cells (n:StoreT):List Cell:=[.sl 7 (List.map bY.cells n.Items),.lit (.int .i64 n.Clock)]
theorem StoreT.dL (n:StoreT):n.cells=[.sl 7 (List.map bY.cells n.Items),.lit (.int .i64 n.Clock)]:=rfl
end Go.Ab
end
section
namespace Go.Ab
open Go
set_option maxRecDepth 100000
set_option maxHeartbeats 4000000
set_option linter.unusedVariables false
set_option linter.unusedSimpArgs false
def G.aT.L1 (f:Nat) (aF:aK) (aC:Int):Option (Bool):=match f with
| 0=>none
| n+1 =>
(cond (decide (aC<((aF.length:Nat):Int)))
(chk (0<=aC/\aC<((aF.length:Nat):Int))
(cond (decide ((((aF.getD aC.toNat 0).toNat:Nat):Int)<32))
(some (false))
(chk (0<=aC/\aC<((aF.length:Nat):Int))
(cond (decide (126<(((aF.getD aC.toNat 0).toNat:Nat):Int)))
(some (false))
(G.aT.L1 n aF (IntKind.wrap .i64 (aC+1)))))))
(some (true)))
def G.aT (f:Nat) (aF:aK):Option (Bool):=match f with
| 0=>none
| n+1 =>
(cond (decide (12<((aF.length:Nat):Int)))
(some (false))
(G.aT.L1 n aF 0))
def G.dw.L1 (f:Nat) (jb:List aK) (gQ:Int):Option (Bool):=match f with
| 0=>none
| n+1 =>
(cond (decide (gQ<((jb.length:Nat):Int)))
(chk (0<=gQ/\gQ<((jb.length:Nat):Int))
((G.aT n (jb.getD gQ.toNat default)).bind fun v3 =>
(cond v3
(cond (decide (0<gQ))
(chk (0<=(IntKind.wrap .i64 (gQ-1))/\(IntKind.wrap .i64 (gQ-1))<((jb.length:Nat):Int))
(cond (Op.bytesLess (jb.getD (IntKind.wrap .i64 (gQ-1)).toNat default) (jb.getD gQ.toNat default))
(G.dw.L1 n jb (IntKind.wrap .i64 (gQ+1)))
(some (false))))
(G.dw.L1 n jb (IntKind.wrap .i64 (gQ+1))))
(some (false)))))
(some (true)))
def G.dw (f:Nat) (jb:List aK):Option (Bool):=match f with
| 0=>none
| n+1 =>
(cond (decide (6<((jb.length:Nat):Int)))
(some (false))
(G.dw.L1 n jb 0))
def G.aV.K1 (f:Nat) (ag:af):Option (Bool):=match f with
| 0=>none
| n+1 =>
(cond (ag.Kind != 4)
(cond (decide (0<((ag.Names.length:Nat):Int)))
(some (false))
(cond (ag.Kind==0)
(some ((((ag.Kids.length:Nat):Int)==0)))
(cond (ag.Kind==1)
(cond (decide ((-999999)<=ag.Num))
(cond (decide (ag.Num<=999999))
(some ((((ag.Kids.length:Nat):Int)==0)))
(some (false)))
(some (false)))
(cond (ag.Kind==2)
((G.aT n ag.Text).bind fun v1 =>
(cond v1
(some ((((ag.Kids.length:Nat):Int)==0)))
(some (false))))
(cond (ag.Kind==3)
(some ((decide (((ag.Kids.length:Nat):Int)<=6))))
(cond (ag.Kind==4)
((G.dw n ag.Names).bind fun v2 =>
(cond v2
(some ((((ag.Kids.length:Nat):Int)==((ag.Names.length:Nat):Int))))
(some (false))))
(some (false))))))))
(cond (ag.Kind==0)
(some ((((ag.Kids.length:Nat):Int)==0)))
(cond (ag.Kind==1)
(cond (decide ((-999999)<=ag.Num))
(cond (decide (ag.Num<=999999))
(some ((((ag.Kids.length:Nat):Int)==0)))
(some (false)))
(some (false)))
(cond (ag.Kind==2)
((G.aT n ag.Text).bind fun v3 =>
(cond v3
(some ((((ag.Kids.length:Nat):Int)==0)))
(some (false))))
(cond (ag.Kind==3)
(some ((decide (((ag.Kids.length:Nat):Int)<=6))))
(cond (ag.Kind==4)
((G.dw n ag.Names).bind fun v4 =>
(cond v4
(some ((((ag.Kids.length:Nat):Int)==((ag.Names.length:Nat):Int))))
(some (false))))
(some (false))))))))
def G.aV (f:Nat) (ag:af):Option (Bool):=match f with
| 0=>none
| n+1 =>
(cond (ag.Kind != 1)
(cond (ag.Num != 0)
(some (false))
(cond (ag.Kind != 2)
(cond (ag.Text==[])
(G.aV.K1 n ag)
(some (false)))
(G.aV.K1 n ag)))
(cond (ag.Kind != 2)
(cond (ag.Text==[])
(G.aV.K1 n ag)
(some (false)))
(G.aV.K1 n ag)))
mutual
def G.aO.L1 (f:Nat) (ag:af) (jO:Int) (FK:Int) (Am:Int) (gQ:Int):Option (Int × Int × Bool):=match f with
| 0=>none
| n+1 =>
(cond (decide (gQ<((ag.Kids.length:Nat):Int)))
(chk (0<=gQ/\gQ<((ag.Kids.length:Nat):Int))
((G.aO n (ag.Kids.getD gQ.toNat default) (IntKind.wrap .i64 (jO+1))).bind fun v4 =>
(cond v4.2.2
(G.aO.L1 n ag jO (IntKind.wrap .i64 (FK+v4.1)) (if (IntKind.wrap .i64 (v4.2.1+1))>Am then (IntKind.wrap .i64 (v4.2.1+1)) else Am) (IntKind.wrap .i64 (gQ+1)))
(some (0,0,false)))))
(some (FK,Am,true)))
def G.aO (f:Nat) (ag:af) (jO:Int):Option (Int × Int × Bool):=match f with
| 0=>none
| n+1 =>
(cond (decide (5<jO))
(some (0,0,false))
((G.aV n ag).bind fun v1 =>
(cond v1
(G.aO.L1 n ag jO 1 1 0)
(some (0,0,false)))))
end
def G.dD (f:Nat) (ag:af):Option (Bool):=match f with
| 0=>none
| n+1 =>
((G.aO n ag 1).bind fun v1 =>
(cond v1.2.2
(some ((decide (v1.1<=40))))
(some (false))))
def G.ak (f:Nat) (b:bH) (c:Int):Option (Unit × bH):=match f with
| 0=>none
| _+1=>(chk ((0<=c/\c<256)/\b.buf.length+1<=140737488355328) (some ((),bH.mk (b.buf++[UInt8.ofNat c.toNat]))))
mutual
def G.aU.K4 (f:Nat) (aF:aK) (aC:Int) (z5:aK):Option (bH):=match f with
| 0=>none
| n+1 =>
(chk (0<=aC/\aC<((aF.length:Nat):Int))
((G.ak n (bH.mk z5) (((aF.getD aC.toNat 0).toNat:Nat):Int)).bind fun v14 =>
(G.aU.L3 n aF (IntKind.wrap .i64 (aC+1)) v14.2.buf)))
def G.aU.L3 (f:Nat) (aF:aK) (aC:Int) (z4:aK):Option (bH):=match f with
| 0=>none
| n+1 =>
(cond (decide (aC<((aF.length:Nat):Int)))
(chk (0<=aC/\aC<((aF.length:Nat):Int))
(cond ((((aF.getD aC.toNat 0).toNat:Nat):Int)==34)
((G.ak n (bH.mk z4) 92).bind fun v15 =>
(G.aU.K4 n aF aC v15.2.buf))
(chk (0<=aC/\aC<((aF.length:Nat):Int))
(cond ((((aF.getD aC.toNat 0).toNat:Nat):Int)==92)
((G.ak n (bH.mk z4) 92).bind fun v16 =>
(G.aU.K4 n aF aC v16.2.buf))
(G.aU.K4 n aF aC z4)))))
((G.ak n (bH.mk z4) 34).bind fun v17 =>
(some (v17.2))))
end
def G.aU (f:Nat) (kY:bH) (aF:aK):Option (bH):=match f with
| 0=>none
| n+1 =>
((G.ak n kY 34).bind fun v1 =>
(G.aU.L3 n aF 0 v1.2.buf))
def G.strconv_Itoa (f:Nat) (i:Int):Option aK:=match f with
| 0=>none
| _+1=>(chk ((-9223372036854775808<=i/\i<=9223372036854775807)/\(Lib.itoa i).length<=1000000) (some (Lib.itoa i)))
def G.dI (f:Nat) (b:bH) (s:aK):Option (Int × Unit × bH):=match f with
| 0=>none
| _+1=>(chk (b.buf.length+s.length<=140737488355328) (some (((s.length:Nat):Int),(),bH.mk (b.buf++s))))
mutual
def G.aA.K4 (f:Nat) (ag:af) (gQ:Int) (z4:aK):Option (bH):=match f with
| 0=>none
| n+1 =>
((G.aA n (bH.mk z4) (ag.Kids.getD gQ.toNat default)).bind fun v11 =>
(G.aA.L3 n ag (IntKind.wrap .i64 (gQ+1)) v11.buf))
def G.aA.L3 (f:Nat) (ag:af) (gQ:Int) (z3:aK):Option (bH):=match f with
| 0=>none
| n+1 =>
(cond (decide (gQ<((ag.Kids.length:Nat):Int)))
(chk (0<=gQ/\gQ<((ag.Kids.length:Nat):Int))
(cond (decide (0<gQ))
((G.ak n (bH.mk z3) 44).bind fun v12 =>
(G.aA.K4 n ag gQ v12.2.buf))
(G.aA.K4 n ag gQ z3)))
((G.ak n (bH.mk z3) 93).bind fun v13 =>
(some (v13.2))))
def G.aA.K8 (f:Nat) (ag:af) (vV:Int) (z8:aK):Option (bH):=match f with
| 0=>none
| n+1 =>
(chk (0<=vV/\vV<((ag.Names.length:Nat):Int))
((G.aU n (bH.mk z8) (ag.Names.getD vV.toNat default)).bind fun v24 =>
((G.ak n v24 58).bind fun v25 =>
((G.aA n v25.2 (ag.Kids.getD vV.toNat default)).bind fun v26 =>
(G.aA.L7 n ag (IntKind.wrap .i64 (vV+1)) v26.buf)))))
def G.aA.L7 (f:Nat) (ag:af) (vV:Int) (z7:aK):Option (bH):=match f with
| 0=>none
| n+1 =>
(cond (decide (vV<((ag.Kids.length:Nat):Int)))
(chk (0<=vV/\vV<((ag.Kids.length:Nat):Int))
(cond (decide (0<vV))
((G.ak n (bH.mk z7) 44).bind fun v27 =>
(G.aA.K8 n ag vV v27.2.buf))
(G.aA.K8 n ag vV z7)))
((G.ak n (bH.mk z7) 125).bind fun v28 =>
(some (v28.2))))
def G.aA (f:Nat) (kY:bH) (ag:af):Option (bH):=match f with
| 0=>none
| n+1 =>
(cond (ag.Kind==0)
((G.dI n kY [110,117,108,108]).bind fun v1 =>
(some (v1.2.2)))
(cond (ag.Kind==1)
((G.strconv_Itoa n ag.Num).bind fun v2 =>
((G.dI n kY v2).bind fun v3 =>
(some (v3.2.2))))
(cond (ag.Kind==2)
((G.aU n kY ag.Text).bind fun v4 =>
(some (v4)))
(cond (ag.Kind==3)
((G.ak n kY 91).bind fun v5 =>
(G.aA.L3 n ag 0 v5.2.buf))
(cond (ag.Kind==4)
((G.ak n kY 123).bind fun v14 =>
(G.aA.L7 n ag 0 v14.2.buf))
(some (kY)))))))
end
def G.dZ (f:Nat) (b:bH):Option aK:=match f with
| 0=>none
| _+1=>(chk (b.buf.length<=140737488355328) (some b.buf))
def G.dY (f:Nat) (ag:af):Option (aK):=match f with
| 0=>none
| n+1 =>
((G.dD n ag).bind fun v1 =>
(cond v1
((G.aA n (bH.mk []) ag).bind fun v2 =>
((G.dZ n v2).bind fun v3 =>
(some (v3))))
(some ([]))))
def G.cO (f:Nat) (aF:aK) (uT:Int):Option (Int):=match f with
| 0=>none
| n+1 =>
(some ((Go.Lib.indexByte aF uT.toNat.toUInt8)))
def G.strings_IndexByte (f:Nat) (aF:aK) (uT:Int):Option (Int):=match f with
| 0=>none
| n+1 =>
((G.cO n aF uT).bind fun v1 =>
(some (v1)))
def G.gu.L1 (f:Nat) (aF:aK) (aC:Int):Option (Bool):=match f with
| 0=>none
| n+1 =>
(cond (decide (aC<((aF.length:Nat):Int)))
(chk (0<=aC/\aC<((aF.length:Nat):Int))
((G.strings_IndexByte n [48,49,50,51,52,53,54,55,56,57,97,98,99,100,101,102] (((aF.getD aC.toNat 0).toNat:Nat):Int)).bind fun v3 =>
(cond (decide (v3<0))
(some (false))
(G.gu.L1 n aF (IntKind.wrap .i64 (aC+1))))))
(some (true)))
def G.gu (f:Nat) (aF:aK):Option (Bool):=match f with
| 0=>none
| n+1 =>
(cond (((aF.length:Nat):Int) != 4)
(some (false))
(G.gu.L1 n aF 0))
def G.dF.L1 (f:Nat) (aj:List aK) (gQ:Int):Option (Bool):=match f with
| 0=>none
| n+1 =>
(cond (decide (gQ<((aj.length:Nat):Int)))
(chk (0<=gQ/\gQ<((aj.length:Nat):Int))
(cond ((aj.getD gQ.toNat default)==[42])
(G.dF.L1 n aj (IntKind.wrap .i64 (gQ+1)))
((G.gu n (aj.getD gQ.toNat default)).bind fun v3 =>
(cond v3
(G.dF.L1 n aj (IntKind.wrap .i64 (gQ+1)))
(some (false))))))
(some (true)))
def G.dF (f:Nat) (aj:List aK):Option (Bool):=match f with
| 0=>none
| n+1 =>
(cond (decide (4<((aj.length:Nat):Int)))
(some (false))
(G.dF.L1 n aj 0))
mutual
def G.aQ.K4 (f:Nat) (aj:List aK) (gQ:Int) (z4:aK):Option (aK):=match f with
| 0=>none
| n+1 =>
(cond ((aj.getD gQ.toNat default)==[42])
((G.dI n (bH.mk z4) (aj.getD gQ.toNat default)).bind fun v9 =>
(G.aQ.L3 n aj (IntKind.wrap .i64 (gQ+1)) v9.2.2.buf))
((G.aU n (bH.mk z4) (aj.getD gQ.toNat default)).bind fun v10 =>
(G.aQ.L3 n aj (IntKind.wrap .i64 (gQ+1)) v10.buf)))
def G.aQ.L3 (f:Nat) (aj:List aK) (gQ:Int) (z3:aK):Option (aK):=match f with
| 0=>none
| n+1 =>
(cond (decide (gQ<((aj.length:Nat):Int)))
(chk (0<=gQ/\gQ<((aj.length:Nat):Int))
(cond (decide (0<gQ))
((G.ak n (bH.mk z3) 44).bind fun v11 =>
(G.aQ.K4 n aj gQ v11.2.buf))
(G.aQ.K4 n aj gQ z3)))
((G.dZ n (bH.mk z3)).bind fun v12 =>
(some (v12))))
end
def G.aQ (f:Nat) (aj:List aK):Option (aK):=match f with
| 0=>none
| n+1 =>
((G.dF n aj).bind fun v1 =>
(cond v1
(G.aQ.L3 n aj 0 [])
(some ([]))))
def G.iH (f:Nat) (ag:af) (Eh:Bool):Option (af × Bool):=match f with
| 0=>none
| n+1 =>
(cond Eh
((G.dD n ag).bind fun v1 =>
(cond v1
(some (ag,true))
(some ((af.mk 0 0 [] [] []),false))))
(some ((af.mk 0 0 [] [] []),false)))
mutual
def G.bz.L2 (f:Nat) (ag:af) (z1:List aK) (gQ:Int) (z4:List af):Option (af):=match f with
| 0=>none
| n+1 =>
(cond (decide (gQ<((ag.Kids.length:Nat):Int)))
(chk (0<=gQ/\gQ<((ag.Kids.length:Nat):Int))
((G.bz n (ag.Kids.getD gQ.toNat default)).bind fun v3 =>
(chk (0<=gQ/\gQ<((z4.length:Nat):Int))
(G.bz.L2 n ag z1 (IntKind.wrap .i64 (gQ+1)) (z4.set gQ.toNat v3)))))
(some ((af.mk ag.Kind ag.Num ag.Text z1 z4))))
def G.bz.K1 (f:Nat) (ag:af) (z1:List aK):Option (af):=match f with
| 0=>none
| n+1 =>
(cond (decide (0<((ag.Kids.length:Nat):Int)))
(chk (0<=((ag.Kids.length:Nat):Int)/\((ag.Kids.length:Nat):Int)<=((ag.Kids.length:Nat):Int)/\80*((ag.Kids.length:Nat):Int)<=2^47/\((ag.Kids.length:Nat):Int)<=2^47)
(G.bz.L2 n ag z1 0 (List.replicate ag.Kids.length (af.mk 0 0 [] [] []))))
(some ((af.mk ag.Kind ag.Num ag.Text z1 []))))
def G.bz (f:Nat) (ag:af):Option (af):=match f with
| 0=>none
| n+1 =>
(cond (decide (0<((ag.Names.length:Nat):Int)))
(chk (0<=((ag.Names.length:Nat):Int)/\((ag.Names.length:Nat):Int)<=((ag.Names.length:Nat):Int)/\16*((ag.Names.length:Nat):Int)<=2^47/\((ag.Names.length:Nat):Int)<=2^47)
(G.bz.K1 n ag ag.Names))
(G.bz.K1 n ag []))
end
def G.dX.L1 (f:Nat) (aG:List aK) (gQ:Int):Option (Bool):=match f with
| 0=>none
| n+1 =>
(cond (decide (gQ<((aG.length:Nat):Int)))
(chk (0<=gQ/\gQ<((aG.length:Nat):Int))
((G.aT n (aG.getD gQ.toNat default)).bind fun v3 =>
(cond v3
(G.dX.L1 n aG (IntKind.wrap .i64 (gQ+1)))
(some (false)))))
(some (true)))
def G.dX (f:Nat) (aG:List aK):Option (Bool):=match f with
| 0=>none
| n+1 =>
(cond (decide (5<((aG.length:Nat):Int)))
(some (false))
(G.dX.L1 n aG 0))
def G.iV (f:Nat) (iP:jr):Option (Bool):=match f with
| 0=>none
| n+1 =>
(cond (decide (1<=iP.Kind))
(cond (decide (iP.Kind<=6))
((G.dX n iP.Path).bind fun v1 =>
(cond v1
((G.dX n iP.From).bind fun v2 =>
(cond v2
((G.dD n iP.Value).bind fun v3 =>
(some (v3)))
(some (false))))
(some (false))))
(some (false)))
(some (false)))
def G.jf (f:Nat) (mP:Int):Option (aK):=match f with
| 0=>none
| n+1 =>
(cond (mP==1)
(some ([97,100,100]))
(cond (mP==2)
(some ([114,101,109,111,118,101]))
(cond (mP==3)
(some ([114,101,112,108,97,99,101]))
(cond (mP==4)
(some ([109,111,118,101]))
(cond (mP==5)
(some ([99,111,112,121]))
(cond (mP==6)
(some ([116,101,115,116]))
(some ([]))))))))
def G.dJ.L1 (f:Nat) (aG:List aK) (gQ:Int) (z2:List af):Option (af):=match f with
| 0=>none
| n+1 =>
(cond (decide (gQ<((aG.length:Nat):Int)))
(chk (0<=gQ/\gQ<((aG.length:Nat):Int))
(chk ((z2.length+1)*86<=2^46)
(G.dJ.L1 n aG (IntKind.wrap .i64 (gQ+1)) (z2++[(af.mk 2 0 (aG.getD gQ.toNat default) [] [])]))))
(some ((af.mk 3 0 [] [] z2))))
def G.dJ (f:Nat) (aG:List aK):Option (af):=match f with
| 0=>none
| n+1 =>
(G.dJ.L1 n aG 0 [])
def G.ig (f:Nat) (iP:jr):Option (af × Bool):=match f with
| 0=>none
| n+1 =>
((G.iV n iP).bind fun v1 =>
(cond v1
((G.dJ n iP.From).bind fun v2 =>
((G.jf n iP.Kind).bind fun v3 =>
((G.dJ n iP.Path).bind fun v4 =>
((G.bz n iP.Value).bind fun v5 =>
((G.iH n (af.mk 4 0 [] [[102,114,111,109],[111,112],[112,97,116,104],[118,97,108,117,101]] [v2,(af.mk 2 0 v3 [] []),v4,v5]) true).bind fun v6 =>
(some (v6.1,v6.2)))))))
(some ((af.mk 0 0 [] [] []),false))))
def G.dG.L1 (f:Nat) (aj:List jr) (gQ:Int) (z2:aK):Option (aK × Bool):=match f with
| 0=>none
| n+1 =>
(cond (decide (gQ<((aj.length:Nat):Int)))
(chk (0<=gQ/\gQ<((aj.length:Nat):Int))
((G.ig n (jr.mk ((aj.getD gQ.toNat default).Kind) ((aj.getD gQ.toNat default).Path) ((aj.getD gQ.toNat default).From) ((aj.getD gQ.toNat default).Value))).bind fun v7 =>
(cond v7.2
((G.aA n (bH.mk z2) v7.1).bind fun v8 =>
((G.ak n v8 59).bind fun v9 =>
(G.dG.L1 n aj (IntKind.wrap .i64 (gQ+1)) v9.2.buf)))
(some ([],false)))))
((G.dZ n (bH.mk z2)).bind fun v10 =>
(some (v10,true))))
def G.dG (f:Nat) (aj:List jr):Option (aK × Bool):=match f with
| 0=>none
| n+1 =>
(G.dG.L1 n aj 0 [])
def G.bK.L1 (f:Nat) (aj:List jr) (gQ:Int):Option (Bool):=match f with
| 0=>none
| n+1 =>
(cond (decide (gQ<((aj.length:Nat):Int)))
(chk (0<=gQ/\gQ<((aj.length:Nat):Int))
((G.iV n (jr.mk ((aj.getD gQ.toNat default).Kind) ((aj.getD gQ.toNat default).Path) ((aj.getD gQ.toNat default).From) ((aj.getD gQ.toNat default).Value))).bind fun v3 =>
(cond v3
(G.bK.L1 n aj (IntKind.wrap .i64 (gQ+1)))
(some (false)))))
(some (true)))
def G.bK (f:Nat) (aj:List jr):Option (Bool):=match f with
| 0=>none
| n+1 =>
(cond (decide (12<((aj.length:Nat):Int)))
(some (false))
(G.bK.L1 n aj 0))
def G.dQ.L1 (f:Nat) (aF:aK) (aC:Int):Option (Bool):=match f with
| 0=>none
| n+1 =>
(cond (decide (aC<((aF.length:Nat):Int)))
(chk (0<=aC/\aC<((aF.length:Nat):Int))
(cond (decide ((((aF.getD aC.toNat 0).toNat:Nat):Int)<97))
(chk (0<=aC/\aC<((aF.length:Nat):Int))
(cond (decide ((((aF.getD aC.toNat 0).toNat:Nat):Int)<48))
(some (false))
(chk (0<=aC/\aC<((aF.length:Nat):Int))
(cond (decide (57<(((aF.getD aC.toNat 0).toNat:Nat):Int)))
(some (false))
(G.dQ.L1 n aF (IntKind.wrap .i64 (aC+1)))))))
(chk (0<=aC/\aC<((aF.length:Nat):Int))
(cond (decide (122<(((aF.getD aC.toNat 0).toNat:Nat):Int)))
(chk (0<=aC/\aC<((aF.length:Nat):Int))
(cond (decide ((((aF.getD aC.toNat 0).toNat:Nat):Int)<48))
(some (false))
(chk (0<=aC/\aC<((aF.length:Nat):Int))
(cond (decide (57<(((aF.getD aC.toNat 0).toNat:Nat):Int)))
(some (false))
(G.dQ.L1 n aF (IntKind.wrap .i64 (aC+1)))))))
(G.dQ.L1 n aF (IntKind.wrap .i64 (aC+1)))))))
(some (true)))
def G.dQ (f:Nat) (aF:aK):Option (Bool):=match f with
| 0=>none
| n+1 =>
(cond (aF==[])
(some (false))
(cond (decide (8<((aF.length:Nat):Int)))
(some (false))
(G.dQ.L1 n aF 0)))
def G.gI (f:Nat) (aN:RequestT):Option (Bool):=match f with
| 0=>none
| n+1 =>
(cond (decide (1<=aN.Method))
(cond (decide (aN.Method<=5))
((G.dQ n aN.Name).bind fun v1 =>
(cond v1
((G.dF n aN.Want).bind fun v2 =>
(cond v2
((G.dF n aN.ja).bind fun v3 =>
(cond v3
((G.dD n aN.Body).bind fun v4 =>
(cond v4
((G.bK n aN.Ops).bind fun v5 =>
(some (v5)))
(some (false))))
(some (false))))
(some (false))))
(some (false))))
(some (false)))
(some (false)))
def G.gG (f:Nat) (kX:Int):Option (aK):=match f with
| 0=>none
| n+1 =>
(cond (kX==1)
(some ([103,101,116]))
(cond (kX==2)
(some ([112,117,116]))
(cond (kX==3)
(some ([100,101,108,101,116,101]))
(cond (kX==4)
(some ([112,97,116,99,104]))
(cond (kX==5)
(some ([109,101,114,103,101]))
(some ([])))))))
def G.strings_Join (f:Nat) (l:List aK) (s:aK):Option aK:=match f with
| 0=>none
| _+1=>(chk (l.length<=140737488355328/\(Lib.join l s).length<=140737488355328) (some (Lib.join l s)))
def G.ah.K2 (f:Nat) (aN:RequestT) (Hw:aK):Option (aK):=match f with
| 0=>none
| n+1 =>
((G.gG n aN.Method).bind fun v4 =>
((G.aQ n aN.Want).bind fun v5 =>
((G.aQ n aN.ja).bind fun v6 =>
((G.strings_Join n [v4,aN.Name,v5,v6,Hw] [32]).bind fun v7 =>
(some (v7))))))
def G.ah.K1 (f:Nat) (aN:RequestT):Option (aK):=match f with
| 0=>none
| n+1 =>
((G.dY n aN.Body).bind fun v2 =>
(cond (aN.Method==4)
((G.dG n aN.Ops).bind fun v8 =>
(cond v8.2
(G.ah.K2 n aN v8.1)
(some ([]))))
(G.ah.K2 n aN v2)))
def G.ah.K4 (f:Nat) (aN:RequestT) (Hy:aK):Option (aK):=match f with
| 0=>none
| n+1 =>
((G.gG n aN.Method).bind fun v11 =>
((G.aQ n aN.Want).bind fun v12 =>
((G.aQ n aN.ja).bind fun v13 =>
((G.strings_Join n [v11,aN.Name,v12,v13,Hy] [32]).bind fun v14 =>
(some (v14))))))
def G.ah.K3 (f:Nat) (aN:RequestT):Option (aK):=match f with
| 0=>none
| n+1 =>
((G.dY n aN.Body).bind fun v9 =>
(cond (aN.Method==4)
((G.dG n aN.Ops).bind fun v15 =>
(cond v15.2
(G.ah.K4 n aN v15.1)
(some ([]))))
(G.ah.K4 n aN v9)))
def G.ah (f:Nat) (aN:RequestT):Option (aK):=match f with
| 0=>none
| n+1 =>
((G.gI n aN).bind fun v1 =>
(cond v1
(cond (aN.Method==2)
(cond (aN.Method != 4)
(cond (decide (0<((aN.Ops.length:Nat):Int)))
(some ([]))
(G.ah.K1 n aN))
(G.ah.K1 n aN))
(cond (aN.Method==5)
(cond (aN.Method != 4)
(cond (decide (0<((aN.Ops.length:Nat):Int)))
(some ([]))
(G.ah.K3 n aN))
(G.ah.K3 n aN))
(cond (aN.Body.Kind != 0)
(some ([]))
(cond (aN.Method != 4)
(cond (decide (0<((aN.Ops.length:Nat):Int)))
(some ([]))
(G.ah.K3 n aN))
(G.ah.K3 n aN)))))
(some ([]))))
def G.iE (f:Nat) (iL:List Int):Option (ReaderT):=match f with
| 0=>none
| n+1 =>
(cond (decide (2000<((iL.length:Nat):Int)))
(chk (0<=0/\0<=2000/\2000<=((iL.length:Nat):Int))
(some ((ReaderT.mk (iL.take 2000) 0))))
(some ((ReaderT.mk iL 0))))
mutual
def G.ax.L1 (f:Nat) (ag:af) (aC:Int) (z2:List af):Option (af):=match f with
| 0=>none
| n+1 =>
(cond (decide (aC<((ag.Kids.length:Nat):Int)))
(chk (0<=aC/\aC<((ag.Kids.length:Nat):Int))
((G.ax n (ag.Kids.getD aC.toNat default)).bind fun v3 =>
(chk ((z2.length+1)*86<=2^46)
(G.ax.L1 n ag (IntKind.wrap .i64 (aC+1)) (z2++[v3])))))
(chk (ag.Names.length*18<=2^46)
(some ((af.mk ag.Kind ag.Num ag.Text ag.Names z2)))))
def G.ax (f:Nat) (ag:af):Option (af):=match f with
| 0=>none
| n+1 =>
(G.ax.L1 n ag 0 [])
end
def G.ai (f:Nat) (aZ:ReaderT) (ag:Int):Option (Int × ReaderT):=match f with
| 0=>none
| n+1 =>
(cond (decide (ag<1))
(some (0,(ReaderT.mk aZ.b (IntKind.wrap .i64 (aZ.p+1)))))
(cond (((aZ.b.length:Nat):Int)==0)
(some (0,(ReaderT.mk aZ.b (IntKind.wrap .i64 (aZ.p+1)))))
(cond (decide ((IntKind.wrap .i64 ((IntKind.wrap .i64 (aZ.p+1))-1))<((aZ.b.length:Nat):Int)))
(chk (0<=(IntKind.wrap .i64 ((IntKind.wrap .i64 (aZ.p+1))-1))/\(IntKind.wrap .i64 ((IntKind.wrap .i64 (aZ.p+1))-1))<((aZ.b.length:Nat):Int))
(chk (ag ≠ 0)
(some ((Int.tmod (IntKind.wrap .i64 ((aZ.b.getD (IntKind.wrap .i64 ((IntKind.wrap .i64 (aZ.p+1))-1)).toNat default))) ag),(ReaderT.mk aZ.b (IntKind.wrap .i64 (aZ.p+1)))))))
(chk (((aZ.b.length:Nat):Int) ≠ 0)
(chk (0<=(Int.tmod (IntKind.wrap .i64 ((IntKind.wrap .i64 (aZ.p+1))-1)) ((aZ.b.length:Nat):Int))/\(Int.tmod (IntKind.wrap .i64 ((IntKind.wrap .i64 (aZ.p+1))-1)) ((aZ.b.length:Nat):Int))<((aZ.b.length:Nat):Int))
(chk (((aZ.b.length:Nat):Int) ≠ 0)
(chk (0<=(Int.tmod (IntKind.wrap .i64 ((IntKind.wrap .i64 ((IntKind.wrap .i64 ((IntKind.wrap .i64 (aZ.p+1))-1))*7))+3)) ((aZ.b.length:Nat):Int))/\(Int.tmod (IntKind.wrap .i64 ((IntKind.wrap .i64 ((IntKind.wrap .i64 ((IntKind.wrap .i64 (aZ.p+1))-1))*7))+3)) ((aZ.b.length:Nat):Int))<((aZ.b.length:Nat):Int))
(chk (((aZ.b.length:Nat):Int) ≠ 0)
(chk (ag ≠ 0)
(some ((Int.tmod (IntKind.wrap .i64 (((BitVec.ofInt (IntKind.bits .i64) (IntKind.wrap .i64 ((IntKind.wrap .i64 ((IntKind.wrap .i64 ((IntKind.wrap .i64 ((IntKind.wrap .i64 ((aZ.b.getD (Int.tmod (IntKind.wrap .i64 ((IntKind.wrap .i64 (aZ.p+1))-1)) ((aZ.b.length:Nat):Int)).toNat default)))*131))+(IntKind.wrap .i64 ((IntKind.wrap .i64 ((aZ.b.getD (Int.tmod (IntKind.wrap .i64 ((IntKind.wrap .i64 ((IntKind.wrap .i64 ((IntKind.wrap .i64 (aZ.p+1))-1))*7))+3)) ((aZ.b.length:Nat):Int)).toNat default)))*1117))))+(IntKind.wrap .i64 ((IntKind.wrap .i64 ((IntKind.wrap .i64 (aZ.p+1))-1))*29))))+(IntKind.wrap .i64 ((IntKind.wrap .i64 (Int.tdiv (IntKind.wrap .i64 ((IntKind.wrap .i64 (aZ.p+1))-1)) ((aZ.b.length:Nat):Int)))*53)))) ^^^ BitVec.ofInt (IntKind.bits .i64) (IntKind.wrap .i64 (Int.tdiv (IntKind.wrap .i64 ((IntKind.wrap .i64 ((IntKind.wrap .i64 ((IntKind.wrap .i64 ((IntKind.wrap .i64 ((aZ.b.getD (Int.tmod (IntKind.wrap .i64 ((IntKind.wrap .i64 (aZ.p+1))-1)) ((aZ.b.length:Nat):Int)).toNat default)))*131))+(IntKind.wrap .i64 ((IntKind.wrap .i64 ((aZ.b.getD (Int.tmod (IntKind.wrap .i64 ((IntKind.wrap .i64 ((IntKind.wrap .i64 ((IntKind.wrap .i64 (aZ.p+1))-1))*7))+3)) ((aZ.b.length:Nat):Int)).toNat default)))*1117))))+(IntKind.wrap .i64 ((IntKind.wrap .i64 ((IntKind.wrap .i64 (aZ.p+1))-1))*29))))+(IntKind.wrap .i64 ((IntKind.wrap .i64 (Int.tdiv (IntKind.wrap .i64 ((IntKind.wrap .i64 (aZ.p+1))-1)) ((aZ.b.length:Nat):Int)))*53)))) 64))).toNat:Int))) ag),(ReaderT.mk aZ.b (IntKind.wrap .i64 (aZ.p+1))))))))))))))
def G.bI (f:Nat) (aZ:ReaderT) (aj:List Int):Option (Int × ReaderT):=match f with
| 0=>none
| n+1 =>
((G.ai n aZ ((aj.length:Nat):Int)).bind fun v1 =>
(chk (0<=v1.1/\v1.1<((aj.length:Nat):Int))
(some ((aj.getD v1.1.toNat default),v1.2))))
mutual
def G.dK (f:Nat) (ag:Int):Option (aK):=match f with
| 0=>none
| n+1 =>
(cond (decide (ag<0))
(cond (ag==(IntKind.wrap .i64 (0-ag)))
(some ([45,57,50,50,51,51,55,50,48,51,54,56,53,52,55,55,53,56,48,56]))
((G.dK n (IntKind.wrap .i64 (0-ag))).bind fun v1 =>
(chk (1+v1.length<=maxLen)
(some (([45]++v1))))))
(cond (decide (ag<10))
(chk (1<=maxLen)
(some ([UInt8.ofNat (IntKind.wrap .u8 ((IntKind.wrap .i64 (48+ag)))).toNat])))
((G.dK n (IntKind.wrap .i64 (Int.tdiv ag 10))).bind fun v2 =>
(chk (1<=maxLen)
(chk (v2.length+1<=maxLen)
(some ((v2++[UInt8.ofNat (IntKind.wrap .u8 ((IntKind.wrap .i64 (48+(Int.tmod ag 10))))).toNat]))))))))
end
def G.bW.L1 (f:Nat) (ag:af) (eG:aK) (aC:Int):Option (Int):=match f with
| 0=>none
| n+1 =>
(cond (decide (aC<((ag.Kids.length:Nat):Int)))
(cond (ag.Kind==4)
(chk (0<=aC/\aC<((ag.Names.length:Nat):Int))
(cond ((ag.Names.getD aC.toNat default)==eG)
(some (aC))
(cond (ag.Kind==3)
((G.dK n aC).bind fun v5 =>
(cond (v5==eG)
(some (aC))
(G.bW.L1 n ag eG (IntKind.wrap .i64 (aC+1)))))
(G.bW.L1 n ag eG (IntKind.wrap .i64 (aC+1))))))
(cond (ag.Kind==3)
((G.dK n aC).bind fun v6 =>
(cond (v6==eG)
(some (aC))
(G.bW.L1 n ag eG (IntKind.wrap .i64 (aC+1)))))
(G.bW.L1 n ag eG (IntKind.wrap .i64 (aC+1)))))
(some ((-1))))
def G.bW (f:Nat) (ag:af) (eG:aK):Option (Int):=match f with
| 0=>none
| n+1 =>
(G.bW.L1 n ag eG 0)
def G.dP.L1 (f:Nat) (ag:af) (eG:aK) (aC:Int):Option (Int × Bool):=match f with
| 0=>none
| n+1 =>
(cond (ag.Kind==4)
(cond (decide (aC<=((ag.Kids.length:Nat):Int)))
(cond (aC==((ag.Kids.length:Nat):Int))
(some (aC,false))
(chk (0<=aC/\aC<((ag.Names.length:Nat):Int))
(cond (Op.bytesLess eG (ag.Names.getD aC.toNat default))
(some (aC,false))
(G.dP.L1 n ag eG (IntKind.wrap .i64 (aC+1))))))
(some ((-1),false)))
(some ((-1),false)))
def G.dP.L2 (f:Nat) (ag:af) (eG:aK) (FM:Int):Option (Int × Bool):=match f with
| 0=>none
| n+1 =>
(cond (ag.Kind==4)
(cond (decide (FM<=((ag.Kids.length:Nat):Int)))
(cond (FM==((ag.Kids.length:Nat):Int))
(some (FM,false))
(chk (0<=FM/\FM<((ag.Names.length:Nat):Int))
(cond (Op.bytesLess eG (ag.Names.getD FM.toNat default))
(some (FM,false))
(G.dP.L2 n ag eG (IntKind.wrap .i64 (FM+1))))))
(some ((-1),false)))
(some ((-1),false)))
def G.dP (f:Nat) (ag:af) (eG:aK):Option (Int × Bool):=match f with
| 0=>none
| n+1 =>
((G.bW n ag eG).bind fun v1 =>
(cond (decide (0<=v1))
(some (v1,(ag.Kind==4)))
(cond (ag.Kind==3)
(cond (eG==[45])
(some (((ag.Kids.length:Nat):Int),false))
((G.dK n ((ag.Kids.length:Nat):Int)).bind fun v2 =>
(cond (eG==v2)
(some (((ag.Kids.length:Nat):Int),false))
(G.dP.L1 n ag eG 0))))
(G.dP.L2 n ag eG 0))))
def G.fG (f:Nat) (ag:af) (yA:Int) (pM:af):Option (af):=match f with
| 0=>none
| n+1 =>
((G.ax n ag).bind fun v1 =>
((G.ax n pM).bind fun v2 =>
(chk (0<=yA/\yA<((v1.Kids.length:Nat):Int))
(some ((af.mk v1.Kind v1.Num v1.Text v1.Names (v1.Kids.set yA.toNat v2)))))))
def G.eY (f:Nat) (ag:af) (eG:aK) (gZ:af):Option (af × Bool):=match f with
| 0=>none
| n+1 =>
((G.dP n ag eG).bind fun v1 =>
(cond (decide (v1.1<0))
(some ((af.mk 0 0 [] [] []),false))
(cond v1.2
((G.fG n ag v1.1 gZ).bind fun v2 =>
(some (v2,true)))
((G.ax n ag).bind fun v3 =>
(chk (0<=0/\0<=v1.1/\v1.1<=((v3.Kids.length:Nat):Int))
(chk (((v3.Kids.take v1.1.toNat).length)*86<=2^46)
((G.ax n gZ).bind fun v4 =>
(chk (((v3.Kids.take v1.1.toNat).length+1)*86<=2^46)
(chk (0<=v1.1/\v1.1<=((v3.Kids.length:Nat):Int)/\((v3.Kids.length:Nat):Int)<=((v3.Kids.length:Nat):Int))
(chk ((((v3.Kids.take v1.1.toNat).length+1)+(v3.Kids.drop v1.1.toNat).length)*86<=2^46)
(cond (ag.Kind==3)
(some ((af.mk ag.Kind 0 [] [] (((v3.Kids.take v1.1.toNat)++[v4])++(v3.Kids.drop v1.1.toNat))),true))
(chk (0<=0/\0<=v1.1/\v1.1<=((v3.Names.length:Nat):Int))
(chk (((v3.Names.take v1.1.toNat).length)*18<=2^46)
(chk (((v3.Names.take v1.1.toNat).length+1)*18<=2^46)
(chk (0<=v1.1/\v1.1<=((v3.Names.length:Nat):Int)/\((v3.Names.length:Nat):Int)<=((v3.Names.length:Nat):Int))
(chk ((((v3.Names.take v1.1.toNat).length+1)+(v3.Names.drop v1.1.toNat).length)*18<=2^46)
(some ((af.mk ag.Kind 0 [] (((v3.Names.take v1.1.toNat)++[eG])++(v3.Names.drop v1.1.toNat)) (((v3.Kids.take v1.1.toNat)++[v4])++(v3.Kids.drop v1.1.toNat))),true))))))))))))))))))
def G.bQ (f:Nat) (aZ:ReaderT) (aj:List aK):Option (aK × ReaderT):=match f with
| 0=>none
| n+1 =>
((G.ai n aZ ((aj.length:Nat):Int)).bind fun v1 =>
(chk (0<=v1.1/\v1.1<((aj.length:Nat):Int))
(some ((aj.getD v1.1.toNat default),v1.2))))
def G.iG (f:Nat) (aZ:ReaderT):Option (aK × ReaderT):=match f with
| 0=>none
| n+1 =>
((G.bQ n aZ [[97],[98],[],[97,98,99],[97,47,98],[126],[120,32,121],[34,113,34],[98,97,99,107,92,115],[48],[49],[97,98,99,100,101,102,103,104,105,106,107,108]]).bind fun v1 =>
(some (v1.1,v1.2)))
def G.iF (f:Nat) (aZ:ReaderT):Option (aK × ReaderT):=match f with
| 0=>none
| n+1 =>
((G.bQ n aZ [[97],[98],[99],[100],[97,47,98],[126,120],[],[107]]).bind fun v1 =>
(some (v1.1,v1.2)))
mutual
def G.bg.L1 (f:Nat) (aJ:Int) (oC:Int) (y8:List Int) (y9:Int) (FP:Int) (QH:Int) (QI:aK) (y13:List aK) (NT:List af):Option (af × ReaderT):=match f with
| 0=>none
| n+1 =>
(cond (decide (0<oC))
((G.iF n (ReaderT.mk y8 y9)).bind fun v10 =>
((G.aB n v10.2 (IntKind.wrap .i64 (aJ-1))).bind fun v11 =>
((G.bW n (af.mk FP QH QI y13 NT) v10.1).bind fun v12 =>
(cond (decide (v12<0))
((G.eY n (af.mk FP QH QI y13 NT) v10.1 v11.1).bind fun v13 =>
(G.bg.L1 n aJ (IntKind.wrap .i64 (oC-1)) v11.2.b v11.2.p v13.1.Kind v13.1.Num v13.1.Text v13.1.Names v13.1.Kids))
(G.bg.L1 n aJ (IntKind.wrap .i64 (oC-1)) v11.2.b v11.2.p FP QH QI y13 NT)))))
(some ((af.mk FP QH QI y13 NT),(ReaderT.mk y8 y9))))
def G.bg (f:Nat) (aZ:ReaderT) (aJ:Int):Option (af × ReaderT):=match f with
| 0=>none
| n+1 =>
((G.bI n aZ [2,3,1,0,4]).bind fun v1 =>
(G.bg.L1 n aJ v1.1 v1.2.b v1.2.p 4 0 [] [] []))
def G.aB.L2 (f:Nat) (aJ:Int) (mQ:Int) (oC:Int) (y5:List Int) (y6:Int) (z2:List af):Option (af × ReaderT):=match f with
| 0=>none
| n+1 =>
(cond (decide (0<oC))
((G.aB n (ReaderT.mk y5 y6) (IntKind.wrap .i64 (aJ-1))).bind fun v9 =>
(chk ((z2.length+1)*86<=2^46)
(G.aB.L2 n aJ mQ (IntKind.wrap .i64 (oC-1)) v9.2.b v9.2.p (z2++[v9.1]))))
(some ((af.mk mQ 0 [] [] z2),(ReaderT.mk y5 y6))))
def G.aB.K1 (f:Nat) (aJ:Int) (mQ:Int) (y1:List Int) (y2:Int):Option (af × ReaderT):=match f with
| 0=>none
| n+1 =>
(cond (mQ==1)
((G.ai n (ReaderT.mk y1 y2) 250).bind fun v3 =>
((G.bI n v3.2 [0,1,2,7,(-7),999999,(-999999),v3.1]).bind fun v4 =>
(some ((af.mk mQ v4.1 [] [] []),v4.2))))
(cond (mQ==2)
((G.iG n (ReaderT.mk y1 y2)).bind fun v5 =>
(some ((af.mk mQ 0 v5.1 [] []),v5.2)))
(cond (mQ==3)
((G.ai n (ReaderT.mk y1 y2) 4).bind fun v6 =>
(G.aB.L2 n aJ mQ v6.1 v6.2.b v6.2.p []))
(cond (mQ==4)
((G.bg n (ReaderT.mk y1 y2) aJ).bind fun v10 =>
(some (v10.1,v10.2)))
(some ((af.mk 0 0 [] [] []),(ReaderT.mk y1 y2)))))))
def G.aB (f:Nat) (aZ:ReaderT) (aJ:Int):Option (af × ReaderT):=match f with
| 0=>none
| n+1 =>
((G.ai n aZ 5).bind fun v1 =>
(cond (decide (aJ<=1))
((G.ai n v1.2 3).bind fun v11 =>
(G.aB.K1 n aJ v11.1 v11.2.b v11.2.p))
(G.aB.K1 n aJ v1.1 v1.2.b v1.2.p)))
end
mutual
def G.eH.L1 (f:Nat) (ag:af) (RI:Int) (aC:Int):Option (Int):=match f with
| 0=>none
| n+1 =>
(cond (decide (aC<((ag.Kids.length:Nat):Int)))
(chk (0<=aC/\aC<((ag.Kids.length:Nat):Int))
((G.eH n (ag.Kids.getD aC.toNat default)).bind fun v3 =>
(G.eH.L1 n ag (IntKind.wrap .i64 (RI+v3)) (IntKind.wrap .i64 (aC+1)))))
(some (RI)))
def G.eH (f:Nat) (ag:af):Option (Int):=match f with
| 0=>none
| n+1 =>
(G.eH.L1 n ag 1 0)
end
def G.bu (f:Nat) (ag:Int) (yB:Int) (uU:Int):Option (Bool):=match f with
| 0=>none
| n+1 =>
(cond (decide (yB<=ag))
(some ((decide (ag<=uU))))
(some (false)))
def G.bG.L1 (f:Nat) (aF:aK) (aC:Int):Option (Bool):=match f with
| 0=>none
| n+1 =>
(cond (decide (aC<((aF.length:Nat):Int)))
(chk (0<=aC/\aC<((aF.length:Nat):Int))
((G.bu n (IntKind.wrap .i64 ((((aF.getD aC.toNat 0).toNat:Nat):Int))) 32 126).bind fun v3 =>
(cond v3
(G.bG.L1 n aF (IntKind.wrap .i64 (aC+1)))
(some (false)))))
(some ((decide (((aF.length:Nat):Int)<=12)))))
def G.bG (f:Nat) (aF:aK):Option (Bool):=match f with
| 0=>none
| n+1 =>
(G.bG.L1 n aF 0)
def G.fM.L1 (f:Nat) (aj:List aK) (aC:Int):Option (Bool):=match f with
| 0=>none
| n+1 =>
(cond (decide (aC<((aj.length:Nat):Int)))
(chk (0<=aC/\aC<((aj.length:Nat):Int))
((G.bG n (aj.getD aC.toNat default)).bind fun v3 =>
(cond v3
(cond (decide (0<aC))
(chk (0<=aC/\aC<((aj.length:Nat):Int))
(chk (0<=(IntKind.wrap .i64 (aC-1))/\(IntKind.wrap .i64 (aC-1))<((aj.length:Nat):Int))
(cond (Op.bytesLess (aj.getD aC.toNat default) (aj.getD (IntKind.wrap .i64 (aC-1)).toNat default))
(some (false))
(cond ((aj.getD aC.toNat default)==(aj.getD (IntKind.wrap .i64 (aC-1)).toNat default))
(some (false))
(G.fM.L1 n aj (IntKind.wrap .i64 (aC+1)))))))
(G.fM.L1 n aj (IntKind.wrap .i64 (aC+1))))
(some (false)))))
(some (true)))
def G.fM (f:Nat) (aj:List aK):Option (Bool):=match f with
| 0=>none
| n+1 =>
(G.fM.L1 n aj 0)
mutual
def G.gV.L1 (f:Nat) (ag:af) (aJ:Int) (aC:Int):Option (Bool):=match f with
| 0=>none
| n+1 =>
(cond (decide (aC<((ag.Kids.length:Nat):Int)))
(chk (0<=aC/\aC<((ag.Kids.length:Nat):Int))
((G.bT n (ag.Kids.getD aC.toNat default) (IntKind.wrap .i64 (aJ-1))).bind fun v3 =>
(cond v3
(G.gV.L1 n ag aJ (IntKind.wrap .i64 (aC+1)))
(some (false)))))
(some (true)))
def G.gV (f:Nat) (ag:af) (aJ:Int):Option (Bool):=match f with
| 0=>none
| n+1 =>
(G.gV.L1 n ag aJ 0)
def G.bT.K1 (f:Nat) (ag:af) (aJ:Int):Option (Bool):=match f with
| 0=>none
| n+1 =>
(cond (ag.Kind==1)
((G.bu n ag.Num (-999999) 999999).bind fun v1 =>
(some (v1)))
(cond (ag.Kind==2)
((G.bG n ag.Text).bind fun v2 =>
(some (v2)))
(cond (ag.Kind==3)
((G.gV n ag aJ).bind fun v3 =>
(some (v3)))
(cond (ag.Kind==4)
(cond (((ag.Names.length:Nat):Int)==((ag.Kids.length:Nat):Int))
((G.fM n ag.Names).bind fun v4 =>
(cond v4
((G.gV n ag aJ).bind fun v5 =>
(some (v5)))
(some (false))))
(some (false)))
(some ((ag.Kind==0)))))))
def G.bT (f:Nat) (ag:af) (aJ:Int):Option (Bool):=match f with
| 0=>none
| n+1 =>
(cond (aJ==0)
(some (false))
(cond (decide (6<((ag.Kids.length:Nat):Int)))
(some (false))
(cond (ag.Kind != 1)
(cond (ag.Num != 0)
(some (false))
(cond (ag.Kind != 2)
(cond (ag.Text==[])
(cond (ag.Kind != 4)
(cond (decide (0<((ag.Names.length:Nat):Int)))
(some (false))
(cond (decide (ag.Kind<3))
(cond (decide (0<((ag.Kids.length:Nat):Int)))
(some (false))
(G.bT.K1 n ag aJ))
(G.bT.K1 n ag aJ)))
(cond (decide (ag.Kind<3))
(cond (decide (0<((ag.Kids.length:Nat):Int)))
(some (false))
(G.bT.K1 n ag aJ))
(G.bT.K1 n ag aJ)))
(some (false)))
(cond (ag.Kind != 4)
(cond (decide (0<((ag.Names.length:Nat):Int)))
(some (false))
(cond (decide (ag.Kind<3))
(cond (decide (0<((ag.Kids.length:Nat):Int)))
(some (false))
(G.bT.K1 n ag aJ))
(G.bT.K1 n ag aJ)))
(cond (decide (ag.Kind<3))
(cond (decide (0<((ag.Kids.length:Nat):Int)))
(some (false))
(G.bT.K1 n ag aJ))
(G.bT.K1 n ag aJ)))))
(cond (ag.Kind != 2)
(cond (ag.Text==[])
(cond (ag.Kind != 4)
(cond (decide (0<((ag.Names.length:Nat):Int)))
(some (false))
(cond (decide (ag.Kind<3))
(cond (decide (0<((ag.Kids.length:Nat):Int)))
(some (false))
(G.bT.K1 n ag aJ))
(G.bT.K1 n ag aJ)))
(cond (decide (ag.Kind<3))
(cond (decide (0<((ag.Kids.length:Nat):Int)))
(some (false))
(G.bT.K1 n ag aJ))
(G.bT.K1 n ag aJ)))
(some (false)))
(cond (ag.Kind != 4)
(cond (decide (0<((ag.Names.length:Nat):Int)))
(some (false))
(cond (decide (ag.Kind<3))
(cond (decide (0<((ag.Kids.length:Nat):Int)))
(some (false))
(G.bT.K1 n ag aJ))
(G.bT.K1 n ag aJ)))
(cond (decide (ag.Kind<3))
(cond (decide (0<((ag.Kids.length:Nat):Int)))
(some (false))
(G.bT.K1 n ag aJ))
(G.bT.K1 n ag aJ)))))))
end
def G.aS (f:Nat) (ag:af):Option (Bool):=match f with
| 0=>none
| n+1 =>
((G.bT n ag 5).bind fun v1 =>
(cond v1
((G.eH n ag).bind fun v2 =>
(some ((decide (v2<=40)))))
(some (false))))
def G.bM.K1 (f:Nat) (y1:List Int) (y2:Int) (y3:Int) (y4:Int) (y5:aK) (y6:List aK) (y7:List af):Option (af × ReaderT):=match f with
| 0=>none
| n+1 =>
((G.aS n (af.mk y3 y4 y5 y6 y7)).bind fun v4 =>
(cond v4
(some ((af.mk y3 y4 y5 y6 y7),(ReaderT.mk y1 y2)))
(some ((af.mk 0 0 [] [] []),(ReaderT.mk y1 y2)))))
def G.bM (f:Nat) (aZ:ReaderT):Option (af × ReaderT):=match f with
| 0=>none
| n+1 =>
((G.aB n aZ 3).bind fun v1 =>
((G.ai n v1.2 3).bind fun v5 =>
(cond (decide (0<v5.1))
((G.bg n v5.2 3).bind fun v6 =>
(G.bM.K1 n v6.2.b v6.2.p v6.1.Kind v6.1.Num v6.1.Text v6.1.Names v6.1.Kids))
(G.bM.K1 n v5.2.b v5.2.p v1.1.Kind v1.1.Num v1.1.Text v1.1.Names v1.1.Kids))))
def G.fF.L1 (f:Nat) (v1:af × ReaderT) (aC:Int) (y3:List Int) (y4:Int) (z2:List af):Option (af × ReaderT):=match f with
| 0=>none
| n+1 =>
((G.ai n (ReaderT.mk y3 y4) 2).bind fun v9 =>
(cond (decide (aC<(IntKind.wrap .i64 (6+v9.1))))
((G.ax n v1.1).bind fun v10 =>
(chk ((z2.length+1)*86<=2^46)
(G.fF.L1 n v1 (IntKind.wrap .i64 (aC+1)) v9.2.b v9.2.p (z2++[v10]))))
(some ((af.mk 3 0 [] [] z2),v9.2))))
def G.fF (f:Nat) (aZ:ReaderT):Option (af × ReaderT):=match f with
| 0=>none
| n+1 =>
((G.bM n aZ).bind fun v1 =>
((G.ai n v1.2 40).bind fun v2 =>
(cond (v2.1==0)
((G.bI n v2.2 [(-1),5,0,3]).bind fun v3 =>
(some ((af.mk v3.1 v1.1.Num v1.1.Text v1.1.Names v1.1.Kids),v3.2)))
(cond (v2.1==1)
((G.bI n v2.2 [1,1000000]).bind fun v4 =>
(some ((af.mk v1.1.Kind v4.1 v1.1.Text v1.1.Names v1.1.Kids),v4.2)))
(cond (v2.1==2)
(some ((af.mk v1.1.Kind v1.1.Num [97,98,99,100,101,102,103,104,105,106,107,108,109] v1.1.Names v1.1.Kids),v2.2))
(cond (v2.1==3)
(chk ((v1.1.Names.length+1)*18<=2^46)
(some ((af.mk v1.1.Kind v1.1.Num v1.1.Text (v1.1.Names++[[]]) v1.1.Kids),v2.2)))
(cond (v2.1==4)
(some ((af.mk 3 0 [] [] [(af.mk 3 0 [] [] [(af.mk 3 0 [] [] [(af.mk 3 0 [] [] [v1.1])])])]),v2.2))
(cond (v2.1==5)
(G.fF.L1 n v1 0 v2.2.b v2.2.p [])
(some (v1.1,v2.2))))))))))
def G.gW (f:Nat) (aZ:ReaderT):Option (aK × ReaderT):=match f with
| 0=>none
| n+1 =>
((G.bQ n aZ [[],[65],[97,98,99,100,101,102,103,104,105],[97,32,98],[97]]).bind fun v1 =>
(some (v1.1,v1.2)))
def G.bP.L1 (f:Nat) (aF:StoreT) (aC:Int) (z2:List bY):Option (StoreT):=match f with
| 0=>none
| n+1 =>
(cond (decide (aC<((aF.Items.length:Nat):Int)))
(chk (0<=aC/\aC<((aF.Items.length:Nat):Int))
(chk (0<=aC/\aC<((aF.Items.length:Nat):Int))
(chk (0<=aC/\aC<((aF.Items.length:Nat):Int))
((G.ax n ((aF.Items.getD aC.toNat default).Node)).bind fun v3 =>
(chk ((z2.length+1)*112<=2^46)
(G.bP.L1 n aF (IntKind.wrap .i64 (aC+1)) (z2++[(bY.mk ((aF.Items.getD aC.toNat default).Name) ((aF.Items.getD aC.toNat default).Version) v3)])))))))
(some ((StoreT.mk z2 aF.Clock))))
def G.bP (f:Nat) (aF:StoreT):Option (StoreT):=match f with
| 0=>none
| n+1 =>
(G.bP.L1 n aF 0 [])
def G.gq.L1 (f:Nat) (aF:StoreT) (dh:aK) (aC:Int):Option (Int):=match f with
| 0=>none
| n+1 =>
(cond (decide (aC<((aF.Items.length:Nat):Int)))
(chk (0<=aC/\aC<((aF.Items.length:Nat):Int))
(cond ((aF.Items.getD aC.toNat default).Name==dh)
(some (aC))
(G.gq.L1 n aF dh (IntKind.wrap .i64 (aC+1)))))
(some ((-1))))
def G.gq (f:Nat) (aF:StoreT) (dh:aK):Option (Int):=match f with
| 0=>none
| n+1 =>
(G.gq.L1 n aF dh 0)
def G.bD.L1 (f:Nat) (aF:aK) (aC:Int):Option (Bool):=match f with
| 0=>none
| n+1 =>
(cond (decide (aC<((aF.length:Nat):Int)))
(chk (0<=aC/\aC<((aF.length:Nat):Int))
((G.bu n (IntKind.wrap .i64 ((((aF.getD aC.toNat 0).toNat:Nat):Int))) 97 122).bind fun v5 =>
(cond v5
(G.bD.L1 n aF (IntKind.wrap .i64 (aC+1)))
(chk (0<=aC/\aC<((aF.length:Nat):Int))
((G.bu n (IntKind.wrap .i64 ((((aF.getD aC.toNat 0).toNat:Nat):Int))) 48 57).bind fun v6 =>
(cond v6
(G.bD.L1 n aF (IntKind.wrap .i64 (aC+1)))
(some (false))))))))
((G.bu n ((aF.length:Nat):Int) 1 8).bind fun v7 =>
(some (v7))))
def G.bD (f:Nat) (aF:aK):Option (Bool):=match f with
| 0=>none
| n+1 =>
(G.bD.L1 n aF 0)
def G.aY.L1 (f:Nat) (aF:StoreT) (aC:Int):Option (Bool):=match f with
| 0=>none
| n+1 =>
(cond (decide (aC<((aF.Items.length:Nat):Int)))
(chk (0<=aC/\aC<((aF.Items.length:Nat):Int))
((G.bD n ((aF.Items.getD aC.toNat default).Name)).bind fun v7 =>
(cond v7
((G.aS n ((aF.Items.getD aC.toNat default).Node)).bind fun v8 =>
(cond v8
((G.bu n ((aF.Items.getD aC.toNat default).Version) 1 aF.Clock).bind fun v9 =>
(cond v9
(cond (decide (0<aC))
(chk (0<=(IntKind.wrap .i64 (aC-1))/\(IntKind.wrap .i64 (aC-1))<((aF.Items.length:Nat):Int))
(cond (Op.bytesLess ((aF.Items.getD aC.toNat default).Name) ((aF.Items.getD (IntKind.wrap .i64 (aC-1)).toNat default).Name))
(some (false))
(cond ((aF.Items.getD aC.toNat default).Name==(aF.Items.getD (IntKind.wrap .i64 (aC-1)).toNat default).Name)
(some (false))
(G.aY.L1 n aF (IntKind.wrap .i64 (aC+1))))))
(G.aY.L1 n aF (IntKind.wrap .i64 (aC+1))))
(some (false))))
(some (false))))
(some (false)))))
(cond (decide (((aF.Items.length:Nat):Int)<=10))
((G.bu n aF.Clock 0 999).bind fun v10 =>
(some (v10)))
(some (false))))
def G.aY (f:Nat) (aF:StoreT):Option (Bool):=match f with
| 0=>none
| n+1 =>
(G.aY.L1 n aF 0)
def G.iI (f:Nat) (aF:StoreT) (dh:aK):Option (bY × Bool):=match f with
| 0=>none
| n+1 =>
((G.aY n aF).bind fun v1 =>
(cond v1
((G.gq n aF dh).bind fun v2 =>
(cond (decide (v2<0))
(some ((bY.mk [] 0 (af.mk 0 0 [] [] [])),false))
((G.bP n aF).bind fun v3 =>
((G.gq n aF dh).bind fun v4 =>
(chk (0<=v4/\v4<((v3.Items.length:Nat):Int))
(some ((bY.mk ((v3.Items.getD v4.toNat default).Name) ((v3.Items.getD v4.toNat default).Version) ((v3.Items.getD v4.toNat default).Node)),true)))))))
(some ((bY.mk [] 0 (af.mk 0 0 [] [] [])),false))))
def G.eU.L1 (f:Nat) (aF:aK) (lN:aK) (aC:Int):Option (aK):=match f with
| 0=>none
| n+1 =>
(cond (decide (aC<((aF.length:Nat):Int)))
(chk (0<=aC/\aC<((aF.length:Nat):Int))
(cond ((((aF.getD aC.toNat 0).toNat:Nat):Int)==34)
(chk (lN.length+1<=maxLen)
(chk (0<=aC/\aC<=(IntKind.wrap .i64 (aC+1))/\(IntKind.wrap .i64 (aC+1))<=((aF.length:Nat):Int))
(chk ((lN.length+1)+((aF.take ((IntKind.wrap .i64 (aC+1)).toNat)).drop aC.toNat).length<=maxLen)
(G.eU.L1 n aF ((lN++[92])++((aF.take ((IntKind.wrap .i64 (aC+1)).toNat)).drop aC.toNat)) (IntKind.wrap .i64 (aC+1))))))
(chk (0<=aC/\aC<((aF.length:Nat):Int))
(cond ((((aF.getD aC.toNat 0).toNat:Nat):Int)==92)
(chk (lN.length+1<=maxLen)
(chk (0<=aC/\aC<=(IntKind.wrap .i64 (aC+1))/\(IntKind.wrap .i64 (aC+1))<=((aF.length:Nat):Int))
(chk ((lN.length+1)+((aF.take ((IntKind.wrap .i64 (aC+1)).toNat)).drop aC.toNat).length<=maxLen)
(G.eU.L1 n aF ((lN++[92])++((aF.take ((IntKind.wrap .i64 (aC+1)).toNat)).drop aC.toNat)) (IntKind.wrap .i64 (aC+1))))))
(chk (0<=aC/\aC<=(IntKind.wrap .i64 (aC+1))/\(IntKind.wrap .i64 (aC+1))<=((aF.length:Nat):Int))
(chk (lN.length+((aF.take ((IntKind.wrap .i64 (aC+1)).toNat)).drop aC.toNat).length<=maxLen)
(G.eU.L1 n aF (lN++((aF.take ((IntKind.wrap .i64 (aC+1)).toNat)).drop aC.toNat)) (IntKind.wrap .i64 (aC+1)))))))))
(chk (lN.length+1<=maxLen)
(some ((lN++[34])))))
def G.eU (f:Nat) (aF:aK):Option (aK):=match f with
| 0=>none
| n+1 =>
(G.eU.L1 n aF [34] 0)
mutual
def G.aP.K7 (f:Nat) (ag:af) (aC:Int) (NS:aK):Option (aK):=match f with
| 0=>none
| n+1 =>
(chk (0<=aC/\aC<((ag.Kids.length:Nat):Int))
((G.aP n (ag.Kids.getD aC.toNat default)).bind fun v10 =>
(chk (NS.length+v10.length<=maxLen)
(G.aP.L5 n ag (NS++v10) (IntKind.wrap .i64 (aC+1))))))
def G.aP.K6 (f:Nat) (ag:af) (aC:Int) (Ee:aK):Option (aK):=match f with
| 0=>none
| n+1 =>
(cond (ag.Kind==4)
(chk (0<=aC/\aC<((ag.Names.length:Nat):Int))
((G.eU n (ag.Names.getD aC.toNat default)).bind fun v11 =>
(chk (Ee.length+v11.length<=maxLen)
(chk ((Ee.length+v11.length)+1<=maxLen)
(G.aP.K7 n ag aC ((Ee++v11)++[58]))))))
(G.aP.K7 n ag aC Ee))
def G.aP.L5 (f:Nat) (ag:af) (qj:aK) (aC:Int):Option (aK):=match f with
| 0=>none
| n+1 =>
(cond (decide (aC<((ag.Kids.length:Nat):Int)))
(cond (decide (0<aC))
(chk (qj.length+1<=maxLen)
(G.aP.K6 n ag aC (qj++[44])))
(G.aP.K6 n ag aC qj))
(cond (ag.Kind==4)
(chk (1+qj.length<=maxLen)
(chk ((1+qj.length)+1<=maxLen)
(some ((([123]++qj)++[125])))))
(chk (1+qj.length<=maxLen)
(chk ((1+qj.length)+1<=maxLen)
(some ((([91]++qj)++[93])))))))
def G.aP (f:Nat) (ag:af):Option (aK):=match f with
| 0=>none
| n+1 =>
(cond (ag.Kind==1)
((G.dK n ag.Num).bind fun v1 =>
(some (v1)))
(cond (ag.Kind==2)
((G.eU n ag.Text).bind fun v2 =>
(some (v2)))
(cond (ag.Kind==0)
(some ([110,117,108,108]))
(G.aP.L5 n ag [] 0))))
end
def G.jT (f:Nat) (ag:Int):Option (aK):=match f with
| 0=>none
| n+1 =>
(chk (0<=(IntKind.wrap .i64 (Int.tdiv ag 4096))/\(IntKind.wrap .i64 (Int.tdiv ag 4096))<((16:Nat):Int))
(chk (0<=(Int.tmod (IntKind.wrap .i64 (Int.tdiv ag 256)) 16)/\(Int.tmod (IntKind.wrap .i64 (Int.tdiv ag 256)) 16)<((16:Nat):Int))
(chk (0<=(Int.tmod (IntKind.wrap .i64 (Int.tdiv ag 16)) 16)/\(Int.tmod (IntKind.wrap .i64 (Int.tdiv ag 16)) 16)<((16:Nat):Int))
(chk (0<=(Int.tmod ag 16)/\(Int.tmod ag 16)<((16:Nat):Int))
(chk (4<=maxLen)
(some ([UInt8.ofNat ((([48,49,50,51,52,53,54,55,56,57,97,98,99,100,101,102]:aK).getD (IntKind.wrap .i64 (Int.tdiv ag 4096)).toNat 0).toNat),UInt8.ofNat ((([48,49,50,51,52,53,54,55,56,57,97,98,99,100,101,102]:aK).getD (Int.tmod (IntKind.wrap .i64 (Int.tdiv ag 256)) 16).toNat 0).toNat),UInt8.ofNat ((([48,49,50,51,52,53,54,55,56,57,97,98,99,100,101,102]:aK).getD (Int.tmod (IntKind.wrap .i64 (Int.tdiv ag 16)) 16).toNat 0).toNat),UInt8.ofNat ((([48,49,50,51,52,53,54,55,56,57,97,98,99,100,101,102]:aK).getD (Int.tmod ag 16).toNat 0).toNat)])))))))
def G.gz.L1 (f:Nat) (aF:aK) (oC:Int) (aC:Int):Option (Int):=match f with
| 0=>none
| n+1 =>
(cond (decide (aC<((aF.length:Nat):Int)))
(chk (0<=aC/\aC<((aF.length:Nat):Int))
(G.gz.L1 n aF (Int.tmod (IntKind.wrap .i64 ((IntKind.wrap .i64 (131*oC))+(IntKind.wrap .i64 ((((aF.getD aC.toNat 0).toNat:Nat):Int))))) 65521) (IntKind.wrap .i64 (aC+1))))
(some (oC)))
def G.gz (f:Nat) (aF:aK):Option (Int):=match f with
| 0=>none
| n+1 =>
(G.gz.L1 n aF 17 0)
def G.iR (f:Nat) (ag:af):Option (aK):=match f with
| 0=>none
| n+1 =>
((G.aS n ag).bind fun v1 =>
(cond v1
((G.aP n ag).bind fun v2 =>
((G.gz n v2).bind fun v3 =>
((G.jT n v3).bind fun v4 =>
(some (v4)))))
(some ([]))))
def G.fB.L1 (f:Nat) (nV:aK) (oC:Int) (y3:List Int) (y4:Int) (z2:List aK):Option (List aK × ReaderT):=match f with
| 0=>none
| n+1 =>
(cond (decide (0<oC))
((G.bQ n (ReaderT.mk y3 y4) [[42],[48,48,48,48],[49,50,97,98],[102,102,102,102],nV,nV]).bind fun v4 =>
(chk ((z2.length+1)*18<=2^46)
(G.fB.L1 n nV (IntKind.wrap .i64 (oC-1)) v4.2.b v4.2.p (z2++[v4.1]))))
(cond (decide (0<((z2.length:Nat):Int)))
((G.ai n (ReaderT.mk y3 y4) 20).bind fun v5 =>
(cond (v5.1==0)
((G.bQ n v5.2 [[],[49,50,97,66],[49,50,51],[49,50,51,52,53]]).bind fun v6 =>
(chk (0<=0/\0<((z2.length:Nat):Int))
(some ((z2.set 0 v6.1),v6.2))))
(some (z2,v5.2))))
(some (z2,(ReaderT.mk y3 y4)))))
def G.fB (f:Nat) (aZ:ReaderT) (nV:aK):Option (List aK × ReaderT):=match f with
| 0=>none
| n+1 =>
((G.bI n aZ [0,1,0,2,0,4,5]).bind fun v1 =>
(G.fB.L1 n nV v1.1 v1.2.b v1.2.p []))
def G.gm (f:Nat) (aZ:ReaderT):Option (aK × ReaderT):=match f with
| 0=>none
| n+1 =>
((G.bQ n aZ [[97],[98],[100,111,99],[122,122],[97,49],[109],[120,57],[98,111,111,107],[97,98,99,100,101,102,103,104],[113]]).bind fun v1 =>
(some (v1.1,v1.2)))
def G.jk (f:Nat) (aZ:ReaderT) (aF:StoreT):Option (aK × ReaderT):=match f with
| 0=>none
| n+1 =>
(cond (decide (0<((aF.Items.length:Nat):Int)))
((G.ai n aZ 4).bind fun v1 =>
(cond (decide (0<v1.1))
((G.ai n v1.2 ((aF.Items.length:Nat):Int)).bind fun v2 =>
(chk (0<=v2.1/\v2.1<((aF.Items.length:Nat):Int))
(some ((aF.Items.getD v2.1.toNat default).Name,v2.2))))
((G.ai n v1.2 12).bind fun v3 =>
(cond (v3.1==0)
((G.gW n v3.2).bind fun v4 =>
(some (v4.1,v4.2)))
((G.gm n v3.2).bind fun v5 =>
(some (v5.1,v5.2)))))))
((G.ai n aZ 12).bind fun v6 =>
(cond (v6.1==0)
((G.gW n v6.2).bind fun v7 =>
(some (v7.1,v7.2)))
((G.gm n v6.2).bind fun v8 =>
(some (v8.1,v8.2))))))
def G.iC.L1 (f:Nat) (aG:List aK) (aC:Int) (y6:Int) (y7:Int) (y8:aK) (y9:List aK) (FP:List af):Option (af × Bool):=match f with
| 0=>none
| n+1 =>
(cond (decide (aC<((aG.length:Nat):Int)))
(chk (0<=aC/\aC<((aG.length:Nat):Int))
((G.bW n (af.mk y6 y7 y8 y9 FP) (aG.getD aC.toNat default)).bind fun v3 =>
(cond (decide (v3<0))
(some ((af.mk 0 0 [] [] []),false))
(chk (0<=v3/\v3<((FP.length:Nat):Int))
(G.iC.L1 n aG (IntKind.wrap .i64 (aC+1)) ((FP.getD v3.toNat default).Kind) ((FP.getD v3.toNat default).Num) ((FP.getD v3.toNat default).Text) ((FP.getD v3.toNat default).Names) ((FP.getD v3.toNat default).Kids))))))
((G.ax n (af.mk y6 y7 y8 y9 FP)).bind fun v4 =>
(some (v4,true))))
def G.iC (f:Nat) (ag:af) (aG:List aK):Option (af × Bool):=match f with
| 0=>none
| n+1 =>
(G.iC.L1 n aG 0 ag.Kind ag.Num ag.Text ag.Names ag.Kids)
mutual
def G.fP (f:Nat) (ag:af) (aG:List aK) (gZ:af):Option (af × Bool):=match f with
| 0=>none
| n+1 =>
(cond (((aG.length:Nat):Int)==0)
((G.ax n gZ).bind fun v1 =>
(some (v1,true)))
(chk (0<=0/\0<((aG.length:Nat):Int))
((G.bW n ag (aG.getD 0 default)).bind fun v2 =>
(cond (decide (v2<0))
(some ((af.mk 0 0 [] [] []),false))
(chk (0<=v2/\v2<((ag.Kids.length:Nat):Int))
(chk (0<=1/\1<=((aG.length:Nat):Int)/\((aG.length:Nat):Int)<=((aG.length:Nat):Int))
((G.fP n (ag.Kids.getD v2.toNat default) (aG.drop 1) gZ).bind fun v3 =>
(cond v3.2
((G.fG n ag v2 v3.1).bind fun v4 =>
(some (v4,true)))
(some ((af.mk 0 0 [] [] []),false))))))))))
end
def G.jc (f:Nat) (ag:af) (aG:List aK) (gZ:af):Option (af × Bool):=match f with
| 0=>none
| n+1 =>
(cond (((aG.length:Nat):Int)==0)
((G.ax n gZ).bind fun v1 =>
(some (v1,true)))
(chk (0<=0/\0<=(IntKind.wrap .i64 (((aG.length:Nat):Int)-1))/\(IntKind.wrap .i64 (((aG.length:Nat):Int)-1))<=((aG.length:Nat):Int))
((G.iC n ag (aG.take ((IntKind.wrap .i64 (((aG.length:Nat):Int)-1)).toNat))).bind fun v2 =>
(cond v2.2
(chk (0<=(IntKind.wrap .i64 (((aG.length:Nat):Int)-1))/\(IntKind.wrap .i64 (((aG.length:Nat):Int)-1))<((aG.length:Nat):Int))
((G.eY n v2.1 (aG.getD (IntKind.wrap .i64 (((aG.length:Nat):Int)-1)).toNat default) gZ).bind fun v3 =>
(cond v3.2
(chk (0<=0/\0<=(IntKind.wrap .i64 (((aG.length:Nat):Int)-1))/\(IntKind.wrap .i64 (((aG.length:Nat):Int)-1))<=((aG.length:Nat):Int))
((G.fP n ag (aG.take ((IntKind.wrap .i64 (((aG.length:Nat):Int)-1)).toNat)) v3.1).bind fun v4 =>
(some (v4.1,v4.2))))
(some ((af.mk 0 0 [] [] []),false)))))
(some ((af.mk 0 0 [] [] []),false))))))
mutual
def G.bZ.L7 (f:Nat) (ag:af) (aC:Int) (yl:aK) (v6:List (List aK)) (KA:Int) (z8:List (List aK)):Option (List (List aK)):=match f with
| 0=>none
| n+1 =>
(cond (decide (KA<((v6.length:Nat):Int)))
(chk (0<=KA/\KA<((v6.length:Nat):Int))
(chk ((1+(v6.getD KA.toNat default).length)*18<=2^46)
(chk ((z8.length+1)*26<=2^46)
(G.bZ.L7 n ag aC yl v6 (IntKind.wrap .i64 (KA+1)) (z8++[([yl]++(v6.getD KA.toNat default))])))))
(G.bZ.L5 n ag (IntKind.wrap .i64 (aC+1)) z8))
def G.bZ.K6 (f:Nat) (ag:af) (aC:Int) (z6:List (List aK)) (yl:aK):Option (List (List aK)):=match f with
| 0=>none
| n+1 =>
(chk (0<=aC/\aC<((ag.Kids.length:Nat):Int))
((G.bZ n (ag.Kids.getD aC.toNat default)).bind fun v6 =>
(G.bZ.L7 n ag aC yl v6 0 z6)))
def G.bZ.L5 (f:Nat) (ag:af) (aC:Int) (z6:List (List aK)):Option (List (List aK)):=match f with
| 0=>none
| n+1 =>
(cond (decide (aC<((ag.Kids.length:Nat):Int)))
((G.dK n aC).bind fun v5 =>
(cond (ag.Kind==4)
(chk (0<=aC/\aC<((ag.Names.length:Nat):Int))
(G.bZ.K6 n ag aC z6 (ag.Names.getD aC.toNat default)))
(G.bZ.K6 n ag aC z6 v5)))
(some (z6)))
def G.bZ (f:Nat) (ag:af):Option (List (List aK)):=match f with
| 0=>none
| n+1 =>
(G.bZ.L5 n ag 0 [[]])
end
def G.dW.K1 (f:Nat) (ag:af) (aG:List aK) (v1:af × Bool) (z1:List af) (z2:List aK):Option (af × Bool):=match f with
| 0=>none
| n+1 =>
(chk (0<=0/\0<=(IntKind.wrap .i64 (((aG.length:Nat):Int)-1))/\(IntKind.wrap .i64 (((aG.length:Nat):Int)-1))<=((aG.length:Nat):Int))
((G.fP n ag (aG.take ((IntKind.wrap .i64 (((aG.length:Nat):Int)-1)).toNat)) (af.mk v1.1.Kind 0 [] z2 z1)).bind fun v3 =>
(some (v3.1,v3.2))))
def G.dW (f:Nat) (ag:af) (aG:List aK):Option (af × Bool):=match f with
| 0=>none
| n+1 =>
(cond (decide ((IntKind.wrap .i64 (((aG.length:Nat):Int)-1))<0))
(some ((af.mk 0 0 [] [] []),false))
(chk (0<=0/\0<=(IntKind.wrap .i64 (((aG.length:Nat):Int)-1))/\(IntKind.wrap .i64 (((aG.length:Nat):Int)-1))<=((aG.length:Nat):Int))
((G.iC n ag (aG.take ((IntKind.wrap .i64 (((aG.length:Nat):Int)-1)).toNat))).bind fun v1 =>
(cond v1.2
(chk (0<=(IntKind.wrap .i64 (((aG.length:Nat):Int)-1))/\(IntKind.wrap .i64 (((aG.length:Nat):Int)-1))<((aG.length:Nat):Int))
((G.bW n v1.1 (aG.getD (IntKind.wrap .i64 (((aG.length:Nat):Int)-1)).toNat default)).bind fun v2 =>
(cond (decide (v2<0))
(some ((af.mk 0 0 [] [] []),false))
(chk (0<=0/\0<=v2/\v2<=((v1.1.Kids.length:Nat):Int))
(chk (((v1.1.Kids.take v2.toNat).length)*86<=2^46)
(chk (0<=(IntKind.wrap .i64 (v2+1))/\(IntKind.wrap .i64 (v2+1))<=((v1.1.Kids.length:Nat):Int)/\((v1.1.Kids.length:Nat):Int)<=((v1.1.Kids.length:Nat):Int))
(chk (((v1.1.Kids.take v2.toNat).length+(v1.1.Kids.drop ((IntKind.wrap .i64 (v2+1)).toNat)).length)*86<=2^46)
(cond (v1.1.Kind==4)
(chk (0<=0/\0<=v2/\v2<=((v1.1.Names.length:Nat):Int))
(chk (((v1.1.Names.take v2.toNat).length)*18<=2^46)
(chk (0<=(IntKind.wrap .i64 (v2+1))/\(IntKind.wrap .i64 (v2+1))<=((v1.1.Names.length:Nat):Int)/\((v1.1.Names.length:Nat):Int)<=((v1.1.Names.length:Nat):Int))
(chk (((v1.1.Names.take v2.toNat).length+(v1.1.Names.drop ((IntKind.wrap .i64 (v2+1)).toNat)).length)*18<=2^46)
(G.dW.K1 n ag aG v1 ((v1.1.Kids.take v2.toNat)++(v1.1.Kids.drop ((IntKind.wrap .i64 (v2+1)).toNat))) ((v1.1.Names.take v2.toNat)++(v1.1.Names.drop ((IntKind.wrap .i64 (v2+1)).toNat))))))))
(G.dW.K1 n ag aG v1 ((v1.1.Kids.take v2.toNat)++(v1.1.Kids.drop ((IntKind.wrap .i64 (v2+1)).toNat))) [])))))))))
(some ((af.mk 0 0 [] [] []),false))))))
def G.dU.K1 (f:Nat) (ag:af) (RN:Bool) (y1:List Int) (y2:Int) (y3:Int) (y4:Int) (y5:aK) (y6:List aK) (y7:List af):Option (af × ReaderT):=match f with
| 0=>none
| n+1 =>
(cond RN
((G.aS n (af.mk y3 y4 y5 y6 y7)).bind fun v12 =>
(cond v12
(some ((af.mk y3 y4 y5 y6 y7),(ReaderT.mk y1 y2)))
((G.ax n ag).bind fun v13 =>
(some (v13,(ReaderT.mk y1 y2))))))
((G.ax n ag).bind fun v14 =>
(some (v14,(ReaderT.mk y1 y2)))))
def G.dU (f:Nat) (aZ:ReaderT) (ag:af):Option (af × ReaderT):=match f with
| 0=>none
| n+1 =>
((G.bZ n ag).bind fun v1 =>
((G.ai n aZ ((v1.length:Nat):Int)).bind fun v2 =>
(chk (0<=v2.1/\v2.1<((v1.length:Nat):Int))
((G.ax n ag).bind fun v3 =>
((G.ai n v2.2 5).bind fun v15 =>
(cond (v15.1==0)
((G.dW n ag (v1.getD v2.1.toNat default)).bind fun v16 =>
(G.dU.K1 n ag v16.2 v15.2.b v15.2.p v16.1.Kind v16.1.Num v16.1.Text v16.1.Names v16.1.Kids))
(cond (v15.1==1)
(chk (((v1.getD v2.1.toNat default).length)*18<=2^46)
((G.bQ n v15.2 [[97],[48],[45],[122]]).bind fun v17 =>
(chk (((v1.getD v2.1.toNat default).length+1)*18<=2^46)
((G.aB n v17.2 2).bind fun v18 =>
((G.jc n ag ((v1.getD v2.1.toNat default)++[v17.1]) v18.1).bind fun v19 =>
(G.dU.K1 n ag v19.2 v18.2.b v18.2.p v19.1.Kind v19.1.Num v19.1.Text v19.1.Names v19.1.Kids))))))
(cond (v15.1==2)
((G.aB n v15.2 2).bind fun v20 =>
((G.fP n ag (v1.getD v2.1.toNat default) v20.1).bind fun v21 =>
(G.dU.K1 n ag v21.2 v20.2.b v20.2.p v21.1.Kind v21.1.Num v21.1.Text v21.1.Names v21.1.Kids)))
(cond (v15.1==3)
((G.bM n v15.2).bind fun v22 =>
(some (v22.1,v22.2)))
(G.dU.K1 n ag true v15.2.b v15.2.p v3.Kind v3.Num v3.Text v3.Names v3.Kids))))))))))
def G.iM (f:Nat) (ag:af):Option (List (List aK)):=match f with
| 0=>none
| n+1 =>
((G.aS n ag).bind fun v1 =>
(cond v1
((G.bZ n ag).bind fun v2 =>
(some (v2)))
(some ([]))))
def G.fA.L1 (f:Nat) (oC:Int) (y3:List Int) (y4:Int) (z2:List aK):Option (List aK × ReaderT):=match f with
| 0=>none
| n+1 =>
(cond (decide (0<oC))
((G.bQ n (ReaderT.mk y3 y4) [[97],[98],[48],[49],[45],[97,47,98],[126,120],[],[99]]).bind fun v4 =>
(chk ((z2.length+1)*18<=2^46)
(G.fA.L1 n (IntKind.wrap .i64 (oC-1)) v4.2.b v4.2.p (z2++[v4.1]))))
(cond (decide (0<((z2.length:Nat):Int)))
((G.ai n (ReaderT.mk y3 y4) 20).bind fun v5 =>
(cond (v5.1==0)
((G.bQ n v5.2 [[97,98,99,100,101,102,103,104,105,106,107,108,109],[10]]).bind fun v6 =>
(chk (0<=0/\0<((z2.length:Nat):Int))
(some ((z2.set 0 v6.1),v6.2))))
(some (z2,v5.2))))
(some (z2,(ReaderT.mk y3 y4)))))
def G.fA (f:Nat) (aZ:ReaderT):Option (List aK × ReaderT):=match f with
| 0=>none
| n+1 =>
((G.bI n aZ [1,2,1,0,3,5,6]).bind fun v1 =>
(G.fA.L1 n v1.1 v1.2.b v1.2.p []))
def G.iW (f:Nat) (aZ:ReaderT) (ag:af):Option (List aK × ReaderT):=match f with
| 0=>none
| n+1 =>
((G.iM n ag).bind fun v1 =>
(cond (decide (0<((v1.length:Nat):Int)))
((G.ai n aZ 4).bind fun v2 =>
(cond (decide (0<v2.1))
((G.ai n v2.2 ((v1.length:Nat):Int)).bind fun v3 =>
(chk (0<=v3.1/\v3.1<((v1.length:Nat):Int))
(some ((v1.getD v3.1.toNat default),v3.2))))
((G.fA n v2.2).bind fun v4 =>
(some (v4.1,v4.2)))))
((G.fA n aZ).bind fun v5 =>
(some (v5.1,v5.2)))))
def G.aH.K4 (f:Nat) (v1:Int × ReaderT) (v2:List aK × ReaderT) (y3:List aK) (y4:Int) (y5:Int) (y6:aK) (y7:List aK) (y8:List af) (Tf:Bool) (y9:List Int) (FP:Int):Option (jr × ReaderT):=match f with
| 0=>none
| n+1 =>
(cond Tf
(chk (v2.1.length*18<=2^46)
((G.bQ n (ReaderT.mk y9 FP) [[122],[45],[48],[101]]).bind fun v10 =>
(chk ((v2.1.length+1)*18<=2^46)
(some ((jr.mk (IntKind.wrap .i64 (1+v1.1)) (v2.1++[v10.1]) y3 (af.mk y4 y5 y6 y7 y8)),v10.2)))))
(some ((jr.mk (IntKind.wrap .i64 (1+v1.1)) v2.1 y3 (af.mk y4 y5 y6 y7 y8)),(ReaderT.mk y9 FP))))
def G.aH.K3 (f:Nat) (v1:Int × ReaderT) (v2:List aK × ReaderT) (y1:List Int) (y2:Int) (y3:List aK) (y4:Int) (y5:Int) (y6:aK) (y7:List aK) (y8:List af):Option (jr × ReaderT):=match f with
| 0=>none
| n+1 =>
(cond (decide (((v2.1.length:Nat):Int)<4))
(cond ((IntKind.wrap .i64 (1+v1.1))==1)
((G.ai n (ReaderT.mk y1 y2) 2).bind fun v11 =>
(G.aH.K4 n v1 v2 y3 y4 y5 y6 y7 y8 (v11.1==0) v11.2.b v11.2.p))
(cond ((IntKind.wrap .i64 (1+v1.1))==4)
((G.ai n (ReaderT.mk y1 y2) 2).bind fun v12 =>
(G.aH.K4 n v1 v2 y3 y4 y5 y6 y7 y8 (v12.1==0) v12.2.b v12.2.p))
(cond ((IntKind.wrap .i64 (1+v1.1))==5)
((G.ai n (ReaderT.mk y1 y2) 2).bind fun v13 =>
(G.aH.K4 n v1 v2 y3 y4 y5 y6 y7 y8 (v13.1==0) v13.2.b v13.2.p))
(G.aH.K4 n v1 v2 y3 y4 y5 y6 y7 y8 false y1 y2))))
(G.aH.K4 n v1 v2 y3 y4 y5 y6 y7 y8 false y1 y2))
def G.aH.K6 (f:Nat) (ag:af) (v1:Int × ReaderT) (v2:List aK × ReaderT) (Ti:Bool):Option (jr × ReaderT):=match f with
| 0=>none
| n+1 =>
(cond Ti
((G.iW n v2.2 ag).bind fun v17 =>
(G.aH.K3 n v1 v2 v17.2.b v17.2.p v17.1 0 0 [] [] []))
(G.aH.K3 n v1 v2 v2.2.b v2.2.p [] 0 0 [] [] []))
def G.aH.K5 (f:Nat) (ag:af) (v1:Int × ReaderT) (v2:List aK × ReaderT) (vV:Bool):Option (jr × ReaderT):=match f with
| 0=>none
| n+1 =>
(cond vV
((G.aB n v2.2 2).bind fun v14 =>
(G.aH.K3 n v1 v2 v14.2.b v14.2.p [] v14.1.Kind v14.1.Num v14.1.Text v14.1.Names v14.1.Kids))
(cond ((IntKind.wrap .i64 (1+v1.1))==6)
((G.iC n ag v2.1).bind fun v15 =>
(cond v15.2
((G.ai n v2.2 3).bind fun v16 =>
(cond (decide (0<v16.1))
(G.aH.K3 n v1 v2 v16.2.b v16.2.p [] v15.1.Kind v15.1.Num v15.1.Text v15.1.Names v15.1.Kids)
(G.aH.K3 n v1 v2 v16.2.b v16.2.p [] 0 0 [] [] [])))
(G.aH.K3 n v1 v2 v2.2.b v2.2.p [] 0 0 [] [] [])))
(cond ((IntKind.wrap .i64 (1+v1.1))==4)
(G.aH.K6 n ag v1 v2 true)
(G.aH.K6 n ag v1 v2 ((IntKind.wrap .i64 (1+v1.1))==5)))))
def G.aH (f:Nat) (aZ:ReaderT) (ag:af):Option (jr × ReaderT):=match f with
| 0=>none
| n+1 =>
((G.ai n aZ 6).bind fun v1 =>
((G.iW n v1.2 ag).bind fun v2 =>
(cond ((IntKind.wrap .i64 (1+v1.1))==1)
(G.aH.K5 n ag v1 v2 true)
(G.aH.K5 n ag v1 v2 ((IntKind.wrap .i64 (1+v1.1))==3)))))
def G.au.K4 (f:Nat) (v1:aK × ReaderT) (v2:bY × Bool) (v3:Int × ReaderT) (y3:List aK) (y6:List aK) (QH:List Int) (QI:Int) (y13:Int) (NT:Int) (NU:aK) (NV:List aK) (QS:List af) (z3:List jr):Option (RequestT × ReaderT):=match f with
| 0=>none
| n+1 =>
(cond v2.2
(some ((RequestT.mk (IntKind.wrap .i64 (1+v3.1)) v1.1 y3 y6 (af.mk y13 NT NU NV QS) z3),(ReaderT.mk QH QI)))
((G.ai n (ReaderT.mk QH QI) 2).bind fun v16 =>
(cond (v16.1==0)
(some ((RequestT.mk 2 v1.1 y3 y6 (af.mk y13 NT NU NV QS) z3),v16.2))
(some ((RequestT.mk (IntKind.wrap .i64 (1+v3.1)) v1.1 y3 y6 (af.mk y13 NT NU NV QS) z3),v16.2)))))
def G.au.L5 (f:Nat) (v1:aK × ReaderT) (v2:bY × Bool) (v3:Int × ReaderT) (y3:List aK) (y6:List aK) (RJ:Int) (y20:List Int) (y21:Int) (z5:List jr):Option (RequestT × ReaderT):=match f with
| 0=>none
| n+1 =>
(cond (decide (0<RJ))
((G.aH n (ReaderT.mk y20 y21) v2.1.Node).bind fun v22 =>
(chk ((z5.length+1)*145<=2^46)
(G.au.L5 n v1 v2 v3 y3 y6 (IntKind.wrap .i64 (RJ-1)) v22.2.b v22.2.p (z5++[v22.1]))))
(G.au.K4 n v1 v2 v3 y3 y6 y20 y21 0 0 [] [] [] z5))
def G.au.K2 (f:Nat) (v1:aK × ReaderT) (v2:bY × Bool) (v3:Int × ReaderT) (y3:List aK) (y4:List Int) (y5:Int) (y6:List aK):Option (RequestT × ReaderT):=match f with
| 0=>none
| n+1 =>
(cond ((IntKind.wrap .i64 (1+v3.1))==2)
((G.bM n (ReaderT.mk y4 y5)).bind fun v17 =>
(G.au.K4 n v1 v2 v3 y3 y6 v17.2.b v17.2.p v17.1.Kind v17.1.Num v17.1.Text v17.1.Names v17.1.Kids []))
(cond ((IntKind.wrap .i64 (1+v3.1))==5)
((G.dU n (ReaderT.mk y4 y5) v2.1.Node).bind fun v18 =>
(G.au.K4 n v1 v2 v3 y3 y6 v18.2.b v18.2.p v18.1.Kind v18.1.Num v18.1.Text v18.1.Names v18.1.Kids []))
(cond ((IntKind.wrap .i64 (1+v3.1))==4)
((G.ai n (ReaderT.mk y4 y5) 3).bind fun v19 =>
(G.au.L5 n v1 v2 v3 y3 y6 v19.1 v19.2.b v19.2.p []))
(G.au.K4 n v1 v2 v3 y3 y6 y4 y5 0 0 [] [] [] []))))
def G.au.K1 (f:Nat) (v1:aK × ReaderT) (v2:bY × Bool) (v3:Int × ReaderT) (y1:List Int) (y2:Int) (y3:List aK):Option (RequestT × ReaderT):=match f with
| 0=>none
| n+1 =>
((G.ai n (ReaderT.mk y1 y2) 4).bind fun v23 =>
(cond (v23.1==0)
((G.iR n v2.1.Node).bind fun v24 =>
((G.fB n v23.2 v24).bind fun v25 =>
(G.au.K2 n v1 v2 v3 y3 v25.2.b v25.2.p v25.1)))
(G.au.K2 n v1 v2 v3 y3 v23.2.b v23.2.p [])))
def G.au (f:Nat) (aZ:ReaderT) (aF:StoreT):Option (RequestT × ReaderT):=match f with
| 0=>none
| n+1 =>
((G.jk n aZ aF).bind fun v1 =>
((G.iI n aF v1.1).bind fun v2 =>
((G.ai n v1.2 5).bind fun v3 =>
((G.ai n v3.2 3).bind fun v26 =>
(cond (v26.1==0)
((G.iR n v2.1.Node).bind fun v27 =>
((G.fB n v26.2 v27).bind fun v28 =>
(G.au.K1 n v1 v2 v3 v28.2.b v28.2.p v28.1)))
(G.au.K1 n v1 v2 v3 v26.2.b v26.2.p []))))))
def G.gY (f:Nat) (aZ:ReaderT) (aF:StoreT):Option (RequestT × ReaderT):=match f with
| 0=>none
| n+1 =>
((G.au n aZ aF).bind fun v1 =>
((G.ai n v1.2 30).bind fun v2 =>
(cond (v2.1==0)
((G.bI n v2.2 [0,6]).bind fun v3 =>
(some ((RequestT.mk v3.1 v1.1.Name v1.1.Want v1.1.ja v1.1.Body v1.1.Ops),v3.2)))
(cond (v2.1==1)
((G.gW n v2.2).bind fun v4 =>
(some ((RequestT.mk v1.1.Method v4.1 v1.1.Want v1.1.ja v1.1.Body v1.1.Ops),v4.2)))
(cond (v2.1==2)
((G.fF n v2.2).bind fun v5 =>
(some ((RequestT.mk v1.1.Method v1.1.Name v1.1.Want v1.1.ja v5.1 v1.1.Ops),v5.2)))
(some (v1.1,v2.2)))))))
def G.gU.L1 (f:Nat) (aF:StoreT) (dh:aK) (v1:StoreT) (aC:Int) (z2:List bY):Option (StoreT):=match f with
| 0=>none
| n+1 =>
(cond (decide (aC<((v1.Items.length:Nat):Int)))
(chk (0<=aC/\aC<((v1.Items.length:Nat):Int))
(cond ((v1.Items.getD aC.toNat default).Name==dh)
(G.gU.L1 n aF dh v1 (IntKind.wrap .i64 (aC+1)) z2)
(chk (0<=aC/\aC<((v1.Items.length:Nat):Int))
(chk ((z2.length+1)*112<=2^46)
(G.gU.L1 n aF dh v1 (IntKind.wrap .i64 (aC+1)) (z2++[(bY.mk ((v1.Items.getD aC.toNat default).Name) ((v1.Items.getD aC.toNat default).Version) ((v1.Items.getD aC.toNat default).Node))]))))))
(some ((StoreT.mk z2 (IntKind.wrap .i64 (aF.Clock+1))))))
def G.gU (f:Nat) (aF:StoreT) (dh:aK):Option (StoreT):=match f with
| 0=>none
| n+1 =>
((G.bP n aF).bind fun v1 =>
(G.gU.L1 n aF dh v1 0 []))
def G.iq (f:Nat) (aF:StoreT) (dh:aK):Option (StoreT × Bool):=match f with
| 0=>none
| n+1 =>
((G.aY n aF).bind fun v1 =>
(cond v1
((G.gq n aF dh).bind fun v2 =>
(cond (decide (v2<0))
(some ((StoreT.mk [] 0),false))
(cond (aF.Clock==999)
(some ((StoreT.mk [] 0),false))
((G.gU n aF dh).bind fun v3 =>
(some (v3,true))))))
(some ((StoreT.mk [] 0),false))))
mutual
def G.dR.K4 (f:Nat) (aF:StoreT) (dh:aK) (v1:af) (v2:StoreT) (aC:Int) (IQ:Bool) (z5:List bY):Option (StoreT):=match f with
| 0=>none
| n+1 =>
(chk (0<=aC/\aC<((v2.Items.length:Nat):Int))
(cond ((v2.Items.getD aC.toNat default).Name==dh)
(G.dR.L3 n aF dh v1 v2 IQ (IntKind.wrap .i64 (aC+1)) z5)
(chk (0<=aC/\aC<((v2.Items.length:Nat):Int))
(chk ((z5.length+1)*112<=2^46)
(G.dR.L3 n aF dh v1 v2 IQ (IntKind.wrap .i64 (aC+1)) (z5++[(bY.mk ((v2.Items.getD aC.toNat default).Name) ((v2.Items.getD aC.toNat default).Version) ((v2.Items.getD aC.toNat default).Node))]))))))
def G.dR.L3 (f:Nat) (aF:StoreT) (dh:aK) (v1:af) (v2:StoreT) (IP:Bool) (aC:Int) (z4:List bY):Option (StoreT):=match f with
| 0=>none
| n+1 =>
(cond (decide (aC<((v2.Items.length:Nat):Int)))
(cond IP
(G.dR.K4 n aF dh v1 v2 aC true z4)
(chk (0<=aC/\aC<((v2.Items.length:Nat):Int))
(cond (Op.bytesLess ((v2.Items.getD aC.toNat default).Name) dh)
(G.dR.K4 n aF dh v1 v2 aC false z4)
(chk ((z4.length+1)*112<=2^46)
(G.dR.K4 n aF dh v1 v2 aC true (z4++[(bY.mk dh (IntKind.wrap .i64 (aF.Clock+1)) v1)]))))))
(cond IP
(some ((StoreT.mk z4 (IntKind.wrap .i64 (aF.Clock+1)))))
(chk ((z4.length+1)*112<=2^46)
(some ((StoreT.mk (z4++[(bY.mk dh (IntKind.wrap .i64 (aF.Clock+1)) v1)]) (IntKind.wrap .i64 (aF.Clock+1))))))))
end
def G.dR (f:Nat) (aF:StoreT) (dh:aK) (ag:af):Option (StoreT):=match f with
| 0=>none
| n+1 =>
((G.ax n ag).bind fun v1 =>
((G.bP n aF).bind fun v2 =>
(G.dR.L3 n aF dh v1 v2 false 0 [])))
def G.iJ (f:Nat) (aF:StoreT) (dh:aK) (ag:af):Option (StoreT × Bool):=match f with
| 0=>none
| n+1 =>
((G.aY n aF).bind fun v1 =>
(cond v1
((G.bD n dh).bind fun v2 =>
(cond v2
((G.aS n ag).bind fun v3 =>
(cond v3
((G.dR n aF dh ag).bind fun v4 =>
((G.aY n v4).bind fun v5 =>
(cond v5
(some (v4,true))
(some ((StoreT.mk [] 0),false)))))
(some ((StoreT.mk [] 0),false))))
(some ((StoreT.mk [] 0),false))))
(some ((StoreT.mk [] 0),false))))
mutual
def G.bC.K4 (f:Nat) (oC:Int) (NU:List bY) (NV:Int) (RP:Bool) (QS:List Int) (TN:Int) (Uu:List bY) (y20:Int):Option (StoreT × ReaderT):=match f with
| 0=>none
| n+1 =>
(cond RP
(G.bC.L3 n (IntKind.wrap .i64 (oC-1)) QS TN Uu y20)
(G.bC.L3 n (IntKind.wrap .i64 (oC-1)) QS TN NU NV))
def G.bC.L3 (f:Nat) (oC:Int) (y13:List Int) (NT:Int) (NU:List bY) (NV:Int):Option (StoreT × ReaderT):=match f with
| 0=>none
| n+1 =>
(cond (decide (0<oC))
((G.gm n (ReaderT.mk y13 NT)).bind fun v20 =>
((G.bM n v20.2).bind fun v21 =>
((G.iJ n (StoreT.mk NU NV) v20.1 v21.1).bind fun v22 =>
((G.ai n v21.2 8).bind fun v26 =>
(cond (v26.1==0)
((G.gm n v26.2).bind fun v27 =>
((G.iq n (StoreT.mk NU NV) v27.1).bind fun v28 =>
(G.bC.K4 n oC NU NV v28.2 v27.2.b v27.2.p v28.1.Items v28.1.Clock)))
(G.bC.K4 n oC NU NV v22.2 v26.2.b v26.2.p v22.1.Items v22.1.Clock))))))
(some ((StoreT.mk NU NV),(ReaderT.mk y13 NT))))
end
def G.bC (f:Nat) (aZ:ReaderT):Option (StoreT × ReaderT):=match f with
| 0=>none
| n+1 =>
((G.bI n aZ [3,4,2,5,0,12]).bind fun v1 =>
(G.bC.L3 n v1.1 v1.2.b v1.2.p [] 0))
def G.di.K1 (f:Nat) (v2:RequestT × ReaderT) (y1:List Int) (y2:Int) (y3:Int) (y4:Int) (y5:aK) (y6:List aK) (y7:List af):Option (RequestT × ReaderT):=match f with
| 0=>none
| n+1 =>
(cond (v2.1.Method != 4)
((G.ai n (ReaderT.mk y1 y2) 8).bind fun v4 =>
(cond (decide (0<v4.1))
(some ((RequestT.mk v2.1.Method v2.1.Name v2.1.Want v2.1.ja (af.mk y3 y4 y5 y6 y7) []),v4.2))
(some ((RequestT.mk v2.1.Method v2.1.Name v2.1.Want v2.1.ja (af.mk y3 y4 y5 y6 y7) v2.1.Ops),v4.2))))
(some ((RequestT.mk v2.1.Method v2.1.Name v2.1.Want v2.1.ja (af.mk y3 y4 y5 y6 y7) v2.1.Ops),(ReaderT.mk y1 y2))))
def G.di (f:Nat) (aZ:ReaderT):Option (RequestT × ReaderT):=match f with
| 0=>none
| n+1 =>
((G.bC n aZ).bind fun v1 =>
((G.gY n v1.2 v1.1).bind fun v2 =>
(cond (v2.1.Method != 2)
(cond (v2.1.Method != 5)
((G.ai n v2.2 8).bind fun v5 =>
(cond (decide (0<v5.1))
(G.di.K1 n v2 v5.2.b v5.2.p 0 0 [] [] [])
(G.di.K1 n v2 v5.2.b v5.2.p v2.1.Body.Kind v2.1.Body.Num v2.1.Body.Text v2.1.Body.Names v2.1.Body.Kids)))
(G.di.K1 n v2 v2.2.b v2.2.p v2.1.Body.Kind v2.1.Body.Num v2.1.Body.Text v2.1.Body.Names v2.1.Body.Kids))
(G.di.K1 n v2 v2.2.b v2.2.p v2.1.Body.Kind v2.1.Body.Num v2.1.Body.Text v2.1.Body.Names v2.1.Body.Kids))))
def G.dH (f:Nat) (iL:List Int):Option (RequestT):=match f with
| 0=>none
| n+1 =>
((G.iE n iL).bind fun v1 =>
((G.di n v1).bind fun v2 =>
(some (v2.1))))
def G.dO.L1 (f:Nat) (aF:aK) (aC:Int):Option (Bool):=match f with
| 0=>none
| n+1 =>
(cond (decide (aC<((aF.length:Nat):Int)))
(chk (0<=aC/\aC<((aF.length:Nat):Int))
((G.bu n (IntKind.wrap .i64 ((((aF.getD aC.toNat 0).toNat:Nat):Int))) 48 57).bind fun v5 =>
(cond v5
(G.dO.L1 n aF (IntKind.wrap .i64 (aC+1)))
(chk (0<=aC/\aC<((aF.length:Nat):Int))
((G.bu n (IntKind.wrap .i64 ((((aF.getD aC.toNat 0).toNat:Nat):Int))) 97 102).bind fun v6 =>
(cond v6
(G.dO.L1 n aF (IntKind.wrap .i64 (aC+1)))
(some (false))))))))
(some ((((aF.length:Nat):Int)==4))))
def G.dO (f:Nat) (aF:aK):Option (Bool):=match f with
| 0=>none
| n+1 =>
(G.dO.L1 n aF 0)
def G.bU.L1 (f:Nat) (aj:List aK) (aC:Int):Option (Bool):=match f with
| 0=>none
| n+1 =>
(cond (decide (aC<((aj.length:Nat):Int)))
(chk (0<=aC/\aC<((aj.length:Nat):Int))
(cond ((aj.getD aC.toNat default)==[42])
(G.bU.L1 n aj (IntKind.wrap .i64 (aC+1)))
(chk (0<=aC/\aC<((aj.length:Nat):Int))
((G.dO n (aj.getD aC.toNat default)).bind fun v3 =>
(cond v3
(G.bU.L1 n aj (IntKind.wrap .i64 (aC+1)))
(some (false)))))))
(some ((decide (((aj.length:Nat):Int)<=4)))))
def G.bU (f:Nat) (aj:List aK):Option (Bool):=match f with
| 0=>none
| n+1 =>
(G.bU.L1 n aj 0)
mutual
def G.aX.K4 (f:Nat) (aj:List aK) (aC:Int) (xw:aK):Option (aK):=match f with
| 0=>none
| n+1 =>
(chk (0<=aC/\aC<((aj.length:Nat):Int))
(cond ((aj.getD aC.toNat default)==[42])
(chk (xw.length+1<=maxLen)
(G.aX.L3 n aj (xw++[42]) (IntKind.wrap .i64 (aC+1))))
(chk (xw.length+1<=maxLen)
(chk (0<=aC/\aC<((aj.length:Nat):Int))
(chk ((xw.length+1)+(aj.getD aC.toNat default).length<=maxLen)
(chk (((xw.length+1)+(aj.getD aC.toNat default).length)+1<=maxLen)
(G.aX.L3 n aj (((xw++[34])++(aj.getD aC.toNat default))++[34]) (IntKind.wrap .i64 (aC+1)))))))))
def G.aX.L3 (f:Nat) (aj:List aK) (Ed:aK) (aC:Int):Option (aK):=match f with
| 0=>none
| n+1 =>
(cond (decide (aC<((aj.length:Nat):Int)))
(cond (decide (0<aC))
(chk (Ed.length+1<=maxLen)
(G.aX.K4 n aj aC (Ed++[44])))
(G.aX.K4 n aj aC Ed))
(some (Ed)))
end
def G.aX (f:Nat) (aj:List aK):Option (aK):=match f with
| 0=>none
| n+1 =>
((G.bU n aj).bind fun v1 =>
(cond v1
(G.aX.L3 n aj [] 0)
(some ([]))))
def G.jd (f:Nat):Option (List aK):=match f with
| 0=>none
| n+1 =>
(some ([[],[97,100,100],[114,101,109,111,118,101],[114,101,112,108,97,99,101],[109,111,118,101],[99,111,112,121],[116,101,115,116]]))
def G.jq (f:Nat) (aF:aK):Option (af):=match f with
| 0=>none
| n+1 =>
(some ((af.mk 2 0 aF [] [])))
def G.gB.L1 (f:Nat) (aG:List aK) (aC:Int) (z2:List af):Option (af):=match f with
| 0=>none
| n+1 =>
(cond (decide (aC<((aG.length:Nat):Int)))
(chk (0<=aC/\aC<((aG.length:Nat):Int))
((G.jq n (aG.getD aC.toNat default)).bind fun v3 =>
(chk ((z2.length+1)*86<=2^46)
(G.gB.L1 n aG (IntKind.wrap .i64 (aC+1)) (z2++[v3])))))
(some ((af.mk 3 0 [] [] z2))))
def G.gB (f:Nat) (aG:List aK):Option (af):=match f with
| 0=>none
| n+1 =>
(G.gB.L1 n aG 0 [])
def G.iy (f:Nat) (iP:jr):Option (af):=match f with
| 0=>none
| n+1 =>
((G.gB n iP.From).bind fun v1 =>
((G.jd n).bind fun v2 =>
(chk (0<=iP.Kind/\iP.Kind<((v2.length:Nat):Int))
((G.jq n (v2.getD iP.Kind.toNat default)).bind fun v3 =>
((G.gB n iP.Path).bind fun v4 =>
((G.ax n iP.Value).bind fun v5 =>
(some ((af.mk 4 0 [] [[102,114,111,109],[111,112],[112,97,116,104],[118,97,108,117,101]] [v1,v3,v4,v5])))))))))
def G.jJ (f:Nat):Option (List aK):=match f with
| 0=>none
| n+1 =>
(some ([[],[103,101,116],[112,117,116],[100,101,108,101,116,101],[112,97,116,99,104],[109,101,114,103,101]]))
def G.bV.L1 (f:Nat) (aN:RequestT) (lN:aK) (aC:Int):Option (aK):=match f with
| 0=>none
| n+1 =>
(cond (decide (aC<((aN.Ops.length:Nat):Int)))
(chk (0<=aC/\aC<((aN.Ops.length:Nat):Int))
((G.iy n (jr.mk ((aN.Ops.getD aC.toNat default).Kind) ((aN.Ops.getD aC.toNat default).Path) ((aN.Ops.getD aC.toNat default).From) ((aN.Ops.getD aC.toNat default).Value))).bind fun v8 =>
((G.aP n v8).bind fun v9 =>
(chk (lN.length+v9.length<=maxLen)
(chk ((lN.length+v9.length)+1<=maxLen)
(G.bV.L1 n aN ((lN++v9)++[59]) (IntKind.wrap .i64 (aC+1))))))))
(some (lN)))
def G.bV (f:Nat) (aN:RequestT):Option (aK):=match f with
| 0=>none
| n+1 =>
((G.jJ n).bind fun v1 =>
(chk (0<=aN.Method/\aN.Method<((v1.length:Nat):Int))
(chk ((v1.getD aN.Method.toNat default).length+1<=maxLen)
(chk (((v1.getD aN.Method.toNat default).length+1)+aN.Name.length<=maxLen)
(chk ((((v1.getD aN.Method.toNat default).length+1)+aN.Name.length)+1<=maxLen)
((G.aX n aN.Want).bind fun v2 =>
(chk (((((v1.getD aN.Method.toNat default).length+1)+aN.Name.length)+1)+v2.length<=maxLen)
(chk ((((((v1.getD aN.Method.toNat default).length+1)+aN.Name.length)+1)+v2.length)+1<=maxLen)
((G.aX n aN.ja).bind fun v3 =>
(chk (((((((v1.getD aN.Method.toNat default).length+1)+aN.Name.length)+1)+v2.length)+1)+v3.length<=maxLen)
(chk ((((((((v1.getD aN.Method.toNat default).length+1)+aN.Name.length)+1)+v2.length)+1)+v3.length)+1<=maxLen)
(cond (aN.Method==4)
(G.bV.L1 n aN ((((((((v1.getD aN.Method.toNat default)++[32])++aN.Name)++[32])++v2)++[32])++v3)++[32]) 0)
((G.aP n aN.Body).bind fun v10 =>
(chk (((((((((v1.getD aN.Method.toNat default).length+1)+aN.Name.length)+1)+v2.length)+1)+v3.length)+1)+v10.length<=maxLen)
(some ((((((((((v1.getD aN.Method.toNat default)++[32])++aN.Name)++[32])++v2)++[32])++v3)++[32])++v10)))))))))))))))))
def G.cZ.L1 (f:Nat) (aG:List aK) (aC:Int):Option (Bool):=match f with
| 0=>none
| n+1 =>
(cond (decide (aC<((aG.length:Nat):Int)))
(chk (0<=aC/\aC<((aG.length:Nat):Int))
((G.bG n (aG.getD aC.toNat default)).bind fun v3 =>
(cond v3
(G.cZ.L1 n aG (IntKind.wrap .i64 (aC+1)))
(some (false)))))
(some ((decide (((aG.length:Nat):Int)<=5)))))
def G.cZ (f:Nat) (aG:List aK):Option (Bool):=match f with
| 0=>none
| n+1 =>
(G.cZ.L1 n aG 0)
def G.iK (f:Nat) (iP:jr):Option (Bool):=match f with
| 0=>none
| n+1 =>
((G.bu n iP.Kind 1 6).bind fun v1 =>
(cond v1
((G.cZ n iP.Path).bind fun v2 =>
(cond v2
((G.cZ n iP.From).bind fun v3 =>
(cond v3
((G.aS n iP.Value).bind fun v4 =>
(some (v4)))
(some (false))))
(some (false))))
(some (false))))
def G.cu.L1 (f:Nat) (aj:List jr) (aC:Int):Option (Bool):=match f with
| 0=>none
| n+1 =>
(cond (decide (aC<((aj.length:Nat):Int)))
(chk (0<=aC/\aC<((aj.length:Nat):Int))
((G.iK n (jr.mk ((aj.getD aC.toNat default).Kind) ((aj.getD aC.toNat default).Path) ((aj.getD aC.toNat default).From) ((aj.getD aC.toNat default).Value))).bind fun v3 =>
(cond v3
(G.cu.L1 n aj (IntKind.wrap .i64 (aC+1)))
(some (false)))))
(some ((decide (((aj.length:Nat):Int)<=12)))))
def G.cu (f:Nat) (aj:List jr):Option (Bool):=match f with
| 0=>none
| n+1 =>
(G.cu.L1 n aj 0)
def G.fC (f:Nat) (aN:RequestT):Option (Bool):=match f with
| 0=>none
| n+1 =>
((G.bu n aN.Method 1 5).bind fun v1 =>
(cond v1
((G.bD n aN.Name).bind fun v2 =>
(cond v2
((G.bU n aN.Want).bind fun v3 =>
(cond v3
((G.bU n aN.ja).bind fun v4 =>
(cond v4
((G.aS n aN.Body).bind fun v5 =>
(cond v5
((G.cu n aN.Ops).bind fun v6 =>
(some (v6)))
(some (false))))
(some (false))))
(some (false))))
(some (false))))
(some (false))))
def G.ay.L2 (f:Nat) (aN:RequestT) (aC:Int):Option (aK):=match f with
| 0=>none
| n+1 =>
(cond (decide (aC<((aN.Ops.length:Nat):Int)))
(chk (0<=aC/\aC<((aN.Ops.length:Nat):Int))
((G.iy n (jr.mk ((aN.Ops.getD aC.toNat default).Kind) ((aN.Ops.getD aC.toNat default).Path) ((aN.Ops.getD aC.toNat default).From) ((aN.Ops.getD aC.toNat default).Value))).bind fun v6 =>
((G.aS n v6).bind fun v7 =>
(cond v7
(G.ay.L2 n aN (IntKind.wrap .i64 (aC+1)))
(some ([]))))))
((G.bV n aN).bind fun v8 =>
(some (v8))))
def G.ay.K1 (f:Nat) (aN:RequestT):Option (aK):=match f with
| 0=>none
| n+1 =>
(G.ay.L2 n aN 0)
def G.ay (f:Nat) (aN:RequestT):Option (aK):=match f with
| 0=>none
| n+1 =>
((G.fC n aN).bind fun v9 =>
(cond v9
(cond (aN.Body.Kind != 0)
(cond (aN.Method != 2)
(cond (aN.Method != 5)
(some ([]))
(cond (decide (0<((aN.Ops.length:Nat):Int)))
(cond (aN.Method != 4)
(some ([]))
(G.ay.K1 n aN))
(G.ay.K1 n aN)))
(cond (decide (0<((aN.Ops.length:Nat):Int)))
(cond (aN.Method != 4)
(some ([]))
(G.ay.K1 n aN))
(G.ay.K1 n aN)))
(cond (decide (0<((aN.Ops.length:Nat):Int)))
(cond (aN.Method != 4)
(some ([]))
(G.ay.K1 n aN))
(G.ay.K1 n aN)))
(some ([]))))
end Go.Ab
end
section
namespace Go.Ab
open Go
set_option maxRecDepth 100000
set_option linter.defProp false
theorem MK {α β:Type} (f:α->β) (l:List α) (n:Nat):List.take n (List.map f l)=List.map f (List.take n l):=List.map_take.symm
theorem MJ {α β:Type} (f:α->β) (l:List α) (n:Nat):List.drop n (List.map f l)=List.map f (List.drop n l):=List.map_drop.symm
theorem TE {i:Int} {m:Nat} [inst:Decidable (0<=i/\i<(m:Int))] {α:Type} {k:Option α} {r:α} (h:chk (0<=i/\i<(m:Int)) k=some r):(0<=i/\i<(m:Int))/\i.toNat<m/\k=some r:=by
 obtain ⟨h1,h2⟩:=jZ.1 h
 exact ⟨h1,by omega,h2⟩
inductive Mk:Nat->Prop
 | mk (n:Nat):Mk n
theorem TD {m:Nat} [inst:Decidable ((0:Nat)<=0/\(0:Int)<(m:Int))] {α:Type} {k:Option α} {r:α} (h:chk ((0:Nat)<=0/\(0:Int)<(m:Int)) k=some r):(0:Int)<(m:Int)/\0<m/\k=some r:=by
 obtain ⟨h1,h2⟩:=jZ.1 h
 exact ⟨h1.2,by omega,h2⟩
theorem kq {c:Prop} [Decidable c] {α:Type} {k:Option α} {r:α} (h:chk c k=some r):c/\k=some r:=jZ.1 h
theorem bq {α β:Type} {x:Option α} {f:α->Option β} {r:β} (h:Option.bind x f=some r):∃ a,x=some a/\f a=some r:=Option.bind_eq_some_iff.1 h
section
variable {P:Program} {Q:AQ} {st:bF}
theorem L6 {f:FuncId} {iU:List AV} {p:Bool} {d:Option Nat} {K:List Nat->List Nat->bF->Prop} {du:DU K} (k:iY P f iU p d st K du):iY P f iU p d st K du:=k
theorem L8 {a:AQ->bF->Prop} {d1:DU a} {d2:DU Q} (k:pK a Q st d1 d2):pK a Q st d1 d2:=k
theorem PM {a b:AQ->bF->Prop} {d1:DU a} {d2:DU b} {d3:DU Q} (k:uS a b Q st d1 d2 d3):uS a b Q st d1 d2 d3:=k
theorem Ru {X:Type} {p:X->Prop} (k:∃ x,p x):∃ x,p x:=k
theorem PN {rs:List kP} {r:AV} (k:xJ rs r st):xJ rs r st:=k
theorem PO {rs:List kP} {m:Nat} {post:AV->List Box->Prop} (k:tu rs m post st):tu rs m post st:=k
end
theorem sq {α:Type} {x r:α} (h:some x=some r):r=x:=(Option.some.inj h).symm
theorem cq {b:Bool} {α:Type} {x y:Option α} {r:α} (h:cond b x y=some r):(b=true/\x=some r)\/(b=false/\y=some r):=oZ.1 h
def Tu:=And.intro @Kw (And.intro @NJ (And.intro @Kv (And.intro @NL (And.intro @NI (And.intro @Ku (And.intro @Ht (And.intro @Kt (And.intro @NK (And.intro @Kr (And.intro @OD (And.intro @OC (And.intro @I4 (And.intro @IZ (And.intro @I5 (And.intro @IX (And.intro @IW (And.intro @IY (And.intro @FX (And.intro @FW (And.intro @FY (And.intro @Oh (And.intro @Oi (And.intro @Oe (And.intro @Og (And.intro @Hu (And.intro @FD (And.intro @NP (And.intro @Kz (And.intro @PV (And.intro @QV (And.intro @QU (And.intro @PX (And.intro @Ol (And.intro @KN (And.intro @I7 (And.intro @KL (And.intro @uG.eq_1 (And.intro @uG.eq_2 (And.intro @lZ.eq_1 (And.intro @lZ.eq_2 (And.intro @st0.eq_1 (And.intro @lF.eq_1 (And.intro @lF.eq_2 (And.intro @iQ.eq_1 (And.intro @iQ.eq_2 (And.intro @fO.valid.eq_1 (And.intro @fO.valid.eq_2 (And.intro @aI.eq_1 (And.intro @Sv (And.intro @Su (And.intro @SE (And.intro @Tj (And.intro @qC (And.intro @nD (And.intro @Qr (And.intro @O1 (And.intro @O0 (And.intro @kT.eq_1 (And.intro @kT.eq_2 (And.intro @iw.eq_1 (And.intro @iw.eq_2 (And.intro @EX.eq_1 (And.intro @EX.eq_2 (And.intro @setB.eq_1 (And.intro @setB.eq_2 (And.intro @JO (And.intro @JP (And.intro @J5 (And.intro @G8 (And.intro @FR.ok.eq_1 (And.intro @xM.eq_1 (And.intro @xM.eq_2 (And.intro @xM.eq_3 (And.intro @AV.flat.eq_1 (And.intro @AV.flat.eq_2 (And.intro @AV.cells.eq_1 (And.intro @AV.cells.eq_2 (And.intro @AV.cells.eq_3 (And.intro @jX.eq_1 (And.intro @jX.eq_2 (And.intro @jX.eq_3 (And.intro @jX.eq_4 (And.intro @DK.eq_1 (And.intro @yV.eq_1 (And.intro @yV.eq_2 (And.intro @splice.eq_1 (And.intro @Box.arr.eq_1 (And.intro @Box.arr.eq_2 (And.intro @Box.arr.eq_3 (And.intro @dataOf.eq_1 (And.intro @dataOf.eq_2 (And.intro @dataOf.eq_3 (And.intro @dataOf.eq_4 (And.intro @qy.eq_1 (And.intro @qy.eq_2 (And.intro @bnd.eq_1 (And.intro @bnd.eq_2 (And.intro @xE.eq_1 (And.intro @xE.eq_2 (And.intro @MC (And.intro @MB (And.intro @qi.eq_1 (And.intro @jl.eq_1 (And.intro @jK.eq_1 (And.intro @KC.eq_1 (And.intro @lC.eq_1 (And.intro @lC.eq_2 (And.intro @lC.eq_3 (And.intro @nC.eq_1 (And.intro @nC.eq_2 (And.intro @nC.eq_3 (And.intro @jL.eq_1 (And.intro @jL.eq_2 (And.intro @jL.eq_3 (And.intro @jV.eq_1 (And.intro @jV.eq_2 (And.intro @jV.eq_3 (And.intro @AV.owns.eq_1 (And.intro @AV.owns.eq_2 (And.intro @AV.owns.eq_3 (And.intro @fZ.eq_1 (And.intro @fZ.eq_2 (And.intro @fZ.eq_3 (And.intro @AC.jD.eq_1 (And.intro @AC.jD.eq_2 (And.intro @AC.isLit.eq_1 (And.intro @AC.isLit.eq_2 (And.intro @AV.all.eq_1 (And.intro @AV.all.eq_2 (And.intro @AV.all.eq_3 (And.intro @Cell.isLit.eq_1 (And.intro @Cell.isLit.eq_2 (And.intro @List.mem_cons.{0} (And.intro @List.not_mem_nil.{0} (And.intro @or_false (And.intro @false_or (And.intro @or_true (And.intro @true_or (And.intro @forall_eq.{1} (And.intro @forall_eq_or_imp.{1} (And.intro @true_and (And.intro @and_true (And.intro @true_implies (And.intro @false_implies (And.intro @implies_true.{1} (And.intro @if_true.{1} (And.intro @if_false.{1} (And.intro @Bool.false_eq_true (And.intro @Bool.true_eq_false (And.intro @imp_self (And.intro @and_self (And.intro @cond_true.{1} (And.intro @cond_false.{1} (And.intro @List.map_cons.{0,0} (And.intro @List.map_nil.{0,0} (And.intro @List.take_succ_cons.{0} (And.intro @List.take_zero.{0} (And.intro @List.drop_succ_cons.{0} (And.intro @List.drop_zero.{0} (And.intro @List.take_nil.{0} (And.intro @List.drop_nil.{0} (And.intro @List.cons_append.{0} (And.intro @List.nil_append.{0} (And.intro @List.append_nil.{0} (And.intro @List.length_cons.{0} (And.intro @List.length_nil.{0} (And.intro @List.getElem?_cons_zero.{0} (And.intro @List.getElem?_cons_succ.{0} (And.intro @List.length_map.{0,0} (And.intro @List.length_replicate.{0} (And.intro @List.length_append.{0} (And.intro @List.map_append.{0,0} (And.intro @List.flatMap_cons.{0,0} (And.intro @List.flatMap_nil.{0,0} (And.intro @List.all_cons.{0} (And.intro @List.all_nil.{0} (And.intro @List.contains_cons.{0} (And.intro @List.contains_nil.{0} (And.intro @Bool.and_true (And.intro @Bool.or_false (And.intro @Bool.false_or (And.intro @Bool.true_or (And.intro @Bool.or_true (And.intro @Bool.and_self (And.intro @Bool.not_false (And.intro @Bool.not_true (And.intro @Bool.true_and (And.intro @Bool.false_and (And.intro @Bool.and_false (And.intro @Nat.zero_lt_succ (And.intro @Nat.zero_le (And.intro @Nat.zero_add (And.intro @Nat.le_refl (And.intro @Nat.min_self (And.intro @Sl (And.intro @Sj (And.intro @decide_true (And.intro @decide_false (And.intro @Es.eq_1 (And.intro @Es.eq_2 (And.intro @DZ.eq_1 (And.intro @DZ.eq_2 (And.intro @Au.eq_1 (And.intro @Au.eq_2 (And.intro @Au.eq_3 (And.intro @uZ.eq_1 (And.intro @uZ.eq_2 (And.intro @vF.eq_1 (And.intro @vF.eq_2 (And.intro @DI.eq_1 (And.intro @lX.eq_1 (And.intro @lX.eq_2 (And.intro @lX.eq_3 (And.intro @cI.eq_1 (And.intro @cU.eq_1 (And.intro @cB.eq_1 (And.intro @cS.eq_1 (And.intro @cL.eq_1 (And.intro @cK.eq_1 (And.intro @af.dL (And.intro @jr.dL (And.intro @RequestT.dL (And.intro @ReaderT.dL (And.intro @StoreT.dL (And.intro @bY.dL (And.intro @List.getD_cons_zero.{0} (And.intro @List.getD_cons_succ.{0} (And.intro @List.map_set.{0,0} (And.intro @List.length_set.{0} (And.intro @Jn (And.intro @take_len (And.intro @sV (And.intro @sW (And.intro @Iq (And.intro @zf.eq_1 (And.intro @zf.eq_2 (And.intro @LD (And.intro @oL.eq_1 (And.intro @oL.eq_2 (And.intro @Gg (And.intro @mY (And.intro @Ez (And.intro @EC (And.intro @Option.map_some.{0,0} (And.intro @Int.toNat_natCast (And.intro @Int.toNat_zero (And.intro @MK (And.intro @MJ (And.intro @bne_self_eq_false.{0} (And.intro @Bool.bne_true (And.intro @Bool.bne_false (And.intro @List.drop_replicate.{0} (And.intro @Nat.sub_self (And.intro @oJ.eq_1 (And.intro @oJ.eq_2 (And.intro @oJ.eq_3 (And.intro @Option.toList_none.{0} (And.intro @Option.toList_some.{0} (And.intro @Dk.eq_1 (And.intro @iT.eq_1 (And.intro @iT.eq_2 (And.intro @kM.eq_1 (And.intro @kM.eq_2 (And.intro @eq_self.{1} (And.intro @List.replicate_zero.{0} (And.intro @List.replicate_succ.{0} (And.intro @vk.eq_1 (And.intro @vk.eq_2 (And.intro @jQ.eq_1 (And.intro @jQ.eq_2 (And.intro @List.set_cons_zero.{0} (And.intro @List.set_cons_succ.{0} (And.intro @P9 (And.intro @lJ.eq_1 (And.intro @lJ.eq_2 (And.intro @lV.eq_1 (And.intro @lV.eq_2 (And.intro @lV.eq_3 (And.intro @List.zip_cons_cons.{0,0} (And.intro @List.zip_nil_right.{0,0} (And.intro @List.zip_nil_left.{0,0} (And.intro @beq_self_eq_true.{0} @Nat.add_zero))))))))))))))))))))))))))))))))))))))))))))))))))))))))))))))))))))))))))))))))))))))))))))))))))))))))))))))))))))))))))))))))))))))))))))))))))))))))))))))))))))))))))))))))))))))))))))))))))))))))))))))))))))))))))))))))))))))))))))))))))))))))))))))))))))))))))))))))))))))))))
theorem QO:type_of% Tu:=Tu
def TL:=And.intro @Ai.eq_1 (And.intro @Ai.eq_2 (And.intro @FB.eq_1 (And.intro @FB.eq_2 (And.intro @AZ.eq_1 (And.intro @AZ.eq_2 (And.intro @AZ.eq_3 (And.intro @IL.eq_1 (And.intro @IL.eq_2 (And.intro @IL.eq_3 (And.intro @IL.eq_4 (And.intro @uK.eq_1 (And.intro @uK.eq_2 (And.intro @uK.eq_3 (And.intro @Aq.eq_1 (And.intro @Aq.eq_2 (And.intro @kT.eq_1 (And.intro @kT.eq_2 (And.intro @iw.eq_1 (And.intro @iw.eq_2 (And.intro @true_and (And.intro @and_true (And.intro @implies_true.{1} (And.intro @List.mem_cons.{0} (And.intro @List.not_mem_nil.{0} (And.intro @or_false (And.intro @or_true (And.intro @true_or (And.intro @Box.arr.eq_1 (And.intro @Box.arr.eq_2 (And.intro @Box.arr.eq_3 (And.intro @qi.eq_1 (And.intro @jl.eq_1 (And.intro @jK.eq_1 (And.intro @KC.eq_1 (And.intro @not_false_eq_true (And.intro @false_or (And.intro @Option.some.injEq.{0} (And.intro @true_implies (And.intro @cI.eq_1 (And.intro @cU.eq_1 (And.intro @cB.eq_1 (And.intro @cS.eq_1 (And.intro @cL.eq_1 (And.intro @cK.eq_1 (And.intro @af.dL (And.intro @jr.dL (And.intro @RequestT.dL (And.intro @ReaderT.dL (And.intro @StoreT.dL (And.intro @bY.dL (And.intro @List.map_append.{0,0} (And.intro @List.map_cons.{0,0} (And.intro @List.map_nil.{0,0} (And.intro @List.map_set.{0,0} (And.intro @List.map_take.{0,0} (And.intro @List.map_drop.{0,0} (And.intro @List.map_replicate.{0,0} (And.intro @List.length_append.{0} (And.intro @List.length_cons.{0} (And.intro @List.length_nil.{0} (And.intro @List.length_map.{0,0} (And.intro @List.length_set.{0} (And.intro @List.length_replicate.{0} (And.intro @Nat.zero_add (And.intro @Nat.add_zero (And.intro @List.nil_append.{0} (And.intro @List.cons_append.{0} (And.intro @List.append_nil.{0} (And.intro @take_len (And.intro @sV (And.intro @sW @and_self)))))))))))))))))))))))))))))))))))))))))))))))))))))))))))))))))))))))
theorem Ur:type_of% TL:=TL
def TG:=And.intro @xJ.eq_1 (And.intro @nZ.eq_1 (And.intro @nZ.eq_2 (And.intro @kP.ok.eq_1 (And.intro @kP.ok.eq_2 (And.intro @kP.val.eq_1 (And.intro @kP.val.eq_2 (And.intro @AA.eq_1 (And.intro @AA.eq_2 (And.intro @kC.eq_1 (And.intro @kC.eq_2 (And.intro @partOf.eq_1 (And.intro @partOf.eq_2 (And.intro @partOf.eq_3 (And.intro @qC (And.intro @nD (And.intro @uA (And.intro @SE (And.intro @Tj (And.intro @AV.flat.eq_1 (And.intro @AV.flat.eq_2 (And.intro @jX.eq_1 (And.intro @jX.eq_2 (And.intro @jX.eq_3 (And.intro @jX.eq_4 (And.intro @kT.eq_1 (And.intro @kT.eq_2 (And.intro @iw.eq_1 (And.intro @iw.eq_2 (And.intro @dV.eq_1 (And.intro @dV.eq_2 (And.intro @dV.eq_3 (And.intro @dV.eq_4 (And.intro @dC.eq_1 (And.intro @dC.eq_2 (And.intro @dC.eq_3 (And.intro @dC.eq_4 (And.intro @NY.eq_1 (And.intro @NY.eq_2 (And.intro @NY.eq_3 (And.intro @OG.eq_1 (And.intro @OG.eq_2 (And.intro @OG.eq_3 (And.intro @Box.arr.eq_1 (And.intro @Box.arr.eq_2 (And.intro @Box.arr.eq_3 (And.intro @List.take_succ_cons.{0} (And.intro @List.take_zero.{0} (And.intro @List.drop_zero.{0} (And.intro @List.drop_succ_cons.{0} (And.intro @List.length_cons.{0} (And.intro @List.length_nil.{0} (And.intro @List.getElem?_cons_zero.{0} (And.intro @List.getElem?_cons_succ.{0} (And.intro @true_and (And.intro @and_true (And.intro @Nat.zero_add (And.intro @jl.eq_1 (And.intro @jK.eq_1 (And.intro @qi.eq_1 (And.intro @KC.eq_1 (And.intro @FR.ok.eq_1 (And.intro @cI.eq_1 (And.intro @cU.eq_1 (And.intro @cB.eq_1 (And.intro @cS.eq_1 (And.intro @cL.eq_1 (And.intro @cK.eq_1 (And.intro @af.dL (And.intro @jr.dL (And.intro @RequestT.dL (And.intro @ReaderT.dL (And.intro @StoreT.dL (And.intro @bY.dL (And.intro @List.map_append.{0,0} (And.intro @List.map_cons.{0,0} (And.intro @List.map_nil.{0,0} (And.intro @List.map_set.{0,0} (And.intro @List.map_take.{0,0} (And.intro @List.map_drop.{0,0} (And.intro @List.map_replicate.{0,0} (And.intro @List.length_append.{0} (And.intro @List.length_map.{0,0} (And.intro @List.length_set.{0} (And.intro @List.length_replicate.{0} (And.intro @Nat.add_zero (And.intro @List.nil_append.{0} (And.intro @List.cons_append.{0} (And.intro @List.append_nil.{0} (And.intro @take_len (And.intro @sV (And.intro @sW (And.intro @and_self @mY))))))))))))))))))))))))))))))))))))))))))))))))))))))))))))))))))))))))))))))))))))))))))))
theorem SY:type_of% TG:=TG
def TI:=And.intro @Ai.eq_1 (And.intro @Ai.eq_2 (And.intro @FB.eq_1 (And.intro @FB.eq_2 (And.intro @AZ.eq_1 (And.intro @AZ.eq_2 (And.intro @AZ.eq_3 (And.intro @IL.eq_1 (And.intro @IL.eq_2 (And.intro @IL.eq_3 (And.intro @IL.eq_4 (And.intro @uK.eq_1 (And.intro @uK.eq_2 (And.intro @uK.eq_3 (And.intro @Aq.eq_1 (And.intro @Aq.eq_2 (And.intro @kT.eq_1 (And.intro @kT.eq_2 (And.intro @iw.eq_1 (And.intro @iw.eq_2 (And.intro @true_and (And.intro @and_true (And.intro @implies_true.{1} (And.intro @List.mem_cons.{0} (And.intro @List.not_mem_nil.{0} (And.intro @or_false (And.intro @or_true (And.intro @true_or (And.intro @Box.arr.eq_1 (And.intro @Box.arr.eq_2 (And.intro @Box.arr.eq_3 (And.intro @qi.eq_1 (And.intro @jl.eq_1 (And.intro @jK.eq_1 (And.intro @KC.eq_1 (And.intro @not_false_eq_true (And.intro @false_or (And.intro @Option.some.injEq.{0} (And.intro @true_implies (And.intro @cI.eq_1 (And.intro @cU.eq_1 (And.intro @cB.eq_1 (And.intro @cS.eq_1 (And.intro @cL.eq_1 (And.intro @cK.eq_1 (And.intro @af.dL (And.intro @jr.dL (And.intro @RequestT.dL (And.intro @ReaderT.dL (And.intro @StoreT.dL (And.intro @bY.dL (And.intro @List.map_append.{0,0} (And.intro @List.map_cons.{0,0} (And.intro @List.map_nil.{0,0} (And.intro @List.map_set.{0,0} (And.intro @List.map_take.{0,0} (And.intro @List.map_drop.{0,0} (And.intro @List.map_replicate.{0,0} (And.intro @List.length_append.{0} (And.intro @List.length_cons.{0} (And.intro @List.length_nil.{0} (And.intro @List.length_map.{0,0} (And.intro @List.length_set.{0} (And.intro @List.length_replicate.{0} (And.intro @Nat.zero_add (And.intro @Nat.add_zero (And.intro @List.nil_append.{0} (And.intro @List.cons_append.{0} (And.intro @List.append_nil.{0} (And.intro @take_len (And.intro @sV (And.intro @sW (And.intro @and_self (And.intro @lZ.eq_1 (And.intro @lZ.eq_2 (And.intro @AY.eq_1 (And.intro @AY.eq_2 (And.intro @AY.eq_3 (And.intro @xJ.eq_1 (And.intro @nZ.eq_1 (And.intro @nZ.eq_2 (And.intro @kP.ok.eq_1 (And.intro @kP.ok.eq_2 (And.intro @kP.val.eq_1 (And.intro @kP.val.eq_2 (And.intro @AA.eq_1 (And.intro @AA.eq_2 (And.intro @kC.eq_1 (And.intro @kC.eq_2 (And.intro @partOf.eq_1 (And.intro @partOf.eq_2 (And.intro @partOf.eq_3 (And.intro @qC (And.intro @nD (And.intro @uA (And.intro @SE (And.intro @Tj (And.intro @AV.flat.eq_1 (And.intro @AV.flat.eq_2 (And.intro @jX.eq_1 (And.intro @jX.eq_2 (And.intro @jX.eq_3 (And.intro @jX.eq_4 (And.intro @dV.eq_1 (And.intro @dV.eq_2 (And.intro @dV.eq_3 (And.intro @dV.eq_4 (And.intro @dC.eq_1 (And.intro @dC.eq_2 (And.intro @dC.eq_3 (And.intro @dC.eq_4 (And.intro @NY.eq_1 (And.intro @NY.eq_2 (And.intro @NY.eq_3 (And.intro @OG.eq_1 (And.intro @OG.eq_2 (And.intro @OG.eq_3 (And.intro @List.take_succ_cons.{0} (And.intro @List.take_zero.{0} (And.intro @List.drop_zero.{0} (And.intro @List.drop_succ_cons.{0} (And.intro @List.getElem?_cons_zero.{0} (And.intro @List.getElem?_cons_succ.{0} (And.intro @FR.ok.eq_1 @mY)))))))))))))))))))))))))))))))))))))))))))))))))))))))))))))))))))))))))))))))))))))))))))))))))))))))))))))))))))))))))))
theorem Ui:type_of% TI:=TI
def TF:=And.intro @lC.eq_1 (And.intro @lC.eq_2 (And.intro @lC.eq_3 (And.intro @nC.eq_1 (And.intro @nC.eq_2 (And.intro @nC.eq_3 (And.intro @jL.eq_1 (And.intro @jL.eq_2 (And.intro @jL.eq_3 (And.intro @jV.eq_1 (And.intro @jV.eq_2 (And.intro @jV.eq_3 (And.intro @nD (And.intro @iw.eq_1 (And.intro @iw.eq_2 (And.intro @Box.arr.eq_1 (And.intro @Box.arr.eq_2 (And.intro @Box.arr.eq_3 (And.intro @AV.cells.eq_1 (And.intro @AV.cells.eq_2 (And.intro @AV.cells.eq_3 (And.intro @List.map_cons.{0,0} (And.intro @List.map_nil.{0,0} (And.intro @List.length_map.{0,0} (And.intro @List.length_append.{0} (And.intro @List.length_cons.{0} (And.intro @List.length_nil.{0} (And.intro @List.length_replicate.{0} (And.intro @List.length_set.{0} (And.intro @take_len (And.intro @sV (And.intro @sW (And.intro @true_and (And.intro @and_true (And.intro @and_self (And.intro @Nat.le_refl (And.intro @Nat.zero_add (And.intro @Nat.add_zero (And.intro @jl.eq_1 (And.intro @jK.eq_1 (And.intro @qi.eq_1 (And.intro @KC.eq_1 (And.intro @cI.eq_1 (And.intro @cU.eq_1 (And.intro @cB.eq_1 (And.intro @cS.eq_1 (And.intro @cL.eq_1 (And.intro @cK.eq_1 (And.intro @List.map_append.{0,0} (And.intro @List.cons_append.{0} (And.intro @List.nil_append.{0} (And.intro @af.dL (And.intro @jr.dL (And.intro @RequestT.dL (And.intro @ReaderT.dL (And.intro @StoreT.dL @bY.dL)))))))))))))))))))))))))))))))))))))))))))))))))))))))
theorem Uh:type_of% TF:=TF
def Tv:=And.intro @AP.eq_1 (And.intro @AP.eq_2 (And.intro @Aw.eq_1 (And.intro @Aw.eq_2 (And.intro @nD (And.intro @iw.eq_1 (And.intro @iw.eq_2 (And.intro @lJ.eq_1 (And.intro @lJ.eq_2 (And.intro @List.getD_cons_zero.{0} (And.intro @List.getD_cons_succ.{0} (And.intro @List.cons_append.{0} (And.intro @List.nil_append.{0} (And.intro @List.append_nil.{0} (And.intro @List.map_cons.{0,0} (And.intro @List.map_nil.{0,0} (And.intro @List.map_append.{0,0} (And.intro @List.map_set.{0,0} (And.intro @List.length_append.{0} (And.intro @List.length_cons.{0} (And.intro @List.length_nil.{0} (And.intro @List.length_map.{0,0} (And.intro @List.length_set.{0} (And.intro @List.length_replicate.{0} (And.intro @List.replicate_zero.{0} (And.intro @List.replicate_succ.{0} (And.intro @List.map_replicate.{0,0} (And.intro @Nat.zero_add (And.intro @Nat.add_zero (And.intro @lV.eq_1 (And.intro @lV.eq_2 (And.intro @lV.eq_3 (And.intro @and_self (And.intro @and_true (And.intro @true_and (And.intro @cI.eq_1 (And.intro @cU.eq_1 (And.intro @cB.eq_1 (And.intro @cS.eq_1 (And.intro @cL.eq_1 (And.intro @cK.eq_1 (And.intro @af.dL (And.intro @jr.dL (And.intro @RequestT.dL (And.intro @ReaderT.dL (And.intro @StoreT.dL @bY.dL)))))))))))))))))))))))))))))))))))))))))))))
theorem Tz:type_of% Tv:=Tv
def TA:=And.intro @AP.eq_1 (And.intro @AP.eq_2 (And.intro @Aw.eq_1 (And.intro @Aw.eq_2 (And.intro @nD (And.intro @iw.eq_1 (And.intro @iw.eq_2 (And.intro @lJ.eq_1 (And.intro @lJ.eq_2 (And.intro @List.getD_cons_zero.{0} (And.intro @List.getD_cons_succ.{0} (And.intro @List.cons_append.{0} (And.intro @List.nil_append.{0} (And.intro @List.append_nil.{0} (And.intro @List.map_cons.{0,0} (And.intro @List.map_nil.{0,0} (And.intro @List.map_append.{0,0} (And.intro @List.map_set.{0,0} (And.intro @List.length_append.{0} (And.intro @List.length_cons.{0} (And.intro @List.length_nil.{0} (And.intro @List.length_map.{0,0} (And.intro @List.length_set.{0} (And.intro @List.length_replicate.{0} (And.intro @List.replicate_zero.{0} (And.intro @List.replicate_succ.{0} (And.intro @List.map_replicate.{0,0} (And.intro @Nat.zero_add (And.intro @Nat.add_zero (And.intro @lV.eq_1 (And.intro @lV.eq_2 (And.intro @lV.eq_3 (And.intro @and_self (And.intro @and_true (And.intro @true_and (And.intro @cI.eq_1 (And.intro @cU.eq_1 (And.intro @cB.eq_1 (And.intro @cS.eq_1 (And.intro @cL.eq_1 (And.intro @cK.eq_1 (And.intro @af.dL (And.intro @jr.dL (And.intro @RequestT.dL (And.intro @ReaderT.dL (And.intro @StoreT.dL (And.intro @bY.dL (And.intro @Iq (And.intro @zf.eq_1 (And.intro @zf.eq_2 (And.intro @oL.eq_1 (And.intro @oL.eq_2 (And.intro @List.flatMap_cons.{0,0} (And.intro @List.flatMap_nil.{0,0} (And.intro @AV.owns.eq_1 (And.intro @AV.owns.eq_2 (And.intro @AV.owns.eq_3 (And.intro @fZ.eq_1 (And.intro @fZ.eq_2 (And.intro @fZ.eq_3 (And.intro @List.contains_cons.{0} (And.intro @List.contains_nil.{0} (And.intro @Bool.or_false (And.intro @Bool.or_true (And.intro @Bool.false_or (And.intro @if_true.{1} (And.intro @if_false.{1} (And.intro @Bool.false_eq_true (And.intro @lC.eq_1 (And.intro @lC.eq_2 (And.intro @lC.eq_3 (And.intro @nC.eq_1 (And.intro @nC.eq_2 (And.intro @nC.eq_3 (And.intro @jL.eq_1 (And.intro @jL.eq_2 (And.intro @jL.eq_3 (And.intro @jV.eq_1 (And.intro @jV.eq_2 (And.intro @jV.eq_3 (And.intro @Box.arr.eq_1 (And.intro @Box.arr.eq_2 (And.intro @Box.arr.eq_3 (And.intro @AV.cells.eq_1 (And.intro @AV.cells.eq_2 (And.intro @AV.cells.eq_3 (And.intro @Nat.le_refl (And.intro @take_len (And.intro @sV (And.intro @sW (And.intro @jl.eq_1 (And.intro @jK.eq_1 (And.intro @qi.eq_1 @KC.eq_1))))))))))))))))))))))))))))))))))))))))))))))))))))))))))))))))))))))))))))))))))))))))))))
theorem TS:type_of% TA:=TA
end Go.Ab
end
section
namespace Go.Ab
open Go
set_option maxRecDepth 100000
set_option linter.unusedVariables false
abbrev zN:List AC:=[.c (.lit (.int .i64 0)),.c (.lit (.int .i64 0)),.c (.str []),.fH 1,.fH 5]
abbrev wI (z:Int):AC := .c (.lit (.int .i64 z))
abbrev wS (s:aK):AC := .c (.str s)
abbrev wT (l:List aK):AC := .c (.sl 1 (List.map cS l))
abbrev wK (l:List af):AC := .c (.sl 5 (List.map af.cells l))
abbrev wN (x:af):List AC:=[wI x.Kind,wI x.Num,wS x.Text,wT x.Names,wK x.Kids]
abbrev eP (a b:Nat):Nat × Slot:=(a,.v true (.one (.ptr b 0)))
abbrev eI (a:Nat) (z:Int):Nat × Slot:=(a,.v true (.one (wI z)))
abbrev eS (a:Nat) (z:aK):Nat × Slot:=(a,.v true (.one (wS z)))
abbrev eT (a:Nat) (z:List aK):Nat × Slot:=(a,.v true (.one (wT z)))
def pp {α:Sort _} {β:Sort _} (a:α) (b:β):PProd α β:=⟨a,b⟩
theorem ihL {n:Nat} {A B:Nat->Prop} (h:∀ m,m<n->A m/\B m):∀ m,m<n->A m:=fun m hm=>(h m hm).1
theorem ihR {n:Nat} {A B:Nat->Prop} (h:∀ m,m<n->A m/\B m):∀ m,m<n->B m:=fun m hm=>(h m hm).2
theorem bn (zs:List Nat) (pi:List (Nat × Nat)) (vs:List Nat) {m:Nat} {NC ts:List (Nat × Slot)} {nM bs:List (Nat × Box)} (hk:wV m nM bs pi vs=true)
  (hb:Ai zs (iw nM) (Aq pi) vs bs) (ht:FB zs (iw nM) (Aq pi) vs NC ts):tq m (bF.of NC nM) (bF.of ts bs):=Pm zs pi vs hk hb ht
theorem jE (zs:List Nat) (pi:List (Nat × Nat)) (vs:List Nat) {rs:List kP} {ts:List (Nat × Slot)} {nM:List (Nat × Box)} {m:Nat} {r:AV} {bs:List Box} (hk:wV m nM (lZ bs 0) pi vs=true)
  (hok:nZ (bF.of ts nM) rs) (hb:Ai zs (iw nM) (Aq pi) vs (lZ bs 0)) (hv:IL zs (iw nM) (Aq pi) vs (AA (bF.of ts nM) rs) r) :
  tu rs m (fun r1 b1=>r1=r/\b1=bs) (bF.of ts nM):=QA zs pi vs hk hok hb hv
section
variable {P:Program} {f:FuncId} {iU:List AV} {d:Option Nat} {st:bF} {K:List Nat->List Nat->bF->Prop} {du:DU K} {Q:AQ}
theorem cG (sg nu:List Nat) {P:Program} {f:FuncId} {iU:List AV} {d:Option Nat} {st:bF} {K:List Nat->List Nat->bF->Prop} {du:DU K} {ds:List AV} {fp nM:List Box} {r0:AV} (h:fU P f ds fp (fun r bs=>r=r0/\bs=nM)) (hl:sg.length=fp.length) (hn:nodupB (sg++nu)=true) (hf:AP st (sg++nu) fp 0) (hv:Aw st nu)
  (hra:(ds.all fun x=>x.all (AC.iZ fp.length))=true) (hrf:fp.all (Box.iZ fp.length)=true) (ha:iU=ds.map (lV fun b=>(sg++nu).getD b 0)) (hb:nM.length=(sg++nu).length)
  (k:K (sg++nu) (sg++nu) ((st.iD ((sg++nu).zip (nM.map (lJ fun b=>(sg++nu).getD b 0)))).kz d (.v true (lV (fun b=>(sg++nu).getD b 0) r0)))):iY P f iU true d st K du:=QZ sg nu h hl hn hf hv hra hrf ha hb k
theorem cH (sg nu:List Nat) {P:Program} {f:FuncId} {iU:List AV} {d:Option Nat} {st:bF} {K:List Nat->List Nat->bF->Prop} {du:DU K} {ds:List AV} {fp nM:List Box} {r0:AV} (h:fU P f ds fp (fun r bs=>r=r0/\bs=nM)) (he:iU.map (lC st.bx)=ds.map (lV fun b=>(sg++nu).getD b 0)) (hlo:jL st.bx iU)
  (hl:sg.length=fp.length) (hn:nodupB (sg++nu)=true) (hf:AP (st.mX (iU.flatMap AV.owns)) (sg++nu) fp 0) (hv:Aw st nu)
  (hra:(ds.all fun x=>x.all (AC.iZ fp.length))=true) (hrf:fp.all (Box.iZ fp.length)=true) (hb:nM.length=(sg++nu).length)
  (k:K (iU.flatMap AV.owns++(sg++nu)) (iU.flatMap AV.owns++(sg++nu)) (((st.mX (iU.flatMap AV.owns)).iD ((sg++nu).zip (nM.map (lJ fun b=>(sg++nu).getD b 0)))).kz d (.v true (lV (fun b=>(sg++nu).getD b 0) r0)))):iY P f iU true d st K du:=Q3 sg nu h he hlo hl hn hf hv hra hrf hb k
theorem lg (X:Type) (R:Type) (g:Nat->X->Option R) (r:R) (S:X->bF) (N:Nat) {P:Program} {st:bF} {Q:AQ} {a b:bf} {d1:DU (wpC P a)} {d2:DU (wpC P b)} {d3:DU Q}
  (h1:kV P a (jv.then (fun st'=>∃ x m,(g m x=some r/\m<=N)/\tq 10 st' (S x)) Q) st .mk .mk) (h2:∀ n x,n<=N->g n x=some r->kV P b Q (S x) .mk .mk):uS (wpC P a) (wpC P b) Q st d1 d2 d3:=by
 refine Sr (X:=X × Nat) (fun p=>g p.2 p.1=some r/\p.2<=N) (fun p=>S p.1) (wpC_mono (fun e st h => ?_) h1) (fun p hp=>h2 p.2 p.1 hp.2 hp.1)
 cases e with
 | normal=>obtain ⟨x,m,h,hw⟩:=h; exact ⟨(x,m),h,hw⟩
 | _=>exact h
theorem jA (X:Type) (R:Type) (g:Nat->X->Option R) (r:R) (S:X->bF) (N:Nat) {P:Program} {st:bF} {Q:AQ} {a:bf} {d1:DU (wpC P a)} {d2:DU Q} (h0:∃ x m,(g m x=some r/\m<=N)/\tq 10 st (S x))
  (h:∀ n x,n<=N->g n x=some r->kV P a (jv.then (fun st'=>∃ x' m,(g m x'=some r/\m<=N/\m<n)/\tq 10 st' (S x')) Q) (S x) .mk .mk):pK (wpC P a) Q st d1 d2:=by
 obtain ⟨x,m,h0,hw⟩:=h0
 refine Ry (X:=X × Nat) (fun p=>g p.2 p.1=some r/\p.2<=N) (fun p=>S p.1) (fun p=>p.2) (x,m) h0 hw (fun p hp=>wpC_mono (fun e st h => ?_) (h p.2 p.1 hp.2 hp.1))
 cases e with
 | normal=>obtain ⟨x,m,h,hw⟩:=h; exact ⟨(x,m),⟨⟨h.1,h.2.1⟩,h.2.2⟩,hw⟩
 | _=>exact h
end
theorem wo {p:Prop} (x:p:=by simp -dsimp only [Ur,KD,vU,reduceIte,Nat.reduceEqDiff,reduceCtorEq]<;>simp [List.take_of_length_le]<;>fail):p:=x
theorem TJ {p:Prop} (x:p:=by (simp -dsimp only [SY,reduceIte,Nat.reduceEqDiff,Nat.reduceAdd,Nat.reduceLeDiff,reduceCtorEq]<;>first | (simp [List.take_of_length_le]; done) | ((try simp only [List.map_take,List.map_drop,List.map_append,List.map_cons,List.map_nil])<;>(repeat' apply And.intro)<;>first | rfl | (simp; done) | (simp<;>omega; done) | (congr 1; exact (List.take_of_length_le (by simp<;>omega)).symm)))):p:=x
theorem kS {p:Prop} (x:p:=by (simp -dsimp only [Ui,KD,vU,reduceIte,Nat.reduceEqDiff,reduceCtorEq,Nat.reduceAdd,Nat.reduceLeDiff]<;>first | (simp [List.take_of_length_le]; done) | ((try simp only [List.map_take,List.map_drop,List.map_append,List.map_cons,List.map_nil])<;>(repeat' apply And.intro)<;>first | rfl | (simp; done) | (simp<;>omega; done) | (congr 1; exact (List.take_of_length_le (by simp<;>omega)).symm)))):p:=x
theorem PR {p:Prop} (x:p:=by (simp only [Uh,reduceIte,Nat.reduceEqDiff]<;>omega)):p:=x
theorem mJ {p:Prop} (x:p:=by (simp only [Tz,o9,reduceIte,Nat.reduceEqDiff,Nat.reduceLeDiff,Nat.reduceAdd]<;>omega)):p:=x
theorem vZ {p:Prop} (x:p:=by first | rfl | (simp only [Tz,o9,reduceIte,Nat.reduceEqDiff,Nat.reduceLeDiff,Nat.reduceAdd]<;>omega)):p:=x
theorem jo {p:Prop} (x:p:=by (simp only [TS,o9,reduceIte,Nat.reduceEqDiff,Nat.reduceLeDiff,Nat.reduceAdd,Nat.reduceBEq]<;>omega)):p:=x
theorem vS {p:Prop} (x:p:=by ((try simp only [Prod.exists]); (first | refine ⟨_,_,⟨h,?_⟩,?_⟩ | refine ⟨_,_,_,⟨h,?_⟩,?_⟩ | refine ⟨_,_,_,_,⟨h,?_⟩,?_⟩ | refine ⟨_,_,_,_,_,⟨h,?_⟩,?_⟩ | refine ⟨_,_,_,_,_,_,⟨h,?_⟩,?_⟩ | refine ⟨_,_,_,_,_,_,_,⟨h,?_⟩,?_⟩ | refine ⟨_,_,_,_,_,_,_,_,⟨h,?_⟩,?_⟩ | refine ⟨_,_,_,_,_,_,_,_,_,⟨h,?_⟩,?_⟩ | refine ⟨_,_,_,_,_,_,_,_,_,_,⟨h,?_⟩,?_⟩ | refine ⟨_,_,_,_,_,_,_,_,_,_,_,⟨h,?_⟩,?_⟩ | refine ⟨_,_,_,_,_,_,_,_,_,_,_,_,⟨h,?_⟩,?_⟩ | refine ⟨_,_,_,_,_,_,_,_,_,_,_,_,_,⟨h,?_⟩,?_⟩ | refine ⟨_,_,_,_,_,_,_,_,_,_,_,_,_,_,⟨h,?_⟩,?_⟩ | refine ⟨_,_,_,_,_,_,_,_,_,_,_,_,_,_,_,⟨h,?_⟩,?_⟩ | refine ⟨_,_,_,_,_,_,_,_,_,_,_,_,_,_,_,_,⟨h,?_⟩,?_⟩ | refine ⟨_,_,_,_,_,_,_,_,_,_,_,_,_,_,_,_,_,⟨h,?_⟩,?_⟩ | refine ⟨_,_,_,_,_,_,_,_,_,_,_,_,_,_,_,_,_,_,⟨h,?_⟩,?_⟩ | refine ⟨_,_,_,_,_,_,_,_,_,_,_,_,_,_,_,_,_,_,_,⟨h,?_⟩,?_⟩ | refine ⟨_,_,_,_,_,_,_,_,_,_,_,_,_,_,_,_,_,_,_,_,⟨h,?_⟩,?_⟩ | refine ⟨_,_,_,_,_,_,_,_,_,_,_,_,_,_,_,_,_,_,_,_,_,⟨h,?_⟩,?_⟩ | refine ⟨_,_,_,_,_,_,_,_,_,_,_,_,_,_,_,_,_,_,_,_,_,_,⟨h,?_⟩,?_⟩ | refine ⟨_,_,_,_,_,_,_,_,_,_,_,_,_,_,_,_,_,_,_,_,_,_,_,⟨h,?_⟩,?_⟩ | refine ⟨_,_,_,_,_,_,_,_,_,_,_,_,_,_,_,_,_,_,_,_,_,_,_,_,⟨h,?_⟩,?_⟩ | refine ⟨(),_,⟨h,?_⟩,?_⟩); (focus omega); first | exact zj.1 (by rfl) wo wo | exact zj.2.1 (by rfl) wo wo | exact zj.2.2.1 (by rfl) wo wo | exact zj.2.2.2.1 (by rfl) wo wo | exact zj.2.2.2.2.1 (by rfl) wo wo | exact zj.2.2.2.2.2.1 (by rfl) wo wo | exact zj.2.2.2.2.2.2.1 (by rfl) wo wo | exact zj.2.2.2.2.2.2.2.1 (by rfl) wo wo | exact zj.2.2.2.2.2.2.2.2.1 (by rfl) wo wo | exact zj.2.2.2.2.2.2.2.2.2.1 (by rfl) wo wo | exact zj.2.2.2.2.2.2.2.2.2.2.1 (by rfl) wo wo | exact zj.2.2.2.2.2.2.2.2.2.2.2.1 (by rfl) wo wo | exact zj.2.2.2.2.2.2.2.2.2.2.2.2.1 (by rfl) wo wo | exact zj.2.2.2.2.2.2.2.2.2.2.2.2.2.1 (by rfl) wo wo)):p:=x
theorem jF {p:Prop} (x:p:=by
  obtain ⟨zc,zg,zk,zu,ze,zj,zt⟩:=z
  try simp only [wN,wI,wS,wT,wK,zN,eP,eI,eS,eT] at zc zk zu zt zj ⊢
  repeat' first
  | (clear h; (with_reducible intro n x hn h); rcases n with _ | n<;>simp only [ze.1,reduceCtorEq] at h)
  | (simp only [reduceCtorEq] at h; done)
  | ((with_reducible replace h:=TD h); obtain ⟨_,_,h⟩:=h)
  | ((with_reducible replace h:=TE h); obtain ⟨_,_,h⟩:=h)
  | ((with_reducible replace h:=kq h); obtain ⟨_,h⟩:=h)
  | ((with_reducible replace h:=sq h); subst h; have h:=True.intro)
  | (try simp -dsimp only [QO,fO.gy,fO.f,fO.rd,pW,lM,lvl,kD,reduceIte,Nat.reduceEqDiff,Nat.reduceAdd,Nat.reduceLeDiff,Nat.reduceBEq,reduceCtorEq,Int.reduceBNe,Int.reduceBEq,Int.reduceLT,Int.reduceLE,Int.reduceNeg,Nat.reduceLT,qh,Int.reduceToNat,o9, *]
     repeat ((with_reducible refine And.intro ?_ ?_); focus first | (show lD _ _ _ _=true; kernel_rfl) | (show mO _ _=true; kernel_rfl) | omega | assumption | (show _<=maxLen; decide))
     first
     | with_reducible refine Py ?_
     | ((with_reducible refine PM ?_); with_reducible refine zu.1 n ?_ ?_)
     | ((with_reducible refine L8 ?_); first | ((with_reducible refine zk.1 n ?_ ?_); (focus exact vS)) | ((with_reducible refine zk.2.1 n ?_ ?_); (focus exact vS)) | ((with_reducible refine zk.2.2.1 n ?_ ?_); (focus exact vS)) | ((with_reducible refine zk.2.2.2.1 n ?_ ?_); (focus exact vS)) | ((with_reducible refine zk.2.2.2.2.1 n ?_ ?_); (focus exact vS)) | ((with_reducible refine zk.2.2.2.2.2.1 n ?_ ?_); (focus exact vS)))
     | ((with_reducible refine L6 ?_); (with_reducible replace h:=bq h); obtain ⟨_,hv,h⟩:=h; first | ((first | with_reducible have hc:=zc.1 hv | with_reducible have hc:=zc.1 _ (by omega) hv | with_reducible have hc:=zc.2.1 hv | with_reducible have hc:=zc.2.1 _ (by omega) hv | with_reducible have hc:=zc.2.2.1 hv | with_reducible have hc:=zc.2.2.1 _ (by omega) hv | with_reducible have hc:=zc.2.2.2.1 hv | with_reducible have hc:=zc.2.2.2.2.1 hv | with_reducible have hc:=zc.2.2.2.2.2.1 hv | with_reducible have hc:=zc.2.2.2.2.2.2.1 hv | with_reducible have hc:=zc.2.2.2.2.2.2.2.1 hv | with_reducible have hc:=zc.2.2.2.2.2.2.2.2.1 hv | with_reducible have hc:=zc.2.2.2.2.2.2.2.2.2.1 hv | with_reducible have hc:=zc.2.2.2.2.2.2.2.2.2.2.1 hv | with_reducible have hc:=zc.2.2.2.2.2.2.2.2.2.2.2.1 hv | with_reducible have hc:=zc.2.2.2.2.2.2.2.2.2.2.2.2.1 hv | with_reducible have hc:=zc.2.2.2.2.2.2.2.2.2.2.2.2.2.1 hv | with_reducible have hc:=zc.2.2.2.2.2.2.2.2.2.2.2.2.2.2.1 hv | with_reducible have hc:=zc.2.2.2.2.2.2.2.2.2.2.2.2.2.2.2.1 hv | with_reducible have hc:=zc.2.2.2.2.2.2.2.2.2.2.2.2.2.2.2.2.1 hv | with_reducible have hc:=zc.2.2.2.2.2.2.2.2.2.2.2.2.2.2.2.2.2.1 hv | with_reducible have hc:=zc.2.2.2.2.2.2.2.2.2.2.2.2.2.2.2.2.2.2.1 hv | with_reducible have hc:=zc.2.2.2.2.2.2.2.2.2.2.2.2.2.2.2.2.2.2.2.1 hv | with_reducible have hc:=zc.2.2.2.2.2.2.2.2.2.2.2.2.2.2.2.2.2.2.2.2.1 hv | with_reducible have hc:=zc.2.2.2.2.2.2.2.2.2.2.2.2.2.2.2.2.2.2.2.2.2.1 hv); (first | refine KY (fun _=>hc) rfl rfl ?_ | refine Pz hc rfl rfl ?_ | refine Px hc PR PR rfl rfl ?_ | refine Pv hc PR PR rfl rfl ?_)) | ((first | with_reducible have hc:=zg.1.1 hv | with_reducible have hc:=zg.1.1 _ (by omega) hv); (first | refine zg.1.2 hc rfl rfl mJ mJ rfl rfl vZ rfl ?_ | refine zg.1.2 hc jo jo rfl rfl jo jo rfl rfl rfl ?_)) | ((first | with_reducible have hc:=zg.2.1.1 hv | with_reducible have hc:=zg.2.1.1 _ (by omega) hv); (first | refine zg.2.1.2 hc rfl rfl mJ mJ rfl rfl vZ rfl ?_ | refine zg.2.1.2 hc jo jo rfl rfl jo jo rfl rfl rfl ?_)) | ((first | with_reducible have hc:=zg.2.2.1.1 hv | with_reducible have hc:=zg.2.2.1.1 _ (by omega) hv); (first | refine zg.2.2.1.2 hc rfl rfl mJ mJ rfl rfl vZ rfl ?_ | refine zg.2.2.1.2 hc jo jo rfl rfl jo jo rfl rfl rfl ?_)) | ((with_reducible have hc:=zg.2.2.2.1.1 hv); (first | refine zg.2.2.2.1.2 hc rfl rfl mJ mJ rfl rfl vZ rfl ?_ | refine zg.2.2.2.1.2 hc jo jo rfl rfl jo jo rfl rfl rfl ?_)) | ((with_reducible have hc:=zg.2.2.2.2.1.1 hv); (first | refine zg.2.2.2.2.1.2 hc rfl rfl mJ mJ rfl rfl vZ rfl ?_ | refine zg.2.2.2.2.1.2 hc jo jo rfl rfl jo jo rfl rfl rfl ?_)) | ((with_reducible have hc:=zg.2.2.2.2.2.1.1 hv); (first | refine zg.2.2.2.2.2.1.2 hc rfl rfl mJ mJ rfl rfl vZ rfl ?_ | refine zg.2.2.2.2.2.1.2 hc jo jo rfl rfl jo jo rfl rfl rfl ?_)) | ((with_reducible have hc:=zg.2.2.2.2.2.2.1.1 hv); (first | refine zg.2.2.2.2.2.2.1.2 hc rfl rfl mJ mJ rfl rfl vZ rfl ?_ | refine zg.2.2.2.2.2.2.1.2 hc jo jo rfl rfl jo jo rfl rfl rfl ?_)) | ((with_reducible have hc:=zg.2.2.2.2.2.2.2.1.1 hv); (first | refine zg.2.2.2.2.2.2.2.1.2 hc rfl rfl mJ mJ rfl rfl vZ rfl ?_ | refine zg.2.2.2.2.2.2.2.1.2 hc jo jo rfl rfl jo jo rfl rfl rfl ?_)) | ((with_reducible have hc:=zg.2.2.2.2.2.2.2.2.1.1 hv); (first | refine zg.2.2.2.2.2.2.2.2.1.2 hc rfl rfl mJ mJ rfl rfl vZ rfl ?_ | refine zg.2.2.2.2.2.2.2.2.1.2 hc jo jo rfl rfl jo jo rfl rfl rfl ?_)) | ((with_reducible have hc:=zg.2.2.2.2.2.2.2.2.2.1.1 hv); (first | refine zg.2.2.2.2.2.2.2.2.2.1.2 hc rfl rfl mJ mJ rfl rfl vZ rfl ?_ | refine zg.2.2.2.2.2.2.2.2.2.1.2 hc jo jo rfl rfl jo jo rfl rfl rfl ?_)) | ((with_reducible have hc:=zg.2.2.2.2.2.2.2.2.2.2.1.1 hv); (first | refine zg.2.2.2.2.2.2.2.2.2.2.1.2 hc rfl rfl mJ mJ rfl rfl vZ rfl ?_ | refine zg.2.2.2.2.2.2.2.2.2.2.1.2 hc jo jo rfl rfl jo jo rfl rfl rfl ?_)) | ((with_reducible have hc:=zg.2.2.2.2.2.2.2.2.2.2.2.1.1 hv); (first | refine zg.2.2.2.2.2.2.2.2.2.2.2.1.2 hc rfl rfl mJ mJ rfl rfl vZ rfl ?_ | refine zg.2.2.2.2.2.2.2.2.2.2.2.1.2 hc jo jo rfl rfl jo jo rfl rfl rfl ?_)) | ((with_reducible have hc:=zg.2.2.2.2.2.2.2.2.2.2.2.2.1.1 hv); (first | refine zg.2.2.2.2.2.2.2.2.2.2.2.2.1.2 hc rfl rfl mJ mJ rfl rfl vZ rfl ?_ | refine zg.2.2.2.2.2.2.2.2.2.2.2.2.1.2 hc jo jo rfl rfl jo jo rfl rfl rfl ?_)) | ((with_reducible have hc:=zg.2.2.2.2.2.2.2.2.2.2.2.2.2.1.1 hv); (first | refine zg.2.2.2.2.2.2.2.2.2.2.2.2.2.1.2 hc rfl rfl mJ mJ rfl rfl vZ rfl ?_ | refine zg.2.2.2.2.2.2.2.2.2.2.2.2.2.1.2 hc jo jo rfl rfl jo jo rfl rfl rfl ?_)))
     | ((with_reducible replace h:=cq h); rcases h with ⟨c,h⟩ | ⟨c,h⟩<;>try (simp only [*,Bool.false_eq_true,reduceCtorEq] at c; done))
     | ((with_reducible refine Ru ?_); exact vS)
     | ((with_reducible refine PN ?_); exact TJ)
     | ((with_reducible refine PO ?_); first | exact zt.1 (by rfl) kS kS kS | exact zt.2.1 (by rfl) kS kS kS | exact zt.2.2.1 (by rfl) kS kS kS | exact zt.2.2.2.1 (by rfl) kS kS kS | exact zt.2.2.2.2.1 (by rfl) kS kS kS | exact zt.2.2.2.2.2.1 (by rfl) kS kS kS | exact zt.2.2.2.2.2.2.1 (by rfl) kS kS kS | exact zt.2.2.2.2.2.2.2.1 (by rfl) kS kS kS | exact zt.2.2.2.2.2.2.2.2.1 (by rfl) kS kS kS | exact zt.2.2.2.2.2.2.2.2.2.1 (by rfl) kS kS kS | exact zt.2.2.2.2.2.2.2.2.2.2.1 (by rfl) kS kS kS | exact zt.2.2.2.2.2.2.2.2.2.2.2.1 (by rfl) kS kS kS)
     | (cases h; done))):p:=x
theorem Lt {p:Prop} (x:p:=by
  obtain ⟨zc,zg,zk,zu,ze,zj,zt,zq⟩:=z
  try simp only [wN,wI,wS,wT,wK,zN,eP,eI,eS,eT] at zc zk zu zt zj ⊢
  repeat' first
  | (clear h; (with_reducible intro n x hn h); rcases n with _ | n<;>simp only [ze.1,reduceCtorEq] at h)
  | (simp only [reduceCtorEq] at h; done)
  | ((with_reducible replace h:=TD h); obtain ⟨_,_,h⟩:=h)
  | ((with_reducible replace h:=TE h); obtain ⟨_,_,h⟩:=h)
  | ((with_reducible replace h:=kq h); obtain ⟨_,h⟩:=h)
  | ((with_reducible replace h:=sq h); subst h; have h:=True.intro)
  | (try simp -dsimp only [QO,fO.gy,fO.f,fO.rd,pW,lM,lvl,kD,reduceIte,Nat.reduceEqDiff,Nat.reduceAdd,Nat.reduceLeDiff,Nat.reduceBEq,reduceCtorEq,Int.reduceBNe,Int.reduceBEq,Int.reduceLT,Int.reduceLE,Int.reduceNeg,Nat.reduceLT,qh,Int.reduceToNat,o9, *]
     repeat ((with_reducible refine And.intro ?_ ?_); focus first | (show lD _ _ _ _=true; kernel_rfl) | (show mO _ _=true; kernel_rfl) | omega | assumption | (show _<=maxLen; decide))
     first
     | with_reducible refine Py ?_
     | ((with_reducible refine PM ?_); first | (rename Mk 1=>tk; clear tk; have:True:=(by (first | rewrite [zq.1.1] at h | rewrite [zq.1.2.1] at h | rewrite [zq.1.2.2.1] at h | rewrite [zq.1.2.2.2.1] at h | rewrite [zq.1.2.2.2.2.1] at h | rewrite [zq.1.2.2.2.2.2.1] at h | rewrite [zq.1.2.2.2.2.2.2.1] at h | rewrite [zq.1.2.2.2.2.2.2.2.1] at h); exact True.intro); with_reducible refine zu.1 n ?_ ?_) | (rename Mk 2=>tk; clear tk; have:True:=(by (first | rewrite [zq.2.1.1] at h | rewrite [zq.2.1.2.1] at h | rewrite [zq.2.1.2.2.1] at h | rewrite [zq.2.1.2.2.2.1] at h | rewrite [zq.2.1.2.2.2.2.1] at h | rewrite [zq.2.1.2.2.2.2.2.1] at h | rewrite [zq.2.1.2.2.2.2.2.2.1] at h | rewrite [zq.2.1.2.2.2.2.2.2.2.1] at h); exact True.intro); with_reducible refine zu.2.1 n ?_ ?_) | (rename Mk 3=>tk; clear tk; have:True:=(by (first | rewrite [zq.2.2.1.1] at h | rewrite [zq.2.2.1.2.1] at h | rewrite [zq.2.2.1.2.2.1] at h | rewrite [zq.2.2.1.2.2.2.1] at h | rewrite [zq.2.2.1.2.2.2.2.1] at h | rewrite [zq.2.2.1.2.2.2.2.2.1] at h | rewrite [zq.2.2.1.2.2.2.2.2.2.1] at h | rewrite [zq.2.2.1.2.2.2.2.2.2.2.1] at h); exact True.intro); with_reducible refine zu.2.2.1 n ?_ ?_) | (rename Mk 4=>tk; clear tk; have:True:=(by (first | rewrite [zq.2.2.2.1.1] at h | rewrite [zq.2.2.2.1.2.1] at h | rewrite [zq.2.2.2.1.2.2.1] at h | rewrite [zq.2.2.2.1.2.2.2.1] at h | rewrite [zq.2.2.2.1.2.2.2.2.1] at h | rewrite [zq.2.2.2.1.2.2.2.2.2.1] at h | rewrite [zq.2.2.2.1.2.2.2.2.2.2.1] at h | rewrite [zq.2.2.2.1.2.2.2.2.2.2.2.1] at h); exact True.intro); with_reducible refine zu.2.2.2.1 n ?_ ?_) | (rename Mk 5=>tk; clear tk; have:True:=(by (first | rewrite [zq.2.2.2.2.1.1] at h | rewrite [zq.2.2.2.2.1.2.1] at h | rewrite [zq.2.2.2.2.1.2.2.1] at h | rewrite [zq.2.2.2.2.1.2.2.2.1] at h | rewrite [zq.2.2.2.2.1.2.2.2.2.1] at h | rewrite [zq.2.2.2.2.1.2.2.2.2.2.1] at h | rewrite [zq.2.2.2.2.1.2.2.2.2.2.2.1] at h | rewrite [zq.2.2.2.2.1.2.2.2.2.2.2.2.1] at h); exact True.intro); with_reducible refine zu.2.2.2.2.1 n ?_ ?_) | (rename Mk 6=>tk; clear tk; have:True:=(by (first | rewrite [zq.2.2.2.2.2.1.1] at h | rewrite [zq.2.2.2.2.2.1.2.1] at h | rewrite [zq.2.2.2.2.2.1.2.2.1] at h | rewrite [zq.2.2.2.2.2.1.2.2.2.1] at h | rewrite [zq.2.2.2.2.2.1.2.2.2.2.1] at h | rewrite [zq.2.2.2.2.2.1.2.2.2.2.2.1] at h | rewrite [zq.2.2.2.2.2.1.2.2.2.2.2.2.1] at h | rewrite [zq.2.2.2.2.2.1.2.2.2.2.2.2.2.1] at h); exact True.intro); with_reducible refine zu.2.2.2.2.2.1 n ?_ ?_))
     | ((with_reducible refine L8 ?_); first | ((with_reducible refine zk.1 n ?_ ?_); (focus exact vS)) | ((with_reducible refine zk.2.1 n ?_ ?_); (focus exact vS)) | ((with_reducible refine zk.2.2.1 n ?_ ?_); (focus exact vS)) | ((with_reducible refine zk.2.2.2.1 n ?_ ?_); (focus exact vS)) | ((with_reducible refine zk.2.2.2.2.1 n ?_ ?_); (focus exact vS)) | ((with_reducible refine zk.2.2.2.2.2.1 n ?_ ?_); (focus exact vS)))
     | ((with_reducible refine L6 ?_); (with_reducible replace h:=bq h); obtain ⟨_,hv,h⟩:=h; first | ((first | with_reducible have hc:=zc.1 hv | with_reducible have hc:=zc.1 _ (by omega) hv | with_reducible have hc:=zc.2.1 hv | with_reducible have hc:=zc.2.1 _ (by omega) hv | with_reducible have hc:=zc.2.2.1 hv | with_reducible have hc:=zc.2.2.1 _ (by omega) hv | with_reducible have hc:=zc.2.2.2.1 hv | with_reducible have hc:=zc.2.2.2.2.1 hv | with_reducible have hc:=zc.2.2.2.2.2.1 hv | with_reducible have hc:=zc.2.2.2.2.2.2.1 hv | with_reducible have hc:=zc.2.2.2.2.2.2.2.1 hv | with_reducible have hc:=zc.2.2.2.2.2.2.2.2.1 hv | with_reducible have hc:=zc.2.2.2.2.2.2.2.2.2.1 hv | with_reducible have hc:=zc.2.2.2.2.2.2.2.2.2.2.1 hv | with_reducible have hc:=zc.2.2.2.2.2.2.2.2.2.2.2.1 hv | with_reducible have hc:=zc.2.2.2.2.2.2.2.2.2.2.2.2.1 hv | with_reducible have hc:=zc.2.2.2.2.2.2.2.2.2.2.2.2.2.1 hv | with_reducible have hc:=zc.2.2.2.2.2.2.2.2.2.2.2.2.2.2.1 hv | with_reducible have hc:=zc.2.2.2.2.2.2.2.2.2.2.2.2.2.2.2.1 hv | with_reducible have hc:=zc.2.2.2.2.2.2.2.2.2.2.2.2.2.2.2.2.1 hv | with_reducible have hc:=zc.2.2.2.2.2.2.2.2.2.2.2.2.2.2.2.2.2.1 hv | with_reducible have hc:=zc.2.2.2.2.2.2.2.2.2.2.2.2.2.2.2.2.2.2.1 hv | with_reducible have hc:=zc.2.2.2.2.2.2.2.2.2.2.2.2.2.2.2.2.2.2.2.1 hv | with_reducible have hc:=zc.2.2.2.2.2.2.2.2.2.2.2.2.2.2.2.2.2.2.2.2.1 hv | with_reducible have hc:=zc.2.2.2.2.2.2.2.2.2.2.2.2.2.2.2.2.2.2.2.2.2.1 hv); (first | refine KY (fun _=>hc) rfl rfl ?_ | refine Pz hc rfl rfl ?_ | refine Px hc PR PR rfl rfl ?_ | refine Pv hc PR PR rfl rfl ?_)) | ((first | with_reducible have hc:=zg.1.1 hv | with_reducible have hc:=zg.1.1 _ (by omega) hv); (first | refine zg.1.2 hc rfl rfl mJ mJ rfl rfl vZ rfl ?_ | refine zg.1.2 hc jo jo rfl rfl jo jo rfl rfl rfl ?_)) | ((first | with_reducible have hc:=zg.2.1.1 hv | with_reducible have hc:=zg.2.1.1 _ (by omega) hv); (first | refine zg.2.1.2 hc rfl rfl mJ mJ rfl rfl vZ rfl ?_ | refine zg.2.1.2 hc jo jo rfl rfl jo jo rfl rfl rfl ?_)) | ((first | with_reducible have hc:=zg.2.2.1.1 hv | with_reducible have hc:=zg.2.2.1.1 _ (by omega) hv); (first | refine zg.2.2.1.2 hc rfl rfl mJ mJ rfl rfl vZ rfl ?_ | refine zg.2.2.1.2 hc jo jo rfl rfl jo jo rfl rfl rfl ?_)) | ((with_reducible have hc:=zg.2.2.2.1.1 hv); (first | refine zg.2.2.2.1.2 hc rfl rfl mJ mJ rfl rfl vZ rfl ?_ | refine zg.2.2.2.1.2 hc jo jo rfl rfl jo jo rfl rfl rfl ?_)) | ((with_reducible have hc:=zg.2.2.2.2.1.1 hv); (first | refine zg.2.2.2.2.1.2 hc rfl rfl mJ mJ rfl rfl vZ rfl ?_ | refine zg.2.2.2.2.1.2 hc jo jo rfl rfl jo jo rfl rfl rfl ?_)) | ((with_reducible have hc:=zg.2.2.2.2.2.1.1 hv); (first | refine zg.2.2.2.2.2.1.2 hc rfl rfl mJ mJ rfl rfl vZ rfl ?_ | refine zg.2.2.2.2.2.1.2 hc jo jo rfl rfl jo jo rfl rfl rfl ?_)) | ((with_reducible have hc:=zg.2.2.2.2.2.2.1.1 hv); (first | refine zg.2.2.2.2.2.2.1.2 hc rfl rfl mJ mJ rfl rfl vZ rfl ?_ | refine zg.2.2.2.2.2.2.1.2 hc jo jo rfl rfl jo jo rfl rfl rfl ?_)) | ((with_reducible have hc:=zg.2.2.2.2.2.2.2.1.1 hv); (first | refine zg.2.2.2.2.2.2.2.1.2 hc rfl rfl mJ mJ rfl rfl vZ rfl ?_ | refine zg.2.2.2.2.2.2.2.1.2 hc jo jo rfl rfl jo jo rfl rfl rfl ?_)) | ((with_reducible have hc:=zg.2.2.2.2.2.2.2.2.1.1 hv); (first | refine zg.2.2.2.2.2.2.2.2.1.2 hc rfl rfl mJ mJ rfl rfl vZ rfl ?_ | refine zg.2.2.2.2.2.2.2.2.1.2 hc jo jo rfl rfl jo jo rfl rfl rfl ?_)) | ((with_reducible have hc:=zg.2.2.2.2.2.2.2.2.2.1.1 hv); (first | refine zg.2.2.2.2.2.2.2.2.2.1.2 hc rfl rfl mJ mJ rfl rfl vZ rfl ?_ | refine zg.2.2.2.2.2.2.2.2.2.1.2 hc jo jo rfl rfl jo jo rfl rfl rfl ?_)) | ((with_reducible have hc:=zg.2.2.2.2.2.2.2.2.2.2.1.1 hv); (first | refine zg.2.2.2.2.2.2.2.2.2.2.1.2 hc rfl rfl mJ mJ rfl rfl vZ rfl ?_ | refine zg.2.2.2.2.2.2.2.2.2.2.1.2 hc jo jo rfl rfl jo jo rfl rfl rfl ?_)) | ((with_reducible have hc:=zg.2.2.2.2.2.2.2.2.2.2.2.1.1 hv); (first | refine zg.2.2.2.2.2.2.2.2.2.2.2.1.2 hc rfl rfl mJ mJ rfl rfl vZ rfl ?_ | refine zg.2.2.2.2.2.2.2.2.2.2.2.1.2 hc jo jo rfl rfl jo jo rfl rfl rfl ?_)) | ((with_reducible have hc:=zg.2.2.2.2.2.2.2.2.2.2.2.2.1.1 hv); (first | refine zg.2.2.2.2.2.2.2.2.2.2.2.2.1.2 hc rfl rfl mJ mJ rfl rfl vZ rfl ?_ | refine zg.2.2.2.2.2.2.2.2.2.2.2.2.1.2 hc jo jo rfl rfl jo jo rfl rfl rfl ?_)) | ((with_reducible have hc:=zg.2.2.2.2.2.2.2.2.2.2.2.2.2.1.1 hv); (first | refine zg.2.2.2.2.2.2.2.2.2.2.2.2.2.1.2 hc rfl rfl mJ mJ rfl rfl vZ rfl ?_ | refine zg.2.2.2.2.2.2.2.2.2.2.2.2.2.1.2 hc jo jo rfl rfl jo jo rfl rfl rfl ?_)))
     | ((with_reducible replace h:=cq h); rcases h with ⟨c,h⟩ | ⟨c,h⟩<;>try (simp only [*,Bool.false_eq_true,reduceCtorEq] at c; done))
     | ((with_reducible refine Ru ?_); exact vS)
     | ((with_reducible refine PN ?_); exact TJ)
     | ((with_reducible refine PO ?_); first | exact zt.1 (by rfl) kS kS kS | exact zt.2.1 (by rfl) kS kS kS | exact zt.2.2.1 (by rfl) kS kS kS | exact zt.2.2.2.1 (by rfl) kS kS kS | exact zt.2.2.2.2.1 (by rfl) kS kS kS | exact zt.2.2.2.2.2.1 (by rfl) kS kS kS | exact zt.2.2.2.2.2.2.1 (by rfl) kS kS kS | exact zt.2.2.2.2.2.2.2.1 (by rfl) kS kS kS | exact zt.2.2.2.2.2.2.2.2.1 (by rfl) kS kS kS | exact zt.2.2.2.2.2.2.2.2.2.1 (by rfl) kS kS kS | exact zt.2.2.2.2.2.2.2.2.2.2.1 (by rfl) kS kS kS | exact zt.2.2.2.2.2.2.2.2.2.2.2.1 (by rfl) kS kS kS)
     | (cases h; done))):p:=x
end Go.Ab
end
section
namespace Go.Ab
open Go
set_option maxRecDepth 100000
set_option maxHeartbeats 4000000
set_option linter.unusedVariables false
set_option linter.unusedSimpArgs false
abbrev zA (d:Nat) (x:fO):eX:=⟨none,some d,.op x⟩
abbrev zM (d s:Nat):eX:=⟨none,some d,.op (.mv (.t s))⟩
abbrev zS (x:fO):eX:=⟨none,none,.op x⟩
abbrev zG (g:Nat) (b:Bool) (d:Nat) (x:fO):eX:=⟨some (g,b),some d,.op x⟩
noncomputable abbrev pZ:Program:=Go.Proofs.Tryz.prog
abbrev kI (n:Int):fV := .k (.c (.lit (.int .i64 n)))
abbrev kB (b:Bool):fV := .k (.c (.lit (.bool b)))
abbrev jP (n:Int):AC := .c (.lit (.int .i64 n))
abbrev qF (d k a:Nat):eX:=zA d (.load false k (.t a))
abbrev qT (d k a:Nat):eX:=zA d (.load true k (.t a))
abbrev qS (k a b:Nat):eX:=zS (.store true k (.t a) (.t b))
abbrev qU (k a b:Nat):eX:=zS (.store false k (.t a) (.t b))
abbrev qA (d k a:Nat):eX:=zA d (.eu k (.t a))
abbrev qX (d k a:Nat):eX:=zA d (.box k (.t a))
abbrev qB (d:Nat) (b:Bool):eX:=zA d (.mv (kB b))
abbrev qI (d:Nat) (n:Int):eX:=zA d (.mv (kI n))
abbrev qL (d a:Nat):eX:=zA d (.len (.t a))
abbrev qO (d a:Nat):eX:=zA d (.not (.t a))
abbrev qE (d a k:Nat):eX:=zA d (.extract (.t a) k)
abbrev qP (d a b:Nat):eX:=zA d (.pick (.t a) (.t b) (kB false))
abbrev qQ (d a b:Nat):eX:=zA d (.pick (.t a) (kB true) (.t b))
abbrev qN (d a:Nat):eX:=zA d (.zD (.t a))
abbrev qD (d k a b:Nat):eX:=zA d (.mW k (.t a) (.t b))
abbrev qZ (d k:Nat):eX:=zA d (.alloc k zN)
abbrev q1 (d f a:Nat):eX:=⟨none,some d,.call f [.t a]⟩
abbrev q2 (d f a b:Nat):eX:=⟨none,some d,.call f [.t a,.t b]⟩
abbrev q3 (d f a b c:Nat):eX:=⟨none,some d,.call f [.t a,.t b,.t c]⟩
def C.aT:bf:=(.seq (.reg [qB 2 false] [0]) (.seq (.seq (.reg [zM 4 0,zA 5 (.lens (.t 4)),zA 6 (.bin .gtr (.t 5) (kI 12))] [0,6]) (.cond (.t 6) (.seq (.reg [qB 2 false] [2]) .ret) .skip)) (.seq (.seq (.reg [qI 3 0] [0,3]) (.block 0 (.loop (.seq (.seq (.reg [zM 7 3,zM 8 0,zA 9 (.lens (.t 8)),zA 10 (.bin .lss (.t 7) (.t 9))] [0,3,10]) (.cond (.t 10) .skip (.exit 0))) (.seq (.block 1 (.seq (.reg [zM 13 0,zM 14 3,zA 15 (.idxs (.t 13) (.t 14)),zA 16 (.bin .lss (.t 15) (.k (.c (.lit (.int .u8 32))))),zM 17 16,zG 17 false 18 (.mv (.t 0)),zG 17 false 19 (.mv (.t 3)),zG 17 false 20 (.idxs (.t 18) (.t 19)),zG 17 false 21 (.bin .gtr (.t 20) (.k (.c (.lit (.int .u8 126))))),qQ 22 17 21] [0,3,22]) (.cond (.t 22) (.seq (.reg [qB 2 false] [2]) .ret) .skip))) (.reg [zM 11 3,zA 12 (.bin .add (.t 11) (kI 1)),zM 3 12] [0,3])))))) (.seq (.reg [qB 2 true] [2]) .ret))))
theorem K.aT:fQ pZ 93 1 0 C.aT [.tmp 2]=true:=by kernel_rfl
def C.dw:bf:=(.seq (.reg [qB 2 false] [0]) (.seq (.seq (.reg [zM 5 0,qL 6 5,zA 7 (.bin .gtr (.t 6) (kI 6))] [0,7]) (.cond (.t 7) (.seq (.reg [qB 2 false] [2]) .ret) .skip)) (.seq (.seq (.reg [zM 8 0,qL 9 8,qI 10 0] [0,8,9,10]) (.block 0 (.loop (.seq (.reg [zA 11 (.bin .lss (.t 10) (.t 9))] [0,8,9,10,11]) (.seq (.cond (.t 11) .skip (.exit 0)) (.seq (.block 1 (.seq (.reg [zM 12 10,qD 13 1 8 10,qF 14 1 13,zM 3 12,zM 4 14] [0,3,4,8,9,10]) (.seq (.reg [zM 15 4,q1 16 93 15,qO 17 16,zM 18 17,zG 18 false 19 (.mv (.t 3)),zG 18 false 20 (.bin .gtr (.t 19) (kI 0)),zG 18 false 21 (.mv (.t 20)),zG 21 true 22 (.mv (.t 0)),zG 21 true 23 (.mv (.t 3)),zG 21 true 24 (.bin .sub (.t 23) (kI 1)),zG 21 true 25 (.mW 1 (.t 22) (.t 24)),zG 21 true 26 (.load false 1 (.t 25)),zG 21 true 27 (.mv (.t 4)),zG 21 true 28 (.bin .geq (.t 26) (.t 27)),zG 18 false 29 (.pick (.t 21) (.t 28) (kB false)),qQ 30 18 29] [0,8,9,10,30]) (.cond (.t 30) (.seq (.reg [qB 2 false] [2]) .ret) .skip)))) (.reg [zA 31 (.bin .add (.t 10) (kI 1)),zM 10 31] [0,8,9,10]))))))) (.seq (.reg [qB 2 true] [2]) .ret))))
theorem K.dw:fQ pZ 94 1 0 C.dw [.tmp 2]=true:=by kernel_rfl
def C.aV:bf:=(.seq (.reg [qX 1 10 0,qB 2 false] [1]) (.cut (.seq (.reg [qA 3 0 1,qF 4 1 3,zA 5 (.bin .neq (.t 4) (kI 1)),zM 6 5,zG 6 true 7 (.eu 1 (.t 1)),zG 6 true 8 (.load false 1 (.t 7)),zG 6 true 9 (.bin .neq (.t 8) (kI 0)),qP 10 6 9,zM 11 10,zG 11 false 12 (.eu 0 (.t 1)),zG 11 false 13 (.load false 1 (.t 12)),zG 11 false 14 (.bin .neq (.t 13) (kI 2)),zG 11 false 15 (.mv (.t 14)),zG 15 true 16 (.eu 2 (.t 1)),zG 15 true 17 (.load false 1 (.t 16)),zG 15 true 18 (.bin .neq (.t 17) (.k (.c (.str [])))),zG 11 false 19 (.pick (.t 15) (.t 18) (kB false)),qQ 20 11 19] [1,20]) (.cond (.t 20) (.seq (.reg [qB 2 false] [2]) .ret) .skip)) (.seq (.seq (.reg [qA 21 0 1,qF 22 1 21,zA 23 (.bin .neq (.t 22) (kI 4)),zM 24 23,zG 24 true 25 (.eu 3 (.t 1)),zG 24 true 26 (.load false 1 (.t 25)),zG 24 true 27 (.len (.t 26)),zG 24 true 28 (.bin .gtr (.t 27) (kI 0)),qP 29 24 28] [1,29]) (.cond (.t 29) (.seq (.reg [qB 2 false] [2]) .ret) .skip)) (.seq (.seq (.reg [qA 30 0 1,qF 31 1 30] [1,31]) (.block 0 (.seq (.reg [zA 33 (.bin .eql (.t 31) (kI 0)),zM 32 33] [1,31,32]) (.cond (.t 32) (.seq (.reg [qA 34 4 1,qF 35 1 34,qL 36 35,zA 37 (.bin .eql (.t 36) (kI 0)),zM 2 37] [2]) .ret) (.seq (.reg [zA 39 (.bin .eql (.t 31) (kI 1)),zM 38 39] [1,31,38]) (.cond (.t 38) (.seq (.reg [qA 40 1 1,qF 41 1 40,zA 42 (.bin .geq (.t 41) (kI (-999999))),zM 43 42,zG 43 true 44 (.eu 1 (.t 1)),zG 43 true 45 (.load false 1 (.t 44)),zG 43 true 46 (.bin .leq (.t 45) (kI 999999)),qP 47 43 46,zM 48 47,zG 48 true 49 (.eu 4 (.t 1)),zG 48 true 50 (.load false 1 (.t 49)),zG 48 true 51 (.len (.t 50)),zG 48 true 52 (.bin .eql (.t 51) (kI 0)),qP 53 48 52,zM 2 53] [2]) .ret) (.seq (.reg [zA 55 (.bin .eql (.t 31) (kI 2)),zM 54 55] [1,31,54]) (.cond (.t 54) (.seq (.reg [qA 56 2 1,qF 57 1 56,q1 58 93 57,zM 59 58,zG 59 true 60 (.eu 4 (.t 1)),zG 59 true 61 (.load false 1 (.t 60)),zG 59 true 62 (.len (.t 61)),zG 59 true 63 (.bin .eql (.t 62) (kI 0)),qP 64 59 63,zM 2 64] [2]) .ret) (.seq (.reg [zA 66 (.bin .eql (.t 31) (kI 3)),zM 65 66] [1,31,65]) (.cond (.t 65) (.seq (.reg [qA 67 4 1,qF 68 1 67,qL 69 68,zA 70 (.bin .leq (.t 69) (kI 6)),zM 2 70] [2]) .ret) (.seq (.reg [zA 72 (.bin .eql (.t 31) (kI 4)),zM 71 72] [1,71]) (.cond (.t 71) (.seq (.reg [qA 73 3 1,qF 74 1 73,q1 75 94 74,zM 76 75,zG 76 true 77 (.eu 4 (.t 1)),zG 76 true 78 (.load false 1 (.t 77)),zG 76 true 79 (.len (.t 78)),zG 76 true 80 (.eu 3 (.t 1)),zG 76 true 81 (.load false 1 (.t 80)),zG 76 true 82 (.len (.t 81)),zG 76 true 83 (.bin .eql (.t 79) (.t 82)),qP 84 76 83,zM 2 84] [2]) .ret) .skip)))))))))))) (.seq (.reg [qB 2 false] [2]) .ret)))))
theorem K.aV:fQ pZ 73 1 0 C.aV [.tmp 2]=true:=by kernel_rfl
def C.aO:bf:=(.seq (.reg [qX 2 10 0,qI 4 0,qI 5 0,qB 6 false] [1,2]) (.seq (.seq (.reg [zM 12 1,zA 13 (.bin .gtr (.t 12) (kI 5)),zM 14 13,zG 14 false 15 (.load true 5 (.t 2)),⟨(some (14,false)),some 16,.call 73 [.t 15]⟩,zG 14 false 17 (.not (.t 16)),qQ 18 14 17] [1,2,18]) (.cond (.t 18) (.seq (.reg [qI 4 0,qI 5 0,qB 6 false] [4,5,6]) .ret) .skip)) (.seq (.reg [qI 4 1,qI 5 1] [1,2,4,5]) (.seq (.seq (.reg [qA 19 4 2,qF 20 1 19,qL 21 20,qI 22 0] [1,4,5,20,21,22]) (.block 0 (.loop (.seq (.reg [zA 23 (.bin .lss (.t 22) (.t 21))] [1,4,5,20,21,22,23]) (.seq (.cond (.t 23) .skip (.exit 0)) (.seq (.block 1 (.seq (.reg [qD 24 5 20 22,qT 25 5 24,qZ 8 11,qS 5 8 25] [1,4,5,8,20,21,22]) (.seq (.reg [qT 27 5 8,zM 28 1,zA 29 (.bin .add (.t 28) (kI 1)),q2 30 48 27 29,zM 26 30,qE 31 26 0,qE 32 26 1,qE 33 26 2,zM 9 31,zM 10 32,zM 11 33] [1,4,5,9,10,11,20,21,22]) (.seq (.seq (.reg [zM 34 11,qO 35 34] [1,4,5,9,10,20,21,22,35]) (.cond (.t 35) (.seq (.reg [qI 4 0,qI 5 0,qB 6 false] [4,5,6]) .ret) .skip)) (.seq (.reg [zM 36 4,zM 37 9,zA 38 (.bin .add (.t 36) (.t 37)),zM 4 38] [1,4,5,10,20,21,22]) (.reg [zM 39 5,zM 40 10,zA 41 (.bin .add (.t 40) (kI 1)),zA 42 (.max (.t 39) (.t 41)),zM 5 42] [1,4,5,20,21,22])))))) (.reg [zA 43 (.bin .add (.t 22) (kI 1)),zM 22 43] [1,4,5,20,21,22]))))))) (.seq (.reg [zM 44 4,zM 45 5,zM 4 44,zM 5 45,qB 6 true] [4,5,6]) .ret)))))
theorem K.aO:fQ pZ 48 2 0 C.aO [.tmp 4,.tmp 5,.tmp 6]=true:=by kernel_rfl
def C.dD:bf:=(.seq (.reg [qX 1 10 0,qB 2 false] [1]) (.seq (.reg [qT 7 5 1,⟨none,some 8,.call 48 [.t 7,kI 1]⟩,zM 6 8,qE 9 6 0,qE 10 6 1,qE 11 6 2,zM 3 9,zM 4 10,zM 5 11] [3,5]) (.seq (.reg [zM 12 5,zM 13 12,zG 13 true 14 (.mv (.t 3)),zG 13 true 15 (.bin .leq (.t 14) (kI 40)),qP 16 13 15,zM 2 16] [2]) .ret)))
theorem K.dD:fQ pZ 21 1 0 C.dD [.tmp 2]=true:=by kernel_rfl
def C.aU:bf:=(.seq (.reg [zM 5 0,⟨none,some 6,.call 31 [.t 5,.k (.c (.lit (.int .u8 34)))]⟩] [0,1]) (.seq (.seq (.reg [qI 4 0] [0,1,4]) (.block 0 (.loop (.seq (.seq (.reg [zM 7 4,zM 8 1,zA 9 (.lens (.t 8)),zA 10 (.bin .lss (.t 7) (.t 9))] [0,1,4,10]) (.cond (.t 10) .skip (.exit 0))) (.seq (.block 1 (.cut (.seq (.reg [zM 13 1,zM 14 4,zA 15 (.idxs (.t 13) (.t 14)),zA 16 (.bin .eql (.t 15) (.k (.c (.lit (.int .u8 34))))),zM 17 16,zG 17 false 18 (.mv (.t 1)),zG 17 false 19 (.mv (.t 4)),zG 17 false 20 (.idxs (.t 18) (.t 19)),zG 17 false 21 (.bin .eql (.t 20) (.k (.c (.lit (.int .u8 92))))),qQ 22 17 21] [0,1,4,22]) (.cond (.t 22) (.reg [zM 23 0,⟨none,some 24,.call 31 [.t 23,.k (.c (.lit (.int .u8 92)))]⟩] [0,1,4]) .skip)) (.reg [zM 25 0,zM 26 1,zM 27 4,zA 28 (.idxs (.t 26) (.t 27)),q2 29 31 25 28] [0,1,4]))) (.reg [zM 11 4,zA 12 (.bin .add (.t 11) (kI 1)),zM 4 12] [0,1,4])))))) (.reg [zM 30 0,⟨none,some 31,.call 31 [.t 30,.k (.c (.lit (.int .u8 34)))]⟩] [])))
theorem K.aU:fQ pZ 34 2 2 C.aU []=true:=by kernel_rfl
def C.aA:bf:=(.seq (.reg [qX 3 10 1] [0,3]) (.seq (.reg [qA 8 0 3,qF 9 1 8] [0,3,9]) (.block 0 (.seq (.reg [zA 11 (.bin .eql (.t 9) (kI 0)),zM 10 11] [0,3,9,10]) (.cond (.t 10) (.reg [zM 12 0,⟨none,some 13,.call 33 [.t 12,.k (.c (.str [110,117,108,108]))]⟩] []) (.seq (.reg [zA 15 (.bin .eql (.t 9) (kI 1)),zM 14 15] [0,3,9,14]) (.cond (.t 14) (.reg [zM 16 0,qA 17 1 3,qF 18 1 17,q1 19 49 18,q2 20 33 16 19] []) (.seq (.reg [zA 22 (.bin .eql (.t 9) (kI 2)),zM 21 22] [0,3,9,21]) (.cond (.t 21) (.reg [zM 23 0,qA 24 2 3,qF 25 1 24,q2 26 34 23 25] []) (.seq (.reg [zA 28 (.bin .eql (.t 9) (kI 3)),zM 27 28] [0,3,9,27]) (.cond (.t 27) (.seq (.reg [zM 29 0,⟨none,some 30,.call 31 [.t 29,.k (.c (.lit (.int .u8 91)))]⟩] [0,3]) (.seq (.seq (.reg [qA 31 4 3,qF 32 1 31,qL 33 32,qI 34 0] [0,32,33,34]) (.block 1 (.loop (.seq (.reg [zA 35 (.bin .lss (.t 34) (.t 33))] [0,32,33,34,35]) (.seq (.cond (.t 35) .skip (.exit 1)) (.seq (.block 2 (.seq (.reg [zM 36 34,qD 37 5 32 34,qT 38 5 37,qZ 5 11,zM 4 36,qS 5 5 38] [0,4,5,32,33,34]) (.cut (.seq (.reg [zM 39 4,zA 40 (.bin .gtr (.t 39) (kI 0))] [0,5,32,33,34,40]) (.cond (.t 40) (.reg [zM 41 0,⟨none,some 42,.call 31 [.t 41,.k (.c (.lit (.int .u8 44)))]⟩] [0,5,32,33,34]) .skip)) (.reg [zM 43 0,qT 44 5 5,q2 45 22 43 44] [0,32,33,34])))) (.reg [zA 46 (.bin .add (.t 34) (kI 1)),zM 34 46] [0,32,33,34]))))))) (.reg [zM 47 0,⟨none,some 48,.call 31 [.t 47,.k (.c (.lit (.int .u8 93)))]⟩] []))) (.seq (.reg [zA 50 (.bin .eql (.t 9) (kI 4)),zM 49 50] [0,3,49]) (.cond (.t 49) (.seq (.reg [zM 51 0,⟨none,some 52,.call 31 [.t 51,.k (.c (.lit (.int .u8 123)))]⟩] [0,3]) (.seq (.seq (.reg [qA 53 4 3,qF 54 1 53,qL 55 54,qI 56 0] [0,3,54,55,56]) (.block 3 (.loop (.seq (.reg [zA 57 (.bin .lss (.t 56) (.t 55))] [0,3,54,55,56,57]) (.seq (.cond (.t 57) .skip (.exit 3)) (.seq (.block 4 (.seq (.reg [zM 58 56,qD 59 5 54 56,qT 60 5 59,qZ 7 12,zM 6 58,qS 5 7 60] [0,3,6,7,54,55,56]) (.cut (.seq (.reg [zM 61 6,zA 62 (.bin .gtr (.t 61) (kI 0))] [0,3,6,7,54,55,56,62]) (.cond (.t 62) (.reg [zM 63 0,⟨none,some 64,.call 31 [.t 63,.k (.c (.lit (.int .u8 44)))]⟩] [0,3,6,7,54,55,56]) .skip)) (.seq (.reg [zM 65 0,qA 66 3 3,qF 67 1 66,zM 68 6,qD 69 1 67 68,qF 70 1 69,q2 71 34 65 70] [0,3,7,54,55,56]) (.seq (.reg [zM 72 0,⟨none,some 73,.call 31 [.t 72,.k (.c (.lit (.int .u8 58)))]⟩] [0,3,7,54,55,56]) (.reg [zM 74 0,qT 75 5 7,q2 76 22 74 75] [0,3,54,55,56])))))) (.reg [zA 77 (.bin .add (.t 56) (kI 1)),zM 56 77] [0,3,54,55,56]))))))) (.reg [zM 78 0,⟨none,some 79,.call 31 [.t 78,.k (.c (.lit (.int .u8 125)))]⟩] []))) .skip)))))))))))))
theorem K.aA:fQ pZ 22 2 2 C.aA []=true:=by kernel_rfl
def C.dY:bf:=(.seq (.reg [qX 1 10 0,zA 2 (.mv (.k (.c (.str []))))] [1]) (.seq (.seq (.reg [qT 4 5 1,q1 5 21 4,qO 6 5] [1,6]) (.cond (.t 6) (.seq (.reg [zA 2 (.mv (.k (.c (.str []))))] [2]) .ret) .skip)) (.seq (.reg [zA 3 (.pO 50 5 12 11)] [1,3]) (.seq (.reg [qT 7 5 1,q2 8 22 3 7] [3]) (.seq (.reg [q1 9 23 3,zM 2 9] [2]) .ret)))))
theorem K.dY:fQ pZ 8 1 0 C.dY [.tmp 2]=true:=by kernel_rfl
def C.cO:bf:=(.seq (.reg [qI 4 0] [0,1]) (.seq (.reg [zM 5 0,zM 6 1,zA 7 (.Jq (.t 5) (.t 6)),zM 4 7] [4]) .ret))
theorem K.cO:fQ pZ 109 2 0 C.cO [.tmp 4]=true:=by kernel_rfl
def C.strings_IndexByte:bf:=(.seq (.reg [qI 4 0] [0,1]) (.seq (.reg [zM 5 0,zM 6 1,q2 7 109 5 6,zM 4 7] [4]) .ret))
theorem K.strings_IndexByte:fQ pZ 88 2 0 C.strings_IndexByte [.tmp 4]=true:=by kernel_rfl
def C.gu:bf:=(.seq (.reg [qB 2 false] [0]) (.seq (.seq (.reg [zM 4 0,zA 5 (.lens (.t 4)),zA 6 (.bin .neq (.t 5) (kI 4))] [0,6]) (.cond (.t 6) (.seq (.reg [qB 2 false] [2]) .ret) .skip)) (.seq (.seq (.reg [qI 3 0] [0,3]) (.block 0 (.loop (.seq (.seq (.reg [zM 7 3,zM 8 0,zA 9 (.lens (.t 8)),zA 10 (.bin .lss (.t 7) (.t 9))] [0,3,10]) (.cond (.t 10) .skip (.exit 0))) (.seq (.block 1 (.seq (.reg [zM 13 0,zM 14 3,zA 15 (.idxs (.t 13) (.t 14)),⟨none,some 16,.call 88 [.k (.c (.str [48,49,50,51,52,53,54,55,56,57,97,98,99,100,101,102])),.t 15]⟩,zA 17 (.bin .lss (.t 16) (kI 0))] [0,3,17]) (.cond (.t 17) (.seq (.reg [qB 2 false] [2]) .ret) .skip))) (.reg [zM 11 3,zA 12 (.bin .add (.t 11) (kI 1)),zM 3 12] [0,3])))))) (.seq (.reg [qB 2 true] [2]) .ret))))
theorem K.gu:fQ pZ 58 1 0 C.gu [.tmp 2]=true:=by kernel_rfl
def C.dF:bf:=(.seq (.reg [qB 2 false] [0]) (.seq (.seq (.reg [zM 5 0,qL 6 5,zA 7 (.bin .gtr (.t 6) (kI 4))] [0,7]) (.cond (.t 7) (.seq (.reg [qB 2 false] [2]) .ret) .skip)) (.seq (.seq (.reg [zM 8 0,qL 9 8,qI 10 0] [8,9,10]) (.block 0 (.loop (.seq (.reg [zA 11 (.bin .lss (.t 10) (.t 9))] [8,9,10,11]) (.seq (.cond (.t 11) .skip (.exit 0)) (.seq (.block 1 (.seq (.reg [qD 12 1 8 10,qF 13 1 12,zM 4 13] [4,8,9,10]) (.seq (.reg [zM 14 4,zA 15 (.bin .neq (.t 14) (.k (.c (.str [42])))),zM 16 15,zG 16 true 17 (.mv (.t 4)),⟨(some (16,true)),some 18,.call 58 [.t 17]⟩,zG 16 true 19 (.not (.t 18)),qP 20 16 19] [8,9,10,20]) (.cond (.t 20) (.seq (.reg [qB 2 false] [2]) .ret) .skip)))) (.reg [zA 21 (.bin .add (.t 10) (kI 1)),zM 10 21] [8,9,10]))))))) (.seq (.reg [qB 2 true] [2]) .ret))))
theorem K.dF:fQ pZ 28 1 0 C.dF [.tmp 2]=true:=by kernel_rfl
def C.aQ:bf:=(.seq (.reg [zA 2 (.mv (.k (.c (.str []))))] [0]) (.seq (.seq (.reg [zM 6 0,q1 7 28 6,qO 8 7] [0,8]) (.cond (.t 8) (.seq (.reg [zA 2 (.mv (.k (.c (.str []))))] [2]) .ret) .skip)) (.seq (.reg [zA 3 (.pO 50 5 11 10)] [0,3]) (.seq (.seq (.reg [zM 9 0,qL 10 9,qI 11 0] [3,9,10,11]) (.block 0 (.loop (.seq (.reg [zA 12 (.bin .lss (.t 11) (.t 10))] [3,9,10,11,12]) (.seq (.cond (.t 12) .skip (.exit 0)) (.seq (.block 1 (.seq (.reg [zM 13 11,qD 14 1 9 11,qF 15 1 14,zM 4 13,zM 5 15] [3,4,5,9,10,11]) (.cut (.seq (.reg [zM 16 4,zA 17 (.bin .gtr (.t 16) (kI 0))] [3,5,9,10,11,17]) (.cond (.t 17) (.reg [⟨none,some 18,.call 31 [.t 3,.k (.c (.lit (.int .u8 44)))]⟩] [3,5,9,10,11]) .skip)) (.seq (.reg [zM 19 5,zA 20 (.bin .eql (.t 19) (.k (.c (.str [42]))))] [3,5,9,10,11,20]) (.cond (.t 20) (.reg [zM 21 5,q2 22 33 3 21] [3,9,10,11]) (.reg [zM 23 5,q2 24 34 3 23] [3,9,10,11])))))) (.reg [zA 25 (.bin .add (.t 11) (kI 1)),zM 11 25] [3,9,10,11]))))))) (.seq (.reg [q1 26 23 3,zM 2 26] [2]) .ret)))))
theorem K.aQ:fQ pZ 16 1 0 C.aQ [.tmp 2]=true:=by kernel_rfl
def C.iH:bf:=(.seq (.reg [qX 2 10 0,qZ 4 11,qB 5 false] [1,2,4]) (.seq (.seq (.reg [zM 6 1,qO 7 6,zM 8 7,zG 8 false 9 (.load true 5 (.t 2)),⟨(some (8,false)),some 10,.call 21 [.t 9]⟩,zG 8 false 11 (.not (.t 10)),qQ 12 8 11] [2,4,12]) (.cond (.t 12) (.seq (.reg [zA 13 (.build zN []),qS 5 4 13,qB 5 false] [4,5]) .ret) .skip)) (.seq (.reg [qT 14 5 2,qS 5 4 14,qB 5 true] [4,5]) .ret)))
theorem K.iH:fQ pZ 60 2 0 C.iH [.cell 4 true 5,.tmp 5]=true:=by kernel_rfl
def C.bz:bf:=(.seq (.reg [qX 1 10 0,qZ 2 11] [1,2]) (.seq (.reg [qA 6 0 1,qF 7 1 6,qA 8 1 1,qF 9 1 8,qA 10 2 1,qF 11 1 10,zA 12 (.build zN [(0,1,.t 7),(1,1,.t 9),(2,1,.t 11)]),qZ 3 12,qS 5 3 12] [1,2,3]) (.cut (.seq (.reg [qA 13 3 1,qF 14 1 13,qL 15 14,zA 16 (.bin .gtr (.t 15) (kI 0))] [1,2,3,16]) (.cond (.t 16) (.seq (.reg [qA 17 3 1,qF 18 1 17,qL 19 18,zA 20 (.makes 13 1 16 [.str []] (.t 19) (.t 19)),qA 21 3 3,qU 1 21 20] [1,2,3]) (.reg [qA 22 3 3,qF 23 1 22,qA 24 3 1,qF 25 1 24,zA 26 (.copy 1 (.t 23) (.t 25))] [1,2,3])) .skip)) (.seq (.seq (.reg [qA 27 4 1,qF 28 1 27,qL 29 28,zA 30 (.bin .gtr (.t 29) (kI 0))] [1,2,3,30]) (.cond (.t 30) (.seq (.reg [qA 31 4 1,qF 32 1 31,qL 33 32,zA 34 (.makes 14 5 80 [.lit (.int .i64 0),.lit (.int .i64 0),.str [],.sl 1 [],.sl 5 []] (.t 33) (.t 33)),qA 35 4 3,qU 1 35 34] [1,2,3]) (.seq (.reg [qA 36 4 1,qF 37 1 36,qL 38 37,qI 39 0] [2,3,37,38,39]) (.block 0 (.loop (.seq (.reg [zA 40 (.bin .lss (.t 39) (.t 38))] [2,3,37,38,39,40]) (.seq (.cond (.t 40) .skip (.exit 0)) (.seq (.block 1 (.seq (.reg [zM 41 39,qD 42 5 37 39,qT 43 5 42,qZ 5 15,zM 4 41,qS 5 5 43] [2,3,4,5,37,38,39]) (.jW [(qA 44 4 3,[]),(qF 45 1 44,[0]),(zM 46 4,[]),(qT 47 5 5,[]),(q1 48 63 47,[3]),(qD 49 5 45 46,[0,1,2,3,4]),(qS 5 49 48,[0,1,2,3,4,5])] [2,3,37,38,39]))) (.reg [zA 50 (.bin .add (.t 39) (kI 1)),zM 39 50] [2,3,37,38,39])))))))) .skip)) (.seq (.reg [qT 51 5 3,qS 5 2 51] [2]) .ret)))))
theorem K.bz:fQ pZ 63 1 0 C.bz [.cell 2 true 5]=true:=by kernel_rfl
def C.dX:bf:=(.seq (.reg [qB 2 false] [0]) (.seq (.seq (.reg [zM 5 0,qL 6 5,zA 7 (.bin .gtr (.t 6) (kI 5))] [0,7]) (.cond (.t 7) (.seq (.reg [qB 2 false] [2]) .ret) .skip)) (.seq (.seq (.reg [zM 8 0,qL 9 8,qI 10 0] [8,9,10]) (.block 0 (.loop (.seq (.reg [zA 11 (.bin .lss (.t 10) (.t 9))] [8,9,10,11]) (.seq (.cond (.t 11) .skip (.exit 0)) (.seq (.block 1 (.seq (.reg [qD 12 1 8 10,qF 13 1 12,zM 4 13] [4,8,9,10]) (.seq (.reg [zM 14 4,q1 15 93 14,qO 16 15] [8,9,10,16]) (.cond (.t 16) (.seq (.reg [qB 2 false] [2]) .ret) .skip)))) (.reg [zA 17 (.bin .add (.t 10) (kI 1)),zM 10 17] [8,9,10]))))))) (.seq (.reg [qB 2 true] [2]) .ret))))
theorem K.dX:fQ pZ 89 1 0 C.dX [.tmp 2]=true:=by kernel_rfl
def C.iV:bf:=(.seq (.reg [qX 1 10 0,qB 2 false] [1]) (.seq (.reg [qA 3 0 1,qF 4 1 3,zA 5 (.bin .geq (.t 4) (kI 1)),zM 6 5,zG 6 true 7 (.eu 0 (.t 1)),zG 6 true 8 (.load false 1 (.t 7)),zG 6 true 9 (.bin .leq (.t 8) (kI 6)),qP 10 6 9,zM 11 10,zG 11 true 12 (.eu 1 (.t 1)),zG 11 true 13 (.load false 1 (.t 12)),⟨(some (11,true)),some 14,.call 89 [.t 13]⟩,qP 15 11 14,zM 16 15,zG 16 true 17 (.eu 2 (.t 1)),zG 16 true 18 (.load false 1 (.t 17)),⟨(some (16,true)),some 19,.call 89 [.t 18]⟩,qP 20 16 19,zM 21 20,zG 21 true 22 (.eu 3 (.t 1)),zG 21 true 23 (.load true 5 (.t 22)),⟨(some (21,true)),some 24,.call 21 [.t 23]⟩,qP 25 21 24,zM 2 25] [2]) .ret))
theorem K.iV:fQ pZ 59 1 0 C.iV [.tmp 2]=true:=by kernel_rfl
def C.jf:bf:=(.seq (.reg [zA 2 (.mv (.k (.c (.str []))))] [0]) (.seq (.seq (.reg [zM 3 0] [3]) (.block 0 (.seq (.reg [zA 5 (.bin .eql (.t 3) (kI 1)),zM 4 5] [3,4]) (.cond (.t 4) (.seq (.reg [zA 2 (.mv (.k (.c (.str [97,100,100]))))] [2]) .ret) (.seq (.reg [zA 7 (.bin .eql (.t 3) (kI 2)),zM 6 7] [3,6]) (.cond (.t 6) (.seq (.reg [zA 2 (.mv (.k (.c (.str [114,101,109,111,118,101]))))] [2]) .ret) (.seq (.reg [zA 9 (.bin .eql (.t 3) (kI 3)),zM 8 9] [3,8]) (.cond (.t 8) (.seq (.reg [zA 2 (.mv (.k (.c (.str [114,101,112,108,97,99,101]))))] [2]) .ret) (.seq (.reg [zA 11 (.bin .eql (.t 3) (kI 4)),zM 10 11] [3,10]) (.cond (.t 10) (.seq (.reg [zA 2 (.mv (.k (.c (.str [109,111,118,101]))))] [2]) .ret) (.seq (.reg [zA 13 (.bin .eql (.t 3) (kI 5)),zM 12 13] [3,12]) (.cond (.t 12) (.seq (.reg [zA 2 (.mv (.k (.c (.str [99,111,112,121]))))] [2]) .ret) (.seq (.reg [zA 15 (.bin .eql (.t 3) (kI 6)),zM 14 15] [14]) (.cond (.t 14) (.seq (.reg [zA 2 (.mv (.k (.c (.str [116,101,115,116]))))] [2]) .ret) .skip)))))))))))))) (.seq (.reg [zA 2 (.mv (.k (.c (.str []))))] [2]) .ret)))
theorem K.jf:fQ pZ 62 1 0 C.jf [.tmp 2]=true:=by kernel_rfl
def C.dJ:bf:=(.seq (.reg [qZ 2 10] [0,2]) (.seq (.reg [zA 6 (.build zN [(0,1,kI 3)]),qZ 3 11,qS 5 3 6] [0,2,3]) (.seq (.seq (.reg [zM 7 0,qL 8 7,qI 9 0] [2,3,7,8,9]) (.block 0 (.loop (.seq (.reg [zA 10 (.bin .lss (.t 9) (.t 8))] [2,3,7,8,9,10]) (.seq (.cond (.t 10) .skip (.exit 0)) (.seq (.block 1 (.seq (.reg [qD 11 1 7 9,qF 12 1 11,zM 5 12] [2,3,5,7,8,9]) (.reg [qA 13 4 3,qF 14 1 13,zM 15 5,zA 16 (.build zN [(0,1,kI 2),(2,1,.t 15)]),zA 17 (.bJ 12 5 1 [.lit (.int .i64 0),.lit (.int .i64 0),.str [],.sl 1 [],.sl 5 []] [(0,.t 16)]),zA 18 (.append 13 5 80 (.t 14) (.t 17)),qA 19 4 3,qU 1 19 18] [2,3,7,8,9]))) (.reg [zA 20 (.bin .add (.t 9) (kI 1)),zM 9 20] [2,3,7,8,9]))))))) (.seq (.reg [qT 21 5 3,qS 5 2 21] [2]) .ret))))
theorem K.dJ:fQ pZ 61 1 0 C.dJ [.cell 2 true 5]=true:=by kernel_rfl
def C.ig:bf:=(.seq (.reg [qX 1 10 0,qZ 2 11,qB 3 false] [1,2]) (.seq (.seq (.reg [qT 4 8 1,q1 5 59 4,qO 6 5] [1,2,6]) (.cond (.t 6) (.seq (.reg [zA 7 (.build zN []),qS 5 2 7,qB 3 false] [2,3]) .ret) .skip)) (.seq (.jW [(zA 8 (.bJ 12 1 4 [.str []] [(0,.k (.c (.str [102,114,111,109]))),(1,.k (.c (.str [111,112]))),(2,.k (.c (.str [112,97,116,104]))),(3,.k (.c (.str [118,97,108,117,101])))]),[]),(qA 9 2 1,[]),(qF 10 1 9,[1]),(q1 11 61 10,[1,2]),(qA 12 0 1,[]),(qF 13 1 12,[4]),(q1 14 62 13,[1,2,3,4,5]),(zA 15 (.build zN [(0,1,kI 2),(2,1,.t 14)]),[1,2,3,4,5,6]),(qA 16 1 1,[]),(qF 17 1 16,[8]),(q1 18 61 17,[1,2,3,4,5,6,8,9]),(qA 19 3 1,[]),(qT 20 5 19,[11]),(q1 21 63 20,[1,2,3,4,5,6,8,9,10,11,12]),(zA 22 (.bJ 13 5 4 [.lit (.int .i64 0),.lit (.int .i64 0),.str [],.sl 1 [],.sl 5 []] [(0,.t 11),(1,.t 15),(2,.t 18),(3,.t 21)]),[1,2,3,4,5,6,7,8,9,10,11,12,13]),(zA 23 (.build zN [(0,1,kI 4),(3,1,.t 8),(4,1,.t 22)]),[0,1,2,3,4,5,6,7,8,9,10,11,12,13,14]),(⟨none,some 24,.call 60 [.t 23,.k (.c (.lit (.bool true)))]⟩,[0,1,2,3,4,5,6,7,8,9,10,11,12,13,14,15]),(qE 25 24 0,[0,1,2,3,4,5,6,7,8,9,10,11,12,13,14,15,16]),(qE 26 24 1,[0,1,2,3,4,5,6,7,8,9,10,11,12,13,14,15,16]),(qS 5 2 25,[0,1,2,3,4,5,6,7,8,9,10,11,12,13,14,15,16,17,18]),(zM 3 26,[0,1,2,3,4,5,6,7,8,9,10,11,12,13,14,15,16,17,18,19])] [2,3]) .ret)))
theorem K.ig:fQ pZ 30 1 0 C.ig [.cell 2 true 5,.tmp 3]=true:=by kernel_rfl
def C.dG:bf:=(.seq (.reg [zA 2 (.mv (.k (.c (.str [])))),qB 3 false] [0]) (.seq (.reg [zA 4 (.pO 50 5 11 10)] [0,4]) (.seq (.seq (.reg [zM 9 0,qL 10 9,qI 11 0] [4,9,10,11]) (.block 0 (.loop (.seq (.reg [zA 12 (.bin .lss (.t 11) (.t 10))] [4,9,10,11,12]) (.seq (.cond (.t 12) .skip (.exit 0)) (.seq (.block 1 (.seq (.reg [qD 13 8 9 11,qT 14 8 13,zA 6 (.alloc 12 [jP 0,.fH 1,.fH 1,jP 0,jP 0,.c (.str []),.fH 1,.fH 5]),qS 8 6 14] [4,6,9,10,11]) (.seq (.reg [qT 16 8 6,q1 17 30 16,zM 15 17,qE 18 15 0,qE 19 15 1,qZ 7 13,qS 5 7 18,zM 8 19] [4,7,8,9,10,11]) (.seq (.seq (.reg [zM 20 8,qO 21 20] [4,7,9,10,11,21]) (.cond (.t 21) (.seq (.reg [zA 2 (.mv (.k (.c (.str [])))),qB 3 false] [2,3]) .ret) .skip)) (.seq (.reg [qT 22 5 7,q2 23 22 4 22] [4,9,10,11]) (.reg [⟨none,some 24,.call 31 [.t 4,.k (.c (.lit (.int .u8 59)))]⟩] [4,9,10,11])))))) (.reg [zA 25 (.bin .add (.t 11) (kI 1)),zM 11 25] [4,9,10,11]))))))) (.seq (.reg [q1 26 23 4,zM 2 26,qB 3 true] [2,3]) .ret))))
theorem K.dG:fQ pZ 13 1 0 C.dG [.tmp 2,.tmp 3]=true:=by kernel_rfl
def C.bK:bf:=(.seq (.reg [qB 2 false] [0]) (.seq (.seq (.reg [zM 5 0,qL 6 5,zA 7 (.bin .gtr (.t 6) (kI 12))] [0,7]) (.cond (.t 7) (.seq (.reg [qB 2 false] [2]) .ret) .skip)) (.seq (.seq (.reg [zM 8 0,qL 9 8,qI 10 0] [8,9,10]) (.block 0 (.loop (.seq (.reg [zA 11 (.bin .lss (.t 10) (.t 9))] [8,9,10,11]) (.seq (.cond (.t 11) .skip (.exit 0)) (.seq (.block 1 (.seq (.reg [qD 12 8 8 10,qT 13 8 12,zA 4 (.alloc 10 [jP 0,.fH 1,.fH 1,jP 0,jP 0,.c (.str []),.fH 1,.fH 5]),qS 8 4 13] [4,8,9,10]) (.seq (.reg [qT 14 8 4,q1 15 59 14,qO 16 15] [8,9,10,16]) (.cond (.t 16) (.seq (.reg [qB 2 false] [2]) .ret) .skip)))) (.reg [zA 17 (.bin .add (.t 10) (kI 1)),zM 10 17] [8,9,10]))))))) (.seq (.reg [qB 2 true] [2]) .ret))))
theorem K.bK:fQ pZ 29 1 0 C.bK [.tmp 2]=true:=by kernel_rfl
def C.dQ:bf:=(.seq (.reg [qB 2 false] [0]) (.seq (.seq (.reg [zM 4 0,zA 5 (.bin .eql (.t 4) (.k (.c (.str [])))),zM 6 5,zG 6 false 7 (.mv (.t 0)),zG 6 false 8 (.lens (.t 7)),zG 6 false 9 (.bin .gtr (.t 8) (kI 8)),qQ 10 6 9] [0,10]) (.cond (.t 10) (.seq (.reg [qB 2 false] [2]) .ret) .skip)) (.seq (.seq (.reg [qI 3 0] [0,3]) (.block 0 (.loop (.seq (.seq (.reg [zM 11 3,zM 12 0,zA 13 (.lens (.t 12)),zA 14 (.bin .lss (.t 11) (.t 13))] [0,3,14]) (.cond (.t 14) .skip (.exit 0))) (.seq (.block 1 (.seq (.reg [zM 17 0,zM 18 3,zA 19 (.idxs (.t 17) (.t 18)),zA 20 (.bin .lss (.t 19) (.k (.c (.lit (.int .u8 97))))),zM 21 20,zG 21 false 22 (.mv (.t 0)),zG 21 false 23 (.mv (.t 3)),zG 21 false 24 (.idxs (.t 22) (.t 23)),zG 21 false 25 (.bin .gtr (.t 24) (.k (.c (.lit (.int .u8 122))))),qQ 26 21 25,zM 27 26,zG 27 true 28 (.mv (.t 0)),zG 27 true 29 (.mv (.t 3)),zG 27 true 30 (.idxs (.t 28) (.t 29)),zG 27 true 31 (.bin .lss (.t 30) (.k (.c (.lit (.int .u8 48))))),zG 27 true 32 (.mv (.t 31)),zG 32 false 33 (.mv (.t 0)),zG 32 false 34 (.mv (.t 3)),zG 32 false 35 (.idxs (.t 33) (.t 34)),zG 32 false 36 (.bin .gtr (.t 35) (.k (.c (.lit (.int .u8 57))))),zG 27 true 37 (.pick (.t 32) (kB true) (.t 36)),qP 38 27 37] [0,3,38]) (.cond (.t 38) (.seq (.reg [qB 2 false] [2]) .ret) .skip))) (.reg [zM 15 3,zA 16 (.bin .add (.t 15) (kI 1)),zM 3 16] [0,3])))))) (.seq (.reg [qB 2 true] [2]) .ret))))
theorem K.dQ:fQ pZ 27 1 0 C.dQ [.tmp 2]=true:=by kernel_rfl
def C.gI:bf:=(.seq (.reg [qX 1 10 0,qB 2 false] [1]) (.seq (.reg [qA 3 0 1,qF 4 1 3,zA 5 (.bin .geq (.t 4) (kI 1)),zM 6 5,zG 6 true 7 (.eu 0 (.t 1)),zG 6 true 8 (.load false 1 (.t 7)),zG 6 true 9 (.bin .leq (.t 8) (kI 5)),qP 10 6 9,zM 11 10,zG 11 true 12 (.eu 1 (.t 1)),zG 11 true 13 (.load false 1 (.t 12)),⟨(some (11,true)),some 14,.call 27 [.t 13]⟩,qP 15 11 14,zM 16 15,zG 16 true 17 (.eu 2 (.t 1)),zG 16 true 18 (.load false 1 (.t 17)),⟨(some (16,true)),some 19,.call 28 [.t 18]⟩,qP 20 16 19,zM 21 20,zG 21 true 22 (.eu 3 (.t 1)),zG 21 true 23 (.load false 1 (.t 22)),⟨(some (21,true)),some 24,.call 28 [.t 23]⟩,qP 25 21 24,zM 26 25,zG 26 true 27 (.eu 4 (.t 1)),zG 26 true 28 (.load true 5 (.t 27)),⟨(some (26,true)),some 29,.call 21 [.t 28]⟩,qP 30 26 29,zM 31 30,zG 31 true 32 (.eu 9 (.t 1)),zG 31 true 33 (.load false 1 (.t 32)),⟨(some (31,true)),some 34,.call 29 [.t 33]⟩,qP 35 31 34,zM 2 35] [2]) .ret))
theorem K.gI:fQ pZ 12 1 0 C.gI [.tmp 2]=true:=by kernel_rfl
def C.gG:bf:=(.seq (.reg [zA 2 (.mv (.k (.c (.str []))))] [0]) (.seq (.seq (.reg [zM 3 0] [3]) (.block 0 (.seq (.reg [zA 5 (.bin .eql (.t 3) (kI 1)),zM 4 5] [3,4]) (.cond (.t 4) (.seq (.reg [zA 2 (.mv (.k (.c (.str [103,101,116]))))] [2]) .ret) (.seq (.reg [zA 7 (.bin .eql (.t 3) (kI 2)),zM 6 7] [3,6]) (.cond (.t 6) (.seq (.reg [zA 2 (.mv (.k (.c (.str [112,117,116]))))] [2]) .ret) (.seq (.reg [zA 9 (.bin .eql (.t 3) (kI 3)),zM 8 9] [3,8]) (.cond (.t 8) (.seq (.reg [zA 2 (.mv (.k (.c (.str [100,101,108,101,116,101]))))] [2]) .ret) (.seq (.reg [zA 11 (.bin .eql (.t 3) (kI 4)),zM 10 11] [3,10]) (.cond (.t 10) (.seq (.reg [zA 2 (.mv (.k (.c (.str [112,97,116,99,104]))))] [2]) .ret) (.seq (.reg [zA 13 (.bin .eql (.t 3) (kI 5)),zM 12 13] [12]) (.cond (.t 12) (.seq (.reg [zA 2 (.mv (.k (.c (.str [109,101,114,103,101]))))] [2]) .ret) .skip)))))))))))) (.seq (.reg [zA 2 (.mv (.k (.c (.str []))))] [2]) .ret)))
theorem K.gG:fQ pZ 15 1 0 C.gG [.tmp 2]=true:=by kernel_rfl
def C.ah:bf:=(.seq (.reg [qX 1 10 0,zA 2 (.mv (.k (.c (.str []))))] [1]) (.seq (.seq (.reg [qT 7 10 1,q1 8 12 7,qO 9 8] [1,9]) (.cond (.t 9) (.seq (.reg [zA 2 (.mv (.k (.c (.str []))))] [2]) .ret) .skip)) (.seq (.reg [qA 10 0 1,qF 11 1 10,zA 12 (.bin .eql (.t 11) (kI 2)),zM 13 12,zG 13 false 14 (.eu 0 (.t 1)),zG 13 false 15 (.load false 1 (.t 14)),zG 13 false 16 (.bin .eql (.t 15) (kI 5)),qQ 17 13 16,zM 3 17] [1,3]) (.cut (.seq (.reg [zM 18 3,qO 19 18,zM 20 19,zG 20 true 21 (.eu 4 (.t 1)),zG 20 true 22 (.eu 0 (.t 21)),zG 20 true 23 (.load false 1 (.t 22)),zG 20 true 24 (.bin .neq (.t 23) (kI 0)),qP 25 20 24,zM 26 25,zG 26 false 27 (.eu 0 (.t 1)),zG 26 false 28 (.load false 1 (.t 27)),zG 26 false 29 (.bin .neq (.t 28) (kI 4)),zG 26 false 30 (.mv (.t 29)),zG 30 true 31 (.eu 9 (.t 1)),zG 30 true 32 (.load false 1 (.t 31)),zG 30 true 33 (.len (.t 32)),zG 30 true 34 (.bin .gtr (.t 33) (kI 0)),zG 26 false 35 (.pick (.t 30) (.t 34) (kB false)),qQ 36 26 35] [1,36]) (.cond (.t 36) (.seq (.reg [zA 2 (.mv (.k (.c (.str []))))] [2]) .ret) .skip)) (.seq (.reg [qA 37 4 1,qT 38 5 37,q1 39 8 38,zM 4 39] [1,4]) (.cut (.seq (.reg [qA 40 0 1,qF 41 1 40,zA 42 (.bin .eql (.t 41) (kI 4))] [1,4,42]) (.cond (.t 42) (.seq (.reg [qA 44 9 1,qF 45 1 44,q1 46 13 45,zM 43 46,qE 47 43 0,qE 48 43 1,zM 5 47,zM 6 48] [1,5,6]) (.seq (.seq (.reg [zM 49 6,qO 50 49] [1,5,50]) (.cond (.t 50) (.seq (.reg [zA 2 (.mv (.k (.c (.str []))))] [2]) .ret) .skip)) (.reg [zM 51 5,zM 4 51] [1,4]))) .skip)) (.seq (.jW [(qA 52 0 1,[]),(qF 53 1 52,[0]),(q1 54 15 53,[0,1]),(qA 55 1 1,[]),(qF 56 1 55,[3]),(qA 57 2 1,[]),(qF 58 1 57,[5]),(q1 59 16 58,[0,1,2,5,6]),(qA 60 3 1,[]),(qF 61 1 60,[8]),(q1 62 16 61,[0,1,2,5,6,7,8,9]),(zM 63 4,[]),(zA 64 (.bJ 11 1 5 [.str []] [(0,.t 54),(1,.t 56),(2,.t 59),(3,.t 62),(4,.t 63)]),[0,1,2,3,4,5,6,7,8,9,10,11]),(⟨none,some 65,.call 14 [.t 64,.k (.c (.str [32]))]⟩,[0,1,2,3,4,5,6,7,8,9,10,11,12]),(zM 2 65,[0,1,2,3,4,5,6,7,8,9,10,11,12,13])] [2]) .ret)))))))
theorem K.ah:fQ pZ 6 1 0 C.ah [.tmp 2]=true:=by kernel_rfl
def C.iE:bf:=(.seq (.reg [zA 2 (.mv (.k (.c (.lit (.pointer none)))))] [0]) (.seq (.seq (.reg [zM 3 0,qL 4 3,zA 5 (.bin .gtr (.t 4) (kI 2000))] [0,5]) (.cond (.t 5) (.reg [zM 6 0,zA 7 (.oO 1 (.t 6) none (some (kI 2000))),zM 0 7] [0]) .skip)) (.seq (.reg [zM 8 0,zA 9 (.build [.fH 1,jP 0] [(0,1,.t 8)]),qX 10 10 9,zM 2 10] [2]) .ret)))
theorem K.iE:fQ pZ 11 1 0 C.iE [.tmp 2]=true:=by kernel_rfl
def C.ax:bf:=(.seq (.reg [qX 1 10 0,qZ 2 11] [1,2]) (.seq (.reg [zA 5 (.bJ 12 5 0 [.lit (.int .i64 0),.lit (.int .i64 0),.str [],.sl 1 [],.sl 5 []] []),zM 3 5] [1,2,3]) (.seq (.seq (.reg [qI 4 0] [1,2,3,4]) (.block 0 (.loop (.seq (.seq (.reg [zM 6 4,qA 7 4 1,qF 8 1 7,qL 9 8,zA 10 (.bin .lss (.t 6) (.t 9))] [1,2,3,4,10]) (.cond (.t 10) .skip (.exit 0))) (.seq (.block 1 (.reg [zM 13 3,qA 14 4 1,qF 15 1 14,zM 16 4,qD 17 5 15 16,qT 18 5 17,q1 19 44 18,zA 20 (.bJ 13 5 1 [.lit (.int .i64 0),.lit (.int .i64 0),.str [],.sl 1 [],.sl 5 []] [(0,.t 19)]),zA 21 (.append 14 5 80 (.t 13) (.t 20)),zM 3 21] [1,2,3,4])) (.reg [zM 11 4,zA 12 (.bin .add (.t 11) (kI 1)),zM 4 12] [1,2,3,4])))))) (.seq (.jW [(qA 22 0 1,[]),(qF 23 1 22,[0]),(qA 24 1 1,[]),(qF 25 1 24,[2]),(qA 26 2 1,[]),(qF 27 1 26,[4]),(zA 28 (.bJ 15 1 0 [.str []] []),[]),(qA 29 3 1,[]),(qF 30 1 29,[7]),(zA 31 (.append 16 1 16 (.t 28) (.t 30)),[6,7,8]),(zM 32 3,[]),(zA 33 (.build zN [(0,1,.t 23),(1,1,.t 25),(2,1,.t 27),(3,1,.t 31),(4,1,.t 32)]),[0,1,2,3,4,5,6,7,8,9,10]),(qS 5 2 33,[0,1,2,3,4,5,6,7,8,9,10,11])] [2]) .ret))))
theorem K.ax:fQ pZ 44 1 0 C.ax [.cell 2 true 5]=true:=by kernel_rfl
def C.ai:bf:=(.seq (.reg [qI 4 0] [0,1]) (.seq (.reg [zM 7 0,zM 8 0,qN 9 8,qA 10 1 9,qF 11 1 10,zA 12 (.bin .add (.t 11) (kI 1)),qN 13 7,qA 14 1 13,qU 1 14 12] [0,1]) (.seq (.seq (.reg [zM 15 1,zA 16 (.bin .lss (.t 15) (kI 1)),zM 17 16,zG 17 false 18 (.mv (.t 0)),zG 17 false 19 (.zD (.t 18)),zG 17 false 20 (.eu 0 (.t 19)),zG 17 false 21 (.load false 1 (.t 20)),zG 17 false 22 (.len (.t 21)),zG 17 false 23 (.bin .eql (.t 22) (kI 0)),qQ 24 17 23] [0,1,24]) (.cond (.t 24) (.seq (.reg [qI 4 0] [4]) .ret) .skip)) (.seq (.reg [zM 25 0,qN 26 25,qA 27 1 26,qF 28 1 27,zA 29 (.bin .sub (.t 28) (kI 1)),zM 5 29] [0,1,5]) (.seq (.seq (.reg [zM 30 5,zM 31 0,qN 32 31,qA 33 0 32,qF 34 1 33,qL 35 34,zA 36 (.bin .lss (.t 30) (.t 35))] [0,1,5,36]) (.cond (.t 36) (.seq (.reg [zM 37 0,qN 38 37,qA 39 0 38,qF 40 1 39,zM 41 5,qD 42 1 40 41,qF 43 1 42,zA 44 (.uj .i64 (.t 43)),zM 45 1,zA 46 (.bin .rem (.t 44) (.t 45)),zM 4 46] [4]) .ret) .skip)) (.seq (.jW [(zM 47 0,[]),(qN 48 47,[0]),(qA 49 0 48,[0,1]),(qF 50 1 49,[0,1,2]),(zM 51 5,[]),(zM 52 0,[]),(qN 53 52,[5]),(qA 54 0 53,[5,6]),(qF 55 1 54,[5,6,7]),(qL 56 55,[5,6,7,8]),(zA 57 (.bin .rem (.t 51) (.t 56)),[4,5,6,7,8,9]),(qD 58 1 50 57,[0,1,2,3,4,5,6,7,8,9,10]),(qF 59 1 58,[0,1,2,3,4,5,6,7,8,9,10,11]),(zA 60 (.uj .i64 (.t 59)),[0,1,2,3,4,5,6,7,8,9,10,11,12]),(zA 61 (.bin .mul (.t 60) (kI 131)),[0,1,2,3,4,5,6,7,8,9,10,11,12,13]),(zM 62 0,[]),(qN 63 62,[15]),(qA 64 0 63,[15,16]),(qF 65 1 64,[15,16,17]),(zM 66 5,[]),(zA 67 (.bin .mul (.t 66) (kI 7)),[19]),(zA 68 (.bin .add (.t 67) (kI 3)),[19,20]),(zM 69 0,[]),(qN 70 69,[22]),(qA 71 0 70,[22,23]),(qF 72 1 71,[22,23,24]),(qL 73 72,[22,23,24,25]),(zA 74 (.bin .rem (.t 68) (.t 73)),[19,20,21,22,23,24,25,26]),(qD 75 1 65 74,[15,16,17,18,19,20,21,22,23,24,25,26,27]),(qF 76 1 75,[15,16,17,18,19,20,21,22,23,24,25,26,27,28]),(zA 77 (.uj .i64 (.t 76)),[15,16,17,18,19,20,21,22,23,24,25,26,27,28,29]),(zA 78 (.bin .mul (.t 77) (kI 1117)),[15,16,17,18,19,20,21,22,23,24,25,26,27,28,29,30]),(zA 79 (.bin .add (.t 61) (.t 78)),[0,1,2,3,4,5,6,7,8,9,10,11,12,13,14,15,16,17,18,19,20,21,22,23,24,25,26,27,28,29,30,31]),(zM 80 5,[]),(zA 81 (.bin .mul (.t 80) (kI 29)),[33]),(zA 82 (.bin .add (.t 79) (.t 81)),[0,1,2,3,4,5,6,7,8,9,10,11,12,13,14,15,16,17,18,19,20,21,22,23,24,25,26,27,28,29,30,31,32,33,34]),(zM 83 5,[]),(zM 84 0,[]),(qN 85 84,[37]),(qA 86 0 85,[37,38]),(qF 87 1 86,[37,38,39]),(qL 88 87,[37,38,39,40]),(zA 89 (.bin .quo (.t 83) (.t 88)),[36,37,38,39,40,41]),(zA 90 (.bin .mul (.t 89) (kI 53)),[36,37,38,39,40,41,42]),(zA 91 (.bin .add (.t 82) (.t 90)),[0,1,2,3,4,5,6,7,8,9,10,11,12,13,14,15,16,17,18,19,20,21,22,23,24,25,26,27,28,29,30,31,32,33,34,35,36,37,38,39,40,41,42,43]),(zM 6 91,[0,1,2,3,4,5,6,7,8,9,10,11,12,13,14,15,16,17,18,19,20,21,22,23,24,25,26,27,28,29,30,31,32,33,34,35,36,37,38,39,40,41,42,43,44])] [1,6]) (.seq (.reg [zM 92 6,zM 93 6,zA 94 (.bin .quo (.t 93) (kI 64)),zA 95 (.bin .xor (.t 92) (.t 94)),zM 6 95] [1,6]) (.seq (.reg [zM 96 6,zM 97 1,zA 98 (.bin .rem (.t 96) (.t 97)),zM 4 98] [4]) .ret))))))))
theorem K.ai:fQ pZ 26 2 1 C.ai [.tmp 4]=true:=by kernel_rfl
def C.bI:bf:=(.seq (.reg [qI 4 0] [0,1]) (.seq (.reg [zM 5 1,zM 6 0,zM 7 1,qL 8 7,q2 9 26 6 8,qD 10 1 5 9,qF 11 1 10,zM 4 11] [4]) .ret))
theorem K.bI:fQ pZ 51 2 1 C.bI [.tmp 4]=true:=by kernel_rfl
def C.dK:bf:=(.seq (.reg [zA 2 (.mv (.k (.c (.str []))))] [0]) (.seq (.seq (.reg [zM 3 0,zA 4 (.bin .lss (.t 3) (kI 0)),zM 5 4,zG 5 true 6 (.mv (.t 0)),zG 5 true 7 (.mv (.t 0)),zG 5 true 8 (.neg (.t 7)),zG 5 true 9 (.bin .eql (.t 6) (.t 8)),qP 10 5 9] [0,10]) (.cond (.t 10) (.seq (.reg [zA 2 (.mv (.k (.c (.str [45,57,50,50,51,51,55,50,48,51,54,56,53,52,55,55,53,56,48,56]))))] [2]) .ret) .skip)) (.seq (.seq (.reg [zM 11 0,zA 12 (.bin .lss (.t 11) (kI 0))] [0,12]) (.cond (.t 12) (.seq (.reg [zM 13 0,zA 14 (.neg (.t 13)),q1 15 71 14,zA 16 (.bin .add (.k (.c (.str [45]))) (.t 15)),zM 2 16] [2]) .ret) .skip)) (.seq (.seq (.reg [zM 17 0,zA 18 (.bin .lss (.t 17) (kI 10))] [0,18]) (.cond (.t 18) (.seq (.reg [zM 19 0,zA 20 (.bin .add (kI 48) (.t 19)),zA 21 (.uj .u8 (.t 20)),zA 22 (.bJ 10 1 1 [.lit (.int .u8 0)] [(0,.t 21)]),zA 23 (.CY (.t 22)),zM 2 23] [2]) .ret) .skip)) (.seq (.jW [(zM 24 0,[]),(zA 25 (.bin .quo (.t 24) (kI 10)),[0]),(q1 26 71 25,[0,1]),(zM 27 0,[]),(zA 28 (.bin .rem (.t 27) (kI 10)),[3]),(zA 29 (.bin .add (kI 48) (.t 28)),[3,4]),(zA 30 (.uj .u8 (.t 29)),[3,4,5]),(zA 31 (.bJ 11 1 1 [.lit (.int .u8 0)] [(0,.t 30)]),[3,4,5,6]),(zA 32 (.CY (.t 31)),[3,4,5,6,7]),(zA 33 (.bin .add (.t 26) (.t 32)),[0,1,2,3,4,5,6,7,8]),(zM 2 33,[0,1,2,3,4,5,6,7,8,9])] [2]) .ret)))))
theorem K.dK:fQ pZ 71 1 0 C.dK [.tmp 2]=true:=by kernel_rfl
def C.bW:bf:=(.seq (.reg [qX 2 10 0,qI 4 0] [1,2]) (.seq (.seq (.reg [qI 5 0] [1,2,5]) (.block 0 (.loop (.seq (.seq (.reg [zM 6 5,qA 7 4 2,qF 8 1 7,qL 9 8,zA 10 (.bin .lss (.t 6) (.t 9))] [1,2,5,10]) (.cond (.t 10) .skip (.exit 0))) (.seq (.block 1 (.seq (.reg [qA 13 0 2,qF 14 1 13,zA 15 (.bin .eql (.t 14) (kI 4)),zM 16 15,zG 16 true 17 (.eu 3 (.t 2)),zG 16 true 18 (.load false 1 (.t 17)),zG 16 true 19 (.mv (.t 5)),zG 16 true 20 (.mW 1 (.t 18) (.t 19)),zG 16 true 21 (.load false 1 (.t 20)),zG 16 true 22 (.mv (.t 1)),zG 16 true 23 (.bin .eql (.t 21) (.t 22)),qP 24 16 23,zM 25 24,zG 25 false 26 (.eu 0 (.t 2)),zG 25 false 27 (.load false 1 (.t 26)),zG 25 false 28 (.bin .eql (.t 27) (kI 3)),zG 25 false 29 (.mv (.t 28)),zG 29 true 30 (.mv (.t 5)),⟨(some (29,true)),some 31,.call 71 [.t 30]⟩,zG 29 true 32 (.mv (.t 1)),zG 29 true 33 (.bin .eql (.t 31) (.t 32)),zG 25 false 34 (.pick (.t 29) (.t 33) (kB false)),qQ 35 25 34] [1,2,5,35]) (.cond (.t 35) (.seq (.reg [zM 36 5,zM 4 36] [4]) .ret) .skip))) (.reg [zM 11 5,zA 12 (.bin .add (.t 11) (kI 1)),zM 5 12] [1,2,5])))))) (.seq (.reg [qI 4 (-1)] [4]) .ret)))
theorem K.bW:fQ pZ 107 2 0 C.bW [.tmp 4]=true:=by kernel_rfl
def C.dP:bf:=(.seq (.reg [qX 2 10 0,qI 4 0,qB 5 false] [1,2]) (.seq (.reg [qT 8 5 2,zM 9 1,q2 10 107 8 9,zM 6 10] [1,2,6]) (.seq (.seq (.reg [zM 11 6,zA 12 (.bin .geq (.t 11) (kI 0))] [1,2,6,12]) (.cond (.t 12) (.seq (.jW [(zM 13 6,[]),(qA 14 0 2,[]),(qF 15 1 14,[1]),(zA 16 (.bin .eql (.t 15) (kI 4)),[1,2]),(zM 4 13,[0]),(zM 5 16,[0,1,2,3,4])] [4,5]) .ret) .skip)) (.seq (.seq (.reg [qA 17 0 2,qF 18 1 17,zA 19 (.bin .eql (.t 18) (kI 3)),zM 20 19,zG 20 true 21 (.mv (.t 1)),zG 20 true 22 (.bin .eql (.t 21) (.k (.c (.str [45])))),zG 20 true 23 (.mv (.t 22)),zG 23 false 24 (.mv (.t 1)),zG 23 false 25 (.eu 4 (.t 2)),zG 23 false 26 (.load false 1 (.t 25)),zG 23 false 27 (.len (.t 26)),⟨(some (23,false)),some 28,.call 71 [.t 27]⟩,zG 23 false 29 (.bin .eql (.t 24) (.t 28)),zG 20 true 30 (.pick (.t 23) (kB true) (.t 29)),qP 31 20 30] [1,2,31]) (.cond (.t 31) (.seq (.reg [qA 32 4 2,qF 33 1 32,qL 34 33,zM 4 34,qB 5 false] [4,5]) .ret) .skip)) (.seq (.seq (.reg [qI 7 0] [1,2,7]) (.block 0 (.loop (.seq (.seq (.reg [qA 35 0 2,qF 36 1 35,zA 37 (.bin .eql (.t 36) (kI 4)),zM 38 37,zG 38 true 39 (.mv (.t 7)),zG 38 true 40 (.eu 4 (.t 2)),zG 38 true 41 (.load false 1 (.t 40)),zG 38 true 42 (.len (.t 41)),zG 38 true 43 (.bin .leq (.t 39) (.t 42)),qP 44 38 43] [1,2,7,44]) (.cond (.t 44) .skip (.exit 0))) (.seq (.block 1 (.seq (.reg [zM 47 7,qA 48 4 2,qF 49 1 48,qL 50 49,zA 51 (.bin .eql (.t 47) (.t 50)),zM 52 51,zG 52 false 53 (.mv (.t 1)),zG 52 false 54 (.eu 3 (.t 2)),zG 52 false 55 (.load false 1 (.t 54)),zG 52 false 56 (.mv (.t 7)),zG 52 false 57 (.mW 1 (.t 55) (.t 56)),zG 52 false 58 (.load false 1 (.t 57)),zG 52 false 59 (.bin .lss (.t 53) (.t 58)),qQ 60 52 59] [1,2,7,60]) (.cond (.t 60) (.seq (.reg [zM 61 7,zM 4 61,qB 5 false] [4,5]) .ret) .skip))) (.reg [zM 45 7,zA 46 (.bin .add (.t 45) (kI 1)),zM 7 46] [1,2,7])))))) (.seq (.reg [qI 4 (-1),qB 5 false] [4,5]) .ret))))))
theorem K.dP:fQ pZ 117 2 0 C.dP [.tmp 4,.tmp 5]=true:=by kernel_rfl
def C.fG:bf:=(.seq (.reg [qX 3 10 0,qX 5 11 2,qZ 6 12] [1,3,5,6]) (.seq (.reg [qT 8 5 3,q1 9 44 8,qZ 7 13,qS 5 7 9] [1,5,6,7]) (.seq (.jW [(qA 10 4 7,[]),(qF 11 1 10,[0]),(zM 12 1,[]),(qT 13 5 5,[]),(q1 14 44 13,[3]),(qD 15 5 11 12,[0,1,2,3,4]),(qS 5 15 14,[0,1,2,3,4,5])] [6,7]) (.seq (.reg [qT 16 5 7,qS 5 6 16] [6]) .ret))))
theorem K.fG:fQ pZ 114 3 0 C.fG [.cell 6 true 5]=true:=by kernel_rfl
def C.eY:bf:=(.seq (.reg [qX 3 10 0,qX 5 11 2,qZ 6 12,qB 7 false] [1,3,5,6]) (.seq (.reg [qT 14 5 3,zM 15 1,q2 16 117 14 15,zM 13 16,qE 17 13 0,qE 18 13 1,zM 8 17,zM 9 18] [1,3,5,6,8,9]) (.seq (.seq (.reg [zM 19 8,zA 20 (.bin .lss (.t 19) (kI 0))] [1,3,5,6,8,9,20]) (.cond (.t 20) (.seq (.reg [zA 21 (.build zN []),qS 5 6 21,qB 7 false] [6,7]) .ret) .skip)) (.seq (.seq (.reg [zM 22 9] [1,3,5,6,8,22]) (.cond (.t 22) (.seq (.reg [qT 23 5 3,zM 24 8,qT 25 5 5,q3 26 114 23 24 25,qS 5 6 26,qB 7 true] [6,7]) .ret) .skip)) (.seq (.reg [qT 27 5 3,q1 28 44 27,qZ 10 13,qS 5 10 28] [1,3,5,6,8,10]) (.seq (.jW [(zA 29 (.bJ 14 5 0 [.lit (.int .i64 0),.lit (.int .i64 0),.str [],.sl 1 [],.sl 5 []] []),[]),(qA 30 4 10,[]),(qF 31 1 30,[1]),(zM 32 8,[]),(zA 33 (.oO 5 (.t 31) none (some (.t 32))),[1,2,3]),(zA 34 (.append 15 5 80 (.t 29) (.t 33)),[0,1,2,3,4]),(qT 35 5 5,[]),(q1 36 44 35,[0,1,2,3,4,5,6]),(zA 37 (.bJ 16 5 1 [.lit (.int .i64 0),.lit (.int .i64 0),.str [],.sl 1 [],.sl 5 []] [(0,.t 36)]),[0,1,2,3,4,5,6,7]),(zA 38 (.append 17 5 80 (.t 34) (.t 37)),[0,1,2,3,4,5,6,7,8]),(zM 11 38,[0,1,2,3,4,5,6,7,8,9])] [1,3,6,8,10,11]) (.seq (.reg [zM 39 11,qA 40 4 10,qF 41 1 40,zM 42 8,zA 43 (.oO 5 (.t 41) (some (.t 42)) none),zA 44 (.append 18 5 80 (.t 39) (.t 43)),zM 11 44] [1,3,6,8,10,11]) (.seq (.seq (.reg [qA 45 0 3,qF 46 1 45,zA 47 (.bin .eql (.t 46) (kI 3))] [1,3,6,8,10,11,47]) (.cond (.t 47) (.seq (.reg [qA 48 0 3,qF 49 1 48,zA 50 (.bJ 19 1 0 [.str []] []),zM 51 11,zA 52 (.build zN [(0,1,.t 49),(3,1,.t 50),(4,1,.t 51)]),qS 5 6 52,qB 7 true] [6,7]) .ret) .skip)) (.seq (.reg [zA 53 (.bJ 20 1 0 [.str []] []),qA 54 3 10,qF 55 1 54,zM 56 8,zA 57 (.oO 1 (.t 55) none (some (.t 56))),zA 58 (.append 21 1 16 (.t 53) (.t 57)),zM 59 1,zA 60 (.bJ 22 1 1 [.str []] [(0,.t 59)]),zA 61 (.append 23 1 16 (.t 58) (.t 60)),zM 12 61] [3,6,8,10,11,12]) (.seq (.reg [zM 62 12,qA 63 3 10,qF 64 1 63,zM 65 8,zA 66 (.oO 1 (.t 64) (some (.t 65)) none),zA 67 (.append 24 1 16 (.t 62) (.t 66)),zM 12 67] [3,6,11,12]) (.seq (.reg [qA 68 0 3,qF 69 1 68,zM 70 12,zM 71 11,zA 72 (.build zN [(0,1,.t 69),(3,1,.t 70),(4,1,.t 71)]),qS 5 6 72,qB 7 true] [6,7]) .ret)))))))))))
theorem K.eY:fQ pZ 108 3 0 C.eY [.cell 6 true 5,.tmp 7]=true:=by kernel_rfl
def C.bQ:bf:=(.seq (.reg [zA 4 (.mv (.k (.c (.str []))))] [0,1]) (.seq (.reg [zM 5 1,zM 6 0,zM 7 1,qL 8 7,q2 9 26 6 8,qD 10 1 5 9,qF 11 1 10,zM 4 11] [4]) .ret))
theorem K.bQ:fQ pZ 81 2 1 C.bQ [.tmp 4]=true:=by kernel_rfl
def C.iG:bf:=(.seq (.reg [zA 2 (.mv (.k (.c (.str []))))] [0]) (.seq (.reg [zM 3 0,zA 4 (.bJ 10 1 12 [.str []] [(0,.k (.c (.str [97]))),(1,.k (.c (.str [98]))),(2,.k (.c (.str []))),(3,.k (.c (.str [97,98,99]))),(4,.k (.c (.str [97,47,98]))),(5,.k (.c (.str [126]))),(6,.k (.c (.str [120,32,121]))),(7,.k (.c (.str [34,113,34]))),(8,.k (.c (.str [98,97,99,107,92,115]))),(9,.k (.c (.str [48]))),(10,.k (.c (.str [49]))),(11,.k (.c (.str [97,98,99,100,101,102,103,104,105,106,107,108])))]),q2 5 81 3 4,zM 2 5] [2]) .ret))
theorem K.iG:fQ pZ 105 1 1 C.iG [.tmp 2]=true:=by kernel_rfl
def C.iF:bf:=(.seq (.reg [zA 2 (.mv (.k (.c (.str []))))] [0]) (.seq (.reg [zM 3 0,zA 4 (.bJ 10 1 8 [.str []] [(0,.k (.c (.str [97]))),(1,.k (.c (.str [98]))),(2,.k (.c (.str [99]))),(3,.k (.c (.str [100]))),(4,.k (.c (.str [97,47,98]))),(5,.k (.c (.str [126,120]))),(6,.k (.c (.str []))),(7,.k (.c (.str [107])))]),q2 5 81 3 4,zM 2 5] [2]) .ret))
theorem K.iF:fQ pZ 106 1 1 C.iF [.tmp 2]=true:=by kernel_rfl
def C.bg:bf:=(.seq (.reg [qZ 4 10] [0,1,4]) (.seq (.reg [zA 9 (.bJ 11 1 0 [.str []] []),zA 10 (.bJ 12 5 0 [.lit (.int .i64 0),.lit (.int .i64 0),.str [],.sl 1 [],.sl 5 []] []),zA 11 (.build zN [(0,1,kI 4),(3,1,.t 9),(4,1,.t 10)]),qZ 5 13,qS 5 5 11] [0,1,4,5]) (.seq (.seq (.reg [zM 12 0,zA 13 (.bJ 14 1 5 [.lit (.int .i64 0)] [(0,kI 2),(1,kI 3),(2,kI 1),(3,kI 0),(4,kI 4)]),q2 14 51 12 13,zM 6 14] [0,1,4,5,6]) (.block 0 (.loop (.seq (.seq (.reg [zM 15 6,zA 16 (.bin .gtr (.t 15) (kI 0))] [0,1,4,5,6,16]) (.cond (.t 16) .skip (.exit 0))) (.seq (.block 1 (.seq (.reg [zM 19 0,q1 20 106 19,zM 7 20] [0,1,4,5,6,7]) (.seq (.reg [zM 21 0,zM 22 1,zA 23 (.bin .sub (.t 22) (kI 1)),q2 24 84 21 23,qZ 8 15,qS 5 8 24] [0,1,4,5,6,7,8]) (.seq (.reg [qT 25 5 5,zM 26 7,q2 27 107 25 26,zA 28 (.bin .lss (.t 27) (kI 0))] [0,1,4,5,6,7,8,28]) (.cond (.t 28) (.reg [qT 30 5 5,zM 31 7,qT 32 5 8,q3 33 108 30 31 32,zM 29 33,qE 34 29 0,qE 35 29 1,qS 5 5 34] [0,1,4,5,6]) .skip))))) (.reg [zM 17 6,zA 18 (.bin .sub (.t 17) (kI 1)),zM 6 18] [0,1,4,5,6])))))) (.seq (.reg [qT 36 5 5,qS 5 4 36] [4]) .ret))))
theorem K.bg:fQ pZ 85 2 1 C.bg [.cell 4 true 5]=true:=by kernel_rfl
def C.aB:bf:=(.seq (.reg [qZ 4 10] [0,1,4]) (.seq (.reg [zM 8 0,⟨none,some 9,.call 26 [.t 8,kI 5]⟩,zM 5 9] [0,1,4,5]) (.cut (.seq (.reg [zM 10 1,zA 11 (.bin .leq (.t 10) (kI 1))] [0,1,4,5,11]) (.cond (.t 11) (.reg [zM 12 0,⟨none,some 13,.call 26 [.t 12,kI 3]⟩,zM 5 13] [0,1,4,5]) .skip)) (.seq (.seq (.reg [zM 14 5] [0,1,4,5,14]) (.block 0 (.seq (.reg [zA 16 (.bin .eql (.t 14) (kI 1)),zM 15 16] [0,1,4,5,14,15]) (.cond (.t 15) (.seq (.reg [zM 17 5,zM 18 0,zM 19 0,⟨none,some 20,.call 26 [.t 19,kI 250]⟩,zA 21 (.bJ 11 1 8 [.lit (.int .i64 0)] [(0,kI 0),(1,kI 1),(2,kI 2),(3,kI 7),(4,kI (-7)),(5,kI 999999),(6,kI (-999999)),(7,.t 20)]),q2 22 51 18 21,zA 23 (.build zN [(0,1,.t 17),(1,1,.t 22)]),qS 5 4 23] [4]) .ret) (.seq (.reg [zA 25 (.bin .eql (.t 14) (kI 2)),zM 24 25] [0,1,4,5,14,24]) (.cond (.t 24) (.seq (.reg [zM 26 5,zM 27 0,q1 28 105 27,zA 29 (.build zN [(0,1,.t 26),(2,1,.t 28)]),qS 5 4 29] [4]) .ret) (.seq (.reg [zA 31 (.bin .eql (.t 14) (kI 3)),zM 30 31] [0,1,4,5,14,30]) (.cond (.t 30) (.seq (.reg [zA 32 (.bJ 12 5 0 [.lit (.int .i64 0),.lit (.int .i64 0),.str [],.sl 1 [],.sl 5 []] []),zM 6 32] [0,1,4,5,6]) (.seq (.seq (.reg [zM 33 0,⟨none,some 34,.call 26 [.t 33,kI 4]⟩,zM 7 34] [0,1,4,5,6,7]) (.block 1 (.loop (.seq (.seq (.reg [zM 35 7,zA 36 (.bin .gtr (.t 35) (kI 0))] [0,1,4,5,6,7,36]) (.cond (.t 36) .skip (.exit 1))) (.seq (.block 2 (.reg [zM 39 6,zM 40 0,zM 41 1,zA 42 (.bin .sub (.t 41) (kI 1)),q2 43 84 40 42,zA 44 (.bJ 13 5 1 [.lit (.int .i64 0),.lit (.int .i64 0),.str [],.sl 1 [],.sl 5 []] [(0,.t 43)]),zA 45 (.append 14 5 80 (.t 39) (.t 44)),zM 6 45] [0,1,4,5,6,7])) (.reg [zM 37 7,zA 38 (.bin .sub (.t 37) (kI 1)),zM 7 38] [0,1,4,5,6,7])))))) (.seq (.reg [zM 46 5,zA 47 (.bJ 15 1 0 [.str []] []),zM 48 6,zA 49 (.build zN [(0,1,.t 46),(3,1,.t 47),(4,1,.t 48)]),qS 5 4 49] [4]) .ret))) (.seq (.reg [zA 51 (.bin .eql (.t 14) (kI 4)),zM 50 51] [0,1,4,50]) (.cond (.t 50) (.seq (.reg [zM 52 0,zM 53 1,q2 54 85 52 53,qS 5 4 54] [4]) .ret) .skip)))))))))) (.seq (.reg [zA 55 (.build zN []),qS 5 4 55] [4]) .ret)))))
theorem K.aB:fQ pZ 84 2 1 C.aB [.cell 4 true 5]=true:=by kernel_rfl
def C.eH:bf:=(.seq (.reg [qX 1 10 0,qI 2 0] [1]) (.seq (.reg [qI 3 1] [1,3]) (.seq (.seq (.reg [qI 4 0] [1,3,4]) (.block 0 (.loop (.seq (.seq (.reg [zM 5 4,qA 6 4 1,qF 7 1 6,qL 8 7,zA 9 (.bin .lss (.t 5) (.t 8))] [1,3,4,9]) (.cond (.t 9) .skip (.exit 0))) (.seq (.block 1 (.reg [zM 12 3,qA 13 4 1,qF 14 1 13,zM 15 4,qD 16 5 14 15,qT 17 5 16,q1 18 40 17,zA 19 (.bin .add (.t 12) (.t 18)),zM 3 19] [1,3,4])) (.reg [zM 10 4,zA 11 (.bin .add (.t 10) (kI 1)),zM 4 11] [1,3,4])))))) (.seq (.reg [zM 20 3,zM 2 20] [2]) .ret))))
theorem K.eH:fQ pZ 40 1 0 C.eH [.tmp 2]=true:=by kernel_rfl
def C.bu:bf:=(.seq (.reg [qB 6 false] [0,1,2]) (.seq (.reg [zM 7 1,zM 8 0,zA 9 (.bin .leq (.t 7) (.t 8)),zM 10 9,zG 10 true 11 (.mv (.t 0)),zG 10 true 12 (.mv (.t 2)),zG 10 true 13 (.bin .leq (.t 11) (.t 12)),qP 14 10 13,zM 6 14] [6]) .ret))
theorem K.bu:fQ pZ 35 3 0 C.bu [.tmp 6]=true:=by kernel_rfl
def C.bG:bf:=(.seq (.reg [qB 2 false] [0]) (.seq (.seq (.reg [qI 3 0] [0,3]) (.block 0 (.loop (.seq (.seq (.reg [zM 4 3,zM 5 0,zA 6 (.lens (.t 5)),zA 7 (.bin .lss (.t 4) (.t 6))] [0,3,7]) (.cond (.t 7) .skip (.exit 0))) (.seq (.block 1 (.seq (.reg [zM 10 0,zM 11 3,zA 12 (.idxs (.t 10) (.t 11)),zA 13 (.uj .i64 (.t 12)),⟨none,some 14,.call 35 [.t 13,kI 32,kI 126]⟩,qO 15 14] [0,3,15]) (.cond (.t 15) (.seq (.reg [qB 2 false] [2]) .ret) .skip))) (.reg [zM 8 3,zA 9 (.bin .add (.t 8) (kI 1)),zM 3 9] [0,3])))))) (.seq (.reg [zM 16 0,zA 17 (.lens (.t 16)),zA 18 (.bin .leq (.t 17) (kI 12)),zM 2 18] [2]) .ret)))
theorem K.bG:fQ pZ 68 1 0 C.bG [.tmp 2]=true:=by kernel_rfl
def C.fM:bf:=(.seq (.reg [qB 2 false] [0]) (.seq (.seq (.reg [qI 3 0] [0,3]) (.block 0 (.loop (.seq (.seq (.reg [zM 4 3,zM 5 0,qL 6 5,zA 7 (.bin .lss (.t 4) (.t 6))] [0,3,7]) (.cond (.t 7) .skip (.exit 0))) (.seq (.block 1 (.seq (.jW [(zM 10 0,[]),(zM 11 3,[]),(qD 12 1 10 11,[0,1]),(qF 13 1 12,[0,1,2]),(q1 14 68 13,[0,1,2,3]),(qO 15 14,[0,1,2,3,4]),(zM 16 15,[0,1,2,3,4,5]),(zG 16 false 17 (.mv (.t 3)),[0,1,2,3,4,5,6]),(zG 16 false 18 (.bin .gtr (.t 17) (kI 0)),[0,1,2,3,4,5,6,7]),(zG 16 false 19 (.mv (.t 18)),[0,1,2,3,4,5,6,7,8]),(zG 19 true 20 (.mv (.t 0)),[0,1,2,3,4,5,6,7,8,9]),(zG 19 true 21 (.mv (.t 3)),[0,1,2,3,4,5,6,7,8,9]),(zG 19 true 22 (.mW 1 (.t 20) (.t 21)),[0,1,2,3,4,5,6,7,8,9,10,11]),(zG 19 true 23 (.load false 1 (.t 22)),[0,1,2,3,4,5,6,7,8,9,10,11,12]),(zG 19 true 24 (.mv (.t 0)),[0,1,2,3,4,5,6,7,8,9]),(zG 19 true 25 (.mv (.t 3)),[0,1,2,3,4,5,6,7,8,9]),(zG 19 true 26 (.bin .sub (.t 25) (kI 1)),[0,1,2,3,4,5,6,7,8,9,15]),(zG 19 true 27 (.mW 1 (.t 24) (.t 26)),[0,1,2,3,4,5,6,7,8,9,14,15,16]),(zG 19 true 28 (.load false 1 (.t 27)),[0,1,2,3,4,5,6,7,8,9,14,15,16,17]),(zG 19 true 29 (.bin .leq (.t 23) (.t 28)),[0,1,2,3,4,5,6,7,8,9,10,11,12,13,14,15,16,17,18]),(zG 16 false 30 (.pick (.t 19) (.t 29) (kB false)),[0,1,2,3,4,5,6,7,8,9,10,11,12,13,14,15,16,17,18,19]),(qQ 31 16 30,[0,1,2,3,4,5,6,7,8,9,10,11,12,13,14,15,16,17,18,19,20])] [0,3,31]) (.cond (.t 31) (.seq (.reg [qB 2 false] [2]) .ret) .skip))) (.reg [zM 8 3,zA 9 (.bin .add (.t 8) (kI 1)),zM 3 9] [0,3])))))) (.seq (.reg [qB 2 true] [2]) .ret)))
theorem K.fM:fQ pZ 70 1 0 C.fM [.tmp 2]=true:=by kernel_rfl
def C.gV:bf:=(.seq (.reg [qX 2 10 0,qB 4 false] [1,2]) (.seq (.seq (.reg [qI 5 0] [1,2,5]) (.block 0 (.loop (.seq (.seq (.reg [zM 6 5,qA 7 4 2,qF 8 1 7,qL 9 8,zA 10 (.bin .lss (.t 6) (.t 9))] [1,2,5,10]) (.cond (.t 10) .skip (.exit 0))) (.seq (.block 1 (.seq (.reg [qA 13 4 2,qF 14 1 13,zM 15 5,qD 16 5 14 15,qT 17 5 16,zM 18 1,zA 19 (.bin .sub (.t 18) (kI 1)),q2 20 39 17 19,qO 21 20] [1,2,5,21]) (.cond (.t 21) (.seq (.reg [qB 4 false] [4]) .ret) .skip))) (.reg [zM 11 5,zA 12 (.bin .add (.t 11) (kI 1)),zM 5 12] [1,2,5])))))) (.seq (.reg [qB 4 true] [4]) .ret)))
theorem K.gV:fQ pZ 69 2 0 C.gV [.tmp 4]=true:=by kernel_rfl
def C.bT:bf:=(.seq (.reg [qX 2 10 0,qB 4 false] [1,2]) (.cut (.seq (.reg [zM 5 1,zA 6 (.bin .eql (.t 5) (kI 0)),zM 7 6,zG 7 false 8 (.eu 4 (.t 2)),zG 7 false 9 (.load false 1 (.t 8)),zG 7 false 10 (.len (.t 9)),zG 7 false 11 (.bin .gtr (.t 10) (kI 6)),qQ 12 7 11,zM 13 12,zG 13 false 14 (.eu 0 (.t 2)),zG 13 false 15 (.load false 1 (.t 14)),zG 13 false 16 (.bin .neq (.t 15) (kI 1)),zG 13 false 17 (.mv (.t 16)),zG 17 true 18 (.eu 1 (.t 2)),zG 17 true 19 (.load false 1 (.t 18)),zG 17 true 20 (.bin .neq (.t 19) (kI 0)),zG 13 false 21 (.pick (.t 17) (.t 20) (kB false)),qQ 22 13 21,zM 23 22,zG 23 false 24 (.eu 0 (.t 2)),zG 23 false 25 (.load false 1 (.t 24)),zG 23 false 26 (.bin .neq (.t 25) (kI 2)),zG 23 false 27 (.mv (.t 26)),zG 27 true 28 (.eu 2 (.t 2)),zG 27 true 29 (.load false 1 (.t 28)),zG 27 true 30 (.bin .neq (.t 29) (.k (.c (.str [])))),zG 23 false 31 (.pick (.t 27) (.t 30) (kB false)),qQ 32 23 31,zM 33 32,zG 33 false 34 (.eu 0 (.t 2)),zG 33 false 35 (.load false 1 (.t 34)),zG 33 false 36 (.bin .neq (.t 35) (kI 4)),zG 33 false 37 (.mv (.t 36)),zG 37 true 38 (.eu 3 (.t 2)),zG 37 true 39 (.load false 1 (.t 38)),zG 37 true 40 (.len (.t 39)),zG 37 true 41 (.bin .gtr (.t 40) (kI 0)),zG 33 false 42 (.pick (.t 37) (.t 41) (kB false)),qQ 43 33 42,zM 44 43,zG 44 false 45 (.eu 0 (.t 2)),zG 44 false 46 (.load false 1 (.t 45)),zG 44 false 47 (.bin .lss (.t 46) (kI 3)),zG 44 false 48 (.mv (.t 47)),zG 48 true 49 (.eu 4 (.t 2)),zG 48 true 50 (.load false 1 (.t 49)),zG 48 true 51 (.len (.t 50)),zG 48 true 52 (.bin .gtr (.t 51) (kI 0)),zG 44 false 53 (.pick (.t 48) (.t 52) (kB false)),qQ 54 44 53] [1,2,54]) (.cond (.t 54) (.seq (.reg [qB 4 false] [4]) .ret) .skip)) (.seq (.seq (.reg [qA 55 0 2,qF 56 1 55] [1,2,56]) (.block 0 (.seq (.reg [zA 58 (.bin .eql (.t 56) (kI 1)),zM 57 58] [1,2,56,57]) (.cond (.t 57) (.seq (.reg [qA 59 1 2,qF 60 1 59,⟨none,some 61,.call 35 [.t 60,kI (-999999),kI 999999]⟩,zM 4 61] [4]) .ret) (.seq (.reg [zA 63 (.bin .eql (.t 56) (kI 2)),zM 62 63] [1,2,56,62]) (.cond (.t 62) (.seq (.reg [qA 64 2 2,qF 65 1 64,q1 66 68 65,zM 4 66] [4]) .ret) (.seq (.reg [zA 68 (.bin .eql (.t 56) (kI 3)),zM 67 68] [1,2,56,67]) (.cond (.t 67) (.seq (.reg [qT 69 5 2,zM 70 1,q2 71 69 69 70,zM 4 71] [4]) .ret) (.seq (.reg [zA 73 (.bin .eql (.t 56) (kI 4)),zM 72 73] [1,2,72]) (.cond (.t 72) (.seq (.reg [qA 74 3 2,qF 75 1 74,qL 76 75,qA 77 4 2,qF 78 1 77,qL 79 78,zA 80 (.bin .eql (.t 76) (.t 79)),zM 81 80,zG 81 true 82 (.eu 3 (.t 2)),zG 81 true 83 (.load false 1 (.t 82)),⟨(some (81,true)),some 84,.call 70 [.t 83]⟩,qP 85 81 84,zM 86 85,zG 86 true 87 (.load true 5 (.t 2)),zG 86 true 88 (.mv (.t 1)),⟨(some (86,true)),some 89,.call 69 [.t 87,.t 88]⟩,qP 90 86 89,zM 4 90] [4]) .ret) .skip)))))))))) (.seq (.reg [qA 91 0 2,qF 92 1 91,zA 93 (.bin .eql (.t 92) (kI 0)),zM 4 93] [4]) .ret))))
theorem K.bT:fQ pZ 39 2 0 C.bT [.tmp 4]=true:=by kernel_rfl
def C.aS:bf:=(.seq (.reg [qX 1 10 0,qB 2 false] [1]) (.seq (.reg [qT 3 5 1,⟨none,some 4,.call 39 [.t 3,kI 5]⟩,zM 5 4,zG 5 true 6 (.load true 5 (.t 1)),⟨(some (5,true)),some 7,.call 40 [.t 6]⟩,zG 5 true 8 (.bin .leq (.t 7) (kI 40)),qP 9 5 8,zM 2 9] [2]) .ret))
theorem K.aS:fQ pZ 18 1 0 C.aS [.tmp 2]=true:=by kernel_rfl
def C.bM:bf:=(.seq (.reg [qZ 2 10] [0,2]) (.seq (.reg [zM 4 0,⟨none,some 5,.call 84 [.t 4,kI 3]⟩,qZ 3 11,qS 5 3 5] [0,2,3]) (.cut (.seq (.reg [zM 6 0,⟨none,some 7,.call 26 [.t 6,kI 3]⟩,zA 8 (.bin .gtr (.t 7) (kI 0))] [0,2,3,8]) (.cond (.t 8) (.reg [zM 9 0,⟨none,some 10,.call 85 [.t 9,kI 3]⟩,qS 5 3 10] [2,3]) .skip)) (.seq (.seq (.reg [qT 11 5 3,q1 12 18 11,qO 13 12] [2,3,13]) (.cond (.t 13) (.seq (.reg [zA 14 (.build zN []),qS 5 2 14] [2]) .ret) .skip)) (.seq (.reg [qT 15 5 3,qS 5 2 15] [2]) .ret)))))
theorem K.bM:fQ pZ 56 1 1 C.bM [.cell 2 true 5]=true:=by kernel_rfl
def C.fF:bf:=(.seq (.reg [qZ 2 10] [0,2]) (.seq (.reg [zM 6 0,q1 7 56 6,qZ 3 11,qS 5 3 7] [0,2,3]) (.seq (.seq (.reg [zM 8 0,⟨none,some 9,.call 26 [.t 8,kI 40]⟩] [0,2,3,9]) (.block 0 (.seq (.reg [zA 11 (.bin .eql (.t 9) (kI 0)),zM 10 11] [0,2,3,9,10]) (.cond (.t 10) (.reg [zM 12 0,zA 13 (.bJ 12 1 4 [.lit (.int .i64 0)] [(0,kI (-1)),(1,kI 5),(2,kI 0),(3,kI 3)]),q2 14 51 12 13,qA 15 0 3,qU 1 15 14] [2,3]) (.seq (.reg [zA 17 (.bin .eql (.t 9) (kI 1)),zM 16 17] [0,2,3,9,16]) (.cond (.t 16) (.reg [zM 18 0,zA 19 (.bJ 13 1 2 [.lit (.int .i64 0)] [(0,kI 1),(1,kI 1000000)]),q2 20 51 18 19,qA 21 1 3,qU 1 21 20] [2,3]) (.seq (.reg [zA 23 (.bin .eql (.t 9) (kI 2)),zM 22 23] [0,2,3,9,22]) (.cond (.t 22) (.reg [qA 24 2 3,zS (.store false 1 (.t 24) (.k (.c (.str [97,98,99,100,101,102,103,104,105,106,107,108,109]))))] [2,3]) (.seq (.reg [zA 26 (.bin .eql (.t 9) (kI 3)),zM 25 26] [0,2,3,9,25]) (.cond (.t 25) (.reg [qA 27 3 3,qF 28 1 27,zA 29 (.bJ 14 1 1 [.str []] [(0,.k (.c (.str [])))]),zA 30 (.append 15 1 16 (.t 28) (.t 29)),qA 31 3 3,qU 1 31 30] [2,3]) (.seq (.reg [zA 33 (.bin .eql (.t 9) (kI 4)),zM 32 33] [0,2,3,9,32]) (.cond (.t 32) (.reg [qT 34 5 3,zA 35 (.bJ 16 5 1 [.lit (.int .i64 0),.lit (.int .i64 0),.str [],.sl 1 [],.sl 5 []] [(0,.t 34)]),zA 36 (.build zN [(0,1,kI 3),(4,1,.t 35)]),zA 37 (.bJ 17 5 1 [.lit (.int .i64 0),.lit (.int .i64 0),.str [],.sl 1 [],.sl 5 []] [(0,.t 36)]),zA 38 (.build zN [(0,1,kI 3),(4,1,.t 37)]),zA 39 (.bJ 18 5 1 [.lit (.int .i64 0),.lit (.int .i64 0),.str [],.sl 1 [],.sl 5 []] [(0,.t 38)]),zA 40 (.build zN [(0,1,kI 3),(4,1,.t 39)]),zA 41 (.bJ 19 5 1 [.lit (.int .i64 0),.lit (.int .i64 0),.str [],.sl 1 [],.sl 5 []] [(0,.t 40)]),zA 42 (.build zN [(0,1,kI 3),(4,1,.t 41)]),qS 5 3 42] [2,3]) (.seq (.reg [zA 44 (.bin .eql (.t 9) (kI 5)),zM 43 44] [0,2,3,43]) (.cond (.t 43) (.seq (.reg [zA 45 (.bJ 20 5 0 [.lit (.int .i64 0),.lit (.int .i64 0),.str [],.sl 1 [],.sl 5 []] []),zM 4 45] [0,2,3,4]) (.seq (.seq (.reg [qI 5 0] [0,2,3,4,5]) (.block 1 (.loop (.seq (.seq (.reg [zM 46 5,zM 47 0,⟨none,some 48,.call 26 [.t 47,kI 2]⟩,zA 49 (.bin .add (kI 6) (.t 48)),zA 50 (.bin .lss (.t 46) (.t 49))] [0,2,3,4,5,50]) (.cond (.t 50) .skip (.exit 1))) (.seq (.block 2 (.reg [zM 53 4,qT 54 5 3,q1 55 44 54,zA 56 (.bJ 21 5 1 [.lit (.int .i64 0),.lit (.int .i64 0),.str [],.sl 1 [],.sl 5 []] [(0,.t 55)]),zA 57 (.append 22 5 80 (.t 53) (.t 56)),zM 4 57] [0,2,3,4,5])) (.reg [zM 51 5,zA 52 (.bin .add (.t 51) (kI 1)),zM 5 52] [0,2,3,4,5])))))) (.reg [zM 58 4,zA 59 (.build zN [(0,1,kI 3),(4,1,.t 58)]),qS 5 3 59] [2,3]))) .skip)))))))))))))) (.seq (.reg [qT 60 5 3,qS 5 2 60] [2]) .ret))))
theorem K.fF:fQ pZ 53 1 1 C.fF [.cell 2 true 5]=true:=by kernel_rfl
def C.gW:bf:=(.seq (.reg [zA 2 (.mv (.k (.c (.str []))))] [0]) (.seq (.reg [zM 3 0,zA 4 (.bJ 10 1 5 [.str []] [(0,.k (.c (.str []))),(1,.k (.c (.str [65]))),(2,.k (.c (.str [97,98,99,100,101,102,103,104,105]))),(3,.k (.c (.str [97,32,98]))),(4,.k (.c (.str [97])))]),q2 5 81 3 4,zM 2 5] [2]) .ret))
theorem K.gW:fQ pZ 52 1 1 C.gW [.tmp 2]=true:=by kernel_rfl
def C.bP:bf:=(.seq (.reg [qX 1 10 0,zA 2 (.alloc 11 [.fH 7,jP 0])] [1,2]) (.seq (.reg [zA 5 (.bJ 12 7 0 [.str [],.lit (.int .i64 0),.lit (.int .i64 0),.lit (.int .i64 0),.str [],.sl 1 [],.sl 5 []] []),zM 3 5] [1,2,3]) (.seq (.seq (.reg [qI 4 0] [1,2,3,4]) (.block 0 (.loop (.seq (.seq (.reg [zM 6 4,qA 7 0 1,qF 8 1 7,qL 9 8,zA 10 (.bin .lss (.t 6) (.t 9))] [1,2,3,4,10]) (.cond (.t 10) .skip (.exit 0))) (.seq (.block 1 (.jW [(zM 13 3,[]),(qA 14 0 1,[]),(qF 15 1 14,[1]),(zM 16 4,[]),(qD 17 7 15 16,[1,2,3]),(qA 18 0 17,[1,2,3,4]),(qF 19 1 18,[1,2,3,4,5]),(qA 20 0 1,[]),(qF 21 1 20,[7]),(zM 22 4,[]),(qD 23 7 21 22,[7,8,9]),(qA 24 1 23,[7,8,9,10]),(qF 25 1 24,[7,8,9,10,11]),(qA 26 0 1,[]),(qF 27 1 26,[13]),(zM 28 4,[]),(qD 29 7 27 28,[13,14,15]),(qA 30 2 29,[13,14,15,16]),(qT 31 5 30,[13,14,15,16,17]),(q1 32 44 31,[13,14,15,16,17,18]),(zA 33 (.build [.c (.str []),jP 0,jP 0,jP 0,.c (.str []),.fH 1,.fH 5] [(0,1,.t 19),(1,1,.t 25),(2,5,.t 32)]),[1,2,3,4,5,6,7,8,9,10,11,12,13,14,15,16,17,18,19]),(zA 34 (.bJ 13 7 1 [.str [],.lit (.int .i64 0),.lit (.int .i64 0),.lit (.int .i64 0),.str [],.sl 1 [],.sl 5 []] [(0,.t 33)]),[1,2,3,4,5,6,7,8,9,10,11,12,13,14,15,16,17,18,19,20]),(zA 35 (.append 14 7 104 (.t 13) (.t 34)),[0,1,2,3,4,5,6,7,8,9,10,11,12,13,14,15,16,17,18,19,20,21]),(zM 3 35,[0,1,2,3,4,5,6,7,8,9,10,11,12,13,14,15,16,17,18,19,20,21,22])] [1,2,3,4])) (.reg [zM 11 4,zA 12 (.bin .add (.t 11) (kI 1)),zM 4 12] [1,2,3,4])))))) (.seq (.reg [zM 36 3,qA 37 1 1,qF 38 1 37,zA 39 (.build [.fH 7,jP 0] [(0,1,.t 36),(1,1,.t 38)]),qS 2 2 39] [2]) .ret))))
theorem K.bP:fQ pZ 96 1 0 C.bP [.cell 2 true 2]=true:=by kernel_rfl
def C.gq:bf:=(.seq (.reg [qX 2 10 0,qI 4 0] [1,2]) (.seq (.seq (.reg [qI 5 0] [1,2,5]) (.block 0 (.loop (.seq (.seq (.reg [zM 6 5,qA 7 0 2,qF 8 1 7,qL 9 8,zA 10 (.bin .lss (.t 6) (.t 9))] [1,2,5,10]) (.cond (.t 10) .skip (.exit 0))) (.seq (.block 1 (.seq (.reg [qA 13 0 2,qF 14 1 13,zM 15 5,qD 16 7 14 15,qA 17 0 16,qF 18 1 17,zM 19 1,zA 20 (.bin .eql (.t 18) (.t 19))] [1,2,5,20]) (.cond (.t 20) (.seq (.reg [zM 21 5,zM 4 21] [4]) .ret) .skip))) (.reg [zM 11 5,zA 12 (.bin .add (.t 11) (kI 1)),zM 5 12] [1,2,5])))))) (.seq (.reg [qI 4 (-1)] [4]) .ret)))
theorem K.gq:fQ pZ 86 2 0 C.gq [.tmp 4]=true:=by kernel_rfl
def C.bD:bf:=(.seq (.reg [qB 2 false] [0]) (.seq (.seq (.reg [qI 3 0] [0,3]) (.block 0 (.loop (.seq (.seq (.reg [zM 4 3,zM 5 0,zA 6 (.lens (.t 5)),zA 7 (.bin .lss (.t 4) (.t 6))] [0,3,7]) (.cond (.t 7) .skip (.exit 0))) (.seq (.block 1 (.seq (.reg [zM 10 0,zM 11 3,zA 12 (.idxs (.t 10) (.t 11)),zA 13 (.uj .i64 (.t 12)),⟨none,some 14,.call 35 [.t 13,kI 97,kI 122]⟩,qO 15 14,zM 16 15,zG 16 true 17 (.mv (.t 0)),zG 16 true 18 (.mv (.t 3)),zG 16 true 19 (.idxs (.t 17) (.t 18)),zG 16 true 20 (.uj .i64 (.t 19)),⟨(some (16,true)),some 21,.call 35 [.t 20,kI 48,kI 57]⟩,zG 16 true 22 (.not (.t 21)),qP 23 16 22] [0,3,23]) (.cond (.t 23) (.seq (.reg [qB 2 false] [2]) .ret) .skip))) (.reg [zM 8 3,zA 9 (.bin .add (.t 8) (kI 1)),zM 3 9] [0,3])))))) (.seq (.reg [zM 24 0,zA 25 (.lens (.t 24)),⟨none,some 26,.call 35 [.t 25,kI 1,kI 8]⟩,zM 2 26] [2]) .ret)))
theorem K.bD:fQ pZ 36 1 0 C.bD [.tmp 2]=true:=by kernel_rfl
def C.aY:bf:=(.seq (.reg [qX 1 10 0,qB 2 false] [1]) (.seq (.seq (.reg [qI 3 0] [1,3]) (.block 0 (.loop (.seq (.seq (.reg [zM 5 3,qA 6 0 1,qF 7 1 6,qL 8 7,zA 9 (.bin .lss (.t 5) (.t 8))] [1,3,9]) (.cond (.t 9) .skip (.exit 0))) (.seq (.block 1 (.seq (.reg [qA 12 0 1,qF 13 1 12,zM 14 3,qD 15 7 13 14,qT 16 7 15,zA 4 (.alloc 11 [.c (.str []),jP 0,jP 0,jP 0,.c (.str []),.fH 1,.fH 5]),qS 7 4 16] [1,3,4]) (.seq (.jW [(qA 17 0 4,[]),(qF 18 1 17,[0]),(q1 19 36 18,[0,1]),(qO 20 19,[0,1,2]),(zM 21 20,[0,1,2,3]),(zG 21 false 22 (.eu 2 (.t 4)),[0,1,2,3,4]),(zG 21 false 23 (.load true 5 (.t 22)),[0,1,2,3,4,5]),(⟨(some (21,false)),some 24,.call 18 [.t 23]⟩,[0,1,2,3,4,5,6]),(zG 21 false 25 (.not (.t 24)),[0,1,2,3,4,5,6,7]),(qQ 26 21 25,[0,1,2,3,4,5,6,7,8]),(zM 27 26,[0,1,2,3,4,5,6,7,8,9]),(zG 27 false 28 (.eu 1 (.t 4)),[0,1,2,3,4,5,6,7,8,9,10]),(zG 27 false 29 (.load false 1 (.t 28)),[0,1,2,3,4,5,6,7,8,9,10,11]),(zG 27 false 30 (.eu 1 (.t 1)),[0,1,2,3,4,5,6,7,8,9,10]),(zG 27 false 31 (.load false 1 (.t 30)),[0,1,2,3,4,5,6,7,8,9,10,13]),(⟨(some (27,false)),some 32,.call 35 [.t 29,kI 1,.t 31]⟩,[0,1,2,3,4,5,6,7,8,9,10,11,12,13,14]),(zG 27 false 33 (.not (.t 32)),[0,1,2,3,4,5,6,7,8,9,10,11,12,13,14,15]),(qQ 34 27 33,[0,1,2,3,4,5,6,7,8,9,10,11,12,13,14,15,16]),(zM 35 34,[0,1,2,3,4,5,6,7,8,9,10,11,12,13,14,15,16,17]),(zG 35 false 36 (.mv (.t 3)),[0,1,2,3,4,5,6,7,8,9,10,11,12,13,14,15,16,17,18]),(zG 35 false 37 (.bin .gtr (.t 36) (kI 0)),[0,1,2,3,4,5,6,7,8,9,10,11,12,13,14,15,16,17,18,19]),(zG 35 false 38 (.mv (.t 37)),[0,1,2,3,4,5,6,7,8,9,10,11,12,13,14,15,16,17,18,19,20]),(zG 38 true 39 (.eu 0 (.t 4)),[0,1,2,3,4,5,6,7,8,9,10,11,12,13,14,15,16,17,18,19,20,21]),(zG 38 true 40 (.load false 1 (.t 39)),[0,1,2,3,4,5,6,7,8,9,10,11,12,13,14,15,16,17,18,19,20,21,22]),(zG 38 true 41 (.eu 0 (.t 1)),[0,1,2,3,4,5,6,7,8,9,10,11,12,13,14,15,16,17,18,19,20,21]),(zG 38 true 42 (.load false 1 (.t 41)),[0,1,2,3,4,5,6,7,8,9,10,11,12,13,14,15,16,17,18,19,20,21,24]),(zG 38 true 43 (.mv (.t 3)),[0,1,2,3,4,5,6,7,8,9,10,11,12,13,14,15,16,17,18,19,20,21]),(zG 38 true 44 (.bin .sub (.t 43) (kI 1)),[0,1,2,3,4,5,6,7,8,9,10,11,12,13,14,15,16,17,18,19,20,21,26]),(zG 38 true 45 (.mW 7 (.t 42) (.t 44)),[0,1,2,3,4,5,6,7,8,9,10,11,12,13,14,15,16,17,18,19,20,21,24,25,26,27]),(zG 38 true 46 (.eu 0 (.t 45)),[0,1,2,3,4,5,6,7,8,9,10,11,12,13,14,15,16,17,18,19,20,21,24,25,26,27,28]),(zG 38 true 47 (.load false 1 (.t 46)),[0,1,2,3,4,5,6,7,8,9,10,11,12,13,14,15,16,17,18,19,20,21,24,25,26,27,28,29]),(zG 38 true 48 (.bin .leq (.t 40) (.t 47)),[0,1,2,3,4,5,6,7,8,9,10,11,12,13,14,15,16,17,18,19,20,21,22,23,24,25,26,27,28,29,30]),(zG 35 false 49 (.pick (.t 38) (.t 48) (kB false)),[0,1,2,3,4,5,6,7,8,9,10,11,12,13,14,15,16,17,18,19,20,21,22,23,24,25,26,27,28,29,30,31]),(qQ 50 35 49,[0,1,2,3,4,5,6,7,8,9,10,11,12,13,14,15,16,17,18,19,20,21,22,23,24,25,26,27,28,29,30,31,32])] [1,3,50]) (.cond (.t 50) (.seq (.reg [qB 2 false] [2]) .ret) .skip)))) (.reg [zM 10 3,zA 11 (.bin .add (.t 10) (kI 1)),zM 3 11] [1,3])))))) (.seq (.reg [qA 51 0 1,qF 52 1 51,qL 53 52,zA 54 (.bin .leq (.t 53) (kI 10)),zM 55 54,zG 55 true 56 (.eu 1 (.t 1)),zG 55 true 57 (.load false 1 (.t 56)),⟨(some (55,true)),some 58,.call 35 [.t 57,kI 0,kI 999]⟩,qP 59 55 58,zM 2 59] [2]) .ret)))
theorem K.aY:fQ pZ 82 1 0 C.aY [.tmp 2]=true:=by kernel_rfl
def C.iI:bf:=(.seq (.reg [qX 2 10 0,zA 4 (.alloc 11 [.c (.str []),jP 0,jP 0,jP 0,.c (.str []),.fH 1,.fH 5]),qB 5 false] [1,2,4]) (.seq (.seq (.reg [qT 6 2 2,q1 7 82 6,qO 8 7,zM 9 8,zG 9 false 10 (.load true 2 (.t 2)),zG 9 false 11 (.mv (.t 1)),⟨(some (9,false)),some 12,.call 86 [.t 10,.t 11]⟩,zG 9 false 13 (.bin .lss (.t 12) (kI 0)),qQ 14 9 13] [1,2,4,14]) (.cond (.t 14) (.seq (.reg [zA 15 (.build [.c (.str []),jP 0,jP 0,jP 0,.c (.str []),.fH 1,.fH 5] []),qS 7 4 15,qB 5 false] [4,5]) .ret) .skip)) (.seq (.jW [(qT 16 2 2,[]),(q1 17 96 16,[0]),(zA 18 (.field false 0 1 (.t 17)),[0,1]),(qT 19 2 2,[]),(zM 20 1,[]),(q2 21 86 19 20,[0,1,3,4]),(qD 22 7 18 21,[0,1,2,3,4,5]),(qT 23 7 22,[0,1,2,3,4,5,6]),(qS 7 4 23,[0,1,2,3,4,5,6,7]),(qB 5 true,[0,1,2,3,4,5,6,7,8])] [4,5]) .ret)))
theorem K.iI:fQ pZ 76 2 0 C.iI [.cell 4 true 7,.tmp 5]=true:=by kernel_rfl
def C.eU:bf:=(.seq (.reg [zA 2 (.mv (.k (.c (.str []))))] [0]) (.seq (.reg [zA 3 (.mv (.k (.c (.str [34]))))] [0,3]) (.seq (.seq (.reg [qI 4 0] [0,3,4]) (.block 0 (.loop (.seq (.seq (.reg [zM 5 4,zM 6 0,zA 7 (.lens (.t 6)),zA 8 (.bin .lss (.t 5) (.t 7))] [0,3,4,8]) (.cond (.t 8) .skip (.exit 0))) (.seq (.block 1 (.seq (.seq (.reg [zM 11 0,zM 12 4,zA 13 (.idxs (.t 11) (.t 12)),zA 14 (.bin .eql (.t 13) (.k (.c (.lit (.int .u8 34))))),zM 15 14,zG 15 false 16 (.mv (.t 0)),zG 15 false 17 (.mv (.t 4)),zG 15 false 18 (.idxs (.t 16) (.t 17)),zG 15 false 19 (.bin .eql (.t 18) (.k (.c (.lit (.int .u8 92))))),qQ 20 15 19] [0,3,4,20]) (.cond (.t 20) (.reg [zM 21 3,zA 22 (.bin .add (.t 21) (.k (.c (.str [92])))),zM 3 22] [0,3,4]) .skip)) (.reg [zM 23 3,zM 24 0,zM 25 4,zM 26 4,zA 27 (.bin .add (.t 26) (kI 1)),zA 28 (.zY (.t 24) (some (.t 25)) (some (.t 27))),zA 29 (.bin .add (.t 23) (.t 28)),zM 3 29] [0,3,4]))) (.reg [zM 9 4,zA 10 (.bin .add (.t 9) (kI 1)),zM 4 10] [0,3,4])))))) (.seq (.reg [zM 30 3,zA 31 (.bin .add (.t 30) (.k (.c (.str [34])))),zM 2 31] [2]) .ret))))
theorem K.eU:fQ pZ 72 1 0 C.eU [.tmp 2]=true:=by kernel_rfl
def C.aP:bf:=(.seq (.reg [qX 1 10 0,zA 2 (.mv (.k (.c (.str []))))] [1]) (.seq (.reg [zA 3 (.mv (.k (.c (.str []))))] [1,3]) (.seq (.seq (.reg [qA 5 0 1,qF 6 1 5] [1,3,6]) (.block 0 (.seq (.reg [zA 8 (.bin .eql (.t 6) (kI 1)),zM 7 8] [1,3,6,7]) (.cond (.t 7) (.seq (.reg [qA 9 1 1,qF 10 1 9,q1 11 71 10,zM 2 11] [2]) .ret) (.seq (.reg [zA 13 (.bin .eql (.t 6) (kI 2)),zM 12 13] [1,3,6,12]) (.cond (.t 12) (.seq (.reg [qA 14 2 1,qF 15 1 14,q1 16 72 15,zM 2 16] [2]) .ret) (.seq (.reg [zA 18 (.bin .eql (.t 6) (kI 0)),zM 17 18] [1,3,17]) (.cond (.t 17) (.seq (.reg [zA 2 (.mv (.k (.c (.str [110,117,108,108]))))] [2]) .ret) .skip)))))))) (.seq (.seq (.reg [qI 4 0] [1,3,4]) (.block 1 (.loop (.seq (.seq (.reg [zM 19 4,qA 20 4 1,qF 21 1 20,qL 22 21,zA 23 (.bin .lss (.t 19) (.t 22))] [1,3,4,23]) (.cond (.t 23) .skip (.exit 1))) (.seq (.block 2 (.cut (.seq (.reg [zM 26 4,zA 27 (.bin .gtr (.t 26) (kI 0))] [1,3,4,27]) (.cond (.t 27) (.reg [zM 28 3,zA 29 (.bin .add (.t 28) (.k (.c (.str [44])))),zM 3 29] [1,3,4]) .skip)) (.cut (.seq (.reg [qA 30 0 1,qF 31 1 30,zA 32 (.bin .eql (.t 31) (kI 4))] [1,3,4,32]) (.cond (.t 32) (.reg [zM 33 3,qA 34 3 1,qF 35 1 34,zM 36 4,qD 37 1 35 36,qF 38 1 37,q1 39 72 38,zA 40 (.bin .add (.t 33) (.t 39)),zA 41 (.bin .add (.t 40) (.k (.c (.str [58])))),zM 3 41] [1,3,4]) .skip)) (.reg [zM 42 3,qA 43 4 1,qF 44 1 43,zM 45 4,qD 46 5 44 45,qT 47 5 46,q1 48 47 47,zA 49 (.bin .add (.t 42) (.t 48)),zM 3 49] [1,3,4])))) (.reg [zM 24 4,zA 25 (.bin .add (.t 24) (kI 1)),zM 4 25] [1,3,4])))))) (.seq (.seq (.reg [qA 50 0 1,qF 51 1 50,zA 52 (.bin .eql (.t 51) (kI 4))] [3,52]) (.cond (.t 52) (.seq (.reg [zM 53 3,zA 54 (.bin .add (.k (.c (.str [123]))) (.t 53)),zA 55 (.bin .add (.t 54) (.k (.c (.str [125])))),zM 2 55] [2]) .ret) .skip)) (.seq (.reg [zM 56 3,zA 57 (.bin .add (.k (.c (.str [91]))) (.t 56)),zA 58 (.bin .add (.t 57) (.k (.c (.str [93])))),zM 2 58] [2]) .ret))))))
theorem K.aP:fQ pZ 47 1 0 C.aP [.tmp 2]=true:=by kernel_rfl
def C.jT:bf:=(.seq (.reg [zA 2 (.mv (.k (.c (.str []))))] [0]) (.seq (.reg [zA 3 (.mv (.k (.c (.str [48,49,50,51,52,53,54,55,56,57,97,98,99,100,101,102]))))] [0,3]) (.seq (.jW [(zM 4 3,[]),(zM 5 0,[]),(zA 6 (.bin .quo (.t 5) (kI 4096)),[1]),(zA 7 (.idxs (.t 4) (.t 6)),[0,1,2]),(zM 8 3,[]),(zM 9 0,[]),(zA 10 (.bin .quo (.t 9) (kI 256)),[5]),(zA 11 (.bin .rem (.t 10) (kI 16)),[5,6]),(zA 12 (.idxs (.t 8) (.t 11)),[4,5,6,7]),(zM 13 3,[]),(zM 14 0,[]),(zA 15 (.bin .quo (.t 14) (kI 16)),[10]),(zA 16 (.bin .rem (.t 15) (kI 16)),[10,11]),(zA 17 (.idxs (.t 13) (.t 16)),[9,10,11,12]),(zM 18 3,[]),(zM 19 0,[]),(zA 20 (.bin .rem (.t 19) (kI 16)),[15]),(zA 21 (.idxs (.t 18) (.t 20)),[14,15,16]),(zA 22 (.bJ 10 1 4 [.lit (.int .u8 0)] [(0,.t 7),(1,.t 12),(2,.t 17),(3,.t 21)]),[0,1,2,3,4,5,6,7,8,9,10,11,12,13,14,15,16,17]),(zA 23 (.CY (.t 22)),[0,1,2,3,4,5,6,7,8,9,10,11,12,13,14,15,16,17,18]),(zM 2 23,[0,1,2,3,4,5,6,7,8,9,10,11,12,13,14,15,16,17,18,19])] [2]) .ret)))
theorem K.jT:fQ pZ 97 1 0 C.jT [.tmp 2]=true:=by kernel_rfl
def C.gz:bf:=(.seq (.reg [qI 2 0] [0]) (.seq (.reg [qI 3 17] [0,3]) (.seq (.seq (.reg [qI 4 0] [0,3,4]) (.block 0 (.loop (.seq (.seq (.reg [zM 5 4,zM 6 0,zA 7 (.lens (.t 6)),zA 8 (.bin .lss (.t 5) (.t 7))] [0,3,4,8]) (.cond (.t 8) .skip (.exit 0))) (.seq (.block 1 (.reg [zM 11 3,zA 12 (.bin .mul (kI 131) (.t 11)),zM 13 0,zM 14 4,zA 15 (.idxs (.t 13) (.t 14)),zA 16 (.uj .i64 (.t 15)),zA 17 (.bin .add (.t 12) (.t 16)),zA 18 (.bin .rem (.t 17) (kI 65521)),zM 3 18] [0,3,4])) (.reg [zM 9 4,zA 10 (.bin .add (.t 9) (kI 1)),zM 4 10] [0,3,4])))))) (.seq (.reg [zM 19 3,zM 2 19] [2]) .ret))))
theorem K.gz:fQ pZ 98 1 0 C.gz [.tmp 2]=true:=by kernel_rfl
def C.iR:bf:=(.seq (.reg [qX 1 10 0,zA 2 (.mv (.k (.c (.str []))))] [1]) (.seq (.seq (.reg [qT 3 5 1,q1 4 18 3,qO 5 4] [1,5]) (.cond (.t 5) (.seq (.reg [zA 2 (.mv (.k (.c (.str []))))] [2]) .ret) .skip)) (.seq (.reg [qT 6 5 1,q1 7 47 6,q1 8 98 7,q1 9 97 8,zM 2 9] [2]) .ret)))
theorem K.iR:fQ pZ 78 1 0 C.iR [.tmp 2]=true:=by kernel_rfl
def C.fB:bf:=(.seq (.reg [zA 4 (.mv (.k (.fH 1)))] [0,1]) (.seq (.reg [zA 7 (.bJ 10 1 0 [.str []] []),zM 5 7] [0,1,5]) (.seq (.seq (.reg [zM 8 0,zA 9 (.bJ 11 1 7 [.lit (.int .i64 0)] [(0,kI 0),(1,kI 1),(2,kI 0),(3,kI 2),(4,kI 0),(5,kI 4),(6,kI 5)]),q2 10 51 8 9,zM 6 10] [0,1,5,6]) (.block 0 (.loop (.seq (.seq (.reg [zM 11 6,zA 12 (.bin .gtr (.t 11) (kI 0))] [0,1,5,6,12]) (.cond (.t 12) .skip (.exit 0))) (.seq (.block 1 (.reg [zM 15 5,zM 16 0,zM 17 1,zM 18 1,zA 19 (.bJ 12 1 6 [.str []] [(0,.k (.c (.str [42]))),(1,.k (.c (.str [48,48,48,48]))),(2,.k (.c (.str [49,50,97,98]))),(3,.k (.c (.str [102,102,102,102]))),(4,.t 17),(5,.t 18)]),q2 20 81 16 19,zA 21 (.bJ 13 1 1 [.str []] [(0,.t 20)]),zA 22 (.append 14 1 16 (.t 15) (.t 21)),zM 5 22] [0,1,5,6])) (.reg [zM 13 6,zA 14 (.bin .sub (.t 13) (kI 1)),zM 6 14] [0,1,5,6])))))) (.seq (.seq (.reg [zM 23 5,qL 24 23,zA 25 (.bin .gtr (.t 24) (kI 0)),zM 26 25,zG 26 true 27 (.mv (.t 0)),⟨(some (26,true)),some 28,.call 26 [.t 27,kI 20]⟩,zG 26 true 29 (.bin .eql (.t 28) (kI 0)),qP 30 26 29] [0,5,30]) (.cond (.t 30) (.reg [zM 31 5,zM 32 0,zA 33 (.bJ 15 1 4 [.str []] [(0,.k (.c (.str []))),(1,.k (.c (.str [49,50,97,66]))),(2,.k (.c (.str [49,50,51]))),(3,.k (.c (.str [49,50,51,52,53])))]),q2 34 81 32 33,zA 35 (.mW 1 (.t 31) (kI 0)),qU 1 35 34] [5]) .skip)) (.seq (.reg [zM 36 5,zM 4 36] [4]) .ret)))))
theorem K.fB:fQ pZ 77 2 1 C.fB [.tmp 4]=true:=by kernel_rfl
def C.gm:bf:=(.seq (.reg [zA 2 (.mv (.k (.c (.str []))))] [0]) (.seq (.reg [zM 3 0,zA 4 (.bJ 10 1 10 [.str []] [(0,.k (.c (.str [97]))),(1,.k (.c (.str [98]))),(2,.k (.c (.str [100,111,99]))),(3,.k (.c (.str [122,122]))),(4,.k (.c (.str [97,49]))),(5,.k (.c (.str [109]))),(6,.k (.c (.str [120,57]))),(7,.k (.c (.str [98,111,111,107]))),(8,.k (.c (.str [97,98,99,100,101,102,103,104]))),(9,.k (.c (.str [113])))]),q2 5 81 3 4,zM 2 5] [2]) .ret))
theorem K.gm:fQ pZ 55 1 1 C.gm [.tmp 2]=true:=by kernel_rfl
def C.jk:bf:=(.seq (.reg [qX 3 10 1,zA 4 (.mv (.k (.c (.str []))))] [0,3]) (.seq (.seq (.reg [qA 5 0 3,qF 6 1 5,qL 7 6,zA 8 (.bin .gtr (.t 7) (kI 0)),zM 9 8,zG 9 true 10 (.mv (.t 0)),⟨(some (9,true)),some 11,.call 26 [.t 10,kI 4]⟩,zG 9 true 12 (.bin .gtr (.t 11) (kI 0)),qP 13 9 12] [0,3,13]) (.cond (.t 13) (.seq (.jW [(qA 14 0 3,[]),(qF 15 1 14,[0]),(zM 16 0,[]),(qA 17 0 3,[]),(qF 18 1 17,[3]),(qL 19 18,[3,4]),(q2 20 26 16 19,[2,3,4,5]),(qD 21 7 15 20,[0,1,2,3,4,5,6]),(qA 22 0 21,[0,1,2,3,4,5,6,7]),(qF 23 1 22,[0,1,2,3,4,5,6,7,8]),(zM 4 23,[0,1,2,3,4,5,6,7,8,9])] [4]) .ret) .skip)) (.seq (.seq (.reg [zM 24 0,⟨none,some 25,.call 26 [.t 24,kI 12]⟩,zA 26 (.bin .eql (.t 25) (kI 0))] [0,26]) (.cond (.t 26) (.seq (.reg [zM 27 0,q1 28 52 27,zM 4 28] [4]) .ret) .skip)) (.seq (.reg [zM 29 0,q1 30 55 29,zM 4 30] [4]) .ret))))
theorem K.jk:fQ pZ 75 2 1 C.jk [.tmp 4]=true:=by kernel_rfl
def C.iC:bf:=(.seq (.reg [qX 2 10 0,qZ 4 11,qB 5 false] [1,2,4]) (.seq (.seq (.reg [qI 6 0] [1,2,4,6]) (.block 0 (.loop (.seq (.seq (.reg [zM 8 6,zM 9 1,qL 10 9,zA 11 (.bin .lss (.t 8) (.t 10))] [1,2,4,6,11]) (.cond (.t 11) .skip (.exit 0))) (.seq (.block 1 (.seq (.jW [(qT 14 5 2,[]),(zM 15 1,[]),(zM 16 6,[]),(qD 17 1 15 16,[1,2]),(qF 18 1 17,[1,2,3]),(q2 19 107 14 18,[0,1,2,3,4]),(zM 7 19,[0,1,2,3,4,5])] [1,2,4,6,7]) (.seq (.seq (.reg [zM 20 7,zA 21 (.bin .lss (.t 20) (kI 0))] [1,2,4,6,7,21]) (.cond (.t 21) (.seq (.reg [zA 22 (.build zN []),qS 5 4 22,qB 5 false] [4,5]) .ret) .skip)) (.reg [qA 23 4 2,qF 24 1 23,zM 25 7,qD 26 5 24 25,qT 27 5 26,qS 5 2 27] [1,2,4,6])))) (.reg [zM 12 6,zA 13 (.bin .add (.t 12) (kI 1)),zM 6 13] [1,2,4,6])))))) (.seq (.reg [qT 28 5 2,q1 29 44 28,qS 5 4 29,qB 5 true] [4,5]) .ret)))
theorem K.iC:fQ pZ 104 2 0 C.iC [.cell 4 true 5,.tmp 5]=true:=by kernel_rfl
def C.fP:bf:=(.seq (.reg [qX 3 10 0,qX 5 11 2,qZ 6 12,qB 7 false] [1,3,5,6]) (.seq (.seq (.reg [zM 11 1,qL 12 11,zA 13 (.bin .eql (.t 12) (kI 0))] [1,3,5,6,13]) (.cond (.t 13) (.seq (.reg [qT 14 5 5,q1 15 44 14,qS 5 6 15,qB 7 true] [6,7]) .ret) .skip)) (.seq (.jW [(qT 16 5 3,[]),(zM 17 1,[]),(zA 18 (.mW 1 (.t 17) (kI 0)),[1]),(qF 19 1 18,[1,2]),(q2 20 107 16 19,[0,1,2,3]),(zM 8 20,[0,1,2,3,4])] [1,3,5,6,8]) (.seq (.seq (.reg [zM 21 8,zA 22 (.bin .lss (.t 21) (kI 0))] [1,3,5,6,8,22]) (.cond (.t 22) (.seq (.reg [zA 23 (.build zN []),qS 5 6 23,qB 7 false] [6,7]) .ret) .skip)) (.seq (.jW [(qA 25 4 3,[]),(qF 26 1 25,[0]),(zM 27 8,[]),(qD 28 5 26 27,[0,1,2]),(qT 29 5 28,[0,1,2,3]),(zM 30 1,[]),(zA 31 (.oO 1 (.t 30) (some (kI 1)) none),[5]),(qT 32 5 5,[]),(q3 33 102 29 31 32,[0,1,2,3,4,5,6,7]),(zM 24 33,[0,1,2,3,4,5,6,7,8]),(qE 34 24 0,[0,1,2,3,4,5,6,7,8,9]),(qE 35 24 1,[0,1,2,3,4,5,6,7,8,9]),(qZ 9 13,[]),(qS 5 9 34,[0,1,2,3,4,5,6,7,8,9,10,12]),(zM 10 35,[0,1,2,3,4,5,6,7,8,9,10,11,12,13])] [3,6,8,9,10]) (.seq (.seq (.reg [zM 36 10,qO 37 36] [3,6,8,9,37]) (.cond (.t 37) (.seq (.reg [zA 38 (.build zN []),qS 5 6 38,qB 7 false] [6,7]) .ret) .skip)) (.seq (.reg [qT 39 5 3,zM 40 8,qT 41 5 9,q3 42 114 39 40 41,qS 5 6 42,qB 7 true] [6,7]) .ret)))))))
theorem K.fP:fQ pZ 102 3 0 C.fP [.cell 6 true 5,.tmp 7]=true:=by kernel_rfl
def C.jc:bf:=(.seq (.reg [qX 3 10 0,qX 5 11 2,qZ 6 12,qB 7 false] [1,3,5,6]) (.seq (.seq (.reg [zM 13 1,qL 14 13,zA 15 (.bin .eql (.t 14) (kI 0))] [1,3,5,6,15]) (.cond (.t 15) (.seq (.reg [qT 16 5 5,q1 17 44 16,qS 5 6 17,qB 7 true] [6,7]) .ret) .skip)) (.seq (.reg [zM 18 1,qL 19 18,zA 20 (.bin .sub (.t 19) (kI 1)),zM 8 20] [1,3,5,6,8]) (.seq (.jW [(qT 22 5 3,[]),(zM 23 1,[]),(zM 24 8,[]),(zA 25 (.oO 1 (.t 23) none (some (.t 24))),[1,2]),(q2 26 104 22 25,[0,1,2,3]),(zM 21 26,[0,1,2,3,4]),(qE 27 21 0,[0,1,2,3,4,5]),(qE 28 21 1,[0,1,2,3,4,5]),(qZ 9 13,[]),(qS 5 9 27,[0,1,2,3,4,5,6,8]),(zM 10 28,[0,1,2,3,4,5,6,7,8,9])] [1,3,5,6,8,9,10]) (.seq (.seq (.reg [zM 29 10,qO 30 29] [1,3,5,6,8,9,30]) (.cond (.t 30) (.seq (.reg [zA 31 (.build zN []),qS 5 6 31,qB 7 false] [6,7]) .ret) .skip)) (.seq (.jW [(qT 33 5 9,[]),(zM 34 1,[]),(zM 35 8,[]),(qD 36 1 34 35,[1,2]),(qF 37 1 36,[1,2,3]),(qT 38 5 5,[]),(q3 39 108 33 37 38,[0,1,2,3,4,5]),(zM 32 39,[0,1,2,3,4,5,6]),(qE 40 32 0,[0,1,2,3,4,5,6,7]),(qE 41 32 1,[0,1,2,3,4,5,6,7]),(qZ 11 14,[]),(qS 5 11 40,[0,1,2,3,4,5,6,7,8,10]),(zM 12 41,[0,1,2,3,4,5,6,7,8,9,10,11])] [1,3,6,8,11,12]) (.seq (.seq (.reg [zM 42 12,qO 43 42] [1,3,6,8,11,43]) (.cond (.t 43) (.seq (.reg [zA 44 (.build zN []),qS 5 6 44,qB 7 false] [6,7]) .ret) .skip)) (.seq (.jW [(qT 45 5 3,[]),(zM 46 1,[]),(zM 47 8,[]),(zA 48 (.oO 1 (.t 46) none (some (.t 47))),[1,2]),(qT 49 5 11,[]),(q3 50 102 45 48 49,[0,1,2,3,4]),(qE 51 50 0,[0,1,2,3,4,5]),(qE 52 50 1,[0,1,2,3,4,5]),(qS 5 6 51,[0,1,2,3,4,5,6,7]),(zM 7 52,[0,1,2,3,4,5,6,7,8])] [6,7]) .ret))))))))
theorem K.jc:fQ pZ 101 3 0 C.jc [.cell 6 true 5,.tmp 7]=true:=by kernel_rfl
def C.bZ:bf:=(.seq (.reg [qX 1 10 0,zA 2 (.mv (.k (.fH 1)))] [1]) (.seq (.reg [zA 8 (.bJ 11 1 0 [.str []] []),zA 9 (.bJ 12 1 1 [.sl 1 []] [(0,.t 8)]),zM 3 9] [1,3]) (.seq (.seq (.reg [qI 4 0] [1,3,4]) (.block 0 (.loop (.seq (.seq (.reg [zM 10 4,qA 11 4 1,qF 12 1 11,qL 13 12,zA 14 (.bin .lss (.t 10) (.t 13))] [1,3,4,14]) (.cond (.t 14) .skip (.exit 0))) (.seq (.block 1 (.seq (.reg [zM 17 4,q1 18 71 17,zM 5 18] [1,3,4,5]) (.cut (.seq (.reg [qA 19 0 1,qF 20 1 19,zA 21 (.bin .eql (.t 20) (kI 4))] [1,3,4,5,21]) (.cond (.t 21) (.reg [qA 22 3 1,qF 23 1 22,zM 24 4,qD 25 1 23 24,qF 26 1 25,zM 5 26] [1,3,4,5]) .skip)) (.seq (.reg [qA 27 4 1,qF 28 1 27,zM 29 4,qD 30 5 28 29,qT 31 5 30,q1 32 99 31,zM 6 32] [1,3,4,5,6]) (.seq (.reg [qI 7 0] [1,3,4,5,6,7]) (.block 2 (.loop (.seq (.seq (.reg [zM 33 7,zM 34 6,qL 35 34,zA 36 (.bin .lss (.t 33) (.t 35))] [1,3,4,5,6,7,36]) (.cond (.t 36) .skip (.exit 2))) (.seq (.block 3 (.reg [zM 39 3,zM 40 5,zA 41 (.bJ 13 1 1 [.str []] [(0,.t 40)]),zM 42 6,zM 43 7,qD 44 1 42 43,qF 45 1 44,zA 46 (.append 14 1 16 (.t 41) (.t 45)),zA 47 (.bJ 15 1 1 [.sl 1 []] [(0,.t 46)]),zA 48 (.append 16 1 24 (.t 39) (.t 47)),zM 3 48] [1,3,4,5,6,7])) (.reg [zM 37 7,zA 38 (.bin .add (.t 37) (kI 1)),zM 7 38] [1,3,4,5,6,7])))))))))) (.reg [zM 15 4,zA 16 (.bin .add (.t 15) (kI 1)),zM 4 16] [1,3,4])))))) (.seq (.reg [zM 49 3,zM 2 49] [2]) .ret))))
theorem K.bZ:fQ pZ 99 1 0 C.bZ [.tmp 2]=true:=by kernel_rfl
def C.dW:bf:=(.seq (.reg [qX 2 10 0,qZ 4 11,qB 5 false] [1,2,4]) (.seq (.reg [zM 12 1,qL 13 12,zA 14 (.bin .sub (.t 13) (kI 1)),zM 6 14] [1,2,4,6]) (.seq (.seq (.reg [zM 15 6,zA 16 (.bin .lss (.t 15) (kI 0))] [1,2,4,6,16]) (.cond (.t 16) (.seq (.reg [zA 17 (.build zN []),qS 5 4 17,qB 5 false] [4,5]) .ret) .skip)) (.seq (.jW [(qT 19 5 2,[]),(zM 20 1,[]),(zM 21 6,[]),(zA 22 (.oO 1 (.t 20) none (some (.t 21))),[1,2]),(q2 23 104 19 22,[0,1,2,3]),(zM 18 23,[0,1,2,3,4]),(qE 24 18 0,[0,1,2,3,4,5]),(qE 25 18 1,[0,1,2,3,4,5]),(qZ 7 12,[]),(qS 5 7 24,[0,1,2,3,4,5,6,8]),(zM 8 25,[0,1,2,3,4,5,6,7,8,9])] [1,2,4,6,7,8]) (.seq (.seq (.reg [zM 26 8,qO 27 26] [1,2,4,6,7,27]) (.cond (.t 27) (.seq (.reg [zA 28 (.build zN []),qS 5 4 28,qB 5 false] [4,5]) .ret) .skip)) (.seq (.jW [(qT 29 5 7,[]),(zM 30 1,[]),(zM 31 6,[]),(qD 32 1 30 31,[1,2]),(qF 33 1 32,[1,2,3]),(q2 34 107 29 33,[0,1,2,3,4]),(zM 9 34,[0,1,2,3,4,5])] [1,2,4,6,7,9]) (.seq (.seq (.reg [zM 35 9,zA 36 (.bin .lss (.t 35) (kI 0))] [1,2,4,6,7,9,36]) (.cond (.t 36) (.seq (.reg [zA 37 (.build zN []),qS 5 4 37,qB 5 false] [4,5]) .ret) .skip)) (.seq (.jW [(zA 38 (.bJ 13 5 0 [.lit (.int .i64 0),.lit (.int .i64 0),.str [],.sl 1 [],.sl 5 []] []),[]),(qA 39 4 7,[]),(qF 40 1 39,[1]),(zM 41 9,[]),(zA 42 (.oO 5 (.t 40) none (some (.t 41))),[1,2,3]),(zA 43 (.append 14 5 80 (.t 38) (.t 42)),[0,1,2,3,4]),(qA 44 4 7,[]),(qF 45 1 44,[6]),(zM 46 9,[]),(zA 47 (.bin .add (.t 46) (kI 1)),[8]),(zA 48 (.oO 5 (.t 45) (some (.t 47)) none),[6,7,8,9]),(zA 49 (.append 15 5 80 (.t 43) (.t 48)),[0,1,2,3,4,5,6,7,8,9,10]),(zM 10 49,[0,1,2,3,4,5,6,7,8,9,10,11])] [1,2,4,6,7,9,10]) (.seq (.reg [zA 50 (.bJ 16 1 0 [.str []] []),zM 11 50] [1,2,4,6,7,9,10,11]) (.cut (.seq (.reg [qA 51 0 7,qF 52 1 51,zA 53 (.bin .eql (.t 52) (kI 4))] [1,2,4,6,7,9,10,11,53]) (.cond (.t 53) (.jW [(zA 54 (.bJ 17 1 0 [.str []] []),[]),(qA 55 3 7,[]),(qF 56 1 55,[1]),(zM 57 9,[]),(zA 58 (.oO 1 (.t 56) none (some (.t 57))),[1,2,3]),(zA 59 (.append 18 1 16 (.t 54) (.t 58)),[0,1,2,3,4]),(qA 60 3 7,[]),(qF 61 1 60,[6]),(zM 62 9,[]),(zA 63 (.bin .add (.t 62) (kI 1)),[8]),(zA 64 (.oO 1 (.t 61) (some (.t 63)) none),[6,7,8,9]),(zA 65 (.append 19 1 16 (.t 59) (.t 64)),[0,1,2,3,4,5,6,7,8,9,10]),(zM 11 65,[0,1,2,3,4,5,6,7,8,9,10,11])] [1,2,4,6,7,10,11]) .skip)) (.seq (.jW [(qT 66 5 2,[]),(zM 67 1,[]),(zM 68 6,[]),(zA 69 (.oO 1 (.t 67) none (some (.t 68))),[1,2]),(qA 70 0 7,[]),(qF 71 1 70,[4]),(zM 72 11,[]),(zM 73 10,[]),(zA 74 (.build zN [(0,1,.t 71),(3,1,.t 72),(4,1,.t 73)]),[4,5,6,7]),(q3 75 102 66 69 74,[0,1,2,3,4,5,6,7,8]),(qE 76 75 0,[0,1,2,3,4,5,6,7,8,9]),(qE 77 75 1,[0,1,2,3,4,5,6,7,8,9]),(qS 5 4 76,[0,1,2,3,4,5,6,7,8,9,10,11]),(zM 5 77,[0,1,2,3,4,5,6,7,8,9,10,11,12])] [4,5]) .ret)))))))))))
theorem K.dW:fQ pZ 100 2 0 C.dW [.cell 4 true 5,.tmp 5]=true:=by kernel_rfl
def C.dU:bf:=(.seq (.reg [qX 3 10 1,qZ 4 11] [0,3,4]) (.seq (.reg [qT 9 5 3,q1 10 99 9,zM 5 10] [0,3,4,5]) (.seq (.reg [zM 11 5,zM 12 0,zM 13 5,qL 14 13,q2 15 26 12 14,qD 16 1 11 15,qF 17 1 16,zM 6 17] [0,3,4,6]) (.seq (.reg [qT 18 5 3,q1 19 44 18,qZ 7 12,qS 5 7 19] [0,3,4,6,7]) (.seq (.reg [qB 8 true] [0,3,4,6,7,8]) (.cut (.seq (.reg [zM 20 0,⟨none,some 21,.call 26 [.t 20,kI 5]⟩] [0,3,4,6,7,8,21]) (.block 0 (.seq (.reg [zA 23 (.bin .eql (.t 21) (kI 0)),zM 22 23] [0,3,4,6,7,8,21,22]) (.cond (.t 22) (.reg [qT 25 5 3,zM 26 6,q2 27 100 25 26,zM 24 27,qE 28 24 0,qE 29 24 1,qS 5 7 28,zM 8 29] [3,4,7,8]) (.seq (.reg [zA 31 (.bin .eql (.t 21) (kI 1)),zM 30 31] [0,3,4,6,7,8,21,30]) (.cond (.t 30) (.jW [(qT 33 5 3,[]),(zA 34 (.bJ 13 1 0 [.str []] []),[]),(zM 35 6,[]),(zA 36 (.append 14 1 16 (.t 34) (.t 35)),[1,2]),(zM 37 0,[]),(zA 38 (.bJ 15 1 4 [.str []] [(0,.k (.c (.str [97]))),(1,.k (.c (.str [48]))),(2,.k (.c (.str [45]))),(3,.k (.c (.str [122])))]),[]),(q2 39 81 37 38,[1,2,3,4,5]),(zA 40 (.bJ 16 1 1 [.str []] [(0,.t 39)]),[1,2,3,4,5,6]),(zA 41 (.append 17 1 16 (.t 36) (.t 40)),[1,2,3,4,5,6,7]),(zM 42 0,[]),(⟨none,some 43,.call 84 [.t 42,kI 2]⟩,[1,2,3,4,5,6,7,8,9]),(q3 44 101 33 41 43,[0,1,2,3,4,5,6,7,8,9,10]),(zM 32 44,[0,1,2,3,4,5,6,7,8,9,10,11]),(qE 45 32 0,[0,1,2,3,4,5,6,7,8,9,10,11,12]),(qE 46 32 1,[0,1,2,3,4,5,6,7,8,9,10,11,12]),(qS 5 7 45,[0,1,2,3,4,5,6,7,8,9,10,11,12,13]),(zM 8 46,[0,1,2,3,4,5,6,7,8,9,10,11,12,13,14,15])] [3,4,7,8]) (.seq (.reg [zA 48 (.bin .eql (.t 21) (kI 2)),zM 47 48] [0,3,4,6,7,8,21,47]) (.cond (.t 47) (.jW [(qT 50 5 3,[]),(zM 51 6,[]),(zM 52 0,[]),(⟨none,some 53,.call 84 [.t 52,kI 2]⟩,[2]),(q3 54 102 50 51 53,[0,1,2,3]),(zM 49 54,[0,1,2,3,4]),(qE 55 49 0,[0,1,2,3,4,5]),(qE 56 49 1,[0,1,2,3,4,5]),(qS 5 7 55,[0,1,2,3,4,5,6]),(zM 8 56,[0,1,2,3,4,5,6,7,8])] [3,4,7,8]) (.seq (.reg [zA 58 (.bin .eql (.t 21) (kI 3)),zM 57 58] [0,3,4,7,8,57]) (.cond (.t 57) (.seq (.reg [zM 59 0,q1 60 56 59,qS 5 4 60] [4]) .ret) .skip)))))))))) (.seq (.seq (.reg [zM 61 8,qO 62 61,zM 63 62,zG 63 false 64 (.load true 5 (.t 7)),⟨(some (63,false)),some 65,.call 18 [.t 64]⟩,zG 63 false 66 (.not (.t 65)),qQ 67 63 66] [3,4,7,67]) (.cond (.t 67) (.seq (.reg [qT 68 5 3,q1 69 44 68,qS 5 4 69] [4]) .ret) .skip)) (.seq (.reg [qT 70 5 7,qS 5 4 70] [4]) .ret))))))))
theorem K.dU:fQ pZ 79 2 1 C.dU [.cell 4 true 5]=true:=by kernel_rfl
def C.iM:bf:=(.seq (.reg [qX 1 10 0,zA 2 (.mv (.k (.fH 1)))] [1]) (.seq (.seq (.reg [qT 3 5 1,q1 4 18 3,qO 5 4] [1,5]) (.cond (.t 5) (.seq (.reg [zA 2 (.mv (.k (.fH 1)))] [2]) .ret) .skip)) (.seq (.reg [qT 6 5 1,q1 7 99 6,zM 2 7] [2]) .ret)))
theorem K.iM:fQ pZ 115 1 0 C.iM [.tmp 2]=true:=by kernel_rfl
def C.fA:bf:=(.seq (.reg [zA 2 (.mv (.k (.fH 1)))] [0]) (.seq (.reg [zA 5 (.bJ 10 1 0 [.str []] []),zM 3 5] [0,3]) (.seq (.seq (.reg [zM 6 0,zA 7 (.bJ 11 1 7 [.lit (.int .i64 0)] [(0,kI 1),(1,kI 2),(2,kI 1),(3,kI 0),(4,kI 3),(5,kI 5),(6,kI 6)]),q2 8 51 6 7,zM 4 8] [0,3,4]) (.block 0 (.loop (.seq (.seq (.reg [zM 9 4,zA 10 (.bin .gtr (.t 9) (kI 0))] [0,3,4,10]) (.cond (.t 10) .skip (.exit 0))) (.seq (.block 1 (.reg [zM 13 3,zM 14 0,zA 15 (.bJ 12 1 9 [.str []] [(0,.k (.c (.str [97]))),(1,.k (.c (.str [98]))),(2,.k (.c (.str [48]))),(3,.k (.c (.str [49]))),(4,.k (.c (.str [45]))),(5,.k (.c (.str [97,47,98]))),(6,.k (.c (.str [126,120]))),(7,.k (.c (.str []))),(8,.k (.c (.str [99])))]),q2 16 81 14 15,zA 17 (.bJ 13 1 1 [.str []] [(0,.t 16)]),zA 18 (.append 14 1 16 (.t 13) (.t 17)),zM 3 18] [0,3,4])) (.reg [zM 11 4,zA 12 (.bin .sub (.t 11) (kI 1)),zM 4 12] [0,3,4])))))) (.seq (.seq (.reg [zM 19 3,qL 20 19,zA 21 (.bin .gtr (.t 20) (kI 0)),zM 22 21,zG 22 true 23 (.mv (.t 0)),⟨(some (22,true)),some 24,.call 26 [.t 23,kI 20]⟩,zG 22 true 25 (.bin .eql (.t 24) (kI 0)),qP 26 22 25] [0,3,26]) (.cond (.t 26) (.reg [zM 27 3,zM 28 0,zA 29 (.bJ 15 1 2 [.str []] [(0,.k (.c (.str [97,98,99,100,101,102,103,104,105,106,107,108,109]))),(1,.k (.c (.str [10])))]),q2 30 81 28 29,zA 31 (.mW 1 (.t 27) (kI 0)),qU 1 31 30] [3]) .skip)) (.seq (.reg [zM 32 3,zM 2 32] [2]) .ret)))))
theorem K.fA:fQ pZ 116 1 1 C.fA [.tmp 2]=true:=by kernel_rfl
def C.iW:bf:=(.seq (.reg [qX 3 10 1,zA 4 (.mv (.k (.fH 1)))] [0,3]) (.seq (.reg [qT 6 5 3,q1 7 115 6,zM 5 7] [0,5]) (.seq (.seq (.reg [zM 8 5,qL 9 8,zA 10 (.bin .gtr (.t 9) (kI 0)),zM 11 10,zG 11 true 12 (.mv (.t 0)),⟨(some (11,true)),some 13,.call 26 [.t 12,kI 4]⟩,zG 11 true 14 (.bin .gtr (.t 13) (kI 0)),qP 15 11 14] [0,5,15]) (.cond (.t 15) (.seq (.reg [zM 16 5,zM 17 0,zM 18 5,qL 19 18,q2 20 26 17 19,qD 21 1 16 20,qF 22 1 21,zM 4 22] [4]) .ret) .skip)) (.seq (.reg [zM 23 0,q1 24 116 23,zM 4 24] [4]) .ret))))
theorem K.iW:fQ pZ 103 2 1 C.iW [.tmp 4]=true:=by kernel_rfl
def C.aH:bf:=(.seq (.reg [qX 3 10 1,zA 4 (.alloc 11 [jP 0,.fH 1,.fH 1,jP 0,jP 0,.c (.str []),.fH 1,.fH 5])] [0,3,4]) (.seq (.jW [(zM 8 0,[]),(⟨none,some 9,.call 26 [.t 8,kI 6]⟩,[0]),(zA 10 (.bin .add (kI 1) (.t 9)),[0,1]),(zM 11 0,[]),(qT 12 5 3,[]),(q2 13 103 11 12,[0,1,3,4]),(zA 14 (.bJ 12 1 0 [.str []] []),[]),(zA 15 (.build zN []),[]),(zA 16 (.build [jP 0,.fH 1,.fH 1,jP 0,jP 0,.c (.str []),.fH 1,.fH 5] [(0,1,.t 10),(1,1,.t 13),(2,1,.t 14),(3,5,.t 15)]),[0,1,2,3,4,5,6,7]),(zA 5 (.alloc 13 [jP 0,.fH 1,.fH 1,jP 0,jP 0,.c (.str []),.fH 1,.fH 5]),[]),(qS 8 5 16,[0,1,2,3,4,5,6,7,8,9])] [0,3,4,5]) (.cut (.seq (.reg [qA 17 0 5,qF 18 1 17] [0,3,4,5,18]) (.block 0 (.cut (.seq (.reg [zA 20 (.bin .eql (.t 18) (kI 1)),zM 19 20] [0,3,4,5,18,19]) (.cond (.t 19) .skip (.reg [zA 21 (.bin .eql (.t 18) (kI 3)),zM 19 21] [0,3,4,5,18,19]))) (.cond (.t 19) (.reg [zM 22 0,⟨none,some 23,.call 84 [.t 22,kI 2]⟩,qA 24 3 5,qS 5 24 23] [0,4,5]) (.seq (.reg [zA 26 (.bin .eql (.t 18) (kI 6)),zM 25 26] [0,3,4,5,18,25]) (.cond (.t 25) (.seq (.reg [qT 28 5 3,qA 29 1 5,qF 30 1 29,q2 31 104 28 30,zM 27 31,qE 32 27 0,qE 33 27 1,qZ 6 14,qS 5 6 32,zM 7 33] [0,4,5,6,7]) (.seq (.reg [zM 34 7,zM 35 34,zG 35 true 36 (.mv (.t 0)),⟨(some (35,true)),some 37,.call 26 [.t 36,kI 3]⟩,zG 35 true 38 (.bin .gtr (.t 37) (kI 0)),qP 39 35 38] [0,4,5,6,39]) (.cond (.t 39) (.reg [qT 40 5 6,qA 41 3 5,qS 5 41 40] [0,4,5]) .skip))) (.cut (.seq (.reg [zA 43 (.bin .eql (.t 18) (kI 4)),zM 42 43] [0,3,4,5,18,42]) (.cond (.t 42) .skip (.reg [zA 44 (.bin .eql (.t 18) (kI 5)),zM 42 44] [0,3,4,5,42]))) (.cond (.t 42) (.reg [zM 45 0,qT 46 5 3,q2 47 103 45 46,qA 48 2 5,qU 1 48 47] [0,4,5]) .skip)))))))) (.seq (.cut (.reg [qA 49 1 5,qF 50 1 49,qL 51 50,zA 52 (.bin .lss (.t 51) (kI 4)),zM 53 52,zG 53 true 54 (.eu 0 (.t 5)),zG 53 true 55 (.load false 1 (.t 54)),zG 53 true 56 (.bin .eql (.t 55) (kI 1)),zG 53 true 57 (.mv (.t 56)),zG 57 false 58 (.eu 0 (.t 5)),zG 57 false 59 (.load false 1 (.t 58)),zG 57 false 60 (.bin .eql (.t 59) (kI 4)),zG 53 true 61 (.pick (.t 57) (kB true) (.t 60)),zG 53 true 62 (.mv (.t 61)),zG 62 false 63 (.eu 0 (.t 5)),zG 62 false 64 (.load false 1 (.t 63)),zG 62 false 65 (.bin .eql (.t 64) (kI 5)),zG 53 true 66 (.pick (.t 62) (kB true) (.t 65)),qP 67 53 66,zM 68 67,zG 68 true 69 (.mv (.t 0)),⟨(some (68,true)),some 70,.call 26 [.t 69,kI 2]⟩,zG 68 true 71 (.bin .eql (.t 70) (kI 0)),qP 72 68 71] [0,4,5,72]) (.cond (.t 72) (.reg [zA 73 (.bJ 15 1 0 [.str []] []),qA 74 1 5,qF 75 1 74,zA 76 (.append 16 1 16 (.t 73) (.t 75)),zM 77 0,zA 78 (.bJ 17 1 4 [.str []] [(0,.k (.c (.str [122]))),(1,.k (.c (.str [45]))),(2,.k (.c (.str [48]))),(3,.k (.c (.str [101])))]),q2 79 81 77 78,zA 80 (.bJ 18 1 1 [.str []] [(0,.t 79)]),zA 81 (.append 19 1 16 (.t 76) (.t 80)),qA 82 1 5,qU 1 82 81] [4,5]) .skip)) (.seq (.reg [qT 83 8 5,qS 8 4 83] [4]) .ret)))))
theorem K.aH:fQ pZ 80 2 1 C.aH [.cell 4 true 8]=true:=by kernel_rfl
def C.au:bf:=(.seq (.reg [qX 3 10 1,zA 4 (.alloc 11 [jP 0,.c (.str []),.fH 1,.fH 1,jP 0,jP 0,.c (.str []),.fH 1,.fH 5,.fH 8])] [0,3,4]) (.seq (.reg [zM 10 0,qT 11 2 3,q2 12 75 10 11,zM 5 12] [0,3,4,5]) (.seq (.reg [qT 14 2 3,zM 15 5,q2 16 76 14 15,zM 13 16,qE 17 13 0,qE 18 13 1,zA 6 (.alloc 12 [.c (.str []),jP 0,jP 0,jP 0,.c (.str []),.fH 1,.fH 5]),qS 7 6 17,zM 7 18] [0,4,5,6,7]) (.seq (.reg [zM 19 0,⟨none,some 20,.call 26 [.t 19,kI 5]⟩,zA 21 (.bin .add (kI 1) (.t 20)),zM 22 5,zA 23 (.bJ 13 1 0 [.str []] []),zA 24 (.bJ 14 1 0 [.str []] []),zA 25 (.bJ 15 8 0 [.lit (.int .i64 0),.sl 1 [],.sl 1 [],.lit (.int .i64 0),.lit (.int .i64 0),.str [],.sl 1 [],.sl 5 []] []),zA 26 (.build [jP 0,.c (.str []),.fH 1,.fH 1,jP 0,jP 0,.c (.str []),.fH 1,.fH 5,.fH 8] [(0,1,.t 21),(1,1,.t 22),(2,1,.t 23),(3,1,.t 24),(9,1,.t 25)]),zA 8 (.alloc 16 [jP 0,.c (.str []),.fH 1,.fH 1,jP 0,jP 0,.c (.str []),.fH 1,.fH 5,.fH 8]),qS 10 8 26] [0,4,6,7,8]) (.cut (.seq (.reg [zM 27 0,⟨none,some 28,.call 26 [.t 27,kI 3]⟩,zA 29 (.bin .eql (.t 28) (kI 0))] [0,4,6,7,8,29]) (.cond (.t 29) (.reg [zM 30 0,qA 31 2 6,qT 32 5 31,q1 33 78 32,q2 34 77 30 33,qA 35 2 8,qU 1 35 34] [0,4,6,7,8]) .skip)) (.cut (.seq (.reg [zM 36 0,⟨none,some 37,.call 26 [.t 36,kI 4]⟩,zA 38 (.bin .eql (.t 37) (kI 0))] [0,4,6,7,8,38]) (.cond (.t 38) (.reg [zM 39 0,qA 40 2 6,qT 41 5 40,q1 42 78 41,q2 43 77 39 42,qA 44 3 8,qU 1 44 43] [0,4,6,7,8]) .skip)) (.cut (.seq (.reg [qA 45 0 8,qF 46 1 45] [0,4,6,7,8,46]) (.block 0 (.seq (.reg [zA 48 (.bin .eql (.t 46) (kI 2)),zM 47 48] [0,4,6,7,8,46,47]) (.cond (.t 47) (.reg [zM 49 0,q1 50 56 49,qA 51 4 8,qS 5 51 50] [0,4,7,8]) (.seq (.reg [zA 53 (.bin .eql (.t 46) (kI 5)),zM 52 53] [0,4,6,7,8,46,52]) (.cond (.t 52) (.reg [zM 54 0,qA 55 2 6,qT 56 5 55,q2 57 79 54 56,qA 58 4 8,qS 5 58 57] [0,4,7,8]) (.seq (.reg [zA 60 (.bin .eql (.t 46) (kI 4)),zM 59 60] [0,4,6,7,8,59]) (.cond (.t 59) (.seq (.reg [zM 61 0,⟨none,some 62,.call 26 [.t 61,kI 3]⟩,zM 9 62] [0,4,6,7,8,9]) (.block 1 (.loop (.seq (.seq (.reg [zM 63 9,zA 64 (.bin .gtr (.t 63) (kI 0))] [0,4,6,7,8,9,64]) (.cond (.t 64) .skip (.exit 1))) (.seq (.block 2 (.jW [(qA 67 9 8,[]),(qF 68 1 67,[0]),(zM 69 0,[]),(qA 70 2 6,[]),(qT 71 5 70,[3]),(q2 72 80 69 71,[2,3,4]),(zA 73 (.bJ 17 8 1 [.lit (.int .i64 0),.sl 1 [],.sl 1 [],.lit (.int .i64 0),.lit (.int .i64 0),.str [],.sl 1 [],.sl 5 []] [(0,.t 72)]),[2,3,4,5]),(zA 74 (.append 18 8 136 (.t 68) (.t 73)),[0,1,2,3,4,5,6]),(qA 75 9 8,[0,1,2,3,4,5,6,7]),(qU 1 75 74,[0,1,2,3,4,5,6,7,8])] [0,4,6,7,8,9])) (.reg [zM 65 9,zA 66 (.bin .sub (.t 65) (kI 1)),zM 9 66] [0,4,6,7,8,9])))))) .skip)))))))) (.seq (.seq (.reg [zM 76 7,qO 77 76,zM 78 77,zG 78 true 79 (.mv (.t 0)),⟨(some (78,true)),some 80,.call 26 [.t 79,kI 2]⟩,zG 78 true 81 (.bin .eql (.t 80) (kI 0)),qP 82 78 81] [4,8,82]) (.cond (.t 82) (.reg [qA 83 0 8,zS (.store false 1 (.t 83) (kI 2))] [4,8]) .skip)) (.seq (.reg [qT 84 10 8,qS 10 4 84] [4]) .ret)))))))))
theorem K.au:fQ pZ 50 2 1 C.au [.cell 4 true 10]=true:=by kernel_rfl
def C.gY:bf:=(.seq (.reg [qX 3 10 1,zA 4 (.alloc 11 [jP 0,.c (.str []),.fH 1,.fH 1,jP 0,jP 0,.c (.str []),.fH 1,.fH 5,.fH 8])] [0,3,4]) (.seq (.reg [zM 6 0,qT 7 2 3,q2 8 50 6 7,zA 5 (.alloc 12 [jP 0,.c (.str []),.fH 1,.fH 1,jP 0,jP 0,.c (.str []),.fH 1,.fH 5,.fH 8]),qS 10 5 8] [0,4,5]) (.seq (.seq (.reg [zM 9 0,⟨none,some 10,.call 26 [.t 9,kI 30]⟩] [0,4,5,10]) (.block 0 (.seq (.reg [zA 12 (.bin .eql (.t 10) (kI 0)),zM 11 12] [0,4,5,10,11]) (.cond (.t 11) (.reg [zM 13 0,zA 14 (.bJ 13 1 2 [.lit (.int .i64 0)] [(0,kI 0),(1,kI 6)]),q2 15 51 13 14,qA 16 0 5,qU 1 16 15] [4,5]) (.seq (.reg [zA 18 (.bin .eql (.t 10) (kI 1)),zM 17 18] [0,4,5,10,17]) (.cond (.t 17) (.reg [zM 19 0,q1 20 52 19,qA 21 1 5,qU 1 21 20] [4,5]) (.seq (.reg [zA 23 (.bin .eql (.t 10) (kI 2)),zM 22 23] [0,4,5,22]) (.cond (.t 22) (.reg [zM 24 0,q1 25 53 24,qA 26 4 5,qS 5 26 25] [4,5]) .skip)))))))) (.seq (.reg [qT 27 10 5,qS 10 4 27] [4]) .ret))))
theorem K.gY:fQ pZ 24 2 1 C.gY [.cell 4 true 10]=true:=by kernel_rfl
def C.gU:bf:=(.seq (.reg [qX 2 10 0,zA 4 (.alloc 11 [.fH 7,jP 0])] [1,2,4]) (.seq (.reg [zA 8 (.bJ 12 7 0 [.str [],.lit (.int .i64 0),.lit (.int .i64 0),.lit (.int .i64 0),.str [],.sl 1 [],.sl 5 []] []),zM 5 8] [1,2,4,5]) (.seq (.reg [qT 9 2 2,q1 10 96 9,zA 11 (.field false 0 1 (.t 10)),zM 6 11] [1,2,4,5,6]) (.seq (.seq (.reg [qI 7 0] [1,2,4,5,6,7]) (.block 0 (.loop (.seq (.seq (.reg [zM 12 7,zM 13 6,qL 14 13,zA 15 (.bin .lss (.t 12) (.t 14))] [1,2,4,5,6,7,15]) (.cond (.t 15) .skip (.exit 0))) (.seq (.block 1 (.seq (.reg [zM 18 6,zM 19 7,qD 20 7 18 19,qA 21 0 20,qF 22 1 21,zM 23 1,zA 24 (.bin .neq (.t 22) (.t 23))] [1,2,4,5,6,7,24]) (.cond (.t 24) (.reg [zM 25 5,zM 26 6,zM 27 7,qD 28 7 26 27,qT 29 7 28,zA 30 (.bJ 13 7 1 [.str [],.lit (.int .i64 0),.lit (.int .i64 0),.lit (.int .i64 0),.str [],.sl 1 [],.sl 5 []] [(0,.t 29)]),zA 31 (.append 14 7 104 (.t 25) (.t 30)),zM 5 31] [1,2,4,5,6,7]) .skip))) (.reg [zM 16 7,zA 17 (.bin .add (.t 16) (kI 1)),zM 7 17] [1,2,4,5,6,7])))))) (.seq (.reg [zM 32 5,qA 33 1 2,qF 34 1 33,zA 35 (.bin .add (.t 34) (kI 1)),zA 36 (.build [.fH 7,jP 0] [(0,1,.t 32),(1,1,.t 35)]),qS 2 4 36] [4]) .ret)))))
theorem K.gU:fQ pZ 87 2 0 C.gU [.cell 4 true 2]=true:=by kernel_rfl
def C.iq:bf:=(.seq (.reg [qX 2 10 0,zA 4 (.alloc 11 [.fH 7,jP 0]),qB 5 false] [1,2,4]) (.seq (.seq (.reg [qT 6 2 2,q1 7 82 6,qO 8 7,zM 9 8,zG 9 false 10 (.load true 2 (.t 2)),zG 9 false 11 (.mv (.t 1)),⟨(some (9,false)),some 12,.call 86 [.t 10,.t 11]⟩,zG 9 false 13 (.bin .lss (.t 12) (kI 0)),qQ 14 9 13,zM 15 14,zG 15 false 16 (.eu 1 (.t 2)),zG 15 false 17 (.load false 1 (.t 16)),zG 15 false 18 (.bin .eql (.t 17) (kI 999)),qQ 19 15 18] [1,2,4,19]) (.cond (.t 19) (.seq (.reg [zA 20 (.build [.fH 7,jP 0] []),qS 2 4 20,qB 5 false] [4,5]) .ret) .skip)) (.seq (.reg [qT 21 2 2,zM 22 1,q2 23 87 21 22,qS 2 4 23,qB 5 true] [4,5]) .ret)))
theorem K.iq:fQ pZ 57 2 0 C.iq [.cell 4 true 2,.tmp 5]=true:=by kernel_rfl
def C.dR:bf:=(.seq (.reg [qX 3 10 0,qX 5 11 2,zA 6 (.alloc 12 [.fH 7,jP 0])] [1,3,5,6]) (.seq (.reg [zA 12 (.bJ 13 7 0 [.str [],.lit (.int .i64 0),.lit (.int .i64 0),.lit (.int .i64 0),.str [],.sl 1 [],.sl 5 []] []),zM 7 12] [1,3,5,6,7]) (.seq (.jW [(zM 13 1,[]),(qA 14 1 3,[]),(qF 15 1 14,[1]),(zA 16 (.bin .add (.t 15) (kI 1)),[1,2]),(qT 17 5 5,[]),(q1 18 44 17,[4]),(zA 19 (.build [.c (.str []),jP 0,jP 0,jP 0,.c (.str []),.fH 1,.fH 5] [(0,1,.t 13),(1,1,.t 16),(2,5,.t 18)]),[0,1,2,3,4,5]),(zA 8 (.alloc 14 [.c (.str []),jP 0,jP 0,jP 0,.c (.str []),.fH 1,.fH 5]),[]),(qS 7 8 19,[0,1,2,3,4,5,6,7])] [1,3,6,7,8]) (.seq (.reg [qT 20 2 3,q1 21 96 20,zA 22 (.field false 0 1 (.t 21)),zM 9 22] [1,3,6,7,8,9]) (.seq (.reg [qB 10 false] [1,3,6,7,8,9,10]) (.seq (.seq (.reg [qI 11 0] [1,3,6,7,8,9,10,11]) (.block 0 (.loop (.seq (.seq (.reg [zM 23 11,zM 24 9,qL 25 24,zA 26 (.bin .lss (.t 23) (.t 25))] [1,3,6,7,8,9,10,11,26]) (.cond (.t 26) .skip (.exit 0))) (.seq (.block 1 (.cut (.seq (.reg [zM 29 10,qO 30 29,zM 31 30,zG 31 true 32 (.mv (.t 9)),zG 31 true 33 (.mv (.t 11)),zG 31 true 34 (.mW 7 (.t 32) (.t 33)),zG 31 true 35 (.eu 0 (.t 34)),zG 31 true 36 (.load false 1 (.t 35)),zG 31 true 37 (.mv (.t 1)),zG 31 true 38 (.bin .geq (.t 36) (.t 37)),qP 39 31 38] [1,3,6,7,8,9,10,11,39]) (.cond (.t 39) (.seq (.reg [zM 40 7,qT 41 7 8,zA 42 (.bJ 15 7 1 [.str [],.lit (.int .i64 0),.lit (.int .i64 0),.lit (.int .i64 0),.str [],.sl 1 [],.sl 5 []] [(0,.t 41)]),zA 43 (.append 16 7 104 (.t 40) (.t 42)),zM 7 43] [1,3,6,7,8,9,11]) (.reg [qB 10 true] [1,3,6,7,8,9,10,11])) .skip)) (.seq (.reg [zM 44 9,zM 45 11,qD 46 7 44 45,qA 47 0 46,qF 48 1 47,zM 49 1,zA 50 (.bin .neq (.t 48) (.t 49))] [1,3,6,7,8,9,10,11,50]) (.cond (.t 50) (.reg [zM 51 7,zM 52 9,zM 53 11,qD 54 7 52 53,qT 55 7 54,zA 56 (.bJ 17 7 1 [.str [],.lit (.int .i64 0),.lit (.int .i64 0),.lit (.int .i64 0),.str [],.sl 1 [],.sl 5 []] [(0,.t 55)]),zA 57 (.append 18 7 104 (.t 51) (.t 56)),zM 7 57] [1,3,6,7,8,9,10,11]) .skip)))) (.reg [zM 27 11,zA 28 (.bin .add (.t 27) (kI 1)),zM 11 28] [1,3,6,7,8,9,10,11])))))) (.seq (.seq (.reg [zM 58 10,qO 59 58] [3,6,7,8,59]) (.cond (.t 59) (.reg [zM 60 7,qT 61 7 8,zA 62 (.bJ 19 7 1 [.str [],.lit (.int .i64 0),.lit (.int .i64 0),.lit (.int .i64 0),.str [],.sl 1 [],.sl 5 []] [(0,.t 61)]),zA 63 (.append 20 7 104 (.t 60) (.t 62)),zM 7 63] [3,6,7]) .skip)) (.seq (.reg [zM 64 7,qA 65 1 3,qF 66 1 65,zA 67 (.bin .add (.t 66) (kI 1)),zA 68 (.build [.fH 7,jP 0] [(0,1,.t 64),(1,1,.t 67)]),qS 2 6 68] [6]) .ret))))))))
theorem K.dR:fQ pZ 83 3 0 C.dR [.cell 6 true 2]=true:=by kernel_rfl
def C.iJ:bf:=(.seq (.reg [qX 3 10 0,qX 5 11 2,zA 6 (.alloc 12 [.fH 7,jP 0]),qB 7 false] [1,3,5,6]) (.seq (.seq (.reg [qT 9 2 3,q1 10 82 9,qO 11 10,zM 12 11,zG 12 false 13 (.mv (.t 1)),⟨(some (12,false)),some 14,.call 36 [.t 13]⟩,zG 12 false 15 (.not (.t 14)),qQ 16 12 15,zM 17 16,zG 17 false 18 (.load true 5 (.t 5)),⟨(some (17,false)),some 19,.call 18 [.t 18]⟩,zG 17 false 20 (.not (.t 19)),qQ 21 17 20] [1,3,5,6,21]) (.cond (.t 21) (.seq (.reg [zA 22 (.build [.fH 7,jP 0] []),qS 2 6 22,qB 7 false] [6,7]) .ret) .skip)) (.seq (.reg [qT 23 2 3,zM 24 1,qT 25 5 5,q3 26 83 23 24 25,zA 8 (.alloc 13 [.fH 7,jP 0]),qS 2 8 26] [6,8]) (.seq (.seq (.reg [qT 27 2 8,q1 28 82 27,qO 29 28] [6,8,29]) (.cond (.t 29) (.seq (.reg [zA 30 (.build [.fH 7,jP 0] []),qS 2 6 30,qB 7 false] [6,7]) .ret) .skip)) (.seq (.reg [qT 31 2 8,qS 2 6 31,qB 7 true] [6,7]) .ret)))))
theorem K.iJ:fQ pZ 54 3 0 C.iJ [.cell 6 true 2,.tmp 7]=true:=by kernel_rfl
def C.bC:bf:=(.seq (.reg [zA 2 (.alloc 10 [.fH 7,jP 0])] [0,2]) (.seq (.reg [zA 7 (.bJ 11 7 0 [.str [],.lit (.int .i64 0),.lit (.int .i64 0),.lit (.int .i64 0),.str [],.sl 1 [],.sl 5 []] []),zA 8 (.build [.fH 7,jP 0] [(0,1,.t 7)]),zA 3 (.alloc 12 [.fH 7,jP 0]),qS 2 3 8] [0,2,3]) (.seq (.seq (.reg [zM 9 0,zA 10 (.bJ 13 1 6 [.lit (.int .i64 0)] [(0,kI 3),(1,kI 4),(2,kI 2),(3,kI 5),(4,kI 0),(5,kI 12)]),q2 11 51 9 10,zM 4 11] [0,2,3,4]) (.block 0 (.loop (.seq (.seq (.reg [zM 12 4,zA 13 (.bin .gtr (.t 12) (kI 0))] [0,2,3,4,13]) (.cond (.t 13) .skip (.exit 0))) (.seq (.block 1 (.seq (.jW [(qT 17 2 3,[]),(zM 18 0,[]),(q1 19 55 18,[1]),(zM 20 0,[]),(q1 21 56 20,[1,2,3]),(q3 22 54 17 19 21,[0,1,2,3,4]),(zM 16 22,[0,1,2,3,4,5]),(qE 23 16 0,[0,1,2,3,4,5,6]),(qE 24 16 1,[0,1,2,3,4,5,6]),(zA 5 (.alloc 14 [.fH 7,jP 0]),[]),(qS 2 5 23,[0,1,2,3,4,5,6,7,9]),(zM 6 24,[0,1,2,3,4,5,6,7,8,9,10])] [0,2,3,4,5,6]) (.cut (.seq (.reg [zM 25 0,⟨none,some 26,.call 26 [.t 25,kI 8]⟩,zA 27 (.bin .eql (.t 26) (kI 0))] [0,2,3,4,5,6,27]) (.cond (.t 27) (.jW [(qT 29 2 3,[]),(zM 30 0,[]),(q1 31 55 30,[1]),(q2 32 57 29 31,[0,1,2]),(zM 28 32,[0,1,2,3]),(qE 33 28 0,[0,1,2,3,4]),(qE 34 28 1,[0,1,2,3,4]),(qS 2 5 33,[0,1,2,3,4,5]),(zM 6 34,[0,1,2,3,4,5,6,7])] [0,2,3,4,5,6]) .skip)) (.seq (.reg [zM 35 6] [0,2,3,4,5,35]) (.cond (.t 35) (.reg [qT 36 2 5,qS 2 3 36] [0,2,3,4]) .skip))))) (.reg [zM 14 4,zA 15 (.bin .sub (.t 14) (kI 1)),zM 4 15] [0,2,3,4])))))) (.seq (.reg [qT 37 2 3,qS 2 2 37] [2]) .ret))))
theorem K.bC:fQ pZ 25 1 1 C.bC [.cell 2 true 2]=true:=by kernel_rfl
def C.di:bf:=(.seq (.reg [zA 2 (.alloc 10 [jP 0,.c (.str []),.fH 1,.fH 1,jP 0,jP 0,.c (.str []),.fH 1,.fH 5,.fH 8])] [0,2]) (.seq (.reg [zM 4 0,zM 5 0,q1 6 25 5,q2 7 24 4 6,zA 3 (.alloc 11 [jP 0,.c (.str []),.fH 1,.fH 1,jP 0,jP 0,.c (.str []),.fH 1,.fH 5,.fH 8]),qS 10 3 7] [0,2,3]) (.cut (.seq (.reg [qA 8 0 3,qF 9 1 8,zA 10 (.bin .neq (.t 9) (kI 2)),zM 11 10,zG 11 true 12 (.eu 0 (.t 3)),zG 11 true 13 (.load false 1 (.t 12)),zG 11 true 14 (.bin .neq (.t 13) (kI 5)),qP 15 11 14,zM 16 15,zG 16 true 17 (.mv (.t 0)),⟨(some (16,true)),some 18,.call 26 [.t 17,kI 8]⟩,zG 16 true 19 (.bin .gtr (.t 18) (kI 0)),qP 20 16 19] [0,2,3,20]) (.cond (.t 20) (.reg [zA 21 (.build zN []),qA 22 4 3,qS 5 22 21] [0,2,3]) .skip)) (.seq (.seq (.reg [qA 23 0 3,qF 24 1 23,zA 25 (.bin .neq (.t 24) (kI 4)),zM 26 25,zG 26 true 27 (.mv (.t 0)),⟨(some (26,true)),some 28,.call 26 [.t 27,kI 8]⟩,zG 26 true 29 (.bin .gtr (.t 28) (kI 0)),qP 30 26 29] [2,3,30]) (.cond (.t 30) (.reg [zA 31 (.bJ 12 8 0 [.lit (.int .i64 0),.sl 1 [],.sl 1 [],.lit (.int .i64 0),.lit (.int .i64 0),.str [],.sl 1 [],.sl 5 []] []),qA 32 9 3,qU 1 32 31] [2,3]) .skip)) (.seq (.reg [qT 33 10 3,qS 10 2 33] [2]) .ret)))))
theorem K.di:fQ pZ 10 1 1 C.di [.cell 2 true 10]=true:=by kernel_rfl
def C.dH:bf:=(.seq (.reg [zA 2 (.alloc 10 [jP 0,.c (.str []),.fH 1,.fH 1,jP 0,jP 0,.c (.str []),.fH 1,.fH 5,.fH 8])] [0,2]) (.seq (.reg [zM 3 0,q1 4 11 3,q1 5 10 4,qS 10 2 5] [2]) .ret))
theorem K.dH:fQ pZ 5 1 0 C.dH [.cell 2 true 10]=true:=by kernel_rfl
def C.dO:bf:=(.seq (.reg [qB 2 false] [0]) (.seq (.seq (.reg [qI 3 0] [0,3]) (.block 0 (.loop (.seq (.seq (.reg [zM 4 3,zM 5 0,zA 6 (.lens (.t 5)),zA 7 (.bin .lss (.t 4) (.t 6))] [0,3,7]) (.cond (.t 7) .skip (.exit 0))) (.seq (.block 1 (.seq (.reg [zM 10 0,zM 11 3,zA 12 (.idxs (.t 10) (.t 11)),zA 13 (.uj .i64 (.t 12)),⟨none,some 14,.call 35 [.t 13,kI 48,kI 57]⟩,qO 15 14,zM 16 15,zG 16 true 17 (.mv (.t 0)),zG 16 true 18 (.mv (.t 3)),zG 16 true 19 (.idxs (.t 17) (.t 18)),zG 16 true 20 (.uj .i64 (.t 19)),⟨(some (16,true)),some 21,.call 35 [.t 20,kI 97,kI 102]⟩,zG 16 true 22 (.not (.t 21)),qP 23 16 22] [0,3,23]) (.cond (.t 23) (.seq (.reg [qB 2 false] [2]) .ret) .skip))) (.reg [zM 8 3,zA 9 (.bin .add (.t 8) (kI 1)),zM 3 9] [0,3])))))) (.seq (.reg [zM 24 0,zA 25 (.lens (.t 24)),zA 26 (.bin .eql (.t 25) (kI 4)),zM 2 26] [2]) .ret)))
theorem K.dO:fQ pZ 66 1 0 C.dO [.tmp 2]=true:=by kernel_rfl
def C.bU:bf:=(.seq (.reg [qB 2 false] [0]) (.seq (.seq (.reg [qI 3 0] [0,3]) (.block 0 (.loop (.seq (.seq (.reg [zM 4 3,zM 5 0,qL 6 5,zA 7 (.bin .lss (.t 4) (.t 6))] [0,3,7]) (.cond (.t 7) .skip (.exit 0))) (.seq (.block 1 (.seq (.reg [zM 10 0,zM 11 3,qD 12 1 10 11,qF 13 1 12,zA 14 (.bin .neq (.t 13) (.k (.c (.str [42])))),zM 15 14,zG 15 true 16 (.mv (.t 0)),zG 15 true 17 (.mv (.t 3)),zG 15 true 18 (.mW 1 (.t 16) (.t 17)),zG 15 true 19 (.load false 1 (.t 18)),⟨(some (15,true)),some 20,.call 66 [.t 19]⟩,zG 15 true 21 (.not (.t 20)),qP 22 15 21] [0,3,22]) (.cond (.t 22) (.seq (.reg [qB 2 false] [2]) .ret) .skip))) (.reg [zM 8 3,zA 9 (.bin .add (.t 8) (kI 1)),zM 3 9] [0,3])))))) (.seq (.reg [zM 23 0,qL 24 23,zA 25 (.bin .leq (.t 24) (kI 4)),zM 2 25] [2]) .ret)))
theorem K.bU:fQ pZ 37 1 0 C.bU [.tmp 2]=true:=by kernel_rfl
def C.aX:bf:=(.seq (.reg [zA 2 (.mv (.k (.c (.str []))))] [0]) (.seq (.reg [zA 3 (.mv (.k (.c (.str []))))] [0,3]) (.seq (.seq (.reg [zM 5 0,q1 6 37 5,qO 7 6] [0,3,7]) (.cond (.t 7) (.seq (.reg [zA 2 (.mv (.k (.c (.str []))))] [2]) .ret) .skip)) (.seq (.seq (.reg [qI 4 0] [0,3,4]) (.block 0 (.loop (.seq (.seq (.reg [zM 8 4,zM 9 0,qL 10 9,zA 11 (.bin .lss (.t 8) (.t 10))] [0,3,4,11]) (.cond (.t 11) .skip (.exit 0))) (.seq (.block 1 (.cut (.seq (.reg [zM 14 4,zA 15 (.bin .gtr (.t 14) (kI 0))] [0,3,4,15]) (.cond (.t 15) (.reg [zM 16 3,zA 17 (.bin .add (.t 16) (.k (.c (.str [44])))),zM 3 17] [0,3,4]) .skip)) (.seq (.reg [zM 18 0,zM 19 4,qD 20 1 18 19,qF 21 1 20,zA 22 (.bin .eql (.t 21) (.k (.c (.str [42]))))] [0,3,4,22]) (.cond (.t 22) (.reg [zM 23 3,zA 24 (.bin .add (.t 23) (.k (.c (.str [42])))),zM 3 24] [0,3,4]) (.reg [zM 25 3,zA 26 (.bin .add (.t 25) (.k (.c (.str [34])))),zM 27 0,zM 28 4,qD 29 1 27 28,qF 30 1 29,zA 31 (.bin .add (.t 26) (.t 30)),zA 32 (.bin .add (.t 31) (.k (.c (.str [34])))),zM 3 32] [0,3,4]))))) (.reg [zM 12 4,zA 13 (.bin .add (.t 12) (kI 1)),zM 4 13] [0,3,4])))))) (.seq (.reg [zM 33 3,zM 2 33] [2]) .ret)))))
theorem K.aX:fQ pZ 46 1 0 C.aX [.tmp 2]=true:=by kernel_rfl
def C.jd:bf:=(.seq (.reg [zA 0 (.mv (.k (.fH 1)))] []) (.seq (.reg [zA 1 (.bJ 10 1 7 [.str []] [(0,.k (.c (.str []))),(1,.k (.c (.str [97,100,100]))),(2,.k (.c (.str [114,101,109,111,118,101]))),(3,.k (.c (.str [114,101,112,108,97,99,101]))),(4,.k (.c (.str [109,111,118,101]))),(5,.k (.c (.str [99,111,112,121]))),(6,.k (.c (.str [116,101,115,116])))]),zM 0 1] [0]) .ret))
theorem K.jd:fQ pZ 43 0 0 C.jd [.tmp 0]=true:=by kernel_rfl
def C.jq:bf:=(.seq (.reg [qZ 2 10] [0,2]) (.seq (.reg [zM 3 0,zA 4 (.build zN [(0,1,kI 2),(2,1,.t 3)]),qS 5 2 4] [2]) .ret))
theorem K.jq:fQ pZ 42 1 0 C.jq [.cell 2 true 5]=true:=by kernel_rfl
def C.gB:bf:=(.seq (.reg [qZ 2 10] [0,2]) (.seq (.reg [zA 5 (.bJ 11 5 0 [.lit (.int .i64 0),.lit (.int .i64 0),.str [],.sl 1 [],.sl 5 []] []),zM 3 5] [0,2,3]) (.seq (.seq (.reg [qI 4 0] [0,2,3,4]) (.block 0 (.loop (.seq (.seq (.reg [zM 6 4,zM 7 0,qL 8 7,zA 9 (.bin .lss (.t 6) (.t 8))] [0,2,3,4,9]) (.cond (.t 9) .skip (.exit 0))) (.seq (.block 1 (.reg [zM 12 3,zM 13 0,zM 14 4,qD 15 1 13 14,qF 16 1 15,q1 17 42 16,zA 18 (.bJ 12 5 1 [.lit (.int .i64 0),.lit (.int .i64 0),.str [],.sl 1 [],.sl 5 []] [(0,.t 17)]),zA 19 (.append 13 5 80 (.t 12) (.t 18)),zM 3 19] [0,2,3,4])) (.reg [zM 10 4,zA 11 (.bin .add (.t 10) (kI 1)),zM 4 11] [0,2,3,4])))))) (.seq (.reg [zA 20 (.bJ 14 1 0 [.str []] []),zM 21 3,zA 22 (.build zN [(0,1,kI 3),(3,1,.t 20),(4,1,.t 21)]),qS 5 2 22] [2]) .ret))))
theorem K.gB:fQ pZ 41 1 0 C.gB [.cell 2 true 5]=true:=by kernel_rfl
def C.iy:bf:=(.seq (.reg [qX 1 10 0,qZ 2 11] [1,2]) (.seq (.jW [(zA 3 (.bJ 12 1 4 [.str []] [(0,.k (.c (.str [102,114,111,109]))),(1,.k (.c (.str [111,112]))),(2,.k (.c (.str [112,97,116,104]))),(3,.k (.c (.str [118,97,108,117,101])))]),[]),(qA 4 2 1,[]),(qF 5 1 4,[1]),(q1 6 41 5,[1,2]),(⟨none,some 7,.call 43 []⟩,[1,2,3]),(qA 8 0 1,[]),(qF 9 1 8,[5]),(qD 10 1 7 9,[1,2,3,4,5,6]),(qF 11 1 10,[1,2,3,4,5,6,7]),(q1 12 42 11,[1,2,3,4,5,6,7,8]),(qA 13 1 1,[]),(qF 14 1 13,[10]),(q1 15 41 14,[1,2,3,4,5,6,7,8,9,10,11]),(qA 16 3 1,[]),(qT 17 5 16,[13]),(q1 18 44 17,[1,2,3,4,5,6,7,8,9,10,11,12,13,14]),(zA 19 (.bJ 13 5 4 [.lit (.int .i64 0),.lit (.int .i64 0),.str [],.sl 1 [],.sl 5 []] [(0,.t 6),(1,.t 12),(2,.t 15),(3,.t 18)]),[1,2,3,4,5,6,7,8,9,10,11,12,13,14,15]),(zA 20 (.build zN [(0,1,kI 4),(3,1,.t 3),(4,1,.t 19)]),[0,1,2,3,4,5,6,7,8,9,10,11,12,13,14,15,16]),(qS 5 2 20,[0,1,2,3,4,5,6,7,8,9,10,11,12,13,14,15,16,17])] [2]) .ret))
theorem K.iy:fQ pZ 19 1 0 C.iy [.cell 2 true 5]=true:=by kernel_rfl
def C.jJ:bf:=(.seq (.reg [zA 0 (.mv (.k (.fH 1)))] []) (.seq (.reg [zA 1 (.bJ 10 1 6 [.str []] [(0,.k (.c (.str []))),(1,.k (.c (.str [103,101,116]))),(2,.k (.c (.str [112,117,116]))),(3,.k (.c (.str [100,101,108,101,116,101]))),(4,.k (.c (.str [112,97,116,99,104]))),(5,.k (.c (.str [109,101,114,103,101])))]),zM 0 1] [0]) .ret))
theorem K.jJ:fQ pZ 45 0 0 C.jJ [.tmp 0]=true:=by kernel_rfl
def C.bV:bf:=(.seq (.reg [qX 1 10 0,zA 2 (.mv (.k (.c (.str []))))] [1]) (.seq (.jW [(⟨none,some 5,.call 45 []⟩,[]),(qA 6 0 1,[]),(qF 7 1 6,[1]),(qD 8 1 5 7,[0,1,2]),(qF 9 1 8,[0,1,2,3]),(zA 10 (.bin .add (.t 9) (.k (.c (.str [32])))),[0,1,2,3,4]),(qA 11 1 1,[]),(qF 12 1 11,[6]),(zA 13 (.bin .add (.t 10) (.t 12)),[0,1,2,3,4,5,6,7]),(zA 14 (.bin .add (.t 13) (.k (.c (.str [32])))),[0,1,2,3,4,5,6,7,8]),(qA 15 2 1,[]),(qF 16 1 15,[10]),(q1 17 46 16,[0,10,11]),(zA 18 (.bin .add (.t 14) (.t 17)),[0,1,2,3,4,5,6,7,8,9,10,11,12]),(zA 19 (.bin .add (.t 18) (.k (.c (.str [32])))),[0,1,2,3,4,5,6,7,8,9,10,11,12,13]),(qA 20 3 1,[]),(qF 21 1 20,[15]),(q1 22 46 21,[0,10,11,12,15,16]),(zA 23 (.bin .add (.t 19) (.t 22)),[0,1,2,3,4,5,6,7,8,9,10,11,12,13,14,15,16,17]),(zA 24 (.bin .add (.t 23) (.k (.c (.str [32])))),[0,1,2,3,4,5,6,7,8,9,10,11,12,13,14,15,16,17,18]),(zM 3 24,[0,1,2,3,4,5,6,7,8,9,10,11,12,13,14,15,16,17,18,19])] [1,3]) (.seq (.seq (.reg [qA 25 0 1,qF 26 1 25,zA 27 (.bin .eql (.t 26) (kI 4))] [1,3,27]) (.cond (.t 27) (.seq (.seq (.reg [qI 4 0] [1,3,4]) (.block 0 (.loop (.seq (.seq (.reg [zM 28 4,qA 29 9 1,qF 30 1 29,qL 31 30,zA 32 (.bin .lss (.t 28) (.t 31))] [1,3,4,32]) (.cond (.t 32) .skip (.exit 0))) (.seq (.block 1 (.reg [zM 35 3,qA 36 9 1,qF 37 1 36,zM 38 4,qD 39 8 37 38,qT 40 8 39,q1 41 19 40,q1 42 47 41,zA 43 (.bin .add (.t 35) (.t 42)),zA 44 (.bin .add (.t 43) (.k (.c (.str [59])))),zM 3 44] [1,3,4])) (.reg [zM 33 4,zA 34 (.bin .add (.t 33) (kI 1)),zM 4 34] [1,3,4])))))) (.seq (.reg [zM 45 3,zM 2 45] [2]) .ret)) .skip)) (.seq (.reg [zM 46 3,qA 47 4 1,qT 48 5 47,q1 49 47 48,zA 50 (.bin .add (.t 46) (.t 49)),zM 2 50] [2]) .ret))))
theorem K.bV:fQ pZ 20 1 0 C.bV [.tmp 2]=true:=by kernel_rfl
def C.cZ:bf:=(.seq (.reg [qB 2 false] [0]) (.seq (.seq (.reg [qI 3 0] [0,3]) (.block 0 (.loop (.seq (.seq (.reg [zM 4 3,zM 5 0,qL 6 5,zA 7 (.bin .lss (.t 4) (.t 6))] [0,3,7]) (.cond (.t 7) .skip (.exit 0))) (.seq (.block 1 (.seq (.reg [zM 10 0,zM 11 3,qD 12 1 10 11,qF 13 1 12,q1 14 68 13,qO 15 14] [0,3,15]) (.cond (.t 15) (.seq (.reg [qB 2 false] [2]) .ret) .skip))) (.reg [zM 8 3,zA 9 (.bin .add (.t 8) (kI 1)),zM 3 9] [0,3])))))) (.seq (.reg [zM 16 0,qL 17 16,zA 18 (.bin .leq (.t 17) (kI 5)),zM 2 18] [2]) .ret)))
theorem K.cZ:fQ pZ 92 1 0 C.cZ [.tmp 2]=true:=by kernel_rfl
def C.iK:bf:=(.seq (.reg [qX 1 10 0,qB 2 false] [1]) (.seq (.reg [qA 3 0 1,qF 4 1 3,⟨none,some 5,.call 35 [.t 4,kI 1,kI 6]⟩,zM 6 5,zG 6 true 7 (.eu 1 (.t 1)),zG 6 true 8 (.load false 1 (.t 7)),⟨(some (6,true)),some 9,.call 92 [.t 8]⟩,qP 10 6 9,zM 11 10,zG 11 true 12 (.eu 2 (.t 1)),zG 11 true 13 (.load false 1 (.t 12)),⟨(some (11,true)),some 14,.call 92 [.t 13]⟩,qP 15 11 14,zM 16 15,zG 16 true 17 (.eu 3 (.t 1)),zG 16 true 18 (.load true 5 (.t 17)),⟨(some (16,true)),some 19,.call 18 [.t 18]⟩,qP 20 16 19,zM 2 20] [2]) .ret))
theorem K.iK:fQ pZ 67 1 0 C.iK [.tmp 2]=true:=by kernel_rfl
def C.cu:bf:=(.seq (.reg [qB 2 false] [0]) (.seq (.seq (.reg [qI 3 0] [0,3]) (.block 0 (.loop (.seq (.seq (.reg [zM 4 3,zM 5 0,qL 6 5,zA 7 (.bin .lss (.t 4) (.t 6))] [0,3,7]) (.cond (.t 7) .skip (.exit 0))) (.seq (.block 1 (.seq (.reg [zM 10 0,zM 11 3,qD 12 8 10 11,qT 13 8 12,q1 14 67 13,qO 15 14] [0,3,15]) (.cond (.t 15) (.seq (.reg [qB 2 false] [2]) .ret) .skip))) (.reg [zM 8 3,zA 9 (.bin .add (.t 8) (kI 1)),zM 3 9] [0,3])))))) (.seq (.reg [zM 16 0,qL 17 16,zA 18 (.bin .leq (.t 17) (kI 12)),zM 2 18] [2]) .ret)))
theorem K.cu:fQ pZ 38 1 0 C.cu [.tmp 2]=true:=by kernel_rfl
def C.fC:bf:=(.seq (.reg [qX 1 10 0,qB 2 false] [1]) (.seq (.reg [qA 3 0 1,qF 4 1 3,⟨none,some 5,.call 35 [.t 4,kI 1,kI 5]⟩,zM 6 5,zG 6 true 7 (.eu 1 (.t 1)),zG 6 true 8 (.load false 1 (.t 7)),⟨(some (6,true)),some 9,.call 36 [.t 8]⟩,qP 10 6 9,zM 11 10,zG 11 true 12 (.eu 2 (.t 1)),zG 11 true 13 (.load false 1 (.t 12)),⟨(some (11,true)),some 14,.call 37 [.t 13]⟩,qP 15 11 14,zM 16 15,zG 16 true 17 (.eu 3 (.t 1)),zG 16 true 18 (.load false 1 (.t 17)),⟨(some (16,true)),some 19,.call 37 [.t 18]⟩,qP 20 16 19,zM 21 20,zG 21 true 22 (.eu 4 (.t 1)),zG 21 true 23 (.load true 5 (.t 22)),⟨(some (21,true)),some 24,.call 18 [.t 23]⟩,qP 25 21 24,zM 26 25,zG 26 true 27 (.eu 9 (.t 1)),zG 26 true 28 (.load false 1 (.t 27)),⟨(some (26,true)),some 29,.call 38 [.t 28]⟩,qP 30 26 29,zM 2 30] [2]) .ret))
theorem K.fC:fQ pZ 17 1 0 C.fC [.tmp 2]=true:=by kernel_rfl
def C.ay:bf:=(.seq (.reg [qX 1 10 0,zA 2 (.mv (.k (.c (.str []))))] [1]) (.cut (.seq (.reg [qT 4 10 1,q1 5 17 4,qO 6 5,zM 7 6,zG 7 false 8 (.eu 4 (.t 1)),zG 7 false 9 (.eu 0 (.t 8)),zG 7 false 10 (.load false 1 (.t 9)),zG 7 false 11 (.bin .neq (.t 10) (kI 0)),zG 7 false 12 (.mv (.t 11)),zG 12 true 13 (.eu 0 (.t 1)),zG 12 true 14 (.load false 1 (.t 13)),zG 12 true 15 (.bin .neq (.t 14) (kI 2)),zG 7 false 16 (.pick (.t 12) (.t 15) (kB false)),zG 7 false 17 (.mv (.t 16)),zG 17 true 18 (.eu 0 (.t 1)),zG 17 true 19 (.load false 1 (.t 18)),zG 17 true 20 (.bin .neq (.t 19) (kI 5)),zG 7 false 21 (.pick (.t 17) (.t 20) (kB false)),qQ 22 7 21,zM 23 22,zG 23 false 24 (.eu 9 (.t 1)),zG 23 false 25 (.load false 1 (.t 24)),zG 23 false 26 (.len (.t 25)),zG 23 false 27 (.bin .gtr (.t 26) (kI 0)),zG 23 false 28 (.mv (.t 27)),zG 28 true 29 (.eu 0 (.t 1)),zG 28 true 30 (.load false 1 (.t 29)),zG 28 true 31 (.bin .neq (.t 30) (kI 4)),zG 23 false 32 (.pick (.t 28) (.t 31) (kB false)),qQ 33 23 32] [1,33]) (.cond (.t 33) (.seq (.reg [zA 2 (.mv (.k (.c (.str []))))] [2]) .ret) .skip)) (.seq (.seq (.reg [qI 3 0] [1,3]) (.block 0 (.loop (.seq (.seq (.reg [zM 34 3,qA 35 9 1,qF 36 1 35,qL 37 36,zA 38 (.bin .lss (.t 34) (.t 37))] [1,3,38]) (.cond (.t 38) .skip (.exit 0))) (.seq (.block 1 (.seq (.reg [qA 41 9 1,qF 42 1 41,zM 43 3,qD 44 8 42 43,qT 45 8 44,q1 46 19 45,q1 47 18 46,qO 48 47] [1,3,48]) (.cond (.t 48) (.seq (.reg [zA 2 (.mv (.k (.c (.str []))))] [2]) .ret) .skip))) (.reg [zM 39 3,zA 40 (.bin .add (.t 39) (kI 1)),zM 3 40] [1,3])))))) (.seq (.reg [qT 49 10 1,q1 50 20 49,zM 2 50] [2]) .ret))))
theorem K.ay:fQ pZ 7 1 0 C.ay [.tmp 2]=true:=by kernel_rfl
end Go.Ab
end
section
namespace Go.Ab
open Go
def Ev {α:Type} (g:Nat->Option α) (r:α):Prop:=∃ N,∀ n,N<=n->g n=some r
section
variable {α β:Type} {g g':Nat->Option α} {r s:α}
theorem Ev.ret (r:α):Ev (fun _=>some r) r:=⟨0,fun _ _=>rfl⟩
theorem Ev.ret' (h:s=r):Ev (fun _=>some s) r:=by subst h; exact Ev.ret _
theorem Ev.up (h:Ev (fun n=>g (n+1)) r):Ev g r:=by
 obtain ⟨N,h⟩:=h
 refine ⟨N+1,fun n hn => ?_⟩
 obtain ⟨m,rfl⟩:∃ m,n=m+1:=⟨n-1,by omega⟩
 exact h m (by omega)
theorem Ev.bind {h:Nat->Option β} {k:Nat->β->Option α} {a:β} (h1:Ev h a) (h2:Ev (fun n=>k n a) r):Ev (fun n=>Option.bind (h n) (k n)) r:=by
 obtain ⟨N,h1⟩:=h1
 obtain ⟨M,h2⟩:=h2
 refine ⟨max N M,fun n hn => ?_⟩
 show Option.bind (h n) (k n)=some r
 rw [h1 n (by omega)]
 exact h2 n (by omega)
theorem Ev.chk {p:Prop} [Decidable p] (hp:p) (h:Ev g r):Ev (fun n=>Ab.chk p (g n)) r:=by
 obtain ⟨N,h⟩:=h
 exact ⟨N,fun n hn=>by show Ab.chk p (g n)=some r; rw [Ab.chk,if_pos hp]; exact h n hn⟩
theorem Ev.ct {c:Bool} (hc:c=true) (h:Ev g r):Ev (fun n=>cond c (g n) (g' n)) r:=by subst hc; exact h
theorem Ev.cf {c:Bool} (hc:c=false) (h:Ev g' r):Ev (fun n=>cond c (g n) (g' n)) r:=by subst hc; exact h
theorem Ev.ite {c:Bool} (h:c=true->Ev g r) (h':c=false->Ev g' r):Ev (fun n=>cond c (g n) (g' n)) r:=by
 cases c
 ·exact h' rfl
 ·exact h rfl
theorem Ev.eq (h:Ev g r) (e:r=s):Ev g s:=e ▸ h
theorem Ev.val (h:Ev g r):∃ n,g n=some r:=⟨h.choose,h.choose_spec _ (Nat.le_refl _)⟩
end
theorem wrapN {x:Int} {m:Nat} (h:x=(m:Int)) (h1:m<9223372036854775808):IntKind.wrap .i64 x=(m:Int):=by
 rw [Ec (by omega) (by omega),h]
theorem dB {i:Nat} (h1:i+1<9223372036854775808):IntKind.wrap .i64 ((i:Int)+1)=((i+1:Nat):Int):=wrapN (by omega) h1
theorem fE {α:Type} {l:List α} {i:Nat} (d:α) (h:i<l.length):l.getD i d=l[i]:=by simp [List.getD,h]
theorem dm {α:Type} {l:List α} {i:Nat} (d:α) (h:i<l.length):l.drop i=l.getD i d::l.drop (i+1):=by
 rw [fE d h,List.drop_eq_getElem_cons h]
abbrev bl (x y:List UInt8):Bool:=Op.bytesLess x y
theorem KU (x:List UInt8):bl x []=false:=by cases x<;>rfl
theorem BV (a b:UInt8) (x y:List UInt8):bl (a::x) (b::y)=(decide (a<b)||(a==b&&bl x y)):=rfl
theorem yD:∀ x:List UInt8,bl x x=false
 | []=>rfl
 | a::x=>by rw [BV,yD x]; simp
theorem qR:∀ {x y z:List UInt8},bl x y=true->bl y z=true->bl x z=true
  | _,[],_,h,_=>by rw [KU] at h; cases h
  | _,_::_,[],_,h=>by rw [KU] at h; cases h
  | [],_::_,_::_,_,_=>rfl
  | a::x,b::y,c::z,h,k=>by
    rw [BV] at *
    simp only [Bool.or_eq_true,Bool.and_eq_true,decide_eq_true_eq,beq_iff_eq] at *
    rcases h with h | ⟨rfl,h⟩<;>rcases k with k | ⟨rfl,k⟩
    · exact .inl (UInt8.lt_trans h k)
    · exact .inl h
    · exact .inl k
    · exact .inr ⟨rfl,qR h k⟩
theorem yE:∀ {x y:List UInt8},bl x y=false->bl y x=false->x=y
  | [],[],_,_=>rfl
  | [],_::_,h,_=>by cases h
  | _::_,[],_,h=>by cases h
  | a::x,b::y,h,k=>by
    rw [BV] at *
    simp only [Bool.or_eq_false_iff,Bool.and_eq_false_iff,decide_eq_false_iff_not] at *
    obtain ⟨h1,h2⟩:=h
    obtain ⟨k1,k2⟩:=k
    have e:a=b:=by
      apply UInt8.toNat_inj.1
      simp only [UInt8.lt_iff_toNat_lt] at h1 k1
      omega
    subst e
    simp only [beq_self_eq_true,Bool.true_eq_false,false_or] at h2 k2
    rw [yE h2 k2]
theorem Eu {x y:List UInt8} (h:bl x y=true):bl y x=false:=by
 cases k:bl y x with
 | false=>rfl
 | true=>have:=qR h k; rw [yD] at this; cases this
theorem Bd {x y:List UInt8} (h:bl x y=true):x ≠ y:=by
 intro e; subst e; rw [yD] at h; cases h
end Go.Ab
end
section
namespace Go.Ab
open Go
def okB (b:UInt8):Bool:=decide (32<=b.toNat)&&decide (b.toNat<=126)
def PT (s:aK):Bool:=s.all okB&&decide (s.length<=12)
def PP (p:List aK):Bool:=p.all PT&&decide (p.length<=5)
def Asc:List aK->Bool
 | []=>true
 | [_]=>true
 | x::y::r=>Op.bytesLess x y&&Asc (y::r)
def big:Nat:=4611686018427387904
theorem rY (b:UInt8):IntKind.wrap .i64 ((b.toNat:Nat):Int)=(b.toNat:Int):=by
 have:=b.toNat_lt
 exact wrapN rfl (by omega)
theorem T.bu (a lo hi:Int):Ev (fun n=>G.bu n a lo hi) (decide (lo<=a)&&decide (a<=hi)):=by
 refine Ev.up ?_
 simp only [G.bu]
 refine Ev.ite (fun h => ?_) (fun h => ?_)
 ·exact Ev.ret' (by rw [h,Bool.true_and])
 ·exact Ev.ret' (by rw [h,Bool.false_and])
theorem T.bG.L1 (s:aK) (hs:s.length<big):∀ (k i:Nat),i+k=s.length->Ev (fun n=>G.bG.L1 n s i) ((s.drop i).all okB&&decide (s.length<=12)):=by
  unfold big at hs
  intro k
  induction k with
  | zero =>
    intro i hi
    refine Ev.up ?_
    simp only [G.bG.L1]
    refine Ev.cf (by simp; omega) (Ev.ret' ?_)
    rw [List.drop_of_length_le (by omega)]
    simp
    omega
  | succ k ih =>
    intro i hi
    refine Ev.up ?_
    simp only [G.bG.L1]
    refine Ev.ct (by simp; omega) (Ev.chk (by omega) ?_)
    refine Ev.bind (T.bu _ _ _) ?_
    rw [dm (0:UInt8) (by omega:i<s.length),List.all_cons,Int.toNat_natCast,rY]
    have e:(decide ((32:Int)<=((s.getD i 0).toNat:Int))&&decide (((s.getD i 0).toNat:Int)<=126))=okB (s.getD i 0):=by
      unfold okB; congr 1<;>(apply decide_eq_decide.2; omega)
    rw [e]
    refine Ev.ite (fun h => ?_) (fun h => ?_)
    · rw [dB (by omega),h,Bool.true_and]
      exact ih (i+1) (by omega)
    · exact Ev.ret' (by rw [h]; rfl)
theorem T.bG (s:aK) (hs:s.length<big):Ev (fun n=>G.bG n s) (PT s):=by
 refine Ev.up ?_
 simp only [G.bG]
 exact T.bG.L1 s hs s.length 0 (by omega)
theorem T.aT.L1 (s:aK) (hs:s.length<big):∀ (k i:Nat),i+k=s.length->Ev (fun n=>G.aT.L1 n s i) ((s.drop i).all okB):=by
  unfold big at hs
  intro k
  induction k with
  | zero =>
    intro i hi
    refine Ev.up ?_
    simp only [G.aT.L1]
    refine Ev.cf (by simp; omega) (Ev.ret' ?_)
    rw [List.drop_of_length_le (by omega)]
    rfl
  | succ k ih =>
    intro i hi
    refine Ev.up ?_
    simp only [G.aT.L1]
    rw [dm (0:UInt8) (by omega:i<s.length),List.all_cons,Int.toNat_natCast]
    refine Ev.ct (by simp; omega) (Ev.chk (by omega) ?_)
    refine Ev.ite (fun h => ?_) (fun h => ?_)
    · refine Ev.ret' ?_
      have:okB (s.getD i 0)=false:=by
        simp only [decide_eq_true_eq] at h
        simp only [okB,Bool.and_eq_false_iff,decide_eq_false_iff_not]
        omega
      rw [this]; rfl
    · refine Ev.chk (by omega) ?_
      refine Ev.ite (fun k => ?_) (fun k => ?_)
      · refine Ev.ret' ?_
        have:okB (s.getD i 0)=false:=by
          simp only [decide_eq_true_eq] at k
          simp only [okB,Bool.and_eq_false_iff,decide_eq_false_iff_not]
          omega
        rw [this]; rfl
      · have:okB (s.getD i 0)=true:=by
          simp only [decide_eq_false_iff_not] at h k
          simp only [okB,Bool.and_eq_true,decide_eq_true_eq]
          omega
        rw [this,Bool.true_and,dB (by omega)]
        exact ih (i+1) (by omega)
theorem T.aT (s:aK) (hs:s.length<big):Ev (fun n=>G.aT n s) (PT s):=by
 refine Ev.up ?_
 simp only [G.aT]
 refine Ev.ite (fun h => ?_) (fun h => ?_)
 ·simp only [decide_eq_true_eq] at h
  refine Ev.ret' ?_
  have:decide (s.length<=12)=false:=by simp; omega
  rw [PT,this,Bool.and_false]
 ·simp only [decide_eq_false_iff_not] at h
  refine (T.aT.L1 s hs s.length 0 (by omega)).eq ?_
  have:decide (s.length<=12)=true:=by simp; omega
  rw [PT,this,Bool.and_true,List.drop_zero]
def Sm (l:List aK):Prop:=l.length<big/\∀ s,s∈l->s.length<big
theorem Sm.get {l:List aK} (h:Sm l) {i:Nat} (hi:i<l.length):(l.getD i default).length<big:=by
 rw [fE _ hi]
 exact h.2 _ (List.getElem_mem hi)
theorem T.cZ.L1 (p:List aK) (hp:Sm p):∀ (k i:Nat),i+k=p.length->Ev (fun n=>G.cZ.L1 n p i) ((p.drop i).all PT&&decide (p.length<=5)):=by
  have hl:=hp.1
  unfold big at hl
  intro k
  induction k with
  | zero =>
    intro i hi
    refine Ev.up ?_
    simp only [G.cZ.L1]
    refine Ev.cf (by simp; omega) (Ev.ret' ?_)
    rw [List.drop_of_length_le (by omega)]
    simp
    omega
  | succ k ih =>
    intro i hi
    refine Ev.up ?_
    simp only [G.cZ.L1]
    refine Ev.ct (by simp; omega) (Ev.chk (by omega) ?_)
    rw [dm (default:aK) (by omega:i<p.length),List.all_cons,Int.toNat_natCast]
    refine Ev.bind (T.bG _ (hp.get (by omega))) ?_
    refine Ev.ite (fun h => ?_) (fun h => ?_)
    · rw [dB (by omega),h,Bool.true_and]
      exact ih (i+1) (by omega)
    · exact Ev.ret' (by rw [h]; rfl)
theorem T.cZ (p:List aK) (hp:Sm p):Ev (fun n=>G.cZ n p) (PP p):=by
 refine Ev.up ?_
 simp only [G.cZ]
 exact T.cZ.L1 p hp p.length 0 (by omega)
theorem T.dX.L1 (p:List aK) (hp:Sm p):∀ (k i:Nat),i+k=p.length->Ev (fun n=>G.dX.L1 n p i) ((p.drop i).all PT):=by
  have hl:=hp.1
  unfold big at hl
  intro k
  induction k with
  | zero =>
    intro i hi
    refine Ev.up ?_
    simp only [G.dX.L1]
    refine Ev.cf (by simp; omega) (Ev.ret' ?_)
    rw [List.drop_of_length_le (by omega)]
    rfl
  | succ k ih =>
    intro i hi
    refine Ev.up ?_
    simp only [G.dX.L1]
    refine Ev.ct (by simp; omega) (Ev.chk (by omega) ?_)
    rw [dm (default:aK) (by omega:i<p.length),List.all_cons,Int.toNat_natCast]
    refine Ev.bind (T.aT _ (hp.get (by omega))) ?_
    refine Ev.ite (fun h => ?_) (fun h => ?_)
    · rw [dB (by omega),h,Bool.true_and]
      exact ih (i+1) (by omega)
    · exact Ev.ret' (by rw [h]; rfl)
theorem T.dX (p:List aK) (hp:Sm p):Ev (fun n=>G.dX n p) (PP p):=by
 refine Ev.up ?_
 simp only [G.dX]
 refine Ev.ite (fun h => ?_) (fun h => ?_)
 ·simp only [decide_eq_true_eq] at h
  refine Ev.ret' ?_
  have:decide (p.length<=5)=false:=by simp; omega
  rw [PP,this,Bool.and_false]
 ·simp only [decide_eq_false_iff_not] at h
  refine (T.dX.L1 p hp p.length 0 (by omega)).eq ?_
  have:decide (p.length<=5)=true:=by simp; omega
  rw [PP,this,Bool.and_true,List.drop_zero]
def NM (l:List aK):Bool:=l.all PT&&Asc l
theorem drop_pred {l:List aK} {i:Nat} (h0:0<i) (h:i<l.length):l.drop (i-1)=l.getD (i-1) default::l.getD i default::l.drop (i+1):=by
 rw [dm (default:aK) (by omega:i-1<l.length),show i-1+1=i by omega,dm (default:aK) h]
theorem T.fM.L1 (l:List aK) (hp:Sm l):∀ (k i:Nat),i+k=l.length->Ev (fun n=>G.fM.L1 n l i) ((l.drop i).all PT&&Asc (l.drop (i-1))):=by
  have hl:=hp.1
  unfold big at hl
  intro k
  induction k with
  | zero =>
    intro i hi
    refine Ev.up ?_
    simp only [G.fM.L1]
    refine Ev.cf (by simp; omega) (Ev.ret' ?_)
    rw [List.drop_of_length_le (by omega)]
    by_cases h0:i=0
    · rw [List.drop_of_length_le (by omega)]; rfl
    · rw [dm (default:aK) (by omega:i-1<l.length),List.drop_of_length_le (by omega)]; rfl
  | succ k ih =>
    intro i hi
    refine Ev.up ?_
    simp only [G.fM.L1]
    refine Ev.ct (by simp; omega) (Ev.chk (by omega) ?_)
    rw [dm (default:aK) (by omega:i<l.length),List.all_cons,Int.toNat_natCast]
    refine Ev.bind (T.bG _ (hp.get (by omega))) ?_
    refine Ev.ite (fun h => ?_) (fun h => ?_)
    · rw [h,Bool.true_and,dB (by omega)]
      refine Ev.ite (fun h0 => ?_) (fun h0 => ?_)
      · simp only [decide_eq_true_eq] at h0
        have e:IntKind.wrap .i64 ((i:Int)-1)=((i-1:Nat):Int):=wrapN (by omega) (by omega)
        rw [e,Int.toNat_natCast]
        refine Ev.chk (by omega) (Ev.chk (by omega) ?_)
        rw [drop_pred (by omega) (by omega),Asc]
        have hd:l.getD i default::l.drop (i+1)=l.drop (i+1-1):=by rw [Nat.add_sub_cancel,<- dm (default:aK) (by omega:i<l.length)]
        refine Ev.ite (fun h1 => ?_) (fun h1 => ?_)
        · exact Ev.ret' (by rw [show Op.bytesLess (l.getD (i-1) default) (l.getD i default)=false from Eu h1]; simp)
        · refine Ev.ite (fun h2 => ?_) (fun h2 => ?_)
          · rw [beq_iff_eq] at h2
            exact Ev.ret' (by rw [show Op.bytesLess (l.getD (i-1) default) (l.getD i default)=false by rw [h2]; exact yD _]; simp)
          · have:Op.bytesLess (l.getD (i-1) default) (l.getD i default)=true:=by
              cases hb:Op.bytesLess (l.getD (i-1) default) (l.getD i default) with
              | true=>rfl
              | false=>rw [yE h1 hb] at h2; simp at h2
            rw [this,Bool.true_and,hd]
            exact ih (i+1) (by omega)
      · simp only [decide_eq_false_iff_not] at h0
        have:i=0:=by omega
        subst this
        exact ih 1 (by omega)
    · exact Ev.ret' (by rw [h]; rfl)
theorem T.fM (l:List aK) (hp:Sm l):Ev (fun n=>G.fM n l) (NM l):=by
 refine Ev.up ?_
 simp only [G.fM]
 exact T.fM.L1 l hp l.length 0 (by omega)
theorem T.dw.L1 (l:List aK) (hp:Sm l):∀ (k i:Nat),i+k=l.length->Ev (fun n=>G.dw.L1 n l i) ((l.drop i).all PT&&Asc (l.drop (i-1))):=by
  have hl:=hp.1
  unfold big at hl
  intro k
  induction k with
  | zero =>
    intro i hi
    refine Ev.up ?_
    simp only [G.dw.L1]
    refine Ev.cf (by simp; omega) (Ev.ret' ?_)
    rw [List.drop_of_length_le (by omega)]
    by_cases h0:i=0
    · rw [List.drop_of_length_le (by omega)]; rfl
    · rw [dm (default:aK) (by omega:i-1<l.length),List.drop_of_length_le (by omega)]; rfl
  | succ k ih =>
    intro i hi
    refine Ev.up ?_
    simp only [G.dw.L1]
    refine Ev.ct (by simp; omega) (Ev.chk (by omega) ?_)
    rw [dm (default:aK) (by omega:i<l.length),List.all_cons,Int.toNat_natCast]
    refine Ev.bind (T.aT _ (hp.get (by omega))) ?_
    refine Ev.ite (fun h => ?_) (fun h => ?_)
    · rw [h,Bool.true_and,dB (by omega)]
      refine Ev.ite (fun h0 => ?_) (fun h0 => ?_)
      · simp only [decide_eq_true_eq] at h0
        have e:IntKind.wrap .i64 ((i:Int)-1)=((i-1:Nat):Int):=wrapN (by omega) (by omega)
        rw [e,Int.toNat_natCast]
        refine Ev.chk (by omega) ?_
        rw [drop_pred (by omega) (by omega),Asc]
        have hd:l.getD i default::l.drop (i+1)=l.drop (i+1-1):=by rw [Nat.add_sub_cancel,<- dm (default:aK) (by omega:i<l.length)]
        refine Ev.ite (fun h1 => ?_) (fun h1 => ?_)
        · rw [h1,Bool.true_and,hd]
          exact ih (i+1) (by omega)
        · exact Ev.ret' (by rw [h1]; simp)
      · simp only [decide_eq_false_iff_not] at h0
        have:i=0:=by omega
        subst this
        exact ih 1 (by omega)
    · exact Ev.ret' (by rw [h]; rfl)
theorem T.dw (l:List aK) (hp:Sm l):Ev (fun n=>G.dw n l) (NM l&&decide (l.length<=6)):=by
 refine Ev.up ?_
 simp only [G.dw]
 refine Ev.ite (fun h => ?_) (fun h => ?_)
 ·simp only [decide_eq_true_eq] at h
  refine Ev.ret' ?_
  have:decide (l.length<=6)=false:=by simp; omega
  rw [this,Bool.and_false]
 ·simp only [decide_eq_false_iff_not] at h
  refine (T.dw.L1 l hp l.length 0 (by omega)).eq ?_
  have:decide (l.length<=6)=true:=by simp; omega
  rw [NM,this,Bool.and_true,List.drop_zero]
end Go.Ab
end
section
namespace Go.Ab
open Go
def Fine (B:Nat):Nat->af->Prop
 | 0,_=>False
 | d+1,n=>n.Text.length<=B/\n.Names.length<=B/\(∀ s,s∈n.Names->s.length<=B)/\n.Kids.length<=B/\(n.Kind=4->n.Kids.length<=n.Names.length)/\∀ k,k∈n.Kids->Fine B d k
theorem Fine.mono {B C:Nat} (hB:B<=C):∀ {d e:Nat} {n:af},d<=e->Fine B d n->Fine C e n
  | 0,_,_,_,h=>h.elim
  | d+1,0,_,hd,_=>by omega
  | d+1,e+1,n,hd,h=>by
    obtain ⟨h1,h2,h3,h4,h5,h6⟩:=h
    exact ⟨by omega,by omega,fun s hs=>Nat.le_trans (h3 s hs) hB,by omega,h5,fun k hk=>(h6 k hk).mono hB (by omega)⟩
def lim:Nat:=4294967296
theorem Fine.sm {B d:Nat} {n:af} (hB:B<=lim) (h:Fine B d n):Sm n.Names:=by
  cases d with
  | zero=>exact h.elim
  | succ d =>
    obtain ⟨h1,h2,h3,h4,h5,h6⟩:=h
    unfold lim at hB
    exact ⟨by unfold big; omega,fun s hs=>by have:=h3 s hs; unfold big; omega⟩
theorem Fine.text {B d:Nat} {n:af} (hB:B<=lim) (h:Fine B d n):n.Text.length<big:=by
 cases d with
 | zero=>exact h.elim
 | succ d=>obtain ⟨h1,_⟩:=h; unfold lim at hB; unfold big; omega
theorem Fine.kids {B d:Nat} {n:af} (h:Fine B d n):n.Kids.length<=B:=by
 cases d with
 | zero=>exact h.elim
 | succ d=>exact h.2.2.2.1
theorem Fine.names {B d:Nat} {n:af} (h:Fine B d n):n.Names.length<=B:=by
 cases d with
 | zero=>exact h.elim
 | succ d=>exact h.2.1
theorem Fine.map {B d:Nat} {n:af} (h:Fine B d n) (hk:n.Kind=4):n.Kids.length<=n.Names.length:=by
 cases d with
 | zero=>exact h.elim
 | succ d=>exact h.2.2.2.2.1 hk
theorem Fine.kid {B d:Nat} {n:af} (h:Fine B (d+1) n) {i:Nat} (hi:i<n.Kids.length):Fine B d (n.Kids.getD i default):=by
 rw [fE _ hi]
 exact h.2.2.2.2.2 _ (List.getElem_mem hi)
def Parts (n:af):Bool :=
  (n.Kind==1||n.Num==0)&&(n.Kind==2||n.Text==[])&&(n.Kind==4||n.Names.length==0) &&
  (if n.Kind=0 then n.Kids.length==0 else if n.Kind=1 then (decide (-999999<=n.Num)&&decide (n.Num<=999999))&&n.Kids.length==0 else if n.Kind=2 then PT n.Text&&n.Kids.length==0
   else if n.Kind=3 then decide (n.Kids.length<=6) else if n.Kind=4 then NM n.Names&&decide (n.Names.length<=6)&&n.Kids.length==n.Names.length else false)
def Shape:Nat->af->Bool
 | 0,_=>false
 | d+1,n=>Parts n&&n.Kids.all (Shape d)
theorem ilen {a b:Nat} : (((a:Nat):Int)==((b:Nat):Int))=(a==b):=by
 rw [Bool.eq_iff_iff]; simp; omega
theorem Rq {a:Nat} : (((a:Nat):Int)==0)=(a==0):=by
 rw [Bool.eq_iff_iff]; simp
theorem yg {a b:Nat} : decide (((a:Nat):Int)<=((b:Nat):Int))=decide (a<=b):=by
 rw [Bool.eq_iff_iff]; simp
def tV (n:af):Bool :=
  (n.Kind==4||n.Names.length==0) &&
  (if n.Kind=0 then n.Kids.length==0 else if n.Kind=1 then (decide (-999999<=n.Num)&&decide (n.Num<=999999))&&n.Kids.length==0 else if n.Kind=2 then PT n.Text&&n.Kids.length==0
   else if n.Kind=3 then decide (n.Kids.length<=6) else if n.Kind=4 then NM n.Names&&decide (n.Names.length<=6)&&n.Kids.length==n.Names.length else false)
theorem KJ (n:af):Parts n=((n.Kind==1||n.Num==0)&&(n.Kind==2||n.Text==[])&&tV n):=by
 unfold Parts tV; simp only [Bool.and_assoc]
theorem T.aV.K1 {B d:Nat} {n:af} (hB:B<=lim) (h:Fine B d n):Ev (fun f=>G.aV.K1 f n) (tV n):=by
 refine Ev.up ?_
 simp only [G.aV.K1]
 have ht:=T.aT _ (h.text hB)
 have hn:=T.dw _ (h.sm hB)
 have h0:decide ((0:Int)<((n.Names.length:Nat):Int)) = !(n.Names.length==0):=by
  cases hq:n.Names.length<;>simp
 have h6:decide (((n.Kids.length:Nat):Int)<=6)=decide (n.Kids.length<=6):=by rw [Bool.eq_iff_iff]; simp; omega
 rw [h0]
 have tail:Ev (fun f=>cond (n.Kind==0) (some (((n.Kids.length:Nat):Int)==0)) (cond (n.Kind==1) (cond (decide ((-999999)<=n.Num)) (cond (decide (n.Num<=999999)) (some (((n.Kids.length:Nat):Int)==0)) (some false)) (some false))
   (cond (n.Kind==2) (Option.bind (G.aT f n.Text) fun v3=>cond v3 (some (((n.Kids.length:Nat):Int)==0)) (some false))
   (cond (n.Kind==3) (some (decide (((n.Kids.length:Nat):Int)<=6))) (cond (n.Kind==4) (Option.bind (G.dw f n.Names) fun v4=>cond v4 (some (((n.Kids.length:Nat):Int)==((n.Names.length:Nat):Int))) (some false)) (some false))))))
   (if n.Kind=0 then n.Kids.length==0 else if n.Kind=1 then (decide (-999999<=n.Num)&&decide (n.Num<=999999))&&n.Kids.length==0 else if n.Kind=2 then PT n.Text&&n.Kids.length==0
    else if n.Kind=3 then decide (n.Kids.length<=6) else if n.Kind=4 then NM n.Names&&decide (n.Names.length<=6)&&n.Kids.length==n.Names.length else false):=by
  rw [Rq,ilen,h6]
  refine Ev.ite (fun e=>Ev.ret' ?_) (fun e0 => ?_)
  ·rw [if_pos (by simpa using e)]
  rw [if_neg (by simpa using e0)]
  refine Ev.ite (fun e => ?_) (fun e1 => ?_)
  ·rw [if_pos (by simpa using e)]
   refine Ev.ite (fun k=>Ev.ite (fun k2=>Ev.ret' ?_) (fun k2=>Ev.ret' ?_)) (fun k=>Ev.ret' ?_)
   ·rw [k,k2]; simp
   ·rw [k2]; simp
   ·rw [k]; simp
  rw [if_neg (by simpa using e1)]
  refine Ev.ite (fun e => ?_) (fun e2 => ?_)
  ·rw [if_pos (by simpa using e)]
   refine Ev.bind ht (Ev.ite (fun k=>Ev.ret' ?_) (fun k=>Ev.ret' ?_))
   ·rw [k,Bool.true_and]
   ·rw [k,Bool.false_and]
  rw [if_neg (by simpa using e2)]
  refine Ev.ite (fun e=>Ev.ret' ?_) (fun e3 => ?_)
  ·rw [if_pos (by simpa using e)]
  rw [if_neg (by simpa using e3)]
  refine Ev.ite (fun e => ?_) (fun e4=>Ev.ret' ?_)
  ·rw [if_pos (by simpa using e)]
   refine Ev.bind hn (Ev.ite (fun k=>Ev.ret' ?_) (fun k=>Ev.ret' ?_))
   ·rw [k,Bool.true_and]
   ·rw [k,Bool.false_and]
  ·rw [if_neg (by simpa using e4)]
 refine Ev.ite (fun e => ?_) (fun e => ?_)
 ·have e':(n.Kind==4)=false:=by simpa using e
  refine Ev.ite (fun k=>Ev.ret' ?_) (fun k => ?_)
  ·rw [Bool.not_eq_true'] at k; rw [tV,e',k]; rfl
  ·rw [Bool.not_eq_false'] at k; exact tail.eq (by rw [tV,k,Bool.or_true,Bool.true_and])
 ·have e':(n.Kind==4)=true:=by simpa using e
  exact tail.eq (by rw [tV,e',Bool.true_or,Bool.true_and])
theorem T.aV {B d:Nat} {n:af} (hB:B<=lim) (h:Fine B d n):Ev (fun f=>G.aV f n) (Parts n):=by
 refine Ev.up ?_
 simp only [G.aV]
 have hk:=T.aV.K1 hB h
 rw [KJ]
 have tail:Ev (fun f=>cond (n.Kind != 2) (cond (n.Text==[]) (G.aV.K1 f n) (some false)) (G.aV.K1 f n)) ((n.Kind==2||n.Text==[])&&tV n):=by
  refine Ev.ite (fun e => ?_) (fun e => ?_)
  ·have e':(n.Kind==2)=false:=by simpa using e
   refine Ev.ite (fun k => ?_) (fun k=>Ev.ret' ?_)
   ·exact hk.eq (by rw [k,Bool.or_true,Bool.true_and])
   ·rw [e',k]; rfl
  ·have e':(n.Kind==2)=true:=by simpa using e
   exact hk.eq (by rw [e',Bool.true_or,Bool.true_and])
 refine Ev.ite (fun e => ?_) (fun e => ?_)
 ·have e':(n.Kind==1)=false:=by simpa using e
  refine Ev.ite (fun k=>Ev.ret' ?_) (fun k => ?_)
  ·have:(n.Num==0)=false:=by simpa using k
   rw [e',this]; rfl
  ·have:(n.Num==0)=true:=by simpa using k
   exact tail.eq (by rw [this,Bool.or_true,Bool.true_and])
 ·have e':(n.Kind==1)=true:=by simpa using e
  exact tail.eq (by rw [e',Bool.true_or,Bool.true_and])
end Go.Ab
end
section
namespace Go.Ab
open Go
theorem T.gV.L1 {B D d:Nat} {n:af} (hB:B<=lim) (h:Fine B (D+1) n) (hd:d<1000) (hs:∀ k,k∈n.Kids->Ev (fun f=>G.bT f k d) (Shape d k)) :
    ∀ (k i:Nat),i+k=n.Kids.length->Ev (fun f=>G.gV.L1 f n ((d+1:Nat):Int) i) ((n.Kids.drop i).all (Shape d)):=by
  have hl:=h.kids
  unfold lim at hB
  intro k
  induction k with
  | zero =>
    intro i hi
    refine Ev.up ?_
    simp only [G.gV.L1]
    refine Ev.cf (by simp; omega) (Ev.ret' ?_)
    rw [List.drop_of_length_le (by omega)]
    rfl
  | succ k ih =>
    intro i hi
    refine Ev.up ?_
    simp only [G.gV.L1]
    refine Ev.ct (by simp; omega) (Ev.chk (by omega) ?_)
    rw [dm (default:af) (by omega:i<n.Kids.length),List.all_cons,Int.toNat_natCast]
    have e:IntKind.wrap .i64 (((d+1:Nat):Int)-1)=(d:Int):=wrapN (by omega) (by omega)
    rw [e]
    refine Ev.bind (hs _ (by rw [fE _ (by omega:i<n.Kids.length)]; exact List.getElem_mem _)) ?_
    refine Ev.ite (fun h => ?_) (fun h => ?_)
    · rw [dB (by omega),h,Bool.true_and]
      exact ih (i+1) (by omega)
    · exact Ev.ret' (by rw [h]; rfl)
theorem T.gV {B D d:Nat} {n:af} (hB:B<=lim) (h:Fine B (D+1) n) (hd:d<1000) (hs:∀ k,k∈n.Kids->Ev (fun f=>G.bT f k d) (Shape d k)) :
  Ev (fun f=>G.gV f n ((d+1:Nat):Int)) (n.Kids.all (Shape d)):=by
 refine Ev.up ?_
 simp only [G.gV]
 exact T.gV.L1 hB h hd hs n.Kids.length 0 (by omega)
def RQ (d:Nat) (n:af):Bool :=
 if n.Kind=1 then decide (-999999<=n.Num)&&decide (n.Num<=999999) else if n.Kind=2 then PT n.Text else if n.Kind=3 then n.Kids.all (Shape d)
 else if n.Kind=4 then n.Names.length==n.Kids.length&&NM n.Names&&n.Kids.all (Shape d) else n.Kind==0
theorem T.bT.K1 {B D d:Nat} {n:af} (hB:B<=lim) (h:Fine B (D+1) n) (hd:d<1000) (hs:∀ k,k∈n.Kids->Ev (fun f=>G.bT f k d) (Shape d k)) :
  Ev (fun f=>G.bT.K1 f n ((d+1:Nat):Int)) (RQ d n):=by
 refine Ev.up ?_
 simp only [G.bT.K1]
 have hk:=T.gV hB h hd hs
 unfold RQ
 refine Ev.ite (fun e => ?_) (fun e1 => ?_)
 ·rw [if_pos (by simpa using e)]
  exact Ev.bind (T.bu _ _ _) (Ev.ret _)
 rw [if_neg (by simpa using e1)]
 refine Ev.ite (fun e => ?_) (fun e2 => ?_)
 ·rw [if_pos (by simpa using e)]
  exact Ev.bind (T.bG _ (h.text hB)) (Ev.ret _)
 rw [if_neg (by simpa using e2)]
 refine Ev.ite (fun e => ?_) (fun e3 => ?_)
 ·rw [if_pos (by simpa using e)]
  exact Ev.bind hk (Ev.ret _)
 rw [if_neg (by simpa using e3)]
 refine Ev.ite (fun e => ?_) (fun e4 => ?_)
 ·rw [if_pos (by simpa using e),ilen]
  refine Ev.ite (fun k => ?_) (fun k=>Ev.ret' (by rw [k]; rfl))
  refine Ev.bind (T.fM _ (h.sm hB)) ?_
  refine Ev.ite (fun k2 => ?_) (fun k2=>Ev.ret' (by rw [k2]; simp))
  exact Ev.bind hk (Ev.ret' (by rw [k,k2]; rfl))
 ·exact Ev.ret' (by rw [if_neg (by simpa using e4)])
theorem Rt {a:Nat} : decide ((0:Int)<((a:Nat):Int)) = !(a==0):=by cases a<;>simp
theorem Gx {c a:Bool} {g:Nat->Option Bool} {V:Bool} (h:Ev g V):Ev (fun f=>cond c (cond a (some false) (g f)) (g f)) ((!c || !a)&&V):=by
 cases c<;>cases a
 ·exact h
 ·exact h
 ·exact h
 ·exact Ev.ret _
theorem OB {c a:Bool} {g:Nat->Option Bool} {V:Bool} (h:Ev g V):Ev (fun f=>cond c (cond a (g f) (some false)) (g f)) ((!c||a)&&V):=by
 cases c<;>cases a
 ·exact h
 ·exact h
 ·exact Ev.ret _
 ·exact h
theorem uF {n:af} (h:6<n.Kids.length):Parts n=false:=by
  have e0:(n.Kids.length==0)=false:=beq_eq_false_iff_ne.2 (by omega)
  have e6:decide (n.Kids.length<=6)=false:=by simp; omega
  have e4:(NM n.Names&&decide (n.Names.length<=6)&&n.Kids.length==n.Names.length)=false:=by
    cases h1:decide (n.Names.length<=6) with
    | false=>simp
    | true =>
      have:(n.Kids.length==n.Names.length)=false:=by simp at h1; simp; omega
      rw [this,Bool.and_false]
  unfold Parts
  rw [e0,e6,e4]
  simp
theorem Nq {d:Nat} {n:af} (h:n.Kids.length<=6) :
  ((!(n.Kind != 1) || !(n.Num != 0))&&((!(n.Kind != 2)||n.Text==[])&&((!(n.Kind != 4) || !(!(n.Names.length==0)))&&((!(decide (n.Kind<3)) || !(!(n.Kids.length==0)))&&RQ d n))))=Shape (d+1) n:=by
 have e6:decide (n.Kids.length<=6)=true:=by simp; omega
 have hall:n.Kids.length=0->n.Kids.all (Shape d)=true:=fun e=>by rw [List.eq_nil_of_length_eq_zero e]; rfl
 have hb:∀ x y:Int,(!(x != y))=(x==y):=fun x y=>by simp [bne]
 rw [hb,hb,hb,hb]
 unfold Shape Parts RQ
 simp only [Bool.not_not,Bool.and_assoc]
 congr 1
 congr 1
 congr 1
 rw [e6]
 by_cases k0:n.Kind=0
 ·simp only [k0]; cases hz:(n.Kids.length==0)<;>simp_all
 by_cases k1:n.Kind=1
 ·simp only [k1]; cases hz:(n.Kids.length==0)<;>simp_all
 by_cases k2:n.Kind=2
 ·simp only [k2]; cases hz:(n.Kids.length==0)<;>simp_all
 by_cases k3:n.Kind=3
 ·simp [k3]
 by_cases k4:n.Kind=4
 ·simp only [k4]
  have hc:(n.Kids.length==n.Names.length)=(n.Names.length==n.Kids.length):=by rw [Bool.eq_iff_iff]; simp; omega
  rw [hc]
  cases hz:(n.Names.length==n.Kids.length)
  ·simp
  ·have:decide (n.Names.length<=6)=true:=by simp at hz; simp; omega
   simp [this]
 ·simp [k0,k1,k2,k3,k4]
def Cnt:Nat->af->Nat
 | 0,_=>0
 | d+1,n=>1+(n.Kids.map (Cnt d)).sum
theorem jH {d:Nat} {n:af} (h:Shape (d+1) n=true):Parts n=true:=by
 unfold Shape at h; simp only [Bool.and_eq_true] at h; exact h.1
theorem kL {d:Nat} {n:af} (h:Shape (d+1) n=true):∀ k,k∈n.Kids->Shape d k=true:=by
 unfold Shape at h; simp only [Bool.and_eq_true] at h; exact List.all_eq_true.1 h.2
theorem pq {d:Nat} {n:af} (h:Shape d n=true):n.Kids.length<=6:=by
  cases d with
  | zero=>cases h
  | succ d =>
    by_cases k:n.Kids.length<=6
    · exact k
    · have:=uF (n:=n) (by omega); rw [jH h] at this; cases this
theorem Nz {α:Type} (f:α->Nat) (m:Nat):∀ l:List α,(∀ x,x∈l->f x<=m)->(l.map f).sum<=l.length*m
  | [],_=>by simp
  | x::l,h=>by
    have h1:=Nz f m l (fun y hy=>h y (by simp [hy]))
    have h2:=h x (by simp)
    simp only [List.map_cons,List.sum_cons,List.length_cons,Nat.add_mul]
    omega
theorem cnt_le:∀ {d:Nat} {n:af},Shape d n=true->Cnt d n<=7^d
  | 0,_,h=>by cases h
  | d+1,n,h=>by
    have hk:=kL h
    have:=Nz (Cnt d) (7^d) n.Kids (fun k hk'=>cnt_le (hk k hk'))
    have h6:=pq h
    have hm:n.Kids.length*7^d<=6*7^d:=Nat.mul_le_mul_right _ h6
    have hp:1<=7^d:=Nat.one_le_pow _ _ (by omega)
    unfold Cnt
    rw [Nat.pow_succ]
    omega
theorem xh {d:Nat} (h:d<=5):7^d<=16807:=Nat.le_trans (Nat.pow_le_pow_right (by omega) h) (by decide)
theorem T.bT {B:Nat} (hB:B<=lim):∀ (d D:Nat) (n:af),d<1000->Fine B D n->Ev (fun f=>G.bT f n (d:Int)) (Shape d n):=by
  intro d
  induction d with
  | zero =>
    intro D n _ h
    refine Ev.up ?_
    simp only [G.bT]
    exact Ev.ct (by simp) (Ev.ret _)
  | succ d ih =>
    intro D n hd h
    cases D with
    | zero=>exact h.elim
    | succ D =>
    have hK:=T.bT.K1 (d:=d) hB h (by omega) (fun k hk=>ih D k (by omega) (h.2.2.2.2.2 k hk))
    refine Ev.up ?_
    simp only [G.bT]
    rw [Rt,Rt]
    have t1:=Gx (c:=decide (n.Kind<3)) (a := !(n.Kids.length==0)) hK
    have t2:=Gx (c:=n.Kind != 4) (a := !(n.Names.length==0)) t1
    have t3:=OB (c:=n.Kind != 2) (a:=n.Text==[]) t2
    have t4:=Gx (c:=n.Kind != 1) (a:=n.Num != 0) t3
    refine Ev.cf (by simp; omega) ?_
    refine Ev.ite (fun e=>Ev.ret' ?_) (fun e=>t4.eq ?_)
    · simp only [decide_eq_true_eq] at e
      rw [Shape,uF (by omega)]; rfl
    · simp only [decide_eq_false_iff_not] at e
      exact Nq (by omega)
theorem T.eH.L1 {B D d:Nat} {n:af} (hB:B<=lim) (h:Fine B (D+1) n) (hs:∀ k,k∈n.Kids->Ev (fun f=>G.eH f k) ((Cnt d k:Nat):Int)) :
    ∀ (k i c:Nat),i+k=n.Kids.length->c+((n.Kids.drop i).map (Cnt d)).sum<big->Ev (fun f=>G.eH.L1 f n (c:Int) i) ((c+((n.Kids.drop i).map (Cnt d)).sum:Nat):Int):=by
  have hl:=h.kids
  unfold lim at hB
  unfold big
  intro k
  induction k with
  | zero =>
    intro i c hi hc
    refine Ev.up ?_
    simp only [G.eH.L1]
    refine Ev.cf (by simp; omega) (Ev.ret' ?_)
    rw [List.drop_of_length_le (by omega)]
    rfl
  | succ k ih =>
    intro i c hi
    rw [dm (default:af) (by omega:i<n.Kids.length),List.map_cons,List.sum_cons]
    intro hc
    refine Ev.up ?_
    simp only [G.eH.L1]
    refine Ev.ct (by simp; omega) (Ev.chk (by omega) ?_)
    rw [Int.toNat_natCast]
    refine Ev.bind (hs _ (by rw [fE _ (by omega:i<n.Kids.length)]; exact List.getElem_mem _)) ?_
    rw [dB (by omega),wrapN (m:=c+Cnt d (n.Kids.getD i default)) (by omega) (by omega)]
    exact (ih (i+1) (c+Cnt d (n.Kids.getD i default)) (by omega) (by omega)).eq (by congr 1; omega)
theorem T.eH {B:Nat} (hB:B<=lim):∀ (d D:Nat) (n:af),d<=5->Fine B D n->Shape d n=true->Ev (fun f=>G.eH f n) ((Cnt d n:Nat):Int):=by
  intro d
  induction d with
  | zero=>intro D n _ _ h; cases h
  | succ d ih =>
    intro D n hd h hS
    cases D with
    | zero=>exact h.elim
    | succ D =>
    have hS':=kL hS
    refine Ev.up ?_
    simp only [G.eH]
    have:=cnt_le (d:=d+1) (n:=n) hS
    have hp:=xh hd
    refine (T.eH.L1 hB h (fun k hk=>ih D k (by omega) (h.2.2.2.2.2 k hk) (hS' k hk)) n.Kids.length 0 1 (by omega) ?_).eq rfl
    rw [List.drop_zero]
    show Cnt (d+1) n<big
    unfold big
    omega
def Val (n:af):Bool:=Shape 5 n&&decide (Cnt 5 n<=40)
theorem T.aS {B D:Nat} {n:af} (hB:B<=lim) (h:Fine B D n):Ev (fun f=>G.aS f n) (Val n):=by
 refine Ev.up ?_
 simp only [G.aS]
 refine Ev.bind (T.bT hB 5 D n (by omega) h) (Ev.ite (fun e => ?_) (fun e=>Ev.ret' (by rw [Val,e]; rfl)))
 refine Ev.bind (T.eH hB 5 D n (by omega) h e) (Ev.ret' ?_)
 rw [Val,e,Bool.true_and]
 apply decide_eq_decide.2
 omega
theorem T.aO.L1 {B D d l:Nat} {n:af} (hB:B<=lim) (h:Fine B (D+1) n) (hl:l<1000)
    (hs:∀ k,k∈n.Kids->∃ c dp,Ev (fun f=>G.aO f k ((l+1:Nat):Int)) (c,dp,Shape d k)/\(Shape d k=true->c=((Cnt d k:Nat):Int))) :
    ∀ (k i c:Nat) (dp:Int),i+k=n.Kids.length->(n.Kids.drop i).all (Shape d)=true->c+((n.Kids.drop i).map (Cnt d)).sum<big ->
      ∃ Q5,Ev (fun f=>G.aO.L1 f n (l:Int) (c:Int) dp i) (((c+((n.Kids.drop i).map (Cnt d)).sum:Nat):Int),Q5,true):=by
  have hk:=h.kids
  unfold lim at hB
  unfold big
  intro k
  induction k with
  | zero =>
    intro i c dp hi _ hc
    refine ⟨dp,Ev.up ?_⟩
    simp only [G.aO.L1]
    refine Ev.cf (by simp; omega) (Ev.ret' ?_)
    rw [List.drop_of_length_le (by omega)]
    rfl
  | succ k ih =>
    intro i c dp hi
    rw [dm (default:af) (by omega:i<n.Kids.length),List.map_cons,List.sum_cons,List.all_cons,Bool.and_eq_true]
    intro ⟨hS,hA⟩ hc
    obtain ⟨c1,d1,h1,h2⟩:=hs (n.Kids.getD i default) (by rw [fE _ (by omega:i<n.Kids.length)]; exact List.getElem_mem _)
    have e:=h2 hS
    subst e
    obtain ⟨Q5,g1⟩:=ih (i+1) (c+Cnt d (n.Kids.getD i default)) (if IntKind.wrap .i64 (d1+1)>dp then IntKind.wrap .i64 (d1+1) else dp) (by omega) hA (by omega)
    refine ⟨Q5,Ev.up ?_⟩
    simp only [G.aO.L1]
    refine Ev.ct (by simp; omega) (Ev.chk (by omega) ?_)
    rw [Int.toNat_natCast,dB (by omega)]
    refine Ev.bind h1 ?_
    refine Ev.ct hS ?_
    rw [dB (by omega),wrapN (m:=c+Cnt d (n.Kids.getD i default)) (by omega) (by omega)]
    exact g1.eq (by rw [Nat.add_assoc])
theorem T.aO.TP {B D d l:Nat} {n:af} (hB:B<=lim) (h:Fine B (D+1) n) (hl:l<1000)
    (hs:∀ k,k∈n.Kids->∃ c dp,Ev (fun f=>G.aO f k ((l+1:Nat):Int)) (c,dp,Shape d k)) :
    ∀ (k i:Nat) (c dp:Int),i+k=n.Kids.length->(n.Kids.drop i).all (Shape d)=false->Ev (fun f=>G.aO.L1 f n (l:Int) c dp i) (0,0,false):=by
  have hk:=h.kids
  unfold lim at hB
  intro k
  induction k with
  | zero =>
    intro i c dp hi hA
    rw [List.drop_of_length_le (by omega)] at hA
    cases hA
  | succ k ih =>
    intro i c dp hi
    rw [dm (default:af) (by omega:i<n.Kids.length),List.all_cons]
    intro hA
    obtain ⟨c1,d1,h1⟩:=hs (n.Kids.getD i default) (by rw [fE _ (by omega:i<n.Kids.length)]; exact List.getElem_mem _)
    refine Ev.up ?_
    simp only [G.aO.L1]
    refine Ev.ct (by simp; omega) (Ev.chk (by omega) ?_)
    rw [Int.toNat_natCast,dB (by omega)]
    refine Ev.bind h1 ?_
    refine Ev.ite (fun hS => ?_) (fun hS=>Ev.ret _)
    have hS:Shape d (n.Kids.getD i default)=true:=hS
    rw [hS,Bool.true_and] at hA
    rw [dB (by omega)]
    exact ih (i+1) _ _ (by omega) hA
theorem T.aO {B:Nat} (hB:B<=lim):∀ (d l D:Nat) (n:af),d+l=6->1<=l->Fine B D n ->
    ∃ c dp,Ev (fun f=>G.aO f n (l:Int)) (c,dp,Shape d n)/\(Shape d n=true->c=((Cnt d n:Nat):Int)):=by
  intro d
  induction d with
  | zero =>
    intro l D n hl h1 h
    refine ⟨0,0,Ev.up ?_,fun e=>by cases e⟩
    simp only [G.aO]
    exact Ev.ct (by simp; omega) (Ev.ret _)
  | succ d ih =>
    intro l D n hl h1 h
    cases D with
    | zero=>exact h.elim
    | succ D =>
    have hs:=fun k (hk:k∈n.Kids)=>ih (l+1) D k (by omega) (by omega) (h.2.2.2.2.2 k hk)
    have hp:=T.aV hB h
    cases hS:Shape (d+1) n with
    | true =>
      have hk:=kL hS
      have hc:=cnt_le hS
      have hpw:=xh (d:=d+1) (by omega)
      obtain ⟨Q5,g⟩:=T.aO.L1 hB h (by omega) hs n.Kids.length 0 1 1 (by omega) (by rw [List.drop_zero]; exact List.all_eq_true.2 hk) (by rw [List.drop_zero]; unfold big; show Cnt (d+1) n<_; omega)
      rw [List.drop_zero] at g
      refine ⟨((Cnt (d+1) n:Nat):Int),Q5,Ev.up ?_,fun _=>rfl⟩
      simp only [G.aO]
      exact Ev.cf (by simp; omega) (Ev.bind hp (Ev.ct (jH hS) g))
    | false =>
      refine ⟨0,0,Ev.up ?_,fun e=>by cases e⟩
      simp only [G.aO]
      refine Ev.cf (by simp; omega) (Ev.bind hp (Ev.ite (fun e => ?_) (fun e=>Ev.ret _)))
      refine T.aO.TP (d:=d) hB h (by omega) (fun k hk => ?_) n.Kids.length 0 1 1 (by omega) ?_
      · obtain ⟨c,dp,g,_⟩:=hs k hk; exact ⟨c,dp,g⟩
      · rw [List.drop_zero]; unfold Shape at hS; rw [e,Bool.true_and] at hS; exact hS
theorem T.dD {B D:Nat} {n:af} (hB:B<=lim) (h:Fine B D n):Ev (fun f=>G.dD f n) (Val n):=by
 obtain ⟨c,dp,g,hc⟩:=T.aO hB 5 1 D n rfl (by omega) h
 refine Ev.up ?_
 simp only [G.dD]
 refine Ev.bind g (Ev.ite (fun e=>Ev.ret' ?_) (fun e=>Ev.ret' ?_))
 ·have e:Shape 5 n=true:=e
  show decide (c<=40)=_
  rw [hc e,Val,e,Bool.true_and]
  apply decide_eq_decide.2
  omega
 ·have e:Shape 5 n=false:=e
  rw [Val,e]; rfl
theorem T.ax.L1 {B D:Nat} {n:af} (hB:B<=lim) (h:Fine B (D+1) n) (hs:∀ k,k∈n.Kids->Ev (fun f=>G.ax f k) k) :
    ∀ (k i:Nat),i+k=n.Kids.length->Ev (fun f=>G.ax.L1 f n i (n.Kids.take i)) n:=by
  have hl:=h.kids
  have hn:=h.names
  unfold lim at hB
  intro k
  induction k with
  | zero =>
    intro i hi
    refine Ev.up ?_
    simp only [G.ax.L1]
    refine Ev.cf (by simp; omega) (Ev.chk (by omega) (Ev.ret' ?_))
    rw [List.take_of_length_le (by omega)]
    cases n; rfl
  | succ k ih =>
    intro i hi
    refine Ev.up ?_
    simp only [G.ax.L1]
    refine Ev.ct (by simp; omega) (Ev.chk (by omega) ?_)
    rw [Int.toNat_natCast]
    refine Ev.bind (hs _ (by rw [fE _ (by omega:i<n.Kids.length)]; exact List.getElem_mem _)) ?_
    refine Ev.chk (by rw [List.length_take]; omega) ?_
    have e:n.Kids.take i++[n.Kids.getD i default]=n.Kids.take (i+1):=by rw [fE _ (by omega:i<n.Kids.length),List.take_succ_eq_append_getElem (by omega)]
    rw [dB (by omega),e]
    exact ih (i+1) (by omega)
theorem T.ax {B:Nat} (hB:B<=lim):∀ {D:Nat} {n:af},Fine B D n->Ev (fun f=>G.ax f n) n:=by
  intro D
  induction D with
  | zero=>intro n h; exact h.elim
  | succ D ih =>
    intro n h
    refine Ev.up ?_
    simp only [G.ax]
    exact T.ax.L1 hB h (fun k hk=>ih (h.2.2.2.2.2 k hk)) n.Kids.length 0 (by omega)
theorem T.bz.L2 {B D:Nat} {n:af} (zs:List aK) (hB:B<=lim) (h:Fine B (D+1) n) (hs:∀ k,k∈n.Kids->Ev (fun f=>G.bz f k) k) :
    ∀ (k i:Nat) (z:List af),i+k=n.Kids.length->z.length=n.Kids.length->z.take i=n.Kids.take i->Ev (fun f=>G.bz.L2 f n zs i z) (af.mk n.Kind n.Num n.Text zs n.Kids):=by
  have hl:=h.kids
  unfold lim at hB
  intro k
  induction k with
  | zero =>
    intro i z hi hz ht
    refine Ev.up ?_
    simp only [G.bz.L2]
    refine Ev.cf (by simp; omega) (Ev.ret' ?_)
    rw [List.take_of_length_le (by omega),List.take_of_length_le (by omega)] at ht
    rw [ht]
  | succ k ih =>
    intro i z hi hz ht
    refine Ev.up ?_
    simp only [G.bz.L2]
    refine Ev.ct (by simp; omega) (Ev.chk (by omega) ?_)
    rw [Int.toNat_natCast]
    refine Ev.bind (hs _ (by rw [fE _ (by omega:i<n.Kids.length)]; exact List.getElem_mem _)) ?_
    refine Ev.chk (by omega) ?_
    rw [dB (by omega)]
    refine ih (i+1) _ (by omega) (by rw [List.length_set]; exact hz) ?_
    rw [fE _ (by omega:i<n.Kids.length),List.take_succ_eq_append_getElem (by rw [List.length_set]; omega),List.take_succ_eq_append_getElem (by omega:i<n.Kids.length),List.getElem_set_self,List.take_set_of_le (Nat.le_refl i),ht]
theorem T.bz {B:Nat} (hB:B<=lim):∀ {D:Nat} {n:af},Fine B D n->Ev (fun f=>G.bz f n) n:=by
  intro D
  induction D with
  | zero=>intro n h; exact h.elim
  | succ D ih =>
    intro n h
    have hl:=h.kids
    have hn:=h.names
    have hB':=hB
    unfold lim at hB'
    have hK:Ev (fun f=>G.bz.K1 f n n.Names) n:=by
      refine Ev.up ?_
      simp only [G.bz.K1]
      refine Ev.ite (fun e => ?_) (fun e=>Ev.ret' ?_)
      · refine Ev.chk (by omega) ?_
        refine (T.bz.L2 n.Names hB h (fun k hk=>ih (h.2.2.2.2.2 k hk)) n.Kids.length 0 (List.replicate n.Kids.length (af.mk 0 0 [] [] [])) (by omega) (by simp) rfl).eq ?_
        cases n; rfl
      · have:n.Kids=[]:=by
          apply List.eq_nil_of_length_eq_zero
          simp only [decide_eq_false_iff_not] at e; omega
        cases n; simp only at this; subst this; rfl
    refine Ev.up ?_
    simp only [G.bz]
    refine Ev.ite (fun e => ?_) (fun e => ?_)
    · exact Ev.chk (by omega) hK
    · have:n.Names=[]:=by
        apply List.eq_nil_of_length_eq_zero
        simp only [decide_eq_false_iff_not] at e; omega
      rw [this] at hK
      exact hK
end Go.Ab
end
section
namespace Go.Ab
open Go
def ou (i:Nat):aK:=if i<10 then [UInt8.ofNat (48+i)] else ou (i/10)++[UInt8.ofNat (48+i%10)]
 termination_by i
theorem pU {i:Nat} (h:i<10):ou i=[UInt8.ofNat (48+i)]:=by rw [ou,if_pos h]
theorem yU {i:Nat} (h:¬ i<10):ou i=ou (i/10)++[UInt8.ofNat (48+i%10)]:=by rw [ou,if_neg h]
theorem Ll:∀ (k i:Nat),i<k->(ou i).length<=i+1:=by
  intro k
  induction k with
  | zero=>intro i h; omega
  | succ k ih =>
    intro i h
    by_cases hi:i<10
    · rw [pU hi]; simp
    · rw [yU hi,List.length_append]
      have:=ih (i/10) (by omega)
      simp only [List.length_singleton]
      omega
theorem wrap_u8 {m:Nat} (h:m<256):IntKind.wrap .u8 (m:Int)=m:=by
 simp only [IntKind.wrap,IntKind.bits,IntKind.signed]
 simp
 omega
theorem T.dK:∀ (k i:Nat),i<k->i<lim->Ev (fun f=>G.dK f (i:Int)) (ou i):=by
  intro k
  induction k with
  | zero=>intro i h; omega
  | succ k ih =>
    intro i h hl
    unfold lim at hl
    have hm:4294967296<maxLen:=by decide
    refine Ev.up ?_
    simp only [G.dK]
    refine Ev.cf (by simp) ?_
    refine Ev.ite (fun e => ?_) (fun e => ?_)
    · simp only [decide_eq_true_eq] at e
      refine Ev.chk (by omega) (Ev.ret' ?_)
      rw [pU (by omega),wrapN (m:=48+i) (by omega) (by omega),wrap_u8 (by omega),Int.toNat_natCast]
    · simp only [decide_eq_false_iff_not] at e
      have e1:Int.tdiv (i:Int) 10=((i/10:Nat):Int):=by rw [Int.tdiv_eq_ediv_of_nonneg (by omega)]; omega
      have e2:Int.tmod (i:Int) 10=((i%10:Nat):Int):=by rw [Int.tmod_eq_emod_of_nonneg (by omega)]; omega
      rw [e1,e2,wrapN (m:=i/10) rfl (by omega),wrapN (m:=48+i%10) (by omega) (by omega),wrap_u8 (by omega),Int.toNat_natCast]
      refine Ev.bind (ih (i/10) (by omega) (by unfold lim; omega)) ?_
      have:=Ll (i/10+1) (i/10) (by omega)
      refine Ev.chk (by omega) (Ev.chk (by omega) (Ev.ret' ?_))
      exact (yU (by omega)).symm
theorem T.decimal {i:Nat} (h:i<lim):Ev (fun f=>G.dK f (i:Int)) (ou i):=T.dK (i+1) i (by omega) h
theorem Lp:∀ (k i:Nat),i<k->Lib.decDigits i=ou i:=by
  intro k
  induction k with
  | zero=>intro i h; omega
  | succ k ih =>
    intro i h
    by_cases h10:i<10
    · rw [Lib.decDigits_one h10,pU h10]
    · rw [yU h10,Lib.decDigits,dif_neg h10,ih (i/10) (by omega)]
theorem T.Itoa {n:Int} (h : -900000000000000<=n/\n<=900000000000000):Ev (fun f=>G.strconv_Itoa f n) (Lib.itoa n):=by
 refine Ev.up ?_
 simp only [G.strconv_Itoa]
 exact Ev.chk ⟨by omega,Nat.le_trans (Lib.itoa_length_le n (by omega) (by omega)) (by decide)⟩ (Ev.ret _)
def hit (n:af) (s:aK) (j:Nat):Bool:=(n.Kind==4&&n.Names.getD j default==s)||(n.Kind==3&&ou j==s)
def zJ (n:af) (s:aK):Option Nat:=(List.range' 0 n.Kids.length).find? (hit n s)
def qK:Option Nat->Int
 | some j=>j
 | none => -1
theorem pX {n:af} {s:aK} {j:Nat} (h:zJ n s=some j):j<n.Kids.length:=by
 have:=List.mem_of_find?_eq_some h
 simp at this
 exact this
theorem DL {n:af} {s:aK} {j:Nat} (h:zJ n s=some j):hit n s j=true:=List.find?_some h
theorem T.bW.L1 {B D:Nat} {n:af} (s:aK) (hB:B<=lim) (h:Fine B D n) :
    ∀ (k i:Nat),i+k=n.Kids.length->Ev (fun f=>G.bW.L1 f n s i) (qK ((List.range' i k).find? (hit n s))):=by
  have hl:=h.kids
  have hm:=h.map
  intro k
  induction k with
  | zero =>
    intro i hi
    refine Ev.up ?_
    simp only [G.bW.L1]
    exact Ev.cf (by simp; omega) (Ev.ret _)
  | succ k ih =>
    intro i hi
    have hih:=ih (i+1) (by omega)
    have hd:=T.decimal (i:=i) (by omega)
    unfold lim at hB
    rw [List.range'_succ,List.find?_cons]
    have SC:n.Kind ≠ 4->Ev (fun f=>cond (n.Kind==3) (Option.bind (G.dK f (i:Int)) fun v5=>cond (v5==s) (some (i:Int)) (G.bW.L1 f n s (IntKind.wrap .i64 ((i:Int)+1)))) (G.bW.L1 f n s (IntKind.wrap .i64 ((i:Int)+1))))
        (qK (match hit n s i with | true=>some i | false=>(List.range' (i+1) k).find? (hit n s))):=by
      intro h4
      have e4:(n.Kind==4)=false:=by simpa using h4
      rw [dB (by omega)]
      refine Ev.ite (fun e => ?_) (fun e => ?_)
      · refine Ev.bind hd (Ev.ite (fun e2=>Ev.ret' ?_) (fun e2 => ?_))
        · rw [show hit n s i=true by unfold hit; rw [e,e2,e4]; rfl]; rfl
        · exact hih.eq (by rw [show hit n s i=false by unfold hit; rw [e,e2,e4]; rfl])
      · exact hih.eq (by rw [show hit n s i=false by unfold hit; rw [e,e4]; rfl])
    refine Ev.up ?_
    simp only [G.bW.L1]
    refine Ev.ct (by simp; omega) ?_
    refine Ev.ite (fun e => ?_) (fun e=>SC (by simpa using e))
    have h4:n.Kind=4:=by simpa using e
    have:=hm h4
    refine Ev.chk (by omega) ?_
    rw [Int.toNat_natCast]
    refine Ev.ite (fun e2=>Ev.ret' ?_) (fun e2 => ?_)
    · rw [show hit n s i=true by unfold hit; rw [e,e2]; rfl]; rfl
    · refine Ev.cf (by rw [h4]; rfl) ?_
      rw [dB (by omega)]
      exact hih.eq (by rw [show hit n s i=false by unfold hit; rw [e2,h4]; rfl])
theorem T.bW {B D:Nat} {n:af} (s:aK) (hB:B<=lim) (h:Fine B D n):Ev (fun f=>G.bW f n s) (qK (zJ n s)):=by
 refine Ev.up ?_
 simp only [G.bW]
 exact T.bW.L1 s hB h n.Kids.length 0 (by omega)
theorem uO {x:aK} {l:List aK} (h:Asc (x::l)=true):Asc l=true:=by
 cases l with
 | nil=>rfl
 | cons y r=>rw [Asc,Bool.and_eq_true] at h; exact h.2
theorem uN:∀ {l:List aK} {x:aK},Asc (x::l)=true->∀ y,y∈l->bl x y=true
  | [],_,_,y,hy=>by cases hy
  | z::r,x,h,y,hy=>by
    have h1:bl x z=true:=by rw [Asc,Bool.and_eq_true] at h; exact h.1
    rcases List.mem_cons.1 hy with rfl | hy
    · exact h1
    · exact qR h1 (uN (uO h) y hy)
theorem KG:∀ {l:List aK},Asc l=true->∀ i j,i<j->j<l.length->bl (l.getD i default) (l.getD j default)=true
  | [],_,i,j,_,hj=>by simp at hj
  | x::l,h,i,j,hij,hj=>by
    cases j with
    | zero=>omega
    | succ j =>
      rw [List.getD_cons_succ]
      have hj':j<l.length:=by simpa using hj
      cases i with
      | zero=>rw [List.getD_cons_zero,fE _ hj']; exact uN h _ (List.getElem_mem _)
      | succ i=>rw [List.getD_cons_succ]; exact KG (uO h) i j (by omega) hj'
end Go.Ab
end
section
namespace Go.Ab
open Go
theorem af.eta (n:af):af.mk n.Kind n.Num n.Text n.Names n.Kids=n:=by cases n; rfl
theorem Bj {p:Nat->Bool} : ∀ {k i j:Nat},(List.range' i k).find? p=some j<->(i<=j/\j<i+k/\p j=true/\∀ q,i<=q->q<j->p q=false):=by
  intro k
  induction k with
  | zero=>intro i j; simp; omega
  | succ k ih =>
    intro i j
    rw [List.range'_succ,List.find?_cons]
    cases h:p i with
    | true =>
      simp only [Option.some.injEq]
      constructor
      · rintro rfl
        exact ⟨by omega,by omega,h,fun q h1 h2=>by omega⟩
      · rintro ⟨h1,h2,h3,h4⟩
        by_cases e:i=j
        · exact e
        · have:=h4 i (by omega) (by omega); rw [h] at this; cases this
    | false =>
      simp only
      rw [ih]
      constructor
      · rintro ⟨h1,h2,h3,h4⟩
        refine ⟨by omega,by omega,h3,fun q g1 g2 => ?_⟩
        by_cases e:q=i
        · rw [e]; exact h
        · exact h4 q (by omega) g2
      · rintro ⟨h1,h2,h3,h4⟩
        have:j ≠ i:=fun e=>by rw [e,h] at h3; cases h3
        exact ⟨by omega,by omega,h3,fun q g1 g2=>h4 q (by omega) g2⟩
theorem nR {n:af} (h:Parts n=true) (hk:n.Kind=4):n.Num=0/\n.Text=[]/\NM n.Names=true/\n.Names.length<=6/\n.Kids.length=n.Names.length:=by
 unfold Parts at h
 simp [hk] at h
 obtain ⟨⟨h1,h2⟩,⟨h3,h4⟩,h5⟩:=h
 exact ⟨h1,h2,h3,h4,h5⟩
theorem zH {n:af} (h:Parts n=true) (hk:n.Kind=3):n.Num=0/\n.Text=[]/\n.Names=[]/\n.Kids.length<=6:=by
 unfold Parts at h
 simp [hk] at h
 obtain ⟨⟨⟨h1,h2⟩,h3⟩,h4⟩:=h
 exact ⟨h1,h2,h3,h4⟩
theorem zF {n:af} (h:Parts n=true) (h4:n.Kind ≠ 4) (h3:n.Kind ≠ 3):n.Names=[]/\n.Kids=[]:=by
 unfold Parts at h
 have e4:(n.Kind==4)=false:=by simpa using h4
 simp only [Bool.and_eq_true,e4,Bool.false_or] at h
 obtain ⟨⟨_,h1⟩,h2⟩:=h
 refine ⟨List.eq_nil_of_length_eq_zero (by simpa using h1),List.eq_nil_of_length_eq_zero ?_⟩
 by_cases k0:n.Kind=0
 ·rw [if_pos k0] at h2; simpa using h2
 rw [if_neg k0] at h2
 by_cases k1:n.Kind=1
 ·rw [if_pos k1] at h2; simp at h2; rw [h2.2]; rfl
 rw [if_neg k1] at h2
 by_cases k2:n.Kind=2
 ·rw [if_pos k2] at h2; simp at h2; rw [h2.2]; rfl
 rw [if_neg k2,if_neg h3,if_neg h4] at h2
 cases h2
theorem MQ {l:List aK} (h:NM l=true):Asc l=true:=by unfold NM at h; simp only [Bool.and_eq_true] at h; exact h.2
theorem GU {l:List aK} (h:NM l=true):∀ s,s∈l->PT s=true:=by unfold NM at h; simp only [Bool.and_eq_true] at h; exact List.all_eq_true.1 h.1
theorem BA {n:af} (h:Parts n=true):n.Kids.length<=6:=by
 by_cases k:n.Kids.length<=6
 ·exact k
 ·rw [uF (by omega)] at h; cases h
theorem zi {n:af} (h4:n.Kind ≠ 4) (h3:n.Kind ≠ 3) (s:aK) (j:Nat):hit n s j=false:=by
 unfold hit
 rw [show (n.Kind==4)=false by simpa using h4,show (n.Kind==3)=false by simpa using h3]; rfl
def Jc:af->List aK->Option af
  | n,[]=>some n
  | n,s::p=>match zJ n s with
    | some j=>Jc (n.Kids.getD j default) p
    | none=>none
def mg:af:=af.mk 0 0 [] [] []
def kQ:Option af->af × Bool
 | some n=>(n,true)
 | none=>(mg,false)
theorem T.iC.L1 {B:Nat} (p:List aK) (hB:B<=lim) (hp:p.length<big) :
    ∀ (k i D:Nat) (n:af),i+k=p.length->Fine B D n->Ev (fun f=>G.iC.L1 f p i n.Kind n.Num n.Text n.Names n.Kids) (kQ (Jc n (p.drop i))):=by
  unfold big at hp
  intro k
  induction k with
  | zero =>
    intro i D n hi h
    refine Ev.up ?_
    simp only [G.iC.L1,af.eta]
    refine Ev.cf (by simp; omega) ?_
    rw [List.drop_of_length_le (by omega)]
    have hc:=T.ax hB h
    exact Ev.bind hc (Ev.ret _)
  | succ k ih =>
    intro i D n hi h
    refine Ev.up ?_
    simp only [G.iC.L1,af.eta]
    refine Ev.ct (by simp; omega) (Ev.chk (by omega) ?_)
    rw [dm (default:aK) (by omega:i<p.length),Int.toNat_natCast]
    have hP:=T.bW (p.getD i default) hB h
    refine Ev.bind hP ?_
    rw [Jc]
    cases hj:zJ n (p.getD i default) with
    | none=>exact Ev.ct rfl (Ev.ret _)
    | some j =>
      have hjl:=pX hj
      cases D with
      | zero=>exact h.elim
      | succ D =>
      refine Ev.cf (decide_eq_false (by simp only [qK]; omega)) (Ev.chk (by simp only [qK]; omega) ?_)
      rw [dB (by omega)]
      exact ih (i+1) D _ (by omega) (h.kid hjl)
theorem T.iC {B D:Nat} {n:af} (p:List aK) (hB:B<=lim) (hp:p.length<big) (h:Fine B D n):Ev (fun f=>G.iC f n p) (kQ (Jc n p)):=by
 refine Ev.up ?_
 simp only [G.iC]
 exact T.iC.L1 p hB hp p.length 0 D n (by omega) h
end Go.Ab
end
