/- The law FnExactSucceeds of the package laws answers true for all arguments and leaves them as they are (part 1). Conditions: none but what the row lists. -/
import Derived.Test.YtoijiephcflchaaGreatDoorB2
set_option linter.unusedVariables false
set_option linter.unusedSimpArgs false
section
namespace Go.Ab
open Go
set_option maxRecDepth 100000
set_option maxHeartbeats 4000000
set_option linter.unusedVariables false
set_option linter.unusedSimpArgs false
def G.jk (f:Nat) (ag:af) (aA:List jq):Option (af × Bool):=match f with
| 0=>none
| n+1 =>
((G.aC n ag).bind fun v1 =>
(cond v1
((G.aT n aA).bind fun v2 =>
(cond v2
((G.dY n ag aA).bind fun v3 =>
(some (v3.1,(v3.2==((aA.length:Nat):Int)))))
(some ((af.mk 0 0 [] [] []),false))))
(some ((af.mk 0 0 [] [] []),false))))
def G.dL (f:Nat) (ai:aS) (zI:Int):Option (Int):=match f with
| 0=>none
| n+1 =>
(some ((Go.Lib.indexByte ai zI.toNat.toUInt8)))
def G.strings_IndexByte (f:Nat) (ai:aS) (zI:Int):Option (Int):=match f with
| 0=>none
| n+1 =>
((G.dL n ai zI).bind fun v1 =>
(some (v1)))
def G.iw.L1 (f:Nat) (ai:aS) (ak:Int):Option (Bool):=match f with
| 0=>none
| n+1 =>
(cond (decide (ak<((ai.length:Nat):Int)))
(chk (0<=ak/\ak<((ai.length:Nat):Int))
((G.strings_IndexByte n [48,49,50,51,52,53,54,55,56,57,97,98,99,100,101,102] (((ai.getD ak.toNat 0).toNat:Nat):Int)).bind fun v3 =>
(cond (decide (v3<0))
(some (false))
(G.iw.L1 n ai (IntKind.wrap .i64 (ak+1))))))
(some (true)))
def G.iw (f:Nat) (ai:aS):Option (Bool):=match f with
| 0=>none
| n+1 =>
(cond (((ai.length:Nat):Int) != 4)
(some (false))
(G.iw.L1 n ai 0))
def G.dK.L1 (f:Nat) (aA:List aS) (fB:Int):Option (Bool):=match f with
| 0=>none
| n+1 =>
(cond (decide (fB<((aA.length:Nat):Int)))
(chk (0<=fB/\fB<((aA.length:Nat):Int))
(cond ((aA.getD fB.toNat default)==[42])
(G.dK.L1 n aA (IntKind.wrap .i64 (fB+1)))
((G.iw n (aA.getD fB.toNat default)).bind fun v3 =>
(cond v3
(G.dK.L1 n aA (IntKind.wrap .i64 (fB+1)))
(some (false))))))
(some (true)))
def G.dK (f:Nat) (aA:List aS):Option (Bool):=match f with
| 0=>none
| n+1 =>
(cond (decide (4<((aA.length:Nat):Int)))
(some (false))
(G.dK.L1 n aA 0))
def G.slices_Index_string.L1 (f:Nat) (ai:List aS) (qm:aS) (fB:Int):Option (Int):=match f with
| 0=>none
| n+1 =>
(cond (decide (fB<((ai.length:Nat):Int)))
(chk (0<=fB/\fB<((ai.length:Nat):Int))
(cond (qm==(ai.getD fB.toNat default))
(some (fB))
(G.slices_Index_string.L1 n ai qm (IntKind.wrap .i64 (fB+1)))))
(some ((-1))))
def G.slices_Index_string (f:Nat) (ai:List aS) (qm:aS):Option (Int):=match f with
| 0=>none
| n+1 =>
(G.slices_Index_string.L1 n ai qm 0)
def G.slices_Contains_string (f:Nat) (ai:List aS) (qm:aS):Option (Bool):=match f with
| 0=>none
| n+1 =>
((G.slices_Index_string n ai qm).bind fun v1 =>
(some ((decide (0<=v1)))))
def G.jf (f:Nat) (aA:List aS) (jS:aS):Option (Bool):=match f with
| 0=>none
| n+1 =>
((G.slices_Contains_string n aA jS).bind fun v1 =>
(cond v1
(some (true))
((G.slices_Contains_string n aA [42]).bind fun v2 =>
(some (v2)))))
def G.eX.K1 (f:Nat) (nI:List aS) (lF:List aS) (jS:aS) (mG:Bool):Option (Int):=match f with
| 0=>none
| n+1 =>
(cond (decide (0<((nI.length:Nat):Int)))
(cond (jS==[])
(some (412))
((G.jf n nI jS).bind fun v4 =>
(cond v4
(cond (decide (0<((lF.length:Nat):Int)))
((G.jf n lF jS).bind fun v5 =>
(cond v5
(cond mG
(some (304))
(some (412)))
(some (200))))
(some (200)))
(some (412)))))
(cond (decide (0<((lF.length:Nat):Int)))
(cond (jS==[])
(some (200))
((G.jf n lF jS).bind fun v6 =>
(cond v6
(cond mG
(some (304))
(some (412)))
(some (200)))))
(some (200))))
def G.eX (f:Nat) (nI:List aS) (lF:List aS) (jS:aS) (mG:Bool):Option (Int):=match f with
| 0=>none
| n+1 =>
((G.dK n nI).bind fun v7 =>
(cond v7
((G.dK n lF).bind fun v8 =>
(cond v8
(cond (jS==[])
(G.eX.K1 n nI lF jS mG)
((G.iw n jS).bind fun v9 =>
(cond v9
(G.eX.K1 n nI lF jS mG)
(some (400)))))
(some (400))))
(some (400))))
def G.jI (f:Nat) (ja:aH):Option (aH):=match f with
| 0=>none
| n+1 =>
((G.au n ja.Node).bind fun v1 =>
(some ((aH.mk ja.Name ja.Version v1))))
def G.aY.L1 (f:Nat) (ai:StoreT) (fB:Int) (z3:List aH):Option (StoreT):=match f with
| 0=>none
| n+1 =>
(cond (decide (fB<((ai.Items.length:Nat):Int)))
(chk (0<=fB/\fB<((ai.Items.length:Nat):Int))
((G.jI n (aH.mk ((ai.Items.getD fB.toNat default).Name) ((ai.Items.getD fB.toNat default).Version) ((ai.Items.getD fB.toNat default).Node))).bind fun v3 =>
(chk (0<=fB/\fB<((z3.length:Nat):Int))
(G.aY.L1 n ai (IntKind.wrap .i64 (fB+1)) (z3.set fB.toNat v3)))))
(some ((StoreT.mk z3 ai.Clock))))
def G.aY (f:Nat) (ai:StoreT):Option (StoreT):=match f with
| 0=>none
| n+1 =>
(cond (decide (0<((ai.Items.length:Nat):Int)))
(chk (0<=((ai.Items.length:Nat):Int)/\((ai.Items.length:Nat):Int)<=((ai.Items.length:Nat):Int)/\104*((ai.Items.length:Nat):Int)<=2^47/\((ai.Items.length:Nat):Int)<=2^47)
(G.aY.L1 n ai 0 (List.replicate ai.Items.length (aH.mk [] 0 (af.mk 0 0 [] [] [])))))
(some ((StoreT.mk [] ai.Clock))))
def G.jL (f:Nat) (ja:aH) (aW:aS):Option (Int):=match f with
| 0=>none
| n+1 =>
((G.strings_Compare n ja.Name aW).bind fun v1 =>
(some (v1)))
def G.aj.L1 (f:Nat) (kP:List aH) (jF:aS) (ak:Int) (xQ:Int):Option (Int × Bool):=match f with
| 0=>none
| n+1 =>
(cond (decide (ak<xQ))
(chk (0<=(IntKind.wrap .i64 ((Int.fdiv (IntKind.wrap .u64 ((IntKind.wrap .i64 (ak+xQ)))) (2^(min 1 (IntKind.bits .u64))))))/\(IntKind.wrap .i64 ((Int.fdiv (IntKind.wrap .u64 ((IntKind.wrap .i64 (ak+xQ)))) (2^(min 1 (IntKind.bits .u64))))))<((kP.length:Nat):Int))
((G.jL n (aH.mk ((kP.getD (IntKind.wrap .i64 ((Int.fdiv (IntKind.wrap .u64 ((IntKind.wrap .i64 (ak+xQ)))) (2^(min 1 (IntKind.bits .u64)))))).toNat default).Name) ((kP.getD (IntKind.wrap .i64 ((Int.fdiv (IntKind.wrap .u64 ((IntKind.wrap .i64 (ak+xQ)))) (2^(min 1 (IntKind.bits .u64)))))).toNat default).Version) ((kP.getD (IntKind.wrap .i64 ((Int.fdiv (IntKind.wrap .u64 ((IntKind.wrap .i64 (ak+xQ)))) (2^(min 1 (IntKind.bits .u64)))))).toNat default).Node)) jF).bind fun v3 =>
(cond (decide (v3<0))
(G.aj.L1 n kP jF (IntKind.wrap .i64 ((IntKind.wrap .i64 ((Int.fdiv (IntKind.wrap .u64 ((IntKind.wrap .i64 (ak+xQ)))) (2^(min 1 (IntKind.bits .u64))))))+1)) xQ)
(G.aj.L1 n kP jF ak (IntKind.wrap .i64 ((Int.fdiv (IntKind.wrap .u64 ((IntKind.wrap .i64 (ak+xQ)))) (2^(min 1 (IntKind.bits .u64))))))))))
(cond (decide (ak<((kP.length:Nat):Int)))
(chk (0<=ak/\ak<((kP.length:Nat):Int))
((G.jL n (aH.mk ((kP.getD ak.toNat default).Name) ((kP.getD ak.toNat default).Version) ((kP.getD ak.toNat default).Node)) jF).bind fun v4 =>
(some (ak,(v4==0)))))
(some (ak,false))))
def G.aj (f:Nat) (kP:List aH) (jF:aS):Option (Int × Bool):=match f with
| 0=>none
| n+1 =>
(G.aj.L1 n kP jF 0 ((kP.length:Nat):Int))
def G.gQ (f:Nat) (nP:List aH) (aW:aS):Option (Int × Bool):=match f with
| 0=>none
| n+1 =>
((G.aj n nP aW).bind fun v1 =>
(some (v1.1,v1.2)))
def G.eu (f:Nat) (s:List aH) (i:Int) (j:Int):Option (List aH):=match f with
| 0=>none
| _+1=>chk (0<=i/\i<j/\j<=((s.length:Nat):Int)/\s.length*112<=2^46) (some (s.take i.toNat++s.drop j.toNat))
def G.kC (f:Nat) (ai:StoreT) (aW:aS):Option (StoreT × Bool):=match f with
| 0=>none
| n+1 =>
((G.aK n ai).bind fun v1 =>
(cond v1
(cond (ai.Clock==999)
(some ((StoreT.mk [] 0),false))
((G.gQ n ai.Items aW).bind fun v2 =>
(cond v2.2
((G.aY n ai).bind fun v3 =>
((G.eu n v3.Items v2.1 (IntKind.wrap .i64 (v2.1+1))).bind fun v4 =>
(some ((StoreT.mk v4 (IntKind.wrap .i64 (v3.Clock+1))),true))))
(some ((StoreT.mk [] 0),false)))))
(some ((StoreT.mk [] 0),false))))
def G.aG (f:Nat) (b:dI) (c:Int):Option (Unit × dI):=match f with
| 0=>none
| _+1=>(chk ((0<=c/\c<256)/\b.buf.length+1<=140737488355328) (some ((),dI.mk (b.buf++[UInt8.ofNat c.toNat]))))
mutual
def G.bP.K4 (f:Nat) (ai:aS) (ak:Int) (z5:aS):Option (dI):=match f with
| 0=>none
| n+1 =>
(chk (0<=ak/\ak<((ai.length:Nat):Int))
((G.aG n (dI.mk z5) (((ai.getD ak.toNat 0).toNat:Nat):Int)).bind fun v14 =>
(G.bP.L3 n ai (IntKind.wrap .i64 (ak+1)) v14.2.buf)))
def G.bP.L3 (f:Nat) (ai:aS) (ak:Int) (z4:aS):Option (dI):=match f with
| 0=>none
| n+1 =>
(cond (decide (ak<((ai.length:Nat):Int)))
(chk (0<=ak/\ak<((ai.length:Nat):Int))
(cond ((((ai.getD ak.toNat 0).toNat:Nat):Int)==34)
((G.aG n (dI.mk z4) 92).bind fun v15 =>
(G.bP.K4 n ai ak v15.2.buf))
(chk (0<=ak/\ak<((ai.length:Nat):Int))
(cond ((((ai.getD ak.toNat 0).toNat:Nat):Int)==92)
((G.aG n (dI.mk z4) 92).bind fun v16 =>
(G.bP.K4 n ai ak v16.2.buf))
(G.bP.K4 n ai ak z4)))))
((G.aG n (dI.mk z4) 34).bind fun v17 =>
(some (v17.2))))
end
def G.bP (f:Nat) (pU:dI) (ai:aS):Option (dI):=match f with
| 0=>none
| n+1 =>
((G.aG n pU 34).bind fun v1 =>
(G.bP.L3 n ai 0 v1.2.buf))
def G.fV (f:Nat) (b:dI) (s:aS):Option (Int × Unit × dI):=match f with
| 0=>none
| _+1=>(chk (b.buf.length+s.length<=140737488355328) (some (((s.length:Nat):Int),(),dI.mk (b.buf++s))))
mutual
def G.aI.K4 (f:Nat) (ag:af) (fB:Int) (z4:aS):Option (dI):=match f with
| 0=>none
| n+1 =>
((G.aI n (dI.mk z4) (ag.Kids.getD fB.toNat default)).bind fun v11 =>
(G.aI.L3 n ag (IntKind.wrap .i64 (fB+1)) v11.buf))
def G.aI.L3 (f:Nat) (ag:af) (fB:Int) (z3:aS):Option (dI):=match f with
| 0=>none
| n+1 =>
(cond (decide (fB<((ag.Kids.length:Nat):Int)))
(chk (0<=fB/\fB<((ag.Kids.length:Nat):Int))
(cond (decide (0<fB))
((G.aG n (dI.mk z3) 44).bind fun v12 =>
(G.aI.K4 n ag fB v12.2.buf))
(G.aI.K4 n ag fB z3)))
((G.aG n (dI.mk z3) 93).bind fun v13 =>
(some (v13.2))))
def G.aI.K8 (f:Nat) (ag:af) (DJ:Int) (z8:aS):Option (dI):=match f with
| 0=>none
| n+1 =>
(chk (0<=DJ/\DJ<((ag.Names.length:Nat):Int))
((G.bP n (dI.mk z8) (ag.Names.getD DJ.toNat default)).bind fun v24 =>
((G.aG n v24 58).bind fun v25 =>
((G.aI n v25.2 (ag.Kids.getD DJ.toNat default)).bind fun v26 =>
(G.aI.L7 n ag (IntKind.wrap .i64 (DJ+1)) v26.buf)))))
def G.aI.L7 (f:Nat) (ag:af) (DJ:Int) (z7:aS):Option (dI):=match f with
| 0=>none
| n+1 =>
(cond (decide (DJ<((ag.Kids.length:Nat):Int)))
(chk (0<=DJ/\DJ<((ag.Kids.length:Nat):Int))
(cond (decide (0<DJ))
((G.aG n (dI.mk z7) 44).bind fun v27 =>
(G.aI.K8 n ag DJ v27.2.buf))
(G.aI.K8 n ag DJ z7)))
((G.aG n (dI.mk z7) 125).bind fun v28 =>
(some (v28.2))))
def G.aI (f:Nat) (pU:dI) (ag:af):Option (dI):=match f with
| 0=>none
| n+1 =>
(cond (ag.Kind==0)
((G.fV n pU [110,117,108,108]).bind fun v1 =>
(some (v1.2.2)))
(cond (ag.Kind==1)
((G.strconv_Itoa n ag.Num).bind fun v2 =>
((G.fV n pU v2).bind fun v3 =>
(some (v3.2.2))))
(cond (ag.Kind==2)
((G.bP n pU ag.Text).bind fun v4 =>
(some (v4)))
(cond (ag.Kind==3)
((G.aG n pU 91).bind fun v5 =>
(G.aI.L3 n ag 0 v5.2.buf))
(cond (ag.Kind==4)
((G.aG n pU 123).bind fun v14 =>
(G.aI.L7 n ag 0 v14.2.buf))
(some (pU)))))))
end
def G.kN (f:Nat) (b:dI):Option aS:=match f with
| 0=>none
| _+1=>(chk (b.buf.length<=140737488355328) (some b.buf))
def G.jl (f:Nat) (ag:af):Option (aS):=match f with
| 0=>none
| n+1 =>
((G.aC n ag).bind fun v1 =>
(cond v1
((G.aI n (dI.mk []) ag).bind fun v2 =>
((G.kN n v2).bind fun v3 =>
(some (v3))))
(some ([]))))
def G.lq (f:Nat) (ai:StoreT) (aW:aS):Option (aH × Bool):=match f with
| 0=>none
| n+1 =>
((G.aK n ai).bind fun v1 =>
(cond v1
((G.gQ n ai.Items aW).bind fun v2 =>
(cond v2.2
(chk (0<=v2.1/\v2.1<((ai.Items.length:Nat):Int))
((G.jI n (aH.mk ((ai.Items.getD v2.1.toNat default).Name) ((ai.Items.getD v2.1.toNat default).Version) ((ai.Items.getD v2.1.toNat default).Node))).bind fun v3 =>
(some (v3,true))))
(some ((aH.mk [] 0 (af.mk 0 0 [] [] [])),false))))
(some ((aH.mk [] 0 (af.mk 0 0 [] [] [])),false))))
def G.di.L2 (f:Nat) (IZ:Int) (yC:Int) (z3:List Int):Option (aS):=match f with
| 0=>none
| n+1 =>
(cond (decide (0<=yC))
(chk (0<=(Int.tmod IZ 16)/\(Int.tmod IZ 16)<((16:Nat):Int))
(chk (0<=yC/\yC<((z3.length:Nat):Int))
(chk (0<=yC/\yC<4)
(G.di.L2 n (IntKind.wrap .i64 (Int.tdiv IZ 16)) (IntKind.wrap .i64 (yC-1)) (z3.set yC.toNat (((([48,49,50,51,52,53,54,55,56,57,97,98,99,100,101,102]:aS).getD (Int.tmod IZ 16).toNat 0).toNat:Nat):Int))))))
(chk (z3.length=4)
(chk ((z3.take 4).length<=maxLen)
(some ((uf (z3.take 4)))))))
def G.di.L1 (f:Nat) (ai:aS) (SX:Int) (ak:Int):Option (aS):=match f with
| 0=>none
| n+1 =>
(cond (decide (ak<((ai.length:Nat):Int)))
(chk (0<=ak/\ak<((ai.length:Nat):Int))
(G.di.L1 n ai (Int.tmod (IntKind.wrap .i64 ((IntKind.wrap .i64 (131*SX))+(IntKind.wrap .i64 ((((ai.getD ak.toNat 0).toNat:Nat):Int))))) 65521) (IntKind.wrap .i64 (ak+1))))
(G.di.L2 n SX 3 (List.replicate 4 0)))
def G.di (f:Nat) (ai:aS):Option (aS):=match f with
| 0=>none
| n+1 =>
(G.di.L1 n ai 17 0)
def G.lG (f:Nat) (ag:af):Option (aS):=match f with
| 0=>none
| n+1 =>
((G.aC n ag).bind fun v1 =>
(cond v1
((G.jl n ag).bind fun v2 =>
((G.di n v2).bind fun v3 =>
(some (v3))))
(some ([]))))
def G.jo (f:Nat) (ai:StoreT) (bn:RequestT):Option (StoreT × dA):=match f with
| 0=>none
| n+1 =>
((G.kC n ai bn.Name).bind fun v1 =>
(cond v1.2
(some (v1.1,(dA.mk 200 [] v1.1.Clock (af.mk 0 0 [] [] []))))
((G.aY n ai).bind fun v2 =>
(some (v2,(dA.mk 422 [] 0 (af.mk 0 0 [] [] [])))))))
def G.eF (f:Nat) (s:List aH) (i:Int) (v:List aH):Option (List aH):=match f with
| 0=>none
| _+1=>chk (0<=i/\i<=((s.length:Nat):Int)/\v.length=1/\(s.length+1)*112<=2^46) (some (s.take i.toNat++v++s.drop i.toNat))
def G.l9 (f:Nat) (nP:List aH) (ja:aH):Option (List aH):=match f with
| 0=>none
| n+1 =>
((G.gQ n nP ja.Name).bind fun v1 =>
(cond v1.2
(chk (0<=v1.1/\v1.1<((nP.length:Nat):Int))
(some ((nP.set v1.1.toNat ja))))
((G.eF n nP v1.1 [ja]).bind fun v2 =>
(some (v2)))))
def G.lu (f:Nat) (ai:StoreT) (aW:aS) (ag:af):Option (StoreT × Bool):=match f with
| 0=>none
| n+1 =>
((G.aK n ai).bind fun v1 =>
(cond v1
((G.dP n aW).bind fun v2 =>
(cond v2
((G.aC n ag).bind fun v3 =>
(cond v3
((G.aY n ai).bind fun v4 =>
((G.au n ag).bind fun v5 =>
((G.l9 n v4.Items (aH.mk aW (IntKind.wrap .i64 (v4.Clock+1)) v5)).bind fun v6 =>
((G.aK n (StoreT.mk v6 (IntKind.wrap .i64 (v4.Clock+1)))).bind fun v7 =>
(cond v7
(some ((StoreT.mk v6 (IntKind.wrap .i64 (v4.Clock+1))),true))
(some ((StoreT.mk [] 0),false)))))))
(some ((StoreT.mk [] 0),false))))
(some ((StoreT.mk [] 0),false))))
(some ((StoreT.mk [] 0),false))))
def G.lJ (f:Nat) (oP:af) (aW:aS):Option (af):=match f with
| 0=>none
| n+1 =>
((G.slices_BinarySearch_string n oP.Names aW).bind fun v1 =>
(cond v1.2
((G.slices_Delete_string n oP.Names v1.1 (IntKind.wrap .i64 (v1.1+1))).bind fun v2 =>
((G.bU n oP.Kids v1.1 (IntKind.wrap .i64 (v1.1+1))).bind fun v3 =>
(some ((af.mk oP.Kind oP.Num oP.Text v2 v3)))))
(some (oP))))
mutual
def G.aQ.K5 (f:Nat) (aP:af) (fB:Int) (VZ:Int) (V3:Int) (V4:aS) (z5:List aS) (z6:List af) (y20:Int) (y21:Int) (y22:aS) (y23:List aS) (y24:List af):Option (af):=match f with
| 0=>none
| n+1 =>
(chk (0<=fB/\fB<((aP.Kids.length:Nat):Int))
((G.aQ n (af.mk y20 y21 y22 y23 y24) (aP.Kids.getD fB.toNat default)).bind fun v15 =>
((G.iO n (af.mk VZ V3 V4 z5 z6) (aP.Names.getD fB.toNat default) v15).bind fun v16 =>
(G.aQ.L4 n aP (IntKind.wrap .i64 (fB+1)) v16.Kind v16.Num v16.Text v16.Names v16.Kids))))
def G.aQ.L4 (f:Nat) (aP:af) (fB:Int) (VZ:Int) (V3:Int) (V4:aS) (z5:List aS) (z6:List af):Option (af):=match f with
| 0=>none
| n+1 =>
(cond (decide (fB<((aP.Names.length:Nat):Int)))
(chk (0<=fB/\fB<((aP.Names.length:Nat):Int))
(chk (0<=fB/\fB<((aP.Kids.length:Nat):Int))
(cond ((aP.Kids.getD fB.toNat default).Kind==0)
((G.lJ n (af.mk VZ V3 V4 z5 z6) (aP.Names.getD fB.toNat default)).bind fun v13 =>
(G.aQ.L4 n aP (IntKind.wrap .i64 (fB+1)) v13.Kind v13.Num v13.Text v13.Names v13.Kids))
((G.slices_BinarySearch_string n z5 (aP.Names.getD fB.toNat default)).bind fun v17 =>
(cond v17.2
(chk (0<=v17.1/\v17.1<((z6.length:Nat):Int))
(G.aQ.K5 n aP fB VZ V3 V4 z5 z6 ((z6.getD v17.1.toNat default).Kind) ((z6.getD v17.1.toNat default).Num) ((z6.getD v17.1.toNat default).Text) ((z6.getD v17.1.toNat default).Names) ((z6.getD v17.1.toNat default).Kids)))
(G.aQ.K5 n aP fB VZ V3 V4 z5 z6 0 0 [] [] []))))))
(some ((af.mk VZ V3 V4 z5 z6))))
def G.aQ.K1 (f:Nat) (aP:af) (y1:Int) (y2:Int) (y3:aS) (z1:List aS) (z2:List af):Option (af):=match f with
| 0=>none
| n+1 =>
(G.aQ.L4 n aP 0 y1 y2 y3 z1 z2)
def G.aQ (f:Nat) (ag:af) (aP:af):Option (af):=match f with
| 0=>none
| n+1 =>
(cond (aP.Kind != 4)
((G.au n aP).bind fun v1 =>
(some (v1)))
(cond (ag.Kind==4)
((G.au n ag).bind fun v18 =>
(G.aQ.K1 n aP v18.Kind v18.Num v18.Text v18.Names v18.Kids))
(G.aQ.K1 n aP 4 0 [] [] [])))
end
def G.jP (f:Nat) (ag:af) (aP:af):Option (af × Bool):=match f with
| 0=>none
| n+1 =>
((G.aC n ag).bind fun v1 =>
(cond v1
((G.aC n aP).bind fun v2 =>
(cond v2
((G.aQ n ag aP).bind fun v3 =>
((G.iM n v3 true).bind fun v4 =>
(some (v4.1,v4.2))))
(some ((af.mk 0 0 [] [] []),false))))
(some ((af.mk 0 0 [] [] []),false))))
def G.lD (f:Nat) (sD:af) (bn:RequestT):Option (af × Bool):=match f with
| 0=>none
| n+1 =>
(cond (bn.Method==4)
((G.jk n sD bn.Ops).bind fun v1 =>
(some (v1.1,v1.2)))
(cond (bn.Method==5)
((G.jP n sD bn.Body).bind fun v2 =>
(some (v2.1,v2.2)))
(some (bn.Body,true))))
def G.gB (f:Nat) (ai:StoreT) (bn:RequestT) (sD:af) (xg:Bool):Option (StoreT × dA):=match f with
| 0=>none
| n+1 =>
((G.lD n sD bn).bind fun v1 =>
(cond v1.2
((G.lu n ai bn.Name v1.1).bind fun v2 =>
(cond v2.2
((G.lG n v1.1).bind fun v3 =>
(cond xg
(some (v2.1,(dA.mk 200 v3 v2.1.Clock (af.mk 0 0 [] [] []))))
(some (v2.1,(dA.mk 201 v3 v2.1.Clock (af.mk 0 0 [] [] []))))))
((G.aY n ai).bind fun v4 =>
(some (v4,(dA.mk 422 [] 0 (af.mk 0 0 [] [] [])))))))
((G.aY n ai).bind fun v5 =>
(some (v5,(dA.mk 422 [] 0 (af.mk 0 0 [] [] [])))))))
def G.gU (f:Nat) (bn:RequestT):Option (Bool):=match f with
| 0=>none
| n+1 =>
(cond (decide (1<=bn.Method))
(cond (decide (bn.Method<=5))
((G.dP n bn.Name).bind fun v1 =>
(cond v1
((G.dK n bn.Want).bind fun v2 =>
(cond v2
((G.dK n bn.lK).bind fun v3 =>
(cond v3
((G.aC n bn.Body).bind fun v4 =>
(cond v4
((G.aT n bn.Ops).bind fun v5 =>
(some (v5)))
(some (false))))
(some (false))))
(some (false))))
(some (false))))
(some (false)))
(some (false)))
def G.aX.K1 (f:Nat) (ai:StoreT) (bn:RequestT) (v3:aH × Bool) (SY:aS):Option (StoreT × dA):=match f with
| 0=>none
| n+1 =>
((G.eX n bn.Want bn.lK SY (bn.Method==1)).bind fun v5 =>
(cond (v5 != 200)
((G.aY n ai).bind fun v6 =>
(some (v6,(dA.mk v5 [] 0 (af.mk 0 0 [] [] [])))))
(cond (bn.Method==1)
((G.aY n ai).bind fun v7 =>
(some (v7,(dA.mk 200 SY v3.1.Version v3.1.Node))))
(cond (bn.Method==3)
((G.jo n ai bn).bind fun v8 =>
(some (v8.1,v8.2)))
((G.gB n ai bn v3.1.Node true).bind fun v9 =>
(some (v9.1,v9.2)))))))
def G.aX.K2 (f:Nat) (ai:StoreT) (bn:RequestT) (v3:aH × Bool):Option (StoreT × dA):=match f with
| 0=>none
| n+1 =>
((G.eX n bn.Want bn.lK [] (bn.Method==1)).bind fun v12 =>
(cond (v12 != 200)
((G.aY n ai).bind fun v13 =>
(some (v13,(dA.mk v12 [] 0 (af.mk 0 0 [] [] [])))))
(cond (bn.Method==1)
((G.aY n ai).bind fun v14 =>
(some (v14,(dA.mk 200 [] v3.1.Version v3.1.Node))))
(cond (bn.Method==3)
((G.jo n ai bn).bind fun v15 =>
(some (v15.1,v15.2)))
((G.gB n ai bn v3.1.Node false).bind fun v16 =>
(some (v16.1,v16.2)))))))
def G.aX (f:Nat) (ai:StoreT) (bn:RequestT):Option (StoreT × dA):=match f with
| 0=>none
| n+1 =>
((G.aK n ai).bind fun v1 =>
(cond v1
((G.gU n bn).bind fun v2 =>
(cond v2
((G.lq n ai bn.Name).bind fun v3 =>
(cond v3.2
((G.lG n v3.1.Node).bind fun v10 =>
(G.aX.K1 n ai bn v3 v10))
(cond (bn.Method != 2)
((G.aY n ai).bind fun v11 =>
(some (v11,(dA.mk 404 [] 0 (af.mk 0 0 [] [] [])))))
(G.aX.K2 n ai bn v3))))
(some ((StoreT.mk [] 0),(dA.mk 400 [] 0 (af.mk 0 0 [] [] []))))))
(some ((StoreT.mk [] 0),(dA.mk 400 [] 0 (af.mk 0 0 [] [] []))))))
def G.jQ (f:Nat) (nY:Int):Option (Bool):=match f with
| 0=>none
| n+1 =>
(cond (nY==200)
(some (true))
(some ((nY==201))))
def G.kD (f:Nat) (ai:StoreT) (bn:RequestT):Option (Bool):=match f with
| 0=>none
| n+1 =>
((G.aX n ai bn).bind fun v1 =>
((G.jQ n v1.2.Status).bind fun v2 =>
(some (v2))))
def G.jV (f:Nat) (ax:RequestT) (bH:RequestT):Option (Bool):=match f with
| 0=>none
| n+1 =>
(cond (ax.Method != bH.Method)
(some (false))
(cond (ax.Name==bH.Name)
((G.dM n ax.Want bH.Want).bind fun v1 =>
(cond v1
((G.dM n ax.lK bH.lK).bind fun v2 =>
(cond v2
((G.jh n ax.Body bH.Body).bind fun v3 =>
(cond v3
((G.jv n ax.Ops bH.Ops).bind fun v4 =>
(cond v4
(some (true))
(some (false))))
(some (false))))
(some (false))))
(some (false))))
(some (false))))
def G.mD (f:Nat) (ax:aH) (bH:aH):Option (Bool):=match f with
| 0=>none
| n+1 =>
(cond (ax.Name==bH.Name)
(cond (ax.Version != bH.Version)
(some (false))
((G.jh n ax.Node bH.Node).bind fun v1 =>
(cond v1
(some (true))
(some (false)))))
(some (false)))
def G.gZ.L1 (f:Nat) (ax:List aH) (bH:List aH) (ak:Int):Option (Bool):=match f with
| 0=>none
| n+1 =>
(cond (decide (ak<((ax.length:Nat):Int)))
(chk (0<=ak/\ak<((ax.length:Nat):Int))
(chk (0<=ak/\ak<((bH.length:Nat):Int))
((G.mD n (aH.mk ((ax.getD ak.toNat default).Name) ((ax.getD ak.toNat default).Version) ((ax.getD ak.toNat default).Node)) (aH.mk ((bH.getD ak.toNat default).Name) ((bH.getD ak.toNat default).Version) ((bH.getD ak.toNat default).Node))).bind fun v3 =>
(cond v3
(G.gZ.L1 n ax bH (IntKind.wrap .i64 (ak+1)))
(some (false))))))
(some (true)))
def G.gZ (f:Nat) (ax:List aH) (bH:List aH):Option (Bool):=match f with
| 0=>none
| n+1 =>
(cond (((ax.length:Nat):Int) != ((bH.length:Nat):Int))
(some (false))
(G.gZ.L1 n ax bH 0))
def G.lM (f:Nat) (ax:StoreT) (bH:StoreT):Option (Bool):=match f with
| 0=>none
| n+1 =>
((G.gZ n ax.Items bH.Items).bind fun v1 =>
(cond v1
(cond (ax.Clock != bH.Clock)
(some (false))
(some (true)))
(some (false))))
def G.iC (f:Nat) (ax:RequestT) (dS:Int):Option (Int):=match f with
| 0=>none
| n+1 =>
(cond (decide ((IntKind.wrap .i64 (dS-((ax.Name.length:Nat):Int)))<0))
(some ((-1)))
((G.dm n ax.Want (IntKind.wrap .i64 (dS-((ax.Name.length:Nat):Int)))).bind fun v1 =>
(cond (decide (v1<0))
(some ((-1)))
((G.dm n ax.lK v1).bind fun v2 =>
(cond (decide (v2<0))
(some ((-1)))
((G.iy n ax.Body v2).bind fun v3 =>
(cond (decide (v3<0))
(some ((-1)))
((G.iR n ax.Ops v3).bind fun v4 =>
(cond (decide (v4<0))
(some ((-1)))
(some (v4)))))))))))
def G.lU (f:Nat) (ax:aH) (dS:Int):Option (Int):=match f with
| 0=>none
| n+1 =>
(cond (decide ((IntKind.wrap .i64 (dS-((ax.Name.length:Nat):Int)))<0))
(some ((-1)))
((G.iy n ax.Node (IntKind.wrap .i64 (dS-((ax.Name.length:Nat):Int)))).bind fun v1 =>
(cond (decide (v1<0))
(some ((-1)))
(some (v1)))))
def G.gz.L1 (f:Nat) (ax:List aH) (qj:Int) (ak:Int):Option (Int):=match f with
| 0=>none
| n+1 =>
(cond (decide (ak<((ax.length:Nat):Int)))
(chk (0<=ak/\ak<((ax.length:Nat):Int))
((G.lU n (aH.mk ((ax.getD ak.toNat default).Name) ((ax.getD ak.toNat default).Version) ((ax.getD ak.toNat default).Node)) qj).bind fun v3 =>
(cond (decide (v3<0))
(some ((-1)))
(G.gz.L1 n ax v3 (IntKind.wrap .i64 (ak+1))))))
(some (qj)))
def G.gz (f:Nat) (ax:List aH) (dS:Int):Option (Int):=match f with
| 0=>none
| n+1 =>
(cond (decide ((IntKind.wrap .i64 (dS-((ax.length:Nat):Int)))<0))
(some ((-1)))
(G.gz.L1 n ax (IntKind.wrap .i64 (dS-((ax.length:Nat):Int))) 0))
def G.lN (f:Nat) (ax:StoreT) (dS:Int):Option (Int):=match f with
| 0=>none
| n+1 =>
((G.gz n ax.Items dS).bind fun v1 =>
(cond (decide (v1<0))
(some ((-1)))
(some (v1))))
def G.jy (f:Nat) (ax:RequestT):Option (RequestT):=match f with
| 0=>none
| n+1 =>
((G.dN n ax.Want).bind fun v1 =>
((G.dN n ax.lK).bind fun v2 =>
((G.iD n ax.Body).bind fun v3 =>
((G.iT n ax.Ops).bind fun v4 =>
(some ((RequestT.mk ax.Method ax.Name v1 v2 v3 v4)))))))
def G.mF (f:Nat) (ax:aH):Option (aH):=match f with
| 0=>none
| n+1 =>
((G.iD n ax.Node).bind fun v1 =>
(some ((aH.mk ax.Name ax.Version v1))))
def G.iq.L1 (f:Nat) (ax:List aH) (ak:Int) (z3:List aH):Option (List aH):=match f with
| 0=>none
| n+1 =>
(cond (decide (ak<((ax.length:Nat):Int)))
(chk (0<=ak/\ak<((ax.length:Nat):Int))
((G.mF n (aH.mk ((ax.getD ak.toNat default).Name) ((ax.getD ak.toNat default).Version) ((ax.getD ak.toNat default).Node))).bind fun v3 =>
(chk (0<=ak/\ak<((z3.length:Nat):Int))
(G.iq.L1 n ax (IntKind.wrap .i64 (ak+1)) (z3.set ak.toNat v3)))))
(some (z3)))
def G.iq (f:Nat) (ax:List aH):Option (List aH):=match f with
| 0=>none
| n+1 =>
(chk (0<=((ax.length:Nat):Int)/\((ax.length:Nat):Int)<=((ax.length:Nat):Int)/\104*((ax.length:Nat):Int)<=2^47/\((ax.length:Nat):Int)<=2^47)
(G.iq.L1 n ax 0 (List.replicate ax.length (aH.mk [] 0 (af.mk 0 0 [] [] [])))))
def G.kL (f:Nat) (ax:StoreT):Option (StoreT):=match f with
| 0=>none
| n+1 =>
((G.iq n ax.Items).bind fun v1 =>
(some ((StoreT.mk v1 ax.Clock))))
def G.dF.L1 (f:Nat) (aA:List jq) (ak:Int) (y6:Int) (y7:Int) (y8:aS) (y9:List aS) (CE:List af):Option (af × Bool):=match f with
| 0=>none
| n+1 =>
(cond (decide (ak<((aA.length:Nat):Int)))
(chk (0<=ak/\ak<((aA.length:Nat):Int))
((G.iH n (af.mk y6 y7 y8 y9 CE) (jq.mk ((aA.getD ak.toNat default).Kind) ((aA.getD ak.toNat default).Path) ((aA.getD ak.toNat default).From) ((aA.getD ak.toNat default).Value))).bind fun v6 =>
(cond v6.2
(G.dF.L1 n aA (IntKind.wrap .i64 (ak+1)) v6.1.Kind v6.1.Num v6.1.Text v6.1.Names v6.1.Kids)
(some ((af.mk 0 0 [] [] []),false)))))
(some ((af.mk y6 y7 y8 y9 CE),true)))
def G.dF (f:Nat) (ag:af) (aA:List jq):Option (af × Bool):=match f with
| 0=>none
| n+1 =>
((G.bD n ag).bind fun v1 =>
(cond v1
((G.bf n aA).bind fun v2 =>
(cond v2
((G.ay n ag).bind fun v3 =>
(G.dF.L1 n aA 0 v3.Kind v3.Num v3.Text v3.Names v3.Kids))
(some ((af.mk 0 0 [] [] []),false))))
(some ((af.mk 0 0 [] [] []),false))))
mutual
def G.dG.L2 (f:Nat) (aP:af) (ak:Int) (U3:Int) (U4:Int) (y13:aS) (U5:List aS) (Tn:List af):Option (af):=match f with
| 0=>none
| n+1 =>
(cond (decide (ak<((aP.Kids.length:Nat):Int)))
(chk (0<=ak/\ak<((aP.Names.length:Nat):Int))
((G.dH n (af.mk U3 U4 y13 U5 Tn) (aP.Names.getD ak.toNat default)).bind fun v19 =>
(chk (0<=ak/\ak<((aP.Kids.length:Nat):Int))
(cond ((aP.Kids.getD ak.toNat default).Kind==0)
(cond (decide (0<=v19))
((G.eU n (af.mk U3 U4 y13 U5 Tn) [(aP.Names.getD ak.toNat default)]).bind fun v20 =>
(G.dG.L2 n aP (IntKind.wrap .i64 (ak+1)) v20.1.Kind v20.1.Num v20.1.Text v20.1.Names v20.1.Kids))
(chk (0<=ak/\ak<((aP.Kids.length:Nat):Int))
(cond ((aP.Kids.getD ak.toNat default).Kind != 0)
(chk (0<=ak/\ak<((aP.Kids.length:Nat):Int))
(chk (0<=ak/\ak<((aP.Kids.length:Nat):Int))
((G.dG n (af.mk 0 0 [] [] []) (aP.Kids.getD ak.toNat default)).bind fun v21 =>
((G.jC n (af.mk U3 U4 y13 U5 Tn) (aP.Names.getD ak.toNat default) v21).bind fun v22 =>
(G.dG.L2 n aP (IntKind.wrap .i64 (ak+1)) v22.1.Kind v22.1.Num v22.1.Text v22.1.Names v22.1.Kids)))))
(chk (0<=ak/\ak<((aP.Kids.length:Nat):Int))
(G.dG.L2 n aP (IntKind.wrap .i64 (ak+1)) U3 U4 y13 U5 Tn)))))
(chk (0<=ak/\ak<((aP.Kids.length:Nat):Int))
(cond ((aP.Kids.getD ak.toNat default).Kind != 0)
(cond (decide (0<=v19))
(chk (0<=v19/\v19<((Tn.length:Nat):Int))
(chk (0<=ak/\ak<((aP.Kids.length:Nat):Int))
((G.dG n (Tn.getD v19.toNat default) (aP.Kids.getD ak.toNat default)).bind fun v23 =>
((G.iQ n (af.mk U3 U4 y13 U5 Tn) v19 v23).bind fun v24 =>
(G.dG.L2 n aP (IntKind.wrap .i64 (ak+1)) v24.Kind v24.Num v24.Text v24.Names v24.Kids)))))
(chk (0<=ak/\ak<((aP.Kids.length:Nat):Int))
(chk (0<=ak/\ak<((aP.Kids.length:Nat):Int))
((G.dG n (af.mk 0 0 [] [] []) (aP.Kids.getD ak.toNat default)).bind fun v25 =>
((G.jC n (af.mk U3 U4 y13 U5 Tn) (aP.Names.getD ak.toNat default) v25).bind fun v26 =>
(G.dG.L2 n aP (IntKind.wrap .i64 (ak+1)) v26.1.Kind v26.1.Num v26.1.Text v26.1.Names v26.1.Kids))))))
(chk (0<=ak/\ak<((aP.Kids.length:Nat):Int))
(G.dG.L2 n aP (IntKind.wrap .i64 (ak+1)) U3 U4 y13 U5 Tn))))))))
(some ((af.mk U3 U4 y13 U5 Tn))))
def G.dG.K1 (f:Nat) (aP:af) (y1:Int) (y2:Int) (y3:aS) (y4:List aS) (y5:List af):Option (af):=match f with
| 0=>none
| n+1 =>
(G.dG.L2 n aP 0 y1 y2 y3 y4 y5)
def G.dG (f:Nat) (ag:af) (aP:af):Option (af):=match f with
| 0=>none
| n+1 =>
(cond (aP.Kind != 4)
((G.ay n aP).bind fun v1 =>
(some (v1)))
(cond (ag.Kind==4)
((G.ay n ag).bind fun v27 =>
(G.dG.K1 n aP v27.Kind v27.Num v27.Text v27.Names v27.Kids))
(G.dG.K1 n aP 4 0 [] [] [])))
end
def G.jA (f:Nat) (ag:af) (aP:af):Option (af × Bool):=match f with
| 0=>none
| n+1 =>
((G.bD n ag).bind fun v1 =>
(cond v1
((G.bD n aP).bind fun v2 =>
(cond v2
((G.dG n ag aP).bind fun v3 =>
((G.je n v3 true).bind fun v4 =>
(some (v4.1,v4.2))))
(some ((af.mk 0 0 [] [] []),false))))
(some ((af.mk 0 0 [] [] []),false))))
def G.iG (f:Nat) (nY:Int):Option (dA):=match f with
| 0=>none
| n+1 =>
(some ((dA.mk nY [] 0 (af.mk 0 0 [] [] []))))
def G.gu.L1 (f:Nat) (aA:List aS) (jS:aS) (ak:Int):Option (Bool):=match f with
| 0=>none
| n+1 =>
(cond (decide (ak<((aA.length:Nat):Int)))
(chk (0<=ak/\ak<((aA.length:Nat):Int))
(cond ((aA.getD ak.toNat default)==jS)
(some (true))
(chk (0<=ak/\ak<((aA.length:Nat):Int))
(cond ((aA.getD ak.toNat default)==[42])
(some (true))
(G.gu.L1 n aA jS (IntKind.wrap .i64 (ak+1)))))))
(some (false)))
def G.gu (f:Nat) (aA:List aS) (jS:aS):Option (Bool):=match f with
| 0=>none
| n+1 =>
(G.gu.L1 n aA jS 0)
def G.lT (f:Nat) (nI:List aS) (lF:List aS) (jS:aS) (mG:Bool):Option (Int):=match f with
| 0=>none
| n+1 =>
(cond (decide (0<((nI.length:Nat):Int)))
(cond (jS==[])
(some (412))
((G.gu n nI jS).bind fun v1 =>
(cond v1
(cond (decide (0<((lF.length:Nat):Int)))
((G.gu n lF jS).bind fun v2 =>
(cond v2
(cond mG
(some (304))
(some (412)))
(some (200))))
(some (200)))
(some (412)))))
(cond (decide (0<((lF.length:Nat):Int)))
(cond (jS==[])
(some (200))
((G.gu n lF jS).bind fun v3 =>
(cond v3
(cond mG
(some (304))
(some (412)))
(some (200)))))
(some (200))))
def G.bC.L1 (f:Nat) (ai:StoreT) (ak:Int) (z2:List aH):Option (StoreT):=match f with
| 0=>none
| n+1 =>
(cond (decide (ak<((ai.Items.length:Nat):Int)))
(chk (0<=ak/\ak<((ai.Items.length:Nat):Int))
(chk (0<=ak/\ak<((ai.Items.length:Nat):Int))
(chk (0<=ak/\ak<((ai.Items.length:Nat):Int))
((G.ay n ((ai.Items.getD ak.toNat default).Node)).bind fun v3 =>
(chk ((z2.length+1)*112<=2^46)
(G.bC.L1 n ai (IntKind.wrap .i64 (ak+1)) (z2++[(aH.mk ((ai.Items.getD ak.toNat default).Name) ((ai.Items.getD ak.toNat default).Version) v3)])))))))
(some ((StoreT.mk z2 ai.Clock))))
def G.bC (f:Nat) (ai:StoreT):Option (StoreT):=match f with
| 0=>none
| n+1 =>
(G.bC.L1 n ai 0 [])
def G.jM.L1 (f:Nat) (ai:StoreT) (aW:aS) (v1:StoreT) (ak:Int) (z2:List aH):Option (StoreT):=match f with
| 0=>none
| n+1 =>
(cond (decide (ak<((v1.Items.length:Nat):Int)))
(chk (0<=ak/\ak<((v1.Items.length:Nat):Int))
(cond ((v1.Items.getD ak.toNat default).Name==aW)
(G.jM.L1 n ai aW v1 (IntKind.wrap .i64 (ak+1)) z2)
(chk (0<=ak/\ak<((v1.Items.length:Nat):Int))
(chk ((z2.length+1)*112<=2^46)
(G.jM.L1 n ai aW v1 (IntKind.wrap .i64 (ak+1)) (z2++[(aH.mk ((v1.Items.getD ak.toNat default).Name) ((v1.Items.getD ak.toNat default).Version) ((v1.Items.getD ak.toNat default).Node))]))))))
(some ((StoreT.mk z2 (IntKind.wrap .i64 (ai.Clock+1))))))
def G.jM (f:Nat) (ai:StoreT) (aW:aS):Option (StoreT):=match f with
| 0=>none
| n+1 =>
((G.bC n ai).bind fun v1 =>
(G.jM.L1 n ai aW v1 0 []))
def G.iP.L1 (f:Nat) (ai:StoreT) (aW:aS) (ak:Int):Option (Int):=match f with
| 0=>none
| n+1 =>
(cond (decide (ak<((ai.Items.length:Nat):Int)))
(chk (0<=ak/\ak<((ai.Items.length:Nat):Int))
(cond ((ai.Items.getD ak.toNat default).Name==aW)
(some (ak))
(G.iP.L1 n ai aW (IntKind.wrap .i64 (ak+1)))))
(some ((-1))))
def G.iP (f:Nat) (ai:StoreT) (aW:aS):Option (Int):=match f with
| 0=>none
| n+1 =>
(G.iP.L1 n ai aW 0)
def G.gJ.L1 (f:Nat) (ai:aS) (uP:aS) (ak:Int):Option (aS):=match f with
| 0=>none
| n+1 =>
(cond (decide (ak<((ai.length:Nat):Int)))
(chk (0<=ak/\ak<((ai.length:Nat):Int))
(cond ((((ai.getD ak.toNat 0).toNat:Nat):Int)==34)
(chk (uP.length+1<=maxLen)
(chk (0<=ak/\ak<=(IntKind.wrap .i64 (ak+1))/\(IntKind.wrap .i64 (ak+1))<=((ai.length:Nat):Int))
(chk ((uP.length+1)+((ai.take ((IntKind.wrap .i64 (ak+1)).toNat)).drop ak.toNat).length<=maxLen)
(G.gJ.L1 n ai ((uP++[92])++((ai.take ((IntKind.wrap .i64 (ak+1)).toNat)).drop ak.toNat)) (IntKind.wrap .i64 (ak+1))))))
(chk (0<=ak/\ak<((ai.length:Nat):Int))
(cond ((((ai.getD ak.toNat 0).toNat:Nat):Int)==92)
(chk (uP.length+1<=maxLen)
(chk (0<=ak/\ak<=(IntKind.wrap .i64 (ak+1))/\(IntKind.wrap .i64 (ak+1))<=((ai.length:Nat):Int))
(chk ((uP.length+1)+((ai.take ((IntKind.wrap .i64 (ak+1)).toNat)).drop ak.toNat).length<=maxLen)
(G.gJ.L1 n ai ((uP++[92])++((ai.take ((IntKind.wrap .i64 (ak+1)).toNat)).drop ak.toNat)) (IntKind.wrap .i64 (ak+1))))))
(chk (0<=ak/\ak<=(IntKind.wrap .i64 (ak+1))/\(IntKind.wrap .i64 (ak+1))<=((ai.length:Nat):Int))
(chk (uP.length+((ai.take ((IntKind.wrap .i64 (ak+1)).toNat)).drop ak.toNat).length<=maxLen)
(G.gJ.L1 n ai (uP++((ai.take ((IntKind.wrap .i64 (ak+1)).toNat)).drop ak.toNat)) (IntKind.wrap .i64 (ak+1)))))))))
(chk (uP.length+1<=maxLen)
(some ((uP++[34])))))
def G.gJ (f:Nat) (ai:aS):Option (aS):=match f with
| 0=>none
| n+1 =>
(G.gJ.L1 n ai [34] 0)
mutual
def G.bM.K7 (f:Nat) (ag:af) (ak:Int) (SV:aS):Option (aS):=match f with
| 0=>none
| n+1 =>
(chk (0<=ak/\ak<((ag.Kids.length:Nat):Int))
((G.bM n (ag.Kids.getD ak.toNat default)).bind fun v10 =>
(chk (SV.length+v10.length<=maxLen)
(G.bM.L5 n ag (SV++v10) (IntKind.wrap .i64 (ak+1))))))
def G.bM.K6 (f:Nat) (ag:af) (ak:Int) (IY:aS):Option (aS):=match f with
| 0=>none
| n+1 =>
(cond (ag.Kind==4)
(chk (0<=ak/\ak<((ag.Names.length:Nat):Int))
((G.gJ n (ag.Names.getD ak.toNat default)).bind fun v11 =>
(chk (IY.length+v11.length<=maxLen)
(chk ((IY.length+v11.length)+1<=maxLen)
(G.bM.K7 n ag ak ((IY++v11)++[58]))))))
(G.bM.K7 n ag ak IY))
def G.bM.L5 (f:Nat) (ag:af) (wF:aS) (ak:Int):Option (aS):=match f with
| 0=>none
| n+1 =>
(cond (decide (ak<((ag.Kids.length:Nat):Int)))
(cond (decide (0<ak))
(chk (wF.length+1<=maxLen)
(G.bM.K6 n ag ak (wF++[44])))
(G.bM.K6 n ag ak wF))
(cond (ag.Kind==4)
(chk (1+wF.length<=maxLen)
(chk ((1+wF.length)+1<=maxLen)
(some ((([123]++wF)++[125])))))
(chk (1+wF.length<=maxLen)
(chk ((1+wF.length)+1<=maxLen)
(some ((([91]++wF)++[93])))))))
def G.bM (f:Nat) (ag:af):Option (aS):=match f with
| 0=>none
| n+1 =>
(cond (ag.Kind==1)
((G.fG n ag.Num).bind fun v1 =>
(some (v1)))
(cond (ag.Kind==2)
((G.gJ n ag.Text).bind fun v2 =>
(some (v2)))
(cond (ag.Kind==0)
(some ([110,117,108,108]))
(G.bM.L5 n ag [] 0))))
end
def G.ou (f:Nat) (ag:Int):Option (aS):=match f with
| 0=>none
| n+1 =>
(chk (0<=(IntKind.wrap .i64 (Int.tdiv ag 4096))/\(IntKind.wrap .i64 (Int.tdiv ag 4096))<((16:Nat):Int))
(chk (0<=(Int.tmod (IntKind.wrap .i64 (Int.tdiv ag 256)) 16)/\(Int.tmod (IntKind.wrap .i64 (Int.tdiv ag 256)) 16)<((16:Nat):Int))
(chk (0<=(Int.tmod (IntKind.wrap .i64 (Int.tdiv ag 16)) 16)/\(Int.tmod (IntKind.wrap .i64 (Int.tdiv ag 16)) 16)<((16:Nat):Int))
(chk (0<=(Int.tmod ag 16)/\(Int.tmod ag 16)<((16:Nat):Int))
(chk (4<=maxLen)
(some ([UInt8.ofNat ((([48,49,50,51,52,53,54,55,56,57,97,98,99,100,101,102]:aS).getD (IntKind.wrap .i64 (Int.tdiv ag 4096)).toNat 0).toNat),UInt8.ofNat ((([48,49,50,51,52,53,54,55,56,57,97,98,99,100,101,102]:aS).getD (Int.tmod (IntKind.wrap .i64 (Int.tdiv ag 256)) 16).toNat 0).toNat),UInt8.ofNat ((([48,49,50,51,52,53,54,55,56,57,97,98,99,100,101,102]:aS).getD (Int.tmod (IntKind.wrap .i64 (Int.tdiv ag 16)) 16).toNat 0).toNat),UInt8.ofNat ((([48,49,50,51,52,53,54,55,56,57,97,98,99,100,101,102]:aS).getD (Int.tmod ag 16).toNat 0).toNat)])))))))
def G.jB.L1 (f:Nat) (ai:aS) (WQ:Int) (ak:Int):Option (Int):=match f with
| 0=>none
| n+1 =>
(cond (decide (ak<((ai.length:Nat):Int)))
(chk (0<=ak/\ak<((ai.length:Nat):Int))
(G.jB.L1 n ai (Int.tmod (IntKind.wrap .i64 ((IntKind.wrap .i64 (131*WQ))+(IntKind.wrap .i64 ((((ai.getD ak.toNat 0).toNat:Nat):Int))))) 65521) (IntKind.wrap .i64 (ak+1))))
(some (WQ)))
def G.jB (f:Nat) (ai:aS):Option (Int):=match f with
| 0=>none
| n+1 =>
(G.jB.L1 n ai 17 0)
def G.jW (f:Nat) (ai:StoreT) (aW:aS):Option (aS):=match f with
| 0=>none
| n+1 =>
((G.iP n ai aW).bind fun v1 =>
(cond (decide (v1<0))
(some ([]))
(chk (0<=v1/\v1<((ai.Items.length:Nat):Int))
((G.bM n ((ai.Items.getD v1.toNat default).Node)).bind fun v2 =>
((G.jB n v2).bind fun v3 =>
((G.ou n v3).bind fun v4 =>
(some (v4))))))))
mutual
def G.fO.K4 (f:Nat) (ai:StoreT) (aW:aS) (v1:af) (v2:StoreT) (ak:Int) (NS:Bool) (z5:List aH):Option (StoreT):=match f with
| 0=>none
| n+1 =>
(chk (0<=ak/\ak<((v2.Items.length:Nat):Int))
(cond ((v2.Items.getD ak.toNat default).Name==aW)
(G.fO.L3 n ai aW v1 v2 NS (IntKind.wrap .i64 (ak+1)) z5)
(chk (0<=ak/\ak<((v2.Items.length:Nat):Int))
(chk ((z5.length+1)*112<=2^46)
(G.fO.L3 n ai aW v1 v2 NS (IntKind.wrap .i64 (ak+1)) (z5++[(aH.mk ((v2.Items.getD ak.toNat default).Name) ((v2.Items.getD ak.toNat default).Version) ((v2.Items.getD ak.toNat default).Node))]))))))
def G.fO.L3 (f:Nat) (ai:StoreT) (aW:aS) (v1:af) (v2:StoreT) (NR:Bool) (ak:Int) (z4:List aH):Option (StoreT):=match f with
| 0=>none
| n+1 =>
(cond (decide (ak<((v2.Items.length:Nat):Int)))
(cond NR
(G.fO.K4 n ai aW v1 v2 ak true z4)
(chk (0<=ak/\ak<((v2.Items.length:Nat):Int))
(cond (Op.bytesLess ((v2.Items.getD ak.toNat default).Name) aW)
(G.fO.K4 n ai aW v1 v2 ak false z4)
(chk ((z4.length+1)*112<=2^46)
(G.fO.K4 n ai aW v1 v2 ak true (z4++[(aH.mk aW (IntKind.wrap .i64 (ai.Clock+1)) v1)]))))))
(cond NR
(some ((StoreT.mk z4 (IntKind.wrap .i64 (ai.Clock+1)))))
(chk ((z4.length+1)*112<=2^46)
(some ((StoreT.mk (z4++[(aH.mk aW (IntKind.wrap .i64 (ai.Clock+1)) v1)]) (IntKind.wrap .i64 (ai.Clock+1))))))))
end
def G.fO (f:Nat) (ai:StoreT) (aW:aS) (ag:af):Option (StoreT):=match f with
| 0=>none
| n+1 =>
((G.ay n ag).bind fun v1 =>
((G.bC n ai).bind fun v2 =>
(G.fO.L3 n ai aW v1 v2 false 0 [])))
def G.fK.K1 (f:Nat) (ai:StoreT) (aW:aS) (ag:af) (PY:Int):Option (StoreT × dA):=match f with
| 0=>none
| n+1 =>
((G.fO n ai aW ag).bind fun v2 =>
((G.bz n v2).bind fun v3 =>
(cond v3
((G.jW n v2 aW).bind fun v4 =>
(some (v2,(dA.mk PY v4 v2.Clock (af.mk 0 0 [] [] [])))))
((G.bC n ai).bind fun v5 =>
((G.iG n 422).bind fun v6 =>
(some (v5,v6)))))))
def G.fK (f:Nat) (ai:StoreT) (aW:aS) (ag:af):Option (StoreT × dA):=match f with
| 0=>none
| n+1 =>
((G.iP n ai aW).bind fun v7 =>
(cond (decide (v7<0))
(G.fK.K1 n ai aW ag 201)
(G.fK.K1 n ai aW ag 200)))
def G.eG.K1 (f:Nat) (ai:StoreT) (bn:RequestT) (SS:Bool) (y1:Int) (y2:Int) (y3:aS) (y4:List aS) (y5:List af):Option (StoreT × dA):=match f with
| 0=>none
| n+1 =>
(cond SS
((G.fK n ai bn.Name (af.mk y1 y2 y3 y4 y5)).bind fun v17 =>
(some (v17.1,v17.2)))
((G.bC n ai).bind fun v18 =>
((G.iG n 422).bind fun v19 =>
(some (v18,v19)))))
def G.eG.K2 (f:Nat) (ai:StoreT) (bn:RequestT) (WR:Bool) (y6:Int) (y7:Int) (y8:aS) (y9:List aS) (CE:List af):Option (StoreT × dA):=match f with
| 0=>none
| n+1 =>
(cond WR
((G.fK n ai bn.Name (af.mk y6 y7 y8 y9 CE)).bind fun v34 =>
(some (v34.1,v34.2)))
((G.bC n ai).bind fun v35 =>
((G.iG n 422).bind fun v36 =>
(some (v35,v36)))))
def G.eG (f:Nat) (ai:StoreT) (bn:RequestT):Option (StoreT × dA):=match f with
| 0=>none
| n+1 =>
((G.iP n ai bn.Name).bind fun v1 =>
(cond (decide (v1<0))
(cond (bn.Method != 2)
((G.bC n ai).bind fun v2 =>
((G.iG n 404).bind fun v3 =>
(some (v2,v3))))
((G.jW n ai bn.Name).bind fun v4 =>
((G.lT n bn.Want bn.lK v4 (bn.Method==1)).bind fun v5 =>
(cond (v5 != 200)
((G.bC n ai).bind fun v6 =>
((G.iG n v5).bind fun v7 =>
(some (v6,v7))))
(cond (bn.Method==1)
((G.bC n ai).bind fun v8 =>
((G.jW n ai bn.Name).bind fun v9 =>
(chk (0<=v1/\v1<((ai.Items.length:Nat):Int))
(chk (0<=v1/\v1<((ai.Items.length:Nat):Int))
((G.ay n ((ai.Items.getD v1.toNat default).Node)).bind fun v10 =>
(some (v8,(dA.mk v5 v9 ((ai.Items.getD v1.toNat default).Version) v10))))))))
(cond (bn.Method==2)
((G.fK n ai bn.Name bn.Body).bind fun v11 =>
(some (v11.1,v11.2)))
(cond (bn.Method==3)
(cond (ai.Clock==999)
((G.bC n ai).bind fun v12 =>
((G.iG n 422).bind fun v13 =>
(some (v12,v13))))
((G.jM n ai bn.Name).bind fun v14 =>
(some (v14,(dA.mk v5 [] (IntKind.wrap .i64 (ai.Clock+1)) (af.mk 0 0 [] [] []))))))
(chk (0<=v1/\v1<((ai.Items.length:Nat):Int))
((G.dF n ((ai.Items.getD v1.toNat default).Node) bn.Ops).bind fun v15 =>
(cond (bn.Method==5)
(chk (0<=v1/\v1<((ai.Items.length:Nat):Int))
((G.jA n ((ai.Items.getD v1.toNat default).Node) bn.Body).bind fun v20 =>
(G.eG.K1 n ai bn v20.2 v20.1.Kind v20.1.Num v20.1.Text v20.1.Names v20.1.Kids)))
(G.eG.K1 n ai bn v15.2 v15.1.Kind v15.1.Num v15.1.Text v15.1.Names v15.1.Kids)))))))))))
((G.jW n ai bn.Name).bind fun v21 =>
((G.lT n bn.Want bn.lK v21 (bn.Method==1)).bind fun v22 =>
(cond (v22 != 200)
((G.bC n ai).bind fun v23 =>
((G.iG n v22).bind fun v24 =>
(some (v23,v24))))
(cond (bn.Method==1)
((G.bC n ai).bind fun v25 =>
((G.jW n ai bn.Name).bind fun v26 =>
(chk (0<=v1/\v1<((ai.Items.length:Nat):Int))
(chk (0<=v1/\v1<((ai.Items.length:Nat):Int))
((G.ay n ((ai.Items.getD v1.toNat default).Node)).bind fun v27 =>
(some (v25,(dA.mk v22 v26 ((ai.Items.getD v1.toNat default).Version) v27))))))))
(cond (bn.Method==2)
((G.fK n ai bn.Name bn.Body).bind fun v28 =>
(some (v28.1,v28.2)))
(cond (bn.Method==3)
(cond (ai.Clock==999)
((G.bC n ai).bind fun v29 =>
((G.iG n 422).bind fun v30 =>
(some (v29,v30))))
((G.jM n ai bn.Name).bind fun v31 =>
(some (v31,(dA.mk v22 [] (IntKind.wrap .i64 (ai.Clock+1)) (af.mk 0 0 [] [] []))))))
(chk (0<=v1/\v1<((ai.Items.length:Nat):Int))
((G.dF n ((ai.Items.getD v1.toNat default).Node) bn.Ops).bind fun v32 =>
(cond (bn.Method==5)
(chk (0<=v1/\v1<((ai.Items.length:Nat):Int))
((G.jA n ((ai.Items.getD v1.toNat default).Node) bn.Body).bind fun v37 =>
(G.eG.K2 n ai bn v37.2 v37.1.Kind v37.1.Num v37.1.Text v37.1.Names v37.1.Kids)))
(G.eG.K2 n ai bn v32.2 v32.1.Kind v32.1.Num v32.1.Text v32.1.Names v32.1.Kids))))))))))))
def G.fE.L1 (f:Nat) (ai:aS) (ak:Int):Option (Bool):=match f with
| 0=>none
| n+1 =>
(cond (decide (ak<((ai.length:Nat):Int)))
(chk (0<=ak/\ak<((ai.length:Nat):Int))
((G.bK n (IntKind.wrap .i64 ((((ai.getD ak.toNat 0).toNat:Nat):Int))) 48 57).bind fun v5 =>
(cond v5
(G.fE.L1 n ai (IntKind.wrap .i64 (ak+1)))
(chk (0<=ak/\ak<((ai.length:Nat):Int))
((G.bK n (IntKind.wrap .i64 ((((ai.getD ak.toNat 0).toNat:Nat):Int))) 97 102).bind fun v6 =>
(cond v6
(G.fE.L1 n ai (IntKind.wrap .i64 (ak+1)))
(some (false))))))))
(some ((((ai.length:Nat):Int)==4))))
def G.fE (f:Nat) (ai:aS):Option (Bool):=match f with
| 0=>none
| n+1 =>
(G.fE.L1 n ai 0)
def G.dR.L1 (f:Nat) (aA:List aS) (ak:Int):Option (Bool):=match f with
| 0=>none
| n+1 =>
(cond (decide (ak<((aA.length:Nat):Int)))
(chk (0<=ak/\ak<((aA.length:Nat):Int))
(cond ((aA.getD ak.toNat default)==[42])
(G.dR.L1 n aA (IntKind.wrap .i64 (ak+1)))
(chk (0<=ak/\ak<((aA.length:Nat):Int))
((G.fE n (aA.getD ak.toNat default)).bind fun v3 =>
(cond v3
(G.dR.L1 n aA (IntKind.wrap .i64 (ak+1)))
(some (false)))))))
(some ((decide (((aA.length:Nat):Int)<=4)))))
def G.dR (f:Nat) (aA:List aS):Option (Bool):=match f with
| 0=>none
| n+1 =>
(G.dR.L1 n aA 0)
def G.gV (f:Nat) (bn:RequestT):Option (Bool):=match f with
| 0=>none
| n+1 =>
((G.bK n bn.Method 1 5).bind fun v1 =>
(cond v1
((G.cZ n bn.Name).bind fun v2 =>
(cond v2
((G.dR n bn.Want).bind fun v3 =>
(cond v3
((G.dR n bn.lK).bind fun v4 =>
(cond v4
((G.bD n bn.Body).bind fun v5 =>
(cond v5
((G.bf n bn.Ops).bind fun v6 =>
(some (v6)))
(some (false))))
(some (false))))
(some (false))))
(some (false))))
(some (false))))
def G.kG (f:Nat) (ai:StoreT) (bn:RequestT):Option (Bool):=match f with
| 0=>none
| n+1 =>
((G.bz n ai).bind fun v1 =>
(cond v1
((G.gV n bn).bind fun v2 =>
(cond v2
((G.eG n ai bn).bind fun v3 =>
(cond (v3.2.Status==200)
(some (true))
(some ((v3.2.Status==201)))))
(some (false))))
(some (false))))
def G.fU (f:Nat) (yE:StoreT) (rO:RequestT):Option (Bool):=match f with
| 0=>none
| n+1 =>
((G.lN n yE 1048576).bind fun v1 =>
(cond (decide (v1<0))
(some (true))
((G.iC n rO v1).bind fun v2 =>
(cond (decide (v2<0))
(some (true))
((G.kL n yE).bind fun v3 =>
((G.jy n rO).bind fun v4 =>
((G.kG n v3 v4).bind fun v5 =>
((G.kL n yE).bind fun v6 =>
((G.jy n rO).bind fun v7 =>
((G.kD n v6 v7).bind fun v8 =>
(cond v8
(cond v5
((G.kL n yE).bind fun v9 =>
((G.lM n v6 v9).bind fun v10 =>
(cond v10
((G.jy n rO).bind fun v11 =>
((G.jV n v7 v11).bind fun v12 =>
(cond v12
(some (true))
(some (false)))))
(some (false)))))
(some (false)))
(cond v5
(some (false))
((G.kL n yE).bind fun v13 =>
((G.lM n v6 v13).bind fun v14 =>
(cond v14
((G.jy n rO).bind fun v15 =>
((G.jV n v7 v15).bind fun v16 =>
(cond v16
(some (true))
(some (false)))))
(some (false)))))))))))))))))
end Go.Ab
end
section
namespace Go.Ab
open Go
set_option maxRecDepth 100000
set_option linter.defProp false
inductive Mk:Nat->Prop
 | mk (n:Nat):Mk n
end Go.Ab
end
section
namespace Go.Ab
open Go
set_option maxRecDepth 100000
set_option linter.unusedVariables false
theorem Qw {p:Prop} (x:p:=by
  obtain ⟨zc,zg,zk,zu,ze,zj,zt,zq⟩:=z
  try simp only [wN,wI,wS,wT,wK,zN,eP,eI,eS,eT] at zc zk zu zt zj ⊢
  repeat' first
  | (clear h; (with_reducible intro n x hn h); rcases n with _ | n<;>simp only [ze.1,reduceCtorEq] at h)
  | (simp only [reduceCtorEq] at h; done)
  | ((with_reducible replace h:=XI h); obtain ⟨_,_,h⟩:=h)
  | ((with_reducible replace h:=XJ h); obtain ⟨_,_,h⟩:=h)
  | ((with_reducible replace h:=kq h); obtain ⟨_,h⟩:=h)
  | ((with_reducible replace h:=sq h); subst h; have h:=True.intro)
  | (try simp -dsimp only [yF,fA.gm,fA.f,fA.rd,lH,jX,lvl,kK,reduceIte,Nat.reduceEqDiff,Nat.reduceAdd,Nat.reduceLeDiff,Nat.reduceBEq,reduceCtorEq,Int.reduceBNe,Int.reduceBEq,Int.reduceLT,Int.reduceLE,Int.reduceNeg,Nat.reduceLT,lI,Int.reduceToNat,nU, *]
     repeat ((with_reducible refine And.intro ?_ ?_); focus first | (show kW _ _ _ _=true; kernel_rfl) | (show jT _ _=true; kernel_rfl) | omega | assumption | (show _<=maxLen; decide))
     first
     | with_reducible refine UI ?_
     | ((with_reducible refine UW ?_); first | (rename Mk 1=>tk; clear tk; have:True:=(by (first | rewrite [zq.1.1] at h | rewrite [zq.1.2.1] at h | rewrite [zq.1.2.2.1] at h | rewrite [zq.1.2.2.2.1] at h | rewrite [zq.1.2.2.2.2.1] at h | rewrite [zq.1.2.2.2.2.2.1] at h | rewrite [zq.1.2.2.2.2.2.2.1] at h | rewrite [zq.1.2.2.2.2.2.2.2.1] at h); exact True.intro); with_reducible refine zu.1 n ?_ ?_) | (rename Mk 2=>tk; clear tk; have:True:=(by (first | rewrite [zq.2.1.1] at h | rewrite [zq.2.1.2.1] at h | rewrite [zq.2.1.2.2.1] at h | rewrite [zq.2.1.2.2.2.1] at h | rewrite [zq.2.1.2.2.2.2.1] at h | rewrite [zq.2.1.2.2.2.2.2.1] at h | rewrite [zq.2.1.2.2.2.2.2.2.1] at h | rewrite [zq.2.1.2.2.2.2.2.2.2.1] at h); exact True.intro); with_reducible refine zu.2.1 n ?_ ?_) | (rename Mk 3=>tk; clear tk; have:True:=(by (first | rewrite [zq.2.2.1.1] at h | rewrite [zq.2.2.1.2.1] at h | rewrite [zq.2.2.1.2.2.1] at h | rewrite [zq.2.2.1.2.2.2.1] at h | rewrite [zq.2.2.1.2.2.2.2.1] at h | rewrite [zq.2.2.1.2.2.2.2.2.1] at h | rewrite [zq.2.2.1.2.2.2.2.2.2.1] at h | rewrite [zq.2.2.1.2.2.2.2.2.2.2.1] at h); exact True.intro); with_reducible refine zu.2.2.1 n ?_ ?_) | (rename Mk 4=>tk; clear tk; have:True:=(by (first | rewrite [zq.2.2.2.1.1] at h | rewrite [zq.2.2.2.1.2.1] at h | rewrite [zq.2.2.2.1.2.2.1] at h | rewrite [zq.2.2.2.1.2.2.2.1] at h | rewrite [zq.2.2.2.1.2.2.2.2.1] at h | rewrite [zq.2.2.2.1.2.2.2.2.2.1] at h | rewrite [zq.2.2.2.1.2.2.2.2.2.2.1] at h | rewrite [zq.2.2.2.1.2.2.2.2.2.2.2.1] at h); exact True.intro); with_reducible refine zu.2.2.2.1 n ?_ ?_) | (rename Mk 5=>tk; clear tk; have:True:=(by (first | rewrite [zq.2.2.2.2.1.1] at h | rewrite [zq.2.2.2.2.1.2.1] at h | rewrite [zq.2.2.2.2.1.2.2.1] at h | rewrite [zq.2.2.2.2.1.2.2.2.1] at h | rewrite [zq.2.2.2.2.1.2.2.2.2.1] at h | rewrite [zq.2.2.2.2.1.2.2.2.2.2.1] at h | rewrite [zq.2.2.2.2.1.2.2.2.2.2.2.1] at h | rewrite [zq.2.2.2.2.1.2.2.2.2.2.2.2.1] at h); exact True.intro); with_reducible refine zu.2.2.2.2.1 n ?_ ?_) | (rename Mk 6=>tk; clear tk; have:True:=(by (first | rewrite [zq.2.2.2.2.2.1.1] at h | rewrite [zq.2.2.2.2.2.1.2.1] at h | rewrite [zq.2.2.2.2.2.1.2.2.1] at h | rewrite [zq.2.2.2.2.2.1.2.2.2.1] at h | rewrite [zq.2.2.2.2.2.1.2.2.2.2.1] at h | rewrite [zq.2.2.2.2.2.1.2.2.2.2.2.1] at h | rewrite [zq.2.2.2.2.2.1.2.2.2.2.2.2.1] at h | rewrite [zq.2.2.2.2.2.1.2.2.2.2.2.2.2.1] at h); exact True.intro); with_reducible refine zu.2.2.2.2.2.1 n ?_ ?_))
     | ((with_reducible refine QW ?_); first | ((with_reducible refine zk.1 n ?_ ?_); (focus exact AY)) | ((with_reducible refine zk.2.1 n ?_ ?_); (focus exact AY)) | ((with_reducible refine zk.2.2.1 n ?_ ?_); (focus exact AY)) | ((with_reducible refine zk.2.2.2.1 n ?_ ?_); (focus exact AY)) | ((with_reducible refine zk.2.2.2.2.1 n ?_ ?_); (focus exact AY)) | ((with_reducible refine zk.2.2.2.2.2.1 n ?_ ?_); (focus exact AY)))
     | ((with_reducible refine QV ?_); (with_reducible replace h:=bq h); obtain ⟨_,hv,h⟩:=h; first | ((first | with_reducible have hc:=zc.1 hv | with_reducible have hc:=zc.1 _ (by omega) hv | with_reducible have hc:=zc.2.1 hv | with_reducible have hc:=zc.2.1 _ (by omega) hv | with_reducible have hc:=zc.2.2.1 hv | with_reducible have hc:=zc.2.2.1 _ (by omega) hv | with_reducible have hc:=zc.2.2.2.1 hv | with_reducible have hc:=zc.2.2.2.2.1 hv | with_reducible have hc:=zc.2.2.2.2.2.1 hv | with_reducible have hc:=zc.2.2.2.2.2.2.1 hv | with_reducible have hc:=zc.2.2.2.2.2.2.2.1 hv | with_reducible have hc:=zc.2.2.2.2.2.2.2.2.1 hv | with_reducible have hc:=zc.2.2.2.2.2.2.2.2.2.1 hv | with_reducible have hc:=zc.2.2.2.2.2.2.2.2.2.2.1 hv | with_reducible have hc:=zc.2.2.2.2.2.2.2.2.2.2.2.1 hv | with_reducible have hc:=zc.2.2.2.2.2.2.2.2.2.2.2.2.1 hv | with_reducible have hc:=zc.2.2.2.2.2.2.2.2.2.2.2.2.2.1 hv | with_reducible have hc:=zc.2.2.2.2.2.2.2.2.2.2.2.2.2.2.1 hv | with_reducible have hc:=zc.2.2.2.2.2.2.2.2.2.2.2.2.2.2.2.1 hv | with_reducible have hc:=zc.2.2.2.2.2.2.2.2.2.2.2.2.2.2.2.2.1 hv | with_reducible have hc:=zc.2.2.2.2.2.2.2.2.2.2.2.2.2.2.2.2.2.1 hv | with_reducible have hc:=zc.2.2.2.2.2.2.2.2.2.2.2.2.2.2.2.2.2.2.1 hv | with_reducible have hc:=zc.2.2.2.2.2.2.2.2.2.2.2.2.2.2.2.2.2.2.2.1 hv | with_reducible have hc:=zc.2.2.2.2.2.2.2.2.2.2.2.2.2.2.2.2.2.2.2.2.1 hv | with_reducible have hc:=zc.2.2.2.2.2.2.2.2.2.2.2.2.2.2.2.2.2.2.2.2.2.1 hv); (first | refine UH (fun _=>hc) rfl rfl ?_ | refine UJ hc rfl rfl ?_ | refine UG hc U0 U0 rfl rfl ?_ | refine UF hc U0 U0 rfl rfl ?_)) | ((first | with_reducible have hc:=zg.1.1 hv | with_reducible have hc:=zg.1.1 _ (by omega) hv); (first | refine zg.1.2 hc rfl rfl rP rP rfl rfl Bf rfl ?_ | refine zg.1.2 hc mO mO rfl rfl mO mO rfl rfl rfl ?_)) | ((first | with_reducible have hc:=zg.2.1.1 hv | with_reducible have hc:=zg.2.1.1 _ (by omega) hv); (first | refine zg.2.1.2 hc rfl rfl rP rP rfl rfl Bf rfl ?_ | refine zg.2.1.2 hc mO mO rfl rfl mO mO rfl rfl rfl ?_)) | ((first | with_reducible have hc:=zg.2.2.1.1 hv | with_reducible have hc:=zg.2.2.1.1 _ (by omega) hv); (first | refine zg.2.2.1.2 hc rfl rfl rP rP rfl rfl Bf rfl ?_ | refine zg.2.2.1.2 hc mO mO rfl rfl mO mO rfl rfl rfl ?_)) | ((with_reducible have hc:=zg.2.2.2.1.1 hv); (first | refine zg.2.2.2.1.2 hc rfl rfl rP rP rfl rfl Bf rfl ?_ | refine zg.2.2.2.1.2 hc mO mO rfl rfl mO mO rfl rfl rfl ?_)) | ((with_reducible have hc:=zg.2.2.2.2.1.1 hv); (first | refine zg.2.2.2.2.1.2 hc rfl rfl rP rP rfl rfl Bf rfl ?_ | refine zg.2.2.2.2.1.2 hc mO mO rfl rfl mO mO rfl rfl rfl ?_)) | ((with_reducible have hc:=zg.2.2.2.2.2.1.1 hv); (first | refine zg.2.2.2.2.2.1.2 hc rfl rfl rP rP rfl rfl Bf rfl ?_ | refine zg.2.2.2.2.2.1.2 hc mO mO rfl rfl mO mO rfl rfl rfl ?_)) | ((with_reducible have hc:=zg.2.2.2.2.2.2.1.1 hv); (first | refine zg.2.2.2.2.2.2.1.2 hc rfl rfl rP rP rfl rfl Bf rfl ?_ | refine zg.2.2.2.2.2.2.1.2 hc mO mO rfl rfl mO mO rfl rfl rfl ?_)) | ((with_reducible have hc:=zg.2.2.2.2.2.2.2.1.1 hv); (first | refine zg.2.2.2.2.2.2.2.1.2 hc rfl rfl rP rP rfl rfl Bf rfl ?_ | refine zg.2.2.2.2.2.2.2.1.2 hc mO mO rfl rfl mO mO rfl rfl rfl ?_)) | ((with_reducible have hc:=zg.2.2.2.2.2.2.2.2.1.1 hv); (first | refine zg.2.2.2.2.2.2.2.2.1.2 hc rfl rfl rP rP rfl rfl Bf rfl ?_ | refine zg.2.2.2.2.2.2.2.2.1.2 hc mO mO rfl rfl mO mO rfl rfl rfl ?_)) | ((with_reducible have hc:=zg.2.2.2.2.2.2.2.2.2.1.1 hv); (first | refine zg.2.2.2.2.2.2.2.2.2.1.2 hc rfl rfl rP rP rfl rfl Bf rfl ?_ | refine zg.2.2.2.2.2.2.2.2.2.1.2 hc mO mO rfl rfl mO mO rfl rfl rfl ?_)) | ((with_reducible have hc:=zg.2.2.2.2.2.2.2.2.2.2.1.1 hv); (first | refine zg.2.2.2.2.2.2.2.2.2.2.1.2 hc rfl rfl rP rP rfl rfl Bf rfl ?_ | refine zg.2.2.2.2.2.2.2.2.2.2.1.2 hc mO mO rfl rfl mO mO rfl rfl rfl ?_)) | ((with_reducible have hc:=zg.2.2.2.2.2.2.2.2.2.2.2.1.1 hv); (first | refine zg.2.2.2.2.2.2.2.2.2.2.2.1.2 hc rfl rfl rP rP rfl rfl Bf rfl ?_ | refine zg.2.2.2.2.2.2.2.2.2.2.2.1.2 hc mO mO rfl rfl mO mO rfl rfl rfl ?_)) | ((with_reducible have hc:=zg.2.2.2.2.2.2.2.2.2.2.2.2.1.1 hv); (first | refine zg.2.2.2.2.2.2.2.2.2.2.2.2.1.2 hc rfl rfl rP rP rfl rfl Bf rfl ?_ | refine zg.2.2.2.2.2.2.2.2.2.2.2.2.1.2 hc mO mO rfl rfl mO mO rfl rfl rfl ?_)) | ((with_reducible have hc:=zg.2.2.2.2.2.2.2.2.2.2.2.2.2.1.1 hv); (first | refine zg.2.2.2.2.2.2.2.2.2.2.2.2.2.1.2 hc rfl rfl rP rP rfl rfl Bf rfl ?_ | refine zg.2.2.2.2.2.2.2.2.2.2.2.2.2.1.2 hc mO mO rfl rfl mO mO rfl rfl rfl ?_)))
     | ((with_reducible replace h:=cq h); rcases h with ⟨c,h⟩ | ⟨c,h⟩<;>try (simp only [*,Bool.false_eq_true,reduceCtorEq] at c; done))
     | ((with_reducible refine WC ?_); exact AY)
     | ((with_reducible refine UX ?_); exact XN)
     | ((with_reducible refine UY ?_); first | exact zt.1 (by rfl) pG pG pG | exact zt.2.1 (by rfl) pG pG pG | exact zt.2.2.1 (by rfl) pG pG pG | exact zt.2.2.2.1 (by rfl) pG pG pG | exact zt.2.2.2.2.1 (by rfl) pG pG pG | exact zt.2.2.2.2.2.1 (by rfl) pG pG pG | exact zt.2.2.2.2.2.2.1 (by rfl) pG pG pG | exact zt.2.2.2.2.2.2.2.1 (by rfl) pG pG pG | exact zt.2.2.2.2.2.2.2.2.1 (by rfl) pG pG pG | exact zt.2.2.2.2.2.2.2.2.2.1 (by rfl) pG pG pG | exact zt.2.2.2.2.2.2.2.2.2.2.1 (by rfl) pG pG pG | exact zt.2.2.2.2.2.2.2.2.2.2.2.1 (by rfl) pG pG pG)
     | (cases h; done))):p:=x
end Go.Ab
end
section
namespace Go.Ab
open Go
set_option maxRecDepth 100000
set_option maxHeartbeats 4000000
set_option linter.unusedVariables false
set_option linter.unusedSimpArgs false
def C.jk:aO:=(.seq (.reg [qX 2 10 0,qZ 4 11,qB 5 false] [1,2,4]) (.seq (.seq (.reg [qT 8 5 2,q1 9 57 8,qO 10 9,zM 11 10,zG 11 false 12 (.mv (.t 1)),⟨(some (11,false)),some 13,.call 58 [.t 12]⟩,zG 11 false 14 (.not (.t 13)),qQ 15 11 14] [1,2,4,15]) (.cond (.t 15) (.seq (.reg [zA 16 (.build zN []),qS 5 4 16,qB 5 false] [4,5]) .ret) .skip)) (.seq (.reg [qT 18 5 2,zM 19 1,q2 20 59 18 19,zM 17 20,qE 21 17 0,qE 22 17 1,qZ 6 12,qS 5 6 21,zM 7 22] [1,4,6,7]) (.seq (.reg [qT 23 5 6,zM 24 7,zM 25 1,qL 26 25,zA 27 (.bin .eql (.t 24) (.t 26)),qS 5 4 23,zM 5 27] [4,5]) .ret))))
theorem K.jk:dO pZ 39 2 0 C.jk [.cell 4 true 5,.tmp 5]=true:=by kernel_rfl
def C.dL:aO:=(.seq (.reg [qI 4 0] [0,1]) (.seq (.reg [zM 5 0,zM 6 1,zA 7 (.OI (.t 5) (.t 6)),zM 4 7] [4]) .ret))
theorem K.dL:dO pZ 226 2 0 C.dL [.tmp 4]=true:=by kernel_rfl
def C.strings_IndexByte:aO:=(.seq (.reg [qI 4 0] [0,1]) (.seq (.reg [zM 5 0,zM 6 1,q2 7 226 5 6,zM 4 7] [4]) .ret))
theorem K.strings_IndexByte:dO pZ 205 2 0 C.strings_IndexByte [.tmp 4]=true:=by kernel_rfl
def C.iw:aO:=(.seq (.reg [qB 2 false] [0]) (.seq (.seq (.reg [zM 4 0,zA 5 (.lens (.t 4)),zA 6 (.bin .neq (.t 5) (kI 4))] [0,6]) (.cond (.t 6) (.seq (.reg [qB 2 false] [2]) .ret) .skip)) (.seq (.seq (.reg [qI 3 0] [0,3]) (.block 0 (.loop (.seq (.seq (.reg [zM 7 3,zM 8 0,zA 9 (.lens (.t 8)),zA 10 (.bin .lss (.t 7) (.t 9))] [0,3,10]) (.cond (.t 10) .skip (.exit 0))) (.seq (.block 1 (.seq (.reg [zM 13 0,zM 14 3,zA 15 (.idxs (.t 13) (.t 14)),⟨none,some 16,.call 205 [.k (.c (.str [48,49,50,51,52,53,54,55,56,57,97,98,99,100,101,102])),.t 15]⟩,zA 17 (.bin .lss (.t 16) (kI 0))] [0,3,17]) (.cond (.t 17) (.seq (.reg [qB 2 false] [2]) .ret) .skip))) (.reg [zM 11 3,zA 12 (.bin .add (.t 11) (kI 1)),zM 3 12] [0,3])))))) (.seq (.reg [qB 2 true] [2]) .ret))))
theorem K.iw:dO pZ 169 1 0 C.iw [.tmp 2]=true:=by kernel_rfl
def C.dK:aO:=(.seq (.reg [qB 2 false] [0]) (.seq (.seq (.reg [zM 5 0,qL 6 5,zA 7 (.bin .gtr (.t 6) (kI 4))] [0,7]) (.cond (.t 7) (.seq (.reg [qB 2 false] [2]) .ret) .skip)) (.seq (.seq (.reg [zM 8 0,qL 9 8,qI 10 0] [8,9,10]) (.block 0 (.loop (.seq (.reg [zA 11 (.bin .lss (.t 10) (.t 9))] [8,9,10,11]) (.seq (.cond (.t 11) .skip (.exit 0)) (.seq (.block 1 (.seq (.reg [qD 12 1 8 10,qF 13 1 12,zM 4 13] [4,8,9,10]) (.seq (.reg [zM 14 4,zA 15 (.bin .neq (.t 14) (.k (.c (.str [42])))),zM 16 15,zG 16 true 17 (.mv (.t 4)),⟨(some (16,true)),some 18,.call 169 [.t 17]⟩,zG 16 true 19 (.not (.t 18)),qP 20 16 19] [8,9,10,20]) (.cond (.t 20) (.seq (.reg [qB 2 false] [2]) .ret) .skip)))) (.reg [zA 21 (.bin .add (.t 10) (kI 1)),zM 10 21] [8,9,10]))))))) (.seq (.reg [qB 2 true] [2]) .ret))))
theorem K.dK:dO pZ 164 1 0 C.dK [.tmp 2]=true:=by kernel_rfl
def C.slices_Index_string:aO:=(.seq (.reg [qI 4 0] [0,1]) (.seq (.seq (.reg [zM 6 0,qL 7 6,qI 8 0] [0,1,7,8]) (.block 0 (.loop (.seq (.reg [zA 9 (.bin .lss (.t 8) (.t 7))] [0,1,7,8,9]) (.seq (.cond (.t 9) .skip (.exit 0)) (.seq (.block 1 (.seq (.reg [zM 10 8,zM 5 10] [0,1,5,7,8]) (.seq (.reg [zM 11 1,zM 12 0,zM 13 5,qD 14 1 12 13,qF 15 1 14,zA 16 (.bin .eql (.t 11) (.t 15))] [0,1,5,7,8,16]) (.cond (.t 16) (.seq (.reg [zM 17 5,zM 4 17] [4]) .ret) .skip)))) (.reg [zA 18 (.bin .add (.t 8) (kI 1)),zM 8 18] [0,1,7,8]))))))) (.seq (.reg [qI 4 (-1)] [4]) .ret)))
theorem K.slices_Index_string:dO pZ 227 2 0 C.slices_Index_string [.tmp 4]=true:=by kernel_rfl
def C.slices_Contains_string:aO:=(.seq (.reg [qB 4 false] [0,1]) (.seq (.reg [zM 5 0,zM 6 1,q2 7 227 5 6,zA 8 (.bin .geq (.t 7) (kI 0)),zM 4 8] [4]) .ret))
theorem K.slices_Contains_string:dO pZ 206 2 0 C.slices_Contains_string [.tmp 4]=true:=by kernel_rfl
def C.jf:aO:=(.seq (.reg [qB 4 false] [0,1]) (.seq (.reg [zM 5 0,zM 6 1,q2 7 206 5 6,zM 8 7,zG 8 false 9 (.mv (.t 0)),⟨(some (8,false)),some 10,.call 206 [.t 9,.k (.c (.str [42]))]⟩,qQ 11 8 10,zM 4 11] [4]) .ret))
theorem K.jf:dO pZ 170 2 0 C.jf [.tmp 4]=true:=by kernel_rfl
def C.eX:aO:=(.seq (.reg [qI 8 0] [0,1,2,3]) (.cut (.seq (.reg [zM 9 0,q1 10 164 9,qO 11 10,zM 12 11,zG 12 false 13 (.mv (.t 1)),⟨(some (12,false)),some 14,.call 164 [.t 13]⟩,zG 12 false 15 (.not (.t 14)),qQ 16 12 15,zM 17 16,zG 17 false 18 (.mv (.t 2)),zG 17 false 19 (.bin .neq (.t 18) (.k (.c (.str [])))),zG 17 false 20 (.mv (.t 19)),zG 20 true 21 (.mv (.t 2)),⟨(some (20,true)),some 22,.call 169 [.t 21]⟩,zG 20 true 23 (.not (.t 22)),zG 17 false 24 (.pick (.t 20) (.t 23) (kB false)),qQ 25 17 24] [0,1,2,3,25]) (.cond (.t 25) (.seq (.reg [qI 8 400] [8]) .ret) .skip)) (.seq (.seq (.reg [zM 26 0,qL 27 26,zA 28 (.bin .gtr (.t 27) (kI 0)),zM 29 28,zG 29 true 30 (.mv (.t 2)),zG 29 true 31 (.bin .eql (.t 30) (.k (.c (.str [])))),zG 29 true 32 (.mv (.t 31)),zG 32 false 33 (.mv (.t 0)),zG 32 false 34 (.mv (.t 2)),⟨(some (32,false)),some 35,.call 170 [.t 33,.t 34]⟩,zG 32 false 36 (.not (.t 35)),zG 29 true 37 (.pick (.t 32) (kB true) (.t 36)),qP 38 29 37] [1,2,3,38]) (.cond (.t 38) (.seq (.reg [qI 8 412] [8]) .ret) .skip)) (.seq (.seq (.reg [zM 39 1,qL 40 39,zA 41 (.bin .gtr (.t 40) (kI 0)),zM 42 41,zG 42 true 43 (.mv (.t 2)),zG 42 true 44 (.bin .neq (.t 43) (.k (.c (.str [])))),qP 45 42 44,zM 46 45,zG 46 true 47 (.mv (.t 1)),zG 46 true 48 (.mv (.t 2)),⟨(some (46,true)),some 49,.call 170 [.t 47,.t 48]⟩,qP 50 46 49] [3,50]) (.cond (.t 50) (.seq (.seq (.reg [zM 51 3] [51]) (.cond (.t 51) (.seq (.reg [qI 8 304] [8]) .ret) .skip)) (.seq (.reg [qI 8 412] [8]) .ret)) .skip)) (.seq (.reg [qI 8 200] [8]) .ret)))))
theorem K.eX:dO pZ 121 4 0 C.eX [.tmp 8]=true:=by kernel_rfl
def C.dP:aO:=(.seq (.reg [qB 2 false] [0]) (.seq (.seq (.reg [zM 4 0,zA 5 (.bin .eql (.t 4) (.k (.c (.str [])))),zM 6 5,zG 6 false 7 (.mv (.t 0)),zG 6 false 8 (.lens (.t 7)),zG 6 false 9 (.bin .gtr (.t 8) (kI 8)),qQ 10 6 9] [0,10]) (.cond (.t 10) (.seq (.reg [qB 2 false] [2]) .ret) .skip)) (.seq (.seq (.reg [qI 3 0] [0,3]) (.block 0 (.loop (.seq (.seq (.reg [zM 11 3,zM 12 0,zA 13 (.lens (.t 12)),zA 14 (.bin .lss (.t 11) (.t 13))] [0,3,14]) (.cond (.t 14) .skip (.exit 0))) (.seq (.block 1 (.seq (.reg [zM 17 0,zM 18 3,zA 19 (.idxs (.t 17) (.t 18)),zA 20 (.bin .lss (.t 19) (.k (.c (.lit (.int .u8 97))))),zM 21 20,zG 21 false 22 (.mv (.t 0)),zG 21 false 23 (.mv (.t 3)),zG 21 false 24 (.idxs (.t 22) (.t 23)),zG 21 false 25 (.bin .gtr (.t 24) (.k (.c (.lit (.int .u8 122))))),qQ 26 21 25,zM 27 26,zG 27 true 28 (.mv (.t 0)),zG 27 true 29 (.mv (.t 3)),zG 27 true 30 (.idxs (.t 28) (.t 29)),zG 27 true 31 (.bin .lss (.t 30) (.k (.c (.lit (.int .u8 48))))),zG 27 true 32 (.mv (.t 31)),zG 32 false 33 (.mv (.t 0)),zG 32 false 34 (.mv (.t 3)),zG 32 false 35 (.idxs (.t 33) (.t 34)),zG 32 false 36 (.bin .gtr (.t 35) (.k (.c (.lit (.int .u8 57))))),zG 27 true 37 (.pick (.t 32) (kB true) (.t 36)),qP 38 27 37] [0,3,38]) (.cond (.t 38) (.seq (.reg [qB 2 false] [2]) .ret) .skip))) (.reg [zM 15 3,zA 16 (.bin .add (.t 15) (kI 1)),zM 3 16] [0,3])))))) (.seq (.reg [qB 2 true] [2]) .ret))))
theorem K.dP:dO pZ 144 1 0 C.dP [.tmp 2]=true:=by kernel_rfl
def C.aK:aO:=(.seq (.reg [qX 1 10 0,qB 2 false] [1]) (.seq (.seq (.reg [qA 5 0 1,qF 6 1 5,qL 7 6,zA 8 (.bin .gtr (.t 7) (kI 10)),zM 9 8,zG 9 false 10 (.gX 1 (.t 1)),zG 9 false 11 (.load false 1 (.t 10)),zG 9 false 12 (.bin .lss (.t 11) (kI 0)),qQ 13 9 12,zM 14 13,zG 14 false 15 (.gX 1 (.t 1)),zG 14 false 16 (.load false 1 (.t 15)),zG 14 false 17 (.bin .gtr (.t 16) (kI 999)),qQ 18 14 17] [1,18]) (.cond (.t 18) (.seq (.reg [qB 2 false] [2]) .ret) .skip)) (.seq (.seq (.reg [qA 19 0 1,qF 20 1 19,qL 21 20,qI 22 0] [1,20,21,22]) (.block 0 (.loop (.seq (.reg [zA 23 (.bin .lss (.t 22) (.t 21))] [1,20,21,22,23]) (.seq (.cond (.t 23) .skip (.exit 0)) (.seq (.block 1 (.seq (.reg [zM 24 22,qD 25 7 20 22,qT 26 7 25,zA 4 (.alloc 11 [.c (.str []),jH 0,jH 0,jH 0,.c (.str []),.iL 1,.iL 5]),zM 3 24,qS 7 4 26] [1,3,4,20,21,22]) (.seq (.seq (.kz [(qA 27 0 4,[]),(qF 28 1 27,[0]),(q1 29 144 28,[0,1]),(qO 30 29,[0,1,2]),(zM 31 30,[0,1,2,3]),(zG 31 false 32 (.mv (.t 3)),[0,1,2,3,4]),(zG 31 false 33 (.bin .gtr (.t 32) (kI 0)),[0,1,2,3,4,5]),(zG 31 false 34 (.mv (.t 33)),[0,1,2,3,4,5,6]),(zG 34 true 35 (.gX 0 (.t 1)),[0,1,2,3,4,5,6,7]),(zG 34 true 36 (.load false 1 (.t 35)),[0,1,2,3,4,5,6,7,8]),(zG 34 true 37 (.mv (.t 3)),[0,1,2,3,4,5,6,7]),(zG 34 true 38 (.bin .sub (.t 37) (kI 1)),[0,1,2,3,4,5,6,7,10]),(zG 34 true 39 (.o6 7 (.t 36) (.t 38)),[0,1,2,3,4,5,6,7,8,9,10,11]),(zG 34 true 40 (.gX 0 (.t 39)),[0,1,2,3,4,5,6,7,8,9,10,11,12]),(zG 34 true 41 (.load false 1 (.t 40)),[0,1,2,3,4,5,6,7,8,9,10,11,12,13]),(zG 34 true 42 (.gX 0 (.t 4)),[0,1,2,3,4,5,6,7]),(zG 34 true 43 (.load false 1 (.t 42)),[0,1,2,3,4,5,6,7,15]),(zG 34 true 44 (.bin .geq (.t 41) (.t 43)),[0,1,2,3,4,5,6,7,8,9,10,11,12,13,14,15,16]),(zG 31 false 45 (.pick (.t 34) (.t 44) (kB false)),[0,1,2,3,4,5,6,7,8,9,10,11,12,13,14,15,16,17]),(qQ 46 31 45,[0,1,2,3,4,5,6,7,8,9,10,11,12,13,14,15,16,17,18])] [1,4,20,21,22,46]) (.cond (.t 46) (.seq (.reg [qB 2 false] [2]) .ret) .skip)) (.seq (.reg [qA 47 1 4,qF 48 1 47,zA 49 (.bin .lss (.t 48) (kI 1)),zM 50 49,zG 50 false 51 (.gX 1 (.t 4)),zG 50 false 52 (.load false 1 (.t 51)),zG 50 false 53 (.gX 1 (.t 1)),zG 50 false 54 (.load false 1 (.t 53)),zG 50 false 55 (.bin .gtr (.t 52) (.t 54)),qQ 56 50 55,zM 57 56,zG 57 false 58 (.gX 2 (.t 4)),zG 57 false 59 (.load true 5 (.t 58)),⟨(some (57,false)),some 60,.call 57 [.t 59]⟩,zG 57 false 61 (.not (.t 60)),qQ 62 57 61] [1,20,21,22,62]) (.cond (.t 62) (.seq (.reg [qB 2 false] [2]) .ret) .skip))))) (.reg [zA 63 (.bin .add (.t 22) (kI 1)),zM 22 63] [1,20,21,22]))))))) (.seq (.reg [qB 2 true] [2]) .ret))))
theorem K.aK:dO pZ 89 1 0 C.aK [.tmp 2]=true:=by kernel_rfl
def C.jI:aO:=(.seq (.reg [qX 1 10 0,zA 2 (.alloc 11 [.c (.str []),jH 0,jH 0,jH 0,.c (.str []),.iL 1,.iL 5])] [1,2]) (.seq (.kz [(qA 3 0 1,[]),(qF 4 1 3,[0]),(qA 5 1 1,[]),(qF 6 1 5,[2]),(qA 7 2 1,[]),(qT 8 5 7,[4]),(q1 9 83 8,[4,5]),(zA 10 (.build [.c (.str []),jH 0,jH 0,jH 0,.c (.str []),.iL 1,.iL 5] [(0,1,.t 4),(1,1,.t 6),(2,5,.t 9)]),[0,1,2,3,4,5,6]),(qS 7 2 10,[0,1,2,3,4,5,6,7])] [2]) .ret))
theorem K.jI:dO pZ 166 1 0 C.jI [.cell 2 true 7]=true:=by kernel_rfl
def C.aY:aO:=(.seq (.reg [qX 1 10 0,zA 2 (.alloc 11 [.iL 7,jH 0])] [1,2]) (.seq (.reg [qA 6 1 1,qF 7 1 6,zA 8 (.build [.iL 7,jH 0] [(1,1,.t 7)]),zA 3 (.alloc 12 [.iL 7,jH 0]),qS 2 3 8] [1,2,3]) (.seq (.seq (.reg [qA 9 0 1,qF 10 1 9,qL 11 10,zA 12 (.bin .gtr (.t 11) (kI 0))] [1,2,3,12]) (.cond (.t 12) (.seq (.reg [qA 13 0 1,qF 14 1 13,qL 15 14,zA 16 (.makes 13 7 104 [.str [],.lit (.int .i64 0),.lit (.int .i64 0),.lit (.int .i64 0),.str [],.sl 1 [],.sl 5 []] (.t 15) (.t 15)),qA 17 0 3,qU 1 17 16] [1,2,3]) (.seq (.reg [qA 18 0 1,qF 19 1 18,qL 20 19,qI 21 0] [2,3,19,20,21]) (.block 0 (.loop (.seq (.reg [zA 22 (.bin .lss (.t 21) (.t 20))] [2,3,19,20,21,22]) (.seq (.cond (.t 22) .skip (.exit 0)) (.seq (.block 1 (.seq (.reg [zM 23 21,qD 24 7 19 21,qT 25 7 24,zA 5 (.alloc 14 [.c (.str []),jH 0,jH 0,jH 0,.c (.str []),.iL 1,.iL 5]),zM 4 23,qS 7 5 25] [2,3,4,5,19,20,21]) (.kz [(qA 26 0 3,[]),(qF 27 1 26,[0]),(zM 28 4,[]),(qT 29 7 5,[]),(q1 30 166 29,[3]),(qD 31 7 27 28,[0,1,2,3,4]),(qS 7 31 30,[0,1,2,3,4,5])] [2,3,19,20,21]))) (.reg [zA 32 (.bin .add (.t 21) (kI 1)),zM 21 32] [2,3,19,20,21])))))))) .skip)) (.seq (.reg [qT 33 2 3,qS 2 2 33] [2]) .ret))))
theorem K.aY:dO pZ 119 1 0 C.aY [.cell 2 true 2]=true:=by kernel_rfl
def C.jL:aO:=(.seq (.reg [qX 2 10 0,qI 4 0] [1,2]) (.seq (.reg [qA 5 0 2,qF 6 1 5,zM 7 1,q2 8 96 6 7,zM 4 8] [4]) .ret))
theorem K.jL:dO pZ 202 2 0 C.jL [.tmp 4]=true:=by kernel_rfl
def C.mJ:aO:=(.seq (.reg [qI 6 0,qB 7 false] [0,1,2]) (.seq (.reg [zM 12 0,qL 13 12,zM 8 13] [0,1,2,8]) (.seq (.reg [zM 14 8,qI 9 0,zM 10 14] [0,1,2,8,9,10]) (.seq (.block 0 (.loop (.seq (.seq (.reg [zM 15 9,zM 16 10,zA 17 (.bin .lss (.t 15) (.t 16))] [0,1,2,8,9,10,17]) (.cond (.t 17) .skip (.exit 0))) (.block 1 (.seq (.reg [zM 18 9,zM 19 10,zA 20 (.bin .add (.t 18) (.t 19)),zA 21 (.xq .u64 (.t 20)),zA 22 (.VR false (.t 21) (.k (.c (.lit (.int .u64 1))))),zA 23 (.xq .i64 (.t 22)),zM 11 23] [0,1,2,8,9,10,11]) (.seq (.reg [zM 24 2,zM 25 0,zM 26 11,qD 27 7 25 26,qT 28 7 27,zM 29 1,⟨none,some 30,.ve (.t 24) [.t 28,.t 29]⟩,zA 31 (.bin .lss (.t 30) (kI 0))] [0,1,2,8,9,10,11,31]) (.cond (.t 31) (.reg [zM 32 11,zA 33 (.bin .add (.t 32) (kI 1)),zM 9 33] [0,1,2,8,9,10]) (.reg [zM 34 11,zM 10 34] [0,1,2,8,9,10])))))))) (.seq (.reg [zM 35 9,zM 36 9,zM 37 8,zA 38 (.bin .lss (.t 36) (.t 37)),zM 39 38,zG 39 true 40 (.mv (.t 2)),zG 39 true 41 (.mv (.t 0)),zG 39 true 42 (.mv (.t 9)),zG 39 true 43 (.o6 7 (.t 41) (.t 42)),zG 39 true 44 (.load true 7 (.t 43)),zG 39 true 45 (.mv (.t 1)),⟨(some (39,true)),some 46,.ve (.t 40) [.t 44,.t 45]⟩,zG 39 true 47 (.bin .eql (.t 46) (kI 0)),qP 48 39 47,zM 6 35,zM 7 48] [6,7]) .ret)))))
theorem K.aj:dO pZ 201 3 0 C.mJ [.tmp 6,.tmp 7]=true:=by kernel_rfl
def C.gQ:aO:=(.seq (.reg [qI 4 0,qB 5 false] [0,1]) (.seq (.reg [zM 6 0,zM 7 1,⟨none,some 8,.call 201 [.t 6,.t 7,.k (.fn 202 [])]⟩,qE 9 8 0,qE 10 8 1,zM 4 9,zM 5 10] [4,5]) .ret))
theorem K.gQ:dO pZ 165 2 0 C.gQ [.tmp 4,.tmp 5]=true:=by kernel_rfl
def C.eu:aO:=(.seq (.reg [zA 6 (.mv (.k (.iL 7)))] [0,1,2]) (.seq (.reg [zM 8 0,zM 9 1,zM 10 2,zM 11 0,qL 12 11,zA 13 (.sl3 7 (.t 8) (.t 9) (.t 10) (.t 12))] [0,1,2]) (.seq (.seq (.reg [zM 14 1,zM 15 2,zA 16 (.bin .eql (.t 14) (.t 15))] [0,1,2,16]) (.cond (.t 16) (.seq (.reg [zM 17 0,zM 6 17] [6]) .ret) .skip)) (.seq (.reg [zM 18 0,qL 19 18,zM 7 19] [0,1,2,7]) (.seq (.kz [(zM 20 0,[]),(zM 21 1,[]),(zA 22 (.iK 7 (.t 20) none (some (.t 21))),[0,1]),(zM 23 0,[]),(zM 24 2,[]),(zA 25 (.iK 7 (.t 23) (some (.t 24)) none),[3,4]),(zA 26 (.Du 10 7 104 (.t 22) (.t 25)),[0,1,2,3,4,5]),(zM 0 26,[0,1,2,3,4,5,6])] [0,7]) (.seq (.reg [zM 27 0,zM 28 0,qL 29 28,zM 30 7,zA 31 (.iK 7 (.t 27) (some (.t 29)) (some (.t 30))),zS (.IK 7 [.str [],.lit (.int .i64 0),.lit (.int .i64 0),.lit (.int .i64 0),.str [],.sl 1 [],.sl 5 []] (.t 31))] [0]) (.seq (.reg [zM 32 0,zM 6 32] [6]) .ret)))))))
theorem K.eu:dO pZ 207 3 1 C.eu [.tmp 6]=true:=by kernel_rfl
def C.kC:aO:=(.seq (.reg [qX 2 10 0,zA 4 (.alloc 11 [.iL 7,jH 0]),qB 5 false] [1,2,4]) (.seq (.seq (.reg [qT 9 2 2,q1 10 89 9,qO 11 10,zM 12 11,zG 12 false 13 (.gX 1 (.t 2)),zG 12 false 14 (.load false 1 (.t 13)),zG 12 false 15 (.bin .eql (.t 14) (kI 999)),qQ 16 12 15] [1,2,4,16]) (.cond (.t 16) (.seq (.reg [zA 17 (.build [.iL 7,jH 0] []),qS 2 4 17,qB 5 false] [4,5]) .ret) .skip)) (.seq (.reg [qA 19 0 2,qF 20 1 19,zM 21 1,q2 22 165 20 21,zM 18 22,qE 23 18 0,qE 24 18 1,zM 6 23,zM 7 24] [2,4,6,7]) (.seq (.seq (.reg [zM 25 7,qO 26 25] [2,4,6,26]) (.cond (.t 26) (.seq (.reg [zA 27 (.build [.iL 7,jH 0] []),qS 2 4 27,qB 5 false] [4,5]) .ret) .skip)) (.seq (.reg [qT 28 2 2,q1 29 119 28,zA 8 (.alloc 12 [.iL 7,jH 0]),qS 2 8 29] [4,6,8]) (.seq (.reg [qA 30 1 8,qF 31 1 30,zA 32 (.bin .add (.t 31) (kI 1)),qA 33 1 8,qU 1 33 32] [4,6,8]) (.seq (.reg [qA 34 0 8,qF 35 1 34,zM 36 6,zM 37 6,zA 38 (.bin .add (.t 37) (kI 1)),q3 39 207 35 36 38,qA 40 0 8,qU 1 40 39] [4,8]) (.seq (.reg [qT 41 2 8,qS 2 4 41,qB 5 true] [4,5]) .ret))))))))
theorem K.kC:dO pZ 171 2 0 C.kC [.cell 4 true 2,.tmp 5]=true:=by kernel_rfl
def C.bP:aO:=(.seq (.reg [zM 5 0,⟨none,some 6,.call 225 [.t 5,.k (.c (.lit (.int .u8 34)))]⟩] [0,1]) (.seq (.seq (.reg [qI 4 0] [0,1,4]) (.block 0 (.loop (.seq (.seq (.reg [zM 7 4,zM 8 1,zA 9 (.lens (.t 8)),zA 10 (.bin .lss (.t 7) (.t 9))] [0,1,4,10]) (.cond (.t 10) .skip (.exit 0))) (.seq (.block 1 (.cut (.seq (.reg [zM 13 1,zM 14 4,zA 15 (.idxs (.t 13) (.t 14)),zA 16 (.bin .eql (.t 15) (.k (.c (.lit (.int .u8 34))))),zM 17 16,zG 17 false 18 (.mv (.t 1)),zG 17 false 19 (.mv (.t 4)),zG 17 false 20 (.idxs (.t 18) (.t 19)),zG 17 false 21 (.bin .eql (.t 20) (.k (.c (.lit (.int .u8 92))))),qQ 22 17 21] [0,1,4,22]) (.cond (.t 22) (.reg [zM 23 0,⟨none,some 24,.call 225 [.t 23,.k (.c (.lit (.int .u8 92)))]⟩] [0,1,4]) .skip)) (.reg [zM 25 0,zM 26 1,zM 27 4,zA 28 (.idxs (.t 26) (.t 27)),q2 29 225 25 28] [0,1,4]))) (.reg [zM 11 4,zA 12 (.bin .add (.t 11) (kI 1)),zM 4 12] [0,1,4])))))) (.reg [zM 30 0,⟨none,some 31,.call 225 [.t 30,.k (.c (.lit (.int .u8 34)))]⟩] [])))
theorem K.bP:dO pZ 224 2 2 C.bP []=true:=by kernel_rfl
def C.aI:aO:=(.seq (.reg [qX 3 10 1] [0,3]) (.seq (.reg [qA 8 0 3,qF 9 1 8] [0,3,9]) (.block 0 (.seq (.reg [zA 11 (.bin .eql (.t 9) (kI 0)),zM 10 11] [0,3,9,10]) (.cond (.t 10) (.reg [zM 12 0,⟨none,some 13,.call 223 [.t 12,.k (.c (.str [110,117,108,108]))]⟩] []) (.seq (.reg [zA 15 (.bin .eql (.t 9) (kI 1)),zM 14 15] [0,3,9,14]) (.cond (.t 14) (.reg [zM 16 0,qA 17 1 3,qF 18 1 17,q1 19 175 18,q2 20 223 16 19] []) (.seq (.reg [zA 22 (.bin .eql (.t 9) (kI 2)),zM 21 22] [0,3,9,21]) (.cond (.t 21) (.reg [zM 23 0,qA 24 2 3,qF 25 1 24,q2 26 224 23 25] []) (.seq (.reg [zA 28 (.bin .eql (.t 9) (kI 3)),zM 27 28] [0,3,9,27]) (.cond (.t 27) (.seq (.reg [zM 29 0,⟨none,some 30,.call 225 [.t 29,.k (.c (.lit (.int .u8 91)))]⟩] [0,3]) (.seq (.seq (.reg [qA 31 4 3,qF 32 1 31,qL 33 32,qI 34 0] [0,32,33,34]) (.block 1 (.loop (.seq (.reg [zA 35 (.bin .lss (.t 34) (.t 33))] [0,32,33,34,35]) (.seq (.cond (.t 35) .skip (.exit 1)) (.seq (.block 2 (.seq (.reg [zM 36 34,qD 37 5 32 34,qT 38 5 37,qZ 5 11,zM 4 36,qS 5 5 38] [0,4,5,32,33,34]) (.cut (.seq (.reg [zM 39 4,zA 40 (.bin .gtr (.t 39) (kI 0))] [0,5,32,33,34,40]) (.cond (.t 40) (.reg [zM 41 0,⟨none,some 42,.call 225 [.t 41,.k (.c (.lit (.int .u8 44)))]⟩] [0,5,32,33,34]) .skip)) (.reg [zM 43 0,qT 44 5 5,q2 45 203 43 44] [0,32,33,34])))) (.reg [zA 46 (.bin .add (.t 34) (kI 1)),zM 34 46] [0,32,33,34]))))))) (.reg [zM 47 0,⟨none,some 48,.call 225 [.t 47,.k (.c (.lit (.int .u8 93)))]⟩] []))) (.seq (.reg [zA 50 (.bin .eql (.t 9) (kI 4)),zM 49 50] [0,3,49]) (.cond (.t 49) (.seq (.reg [zM 51 0,⟨none,some 52,.call 225 [.t 51,.k (.c (.lit (.int .u8 123)))]⟩] [0,3]) (.seq (.seq (.reg [qA 53 4 3,qF 54 1 53,qL 55 54,qI 56 0] [0,3,54,55,56]) (.block 3 (.loop (.seq (.reg [zA 57 (.bin .lss (.t 56) (.t 55))] [0,3,54,55,56,57]) (.seq (.cond (.t 57) .skip (.exit 3)) (.seq (.block 4 (.seq (.reg [zM 58 56,qD 59 5 54 56,qT 60 5 59,qZ 7 12,zM 6 58,qS 5 7 60] [0,3,6,7,54,55,56]) (.cut (.seq (.reg [zM 61 6,zA 62 (.bin .gtr (.t 61) (kI 0))] [0,3,6,7,54,55,56,62]) (.cond (.t 62) (.reg [zM 63 0,⟨none,some 64,.call 225 [.t 63,.k (.c (.lit (.int .u8 44)))]⟩] [0,3,6,7,54,55,56]) .skip)) (.seq (.reg [zM 65 0,qA 66 3 3,qF 67 1 66,zM 68 6,qD 69 1 67 68,qF 70 1 69,q2 71 224 65 70] [0,3,7,54,55,56]) (.seq (.reg [zM 72 0,⟨none,some 73,.call 225 [.t 72,.k (.c (.lit (.int .u8 58)))]⟩] [0,3,7,54,55,56]) (.reg [zM 74 0,qT 75 5 7,q2 76 203 74 75] [0,3,54,55,56])))))) (.reg [zA 77 (.bin .add (.t 56) (kI 1)),zM 56 77] [0,3,54,55,56]))))))) (.reg [zM 78 0,⟨none,some 79,.call 225 [.t 78,.k (.c (.lit (.int .u8 125)))]⟩] []))) .skip)))))))))))))
theorem K.aI:dO pZ 203 2 2 C.aI []=true:=by kernel_rfl
def C.jl:aO:=(.seq (.reg [qX 1 10 0,zA 2 (.mv (.k (.c (.str []))))] [1]) (.seq (.seq (.reg [qT 4 5 1,q1 5 57 4,qO 6 5] [1,6]) (.cond (.t 6) (.seq (.reg [zA 2 (.mv (.k (.c (.str []))))] [2]) .ret) .skip)) (.seq (.reg [zA 3 (.yM 199 5 12 11)] [1,3]) (.seq (.reg [qT 7 5 1,q2 8 203 3 7] [3]) (.seq (.reg [q1 9 204 3,zM 2 9] [2]) .ret)))))
theorem K.jl:dO pZ 168 1 0 C.jl [.tmp 2]=true:=by kernel_rfl
def C.lq:aO:=(.seq (.reg [qX 2 10 0,zA 4 (.alloc 11 [.c (.str []),jH 0,jH 0,jH 0,.c (.str []),.iL 1,.iL 5]),qB 5 false] [1,2,4]) (.seq (.seq (.reg [qT 8 2 2,q1 9 89 8,qO 10 9] [1,2,4,10]) (.cond (.t 10) (.seq (.reg [zA 11 (.build [.c (.str []),jH 0,jH 0,jH 0,.c (.str []),.iL 1,.iL 5] []),qS 7 4 11,qB 5 false] [4,5]) .ret) .skip)) (.seq (.reg [qA 13 0 2,qF 14 1 13,zM 15 1,q2 16 165 14 15,zM 12 16,qE 17 12 0,qE 18 12 1,zM 6 17,zM 7 18] [2,4,6,7]) (.seq (.seq (.reg [zM 19 7,qO 20 19] [2,4,6,20]) (.cond (.t 20) (.seq (.reg [zA 21 (.build [.c (.str []),jH 0,jH 0,jH 0,.c (.str []),.iL 1,.iL 5] []),qS 7 4 21,qB 5 false] [4,5]) .ret) .skip)) (.seq (.reg [qA 22 0 2,qF 23 1 22,zM 24 6,qD 25 7 23 24,qT 26 7 25,q1 27 166 26,qS 7 4 27,qB 5 true] [4,5]) .ret)))))
theorem K.lq:dO pZ 118 2 0 C.lq [.cell 4 true 7,.tmp 5]=true:=by kernel_rfl
def C.di:aO:=(.seq (.reg [zA 2 (.mv (.k (.c (.str []))))] [0]) (.seq (.reg [qI 3 17] [0,3]) (.seq (.seq (.reg [qI 4 0] [0,3,4]) (.block 0 (.loop (.seq (.seq (.reg [zM 7 4,zM 8 0,zA 9 (.lens (.t 8)),zA 10 (.bin .lss (.t 7) (.t 9))] [0,3,4,10]) (.cond (.t 10) .skip (.exit 0))) (.seq (.block 1 (.reg [zM 13 3,zA 14 (.bin .mul (kI 131) (.t 13)),zM 15 0,zM 16 4,zA 17 (.idxs (.t 15) (.t 16)),zA 18 (.xq .i64 (.t 17)),zA 19 (.bin .add (.t 14) (.t 18)),zA 20 (.bin .rem (.t 19) (kI 65521)),zM 3 20] [0,3,4])) (.reg [zM 11 4,zA 12 (.bin .add (.t 11) (kI 1)),zM 4 12] [0,3,4])))))) (.seq (.reg [zA 5 (.yL 10 1 4 [.lit (.int .u8 0)])] [3,5]) (.seq (.seq (.reg [qI 6 3] [3,5,6]) (.block 2 (.loop (.seq (.seq (.reg [zM 21 6,zA 22 (.bin .geq (.t 21) (kI 0))] [3,5,6,22]) (.cond (.t 22) .skip (.exit 2))) (.seq (.block 3 (.seq (.reg [zM 25 6,zM 26 3,zA 27 (.bin .rem (.t 26) (kI 16)),zA 28 (.idxs (.k (.c (.str [48,49,50,51,52,53,54,55,56,57,97,98,99,100,101,102]))) (.t 27)),zA 29 (.EH 1 4 (.t 5) (.t 25)),qU 1 29 28] [3,5,6]) (.reg [zM 30 3,zA 31 (.bin .quo (.t 30) (kI 16)),zM 3 31] [3,5,6]))) (.reg [zM 23 6,zA 24 (.bin .sub (.t 23) (kI 1)),zM 6 24] [3,5,6])))))) (.seq (.reg [zA 32 (.EU 1 4 (.t 5)),zA 33 (.FM (.t 32)),zM 2 33] [2]) .ret))))))
theorem K.di:dO pZ 167 1 0 C.di [.tmp 2]=true:=by kernel_rfl
def C.lG:aO:=(.seq (.reg [qX 1 10 0,zA 2 (.mv (.k (.c (.str []))))] [1]) (.seq (.seq (.reg [qT 3 5 1,q1 4 57 3,qO 5 4] [1,5]) (.cond (.t 5) (.seq (.reg [zA 2 (.mv (.k (.c (.str []))))] [2]) .ret) .skip)) (.seq (.reg [qT 6 5 1,q1 7 168 6,q1 8 167 7,zM 2 8] [2]) .ret)))
theorem K.lG:dO pZ 120 1 0 C.lG [.tmp 2]=true:=by kernel_rfl
def C.jo:aO:=(.seq (.reg [qX 2 10 0,qX 3 11 1,zA 4 (.alloc 12 [.iL 7,jH 0]),zA 5 (.alloc 13 [jH 0,.c (.str []),jH 0,jH 0,jH 0,.c (.str []),.iL 1,.iL 5])] [2,3,4,5]) (.seq (.reg [qT 9 2 2,qA 10 1 3,qF 11 1 10,q2 12 171 9 11,zM 8 12,qE 13 8 0,qE 14 8 1,zA 6 (.alloc 14 [.iL 7,jH 0]),qS 2 6 13,zM 7 14] [2,4,5,6,7]) (.seq (.seq (.reg [zM 15 7,qO 16 15] [2,4,5,6,16]) (.cond (.t 16) (.seq (.reg [qT 17 2 2,q1 18 119 17,zA 19 (.build [jH 0,.c (.str []),jH 0,jH 0,jH 0,.c (.str []),.iL 1,.iL 5] [(0,1,kI 422)]),qS 2 4 18,qS 8 5 19] [4,5]) .ret) .skip)) (.seq (.kz [(qT 20 2 6,[]),(qA 21 1 6,[]),(qF 22 1 21,[1]),(zA 23 (.build [jH 0,.c (.str []),jH 0,jH 0,jH 0,.c (.str []),.iL 1,.iL 5] [(0,1,kI 200),(2,1,.t 22)]),[1,2]),(qS 2 4 20,[0]),(qS 8 5 23,[0,1,2,3,4])] [4,5]) .ret))))
theorem K.jo:dO pZ 122 2 0 C.jo [.cell 4 true 2,.cell 5 true 8]=true:=by kernel_rfl
def C.eF:aO:=(.seq (.reg [zA 6 (.mv (.k (.iL 7)))] [0,1,2]) (.seq (.reg [zM 10 0,zM 11 1,zA 12 (.iK 7 (.t 10) (some (.t 11)) none)] [0,1,2]) (.seq (.reg [zM 13 2,qL 14 13,zM 7 14] [0,1,2,7]) (.seq (.seq (.reg [zM 15 7,zA 16 (.bin .eql (.t 15) (kI 0))] [0,1,2,7,16]) (.cond (.t 16) (.seq (.reg [zM 17 0,zM 6 17] [6]) .ret) .skip)) (.seq (.reg [zM 18 0,qL 19 18,zM 8 19] [0,1,2,7,8]) (.seq (.seq (.reg [zM 20 1,zM 21 8,zA 22 (.bin .eql (.t 20) (.t 21))] [0,1,2,7,8,22]) (.cond (.t 22) (.seq (.reg [zM 23 0,zM 24 2,zA 25 (.Du 10 7 104 (.t 23) (.t 24)),zM 6 25] [6]) .ret) .skip)) (.seq (.seq (.reg [zM 26 8,zM 27 7,zA 28 (.bin .add (.t 26) (.t 27)),zM 29 0,zA 30 (.Ju (.t 29)),zA 31 (.bin .gtr (.t 28) (.t 30))] [0,1,2,7,8,31]) (.cond (.t 31) (.seq (.reg [zM 32 0,zM 33 1,zA 34 (.iK 7 (.t 32) none (some (.t 33))),zM 35 8,zM 36 7,zA 37 (.bin .add (.t 35) (.t 36)),zM 38 1,zA 39 (.bin .sub (.t 37) (.t 38)),zA 40 (.GM 11 7 104 [.str [],.lit (.int .i64 0),.lit (.int .i64 0),.lit (.int .i64 0),.str [],.sl 1 [],.sl 5 []] (.t 34) (.t 39)),zM 9 40] [0,1,2,7,9]) (.seq (.reg [zM 41 9,zM 42 1,zA 43 (.iK 7 (.t 41) (some (.t 42)) none),zM 44 2,zA 45 (.uO 7 (.t 43) (.t 44))] [0,1,7,9]) (.seq (.kz [(zM 46 9,[]),(zM 47 1,[]),(zM 48 7,[]),(zA 49 (.bin .add (.t 47) (.t 48)),[1,2]),(zA 50 (.iK 7 (.t 46) (some (.t 49)) none),[0,1,2,3]),(zM 51 0,[]),(zM 52 1,[]),(zA 53 (.iK 7 (.t 51) (some (.t 52)) none),[5,6]),(zA 54 (.uO 7 (.t 50) (.t 53)),[0,1,2,3,4,5,6,7])] [9]) (.seq (.reg [zM 55 9,zM 6 55] [6]) .ret)))) .skip)) (.seq (.reg [zM 56 0,zM 57 8,zM 58 7,zA 59 (.bin .add (.t 57) (.t 58)),zA 60 (.iK 7 (.t 56) none (some (.t 59))),zM 0 60] [0,1,2,7,8]) (.seq (.seq (.reg [zM 61 2,zM 62 0,zM 63 1,zM 64 7,zA 65 (.bin .add (.t 63) (.t 64)),zA 66 (.iK 7 (.t 62) (some (.t 65)) none),zA 67 (.Tj (.t 61) (.t 66)),qO 68 67] [0,1,2,7,8,68]) (.cond (.t 68) (.seq (.kz [(zM 69 0,[]),(zM 70 1,[]),(zM 71 7,[]),(zA 72 (.bin .add (.t 70) (.t 71)),[1,2]),(zA 73 (.iK 7 (.t 69) (some (.t 72)) none),[0,1,2,3]),(zM 74 0,[]),(zM 75 1,[]),(zA 76 (.iK 7 (.t 74) (some (.t 75)) none),[5,6]),(zA 77 (.uO 7 (.t 73) (.t 76)),[0,1,2,3,4,5,6,7])] [0,1,2]) (.seq (.reg [zM 78 0,zM 79 1,zA 80 (.iK 7 (.t 78) (some (.t 79)) none),zM 81 2,zA 82 (.uO 7 (.t 80) (.t 81))] [0]) (.seq (.reg [zM 83 0,zM 6 83] [6]) .ret))) .skip)) (.seq (.reg [zM 84 0,zM 85 8,zA 86 (.iK 7 (.t 84) (some (.t 85)) none),zM 87 2,zA 88 (.uO 7 (.t 86) (.t 87))] [0,1,7]) (.seq (.reg [zM 89 0,zM 90 1,zA 91 (.iK 7 (.t 89) (some (.t 90)) none),zM 92 7,q2 93 240 91 92] [0]) (.seq (.reg [zM 94 0,zM 6 94] [6]) .ret))))))))))))
theorem K.eF:dO pZ 229 3 2 C.eF [.tmp 6]=true:=by kernel_rfl
def C.l9:aO:=(.seq (.reg [qX 3 10 1,zA 4 (.mv (.k (.iL 7)))] [0,3]) (.seq (.reg [zM 8 0,qA 9 0 3,qF 10 1 9,q2 11 165 8 10,zM 7 11,qE 12 7 0,qE 13 7 1,zM 5 12,zM 6 13] [0,3,5,6]) (.seq (.seq (.reg [zM 14 6] [0,3,5,14]) (.cond (.t 14) (.seq (.reg [zM 15 0,zM 16 5,qT 17 7 3,qD 18 7 15 16,qS 7 18 17] [0]) (.seq (.reg [zM 19 0,zM 4 19] [4]) .ret)) .skip)) (.seq (.reg [zM 20 0,zM 21 5,qT 22 7 3,zA 23 (.kX 11 7 1 [.str [],.lit (.int .i64 0),.lit (.int .i64 0),.lit (.int .i64 0),.str [],.sl 1 [],.sl 5 []] [(0,.t 22)]),q3 24 229 20 21 23,zM 4 24] [4]) .ret))))
theorem K.l9:dO pZ 209 2 1 C.l9 [.tmp 4]=true:=by kernel_rfl
def C.lu:aO:=(.seq (.reg [qX 3 10 0,qX 5 11 2,zA 6 (.alloc 12 [.iL 7,jH 0]),qB 7 false] [1,3,5,6]) (.seq (.seq (.reg [qT 9 2 3,q1 10 89 9,qO 11 10,zM 12 11,zG 12 false 13 (.mv (.t 1)),⟨(some (12,false)),some 14,.call 144 [.t 13]⟩,zG 12 false 15 (.not (.t 14)),qQ 16 12 15,zM 17 16,zG 17 false 18 (.load true 5 (.t 5)),⟨(some (17,false)),some 19,.call 57 [.t 18]⟩,zG 17 false 20 (.not (.t 19)),qQ 21 17 20] [1,3,5,6,21]) (.cond (.t 21) (.seq (.reg [zA 22 (.build [.iL 7,jH 0] []),qS 2 6 22,qB 7 false] [6,7]) .ret) .skip)) (.seq (.reg [qT 23 2 3,q1 24 119 23,zA 8 (.alloc 13 [.iL 7,jH 0]),qS 2 8 24] [1,5,6,8]) (.seq (.reg [qA 25 1 8,qF 26 1 25,zA 27 (.bin .add (.t 26) (kI 1)),qA 28 1 8,qU 1 28 27] [1,5,6,8]) (.seq (.kz [(qA 29 0 8,[]),(qF 30 1 29,[0]),(zM 31 1,[]),(qA 32 1 8,[]),(qF 33 1 32,[3]),(qT 34 5 5,[]),(q1 35 83 34,[5]),(zA 36 (.build [.c (.str []),jH 0,jH 0,jH 0,.c (.str []),.iL 1,.iL 5] [(0,1,.t 31),(1,1,.t 33),(2,5,.t 35)]),[2,3,4,5,6]),(q2 37 209 30 36,[0,1,2,3,4,5,6,7]),(qA 38 0 8,[0,1,2,3,4,5,6,7,8]),(qU 1 38 37,[0,1,2,3,4,5,6,7,8,9])] [6,8]) (.seq (.seq (.reg [qT 39 2 8,q1 40 89 39,qO 41 40] [6,8,41]) (.cond (.t 41) (.seq (.reg [zA 42 (.build [.iL 7,jH 0] []),qS 2 6 42,qB 7 false] [6,7]) .ret) .skip)) (.seq (.reg [qT 43 2 8,qS 2 6 43,qB 7 true] [6,7]) .ret)))))))
theorem K.lu:dO pZ 173 3 0 C.lu [.cell 6 true 2,.tmp 7]=true:=by kernel_rfl
def C.lJ:aO:=(.seq (.reg [zM 7 0,qN 8 7,qA 9 3 8,qF 10 1 9,zM 11 1,q2 12 177 10 11,zM 6 12,qE 13 6 0,qE 14 6 1,zM 4 13,zM 5 14] [0,4,5]) (.seq (.reg [zM 15 5] [0,4,15]) (.cond (.t 15) (.seq (.reg [zM 16 0,zM 17 0,qN 18 17,qA 19 3 18,qF 20 1 19,zM 21 4,zM 22 4,zA 23 (.bin .add (.t 22) (kI 1)),q3 24 131 20 21 23,qN 25 16,qA 26 3 25,qU 1 26 24] [0,4]) (.reg [zM 27 0,zM 28 0,qN 29 28,qA 30 4 29,qF 31 1 30,zM 32 4,zM 33 4,zA 34 (.bin .add (.t 33) (kI 1)),q3 35 132 31 32 34,qN 36 27,qA 37 4 36,qU 1 37 35] [])) .skip)))
theorem K.lJ:dO pZ 238 2 3 C.lJ []=true:=by kernel_rfl
def C.aQ:aO:=(.seq (.reg [qX 2 10 0,qX 3 11 1,qZ 4 12] [2,3,4]) (.seq (.seq (.reg [qA 11 0 3,qF 12 1 11,zA 13 (.bin .neq (.t 12) (kI 4))] [2,3,4,13]) (.cond (.t 13) (.seq (.reg [qT 14 5 3,q1 15 83 14,qS 5 4 15] [4]) .ret) .skip)) (.seq (.reg [zA 16 (.build zN [(0,1,kI 4)]),qZ 5 13,qS 5 5 16] [2,3,4,5]) (.cut (.seq (.reg [qA 17 0 2,qF 18 1 17,zA 19 (.bin .eql (.t 18) (kI 4))] [2,3,4,5,19]) (.cond (.t 19) (.reg [qT 20 5 2,q1 21 83 20,qS 5 5 21] [3,4,5]) .skip)) (.seq (.seq (.reg [qA 22 3 3,qF 23 1 22,qL 24 23,qI 25 0] [3,4,5,23,24,25]) (.block 0 (.loop (.seq (.reg [zA 26 (.bin .lss (.t 25) (.t 24))] [3,4,5,23,24,25,26]) (.seq (.cond (.t 26) .skip (.exit 0)) (.seq (.block 1 (.seq (.reg [zM 27 25,qD 28 1 23 25,qF 29 1 28,zM 6 27,zM 7 29] [3,4,5,6,7,23,24,25]) (.seq (.seq (.reg [qA 30 4 3,qF 31 1 30,zM 32 6,qD 33 5 31 32,qA 34 0 33,qF 35 1 34,zA 36 (.bin .eql (.t 35) (kI 0))] [3,4,5,6,7,23,24,25,36]) (.cond (.t 36) (.seq (.reg [zM 37 7,q2 38 238 5 37] [3,4,5,23,24,25]) (.exit 1)) .skip)) (.seq (.reg [qZ 8 14] [3,4,5,6,7,8,23,24,25]) (.cut (.seq (.reg [qA 40 3 5,qF 41 1 40,zM 42 7,q2 43 177 41 42,zM 39 43,qE 44 39 0,qE 45 39 1,zM 9 44,zM 10 45] [3,4,5,6,7,8,9,10,23,24,25]) (.seq (.reg [zM 46 10] [3,4,5,6,7,8,9,23,24,25,46]) (.cond (.t 46) (.reg [qA 47 4 5,qF 48 1 47,zM 49 9,qD 50 5 48 49,qT 51 5 50,qS 5 8 51] [3,4,5,6,7,8,23,24,25]) .skip))) (.kz [(zM 52 7,[]),(qT 53 5 8,[]),(qA 54 4 3,[]),(qF 55 1 54,[2]),(zM 56 6,[]),(qD 57 5 55 56,[2,3,4]),(qT 58 5 57,[2,3,4,5]),(q2 59 228 53 58,[1,2,3,4,5,6]),(q3 60 174 5 52 59,[0,1,2,3,4,5,6,7])] [3,4,5,23,24,25])))))) (.reg [zA 61 (.bin .add (.t 25) (kI 1)),zM 25 61] [3,4,5,23,24,25]))))))) (.seq (.reg [qT 62 5 5,qS 5 4 62] [4]) .ret))))))
theorem K.aQ:dO pZ 228 2 0 C.aQ [.cell 4 true 5]=true:=by kernel_rfl
def C.jP:aO:=(.seq (.reg [qX 2 10 0,qX 3 11 1,qZ 4 12,qB 5 false] [2,3,4]) (.seq (.seq (.reg [qT 6 5 2,q1 7 57 6,qO 8 7,zM 9 8,zG 9 false 10 (.load true 5 (.t 3)),⟨(some (9,false)),some 11,.call 57 [.t 10]⟩,zG 9 false 12 (.not (.t 11)),qQ 13 9 12] [2,3,4,13]) (.cond (.t 13) (.seq (.reg [zA 14 (.build zN []),qS 5 4 14,qB 5 false] [4,5]) .ret) .skip)) (.seq (.reg [qT 15 5 2,qT 16 5 3,q2 17 228 15 16,⟨none,some 18,.call 125 [.t 17,.k (.c (.lit (.bool true)))]⟩,qE 19 18 0,qE 20 18 1,qS 5 4 19,zM 5 20] [4,5]) .ret)))
theorem K.jP:dO pZ 208 2 0 C.jP [.cell 4 true 5,.tmp 5]=true:=by kernel_rfl
def C.lD:aO:=(.seq (.reg [qX 2 10 0,qX 3 11 1,qZ 4 12,qB 5 false] [2,3,4]) (.seq (.seq (.reg [qA 6 0 3,qF 7 1 6] [2,3,4,7]) (.block 0 (.seq (.reg [zA 9 (.bin .eql (.t 7) (kI 4)),zM 8 9] [2,3,4,7,8]) (.cond (.t 8) (.seq (.reg [qT 10 5 2,qA 11 9 3,qF 12 1 11,q2 13 39 10 12,qE 14 13 0,qE 15 13 1,qS 5 4 14,zM 5 15] [4,5]) .ret) (.seq (.reg [zA 17 (.bin .eql (.t 7) (kI 5)),zM 16 17] [2,3,4,16]) (.cond (.t 16) (.seq (.reg [qT 18 5 2,qA 19 4 3,qT 20 5 19,q2 21 208 18 20,qE 22 21 0,qE 23 21 1,qS 5 4 22,zM 5 23] [4,5]) .ret) .skip)))))) (.seq (.reg [qA 24 4 3,qT 25 5 24,qS 5 4 25,qB 5 true] [4,5]) .ret)))
theorem K.lD:dO pZ 172 2 0 C.lD [.cell 4 true 5,.tmp 5]=true:=by kernel_rfl
def C.gB:aO:=(.seq (.reg [qX 4 10 0,qX 5 11 1,qX 6 12 2,zA 8 (.alloc 13 [.iL 7,jH 0]),zA 9 (.alloc 14 [jH 0,.c (.str []),jH 0,jH 0,jH 0,.c (.str []),.iL 1,.iL 5])] [3,4,5,6,8,9]) (.seq (.reg [qT 15 5 6,qT 16 10 5,q2 17 172 15 16,zM 14 17,qE 18 14 0,qE 19 14 1,qZ 10 15,qS 5 10 18,zM 11 19] [3,4,5,8,9,10,11]) (.seq (.seq (.reg [zM 20 11,qO 21 20] [3,4,5,8,9,10,21]) (.cond (.t 21) (.seq (.reg [qT 22 2 4,q1 23 119 22,zA 24 (.build [jH 0,.c (.str []),jH 0,jH 0,jH 0,.c (.str []),.iL 1,.iL 5] [(0,1,kI 422)]),qS 2 8 23,qS 8 9 24] [8,9]) .ret) .skip)) (.seq (.reg [qT 26 2 4,qA 27 1 5,qF 28 1 27,qT 29 5 10,q3 30 173 26 28 29,zM 25 30,qE 31 25 0,qE 32 25 1,zA 12 (.alloc 16 [.iL 7,jH 0]),qS 2 12 31,zM 11 32] [3,4,8,9,10,11,12]) (.seq (.seq (.reg [zM 33 11,qO 34 33] [3,4,8,9,10,12,34]) (.cond (.t 34) (.seq (.reg [qT 35 2 4,q1 36 119 35,zA 37 (.build [jH 0,.c (.str []),jH 0,jH 0,jH 0,.c (.str []),.iL 1,.iL 5] [(0,1,kI 422)]),qS 2 8 36,qS 8 9 37] [8,9]) .ret) .skip)) (.seq (.kz [(qT 38 5 10,[]),(q1 39 120 38,[0]),(qA 40 1 12,[]),(qF 41 1 40,[2]),(zA 42 (.build [jH 0,.c (.str []),jH 0,jH 0,jH 0,.c (.str []),.iL 1,.iL 5] [(0,1,kI 200),(1,1,.t 39),(2,1,.t 41)]),[0,1,2,3]),(zA 13 (.alloc 17 [jH 0,.c (.str []),jH 0,jH 0,jH 0,.c (.str []),.iL 1,.iL 5]),[]),(qS 8 13 42,[0,1,2,3,4,5])] [3,8,9,12,13]) (.seq (.seq (.reg [zM 43 3,qO 44 43] [8,9,12,13,44]) (.cond (.t 44) (.reg [qA 45 0 13,zS (.store false 1 (.t 45) (kI 201))] [8,9,12,13]) .skip)) (.seq (.kz [(qT 46 2 12,[]),(qT 47 8 13,[]),(qS 2 8 46,[0]),(qS 8 9 47,[0,1,2])] [8,9]) .ret))))))))
theorem K.gB:dO pZ 123 4 0 C.gB [.cell 8 true 2,.cell 9 true 8]=true:=by kernel_rfl
def C.gU:aO:=(.seq (.reg [qX 1 10 0,qB 2 false] [1]) (.seq (.reg [qA 3 0 1,qF 4 1 3,zA 5 (.bin .geq (.t 4) (kI 1)),zM 6 5,zG 6 true 7 (.gX 0 (.t 1)),zG 6 true 8 (.load false 1 (.t 7)),zG 6 true 9 (.bin .leq (.t 8) (kI 5)),qP 10 6 9,zM 11 10,zG 11 true 12 (.gX 1 (.t 1)),zG 11 true 13 (.load false 1 (.t 12)),⟨(some (11,true)),some 14,.call 144 [.t 13]⟩,qP 15 11 14,zM 16 15,zG 16 true 17 (.gX 2 (.t 1)),zG 16 true 18 (.load false 1 (.t 17)),⟨(some (16,true)),some 19,.call 164 [.t 18]⟩,qP 20 16 19,zM 21 20,zG 21 true 22 (.gX 3 (.t 1)),zG 21 true 23 (.load false 1 (.t 22)),⟨(some (21,true)),some 24,.call 164 [.t 23]⟩,qP 25 21 24,zM 26 25,zG 26 true 27 (.gX 4 (.t 1)),zG 26 true 28 (.load true 5 (.t 27)),⟨(some (26,true)),some 29,.call 57 [.t 28]⟩,qP 30 26 29,zM 31 30,zG 31 true 32 (.gX 9 (.t 1)),zG 31 true 33 (.load false 1 (.t 32)),⟨(some (31,true)),some 34,.call 58 [.t 33]⟩,qP 35 31 34,zM 2 35] [2]) .ret))
theorem K.gU:dO pZ 117 1 0 C.gU [.tmp 2]=true:=by kernel_rfl
def C.aX:aO:=(.seq (.reg [qX 2 10 0,qX 3 11 1,zA 4 (.alloc 12 [.iL 7,jH 0]),zA 5 (.alloc 13 [jH 0,.c (.str []),jH 0,jH 0,jH 0,.c (.str []),.iL 1,.iL 5])] [2,3,4,5]) (.seq (.seq (.reg [qT 10 2 2,q1 11 89 10,qO 12 11,zM 13 12,zG 13 false 14 (.load true 10 (.t 3)),⟨(some (13,false)),some 15,.call 117 [.t 14]⟩,zG 13 false 16 (.not (.t 15)),qQ 17 13 16] [2,3,4,5,17]) (.cond (.t 17) (.seq (.reg [zA 18 (.build [.iL 7,jH 0] []),zA 19 (.build [jH 0,.c (.str []),jH 0,jH 0,jH 0,.c (.str []),.iL 1,.iL 5] [(0,1,kI 400)]),qS 2 4 18,qS 8 5 19] [4,5]) .ret) .skip)) (.seq (.reg [qT 21 2 2,qA 22 1 3,qF 23 1 22,q2 24 118 21 23,zM 20 24,qE 25 20 0,qE 26 20 1,zA 6 (.alloc 14 [.c (.str []),jH 0,jH 0,jH 0,.c (.str []),.iL 1,.iL 5]),qS 7 6 25,zM 7 26] [2,3,4,5,6,7]) (.seq (.seq (.reg [zM 27 7,qO 28 27,zM 29 28,zG 29 true 30 (.gX 0 (.t 3)),zG 29 true 31 (.load false 1 (.t 30)),zG 29 true 32 (.bin .neq (.t 31) (kI 2)),qP 33 29 32] [2,3,4,5,6,7,33]) (.cond (.t 33) (.seq (.reg [qT 34 2 2,q1 35 119 34,zA 36 (.build [jH 0,.c (.str []),jH 0,jH 0,jH 0,.c (.str []),.iL 1,.iL 5] [(0,1,kI 404)]),qS 2 4 35,qS 8 5 36] [4,5]) .ret) .skip)) (.seq (.reg [zA 8 (.mv (.k (.c (.str []))))] [2,3,4,5,6,7,8]) (.cut (.seq (.reg [zM 37 7] [2,3,4,5,6,7,8,37]) (.cond (.t 37) (.reg [qA 38 2 6,qT 39 5 38,q1 40 120 39,zM 8 40] [2,3,4,5,6,7,8]) .skip)) (.seq (.reg [qA 41 2 3,qF 42 1 41,qA 43 3 3,qF 44 1 43,zM 45 8,qA 46 0 3,qF 47 1 46,zA 48 (.bin .eql (.t 47) (kI 1)),⟨none,some 49,.call 121 [.t 42,.t 44,.t 45,.t 48]⟩,zM 9 49] [2,3,4,5,6,7,8,9]) (.seq (.seq (.reg [zM 50 9,zA 51 (.bin .neq (.t 50) (kI 200))] [2,3,4,5,6,7,8,9,51]) (.cond (.t 51) (.seq (.reg [qT 52 2 2,q1 53 119 52,zM 54 9,zA 55 (.build [jH 0,.c (.str []),jH 0,jH 0,jH 0,.c (.str []),.iL 1,.iL 5] [(0,1,.t 54)]),qS 2 4 53,qS 8 5 55] [4,5]) .ret) .skip)) (.seq (.seq (.reg [qA 56 0 3,qF 57 1 56] [2,3,4,5,6,7,8,57]) (.block 0 (.seq (.reg [zA 59 (.bin .eql (.t 57) (kI 1)),zM 58 59] [2,3,4,5,6,7,8,57,58]) (.cond (.t 58) (.seq (.kz [(qT 60 2 2,[]),(q1 61 119 60,[0]),(zM 62 8,[]),(qA 63 1 6,[]),(qF 64 1 63,[3]),(qA 65 2 6,[]),(qT 66 5 65,[5]),(zA 67 (.build [jH 0,.c (.str []),jH 0,jH 0,jH 0,.c (.str []),.iL 1,.iL 5] [(0,1,kI 200),(1,1,.t 62),(2,1,.t 64),(3,5,.t 66)]),[2,3,4,5,6]),(qS 2 4 61,[0,1]),(qS 8 5 67,[0,1,2,3,4,5,6,7,8])] [4,5]) .ret) (.seq (.reg [zA 69 (.bin .eql (.t 57) (kI 3)),zM 68 69] [2,3,4,5,6,7,68]) (.cond (.t 68) (.seq (.reg [qT 70 2 2,qT 71 10 3,q2 72 122 70 71,qE 73 72 0,qE 74 72 1,qS 2 4 73,qS 8 5 74] [4,5]) .ret) .skip)))))) (.seq (.reg [qT 75 2 2,qT 76 10 3,qA 77 2 6,qT 78 5 77,zM 79 7,⟨none,some 80,.call 123 [.t 75,.t 76,.t 78,.t 79]⟩,qE 81 80 0,qE 82 80 1,qS 2 4 81,qS 8 5 82] [4,5]) .ret))))))))))
theorem K.aX:dO pZ 66 2 0 C.aX [.cell 4 true 2,.cell 5 true 8]=true:=by kernel_rfl
def C.jQ:aO:=(.seq (.reg [qB 2 false] [0]) (.seq (.reg [zM 3 0,zA 4 (.bin .eql (.t 3) (kI 200)),zM 5 4,zG 5 false 6 (.mv (.t 0)),zG 5 false 7 (.bin .eql (.t 6) (kI 201)),qQ 8 5 7,zM 2 8] [2]) .ret))
theorem K.jQ:dO pZ 67 1 0 C.jQ [.tmp 2]=true:=by kernel_rfl
def C.kD:aO:=(.seq (.reg [qX 2 10 0,qX 3 11 1,qB 4 false] [2,3]) (.seq (.reg [qT 8 2 2,qT 9 10 3,q2 10 66 8 9,zM 7 10,qE 11 7 0,qE 12 7 1,zA 5 (.alloc 12 [.iL 7,jH 0]),zA 6 (.alloc 13 [jH 0,.c (.str []),jH 0,jH 0,jH 0,.c (.str []),.iL 1,.iL 5]),qS 2 5 11,qS 8 6 12] [6]) (.seq (.reg [qA 13 0 6,qF 14 1 13,q1 15 67 14,zM 4 15] [4]) .ret)))
theorem K.kD:dO pZ 23 2 0 C.kD [.tmp 4]=true:=by kernel_rfl
def C.jV:aO:=(.seq (.reg [qX 2 10 0,qX 3 11 1,qB 4 false] [2,3]) (.seq (.seq (.reg [qA 5 0 2,qF 6 1 5,qA 7 0 3,qF 8 1 7,zA 9 (.bin .neq (.t 6) (.t 8))] [2,3,9]) (.cond (.t 9) (.seq (.reg [qB 4 false] [4]) .ret) .skip)) (.seq (.seq (.reg [qA 10 1 2,qF 11 1 10,qA 12 1 3,qF 13 1 12,zA 14 (.bin .neq (.t 11) (.t 13))] [2,3,14]) (.cond (.t 14) (.seq (.reg [qB 4 false] [4]) .ret) .skip)) (.seq (.seq (.reg [qA 15 2 2,qF 16 1 15,qA 17 2 3,qF 18 1 17,q2 19 47 16 18,qO 20 19] [2,3,20]) (.cond (.t 20) (.seq (.reg [qB 4 false] [4]) .ret) .skip)) (.seq (.seq (.reg [qA 21 3 2,qF 22 1 21,qA 23 3 3,qF 24 1 23,q2 25 47 22 24,qO 26 25] [2,3,26]) (.cond (.t 26) (.seq (.reg [qB 4 false] [4]) .ret) .skip)) (.seq (.seq (.reg [qA 27 4 2,qT 28 5 27,qA 29 4 3,qT 30 5 29,q2 31 16 28 30,qO 32 31] [2,3,32]) (.cond (.t 32) (.seq (.reg [qB 4 false] [4]) .ret) .skip)) (.seq (.seq (.reg [qA 33 9 2,qF 34 1 33,qA 35 9 3,qF 36 1 35,q2 37 17 34 36,qO 38 37] [38]) (.cond (.t 38) (.seq (.reg [qB 4 false] [4]) .ret) .skip)) (.seq (.reg [qB 4 true] [4]) .ret))))))))
theorem K.jV:dO pZ 25 2 0 C.jV [.tmp 4]=true:=by kernel_rfl
def C.mD:aO:=(.seq (.reg [qX 2 10 0,qX 3 11 1,qB 4 false] [2,3]) (.seq (.seq (.reg [qA 5 0 2,qF 6 1 5,qA 7 0 3,qF 8 1 7,zA 9 (.bin .neq (.t 6) (.t 8))] [2,3,9]) (.cond (.t 9) (.seq (.reg [qB 4 false] [4]) .ret) .skip)) (.seq (.seq (.reg [qA 10 1 2,qF 11 1 10,qA 12 1 3,qF 13 1 12,zA 14 (.bin .neq (.t 11) (.t 13))] [2,3,14]) (.cond (.t 14) (.seq (.reg [qB 4 false] [4]) .ret) .skip)) (.seq (.seq (.reg [qA 15 2 2,qT 16 5 15,qA 17 2 3,qT 18 5 17,q2 19 16 16 18,qO 20 19] [20]) (.cond (.t 20) (.seq (.reg [qB 4 false] [4]) .ret) .skip)) (.seq (.reg [qB 4 true] [4]) .ret)))))
theorem K.mD:dO pZ 124 2 0 C.mD [.tmp 4]=true:=by kernel_rfl
def C.gZ:aO:=(.seq (.reg [qB 4 false] [0,1]) (.seq (.seq (.reg [zM 6 0,qL 7 6,zM 8 1,qL 9 8,zA 10 (.bin .neq (.t 7) (.t 9))] [0,1,10]) (.cond (.t 10) (.seq (.reg [qB 4 false] [4]) .ret) .skip)) (.seq (.seq (.reg [qI 5 0] [0,1,5]) (.block 0 (.loop (.seq (.seq (.reg [zM 11 5,zM 12 0,qL 13 12,zA 14 (.bin .lss (.t 11) (.t 13))] [0,1,5,14]) (.cond (.t 14) .skip (.exit 0))) (.seq (.block 1 (.seq (.kz [(zM 17 0,[]),(zM 18 5,[]),(qD 19 7 17 18,[0,1]),(qT 20 7 19,[0,1,2]),(zM 21 1,[]),(zM 22 5,[]),(qD 23 7 21 22,[4,5]),(qT 24 7 23,[4,5,6]),(q2 25 124 20 24,[0,1,2,3,4,5,6,7]),(qO 26 25,[0,1,2,3,4,5,6,7,8])] [0,1,5,26]) (.cond (.t 26) (.seq (.reg [qB 4 false] [4]) .ret) .skip))) (.reg [zM 15 5,zA 16 (.bin .add (.t 15) (kI 1)),zM 5 16] [0,1,5])))))) (.seq (.reg [qB 4 true] [4]) .ret))))
theorem K.gZ:dO pZ 68 2 0 C.gZ [.tmp 4]=true:=by kernel_rfl
def C.lM:aO:=(.seq (.reg [qX 2 10 0,qX 3 11 1,qB 4 false] [2,3]) (.seq (.seq (.reg [qA 5 0 2,qF 6 1 5,qA 7 0 3,qF 8 1 7,q2 9 68 6 8,qO 10 9] [2,3,10]) (.cond (.t 10) (.seq (.reg [qB 4 false] [4]) .ret) .skip)) (.seq (.seq (.reg [qA 11 1 2,qF 12 1 11,qA 13 1 3,qF 14 1 13,zA 15 (.bin .neq (.t 12) (.t 14))] [15]) (.cond (.t 15) (.seq (.reg [qB 4 false] [4]) .ret) .skip)) (.seq (.reg [qB 4 true] [4]) .ret))))
theorem K.lM:dO pZ 24 2 0 C.lM [.tmp 4]=true:=by kernel_rfl
def C.iC:aO:=(.seq (.reg [qX 2 10 0,qI 4 0] [1,2]) (.seq (.reg [zM 5 1,qA 6 1 2,qF 7 1 6,zA 8 (.lens (.t 7)),zA 9 (.bin .sub (.t 5) (.t 8)),zM 1 9] [1,2]) (.seq (.seq (.reg [zM 10 1,zA 11 (.bin .lss (.t 10) (kI 0))] [1,2,11]) (.cond (.t 11) (.seq (.reg [qI 4 (-1)] [4]) .ret) .skip)) (.seq (.reg [qA 12 2 2,qF 13 1 12,zM 14 1,q2 15 42 13 14,zM 1 15] [1,2]) (.seq (.seq (.reg [zM 16 1,zA 17 (.bin .lss (.t 16) (kI 0))] [1,2,17]) (.cond (.t 17) (.seq (.reg [qI 4 (-1)] [4]) .ret) .skip)) (.seq (.reg [qA 18 3 2,qF 19 1 18,zM 20 1,q2 21 42 19 20,zM 1 21] [1,2]) (.seq (.seq (.reg [zM 22 1,zA 23 (.bin .lss (.t 22) (kI 0))] [1,2,23]) (.cond (.t 23) (.seq (.reg [qI 4 (-1)] [4]) .ret) .skip)) (.seq (.reg [qA 24 4 2,qT 25 5 24,zM 26 1,q2 27 10 25 26,zM 1 27] [1,2]) (.seq (.seq (.reg [zM 28 1,zA 29 (.bin .lss (.t 28) (kI 0))] [1,2,29]) (.cond (.t 29) (.seq (.reg [qI 4 (-1)] [4]) .ret) .skip)) (.seq (.reg [qA 30 9 2,qF 31 1 30,zM 32 1,q2 33 11 31 32,zM 1 33] [1]) (.seq (.seq (.reg [zM 34 1,zA 35 (.bin .lss (.t 34) (kI 0))] [1,35]) (.cond (.t 35) (.seq (.reg [qI 4 (-1)] [4]) .ret) .skip)) (.seq (.reg [zM 36 1,zM 4 36] [4]) .ret))))))))))))
theorem K.iC:dO pZ 19 2 0 C.iC [.tmp 4]=true:=by kernel_rfl
def C.lU:aO:=(.seq (.reg [qX 2 10 0,qI 4 0] [1,2]) (.seq (.reg [zM 5 1,qA 6 0 2,qF 7 1 6,zA 8 (.lens (.t 7)),zA 9 (.bin .sub (.t 5) (.t 8)),zM 1 9] [1,2]) (.seq (.seq (.reg [zM 10 1,zA 11 (.bin .lss (.t 10) (kI 0))] [1,2,11]) (.cond (.t 11) (.seq (.reg [qI 4 (-1)] [4]) .ret) .skip)) (.seq (.reg [qA 12 2 2,qT 13 5 12,zM 14 1,q2 15 10 13 14,zM 1 15] [1]) (.seq (.seq (.reg [zM 16 1,zA 17 (.bin .lss (.t 16) (kI 0))] [1,17]) (.cond (.t 17) (.seq (.reg [qI 4 (-1)] [4]) .ret) .skip)) (.seq (.reg [zM 18 1,zM 4 18] [4]) .ret))))))
theorem K.lU:dO pZ 104 2 0 C.lU [.tmp 4]=true:=by kernel_rfl
def C.gz:aO:=(.seq (.reg [qI 4 0] [0,1]) (.seq (.reg [zM 6 1,zM 7 0,qL 8 7,zA 9 (.bin .sub (.t 6) (.t 8)),zM 1 9] [0,1]) (.seq (.seq (.reg [zM 10 1,zA 11 (.bin .lss (.t 10) (kI 0))] [0,1,11]) (.cond (.t 11) (.seq (.reg [qI 4 (-1)] [4]) .ret) .skip)) (.seq (.seq (.reg [qI 5 0] [0,1,5]) (.block 0 (.loop (.seq (.seq (.reg [zM 12 5,zM 13 0,qL 14 13,zA 15 (.bin .lss (.t 12) (.t 14))] [0,1,5,15]) (.cond (.t 15) .skip (.exit 0))) (.seq (.block 1 (.seq (.reg [zM 18 0,zM 19 5,qD 20 7 18 19,qT 21 7 20,zM 22 1,q2 23 104 21 22,zM 1 23] [0,1,5]) (.seq (.reg [zM 24 1,zA 25 (.bin .lss (.t 24) (kI 0))] [0,1,5,25]) (.cond (.t 25) (.seq (.reg [qI 4 (-1)] [4]) .ret) .skip)))) (.reg [zM 16 5,zA 17 (.bin .add (.t 16) (kI 1)),zM 5 17] [0,1,5])))))) (.seq (.reg [zM 26 1,zM 4 26] [4]) .ret)))))
theorem K.gz:dO pZ 61 2 0 C.gz [.tmp 4]=true:=by kernel_rfl
def C.lN:aO:=(.seq (.reg [qX 2 10 0,qI 4 0] [1,2]) (.seq (.reg [qA 5 0 2,qF 6 1 5,zM 7 1,q2 8 61 6 7,zM 1 8] [1]) (.seq (.seq (.reg [zM 9 1,zA 10 (.bin .lss (.t 9) (kI 0))] [1,10]) (.cond (.t 10) (.seq (.reg [qI 4 (-1)] [4]) .ret) .skip)) (.seq (.reg [zM 11 1,zM 4 11] [4]) .ret))))
theorem K.lN:dO pZ 18 2 0 C.lN [.tmp 4]=true:=by kernel_rfl
def C.jy:aO:=(.seq (.reg [qX 1 10 0,zA 2 (.alloc 11 [jH 0,.c (.str []),.iL 1,.iL 1,jH 0,jH 0,.c (.str []),.iL 1,.iL 5,.iL 8])] [1,2]) (.seq (.reg [zA 3 (.alloc 12 [jH 0,.c (.str []),.iL 1,.iL 1,jH 0,jH 0,.c (.str []),.iL 1,.iL 5,.iL 8])] [1,2,3]) (.seq (.reg [qA 4 0 1,qF 5 1 4,qA 6 0 3,qU 1 6 5] [1,2,3]) (.seq (.reg [qA 7 1 1,qF 8 1 7,qA 9 1 3,qU 1 9 8] [1,2,3]) (.seq (.reg [qA 10 2 1,qF 11 1 10,q1 12 44 11,qA 13 2 3,qU 1 13 12] [1,2,3]) (.seq (.reg [qA 14 3 1,qF 15 1 14,q1 16 44 15,qA 17 3 3,qU 1 17 16] [1,2,3]) (.seq (.reg [qA 18 4 1,qT 19 5 18,q1 20 13 19,qA 21 4 3,qS 5 21 20] [1,2,3]) (.seq (.reg [qA 22 9 1,qF 23 1 22,q1 24 14 23,qA 25 9 3,qU 1 25 24] [2,3]) (.seq (.reg [qT 26 10 3,qS 10 2 26] [2]) .ret)))))))))
theorem K.jy:dO pZ 22 1 0 C.jy [.cell 2 true 10]=true:=by kernel_rfl
def C.mF:aO:=(.seq (.reg [qX 1 10 0,zA 2 (.alloc 11 [.c (.str []),jH 0,jH 0,jH 0,.c (.str []),.iL 1,.iL 5])] [1,2]) (.seq (.reg [zA 3 (.alloc 12 [.c (.str []),jH 0,jH 0,jH 0,.c (.str []),.iL 1,.iL 5])] [1,2,3]) (.seq (.reg [qA 4 0 1,qF 5 1 4,qA 6 0 3,qU 1 6 5] [1,2,3]) (.seq (.reg [qA 7 1 1,qF 8 1 7,qA 9 1 3,qU 1 9 8] [1,2,3]) (.seq (.reg [qA 10 2 1,qT 11 5 10,q1 12 13 11,qA 13 2 3,qS 5 13 12] [2,3]) (.seq (.reg [qT 14 7 3,qS 7 2 14] [2]) .ret))))))
theorem K.mF:dO pZ 116 1 0 C.mF [.cell 2 true 7]=true:=by kernel_rfl
def C.iq:aO:=(.seq (.reg [zA 2 (.mv (.k (.iL 7)))] [0]) (.seq (.reg [zM 5 0,qL 6 5,zA 7 (.makes 10 7 104 [.str [],.lit (.int .i64 0),.lit (.int .i64 0),.lit (.int .i64 0),.str [],.sl 1 [],.sl 5 []] (.t 6) (.t 6)),zM 3 7] [0,3]) (.seq (.seq (.reg [qI 4 0] [0,3,4]) (.block 0 (.loop (.seq (.seq (.reg [zM 8 4,zM 9 0,qL 10 9,zA 11 (.bin .lss (.t 8) (.t 10))] [0,3,4,11]) (.cond (.t 11) .skip (.exit 0))) (.seq (.block 1 (.reg [zM 14 3,zM 15 4,zM 16 0,zM 17 4,qD 18 7 16 17,qT 19 7 18,q1 20 116 19,qD 21 7 14 15,qS 7 21 20] [0,3,4])) (.reg [zM 12 4,zA 13 (.bin .add (.t 12) (kI 1)),zM 4 13] [0,3,4])))))) (.seq (.reg [zM 22 3,zM 2 22] [2]) .ret))))
theorem K.iq:dO pZ 65 1 0 C.iq [.tmp 2]=true:=by kernel_rfl
def C.kL:aO:=(.seq (.reg [qX 1 10 0,zA 2 (.alloc 11 [.iL 7,jH 0])] [1,2]) (.seq (.reg [zA 3 (.alloc 12 [.iL 7,jH 0])] [1,2,3]) (.seq (.reg [qA 4 0 1,qF 5 1 4,q1 6 65 5,qA 7 0 3,qU 1 7 6] [1,2,3]) (.seq (.reg [qA 8 1 1,qF 9 1 8,qA 10 1 3,qU 1 10 9] [2,3]) (.seq (.reg [qT 11 2 3,qS 2 2 11] [2]) .ret)))))
theorem K.kL:dO pZ 21 1 0 C.kL [.cell 2 true 2]=true:=by kernel_rfl
def C.dF:aO:=(.seq (.reg [qX 2 10 0,qZ 4 11,qB 5 false] [1,2,4]) (.seq (.seq (.reg [qT 10 5 2,q1 11 53 10,qO 12 11,zM 13 12,zG 13 false 14 (.mv (.t 1)),⟨(some (13,false)),some 15,.call 54 [.t 14]⟩,zG 13 false 16 (.not (.t 15)),qQ 17 13 16] [1,2,4,17]) (.cond (.t 17) (.seq (.reg [zA 18 (.build zN []),qS 5 4 18,qB 5 false] [4,5]) .ret) .skip)) (.seq (.reg [qT 19 5 2,q1 20 81 19,qZ 6 12,qS 5 6 20] [1,4,6]) (.seq (.seq (.reg [qI 7 0] [1,4,6,7]) (.block 0 (.loop (.seq (.seq (.reg [zM 21 7,zM 22 1,qL 23 22,zA 24 (.bin .lss (.t 21) (.t 23))] [1,4,6,7,24]) (.cond (.t 24) .skip (.exit 0))) (.seq (.block 1 (.seq (.kz [(qT 28 5 6,[]),(zM 29 1,[]),(zM 30 7,[]),(qD 31 8 29 30,[1,2]),(qT 32 8 31,[1,2,3]),(q2 33 55 28 32,[0,1,2,3,4]),(zM 27 33,[0,1,2,3,4,5]),(qE 34 27 0,[0,1,2,3,4,5,6]),(qE 35 27 1,[0,1,2,3,4,5,6]),(qZ 8 13,[]),(qS 5 8 34,[0,1,2,3,4,5,6,7,9]),(zM 9 35,[0,1,2,3,4,5,6,7,8,9,10])] [1,4,6,7,8,9]) (.seq (.seq (.reg [zM 36 9,qO 37 36] [1,4,6,7,8,37]) (.cond (.t 37) (.seq (.reg [zA 38 (.build zN []),qS 5 4 38,qB 5 false] [4,5]) .ret) .skip)) (.reg [qT 39 5 8,qS 5 6 39] [1,4,6,7])))) (.reg [zM 25 7,zA 26 (.bin .add (.t 25) (kI 1)),zM 7 26] [1,4,6,7])))))) (.seq (.reg [qT 40 5 6,qS 5 4 40,qB 5 true] [4,5]) .ret)))))
theorem K.dF:dO pZ 38 2 0 C.dF [.cell 4 true 5,.tmp 5]=true:=by kernel_rfl
def C.dG:aO:=(.seq (.reg [qX 2 10 0,qX 3 11 1,qZ 4 12] [2,3,4]) (.seq (.seq (.reg [qA 9 0 3,qF 10 1 9,zA 11 (.bin .neq (.t 10) (kI 4))] [2,3,4,11]) (.cond (.t 11) (.seq (.reg [qT 12 5 3,q1 13 81 12,qS 5 4 13] [4]) .ret) .skip)) (.seq (.reg [zA 14 (.kX 13 1 0 [.str []] []),zA 15 (.kX 14 5 0 [.lit (.int .i64 0),.lit (.int .i64 0),.str [],.sl 1 [],.sl 5 []] []),zA 16 (.build zN [(0,1,kI 4),(3,1,.t 14),(4,1,.t 15)]),qZ 5 15,qS 5 5 16] [2,3,4,5]) (.cut (.seq (.reg [qA 17 0 2,qF 18 1 17,zA 19 (.bin .eql (.t 18) (kI 4))] [2,3,4,5,19]) (.cond (.t 19) (.reg [qT 20 5 2,q1 21 81 20,qS 5 5 21] [3,4,5]) .skip)) (.seq (.seq (.reg [qI 6 0] [3,4,5,6]) (.block 0 (.loop (.seq (.seq (.reg [zM 22 6,qA 23 4 3,qF 24 1 23,qL 25 24,zA 26 (.bin .lss (.t 22) (.t 25))] [3,4,5,6,26]) (.cond (.t 26) .skip (.exit 0))) (.seq (.block 1 (.seq (.reg [qA 29 3 3,qF 30 1 29,zM 31 6,qD 32 1 30 31,qF 33 1 32,zM 7 33] [3,4,5,6,7]) (.seq (.reg [qT 34 5 5,zM 35 7,q2 36 180 34 35,zM 8 36] [3,4,5,6,7,8]) (.block 2 (.seq (.reg [qA 38 4 3,qF 39 1 38,zM 40 6,qD 41 5 39 40,qA 42 0 41,qF 43 1 42,zA 44 (.bin .eql (.t 43) (kI 0)),zM 45 44,zG 45 true 46 (.mv (.t 8)),zG 45 true 47 (.bin .geq (.t 46) (kI 0)),qP 48 45 47,zM 37 48] [3,4,5,6,7,8,37]) (.cond (.t 37) (.reg [qT 50 5 5,zM 51 7,zA 52 (.kX 16 1 1 [.str []] [(0,.t 51)]),q2 53 153 50 52,zM 49 53,qE 54 49 0,qE 55 49 1,qS 5 5 54] [3,4,5,6]) (.seq (.reg [qA 57 4 3,qF 58 1 57,zM 59 6,qD 60 5 58 59,qA 61 0 60,qF 62 1 61,zA 63 (.bin .neq (.t 62) (kI 0)),zM 64 63,zG 64 true 65 (.mv (.t 8)),zG 64 true 66 (.bin .geq (.t 65) (kI 0)),qP 67 64 66,zM 56 67] [3,4,5,6,7,8,56]) (.cond (.t 56) (.kz [(qT 68 5 5,[]),(zM 69 8,[]),(qA 70 4 5,[]),(qF 71 1 70,[2]),(zM 72 8,[]),(qD 73 5 71 72,[2,3,4]),(qT 74 5 73,[2,3,4,5]),(qA 75 4 3,[]),(qF 76 1 75,[7]),(zM 77 6,[]),(qD 78 5 76 77,[7,8,9]),(qT 79 5 78,[7,8,9,10]),(q2 80 163 74 79,[2,3,4,5,6,7,8,9,10,11]),(q3 81 198 68 69 80,[0,1,2,3,4,5,6,7,8,9,10,11,12]),(qS 5 5 81,[0,1,2,3,4,5,6,7,8,9,10,11,12,13])] [3,4,5,6]) (.seq (.reg [qA 83 4 3,qF 84 1 83,zM 85 6,qD 86 5 84 85,qA 87 0 86,qF 88 1 87,zA 89 (.bin .neq (.t 88) (kI 0)),zM 82 89] [3,4,5,6,7,82]) (.cond (.t 82) (.kz [(qT 91 5 5,[]),(zM 92 7,[]),(zA 93 (.build zN []),[]),(qA 94 4 3,[]),(qF 95 1 94,[3]),(zM 96 6,[]),(qD 97 5 95 96,[3,4,5]),(qT 98 5 97,[3,4,5,6]),(q2 99 163 93 98,[2,3,4,5,6,7]),(q3 100 197 91 92 99,[0,1,2,3,4,5,6,7,8]),(zM 90 100,[0,1,2,3,4,5,6,7,8,9]),(qE 101 90 0,[0,1,2,3,4,5,6,7,8,9,10]),(qE 102 90 1,[0,1,2,3,4,5,6,7,8,9,10]),(qS 5 5 101,[0,1,2,3,4,5,6,7,8,9,10,11])] [3,4,5,6]) .skip)))))))))) (.reg [zM 27 6,zA 28 (.bin .add (.t 27) (kI 1)),zM 6 28] [3,4,5,6])))))) (.seq (.reg [qT 103 5 5,qS 5 4 103] [4]) .ret))))))
theorem K.dG:dO pZ 163 2 0 C.dG [.cell 4 true 5]=true:=by kernel_rfl
def C.jA:aO:=(.seq (.reg [qX 2 10 0,qX 3 11 1,qZ 4 12,qB 5 false] [2,3,4]) (.seq (.seq (.reg [qT 6 5 2,q1 7 53 6,qO 8 7,zM 9 8,zG 9 false 10 (.load true 5 (.t 3)),⟨(some (9,false)),some 11,.call 53 [.t 10]⟩,zG 9 false 12 (.not (.t 11)),qQ 13 9 12] [2,3,4,13]) (.cond (.t 13) (.seq (.reg [zA 14 (.build zN []),qS 5 4 14,qB 5 false] [4,5]) .ret) .skip)) (.seq (.reg [qT 15 5 2,qT 16 5 3,q2 17 163 15 16,⟨none,some 18,.call 101 [.t 17,.k (.c (.lit (.bool true)))]⟩,qE 19 18 0,qE 20 18 1,qS 5 4 19,zM 5 20] [4,5]) .ret)))
theorem K.jA:dO pZ 115 2 0 C.jA [.cell 4 true 5,.tmp 5]=true:=by kernel_rfl
def C.iG:aO:=(.seq (.reg [zA 2 (.alloc 10 [jH 0,.c (.str []),jH 0,jH 0,jH 0,.c (.str []),.iL 1,.iL 5])] [0,2]) (.seq (.reg [zM 3 0,zA 4 (.build [jH 0,.c (.str []),jH 0,jH 0,jH 0,.c (.str []),.iL 1,.iL 5] [(0,1,.t 3)]),qS 8 2 4] [2]) .ret))
theorem K.iG:dO pZ 110 1 0 C.iG [.cell 2 true 8]=true:=by kernel_rfl
def C.gu:aO:=(.seq (.reg [qB 4 false] [0,1]) (.seq (.seq (.reg [qI 5 0] [0,1,5]) (.block 0 (.loop (.seq (.seq (.reg [zM 6 5,zM 7 0,qL 8 7,zA 9 (.bin .lss (.t 6) (.t 8))] [0,1,5,9]) (.cond (.t 9) .skip (.exit 0))) (.seq (.block 1 (.seq (.reg [zM 12 0,zM 13 5,qD 14 1 12 13,qF 15 1 14,zM 16 1,zA 17 (.bin .eql (.t 15) (.t 16)),zM 18 17,zG 18 false 19 (.mv (.t 0)),zG 18 false 20 (.mv (.t 5)),zG 18 false 21 (.o6 1 (.t 19) (.t 20)),zG 18 false 22 (.load false 1 (.t 21)),zG 18 false 23 (.bin .eql (.t 22) (.k (.c (.str [42])))),qQ 24 18 23] [0,1,5,24]) (.cond (.t 24) (.seq (.reg [qB 4 true] [4]) .ret) .skip))) (.reg [zM 10 5,zA 11 (.bin .add (.t 10) (kI 1)),zM 5 11] [0,1,5])))))) (.seq (.reg [qB 4 false] [4]) .ret)))
theorem K.gu:dO pZ 158 2 0 C.gu [.tmp 4]=true:=by kernel_rfl
def C.lT:aO:=(.seq (.reg [qI 8 0] [0,1,2,3]) (.seq (.seq (.reg [zM 9 0,qL 10 9,zA 11 (.bin .gtr (.t 10) (kI 0)),zM 12 11,zG 12 true 13 (.mv (.t 2)),zG 12 true 14 (.bin .eql (.t 13) (.k (.c (.str [])))),zG 12 true 15 (.mv (.t 14)),zG 15 false 16 (.mv (.t 0)),zG 15 false 17 (.mv (.t 2)),⟨(some (15,false)),some 18,.call 158 [.t 16,.t 17]⟩,zG 15 false 19 (.not (.t 18)),zG 12 true 20 (.pick (.t 15) (kB true) (.t 19)),qP 21 12 20] [1,2,3,21]) (.cond (.t 21) (.seq (.reg [qI 8 412] [8]) .ret) .skip)) (.seq (.seq (.reg [zM 22 1,qL 23 22,zA 24 (.bin .gtr (.t 23) (kI 0)),zM 25 24,zG 25 true 26 (.mv (.t 2)),zG 25 true 27 (.bin .neq (.t 26) (.k (.c (.str [])))),qP 28 25 27,zM 29 28,zG 29 true 30 (.mv (.t 1)),zG 29 true 31 (.mv (.t 2)),⟨(some (29,true)),some 32,.call 158 [.t 30,.t 31]⟩,qP 33 29 32] [3,33]) (.cond (.t 33) (.seq (.seq (.reg [zM 34 3] [34]) (.cond (.t 34) (.seq (.reg [qI 8 304] [8]) .ret) .skip)) (.seq (.reg [qI 8 412] [8]) .ret)) .skip)) (.seq (.reg [qI 8 200] [8]) .ret))))
theorem K.lT:dO pZ 111 4 0 C.lT [.tmp 8]=true:=by kernel_rfl
def C.bC:aO:=(.seq (.reg [qX 1 10 0,zA 2 (.alloc 11 [.iL 7,jH 0])] [1,2]) (.seq (.reg [zA 5 (.kX 12 7 0 [.str [],.lit (.int .i64 0),.lit (.int .i64 0),.lit (.int .i64 0),.str [],.sl 1 [],.sl 5 []] []),zM 3 5] [1,2,3]) (.seq (.seq (.reg [qI 4 0] [1,2,3,4]) (.block 0 (.loop (.seq (.seq (.reg [zM 6 4,qA 7 0 1,qF 8 1 7,qL 9 8,zA 10 (.bin .lss (.t 6) (.t 9))] [1,2,3,4,10]) (.cond (.t 10) .skip (.exit 0))) (.seq (.block 1 (.kz [(zM 13 3,[]),(qA 14 0 1,[]),(qF 15 1 14,[1]),(zM 16 4,[]),(qD 17 7 15 16,[1,2,3]),(qA 18 0 17,[1,2,3,4]),(qF 19 1 18,[1,2,3,4,5]),(qA 20 0 1,[]),(qF 21 1 20,[7]),(zM 22 4,[]),(qD 23 7 21 22,[7,8,9]),(qA 24 1 23,[7,8,9,10]),(qF 25 1 24,[7,8,9,10,11]),(qA 26 0 1,[]),(qF 27 1 26,[13]),(zM 28 4,[]),(qD 29 7 27 28,[13,14,15]),(qA 30 2 29,[13,14,15,16]),(qT 31 5 30,[13,14,15,16,17]),(q1 32 81 31,[13,14,15,16,17,18]),(zA 33 (.build [.c (.str []),jH 0,jH 0,jH 0,.c (.str []),.iL 1,.iL 5] [(0,1,.t 19),(1,1,.t 25),(2,5,.t 32)]),[1,2,3,4,5,6,7,8,9,10,11,12,13,14,15,16,17,18,19]),(zA 34 (.kX 13 7 1 [.str [],.lit (.int .i64 0),.lit (.int .i64 0),.lit (.int .i64 0),.str [],.sl 1 [],.sl 5 []] [(0,.t 33)]),[1,2,3,4,5,6,7,8,9,10,11,12,13,14,15,16,17,18,19,20]),(zA 35 (.append 14 7 104 (.t 13) (.t 34)),[0,1,2,3,4,5,6,7,8,9,10,11,12,13,14,15,16,17,18,19,20,21]),(zM 3 35,[0,1,2,3,4,5,6,7,8,9,10,11,12,13,14,15,16,17,18,19,20,21,22])] [1,2,3,4])) (.reg [zM 11 4,zA 12 (.bin .add (.t 11) (kI 1)),zM 4 12] [1,2,3,4])))))) (.seq (.reg [zM 36 3,qA 37 1 1,qF 38 1 37,zA 39 (.build [.iL 7,jH 0] [(0,1,.t 36),(1,1,.t 38)]),qS 2 2 39] [2]) .ret))))
theorem K.bC:dO pZ 109 1 0 C.bC [.cell 2 true 2]=true:=by kernel_rfl
def C.jM:aO:=(.seq (.reg [qX 2 10 0,zA 4 (.alloc 11 [.iL 7,jH 0])] [1,2,4]) (.seq (.reg [zA 8 (.kX 12 7 0 [.str [],.lit (.int .i64 0),.lit (.int .i64 0),.lit (.int .i64 0),.str [],.sl 1 [],.sl 5 []] []),zM 5 8] [1,2,4,5]) (.seq (.reg [qT 9 2 2,q1 10 109 9,zA 11 (.field false 0 1 (.t 10)),zM 6 11] [1,2,4,5,6]) (.seq (.seq (.reg [qI 7 0] [1,2,4,5,6,7]) (.block 0 (.loop (.seq (.seq (.reg [zM 12 7,zM 13 6,qL 14 13,zA 15 (.bin .lss (.t 12) (.t 14))] [1,2,4,5,6,7,15]) (.cond (.t 15) .skip (.exit 0))) (.seq (.block 1 (.seq (.reg [zM 18 6,zM 19 7,qD 20 7 18 19,qA 21 0 20,qF 22 1 21,zM 23 1,zA 24 (.bin .neq (.t 22) (.t 23))] [1,2,4,5,6,7,24]) (.cond (.t 24) (.reg [zM 25 5,zM 26 6,zM 27 7,qD 28 7 26 27,qT 29 7 28,zA 30 (.kX 13 7 1 [.str [],.lit (.int .i64 0),.lit (.int .i64 0),.lit (.int .i64 0),.str [],.sl 1 [],.sl 5 []] [(0,.t 29)]),zA 31 (.append 14 7 104 (.t 25) (.t 30)),zM 5 31] [1,2,4,5,6,7]) .skip))) (.reg [zM 16 7,zA 17 (.bin .add (.t 16) (kI 1)),zM 7 17] [1,2,4,5,6,7])))))) (.seq (.reg [zM 32 5,qA 33 1 2,qF 34 1 33,zA 35 (.bin .add (.t 34) (kI 1)),zA 36 (.build [.iL 7,jH 0] [(0,1,.t 32),(1,1,.t 35)]),qS 2 4 36] [4]) .ret)))))
theorem K.jM:dO pZ 114 2 0 C.jM [.cell 4 true 2]=true:=by kernel_rfl
def C.iP:aO:=(.seq (.reg [qX 2 10 0,qI 4 0] [1,2]) (.seq (.seq (.reg [qI 5 0] [1,2,5]) (.block 0 (.loop (.seq (.seq (.reg [zM 6 5,qA 7 0 2,qF 8 1 7,qL 9 8,zA 10 (.bin .lss (.t 6) (.t 9))] [1,2,5,10]) (.cond (.t 10) .skip (.exit 0))) (.seq (.block 1 (.seq (.reg [qA 13 0 2,qF 14 1 13,zM 15 5,qD 16 7 14 15,qA 17 0 16,qF 18 1 17,zM 19 1,zA 20 (.bin .eql (.t 18) (.t 19))] [1,2,5,20]) (.cond (.t 20) (.seq (.reg [zM 21 5,zM 4 21] [4]) .ret) .skip))) (.reg [zM 11 5,zA 12 (.bin .add (.t 11) (kI 1)),zM 5 12] [1,2,5])))))) (.seq (.reg [qI 4 (-1)] [4]) .ret)))
theorem K.iP:dO pZ 108 2 0 C.iP [.tmp 4]=true:=by kernel_rfl
def C.gJ:aO:=(.seq (.reg [zA 2 (.mv (.k (.c (.str []))))] [0]) (.seq (.reg [zA 3 (.mv (.k (.c (.str [34]))))] [0,3]) (.seq (.seq (.reg [qI 4 0] [0,3,4]) (.block 0 (.loop (.seq (.seq (.reg [zM 5 4,zM 6 0,zA 7 (.lens (.t 6)),zA 8 (.bin .lss (.t 5) (.t 7))] [0,3,4,8]) (.cond (.t 8) .skip (.exit 0))) (.seq (.block 1 (.seq (.seq (.reg [zM 11 0,zM 12 4,zA 13 (.idxs (.t 11) (.t 12)),zA 14 (.bin .eql (.t 13) (.k (.c (.lit (.int .u8 34))))),zM 15 14,zG 15 false 16 (.mv (.t 0)),zG 15 false 17 (.mv (.t 4)),zG 15 false 18 (.idxs (.t 16) (.t 17)),zG 15 false 19 (.bin .eql (.t 18) (.k (.c (.lit (.int .u8 92))))),qQ 20 15 19] [0,3,4,20]) (.cond (.t 20) (.reg [zM 21 3,zA 22 (.bin .add (.t 21) (.k (.c (.str [92])))),zM 3 22] [0,3,4]) .skip)) (.reg [zM 23 3,zM 24 0,zM 25 4,zM 26 4,zA 27 (.bin .add (.t 26) (kI 1)),zA 28 (.EW (.t 24) (some (.t 25)) (some (.t 27))),zA 29 (.bin .add (.t 23) (.t 28)),zM 3 29] [0,3,4]))) (.reg [zM 9 4,zA 10 (.bin .add (.t 9) (kI 1)),zM 4 10] [0,3,4])))))) (.seq (.reg [zM 30 3,zA 31 (.bin .add (.t 30) (.k (.c (.str [34])))),zM 2 31] [2]) .ret))))
theorem K.gJ:dO pZ 200 1 0 C.gJ [.tmp 2]=true:=by kernel_rfl
def C.bM:aO:=(.seq (.reg [qX 1 10 0,zA 2 (.mv (.k (.c (.str []))))] [1]) (.seq (.reg [zA 3 (.mv (.k (.c (.str []))))] [1,3]) (.seq (.seq (.reg [qA 5 0 1,qF 6 1 5] [1,3,6]) (.block 0 (.seq (.reg [zA 8 (.bin .eql (.t 6) (kI 1)),zM 7 8] [1,3,6,7]) (.cond (.t 7) (.seq (.reg [qA 9 1 1,qF 10 1 9,q1 11 182 10,zM 2 11] [2]) .ret) (.seq (.reg [zA 13 (.bin .eql (.t 6) (kI 2)),zM 12 13] [1,3,6,12]) (.cond (.t 12) (.seq (.reg [qA 14 2 1,qF 15 1 14,q1 16 200 15,zM 2 16] [2]) .ret) (.seq (.reg [zA 18 (.bin .eql (.t 6) (kI 0)),zM 17 18] [1,3,17]) (.cond (.t 17) (.seq (.reg [zA 2 (.mv (.k (.c (.str [110,117,108,108]))))] [2]) .ret) .skip)))))))) (.seq (.seq (.reg [qI 4 0] [1,3,4]) (.block 1 (.loop (.seq (.seq (.reg [zM 19 4,qA 20 4 1,qF 21 1 20,qL 22 21,zA 23 (.bin .lss (.t 19) (.t 22))] [1,3,4,23]) (.cond (.t 23) .skip (.exit 1))) (.seq (.block 2 (.cut (.seq (.reg [zM 26 4,zA 27 (.bin .gtr (.t 26) (kI 0))] [1,3,4,27]) (.cond (.t 27) (.reg [zM 28 3,zA 29 (.bin .add (.t 28) (.k (.c (.str [44])))),zM 3 29] [1,3,4]) .skip)) (.cut (.seq (.reg [qA 30 0 1,qF 31 1 30,zA 32 (.bin .eql (.t 31) (kI 4))] [1,3,4,32]) (.cond (.t 32) (.reg [zM 33 3,qA 34 3 1,qF 35 1 34,zM 36 4,qD 37 1 35 36,qF 38 1 37,q1 39 200 38,zA 40 (.bin .add (.t 33) (.t 39)),zA 41 (.bin .add (.t 40) (.k (.c (.str [58])))),zM 3 41] [1,3,4]) .skip)) (.reg [zM 42 3,qA 43 4 1,qF 44 1 43,zM 45 4,qD 46 5 44 45,qT 47 5 46,q1 48 161 47,zA 49 (.bin .add (.t 42) (.t 48)),zM 3 49] [1,3,4])))) (.reg [zM 24 4,zA 25 (.bin .add (.t 24) (kI 1)),zM 4 25] [1,3,4])))))) (.seq (.seq (.reg [qA 50 0 1,qF 51 1 50,zA 52 (.bin .eql (.t 51) (kI 4))] [3,52]) (.cond (.t 52) (.seq (.reg [zM 53 3,zA 54 (.bin .add (.k (.c (.str [123]))) (.t 53)),zA 55 (.bin .add (.t 54) (.k (.c (.str [125])))),zM 2 55] [2]) .ret) .skip)) (.seq (.reg [zM 56 3,zA 57 (.bin .add (.k (.c (.str [91]))) (.t 56)),zA 58 (.bin .add (.t 57) (.k (.c (.str [93])))),zM 2 58] [2]) .ret))))))
theorem K.bM:dO pZ 161 1 0 C.bM [.tmp 2]=true:=by kernel_rfl
def C.ou:aO:=(.seq (.reg [zA 2 (.mv (.k (.c (.str []))))] [0]) (.seq (.reg [zA 3 (.mv (.k (.c (.str [48,49,50,51,52,53,54,55,56,57,97,98,99,100,101,102]))))] [0,3]) (.seq (.kz [(zM 4 3,[]),(zM 5 0,[]),(zA 6 (.bin .quo (.t 5) (kI 4096)),[1]),(zA 7 (.idxs (.t 4) (.t 6)),[0,1,2]),(zM 8 3,[]),(zM 9 0,[]),(zA 10 (.bin .quo (.t 9) (kI 256)),[5]),(zA 11 (.bin .rem (.t 10) (kI 16)),[5,6]),(zA 12 (.idxs (.t 8) (.t 11)),[4,5,6,7]),(zM 13 3,[]),(zM 14 0,[]),(zA 15 (.bin .quo (.t 14) (kI 16)),[10]),(zA 16 (.bin .rem (.t 15) (kI 16)),[10,11]),(zA 17 (.idxs (.t 13) (.t 16)),[9,10,11,12]),(zM 18 3,[]),(zM 19 0,[]),(zA 20 (.bin .rem (.t 19) (kI 16)),[15]),(zA 21 (.idxs (.t 18) (.t 20)),[14,15,16]),(zA 22 (.kX 10 1 4 [.lit (.int .u8 0)] [(0,.t 7),(1,.t 12),(2,.t 17),(3,.t 21)]),[0,1,2,3,4,5,6,7,8,9,10,11,12,13,14,15,16,17]),(zA 23 (.FM (.t 22)),[0,1,2,3,4,5,6,7,8,9,10,11,12,13,14,15,16,17,18]),(zM 2 23,[0,1,2,3,4,5,6,7,8,9,10,11,12,13,14,15,16,17,18,19])] [2]) .ret)))
theorem K.ou:dO pZ 159 1 0 C.ou [.tmp 2]=true:=by kernel_rfl
def C.jB:aO:=(.seq (.reg [qI 2 0] [0]) (.seq (.reg [qI 3 17] [0,3]) (.seq (.seq (.reg [qI 4 0] [0,3,4]) (.block 0 (.loop (.seq (.seq (.reg [zM 5 4,zM 6 0,zA 7 (.lens (.t 6)),zA 8 (.bin .lss (.t 5) (.t 7))] [0,3,4,8]) (.cond (.t 8) .skip (.exit 0))) (.seq (.block 1 (.reg [zM 11 3,zA 12 (.bin .mul (kI 131) (.t 11)),zM 13 0,zM 14 4,zA 15 (.idxs (.t 13) (.t 14)),zA 16 (.xq .i64 (.t 15)),zA 17 (.bin .add (.t 12) (.t 16)),zA 18 (.bin .rem (.t 17) (kI 65521)),zM 3 18] [0,3,4])) (.reg [zM 9 4,zA 10 (.bin .add (.t 9) (kI 1)),zM 4 10] [0,3,4])))))) (.seq (.reg [zM 19 3,zM 2 19] [2]) .ret))))
theorem K.jB:dO pZ 160 1 0 C.jB [.tmp 2]=true:=by kernel_rfl
def C.jW:aO:=(.seq (.reg [qX 2 10 0,zA 4 (.mv (.k (.c (.str []))))] [1,2]) (.seq (.reg [qT 6 2 2,zM 7 1,q2 8 108 6 7,zM 5 8] [2,5]) (.seq (.seq (.reg [zM 9 5,zA 10 (.bin .lss (.t 9) (kI 0))] [2,5,10]) (.cond (.t 10) (.seq (.reg [zA 4 (.mv (.k (.c (.str []))))] [4]) .ret) .skip)) (.seq (.reg [qA 11 0 2,qF 12 1 11,zM 13 5,qD 14 7 12 13,qA 15 2 14,qT 16 5 15,q1 17 161 16,q1 18 160 17,q1 19 159 18,zM 4 19] [4]) .ret))))
theorem K.jW:dO pZ 112 2 0 C.jW [.tmp 4]=true:=by kernel_rfl
def C.fO:aO:=(.seq (.reg [qX 3 10 0,qX 5 11 2,zA 6 (.alloc 12 [.iL 7,jH 0])] [1,3,5,6]) (.seq (.reg [zA 12 (.kX 13 7 0 [.str [],.lit (.int .i64 0),.lit (.int .i64 0),.lit (.int .i64 0),.str [],.sl 1 [],.sl 5 []] []),zM 7 12] [1,3,5,6,7]) (.seq (.kz [(zM 13 1,[]),(qA 14 1 3,[]),(qF 15 1 14,[1]),(zA 16 (.bin .add (.t 15) (kI 1)),[1,2]),(qT 17 5 5,[]),(q1 18 81 17,[4]),(zA 19 (.build [.c (.str []),jH 0,jH 0,jH 0,.c (.str []),.iL 1,.iL 5] [(0,1,.t 13),(1,1,.t 16),(2,5,.t 18)]),[0,1,2,3,4,5]),(zA 8 (.alloc 14 [.c (.str []),jH 0,jH 0,jH 0,.c (.str []),.iL 1,.iL 5]),[]),(qS 7 8 19,[0,1,2,3,4,5,6,7])] [1,3,6,7,8]) (.seq (.reg [qT 20 2 3,q1 21 109 20,zA 22 (.field false 0 1 (.t 21)),zM 9 22] [1,3,6,7,8,9]) (.seq (.reg [qB 10 false] [1,3,6,7,8,9,10]) (.seq (.seq (.reg [qI 11 0] [1,3,6,7,8,9,10,11]) (.block 0 (.loop (.seq (.seq (.reg [zM 23 11,zM 24 9,qL 25 24,zA 26 (.bin .lss (.t 23) (.t 25))] [1,3,6,7,8,9,10,11,26]) (.cond (.t 26) .skip (.exit 0))) (.seq (.block 1 (.cut (.seq (.reg [zM 29 10,qO 30 29,zM 31 30,zG 31 true 32 (.mv (.t 9)),zG 31 true 33 (.mv (.t 11)),zG 31 true 34 (.o6 7 (.t 32) (.t 33)),zG 31 true 35 (.gX 0 (.t 34)),zG 31 true 36 (.load false 1 (.t 35)),zG 31 true 37 (.mv (.t 1)),zG 31 true 38 (.bin .geq (.t 36) (.t 37)),qP 39 31 38] [1,3,6,7,8,9,10,11,39]) (.cond (.t 39) (.seq (.reg [zM 40 7,qT 41 7 8,zA 42 (.kX 15 7 1 [.str [],.lit (.int .i64 0),.lit (.int .i64 0),.lit (.int .i64 0),.str [],.sl 1 [],.sl 5 []] [(0,.t 41)]),zA 43 (.append 16 7 104 (.t 40) (.t 42)),zM 7 43] [1,3,6,7,8,9,11]) (.reg [qB 10 true] [1,3,6,7,8,9,10,11])) .skip)) (.seq (.reg [zM 44 9,zM 45 11,qD 46 7 44 45,qA 47 0 46,qF 48 1 47,zM 49 1,zA 50 (.bin .neq (.t 48) (.t 49))] [1,3,6,7,8,9,10,11,50]) (.cond (.t 50) (.reg [zM 51 7,zM 52 9,zM 53 11,qD 54 7 52 53,qT 55 7 54,zA 56 (.kX 17 7 1 [.str [],.lit (.int .i64 0),.lit (.int .i64 0),.lit (.int .i64 0),.str [],.sl 1 [],.sl 5 []] [(0,.t 55)]),zA 57 (.append 18 7 104 (.t 51) (.t 56)),zM 7 57] [1,3,6,7,8,9,10,11]) .skip)))) (.reg [zM 27 11,zA 28 (.bin .add (.t 27) (kI 1)),zM 11 28] [1,3,6,7,8,9,10,11])))))) (.seq (.seq (.reg [zM 58 10,qO 59 58] [3,6,7,8,59]) (.cond (.t 59) (.reg [zM 60 7,qT 61 7 8,zA 62 (.kX 19 7 1 [.str [],.lit (.int .i64 0),.lit (.int .i64 0),.lit (.int .i64 0),.str [],.sl 1 [],.sl 5 []] [(0,.t 61)]),zA 63 (.append 20 7 104 (.t 60) (.t 62)),zM 7 63] [3,6,7]) .skip)) (.seq (.reg [zM 64 7,qA 65 1 3,qF 66 1 65,zA 67 (.bin .add (.t 66) (kI 1)),zA 68 (.build [.iL 7,jH 0] [(0,1,.t 64),(1,1,.t 67)]),qS 2 6 68] [6]) .ret))))))))
theorem K.fO:dO pZ 162 3 0 C.fO [.cell 6 true 2]=true:=by kernel_rfl
def C.cZ:aO:=(.seq (.reg [qB 2 false] [0]) (.seq (.seq (.reg [qI 3 0] [0,3]) (.block 0 (.loop (.seq (.seq (.reg [zM 4 3,zM 5 0,zA 6 (.lens (.t 5)),zA 7 (.bin .lss (.t 4) (.t 6))] [0,3,7]) (.cond (.t 7) .skip (.exit 0))) (.seq (.block 1 (.seq (.reg [zM 10 0,zM 11 3,zA 12 (.idxs (.t 10) (.t 11)),zA 13 (.xq .i64 (.t 12)),⟨none,some 14,.call 106 [.t 13,kI 97,kI 122]⟩,qO 15 14,zM 16 15,zG 16 true 17 (.mv (.t 0)),zG 16 true 18 (.mv (.t 3)),zG 16 true 19 (.idxs (.t 17) (.t 18)),zG 16 true 20 (.xq .i64 (.t 19)),⟨(some (16,true)),some 21,.call 106 [.t 20,kI 48,kI 57]⟩,zG 16 true 22 (.not (.t 21)),qP 23 16 22] [0,3,23]) (.cond (.t 23) (.seq (.reg [qB 2 false] [2]) .ret) .skip))) (.reg [zM 8 3,zA 9 (.bin .add (.t 8) (kI 1)),zM 3 9] [0,3])))))) (.seq (.reg [zM 24 0,zA 25 (.lens (.t 24)),⟨none,some 26,.call 106 [.t 25,kI 1,kI 8]⟩,zM 2 26] [2]) .ret)))
theorem K.cZ:dO pZ 105 1 0 C.cZ [.tmp 2]=true:=by kernel_rfl
def C.bz:aO:=(.seq (.reg [qX 1 10 0,qB 2 false] [1]) (.seq (.seq (.reg [qI 3 0] [1,3]) (.block 0 (.loop (.seq (.seq (.reg [zM 5 3,qA 6 0 1,qF 7 1 6,qL 8 7,zA 9 (.bin .lss (.t 5) (.t 8))] [1,3,9]) (.cond (.t 9) .skip (.exit 0))) (.seq (.block 1 (.seq (.reg [qA 12 0 1,qF 13 1 12,zM 14 3,qD 15 7 13 14,qT 16 7 15,zA 4 (.alloc 11 [.c (.str []),jH 0,jH 0,jH 0,.c (.str []),.iL 1,.iL 5]),qS 7 4 16] [1,3,4]) (.seq (.kz [(qA 17 0 4,[]),(qF 18 1 17,[0]),(q1 19 105 18,[0,1]),(qO 20 19,[0,1,2]),(zM 21 20,[0,1,2,3]),(zG 21 false 22 (.gX 2 (.t 4)),[0,1,2,3,4]),(zG 21 false 23 (.load true 5 (.t 22)),[0,1,2,3,4,5]),(⟨(some (21,false)),some 24,.call 53 [.t 23]⟩,[0,1,2,3,4,5,6]),(zG 21 false 25 (.not (.t 24)),[0,1,2,3,4,5,6,7]),(qQ 26 21 25,[0,1,2,3,4,5,6,7,8]),(zM 27 26,[0,1,2,3,4,5,6,7,8,9]),(zG 27 false 28 (.gX 1 (.t 4)),[0,1,2,3,4,5,6,7,8,9,10]),(zG 27 false 29 (.load false 1 (.t 28)),[0,1,2,3,4,5,6,7,8,9,10,11]),(zG 27 false 30 (.gX 1 (.t 1)),[0,1,2,3,4,5,6,7,8,9,10]),(zG 27 false 31 (.load false 1 (.t 30)),[0,1,2,3,4,5,6,7,8,9,10,13]),(⟨(some (27,false)),some 32,.call 106 [.t 29,kI 1,.t 31]⟩,[0,1,2,3,4,5,6,7,8,9,10,11,12,13,14]),(zG 27 false 33 (.not (.t 32)),[0,1,2,3,4,5,6,7,8,9,10,11,12,13,14,15]),(qQ 34 27 33,[0,1,2,3,4,5,6,7,8,9,10,11,12,13,14,15,16]),(zM 35 34,[0,1,2,3,4,5,6,7,8,9,10,11,12,13,14,15,16,17]),(zG 35 false 36 (.mv (.t 3)),[0,1,2,3,4,5,6,7,8,9,10,11,12,13,14,15,16,17,18]),(zG 35 false 37 (.bin .gtr (.t 36) (kI 0)),[0,1,2,3,4,5,6,7,8,9,10,11,12,13,14,15,16,17,18,19]),(zG 35 false 38 (.mv (.t 37)),[0,1,2,3,4,5,6,7,8,9,10,11,12,13,14,15,16,17,18,19,20]),(zG 38 true 39 (.gX 0 (.t 4)),[0,1,2,3,4,5,6,7,8,9,10,11,12,13,14,15,16,17,18,19,20,21]),(zG 38 true 40 (.load false 1 (.t 39)),[0,1,2,3,4,5,6,7,8,9,10,11,12,13,14,15,16,17,18,19,20,21,22]),(zG 38 true 41 (.gX 0 (.t 1)),[0,1,2,3,4,5,6,7,8,9,10,11,12,13,14,15,16,17,18,19,20,21]),(zG 38 true 42 (.load false 1 (.t 41)),[0,1,2,3,4,5,6,7,8,9,10,11,12,13,14,15,16,17,18,19,20,21,24]),(zG 38 true 43 (.mv (.t 3)),[0,1,2,3,4,5,6,7,8,9,10,11,12,13,14,15,16,17,18,19,20,21]),(zG 38 true 44 (.bin .sub (.t 43) (kI 1)),[0,1,2,3,4,5,6,7,8,9,10,11,12,13,14,15,16,17,18,19,20,21,26]),(zG 38 true 45 (.o6 7 (.t 42) (.t 44)),[0,1,2,3,4,5,6,7,8,9,10,11,12,13,14,15,16,17,18,19,20,21,24,25,26,27]),(zG 38 true 46 (.gX 0 (.t 45)),[0,1,2,3,4,5,6,7,8,9,10,11,12,13,14,15,16,17,18,19,20,21,24,25,26,27,28]),(zG 38 true 47 (.load false 1 (.t 46)),[0,1,2,3,4,5,6,7,8,9,10,11,12,13,14,15,16,17,18,19,20,21,24,25,26,27,28,29]),(zG 38 true 48 (.bin .leq (.t 40) (.t 47)),[0,1,2,3,4,5,6,7,8,9,10,11,12,13,14,15,16,17,18,19,20,21,22,23,24,25,26,27,28,29,30]),(zG 35 false 49 (.pick (.t 38) (.t 48) (kB false)),[0,1,2,3,4,5,6,7,8,9,10,11,12,13,14,15,16,17,18,19,20,21,22,23,24,25,26,27,28,29,30,31]),(qQ 50 35 49,[0,1,2,3,4,5,6,7,8,9,10,11,12,13,14,15,16,17,18,19,20,21,22,23,24,25,26,27,28,29,30,31,32])] [1,3,50]) (.cond (.t 50) (.seq (.reg [qB 2 false] [2]) .ret) .skip)))) (.reg [zM 10 3,zA 11 (.bin .add (.t 10) (kI 1)),zM 3 11] [1,3])))))) (.seq (.reg [qA 51 0 1,qF 52 1 51,qL 53 52,zA 54 (.bin .leq (.t 53) (kI 10)),zM 55 54,zG 55 true 56 (.gX 1 (.t 1)),zG 55 true 57 (.load false 1 (.t 56)),⟨(some (55,true)),some 58,.call 106 [.t 57,kI 0,kI 999]⟩,qP 59 55 58,zM 2 59] [2]) .ret)))
theorem K.bz:dO pZ 62 1 0 C.bz [.tmp 2]=true:=by kernel_rfl
def C.fK:aO:=(.seq (.reg [qX 3 10 0,qX 5 11 2,zA 6 (.alloc 12 [.iL 7,jH 0]),zA 7 (.alloc 13 [jH 0,.c (.str []),jH 0,jH 0,jH 0,.c (.str []),.iL 1,.iL 5])] [1,3,5,6,7]) (.seq (.reg [qI 8 200] [1,3,5,6,7,8]) (.cut (.seq (.reg [qT 10 2 3,zM 11 1,q2 12 108 10 11,zA 13 (.bin .lss (.t 12) (kI 0))] [1,3,5,6,7,8,13]) (.cond (.t 13) (.reg [qI 8 201] [1,3,5,6,7,8]) .skip)) (.seq (.reg [qT 14 2 3,zM 15 1,qT 16 5 5,q3 17 162 14 15 16,zA 9 (.alloc 14 [.iL 7,jH 0]),qS 2 9 17] [1,3,6,7,8,9]) (.seq (.seq (.reg [qT 18 2 9,q1 19 62 18,qO 20 19] [1,3,6,7,8,9,20]) (.cond (.t 20) (.seq (.reg [qT 21 2 3,q1 22 109 21,⟨none,some 23,.call 110 [kI 422]⟩,qS 2 6 22,qS 8 7 23] [6,7]) .ret) .skip)) (.seq (.kz [(qT 24 2 9,[]),(zM 25 8,[]),(qT 26 2 9,[]),(zM 27 1,[]),(q2 28 112 26 27,[2,3]),(qA 29 1 9,[]),(qF 30 1 29,[5]),(zA 31 (.build [jH 0,.c (.str []),jH 0,jH 0,jH 0,.c (.str []),.iL 1,.iL 5] [(0,1,.t 25),(1,1,.t 28),(2,1,.t 30)]),[1,2,3,4,5,6]),(qS 2 6 24,[0,2,3,4]),(qS 8 7 31,[0,1,2,3,4,5,6,7,8])] [6,7]) .ret))))))
theorem K.fK:dO pZ 113 3 0 C.fK [.cell 6 true 2,.cell 7 true 8]=true:=by kernel_rfl
def C.eG:aO:=(.seq (.reg [qX 2 10 0,qX 3 11 1,zA 4 (.alloc 12 [.iL 7,jH 0]),zA 5 (.alloc 13 [jH 0,.c (.str []),jH 0,jH 0,jH 0,.c (.str []),.iL 1,.iL 5])] [2,3,4,5]) (.seq (.reg [qT 10 2 2,qA 11 1 3,qF 12 1 11,q2 13 108 10 12,zM 6 13] [2,3,4,5,6]) (.seq (.seq (.reg [zM 14 6,zA 15 (.bin .lss (.t 14) (kI 0)),zM 16 15,zG 16 true 17 (.gX 0 (.t 3)),zG 16 true 18 (.load false 1 (.t 17)),zG 16 true 19 (.bin .neq (.t 18) (kI 2)),qP 20 16 19] [2,3,4,5,6,20]) (.cond (.t 20) (.seq (.reg [qT 21 2 2,q1 22 109 21,⟨none,some 23,.call 110 [kI 404]⟩,qS 2 4 22,qS 8 5 23] [4,5]) .ret) .skip)) (.seq (.kz [(qA 24 2 3,[]),(qF 25 1 24,[0]),(qA 26 3 3,[]),(qF 27 1 26,[2]),(qT 28 2 2,[]),(qA 29 1 3,[]),(qF 30 1 29,[5]),(q2 31 112 28 30,[4,5,6]),(qA 32 0 3,[]),(qF 33 1 32,[8]),(zA 34 (.bin .eql (.t 33) (kI 1)),[8,9]),(⟨none,some 35,.call 111 [.t 25,.t 27,.t 31,.t 34]⟩,[0,1,2,3,4,5,6,7,8,9,10]),(zM 7 35,[0,1,2,3,4,5,6,7,8,9,10,11])] [2,3,4,5,6,7]) (.seq (.seq (.reg [zM 36 7,zA 37 (.bin .neq (.t 36) (kI 200))] [2,3,4,5,6,7,37]) (.cond (.t 37) (.seq (.reg [qT 38 2 2,q1 39 109 38,zM 40 7,q1 41 110 40,qS 2 4 39,qS 8 5 41] [4,5]) .ret) .skip)) (.seq (.seq (.reg [qA 42 0 3,qF 43 1 42] [2,3,4,5,6,7,43]) (.block 0 (.seq (.reg [zA 45 (.bin .eql (.t 43) (kI 1)),zM 44 45] [2,3,4,5,6,7,43,44]) (.cond (.t 44) (.seq (.kz [(qT 46 2 2,[]),(q1 47 109 46,[0]),(zM 48 7,[]),(qT 49 2 2,[]),(qA 50 1 3,[]),(qF 51 1 50,[4]),(q2 52 112 49 51,[0,1,3,4,5]),(qA 53 0 2,[]),(qF 54 1 53,[7]),(zM 55 6,[]),(qD 56 7 54 55,[7,8,9]),(qA 57 1 56,[7,8,9,10]),(qF 58 1 57,[7,8,9,10,11]),(qA 59 0 2,[]),(qF 60 1 59,[13]),(zM 61 6,[]),(qD 62 7 60 61,[13,14,15]),(qA 63 2 62,[13,14,15,16]),(qT 64 5 63,[13,14,15,16,17]),(q1 65 81 64,[0,1,3,4,5,6,13,14,15,16,17,18]),(zA 66 (.build [jH 0,.c (.str []),jH 0,jH 0,jH 0,.c (.str []),.iL 1,.iL 5] [(0,1,.t 48),(1,1,.t 52),(2,1,.t 58),(3,5,.t 65)]),[0,1,2,3,4,5,6,7,8,9,10,11,12,13,14,15,16,17,18,19]),(qS 2 4 47,[0,1,3,4,5,6,13,14,15,16,17,18,19]),(qS 8 5 66,[0,1,2,3,4,5,6,7,8,9,10,11,12,13,14,15,16,17,18,19,20,21])] [4,5]) .ret) (.seq (.reg [zA 68 (.bin .eql (.t 43) (kI 2)),zM 67 68] [2,3,4,5,6,7,43,67]) (.cond (.t 67) (.seq (.reg [qT 69 2 2,qA 70 1 3,qF 71 1 70,qA 72 4 3,qT 73 5 72,q3 74 113 69 71 73,qE 75 74 0,qE 76 74 1,qS 2 4 75,qS 8 5 76] [4,5]) .ret) (.seq (.reg [zA 78 (.bin .eql (.t 43) (kI 3)),zM 77 78] [2,3,4,5,6,7,77]) (.cond (.t 77) (.seq (.seq (.reg [qA 79 1 2,qF 80 1 79,zA 81 (.bin .eql (.t 80) (kI 999))] [2,3,4,5,7,81]) (.cond (.t 81) (.seq (.reg [qT 82 2 2,q1 83 109 82,⟨none,some 84,.call 110 [kI 422]⟩,qS 2 4 83,qS 8 5 84] [4,5]) .ret) .skip)) (.seq (.kz [(qT 85 2 2,[]),(qA 86 1 3,[]),(qF 87 1 86,[1]),(q2 88 114 85 87,[0,1,2]),(zM 89 7,[]),(qA 90 1 2,[]),(qF 91 1 90,[5]),(zA 92 (.bin .add (.t 91) (kI 1)),[5,6]),(zA 93 (.build [jH 0,.c (.str []),jH 0,jH 0,jH 0,.c (.str []),.iL 1,.iL 5] [(0,1,.t 89),(2,1,.t 92)]),[4,5,6,7]),(qS 2 4 88,[0,1,2,3]),(qS 8 5 93,[0,1,2,3,4,5,6,7,8,9])] [4,5]) .ret)) .skip)))))))) (.seq (.kz [(qA 95 0 2,[]),(qF 96 1 95,[0]),(zM 97 6,[]),(qD 98 7 96 97,[0,1,2]),(qA 99 2 98,[0,1,2,3]),(qT 100 5 99,[0,1,2,3,4]),(qA 101 9 3,[]),(qF 102 1 101,[6]),(q2 103 38 100 102,[0,1,2,3,4,5,6,7]),(zM 94 103,[0,1,2,3,4,5,6,7,8]),(qE 104 94 0,[0,1,2,3,4,5,6,7,8,9]),(qE 105 94 1,[0,1,2,3,4,5,6,7,8,9]),(qZ 8 14,[]),(qS 5 8 104,[0,1,2,3,4,5,6,7,8,9,10,12]),(zM 9 105,[0,1,2,3,4,5,6,7,8,9,10,11,12,13])] [2,3,4,5,6,8,9]) (.cut (.seq (.reg [qA 106 0 3,qF 107 1 106,zA 108 (.bin .eql (.t 107) (kI 5))] [2,3,4,5,6,8,9,108]) (.cond (.t 108) (.kz [(qA 110 0 2,[]),(qF 111 1 110,[0]),(zM 112 6,[]),(qD 113 7 111 112,[0,1,2]),(qA 114 2 113,[0,1,2,3]),(qT 115 5 114,[0,1,2,3,4]),(qA 116 4 3,[]),(qT 117 5 116,[6]),(q2 118 115 115 117,[0,1,2,3,4,5,6,7]),(zM 109 118,[0,1,2,3,4,5,6,7,8]),(qE 119 109 0,[0,1,2,3,4,5,6,7,8,9]),(qE 120 109 1,[0,1,2,3,4,5,6,7,8,9]),(qS 5 8 119,[0,1,2,3,4,5,6,7,8,9,10]),(zM 9 120,[0,1,2,3,4,5,6,7,8,9,10,11,12])] [2,3,4,5,8,9]) .skip)) (.seq (.seq (.reg [zM 121 9,qO 122 121] [2,3,4,5,8,122]) (.cond (.t 122) (.seq (.reg [qT 123 2 2,q1 124 109 123,⟨none,some 125,.call 110 [kI 422]⟩,qS 2 4 124,qS 8 5 125] [4,5]) .ret) .skip)) (.seq (.reg [qT 126 2 2,qA 127 1 3,qF 128 1 127,qT 129 5 8,q3 130 113 126 128 129,qE 131 130 0,qE 132 130 1,qS 2 4 131,qS 8 5 132] [4,5]) .ret))))))))))
theorem K.eG:dO pZ 64 2 0 C.eG [.cell 4 true 2,.cell 5 true 8]=true:=by kernel_rfl
def C.fE:aO:=(.seq (.reg [qB 2 false] [0]) (.seq (.seq (.reg [qI 3 0] [0,3]) (.block 0 (.loop (.seq (.seq (.reg [zM 4 3,zM 5 0,zA 6 (.lens (.t 5)),zA 7 (.bin .lss (.t 4) (.t 6))] [0,3,7]) (.cond (.t 7) .skip (.exit 0))) (.seq (.block 1 (.seq (.reg [zM 10 0,zM 11 3,zA 12 (.idxs (.t 10) (.t 11)),zA 13 (.xq .i64 (.t 12)),⟨none,some 14,.call 106 [.t 13,kI 48,kI 57]⟩,qO 15 14,zM 16 15,zG 16 true 17 (.mv (.t 0)),zG 16 true 18 (.mv (.t 3)),zG 16 true 19 (.idxs (.t 17) (.t 18)),zG 16 true 20 (.xq .i64 (.t 19)),⟨(some (16,true)),some 21,.call 106 [.t 20,kI 97,kI 102]⟩,zG 16 true 22 (.not (.t 21)),qP 23 16 22] [0,3,23]) (.cond (.t 23) (.seq (.reg [qB 2 false] [2]) .ret) .skip))) (.reg [zM 8 3,zA 9 (.bin .add (.t 8) (kI 1)),zM 3 9] [0,3])))))) (.seq (.reg [zM 24 0,zA 25 (.lens (.t 24)),zA 26 (.bin .eql (.t 25) (kI 4)),zM 2 26] [2]) .ret)))
theorem K.fE:dO pZ 157 1 0 C.fE [.tmp 2]=true:=by kernel_rfl
def C.dR:aO:=(.seq (.reg [qB 2 false] [0]) (.seq (.seq (.reg [qI 3 0] [0,3]) (.block 0 (.loop (.seq (.seq (.reg [zM 4 3,zM 5 0,qL 6 5,zA 7 (.bin .lss (.t 4) (.t 6))] [0,3,7]) (.cond (.t 7) .skip (.exit 0))) (.seq (.block 1 (.seq (.reg [zM 10 0,zM 11 3,qD 12 1 10 11,qF 13 1 12,zA 14 (.bin .neq (.t 13) (.k (.c (.str [42])))),zM 15 14,zG 15 true 16 (.mv (.t 0)),zG 15 true 17 (.mv (.t 3)),zG 15 true 18 (.o6 1 (.t 16) (.t 17)),zG 15 true 19 (.load false 1 (.t 18)),⟨(some (15,true)),some 20,.call 157 [.t 19]⟩,zG 15 true 21 (.not (.t 20)),qP 22 15 21] [0,3,22]) (.cond (.t 22) (.seq (.reg [qB 2 false] [2]) .ret) .skip))) (.reg [zM 8 3,zA 9 (.bin .add (.t 8) (kI 1)),zM 3 9] [0,3])))))) (.seq (.reg [zM 23 0,qL 24 23,zA 25 (.bin .leq (.t 24) (kI 4)),zM 2 25] [2]) .ret)))
theorem K.dR:dO pZ 107 1 0 C.dR [.tmp 2]=true:=by kernel_rfl
def C.gV:aO:=(.seq (.reg [qX 1 10 0,qB 2 false] [1]) (.seq (.reg [qA 3 0 1,qF 4 1 3,⟨none,some 5,.call 106 [.t 4,kI 1,kI 5]⟩,zM 6 5,zG 6 true 7 (.gX 1 (.t 1)),zG 6 true 8 (.load false 1 (.t 7)),⟨(some (6,true)),some 9,.call 105 [.t 8]⟩,qP 10 6 9,zM 11 10,zG 11 true 12 (.gX 2 (.t 1)),zG 11 true 13 (.load false 1 (.t 12)),⟨(some (11,true)),some 14,.call 107 [.t 13]⟩,qP 15 11 14,zM 16 15,zG 16 true 17 (.gX 3 (.t 1)),zG 16 true 18 (.load false 1 (.t 17)),⟨(some (16,true)),some 19,.call 107 [.t 18]⟩,qP 20 16 19,zM 21 20,zG 21 true 22 (.gX 4 (.t 1)),zG 21 true 23 (.load true 5 (.t 22)),⟨(some (21,true)),some 24,.call 53 [.t 23]⟩,qP 25 21 24,zM 26 25,zG 26 true 27 (.gX 9 (.t 1)),zG 26 true 28 (.load false 1 (.t 27)),⟨(some (26,true)),some 29,.call 54 [.t 28]⟩,qP 30 26 29,zM 2 30] [2]) .ret))
theorem K.gV:dO pZ 63 1 0 C.gV [.tmp 2]=true:=by kernel_rfl
def C.kG:aO:=(.seq (.reg [qX 2 10 0,qX 3 11 1,qB 4 false] [2,3]) (.seq (.seq (.reg [qT 7 2 2,q1 8 62 7,qO 9 8,zM 10 9,zG 10 false 11 (.load true 10 (.t 3)),⟨(some (10,false)),some 12,.call 63 [.t 11]⟩,zG 10 false 13 (.not (.t 12)),qQ 14 10 13] [2,3,14]) (.cond (.t 14) (.seq (.reg [qB 4 false] [4]) .ret) .skip)) (.seq (.reg [qT 16 2 2,qT 17 10 3,q2 18 64 16 17,zM 15 18,qE 19 15 0,qE 20 15 1,zA 5 (.alloc 12 [.iL 7,jH 0]),zA 6 (.alloc 13 [jH 0,.c (.str []),jH 0,jH 0,jH 0,.c (.str []),.iL 1,.iL 5]),qS 2 5 19,qS 8 6 20] [6]) (.seq (.reg [qA 21 0 6,qF 22 1 21,zA 23 (.bin .eql (.t 22) (kI 200)),zM 24 23,zG 24 false 25 (.gX 0 (.t 6)),zG 24 false 26 (.load false 1 (.t 25)),zG 24 false 27 (.bin .eql (.t 26) (kI 201)),qQ 28 24 27,zM 4 28] [4]) .ret))))
theorem K.kG:dO pZ 20 2 0 C.kG [.tmp 4]=true:=by kernel_rfl
def C.fU:aO:=(.seq (.reg [qX 2 10 0,qX 3 11 1,qB 4 false] [2,3]) (.seq (.reg [qI 5 1048576] [2,3,5]) (.seq (.reg [qT 10 2 2,zM 11 5,q2 12 18 10 11,zM 5 12] [2,3,5]) (.seq (.seq (.reg [zM 13 5,zA 14 (.bin .lss (.t 13) (kI 0))] [2,3,5,14]) (.cond (.t 14) (.seq (.reg [qB 4 true] [4]) .ret) .skip)) (.seq (.reg [qT 15 10 3,zM 16 5,q2 17 19 15 16,zM 5 17] [2,3,5]) (.seq (.seq (.reg [zM 18 5,zA 19 (.bin .lss (.t 18) (kI 0))] [2,3,19]) (.cond (.t 19) (.seq (.reg [qB 4 true] [4]) .ret) .skip)) (.seq (.kz [(qT 20 2 2,[]),(q1 21 21 20,[0]),(qT 22 10 3,[]),(q1 23 22 22,[0,1,2]),(q2 24 20 21 23,[0,1,2,3]),(zM 6 24,[0,1,2,3,4])] [2,3,6]) (.seq (.reg [qT 25 2 2,q1 26 21 25,zA 7 (.alloc 12 [.iL 7,jH 0]),qS 2 7 26] [2,3,6,7]) (.seq (.reg [qT 27 10 3,q1 28 22 27,zA 8 (.alloc 13 [jH 0,.c (.str []),.iL 1,.iL 1,jH 0,jH 0,.c (.str []),.iL 1,.iL 5,.iL 8]),qS 10 8 28] [2,3,6,7,8]) (.seq (.reg [qT 29 2 7,qT 30 10 8,q2 31 23 29 30,zM 9 31] [2,3,6,7,8,9]) (.seq (.seq (.reg [zM 32 9,zM 33 6,zA 34 (.beq true (.t 32) (.t 33))] [2,3,7,8,34]) (.cond (.t 34) (.seq (.reg [qB 4 false] [4]) .ret) .skip)) (.seq (.seq (.kz [(qT 35 2 7,[]),(qT 36 2 2,[]),(q1 37 21 36,[1]),(q2 38 24 35 37,[0,1,2]),(qO 39 38,[0,1,2,3])] [3,8,39]) (.cond (.t 39) (.seq (.reg [qB 4 false] [4]) .ret) .skip)) (.seq (.seq (.kz [(qT 40 10 8,[]),(qT 41 10 3,[]),(q1 42 22 41,[1]),(q2 43 25 40 42,[0,1,2]),(qO 44 43,[0,1,2,3])] [44]) (.cond (.t 44) (.seq (.reg [qB 4 false] [4]) .ret) .skip)) (.seq (.reg [qB 4 true] [4]) .ret))))))))))))))
theorem K.fU:dO pZ 4 2 0 C.fU [.tmp 4]=true:=by kernel_rfl
end Go.Ab
end
section
namespace Go.Ab
open Go
theorem vO (a b:Nat):Int.tmod (a:Int) (b:Int)=((a%b:Nat):Int):=by
 rw [Int.tmod_eq_emod_of_nonneg (by omega)]; exact (Int.natCast_emod a b).symm
theorem AZ (a b:Nat):Int.tdiv (a:Int) (b:Int)=((a/b:Nat):Int):=by
 rw [Int.tdiv_eq_ediv_of_nonneg (by omega)]; exact (Int.natCast_ediv a b).symm
end Go.Ab
end
section
namespace Go.Ab
open Go
theorem VU:Val nG=true:=by decide
end Go.Ab
end
section
namespace Go.Ab
open Go
structure NO (n:af) (o:jq):Prop where
 node:∃ E,Fine 60 E n
 op:∃ E,D5 60 E o
end Go.Ab
end
section
namespace Go.Ab
open Go
theorem NO.fine {n:af} {o:jq} (h:NO n o):∃ E,Fine 60 E n/\D5 60 E o:=by
 obtain ⟨⟨E,hn⟩,⟨F,ho⟩⟩:=h
 exact ⟨max E F,hn.mono (Nat.le_refl _) (Nat.le_max_left _ _),ho.path,ho.from_,ho.val.mono (Nat.le_refl _) (Nat.le_max_right _ _)⟩
theorem pY {n:af} (h:Val n=true):Fine 60 5 n:=(iW h).mono (by omega) (Nat.le_refl _)
theorem Xf {p:Prop} (x:p:=by
 repeat' first
 | assumption
 | exact Ev.ret _
 | refine Ev.ct rfl ?_
 | refine Ev.cf rfl ?_
 | refine Ev.bind (by assumption) ?_
 | refine Ev.ite (fun _ => ?_) (fun _ => ?_)):p:=x
noncomputable def wZ (n:af) (l:List jq):Option af:=if Val n&&wY l then AO n l else none
theorem RS {l:List jq} : ∀ {n m:af},Val n=true->AO n l=some m->Val m=true:=by
  induction l with
  | nil=>intro n m hn h; cases h; exact hn
  | cons o r ih =>
    intro n m hn h
    rw [AO] at h
    cases ha:qW n o with
    | none=>rw [ha] at h; cases h
    | some k=>rw [ha] at h; exact ih (applied ha).vm h
theorem Oz {l:List jq} (h:wY l=true):zB l:=by
 obtain ⟨h1,h2⟩:=Ar h
 exact ⟨by omega,fun o ho=>⟨5,(ni (tX (h1 o ho)).path).mono (by omega),(ni (tX (h1 o ho)).from_).mono (by omega),(iW (tX (h1 o ho)).val).mono (by omega) (Nat.le_refl _)⟩⟩
theorem T.aT.L1 {l:List jq} (h:zB l):∀ (k i:Nat),i+k=l.length->Ev (fun f=>G.aT.L1 f l i) ((l.drop i).all FC):=by
  obtain ⟨hl,ho⟩:=h
  intro k
  induction k with
  | zero =>
    intro i hi
    refine Ev.up ?_
    simp only [G.aT.L1]
    refine Ev.cf (by simp; omega) (Ev.ret' ?_)
    rw [List.drop_of_length_le (by omega)]; rfl
  | succ k ih =>
    intro i hi
    have hlt:i<l.length:=by omega
    refine Ev.up ?_
    simp only [G.aT.L1,Int.toNat_natCast,jq.eta,aV (show i+1<9223372036854775808 by omega)]
    obtain ⟨E,hf⟩:=ho _ (getD_mem default hlt)
    refine Ev.ct (by simpa using hlt) (Ev.chk (by omega) (Ev.bind (T.kV qK hf) ?_))
    rw [bg (default:jq) hlt,List.all_cons]
    refine Ev.ite (fun e => ?_) (fun e => ?_)
    · rw [e,Bool.true_and]; exact ih (i+1) (by omega)
    · rw [e,Bool.false_and]; exact Ev.ret _
theorem T.aT {l:List jq} (h:zB l):Ev (fun f=>G.aT f l) (wY l):=by
 refine Ev.up ?_
 simp only [G.aT]
 have hL:=T.aT.L1 h l.length 0 (by omega)
 unfold wY
 refine Ev.ite (fun e=>Ev.ret' ?_) (fun e => ?_)
 ·have:¬ l.length<=12:=by simp at e; omega
  simp [this]
 ·have:l.length<=12:=by simp at e; omega
  simp only [this,decide_true,Bool.and_true]
  exact hL
theorem T.jk {B E:Nat} {n:af} {l:List jq} (hB:B<=lim) (hn:Fine B E n) (hl:zB l):Ev (fun f=>G.jk f n l) (iV (wZ n l)):=by
  refine Ev.up ?_
  simp only [G.jk]
  unfold wZ
  refine Ev.bind (T.aC hB hn) (Ev.ite (fun e1 => ?_) (fun e1=>Ev.ret' (by rw [e1]; rfl)))
  refine Ev.bind (T.aT hl) (Ev.ite (fun e2 => ?_) (fun e2=>Ev.ret' (by rw [e1,e2]; rfl)))
  refine Ev.bind (T.dY e1 e2) (Ev.ret' ?_)
  rw [e1,e2,if_pos (by rfl)]
  unfold Pj
  cases hr:AO n l with
  | some m=>simp [iV]
  | none =>
    have h1:¬ vk n l=l.length:=fun e=>by have:=Gn.1 e; rw [hr] at this; cases this
    simp only [Nat.zero_add,iV]
    rw [ilen]
    simp [h1]
theorem T.dF.L1 {l:List jq} (h:wY l=true):∀ (k i:Nat) (n:af),i+k=l.length->Val n=true ->
    Ev (fun f=>G.dF.L1 f l i n.Kind n.Num n.Text n.Names n.Kids) (iV (AO n (l.drop i))):=by
  obtain ⟨ho,hl⟩:=Ar h
  intro k
  induction k with
  | zero =>
    intro i n hi hn
    refine Ev.up ?_
    simp only [G.dF.L1,af.eta]
    refine Ev.cf (by simp; omega) (Ev.ret' ?_)
    rw [List.drop_of_length_le (by omega)]; rfl
  | succ k ih =>
    intro i n hi hn
    have hlt:i<l.length:=by omega
    refine Ev.up ?_
    simp only [G.dF.L1,Int.toNat_natCast,jq.eta,af.eta,aV (show i+1<9223372036854775808 by omega)]
    have hv:=ho _ (getD_mem default hlt)
    refine Ev.ct (by simpa using hlt) (Ev.chk (by omega) (Ev.bind (Ea hn hv) ?_))
    rw [bg (default:jq) hlt,AO]
    cases ha:qW n (l.getD i default) with
    | none=>exact Ev.cf rfl (Ev.ret' rfl)
    | some m=>exact Ev.ct rfl (ih (i+1) m (by omega) (applied ha).vm)
theorem T.dF {B E:Nat} {n:af} {l:List jq} (hB:B<=lim) (hn:Fine B E n) (hl:zB l):Ev (fun f=>G.dF f n l) (iV (wZ n l)):=by
 refine Ev.up ?_
 simp only [G.dF]
 unfold wZ
 refine Ev.bind (T.bD hB hn) (Ev.ite (fun e1 => ?_) (fun e1=>Ev.ret' (by rw [e1]; rfl)))
 refine Ev.bind (T.bf hl) (Ev.ite (fun e2 => ?_) (fun e2=>Ev.ret' (by rw [e1,e2]; rfl)))
 rw [e1,e2,if_pos (by rfl)]
 exact Ev.bind (T.ay qJ (iW e1)) (T.dF.L1 e2 l.length 0 n (by omega) e1)
end Go.Ab
end
section
namespace Go.Ab
open Go
set_option maxRecDepth 100000
theorem DY {x:aS} {l:List aS} (h:Asc l=true) (hx:∀ y,y∈l->bl x y=true):Asc (x::l)=true:=by
 cases l with
 | nil=>rfl
 | cons y l=>rw [Asc,h,Bool.and_true]; exact hx y (by simp)
end Go.Ab
end
section
namespace Go.Ab
open Go
set_option maxRecDepth 100000
def lk (n:af) (s:aS):Option af:=(rG n s).map fun j=>n.Kids.getD j default
theorem Aj {n:af} (h:Parts n=true) (hk:n.Kind=4):uD n/\n.Names.length<=6/\∀ s,s∈n.Names->s.length<=12:=by
 obtain ⟨_,_,hN,hl,hkl⟩:=oL h hk
 exact ⟨⟨hk,zf hN,hkl⟩,hl,fun s hs=>EM (Md hN s hs)⟩
theorem Q8 {n:af} (h:uD n) {s:aS} : (lk n s).isSome=true<->s∈n.Names:=by
  unfold lk
  rw [Option.isSome_map]
  constructor
  · intro hs
    obtain ⟨j,hj⟩:=Option.isSome_iff_exists.1 hs
    obtain ⟨h1,h2,_⟩:=xI.1 hj
    rw [rW h.kind,beq_iff_eq] at h2
    rw [<- h2]
    exact getD_mem default (by rw [<- h.len]; exact h1)
  · intro hs
    cases hp:rG n s with
    | some j=>rfl
    | none =>
      obtain ⟨i,hi,e⟩:=List.mem_iff_getElem.1 hs
      have:=Aw.1 hp i (by rw [h.len]; exact hi)
      rw [rW h.kind,bF default hi,e] at this
      simp at this
theorem L6 {n x:af} {s:aS} (h:lk n s=some x):x∈n.Kids:=by
 unfold lk at h
 obtain ⟨j,hj,rfl⟩:=Option.map_eq_some_iff.1 h
 exact getD_mem default (nX hj)
theorem Ai {n:af} (h:uD n) {s:aS} : lk n s=none<->s ∉ n.Names:=by
 rw [<- Q8 h]; cases lk n s<;>simp
theorem Jj:∀ {l:List aS} (i:Nat),Asc l=true->Asc (l.drop i)=true
 | l,0,h=>by simpa using h
 | [],i+1,_=>rfl
 | x::l,i+1,h=>Jj (l:=l) i (tY h)
open Classical in
noncomputable def mn (F:af->af->af->Option af) (o a b:af) (s:aS):Option (Option af) :=
 match lk a s,lk b s,lk o s with
 | some x,some y,some z=>(F z x y).map some
 | some x,some y,none=>if x=y then some (some x) else none
 | some x,none,none=>some (some x)
 | none,some y,none=>some (some y)
 | some x,none,some z=>if x=z then some none else none
 | none,some y,some z=>if y=z then some none else none
 | none,none,_=>some none
def Wj:af:=af.mk 4 0 [] [] []
end Go.Ab
end
section
namespace Go.Ab
open Go
set_option maxRecDepth 100000
theorem vF {n:af} (h:uD n) {r:aS} {k:af} : lk n r=some k<->(r,k)∈n.Names.zip n.Kids:=by
 have at_:∀ j,j<n.Names.length->(n.Names.getD j default,n.Kids.getD j default)∈n.Names.zip n.Kids:=fun j hj=>by
  have hk:j<n.Kids.length:=by rw [h.len]; exact hj
  rw [bF _ hj,bF _ hk]
  exact List.mem_iff_getElem.2 ⟨j,by simp; omega,by simp⟩
 constructor
 ·intro e
  unfold lk at e
  obtain ⟨j,hj,rfl⟩:=Option.map_eq_some_iff.1 e
  obtain ⟨h1,h2,_⟩:=xI.1 hj
  rw [rW h.kind,beq_iff_eq] at h2
  rw [<- h2]
  exact at_ j (by rw [<- h.len]; exact h1)
 ·intro e
  obtain ⟨j,hj,e⟩:=List.mem_iff_getElem.1 e
  have hj1:j<n.Names.length:=by simp at hj; omega
  have hj2:j<n.Kids.length:=by simp at hj; omega
  simp only [List.getElem_zip,Prod.mk.injEq] at e
  obtain ⟨e1,e2⟩:=e
  have hp:rG n r=some j:=by
   rw [xI]
   refine ⟨hj2,by rw [rW h.kind,bF _ hj1,e1]; simp,fun q hq => ?_⟩
   rw [rW h.kind]
   have:=uy (rZ h.Be q j hq hj1)
   rw [bF _ hj1,e1] at this
   simpa using this
  unfold lk
  rw [hp,Option.map_some,bF _ hj2,e2]
theorem UB {α β:Type} {a:List α} {b:List β} {p:Nat} {x:α} {y:β} (h:a.length=b.length):(insL a p x).zip (insL b p y)=insL (a.zip b) p (x,y):=by
 unfold insL
 rw [List.zip_append (by simp [h]),List.zip_append (by simp [h])]
 have e1:(a.zip b).take p=(a.take p).zip (b.take p):=by rw [List.zip,List.take_zipWith]
 have e2:(a.zip b).drop p=(a.drop p).zip (b.drop p):=by rw [List.zip,List.drop_zipWith]
 rw [e1,e2]
 rfl
theorem Ih {α:Type} {l:List α} {p:Nat} {x y:α} : y∈insL l p x<->y=x\/y∈l:=by
 unfold insL
 rw [List.mem_append,List.mem_append,List.mem_singleton]
 have:=List.take_append_drop p l
 constructor
 ·rintro ((h | h) | h)
  ·exact .inr (List.mem_of_mem_take h)
  ·exact .inl h
  ·exact .inr (List.mem_of_mem_drop h)
 ·rintro (h | h)
  ·exact .inl (.inr h)
  ·rw [<- this,List.mem_append] at h
   rcases h with h | h
   ·exact .inl (.inl h)
   ·exact .inr h
theorem Qe {n v:af} {s:aS} (h:uD n) (hs:s ∉ n.Names):∃ m,addN n s v=some m/\m.Kind=4/\m.Num=0/\m.Text=[]/\m.Kids.length=m.Names.length/\∀ r k,(r,k)∈m.Names.zip m.Kids<->(r,k)=(s,v)\/(r,k)∈n.Names.zip n.Kids:=by
 have hp:rG n s=none:=by
  have:=(Ai h).2 hs
  unfold lk at this
  simpa using this
 have hk:=h.kind
 refine ⟨af.mk 4 0 [] (insL n.Names (slt n s) s) (insL n.Kids (slt n s) v),?_,rfl,rfl,rfl,?_,fun r k => ?_⟩
 ·unfold addN
  rw [hp]
  simp only [hk,if_true,show ¬ ((4:Int)=3) by decide,if_false]
 ·show (insL n.Kids _ v).length=(insL n.Names _ s).length
  have:=h.len
  unfold insL
  simp; omega
 ·show (r,k)∈(insL n.Names (slt n s) s).zip (insL n.Kids (slt n s) v)<->_
  rw [UB h.len.symm,Ih]
theorem Jl:∀ {l:List aS} (i:Nat),Asc l=true->Asc (l.take i)=true
  | _,0,_=>by simp [Asc]
  | [],i+1,_=>rfl
  | x::l,i+1,h=>by
    rw [List.take_succ_cons]
    exact DY (Jl i (tY h)) (fun y hy=>uQ h y (List.mem_of_mem_take hy))
theorem Ug {n m v:af} {s:aS} (h:uD n) (hs:s ∉ n.Names) (hm:addN n s v=some m):Asc m.Names=true:=by
  have hp:rG n s=none:=by
    have:=(Ai h).2 hs
    unfold lk at this
    simpa using this
  have hk:=h.kind
  unfold addN at hm
  rw [hp] at hm
  simp only [hk,if_true,show ¬ ((4:Int)=3) by decide,if_false,Option.some.injEq] at hm
  subst hm
  show Asc (insL n.Names (slt n s) s)=true
  have hle:=MO n s
  have hl:=h.len
  have before:∀ i,i<slt n s->bl (n.Names.getD i default) s=true:=fun i hi=>by
    have h1:bl s (n.Names.getD i default)=false:=by
      unfold slt at hi
      cases hf:(List.range' 0 n.Kids.length).find? fun i=>bl s (n.Names.getD i default) with
      | none =>
        rw [hf] at hi
        exact xZ.1 hf i (by omega) (by simpa using hi)
      | some j =>
        rw [hf] at hi
        exact (tV.1 hf).2.2.2 i (by omega) hi
    cases h2:bl (n.Names.getD i default) s with
    | true=>rfl
    | false=>exact absurd (getD_mem default (by omega:i<n.Names.length)) (by rw [xm h2 h1]; exact hs)
  have behind:∀ i,slt n s<=i->i<n.Names.length->bl s (n.Names.getD i default)=true:=fun i h1 h2=>by
    have h3:slt n s<n.Kids.length:=by omega
    have h4:bl s (n.Names.getD (slt n s) default)=true:=by
      unfold slt at h3 ⊢
      cases hf:(List.range' 0 n.Kids.length).find? fun i=>bl s (n.Names.getD i default) with
      | none=>rw [hf] at h3; simp at h3
      | some j=>exact (tV.1 hf).2.2.1
    by_cases e:slt n s=i
    · rw [<- e]; exact h4
    · exact pI h4 (rZ h.Be (slt n s) i (by omega) h2)
  generalize slt n s=p at *
  unfold insL
  have key:∀ (A S:List aS),Asc A=true->Asc S=true->(∀ x,x∈A->bl x s=true)->(∀ y,y∈S->bl s y=true)->Asc ((A++[s])++S)=true:=by
    intro A
    induction A with
    | nil=>intro S _ hS _ h2; exact DY hS h2
    | cons a A ih =>
      intro S hA hS h1 h2
      rw [List.cons_append,List.cons_append]
      refine DY (ih S (tY hA) hS (fun x hx=>h1 x (by simp [hx])) h2) (fun y hy => ?_)
      rcases List.mem_append.1 hy with hy | hy
      · rcases List.mem_append.1 hy with hy | hy
        · exact uQ hA y hy
        · rw [List.mem_singleton] at hy; subst hy; exact h1 a (by simp)
      · exact pI (h1 a (by simp)) (h2 y hy)
  refine key _ _ (Jl p h.Be) (Jj p h.Be) (fun x hx => ?_) (fun y hy => ?_)
  · obtain ⟨i,hi,e⟩:=List.mem_iff_getElem.1 hx
    have hi2:i<p/\i<n.Names.length:=by simp at hi; omega
    have:=before i hi2.1
    rw [bF _ hi2.2] at this
    rw [<- e]; simpa using this
  · obtain ⟨i,hi,e⟩:=List.mem_iff_getElem.1 hy
    have hi2:p+i<n.Names.length:=by simp at hi; omega
    have:=behind (p+i) (by omega) hi2
    rw [bF _ hi2] at this
    rw [<- e]; simpa using this
end Go.Ab
end
section
namespace Go.Ab
open Go
set_option maxRecDepth 100000
theorem RJ {n c:af} {j:Nat} (s:aS):rG (uk n j c) s=rG n s:=by
 unfold rG
 have e:(uk n j c).Kids.length=n.Kids.length:=by simp [uk]
 rw [e]
 rfl
theorem Q3 {n c:af} {j:Nat} (h:j<n.Kids.length):(uk n j c).Kids.getD j default=c:=by
 simp [uk,List.getD,h]
end Go.Ab
end
section
namespace Go.Ab
open Go
set_option maxRecDepth 100000
abbrev N2 (x:af × af):Prop:=I8 60 x.1/\I8 60 x.2
end Go.Ab
end
section
namespace Go.Ab
open Go
set_option maxRecDepth 100000
theorem WH {n:af} (h:Parts n=true) (hk:n.Kind=4):Mp n:=⟨(Aj h hk).1,(oL h hk).1,(oL h hk).2.1⟩
theorem VF {m x:af} {s:aS} (h:lk m s=some x):∃ j,rG m s=some j/\m.Kids.getD j default=x:=by
 unfold lk at h
 exact Option.map_eq_some_iff.1 h
theorem WE {m:af} (h:uD m) {i:Nat} (hi:i<m.Kids.length):lk m (m.Names.getD i default)=some (m.Kids.getD i default):=by
 have hi':i<m.Names.length:=by rw [<- h.len]; exact hi
 rw [vF h,bF _ hi,bF _ hi']
 exact List.mem_iff_getElem.2 ⟨i,by simp; omega,by simp⟩
theorem JV {m:af} (h:uD m) {i j:Nat} (hi:i<m.Names.length) (hj:j<m.Names.length) (e:m.Names.getD i default=m.Names.getD j default):i=j:=by
 rcases Nat.lt_trichotomy i j with k | k | k
 ·exact absurd e (uy (rZ h.Be i j k hj))
 ·exact k
 ·exact absurd e.symm (uy (rZ h.Be j i k hi))
theorem Uh {m y:af} {s:aS} {j:Nat} (h:uD m) (hj:rG m s=some j) (r:aS):lk (uk m j y) r=if r=s then some y else lk m r:=by
  unfold lk
  rw [RJ]
  by_cases e:r=s
  · subst e
    rw [if_pos rfl,hj,Option.map_some,Q3 (nX hj)]
  · rw [if_neg e]
    cases hr:rG m r with
    | none=>rfl
    | some i =>
      have hne:j ≠ i:=fun e2=>by
        subst e2
        have a:=yh hj
        have b:=yh hr
        rw [rW h.kind,beq_iff_eq] at a b
        exact e (b.symm.trans a)
      simp [uk,List.getD,List.getElem?_set,hne]
theorem Ui {m y:af} {j:Nat} (h:Mp m):Mp (uk m j y):=⟨⟨h.map.kind,h.map.Be,by show (m.Kids.set j y).length=m.Names.length; rw [List.length_set]; exact h.map.len⟩,h.num,h.text⟩
theorem O4 {α:Type} {l:List α} {k:Nat} {y:α} : y∈mZ l k<->∃ i,∃ h:i<l.length,i ≠ k/\l[i]=y:=by
 unfold mZ
 rw [List.mem_append,List.mem_take_iff_getElem,List.mem_drop_iff_getElem]
 constructor
 ·rintro (⟨i,h,e⟩ | ⟨i,h,e⟩)
  ·exact ⟨i,by omega,by omega,e⟩
  ·exact ⟨k+1+i,by omega,by omega,e⟩
 ·rintro ⟨i,h,hk,e⟩
  by_cases c:i<k
  ·exact .inl ⟨i,by omega,e⟩
  ·refine .inr ⟨i-(k+1),by omega,?_⟩
   have:k+1+(i-(k+1))=i:=by omega
   simp only [this]; exact e
theorem PZ {α β:Type} {a:List α} {b:List β} {k:Nat} (h:a.length=b.length):(mZ a k).zip (mZ b k)=mZ (a.zip b) k:=by
 unfold mZ
 rw [List.zip_append (by simp [h])]
 have e1:(a.zip b).take k=(a.take k).zip (b.take k):=by rw [List.zip,List.take_zipWith]
 have e2:(a.zip b).drop (k+1)=(a.drop (k+1)).zip (b.drop (k+1)):=by rw [List.zip,List.drop_zipWith]
 rw [e1,e2]
theorem VQ {m:af} {s:aS} (h:uD m) (hs:s∈m.Names):∃ m',rE m s=some m'/\Mp m'/\∀ r,lk m' r=if r=s then none else lk m r:=by
 obtain ⟨x,hx⟩:=Option.isSome_iff_exists.1 ((Q8 h).2 hs)
 obtain ⟨j,hj,_⟩:=VF hx
 obtain ⟨hjl,hjh,_⟩:=xI.1 hj
 rw [rW h.kind,beq_iff_eq] at hjh
 have hjn:j<m.Names.length:=by rw [<- h.len]; exact hjl
 have hM:uD (af.mk 4 0 [] (mZ m.Names j) (mZ m.Kids j)):=by
  refine ⟨rfl,rq.2 ((rq.1 h.Be).sublist (pR _ _)),?_⟩
  show (mZ m.Kids j).length=(mZ m.Names j).length
  rw [rU hjl,rU hjn,h.len]
 refine ⟨_,?_,⟨hM,rfl,rfl⟩,fun r => ?_⟩
 ·unfold rE
  rw [hj]
  simp only [h.kind,if_true]
 ·apply Option.ext
  intro x
  rw [vF hM]
  show (r,x)∈(mZ m.Names j).zip (mZ m.Kids j)<->_
  rw [PZ h.len.symm,O4]
  by_cases e:r=s
  ·rw [if_pos e]
   constructor
   ·rintro ⟨i,hi,hne,e2⟩
    have l1:i<m.Names.length:=by simp at hi; omega
    rw [List.getElem_zip,Prod.mk.injEq] at e2
    refine absurd (JV h l1 hjn ?_) hne
    rw [bF _ l1,e2.1,hjh,e]
   ·intro e2; cases e2
  ·rw [if_neg e,vF h,List.mem_iff_getElem]
   constructor
   ·rintro ⟨i,hi,_,e2⟩
    exact ⟨i,hi,e2⟩
   ·rintro ⟨i,hi,e2⟩
    refine ⟨i,hi,fun c => ?_,e2⟩
    subst c
    rw [List.getElem_zip,Prod.mk.injEq] at e2
    rw [bF _ hjn,e2.1] at hjh
    exact e hjh
theorem Vf {m v:af} {s:aS} (h:uD m) (hs:s ∉ m.Names):∃ m',addN m s v=some m'/\Mp m'/\∀ r,lk m' r=if r=s then some v else lk m r:=by
 obtain ⟨m',e,k1,k2,k3,k4,k5⟩:=Qe (v:=v) h hs
 have hM:uD m':=⟨k1,Ug h hs e,k4⟩
 refine ⟨m',e,⟨hM,k2,k3⟩,fun r => ?_⟩
 apply Option.ext
 intro x
 rw [vF hM,k5]
 by_cases c:r=s
 ·rw [if_pos c]
  constructor
  ·rintro (q | q)
   ·rw [Prod.mk.injEq] at q; rw [q.2]
   ·have:=(Ai h).2 hs
    rw [<- vF h,c,this] at q
    cases q
  ·intro q; cases q; exact .inl (by rw [c])
 ·rw [if_neg c,vF h]
  constructor
  ·rintro (q | q)
   ·rw [Prod.mk.injEq] at q; exact absurd q.1 c
   ·exact q
  ·exact .inr
theorem uM {l:List aS} {i:Nat} (h:i<l.length) {r:aS} : r∈l.take (i+1)<->r∈l.take i\/r=l.getD i default:=by
 rw [List.take_succ_eq_append_getElem h,List.mem_append,List.mem_singleton,bF _ h]
theorem RD {m:af} (h:uD m) {i:Nat} (hi:i<m.Names.length):m.Names.getD i default ∉ m.Names.take i:=by
 intro c
 obtain ⟨j,hj,e⟩:=List.mem_take_iff_getElem.1 c
 have hj':j<m.Names.length:=by omega
 have:=JV h hj' hi (by rw [bF _ hj']; exact e)
 omega
end Go.Ab
end
section
namespace Go.Ab
open Go
set_option maxRecDepth 100000
set_option linter.unusedSectionVars false
theorem T.bs {n:af} (s:aS) (h:uD n) (hl:n.Names.length<=1000):∃ p:Nat,Ev (fun f=>G.slices_BinarySearch_string f n.Names s) ((p:Int),(rG n s).isSome)/\∀ j,rG n s=some j->p=j:=by
  obtain ⟨p,g,hp⟩:=T.slices_BinarySearch_string s (by unfold big; omega) h.Be
  have hpl:=Iy h.kind h.Be h.len hp
  cases hc:decide (p<n.Names.length)&&n.Names.getD p default==s with
  | true =>
    rw [hc] at g hpl
    rw [if_pos rfl] at hpl
    refine ⟨p,by rw [hpl]; exact g,fun j hj => ?_⟩
    rw [hpl] at hj
    exact Option.some.inj hj
  | false =>
    rw [hc] at g hpl
    rw [if_neg (by simp)] at hpl
    refine ⟨p,by rw [hpl]; exact g,fun j hj => ?_⟩
    rw [hpl] at hj
    cases hj
end Go.Ab
end
section
namespace Go.Ab
open Go
set_option maxRecDepth 100000
theorem N2.fine {x:af × af} (h:N2 x):∃ D E,Fine 60 D x.1/\Fine 60 E x.2:=by
 obtain ⟨⟨D,h1⟩,⟨E,h2⟩⟩:=h
 exact ⟨D,E,h1,h2⟩
end Go.Ab
end
section
namespace Go.Ab
open Go
set_option maxRecDepth 100000
set_option linter.unusedSectionVars false
theorem MF.fine {D c:Nat} {m:af} (h:MF D c m) (hc:c<=12):Fine 12 (D+1) m:=by
 have h1:=h.cnt
 have h2:=h.mp.map.len
 exact ⟨by rw [h.mp.text]; simp,by omega,h.sh,by omega,fun _=>by omega,h.kid⟩
theorem LY {α:Type} {l:List α} {k:Nat} {v:α} (h:k<=l.length):(insL l k v).length=l.length+1:=by unfold insL; simp; omega
theorem GL {m v:af} {s:aS} {j:Nat} (h:uD m) (hj:rG m s=some j):addN m s v=some (uk m j v):=by
 unfold addN
 rw [hj]
 simp [h.kind]
theorem Je {m v:af} {s:aS} (h:uD m) (hj:rG m s=none):addN m s v=some (af.mk 4 0 [] (insL m.Names (slt m s) s) (insL m.Kids (slt m s) v)):=by
 unfold addN
 rw [hj]
 simp [h.kind]
theorem Iz {m:af} {s:aS} (h:uD m):rG m s=none<->s ∉ m.Names:=by
 rw [<- Ai h]
 unfold lk
 simp
theorem VI {D c:Nat} {m v:af} {s:aS} (h:MF D c m) (hs:s.length<=12) (hv:Fine 12 D v) :
    ∃ m',addN m s v=some m'/\MF D (c+1) m'/\∀ r,lk m' r=if r=s then some v else lk m r:=by
  cases hj:rG m s with
  | some j =>
    refine ⟨uk m j v,GL h.mp.map hj,⟨Ui h.mp,Nat.le_succ_of_le h.cnt,h.sh,fun k hk => ?_⟩,Uh h.mp.map hj⟩
    rcases List.mem_or_eq_of_mem_set hk with q | q
    · exact h.kid k q
    · exact q ▸ hv
  | none =>
    obtain ⟨m',e,g1,g2⟩:=Vf (v:=v) h.mp.map ((Iz h.mp.map).1 hj)
    refine ⟨m',e,?_,g2⟩
    rw [Je h.mp.map hj,Option.some.injEq] at e
    subst e
    have hsl:=MO m s
    have hl:=h.mp.map.len
    refine ⟨g1,?_,fun t ht => ?_,fun k hk => ?_⟩
    · show (insL m.Names (slt m s) s).length<=_
      rw [LY (by omega)]
      have:=h.cnt
      omega
    · rcases Ih.1 ht with q | q
      · exact q ▸ hs
      · exact h.sh t q
    · rcases Ih.1 hk with q | q
      · exact q ▸ hv
      · exact h.kid k q
theorem VJ {D c:Nat} {m:af} {s:aS} (h:MF D c m):MF D c ((rE m s).getD m)/\∀ r,lk ((rE m s).getD m) r=if r=s then none else lk m r:=by
  cases hj:rG m s with
  | none =>
    have:rE m s=none:=by unfold rE; rw [hj]
    rw [this]
    refine ⟨h,fun r => ?_⟩
    by_cases c:r=s
    · rw [if_pos c,c]
      exact (Ai h.mp.map).2 ((Iz h.mp.map).1 hj)
    · rw [if_neg c]; rfl
  | some j =>
    have hs:s∈m.Names:=by
      apply Classical.byContradiction
      intro q
      rw [(Iz h.mp.map).2 q] at hj
      cases hj
    obtain ⟨m',e,g1,g2⟩:=VQ h.mp.map hs
    rw [e]
    refine ⟨?_,g2⟩
    unfold rE at e
    rw [hj] at e
    simp only [h.mp.map.kind,if_true,Option.some.injEq] at e
    subst e
    have hjl:=nX hj
    refine ⟨g1,?_,fun t ht=>h.sh t ((pR _ _).subset ht),fun k hk=>h.kid k ((pR _ _).subset hk)⟩
    show (mZ m.Names j).length<=c
    have:=h.mp.map.len
    rw [rU (by omega)]
    have:=h.cnt
    omega
theorem T.MG {n v:af} (s:aS) (h:Mp n) (hn:n.Names.length<=1000):∃ m,addN n s v=some m/\Ev (fun f=>G.iO f n s v) m:=by
  have hk:=h.map.kind
  have hkl:=h.map.len
  obtain ⟨p,g,hlb⟩:=T.slices_BinarySearch_string s (by unfold big; omega) h.map.Be
  have hpl:=Iy hk h.map.Be hkl hlb
  have Ws:=hlb.le
  cases hc:decide (p<n.Names.length)&&n.Names.getD p default==s with
  | true =>
    rw [hc,if_pos rfl] at hpl
    refine ⟨uk n p v,GL h.map hpl,Ev.up ?_⟩
    simp only [G.iO]
    have:=nX hpl
    refine Ev.bind g (Ev.ct hc (Ev.chk (by omega) (Ev.ret' ?_)))
    rw [Int.toNat_natCast]; rfl
  | false =>
    rw [hc,if_neg (by simp)] at hpl
    have hsl:=Si h.map.Be hkl hlb hc
    refine ⟨af.mk 4 0 [] (insL n.Names p s) (insL n.Kids p v),by rw [Je h.map hpl,hsl],Ev.up ?_⟩
    simp only [G.iO]
    refine Ev.bind g (Ev.cf hc ?_)
    have i1:Ev (fun f=>G.dQ f n.Names (p:Int) [s]) (insL n.Names p s):=by
      refine Ev.up ?_
      simp only [G.dQ]
      refine Ev.chk (by simp; omega) (Ev.ret' ?_)
      rw [Int.toNat_natCast]; rfl
    have i2:Ev (fun f=>G.bI f n.Kids (p:Int) [v]) (insL n.Kids p v):=by
      refine Ev.up ?_
      simp only [G.bI]
      refine Ev.chk (by simp; omega) (Ev.ret' ?_)
      rw [Int.toNat_natCast]; rfl
    exact Ev.bind i1 (Ev.bind i2 (Ev.ret' (by rw [h.num,h.text,hk])))
theorem T.Qv {n:af} (s:aS) (h:Mp n) (hn:n.Names.length<=1000):Ev (fun f=>G.lJ f n s) ((rE n s).getD n):=by
  have hkl:=h.map.len
  obtain ⟨p,g,hp⟩:=T.bs s h.map hn
  refine Ev.up ?_
  simp only [G.lJ]
  refine Ev.bind g ?_
  unfold rE
  cases hj:rG n s with
  | none=>exact Ev.cf rfl (Ev.ret _)
  | some j =>
    have e:=hp j hj
    subst e
    have hpl:=nX hj
    simp only [aV (show p+1<9223372036854775808 by omega)]
    have d1:Ev (fun f=>G.bU f n.Kids (p:Int) ((p+1:Nat):Int)) (mZ n.Kids p):=by
      refine Ev.up ?_
      simp only [G.bU,Int.toNat_natCast]
      exact Ev.chk (by omega) (Ev.ret _)
    have d2:Ev (fun f=>G.slices_Delete_string f n.Names (p:Int) ((p+1:Nat):Int)) (mZ n.Names p):=by
      refine Ev.up ?_
      simp only [G.slices_Delete_string,Int.toNat_natCast]
      exact Ev.chk (by omega) (Ev.ret _)
    refine Ev.ct rfl (Ev.bind d2 (Ev.bind d1 (Ev.ret' ?_)))
    simp [h.map.kind,h.num,h.text]
def J5 (m:af) (s:aS) (v:af):af:=(addN m s v).getD m
theorem VH {D:Nat} : MF D 0 Wj:=⟨⟨⟨rfl,rfl,rfl⟩,rfl,rfl⟩,Nat.le_refl _,(fun s hs=>by cases hs),(fun k hk=>by cases hk)⟩
theorem Nw {d:Nat} {a:af} (h:Shape (d+1) a=true) (hk:a.Kind=4):MS d a:=by
 obtain ⟨_,h2,h3⟩:=Aj (jG h) hk
 exact ⟨WH (jG h) hk,h,h2,h3⟩
theorem MS.mf {d:Nat} {a:af} (h:MS d a):MF d 6 a:=⟨h.mp,h.len,h.txt,fun k hk=>nR (kY h.sh k hk)⟩
theorem Ak {D E c e:Nat} {m:af} (h:MF D c m) (hD:D<=E) (hc:c<=e):MF E e m:=⟨h.mp,Nat.le_trans h.cnt hc,h.sh,fun k hk=>(h.kid k hk).mono (Nat.le_refl _) hD⟩
theorem MH {D c:Nat} {m v:af} {s:aS} (h:MF D c m) (hs:s.length<=12) (hv:Fine 12 D v):addN m s v=some (J5 m s v)/\MF D (c+1) (J5 m s v)/\∀ r,lk (J5 m s v) r=if r=s then some v else lk m r:=by
 obtain ⟨m',e,h1,h2⟩:=VI h hs hv
 have:J5 m s v=m':=by unfold J5; rw [e]; rfl
 rw [this]
 exact ⟨e,h1,h2⟩
theorem vZ (k:Nat):List.range' 0 (k+1)=List.range' 0 k++[k]:=by rw [List.range'_concat]; simp
theorem BV {a:af} (h:uD a) {i:Nat} (hi:i<a.Kids.length):a.Names.getD i default ∉ a.Names.take i:=RD h (by rw [<- h.len]; exact hi)
def Dp (F:af->af->af) (p m:af) (i:Nat):af :=
 if (p.Kids.getD i default).Kind=0 then (rE m (p.Names.getD i default)).getD m else J5 m (p.Names.getD i default) (F ((lk m (p.Names.getD i default)).getD nG) (p.Kids.getD i default))
def Bl (n:af):af:=if n.Kind=4 then n else Wj
def x9:Nat->af->af->af
 | 0,_,p=>p
 | d+1,n,p=>if p.Kind=4 then (List.range' 0 p.Kids.length).foldl (Dp (x9 d) p) (Bl n) else p
theorem EJ {d:Nat} {n p:af} : x9 (d+1) n p=if p.Kind=4 then (List.range' 0 p.Kids.length).foldl (Dp (x9 d) p) (Bl n) else p:=by rw [x9]
def VK (F:af->af->af) (n0 p:af) (r:aS):Option af:=match lk p r with
 | none=>lk n0 r
 | some q=>if q.Kind=0 then none else some (F ((lk n0 r).getD nG) q)
theorem BQ {d D c:Nat} {n0 p:af} {F:af->af->af} (mp:MS d p) (h0:MF D c n0) {Q:af->Prop} (hQ:Q nG) (hq:∀ k,k∈n0.Kids->Q k) (hF:∀ o q,Q o->Shape d q=true->Fine 12 D (F o q)) :
    ∀ i,i<=p.Kids.length->MF D (c+i) ((List.range' 0 i).foldl (Dp F p) n0)/\∀ r,lk ((List.range' 0 i).foldl (Dp F p) n0) r=if r∈p.Names.take i then VK F n0 p r else lk n0 r:=by
  intro i
  induction i with
  | zero=>intro _; exact ⟨h0,fun r=>by simp⟩
  | succ i ih =>
    intro hi
    obtain ⟨h1,h2⟩:=ih (by omega)
    have hi':i<p.Kids.length:=by omega
    have hin:i<p.Names.length:=by rw [<- mp.mp.map.len]; exact hi'
    have hx:=WE mp.mp.map hi'
    have hnt:=BV mp.mp.map hi'
    rw [vZ,List.foldl_append,List.foldl_cons,List.foldl_nil]
    generalize (List.range' 0 i).foldl (Dp F p) n0=m at h1 h2 ⊢
    have hms:lk m (p.Names.getD i default)=lk n0 (p.Names.getD i default):=by rw [h2,if_neg hnt]
    have fin:∀ (m':af),(∀ r,lk m' r=if r=p.Names.getD i default then VK F n0 p (p.Names.getD i default) else lk m r)->∀ r,lk m' r=if r∈p.Names.take (i+1) then VK F n0 p r else lk n0 r:=fun m' g r=>by
      rw [g]
      by_cases c:r=p.Names.getD i default
      · rw [if_pos c,if_pos ((uM hin).2 (.inr c)),c]
      · rw [if_neg c,h2]
        by_cases q:r∈p.Names.take i
        · rw [if_pos q,if_pos ((uM hin).2 (.inl q))]
        · rw [if_neg q,if_neg (fun z=>((uM hin).1 z).elim q c)]
    unfold Dp
    by_cases c:(p.Kids.getD i default).Kind=0
    · rw [if_pos c]
      obtain ⟨g1,g2⟩:=VJ (s:=p.Names.getD i default) h1
      refine ⟨Ak g1 (Nat.le_refl _) (by omega),fin _ (fun r => ?_)⟩
      rw [g2]
      have:VK F n0 p (p.Names.getD i default)=none:=by unfold VK; rw [hx]; simp only [if_pos c]
      rw [this]
    · rw [if_neg c,hms]
      have hold:Q ((lk n0 (p.Names.getD i default)).getD nG):=by
        cases hl:lk n0 (p.Names.getD i default) with
        | none=>exact hQ
        | some x=>exact hq _ (L6 hl)
      obtain ⟨_,g1,g2⟩:=MH h1 (mp.name hi') (hF _ _ hold (o9 mp.sh hi'))
      refine ⟨g1,fin _ (fun r => ?_)⟩
      rw [g2]
      have:VK F n0 p (p.Names.getD i default)=some (F ((lk n0 (p.Names.getD i default)).getD nG) (p.Kids.getD i default)):=by unfold VK; rw [hx]; simp only [if_neg c]
      rw [this]
end Go.Ab
end
section
namespace Go.Ab
open Go
set_option maxRecDepth 100000
set_option linter.unusedSectionVars false
theorem KX {E:Nat} {n:af} (h:ShN E n):∃ e,(e+1=E\/e=0)/\MF e 6 (Bl n)/\∀ k,k∈(Bl n).Kids->ShN e k:=by
 unfold Bl
 by_cases hk:n.Kind=4
 ·rw [if_pos hk]
  rcases h with h | h
  ·cases E with
   | zero=>cases h
   | succ e=>exact ⟨e,.inl rfl,(Nw h hk).mf,fun k hk' => .inl (kY h k hk')⟩
  ·rw [h] at hk; cases hk
 ·rw [if_neg hk]
  exact ⟨0,.inr rfl,Ak VH (Nat.le_refl _) (by omega),fun k hk'=>by cases hk'⟩
theorem Am:∀ (d:Nat) {E:Nat} {n p:af},Shape d p=true->ShN E n->Fine 12 (d+E+1) (x9 d n p)
  | 0,_,_,_,h,_=>by cases h
  | d+1,E,n,p,hp,hn=>by
    rw [EJ]
    by_cases h4:p.Kind=4
    · rw [if_pos h4]
      have mp:=Nw hp h4
      obtain ⟨e,he,hb,hk⟩:=KX hn
      have h:=(BQ (F:=x9 d) (D:=d+e+1) mp (Ak hb (by omega) (Nat.le_refl _)) (Q:=ShN e) (.inr rfl) hk (fun o q ho hq=>Am d hq ho) p.Kids.length (Nat.le_refl _)).1
      have:=mp.len
      have:=mp.mp.map.len
      exact (h.fine (by omega)).mono (Nat.le_refl _) (by omega)
    · rw [if_neg h4]
      exact (nR hp).mono (Nat.le_refl _) (by omega)
end Go.Ab
end
section
namespace Go.Ab
open Go
set_option maxRecDepth 100000
set_option linter.unusedSectionVars false
section
variable {d e:Nat} {n0 p:af} (mp:MS d p) (h0:MF (d+e+1) 6 n0) (hq:∀ k,k∈n0.Kids->ShN e k) (hd:d<=5)
include mp h0 hq hd
theorem T.vX.L4 (hs:∀ o q,ShN e o->Shape d q=true->Ev (fun f=>G.aQ f o q) (x9 d o q)):∀ (t i:Nat),i+t=p.Kids.length ->
    Ev (fun f=>G.aQ.L4 f p (i:Int) ((List.range' 0 i).foldl (Dp (x9 d) p) n0).Kind ((List.range' 0 i).foldl (Dp (x9 d) p) n0).Num ((List.range' 0 i).foldl (Dp (x9 d) p) n0).Text ((List.range' 0 i).foldl (Dp (x9 d) p) n0).Names ((List.range' 0 i).foldl (Dp (x9 d) p) n0).Kids) ((List.range' 0 p.Kids.length).foldl (Dp (x9 d) p) n0):=by
  have hl:=mp.len
  have hk:=mp.mp.map.len
  intro t
  induction t with
  | zero =>
    intro i hi
    have:i=p.Kids.length:=by omega
    subst this
    refine Ev.up ?_
    simp only [G.aQ.L4]
    exact Ev.cf (decide_eq_false (by omega)) (Ev.ret' (af.eta _))
  | succ t ih =>
    intro i hi
    have hn:=ih (i+1) (by omega)
    rw [vZ,List.foldl_append,List.foldl_cons,List.foldl_nil] at hn
    have hF:=fun (o q:af) (ho:ShN e o) (hq:Shape d q=true)=>Am d hq ho
    obtain ⟨h1,h2⟩:=BQ mp h0 (Q:=ShN e) (.inr rfl) hq hF i (by omega)
    generalize (List.range' 0 i).foldl (Dp (x9 d) p) n0=m at h1 h2 hn ⊢
    have hi':i<p.Kids.length:=by omega
    have hx:=o9 mp.sh hi'
    have hc:=h1.cnt
    have hms:lk m (p.Names.getD i default)=lk n0 (p.Names.getD i default):=by rw [h2,if_neg (BV mp.mp.map hi')]
    obtain ⟨q,gq,hqj⟩:=T.bs (p.Names.getD i default) h1.mp.map (by omega)
    refine Ev.up ?_
    simp only [G.aQ.L4,Int.toNat_natCast,aV (show i+1<9223372036854775808 by omega),af.eta]
    unfold Dp at hn
    refine Ev.ct (decide_eq_true (by omega)) (Ev.chk (by omega) (Ev.chk (by omega) ?_))
    by_cases c:(p.Kids.getD i default).Kind=0
    · rw [if_pos c] at hn
      exact Ev.ct (by simpa using c) (Ev.bind (T.Qv _ h1.mp (by omega)) hn)
    · rw [if_neg c] at hn
      have fin:∀ o,o=(lk m (p.Names.getD i default)).getD nG->Ev (fun f=>G.aQ.K5 f p (i:Int) m.Kind m.Num m.Text m.Names m.Kids o.Kind o.Num o.Text o.Names o.Kids) ((List.range' 0 p.Kids.length).foldl (Dp (x9 d) p) n0):=fun o ho=>by
        have hso:ShN e o:=by
          rw [ho,hms]
          cases hl':lk n0 (p.Names.getD i default) with
          | none=>exact .inr rfl
          | some x=>exact hq x (L6 hl')
        have hf:=hF _ _ hso hx
        obtain ⟨g1,_⟩:=MH h1 (mp.name hi') hf
        obtain ⟨m',g2,g3⟩:=T.MG (v:=x9 d o (p.Kids.getD i default)) (p.Names.getD i default) h1.mp (by omega)
        rw [g1] at g2
        cases g2
        rw [<- ho] at hn
        refine Ev.up ?_
        simp only [G.aQ.K5,Int.toNat_natCast,aV (show i+1<9223372036854775808 by omega),af.eta]
        exact Ev.chk (by omega) (Ev.bind (hs _ _ hso hx) (Ev.bind g3 hn))
      refine Ev.cf (by simpa using c) (Ev.bind gq ?_)
      cases hj:rG m (p.Names.getD i default) with
      | none=>exact Ev.cf rfl (fin nG (by unfold lk; rw [hj]; rfl))
      | some j =>
        have ej:=hqj j hj
        subst ej
        have hjl:=nX hj
        simp only [Int.toNat_natCast]
        exact Ev.ct rfl (Ev.chk (by omega) (fin (m.Kids.getD q default) (by unfold lk; rw [hj]; rfl)))
end
theorem T.vX:∀ (d:Nat) {E:Nat} {n p:af},d<=5->Shape d p=true->ShN E n->Ev (fun f=>G.aQ f n p) (x9 d n p)
  | 0,_,_,_,_,h,_=>by cases h
  | d+1,E,n,p,hd,hp,hn=>by
    refine Ev.up ?_
    simp only [G.aQ]
    rw [EJ]
    refine Ev.ite (fun c => ?_) (fun c => ?_)
    · have:¬ p.Kind=4:=by simpa using c
      rw [if_neg this]
      exact Ev.bind (T.au qJ (nR hp)) (Ev.ret _)
    · have kp:p.Kind=4:=by simpa using c
      rw [if_pos kp]
      have mp:=Nw hp kp
      obtain ⟨e,he,hb,hq⟩:=KX hn
      have L:=T.vX.L4 mp (Ak hb (by omega:e<=d+e+1) (Nat.le_refl _)) hq (by omega) (fun o q ho hq=>T.vX d (by omega) hq ho) p.Kids.length 0 (by omega)
      have L':Ev (fun f=>G.aQ.K1 f p (Bl n).Kind (Bl n).Num (Bl n).Text (Bl n).Names (Bl n).Kids) ((List.range' 0 p.Kids.length).foldl (Dp (x9 d) p) (Bl n)):=by
        refine Ev.up ?_
        simp only [G.aQ.K1]
        exact L
      unfold Bl at L' ⊢
      refine Ev.ite (fun c => ?_) (fun c => ?_)
      · have kn:n.Kind=4:=by simpa using c
        rw [if_pos kn] at L' ⊢
        have hf:Fine 12 E n:=by
          rcases hn with h | h
          · exact nR h
          · rw [h] at kn; cases kn
        exact Ev.bind (T.au qJ hf) L'
      · have kn:¬ n.Kind=4:=by simpa using c
        rw [if_neg kn] at L' ⊢
        exact L'
theorem T.jP {D E:Nat} {n p:af} (hn:Fine 60 D n) (hp:Fine 60 E p):Ev (fun f=>G.jP f n p) (iV (if Val n&&Val p then (some (x9 5 n p)).filter Val else none)):=by
 refine Ev.up ?_
 simp only [G.jP]
 refine Ev.bind (T.aC qK hn) (Ev.ite (fun e1 => ?_) (fun e1=>Ev.ret' (by rw [e1]; rfl)))
 refine Ev.bind (T.aC qK hp) (Ev.ite (fun e2 => ?_) (fun e2=>Ev.ret' (by rw [e1,e2]; rfl)))
 have gp:=T.vX 5 (by omega) (jY e2) (.inl (jY e1))
 have gc:=T.iM (o:=some (x9 5 n p)) qJ (fun m hm=>by cases hm; exact Am 5 (jY e2) (.inl (jY e1)))
 rw [e1,e2]
 exact Ev.bind gp (Ev.bind gc (Ev.ret _))
end Go.Ab
end
section
namespace Go.Ab
open Go
set_option maxRecDepth 100000
section
variable {B:Nat} {s:StoreT} (hB:B<=lim) (h:wJ B s)
include hB h
theorem T.bz.L1:∀ (k i:Nat),i+k=s.Items.length->Ev (fun f=>G.bz.L1 f s i) (((s.Items.drop i).all (Bc s.Clock)&&Asc ((oG s.Items).drop (i-1)))&&(decide (s.Items.length<=10)&&(decide (0<=s.Clock)&&decide (s.Clock<=999)))):=by
  have hl:=h.len
  unfold lim at hB
  intro k
  induction k with
  | zero =>
    intro i hi
    refine Ev.up ?_
    simp only [G.bz.L1]
    rw [List.drop_of_length_le (by omega),DL (by rw [nK]; omega)]
    refine Ev.cf (decide_eq_false (by omega)) (Ev.ite (fun e => ?_) (fun e=>Ev.ret' ?_))
    · refine Ev.bind (T.bK _ _ _) (Ev.ret' ?_)
      rw [decide_eq_true (show s.Items.length<=10 by simp only [decide_eq_true_eq] at e; omega)]
      simp
    · rw [decide_eq_false (show ¬ s.Items.length<=10 by simp only [decide_eq_false_iff_not] at e; omega)]
      simp
  | succ k ih =>
    intro i hi
    have hil:i<s.Items.length:=by omega
    obtain ⟨hn,⟨D,hd⟩⟩:=h.at_ hil
    refine Ev.up ?_
    simp only [G.bz.L1,Int.toNat_natCast,aV (show i+1<9223372036854775808 by omega)]
    rw [bg (default:aH) hil,List.all_cons]
    refine Ev.ct (decide_eq_true (by omega)) (Ev.chk (by omega) ?_)
    unfold Bc
    refine Ev.bind (T.cZ _ (by unfold big; omega)) (Ev.ite (fun e1 => ?_) (fun e1=>Ev.ret' (by rw [e1]; simp)))
    refine Ev.bind (T.bD (by unfold lim; omega) hd) (Ev.ite (fun e2 => ?_) (fun e2=>Ev.ret' (by rw [e2]; simp)))
    refine Ev.bind (T.bK _ _ _) (Ev.ite (fun e3 => ?_) (fun e3=>Ev.ret' (by rw [e3]; simp)))
    rw [e1,e2,e3]
    have ih':=ih (i+1) (by omega)
    unfold Bc at ih'
    rw [Nat.add_sub_cancel] at ih'
    by_cases h0:0<i
    · have e:IntKind.wrap .i64 ((i:Int)-1)=((i-1:Nat):Int):=wrapN (by omega) (by omega)
      rw [e,Int.toNat_natCast]
      rw [zK h0 (by rw [nK]; exact hil),rC hil,rC (by omega:i-1<s.Items.length)]
      refine Ev.ct (decide_eq_true (by omega)) (Ev.chk (by omega) (Ev.ite (fun h1=>Ev.ret' ?_) (fun h1=>Ev.ite (fun h2=>Ev.ret' ?_) (fun h2 => ?_))))
      · rw [show bl (s.Items.getD (i-1) default).Name (s.Items.getD i default).Name=false from zL h1]; simp
      · rw [beq_iff_eq] at h2
        rw [show bl (s.Items.getD (i-1) default).Name (s.Items.getD i default).Name=false by rw [h2]; exact yQ _]; simp
      · have hb:bl (s.Items.getD (i-1) default).Name (s.Items.getD i default).Name=true:=by
          cases hb:bl (s.Items.getD (i-1) default).Name (s.Items.getD i default).Name with
          | true=>rfl
          | false=>rw [xm h1 hb] at h2; simp at h2
        rw [hb]
        exact ih'.eq (by simp)
    · have:i=0:=by omega
      subst this
      exact Ev.cf (by decide) (ih'.eq (by simp))
theorem T.bz:Ev (fun f=>G.bz f s) (FD s):=by
 refine Ev.up ?_
 simp only [G.bz]
 exact T.bz.L1 hB h s.Items.length 0 (by omega)
theorem T.aK.L1:∀ (k i:Nat),i+k=s.Items.length->Ev (fun f=>G.aK.L1 f s i) ((s.Items.drop i).all (Bc s.Clock)&&Asc ((oG s.Items).drop (i-1))):=by
  have hl:=h.len
  unfold lim at hB
  intro k
  induction k with
  | zero =>
    intro i hi
    refine Ev.up ?_
    simp only [G.aK.L1]
    rw [List.drop_of_length_le (by omega),DL (by rw [nK]; omega)]
    exact Ev.cf (decide_eq_false (by omega)) (Ev.ret _)
  | succ k ih =>
    intro i hi
    have hil:i<s.Items.length:=by omega
    obtain ⟨hn,⟨D,hd⟩⟩:=h.at_ hil
    refine Ev.up ?_
    simp only [G.aK.L1,Int.toNat_natCast,aV (show i+1<9223372036854775808 by omega)]
    rw [bg (default:aH) hil,List.all_cons]
    have ih':=ih (i+1) (by omega)
    rw [Nat.add_sub_cancel] at ih'
    refine Ev.ct (decide_eq_true (by omega)) (Ev.chk (by omega) ?_)
    refine Ev.bind (T.dP _ (by unfold big; omega)) (Ev.ite (fun e1 => ?_) (fun e1=>Ev.ret' (by unfold Bc; rw [e1]; simp)))
    have tail:∀ q:Bool,(q=true->Asc ((oG s.Items).drop (i-1))=Asc ((oG s.Items).drop i))->q=true->Ev (fun f=>cond (decide ((s.Items.getD i default).Version<1)) (some false) (cond (decide (s.Clock<(s.Items.getD i default).Version)) (some false)
        (Option.bind (G.aC f (s.Items.getD i default).Node) fun v=>cond v (G.aK.L1 f s ((i+1:Nat):Int)) (some false)))) (Bc s.Clock (s.Items.getD i default)&&(s.Items.drop (i+1)).all (Bc s.Clock)&&Asc ((oG s.Items).drop (i-1))):=fun q hq hq'=>by
      rw [hq hq']
      refine Ev.ite (fun v1=>Ev.ret' ?_) (fun v1=>Ev.ite (fun v2=>Ev.ret' ?_) (fun v2 => ?_))
      · simp only [decide_eq_true_eq] at v1
        unfold Bc
        rw [decide_eq_false (show ¬ 1<=(s.Items.getD i default).Version by omega)]; simp
      · simp only [decide_eq_true_eq] at v2
        unfold Bc
        rw [decide_eq_false (show ¬ (s.Items.getD i default).Version<=s.Clock by omega)]; simp
      · simp only [decide_eq_false_iff_not] at v1 v2
        refine Ev.bind (T.aC (by unfold lim; omega) hd) (Ev.ite (fun e2 => ?_) (fun e2=>Ev.ret' (by unfold Bc; rw [e2]; simp)))
        refine ih'.eq ?_
        have:Bc s.Clock (s.Items.getD i default)=true:=by
          unfold Bc
          rw [e1,e2,decide_eq_true (show 1<=(s.Items.getD i default).Version by omega),decide_eq_true (show (s.Items.getD i default).Version<=s.Clock by omega)]; rfl
        rw [this]; rfl
    by_cases h0:0<i
    · have e:IntKind.wrap .i64 ((i:Int)-1)=((i-1:Nat):Int):=wrapN (by omega) (by omega)
      rw [e,Int.toNat_natCast]
      have hst:=zK h0 (l:=oG s.Items) (by rw [nK]; exact hil)
      rw [rC hil,rC (by omega:i-1<s.Items.length)] at hst
      refine Ev.ct (decide_eq_true (by omega)) (Ev.chk (by omega) (Ev.ite (fun h1 => ?_) (fun h1=>Ev.ret' ?_)))
      · exact tail true (fun _=>by rw [hst,show bl (s.Items.getD (i-1) default).Name (s.Items.getD i default).Name=true from h1]; rfl) rfl
      · rw [hst,show bl (s.Items.getD (i-1) default).Name (s.Items.getD i default).Name=false from h1]; simp
    · have:i=0:=by omega
      subst this
      exact Ev.cf (by decide) (tail true (fun _=>rfl) rfl)
theorem T.aK:Ev (fun f=>G.aK f s) (FD s):=by
 refine Ev.up ?_
 simp only [G.aK]
 unfold FD
 refine Ev.ite (fun e=>Ev.ret' ?_) (fun e=>Ev.ite (fun e2=>Ev.ret' ?_) (fun e2=>Ev.ite (fun e3=>Ev.ret' ?_) (fun e3 => ?_)))
 ·rw [decide_eq_false (show ¬ s.Items.length<=10 by simp only [decide_eq_true_eq] at e; omega)]; simp
 ·rw [decide_eq_false (show ¬ 0<=s.Clock by simp only [decide_eq_true_eq] at e2; omega)]; simp
 ·rw [decide_eq_false (show ¬ s.Clock<=999 by simp only [decide_eq_true_eq] at e3; omega)]; simp
 ·simp only [decide_eq_false_iff_not] at e e2 e3
  refine (T.aK.L1 hB h s.Items.length 0 (by omega)).eq ?_
  rw [decide_eq_true (show s.Items.length<=10 by omega),decide_eq_true (show 0<=s.Clock by omega),decide_eq_true (show s.Clock<=999 by omega),List.drop_zero]
  simp
theorem T.bC:Ev (fun f=>G.bC f s) s:=by
  have hl:=h.len
  unfold lim at hB
  have L:∀ (k i:Nat),i+k=s.Items.length->Ev (fun f=>G.bC.L1 f s i (s.Items.take i)) s:=by
    intro k
    induction k with
    | zero =>
      intro i hi
      refine Ev.up ?_
      simp only [G.bC.L1]
      refine Ev.cf (decide_eq_false (by omega)) (Ev.ret' ?_)
      rw [List.take_of_length_le (by omega)]
    | succ k ih =>
      intro i hi
      have hil:i<s.Items.length:=by omega
      obtain ⟨hn,⟨D,hd⟩⟩:=h.at_ hil
      refine Ev.up ?_
      simp only [G.bC.L1,Int.toNat_natCast,aV (show i+1<9223372036854775808 by omega)]
      refine Ev.ct (decide_eq_true (by omega)) (Ev.chk (by omega) (Ev.chk (by omega) (Ev.chk (by omega) (Ev.bind (T.ay (by unfold lim; omega) hd) (Ev.chk (by simp; omega) ?_)))))
      have:=ih (i+1) (by omega)
      rw [List.take_succ_eq_append_getElem hil,<- bF (default:aH) hil] at this
      exact this
  refine Ev.up ?_
  simp only [G.bC]
  exact L s.Items.length 0 (by omega)
theorem T.aY:Ev (fun f=>G.aY f s) s:=by
  have hl:=h.len
  unfold lim at hB
  have L:∀ (k i:Nat),i+k=s.Items.length->Ev (fun f=>G.aY.L1 f s i (s.Items.take i++List.replicate (s.Items.length-i) (aH.mk [] 0 (af.mk 0 0 [] [] [])))) s:=by
    intro k
    induction k with
    | zero =>
      intro i hi
      refine Ev.up ?_
      simp only [G.aY.L1]
      refine Ev.cf (decide_eq_false (by omega)) (Ev.ret' ?_)
      rw [List.take_of_length_le (by omega),show s.Items.length-i=0 by omega,List.replicate_zero,List.append_nil]
    | succ k ih =>
      intro i hi
      have hil:i<s.Items.length:=by omega
      obtain ⟨hn,⟨D,hd⟩⟩:=h.at_ hil
      have hc:Ev (fun f=>G.jI f (s.Items.getD i default)) (s.Items.getD i default):=by
        refine Ev.up ?_
        simp only [G.jI]
        exact Ev.bind (T.au (by unfold lim; omega) hd) (Ev.ret _)
      refine Ev.up ?_
      simp only [G.aY.L1,Int.toNat_natCast,aV (show i+1<9223372036854775808 by omega)]
      refine Ev.ct (decide_eq_true (by omega)) (Ev.chk (by omega) (Ev.bind hc (Ev.chk (by simp; omega) ?_)))
      have hset:(s.Items.take i++List.replicate (s.Items.length-i) (aH.mk [] 0 (af.mk 0 0 [] [] []))).set i (s.Items.getD i default)=s.Items.take (i+1)++List.replicate (s.Items.length-(i+1)) (aH.mk [] 0 (af.mk 0 0 [] [] [])):=by
        obtain ⟨q,hq⟩:∃ q,s.Items.length-i=q+1:=⟨s.Items.length-i-1,by omega⟩
        have e1:(s.Items.take i).length=i:=by simp; omega
        rw [hq,List.replicate_succ,List.set_append_right _ _ (by omega),e1,Nat.sub_self,List.set_cons_zero,show s.Items.length-(i+1)=q by omega,List.take_succ_eq_append_getElem hil,bF _ hil,List.append_assoc]
        rfl
      rw [hset]
      exact ih (i+1) (by omega)
  refine Ev.up ?_
  simp only [G.aY]
  refine Ev.ite (fun e => ?_) (fun e=>Ev.ret' ?_)
  · refine Ev.chk (by omega) ?_
    have:=L s.Items.length 0 (by omega)
    rw [List.take_zero,List.nil_append,Nat.sub_zero] at this
    exact this
  · have:s.Items=[]:=List.eq_nil_of_length_eq_zero (by simp only [decide_eq_false_iff_not] at e; omega)
    cases s
    simp only at this
    subst this
    rfl
end
theorem um {s:StoreT} : FD s=true<->Qb s:=by
 unfold FD
 simp only [Bool.and_eq_true,decide_eq_true_eq,List.all_eq_true]
 exact ⟨fun ⟨⟨h1,h2⟩,h3,h4,h5⟩=>⟨h1,h2,h3,h4,h5⟩,fun h=>⟨⟨h.WW,h.Be⟩,h.len,h.lo,h.hi⟩⟩
theorem Io {s:aS} (h:P5 s=true):1<=s.length/\s.length<=8:=by
 unfold P5 at h
 simp only [Bool.and_eq_true,decide_eq_true_eq] at h
 exact h.2
theorem Qb.fine {s:StoreT} (h:Qb s):wJ 60 s :=
 ⟨by have:=h.len; omega,fun it hi=>by have:=(Io (LZ.1 (h.WW it hi)).Fz).2; omega,fun it hi=>⟨5,pY (LZ.1 (h.WW it hi)).KH⟩⟩
def VL:StoreT:=StoreT.mk [] 0
theorem T.Qy.L1 {l:List aH} (t:aS) (hl:l.length<big) (hA:∀ i j,i<j->j<(oG l).length->bl ((oG l).getD i default) ((oG l).getD j default)=true) :
    ∀ (k i j:Nat),j-i<=k->i<=j->j<=l.length->(∀ q,q<i->bl ((oG l).getD q default) t=true)->(∀ q,j<=q->q<(oG l).length->bl ((oG l).getD q default) t=false) ->
      ∃ p:Nat,Ev (fun f=>G.aj.L1 f l t i j) ((p:Int),decide (p<l.length)&&(l.getD p default).Name==t)/\LB (oG l) t p:=by
  unfold big at hl
  have cmp:∀ i,Ev (fun f=>G.jL f (l.getD i default) t) (Go.Lib.compareBytes (l.getD i default).Name t):=fun i=>by
    refine Ev.up ?_
    simp only [G.jL]
    have h1:Ev (fun f=>G.strings_Compare f (l.getD i default).Name t) (Go.Lib.compareBytes (l.getD i default).Name t):=by
      refine Ev.up ?_
      simp only [G.strings_Compare]
      have:Ev (fun f=>G.bT f (l.getD i default).Name t) (Go.Lib.compareBytes (l.getD i default).Name t):=by
        refine Ev.up ?_
        simp only [G.bT]
        exact Ev.ret _
      exact Ev.bind this (Ev.ret _)
    exact Ev.bind h1 (Ev.ret _)
  have neg:∀ x y:aS,decide (Go.Lib.compareBytes x y<0)=bl x y:=fun x y=>by
    rw [Vj]
    cases h:bl x y with
    | true=>rw [if_pos rfl]; rfl
    | false=>rw [if_neg (by simp)]; by_cases e:x=y<;>simp [e]
  have XT:∀ x y:aS,(Go.Lib.compareBytes x y==0)=(x==y):=fun x y=>by
    rw [Bool.eq_iff_iff,beq_iff_eq,beq_iff_eq]; exact Gl
  intro k
  induction k with
  | zero =>
    intro i j hk hij hj hlo hhi
    have:i=j:=by omega
    subst this
    refine ⟨i,Ev.up ?_,by rw [nK]; exact hj,hlo,hhi⟩
    simp only [G.aj.L1,Int.toNat_natCast]
    refine Ev.cf (by simp) (Ev.ite (fun e => ?_) (fun e=>Ev.ret' ?_))
    · have e':i<l.length:=by simpa using e
      refine Ev.chk (by omega) (Ev.bind (cmp i) (Ev.ret' ?_))
      rw [XT,decide_eq_true e',Bool.true_and]
    · have d1:decide (i<l.length)=false:=by simpa using e
      rw [d1]; rfl
  | succ k ih =>
    intro i j hk hij hj hlo hhi
    by_cases he:i=j
    · exact ih i j (by omega) hij hj hlo hhi
    have h1:(i+j)/2<j:=by omega
    have h2:i<=(i+j)/2:=by omega
    have hat:=rC (l:=l) (i:=(i+j)/2) (by omega)
    cases hc:bl ((oG l).getD ((i+j)/2) default) t with
    | true =>
      obtain ⟨p,g,hp⟩:=ih ((i+j)/2+1) j (by omega) (by omega) hj (fun q hq=>by
        by_cases hq2:q=(i+j)/2
        · rw [hq2]; exact hc
        · exact pI (hA q ((i+j)/2) (by omega) (by rw [nK]; omega)) hc) hhi
      refine ⟨p,Ev.up ?_,hp⟩
      simp only [G.aj.L1]
      refine Ev.ct (by simp; omega) ?_
      rw [half i j (by omega),Int.toNat_natCast]
      refine Ev.chk (by omega) (Ev.bind (cmp _) (Ev.ct (by rw [neg,<- hat]; exact hc) ?_))
      rw [aV (by omega)]
      exact g
    | false =>
      obtain ⟨p,g,hp⟩:=ih i ((i+j)/2) (by omega) h2 (by omega) hlo (fun q hq hq2=>by
        by_cases hq3:q=(i+j)/2
        · rw [hq3]; exact hc
        · cases hb:bl ((oG l).getD q default) t with
          | false=>rfl
          | true=>rw [pI (hA ((i+j)/2) q (by omega) hq2) hb] at hc; cases hc)
      refine ⟨p,Ev.up ?_,hp⟩
      simp only [G.aj.L1]
      refine Ev.ct (by simp; omega) ?_
      rw [half i j (by omega),Int.toNat_natCast]
      refine Ev.chk (by omega) (Ev.bind (cmp _) (Ev.cf (by rw [neg,<- hat]; exact hc) ?_))
      exact g
theorem T.gQ {l:List aH} (t:aS) (hl:l.length<big) (hA:Asc (oG l)=true) :
  ∃ p:Nat,Ev (fun f=>G.gQ f l t) ((p:Int),decide (p<l.length)&&(l.getD p default).Name==t)/\LB (oG l) t p:=by
 obtain ⟨p,g,hp⟩:=T.Qy.L1 t hl (rZ hA) l.length 0 l.length (by omega) (by omega) (by omega) (fun q hq=>by omega) (fun q h1 h2=>by rw [nK] at h2; omega)
 refine ⟨p,Ev.up ?_,hp⟩
 simp only [G.gQ]
 have g':Ev (fun f=>G.aj f l t) ((p:Int),decide (p<l.length)&&(l.getD p default).Name==t):=by
  refine Ev.up ?_
  simp only [G.aj]
  exact g
 exact Ev.bind g' (Ev.ret _)
end Go.Ab
end
section
namespace Go.Ab
open Go
set_option maxRecDepth 100000
set_option linter.unusedSectionVars false
def vY (x:aH):List aH->List aH
 | []=>[x]
 | y::r=>if bl y.Name x.Name then y::vY x r else if y.Name=x.Name then x::r else x::y::r
def FQ (s:StoreT) (t:aS) (n:af):StoreT:=StoreT.mk (vY (aH.mk t (s.Clock+1) n) s.Items) (s.Clock+1)
def NV (s:StoreT) (t:aS) (n:af):Option StoreT:=if FD s&&P5 t&&Val n then (some (FQ s t n)).filter FD else none
def JX:Option StoreT->StoreT × Bool
 | some s=>(s,true)
 | none=>(VL,false)
theorem Iu {s:StoreT} : JX ((some s).filter FD)=if FD s then (s,true) else (VL,false):=by
 cases h:FD s<;>simp [Option.filter,h,JX]
theorem Ap {y:aH} {r:List aH} : oG (y::r)=y.Name::oG r:=rfl
theorem ND {x:aH} : ∀ {l:List aH} {p:Nat},LB (oG l) x.Name p->vY x l=if decide (p<l.length)&&(l.getD p default).Name==x.Name then l.set p x else l.take p++[x]++l.drop p
  | [],p,h=>by
    have:p=0:=by have:=h.le; simpa [oG] using this
    subst this
    rfl
  | y::r,0,h=>by
    have hb:bl y.Name x.Name=false:=h.hi 0 (by omega) (by rw [nK]; simp)
    rw [vY,hb,if_neg (by simp)]
    by_cases e:y.Name=x.Name
    · rw [if_pos e,if_pos (by simp [e])]; rfl
    · rw [if_neg e,if_neg (by simp [e])]; rfl
  | y::r,p+1,h=>by
    have hb:bl y.Name x.Name=true:=h.lo 0 (by omega)
    have hr:LB (oG r) x.Name p:=⟨by have:=h.le; rw [nK] at this ⊢; simp at this; omega,fun j hj=>by
      have:=h.lo (j+1) (by omega)
      rwa [Ap,List.getD_cons_succ] at this,fun j h1 h2=>by
      have:=h.hi (j+1) (by omega) (by rw [Ap]; simp; omega)
      rwa [Ap,List.getD_cons_succ] at this⟩
    rw [vY,if_pos hb,ND hr]
    have e1:(decide (p+1<(y::r).length)&&((y::r).getD (p+1) default).Name==x.Name)=(decide (p<r.length)&&(r.getD p default).Name==x.Name):=by simp
    rw [e1]
    by_cases c:(decide (p<r.length)&&(r.getD p default).Name==x.Name)=true
    · rw [if_pos c,if_pos c]; rfl
    · rw [if_neg c,if_neg c]; rfl
theorem Jk {y:aH} {r:List aH} (h:Asc (oG (y::r))=true):Asc (oG r)=true/\∀ z,z∈r->bl y.Name z.Name=true:=by
 rw [Ap] at h
 exact ⟨tY h,fun z hz=>uQ h _ (List.mem_map.2 ⟨z,hz,rfl⟩)⟩
theorem uh {x:aH} : ∀ {l:List aH} {it:aH},Asc (oG l)=true->(it∈vY x l<->it=x\/(it∈l/\it.Name ≠ x.Name))
  | [],it,_=>by simp [vY]
  | y::r,it,h=>by
    obtain ⟨h1,h2⟩:=Jk h
    rw [vY]
    cases hb:bl y.Name x.Name with
    | true =>
      have hne:=uy hb
      rw [if_pos rfl,List.mem_cons,uh h1,List.mem_cons]
      constructor
      · rintro (e | e | ⟨e,e2⟩)
        · exact .inr ⟨.inl e,e ▸ hne⟩
        · exact .inl e
        · exact .inr ⟨.inr e,e2⟩
      · rintro (e | ⟨e | e,e2⟩)
        · exact .inr (.inl e)
        · exact .inl e
        · exact .inr (.inr ⟨e,e2⟩)
    | false =>
      rw [if_neg (by simp)]
      by_cases e:y.Name=x.Name
      · rw [if_pos e,List.mem_cons,List.mem_cons]
        constructor
        · rintro (q | q)
          · exact .inl q
          · exact .inr ⟨.inr q,fun w=>by have:=uy (h2 it q); rw [e,w] at this; exact this rfl⟩
        · rintro (q | ⟨q | q,w⟩)
          · exact .inl q
          · exact absurd (q ▸ e) w
          · exact .inr q
      · rw [if_neg e,List.mem_cons,List.mem_cons]
        have hx:bl x.Name y.Name=true:=by
          cases k:bl x.Name y.Name with
          | true=>rfl
          | false=>exact absurd (xm hb k) e
        constructor
        · rintro (q | q | q)
          · exact .inl q
          · exact .inr ⟨.inl q,q ▸ e⟩
          · exact .inr ⟨.inr q,fun w=>by have:=uy (pI hx (h2 it q)); rw [w] at this; exact this rfl⟩
        · rintro (q | ⟨q,_⟩)
          · exact .inl q
          · exact .inr q
theorem EN {x:aH} : ∀ {l:List aH},(vY x l).length<=l.length+1
  | []=>by simp [vY]
  | y::r=>by
    have:=EN (x:=x) (l:=r)
    rw [vY]
    split
    · simp only [List.length_cons]; omega
    · split<;>simp
theorem T.l9 {l:List aH} {x:aH} (hl:l.length<=1000) (hA:Asc (oG l)=true):Ev (fun f=>G.l9 f l x) (vY x l):=by
  obtain ⟨p,g,hp⟩:=T.gQ x.Name (by unfold big; omega) hA
  have hle:=hp.le
  rw [nK] at hle
  rw [ND hp]
  refine Ev.up ?_
  simp only [G.l9]
  refine Ev.bind g ?_
  cases hc:decide (p<l.length)&&(l.getD p default).Name==x.Name with
  | true =>
    rw [if_pos rfl]
    simp only [Bool.and_eq_true,decide_eq_true_eq] at hc
    exact Ev.ct rfl (Ev.chk (by omega) (Ev.ret' (by rw [Int.toNat_natCast])))
  | false =>
    rw [if_neg (by simp)]
    refine Ev.cf rfl (Ev.bind (Ev.up ?_) (Ev.ret _))
    simp only [G.eF]
    exact Ev.chk (by simp; omega) (Ev.ret' (by rw [Int.toNat_natCast]))
section
variable {B D:Nat} {s:StoreT} {t:aS} {n:af} (hB:B<=lim) (h:wJ B s) (ht:t.length<=B) (hn:Fine B D n)
include hB h ht hn
theorem T.lu:Ev (fun f=>G.lu f s t n) (JX (NV s t n)):=by
 refine Ev.up ?_
 simp only [G.lu]
 unfold NV
 refine Ev.bind (T.aK hB h) (Ev.ite (fun e1 => ?_) (fun e1=>Ev.ret' (by rw [e1]; rfl)))
 refine Ev.bind (T.dP _ (by unfold big; unfold lim at hB; omega)) (Ev.ite (fun e2 => ?_) (fun e2=>Ev.ret' (by rw [e1,e2]; rfl)))
 refine Ev.bind (T.aC hB hn) (Ev.ite (fun e3 => ?_) (fun e3=>Ev.ret' (by rw [e1,e2,e3]; rfl)))
 have hs:=um.1 e1
 have hl:=hs.len
 have hlo:=hs.lo
 have hhi:=hs.hi
 have w:IntKind.wrap .i64 (s.Clock+1)=s.Clock+1:=by rw [o5 (by omega) (by omega)]
 rw [e1,e2,e3]
 refine Ev.bind (T.aY hB h) (Ev.bind (T.au hB hn) ?_)
 rw [w]
 refine Ev.bind (T.l9 (by omega) hs.Be) ?_
 have hf:wJ 60 (FQ s t n):=by
  have:=EN (x:=aH.mk t (s.Clock+1) n) (l:=s.Items)
  refine ⟨by show (vY _ _).length<=_; omega,fun it hi => ?_,fun it hi => ?_⟩
  ·rcases (uh hs.Be).1 hi with e | ⟨e,_⟩
   ·rw [e]; show t.length<=60; have:=(Io e2).2; omega
   ·exact hs.fine.Fz it e
  ·rcases (uh hs.Be).1 hi with e | ⟨e,_⟩
   ·rw [e]; exact ⟨5,pY e3⟩
   ·exact hs.fine.KH it e
 refine Ev.bind (T.aK qK hf) ?_
 show Ev _ (JX ((some (FQ s t n)).filter FD))
 rw [Iu]
 cases hv:FD (FQ s t n) with
 | true=>exact Ev.ct hv (Ev.ret _)
 | false=>exact Ev.cf hv (Ev.ret _)
end
section
variable {s:StoreT} {t:aS} {n:af}
theorem T.fO.done (hl:s.Items.length<=1000):∀ (k i:Nat) (z:List aH),i+k=s.Items.length->z.length<=i+1->(∀ it,it∈s.Items.drop i->it.Name ≠ t) ->
    Ev (fun f=>G.fO.L3 f s t n s true i z) (StoreT.mk (z++s.Items.drop i) (IntKind.wrap .i64 (s.Clock+1))):=by
  intro k
  induction k with
  | zero =>
    intro i z hi hz _
    refine Ev.up ?_
    simp only [G.fO.L3]
    refine Ev.cf (decide_eq_false (by omega)) (Ev.ct rfl (Ev.ret' ?_))
    rw [List.drop_of_length_le (by omega),List.append_nil]
  | succ k ih =>
    intro i z hi hz hne
    have hil:i<s.Items.length:=by omega
    have hd:=bg (default:aH) hil
    rw [hd] at hne
    have h1:=hne (s.Items.getD i default) (by simp)
    refine Ev.up ?_
    simp only [G.fO.L3]
    refine Ev.ct (decide_eq_true (by omega)) (Ev.ct rfl (Ev.up ?_))
    simp only [G.fO.K4,Int.toNat_natCast,aV (show i+1<9223372036854775808 by omega)]
    refine Ev.chk (by omega) (Ev.cf (by simpa using h1) (Ev.chk (by omega) (Ev.chk (by omega) ?_)))
    refine (ih (i+1) _ (by omega) (by simp; omega) (fun it hit=>hne it (by simp [hit]))).eq ?_
    rw [hd]
    simp
theorem T.fO.more (hl:s.Items.length<=1000) (hA:Asc (oG s.Items)=true):∀ (k i:Nat) (z:List aH),i+k=s.Items.length->z.length<=i ->
    Ev (fun f=>G.fO.L3 f s t n s false i z) (StoreT.mk (z++vY (aH.mk t (IntKind.wrap .i64 (s.Clock+1)) n) (s.Items.drop i)) (IntKind.wrap .i64 (s.Clock+1))):=by
  intro k
  induction k with
  | zero =>
    intro i z hi hz
    refine Ev.up ?_
    simp only [G.fO.L3]
    refine Ev.cf (decide_eq_false (by omega)) (Ev.cf rfl (Ev.chk (by omega) (Ev.ret' ?_)))
    rw [List.drop_of_length_le (by omega)]
    rfl
  | succ k ih =>
    intro i z hi hz
    have hil:i<s.Items.length:=by omega
    have hd:=bg (default:aH) hil
    have later:∀ it,it∈s.Items.drop (i+1)->bl (s.Items.getD i default).Name it.Name=true:=fun it hit=>by
      obtain ⟨j,hj,e⟩:=List.mem_drop_iff_getElem.1 hit
      have hj':i+1+j<s.Items.length:=by omega
      have:=rZ hA i (i+1+j) (by omega) (by rw [nK]; exact hj')
      rw [rC hil,rC hj',bF _ hj',e] at this
      exact this
    refine Ev.up ?_
    simp only [G.fO.L3,Int.toNat_natCast]
    rw [hd,vY]
    refine Ev.ct (decide_eq_true (by omega)) (Ev.cf rfl (Ev.chk (by omega) ?_))
    refine Ev.ite (fun e => ?_) (fun e => ?_)
    · have e:bl (s.Items.getD i default).Name t=true:=e
      rw [if_pos e]
      refine Ev.up ?_
      simp only [G.fO.K4,Int.toNat_natCast,aV (show i+1<9223372036854775808 by omega)]
      refine Ev.chk (by omega) (Ev.cf (by simpa using uy e) (Ev.chk (by omega) (Ev.chk (by omega) ?_)))
      refine (ih (i+1) _ (by omega) (by simp; omega)).eq ?_
      simp
    · have e:bl (s.Items.getD i default).Name t=false:=e
      rw [if_neg (by simp only [e]; simp)]
      refine Ev.chk (by omega) (Ev.up ?_)
      simp only [G.fO.K4,Int.toNat_natCast,aV (show i+1<9223372036854775808 by omega)]
      refine Ev.chk (by omega) (Ev.ite (fun e2 => ?_) (fun e2 => ?_))
      · have e2:(s.Items.getD i default).Name=t:=by simpa using e2
        rw [if_pos e2]
        refine (T.fO.done hl k (i+1) _ (by omega) (by simp; omega) (fun it hit w=>by have:=uy (later it hit); rw [e2,w] at this; exact this rfl)).eq ?_
        simp
      · have e2:(s.Items.getD i default).Name ≠ t:=by simpa using e2
        rw [if_neg e2]
        have hx:bl t (s.Items.getD i default).Name=true:=by
          cases q:bl t (s.Items.getD i default).Name with
          | true=>rfl
          | false=>exact absurd (xm e q) e2
        refine Ev.chk (by omega) (Ev.chk (by simp; omega) ?_)
        refine (T.fO.done hl k (i+1) _ (by omega) (by simp; omega) (fun it hit w=>by have:=uy (pI hx (later it hit)); rw [w] at this; exact this rfl)).eq ?_
        simp
end
section
variable {B D:Nat} {s:StoreT} {t:aS} {n:af} (hB:B<=lim) (h:wJ B s)
include hB h
theorem T.fO (hn:Fine B D n) (hs:Qb s):Ev (fun f=>G.fO f s t n) (FQ s t n):=by
 have hl:=hs.len
 have hlo:=hs.lo
 have hhi:=hs.hi
 refine Ev.up ?_
 simp only [G.fO]
 refine Ev.bind (T.ay hB hn) (Ev.bind (T.bC hB h) ?_)
 refine (T.fO.more (by omega) hs.Be s.Items.length 0 [] (by omega) (by simp)).eq ?_
 rw [o5 (by omega) (by omega)]
 rfl
theorem RP (hs:Qb s) (ht:P5 t=true) (hn:Val n=true):wJ 60 (FQ s t n):=by
 have:=EN (x:=aH.mk t (s.Clock+1) n) (l:=s.Items)
 have:=hs.len
 refine ⟨by show (vY _ _).length<=_; omega,fun it hi => ?_,fun it hi => ?_⟩
 ·rcases (uh hs.Be).1 hi with e | ⟨e,_⟩
  ·rw [e]; show t.length<=60; have:=(Io ht).2; omega
  ·exact hs.fine.Fz it e
 ·rcases (uh hs.Be).1 hi with e | ⟨e,_⟩
  ·rw [e]; exact ⟨5,pY hn⟩
  ·exact hs.fine.KH it e
end
def Gp (l:List aH) (t:aS):Option Nat:=(List.range' 0 l.length).find? fun i=>(l.getD i default).Name==t
theorem vw {l:List aH} {t:aS} {j:Nat} : Gp l t=some j<->(j<l.length/\(l.getD j default).Name=t/\∀ q,q<j->(l.getD q default).Name ≠ t):=by
 unfold Gp
 rw [tV]
 constructor
 ·rintro ⟨_,h2,h3,h4⟩
  exact ⟨by omega,by simpa using h3,fun q hq=>by simpa using h4 q (by omega) hq⟩
 ·rintro ⟨h2,h3,h4⟩
  exact ⟨by omega,by omega,by simpa using h3,fun q _ hq=>by simpa using h4 q hq⟩
theorem JG {l:List aH} {t:aS} : Gp l t=none<->∀ it,it∈l->it.Name ≠ t:=by
 unfold Gp
 rw [xZ]
 constructor
 ·intro h it hit
  obtain ⟨i,hi,e⟩:=List.mem_iff_getElem.1 hit
  have:=h i (by omega) (by omega)
  rw [bF _ hi,e] at this
  simpa using this
 ·intro h q _ hq
  have:=h _ (getD_mem default (show q<l.length by omega))
  simpa using this
theorem T.iP {s:StoreT} (t:aS) (hl:s.Items.length<=lim):Ev (fun f=>G.iP f s t) (vH (Gp s.Items t)):=by
  unfold lim at hl
  have L:∀ (k i:Nat),i+k=s.Items.length->Ev (fun f=>G.iP.L1 f s t i) (vH ((List.range' i k).find? fun i=>(s.Items.getD i default).Name==t)):=by
    intro k
    induction k with
    | zero =>
      intro i hi
      refine Ev.up ?_
      simp only [G.iP.L1]
      exact Ev.cf (decide_eq_false (by omega)) (Ev.ret _)
    | succ k ih =>
      intro i hi
      refine Ev.up ?_
      simp only [G.iP.L1,Int.toNat_natCast,aV (show i+1<9223372036854775808 by omega)]
      rw [List.range'_succ,List.find?_cons]
      refine Ev.ct (decide_eq_true (by omega)) (Ev.chk (by omega) (Ev.ite (fun e=>Ev.ret' ?_) (fun e => ?_)))
      · simp only [show ((s.Items.getD i default).Name==t)=true from e]; rfl
      · simp only [show ((s.Items.getD i default).Name==t)=false from e]
        exact ih (i+1) (by omega)
  refine Ev.up ?_
  simp only [G.iP]
  exact L s.Items.length 0 (by omega)
def UN (s:StoreT) (t:aS):StoreT:=StoreT.mk (s.Items.filter fun it => !(it.Name==t)) (s.Clock+1)
def I5 (s:StoreT) (t:aS):Option StoreT:=if FD s&&(Gp s.Items t).isSome && !(s.Clock==999) then some (UN s t) else none
theorem T.jM {B:Nat} {s:StoreT} {t:aS} (hB:B<=lim) (h:wJ B s) (hs:Qb s):Ev (fun f=>G.jM f s t) (UN s t):=by
  have hl:=hs.len
  have hlo:=hs.lo
  have hhi:=hs.hi
  have L:∀ (k i:Nat) (z:List aH),i+k=s.Items.length->z.length<=i->Ev (fun f=>G.jM.L1 f s t s i z) (StoreT.mk (z++(s.Items.drop i).filter fun it => !(it.Name==t)) (IntKind.wrap .i64 (s.Clock+1))):=by
    intro k
    induction k with
    | zero =>
      intro i z hi hz
      refine Ev.up ?_
      simp only [G.jM.L1]
      refine Ev.cf (decide_eq_false (by omega)) (Ev.ret' ?_)
      rw [List.drop_of_length_le (by omega)]; simp
    | succ k ih =>
      intro i z hi hz
      have hil:i<s.Items.length:=by omega
      refine Ev.up ?_
      simp only [G.jM.L1,Int.toNat_natCast,aV (show i+1<9223372036854775808 by omega)]
      rw [bg (default:aH) hil,List.filter_cons]
      refine Ev.ct (decide_eq_true (by omega)) (Ev.chk (by omega) (Ev.ite (fun e => ?_) (fun e => ?_)))
      · rw [show ((s.Items.getD i default).Name==t)=true from e]
        exact (ih (i+1) z (by omega) (by omega)).eq (by simp)
      · rw [show ((s.Items.getD i default).Name==t)=false from e]
        refine Ev.chk (by omega) (Ev.chk (by omega) ?_)
        exact (ih (i+1) _ (by omega) (by simp; omega)).eq (by simp)
  refine Ev.up ?_
  simp only [G.jM]
  refine Ev.bind (T.bC hB h) ((L s.Items.length 0 [] (by omega) (by simp)).eq ?_)
  rw [o5 (by omega) (by omega)]
  rfl
end Go.Ab
end
section
namespace Go.Ab
open Go
set_option maxRecDepth 100000
def RF (b:UInt8):Bool:=(decide (48<=b.toNat)&&decide (b.toNat<=57))||(decide (97<=b.toNat)&&decide (b.toNat<=102))
def FH (s:aS):Bool:=s.all RF&&decide (s.length=4)
def Jc (s:aS):Bool:=s==[42]||FH s
def uS (l:List aS):Bool:=l.all Jc&&decide (l.length<=4)
def hexD:aS:=[48,49,50,51,52,53,54,55,56,57,97,98,99,100,101,102]
theorem Ub:∀ n:Nat,n<256->decide (Go.Lib.indexByte hexD (UInt8.ofNat n)<0) = !RF (UInt8.ofNat n):=by decide +kernel
theorem Vz (b:UInt8):decide (Go.Lib.indexByte hexD b<0) = !RF b:=by
 have:=Ub b.toNat b.toNat_lt
 rwa [UInt8.ofNat_toNat] at this
theorem T.fE (s:aS) (hs:s.length<big):Ev (fun f=>G.fE f s) (FH s):=by
  unfold big at hs
  have L:∀ (k i:Nat),i+k=s.length->Ev (fun f=>G.fE.L1 f s i) ((s.drop i).all RF&&decide (s.length=4)):=by
    intro k
    induction k with
    | zero =>
      intro i hi
      refine Ev.up ?_
      simp only [G.fE.L1]
      refine Ev.cf (decide_eq_false (by omega)) (Ev.ret' ?_)
      rw [List.drop_of_length_le (by omega),List.all_nil,Bool.true_and,Bool.eq_iff_iff,beq_iff_eq,decide_eq_true_eq]
      omega
    | succ k ih =>
      intro i hi
      refine Ev.up ?_
      simp only [G.fE.L1,Int.toNat_natCast,uZ,aV (show i+1<9223372036854775808 by omega)]
      rw [bg (0:UInt8) (by omega:i<s.length),List.all_cons]
      have e1:(decide ((48:Int)<=((s.getD i 0).toNat:Int))&&decide (((s.getD i 0).toNat:Int)<=57))=(decide (48<=(s.getD i 0).toNat)&&decide ((s.getD i 0).toNat<=57)):=by congr 1<;>(apply decide_eq_decide.2; omega)
      have e2:(decide ((97:Int)<=((s.getD i 0).toNat:Int))&&decide (((s.getD i 0).toNat:Int)<=102))=(decide (97<=(s.getD i 0).toNat)&&decide ((s.getD i 0).toNat<=102)):=by congr 1<;>(apply decide_eq_decide.2; omega)
      refine Ev.ct (decide_eq_true (by omega)) (Ev.chk (by omega) (Ev.bind (T.bK _ _ _) ?_))
      rw [e1]
      refine Ev.ite (fun h => ?_) (fun h => ?_)
      · refine (ih (i+1) (by omega)).eq ?_
        unfold RF
        rw [show (decide (48<=(s.getD i 0).toNat)&&decide ((s.getD i 0).toNat<=57))=true from h,Bool.true_or,Bool.true_and]
      · refine Ev.chk (by omega) (Ev.bind (T.bK _ _ _) ?_)
        rw [e2]
        refine Ev.ite (fun h2 => ?_) (fun h2=>Ev.ret' ?_)
        · refine (ih (i+1) (by omega)).eq ?_
          unfold RF
          rw [show (decide (97<=(s.getD i 0).toNat)&&decide ((s.getD i 0).toNat<=102))=true from h2,Bool.or_true,Bool.true_and]
        · unfold RF
          rw [show (decide (48<=(s.getD i 0).toNat)&&decide ((s.getD i 0).toNat<=57))=false from h,show (decide (97<=(s.getD i 0).toNat)&&decide ((s.getD i 0).toNat<=102))=false from h2]
          rfl
  refine Ev.up ?_
  simp only [G.fE]
  exact L s.length 0 (by omega)
theorem T.iw (s:aS) (hs:s.length<big):Ev (fun f=>G.iw f s) (FH s):=by
  unfold big at hs
  have hI:∀ b:UInt8,Ev (fun f=>G.strings_IndexByte f [48,49,50,51,52,53,54,55,56,57,97,98,99,100,101,102] ((b.toNat:Nat):Int)) (Go.Lib.indexByte hexD b):=fun b=>by
    refine Ev.up ?_
    simp only [G.strings_IndexByte]
    refine Ev.bind (Ev.up ?_) (Ev.ret _)
    simp only [G.dL]
    refine Ev.ret' ?_
    rw [Int.toNat_natCast,show b.toNat.toUInt8=b from UInt8.ofNat_toNat]
    rfl
  have L:∀ (k i:Nat),i+k=s.length->Ev (fun f=>G.iw.L1 f s i) ((s.drop i).all RF):=by
    intro k
    induction k with
    | zero =>
      intro i hi
      refine Ev.up ?_
      simp only [G.iw.L1]
      refine Ev.cf (decide_eq_false (by omega)) (Ev.ret' ?_)
      rw [List.drop_of_length_le (by omega)]; rfl
    | succ k ih =>
      intro i hi
      refine Ev.up ?_
      simp only [G.iw.L1,Int.toNat_natCast,aV (show i+1<9223372036854775808 by omega)]
      rw [bg (0:UInt8) (by omega:i<s.length),List.all_cons]
      refine Ev.ct (decide_eq_true (by omega)) (Ev.chk (by omega) (Ev.bind (hI _) ?_))
      rw [Vz]
      refine Ev.ite (fun h=>Ev.ret' ?_) (fun h=>(ih (i+1) (by omega)).eq ?_)
      · have:RF (s.getD i 0)=false:=by simpa using h
        rw [this]; rfl
      · have:RF (s.getD i 0)=true:=by simpa using h
        rw [this]; rfl
  refine Ev.up ?_
  simp only [G.iw]
  unfold FH
  refine Ev.ite (fun e=>Ev.ret' ?_) (fun e => ?_)
  · have:¬ s.length=4:=by
      have:((s.length:Nat):Int) ≠ 4:=by simpa using e
      omega
    rw [decide_eq_false this,Bool.and_false]
  · have:s.length=4:=by
      have:((s.length:Nat):Int)=4:=by simpa using e
      omega
    exact (L s.length 0 (by omega)).eq (by rw [decide_eq_true this,Bool.and_true,List.drop_zero])
theorem T.dR {l:List aS} (h:Sm l):Ev (fun f=>G.dR f l) (uS l):=by
  have hl:=h.1
  unfold big at hl
  have L:∀ (k i:Nat),i+k=l.length->Ev (fun f=>G.dR.L1 f l i) ((l.drop i).all Jc&&decide (l.length<=4)):=by
    intro k
    induction k with
    | zero =>
      intro i hi
      refine Ev.up ?_
      simp only [G.dR.L1]
      refine Ev.cf (decide_eq_false (by omega)) (Ev.ret' ?_)
      rw [List.drop_of_length_le (by omega),List.all_nil,Bool.true_and]
      apply decide_eq_decide.2; omega
    | succ k ih =>
      intro i hi
      refine Ev.up ?_
      simp only [G.dR.L1,Int.toNat_natCast,aV (show i+1<9223372036854775808 by omega)]
      rw [bg (default:aS) (by omega:i<l.length),List.all_cons]
      unfold Jc
      refine Ev.ct (decide_eq_true (by omega)) (Ev.chk (by omega) (Ev.ite (fun e=>(ih (i+1) (by omega)).eq (by rw [e]; rfl)) (fun e=>Ev.chk (by omega) (Ev.bind (T.fE _ (h.get (by omega))) ?_))))
      exact Ev.ite (fun e2=>(ih (i+1) (by omega)).eq (by rw [e,e2]; rfl)) (fun e2=>Ev.ret' (by rw [e,e2]; rfl))
  refine Ev.up ?_
  simp only [G.dR]
  exact L l.length 0 (by omega)
theorem T.dK {l:List aS} (h:Sm l):Ev (fun f=>G.dK f l) (uS l):=by
  have hl:=h.1
  unfold big at hl
  have L:∀ (k i:Nat),i+k=l.length->Ev (fun f=>G.dK.L1 f l i) ((l.drop i).all Jc):=by
    intro k
    induction k with
    | zero =>
      intro i hi
      refine Ev.up ?_
      simp only [G.dK.L1]
      refine Ev.cf (decide_eq_false (by omega)) (Ev.ret' ?_)
      rw [List.drop_of_length_le (by omega)]; rfl
    | succ k ih =>
      intro i hi
      refine Ev.up ?_
      simp only [G.dK.L1,Int.toNat_natCast,aV (show i+1<9223372036854775808 by omega)]
      rw [bg (default:aS) (by omega:i<l.length),List.all_cons]
      unfold Jc
      refine Ev.ct (decide_eq_true (by omega)) (Ev.chk (by omega) (Ev.ite (fun e=>(ih (i+1) (by omega)).eq (by rw [e]; rfl)) (fun e=>Ev.bind (T.iw _ (h.get (by omega))) ?_)))
      exact Ev.ite (fun e2=>(ih (i+1) (by omega)).eq (by rw [e,e2]; rfl)) (fun e2=>Ev.ret' (by rw [e,e2]; rfl))
  refine Ev.up ?_
  simp only [G.dK]
  unfold uS
  refine Ev.ite (fun e=>Ev.ret' ?_) (fun e=>(L l.length 0 (by omega)).eq ?_)
  · rw [decide_eq_false (show ¬ l.length<=4 by simp only [decide_eq_true_eq] at e; omega),Bool.and_false]
  · rw [decide_eq_true (show l.length<=4 by simp only [decide_eq_false_iff_not] at e; omega),Bool.and_true,List.drop_zero]
def Qa (q:RequestT):Bool:=(decide (1<=q.Method)&&decide (q.Method<=5))&&(P5 q.Name&&(uS q.Want&&(uS q.lK&&(Val q.Body&&wY q.Ops))))
section
variable {B:Nat} {q:RequestT} (hB:B<=lim) (h:CJ B q)
include hB h
theorem T.gU:Ev (fun f=>G.gU f q) (Qa q):=by
 obtain ⟨E,hb⟩:=h.body
 have hn:=h.Fz
 unfold lim at hB
 refine Ev.up ?_
 simp only [G.gU]
 unfold Qa
 refine Ev.ite (fun e0 => ?_) (fun e0=>Ev.ret' (by rw [e0]; rfl))
 refine Ev.ite (fun e1 => ?_) (fun e1=>Ev.ret' (by rw [e0,e1]; rfl))
 refine Ev.bind (T.dP _ (by unfold big; omega)) (Ev.ite (fun e2 => ?_) (fun e2=>Ev.ret' (by rw [e0,e1,e2]; rfl)))
 refine Ev.bind (T.dK (h.want.sm (by unfold lim; omega))) (Ev.ite (fun e3 => ?_) (fun e3=>Ev.ret' (by rw [e0,e1,e2,e3]; rfl)))
 refine Ev.bind (T.dK (h.avoid.sm (by unfold lim; omega))) (Ev.ite (fun e4 => ?_) (fun e4=>Ev.ret' (by rw [e0,e1,e2,e3,e4]; rfl)))
 refine Ev.bind (T.aC (by unfold lim; omega) hb) (Ev.ite (fun e5 => ?_) (fun e5=>Ev.ret' (by rw [e0,e1,e2,e3,e4,e5]; rfl)))
 exact Ev.bind (T.aT h.ops) (Ev.ret' (by rw [e0,e1,e2,e3,e4,e5]; rfl))
end
end Go.Ab
end
section
namespace Go.Ab
open Go
set_option maxRecDepth 100000
def HY (z:Int):aS:=if z<0 then 45::sS (-z).toNat else sS z.toNat
def AA (b:UInt8):aS:=if b=34\/b=92 then [92,b] else [b]
def Dq (s:aS):aS:=34::(s.flatMap AA++[34])
def ry (F:af->aS) (n:af) (i:Nat):aS:=((if 0<i then [44] else [])++(if n.Kind=4 then Dq (n.Names.getD i default)++[58] else []))++F (n.Kids.getD i default)
def oK:Nat->af->aS
  | 0,_=>[]
  | d+1,n=>if n.Kind=1 then HY n.Num else if n.Kind=2 then Dq n.Text else if n.Kind=0 then [110,117,108,108] else
    if n.Kind=4 then ([123]++(List.range' 0 n.Kids.length).flatMap (ry (oK d) n))++[125] else ([91]++(List.range' 0 n.Kids.length).flatMap (ry (oK d) n))++[93]
theorem BH {d:Nat} {n:af} : oK (d+1) n=if n.Kind=1 then HY n.Num else if n.Kind=2 then Dq n.Text else if n.Kind=0 then [110,117,108,108] else
  if n.Kind=4 then ([123]++(List.range' 0 n.Kids.length).flatMap (ry (oK d) n))++[125] else ([91]++(List.range' 0 n.Kids.length).flatMap (ry (oK d) n))++[93]:=by rw [oK]
theorem maxL:4000000000<=maxLen:=by decide
theorem IA (s:aS):(Dq s).length<=2*s.length+2:=by
  have:(s.flatMap AA).length<=2*s.length:=by
    induction s with
    | nil=>simp
    | cons b s ih =>
      rw [List.flatMap_cons,List.length_append,List.length_cons]
      have:(AA b).length<=2:=by unfold AA; split<;>simp
      omega
  unfold Dq
  simp only [List.length_cons,List.length_append,List.length_nil]
  omega
theorem FY {s:aS} {i:Nat} (h:i<s.length):(s.take (i+1)).drop i=[s.getD i 0]:=by
 rw [List.take_succ_eq_append_getElem h,List.drop_append_of_le_length (by simp; omega),List.drop_of_length_le (by rw [List.length_take]; omega),List.nil_append,bF _ h]
theorem T.gJ (s:aS) (hs:s.length<=1000000):Ev (fun f=>G.gJ f s) (Dq s):=by
  have hM:=maxL
  have L:∀ (k i:Nat) (z:aS),i+k=s.length->z.length<=2*i+1->Ev (fun f=>G.gJ.L1 f s z i) (z++((s.drop i).flatMap AA++[34])):=by
    intro k
    induction k with
    | zero =>
      intro i z hi hz
      refine Ev.up ?_
      simp only [G.gJ.L1]
      refine Ev.cf (decide_eq_false (by omega)) (Ev.chk (by omega) (Ev.ret' ?_))
      rw [List.drop_of_length_le (by omega)]; rfl
    | succ k ih =>
      intro i z hi hz
      have hil:i<s.length:=by omega
      have e1:=FY hil
      have two:s.getD i 0=34\/s.getD i 0=92->Ev (fun f=>G.gJ.L1 f s ((z++[92])++[s.getD i 0]) ((i+1:Nat):Int)) (z++((s.drop i).flatMap AA++[34])):=fun hq=>by
        refine (ih (i+1) _ (by omega) (by simp; omega)).eq ?_
        rw [bg (0:UInt8) hil,List.flatMap_cons]
        have:AA (s.getD i 0)=[92,s.getD i 0]:=if_pos hq
        rw [this]
        simp
      have WU:∀ c:UInt8,((((s.getD i 0).toNat:Nat):Int)==((c.toNat:Nat):Int))=(s.getD i 0==c):=fun c=>by
        rw [Bool.eq_iff_iff,beq_iff_eq,beq_iff_eq]
        exact ⟨fun h=>UInt8.toNat_inj.1 (by omega),fun h=>by rw [h]⟩
      refine Ev.up ?_
      simp only [G.gJ.L1,Int.toNat_natCast,aV (show i+1<9223372036854775808 by omega),e1]
      refine Ev.ct (decide_eq_true (by omega)) (Ev.chk (by omega) (Ev.ite (fun h => ?_) (fun h => ?_)))
      · have h:s.getD i 0=34:=by rw [show ((34:Int))=(((34:UInt8).toNat:Nat):Int) from rfl,WU] at h; simpa using h
        exact Ev.chk (by omega) (Ev.chk (by omega) (Ev.chk (by simp only [List.length_singleton]; omega) (two (.inl h))))
      · have h:s.getD i 0 ≠ 34:=by rw [show ((34:Int))=(((34:UInt8).toNat:Nat):Int) from rfl,WU] at h; simpa using h
        refine Ev.chk (by omega) (Ev.ite (fun h2 => ?_) (fun h2 => ?_))
        · have h2:s.getD i 0=92:=by rw [show ((92:Int))=(((92:UInt8).toNat:Nat):Int) from rfl,WU] at h2; simpa using h2
          exact Ev.chk (by omega) (Ev.chk (by omega) (Ev.chk (by simp only [List.length_singleton]; omega) (two (.inr h2))))
        · have h2:s.getD i 0 ≠ 92:=by rw [show ((92:Int))=(((92:UInt8).toNat:Nat):Int) from rfl,WU] at h2; simpa using h2
          refine Ev.chk (by omega) (Ev.chk (by simp only [List.length_singleton]; omega) ?_)
          refine (ih (i+1) _ (by omega) (by simp; omega)).eq ?_
          rw [bg (0:UInt8) hil,List.flatMap_cons]
          have:AA (s.getD i 0)=[s.getD i 0]:=if_neg (fun q=>q.elim h h2)
          rw [this]
          simp
  refine Ev.up ?_
  simp only [G.gJ]
  exact (L s.length 0 [34] (by omega) (by simp)).eq (by rw [List.drop_zero]; rfl)
theorem xu:∀ {i:Nat},i<=999999->(sS i).length<=6:=by
 have step:∀ {i m:Nat},(sS (i/10)).length<=m->(sS i).length<=m+1:=fun {i m} h=>by
  rw [sS]
  split
  ·simp
  ·simp; omega
 intro i h
 have h1:(sS (i/10/10/10/10/10)).length<=1:=by rw [vV (by omega)]; simp
 exact step (step (step (step (step h1))))
theorem Qs {z:Int} (h1 : -999999<=z) (h2:z<=999999):(HY z).length<=7:=by
 unfold HY
 split
 ·have:=xu (i:=(-z).toNat) (by omega)
  simp; omega
 ·have:=xu (i:=z.toNat) (by omega)
  omega
theorem T.PE {z:Int} (h1 : -999999<=z) (h2:z<=999999):Ev (fun f=>G.fG f z) (HY z):=by
 have hM:=maxL
 unfold HY
 by_cases h:z<0
 ·rw [if_pos h]
  have w:IntKind.wrap .i64 (0-z)=(((-z).toNat:Nat):Int):=wrapN (by omega) (by omega)
  have hl:=xu (i:=(-z).toNat) (by omega)
  refine Ev.up ?_
  simp only [G.fG,w]
  exact Ev.ct (decide_eq_true h) (Ev.cf (by simp only [beq_eq_false_iff_ne]; omega) (Ev.bind (T.decimal (by unfold lim; omega)) (Ev.chk (by omega) (Ev.ret' rfl))))
 ·rw [if_neg h]
  obtain ⟨k,rfl⟩:∃ k:Nat,z=k:=⟨z.toNat,by omega⟩
  rw [Int.toNat_natCast]
  exact T.decimal (by unfold lim; omega)
theorem Cb {n:af} (h:Parts n=true) (hk:n.Kind=1) : -999999<=n.Num/\n.Num<=999999:=by
 unfold Parts at h
 simp [hk] at h
 omega
theorem zn {n:af} (h:Parts n=true):n.Text.length<=12:=by
 by_cases hk:n.Kind=2
 ·unfold Parts at h
  simp [hk] at h
  exact EM h.2.1
 ·unfold Parts at h
  simp only [Bool.and_eq_true,Bool.or_eq_true,beq_iff_eq] at h
  have:=h.1.1.2.resolve_left hk
  rw [this]; simp
theorem TU {α:Type} {g:Nat->List α} {m:Nat} : ∀ (k i:Nat),(∀ j,i<=j->j<i+k->(g j).length<=m)->((List.range' i k).flatMap g).length<=k*m:=by
  intro k
  induction k with
  | zero=>intro i _; simp
  | succ k ih =>
    intro i h
    have h1:=h i (by omega) (by omega)
    have h2:=ih (i+1) (fun j h1 h2=>h j (by omega) (by omega))
    rw [List.range'_succ,List.flatMap_cons,List.length_append,Nat.add_mul]
    omega
theorem Ia:∀ (d:Nat) {n:af},Shape d n=true->(oK d n).length<=200*7^d
  | 0,_,h=>by cases h
  | d+1,n,h=>by
    have hp:=jG h
    have h6:=qR h
    have Wu:1<=7^d:=Nat.one_le_pow _ _ (by omega)
    rw [BH,Nat.pow_succ]
    have hb:((List.range' 0 n.Kids.length).flatMap (ry (oK d) n)).length<=6*(28+200*7^d):=by
      refine Nat.le_trans (TU (m:=28+200*7^d) _ _ (fun j _ hj => ?_)) (Nat.mul_le_mul_right _ h6)
      have hj':j<n.Kids.length:=by omega
      have hk:=Ia d (o9 h hj')
      unfold ry
      rw [List.length_append,List.length_append]
      have a1:(if 0<j then ([44]:aS) else []).length<=1:=by split<;>simp
      have a2:(if n.Kind=4 then Dq (n.Names.getD j default)++[58] else []).length<=27:=by
        split
        · rename_i h4
          obtain ⟨mn,_,hn⟩:=Aj hp h4
          have:=hn _ (getD_mem default (show j<n.Names.length by rw [<- mn.len]; exact hj'))
          have:=IA (n.Names.getD j default)
          simp only [List.length_append,List.length_singleton]
          omega
        · simp
      omega
    split
    · rename_i h1
      obtain ⟨b1,b2⟩:=Cb hp h1
      have:=Qs b1 b2
      omega
    · split
      · have:=zn hp
        have:=IA n.Text
        omega
      · split
        · simp only [List.length_cons,List.length_nil]; omega
        · split
          · simp only [List.length_append,List.length_singleton]; omega
          · simp only [List.length_append,List.length_singleton]; omega
theorem T.bM:∀ (d:Nat) {n:af},d<=5->Shape d n=true->Ev (fun f=>G.bM f n) (oK d n)
  | 0,_,_,h=>by cases h
  | d+1,n,hd,h=>by
    have hM:=maxL
    have hp:=jG h
    have h6:=qR h
    have Wu:=Cc hd
    rw [Nat.pow_succ] at Wu
    have L:∀ (k i:Nat) (z:aS),i+k=n.Kids.length->z.length<=i*1000000->Ev (fun f=>G.bM.L5 f n z i)
        (if n.Kind=4 then ([123]++(z++(List.range' i k).flatMap (ry (oK d) n)))++[125] else ([91]++(z++(List.range' i k).flatMap (ry (oK d) n)))++[93]):=by
      intro k
      induction k with
      | zero =>
        intro i z hi hz
        refine Ev.up ?_
        simp only [G.bM.L5]
        refine Ev.cf (decide_eq_false (by omega)) (Ev.ite (fun e=>Ev.chk (by omega) (Ev.chk (by omega) (Ev.ret' ?_))) (fun e=>Ev.chk (by omega) (Ev.chk (by omega) (Ev.ret' ?_))))
        · rw [if_pos (by simpa using e)]; simp
        · rw [if_neg (by simpa using e)]; simp
      | succ k ih =>
        intro i z hi hz
        have hil:i<n.Kids.length:=by omega
        have hk:=o9 h hil
        have hkl:=Ia d hk
        have K7:∀ z':aS,z'.length<=i*1000000+28->z'++oK d (n.Kids.getD i default)=z++ry (oK d) n i->Ev (fun f=>G.bM.K7 f n (i:Int) z')
            (if n.Kind=4 then ([123]++(z++(List.range' i (k+1)).flatMap (ry (oK d) n)))++[125] else ([91]++(z++(List.range' i (k+1)).flatMap (ry (oK d) n)))++[93]):=fun z' hz' he=>by
          refine Ev.up ?_
          simp only [G.bM.K7,Int.toNat_natCast,aV (show i+1<9223372036854775808 by omega)]
          refine Ev.chk (by omega) (Ev.bind (T.bM d (by omega) hk) (Ev.chk (by omega) ?_))
          refine (ih (i+1) _ (by omega) (by rw [List.length_append]; omega)).eq ?_
          rw [List.range'_succ,List.flatMap_cons,<- List.append_assoc z,<- he]
        have K6:∀ z':aS,z'=z++(if 0<i then [44] else [])->Ev (fun f=>G.bM.K6 f n (i:Int) z')
            (if n.Kind=4 then ([123]++(z++(List.range' i (k+1)).flatMap (ry (oK d) n)))++[125] else ([91]++(z++(List.range' i (k+1)).flatMap (ry (oK d) n)))++[93]):=fun z' he=>by
          have hz':z'.length<=i*1000000+1:=by
            rw [he,List.length_append]
            have:(if 0<i then ([44]:aS) else []).length<=1:=by split<;>simp
            omega
          refine Ev.up ?_
          simp only [G.bM.K6,Int.toNat_natCast]
          by_cases h4:n.Kind=4
          · obtain ⟨mn,_,hn⟩:=Aj hp h4
            have hin:i<n.Names.length:=by rw [<- mn.len]; exact hil
            have h12:=hn _ (getD_mem default hin)
            have hq:=IA (n.Names.getD i default)
            refine Ev.ct (by simpa using h4) (Ev.chk (by omega) (Ev.bind (T.gJ _ (by omega)) (Ev.chk (by omega) (Ev.chk (by omega) (K7 _ (by simp only [List.length_append,List.length_singleton]; omega) ?_)))))
            rw [he]
            unfold ry
            rw [if_pos h4]
            simp
          · refine Ev.cf (by simpa using h4) (K7 z' (Nat.le_trans hz' (Nat.add_le_add_left (by decide) _)) ?_)
            rw [he]
            unfold ry
            rw [if_neg h4]
            simp
        refine Ev.up ?_
        simp only [G.bM.L5]
        refine Ev.ct (decide_eq_true (by omega)) ?_
        by_cases h0:0<i
        · exact Ev.ct (decide_eq_true (by omega)) (Ev.chk (by omega) (K6 _ (by rw [if_pos h0])))
        · exact Ev.cf (decide_eq_false (by omega)) (K6 _ (by rw [if_neg h0,List.append_nil]))
    refine Ev.up ?_
    simp only [G.bM]
    rw [BH]
    refine Ev.ite (fun e => ?_) (fun e1 => ?_)
    · have e:n.Kind=1:=by simpa using e
      rw [if_pos e]
      obtain ⟨b1,b2⟩:=Cb hp e
      exact Ev.bind (T.PE b1 b2) (Ev.ret _)
    rw [if_neg (by simpa using e1)]
    refine Ev.ite (fun e => ?_) (fun e2 => ?_)
    · rw [if_pos (by simpa using e)]
      have:=zn hp
      exact Ev.bind (T.gJ _ (by omega)) (Ev.ret _)
    rw [if_neg (by simpa using e2)]
    refine Ev.ite (fun e => ?_) (fun e3 => ?_)
    · rw [if_pos (by simpa using e)]
      exact Ev.ret _
    rw [if_neg (by simpa using e3)]
    exact (L n.Kids.length 0 [] (by omega) (by simp)).eq (by simp)
def PI (s:aS):Nat:=s.foldl (fun n b=>(131*n+b.toNat)%65521) 17
def OH (k:Nat):UInt8:=hexD.getD k 0
def FN (n:Nat):aS:=[OH (n/4096),OH (n/256%16),OH (n/16%16),OH (n%16)]
def yz (n:af):aS:=if Val n then FN (PI (oK 5 n)) else []
theorem T.jB (s:aS) (hs:s.length<big):Ev (fun f=>G.jB f s) ((PI s:Nat):Int):=by
  unfold big at hs
  have L:∀ (k i m:Nat),i+k=s.length->m<65521->Ev (fun f=>G.jB.L1 f s (m:Int) i) (((s.drop i).foldl (fun n b=>(131*n+b.toNat)%65521) m:Nat):Int):=by
    intro k
    induction k with
    | zero =>
      intro i m hi _
      refine Ev.up ?_
      simp only [G.jB.L1]
      refine Ev.cf (decide_eq_false (by omega)) (Ev.ret' ?_)
      rw [List.drop_of_length_le (by omega)]; rfl
    | succ k ih =>
      intro i m hi hm
      have hb:=(s.getD i 0).toNat_lt
      refine Ev.up ?_
      simp only [G.jB.L1,Int.toNat_natCast,uZ,aV (show i+1<9223372036854775808 by omega),wrapN (x:=131*(m:Int)) (m:=131*m) (by omega) (by omega)]
      rw [wrapN (x:=((131*m:Nat):Int)+(((s.getD i 0).toNat:Nat):Int)) (m:=131*m+(s.getD i 0).toNat) (by omega) (by omega),show (65521:Int)=((65521:Nat):Int) from rfl,vO]
      rw [bg (0:UInt8) (by omega:i<s.length),List.foldl_cons]
      exact Ev.ct (decide_eq_true (by omega)) (Ev.chk (by omega) (ih (i+1) _ (by omega) (Nat.mod_lt _ (by omega))))
  refine Ev.up ?_
  simp only [G.jB]
  exact L s.length 0 17 (by omega) (by omega)
theorem sum_lt (s:aS):PI s<65521:=by
 unfold PI
 have:∀ (s:aS) (m:Nat),m<65521->s.foldl (fun n b=>(131*n+b.toNat)%65521) m<65521:=by
  intro s
  induction s with
  | nil=>intro m hm; exact hm
  | cons b s ih=>intro m hm; exact ih _ (Nat.mod_lt _ (by omega))
 exact this s 17 (by omega)
theorem T.ou {n:Nat} (h:n<65536):Ev (fun f=>G.ou f (n:Int)) (FN n):=by
 have hM:=maxL
 have w1:IntKind.wrap .i64 (Int.tdiv (n:Int) 4096)=((n/4096:Nat):Int):=by rw [show (4096:Int)=((4096:Nat):Int) from rfl,AZ]; exact wrapN rfl (by omega)
 have w2:IntKind.wrap .i64 (Int.tdiv (n:Int) 256)=((n/256:Nat):Int):=by rw [show (256:Int)=((256:Nat):Int) from rfl,AZ]; exact wrapN rfl (by omega)
 have w3:IntKind.wrap .i64 (Int.tdiv (n:Int) 16)=((n/16:Nat):Int):=by rw [show (16:Int)=((16:Nat):Int) from rfl,AZ]; exact wrapN rfl (by omega)
 have t2:Int.tmod ((n/256:Nat):Int) 16=((n/256%16:Nat):Int):=by rw [show (16:Int)=((16:Nat):Int) from rfl,vO]
 have t3:Int.tmod ((n/16:Nat):Int) 16=((n/16%16:Nat):Int):=by rw [show (16:Int)=((16:Nat):Int) from rfl,vO]
 have t4:Int.tmod (n:Int) 16=((n%16:Nat):Int):=by rw [show (16:Int)=((16:Nat):Int) from rfl,vO]
 refine Ev.up ?_
 simp only [G.ou,w1,w2,w3,t2,t3,t4,Int.toNat_natCast,UInt8.ofNat_toNat]
 exact Ev.chk (by omega) (Ev.chk (by omega) (Ev.chk (by omega) (Ev.chk (by omega) (Ev.chk (by omega) (Ev.ret' rfl)))))
theorem Uu (n:af):(yz n).length<=4:=by
 unfold yz
 split
 ·simp [FN]
 ·simp
def Xq:aH:=aH.mk [] 0 nG
def WI:Option aH->aH × Bool
 | some it=>(it,true)
 | none=>(Xq,false)
def I9 (s:StoreT) (t:aS):Option aH:=if FD s then (Gp s.Items t).map fun j=>s.Items.getD j default else none
theorem OC {s:StoreT} {t:aS} {it:aH} (h:I9 s t=some it):Qb s/\it∈s.Items/\it.Name=t/\Val it.Node=true:=by
 unfold I9 at h
 split at h
 ·rename_i hs
  obtain ⟨j,hj,rfl⟩:=Option.map_eq_some_iff.1 h
  obtain ⟨h1,h2,_⟩:=vw.1 hj
  have:=um.1 hs
  exact ⟨this,getD_mem default h1,h2,(this.it h1).KH⟩
 ·cases h
end Go.Ab
end
section
namespace Go.Ab
open Go
set_option maxRecDepth 100000
theorem T.wb {b:dI} {c:Int} (hc:0<=c/\c<256) (hl:b.buf.length+1<=140737488355328):Ev (fun f=>G.aG f b c) ((),dI.mk (b.buf++[UInt8.ofNat c.toNat])):=by
 refine Ev.up ?_
 simp only [G.aG]
 exact Ev.chk ⟨hc,hl⟩ (Ev.ret _)
theorem T.ws {b:dI} {s:aS} (hl:b.buf.length+s.length<=140737488355328):Ev (fun f=>G.fV f b s) (((s.length:Nat):Int),(),dI.mk (b.buf++s)):=by
 refine Ev.up ?_
 simp only [G.fV]
 exact Ev.chk hl (Ev.ret _)
theorem T.bs' {b:dI} (hl:b.buf.length<=140737488355328):Ev (fun f=>G.kN f b) b.buf:=by
 refine Ev.up ?_
 simp only [G.kN]
 exact Ev.chk hl (Ev.ret _)
theorem NK (b:UInt8):UInt8.ofNat ((b.toNat:Nat):Int).toNat=b:=by simp
theorem T.bP {s z:aS} (h:z.length+2*s.length+2<=4000000000):Ev (fun f=>G.bP f (dI.mk z) s) (dI.mk (z++Dq s)):=by
  have vS:∀ (z:aS) (b:UInt8),z.length<5000000000->Ev (fun f=>G.aG f (dI.mk z) ((b.toNat:Nat):Int)) ((),dI.mk (z++[b])):=fun z b hz=>by
    have:=T.wb (b:=dI.mk z) (c:=((b.toNat:Nat):Int)) (by have:=b.toNat_lt; omega) (by show z.length+1<=_; omega)
    rwa [NK] at this
  have L:∀ (k i:Nat) (z:aS),i+k=s.length->z.length+2*k+1<=4000000001->Ev (fun f=>G.bP.L3 f s (i:Int) z) (dI.mk (z++((s.drop i).flatMap AA++[34]))):=by
    intro k
    induction k with
    | zero =>
      intro i z hi hz
      rw [List.drop_eq_nil_of_le (by omega)]
      refine Ev.up ?_
      simp only [G.bP.L3]
      exact Ev.cf (decide_eq_false (by omega)) (Ev.bind (vS z 34 (by omega)) (Ev.ret' rfl))
    | succ k ih =>
      intro i z hi hz
      have hlt:i<s.length:=by omega
      have hd:s.drop i=s.getD i 0::s.drop (i+1):=by rw [List.drop_eq_getElem_cons hlt]; simp [List.getD,hlt]
      have hK:∀ z:aS,z.length+2*k+2<=4000000001->Ev (fun f=>G.bP.K4 f s (i:Int) z) (dI.mk (z++(s.getD i 0::((s.drop (i+1)).flatMap AA++[34])))):=fun z hz=>by
        refine Ev.up ?_
        simp only [G.bP.K4]
        rw [Int.toNat_natCast]
        refine Ev.chk (by omega) (Ev.bind (vS z (s.getD i 0) (by omega)) ?_)
        rw [aV (by omega)]
        have:=ih (i+1) (z++[s.getD i 0]) (by omega) (by simp; omega)
        simpa using this
      rw [hd]
      refine Ev.up ?_
      simp only [G.bP.L3]
      rw [Int.toNat_natCast]
      refine Ev.ct (decide_eq_true (by omega)) (Ev.chk (by omega) (Ev.ite (fun e => ?_) (fun e=>Ev.chk (by omega) (Ev.ite (fun e2 => ?_) (fun e2 => ?_)))))
      · have hb:s.getD i 0=34:=UInt8.toNat_inj.1 (by have:=beq_iff_eq.1 e; show (s.getD i 0).toNat=34; omega)
        refine Ev.bind (vS z 92 (by omega)) ?_
        have:=hK (z++[92]) (by simp; omega)
        rw [hb] at this ⊢
        simpa [AA] using this
      · have hb:s.getD i 0=92:=UInt8.toNat_inj.1 (by have:=beq_iff_eq.1 e2; show (s.getD i 0).toNat=92; omega)
        refine Ev.bind (vS z 92 (by omega)) ?_
        have:=hK (z++[92]) (by simp; omega)
        rw [hb] at this ⊢
        simpa [AA] using this
      · have:=hK z (by omega)
        have hq:AA (s.getD i 0)=[s.getD i 0]:=by
          unfold AA
          rw [if_neg]
          rintro (h | h)
          · rw [h] at e; simp at e
          · rw [h] at e2; simp at e2
        rw [List.flatMap_cons,hq]
        simpa using this
  refine Ev.up ?_
  simp only [G.bP]
  refine Ev.bind (vS z 34 (by omega)) ?_
  have:=L s.length 0 (z++[34]) (by omega) (by simp; omega)
  simpa [Dq] using this
end Go.Ab
end
section
namespace Go.Ab
open Go
set_option maxRecDepth 100000
theorem QY (z:Int):Lib.itoa z=HY z:=by
 unfold Lib.itoa HY
 split
 ·rw [LK (z.natAbs+1) z.natAbs (by omega),show z.natAbs=(-z).toNat from by omega]
 ·rw [LK (z.toNat+1) z.toNat (by omega)]
theorem T.itoa {z:Int} (h : -900000000000000<=z/\z<=900000000000000):Ev (fun f=>G.strconv_Itoa f z) (HY z):=by
 rw [<- QY]; exact T.Itoa h
theorem MB {n:af} (h:Parts n=true):n.Kind=0\/n.Kind=1\/n.Kind=2\/n.Kind=3\/n.Kind=4:=by
 by_cases h0:n.Kind=0\/n.Kind=1\/n.Kind=2\/n.Kind=3\/n.Kind=4
 ·exact h0
 ·simp only [not_or] at h0
  obtain ⟨a,b,c,d,e⟩:=h0
  unfold Parts at h
  rw [if_neg a,if_neg b,if_neg c,if_neg d,if_neg e] at h
  simp at h
theorem vS {z:aS} (b:UInt8) (hz:z.length<5000000000):Ev (fun f=>G.aG f (dI.mk z) ((b.toNat:Nat):Int)) ((),dI.mk (z++[b])):=by
 have:=T.wb (b:=dI.mk z) (c:=((b.toNat:Nat):Int)) (by have:=b.toNat_lt; omega) (by show z.length+1<=_; omega)
 rwa [NK] at this
theorem JF (F:af->aS) (n:af) (i:Nat):ry F n i=(if 0<i then [44] else [])++((if n.Kind=4 then Dq (n.Names.getD i default)++[58] else [])++F (n.Kids.getD i default)):=by
 unfold ry; rw [List.append_assoc]
theorem T.aI:∀ (d:Nat) {n:af} {z:aS},Shape d n=true->z.length+(oK d n).length<=2000000000->Ev (fun f=>G.aI f (dI.mk z) n) (dI.mk (z++oK d n))
  | 0,_,_,h,_=>by cases h
  | d+1,n,z,h,hz=>by
    have hp:=jG h
    have h6:=qR h
    rw [BH] at hz ⊢
    have L3:n.Kind=3->∀ (k i:Nat) (z:aS),i+k=n.Kids.length->z.length+((List.range' i k).flatMap (ry (oK d) n)++[93]).length<=2000000000 ->
        Ev (fun f=>G.aI.L3 f n (i:Int) z) (dI.mk (z++((List.range' i k).flatMap (ry (oK d) n)++[93]))):=by
      intro hk3 k
      induction k with
      | zero =>
        intro i z hi hz
        refine Ev.up ?_
        simp only [G.aI.L3]
        refine Ev.cf (decide_eq_false (by omega)) (Ev.bind (vS 93 (by omega)) (Ev.ret' ?_))
        simp
      | succ k ih =>
        intro i z hi hz
        have hil:i<n.Kids.length:=by omega
        rw [List.range'_succ,List.flatMap_cons] at hz ⊢
        simp only [List.length_append] at hz
        have ez:ry (oK d) n i=(if 0<i then [44] else [])++oK d (n.Kids.getD i default):=by rw [JF,if_neg (by omega:¬ n.Kind=4),List.nil_append]
        have hK:∀ z':aS,z'=z++(if 0<i then [44] else [])->Ev (fun f=>G.aI.K4 f n (i:Int) z') (dI.mk (z++((ry (oK d) n i++(List.range' (i+1) k).flatMap (ry (oK d) n))++[93]))):=fun z' he=>by
          have e2:z'++oK d (n.Kids.getD i default)=z++ry (oK d) n i:=by rw [he,ez,List.append_assoc]
          have e3:=congrArg List.length e2
          simp only [List.length_append] at e3
          refine Ev.up ?_
          simp only [G.aI.K4,Int.toNat_natCast,aV (show i+1<9223372036854775808 by omega)]
          refine Ev.bind (T.aI d (o9 h hil) (by omega)) ?_
          refine (ih (i+1) _ (by omega) (by simp only [List.length_append]; omega)).eq ?_
          rw [e2]; simp only [List.append_assoc]
        refine Ev.up ?_
        simp only [G.aI.L3]
        refine Ev.ct (decide_eq_true (by omega)) (Ev.chk (by omega) ?_)
        by_cases h0:0<i
        · exact Ev.ct (decide_eq_true (by omega)) (Ev.bind (vS 44 (by omega)) (hK _ (by rw [if_pos h0])))
        · exact Ev.cf (decide_eq_false (by omega)) (hK _ (by rw [if_neg h0,List.append_nil]))
    have L7:n.Kind=4->∀ (k i:Nat) (z:aS),i+k=n.Kids.length->z.length+((List.range' i k).flatMap (ry (oK d) n)++[125]).length<=2000000000 ->
        Ev (fun f=>G.aI.L7 f n (i:Int) z) (dI.mk (z++((List.range' i k).flatMap (ry (oK d) n)++[125]))):=by
      intro hk4 k
      obtain ⟨mn,_,hn⟩:=Aj hp hk4
      induction k with
      | zero =>
        intro i z hi hz
        refine Ev.up ?_
        simp only [G.aI.L7]
        refine Ev.cf (decide_eq_false (by omega)) (Ev.bind (vS 125 (by omega)) (Ev.ret' ?_))
        simp
      | succ k ih =>
        intro i z hi hz
        have hil:i<n.Kids.length:=by omega
        have hin:i<n.Names.length:=by rw [<- mn.len]; exact hil
        have h12:=hn _ (getD_mem default hin)
        rw [List.range'_succ,List.flatMap_cons] at hz ⊢
        simp only [List.length_append] at hz
        have ez:ry (oK d) n i=(if 0<i then [44] else [])++((Dq (n.Names.getD i default)++[58])++oK d (n.Kids.getD i default)):=by rw [JF,if_pos hk4]
        have hK:∀ z':aS,z'=z++(if 0<i then [44] else [])->Ev (fun f=>G.aI.K8 f n (i:Int) z') (dI.mk (z++((ry (oK d) n i++(List.range' (i+1) k).flatMap (ry (oK d) n))++[125]))):=fun z' he=>by
          have e2:((z'++Dq (n.Names.getD i default))++[58])++oK d (n.Kids.getD i default)=z++ry (oK d) n i:=by rw [he,ez]; simp only [List.append_assoc]
          have e3:=congrArg List.length e2
          simp only [List.length_append] at e3
          refine Ev.up ?_
          simp only [G.aI.K8,Int.toNat_natCast,aV (show i+1<9223372036854775808 by omega)]
          refine Ev.chk (by omega) (Ev.bind (T.bP (by omega)) (Ev.bind (vS 58 (by simp only [List.length_append]; omega)) ?_))
          refine Ev.bind (T.aI d (o9 h hil) (by simp only [List.length_append]; omega)) ?_
          refine (ih (i+1) _ (by omega) (by simp only [List.length_append]; omega)).eq ?_
          rw [e2]; simp only [List.append_assoc]
        refine Ev.up ?_
        simp only [G.aI.L7]
        refine Ev.ct (decide_eq_true (by omega)) (Ev.chk (by omega) ?_)
        by_cases h0:0<i
        · exact Ev.ct (decide_eq_true (by omega)) (Ev.bind (vS 44 (by omega)) (hK _ (by rw [if_pos h0])))
        · exact Ev.cf (decide_eq_false (by omega)) (hK _ (by rw [if_neg h0,List.append_nil]))
    refine Ev.up ?_
    simp only [G.aI]
    rcases MB hp with e | e | e | e | e<;>simp only [e,reduceIte,Int.reduceEq] at hz ⊢
    · exact Ev.ct rfl (Ev.bind (T.ws (by simp only [List.length_cons,List.length_nil] at hz ⊢; omega)) (Ev.ret _))
    · obtain ⟨b1,b2⟩:=Cb hp e
      exact Ev.cf rfl (Ev.ct rfl (Ev.bind (T.itoa (by omega)) (Ev.bind (T.ws (by show z.length+_<=_; omega)) (Ev.ret _))))
    · have:=zn hp
      exact Ev.cf rfl (Ev.cf rfl (Ev.ct rfl (Ev.bind (T.bP (by omega)) (Ev.ret _))))
    · refine Ev.cf rfl (Ev.cf rfl (Ev.cf rfl (Ev.ct rfl (Ev.bind (vS 91 (by omega)) ?_))))
      refine (L3 e n.Kids.length 0 (z++[91]) (by omega) (by simp only [List.length_append,List.length_cons,List.length_nil] at hz ⊢; omega)).eq ?_
      simp only [List.append_assoc]
    · refine Ev.cf rfl (Ev.cf rfl (Ev.cf rfl (Ev.cf rfl (Ev.ct rfl (Ev.bind (vS 123 (by omega)) ?_)))))
      refine (L7 e n.Kids.length 0 (z++[123]) (by omega) (by simp only [List.length_append,List.length_cons,List.length_nil] at hz ⊢; omega)).eq ?_
      simp only [List.append_assoc]
theorem fmt5 {n:af} (h:Val n=true):(oK 5 n).length<=4000000:=by
 have:=Ia 5 (jY h)
 have:=Cc (Nat.le_refl 5)
 omega
def U9 (n:af):aS:=if Val n then oK 5 n else []
theorem T.jl {B D:Nat} {n:af} (hB:B<=lim) (h:Fine B D n):Ev (fun f=>G.jl f n) (U9 n):=by
 refine Ev.up ?_
 simp only [G.jl]
 unfold U9
 refine Ev.bind (T.aC hB h) (Ev.ite (fun e => ?_) (fun e=>Ev.ret' (by rw [e]; rfl)))
 have hl:=fmt5 e
 rw [e]
 exact Ev.bind (T.aI 5 (jY e) (by simp only [List.length_nil]; omega)) (Ev.bind (T.bs' (by show (_:aS).length<=_; simp only [List.nil_append]; omega)) (Ev.ret _))
theorem T.di (s:aS) (hs:s.length<big):Ev (fun f=>G.di f s) (FN (PI s)):=by
  unfold big at hs
  have hM:=maxL
  have L2:∀ m:Nat,m<65521->Ev (fun f=>G.di.L2 f (m:Int) 3 (List.replicate 4 0)) (FN m):=fun m hm=>by
    have st:∀ m:Nat,m<65521->IntKind.wrap .i64 (Int.tdiv (m:Int) 16)=((m/16:Nat):Int):=fun m hm=>by rw [show (16:Int)=((16:Nat):Int) from rfl,AZ]; exact wrapN rfl (by omega)
    have tm:∀ m:Nat,Int.tmod (m:Int) 16=((m%16:Nat):Int):=fun m=>by rw [show (16:Int)=((16:Nat):Int) from rfl,vO]
    refine Ev.up ?_
    simp only [G.di.L2,tm,st m hm,Int.toNat_natCast]
    refine Ev.ct rfl (Ev.chk (by omega) (Ev.chk (by simp) (Ev.chk (by omega) ?_)))
    refine Ev.up ?_
    simp only [G.di.L2,tm,st (m/16) (by omega),Int.toNat_natCast]
    refine Ev.ct rfl (Ev.chk (by omega) (Ev.chk (by simp; decide) (Ev.chk (by decide) ?_)))
    refine Ev.up ?_
    simp only [G.di.L2,tm,st (m/16/16) (by omega),Int.toNat_natCast]
    refine Ev.ct rfl (Ev.chk (by omega) (Ev.chk (by simp; decide) (Ev.chk (by decide) ?_)))
    refine Ev.up ?_
    simp only [G.di.L2,tm,st (m/16/16/16) (by omega),Int.toNat_natCast]
    refine Ev.ct rfl (Ev.chk (by omega) (Ev.chk (by simp; decide) (Ev.chk (by decide) ?_)))
    refine Ev.up ?_
    simp only [G.di.L2]
    refine Ev.cf rfl (Ev.chk (by simp) (Ev.chk (by simp; omega) (Ev.ret' ?_)))
    unfold FN OH
    rw [show m/4096=m/16/16/16%16 by omega,show m/256%16=m/16/16%16 by omega]
    show uf [((hexD.getD (m/16/16/16%16) 0).toNat:Int),((hexD.getD (m/16/16%16) 0).toNat:Int),((hexD.getD (m/16%16) 0).toNat:Int),((hexD.getD (m%16) 0).toNat:Int)]=_
    simp [uf]
  have L:∀ (k i m:Nat),i+k=s.length->m<65521->Ev (fun f=>G.di.L1 f s (m:Int) i) (FN ((s.drop i).foldl (fun n b=>(131*n+b.toNat)%65521) m)):=by
    intro k
    induction k with
    | zero =>
      intro i m hi hm
      refine Ev.up ?_
      simp only [G.di.L1]
      rw [List.drop_of_length_le (by omega)]
      exact Ev.cf (decide_eq_false (by omega)) (L2 m hm)
    | succ k ih =>
      intro i m hi hm
      have hb:=(s.getD i 0).toNat_lt
      refine Ev.up ?_
      simp only [G.di.L1,Int.toNat_natCast,uZ,aV (show i+1<9223372036854775808 by omega),wrapN (x:=131*(m:Int)) (m:=131*m) (by omega) (by omega)]
      rw [wrapN (x:=((131*m:Nat):Int)+(((s.getD i 0).toNat:Nat):Int)) (m:=131*m+(s.getD i 0).toNat) (by omega) (by omega),show (65521:Int)=((65521:Nat):Int) from rfl,vO]
      rw [bg (0:UInt8) (by omega:i<s.length),List.foldl_cons]
      exact Ev.ct (decide_eq_true (by omega)) (Ev.chk (by omega) (ih (i+1) _ (by omega) (Nat.mod_lt _ (by omega))))
  refine Ev.up ?_
  simp only [G.di]
  exact L s.length 0 17 (by omega) (by omega)
theorem T.lG {B D:Nat} {n:af} (hB:B<=lim) (h:Fine B D n):Ev (fun f=>G.lG f n) (yz n):=by
 refine Ev.up ?_
 simp only [G.lG]
 unfold yz
 refine Ev.bind (T.aC hB h) (Ev.ite (fun e => ?_) (fun e=>Ev.ret' (by rw [e]; rfl)))
 have hl:=fmt5 e
 have hf:=T.jl hB h
 unfold U9 at hf
 rw [e] at hf ⊢
 exact Ev.bind hf (Ev.bind (T.di _ (by show (oK 5 n).length<_; unfold big; omega)) (Ev.ret _))
end Go.Ab
end
section
namespace Go.Ab
open Go
set_option maxRecDepth 100000
theorem Pg {n:af} {s:aS} : pW n [s]=rE n s:=by
 unfold pW sO
 rfl
theorem T.dG:∀ (d:Nat) {E:Nat} {n p:af},d<=5->Shape d p=true->ShN E n->Ev (fun f=>G.dG f n p) (x9 d n p)
  | 0,_,_,_,_,h,_=>by cases h
  | d+1,E,n,p,hd,hp,hn=>by
    refine Ev.up ?_
    simp only [G.dG]
    rw [EJ]
    refine Ev.ite (fun c => ?_) (fun c => ?_)
    · have:¬ p.Kind=4:=by simpa using c
      rw [if_neg this]
      exact Ev.bind (T.ay qJ (nR hp)) (Ev.ret _)
    · have kp:p.Kind=4:=by simpa using c
      rw [if_pos kp]
      have mp:=Nw hp kp
      obtain ⟨e,he,hb,hq⟩:=KX hn
      have hl:=mp.len
      have hk:=mp.mp.map.len
      have hF:=fun (o q:af) (ho:ShN e o) (hq:Shape d q=true)=>Am d hq ho
      have facts:=fun i hi=>BQ (F:=x9 d) mp (Ak hb (by omega:e<=d+e+1) (Nat.le_refl _)) (Q:=ShN e) (.inr rfl) hq hF i hi
      have L:∀ (t i:Nat),i+t=p.Kids.length->Ev (fun f=>G.dG.L2 f p (i:Int) ((List.range' 0 i).foldl (Dp (x9 d) p) (Bl n)).Kind ((List.range' 0 i).foldl (Dp (x9 d) p) (Bl n)).Num ((List.range' 0 i).foldl (Dp (x9 d) p) (Bl n)).Text ((List.range' 0 i).foldl (Dp (x9 d) p) (Bl n)).Names ((List.range' 0 i).foldl (Dp (x9 d) p) (Bl n)).Kids) ((List.range' 0 p.Kids.length).foldl (Dp (x9 d) p) (Bl n)):=by
        intro t
        induction t with
        | zero =>
          intro i hi
          have:i=p.Kids.length:=by omega
          subst this
          refine Ev.up ?_
          simp only [G.dG.L2]
          exact Ev.cf (decide_eq_false (by omega)) (Ev.ret' (af.eta _))
        | succ t ih =>
          intro i hi
          have hnx:=ih (i+1) (by omega)
          rw [vZ,List.foldl_append,List.foldl_cons,List.foldl_nil] at hnx
          obtain ⟨h1,h2⟩:=facts i (by omega)
          generalize (List.range' 0 i).foldl (Dp (x9 d) p) (Bl n)=m at h1 h2 hnx ⊢
          have hi':i<p.Kids.length:=by omega
          have hx:=o9 mp.sh hi'
          have hc:=h1.cnt
          have hms:lk m (p.Names.getD i default)=lk (Bl n) (p.Names.getD i default):=by rw [h2,if_neg (BV mp.mp.map hi')]
          have hfm:=h1.fine (by omega)
          refine Ev.up ?_
          simp only [G.dG.L2,Int.toNat_natCast,aV (show i+1<9223372036854775808 by omega),af.eta]
          unfold Dp at hnx
          refine Ev.ct (decide_eq_true (by omega)) (Ev.chk (by omega) (Ev.bind (T.dH _ qJ hfm) (Ev.chk (by omega) ?_)))
          cases hpl:rG m (p.Names.getD i default) with
          | none =>
            have neg:decide (0<=vH none)=false:=by decide
            have hlk:lk m (p.Names.getD i default)=none:=by unfold lk; rw [hpl]; rfl
            by_cases c:(p.Kids.getD i default).Kind=0
            · rw [if_pos c] at hnx
              have:(rE m (p.Names.getD i default)).getD m=m:=by unfold rE; rw [hpl]; rfl
              rw [this] at hnx
              exact Ev.ct (by simpa using c) (Ev.cf neg (Ev.chk (by omega) (Ev.cf (by simpa using c) (Ev.chk (by omega) hnx))))
            · rw [if_neg c,hlk] at hnx
              have hf:=hF nG _ (.inr rfl) hx
              obtain ⟨g1,_⟩:=MH h1 (mp.name hi') hf
              have g3:=T.jC (p.Names.getD i default) (show 12<lim by decide) hfm hf
              rw [g1] at g3
              exact Ev.cf (by simpa using c) (Ev.chk (by omega) (Ev.ct (by simpa using c) (Ev.cf neg (Ev.chk (by omega) (Ev.chk (by omega) (Ev.bind (T.dG d (by omega) hx (.inr rfl:ShN 0 nG)) (Ev.bind g3 hnx)))))))
          | some j =>
            have pos:decide (0<=vH (some j))=true:=decide_eq_true (by show (0:Int)<=(j:Int); omega)
            have hjl:=nX hpl
            have hlk:lk m (p.Names.getD i default)=some (m.Kids.getD j default):=by unfold lk; rw [hpl]; rfl
            by_cases c:(p.Kids.getD i default).Kind=0
            · rw [if_pos c] at hnx
              have g3:=T.eU [p.Names.getD i default] (show 12+1<lim by decide) (by unfold big; simp) hfm
              rw [Pg] at g3
              obtain ⟨m',hm'⟩:∃ m',rE m (p.Names.getD i default)=some m':=by unfold rE; rw [hpl]; exact ⟨_,rfl⟩
              rw [hm'] at g3 hnx
              exact Ev.ct (by simpa using c) (Ev.ct pos (Ev.bind g3 hnx))
            · rw [if_neg c,hlk] at hnx
              have hso:ShN e (m.Kids.getD j default):=by
                rw [hms] at hlk
                exact hq _ (L6 hlk)
              have hf:=hF _ _ hso hx
              have e1:J5 m (p.Names.getD i default) (x9 d (m.Kids.getD j default) (p.Kids.getD i default))=uk m j (x9 d (m.Kids.getD j default) (p.Kids.getD i default)):=by unfold J5; rw [GL h1.mp.map hpl]; rfl
              rw [Option.getD_some,e1] at hnx
              refine Ev.cf (by simpa using c) (Ev.chk (by omega) (Ev.ct (by simpa using c) (Ev.ct pos ?_)))
              show Ev (fun f=>Ab.chk _ _) _
              simp only [vH,Int.toNat_natCast]
              exact Ev.chk (by omega) (Ev.chk (by omega) (Ev.bind (T.dG d (by omega) hx hso) (Ev.bind (T.iQ qJ hfm hf hjl) hnx)))
      have L':Ev (fun f=>G.dG.K1 f p (Bl n).Kind (Bl n).Num (Bl n).Text (Bl n).Names (Bl n).Kids) ((List.range' 0 p.Kids.length).foldl (Dp (x9 d) p) (Bl n)):=by
        refine Ev.up ?_
        simp only [G.dG.K1]
        exact L p.Kids.length 0 (by omega)
      unfold Bl at L' ⊢
      refine Ev.ite (fun c => ?_) (fun c => ?_)
      · have kn:n.Kind=4:=by simpa using c
        rw [if_pos kn] at L' ⊢
        have hf:Fine 12 E n:=by
          rcases hn with h | h
          · exact nR h
          · rw [h] at kn; cases kn
        exact Ev.bind (T.ay qJ hf) L'
      · have kn:¬ n.Kind=4:=by simpa using c
        rw [if_neg kn] at L' ⊢
        exact L'
def NT (n p:af):Option af:=if Val n&&Val p then (some (x9 5 n p)).filter Val else none
theorem T.jA {D E:Nat} {n p:af} (hn:Fine 60 D n) (hp:Fine 60 E p):Ev (fun f=>G.jA f n p) (iV (NT n p)):=by
 refine Ev.up ?_
 simp only [G.jA]
 unfold NT
 refine Ev.bind (T.bD qK hn) (Ev.ite (fun e1 => ?_) (fun e1=>Ev.ret' (by rw [e1]; rfl)))
 refine Ev.bind (T.bD qK hp) (Ev.ite (fun e2 => ?_) (fun e2=>Ev.ret' (by rw [e1,e2]; rfl)))
 have gp:=T.dG 5 (by omega) (jY e2) (.inl (jY e1))
 have gc:=T.je (o:=some (x9 5 n p)) qJ (fun m hm=>by cases hm; exact Am 5 (jY e2) (.inl (jY e1)))
 rw [e1,e2]
 exact Ev.bind gp (Ev.bind gc (Ev.ret _))
def NU (l:List aS) (t:aS):Bool:=decide (t∈l)||decide (([42]:aS)∈l)
theorem T.gu {l:List aS} {t:aS} (hl:l.length<=1000):Ev (fun f=>G.gu f l t) (NU l t):=by
  have L:∀ (k i:Nat),i+k=l.length->Ev (fun f=>G.gu.L1 f l t i) (NU (l.drop i) t):=by
    intro k
    induction k with
    | zero =>
      intro i hi
      refine Ev.up ?_
      simp only [G.gu.L1]
      refine Ev.cf (decide_eq_false (by omega)) (Ev.ret' ?_)
      rw [List.drop_of_length_le (by omega)]; rfl
    | succ k ih =>
      intro i hi
      have e:NU (l.drop i) t=(l.getD i default==t||(l.getD i default==[42]||NU (l.drop (i+1)) t)):=by
        rw [bg default (by omega:i<l.length)]
        unfold NU
        rw [Bool.eq_iff_iff]
        simp only [Bool.or_eq_true,decide_eq_true_eq,List.mem_cons,beq_iff_eq]
        constructor
        · rintro ((h | h) | (h | h))
          · exact .inl h.symm
          · exact .inr (.inr (.inl h))
          · exact .inr (.inl h.symm)
          · exact .inr (.inr (.inr h))
        · rintro (h | h | h | h)
          · exact .inl (.inl h.symm)
          · exact .inr (.inl h.symm)
          · exact .inl (.inr h)
          · exact .inr (.inr h)
      refine Ev.up ?_
      simp only [G.gu.L1,Int.toNat_natCast,aV (show i+1<9223372036854775808 by omega)]
      rw [e]
      refine Ev.ct (decide_eq_true (by omega)) (Ev.chk (by omega) (Ev.ite (fun e1=>Ev.ret' (by rw [e1]; rfl)) (fun e1=>Ev.chk (by omega) (Ev.ite (fun e2=>Ev.ret' (by rw [e1,e2]; rfl)) (fun e2 => ?_)))))
      rw [e1,e2]
      exact ih (i+1) (by omega)
  refine Ev.up ?_
  simp only [G.gu]
  exact L l.length 0 (by omega)
theorem T.Contains {l:List aS} {t:aS} (hl:l.length<=1000):Ev (fun f=>G.slices_Contains_string f l t) (decide (t∈l)):=by
  have L:∀ (k i:Nat),i+k=l.length->∃ r:Int,Ev (fun f=>G.slices_Index_string.L1 f l t i) r/\decide (0<=r)=decide (t∈l.drop i):=by
    intro k
    induction k with
    | zero =>
      intro i hi
      refine ⟨-1,Ev.up ?_,by rw [List.drop_of_length_le (by omega)]; simp⟩
      simp only [G.slices_Index_string.L1]
      exact Ev.cf (decide_eq_false (by omega)) (Ev.ret _)
    | succ k ih =>
      intro i hi
      rw [bg default (by omega:i<l.length)]
      by_cases c:t=l.getD i default
      · refine ⟨i,Ev.up ?_,by rw [<- c]; simp⟩
        simp only [G.slices_Index_string.L1,Int.toNat_natCast]
        exact Ev.ct (decide_eq_true (by omega)) (Ev.chk (by omega) (Ev.ct (beq_iff_eq.2 c) (Ev.ret _)))
      · obtain ⟨r,h1,h2⟩:=ih (i+1) (by omega)
        refine ⟨r,Ev.up ?_,by rw [h2]; simp only [List.mem_cons,c,false_or]⟩
        simp only [G.slices_Index_string.L1,Int.toNat_natCast,aV (show i+1<9223372036854775808 by omega)]
        exact Ev.ct (decide_eq_true (by omega)) (Ev.chk (by omega) (Ev.cf (beq_eq_false_iff_ne.2 c) h1))
  obtain ⟨r,h1,h2⟩:=L l.length 0 (by omega)
  rw [List.drop_zero] at h2
  refine Ev.up ?_
  simp only [G.slices_Contains_string]
  refine Ev.bind (a:=r) (Ev.up ?_) (Ev.ret' h2)
  simp only [G.slices_Index_string]
  exact h1
theorem T.jf {l:List aS} {t:aS} (hl:l.length<=1000):Ev (fun f=>G.jf f l t) (NU l t):=by
 refine Ev.up ?_
 simp only [G.jf]
 unfold NU
 exact Ev.bind (T.Contains hl) (Ev.ite (fun e=>Ev.ret' (by rw [e]; rfl)) (fun e=>Ev.bind (T.Contains hl) (Ev.ret' (by rw [e]; rfl))))
def Df (w a:List aS) (t:aS) (rd:Bool):Int :=
 if !w.isEmpty&&(t==[] || !NU w t) then 412 else if !a.isEmpty&&(!(t==[])&&NU a t) then (if rd then 304 else 412) else 200
theorem Nv {α:Type} (l:List α):decide ((0:Int)<((l.length:Nat):Int)) = !l.isEmpty:=by cases l<;>simp
theorem T.lT {w a:List aS} {t:aS} {rd:Bool} (hw:w.length<=1000) (ha:a.length<=1000):Ev (fun f=>G.lT f w a t rd) (Df w a t rd):=by
 refine Ev.up ?_
 simp only [G.lT,Nv]
 unfold Df
 have A:=T.gu (t:=t) ha
 have W:=T.gu (t:=t) hw
 generalize NU a t=na at *
 generalize NU w t=nw at *
 generalize w.isEmpty=ew
 generalize a.isEmpty=ea
 generalize (t==[])=et
 cases ew<;>cases ea<;>cases et<;>cases na<;>cases nw<;>cases rd<;>exact Xf
theorem T.eX {w a:List aS} {t:aS} {rd:Bool} (hw:uS w=true) (ha:uS a=true) (sw:Sm w) (sa:Sm a) (ht:t=[]\/(FH t=true/\t.length<big)) (lw:w.length<=1000) (la:a.length<=1000):Ev (fun f=>G.eX f w a t rd) (Df w a t rd):=by
 have K:Ev (fun f=>G.eX.K1 f w a t rd) (Df w a t rd):=by
  refine Ev.up ?_
  simp only [G.eX.K1,Nv]
  unfold Df
  have A:=T.jf (t:=t) la
  have W:=T.jf (t:=t) lw
  clear ht
  generalize NU a t=na at *
  generalize NU w t=nw at *
  generalize w.isEmpty=ew
  generalize a.isEmpty=ea
  generalize (t==[])=et
  cases ew<;>cases ea<;>cases et<;>cases na<;>cases nw<;>cases rd<;>exact Xf
 refine Ev.up ?_
 simp only [G.eX]
 have h1:=T.dK sw
 have h2:=T.dK sa
 rw [hw] at h1
 rw [ha] at h2
 refine Ev.bind h1 (Ev.ct rfl (Ev.bind h2 (Ev.ct rfl (Ev.ite (fun _=>K) (fun e => ?_)))))
 rcases ht with h | ⟨h,hl⟩
 ·rw [h] at e; cases e
 ·have h3:=T.iw t hl
  rw [h] at h3
  exact Ev.bind h3 (Ev.ct rfl K)
end Go.Ab
end
section
namespace Go.Ab
open Go
set_option maxRecDepth 100000
theorem JB {l:List aH} {t:aS} {p:Nat} (hA:Asc (oG l)=true) (hp:LB (oG l) t p):Gp l t=if decide (p<l.length)&&(l.getD p default).Name==t then some p else none:=by
 have at_:∀ q,q<l.length->(oG l).getD q default=(l.getD q default).Name:=fun q h=>rC h
 by_cases c:p<l.length/\(l.getD p default).Name=t
 ·rw [if_pos (by simpa using c)]
  refine vw.2 ⟨c.1,c.2,fun q hq => ?_⟩
  have:=hp.lo q hq
  rw [at_ q (by omega)] at this
  exact uy this
 ·rw [if_neg (by simpa using c)]
  refine JG.2 fun it hit e => ?_
  obtain ⟨q,hq,rfl⟩:=List.mem_iff_getElem.1 hit
  have e:(l.getD q default).Name=t:=by rw [bF _ hq]; exact e
  by_cases h1:q<p
  ·have:=hp.lo q h1
   rw [at_ q hq,e,yQ] at this; cases this
  ·by_cases h2:q=p
   ·subst h2; exact c ⟨hq,e⟩
   ·have h3:=rZ hA p q (by omega) (by rw [nK]; exact hq)
    have h4:=hp.hi p (Nat.le_refl _) (by rw [nK]; omega)
    rw [at_ q hq,e] at h3
    rw [h3] at h4; cases h4
theorem JA {l:List aH} {t:aS} {j:Nat} (hA:Asc (oG l)=true) (h:Gp l t=some j):(l.filter fun it => !(it.Name==t))=l.take j++l.drop (j+1):=by
 obtain ⟨h1,h2,h3⟩:=vw.1 h
 have e:l=l.take j++l.getD j default::l.drop (j+1):=by rw [<- bg default h1,List.take_append_drop]
 have a1:(l.take j).filter (fun it => !(it.Name==t))=l.take j:=List.filter_eq_self.2 fun it hit=>by
  obtain ⟨q,hq,rfl⟩:=List.mem_iff_getElem.1 hit
  rw [List.length_take] at hq
  have:=h3 q (by omega)
  rw [bF _ (by omega)] at this
  rw [List.getElem_take]
  simpa using this
 have a2:(l.drop (j+1)).filter (fun it => !(it.Name==t))=l.drop (j+1):=List.filter_eq_self.2 fun it hit=>by
  obtain ⟨q,hq,rfl⟩:=List.mem_iff_getElem.1 hit
  rw [List.length_drop] at hq
  have:=rZ hA j (j+1+q) (by omega) (by rw [nK]; omega)
  rw [rC h1,rC (by omega),h2] at this
  have:=uy this
  rw [bF _ (by omega)] at this
  rw [List.getElem_drop]
  simpa using fun e=>this e.symm
 conv=>lhs; rw [e]
 rw [List.filter_append,List.filter_cons,a1,a2,h2]
 simp
section
variable {B:Nat} {s:StoreT} (t:aS) (hB:B<=lim) (h:wJ B s)
include hB h
theorem T.lq:Ev (fun f=>G.lq f s t) (WI (I9 s t)):=by
 have hl:=h.len
 unfold lim at hB
 refine Ev.up ?_
 simp only [G.lq]
 unfold I9
 refine Ev.bind (T.aK hB h) (Ev.ite (fun e => ?_) (fun e=>Ev.ret' (by rw [e]; rfl)))
 have hs:=um.1 e
 obtain ⟨p,g,hp⟩:=T.gQ t (by unfold big; omega) hs.Be
 rw [if_pos e,JB hs.Be hp]
 refine Ev.bind g (Ev.ite (fun c => ?_) (fun c => ?_))
 ·have c:decide (p<s.Items.length)&&(s.Items.getD p default).Name==t:=c
  rw [if_pos c]
  have c1:p<s.Items.length:=by simp only [Bool.and_eq_true,decide_eq_true_eq] at c; exact c.1
  obtain ⟨D,hD⟩:=(h.at_ c1).2
  refine Ev.chk (by show (0:Int)<=(p:Int)/\(p:Int)<_; omega) (Ev.bind (Ev.up ?_) (Ev.ret _))
  simp only [G.jI,Int.toNat_natCast]
  exact Ev.bind (T.au hB hD) (Ev.ret _)
 ·have c:(decide (p<s.Items.length)&&(s.Items.getD p default).Name==t)=false:=c
  rw [if_neg (by rw [c]; simp)]
  exact Ev.ret _
theorem T.kC:Ev (fun f=>G.kC f s t) (JX (I5 s t)):=by
 have hl:=h.len
 unfold lim at hB
 refine Ev.up ?_
 simp only [G.kC]
 unfold I5
 refine Ev.bind (T.aK hB h) (Ev.ite (fun e => ?_) (fun e=>Ev.ret' (by rw [e]; rfl)))
 have hs:=um.1 e
 have hsl:=hs.len
 have hlo:=hs.lo
 have hhi:=hs.hi
 obtain ⟨p,g,hp⟩:=T.gQ t (by unfold big; omega) hs.Be
 have hf:=JB hs.Be hp
 refine Ev.ite (fun e2=>Ev.ret' (by rw [e2]; simp; rfl)) (fun e2 => ?_)
 refine Ev.bind g (Ev.ite (fun c => ?_) (fun c => ?_))
 ·have c:(decide (p<s.Items.length)&&(s.Items.getD p default).Name==t)=true:=c
  rw [if_pos c] at hf
  have c1:p<s.Items.length:=by simp only [Bool.and_eq_true,decide_eq_true_eq] at c; exact c.1
  have w:IntKind.wrap .i64 (s.Clock+1)=s.Clock+1:=by rw [o5 (by omega) (by omega)]
  refine Ev.bind (T.aY hB h) (Ev.bind (a:=s.Items.take p++s.Items.drop (p+1)) (Ev.up ?_) (Ev.ret' ?_))
  ·simp only [G.eu,aV (show p+1<9223372036854775808 by omega),Int.toNat_natCast]
   exact Ev.chk (by omega) (Ev.ret _)
  ·rw [w,<- JA hs.Be hf,e,e2,hf]
   rfl
 ·have c:(decide (p<s.Items.length)&&(s.Items.getD p default).Name==t)=false:=c
  rw [if_neg (by rw [c]; simp)] at hf
  exact Ev.ret' (by rw [e,e2,hf]; rfl)
end
structure WS (q:RequestT):Prop where
 lo:1<=q.Method
 hi:q.Method<=5
 Fz:P5 q.Name=true
 want:uS q.Want=true
 avoid:uS q.lK=true
 body:Val q.Body=true
 ops:wY q.Ops=true
theorem Cf {q:RequestT} : Qa q=true<->WS q:=by
 unfold Qa
 simp only [Bool.and_eq_true,decide_eq_true_eq]
 exact ⟨fun ⟨⟨a,b⟩,c,d,e,f,g⟩=>⟨a,b,c,d,e,f,g⟩,fun ⟨a,b,c,d,e,f,g⟩=>⟨⟨a,b⟩,c,d,e,f,g⟩⟩
theorem Sl {t:aS} (h:FH t=true):t.length=4:=by
 unfold FH at h
 simp only [Bool.and_eq_true,decide_eq_true_eq] at h
 exact h.2
theorem Kv {t:aS} (h:Jc t=true):t.length<=4:=by
 unfold Jc at h
 simp only [Bool.or_eq_true,beq_iff_eq] at h
 rcases h with h | h
 ·rw [h]; simp
 ·rw [Sl h]; exact Nat.le_refl _
theorem vN {l:List aS} (h:uS l=true):l.length<=4/\∀ t,t∈l->Jc t=true:=by
 unfold uS at h
 simp only [Bool.and_eq_true,decide_eq_true_eq,List.all_eq_true] at h
 exact ⟨h.2,h.1⟩
theorem DW {l:List aS} (h:uS l=true):Sm l:=by
 obtain ⟨h1,h2⟩:=vN h
 refine ⟨by unfold big; omega,fun t ht => ?_⟩
 have:=Kv (h2 t ht)
 unfold big; omega
theorem DV:∀ k:Nat,k<16->RF (OH k)=true:=by decide
theorem QI {n:Nat} (h:n<65521):FH (FN n)=true:=by
 unfold FH FN
 simp only [List.all_cons,List.all_nil,Bool.and_true,Bool.and_eq_true,List.length_cons,List.length_nil,decide_true]
 exact ⟨DV _ (by omega),DV _ (by omega),DV _ (by omega),DV _ (by omega)⟩
theorem Su {n:af} (h:Val n=true):FH (yz n)=true:=by
 unfold yz
 rw [if_pos h]
 exact QI (sum_lt _)
def ans (c:Int):dA:=dA.mk c [] 0 nG
def F8 (s:StoreT) (t:aS) (n:af) (c:Int):StoreT × dA:=match NV s t n with
 | some m=>(m,dA.mk c (yz n) m.Clock nG)
 | none=>(s,ans 422)
noncomputable def EK (old:af) (q:RequestT):Option af:=if q.Method=4 then wZ old q.Ops else if q.Method=5 then NT old q.Body else some q.Body
noncomputable def Vx (s:StoreT) (q:RequestT) (it:aH):StoreT × dA :=
 if q.Method=1 then (s,dA.mk 200 (yz it.Node) it.Version it.Node) else if q.Method=3 then (match I5 s q.Name with
  | some m=>(m,dA.mk 200 [] m.Clock nG)
  | none=>(s,ans 422)) else match EK it.Node q with
  | some n=>F8 s q.Name n 200
  | none=>(s,ans 422)
noncomputable def OD (s:StoreT) (q:RequestT):StoreT × dA:=match I9 s q.Name with
 | none=>if q.Method=2 then (if Df q.Want q.lK [] false=200 then F8 s q.Name q.Body 201 else (s,ans (Df q.Want q.lK [] false))) else (s,ans 404)
 | some it=>if Df q.Want q.lK (yz it.Node) (q.Method==1)=200 then Vx s q it else (s,ans (Df q.Want q.lK (yz it.Node) (q.Method==1)))
noncomputable def KN (s:StoreT) (q:RequestT):StoreT × dA:=if FD s&&Qa q then OD s q else (VL,ans 400)
theorem MQ {j:Nat} : decide (vH (some j)<0)=false:=decide_eq_false (by show ¬ (j:Int)<0; omega)
theorem TY {s:StoreT} {t:aS} (hs:FD s=true):I9 s t=(Gp s.Items t).map fun j=>s.Items.getD j default:=by unfold I9; rw [if_pos hs]
theorem JY {n m:af} {l:List jq} (h:wZ n l=some m):Val m=true:=by
 unfold wZ at h
 split at h
 ·rename_i c
  exact RS (by simp at c; exact c.1) h
 ·cases h
theorem JU {n p m:af} (h:NT n p=some m):Val m=true:=by
 unfold NT at h
 split at h
 ·exact (Option.filter_eq_some_iff.1 h).2
 ·cases h
theorem Rx {q:RequestT} {old n:af} (hr:Qa q=true) (h:EK old q=some n):Val n=true:=by
 unfold EK at h
 split at h
 ·exact JY h
 ·split at h
  ·exact JU h
  ·cases h; exact (Cf.1 hr).body
theorem T.lD {q:RequestT} {old:af} (hq:CJ 60 q) (ho:Val old=true):Ev (fun f=>G.lD f old q) (iV (EK old q)):=by
 refine Ev.up ?_
 simp only [G.lD]
 unfold EK
 have hp:=T.jk qK (pY ho) hq.ops
 obtain ⟨D,hD⟩:=hq.body
 have hm:=T.jP (pY ho) hD
 refine Ev.ite (fun e => ?_) (fun e=>Ev.ite (fun e2 => ?_) (fun e2 => ?_))
 ·rw [if_pos (by simpa using e)]
  exact Ev.bind hp (Ev.ret _)
 ·rw [if_neg (by simpa using e),if_pos (by simpa using e2)]
  exact Ev.bind hm (Ev.ret _)
 ·rw [if_neg (by simpa using e),if_neg (by simpa using e2)]
  exact Ev.ret _
section
variable {s:StoreT} {q:RequestT} (hs:Qb s) (hq:CJ 60 q)
theorem T.iG (c:Int):Ev (fun f=>G.iG f c) (ans c):=by
 refine Ev.up ?_
 simp only [G.iG]
 exact Ev.ret _
theorem copyS (s:StoreT) (hs:Qb s):Ev (fun f=>G.aY f s) s/\Ev (fun f=>G.bC f s) s:=⟨T.aY qK hs.fine,T.bC qK hs.fine⟩
include hs hq
theorem T.gB {old:af} {b:Bool} (hr:WS q) (ho:Val old=true):Ev (fun f=>G.gB f s q old b) (match EK old q with
    | some n=>F8 s q.Name n (if b then 200 else 201)
    | none=>(s,ans 422)):=by
  obtain ⟨c1,_⟩:=copyS s hs
  refine Ev.up ?_
  simp only [G.gB]
  refine Ev.bind (T.lD hq ho) ?_
  cases hn:EK old q with
  | none=>exact Ev.cf rfl (Ev.bind c1 (Ev.ret _))
  | some n =>
    have hv:=Rx (Cf.2 hr) hn
    refine Ev.ct rfl (Ev.bind (T.lu qK hs.fine hq.Fz (pY hv)) ?_)
    show Ev _ (F8 s q.Name n (if b then 200 else 201))
    unfold F8
    simp only [iV]
    cases NV s q.Name n with
    | none=>exact Ev.cf rfl (Ev.bind c1 (Ev.ret _))
    | some m =>
      refine Ev.ct rfl (Ev.bind (T.lG qJ (iW hv)) ?_)
      cases b<;>exact Xf
theorem T.aX:Ev (fun f=>G.aX f s q) (KN s q):=by
  obtain ⟨c1,_⟩:=copyS s hs
  have hsv:=um.2 hs
  refine Ev.up ?_
  simp only [G.aX]
  unfold KN
  refine Ev.bind (T.aK qK hs.fine) (Ev.ite (fun _ => ?_) (fun e=>by rw [hsv] at e; cases e))
  refine Ev.bind (T.gU qK hq) (Ev.ite (fun e => ?_) (fun e=>Ev.ret' (by rw [e,Bool.and_false]; rfl)))
  have hr:=Cf.1 e
  have hw:=vN hr.want
  have ha:=vN hr.avoid
  rw [hsv,e]
  show Ev _ (OD s q)
  unfold OD
  refine Ev.bind (T.lq q.Name qK hs.fine) ?_
  cases hg:I9 s q.Name with
  | none =>
    refine Ev.cf rfl (Ev.ite (fun e2 => ?_) (fun e2 => ?_))
    · exact Ev.bind c1 (Ev.ret' (by show _=if q.Method=2 then _ else _; rw [if_neg (by simpa using e2)]; rfl))
    have e2:q.Method=2:=by simpa using e2
    show Ev _ (if q.Method=2 then _ else _)
    rw [if_pos e2]
    refine Ev.up ?_
    simp only [G.aX.K2,e2]
    refine Ev.bind (T.eX hr.want hr.avoid (DW hr.want) (DW hr.avoid) (.inl rfl) (by omega) (by omega)) (Ev.ite (fun e3 => ?_) (fun e3 => ?_))
    · exact Ev.bind c1 (Ev.ret' (by rw [if_neg (by simpa using e3)]; rfl))
    · have e3:Df q.Want q.lK [] false=200:=by simpa using e3
      rw [if_pos e3]
      have:=T.gB (old:=nG) (b:=false) hs hq hr VU
      have hn:EK nG q=some q.Body:=by unfold EK; rw [if_neg (by omega),if_neg (by omega)]
      rw [hn] at this
      exact Ev.cf rfl (Ev.cf rfl (Ev.bind this (Ev.ret _)))
  | some it =>
    obtain ⟨_,_,_,hv⟩:=OC hg
    have hct:=T.eX (t:=yz it.Node) (rd:=q.Method==1) hr.want hr.avoid (DW hr.want) (DW hr.avoid) (.inr ⟨Su hv,by have:=Uu it.Node; unfold big; omega⟩) (by omega) (by omega)
    refine Ev.ct rfl (Ev.bind (T.lG qJ (iW hv)) (Ev.up ?_))
    simp only [G.aX.K1]
    refine Ev.bind hct (Ev.ite (fun e3 => ?_) (fun e3 => ?_))
    · exact Ev.bind c1 (Ev.ret' (by show _=if _=_ then _ else _; rw [if_neg (by simpa using e3)]; rfl))
    show Ev _ (if _=_ then _ else _)
    rw [if_pos (by simpa using e3)]
    unfold Vx
    refine Ev.ite (fun e4 => ?_) (fun e4 => ?_)
    · rw [if_pos (by simpa using e4)]
      exact Ev.bind c1 (Ev.ret _)
    rw [if_neg (by simpa using e4)]
    refine Ev.ite (fun e5 => ?_) (fun e5 => ?_)
    · rw [if_pos (by simpa using e5)]
      refine Ev.bind (Ev.up ?_) (Ev.ret _)
      simp only [G.jo]
      refine Ev.bind (T.kC q.Name qK hs.fine) ?_
      cases I5 s q.Name with
      | none=>exact Ev.cf rfl (Ev.bind c1 (Ev.ret _))
      | some m=>exact Ev.ct rfl (Ev.ret _)
    · rw [if_neg (by simpa using e5)]
      exact Ev.bind (T.gB hs hq hr hv) (Ev.ret _)
omit hq
theorem T.jW (t:aS):Ev (fun f=>G.jW f s t) (match Gp s.Items t with
    | some j=>yz (s.Items.getD j default).Node
    | none=>[]):=by
  have hl:=hs.len
  refine Ev.up ?_
  simp only [G.jW]
  refine Ev.bind (T.iP t (by unfold lim; omega)) ?_
  cases hj:Gp s.Items t with
  | none=>exact Ev.ct (by decide) (Ev.ret _)
  | some j =>
    have hjl:=(vw.1 hj).1
    have hv:=(hs.it hjl).KH
    have h5:=fmt5 hv
    have:=sum_lt (oK 5 (s.Items.getD j default).Node)
    have e:yz (s.Items.getD j default).Node=FN (PI (oK 5 (s.Items.getD j default).Node)):=by unfold yz; rw [if_pos hv]
    refine Ev.cf MQ (Ev.chk (by show (0:Int)<=(j:Int)/\(j:Int)<_; omega) ?_)
    rw [show (vH (some j)).toNat=j from Int.toNat_natCast j]
    show Ev _ (yz _)
    rw [e]
    exact Ev.bind (T.bM 5 (by omega) (jY hv)) (Ev.bind (T.jB _ (by unfold big; omega)) (Ev.bind (T.ou (by omega)) (Ev.ret _)))
theorem RN {x:aH} : ∃ j,Gp (vY x s.Items) x.Name=some j/\(vY x s.Items).getD j default=x:=by
  cases hj:Gp (vY x s.Items) x.Name with
  | none=>exact absurd rfl (JG.1 hj x ((uh hs.Be).2 (.inl rfl)))
  | some j =>
    obtain ⟨h1,h2,_⟩:=vw.1 hj
    refine ⟨j,rfl,?_⟩
    rcases (uh hs.Be).1 (getD_mem default h1) with e | ⟨_,e⟩
    · exact e
    · exact absurd h2 e
theorem T.fK {t:aS} {n:af} (ht:P5 t=true) (hn:Val n=true):Ev (fun f=>G.fK f s t n) (F8 s t n (if (Gp s.Items t).isSome then 200 else 201)):=by
 obtain ⟨_,c2⟩:=copyS s hs
 have hl:=hs.len
 have K:∀ c:Int,Ev (fun f=>G.fK.K1 f s t n c) (F8 s t n c):=fun c=>by
  have e:NV s t n=(some (FQ s t n)).filter FD:=by unfold NV; rw [um.2 hs,ht,hn]; rfl
  refine Ev.up ?_
  simp only [G.fK.K1]
  unfold F8
  rw [e]
  refine Ev.bind (T.fO qK hs.fine (pY hn) hs) (Ev.bind (T.bz qK (RP qK hs.fine hs ht hn)) (Ev.ite (fun e1 => ?_) (fun e1 => ?_)))
  ·obtain ⟨j,hj,hx⟩:=RN (x:=aH.mk t (s.Clock+1) n) hs
   have ht:=T.jW (s:=FQ s t n) (um.1 e1) t
   have hj:Gp (FQ s t n).Items t=some j:=hj
   have hx:(FQ s t n).Items.getD j default=aH.mk t (s.Clock+1) n:=hx
   rw [hj] at ht
   simp only [hx] at ht
   refine Ev.bind ht (Ev.ret' ?_)
   simp [Option.filter,e1]; rfl
  ·refine Ev.bind c2 (Ev.bind (T.iG 422) (Ev.ret' ?_))
   simp [Option.filter,e1]
 refine Ev.up ?_
 simp only [G.fK]
 refine Ev.bind (T.iP t (by unfold lim; omega)) ?_
 cases Gp s.Items t with
 | none=>exact Ev.ct (by decide) (K _)
 | some j=>exact Ev.cf MQ (K _)
include hq
theorem T.eG (hr:WS q):Ev (fun f=>G.eG f s q) (OD s q):=by
  obtain ⟨_,c2⟩:=copyS s hs
  have hl:=hs.len
  have hf:=T.iP (s:=s) q.Name (by unfold lim; omega)
  have htag:=T.jW hs q.Name
  have hw:=vN hr.want
  have ha:=vN hr.avoid
  have chk:∀ t,Ev (fun f=>G.lT f q.Want q.lK t (q.Method==1)) (Df q.Want q.lK t (q.Method==1)):=fun t=>T.lT (by omega) (by omega)
  have an:=T.iG
  obtain ⟨D,hD⟩:=hq.body
  have hwr:=fun {n:af} (hn:Val n=true)=>T.fK hs hr.Fz hn
  have K:∀ (o:Option af),(∀ n,o=some n->Val n=true)->Ev (fun f=>G.eG.K1 f s q (iV o).2 (iV o).1.Kind (iV o).1.Num (iV o).1.Text (iV o).1.Names (iV o).1.Kids) (match o with
      | some n=>F8 s q.Name n (if (Gp s.Items q.Name).isSome then 200 else 201)
      | none=>(s,ans 422))/\Ev (fun f=>G.eG.K2 f s q (iV o).2 (iV o).1.Kind (iV o).1.Num (iV o).1.Text (iV o).1.Names (iV o).1.Kids) (match o with
      | some n=>F8 s q.Name n (if (Gp s.Items q.Name).isSome then 200 else 201)
      | none=>(s,ans 422)):=fun o ho=>by
    cases o with
    | none =>
      constructor<;>refine Ev.up ?_
      · simp only [G.eG.K1]
        exact Ev.cf rfl (Ev.bind c2 (Ev.bind (an _) (Ev.ret _)))
      · simp only [G.eG.K2]
        exact Ev.cf rfl (Ev.bind c2 (Ev.bind (an _) (Ev.ret _)))
    | some n =>
      constructor<;>refine Ev.up ?_
      · simp only [G.eG.K1,af.eta]
        exact Ev.ct rfl (Ev.bind (hwr (ho n rfl)) (Ev.ret _))
      · simp only [G.eG.K2,af.eta]
        exact Ev.ct rfl (Ev.bind (hwr (ho n rfl)) (Ev.ret _))
  refine Ev.up ?_
  simp only [G.eG]
  unfold OD
  rw [TY (um.2 hs)]
  refine Ev.bind hf ?_
  cases hj:Gp s.Items q.Name with
  | none =>
    rw [hj] at htag hwr
    refine Ev.ct (by decide) (Ev.ite (fun e => ?_) (fun e => ?_))
    · refine Ev.bind c2 (Ev.bind (an _) (Ev.ret' ?_))
      show _=if q.Method=2 then _ else _
      rw [if_neg (by simpa using e)]
    have e:q.Method=2:=by simpa using e
    show Ev _ (if q.Method=2 then _ else _)
    rw [if_pos e]
    have hc:=chk []
    simp only [e] at hc ⊢
    refine Ev.bind htag (Ev.bind hc (Ev.ite (fun e3 => ?_) (fun e3 => ?_)))
    · exact Ev.bind c2 (Ev.bind (an _) (Ev.ret' (by rw [if_neg (by simpa using e3)]; rfl)))
    · rw [if_pos (by simpa using e3)]
      exact Ev.cf rfl (Ev.ct rfl (Ev.bind (hwr hr.body) (Ev.ret _)))
  | some j =>
    rw [hj] at htag hwr K
    have hjl:=(vw.1 hj).1
    have hit:=hs.it hjl
    have hv:=hit.KH
    have jn:(vH (some j)).toNat=j:=Int.toNat_natCast j
    have jr:0<=vH (some j)/\vH (some j)<((s.Items.length:Nat):Int):=by show (0:Int)<=(j:Int)/\(j:Int)<_; omega
    have hap:=T.dF qK (pY hv) hq.ops
    have XZ:=T.jA (pY hv) hD
    have k1:=K (wZ (s.Items.getD j default).Node q.Ops) (fun n h=>JY h)
    have k2:=K (NT (s.Items.getD j default).Node q.Body) (fun n h=>JU h)
    refine Ev.cf MQ (Ev.bind htag (Ev.bind (chk _) (Ev.ite (fun e3 => ?_) (fun e3 => ?_))))
    · refine Ev.bind c2 (Ev.bind (an _) (Ev.ret' ?_))
      show _=if _=_ then _ else _
      rw [if_neg (by simpa using e3)]
    have e3:Df q.Want q.lK (yz (s.Items.getD j default).Node) (q.Method==1)=200:=by simpa using e3
    show Ev _ (if _=_ then _ else _)
    rw [if_pos e3]
    unfold Vx
    simp only [jn,e3]
    refine Ev.ite (fun e4 => ?_) (fun e4 => ?_)
    · rw [if_pos (by simpa using e4)]
      exact Ev.bind c2 (Ev.bind htag (Ev.chk jr (Ev.chk jr (Ev.bind (T.ay qJ (iW hv)) (Ev.ret _)))))
    have e4:¬ q.Method=1:=by simpa using e4
    rw [if_neg e4]
    refine Ev.ite (fun e5 => ?_) (fun e5 => ?_)
    · have e5:q.Method=2:=by simpa using e5
      rw [if_neg (by omega)]
      unfold EK
      rw [if_neg (by omega),if_neg (by omega)]
      exact Ev.bind (hwr hr.body) (Ev.ret _)
    refine Ev.ite (fun e6 => ?_) (fun e6 => ?_)
    · rw [if_pos (by simpa using e6)]
      unfold I5
      rw [um.2 hs,hj]
      refine Ev.ite (fun e7 => ?_) (fun e7 => ?_)
      · exact Ev.bind c2 (Ev.bind (an _) (Ev.ret' (by rw [e7]; rfl)))
      · have hlo:=hs.lo
        have hhi:=hs.hi
        have w:IntKind.wrap .i64 (s.Clock+1)=s.Clock+1:=by rw [o5 (by omega) (by omega)]
        rw [w,e7]
        exact Ev.bind (T.jM qK hs.fine hs) (Ev.ret _)
    rw [if_neg (by simpa using e6)]
    unfold EK
    refine Ev.chk jr (Ev.bind hap (Ev.ite (fun e7 => ?_) (fun e7 => ?_)))
    · have e7:q.Method=5:=by simpa using e7
      rw [if_neg (by omega),if_pos e7]
      refine Ev.chk jr (Ev.bind XZ ?_)
      first | exact k2.1 | exact k2.2
    · have e7:¬ q.Method=5:=by simpa using e7
      have e5:¬ q.Method=2:=by simpa using e5
      have e6:¬ q.Method=3:=by simpa using e6
      have:=hr.lo
      have:=hr.hi
      rw [if_pos (by omega)]
      first | exact k1.1 | exact k1.2
end
end Go.Ab
end
section
namespace Go.Ab
open Go
set_option maxRecDepth 100000
def good (c:Int):Bool:=c==200||c==201
noncomputable def TE (s:StoreT) (q:RequestT):Bool:=good (KN s q).2.Status
section
variable {s:StoreT} {q:RequestT} (hs:wJ 60 s) (hq:CJ 60 q)
include hs hq
omit hs hq in
theorem T.jQ (c:Int):Ev (fun f=>G.jQ f c) (good c):=by
 refine Ev.up ?_
 simp only [G.jQ]
 unfold good
 exact Ev.ite (fun e=>Ev.ret' (by rw [e]; rfl)) (fun e=>Ev.ret' (by rw [e]; rfl))
end
end Go.Ab
end
section
namespace Go.Ab
open Go
set_option maxRecDepth 100000
section
variable {B:Nat} {q:RequestT} (hB:B<=lim) (h:KL B q)
include hB h
theorem T0.gV:Ev (fun f=>G.gV f q) (Qa q):=by
 obtain ⟨E,hb⟩:=h.body
 have hn:=h.Fz
 unfold lim at hB
 refine Ev.up ?_
 simp only [G.gV]
 unfold Qa
 refine Ev.bind (T.bK _ _ _) (Ev.ite (fun e1 => ?_) (fun e1=>Ev.ret' (by rw [e1]; rfl)))
 refine Ev.bind (T.cZ _ (by unfold big; omega)) (Ev.ite (fun e2 => ?_) (fun e2=>Ev.ret' (by rw [e1,e2]; rfl)))
 refine Ev.bind (T.dR (h.want.sm (by unfold lim; omega))) (Ev.ite (fun e3 => ?_) (fun e3=>Ev.ret' (by rw [e1,e2,e3]; rfl)))
 refine Ev.bind (T.dR (h.avoid.sm (by unfold lim; omega))) (Ev.ite (fun e4 => ?_) (fun e4=>Ev.ret' (by rw [e1,e2,e3,e4]; rfl)))
 refine Ev.bind (T0.bD (by unfold lim; omega) hb) (Ev.ite (fun e5 => ?_) (fun e5=>Ev.ret' (by rw [e1,e2,e3,e4,e5]; rfl)))
 exact Ev.bind (T0.bf h.ops) (Ev.ret' (by rw [e1,e2,e3,e4,e5]; rfl))
theorem T0.gU:Ev (fun f=>G.gU f q) (Qa q):=by
 obtain ⟨E,hb⟩:=h.body
 have hn:=h.Fz
 unfold lim at hB
 refine Ev.up ?_
 simp only [G.gU]
 unfold Qa
 refine Ev.ite (fun e0 => ?_) (fun e0=>Ev.ret' (by rw [e0]; rfl))
 refine Ev.ite (fun e1 => ?_) (fun e1=>Ev.ret' (by rw [e0,e1]; rfl))
 refine Ev.bind (T.dP _ (by unfold big; omega)) (Ev.ite (fun e2 => ?_) (fun e2=>Ev.ret' (by rw [e0,e1,e2]; rfl)))
 refine Ev.bind (T.dK (h.want.sm (by unfold lim; omega))) (Ev.ite (fun e3 => ?_) (fun e3=>Ev.ret' (by rw [e0,e1,e2,e3]; rfl)))
 refine Ev.bind (T.dK (h.avoid.sm (by unfold lim; omega))) (Ev.ite (fun e4 => ?_) (fun e4=>Ev.ret' (by rw [e0,e1,e2,e3,e4]; rfl)))
 refine Ev.bind (T0.aC (by unfold lim; omega) hb) (Ev.ite (fun e5 => ?_) (fun e5=>Ev.ret' (by rw [e0,e1,e2,e3,e4,e5]; rfl)))
 exact Ev.bind (T0.aT h.ops) (Ev.ret' (by rw [e0,e1,e2,e3,e4,e5]; rfl))
end
end Go.Ab
end
section
namespace Go.Ab
open Go
set_option maxRecDepth 100000
structure GH (B D:Nat) (it:aH):Prop where
 Fz:it.Name.length<=B
 KH:nM B D it.Node
theorem T.VS {D:Nat} {it:aH} {left:Int} (h:GH mx D it) (h0:0<=left) (hl:left<=1048576):∃ r,Ev (fun f=>G.lU f it left) r/\r<=left/\(0<=r->GH 1048576 D it):=by
 have hn:it.Name.length<=9223372036854775807:=h.Fz
 have w0:IntKind.wrap .i64 (left-((it.Name.length:Nat):Int))=left-((it.Name.length:Nat):Int):=C9 (by omega) (by omega)
 by_cases c:left-((it.Name.length:Nat):Int)<0
 ·refine ⟨-1,Ev.up ?_,by omega,fun h=>by omega⟩
  simp only [G.lU,w0]
  exact Ev.ct (decide_eq_true c) (Ev.ret _)
 obtain ⟨v1,g1,a1,b1⟩:=T.E5 D h.KH (left:=left-((it.Name.length:Nat):Int)) (by omega) (by omega)
 by_cases c1:v1<0
 ·refine ⟨-1,Ev.up ?_,by omega,fun h=>by omega⟩
  simp only [G.lU,w0]
  exact Ev.cf (decide_eq_false c) (Ev.bind g1 (Ev.ct (decide_eq_true c1) (Ev.ret _)))
 refine ⟨v1,Ev.up ?_,by omega,fun h=>⟨by omega,b1 h⟩⟩
 simp only [G.lU,w0]
 exact Ev.cf (decide_eq_false c) (Ev.bind g1 (Ev.cf (decide_eq_false c1) (Ev.ret _)))
theorem T.Ut {D:Nat} {s:StoreT} {left:Int} (h1:s.Items.length<=mx) (hO:∀ o,o∈s.Items->GH mx D o) (h0:0<=left) (hl:left<=1048576) :
    ∃ r,Ev (fun f=>G.lN f s left) r/\r<=left/\(0<=r->GI 1048576 s):=by
  obtain ⟨l,ck⟩:=s
  have S:∃ r,Ev (fun f=>G.gz f l left) r/\r<=left/\(0<=r->(l.length:Int)<=left/\∀ o,o∈l->GH 1048576 D o):=by
    unfold mx at h1
    simp only at h1 hO
    have w0:IntKind.wrap .i64 (left-((l.length:Nat):Int))=left-((l.length:Nat):Int):=C9 (by omega) (by omega)
    by_cases c:left-((l.length:Nat):Int)<0
    · refine ⟨-1,Ev.up ?_,by omega,fun h=>by omega⟩
      simp only [G.gz,w0]
      exact Ev.ct (decide_eq_true c) (Ev.ret _)
    · have L:∀ (k i:Nat) (a:Int),i+k=l.length->0<=a->a<=1048576->∃ r,Ev (fun f=>G.gz.L1 f l a i) r/\r<=a/\(0<=r->∀ o,o∈l.drop i->GH 1048576 D o):=by
        intro k
        induction k with
        | zero =>
          intro i a hi ha ha2
          refine ⟨a,Ev.up ?_,by omega,fun _ s hs => ?_⟩
          · simp only [G.gz.L1]
            exact Ev.cf (decide_eq_false (by omega)) (Ev.ret _)
          · rw [List.drop_of_length_le (by omega)] at hs; cases hs
        | succ k ih =>
          intro i a hi ha ha2
          have hil:i<l.length:=by omega
          obtain ⟨q,gq,q1,q2⟩:=T.VS (hO _ (uJ default hil)) ha ha2
          by_cases c1:q<0
          · refine ⟨-1,Ev.up ?_,by omega,fun h=>by omega⟩
            simp only [G.gz.L1,Int.toNat_natCast]
            exact Ev.ct (decide_eq_true (by omega)) (Ev.chk (by omega) (Ev.bind gq (Ev.ct (decide_eq_true c1) (Ev.ret _))))
          · obtain ⟨r,g,g1,g2⟩:=ih (i+1) q (by omega) (by omega) (by omega)
            refine ⟨r,Ev.up ?_,by omega,fun h s hs => ?_⟩
            · simp only [G.gz.L1,Int.toNat_natCast,aV (show i+1<9223372036854775808 by omega)]
              exact Ev.ct (decide_eq_true (by omega)) (Ev.chk (by omega) (Ev.bind gq (Ev.cf (decide_eq_false c1) g)))
            · rw [bg default hil] at hs
              rcases List.mem_cons.1 hs with e | e
              · rw [e]; exact q2 (by omega)
              · exact g2 h s e
      obtain ⟨r,g,g1,g2⟩:=L l.length 0 (left-((l.length:Nat):Int)) (by omega) (by omega) (by omega)
      refine ⟨r,Ev.up ?_,by omega,fun h=>⟨by omega,fun s hs=>g2 h s (by rw [List.drop_zero]; exact hs)⟩⟩
      simp only [G.gz,w0]
      exact Ev.cf (decide_eq_false c) g
  obtain ⟨r,g,g1,g2⟩:=S
  by_cases c:r<0
  · refine ⟨-1,Ev.up ?_,by omega,fun h=>by omega⟩
    simp only [G.lN]
    exact Ev.bind g (Ev.ct (decide_eq_true c) (Ev.ret _))
  · refine ⟨r,Ev.up ?_,by omega,fun h => ?_⟩
    · simp only [G.lN]
      exact Ev.bind g (Ev.cf (decide_eq_false c) (Ev.ret _))
    · obtain ⟨e1,e2⟩:=g2 h
      exact ⟨by show l.length<=_; omega,fun it hi=>(e2 it hi).Fz,fun it hi=>⟨D,(e2 it hi).KH⟩⟩
structure U7 (D:Nat) (q:RequestT):Prop where
 Fz:q.Name.length<=mx
 want:q.Want.length<=mx/\∀ s,s∈q.Want->s.length<=mx
 avoid:q.lK.length<=mx/\∀ s,s∈q.lK->s.length<=mx
 body:nM mx D q.Body
 ops:q.Ops.length<=mx/\∀ o,o∈q.Ops->rH mx D o
theorem T.PK {D:Nat} {q:RequestT} {left:Int} (h:U7 D q) (h0:0<=left) (hl:left<=1048576):∃ r,Ev (fun f=>G.iC f q left) r/\r<=left/\(0<=r->KL 1048576 q):=by
 have hn:q.Name.length<=9223372036854775807:=h.Fz
 have w0:IntKind.wrap .i64 (left-((q.Name.length:Nat):Int))=left-((q.Name.length:Nat):Int):=C9 (by omega) (by omega)
 by_cases c:left-((q.Name.length:Nat):Int)<0
 ·refine ⟨-1,Ev.up ?_,by omega,fun h=>by omega⟩
  simp only [G.iC,w0]
  exact Ev.ct (decide_eq_true c) (Ev.ret _)
 obtain ⟨v1,g1,a1,b1⟩:=T.E8 h.want.1 h.want.2 (left:=left-((q.Name.length:Nat):Int)) (by omega) (by omega)
 by_cases c1:v1<0
 ·refine ⟨-1,Ev.up ?_,by omega,fun h=>by omega⟩
  simp only [G.iC,w0]
  exact Ev.cf (decide_eq_false c) (Ev.bind g1 (Ev.ct (decide_eq_true c1) (Ev.ret _)))
 obtain ⟨v2,g2,a2,b2⟩:=T.E8 h.avoid.1 h.avoid.2 (left:=v1) (by omega) (by omega)
 by_cases c2:v2<0
 ·refine ⟨-1,Ev.up ?_,by omega,fun h=>by omega⟩
  simp only [G.iC,w0]
  exact Ev.cf (decide_eq_false c) (Ev.bind g1 (Ev.cf (decide_eq_false c1) (Ev.bind g2 (Ev.ct (decide_eq_true c2) (Ev.ret _)))))
 obtain ⟨v3,g3,a3,b3⟩:=T.E5 D h.body (left:=v2) (by omega) (by omega)
 by_cases c3:v3<0
 ·refine ⟨-1,Ev.up ?_,by omega,fun h=>by omega⟩
  simp only [G.iC,w0]
  exact Ev.cf (decide_eq_false c) (Ev.bind g1 (Ev.cf (decide_eq_false c1) (Ev.bind g2 (Ev.cf (decide_eq_false c2) (Ev.bind g3 (Ev.ct (decide_eq_true c3) (Ev.ret _)))))))
 obtain ⟨v4,g4,a4,b4⟩:=T.UZ h.ops.1 h.ops.2 (left:=v3) (by omega) (by omega)
 by_cases c4:v4<0
 ·refine ⟨-1,Ev.up ?_,by omega,fun h=>by omega⟩
  simp only [G.iC,w0]
  exact Ev.cf (decide_eq_false c) (Ev.bind g1 (Ev.cf (decide_eq_false c1) (Ev.bind g2 (Ev.cf (decide_eq_false c2) (Ev.bind g3 (Ev.cf (decide_eq_false c3) (Ev.bind g4 (Ev.ct (decide_eq_true c4) (Ev.ret _)))))))))
 refine ⟨v4,Ev.up ?_,by omega,fun h => ?_⟩
 ·simp only [G.iC,w0]
  exact Ev.cf (decide_eq_false c) (Ev.bind g1 (Ev.cf (decide_eq_false c1) (Ev.bind g2 (Ev.cf (decide_eq_false c2) (Ev.bind g3 (Ev.cf (decide_eq_false c3) (Ev.bind g4 (Ev.cf (decide_eq_false c4) (Ev.ret _)))))))))
 ·obtain ⟨e1,e2⟩:=b1 (by omega)
  obtain ⟨e3,e4⟩:=b2 (by omega)
  obtain ⟨e5,e6⟩:=b4 (by omega)
  exact ⟨by omega,⟨by omega,fun s hs=>by have:=e2 s hs; omega⟩,⟨by omega,fun s hs=>by have:=e4 s hs; omega⟩,⟨D,b3 (by omega)⟩,by omega,fun o ho=>⟨D,e6 o ho⟩⟩
theorem T.Ux {s:StoreT} (h:GI 1048576 s):Ev (fun f=>G.kL f s) s:=by
  obtain ⟨l,ck⟩:=s
  have hl:l.length<=1048576:=h.len
  have I:∀ it,it∈l->Ev (fun f=>G.mF f it) it:=fun it hi=>by
    obtain ⟨D,hd⟩:=h.KH it hi
    refine Ev.up ?_
    simp only [G.mF]
    exact Ev.bind (T.Fb sG hd) (Ev.ret _)
  have L:∀ (k i:Nat) (z:List aH),i+k=l.length->z.length=l.length->z.take i=l.take i->Ev (fun f=>G.iq.L1 f l i z) l:=by
    intro k
    induction k with
    | zero =>
      intro i z hi hz ht
      refine Ev.up ?_
      simp only [G.iq.L1]
      rw [List.take_of_length_le (by omega),List.take_of_length_le (by omega)] at ht
      exact Ev.cf (decide_eq_false (by omega)) (Ev.ret' ht)
    | succ k ih =>
      intro i z hi hz ht
      have hil:i<l.length:=by omega
      refine Ev.up ?_
      simp only [G.iq.L1,Int.toNat_natCast,aV (show i+1<9223372036854775808 by omega)]
      refine Ev.ct (decide_eq_true (by omega)) (Ev.chk (by omega) (Ev.bind (I _ (uJ default hil)) (Ev.chk (by omega) (ih (i+1) _ (by omega) (by rw [List.length_set]; exact hz) ?_))))
      rw [bF _ hil]
      exact AP hil hz ht
  have S:Ev (fun f=>G.iq f l) l:=by
    refine Ev.up ?_
    simp only [G.iq]
    exact Ev.chk (by omega) (L l.length 0 _ (by omega) (by simp) rfl)
  refine Ev.up ?_
  simp only [G.kL]
  exact Ev.bind S (Ev.ret _)
theorem T.TT {s:StoreT} (h:GI 1048576 s):Ev (fun f=>G.lM f s s) true:=by
  obtain ⟨l,ck⟩:=s
  have hl:l.length<=1048576:=h.len
  have I:∀ it,it∈l->Ev (fun f=>G.mD f it it) true:=fun it hi=>by
    obtain ⟨D,hd⟩:=h.KH it hi
    refine Ev.up ?_
    simp only [G.mD]
    exact Ev.ct (by simp) (Ev.cf (by simp) (Ev.bind (T.Ew sG hd) (Ev.ct rfl (Ev.ret _))))
  have L:∀ (k i:Nat),i+k=l.length->Ev (fun f=>G.gZ.L1 f l l i) true:=by
    intro k
    induction k with
    | zero =>
      intro i hi
      refine Ev.up ?_
      simp only [G.gZ.L1]
      exact Ev.cf (decide_eq_false (by omega)) (Ev.ret _)
    | succ k ih =>
      intro i hi
      refine Ev.up ?_
      simp only [G.gZ.L1,Int.toNat_natCast,aV (show i+1<9223372036854775808 by omega)]
      exact Ev.ct (decide_eq_true (by omega)) (Ev.chk (by omega) (Ev.chk (by omega) (Ev.bind (I _ (uJ default (by omega))) (Ev.ct rfl (ih (i+1) (by omega))))))
  have S:Ev (fun f=>G.gZ f l l) true:=by
    refine Ev.up ?_
    simp only [G.gZ]
    exact Ev.cf (by simp) (L l.length 0 (by omega))
  refine Ev.up ?_
  simp only [G.lM]
  exact Ev.bind S (Ev.ct rfl (Ev.cf (by simp) (Ev.ret _)))
theorem T.PL {q:RequestT} (h:KL 1048576 q):Ev (fun f=>G.jy f q) q:=by
 obtain ⟨D,hd⟩:=h.body
 obtain ⟨D',_,ho⟩:=rH.all 0 h.ops.2
 refine Ev.up ?_
 simp only [G.jy]
 exact Ev.bind (T.Fe (Nat.le_trans h.want.1 sG)) (Ev.bind (T.Fe (Nat.le_trans h.avoid.1 sG)) (Ev.bind (T.Fb sG hd) (Ev.bind (T.U1 sG (Nat.le_trans h.ops.1 sG) ho) (Ev.ret _))))
theorem T.Oy {q:RequestT} (h:KL 1048576 q):Ev (fun f=>G.jV f q q) true:=by
 obtain ⟨D,hd⟩:=h.body
 obtain ⟨D',_,ho⟩:=rH.all 0 h.ops.2
 refine Ev.up ?_
 simp only [G.jV]
 exact Ev.cf (by simp) (Ev.ct (by simp) (Ev.bind (T.Ey (Nat.le_trans h.want.1 sG)) (Ev.ct rfl (Ev.bind (T.Ey (Nat.le_trans h.avoid.1 sG)) (Ev.ct rfl (Ev.bind (T.Ew sG hd) (Ev.ct rfl (Ev.bind (T.UO sG (Nat.le_trans h.ops.1 sG) ho) (Ev.ct rfl (Ev.ret _))))))))))
theorem Kq {q:RequestT} (h:WS q):CJ 60 q:=by
 have P:∀ {l:List aS},uS l=true->qY 60 l:=fun {l} hl=>by
  obtain ⟨h1,h2⟩:=vN hl
  exact ⟨by omega,fun s hs=>by have:=Kv (h2 s hs); omega⟩
 exact ⟨by have:=Io h.Fz; omega,P h.want,P h.avoid,⟨5,pY h.body⟩,Oz h.ops⟩
theorem T0.aX {s:StoreT} {q:RequestT} (hs:GI 1048576 s) (hq:KL 1048576 q):Ev (fun f=>G.aX f s q) (KN s q):=by
  cases h1:FD s with
  | true =>
    cases h2:Qa q with
    | true=>exact T.aX (um.1 h1) (Kq (Cf.1 h2))
    | false =>
      refine Ev.up ?_
      simp only [G.aX]
      unfold KN
      rw [h1,h2]
      exact Ev.bind (T0.aK sG hs) (Ev.ct h1 (Ev.bind (T0.gU sG hq) (Ev.cf h2 (Ev.ret _))))
  | false =>
    refine Ev.up ?_
    simp only [G.aX]
    unfold KN
    rw [h1]
    exact Ev.bind (T0.aK sG hs) (Ev.cf h1 (Ev.ret _))
end Go.Ab
end
section
namespace Go.Ab
open Go
set_option maxRecDepth 100000
theorem T0.kD {s:StoreT} {q:RequestT} (hs:GI 1048576 s) (hq:KL 1048576 q):Ev (fun f=>G.kD f s q) (TE s q):=by
 refine Ev.up ?_
 simp only [G.kD]
 exact Ev.bind (T0.aX hs hq) (Ev.bind (T.jQ _) (Ev.ret _))
theorem T0.kG {s:StoreT} {q:RequestT} (hs:GI 1048576 s) (hq:KL 1048576 q):Ev (fun f=>G.kG f s q) (TE s q):=by
 refine Ev.up ?_
 simp only [G.kG]
 unfold TE KN
 refine Ev.bind (T0.bz sG hs) (Ev.ite (fun e1 => ?_) (fun e1=>Ev.ret' (by rw [e1]; rfl)))
 refine Ev.bind (T0.gV sG hq) (Ev.ite (fun e2 => ?_) (fun e2=>Ev.ret' (by rw [e1,e2]; rfl)))
 rw [e1,e2]
 refine Ev.bind (T.eG (um.1 e1) (Kq (Cf.1 e2)) (Cf.1 e2)) ?_
 show Ev _ (good (OD s q).2.Status)
 unfold good
 exact Ev.ite (fun e=>Ev.ret' (by rw [e]; rfl)) (fun e=>Ev.ret' (by rw [e]; rfl))
theorem T.Ah {D E:Nat} {s:StoreT} {q:RequestT} (h1:s.Items.length<=mx) (hI:∀ o,o∈s.Items->GH mx D o) (hq:U7 E q):Ev (fun f=>G.fU f s q) true:=by
 obtain ⟨v1,g1,a1,b1⟩:=T.Ut h1 hI (left:=1048576) (by omega) (by omega)
 by_cases c1:v1<0
 ·refine Ev.up ?_
  simp only [G.fU]
  exact Ev.bind g1 (Ev.ct (decide_eq_true c1) (Ev.ret _))
 obtain ⟨v2,g2,a2,b2⟩:=T.PK hq (left:=v1) (by omega) (by omega)
 by_cases c2:v2<0
 ·refine Ev.up ?_
  simp only [G.fU]
  exact Ev.bind g1 (Ev.cf (decide_eq_false c1) (Ev.bind g2 (Ev.ct (decide_eq_true c2) (Ev.ret _))))
 have fs:=b1 (by omega)
 have fq:=b2 (by omega)
 have ts:=T.Ux fs
 have tq:=T.PL fq
 have es:=T.TT fs
 have eq:=T.Oy fq
 have hS:=T0.kG fs fq
 have hI:=T0.kD fs fq
 refine Ev.up ?_
 simp only [G.fU]
 refine Ev.bind g1 (Ev.cf (decide_eq_false c1) (Ev.bind g2 (Ev.cf (decide_eq_false c2) (Ev.bind ts (Ev.bind tq (Ev.bind hS (Ev.bind ts (Ev.bind tq (Ev.bind hI ?_)))))))))
 cases TE s q with
 | true=>exact Ev.ct rfl (Ev.ct rfl (Ev.bind ts (Ev.bind es (Ev.ct rfl (Ev.bind tq (Ev.bind eq (Ev.ct rfl (Ev.ret _))))))))
 | false=>exact Ev.cf rfl (Ev.cf rfl (Ev.bind ts (Ev.bind es (Ev.ct rfl (Ev.bind tq (Ev.bind eq (Ev.ct rfl (Ev.ret _))))))))
end Go.Ab
end
section
namespace Go.Ab
open Go
set_option maxRecDepth 100000
set_option maxHeartbeats 4000000
set_option linter.unusedVariables false
set_option linter.unusedSimpArgs false
theorem F.jk {n:Nat} : ∀ {ag aA r},G.jk n ag aA=some r->aZ pZ 39 [.agg (wN ag),.one (.c (.sl 8 (List.map jq.cells aA)))] (.nV [(true,(wN r.1)),(false,[.c (.lit (.bool r.2))])]):=by
 intro ag aA r h
 refine aB K.jk (jZ ?_)
 unfold C.jk
 rcases n with _ | n<;>simp only [G.jk,reduceCtorEq] at h
 have z:=pp (pp @F.aC <| pp @F.aT <| pp @F.dY ()) <| pp () <| pp () <| pp () <| pp () <| pp () <| ()
 exact kQ
theorem F.dL {n:Nat} : ∀ {ai zI r},G.dL n ai zI=some r->aZ pZ 226 [.one (wS ai),.one (.c (.lit (.int .u8 zI)))] (.one (wI r)):=by
 intro ai zI r h
 refine aB K.dL (jZ ?_)
 unfold C.dL
 rcases n with _ | n<;>simp only [G.dL,reduceCtorEq] at h
 have z:=pp () <| pp () <| pp () <| pp () <| pp () <| pp () <| ()
 exact kQ
theorem F.strings_IndexByte {n:Nat} : ∀ {ai zI r},G.strings_IndexByte n ai zI=some r->aZ pZ 205 [.one (wS ai),.one (.c (.lit (.int .u8 zI)))] (.one (wI r)):=by
 intro ai zI r h
 refine aB K.strings_IndexByte (jZ ?_)
 unfold C.strings_IndexByte
 rcases n with _ | n<;>simp only [G.strings_IndexByte,reduceCtorEq] at h
 have z:=pp (pp @F.dL ()) <| pp () <| pp () <| pp () <| pp () <| pp () <| ()
 exact kQ
theorem F.iw {n:Nat} : ∀ {ai r},G.iw n ai=some r->aZ pZ 169 [.one (wS ai)] (.one (.c (.lit (.bool r)))):=by
 intro ai r h
 refine aB K.iw (jZ ?_)
 unfold C.iw
 rcases n with _ | n<;>simp only [G.iw,reduceCtorEq] at h
 have z:=pp (pp @F.strings_IndexByte ()) <| pp () <| pp (pp (@lQ (Int) _ (fun n x=>G.iw.L1 n ai x) r (fun x=>bZ.of [eS 0 ai,eI 3 x] [])) ()) <| pp () <| pp (pp (And.intro @G.iw.L1.eq_1 <| @G.iw.L1.eq_2) ()) <| pp (pp (@bQ [] [] []) ()) <| ()
 exact kQ
theorem F.dK {n:Nat} : ∀ {aA r},G.dK n aA=some r->aZ pZ 164 [.one (wT aA)] (.one (.c (.lit (.bool r)))):=by
 intro aA r h
 refine aB K.dK (jZ ?_)
 unfold C.dK
 rcases n with _ | n<;>simp only [G.dK,reduceCtorEq] at h
 have z:=pp (pp @F.iw ()) <| pp () <| pp (pp (@lQ (Int) _ (fun n x=>G.dK.L1 n aA x) r (fun x=>bZ.of [eT 8 aA,eI 9 ((aA.length:Nat):Int),eI 10 x] [])) ()) <| pp () <| pp (pp (And.intro @G.dK.L1.eq_1 <| @G.dK.L1.eq_2) ()) <| pp (pp (@bQ [] [] []) ()) <| ()
 exact kQ
theorem F.slices_Index_string {n:Nat} : ∀ {ai qm r},G.slices_Index_string n ai qm=some r->aZ pZ 227 [.one (wT ai),.one (wS qm)] (.one (wI r)):=by
 intro ai qm r h
 refine aB K.slices_Index_string (jZ ?_)
 unfold C.slices_Index_string
 rcases n with _ | n<;>simp only [G.slices_Index_string,reduceCtorEq] at h
 have z:=pp () <| pp () <| pp (pp (@lQ (Int) _ (fun n x=>G.slices_Index_string.L1 n ai qm x) r (fun x=>bZ.of [eT 0 ai,eS 1 qm,eI 7 ((ai.length:Nat):Int),eI 8 x] [])) ()) <| pp () <| pp (pp (And.intro @G.slices_Index_string.L1.eq_1 <| @G.slices_Index_string.L1.eq_2) ()) <| pp (pp (@bQ [] [] []) ()) <| ()
 exact kQ
theorem F.slices_Contains_string {n:Nat} : ∀ {ai qm r},G.slices_Contains_string n ai qm=some r->aZ pZ 206 [.one (wT ai),.one (wS qm)] (.one (.c (.lit (.bool r)))):=by
 intro ai qm r h
 refine aB K.slices_Contains_string (jZ ?_)
 unfold C.slices_Contains_string
 rcases n with _ | n<;>simp only [G.slices_Contains_string,reduceCtorEq] at h
 have z:=pp (pp @F.slices_Index_string ()) <| pp () <| pp () <| pp () <| pp () <| pp () <| ()
 exact kQ
theorem F.jf {n:Nat} : ∀ {aA jS r},G.jf n aA jS=some r->aZ pZ 170 [.one (wT aA),.one (wS jS)] (.one (.c (.lit (.bool r)))):=by
 intro aA jS r h
 refine aB K.jf (jZ ?_)
 unfold C.jf
 rcases n with _ | n<;>simp only [G.jf,reduceCtorEq] at h
 have z:=pp (pp @F.slices_Contains_string ()) <| pp () <| pp () <| pp () <| pp () <| pp () <| ()
 exact kQ
theorem F.eX {n:Nat} : ∀ {nI lF jS mG r},G.eX n nI lF jS mG=some r->aZ pZ 121 [.one (wT nI),.one (wT lF),.one (wS jS),.one (.c (.lit (.bool mG)))] (.one (wI r)):=by
 intro nI lF jS mG r h
 refine aB K.eX (jZ ?_)
 unfold C.eX
 rcases n with _ | n<;>simp only [G.eX,reduceCtorEq] at h
 have z:=pp (pp @F.dK <| pp @F.iw <| pp @F.jf ()) <| pp () <| pp () <| pp (pp (@sQ (Unit) _ (fun n x=>G.eX.K1 n nI lF jS mG) r (fun x=>bZ.of [eT 0 nI,eT 1 lF,eS 2 jS,(3,.v true (.one (.c (.lit (.bool mG))))),(25,.v true (.one (.c (.lit (.bool false)))))] [])) ()) <| pp (pp (And.intro @G.eX.K1.eq_1 <| @G.eX.K1.eq_2) ()) <| pp (pp (@bQ [] [] []) ()) <| ()
 exact kQ
theorem F.dP {n:Nat} : ∀ {ai r},G.dP n ai=some r->aZ pZ 144 [.one (wS ai)] (.one (.c (.lit (.bool r)))):=by
 intro ai r h
 refine aB K.dP (jZ ?_)
 unfold C.dP
 rcases n with _ | n<;>simp only [G.dP,reduceCtorEq] at h
 have z:=pp () <| pp () <| pp (pp (@lQ (Int) _ (fun n x=>G.dP.L1 n ai x) r (fun x=>bZ.of [eS 0 ai,eI 3 x] [])) ()) <| pp () <| pp (pp (And.intro @G.dP.L1.eq_1 <| @G.dP.L1.eq_2) ()) <| pp (pp (@bQ [] [] []) ()) <| ()
 exact kQ
theorem F.aK {n:Nat} : ∀ {ai r},G.aK n ai=some r->aZ pZ 89 [.agg [.c (.sl 7 (List.map aH.cells ai.Items)),wI ai.Clock]] (.one (.c (.lit (.bool r)))):=by
 intro ai r h
 refine aB K.aK (jZ ?_)
 unfold C.aK
 rcases n with _ | n<;>simp only [G.aK,reduceCtorEq] at h
 have z:=pp (pp @F.dP <| pp @F.aC ()) <| pp () <| pp (pp (@lQ (Int) _ (fun n x=>G.aK.L1 n ai x) r (fun x=>bZ.of [eP 1 103,(20,.v true (.one (.c (.sl 7 (List.map aH.cells ai.Items))))),eI 21 ((ai.Items.length:Nat):Int),eI 22 x] [(103,.var [.c (.sl 7 (List.map aH.cells ai.Items)),wI ai.Clock])])) ()) <| pp () <| pp (pp (And.intro @G.aK.L1.eq_1 <| @G.aK.L1.eq_2) ()) <| pp (pp (@bQ [] [(103,10)] []) <| pp (@bQ [] [(103,103)] []) ()) <| ()
 exact kQ
theorem F.jI {n:Nat} : ∀ {ja r},G.jI n ja=some r->aZ pZ 166 [.agg [wS ja.Name,wI ja.Version,wI ja.Node.Kind,wI ja.Node.Num,wS ja.Node.Text,wT ja.Node.Names,wK ja.Node.Kids]] (.agg [wS r.Name,wI r.Version,wI r.Node.Kind,wI r.Node.Num,wS r.Node.Text,wT r.Node.Names,wK r.Node.Kids]):=by
 intro ja r h
 refine aB K.jI (jZ ?_)
 unfold C.jI
 rcases n with _ | n<;>simp only [G.jI,reduceCtorEq] at h
 have z:=pp (pp @F.au ()) <| pp () <| pp () <| pp () <| pp () <| pp () <| ()
 exact kQ
theorem F.aY {n:Nat} : ∀ {ai r},G.aY n ai=some r->aZ pZ 119 [.agg [.c (.sl 7 (List.map aH.cells ai.Items)),wI ai.Clock]] (.agg [.c (.sl 7 (List.map aH.cells r.Items)),wI r.Clock]):=by
 intro ai r h
 refine aB K.aY (jZ ?_)
 unfold C.aY
 rcases n with _ | n<;>simp only [G.aY,reduceCtorEq] at h
 have z:=pp (pp @F.jI ()) <| pp () <| pp (pp (@lQ (Int × List aH) _ (fun n x=>G.aY.L1 n ai x.1 x.2) r (fun x=>bZ.of [eP 2 107,eP 3 108,(19,.v true (.one (.c (.sl 7 (List.map aH.cells ai.Items))))),eI 20 ((ai.Items.length:Nat):Int),eI 21 x.1] [(107,.var [.iL 7,wI 0]),(108,.var [.own 109 x.2.length 7,wI ai.Clock]),(109,.dat 7 (List.map aH.cells x.2))])) ()) <| pp () <| pp (pp (And.intro @G.aY.L1.eq_1 <| @G.aY.L1.eq_2) ()) <| pp (pp (@bQ [] [(107,11),(108,12),(109,13)] []) <| pp (@bQ [] [(107,107),(108,108),(109,109)] []) ()) <| ()
 exact kQ
theorem F.vC {n:Nat} : ∀ {ai r},G.aY n ai=some r->iZ pZ 119 [.agg [.c (.sl 7 (List.map aH.cells ai.Items)),wI ai.Clock]] [] (fun r1 b1=>r1 = .agg [.own 0 r.Items.length 7,wI r.Clock]/\b1=[.dat 7 (List.map aH.cells r.Items)]):=by
 intro ai r h
 refine kU K.aY (jZ ?_)
 unfold C.aY
 rcases n with _ | n<;>simp only [G.aY,reduceCtorEq] at h
 have z:=pp (pp @F.jI ()) <| pp () <| pp (pp (@lQ (Int × List aH) _ (fun n x=>G.aY.L1 n ai x.1 x.2) r (fun x=>bZ.of [eP 2 107,eP 3 108,(19,.v true (.one (.c (.sl 7 (List.map aH.cells ai.Items))))),eI 20 ((ai.Items.length:Nat):Int),eI 21 x.1] [(107,.var [.iL 7,wI 0]),(108,.var [.own 109 x.2.length 7,wI ai.Clock]),(109,.dat 7 (List.map aH.cells x.2))])) ()) <| pp () <| pp (pp (And.intro @G.aY.L1.eq_1 <| @G.aY.L1.eq_2) ()) <| pp (pp (@bQ [] [(107,11),(108,12),(109,13)] []) <| pp (@bQ [] [(107,107),(108,108),(109,109)] []) ()) <| (pp (@qx [] [(0,109)] []) <| pp (@qx [] [] [0]) ())
 exact kQ
theorem F.jL {n:Nat} : ∀ {ja aW r},G.jL n ja aW=some r->aZ pZ 202 [.agg [wS ja.Name,wI ja.Version,wI ja.Node.Kind,wI ja.Node.Num,wS ja.Node.Text,wT ja.Node.Names,wK ja.Node.Kids],.one (wS aW)] (.one (wI r)):=by
 intro ja aW r h
 refine aB K.jL (jZ ?_)
 unfold C.jL
 rcases n with _ | n<;>simp only [G.jL,reduceCtorEq] at h
 have z:=pp (pp @F.strings_Compare ()) <| pp () <| pp () <| pp () <| pp () <| pp () <| ()
 exact kQ
theorem F.aj {n:Nat} : ∀ {kP jF r},G.aj n kP jF=some r->aZ pZ 201 [.one (.c (.sl 7 (List.map aH.cells kP))),.one (wS jF),.one (.fn 202 [])] (.nV [(false,[wI r.1]),(false,[.c (.lit (.bool r.2))])]):=by
 intro kP jF r h
 refine aB K.aj (jZ ?_)
 unfold C.mJ
 rcases n with _ | n<;>simp only [G.aj,reduceCtorEq] at h
 have z:=pp (pp @F.jL ()) <| pp () <| pp (pp (@lQ (Int × Int) _ (fun n x=>G.aj.L1 n kP jF x.1 x.2) r (fun x=>bZ.of [(0,.v true (.one (.c (.sl 7 (List.map aH.cells kP))))),eS 1 jF,(2,.v true (.one (.fn 202 []))),eI 8 ((kP.length:Nat):Int),eI 9 x.1,eI 10 x.2] [])) ()) <| pp () <| pp (pp (And.intro @G.aj.L1.eq_1 <| @G.aj.L1.eq_2) ()) <| pp (pp (@bQ [] [] []) ()) <| ()
 exact kQ
theorem F.gQ {n:Nat} : ∀ {nP aW r},G.gQ n nP aW=some r->aZ pZ 165 [.one (.c (.sl 7 (List.map aH.cells nP))),.one (wS aW)] (.nV [(false,[wI r.1]),(false,[.c (.lit (.bool r.2))])]):=by
 intro nP aW r h
 refine aB K.gQ (jZ ?_)
 unfold C.gQ
 rcases n with _ | n<;>simp only [G.gQ,reduceCtorEq] at h
 have z:=pp () <| pp (pp (pp @F.aj (@cG [] [])) ()) <| pp () <| pp () <| pp () <| pp () <| ()
 exact kQ
end Go.Ab
end
