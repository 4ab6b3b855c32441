/- The functions of the program that the laws reach: what they compute, the proofs that they do, the laws of the data (part 1). No conditions. -/
import Derived.Test.YtcoolhkhnglfgaaGreatDoorY2
set_option linter.unusedVariables false
set_option linter.unusedSimpArgs false
set_option maxRecDepth 100000
set_option maxHeartbeats 4000000
set_option linter.defProp false
set_option linter.unusedSectionVars false
open Go.IntKind renaming wrap->af,bits->iK
open Go.Op renaming bytesLess->iL
open Int renaming tmod->lq,tdiv->nV,fdiv->qy
open List renaming map->ag,replicate->bU
open UInt8 renaming ofNat->dR
namespace Go.Ab
open Go
structure aj where
 Kind:Int
 Num:Int
 Text:aO
 Names:List aO
 Kids:List aj
 deriving Inhabited
mutual
def aj.cells : aj->List Cell
 |aj.mk x0 x1 x2 x3 x4=>[.lit (.int .i64 x0),.lit (.int .i64 x1),.str x2,.sl 1 (ag cS x3),.sl 5 (aj.Hq x4)]
def aj.Hq : List aj->List (List Cell)
 |[]=>[]
 |x::r=>x.cells::aj.Hq r
end
theorem aj.RD (ks:List aj):aj.Hq ks=ag aj.cells ks:=by
 induction ks with
 |nil=>rfl
 |cons x r ih=>simp[aj.Hq,ih]
theorem aj.fD (n:aj):n.cells=[.lit (.int .i64 n.Kind),.lit (.int .i64 n.Num),.str n.Text,.sl 1 (ag cS n.Names),.sl 5 (ag aj.cells n.Kids)]:=by cases n;rw[aj.cells,aj.RD]
structure oh where
 Kind:Int
 Path:List aO
 From:List aO
 Value:aj
 deriving Inhabited
def oh.cells (n:oh):List Cell:=[.lit (.int .i64 n.Kind),.sl 1 (ag cS n.Path),.sl 1 (ag cS n.From),.lit (.int .i64 n.Value.Kind),.lit (.int .i64 n.Value.Num),.str n.Value.Text,.sl 1 (ag cS n.Value.Names),.sl 5 (ag aj.cells n.Value.Kids)]
theorem oh.fD (n:oh):n.cells=[.lit (.int .i64 n.Kind),.sl 1 (ag cS n.Path),.sl 1 (ag cS n.From),.lit (.int .i64 n.Value.Kind),.lit (.int .i64 n.Value.Num),.str n.Value.Text,.sl 1 (ag cS n.Value.Names),.sl 5 (ag aj.cells n.Value.Kids)]:=rfl
structure bG where
 Name:aO
 Version:Int
 Node:aj
 deriving Inhabited
def bG.cells (n:bG):List Cell:=[.str n.Name,.lit (.int .i64 n.Version),.lit (.int .i64 n.Node.Kind),.lit (.int .i64 n.Node.Num),.str n.Node.Text,.sl 1 (ag cS n.Node.Names),.sl 5 (ag aj.cells n.Node.Kids)]
theorem bG.fD (n:bG):n.cells=[.str n.Name,.lit (.int .i64 n.Version),.lit (.int .i64 n.Node.Kind),.lit (.int .i64 n.Node.Num),.str n.Node.Text,.sl 1 (ag cS n.Node.Names),.sl 5 (ag aj.cells n.Node.Kids)]:=rfl
structure StoreT where
 Items:List bG
 Clock:Int
 deriving Inhabited
def StoreT.cells (n:StoreT):List Cell:=[.sl 7 (ag bG.cells n.Items),.lit (.int .i64 n.Clock)]
theorem StoreT.fD (n:StoreT):n.cells=[.sl 7 (ag bG.cells n.Items),.lit (.int .i64 n.Clock)]:=rfl
structure RequestT where
 Method:Int
 Name:aO
 Want:List aO
 oJ:List aO
 Body:aj
 Ops:List oh
 deriving Inhabited
def RequestT.cells (n:RequestT):List Cell:=[.lit (.int .i64 n.Method),.str n.Name,.sl 1 (ag cS n.Want),.sl 1 (ag cS n.oJ),.lit (.int .i64 n.Body.Kind),.lit (.int .i64 n.Body.Num),.str n.Body.Text,.sl 1 (ag cS n.Body.Names),.sl 5 (ag aj.cells n.Body.Kids),.sl 8 (ag oh.cells n.Ops)]
theorem RequestT.fD (n:RequestT):n.cells=[.lit (.int .i64 n.Method),.str n.Name,.sl 1 (ag cS n.Want),.sl 1 (ag cS n.oJ),.lit (.int .i64 n.Body.Kind),.lit (.int .i64 n.Body.Num),.str n.Body.Text,.sl 1 (ag cS n.Body.Names),.sl 5 (ag aj.cells n.Body.Kids),.sl 8 (ag oh.cells n.Ops)]:=rfl
structure gy where
 Status:Int
 Tag:aO
 Version:Int
 Body:aj
 deriving Inhabited
def gy.cells (n:gy):List Cell:=[.lit (.int .i64 n.Status),.str n.Tag,.lit (.int .i64 n.Version),.lit (.int .i64 n.Body.Kind),.lit (.int .i64 n.Body.Num),.str n.Body.Text,.sl 1 (ag cS n.Body.Names),.sl 5 (ag aj.cells n.Body.Kids)]
theorem gy.fD (n:gy):n.cells=[.lit (.int .i64 n.Status),.str n.Tag,.lit (.int .i64 n.Version),.lit (.int .i64 n.Body.Kind),.lit (.int .i64 n.Body.Num),.str n.Body.Text,.sl 1 (ag cS n.Body.Names),.sl 5 (ag aj.cells n.Body.Kids)]:=rfl
structure zQ where
 Func:aO
 Num:aO
 Err:Unit
 deriving Inhabited
def zQ.cells (n:zQ):List Cell:=[.str n.Func,.str n.Num,.lit .nilIface]
theorem zQ.fD (n:zQ):n.cells=[.str n.Func,.str n.Num,.lit .nilIface]:=rfl
structure bf where
 text:aO
 at_:Int
 deriving Inhabited
def bf.cells (n:bf):List Cell:=[.str n.text,.lit (.int .i64 n.at_)]
theorem bf.fD (n:bf):n.cells=[.str n.text,.lit (.int .i64 n.at_)]:=rfl
structure mg where
 now:StoreT
 kept:StoreT
 deriving Inhabited
def mg.cells (n:mg):List Cell:=[.sl 7 (ag bG.cells n.now.Items),.lit (.int .i64 n.now.Clock),.sl 7 (ag bG.cells n.kept.Items),.lit (.int .i64 n.kept.Clock)]
theorem mg.fD (n:mg):n.cells=[.sl 7 (ag bG.cells n.now.Items),.lit (.int .i64 n.now.Clock),.sl 7 (ag bG.cells n.kept.Items),.lit (.int .i64 n.kept.Clock)]:=rfl
structure dG where
 text:aO
 at_:Int
 bad:Bool
 deriving Inhabited
def dG.cells (n:dG):List Cell:=[.str n.text,.lit (.int .i64 n.at_),.lit (.bool n.bad)]
theorem dG.fD (n:dG):n.cells=[.str n.text,.lit (.int .i64 n.at_),.lit (.bool n.bad)]:=rfl
structure vO where
 store:StoreT
 mark:StoreT
 deriving Inhabited
def vO.cells (n:vO):List Cell:=[.sl 7 (ag bG.cells n.store.Items),.lit (.int .i64 n.store.Clock),.sl 7 (ag bG.cells n.mark.Items),.lit (.int .i64 n.mark.Clock)]
theorem vO.fD (n:vO):n.cells=[.sl 7 (ag bG.cells n.store.Items),.lit (.int .i64 n.store.Clock),.sl 7 (ag bG.cells n.mark.Items),.lit (.int .i64 n.mark.Clock)]:=rfl
def G.cmp_isNaN_int (f:Nat)(sN:Int):Option (Bool):=match f with
|0=>none
|n+1=>(some ((sN != sN)))
def G.cmp_Compare_int (f:Nat)(sN:Int)(J5:Int):Option (Int):=match f with
|0=>none
|n+1=>((G.cmp_isNaN_int n sN).bind λv1=>((G.cmp_isNaN_int n J5).bind λv2=>(cond v1
(cond v2
(some (0))
(some ((-1))))
(cond v2
(some (1))
(cond (decide (sN<J5))
(some ((-1)))
(cond (decide (J5<sN))
(some (1))
(some (0))))))))
def G.cmp_isNaN_string (f:Nat)(sN:aO):Option (Bool):=match f with
|0=>none
|n+1=>(some ((!(sN==sN))))
def G.cmp_Less_string (f:Nat)(sN:aO)(J5:aO):Option (Bool):=match f with
|0=>none
|n+1=>((G.cmp_isNaN_string n sN).bind λv1=>(cond v1
((G.cmp_isNaN_string n J5).bind λv2=>(cond v2
(some ((iL sN J5)))
(some (true))))
(some ((iL sN J5)))))
mutual
def G.aP.L2 (f:Nat)(ax:aj)(z1:List aO)(iT:Int)(z4:List aj):Option (aj):=match f with
|0=>none
|n+1=>(cond (decide (iT<(ax.Kids.length:Int)))
(chk (0<=iT/\iT<(ax.Kids.length:Int))
((G.aP n (ax.Kids.getD iT.toNat default)).bind λv3=>(chk (0<=iT/\iT<(z4.length:Int))
(G.aP.L2 n ax z1 (af .i64 (iT+1)) (z4.set iT.toNat v3)))))
(some ((aj.mk ax.Kind ax.Num ax.Text z1 z4))))
def G.aP.K1 (f:Nat)(ax:aj)(z1:List aO):Option (aj):=match f with
|0=>none
|n+1=>(cond (decide (0<(ax.Kids.length:Int)))
(chk (0<=(ax.Kids.length:Int)/\(ax.Kids.length:Int)<=(ax.Kids.length:Int)/\80*(ax.Kids.length:Int)<=2^47/\(ax.Kids.length:Int)<=2^47)
(G.aP.L2 n ax z1 0 (bU ax.Kids.length (aj.mk 0 0 [] [] []))))
(some ((aj.mk ax.Kind ax.Num ax.Text z1 []))))
def G.aP (f:Nat)(ax:aj):Option (aj):=match f with
|0=>none
|n+1=>(cond (decide (0<(ax.Names.length:Int)))
(chk (0<=(ax.Names.length:Int)/\(ax.Names.length:Int)<=(ax.Names.length:Int)/\16*(ax.Names.length:Int)<=2^47/\(ax.Names.length:Int)<=2^47)
(G.aP.K1 n ax ax.Names))
(G.aP.K1 n ax []))
end
def G.slices_isNaN_string (f:Nat)(sN:aO):Option (Bool):=match f with
|0=>none
|n+1=>(some ((!(sN==sN))))
def G.slices_BinarySearch_string.L1 (f:Nat)(sN:List aO)(pV:aO)(aG:Int)(Jm:Int):Option (Int×Bool):=match f with
|0=>none
|n+1=>(cond (decide (aG<Jm))
(chk (0<=(af .i64 ((qy (af .u64 ((af .i64 (aG+Jm)))) (2^(min 1 (iK .u64))))))/\(af .i64 ((qy (af .u64 ((af .i64 (aG+Jm)))) (2^(min 1 (iK .u64))))))<(sN.length:Int))
((G.cmp_Less_string n (sN.getD (af .i64 ((qy (af .u64 ((af .i64 (aG+Jm)))) (2^(min 1 (iK .u64)))))).toNat default) pV).bind λv3=>(cond v3
(G.slices_BinarySearch_string.L1 n sN pV (af .i64 ((af .i64 ((qy (af .u64 ((af .i64 (aG+Jm)))) (2^(min 1 (iK .u64))))))+1)) Jm)
(G.slices_BinarySearch_string.L1 n sN pV aG (af .i64 ((qy (af .u64 ((af .i64 (aG+Jm)))) (2^(min 1 (iK .u64))))))))))
(cond (decide (aG<(sN.length:Int)))
(chk (0<=aG/\aG<(sN.length:Int))
(cond ((sN.getD aG.toNat default)==pV)
(some (aG,true))
(chk (0<=aG/\aG<(sN.length:Int))
((G.slices_isNaN_string n (sN.getD aG.toNat default)).bind λv4=>(cond v4
((G.slices_isNaN_string n pV).bind λv5=>(some (aG,v5)))
(some (aG,false)))))))
(some (aG,false))))
def G.slices_BinarySearch_string (f:Nat)(sN:List aO)(pV:aO):Option (Int×Bool):=match f with
|0=>none
|n+1=>(G.slices_BinarySearch_string.L1 n sN pV 0 (sN.length:Int))
def G.strconv_Itoa (f:Nat)(i:Int):Option aO:=match f with
|0=>none
|_+1=>(chk ((-9223372036854775808<=i/\i<=9223372036854775807)/\(Go.Lib.itoa i).length<=1000000) (some (Go.Lib.itoa i)))
def G.gQ.L1 (f:Nat)(ax:aj)(jO:aO)(iT:Int):Option (Int×Bool):=match f with
|0=>none
|n+1=>(cond (decide (iT<(ax.Kids.length:Int)))
((G.strconv_Itoa n iT).bind λv4=>(cond (v4==jO)
(some (iT,true))
(G.gQ.L1 n ax jO (af .i64 (iT+1)))))
(some (0,false)))
def G.gQ (f:Nat)(ax:aj)(jO:aO):Option (Int×Bool):=match f with
|0=>none
|n+1=>(cond (ax.Kind==4)
((G.slices_BinarySearch_string n ax.Names jO).bind λv1=>(some (v1.1,v1.2)))
(cond (ax.Kind==3)
(G.gQ.L1 n ax jO 0)
(some (0,false))))
def G.iW (f:Nat)(s:List aj)(i:Int)(v:List aj):Option (List aj):=match f with
|0=>none
|_+1=>chk (0<=i/\i<=(s.length:Int)/\v.length=1/\(s.length+1)*86<=2^46) (some (s.take i.toNat++v++s.drop i.toNat))
def G.mG (f:Nat)(s:List aO)(i:Int)(v:List aO):Option (List aO):=match f with
|0=>none
|_+1=>chk (0<=i/\i<=(s.length:Int)/\v.length=1/\(s.length+1)*18<=2^46) (some (s.take i.toNat++v++s.drop i.toNat))
def G.oL (f:Nat)(Ai:aj)(eY:aO)(iP:aj):Option (aj):=match f with
|0=>none
|n+1=>((G.slices_BinarySearch_string n Ai.Names eY).bind λv1=>(cond v1.2
(chk (0<=v1.1/\v1.1<(Ai.Kids.length:Int))
(some ((aj.mk Ai.Kind Ai.Num Ai.Text Ai.Names (Ai.Kids.set v1.1.toNat iP)))))
((G.mG n Ai.Names v1.1 [eY]).bind λv2=>((G.iW n Ai.Kids v1.1 [iP]).bind λv3=>(some ((aj.mk Ai.Kind Ai.Num Ai.Text v2 v3)))))))
def G.lu.K1 (f:Nat)(iP:aj)(v1:aj)(agE:Int)(WA:Bool):Option (aj×Bool):=match f with
|0=>none
|n+1=>(cond WA
((G.aP n iP).bind λv6=>((G.iW n v1.Kids agE [v6]).bind λv7=>(some ((aj.mk v1.Kind v1.Num v1.Text v1.Names v7),true))))
(some ((aj.mk 0 0 [] [] []),false)))
def G.lu (f:Nat)(ax:aj)(jO:aO)(iP:aj):Option (aj×Bool):=match f with
|0=>none
|n+1=>((G.aP n ax).bind λv1=>(cond (ax.Kind==4)
((G.aP n iP).bind λv2=>((G.oL n v1 jO v2).bind λv3=>(some (v3,true))))
(cond (ax.Kind==3)
((G.gQ n ax jO).bind λv4=>(cond v4.2
(G.lu.K1 n iP v1 v4.1 true)
(cond (jO==[45])
(G.lu.K1 n iP v1 (ax.Kids.length:Int) true)
((G.strconv_Itoa n (ax.Kids.length:Int)).bind λv8=>(cond (jO==v8)
(G.lu.K1 n iP v1 (ax.Kids.length:Int) true)
(G.lu.K1 n iP v1 v4.1 false))))))
(some ((aj.mk 0 0 [] [] []),false)))))
def G.sO (f:Nat)(yu:aj)(kH:List aO)(oI:Int)(yH:aj):Option (aj×Bool):=match f with
|0=>none
|n+1=>(chk (0<=oI/\oI<(kH.length:Int))
((G.lu n yu (kH.getD oI.toNat default) yH).bind λv1=>(some (v1.1,v1.2))))
def G.gK.L1 (f:Nat)(aA:aO)(aG:Int):Option (Bool):=match f with
|0=>none
|n+1=>(cond (decide (aG<(aA.length:Int)))
(chk (0<=aG/\aG<(aA.length:Int))
(cond (decide (((aA.getD aG.toNat 0).toNat:Int)<32))
(some (false))
(chk (0<=aG/\aG<(aA.length:Int))
(cond (decide (126<((aA.getD aG.toNat 0).toNat:Int)))
(some (false))
(G.gK.L1 n aA (af .i64 (aG+1)))))))
(some (true)))
def G.gK (f:Nat)(aA:aO):Option (Bool):=match f with
|0=>none
|n+1=>(cond (decide (12<(aA.length:Int)))
(some (false))
(G.gK.L1 n aA 0))
def G.jQ.L1 (f:Nat)(vP:List aO)(iT:Int):Option (Bool):=match f with
|0=>none
|n+1=>(cond (decide (iT<(vP.length:Int)))
(chk (0<=iT/\iT<(vP.length:Int))
((G.gK n (vP.getD iT.toNat default)).bind λv3=>(cond v3
(cond (decide (0<iT))
(chk (0<=(af .i64 (iT-1))/\(af .i64 (iT-1))<(vP.length:Int))
(cond (iL (vP.getD (af .i64 (iT-1)).toNat default) (vP.getD iT.toNat default))
(G.jQ.L1 n vP (af .i64 (iT+1)))
(some (false))))
(G.jQ.L1 n vP (af .i64 (iT+1))))
(some (false)))))
(some (true)))
def G.jQ (f:Nat)(vP:List aO):Option (Bool):=match f with
|0=>none
|n+1=>(cond (decide (6<(vP.length:Int)))
(some (false))
(G.jQ.L1 n vP 0))
def G.gW.K1 (f:Nat)(ax:aj):Option (Bool):=match f with
|0=>none
|n+1=>(cond (ax.Kind != 4)
(cond (decide (0<(ax.Names.length:Int)))
(some (false))
(cond (ax.Kind==0)
(some (((ax.Kids.length:Int)==0)))
(cond (ax.Kind==1)
(cond (decide ((-999999)<=ax.Num))
(cond (decide (ax.Num<=999999))
(some (((ax.Kids.length:Int)==0)))
(some (false)))
(some (false)))
(cond (ax.Kind==2)
((G.gK n ax.Text).bind λv1=>(cond v1
(some (((ax.Kids.length:Int)==0)))
(some (false))))
(cond (ax.Kind==3)
(some ((decide ((ax.Kids.length:Int)<=6))))
(cond (ax.Kind==4)
((G.jQ n ax.Names).bind λv2=>(cond v2
(some (((ax.Kids.length:Int)==(ax.Names.length:Int))))
(some (false))))
(some (false))))))))
(cond (ax.Kind==0)
(some (((ax.Kids.length:Int)==0)))
(cond (ax.Kind==1)
(cond (decide ((-999999)<=ax.Num))
(cond (decide (ax.Num<=999999))
(some (((ax.Kids.length:Int)==0)))
(some (false)))
(some (false)))
(cond (ax.Kind==2)
((G.gK n ax.Text).bind λv3=>(cond v3
(some (((ax.Kids.length:Int)==0)))
(some (false))))
(cond (ax.Kind==3)
(some ((decide ((ax.Kids.length:Int)<=6))))
(cond (ax.Kind==4)
((G.jQ n ax.Names).bind λv4=>(cond v4
(some (((ax.Kids.length:Int)==(ax.Names.length:Int))))
(some (false))))
(some (false))))))))
def G.gW (f:Nat)(ax:aj):Option (Bool):=match f with
|0=>none
|n+1=>(cond (ax.Kind != 1)
(cond (ax.Num != 0)
(some (false))
(cond (ax.Kind != 2)
(cond (ax.Text==[])
(G.gW.K1 n ax)
(some (false)))
(G.gW.K1 n ax)))
(cond (ax.Kind != 2)
(cond (ax.Text==[])
(G.gW.K1 n ax)
(some (false)))
(G.gW.K1 n ax)))
mutual
def G.fU.L1 (f:Nat)(ax:aj)(mD:Int)(Wy:Int)(QX:Int)(iT:Int):Option (Int×Int×Bool):=match f with
|0=>none
|n+1=>(cond (decide (iT<(ax.Kids.length:Int)))
(chk (0<=iT/\iT<(ax.Kids.length:Int))
((G.fU n (ax.Kids.getD iT.toNat default) (af .i64 (mD+1))).bind λv4=>(cond v4.2.2
(G.fU.L1 n ax mD (af .i64 (Wy+v4.1)) (if(af .i64 (v4.2.1+1))>QX then(af .i64 (v4.2.1+1))else QX) (af .i64 (iT+1)))
(some (0,0,false)))))
(some (Wy,QX,true)))
def G.fU (f:Nat)(ax:aj)(mD:Int):Option (Int×Int×Bool):=match f with
|0=>none
|n+1=>(cond (decide (5<mD))
(some (0,0,false))
((G.gW n ax).bind λv1=>(cond v1
(G.fU.L1 n ax mD 1 1 0)
(some (0,0,false)))))
end
def G.aX (f:Nat)(ax:aj):Option (Bool):=match f with
|0=>none
|n+1=>((G.fU n ax 1).bind λv1=>(cond v1.2.2
(some ((decide (v1.1<=40))))
(some (false))))
mutual
def G.jv (f:Nat)(ax:aj)(aC:List aO)(kH:List aO)(oI:Int)(yH:aj):Option (aj×Bool):=match f with
|0=>none
|n+1=>(cond ((aC.length:Int)==0)
((G.sO n ax kH oI yH).bind λv1=>(some (v1.1,v1.2)))
(chk (0<=0/\0<(aC.length:Int))
((G.gQ n ax (aC.getD 0 default)).bind λv2=>(cond v2.2
(chk (0<=v2.1/\v2.1<(ax.Kids.length:Int))
(chk (0<=1/\1<=(aC.length:Int)/\(aC.length:Int)<=(aC.length:Int))
((G.jv n (ax.Kids.getD v2.1.toNat default) (aC.drop 1) kH oI yH).bind λv3=>(cond v3.2
((G.aP n ax).bind λv4=>(chk (0<=v2.1/\v2.1<(v4.Kids.length:Int))
(some ((aj.mk v4.Kind v4.Num v4.Text v4.Names (v4.Kids.set v2.1.toNat v3.1)),true))))
(some ((aj.mk 0 0 [] [] []),false))))))
(some ((aj.mk 0 0 [] [] []),false))))))
end
def G.mX (f:Nat)(ax:aj)(IG:Bool):Option (aj×Bool):=match f with
|0=>none
|n+1=>(cond IG
((G.aX n ax).bind λv1=>(cond v1
(some (ax,true))
(some ((aj.mk 0 0 [] [] []),false))))
(some ((aj.mk 0 0 [] [] []),false)))
def G.iI.L1 (f:Nat)(aC:List aO)(iT:Int):Option (Bool):=match f with
|0=>none
|n+1=>(cond (decide (iT<(aC.length:Int)))
(chk (0<=iT/\iT<(aC.length:Int))
((G.gK n (aC.getD iT.toNat default)).bind λv3=>(cond v3
(G.iI.L1 n aC (af .i64 (iT+1)))
(some (false)))))
(some (true)))
def G.iI (f:Nat)(aC:List aO):Option (Bool):=match f with
|0=>none
|n+1=>(cond (decide (5<(aC.length:Int)))
(some (false))
(G.iI.L1 n aC 0))
def G.nX (f:Nat)(ax:aj)(aC:List aO)(iP:aj):Option (aj×Bool):=match f with
|0=>none
|n+1=>((G.aX n ax).bind λv1=>(cond v1
((G.iI n aC).bind λv2=>(cond v2
((G.aX n iP).bind λv3=>(cond v3
(cond ((aC.length:Int)==0)
((G.aP n iP).bind λv4=>(some (v4,true)))
(chk (0<=0/\0<=(af .i64 ((aC.length:Int)-1))/\(af .i64 ((aC.length:Int)-1))<=(aC.length:Int))
((G.jv n ax (aC.take ((af .i64 ((aC.length:Int)-1)).toNat)) aC (af .i64 ((aC.length:Int)-1)) iP).bind λv5=>((G.mX n v5.1 v5.2).bind λv6=>(some (v6.1,v6.2))))))
(some ((aj.mk 0 0 [] [] []),false))))
(some ((aj.mk 0 0 [] [] []),false))))
(some ((aj.mk 0 0 [] [] []),false))))
def G.jR.L1 (f:Nat)(aC:List aO)(iT:Int)(y6:Int)(y7:Int)(y8:aO)(y9:List aO)(KQ:List aj):Option (aj×Bool):=match f with
|0=>none
|n+1=>(cond (decide (iT<(aC.length:Int)))
(chk (0<=iT/\iT<(aC.length:Int))
((G.gQ n (aj.mk y6 y7 y8 y9 KQ) (aC.getD iT.toNat default)).bind λv3=>(cond v3.2
(chk (0<=v3.1/\v3.1<(KQ.length:Int))
(G.jR.L1 n aC (af .i64 (iT+1)) ((KQ.getD v3.1.toNat default).Kind) ((KQ.getD v3.1.toNat default).Num) ((KQ.getD v3.1.toNat default).Text) ((KQ.getD v3.1.toNat default).Names) ((KQ.getD v3.1.toNat default).Kids)))
(some ((aj.mk 0 0 [] [] []),false)))))
(some ((aj.mk y6 y7 y8 y9 KQ),true)))
def G.jR (f:Nat)(ax:aj)(aC:List aO):Option (aj×Bool):=match f with
|0=>none
|n+1=>(G.jR.L1 n aC 0 ax.Kind ax.Num ax.Text ax.Names ax.Kids)
def G.rZ (f:Nat)(ax:aj)(aC:List aO):Option (aj×Bool):=match f with
|0=>none
|n+1=>((G.aX n ax).bind λv1=>(cond v1
((G.iI n aC).bind λv2=>(cond v2
((G.jR n ax aC).bind λv3=>(cond v3.2
((G.aP n v3.1).bind λv4=>(some (v4,true)))
(some ((aj.mk 0 0 [] [] []),false))))
(some ((aj.mk 0 0 [] [] []),false))))
(some ((aj.mk 0 0 [] [] []),false))))
def G.jH (f:Nat)(s:List aj)(i:Int)(j:Int):Option (List aj):=match f with
|0=>none
|_+1=>chk (0<=i/\i<j/\j<=(s.length:Int)/\s.length*86<=2^46) (some (s.take i.toNat++s.drop j.toNat))
def G.slices_Delete_string (f:Nat)(s:List aO)(i:Int)(j:Int):Option (List aO):=match f with
|0=>none
|_+1=>chk (0<=i/\i<j/\j<=(s.length:Int)/\s.length*18<=2^46) (some (s.take i.toNat++s.drop j.toNat))
def G.jf.K1 (f:Nat)(v1:Int×Bool)(v2:aj)(z1:List aO):Option (aj×Bool):=match f with
|0=>none
|n+1=>((G.jH n v2.Kids v1.1 (af .i64 (v1.1+1))).bind λv4=>(some ((aj.mk v2.Kind v2.Num v2.Text z1 v4),true)))
def G.jf (f:Nat)(yu:aj)(kH:List aO)(oI:Int):Option (aj×Bool):=match f with
|0=>none
|n+1=>(chk (0<=oI/\oI<(kH.length:Int))
((G.gQ n yu (kH.getD oI.toNat default)).bind λv1=>(cond v1.2
((G.aP n yu).bind λv2=>(cond (yu.Kind==4)
((G.slices_Delete_string n v2.Names v1.1 (af .i64 (v1.1+1))).bind λv5=>(G.jf.K1 n v1 v2 v5))
(G.jf.K1 n v1 v2 v2.Names)))
(some ((aj.mk 0 0 [] [] []),false)))))
mutual
def G.iQ (f:Nat)(ax:aj)(aC:List aO)(kH:List aO)(oI:Int):Option (aj×Bool):=match f with
|0=>none
|n+1=>(cond ((aC.length:Int)==0)
((G.jf n ax kH oI).bind λv1=>(some (v1.1,v1.2)))
(chk (0<=0/\0<(aC.length:Int))
((G.gQ n ax (aC.getD 0 default)).bind λv2=>(cond v2.2
(chk (0<=v2.1/\v2.1<(ax.Kids.length:Int))
(chk (0<=1/\1<=(aC.length:Int)/\(aC.length:Int)<=(aC.length:Int))
((G.iQ n (ax.Kids.getD v2.1.toNat default) (aC.drop 1) kH oI).bind λv3=>(cond v3.2
((G.aP n ax).bind λv4=>(chk (0<=v2.1/\v2.1<(v4.Kids.length:Int))
(some ((aj.mk v4.Kind v4.Num v4.Text v4.Names (v4.Kids.set v2.1.toNat v3.1)),true))))
(some ((aj.mk 0 0 [] [] []),false))))))
(some ((aj.mk 0 0 [] [] []),false))))))
end
def G.lQ (f:Nat)(ax:aj)(aC:List aO):Option (aj×Bool):=match f with
|0=>none
|n+1=>((G.aX n ax).bind λv1=>(cond v1
((G.iI n aC).bind λv2=>(cond v2
(cond ((aC.length:Int)==0)
(some ((aj.mk 0 0 [] [] []),false))
(chk (0<=0/\0<=(af .i64 ((aC.length:Int)-1))/\(af .i64 ((aC.length:Int)-1))<=(aC.length:Int))
((G.iQ n ax (aC.take ((af .i64 ((aC.length:Int)-1)).toNat)) aC (af .i64 ((aC.length:Int)-1))).bind λv3=>(some (v3.1,v3.2)))))
(some ((aj.mk 0 0 [] [] []),false))))
(some ((aj.mk 0 0 [] [] []),false))))
def G.sQ (f:Nat)(kC:aj)(kH:aj):Option (aj×Bool):=match f with
|0=>none
|n+1=>((G.aP n kH).bind λv1=>(some (v1,true)))
mutual
def G.jy (f:Nat)(ax:aj)(aC:List aO)(kH:aj):Option (aj×Bool):=match f with
|0=>none
|n+1=>(cond ((aC.length:Int)==0)
((G.sQ n ax kH).bind λv1=>(some (v1.1,v1.2)))
(chk (0<=0/\0<(aC.length:Int))
((G.gQ n ax (aC.getD 0 default)).bind λv2=>(cond v2.2
(chk (0<=v2.1/\v2.1<(ax.Kids.length:Int))
(chk (0<=1/\1<=(aC.length:Int)/\(aC.length:Int)<=(aC.length:Int))
((G.jy n (ax.Kids.getD v2.1.toNat default) (aC.drop 1) kH).bind λv3=>(cond v3.2
((G.aP n ax).bind λv4=>(chk (0<=v2.1/\v2.1<(v4.Kids.length:Int))
(some ((aj.mk v4.Kind v4.Num v4.Text v4.Names (v4.Kids.set v2.1.toNat v3.1)),true))))
(some ((aj.mk 0 0 [] [] []),false))))))
(some ((aj.mk 0 0 [] [] []),false))))))
end
def G.tY (f:Nat)(ax:aj)(aC:List aO)(iP:aj):Option (aj×Bool):=match f with
|0=>none
|n+1=>((G.aX n ax).bind λv1=>(cond v1
((G.iI n aC).bind λv2=>(cond v2
((G.aX n iP).bind λv3=>(cond v3
((G.jy n ax aC iP).bind λv4=>((G.mX n v4.1 v4.2).bind λv5=>(some (v5.1,v5.2))))
(some ((aj.mk 0 0 [] [] []),false))))
(some ((aj.mk 0 0 [] [] []),false))))
(some ((aj.mk 0 0 [] [] []),false))))
def G.rq (f:Nat)(jY:oh):Option (Bool):=match f with
|0=>none
|n+1=>(cond (decide (1<=jY.Kind))
(cond (decide (jY.Kind<=6))
((G.iI n jY.Path).bind λv1=>(cond v1
((G.iI n jY.From).bind λv2=>(cond v2
((G.aX n jY.Value).bind λv3=>(some (v3)))
(some (false))))
(some (false))))
(some (false)))
(some (false)))
def G.slices_Equal_string.L1 (f:Nat)(FV:List aO)(Ik:List aO)(iT:Int):Option (Bool):=match f with
|0=>none
|n+1=>(cond (decide (iT<(FV.length:Int)))
(chk (0<=iT/\iT<(FV.length:Int))
(chk (0<=iT/\iT<(Ik.length:Int))
(cond ((FV.getD iT.toNat default)==(Ik.getD iT.toNat default))
(G.slices_Equal_string.L1 n FV Ik (af .i64 (iT+1)))
(some (false)))))
(some (true)))
def G.slices_Equal_string (f:Nat)(FV:List aO)(Ik:List aO):Option (Bool):=match f with
|0=>none
|n+1=>(cond ((FV.length:Int) != (Ik.length:Int))
(some (false))
(G.slices_Equal_string.L1 n FV Ik 0))
def G.rW (f:Nat)(ax:aj)(BL:List aO)(aC:List aO):Option (aj×Bool):=match f with
|0=>none
|n+1=>((G.rZ n ax BL).bind λv1=>(cond v1.2
((G.slices_Equal_string n aC BL).bind λv2=>(cond v2
((G.aP n ax).bind λv3=>(some (v3,true)))
(cond (decide ((BL.length:Int)<(aC.length:Int)))
(chk (0<=0/\0<=(BL.length:Int)/\(BL.length:Int)<=(aC.length:Int))
((G.slices_Equal_string n (aC.take BL.length) BL).bind λv4=>(cond v4
(some ((aj.mk 0 0 [] [] []),false))
((G.lQ n ax BL).bind λv5=>(cond v5.2
((G.nX n v5.1 aC v1.1).bind λv6=>(some (v6.1,v6.2)))
(some ((aj.mk 0 0 [] [] []),false)))))))
((G.lQ n ax BL).bind λv7=>(cond v7.2
((G.nX n v7.1 aC v1.1).bind λv8=>(some (v8.1,v8.2)))
(some ((aj.mk 0 0 [] [] []),false)))))))
(some ((aj.mk 0 0 [] [] []),false))))
def G.iD (f:Nat)(kC:aO)(nI:aO):Option (Int):=match f with
|0=>none
|n+1=>(some ((Go.Lib.compareBytes kC nI)))
def G.strings_Compare (f:Nat)(kC:aO)(nI:aO):Option (Int):=match f with
|0=>none
|n+1=>((G.iD n kC nI).bind λv1=>(some (v1)))
mutual
def G.bY.K4 (f:Nat)(kC:aj)(nI:aj)(aG:Int):Option (Int):=match f with
|0=>none
|n+1=>(chk (0<=aG/\aG<(kC.Kids.length:Int))
(chk (0<=aG/\aG<(nI.Kids.length:Int))
((G.bY n (kC.Kids.getD aG.toNat default) (nI.Kids.getD aG.toNat default)).bind λv11=>(cond (v11 != 0)
(some (v11))
(G.bY.L3 n kC nI (af .i64 (aG+1)))))))
def G.bY.L3 (f:Nat)(kC:aj)(nI:aj)(aG:Int):Option (Int):=match f with
|0=>none
|n+1=>(cond (decide (aG<(kC.Kids.length:Int)))
(cond (decide (aG<(nI.Kids.length:Int)))
(cond (kC.Kind==4)
(chk (0<=aG/\aG<(kC.Names.length:Int))
(chk (0<=aG/\aG<(nI.Names.length:Int))
((G.strings_Compare n (kC.Names.getD aG.toNat default) (nI.Names.getD aG.toNat default)).bind λv12=>(cond (v12 != 0)
(some (v12))
(G.bY.K4 n kC nI aG)))))
(G.bY.K4 n kC nI aG))
((G.cmp_Compare_int n (kC.Kids.length:Int) (nI.Kids.length:Int)).bind λv13=>(some (v13))))
((G.cmp_Compare_int n (kC.Kids.length:Int) (nI.Kids.length:Int)).bind λv14=>(some (v14))))
def G.bY (f:Nat)(kC:aj)(nI:aj):Option (Int):=match f with
|0=>none
|n+1=>((G.cmp_Compare_int n kC.Kind nI.Kind).bind λv1=>(cond (v1 != 0)
(some (v1))
((G.cmp_Compare_int n kC.Num nI.Num).bind λv2=>(cond (v2 != 0)
(some (v2))
((G.strings_Compare n kC.Text nI.Text).bind λv3=>(cond (v3 != 0)
(some (v3))
(G.bY.L3 n kC nI 0)))))))
end
def G.rX (f:Nat)(kC:aj)(nI:aj):Option (Bool):=match f with
|0=>none
|n+1=>((G.bY n kC nI).bind λv1=>(some ((v1==0))))
def G.qg (f:Nat)(ax:aj)(aC:List aO)(iP:aj):Option (aj×Bool):=match f with
|0=>none
|n+1=>((G.jR n ax aC).bind λv1=>(cond v1.2
((G.rX n v1.1 iP).bind λv2=>(cond v2
((G.aP n ax).bind λv3=>(some (v3,true)))
(some ((aj.mk 0 0 [] [] []),false))))
(some ((aj.mk 0 0 [] [] []),false))))
def G.tN (f:Nat)(ax:aj)(jY:oh):Option (aj×Bool):=match f with
|0=>none
|n+1=>((G.aX n ax).bind λv1=>(cond v1
((G.rq n jY).bind λv2=>(cond v2
(cond (jY.Kind==1)
((G.nX n ax jY.Path jY.Value).bind λv3=>(some (v3.1,v3.2)))
(cond (jY.Kind==2)
((G.lQ n ax jY.Path).bind λv4=>(some (v4.1,v4.2)))
(cond (jY.Kind==3)
((G.tY n ax jY.Path jY.Value).bind λv5=>(some (v5.1,v5.2)))
(cond (jY.Kind==4)
((G.rW n ax jY.From jY.Path).bind λv6=>(some (v6.1,v6.2)))
(cond (jY.Kind==5)
((G.rZ n ax jY.From).bind λv7=>(cond v7.2
((G.nX n ax jY.Path v7.1).bind λv8=>(some (v8.1,v8.2)))
(some ((aj.mk 0 0 [] [] []),false))))
((G.qg n ax jY.Path jY.Value).bind λv9=>(some (v9.1,v9.2))))))))
(some ((aj.mk 0 0 [] [] []),false))))
(some ((aj.mk 0 0 [] [] []),false))))
def G.fB.L1 (f:Nat)(aK:List oh)(iT:Int):Option (Bool):=match f with
|0=>none
|n+1=>(cond (decide (iT<(aK.length:Int)))
(chk (0<=iT/\iT<(aK.length:Int))
((G.rq n (oh.mk ((aK.getD iT.toNat default).Kind) ((aK.getD iT.toNat default).Path) ((aK.getD iT.toNat default).From) ((aK.getD iT.toNat default).Value))).bind λv3=>(cond v3
(G.fB.L1 n aK (af .i64 (iT+1)))
(some (false)))))
(some (true)))
def G.fB (f:Nat)(aK:List oh):Option (Bool):=match f with
|0=>none
|n+1=>(cond (decide (12<(aK.length:Int)))
(some (false))
(G.fB.L1 n aK 0))
def G.kR.L1 (f:Nat)(aK:List oh)(iT:Int)(y6:Int)(y7:Int)(y8:aO)(y9:List aO)(KQ:List aj):Option (aj×Int):=match f with
|0=>none
|n+1=>(cond (decide (iT<(aK.length:Int)))
(chk (0<=iT/\iT<(aK.length:Int))
((G.tN n (aj.mk y6 y7 y8 y9 KQ) (oh.mk ((aK.getD iT.toNat default).Kind) ((aK.getD iT.toNat default).Path) ((aK.getD iT.toNat default).From) ((aK.getD iT.toNat default).Value))).bind λv4=>(cond v4.2
(G.kR.L1 n aK (af .i64 (iT+1)) v4.1.Kind v4.1.Num v4.1.Text v4.1.Names v4.1.Kids)
(some ((aj.mk 0 0 [] [] []),iT)))))
(some ((aj.mk y6 y7 y8 y9 KQ),(aK.length:Int))))
def G.kR (f:Nat)(ax:aj)(aK:List oh):Option (aj×Int):=match f with
|0=>none
|n+1=>((G.aP n ax).bind λv1=>(G.kR.L1 n aK 0 v1.Kind v1.Num v1.Text v1.Names v1.Kids))
def G.pF (f:Nat)(ax:aj)(aK:List oh):Option (aj×Bool):=match f with
|0=>none
|n+1=>((G.aX n ax).bind λv1=>(cond v1
((G.fB n aK).bind λv2=>(cond v2
((G.kR n ax aK).bind λv3=>(some (v3.1,(v3.2==(aK.length:Int)))))
(some ((aj.mk 0 0 [] [] []),false))))
(some ((aj.mk 0 0 [] [] []),false))))
def G.jG (f:Nat)(aA:aO)(Gs:Int):Option (Int):=match f with
|0=>none
|n+1=>(some ((Go.Lib.indexByte aA Gs.toNat.toUInt8)))
def G.strings_IndexByte (f:Nat)(aA:aO)(Gs:Int):Option (Int):=match f with
|0=>none
|n+1=>((G.jG n aA Gs).bind λv1=>(some (v1)))
def G.nJ.L1 (f:Nat)(aA:aO)(aG:Int):Option (Bool):=match f with
|0=>none
|n+1=>(cond (decide (aG<(aA.length:Int)))
(chk (0<=aG/\aG<(aA.length:Int))
((G.strings_IndexByte n [48,49,50,51,52,53,54,55,56,57,97,98,99,100,101,102] ((aA.getD aG.toNat 0).toNat:Int)).bind λv3=>(cond (decide (v3<0))
(some (false))
(G.nJ.L1 n aA (af .i64 (aG+1))))))
(some (true)))
def G.nJ (f:Nat)(aA:aO):Option (Bool):=match f with
|0=>none
|n+1=>(cond ((aA.length:Int) != 4)
(some (false))
(G.nJ.L1 n aA 0))
def G.iZ.L1 (f:Nat)(aK:List aO)(iT:Int):Option (Bool):=match f with
|0=>none
|n+1=>(cond (decide (iT<(aK.length:Int)))
(chk (0<=iT/\iT<(aK.length:Int))
(cond ((aK.getD iT.toNat default)==[42])
(G.iZ.L1 n aK (af .i64 (iT+1)))
((G.nJ n (aK.getD iT.toNat default)).bind λv3=>(cond v3
(G.iZ.L1 n aK (af .i64 (iT+1)))
(some (false))))))
(some (true)))
def G.iZ (f:Nat)(aK:List aO):Option (Bool):=match f with
|0=>none
|n+1=>(cond (decide (4<(aK.length:Int)))
(some (false))
(G.iZ.L1 n aK 0))
def G.slices_Index_string.L1 (f:Nat)(aA:List aO)(CY:aO)(iT:Int):Option (Int):=match f with
|0=>none
|n+1=>(cond (decide (iT<(aA.length:Int)))
(chk (0<=iT/\iT<(aA.length:Int))
(cond (CY==(aA.getD iT.toNat default))
(some (iT))
(G.slices_Index_string.L1 n aA CY (af .i64 (iT+1)))))
(some ((-1))))
def G.slices_Index_string (f:Nat)(aA:List aO)(CY:aO):Option (Int):=match f with
|0=>none
|n+1=>(G.slices_Index_string.L1 n aA CY 0)
def G.slices_Contains_string (f:Nat)(aA:List aO)(CY:aO):Option (Bool):=match f with
|0=>none
|n+1=>((G.slices_Index_string n aA CY).bind λv1=>(some ((decide (0<=v1)))))
def G.pq (f:Nat)(aK:List aO)(qW:aO):Option (Bool):=match f with
|0=>none
|n+1=>((G.slices_Contains_string n aK qW).bind λv1=>(cond v1
(some (true))
((G.slices_Contains_string n aK [42]).bind λv2=>(some (v2)))))
def G.kF.K1 (f:Nat)(xZ:List aO)(um:List aO)(qW:aO)(wO:Bool):Option (Int):=match f with
|0=>none
|n+1=>(cond (decide (0<(xZ.length:Int)))
(cond (qW==[])
(some (412))
((G.pq n xZ qW).bind λv4=>(cond v4
(cond (decide (0<(um.length:Int)))
((G.pq n um qW).bind λv5=>(cond v5
(cond wO
(some (304))
(some (412)))
(some (200))))
(some (200)))
(some (412)))))
(cond (decide (0<(um.length:Int)))
(cond (qW==[])
(some (200))
((G.pq n um qW).bind λv6=>(cond v6
(cond wO
(some (304))
(some (412)))
(some (200)))))
(some (200))))
def G.kF (f:Nat)(xZ:List aO)(um:List aO)(qW:aO)(wO:Bool):Option (Int):=match f with
|0=>none
|n+1=>((G.iZ n xZ).bind λv7=>(cond v7
((G.iZ n um).bind λv8=>(cond v8
(cond (qW==[])
(G.kF.K1 n xZ um qW wO)
((G.nJ n qW).bind λv9=>(cond v9
(G.kF.K1 n xZ um qW wO)
(some (400)))))
(some (400))))
(some (400))))
def G.jJ.L1 (f:Nat)(aA:aO)(aG:Int):Option (Bool):=match f with
|0=>none
|n+1=>(cond (decide (aG<(aA.length:Int)))
(chk (0<=aG/\aG<(aA.length:Int))
(cond (decide (((aA.getD aG.toNat 0).toNat:Int)<97))
(chk (0<=aG/\aG<(aA.length:Int))
(cond (decide (((aA.getD aG.toNat 0).toNat:Int)<48))
(some (false))
(chk (0<=aG/\aG<(aA.length:Int))
(cond (decide (57<((aA.getD aG.toNat 0).toNat:Int)))
(some (false))
(G.jJ.L1 n aA (af .i64 (aG+1)))))))
(chk (0<=aG/\aG<(aA.length:Int))
(cond (decide (122<((aA.getD aG.toNat 0).toNat:Int)))
(chk (0<=aG/\aG<(aA.length:Int))
(cond (decide (((aA.getD aG.toNat 0).toNat:Int)<48))
(some (false))
(chk (0<=aG/\aG<(aA.length:Int))
(cond (decide (57<((aA.getD aG.toNat 0).toNat:Int)))
(some (false))
(G.jJ.L1 n aA (af .i64 (aG+1)))))))
(G.jJ.L1 n aA (af .i64 (aG+1)))))))
(some (true)))
def G.jJ (f:Nat)(aA:aO):Option (Bool):=match f with
|0=>none
|n+1=>(cond (aA==[])
(some (false))
(cond (decide (8<(aA.length:Int)))
(some (false))
(G.jJ.L1 n aA 0)))
def G.cZ.L1 (f:Nat)(aA:StoreT)(iT:Int):Option (Bool):=match f with
|0=>none
|n+1=>(cond (decide (iT<(aA.Items.length:Int)))
(chk (0<=iT/\iT<(aA.Items.length:Int))
((G.jJ n ((aA.Items.getD iT.toNat default).Name)).bind λv6=>(cond v6
(cond (decide (0<iT))
(chk (0<=(af .i64 (iT-1))/\(af .i64 (iT-1))<(aA.Items.length:Int))
(cond (iL ((aA.Items.getD (af .i64 (iT-1)).toNat default).Name) ((aA.Items.getD iT.toNat default).Name))
(cond (decide ((aA.Items.getD iT.toNat default).Version<1))
(some (false))
(cond (decide (aA.Clock<(aA.Items.getD iT.toNat default).Version))
(some (false))
((G.aX n ((aA.Items.getD iT.toNat default).Node)).bind λv7=>(cond v7
(G.cZ.L1 n aA (af .i64 (iT+1)))
(some (false))))))
(some (false))))
(cond (decide ((aA.Items.getD iT.toNat default).Version<1))
(some (false))
(cond (decide (aA.Clock<(aA.Items.getD iT.toNat default).Version))
(some (false))
((G.aX n ((aA.Items.getD iT.toNat default).Node)).bind λv8=>(cond v8
(G.cZ.L1 n aA (af .i64 (iT+1)))
(some (false)))))))
(some (false)))))
(some (true)))
def G.cZ (f:Nat)(aA:StoreT):Option (Bool):=match f with
|0=>none
|n+1=>(cond (decide (10<(aA.Items.length:Int)))
(some (false))
(cond (decide (aA.Clock<0))
(some (false))
(cond (decide (999<aA.Clock))
(some (false))
(G.cZ.L1 n aA 0))))
def G.qf (f:Nat)(lG:bG):Option (bG):=match f with
|0=>none
|n+1=>((G.aP n lG.Node).bind λv1=>(some ((bG.mk lG.Name lG.Version v1))))
def G.dP.L1 (f:Nat)(aA:StoreT)(iT:Int)(z3:List bG):Option (StoreT):=match f with
|0=>none
|n+1=>(cond (decide (iT<(aA.Items.length:Int)))
(chk (0<=iT/\iT<(aA.Items.length:Int))
((G.qf n (bG.mk ((aA.Items.getD iT.toNat default).Name) ((aA.Items.getD iT.toNat default).Version) ((aA.Items.getD iT.toNat default).Node))).bind λv3=>(chk (0<=iT/\iT<(z3.length:Int))
(G.dP.L1 n aA (af .i64 (iT+1)) (z3.set iT.toNat v3)))))
(some ((StoreT.mk z3 aA.Clock))))
def G.dP (f:Nat)(aA:StoreT):Option (StoreT):=match f with
|0=>none
|n+1=>(cond (decide (0<(aA.Items.length:Int)))
(chk (0<=(aA.Items.length:Int)/\(aA.Items.length:Int)<=(aA.Items.length:Int)/\104*(aA.Items.length:Int)<=2^47/\(aA.Items.length:Int)<=2^47)
(G.dP.L1 n aA 0 (bU aA.Items.length (bG.mk [] 0 (aj.mk 0 0 [] [] [])))))
(some ((StoreT.mk [] aA.Clock))))
def G.qw (f:Nat)(lG:bG)(eY:aO):Option (Int):=match f with
|0=>none
|n+1=>((G.strings_Compare n lG.Name eY).bind λv1=>(some (v1)))
def G.aH.L1 (f:Nat)(sN:List bG)(pV:aO)(aG:Int)(Jm:Int):Option (Int×Bool):=match f with
|0=>none
|n+1=>(cond (decide (aG<Jm))
(chk (0<=(af .i64 ((qy (af .u64 ((af .i64 (aG+Jm)))) (2^(min 1 (iK .u64))))))/\(af .i64 ((qy (af .u64 ((af .i64 (aG+Jm)))) (2^(min 1 (iK .u64))))))<(sN.length:Int))
((G.qw n (bG.mk ((sN.getD (af .i64 ((qy (af .u64 ((af .i64 (aG+Jm)))) (2^(min 1 (iK .u64)))))).toNat default).Name) ((sN.getD (af .i64 ((qy (af .u64 ((af .i64 (aG+Jm)))) (2^(min 1 (iK .u64)))))).toNat default).Version) ((sN.getD (af .i64 ((qy (af .u64 ((af .i64 (aG+Jm)))) (2^(min 1 (iK .u64)))))).toNat default).Node)) pV).bind λv3=>(cond (decide (v3<0))
(G.aH.L1 n sN pV (af .i64 ((af .i64 ((qy (af .u64 ((af .i64 (aG+Jm)))) (2^(min 1 (iK .u64))))))+1)) Jm)
(G.aH.L1 n sN pV aG (af .i64 ((qy (af .u64 ((af .i64 (aG+Jm)))) (2^(min 1 (iK .u64))))))))))
(cond (decide (aG<(sN.length:Int)))
(chk (0<=aG/\aG<(sN.length:Int))
((G.qw n (bG.mk ((sN.getD aG.toNat default).Name) ((sN.getD aG.toNat default).Version) ((sN.getD aG.toNat default).Node)) pV).bind λv4=>(some (aG,(v4==0)))))
(some (aG,false))))
def G.aH (f:Nat)(sN:List bG)(pV:aO):Option (Int×Bool):=match f with
|0=>none
|n+1=>(G.aH.L1 n sN pV 0 (sN.length:Int))
def G.nN (f:Nat)(yw:List bG)(eY:aO):Option (Int×Bool):=match f with
|0=>none
|n+1=>((G.aH n yw eY).bind λv1=>(some (v1.1,v1.2)))
def G.nO (f:Nat)(s:List bG)(i:Int)(j:Int):Option (List bG):=match f with
|0=>none
|_+1=>chk (0<=i/\i<j/\j<=(s.length:Int)/\s.length*112<=2^46) (some (s.take i.toNat++s.drop j.toNat))
def G.rQ (f:Nat)(aA:StoreT)(eY:aO):Option (StoreT×Bool):=match f with
|0=>none
|n+1=>((G.cZ n aA).bind λv1=>(cond v1
(cond (aA.Clock==999)
(some ((StoreT.mk [] 0),false))
((G.nN n aA.Items eY).bind λv2=>(cond v2.2
((G.dP n aA).bind λv3=>((G.nO n v3.Items v2.1 (af .i64 (v2.1+1))).bind λv4=>(some ((StoreT.mk v4 (af .i64 (v3.Clock+1))),true))))
(some ((StoreT.mk [] 0),false)))))
(some ((StoreT.mk [] 0),false))))
def G.aS (f:Nat)(b:iC)(c:Int):Option (Unit×iC):=match f with
|0=>none
|_+1=>(chk ((0<=c/\c<256)/\b.buf.length+1<=140737488355328) (some ((),iC.mk (b.buf++[dR c.toNat]))))
mutual
def G.gU.K4 (f:Nat)(aA:aO)(aG:Int)(z5:aO):Option (iC):=match f with
|0=>none
|n+1=>(chk (0<=aG/\aG<(aA.length:Int))
((G.aS n (iC.mk z5) ((aA.getD aG.toNat 0).toNat:Int)).bind λv14=>(G.gU.L3 n aA (af .i64 (aG+1)) v14.2.buf)))
def G.gU.L3 (f:Nat)(aA:aO)(aG:Int)(z4:aO):Option (iC):=match f with
|0=>none
|n+1=>(cond (decide (aG<(aA.length:Int)))
(chk (0<=aG/\aG<(aA.length:Int))
(cond (((aA.getD aG.toNat 0).toNat:Int)==34)
((G.aS n (iC.mk z4) 92).bind λv15=>(G.gU.K4 n aA aG v15.2.buf))
(chk (0<=aG/\aG<(aA.length:Int))
(cond (((aA.getD aG.toNat 0).toNat:Int)==92)
((G.aS n (iC.mk z4) 92).bind λv16=>(G.gU.K4 n aA aG v16.2.buf))
(G.gU.K4 n aA aG z4)))))
((G.aS n (iC.mk z4) 34).bind λv17=>(some (v17.2))))
end
def G.gU (f:Nat)(BO:iC)(aA:aO):Option (iC):=match f with
|0=>none
|n+1=>((G.aS n BO 34).bind λv1=>(G.gU.L3 n aA 0 v1.2.buf))
def G.fV (f:Nat)(b:iC)(s:aO):Option (Int×Unit×iC):=match f with
|0=>none
|_+1=>(chk (b.buf.length+s.length<=140737488355328) (some ((s.length:Int),(),iC.mk (b.buf++s))))
mutual
def G.bP.K4 (f:Nat)(ax:aj)(iT:Int)(z4:aO):Option (iC):=match f with
|0=>none
|n+1=>((G.bP n (iC.mk z4) (ax.Kids.getD iT.toNat default)).bind λv11=>(G.bP.L3 n ax (af .i64 (iT+1)) v11.buf))
def G.bP.L3 (f:Nat)(ax:aj)(iT:Int)(z3:aO):Option (iC):=match f with
|0=>none
|n+1=>(cond (decide (iT<(ax.Kids.length:Int)))
(chk (0<=iT/\iT<(ax.Kids.length:Int))
(cond (decide (0<iT))
((G.aS n (iC.mk z3) 44).bind λv12=>(G.bP.K4 n ax iT v12.2.buf))
(G.bP.K4 n ax iT z3)))
((G.aS n (iC.mk z3) 93).bind λv13=>(some (v13.2))))
def G.bP.K8 (f:Nat)(ax:aj)(OT:Int)(z8:aO):Option (iC):=match f with
|0=>none
|n+1=>(chk (0<=OT/\OT<(ax.Names.length:Int))
((G.gU n (iC.mk z8) (ax.Names.getD OT.toNat default)).bind λv24=>((G.aS n v24 58).bind λv25=>((G.bP n v25.2 (ax.Kids.getD OT.toNat default)).bind λv26=>(G.bP.L7 n ax (af .i64 (OT+1)) v26.buf)))))
def G.bP.L7 (f:Nat)(ax:aj)(OT:Int)(z7:aO):Option (iC):=match f with
|0=>none
|n+1=>(cond (decide (OT<(ax.Kids.length:Int)))
(chk (0<=OT/\OT<(ax.Kids.length:Int))
(cond (decide (0<OT))
((G.aS n (iC.mk z7) 44).bind λv27=>(G.bP.K8 n ax OT v27.2.buf))
(G.bP.K8 n ax OT z7)))
((G.aS n (iC.mk z7) 125).bind λv28=>(some (v28.2))))
def G.bP (f:Nat)(BO:iC)(ax:aj):Option (iC):=match f with
|0=>none
|n+1=>(cond (ax.Kind==0)
((G.fV n BO [110,117,108,108]).bind λv1=>(some (v1.2.2)))
(cond (ax.Kind==1)
((G.strconv_Itoa n ax.Num).bind λv2=>((G.fV n BO v2).bind λv3=>(some (v3.2.2))))
(cond (ax.Kind==2)
((G.gU n BO ax.Text).bind λv4=>(some (v4)))
(cond (ax.Kind==3)
((G.aS n BO 91).bind λv5=>(G.bP.L3 n ax 0 v5.2.buf))
(cond (ax.Kind==4)
((G.aS n BO 123).bind λv14=>(G.bP.L7 n ax 0 v14.2.buf))
(some (BO)))))))
end
def G.jl (f:Nat)(b:iC):Option aO:=match f with
|0=>none
|_+1=>(chk (b.buf.length<=140737488355328) (some b.buf))
def G.jL (f:Nat)(ax:aj):Option (aO):=match f with
|0=>none
|n+1=>((G.aX n ax).bind λv1=>(cond v1
((G.bP n (iC.mk []) ax).bind λv2=>((G.jl n v2).bind λv3=>(some (v3))))
(some ([]))))
mutual
def G.gB.K4 (f:Nat)(aK:List aO)(iT:Int)(z4:aO):Option (aO):=match f with
|0=>none
|n+1=>(cond ((aK.getD iT.toNat default)==[42])
((G.fV n (iC.mk z4) (aK.getD iT.toNat default)).bind λv9=>(G.gB.L3 n aK (af .i64 (iT+1)) v9.2.2.buf))
((G.gU n (iC.mk z4) (aK.getD iT.toNat default)).bind λv10=>(G.gB.L3 n aK (af .i64 (iT+1)) v10.buf)))
def G.gB.L3 (f:Nat)(aK:List aO)(iT:Int)(z3:aO):Option (aO):=match f with
|0=>none
|n+1=>(cond (decide (iT<(aK.length:Int)))
(chk (0<=iT/\iT<(aK.length:Int))
(cond (decide (0<iT))
((G.aS n (iC.mk z3) 44).bind λv11=>(G.gB.K4 n aK iT v11.2.buf))
(G.gB.K4 n aK iT z3)))
((G.jl n (iC.mk z3)).bind λv12=>(some (v12))))
end
def G.gB (f:Nat)(aK:List aO):Option (aO):=match f with
|0=>none
|n+1=>((G.iZ n aK).bind λv1=>(cond v1
(G.gB.L3 n aK 0 [])
(some ([]))))
def G.tH (f:Nat)(sW:Int):Option (aO):=match f with
|0=>none
|n+1=>(cond (sW==1)
(some ([97,100,100]))
(cond (sW==2)
(some ([114,101,109,111,118,101]))
(cond (sW==3)
(some ([114,101,112,108,97,99,101]))
(cond (sW==4)
(some ([109,111,118,101]))
(cond (sW==5)
(some ([99,111,112,121]))
(cond (sW==6)
(some ([116,101,115,116]))
(some ([]))))))))
def G.kK.L1 (f:Nat)(aC:List aO)(iT:Int)(z2:List aj):Option (aj):=match f with
|0=>none
|n+1=>(cond (decide (iT<(aC.length:Int)))
(chk (0<=iT/\iT<(aC.length:Int))
(chk ((z2.length+1)*86<=2^46)
(G.kK.L1 n aC (af .i64 (iT+1)) (z2++[(aj.mk 2 0 (aC.getD iT.toNat default) [] [])]))))
(some ((aj.mk 3 0 [] [] z2))))
def G.kK (f:Nat)(aC:List aO):Option (aj):=match f with
|0=>none
|n+1=>(G.kK.L1 n aC 0 [])
def G.rV (f:Nat)(jY:oh):Option (aj×Bool):=match f with
|0=>none
|n+1=>((G.rq n jY).bind λv1=>(cond v1
((G.kK n jY.From).bind λv2=>((G.tH n jY.Kind).bind λv3=>((G.kK n jY.Path).bind λv4=>((G.aP n jY.Value).bind λv5=>((G.mX n (aj.mk 4 0 [] [[102,114,111,109],[111,112],[112,97,116,104],[118,97,108,117,101]] [v2,(aj.mk 2 0 v3 [] []),v4,v5]) true).bind λv6=>(some (v6.1,v6.2)))))))
(some ((aj.mk 0 0 [] [] []),false))))
def G.kG.L1 (f:Nat)(aK:List oh)(iT:Int)(z2:aO):Option (aO×Bool):=match f with
|0=>none
|n+1=>(cond (decide (iT<(aK.length:Int)))
(chk (0<=iT/\iT<(aK.length:Int))
((G.rV n (oh.mk ((aK.getD iT.toNat default).Kind) ((aK.getD iT.toNat default).Path) ((aK.getD iT.toNat default).From) ((aK.getD iT.toNat default).Value))).bind λv7=>(cond v7.2
((G.bP n (iC.mk z2) v7.1).bind λv8=>((G.aS n v8 59).bind λv9=>(G.kG.L1 n aK (af .i64 (iT+1)) v9.2.buf)))
(some ([],false)))))
((G.jl n (iC.mk z2)).bind λv10=>(some (v10,true))))
def G.kG (f:Nat)(aK:List oh):Option (aO×Bool):=match f with
|0=>none
|n+1=>(G.kG.L1 n aK 0 [])
def G.lI (f:Nat)(aU:RequestT):Option (Bool):=match f with
|0=>none
|n+1=>(cond (decide (1<=aU.Method))
(cond (decide (aU.Method<=5))
((G.jJ n aU.Name).bind λv1=>(cond v1
((G.iZ n aU.Want).bind λv2=>(cond v2
((G.iZ n aU.oJ).bind λv3=>(cond v3
((G.aX n aU.Body).bind λv4=>(cond v4
((G.fB n aU.Ops).bind λv5=>(some (v5)))
(some (false))))
(some (false))))
(some (false))))
(some (false))))
(some (false)))
(some (false)))
def G.ny (f:Nat)(BM:Int):Option (aO):=match f with
|0=>none
|n+1=>(cond (BM==1)
(some ([103,101,116]))
(cond (BM==2)
(some ([112,117,116]))
(cond (BM==3)
(some ([100,101,108,101,116,101]))
(cond (BM==4)
(some ([112,97,116,99,104]))
(cond (BM==5)
(some ([109,101,114,103,101]))
(some ([])))))))
def G.strings_Join (f:Nat)(l:List aO)(s:aO):Option aO:=match f with
|0=>none
|_+1=>(chk (l.length<=140737488355328/\(Go.Lib.join l s).length<=140737488355328) (some (Go.Lib.join l s)))
def G.aT.K2 (f:Nat)(aU:RequestT)(X5:aO):Option (aO):=match f with
|0=>none
|n+1=>((G.ny n aU.Method).bind λv4=>((G.gB n aU.Want).bind λv5=>((G.gB n aU.oJ).bind λv6=>((G.strings_Join n [v4,aU.Name,v5,v6,X5] [32]).bind λv7=>(some (v7))))))
def G.aT.K1 (f:Nat)(aU:RequestT):Option (aO):=match f with
|0=>none
|n+1=>((G.jL n aU.Body).bind λv2=>(cond (aU.Method==4)
((G.kG n aU.Ops).bind λv8=>(cond v8.2
(G.aT.K2 n aU v8.1)
(some ([]))))
(G.aT.K2 n aU v2)))
def G.aT.K4 (f:Nat)(aU:RequestT)(X6:aO):Option (aO):=match f with
|0=>none
|n+1=>((G.ny n aU.Method).bind λv11=>((G.gB n aU.Want).bind λv12=>((G.gB n aU.oJ).bind λv13=>((G.strings_Join n [v11,aU.Name,v12,v13,X6] [32]).bind λv14=>(some (v14))))))
def G.aT.K3 (f:Nat)(aU:RequestT):Option (aO):=match f with
|0=>none
|n+1=>((G.jL n aU.Body).bind λv9=>(cond (aU.Method==4)
((G.kG n aU.Ops).bind λv15=>(cond v15.2
(G.aT.K4 n aU v15.1)
(some ([]))))
(G.aT.K4 n aU v9)))
def G.aT (f:Nat)(aU:RequestT):Option (aO):=match f with
|0=>none
|n+1=>((G.lI n aU).bind λv1=>(cond v1
(cond (aU.Method==2)
(cond (aU.Method != 4)
(cond (decide (0<(aU.Ops.length:Int)))
(some ([]))
(G.aT.K1 n aU))
(G.aT.K1 n aU))
(cond (aU.Method==5)
(cond (aU.Method != 4)
(cond (decide (0<(aU.Ops.length:Int)))
(some ([]))
(G.aT.K3 n aU))
(G.aT.K3 n aU))
(cond (aU.Body.Kind != 0)
(some ([]))
(cond (aU.Method != 4)
(cond (decide (0<(aU.Ops.length:Int)))
(some ([]))
(G.aT.K3 n aU))
(G.aT.K3 n aU)))))
(some ([]))))
def G.tV (f:Nat)(aA:StoreT)(eY:aO):Option (bG×Bool):=match f with
|0=>none
|n+1=>((G.cZ n aA).bind λv1=>(cond v1
((G.nN n aA.Items eY).bind λv2=>(cond v2.2
(chk (0<=v2.1/\v2.1<(aA.Items.length:Int))
((G.qf n (bG.mk ((aA.Items.getD v2.1.toNat default).Name) ((aA.Items.getD v2.1.toNat default).Version) ((aA.Items.getD v2.1.toNat default).Node))).bind λv3=>(some (v3,true))))
(some ((bG.mk [] 0 (aj.mk 0 0 [] [] [])),false))))
(some ((bG.mk [] 0 (aj.mk 0 0 [] [] [])),false))))
def G.jh.L2 (f:Nat)(UM:Int)(JP:Int)(z3:List Int):Option (aO):=match f with
|0=>none
|n+1=>(cond (decide (0<=JP))
(chk (0<=(lq UM 16)/\(lq UM 16)<((16:Nat):Int))
(chk (0<=JP/\JP<(z3.length:Int))
(chk (0<=JP/\JP<4)
(G.jh.L2 n (af .i64 (nV UM 16)) (af .i64 (JP-1)) (z3.set JP.toNat ((([48,49,50,51,52,53,54,55,56,57,97,98,99,100,101,102]:aO).getD (lq UM 16).toNat 0).toNat:Int))))))
(chk (z3.length=4)
(chk ((z3.take 4).length<=maxLen)
(some ((yO (z3.take 4)))))))
def G.jh.L1 (f:Nat)(aA:aO)(ac8:Int)(aG:Int):Option (aO):=match f with
|0=>none
|n+1=>(cond (decide (aG<(aA.length:Int)))
(chk (0<=aG/\aG<(aA.length:Int))
(G.jh.L1 n aA (lq (af .i64 ((af .i64 (131*ac8))+(af .i64 (((aA.getD aG.toNat 0).toNat:Int))))) 65521) (af .i64 (aG+1))))
(G.jh.L2 n ac8 3 (bU 4 0)))
def G.jh (f:Nat)(aA:aO):Option (aO):=match f with
|0=>none
|n+1=>(G.jh.L1 n aA 17 0)
def G.uq (f:Nat)(ax:aj):Option (aO):=match f with
|0=>none
|n+1=>((G.aX n ax).bind λv1=>(cond v1
((G.jL n ax).bind λv2=>((G.jh n v2).bind λv3=>(some (v3))))
(some ([]))))
def G.pG (f:Nat)(aA:StoreT)(aU:RequestT):Option (StoreT×gy):=match f with
|0=>none
|n+1=>((G.rQ n aA aU.Name).bind λv1=>(cond v1.2
(some (v1.1,(gy.mk 200 [] v1.1.Clock (aj.mk 0 0 [] [] []))))
((G.dP n aA).bind λv2=>(some (v2,(gy.mk 422 [] 0 (aj.mk 0 0 [] [] [])))))))
def G.nP (f:Nat)(s:List bG)(i:Int)(v:List bG):Option (List bG):=match f with
|0=>none
|_+1=>chk (0<=i/\i<=(s.length:Int)/\v.length=1/\(s.length+1)*112<=2^46) (some (s.take i.toNat++v++s.drop i.toNat))
def G.vT (f:Nat)(yw:List bG)(lG:bG):Option (List bG):=match f with
|0=>none
|n+1=>((G.nN n yw lG.Name).bind λv1=>(cond v1.2
(chk (0<=v1.1/\v1.1<(yw.length:Int))
(some ((yw.set v1.1.toNat lG))))
((G.nP n yw v1.1 [lG]).bind λv2=>(some (v2)))))
def G.tX (f:Nat)(aA:StoreT)(eY:aO)(ax:aj):Option (StoreT×Bool):=match f with
|0=>none
|n+1=>((G.cZ n aA).bind λv1=>(cond v1
((G.jJ n eY).bind λv2=>(cond v2
((G.aX n ax).bind λv3=>(cond v3
((G.dP n aA).bind λv4=>((G.aP n ax).bind λv5=>((G.vT n v4.Items (bG.mk eY (af .i64 (v4.Clock+1)) v5)).bind λv6=>((G.cZ n (StoreT.mk v6 (af .i64 (v4.Clock+1)))).bind λv7=>(cond v7
(some ((StoreT.mk v6 (af .i64 (v4.Clock+1))),true))
(some ((StoreT.mk [] 0),false)))))))
(some ((StoreT.mk [] 0),false))))
(some ((StoreT.mk [] 0),false))))
(some ((StoreT.mk [] 0),false))))
def G.uA (f:Nat)(Ai:aj)(eY:aO):Option (aj):=match f with
|0=>none
|n+1=>((G.slices_BinarySearch_string n Ai.Names eY).bind λv1=>(cond v1.2
((G.slices_Delete_string n Ai.Names v1.1 (af .i64 (v1.1+1))).bind λv2=>((G.jH n Ai.Kids v1.1 (af .i64 (v1.1+1))).bind λv3=>(some ((aj.mk Ai.Kind Ai.Num Ai.Text v2 v3)))))
(some (Ai))))
mutual
def G.dM.K5 (f:Nat)(dK:aj)(iT:Int)(y17:Int)(y18:Int)(y19:aO)(z5:List aO)(z6:List aj)(y20:Int)(y21:Int)(y22:aO)(y23:List aO)(y24:List aj):Option (aj):=match f with
|0=>none
|n+1=>(chk (0<=iT/\iT<(dK.Kids.length:Int))
((G.dM n (aj.mk y20 y21 y22 y23 y24) (dK.Kids.getD iT.toNat default)).bind λv15=>((G.oL n (aj.mk y17 y18 y19 z5 z6) (dK.Names.getD iT.toNat default) v15).bind λv16=>(G.dM.L4 n dK (af .i64 (iT+1)) v16.Kind v16.Num v16.Text v16.Names v16.Kids))))
def G.dM.L4 (f:Nat)(dK:aj)(iT:Int)(y17:Int)(y18:Int)(y19:aO)(z5:List aO)(z6:List aj):Option (aj):=match f with
|0=>none
|n+1=>(cond (decide (iT<(dK.Names.length:Int)))
(chk (0<=iT/\iT<(dK.Names.length:Int))
(chk (0<=iT/\iT<(dK.Kids.length:Int))
(cond ((dK.Kids.getD iT.toNat default).Kind==0)
((G.uA n (aj.mk y17 y18 y19 z5 z6) (dK.Names.getD iT.toNat default)).bind λv13=>(G.dM.L4 n dK (af .i64 (iT+1)) v13.Kind v13.Num v13.Text v13.Names v13.Kids))
((G.slices_BinarySearch_string n z5 (dK.Names.getD iT.toNat default)).bind λv17=>(cond v17.2
(chk (0<=v17.1/\v17.1<(z6.length:Int))
(G.dM.K5 n dK iT y17 y18 y19 z5 z6 ((z6.getD v17.1.toNat default).Kind) ((z6.getD v17.1.toNat default).Num) ((z6.getD v17.1.toNat default).Text) ((z6.getD v17.1.toNat default).Names) ((z6.getD v17.1.toNat default).Kids)))
(G.dM.K5 n dK iT y17 y18 y19 z5 z6 0 0 [] [] []))))))
(some ((aj.mk y17 y18 y19 z5 z6))))
def G.dM.K1 (f:Nat)(dK:aj)(y1:Int)(y2:Int)(y3:aO)(z1:List aO)(z2:List aj):Option (aj):=match f with
|0=>none
|n+1=>(G.dM.L4 n dK 0 y1 y2 y3 z1 z2)
def G.dM (f:Nat)(ax:aj)(dK:aj):Option (aj):=match f with
|0=>none
|n+1=>(cond (dK.Kind != 4)
((G.aP n dK).bind λv1=>(some (v1)))
(cond (ax.Kind==4)
((G.aP n ax).bind λv18=>(G.dM.K1 n dK v18.Kind v18.Num v18.Text v18.Names v18.Kids))
(G.dM.K1 n dK 4 0 [] [] [])))
end
def G.qC (f:Nat)(ax:aj)(dK:aj):Option (aj×Bool):=match f with
|0=>none
|n+1=>((G.aX n ax).bind λv1=>(cond v1
((G.aX n dK).bind λv2=>(cond v2
((G.dM n ax dK).bind λv3=>((G.mX n v3 true).bind λv4=>(some (v4.1,v4.2))))
(some ((aj.mk 0 0 [] [] []),false))))
(some ((aj.mk 0 0 [] [] []),false))))
def G.tZ (f:Nat)(EI:aj)(aU:RequestT):Option (aj×Bool):=match f with
|0=>none
|n+1=>(cond (aU.Method==4)
((G.pF n EI aU.Ops).bind λv1=>(some (v1.1,v1.2)))
(cond (aU.Method==5)
((G.qC n EI aU.Body).bind λv2=>(some (v2.1,v2.2)))
(some (aU.Body,true))))
def G.ni (f:Nat)(aA:StoreT)(aU:RequestT)(EI:aj)(II:Bool):Option (StoreT×gy):=match f with
|0=>none
|n+1=>((G.tZ n EI aU).bind λv1=>(cond v1.2
((G.tX n aA aU.Name v1.1).bind λv2=>(cond v2.2
((G.uq n v1.1).bind λv3=>(cond II
(some (v2.1,(gy.mk 200 v3 v2.1.Clock (aj.mk 0 0 [] [] []))))
(some (v2.1,(gy.mk 201 v3 v2.1.Clock (aj.mk 0 0 [] [] []))))))
((G.dP n aA).bind λv4=>(some (v4,(gy.mk 422 [] 0 (aj.mk 0 0 [] [] [])))))))
((G.dP n aA).bind λv5=>(some (v5,(gy.mk 422 [] 0 (aj.mk 0 0 [] [] [])))))))
def G.gV.K1 (f:Nat)(aA:StoreT)(aU:RequestT)(v3:bG×Bool)(ac9:aO):Option (StoreT×gy):=match f with
|0=>none
|n+1=>((G.kF n aU.Want aU.oJ ac9 (aU.Method==1)).bind λv5=>(cond (v5 != 200)
((G.dP n aA).bind λv6=>(some (v6,(gy.mk v5 [] 0 (aj.mk 0 0 [] [] [])))))
(cond (aU.Method==1)
((G.dP n aA).bind λv7=>(some (v7,(gy.mk 200 ac9 v3.1.Version v3.1.Node))))
(cond (aU.Method==3)
((G.pG n aA aU).bind λv8=>(some (v8.1,v8.2)))
((G.ni n aA aU v3.1.Node true).bind λv9=>(some (v9.1,v9.2)))))))
def G.gV.K2 (f:Nat)(aA:StoreT)(aU:RequestT)(v3:bG×Bool):Option (StoreT×gy):=match f with
|0=>none
|n+1=>((G.kF n aU.Want aU.oJ [] (aU.Method==1)).bind λv12=>(cond (v12 != 200)
((G.dP n aA).bind λv13=>(some (v13,(gy.mk v12 [] 0 (aj.mk 0 0 [] [] [])))))
(cond (aU.Method==1)
((G.dP n aA).bind λv14=>(some (v14,(gy.mk 200 [] v3.1.Version v3.1.Node))))
(cond (aU.Method==3)
((G.pG n aA aU).bind λv15=>(some (v15.1,v15.2)))
((G.ni n aA aU v3.1.Node false).bind λv16=>(some (v16.1,v16.2)))))))
def G.gV (f:Nat)(aA:StoreT)(aU:RequestT):Option (StoreT×gy):=match f with
|0=>none
|n+1=>((G.cZ n aA).bind λv1=>(cond v1
((G.lI n aU).bind λv2=>(cond v2
((G.tV n aA aU.Name).bind λv3=>(cond v3.2
((G.uq n v3.1.Node).bind λv10=>(G.gV.K1 n aA aU v3 v10))
(cond (aU.Method != 2)
((G.dP n aA).bind λv11=>(some (v11,(gy.mk 404 [] 0 (aj.mk 0 0 [] [] [])))))
(G.gV.K2 n aA aU v3))))
(some ((StoreT.mk [] 0),(gy.mk 400 [] 0 (aj.mk 0 0 [] [] []))))))
(some ((StoreT.mk [] 0),(gy.mk 400 [] 0 (aj.mk 0 0 [] [] []))))))
def G.jF.L1 (f:Nat)(ax:aj)(iT:Int)(z2:List aO):Option (List aO×Bool):=match f with
|0=>none
|n+1=>(cond (decide (iT<(ax.Kids.length:Int)))
(chk (0<=iT/\iT<(ax.Kids.length:Int))
(cond ((ax.Kids.getD iT.toNat default).Kind != 2)
(some ([],false))
(chk ((z2.length+1)*18<=2^46)
(G.jF.L1 n ax (af .i64 (iT+1)) (z2++[(ax.Kids.getD iT.toNat default).Text])))))
((G.iI n z2).bind λv1=>(some (z2,v1))))
def G.jF (f:Nat)(ax:aj):Option (List aO×Bool):=match f with
|0=>none
|n+1=>(cond (ax.Kind != 3)
(some ([],false))
(G.jF.L1 n ax 0 []))
def G.gX.L1 (f:Nat)(xg:aO)(wZ:Int)(BP:Int):Option (Int×Bool):=match f with
|0=>none
|n+1=>(cond (decide (BP<=wZ))
((G.tH n BP).bind λv3=>(cond (v3==xg)
(some (BP,true))
(G.gX.L1 n xg wZ (af .i64 (BP+1)))))
(some (0,false)))
def G.gX (f:Nat)(xg:aO)(Bq:Int)(wZ:Int):Option (Int×Bool):=match f with
|0=>none
|n+1=>(G.gX.L1 n xg wZ Bq)
def G.rU (f:Nat)(ax:aj):Option (oh×Bool):=match f with
|0=>none
|n+1=>((G.aX n ax).bind λv1=>(cond v1
(cond (ax.Kind != 4)
(some ((oh.mk 0 [] [] (aj.mk 0 0 [] [] [])),false))
((G.slices_Equal_string n ax.Names [[102,114,111,109],[111,112],[112,97,116,104],[118,97,108,117,101]]).bind λv2=>(cond v2
(chk (0<=0/\0<(ax.Kids.length:Int))
((G.jF n (ax.Kids.getD 0 default)).bind λv3=>(cond v3.2
(chk (0<=1/\1<(ax.Kids.length:Int))
(cond ((ax.Kids.getD 1 default).Kind != 2)
(some ((oh.mk 0 [] [] (aj.mk 0 0 [] [] [])),false))
(chk (0<=1/\1<(ax.Kids.length:Int))
((G.gX n ((ax.Kids.getD 1 default).Text) 1 6).bind λv4=>(cond v4.2
(chk (0<=2/\2<(ax.Kids.length:Int))
((G.jF n (ax.Kids.getD 2 default)).bind λv5=>(cond v5.2
(chk (0<=3/\3<(ax.Kids.length:Int))
((G.aP n (ax.Kids.getD 3 default)).bind λv6=>(some ((oh.mk v4.1 v5.1 v3.1 v6),true))))
(some ((oh.mk 0 [] [] (aj.mk 0 0 [] [] [])),false)))))
(some ((oh.mk 0 [] [] (aj.mk 0 0 [] [] [])),false)))))))
(some ((oh.mk 0 [] [] (aj.mk 0 0 [] [] [])),false)))))
(some ((oh.mk 0 [] [] (aj.mk 0 0 [] [] [])),false)))))
(some ((oh.mk 0 [] [] (aj.mk 0 0 [] [] [])),false))))
def G.strconv_Atoi (f:Nat)(s:aO):Option (Int×Bool):=match f with
|0=>none
|_+1=>(chk (s.length<=281474976710656) (some (Gx s)))
def G.dL.L1 (f:Nat)(jd:bf)(wY:Int):Option (aj×Bool×bf):=match f with
|0=>none
|n+1=>(cond (decide (wY<(jd.text.length:Int)))
(chk (0<=wY/\wY<(jd.text.length:Int))
(cond (((jd.text.getD wY.toNat 0).toNat:Int)==45)
(G.dL.L1 n jd (af .i64 (wY+1)))
(chk (0<=wY/\wY<(jd.text.length:Int))
(cond (decide (48<=((jd.text.getD wY.toNat 0).toNat:Int)))
(chk (0<=wY/\wY<(jd.text.length:Int))
(cond (decide (((jd.text.getD wY.toNat 0).toNat:Int)<=57))
(G.dL.L1 n jd (af .i64 (wY+1)))
(chk (0<=jd.at_/\jd.at_<=wY/\wY<=(jd.text.length:Int))
((G.strconv_Atoi n ((jd.text.take wY.toNat).drop jd.at_.toNat)).bind λv1=>(cond v1.2
(some ((aj.mk 0 0 [] [] []),false,jd))
((G.strconv_Itoa n v1.1).bind λv2=>(cond (v2==((jd.text.take wY.toNat).drop jd.at_.toNat))
(some ((aj.mk 1 v1.1 [] [] []),true,(bf.mk jd.text wY)))
(some ((aj.mk 0 0 [] [] []),false,jd)))))))))
(chk (0<=jd.at_/\jd.at_<=wY/\wY<=(jd.text.length:Int))
((G.strconv_Atoi n ((jd.text.take wY.toNat).drop jd.at_.toNat)).bind λv3=>(cond v3.2
(some ((aj.mk 0 0 [] [] []),false,jd))
((G.strconv_Itoa n v3.1).bind λv4=>(cond (v4==((jd.text.take wY.toNat).drop jd.at_.toNat))
(some ((aj.mk 1 v3.1 [] [] []),true,(bf.mk jd.text wY)))
(some ((aj.mk 0 0 [] [] []),false,jd)))))))))))
(chk (0<=jd.at_/\jd.at_<=wY/\wY<=(jd.text.length:Int))
((G.strconv_Atoi n ((jd.text.take wY.toNat).drop jd.at_.toNat)).bind λv5=>(cond v5.2
(some ((aj.mk 0 0 [] [] []),false,jd))
((G.strconv_Itoa n v5.1).bind λv6=>(cond (v6==((jd.text.take wY.toNat).drop jd.at_.toNat))
(some ((aj.mk 1 v5.1 [] [] []),true,(bf.mk jd.text wY)))
(some ((aj.mk 0 0 [] [] []),false,jd))))))))
def G.dL (f:Nat)(jd:bf):Option (aj×Bool×bf):=match f with
|0=>none
|n+1=>(G.dL.L1 n jd jd.at_)
def G.strings_HasPrefix (f:Nat)(s:aO)(p:aO):Option Bool:=match f with
|0=>none
|_+1=>some (Go.Lib.hasPrefix s p)
def G.iE (f:Nat)(jd:bf)(aA:aO):Option (Bool×bf):=match f with
|0=>none
|n+1=>(chk (0<=jd.at_/\jd.at_<=(jd.text.length:Int)/\(jd.text.length:Int)<=(jd.text.length:Int))
((G.strings_HasPrefix n (jd.text.drop jd.at_.toNat) aA).bind λv1=>(cond v1
(some (true,(bf.mk jd.text (af .i64 (jd.at_+(aA.length:Int))))))
(some (false,jd)))))
mutual
def G.bI.K4 (f:Nat)(v1:Bool×bf)(z2:aO)(ahq:Int)(y5:Int):Option (aO×Bool×bf):=match f with
|0=>none
|n+1=>((G.aS n (iC.mk z2) ahq).bind λv7=>(G.bI.L3 n v1 y5 v7.2.buf))
def G.bI.L3 (f:Nat)(v1:Bool×bf)(y4:Int)(z2:aO):Option (aO×Bool×bf):=match f with
|0=>none
|n+1=>(cond (decide (y4<(v1.2.text.length:Int)))
(chk (0<=y4/\y4<(v1.2.text.length:Int))
(cond (((v1.2.text.getD y4.toNat 0).toNat:Int)==34)
((G.jl n (iC.mk z2)).bind λv6=>(some (v6,true,(bf.mk v1.2.text (af .i64 (y4+1))))))
(cond (((v1.2.text.getD y4.toNat 0).toNat:Int)==92)
(cond ((af .i64 (y4+1))==(v1.2.text.length:Int))
(some ([],false,(bf.mk v1.2.text (af .i64 (y4+1)))))
(chk (0<=(af .i64 (y4+1))/\(af .i64 (y4+1))<(v1.2.text.length:Int))
(cond (((v1.2.text.getD (af .i64 (y4+1)).toNat 0).toNat:Int) != 34)
(chk (0<=(af .i64 (y4+1))/\(af .i64 (y4+1))<(v1.2.text.length:Int))
(cond (((v1.2.text.getD (af .i64 (y4+1)).toNat 0).toNat:Int) != 92)
(some ([],false,(bf.mk v1.2.text (af .i64 (y4+1)))))
(chk (0<=(af .i64 (y4+1))/\(af .i64 (y4+1))<(v1.2.text.length:Int))
(G.bI.K4 n v1 z2 ((v1.2.text.getD (af .i64 (y4+1)).toNat 0).toNat:Int) (af .i64 ((af .i64 (y4+1))+1))))))
(chk (0<=(af .i64 (y4+1))/\(af .i64 (y4+1))<(v1.2.text.length:Int))
(G.bI.K4 n v1 z2 ((v1.2.text.getD (af .i64 (y4+1)).toNat 0).toNat:Int) (af .i64 ((af .i64 (y4+1))+1)))))))
(G.bI.K4 n v1 z2 ((v1.2.text.getD y4.toNat 0).toNat:Int) (af .i64 (y4+1))))))
(some ([],false,(bf.mk v1.2.text y4))))
end
def G.bI (f:Nat)(jd:bf):Option (aO×Bool×bf):=match f with
|0=>none
|n+1=>((G.iE n jd [34]).bind λv1=>(cond v1.1
(G.bI.L3 n v1 v1.2.at_ [])
(some ([],false,v1.2))))
mutual
def G.iw (f:Nat)(jd:bf)(mD:Int):Option (aj×Bool×bf):=match f with
|0=>none
|n+1=>(cond (decide (5<mD))
(some ((aj.mk 0 0 [] [] []),false,jd))
(cond (decide ((jd.text.length:Int)<=jd.at_))
(some ((aj.mk 0 0 [] [] []),false,jd))
(chk (0<=jd.at_/\jd.at_<(jd.text.length:Int))
(cond (((jd.text.getD jd.at_.toNat 0).toNat:Int)==110)
((G.iE n jd [110,117,108,108]).bind λv1=>(some ((aj.mk 0 0 [] [] []),v1.1,v1.2)))
(cond (((jd.text.getD jd.at_.toNat 0).toNat:Int)==34)
((G.bI n jd).bind λv2=>(some ((aj.mk 2 0 v2.1 [] []),v2.2.1,v2.2.2)))
(cond (((jd.text.getD jd.at_.toNat 0).toNat:Int)==91)
((G.cu n (bf.mk jd.text (af .i64 (jd.at_+1))) 3 mD [93]).bind λv3=>(some (v3.1,v3.2.1,v3.2.2)))
(cond (((jd.text.getD jd.at_.toNat 0).toNat:Int)==123)
((G.cu n (bf.mk jd.text (af .i64 (jd.at_+1))) 4 mD [125]).bind λv4=>(some (v4.1,v4.2.1,v4.2.2)))
((G.dL n jd).bind λv5=>(some (v5.1,v5.2.1,v5.2.2))))))))))
def G.cu.K4 (f:Nat)(sW:Int)(mD:Int)(uH:aO)(z6:List aj)(y9:aO)(KQ:Int)(z7:List aO):Option (aj×Bool×bf):=match f with
|0=>none
|n+1=>((G.iw n (bf.mk y9 KQ) (af .i64 (mD+1))).bind λv18=>(cond v18.2.1
(chk ((z6.length+1)*86<=2^46)
((G.iE n v18.2.2 uH).bind λv19=>(cond v19.1
(some ((aj.mk sW 0 [] z7 (z6++[v18.1])),true,v19.2))
((G.iE n v19.2 [44]).bind λv20=>(cond v20.1
(G.cu.L3 n sW mD uH v20.2.text v20.2.at_ z7 (z6++[v18.1]))
(some ((aj.mk 0 0 [] [] []),false,v20.2)))))))
(some ((aj.mk 0 0 [] [] []),false,v18.2.2))))
def G.cu.L3 (f:Nat)(sW:Int)(mD:Int)(uH:aO)(y7:aO)(y8:Int)(z5:List aO)(z6:List aj):Option (aj×Bool×bf):=match f with
|0=>none
|n+1=>(cond (sW==4)
((G.bI n (bf.mk y7 y8)).bind λv21=>(cond v21.2.1
((G.iE n v21.2.2 [58]).bind λv22=>(cond v22.1
(chk ((z5.length+1)*18<=2^46)
(G.cu.K4 n sW mD uH z6 v22.2.text v22.2.at_ (z5++[v21.1])))
(some ((aj.mk 0 0 [] [] []),false,v22.2))))
(some ((aj.mk 0 0 [] [] []),false,v21.2.2))))
(G.cu.K4 n sW mD uH z6 y7 y8 z5))
def G.cu (f:Nat)(jd:bf)(sW:Int)(mD:Int)(uH:aO):Option (aj×Bool×bf):=match f with
|0=>none
|n+1=>((G.iE n jd uH).bind λv1=>(cond v1.1
(some ((aj.mk sW 0 [] [] []),true,v1.2))
(G.cu.L3 n sW mD uH v1.2.text v1.2.at_ [] [])))
end
def G.qG (f:Nat)(aA:aO):Option (aj×Bool):=match f with
|0=>none
|n+1=>(cond (decide (2000<(aA.length:Int)))
(some ((aj.mk 0 0 [] [] []),false))
((G.iw n (bf.mk aA 0) 1).bind λv1=>(cond v1.2.1
(cond (v1.2.2.at_ != (aA.length:Int))
(some ((aj.mk 0 0 [] [] []),false))
((G.aX n v1.1).bind λv2=>(cond v2
((G.aP n v1.1).bind λv3=>(some (v3,true)))
(some ((aj.mk 0 0 [] [] []),false)))))
(some ((aj.mk 0 0 [] [] []),false)))))
def G.uo (f:Nat)(s:aO):Option (List aO×Bool):=match f with
|0=>none
|_+1=>(chk (s.length<=1000000) (some (Um Ib s)))
def G.fC.L1 (f:Nat)(xg:aO)(wZ:Int)(BP:Int):Option (Int×Bool):=match f with
|0=>none
|n+1=>(cond (decide (BP<=wZ))
((G.ny n BP).bind λv3=>(cond (v3==xg)
(some (BP,true))
(G.fC.L1 n xg wZ (af .i64 (BP+1)))))
(some (0,false)))
def G.fC (f:Nat)(xg:aO)(Bq:Int)(wZ:Int):Option (Int×Bool):=match f with
|0=>none
|n+1=>(G.fC.L1 n xg wZ Bq)
def G.l7.L1 (f:Nat)(aA:aO)(z2:List oh)(y3:aO)(y4:Int):Option (List oh×Bool):=match f with
|0=>none
|n+1=>(cond (decide (y4<(aA.length:Int)))
((G.iw n (bf.mk y3 y4) 1).bind λv7=>(cond v7.2.1
((G.iE n v7.2.2 [59]).bind λv8=>(cond v8.1
((G.rU n v7.1).bind λv9=>(cond v9.2
(cond ((z2.length:Int)==12)
(some ([],false))
(chk ((z2.length+1)*145<=2^46)
(G.l7.L1 n aA (z2++[v9.1]) v8.2.text v8.2.at_)))
(some ([],false))))
(some ([],false))))
(some ([],false))))
(some (z2,true)))
def G.l7 (f:Nat)(aA:aO):Option (List oh×Bool):=match f with
|0=>none
|n+1=>(G.l7.L1 n aA [] aA 0)
def G.strings_SplitN (f:Nat)(s:aO)(sep:aO)(k:Int):Option (List aO):=match f with
|0=>none
|_+1=>(chk (s.length<4294967281/\1<=sep.length/\1<=k/\k<=1000000) (some (Go.Lib.splitK sep 0 (min k.toNat (s.length+1)-1) s)))
def G.je.K1 (f:Nat)(aA:aO)(v1:List aO)(v2:Int×Bool)(v3:List aO×Bool)(v4:List aO×Bool)(WA:Bool)(y1:Int)(y2:Int)(y3:aO)(y4:List aO)(y5:List aj)(y6:List oh):Option (RequestT×Bool):=match f with
|0=>none
|n+1=>(cond WA
((G.aT n (RequestT.mk v2.1 (v1.getD 1 default) v3.1 v4.1 (aj.mk y1 y2 y3 y4 y5) y6)).bind λv7=>(cond (v7==aA)
(some ((RequestT.mk v2.1 (v1.getD 1 default) v3.1 v4.1 (aj.mk y1 y2 y3 y4 y5) y6),true))
(some ((RequestT.mk 0 [] [] [] (aj.mk 0 0 [] [] []) []),false))))
(some ((RequestT.mk 0 [] [] [] (aj.mk 0 0 [] [] []) []),false)))
def G.je (f:Nat)(aA:aO):Option (RequestT×Bool):=match f with
|0=>none
|n+1=>((G.strings_SplitN n aA [32] 5).bind λv1=>(cond (decide (2000<(aA.length:Int)))
(some ((RequestT.mk 0 [] [] [] (aj.mk 0 0 [] [] []) []),false))
(cond ((v1.length:Int) != 5)
(some ((RequestT.mk 0 [] [] [] (aj.mk 0 0 [] [] []) []),false))
(chk (0<=0/\0<(v1.length:Int))
((G.fC n (v1.getD 0 default) 1 5).bind λv2=>(chk (0<=2/\2<(v1.length:Int))
((G.uo n (v1.getD 2 default)).bind λv3=>(chk (0<=3/\3<(v1.length:Int))
((G.uo n (v1.getD 3 default)).bind λv4=>(cond v2.2
(cond v3.2
(cond v4.2
(chk (0<=1/\1<(v1.length:Int))
(cond (v2.1==4)
(chk (0<=4/\4<(v1.length:Int))
((G.l7 n (v1.getD 4 default)).bind λv8=>(G.je.K1 n aA v1 v2 v3 v4 v8.2 0 0 [] [] [] v8.1)))
(chk (0<=4/\4<(v1.length:Int))
((G.qG n (v1.getD 4 default)).bind λv9=>(G.je.K1 n aA v1 v2 v3 v4 v9.2 v9.1.Kind v9.1.Num v9.1.Text v9.1.Names v9.1.Kids [])))))
(some ((RequestT.mk 0 [] [] [] (aj.mk 0 0 [] [] []) []),false)))
(some ((RequestT.mk 0 [] [] [] (aj.mk 0 0 [] [] []) []),false)))
(some ((RequestT.mk 0 [] [] [] (aj.mk 0 0 [] [] []) []),false))))))))))))
def G.uP (f:Nat)(ax:aj):Option (Int):=match f with
|0=>none
|n+1=>((G.aX n ax).bind λv1=>(cond v1
((G.jL n ax).bind λv2=>(some ((v2.length:Int))))
(some ((-1)))))
def G.uB (f:Nat)(lG:bG):Option (Int):=match f with
|0=>none
|n+1=>((G.uP n lG.Node).bind λv1=>(some ((af .i64 ((lG.Name.length:Int)+v1)))))
def G.lH.L1 (f:Nat)(aA:StoreT)(YO:Int)(iT:Int):Option (Int):=match f with
|0=>none
|n+1=>(cond (decide (iT<(aA.Items.length:Int)))
(chk (0<=iT/\iT<(aA.Items.length:Int))
((G.uB n (bG.mk ((aA.Items.getD iT.toNat default).Name) ((aA.Items.getD iT.toNat default).Version) ((aA.Items.getD iT.toNat default).Node))).bind λv4=>(G.lH.L1 n aA (af .i64 (YO+v4)) (af .i64 (iT+1)))))
(some (YO)))
def G.lH (f:Nat)(aA:StoreT):Option (Int):=match f with
|0=>none
|n+1=>((G.cZ n aA).bind λv1=>(cond v1
(G.lH.L1 n aA 0 0)
(some ((-1)))))
def G.jo.L1 (f:Nat)(ve:mg)(iT:Int)(z2:List aO):Option (aO×mg):=match f with
|0=>none
|n+1=>(cond (decide (iT<(ve.now.Items.length:Int)))
(chk (0<=iT/\iT<(ve.now.Items.length:Int))
(chk ((z2.length+1)*18<=2^46)
(G.jo.L1 n ve (af .i64 (iT+1)) (z2++[(ve.now.Items.getD iT.toNat default).Name]))))
((G.strings_Join n z2 [32]).bind λv1=>(some (v1,ve))))
def G.jo (f:Nat)(ve:mg):Option (aO×mg):=match f with
|0=>none
|n+1=>(G.jo.L1 n ve 0 [])
def G.dN.K2 (f:Nat)(ve:mg)(v1:StoreT×gy)(z2:aO):Option (aO×mg):=match f with
|0=>none
|n+1=>((G.jl n (iC.mk z2)).bind λv9=>(some (v9,(mg.mk v1.1 ve.kept))))
def G.dN.K1 (f:Nat)(ve:mg)(aU:RequestT)(v1:StoreT×gy)(z1:aO):Option (aO×mg):=match f with
|0=>none
|n+1=>(cond (aU.Method==1)
(cond (v1.2.Status==200)
((G.aS n (iC.mk z1) 32).bind λv10=>((G.jL n v1.2.Body).bind λv11=>((G.fV n v10.2 v11).bind λv12=>(G.dN.K2 n ve v1 v12.2.2.buf))))
(G.dN.K2 n ve v1 z1))
(G.dN.K2 n ve v1 z1))
def G.dN (f:Nat)(ve:mg)(aU:RequestT):Option (aO×mg):=match f with
|0=>none
|n+1=>((G.gV n ve.now aU).bind λv1=>((G.strconv_Itoa n v1.2.Status).bind λv2=>((G.fV n (iC.mk []) v2).bind λv3=>(cond (v1.2.Tag==[])
(G.dN.K1 n ve aU v1 v3.2.2.buf)
((G.aS n v3.2.2 32).bind λv13=>((G.fV n v13.2 v1.2.Tag).bind λv14=>(G.dN.K1 n ve aU v1 v14.2.2.buf)))))))
def G.mF (f:Nat)(ve:mg)(xe:aO):Option (aO×mg):=match f with
|0=>none
|n+1=>(cond (xe==[108,105,115,116])
((G.jo n ve).bind λv1=>(some (v1.1,v1.2)))
(cond (xe==[99,108,111,99,107])
((G.strconv_Itoa n ve.now.Clock).bind λv2=>(some (v2,ve)))
(cond (xe==[115,105,122,101])
((G.lH n ve.now).bind λv3=>((G.strconv_Itoa n v3).bind λv4=>(some (v4,ve))))
(cond (xe==[107,101,101,112])
((G.dP n ve.now).bind λv5=>(some ([111,107],(mg.mk ve.now v5))))
(cond (xe==[98,97,99,107])
((G.dP n ve.kept).bind λv6=>(some ([111,107],(mg.mk v6 ve.kept))))
((G.je n xe).bind λv7=>(cond v7.2
((G.dN n ve v7.1).bind λv8=>(some (v8.1,v8.2)))
(some ([119,104,97,116],ve)))))))))
def G.iF.K2 (f:Nat)(aix:Int)(y9:List bG)(KQ:Int)(y11:List bG)(y12:Int)(z3:aO):Option (aO):=match f with
|0=>none
|n+1=>((G.jl n (iC.mk z3)).bind λv10=>(some (v10)))
def G.iF.L3 (f:Nat)(rC:List aO)(WB:Int)(y17:List bG)(y18:Int)(y19:List bG)(y20:Int)(z5:aO):Option (aO):=match f with
|0=>none
|n+1=>(cond (decide (WB<(rC.length:Int)))
(chk (0<=WB/\WB<(rC.length:Int))
(cond (WB==20)
(G.iF.K2 n WB y17 y18 y19 y20 z5)
((G.mF n (mg.mk (StoreT.mk y17 y18) (StoreT.mk y19 y20)) (rC.getD WB.toNat default)).bind λv17=>((G.fV n (iC.mk z5) v17.1).bind λv18=>((G.aS n v18.2.2 10).bind λv19=>(G.iF.L3 n rC (af .i64 (WB+1)) v17.2.now.Items v17.2.now.Clock v17.2.kept.Items v17.2.kept.Clock v19.2.buf))))))
(G.iF.K2 n WB y17 y18 y19 y20 z5))
def G.iF (f:Nat)(rC:List aO):Option (aO):=match f with
|0=>none
|n+1=>(G.iF.L3 n rC 0 [] 0 [] 0 [])
def G.lJ.L1 (f:Nat)(kC:List aO)(nI:List aO)(aG:Int):Option (Bool):=match f with
|0=>none
|n+1=>(cond (decide (aG<(kC.length:Int)))
(chk (0<=aG/\aG<(kC.length:Int))
(chk (0<=aG/\aG<(nI.length:Int))
(cond ((kC.getD aG.toNat default)==(nI.getD aG.toNat default))
(G.lJ.L1 n kC nI (af .i64 (aG+1)))
(some (false)))))
(some (true)))
def G.lJ (f:Nat)(kC:List aO)(nI:List aO):Option (Bool):=match f with
|0=>none
|n+1=>(cond ((kC.length:Int) != (nI.length:Int))
(some (false))
(G.lJ.L1 n kC nI 0))
def G.kN.L1 (f:Nat)(kC:List aO)(UI:Int)(aG:Int):Option (Int):=match f with
|0=>none
|n+1=>(cond (decide (aG<(kC.length:Int)))
(chk (0<=aG/\aG<(kC.length:Int))
(cond (decide ((af .i64 (UI-((kC.getD aG.toNat default).length:Int)))<0))
(some ((-1)))
(G.kN.L1 n kC (af .i64 (UI-((kC.getD aG.toNat default).length:Int))) (af .i64 (aG+1)))))
(some (UI)))
def G.kN (f:Nat)(kC:List aO)(Jq:Int):Option (Int):=match f with
|0=>none
|n+1=>(cond (decide ((af .i64 (Jq-(kC.length:Int)))<0))
(some ((-1)))
(G.kN.L1 n kC (af .i64 (Jq-(kC.length:Int))) 0))
def G.kP.L1 (f:Nat)(kC:List aO)(aG:Int)(z3:List aO):Option (List aO):=match f with
|0=>none
|n+1=>(cond (decide (aG<(kC.length:Int)))
(chk (0<=aG/\aG<(kC.length:Int))
(chk (0<=aG/\aG<(z3.length:Int))
(G.kP.L1 n kC (af .i64 (aG+1)) (z3.set aG.toNat (kC.getD aG.toNat default)))))
(some (z3)))
def G.kP (f:Nat)(kC:List aO):Option (List aO):=match f with
|0=>none
|n+1=>(chk (0<=(kC.length:Int)/\(kC.length:Int)<=(kC.length:Int)/\16*(kC.length:Int)<=2^47/\(kC.length:Int)<=2^47)
(G.kP.L1 n kC 0 (bU kC.length [])))
def G.fP (f:Nat)(ax:Int)(Pm:Int)(Ld:Int):Option (Bool):=match f with
|0=>none
|n+1=>(cond (decide (Pm<=ax))
(some ((decide (ax<=Ld))))
(some (false)))
def G.lg.L1 (f:Nat)(aA:aO)(aG:Int):Option (Bool):=match f with
|0=>none
|n+1=>(cond (decide (aG<(aA.length:Int)))
(chk (0<=aG/\aG<(aA.length:Int))
((G.fP n (af .i64 (((aA.getD aG.toNat 0).toNat:Int))) 48 57).bind λv5=>(cond v5
(G.lg.L1 n aA (af .i64 (aG+1)))
(chk (0<=aG/\aG<(aA.length:Int))
((G.fP n (af .i64 (((aA.getD aG.toNat 0).toNat:Int))) 97 102).bind λv6=>(cond v6
(G.lg.L1 n aA (af .i64 (aG+1)))
(some (false))))))))
(some (((aA.length:Int)==4))))
def G.lg (f:Nat)(aA:aO):Option (Bool):=match f with
|0=>none
|n+1=>(G.lg.L1 n aA 0)
def G.gZ.L1 (f:Nat)(aK:List aO)(aG:Int):Option (Bool):=match f with
|0=>none
|n+1=>(cond (decide (aG<(aK.length:Int)))
(chk (0<=aG/\aG<(aK.length:Int))
(cond ((aK.getD aG.toNat default)==[42])
(G.gZ.L1 n aK (af .i64 (aG+1)))
(chk (0<=aG/\aG<(aK.length:Int))
((G.lg n (aK.getD aG.toNat default)).bind λv3=>(cond v3
(G.gZ.L1 n aK (af .i64 (aG+1)))
(some (false)))))))
(some ((decide ((aK.length:Int)<=4)))))
def G.gZ (f:Nat)(aK:List aO):Option (Bool):=match f with
|0=>none
|n+1=>(G.gZ.L1 n aK 0)
mutual
def G.fK.K4 (f:Nat)(aK:List aO)(aG:Int)(Og:aO):Option (aO):=match f with
|0=>none
|n+1=>(chk (0<=aG/\aG<(aK.length:Int))
(cond ((aK.getD aG.toNat default)==[42])
(chk (Og.length+1<=maxLen)
(G.fK.L3 n aK (Og++[42]) (af .i64 (aG+1))))
(chk (Og.length+1<=maxLen)
(chk (0<=aG/\aG<(aK.length:Int))
(chk ((Og.length+1)+(aK.getD aG.toNat default).length<=maxLen)
(chk (((Og.length+1)+(aK.getD aG.toNat default).length)+1<=maxLen)
(G.fK.L3 n aK (((Og++[34])++(aK.getD aG.toNat default))++[34]) (af .i64 (aG+1)))))))))
def G.fK.L3 (f:Nat)(aK:List aO)(UK:aO)(aG:Int):Option (aO):=match f with
|0=>none
|n+1=>(cond (decide (aG<(aK.length:Int)))
(cond (decide (0<aG))
(chk (UK.length+1<=maxLen)
(G.fK.K4 n aK aG (UK++[44])))
(G.fK.K4 n aK aG UK))
(some (UK)))
end
def G.fK (f:Nat)(aK:List aO):Option (aO):=match f with
|0=>none
|n+1=>((G.gZ n aK).bind λv1=>(cond v1
(G.fK.L3 n aK [] 0)
(some ([]))))
mutual
def G.jP (f:Nat)(ax:Int):Option (aO):=match f with
|0=>none
|n+1=>(cond (decide (ax<0))
(cond (ax==(af .i64 (0-ax)))
(some ([45,57,50,50,51,51,55,50,48,51,54,56,53,52,55,55,53,56,48,56]))
((G.jP n (af .i64 (0-ax))).bind λv1=>(chk (1+v1.length<=maxLen)
(some (([45]++v1))))))
(cond (decide (ax<10))
(chk (1<=maxLen)
(some ([dR (af .u8 ((af .i64 (48+ax)))).toNat])))
((G.jP n (af .i64 (nV ax 10))).bind λv2=>(chk (1<=maxLen)
(chk (v2.length+1<=maxLen)
(some ((v2++[dR (af .u8 ((af .i64 (48+(lq ax 10))))).toNat]))))))))
end
def G.nM.L1 (f:Nat)(aA:aO)(wE:aO)(aG:Int):Option (aO):=match f with
|0=>none
|n+1=>(cond (decide (aG<(aA.length:Int)))
(chk (0<=aG/\aG<(aA.length:Int))
(cond (((aA.getD aG.toNat 0).toNat:Int)==34)
(chk (wE.length+1<=maxLen)
(chk (0<=aG/\aG<=(af .i64 (aG+1))/\(af .i64 (aG+1))<=(aA.length:Int))
(chk ((wE.length+1)+((aA.take ((af .i64 (aG+1)).toNat)).drop aG.toNat).length<=maxLen)
(G.nM.L1 n aA ((wE++[92])++((aA.take ((af .i64 (aG+1)).toNat)).drop aG.toNat)) (af .i64 (aG+1))))))
(chk (0<=aG/\aG<(aA.length:Int))
(cond (((aA.getD aG.toNat 0).toNat:Int)==92)
(chk (wE.length+1<=maxLen)
(chk (0<=aG/\aG<=(af .i64 (aG+1))/\(af .i64 (aG+1))<=(aA.length:Int))
(chk ((wE.length+1)+((aA.take ((af .i64 (aG+1)).toNat)).drop aG.toNat).length<=maxLen)
(G.nM.L1 n aA ((wE++[92])++((aA.take ((af .i64 (aG+1)).toNat)).drop aG.toNat)) (af .i64 (aG+1))))))
(chk (0<=aG/\aG<=(af .i64 (aG+1))/\(af .i64 (aG+1))<=(aA.length:Int))
(chk (wE.length+((aA.take ((af .i64 (aG+1)).toNat)).drop aG.toNat).length<=maxLen)
(G.nM.L1 n aA (wE++((aA.take ((af .i64 (aG+1)).toNat)).drop aG.toNat)) (af .i64 (aG+1)))))))))
(chk (wE.length+1<=maxLen)
(some ((wE++[34])))))
def G.nM (f:Nat)(aA:aO):Option (aO):=match f with
|0=>none
|n+1=>(G.nM.L1 n aA [34] 0)
mutual
def G.dW.K7 (f:Nat)(ax:aj)(aG:Int)(ac7:aO):Option (aO):=match f with
|0=>none
|n+1=>(chk (0<=aG/\aG<(ax.Kids.length:Int))
((G.dW n (ax.Kids.getD aG.toNat default)).bind λv10=>(chk (ac7.length+v10.length<=maxLen)
(G.dW.L5 n ax (ac7++v10) (af .i64 (aG+1))))))
def G.dW.K6 (f:Nat)(ax:aj)(aG:Int)(UL:aO):Option (aO):=match f with
|0=>none
|n+1=>(cond (ax.Kind==4)
(chk (0<=aG/\aG<(ax.Names.length:Int))
((G.nM n (ax.Names.getD aG.toNat default)).bind λv11=>(chk (UL.length+v11.length<=maxLen)
(chk ((UL.length+v11.length)+1<=maxLen)
(G.dW.K7 n ax aG ((UL++v11)++[58]))))))
(G.dW.K7 n ax aG UL))
def G.dW.L5 (f:Nat)(ax:aj)(Ig:aO)(aG:Int):Option (aO):=match f with
|0=>none
|n+1=>(cond (decide (aG<(ax.Kids.length:Int)))
(cond (decide (0<aG))
(chk (Ig.length+1<=maxLen)
(G.dW.K6 n ax aG (Ig++[44])))
(G.dW.K6 n ax aG Ig))
(cond (ax.Kind==4)
(chk (1+Ig.length<=maxLen)
(chk ((1+Ig.length)+1<=maxLen)
(some ((([123]++Ig)++[125])))))
(chk (1+Ig.length<=maxLen)
(chk ((1+Ig.length)+1<=maxLen)
(some ((([91]++Ig)++[93])))))))
def G.dW (f:Nat)(ax:aj):Option (aO):=match f with
|0=>none
|n+1=>(cond (ax.Kind==1)
((G.jP n ax.Num).bind λv1=>(some (v1)))
(cond (ax.Kind==2)
((G.nM n ax.Text).bind λv2=>(some (v2)))
(cond (ax.Kind==0)
(some ([110,117,108,108]))
(G.dW.L5 n ax [] 0))))
end
mutual
def G.aY.L1 (f:Nat)(ax:aj)(aG:Int)(z2:List aj):Option (aj):=match f with
|0=>none
|n+1=>(cond (decide (aG<(ax.Kids.length:Int)))
(chk (0<=aG/\aG<(ax.Kids.length:Int))
((G.aY n (ax.Kids.getD aG.toNat default)).bind λv3=>(chk ((z2.length+1)*86<=2^46)
(G.aY.L1 n ax (af .i64 (aG+1)) (z2++[v3])))))
(chk (ax.Names.length*18<=2^46)
(some ((aj.mk ax.Kind ax.Num ax.Text ax.Names z2)))))
def G.aY (f:Nat)(ax:aj):Option (aj):=match f with
|0=>none
|n+1=>(G.aY.L1 n ax 0 [])
end
def G.uf (f:Nat):Option (List aO):=match f with
|0=>none
|n+1=>(some ([[],[97,100,100],[114,101,109,111,118,101],[114,101,112,108,97,99,101],[109,111,118,101],[99,111,112,121],[116,101,115,116]]))
def G.wX (f:Nat)(aA:aO):Option (aj):=match f with
|0=>none
|n+1=>(some ((aj.mk 2 0 aA [] [])))
def G.qp.L1 (f:Nat)(aC:List aO)(aG:Int)(z2:List aj):Option (aj):=match f with
|0=>none
|n+1=>(cond (decide (aG<(aC.length:Int)))
(chk (0<=aG/\aG<(aC.length:Int))
((G.wX n (aC.getD aG.toNat default)).bind λv3=>(chk ((z2.length+1)*86<=2^46)
(G.qp.L1 n aC (af .i64 (aG+1)) (z2++[v3])))))
(some ((aj.mk 3 0 [] [] z2))))
def G.qp (f:Nat)(aC:List aO):Option (aj):=match f with
|0=>none
|n+1=>(G.qp.L1 n aC 0 [])
def G.pW (f:Nat)(jY:oh):Option (aj):=match f with
|0=>none
|n+1=>((G.qp n jY.From).bind λv1=>((G.uf n).bind λv2=>(chk (0<=jY.Kind/\jY.Kind<(v2.length:Int))
((G.wX n (v2.getD jY.Kind.toNat default)).bind λv3=>((G.qp n jY.Path).bind λv4=>((G.aY n jY.Value).bind λv5=>(some ((aj.mk 4 0 [] [[102,114,111,109],[111,112],[112,97,116,104],[118,97,108,117,101]] [v1,v3,v4,v5])))))))))
def G.vU (f:Nat):Option (List aO):=match f with
|0=>none
|n+1=>(some ([[],[103,101,116],[112,117,116],[100,101,108,101,116,101],[112,97,116,99,104],[109,101,114,103,101]]))
def G.jq.L1 (f:Nat)(aU:RequestT)(wE:aO)(aG:Int):Option (aO):=match f with
|0=>none
|n+1=>(cond (decide (aG<(aU.Ops.length:Int)))
(chk (0<=aG/\aG<(aU.Ops.length:Int))
((G.pW n (oh.mk ((aU.Ops.getD aG.toNat default).Kind) ((aU.Ops.getD aG.toNat default).Path) ((aU.Ops.getD aG.toNat default).From) ((aU.Ops.getD aG.toNat default).Value))).bind λv8=>((G.dW n v8).bind λv9=>(chk (wE.length+v9.length<=maxLen)
(chk ((wE.length+v9.length)+1<=maxLen)
(G.jq.L1 n aU ((wE++v9)++[59]) (af .i64 (aG+1))))))))
(some (wE)))
def G.jq (f:Nat)(aU:RequestT):Option (aO):=match f with
|0=>none
|n+1=>((G.vU n).bind λv1=>(chk (0<=aU.Method/\aU.Method<(v1.length:Int))
(chk ((v1.getD aU.Method.toNat default).length+1<=maxLen)
(chk (((v1.getD aU.Method.toNat default).length+1)+aU.Name.length<=maxLen)
(chk ((((v1.getD aU.Method.toNat default).length+1)+aU.Name.length)+1<=maxLen)
((G.fK n aU.Want).bind λv2=>(chk (((((v1.getD aU.Method.toNat default).length+1)+aU.Name.length)+1)+v2.length<=maxLen)
(chk ((((((v1.getD aU.Method.toNat default).length+1)+aU.Name.length)+1)+v2.length)+1<=maxLen)
((G.fK n aU.oJ).bind λv3=>(chk (((((((v1.getD aU.Method.toNat default).length+1)+aU.Name.length)+1)+v2.length)+1)+v3.length<=maxLen)
(chk ((((((((v1.getD aU.Method.toNat default).length+1)+aU.Name.length)+1)+v2.length)+1)+v3.length)+1<=maxLen)
(cond (aU.Method==4)
(G.jq.L1 n aU ((((((((v1.getD aU.Method.toNat default)++[32])++aU.Name)++[32])++v2)++[32])++v3)++[32]) 0)
((G.dW n aU.Body).bind λv10=>(chk (((((((((v1.getD aU.Method.toNat default).length+1)+aU.Name.length)+1)+v2.length)+1)+v3.length)+1)+v10.length<=maxLen)
(some ((((((((((v1.getD aU.Method.toNat default)++[32])++aU.Name)++[32])++v2)++[32])++v3)++[32])++v10)))))))))))))))))
mutual
def G.nK.L1 (f:Nat)(ax:aj)(ac6:Int)(aG:Int):Option (Int):=match f with
|0=>none
|n+1=>(cond (decide (aG<(ax.Kids.length:Int)))
(chk (0<=aG/\aG<(ax.Kids.length:Int))
((G.nK n (ax.Kids.getD aG.toNat default)).bind λv3=>(G.nK.L1 n ax (af .i64 (ac6+v3)) (af .i64 (aG+1)))))
(some (ac6)))
def G.nK (f:Nat)(ax:aj):Option (Int):=match f with
|0=>none
|n+1=>(G.nK.L1 n ax 1 0)
end
def G.iV.L1 (f:Nat)(aA:aO)(aG:Int):Option (Bool):=match f with
|0=>none
|n+1=>(cond (decide (aG<(aA.length:Int)))
(chk (0<=aG/\aG<(aA.length:Int))
((G.fP n (af .i64 (((aA.getD aG.toNat 0).toNat:Int))) 32 126).bind λv3=>(cond v3
(G.iV.L1 n aA (af .i64 (aG+1)))
(some (false)))))
(some ((decide ((aA.length:Int)<=12)))))
def G.iV (f:Nat)(aA:aO):Option (Bool):=match f with
|0=>none
|n+1=>(G.iV.L1 n aA 0)
def G.oC.L1 (f:Nat)(aK:List aO)(aG:Int):Option (Bool):=match f with
|0=>none
|n+1=>(cond (decide (aG<(aK.length:Int)))
(chk (0<=aG/\aG<(aK.length:Int))
((G.iV n (aK.getD aG.toNat default)).bind λv3=>(cond v3
(cond (decide (0<aG))
(chk (0<=aG/\aG<(aK.length:Int))
(chk (0<=(af .i64 (aG-1))/\(af .i64 (aG-1))<(aK.length:Int))
(cond (iL (aK.getD aG.toNat default) (aK.getD (af .i64 (aG-1)).toNat default))
(some (false))
(cond ((aK.getD aG.toNat default)==(aK.getD (af .i64 (aG-1)).toNat default))
(some (false))
(G.oC.L1 n aK (af .i64 (aG+1)))))))
(G.oC.L1 n aK (af .i64 (aG+1))))
(some (false)))))
(some (true)))
def G.oC (f:Nat)(aK:List aO):Option (Bool):=match f with
|0=>none
|n+1=>(G.oC.L1 n aK 0)
mutual
def G.ru.L1 (f:Nat)(ax:aj)(iq:Int)(aG:Int):Option (Bool):=match f with
|0=>none
|n+1=>(cond (decide (aG<(ax.Kids.length:Int)))
(chk (0<=aG/\aG<(ax.Kids.length:Int))
((G.ji n (ax.Kids.getD aG.toNat default) (af .i64 (iq-1))).bind λv3=>(cond v3
(G.ru.L1 n ax iq (af .i64 (aG+1)))
(some (false)))))
(some (true)))
def G.ru (f:Nat)(ax:aj)(iq:Int):Option (Bool):=match f with
|0=>none
|n+1=>(G.ru.L1 n ax iq 0)
def G.ji.K1 (f:Nat)(ax:aj)(iq:Int):Option (Bool):=match f with
|0=>none
|n+1=>(cond (ax.Kind==1)
((G.fP n ax.Num (-999999) 999999).bind λv1=>(some (v1)))
(cond (ax.Kind==2)
((G.iV n ax.Text).bind λv2=>(some (v2)))
(cond (ax.Kind==3)
((G.ru n ax iq).bind λv3=>(some (v3)))
(cond (ax.Kind==4)
(cond ((ax.Names.length:Int)==(ax.Kids.length:Int))
((G.oC n ax.Names).bind λv4=>(cond v4
((G.ru n ax iq).bind λv5=>(some (v5)))
(some (false))))
(some (false)))
(some ((ax.Kind==0)))))))
def G.ji (f:Nat)(ax:aj)(iq:Int):Option (Bool):=match f with
|0=>none
|n+1=>(cond (iq==0)
(some (false))
(cond (decide (6<(ax.Kids.length:Int)))
(some (false))
(cond (ax.Kind != 1)
(cond (ax.Num != 0)
(some (false))
(cond (ax.Kind != 2)
(cond (ax.Text==[])
(cond (ax.Kind != 4)
(cond (decide (0<(ax.Names.length:Int)))
(some (false))
(cond (decide (ax.Kind<3))
(cond (decide (0<(ax.Kids.length:Int)))
(some (false))
(G.ji.K1 n ax iq))
(G.ji.K1 n ax iq)))
(cond (decide (ax.Kind<3))
(cond (decide (0<(ax.Kids.length:Int)))
(some (false))
(G.ji.K1 n ax iq))
(G.ji.K1 n ax iq)))
(some (false)))
(cond (ax.Kind != 4)
(cond (decide (0<(ax.Names.length:Int)))
(some (false))
(cond (decide (ax.Kind<3))
(cond (decide (0<(ax.Kids.length:Int)))
(some (false))
(G.ji.K1 n ax iq))
(G.ji.K1 n ax iq)))
(cond (decide (ax.Kind<3))
(cond (decide (0<(ax.Kids.length:Int)))
(some (false))
(G.ji.K1 n ax iq))
(G.ji.K1 n ax iq)))))
(cond (ax.Kind != 2)
(cond (ax.Text==[])
(cond (ax.Kind != 4)
(cond (decide (0<(ax.Names.length:Int)))
(some (false))
(cond (decide (ax.Kind<3))
(cond (decide (0<(ax.Kids.length:Int)))
(some (false))
(G.ji.K1 n ax iq))
(G.ji.K1 n ax iq)))
(cond (decide (ax.Kind<3))
(cond (decide (0<(ax.Kids.length:Int)))
(some (false))
(G.ji.K1 n ax iq))
(G.ji.K1 n ax iq)))
(some (false)))
(cond (ax.Kind != 4)
(cond (decide (0<(ax.Names.length:Int)))
(some (false))
(cond (decide (ax.Kind<3))
(cond (decide (0<(ax.Kids.length:Int)))
(some (false))
(G.ji.K1 n ax iq))
(G.ji.K1 n ax iq)))
(cond (decide (ax.Kind<3))
(cond (decide (0<(ax.Kids.length:Int)))
(some (false))
(G.ji.K1 n ax iq))
(G.ji.K1 n ax iq)))))))
end
def G.eG (f:Nat)(ax:aj):Option (Bool):=match f with
|0=>none
|n+1=>((G.ji n ax 5).bind λv1=>(cond v1
((G.nK n ax).bind λv2=>(some ((decide (v2<=40)))))
(some (false))))
def G.iU.L1 (f:Nat)(aA:aO)(aG:Int):Option (Bool):=match f with
|0=>none
|n+1=>(cond (decide (aG<(aA.length:Int)))
(chk (0<=aG/\aG<(aA.length:Int))
((G.fP n (af .i64 (((aA.getD aG.toNat 0).toNat:Int))) 97 122).bind λv5=>(cond v5
(G.iU.L1 n aA (af .i64 (aG+1)))
(chk (0<=aG/\aG<(aA.length:Int))
((G.fP n (af .i64 (((aA.getD aG.toNat 0).toNat:Int))) 48 57).bind λv6=>(cond v6
(G.iU.L1 n aA (af .i64 (aG+1)))
(some (false))))))))
((G.fP n (aA.length:Int) 1 8).bind λv7=>(some (v7))))
def G.iU (f:Nat)(aA:aO):Option (Bool):=match f with
|0=>none
|n+1=>(G.iU.L1 n aA 0)
def G.jk.L1 (f:Nat)(aC:List aO)(aG:Int):Option (Bool):=match f with
|0=>none
|n+1=>(cond (decide (aG<(aC.length:Int)))
(chk (0<=aG/\aG<(aC.length:Int))
((G.iV n (aC.getD aG.toNat default)).bind λv3=>(cond v3
(G.jk.L1 n aC (af .i64 (aG+1)))
(some (false)))))
(some ((decide ((aC.length:Int)<=5)))))
def G.jk (f:Nat)(aC:List aO):Option (Bool):=match f with
|0=>none
|n+1=>(G.jk.L1 n aC 0)
def G.nY (f:Nat)(jY:oh):Option (Bool):=match f with
|0=>none
|n+1=>((G.fP n jY.Kind 1 6).bind λv1=>(cond v1
((G.jk n jY.Path).bind λv2=>(cond v2
((G.jk n jY.From).bind λv3=>(cond v3
((G.eG n jY.Value).bind λv4=>(some (v4)))
(some (false))))
(some (false))))
(some (false))))
def G.gu.L1 (f:Nat)(aK:List oh)(aG:Int):Option (Bool):=match f with
|0=>none
|n+1=>(cond (decide (aG<(aK.length:Int)))
(chk (0<=aG/\aG<(aK.length:Int))
((G.nY n (oh.mk ((aK.getD aG.toNat default).Kind) ((aK.getD aG.toNat default).Path) ((aK.getD aG.toNat default).From) ((aK.getD aG.toNat default).Value))).bind λv3=>(cond v3
(G.gu.L1 n aK (af .i64 (aG+1)))
(some (false)))))
(some ((decide ((aK.length:Int)<=12)))))
def G.gu (f:Nat)(aK:List oh):Option (Bool):=match f with
|0=>none
|n+1=>(G.gu.L1 n aK 0)
def G.kS (f:Nat)(aU:RequestT):Option (Bool):=match f with
|0=>none
|n+1=>((G.fP n aU.Method 1 5).bind λv1=>(cond v1
((G.iU n aU.Name).bind λv2=>(cond v2
((G.gZ n aU.Want).bind λv3=>(cond v3
((G.gZ n aU.oJ).bind λv4=>(cond v4
((G.eG n aU.Body).bind λv5=>(cond v5
((G.gu n aU.Ops).bind λv6=>(some (v6)))
(some (false))))
(some (false))))
(some (false))))
(some (false))))
(some (false))))
def G.dm.L2 (f:Nat)(aU:RequestT)(aG:Int):Option (aO):=match f with
|0=>none
|n+1=>(cond (decide (aG<(aU.Ops.length:Int)))
(chk (0<=aG/\aG<(aU.Ops.length:Int))
((G.pW n (oh.mk ((aU.Ops.getD aG.toNat default).Kind) ((aU.Ops.getD aG.toNat default).Path) ((aU.Ops.getD aG.toNat default).From) ((aU.Ops.getD aG.toNat default).Value))).bind λv6=>((G.eG n v6).bind λv7=>(cond v7
(G.dm.L2 n aU (af .i64 (aG+1)))
(some ([]))))))
((G.jq n aU).bind λv8=>(some (v8))))
def G.dm.K1 (f:Nat)(aU:RequestT):Option (aO):=match f with
|0=>none
|n+1=>(G.dm.L2 n aU 0)
def G.dm (f:Nat)(aU:RequestT):Option (aO):=match f with
|0=>none
|n+1=>((G.kS n aU).bind λv9=>(cond v9
(cond (aU.Body.Kind != 0)
(cond (aU.Method != 2)
(cond (aU.Method != 5)
(some ([]))
(cond (decide (0<(aU.Ops.length:Int)))
(cond (aU.Method != 4)
(some ([]))
(G.dm.K1 n aU))
(G.dm.K1 n aU)))
(cond (decide (0<(aU.Ops.length:Int)))
(cond (aU.Method != 4)
(some ([]))
(G.dm.K1 n aU))
(G.dm.K1 n aU)))
(cond (decide (0<(aU.Ops.length:Int)))
(cond (aU.Method != 4)
(some ([]))
(G.dm.K1 n aU))
(G.dm.K1 n aU)))
(some ([]))))
def G.gm (f:Nat)(jd:dG):Option (Int×dG):=match f with
|0=>none
|n+1=>(cond (decide ((jd.text.length:Int)<=jd.at_))
(some (0,jd))
(chk (0<=jd.at_/\jd.at_<(jd.text.length:Int))
(some (((jd.text.getD jd.at_.toNat 0).toNat:Int),jd))))
def G.jU (f:Nat)(jd:dG)(Gs:Int):Option (dG):=match f with
|0=>none
|n+1=>((G.gm n jd).bind λv1=>(cond (v1.1 != Gs)
(some ((dG.mk v1.2.text v1.2.at_ true)))
(some ((dG.mk v1.2.text (af .i64 (v1.2.at_+1)) v1.2.bad)))))
mutual
def G.eU.K4 (f:Nat)(z2:List Int)(y13:aO)(y14:Int)(y15:Bool):Option (aO×dG):=match f with
|0=>none
|n+1=>((G.gm n (dG.mk y13 y14 y15)).bind λv15=>(cond (v15.1==0)
(some ([],(dG.mk v15.2.text v15.2.at_ true)))
((G.gm n v15.2).bind λv16=>(chk ((z2.length+1)*3<=2^46)
(G.eU.L3 n v16.2.text (af .i64 (v16.2.at_+1)) v16.2.bad (z2++[v16.1]))))))
def G.eU.L3 (f:Nat)(KQ:aO)(y11:Int)(y12:Bool)(z2:List Int):Option (aO×dG):=match f with
|0=>none
|n+1=>(cond y12
((G.jU n (dG.mk KQ y11 true) 34).bind λv12=>(chk (z2.length<=maxLen)
(some ((yO z2),v12))))
((G.gm n (dG.mk KQ y11 false)).bind λv13=>(cond (v13.1 != 34)
((G.gm n v13.2).bind λv17=>(cond (v17.1==92)
(G.eU.K4 n z2 v17.2.text (af .i64 (v17.2.at_+1)) v17.2.bad)
(G.eU.K4 n z2 v17.2.text v17.2.at_ v17.2.bad)))
((G.jU n v13.2 34).bind λv18=>(chk (z2.length<=maxLen)
(some ((yO z2),v18)))))))
end
def G.eU (f:Nat)(jd:dG):Option (aO×dG):=match f with
|0=>none
|n+1=>((G.jU n jd 34).bind λv1=>(G.eU.L3 n v1.text v1.at_ v1.bad []))
def G.fA.L2 (f:Nat)(Nc:Int)(UJ:Int)(ac6:Int)(y7:aO)(y8:Int)(y9:Bool):Option (Int×dG):=match f with
|0=>none
|n+1=>(cond (decide (ac6<7))
((G.gm n (dG.mk y7 y8 y9)).bind λv8=>((G.fP n (af .i64 (v8.1)) 48 57).bind λv9=>(cond v9
((G.gm n v8.2).bind λv10=>(G.fA.L2 n Nc (af .i64 ((af .i64 ((af .i64 (10*UJ))+(af .i64 (v10.1))))-48)) (af .i64 (ac6+1)) v10.2.text (af .i64 (v10.2.at_+1)) v10.2.bad))
(some ((af .i64 (Nc*UJ)),v8.2)))))
(some ((af .i64 (Nc*UJ)),(dG.mk y7 y8 y9))))
def G.fA.K1 (f:Nat)(Nc:Int)(y1:aO)(y2:Int)(y3:Bool):Option (Int×dG):=match f with
|0=>none
|n+1=>(G.fA.L2 n Nc 0 0 y1 y2 y3)
def G.fA (f:Nat)(jd:dG):Option (Int×dG):=match f with
|0=>none
|n+1=>((G.gm n jd).bind λv11=>(cond (v11.1==45)
(G.fA.K1 n (-1) v11.2.text (af .i64 (v11.2.at_+1)) v11.2.bad)
(G.fA.K1 n 1 v11.2.text v11.2.at_ v11.2.bad)))
mutual
def G.bK.K7 (f:Nat)(ax:aj)(yK:Int)(iq:Int)(z6:List aj)(y22:aO)(y23:Int)(y24:Bool)(z7:List aO):Option (aj×dG):=match f with
|0=>none
|n+1=>((G.jT n (dG.mk y22 y23 y24) (af .i64 (iq-1))).bind λv22=>(chk ((z6.length+1)*86<=2^46)
(G.bK.L5 n ax yK iq v22.2.text v22.2.at_ v22.2.bad z7 (z6++[v22.1]))))
def G.bK.K6 (f:Nat)(ax:aj)(yK:Int)(iq:Int)(z5:List aO)(z6:List aj)(y19:aO)(y20:Int)(y21:Bool):Option (aj×dG):=match f with
|0=>none
|n+1=>(cond (ax.Kind==4)
((G.eU n (dG.mk y19 y20 y21)).bind λv23=>(chk ((z5.length+1)*18<=2^46)
((G.jU n v23.2 58).bind λv24=>(G.bK.K7 n ax yK iq z6 v24.text v24.at_ v24.bad (z5++[v23.1])))))
(G.bK.K7 n ax yK iq z6 y19 y20 y21 z5))
def G.bK.L5 (f:Nat)(ax:aj)(yK:Int)(iq:Int)(y16:aO)(y17:Int)(y18:Bool)(z5:List aO)(z6:List aj):Option (aj×dG):=match f with
|0=>none
|n+1=>(cond y18
((G.jU n (dG.mk y16 y17 true) yK).bind λv17=>(some ((aj.mk ax.Kind 0 [] z5 z6),v17)))
((G.gm n (dG.mk y16 y17 false)).bind λv18=>(cond (v18.1 != yK)
(cond (decide (0<(z6.length:Int)))
((G.jU n v18.2 44).bind λv25=>(G.bK.K6 n ax yK iq z5 z6 v25.text v25.at_ v25.bad))
(G.bK.K6 n ax yK iq z5 z6 v18.2.text v18.2.at_ v18.2.bad))
((G.jU n v18.2 yK).bind λv26=>(some ((aj.mk ax.Kind 0 [] z5 z6),v26))))))
def G.bK (f:Nat)(jd:dG)(ax:aj)(yK:Int)(iq:Int):Option (aj×dG):=match f with
|0=>none
|n+1=>(G.bK.L5 n ax yK iq jd.text (af .i64 (jd.at_+1)) jd.bad [] [])
def G.jT (f:Nat)(jd:dG)(iq:Int):Option (aj×dG):=match f with
|0=>none
|n+1=>(cond (iq==0)
(some ((aj.mk 0 0 [] [] []),(dG.mk jd.text jd.at_ true)))
(cond jd.bad
(some ((aj.mk 0 0 [] [] []),(dG.mk jd.text jd.at_ true)))
((G.gm n (dG.mk jd.text jd.at_ false)).bind λv1=>(cond (v1.1==34)
((G.eU n v1.2).bind λv2=>(some ((aj.mk 2 0 v2.1 [] []),v2.2)))
((G.gm n v1.2).bind λv3=>(cond (v3.1==91)
((G.bK n v3.2 (aj.mk 3 0 [] [] []) 93 iq).bind λv4=>(some (v4.1,v4.2)))
((G.gm n v3.2).bind λv5=>(cond (v5.1==123)
((G.bK n v5.2 (aj.mk 4 0 [] [] []) 125 iq).bind λv6=>(some (v6.1,v6.2)))
((G.gm n v5.2).bind λv7=>(cond (v7.1==110)
(some ((aj.mk 0 0 [] [] []),(dG.mk v7.2.text (if(v7.2.text.length:Int)<(af .i64 (v7.2.at_+4))then(v7.2.text.length:Int)else(af .i64 (v7.2.at_+4))) v7.2.bad)))
((G.gm n v7.2).bind λv8=>(cond (v8.1==45)
((G.fA n v8.2).bind λv9=>(some ((aj.mk 1 v9.1 [] [] []),v9.2)))
((G.gm n v8.2).bind λv10=>((G.fP n (af .i64 (v10.1)) 48 57).bind λv11=>(cond v11
((G.fA n v10.2).bind λv12=>(some ((aj.mk 1 v12.1 [] [] []),v12.2)))
(some ((aj.mk 0 0 [] [] []),(dG.mk v10.2.text v10.2.at_ true))))))))))))))))))
end
def G.qJ (f:Nat)(aA:aO):Option (aj×Bool):=match f with
|0=>none
|n+1=>(cond (decide (2000<(aA.length:Int)))
(some ((aj.mk 0 0 [] [] []),false))
((G.jT n (dG.mk aA 0 false) 5).bind λv1=>(cond v1.2.bad
(some ((aj.mk 0 0 [] [] []),false))
((G.eG n v1.1).bind λv2=>(cond v2
((G.dW n v1.1).bind λv3=>(cond (v3==aA)
(some (v1.1,true))
(some ((aj.mk 0 0 [] [] []),false))))
(some ((aj.mk 0 0 [] [] []),false)))))))
def G.iY.L1 (f:Nat)(aA:aO)(yJ:Int)(z2:List aO):Option (List aO×Bool):=match f with
|0=>none
|n+1=>(cond (decide (yJ<(aA.length:Int)))
(cond (decide ((z2.length:Int)<=4))
(cond (decide (0<yJ))
(chk (0<=yJ/\yJ<(aA.length:Int))
(cond (((aA.getD yJ.toNat 0).toNat:Int)==44)
(G.iY.L1 n aA (af .i64 (yJ+1)) z2)
(chk (0<=yJ/\yJ<(aA.length:Int))
(cond (((aA.getD yJ.toNat 0).toNat:Int)==42)
(chk ((z2.length+1)*18<=2^46)
(G.iY.L1 n aA (af .i64 (yJ+1)) (z2++[[42]])))
(cond (decide ((af .i64 (yJ+6))<=(aA.length:Int)))
(chk (0<=(af .i64 (yJ+1))/\(af .i64 (yJ+1))<=(af .i64 (yJ+5))/\(af .i64 (yJ+5))<=(aA.length:Int))
(chk ((z2.length+1)*18<=2^46)
(G.iY.L1 n aA (af .i64 (yJ+6)) (z2++[((aA.take ((af .i64 (yJ+5)).toNat)).drop ((af .i64 (yJ+1)).toNat))]))))
(some ([],false)))))))
(chk (0<=yJ/\yJ<(aA.length:Int))
(cond (((aA.getD yJ.toNat 0).toNat:Int)==42)
(chk ((z2.length+1)*18<=2^46)
(G.iY.L1 n aA (af .i64 (yJ+1)) (z2++[[42]])))
(cond (decide ((af .i64 (yJ+6))<=(aA.length:Int)))
(chk (0<=(af .i64 (yJ+1))/\(af .i64 (yJ+1))<=(af .i64 (yJ+5))/\(af .i64 (yJ+5))<=(aA.length:Int))
(chk ((z2.length+1)*18<=2^46)
(G.iY.L1 n aA (af .i64 (yJ+6)) (z2++[((aA.take ((af .i64 (yJ+5)).toNat)).drop ((af .i64 (yJ+1)).toNat))]))))
(some ([],false))))))
((G.fK n z2).bind λv1=>(cond (v1==aA)
((G.gZ n z2).bind λv2=>(cond v2
(some (z2,true))
(some ([],false))))
(some ([],false)))))
((G.fK n z2).bind λv3=>(cond (v3==aA)
((G.gZ n z2).bind λv4=>(cond v4
(some (z2,true))
(some ([],false))))
(some ([],false)))))
def G.iY (f:Nat)(aA:aO):Option (List aO×Bool):=match f with
|0=>none
|n+1=>(G.iY.L1 n aA 0 [])
def G.qK.L1 (f:Nat)(aA:aO)(aG:Int):Option (aO×aO):=match f with
|0=>none
|n+1=>(cond (decide (aG<(aA.length:Int)))
(chk (0<=aG/\aG<(aA.length:Int))
(cond (((aA.getD aG.toNat 0).toNat:Int)==32)
(chk (0<=0/\0<=aG/\aG<=(aA.length:Int))
(chk (0<=(af .i64 (aG+1))/\(af .i64 (aG+1))<=(aA.length:Int)/\(aA.length:Int)<=(aA.length:Int))
(some ((aA.take aG.toNat),(aA.drop ((af .i64 (aG+1)).toNat))))))
(G.qK.L1 n aA (af .i64 (aG+1)))))
(some (aA,[])))
def G.qK (f:Nat)(aA:aO):Option (aO×aO):=match f with
|0=>none
|n+1=>(G.qK.L1 n aA 0)
def G.nD.L1 (f:Nat)(ax:aj)(aG:Int)(z2:List aO):Option (List aO):=match f with
|0=>none
|n+1=>(cond (decide (aG<(ax.Kids.length:Int)))
(chk (0<=aG/\aG<(ax.Kids.length:Int))
(chk ((z2.length+1)*18<=2^46)
(G.nD.L1 n ax (af .i64 (aG+1)) (z2++[(ax.Kids.getD aG.toNat default).Text]))))
(some (z2)))
def G.nD (f:Nat)(ax:aj):Option (List aO):=match f with
|0=>none
|n+1=>(G.nD.L1 n ax 0 [])
def G.lX (f:Nat)(nI:Bool):Option (Int):=match f with
|0=>none
|n+1=>(cond nI
(some (1))
(some (0)))
def G.qo (f:Nat)(kC:Int)(nI:Int):Option (Int):=match f with
|0=>none
|n+1=>((G.lX n (decide (nI<kC))).bind λv1=>((G.lX n (decide (kC<nI))).bind λv2=>(some ((af .i64 (v1-v2))))))
def G.oD (f:Nat)(kC:aO)(nI:aO):Option (Int):=match f with
|0=>none
|n+1=>(cond (iL kC nI)
((G.lX n false).bind λv1=>((G.lX n true).bind λv2=>(some ((af .i64 (v1-v2))))))
(cond (kC==nI)
((G.lX n false).bind λv3=>((G.lX n false).bind λv4=>(some ((af .i64 (v3-v4))))))
((G.lX n true).bind λv5=>((G.lX n false).bind λv6=>(some ((af .i64 (v5-v6))))))))
mutual
def G.iG.L1 (f:Nat)(kC:aj)(nI:aj)(aG:Int):Option (Int):=match f with
|0=>none
|n+1=>(cond (decide (aG<(kC.Kids.length:Int)))
(cond (decide (aG<(nI.Kids.length:Int)))
(cond (kC.Kind==4)
(chk (0<=aG/\aG<(kC.Names.length:Int))
(chk (0<=aG/\aG<(nI.Names.length:Int))
(cond ((kC.Names.getD aG.toNat default)==(nI.Names.getD aG.toNat default))
(chk (0<=aG/\aG<(kC.Kids.length:Int))
(chk (0<=aG/\aG<(nI.Kids.length:Int))
((G.iG n (kC.Kids.getD aG.toNat default) (nI.Kids.getD aG.toNat default)).bind λv9=>(cond (v9 != 0)
(some (v9))
(G.iG.L1 n kC nI (af .i64 (aG+1)))))))
(chk (0<=aG/\aG<(kC.Names.length:Int))
(chk (0<=aG/\aG<(nI.Names.length:Int))
((G.oD n (kC.Names.getD aG.toNat default) (nI.Names.getD aG.toNat default)).bind λv10=>(some (v10))))))))
(chk (0<=aG/\aG<(kC.Kids.length:Int))
(chk (0<=aG/\aG<(nI.Kids.length:Int))
((G.iG n (kC.Kids.getD aG.toNat default) (nI.Kids.getD aG.toNat default)).bind λv11=>(cond (v11 != 0)
(some (v11))
(G.iG.L1 n kC nI (af .i64 (aG+1))))))))
((G.qo n (kC.Kids.length:Int) (nI.Kids.length:Int)).bind λv12=>(some (v12))))
((G.qo n (kC.Kids.length:Int) (nI.Kids.length:Int)).bind λv13=>(some (v13))))
def G.iG (f:Nat)(kC:aj)(nI:aj):Option (Int):=match f with
|0=>none
|n+1=>(cond (kC.Kind != nI.Kind)
((G.qo n kC.Kind nI.Kind).bind λv1=>(some (v1)))
(cond (kC.Num != nI.Num)
((G.qo n kC.Num nI.Num).bind λv2=>(some (v2)))
(cond (kC.Text==nI.Text)
(G.iG.L1 n kC nI 0)
((G.oD n kC.Text nI.Text).bind λv14=>(some (v14))))))
end
def G.vz (f:Nat)(kC:aj)(nI:aj):Option (Bool):=match f with
|0=>none
|n+1=>((G.iG n kC nI).bind λv1=>(some ((v1==0))))
def G.kZ.L1 (f:Nat)(ax:aj)(v2:List aO)(O8:Int)(aG:Int):Option (oh×Bool):=match f with
|0=>none
|n+1=>(cond (decide (aG<(v2.length:Int)))
(chk (0<=1/\1<(ax.Kids.length:Int))
(chk (0<=aG/\aG<(v2.length:Int))
(cond ((ax.Kids.getD 1 default).Text==(v2.getD aG.toNat default))
(G.kZ.L1 n ax v2 aG (af .i64 (aG+1)))
(G.kZ.L1 n ax v2 O8 (af .i64 (aG+1))))))
(chk (0<=2/\2<(ax.Kids.length:Int))
((G.nD n (ax.Kids.getD 2 default)).bind λv3=>(chk (0<=0/\0<(ax.Kids.length:Int))
((G.nD n (ax.Kids.getD 0 default)).bind λv4=>(chk (0<=3/\3<(ax.Kids.length:Int))
((G.aY n (ax.Kids.getD 3 default)).bind λv5=>((G.nY n (oh.mk O8 v3 v4 v5)).bind λv6=>(cond v6
((G.pW n (oh.mk O8 v3 v4 v5)).bind λv7=>((G.vz n v7 ax).bind λv8=>(cond v8
(some ((oh.mk O8 v3 v4 v5),true))
(some ((oh.mk 0 [] [] (aj.mk 0 0 [] [] [])),false)))))
(some ((oh.mk 0 [] [] (aj.mk 0 0 [] [] [])),false)))))))))))
def G.kZ (f:Nat)(ax:aj):Option (oh×Bool):=match f with
|0=>none
|n+1=>((G.eG n ax).bind λv1=>(cond v1
(cond (ax.Kind != 4)
(some ((oh.mk 0 [] [] (aj.mk 0 0 [] [] [])),false))
(cond ((ax.Kids.length:Int) != 4)
(some ((oh.mk 0 [] [] (aj.mk 0 0 [] [] [])),false))
((G.uf n).bind λv2=>(G.kZ.L1 n ax v2 0 1))))
(some ((oh.mk 0 [] [] (aj.mk 0 0 [] [] [])),false))))
def G.l9.L1 (f:Nat)(aaA:aO)(z2:List oh):Option (List oh×Bool):=match f with
|0=>none
|n+1=>(cond (decide (0<(aaA.length:Int)))
(cond (decide ((z2.length:Int)<=12))
((G.jT n (dG.mk aaA 0 false) 5).bind λv7=>((G.kZ n v7.1).bind λv8=>(cond v7.2.bad
(some ([],false))
(cond v8.2
((G.gm n (dG.mk v7.2.text v7.2.at_ false)).bind λv9=>(cond (v9.1 != 59)
(some ([],false))
(chk ((z2.length+1)*145<=2^46)
(chk (0<=(af .i64 (v9.2.at_+1))/\(af .i64 (v9.2.at_+1))<=(aaA.length:Int)/\(aaA.length:Int)<=(aaA.length:Int))
(G.l9.L1 n (aaA.drop ((af .i64 (v9.2.at_+1)).toNat)) (z2++[v8.1]))))))
(some ([],false))))))
(some (z2,true)))
(some (z2,true)))
def G.l9 (f:Nat)(aA:aO):Option (List oh×Bool):=match f with
|0=>none
|n+1=>(G.l9.L1 n aA [])
def G.fG.K2 (f:Nat)(aA:aO)(v2:aO×aO)(y2:Int)(v6:List aO×Bool)(v7:List aO×Bool)(ada:Bool)(y3:Int)(y4:Int)(y5:aO)(y6:List aO)(y7:List aj)(y8:List oh):Option (RequestT×Bool):=match f with
|0=>none
|n+1=>(cond v6.2
(cond v7.2
(cond ada
((G.dm n (RequestT.mk y2 v2.1 v6.1 v7.1 (aj.mk y3 y4 y5 y6 y7) y8)).bind λv10=>(cond (v10==aA)
(cond (aA==[])
(some ((RequestT.mk 0 [] [] [] (aj.mk 0 0 [] [] []) []),false))
(some ((RequestT.mk y2 v2.1 v6.1 v7.1 (aj.mk y3 y4 y5 y6 y7) y8),true)))
(some ((RequestT.mk 0 [] [] [] (aj.mk 0 0 [] [] []) []),false))))
(some ((RequestT.mk 0 [] [] [] (aj.mk 0 0 [] [] []) []),false)))
(some ((RequestT.mk 0 [] [] [] (aj.mk 0 0 [] [] []) []),false)))
(some ((RequestT.mk 0 [] [] [] (aj.mk 0 0 [] [] []) []),false)))
def G.fG.L1 (f:Nat)(aA:aO)(v1:aO×aO)(v2:aO×aO)(v3:aO×aO)(v4:aO×aO)(v5:List aO)(aG:Int)(y2:Int):Option (RequestT×Bool):=match f with
|0=>none
|n+1=>(cond (decide (aG<(v5.length:Int)))
(chk (0<=aG/\aG<(v5.length:Int))
(cond ((v5.getD aG.toNat default)==v1.1)
(G.fG.L1 n aA v1 v2 v3 v4 v5 (af .i64 (aG+1)) aG)
(G.fG.L1 n aA v1 v2 v3 v4 v5 (af .i64 (aG+1)) y2)))
((G.iY n v3.1).bind λv6=>((G.iY n v4.1).bind λv7=>(cond (y2==4)
((G.l9 n v4.2).bind λv11=>(G.fG.K2 n aA v2 y2 v6 v7 v11.2 0 0 [] [] [] v11.1))
((G.qJ n v4.2).bind λv12=>(G.fG.K2 n aA v2 y2 v6 v7 v12.2 v12.1.Kind v12.1.Num v12.1.Text v12.1.Names v12.1.Kids []))))))
def G.fG (f:Nat)(aA:aO):Option (RequestT×Bool):=match f with
|0=>none
|n+1=>(cond (decide (2000<(aA.length:Int)))
(some ((RequestT.mk 0 [] [] [] (aj.mk 0 0 [] [] []) []),false))
((G.qK n aA).bind λv1=>((G.qK n v1.2).bind λv2=>((G.qK n v2.2).bind λv3=>((G.qK n v3.2).bind λv4=>((G.vU n).bind λv5=>(G.fG.L1 n aA v1 v2 v3 v4 v5 1 0)))))))
def G.fE.L1 (f:Nat)(aA:StoreT)(aG:Int)(z2:List bG):Option (StoreT):=match f with
|0=>none
|n+1=>(cond (decide (aG<(aA.Items.length:Int)))
(chk (0<=aG/\aG<(aA.Items.length:Int))
(chk (0<=aG/\aG<(aA.Items.length:Int))
(chk (0<=aG/\aG<(aA.Items.length:Int))
((G.aY n ((aA.Items.getD aG.toNat default).Node)).bind λv3=>(chk ((z2.length+1)*112<=2^46)
(G.fE.L1 n aA (af .i64 (aG+1)) (z2++[(bG.mk ((aA.Items.getD aG.toNat default).Name) ((aA.Items.getD aG.toNat default).Version) v3)])))))))
(some ((StoreT.mk z2 aA.Clock))))
def G.fE (f:Nat)(aA:StoreT):Option (StoreT):=match f with
|0=>none
|n+1=>(G.fE.L1 n aA 0 [])
def G.jE.L1 (f:Nat)(ax:aj)(jO:aO)(aG:Int):Option (Int):=match f with
|0=>none
|n+1=>(cond (decide (aG<(ax.Kids.length:Int)))
(cond (ax.Kind==4)
(chk (0<=aG/\aG<(ax.Names.length:Int))
(cond ((ax.Names.getD aG.toNat default)==jO)
(some (aG))
(cond (ax.Kind==3)
((G.jP n aG).bind λv5=>(cond (v5==jO)
(some (aG))
(G.jE.L1 n ax jO (af .i64 (aG+1)))))
(G.jE.L1 n ax jO (af .i64 (aG+1))))))
(cond (ax.Kind==3)
((G.jP n aG).bind λv6=>(cond (v6==jO)
(some (aG))
(G.jE.L1 n ax jO (af .i64 (aG+1)))))
(G.jE.L1 n ax jO (af .i64 (aG+1)))))
(some ((-1))))
def G.jE (f:Nat)(ax:aj)(jO:aO):Option (Int):=match f with
|0=>none
|n+1=>(G.jE.L1 n ax jO 0)
def G.lV.L1 (f:Nat)(ax:aj)(jO:aO)(aG:Int):Option (Int×Bool):=match f with
|0=>none
|n+1=>(cond (ax.Kind==4)
(cond (decide (aG<=(ax.Kids.length:Int)))
(cond (aG==(ax.Kids.length:Int))
(some (aG,false))
(chk (0<=aG/\aG<(ax.Names.length:Int))
(cond (iL jO (ax.Names.getD aG.toNat default))
(some (aG,false))
(G.lV.L1 n ax jO (af .i64 (aG+1))))))
(some ((-1),false)))
(some ((-1),false)))
def G.lV.L2 (f:Nat)(ax:aj)(jO:aO)(JP:Int):Option (Int×Bool):=match f with
|0=>none
|n+1=>(cond (ax.Kind==4)
(cond (decide (JP<=(ax.Kids.length:Int)))
(cond (JP==(ax.Kids.length:Int))
(some (JP,false))
(chk (0<=JP/\JP<(ax.Names.length:Int))
(cond (iL jO (ax.Names.getD JP.toNat default))
(some (JP,false))
(G.lV.L2 n ax jO (af .i64 (JP+1))))))
(some ((-1),false)))
(some ((-1),false)))
def G.lV (f:Nat)(ax:aj)(jO:aO):Option (Int×Bool):=match f with
|0=>none
|n+1=>((G.jE n ax jO).bind λv1=>(cond (decide (0<=v1))
(some (v1,(ax.Kind==4)))
(cond (ax.Kind==3)
(cond (jO==[45])
(some ((ax.Kids.length:Int),false))
((G.jP n (ax.Kids.length:Int)).bind λv2=>(cond (jO==v2)
(some ((ax.Kids.length:Int),false))
(G.lV.L1 n ax jO 0))))
(G.lV.L2 n ax jO 0))))
def G.oN (f:Nat)(ax:aj)(WL:Int)(Pj:aj):Option (aj):=match f with
|0=>none
|n+1=>((G.aY n ax).bind λv1=>((G.aY n Pj).bind λv2=>(chk (0<=WL/\WL<(v1.Kids.length:Int))
(some ((aj.mk v1.Kind v1.Num v1.Text v1.Names (v1.Kids.set WL.toNat v2)))))))
def G.pR (f:Nat)(ax:aj)(jO:aO)(iP:aj):Option (aj×Bool):=match f with
|0=>none
|n+1=>((G.lV n ax jO).bind λv1=>(cond (decide (v1.1<0))
(some ((aj.mk 0 0 [] [] []),false))
(cond v1.2
((G.oN n ax v1.1 iP).bind λv2=>(some (v2,true)))
((G.aY n ax).bind λv3=>(chk (0<=0/\0<=v1.1/\v1.1<=(v3.Kids.length:Int))
(chk (((v3.Kids.take v1.1.toNat).length)*86<=2^46)
((G.aY n iP).bind λv4=>(chk (((v3.Kids.take v1.1.toNat).length+1)*86<=2^46)
(chk (0<=v1.1/\v1.1<=(v3.Kids.length:Int)/\(v3.Kids.length:Int)<=(v3.Kids.length:Int))
(chk ((((v3.Kids.take v1.1.toNat).length+1)+(v3.Kids.drop v1.1.toNat).length)*86<=2^46)
(cond (ax.Kind==3)
(some ((aj.mk ax.Kind 0 [] [] (((v3.Kids.take v1.1.toNat)++[v4])++(v3.Kids.drop v1.1.toNat))),true))
(chk (0<=0/\0<=v1.1/\v1.1<=(v3.Names.length:Int))
(chk (((v3.Names.take v1.1.toNat).length)*18<=2^46)
(chk (((v3.Names.take v1.1.toNat).length+1)*18<=2^46)
(chk (0<=v1.1/\v1.1<=(v3.Names.length:Int)/\(v3.Names.length:Int)<=(v3.Names.length:Int))
(chk ((((v3.Names.take v1.1.toNat).length+1)+(v3.Names.drop v1.1.toNat).length)*18<=2^46)
(some ((aj.mk ax.Kind 0 [] (((v3.Names.take v1.1.toNat)++[jO])++(v3.Names.drop v1.1.toNat)) (((v3.Kids.take v1.1.toNat)++[v4])++(v3.Kids.drop v1.1.toNat))),true))))))))))))))))))
def G.sG.L1 (f:Nat)(aC:List aO)(aG:Int)(y6:Int)(y7:Int)(y8:aO)(y9:List aO)(KQ:List aj):Option (aj×Bool):=match f with
|0=>none
|n+1=>(cond (decide (aG<(aC.length:Int)))
(chk (0<=aG/\aG<(aC.length:Int))
((G.jE n (aj.mk y6 y7 y8 y9 KQ) (aC.getD aG.toNat default)).bind λv3=>(cond (decide (v3<0))
(some ((aj.mk 0 0 [] [] []),false))
(chk (0<=v3/\v3<(KQ.length:Int))
(G.sG.L1 n aC (af .i64 (aG+1)) ((KQ.getD v3.toNat default).Kind) ((KQ.getD v3.toNat default).Num) ((KQ.getD v3.toNat default).Text) ((KQ.getD v3.toNat default).Names) ((KQ.getD v3.toNat default).Kids))))))
((G.aY n (aj.mk y6 y7 y8 y9 KQ)).bind λv4=>(some (v4,true))))
def G.sG (f:Nat)(ax:aj)(aC:List aO):Option (aj×Bool):=match f with
|0=>none
|n+1=>(G.sG.L1 n aC 0 ax.Kind ax.Num ax.Text ax.Names ax.Kids)
mutual
def G.oU (f:Nat)(ax:aj)(aC:List aO)(iP:aj):Option (aj×Bool):=match f with
|0=>none
|n+1=>(cond ((aC.length:Int)==0)
((G.aY n iP).bind λv1=>(some (v1,true)))
(chk (0<=0/\0<(aC.length:Int))
((G.jE n ax (aC.getD 0 default)).bind λv2=>(cond (decide (v2<0))
(some ((aj.mk 0 0 [] [] []),false))
(chk (0<=v2/\v2<(ax.Kids.length:Int))
(chk (0<=1/\1<=(aC.length:Int)/\(aC.length:Int)<=(aC.length:Int))
((G.oU n (ax.Kids.getD v2.toNat default) (aC.drop 1) iP).bind λv3=>(cond v3.2
((G.oN n ax v2 v3.1).bind λv4=>(some (v4,true)))
(some ((aj.mk 0 0 [] [] []),false))))))))))
end
def G.tK (f:Nat)(ax:aj)(aC:List aO)(iP:aj):Option (aj×Bool):=match f with
|0=>none
|n+1=>(cond ((aC.length:Int)==0)
((G.aY n iP).bind λv1=>(some (v1,true)))
(chk (0<=0/\0<=(af .i64 ((aC.length:Int)-1))/\(af .i64 ((aC.length:Int)-1))<=(aC.length:Int))
((G.sG n ax (aC.take ((af .i64 ((aC.length:Int)-1)).toNat))).bind λv2=>(cond v2.2
(chk (0<=(af .i64 ((aC.length:Int)-1))/\(af .i64 ((aC.length:Int)-1))<(aC.length:Int))
((G.pR n v2.1 (aC.getD (af .i64 ((aC.length:Int)-1)).toNat default) iP).bind λv3=>(cond v3.2
(chk (0<=0/\0<=(af .i64 ((aC.length:Int)-1))/\(af .i64 ((aC.length:Int)-1))<=(aC.length:Int))
((G.oU n ax (aC.take ((af .i64 ((aC.length:Int)-1)).toNat)) v3.1).bind λv4=>(some (v4.1,v4.2))))
(some ((aj.mk 0 0 [] [] []),false)))))
(some ((aj.mk 0 0 [] [] []),false))))))
def G.nC.L1 (f:Nat)(aC:List aO)(CU:List aO)(aG:Int):Option (Bool):=match f with
|0=>none
|n+1=>(cond (decide (aG<(CU.length:Int)))
(cond (decide ((aC.length:Int)<=aG))
(some (false))
(chk (0<=aG/\aG<(aC.length:Int))
(chk (0<=aG/\aG<(CU.length:Int))
(cond ((aC.getD aG.toNat default)==(CU.getD aG.toNat default))
(G.nC.L1 n aC CU (af .i64 (aG+1)))
(some (false))))))
(some (true)))
def G.nC (f:Nat)(aC:List aO)(CU:List aO):Option (Bool):=match f with
|0=>none
|n+1=>(G.nC.L1 n aC CU 0)
def G.kz.K1 (f:Nat)(ax:aj)(aC:List aO)(v1:aj×Bool)(z1:List aj)(z2:List aO):Option (aj×Bool):=match f with
|0=>none
|n+1=>(chk (0<=0/\0<=(af .i64 ((aC.length:Int)-1))/\(af .i64 ((aC.length:Int)-1))<=(aC.length:Int))
((G.oU n ax (aC.take ((af .i64 ((aC.length:Int)-1)).toNat)) (aj.mk v1.1.Kind 0 [] z2 z1)).bind λv3=>(some (v3.1,v3.2))))
def G.kz (f:Nat)(ax:aj)(aC:List aO):Option (aj×Bool):=match f with
|0=>none
|n+1=>(cond (decide ((af .i64 ((aC.length:Int)-1))<0))
(some ((aj.mk 0 0 [] [] []),false))
(chk (0<=0/\0<=(af .i64 ((aC.length:Int)-1))/\(af .i64 ((aC.length:Int)-1))<=(aC.length:Int))
((G.sG n ax (aC.take ((af .i64 ((aC.length:Int)-1)).toNat))).bind λv1=>(cond v1.2
(chk (0<=(af .i64 ((aC.length:Int)-1))/\(af .i64 ((aC.length:Int)-1))<(aC.length:Int))
((G.jE n v1.1 (aC.getD (af .i64 ((aC.length:Int)-1)).toNat default)).bind λv2=>(cond (decide (v2<0))
(some ((aj.mk 0 0 [] [] []),false))
(chk (0<=0/\0<=v2/\v2<=(v1.1.Kids.length:Int))
(chk (((v1.1.Kids.take v2.toNat).length)*86<=2^46)
(chk (0<=(af .i64 (v2+1))/\(af .i64 (v2+1))<=(v1.1.Kids.length:Int)/\(v1.1.Kids.length:Int)<=(v1.1.Kids.length:Int))
(chk (((v1.1.Kids.take v2.toNat).length+(v1.1.Kids.drop ((af .i64 (v2+1)).toNat)).length)*86<=2^46)
(cond (v1.1.Kind==4)
(chk (0<=0/\0<=v2/\v2<=(v1.1.Names.length:Int))
(chk (((v1.1.Names.take v2.toNat).length)*18<=2^46)
(chk (0<=(af .i64 (v2+1))/\(af .i64 (v2+1))<=(v1.1.Names.length:Int)/\(v1.1.Names.length:Int)<=(v1.1.Names.length:Int))
(chk (((v1.1.Names.take v2.toNat).length+(v1.1.Names.drop ((af .i64 (v2+1)).toNat)).length)*18<=2^46)
(G.kz.K1 n ax aC v1 ((v1.1.Kids.take v2.toNat)++(v1.1.Kids.drop ((af .i64 (v2+1)).toNat))) ((v1.1.Names.take v2.toNat)++(v1.1.Names.drop ((af .i64 (v2+1)).toNat))))))))
(G.kz.K1 n ax aC v1 ((v1.1.Kids.take v2.toNat)++(v1.1.Kids.drop ((af .i64 (v2+1)).toNat))) [])))))))))
(some ((aj.mk 0 0 [] [] []),false))))))
def G.kV.K1 (f:Nat)(ax:aj)(jY:oh)(aeq:List aO):Option (aj×Bool):=match f with
|0=>none
|n+1=>((G.sG n ax aeq).bind λv4=>(cond v4.2
(cond (jY.Kind==6)
((G.vz n v4.1 jY.Value).bind λv5=>(some (ax,v5)))
(cond (jY.Kind==5)
((G.tK n ax jY.Path v4.1).bind λv6=>(some (v6.1,v6.2)))
((G.nC n jY.Path jY.From).bind λv7=>(cond v7
((G.aY n ax).bind λv8=>(some (v8,((jY.Path.length:Int)==(jY.From.length:Int)))))
((G.kz n ax jY.From).bind λv9=>(cond v9.2
((G.tK n v9.1 jY.Path v4.1).bind λv10=>(some (v10.1,v10.2)))
(some ((aj.mk 0 0 [] [] []),false))))))))
(some ((aj.mk 0 0 [] [] []),false))))
def G.kV (f:Nat)(ax:aj)(jY:oh):Option (aj×Bool):=match f with
|0=>none
|n+1=>(cond (jY.Kind==1)
((G.tK n ax jY.Path jY.Value).bind λv1=>(some (v1.1,v1.2)))
(cond (jY.Kind==2)
((G.kz n ax jY.Path).bind λv2=>(some (v2.1,v2.2)))
(cond (jY.Kind==3)
((G.oU n ax jY.Path jY.Value).bind λv3=>(some (v3.1,v3.2)))
(cond (jY.Kind==6)
(G.kV.K1 n ax jY jY.Path)
(G.kV.K1 n ax jY jY.From)))))
def G.o9 (f:Nat)(ax:aj)(IG:Bool):Option (aj×Bool):=match f with
|0=>none
|n+1=>(cond IG
((G.eG n ax).bind λv1=>(cond v1
(some (ax,true))
(some ((aj.mk 0 0 [] [] []),false))))
(some ((aj.mk 0 0 [] [] []),false)))
def G.pJ (f:Nat)(ax:aj)(jY:oh):Option (aj×Bool):=match f with
|0=>none
|n+1=>((G.kV n ax jY).bind λv1=>((G.o9 n v1.1 v1.2).bind λv2=>(cond v2.2
((G.aY n v2.1).bind λv3=>(some (v3,true)))
(some ((aj.mk 0 0 [] [] []),false)))))
def G.jA.L1 (f:Nat)(aK:List oh)(aG:Int)(y6:Int)(y7:Int)(y8:aO)(y9:List aO)(KQ:List aj):Option (aj×Bool):=match f with
|0=>none
|n+1=>(cond (decide (aG<(aK.length:Int)))
(chk (0<=aG/\aG<(aK.length:Int))
((G.pJ n (aj.mk y6 y7 y8 y9 KQ) (oh.mk ((aK.getD aG.toNat default).Kind) ((aK.getD aG.toNat default).Path) ((aK.getD aG.toNat default).From) ((aK.getD aG.toNat default).Value))).bind λv6=>(cond v6.2
(G.jA.L1 n aK (af .i64 (aG+1)) v6.1.Kind v6.1.Num v6.1.Text v6.1.Names v6.1.Kids)
(some ((aj.mk 0 0 [] [] []),false)))))
(some ((aj.mk y6 y7 y8 y9 KQ),true)))
def G.jA (f:Nat)(ax:aj)(aK:List oh):Option (aj×Bool):=match f with
|0=>none
|n+1=>((G.eG n ax).bind λv1=>(cond v1
((G.gu n aK).bind λv2=>(cond v2
((G.aY n ax).bind λv3=>(G.jA.L1 n aK 0 v3.Kind v3.Num v3.Text v3.Names v3.Kids))
(some ((aj.mk 0 0 [] [] []),false))))
(some ((aj.mk 0 0 [] [] []),false))))
mutual
def G.jD.L2 (f:Nat)(dK:aj)(aG:Int)(y11:Int)(y12:Int)(y13:aO)(y14:List aO)(y15:List aj):Option (aj):=match f with
|0=>none
|n+1=>(cond (decide (aG<(dK.Kids.length:Int)))
(chk (0<=aG/\aG<(dK.Names.length:Int))
((G.jE n (aj.mk y11 y12 y13 y14 y15) (dK.Names.getD aG.toNat default)).bind λv19=>(chk (0<=aG/\aG<(dK.Kids.length:Int))
(cond ((dK.Kids.getD aG.toNat default).Kind==0)
(cond (decide (0<=v19))
((G.kz n (aj.mk y11 y12 y13 y14 y15) [(dK.Names.getD aG.toNat default)]).bind λv20=>(G.jD.L2 n dK (af .i64 (aG+1)) v20.1.Kind v20.1.Num v20.1.Text v20.1.Names v20.1.Kids))
(chk (0<=aG/\aG<(dK.Kids.length:Int))
(cond ((dK.Kids.getD aG.toNat default).Kind != 0)
(chk (0<=aG/\aG<(dK.Kids.length:Int))
(chk (0<=aG/\aG<(dK.Kids.length:Int))
((G.jD n (aj.mk 0 0 [] [] []) (dK.Kids.getD aG.toNat default)).bind λv21=>((G.pR n (aj.mk y11 y12 y13 y14 y15) (dK.Names.getD aG.toNat default) v21).bind λv22=>(G.jD.L2 n dK (af .i64 (aG+1)) v22.1.Kind v22.1.Num v22.1.Text v22.1.Names v22.1.Kids)))))
(chk (0<=aG/\aG<(dK.Kids.length:Int))
(G.jD.L2 n dK (af .i64 (aG+1)) y11 y12 y13 y14 y15)))))
(chk (0<=aG/\aG<(dK.Kids.length:Int))
(cond ((dK.Kids.getD aG.toNat default).Kind != 0)
(cond (decide (0<=v19))
(chk (0<=v19/\v19<(y15.length:Int))
(chk (0<=aG/\aG<(dK.Kids.length:Int))
((G.jD n (y15.getD v19.toNat default) (dK.Kids.getD aG.toNat default)).bind λv23=>((G.oN n (aj.mk y11 y12 y13 y14 y15) v19 v23).bind λv24=>(G.jD.L2 n dK (af .i64 (aG+1)) v24.Kind v24.Num v24.Text v24.Names v24.Kids)))))
(chk (0<=aG/\aG<(dK.Kids.length:Int))
(chk (0<=aG/\aG<(dK.Kids.length:Int))
((G.jD n (aj.mk 0 0 [] [] []) (dK.Kids.getD aG.toNat default)).bind λv25=>((G.pR n (aj.mk y11 y12 y13 y14 y15) (dK.Names.getD aG.toNat default) v25).bind λv26=>(G.jD.L2 n dK (af .i64 (aG+1)) v26.1.Kind v26.1.Num v26.1.Text v26.1.Names v26.1.Kids))))))
(chk (0<=aG/\aG<(dK.Kids.length:Int))
(G.jD.L2 n dK (af .i64 (aG+1)) y11 y12 y13 y14 y15))))))))
(some ((aj.mk y11 y12 y13 y14 y15))))
def G.jD.K1 (f:Nat)(dK:aj)(y1:Int)(y2:Int)(y3:aO)(y4:List aO)(y5:List aj):Option (aj):=match f with
|0=>none
|n+1=>(G.jD.L2 n dK 0 y1 y2 y3 y4 y5)
def G.jD (f:Nat)(ax:aj)(dK:aj):Option (aj):=match f with
|0=>none
|n+1=>(cond (dK.Kind != 4)
((G.aY n dK).bind λv1=>(some (v1)))
(cond (ax.Kind==4)
((G.aY n ax).bind λv27=>(G.jD.K1 n dK v27.Kind v27.Num v27.Text v27.Names v27.Kids))
(G.jD.K1 n dK 4 0 [] [] [])))
end
def G.pI (f:Nat)(ax:aj)(dK:aj):Option (aj×Bool):=match f with
|0=>none
|n+1=>((G.eG n ax).bind λv1=>(cond v1
((G.eG n dK).bind λv2=>(cond v2
((G.jD n ax dK).bind λv3=>((G.o9 n v3 true).bind λv4=>(some (v4.1,v4.2))))
(some ((aj.mk 0 0 [] [] []),false))))
(some ((aj.mk 0 0 [] [] []),false))))
def G.oz (f:Nat)(Gu:Int):Option (gy):=match f with
|0=>none
|n+1=>(some ((gy.mk Gu [] 0 (aj.mk 0 0 [] [] []))))
def G.mW.L1 (f:Nat)(aK:List aO)(qW:aO)(aG:Int):Option (Bool):=match f with
|0=>none
|n+1=>(cond (decide (aG<(aK.length:Int)))
(chk (0<=aG/\aG<(aK.length:Int))
(cond ((aK.getD aG.toNat default)==qW)
(some (true))
(chk (0<=aG/\aG<(aK.length:Int))
(cond ((aK.getD aG.toNat default)==[42])
(some (true))
(G.mW.L1 n aK qW (af .i64 (aG+1)))))))
(some (false)))
def G.mW (f:Nat)(aK:List aO)(qW:aO):Option (Bool):=match f with
|0=>none
|n+1=>(G.mW.L1 n aK qW 0)
def G.uJ (f:Nat)(xZ:List aO)(um:List aO)(qW:aO)(wO:Bool):Option (Int):=match f with
|0=>none
|n+1=>(cond (decide (0<(xZ.length:Int)))
(cond (qW==[])
(some (412))
((G.mW n xZ qW).bind λv1=>(cond v1
(cond (decide (0<(um.length:Int)))
((G.mW n um qW).bind λv2=>(cond v2
(cond wO
(some (304))
(some (412)))
(some (200))))
(some (200)))
(some (412)))))
(cond (decide (0<(um.length:Int)))
(cond (qW==[])
(some (200))
((G.mW n um qW).bind λv3=>(cond v3
(cond wO
(some (304))
(some (412)))
(some (200)))))
(some (200))))
def G.qx.L1 (f:Nat)(aA:StoreT)(eY:aO)(v1:StoreT)(aG:Int)(z2:List bG):Option (StoreT):=match f with
|0=>none
|n+1=>(cond (decide (aG<(v1.Items.length:Int)))
(chk (0<=aG/\aG<(v1.Items.length:Int))
(cond ((v1.Items.getD aG.toNat default).Name==eY)
(G.qx.L1 n aA eY v1 (af .i64 (aG+1)) z2)
(chk (0<=aG/\aG<(v1.Items.length:Int))
(chk ((z2.length+1)*112<=2^46)
(G.qx.L1 n aA eY v1 (af .i64 (aG+1)) (z2++[(bG.mk ((v1.Items.getD aG.toNat default).Name) ((v1.Items.getD aG.toNat default).Version) ((v1.Items.getD aG.toNat default).Node))]))))))
(some ((StoreT.mk z2 (af .i64 (aA.Clock+1))))))
def G.qx (f:Nat)(aA:StoreT)(eY:aO):Option (StoreT):=match f with
|0=>none
|n+1=>((G.fE n aA).bind λv1=>(G.qx.L1 n aA eY v1 0 []))
def G.oM.L1 (f:Nat)(aA:StoreT)(eY:aO)(aG:Int):Option (Int):=match f with
|0=>none
|n+1=>(cond (decide (aG<(aA.Items.length:Int)))
(chk (0<=aG/\aG<(aA.Items.length:Int))
(cond ((aA.Items.getD aG.toNat default).Name==eY)
(some (aG))
(G.oM.L1 n aA eY (af .i64 (aG+1)))))
(some ((-1))))
def G.oM (f:Nat)(aA:StoreT)(eY:aO):Option (Int):=match f with
|0=>none
|n+1=>(G.oM.L1 n aA eY 0)
def G.yT (f:Nat)(ax:Int):Option (aO):=match f with
|0=>none
|n+1=>(chk (0<=(af .i64 (nV ax 4096))/\(af .i64 (nV ax 4096))<((16:Nat):Int))
(chk (0<=(lq (af .i64 (nV ax 256)) 16)/\(lq (af .i64 (nV ax 256)) 16)<((16:Nat):Int))
(chk (0<=(lq (af .i64 (nV ax 16)) 16)/\(lq (af .i64 (nV ax 16)) 16)<((16:Nat):Int))
(chk (0<=(lq ax 16)/\(lq ax 16)<((16:Nat):Int))
(chk (4<=maxLen)
(some ([dR ((([48,49,50,51,52,53,54,55,56,57,97,98,99,100,101,102]:aO).getD (af .i64 (nV ax 4096)).toNat 0).toNat),dR ((([48,49,50,51,52,53,54,55,56,57,97,98,99,100,101,102]:aO).getD (lq (af .i64 (nV ax 256)) 16).toNat 0).toNat),dR ((([48,49,50,51,52,53,54,55,56,57,97,98,99,100,101,102]:aO).getD (lq (af .i64 (nV ax 16)) 16).toNat 0).toNat),dR ((([48,49,50,51,52,53,54,55,56,57,97,98,99,100,101,102]:aO).getD (lq ax 16).toNat 0).toNat)])))))))
def G.pK.L1 (f:Nat)(aA:aO)(UJ:Int)(aG:Int):Option (Int):=match f with
|0=>none
|n+1=>(cond (decide (aG<(aA.length:Int)))
(chk (0<=aG/\aG<(aA.length:Int))
(G.pK.L1 n aA (lq (af .i64 ((af .i64 (131*UJ))+(af .i64 (((aA.getD aG.toNat 0).toNat:Int))))) 65521) (af .i64 (aG+1))))
(some (UJ)))
def G.pK (f:Nat)(aA:aO):Option (Int):=match f with
|0=>none
|n+1=>(G.pK.L1 n aA 17 0)
def G.rM (f:Nat)(aA:StoreT)(eY:aO):Option (aO):=match f with
|0=>none
|n+1=>((G.oM n aA eY).bind λv1=>(cond (decide (v1<0))
(some ([]))
(chk (0<=v1/\v1<(aA.Items.length:Int))
((G.dW n ((aA.Items.getD v1.toNat default).Node)).bind λv2=>((G.pK n v2).bind λv3=>((G.yT n v3).bind λv4=>(some (v4))))))))
mutual
def G.lW.K4 (f:Nat)(aA:StoreT)(eY:aO)(v1:aj)(v2:StoreT)(aG:Int)(YN:Bool)(z5:List bG):Option (StoreT):=match f with
|0=>none
|n+1=>(chk (0<=aG/\aG<(v2.Items.length:Int))
(cond ((v2.Items.getD aG.toNat default).Name==eY)
(G.lW.L3 n aA eY v1 v2 YN (af .i64 (aG+1)) z5)
(chk (0<=aG/\aG<(v2.Items.length:Int))
(chk ((z5.length+1)*112<=2^46)
(G.lW.L3 n aA eY v1 v2 YN (af .i64 (aG+1)) (z5++[(bG.mk ((v2.Items.getD aG.toNat default).Name) ((v2.Items.getD aG.toNat default).Version) ((v2.Items.getD aG.toNat default).Node))]))))))
def G.lW.L3 (f:Nat)(aA:StoreT)(eY:aO)(v1:aj)(v2:StoreT)(YM:Bool)(aG:Int)(z4:List bG):Option (StoreT):=match f with
|0=>none
|n+1=>(cond (decide (aG<(v2.Items.length:Int)))
(cond YM
(G.lW.K4 n aA eY v1 v2 aG true z4)
(chk (0<=aG/\aG<(v2.Items.length:Int))
(cond (iL ((v2.Items.getD aG.toNat default).Name) eY)
(G.lW.K4 n aA eY v1 v2 aG false z4)
(chk ((z4.length+1)*112<=2^46)
(G.lW.K4 n aA eY v1 v2 aG true (z4++[(bG.mk eY (af .i64 (aA.Clock+1)) v1)]))))))
(cond YM
(some ((StoreT.mk z4 (af .i64 (aA.Clock+1)))))
(chk ((z4.length+1)*112<=2^46)
(some ((StoreT.mk (z4++[(bG.mk eY (af .i64 (aA.Clock+1)) v1)]) (af .i64 (aA.Clock+1))))))))
end
def G.lW (f:Nat)(aA:StoreT)(eY:aO)(ax:aj):Option (StoreT):=match f with
|0=>none
|n+1=>((G.aY n ax).bind λv1=>((G.fE n aA).bind λv2=>(G.lW.L3 n aA eY v1 v2 false 0 [])))
def G.gY.L1 (f:Nat)(aA:StoreT)(aG:Int):Option (Bool):=match f with
|0=>none
|n+1=>(cond (decide (aG<(aA.Items.length:Int)))
(chk (0<=aG/\aG<(aA.Items.length:Int))
((G.iU n ((aA.Items.getD aG.toNat default).Name)).bind λv7=>(cond v7
((G.eG n ((aA.Items.getD aG.toNat default).Node)).bind λv8=>(cond v8
((G.fP n ((aA.Items.getD aG.toNat default).Version) 1 aA.Clock).bind λv9=>(cond v9
(cond (decide (0<aG))
(chk (0<=(af .i64 (aG-1))/\(af .i64 (aG-1))<(aA.Items.length:Int))
(cond (iL ((aA.Items.getD aG.toNat default).Name) ((aA.Items.getD (af .i64 (aG-1)).toNat default).Name))
(some (false))
(cond ((aA.Items.getD aG.toNat default).Name==(aA.Items.getD (af .i64 (aG-1)).toNat default).Name)
(some (false))
(G.gY.L1 n aA (af .i64 (aG+1))))))
(G.gY.L1 n aA (af .i64 (aG+1))))
(some (false))))
(some (false))))
(some (false)))))
(cond (decide ((aA.Items.length:Int)<=10))
((G.fP n aA.Clock 0 999).bind λv10=>(some (v10)))
(some (false))))
def G.gY (f:Nat)(aA:StoreT):Option (Bool):=match f with
|0=>none
|n+1=>(G.gY.L1 n aA 0)
def G.lS.K1 (f:Nat)(aA:StoreT)(eY:aO)(ax:aj)(aaB:Int):Option (StoreT×gy):=match f with
|0=>none
|n+1=>((G.lW n aA eY ax).bind λv2=>((G.gY n v2).bind λv3=>(cond v3
((G.rM n v2 eY).bind λv4=>(some (v2,(gy.mk aaB v4 v2.Clock (aj.mk 0 0 [] [] [])))))
((G.fE n aA).bind λv5=>((G.oz n 422).bind λv6=>(some (v5,v6)))))))
def G.lS (f:Nat)(aA:StoreT)(eY:aO)(ax:aj):Option (StoreT×gy):=match f with
|0=>none
|n+1=>((G.oM n aA eY).bind λv7=>(cond (decide (v7<0))
(G.lS.K1 n aA eY ax 201)
(G.lS.K1 n aA eY ax 200)))
def G.jS.K1 (f:Nat)(aA:StoreT)(aU:RequestT)(WA:Bool)(y1:Int)(y2:Int)(y3:aO)(y4:List aO)(y5:List aj):Option (StoreT×gy):=match f with
|0=>none
|n+1=>(cond WA
((G.lS n aA aU.Name (aj.mk y1 y2 y3 y4 y5)).bind λv17=>(some (v17.1,v17.2)))
((G.fE n aA).bind λv18=>((G.oz n 422).bind λv19=>(some (v18,v19)))))
def G.jS.K2 (f:Nat)(aA:StoreT)(aU:RequestT)(agF:Bool)(y6:Int)(y7:Int)(y8:aO)(y9:List aO)(KQ:List aj):Option (StoreT×gy):=match f with
|0=>none
|n+1=>(cond agF
((G.lS n aA aU.Name (aj.mk y6 y7 y8 y9 KQ)).bind λv34=>(some (v34.1,v34.2)))
((G.fE n aA).bind λv35=>((G.oz n 422).bind λv36=>(some (v35,v36)))))
def G.jS (f:Nat)(aA:StoreT)(aU:RequestT):Option (StoreT×gy):=match f with
|0=>none
|n+1=>((G.oM n aA aU.Name).bind λv1=>(cond (decide (v1<0))
(cond (aU.Method != 2)
((G.fE n aA).bind λv2=>((G.oz n 404).bind λv3=>(some (v2,v3))))
((G.rM n aA aU.Name).bind λv4=>((G.uJ n aU.Want aU.oJ v4 (aU.Method==1)).bind λv5=>(cond (v5 != 200)
((G.fE n aA).bind λv6=>((G.oz n v5).bind λv7=>(some (v6,v7))))
(cond (aU.Method==1)
((G.fE n aA).bind λv8=>((G.rM n aA aU.Name).bind λv9=>(chk (0<=v1/\v1<(aA.Items.length:Int))
(chk (0<=v1/\v1<(aA.Items.length:Int))
((G.aY n ((aA.Items.getD v1.toNat default).Node)).bind λv10=>(some (v8,(gy.mk v5 v9 ((aA.Items.getD v1.toNat default).Version) v10))))))))
(cond (aU.Method==2)
((G.lS n aA aU.Name aU.Body).bind λv11=>(some (v11.1,v11.2)))
(cond (aU.Method==3)
(cond (aA.Clock==999)
((G.fE n aA).bind λv12=>((G.oz n 422).bind λv13=>(some (v12,v13))))
((G.qx n aA aU.Name).bind λv14=>(some (v14,(gy.mk v5 [] (af .i64 (aA.Clock+1)) (aj.mk 0 0 [] [] []))))))
(chk (0<=v1/\v1<(aA.Items.length:Int))
((G.jA n ((aA.Items.getD v1.toNat default).Node) aU.Ops).bind λv15=>(cond (aU.Method==5)
(chk (0<=v1/\v1<(aA.Items.length:Int))
((G.pI n ((aA.Items.getD v1.toNat default).Node) aU.Body).bind λv20=>(G.jS.K1 n aA aU v20.2 v20.1.Kind v20.1.Num v20.1.Text v20.1.Names v20.1.Kids)))
(G.jS.K1 n aA aU v15.2 v15.1.Kind v15.1.Num v15.1.Text v15.1.Names v15.1.Kids)))))))))))
((G.rM n aA aU.Name).bind λv21=>((G.uJ n aU.Want aU.oJ v21 (aU.Method==1)).bind λv22=>(cond (v22 != 200)
((G.fE n aA).bind λv23=>((G.oz n v22).bind λv24=>(some (v23,v24))))
(cond (aU.Method==1)
((G.fE n aA).bind λv25=>((G.rM n aA aU.Name).bind λv26=>(chk (0<=v1/\v1<(aA.Items.length:Int))
(chk (0<=v1/\v1<(aA.Items.length:Int))
((G.aY n ((aA.Items.getD v1.toNat default).Node)).bind λv27=>(some (v25,(gy.mk v22 v26 ((aA.Items.getD v1.toNat default).Version) v27))))))))
(cond (aU.Method==2)
((G.lS n aA aU.Name aU.Body).bind λv28=>(some (v28.1,v28.2)))
(cond (aU.Method==3)
(cond (aA.Clock==999)
((G.fE n aA).bind λv29=>((G.oz n 422).bind λv30=>(some (v29,v30))))
((G.qx n aA aU.Name).bind λv31=>(some (v31,(gy.mk v22 [] (af .i64 (aA.Clock+1)) (aj.mk 0 0 [] [] []))))))
(chk (0<=v1/\v1<(aA.Items.length:Int))
((G.jA n ((aA.Items.getD v1.toNat default).Node) aU.Ops).bind λv32=>(cond (aU.Method==5)
(chk (0<=v1/\v1<(aA.Items.length:Int))
((G.pI n ((aA.Items.getD v1.toNat default).Node) aU.Body).bind λv37=>(G.jS.K2 n aA aU v37.2 v37.1.Kind v37.1.Num v37.1.Text v37.1.Names v37.1.Kids)))
(G.jS.K2 n aA aU v32.2 v32.1.Kind v32.1.Num v32.1.Text v32.1.Names v32.1.Kids))))))))))))
def G.nR.K1 (f:Nat)(vK:vO)(aU:RequestT)(v1:StoreT×gy)(QY:aO):Option (aO×vO):=match f with
|0=>none
|n+1=>(cond (aU.Method==1)
(cond (v1.2.Status==200)
(chk (QY.length+1<=maxLen)
((G.dW n v1.2.Body).bind λv3=>(chk ((QY.length+1)+v3.length<=maxLen)
(some (((QY++[32])++v3),(vO.mk v1.1 vK.mark))))))
(some (QY,(vO.mk v1.1 vK.mark))))
(some (QY,(vO.mk v1.1 vK.mark))))
def G.nR (f:Nat)(vK:vO)(aU:RequestT):Option (aO×vO):=match f with
|0=>none
|n+1=>((G.jS n vK.store aU).bind λv1=>((G.jP n v1.2.Status).bind λv2=>(cond (v1.2.Tag==[])
(G.nR.K1 n vK aU v1 v2)
(chk (v2.length+1<=maxLen)
(chk ((v2.length+1)+v1.2.Tag.length<=maxLen)
(G.nR.K1 n vK aU v1 ((v2++[32])++v1.2.Tag)))))))
def G.kY.L1 (f:Nat)(vK:vO)(wE:aO)(aG:Int):Option (aO×vO):=match f with
|0=>none
|n+1=>(cond (decide (aG<(vK.store.Items.length:Int)))
(cond (decide (0<aG))
(chk (wE.length+1<=maxLen)
(chk (0<=aG/\aG<(vK.store.Items.length:Int))
(chk ((wE.length+1)+((vK.store.Items.getD aG.toNat default).Name).length<=maxLen)
(G.kY.L1 n vK ((wE++[32])++(vK.store.Items.getD aG.toNat default).Name) (af .i64 (aG+1))))))
(chk (0<=aG/\aG<(vK.store.Items.length:Int))
(chk (wE.length+((vK.store.Items.getD aG.toNat default).Name).length<=maxLen)
(G.kY.L1 n vK (wE++(vK.store.Items.getD aG.toNat default).Name) (af .i64 (aG+1))))))
(some (wE,vK)))
def G.kY (f:Nat)(vK:vO):Option (aO×vO):=match f with
|0=>none
|n+1=>(G.kY.L1 n vK [] 0)
def G.tq.L1 (f:Nat)(aA:StoreT)(UJ:Int)(aG:Int):Option (Int):=match f with
|0=>none
|n+1=>(cond (decide (aG<(aA.Items.length:Int)))
(chk (0<=aG/\aG<(aA.Items.length:Int))
(chk (0<=aG/\aG<(aA.Items.length:Int))
((G.dW n ((aA.Items.getD aG.toNat default).Node)).bind λv3=>(G.tq.L1 n aA (af .i64 ((af .i64 (UJ+(((aA.Items.getD aG.toNat default).Name).length:Int)))+(v3.length:Int))) (af .i64 (aG+1))))))
(some (UJ)))
def G.tq (f:Nat)(aA:StoreT):Option (Int):=match f with
|0=>none
|n+1=>(G.tq.L1 n aA 0 0)
def G.rJ (f:Nat)(vK:vO)(xe:aO):Option (aO×vO):=match f with
|0=>none
|n+1=>(cond (xe==[108,105,115,116])
((G.kY n vK).bind λv1=>(some (v1.1,v1.2)))
(cond (xe==[99,108,111,99,107])
((G.jP n vK.store.Clock).bind λv2=>(some (v2,vK)))
(cond (xe==[115,105,122,101])
((G.tq n vK.store).bind λv3=>((G.jP n v3).bind λv4=>(some (v4,vK))))
(cond (xe==[107,101,101,112])
((G.fE n vK.store).bind λv5=>(some ([111,107],(vO.mk vK.store v5))))
(cond (xe==[98,97,99,107])
((G.fE n vK.mark).bind λv6=>(some ([111,107],(vO.mk v6 vK.mark))))
((G.fG n xe).bind λv7=>(cond v7.2
((G.nR n vK v7.1).bind λv8=>(some (v8.1,v8.2)))
(some ([119,104,97,116],vK)))))))))
def G.jW.L1 (f:Nat)(rC:List aO)(wE:aO)(aG:Int)(y5:List bG)(y6:Int)(y7:List bG)(y8:Int):Option (aO):=match f with
|0=>none
|n+1=>(cond (decide (aG<(rC.length:Int)))
(cond (decide (aG<20))
(chk (0<=aG/\aG<(rC.length:Int))
((G.rJ n (vO.mk (StoreT.mk y5 y6) (StoreT.mk y7 y8)) (rC.getD aG.toNat default)).bind λv3=>(chk (wE.length+v3.1.length<=maxLen)
(chk ((wE.length+v3.1.length)+1<=maxLen)
(G.jW.L1 n rC ((wE++v3.1)++[10]) (af .i64 (aG+1)) v3.2.store.Items v3.2.store.Clock v3.2.mark.Items v3.2.mark.Clock)))))
(some (wE)))
(some (wE)))
def G.jW (f:Nat)(rC:List aO):Option (aO):=match f with
|0=>none
|n+1=>(G.jW.L1 n rC [] 0 [] 0 [] 0)
def G.mY (f:Nat)(Dn:List aO):Option (Bool):=match f with
|0=>none
|n+1=>((G.kN n Dn 1048576).bind λv1=>(cond (decide (v1<0))
(some (true))
((G.kP n Dn).bind λv2=>((G.jW n v2).bind λv3=>((G.kP n Dn).bind λv4=>((G.iF n v4).bind λv5=>(cond (v5==v3)
((G.kP n Dn).bind λv6=>((G.lJ n v4 v6).bind λv7=>(cond v7
(some (true))
(some (false)))))
(some (false)))))))))
section
theorem aV {a b:Prop}(x:a)(y:b):a/\b:=⟨x,y⟩
theorem abX {α β:Type}(f:α->β)(l:List α)(n:Nat):List.take n (List.map f l)=List.map f (List.take n l):=List.map_take.symm
theorem abW {α β:Type}(f:α->β)(l:List α)(n:Nat):List.drop n (List.map f l)=List.map f (List.drop n l):=List.map_drop.symm
theorem kq1 {i:Int}{m:Nat}[inst:Decidable (0<=i/\i<(m:Int))]{α:Type}{k:Option α}{r:α}(h:chk (0<=i/\i<(m:Int)) k=some r):(0<=i/\i<(m:Int))/\i.toNat<m/\k=some r:=by obtain⟨h1,h2⟩:=yP.1 h;exact⟨h1,by omega,h2⟩
inductive Mk : Nat->Prop
 |mk (n:Nat):Mk n
theorem kq0 {m:Nat}[inst:Decidable ((0:Nat)<=0/\(0:Int)<(m:Int))]{α:Type}{k:Option α}{r:α}(h:chk ((0:Nat)<=0/\(0:Int)<(m:Int)) k=some r):(0:Int)<(m:Int)/\0<m/\k=some r:=by obtain⟨h1,h2⟩:=yP.1 h;exact⟨h1.2,by omega,h2⟩
theorem kqn {j m:Nat}[inst:Decidable ((0:Nat)<=OfNat.ofNat j/\(OfNat.ofNat j:Int)<(m:Int))]{α:Type}{k:Option α}{r:α}(h:chk ((0:Nat)<=OfNat.ofNat j/\(OfNat.ofNat j:Int)<(m:Int)) k=some r):(OfNat.ofNat j:Int)<(m:Int)/\(OfNat.ofNat j:Nat)<m/\k=some r:=by obtain⟨h1,h2⟩:=yP.1 h;exact⟨h1.2,Int.ofNat_lt.1 h1.2,h2⟩
theorem kq {c:Prop}[Decidable c]{α:Type}{k:Option α}{r:α}(h:chk c k=some r):c/\k=some r:=yP.1 h
theorem bq {α β:Type}{x:Option α}{f:α->Option β}{r:β}(h:Option.bind x f=some r):∃a,x=some a/\f a=some r:=Option.bind_eq_some_iff.1 h
section
variable {P:Program} {Q:AQ} {st:iy}
theorem abG {f:FuncId}{uZ:List AV}{p:Bool}{d:Option Nat}{K:List Nat->List Nat->iy->Prop}{du:DU K}(k:vI P f uZ p d st K du):vI P f uZ p d st K du:=k
theorem abH {a:AQ->iy->Prop}{d1:DU a}{d2:DU Q}(k:Ho a Q st d1 d2):Ho a Q st d1 d2:=k
theorem aeI {a b:AQ->iy->Prop}{d1:DU a}{d2:DU b}{d3:DU Q}(k:Lc a b Q st d1 d2 d3):Lc a b Q st d1 d2 d3:=k
theorem agn {X:Type}{p:X->Prop}(k:∃x,p x):∃x,p x:=k
theorem aeK {rs:List Ba}{r:AV}(k:OB rs r st):OB rs r st:=k
theorem aeL {rs:List Ba}{m:Nat}{post:AV->List Box->Prop}(k:JU rs m post st):JU rs m post st:=k
end
theorem sq {α:Type}{x r:α}(h:some x=some r):r=x:=(Option.some.inj h).symm
theorem cq {b:Bool}{α:Type}{x y:Option α}{r:α}(h:cond b x y=some r):(b=true/\x=some r)\/(b=false/\y=some r):=Zf.1 h
def egD :=aV @aax (aV @acZ (aV @aaw (aV @ac1 (aV @acY (aV @aav (aV @X3 (aV @aau (aV @ac0 (aV @aat (aV @adM (aV @adL (aV @YW (aV @YV (aV @YX (aV @YT (aV @YS (aV @YU (aV @WI (aV @WH (aV @WJ (aV @adv (aV @adw (aV @adt (aV @adu (aV @X4 (aV @Wu (aV @ac2 (aV @aaz (aV @aeW (aV @afX (aV @afW (aV @aeY (aV @adz (aV @aaU (aV @YY (aV @aaT (aV @KN.eq_1 (aV @KN.eq_2 (aV @DL.eq_1 (aV @DL.eq_2 (aV @st0.eq_1 (aV @CV.eq_1 (aV @CV.eq_2 (aV @uI.eq_1 (aV @uI.eq_2 (aV @nH.valid.eq_1 (aV @nH.valid.eq_2 (aV @eu.eq_1 (aV @agX (aV @agW (aV @g_v (aV @x_v (aV @Ip (aV @ET (aV @afz (aV @aea (aV @ad9 (aV @BA.eq_1 (aV @BA.eq_2 (aV @su.eq_1 (aV @su.eq_2 (aV @VJ.eq_1 (aV @VJ.eq_2 (aV @setB.eq_1 (aV @setB.eq_2 (aV @ZZ (aV @Z4 (aV @aah (aV @XQ (aV @FR.ok.eq_1 (aV @OD.eq_1 (aV @OD.eq_2 (aV @OD.eq_3 (aV @AV.flat.eq_1 (aV @AV.flat.eq_2 (aV @AV.cells.eq_1 (aV @AV.cells.eq_2 (aV @AV.cells.eq_3 (aV @zD.eq_1 (aV @zD.eq_2 (aV @zD.eq_3 (aV @zD.eq_4 (aV @Uh.eq_1 (aV @P7.eq_1 (aV @P7.eq_2 (aV @splice.eq_1 (aV @Box.arr.eq_1 (aV @Box.arr.eq_2 (aV @Box.arr.eq_3 (aV @dataOf.eq_1 (aV @dataOf.eq_2 (aV @dataOf.eq_3 (aV @dataOf.eq_4 (aV @Io.eq_1 (aV @Io.eq_2 (aV @bnd.eq_1 (aV @bnd.eq_2 (aV @Ou.eq_1 (aV @Ou.eq_2 (aV @abR (aV @abQ (aV @Ie.eq_1 (aV @wR.eq_1 (aV @yz.eq_1 (aV @vSl.eq_1 (aV @CB.eq_1 (aV @CB.eq_2 (aV @CB.eq_3 (aV @ER.eq_1 (aV @ER.eq_2 (aV @ER.eq_3 (aV @yG.eq_1 (aV @yG.eq_2 (aV @yG.eq_3 (aV @zi.eq_1 (aV @zi.eq_2 (aV @zi.eq_3 (aV @AV.owns.eq_1 (aV @AV.owns.eq_2 (aV @AV.owns.eq_3 (aV @o8.eq_1 (aV @o8.eq_2 (aV @o8.eq_3 (aV @AC.xx.eq_1 (aV @AC.xx.eq_2 (aV @AC.xx.eq_3 (aV @AC.isLit.eq_1 (aV @AC.isLit.eq_2 (aV @AV.all.eq_1 (aV @AV.all.eq_2 (aV @AV.all.eq_3 (aV @Cell.isLit.eq_1 (aV @Cell.isLit.eq_2 (aV @List.mem_cons.{0} (aV @List.not_mem_nil.{0} (aV @or_false (aV @false_or (aV @or_true (aV @true_or (aV @forall_eq.{1} (aV @forall_eq_or_imp.{1} (aV @true_and (aV @and_true (aV @true_implies (aV @false_implies (aV @implies_true.{1} (aV @if_true.{1} (aV @if_false.{1} (aV @Bool.false_eq_true (aV @Bool.true_eq_false (aV @imp_self (aV @and_self (aV @cond_true.{1} (aV @cond_false.{1} (aV @List.map_cons.{0,0} (aV @List.map_nil.{0,0} (aV @List.take_succ_cons.{0} (aV @List.take_zero.{0} (aV @List.drop_succ_cons.{0} (aV @List.drop_zero.{0} (aV @List.take_nil.{0} (aV @List.drop_nil.{0} (aV @List.cons_append.{0} (aV @List.nil_append.{0} (aV @List.append_nil.{0} (aV @List.length_cons.{0} (aV @List.length_nil.{0} (aV @List.getElem?_cons_zero.{0} (aV @List.getElem?_cons_succ.{0} (aV @List.length_map.{0,0} (aV @List.length_replicate.{0} (aV @List.length_append.{0} (aV @List.map_append.{0,0} (aV @List.flatMap_cons.{0,0} (aV @List.flatMap_nil.{0,0} (aV @List.all_cons.{0} (aV @List.all_nil.{0} (aV @List.contains_cons.{0} (aV @List.contains_nil.{0} (aV @Bool.and_true (aV @Bool.or_false (aV @Bool.false_or (aV @Bool.true_or (aV @Bool.or_true (aV @Bool.and_self (aV @Bool.not_false (aV @Bool.not_true (aV @Bool.true_and (aV @Bool.false_and (aV @Bool.and_false (aV @Nat.zero_lt_succ (aV @Nat.zero_le (aV @Nat.zero_add (aV @Nat.le_refl (aV @Nat.min_self (aV @agT (aV @agS (aV @decide_true (aV @decide_false (aV @U5.eq_1 (aV @U5.eq_2 (aV @Ux.eq_1 (aV @Ux.eq_2 (aV @Q7.eq_1 (aV @Q7.eq_2 (aV @Q7.eq_3 (aV @Lp.eq_1 (aV @Lp.eq_2 (aV @Hu.eq_1 (aV @Hu.eq_2 (aV @LU.eq_1 (aV @LU.eq_2 (aV @Uf.eq_1 (aV @DK.eq_1 (aV @DK.eq_2 (aV @DK.eq_3 (aV @cI.eq_1 (aV @cU.eq_1 (aV @cB.eq_1 (aV @cS.eq_1 (aV @cL.eq_1 (aV @cK.eq_1 (aV @aj.fD (aV @oh.fD (aV @StoreT.fD (aV @bG.fD (aV @RequestT.fD (aV @gy.fD (aV @zQ.fD (aV @bf.fD (aV @mg.fD (aV @dG.fD (aV @vO.fD (aV @List.getD_cons_zero.{0} (aV @List.getD_cons_succ.{0} (aV @List.map_set.{0,0} (aV @List.length_set.{0} (aV @Zp (aV @take_len (aV @JI (aV @JJ (aV @Yx (aV @Qc.eq_1 (aV @Qc.eq_2 (aV @abk (aV @Gi.eq_1 (aV @Gi.eq_2 (aV @WW (aV @AB (aV @U9 (aV @Va (aV @Option.map_some.{0,0} (aV @Int.toNat_natCast (aV @Int.toNat_zero (aV @abX (aV @abW (aV @bne_self_eq_false.{0} (aV @Bool.bne_true (aV @Bool.bne_false (aV @List.drop_replicate.{0} (aV @Nat.sub_self (aV @Gg.eq_1 (aV @Gg.eq_2 (aV @Gg.eq_3 (aV @Option.toList_none.{0} (aV @Option.toList_some.{0} (aV @TN.eq_1 (aV @uQ.eq_1 (aV @uQ.eq_2 (aV @AO.eq_1 (aV @AO.eq_2 (aV @eq_self.{1} (aV @List.replicate_zero.{0} (aV @List.replicate_succ.{0} (aV @LD.eq_1 (aV @LD.eq_2 (aV @yQ.eq_1 (aV @yQ.eq_2 (aV @List.set_cons_zero.{0} (aV @List.set_cons_succ.{0} (aV @ae9 (aV @Dh.eq_1 (aV @Dh.eq_2 (aV @DJ.eq_1 (aV @DJ.eq_2 (aV @DJ.eq_3 (aV @List.zip_cons_cons.{0,0} (aV @List.zip_nil_right.{0,0} (aV @List.zip_nil_left.{0,0} (aV @beq_self_eq_true.{0} @Nat.add_zero))))))))))))))))))))))))))))))))))))))))))))))))))))))))))))))))))))))))))))))))))))))))))))))))))))))))))))))))))))))))))))))))))))))))))))))))))))))))))))))))))))))))))))))))))))))))))))))))))))))))))))))))))))))))))))))))))))))))))))))))))))))))))))))))))))))))))))))))))))))))))))))))))
theorem egR : type_of% egD:=egD
def wkD :=aV @QU.eq_1 (aV @QU.eq_2 (aV @Wq.eq_1 (aV @Wq.eq_2 (aV @Ru.eq_1 (aV @Ru.eq_2 (aV @Ru.eq_3 (aV @YK.eq_1 (aV @YK.eq_2 (aV @YK.eq_3 (aV @YK.eq_4 (aV @KO.eq_1 (aV @KO.eq_2 (aV @KO.eq_3 (aV @Q4.eq_1 (aV @Q4.eq_2 (aV @BA.eq_1 (aV @BA.eq_2 (aV @su.eq_1 (aV @su.eq_2 (aV @true_and (aV @and_true (aV @implies_true.{1} (aV @List.mem_cons.{0} (aV @List.not_mem_nil.{0} (aV @or_false (aV @or_true (aV @true_or (aV @Box.arr.eq_1 (aV @Box.arr.eq_2 (aV @Box.arr.eq_3 (aV @Ie.eq_1 (aV @wR.eq_1 (aV @yz.eq_1 (aV @vSl.eq_1 (aV @not_false_eq_true (aV @false_or (aV @Option.some.injEq.{0} (aV @true_implies (aV @cI.eq_1 (aV @cU.eq_1 (aV @cB.eq_1 (aV @cS.eq_1 (aV @cL.eq_1 (aV @cK.eq_1 (aV @aj.fD (aV @oh.fD (aV @StoreT.fD (aV @bG.fD (aV @RequestT.fD (aV @gy.fD (aV @zQ.fD (aV @bf.fD (aV @mg.fD (aV @dG.fD (aV @vO.fD (aV @List.map_append.{0,0} (aV @List.map_cons.{0,0} (aV @List.map_nil.{0,0} (aV @List.map_set.{0,0} (aV @List.map_take.{0,0} (aV @List.map_drop.{0,0} (aV @List.map_replicate.{0,0} (aV @List.length_append.{0} (aV @List.length_cons.{0} (aV @List.length_nil.{0} (aV @List.length_map.{0,0} (aV @List.length_set.{0} (aV @List.length_replicate.{0} (aV @Nat.zero_add (aV @Nat.add_zero (aV @List.nil_append.{0} (aV @List.cons_append.{0} (aV @List.append_nil.{0} (aV @take_len (aV @JI (aV @JJ @and_self))))))))))))))))))))))))))))))))))))))))))))))))))))))))))))))))))))))))))))
theorem wkR : type_of% wkD:=wkD
def peD :=aV @OB.eq_1 (aV @FH.eq_1 (aV @FH.eq_2 (aV @Ba.ok.eq_1 (aV @Ba.ok.eq_2 (aV @Ba.val.eq_1 (aV @Ba.val.eq_2 (aV @Rj.eq_1 (aV @Rj.eq_2 (aV @zV.eq_1 (aV @zV.eq_2 (aV @partOf.eq_1 (aV @partOf.eq_2 (aV @partOf.eq_3 (aV @Ip (aV @ET (aV @KF (aV @g_v (aV @x_v (aV @AV.flat.eq_1 (aV @AV.flat.eq_2 (aV @zD.eq_1 (aV @zD.eq_2 (aV @zD.eq_3 (aV @zD.eq_4 (aV @BA.eq_1 (aV @BA.eq_2 (aV @su.eq_1 (aV @su.eq_2 (aV @dV.eq_1 (aV @dV.eq_2 (aV @dV.eq_3 (aV @dV.eq_4 (aV @dC.eq_1 (aV @dC.eq_2 (aV @dC.eq_3 (aV @dC.eq_4 (aV @dCs.eq_1 (aV @dCs.eq_2 (aV @dCs.eq_3 (aV @dPs.eq_1 (aV @dPs.eq_2 (aV @dPs.eq_3 (aV @Box.arr.eq_1 (aV @Box.arr.eq_2 (aV @Box.arr.eq_3 (aV @List.take_succ_cons.{0} (aV @List.take_zero.{0} (aV @List.drop_zero.{0} (aV @List.drop_succ_cons.{0} (aV @List.length_cons.{0} (aV @List.length_nil.{0} (aV @List.getElem?_cons_zero.{0} (aV @List.getElem?_cons_succ.{0} (aV @true_and (aV @and_true (aV @Nat.zero_add (aV @wR.eq_1 (aV @yz.eq_1 (aV @Ie.eq_1 (aV @vSl.eq_1 (aV @FR.ok.eq_1 (aV @cI.eq_1 (aV @cU.eq_1 (aV @cB.eq_1 (aV @cS.eq_1 (aV @cL.eq_1 (aV @cK.eq_1 (aV @aj.fD (aV @oh.fD (aV @StoreT.fD (aV @bG.fD (aV @RequestT.fD (aV @gy.fD (aV @zQ.fD (aV @bf.fD (aV @mg.fD (aV @dG.fD (aV @vO.fD (aV @List.map_append.{0,0} (aV @List.map_cons.{0,0} (aV @List.map_nil.{0,0} (aV @List.map_set.{0,0} (aV @List.map_take.{0,0} (aV @List.map_drop.{0,0} (aV @List.map_replicate.{0,0} (aV @List.length_append.{0} (aV @List.length_map.{0,0} (aV @List.length_set.{0} (aV @List.length_replicate.{0} (aV @Nat.add_zero (aV @List.nil_append.{0} (aV @List.cons_append.{0} (aV @List.append_nil.{0} (aV @take_len (aV @JI (aV @JJ (aV @and_self @AB)))))))))))))))))))))))))))))))))))))))))))))))))))))))))))))))))))))))))))))))))))))))))))))))))
theorem peR : type_of% peD:=peD
def rwD :=aV @QU.eq_1 (aV @QU.eq_2 (aV @Wq.eq_1 (aV @Wq.eq_2 (aV @Ru.eq_1 (aV @Ru.eq_2 (aV @Ru.eq_3 (aV @YK.eq_1 (aV @YK.eq_2 (aV @YK.eq_3 (aV @YK.eq_4 (aV @KO.eq_1 (aV @KO.eq_2 (aV @KO.eq_3 (aV @Q4.eq_1 (aV @Q4.eq_2 (aV @BA.eq_1 (aV @BA.eq_2 (aV @su.eq_1 (aV @su.eq_2 (aV @true_and (aV @and_true (aV @implies_true.{1} (aV @List.mem_cons.{0} (aV @List.not_mem_nil.{0} (aV @or_false (aV @or_true (aV @true_or (aV @Box.arr.eq_1 (aV @Box.arr.eq_2 (aV @Box.arr.eq_3 (aV @Ie.eq_1 (aV @wR.eq_1 (aV @yz.eq_1 (aV @vSl.eq_1 (aV @not_false_eq_true (aV @false_or (aV @Option.some.injEq.{0} (aV @true_implies (aV @cI.eq_1 (aV @cU.eq_1 (aV @cB.eq_1 (aV @cS.eq_1 (aV @cL.eq_1 (aV @cK.eq_1 (aV @aj.fD (aV @oh.fD (aV @StoreT.fD (aV @bG.fD (aV @RequestT.fD (aV @gy.fD (aV @zQ.fD (aV @bf.fD (aV @mg.fD (aV @dG.fD (aV @vO.fD (aV @List.map_append.{0,0} (aV @List.map_cons.{0,0} (aV @List.map_nil.{0,0} (aV @List.map_set.{0,0} (aV @List.map_take.{0,0} (aV @List.map_drop.{0,0} (aV @List.map_replicate.{0,0} (aV @List.length_append.{0} (aV @List.length_cons.{0} (aV @List.length_nil.{0} (aV @List.length_map.{0,0} (aV @List.length_set.{0} (aV @List.length_replicate.{0} (aV @Nat.zero_add (aV @Nat.add_zero (aV @List.nil_append.{0} (aV @List.cons_append.{0} (aV @List.append_nil.{0} (aV @take_len (aV @JI (aV @JJ (aV @and_self (aV @DL.eq_1 (aV @DL.eq_2 (aV @Rt.eq_1 (aV @Rt.eq_2 (aV @Rt.eq_3 (aV @OB.eq_1 (aV @FH.eq_1 (aV @FH.eq_2 (aV @Ba.ok.eq_1 (aV @Ba.ok.eq_2 (aV @Ba.val.eq_1 (aV @Ba.val.eq_2 (aV @Rj.eq_1 (aV @Rj.eq_2 (aV @zV.eq_1 (aV @zV.eq_2 (aV @partOf.eq_1 (aV @partOf.eq_2 (aV @partOf.eq_3 (aV @Ip (aV @ET (aV @KF (aV @g_v (aV @x_v (aV @AV.flat.eq_1 (aV @AV.flat.eq_2 (aV @zD.eq_1 (aV @zD.eq_2 (aV @zD.eq_3 (aV @zD.eq_4 (aV @dV.eq_1 (aV @dV.eq_2 (aV @dV.eq_3 (aV @dV.eq_4 (aV @dC.eq_1 (aV @dC.eq_2 (aV @dC.eq_3 (aV @dC.eq_4 (aV @dCs.eq_1 (aV @dCs.eq_2 (aV @dCs.eq_3 (aV @dPs.eq_1 (aV @dPs.eq_2 (aV @dPs.eq_3 (aV @List.take_succ_cons.{0} (aV @List.take_zero.{0} (aV @List.drop_zero.{0} (aV @List.drop_succ_cons.{0} (aV @List.getElem?_cons_zero.{0} (aV @List.getElem?_cons_succ.{0} (aV @FR.ok.eq_1 @AB))))))))))))))))))))))))))))))))))))))))))))))))))))))))))))))))))))))))))))))))))))))))))))))))))))))))))))))))))))))))))))))))
theorem rwR : type_of% rwD:=rwD
def lnD :=aV @CB.eq_1 (aV @CB.eq_2 (aV @CB.eq_3 (aV @ER.eq_1 (aV @ER.eq_2 (aV @ER.eq_3 (aV @yG.eq_1 (aV @yG.eq_2 (aV @yG.eq_3 (aV @zi.eq_1 (aV @zi.eq_2 (aV @zi.eq_3 (aV @ET (aV @su.eq_1 (aV @su.eq_2 (aV @Box.arr.eq_1 (aV @Box.arr.eq_2 (aV @Box.arr.eq_3 (aV @AV.cells.eq_1 (aV @AV.cells.eq_2 (aV @AV.cells.eq_3 (aV @List.map_cons.{0,0} (aV @List.map_nil.{0,0} (aV @List.length_map.{0,0} (aV @List.length_append.{0} (aV @List.length_cons.{0} (aV @List.length_nil.{0} (aV @List.length_replicate.{0} (aV @List.length_set.{0} (aV @take_len (aV @JI (aV @JJ (aV @true_and (aV @and_true (aV @and_self (aV @Nat.le_refl (aV @Nat.zero_add (aV @Nat.add_zero (aV @wR.eq_1 (aV @yz.eq_1 (aV @Ie.eq_1 (aV @vSl.eq_1 (aV @cI.eq_1 (aV @cU.eq_1 (aV @cB.eq_1 (aV @cS.eq_1 (aV @cL.eq_1 (aV @cK.eq_1 (aV @List.map_append.{0,0} (aV @List.cons_append.{0} (aV @List.nil_append.{0} (aV @aj.fD (aV @oh.fD (aV @StoreT.fD (aV @bG.fD (aV @RequestT.fD (aV @gy.fD (aV @zQ.fD (aV @bf.fD (aV @mg.fD (aV @dG.fD @vO.fD))))))))))))))))))))))))))))))))))))))))))))))))))))))))))))
theorem lnR : type_of% lnD:=lnD
def ggD :=aV @Rn.eq_1 (aV @Rn.eq_2 (aV @Rh.eq_1 (aV @Rh.eq_2 (aV @ET (aV @su.eq_1 (aV @su.eq_2 (aV @Dh.eq_1 (aV @Dh.eq_2 (aV @List.getD_cons_zero.{0} (aV @List.getD_cons_succ.{0} (aV @List.cons_append.{0} (aV @List.nil_append.{0} (aV @List.append_nil.{0} (aV @List.map_cons.{0,0} (aV @List.map_nil.{0,0} (aV @List.map_append.{0,0} (aV @List.map_set.{0,0} (aV @List.length_append.{0} (aV @List.length_cons.{0} (aV @List.length_nil.{0} (aV @List.length_map.{0,0} (aV @List.length_set.{0} (aV @List.length_replicate.{0} (aV @List.replicate_zero.{0} (aV @List.replicate_succ.{0} (aV @List.map_replicate.{0,0} (aV @Nat.zero_add (aV @Nat.add_zero (aV @DJ.eq_1 (aV @DJ.eq_2 (aV @DJ.eq_3 (aV @and_self (aV @and_true (aV @true_and (aV @cI.eq_1 (aV @cU.eq_1 (aV @cB.eq_1 (aV @cS.eq_1 (aV @cL.eq_1 (aV @cK.eq_1 (aV @aj.fD (aV @oh.fD (aV @StoreT.fD (aV @bG.fD (aV @RequestT.fD (aV @gy.fD (aV @zQ.fD (aV @bf.fD (aV @mg.fD (aV @dG.fD @vO.fD))))))))))))))))))))))))))))))))))))))))))))))))))
theorem ggR : type_of% ggD:=ggD
def ghD :=aV @Rn.eq_1 (aV @Rn.eq_2 (aV @Rh.eq_1 (aV @Rh.eq_2 (aV @ET (aV @su.eq_1 (aV @su.eq_2 (aV @Dh.eq_1 (aV @Dh.eq_2 (aV @List.getD_cons_zero.{0} (aV @List.getD_cons_succ.{0} (aV @List.cons_append.{0} (aV @List.nil_append.{0} (aV @List.append_nil.{0} (aV @List.map_cons.{0,0} (aV @List.map_nil.{0,0} (aV @List.map_append.{0,0} (aV @List.map_set.{0,0} (aV @List.length_append.{0} (aV @List.length_cons.{0} (aV @List.length_nil.{0} (aV @List.length_map.{0,0} (aV @List.length_set.{0} (aV @List.length_replicate.{0} (aV @List.replicate_zero.{0} (aV @List.replicate_succ.{0} (aV @List.map_replicate.{0,0} (aV @Nat.zero_add (aV @Nat.add_zero (aV @DJ.eq_1 (aV @DJ.eq_2 (aV @DJ.eq_3 (aV @and_self (aV @and_true (aV @true_and (aV @cI.eq_1 (aV @cU.eq_1 (aV @cB.eq_1 (aV @cS.eq_1 (aV @cL.eq_1 (aV @cK.eq_1 (aV @aj.fD (aV @oh.fD (aV @StoreT.fD (aV @bG.fD (aV @RequestT.fD (aV @gy.fD (aV @zQ.fD (aV @bf.fD (aV @mg.fD (aV @dG.fD (aV @vO.fD (aV @Yx (aV @Qc.eq_1 (aV @Qc.eq_2 (aV @Gi.eq_1 (aV @Gi.eq_2 (aV @List.flatMap_cons.{0,0} (aV @List.flatMap_nil.{0,0} (aV @AV.owns.eq_1 (aV @AV.owns.eq_2 (aV @AV.owns.eq_3 (aV @o8.eq_1 (aV @o8.eq_2 (aV @o8.eq_3 (aV @List.contains_cons.{0} (aV @List.contains_nil.{0} (aV @Bool.or_false (aV @Bool.or_true (aV @Bool.false_or (aV @if_true.{1} (aV @if_false.{1} (aV @Bool.false_eq_true (aV @CB.eq_1 (aV @CB.eq_2 (aV @CB.eq_3 (aV @ER.eq_1 (aV @ER.eq_2 (aV @ER.eq_3 (aV @yG.eq_1 (aV @yG.eq_2 (aV @yG.eq_3 (aV @zi.eq_1 (aV @zi.eq_2 (aV @zi.eq_3 (aV @Box.arr.eq_1 (aV @Box.arr.eq_2 (aV @Box.arr.eq_3 (aV @AV.cells.eq_1 (aV @AV.cells.eq_2 (aV @AV.cells.eq_3 (aV @Nat.le_refl (aV @take_len (aV @JI (aV @JJ (aV @wR.eq_1 (aV @yz.eq_1 (aV @Ie.eq_1 @vSl.eq_1)))))))))))))))))))))))))))))))))))))))))))))))))))))))))))))))))))))))))))))))))))))))))))))))))
theorem ghR : type_of% ghD:=ghD
end
section
abbrev zN : List AC:=[.c (.lit (.int .i64 0)),.c (.lit (.int .i64 0)),.c (.str []),.jC 1,.jC 5]
abbrev wI (z:Int):AC:=.c (.lit (.int .i64 z))
abbrev wS (s:aO):AC:=.c (.str s)
abbrev wT (l:List aO):AC:=.c (.sl 1 (List.map cS l))
abbrev wK (l:List aj):AC:=.c (.sl 5 (List.map aj.cells l))
abbrev wN (x:aj):List AC:=[wI x.Kind,wI x.Num,wS x.Text,wT x.Names,wK x.Kids]
abbrev eP (a b:Nat):Nat×Slot:=(a,.v true (.one (.ptr b 0)))
abbrev eI (a:Nat)(z:Int):Nat×Slot:=(a,.v true (.one (wI z)))
abbrev eS (a:Nat)(z:aO):Nat×Slot:=(a,.v true (.one (wS z)))
abbrev eT (a:Nat)(z:List aO):Nat×Slot:=(a,.v true (.one (wT z)))
def pp {α:Sort _}{β:Sort _}(a:α)(b:β):PProd α β:=⟨a,b⟩
theorem ihL {n:Nat}{A B:Nat->Prop}(h:∀m,m<n->A m/\B m):∀m,m<n->A m:=λm hm=>(h m hm).1
theorem ihR {n:Nat}{A B:Nat->Prop}(h:∀m,m<n->A m/\B m):∀m,m<n->B m:=λm hm=>(h m hm).2
theorem dH (zs:List Nat)(pi:List (Nat×Nat))(vs:List Nat){m:Nat}{ts0 ts:List (Nat×Slot)}{Fg bs:List (Nat×Box)}(hk:NR m Fg bs pi vs=true)
 (hb:QU zs (su Fg) (Q4 pi) vs bs) (ht:Wq zs (su Fg) (Q4 pi) vs ts0 ts):JL m (iy.of ts0 Fg) (iy.of ts bs):=aep zs pi vs hk hb ht
theorem yc (zs:List Nat)(pi:List (Nat×Nat))(vs:List Nat){rs:List Ba}{ts:List (Nat×Slot)}{Fg:List (Nat×Box)}{m:Nat}{r:AV}{bs:List Box}(hk:NR m Fg (DL bs 0) pi vs=true)
 (hok:FH (iy.of ts Fg) rs) (hb:QU zs (su Fg) (Q4 pi) vs (DL bs 0)) (hv:YK zs (su Fg) (Q4 pi) vs (Rj (iy.of ts Fg) rs) r) :
 JU rs m (λr1 b1=>r1=r/\b1=bs) (iy.of ts Fg):=N7 zs pi vs hk hok hb hv
section
variable {P:Program} {f:FuncId} {uZ:List AV} {d:Option Nat} {st:iy} {K:List Nat->List Nat->iy->Prop} {du:DU K} {Q:AQ}
theorem cG (sg nu:List Nat){P:Program}{f:FuncId}{uZ:List AV}{d:Option Nat}{st:iy}{K:List Nat->List Nat->iy->Prop}{du:DU K}{ds:List AV}{fp Fg:List Box}{r0:AV}(h:lD P f ds fp (λr bs=>r=r0/\bs=Fg))(hl:sg.length=fp.length)(hn:nodupB (sg++nu)=true)(hf:Rn st (sg++nu) fp 0)(hv:Rh st nu)
 (hra:(ds.all λx=>x.all (AC.vM fp.length))=true) (hrf:fp.all (Box.vM fp.length)=true) (ha:uZ=ds.map (DJ λb=>(sg++nu).getD b 0)) (hb:Fg.length=(sg++nu).length)
 (k:K (sg++nu) (sg++nu) ((st.sS ((sg++nu).zip (Fg.map (Dh λb=>(sg++nu).getD b 0)))).zU d (.v true (DJ (λb=>(sg++nu).getD b 0) r0)))):vI P f uZ true d st K du:=af0 sg nu h hl hn hf hv hra hrf ha hb k
theorem cH (sg nu:List Nat){P:Program}{f:FuncId}{uZ:List AV}{d:Option Nat}{st:iy}{K:List Nat->List Nat->iy->Prop}{du:DU K}{ds:List AV}{fp Fg:List Box}{r0:AV}(h:lD P f ds fp (λr bs=>r=r0/\bs=Fg))(he:uZ.map (CB st.bx)=ds.map (DJ λb=>(sg++nu).getD b 0))(hlo:yG st.bx uZ)
 (hl:sg.length=fp.length) (hn:nodupB (sg++nu)=true) (hf:Rn (st.EP (uZ.flatMap AV.owns)) (sg++nu) fp 0) (hv:Rh st nu)
 (hra:(ds.all λx=>x.all (AC.vM fp.length))=true) (hrf:fp.all (Box.vM fp.length)=true) (hb:Fg.length=(sg++nu).length)
 (k:K (uZ.flatMap AV.owns++(sg++nu)) (uZ.flatMap AV.owns++(sg++nu)) (((st.EP (uZ.flatMap AV.owns)).sS ((sg++nu).zip (Fg.map (Dh λb=>(sg++nu).getD b 0)))).zU d (.v true (DJ (λb=>(sg++nu).getD b 0) r0)))):vI P f uZ true d st K du:=af1 sg nu h he hlo hl hn hf hv hra hrf hb k
theorem zh (X:Type)(R:Type)(g:Nat->X->Option R)(r:R)(S:X->iy)(N:Nat){P:Program}{st:iy}{Q:AQ}{a b:bW}{d1:DU (wpC P a)}{d2:DU (wpC P b)}{d3:DU Q}
 (h1:BC P a (xq.then (λst'=>∃x m,(g m x=some r/\m<=N)/\JL 10 st' (S x)) Q) st .mk .mk) (h2:∀n x,n<=N->g n x=some r->BC P b Q (S x) .mk .mk):Lc (wpC P a) (wpC P b) Q st d1 d2 d3:=by
 refine agV (X:=X×Nat) (λp=>g p.2 p.1=some r/\p.2<=N) (λp=>S p.1) (wpC_mono (λe st h=>?_) h1) (λp hp=>h2 p.2 p.1 hp.2 hp.1);cases e with
 |normal=>obtain⟨x,m,h,hw⟩:=h;exact⟨(x,m),h,hw⟩
 |_=>exact h
theorem qY (X:Type)(R:Type)(g:Nat->X->Option R)(r:R)(S:X->iy)(N:Nat){P:Program}{st:iy}{Q:AQ}{a:bW}{d1:DU (wpC P a)}{d2:DU Q}(h0:∃x m,(g m x=some r/\m<=N)/\JL 10 st (S x))
 (h:∀n x,n<=N->g n x=some r->BC P a (xq.then (λst'=>∃x' m,(g m x'=some r/\m<=N/\m<n)/\JL 10 st' (S x')) Q) (S x) .mk .mk):Ho (wpC P a) Q st d1 d2:=by
 obtain⟨x,m,h0,hw⟩:=h0;refine agr (X:=X×Nat) (λp=>g p.2 p.1=some r/\p.2<=N) (λp=>S p.1) (λp=>p.2) (x,m) h0 hw (λp hp=>wpC_mono (λe st h=>?_) (h p.2 p.1 hp.2 hp.1));cases e with
 |normal=>obtain⟨x,m,h,hw⟩:=h;exact⟨(x,m),⟨⟨h.1,h.2.1⟩,h.2.2⟩,hw⟩
 |_=>exact h
end
theorem Nl {p:Prop}(x:p:=by simp -dsimp only[wkR,Wl,IB,reduceIte,Nat.reduceEqDiff,reduceCtorEq]<;>simp[List.take_of_length_le]<;>fail):p:=x
theorem tPE {p:Prop}(x:p:=by(simp -dsimp only[peR,reduceIte,Nat.reduceEqDiff,Nat.reduceAdd,Nat.reduceLeDiff,reduceCtorEq]<;>first|(simp[List.take_of_length_le];done)|((try simp only[List.map_take,List.map_drop,List.map_append,List.map_cons,List.map_nil])<;>(repeat' apply And.intro)<;>first|rfl|(simp;done)|(simp<;>omega;done)|(congr 1;exact(List.take_of_length_le (by simp<;>omega)).symm)))):p:=x
theorem tRE {p:Prop}(x:p:=by(simp -dsimp only[rwR,Wl,IB,reduceIte,Nat.reduceEqDiff,reduceCtorEq,Nat.reduceAdd,Nat.reduceLeDiff]<;>first|(simp[List.take_of_length_le];done)|((try simp only[List.map_take,List.map_drop,List.map_append,List.map_cons,List.map_nil])<;>(repeat' apply And.intro)<;>first|rfl|(simp;done)|(simp<;>omega;done)|(congr 1;exact(List.take_of_length_le (by simp<;>omega)).symm)))):p:=x
theorem tLN {p:Prop}(x:p:=by(simp only[lnR,reduceIte,Nat.reduceEqDiff]<;>omega)):p:=x
theorem tGG {p:Prop}(x:p:=by(simp only[ggR,ED,reduceIte,Nat.reduceEqDiff,Nat.reduceLeDiff,Nat.reduceAdd]<;>omega)):p:=x
theorem tGR {p:Prop}(x:p:=by first|rfl|(simp only[ggR,ED,reduceIte,Nat.reduceEqDiff,Nat.reduceLeDiff,Nat.reduceAdd]<;>omega)):p:=x
theorem tGH {p:Prop}(x:p:=by(simp only[ghR,ED,reduceIte,Nat.reduceEqDiff,Nat.reduceLeDiff,Nat.reduceAdd,Nat.reduceBEq]<;>omega)):p:=x
theorem MV {p:Prop}(x:p:=by((try simp only[Prod.exists]);(first|refine⟨_,_,⟨h,?_⟩,?_⟩|refine⟨_,_,_,⟨h,?_⟩,?_⟩|refine⟨_,_,_,_,⟨h,?_⟩,?_⟩|refine⟨_,_,_,_,_,⟨h,?_⟩,?_⟩|refine⟨_,_,_,_,_,_,⟨h,?_⟩,?_⟩|refine⟨_,_,_,_,_,_,_,⟨h,?_⟩,?_⟩|refine⟨_,_,_,_,_,_,_,_,⟨h,?_⟩,?_⟩|refine⟨_,_,_,_,_,_,_,_,_,⟨h,?_⟩,?_⟩|refine⟨_,_,_,_,_,_,_,_,_,_,⟨h,?_⟩,?_⟩|refine⟨_,_,_,_,_,_,_,_,_,_,_,⟨h,?_⟩,?_⟩|refine⟨_,_,_,_,_,_,_,_,_,_,_,_,⟨h,?_⟩,?_⟩|refine⟨_,_,_,_,_,_,_,_,_,_,_,_,_,⟨h,?_⟩,?_⟩|refine⟨_,_,_,_,_,_,_,_,_,_,_,_,_,_,⟨h,?_⟩,?_⟩|refine⟨_,_,_,_,_,_,_,_,_,_,_,_,_,_,_,⟨h,?_⟩,?_⟩|refine⟨_,_,_,_,_,_,_,_,_,_,_,_,_,_,_,_,⟨h,?_⟩,?_⟩|refine⟨_,_,_,_,_,_,_,_,_,_,_,_,_,_,_,_,_,⟨h,?_⟩,?_⟩|refine⟨_,_,_,_,_,_,_,_,_,_,_,_,_,_,_,_,_,_,⟨h,?_⟩,?_⟩|refine⟨_,_,_,_,_,_,_,_,_,_,_,_,_,_,_,_,_,_,_,⟨h,?_⟩,?_⟩|refine⟨_,_,_,_,_,_,_,_,_,_,_,_,_,_,_,_,_,_,_,_,⟨h,?_⟩,?_⟩|refine⟨_,_,_,_,_,_,_,_,_,_,_,_,_,_,_,_,_,_,_,_,_,⟨h,?_⟩,?_⟩|refine⟨_,_,_,_,_,_,_,_,_,_,_,_,_,_,_,_,_,_,_,_,_,_,⟨h,?_⟩,?_⟩|refine⟨_,_,_,_,_,_,_,_,_,_,_,_,_,_,_,_,_,_,_,_,_,_,_,⟨h,?_⟩,?_⟩|refine⟨_,_,_,_,_,_,_,_,_,_,_,_,_,_,_,_,_,_,_,_,_,_,_,_,⟨h,?_⟩,?_⟩|refine⟨(),_,⟨h,?_⟩,?_⟩);(focus omega);first|exact zj.1 (by rfl) Nl Nl|exact zj.2.1 (by rfl) Nl Nl|exact zj.2.2.1 (by rfl) Nl Nl|exact zj.2.2.2.1 (by rfl) Nl Nl|exact zj.2.2.2.2.1 (by rfl) Nl Nl|exact zj.2.2.2.2.2.1 (by rfl) Nl Nl|exact zj.2.2.2.2.2.2.1 (by rfl) Nl Nl|exact zj.2.2.2.2.2.2.2.1 (by rfl) Nl Nl|exact zj.2.2.2.2.2.2.2.2.1 (by rfl) Nl Nl|exact zj.2.2.2.2.2.2.2.2.2.1 (by rfl) Nl Nl|exact zj.2.2.2.2.2.2.2.2.2.2.1 (by rfl) Nl Nl|exact zj.2.2.2.2.2.2.2.2.2.2.2.1 (by rfl) Nl Nl|exact zj.2.2.2.2.2.2.2.2.2.2.2.2.1 (by rfl) Nl Nl|exact zj.2.2.2.2.2.2.2.2.2.2.2.2.2.1 (by rfl) Nl Nl)):p:=x
theorem rf {p:Prop}(x:p:=by
 obtain⟨zc,zg,zk,zu,ze,zj,zt⟩:=z
 try simp only[wN,wI,wS,wT,wK,zN,eP,eI,eS,eT]at zc zk zu zt zj⊢
 repeat' first
 |(clear h;(with_reducible intro n x hn h);rcases n with _|n<;>simp only[ze.1,reduceCtorEq]at h)
 |(simp only[reduceCtorEq]at h;done)
 |((with_reducible replace h:=kq0 h);obtain⟨_,_,h⟩:=h)
 |((with_reducible replace h:=kqn h);obtain⟨_,_,h⟩:=h)
 |((with_reducible replace h:=kq1 h);obtain⟨_,_,h⟩:=h)
 |((with_reducible replace h:=kq h);obtain⟨_,h⟩:=h)
 |((with_reducible replace h:=sq h);subst h;have h:=True.intro)
 | (try simp -dsimp only[egR,nH.oV,nH.f,nH.rd,Dc,zn,lvl,xW,reduceIte,Nat.reduceEqDiff,Nat.reduceAdd,Nat.reduceLeDiff,Nat.reduceBEq,reduceCtorEq,Int.reduceBNe,Int.reduceBEq,Int.reduceLT,Int.reduceLE,Int.reduceNeg,Nat.reduceLT,Dj,Int.reduceToNat,ED, *]
    repeat((with_reducible refine And.intro ?_ ?_);focus first|(show zF _ _ _ _=true;kernel_rfl)|(show zT _ _=true;kernel_rfl)|omega|assumption|(show _<=maxLen;decide))
    first
    |with_reducible refine aez ?_
    |((with_reducible refine aeI ?_);with_reducible refine zu.1 n ?_ ?_)
    |((with_reducible refine abH ?_);first|((with_reducible refine zk.1 n ?_ ?_);(focus exact MV))|((with_reducible refine zk.2.1 n ?_ ?_);(focus exact MV))|((with_reducible refine zk.2.2.1 n ?_ ?_);(focus exact MV))|((with_reducible refine zk.2.2.2.1 n ?_ ?_);(focus exact MV))|((with_reducible refine zk.2.2.2.2.1 n ?_ ?_);(focus exact MV))|((with_reducible refine zk.2.2.2.2.2.1 n ?_ ?_);(focus exact MV)))
    |((with_reducible refine abG ?_);(with_reducible replace h:=bq h);obtain⟨_,hv,h⟩:=h;first|(have zd:=zc;(repeat(first|((first|with_reducible have hc:=zd.1 hv|with_reducible have hc:=zd.1 _ (by omega) hv);(first|refine aey (λ_=>hc) rfl rfl ?_|refine aeA hc rfl rfl ?_|refine aex hc tLN tLN rfl rfl ?_|refine aew hc tLN tLN rfl rfl ?_);clear zd)|with_reducible replace zd:=zd.2));(fail_if_success have zz:=zd))|(have zd:=zg;(repeat(first|((first|with_reducible have hc:=zd.1.1 hv|with_reducible have hc:=zd.1.1 _ (by omega) hv);(first|refine zd.1.2 hc rfl rfl tGG tGG rfl rfl tGR rfl ?_|refine zd.1.2 hc tGH tGH rfl rfl tGH tGH rfl rfl rfl ?_);clear zd)|with_reducible replace zd:=zd.2));(fail_if_success have zz:=zd)))
    |((with_reducible replace h:=cq h);rcases h with⟨c,h⟩|⟨c,h⟩<;>try(simp only[*,Bool.false_eq_true,reduceCtorEq]at c;done))
    |((with_reducible refine agn ?_);exact MV)
    |((with_reducible refine aeK ?_);exact tPE)
    |((with_reducible refine aeL ?_);have zd:=zt;(repeat(first|exact zd.1 (by rfl) tRE tRE tRE|with_reducible replace zd:=zd.2))<;>fail)
    |(cases h;done))):p:=x
theorem Vl {p:Prop}(x:p:=by
 obtain⟨zc,zg,zk,zu,ze,zj,zt,zq⟩:=z
 try simp only[wN,wI,wS,wT,wK,zN,eP,eI,eS,eT]at zc zk zu zt zj⊢
 repeat' first
 |(clear h;(with_reducible intro n x hn h);rcases n with _|n<;>simp only[ze.1,reduceCtorEq]at h)
 |(simp only[reduceCtorEq]at h;done)
 |((with_reducible replace h:=kq0 h);obtain⟨_,_,h⟩:=h)
 |((with_reducible replace h:=kqn h);obtain⟨_,_,h⟩:=h)
 |((with_reducible replace h:=kq1 h);obtain⟨_,_,h⟩:=h)
 |((with_reducible replace h:=kq h);obtain⟨_,h⟩:=h)
 |((with_reducible replace h:=sq h);subst h;have h:=True.intro)
 | (try simp -dsimp only[egR,nH.oV,nH.f,nH.rd,Dc,zn,lvl,xW,reduceIte,Nat.reduceEqDiff,Nat.reduceAdd,Nat.reduceLeDiff,Nat.reduceBEq,reduceCtorEq,Int.reduceBNe,Int.reduceBEq,Int.reduceLT,Int.reduceLE,Int.reduceNeg,Nat.reduceLT,Dj,Int.reduceToNat,ED, *]
    repeat((with_reducible refine And.intro ?_ ?_);focus first|(show zF _ _ _ _=true;kernel_rfl)|(show zT _ _=true;kernel_rfl)|omega|assumption|(show _<=maxLen;decide))
    first
    |with_reducible refine aez ?_
    |((with_reducible refine aeI ?_);first|(rename Mk 1=>tk;clear tk;have:True:=(by(first|rewrite [zq.1.1]at h|rewrite [zq.1.2.1]at h|rewrite [zq.1.2.2.1]at h|rewrite [zq.1.2.2.2.1]at h|rewrite [zq.1.2.2.2.2.1]at h|rewrite [zq.1.2.2.2.2.2.1]at h|rewrite [zq.1.2.2.2.2.2.2.1]at h|rewrite [zq.1.2.2.2.2.2.2.2.1]at h);exact True.intro);with_reducible refine zu.1 n ?_ ?_)|(rename Mk 2=>tk;clear tk;have:True:=(by(first|rewrite [zq.2.1.1]at h|rewrite [zq.2.1.2.1]at h|rewrite [zq.2.1.2.2.1]at h|rewrite [zq.2.1.2.2.2.1]at h|rewrite [zq.2.1.2.2.2.2.1]at h|rewrite [zq.2.1.2.2.2.2.2.1]at h|rewrite [zq.2.1.2.2.2.2.2.2.1]at h|rewrite [zq.2.1.2.2.2.2.2.2.2.1]at h);exact True.intro);with_reducible refine zu.2.1 n ?_ ?_)|(rename Mk 3=>tk;clear tk;have:True:=(by(first|rewrite [zq.2.2.1.1]at h|rewrite [zq.2.2.1.2.1]at h|rewrite [zq.2.2.1.2.2.1]at h|rewrite [zq.2.2.1.2.2.2.1]at h|rewrite [zq.2.2.1.2.2.2.2.1]at h|rewrite [zq.2.2.1.2.2.2.2.2.1]at h|rewrite [zq.2.2.1.2.2.2.2.2.2.1]at h|rewrite [zq.2.2.1.2.2.2.2.2.2.2.1]at h);exact True.intro);with_reducible refine zu.2.2.1 n ?_ ?_)|(rename Mk 4=>tk;clear tk;have:True:=(by(first|rewrite [zq.2.2.2.1.1]at h|rewrite [zq.2.2.2.1.2.1]at h|rewrite [zq.2.2.2.1.2.2.1]at h|rewrite [zq.2.2.2.1.2.2.2.1]at h|rewrite [zq.2.2.2.1.2.2.2.2.1]at h|rewrite [zq.2.2.2.1.2.2.2.2.2.1]at h|rewrite [zq.2.2.2.1.2.2.2.2.2.2.1]at h|rewrite [zq.2.2.2.1.2.2.2.2.2.2.2.1]at h);exact True.intro);with_reducible refine zu.2.2.2.1 n ?_ ?_)|(rename Mk 5=>tk;clear tk;have:True:=(by(first|rewrite [zq.2.2.2.2.1.1]at h|rewrite [zq.2.2.2.2.1.2.1]at h|rewrite [zq.2.2.2.2.1.2.2.1]at h|rewrite [zq.2.2.2.2.1.2.2.2.1]at h|rewrite [zq.2.2.2.2.1.2.2.2.2.1]at h|rewrite [zq.2.2.2.2.1.2.2.2.2.2.1]at h|rewrite [zq.2.2.2.2.1.2.2.2.2.2.2.1]at h|rewrite [zq.2.2.2.2.1.2.2.2.2.2.2.2.1]at h);exact True.intro);with_reducible refine zu.2.2.2.2.1 n ?_ ?_)|(rename Mk 6=>tk;clear tk;have:True:=(by(first|rewrite [zq.2.2.2.2.2.1.1]at h|rewrite [zq.2.2.2.2.2.1.2.1]at h|rewrite [zq.2.2.2.2.2.1.2.2.1]at h|rewrite [zq.2.2.2.2.2.1.2.2.2.1]at h|rewrite [zq.2.2.2.2.2.1.2.2.2.2.1]at h|rewrite [zq.2.2.2.2.2.1.2.2.2.2.2.1]at h|rewrite [zq.2.2.2.2.2.1.2.2.2.2.2.2.1]at h|rewrite [zq.2.2.2.2.2.1.2.2.2.2.2.2.2.1]at h);exact True.intro);with_reducible refine zu.2.2.2.2.2.1 n ?_ ?_))
    |((with_reducible refine abH ?_);first|((with_reducible refine zk.1 n ?_ ?_);(focus exact MV))|((with_reducible refine zk.2.1 n ?_ ?_);(focus exact MV))|((with_reducible refine zk.2.2.1 n ?_ ?_);(focus exact MV))|((with_reducible refine zk.2.2.2.1 n ?_ ?_);(focus exact MV))|((with_reducible refine zk.2.2.2.2.1 n ?_ ?_);(focus exact MV))|((with_reducible refine zk.2.2.2.2.2.1 n ?_ ?_);(focus exact MV)))
    |((with_reducible refine abG ?_);(with_reducible replace h:=bq h);obtain⟨_,hv,h⟩:=h;first|(have zd:=zc;(repeat(first|((first|with_reducible have hc:=zd.1 hv|with_reducible have hc:=zd.1 _ (by omega) hv);(first|refine aey (λ_=>hc) rfl rfl ?_|refine aeA hc rfl rfl ?_|refine aex hc tLN tLN rfl rfl ?_|refine aew hc tLN tLN rfl rfl ?_);clear zd)|with_reducible replace zd:=zd.2));(fail_if_success have zz:=zd))|(have zd:=zg;(repeat(first|((first|with_reducible have hc:=zd.1.1 hv|with_reducible have hc:=zd.1.1 _ (by omega) hv);(first|refine zd.1.2 hc rfl rfl tGG tGG rfl rfl tGR rfl ?_|refine zd.1.2 hc tGH tGH rfl rfl tGH tGH rfl rfl rfl ?_);clear zd)|with_reducible replace zd:=zd.2));(fail_if_success have zz:=zd)))
    |((with_reducible replace h:=cq h);rcases h with⟨c,h⟩|⟨c,h⟩<;>try(simp only[*,Bool.false_eq_true,reduceCtorEq]at c;done))
    |((with_reducible refine agn ?_);exact MV)
    |((with_reducible refine aeK ?_);exact tPE)
    |((with_reducible refine aeL ?_);have zd:=zt;(repeat(first|exact zd.1 (by rfl) tRE tRE tRE|with_reducible replace zd:=zd.2))<;>fail)
    |(cases h;done))):p:=x
end
abbrev zA (d:Nat)(x:nH):mQ:=⟨none,some d,.op x⟩
abbrev zM (d s:Nat):mQ:=⟨none,some d,.op (.mv (.t s))⟩
abbrev zS (x:nH):mQ:=⟨none,none,.op x⟩
abbrev zG (g:Nat)(b:Bool)(d:Nat)(x:nH):mQ:=⟨some (g,b),some d,.op x⟩
noncomputable abbrev pZ : Program:=Go.Proofs.Tryz.prog
abbrev kI (n:Int):oW:=.k (.c (.lit (.int .i64 n)))
abbrev kB (b:Bool):oW:=.k (.c (.lit (.bool b)))
abbrev lN (n:Int):AC:=.c (.lit (.int .i64 n))
abbrev qF (d k a:Nat):mQ:=zA d (.load false k (.t a))
abbrev qT (d k a:Nat):mQ:=zA d (.load true k (.t a))
abbrev qS (k a b:Nat):mQ:=zS (.store true k (.t a) (.t b))
abbrev qU (k a b:Nat):mQ:=zS (.store false k (.t a) (.t b))
abbrev qA (d k a:Nat):mQ:=zA d (.jZ k (.t a))
abbrev qX (d k a:Nat):mQ:=zA d (.box k (.t a))
abbrev qB (d:Nat)(b:Bool):mQ:=zA d (.mv (kB b))
abbrev qI (d:Nat)(n:Int):mQ:=zA d (.mv (kI n))
abbrev qL (d a:Nat):mQ:=zA d (.len (.t a))
abbrev qO (d a:Nat):mQ:=zA d (.not (.t a))
abbrev qE (d a k:Nat):mQ:=zA d (.extract (.t a) k)
abbrev qP (d a b:Nat):mQ:=zA d (.pick (.t a) (.t b) (kB false))
abbrev qQ (d a b:Nat):mQ:=zA d (.pick (.t a) (kB true) (.t b))
abbrev qN (d a:Nat):mQ:=zA d (.ES (.t a))
abbrev qD (d k a b:Nat):mQ:=zA d (.vN k (.t a) (.t b))
abbrev qZ (d k:Nat):mQ:=zA d (.alloc k zN)
abbrev q1 (d f a:Nat):mQ:=⟨none,some d,.call f [.t a]⟩
abbrev q2 (d f a b:Nat):mQ:=⟨none,some d,.call f [.t a,.t b]⟩
abbrev q3 (d f a b c:Nat):mQ:=⟨none,some d,.call f [.t a,.t b,.t c]⟩
abbrev qb (d:Nat)(o:BinOp)(a b:Nat):mQ:=zA d (.bin o (.t a) (.t b))
abbrev qk (d:Nat)(o:BinOp)(a:Nat)(n:Int):mQ:=zA d (.bin o (.t a) (kI n))
abbrev ql (d a:Nat):mQ:=zA d (.lens (.t a))
abbrev qm (g:Nat)(b:Bool)(d a:Nat):mQ:=zG g b d (.mv (.t a))
abbrev qc (a:Nat)(x y:bW):bW:=.cond (.t a) x y
abbrev qs (l:List mQ)(m:List Nat)(x:bW):bW:=.seq (.reg l m) x
abbrev qr (l:List mQ)(m:List Nat):bW:=.seq (.reg l m) .ret
def C.ins (sz cb gr:Nat)(z:List Cell):bW:=(qs [zA 6 (.mv (.k (.jC sz)))] [0,1,2] (qs [zM 10 0,zM 11 1,zA 12 (.yM sz (.t 10) (some (.t 11)) none)] [0,1,2] (qs [zM 13 2,qL 14 13,zM 7 14] [0,1,2,7] (.seq (qs [zM 15 7,qk 16 .eql 15 0] [0,1,2,7,16] (qc 16 (qr [zM 17 0,zM 6 17] [6]) .skip)) (qs [zM 18 0,qL 19 18,zM 8 19] [0,1,2,7,8] (.seq (qs [zM 20 1,zM 21 8,qb 22 .eql 20 21] [0,1,2,7,8,22] (qc 22 (qr [zM 23 0,zM 24 2,zA 25 (.V7 10 sz cb (.t 23) (.t 24)),zM 6 25] [6]) .skip)) (.seq (qs [zM 26 8,zM 27 7,qb 28 .add 26 27,zM 29 0,zA 30 (.Za (.t 29)),qb 31 .gtr 28 30] [0,1,2,7,8,31] (qc 31 (qs [zM 32 0,zM 33 1,zA 34 (.yM sz (.t 32) none (some (.t 33))),zM 35 8,zM 36 7,qb 37 .add 35 36,zM 38 1,qb 39 .sub 37 38,zA 40 (.WN 11 sz cb z (.t 34) (.t 39)),zM 9 40] [0,1,2,7,9] (qs [zM 41 9,zM 42 1,zA 43 (.yM sz (.t 41) (some (.t 42)) none),zM 44 2,zA 45 (.Qz sz (.t 43) (.t 44))] [0,1,7,9] (.seq (.qj [(zM 46 9,[]),(zM 47 1,[]),(zM 48 7,[]),(qb 49 .add 47 48,[1,2]),(zA 50 (.yM sz (.t 46) (some (.t 49)) none),[0,1,2,3]),(zM 51 0,[]),(zM 52 1,[]),(zA 53 (.yM sz (.t 51) (some (.t 52)) none),[5,6]),(zA 54 (.Qz sz (.t 50) (.t 53)),[0,1,2,3,4,5,6,7])] [9]) (qr [zM 55 9,zM 6 55] [6])))) .skip)) (qs [zM 56 0,zM 57 8,zM 58 7,qb 59 .add 57 58,zA 60 (.yM sz (.t 56) none (some (.t 59))),zM 0 60] [0,1,2,7,8] (.seq (qs [zM 61 2,zM 62 0,zM 63 1,zM 64 7,qb 65 .add 63 64,zA 66 (.yM sz (.t 62) (some (.t 65)) none),zA 67 (.ovl (.t 61) (.t 66)),qO 68 67] [0,1,2,7,8,68] (qc 68 (.seq (.qj [(zM 69 0,[]),(zM 70 1,[]),(zM 71 7,[]),(qb 72 .add 70 71,[1,2]),(zA 73 (.yM sz (.t 69) (some (.t 72)) none),[0,1,2,3]),(zM 74 0,[]),(zM 75 1,[]),(zA 76 (.yM sz (.t 74) (some (.t 75)) none),[5,6]),(zA 77 (.Qz sz (.t 73) (.t 76)),[0,1,2,3,4,5,6,7])] [0,1,2]) (qs [zM 78 0,zM 79 1,zA 80 (.yM sz (.t 78) (some (.t 79)) none),zM 81 2,zA 82 (.Qz sz (.t 80) (.t 81))] [0] (qr [zM 83 0,zM 6 83] [6]))) .skip)) (qs [zM 84 0,zM 85 8,zA 86 (.yM sz (.t 84) (some (.t 85)) none),zM 87 2,zA 88 (.Qz sz (.t 86) (.t 87))] [0,1,7] (qs [zM 89 0,zM 90 1,zA 91 (.yM sz (.t 89) (some (.t 90)) none),zM 92 7,⟨none,some 93,.call gr [.t 91,.t 92]⟩] [0] (qr [zM 94 0,zM 6 94] [6]))))))))))))
def C.del (sz cb:Nat)(z:List Cell):bW:=(qs [zA 6 (.mv (.k (.jC sz)))] [0,1,2] (qs [zM 8 0,zM 9 1,zM 10 2,zM 11 0,qL 12 11,zA 13 (.sl3 sz (.t 8) (.t 9) (.t 10) (.t 12))] [0,1,2] (.seq (qs [zM 14 1,zM 15 2,qb 16 .eql 14 15] [0,1,2,16] (qc 16 (qr [zM 17 0,zM 6 17] [6]) .skip)) (qs [zM 18 0,qL 19 18,zM 7 19] [0,1,2,7] (.seq (.qj [(zM 20 0,[]),(zM 21 1,[]),(zA 22 (.yM sz (.t 20) none (some (.t 21))),[0,1]),(zM 23 0,[]),(zM 24 2,[]),(zA 25 (.yM sz (.t 23) (some (.t 24)) none),[3,4]),(zA 26 (.V7 10 sz cb (.t 22) (.t 25)),[0,1,2,3,4,5]),(zM 0 26,[0,1,2,3,4,5,6])] [0,7]) (qs [zM 27 0,zM 28 0,qL 29 28,zM 30 7,zA 31 (.yM sz (.t 27) (some (.t 29)) (some (.t 30))),zS (.XP sz z (.t 31))] [0] (qr [zM 32 0,zM 6 32] [6])))))))
def C.cmp_isNaN_int : bW:=(qs [qB 2 false] [0] (qr [zM 3 0,zM 4 0,qb 5 .neq 3 4,zM 2 5] [2]))
theorem K.cmp_isNaN_int : iR pZ 254 1 0 C.cmp_isNaN_int [.tmp 2]=true:=by kernel_rfl
def C.cmp_Compare_int : bW:=(qs [qI 4 0] [0,1] (qs [zM 7 0,q1 8 254 7,zM 5 8] [0,1,5] (qs [zM 9 1,q1 10 254 9,zM 6 10] [0,1,5,6] (.seq (qs [zM 11 5] [0,1,6,11] (qc 11 (.seq (qs [zM 12 6] [12] (qc 12 (qr [qI 4 0] [4]) .skip)) (qr [qI 4 (-1)] [4])) .skip)) (.seq (qs [zM 13 6] [0,1,13] (qc 13 (qr [qI 4 1] [4]) .skip)) (.seq (qs [zM 14 0,zM 15 1,qb 16 .lss 14 15] [0,1,16] (qc 16 (qr [qI 4 (-1)] [4]) .skip)) (.seq (qs [zM 17 0,zM 18 1,qb 19 .gtr 17 18] [19] (qc 19 (qr [qI 4 1] [4]) .skip)) (qr [qI 4 0] [4]))))))))
theorem K.cmp_Compare_int : iR pZ 251 2 0 C.cmp_Compare_int [.tmp 4]=true:=by kernel_rfl
def C.cmp_isNaN_string : bW:=(qs [qB 2 false] [0] (qr [zM 3 0,zM 4 0,qb 5 .neq 3 4,zM 2 5] [2]))
theorem K.cmp_isNaN_string : iR pZ 242 1 0 C.cmp_isNaN_string [.tmp 2]=true:=by kernel_rfl
def C.cmp_Less_string : bW:=(qs [qB 4 false] [0,1] (qr [zM 5 0,q1 6 242 5,zM 7 6,qm 7 true 8 1,⟨(some (7,true)),some 9,.call 242 [.t 8]⟩,zG 7 true 10 (.not (.t 9)),qP 11 7 10,zM 12 11,qm 12 false 13 0,qm 12 false 14 1,zG 12 false 15 (.bin .lss (.t 13) (.t 14)),qQ 16 12 15,zM 4 16] [4]))
theorem K.cmp_Less_string : iR pZ 227 2 0 C.cmp_Less_string [.tmp 4]=true:=by kernel_rfl
def C.aP : bW:=(qs [qX 1 10 0,qZ 2 11] [1,2] (qs [qA 6 0 1,qF 7 1 6,qA 8 1 1,qF 9 1 8,qA 10 2 1,qF 11 1 10,zA 12 (.build zN [(0,1,.t 7),(1,1,.t 9),(2,1,.t 11)]),qZ 3 12,qS 5 3 12] [1,2,3] (.cut (qs [qA 13 3 1,qF 14 1 13,qL 15 14,qk 16 .gtr 15 0] [1,2,3,16] (qc 16 (qs [qA 17 3 1,qF 18 1 17,qL 19 18,zA 20 (.makes 13 1 16 [.str []] (.t 19) (.t 19)),qA 21 3 3,qU 1 21 20] [1,2,3] (.reg [qA 22 3 3,qF 23 1 22,qA 24 3 1,qF 25 1 24,zA 26 (.copy 1 (.t 23) (.t 25))] [1,2,3])) .skip)) (.seq (qs [qA 27 4 1,qF 28 1 27,qL 29 28,qk 30 .gtr 29 0] [1,2,3,30] (qc 30 (qs [qA 31 4 1,qF 32 1 31,qL 33 32,zA 34 (.makes 14 5 80 [.lit (.int .i64 0),.lit (.int .i64 0),.str [],.sl 1 [],.sl 5 []] (.t 33) (.t 33)),qA 35 4 3,qU 1 35 34] [1,2,3] (qs [qA 36 4 1,qF 37 1 36,qL 38 37,qI 39 0] [2,3,37,38,39] (.block 0 (.loop (qs [qb 40 .lss 39 38] [2,3,37,38,39,40] (.seq (qc 40 .skip (.exit 0)) (.seq (.block 1 (qs [zM 41 39,qD 42 5 37 39,qT 43 5 42,qZ 5 15,zM 4 41,qS 5 5 43] [2,3,4,5,37,38,39] (.qj [(qA 44 4 3,[]),(qF 45 1 44,[0]),(zM 46 4,[]),(qT 47 5 5,[]),(q1 48 74 47,[3]),(qD 49 5 45 46,[0,1,2,3,4]),(qS 5 49 48,[0,1,2,3,4,5])] [2,3,37,38,39]))) (.reg [qk 50 .add 39 1,zM 39 50] [2,3,37,38,39])))))))) .skip)) (qr [qT 51 5 3,qS 5 2 51] [2])))))
theorem K.aP : iR pZ 74 1 0 C.aP [.cell 2 true 5]=true:=by kernel_rfl
def C.slices_isNaN_string : bW:=(qs [qB 2 false] [0] (qr [zM 3 0,zM 4 0,qb 5 .neq 3 4,zM 2 5] [2]))
theorem K.slices_isNaN_string : iR pZ 228 1 0 C.slices_isNaN_string [.tmp 2]=true:=by kernel_rfl
def C.slices_BinarySearch_string : bW:=(qs [qI 4 0,qB 5 false] [0,1] (qs [zM 10 0,qL 11 10,zM 6 11] [0,1,6] (qs [zM 12 6,qI 7 0,zM 8 12] [0,1,6,7,8] (.seq (.block 0 (.loop (.seq (qs [zM 13 7,zM 14 8,qb 15 .lss 13 14] [0,1,6,7,8,15] (qc 15 .skip (.exit 0))) (.block 1 (qs [zM 16 7,zM 17 8,qb 18 .add 16 17,zA 19 (.GH .u64 (.t 18)),zA 20 (.shf false (.t 19) (.k (.c (.lit (.int .u64 1))))),zA 21 (.GH .i64 (.t 20)),zM 9 21] [0,1,6,7,8,9] (qs [zM 22 0,zM 23 9,qD 24 1 22 23,qF 25 1 24,zM 26 1,q2 27 227 25 26] [0,1,6,7,8,9,27] (qc 27 (.reg [zM 28 9,qk 29 .add 28 1,zM 7 29] [0,1,6,7,8]) (.reg [zM 30 9,zM 8 30] [0,1,6,7,8])))))))) (qr [zM 31 7,zM 32 7,zM 33 6,qb 34 .lss 32 33,zM 35 34,qm 35 true 36 0,qm 35 true 37 7,zG 35 true 38 (.vN 1 (.t 36) (.t 37)),zG 35 true 39 (.load false 1 (.t 38)),qm 35 true 40 1,zG 35 true 41 (.bin .eql (.t 39) (.t 40)),qm 35 true 42 41,qm 42 false 43 0,qm 42 false 44 7,zG 42 false 45 (.vN 1 (.t 43) (.t 44)),zG 42 false 46 (.load false 1 (.t 45)),⟨(some (42,false)),some 47,.call 228 [.t 46]⟩,qm 42 false 48 47,qm 48 true 49 1,⟨(some (48,true)),some 50,.call 228 [.t 49]⟩,zG 42 false 51 (.pick (.t 48) (.t 50) (kB false)),zG 35 true 52 (.pick (.t 42) (kB true) (.t 51)),qP 53 35 52,zM 4 31,zM 5 53] [4,5])))))
theorem K.slices_BinarySearch_string : iR pZ 212 2 0 C.slices_BinarySearch_string [.tmp 4,.tmp 5]=true:=by kernel_rfl
def C.gQ : bW:=(qs [qX 2 10 0,qI 4 0,qB 5 false] [1,2] (.seq (qs [qA 7 0 2,qF 8 1 7] [1,2,8] (.block 0 (qs [qk 10 .eql 8 4,zM 9 10] [1,2,8,9] (qc 9 (qr [qA 11 3 2,qF 12 1 11,zM 13 1,q2 14 212 12 13,qE 15 14 0,qE 16 14 1,zM 4 15,zM 5 16] [4,5]) (qs [qk 18 .eql 8 3,zM 17 18] [1,2,17] (qc 17 (qs [qA 19 4 2,qF 20 1 19,qL 21 20,qI 22 0] [1,21,22] (.block 1 (.loop (qs [qb 23 .lss 22 21] [1,21,22,23] (.seq (qc 23 .skip (.exit 1)) (.seq (.block 2 (qs [zM 24 22,zM 6 24] [1,6,21,22] (qs [zM 25 6,q1 26 22 25,zM 27 1,qb 28 .eql 26 27] [1,6,21,22,28] (qc 28 (qr [zM 29 6,zM 4 29,qB 5 true] [4,5]) .skip)))) (.reg [qk 30 .add 22 1,zM 22 30] [1,21,22]))))))) .skip)))))) (qr [qI 4 0,qB 5 false] [4,5])))
theorem K.gQ : iR pZ 238 2 0 C.gQ [.tmp 4,.tmp 5]=true:=by kernel_rfl
def C.iW : bW:=C.ins 5 80 246 [.lit (.int .i64 0),.lit (.int .i64 0),.str [],.sl 1 [],.sl 5 []]
theorem K.iW : iR pZ 230 3 2 C.iW [.tmp 6]=true:=by kernel_rfl
def C.mG : bW:=C.ins 1 16 244 [.str []]
theorem K.mG : iR pZ 229 3 2 C.mG [.tmp 6]=true:=by kernel_rfl
def C.oL : bW:=(qs [qX 5 10 2] [0,1,5] (qs [zM 9 0,qN 10 9,qA 11 3 10,qF 12 1 11,zM 13 1,q2 14 212 12 13,zM 8 14,qE 15 8 0,qE 16 8 1,zM 6 15,zM 7 16] [0,1,5,6,7] (.seq (qs [zM 17 7] [0,1,5,6,17] (qc 17 (.seq (.qj [(zM 18 0,[]),(qN 19 18,[0]),(qA 20 4 19,[0,1]),(qF 21 1 20,[0,1,2]),(zM 22 6,[]),(qT 23 5 5,[]),(qD 24 5 21 22,[0,1,2,3,4,5]),(qS 5 24 23,[0,1,2,3,4,5,6])] []) .ret) .skip)) (qs [zM 25 0,zM 26 0,qN 27 26,qA 28 3 27,qF 29 1 28,zM 30 6,zM 31 1,zA 32 (.kT 11 1 1 [.str []] [(0,.t 31)]),q3 33 229 29 30 32,qN 34 25,qA 35 3 34,qU 1 35 33] [0,5,6] (.qj [(zM 36 0,[]),(zM 37 0,[]),(qN 38 37,[1]),(qA 39 4 38,[1,2]),(qF 40 1 39,[1,2,3]),(zM 41 6,[]),(qT 42 5 5,[]),(zA 43 (.kT 12 5 1 [.lit (.int .i64 0),.lit (.int .i64 0),.str [],.sl 1 [],.sl 5 []] [(0,.t 42)]),[6]),(q3 44 230 40 41 43,[1,2,3,4,5,6,7]),(qN 45 36,[0,1,2,3,4,5,6,7,8]),(qA 46 4 45,[0,1,2,3,4,5,6,7,8,9]),(qU 1 46 44,[0,1,2,3,4,5,6,7,8,9,10])] [])))))
theorem K.oL : iR pZ 213 3 3 C.oL []=true:=by kernel_rfl
def C.lu : bW:=(qs [qX 3 10 0,qX 5 11 2,qZ 6 12,qB 7 false] [1,3,5,6] (qs [qT 11 5 3,q1 12 74 11,qZ 8 13,qS 5 8 12] [1,3,5,6,8] (.seq (qs [qA 13 0 3,qF 14 1 13] [1,3,5,6,8,14] (.block 0 (qs [qk 16 .eql 14 4,zM 15 16] [1,3,5,6,8,14,15] (qc 15 (qs [zM 17 1,qT 18 5 5,q1 19 74 18,q3 20 213 8 17 19] [6,8] (qr [qT 21 5 8,qS 5 6 21,qB 7 true] [6,7])) (qs [qk 23 .eql 14 3,zM 22 23] [1,3,5,6,8,22] (qc 22 (qs [qT 25 5 3,zM 26 1,q2 27 238 25 26,zM 24 27,qE 28 24 0,qE 29 24 1,zM 9 28,zM 10 29] [1,3,5,6,8,9,10] (.cut (qs [zM 30 10,qO 31 30,zM 32 31,qm 32 true 33 1,zG 32 true 34 (.bin .eql (.t 33) (.k (.c (.str [45])))),qm 32 true 35 34,qm 35 false 36 1,zG 35 false 37 (.jZ 4 (.t 3)),zG 35 false 38 (.load false 1 (.t 37)),zG 35 false 39 (.len (.t 38)),⟨(some (35,false)),some 40,.call 22 [.t 39]⟩,zG 35 false 41 (.bin .eql (.t 36) (.t 40)),zG 32 true 42 (.pick (.t 35) (kB true) (.t 41)),qP 43 32 42] [3,5,6,8,9,10,43] (qc 43 (.reg [qA 44 4 3,qF 45 1 44,qL 46 45,zM 9 46,qB 10 true] [5,6,8,9,10]) .skip)) (.seq (qs [zM 47 10,qO 48 47] [5,6,8,9,48] (qc 48 (qr [zA 49 (.build zN []),qS 5 6 49,qB 7 false] [6,7]) .skip)) (.seq (.qj [(qA 50 4 8,[]),(qF 51 1 50,[0]),(zM 52 9,[]),(qT 53 5 5,[]),(q1 54 74 53,[3]),(zA 55 (.kT 14 5 1 [.lit (.int .i64 0),.lit (.int .i64 0),.str [],.sl 1 [],.sl 5 []] [(0,.t 54)]),[3,4]),(q3 56 230 51 52 55,[0,1,2,3,4,5]),(qA 57 4 8,[0,1,2,3,4,5,6]),(qU 1 57 56,[0,1,2,3,4,5,6,7])] [6,8]) (qr [qT 58 5 8,qS 5 6 58,qB 7 true] [6,7]))))) .skip)))))) (qr [zA 59 (.build zN []),qS 5 6 59,qB 7 false] [6,7]))))
theorem K.lu : iR pZ 236 3 0 C.lu [.cell 6 true 5,.tmp 7]=true:=by kernel_rfl
def C.sO : bW:=(qs [qX 4 10 0,qZ 5 11,qB 6 false] [1,2,3,4,5] (.seq (.qj [(qT 7 5 4,[]),(qF 8 1 1,[]),(qF 9 1 2,[]),(qD 10 1 8 9,[1,2]),(qF 11 1 10,[1,2,3]),(qT 12 5 3,[]),(q3 13 236 7 11 12,[0,1,2,3,4,5]),(qE 14 13 0,[0,1,2,3,4,5,6]),(qE 15 13 1,[0,1,2,3,4,5,6]),(qS 5 5 14,[0,1,2,3,4,5,6,7,8]),(zM 6 15,[0,1,2,3,4,5,6,7,8,9])] [5,6]) .ret))
theorem K.sO : iR pZ 235 4 3 C.sO [.cell 5 true 5,.tmp 6]=true:=by kernel_rfl
def C.gK : bW:=(qs [qB 2 false] [0] (.seq (qs [zM 4 0,ql 5 4,qk 6 .gtr 5 12] [0,6] (qc 6 (qr [qB 2 false] [2]) .skip)) (.seq (qs [qI 3 0] [0,3] (.block 0 (.loop (.seq (qs [zM 7 3,zM 8 0,ql 9 8,qb 10 .lss 7 9] [0,3,10] (qc 10 .skip (.exit 0))) (.seq (.block 1 (qs [zM 13 0,zM 14 3,zA 15 (.idxs (.t 13) (.t 14)),zA 16 (.bin .lss (.t 15) (.k (.c (.lit (.int .u8 32))))),zM 17 16,qm 17 false 18 0,qm 17 false 19 3,zG 17 false 20 (.idxs (.t 18) (.t 19)),zG 17 false 21 (.bin .gtr (.t 20) (.k (.c (.lit (.int .u8 126))))),qQ 22 17 21] [0,3,22] (qc 22 (qr [qB 2 false] [2]) .skip))) (.reg [zM 11 3,qk 12 .add 11 1,zM 3 12] [0,3])))))) (qr [qB 2 true] [2]))))
theorem K.gK : iR pZ 188 1 0 C.gK [.tmp 2]=true:=by kernel_rfl
def C.jQ : bW:=(qs [qB 2 false] [0] (.seq (qs [zM 5 0,qL 6 5,qk 7 .gtr 6 6] [0,7] (qc 7 (qr [qB 2 false] [2]) .skip)) (.seq (qs [zM 8 0,qL 9 8,qI 10 0] [0,8,9,10] (.block 0 (.loop (qs [qb 11 .lss 10 9] [0,8,9,10,11] (.seq (qc 11 .skip (.exit 0)) (.seq (.block 1 (qs [zM 12 10,qD 13 1 8 10,qF 14 1 13,zM 3 12,zM 4 14] [0,3,4,8,9,10] (qs [zM 15 4,q1 16 188 15,qO 17 16,zM 18 17,qm 18 false 19 3,zG 18 false 20 (.bin .gtr (.t 19) (kI 0)),qm 18 false 21 20,qm 21 true 22 0,qm 21 true 23 3,zG 21 true 24 (.bin .sub (.t 23) (kI 1)),zG 21 true 25 (.vN 1 (.t 22) (.t 24)),zG 21 true 26 (.load false 1 (.t 25)),qm 21 true 27 4,zG 21 true 28 (.bin .geq (.t 26) (.t 27)),zG 18 false 29 (.pick (.t 21) (.t 28) (kB false)),qQ 30 18 29] [0,8,9,10,30] (qc 30 (qr [qB 2 false] [2]) .skip)))) (.reg [qk 31 .add 10 1,zM 10 31] [0,8,9,10]))))))) (qr [qB 2 true] [2]))))
theorem K.jQ : iR pZ 189 1 0 C.jQ [.tmp 2]=true:=by kernel_rfl
def C.gW : bW:=(qs [qX 1 10 0,qB 2 false] [1] (.cut (qs [qA 3 0 1,qF 4 1 3,qk 5 .neq 4 1,zM 6 5,zG 6 true 7 (.jZ 1 (.t 1)),zG 6 true 8 (.load false 1 (.t 7)),zG 6 true 9 (.bin .neq (.t 8) (kI 0)),qP 10 6 9,zM 11 10,zG 11 false 12 (.jZ 0 (.t 1)),zG 11 false 13 (.load false 1 (.t 12)),zG 11 false 14 (.bin .neq (.t 13) (kI 2)),qm 11 false 15 14,zG 15 true 16 (.jZ 2 (.t 1)),zG 15 true 17 (.load false 1 (.t 16)),zG 15 true 18 (.bin .neq (.t 17) (.k (.c (.str [])))),zG 11 false 19 (.pick (.t 15) (.t 18) (kB false)),qQ 20 11 19] [1,20] (qc 20 (qr [qB 2 false] [2]) .skip)) (.seq (qs [qA 21 0 1,qF 22 1 21,qk 23 .neq 22 4,zM 24 23,zG 24 true 25 (.jZ 3 (.t 1)),zG 24 true 26 (.load false 1 (.t 25)),zG 24 true 27 (.len (.t 26)),zG 24 true 28 (.bin .gtr (.t 27) (kI 0)),qP 29 24 28] [1,29] (qc 29 (qr [qB 2 false] [2]) .skip)) (.seq (qs [qA 30 0 1,qF 31 1 30] [1,31] (.block 0 (qs [qk 33 .eql 31 0,zM 32 33] [1,31,32] (qc 32 (qr [qA 34 4 1,qF 35 1 34,qL 36 35,qk 37 .eql 36 0,zM 2 37] [2]) (qs [qk 39 .eql 31 1,zM 38 39] [1,31,38] (qc 38 (qr [qA 40 1 1,qF 41 1 40,qk 42 .geq 41 (-999999),zM 43 42,zG 43 true 44 (.jZ 1 (.t 1)),zG 43 true 45 (.load false 1 (.t 44)),zG 43 true 46 (.bin .leq (.t 45) (kI 999999)),qP 47 43 46,zM 48 47,zG 48 true 49 (.jZ 4 (.t 1)),zG 48 true 50 (.load false 1 (.t 49)),zG 48 true 51 (.len (.t 50)),zG 48 true 52 (.bin .eql (.t 51) (kI 0)),qP 53 48 52,zM 2 53] [2]) (qs [qk 55 .eql 31 2,zM 54 55] [1,31,54] (qc 54 (qr [qA 56 2 1,qF 57 1 56,q1 58 188 57,zM 59 58,zG 59 true 60 (.jZ 4 (.t 1)),zG 59 true 61 (.load false 1 (.t 60)),zG 59 true 62 (.len (.t 61)),zG 59 true 63 (.bin .eql (.t 62) (kI 0)),qP 64 59 63,zM 2 64] [2]) (qs [qk 66 .eql 31 3,zM 65 66] [1,31,65] (qc 65 (qr [qA 67 4 1,qF 68 1 67,qL 69 68,qk 70 .leq 69 6,zM 2 70] [2]) (qs [qk 72 .eql 31 4,zM 71 72] [1,71] (qc 71 (qr [qA 73 3 1,qF 74 1 73,q1 75 189 74,zM 76 75,zG 76 true 77 (.jZ 4 (.t 1)),zG 76 true 78 (.load false 1 (.t 77)),zG 76 true 79 (.len (.t 78)),zG 76 true 80 (.jZ 3 (.t 1)),zG 76 true 81 (.load false 1 (.t 80)),zG 76 true 82 (.len (.t 81)),zG 76 true 83 (.bin .eql (.t 79) (.t 82)),qP 84 76 83,zM 2 84] [2]) .skip)))))))))))) (qr [qB 2 false] [2])))))
theorem K.gW : iR pZ 158 1 0 C.gW [.tmp 2]=true:=by kernel_rfl
def C.fU : bW:=(qs [qX 2 10 0,qI 4 0,qI 5 0,qB 6 false] [1,2] (.seq (qs [zM 12 1,qk 13 .gtr 12 5,zM 14 13,zG 14 false 15 (.load true 5 (.t 2)),⟨(some (14,false)),some 16,.call 158 [.t 15]⟩,zG 14 false 17 (.not (.t 16)),qQ 18 14 17] [1,2,18] (qc 18 (qr [qI 4 0,qI 5 0,qB 6 false] [4,5,6]) .skip)) (qs [qI 4 1,qI 5 1] [1,2,4,5] (.seq (qs [qA 19 4 2,qF 20 1 19,qL 21 20,qI 22 0] [1,4,5,20,21,22] (.block 0 (.loop (qs [qb 23 .lss 22 21] [1,4,5,20,21,22,23] (.seq (qc 23 .skip (.exit 0)) (.seq (.block 1 (qs [qD 24 5 20 22,qT 25 5 24,qZ 8 11,qS 5 8 25] [1,4,5,8,20,21,22] (qs [qT 27 5 8,zM 28 1,qk 29 .add 28 1,q2 30 118 27 29,zM 26 30,qE 31 26 0,qE 32 26 1,qE 33 26 2,zM 9 31,zM 10 32,zM 11 33] [1,4,5,9,10,11,20,21,22] (.seq (qs [zM 34 11,qO 35 34] [1,4,5,9,10,20,21,22,35] (qc 35 (qr [qI 4 0,qI 5 0,qB 6 false] [4,5,6]) .skip)) (qs [zM 36 4,zM 37 9,qb 38 .add 36 37,zM 4 38] [1,4,5,10,20,21,22] (.reg [zM 39 5,zM 40 10,qk 41 .add 40 1,zA 42 (.max (.t 39) (.t 41)),zM 5 42] [1,4,5,20,21,22])))))) (.reg [qk 43 .add 22 1,zM 22 43] [1,4,5,20,21,22]))))))) (qr [zM 44 4,zM 45 5,zM 4 44,zM 5 45,qB 6 true] [4,5,6])))))
theorem K.fU : iR pZ 118 2 0 C.fU [.tmp 4,.tmp 5,.tmp 6]=true:=by kernel_rfl
def C.aX : bW:=(qs [qX 1 10 0,qB 2 false] [1] (qs [qT 7 5 1,⟨none,some 8,.call 118 [.t 7,kI 1]⟩,zM 6 8,qE 9 6 0,qE 10 6 1,qE 11 6 2,zM 3 9,zM 4 10,zM 5 11] [3,5] (qr [zM 12 5,zM 13 12,qm 13 true 14 3,zG 13 true 15 (.bin .leq (.t 14) (kI 40)),qP 16 13 15,zM 2 16] [2])))
theorem K.aX : iR pZ 72 1 0 C.aX [.tmp 2]=true:=by kernel_rfl
def C.A7 : bW:=(qs [qX 3 10 0,qZ 6 11,qB 7 false] [1,2,3,6] (.seq (qs [zM 12 1,qL 13 12,qk 14 .eql 13 0] [1,2,3,6,14] (qc 14 (qr [zM 15 2,qT 16 5 3,⟨none,some 17,.FX (.t 15) [.t 16]⟩,qE 18 17 0,qE 19 17 1,qS 5 6 18,zM 7 19] [6,7]) .skip)) (.seq (.qj [(qT 21 5 3,[]),(zM 22 1,[]),(zA 23 (.vN 1 (.t 22) (kI 0)),[1]),(qF 24 1 23,[1,2]),(q2 25 238 21 24,[0,1,2,3]),(zM 20 25,[0,1,2,3,4]),(qE 26 20 0,[0,1,2,3,4,5]),(qE 27 20 1,[0,1,2,3,4,5]),(zM 8 26,[0,1,2,3,4,5,6]),(zM 9 27,[0,1,2,3,4,5,6,7,8])] [1,2,3,6,8,9]) (.seq (qs [zM 28 9,qO 29 28] [1,2,3,6,8,29] (qc 29 (qr [zA 30 (.build zN []),qS 5 6 30,qB 7 false] [6,7]) .skip)) (.seq (.qj [(qA 32 4 3,[]),(qF 33 1 32,[0]),(zM 34 8,[]),(qD 35 5 33 34,[0,1,2]),(qT 36 5 35,[0,1,2,3]),(zM 37 1,[]),(zA 38 (.Fe 1 (.t 37) (some (kI 1)) none),[5]),(zM 39 2,[]),(q3 40 234 36 38 39,[0,1,2,3,4,5,6,7]),(zM 31 40,[0,1,2,3,4,5,6,7,8]),(qE 41 31 0,[0,1,2,3,4,5,6,7,8,9]),(qE 42 31 1,[0,1,2,3,4,5,6,7,8,9]),(qZ 10 12,[]),(qS 5 10 41,[0,1,2,3,4,5,6,7,8,9,10,12]),(zM 9 42,[0,1,2,3,4,5,6,7,8,9,10,11,12,13])] [3,6,8,9,10]) (.seq (qs [zM 43 9,qO 44 43] [3,6,8,10,44] (qc 44 (qr [zA 45 (.build zN []),qS 5 6 45,qB 7 false] [6,7]) .skip)) (qs [qT 46 5 3,q1 47 74 46,qZ 11 13,qS 5 11 47] [6,8,10,11] (qs [qA 48 4 11,qF 49 1 48,zM 50 8,qT 51 5 10,qD 52 5 49 50,qS 5 52 51] [6,11] (qr [qT 53 5 11,qS 5 6 53,qB 7 true] [6,7])))))))))
theorem K.jv : iR pZ 234 3 3 C.A7 [.cell 6 true 5,.tmp 7]=true:=by kernel_rfl
def C.mX : bW:=(qs [qX 2 10 0,qZ 4 11,qB 5 false] [1,2,4] (.seq (qs [zM 6 1,qO 7 6,zM 8 7,zG 8 false 9 (.load true 5 (.t 2)),⟨(some (8,false)),some 10,.call 72 [.t 9]⟩,zG 8 false 11 (.not (.t 10)),qQ 12 8 11] [2,4,12] (qc 12 (qr [zA 13 (.build zN []),qS 5 4 13,qB 5 false] [4,5]) .skip)) (qr [qT 14 5 2,qS 5 4 14,qB 5 true] [4,5])))
theorem K.mX : iR pZ 169 2 0 C.mX [.cell 4 true 5,.tmp 5]=true:=by kernel_rfl
def C.iI : bW:=(qs [qB 2 false] [0] (.seq (qs [zM 5 0,qL 6 5,qk 7 .gtr 6 5] [0,7] (qc 7 (qr [qB 2 false] [2]) .skip)) (.seq (qs [zM 8 0,qL 9 8,qI 10 0] [8,9,10] (.block 0 (.loop (qs [qb 11 .lss 10 9] [8,9,10,11] (.seq (qc 11 .skip (.exit 0)) (.seq (.block 1 (qs [qD 12 1 8 10,qF 13 1 12,zM 4 13] [4,8,9,10] (qs [zM 14 4,q1 15 188 14,qO 16 15] [8,9,10,16] (qc 16 (qr [qB 2 false] [2]) .skip)))) (.reg [qk 17 .add 10 1,zM 10 17] [8,9,10]))))))) (qr [qB 2 true] [2]))))
theorem K.iI : iR pZ 167 1 0 C.iI [.tmp 2]=true:=by kernel_rfl
def C.nX : bW:=(qs [qX 3 10 0,qX 4 11 1,qX 5 12 2,qZ 6 13,qB 7 false] [3,4,5,6] (.seq (qs [qT 9 5 3,q1 10 72 9,qO 11 10,zM 12 11,zG 12 false 13 (.load false 1 (.t 4)),⟨(some (12,false)),some 14,.call 167 [.t 13]⟩,zG 12 false 15 (.not (.t 14)),qQ 16 12 15,zM 17 16,zG 17 false 18 (.load true 5 (.t 5)),⟨(some (17,false)),some 19,.call 72 [.t 18]⟩,zG 17 false 20 (.not (.t 19)),qQ 21 17 20] [3,4,5,6,21] (qc 21 (qr [zA 22 (.build zN []),qS 5 6 22,qB 7 false] [6,7]) .skip)) (.seq (qs [qF 23 1 4,qL 24 23,qk 25 .eql 24 0] [3,4,5,6,25] (qc 25 (qr [qT 26 5 5,q1 27 74 26,qS 5 6 27,qB 7 true] [6,7]) .skip)) (qs [qF 28 1 4,qL 29 28,qk 30 .sub 29 1,zA 8 (.alloc 14 [lN 0]),qU 1 8 30] [3,4,5,6,8] (.seq (.qj [(qT 31 5 3,[]),(qF 32 1 4,[]),(qF 33 1 8,[]),(zA 34 (.Fe 1 (.t 32) none (some (.t 33))),[1,2]),(zA 35 (.Ua 235 [.t 4,.t 8,.t 5]),[]),(q3 36 234 31 34 35,[0,1,2,3,4]),(qE 37 36 0,[0,1,2,3,4,5]),(qE 38 36 1,[0,1,2,3,4,5]),(q2 39 169 37 38,[0,1,2,3,4,5,6,7]),(qE 40 39 0,[0,1,2,3,4,5,6,7,8]),(qE 41 39 1,[0,1,2,3,4,5,6,7,8]),(qS 5 6 40,[0,1,2,3,4,5,6,7,8,9,10]),(zM 7 41,[0,1,2,3,4,5,6,7,8,9,10,11])] [6,7]) .ret)))))
theorem K.nX : iR pZ 219 3 0 C.nX [.cell 6 true 5,.tmp 7]=true:=by kernel_rfl
def C.jR : bW:=(qs [qX 2 10 0,qZ 4 11,qB 5 false] [1,2,4] (.seq (qs [zM 10 1,qL 11 10,qI 12 0] [2,4,10,11,12] (.block 0 (.loop (qs [qb 13 .lss 12 11] [2,4,10,11,12,13] (.seq (qc 13 .skip (.exit 0)) (.seq (.block 1 (qs [qD 14 1 10 12,qF 15 1 14,zM 7 15] [2,4,7,10,11,12] (qs [qT 17 5 2,zM 18 7,q2 19 238 17 18,zM 16 19,qE 20 16 0,qE 21 16 1,zM 8 20,zM 9 21] [2,4,8,9,10,11,12] (.seq (qs [zM 22 9,qO 23 22] [2,4,8,10,11,12,23] (qc 23 (qr [zA 24 (.build zN []),qS 5 4 24,qB 5 false] [4,5]) .skip)) (.reg [qA 25 4 2,qF 26 1 25,zM 27 8,qD 28 5 26 27,qT 29 5 28,qS 5 2 29] [2,4,10,11,12]))))) (.reg [qk 30 .add 12 1,zM 12 30] [2,4,10,11,12]))))))) (qr [qT 31 5 2,qS 5 4 31,qB 5 true] [4,5])))
theorem K.jR : iR pZ 240 2 0 C.jR [.cell 4 true 5,.tmp 5]=true:=by kernel_rfl
def C.rZ : bW:=(qs [qX 2 10 0,qZ 4 11,qB 5 false] [1,2,4] (.seq (qs [qT 8 5 2,q1 9 72 8,qO 10 9,zM 11 10,qm 11 false 12 1,⟨(some (11,false)),some 13,.call 167 [.t 12]⟩,zG 11 false 14 (.not (.t 13)),qQ 15 11 14] [1,2,4,15] (qc 15 (qr [zA 16 (.build zN []),qS 5 4 16,qB 5 false] [4,5]) .skip)) (qs [qT 18 5 2,zM 19 1,q2 20 240 18 19,zM 17 20,qE 21 17 0,qE 22 17 1,qZ 6 12,qS 5 6 21,zM 7 22] [4,6,7] (.seq (qs [zM 23 7,qO 24 23] [4,6,24] (qc 24 (qr [zA 25 (.build zN []),qS 5 4 25,qB 5 false] [4,5]) .skip)) (qr [qT 26 5 6,q1 27 74 26,qS 5 4 27,qB 5 true] [4,5])))))
theorem K.rZ : iR pZ 223 2 0 C.rZ [.cell 4 true 5,.tmp 5]=true:=by kernel_rfl
def C.jH : bW:=C.del 5 80 [.lit (.int .i64 0),.lit (.int .i64 0),.str [],.sl 1 [],.sl 5 []]
theorem K.jH : iR pZ 226 3 1 C.jH [.tmp 6]=true:=by kernel_rfl
def C.slices_Delete_string : bW:=C.del 1 16 [.str []]
theorem K.slices_Delete_string : iR pZ 225 3 1 C.slices_Delete_string [.tmp 6]=true:=by kernel_rfl
def C.jf : bW:=(qs [qX 3 10 0,qZ 4 11,qB 5 false] [1,2,3,4] (.seq (.qj [(qT 10 5 3,[]),(qF 11 1 1,[]),(qF 12 1 2,[]),(qD 13 1 11 12,[1,2]),(qF 14 1 13,[1,2,3]),(q2 15 238 10 14,[0,1,2,3,4]),(zM 9 15,[0,1,2,3,4,5]),(qE 16 9 0,[0,1,2,3,4,5,6]),(qE 17 9 1,[0,1,2,3,4,5,6]),(zM 6 16,[0,1,2,3,4,5,6,7]),(zM 7 17,[0,1,2,3,4,5,6,7,8,9])] [3,4,6,7]) (.seq (qs [zM 18 7,qO 19 18] [3,4,6,19] (qc 19 (qr [zA 20 (.build zN []),qS 5 4 20,qB 5 false] [4,5]) .skip)) (qs [qT 21 5 3,q1 22 74 21,qZ 8 12,qS 5 8 22] [3,4,6,8] (.cut (qs [qA 23 0 3,qF 24 1 23,qk 25 .eql 24 4] [4,6,8,25] (qc 25 (.reg [qA 26 3 8,qF 27 1 26,zM 28 6,zM 29 6,qk 30 .add 29 1,q3 31 225 27 28 30,qA 32 3 8,qU 1 32 31] [4,6,8]) .skip)) (qs [qA 33 4 8,qF 34 1 33,zM 35 6,zM 36 6,qk 37 .add 36 1,q3 38 226 34 35 37,qA 39 4 8,qU 1 39 38] [4,8] (qr [qT 40 5 8,qS 5 4 40,qB 5 true] [4,5])))))))
theorem K.jf : iR pZ 237 3 2 C.jf [.cell 4 true 5,.tmp 5]=true:=by kernel_rfl
theorem K.iQ : iR pZ 234 3 2 C.A7 [.cell 6 true 5,.tmp 7]=true:=by kernel_rfl
def C.lQ : bW:=(qs [qX 2 10 0,qX 3 11 1,qZ 4 12,qB 5 false] [2,3,4] (.seq (qs [qT 7 5 2,q1 8 72 7,qO 9 8,zM 10 9,zG 10 false 11 (.load false 1 (.t 3)),⟨(some (10,false)),some 12,.call 167 [.t 11]⟩,zG 10 false 13 (.not (.t 12)),qQ 14 10 13,zM 15 14,zG 15 false 16 (.load false 1 (.t 3)),zG 15 false 17 (.len (.t 16)),zG 15 false 18 (.bin .eql (.t 17) (kI 0)),qQ 19 15 18] [2,3,4,19] (qc 19 (qr [zA 20 (.build zN []),qS 5 4 20,qB 5 false] [4,5]) .skip)) (qs [qF 21 1 3,qL 22 21,qk 23 .sub 22 1,zA 6 (.alloc 13 [lN 0]),qU 1 6 23] [2,3,4,6] (.seq (.qj [(qT 24 5 2,[]),(qF 25 1 3,[]),(qF 26 1 6,[]),(zA 27 (.Fe 1 (.t 25) none (some (.t 26))),[1,2]),(zA 28 (.Ua 237 [.t 3,.t 6]),[]),(q3 29 234 24 27 28,[0,1,2,3,4]),(qE 30 29 0,[0,1,2,3,4,5]),(qE 31 29 1,[0,1,2,3,4,5]),(qS 5 4 30,[0,1,2,3,4,5,6,7]),(zM 5 31,[0,1,2,3,4,5,6,7,8])] [4,5]) .ret))))
theorem K.lQ : iR pZ 220 2 0 C.lQ [.cell 4 true 5,.tmp 5]=true:=by kernel_rfl
def C.sQ : bW:=(qs [qX 2 10 0,qZ 3 11,qB 4 false] [1,3] (qr [qT 5 5 1,q1 6 74 5,qS 5 3 6,qB 4 true] [3,4]))
theorem K.sQ : iR pZ 239 2 1 C.sQ [.cell 3 true 5,.tmp 4]=true:=by kernel_rfl
theorem K.jy : iR pZ 234 3 1 C.A7 [.cell 6 true 5,.tmp 7]=true:=by kernel_rfl
def C.tY : bW:=(qs [qX 3 10 0,qX 5 11 2,qZ 6 12,qB 7 false] [1,3,5,6] (.seq (qs [qT 8 5 3,q1 9 72 8,qO 10 9,zM 11 10,qm 11 false 12 1,⟨(some (11,false)),some 13,.call 167 [.t 12]⟩,zG 11 false 14 (.not (.t 13)),qQ 15 11 14,zM 16 15,zG 16 false 17 (.load true 5 (.t 5)),⟨(some (16,false)),some 18,.call 72 [.t 17]⟩,zG 16 false 19 (.not (.t 18)),qQ 20 16 19] [1,3,5,6,20] (qc 20 (qr [zA 21 (.build zN []),qS 5 6 21,qB 7 false] [6,7]) .skip)) (qr [qT 22 5 3,zM 23 1,zA 24 (.Ua 239 [.t 5]),q3 25 234 22 23 24,qE 26 25 0,qE 27 25 1,q2 28 169 26 27,qE 29 28 0,qE 30 28 1,qS 5 6 29,zM 7 30] [6,7])))
theorem K.tY : iR pZ 221 3 0 C.tY [.cell 6 true 5,.tmp 7]=true:=by kernel_rfl
def C.rq : bW:=(qs [qX 1 10 0,qB 2 false] [1] (qr [qA 3 0 1,qF 4 1 3,qk 5 .geq 4 1,zM 6 5,zG 6 true 7 (.jZ 0 (.t 1)),zG 6 true 8 (.load false 1 (.t 7)),zG 6 true 9 (.bin .leq (.t 8) (kI 6)),qP 10 6 9,zM 11 10,zG 11 true 12 (.jZ 1 (.t 1)),zG 11 true 13 (.load false 1 (.t 12)),⟨(some (11,true)),some 14,.call 167 [.t 13]⟩,qP 15 11 14,zM 16 15,zG 16 true 17 (.jZ 2 (.t 1)),zG 16 true 18 (.load false 1 (.t 17)),⟨(some (16,true)),some 19,.call 167 [.t 18]⟩,qP 20 16 19,zM 21 20,zG 21 true 22 (.jZ 3 (.t 1)),zG 21 true 23 (.load true 5 (.t 22)),⟨(some (21,true)),some 24,.call 72 [.t 23]⟩,qP 25 21 24,zM 2 25] [2]))
theorem K.rq : iR pZ 168 1 0 C.rq [.tmp 2]=true:=by kernel_rfl
def C.slices_Equal_string : bW:=(qs [qB 4 false] [0,1] (.seq (qs [zM 6 0,qL 7 6,zM 8 1,qL 9 8,qb 10 .neq 7 9] [0,1,10] (qc 10 (qr [qB 4 false] [4]) .skip)) (.seq (qs [zM 11 0,qL 12 11,qI 13 0] [0,1,12,13] (.block 0 (.loop (qs [qb 14 .lss 13 12] [0,1,12,13,14] (.seq (qc 14 .skip (.exit 0)) (.seq (.block 1 (qs [zM 15 13,zM 5 15] [0,1,5,12,13] (.seq (.qj [(zM 16 0,[]),(zM 17 5,[]),(qD 18 1 16 17,[0,1]),(qF 19 1 18,[0,1,2]),(zM 20 1,[]),(zM 21 5,[]),(qD 22 1 20 21,[4,5]),(qF 23 1 22,[4,5,6]),(qb 24 .neq 19 23,[0,1,2,3,4,5,6,7])] [0,1,12,13,24]) (qc 24 (qr [qB 4 false] [4]) .skip)))) (.reg [qk 25 .add 13 1,zM 13 25] [0,1,12,13]))))))) (qr [qB 4 true] [4]))))
theorem K.slices_Equal_string : iR pZ 128 2 0 C.slices_Equal_string [.tmp 4]=true:=by kernel_rfl
def C.rW : bW:=(qs [qX 3 10 0,qZ 6 11,qB 7 false] [1,2,3,6] (qs [qT 12 5 3,zM 13 1,q2 14 223 12 13,zM 11 14,qE 15 11 0,qE 16 11 1,qZ 8 12,qS 5 8 15,zM 9 16] [1,2,3,6,8,9] (.seq (qs [zM 17 9,qO 18 17] [1,2,3,6,8,18] (qc 18 (qr [zA 19 (.build zN []),qS 5 6 19,qB 7 false] [6,7]) .skip)) (.seq (qs [zM 20 2,zM 21 1,q2 22 128 20 21] [1,2,3,6,8,22] (qc 22 (qr [qT 23 5 3,q1 24 74 23,qS 5 6 24,qB 7 true] [6,7]) .skip)) (.seq (qs [zM 25 2,qL 26 25,zM 27 1,qL 28 27,qb 29 .gtr 26 28,zM 30 29,qm 30 true 31 2,qm 30 true 32 1,zG 30 true 33 (.len (.t 32)),zG 30 true 34 (.Fe 1 (.t 31) none (some (.t 33))),qm 30 true 35 1,⟨(some (30,true)),some 36,.call 128 [.t 34,.t 35]⟩,qP 37 30 36] [1,2,3,6,8,37] (qc 37 (qr [zA 38 (.build zN []),qS 5 6 38,qB 7 false] [6,7]) .skip)) (qs [qT 40 5 3,zM 41 1,q2 42 220 40 41,zM 39 42,qE 43 39 0,qE 44 39 1,qZ 10 13,qS 5 10 43,zM 9 44] [2,6,8,9,10] (.seq (qs [zM 45 9,qO 46 45] [2,6,8,10,46] (qc 46 (qr [zA 47 (.build zN []),qS 5 6 47,qB 7 false] [6,7]) .skip)) (qr [qT 48 5 10,zM 49 2,qT 50 5 8,q3 51 219 48 49 50,qE 52 51 0,qE 53 51 1,qS 5 6 52,zM 7 53] [6,7]))))))))
theorem K.rW : iR pZ 222 3 0 C.rW [.cell 6 true 5,.tmp 7]=true:=by kernel_rfl
def C.iD : bW:=(qs [qI 4 0] [0,1] (qr [zM 5 0,zM 6 1,zA 7 (.Zd (.t 5) (.t 6)),zM 4 7] [4]))
theorem K.iD : iR pZ 197 2 0 C.iD [.tmp 4]=true:=by kernel_rfl
def C.strings_Compare : bW:=(qs [qI 4 0] [0,1] (qr [zM 5 0,zM 6 1,q2 7 197 5 6,zM 4 7] [4]))
theorem K.strings_Compare : iR pZ 173 2 0 C.strings_Compare [.tmp 4]=true:=by kernel_rfl
def C.bY : bW:=(qs [qX 2 10 0,qX 3 11 1,qI 4 0] [2,3] (.seq (qs [qA 11 0 2,qF 12 1 11,qA 13 0 3,qF 14 1 13,q2 15 251 12 14,zM 5 15] [2,3,5] (qs [zM 16 5,qk 17 .neq 16 0] [2,3,5,17] (qc 17 (qr [zM 18 5,zM 4 18] [4]) .skip))) (.seq (qs [qA 19 1 2,qF 20 1 19,qA 21 1 3,qF 22 1 21,q2 23 251 20 22,zM 6 23] [2,3,6] (qs [zM 24 6,qk 25 .neq 24 0] [2,3,6,25] (qc 25 (qr [zM 26 6,zM 4 26] [4]) .skip))) (.seq (qs [qA 27 2 2,qF 28 1 27,qA 29 2 3,qF 30 1 29,q2 31 173 28 30,zM 7 31] [2,3,7] (qs [zM 32 7,qk 33 .neq 32 0] [2,3,7,33] (qc 33 (qr [zM 34 7,zM 4 34] [4]) .skip))) (.seq (qs [qI 8 0] [2,3,8] (.block 0 (.loop (.seq (qs [zM 35 8,qA 36 4 2,qF 37 1 36,qL 38 37,qb 39 .lss 35 38,zM 40 39,qm 40 true 41 8,zG 40 true 42 (.jZ 4 (.t 3)),zG 40 true 43 (.load false 1 (.t 42)),zG 40 true 44 (.len (.t 43)),zG 40 true 45 (.bin .lss (.t 41) (.t 44)),qP 46 40 45] [2,3,8,46] (qc 46 .skip (.exit 0))) (.seq (.block 1 (.cut (qs [qA 49 0 2,qF 50 1 49,qk 51 .eql 50 4] [2,3,8,51] (qc 51 (.seq (.qj [(qA 52 3 2,[]),(qF 53 1 52,[0]),(zM 54 8,[]),(qD 55 1 53 54,[0,1,2]),(qF 56 1 55,[0,1,2,3]),(qA 57 3 3,[]),(qF 58 1 57,[5]),(zM 59 8,[]),(qD 60 1 58 59,[5,6,7]),(qF 61 1 60,[5,6,7,8]),(q2 62 173 56 61,[0,1,2,3,4,5,6,7,8,9]),(zM 9 62,[0,1,2,3,4,5,6,7,8,9,10])] [2,3,8,9]) (qs [zM 63 9,qk 64 .neq 63 0] [2,3,8,9,64] (qc 64 (qr [zM 65 9,zM 4 65] [4]) .skip))) .skip)) (.seq (.qj [(qA 66 4 2,[]),(qF 67 1 66,[0]),(zM 68 8,[]),(qD 69 5 67 68,[0,1,2]),(qT 70 5 69,[0,1,2,3]),(qA 71 4 3,[]),(qF 72 1 71,[5]),(zM 73 8,[]),(qD 74 5 72 73,[5,6,7]),(qT 75 5 74,[5,6,7,8]),(q2 76 248 70 75,[0,1,2,3,4,5,6,7,8,9]),(zM 10 76,[0,1,2,3,4,5,6,7,8,9,10])] [2,3,8,10]) (qs [zM 77 10,qk 78 .neq 77 0] [2,3,8,10,78] (qc 78 (qr [zM 79 10,zM 4 79] [4]) .skip))))) (.reg [zM 47 8,qk 48 .add 47 1,zM 8 48] [2,3,8])))))) (qr [qA 80 4 2,qF 81 1 80,qL 82 81,qA 83 4 3,qF 84 1 83,qL 85 84,q2 86 251 82 85,zM 4 86] [4]))))))
theorem K.bY : iR pZ 248 2 0 C.bY [.tmp 4]=true:=by kernel_rfl
def C.rX : bW:=(qs [qX 2 10 0,qX 3 11 1,qB 4 false] [2,3] (qr [qT 5 5 2,qT 6 5 3,q2 7 248 5 6,qk 8 .eql 7 0,zM 4 8] [4]))
theorem K.rX : iR pZ 241 2 0 C.rX [.tmp 4]=true:=by kernel_rfl
def C.qg : bW:=(qs [qX 3 10 0,qX 5 11 2,qZ 6 12,qB 7 false] [1,3,5,6] (qs [qT 11 5 3,zM 12 1,q2 13 240 11 12,zM 10 13,qE 14 10 0,qE 15 10 1,qZ 8 13,qS 5 8 14,zM 9 15] [3,5,6,8,9] (.seq (qs [zM 16 9,qO 17 16,zM 18 17,zG 18 false 19 (.load true 5 (.t 8)),zG 18 false 20 (.load true 5 (.t 5)),⟨(some (18,false)),some 21,.call 241 [.t 19,.t 20]⟩,zG 18 false 22 (.not (.t 21)),qQ 23 18 22] [3,6,23] (qc 23 (qr [zA 24 (.build zN []),qS 5 6 24,qB 7 false] [6,7]) .skip)) (qr [qT 25 5 3,q1 26 74 25,qS 5 6 26,qB 7 true] [6,7]))))
theorem K.qg : iR pZ 224 3 0 C.qg [.cell 6 true 5,.tmp 7]=true:=by kernel_rfl
def C.tN : bW:=(qs [qX 2 10 0,qX 3 11 1,qZ 4 12,qB 5 false] [2,3,4] (.seq (qs [qT 8 5 2,q1 9 72 8,qO 10 9,zM 11 10,zG 11 false 12 (.load true 8 (.t 3)),⟨(some (11,false)),some 13,.call 168 [.t 12]⟩,zG 11 false 14 (.not (.t 13)),qQ 15 11 14] [2,3,4,15] (qc 15 (qr [zA 16 (.build zN []),qS 5 4 16,qB 5 false] [4,5]) .skip)) (.seq (qs [qA 17 0 3,qF 18 1 17] [2,3,4,18] (.block 0 (qs [qk 20 .eql 18 1,zM 19 20] [2,3,4,18,19] (qc 19 (qr [qT 21 5 2,qA 22 1 3,qF 23 1 22,qA 24 3 3,qT 25 5 24,q3 26 219 21 23 25,qE 27 26 0,qE 28 26 1,qS 5 4 27,zM 5 28] [4,5]) (qs [qk 30 .eql 18 2,zM 29 30] [2,3,4,18,29] (qc 29 (qr [qT 31 5 2,qA 32 1 3,qF 33 1 32,q2 34 220 31 33,qE 35 34 0,qE 36 34 1,qS 5 4 35,zM 5 36] [4,5]) (qs [qk 38 .eql 18 3,zM 37 38] [2,3,4,18,37] (qc 37 (qr [qT 39 5 2,qA 40 1 3,qF 41 1 40,qA 42 3 3,qT 43 5 42,q3 44 221 39 41 43,qE 45 44 0,qE 46 44 1,qS 5 4 45,zM 5 46] [4,5]) (qs [qk 48 .eql 18 4,zM 47 48] [2,3,4,18,47] (qc 47 (qr [qT 49 5 2,qA 50 2 3,qF 51 1 50,qA 52 1 3,qF 53 1 52,q3 54 222 49 51 53,qE 55 54 0,qE 56 54 1,qS 5 4 55,zM 5 56] [4,5]) (qs [qk 58 .eql 18 5,zM 57 58] [2,3,4,57] (qc 57 (qs [qT 60 5 2,qA 61 2 3,qF 62 1 61,q2 63 223 60 62,zM 59 63,qE 64 59 0,qE 65 59 1,qZ 6 13,qS 5 6 64,zM 7 65] [2,3,4,6,7] (.seq (qs [zM 66 7,qO 67 66] [2,3,4,6,67] (qc 67 (qr [zA 68 (.build zN []),qS 5 4 68,qB 5 false] [4,5]) .skip)) (qr [qT 69 5 2,qA 70 1 3,qF 71 1 70,qT 72 5 6,q3 73 219 69 71 72,qE 74 73 0,qE 75 73 1,qS 5 4 74,zM 5 75] [4,5]))) .skip)))))))))))) (qr [qT 76 5 2,qA 77 1 3,qF 78 1 77,qA 79 3 3,qT 80 5 79,q3 81 224 76 78 80,qE 82 81 0,qE 83 81 1,qS 5 4 82,zM 5 83] [4,5]))))
theorem K.tN : iR pZ 210 2 0 C.tN [.cell 4 true 5,.tmp 5]=true:=by kernel_rfl
def C.fB : bW:=(qs [qB 2 false] [0] (.seq (qs [zM 5 0,qL 6 5,qk 7 .gtr 6 12] [0,7] (qc 7 (qr [qB 2 false] [2]) .skip)) (.seq (qs [zM 8 0,qL 9 8,qI 10 0] [8,9,10] (.block 0 (.loop (qs [qb 11 .lss 10 9] [8,9,10,11] (.seq (qc 11 .skip (.exit 0)) (.seq (.block 1 (qs [qD 12 8 8 10,qT 13 8 12,zA 4 (.alloc 10 [lN 0,.jC 1,.jC 1,lN 0,lN 0,.c (.str []),.jC 1,.jC 5]),qS 8 4 13] [4,8,9,10] (qs [qT 14 8 4,q1 15 168 14,qO 16 15] [8,9,10,16] (qc 16 (qr [qB 2 false] [2]) .skip)))) (.reg [qk 17 .add 10 1,zM 10 17] [8,9,10]))))))) (qr [qB 2 true] [2]))))
theorem K.fB : iR pZ 132 1 0 C.fB [.tmp 2]=true:=by kernel_rfl
def C.kR : bW:=(qs [qX 2 10 0,qZ 4 11,qI 5 0] [1,2,4] (qs [qT 11 5 2,q1 12 74 11,qZ 6 12,qS 5 6 12] [1,4,6] (.seq (qs [zM 13 1,qL 14 13,qI 15 0] [1,4,6,13,14,15] (.block 0 (.loop (qs [qb 16 .lss 15 14] [1,4,6,13,14,15,16] (.seq (qc 16 .skip (.exit 0)) (.seq (.block 1 (qs [zM 17 15,qD 18 8 13 15,qT 19 8 18,zA 8 (.alloc 13 [lN 0,.jC 1,.jC 1,lN 0,lN 0,.c (.str []),.jC 1,.jC 5]),zM 7 17,qS 8 8 19] [1,4,6,7,8,13,14,15] (qs [qT 21 5 6,qT 22 8 8,q2 23 210 21 22,zM 20 23,qE 24 20 0,qE 25 20 1,qZ 9 14,qS 5 9 24,zM 10 25] [1,4,6,7,9,10,13,14,15] (.seq (qs [zM 26 10,qO 27 26] [1,4,6,7,9,13,14,15,27] (qc 27 (qr [zA 28 (.build zN []),zM 29 7,qS 5 4 28,zM 5 29] [4,5]) .skip)) (.reg [qT 30 5 9,qS 5 6 30] [1,4,6,13,14,15]))))) (.reg [qk 31 .add 15 1,zM 15 31] [1,4,6,13,14,15]))))))) (qr [qT 32 5 6,zM 33 1,qL 34 33,qS 5 4 32,zM 5 34] [4,5]))))
theorem K.kR : iR pZ 199 2 0 C.kR [.cell 4 true 5,.tmp 5]=true:=by kernel_rfl
def C.pF : bW:=(qs [qX 2 10 0,qZ 4 11,qB 5 false] [1,2,4] (.seq (qs [qT 8 5 2,q1 9 72 8,qO 10 9,zM 11 10,qm 11 false 12 1,⟨(some (11,false)),some 13,.call 132 [.t 12]⟩,zG 11 false 14 (.not (.t 13)),qQ 15 11 14] [1,2,4,15] (qc 15 (qr [zA 16 (.build zN []),qS 5 4 16,qB 5 false] [4,5]) .skip)) (qs [qT 18 5 2,zM 19 1,q2 20 199 18 19,zM 17 20,qE 21 17 0,qE 22 17 1,qZ 6 12,qS 5 6 21,zM 7 22] [1,4,6,7] (qr [qT 23 5 6,zM 24 7,zM 25 1,qL 26 25,qb 27 .eql 24 26,qS 5 4 23,zM 5 27] [4,5]))))
theorem K.pF : iR pZ 176 2 0 C.pF [.cell 4 true 5,.tmp 5]=true:=by kernel_rfl
def C.jG : bW:=(qs [qI 4 0] [0,1] (qr [zM 5 0,zM 6 1,zA 7 (.Zx (.t 5) (.t 6)),zM 4 7] [4]))
theorem K.jG : iR pZ 164 2 0 C.jG [.tmp 4]=true:=by kernel_rfl
def C.strings_IndexByte : bW:=(qs [qI 4 0] [0,1] (qr [zM 5 0,zM 6 1,q2 7 164 5 6,zM 4 7] [4]))
theorem K.strings_IndexByte : iR pZ 123 2 0 C.strings_IndexByte [.tmp 4]=true:=by kernel_rfl
def C.nJ : bW:=(qs [qB 2 false] [0] (.seq (qs [zM 4 0,ql 5 4,qk 6 .neq 5 4] [0,6] (qc 6 (qr [qB 2 false] [2]) .skip)) (.seq (qs [qI 3 0] [0,3] (.block 0 (.loop (.seq (qs [zM 7 3,zM 8 0,ql 9 8,qb 10 .lss 7 9] [0,3,10] (qc 10 .skip (.exit 0))) (.seq (.block 1 (qs [zM 13 0,zM 14 3,zA 15 (.idxs (.t 13) (.t 14)),⟨none,some 16,.call 123 [.k (.c (.str [48,49,50,51,52,53,54,55,56,57,97,98,99,100,101,102])),.t 15]⟩,qk 17 .lss 16 0] [0,3,17] (qc 17 (qr [qB 2 false] [2]) .skip))) (.reg [zM 11 3,qk 12 .add 11 1,zM 3 12] [0,3])))))) (qr [qB 2 true] [2]))))
theorem K.nJ : iR pZ 77 1 0 C.nJ [.tmp 2]=true:=by kernel_rfl
def C.iZ : bW:=(qs [qB 2 false] [0] (.seq (qs [zM 5 0,qL 6 5,qk 7 .gtr 6 4] [0,7] (qc 7 (qr [qB 2 false] [2]) .skip)) (.seq (qs [zM 8 0,qL 9 8,qI 10 0] [8,9,10] (.block 0 (.loop (qs [qb 11 .lss 10 9] [8,9,10,11] (.seq (qc 11 .skip (.exit 0)) (.seq (.block 1 (qs [qD 12 1 8 10,qF 13 1 12,zM 4 13] [4,8,9,10] (qs [zM 14 4,zA 15 (.bin .neq (.t 14) (.k (.c (.str [42])))),zM 16 15,qm 16 true 17 4,⟨(some (16,true)),some 18,.call 77 [.t 17]⟩,zG 16 true 19 (.not (.t 18)),qP 20 16 19] [8,9,10,20] (qc 20 (qr [qB 2 false] [2]) .skip)))) (.reg [qk 21 .add 10 1,zM 10 21] [8,9,10]))))))) (qr [qB 2 true] [2]))))
theorem K.iZ : iR pZ 131 1 0 C.iZ [.tmp 2]=true:=by kernel_rfl
def C.slices_Index_string : bW:=(qs [qI 4 0] [0,1] (.seq (qs [zM 6 0,qL 7 6,qI 8 0] [0,1,7,8] (.block 0 (.loop (qs [qb 9 .lss 8 7] [0,1,7,8,9] (.seq (qc 9 .skip (.exit 0)) (.seq (.block 1 (qs [zM 10 8,zM 5 10] [0,1,5,7,8] (qs [zM 11 1,zM 12 0,zM 13 5,qD 14 1 12 13,qF 15 1 14,qb 16 .eql 11 15] [0,1,5,7,8,16] (qc 16 (qr [zM 17 5,zM 4 17] [4]) .skip)))) (.reg [qk 18 .add 8 1,zM 8 18] [0,1,7,8]))))))) (qr [qI 4 (-1)] [4])))
theorem K.slices_Index_string : iR pZ 198 2 0 C.slices_Index_string [.tmp 4]=true:=by kernel_rfl
def C.slices_Contains_string : bW:=(qs [qB 4 false] [0,1] (qr [zM 5 0,zM 6 1,q2 7 198 5 6,qk 8 .geq 7 0,zM 4 8] [4]))
theorem K.slices_Contains_string : iR pZ 174 2 0 C.slices_Contains_string [.tmp 4]=true:=by kernel_rfl
def C.pq : bW:=(qs [qB 4 false] [0,1] (qr [zM 5 0,zM 6 1,q2 7 174 5 6,zM 8 7,qm 8 false 9 0,⟨(some (8,false)),some 10,.call 174 [.t 9,.k (.c (.str [42]))]⟩,qQ 11 8 10,zM 4 11] [4]))
theorem K.pq : iR pZ 137 2 0 C.pq [.tmp 4]=true:=by kernel_rfl
def C.kF : bW:=(qs [qI 8 0] [0,1,2,3] (.cut (qs [zM 9 0,q1 10 131 9,qO 11 10,zM 12 11,qm 12 false 13 1,⟨(some (12,false)),some 14,.call 131 [.t 13]⟩,zG 12 false 15 (.not (.t 14)),qQ 16 12 15,zM 17 16,qm 17 false 18 2,zG 17 false 19 (.bin .neq (.t 18) (.k (.c (.str [])))),qm 17 false 20 19,qm 20 true 21 2,⟨(some (20,true)),some 22,.call 77 [.t 21]⟩,zG 20 true 23 (.not (.t 22)),zG 17 false 24 (.pick (.t 20) (.t 23) (kB false)),qQ 25 17 24] [0,1,2,3,25] (qc 25 (qr [qI 8 400] [8]) .skip)) (.seq (qs [zM 26 0,qL 27 26,qk 28 .gtr 27 0,zM 29 28,qm 29 true 30 2,zG 29 true 31 (.bin .eql (.t 30) (.k (.c (.str [])))),qm 29 true 32 31,qm 32 false 33 0,qm 32 false 34 2,⟨(some (32,false)),some 35,.call 137 [.t 33,.t 34]⟩,zG 32 false 36 (.not (.t 35)),zG 29 true 37 (.pick (.t 32) (kB true) (.t 36)),qP 38 29 37] [1,2,3,38] (qc 38 (qr [qI 8 412] [8]) .skip)) (.seq (qs [zM 39 1,qL 40 39,qk 41 .gtr 40 0,zM 42 41,qm 42 true 43 2,zG 42 true 44 (.bin .neq (.t 43) (.k (.c (.str [])))),qP 45 42 44,zM 46 45,qm 46 true 47 1,qm 46 true 48 2,⟨(some (46,true)),some 49,.call 137 [.t 47,.t 48]⟩,qP 50 46 49] [3,50] (qc 50 (.seq (qs [zM 51 3] [51] (qc 51 (qr [qI 8 304] [8]) .skip)) (qr [qI 8 412] [8])) .skip)) (qr [qI 8 200] [8])))))
theorem K.kF : iR pZ 86 4 0 C.kF [.tmp 8]=true:=by kernel_rfl
def C.jJ : bW:=(qs [qB 2 false] [0] (.seq (qs [zM 4 0,zA 5 (.bin .eql (.t 4) (.k (.c (.str [])))),zM 6 5,qm 6 false 7 0,zG 6 false 8 (.lens (.t 7)),zG 6 false 9 (.bin .gtr (.t 8) (kI 8)),qQ 10 6 9] [0,10] (qc 10 (qr [qB 2 false] [2]) .skip)) (.seq (qs [qI 3 0] [0,3] (.block 0 (.loop (.seq (qs [zM 11 3,zM 12 0,ql 13 12,qb 14 .lss 11 13] [0,3,14] (qc 14 .skip (.exit 0))) (.seq (.block 1 (qs [zM 17 0,zM 18 3,zA 19 (.idxs (.t 17) (.t 18)),zA 20 (.bin .lss (.t 19) (.k (.c (.lit (.int .u8 97))))),zM 21 20,qm 21 false 22 0,qm 21 false 23 3,zG 21 false 24 (.idxs (.t 22) (.t 23)),zG 21 false 25 (.bin .gtr (.t 24) (.k (.c (.lit (.int .u8 122))))),qQ 26 21 25,zM 27 26,qm 27 true 28 0,qm 27 true 29 3,zG 27 true 30 (.idxs (.t 28) (.t 29)),zG 27 true 31 (.bin .lss (.t 30) (.k (.c (.lit (.int .u8 48))))),qm 27 true 32 31,qm 32 false 33 0,qm 32 false 34 3,zG 32 false 35 (.idxs (.t 33) (.t 34)),zG 32 false 36 (.bin .gtr (.t 35) (.k (.c (.lit (.int .u8 57))))),zG 27 true 37 (.pick (.t 32) (kB true) (.t 36)),qP 38 27 37] [0,3,38] (qc 38 (qr [qB 2 false] [2]) .skip))) (.reg [zM 15 3,qk 16 .add 15 1,zM 3 16] [0,3])))))) (qr [qB 2 true] [2]))))
theorem K.jJ : iR pZ 71 1 0 C.jJ [.tmp 2]=true:=by kernel_rfl
def C.cZ : bW:=(qs [qX 1 10 0,qB 2 false] [1] (.seq (qs [qA 5 0 1,qF 6 1 5,qL 7 6,qk 8 .gtr 7 10,zM 9 8,zG 9 false 10 (.jZ 1 (.t 1)),zG 9 false 11 (.load false 1 (.t 10)),zG 9 false 12 (.bin .lss (.t 11) (kI 0)),qQ 13 9 12,zM 14 13,zG 14 false 15 (.jZ 1 (.t 1)),zG 14 false 16 (.load false 1 (.t 15)),zG 14 false 17 (.bin .gtr (.t 16) (kI 999)),qQ 18 14 17] [1,18] (qc 18 (qr [qB 2 false] [2]) .skip)) (.seq (qs [qA 19 0 1,qF 20 1 19,qL 21 20,qI 22 0] [1,20,21,22] (.block 0 (.loop (qs [qb 23 .lss 22 21] [1,20,21,22,23] (.seq (qc 23 .skip (.exit 0)) (.seq (.block 1 (qs [zM 24 22,qD 25 7 20 22,qT 26 7 25,zA 4 (.alloc 11 [.c (.str []),lN 0,lN 0,lN 0,.c (.str []),.jC 1,.jC 5]),zM 3 24,qS 7 4 26] [1,3,4,20,21,22] (.seq (.seq (.qj [(qA 27 0 4,[]),(qF 28 1 27,[0]),(q1 29 71 28,[0,1]),(qO 30 29,[0,1,2]),(zM 31 30,[0,1,2,3]),(qm 31 false 32 3,[0,1,2,3,4]),(zG 31 false 33 (.bin .gtr (.t 32) (kI 0)),[0,1,2,3,4,5]),(qm 31 false 34 33,[0,1,2,3,4,5,6]),(zG 34 true 35 (.jZ 0 (.t 1)),[0,1,2,3,4,5,6,7]),(zG 34 true 36 (.load false 1 (.t 35)),[0,1,2,3,4,5,6,7,8]),(qm 34 true 37 3,[0,1,2,3,4,5,6,7]),(zG 34 true 38 (.bin .sub (.t 37) (kI 1)),[0,1,2,3,4,5,6,7,10]),(zG 34 true 39 (.vN 7 (.t 36) (.t 38)),[0,1,2,3,4,5,6,7,8,9,10,11]),(zG 34 true 40 (.jZ 0 (.t 39)),[0,1,2,3,4,5,6,7,8,9,10,11,12]),(zG 34 true 41 (.load false 1 (.t 40)),[0,1,2,3,4,5,6,7,8,9,10,11,12,13]),(zG 34 true 42 (.jZ 0 (.t 4)),[0,1,2,3,4,5,6,7]),(zG 34 true 43 (.load false 1 (.t 42)),[0,1,2,3,4,5,6,7,15]),(zG 34 true 44 (.bin .geq (.t 41) (.t 43)),[0,1,2,3,4,5,6,7,8,9,10,11,12,13,14,15,16]),(zG 31 false 45 (.pick (.t 34) (.t 44) (kB false)),[0,1,2,3,4,5,6,7,8,9,10,11,12,13,14,15,16,17]),(qQ 46 31 45,[0,1,2,3,4,5,6,7,8,9,10,11,12,13,14,15,16,17,18])] [1,4,20,21,22,46]) (qc 46 (qr [qB 2 false] [2]) .skip)) (qs [qA 47 1 4,qF 48 1 47,qk 49 .lss 48 1,zM 50 49,zG 50 false 51 (.jZ 1 (.t 4)),zG 50 false 52 (.load false 1 (.t 51)),zG 50 false 53 (.jZ 1 (.t 1)),zG 50 false 54 (.load false 1 (.t 53)),zG 50 false 55 (.bin .gtr (.t 52) (.t 54)),qQ 56 50 55,zM 57 56,zG 57 false 58 (.jZ 2 (.t 4)),zG 57 false 59 (.load true 5 (.t 58)),⟨(some (57,false)),some 60,.call 72 [.t 59]⟩,zG 57 false 61 (.not (.t 60)),qQ 62 57 61] [1,20,21,22,62] (qc 62 (qr [qB 2 false] [2]) .skip))))) (.reg [qk 63 .add 22 1,zM 22 63] [1,20,21,22]))))))) (qr [qB 2 true] [2]))))
theorem K.cZ : iR pZ 39 1 0 C.cZ [.tmp 2]=true:=by kernel_rfl
def C.qf : bW:=(qs [qX 1 10 0,zA 2 (.alloc 11 [.c (.str []),lN 0,lN 0,lN 0,.c (.str []),.jC 1,.jC 5])] [1,2] (.seq (.qj [(qA 3 0 1,[]),(qF 4 1 3,[0]),(qA 5 1 1,[]),(qF 6 1 5,[2]),(qA 7 2 1,[]),(qT 8 5 7,[4]),(q1 9 74 8,[4,5]),(zA 10 (.build [.c (.str []),lN 0,lN 0,lN 0,.c (.str []),.jC 1,.jC 5] [(0,1,.t 4),(1,1,.t 6),(2,5,.t 9)]),[0,1,2,3,4,5,6]),(qS 7 2 10,[0,1,2,3,4,5,6,7])] [2]) .ret))
theorem K.qf : iR pZ 41 1 0 C.qf [.cell 2 true 7]=true:=by kernel_rfl
def C.dP : bW:=(qs [qX 1 10 0,zA 2 (.alloc 11 [.jC 7,lN 0])] [1,2] (qs [qA 6 1 1,qF 7 1 6,zA 8 (.build [.jC 7,lN 0] [(1,1,.t 7)]),zA 3 (.alloc 12 [.jC 7,lN 0]),qS 2 3 8] [1,2,3] (.seq (qs [qA 9 0 1,qF 10 1 9,qL 11 10,qk 12 .gtr 11 0] [1,2,3,12] (qc 12 (qs [qA 13 0 1,qF 14 1 13,qL 15 14,zA 16 (.makes 13 7 104 [.str [],.lit (.int .i64 0),.lit (.int .i64 0),.lit (.int .i64 0),.str [],.sl 1 [],.sl 5 []] (.t 15) (.t 15)),qA 17 0 3,qU 1 17 16] [1,2,3] (qs [qA 18 0 1,qF 19 1 18,qL 20 19,qI 21 0] [2,3,19,20,21] (.block 0 (.loop (qs [qb 22 .lss 21 20] [2,3,19,20,21,22] (.seq (qc 22 .skip (.exit 0)) (.seq (.block 1 (qs [zM 23 21,qD 24 7 19 21,qT 25 7 24,zA 5 (.alloc 14 [.c (.str []),lN 0,lN 0,lN 0,.c (.str []),.jC 1,.jC 5]),zM 4 23,qS 7 5 25] [2,3,4,5,19,20,21] (.qj [(qA 26 0 3,[]),(qF 27 1 26,[0]),(zM 28 4,[]),(qT 29 7 5,[]),(q1 30 41 29,[3]),(qD 31 7 27 28,[0,1,2,3,4]),(qS 7 31 30,[0,1,2,3,4,5])] [2,3,19,20,21]))) (.reg [qk 32 .add 21 1,zM 21 32] [2,3,19,20,21])))))))) .skip)) (qr [qT 33 2 3,qS 2 2 33] [2]))))
theorem K.dP : iR pZ 24 1 0 C.dP [.cell 2 true 2]=true:=by kernel_rfl
def C.qw : bW:=(qs [qX 2 10 0,qI 4 0] [1,2] (qr [qA 5 0 2,qF 6 1 5,zM 7 1,q2 8 173 6 7,zM 4 8] [4]))
theorem K.qw : iR pZ 172 2 0 C.qw [.tmp 4]=true:=by kernel_rfl
def C.wP : bW:=(qs [qI 6 0,qB 7 false] [0,1,2] (qs [zM 12 0,qL 13 12,zM 8 13] [0,1,2,8] (qs [zM 14 8,qI 9 0,zM 10 14] [0,1,2,8,9,10] (.seq (.block 0 (.loop (.seq (qs [zM 15 9,zM 16 10,qb 17 .lss 15 16] [0,1,2,8,9,10,17] (qc 17 .skip (.exit 0))) (.block 1 (qs [zM 18 9,zM 19 10,qb 20 .add 18 19,zA 21 (.GH .u64 (.t 20)),zA 22 (.shf false (.t 21) (.k (.c (.lit (.int .u64 1))))),zA 23 (.GH .i64 (.t 22)),zM 11 23] [0,1,2,8,9,10,11] (qs [zM 24 2,zM 25 0,zM 26 11,qD 27 7 25 26,qT 28 7 27,zM 29 1,⟨none,some 30,.FX (.t 24) [.t 28,.t 29]⟩,qk 31 .lss 30 0] [0,1,2,8,9,10,11,31] (qc 31 (.reg [zM 32 11,qk 33 .add 32 1,zM 9 33] [0,1,2,8,9,10]) (.reg [zM 34 11,zM 10 34] [0,1,2,8,9,10])))))))) (qr [zM 35 9,zM 36 9,zM 37 8,qb 38 .lss 36 37,zM 39 38,qm 39 true 40 2,qm 39 true 41 0,qm 39 true 42 9,zG 39 true 43 (.vN 7 (.t 41) (.t 42)),zG 39 true 44 (.load true 7 (.t 43)),qm 39 true 45 1,⟨(some (39,true)),some 46,.FX (.t 40) [.t 44,.t 45]⟩,zG 39 true 47 (.bin .eql (.t 46) (kI 0)),qP 48 39 47,zM 6 35,zM 7 48] [6,7])))))
theorem K.aH : iR pZ 171 3 0 C.wP [.tmp 6,.tmp 7]=true:=by kernel_rfl
def C.nN : bW:=(qs [qI 4 0,qB 5 false] [0,1] (qr [zM 6 0,zM 7 1,⟨none,some 8,.call 171 [.t 6,.t 7,.k (.fn 172 [])]⟩,qE 9 8 0,qE 10 8 1,zM 4 9,zM 5 10] [4,5]))
theorem K.nN : iR pZ 135 2 0 C.nN [.tmp 4,.tmp 5]=true:=by kernel_rfl
def C.nO : bW:=C.del 7 104 [.str [],.lit (.int .i64 0),.lit (.int .i64 0),.lit (.int .i64 0),.str [],.sl 1 [],.sl 5 []]
theorem K.nO : iR pZ 175 3 1 C.nO [.tmp 6]=true:=by kernel_rfl
def C.rQ : bW:=(qs [qX 2 10 0,zA 4 (.alloc 11 [.jC 7,lN 0]),qB 5 false] [1,2,4] (.seq (qs [qT 9 2 2,q1 10 39 9,qO 11 10,zM 12 11,zG 12 false 13 (.jZ 1 (.t 2)),zG 12 false 14 (.load false 1 (.t 13)),zG 12 false 15 (.bin .eql (.t 14) (kI 999)),qQ 16 12 15] [1,2,4,16] (qc 16 (qr [zA 17 (.build [.jC 7,lN 0] []),qS 2 4 17,qB 5 false] [4,5]) .skip)) (qs [qA 19 0 2,qF 20 1 19,zM 21 1,q2 22 135 20 21,zM 18 22,qE 23 18 0,qE 24 18 1,zM 6 23,zM 7 24] [2,4,6,7] (.seq (qs [zM 25 7,qO 26 25] [2,4,6,26] (qc 26 (qr [zA 27 (.build [.jC 7,lN 0] []),qS 2 4 27,qB 5 false] [4,5]) .skip)) (qs [qT 28 2 2,q1 29 24 28,zA 8 (.alloc 12 [.jC 7,lN 0]),qS 2 8 29] [4,6,8] (qs [qA 30 1 8,qF 31 1 30,qk 32 .add 31 1,qA 33 1 8,qU 1 33 32] [4,6,8] (qs [qA 34 0 8,qF 35 1 34,zM 36 6,zM 37 6,qk 38 .add 37 1,q3 39 175 35 36 38,qA 40 0 8,qU 1 40 39] [4,8] (qr [qT 41 2 8,qS 2 4 41,qB 5 true] [4,5]))))))))
theorem K.rQ : iR pZ 138 2 0 C.rQ [.cell 4 true 2,.tmp 5]=true:=by kernel_rfl
def C.gU : bW:=(qs [zM 5 0,⟨none,some 6,.call 12 [.t 5,.k (.c (.lit (.int .u8 34)))]⟩] [0,1] (.seq (qs [qI 4 0] [0,1,4] (.block 0 (.loop (.seq (qs [zM 7 4,zM 8 1,ql 9 8,qb 10 .lss 7 9] [0,1,4,10] (qc 10 .skip (.exit 0))) (.seq (.block 1 (.cut (qs [zM 13 1,zM 14 4,zA 15 (.idxs (.t 13) (.t 14)),zA 16 (.bin .eql (.t 15) (.k (.c (.lit (.int .u8 34))))),zM 17 16,qm 17 false 18 1,qm 17 false 19 4,zG 17 false 20 (.idxs (.t 18) (.t 19)),zG 17 false 21 (.bin .eql (.t 20) (.k (.c (.lit (.int .u8 92))))),qQ 22 17 21] [0,1,4,22] (qc 22 (.reg [zM 23 0,⟨none,some 24,.call 12 [.t 23,.k (.c (.lit (.int .u8 92)))]⟩] [0,1,4]) .skip)) (.reg [zM 25 0,zM 26 1,zM 27 4,zA 28 (.idxs (.t 26) (.t 27)),q2 29 12 25 28] [0,1,4]))) (.reg [zM 11 4,qk 12 .add 11 1,zM 4 12] [0,1,4])))))) (.reg [zM 30 0,⟨none,some 31,.call 12 [.t 30,.k (.c (.lit (.int .u8 34)))]⟩] [])))
theorem K.gU : iR pZ 134 2 2 C.gU []=true:=by kernel_rfl
def C.bP : bW:=(qs [qX 3 10 1] [0,3] (qs [qA 8 0 3,qF 9 1 8] [0,3,9] (.block 0 (qs [qk 11 .eql 9 0,zM 10 11] [0,3,9,10] (qc 10 (.reg [zM 12 0,⟨none,some 13,.call 10 [.t 12,.k (.c (.str [110,117,108,108]))]⟩] []) (qs [qk 15 .eql 9 1,zM 14 15] [0,3,9,14] (qc 14 (.reg [zM 16 0,qA 17 1 3,qF 18 1 17,q1 19 22 18,q2 20 10 16 19] []) (qs [qk 22 .eql 9 2,zM 21 22] [0,3,9,21] (qc 21 (.reg [zM 23 0,qA 24 2 3,qF 25 1 24,q2 26 134 23 25] []) (qs [qk 28 .eql 9 3,zM 27 28] [0,3,9,27] (qc 27 (qs [zM 29 0,⟨none,some 30,.call 12 [.t 29,.k (.c (.lit (.int .u8 91)))]⟩] [0,3] (.seq (qs [qA 31 4 3,qF 32 1 31,qL 33 32,qI 34 0] [0,32,33,34] (.block 1 (.loop (qs [qb 35 .lss 34 33] [0,32,33,34,35] (.seq (qc 35 .skip (.exit 1)) (.seq (.block 2 (qs [zM 36 34,qD 37 5 32 34,qT 38 5 37,qZ 5 11,zM 4 36,qS 5 5 38] [0,4,5,32,33,34] (.cut (qs [zM 39 4,qk 40 .gtr 39 0] [0,5,32,33,34,40] (qc 40 (.reg [zM 41 0,⟨none,some 42,.call 12 [.t 41,.k (.c (.lit (.int .u8 44)))]⟩] [0,5,32,33,34]) .skip)) (.reg [zM 43 0,qT 44 5 5,q2 45 89 43 44] [0,32,33,34])))) (.reg [qk 46 .add 34 1,zM 34 46] [0,32,33,34]))))))) (.reg [zM 47 0,⟨none,some 48,.call 12 [.t 47,.k (.c (.lit (.int .u8 93)))]⟩] []))) (qs [qk 50 .eql 9 4,zM 49 50] [0,3,49] (qc 49 (qs [zM 51 0,⟨none,some 52,.call 12 [.t 51,.k (.c (.lit (.int .u8 123)))]⟩] [0,3] (.seq (qs [qA 53 4 3,qF 54 1 53,qL 55 54,qI 56 0] [0,3,54,55,56] (.block 3 (.loop (qs [qb 57 .lss 56 55] [0,3,54,55,56,57] (.seq (qc 57 .skip (.exit 3)) (.seq (.block 4 (qs [zM 58 56,qD 59 5 54 56,qT 60 5 59,qZ 7 12,zM 6 58,qS 5 7 60] [0,3,6,7,54,55,56] (.cut (qs [zM 61 6,qk 62 .gtr 61 0] [0,3,6,7,54,55,56,62] (qc 62 (.reg [zM 63 0,⟨none,some 64,.call 12 [.t 63,.k (.c (.lit (.int .u8 44)))]⟩] [0,3,6,7,54,55,56]) .skip)) (qs [zM 65 0,qA 66 3 3,qF 67 1 66,zM 68 6,qD 69 1 67 68,qF 70 1 69,q2 71 134 65 70] [0,3,7,54,55,56] (qs [zM 72 0,⟨none,some 73,.call 12 [.t 72,.k (.c (.lit (.int .u8 58)))]⟩] [0,3,7,54,55,56] (.reg [zM 74 0,qT 75 5 7,q2 76 89 74 75] [0,3,54,55,56])))))) (.reg [qk 77 .add 56 1,zM 56 77] [0,3,54,55,56]))))))) (.reg [zM 78 0,⟨none,some 79,.call 12 [.t 78,.k (.c (.lit (.int .u8 125)))]⟩] []))) .skip)))))))))))))
theorem K.bP : iR pZ 89 2 2 C.bP []=true:=by kernel_rfl
def C.jL : bW:=(qs [qX 1 10 0,zA 2 (.mv (.k (.c (.str []))))] [1] (.seq (qs [qT 4 5 1,q1 5 72 4,qO 6 5] [1,6] (qc 6 (qr [zA 2 (.mv (.k (.c (.str []))))] [2]) .skip)) (qs [zA 3 (.EJ 40 5 12 11)] [1,3] (qs [qT 7 5 1,q2 8 89 3 7] [3] (qr [q1 9 13 3,zM 2 9] [2])))))
theorem K.jL : iR pZ 50 1 0 C.jL [.tmp 2]=true:=by kernel_rfl
def C.gB : bW:=(qs [zA 2 (.mv (.k (.c (.str []))))] [0] (.seq (qs [zM 6 0,q1 7 131 6,qO 8 7] [0,8] (qc 8 (qr [zA 2 (.mv (.k (.c (.str []))))] [2]) .skip)) (qs [zA 3 (.EJ 40 5 11 10)] [0,3] (.seq (qs [zM 9 0,qL 10 9,qI 11 0] [3,9,10,11] (.block 0 (.loop (qs [qb 12 .lss 11 10] [3,9,10,11,12] (.seq (qc 12 .skip (.exit 0)) (.seq (.block 1 (qs [zM 13 11,qD 14 1 9 11,qF 15 1 14,zM 4 13,zM 5 15] [3,4,5,9,10,11] (.cut (qs [zM 16 4,qk 17 .gtr 16 0] [3,5,9,10,11,17] (qc 17 (.reg [⟨none,some 18,.call 12 [.t 3,.k (.c (.lit (.int .u8 44)))]⟩] [3,5,9,10,11]) .skip)) (qs [zM 19 5,zA 20 (.bin .eql (.t 19) (.k (.c (.str [42]))))] [3,5,9,10,11,20] (qc 20 (.reg [zM 21 5,q2 22 10 3 21] [3,9,10,11]) (.reg [zM 23 5,q2 24 134 3 23] [3,9,10,11])))))) (.reg [qk 25 .add 11 1,zM 11 25] [3,9,10,11]))))))) (qr [q1 26 13 3,zM 2 26] [2])))))
theorem K.gB : iR pZ 83 1 0 C.gB [.tmp 2]=true:=by kernel_rfl
def C.tH : bW:=(qs [zA 2 (.mv (.k (.c (.str []))))] [0] (.seq (qs [zM 3 0] [3] (.block 0 (qs [qk 5 .eql 3 1,zM 4 5] [3,4] (qc 4 (qr [zA 2 (.mv (.k (.c (.str [97,100,100]))))] [2]) (qs [qk 7 .eql 3 2,zM 6 7] [3,6] (qc 6 (qr [zA 2 (.mv (.k (.c (.str [114,101,109,111,118,101]))))] [2]) (qs [qk 9 .eql 3 3,zM 8 9] [3,8] (qc 8 (qr [zA 2 (.mv (.k (.c (.str [114,101,112,108,97,99,101]))))] [2]) (qs [qk 11 .eql 3 4,zM 10 11] [3,10] (qc 10 (qr [zA 2 (.mv (.k (.c (.str [109,111,118,101]))))] [2]) (qs [qk 13 .eql 3 5,zM 12 13] [3,12] (qc 12 (qr [zA 2 (.mv (.k (.c (.str [99,111,112,121]))))] [2]) (qs [qk 15 .eql 3 6,zM 14 15] [14] (qc 14 (qr [zA 2 (.mv (.k (.c (.str [116,101,115,116]))))] [2]) .skip)))))))))))))) (qr [zA 2 (.mv (.k (.c (.str []))))] [2])))
theorem K.tH : iR pZ 130 1 0 C.tH [.tmp 2]=true:=by kernel_rfl
def C.kK : bW:=(qs [qZ 2 10] [0,2] (qs [zA 6 (.build zN [(0,1,kI 3)]),qZ 3 11,qS 5 3 6] [0,2,3] (.seq (qs [zM 7 0,qL 8 7,qI 9 0] [2,3,7,8,9] (.block 0 (.loop (qs [qb 10 .lss 9 8] [2,3,7,8,9,10] (.seq (qc 10 .skip (.exit 0)) (.seq (.block 1 (qs [qD 11 1 7 9,qF 12 1 11,zM 5 12] [2,3,5,7,8,9] (.reg [qA 13 4 3,qF 14 1 13,zM 15 5,zA 16 (.build zN [(0,1,kI 2),(2,1,.t 15)]),zA 17 (.kT 12 5 1 [.lit (.int .i64 0),.lit (.int .i64 0),.str [],.sl 1 [],.sl 5 []] [(0,.t 16)]),zA 18 (.append 13 5 80 (.t 14) (.t 17)),qA 19 4 3,qU 1 19 18] [2,3,7,8,9]))) (.reg [qk 20 .add 9 1,zM 9 20] [2,3,7,8,9]))))))) (qr [qT 21 5 3,qS 5 2 21] [2]))))
theorem K.kK : iR pZ 170 1 0 C.kK [.cell 2 true 5]=true:=by kernel_rfl
def C.rV : bW:=(qs [qX 1 10 0,qZ 2 11,qB 3 false] [1,2] (.seq (qs [qT 4 8 1,q1 5 168 4,qO 6 5] [1,2,6] (qc 6 (qr [zA 7 (.build zN []),qS 5 2 7,qB 3 false] [2,3]) .skip)) (.seq (.qj [(zA 8 (.kT 12 1 4 [.str []] [(0,.k (.c (.str [102,114,111,109]))),(1,.k (.c (.str [111,112]))),(2,.k (.c (.str [112,97,116,104]))),(3,.k (.c (.str [118,97,108,117,101])))]),[]),(qA 9 2 1,[]),(qF 10 1 9,[1]),(q1 11 170 10,[1,2]),(qA 12 0 1,[]),(qF 13 1 12,[4]),(q1 14 130 13,[1,2,3,4,5]),(zA 15 (.build zN [(0,1,kI 2),(2,1,.t 14)]),[1,2,3,4,5,6]),(qA 16 1 1,[]),(qF 17 1 16,[8]),(q1 18 170 17,[1,2,3,4,5,6,8,9]),(qA 19 3 1,[]),(qT 20 5 19,[11]),(q1 21 74 20,[1,2,3,4,5,6,8,9,10,11,12]),(zA 22 (.kT 13 5 4 [.lit (.int .i64 0),.lit (.int .i64 0),.str [],.sl 1 [],.sl 5 []] [(0,.t 11),(1,.t 15),(2,.t 18),(3,.t 21)]),[1,2,3,4,5,6,7,8,9,10,11,12,13]),(zA 23 (.build zN [(0,1,kI 4),(3,1,.t 8),(4,1,.t 22)]),[0,1,2,3,4,5,6,7,8,9,10,11,12,13,14]),(⟨none,some 24,.call 169 [.t 23,.k (.c (.lit (.bool true)))]⟩,[0,1,2,3,4,5,6,7,8,9,10,11,12,13,14,15]),(qE 25 24 0,[0,1,2,3,4,5,6,7,8,9,10,11,12,13,14,15,16]),(qE 26 24 1,[0,1,2,3,4,5,6,7,8,9,10,11,12,13,14,15,16]),(qS 5 2 25,[0,1,2,3,4,5,6,7,8,9,10,11,12,13,14,15,16,17,18]),(zM 3 26,[0,1,2,3,4,5,6,7,8,9,10,11,12,13,14,15,16,17,18,19])] [2,3]) .ret)))
theorem K.rV : iR pZ 133 1 0 C.rV [.cell 2 true 5,.tmp 3]=true:=by kernel_rfl
def C.kG : bW:=(qs [zA 2 (.mv (.k (.c (.str [])))),qB 3 false] [0] (qs [zA 4 (.EJ 40 5 11 10)] [0,4] (.seq (qs [zM 9 0,qL 10 9,qI 11 0] [4,9,10,11] (.block 0 (.loop (qs [qb 12 .lss 11 10] [4,9,10,11,12] (.seq (qc 12 .skip (.exit 0)) (.seq (.block 1 (qs [qD 13 8 9 11,qT 14 8 13,zA 6 (.alloc 12 [lN 0,.jC 1,.jC 1,lN 0,lN 0,.c (.str []),.jC 1,.jC 5]),qS 8 6 14] [4,6,9,10,11] (qs [qT 16 8 6,q1 17 133 16,zM 15 17,qE 18 15 0,qE 19 15 1,qZ 7 13,qS 5 7 18,zM 8 19] [4,7,8,9,10,11] (.seq (qs [zM 20 8,qO 21 20] [4,7,9,10,11,21] (qc 21 (qr [zA 2 (.mv (.k (.c (.str [])))),qB 3 false] [2,3]) .skip)) (qs [qT 22 5 7,q2 23 89 4 22] [4,9,10,11] (.reg [⟨none,some 24,.call 12 [.t 4,.k (.c (.lit (.int .u8 59)))]⟩] [4,9,10,11])))))) (.reg [qk 25 .add 11 1,zM 11 25] [4,9,10,11]))))))) (qr [q1 26 13 4,zM 2 26,qB 3 true] [2,3]))))
theorem K.kG : iR pZ 82 1 0 C.kG [.tmp 2,.tmp 3]=true:=by kernel_rfl
def C.lI : bW:=(qs [qX 1 10 0,qB 2 false] [1] (qr [qA 3 0 1,qF 4 1 3,qk 5 .geq 4 1,zM 6 5,zG 6 true 7 (.jZ 0 (.t 1)),zG 6 true 8 (.load false 1 (.t 7)),zG 6 true 9 (.bin .leq (.t 8) (kI 5)),qP 10 6 9,zM 11 10,zG 11 true 12 (.jZ 1 (.t 1)),zG 11 true 13 (.load false 1 (.t 12)),⟨(some (11,true)),some 14,.call 71 [.t 13]⟩,qP 15 11 14,zM 16 15,zG 16 true 17 (.jZ 2 (.t 1)),zG 16 true 18 (.load false 1 (.t 17)),⟨(some (16,true)),some 19,.call 131 [.t 18]⟩,qP 20 16 19,zM 21 20,zG 21 true 22 (.jZ 3 (.t 1)),zG 21 true 23 (.load false 1 (.t 22)),⟨(some (21,true)),some 24,.call 131 [.t 23]⟩,qP 25 21 24,zM 26 25,zG 26 true 27 (.jZ 4 (.t 1)),zG 26 true 28 (.load true 5 (.t 27)),⟨(some (26,true)),some 29,.call 72 [.t 28]⟩,qP 30 26 29,zM 31 30,zG 31 true 32 (.jZ 9 (.t 1)),zG 31 true 33 (.load false 1 (.t 32)),⟨(some (31,true)),some 34,.call 132 [.t 33]⟩,qP 35 31 34,zM 2 35] [2]))
theorem K.lI : iR pZ 81 1 0 C.lI [.tmp 2]=true:=by kernel_rfl
def C.ny : bW:=(qs [zA 2 (.mv (.k (.c (.str []))))] [0] (.seq (qs [zM 3 0] [3] (.block 0 (qs [qk 5 .eql 3 1,zM 4 5] [3,4] (qc 4 (qr [zA 2 (.mv (.k (.c (.str [103,101,116]))))] [2]) (qs [qk 7 .eql 3 2,zM 6 7] [3,6] (qc 6 (qr [zA 2 (.mv (.k (.c (.str [112,117,116]))))] [2]) (qs [qk 9 .eql 3 3,zM 8 9] [3,8] (qc 8 (qr [zA 2 (.mv (.k (.c (.str [100,101,108,101,116,101]))))] [2]) (qs [qk 11 .eql 3 4,zM 10 11] [3,10] (qc 10 (qr [zA 2 (.mv (.k (.c (.str [112,97,116,99,104]))))] [2]) (qs [qk 13 .eql 3 5,zM 12 13] [12] (qc 12 (qr [zA 2 (.mv (.k (.c (.str [109,101,114,103,101]))))] [2]) .skip)))))))))))) (qr [zA 2 (.mv (.k (.c (.str []))))] [2])))
theorem K.ny : iR pZ 44 1 0 C.ny [.tmp 2]=true:=by kernel_rfl
def C.aT : bW:=(qs [qX 1 10 0,zA 2 (.mv (.k (.c (.str []))))] [1] (.seq (qs [qT 7 10 1,q1 8 81 7,qO 9 8] [1,9] (qc 9 (qr [zA 2 (.mv (.k (.c (.str []))))] [2]) .skip)) (qs [qA 10 0 1,qF 11 1 10,qk 12 .eql 11 2,zM 13 12,zG 13 false 14 (.jZ 0 (.t 1)),zG 13 false 15 (.load false 1 (.t 14)),zG 13 false 16 (.bin .eql (.t 15) (kI 5)),qQ 17 13 16,zM 3 17] [1,3] (.cut (qs [zM 18 3,qO 19 18,zM 20 19,zG 20 true 21 (.jZ 4 (.t 1)),zG 20 true 22 (.jZ 0 (.t 21)),zG 20 true 23 (.load false 1 (.t 22)),zG 20 true 24 (.bin .neq (.t 23) (kI 0)),qP 25 20 24,zM 26 25,zG 26 false 27 (.jZ 0 (.t 1)),zG 26 false 28 (.load false 1 (.t 27)),zG 26 false 29 (.bin .neq (.t 28) (kI 4)),qm 26 false 30 29,zG 30 true 31 (.jZ 9 (.t 1)),zG 30 true 32 (.load false 1 (.t 31)),zG 30 true 33 (.len (.t 32)),zG 30 true 34 (.bin .gtr (.t 33) (kI 0)),zG 26 false 35 (.pick (.t 30) (.t 34) (kB false)),qQ 36 26 35] [1,36] (qc 36 (qr [zA 2 (.mv (.k (.c (.str []))))] [2]) .skip)) (qs [qA 37 4 1,qT 38 5 37,q1 39 50 38,zM 4 39] [1,4] (.cut (qs [qA 40 0 1,qF 41 1 40,qk 42 .eql 41 4] [1,4,42] (qc 42 (qs [qA 44 9 1,qF 45 1 44,q1 46 82 45,zM 43 46,qE 47 43 0,qE 48 43 1,zM 5 47,zM 6 48] [1,5,6] (.seq (qs [zM 49 6,qO 50 49] [1,5,50] (qc 50 (qr [zA 2 (.mv (.k (.c (.str []))))] [2]) .skip)) (.reg [zM 51 5,zM 4 51] [1,4]))) .skip)) (.seq (.qj [(qA 52 0 1,[]),(qF 53 1 52,[0]),(q1 54 44 53,[0,1]),(qA 55 1 1,[]),(qF 56 1 55,[3]),(qA 57 2 1,[]),(qF 58 1 57,[5]),(q1 59 83 58,[0,1,2,5,6]),(qA 60 3 1,[]),(qF 61 1 60,[8]),(q1 62 83 61,[0,1,2,5,6,7,8,9]),(zM 63 4,[]),(zA 64 (.kT 11 1 5 [.str []] [(0,.t 54),(1,.t 56),(2,.t 59),(3,.t 62),(4,.t 63)]),[0,1,2,3,4,5,6,7,8,9,10,11]),(⟨none,some 65,.call 37 [.t 64,.k (.c (.str [32]))]⟩,[0,1,2,3,4,5,6,7,8,9,10,11,12]),(zM 2 65,[0,1,2,3,4,5,6,7,8,9,10,11,12,13])] [2]) .ret)))))))
theorem K.aT : iR pZ 48 1 0 C.aT [.tmp 2]=true:=by kernel_rfl
def C.tV : bW:=(qs [qX 2 10 0,zA 4 (.alloc 11 [.c (.str []),lN 0,lN 0,lN 0,.c (.str []),.jC 1,.jC 5]),qB 5 false] [1,2,4] (.seq (qs [qT 8 2 2,q1 9 39 8,qO 10 9] [1,2,4,10] (qc 10 (qr [zA 11 (.build [.c (.str []),lN 0,lN 0,lN 0,.c (.str []),.jC 1,.jC 5] []),qS 7 4 11,qB 5 false] [4,5]) .skip)) (qs [qA 13 0 2,qF 14 1 13,zM 15 1,q2 16 135 14 15,zM 12 16,qE 17 12 0,qE 18 12 1,zM 6 17,zM 7 18] [2,4,6,7] (.seq (qs [zM 19 7,qO 20 19] [2,4,6,20] (qc 20 (qr [zA 21 (.build [.c (.str []),lN 0,lN 0,lN 0,.c (.str []),.jC 1,.jC 5] []),qS 7 4 21,qB 5 false] [4,5]) .skip)) (qr [qA 22 0 2,qF 23 1 22,zM 24 6,qD 25 7 23 24,qT 26 7 25,q1 27 41 26,qS 7 4 27,qB 5 true] [4,5])))))
theorem K.tV : iR pZ 84 2 0 C.tV [.cell 4 true 7,.tmp 5]=true:=by kernel_rfl
def C.jh : bW:=(qs [zA 2 (.mv (.k (.c (.str []))))] [0] (qs [qI 3 17] [0,3] (.seq (qs [qI 4 0] [0,3,4] (.block 0 (.loop (.seq (qs [zM 7 4,zM 8 0,ql 9 8,qb 10 .lss 7 9] [0,3,4,10] (qc 10 .skip (.exit 0))) (.seq (.block 1 (.reg [zM 13 3,zA 14 (.bin .mul (kI 131) (.t 13)),zM 15 0,zM 16 4,zA 17 (.idxs (.t 15) (.t 16)),zA 18 (.GH .i64 (.t 17)),qb 19 .add 14 18,qk 20 .rem 19 65521,zM 3 20] [0,3,4])) (.reg [zM 11 4,qk 12 .add 11 1,zM 4 12] [0,3,4])))))) (qs [zA 5 (.J6 10 1 4 [.lit (.int .u8 0)])] [3,5] (.seq (qs [qI 6 3] [3,5,6] (.block 2 (.loop (.seq (qs [zM 21 6,qk 22 .geq 21 0] [3,5,6,22] (qc 22 .skip (.exit 2))) (.seq (.block 3 (qs [zM 25 6,zM 26 3,qk 27 .rem 26 16,zA 28 (.idxs (.k (.c (.str [48,49,50,51,52,53,54,55,56,57,97,98,99,100,101,102]))) (.t 27)),zA 29 (.Qe 1 4 (.t 5) (.t 25)),qU 1 29 28] [3,5,6] (.reg [zM 30 3,qk 31 .quo 30 16,zM 3 31] [3,5,6]))) (.reg [zM 23 6,qk 24 .sub 23 1,zM 6 24] [3,5,6])))))) (qr [zA 32 (.QC 1 4 (.t 5)),zA 33 (.PS (.t 32)),zM 2 33] [2]))))))
theorem K.jh : iR pZ 136 1 0 C.jh [.tmp 2]=true:=by kernel_rfl
def C.uq : bW:=(qs [qX 1 10 0,zA 2 (.mv (.k (.c (.str []))))] [1] (.seq (qs [qT 3 5 1,q1 4 72 3,qO 5 4] [1,5] (qc 5 (qr [zA 2 (.mv (.k (.c (.str []))))] [2]) .skip)) (qr [qT 6 5 1,q1 7 50 6,q1 8 136 7,zM 2 8] [2])))
theorem K.uq : iR pZ 85 1 0 C.uq [.tmp 2]=true:=by kernel_rfl
def C.pG : bW:=(qs [qX 2 10 0,qX 3 11 1,zA 4 (.alloc 12 [.jC 7,lN 0]),zA 5 (.alloc 13 [lN 0,.c (.str []),lN 0,lN 0,lN 0,.c (.str []),.jC 1,.jC 5])] [2,3,4,5] (qs [qT 9 2 2,qA 10 1 3,qF 11 1 10,q2 12 138 9 11,zM 8 12,qE 13 8 0,qE 14 8 1,zA 6 (.alloc 14 [.jC 7,lN 0]),qS 2 6 13,zM 7 14] [2,4,5,6,7] (.seq (qs [zM 15 7,qO 16 15] [2,4,5,6,16] (qc 16 (qr [qT 17 2 2,q1 18 24 17,zA 19 (.build [lN 0,.c (.str []),lN 0,lN 0,lN 0,.c (.str []),.jC 1,.jC 5] [(0,1,kI 422)]),qS 2 4 18,qS 8 5 19] [4,5]) .skip)) (.seq (.qj [(qT 20 2 6,[]),(qA 21 1 6,[]),(qF 22 1 21,[1]),(zA 23 (.build [lN 0,.c (.str []),lN 0,lN 0,lN 0,.c (.str []),.jC 1,.jC 5] [(0,1,kI 200),(2,1,.t 22)]),[1,2]),(qS 2 4 20,[0]),(qS 8 5 23,[0,1,2,3,4])] [4,5]) .ret))))
theorem K.pG : iR pZ 87 2 0 C.pG [.cell 4 true 2,.cell 5 true 8]=true:=by kernel_rfl
def C.nP : bW:=C.ins 7 104 215 [.str [],.lit (.int .i64 0),.lit (.int .i64 0),.lit (.int .i64 0),.str [],.sl 1 [],.sl 5 []]
theorem K.nP : iR pZ 201 3 2 C.nP [.tmp 6]=true:=by kernel_rfl
def C.vT : bW:=(qs [qX 3 10 1,zA 4 (.mv (.k (.jC 7)))] [0,3] (qs [zM 8 0,qA 9 0 3,qF 10 1 9,q2 11 135 8 10,zM 7 11,qE 12 7 0,qE 13 7 1,zM 5 12,zM 6 13] [0,3,5,6] (.seq (qs [zM 14 6] [0,3,5,14] (qc 14 (qs [zM 15 0,zM 16 5,qT 17 7 3,qD 18 7 15 16,qS 7 18 17] [0] (qr [zM 19 0,zM 4 19] [4])) .skip)) (qr [zM 20 0,zM 21 5,qT 22 7 3,zA 23 (.kT 11 7 1 [.str [],.lit (.int .i64 0),.lit (.int .i64 0),.lit (.int .i64 0),.str [],.sl 1 [],.sl 5 []] [(0,.t 22)]),q3 24 201 20 21 23,zM 4 24] [4]))))
theorem K.vT : iR pZ 178 2 1 C.vT [.tmp 4]=true:=by kernel_rfl
def C.tX : bW:=(qs [qX 3 10 0,qX 5 11 2,zA 6 (.alloc 12 [.jC 7,lN 0]),qB 7 false] [1,3,5,6] (.seq (qs [qT 9 2 3,q1 10 39 9,qO 11 10,zM 12 11,qm 12 false 13 1,⟨(some (12,false)),some 14,.call 71 [.t 13]⟩,zG 12 false 15 (.not (.t 14)),qQ 16 12 15,zM 17 16,zG 17 false 18 (.load true 5 (.t 5)),⟨(some (17,false)),some 19,.call 72 [.t 18]⟩,zG 17 false 20 (.not (.t 19)),qQ 21 17 20] [1,3,5,6,21] (qc 21 (qr [zA 22 (.build [.jC 7,lN 0] []),qS 2 6 22,qB 7 false] [6,7]) .skip)) (qs [qT 23 2 3,q1 24 24 23,zA 8 (.alloc 13 [.jC 7,lN 0]),qS 2 8 24] [1,5,6,8] (qs [qA 25 1 8,qF 26 1 25,qk 27 .add 26 1,qA 28 1 8,qU 1 28 27] [1,5,6,8] (.seq (.qj [(qA 29 0 8,[]),(qF 30 1 29,[0]),(zM 31 1,[]),(qA 32 1 8,[]),(qF 33 1 32,[3]),(qT 34 5 5,[]),(q1 35 74 34,[5]),(zA 36 (.build [.c (.str []),lN 0,lN 0,lN 0,.c (.str []),.jC 1,.jC 5] [(0,1,.t 31),(1,1,.t 33),(2,5,.t 35)]),[2,3,4,5,6]),(q2 37 178 30 36,[0,1,2,3,4,5,6,7]),(qA 38 0 8,[0,1,2,3,4,5,6,7,8]),(qU 1 38 37,[0,1,2,3,4,5,6,7,8,9])] [6,8]) (.seq (qs [qT 39 2 8,q1 40 39 39,qO 41 40] [6,8,41] (qc 41 (qr [zA 42 (.build [.jC 7,lN 0] []),qS 2 6 42,qB 7 false] [6,7]) .skip)) (qr [qT 43 2 8,qS 2 6 43,qB 7 true] [6,7])))))))
theorem K.tX : iR pZ 140 3 0 C.tX [.cell 6 true 2,.tmp 7]=true:=by kernel_rfl
def C.uA : bW:=(qs [zM 7 0,qN 8 7,qA 9 3 8,qF 10 1 9,zM 11 1,q2 12 212 10 11,zM 6 12,qE 13 6 0,qE 14 6 1,zM 4 13,zM 5 14] [0,4,5] (qs [zM 15 5] [0,4,15] (qc 15 (qs [zM 16 0,zM 17 0,qN 18 17,qA 19 3 18,qF 20 1 19,zM 21 4,zM 22 4,qk 23 .add 22 1,q3 24 225 20 21 23,qN 25 16,qA 26 3 25,qU 1 26 24] [0,4] (.reg [zM 27 0,zM 28 0,qN 29 28,qA 30 4 29,qF 31 1 30,zM 32 4,zM 33 4,qk 34 .add 33 1,q3 35 226 31 32 34,qN 36 27,qA 37 4 36,qU 1 37 35] [])) .skip)))
theorem K.uA : iR pZ 211 2 3 C.uA []=true:=by kernel_rfl
def C.dM : bW:=(qs [qX 2 10 0,qX 3 11 1,qZ 4 12] [2,3,4] (.seq (qs [qA 11 0 3,qF 12 1 11,qk 13 .neq 12 4] [2,3,4,13] (qc 13 (qr [qT 14 5 3,q1 15 74 14,qS 5 4 15] [4]) .skip)) (qs [zA 16 (.build zN [(0,1,kI 4)]),qZ 5 13,qS 5 5 16] [2,3,4,5] (.cut (qs [qA 17 0 2,qF 18 1 17,qk 19 .eql 18 4] [2,3,4,5,19] (qc 19 (.reg [qT 20 5 2,q1 21 74 20,qS 5 5 21] [3,4,5]) .skip)) (.seq (qs [qA 22 3 3,qF 23 1 22,qL 24 23,qI 25 0] [3,4,5,23,24,25] (.block 0 (.loop (qs [qb 26 .lss 25 24] [3,4,5,23,24,25,26] (.seq (qc 26 .skip (.exit 0)) (.seq (.block 1 (qs [zM 27 25,qD 28 1 23 25,qF 29 1 28,zM 6 27,zM 7 29] [3,4,5,6,7,23,24,25] (.seq (qs [qA 30 4 3,qF 31 1 30,zM 32 6,qD 33 5 31 32,qA 34 0 33,qF 35 1 34,qk 36 .eql 35 0] [3,4,5,6,7,23,24,25,36] (qc 36 (qs [zM 37 7,q2 38 211 5 37] [3,4,5,23,24,25] (.exit 1)) .skip)) (qs [qZ 8 14] [3,4,5,6,7,8,23,24,25] (.cut (qs [qA 40 3 5,qF 41 1 40,zM 42 7,q2 43 212 41 42,zM 39 43,qE 44 39 0,qE 45 39 1,zM 9 44,zM 10 45] [3,4,5,6,7,8,9,10,23,24,25] (qs [zM 46 10] [3,4,5,6,7,8,9,23,24,25,46] (qc 46 (.reg [qA 47 4 5,qF 48 1 47,zM 49 9,qD 50 5 48 49,qT 51 5 50,qS 5 8 51] [3,4,5,6,7,8,23,24,25]) .skip))) (.qj [(zM 52 7,[]),(qT 53 5 8,[]),(qA 54 4 3,[]),(qF 55 1 54,[2]),(zM 56 6,[]),(qD 57 5 55 56,[2,3,4]),(qT 58 5 57,[2,3,4,5]),(q2 59 200 53 58,[1,2,3,4,5,6]),(q3 60 213 5 52 59,[0,1,2,3,4,5,6,7])] [3,4,5,23,24,25])))))) (.reg [qk 61 .add 25 1,zM 25 61] [3,4,5,23,24,25]))))))) (qr [qT 62 5 5,qS 5 4 62] [4]))))))
theorem K.dM : iR pZ 200 2 0 C.dM [.cell 4 true 5]=true:=by kernel_rfl
def C.qC : bW:=(qs [qX 2 10 0,qX 3 11 1,qZ 4 12,qB 5 false] [2,3,4] (.seq (qs [qT 6 5 2,q1 7 72 6,qO 8 7,zM 9 8,zG 9 false 10 (.load true 5 (.t 3)),⟨(some (9,false)),some 11,.call 72 [.t 10]⟩,zG 9 false 12 (.not (.t 11)),qQ 13 9 12] [2,3,4,13] (qc 13 (qr [zA 14 (.build zN []),qS 5 4 14,qB 5 false] [4,5]) .skip)) (qr [qT 15 5 2,qT 16 5 3,q2 17 200 15 16,⟨none,some 18,.call 169 [.t 17,.k (.c (.lit (.bool true)))]⟩,qE 19 18 0,qE 20 18 1,qS 5 4 19,zM 5 20] [4,5])))
theorem K.qC : iR pZ 177 2 0 C.qC [.cell 4 true 5,.tmp 5]=true:=by kernel_rfl
def C.tZ : bW:=(qs [qX 2 10 0,qX 3 11 1,qZ 4 12,qB 5 false] [2,3,4] (.seq (qs [qA 6 0 3,qF 7 1 6] [2,3,4,7] (.block 0 (qs [qk 9 .eql 7 4,zM 8 9] [2,3,4,7,8] (qc 8 (qr [qT 10 5 2,qA 11 9 3,qF 12 1 11,q2 13 176 10 12,qE 14 13 0,qE 15 13 1,qS 5 4 14,zM 5 15] [4,5]) (qs [qk 17 .eql 7 5,zM 16 17] [2,3,4,16] (qc 16 (qr [qT 18 5 2,qA 19 4 3,qT 20 5 19,q2 21 177 18 20,qE 22 21 0,qE 23 21 1,qS 5 4 22,zM 5 23] [4,5]) .skip)))))) (qr [qA 24 4 3,qT 25 5 24,qS 5 4 25,qB 5 true] [4,5])))
theorem K.tZ : iR pZ 139 2 0 C.tZ [.cell 4 true 5,.tmp 5]=true:=by kernel_rfl
def C.ni : bW:=(qs [qX 4 10 0,qX 5 11 1,qX 6 12 2,zA 8 (.alloc 13 [.jC 7,lN 0]),zA 9 (.alloc 14 [lN 0,.c (.str []),lN 0,lN 0,lN 0,.c (.str []),.jC 1,.jC 5])] [3,4,5,6,8,9] (qs [qT 15 5 6,qT 16 10 5,q2 17 139 15 16,zM 14 17,qE 18 14 0,qE 19 14 1,qZ 10 15,qS 5 10 18,zM 11 19] [3,4,5,8,9,10,11] (.seq (qs [zM 20 11,qO 21 20] [3,4,5,8,9,10,21] (qc 21 (qr [qT 22 2 4,q1 23 24 22,zA 24 (.build [lN 0,.c (.str []),lN 0,lN 0,lN 0,.c (.str []),.jC 1,.jC 5] [(0,1,kI 422)]),qS 2 8 23,qS 8 9 24] [8,9]) .skip)) (qs [qT 26 2 4,qA 27 1 5,qF 28 1 27,qT 29 5 10,q3 30 140 26 28 29,zM 25 30,qE 31 25 0,qE 32 25 1,zA 12 (.alloc 16 [.jC 7,lN 0]),qS 2 12 31,zM 11 32] [3,4,8,9,10,11,12] (.seq (qs [zM 33 11,qO 34 33] [3,4,8,9,10,12,34] (qc 34 (qr [qT 35 2 4,q1 36 24 35,zA 37 (.build [lN 0,.c (.str []),lN 0,lN 0,lN 0,.c (.str []),.jC 1,.jC 5] [(0,1,kI 422)]),qS 2 8 36,qS 8 9 37] [8,9]) .skip)) (.seq (.qj [(qT 38 5 10,[]),(q1 39 85 38,[0]),(qA 40 1 12,[]),(qF 41 1 40,[2]),(zA 42 (.build [lN 0,.c (.str []),lN 0,lN 0,lN 0,.c (.str []),.jC 1,.jC 5] [(0,1,kI 200),(1,1,.t 39),(2,1,.t 41)]),[0,1,2,3]),(zA 13 (.alloc 17 [lN 0,.c (.str []),lN 0,lN 0,lN 0,.c (.str []),.jC 1,.jC 5]),[]),(qS 8 13 42,[0,1,2,3,4,5])] [3,8,9,12,13]) (.seq (qs [zM 43 3,qO 44 43] [8,9,12,13,44] (qc 44 (.reg [qA 45 0 13,zS (.store false 1 (.t 45) (kI 201))] [8,9,12,13]) .skip)) (.seq (.qj [(qT 46 2 12,[]),(qT 47 8 13,[]),(qS 2 8 46,[0]),(qS 8 9 47,[0,1,2])] [8,9]) .ret))))))))
theorem K.ni : iR pZ 88 4 0 C.ni [.cell 8 true 2,.cell 9 true 8]=true:=by kernel_rfl
def C.gV : bW:=(qs [qX 2 10 0,qX 3 11 1,zA 4 (.alloc 12 [.jC 7,lN 0]),zA 5 (.alloc 13 [lN 0,.c (.str []),lN 0,lN 0,lN 0,.c (.str []),.jC 1,.jC 5])] [2,3,4,5] (.seq (qs [qT 10 2 2,q1 11 39 10,qO 12 11,zM 13 12,zG 13 false 14 (.load true 10 (.t 3)),⟨(some (13,false)),some 15,.call 81 [.t 14]⟩,zG 13 false 16 (.not (.t 15)),qQ 17 13 16] [2,3,4,5,17] (qc 17 (qr [zA 18 (.build [.jC 7,lN 0] []),zA 19 (.build [lN 0,.c (.str []),lN 0,lN 0,lN 0,.c (.str []),.jC 1,.jC 5] [(0,1,kI 400)]),qS 2 4 18,qS 8 5 19] [4,5]) .skip)) (qs [qT 21 2 2,qA 22 1 3,qF 23 1 22,q2 24 84 21 23,zM 20 24,qE 25 20 0,qE 26 20 1,zA 6 (.alloc 14 [.c (.str []),lN 0,lN 0,lN 0,.c (.str []),.jC 1,.jC 5]),qS 7 6 25,zM 7 26] [2,3,4,5,6,7] (.seq (qs [zM 27 7,qO 28 27,zM 29 28,zG 29 true 30 (.jZ 0 (.t 3)),zG 29 true 31 (.load false 1 (.t 30)),zG 29 true 32 (.bin .neq (.t 31) (kI 2)),qP 33 29 32] [2,3,4,5,6,7,33] (qc 33 (qr [qT 34 2 2,q1 35 24 34,zA 36 (.build [lN 0,.c (.str []),lN 0,lN 0,lN 0,.c (.str []),.jC 1,.jC 5] [(0,1,kI 404)]),qS 2 4 35,qS 8 5 36] [4,5]) .skip)) (qs [zA 8 (.mv (.k (.c (.str []))))] [2,3,4,5,6,7,8] (.cut (qs [zM 37 7] [2,3,4,5,6,7,8,37] (qc 37 (.reg [qA 38 2 6,qT 39 5 38,q1 40 85 39,zM 8 40] [2,3,4,5,6,7,8]) .skip)) (qs [qA 41 2 3,qF 42 1 41,qA 43 3 3,qF 44 1 43,zM 45 8,qA 46 0 3,qF 47 1 46,qk 48 .eql 47 1,⟨none,some 49,.call 86 [.t 42,.t 44,.t 45,.t 48]⟩,zM 9 49] [2,3,4,5,6,7,8,9] (.seq (qs [zM 50 9,qk 51 .neq 50 200] [2,3,4,5,6,7,8,9,51] (qc 51 (qr [qT 52 2 2,q1 53 24 52,zM 54 9,zA 55 (.build [lN 0,.c (.str []),lN 0,lN 0,lN 0,.c (.str []),.jC 1,.jC 5] [(0,1,.t 54)]),qS 2 4 53,qS 8 5 55] [4,5]) .skip)) (.seq (qs [qA 56 0 3,qF 57 1 56] [2,3,4,5,6,7,8,57] (.block 0 (qs [qk 59 .eql 57 1,zM 58 59] [2,3,4,5,6,7,8,57,58] (qc 58 (.seq (.qj [(qT 60 2 2,[]),(q1 61 24 60,[0]),(zM 62 8,[]),(qA 63 1 6,[]),(qF 64 1 63,[3]),(qA 65 2 6,[]),(qT 66 5 65,[5]),(zA 67 (.build [lN 0,.c (.str []),lN 0,lN 0,lN 0,.c (.str []),.jC 1,.jC 5] [(0,1,kI 200),(1,1,.t 62),(2,1,.t 64),(3,5,.t 66)]),[2,3,4,5,6]),(qS 2 4 61,[0,1]),(qS 8 5 67,[0,1,2,3,4,5,6,7,8])] [4,5]) .ret) (qs [qk 69 .eql 57 3,zM 68 69] [2,3,4,5,6,7,68] (qc 68 (qr [qT 70 2 2,qT 71 10 3,q2 72 87 70 71,qE 73 72 0,qE 74 72 1,qS 2 4 73,qS 8 5 74] [4,5]) .skip)))))) (qr [qT 75 2 2,qT 76 10 3,qA 77 2 6,qT 78 5 77,zM 79 7,⟨none,some 80,.call 88 [.t 75,.t 76,.t 78,.t 79]⟩,qE 81 80 0,qE 82 80 1,qS 2 4 81,qS 8 5 82] [4,5]))))))))))
theorem K.gV : iR pZ 49 2 0 C.gV [.cell 4 true 2,.cell 5 true 8]=true:=by kernel_rfl
def C.jF : bW:=(qs [qX 1 10 0,zA 2 (.mv (.k (.jC 1))),qB 3 false] [1] (.seq (qs [qA 7 0 1,qF 8 1 7,qk 9 .neq 8 3] [1,9] (qc 9 (qr [zA 2 (.mv (.k (.jC 1))),qB 3 false] [2,3]) .skip)) (qs [zA 4 (.mv (.k (.jC 1)))] [1,4] (.seq (qs [qA 10 4 1,qF 11 1 10,qL 12 11,qI 13 0] [4,11,12,13] (.block 0 (.loop (qs [qb 14 .lss 13 12] [4,11,12,13,14] (.seq (qc 14 .skip (.exit 0)) (.seq (.block 1 (qs [qD 15 5 11 13,qT 16 5 15,qZ 6 11,qS 5 6 16] [4,6,11,12,13] (.seq (qs [qA 17 0 6,qF 18 1 17,qk 19 .neq 18 2] [4,6,11,12,13,19] (qc 19 (qr [zA 2 (.mv (.k (.jC 1))),qB 3 false] [2,3]) .skip)) (.reg [zM 20 4,qA 21 2 6,qF 22 1 21,zA 23 (.kT 12 1 1 [.str []] [(0,.t 22)]),zA 24 (.append 13 1 16 (.t 20) (.t 23)),zM 4 24] [4,11,12,13])))) (.reg [qk 25 .add 13 1,zM 13 25] [4,11,12,13]))))))) (qr [zM 26 4,zM 27 4,q1 28 167 27,zM 2 26,zM 3 28] [2,3])))))
theorem K.jF : iR pZ 129 1 0 C.jF [.tmp 2,.tmp 3]=true:=by kernel_rfl
def C.Es : bW:=(qs [qI 8 0,qB 9 false] [0,1,2,3] (.seq (qs [zM 11 1,zM 10 11] [0,2,3,10] (.block 0 (.loop (.seq (qs [zM 12 10,zM 13 2,qb 14 .leq 12 13] [0,2,3,10,14] (qc 14 .skip (.exit 0))) (.seq (.block 1 (qs [zM 17 3,zM 18 10,⟨none,some 19,.FX (.t 17) [.t 18]⟩,zM 20 0,qb 21 .eql 19 20] [0,2,3,10,21] (qc 21 (qr [zM 22 10,zM 8 22,qB 9 true] [8,9]) .skip))) (.reg [zM 15 10,qk 16 .add 15 1,zM 10 16] [0,2,3,10])))))) (qr [qI 8 0,qB 9 false] [8,9])))
theorem K.gX : iR pZ 43 4 0 C.Es [.tmp 8,.tmp 9]=true:=by kernel_rfl
def C.rU : bW:=(qs [qX 1 10 0,zA 2 (.alloc 11 [lN 0,.jC 1,.jC 1,lN 0,lN 0,.c (.str []),.jC 1,.jC 5]),qB 3 false] [1,2] (.seq (qs [qT 8 5 1,q1 9 72 8,qO 10 9,zM 11 10,zG 11 false 12 (.jZ 0 (.t 1)),zG 11 false 13 (.load false 1 (.t 12)),zG 11 false 14 (.bin .neq (.t 13) (kI 4)),qQ 15 11 14,zM 16 15,zG 16 false 17 (.jZ 3 (.t 1)),zG 16 false 18 (.load false 1 (.t 17)),zG 16 false 19 (.kT 12 1 4 [.str []] [(0,.k (.c (.str [102,114,111,109]))),(1,.k (.c (.str [111,112]))),(2,.k (.c (.str [112,97,116,104]))),(3,.k (.c (.str [118,97,108,117,101])))]),⟨(some (16,false)),some 20,.call 128 [.t 18,.t 19]⟩,zG 16 false 21 (.not (.t 20)),qQ 22 16 21] [1,2,22] (qc 22 (qr [zA 23 (.build [lN 0,.jC 1,.jC 1,lN 0,lN 0,.c (.str []),.jC 1,.jC 5] []),qS 8 2 23,qB 3 false] [2,3]) .skip)) (qs [qA 25 4 1,qF 26 1 25,zA 27 (.vN 5 (.t 26) (kI 0)),qT 28 5 27,q1 29 129 28,zM 24 29,qE 30 24 0,qE 31 24 1,zM 4 30,zM 5 31] [1,2,4,5] (.seq (qs [zM 32 5,qO 33 32,zM 34 33,zG 34 false 35 (.jZ 4 (.t 1)),zG 34 false 36 (.load false 1 (.t 35)),zG 34 false 37 (.vN 5 (.t 36) (kI 1)),zG 34 false 38 (.jZ 0 (.t 37)),zG 34 false 39 (.load false 1 (.t 38)),zG 34 false 40 (.bin .neq (.t 39) (kI 2)),qQ 41 34 40] [1,2,4,41] (qc 41 (qr [zA 42 (.build [lN 0,.jC 1,.jC 1,lN 0,lN 0,.c (.str []),.jC 1,.jC 5] []),qS 8 2 42,qB 3 false] [2,3]) .skip)) (qs [qA 44 4 1,qF 45 1 44,zA 46 (.vN 5 (.t 45) (kI 1)),qA 47 2 46,qF 48 1 47,⟨none,some 49,.call 43 [.t 48,kI 1,kI 6,.k (.fn 130 [])]⟩,zM 43 49,qE 50 43 0,qE 51 43 1,zM 6 50,zM 5 51] [1,2,4,5,6] (.seq (qs [zM 52 5,qO 53 52] [1,2,4,6,53] (qc 53 (qr [zA 54 (.build [lN 0,.jC 1,.jC 1,lN 0,lN 0,.c (.str []),.jC 1,.jC 5] []),qS 8 2 54,qB 3 false] [2,3]) .skip)) (qs [qA 56 4 1,qF 57 1 56,zA 58 (.vN 5 (.t 57) (kI 2)),qT 59 5 58,q1 60 129 59,zM 55 60,qE 61 55 0,qE 62 55 1,zM 7 61,zM 5 62] [1,2,4,5,6,7] (.seq (qs [zM 63 5,qO 64 63] [1,2,4,6,7,64] (qc 64 (qr [zA 65 (.build [lN 0,.jC 1,.jC 1,lN 0,lN 0,.c (.str []),.jC 1,.jC 5] []),qS 8 2 65,qB 3 false] [2,3]) .skip)) (qr [zM 66 6,zM 67 7,zM 68 4,qA 69 4 1,qF 70 1 69,zA 71 (.vN 5 (.t 70) (kI 3)),qT 72 5 71,q1 73 74 72,zA 74 (.build [lN 0,.jC 1,.jC 1,lN 0,lN 0,.c (.str []),.jC 1,.jC 5] [(0,1,.t 66),(1,1,.t 67),(2,1,.t 68),(3,5,.t 73)]),qS 8 2 74,qB 3 true] [2,3])))))))))
theorem K.rU : iR pZ 80 1 0 C.rU [.cell 2 true 8,.tmp 3]=true:=by kernel_rfl
def C.dL : bW:=(qs [qZ 2 10,qB 3 false] [0,2] (qs [zM 8 0,qN 9 8,qA 10 1 9,qF 11 1 10,zM 4 11] [0,2,4] (.seq (.block 0 (.loop (.seq (qs [zM 12 4,zM 13 0,qN 14 13,qA 15 0 14,qF 16 1 15,ql 17 16,qb 18 .lss 12 17,zM 19 18,qm 19 true 20 0,zG 19 true 21 (.ES (.t 20)),zG 19 true 22 (.jZ 0 (.t 21)),zG 19 true 23 (.load false 1 (.t 22)),qm 19 true 24 4,zG 19 true 25 (.idxs (.t 23) (.t 24)),zG 19 true 26 (.bin .eql (.t 25) (.k (.c (.lit (.int .u8 45))))),qm 19 true 27 26,qm 27 false 28 0,zG 27 false 29 (.ES (.t 28)),zG 27 false 30 (.jZ 0 (.t 29)),zG 27 false 31 (.load false 1 (.t 30)),qm 27 false 32 4,zG 27 false 33 (.idxs (.t 31) (.t 32)),zG 27 false 34 (.bin .geq (.t 33) (.k (.c (.lit (.int .u8 48))))),qm 27 false 35 34,qm 35 true 36 0,zG 35 true 37 (.ES (.t 36)),zG 35 true 38 (.jZ 0 (.t 37)),zG 35 true 39 (.load false 1 (.t 38)),qm 35 true 40 4,zG 35 true 41 (.idxs (.t 39) (.t 40)),zG 35 true 42 (.bin .leq (.t 41) (.k (.c (.lit (.int .u8 57))))),zG 27 false 43 (.pick (.t 35) (.t 42) (kB false)),zG 19 true 44 (.pick (.t 27) (kB true) (.t 43)),qP 45 19 44] [0,2,4,45] (qc 45 .skip (.exit 0))) (.block 1 (.reg [zM 46 4,qk 47 .add 46 1,zM 4 47] [0,2,4]))))) (.seq (.qj [(zM 48 0,[]),(qN 49 48,[0]),(qA 50 0 49,[0,1]),(qF 51 1 50,[0,1,2]),(zM 52 0,[]),(qN 53 52,[4]),(qA 54 1 53,[4,5]),(qF 55 1 54,[4,5,6]),(zM 56 4,[]),(zA 57 (.G7 (.t 51) (some (.t 55)) (some (.t 56))),[0,1,2,3,4,5,6,7,8]),(zM 5 57,[0,1,2,3,4,5,6,7,8,9])] [0,2,4,5]) (qs [zM 59 5,q1 60 165 59,zM 58 60,qE 61 58 0,qE 62 58 1,zM 6 61,zM 7 62] [0,2,4,5,6,7] (.seq (qs [zM 63 7,zA 64 (.RQ true (.t 63)),zM 65 64,qm 65 false 66 6,⟨(some (65,false)),some 67,.call 22 [.t 66]⟩,qm 65 false 68 5,zG 65 false 69 (.bin .neq (.t 67) (.t 68)),qQ 70 65 69] [0,2,4,6,70] (qc 70 (qr [zA 71 (.build zN []),qS 5 2 71,qB 3 false] [2,3]) .skip)) (qs [zM 72 0,zM 73 4,qN 74 72,qA 75 1 74,qU 1 75 73] [2,6] (qr [zM 76 6,zA 77 (.build zN [(0,1,kI 1),(1,1,.t 76)]),qS 5 2 77,qB 3 true] [2,3]))))))))
theorem K.dL : iR pZ 126 1 1 C.dL [.cell 2 true 5,.tmp 3]=true:=by kernel_rfl
def C.iE : bW:=(qs [qB 4 false] [0,1] (.seq (.seq (.qj [(zM 5 0,[]),(qN 6 5,[0]),(qA 7 0 6,[0,1]),(qF 8 1 7,[0,1,2]),(zM 9 0,[]),(qN 10 9,[4]),(qA 11 1 10,[4,5]),(qF 12 1 11,[4,5,6]),(zA 13 (.G7 (.t 8) (some (.t 12)) none),[0,1,2,3,4,5,6,7]),(zM 14 1,[]),(q2 15 127 13 14,[0,1,2,3,4,5,6,7,8,9]),(qO 16 15,[0,1,2,3,4,5,6,7,8,9,10])] [0,1,16]) (qc 16 (qr [qB 4 false] [4]) .skip)) (qs [zM 17 0,qN 18 17,qA 19 1 18,qF 20 1 19,zM 21 1,ql 22 21,qb 23 .add 20 22,qN 24 17,qA 25 1 24,qU 1 25 23] [] (qr [qB 4 true] [4]))))
theorem K.iE : iR pZ 79 2 1 C.iE [.tmp 4]=true:=by kernel_rfl
def C.bI : bW:=(qs [zA 2 (.mv (.k (.c (.str [])))),qB 3 false] [0] (.seq (qs [zM 6 0,⟨none,some 7,.call 79 [.t 6,.k (.c (.str [34]))]⟩,qO 8 7] [0,8] (qc 8 (qr [zA 2 (.mv (.k (.c (.str [])))),qB 3 false] [2,3]) .skip)) (qs [zA 4 (.EJ 40 5 11 10)] [0,4] (.seq (.block 0 (.loop (.seq (.seq (.qj [(zM 9 0,[]),(qN 10 9,[0]),(qA 11 1 10,[0,1]),(qF 12 1 11,[0,1,2]),(zM 13 0,[]),(qN 14 13,[4]),(qA 15 0 14,[4,5]),(qF 16 1 15,[4,5,6]),(ql 17 16,[4,5,6,7]),(qb 18 .lss 12 17,[0,1,2,3,4,5,6,7,8])] [0,4,18]) (qc 18 .skip (.exit 0))) (.block 1 (.seq (.qj [(zM 19 0,[]),(qN 20 19,[0]),(qA 21 0 20,[0,1]),(qF 22 1 21,[0,1,2]),(zM 23 0,[]),(qN 24 23,[4]),(qA 25 1 24,[4,5]),(qF 26 1 25,[4,5,6]),(zA 27 (.idxs (.t 22) (.t 26)),[0,1,2,3,4,5,6,7]),(zM 5 27,[0,1,2,3,4,5,6,7,8])] [0,4,5]) (qs [zM 28 0,qN 29 28,qA 30 1 29,qF 31 1 30,qk 32 .add 31 1,qN 33 28,qA 34 1 33,qU 1 34 32] [0,4,5] (.seq (qs [zM 35 5,zA 36 (.bin .eql (.t 35) (.k (.c (.lit (.int .u8 34)))))] [0,4,5,36] (qc 36 (qr [q1 37 13 4,zM 2 37,qB 3 true] [2,3]) .skip)) (.cut (qs [zM 38 5,zA 39 (.bin .eql (.t 38) (.k (.c (.lit (.int .u8 92)))))] [0,4,5,39] (qc 39 (.seq (.seq (.qj [(zM 40 0,[]),(qN 41 40,[0]),(qA 42 1 41,[0,1]),(qF 43 1 42,[0,1,2]),(zM 44 0,[]),(qN 45 44,[4]),(qA 46 0 45,[4,5]),(qF 47 1 46,[4,5,6]),(ql 48 47,[4,5,6,7]),(qb 49 .eql 43 48,[0,1,2,3,4,5,6,7,8]),(zM 50 49,[0,1,2,3,4,5,6,7,8,9]),(qm 50 false 51 0,[0,1,2,3,4,5,6,7,8,9,10]),(zG 50 false 52 (.ES (.t 51)),[0,1,2,3,4,5,6,7,8,9,10,11]),(zG 50 false 53 (.jZ 0 (.t 52)),[0,1,2,3,4,5,6,7,8,9,10,11,12]),(zG 50 false 54 (.load false 1 (.t 53)),[0,1,2,3,4,5,6,7,8,9,10,11,12,13]),(qm 50 false 55 0,[0,1,2,3,4,5,6,7,8,9,10]),(zG 50 false 56 (.ES (.t 55)),[0,1,2,3,4,5,6,7,8,9,10,15]),(zG 50 false 57 (.jZ 1 (.t 56)),[0,1,2,3,4,5,6,7,8,9,10,15,16]),(zG 50 false 58 (.load false 1 (.t 57)),[0,1,2,3,4,5,6,7,8,9,10,15,16,17]),(zG 50 false 59 (.idxs (.t 54) (.t 58)),[0,1,2,3,4,5,6,7,8,9,10,11,12,13,14,15,16,17,18]),(zG 50 false 60 (.bin .neq (.t 59) (.k (.c (.lit (.int .u8 34))))),[0,1,2,3,4,5,6,7,8,9,10,11,12,13,14,15,16,17,18,19]),(qm 50 false 61 60,[0,1,2,3,4,5,6,7,8,9,10,11,12,13,14,15,16,17,18,19,20]),(qm 61 true 62 0,[0,1,2,3,4,5,6,7,8,9,10,11,12,13,14,15,16,17,18,19,20,21]),(zG 61 true 63 (.ES (.t 62)),[0,1,2,3,4,5,6,7,8,9,10,11,12,13,14,15,16,17,18,19,20,21,22]),(zG 61 true 64 (.jZ 0 (.t 63)),[0,1,2,3,4,5,6,7,8,9,10,11,12,13,14,15,16,17,18,19,20,21,22,23]),(zG 61 true 65 (.load false 1 (.t 64)),[0,1,2,3,4,5,6,7,8,9,10,11,12,13,14,15,16,17,18,19,20,21,22,23,24]),(qm 61 true 66 0,[0,1,2,3,4,5,6,7,8,9,10,11,12,13,14,15,16,17,18,19,20,21]),(zG 61 true 67 (.ES (.t 66)),[0,1,2,3,4,5,6,7,8,9,10,11,12,13,14,15,16,17,18,19,20,21,26]),(zG 61 true 68 (.jZ 1 (.t 67)),[0,1,2,3,4,5,6,7,8,9,10,11,12,13,14,15,16,17,18,19,20,21,26,27]),(zG 61 true 69 (.load false 1 (.t 68)),[0,1,2,3,4,5,6,7,8,9,10,11,12,13,14,15,16,17,18,19,20,21,26,27,28]),(zG 61 true 70 (.idxs (.t 65) (.t 69)),[0,1,2,3,4,5,6,7,8,9,10,11,12,13,14,15,16,17,18,19,20,21,22,23,24,25,26,27,28,29]),(zG 61 true 71 (.bin .neq (.t 70) (.k (.c (.lit (.int .u8 92))))),[0,1,2,3,4,5,6,7,8,9,10,11,12,13,14,15,16,17,18,19,20,21,22,23,24,25,26,27,28,29,30]),(zG 50 false 72 (.pick (.t 61) (.t 71) (kB false)),[0,1,2,3,4,5,6,7,8,9,10,11,12,13,14,15,16,17,18,19,20,21,22,23,24,25,26,27,28,29,30,31]),(qQ 73 50 72,[0,1,2,3,4,5,6,7,8,9,10,11,12,13,14,15,16,17,18,19,20,21,22,23,24,25,26,27,28,29,30,31,32])] [0,4,73]) (qc 73 (qr [zA 2 (.mv (.k (.c (.str [])))),qB 3 false] [2,3]) .skip)) (.seq (.qj [(zM 74 0,[]),(qN 75 74,[0]),(qA 76 0 75,[0,1]),(qF 77 1 76,[0,1,2]),(zM 78 0,[]),(qN 79 78,[4]),(qA 80 1 79,[4,5]),(qF 81 1 80,[4,5,6]),(zA 82 (.idxs (.t 77) (.t 81)),[0,1,2,3,4,5,6,7]),(zM 5 82,[0,1,2,3,4,5,6,7,8])] [0,4,5]) (.reg [zM 83 0,qN 84 83,qA 85 1 84,qF 86 1 85,qk 87 .add 86 1,qN 88 83,qA 89 1 88,qU 1 89 87] [0,4,5]))) .skip)) (.reg [zM 90 5,q2 91 12 4 90] [0,4]))))))))) (qr [zA 2 (.mv (.k (.c (.str [])))),qB 3 false] [2,3])))))
theorem K.bI : iR pZ 124 1 1 C.bI [.tmp 2,.tmp 3]=true:=by kernel_rfl
def C.iw : bW:=(qs [qZ 4 10,qB 5 false] [0,1,4] (.seq (.seq (.qj [(zM 8 1,[]),(qk 9 .gtr 8 5,[0]),(zM 10 9,[0,1]),(qm 10 false 11 0,[0,1,2]),(zG 10 false 12 (.ES (.t 11)),[0,1,2,3]),(zG 10 false 13 (.jZ 1 (.t 12)),[0,1,2,3,4]),(zG 10 false 14 (.load false 1 (.t 13)),[0,1,2,3,4,5]),(qm 10 false 15 0,[0,1,2]),(zG 10 false 16 (.ES (.t 15)),[0,1,2,7]),(zG 10 false 17 (.jZ 0 (.t 16)),[0,1,2,7,8]),(zG 10 false 18 (.load false 1 (.t 17)),[0,1,2,7,8,9]),(zG 10 false 19 (.lens (.t 18)),[0,1,2,7,8,9,10]),(zG 10 false 20 (.bin .geq (.t 14) (.t 19)),[0,1,2,3,4,5,6,7,8,9,10,11]),(qQ 21 10 20,[0,1,2,3,4,5,6,7,8,9,10,11,12])] [0,1,4,21]) (qc 21 (qr [zA 22 (.build zN []),qS 5 4 22,qB 5 false] [4,5]) .skip)) (.seq (.seq (.qj [(zM 23 0,[]),(qN 24 23,[0]),(qA 25 0 24,[0,1]),(qF 26 1 25,[0,1,2]),(zM 27 0,[]),(qN 28 27,[4]),(qA 29 1 28,[4,5]),(qF 30 1 29,[4,5,6]),(zA 31 (.idxs (.t 26) (.t 30)),[0,1,2,3,4,5,6,7])] [0,1,4,31]) (.block 0 (qs [zA 33 (.bin .eql (.t 31) (.k (.c (.lit (.int .u8 110))))),zM 32 33] [0,1,4,31,32] (qc 32 (qr [zA 34 (.build zN []),zM 35 0,⟨none,some 36,.call 79 [.t 35,.k (.c (.str [110,117,108,108]))]⟩,qS 5 4 34,zM 5 36] [4,5]) (qs [zA 38 (.bin .eql (.t 31) (.k (.c (.lit (.int .u8 34))))),zM 37 38] [0,1,4,31,37] (qc 37 (qs [zM 40 0,q1 41 124 40,zM 39 41,qE 42 39 0,qE 43 39 1,zM 6 42,zM 7 43] [4,6,7] (qr [zM 44 6,zA 45 (.build zN [(0,1,kI 2),(2,1,.t 44)]),zM 46 7,qS 5 4 45,zM 5 46] [4,5])) (qs [zA 48 (.bin .eql (.t 31) (.k (.c (.lit (.int .u8 91))))),zM 47 48] [0,1,4,31,47] (qc 47 (qs [zM 49 0,qN 50 49,qA 51 1 50,qF 52 1 51,qk 53 .add 52 1,qN 54 49,qA 55 1 54,qU 1 55 53] [0,1,4] (qr [zM 56 0,zM 57 1,⟨none,some 58,.call 125 [.t 56,kI 3,.t 57,.k (.c (.str [93]))]⟩,qE 59 58 0,qE 60 58 1,qS 5 4 59,zM 5 60] [4,5])) (qs [zA 62 (.bin .eql (.t 31) (.k (.c (.lit (.int .u8 123))))),zM 61 62] [0,1,4,61] (qc 61 (qs [zM 63 0,qN 64 63,qA 65 1 64,qF 66 1 65,qk 67 .add 66 1,qN 68 63,qA 69 1 68,qU 1 69 67] [0,1,4] (qr [zM 70 0,zM 71 1,⟨none,some 72,.call 125 [.t 70,kI 4,.t 71,.k (.c (.str [125]))]⟩,qE 73 72 0,qE 74 72 1,qS 5 4 73,zM 5 74] [4,5])) .skip)))))))))) (qr [zM 75 0,q1 76 126 75,qE 77 76 0,qE 78 76 1,qS 5 4 77,zM 5 78] [4,5]))))
theorem K.iw : iR pZ 78 2 1 C.iw [.cell 4 true 5,.tmp 5]=true:=by kernel_rfl
def C.cu : bW:=(qs [qZ 8 10,qB 9 false] [0,1,2,3,8] (qs [zM 15 1,zA 16 (.build zN [(0,1,.t 15)]),qZ 10 11,qS 5 10 16] [0,1,2,3,8,10] (.seq (qs [zM 17 0,zM 18 3,q2 19 79 17 18] [0,1,2,3,8,10,19] (qc 19 (qr [qT 20 5 10,qS 5 8 20,qB 9 true] [8,9]) .skip)) (.block 0 (.loop (.block 1 (.cut (qs [zM 21 1,qk 22 .eql 21 4] [0,1,2,3,8,10,22] (qc 22 (qs [zM 24 0,q1 25 124 24,zM 23 25,qE 26 23 0,qE 27 23 1,zM 11 26,zM 12 27] [0,1,2,3,8,10,11,12] (.seq (qs [zM 28 12,qO 29 28,zM 30 29,qm 30 false 31 0,⟨(some (30,false)),some 32,.call 79 [.t 31,.k (.c (.str [58]))]⟩,zG 30 false 33 (.not (.t 32)),qQ 34 30 33] [0,1,2,3,8,10,11,34] (qc 34 (qr [zA 35 (.build zN []),qS 5 8 35,qB 9 false] [8,9]) .skip)) (.reg [qA 36 3 10,qF 37 1 36,zM 38 11,zA 39 (.kT 12 1 1 [.str []] [(0,.t 38)]),zA 40 (.append 13 1 16 (.t 37) (.t 39)),qA 41 3 10,qU 1 41 40] [0,1,2,3,8,10]))) .skip)) (qs [zM 43 0,zM 44 2,qk 45 .add 44 1,q2 46 78 43 45,zM 42 46,qE 47 42 0,qE 48 42 1,qZ 13 14,qS 5 13 47,zM 14 48] [0,1,2,3,8,10,13,14] (.seq (qs [zM 49 14,qO 50 49] [0,1,2,3,8,10,13,50] (qc 50 (qr [zA 51 (.build zN []),qS 5 8 51,qB 9 false] [8,9]) .skip)) (qs [qA 52 4 10,qF 53 1 52,qT 54 5 13,zA 55 (.kT 15 5 1 [.lit (.int .i64 0),.lit (.int .i64 0),.str [],.sl 1 [],.sl 5 []] [(0,.t 54)]),zA 56 (.append 16 5 80 (.t 53) (.t 55)),qA 57 4 10,qU 1 57 56] [0,1,2,3,8,10] (.seq (qs [zM 58 0,zM 59 3,q2 60 79 58 59] [0,1,2,3,8,10,60] (qc 60 (qr [qT 61 5 10,qS 5 8 61,qB 9 true] [8,9]) .skip)) (qs [zM 62 0,⟨none,some 63,.call 79 [.t 62,.k (.c (.str [44]))]⟩,qO 64 63] [0,1,2,3,8,10,64] (qc 64 (qr [zA 65 (.build zN []),qS 5 8 65,qB 9 false] [8,9]) .skip)))))))))))))
theorem K.cu : iR pZ 125 4 1 C.cu [.cell 8 true 5,.tmp 9]=true:=by kernel_rfl
def C.qG : bW:=(qs [qZ 2 10,qB 3 false] [0,2] (.seq (qs [zM 7 0,ql 8 7,qk 9 .gtr 8 2000] [0,2,9] (qc 9 (qr [zA 10 (.build zN []),qS 5 2 10,qB 3 false] [2,3]) .skip)) (qs [zM 11 0,zA 12 (.build [.c (.str []),lN 0] [(0,1,.t 11)]),zA 4 (.alloc 11 [.c (.str []),lN 0]),qS 2 4 12] [0,2,4] (qs [⟨none,some 14,.call 78 [.t 4,kI 1]⟩,zM 13 14,qE 15 13 0,qE 16 13 1,qZ 5 12,qS 5 5 15,zM 6 16] [0,2,4,5,6] (.seq (qs [zM 17 6,qO 18 17,zM 19 18,zG 19 false 20 (.jZ 1 (.t 4)),zG 19 false 21 (.load false 1 (.t 20)),qm 19 false 22 0,zG 19 false 23 (.lens (.t 22)),zG 19 false 24 (.bin .neq (.t 21) (.t 23)),qQ 25 19 24,zM 26 25,zG 26 false 27 (.load true 5 (.t 5)),⟨(some (26,false)),some 28,.call 72 [.t 27]⟩,zG 26 false 29 (.not (.t 28)),qQ 30 26 29] [2,5,30] (qc 30 (qr [zA 31 (.build zN []),qS 5 2 31,qB 3 false] [2,3]) .skip)) (qr [qT 32 5 5,q1 33 74 32,qS 5 2 33,qB 3 true] [2,3]))))))
theorem K.qG : iR pZ 47 1 0 C.qG [.cell 2 true 5,.tmp 3]=true:=by kernel_rfl
theorem K.fC : iR pZ 43 4 0 C.Es [.tmp 8,.tmp 9]=true:=by kernel_rfl
def C.l7 : bW:=(qs [zA 2 (.mv (.k (.jC 8))),qB 3 false] [0] (qs [zA 4 (.mv (.k (.jC 8)))] [0,4] (qs [zM 9 0,zA 10 (.build [.c (.str []),lN 0] [(0,1,.t 9)]),zA 5 (.alloc 10 [.c (.str []),lN 0]),qS 2 5 10] [0,4,5] (.seq (.block 0 (.loop (.seq (qs [qA 11 1 5,qF 12 1 11,zM 13 0,ql 14 13,qb 15 .lss 12 14] [0,4,5,15] (qc 15 .skip (.exit 0))) (.block 1 (qs [⟨none,some 17,.call 78 [.t 5,kI 1]⟩,zM 16 17,qE 18 16 0,qE 19 16 1,qZ 6 11,qS 5 6 18,zM 7 19] [0,4,5,6,7] (.seq (qs [zM 20 7,qO 21 20,zM 22 21,⟨(some (22,false)),some 23,.call 79 [.t 5,.k (.c (.str [59]))]⟩,zG 22 false 24 (.not (.t 23)),qQ 25 22 24] [0,4,5,6,25] (qc 25 (qr [zA 2 (.mv (.k (.jC 8))),qB 3 false] [2,3]) .skip)) (qs [qT 27 5 6,q1 28 80 27,zM 26 28,qE 29 26 0,qE 30 26 1,zA 8 (.alloc 12 [lN 0,.jC 1,.jC 1,lN 0,lN 0,.c (.str []),.jC 1,.jC 5]),qS 8 8 29,zM 7 30] [0,4,5,7,8] (.seq (qs [zM 31 7,qO 32 31,zM 33 32,qm 33 false 34 4,zG 33 false 35 (.len (.t 34)),zG 33 false 36 (.bin .eql (.t 35) (kI 12)),qQ 37 33 36] [0,4,5,8,37] (qc 37 (qr [zA 2 (.mv (.k (.jC 8))),qB 3 false] [2,3]) .skip)) (.reg [zM 38 4,qT 39 8 8,zA 40 (.kT 13 8 1 [.lit (.int .i64 0),.sl 1 [],.sl 1 [],.lit (.int .i64 0),.lit (.int .i64 0),.str [],.sl 1 [],.sl 5 []] [(0,.t 39)]),zA 41 (.append 14 8 136 (.t 38) (.t 40)),zM 4 41] [0,4,5]))))))))) (qr [zM 42 4,zM 2 42,qB 3 true] [2,3])))))
theorem K.l7 : iR pZ 46 1 0 C.l7 [.tmp 2,.tmp 3]=true:=by kernel_rfl
def C.je : bW:=(qs [zA 2 (.alloc 10 [lN 0,.c (.str []),.jC 1,.jC 1,lN 0,lN 0,.c (.str []),.jC 1,.jC 5,.jC 8]),qB 3 false] [0,2] (qs [zM 13 0,⟨none,some 14,.call 42 [.t 13,.k (.c (.str [32])),kI 5]⟩,zM 4 14] [0,2,4] (.seq (qs [zM 15 0,ql 16 15,qk 17 .gtr 16 2000,zM 18 17,qm 18 false 19 4,zG 18 false 20 (.len (.t 19)),zG 18 false 21 (.bin .neq (.t 20) (kI 5)),qQ 22 18 21] [0,2,4,22] (qc 22 (qr [zA 23 (.build [lN 0,.c (.str []),.jC 1,.jC 1,lN 0,lN 0,.c (.str []),.jC 1,.jC 5,.jC 8] []),qS 10 2 23,qB 3 false] [2,3]) .skip)) (qs [zM 25 4,zA 26 (.vN 1 (.t 25) (kI 0)),qF 27 1 26,⟨none,some 28,.call 43 [.t 27,kI 1,kI 5,.k (.fn 44 [])]⟩,zM 24 28,qE 29 24 0,qE 30 24 1,zM 5 29,zM 6 30] [0,2,4,5,6] (qs [zM 32 4,zA 33 (.vN 1 (.t 32) (kI 2)),qF 34 1 33,q1 35 45 34,zM 31 35,qE 36 31 0,qE 37 31 1,zM 7 36,zM 8 37] [0,2,4,5,6,7,8] (qs [zM 39 4,zA 40 (.vN 1 (.t 39) (kI 3)),qF 41 1 40,q1 42 45 41,zM 38 42,qE 43 38 0,qE 44 38 1,zM 9 43,zM 10 44] [0,2,4,5,6,7,8,9,10] (.seq (qs [zM 45 6,qO 46 45,zM 47 46,qm 47 false 48 8,zG 47 false 49 (.not (.t 48)),qQ 50 47 49,zM 51 50,qm 51 false 52 10,zG 51 false 53 (.not (.t 52)),qQ 54 51 53] [0,2,4,5,7,9,54] (qc 54 (qr [zA 55 (.build [lN 0,.c (.str []),.jC 1,.jC 1,lN 0,lN 0,.c (.str []),.jC 1,.jC 5,.jC 8] []),qS 10 2 55,qB 3 false] [2,3]) .skip)) (qs [zM 56 5,zM 57 4,zA 58 (.vN 1 (.t 57) (kI 1)),qF 59 1 58,zM 60 7,zM 61 9,zA 62 (.build [lN 0,.c (.str []),.jC 1,.jC 1,lN 0,lN 0,.c (.str []),.jC 1,.jC 5,.jC 8] [(0,1,.t 56),(1,1,.t 59),(2,1,.t 60),(3,1,.t 61)]),zA 11 (.alloc 11 [lN 0,.c (.str []),.jC 1,.jC 1,lN 0,lN 0,.c (.str []),.jC 1,.jC 5,.jC 8]),qS 10 11 62] [0,2,4,5,11] (qs [qB 12 false] [0,2,4,5,11] (.cut (qs [zM 63 5,qk 64 .eql 63 4] [0,2,4,11,64] (qc 64 (.reg [zM 66 4,zA 67 (.vN 1 (.t 66) (kI 4)),qF 68 1 67,q1 69 46 68,zM 65 69,qE 70 65 0,qE 71 65 1,qA 72 9 11,qU 1 72 70,zM 12 71] [0,2,11,12]) (.reg [zM 74 4,zA 75 (.vN 1 (.t 74) (kI 4)),qF 76 1 75,q1 77 47 76,zM 73 77,qE 78 73 0,qE 79 73 1,qA 80 4 11,qS 5 80 78,zM 12 79] [0,2,11,12]))) (.seq (qs [zM 81 12,qO 82 81,zM 83 82,zG 83 false 84 (.load true 10 (.t 11)),⟨(some (83,false)),some 85,.call 48 [.t 84]⟩,qm 83 false 86 0,zG 83 false 87 (.bin .neq (.t 85) (.t 86)),qQ 88 83 87] [2,11,88] (qc 88 (qr [zA 89 (.build [lN 0,.c (.str []),.jC 1,.jC 1,lN 0,lN 0,.c (.str []),.jC 1,.jC 5,.jC 8] []),qS 10 2 89,qB 3 false] [2,3]) .skip)) (qr [qT 90 10 11,qS 10 2 90,qB 3 true] [2,3]))))))))))))
theorem K.je : iR pZ 25 1 0 C.je [.cell 2 true 10,.tmp 3]=true:=by kernel_rfl
def C.uP : bW:=(qs [qX 1 10 0,qI 2 0] [1] (.seq (qs [qT 3 5 1,q1 4 72 3,qO 5 4] [1,5] (qc 5 (qr [qI 2 (-1)] [2]) .skip)) (qr [qT 6 5 1,q1 7 50 6,ql 8 7,zM 2 8] [2])))
theorem K.uP : iR pZ 73 1 0 C.uP [.tmp 2]=true:=by kernel_rfl
def C.uB : bW:=(qs [qX 1 10 0,qI 2 0] [1] (.seq (.qj [(qA 3 0 1,[]),(qF 4 1 3,[0]),(ql 5 4,[0,1]),(qA 6 2 1,[]),(qT 7 5 6,[3]),(q1 8 73 7,[3,4]),(qb 9 .add 5 8,[0,1,2,3,4,5]),(zM 2 9,[0,1,2,3,4,5,6])] [2]) .ret))
theorem K.uB : iR pZ 40 1 0 C.uB [.tmp 2]=true:=by kernel_rfl
def C.lH : bW:=(qs [qX 1 10 0,qI 2 0] [1] (.seq (qs [qT 6 2 1,q1 7 39 6,qO 8 7] [1,8] (qc 8 (qr [qI 2 (-1)] [2]) .skip)) (qs [qI 3 0] [1,3] (.seq (qs [qA 9 0 1,qF 10 1 9,qL 11 10,qI 12 0] [3,10,11,12] (.block 0 (.loop (qs [qb 13 .lss 12 11] [3,10,11,12,13] (.seq (qc 13 .skip (.exit 0)) (.seq (.block 1 (qs [qD 14 7 10 12,qT 15 7 14,zA 5 (.alloc 11 [.c (.str []),lN 0,lN 0,lN 0,.c (.str []),.jC 1,.jC 5]),qS 7 5 15] [3,5,10,11,12] (.reg [zM 16 3,qT 17 7 5,q1 18 40 17,qb 19 .add 16 18,zM 3 19] [3,10,11,12]))) (.reg [qk 20 .add 12 1,zM 12 20] [3,10,11,12]))))))) (qr [zM 21 3,zM 2 21] [2])))))
theorem K.lH : iR pZ 23 1 0 C.lH [.tmp 2]=true:=by kernel_rfl
def C.jo : bW:=(qs [zA 2 (.mv (.k (.c (.str []))))] [0] (qs [zA 3 (.mv (.k (.jC 1)))] [0,3] (.seq (qs [zM 6 0,qN 7 6,qA 8 0 7,qA 9 0 8,qF 10 1 9,qL 11 10,qI 12 0] [3,10,11,12] (.block 0 (.loop (qs [qb 13 .lss 12 11] [3,10,11,12,13] (.seq (qc 13 .skip (.exit 0)) (.seq (.block 1 (qs [qD 14 7 10 12,qT 15 7 14,zA 5 (.alloc 10 [.c (.str []),lN 0,lN 0,lN 0,.c (.str []),.jC 1,.jC 5]),qS 7 5 15] [3,5,10,11,12] (.reg [zM 16 3,qA 17 0 5,qF 18 1 17,zA 19 (.kT 11 1 1 [.str []] [(0,.t 18)]),zA 20 (.append 12 1 16 (.t 16) (.t 19)),zM 3 20] [3,10,11,12]))) (.reg [qk 21 .add 12 1,zM 12 21] [3,10,11,12]))))))) (qr [zM 22 3,⟨none,some 23,.call 37 [.t 22,.k (.c (.str [32]))]⟩,zM 2 23] [2]))))
theorem K.jo : iR pZ 21 1 1 C.jo [.tmp 2]=true:=by kernel_rfl
def C.dN : bW:=(qs [qX 3 10 1,zA 4 (.mv (.k (.c (.str []))))] [0,3] (.seq (.qj [(zM 9 0,[]),(qN 10 9,[0]),(qA 11 0 10,[0,1]),(qT 12 2 11,[0,1,2]),(qT 13 10 3,[]),(q2 14 49 12 13,[0,1,2,3,4]),(zM 8 14,[0,1,2,3,4,5]),(qE 15 8 0,[0,1,2,3,4,5,6]),(qE 16 8 1,[0,1,2,3,4,5,6]),(zA 5 (.alloc 11 [.jC 7,lN 0]),[]),(zA 6 (.alloc 12 [lN 0,.c (.str []),lN 0,lN 0,lN 0,.c (.str []),.jC 1,.jC 5]),[]),(qS 2 5 15,[0,1,2,3,4,5,6,7,9,10]),(qS 8 6 16,[0,1,2,3,4,5,6,7,8,9,10,11])] [0,3,5,6]) (qs [zM 17 0,qT 18 2 5,qN 19 17,qA 20 0 19,qS 2 20 18] [3,6] (qs [zA 7 (.EJ 40 5 14 13)] [3,6,7] (qs [qA 21 0 6,qF 22 1 21,q1 23 22 22,q2 24 10 7 23] [3,6,7] (.cut (qs [qA 25 1 6,qF 26 1 25,zA 27 (.bin .neq (.t 26) (.k (.c (.str []))))] [3,6,7,27] (qc 27 (qs [⟨none,some 28,.call 12 [.t 7,.k (.c (.lit (.int .u8 32)))]⟩] [3,6,7] (.reg [qA 29 1 6,qF 30 1 29,q2 31 10 7 30] [3,6,7])) .skip)) (.cut (qs [qA 32 0 3,qF 33 1 32,qk 34 .eql 33 1,zM 35 34,zG 35 true 36 (.jZ 0 (.t 6)),zG 35 true 37 (.load false 1 (.t 36)),zG 35 true 38 (.bin .eql (.t 37) (kI 200)),qP 39 35 38] [6,7,39] (qc 39 (qs [⟨none,some 40,.call 12 [.t 7,.k (.c (.lit (.int .u8 32)))]⟩] [6,7] (.reg [qA 41 3 6,qT 42 5 41,q1 43 50 42,q2 44 10 7 43] [7])) .skip)) (qr [q1 45 13 7,zM 4 45] [4]))))))))
theorem K.dN : iR pZ 26 2 1 C.dN [.tmp 4]=true:=by kernel_rfl
def C.mF : bW:=(qs [zA 4 (.mv (.k (.c (.str []))))] [0,1] (.seq (qs [zM 7 1] [0,1,7] (.block 0 (qs [zA 9 (.bin .eql (.t 7) (.k (.c (.str [108,105,115,116])))),zM 8 9] [0,1,7,8] (qc 8 (qr [zM 10 0,q1 11 21 10,zM 4 11] [4]) (qs [zA 13 (.bin .eql (.t 7) (.k (.c (.str [99,108,111,99,107])))),zM 12 13] [0,1,7,12] (qc 12 (qr [zM 14 0,qN 15 14,qA 16 0 15,qA 17 1 16,qF 18 1 17,q1 19 22 18,zM 4 19] [4]) (qs [zA 21 (.bin .eql (.t 7) (.k (.c (.str [115,105,122,101])))),zM 20 21] [0,1,7,20] (qc 20 (qr [zM 22 0,qN 23 22,qA 24 0 23,qT 25 2 24,q1 26 23 25,q1 27 22 26,zM 4 27] [4]) (qs [zA 29 (.bin .eql (.t 7) (.k (.c (.str [107,101,101,112])))),zM 28 29] [0,1,7,28] (qc 28 (qs [zM 30 0,zM 31 0,qN 32 31,qA 33 0 32,qT 34 2 33,q1 35 24 34,qN 36 30,qA 37 2 36,qS 2 37 35] [] (qr [zA 4 (.mv (.k (.c (.str [111,107]))))] [4])) (qs [zA 39 (.bin .eql (.t 7) (.k (.c (.str [98,97,99,107])))),zM 38 39] [0,1,38] (qc 38 (qs [zM 40 0,zM 41 0,qN 42 41,qA 43 2 42,qT 44 2 43,q1 45 24 44,qN 46 40,qA 47 0 46,qS 2 47 45] [] (qr [zA 4 (.mv (.k (.c (.str [111,107]))))] [4])) .skip)))))))))))) (.seq (qs [zM 49 1,q1 50 25 49,zM 48 50,qE 51 48 0,qE 52 48 1,zA 5 (.alloc 10 [lN 0,.c (.str []),.jC 1,.jC 1,lN 0,lN 0,.c (.str []),.jC 1,.jC 5,.jC 8]),qS 10 5 51,zM 6 52] [0,5,6] (qs [zM 53 6] [0,5,53] (qc 53 (qr [zM 54 0,qT 55 10 5,q2 56 26 54 55,zM 4 56] [4]) .skip))) (qr [zA 4 (.mv (.k (.c (.str [119,104,97,116]))))] [4]))))
theorem K.mF : iR pZ 11 2 1 C.mF [.tmp 4]=true:=by kernel_rfl
def C.iF : bW:=(qs [zA 2 (.mv (.k (.c (.str []))))] [0] (qs [zA 3 (.alloc 10 [.c (.sl 7 []),lN 0,.c (.sl 7 []),lN 0])] [0,3] (qs [zA 4 (.EJ 40 5 12 11)] [0,3,4] (.cut (qs [zM 7 0,qL 8 7,qI 9 0] [3,4,7,8,9] (.block 0 (.loop (qs [qb 10 .lss 9 8] [3,4,7,8,9,10] (.seq (qc 10 .skip (.exit 0)) (.seq (.block 1 (qs [zM 11 9,qD 12 1 7 9,qF 13 1 12,zM 5 11,zM 6 13] [3,4,5,6,7,8,9] (.seq (qs [zM 14 5,qk 15 .eql 14 20] [3,4,6,7,8,9,15] (qc 15 (.exit 0) .skip)) (qs [zM 16 6,q2 17 11 3 16,q2 18 10 4 17] [3,4,7,8,9] (.reg [⟨none,some 19,.call 12 [.t 4,.k (.c (.lit (.int .u8 10)))]⟩] [3,4,7,8,9]))))) (.reg [qk 20 .add 9 1,zM 9 20] [3,4,7,8,9]))))))) (qr [q1 21 13 4,zM 2 21] [2])))))
theorem K.iF : iR pZ 7 1 0 C.iF [.tmp 2]=true:=by kernel_rfl
def C.lJ : bW:=(qs [qB 4 false] [0,1] (.seq (qs [zM 6 0,qL 7 6,zM 8 1,qL 9 8,qb 10 .neq 7 9] [0,1,10] (qc 10 (qr [qB 4 false] [4]) .skip)) (.seq (qs [qI 5 0] [0,1,5] (.block 0 (.loop (.seq (qs [zM 11 5,zM 12 0,qL 13 12,qb 14 .lss 11 13] [0,1,5,14] (qc 14 .skip (.exit 0))) (.seq (.block 1 (.seq (.qj [(zM 17 0,[]),(zM 18 5,[]),(qD 19 1 17 18,[0,1]),(qF 20 1 19,[0,1,2]),(zM 21 1,[]),(zM 22 5,[]),(qD 23 1 21 22,[4,5]),(qF 24 1 23,[4,5,6]),(qb 25 .neq 20 24,[0,1,2,3,4,5,6,7])] [0,1,5,25]) (qc 25 (qr [qB 4 false] [4]) .skip))) (.reg [zM 15 5,qk 16 .add 15 1,zM 5 16] [0,1,5])))))) (qr [qB 4 true] [4]))))
theorem K.lJ : iR pZ 8 2 0 C.lJ [.tmp 4]=true:=by kernel_rfl
def C.kN : bW:=(qs [qI 4 0] [0,1] (qs [zM 6 1,zM 7 0,qL 8 7,qb 9 .sub 6 8,zM 1 9] [0,1] (.seq (qs [zM 10 1,qk 11 .lss 10 0] [0,1,11] (qc 11 (qr [qI 4 (-1)] [4]) .skip)) (.seq (qs [qI 5 0] [0,1,5] (.block 0 (.loop (.seq (qs [zM 12 5,zM 13 0,qL 14 13,qb 15 .lss 12 14] [0,1,5,15] (qc 15 .skip (.exit 0))) (.seq (.block 1 (qs [zM 18 1,zM 19 0,zM 20 5,qD 21 1 19 20,qF 22 1 21,ql 23 22,qb 24 .sub 18 23,zM 1 24] [0,1,5] (qs [zM 25 1,qk 26 .lss 25 0] [0,1,5,26] (qc 26 (qr [qI 4 (-1)] [4]) .skip)))) (.reg [zM 16 5,qk 17 .add 16 1,zM 5 17] [0,1,5])))))) (qr [zM 27 1,zM 4 27] [4])))))
theorem K.kN : iR pZ 4 2 0 C.kN [.tmp 4]=true:=by kernel_rfl
def C.kP : bW:=(qs [zA 2 (.mv (.k (.jC 1)))] [0] (qs [zM 5 0,qL 6 5,zA 7 (.makes 10 1 16 [.str []] (.t 6) (.t 6)),zM 3 7] [0,3] (.seq (qs [qI 4 0] [0,3,4] (.block 0 (.loop (.seq (qs [zM 8 4,zM 9 0,qL 10 9,qb 11 .lss 8 10] [0,3,4,11] (qc 11 .skip (.exit 0))) (.seq (.block 1 (.reg [zM 14 3,zM 15 4,zM 16 0,zM 17 4,qD 18 1 16 17,qF 19 1 18,qD 20 1 14 15,qU 1 20 19] [0,3,4])) (.reg [zM 12 4,qk 13 .add 12 1,zM 4 13] [0,3,4])))))) (qr [zM 21 3,zM 2 21] [2]))))
theorem K.kP : iR pZ 6 1 0 C.kP [.tmp 2]=true:=by kernel_rfl
def C.fP : bW:=(qs [qB 6 false] [0,1,2] (qr [zM 7 1,zM 8 0,qb 9 .leq 7 8,zM 10 9,qm 10 true 11 0,qm 10 true 12 2,zG 10 true 13 (.bin .leq (.t 11) (.t 12)),qP 14 10 13,zM 6 14] [6]))
theorem K.fP : iR pZ 93 3 0 C.fP [.tmp 6]=true:=by kernel_rfl
def C.lg : bW:=(qs [qB 2 false] [0] (.seq (qs [qI 3 0] [0,3] (.block 0 (.loop (.seq (qs [zM 4 3,zM 5 0,ql 6 5,qb 7 .lss 4 6] [0,3,7] (qc 7 .skip (.exit 0))) (.seq (.block 1 (qs [zM 10 0,zM 11 3,zA 12 (.idxs (.t 10) (.t 11)),zA 13 (.GH .i64 (.t 12)),⟨none,some 14,.call 93 [.t 13,kI 48,kI 57]⟩,qO 15 14,zM 16 15,qm 16 true 17 0,qm 16 true 18 3,zG 16 true 19 (.idxs (.t 17) (.t 18)),zG 16 true 20 (.GH .i64 (.t 19)),⟨(some (16,true)),some 21,.call 93 [.t 20,kI 97,kI 102]⟩,zG 16 true 22 (.not (.t 21)),qP 23 16 22] [0,3,23] (qc 23 (qr [qB 2 false] [2]) .skip))) (.reg [zM 8 3,qk 9 .add 8 1,zM 3 9] [0,3])))))) (qr [zM 24 0,ql 25 24,qk 26 .eql 25 4,zM 2 26] [2])))
theorem K.lg : iR pZ 90 1 0 C.lg [.tmp 2]=true:=by kernel_rfl
def C.gZ : bW:=(qs [qB 2 false] [0] (.seq (qs [qI 3 0] [0,3] (.block 0 (.loop (.seq (qs [zM 4 3,zM 5 0,qL 6 5,qb 7 .lss 4 6] [0,3,7] (qc 7 .skip (.exit 0))) (.seq (.block 1 (qs [zM 10 0,zM 11 3,qD 12 1 10 11,qF 13 1 12,zA 14 (.bin .neq (.t 13) (.k (.c (.str [42])))),zM 15 14,qm 15 true 16 0,qm 15 true 17 3,zG 15 true 18 (.vN 1 (.t 16) (.t 17)),zG 15 true 19 (.load false 1 (.t 18)),⟨(some (15,true)),some 20,.call 90 [.t 19]⟩,zG 15 true 21 (.not (.t 20)),qP 22 15 21] [0,3,22] (qc 22 (qr [qB 2 false] [2]) .skip))) (.reg [zM 8 3,qk 9 .add 8 1,zM 3 9] [0,3])))))) (qr [zM 23 0,qL 24 23,qk 25 .leq 24 4,zM 2 25] [2])))
theorem K.gZ : iR pZ 53 1 0 C.gZ [.tmp 2]=true:=by kernel_rfl
def C.fK : bW:=(qs [zA 2 (.mv (.k (.c (.str []))))] [0] (qs [zA 3 (.mv (.k (.c (.str []))))] [0,3] (.seq (qs [zM 5 0,q1 6 53 5,qO 7 6] [0,3,7] (qc 7 (qr [zA 2 (.mv (.k (.c (.str []))))] [2]) .skip)) (.seq (qs [qI 4 0] [0,3,4] (.block 0 (.loop (.seq (qs [zM 8 4,zM 9 0,qL 10 9,qb 11 .lss 8 10] [0,3,4,11] (qc 11 .skip (.exit 0))) (.seq (.block 1 (.cut (qs [zM 14 4,qk 15 .gtr 14 0] [0,3,4,15] (qc 15 (.reg [zM 16 3,zA 17 (.bin .add (.t 16) (.k (.c (.str [44])))),zM 3 17] [0,3,4]) .skip)) (qs [zM 18 0,zM 19 4,qD 20 1 18 19,qF 21 1 20,zA 22 (.bin .eql (.t 21) (.k (.c (.str [42]))))] [0,3,4,22] (qc 22 (.reg [zM 23 3,zA 24 (.bin .add (.t 23) (.k (.c (.str [42])))),zM 3 24] [0,3,4]) (.reg [zM 25 3,zA 26 (.bin .add (.t 25) (.k (.c (.str [34])))),zM 27 0,zM 28 4,qD 29 1 27 28,qF 30 1 29,qb 31 .add 26 30,zA 32 (.bin .add (.t 31) (.k (.c (.str [34])))),zM 3 32] [0,3,4]))))) (.reg [zM 12 4,qk 13 .add 12 1,zM 4 13] [0,3,4])))))) (qr [zM 33 3,zM 2 33] [2])))))
theorem K.fK : iR pZ 52 1 0 C.fK [.tmp 2]=true:=by kernel_rfl
def C.jP : bW:=(qs [zA 2 (.mv (.k (.c (.str []))))] [0] (.seq (qs [zM 3 0,qk 4 .lss 3 0,zM 5 4,qm 5 true 6 0,qm 5 true 7 0,zG 5 true 8 (.neg (.t 7)),zG 5 true 9 (.bin .eql (.t 6) (.t 8)),qP 10 5 9] [0,10] (qc 10 (qr [zA 2 (.mv (.k (.c (.str [45,57,50,50,51,51,55,50,48,51,54,56,53,52,55,55,53,56,48,56]))))] [2]) .skip)) (.seq (qs [zM 11 0,qk 12 .lss 11 0] [0,12] (qc 12 (qr [zM 13 0,zA 14 (.neg (.t 13)),q1 15 15 14,zA 16 (.bin .add (.k (.c (.str [45]))) (.t 15)),zM 2 16] [2]) .skip)) (.seq (qs [zM 17 0,qk 18 .lss 17 10] [0,18] (qc 18 (qr [zM 19 0,zA 20 (.bin .add (kI 48) (.t 19)),zA 21 (.GH .u8 (.t 20)),zA 22 (.kT 10 1 1 [.lit (.int .u8 0)] [(0,.t 21)]),zA 23 (.PS (.t 22)),zM 2 23] [2]) .skip)) (.seq (.qj [(zM 24 0,[]),(qk 25 .quo 24 10,[0]),(q1 26 15 25,[0,1]),(zM 27 0,[]),(qk 28 .rem 27 10,[3]),(zA 29 (.bin .add (kI 48) (.t 28)),[3,4]),(zA 30 (.GH .u8 (.t 29)),[3,4,5]),(zA 31 (.kT 11 1 1 [.lit (.int .u8 0)] [(0,.t 30)]),[3,4,5,6]),(zA 32 (.PS (.t 31)),[3,4,5,6,7]),(qb 33 .add 26 32,[0,1,2,3,4,5,6,7,8]),(zM 2 33,[0,1,2,3,4,5,6,7,8,9])] [2]) .ret)))))
theorem K.jP : iR pZ 15 1 0 C.jP [.tmp 2]=true:=by kernel_rfl
def C.nM : bW:=(qs [zA 2 (.mv (.k (.c (.str []))))] [0] (qs [zA 3 (.mv (.k (.c (.str [34]))))] [0,3] (.seq (qs [qI 4 0] [0,3,4] (.block 0 (.loop (.seq (qs [zM 5 4,zM 6 0,ql 7 6,qb 8 .lss 5 7] [0,3,4,8] (qc 8 .skip (.exit 0))) (.seq (.block 1 (.seq (qs [zM 11 0,zM 12 4,zA 13 (.idxs (.t 11) (.t 12)),zA 14 (.bin .eql (.t 13) (.k (.c (.lit (.int .u8 34))))),zM 15 14,qm 15 false 16 0,qm 15 false 17 4,zG 15 false 18 (.idxs (.t 16) (.t 17)),zG 15 false 19 (.bin .eql (.t 18) (.k (.c (.lit (.int .u8 92))))),qQ 20 15 19] [0,3,4,20] (qc 20 (.reg [zM 21 3,zA 22 (.bin .add (.t 21) (.k (.c (.str [92])))),zM 3 22] [0,3,4]) .skip)) (.reg [zM 23 3,zM 24 0,zM 25 4,zM 26 4,qk 27 .add 26 1,zA 28 (.G7 (.t 24) (some (.t 25)) (some (.t 27))),qb 29 .add 23 28,zM 3 29] [0,3,4]))) (.reg [zM 9 4,qk 10 .add 9 1,zM 4 10] [0,3,4])))))) (qr [zM 30 3,zA 31 (.bin .add (.t 30) (.k (.c (.str [34])))),zM 2 31] [2]))))
theorem K.nM : iR pZ 51 1 0 C.nM [.tmp 2]=true:=by kernel_rfl
def C.dW : bW:=(qs [qX 1 10 0,zA 2 (.mv (.k (.c (.str []))))] [1] (qs [zA 3 (.mv (.k (.c (.str []))))] [1,3] (.seq (qs [qA 5 0 1,qF 6 1 5] [1,3,6] (.block 0 (qs [qk 8 .eql 6 1,zM 7 8] [1,3,6,7] (qc 7 (qr [qA 9 1 1,qF 10 1 9,q1 11 15 10,zM 2 11] [2]) (qs [qk 13 .eql 6 2,zM 12 13] [1,3,6,12] (qc 12 (qr [qA 14 2 1,qF 15 1 14,q1 16 51 15,zM 2 16] [2]) (qs [qk 18 .eql 6 0,zM 17 18] [1,3,17] (qc 17 (qr [zA 2 (.mv (.k (.c (.str [110,117,108,108]))))] [2]) .skip)))))))) (.seq (qs [qI 4 0] [1,3,4] (.block 1 (.loop (.seq (qs [zM 19 4,qA 20 4 1,qF 21 1 20,qL 22 21,qb 23 .lss 19 22] [1,3,4,23] (qc 23 .skip (.exit 1))) (.seq (.block 2 (.cut (qs [zM 26 4,qk 27 .gtr 26 0] [1,3,4,27] (qc 27 (.reg [zM 28 3,zA 29 (.bin .add (.t 28) (.k (.c (.str [44])))),zM 3 29] [1,3,4]) .skip)) (.cut (qs [qA 30 0 1,qF 31 1 30,qk 32 .eql 31 4] [1,3,4,32] (qc 32 (.reg [zM 33 3,qA 34 3 1,qF 35 1 34,zM 36 4,qD 37 1 35 36,qF 38 1 37,q1 39 51 38,qb 40 .add 33 39,zA 41 (.bin .add (.t 40) (.k (.c (.str [58])))),zM 3 41] [1,3,4]) .skip)) (.reg [zM 42 3,qA 43 4 1,qF 44 1 43,zM 45 4,qD 46 5 44 45,qT 47 5 46,q1 48 27 47,qb 49 .add 42 48,zM 3 49] [1,3,4])))) (.reg [zM 24 4,qk 25 .add 24 1,zM 4 25] [1,3,4])))))) (.seq (qs [qA 50 0 1,qF 51 1 50,qk 52 .eql 51 4] [3,52] (qc 52 (qr [zM 53 3,zA 54 (.bin .add (.k (.c (.str [123]))) (.t 53)),zA 55 (.bin .add (.t 54) (.k (.c (.str [125])))),zM 2 55] [2]) .skip)) (qr [zM 56 3,zA 57 (.bin .add (.k (.c (.str [91]))) (.t 56)),zA 58 (.bin .add (.t 57) (.k (.c (.str [93])))),zM 2 58] [2]))))))
theorem K.dW : iR pZ 27 1 0 C.dW [.tmp 2]=true:=by kernel_rfl
def C.aY : bW:=(qs [qX 1 10 0,qZ 2 11] [1,2] (qs [zA 5 (.kT 12 5 0 [.lit (.int .i64 0),.lit (.int .i64 0),.str [],.sl 1 [],.sl 5 []] []),zM 3 5] [1,2,3] (.seq (qs [qI 4 0] [1,2,3,4] (.block 0 (.loop (.seq (qs [zM 6 4,qA 7 4 1,qF 8 1 7,qL 9 8,qb 10 .lss 6 9] [1,2,3,4,10] (qc 10 .skip (.exit 0))) (.seq (.block 1 (.reg [zM 13 3,qA 14 4 1,qF 15 1 14,zM 16 4,qD 17 5 15 16,qT 18 5 17,q1 19 28 18,zA 20 (.kT 13 5 1 [.lit (.int .i64 0),.lit (.int .i64 0),.str [],.sl 1 [],.sl 5 []] [(0,.t 19)]),zA 21 (.append 14 5 80 (.t 13) (.t 20)),zM 3 21] [1,2,3,4])) (.reg [zM 11 4,qk 12 .add 11 1,zM 4 12] [1,2,3,4])))))) (.seq (.qj [(qA 22 0 1,[]),(qF 23 1 22,[0]),(qA 24 1 1,[]),(qF 25 1 24,[2]),(qA 26 2 1,[]),(qF 27 1 26,[4]),(zA 28 (.kT 15 1 0 [.str []] []),[]),(qA 29 3 1,[]),(qF 30 1 29,[7]),(zA 31 (.append 16 1 16 (.t 28) (.t 30)),[6,7,8]),(zM 32 3,[]),(zA 33 (.build zN [(0,1,.t 23),(1,1,.t 25),(2,1,.t 27),(3,1,.t 31),(4,1,.t 32)]),[0,1,2,3,4,5,6,7,8,9,10]),(qS 5 2 33,[0,1,2,3,4,5,6,7,8,9,10,11])] [2]) .ret))))
theorem K.aY : iR pZ 28 1 0 C.aY [.cell 2 true 5]=true:=by kernel_rfl
def C.uf : bW:=(qs [zA 0 (.mv (.k (.jC 1)))] [] (qr [zA 1 (.kT 10 1 7 [.str []] [(0,.k (.c (.str []))),(1,.k (.c (.str [97,100,100]))),(2,.k (.c (.str [114,101,109,111,118,101]))),(3,.k (.c (.str [114,101,112,108,97,99,101]))),(4,.k (.c (.str [109,111,118,101]))),(5,.k (.c (.str [99,111,112,121]))),(6,.k (.c (.str [116,101,115,116])))]),zM 0 1] [0]))
theorem K.uf : iR pZ 95 0 0 C.uf [.tmp 0]=true:=by kernel_rfl
def C.wX : bW:=(qs [qZ 2 10] [0,2] (qr [zM 3 0,zA 4 (.build zN [(0,1,kI 2),(2,1,.t 3)]),qS 5 2 4] [2]))
theorem K.wX : iR pZ 104 1 0 C.wX [.cell 2 true 5]=true:=by kernel_rfl
def C.qp : bW:=(qs [qZ 2 10] [0,2] (qs [zA 5 (.kT 11 5 0 [.lit (.int .i64 0),.lit (.int .i64 0),.str [],.sl 1 [],.sl 5 []] []),zM 3 5] [0,2,3] (.seq (qs [qI 4 0] [0,2,3,4] (.block 0 (.loop (.seq (qs [zM 6 4,zM 7 0,qL 8 7,qb 9 .lss 6 8] [0,2,3,4,9] (qc 9 .skip (.exit 0))) (.seq (.block 1 (.reg [zM 12 3,zM 13 0,zM 14 4,qD 15 1 13 14,qF 16 1 15,q1 17 104 16,zA 18 (.kT 12 5 1 [.lit (.int .i64 0),.lit (.int .i64 0),.str [],.sl 1 [],.sl 5 []] [(0,.t 17)]),zA 19 (.append 13 5 80 (.t 12) (.t 18)),zM 3 19] [0,2,3,4])) (.reg [zM 10 4,qk 11 .add 10 1,zM 4 11] [0,2,3,4])))))) (qr [zA 20 (.kT 14 1 0 [.str []] []),zM 21 3,zA 22 (.build zN [(0,1,kI 3),(3,1,.t 20),(4,1,.t 21)]),qS 5 2 22] [2]))))
theorem K.qp : iR pZ 103 1 0 C.qp [.cell 2 true 5]=true:=by kernel_rfl
def C.pW : bW:=(qs [qX 1 10 0,qZ 2 11] [1,2] (.seq (.qj [(zA 3 (.kT 12 1 4 [.str []] [(0,.k (.c (.str [102,114,111,109]))),(1,.k (.c (.str [111,112]))),(2,.k (.c (.str [112,97,116,104]))),(3,.k (.c (.str [118,97,108,117,101])))]),[]),(qA 4 2 1,[]),(qF 5 1 4,[1]),(q1 6 103 5,[1,2]),(⟨none,some 7,.call 95 []⟩,[1,2,3]),(qA 8 0 1,[]),(qF 9 1 8,[5]),(qD 10 1 7 9,[1,2,3,4,5,6]),(qF 11 1 10,[1,2,3,4,5,6,7]),(q1 12 104 11,[1,2,3,4,5,6,7,8]),(qA 13 1 1,[]),(qF 14 1 13,[10]),(q1 15 103 14,[1,2,3,4,5,6,7,8,9,10,11]),(qA 16 3 1,[]),(qT 17 5 16,[13]),(q1 18 28 17,[1,2,3,4,5,6,7,8,9,10,11,12,13,14]),(zA 19 (.kT 13 5 4 [.lit (.int .i64 0),.lit (.int .i64 0),.str [],.sl 1 [],.sl 5 []] [(0,.t 6),(1,.t 12),(2,.t 15),(3,.t 18)]),[1,2,3,4,5,6,7,8,9,10,11,12,13,14,15]),(zA 20 (.build zN [(0,1,kI 4),(3,1,.t 3),(4,1,.t 19)]),[0,1,2,3,4,5,6,7,8,9,10,11,12,13,14,15,16]),(qS 5 2 20,[0,1,2,3,4,5,6,7,8,9,10,11,12,13,14,15,16,17])] [2]) .ret))
theorem K.pW : iR pZ 59 1 0 C.pW [.cell 2 true 5]=true:=by kernel_rfl
def C.vU : bW:=(qs [zA 0 (.mv (.k (.jC 1)))] [] (qr [zA 1 (.kT 10 1 6 [.str []] [(0,.k (.c (.str []))),(1,.k (.c (.str [103,101,116]))),(2,.k (.c (.str [112,117,116]))),(3,.k (.c (.str [100,101,108,101,116,101]))),(4,.k (.c (.str [112,97,116,99,104]))),(5,.k (.c (.str [109,101,114,103,101])))]),zM 0 1] [0]))
theorem K.vU : iR pZ 30 0 0 C.vU [.tmp 0]=true:=by kernel_rfl
def C.jq : bW:=(qs [qX 1 10 0,zA 2 (.mv (.k (.c (.str []))))] [1] (.seq (.qj [(⟨none,some 5,.call 30 []⟩,[]),(qA 6 0 1,[]),(qF 7 1 6,[1]),(qD 8 1 5 7,[0,1,2]),(qF 9 1 8,[0,1,2,3]),(zA 10 (.bin .add (.t 9) (.k (.c (.str [32])))),[0,1,2,3,4]),(qA 11 1 1,[]),(qF 12 1 11,[6]),(qb 13 .add 10 12,[0,1,2,3,4,5,6,7]),(zA 14 (.bin .add (.t 13) (.k (.c (.str [32])))),[0,1,2,3,4,5,6,7,8]),(qA 15 2 1,[]),(qF 16 1 15,[10]),(q1 17 52 16,[0,10,11]),(qb 18 .add 14 17,[0,1,2,3,4,5,6,7,8,9,10,11,12]),(zA 19 (.bin .add (.t 18) (.k (.c (.str [32])))),[0,1,2,3,4,5,6,7,8,9,10,11,12,13]),(qA 20 3 1,[]),(qF 21 1 20,[15]),(q1 22 52 21,[0,10,11,12,15,16]),(qb 23 .add 19 22,[0,1,2,3,4,5,6,7,8,9,10,11,12,13,14,15,16,17]),(zA 24 (.bin .add (.t 23) (.k (.c (.str [32])))),[0,1,2,3,4,5,6,7,8,9,10,11,12,13,14,15,16,17,18]),(zM 3 24,[0,1,2,3,4,5,6,7,8,9,10,11,12,13,14,15,16,17,18,19])] [1,3]) (.seq (qs [qA 25 0 1,qF 26 1 25,qk 27 .eql 26 4] [1,3,27] (qc 27 (.seq (qs [qI 4 0] [1,3,4] (.block 0 (.loop (.seq (qs [zM 28 4,qA 29 9 1,qF 30 1 29,qL 31 30,qb 32 .lss 28 31] [1,3,4,32] (qc 32 .skip (.exit 0))) (.seq (.block 1 (.reg [zM 35 3,qA 36 9 1,qF 37 1 36,zM 38 4,qD 39 8 37 38,qT 40 8 39,q1 41 59 40,q1 42 27 41,qb 43 .add 35 42,zA 44 (.bin .add (.t 43) (.k (.c (.str [59])))),zM 3 44] [1,3,4])) (.reg [zM 33 4,qk 34 .add 33 1,zM 4 34] [1,3,4])))))) (qr [zM 45 3,zM 2 45] [2])) .skip)) (qr [zM 46 3,qA 47 4 1,qT 48 5 47,q1 49 27 48,qb 50 .add 46 49,zM 2 50] [2]))))
theorem K.jq : iR pZ 60 1 0 C.jq [.tmp 2]=true:=by kernel_rfl
def C.nK : bW:=(qs [qX 1 10 0,qI 2 0] [1] (qs [qI 3 1] [1,3] (.seq (qs [qI 4 0] [1,3,4] (.block 0 (.loop (.seq (qs [zM 5 4,qA 6 4 1,qF 7 1 6,qL 8 7,qb 9 .lss 5 8] [1,3,4,9] (qc 9 .skip (.exit 0))) (.seq (.block 1 (.reg [zM 12 3,qA 13 4 1,qF 14 1 13,zM 15 4,qD 16 5 14 15,qT 17 5 16,q1 18 100 17,qb 19 .add 12 18,zM 3 19] [1,3,4])) (.reg [zM 10 4,qk 11 .add 10 1,zM 4 11] [1,3,4])))))) (qr [zM 20 3,zM 2 20] [2]))))
theorem K.nK : iR pZ 100 1 0 C.nK [.tmp 2]=true:=by kernel_rfl
def C.iV : bW:=(qs [qB 2 false] [0] (.seq (qs [qI 3 0] [0,3] (.block 0 (.loop (.seq (qs [zM 4 3,zM 5 0,ql 6 5,qb 7 .lss 4 6] [0,3,7] (qc 7 .skip (.exit 0))) (.seq (.block 1 (qs [zM 10 0,zM 11 3,zA 12 (.idxs (.t 10) (.t 11)),zA 13 (.GH .i64 (.t 12)),⟨none,some 14,.call 93 [.t 13,kI 32,kI 126]⟩,qO 15 14] [0,3,15] (qc 15 (qr [qB 2 false] [2]) .skip))) (.reg [zM 8 3,qk 9 .add 8 1,zM 3 9] [0,3])))))) (qr [zM 16 0,ql 17 16,qk 18 .leq 17 12,zM 2 18] [2])))
theorem K.iV : iR pZ 144 1 0 C.iV [.tmp 2]=true:=by kernel_rfl
def C.oC : bW:=(qs [qB 2 false] [0] (.seq (qs [qI 3 0] [0,3] (.block 0 (.loop (.seq (qs [zM 4 3,zM 5 0,qL 6 5,qb 7 .lss 4 6] [0,3,7] (qc 7 .skip (.exit 0))) (.seq (.block 1 (.seq (.qj [(zM 10 0,[]),(zM 11 3,[]),(qD 12 1 10 11,[0,1]),(qF 13 1 12,[0,1,2]),(q1 14 144 13,[0,1,2,3]),(qO 15 14,[0,1,2,3,4]),(zM 16 15,[0,1,2,3,4,5]),(qm 16 false 17 3,[0,1,2,3,4,5,6]),(zG 16 false 18 (.bin .gtr (.t 17) (kI 0)),[0,1,2,3,4,5,6,7]),(qm 16 false 19 18,[0,1,2,3,4,5,6,7,8]),(qm 19 true 20 0,[0,1,2,3,4,5,6,7,8,9]),(qm 19 true 21 3,[0,1,2,3,4,5,6,7,8,9]),(zG 19 true 22 (.vN 1 (.t 20) (.t 21)),[0,1,2,3,4,5,6,7,8,9,10,11]),(zG 19 true 23 (.load false 1 (.t 22)),[0,1,2,3,4,5,6,7,8,9,10,11,12]),(qm 19 true 24 0,[0,1,2,3,4,5,6,7,8,9]),(qm 19 true 25 3,[0,1,2,3,4,5,6,7,8,9]),(zG 19 true 26 (.bin .sub (.t 25) (kI 1)),[0,1,2,3,4,5,6,7,8,9,15]),(zG 19 true 27 (.vN 1 (.t 24) (.t 26)),[0,1,2,3,4,5,6,7,8,9,14,15,16]),(zG 19 true 28 (.load false 1 (.t 27)),[0,1,2,3,4,5,6,7,8,9,14,15,16,17]),(zG 19 true 29 (.bin .leq (.t 23) (.t 28)),[0,1,2,3,4,5,6,7,8,9,10,11,12,13,14,15,16,17,18]),(zG 16 false 30 (.pick (.t 19) (.t 29) (kB false)),[0,1,2,3,4,5,6,7,8,9,10,11,12,13,14,15,16,17,18,19]),(qQ 31 16 30,[0,1,2,3,4,5,6,7,8,9,10,11,12,13,14,15,16,17,18,19,20])] [0,3,31]) (qc 31 (qr [qB 2 false] [2]) .skip))) (.reg [zM 8 3,qk 9 .add 8 1,zM 3 9] [0,3])))))) (qr [qB 2 true] [2])))
theorem K.oC : iR pZ 146 1 0 C.oC [.tmp 2]=true:=by kernel_rfl
def C.ru : bW:=(qs [qX 2 10 0,qB 4 false] [1,2] (.seq (qs [qI 5 0] [1,2,5] (.block 0 (.loop (.seq (qs [zM 6 5,qA 7 4 2,qF 8 1 7,qL 9 8,qb 10 .lss 6 9] [1,2,5,10] (qc 10 .skip (.exit 0))) (.seq (.block 1 (qs [qA 13 4 2,qF 14 1 13,zM 15 5,qD 16 5 14 15,qT 17 5 16,zM 18 1,qk 19 .sub 18 1,q2 20 99 17 19,qO 21 20] [1,2,5,21] (qc 21 (qr [qB 4 false] [4]) .skip))) (.reg [zM 11 5,qk 12 .add 11 1,zM 5 12] [1,2,5])))))) (qr [qB 4 true] [4])))
theorem K.ru : iR pZ 145 2 0 C.ru [.tmp 4]=true:=by kernel_rfl
def C.ji : bW:=(qs [qX 2 10 0,qB 4 false] [1,2] (.cut (qs [zM 5 1,qk 6 .eql 5 0,zM 7 6,zG 7 false 8 (.jZ 4 (.t 2)),zG 7 false 9 (.load false 1 (.t 8)),zG 7 false 10 (.len (.t 9)),zG 7 false 11 (.bin .gtr (.t 10) (kI 6)),qQ 12 7 11,zM 13 12,zG 13 false 14 (.jZ 0 (.t 2)),zG 13 false 15 (.load false 1 (.t 14)),zG 13 false 16 (.bin .neq (.t 15) (kI 1)),qm 13 false 17 16,zG 17 true 18 (.jZ 1 (.t 2)),zG 17 true 19 (.load false 1 (.t 18)),zG 17 true 20 (.bin .neq (.t 19) (kI 0)),zG 13 false 21 (.pick (.t 17) (.t 20) (kB false)),qQ 22 13 21,zM 23 22,zG 23 false 24 (.jZ 0 (.t 2)),zG 23 false 25 (.load false 1 (.t 24)),zG 23 false 26 (.bin .neq (.t 25) (kI 2)),qm 23 false 27 26,zG 27 true 28 (.jZ 2 (.t 2)),zG 27 true 29 (.load false 1 (.t 28)),zG 27 true 30 (.bin .neq (.t 29) (.k (.c (.str [])))),zG 23 false 31 (.pick (.t 27) (.t 30) (kB false)),qQ 32 23 31,zM 33 32,zG 33 false 34 (.jZ 0 (.t 2)),zG 33 false 35 (.load false 1 (.t 34)),zG 33 false 36 (.bin .neq (.t 35) (kI 4)),qm 33 false 37 36,zG 37 true 38 (.jZ 3 (.t 2)),zG 37 true 39 (.load false 1 (.t 38)),zG 37 true 40 (.len (.t 39)),zG 37 true 41 (.bin .gtr (.t 40) (kI 0)),zG 33 false 42 (.pick (.t 37) (.t 41) (kB false)),qQ 43 33 42,zM 44 43,zG 44 false 45 (.jZ 0 (.t 2)),zG 44 false 46 (.load false 1 (.t 45)),zG 44 false 47 (.bin .lss (.t 46) (kI 3)),qm 44 false 48 47,zG 48 true 49 (.jZ 4 (.t 2)),zG 48 true 50 (.load false 1 (.t 49)),zG 48 true 51 (.len (.t 50)),zG 48 true 52 (.bin .gtr (.t 51) (kI 0)),zG 44 false 53 (.pick (.t 48) (.t 52) (kB false)),qQ 54 44 53] [1,2,54] (qc 54 (qr [qB 4 false] [4]) .skip)) (.seq (qs [qA 55 0 2,qF 56 1 55] [1,2,56] (.block 0 (qs [qk 58 .eql 56 1,zM 57 58] [1,2,56,57] (qc 57 (qr [qA 59 1 2,qF 60 1 59,⟨none,some 61,.call 93 [.t 60,kI (-999999),kI 999999]⟩,zM 4 61] [4]) (qs [qk 63 .eql 56 2,zM 62 63] [1,2,56,62] (qc 62 (qr [qA 64 2 2,qF 65 1 64,q1 66 144 65,zM 4 66] [4]) (qs [qk 68 .eql 56 3,zM 67 68] [1,2,56,67] (qc 67 (qr [qT 69 5 2,zM 70 1,q2 71 145 69 70,zM 4 71] [4]) (qs [qk 73 .eql 56 4,zM 72 73] [1,2,72] (qc 72 (qr [qA 74 3 2,qF 75 1 74,qL 76 75,qA 77 4 2,qF 78 1 77,qL 79 78,qb 80 .eql 76 79,zM 81 80,zG 81 true 82 (.jZ 3 (.t 2)),zG 81 true 83 (.load false 1 (.t 82)),⟨(some (81,true)),some 84,.call 146 [.t 83]⟩,qP 85 81 84,zM 86 85,zG 86 true 87 (.load true 5 (.t 2)),qm 86 true 88 1,⟨(some (86,true)),some 89,.call 145 [.t 87,.t 88]⟩,qP 90 86 89,zM 4 90] [4]) .skip)))))))))) (qr [qA 91 0 2,qF 92 1 91,qk 93 .eql 92 0,zM 4 93] [4]))))
theorem K.ji : iR pZ 99 2 0 C.ji [.tmp 4]=true:=by kernel_rfl
def C.eG : bW:=(qs [qX 1 10 0,qB 2 false] [1] (qr [qT 3 5 1,⟨none,some 4,.call 99 [.t 3,kI 5]⟩,zM 5 4,zG 5 true 6 (.load true 5 (.t 1)),⟨(some (5,true)),some 7,.call 100 [.t 6]⟩,zG 5 true 8 (.bin .leq (.t 7) (kI 40)),qP 9 5 8,zM 2 9] [2]))
theorem K.eG : iR pZ 57 1 0 C.eG [.tmp 2]=true:=by kernel_rfl
def C.iU : bW:=(qs [qB 2 false] [0] (.seq (qs [qI 3 0] [0,3] (.block 0 (.loop (.seq (qs [zM 4 3,zM 5 0,ql 6 5,qb 7 .lss 4 6] [0,3,7] (qc 7 .skip (.exit 0))) (.seq (.block 1 (qs [zM 10 0,zM 11 3,zA 12 (.idxs (.t 10) (.t 11)),zA 13 (.GH .i64 (.t 12)),⟨none,some 14,.call 93 [.t 13,kI 97,kI 122]⟩,qO 15 14,zM 16 15,qm 16 true 17 0,qm 16 true 18 3,zG 16 true 19 (.idxs (.t 17) (.t 18)),zG 16 true 20 (.GH .i64 (.t 19)),⟨(some (16,true)),some 21,.call 93 [.t 20,kI 48,kI 57]⟩,zG 16 true 22 (.not (.t 21)),qP 23 16 22] [0,3,23] (qc 23 (qr [qB 2 false] [2]) .skip))) (.reg [zM 8 3,qk 9 .add 8 1,zM 3 9] [0,3])))))) (qr [zM 24 0,ql 25 24,⟨none,some 26,.call 93 [.t 25,kI 1,kI 8]⟩,zM 2 26] [2])))
theorem K.iU : iR pZ 101 1 0 C.iU [.tmp 2]=true:=by kernel_rfl
def C.jk : bW:=(qs [qB 2 false] [0] (.seq (qs [qI 3 0] [0,3] (.block 0 (.loop (.seq (qs [zM 4 3,zM 5 0,qL 6 5,qb 7 .lss 4 6] [0,3,7] (qc 7 .skip (.exit 0))) (.seq (.block 1 (qs [zM 10 0,zM 11 3,qD 12 1 10 11,qF 13 1 12,q1 14 144 13,qO 15 14] [0,3,15] (qc 15 (qr [qB 2 false] [2]) .skip))) (.reg [zM 8 3,qk 9 .add 8 1,zM 3 9] [0,3])))))) (qr [zM 16 0,qL 17 16,qk 18 .leq 17 5,zM 2 18] [2])))
theorem K.jk : iR pZ 142 1 0 C.jk [.tmp 2]=true:=by kernel_rfl
def C.nY : bW:=(qs [qX 1 10 0,qB 2 false] [1] (qr [qA 3 0 1,qF 4 1 3,⟨none,some 5,.call 93 [.t 4,kI 1,kI 6]⟩,zM 6 5,zG 6 true 7 (.jZ 1 (.t 1)),zG 6 true 8 (.load false 1 (.t 7)),⟨(some (6,true)),some 9,.call 142 [.t 8]⟩,qP 10 6 9,zM 11 10,zG 11 true 12 (.jZ 2 (.t 1)),zG 11 true 13 (.load false 1 (.t 12)),⟨(some (11,true)),some 14,.call 142 [.t 13]⟩,qP 15 11 14,zM 16 15,zG 16 true 17 (.jZ 3 (.t 1)),zG 16 true 18 (.load true 5 (.t 17)),⟨(some (16,true)),some 19,.call 57 [.t 18]⟩,qP 20 16 19,zM 2 20] [2]))
theorem K.nY : iR pZ 97 1 0 C.nY [.tmp 2]=true:=by kernel_rfl
def C.gu : bW:=(qs [qB 2 false] [0] (.seq (qs [qI 3 0] [0,3] (.block 0 (.loop (.seq (qs [zM 4 3,zM 5 0,qL 6 5,qb 7 .lss 4 6] [0,3,7] (qc 7 .skip (.exit 0))) (.seq (.block 1 (qs [zM 10 0,zM 11 3,qD 12 8 10 11,qT 13 8 12,q1 14 97 13,qO 15 14] [0,3,15] (qc 15 (qr [qB 2 false] [2]) .skip))) (.reg [zM 8 3,qk 9 .add 8 1,zM 3 9] [0,3])))))) (qr [zM 16 0,qL 17 16,qk 18 .leq 17 12,zM 2 18] [2])))
theorem K.gu : iR pZ 102 1 0 C.gu [.tmp 2]=true:=by kernel_rfl
def C.kS : bW:=(qs [qX 1 10 0,qB 2 false] [1] (qr [qA 3 0 1,qF 4 1 3,⟨none,some 5,.call 93 [.t 4,kI 1,kI 5]⟩,zM 6 5,zG 6 true 7 (.jZ 1 (.t 1)),zG 6 true 8 (.load false 1 (.t 7)),⟨(some (6,true)),some 9,.call 101 [.t 8]⟩,qP 10 6 9,zM 11 10,zG 11 true 12 (.jZ 2 (.t 1)),zG 11 true 13 (.load false 1 (.t 12)),⟨(some (11,true)),some 14,.call 53 [.t 13]⟩,qP 15 11 14,zM 16 15,zG 16 true 17 (.jZ 3 (.t 1)),zG 16 true 18 (.load false 1 (.t 17)),⟨(some (16,true)),some 19,.call 53 [.t 18]⟩,qP 20 16 19,zM 21 20,zG 21 true 22 (.jZ 4 (.t 1)),zG 21 true 23 (.load true 5 (.t 22)),⟨(some (21,true)),some 24,.call 57 [.t 23]⟩,qP 25 21 24,zM 26 25,zG 26 true 27 (.jZ 9 (.t 1)),zG 26 true 28 (.load false 1 (.t 27)),⟨(some (26,true)),some 29,.call 102 [.t 28]⟩,qP 30 26 29,zM 2 30] [2]))
theorem K.kS : iR pZ 58 1 0 C.kS [.tmp 2]=true:=by kernel_rfl
def C.dm : bW:=(qs [qX 1 10 0,zA 2 (.mv (.k (.c (.str []))))] [1] (.cut (qs [qT 4 10 1,q1 5 58 4,qO 6 5,zM 7 6,zG 7 false 8 (.jZ 4 (.t 1)),zG 7 false 9 (.jZ 0 (.t 8)),zG 7 false 10 (.load false 1 (.t 9)),zG 7 false 11 (.bin .neq (.t 10) (kI 0)),qm 7 false 12 11,zG 12 true 13 (.jZ 0 (.t 1)),zG 12 true 14 (.load false 1 (.t 13)),zG 12 true 15 (.bin .neq (.t 14) (kI 2)),zG 7 false 16 (.pick (.t 12) (.t 15) (kB false)),qm 7 false 17 16,zG 17 true 18 (.jZ 0 (.t 1)),zG 17 true 19 (.load false 1 (.t 18)),zG 17 true 20 (.bin .neq (.t 19) (kI 5)),zG 7 false 21 (.pick (.t 17) (.t 20) (kB false)),qQ 22 7 21,zM 23 22,zG 23 false 24 (.jZ 9 (.t 1)),zG 23 false 25 (.load false 1 (.t 24)),zG 23 false 26 (.len (.t 25)),zG 23 false 27 (.bin .gtr (.t 26) (kI 0)),qm 23 false 28 27,zG 28 true 29 (.jZ 0 (.t 1)),zG 28 true 30 (.load false 1 (.t 29)),zG 28 true 31 (.bin .neq (.t 30) (kI 4)),zG 23 false 32 (.pick (.t 28) (.t 31) (kB false)),qQ 33 23 32] [1,33] (qc 33 (qr [zA 2 (.mv (.k (.c (.str []))))] [2]) .skip)) (.seq (qs [qI 3 0] [1,3] (.block 0 (.loop (.seq (qs [zM 34 3,qA 35 9 1,qF 36 1 35,qL 37 36,qb 38 .lss 34 37] [1,3,38] (qc 38 .skip (.exit 0))) (.seq (.block 1 (qs [qA 41 9 1,qF 42 1 41,zM 43 3,qD 44 8 42 43,qT 45 8 44,q1 46 59 45,q1 47 57 46,qO 48 47] [1,3,48] (qc 48 (qr [zA 2 (.mv (.k (.c (.str []))))] [2]) .skip))) (.reg [zM 39 3,qk 40 .add 39 1,zM 3 40] [1,3])))))) (qr [qT 49 10 1,q1 50 60 49,zM 2 50] [2]))))
theorem K.dm : iR pZ 34 1 0 C.dm [.tmp 2]=true:=by kernel_rfl
def C.gm : bW:=(qs [zA 2 (.mv (.k (.c (.lit (.int .u8 0)))))] [0] (.seq (.seq (.qj [(zM 3 0,[]),(qN 4 3,[0]),(qA 5 1 4,[0,1]),(qF 6 1 5,[0,1,2]),(zM 7 0,[]),(qN 8 7,[4]),(qA 9 0 8,[4,5]),(qF 10 1 9,[4,5,6]),(ql 11 10,[4,5,6,7]),(qb 12 .geq 6 11,[0,1,2,3,4,5,6,7,8])] [0,12]) (qc 12 (qr [zA 2 (.mv (.k (.c (.lit (.int .u8 0)))))] [2]) .skip)) (.seq (.qj [(zM 13 0,[]),(qN 14 13,[0]),(qA 15 0 14,[0,1]),(qF 16 1 15,[0,1,2]),(zM 17 0,[]),(qN 18 17,[4]),(qA 19 1 18,[4,5]),(qF 20 1 19,[4,5,6]),(zA 21 (.idxs (.t 16) (.t 20)),[0,1,2,3,4,5,6,7]),(zM 2 21,[0,1,2,3,4,5,6,7,8])] [2]) .ret)))
theorem K.gm : iR pZ 56 1 1 C.gm [.tmp 2]=true:=by kernel_rfl
def C.jU : bW:=(.seq (qs [zM 4 0,q1 5 56 4,zM 6 1,qb 7 .neq 5 6] [0,7] (qc 7 (qr [zM 8 0,qN 9 8,qA 10 2 9,zS (.store false 1 (.t 10) (kB true))] []) .skip)) (.reg [zM 11 0,zM 12 0,qN 13 12,qA 14 1 13,qF 15 1 14,qk 16 .add 15 1,qN 17 11,qA 18 1 17,qU 1 18 16] []))
theorem K.jU : iR pZ 141 2 1 C.jU []=true:=by kernel_rfl
def C.eU : bW:=(qs [zA 2 (.mv (.k (.c (.str []))))] [0] (qs [zA 4 (.kT 10 1 0 [.lit (.int .u8 0)] []),zM 3 4] [0,3] (qs [zM 5 0,⟨none,some 6,.call 141 [.t 5,.k (.c (.lit (.int .u8 34)))]⟩] [0,3] (.seq (.block 0 (.loop (.seq (qs [zM 7 0,qN 8 7,qA 9 2 8,qF 10 1 9,qO 11 10,zM 12 11,qm 12 true 13 0,⟨(some (12,true)),some 14,.call 56 [.t 13]⟩,zG 12 true 15 (.bin .neq (.t 14) (.k (.c (.lit (.int .u8 34))))),qP 16 12 15] [0,3,16] (qc 16 .skip (.exit 0))) (.block 1 (.cut (qs [zM 17 0,q1 18 56 17,zA 19 (.bin .eql (.t 18) (.k (.c (.lit (.int .u8 92)))))] [0,3,19] (qc 19 (.reg [zM 20 0,zM 21 0,qN 22 21,qA 23 1 22,qF 24 1 23,qk 25 .add 24 1,qN 26 20,qA 27 1 26,qU 1 27 25] [0,3]) .skip)) (.seq (qs [zM 28 0,q1 29 56 28,zA 30 (.bin .eql (.t 29) (.k (.c (.lit (.int .u8 0)))))] [0,3,30] (qc 30 (qs [zM 31 0,qN 32 31,qA 33 2 32,zS (.store false 1 (.t 33) (kB true))] [] (qr [zA 2 (.mv (.k (.c (.str []))))] [2])) .skip)) (qs [zM 34 3,zM 35 0,q1 36 56 35,zA 37 (.kT 11 1 1 [.lit (.int .u8 0)] [(0,.t 36)]),zA 38 (.append 12 1 1 (.t 34) (.t 37)),zM 3 38] [0,3] (.reg [zM 39 0,zM 40 0,qN 41 40,qA 42 1 41,qF 43 1 42,qk 44 .add 43 1,qN 45 39,qA 46 1 45,qU 1 46 44] [0,3])))))))) (qs [zM 47 0,⟨none,some 48,.call 141 [.t 47,.k (.c (.lit (.int .u8 34)))]⟩] [3] (qr [zM 49 3,zA 50 (.PS (.t 49)),zM 2 50] [2]))))))
theorem K.eU : iR pZ 91 1 1 C.eU [.tmp 2]=true:=by kernel_rfl
def C.fA : bW:=(qs [qI 2 0] [0] (qs [qI 3 0] [0,3] (qs [qI 4 1] [0,3,4] (.cut (qs [zM 6 0,q1 7 56 6,zA 8 (.bin .eql (.t 7) (.k (.c (.lit (.int .u8 45)))))] [0,3,4,8] (qc 8 (qs [qI 4 (-1)] [0,3,4] (.reg [zM 9 0,zM 10 0,qN 11 10,qA 12 1 11,qF 13 1 12,qk 14 .add 13 1,qN 15 9,qA 16 1 15,qU 1 16 14] [0,3,4])) .skip)) (.seq (qs [qI 5 0] [0,3,4,5] (.block 0 (.loop (.seq (qs [zM 17 5,qk 18 .lss 17 7,zM 19 18,qm 19 true 20 0,⟨(some (19,true)),some 21,.call 56 [.t 20]⟩,zG 19 true 22 (.GH .i64 (.t 21)),⟨(some (19,true)),some 23,.call 93 [.t 22,kI 48,kI 57]⟩,qP 24 19 23] [0,3,4,5,24] (qc 24 .skip (.exit 0))) (.seq (.block 1 (qs [zM 27 3,zA 28 (.bin .mul (kI 10) (.t 27)),zM 29 0,q1 30 56 29,zA 31 (.GH .i64 (.t 30)),qb 32 .add 28 31,qk 33 .sub 32 48,zM 3 33] [0,3,4,5] (.reg [zM 34 0,zM 35 0,qN 36 35,qA 37 1 36,qF 38 1 37,qk 39 .add 38 1,qN 40 34,qA 41 1 40,qU 1 41 39] [0,3,4,5]))) (.reg [zM 25 5,qk 26 .add 25 1,zM 5 26] [0,3,4,5])))))) (qr [zM 42 4,zM 43 3,qb 44 .mul 42 43,zM 2 44] [2]))))))
theorem K.fA : iR pZ 94 1 1 C.fA [.tmp 2]=true:=by kernel_rfl
def C.bK : bW:=(qs [qX 5 10 1,qZ 8 11] [0,2,3,5,8] (qs [zA 11 (.kT 12 1 0 [.str []] []),zM 9 11] [0,2,3,5,8,9] (qs [zA 12 (.kT 13 5 0 [.lit (.int .i64 0),.lit (.int .i64 0),.str [],.sl 1 [],.sl 5 []] []),zM 10 12] [0,2,3,5,8,9,10] (qs [zM 13 0,zM 14 0,qN 15 14,qA 16 1 15,qF 17 1 16,qk 18 .add 17 1,qN 19 13,qA 20 1 19,qU 1 20 18] [0,2,3,5,8,9,10] (.seq (.block 0 (.loop (.seq (qs [zM 21 0,qN 22 21,qA 23 2 22,qF 24 1 23,qO 25 24,zM 26 25,qm 26 true 27 0,⟨(some (26,true)),some 28,.call 56 [.t 27]⟩,qm 26 true 29 2,zG 26 true 30 (.bin .neq (.t 28) (.t 29)),qP 31 26 30] [0,2,3,5,8,9,10,31] (qc 31 .skip (.exit 0))) (.block 1 (.cut (qs [zM 32 10,qL 33 32,qk 34 .gtr 33 0] [0,2,3,5,8,9,10,34] (qc 34 (.reg [zM 35 0,⟨none,some 36,.call 141 [.t 35,.k (.c (.lit (.int .u8 44)))]⟩] [0,2,3,5,8,9,10]) .skip)) (.cut (qs [qA 37 0 5,qF 38 1 37,qk 39 .eql 38 4] [0,2,3,5,8,9,10,39] (qc 39 (qs [zM 40 9,zM 41 0,q1 42 91 41,zA 43 (.kT 14 1 1 [.str []] [(0,.t 42)]),zA 44 (.append 15 1 16 (.t 40) (.t 43)),zM 9 44] [0,2,3,5,8,9,10] (.reg [zM 45 0,⟨none,some 46,.call 141 [.t 45,.k (.c (.lit (.int .u8 58)))]⟩] [0,2,3,5,8,9,10])) .skip)) (.reg [zM 47 10,zM 48 0,zM 49 3,qk 50 .sub 49 1,q2 51 54 48 50,zA 52 (.kT 16 5 1 [.lit (.int .i64 0),.lit (.int .i64 0),.str [],.sl 1 [],.sl 5 []] [(0,.t 51)]),zA 53 (.append 17 5 80 (.t 47) (.t 52)),zM 10 53] [0,2,3,5,8,9,10]))))))) (qs [zM 54 0,zM 55 2,q2 56 141 54 55] [5,8,9,10] (qr [qA 57 0 5,qF 58 1 57,zM 59 9,zM 60 10,zA 61 (.build zN [(0,1,.t 58),(3,1,.t 59),(4,1,.t 60)]),qS 5 8 61] [8])))))))
theorem K.bK : iR pZ 92 4 1 C.bK [.cell 8 true 5]=true:=by kernel_rfl
def C.jT : bW:=(qs [qZ 4 10] [0,1,4] (.seq (.block 0 (qs [zM 6 1,qk 7 .eql 6 0,zM 8 7,qm 8 false 9 0,zG 8 false 10 (.ES (.t 9)),zG 8 false 11 (.jZ 2 (.t 10)),zG 8 false 12 (.load false 1 (.t 11)),qQ 13 8 12,zM 5 13] [0,1,4,5] (qc 5 (qs [zM 14 0,qN 15 14,qA 16 2 15,zS (.store false 1 (.t 16) (kB true))] [4] (qr [zA 17 (.build zN []),qS 5 4 17] [4])) (qs [zM 19 0,q1 20 56 19,zA 21 (.bin .eql (.t 20) (.k (.c (.lit (.int .u8 34))))),zM 18 21] [0,1,4,18] (qc 18 (qr [zM 22 0,q1 23 91 22,zA 24 (.build zN [(0,1,kI 2),(2,1,.t 23)]),qS 5 4 24] [4]) (qs [zM 26 0,q1 27 56 26,zA 28 (.bin .eql (.t 27) (.k (.c (.lit (.int .u8 91))))),zM 25 28] [0,1,4,25] (qc 25 (qr [zM 29 0,zA 30 (.build zN [(0,1,kI 3)]),zM 31 1,⟨none,some 32,.call 92 [.t 29,.t 30,.k (.c (.lit (.int .u8 93))),.t 31]⟩,qS 5 4 32] [4]) (qs [zM 34 0,q1 35 56 34,zA 36 (.bin .eql (.t 35) (.k (.c (.lit (.int .u8 123))))),zM 33 36] [0,1,4,33] (qc 33 (qr [zM 37 0,zA 38 (.build zN [(0,1,kI 4)]),zM 39 1,⟨none,some 40,.call 92 [.t 37,.t 38,.k (.c (.lit (.int .u8 125))),.t 39]⟩,qS 5 4 40] [4]) (qs [zM 42 0,q1 43 56 42,zA 44 (.bin .eql (.t 43) (.k (.c (.lit (.int .u8 110))))),zM 41 44] [0,4,41] (qc 41 (.seq (.qj [(zM 45 0,[]),(zM 46 0,[]),(qN 47 46,[1]),(qA 48 1 47,[1,2]),(qF 49 1 48,[1,2,3]),(qk 50 .add 49 4,[1,2,3,4]),(zM 51 0,[]),(qN 52 51,[6]),(qA 53 0 52,[6,7]),(qF 54 1 53,[6,7,8]),(ql 55 54,[6,7,8,9]),(zA 56 (.min (.t 50) (.t 55)),[1,2,3,4,5,6,7,8,9,10]),(qN 57 45,[0,1,2,3,4,5,6,7,8,9,10,11]),(qA 58 1 57,[0,1,2,3,4,5,6,7,8,9,10,11,12]),(qU 1 58 56,[0,1,2,3,4,5,6,7,8,9,10,11,12,13])] [4]) (qr [zA 59 (.build zN []),qS 5 4 59] [4])) (qs [zM 61 0,q1 62 56 61,zA 63 (.bin .eql (.t 62) (.k (.c (.lit (.int .u8 45))))),zM 64 63,qm 64 false 65 0,⟨(some (64,false)),some 66,.call 56 [.t 65]⟩,zG 64 false 67 (.GH .i64 (.t 66)),⟨(some (64,false)),some 68,.call 93 [.t 67,kI 48,kI 57]⟩,qQ 69 64 68,zM 60 69] [0,4,60] (qc 60 (qr [zM 70 0,q1 71 94 70,zA 72 (.build zN [(0,1,kI 1),(1,1,.t 71)]),qS 5 4 72] [4]) .skip))))))))))))) (qs [zM 73 0,qN 74 73,qA 75 2 74,zS (.store false 1 (.t 75) (kB true))] [4] (qr [zA 76 (.build zN []),qS 5 4 76] [4]))))
theorem K.jT : iR pZ 54 2 1 C.jT [.cell 4 true 5]=true:=by kernel_rfl
def C.qJ : bW:=(qs [qZ 2 10,qB 3 false] [0,2] (.seq (qs [zM 6 0,ql 7 6,qk 8 .gtr 7 2000] [0,2,8] (qc 8 (qr [zA 9 (.build zN []),qS 5 2 9,qB 3 false] [2,3]) .skip)) (qs [zM 10 0,zA 11 (.build [.c (.str []),lN 0,.c (.lit (.bool false))] [(0,1,.t 10)]),qX 12 11 11,zM 4 12] [0,2,4] (qs [zM 13 4,⟨none,some 14,.call 54 [.t 13,kI 5]⟩,qZ 5 12,qS 5 5 14] [0,2,4,5] (.seq (qs [zM 15 4,qN 16 15,qA 17 2 16,qF 18 1 17,zM 19 18,zG 19 false 20 (.load true 5 (.t 5)),⟨(some (19,false)),some 21,.call 57 [.t 20]⟩,zG 19 false 22 (.not (.t 21)),qQ 23 19 22,zM 24 23,zG 24 false 25 (.load true 5 (.t 5)),⟨(some (24,false)),some 26,.call 27 [.t 25]⟩,qm 24 false 27 0,zG 24 false 28 (.bin .neq (.t 26) (.t 27)),qQ 29 24 28] [2,5,29] (qc 29 (qr [zA 30 (.build zN []),qS 5 2 30,qB 3 false] [2,3]) .skip)) (qr [qT 31 5 5,qS 5 2 31,qB 3 true] [2,3]))))))
theorem K.qJ : iR pZ 33 1 0 C.qJ [.cell 2 true 5,.tmp 3]=true:=by kernel_rfl
def C.iY : bW:=(qs [zA 2 (.mv (.k (.jC 1))),qB 3 false] [0] (qs [zA 6 (.kT 10 1 0 [.str []] []),zM 4 6] [0,4] (.seq (qs [qI 5 0] [0,4,5] (.block 0 (.loop (.seq (qs [zM 7 5,zM 8 0,ql 9 8,qb 10 .lss 7 9,zM 11 10,qm 11 true 12 4,zG 11 true 13 (.len (.t 12)),zG 11 true 14 (.bin .leq (.t 13) (kI 4)),qP 15 11 14] [0,4,5,15] (qc 15 .skip (.exit 0))) (.block 1 (.block 2 (qs [zM 17 5,qk 18 .gtr 17 0,zM 19 18,qm 19 true 20 0,qm 19 true 21 5,zG 19 true 22 (.idxs (.t 20) (.t 21)),zG 19 true 23 (.bin .eql (.t 22) (.k (.c (.lit (.int .u8 44))))),qP 24 19 23,zM 16 24] [0,4,5,16] (qc 16 (.reg [zM 25 5,qk 26 .add 25 1,zM 5 26] [0,4,5]) (qs [zM 28 0,zM 29 5,zA 30 (.idxs (.t 28) (.t 29)),zA 31 (.bin .eql (.t 30) (.k (.c (.lit (.int .u8 42))))),zM 27 31] [0,4,5,27] (qc 27 (qs [zM 32 4,zA 33 (.kT 11 1 1 [.str []] [(0,.k (.c (.str [42])))]),zA 34 (.append 12 1 16 (.t 32) (.t 33)),zM 4 34] [0,4,5] (.reg [zM 35 5,qk 36 .add 35 1,zM 5 36] [0,4,5])) (qs [zM 38 5,qk 39 .add 38 6,zM 40 0,ql 41 40,qb 42 .leq 39 41,zM 37 42] [0,4,5,37] (qc 37 (qs [zM 43 4,zM 44 0,zM 45 5,qk 46 .add 45 1,zM 47 5,qk 48 .add 47 5,zA 49 (.G7 (.t 44) (some (.t 46)) (some (.t 48))),zA 50 (.kT 13 1 1 [.str []] [(0,.t 49)]),zA 51 (.append 14 1 16 (.t 43) (.t 50)),zM 4 51] [0,4,5] (.reg [zM 52 5,qk 53 .add 52 6,zM 5 53] [0,4,5])) (qr [zA 2 (.mv (.k (.jC 1))),qB 3 false] [2,3]))))))))))))) (.seq (qs [zM 54 4,q1 55 52 54,zM 56 0,qb 57 .neq 55 56,zM 58 57,qm 58 false 59 4,⟨(some (58,false)),some 60,.call 53 [.t 59]⟩,zG 58 false 61 (.not (.t 60)),qQ 62 58 61] [4,62] (qc 62 (qr [zA 2 (.mv (.k (.jC 1))),qB 3 false] [2,3]) .skip)) (qr [zM 63 4,zM 2 63,qB 3 true] [2,3])))))
theorem K.iY : iR pZ 31 1 0 C.iY [.tmp 2,.tmp 3]=true:=by kernel_rfl
def C.qK : bW:=(qs [zA 2 (.mv (.k (.c (.str [])))),zA 3 (.mv (.k (.c (.str []))))] [0] (.seq (qs [qI 4 0] [0,4] (.block 0 (.loop (.seq (qs [zM 5 4,zM 6 0,ql 7 6,qb 8 .lss 5 7] [0,4,8] (qc 8 .skip (.exit 0))) (.seq (.block 1 (qs [zM 11 0,zM 12 4,zA 13 (.idxs (.t 11) (.t 12)),zA 14 (.bin .eql (.t 13) (.k (.c (.lit (.int .u8 32)))))] [0,4,14] (qc 14 (.seq (.qj [(zM 15 0,[]),(zM 16 4,[]),(zA 17 (.G7 (.t 15) none (some (.t 16))),[0,1]),(zM 18 0,[]),(zM 19 4,[]),(qk 20 .add 19 1,[4]),(zA 21 (.G7 (.t 18) (some (.t 20)) none),[3,4,5]),(zM 2 17,[0,1,2]),(zM 3 21,[0,1,2,3,4,5,6,7])] [2,3]) .ret) .skip))) (.reg [zM 9 4,qk 10 .add 9 1,zM 4 10] [0,4])))))) (qr [zM 22 0,zM 2 22,zA 3 (.mv (.k (.c (.str []))))] [2,3])))
theorem K.qK : iR pZ 29 1 0 C.qK [.tmp 2,.tmp 3]=true:=by kernel_rfl
def C.nD : bW:=(qs [qX 1 10 0,zA 2 (.mv (.k (.jC 1)))] [1] (qs [zA 5 (.kT 11 1 0 [.str []] []),zM 3 5] [1,3] (.seq (qs [qI 4 0] [1,3,4] (.block 0 (.loop (.seq (qs [zM 6 4,qA 7 4 1,qF 8 1 7,qL 9 8,qb 10 .lss 6 9] [1,3,4,10] (qc 10 .skip (.exit 0))) (.seq (.block 1 (.reg [zM 13 3,qA 14 4 1,qF 15 1 14,zM 16 4,qD 17 5 15 16,qA 18 2 17,qF 19 1 18,zA 20 (.kT 12 1 1 [.str []] [(0,.t 19)]),zA 21 (.append 13 1 16 (.t 13) (.t 20)),zM 3 21] [1,3,4])) (.reg [zM 11 4,qk 12 .add 11 1,zM 4 12] [1,3,4])))))) (qr [zM 22 3,zM 2 22] [2]))))
theorem K.nD : iR pZ 96 1 0 C.nD [.tmp 2]=true:=by kernel_rfl
end Go.Ab
