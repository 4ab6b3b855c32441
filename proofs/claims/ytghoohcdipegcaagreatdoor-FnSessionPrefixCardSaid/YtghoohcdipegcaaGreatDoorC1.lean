/- The functions of the program that the laws reach: what they compute, the proofs that they do, the laws of the data (part 1). No conditions. -/
import Derived.Test.YtghoohcdipegcaaGreatDoorY2
set_option linter.unusedVariables false
set_option linter.unusedSimpArgs false
set_option maxRecDepth 100000
set_option maxHeartbeats 4000000
set_option linter.defProp false
set_option linter.unusedSectionVars false
open BitVec renaming ofInt->pG
open Go.IntKind renaming wrap->af,bits->fP
open Go.Op renaming bytesLess->iU
open Int renaming tmod->iR,tdiv->lJ,fdiv->rD
open List renaming map->ag,replicate->dh
open UInt8 renaming ofNat->eU
namespace Go.Ab
open Go
structure aj where
 Kind:Int
 Num:Int
 Text:aK
 Names:List aK
 Kids:List aj
 deriving Inhabited
mutual
def aj.cells : aj->List Cell
 |aj.mk x0 x1 x2 x3 x4=>[.lit (.int .i64 x0),.lit (.int .i64 x1),.str x2,.sl 1 (ag cS x3),.sl 5 (aj.IA x4)]
def aj.IA : List aj->List (List Cell)
 |[]=>[]
 |x::r=>x.cells::aj.IA r
end
theorem aj.Td (ks:List aj):aj.IA ks=ag aj.cells ks:=by
 induction ks with
 |nil=>rfl
 |cons x r ih=>simp[aj.IA,ih]
theorem aj.dZ (n:aj):n.cells=[.lit (.int .i64 n.Kind),.lit (.int .i64 n.Num),.str n.Text,.sl 1 (ag cS n.Names),.sl 5 (ag aj.cells n.Kids)]:=by cases n;rw[aj.cells,aj.Td]
structure oz where
 Kind:Int
 Path:List aK
 From:List aK
 Value:aj
 deriving Inhabited
def oz.cells (n:oz):List Cell:=[.lit (.int .i64 n.Kind),.sl 1 (ag cS n.Path),.sl 1 (ag cS n.From),.lit (.int .i64 n.Value.Kind),.lit (.int .i64 n.Value.Num),.str n.Value.Text,.sl 1 (ag cS n.Value.Names),.sl 5 (ag aj.cells n.Value.Kids)]
theorem oz.dZ (n:oz):n.cells=[.lit (.int .i64 n.Kind),.sl 1 (ag cS n.Path),.sl 1 (ag cS n.From),.lit (.int .i64 n.Value.Kind),.lit (.int .i64 n.Value.Num),.str n.Value.Text,.sl 1 (ag cS n.Value.Names),.sl 5 (ag aj.cells n.Value.Kids)]:=rfl
structure bI where
 Name:aK
 Version:Int
 Node:aj
 deriving Inhabited
def bI.cells (n:bI):List Cell:=[.str n.Name,.lit (.int .i64 n.Version),.lit (.int .i64 n.Node.Kind),.lit (.int .i64 n.Node.Num),.str n.Node.Text,.sl 1 (ag cS n.Node.Names),.sl 5 (ag aj.cells n.Node.Kids)]
theorem bI.dZ (n:bI):n.cells=[.str n.Name,.lit (.int .i64 n.Version),.lit (.int .i64 n.Node.Kind),.lit (.int .i64 n.Node.Num),.str n.Node.Text,.sl 1 (ag cS n.Node.Names),.sl 5 (ag aj.cells n.Node.Kids)]:=rfl
structure StoreT where
 Items:List bI
 Clock:Int
 deriving Inhabited
def StoreT.cells (n:StoreT):List Cell:=[.sl 7 (ag bI.cells n.Items),.lit (.int .i64 n.Clock)]
theorem StoreT.dZ (n:StoreT):n.cells=[.sl 7 (ag bI.cells n.Items),.lit (.int .i64 n.Clock)]:=rfl
structure RequestT where
 Method:Int
 Name:aK
 Want:List aK
 oP:List aK
 Body:aj
 Ops:List oz
 deriving Inhabited
def RequestT.cells (n:RequestT):List Cell:=[.lit (.int .i64 n.Method),.str n.Name,.sl 1 (ag cS n.Want),.sl 1 (ag cS n.oP),.lit (.int .i64 n.Body.Kind),.lit (.int .i64 n.Body.Num),.str n.Body.Text,.sl 1 (ag cS n.Body.Names),.sl 5 (ag aj.cells n.Body.Kids),.sl 8 (ag oz.cells n.Ops)]
theorem RequestT.dZ (n:RequestT):n.cells=[.lit (.int .i64 n.Method),.str n.Name,.sl 1 (ag cS n.Want),.sl 1 (ag cS n.oP),.lit (.int .i64 n.Body.Kind),.lit (.int .i64 n.Body.Num),.str n.Body.Text,.sl 1 (ag cS n.Body.Names),.sl 5 (ag aj.cells n.Body.Kids),.sl 8 (ag oz.cells n.Ops)]:=rfl
structure gI where
 Status:Int
 Tag:aK
 Version:Int
 Body:aj
 deriving Inhabited
def gI.cells (n:gI):List Cell:=[.lit (.int .i64 n.Status),.str n.Tag,.lit (.int .i64 n.Version),.lit (.int .i64 n.Body.Kind),.lit (.int .i64 n.Body.Num),.str n.Body.Text,.sl 1 (ag cS n.Body.Names),.sl 5 (ag aj.cells n.Body.Kids)]
theorem gI.dZ (n:gI):n.cells=[.lit (.int .i64 n.Status),.str n.Tag,.lit (.int .i64 n.Version),.lit (.int .i64 n.Body.Kind),.lit (.int .i64 n.Body.Num),.str n.Body.Text,.sl 1 (ag cS n.Body.Names),.sl 5 (ag aj.cells n.Body.Kids)]:=rfl
structure Az where
 Func:aK
 Num:aK
 Err:Unit
 deriving Inhabited
def Az.cells (n:Az):List Cell:=[.str n.Func,.str n.Num,.lit .nilIface]
theorem Az.dZ (n:Az):n.cells=[.str n.Func,.str n.Num,.lit .nilIface]:=rfl
structure bn where
 text:aK
 at_:Int
 deriving Inhabited
def bn.cells (n:bn):List Cell:=[.str n.text,.lit (.int .i64 n.at_)]
theorem bn.dZ (n:bn):n.cells=[.str n.text,.lit (.int .i64 n.at_)]:=rfl
structure mM where
 now:StoreT
 kept:StoreT
 deriving Inhabited
def mM.cells (n:mM):List Cell:=[.sl 7 (ag bI.cells n.now.Items),.lit (.int .i64 n.now.Clock),.sl 7 (ag bI.cells n.kept.Items),.lit (.int .i64 n.kept.Clock)]
theorem mM.dZ (n:mM):n.cells=[.sl 7 (ag bI.cells n.now.Items),.lit (.int .i64 n.now.Clock),.sl 7 (ag bI.cells n.kept.Items),.lit (.int .i64 n.kept.Clock)]:=rfl
structure ReaderT where
 b:List Int
 p:Int
 deriving Inhabited
def ReaderT.cells (n:ReaderT):List Cell:=[.sl 1 (ag cU n.b),.lit (.int .i64 n.p)]
theorem ReaderT.dZ (n:ReaderT):n.cells=[.sl 1 (ag cU n.b),.lit (.int .i64 n.p)]:=rfl
structure dM where
 text:aK
 at_:Int
 bad:Bool
 deriving Inhabited
def dM.cells (n:dM):List Cell:=[.str n.text,.lit (.int .i64 n.at_),.lit (.bool n.bad)]
theorem dM.dZ (n:dM):n.cells=[.str n.text,.lit (.int .i64 n.at_),.lit (.bool n.bad)]:=rfl
structure wL where
 store:StoreT
 mark:StoreT
 deriving Inhabited
def wL.cells (n:wL):List Cell:=[.sl 7 (ag bI.cells n.store.Items),.lit (.int .i64 n.store.Clock),.sl 7 (ag bI.cells n.mark.Items),.lit (.int .i64 n.mark.Clock)]
theorem wL.dZ (n:wL):n.cells=[.sl 7 (ag bI.cells n.store.Items),.lit (.int .i64 n.store.Clock),.sl 7 (ag bI.cells n.mark.Items),.lit (.int .i64 n.mark.Clock)]:=rfl
def G.cmp_isNaN_int (f:Nat)(uh:Int):Option (Bool):=match f with
|0=>none
|n+1=>(some ((uh != uh)))
def G.cmp_Compare_int (f:Nat)(uh:Int)(KR:Int):Option (Int):=match f with
|0=>none
|n+1=>((G.cmp_isNaN_int n uh).bind λv1=>((G.cmp_isNaN_int n KR).bind λv2=>(cond v1
(cond v2
(some (0))
(some ((-1))))
(cond v2
(some (1))
(cond (decide (uh<KR))
(some ((-1)))
(cond (decide (KR<uh))
(some (1))
(some (0))))))))
def G.cmp_isNaN_string (f:Nat)(uh:aK):Option (Bool):=match f with
|0=>none
|n+1=>(some ((!(uh==uh))))
def G.cmp_Less_string (f:Nat)(uh:aK)(KR:aK):Option (Bool):=match f with
|0=>none
|n+1=>((G.cmp_isNaN_string n uh).bind λv1=>(cond v1
((G.cmp_isNaN_string n KR).bind λv2=>(cond v2
(some ((iU uh KR)))
(some (true))))
(some ((iU uh KR)))))
mutual
def G.aP.L2 (f:Nat)(ay:aj)(z1:List aK)(jb:Int)(z4:List aj):Option (aj):=match f with
|0=>none
|n+1=>(cond (decide (jb<(ay.Kids.length:Int)))
(chk (0<=jb/\jb<(ay.Kids.length:Int))
((G.aP n (ay.Kids.getD jb.toNat default)).bind λv3=>(chk (0<=jb/\jb<(z4.length:Int))
(G.aP.L2 n ay z1 (af .i64 (jb+1)) (z4.set jb.toNat v3)))))
(some ((aj.mk ay.Kind ay.Num ay.Text z1 z4))))
def G.aP.K1 (f:Nat)(ay:aj)(z1:List aK):Option (aj):=match f with
|0=>none
|n+1=>(cond (decide (0<(ay.Kids.length:Int)))
(chk (0<=(ay.Kids.length:Int)/\(ay.Kids.length:Int)<=(ay.Kids.length:Int)/\80*(ay.Kids.length:Int)<=2^47/\(ay.Kids.length:Int)<=2^47)
(G.aP.L2 n ay z1 0 (dh ay.Kids.length (aj.mk 0 0 [] [] []))))
(some ((aj.mk ay.Kind ay.Num ay.Text z1 []))))
def G.aP (f:Nat)(ay:aj):Option (aj):=match f with
|0=>none
|n+1=>(cond (decide (0<(ay.Names.length:Int)))
(chk (0<=(ay.Names.length:Int)/\(ay.Names.length:Int)<=(ay.Names.length:Int)/\16*(ay.Names.length:Int)<=2^47/\(ay.Names.length:Int)<=2^47)
(G.aP.K1 n ay ay.Names))
(G.aP.K1 n ay []))
end
def G.slices_isNaN_string (f:Nat)(uh:aK):Option (Bool):=match f with
|0=>none
|n+1=>(some ((!(uh==uh))))
def G.slices_BinarySearch_string.L1 (f:Nat)(uh:List aK)(qH:aK)(aN:Int)(JV:Int):Option (Int×Bool):=match f with
|0=>none
|n+1=>(cond (decide (aN<JV))
(chk (0<=(af .i64 ((rD (af .u64 ((af .i64 (aN+JV)))) (2^(min 1 (fP .u64))))))/\(af .i64 ((rD (af .u64 ((af .i64 (aN+JV)))) (2^(min 1 (fP .u64))))))<(uh.length:Int))
((G.cmp_Less_string n (uh.getD (af .i64 ((rD (af .u64 ((af .i64 (aN+JV)))) (2^(min 1 (fP .u64)))))).toNat default) qH).bind λv3=>(cond v3
(G.slices_BinarySearch_string.L1 n uh qH (af .i64 ((af .i64 ((rD (af .u64 ((af .i64 (aN+JV)))) (2^(min 1 (fP .u64))))))+1)) JV)
(G.slices_BinarySearch_string.L1 n uh qH aN (af .i64 ((rD (af .u64 ((af .i64 (aN+JV)))) (2^(min 1 (fP .u64))))))))))
(cond (decide (aN<(uh.length:Int)))
(chk (0<=aN/\aN<(uh.length:Int))
(cond ((uh.getD aN.toNat default)==qH)
(some (aN,true))
(chk (0<=aN/\aN<(uh.length:Int))
((G.slices_isNaN_string n (uh.getD aN.toNat default)).bind λv4=>(cond v4
((G.slices_isNaN_string n qH).bind λv5=>(some (aN,v5)))
(some (aN,false)))))))
(some (aN,false))))
def G.slices_BinarySearch_string (f:Nat)(uh:List aK)(qH:aK):Option (Int×Bool):=match f with
|0=>none
|n+1=>(G.slices_BinarySearch_string.L1 n uh qH 0 (uh.length:Int))
def G.strconv_Itoa (f:Nat)(i:Int):Option aK:=match f with
|0=>none
|_+1=>(chk ((-9223372036854775808<=i/\i<=9223372036854775807)/\(Go.Lib.itoa i).length<=1000000) (some (Go.Lib.itoa i)))
def G.gV.L1 (f:Nat)(ay:aj)(jZ:aK)(jb:Int):Option (Int×Bool):=match f with
|0=>none
|n+1=>(cond (decide (jb<(ay.Kids.length:Int)))
((G.strconv_Itoa n jb).bind λv4=>(cond (v4==jZ)
(some (jb,true))
(G.gV.L1 n ay jZ (af .i64 (jb+1)))))
(some (0,false)))
def G.gV (f:Nat)(ay:aj)(jZ:aK):Option (Int×Bool):=match f with
|0=>none
|n+1=>(cond (ay.Kind==4)
((G.slices_BinarySearch_string n ay.Names jZ).bind λv1=>(some (v1.1,v1.2)))
(cond (ay.Kind==3)
(G.gV.L1 n ay jZ 0)
(some (0,false))))
def G.jf (f:Nat)(s:List aj)(i:Int)(v:List aj):Option (List aj):=match f with
|0=>none
|_+1=>chk (0<=i/\i<=(s.length:Int)/\v.length=1/\(s.length+1)*86<=2^46) (some (s.take i.toNat++v++s.drop i.toNat))
def G.mQ (f:Nat)(s:List aK)(i:Int)(v:List aK):Option (List aK):=match f with
|0=>none
|_+1=>chk (0<=i/\i<=(s.length:Int)/\v.length=1/\(s.length+1)*18<=2^46) (some (s.take i.toNat++v++s.drop i.toNat))
def G.oU (f:Nat)(Bc:aj)(fF:aK)(iY:aj):Option (aj):=match f with
|0=>none
|n+1=>((G.slices_BinarySearch_string n Bc.Names fF).bind λv1=>(cond v1.2
(chk (0<=v1.1/\v1.1<(Bc.Kids.length:Int))
(some ((aj.mk Bc.Kind Bc.Num Bc.Text Bc.Names (Bc.Kids.set v1.1.toNat iY)))))
((G.mQ n Bc.Names v1.1 [fF]).bind λv2=>((G.jf n Bc.Kids v1.1 [iY]).bind λv3=>(some ((aj.mk Bc.Kind Bc.Num Bc.Text v2 v3)))))))
def G.lK.K1 (f:Nat)(iY:aj)(v1:aj)(ahf:Int)(Xl:Bool):Option (aj×Bool):=match f with
|0=>none
|n+1=>(cond Xl
((G.aP n iY).bind λv6=>((G.jf n v1.Kids ahf [v6]).bind λv7=>(some ((aj.mk v1.Kind v1.Num v1.Text v1.Names v7),true))))
(some ((aj.mk 0 0 [] [] []),false)))
def G.lK (f:Nat)(ay:aj)(jZ:aK)(iY:aj):Option (aj×Bool):=match f with
|0=>none
|n+1=>((G.aP n ay).bind λv1=>(cond (ay.Kind==4)
((G.aP n iY).bind λv2=>((G.oU n v1 jZ v2).bind λv3=>(some (v3,true))))
(cond (ay.Kind==3)
((G.gV n ay jZ).bind λv4=>(cond v4.2
(G.lK.K1 n iY v1 v4.1 true)
(cond (jZ==[45])
(G.lK.K1 n iY v1 (ay.Kids.length:Int) true)
((G.strconv_Itoa n (ay.Kids.length:Int)).bind λv8=>(cond (jZ==v8)
(G.lK.K1 n iY v1 (ay.Kids.length:Int) true)
(G.lK.K1 n iY v1 v4.1 false))))))
(some ((aj.mk 0 0 [] [] []),false)))))
def G.uj (f:Nat)(yS:aj)(kR:List aK)(oO:Int)(zl:aj):Option (aj×Bool):=match f with
|0=>none
|n+1=>(chk (0<=oO/\oO<(kR.length:Int))
((G.lK n yS (kR.getD oO.toNat default) zl).bind λv1=>(some (v1.1,v1.2))))
def G.gU.L1 (f:Nat)(aA:aK)(aN:Int):Option (Bool):=match f with
|0=>none
|n+1=>(cond (decide (aN<(aA.length:Int)))
(chk (0<=aN/\aN<(aA.length:Int))
(cond (decide (((aA.getD aN.toNat 0).toNat:Int)<32))
(some (false))
(chk (0<=aN/\aN<(aA.length:Int))
(cond (decide (126<((aA.getD aN.toNat 0).toNat:Int)))
(some (false))
(G.gU.L1 n aA (af .i64 (aN+1)))))))
(some (true)))
def G.gU (f:Nat)(aA:aK):Option (Bool):=match f with
|0=>none
|n+1=>(cond (decide (12<(aA.length:Int)))
(some (false))
(G.gU.L1 n aA 0))
def G.kC.L1 (f:Nat)(wM:List aK)(jb:Int):Option (Bool):=match f with
|0=>none
|n+1=>(cond (decide (jb<(wM.length:Int)))
(chk (0<=jb/\jb<(wM.length:Int))
((G.gU n (wM.getD jb.toNat default)).bind λv3=>(cond v3
(cond (decide (0<jb))
(chk (0<=(af .i64 (jb-1))/\(af .i64 (jb-1))<(wM.length:Int))
(cond (iU (wM.getD (af .i64 (jb-1)).toNat default) (wM.getD jb.toNat default))
(G.kC.L1 n wM (af .i64 (jb+1)))
(some (false))))
(G.kC.L1 n wM (af .i64 (jb+1))))
(some (false)))))
(some (true)))
def G.kC (f:Nat)(wM:List aK):Option (Bool):=match f with
|0=>none
|n+1=>(cond (decide (6<(wM.length:Int)))
(some (false))
(G.kC.L1 n wM 0))
def G.gZ.K1 (f:Nat)(ay:aj):Option (Bool):=match f with
|0=>none
|n+1=>(cond (ay.Kind != 4)
(cond (decide (0<(ay.Names.length:Int)))
(some (false))
(cond (ay.Kind==0)
(some (((ay.Kids.length:Int)==0)))
(cond (ay.Kind==1)
(cond (decide ((-999999)<=ay.Num))
(cond (decide (ay.Num<=999999))
(some (((ay.Kids.length:Int)==0)))
(some (false)))
(some (false)))
(cond (ay.Kind==2)
((G.gU n ay.Text).bind λv1=>(cond v1
(some (((ay.Kids.length:Int)==0)))
(some (false))))
(cond (ay.Kind==3)
(some ((decide ((ay.Kids.length:Int)<=6))))
(cond (ay.Kind==4)
((G.kC n ay.Names).bind λv2=>(cond v2
(some (((ay.Kids.length:Int)==(ay.Names.length:Int))))
(some (false))))
(some (false))))))))
(cond (ay.Kind==0)
(some (((ay.Kids.length:Int)==0)))
(cond (ay.Kind==1)
(cond (decide ((-999999)<=ay.Num))
(cond (decide (ay.Num<=999999))
(some (((ay.Kids.length:Int)==0)))
(some (false)))
(some (false)))
(cond (ay.Kind==2)
((G.gU n ay.Text).bind λv3=>(cond v3
(some (((ay.Kids.length:Int)==0)))
(some (false))))
(cond (ay.Kind==3)
(some ((decide ((ay.Kids.length:Int)<=6))))
(cond (ay.Kind==4)
((G.kC n ay.Names).bind λv4=>(cond v4
(some (((ay.Kids.length:Int)==(ay.Names.length:Int))))
(some (false))))
(some (false))))))))
def G.gZ (f:Nat)(ay:aj):Option (Bool):=match f with
|0=>none
|n+1=>(cond (ay.Kind != 1)
(cond (ay.Num != 0)
(some (false))
(cond (ay.Kind != 2)
(cond (ay.Text==[])
(G.gZ.K1 n ay)
(some (false)))
(G.gZ.K1 n ay)))
(cond (ay.Kind != 2)
(cond (ay.Text==[])
(G.gZ.K1 n ay)
(some (false)))
(G.gZ.K1 n ay)))
mutual
def G.gy.L1 (f:Nat)(ay:aj)(mO:Int)(Xk:Int)(RY:Int)(jb:Int):Option (Int×Int×Bool):=match f with
|0=>none
|n+1=>(cond (decide (jb<(ay.Kids.length:Int)))
(chk (0<=jb/\jb<(ay.Kids.length:Int))
((G.gy n (ay.Kids.getD jb.toNat default) (af .i64 (mO+1))).bind λv4=>(cond v4.2.2
(G.gy.L1 n ay mO (af .i64 (Xk+v4.1)) (if(af .i64 (v4.2.1+1))>RY then(af .i64 (v4.2.1+1))else RY) (af .i64 (jb+1)))
(some (0,0,false)))))
(some (Xk,RY,true)))
def G.gy (f:Nat)(ay:aj)(mO:Int):Option (Int×Int×Bool):=match f with
|0=>none
|n+1=>(cond (decide (5<mO))
(some (0,0,false))
((G.gZ n ay).bind λv1=>(cond v1
(G.gy.L1 n ay mO 1 1 0)
(some (0,0,false)))))
end
def G.aX (f:Nat)(ay:aj):Option (Bool):=match f with
|0=>none
|n+1=>((G.gy n ay 1).bind λv1=>(cond v1.2.2
(some ((decide (v1.1<=40))))
(some (false))))
mutual
def G.jF (f:Nat)(ay:aj)(aB:List aK)(kR:List aK)(oO:Int)(zl:aj):Option (aj×Bool):=match f with
|0=>none
|n+1=>(cond ((aB.length:Int)==0)
((G.uj n ay kR oO zl).bind λv1=>(some (v1.1,v1.2)))
(chk (0<=0/\0<(aB.length:Int))
((G.gV n ay (aB.getD 0 default)).bind λv2=>(cond v2.2
(chk (0<=v2.1/\v2.1<(ay.Kids.length:Int))
(chk (0<=1/\1<=(aB.length:Int)/\(aB.length:Int)<=(aB.length:Int))
((G.jF n (ay.Kids.getD v2.1.toNat default) (aB.drop 1) kR oO zl).bind λv3=>(cond v3.2
((G.aP n ay).bind λv4=>(chk (0<=v2.1/\v2.1<(v4.Kids.length:Int))
(some ((aj.mk v4.Kind v4.Num v4.Text v4.Names (v4.Kids.set v2.1.toNat v3.1)),true))))
(some ((aj.mk 0 0 [] [] []),false))))))
(some ((aj.mk 0 0 [] [] []),false))))))
end
def G.ni (f:Nat)(ay:aj)(Jo:Bool):Option (aj×Bool):=match f with
|0=>none
|n+1=>(cond Jo
((G.aX n ay).bind λv1=>(cond v1
(some (ay,true))
(some ((aj.mk 0 0 [] [] []),false))))
(some ((aj.mk 0 0 [] [] []),false)))
def G.iQ.L1 (f:Nat)(aB:List aK)(jb:Int):Option (Bool):=match f with
|0=>none
|n+1=>(cond (decide (jb<(aB.length:Int)))
(chk (0<=jb/\jb<(aB.length:Int))
((G.gU n (aB.getD jb.toNat default)).bind λv3=>(cond v3
(G.iQ.L1 n aB (af .i64 (jb+1)))
(some (false)))))
(some (true)))
def G.iQ (f:Nat)(aB:List aK):Option (Bool):=match f with
|0=>none
|n+1=>(cond (decide (5<(aB.length:Int)))
(some (false))
(G.iQ.L1 n aB 0))
def G.og (f:Nat)(ay:aj)(aB:List aK)(iY:aj):Option (aj×Bool):=match f with
|0=>none
|n+1=>((G.aX n ay).bind λv1=>(cond v1
((G.iQ n aB).bind λv2=>(cond v2
((G.aX n iY).bind λv3=>(cond v3
(cond ((aB.length:Int)==0)
((G.aP n iY).bind λv4=>(some (v4,true)))
(chk (0<=0/\0<=(af .i64 ((aB.length:Int)-1))/\(af .i64 ((aB.length:Int)-1))<=(aB.length:Int))
((G.jF n ay (aB.take ((af .i64 ((aB.length:Int)-1)).toNat)) aB (af .i64 ((aB.length:Int)-1)) iY).bind λv5=>((G.ni n v5.1 v5.2).bind λv6=>(some (v6.1,v6.2))))))
(some ((aj.mk 0 0 [] [] []),false))))
(some ((aj.mk 0 0 [] [] []),false))))
(some ((aj.mk 0 0 [] [] []),false))))
def G.kD.L1 (f:Nat)(aB:List aK)(jb:Int)(y6:Int)(y7:Int)(y8:aK)(y9:List aK)(LQ:List aj):Option (aj×Bool):=match f with
|0=>none
|n+1=>(cond (decide (jb<(aB.length:Int)))
(chk (0<=jb/\jb<(aB.length:Int))
((G.gV n (aj.mk y6 y7 y8 y9 LQ) (aB.getD jb.toNat default)).bind λv3=>(cond v3.2
(chk (0<=v3.1/\v3.1<(LQ.length:Int))
(G.kD.L1 n aB (af .i64 (jb+1)) ((LQ.getD v3.1.toNat default).Kind) ((LQ.getD v3.1.toNat default).Num) ((LQ.getD v3.1.toNat default).Text) ((LQ.getD v3.1.toNat default).Names) ((LQ.getD v3.1.toNat default).Kids)))
(some ((aj.mk 0 0 [] [] []),false)))))
(some ((aj.mk y6 y7 y8 y9 LQ),true)))
def G.kD (f:Nat)(ay:aj)(aB:List aK):Option (aj×Bool):=match f with
|0=>none
|n+1=>(G.kD.L1 n aB 0 ay.Kind ay.Num ay.Text ay.Names ay.Kids)
def G.tN (f:Nat)(ay:aj)(aB:List aK):Option (aj×Bool):=match f with
|0=>none
|n+1=>((G.aX n ay).bind λv1=>(cond v1
((G.iQ n aB).bind λv2=>(cond v2
((G.kD n ay aB).bind λv3=>(cond v3.2
((G.aP n v3.1).bind λv4=>(some (v4,true)))
(some ((aj.mk 0 0 [] [] []),false))))
(some ((aj.mk 0 0 [] [] []),false))))
(some ((aj.mk 0 0 [] [] []),false))))
def G.jR (f:Nat)(s:List aj)(i:Int)(j:Int):Option (List aj):=match f with
|0=>none
|_+1=>chk (0<=i/\i<j/\j<=(s.length:Int)/\s.length*86<=2^46) (some (s.take i.toNat++s.drop j.toNat))
def G.slices_Delete_string (f:Nat)(s:List aK)(i:Int)(j:Int):Option (List aK):=match f with
|0=>none
|_+1=>chk (0<=i/\i<j/\j<=(s.length:Int)/\s.length*18<=2^46) (some (s.take i.toNat++s.drop j.toNat))
def G.jv.K1 (f:Nat)(v1:Int×Bool)(v2:aj)(z1:List aK):Option (aj×Bool):=match f with
|0=>none
|n+1=>((G.jR n v2.Kids v1.1 (af .i64 (v1.1+1))).bind λv4=>(some ((aj.mk v2.Kind v2.Num v2.Text z1 v4),true)))
def G.jv (f:Nat)(yS:aj)(kR:List aK)(oO:Int):Option (aj×Bool):=match f with
|0=>none
|n+1=>(chk (0<=oO/\oO<(kR.length:Int))
((G.gV n yS (kR.getD oO.toNat default)).bind λv1=>(cond v1.2
((G.aP n yS).bind λv2=>(cond (yS.Kind==4)
((G.slices_Delete_string n v2.Names v1.1 (af .i64 (v1.1+1))).bind λv5=>(G.jv.K1 n v1 v2 v5))
(G.jv.K1 n v1 v2 v2.Names)))
(some ((aj.mk 0 0 [] [] []),false)))))
mutual
def G.ja (f:Nat)(ay:aj)(aB:List aK)(kR:List aK)(oO:Int):Option (aj×Bool):=match f with
|0=>none
|n+1=>(cond ((aB.length:Int)==0)
((G.jv n ay kR oO).bind λv1=>(some (v1.1,v1.2)))
(chk (0<=0/\0<(aB.length:Int))
((G.gV n ay (aB.getD 0 default)).bind λv2=>(cond v2.2
(chk (0<=v2.1/\v2.1<(ay.Kids.length:Int))
(chk (0<=1/\1<=(aB.length:Int)/\(aB.length:Int)<=(aB.length:Int))
((G.ja n (ay.Kids.getD v2.1.toNat default) (aB.drop 1) kR oO).bind λv3=>(cond v3.2
((G.aP n ay).bind λv4=>(chk (0<=v2.1/\v2.1<(v4.Kids.length:Int))
(some ((aj.mk v4.Kind v4.Num v4.Text v4.Names (v4.Kids.set v2.1.toNat v3.1)),true))))
(some ((aj.mk 0 0 [] [] []),false))))))
(some ((aj.mk 0 0 [] [] []),false))))))
end
def G.lX (f:Nat)(ay:aj)(aB:List aK):Option (aj×Bool):=match f with
|0=>none
|n+1=>((G.aX n ay).bind λv1=>(cond v1
((G.iQ n aB).bind λv2=>(cond v2
(cond ((aB.length:Int)==0)
(some ((aj.mk 0 0 [] [] []),false))
(chk (0<=0/\0<=(af .i64 ((aB.length:Int)-1))/\(af .i64 ((aB.length:Int)-1))<=(aB.length:Int))
((G.ja n ay (aB.take ((af .i64 ((aB.length:Int)-1)).toNat)) aB (af .i64 ((aB.length:Int)-1))).bind λv3=>(some (v3.1,v3.2)))))
(some ((aj.mk 0 0 [] [] []),false))))
(some ((aj.mk 0 0 [] [] []),false))))
def G.uk (f:Nat)(o8:aj)(kR:aj):Option (aj×Bool):=match f with
|0=>none
|n+1=>((G.aP n kR).bind λv1=>(some (v1,true)))
mutual
def G.jG (f:Nat)(ay:aj)(aB:List aK)(kR:aj):Option (aj×Bool):=match f with
|0=>none
|n+1=>(cond ((aB.length:Int)==0)
((G.uk n ay kR).bind λv1=>(some (v1.1,v1.2)))
(chk (0<=0/\0<(aB.length:Int))
((G.gV n ay (aB.getD 0 default)).bind λv2=>(cond v2.2
(chk (0<=v2.1/\v2.1<(ay.Kids.length:Int))
(chk (0<=1/\1<=(aB.length:Int)/\(aB.length:Int)<=(aB.length:Int))
((G.jG n (ay.Kids.getD v2.1.toNat default) (aB.drop 1) kR).bind λv3=>(cond v3.2
((G.aP n ay).bind λv4=>(chk (0<=v2.1/\v2.1<(v4.Kids.length:Int))
(some ((aj.mk v4.Kind v4.Num v4.Text v4.Names (v4.Kids.set v2.1.toNat v3.1)),true))))
(some ((aj.mk 0 0 [] [] []),false))))))
(some ((aj.mk 0 0 [] [] []),false))))))
end
def G.uM (f:Nat)(ay:aj)(aB:List aK)(iY:aj):Option (aj×Bool):=match f with
|0=>none
|n+1=>((G.aX n ay).bind λv1=>(cond v1
((G.iQ n aB).bind λv2=>(cond v2
((G.aX n iY).bind λv3=>(cond v3
((G.jG n ay aB iY).bind λv4=>((G.ni n v4.1 v4.2).bind λv5=>(some (v5.1,v5.2))))
(some ((aj.mk 0 0 [] [] []),false))))
(some ((aj.mk 0 0 [] [] []),false))))
(some ((aj.mk 0 0 [] [] []),false))))
def G.rW (f:Nat)(kL:oz):Option (Bool):=match f with
|0=>none
|n+1=>(cond (decide (1<=kL.Kind))
(cond (decide (kL.Kind<=6))
((G.iQ n kL.Path).bind λv1=>(cond v1
((G.iQ n kL.From).bind λv2=>(cond v2
((G.aX n kL.Value).bind λv3=>(some (v3)))
(some (false))))
(some (false))))
(some (false)))
(some (false)))
def G.slices_Equal_string.L1 (f:Nat)(GL:List aK)(I8:List aK)(jb:Int):Option (Bool):=match f with
|0=>none
|n+1=>(cond (decide (jb<(GL.length:Int)))
(chk (0<=jb/\jb<(GL.length:Int))
(chk (0<=jb/\jb<(I8.length:Int))
(cond ((GL.getD jb.toNat default)==(I8.getD jb.toNat default))
(G.slices_Equal_string.L1 n GL I8 (af .i64 (jb+1)))
(some (false)))))
(some (true)))
def G.slices_Equal_string (f:Nat)(GL:List aK)(I8:List aK):Option (Bool):=match f with
|0=>none
|n+1=>(cond ((GL.length:Int) != (I8.length:Int))
(some (false))
(G.slices_Equal_string.L1 n GL I8 0))
def G.tu (f:Nat)(ay:aj)(CY:List aK)(aB:List aK):Option (aj×Bool):=match f with
|0=>none
|n+1=>((G.tN n ay CY).bind λv1=>(cond v1.2
((G.slices_Equal_string n aB CY).bind λv2=>(cond v2
((G.aP n ay).bind λv3=>(some (v3,true)))
(cond (decide ((CY.length:Int)<(aB.length:Int)))
(chk (0<=0/\0<=(CY.length:Int)/\(CY.length:Int)<=(aB.length:Int))
((G.slices_Equal_string n (aB.take CY.length) CY).bind λv4=>(cond v4
(some ((aj.mk 0 0 [] [] []),false))
((G.lX n ay CY).bind λv5=>(cond v5.2
((G.og n v5.1 aB v1.1).bind λv6=>(some (v6.1,v6.2)))
(some ((aj.mk 0 0 [] [] []),false)))))))
((G.lX n ay CY).bind λv7=>(cond v7.2
((G.og n v7.1 aB v1.1).bind λv8=>(some (v8.1,v8.2)))
(some ((aj.mk 0 0 [] [] []),false)))))))
(some ((aj.mk 0 0 [] [] []),false))))
def G.iK (f:Nat)(o8:aK)(pq:aK):Option (Int):=match f with
|0=>none
|n+1=>(some ((Go.Lib.compareBytes o8 pq)))
def G.strings_Compare (f:Nat)(o8:aK)(pq:aK):Option (Int):=match f with
|0=>none
|n+1=>((G.iK n o8 pq).bind λv1=>(some (v1)))
mutual
def G.cZ.K4 (f:Nat)(o8:aj)(pq:aj)(aN:Int):Option (Int):=match f with
|0=>none
|n+1=>(chk (0<=aN/\aN<(o8.Kids.length:Int))
(chk (0<=aN/\aN<(pq.Kids.length:Int))
((G.cZ n (o8.Kids.getD aN.toNat default) (pq.Kids.getD aN.toNat default)).bind λv11=>(cond (v11 != 0)
(some (v11))
(G.cZ.L3 n o8 pq (af .i64 (aN+1)))))))
def G.cZ.L3 (f:Nat)(o8:aj)(pq:aj)(aN:Int):Option (Int):=match f with
|0=>none
|n+1=>(cond (decide (aN<(o8.Kids.length:Int)))
(cond (decide (aN<(pq.Kids.length:Int)))
(cond (o8.Kind==4)
(chk (0<=aN/\aN<(o8.Names.length:Int))
(chk (0<=aN/\aN<(pq.Names.length:Int))
((G.strings_Compare n (o8.Names.getD aN.toNat default) (pq.Names.getD aN.toNat default)).bind λv12=>(cond (v12 != 0)
(some (v12))
(G.cZ.K4 n o8 pq aN)))))
(G.cZ.K4 n o8 pq aN))
((G.cmp_Compare_int n (o8.Kids.length:Int) (pq.Kids.length:Int)).bind λv13=>(some (v13))))
((G.cmp_Compare_int n (o8.Kids.length:Int) (pq.Kids.length:Int)).bind λv14=>(some (v14))))
def G.cZ (f:Nat)(o8:aj)(pq:aj):Option (Int):=match f with
|0=>none
|n+1=>((G.cmp_Compare_int n o8.Kind pq.Kind).bind λv1=>(cond (v1 != 0)
(some (v1))
((G.cmp_Compare_int n o8.Num pq.Num).bind λv2=>(cond (v2 != 0)
(some (v2))
((G.strings_Compare n o8.Text pq.Text).bind λv3=>(cond (v3 != 0)
(some (v3))
(G.cZ.L3 n o8 pq 0)))))))
end
def G.tC (f:Nat)(o8:aj)(pq:aj):Option (Bool):=match f with
|0=>none
|n+1=>((G.cZ n o8 pq).bind λv1=>(some ((v1==0))))
def G.qV (f:Nat)(ay:aj)(aB:List aK)(iY:aj):Option (aj×Bool):=match f with
|0=>none
|n+1=>((G.kD n ay aB).bind λv1=>(cond v1.2
((G.tC n v1.1 iY).bind λv2=>(cond v2
((G.aP n ay).bind λv3=>(some (v3,true)))
(some ((aj.mk 0 0 [] [] []),false))))
(some ((aj.mk 0 0 [] [] []),false))))
def G.uI (f:Nat)(ay:aj)(kL:oz):Option (aj×Bool):=match f with
|0=>none
|n+1=>((G.aX n ay).bind λv1=>(cond v1
((G.rW n kL).bind λv2=>(cond v2
(cond (kL.Kind==1)
((G.og n ay kL.Path kL.Value).bind λv3=>(some (v3.1,v3.2)))
(cond (kL.Kind==2)
((G.lX n ay kL.Path).bind λv4=>(some (v4.1,v4.2)))
(cond (kL.Kind==3)
((G.uM n ay kL.Path kL.Value).bind λv5=>(some (v5.1,v5.2)))
(cond (kL.Kind==4)
((G.tu n ay kL.From kL.Path).bind λv6=>(some (v6.1,v6.2)))
(cond (kL.Kind==5)
((G.tN n ay kL.From).bind λv7=>(cond v7.2
((G.og n ay kL.Path v7.1).bind λv8=>(some (v8.1,v8.2)))
(some ((aj.mk 0 0 [] [] []),false))))
((G.qV n ay kL.Path kL.Value).bind λv9=>(some (v9.1,v9.2))))))))
(some ((aj.mk 0 0 [] [] []),false))))
(some ((aj.mk 0 0 [] [] []),false))))
def G.fH.L1 (f:Nat)(aG:List oz)(jb:Int):Option (Bool):=match f with
|0=>none
|n+1=>(cond (decide (jb<(aG.length:Int)))
(chk (0<=jb/\jb<(aG.length:Int))
((G.rW n (oz.mk ((aG.getD jb.toNat default).Kind) ((aG.getD jb.toNat default).Path) ((aG.getD jb.toNat default).From) ((aG.getD jb.toNat default).Value))).bind λv3=>(cond v3
(G.fH.L1 n aG (af .i64 (jb+1)))
(some (false)))))
(some (true)))
def G.fH (f:Nat)(aG:List oz):Option (Bool):=match f with
|0=>none
|n+1=>(cond (decide (12<(aG.length:Int)))
(some (false))
(G.fH.L1 n aG 0))
def G.kX.L1 (f:Nat)(aG:List oz)(jb:Int)(y6:Int)(y7:Int)(y8:aK)(y9:List aK)(LQ:List aj):Option (aj×Int):=match f with
|0=>none
|n+1=>(cond (decide (jb<(aG.length:Int)))
(chk (0<=jb/\jb<(aG.length:Int))
((G.uI n (aj.mk y6 y7 y8 y9 LQ) (oz.mk ((aG.getD jb.toNat default).Kind) ((aG.getD jb.toNat default).Path) ((aG.getD jb.toNat default).From) ((aG.getD jb.toNat default).Value))).bind λv4=>(cond v4.2
(G.kX.L1 n aG (af .i64 (jb+1)) v4.1.Kind v4.1.Num v4.1.Text v4.1.Names v4.1.Kids)
(some ((aj.mk 0 0 [] [] []),jb)))))
(some ((aj.mk y6 y7 y8 y9 LQ),(aG.length:Int))))
def G.kX (f:Nat)(ay:aj)(aG:List oz):Option (aj×Int):=match f with
|0=>none
|n+1=>((G.aP n ay).bind λv1=>(G.kX.L1 n aG 0 v1.Kind v1.Num v1.Text v1.Names v1.Kids))
def G.pY (f:Nat)(ay:aj)(aG:List oz):Option (aj×Bool):=match f with
|0=>none
|n+1=>((G.aX n ay).bind λv1=>(cond v1
((G.fH n aG).bind λv2=>(cond v2
((G.kX n ay aG).bind λv3=>(some (v3.1,(v3.2==(aG.length:Int)))))
(some ((aj.mk 0 0 [] [] []),false))))
(some ((aj.mk 0 0 [] [] []),false))))
def G.jQ (f:Nat)(aA:aK)(Hw:Int):Option (Int):=match f with
|0=>none
|n+1=>(some ((Go.Lib.indexByte aA Hw.toNat.toUInt8)))
def G.strings_IndexByte (f:Nat)(aA:aK)(Hw:Int):Option (Int):=match f with
|0=>none
|n+1=>((G.jQ n aA Hw).bind λv1=>(some (v1)))
def G.nN.L1 (f:Nat)(aA:aK)(aN:Int):Option (Bool):=match f with
|0=>none
|n+1=>(cond (decide (aN<(aA.length:Int)))
(chk (0<=aN/\aN<(aA.length:Int))
((G.strings_IndexByte n [48,49,50,51,52,53,54,55,56,57,97,98,99,100,101,102] ((aA.getD aN.toNat 0).toNat:Int)).bind λv3=>(cond (decide (v3<0))
(some (false))
(G.nN.L1 n aA (af .i64 (aN+1))))))
(some (true)))
def G.nN (f:Nat)(aA:aK):Option (Bool):=match f with
|0=>none
|n+1=>(cond ((aA.length:Int) != 4)
(some (false))
(G.nN.L1 n aA 0))
def G.jk.L1 (f:Nat)(aG:List aK)(jb:Int):Option (Bool):=match f with
|0=>none
|n+1=>(cond (decide (jb<(aG.length:Int)))
(chk (0<=jb/\jb<(aG.length:Int))
(cond ((aG.getD jb.toNat default)==[42])
(G.jk.L1 n aG (af .i64 (jb+1)))
((G.nN n (aG.getD jb.toNat default)).bind λv3=>(cond v3
(G.jk.L1 n aG (af .i64 (jb+1)))
(some (false))))))
(some (true)))
def G.jk (f:Nat)(aG:List aK):Option (Bool):=match f with
|0=>none
|n+1=>(cond (decide (4<(aG.length:Int)))
(some (false))
(G.jk.L1 n aG 0))
def G.slices_Index_string.L1 (f:Nat)(aA:List aK)(DW:aK)(jb:Int):Option (Int):=match f with
|0=>none
|n+1=>(cond (decide (jb<(aA.length:Int)))
(chk (0<=jb/\jb<(aA.length:Int))
(cond (DW==(aA.getD jb.toNat default))
(some (jb))
(G.slices_Index_string.L1 n aA DW (af .i64 (jb+1)))))
(some ((-1))))
def G.slices_Index_string (f:Nat)(aA:List aK)(DW:aK):Option (Int):=match f with
|0=>none
|n+1=>(G.slices_Index_string.L1 n aA DW 0)
def G.slices_Contains_string (f:Nat)(aA:List aK)(DW:aK):Option (Bool):=match f with
|0=>none
|n+1=>((G.slices_Index_string n aA DW).bind λv1=>(some ((decide (0<=v1)))))
def G.pX (f:Nat)(aG:List aK)(rV:aK):Option (Bool):=match f with
|0=>none
|n+1=>((G.slices_Contains_string n aG rV).bind λv1=>(cond v1
(some (true))
((G.slices_Contains_string n aG [42]).bind λv2=>(some (v2)))))
def G.kP.K1 (f:Nat)(yL:List aK)(uV:List aK)(rV:aK)(xE:Bool):Option (Int):=match f with
|0=>none
|n+1=>(cond (decide (0<(yL.length:Int)))
(cond (rV==[])
(some (412))
((G.pX n yL rV).bind λv4=>(cond v4
(cond (decide (0<(uV.length:Int)))
((G.pX n uV rV).bind λv5=>(cond v5
(cond xE
(some (304))
(some (412)))
(some (200))))
(some (200)))
(some (412)))))
(cond (decide (0<(uV.length:Int)))
(cond (rV==[])
(some (200))
((G.pX n uV rV).bind λv6=>(cond v6
(cond xE
(some (304))
(some (412)))
(some (200)))))
(some (200))))
def G.kP (f:Nat)(yL:List aK)(uV:List aK)(rV:aK)(xE:Bool):Option (Int):=match f with
|0=>none
|n+1=>((G.jk n yL).bind λv7=>(cond v7
((G.jk n uV).bind λv8=>(cond v8
(cond (rV==[])
(G.kP.K1 n yL uV rV xE)
((G.nN n rV).bind λv9=>(cond v9
(G.kP.K1 n yL uV rV xE)
(some (400)))))
(some (400))))
(some (400))))
def G.jV.L1 (f:Nat)(aA:aK)(aN:Int):Option (Bool):=match f with
|0=>none
|n+1=>(cond (decide (aN<(aA.length:Int)))
(chk (0<=aN/\aN<(aA.length:Int))
(cond (decide (((aA.getD aN.toNat 0).toNat:Int)<97))
(chk (0<=aN/\aN<(aA.length:Int))
(cond (decide (((aA.getD aN.toNat 0).toNat:Int)<48))
(some (false))
(chk (0<=aN/\aN<(aA.length:Int))
(cond (decide (57<((aA.getD aN.toNat 0).toNat:Int)))
(some (false))
(G.jV.L1 n aA (af .i64 (aN+1)))))))
(chk (0<=aN/\aN<(aA.length:Int))
(cond (decide (122<((aA.getD aN.toNat 0).toNat:Int)))
(chk (0<=aN/\aN<(aA.length:Int))
(cond (decide (((aA.getD aN.toNat 0).toNat:Int)<48))
(some (false))
(chk (0<=aN/\aN<(aA.length:Int))
(cond (decide (57<((aA.getD aN.toNat 0).toNat:Int)))
(some (false))
(G.jV.L1 n aA (af .i64 (aN+1)))))))
(G.jV.L1 n aA (af .i64 (aN+1)))))))
(some (true)))
def G.jV (f:Nat)(aA:aK):Option (Bool):=match f with
|0=>none
|n+1=>(cond (aA==[])
(some (false))
(cond (decide (8<(aA.length:Int)))
(some (false))
(G.jV.L1 n aA 0)))
def G.dw.L1 (f:Nat)(aA:StoreT)(jb:Int):Option (Bool):=match f with
|0=>none
|n+1=>(cond (decide (jb<(aA.Items.length:Int)))
(chk (0<=jb/\jb<(aA.Items.length:Int))
((G.jV n ((aA.Items.getD jb.toNat default).Name)).bind λv6=>(cond v6
(cond (decide (0<jb))
(chk (0<=(af .i64 (jb-1))/\(af .i64 (jb-1))<(aA.Items.length:Int))
(cond (iU ((aA.Items.getD (af .i64 (jb-1)).toNat default).Name) ((aA.Items.getD jb.toNat default).Name))
(cond (decide ((aA.Items.getD jb.toNat default).Version<1))
(some (false))
(cond (decide (aA.Clock<(aA.Items.getD jb.toNat default).Version))
(some (false))
((G.aX n ((aA.Items.getD jb.toNat default).Node)).bind λv7=>(cond v7
(G.dw.L1 n aA (af .i64 (jb+1)))
(some (false))))))
(some (false))))
(cond (decide ((aA.Items.getD jb.toNat default).Version<1))
(some (false))
(cond (decide (aA.Clock<(aA.Items.getD jb.toNat default).Version))
(some (false))
((G.aX n ((aA.Items.getD jb.toNat default).Node)).bind λv8=>(cond v8
(G.dw.L1 n aA (af .i64 (jb+1)))
(some (false)))))))
(some (false)))))
(some (true)))
def G.dw (f:Nat)(aA:StoreT):Option (Bool):=match f with
|0=>none
|n+1=>(cond (decide (10<(aA.Items.length:Int)))
(some (false))
(cond (decide (aA.Clock<0))
(some (false))
(cond (decide (999<aA.Clock))
(some (false))
(G.dw.L1 n aA 0))))
def G.qR (f:Nat)(lQ:bI):Option (bI):=match f with
|0=>none
|n+1=>((G.aP n lQ.Node).bind λv1=>(some ((bI.mk lQ.Name lQ.Version v1))))
def G.eu.L1 (f:Nat)(aA:StoreT)(jb:Int)(z3:List bI):Option (StoreT):=match f with
|0=>none
|n+1=>(cond (decide (jb<(aA.Items.length:Int)))
(chk (0<=jb/\jb<(aA.Items.length:Int))
((G.qR n (bI.mk ((aA.Items.getD jb.toNat default).Name) ((aA.Items.getD jb.toNat default).Version) ((aA.Items.getD jb.toNat default).Node))).bind λv3=>(chk (0<=jb/\jb<(z3.length:Int))
(G.eu.L1 n aA (af .i64 (jb+1)) (z3.set jb.toNat v3)))))
(some ((StoreT.mk z3 aA.Clock))))
def G.eu (f:Nat)(aA:StoreT):Option (StoreT):=match f with
|0=>none
|n+1=>(cond (decide (0<(aA.Items.length:Int)))
(chk (0<=(aA.Items.length:Int)/\(aA.Items.length:Int)<=(aA.Items.length:Int)/\104*(aA.Items.length:Int)<=2^47/\(aA.Items.length:Int)<=2^47)
(G.eu.L1 n aA 0 (dh aA.Items.length (bI.mk [] 0 (aj.mk 0 0 [] [] [])))))
(some ((StoreT.mk [] aA.Clock))))
def G.ru (f:Nat)(lQ:bI)(fF:aK):Option (Int):=match f with
|0=>none
|n+1=>((G.strings_Compare n lQ.Name fF).bind λv1=>(some (v1)))
def G.aI.L1 (f:Nat)(uh:List bI)(qH:aK)(aN:Int)(JV:Int):Option (Int×Bool):=match f with
|0=>none
|n+1=>(cond (decide (aN<JV))
(chk (0<=(af .i64 ((rD (af .u64 ((af .i64 (aN+JV)))) (2^(min 1 (fP .u64))))))/\(af .i64 ((rD (af .u64 ((af .i64 (aN+JV)))) (2^(min 1 (fP .u64))))))<(uh.length:Int))
((G.ru n (bI.mk ((uh.getD (af .i64 ((rD (af .u64 ((af .i64 (aN+JV)))) (2^(min 1 (fP .u64)))))).toNat default).Name) ((uh.getD (af .i64 ((rD (af .u64 ((af .i64 (aN+JV)))) (2^(min 1 (fP .u64)))))).toNat default).Version) ((uh.getD (af .i64 ((rD (af .u64 ((af .i64 (aN+JV)))) (2^(min 1 (fP .u64)))))).toNat default).Node)) qH).bind λv3=>(cond (decide (v3<0))
(G.aI.L1 n uh qH (af .i64 ((af .i64 ((rD (af .u64 ((af .i64 (aN+JV)))) (2^(min 1 (fP .u64))))))+1)) JV)
(G.aI.L1 n uh qH aN (af .i64 ((rD (af .u64 ((af .i64 (aN+JV)))) (2^(min 1 (fP .u64))))))))))
(cond (decide (aN<(uh.length:Int)))
(chk (0<=aN/\aN<(uh.length:Int))
((G.ru n (bI.mk ((uh.getD aN.toNat default).Name) ((uh.getD aN.toNat default).Version) ((uh.getD aN.toNat default).Node)) qH).bind λv4=>(some (aN,(v4==0)))))
(some (aN,false))))
def G.aI (f:Nat)(uh:List bI)(qH:aK):Option (Int×Bool):=match f with
|0=>none
|n+1=>(G.aI.L1 n uh qH 0 (uh.length:Int))
def G.nR (f:Nat)(yT:List bI)(fF:aK):Option (Int×Bool):=match f with
|0=>none
|n+1=>((G.aI n yT fF).bind λv1=>(some (v1.1,v1.2)))
def G.nS (f:Nat)(s:List bI)(i:Int)(j:Int):Option (List bI):=match f with
|0=>none
|_+1=>chk (0<=i/\i<j/\j<=(s.length:Int)/\s.length*112<=2^46) (some (s.take i.toNat++s.drop j.toNat))
def G.sW (f:Nat)(aA:StoreT)(fF:aK):Option (StoreT×Bool):=match f with
|0=>none
|n+1=>((G.dw n aA).bind λv1=>(cond v1
(cond (aA.Clock==999)
(some ((StoreT.mk [] 0),false))
((G.nR n aA.Items fF).bind λv2=>(cond v2.2
((G.eu n aA).bind λv3=>((G.nS n v3.Items v2.1 (af .i64 (v2.1+1))).bind λv4=>(some ((StoreT.mk v4 (af .i64 (v3.Clock+1))),true))))
(some ((StoreT.mk [] 0),false)))))
(some ((StoreT.mk [] 0),false))))
def G.aS (f:Nat)(b:iJ)(c:Int):Option (Unit×iJ):=match f with
|0=>none
|_+1=>(chk ((0<=c/\c<256)/\b.buf.length+1<=140737488355328) (some ((),iJ.mk (b.buf++[eU c.toNat]))))
mutual
def G.gW.K4 (f:Nat)(aA:aK)(aN:Int)(z5:aK):Option (iJ):=match f with
|0=>none
|n+1=>(chk (0<=aN/\aN<(aA.length:Int))
((G.aS n (iJ.mk z5) ((aA.getD aN.toNat 0).toNat:Int)).bind λv14=>(G.gW.L3 n aA (af .i64 (aN+1)) v14.2.buf)))
def G.gW.L3 (f:Nat)(aA:aK)(aN:Int)(z4:aK):Option (iJ):=match f with
|0=>none
|n+1=>(cond (decide (aN<(aA.length:Int)))
(chk (0<=aN/\aN<(aA.length:Int))
(cond (((aA.getD aN.toNat 0).toNat:Int)==34)
((G.aS n (iJ.mk z4) 92).bind λv15=>(G.gW.K4 n aA aN v15.2.buf))
(chk (0<=aN/\aN<(aA.length:Int))
(cond (((aA.getD aN.toNat 0).toNat:Int)==92)
((G.aS n (iJ.mk z4) 92).bind λv16=>(G.gW.K4 n aA aN v16.2.buf))
(G.gW.K4 n aA aN z4)))))
((G.aS n (iJ.mk z4) 34).bind λv17=>(some (v17.2))))
end
def G.gW (f:Nat)(Dh:iJ)(aA:aK):Option (iJ):=match f with
|0=>none
|n+1=>((G.aS n Dh 34).bind λv1=>(G.gW.L3 n aA 0 v1.2.buf))
def G.gz (f:Nat)(b:iJ)(s:aK):Option (Int×Unit×iJ):=match f with
|0=>none
|_+1=>(chk (b.buf.length+s.length<=140737488355328) (some ((s.length:Int),(),iJ.mk (b.buf++s))))
mutual
def G.bV.K4 (f:Nat)(ay:aj)(jb:Int)(z4:aK):Option (iJ):=match f with
|0=>none
|n+1=>((G.bV n (iJ.mk z4) (ay.Kids.getD jb.toNat default)).bind λv11=>(G.bV.L3 n ay (af .i64 (jb+1)) v11.buf))
def G.bV.L3 (f:Nat)(ay:aj)(jb:Int)(z3:aK):Option (iJ):=match f with
|0=>none
|n+1=>(cond (decide (jb<(ay.Kids.length:Int)))
(chk (0<=jb/\jb<(ay.Kids.length:Int))
(cond (decide (0<jb))
((G.aS n (iJ.mk z3) 44).bind λv12=>(G.bV.K4 n ay jb v12.2.buf))
(G.bV.K4 n ay jb z3)))
((G.aS n (iJ.mk z3) 93).bind λv13=>(some (v13.2))))
def G.bV.K8 (f:Nat)(ay:aj)(PN:Int)(z8:aK):Option (iJ):=match f with
|0=>none
|n+1=>(chk (0<=PN/\PN<(ay.Names.length:Int))
((G.gW n (iJ.mk z8) (ay.Names.getD PN.toNat default)).bind λv24=>((G.aS n v24 58).bind λv25=>((G.bV n v25.2 (ay.Kids.getD PN.toNat default)).bind λv26=>(G.bV.L7 n ay (af .i64 (PN+1)) v26.buf)))))
def G.bV.L7 (f:Nat)(ay:aj)(PN:Int)(z7:aK):Option (iJ):=match f with
|0=>none
|n+1=>(cond (decide (PN<(ay.Kids.length:Int)))
(chk (0<=PN/\PN<(ay.Kids.length:Int))
(cond (decide (0<PN))
((G.aS n (iJ.mk z7) 44).bind λv27=>(G.bV.K8 n ay PN v27.2.buf))
(G.bV.K8 n ay PN z7)))
((G.aS n (iJ.mk z7) 125).bind λv28=>(some (v28.2))))
def G.bV (f:Nat)(Dh:iJ)(ay:aj):Option (iJ):=match f with
|0=>none
|n+1=>(cond (ay.Kind==0)
((G.gz n Dh [110,117,108,108]).bind λv1=>(some (v1.2.2)))
(cond (ay.Kind==1)
((G.strconv_Itoa n ay.Num).bind λv2=>((G.gz n Dh v2).bind λv3=>(some (v3.2.2))))
(cond (ay.Kind==2)
((G.gW n Dh ay.Text).bind λv4=>(some (v4)))
(cond (ay.Kind==3)
((G.aS n Dh 91).bind λv5=>(G.bV.L3 n ay 0 v5.2.buf))
(cond (ay.Kind==4)
((G.aS n Dh 123).bind λv14=>(G.bV.L7 n ay 0 v14.2.buf))
(some (Dh)))))))
end
def G.jC (f:Nat)(b:iJ):Option aK:=match f with
|0=>none
|_+1=>(chk (b.buf.length<=140737488355328) (some b.buf))
def G.jY (f:Nat)(ay:aj):Option (aK):=match f with
|0=>none
|n+1=>((G.aX n ay).bind λv1=>(cond v1
((G.bV n (iJ.mk []) ay).bind λv2=>((G.jC n v2).bind λv3=>(some (v3))))
(some ([]))))
mutual
def G.gK.K4 (f:Nat)(aG:List aK)(jb:Int)(z4:aK):Option (aK):=match f with
|0=>none
|n+1=>(cond ((aG.getD jb.toNat default)==[42])
((G.gz n (iJ.mk z4) (aG.getD jb.toNat default)).bind λv9=>(G.gK.L3 n aG (af .i64 (jb+1)) v9.2.2.buf))
((G.gW n (iJ.mk z4) (aG.getD jb.toNat default)).bind λv10=>(G.gK.L3 n aG (af .i64 (jb+1)) v10.buf)))
def G.gK.L3 (f:Nat)(aG:List aK)(jb:Int)(z3:aK):Option (aK):=match f with
|0=>none
|n+1=>(cond (decide (jb<(aG.length:Int)))
(chk (0<=jb/\jb<(aG.length:Int))
(cond (decide (0<jb))
((G.aS n (iJ.mk z3) 44).bind λv11=>(G.gK.K4 n aG jb v11.2.buf))
(G.gK.K4 n aG jb z3)))
((G.jC n (iJ.mk z3)).bind λv12=>(some (v12))))
end
def G.gK (f:Nat)(aG:List aK):Option (aK):=match f with
|0=>none
|n+1=>((G.jk n aG).bind λv1=>(cond v1
(G.gK.L3 n aG 0 [])
(some ([]))))
def G.uD (f:Nat)(uy:Int):Option (aK):=match f with
|0=>none
|n+1=>(cond (uy==1)
(some ([97,100,100]))
(cond (uy==2)
(some ([114,101,109,111,118,101]))
(cond (uy==3)
(some ([114,101,112,108,97,99,101]))
(cond (uy==4)
(some ([109,111,118,101]))
(cond (uy==5)
(some ([99,111,112,121]))
(cond (uy==6)
(some ([116,101,115,116]))
(some ([]))))))))
def G.kS.L1 (f:Nat)(aB:List aK)(jb:Int)(z2:List aj):Option (aj):=match f with
|0=>none
|n+1=>(cond (decide (jb<(aB.length:Int)))
(chk (0<=jb/\jb<(aB.length:Int))
(chk ((z2.length+1)*86<=2^46)
(G.kS.L1 n aB (af .i64 (jb+1)) (z2++[(aj.mk 2 0 (aB.getD jb.toNat default) [] [])]))))
(some ((aj.mk 3 0 [] [] z2))))
def G.kS (f:Nat)(aB:List aK):Option (aj):=match f with
|0=>none
|n+1=>(G.kS.L1 n aB 0 [])
def G.tq (f:Nat)(kL:oz):Option (aj×Bool):=match f with
|0=>none
|n+1=>((G.rW n kL).bind λv1=>(cond v1
((G.kS n kL.From).bind λv2=>((G.uD n kL.Kind).bind λv3=>((G.kS n kL.Path).bind λv4=>((G.aP n kL.Value).bind λv5=>((G.ni n (aj.mk 4 0 [] [[102,114,111,109],[111,112],[112,97,116,104],[118,97,108,117,101]] [v2,(aj.mk 2 0 v3 [] []),v4,v5]) true).bind λv6=>(some (v6.1,v6.2)))))))
(some ((aj.mk 0 0 [] [] []),false))))
def G.kQ.L1 (f:Nat)(aG:List oz)(jb:Int)(z2:aK):Option (aK×Bool):=match f with
|0=>none
|n+1=>(cond (decide (jb<(aG.length:Int)))
(chk (0<=jb/\jb<(aG.length:Int))
((G.tq n (oz.mk ((aG.getD jb.toNat default).Kind) ((aG.getD jb.toNat default).Path) ((aG.getD jb.toNat default).From) ((aG.getD jb.toNat default).Value))).bind λv7=>(cond v7.2
((G.bV n (iJ.mk z2) v7.1).bind λv8=>((G.aS n v8 59).bind λv9=>(G.kQ.L1 n aG (af .i64 (jb+1)) v9.2.buf)))
(some ([],false)))))
((G.jC n (iJ.mk z2)).bind λv10=>(some (v10,true))))
def G.kQ (f:Nat)(aG:List oz):Option (aK×Bool):=match f with
|0=>none
|n+1=>(G.kQ.L1 n aG 0 [])
def G.lT (f:Nat)(aU:RequestT):Option (Bool):=match f with
|0=>none
|n+1=>(cond (decide (1<=aU.Method))
(cond (decide (aU.Method<=5))
((G.jV n aU.Name).bind λv1=>(cond v1
((G.jk n aU.Want).bind λv2=>(cond v2
((G.jk n aU.oP).bind λv3=>(cond v3
((G.aX n aU.Body).bind λv4=>(cond v4
((G.fH n aU.Ops).bind λv5=>(some (v5)))
(some (false))))
(some (false))))
(some (false))))
(some (false))))
(some (false)))
(some (false)))
def G.nH (f:Nat)(CZ:Int):Option (aK):=match f with
|0=>none
|n+1=>(cond (CZ==1)
(some ([103,101,116]))
(cond (CZ==2)
(some ([112,117,116]))
(cond (CZ==3)
(some ([100,101,108,101,116,101]))
(cond (CZ==4)
(some ([112,97,116,99,104]))
(cond (CZ==5)
(some ([109,101,114,103,101]))
(some ([])))))))
def G.strings_Join (f:Nat)(l:List aK)(s:aK):Option aK:=match f with
|0=>none
|_+1=>(chk (l.length<=140737488355328/\(Go.Lib.join l s).length<=140737488355328) (some (Go.Lib.join l s)))
def G.aT.K2 (f:Nat)(aU:RequestT)(YI:aK):Option (aK):=match f with
|0=>none
|n+1=>((G.nH n aU.Method).bind λv4=>((G.gK n aU.Want).bind λv5=>((G.gK n aU.oP).bind λv6=>((G.strings_Join n [v4,aU.Name,v5,v6,YI] [32]).bind λv7=>(some (v7))))))
def G.aT.K1 (f:Nat)(aU:RequestT):Option (aK):=match f with
|0=>none
|n+1=>((G.jY n aU.Body).bind λv2=>(cond (aU.Method==4)
((G.kQ n aU.Ops).bind λv8=>(cond v8.2
(G.aT.K2 n aU v8.1)
(some ([]))))
(G.aT.K2 n aU v2)))
def G.aT.K4 (f:Nat)(aU:RequestT)(YJ:aK):Option (aK):=match f with
|0=>none
|n+1=>((G.nH n aU.Method).bind λv11=>((G.gK n aU.Want).bind λv12=>((G.gK n aU.oP).bind λv13=>((G.strings_Join n [v11,aU.Name,v12,v13,YJ] [32]).bind λv14=>(some (v14))))))
def G.aT.K3 (f:Nat)(aU:RequestT):Option (aK):=match f with
|0=>none
|n+1=>((G.jY n aU.Body).bind λv9=>(cond (aU.Method==4)
((G.kQ n aU.Ops).bind λv15=>(cond v15.2
(G.aT.K4 n aU v15.1)
(some ([]))))
(G.aT.K4 n aU v9)))
def G.aT (f:Nat)(aU:RequestT):Option (aK):=match f with
|0=>none
|n+1=>((G.lT n aU).bind λv1=>(cond v1
(cond (aU.Method==2)
(cond (aU.Method != 4)
(cond (decide (0<(aU.Ops.length:Int)))
(some ([]))
(G.aT.K1 n aU))
(G.aT.K1 n aU))
(cond (aU.Method==5)
(cond (aU.Method != 4)
(cond (decide (0<(aU.Ops.length:Int)))
(some ([]))
(G.aT.K3 n aU))
(G.aT.K3 n aU))
(cond (aU.Body.Kind != 0)
(some ([]))
(cond (aU.Method != 4)
(cond (decide (0<(aU.Ops.length:Int)))
(some ([]))
(G.aT.K3 n aU))
(G.aT.K3 n aU)))))
(some ([]))))
def G.uJ (f:Nat)(aA:StoreT)(fF:aK):Option (bI×Bool):=match f with
|0=>none
|n+1=>((G.dw n aA).bind λv1=>(cond v1
((G.nR n aA.Items fF).bind λv2=>(cond v2.2
(chk (0<=v2.1/\v2.1<(aA.Items.length:Int))
((G.qR n (bI.mk ((aA.Items.getD v2.1.toNat default).Name) ((aA.Items.getD v2.1.toNat default).Version) ((aA.Items.getD v2.1.toNat default).Node))).bind λv3=>(some (v3,true))))
(some ((bI.mk [] 0 (aj.mk 0 0 [] [] [])),false))))
(some ((bI.mk [] 0 (aj.mk 0 0 [] [] [])),false))))
def G.jy.L2 (f:Nat)(Vs:Int)(KD:Int)(z3:List Int):Option (aK):=match f with
|0=>none
|n+1=>(cond (decide (0<=KD))
(chk (0<=(iR Vs 16)/\(iR Vs 16)<((16:Nat):Int))
(chk (0<=KD/\KD<(z3.length:Int))
(chk (0<=KD/\KD<4)
(G.jy.L2 n (af .i64 (lJ Vs 16)) (af .i64 (KD-1)) (z3.set KD.toNat ((([48,49,50,51,52,53,54,55,56,57,97,98,99,100,101,102]:aK).getD (iR Vs 16).toNat 0).toNat:Int))))))
(chk (z3.length=4)
(chk ((z3.take 4).length<=maxLen)
(some ((zJ (z3.take 4)))))))
def G.jy.L1 (f:Nat)(aA:aK)(adU:Int)(aN:Int):Option (aK):=match f with
|0=>none
|n+1=>(cond (decide (aN<(aA.length:Int)))
(chk (0<=aN/\aN<(aA.length:Int))
(G.jy.L1 n aA (iR (af .i64 ((af .i64 (131*adU))+(af .i64 (((aA.getD aN.toNat 0).toNat:Int))))) 65521) (af .i64 (aN+1))))
(G.jy.L2 n adU 3 (dh 4 0)))
def G.jy (f:Nat)(aA:aK):Option (aK):=match f with
|0=>none
|n+1=>(G.jy.L1 n aA 17 0)
def G.uY (f:Nat)(ay:aj):Option (aK):=match f with
|0=>none
|n+1=>((G.aX n ay).bind λv1=>(cond v1
((G.jY n ay).bind λv2=>((G.jy n v2).bind λv3=>(some (v3))))
(some ([]))))
def G.qf (f:Nat)(aA:StoreT)(aU:RequestT):Option (StoreT×gI):=match f with
|0=>none
|n+1=>((G.sW n aA aU.Name).bind λv1=>(cond v1.2
(some (v1.1,(gI.mk 200 [] v1.1.Clock (aj.mk 0 0 [] [] []))))
((G.eu n aA).bind λv2=>(some (v2,(gI.mk 422 [] 0 (aj.mk 0 0 [] [] [])))))))
def G.nT (f:Nat)(s:List bI)(i:Int)(v:List bI):Option (List bI):=match f with
|0=>none
|_+1=>chk (0<=i/\i<=(s.length:Int)/\v.length=1/\(s.length+1)*112<=2^46) (some (s.take i.toNat++v++s.drop i.toNat))
def G.wP (f:Nat)(yT:List bI)(lQ:bI):Option (List bI):=match f with
|0=>none
|n+1=>((G.nR n yT lQ.Name).bind λv1=>(cond v1.2
(chk (0<=v1.1/\v1.1<(yT.length:Int))
(some ((yT.set v1.1.toNat lQ))))
((G.nT n yT v1.1 [lQ]).bind λv2=>(some (v2)))))
def G.uK (f:Nat)(aA:StoreT)(fF:aK)(ay:aj):Option (StoreT×Bool):=match f with
|0=>none
|n+1=>((G.dw n aA).bind λv1=>(cond v1
((G.jV n fF).bind λv2=>(cond v2
((G.aX n ay).bind λv3=>(cond v3
((G.eu n aA).bind λv4=>((G.aP n ay).bind λv5=>((G.wP n v4.Items (bI.mk fF (af .i64 (v4.Clock+1)) v5)).bind λv6=>((G.dw n (StoreT.mk v6 (af .i64 (v4.Clock+1)))).bind λv7=>(cond v7
(some ((StoreT.mk v6 (af .i64 (v4.Clock+1))),true))
(some ((StoreT.mk [] 0),false)))))))
(some ((StoreT.mk [] 0),false))))
(some ((StoreT.mk [] 0),false))))
(some ((StoreT.mk [] 0),false))))
def G.vz (f:Nat)(Bc:aj)(fF:aK):Option (aj):=match f with
|0=>none
|n+1=>((G.slices_BinarySearch_string n Bc.Names fF).bind λv1=>(cond v1.2
((G.slices_Delete_string n Bc.Names v1.1 (af .i64 (v1.1+1))).bind λv2=>((G.jR n Bc.Kids v1.1 (af .i64 (v1.1+1))).bind λv3=>(some ((aj.mk Bc.Kind Bc.Num Bc.Text v2 v3)))))
(some (Bc))))
mutual
def G.dW.K5 (f:Nat)(dQ:aj)(jb:Int)(y17:Int)(y18:Int)(y19:aK)(z5:List aK)(z6:List aj)(y20:Int)(y21:Int)(y22:aK)(y23:List aK)(y24:List aj):Option (aj):=match f with
|0=>none
|n+1=>(chk (0<=jb/\jb<(dQ.Kids.length:Int))
((G.dW n (aj.mk y20 y21 y22 y23 y24) (dQ.Kids.getD jb.toNat default)).bind λv15=>((G.oU n (aj.mk y17 y18 y19 z5 z6) (dQ.Names.getD jb.toNat default) v15).bind λv16=>(G.dW.L4 n dQ (af .i64 (jb+1)) v16.Kind v16.Num v16.Text v16.Names v16.Kids))))
def G.dW.L4 (f:Nat)(dQ:aj)(jb:Int)(y17:Int)(y18:Int)(y19:aK)(z5:List aK)(z6:List aj):Option (aj):=match f with
|0=>none
|n+1=>(cond (decide (jb<(dQ.Names.length:Int)))
(chk (0<=jb/\jb<(dQ.Names.length:Int))
(chk (0<=jb/\jb<(dQ.Kids.length:Int))
(cond ((dQ.Kids.getD jb.toNat default).Kind==0)
((G.vz n (aj.mk y17 y18 y19 z5 z6) (dQ.Names.getD jb.toNat default)).bind λv13=>(G.dW.L4 n dQ (af .i64 (jb+1)) v13.Kind v13.Num v13.Text v13.Names v13.Kids))
((G.slices_BinarySearch_string n z5 (dQ.Names.getD jb.toNat default)).bind λv17=>(cond v17.2
(chk (0<=v17.1/\v17.1<(z6.length:Int))
(G.dW.K5 n dQ jb y17 y18 y19 z5 z6 ((z6.getD v17.1.toNat default).Kind) ((z6.getD v17.1.toNat default).Num) ((z6.getD v17.1.toNat default).Text) ((z6.getD v17.1.toNat default).Names) ((z6.getD v17.1.toNat default).Kids)))
(G.dW.K5 n dQ jb y17 y18 y19 z5 z6 0 0 [] [] []))))))
(some ((aj.mk y17 y18 y19 z5 z6))))
def G.dW.K1 (f:Nat)(dQ:aj)(y1:Int)(y2:Int)(y3:aK)(z1:List aK)(z2:List aj):Option (aj):=match f with
|0=>none
|n+1=>(G.dW.L4 n dQ 0 y1 y2 y3 z1 z2)
def G.dW (f:Nat)(ay:aj)(dQ:aj):Option (aj):=match f with
|0=>none
|n+1=>(cond (dQ.Kind != 4)
((G.aP n dQ).bind λv1=>(some (v1)))
(cond (ay.Kind==4)
((G.aP n ay).bind λv18=>(G.dW.K1 n dQ v18.Kind v18.Num v18.Text v18.Names v18.Kids))
(G.dW.K1 n dQ 4 0 [] [] [])))
end
def G.rG (f:Nat)(ay:aj)(dQ:aj):Option (aj×Bool):=match f with
|0=>none
|n+1=>((G.aX n ay).bind λv1=>(cond v1
((G.aX n dQ).bind λv2=>(cond v2
((G.dW n ay dQ).bind λv3=>((G.ni n v3 true).bind λv4=>(some (v4.1,v4.2))))
(some ((aj.mk 0 0 [] [] []),false))))
(some ((aj.mk 0 0 [] [] []),false))))
def G.uN (f:Nat)(FN:aj)(aU:RequestT):Option (aj×Bool):=match f with
|0=>none
|n+1=>(cond (aU.Method==4)
((G.pY n FN aU.Ops).bind λv1=>(some (v1.1,v1.2)))
(cond (aU.Method==5)
((G.rG n FN aU.Body).bind λv2=>(some (v2.1,v2.2)))
(some (aU.Body,true))))
def G.nD (f:Nat)(aA:StoreT)(aU:RequestT)(FN:aj)(Jp:Bool):Option (StoreT×gI):=match f with
|0=>none
|n+1=>((G.uN n FN aU).bind λv1=>(cond v1.2
((G.uK n aA aU.Name v1.1).bind λv2=>(cond v2.2
((G.uY n v1.1).bind λv3=>(cond Jp
(some (v2.1,(gI.mk 200 v3 v2.1.Clock (aj.mk 0 0 [] [] []))))
(some (v2.1,(gI.mk 201 v3 v2.1.Clock (aj.mk 0 0 [] [] []))))))
((G.eu n aA).bind λv4=>(some (v4,(gI.mk 422 [] 0 (aj.mk 0 0 [] [] [])))))))
((G.eu n aA).bind λv5=>(some (v5,(gI.mk 422 [] 0 (aj.mk 0 0 [] [] [])))))))
def G.gY.K1 (f:Nat)(aA:StoreT)(aU:RequestT)(v3:bI×Bool)(adV:aK):Option (StoreT×gI):=match f with
|0=>none
|n+1=>((G.kP n aU.Want aU.oP adV (aU.Method==1)).bind λv5=>(cond (v5 != 200)
((G.eu n aA).bind λv6=>(some (v6,(gI.mk v5 [] 0 (aj.mk 0 0 [] [] [])))))
(cond (aU.Method==1)
((G.eu n aA).bind λv7=>(some (v7,(gI.mk 200 adV v3.1.Version v3.1.Node))))
(cond (aU.Method==3)
((G.qf n aA aU).bind λv8=>(some (v8.1,v8.2)))
((G.nD n aA aU v3.1.Node true).bind λv9=>(some (v9.1,v9.2)))))))
def G.gY.K2 (f:Nat)(aA:StoreT)(aU:RequestT)(v3:bI×Bool):Option (StoreT×gI):=match f with
|0=>none
|n+1=>((G.kP n aU.Want aU.oP [] (aU.Method==1)).bind λv12=>(cond (v12 != 200)
((G.eu n aA).bind λv13=>(some (v13,(gI.mk v12 [] 0 (aj.mk 0 0 [] [] [])))))
(cond (aU.Method==1)
((G.eu n aA).bind λv14=>(some (v14,(gI.mk 200 [] v3.1.Version v3.1.Node))))
(cond (aU.Method==3)
((G.qf n aA aU).bind λv15=>(some (v15.1,v15.2)))
((G.nD n aA aU v3.1.Node false).bind λv16=>(some (v16.1,v16.2)))))))
def G.gY (f:Nat)(aA:StoreT)(aU:RequestT):Option (StoreT×gI):=match f with
|0=>none
|n+1=>((G.dw n aA).bind λv1=>(cond v1
((G.lT n aU).bind λv2=>(cond v2
((G.uJ n aA aU.Name).bind λv3=>(cond v3.2
((G.uY n v3.1.Node).bind λv10=>(G.gY.K1 n aA aU v3 v10))
(cond (aU.Method != 2)
((G.eu n aA).bind λv11=>(some (v11,(gI.mk 404 [] 0 (aj.mk 0 0 [] [] [])))))
(G.gY.K2 n aA aU v3))))
(some ((StoreT.mk [] 0),(gI.mk 400 [] 0 (aj.mk 0 0 [] [] []))))))
(some ((StoreT.mk [] 0),(gI.mk 400 [] 0 (aj.mk 0 0 [] [] []))))))
def G.jP.L1 (f:Nat)(ay:aj)(jb:Int)(z2:List aK):Option (List aK×Bool):=match f with
|0=>none
|n+1=>(cond (decide (jb<(ay.Kids.length:Int)))
(chk (0<=jb/\jb<(ay.Kids.length:Int))
(cond ((ay.Kids.getD jb.toNat default).Kind != 2)
(some ([],false))
(chk ((z2.length+1)*18<=2^46)
(G.jP.L1 n ay (af .i64 (jb+1)) (z2++[(ay.Kids.getD jb.toNat default).Text])))))
((G.iQ n z2).bind λv1=>(some (z2,v1))))
def G.jP (f:Nat)(ay:aj):Option (List aK×Bool):=match f with
|0=>none
|n+1=>(cond (ay.Kind != 3)
(some ([],false))
(G.jP.L1 n ay 0 []))
def G.ig.L1 (f:Nat)(xU:aK)(xQ:Int)(Di:Int):Option (Int×Bool):=match f with
|0=>none
|n+1=>(cond (decide (Di<=xQ))
((G.uD n Di).bind λv3=>(cond (v3==xU)
(some (Di,true))
(G.ig.L1 n xU xQ (af .i64 (Di+1)))))
(some (0,false)))
def G.ig (f:Nat)(xU:aK)(Ce:Int)(xQ:Int):Option (Int×Bool):=match f with
|0=>none
|n+1=>(G.ig.L1 n xU xQ Ce)
def G.sZ (f:Nat)(ay:aj):Option (oz×Bool):=match f with
|0=>none
|n+1=>((G.aX n ay).bind λv1=>(cond v1
(cond (ay.Kind != 4)
(some ((oz.mk 0 [] [] (aj.mk 0 0 [] [] [])),false))
((G.slices_Equal_string n ay.Names [[102,114,111,109],[111,112],[112,97,116,104],[118,97,108,117,101]]).bind λv2=>(cond v2
(chk (0<=0/\0<(ay.Kids.length:Int))
((G.jP n (ay.Kids.getD 0 default)).bind λv3=>(cond v3.2
(chk (0<=1/\1<(ay.Kids.length:Int))
(cond ((ay.Kids.getD 1 default).Kind != 2)
(some ((oz.mk 0 [] [] (aj.mk 0 0 [] [] [])),false))
(chk (0<=1/\1<(ay.Kids.length:Int))
((G.ig n ((ay.Kids.getD 1 default).Text) 1 6).bind λv4=>(cond v4.2
(chk (0<=2/\2<(ay.Kids.length:Int))
((G.jP n (ay.Kids.getD 2 default)).bind λv5=>(cond v5.2
(chk (0<=3/\3<(ay.Kids.length:Int))
((G.aP n (ay.Kids.getD 3 default)).bind λv6=>(some ((oz.mk v4.1 v5.1 v3.1 v6),true))))
(some ((oz.mk 0 [] [] (aj.mk 0 0 [] [] [])),false)))))
(some ((oz.mk 0 [] [] (aj.mk 0 0 [] [] [])),false)))))))
(some ((oz.mk 0 [] [] (aj.mk 0 0 [] [] [])),false)))))
(some ((oz.mk 0 [] [] (aj.mk 0 0 [] [] [])),false)))))
(some ((oz.mk 0 [] [] (aj.mk 0 0 [] [] [])),false))))
def G.strconv_Atoi (f:Nat)(s:aK):Option (Int×Bool):=match f with
|0=>none
|_+1=>(chk (s.length<=281474976710656) (some (H7 s)))
def G.dR.L1 (f:Nat)(fV:bn)(xN:Int):Option (aj×Bool×bn):=match f with
|0=>none
|n+1=>(cond (decide (xN<(fV.text.length:Int)))
(chk (0<=xN/\xN<(fV.text.length:Int))
(cond (((fV.text.getD xN.toNat 0).toNat:Int)==45)
(G.dR.L1 n fV (af .i64 (xN+1)))
(chk (0<=xN/\xN<(fV.text.length:Int))
(cond (decide (48<=((fV.text.getD xN.toNat 0).toNat:Int)))
(chk (0<=xN/\xN<(fV.text.length:Int))
(cond (decide (((fV.text.getD xN.toNat 0).toNat:Int)<=57))
(G.dR.L1 n fV (af .i64 (xN+1)))
(chk (0<=fV.at_/\fV.at_<=xN/\xN<=(fV.text.length:Int))
((G.strconv_Atoi n ((fV.text.take xN.toNat).drop fV.at_.toNat)).bind λv1=>(cond v1.2
(some ((aj.mk 0 0 [] [] []),false,fV))
((G.strconv_Itoa n v1.1).bind λv2=>(cond (v2==((fV.text.take xN.toNat).drop fV.at_.toNat))
(some ((aj.mk 1 v1.1 [] [] []),true,(bn.mk fV.text xN)))
(some ((aj.mk 0 0 [] [] []),false,fV)))))))))
(chk (0<=fV.at_/\fV.at_<=xN/\xN<=(fV.text.length:Int))
((G.strconv_Atoi n ((fV.text.take xN.toNat).drop fV.at_.toNat)).bind λv3=>(cond v3.2
(some ((aj.mk 0 0 [] [] []),false,fV))
((G.strconv_Itoa n v3.1).bind λv4=>(cond (v4==((fV.text.take xN.toNat).drop fV.at_.toNat))
(some ((aj.mk 1 v3.1 [] [] []),true,(bn.mk fV.text xN)))
(some ((aj.mk 0 0 [] [] []),false,fV)))))))))))
(chk (0<=fV.at_/\fV.at_<=xN/\xN<=(fV.text.length:Int))
((G.strconv_Atoi n ((fV.text.take xN.toNat).drop fV.at_.toNat)).bind λv5=>(cond v5.2
(some ((aj.mk 0 0 [] [] []),false,fV))
((G.strconv_Itoa n v5.1).bind λv6=>(cond (v6==((fV.text.take xN.toNat).drop fV.at_.toNat))
(some ((aj.mk 1 v5.1 [] [] []),true,(bn.mk fV.text xN)))
(some ((aj.mk 0 0 [] [] []),false,fV))))))))
def G.dR (f:Nat)(fV:bn):Option (aj×Bool×bn):=match f with
|0=>none
|n+1=>(G.dR.L1 n fV fV.at_)
def G.strings_HasPrefix (f:Nat)(s:aK)(p:aK):Option Bool:=match f with
|0=>none
|_+1=>some (Go.Lib.hasPrefix s p)
def G.iL (f:Nat)(fV:bn)(aA:aK):Option (Bool×bn):=match f with
|0=>none
|n+1=>(chk (0<=fV.at_/\fV.at_<=(fV.text.length:Int)/\(fV.text.length:Int)<=(fV.text.length:Int))
((G.strings_HasPrefix n (fV.text.drop fV.at_.toNat) aA).bind λv1=>(cond v1
(some (true,(bn.mk fV.text (af .i64 (fV.at_+(aA.length:Int))))))
(some (false,fV)))))
mutual
def G.bP.K4 (f:Nat)(v1:Bool×bn)(z2:aK)(ahW:Int)(y5:Int):Option (aK×Bool×bn):=match f with
|0=>none
|n+1=>((G.aS n (iJ.mk z2) ahW).bind λv7=>(G.bP.L3 n v1 y5 v7.2.buf))
def G.bP.L3 (f:Nat)(v1:Bool×bn)(y4:Int)(z2:aK):Option (aK×Bool×bn):=match f with
|0=>none
|n+1=>(cond (decide (y4<(v1.2.text.length:Int)))
(chk (0<=y4/\y4<(v1.2.text.length:Int))
(cond (((v1.2.text.getD y4.toNat 0).toNat:Int)==34)
((G.jC n (iJ.mk z2)).bind λv6=>(some (v6,true,(bn.mk v1.2.text (af .i64 (y4+1))))))
(cond (((v1.2.text.getD y4.toNat 0).toNat:Int)==92)
(cond ((af .i64 (y4+1))==(v1.2.text.length:Int))
(some ([],false,(bn.mk v1.2.text (af .i64 (y4+1)))))
(chk (0<=(af .i64 (y4+1))/\(af .i64 (y4+1))<(v1.2.text.length:Int))
(cond (((v1.2.text.getD (af .i64 (y4+1)).toNat 0).toNat:Int) != 34)
(chk (0<=(af .i64 (y4+1))/\(af .i64 (y4+1))<(v1.2.text.length:Int))
(cond (((v1.2.text.getD (af .i64 (y4+1)).toNat 0).toNat:Int) != 92)
(some ([],false,(bn.mk v1.2.text (af .i64 (y4+1)))))
(chk (0<=(af .i64 (y4+1))/\(af .i64 (y4+1))<(v1.2.text.length:Int))
(G.bP.K4 n v1 z2 ((v1.2.text.getD (af .i64 (y4+1)).toNat 0).toNat:Int) (af .i64 ((af .i64 (y4+1))+1))))))
(chk (0<=(af .i64 (y4+1))/\(af .i64 (y4+1))<(v1.2.text.length:Int))
(G.bP.K4 n v1 z2 ((v1.2.text.getD (af .i64 (y4+1)).toNat 0).toNat:Int) (af .i64 ((af .i64 (y4+1))+1)))))))
(G.bP.K4 n v1 z2 ((v1.2.text.getD y4.toNat 0).toNat:Int) (af .i64 (y4+1))))))
(some ([],false,(bn.mk v1.2.text y4))))
end
def G.bP (f:Nat)(fV:bn):Option (aK×Bool×bn):=match f with
|0=>none
|n+1=>((G.iL n fV [34]).bind λv1=>(cond v1.1
(G.bP.L3 n v1 v1.2.at_ [])
(some ([],false,v1.2))))
mutual
def G.iG (f:Nat)(fV:bn)(mO:Int):Option (aj×Bool×bn):=match f with
|0=>none
|n+1=>(cond (decide (5<mO))
(some ((aj.mk 0 0 [] [] []),false,fV))
(cond (decide ((fV.text.length:Int)<=fV.at_))
(some ((aj.mk 0 0 [] [] []),false,fV))
(chk (0<=fV.at_/\fV.at_<(fV.text.length:Int))
(cond (((fV.text.getD fV.at_.toNat 0).toNat:Int)==110)
((G.iL n fV [110,117,108,108]).bind λv1=>(some ((aj.mk 0 0 [] [] []),v1.1,v1.2)))
(cond (((fV.text.getD fV.at_.toNat 0).toNat:Int)==34)
((G.bP n fV).bind λv2=>(some ((aj.mk 2 0 v2.1 [] []),v2.2.1,v2.2.2)))
(cond (((fV.text.getD fV.at_.toNat 0).toNat:Int)==91)
((G.di n (bn.mk fV.text (af .i64 (fV.at_+1))) 3 mO [93]).bind λv3=>(some (v3.1,v3.2.1,v3.2.2)))
(cond (((fV.text.getD fV.at_.toNat 0).toNat:Int)==123)
((G.di n (bn.mk fV.text (af .i64 (fV.at_+1))) 4 mO [125]).bind λv4=>(some (v4.1,v4.2.1,v4.2.2)))
((G.dR n fV).bind λv5=>(some (v5.1,v5.2.1,v5.2.2))))))))))
def G.di.K4 (f:Nat)(uy:Int)(mO:Int)(vH:aK)(z6:List aj)(y9:aK)(LQ:Int)(z7:List aK):Option (aj×Bool×bn):=match f with
|0=>none
|n+1=>((G.iG n (bn.mk y9 LQ) (af .i64 (mO+1))).bind λv18=>(cond v18.2.1
(chk ((z6.length+1)*86<=2^46)
((G.iL n v18.2.2 vH).bind λv19=>(cond v19.1
(some ((aj.mk uy 0 [] z7 (z6++[v18.1])),true,v19.2))
((G.iL n v19.2 [44]).bind λv20=>(cond v20.1
(G.di.L3 n uy mO vH v20.2.text v20.2.at_ z7 (z6++[v18.1]))
(some ((aj.mk 0 0 [] [] []),false,v20.2)))))))
(some ((aj.mk 0 0 [] [] []),false,v18.2.2))))
def G.di.L3 (f:Nat)(uy:Int)(mO:Int)(vH:aK)(y7:aK)(y8:Int)(z5:List aK)(z6:List aj):Option (aj×Bool×bn):=match f with
|0=>none
|n+1=>(cond (uy==4)
((G.bP n (bn.mk y7 y8)).bind λv21=>(cond v21.2.1
((G.iL n v21.2.2 [58]).bind λv22=>(cond v22.1
(chk ((z5.length+1)*18<=2^46)
(G.di.K4 n uy mO vH z6 v22.2.text v22.2.at_ (z5++[v21.1])))
(some ((aj.mk 0 0 [] [] []),false,v22.2))))
(some ((aj.mk 0 0 [] [] []),false,v21.2.2))))
(G.di.K4 n uy mO vH z6 y7 y8 z5))
def G.di (f:Nat)(fV:bn)(uy:Int)(mO:Int)(vH:aK):Option (aj×Bool×bn):=match f with
|0=>none
|n+1=>((G.iL n fV vH).bind λv1=>(cond v1.1
(some ((aj.mk uy 0 [] [] []),true,v1.2))
(G.di.L3 n uy mO vH v1.2.text v1.2.at_ [] [])))
end
def G.rH (f:Nat)(aA:aK):Option (aj×Bool):=match f with
|0=>none
|n+1=>(cond (decide (2000<(aA.length:Int)))
(some ((aj.mk 0 0 [] [] []),false))
((G.iG n (bn.mk aA 0) 1).bind λv1=>(cond v1.2.1
(cond (v1.2.2.at_ != (aA.length:Int))
(some ((aj.mk 0 0 [] [] []),false))
((G.aX n v1.1).bind λv2=>(cond v2
((G.aP n v1.1).bind λv3=>(some (v3,true)))
(some ((aj.mk 0 0 [] [] []),false)))))
(some ((aj.mk 0 0 [] [] []),false)))))
def G.uX (f:Nat)(s:aK):Option (List aK×Bool):=match f with
|0=>none
|_+1=>(chk (s.length<=1000000) (some (U3 IV s)))
def G.fJ.L1 (f:Nat)(xU:aK)(xQ:Int)(Di:Int):Option (Int×Bool):=match f with
|0=>none
|n+1=>(cond (decide (Di<=xQ))
((G.nH n Di).bind λv3=>(cond (v3==xU)
(some (Di,true))
(G.fJ.L1 n xU xQ (af .i64 (Di+1)))))
(some (0,false)))
def G.fJ (f:Nat)(xU:aK)(Ce:Int)(xQ:Int):Option (Int×Bool):=match f with
|0=>none
|n+1=>(G.fJ.L1 n xU xQ Ce)
def G.mG.L1 (f:Nat)(aA:aK)(z2:List oz)(y3:aK)(y4:Int):Option (List oz×Bool):=match f with
|0=>none
|n+1=>(cond (decide (y4<(aA.length:Int)))
((G.iG n (bn.mk y3 y4) 1).bind λv7=>(cond v7.2.1
((G.iL n v7.2.2 [59]).bind λv8=>(cond v8.1
((G.sZ n v7.1).bind λv9=>(cond v9.2
(cond ((z2.length:Int)==12)
(some ([],false))
(chk ((z2.length+1)*145<=2^46)
(G.mG.L1 n aA (z2++[v9.1]) v8.2.text v8.2.at_)))
(some ([],false))))
(some ([],false))))
(some ([],false))))
(some (z2,true)))
def G.mG (f:Nat)(aA:aK):Option (List oz×Bool):=match f with
|0=>none
|n+1=>(G.mG.L1 n aA [] aA 0)
def G.strings_SplitN (f:Nat)(s:aK)(sep:aK)(k:Int):Option (List aK):=match f with
|0=>none
|_+1=>(chk (s.length<4294967281/\1<=sep.length/\1<=k/\k<=1000000) (some (Go.Lib.splitK sep 0 (min k.toNat (s.length+1)-1) s)))
def G.jq.K1 (f:Nat)(aA:aK)(v1:List aK)(v2:Int×Bool)(v3:List aK×Bool)(v4:List aK×Bool)(Xl:Bool)(y1:Int)(y2:Int)(y3:aK)(y4:List aK)(y5:List aj)(y6:List oz):Option (RequestT×Bool):=match f with
|0=>none
|n+1=>(cond Xl
((G.aT n (RequestT.mk v2.1 (v1.getD 1 default) v3.1 v4.1 (aj.mk y1 y2 y3 y4 y5) y6)).bind λv7=>(cond (v7==aA)
(some ((RequestT.mk v2.1 (v1.getD 1 default) v3.1 v4.1 (aj.mk y1 y2 y3 y4 y5) y6),true))
(some ((RequestT.mk 0 [] [] [] (aj.mk 0 0 [] [] []) []),false))))
(some ((RequestT.mk 0 [] [] [] (aj.mk 0 0 [] [] []) []),false)))
def G.jq (f:Nat)(aA:aK):Option (RequestT×Bool):=match f with
|0=>none
|n+1=>((G.strings_SplitN n aA [32] 5).bind λv1=>(cond (decide (2000<(aA.length:Int)))
(some ((RequestT.mk 0 [] [] [] (aj.mk 0 0 [] [] []) []),false))
(cond ((v1.length:Int) != 5)
(some ((RequestT.mk 0 [] [] [] (aj.mk 0 0 [] [] []) []),false))
(chk (0<=0/\0<(v1.length:Int))
((G.fJ n (v1.getD 0 default) 1 5).bind λv2=>(chk (0<=2/\2<(v1.length:Int))
((G.uX n (v1.getD 2 default)).bind λv3=>(chk (0<=3/\3<(v1.length:Int))
((G.uX n (v1.getD 3 default)).bind λv4=>(cond v2.2
(cond v3.2
(cond v4.2
(chk (0<=1/\1<(v1.length:Int))
(cond (v2.1==4)
(chk (0<=4/\4<(v1.length:Int))
((G.mG n (v1.getD 4 default)).bind λv8=>(G.jq.K1 n aA v1 v2 v3 v4 v8.2 0 0 [] [] [] v8.1)))
(chk (0<=4/\4<(v1.length:Int))
((G.rH n (v1.getD 4 default)).bind λv9=>(G.jq.K1 n aA v1 v2 v3 v4 v9.2 v9.1.Kind v9.1.Num v9.1.Text v9.1.Names v9.1.Kids [])))))
(some ((RequestT.mk 0 [] [] [] (aj.mk 0 0 [] [] []) []),false)))
(some ((RequestT.mk 0 [] [] [] (aj.mk 0 0 [] [] []) []),false)))
(some ((RequestT.mk 0 [] [] [] (aj.mk 0 0 [] [] []) []),false))))))))))))
def G.vP (f:Nat)(ay:aj):Option (Int):=match f with
|0=>none
|n+1=>((G.aX n ay).bind λv1=>(cond v1
((G.jY n ay).bind λv2=>(some ((v2.length:Int))))
(some ((-1)))))
def G.vC (f:Nat)(lQ:bI):Option (Int):=match f with
|0=>none
|n+1=>((G.vP n lQ.Node).bind λv1=>(some ((af .i64 ((lQ.Name.length:Int)+v1)))))
def G.lS.L1 (f:Nat)(aA:StoreT)(Zt:Int)(jb:Int):Option (Int):=match f with
|0=>none
|n+1=>(cond (decide (jb<(aA.Items.length:Int)))
(chk (0<=jb/\jb<(aA.Items.length:Int))
((G.vC n (bI.mk ((aA.Items.getD jb.toNat default).Name) ((aA.Items.getD jb.toNat default).Version) ((aA.Items.getD jb.toNat default).Node))).bind λv4=>(G.lS.L1 n aA (af .i64 (Zt+v4)) (af .i64 (jb+1)))))
(some (Zt)))
def G.lS (f:Nat)(aA:StoreT):Option (Int):=match f with
|0=>none
|n+1=>((G.dw n aA).bind λv1=>(cond v1
(G.lS.L1 n aA 0 0)
(some ((-1)))))
def G.jD.L1 (f:Nat)(wu:mM)(jb:Int)(z2:List aK):Option (aK×mM):=match f with
|0=>none
|n+1=>(cond (decide (jb<(wu.now.Items.length:Int)))
(chk (0<=jb/\jb<(wu.now.Items.length:Int))
(chk ((z2.length+1)*18<=2^46)
(G.jD.L1 n wu (af .i64 (jb+1)) (z2++[(wu.now.Items.getD jb.toNat default).Name]))))
((G.strings_Join n z2 [32]).bind λv1=>(some (v1,wu))))
def G.jD (f:Nat)(wu:mM):Option (aK×mM):=match f with
|0=>none
|n+1=>(G.jD.L1 n wu 0 [])
def G.dX.K2 (f:Nat)(wu:mM)(v1:StoreT×gI)(z2:aK):Option (aK×mM):=match f with
|0=>none
|n+1=>((G.jC n (iJ.mk z2)).bind λv9=>(some (v9,(mM.mk v1.1 wu.kept))))
def G.dX.K1 (f:Nat)(wu:mM)(aU:RequestT)(v1:StoreT×gI)(z1:aK):Option (aK×mM):=match f with
|0=>none
|n+1=>(cond (aU.Method==1)
(cond (v1.2.Status==200)
((G.aS n (iJ.mk z1) 32).bind λv10=>((G.jY n v1.2.Body).bind λv11=>((G.gz n v10.2 v11).bind λv12=>(G.dX.K2 n wu v1 v12.2.2.buf))))
(G.dX.K2 n wu v1 z1))
(G.dX.K2 n wu v1 z1))
def G.dX (f:Nat)(wu:mM)(aU:RequestT):Option (aK×mM):=match f with
|0=>none
|n+1=>((G.gY n wu.now aU).bind λv1=>((G.strconv_Itoa n v1.2.Status).bind λv2=>((G.gz n (iJ.mk []) v2).bind λv3=>(cond (v1.2.Tag==[])
(G.dX.K1 n wu aU v1 v3.2.2.buf)
((G.aS n v3.2.2 32).bind λv13=>((G.gz n v13.2 v1.2.Tag).bind λv14=>(G.dX.K1 n wu aU v1 v14.2.2.buf)))))))
def G.mP (f:Nat)(wu:mM)(xR:aK):Option (aK×mM):=match f with
|0=>none
|n+1=>(cond (xR==[108,105,115,116])
((G.jD n wu).bind λv1=>(some (v1.1,v1.2)))
(cond (xR==[99,108,111,99,107])
((G.strconv_Itoa n wu.now.Clock).bind λv2=>(some (v2,wu)))
(cond (xR==[115,105,122,101])
((G.lS n wu.now).bind λv3=>((G.strconv_Itoa n v3).bind λv4=>(some (v4,wu))))
(cond (xR==[107,101,101,112])
((G.eu n wu.now).bind λv5=>(some ([111,107],(mM.mk wu.now v5))))
(cond (xR==[98,97,99,107])
((G.eu n wu.kept).bind λv6=>(some ([111,107],(mM.mk v6 wu.kept))))
((G.jq n xR).bind λv7=>(cond v7.2
((G.dX n wu v7.1).bind λv8=>(some (v8.1,v8.2)))
(some ([119,104,97,116],wu)))))))))
def G.dU.K2 (f:Nat)(ai8:Int)(y9:List bI)(LQ:Int)(y11:List bI)(y12:Int)(z3:aK):Option (aK):=match f with
|0=>none
|n+1=>((G.jC n (iJ.mk z3)).bind λv10=>(some (v10)))
def G.dU.L3 (f:Nat)(rZ:List aK)(Xm:Int)(y17:List bI)(y18:Int)(y19:List bI)(y20:Int)(z5:aK):Option (aK):=match f with
|0=>none
|n+1=>(cond (decide (Xm<(rZ.length:Int)))
(chk (0<=Xm/\Xm<(rZ.length:Int))
(cond (Xm==20)
(G.dU.K2 n Xm y17 y18 y19 y20 z5)
((G.mP n (mM.mk (StoreT.mk y17 y18) (StoreT.mk y19 y20)) (rZ.getD Xm.toNat default)).bind λv17=>((G.gz n (iJ.mk z5) v17.1).bind λv18=>((G.aS n v18.2.2 10).bind λv19=>(G.dU.L3 n rZ (af .i64 (Xm+1)) v17.2.now.Items v17.2.now.Clock v17.2.kept.Items v17.2.kept.Clock v19.2.buf))))))
(G.dU.K2 n Xm y17 y18 y19 y20 z5))
def G.dU (f:Nat)(rZ:List aK):Option (aK):=match f with
|0=>none
|n+1=>(G.dU.L3 n rZ 0 [] 0 [] 0 [])
def G.jS (f:Nat)(fV:ReaderT)(ay:Int):Option (Int×ReaderT):=match f with
|0=>none
|n+1=>(cond (decide (ay<1))
(some (0,(ReaderT.mk fV.b (af .i64 (fV.p+1)))))
(cond ((fV.b.length:Int)==0)
(some (0,(ReaderT.mk fV.b (af .i64 (fV.p+1)))))
(cond (decide ((af .i64 ((af .i64 (fV.p+1))-1))<(fV.b.length:Int)))
(chk (0<=(af .i64 ((af .i64 (fV.p+1))-1))/\(af .i64 ((af .i64 (fV.p+1))-1))<(fV.b.length:Int))
(chk (ay≠0)
(some ((iR (af .i64 ((fV.b.getD (af .i64 ((af .i64 (fV.p+1))-1)).toNat default))) ay),(ReaderT.mk fV.b (af .i64 (fV.p+1)))))))
(chk ((fV.b.length:Int)≠0)
(chk (0<=(iR (af .i64 ((af .i64 (fV.p+1))-1)) (fV.b.length:Int))/\(iR (af .i64 ((af .i64 (fV.p+1))-1)) (fV.b.length:Int))<(fV.b.length:Int))
(chk ((fV.b.length:Int)≠0)
(chk (0<=(iR (af .i64 ((af .i64 ((af .i64 ((af .i64 (fV.p+1))-1))*7))+3)) (fV.b.length:Int))/\(iR (af .i64 ((af .i64 ((af .i64 ((af .i64 (fV.p+1))-1))*7))+3)) (fV.b.length:Int))<(fV.b.length:Int))
(chk ((fV.b.length:Int)≠0)
(chk (ay≠0)
(some ((iR (af .i64 (((pG (fP .i64) (af .i64 ((af .i64 ((af .i64 ((af .i64 ((af .i64 ((fV.b.getD (iR (af .i64 ((af .i64 (fV.p+1))-1)) (fV.b.length:Int)).toNat default)))*131))+(af .i64 ((af .i64 ((fV.b.getD (iR (af .i64 ((af .i64 ((af .i64 ((af .i64 (fV.p+1))-1))*7))+3)) (fV.b.length:Int)).toNat default)))*1117))))+(af .i64 ((af .i64 ((af .i64 (fV.p+1))-1))*29))))+(af .i64 ((af .i64 (lJ (af .i64 ((af .i64 (fV.p+1))-1)) (fV.b.length:Int)))*53)))) ^^^ pG (fP .i64) (af .i64 (lJ (af .i64 ((af .i64 ((af .i64 ((af .i64 ((af .i64 ((fV.b.getD (iR (af .i64 ((af .i64 (fV.p+1))-1)) (fV.b.length:Int)).toNat default)))*131))+(af .i64 ((af .i64 ((fV.b.getD (iR (af .i64 ((af .i64 ((af .i64 ((af .i64 (fV.p+1))-1))*7))+3)) (fV.b.length:Int)).toNat default)))*1117))))+(af .i64 ((af .i64 ((af .i64 (fV.p+1))-1))*29))))+(af .i64 ((af .i64 (lJ (af .i64 ((af .i64 (fV.p+1))-1)) (fV.b.length:Int)))*53)))) 64))).toNat:Int))) ay),(ReaderT.mk fV.b (af .i64 (fV.p+1))))))))))))))
def G.nY (f:Nat)(fV:ReaderT)(aG:List aK):Option (aK×ReaderT):=match f with
|0=>none
|n+1=>((G.jS n fV (aG.length:Int)).bind λv1=>(chk (0<=v1.1/\v1.1<(aG.length:Int))
(some ((aG.getD v1.1.toNat default),v1.2))))
def G.xm (f:Nat)(fV:ReaderT)(aA:aK):Option (aK×ReaderT):=match f with
|0=>none
|n+1=>((G.jS n fV (af .i64 ((aA.length:Int)+1))).bind λv1=>((G.jS n v1.2 5).bind λv2=>(cond (v2.1==0)
(cond (decide (v1.1<(aA.length:Int)))
(chk (0<=0/\0<=v1.1/\v1.1<=(aA.length:Int))
((G.nY n v2.2 [[48],[49],[32],[45],[44],[97],[34],[93]]).bind λv3=>(chk ((aA.take v1.1.toNat).length+v3.1.length<=maxLen)
(chk (0<=(af .i64 (v1.1+1))/\(af .i64 (v1.1+1))<=(aA.length:Int)/\(aA.length:Int)<=(aA.length:Int))
(chk (((aA.take v1.1.toNat).length+v3.1.length)+(aA.drop ((af .i64 (v1.1+1)).toNat)).length<=maxLen)
(some ((((aA.take v1.1.toNat)++v3.1)++(aA.drop ((af .i64 (v1.1+1)).toNat))),v3.2)))))))
(some (aA,v2.2)))
(cond (v2.1==1)
(chk (0<=0/\0<=v1.1/\v1.1<=(aA.length:Int))
(some ((aA.take v1.1.toNat),v2.2)))
(cond (v2.1==2)
((G.nY n v2.2 [[48],[32],[110,117,108,108],[44,49],[120],[126]]).bind λv4=>(chk (aA.length+v4.1.length<=maxLen)
(some ((aA++v4.1),v4.2))))
(some (aA,v2.2)))))))
def G.uo (f:Nat)(rE:List Int):Option (ReaderT):=match f with
|0=>none
|n+1=>(cond (decide (2000<(rE.length:Int)))
(chk (0<=0/\0<=2000/\2000<=(rE.length:Int))
(some ((ReaderT.mk (rE.take 2000) 0))))
(some ((ReaderT.mk rE 0))))
def G.rC (f:Nat)(fV:ReaderT)(aG:List Int):Option (Int×ReaderT):=match f with
|0=>none
|n+1=>((G.jS n fV (aG.length:Int)).bind λv1=>(chk (0<=v1.1/\v1.1<(aG.length:Int))
(some ((aG.getD v1.1.toNat default),v1.2))))
def G.iC.L1 (f:Nat)(Jj:Int)(y3:List Int)(y4:Int)(z2:List aK):Option (List aK):=match f with
|0=>none
|n+1=>(cond (decide (0<Jj))
((G.nY n (ReaderT.mk y3 y4) [[103,101,116,32,97,32,32,32,110,117,108,108],[103,101,116,32,98,32,32,32,110,117,108,108],[103,101,116,32,99,32,32,32,110,117,108,108],[112,117,116,32,97,32,32,32,55],[112,117,116,32,99,32,42,32,42,32,110,117,108,108],[112,117,116,32,99,32,32,42,32,123,34,107,34,58,91,93,125],[100,101,108,101,116,101,32,97,32,32,32,110,117,108,108],[100,101,108,101,116,101,32,98,32,32,32,110,117,108,108],[109,101,114,103,101,32,97,32,32,32,123,34,98,34,58,50,125],[109,101,114,103,101,32,97,32,32,32,123,34,97,34,58,110,117,108,108,125],[112,97,116,99,104,32,98,32,32,32],[112,97,116,99,104,32,97,32,32,32,123,34,102,114,111,109,34,58,91,93,44,34,111,112,34,58,34,97,100,100,34,44,34,112,97,116,104,34,58,91,34,122,34,93,44,34,118,97,108,117,101,34,58,53,125,59],[108,105,115,116],[99,108,111,99,107],[115,105,122,101],[107,101,101,112],[98,97,99,107],[],[104,101,108,112],[103,101,116,32,65,32,32,32,110,117,108,108],[112,117,116,32,97,32,34,49,50,97,98,34,32,32,49]]).bind λv6=>(chk ((z2.length+1)*18<=2^46)
(G.iC.L1 n (af .i64 (Jj-1)) v6.2.b v6.2.p (z2++[v6.1]))))
((G.jS n (ReaderT.mk y3 y4) 6).bind λv7=>(cond (v7.1==0)
((G.jS n v7.2 (z2.length:Int)).bind λv8=>(chk (0<=v8.1/\v8.1<(z2.length:Int))
((G.xm n v8.2 (z2.getD v8.1.toNat default)).bind λv9=>(chk (0<=v8.1/\v8.1<(z2.length:Int))
(some ((z2.set v8.1.toNat v9.1)))))))
(some (z2)))))
def G.iC (f:Nat)(rE:List Int):Option (List aK):=match f with
|0=>none
|n+1=>((G.uo n rE).bind λv1=>((G.nY n v1 [[112,117,116,32,97,32,32,32,123,34,97,34,58,49,125],[108,105,115,116],[112,117,116,32,98,32,32,32,91,49,44,50,44,34,120,34,93],[103,101,116,32,97,32,32,32,110,117,108,108],[107,101,101,112]]).bind λv2=>((G.rC n v2.2 [6,8,4,10,0]).bind λv3=>(G.iC.L1 n v3.1 v3.2.b v3.2.p [v2.1]))))
def G.fZ (f:Nat)(ay:Int)(Qg:Int)(Mc:Int):Option (Bool):=match f with
|0=>none
|n+1=>(cond (decide (Qg<=ay))
(some ((decide (ay<=Mc))))
(some (false)))
def G.lH.L1 (f:Nat)(aA:aK)(aN:Int):Option (Bool):=match f with
|0=>none
|n+1=>(cond (decide (aN<(aA.length:Int)))
(chk (0<=aN/\aN<(aA.length:Int))
((G.fZ n (af .i64 (((aA.getD aN.toNat 0).toNat:Int))) 48 57).bind λv5=>(cond v5
(G.lH.L1 n aA (af .i64 (aN+1)))
(chk (0<=aN/\aN<(aA.length:Int))
((G.fZ n (af .i64 (((aA.getD aN.toNat 0).toNat:Int))) 97 102).bind λv6=>(cond v6
(G.lH.L1 n aA (af .i64 (aN+1)))
(some (false))))))))
(some (((aA.length:Int)==4))))
def G.lH (f:Nat)(aA:aK):Option (Bool):=match f with
|0=>none
|n+1=>(G.lH.L1 n aA 0)
def G.iy.L1 (f:Nat)(aG:List aK)(aN:Int):Option (Bool):=match f with
|0=>none
|n+1=>(cond (decide (aN<(aG.length:Int)))
(chk (0<=aN/\aN<(aG.length:Int))
(cond ((aG.getD aN.toNat default)==[42])
(G.iy.L1 n aG (af .i64 (aN+1)))
(chk (0<=aN/\aN<(aG.length:Int))
((G.lH n (aG.getD aN.toNat default)).bind λv3=>(cond v3
(G.iy.L1 n aG (af .i64 (aN+1)))
(some (false)))))))
(some ((decide ((aG.length:Int)<=4)))))
def G.iy (f:Nat)(aG:List aK):Option (Bool):=match f with
|0=>none
|n+1=>(G.iy.L1 n aG 0)
mutual
def G.fO.K4 (f:Nat)(aG:List aK)(aN:Int)(OZ:aK):Option (aK):=match f with
|0=>none
|n+1=>(chk (0<=aN/\aN<(aG.length:Int))
(cond ((aG.getD aN.toNat default)==[42])
(chk (OZ.length+1<=maxLen)
(G.fO.L3 n aG (OZ++[42]) (af .i64 (aN+1))))
(chk (OZ.length+1<=maxLen)
(chk (0<=aN/\aN<(aG.length:Int))
(chk ((OZ.length+1)+(aG.getD aN.toNat default).length<=maxLen)
(chk (((OZ.length+1)+(aG.getD aN.toNat default).length)+1<=maxLen)
(G.fO.L3 n aG (((OZ++[34])++(aG.getD aN.toNat default))++[34]) (af .i64 (aN+1)))))))))
def G.fO.L3 (f:Nat)(aG:List aK)(Vq:aK)(aN:Int):Option (aK):=match f with
|0=>none
|n+1=>(cond (decide (aN<(aG.length:Int)))
(cond (decide (0<aN))
(chk (Vq.length+1<=maxLen)
(G.fO.K4 n aG aN (Vq++[44])))
(G.fO.K4 n aG aN Vq))
(some (Vq)))
end
def G.fO (f:Nat)(aG:List aK):Option (aK):=match f with
|0=>none
|n+1=>((G.iy n aG).bind λv1=>(cond v1
(G.fO.L3 n aG [] 0)
(some ([]))))
mutual
def G.kz (f:Nat)(ay:Int):Option (aK):=match f with
|0=>none
|n+1=>(cond (decide (ay<0))
(cond (ay==(af .i64 (0-ay)))
(some ([45,57,50,50,51,51,55,50,48,51,54,56,53,52,55,55,53,56,48,56]))
((G.kz n (af .i64 (0-ay))).bind λv1=>(chk (1+v1.length<=maxLen)
(some (([45]++v1))))))
(cond (decide (ay<10))
(chk (1<=maxLen)
(some ([eU (af .u8 ((af .i64 (48+ay)))).toNat])))
((G.kz n (af .i64 (lJ ay 10))).bind λv2=>(chk (1<=maxLen)
(chk (v2.length+1<=maxLen)
(some ((v2++[eU (af .u8 ((af .i64 (48+(iR ay 10))))).toNat]))))))))
end
def G.nP.L1 (f:Nat)(aA:aK)(xq:aK)(aN:Int):Option (aK):=match f with
|0=>none
|n+1=>(cond (decide (aN<(aA.length:Int)))
(chk (0<=aN/\aN<(aA.length:Int))
(cond (((aA.getD aN.toNat 0).toNat:Int)==34)
(chk (xq.length+1<=maxLen)
(chk (0<=aN/\aN<=(af .i64 (aN+1))/\(af .i64 (aN+1))<=(aA.length:Int))
(chk ((xq.length+1)+((aA.take ((af .i64 (aN+1)).toNat)).drop aN.toNat).length<=maxLen)
(G.nP.L1 n aA ((xq++[92])++((aA.take ((af .i64 (aN+1)).toNat)).drop aN.toNat)) (af .i64 (aN+1))))))
(chk (0<=aN/\aN<(aA.length:Int))
(cond (((aA.getD aN.toNat 0).toNat:Int)==92)
(chk (xq.length+1<=maxLen)
(chk (0<=aN/\aN<=(af .i64 (aN+1))/\(af .i64 (aN+1))<=(aA.length:Int))
(chk ((xq.length+1)+((aA.take ((af .i64 (aN+1)).toNat)).drop aN.toNat).length<=maxLen)
(G.nP.L1 n aA ((xq++[92])++((aA.take ((af .i64 (aN+1)).toNat)).drop aN.toNat)) (af .i64 (aN+1))))))
(chk (0<=aN/\aN<=(af .i64 (aN+1))/\(af .i64 (aN+1))<=(aA.length:Int))
(chk (xq.length+((aA.take ((af .i64 (aN+1)).toNat)).drop aN.toNat).length<=maxLen)
(G.nP.L1 n aA (xq++((aA.take ((af .i64 (aN+1)).toNat)).drop aN.toNat)) (af .i64 (aN+1)))))))))
(chk (xq.length+1<=maxLen)
(some ((xq++[34])))))
def G.nP (f:Nat)(aA:aK):Option (aK):=match f with
|0=>none
|n+1=>(G.nP.L1 n aA [34] 0)
mutual
def G.eX.K7 (f:Nat)(ay:aj)(aN:Int)(adT:aK):Option (aK):=match f with
|0=>none
|n+1=>(chk (0<=aN/\aN<(ay.Kids.length:Int))
((G.eX n (ay.Kids.getD aN.toNat default)).bind λv10=>(chk (adT.length+v10.length<=maxLen)
(G.eX.L5 n ay (adT++v10) (af .i64 (aN+1))))))
def G.eX.K6 (f:Nat)(ay:aj)(aN:Int)(Vr:aK):Option (aK):=match f with
|0=>none
|n+1=>(cond (ay.Kind==4)
(chk (0<=aN/\aN<(ay.Names.length:Int))
((G.nP n (ay.Names.getD aN.toNat default)).bind λv11=>(chk (Vr.length+v11.length<=maxLen)
(chk ((Vr.length+v11.length)+1<=maxLen)
(G.eX.K7 n ay aN ((Vr++v11)++[58]))))))
(G.eX.K7 n ay aN Vr))
def G.eX.L5 (f:Nat)(ay:aj)(IZ:aK)(aN:Int):Option (aK):=match f with
|0=>none
|n+1=>(cond (decide (aN<(ay.Kids.length:Int)))
(cond (decide (0<aN))
(chk (IZ.length+1<=maxLen)
(G.eX.K6 n ay aN (IZ++[44])))
(G.eX.K6 n ay aN IZ))
(cond (ay.Kind==4)
(chk (1+IZ.length<=maxLen)
(chk ((1+IZ.length)+1<=maxLen)
(some ((([123]++IZ)++[125])))))
(chk (1+IZ.length<=maxLen)
(chk ((1+IZ.length)+1<=maxLen)
(some ((([91]++IZ)++[93])))))))
def G.eX (f:Nat)(ay:aj):Option (aK):=match f with
|0=>none
|n+1=>(cond (ay.Kind==1)
((G.kz n ay.Num).bind λv1=>(some (v1)))
(cond (ay.Kind==2)
((G.nP n ay.Text).bind λv2=>(some (v2)))
(cond (ay.Kind==0)
(some ([110,117,108,108]))
(G.eX.L5 n ay [] 0))))
end
mutual
def G.aY.L1 (f:Nat)(ay:aj)(aN:Int)(z2:List aj):Option (aj):=match f with
|0=>none
|n+1=>(cond (decide (aN<(ay.Kids.length:Int)))
(chk (0<=aN/\aN<(ay.Kids.length:Int))
((G.aY n (ay.Kids.getD aN.toNat default)).bind λv3=>(chk ((z2.length+1)*86<=2^46)
(G.aY.L1 n ay (af .i64 (aN+1)) (z2++[v3])))))
(chk (ay.Names.length*18<=2^46)
(some ((aj.mk ay.Kind ay.Num ay.Text ay.Names z2)))))
def G.aY (f:Nat)(ay:aj):Option (aj):=match f with
|0=>none
|n+1=>(G.aY.L1 n ay 0 [])
end
def G.uO (f:Nat):Option (List aK):=match f with
|0=>none
|n+1=>(some ([[],[97,100,100],[114,101,109,111,118,101],[114,101,112,108,97,99,101],[109,111,118,101],[99,111,112,121],[116,101,115,116]]))
def G.xM (f:Nat)(aA:aK):Option (aj):=match f with
|0=>none
|n+1=>(some ((aj.mk 2 0 aA [] [])))
def G.rq.L1 (f:Nat)(aB:List aK)(aN:Int)(z2:List aj):Option (aj):=match f with
|0=>none
|n+1=>(cond (decide (aN<(aB.length:Int)))
(chk (0<=aN/\aN<(aB.length:Int))
((G.xM n (aB.getD aN.toNat default)).bind λv3=>(chk ((z2.length+1)*86<=2^46)
(G.rq.L1 n aB (af .i64 (aN+1)) (z2++[v3])))))
(some ((aj.mk 3 0 [] [] z2))))
def G.rq (f:Nat)(aB:List aK):Option (aj):=match f with
|0=>none
|n+1=>(G.rq.L1 n aB 0 [])
def G.qJ (f:Nat)(kL:oz):Option (aj):=match f with
|0=>none
|n+1=>((G.rq n kL.From).bind λv1=>((G.uO n).bind λv2=>(chk (0<=kL.Kind/\kL.Kind<(v2.length:Int))
((G.xM n (v2.getD kL.Kind.toNat default)).bind λv3=>((G.rq n kL.Path).bind λv4=>((G.aY n kL.Value).bind λv5=>(some ((aj.mk 4 0 [] [[102,114,111,109],[111,112],[112,97,116,104],[118,97,108,117,101]] [v1,v3,v4,v5])))))))))
def G.wQ (f:Nat):Option (List aK):=match f with
|0=>none
|n+1=>(some ([[],[103,101,116],[112,117,116],[100,101,108,101,116,101],[112,97,116,99,104],[109,101,114,103,101]]))
def G.jE.L1 (f:Nat)(aU:RequestT)(xq:aK)(aN:Int):Option (aK):=match f with
|0=>none
|n+1=>(cond (decide (aN<(aU.Ops.length:Int)))
(chk (0<=aN/\aN<(aU.Ops.length:Int))
((G.qJ n (oz.mk ((aU.Ops.getD aN.toNat default).Kind) ((aU.Ops.getD aN.toNat default).Path) ((aU.Ops.getD aN.toNat default).From) ((aU.Ops.getD aN.toNat default).Value))).bind λv8=>((G.eX n v8).bind λv9=>(chk (xq.length+v9.length<=maxLen)
(chk ((xq.length+v9.length)+1<=maxLen)
(G.jE.L1 n aU ((xq++v9)++[59]) (af .i64 (aN+1))))))))
(some (xq)))
def G.jE (f:Nat)(aU:RequestT):Option (aK):=match f with
|0=>none
|n+1=>((G.wQ n).bind λv1=>(chk (0<=aU.Method/\aU.Method<(v1.length:Int))
(chk ((v1.getD aU.Method.toNat default).length+1<=maxLen)
(chk (((v1.getD aU.Method.toNat default).length+1)+aU.Name.length<=maxLen)
(chk ((((v1.getD aU.Method.toNat default).length+1)+aU.Name.length)+1<=maxLen)
((G.fO n aU.Want).bind λv2=>(chk (((((v1.getD aU.Method.toNat default).length+1)+aU.Name.length)+1)+v2.length<=maxLen)
(chk ((((((v1.getD aU.Method.toNat default).length+1)+aU.Name.length)+1)+v2.length)+1<=maxLen)
((G.fO n aU.oP).bind λv3=>(chk (((((((v1.getD aU.Method.toNat default).length+1)+aU.Name.length)+1)+v2.length)+1)+v3.length<=maxLen)
(chk ((((((((v1.getD aU.Method.toNat default).length+1)+aU.Name.length)+1)+v2.length)+1)+v3.length)+1<=maxLen)
(cond (aU.Method==4)
(G.jE.L1 n aU ((((((((v1.getD aU.Method.toNat default)++[32])++aU.Name)++[32])++v2)++[32])++v3)++[32]) 0)
((G.eX n aU.Body).bind λv10=>(chk (((((((((v1.getD aU.Method.toNat default).length+1)+aU.Name.length)+1)+v2.length)+1)+v3.length)+1)+v10.length<=maxLen)
(some ((((((((((v1.getD aU.Method.toNat default)++[32])++aU.Name)++[32])++v2)++[32])++v3)++[32])++v10)))))))))))))))))
mutual
def G.nO.L1 (f:Nat)(ay:aj)(adS:Int)(aN:Int):Option (Int):=match f with
|0=>none
|n+1=>(cond (decide (aN<(ay.Kids.length:Int)))
(chk (0<=aN/\aN<(ay.Kids.length:Int))
((G.nO n (ay.Kids.getD aN.toNat default)).bind λv3=>(G.nO.L1 n ay (af .i64 (adS+v3)) (af .i64 (aN+1)))))
(some (adS)))
def G.nO (f:Nat)(ay:aj):Option (Int):=match f with
|0=>none
|n+1=>(G.nO.L1 n ay 1 0)
end
def G.jd.L1 (f:Nat)(aA:aK)(aN:Int):Option (Bool):=match f with
|0=>none
|n+1=>(cond (decide (aN<(aA.length:Int)))
(chk (0<=aN/\aN<(aA.length:Int))
((G.fZ n (af .i64 (((aA.getD aN.toNat 0).toNat:Int))) 32 126).bind λv3=>(cond v3
(G.jd.L1 n aA (af .i64 (aN+1)))
(some (false)))))
(some ((decide ((aA.length:Int)<=12)))))
def G.jd (f:Nat)(aA:aK):Option (Bool):=match f with
|0=>none
|n+1=>(G.jd.L1 n aA 0)
def G.oH.L1 (f:Nat)(aG:List aK)(aN:Int):Option (Bool):=match f with
|0=>none
|n+1=>(cond (decide (aN<(aG.length:Int)))
(chk (0<=aN/\aN<(aG.length:Int))
((G.jd n (aG.getD aN.toNat default)).bind λv3=>(cond v3
(cond (decide (0<aN))
(chk (0<=aN/\aN<(aG.length:Int))
(chk (0<=(af .i64 (aN-1))/\(af .i64 (aN-1))<(aG.length:Int))
(cond (iU (aG.getD aN.toNat default) (aG.getD (af .i64 (aN-1)).toNat default))
(some (false))
(cond ((aG.getD aN.toNat default)==(aG.getD (af .i64 (aN-1)).toNat default))
(some (false))
(G.oH.L1 n aG (af .i64 (aN+1)))))))
(G.oH.L1 n aG (af .i64 (aN+1))))
(some (false)))))
(some (true)))
def G.oH (f:Nat)(aG:List aK):Option (Bool):=match f with
|0=>none
|n+1=>(G.oH.L1 n aG 0)
mutual
def G.rX.L1 (f:Nat)(ay:aj)(iF:Int)(aN:Int):Option (Bool):=match f with
|0=>none
|n+1=>(cond (decide (aN<(ay.Kids.length:Int)))
(chk (0<=aN/\aN<(ay.Kids.length:Int))
((G.jA n (ay.Kids.getD aN.toNat default) (af .i64 (iF-1))).bind λv3=>(cond v3
(G.rX.L1 n ay iF (af .i64 (aN+1)))
(some (false)))))
(some (true)))
def G.rX (f:Nat)(ay:aj)(iF:Int):Option (Bool):=match f with
|0=>none
|n+1=>(G.rX.L1 n ay iF 0)
def G.jA.K1 (f:Nat)(ay:aj)(iF:Int):Option (Bool):=match f with
|0=>none
|n+1=>(cond (ay.Kind==1)
((G.fZ n ay.Num (-999999) 999999).bind λv1=>(some (v1)))
(cond (ay.Kind==2)
((G.jd n ay.Text).bind λv2=>(some (v2)))
(cond (ay.Kind==3)
((G.rX n ay iF).bind λv3=>(some (v3)))
(cond (ay.Kind==4)
(cond ((ay.Names.length:Int)==(ay.Kids.length:Int))
((G.oH n ay.Names).bind λv4=>(cond v4
((G.rX n ay iF).bind λv5=>(some (v5)))
(some (false))))
(some (false)))
(some ((ay.Kind==0)))))))
def G.jA (f:Nat)(ay:aj)(iF:Int):Option (Bool):=match f with
|0=>none
|n+1=>(cond (iF==0)
(some (false))
(cond (decide (6<(ay.Kids.length:Int)))
(some (false))
(cond (ay.Kind != 1)
(cond (ay.Num != 0)
(some (false))
(cond (ay.Kind != 2)
(cond (ay.Text==[])
(cond (ay.Kind != 4)
(cond (decide (0<(ay.Names.length:Int)))
(some (false))
(cond (decide (ay.Kind<3))
(cond (decide (0<(ay.Kids.length:Int)))
(some (false))
(G.jA.K1 n ay iF))
(G.jA.K1 n ay iF)))
(cond (decide (ay.Kind<3))
(cond (decide (0<(ay.Kids.length:Int)))
(some (false))
(G.jA.K1 n ay iF))
(G.jA.K1 n ay iF)))
(some (false)))
(cond (ay.Kind != 4)
(cond (decide (0<(ay.Names.length:Int)))
(some (false))
(cond (decide (ay.Kind<3))
(cond (decide (0<(ay.Kids.length:Int)))
(some (false))
(G.jA.K1 n ay iF))
(G.jA.K1 n ay iF)))
(cond (decide (ay.Kind<3))
(cond (decide (0<(ay.Kids.length:Int)))
(some (false))
(G.jA.K1 n ay iF))
(G.jA.K1 n ay iF)))))
(cond (ay.Kind != 2)
(cond (ay.Text==[])
(cond (ay.Kind != 4)
(cond (decide (0<(ay.Names.length:Int)))
(some (false))
(cond (decide (ay.Kind<3))
(cond (decide (0<(ay.Kids.length:Int)))
(some (false))
(G.jA.K1 n ay iF))
(G.jA.K1 n ay iF)))
(cond (decide (ay.Kind<3))
(cond (decide (0<(ay.Kids.length:Int)))
(some (false))
(G.jA.K1 n ay iF))
(G.jA.K1 n ay iF)))
(some (false)))
(cond (ay.Kind != 4)
(cond (decide (0<(ay.Names.length:Int)))
(some (false))
(cond (decide (ay.Kind<3))
(cond (decide (0<(ay.Kids.length:Int)))
(some (false))
(G.jA.K1 n ay iF))
(G.jA.K1 n ay iF)))
(cond (decide (ay.Kind<3))
(cond (decide (0<(ay.Kids.length:Int)))
(some (false))
(G.jA.K1 n ay iF))
(G.jA.K1 n ay iF)))))))
end
def G.fB (f:Nat)(ay:aj):Option (Bool):=match f with
|0=>none
|n+1=>((G.jA n ay 5).bind λv1=>(cond v1
((G.nO n ay).bind λv2=>(some ((decide (v2<=40)))))
(some (false))))
def G.jc.L1 (f:Nat)(aA:aK)(aN:Int):Option (Bool):=match f with
|0=>none
|n+1=>(cond (decide (aN<(aA.length:Int)))
(chk (0<=aN/\aN<(aA.length:Int))
((G.fZ n (af .i64 (((aA.getD aN.toNat 0).toNat:Int))) 97 122).bind λv5=>(cond v5
(G.jc.L1 n aA (af .i64 (aN+1)))
(chk (0<=aN/\aN<(aA.length:Int))
((G.fZ n (af .i64 (((aA.getD aN.toNat 0).toNat:Int))) 48 57).bind λv6=>(cond v6
(G.jc.L1 n aA (af .i64 (aN+1)))
(some (false))))))))
((G.fZ n (aA.length:Int) 1 8).bind λv7=>(some (v7))))
def G.jc (f:Nat)(aA:aK):Option (Bool):=match f with
|0=>none
|n+1=>(G.jc.L1 n aA 0)
def G.jB.L1 (f:Nat)(aB:List aK)(aN:Int):Option (Bool):=match f with
|0=>none
|n+1=>(cond (decide (aN<(aB.length:Int)))
(chk (0<=aN/\aN<(aB.length:Int))
((G.jd n (aB.getD aN.toNat default)).bind λv3=>(cond v3
(G.jB.L1 n aB (af .i64 (aN+1)))
(some (false)))))
(some ((decide ((aB.length:Int)<=5)))))
def G.jB (f:Nat)(aB:List aK):Option (Bool):=match f with
|0=>none
|n+1=>(G.jB.L1 n aB 0)
def G.oh (f:Nat)(kL:oz):Option (Bool):=match f with
|0=>none
|n+1=>((G.fZ n kL.Kind 1 6).bind λv1=>(cond v1
((G.jB n kL.Path).bind λv2=>(cond v2
((G.jB n kL.From).bind λv3=>(cond v3
((G.fB n kL.Value).bind λv4=>(some (v4)))
(some (false))))
(some (false))))
(some (false))))
def G.gG.L1 (f:Nat)(aG:List oz)(aN:Int):Option (Bool):=match f with
|0=>none
|n+1=>(cond (decide (aN<(aG.length:Int)))
(chk (0<=aN/\aN<(aG.length:Int))
((G.oh n (oz.mk ((aG.getD aN.toNat default).Kind) ((aG.getD aN.toNat default).Path) ((aG.getD aN.toNat default).From) ((aG.getD aN.toNat default).Value))).bind λv3=>(cond v3
(G.gG.L1 n aG (af .i64 (aN+1)))
(some (false)))))
(some ((decide ((aG.length:Int)<=12)))))
def G.gG (f:Nat)(aG:List oz):Option (Bool):=match f with
|0=>none
|n+1=>(G.gG.L1 n aG 0)
def G.kY (f:Nat)(aU:RequestT):Option (Bool):=match f with
|0=>none
|n+1=>((G.fZ n aU.Method 1 5).bind λv1=>(cond v1
((G.jc n aU.Name).bind λv2=>(cond v2
((G.iy n aU.Want).bind λv3=>(cond v3
((G.iy n aU.oP).bind λv4=>(cond v4
((G.fB n aU.Body).bind λv5=>(cond v5
((G.gG n aU.Ops).bind λv6=>(some (v6)))
(some (false))))
(some (false))))
(some (false))))
(some (false))))
(some (false))))
def G.dG.L2 (f:Nat)(aU:RequestT)(aN:Int):Option (aK):=match f with
|0=>none
|n+1=>(cond (decide (aN<(aU.Ops.length:Int)))
(chk (0<=aN/\aN<(aU.Ops.length:Int))
((G.qJ n (oz.mk ((aU.Ops.getD aN.toNat default).Kind) ((aU.Ops.getD aN.toNat default).Path) ((aU.Ops.getD aN.toNat default).From) ((aU.Ops.getD aN.toNat default).Value))).bind λv6=>((G.fB n v6).bind λv7=>(cond v7
(G.dG.L2 n aU (af .i64 (aN+1)))
(some ([]))))))
((G.jE n aU).bind λv8=>(some (v8))))
def G.dG.K1 (f:Nat)(aU:RequestT):Option (aK):=match f with
|0=>none
|n+1=>(G.dG.L2 n aU 0)
def G.dG (f:Nat)(aU:RequestT):Option (aK):=match f with
|0=>none
|n+1=>((G.kY n aU).bind λv9=>(cond v9
(cond (aU.Body.Kind != 0)
(cond (aU.Method != 2)
(cond (aU.Method != 5)
(some ([]))
(cond (decide (0<(aU.Ops.length:Int)))
(cond (aU.Method != 4)
(some ([]))
(G.dG.K1 n aU))
(G.dG.K1 n aU)))
(cond (decide (0<(aU.Ops.length:Int)))
(cond (aU.Method != 4)
(some ([]))
(G.dG.K1 n aU))
(G.dG.K1 n aU)))
(cond (decide (0<(aU.Ops.length:Int)))
(cond (aU.Method != 4)
(some ([]))
(G.dG.K1 n aU))
(G.dG.K1 n aU)))
(some ([]))))
def G.gB (f:Nat)(fV:dM):Option (Int×dM):=match f with
|0=>none
|n+1=>(cond (decide ((fV.text.length:Int)<=fV.at_))
(some (0,fV))
(chk (0<=fV.at_/\fV.at_<(fV.text.length:Int))
(some (((fV.text.getD fV.at_.toNat 0).toNat:Int),fV))))
def G.kG (f:Nat)(fV:dM)(Hw:Int):Option (dM):=match f with
|0=>none
|n+1=>((G.gB n fV).bind λv1=>(cond (v1.1 != Hw)
(some ((dM.mk v1.2.text v1.2.at_ true)))
(some ((dM.mk v1.2.text (af .i64 (v1.2.at_+1)) v1.2.bad)))))
mutual
def G.fC.K4 (f:Nat)(z2:List Int)(y13:aK)(y14:Int)(y15:Bool):Option (aK×dM):=match f with
|0=>none
|n+1=>((G.gB n (dM.mk y13 y14 y15)).bind λv15=>(cond (v15.1==0)
(some ([],(dM.mk v15.2.text v15.2.at_ true)))
((G.gB n v15.2).bind λv16=>(chk ((z2.length+1)*3<=2^46)
(G.fC.L3 n v16.2.text (af .i64 (v16.2.at_+1)) v16.2.bad (z2++[v16.1]))))))
def G.fC.L3 (f:Nat)(LQ:aK)(y11:Int)(y12:Bool)(z2:List Int):Option (aK×dM):=match f with
|0=>none
|n+1=>(cond y12
((G.kG n (dM.mk LQ y11 true) 34).bind λv12=>(chk (z2.length<=maxLen)
(some ((zJ z2),v12))))
((G.gB n (dM.mk LQ y11 false)).bind λv13=>(cond (v13.1 != 34)
((G.gB n v13.2).bind λv17=>(cond (v17.1==92)
(G.fC.K4 n z2 v17.2.text (af .i64 (v17.2.at_+1)) v17.2.bad)
(G.fC.K4 n z2 v17.2.text v17.2.at_ v17.2.bad)))
((G.kG n v13.2 34).bind λv18=>(chk (z2.length<=maxLen)
(some ((zJ z2),v18)))))))
end
def G.fC (f:Nat)(fV:dM):Option (aK×dM):=match f with
|0=>none
|n+1=>((G.kG n fV 34).bind λv1=>(G.fC.L3 n v1.text v1.at_ v1.bad []))
def G.fG.L2 (f:Nat)(NW:Int)(Jj:Int)(adS:Int)(y7:aK)(y8:Int)(y9:Bool):Option (Int×dM):=match f with
|0=>none
|n+1=>(cond (decide (adS<7))
((G.gB n (dM.mk y7 y8 y9)).bind λv8=>((G.fZ n (af .i64 (v8.1)) 48 57).bind λv9=>(cond v9
((G.gB n v8.2).bind λv10=>(G.fG.L2 n NW (af .i64 ((af .i64 ((af .i64 (10*Jj))+(af .i64 (v10.1))))-48)) (af .i64 (adS+1)) v10.2.text (af .i64 (v10.2.at_+1)) v10.2.bad))
(some ((af .i64 (NW*Jj)),v8.2)))))
(some ((af .i64 (NW*Jj)),(dM.mk y7 y8 y9))))
def G.fG.K1 (f:Nat)(NW:Int)(y1:aK)(y2:Int)(y3:Bool):Option (Int×dM):=match f with
|0=>none
|n+1=>(G.fG.L2 n NW 0 0 y1 y2 y3)
def G.fG (f:Nat)(fV:dM):Option (Int×dM):=match f with
|0=>none
|n+1=>((G.gB n fV).bind λv11=>(cond (v11.1==45)
(G.fG.K1 n (-1) v11.2.text (af .i64 (v11.2.at_+1)) v11.2.bad)
(G.fG.K1 n 1 v11.2.text v11.2.at_ v11.2.bad)))
mutual
def G.bT.K7 (f:Nat)(ay:aj)(zD:Int)(iF:Int)(z6:List aj)(y22:aK)(y23:Int)(y24:Bool)(z7:List aK):Option (aj×dM):=match f with
|0=>none
|n+1=>((G.kF n (dM.mk y22 y23 y24) (af .i64 (iF-1))).bind λv22=>(chk ((z6.length+1)*86<=2^46)
(G.bT.L5 n ay zD iF v22.2.text v22.2.at_ v22.2.bad z7 (z6++[v22.1]))))
def G.bT.K6 (f:Nat)(ay:aj)(zD:Int)(iF:Int)(z5:List aK)(z6:List aj)(y19:aK)(y20:Int)(y21:Bool):Option (aj×dM):=match f with
|0=>none
|n+1=>(cond (ay.Kind==4)
((G.fC n (dM.mk y19 y20 y21)).bind λv23=>(chk ((z5.length+1)*18<=2^46)
((G.kG n v23.2 58).bind λv24=>(G.bT.K7 n ay zD iF z6 v24.text v24.at_ v24.bad (z5++[v23.1])))))
(G.bT.K7 n ay zD iF z6 y19 y20 y21 z5))
def G.bT.L5 (f:Nat)(ay:aj)(zD:Int)(iF:Int)(y16:aK)(y17:Int)(y18:Bool)(z5:List aK)(z6:List aj):Option (aj×dM):=match f with
|0=>none
|n+1=>(cond y18
((G.kG n (dM.mk y16 y17 true) zD).bind λv17=>(some ((aj.mk ay.Kind 0 [] z5 z6),v17)))
((G.gB n (dM.mk y16 y17 false)).bind λv18=>(cond (v18.1 != zD)
(cond (decide (0<(z6.length:Int)))
((G.kG n v18.2 44).bind λv25=>(G.bT.K6 n ay zD iF z5 z6 v25.text v25.at_ v25.bad))
(G.bT.K6 n ay zD iF z5 z6 v18.2.text v18.2.at_ v18.2.bad))
((G.kG n v18.2 zD).bind λv26=>(some ((aj.mk ay.Kind 0 [] z5 z6),v26))))))
def G.bT (f:Nat)(fV:dM)(ay:aj)(zD:Int)(iF:Int):Option (aj×dM):=match f with
|0=>none
|n+1=>(G.bT.L5 n ay zD iF fV.text (af .i64 (fV.at_+1)) fV.bad [] [])
def G.kF (f:Nat)(fV:dM)(iF:Int):Option (aj×dM):=match f with
|0=>none
|n+1=>(cond (iF==0)
(some ((aj.mk 0 0 [] [] []),(dM.mk fV.text fV.at_ true)))
(cond fV.bad
(some ((aj.mk 0 0 [] [] []),(dM.mk fV.text fV.at_ true)))
((G.gB n (dM.mk fV.text fV.at_ false)).bind λv1=>(cond (v1.1==34)
((G.fC n v1.2).bind λv2=>(some ((aj.mk 2 0 v2.1 [] []),v2.2)))
((G.gB n v1.2).bind λv3=>(cond (v3.1==91)
((G.bT n v3.2 (aj.mk 3 0 [] [] []) 93 iF).bind λv4=>(some (v4.1,v4.2)))
((G.gB n v3.2).bind λv5=>(cond (v5.1==123)
((G.bT n v5.2 (aj.mk 4 0 [] [] []) 125 iF).bind λv6=>(some (v6.1,v6.2)))
((G.gB n v5.2).bind λv7=>(cond (v7.1==110)
(some ((aj.mk 0 0 [] [] []),(dM.mk v7.2.text (if(v7.2.text.length:Int)<(af .i64 (v7.2.at_+4))then(v7.2.text.length:Int)else(af .i64 (v7.2.at_+4))) v7.2.bad)))
((G.gB n v7.2).bind λv8=>(cond (v8.1==45)
((G.fG n v8.2).bind λv9=>(some ((aj.mk 1 v9.1 [] [] []),v9.2)))
((G.gB n v8.2).bind λv10=>((G.fZ n (af .i64 (v10.1)) 48 57).bind λv11=>(cond v11
((G.fG n v10.2).bind λv12=>(some ((aj.mk 1 v12.1 [] [] []),v12.2)))
(some ((aj.mk 0 0 [] [] []),(dM.mk v10.2.text v10.2.at_ true))))))))))))))))))
end
def G.rO (f:Nat)(aA:aK):Option (aj×Bool):=match f with
|0=>none
|n+1=>(cond (decide (2000<(aA.length:Int)))
(some ((aj.mk 0 0 [] [] []),false))
((G.kF n (dM.mk aA 0 false) 5).bind λv1=>(cond v1.2.bad
(some ((aj.mk 0 0 [] [] []),false))
((G.fB n v1.1).bind λv2=>(cond v2
((G.eX n v1.1).bind λv3=>(cond (v3==aA)
(some (v1.1,true))
(some ((aj.mk 0 0 [] [] []),false))))
(some ((aj.mk 0 0 [] [] []),false)))))))
def G.ji.L1 (f:Nat)(aA:aK)(zx:Int)(z2:List aK):Option (List aK×Bool):=match f with
|0=>none
|n+1=>(cond (decide (zx<(aA.length:Int)))
(cond (decide ((z2.length:Int)<=4))
(cond (decide (0<zx))
(chk (0<=zx/\zx<(aA.length:Int))
(cond (((aA.getD zx.toNat 0).toNat:Int)==44)
(G.ji.L1 n aA (af .i64 (zx+1)) z2)
(chk (0<=zx/\zx<(aA.length:Int))
(cond (((aA.getD zx.toNat 0).toNat:Int)==42)
(chk ((z2.length+1)*18<=2^46)
(G.ji.L1 n aA (af .i64 (zx+1)) (z2++[[42]])))
(cond (decide ((af .i64 (zx+6))<=(aA.length:Int)))
(chk (0<=(af .i64 (zx+1))/\(af .i64 (zx+1))<=(af .i64 (zx+5))/\(af .i64 (zx+5))<=(aA.length:Int))
(chk ((z2.length+1)*18<=2^46)
(G.ji.L1 n aA (af .i64 (zx+6)) (z2++[((aA.take ((af .i64 (zx+5)).toNat)).drop ((af .i64 (zx+1)).toNat))]))))
(some ([],false)))))))
(chk (0<=zx/\zx<(aA.length:Int))
(cond (((aA.getD zx.toNat 0).toNat:Int)==42)
(chk ((z2.length+1)*18<=2^46)
(G.ji.L1 n aA (af .i64 (zx+1)) (z2++[[42]])))
(cond (decide ((af .i64 (zx+6))<=(aA.length:Int)))
(chk (0<=(af .i64 (zx+1))/\(af .i64 (zx+1))<=(af .i64 (zx+5))/\(af .i64 (zx+5))<=(aA.length:Int))
(chk ((z2.length+1)*18<=2^46)
(G.ji.L1 n aA (af .i64 (zx+6)) (z2++[((aA.take ((af .i64 (zx+5)).toNat)).drop ((af .i64 (zx+1)).toNat))]))))
(some ([],false))))))
((G.fO n z2).bind λv1=>(cond (v1==aA)
((G.iy n z2).bind λv2=>(cond v2
(some (z2,true))
(some ([],false))))
(some ([],false)))))
((G.fO n z2).bind λv3=>(cond (v3==aA)
((G.iy n z2).bind λv4=>(cond v4
(some (z2,true))
(some ([],false))))
(some ([],false)))))
def G.ji (f:Nat)(aA:aK):Option (List aK×Bool):=match f with
|0=>none
|n+1=>(G.ji.L1 n aA 0 [])
def G.rP.L1 (f:Nat)(aA:aK)(aN:Int):Option (aK×aK):=match f with
|0=>none
|n+1=>(cond (decide (aN<(aA.length:Int)))
(chk (0<=aN/\aN<(aA.length:Int))
(cond (((aA.getD aN.toNat 0).toNat:Int)==32)
(chk (0<=0/\0<=aN/\aN<=(aA.length:Int))
(chk (0<=(af .i64 (aN+1))/\(af .i64 (aN+1))<=(aA.length:Int)/\(aA.length:Int)<=(aA.length:Int))
(some ((aA.take aN.toNat),(aA.drop ((af .i64 (aN+1)).toNat))))))
(G.rP.L1 n aA (af .i64 (aN+1)))))
(some (aA,[])))
def G.rP (f:Nat)(aA:aK):Option (aK×aK):=match f with
|0=>none
|n+1=>(G.rP.L1 n aA 0)
def G.nJ.L1 (f:Nat)(ay:aj)(aN:Int)(z2:List aK):Option (List aK):=match f with
|0=>none
|n+1=>(cond (decide (aN<(ay.Kids.length:Int)))
(chk (0<=aN/\aN<(ay.Kids.length:Int))
(chk ((z2.length+1)*18<=2^46)
(G.nJ.L1 n ay (af .i64 (aN+1)) (z2++[(ay.Kids.getD aN.toNat default).Text]))))
(some (z2)))
def G.nJ (f:Nat)(ay:aj):Option (List aK):=match f with
|0=>none
|n+1=>(G.nJ.L1 n ay 0 [])
def G.mD (f:Nat)(pq:Bool):Option (Int):=match f with
|0=>none
|n+1=>(cond pq
(some (1))
(some (0)))
def G.rf (f:Nat)(o8:Int)(pq:Int):Option (Int):=match f with
|0=>none
|n+1=>((G.mD n (decide (pq<o8))).bind λv1=>((G.mD n (decide (o8<pq))).bind λv2=>(some ((af .i64 (v1-v2))))))
def G.oI (f:Nat)(o8:aK)(pq:aK):Option (Int):=match f with
|0=>none
|n+1=>(cond (iU o8 pq)
((G.mD n false).bind λv1=>((G.mD n true).bind λv2=>(some ((af .i64 (v1-v2))))))
(cond (o8==pq)
((G.mD n false).bind λv3=>((G.mD n false).bind λv4=>(some ((af .i64 (v3-v4))))))
((G.mD n true).bind λv5=>((G.mD n false).bind λv6=>(some ((af .i64 (v5-v6))))))))
mutual
def G.iO.L1 (f:Nat)(o8:aj)(pq:aj)(aN:Int):Option (Int):=match f with
|0=>none
|n+1=>(cond (decide (aN<(o8.Kids.length:Int)))
(cond (decide (aN<(pq.Kids.length:Int)))
(cond (o8.Kind==4)
(chk (0<=aN/\aN<(o8.Names.length:Int))
(chk (0<=aN/\aN<(pq.Names.length:Int))
(cond ((o8.Names.getD aN.toNat default)==(pq.Names.getD aN.toNat default))
(chk (0<=aN/\aN<(o8.Kids.length:Int))
(chk (0<=aN/\aN<(pq.Kids.length:Int))
((G.iO n (o8.Kids.getD aN.toNat default) (pq.Kids.getD aN.toNat default)).bind λv9=>(cond (v9 != 0)
(some (v9))
(G.iO.L1 n o8 pq (af .i64 (aN+1)))))))
(chk (0<=aN/\aN<(o8.Names.length:Int))
(chk (0<=aN/\aN<(pq.Names.length:Int))
((G.oI n (o8.Names.getD aN.toNat default) (pq.Names.getD aN.toNat default)).bind λv10=>(some (v10))))))))
(chk (0<=aN/\aN<(o8.Kids.length:Int))
(chk (0<=aN/\aN<(pq.Kids.length:Int))
((G.iO n (o8.Kids.getD aN.toNat default) (pq.Kids.getD aN.toNat default)).bind λv11=>(cond (v11 != 0)
(some (v11))
(G.iO.L1 n o8 pq (af .i64 (aN+1))))))))
((G.rf n (o8.Kids.length:Int) (pq.Kids.length:Int)).bind λv12=>(some (v12))))
((G.rf n (o8.Kids.length:Int) (pq.Kids.length:Int)).bind λv13=>(some (v13))))
def G.iO (f:Nat)(o8:aj)(pq:aj):Option (Int):=match f with
|0=>none
|n+1=>(cond (o8.Kind != pq.Kind)
((G.rf n o8.Kind pq.Kind).bind λv1=>(some (v1)))
(cond (o8.Num != pq.Num)
((G.rf n o8.Num pq.Num).bind λv2=>(some (v2)))
(cond (o8.Text==pq.Text)
(G.iO.L1 n o8 pq 0)
((G.oI n o8.Text pq.Text).bind λv14=>(some (v14))))))
end
def G.wC (f:Nat)(o8:aj)(pq:aj):Option (Bool):=match f with
|0=>none
|n+1=>((G.iO n o8 pq).bind λv1=>(some ((v1==0))))
def G.lG.L1 (f:Nat)(ay:aj)(v2:List aK)(P9:Int)(aN:Int):Option (oz×Bool):=match f with
|0=>none
|n+1=>(cond (decide (aN<(v2.length:Int)))
(chk (0<=1/\1<(ay.Kids.length:Int))
(chk (0<=aN/\aN<(v2.length:Int))
(cond ((ay.Kids.getD 1 default).Text==(v2.getD aN.toNat default))
(G.lG.L1 n ay v2 aN (af .i64 (aN+1)))
(G.lG.L1 n ay v2 P9 (af .i64 (aN+1))))))
(chk (0<=2/\2<(ay.Kids.length:Int))
((G.nJ n (ay.Kids.getD 2 default)).bind λv3=>(chk (0<=0/\0<(ay.Kids.length:Int))
((G.nJ n (ay.Kids.getD 0 default)).bind λv4=>(chk (0<=3/\3<(ay.Kids.length:Int))
((G.aY n (ay.Kids.getD 3 default)).bind λv5=>((G.oh n (oz.mk P9 v3 v4 v5)).bind λv6=>(cond v6
((G.qJ n (oz.mk P9 v3 v4 v5)).bind λv7=>((G.wC n v7 ay).bind λv8=>(cond v8
(some ((oz.mk P9 v3 v4 v5),true))
(some ((oz.mk 0 [] [] (aj.mk 0 0 [] [] [])),false)))))
(some ((oz.mk 0 [] [] (aj.mk 0 0 [] [] [])),false)))))))))))
def G.lG (f:Nat)(ay:aj):Option (oz×Bool):=match f with
|0=>none
|n+1=>((G.fB n ay).bind λv1=>(cond v1
(cond (ay.Kind != 4)
(some ((oz.mk 0 [] [] (aj.mk 0 0 [] [] [])),false))
(cond ((ay.Kids.length:Int) != 4)
(some ((oz.mk 0 [] [] (aj.mk 0 0 [] [] [])),false))
((G.uO n).bind λv2=>(G.lG.L1 n ay v2 0 1))))
(some ((oz.mk 0 [] [] (aj.mk 0 0 [] [] [])),false))))
def G.mJ.L1 (f:Nat)(abg:aK)(z2:List oz):Option (List oz×Bool):=match f with
|0=>none
|n+1=>(cond (decide (0<(abg.length:Int)))
(cond (decide ((z2.length:Int)<=12))
((G.kF n (dM.mk abg 0 false) 5).bind λv7=>((G.lG n v7.1).bind λv8=>(cond v7.2.bad
(some ([],false))
(cond v8.2
((G.gB n (dM.mk v7.2.text v7.2.at_ false)).bind λv9=>(cond (v9.1 != 59)
(some ([],false))
(chk ((z2.length+1)*145<=2^46)
(chk (0<=(af .i64 (v9.2.at_+1))/\(af .i64 (v9.2.at_+1))<=(abg.length:Int)/\(abg.length:Int)<=(abg.length:Int))
(G.mJ.L1 n (abg.drop ((af .i64 (v9.2.at_+1)).toNat)) (z2++[v8.1]))))))
(some ([],false))))))
(some (z2,true)))
(some (z2,true)))
def G.mJ (f:Nat)(aA:aK):Option (List oz×Bool):=match f with
|0=>none
|n+1=>(G.mJ.L1 n aA [])
def G.fM.K2 (f:Nat)(aA:aK)(v2:aK×aK)(y2:Int)(v6:List aK×Bool)(v7:List aK×Bool)(adW:Bool)(y3:Int)(y4:Int)(y5:aK)(y6:List aK)(y7:List aj)(y8:List oz):Option (RequestT×Bool):=match f with
|0=>none
|n+1=>(cond v6.2
(cond v7.2
(cond adW
((G.dG n (RequestT.mk y2 v2.1 v6.1 v7.1 (aj.mk y3 y4 y5 y6 y7) y8)).bind λv10=>(cond (v10==aA)
(cond (aA==[])
(some ((RequestT.mk 0 [] [] [] (aj.mk 0 0 [] [] []) []),false))
(some ((RequestT.mk y2 v2.1 v6.1 v7.1 (aj.mk y3 y4 y5 y6 y7) y8),true)))
(some ((RequestT.mk 0 [] [] [] (aj.mk 0 0 [] [] []) []),false))))
(some ((RequestT.mk 0 [] [] [] (aj.mk 0 0 [] [] []) []),false)))
(some ((RequestT.mk 0 [] [] [] (aj.mk 0 0 [] [] []) []),false)))
(some ((RequestT.mk 0 [] [] [] (aj.mk 0 0 [] [] []) []),false)))
def G.fM.L1 (f:Nat)(aA:aK)(v1:aK×aK)(v2:aK×aK)(v3:aK×aK)(v4:aK×aK)(v5:List aK)(aN:Int)(y2:Int):Option (RequestT×Bool):=match f with
|0=>none
|n+1=>(cond (decide (aN<(v5.length:Int)))
(chk (0<=aN/\aN<(v5.length:Int))
(cond ((v5.getD aN.toNat default)==v1.1)
(G.fM.L1 n aA v1 v2 v3 v4 v5 (af .i64 (aN+1)) aN)
(G.fM.L1 n aA v1 v2 v3 v4 v5 (af .i64 (aN+1)) y2)))
((G.ji n v3.1).bind λv6=>((G.ji n v4.1).bind λv7=>(cond (y2==4)
((G.mJ n v4.2).bind λv11=>(G.fM.K2 n aA v2 y2 v6 v7 v11.2 0 0 [] [] [] v11.1))
((G.rO n v4.2).bind λv12=>(G.fM.K2 n aA v2 y2 v6 v7 v12.2 v12.1.Kind v12.1.Num v12.1.Text v12.1.Names v12.1.Kids []))))))
def G.fM (f:Nat)(aA:aK):Option (RequestT×Bool):=match f with
|0=>none
|n+1=>(cond (decide (2000<(aA.length:Int)))
(some ((RequestT.mk 0 [] [] [] (aj.mk 0 0 [] [] []) []),false))
((G.rP n aA).bind λv1=>((G.rP n v1.2).bind λv2=>((G.rP n v2.2).bind λv3=>((G.rP n v3.2).bind λv4=>((G.wQ n).bind λv5=>(G.fM.L1 n aA v1 v2 v3 v4 v5 1 0)))))))
def G.fK.L1 (f:Nat)(aA:StoreT)(aN:Int)(z2:List bI):Option (StoreT):=match f with
|0=>none
|n+1=>(cond (decide (aN<(aA.Items.length:Int)))
(chk (0<=aN/\aN<(aA.Items.length:Int))
(chk (0<=aN/\aN<(aA.Items.length:Int))
(chk (0<=aN/\aN<(aA.Items.length:Int))
((G.aY n ((aA.Items.getD aN.toNat default).Node)).bind λv3=>(chk ((z2.length+1)*112<=2^46)
(G.fK.L1 n aA (af .i64 (aN+1)) (z2++[(bI.mk ((aA.Items.getD aN.toNat default).Name) ((aA.Items.getD aN.toNat default).Version) v3)])))))))
(some ((StoreT.mk z2 aA.Clock))))
def G.fK (f:Nat)(aA:StoreT):Option (StoreT):=match f with
|0=>none
|n+1=>(G.fK.L1 n aA 0 [])
def G.jM.L1 (f:Nat)(ay:aj)(jZ:aK)(aN:Int):Option (Int):=match f with
|0=>none
|n+1=>(cond (decide (aN<(ay.Kids.length:Int)))
(cond (ay.Kind==4)
(chk (0<=aN/\aN<(ay.Names.length:Int))
(cond ((ay.Names.getD aN.toNat default)==jZ)
(some (aN))
(cond (ay.Kind==3)
((G.kz n aN).bind λv5=>(cond (v5==jZ)
(some (aN))
(G.jM.L1 n ay jZ (af .i64 (aN+1)))))
(G.jM.L1 n ay jZ (af .i64 (aN+1))))))
(cond (ay.Kind==3)
((G.kz n aN).bind λv6=>(cond (v6==jZ)
(some (aN))
(G.jM.L1 n ay jZ (af .i64 (aN+1)))))
(G.jM.L1 n ay jZ (af .i64 (aN+1)))))
(some ((-1))))
def G.jM (f:Nat)(ay:aj)(jZ:aK):Option (Int):=match f with
|0=>none
|n+1=>(G.jM.L1 n ay jZ 0)
def G.l9.L1 (f:Nat)(ay:aj)(jZ:aK)(aN:Int):Option (Int×Bool):=match f with
|0=>none
|n+1=>(cond (ay.Kind==4)
(cond (decide (aN<=(ay.Kids.length:Int)))
(cond (aN==(ay.Kids.length:Int))
(some (aN,false))
(chk (0<=aN/\aN<(ay.Names.length:Int))
(cond (iU jZ (ay.Names.getD aN.toNat default))
(some (aN,false))
(G.l9.L1 n ay jZ (af .i64 (aN+1))))))
(some ((-1),false)))
(some ((-1),false)))
def G.l9.L2 (f:Nat)(ay:aj)(jZ:aK)(KD:Int):Option (Int×Bool):=match f with
|0=>none
|n+1=>(cond (ay.Kind==4)
(cond (decide (KD<=(ay.Kids.length:Int)))
(cond (KD==(ay.Kids.length:Int))
(some (KD,false))
(chk (0<=KD/\KD<(ay.Names.length:Int))
(cond (iU jZ (ay.Names.getD KD.toNat default))
(some (KD,false))
(G.l9.L2 n ay jZ (af .i64 (KD+1))))))
(some ((-1),false)))
(some ((-1),false)))
def G.l9 (f:Nat)(ay:aj)(jZ:aK):Option (Int×Bool):=match f with
|0=>none
|n+1=>((G.jM n ay jZ).bind λv1=>(cond (decide (0<=v1))
(some (v1,(ay.Kind==4)))
(cond (ay.Kind==3)
(cond (jZ==[45])
(some ((ay.Kids.length:Int),false))
((G.kz n (ay.Kids.length:Int)).bind λv2=>(cond (jZ==v2)
(some ((ay.Kids.length:Int),false))
(G.l9.L1 n ay jZ 0))))
(G.l9.L2 n ay jZ 0))))
def G.oW (f:Nat)(ay:aj)(Xv:Int)(Qe:aj):Option (aj):=match f with
|0=>none
|n+1=>((G.aY n ay).bind λv1=>((G.aY n Qe).bind λv2=>(chk (0<=Xv/\Xv<(v1.Kids.length:Int))
(some ((aj.mk v1.Kind v1.Num v1.Text v1.Names (v1.Kids.set Xv.toNat v2)))))))
def G.qy (f:Nat)(ay:aj)(jZ:aK)(iY:aj):Option (aj×Bool):=match f with
|0=>none
|n+1=>((G.l9 n ay jZ).bind λv1=>(cond (decide (v1.1<0))
(some ((aj.mk 0 0 [] [] []),false))
(cond v1.2
((G.oW n ay v1.1 iY).bind λv2=>(some (v2,true)))
((G.aY n ay).bind λv3=>(chk (0<=0/\0<=v1.1/\v1.1<=(v3.Kids.length:Int))
(chk (((v3.Kids.take v1.1.toNat).length)*86<=2^46)
((G.aY n iY).bind λv4=>(chk (((v3.Kids.take v1.1.toNat).length+1)*86<=2^46)
(chk (0<=v1.1/\v1.1<=(v3.Kids.length:Int)/\(v3.Kids.length:Int)<=(v3.Kids.length:Int))
(chk ((((v3.Kids.take v1.1.toNat).length+1)+(v3.Kids.drop v1.1.toNat).length)*86<=2^46)
(cond (ay.Kind==3)
(some ((aj.mk ay.Kind 0 [] [] (((v3.Kids.take v1.1.toNat)++[v4])++(v3.Kids.drop v1.1.toNat))),true))
(chk (0<=0/\0<=v1.1/\v1.1<=(v3.Names.length:Int))
(chk (((v3.Names.take v1.1.toNat).length)*18<=2^46)
(chk (((v3.Names.take v1.1.toNat).length+1)*18<=2^46)
(chk (0<=v1.1/\v1.1<=(v3.Names.length:Int)/\(v3.Names.length:Int)<=(v3.Names.length:Int))
(chk ((((v3.Names.take v1.1.toNat).length+1)+(v3.Names.drop v1.1.toNat).length)*18<=2^46)
(some ((aj.mk ay.Kind 0 [] (((v3.Names.take v1.1.toNat)++[jZ])++(v3.Names.drop v1.1.toNat)) (((v3.Kids.take v1.1.toNat)++[v4])++(v3.Kids.drop v1.1.toNat))),true))))))))))))))))))
def G.tZ.L1 (f:Nat)(aB:List aK)(aN:Int)(y6:Int)(y7:Int)(y8:aK)(y9:List aK)(LQ:List aj):Option (aj×Bool):=match f with
|0=>none
|n+1=>(cond (decide (aN<(aB.length:Int)))
(chk (0<=aN/\aN<(aB.length:Int))
((G.jM n (aj.mk y6 y7 y8 y9 LQ) (aB.getD aN.toNat default)).bind λv3=>(cond (decide (v3<0))
(some ((aj.mk 0 0 [] [] []),false))
(chk (0<=v3/\v3<(LQ.length:Int))
(G.tZ.L1 n aB (af .i64 (aN+1)) ((LQ.getD v3.toNat default).Kind) ((LQ.getD v3.toNat default).Num) ((LQ.getD v3.toNat default).Text) ((LQ.getD v3.toNat default).Names) ((LQ.getD v3.toNat default).Kids))))))
((G.aY n (aj.mk y6 y7 y8 y9 LQ)).bind λv4=>(some (v4,true))))
def G.tZ (f:Nat)(ay:aj)(aB:List aK):Option (aj×Bool):=match f with
|0=>none
|n+1=>(G.tZ.L1 n aB 0 ay.Kind ay.Num ay.Text ay.Names ay.Kids)
mutual
def G.o9 (f:Nat)(ay:aj)(aB:List aK)(iY:aj):Option (aj×Bool):=match f with
|0=>none
|n+1=>(cond ((aB.length:Int)==0)
((G.aY n iY).bind λv1=>(some (v1,true)))
(chk (0<=0/\0<(aB.length:Int))
((G.jM n ay (aB.getD 0 default)).bind λv2=>(cond (decide (v2<0))
(some ((aj.mk 0 0 [] [] []),false))
(chk (0<=v2/\v2<(ay.Kids.length:Int))
(chk (0<=1/\1<=(aB.length:Int)/\(aB.length:Int)<=(aB.length:Int))
((G.o9 n (ay.Kids.getD v2.toNat default) (aB.drop 1) iY).bind λv3=>(cond v3.2
((G.oW n ay v2 v3.1).bind λv4=>(some (v4,true)))
(some ((aj.mk 0 0 [] [] []),false))))))))))
end
def G.uG (f:Nat)(ay:aj)(aB:List aK)(iY:aj):Option (aj×Bool):=match f with
|0=>none
|n+1=>(cond ((aB.length:Int)==0)
((G.aY n iY).bind λv1=>(some (v1,true)))
(chk (0<=0/\0<=(af .i64 ((aB.length:Int)-1))/\(af .i64 ((aB.length:Int)-1))<=(aB.length:Int))
((G.tZ n ay (aB.take ((af .i64 ((aB.length:Int)-1)).toNat))).bind λv2=>(cond v2.2
(chk (0<=(af .i64 ((aB.length:Int)-1))/\(af .i64 ((aB.length:Int)-1))<(aB.length:Int))
((G.qy n v2.1 (aB.getD (af .i64 ((aB.length:Int)-1)).toNat default) iY).bind λv3=>(cond v3.2
(chk (0<=0/\0<=(af .i64 ((aB.length:Int)-1))/\(af .i64 ((aB.length:Int)-1))<=(aB.length:Int))
((G.o9 n ay (aB.take ((af .i64 ((aB.length:Int)-1)).toNat)) v3.1).bind λv4=>(some (v4.1,v4.2))))
(some ((aj.mk 0 0 [] [] []),false)))))
(some ((aj.mk 0 0 [] [] []),false))))))
def G.nI.L1 (f:Nat)(aB:List aK)(DN:List aK)(aN:Int):Option (Bool):=match f with
|0=>none
|n+1=>(cond (decide (aN<(DN.length:Int)))
(cond (decide ((aB.length:Int)<=aN))
(some (false))
(chk (0<=aN/\aN<(aB.length:Int))
(chk (0<=aN/\aN<(DN.length:Int))
(cond ((aB.getD aN.toNat default)==(DN.getD aN.toNat default))
(G.nI.L1 n aB DN (af .i64 (aN+1)))
(some (false))))))
(some (true)))
def G.nI (f:Nat)(aB:List aK)(DN:List aK):Option (Bool):=match f with
|0=>none
|n+1=>(G.nI.L1 n aB DN 0)
def G.kM.K1 (f:Nat)(ay:aj)(aB:List aK)(v1:aj×Bool)(z1:List aj)(z2:List aK):Option (aj×Bool):=match f with
|0=>none
|n+1=>(chk (0<=0/\0<=(af .i64 ((aB.length:Int)-1))/\(af .i64 ((aB.length:Int)-1))<=(aB.length:Int))
((G.o9 n ay (aB.take ((af .i64 ((aB.length:Int)-1)).toNat)) (aj.mk v1.1.Kind 0 [] z2 z1)).bind λv3=>(some (v3.1,v3.2))))
def G.kM (f:Nat)(ay:aj)(aB:List aK):Option (aj×Bool):=match f with
|0=>none
|n+1=>(cond (decide ((af .i64 ((aB.length:Int)-1))<0))
(some ((aj.mk 0 0 [] [] []),false))
(chk (0<=0/\0<=(af .i64 ((aB.length:Int)-1))/\(af .i64 ((aB.length:Int)-1))<=(aB.length:Int))
((G.tZ n ay (aB.take ((af .i64 ((aB.length:Int)-1)).toNat))).bind λv1=>(cond v1.2
(chk (0<=(af .i64 ((aB.length:Int)-1))/\(af .i64 ((aB.length:Int)-1))<(aB.length:Int))
((G.jM n v1.1 (aB.getD (af .i64 ((aB.length:Int)-1)).toNat default)).bind λv2=>(cond (decide (v2<0))
(some ((aj.mk 0 0 [] [] []),false))
(chk (0<=0/\0<=v2/\v2<=(v1.1.Kids.length:Int))
(chk (((v1.1.Kids.take v2.toNat).length)*86<=2^46)
(chk (0<=(af .i64 (v2+1))/\(af .i64 (v2+1))<=(v1.1.Kids.length:Int)/\(v1.1.Kids.length:Int)<=(v1.1.Kids.length:Int))
(chk (((v1.1.Kids.take v2.toNat).length+(v1.1.Kids.drop ((af .i64 (v2+1)).toNat)).length)*86<=2^46)
(cond (v1.1.Kind==4)
(chk (0<=0/\0<=v2/\v2<=(v1.1.Names.length:Int))
(chk (((v1.1.Names.take v2.toNat).length)*18<=2^46)
(chk (0<=(af .i64 (v2+1))/\(af .i64 (v2+1))<=(v1.1.Names.length:Int)/\(v1.1.Names.length:Int)<=(v1.1.Names.length:Int))
(chk (((v1.1.Names.take v2.toNat).length+(v1.1.Names.drop ((af .i64 (v2+1)).toNat)).length)*18<=2^46)
(G.kM.K1 n ay aB v1 ((v1.1.Kids.take v2.toNat)++(v1.1.Kids.drop ((af .i64 (v2+1)).toNat))) ((v1.1.Names.take v2.toNat)++(v1.1.Names.drop ((af .i64 (v2+1)).toNat))))))))
(G.kM.K1 n ay aB v1 ((v1.1.Kids.take v2.toNat)++(v1.1.Kids.drop ((af .i64 (v2+1)).toNat))) [])))))))))
(some ((aj.mk 0 0 [] [] []),false))))))
def G.lq.K1 (f:Nat)(ay:aj)(kL:oz)(afa:List aK):Option (aj×Bool):=match f with
|0=>none
|n+1=>((G.tZ n ay afa).bind λv4=>(cond v4.2
(cond (kL.Kind==6)
((G.wC n v4.1 kL.Value).bind λv5=>(some (ay,v5)))
(cond (kL.Kind==5)
((G.uG n ay kL.Path v4.1).bind λv6=>(some (v6.1,v6.2)))
((G.nI n kL.Path kL.From).bind λv7=>(cond v7
((G.aY n ay).bind λv8=>(some (v8,((kL.Path.length:Int)==(kL.From.length:Int)))))
((G.kM n ay kL.From).bind λv9=>(cond v9.2
((G.uG n v9.1 kL.Path v4.1).bind λv10=>(some (v10.1,v10.2)))
(some ((aj.mk 0 0 [] [] []),false))))))))
(some ((aj.mk 0 0 [] [] []),false))))
def G.lq (f:Nat)(ay:aj)(kL:oz):Option (aj×Bool):=match f with
|0=>none
|n+1=>(cond (kL.Kind==1)
((G.uG n ay kL.Path kL.Value).bind λv1=>(some (v1.1,v1.2)))
(cond (kL.Kind==2)
((G.kM n ay kL.Path).bind λv2=>(some (v2.1,v2.2)))
(cond (kL.Kind==3)
((G.o9 n ay kL.Path kL.Value).bind λv3=>(some (v3.1,v3.2)))
(cond (kL.Kind==6)
(G.lq.K1 n ay kL kL.Path)
(G.lq.K1 n ay kL kL.From)))))
def G.pR (f:Nat)(ay:aj)(Jo:Bool):Option (aj×Bool):=match f with
|0=>none
|n+1=>(cond Jo
((G.fB n ay).bind λv1=>(cond v1
(some (ay,true))
(some ((aj.mk 0 0 [] [] []),false))))
(some ((aj.mk 0 0 [] [] []),false)))
def G.qi (f:Nat)(ay:aj)(kL:oz):Option (aj×Bool):=match f with
|0=>none
|n+1=>((G.lq n ay kL).bind λv1=>((G.pR n v1.1 v1.2).bind λv2=>(cond v2.2
((G.aY n v2.1).bind λv3=>(some (v3,true)))
(some ((aj.mk 0 0 [] [] []),false)))))
def G.jH.L1 (f:Nat)(aG:List oz)(aN:Int)(y6:Int)(y7:Int)(y8:aK)(y9:List aK)(LQ:List aj):Option (aj×Bool):=match f with
|0=>none
|n+1=>(cond (decide (aN<(aG.length:Int)))
(chk (0<=aN/\aN<(aG.length:Int))
((G.qi n (aj.mk y6 y7 y8 y9 LQ) (oz.mk ((aG.getD aN.toNat default).Kind) ((aG.getD aN.toNat default).Path) ((aG.getD aN.toNat default).From) ((aG.getD aN.toNat default).Value))).bind λv6=>(cond v6.2
(G.jH.L1 n aG (af .i64 (aN+1)) v6.1.Kind v6.1.Num v6.1.Text v6.1.Names v6.1.Kids)
(some ((aj.mk 0 0 [] [] []),false)))))
(some ((aj.mk y6 y7 y8 y9 LQ),true)))
def G.jH (f:Nat)(ay:aj)(aG:List oz):Option (aj×Bool):=match f with
|0=>none
|n+1=>((G.fB n ay).bind λv1=>(cond v1
((G.gG n aG).bind λv2=>(cond v2
((G.aY n ay).bind λv3=>(G.jH.L1 n aG 0 v3.Kind v3.Num v3.Text v3.Names v3.Kids))
(some ((aj.mk 0 0 [] [] []),false))))
(some ((aj.mk 0 0 [] [] []),false))))
mutual
def G.jL.L2 (f:Nat)(dQ:aj)(aN:Int)(y11:Int)(y12:Int)(y13:aK)(y14:List aK)(y15:List aj):Option (aj):=match f with
|0=>none
|n+1=>(cond (decide (aN<(dQ.Kids.length:Int)))
(chk (0<=aN/\aN<(dQ.Names.length:Int))
((G.jM n (aj.mk y11 y12 y13 y14 y15) (dQ.Names.getD aN.toNat default)).bind λv19=>(chk (0<=aN/\aN<(dQ.Kids.length:Int))
(cond ((dQ.Kids.getD aN.toNat default).Kind==0)
(cond (decide (0<=v19))
((G.kM n (aj.mk y11 y12 y13 y14 y15) [(dQ.Names.getD aN.toNat default)]).bind λv20=>(G.jL.L2 n dQ (af .i64 (aN+1)) v20.1.Kind v20.1.Num v20.1.Text v20.1.Names v20.1.Kids))
(chk (0<=aN/\aN<(dQ.Kids.length:Int))
(cond ((dQ.Kids.getD aN.toNat default).Kind != 0)
(chk (0<=aN/\aN<(dQ.Kids.length:Int))
(chk (0<=aN/\aN<(dQ.Kids.length:Int))
((G.jL n (aj.mk 0 0 [] [] []) (dQ.Kids.getD aN.toNat default)).bind λv21=>((G.qy n (aj.mk y11 y12 y13 y14 y15) (dQ.Names.getD aN.toNat default) v21).bind λv22=>(G.jL.L2 n dQ (af .i64 (aN+1)) v22.1.Kind v22.1.Num v22.1.Text v22.1.Names v22.1.Kids)))))
(chk (0<=aN/\aN<(dQ.Kids.length:Int))
(G.jL.L2 n dQ (af .i64 (aN+1)) y11 y12 y13 y14 y15)))))
(chk (0<=aN/\aN<(dQ.Kids.length:Int))
(cond ((dQ.Kids.getD aN.toNat default).Kind != 0)
(cond (decide (0<=v19))
(chk (0<=v19/\v19<(y15.length:Int))
(chk (0<=aN/\aN<(dQ.Kids.length:Int))
((G.jL n (y15.getD v19.toNat default) (dQ.Kids.getD aN.toNat default)).bind λv23=>((G.oW n (aj.mk y11 y12 y13 y14 y15) v19 v23).bind λv24=>(G.jL.L2 n dQ (af .i64 (aN+1)) v24.Kind v24.Num v24.Text v24.Names v24.Kids)))))
(chk (0<=aN/\aN<(dQ.Kids.length:Int))
(chk (0<=aN/\aN<(dQ.Kids.length:Int))
((G.jL n (aj.mk 0 0 [] [] []) (dQ.Kids.getD aN.toNat default)).bind λv25=>((G.qy n (aj.mk y11 y12 y13 y14 y15) (dQ.Names.getD aN.toNat default) v25).bind λv26=>(G.jL.L2 n dQ (af .i64 (aN+1)) v26.1.Kind v26.1.Num v26.1.Text v26.1.Names v26.1.Kids))))))
(chk (0<=aN/\aN<(dQ.Kids.length:Int))
(G.jL.L2 n dQ (af .i64 (aN+1)) y11 y12 y13 y14 y15))))))))
(some ((aj.mk y11 y12 y13 y14 y15))))
def G.jL.K1 (f:Nat)(dQ:aj)(y1:Int)(y2:Int)(y3:aK)(y4:List aK)(y5:List aj):Option (aj):=match f with
|0=>none
|n+1=>(G.jL.L2 n dQ 0 y1 y2 y3 y4 y5)
def G.jL (f:Nat)(ay:aj)(dQ:aj):Option (aj):=match f with
|0=>none
|n+1=>(cond (dQ.Kind != 4)
((G.aY n dQ).bind λv1=>(some (v1)))
(cond (ay.Kind==4)
((G.aY n ay).bind λv27=>(G.jL.K1 n dQ v27.Kind v27.Num v27.Text v27.Names v27.Kids))
(G.jL.K1 n dQ 4 0 [] [] [])))
end
def G.qh (f:Nat)(ay:aj)(dQ:aj):Option (aj×Bool):=match f with
|0=>none
|n+1=>((G.fB n ay).bind λv1=>(cond v1
((G.fB n dQ).bind λv2=>(cond v2
((G.jL n ay dQ).bind λv3=>((G.pR n v3 true).bind λv4=>(some (v4.1,v4.2))))
(some ((aj.mk 0 0 [] [] []),false))))
(some ((aj.mk 0 0 [] [] []),false))))
def G.oG (f:Nat)(Hz:Int):Option (gI):=match f with
|0=>none
|n+1=>(some ((gI.mk Hz [] 0 (aj.mk 0 0 [] [] []))))
def G.mZ.L1 (f:Nat)(aG:List aK)(rV:aK)(aN:Int):Option (Bool):=match f with
|0=>none
|n+1=>(cond (decide (aN<(aG.length:Int)))
(chk (0<=aN/\aN<(aG.length:Int))
(cond ((aG.getD aN.toNat default)==rV)
(some (true))
(chk (0<=aN/\aN<(aG.length:Int))
(cond ((aG.getD aN.toNat default)==[42])
(some (true))
(G.mZ.L1 n aG rV (af .i64 (aN+1)))))))
(some (false)))
def G.mZ (f:Nat)(aG:List aK)(rV:aK):Option (Bool):=match f with
|0=>none
|n+1=>(G.mZ.L1 n aG rV 0)
def G.vJ (f:Nat)(yL:List aK)(uV:List aK)(rV:aK)(xE:Bool):Option (Int):=match f with
|0=>none
|n+1=>(cond (decide (0<(yL.length:Int)))
(cond (rV==[])
(some (412))
((G.mZ n yL rV).bind λv1=>(cond v1
(cond (decide (0<(uV.length:Int)))
((G.mZ n uV rV).bind λv2=>(cond v2
(cond xE
(some (304))
(some (412)))
(some (200))))
(some (200)))
(some (412)))))
(cond (decide (0<(uV.length:Int)))
(cond (rV==[])
(some (200))
((G.mZ n uV rV).bind λv3=>(cond v3
(cond xE
(some (304))
(some (412)))
(some (200)))))
(some (200))))
def G.ry.L1 (f:Nat)(aA:StoreT)(fF:aK)(v1:StoreT)(aN:Int)(z2:List bI):Option (StoreT):=match f with
|0=>none
|n+1=>(cond (decide (aN<(v1.Items.length:Int)))
(chk (0<=aN/\aN<(v1.Items.length:Int))
(cond ((v1.Items.getD aN.toNat default).Name==fF)
(G.ry.L1 n aA fF v1 (af .i64 (aN+1)) z2)
(chk (0<=aN/\aN<(v1.Items.length:Int))
(chk ((z2.length+1)*112<=2^46)
(G.ry.L1 n aA fF v1 (af .i64 (aN+1)) (z2++[(bI.mk ((v1.Items.getD aN.toNat default).Name) ((v1.Items.getD aN.toNat default).Version) ((v1.Items.getD aN.toNat default).Node))]))))))
(some ((StoreT.mk z2 (af .i64 (aA.Clock+1))))))
def G.ry (f:Nat)(aA:StoreT)(fF:aK):Option (StoreT):=match f with
|0=>none
|n+1=>((G.fK n aA).bind λv1=>(G.ry.L1 n aA fF v1 0 []))
def G.oV.L1 (f:Nat)(aA:StoreT)(fF:aK)(aN:Int):Option (Int):=match f with
|0=>none
|n+1=>(cond (decide (aN<(aA.Items.length:Int)))
(chk (0<=aN/\aN<(aA.Items.length:Int))
(cond ((aA.Items.getD aN.toNat default).Name==fF)
(some (aN))
(G.oV.L1 n aA fF (af .i64 (aN+1)))))
(some ((-1))))
def G.oV (f:Nat)(aA:StoreT)(fF:aK):Option (Int):=match f with
|0=>none
|n+1=>(G.oV.L1 n aA fF 0)
def G.zT (f:Nat)(ay:Int):Option (aK):=match f with
|0=>none
|n+1=>(chk (0<=(af .i64 (lJ ay 4096))/\(af .i64 (lJ ay 4096))<((16:Nat):Int))
(chk (0<=(iR (af .i64 (lJ ay 256)) 16)/\(iR (af .i64 (lJ ay 256)) 16)<((16:Nat):Int))
(chk (0<=(iR (af .i64 (lJ ay 16)) 16)/\(iR (af .i64 (lJ ay 16)) 16)<((16:Nat):Int))
(chk (0<=(iR ay 16)/\(iR ay 16)<((16:Nat):Int))
(chk (4<=maxLen)
(some ([eU ((([48,49,50,51,52,53,54,55,56,57,97,98,99,100,101,102]:aK).getD (af .i64 (lJ ay 4096)).toNat 0).toNat),eU ((([48,49,50,51,52,53,54,55,56,57,97,98,99,100,101,102]:aK).getD (iR (af .i64 (lJ ay 256)) 16).toNat 0).toNat),eU ((([48,49,50,51,52,53,54,55,56,57,97,98,99,100,101,102]:aK).getD (iR (af .i64 (lJ ay 16)) 16).toNat 0).toNat),eU ((([48,49,50,51,52,53,54,55,56,57,97,98,99,100,101,102]:aK).getD (iR ay 16).toNat 0).toNat)])))))))
def G.qj.L1 (f:Nat)(aA:aK)(Jj:Int)(aN:Int):Option (Int):=match f with
|0=>none
|n+1=>(cond (decide (aN<(aA.length:Int)))
(chk (0<=aN/\aN<(aA.length:Int))
(G.qj.L1 n aA (iR (af .i64 ((af .i64 (131*Jj))+(af .i64 (((aA.getD aN.toNat 0).toNat:Int))))) 65521) (af .i64 (aN+1))))
(some (Jj)))
def G.qj (f:Nat)(aA:aK):Option (Int):=match f with
|0=>none
|n+1=>(G.qj.L1 n aA 17 0)
def G.sN (f:Nat)(aA:StoreT)(fF:aK):Option (aK):=match f with
|0=>none
|n+1=>((G.oV n aA fF).bind λv1=>(cond (decide (v1<0))
(some ([]))
(chk (0<=v1/\v1<(aA.Items.length:Int))
((G.eX n ((aA.Items.getD v1.toNat default).Node)).bind λv2=>((G.qj n v2).bind λv3=>((G.zT n v3).bind λv4=>(some (v4))))))))
mutual
def G.mg.K4 (f:Nat)(aA:StoreT)(fF:aK)(v1:aj)(v2:StoreT)(aN:Int)(Zr:Bool)(z5:List bI):Option (StoreT):=match f with
|0=>none
|n+1=>(chk (0<=aN/\aN<(v2.Items.length:Int))
(cond ((v2.Items.getD aN.toNat default).Name==fF)
(G.mg.L3 n aA fF v1 v2 Zr (af .i64 (aN+1)) z5)
(chk (0<=aN/\aN<(v2.Items.length:Int))
(chk ((z5.length+1)*112<=2^46)
(G.mg.L3 n aA fF v1 v2 Zr (af .i64 (aN+1)) (z5++[(bI.mk ((v2.Items.getD aN.toNat default).Name) ((v2.Items.getD aN.toNat default).Version) ((v2.Items.getD aN.toNat default).Node))]))))))
def G.mg.L3 (f:Nat)(aA:StoreT)(fF:aK)(v1:aj)(v2:StoreT)(Zq:Bool)(aN:Int)(z4:List bI):Option (StoreT):=match f with
|0=>none
|n+1=>(cond (decide (aN<(v2.Items.length:Int)))
(cond Zq
(G.mg.K4 n aA fF v1 v2 aN true z4)
(chk (0<=aN/\aN<(v2.Items.length:Int))
(cond (iU ((v2.Items.getD aN.toNat default).Name) fF)
(G.mg.K4 n aA fF v1 v2 aN false z4)
(chk ((z4.length+1)*112<=2^46)
(G.mg.K4 n aA fF v1 v2 aN true (z4++[(bI.mk fF (af .i64 (aA.Clock+1)) v1)]))))))
(cond Zq
(some ((StoreT.mk z4 (af .i64 (aA.Clock+1)))))
(chk ((z4.length+1)*112<=2^46)
(some ((StoreT.mk (z4++[(bI.mk fF (af .i64 (aA.Clock+1)) v1)]) (af .i64 (aA.Clock+1))))))))
end
def G.mg (f:Nat)(aA:StoreT)(fF:aK)(ay:aj):Option (StoreT):=match f with
|0=>none
|n+1=>((G.aY n ay).bind λv1=>((G.fK n aA).bind λv2=>(G.mg.L3 n aA fF v1 v2 false 0 [])))
def G.iw.L1 (f:Nat)(aA:StoreT)(aN:Int):Option (Bool):=match f with
|0=>none
|n+1=>(cond (decide (aN<(aA.Items.length:Int)))
(chk (0<=aN/\aN<(aA.Items.length:Int))
((G.jc n ((aA.Items.getD aN.toNat default).Name)).bind λv7=>(cond v7
((G.fB n ((aA.Items.getD aN.toNat default).Node)).bind λv8=>(cond v8
((G.fZ n ((aA.Items.getD aN.toNat default).Version) 1 aA.Clock).bind λv9=>(cond v9
(cond (decide (0<aN))
(chk (0<=(af .i64 (aN-1))/\(af .i64 (aN-1))<(aA.Items.length:Int))
(cond (iU ((aA.Items.getD aN.toNat default).Name) ((aA.Items.getD (af .i64 (aN-1)).toNat default).Name))
(some (false))
(cond ((aA.Items.getD aN.toNat default).Name==(aA.Items.getD (af .i64 (aN-1)).toNat default).Name)
(some (false))
(G.iw.L1 n aA (af .i64 (aN+1))))))
(G.iw.L1 n aA (af .i64 (aN+1))))
(some (false))))
(some (false))))
(some (false)))))
(cond (decide ((aA.Items.length:Int)<=10))
((G.fZ n aA.Clock 0 999).bind λv10=>(some (v10)))
(some (false))))
def G.iw (f:Nat)(aA:StoreT):Option (Bool):=match f with
|0=>none
|n+1=>(G.iw.L1 n aA 0)
def G.lY.K1 (f:Nat)(aA:StoreT)(fF:aK)(ay:aj)(abh:Int):Option (StoreT×gI):=match f with
|0=>none
|n+1=>((G.mg n aA fF ay).bind λv2=>((G.iw n v2).bind λv3=>(cond v3
((G.sN n v2 fF).bind λv4=>(some (v2,(gI.mk abh v4 v2.Clock (aj.mk 0 0 [] [] [])))))
((G.fK n aA).bind λv5=>((G.oG n 422).bind λv6=>(some (v5,v6)))))))
def G.lY (f:Nat)(aA:StoreT)(fF:aK)(ay:aj):Option (StoreT×gI):=match f with
|0=>none
|n+1=>((G.oV n aA fF).bind λv7=>(cond (decide (v7<0))
(G.lY.K1 n aA fF ay 201)
(G.lY.K1 n aA fF ay 200)))
def G.kE.K1 (f:Nat)(aA:StoreT)(aU:RequestT)(Xl:Bool)(y1:Int)(y2:Int)(y3:aK)(y4:List aK)(y5:List aj):Option (StoreT×gI):=match f with
|0=>none
|n+1=>(cond Xl
((G.lY n aA aU.Name (aj.mk y1 y2 y3 y4 y5)).bind λv17=>(some (v17.1,v17.2)))
((G.fK n aA).bind λv18=>((G.oG n 422).bind λv19=>(some (v18,v19)))))
def G.kE.K2 (f:Nat)(aA:StoreT)(aU:RequestT)(ahg:Bool)(y6:Int)(y7:Int)(y8:aK)(y9:List aK)(LQ:List aj):Option (StoreT×gI):=match f with
|0=>none
|n+1=>(cond ahg
((G.lY n aA aU.Name (aj.mk y6 y7 y8 y9 LQ)).bind λv34=>(some (v34.1,v34.2)))
((G.fK n aA).bind λv35=>((G.oG n 422).bind λv36=>(some (v35,v36)))))
def G.kE (f:Nat)(aA:StoreT)(aU:RequestT):Option (StoreT×gI):=match f with
|0=>none
|n+1=>((G.oV n aA aU.Name).bind λv1=>(cond (decide (v1<0))
(cond (aU.Method != 2)
((G.fK n aA).bind λv2=>((G.oG n 404).bind λv3=>(some (v2,v3))))
((G.sN n aA aU.Name).bind λv4=>((G.vJ n aU.Want aU.oP v4 (aU.Method==1)).bind λv5=>(cond (v5 != 200)
((G.fK n aA).bind λv6=>((G.oG n v5).bind λv7=>(some (v6,v7))))
(cond (aU.Method==1)
((G.fK n aA).bind λv8=>((G.sN n aA aU.Name).bind λv9=>(chk (0<=v1/\v1<(aA.Items.length:Int))
(chk (0<=v1/\v1<(aA.Items.length:Int))
((G.aY n ((aA.Items.getD v1.toNat default).Node)).bind λv10=>(some (v8,(gI.mk v5 v9 ((aA.Items.getD v1.toNat default).Version) v10))))))))
(cond (aU.Method==2)
((G.lY n aA aU.Name aU.Body).bind λv11=>(some (v11.1,v11.2)))
(cond (aU.Method==3)
(cond (aA.Clock==999)
((G.fK n aA).bind λv12=>((G.oG n 422).bind λv13=>(some (v12,v13))))
((G.ry n aA aU.Name).bind λv14=>(some (v14,(gI.mk v5 [] (af .i64 (aA.Clock+1)) (aj.mk 0 0 [] [] []))))))
(chk (0<=v1/\v1<(aA.Items.length:Int))
((G.jH n ((aA.Items.getD v1.toNat default).Node) aU.Ops).bind λv15=>(cond (aU.Method==5)
(chk (0<=v1/\v1<(aA.Items.length:Int))
((G.qh n ((aA.Items.getD v1.toNat default).Node) aU.Body).bind λv20=>(G.kE.K1 n aA aU v20.2 v20.1.Kind v20.1.Num v20.1.Text v20.1.Names v20.1.Kids)))
(G.kE.K1 n aA aU v15.2 v15.1.Kind v15.1.Num v15.1.Text v15.1.Names v15.1.Kids)))))))))))
((G.sN n aA aU.Name).bind λv21=>((G.vJ n aU.Want aU.oP v21 (aU.Method==1)).bind λv22=>(cond (v22 != 200)
((G.fK n aA).bind λv23=>((G.oG n v22).bind λv24=>(some (v23,v24))))
(cond (aU.Method==1)
((G.fK n aA).bind λv25=>((G.sN n aA aU.Name).bind λv26=>(chk (0<=v1/\v1<(aA.Items.length:Int))
(chk (0<=v1/\v1<(aA.Items.length:Int))
((G.aY n ((aA.Items.getD v1.toNat default).Node)).bind λv27=>(some (v25,(gI.mk v22 v26 ((aA.Items.getD v1.toNat default).Version) v27))))))))
(cond (aU.Method==2)
((G.lY n aA aU.Name aU.Body).bind λv28=>(some (v28.1,v28.2)))
(cond (aU.Method==3)
(cond (aA.Clock==999)
((G.fK n aA).bind λv29=>((G.oG n 422).bind λv30=>(some (v29,v30))))
((G.ry n aA aU.Name).bind λv31=>(some (v31,(gI.mk v22 [] (af .i64 (aA.Clock+1)) (aj.mk 0 0 [] [] []))))))
(chk (0<=v1/\v1<(aA.Items.length:Int))
((G.jH n ((aA.Items.getD v1.toNat default).Node) aU.Ops).bind λv32=>(cond (aU.Method==5)
(chk (0<=v1/\v1<(aA.Items.length:Int))
((G.qh n ((aA.Items.getD v1.toNat default).Node) aU.Body).bind λv37=>(G.kE.K2 n aA aU v37.2 v37.1.Kind v37.1.Num v37.1.Text v37.1.Names v37.1.Kids)))
(G.kE.K2 n aA aU v32.2 v32.1.Kind v32.1.Num v32.1.Text v32.1.Names v32.1.Kids))))))))))))
def G.nU.K1 (f:Nat)(wG:wL)(aU:RequestT)(v1:StoreT×gI)(RZ:aK):Option (aK×wL):=match f with
|0=>none
|n+1=>(cond (aU.Method==1)
(cond (v1.2.Status==200)
(chk (RZ.length+1<=maxLen)
((G.eX n v1.2.Body).bind λv3=>(chk ((RZ.length+1)+v3.length<=maxLen)
(some (((RZ++[32])++v3),(wL.mk v1.1 wG.mark))))))
(some (RZ,(wL.mk v1.1 wG.mark))))
(some (RZ,(wL.mk v1.1 wG.mark))))
def G.nU (f:Nat)(wG:wL)(aU:RequestT):Option (aK×wL):=match f with
|0=>none
|n+1=>((G.kE n wG.store aU).bind λv1=>((G.kz n v1.2.Status).bind λv2=>(cond (v1.2.Tag==[])
(G.nU.K1 n wG aU v1 v2)
(chk (v2.length+1<=maxLen)
(chk ((v2.length+1)+v1.2.Tag.length<=maxLen)
(G.nU.K1 n wG aU v1 ((v2++[32])++v1.2.Tag)))))))
def G.lF.L1 (f:Nat)(wG:wL)(xq:aK)(aN:Int):Option (aK×wL):=match f with
|0=>none
|n+1=>(cond (decide (aN<(wG.store.Items.length:Int)))
(cond (decide (0<aN))
(chk (xq.length+1<=maxLen)
(chk (0<=aN/\aN<(wG.store.Items.length:Int))
(chk ((xq.length+1)+((wG.store.Items.getD aN.toNat default).Name).length<=maxLen)
(G.lF.L1 n wG ((xq++[32])++(wG.store.Items.getD aN.toNat default).Name) (af .i64 (aN+1))))))
(chk (0<=aN/\aN<(wG.store.Items.length:Int))
(chk (xq.length+((wG.store.Items.getD aN.toNat default).Name).length<=maxLen)
(G.lF.L1 n wG (xq++(wG.store.Items.getD aN.toNat default).Name) (af .i64 (aN+1))))))
(some (xq,wG)))
def G.lF (f:Nat)(wG:wL):Option (aK×wL):=match f with
|0=>none
|n+1=>(G.lF.L1 n wG [] 0)
def G.uA.L1 (f:Nat)(aA:StoreT)(Jj:Int)(aN:Int):Option (Int):=match f with
|0=>none
|n+1=>(cond (decide (aN<(aA.Items.length:Int)))
(chk (0<=aN/\aN<(aA.Items.length:Int))
(chk (0<=aN/\aN<(aA.Items.length:Int))
((G.eX n ((aA.Items.getD aN.toNat default).Node)).bind λv3=>(G.uA.L1 n aA (af .i64 ((af .i64 (Jj+(((aA.Items.getD aN.toNat default).Name).length:Int)))+(v3.length:Int))) (af .i64 (aN+1))))))
(some (Jj)))
def G.uA (f:Nat)(aA:StoreT):Option (Int):=match f with
|0=>none
|n+1=>(G.uA.L1 n aA 0 0)
def G.sK (f:Nat)(wG:wL)(xR:aK):Option (aK×wL):=match f with
|0=>none
|n+1=>(cond (xR==[108,105,115,116])
((G.lF n wG).bind λv1=>(some (v1.1,v1.2)))
(cond (xR==[99,108,111,99,107])
((G.kz n wG.store.Clock).bind λv2=>(some (v2,wG)))
(cond (xR==[115,105,122,101])
((G.uA n wG.store).bind λv3=>((G.kz n v3).bind λv4=>(some (v4,wG))))
(cond (xR==[107,101,101,112])
((G.fK n wG.store).bind λv5=>(some ([111,107],(wL.mk wG.store v5))))
(cond (xR==[98,97,99,107])
((G.fK n wG.mark).bind λv6=>(some ([111,107],(wL.mk v6 wG.mark))))
((G.fM n xR).bind λv7=>(cond v7.2
((G.nU n wG v7.1).bind λv8=>(some (v8.1,v8.2)))
(some ([119,104,97,116],wG)))))))))
def G.iq.L1 (f:Nat)(rZ:List aK)(xq:aK)(aN:Int)(y5:List bI)(y6:Int)(y7:List bI)(y8:Int):Option (aK):=match f with
|0=>none
|n+1=>(cond (decide (aN<(rZ.length:Int)))
(cond (decide (aN<20))
(chk (0<=aN/\aN<(rZ.length:Int))
((G.sK n (wL.mk (StoreT.mk y5 y6) (StoreT.mk y7 y8)) (rZ.getD aN.toNat default)).bind λv3=>(chk (xq.length+v3.1.length<=maxLen)
(chk ((xq.length+v3.1.length)+1<=maxLen)
(G.iq.L1 n rZ ((xq++v3.1)++[10]) (af .i64 (aN+1)) v3.2.store.Items v3.2.store.Clock v3.2.mark.Items v3.2.mark.Clock)))))
(some (xq)))
(some (xq)))
def G.iq (f:Nat)(rZ:List aK):Option (aK):=match f with
|0=>none
|n+1=>(G.iq.L1 n rZ [] 0 [] 0 [] 0)
section
theorem aW {a b:Prop}(x:a)(y:b):a/\b:=⟨x,y⟩
theorem acO {α β:Type}(f:α->β)(l:List α)(n:Nat):List.take n (List.map f l)=List.map f (List.take n l):=List.map_take.symm
theorem acN {α β:Type}(f:α->β)(l:List α)(n:Nat):List.drop n (List.map f l)=List.map f (List.drop n l):=List.map_drop.symm
theorem kq1 {i:Int}{m:Nat}[inst:Decidable (0<=i/\i<(m:Int))]{α:Type}{k:Option α}{r:α}(h:chk (0<=i/\i<(m:Int)) k=some r):(0<=i/\i<(m:Int))/\i.toNat<m/\k=some r:=by obtain⟨h1,h2⟩:=zK.1 h;exact⟨h1,by omega,h2⟩
inductive Mk : Nat->Prop
 |mk (n:Nat):Mk n
theorem kq0 {m:Nat}[inst:Decidable ((0:Nat)<=0/\(0:Int)<(m:Int))]{α:Type}{k:Option α}{r:α}(h:chk ((0:Nat)<=0/\(0:Int)<(m:Int)) k=some r):(0:Int)<(m:Int)/\0<m/\k=some r:=by obtain⟨h1,h2⟩:=zK.1 h;exact⟨h1.2,by omega,h2⟩
theorem kqn {j m:Nat}[inst:Decidable ((0:Nat)<=OfNat.ofNat j/\(OfNat.ofNat j:Int)<(m:Int))]{α:Type}{k:Option α}{r:α}(h:chk ((0:Nat)<=OfNat.ofNat j/\(OfNat.ofNat j:Int)<(m:Int)) k=some r):(OfNat.ofNat j:Int)<(m:Int)/\(OfNat.ofNat j:Nat)<m/\k=some r:=by obtain⟨h1,h2⟩:=zK.1 h;exact⟨h1.2,Int.ofNat_lt.1 h1.2,h2⟩
theorem kq {c:Prop}[Decidable c]{α:Type}{k:Option α}{r:α}(h:chk c k=some r):c/\k=some r:=zK.1 h
theorem bq {α β:Type}{x:Option α}{f:α->Option β}{r:β}(h:Option.bind x f=some r):∃a,x=some a/\f a=some r:=Option.bind_eq_some_iff.1 h
section
variable {P:Program} {Q:AQ} {st:iH}
theorem acw {f:FuncId}{wo:List AV}{p:Bool}{d:Option Nat}{K:List Nat->List Nat->iH->Prop}{du:DU K}(k:wF P f wo p d st K du):wF P f wo p d st K du:=k
theorem acy {a:AQ->iH->Prop}{d1:DU a}{d2:DU Q}(k:Iz a Q st d1 d2):Iz a Q st d1 d2:=k
theorem afs {a b:AQ->iH->Prop}{d1:DU a}{d2:DU b}{d3:DU Q}(k:L9 a b Q st d1 d2 d3):L9 a b Q st d1 d2 d3:=k
theorem ag2 {X:Type}{p:X->Prop}(k:∃x,p x):∃x,p x:=k
theorem afv {rs:List BL}{r:AV}(k:Po rs r st):Po rs r st:=k
theorem afw {rs:List BL}{m:Nat}{post:AV->List Box->Prop}(k:KH rs m post st):KH rs m post st:=k
end
theorem sq {α:Type}{x r:α}(h:some x=some r):r=x:=(Option.some.inj h).symm
theorem cq {b:Bool}{α:Type}{x y:Option α}{r:α}(h:cond b x y=some r):(b=true/\x=some r)\/(b=false/\y=some r):=ZW.1 h
def egD :=aW @abd (aW @adL (aW @abb (aW @adN (aW @adK (aW @aba (aW @YG (aW @aa9 (aW @adM (aW @aa8 (aW @aev (aW @aeu (aW @ZB (aW @ZA (aW @ZC (aW @Zy (aW @Zx (aW @Zz (aW @Xt (aW @Xr (aW @Xu (aW @aee (aW @aef (aW @aec (aW @aed (aW @YH (aW @Xh (aW @adO (aW @abf (aW @afG (aW @agE (aW @agD (aW @afI (aW @aeh (aW @abC (aW @ZE (aW @abB (aW @LK.eq_1 (aW @LK.eq_2 (aW @Eu.eq_1 (aW @Eu.eq_2 (aW @st0.eq_1 (aW @DR.eq_1 (aW @DR.eq_2 (aW @vI.eq_1 (aW @vI.eq_2 (aW @nM.valid.eq_1 (aW @nM.valid.eq_2 (aW @fA.eq_1 (aW @ahx (aW @ahw (aW @g_v (aW @x_v (aW @Jb (aW @FX (aW @agh (aW @aeT (aW @aeS (aW @Cj.eq_1 (aW @Cj.eq_2 (aW @tV.eq_1 (aW @tV.eq_2 (aW @Wv.eq_1 (aW @Wv.eq_2 (aW @setB.eq_1 (aW @setB.eq_2 (aW @aaK (aW @aaL (aW @aaV (aW @Yw (aW @FR.ok.eq_1 (aW @Pv.eq_1 (aW @Pv.eq_2 (aW @Pv.eq_3 (aW @AV.flat.eq_1 (aW @AV.flat.eq_2 (aW @AV.cells.eq_1 (aW @AV.cells.eq_2 (aW @AV.cells.eq_3 (aW @Ak.eq_1 (aW @Ak.eq_2 (aW @Ak.eq_3 (aW @Ak.eq_4 (aW @UY.eq_1 (aW @QI.eq_1 (aW @QI.eq_2 (aW @splice.eq_1 (aW @Box.arr.eq_1 (aW @Box.arr.eq_2 (aW @Box.arr.eq_3 (aW @dataOf.eq_1 (aW @dataOf.eq_2 (aW @dataOf.eq_3 (aW @dataOf.eq_4 (aW @Ja.eq_1 (aW @Ja.eq_2 (aW @bnd.eq_1 (aW @bnd.eq_2 (aW @O9.eq_1 (aW @O9.eq_2 (aW @acI (aW @acH (aW @IX.eq_1 (aW @xI.eq_1 (aW @yx.eq_1 (aW @vSl.eq_1 (aW @Dw.eq_1 (aW @Dw.eq_2 (aW @Dw.eq_3 (aW @FW.eq_1 (aW @FW.eq_2 (aW @FW.eq_3 (aW @zi.eq_1 (aW @zi.eq_2 (aW @zi.eq_3 (aW @Ac.eq_1 (aW @Ac.eq_2 (aW @Ac.eq_3 (aW @AV.owns.eq_1 (aW @AV.owns.eq_2 (aW @AV.owns.eq_3 (aW @pO.eq_1 (aW @pO.eq_2 (aW @pO.eq_3 (aW @AC.yf.eq_1 (aW @AC.yf.eq_2 (aW @AC.yf.eq_3 (aW @AC.isLit.eq_1 (aW @AC.isLit.eq_2 (aW @AV.all.eq_1 (aW @AV.all.eq_2 (aW @AV.all.eq_3 (aW @Cell.isLit.eq_1 (aW @Cell.isLit.eq_2 (aW @List.mem_cons.{0} (aW @List.not_mem_nil.{0} (aW @or_false (aW @false_or (aW @or_true (aW @true_or (aW @forall_eq.{1} (aW @forall_eq_or_imp.{1} (aW @true_and (aW @and_true (aW @true_implies (aW @false_implies (aW @implies_true.{1} (aW @if_true.{1} (aW @if_false.{1} (aW @Bool.false_eq_true (aW @Bool.true_eq_false (aW @imp_self (aW @and_self (aW @cond_true.{1} (aW @cond_false.{1} (aW @List.map_cons.{0,0} (aW @List.map_nil.{0,0} (aW @List.take_succ_cons.{0} (aW @List.take_zero.{0} (aW @List.drop_succ_cons.{0} (aW @List.drop_zero.{0} (aW @List.take_nil.{0} (aW @List.drop_nil.{0} (aW @List.cons_append.{0} (aW @List.nil_append.{0} (aW @List.append_nil.{0} (aW @List.length_cons.{0} (aW @List.length_nil.{0} (aW @List.getElem?_cons_zero.{0} (aW @List.getElem?_cons_succ.{0} (aW @List.length_map.{0,0} (aW @List.length_replicate.{0} (aW @List.length_append.{0} (aW @List.map_append.{0,0} (aW @List.flatMap_cons.{0,0} (aW @List.flatMap_nil.{0,0} (aW @List.all_cons.{0} (aW @List.all_nil.{0} (aW @List.contains_cons.{0} (aW @List.contains_nil.{0} (aW @Bool.and_true (aW @Bool.or_false (aW @Bool.false_or (aW @Bool.true_or (aW @Bool.or_true (aW @Bool.and_self (aW @Bool.not_false (aW @Bool.not_true (aW @Bool.true_and (aW @Bool.false_and (aW @Bool.and_false (aW @Nat.zero_lt_succ (aW @Nat.zero_le (aW @Nat.zero_add (aW @Nat.le_refl (aW @Nat.min_self (aW @aht (aW @ahs (aW @decide_true (aW @decide_false (aW @VH.eq_1 (aW @VH.eq_2 (aW @Vb.eq_1 (aW @Vb.eq_2 (aW @Su.eq_1 (aW @Su.eq_2 (aW @Su.eq_3 (aW @MH.eq_1 (aW @MH.eq_2 (aW @IE.eq_1 (aW @IE.eq_2 (aW @Na.eq_1 (aW @Na.eq_2 (aW @UW.eq_1 (aW @Et.eq_1 (aW @Et.eq_2 (aW @Et.eq_3 (aW @cI.eq_1 (aW @cU.eq_1 (aW @cB.eq_1 (aW @cS.eq_1 (aW @cL.eq_1 (aW @cK.eq_1 (aW @aj.dZ (aW @oz.dZ (aW @StoreT.dZ (aW @bI.dZ (aW @RequestT.dZ (aW @gI.dZ (aW @Az.dZ (aW @bn.dZ (aW @mM.dZ (aW @ReaderT.dZ (aW @dM.dZ (aW @wL.dZ (aW @List.getD_cons_zero.{0} (aW @List.getD_cons_succ.{0} (aW @List.map_set.{0,0} (aW @List.length_set.{0} (aW @aad (aW @take_len (aW @Kw (aW @Ky (aW @Y8 (aW @QO.eq_1 (aW @QO.eq_2 (aW @ab4 (aW @He.eq_1 (aW @He.eq_2 (aW @XF (aW @Bz (aW @VL (aW @VM (aW @Option.map_some.{0,0} (aW @Int.toNat_natCast (aW @Int.toNat_zero (aW @acO (aW @acN (aW @bne_self_eq_false.{0} (aW @Bool.bne_true (aW @Bool.bne_false (aW @List.drop_replicate.{0} (aW @Nat.sub_self (aW @G8.eq_1 (aW @G8.eq_2 (aW @G8.eq_3 (aW @Option.toList_none.{0} (aW @Option.toList_some.{0} (aW @UD.eq_1 (aW @vS.eq_1 (aW @vS.eq_2 (aW @BB.eq_1 (aW @BB.eq_2 (aW @eq_self.{1} (aW @List.replicate_zero.{0} (aW @List.replicate_succ.{0} (aW @MO.eq_1 (aW @MO.eq_2 (aW @zL.eq_1 (aW @zL.eq_2 (aW @List.set_cons_zero.{0} (aW @List.set_cons_succ.{0} (aW @afT (aW @D6.eq_1 (aW @D6.eq_2 (aW @Es.eq_1 (aW @Es.eq_2 (aW @Es.eq_3 (aW @List.zip_cons_cons.{0,0} (aW @List.zip_nil_right.{0,0} (aW @List.zip_nil_left.{0,0} (aW @beq_self_eq_true.{0} @Nat.add_zero)))))))))))))))))))))))))))))))))))))))))))))))))))))))))))))))))))))))))))))))))))))))))))))))))))))))))))))))))))))))))))))))))))))))))))))))))))))))))))))))))))))))))))))))))))))))))))))))))))))))))))))))))))))))))))))))))))))))))))))))))))))))))))))))))))))))))))))))))))))))))))))))))))
theorem egR : type_of% egD:=egD
def wkD :=aW @RS.eq_1 (aW @RS.eq_2 (aW @Xf.eq_1 (aW @Xf.eq_2 (aW @SQ.eq_1 (aW @SQ.eq_2 (aW @SQ.eq_3 (aW @Zo.eq_1 (aW @Zo.eq_2 (aW @Zo.eq_3 (aW @Zo.eq_4 (aW @LM.eq_1 (aW @LM.eq_2 (aW @LM.eq_3 (aW @Sl.eq_1 (aW @Sl.eq_2 (aW @Cj.eq_1 (aW @Cj.eq_2 (aW @tV.eq_1 (aW @tV.eq_2 (aW @true_and (aW @and_true (aW @implies_true.{1} (aW @List.mem_cons.{0} (aW @List.not_mem_nil.{0} (aW @or_false (aW @or_true (aW @true_or (aW @Box.arr.eq_1 (aW @Box.arr.eq_2 (aW @Box.arr.eq_3 (aW @IX.eq_1 (aW @xI.eq_1 (aW @yx.eq_1 (aW @vSl.eq_1 (aW @not_false_eq_true (aW @false_or (aW @Option.some.injEq.{0} (aW @true_implies (aW @cI.eq_1 (aW @cU.eq_1 (aW @cB.eq_1 (aW @cS.eq_1 (aW @cL.eq_1 (aW @cK.eq_1 (aW @aj.dZ (aW @oz.dZ (aW @StoreT.dZ (aW @bI.dZ (aW @RequestT.dZ (aW @gI.dZ (aW @Az.dZ (aW @bn.dZ (aW @mM.dZ (aW @ReaderT.dZ (aW @dM.dZ (aW @wL.dZ (aW @List.map_append.{0,0} (aW @List.map_cons.{0,0} (aW @List.map_nil.{0,0} (aW @List.map_set.{0,0} (aW @List.map_take.{0,0} (aW @List.map_drop.{0,0} (aW @List.map_replicate.{0,0} (aW @List.length_append.{0} (aW @List.length_cons.{0} (aW @List.length_nil.{0} (aW @List.length_map.{0,0} (aW @List.length_set.{0} (aW @List.length_replicate.{0} (aW @Nat.zero_add (aW @Nat.add_zero (aW @List.nil_append.{0} (aW @List.cons_append.{0} (aW @List.append_nil.{0} (aW @take_len (aW @Kw (aW @Ky @and_self)))))))))))))))))))))))))))))))))))))))))))))))))))))))))))))))))))))))))))))
theorem wkR : type_of% wkD:=wkD
def peD :=aW @Po.eq_1 (aW @Gy.eq_1 (aW @Gy.eq_2 (aW @BL.ok.eq_1 (aW @BL.ok.eq_2 (aW @BL.val.eq_1 (aW @BL.val.eq_2 (aW @SE.eq_1 (aW @SE.eq_2 (aW @AO.eq_1 (aW @AO.eq_2 (aW @partOf.eq_1 (aW @partOf.eq_2 (aW @partOf.eq_3 (aW @Jb (aW @FX (aW @Lu (aW @g_v (aW @x_v (aW @AV.flat.eq_1 (aW @AV.flat.eq_2 (aW @Ak.eq_1 (aW @Ak.eq_2 (aW @Ak.eq_3 (aW @Ak.eq_4 (aW @Cj.eq_1 (aW @Cj.eq_2 (aW @tV.eq_1 (aW @tV.eq_2 (aW @dV.eq_1 (aW @dV.eq_2 (aW @dV.eq_3 (aW @dV.eq_4 (aW @dC.eq_1 (aW @dC.eq_2 (aW @dC.eq_3 (aW @dC.eq_4 (aW @dCs.eq_1 (aW @dCs.eq_2 (aW @dCs.eq_3 (aW @dPs.eq_1 (aW @dPs.eq_2 (aW @dPs.eq_3 (aW @Box.arr.eq_1 (aW @Box.arr.eq_2 (aW @Box.arr.eq_3 (aW @List.take_succ_cons.{0} (aW @List.take_zero.{0} (aW @List.drop_zero.{0} (aW @List.drop_succ_cons.{0} (aW @List.length_cons.{0} (aW @List.length_nil.{0} (aW @List.getElem?_cons_zero.{0} (aW @List.getElem?_cons_succ.{0} (aW @true_and (aW @and_true (aW @Nat.zero_add (aW @xI.eq_1 (aW @yx.eq_1 (aW @IX.eq_1 (aW @vSl.eq_1 (aW @FR.ok.eq_1 (aW @cI.eq_1 (aW @cU.eq_1 (aW @cB.eq_1 (aW @cS.eq_1 (aW @cL.eq_1 (aW @cK.eq_1 (aW @aj.dZ (aW @oz.dZ (aW @StoreT.dZ (aW @bI.dZ (aW @RequestT.dZ (aW @gI.dZ (aW @Az.dZ (aW @bn.dZ (aW @mM.dZ (aW @ReaderT.dZ (aW @dM.dZ (aW @wL.dZ (aW @List.map_append.{0,0} (aW @List.map_cons.{0,0} (aW @List.map_nil.{0,0} (aW @List.map_set.{0,0} (aW @List.map_take.{0,0} (aW @List.map_drop.{0,0} (aW @List.map_replicate.{0,0} (aW @List.length_append.{0} (aW @List.length_map.{0,0} (aW @List.length_set.{0} (aW @List.length_replicate.{0} (aW @Nat.add_zero (aW @List.nil_append.{0} (aW @List.cons_append.{0} (aW @List.append_nil.{0} (aW @take_len (aW @Kw (aW @Ky (aW @and_self @Bz))))))))))))))))))))))))))))))))))))))))))))))))))))))))))))))))))))))))))))))))))))))))))))))))))
theorem peR : type_of% peD:=peD
def rwD :=aW @RS.eq_1 (aW @RS.eq_2 (aW @Xf.eq_1 (aW @Xf.eq_2 (aW @SQ.eq_1 (aW @SQ.eq_2 (aW @SQ.eq_3 (aW @Zo.eq_1 (aW @Zo.eq_2 (aW @Zo.eq_3 (aW @Zo.eq_4 (aW @LM.eq_1 (aW @LM.eq_2 (aW @LM.eq_3 (aW @Sl.eq_1 (aW @Sl.eq_2 (aW @Cj.eq_1 (aW @Cj.eq_2 (aW @tV.eq_1 (aW @tV.eq_2 (aW @true_and (aW @and_true (aW @implies_true.{1} (aW @List.mem_cons.{0} (aW @List.not_mem_nil.{0} (aW @or_false (aW @or_true (aW @true_or (aW @Box.arr.eq_1 (aW @Box.arr.eq_2 (aW @Box.arr.eq_3 (aW @IX.eq_1 (aW @xI.eq_1 (aW @yx.eq_1 (aW @vSl.eq_1 (aW @not_false_eq_true (aW @false_or (aW @Option.some.injEq.{0} (aW @true_implies (aW @cI.eq_1 (aW @cU.eq_1 (aW @cB.eq_1 (aW @cS.eq_1 (aW @cL.eq_1 (aW @cK.eq_1 (aW @aj.dZ (aW @oz.dZ (aW @StoreT.dZ (aW @bI.dZ (aW @RequestT.dZ (aW @gI.dZ (aW @Az.dZ (aW @bn.dZ (aW @mM.dZ (aW @ReaderT.dZ (aW @dM.dZ (aW @wL.dZ (aW @List.map_append.{0,0} (aW @List.map_cons.{0,0} (aW @List.map_nil.{0,0} (aW @List.map_set.{0,0} (aW @List.map_take.{0,0} (aW @List.map_drop.{0,0} (aW @List.map_replicate.{0,0} (aW @List.length_append.{0} (aW @List.length_cons.{0} (aW @List.length_nil.{0} (aW @List.length_map.{0,0} (aW @List.length_set.{0} (aW @List.length_replicate.{0} (aW @Nat.zero_add (aW @Nat.add_zero (aW @List.nil_append.{0} (aW @List.cons_append.{0} (aW @List.append_nil.{0} (aW @take_len (aW @Kw (aW @Ky (aW @and_self (aW @Eu.eq_1 (aW @Eu.eq_2 (aW @SN.eq_1 (aW @SN.eq_2 (aW @SN.eq_3 (aW @Po.eq_1 (aW @Gy.eq_1 (aW @Gy.eq_2 (aW @BL.ok.eq_1 (aW @BL.ok.eq_2 (aW @BL.val.eq_1 (aW @BL.val.eq_2 (aW @SE.eq_1 (aW @SE.eq_2 (aW @AO.eq_1 (aW @AO.eq_2 (aW @partOf.eq_1 (aW @partOf.eq_2 (aW @partOf.eq_3 (aW @Jb (aW @FX (aW @Lu (aW @g_v (aW @x_v (aW @AV.flat.eq_1 (aW @AV.flat.eq_2 (aW @Ak.eq_1 (aW @Ak.eq_2 (aW @Ak.eq_3 (aW @Ak.eq_4 (aW @dV.eq_1 (aW @dV.eq_2 (aW @dV.eq_3 (aW @dV.eq_4 (aW @dC.eq_1 (aW @dC.eq_2 (aW @dC.eq_3 (aW @dC.eq_4 (aW @dCs.eq_1 (aW @dCs.eq_2 (aW @dCs.eq_3 (aW @dPs.eq_1 (aW @dPs.eq_2 (aW @dPs.eq_3 (aW @List.take_succ_cons.{0} (aW @List.take_zero.{0} (aW @List.drop_zero.{0} (aW @List.drop_succ_cons.{0} (aW @List.getElem?_cons_zero.{0} (aW @List.getElem?_cons_succ.{0} (aW @FR.ok.eq_1 @Bz)))))))))))))))))))))))))))))))))))))))))))))))))))))))))))))))))))))))))))))))))))))))))))))))))))))))))))))))))))))))))))))))))
theorem rwR : type_of% rwD:=rwD
def lnD :=aW @Dw.eq_1 (aW @Dw.eq_2 (aW @Dw.eq_3 (aW @FW.eq_1 (aW @FW.eq_2 (aW @FW.eq_3 (aW @zi.eq_1 (aW @zi.eq_2 (aW @zi.eq_3 (aW @Ac.eq_1 (aW @Ac.eq_2 (aW @Ac.eq_3 (aW @FX (aW @tV.eq_1 (aW @tV.eq_2 (aW @Box.arr.eq_1 (aW @Box.arr.eq_2 (aW @Box.arr.eq_3 (aW @AV.cells.eq_1 (aW @AV.cells.eq_2 (aW @AV.cells.eq_3 (aW @List.map_cons.{0,0} (aW @List.map_nil.{0,0} (aW @List.length_map.{0,0} (aW @List.length_append.{0} (aW @List.length_cons.{0} (aW @List.length_nil.{0} (aW @List.length_replicate.{0} (aW @List.length_set.{0} (aW @take_len (aW @Kw (aW @Ky (aW @true_and (aW @and_true (aW @and_self (aW @Nat.le_refl (aW @Nat.zero_add (aW @Nat.add_zero (aW @xI.eq_1 (aW @yx.eq_1 (aW @IX.eq_1 (aW @vSl.eq_1 (aW @cI.eq_1 (aW @cU.eq_1 (aW @cB.eq_1 (aW @cS.eq_1 (aW @cL.eq_1 (aW @cK.eq_1 (aW @List.map_append.{0,0} (aW @List.cons_append.{0} (aW @List.nil_append.{0} (aW @aj.dZ (aW @oz.dZ (aW @StoreT.dZ (aW @bI.dZ (aW @RequestT.dZ (aW @gI.dZ (aW @Az.dZ (aW @bn.dZ (aW @mM.dZ (aW @ReaderT.dZ (aW @dM.dZ @wL.dZ)))))))))))))))))))))))))))))))))))))))))))))))))))))))))))))
theorem lnR : type_of% lnD:=lnD
def ggD :=aW @SI.eq_1 (aW @SI.eq_2 (aW @SB.eq_1 (aW @SB.eq_2 (aW @FX (aW @tV.eq_1 (aW @tV.eq_2 (aW @D6.eq_1 (aW @D6.eq_2 (aW @List.getD_cons_zero.{0} (aW @List.getD_cons_succ.{0} (aW @List.cons_append.{0} (aW @List.nil_append.{0} (aW @List.append_nil.{0} (aW @List.map_cons.{0,0} (aW @List.map_nil.{0,0} (aW @List.map_append.{0,0} (aW @List.map_set.{0,0} (aW @List.length_append.{0} (aW @List.length_cons.{0} (aW @List.length_nil.{0} (aW @List.length_map.{0,0} (aW @List.length_set.{0} (aW @List.length_replicate.{0} (aW @List.replicate_zero.{0} (aW @List.replicate_succ.{0} (aW @List.map_replicate.{0,0} (aW @Nat.zero_add (aW @Nat.add_zero (aW @Es.eq_1 (aW @Es.eq_2 (aW @Es.eq_3 (aW @and_self (aW @and_true (aW @true_and (aW @cI.eq_1 (aW @cU.eq_1 (aW @cB.eq_1 (aW @cS.eq_1 (aW @cL.eq_1 (aW @cK.eq_1 (aW @aj.dZ (aW @oz.dZ (aW @StoreT.dZ (aW @bI.dZ (aW @RequestT.dZ (aW @gI.dZ (aW @Az.dZ (aW @bn.dZ (aW @mM.dZ (aW @ReaderT.dZ (aW @dM.dZ @wL.dZ)))))))))))))))))))))))))))))))))))))))))))))))))))
theorem ggR : type_of% ggD:=ggD
def ghD :=aW @SI.eq_1 (aW @SI.eq_2 (aW @SB.eq_1 (aW @SB.eq_2 (aW @FX (aW @tV.eq_1 (aW @tV.eq_2 (aW @D6.eq_1 (aW @D6.eq_2 (aW @List.getD_cons_zero.{0} (aW @List.getD_cons_succ.{0} (aW @List.cons_append.{0} (aW @List.nil_append.{0} (aW @List.append_nil.{0} (aW @List.map_cons.{0,0} (aW @List.map_nil.{0,0} (aW @List.map_append.{0,0} (aW @List.map_set.{0,0} (aW @List.length_append.{0} (aW @List.length_cons.{0} (aW @List.length_nil.{0} (aW @List.length_map.{0,0} (aW @List.length_set.{0} (aW @List.length_replicate.{0} (aW @List.replicate_zero.{0} (aW @List.replicate_succ.{0} (aW @List.map_replicate.{0,0} (aW @Nat.zero_add (aW @Nat.add_zero (aW @Es.eq_1 (aW @Es.eq_2 (aW @Es.eq_3 (aW @and_self (aW @and_true (aW @true_and (aW @cI.eq_1 (aW @cU.eq_1 (aW @cB.eq_1 (aW @cS.eq_1 (aW @cL.eq_1 (aW @cK.eq_1 (aW @aj.dZ (aW @oz.dZ (aW @StoreT.dZ (aW @bI.dZ (aW @RequestT.dZ (aW @gI.dZ (aW @Az.dZ (aW @bn.dZ (aW @mM.dZ (aW @ReaderT.dZ (aW @dM.dZ (aW @wL.dZ (aW @Y8 (aW @QO.eq_1 (aW @QO.eq_2 (aW @He.eq_1 (aW @He.eq_2 (aW @List.flatMap_cons.{0,0} (aW @List.flatMap_nil.{0,0} (aW @AV.owns.eq_1 (aW @AV.owns.eq_2 (aW @AV.owns.eq_3 (aW @pO.eq_1 (aW @pO.eq_2 (aW @pO.eq_3 (aW @List.contains_cons.{0} (aW @List.contains_nil.{0} (aW @Bool.or_false (aW @Bool.or_true (aW @Bool.false_or (aW @if_true.{1} (aW @if_false.{1} (aW @Bool.false_eq_true (aW @Dw.eq_1 (aW @Dw.eq_2 (aW @Dw.eq_3 (aW @FW.eq_1 (aW @FW.eq_2 (aW @FW.eq_3 (aW @zi.eq_1 (aW @zi.eq_2 (aW @zi.eq_3 (aW @Ac.eq_1 (aW @Ac.eq_2 (aW @Ac.eq_3 (aW @Box.arr.eq_1 (aW @Box.arr.eq_2 (aW @Box.arr.eq_3 (aW @AV.cells.eq_1 (aW @AV.cells.eq_2 (aW @AV.cells.eq_3 (aW @Nat.le_refl (aW @take_len (aW @Kw (aW @Ky (aW @xI.eq_1 (aW @yx.eq_1 (aW @IX.eq_1 @vSl.eq_1))))))))))))))))))))))))))))))))))))))))))))))))))))))))))))))))))))))))))))))))))))))))))))))))))
theorem ghR : type_of% ghD:=ghD
end
section
abbrev zN : List AC:=[.c (.lit (.int .i64 0)),.c (.lit (.int .i64 0)),.c (.str []),.jI 1,.jI 5]
abbrev wI (z:Int):AC:=.c (.lit (.int .i64 z))
abbrev wS (s:aK):AC:=.c (.str s)
abbrev wT (l:List aK):AC:=.c (.sl 1 (List.map cS l))
abbrev wK (l:List aj):AC:=.c (.sl 5 (List.map aj.cells l))
abbrev wN (x:aj):List AC:=[wI x.Kind,wI x.Num,wS x.Text,wT x.Names,wK x.Kids]
abbrev eP (a b:Nat):Nat×Slot:=(a,.v true (.one (.ptr b 0)))
abbrev eI (a:Nat)(z:Int):Nat×Slot:=(a,.v true (.one (wI z)))
abbrev eS (a:Nat)(z:aK):Nat×Slot:=(a,.v true (.one (wS z)))
abbrev eT (a:Nat)(z:List aK):Nat×Slot:=(a,.v true (.one (wT z)))
def pp {α:Sort _}{β:Sort _}(a:α)(b:β):PProd α β:=⟨a,b⟩
theorem ihL {n:Nat}{A B:Nat->Prop}(h:∀m,m<n->A m/\B m):∀m,m<n->A m:=λm hm=>(h m hm).1
theorem ihR {n:Nat}{A B:Nat->Prop}(h:∀m,m<n->A m/\B m):∀m,m<n->B m:=λm hm=>(h m hm).2
theorem dO (zs:List Nat)(pi:List (Nat×Nat))(vs:List Nat){m:Nat}{ts0 ts:List (Nat×Slot)}{Gl bs:List (Nat×Box)}(hk:OD m Gl bs pi vs=true)
 (hb:RS zs (tV Gl) (Sl pi) vs bs) (ht:Xf zs (tV Gl) (Sl pi) vs ts0 ts):KA m (iH.of ts0 Gl) (iH.of ts bs):=ae8 zs pi vs hk hb ht
theorem xX (zs:List Nat)(pi:List (Nat×Nat))(vs:List Nat){rs:List BL}{ts:List (Nat×Slot)}{Gl:List (Nat×Box)}{m:Nat}{r:AV}{bs:List Box}(hk:OD m Gl (Eu bs 0) pi vs=true)
 (hok:Gy (iH.of ts Gl) rs) (hb:RS zs (tV Gl) (Sl pi) vs (Eu bs 0)) (hv:Zo zs (tV Gl) (Sl pi) vs (SE (iH.of ts Gl) rs) r) :
 KH rs m (λr1 b1=>r1=r/\b1=bs) (iH.of ts Gl):=OQ zs pi vs hk hok hb hv
section
variable {P:Program} {f:FuncId} {wo:List AV} {d:Option Nat} {st:iH} {K:List Nat->List Nat->iH->Prop} {du:DU K} {Q:AQ}
theorem cG (sg nu:List Nat){P:Program}{f:FuncId}{wo:List AV}{d:Option Nat}{st:iH}{K:List Nat->List Nat->iH->Prop}{du:DU K}{ds:List AV}{fp Gl:List Box}{r0:AV}(h:kV P f ds fp (λr bs=>r=r0/\bs=Gl))(hl:sg.length=fp.length)(hn:nodupB (sg++nu)=true)(hf:SI st (sg++nu) fp 0)(hv:SB st nu)
 (hra:(ds.all λx=>x.all (AC.wH fp.length))=true) (hrf:fp.all (Box.wH fp.length)=true) (ha:wo=ds.map (Es λb=>(sg++nu).getD b 0)) (hb:Gl.length=(sg++nu).length)
 (k:K (sg++nu) (sg++nu) ((st.um ((sg++nu).zip (Gl.map (D6 λb=>(sg++nu).getD b 0)))).AL d (.v true (Es (λb=>(sg++nu).getD b 0) r0)))):wF P f wo true d st K du:=agH sg nu h hl hn hf hv hra hrf ha hb k
theorem cH (sg nu:List Nat){P:Program}{f:FuncId}{wo:List AV}{d:Option Nat}{st:iH}{K:List Nat->List Nat->iH->Prop}{du:DU K}{ds:List AV}{fp Gl:List Box}{r0:AV}(h:kV P f ds fp (λr bs=>r=r0/\bs=Gl))(he:wo.map (Dw st.bx)=ds.map (Es λb=>(sg++nu).getD b 0))(hlo:zi st.bx wo)
 (hl:sg.length=fp.length) (hn:nodupB (sg++nu)=true) (hf:SI (st.FV (wo.flatMap AV.owns)) (sg++nu) fp 0) (hv:SB st nu)
 (hra:(ds.all λx=>x.all (AC.wH fp.length))=true) (hrf:fp.all (Box.wH fp.length)=true) (hb:Gl.length=(sg++nu).length)
 (k:K (wo.flatMap AV.owns++(sg++nu)) (wo.flatMap AV.owns++(sg++nu)) (((st.FV (wo.flatMap AV.owns)).um ((sg++nu).zip (Gl.map (D6 λb=>(sg++nu).getD b 0)))).AL d (.v true (Es (λb=>(sg++nu).getD b 0) r0)))):wF P f wo true d st K du:=agI sg nu h he hlo hl hn hf hv hra hrf hb k
theorem zZ (X:Type)(R:Type)(g:Nat->X->Option R)(r:R)(S:X->iH)(N:Nat){P:Program}{st:iH}{Q:AQ}{a b:bZ}{d1:DU (wpC P a)}{d2:DU (wpC P b)}{d3:DU Q}
 (h1:CE P a (x8.then (λst'=>∃x m,(g m x=some r/\m<=N)/\KA 10 st' (S x)) Q) st .mk .mk) (h2:∀n x,n<=N->g n x=some r->CE P b Q (S x) .mk .mk):L9 (wpC P a) (wpC P b) Q st d1 d2 d3:=by
 refine ahv (X:=X×Nat) (λp=>g p.2 p.1=some r/\p.2<=N) (λp=>S p.1) (wpC_mono (λe st h=>?_) h1) (λp hp=>h2 p.2 p.1 hp.2 hp.1);cases e with
 |normal=>obtain⟨x,m,h,hw⟩:=h;exact⟨(x,m),h,hw⟩
 |_=>exact h
theorem su (X:Type)(R:Type)(g:Nat->X->Option R)(r:R)(S:X->iH)(N:Nat){P:Program}{st:iH}{Q:AQ}{a:bZ}{d1:DU (wpC P a)}{d2:DU Q}(h0:∃x m,(g m x=some r/\m<=N)/\KA 10 st (S x))
 (h:∀n x,n<=N->g n x=some r->CE P a (x8.then (λst'=>∃x' m,(g m x'=some r/\m<=N/\m<n)/\KA 10 st' (S x')) Q) (S x) .mk .mk):Iz (wpC P a) Q st d1 d2:=by
 obtain⟨x,m,h0,hw⟩:=h0;refine ag5 (X:=X×Nat) (λp=>g p.2 p.1=some r/\p.2<=N) (λp=>S p.1) (λp=>p.2) (x,m) h0 hw (λp hp=>wpC_mono (λe st h=>?_) (h p.2 p.1 hp.2 hp.1));cases e with
 |normal=>obtain⟨x,m,h,hw⟩:=h;exact⟨(x,m),⟨⟨h.1,h.2.1⟩,h.2.2⟩,hw⟩
 |_=>exact h
end
theorem N8 {p:Prop}(x:p:=by simp -dsimp only[wkR,Xc,Jk,reduceIte,Nat.reduceEqDiff,reduceCtorEq]<;>simp[List.take_of_length_le]<;>fail):p:=x
theorem tPE {p:Prop}(x:p:=by(simp -dsimp only[peR,reduceIte,Nat.reduceEqDiff,Nat.reduceAdd,Nat.reduceLeDiff,reduceCtorEq]<;>first|(simp[List.take_of_length_le];done)|((try simp only[List.map_take,List.map_drop,List.map_append,List.map_cons,List.map_nil])<;>(repeat' apply And.intro)<;>first|rfl|(simp;done)|(simp<;>omega;done)|(congr 1;exact(List.take_of_length_le (by simp<;>omega)).symm)))):p:=x
theorem tRE {p:Prop}(x:p:=by(simp -dsimp only[rwR,Xc,Jk,reduceIte,Nat.reduceEqDiff,reduceCtorEq,Nat.reduceAdd,Nat.reduceLeDiff]<;>first|(simp[List.take_of_length_le];done)|((try simp only[List.map_take,List.map_drop,List.map_append,List.map_cons,List.map_nil])<;>(repeat' apply And.intro)<;>first|rfl|(simp;done)|(simp<;>omega;done)|(congr 1;exact(List.take_of_length_le (by simp<;>omega)).symm)))):p:=x
theorem tLN {p:Prop}(x:p:=by(simp only[lnR,reduceIte,Nat.reduceEqDiff]<;>omega)):p:=x
theorem tGG {p:Prop}(x:p:=by(simp only[ggR,Fz,reduceIte,Nat.reduceEqDiff,Nat.reduceLeDiff,Nat.reduceAdd]<;>omega)):p:=x
theorem tGR {p:Prop}(x:p:=by first|rfl|(simp only[ggR,Fz,reduceIte,Nat.reduceEqDiff,Nat.reduceLeDiff,Nat.reduceAdd]<;>omega)):p:=x
theorem tGH {p:Prop}(x:p:=by(simp only[ghR,Fz,reduceIte,Nat.reduceEqDiff,Nat.reduceLeDiff,Nat.reduceAdd,Nat.reduceBEq]<;>omega)):p:=x
theorem NS {p:Prop}(x:p:=by((try simp only[Prod.exists]);(first|refine⟨_,_,⟨h,?_⟩,?_⟩|refine⟨_,_,_,⟨h,?_⟩,?_⟩|refine⟨_,_,_,_,⟨h,?_⟩,?_⟩|refine⟨_,_,_,_,_,⟨h,?_⟩,?_⟩|refine⟨_,_,_,_,_,_,⟨h,?_⟩,?_⟩|refine⟨_,_,_,_,_,_,_,⟨h,?_⟩,?_⟩|refine⟨_,_,_,_,_,_,_,_,⟨h,?_⟩,?_⟩|refine⟨_,_,_,_,_,_,_,_,_,⟨h,?_⟩,?_⟩|refine⟨_,_,_,_,_,_,_,_,_,_,⟨h,?_⟩,?_⟩|refine⟨_,_,_,_,_,_,_,_,_,_,_,⟨h,?_⟩,?_⟩|refine⟨_,_,_,_,_,_,_,_,_,_,_,_,⟨h,?_⟩,?_⟩|refine⟨_,_,_,_,_,_,_,_,_,_,_,_,_,⟨h,?_⟩,?_⟩|refine⟨_,_,_,_,_,_,_,_,_,_,_,_,_,_,⟨h,?_⟩,?_⟩|refine⟨_,_,_,_,_,_,_,_,_,_,_,_,_,_,_,⟨h,?_⟩,?_⟩|refine⟨_,_,_,_,_,_,_,_,_,_,_,_,_,_,_,_,⟨h,?_⟩,?_⟩|refine⟨_,_,_,_,_,_,_,_,_,_,_,_,_,_,_,_,_,⟨h,?_⟩,?_⟩|refine⟨_,_,_,_,_,_,_,_,_,_,_,_,_,_,_,_,_,_,⟨h,?_⟩,?_⟩|refine⟨_,_,_,_,_,_,_,_,_,_,_,_,_,_,_,_,_,_,_,⟨h,?_⟩,?_⟩|refine⟨_,_,_,_,_,_,_,_,_,_,_,_,_,_,_,_,_,_,_,_,⟨h,?_⟩,?_⟩|refine⟨_,_,_,_,_,_,_,_,_,_,_,_,_,_,_,_,_,_,_,_,_,⟨h,?_⟩,?_⟩|refine⟨_,_,_,_,_,_,_,_,_,_,_,_,_,_,_,_,_,_,_,_,_,_,⟨h,?_⟩,?_⟩|refine⟨_,_,_,_,_,_,_,_,_,_,_,_,_,_,_,_,_,_,_,_,_,_,_,⟨h,?_⟩,?_⟩|refine⟨_,_,_,_,_,_,_,_,_,_,_,_,_,_,_,_,_,_,_,_,_,_,_,_,⟨h,?_⟩,?_⟩|refine⟨(),_,⟨h,?_⟩,?_⟩);(focus omega);first|exact zj.1 (by rfl) N8 N8|exact zj.2.1 (by rfl) N8 N8|exact zj.2.2.1 (by rfl) N8 N8|exact zj.2.2.2.1 (by rfl) N8 N8|exact zj.2.2.2.2.1 (by rfl) N8 N8|exact zj.2.2.2.2.2.1 (by rfl) N8 N8|exact zj.2.2.2.2.2.2.1 (by rfl) N8 N8|exact zj.2.2.2.2.2.2.2.1 (by rfl) N8 N8|exact zj.2.2.2.2.2.2.2.2.1 (by rfl) N8 N8|exact zj.2.2.2.2.2.2.2.2.2.1 (by rfl) N8 N8|exact zj.2.2.2.2.2.2.2.2.2.2.1 (by rfl) N8 N8|exact zj.2.2.2.2.2.2.2.2.2.2.2.1 (by rfl) N8 N8|exact zj.2.2.2.2.2.2.2.2.2.2.2.2.1 (by rfl) N8 N8|exact zj.2.2.2.2.2.2.2.2.2.2.2.2.2.1 (by rfl) N8 N8)):p:=x
theorem rF {p:Prop}(x:p:=by
 obtain⟨zc,zg,zk,zu,ze,zj,zt⟩:=z
 try simp only[wN,wI,wS,wT,wK,zN,eP,eI,eS,eT]at zc zk zu zt zj⊢
 repeat' first
 |(clear h;(with_reducible intro n x hn h);rcases n with _|n<;>simp only[ze.1,reduceCtorEq]at h)
 |(simp only[reduceCtorEq]at h;done)
 |((with_reducible replace h:=kq0 h);obtain⟨_,_,h⟩:=h)
 |((with_reducible replace h:=kqn h);obtain⟨_,_,h⟩:=h)
 |((with_reducible replace h:=kq1 h);obtain⟨_,_,h⟩:=h)
 |((with_reducible replace h:=kq h);obtain⟨_,h⟩:=h)
 |((with_reducible replace h:=sq h);subst h;have h:=True.intro)
 | (try simp -dsimp only[egR,nM.pz,nM.f,nM.rd,DZ,Ae,lvl,yG,reduceIte,Nat.reduceEqDiff,Nat.reduceAdd,Nat.reduceLeDiff,Nat.reduceBEq,reduceCtorEq,Int.reduceBNe,Int.reduceBEq,Int.reduceLT,Int.reduceLE,Int.reduceNeg,Nat.reduceLT,D8,Int.reduceToNat,Fz, *]
    repeat((with_reducible refine And.intro ?_ ?_);focus first|(show Am _ _ _ _=true;kernel_rfl)|(show AA _ _=true;kernel_rfl)|omega|assumption|(show _<=maxLen;decide))
    first
    |with_reducible refine afj ?_
    |((with_reducible refine afs ?_);with_reducible refine zu.1 n ?_ ?_)
    |((with_reducible refine acy ?_);first|((with_reducible refine zk.1 n ?_ ?_);(focus exact NS))|((with_reducible refine zk.2.1 n ?_ ?_);(focus exact NS))|((with_reducible refine zk.2.2.1 n ?_ ?_);(focus exact NS))|((with_reducible refine zk.2.2.2.1 n ?_ ?_);(focus exact NS))|((with_reducible refine zk.2.2.2.2.1 n ?_ ?_);(focus exact NS))|((with_reducible refine zk.2.2.2.2.2.1 n ?_ ?_);(focus exact NS)))
    |((with_reducible refine acw ?_);(with_reducible replace h:=bq h);obtain⟨_,hv,h⟩:=h;first|(have zd:=zc;(repeat(first|((first|with_reducible have hc:=zd.1 hv|with_reducible have hc:=zd.1 _ (by omega) hv);(first|refine afi (λ_=>hc) rfl rfl ?_|refine afk hc rfl rfl ?_|refine afh hc tLN tLN rfl rfl ?_|refine afg hc tLN tLN rfl rfl ?_);clear zd)|with_reducible replace zd:=zd.2));(fail_if_success have zz:=zd))|(have zd:=zg;(repeat(first|((first|with_reducible have hc:=zd.1.1 hv|with_reducible have hc:=zd.1.1 _ (by omega) hv);(first|refine zd.1.2 hc rfl rfl tGG tGG rfl rfl tGR rfl ?_|refine zd.1.2 hc tGH tGH rfl rfl tGH tGH rfl rfl rfl ?_);clear zd)|with_reducible replace zd:=zd.2));(fail_if_success have zz:=zd)))
    |((with_reducible replace h:=cq h);rcases h with⟨c,h⟩|⟨c,h⟩<;>try(simp only[*,Bool.false_eq_true,reduceCtorEq]at c;done))
    |((with_reducible refine ag2 ?_);exact NS)
    |((with_reducible refine afv ?_);exact tPE)
    |((with_reducible refine afw ?_);have zd:=zt;(repeat(first|exact zd.1 (by rfl) tRE tRE tRE|with_reducible replace zd:=zd.2))<;>fail)
    |(cases h;done))):p:=x
theorem VV {p:Prop}(x:p:=by
 obtain⟨zc,zg,zk,zu,ze,zj,zt,zq⟩:=z
 try simp only[wN,wI,wS,wT,wK,zN,eP,eI,eS,eT]at zc zk zu zt zj⊢
 repeat' first
 |(clear h;(with_reducible intro n x hn h);rcases n with _|n<;>simp only[ze.1,reduceCtorEq]at h)
 |(simp only[reduceCtorEq]at h;done)
 |((with_reducible replace h:=kq0 h);obtain⟨_,_,h⟩:=h)
 |((with_reducible replace h:=kqn h);obtain⟨_,_,h⟩:=h)
 |((with_reducible replace h:=kq1 h);obtain⟨_,_,h⟩:=h)
 |((with_reducible replace h:=kq h);obtain⟨_,h⟩:=h)
 |((with_reducible replace h:=sq h);subst h;have h:=True.intro)
 | (try simp -dsimp only[egR,nM.pz,nM.f,nM.rd,DZ,Ae,lvl,yG,reduceIte,Nat.reduceEqDiff,Nat.reduceAdd,Nat.reduceLeDiff,Nat.reduceBEq,reduceCtorEq,Int.reduceBNe,Int.reduceBEq,Int.reduceLT,Int.reduceLE,Int.reduceNeg,Nat.reduceLT,D8,Int.reduceToNat,Fz, *]
    repeat((with_reducible refine And.intro ?_ ?_);focus first|(show Am _ _ _ _=true;kernel_rfl)|(show AA _ _=true;kernel_rfl)|omega|assumption|(show _<=maxLen;decide))
    first
    |with_reducible refine afj ?_
    |((with_reducible refine afs ?_);first|(rename Mk 1=>tk;clear tk;have:True:=(by(first|rewrite [zq.1.1]at h|rewrite [zq.1.2.1]at h|rewrite [zq.1.2.2.1]at h|rewrite [zq.1.2.2.2.1]at h|rewrite [zq.1.2.2.2.2.1]at h|rewrite [zq.1.2.2.2.2.2.1]at h|rewrite [zq.1.2.2.2.2.2.2.1]at h|rewrite [zq.1.2.2.2.2.2.2.2.1]at h);exact True.intro);with_reducible refine zu.1 n ?_ ?_)|(rename Mk 2=>tk;clear tk;have:True:=(by(first|rewrite [zq.2.1.1]at h|rewrite [zq.2.1.2.1]at h|rewrite [zq.2.1.2.2.1]at h|rewrite [zq.2.1.2.2.2.1]at h|rewrite [zq.2.1.2.2.2.2.1]at h|rewrite [zq.2.1.2.2.2.2.2.1]at h|rewrite [zq.2.1.2.2.2.2.2.2.1]at h|rewrite [zq.2.1.2.2.2.2.2.2.2.1]at h);exact True.intro);with_reducible refine zu.2.1 n ?_ ?_)|(rename Mk 3=>tk;clear tk;have:True:=(by(first|rewrite [zq.2.2.1.1]at h|rewrite [zq.2.2.1.2.1]at h|rewrite [zq.2.2.1.2.2.1]at h|rewrite [zq.2.2.1.2.2.2.1]at h|rewrite [zq.2.2.1.2.2.2.2.1]at h|rewrite [zq.2.2.1.2.2.2.2.2.1]at h|rewrite [zq.2.2.1.2.2.2.2.2.2.1]at h|rewrite [zq.2.2.1.2.2.2.2.2.2.2.1]at h);exact True.intro);with_reducible refine zu.2.2.1 n ?_ ?_)|(rename Mk 4=>tk;clear tk;have:True:=(by(first|rewrite [zq.2.2.2.1.1]at h|rewrite [zq.2.2.2.1.2.1]at h|rewrite [zq.2.2.2.1.2.2.1]at h|rewrite [zq.2.2.2.1.2.2.2.1]at h|rewrite [zq.2.2.2.1.2.2.2.2.1]at h|rewrite [zq.2.2.2.1.2.2.2.2.2.1]at h|rewrite [zq.2.2.2.1.2.2.2.2.2.2.1]at h|rewrite [zq.2.2.2.1.2.2.2.2.2.2.2.1]at h);exact True.intro);with_reducible refine zu.2.2.2.1 n ?_ ?_)|(rename Mk 5=>tk;clear tk;have:True:=(by(first|rewrite [zq.2.2.2.2.1.1]at h|rewrite [zq.2.2.2.2.1.2.1]at h|rewrite [zq.2.2.2.2.1.2.2.1]at h|rewrite [zq.2.2.2.2.1.2.2.2.1]at h|rewrite [zq.2.2.2.2.1.2.2.2.2.1]at h|rewrite [zq.2.2.2.2.1.2.2.2.2.2.1]at h|rewrite [zq.2.2.2.2.1.2.2.2.2.2.2.1]at h|rewrite [zq.2.2.2.2.1.2.2.2.2.2.2.2.1]at h);exact True.intro);with_reducible refine zu.2.2.2.2.1 n ?_ ?_)|(rename Mk 6=>tk;clear tk;have:True:=(by(first|rewrite [zq.2.2.2.2.2.1.1]at h|rewrite [zq.2.2.2.2.2.1.2.1]at h|rewrite [zq.2.2.2.2.2.1.2.2.1]at h|rewrite [zq.2.2.2.2.2.1.2.2.2.1]at h|rewrite [zq.2.2.2.2.2.1.2.2.2.2.1]at h|rewrite [zq.2.2.2.2.2.1.2.2.2.2.2.1]at h|rewrite [zq.2.2.2.2.2.1.2.2.2.2.2.2.1]at h|rewrite [zq.2.2.2.2.2.1.2.2.2.2.2.2.2.1]at h);exact True.intro);with_reducible refine zu.2.2.2.2.2.1 n ?_ ?_))
    |((with_reducible refine acy ?_);first|((with_reducible refine zk.1 n ?_ ?_);(focus exact NS))|((with_reducible refine zk.2.1 n ?_ ?_);(focus exact NS))|((with_reducible refine zk.2.2.1 n ?_ ?_);(focus exact NS))|((with_reducible refine zk.2.2.2.1 n ?_ ?_);(focus exact NS))|((with_reducible refine zk.2.2.2.2.1 n ?_ ?_);(focus exact NS))|((with_reducible refine zk.2.2.2.2.2.1 n ?_ ?_);(focus exact NS)))
    |((with_reducible refine acw ?_);(with_reducible replace h:=bq h);obtain⟨_,hv,h⟩:=h;first|(have zd:=zc;(repeat(first|((first|with_reducible have hc:=zd.1 hv|with_reducible have hc:=zd.1 _ (by omega) hv);(first|refine afi (λ_=>hc) rfl rfl ?_|refine afk hc rfl rfl ?_|refine afh hc tLN tLN rfl rfl ?_|refine afg hc tLN tLN rfl rfl ?_);clear zd)|with_reducible replace zd:=zd.2));(fail_if_success have zz:=zd))|(have zd:=zg;(repeat(first|((first|with_reducible have hc:=zd.1.1 hv|with_reducible have hc:=zd.1.1 _ (by omega) hv);(first|refine zd.1.2 hc rfl rfl tGG tGG rfl rfl tGR rfl ?_|refine zd.1.2 hc tGH tGH rfl rfl tGH tGH rfl rfl rfl ?_);clear zd)|with_reducible replace zd:=zd.2));(fail_if_success have zz:=zd)))
    |((with_reducible replace h:=cq h);rcases h with⟨c,h⟩|⟨c,h⟩<;>try(simp only[*,Bool.false_eq_true,reduceCtorEq]at c;done))
    |((with_reducible refine ag2 ?_);exact NS)
    |((with_reducible refine afv ?_);exact tPE)
    |((with_reducible refine afw ?_);have zd:=zt;(repeat(first|exact zd.1 (by rfl) tRE tRE tRE|with_reducible replace zd:=zd.2))<;>fail)
    |(cases h;done))):p:=x
end
abbrev zA (d:Nat)(x:nM):mY:=⟨none,some d,.op x⟩
abbrev zM (d s:Nat):mY:=⟨none,some d,.op (.mv (.t s))⟩
abbrev zS (x:nM):mY:=⟨none,none,.op x⟩
abbrev zG (g:Nat)(b:Bool)(d:Nat)(x:nM):mY:=⟨some (g,b),some d,.op x⟩
noncomputable abbrev pZ : Program:=Go.Proofs.Tryz.prog
abbrev kI (n:Int):pF:=.k (.c (.lit (.int .i64 n)))
abbrev kB (b:Bool):pF:=.k (.c (.lit (.bool b)))
abbrev lW (n:Int):AC:=.c (.lit (.int .i64 n))
abbrev qF (d k a:Nat):mY:=zA d (.load false k (.t a))
abbrev qT (d k a:Nat):mY:=zA d (.load true k (.t a))
abbrev qS (k a b:Nat):mY:=zS (.store true k (.t a) (.t b))
abbrev qU (k a b:Nat):mY:=zS (.store false k (.t a) (.t b))
abbrev qA (d k a:Nat):mY:=zA d (.kJ k (.t a))
abbrev qX (d k a:Nat):mY:=zA d (.box k (.t a))
abbrev qB (d:Nat)(b:Bool):mY:=zA d (.mv (kB b))
abbrev qI (d:Nat)(n:Int):mY:=zA d (.mv (kI n))
abbrev qL (d a:Nat):mY:=zA d (.len (.t a))
abbrev qO (d a:Nat):mY:=zA d (.not (.t a))
abbrev qE (d a k:Nat):mY:=zA d (.extract (.t a) k)
abbrev qP (d a b:Nat):mY:=zA d (.pick (.t a) (.t b) (kB false))
abbrev qQ (d a b:Nat):mY:=zA d (.pick (.t a) (kB true) (.t b))
abbrev qN (d a:Nat):mY:=zA d (.Fq (.t a))
abbrev qD (d k a b:Nat):mY:=zA d (.wJ k (.t a) (.t b))
abbrev qZ (d k:Nat):mY:=zA d (.alloc k zN)
abbrev q1 (d f a:Nat):mY:=⟨none,some d,.call f [.t a]⟩
abbrev q2 (d f a b:Nat):mY:=⟨none,some d,.call f [.t a,.t b]⟩
abbrev q3 (d f a b c:Nat):mY:=⟨none,some d,.call f [.t a,.t b,.t c]⟩
abbrev qb (d:Nat)(o:BinOp)(a b:Nat):mY:=zA d (.bin o (.t a) (.t b))
abbrev qk (d:Nat)(o:BinOp)(a:Nat)(n:Int):mY:=zA d (.bin o (.t a) (kI n))
abbrev ql (d a:Nat):mY:=zA d (.lens (.t a))
abbrev qm (g:Nat)(b:Bool)(d a:Nat):mY:=zG g b d (.mv (.t a))
abbrev qc (a:Nat)(x y:bZ):bZ:=.cond (.t a) x y
abbrev qs (l:List mY)(m:List Nat)(x:bZ):bZ:=.seq (.reg l m) x
abbrev qr (l:List mY)(m:List Nat):bZ:=.seq (.reg l m) .ret
def C.ins (sz cb gr:Nat)(z:List Cell):bZ:=(qs [zA 6 (.mv (.k (.jI sz)))] [0,1,2] (qs [zM 10 0,zM 11 1,zA 12 (.zH sz (.t 10) (some (.t 11)) none)] [0,1,2] (qs [zM 13 2,qL 14 13,zM 7 14] [0,1,2,7] (.seq (qs [zM 15 7,qk 16 .eql 15 0] [0,1,2,7,16] (qc 16 (qr [zM 17 0,zM 6 17] [6]) .skip)) (qs [zM 18 0,qL 19 18,zM 8 19] [0,1,2,7,8] (.seq (qs [zM 20 1,zM 21 8,qb 22 .eql 20 21] [0,1,2,7,8,22] (qc 22 (qr [zM 23 0,zM 24 2,zA 25 (.WV 10 sz cb (.t 23) (.t 24)),zM 6 25] [6]) .skip)) (.seq (qs [zM 26 8,zM 27 7,qb 28 .add 26 27,zM 29 0,zA 30 (.ZQ (.t 29)),qb 31 .gtr 28 30] [0,1,2,7,8,31] (qc 31 (qs [zM 32 0,zM 33 1,zA 34 (.zH sz (.t 32) none (some (.t 33))),zM 35 8,zM 36 7,qb 37 .add 35 36,zM 38 1,qb 39 .sub 37 38,zA 40 (.Xx 11 sz cb z (.t 34) (.t 39)),zM 9 40] [0,1,2,7,9] (qs [zM 41 9,zM 42 1,zA 43 (.zH sz (.t 41) (some (.t 42)) none),zM 44 2,zA 45 (.Ro sz (.t 43) (.t 44))] [0,1,7,9] (.seq (.qW [(zM 46 9,[]),(zM 47 1,[]),(zM 48 7,[]),(qb 49 .add 47 48,[1,2]),(zA 50 (.zH sz (.t 46) (some (.t 49)) none),[0,1,2,3]),(zM 51 0,[]),(zM 52 1,[]),(zA 53 (.zH sz (.t 51) (some (.t 52)) none),[5,6]),(zA 54 (.Ro sz (.t 50) (.t 53)),[0,1,2,3,4,5,6,7])] [9]) (qr [zM 55 9,zM 6 55] [6])))) .skip)) (qs [zM 56 0,zM 57 8,zM 58 7,qb 59 .add 57 58,zA 60 (.zH sz (.t 56) none (some (.t 59))),zM 0 60] [0,1,2,7,8] (.seq (qs [zM 61 2,zM 62 0,zM 63 1,zM 64 7,qb 65 .add 63 64,zA 66 (.zH sz (.t 62) (some (.t 65)) none),zA 67 (.ovl (.t 61) (.t 66)),qO 68 67] [0,1,2,7,8,68] (qc 68 (.seq (.qW [(zM 69 0,[]),(zM 70 1,[]),(zM 71 7,[]),(qb 72 .add 70 71,[1,2]),(zA 73 (.zH sz (.t 69) (some (.t 72)) none),[0,1,2,3]),(zM 74 0,[]),(zM 75 1,[]),(zA 76 (.zH sz (.t 74) (some (.t 75)) none),[5,6]),(zA 77 (.Ro sz (.t 73) (.t 76)),[0,1,2,3,4,5,6,7])] [0,1,2]) (qs [zM 78 0,zM 79 1,zA 80 (.zH sz (.t 78) (some (.t 79)) none),zM 81 2,zA 82 (.Ro sz (.t 80) (.t 81))] [0] (qr [zM 83 0,zM 6 83] [6]))) .skip)) (qs [zM 84 0,zM 85 8,zA 86 (.zH sz (.t 84) (some (.t 85)) none),zM 87 2,zA 88 (.Ro sz (.t 86) (.t 87))] [0,1,7] (qs [zM 89 0,zM 90 1,zA 91 (.zH sz (.t 89) (some (.t 90)) none),zM 92 7,⟨none,some 93,.call gr [.t 91,.t 92]⟩] [0] (qr [zM 94 0,zM 6 94] [6]))))))))))))
def C.del (sz cb:Nat)(z:List Cell):bZ:=(qs [zA 6 (.mv (.k (.jI sz)))] [0,1,2] (qs [zM 8 0,zM 9 1,zM 10 2,zM 11 0,qL 12 11,zA 13 (.sl3 sz (.t 8) (.t 9) (.t 10) (.t 12))] [0,1,2] (.seq (qs [zM 14 1,zM 15 2,qb 16 .eql 14 15] [0,1,2,16] (qc 16 (qr [zM 17 0,zM 6 17] [6]) .skip)) (qs [zM 18 0,qL 19 18,zM 7 19] [0,1,2,7] (.seq (.qW [(zM 20 0,[]),(zM 21 1,[]),(zA 22 (.zH sz (.t 20) none (some (.t 21))),[0,1]),(zM 23 0,[]),(zM 24 2,[]),(zA 25 (.zH sz (.t 23) (some (.t 24)) none),[3,4]),(zA 26 (.WV 10 sz cb (.t 22) (.t 25)),[0,1,2,3,4,5]),(zM 0 26,[0,1,2,3,4,5,6])] [0,7]) (qs [zM 27 0,zM 28 0,qL 29 28,zM 30 7,zA 31 (.zH sz (.t 27) (some (.t 29)) (some (.t 30))),zS (.Yu sz z (.t 31))] [0] (qr [zM 32 0,zM 6 32] [6])))))))
def C.cmp_isNaN_int : bZ:=(qs [qB 2 false] [0] (qr [zM 3 0,zM 4 0,qb 5 .neq 3 4,zM 2 5] [2]))
theorem K.cmp_isNaN_int : iZ pZ 259 1 0 C.cmp_isNaN_int [.tmp 2]=true:=by kernel_rfl
def C.cmp_Compare_int : bZ:=(qs [qI 4 0] [0,1] (qs [zM 7 0,q1 8 259 7,zM 5 8] [0,1,5] (qs [zM 9 1,q1 10 259 9,zM 6 10] [0,1,5,6] (.seq (qs [zM 11 5] [0,1,6,11] (qc 11 (.seq (qs [zM 12 6] [12] (qc 12 (qr [qI 4 0] [4]) .skip)) (qr [qI 4 (-1)] [4])) .skip)) (.seq (qs [zM 13 6] [0,1,13] (qc 13 (qr [qI 4 1] [4]) .skip)) (.seq (qs [zM 14 0,zM 15 1,qb 16 .lss 14 15] [0,1,16] (qc 16 (qr [qI 4 (-1)] [4]) .skip)) (.seq (qs [zM 17 0,zM 18 1,qb 19 .gtr 17 18] [19] (qc 19 (qr [qI 4 1] [4]) .skip)) (qr [qI 4 0] [4]))))))))
theorem K.cmp_Compare_int : iZ pZ 256 2 0 C.cmp_Compare_int [.tmp 4]=true:=by kernel_rfl
def C.cmp_isNaN_string : bZ:=(qs [qB 2 false] [0] (qr [zM 3 0,zM 4 0,qb 5 .neq 3 4,zM 2 5] [2]))
theorem K.cmp_isNaN_string : iZ pZ 247 1 0 C.cmp_isNaN_string [.tmp 2]=true:=by kernel_rfl
def C.cmp_Less_string : bZ:=(qs [qB 4 false] [0,1] (qr [zM 5 0,q1 6 247 5,zM 7 6,qm 7 true 8 1,⟨(some (7,true)),some 9,.call 247 [.t 8]⟩,zG 7 true 10 (.not (.t 9)),qP 11 7 10,zM 12 11,qm 12 false 13 0,qm 12 false 14 1,zG 12 false 15 (.bin .lss (.t 13) (.t 14)),qQ 16 12 15,zM 4 16] [4]))
theorem K.cmp_Less_string : iZ pZ 232 2 0 C.cmp_Less_string [.tmp 4]=true:=by kernel_rfl
def C.aP : bZ:=(qs [qX 1 10 0,qZ 2 11] [1,2] (qs [qA 6 0 1,qF 7 1 6,qA 8 1 1,qF 9 1 8,qA 10 2 1,qF 11 1 10,zA 12 (.build zN [(0,1,.t 7),(1,1,.t 9),(2,1,.t 11)]),qZ 3 12,qS 5 3 12] [1,2,3] (.cut (qs [qA 13 3 1,qF 14 1 13,qL 15 14,qk 16 .gtr 15 0] [1,2,3,16] (qc 16 (qs [qA 17 3 1,qF 18 1 17,qL 19 18,zA 20 (.makes 13 1 16 [.str []] (.t 19) (.t 19)),qA 21 3 3,qU 1 21 20] [1,2,3] (.reg [qA 22 3 3,qF 23 1 22,qA 24 3 1,qF 25 1 24,zA 26 (.copy 1 (.t 23) (.t 25))] [1,2,3])) .skip)) (.seq (qs [qA 27 4 1,qF 28 1 27,qL 29 28,qk 30 .gtr 29 0] [1,2,3,30] (qc 30 (qs [qA 31 4 1,qF 32 1 31,qL 33 32,zA 34 (.makes 14 5 80 [.lit (.int .i64 0),.lit (.int .i64 0),.str [],.sl 1 [],.sl 5 []] (.t 33) (.t 33)),qA 35 4 3,qU 1 35 34] [1,2,3] (qs [qA 36 4 1,qF 37 1 36,qL 38 37,qI 39 0] [2,3,37,38,39] (.block 0 (.loop (qs [qb 40 .lss 39 38] [2,3,37,38,39,40] (.seq (qc 40 .skip (.exit 0)) (.seq (.block 1 (qs [zM 41 39,qD 42 5 37 39,qT 43 5 42,qZ 5 15,zM 4 41,qS 5 5 43] [2,3,4,5,37,38,39] (.qW [(qA 44 4 3,[]),(qF 45 1 44,[0]),(zM 46 4,[]),(qT 47 5 5,[]),(q1 48 61 47,[3]),(qD 49 5 45 46,[0,1,2,3,4]),(qS 5 49 48,[0,1,2,3,4,5])] [2,3,37,38,39]))) (.reg [qk 50 .add 39 1,zM 39 50] [2,3,37,38,39])))))))) .skip)) (qr [qT 51 5 3,qS 5 2 51] [2])))))
theorem K.aP : iZ pZ 61 1 0 C.aP [.cell 2 true 5]=true:=by kernel_rfl
def C.slices_isNaN_string : bZ:=(qs [qB 2 false] [0] (qr [zM 3 0,zM 4 0,qb 5 .neq 3 4,zM 2 5] [2]))
theorem K.slices_isNaN_string : iZ pZ 233 1 0 C.slices_isNaN_string [.tmp 2]=true:=by kernel_rfl
def C.slices_BinarySearch_string : bZ:=(qs [qI 4 0,qB 5 false] [0,1] (qs [zM 10 0,qL 11 10,zM 6 11] [0,1,6] (qs [zM 12 6,qI 7 0,zM 8 12] [0,1,6,7,8] (.seq (.block 0 (.loop (.seq (qs [zM 13 7,zM 14 8,qb 15 .lss 13 14] [0,1,6,7,8,15] (qc 15 .skip (.exit 0))) (.block 1 (qs [zM 16 7,zM 17 8,qb 18 .add 16 17,zA 19 (.Gv .u64 (.t 18)),zA 20 (.shf false (.t 19) (.k (.c (.lit (.int .u64 1))))),zA 21 (.Gv .i64 (.t 20)),zM 9 21] [0,1,6,7,8,9] (qs [zM 22 0,zM 23 9,qD 24 1 22 23,qF 25 1 24,zM 26 1,q2 27 232 25 26] [0,1,6,7,8,9,27] (qc 27 (.reg [zM 28 9,qk 29 .add 28 1,zM 7 29] [0,1,6,7,8]) (.reg [zM 30 9,zM 8 30] [0,1,6,7,8])))))))) (qr [zM 31 7,zM 32 7,zM 33 6,qb 34 .lss 32 33,zM 35 34,qm 35 true 36 0,qm 35 true 37 7,zG 35 true 38 (.wJ 1 (.t 36) (.t 37)),zG 35 true 39 (.load false 1 (.t 38)),qm 35 true 40 1,zG 35 true 41 (.bin .eql (.t 39) (.t 40)),qm 35 true 42 41,qm 42 false 43 0,qm 42 false 44 7,zG 42 false 45 (.wJ 1 (.t 43) (.t 44)),zG 42 false 46 (.load false 1 (.t 45)),⟨(some (42,false)),some 47,.call 233 [.t 46]⟩,qm 42 false 48 47,qm 48 true 49 1,⟨(some (48,true)),some 50,.call 233 [.t 49]⟩,zG 42 false 51 (.pick (.t 48) (.t 50) (kB false)),zG 35 true 52 (.pick (.t 42) (kB true) (.t 51)),qP 53 35 52,zM 4 31,zM 5 53] [4,5])))))
theorem K.slices_BinarySearch_string : iZ pZ 216 2 0 C.slices_BinarySearch_string [.tmp 4,.tmp 5]=true:=by kernel_rfl
def C.gV : bZ:=(qs [qX 2 10 0,qI 4 0,qB 5 false] [1,2] (.seq (qs [qA 7 0 2,qF 8 1 7] [1,2,8] (.block 0 (qs [qk 10 .eql 8 4,zM 9 10] [1,2,8,9] (qc 9 (qr [qA 11 3 2,qF 12 1 11,zM 13 1,q2 14 216 12 13,qE 15 14 0,qE 16 14 1,zM 4 15,zM 5 16] [4,5]) (qs [qk 18 .eql 8 3,zM 17 18] [1,2,17] (qc 17 (qs [qA 19 4 2,qF 20 1 19,qL 21 20,qI 22 0] [1,21,22] (.block 1 (.loop (qs [qb 23 .lss 22 21] [1,21,22,23] (.seq (qc 23 .skip (.exit 1)) (.seq (.block 2 (qs [zM 24 22,zM 6 24] [1,6,21,22] (qs [zM 25 6,q1 26 21 25,zM 27 1,qb 28 .eql 26 27] [1,6,21,22,28] (qc 28 (qr [zM 29 6,zM 4 29,qB 5 true] [4,5]) .skip)))) (.reg [qk 30 .add 22 1,zM 22 30] [1,21,22]))))))) .skip)))))) (qr [qI 4 0,qB 5 false] [4,5])))
theorem K.gV : iZ pZ 243 2 0 C.gV [.tmp 4,.tmp 5]=true:=by kernel_rfl
def C.jf : bZ:=C.ins 5 80 251 [.lit (.int .i64 0),.lit (.int .i64 0),.str [],.sl 1 [],.sl 5 []]
theorem K.jf : iZ pZ 235 3 2 C.jf [.tmp 6]=true:=by kernel_rfl
def C.mQ : bZ:=C.ins 1 16 249 [.str []]
theorem K.mQ : iZ pZ 234 3 2 C.mQ [.tmp 6]=true:=by kernel_rfl
def C.oU : bZ:=(qs [qX 5 10 2] [0,1,5] (qs [zM 9 0,qN 10 9,qA 11 3 10,qF 12 1 11,zM 13 1,q2 14 216 12 13,zM 8 14,qE 15 8 0,qE 16 8 1,zM 6 15,zM 7 16] [0,1,5,6,7] (.seq (qs [zM 17 7] [0,1,5,6,17] (qc 17 (.seq (.qW [(zM 18 0,[]),(qN 19 18,[0]),(qA 20 4 19,[0,1]),(qF 21 1 20,[0,1,2]),(zM 22 6,[]),(qT 23 5 5,[]),(qD 24 5 21 22,[0,1,2,3,4,5]),(qS 5 24 23,[0,1,2,3,4,5,6])] []) .ret) .skip)) (qs [zM 25 0,zM 26 0,qN 27 26,qA 28 3 27,qF 29 1 28,zM 30 6,zM 31 1,zA 32 (.jK 11 1 1 [.str []] [(0,.t 31)]),q3 33 234 29 30 32,qN 34 25,qA 35 3 34,qU 1 35 33] [0,5,6] (.qW [(zM 36 0,[]),(zM 37 0,[]),(qN 38 37,[1]),(qA 39 4 38,[1,2]),(qF 40 1 39,[1,2,3]),(zM 41 6,[]),(qT 42 5 5,[]),(zA 43 (.jK 12 5 1 [.lit (.int .i64 0),.lit (.int .i64 0),.str [],.sl 1 [],.sl 5 []] [(0,.t 42)]),[6]),(q3 44 235 40 41 43,[1,2,3,4,5,6,7]),(qN 45 36,[0,1,2,3,4,5,6,7,8]),(qA 46 4 45,[0,1,2,3,4,5,6,7,8,9]),(qU 1 46 44,[0,1,2,3,4,5,6,7,8,9,10])] [])))))
theorem K.oU : iZ pZ 217 3 3 C.oU []=true:=by kernel_rfl
def C.lK : bZ:=(qs [qX 3 10 0,qX 5 11 2,qZ 6 12,qB 7 false] [1,3,5,6] (qs [qT 11 5 3,q1 12 61 11,qZ 8 13,qS 5 8 12] [1,3,5,6,8] (.seq (qs [qA 13 0 3,qF 14 1 13] [1,3,5,6,8,14] (.block 0 (qs [qk 16 .eql 14 4,zM 15 16] [1,3,5,6,8,14,15] (qc 15 (qs [zM 17 1,qT 18 5 5,q1 19 61 18,q3 20 217 8 17 19] [6,8] (qr [qT 21 5 8,qS 5 6 21,qB 7 true] [6,7])) (qs [qk 23 .eql 14 3,zM 22 23] [1,3,5,6,8,22] (qc 22 (qs [qT 25 5 3,zM 26 1,q2 27 243 25 26,zM 24 27,qE 28 24 0,qE 29 24 1,zM 9 28,zM 10 29] [1,3,5,6,8,9,10] (.cut (qs [zM 30 10,qO 31 30,zM 32 31,qm 32 true 33 1,zG 32 true 34 (.bin .eql (.t 33) (.k (.c (.str [45])))),qm 32 true 35 34,qm 35 false 36 1,zG 35 false 37 (.kJ 4 (.t 3)),zG 35 false 38 (.load false 1 (.t 37)),zG 35 false 39 (.len (.t 38)),⟨(some (35,false)),some 40,.call 21 [.t 39]⟩,zG 35 false 41 (.bin .eql (.t 36) (.t 40)),zG 32 true 42 (.pick (.t 35) (kB true) (.t 41)),qP 43 32 42] [3,5,6,8,9,10,43] (qc 43 (.reg [qA 44 4 3,qF 45 1 44,qL 46 45,zM 9 46,qB 10 true] [5,6,8,9,10]) .skip)) (.seq (qs [zM 47 10,qO 48 47] [5,6,8,9,48] (qc 48 (qr [zA 49 (.build zN []),qS 5 6 49,qB 7 false] [6,7]) .skip)) (.seq (.qW [(qA 50 4 8,[]),(qF 51 1 50,[0]),(zM 52 9,[]),(qT 53 5 5,[]),(q1 54 61 53,[3]),(zA 55 (.jK 14 5 1 [.lit (.int .i64 0),.lit (.int .i64 0),.str [],.sl 1 [],.sl 5 []] [(0,.t 54)]),[3,4]),(q3 56 235 51 52 55,[0,1,2,3,4,5]),(qA 57 4 8,[0,1,2,3,4,5,6]),(qU 1 57 56,[0,1,2,3,4,5,6,7])] [6,8]) (qr [qT 58 5 8,qS 5 6 58,qB 7 true] [6,7]))))) .skip)))))) (qr [zA 59 (.build zN []),qS 5 6 59,qB 7 false] [6,7]))))
theorem K.lK : iZ pZ 241 3 0 C.lK [.cell 6 true 5,.tmp 7]=true:=by kernel_rfl
def C.uj : bZ:=(qs [qX 4 10 0,qZ 5 11,qB 6 false] [1,2,3,4,5] (.seq (.qW [(qT 7 5 4,[]),(qF 8 1 1,[]),(qF 9 1 2,[]),(qD 10 1 8 9,[1,2]),(qF 11 1 10,[1,2,3]),(qT 12 5 3,[]),(q3 13 241 7 11 12,[0,1,2,3,4,5]),(qE 14 13 0,[0,1,2,3,4,5,6]),(qE 15 13 1,[0,1,2,3,4,5,6]),(qS 5 5 14,[0,1,2,3,4,5,6,7,8]),(zM 6 15,[0,1,2,3,4,5,6,7,8,9])] [5,6]) .ret))
theorem K.uj : iZ pZ 240 4 3 C.uj [.cell 5 true 5,.tmp 6]=true:=by kernel_rfl
def C.gU : bZ:=(qs [qB 2 false] [0] (.seq (qs [zM 4 0,ql 5 4,qk 6 .gtr 5 12] [0,6] (qc 6 (qr [qB 2 false] [2]) .skip)) (.seq (qs [qI 3 0] [0,3] (.block 0 (.loop (.seq (qs [zM 7 3,zM 8 0,ql 9 8,qb 10 .lss 7 9] [0,3,10] (qc 10 .skip (.exit 0))) (.seq (.block 1 (qs [zM 13 0,zM 14 3,zA 15 (.idxs (.t 13) (.t 14)),zA 16 (.bin .lss (.t 15) (.k (.c (.lit (.int .u8 32))))),zM 17 16,qm 17 false 18 0,qm 17 false 19 3,zG 17 false 20 (.idxs (.t 18) (.t 19)),zG 17 false 21 (.bin .gtr (.t 20) (.k (.c (.lit (.int .u8 126))))),qQ 22 17 21] [0,3,22] (qc 22 (qr [qB 2 false] [2]) .skip))) (.reg [zM 11 3,qk 12 .add 11 1,zM 3 12] [0,3])))))) (qr [qB 2 true] [2]))))
theorem K.gU : iZ pZ 186 1 0 C.gU [.tmp 2]=true:=by kernel_rfl
def C.kC : bZ:=(qs [qB 2 false] [0] (.seq (qs [zM 5 0,qL 6 5,qk 7 .gtr 6 6] [0,7] (qc 7 (qr [qB 2 false] [2]) .skip)) (.seq (qs [zM 8 0,qL 9 8,qI 10 0] [0,8,9,10] (.block 0 (.loop (qs [qb 11 .lss 10 9] [0,8,9,10,11] (.seq (qc 11 .skip (.exit 0)) (.seq (.block 1 (qs [zM 12 10,qD 13 1 8 10,qF 14 1 13,zM 3 12,zM 4 14] [0,3,4,8,9,10] (qs [zM 15 4,q1 16 186 15,qO 17 16,zM 18 17,qm 18 false 19 3,zG 18 false 20 (.bin .gtr (.t 19) (kI 0)),qm 18 false 21 20,qm 21 true 22 0,qm 21 true 23 3,zG 21 true 24 (.bin .sub (.t 23) (kI 1)),zG 21 true 25 (.wJ 1 (.t 22) (.t 24)),zG 21 true 26 (.load false 1 (.t 25)),qm 21 true 27 4,zG 21 true 28 (.bin .geq (.t 26) (.t 27)),zG 18 false 29 (.pick (.t 21) (.t 28) (kB false)),qQ 30 18 29] [0,8,9,10,30] (qc 30 (qr [qB 2 false] [2]) .skip)))) (.reg [qk 31 .add 10 1,zM 10 31] [0,8,9,10]))))))) (qr [qB 2 true] [2]))))
theorem K.kC : iZ pZ 187 1 0 C.kC [.tmp 2]=true:=by kernel_rfl
def C.gZ : bZ:=(qs [qX 1 10 0,qB 2 false] [1] (.cut (qs [qA 3 0 1,qF 4 1 3,qk 5 .neq 4 1,zM 6 5,zG 6 true 7 (.kJ 1 (.t 1)),zG 6 true 8 (.load false 1 (.t 7)),zG 6 true 9 (.bin .neq (.t 8) (kI 0)),qP 10 6 9,zM 11 10,zG 11 false 12 (.kJ 0 (.t 1)),zG 11 false 13 (.load false 1 (.t 12)),zG 11 false 14 (.bin .neq (.t 13) (kI 2)),qm 11 false 15 14,zG 15 true 16 (.kJ 2 (.t 1)),zG 15 true 17 (.load false 1 (.t 16)),zG 15 true 18 (.bin .neq (.t 17) (.k (.c (.str [])))),zG 11 false 19 (.pick (.t 15) (.t 18) (kB false)),qQ 20 11 19] [1,20] (qc 20 (qr [qB 2 false] [2]) .skip)) (.seq (qs [qA 21 0 1,qF 22 1 21,qk 23 .neq 22 4,zM 24 23,zG 24 true 25 (.kJ 3 (.t 1)),zG 24 true 26 (.load false 1 (.t 25)),zG 24 true 27 (.len (.t 26)),zG 24 true 28 (.bin .gtr (.t 27) (kI 0)),qP 29 24 28] [1,29] (qc 29 (qr [qB 2 false] [2]) .skip)) (.seq (qs [qA 30 0 1,qF 31 1 30] [1,31] (.block 0 (qs [qk 33 .eql 31 0,zM 32 33] [1,31,32] (qc 32 (qr [qA 34 4 1,qF 35 1 34,qL 36 35,qk 37 .eql 36 0,zM 2 37] [2]) (qs [qk 39 .eql 31 1,zM 38 39] [1,31,38] (qc 38 (qr [qA 40 1 1,qF 41 1 40,qk 42 .geq 41 (-999999),zM 43 42,zG 43 true 44 (.kJ 1 (.t 1)),zG 43 true 45 (.load false 1 (.t 44)),zG 43 true 46 (.bin .leq (.t 45) (kI 999999)),qP 47 43 46,zM 48 47,zG 48 true 49 (.kJ 4 (.t 1)),zG 48 true 50 (.load false 1 (.t 49)),zG 48 true 51 (.len (.t 50)),zG 48 true 52 (.bin .eql (.t 51) (kI 0)),qP 53 48 52,zM 2 53] [2]) (qs [qk 55 .eql 31 2,zM 54 55] [1,31,54] (qc 54 (qr [qA 56 2 1,qF 57 1 56,q1 58 186 57,zM 59 58,zG 59 true 60 (.kJ 4 (.t 1)),zG 59 true 61 (.load false 1 (.t 60)),zG 59 true 62 (.len (.t 61)),zG 59 true 63 (.bin .eql (.t 62) (kI 0)),qP 64 59 63,zM 2 64] [2]) (qs [qk 66 .eql 31 3,zM 65 66] [1,31,65] (qc 65 (qr [qA 67 4 1,qF 68 1 67,qL 69 68,qk 70 .leq 69 6,zM 2 70] [2]) (qs [qk 72 .eql 31 4,zM 71 72] [1,71] (qc 71 (qr [qA 73 3 1,qF 74 1 73,q1 75 187 74,zM 76 75,zG 76 true 77 (.kJ 4 (.t 1)),zG 76 true 78 (.load false 1 (.t 77)),zG 76 true 79 (.len (.t 78)),zG 76 true 80 (.kJ 3 (.t 1)),zG 76 true 81 (.load false 1 (.t 80)),zG 76 true 82 (.len (.t 81)),zG 76 true 83 (.bin .eql (.t 79) (.t 82)),qP 84 76 83,zM 2 84] [2]) .skip)))))))))))) (qr [qB 2 false] [2])))))
theorem K.gZ : iZ pZ 152 1 0 C.gZ [.tmp 2]=true:=by kernel_rfl
def C.gy : bZ:=(qs [qX 2 10 0,qI 4 0,qI 5 0,qB 6 false] [1,2] (.seq (qs [zM 12 1,qk 13 .gtr 12 5,zM 14 13,zG 14 false 15 (.load true 5 (.t 2)),⟨(some (14,false)),some 16,.call 152 [.t 15]⟩,zG 14 false 17 (.not (.t 16)),qQ 18 14 17] [1,2,18] (qc 18 (qr [qI 4 0,qI 5 0,qB 6 false] [4,5,6]) .skip)) (qs [qI 4 1,qI 5 1] [1,2,4,5] (.seq (qs [qA 19 4 2,qF 20 1 19,qL 21 20,qI 22 0] [1,4,5,20,21,22] (.block 0 (.loop (qs [qb 23 .lss 22 21] [1,4,5,20,21,22,23] (.seq (qc 23 .skip (.exit 0)) (.seq (.block 1 (qs [qD 24 5 20 22,qT 25 5 24,qZ 8 11,qS 5 8 25] [1,4,5,8,20,21,22] (qs [qT 27 5 8,zM 28 1,qk 29 .add 28 1,q2 30 100 27 29,zM 26 30,qE 31 26 0,qE 32 26 1,qE 33 26 2,zM 9 31,zM 10 32,zM 11 33] [1,4,5,9,10,11,20,21,22] (.seq (qs [zM 34 11,qO 35 34] [1,4,5,9,10,20,21,22,35] (qc 35 (qr [qI 4 0,qI 5 0,qB 6 false] [4,5,6]) .skip)) (qs [zM 36 4,zM 37 9,qb 38 .add 36 37,zM 4 38] [1,4,5,10,20,21,22] (.reg [zM 39 5,zM 40 10,qk 41 .add 40 1,zA 42 (.max (.t 39) (.t 41)),zM 5 42] [1,4,5,20,21,22])))))) (.reg [qk 43 .add 22 1,zM 22 43] [1,4,5,20,21,22]))))))) (qr [zM 44 4,zM 45 5,zM 4 44,zM 5 45,qB 6 true] [4,5,6])))))
theorem K.gy : iZ pZ 100 2 0 C.gy [.tmp 4,.tmp 5,.tmp 6]=true:=by kernel_rfl
def C.aX : bZ:=(qs [qX 1 10 0,qB 2 false] [1] (qs [qT 7 5 1,⟨none,some 8,.call 100 [.t 7,kI 1]⟩,zM 6 8,qE 9 6 0,qE 10 6 1,qE 11 6 2,zM 3 9,zM 4 10,zM 5 11] [3,5] (qr [zM 12 5,zM 13 12,qm 13 true 14 3,zG 13 true 15 (.bin .leq (.t 14) (kI 40)),qP 16 13 15,zM 2 16] [2])))
theorem K.aX : iZ pZ 59 1 0 C.aX [.tmp 2]=true:=by kernel_rfl
def C.BI : bZ:=(qs [qX 3 10 0,qZ 6 11,qB 7 false] [1,2,3,6] (.seq (qs [zM 12 1,qL 13 12,qk 14 .eql 13 0] [1,2,3,6,14] (qc 14 (qr [zM 15 2,qT 16 5 3,⟨none,some 17,.GN (.t 15) [.t 16]⟩,qE 18 17 0,qE 19 17 1,qS 5 6 18,zM 7 19] [6,7]) .skip)) (.seq (.qW [(qT 21 5 3,[]),(zM 22 1,[]),(zA 23 (.wJ 1 (.t 22) (kI 0)),[1]),(qF 24 1 23,[1,2]),(q2 25 243 21 24,[0,1,2,3]),(zM 20 25,[0,1,2,3,4]),(qE 26 20 0,[0,1,2,3,4,5]),(qE 27 20 1,[0,1,2,3,4,5]),(zM 8 26,[0,1,2,3,4,5,6]),(zM 9 27,[0,1,2,3,4,5,6,7,8])] [1,2,3,6,8,9]) (.seq (qs [zM 28 9,qO 29 28] [1,2,3,6,8,29] (qc 29 (qr [zA 30 (.build zN []),qS 5 6 30,qB 7 false] [6,7]) .skip)) (.seq (.qW [(qA 32 4 3,[]),(qF 33 1 32,[0]),(zM 34 8,[]),(qD 35 5 33 34,[0,1,2]),(qT 36 5 35,[0,1,2,3]),(zM 37 1,[]),(zA 38 (.FD 1 (.t 37) (some (kI 1)) none),[5]),(zM 39 2,[]),(q3 40 239 36 38 39,[0,1,2,3,4,5,6,7]),(zM 31 40,[0,1,2,3,4,5,6,7,8]),(qE 41 31 0,[0,1,2,3,4,5,6,7,8,9]),(qE 42 31 1,[0,1,2,3,4,5,6,7,8,9]),(qZ 10 12,[]),(qS 5 10 41,[0,1,2,3,4,5,6,7,8,9,10,12]),(zM 9 42,[0,1,2,3,4,5,6,7,8,9,10,11,12,13])] [3,6,8,9,10]) (.seq (qs [zM 43 9,qO 44 43] [3,6,8,10,44] (qc 44 (qr [zA 45 (.build zN []),qS 5 6 45,qB 7 false] [6,7]) .skip)) (qs [qT 46 5 3,q1 47 61 46,qZ 11 13,qS 5 11 47] [6,8,10,11] (qs [qA 48 4 11,qF 49 1 48,zM 50 8,qT 51 5 10,qD 52 5 49 50,qS 5 52 51] [6,11] (qr [qT 53 5 11,qS 5 6 53,qB 7 true] [6,7])))))))))
theorem K.jF : iZ pZ 239 3 3 C.BI [.cell 6 true 5,.tmp 7]=true:=by kernel_rfl
def C.ni : bZ:=(qs [qX 2 10 0,qZ 4 11,qB 5 false] [1,2,4] (.seq (qs [zM 6 1,qO 7 6,zM 8 7,zG 8 false 9 (.load true 5 (.t 2)),⟨(some (8,false)),some 10,.call 59 [.t 9]⟩,zG 8 false 11 (.not (.t 10)),qQ 12 8 11] [2,4,12] (qc 12 (qr [zA 13 (.build zN []),qS 5 4 13,qB 5 false] [4,5]) .skip)) (qr [qT 14 5 2,qS 5 4 14,qB 5 true] [4,5])))
theorem K.ni : iZ pZ 163 2 0 C.ni [.cell 4 true 5,.tmp 5]=true:=by kernel_rfl
def C.iQ : bZ:=(qs [qB 2 false] [0] (.seq (qs [zM 5 0,qL 6 5,qk 7 .gtr 6 5] [0,7] (qc 7 (qr [qB 2 false] [2]) .skip)) (.seq (qs [zM 8 0,qL 9 8,qI 10 0] [8,9,10] (.block 0 (.loop (qs [qb 11 .lss 10 9] [8,9,10,11] (.seq (qc 11 .skip (.exit 0)) (.seq (.block 1 (qs [qD 12 1 8 10,qF 13 1 12,zM 4 13] [4,8,9,10] (qs [zM 14 4,q1 15 186 14,qO 16 15] [8,9,10,16] (qc 16 (qr [qB 2 false] [2]) .skip)))) (.reg [qk 17 .add 10 1,zM 10 17] [8,9,10]))))))) (qr [qB 2 true] [2]))))
theorem K.iQ : iZ pZ 161 1 0 C.iQ [.tmp 2]=true:=by kernel_rfl
def C.og : bZ:=(qs [qX 3 10 0,qX 4 11 1,qX 5 12 2,qZ 6 13,qB 7 false] [3,4,5,6] (.seq (qs [qT 9 5 3,q1 10 59 9,qO 11 10,zM 12 11,zG 12 false 13 (.load false 1 (.t 4)),⟨(some (12,false)),some 14,.call 161 [.t 13]⟩,zG 12 false 15 (.not (.t 14)),qQ 16 12 15,zM 17 16,zG 17 false 18 (.load true 5 (.t 5)),⟨(some (17,false)),some 19,.call 59 [.t 18]⟩,zG 17 false 20 (.not (.t 19)),qQ 21 17 20] [3,4,5,6,21] (qc 21 (qr [zA 22 (.build zN []),qS 5 6 22,qB 7 false] [6,7]) .skip)) (.seq (qs [qF 23 1 4,qL 24 23,qk 25 .eql 24 0] [3,4,5,6,25] (qc 25 (qr [qT 26 5 5,q1 27 61 26,qS 5 6 27,qB 7 true] [6,7]) .skip)) (qs [qF 28 1 4,qL 29 28,qk 30 .sub 29 1,zA 8 (.alloc 14 [lW 0]),qU 1 8 30] [3,4,5,6,8] (.seq (.qW [(qT 31 5 3,[]),(qF 32 1 4,[]),(qF 33 1 8,[]),(zA 34 (.FD 1 (.t 32) none (some (.t 33))),[1,2]),(zA 35 (.UO 240 [.t 4,.t 8,.t 5]),[]),(q3 36 239 31 34 35,[0,1,2,3,4]),(qE 37 36 0,[0,1,2,3,4,5]),(qE 38 36 1,[0,1,2,3,4,5]),(q2 39 163 37 38,[0,1,2,3,4,5,6,7]),(qE 40 39 0,[0,1,2,3,4,5,6,7,8]),(qE 41 39 1,[0,1,2,3,4,5,6,7,8]),(qS 5 6 40,[0,1,2,3,4,5,6,7,8,9,10]),(zM 7 41,[0,1,2,3,4,5,6,7,8,9,10,11])] [6,7]) .ret)))))
theorem K.og : iZ pZ 224 3 0 C.og [.cell 6 true 5,.tmp 7]=true:=by kernel_rfl
def C.kD : bZ:=(qs [qX 2 10 0,qZ 4 11,qB 5 false] [1,2,4] (.seq (qs [zM 10 1,qL 11 10,qI 12 0] [2,4,10,11,12] (.block 0 (.loop (qs [qb 13 .lss 12 11] [2,4,10,11,12,13] (.seq (qc 13 .skip (.exit 0)) (.seq (.block 1 (qs [qD 14 1 10 12,qF 15 1 14,zM 7 15] [2,4,7,10,11,12] (qs [qT 17 5 2,zM 18 7,q2 19 243 17 18,zM 16 19,qE 20 16 0,qE 21 16 1,zM 8 20,zM 9 21] [2,4,8,9,10,11,12] (.seq (qs [zM 22 9,qO 23 22] [2,4,8,10,11,12,23] (qc 23 (qr [zA 24 (.build zN []),qS 5 4 24,qB 5 false] [4,5]) .skip)) (.reg [qA 25 4 2,qF 26 1 25,zM 27 8,qD 28 5 26 27,qT 29 5 28,qS 5 2 29] [2,4,10,11,12]))))) (.reg [qk 30 .add 12 1,zM 12 30] [2,4,10,11,12]))))))) (qr [qT 31 5 2,qS 5 4 31,qB 5 true] [4,5])))
theorem K.kD : iZ pZ 245 2 0 C.kD [.cell 4 true 5,.tmp 5]=true:=by kernel_rfl
def C.tN : bZ:=(qs [qX 2 10 0,qZ 4 11,qB 5 false] [1,2,4] (.seq (qs [qT 8 5 2,q1 9 59 8,qO 10 9,zM 11 10,qm 11 false 12 1,⟨(some (11,false)),some 13,.call 161 [.t 12]⟩,zG 11 false 14 (.not (.t 13)),qQ 15 11 14] [1,2,4,15] (qc 15 (qr [zA 16 (.build zN []),qS 5 4 16,qB 5 false] [4,5]) .skip)) (qs [qT 18 5 2,zM 19 1,q2 20 245 18 19,zM 17 20,qE 21 17 0,qE 22 17 1,qZ 6 12,qS 5 6 21,zM 7 22] [4,6,7] (.seq (qs [zM 23 7,qO 24 23] [4,6,24] (qc 24 (qr [zA 25 (.build zN []),qS 5 4 25,qB 5 false] [4,5]) .skip)) (qr [qT 26 5 6,q1 27 61 26,qS 5 4 27,qB 5 true] [4,5])))))
theorem K.tN : iZ pZ 228 2 0 C.tN [.cell 4 true 5,.tmp 5]=true:=by kernel_rfl
def C.jR : bZ:=C.del 5 80 [.lit (.int .i64 0),.lit (.int .i64 0),.str [],.sl 1 [],.sl 5 []]
theorem K.jR : iZ pZ 231 3 1 C.jR [.tmp 6]=true:=by kernel_rfl
def C.slices_Delete_string : bZ:=C.del 1 16 [.str []]
theorem K.slices_Delete_string : iZ pZ 230 3 1 C.slices_Delete_string [.tmp 6]=true:=by kernel_rfl
def C.jv : bZ:=(qs [qX 3 10 0,qZ 4 11,qB 5 false] [1,2,3,4] (.seq (.qW [(qT 10 5 3,[]),(qF 11 1 1,[]),(qF 12 1 2,[]),(qD 13 1 11 12,[1,2]),(qF 14 1 13,[1,2,3]),(q2 15 243 10 14,[0,1,2,3,4]),(zM 9 15,[0,1,2,3,4,5]),(qE 16 9 0,[0,1,2,3,4,5,6]),(qE 17 9 1,[0,1,2,3,4,5,6]),(zM 6 16,[0,1,2,3,4,5,6,7]),(zM 7 17,[0,1,2,3,4,5,6,7,8,9])] [3,4,6,7]) (.seq (qs [zM 18 7,qO 19 18] [3,4,6,19] (qc 19 (qr [zA 20 (.build zN []),qS 5 4 20,qB 5 false] [4,5]) .skip)) (qs [qT 21 5 3,q1 22 61 21,qZ 8 12,qS 5 8 22] [3,4,6,8] (.cut (qs [qA 23 0 3,qF 24 1 23,qk 25 .eql 24 4] [4,6,8,25] (qc 25 (.reg [qA 26 3 8,qF 27 1 26,zM 28 6,zM 29 6,qk 30 .add 29 1,q3 31 230 27 28 30,qA 32 3 8,qU 1 32 31] [4,6,8]) .skip)) (qs [qA 33 4 8,qF 34 1 33,zM 35 6,zM 36 6,qk 37 .add 36 1,q3 38 231 34 35 37,qA 39 4 8,qU 1 39 38] [4,8] (qr [qT 40 5 8,qS 5 4 40,qB 5 true] [4,5])))))))
theorem K.jv : iZ pZ 242 3 2 C.jv [.cell 4 true 5,.tmp 5]=true:=by kernel_rfl
theorem K.ja : iZ pZ 239 3 2 C.BI [.cell 6 true 5,.tmp 7]=true:=by kernel_rfl
def C.lX : bZ:=(qs [qX 2 10 0,qX 3 11 1,qZ 4 12,qB 5 false] [2,3,4] (.seq (qs [qT 7 5 2,q1 8 59 7,qO 9 8,zM 10 9,zG 10 false 11 (.load false 1 (.t 3)),⟨(some (10,false)),some 12,.call 161 [.t 11]⟩,zG 10 false 13 (.not (.t 12)),qQ 14 10 13,zM 15 14,zG 15 false 16 (.load false 1 (.t 3)),zG 15 false 17 (.len (.t 16)),zG 15 false 18 (.bin .eql (.t 17) (kI 0)),qQ 19 15 18] [2,3,4,19] (qc 19 (qr [zA 20 (.build zN []),qS 5 4 20,qB 5 false] [4,5]) .skip)) (qs [qF 21 1 3,qL 22 21,qk 23 .sub 22 1,zA 6 (.alloc 13 [lW 0]),qU 1 6 23] [2,3,4,6] (.seq (.qW [(qT 24 5 2,[]),(qF 25 1 3,[]),(qF 26 1 6,[]),(zA 27 (.FD 1 (.t 25) none (some (.t 26))),[1,2]),(zA 28 (.UO 242 [.t 3,.t 6]),[]),(q3 29 239 24 27 28,[0,1,2,3,4]),(qE 30 29 0,[0,1,2,3,4,5]),(qE 31 29 1,[0,1,2,3,4,5]),(qS 5 4 30,[0,1,2,3,4,5,6,7]),(zM 5 31,[0,1,2,3,4,5,6,7,8])] [4,5]) .ret))))
theorem K.lX : iZ pZ 225 2 0 C.lX [.cell 4 true 5,.tmp 5]=true:=by kernel_rfl
def C.uk : bZ:=(qs [qX 2 10 0,qZ 3 11,qB 4 false] [1,3] (qr [qT 5 5 1,q1 6 61 5,qS 5 3 6,qB 4 true] [3,4]))
theorem K.uk : iZ pZ 244 2 1 C.uk [.cell 3 true 5,.tmp 4]=true:=by kernel_rfl
theorem K.jG : iZ pZ 239 3 1 C.BI [.cell 6 true 5,.tmp 7]=true:=by kernel_rfl
def C.uM : bZ:=(qs [qX 3 10 0,qX 5 11 2,qZ 6 12,qB 7 false] [1,3,5,6] (.seq (qs [qT 8 5 3,q1 9 59 8,qO 10 9,zM 11 10,qm 11 false 12 1,⟨(some (11,false)),some 13,.call 161 [.t 12]⟩,zG 11 false 14 (.not (.t 13)),qQ 15 11 14,zM 16 15,zG 16 false 17 (.load true 5 (.t 5)),⟨(some (16,false)),some 18,.call 59 [.t 17]⟩,zG 16 false 19 (.not (.t 18)),qQ 20 16 19] [1,3,5,6,20] (qc 20 (qr [zA 21 (.build zN []),qS 5 6 21,qB 7 false] [6,7]) .skip)) (qr [qT 22 5 3,zM 23 1,zA 24 (.UO 244 [.t 5]),q3 25 239 22 23 24,qE 26 25 0,qE 27 25 1,q2 28 163 26 27,qE 29 28 0,qE 30 28 1,qS 5 6 29,zM 7 30] [6,7])))
theorem K.uM : iZ pZ 226 3 0 C.uM [.cell 6 true 5,.tmp 7]=true:=by kernel_rfl
def C.rW : bZ:=(qs [qX 1 10 0,qB 2 false] [1] (qr [qA 3 0 1,qF 4 1 3,qk 5 .geq 4 1,zM 6 5,zG 6 true 7 (.kJ 0 (.t 1)),zG 6 true 8 (.load false 1 (.t 7)),zG 6 true 9 (.bin .leq (.t 8) (kI 6)),qP 10 6 9,zM 11 10,zG 11 true 12 (.kJ 1 (.t 1)),zG 11 true 13 (.load false 1 (.t 12)),⟨(some (11,true)),some 14,.call 161 [.t 13]⟩,qP 15 11 14,zM 16 15,zG 16 true 17 (.kJ 2 (.t 1)),zG 16 true 18 (.load false 1 (.t 17)),⟨(some (16,true)),some 19,.call 161 [.t 18]⟩,qP 20 16 19,zM 21 20,zG 21 true 22 (.kJ 3 (.t 1)),zG 21 true 23 (.load true 5 (.t 22)),⟨(some (21,true)),some 24,.call 59 [.t 23]⟩,qP 25 21 24,zM 2 25] [2]))
theorem K.rW : iZ pZ 162 1 0 C.rW [.tmp 2]=true:=by kernel_rfl
def C.slices_Equal_string : bZ:=(qs [qB 4 false] [0,1] (.seq (qs [zM 6 0,qL 7 6,zM 8 1,qL 9 8,qb 10 .neq 7 9] [0,1,10] (qc 10 (qr [qB 4 false] [4]) .skip)) (.seq (qs [zM 11 0,qL 12 11,qI 13 0] [0,1,12,13] (.block 0 (.loop (qs [qb 14 .lss 13 12] [0,1,12,13,14] (.seq (qc 14 .skip (.exit 0)) (.seq (.block 1 (qs [zM 15 13,zM 5 15] [0,1,5,12,13] (.seq (.qW [(zM 16 0,[]),(zM 17 5,[]),(qD 18 1 16 17,[0,1]),(qF 19 1 18,[0,1,2]),(zM 20 1,[]),(zM 21 5,[]),(qD 22 1 20 21,[4,5]),(qF 23 1 22,[4,5,6]),(qb 24 .neq 19 23,[0,1,2,3,4,5,6,7])] [0,1,12,13,24]) (qc 24 (qr [qB 4 false] [4]) .skip)))) (.reg [qk 25 .add 13 1,zM 13 25] [0,1,12,13]))))))) (qr [qB 4 true] [4]))))
theorem K.slices_Equal_string : iZ pZ 110 2 0 C.slices_Equal_string [.tmp 4]=true:=by kernel_rfl
def C.tu : bZ:=(qs [qX 3 10 0,qZ 6 11,qB 7 false] [1,2,3,6] (qs [qT 12 5 3,zM 13 1,q2 14 228 12 13,zM 11 14,qE 15 11 0,qE 16 11 1,qZ 8 12,qS 5 8 15,zM 9 16] [1,2,3,6,8,9] (.seq (qs [zM 17 9,qO 18 17] [1,2,3,6,8,18] (qc 18 (qr [zA 19 (.build zN []),qS 5 6 19,qB 7 false] [6,7]) .skip)) (.seq (qs [zM 20 2,zM 21 1,q2 22 110 20 21] [1,2,3,6,8,22] (qc 22 (qr [qT 23 5 3,q1 24 61 23,qS 5 6 24,qB 7 true] [6,7]) .skip)) (.seq (qs [zM 25 2,qL 26 25,zM 27 1,qL 28 27,qb 29 .gtr 26 28,zM 30 29,qm 30 true 31 2,qm 30 true 32 1,zG 30 true 33 (.len (.t 32)),zG 30 true 34 (.FD 1 (.t 31) none (some (.t 33))),qm 30 true 35 1,⟨(some (30,true)),some 36,.call 110 [.t 34,.t 35]⟩,qP 37 30 36] [1,2,3,6,8,37] (qc 37 (qr [zA 38 (.build zN []),qS 5 6 38,qB 7 false] [6,7]) .skip)) (qs [qT 40 5 3,zM 41 1,q2 42 225 40 41,zM 39 42,qE 43 39 0,qE 44 39 1,qZ 10 13,qS 5 10 43,zM 9 44] [2,6,8,9,10] (.seq (qs [zM 45 9,qO 46 45] [2,6,8,10,46] (qc 46 (qr [zA 47 (.build zN []),qS 5 6 47,qB 7 false] [6,7]) .skip)) (qr [qT 48 5 10,zM 49 2,qT 50 5 8,q3 51 224 48 49 50,qE 52 51 0,qE 53 51 1,qS 5 6 52,zM 7 53] [6,7]))))))))
theorem K.tu : iZ pZ 227 3 0 C.tu [.cell 6 true 5,.tmp 7]=true:=by kernel_rfl
def C.iK : bZ:=(qs [qI 4 0] [0,1] (qr [zM 5 0,zM 6 1,zA 7 (.ZU (.t 5) (.t 6)),zM 4 7] [4]))
theorem K.iK : iZ pZ 195 2 0 C.iK [.tmp 4]=true:=by kernel_rfl
def C.strings_Compare : bZ:=(qs [qI 4 0] [0,1] (qr [zM 5 0,zM 6 1,q2 7 195 5 6,zM 4 7] [4]))
theorem K.strings_Compare : iZ pZ 167 2 0 C.strings_Compare [.tmp 4]=true:=by kernel_rfl
def C.cZ : bZ:=(qs [qX 2 10 0,qX 3 11 1,qI 4 0] [2,3] (.seq (qs [qA 11 0 2,qF 12 1 11,qA 13 0 3,qF 14 1 13,q2 15 256 12 14,zM 5 15] [2,3,5] (qs [zM 16 5,qk 17 .neq 16 0] [2,3,5,17] (qc 17 (qr [zM 18 5,zM 4 18] [4]) .skip))) (.seq (qs [qA 19 1 2,qF 20 1 19,qA 21 1 3,qF 22 1 21,q2 23 256 20 22,zM 6 23] [2,3,6] (qs [zM 24 6,qk 25 .neq 24 0] [2,3,6,25] (qc 25 (qr [zM 26 6,zM 4 26] [4]) .skip))) (.seq (qs [qA 27 2 2,qF 28 1 27,qA 29 2 3,qF 30 1 29,q2 31 167 28 30,zM 7 31] [2,3,7] (qs [zM 32 7,qk 33 .neq 32 0] [2,3,7,33] (qc 33 (qr [zM 34 7,zM 4 34] [4]) .skip))) (.seq (qs [qI 8 0] [2,3,8] (.block 0 (.loop (.seq (qs [zM 35 8,qA 36 4 2,qF 37 1 36,qL 38 37,qb 39 .lss 35 38,zM 40 39,qm 40 true 41 8,zG 40 true 42 (.kJ 4 (.t 3)),zG 40 true 43 (.load false 1 (.t 42)),zG 40 true 44 (.len (.t 43)),zG 40 true 45 (.bin .lss (.t 41) (.t 44)),qP 46 40 45] [2,3,8,46] (qc 46 .skip (.exit 0))) (.seq (.block 1 (.cut (qs [qA 49 0 2,qF 50 1 49,qk 51 .eql 50 4] [2,3,8,51] (qc 51 (.seq (.qW [(qA 52 3 2,[]),(qF 53 1 52,[0]),(zM 54 8,[]),(qD 55 1 53 54,[0,1,2]),(qF 56 1 55,[0,1,2,3]),(qA 57 3 3,[]),(qF 58 1 57,[5]),(zM 59 8,[]),(qD 60 1 58 59,[5,6,7]),(qF 61 1 60,[5,6,7,8]),(q2 62 167 56 61,[0,1,2,3,4,5,6,7,8,9]),(zM 9 62,[0,1,2,3,4,5,6,7,8,9,10])] [2,3,8,9]) (qs [zM 63 9,qk 64 .neq 63 0] [2,3,8,9,64] (qc 64 (qr [zM 65 9,zM 4 65] [4]) .skip))) .skip)) (.seq (.qW [(qA 66 4 2,[]),(qF 67 1 66,[0]),(zM 68 8,[]),(qD 69 5 67 68,[0,1,2]),(qT 70 5 69,[0,1,2,3]),(qA 71 4 3,[]),(qF 72 1 71,[5]),(zM 73 8,[]),(qD 74 5 72 73,[5,6,7]),(qT 75 5 74,[5,6,7,8]),(q2 76 253 70 75,[0,1,2,3,4,5,6,7,8,9]),(zM 10 76,[0,1,2,3,4,5,6,7,8,9,10])] [2,3,8,10]) (qs [zM 77 10,qk 78 .neq 77 0] [2,3,8,10,78] (qc 78 (qr [zM 79 10,zM 4 79] [4]) .skip))))) (.reg [zM 47 8,qk 48 .add 47 1,zM 8 48] [2,3,8])))))) (qr [qA 80 4 2,qF 81 1 80,qL 82 81,qA 83 4 3,qF 84 1 83,qL 85 84,q2 86 256 82 85,zM 4 86] [4]))))))
theorem K.cZ : iZ pZ 253 2 0 C.cZ [.tmp 4]=true:=by kernel_rfl
def C.tC : bZ:=(qs [qX 2 10 0,qX 3 11 1,qB 4 false] [2,3] (qr [qT 5 5 2,qT 6 5 3,q2 7 253 5 6,qk 8 .eql 7 0,zM 4 8] [4]))
theorem K.tC : iZ pZ 246 2 0 C.tC [.tmp 4]=true:=by kernel_rfl
def C.qV : bZ:=(qs [qX 3 10 0,qX 5 11 2,qZ 6 12,qB 7 false] [1,3,5,6] (qs [qT 11 5 3,zM 12 1,q2 13 245 11 12,zM 10 13,qE 14 10 0,qE 15 10 1,qZ 8 13,qS 5 8 14,zM 9 15] [3,5,6,8,9] (.seq (qs [zM 16 9,qO 17 16,zM 18 17,zG 18 false 19 (.load true 5 (.t 8)),zG 18 false 20 (.load true 5 (.t 5)),⟨(some (18,false)),some 21,.call 246 [.t 19,.t 20]⟩,zG 18 false 22 (.not (.t 21)),qQ 23 18 22] [3,6,23] (qc 23 (qr [zA 24 (.build zN []),qS 5 6 24,qB 7 false] [6,7]) .skip)) (qr [qT 25 5 3,q1 26 61 25,qS 5 6 26,qB 7 true] [6,7]))))
theorem K.qV : iZ pZ 229 3 0 C.qV [.cell 6 true 5,.tmp 7]=true:=by kernel_rfl
def C.uI : bZ:=(qs [qX 2 10 0,qX 3 11 1,qZ 4 12,qB 5 false] [2,3,4] (.seq (qs [qT 8 5 2,q1 9 59 8,qO 10 9,zM 11 10,zG 11 false 12 (.load true 8 (.t 3)),⟨(some (11,false)),some 13,.call 162 [.t 12]⟩,zG 11 false 14 (.not (.t 13)),qQ 15 11 14] [2,3,4,15] (qc 15 (qr [zA 16 (.build zN []),qS 5 4 16,qB 5 false] [4,5]) .skip)) (.seq (qs [qA 17 0 3,qF 18 1 17] [2,3,4,18] (.block 0 (qs [qk 20 .eql 18 1,zM 19 20] [2,3,4,18,19] (qc 19 (qr [qT 21 5 2,qA 22 1 3,qF 23 1 22,qA 24 3 3,qT 25 5 24,q3 26 224 21 23 25,qE 27 26 0,qE 28 26 1,qS 5 4 27,zM 5 28] [4,5]) (qs [qk 30 .eql 18 2,zM 29 30] [2,3,4,18,29] (qc 29 (qr [qT 31 5 2,qA 32 1 3,qF 33 1 32,q2 34 225 31 33,qE 35 34 0,qE 36 34 1,qS 5 4 35,zM 5 36] [4,5]) (qs [qk 38 .eql 18 3,zM 37 38] [2,3,4,18,37] (qc 37 (qr [qT 39 5 2,qA 40 1 3,qF 41 1 40,qA 42 3 3,qT 43 5 42,q3 44 226 39 41 43,qE 45 44 0,qE 46 44 1,qS 5 4 45,zM 5 46] [4,5]) (qs [qk 48 .eql 18 4,zM 47 48] [2,3,4,18,47] (qc 47 (qr [qT 49 5 2,qA 50 2 3,qF 51 1 50,qA 52 1 3,qF 53 1 52,q3 54 227 49 51 53,qE 55 54 0,qE 56 54 1,qS 5 4 55,zM 5 56] [4,5]) (qs [qk 58 .eql 18 5,zM 57 58] [2,3,4,57] (qc 57 (qs [qT 60 5 2,qA 61 2 3,qF 62 1 61,q2 63 228 60 62,zM 59 63,qE 64 59 0,qE 65 59 1,qZ 6 13,qS 5 6 64,zM 7 65] [2,3,4,6,7] (.seq (qs [zM 66 7,qO 67 66] [2,3,4,6,67] (qc 67 (qr [zA 68 (.build zN []),qS 5 4 68,qB 5 false] [4,5]) .skip)) (qr [qT 69 5 2,qA 70 1 3,qF 71 1 70,qT 72 5 6,q3 73 224 69 71 72,qE 74 73 0,qE 75 73 1,qS 5 4 74,zM 5 75] [4,5]))) .skip)))))))))))) (qr [qT 76 5 2,qA 77 1 3,qF 78 1 77,qA 79 3 3,qT 80 5 79,q3 81 229 76 78 80,qE 82 81 0,qE 83 81 1,qS 5 4 82,zM 5 83] [4,5]))))
theorem K.uI : iZ pZ 214 2 0 C.uI [.cell 4 true 5,.tmp 5]=true:=by kernel_rfl
def C.fH : bZ:=(qs [qB 2 false] [0] (.seq (qs [zM 5 0,qL 6 5,qk 7 .gtr 6 12] [0,7] (qc 7 (qr [qB 2 false] [2]) .skip)) (.seq (qs [zM 8 0,qL 9 8,qI 10 0] [8,9,10] (.block 0 (.loop (qs [qb 11 .lss 10 9] [8,9,10,11] (.seq (qc 11 .skip (.exit 0)) (.seq (.block 1 (qs [qD 12 8 8 10,qT 13 8 12,zA 4 (.alloc 10 [lW 0,.jI 1,.jI 1,lW 0,lW 0,.c (.str []),.jI 1,.jI 5]),qS 8 4 13] [4,8,9,10] (qs [qT 14 8 4,q1 15 162 14,qO 16 15] [8,9,10,16] (qc 16 (qr [qB 2 false] [2]) .skip)))) (.reg [qk 17 .add 10 1,zM 10 17] [8,9,10]))))))) (qr [qB 2 true] [2]))))
theorem K.fH : iZ pZ 114 1 0 C.fH [.tmp 2]=true:=by kernel_rfl
def C.kX : bZ:=(qs [qX 2 10 0,qZ 4 11,qI 5 0] [1,2,4] (qs [qT 11 5 2,q1 12 61 11,qZ 6 12,qS 5 6 12] [1,4,6] (.seq (qs [zM 13 1,qL 14 13,qI 15 0] [1,4,6,13,14,15] (.block 0 (.loop (qs [qb 16 .lss 15 14] [1,4,6,13,14,15,16] (.seq (qc 16 .skip (.exit 0)) (.seq (.block 1 (qs [zM 17 15,qD 18 8 13 15,qT 19 8 18,zA 8 (.alloc 13 [lW 0,.jI 1,.jI 1,lW 0,lW 0,.c (.str []),.jI 1,.jI 5]),zM 7 17,qS 8 8 19] [1,4,6,7,8,13,14,15] (qs [qT 21 5 6,qT 22 8 8,q2 23 214 21 22,zM 20 23,qE 24 20 0,qE 25 20 1,qZ 9 14,qS 5 9 24,zM 10 25] [1,4,6,7,9,10,13,14,15] (.seq (qs [zM 26 10,qO 27 26] [1,4,6,7,9,13,14,15,27] (qc 27 (qr [zA 28 (.build zN []),zM 29 7,qS 5 4 28,zM 5 29] [4,5]) .skip)) (.reg [qT 30 5 9,qS 5 6 30] [1,4,6,13,14,15]))))) (.reg [qk 31 .add 15 1,zM 15 31] [1,4,6,13,14,15]))))))) (qr [qT 32 5 6,zM 33 1,qL 34 33,qS 5 4 32,zM 5 34] [4,5]))))
theorem K.kX : iZ pZ 197 2 0 C.kX [.cell 4 true 5,.tmp 5]=true:=by kernel_rfl
def C.pY : bZ:=(qs [qX 2 10 0,qZ 4 11,qB 5 false] [1,2,4] (.seq (qs [qT 8 5 2,q1 9 59 8,qO 10 9,zM 11 10,qm 11 false 12 1,⟨(some (11,false)),some 13,.call 114 [.t 12]⟩,zG 11 false 14 (.not (.t 13)),qQ 15 11 14] [1,2,4,15] (qc 15 (qr [zA 16 (.build zN []),qS 5 4 16,qB 5 false] [4,5]) .skip)) (qs [qT 18 5 2,zM 19 1,q2 20 197 18 19,zM 17 20,qE 21 17 0,qE 22 17 1,qZ 6 12,qS 5 6 21,zM 7 22] [1,4,6,7] (qr [qT 23 5 6,zM 24 7,zM 25 1,qL 26 25,qb 27 .eql 24 26,qS 5 4 23,zM 5 27] [4,5]))))
theorem K.pY : iZ pZ 170 2 0 C.pY [.cell 4 true 5,.tmp 5]=true:=by kernel_rfl
def C.jQ : bZ:=(qs [qI 4 0] [0,1] (qr [zM 5 0,zM 6 1,zA 7 (.aaj (.t 5) (.t 6)),zM 4 7] [4]))
theorem K.jQ : iZ pZ 158 2 0 C.jQ [.tmp 4]=true:=by kernel_rfl
def C.strings_IndexByte : bZ:=(qs [qI 4 0] [0,1] (qr [zM 5 0,zM 6 1,q2 7 158 5 6,zM 4 7] [4]))
theorem K.strings_IndexByte : iZ pZ 105 2 0 C.strings_IndexByte [.tmp 4]=true:=by kernel_rfl
def C.nN : bZ:=(qs [qB 2 false] [0] (.seq (qs [zM 4 0,ql 5 4,qk 6 .neq 5 4] [0,6] (qc 6 (qr [qB 2 false] [2]) .skip)) (.seq (qs [qI 3 0] [0,3] (.block 0 (.loop (.seq (qs [zM 7 3,zM 8 0,ql 9 8,qb 10 .lss 7 9] [0,3,10] (qc 10 .skip (.exit 0))) (.seq (.block 1 (qs [zM 13 0,zM 14 3,zA 15 (.idxs (.t 13) (.t 14)),⟨none,some 16,.call 105 [.k (.c (.str [48,49,50,51,52,53,54,55,56,57,97,98,99,100,101,102])),.t 15]⟩,qk 17 .lss 16 0] [0,3,17] (qc 17 (qr [qB 2 false] [2]) .skip))) (.reg [zM 11 3,qk 12 .add 11 1,zM 3 12] [0,3])))))) (qr [qB 2 true] [2]))))
theorem K.nN : iZ pZ 64 1 0 C.nN [.tmp 2]=true:=by kernel_rfl
def C.jk : bZ:=(qs [qB 2 false] [0] (.seq (qs [zM 5 0,qL 6 5,qk 7 .gtr 6 4] [0,7] (qc 7 (qr [qB 2 false] [2]) .skip)) (.seq (qs [zM 8 0,qL 9 8,qI 10 0] [8,9,10] (.block 0 (.loop (qs [qb 11 .lss 10 9] [8,9,10,11] (.seq (qc 11 .skip (.exit 0)) (.seq (.block 1 (qs [qD 12 1 8 10,qF 13 1 12,zM 4 13] [4,8,9,10] (qs [zM 14 4,zA 15 (.bin .neq (.t 14) (.k (.c (.str [42])))),zM 16 15,qm 16 true 17 4,⟨(some (16,true)),some 18,.call 64 [.t 17]⟩,zG 16 true 19 (.not (.t 18)),qP 20 16 19] [8,9,10,20] (qc 20 (qr [qB 2 false] [2]) .skip)))) (.reg [qk 21 .add 10 1,zM 10 21] [8,9,10]))))))) (qr [qB 2 true] [2]))))
theorem K.jk : iZ pZ 113 1 0 C.jk [.tmp 2]=true:=by kernel_rfl
def C.slices_Index_string : bZ:=(qs [qI 4 0] [0,1] (.seq (qs [zM 6 0,qL 7 6,qI 8 0] [0,1,7,8] (.block 0 (.loop (qs [qb 9 .lss 8 7] [0,1,7,8,9] (.seq (qc 9 .skip (.exit 0)) (.seq (.block 1 (qs [zM 10 8,zM 5 10] [0,1,5,7,8] (qs [zM 11 1,zM 12 0,zM 13 5,qD 14 1 12 13,qF 15 1 14,qb 16 .eql 11 15] [0,1,5,7,8,16] (qc 16 (qr [zM 17 5,zM 4 17] [4]) .skip)))) (.reg [qk 18 .add 8 1,zM 8 18] [0,1,7,8]))))))) (qr [qI 4 (-1)] [4])))
theorem K.slices_Index_string : iZ pZ 196 2 0 C.slices_Index_string [.tmp 4]=true:=by kernel_rfl
def C.slices_Contains_string : bZ:=(qs [qB 4 false] [0,1] (qr [zM 5 0,zM 6 1,q2 7 196 5 6,qk 8 .geq 7 0,zM 4 8] [4]))
theorem K.slices_Contains_string : iZ pZ 168 2 0 C.slices_Contains_string [.tmp 4]=true:=by kernel_rfl
def C.pX : bZ:=(qs [qB 4 false] [0,1] (qr [zM 5 0,zM 6 1,q2 7 168 5 6,zM 8 7,qm 8 false 9 0,⟨(some (8,false)),some 10,.call 168 [.t 9,.k (.c (.str [42]))]⟩,qQ 11 8 10,zM 4 11] [4]))
theorem K.pX : iZ pZ 119 2 0 C.pX [.tmp 4]=true:=by kernel_rfl
def C.kP : bZ:=(qs [qI 8 0] [0,1,2,3] (.cut (qs [zM 9 0,q1 10 113 9,qO 11 10,zM 12 11,qm 12 false 13 1,⟨(some (12,false)),some 14,.call 113 [.t 13]⟩,zG 12 false 15 (.not (.t 14)),qQ 16 12 15,zM 17 16,qm 17 false 18 2,zG 17 false 19 (.bin .neq (.t 18) (.k (.c (.str [])))),qm 17 false 20 19,qm 20 true 21 2,⟨(some (20,true)),some 22,.call 64 [.t 21]⟩,zG 20 true 23 (.not (.t 22)),zG 17 false 24 (.pick (.t 20) (.t 23) (kB false)),qQ 25 17 24] [0,1,2,3,25] (qc 25 (qr [qI 8 400] [8]) .skip)) (.seq (qs [zM 26 0,qL 27 26,qk 28 .gtr 27 0,zM 29 28,qm 29 true 30 2,zG 29 true 31 (.bin .eql (.t 30) (.k (.c (.str [])))),qm 29 true 32 31,qm 32 false 33 0,qm 32 false 34 2,⟨(some (32,false)),some 35,.call 119 [.t 33,.t 34]⟩,zG 32 false 36 (.not (.t 35)),zG 29 true 37 (.pick (.t 32) (kB true) (.t 36)),qP 38 29 37] [1,2,3,38] (qc 38 (qr [qI 8 412] [8]) .skip)) (.seq (qs [zM 39 1,qL 40 39,qk 41 .gtr 40 0,zM 42 41,qm 42 true 43 2,zG 42 true 44 (.bin .neq (.t 43) (.k (.c (.str [])))),qP 45 42 44,zM 46 45,qm 46 true 47 1,qm 46 true 48 2,⟨(some (46,true)),some 49,.call 119 [.t 47,.t 48]⟩,qP 50 46 49] [3,50] (qc 50 (.seq (qs [zM 51 3] [51] (qc 51 (qr [qI 8 304] [8]) .skip)) (qr [qI 8 412] [8])) .skip)) (qr [qI 8 200] [8])))))
theorem K.kP : iZ pZ 73 4 0 C.kP [.tmp 8]=true:=by kernel_rfl
def C.jV : bZ:=(qs [qB 2 false] [0] (.seq (qs [zM 4 0,zA 5 (.bin .eql (.t 4) (.k (.c (.str [])))),zM 6 5,qm 6 false 7 0,zG 6 false 8 (.lens (.t 7)),zG 6 false 9 (.bin .gtr (.t 8) (kI 8)),qQ 10 6 9] [0,10] (qc 10 (qr [qB 2 false] [2]) .skip)) (.seq (qs [qI 3 0] [0,3] (.block 0 (.loop (.seq (qs [zM 11 3,zM 12 0,ql 13 12,qb 14 .lss 11 13] [0,3,14] (qc 14 .skip (.exit 0))) (.seq (.block 1 (qs [zM 17 0,zM 18 3,zA 19 (.idxs (.t 17) (.t 18)),zA 20 (.bin .lss (.t 19) (.k (.c (.lit (.int .u8 97))))),zM 21 20,qm 21 false 22 0,qm 21 false 23 3,zG 21 false 24 (.idxs (.t 22) (.t 23)),zG 21 false 25 (.bin .gtr (.t 24) (.k (.c (.lit (.int .u8 122))))),qQ 26 21 25,zM 27 26,qm 27 true 28 0,qm 27 true 29 3,zG 27 true 30 (.idxs (.t 28) (.t 29)),zG 27 true 31 (.bin .lss (.t 30) (.k (.c (.lit (.int .u8 48))))),qm 27 true 32 31,qm 32 false 33 0,qm 32 false 34 3,zG 32 false 35 (.idxs (.t 33) (.t 34)),zG 32 false 36 (.bin .gtr (.t 35) (.k (.c (.lit (.int .u8 57))))),zG 27 true 37 (.pick (.t 32) (kB true) (.t 36)),qP 38 27 37] [0,3,38] (qc 38 (qr [qB 2 false] [2]) .skip))) (.reg [zM 15 3,qk 16 .add 15 1,zM 3 16] [0,3])))))) (qr [qB 2 true] [2]))))
theorem K.jV : iZ pZ 58 1 0 C.jV [.tmp 2]=true:=by kernel_rfl
def C.dw : bZ:=(qs [qX 1 10 0,qB 2 false] [1] (.seq (qs [qA 5 0 1,qF 6 1 5,qL 7 6,qk 8 .gtr 7 10,zM 9 8,zG 9 false 10 (.kJ 1 (.t 1)),zG 9 false 11 (.load false 1 (.t 10)),zG 9 false 12 (.bin .lss (.t 11) (kI 0)),qQ 13 9 12,zM 14 13,zG 14 false 15 (.kJ 1 (.t 1)),zG 14 false 16 (.load false 1 (.t 15)),zG 14 false 17 (.bin .gtr (.t 16) (kI 999)),qQ 18 14 17] [1,18] (qc 18 (qr [qB 2 false] [2]) .skip)) (.seq (qs [qA 19 0 1,qF 20 1 19,qL 21 20,qI 22 0] [1,20,21,22] (.block 0 (.loop (qs [qb 23 .lss 22 21] [1,20,21,22,23] (.seq (qc 23 .skip (.exit 0)) (.seq (.block 1 (qs [zM 24 22,qD 25 7 20 22,qT 26 7 25,zA 4 (.alloc 11 [.c (.str []),lW 0,lW 0,lW 0,.c (.str []),.jI 1,.jI 5]),zM 3 24,qS 7 4 26] [1,3,4,20,21,22] (.seq (.seq (.qW [(qA 27 0 4,[]),(qF 28 1 27,[0]),(q1 29 58 28,[0,1]),(qO 30 29,[0,1,2]),(zM 31 30,[0,1,2,3]),(qm 31 false 32 3,[0,1,2,3,4]),(zG 31 false 33 (.bin .gtr (.t 32) (kI 0)),[0,1,2,3,4,5]),(qm 31 false 34 33,[0,1,2,3,4,5,6]),(zG 34 true 35 (.kJ 0 (.t 1)),[0,1,2,3,4,5,6,7]),(zG 34 true 36 (.load false 1 (.t 35)),[0,1,2,3,4,5,6,7,8]),(qm 34 true 37 3,[0,1,2,3,4,5,6,7]),(zG 34 true 38 (.bin .sub (.t 37) (kI 1)),[0,1,2,3,4,5,6,7,10]),(zG 34 true 39 (.wJ 7 (.t 36) (.t 38)),[0,1,2,3,4,5,6,7,8,9,10,11]),(zG 34 true 40 (.kJ 0 (.t 39)),[0,1,2,3,4,5,6,7,8,9,10,11,12]),(zG 34 true 41 (.load false 1 (.t 40)),[0,1,2,3,4,5,6,7,8,9,10,11,12,13]),(zG 34 true 42 (.kJ 0 (.t 4)),[0,1,2,3,4,5,6,7]),(zG 34 true 43 (.load false 1 (.t 42)),[0,1,2,3,4,5,6,7,15]),(zG 34 true 44 (.bin .geq (.t 41) (.t 43)),[0,1,2,3,4,5,6,7,8,9,10,11,12,13,14,15,16]),(zG 31 false 45 (.pick (.t 34) (.t 44) (kB false)),[0,1,2,3,4,5,6,7,8,9,10,11,12,13,14,15,16,17]),(qQ 46 31 45,[0,1,2,3,4,5,6,7,8,9,10,11,12,13,14,15,16,17,18])] [1,4,20,21,22,46]) (qc 46 (qr [qB 2 false] [2]) .skip)) (qs [qA 47 1 4,qF 48 1 47,qk 49 .lss 48 1,zM 50 49,zG 50 false 51 (.kJ 1 (.t 4)),zG 50 false 52 (.load false 1 (.t 51)),zG 50 false 53 (.kJ 1 (.t 1)),zG 50 false 54 (.load false 1 (.t 53)),zG 50 false 55 (.bin .gtr (.t 52) (.t 54)),qQ 56 50 55,zM 57 56,zG 57 false 58 (.kJ 2 (.t 4)),zG 57 false 59 (.load true 5 (.t 58)),⟨(some (57,false)),some 60,.call 59 [.t 59]⟩,zG 57 false 61 (.not (.t 60)),qQ 62 57 61] [1,20,21,22,62] (qc 62 (qr [qB 2 false] [2]) .skip))))) (.reg [qk 63 .add 22 1,zM 22 63] [1,20,21,22]))))))) (qr [qB 2 true] [2]))))
theorem K.dw : iZ pZ 35 1 0 C.dw [.tmp 2]=true:=by kernel_rfl
def C.qR : bZ:=(qs [qX 1 10 0,zA 2 (.alloc 11 [.c (.str []),lW 0,lW 0,lW 0,.c (.str []),.jI 1,.jI 5])] [1,2] (.seq (.qW [(qA 3 0 1,[]),(qF 4 1 3,[0]),(qA 5 1 1,[]),(qF 6 1 5,[2]),(qA 7 2 1,[]),(qT 8 5 7,[4]),(q1 9 61 8,[4,5]),(zA 10 (.build [.c (.str []),lW 0,lW 0,lW 0,.c (.str []),.jI 1,.jI 5] [(0,1,.t 4),(1,1,.t 6),(2,5,.t 9)]),[0,1,2,3,4,5,6]),(qS 7 2 10,[0,1,2,3,4,5,6,7])] [2]) .ret))
theorem K.qR : iZ pZ 37 1 0 C.qR [.cell 2 true 7]=true:=by kernel_rfl
def C.eu : bZ:=(qs [qX 1 10 0,zA 2 (.alloc 11 [.jI 7,lW 0])] [1,2] (qs [qA 6 1 1,qF 7 1 6,zA 8 (.build [.jI 7,lW 0] [(1,1,.t 7)]),zA 3 (.alloc 12 [.jI 7,lW 0]),qS 2 3 8] [1,2,3] (.seq (qs [qA 9 0 1,qF 10 1 9,qL 11 10,qk 12 .gtr 11 0] [1,2,3,12] (qc 12 (qs [qA 13 0 1,qF 14 1 13,qL 15 14,zA 16 (.makes 13 7 104 [.str [],.lit (.int .i64 0),.lit (.int .i64 0),.lit (.int .i64 0),.str [],.sl 1 [],.sl 5 []] (.t 15) (.t 15)),qA 17 0 3,qU 1 17 16] [1,2,3] (qs [qA 18 0 1,qF 19 1 18,qL 20 19,qI 21 0] [2,3,19,20,21] (.block 0 (.loop (qs [qb 22 .lss 21 20] [2,3,19,20,21,22] (.seq (qc 22 .skip (.exit 0)) (.seq (.block 1 (qs [zM 23 21,qD 24 7 19 21,qT 25 7 24,zA 5 (.alloc 14 [.c (.str []),lW 0,lW 0,lW 0,.c (.str []),.jI 1,.jI 5]),zM 4 23,qS 7 5 25] [2,3,4,5,19,20,21] (.qW [(qA 26 0 3,[]),(qF 27 1 26,[0]),(zM 28 4,[]),(qT 29 7 5,[]),(q1 30 37 29,[3]),(qD 31 7 27 28,[0,1,2,3,4]),(qS 7 31 30,[0,1,2,3,4,5])] [2,3,19,20,21]))) (.reg [qk 32 .add 21 1,zM 21 32] [2,3,19,20,21])))))))) .skip)) (qr [qT 33 2 3,qS 2 2 33] [2]))))
theorem K.eu : iZ pZ 23 1 0 C.eu [.cell 2 true 2]=true:=by kernel_rfl
def C.ru : bZ:=(qs [qX 2 10 0,qI 4 0] [1,2] (qr [qA 5 0 2,qF 6 1 5,zM 7 1,q2 8 167 6 7,zM 4 8] [4]))
theorem K.ru : iZ pZ 166 2 0 C.ru [.tmp 4]=true:=by kernel_rfl
def C.xG : bZ:=(qs [qI 6 0,qB 7 false] [0,1,2] (qs [zM 12 0,qL 13 12,zM 8 13] [0,1,2,8] (qs [zM 14 8,qI 9 0,zM 10 14] [0,1,2,8,9,10] (.seq (.block 0 (.loop (.seq (qs [zM 15 9,zM 16 10,qb 17 .lss 15 16] [0,1,2,8,9,10,17] (qc 17 .skip (.exit 0))) (.block 1 (qs [zM 18 9,zM 19 10,qb 20 .add 18 19,zA 21 (.Gv .u64 (.t 20)),zA 22 (.shf false (.t 21) (.k (.c (.lit (.int .u64 1))))),zA 23 (.Gv .i64 (.t 22)),zM 11 23] [0,1,2,8,9,10,11] (qs [zM 24 2,zM 25 0,zM 26 11,qD 27 7 25 26,qT 28 7 27,zM 29 1,⟨none,some 30,.GN (.t 24) [.t 28,.t 29]⟩,qk 31 .lss 30 0] [0,1,2,8,9,10,11,31] (qc 31 (.reg [zM 32 11,qk 33 .add 32 1,zM 9 33] [0,1,2,8,9,10]) (.reg [zM 34 11,zM 10 34] [0,1,2,8,9,10])))))))) (qr [zM 35 9,zM 36 9,zM 37 8,qb 38 .lss 36 37,zM 39 38,qm 39 true 40 2,qm 39 true 41 0,qm 39 true 42 9,zG 39 true 43 (.wJ 7 (.t 41) (.t 42)),zG 39 true 44 (.load true 7 (.t 43)),qm 39 true 45 1,⟨(some (39,true)),some 46,.GN (.t 40) [.t 44,.t 45]⟩,zG 39 true 47 (.bin .eql (.t 46) (kI 0)),qP 48 39 47,zM 6 35,zM 7 48] [6,7])))))
theorem K.aI : iZ pZ 165 3 0 C.xG [.tmp 6,.tmp 7]=true:=by kernel_rfl
def C.nR : bZ:=(qs [qI 4 0,qB 5 false] [0,1] (qr [zM 6 0,zM 7 1,⟨none,some 8,.call 165 [.t 6,.t 7,.k (.fn 166 [])]⟩,qE 9 8 0,qE 10 8 1,zM 4 9,zM 5 10] [4,5]))
theorem K.nR : iZ pZ 117 2 0 C.nR [.tmp 4,.tmp 5]=true:=by kernel_rfl
def C.nS : bZ:=C.del 7 104 [.str [],.lit (.int .i64 0),.lit (.int .i64 0),.lit (.int .i64 0),.str [],.sl 1 [],.sl 5 []]
theorem K.nS : iZ pZ 169 3 1 C.nS [.tmp 6]=true:=by kernel_rfl
def C.sW : bZ:=(qs [qX 2 10 0,zA 4 (.alloc 11 [.jI 7,lW 0]),qB 5 false] [1,2,4] (.seq (qs [qT 9 2 2,q1 10 35 9,qO 11 10,zM 12 11,zG 12 false 13 (.kJ 1 (.t 2)),zG 12 false 14 (.load false 1 (.t 13)),zG 12 false 15 (.bin .eql (.t 14) (kI 999)),qQ 16 12 15] [1,2,4,16] (qc 16 (qr [zA 17 (.build [.jI 7,lW 0] []),qS 2 4 17,qB 5 false] [4,5]) .skip)) (qs [qA 19 0 2,qF 20 1 19,zM 21 1,q2 22 117 20 21,zM 18 22,qE 23 18 0,qE 24 18 1,zM 6 23,zM 7 24] [2,4,6,7] (.seq (qs [zM 25 7,qO 26 25] [2,4,6,26] (qc 26 (qr [zA 27 (.build [.jI 7,lW 0] []),qS 2 4 27,qB 5 false] [4,5]) .skip)) (qs [qT 28 2 2,q1 29 23 28,zA 8 (.alloc 12 [.jI 7,lW 0]),qS 2 8 29] [4,6,8] (qs [qA 30 1 8,qF 31 1 30,qk 32 .add 31 1,qA 33 1 8,qU 1 33 32] [4,6,8] (qs [qA 34 0 8,qF 35 1 34,zM 36 6,zM 37 6,qk 38 .add 37 1,q3 39 169 35 36 38,qA 40 0 8,qU 1 40 39] [4,8] (qr [qT 41 2 8,qS 2 4 41,qB 5 true] [4,5]))))))))
theorem K.sW : iZ pZ 120 2 0 C.sW [.cell 4 true 2,.tmp 5]=true:=by kernel_rfl
def C.gW : bZ:=(qs [zM 5 0,⟨none,some 6,.call 16 [.t 5,.k (.c (.lit (.int .u8 34)))]⟩] [0,1] (.seq (qs [qI 4 0] [0,1,4] (.block 0 (.loop (.seq (qs [zM 7 4,zM 8 1,ql 9 8,qb 10 .lss 7 9] [0,1,4,10] (qc 10 .skip (.exit 0))) (.seq (.block 1 (.cut (qs [zM 13 1,zM 14 4,zA 15 (.idxs (.t 13) (.t 14)),zA 16 (.bin .eql (.t 15) (.k (.c (.lit (.int .u8 34))))),zM 17 16,qm 17 false 18 1,qm 17 false 19 4,zG 17 false 20 (.idxs (.t 18) (.t 19)),zG 17 false 21 (.bin .eql (.t 20) (.k (.c (.lit (.int .u8 92))))),qQ 22 17 21] [0,1,4,22] (qc 22 (.reg [zM 23 0,⟨none,some 24,.call 16 [.t 23,.k (.c (.lit (.int .u8 92)))]⟩] [0,1,4]) .skip)) (.reg [zM 25 0,zM 26 1,zM 27 4,zA 28 (.idxs (.t 26) (.t 27)),q2 29 16 25 28] [0,1,4]))) (.reg [zM 11 4,qk 12 .add 11 1,zM 4 12] [0,1,4])))))) (.reg [zM 30 0,⟨none,some 31,.call 16 [.t 30,.k (.c (.lit (.int .u8 34)))]⟩] [])))
theorem K.gW : iZ pZ 116 2 2 C.gW []=true:=by kernel_rfl
def C.bV : bZ:=(qs [qX 3 10 1] [0,3] (qs [qA 8 0 3,qF 9 1 8] [0,3,9] (.block 0 (qs [qk 11 .eql 9 0,zM 10 11] [0,3,9,10] (qc 10 (.reg [zM 12 0,⟨none,some 13,.call 14 [.t 12,.k (.c (.str [110,117,108,108]))]⟩] []) (qs [qk 15 .eql 9 1,zM 14 15] [0,3,9,14] (qc 14 (.reg [zM 16 0,qA 17 1 3,qF 18 1 17,q1 19 21 18,q2 20 14 16 19] []) (qs [qk 22 .eql 9 2,zM 21 22] [0,3,9,21] (qc 21 (.reg [zM 23 0,qA 24 2 3,qF 25 1 24,q2 26 116 23 25] []) (qs [qk 28 .eql 9 3,zM 27 28] [0,3,9,27] (qc 27 (qs [zM 29 0,⟨none,some 30,.call 16 [.t 29,.k (.c (.lit (.int .u8 91)))]⟩] [0,3] (.seq (qs [qA 31 4 3,qF 32 1 31,qL 33 32,qI 34 0] [0,32,33,34] (.block 1 (.loop (qs [qb 35 .lss 34 33] [0,32,33,34,35] (.seq (qc 35 .skip (.exit 1)) (.seq (.block 2 (qs [zM 36 34,qD 37 5 32 34,qT 38 5 37,qZ 5 11,zM 4 36,qS 5 5 38] [0,4,5,32,33,34] (.cut (qs [zM 39 4,qk 40 .gtr 39 0] [0,5,32,33,34,40] (qc 40 (.reg [zM 41 0,⟨none,some 42,.call 16 [.t 41,.k (.c (.lit (.int .u8 44)))]⟩] [0,5,32,33,34]) .skip)) (.reg [zM 43 0,qT 44 5 5,q2 45 76 43 44] [0,32,33,34])))) (.reg [qk 46 .add 34 1,zM 34 46] [0,32,33,34]))))))) (.reg [zM 47 0,⟨none,some 48,.call 16 [.t 47,.k (.c (.lit (.int .u8 93)))]⟩] []))) (qs [qk 50 .eql 9 4,zM 49 50] [0,3,49] (qc 49 (qs [zM 51 0,⟨none,some 52,.call 16 [.t 51,.k (.c (.lit (.int .u8 123)))]⟩] [0,3] (.seq (qs [qA 53 4 3,qF 54 1 53,qL 55 54,qI 56 0] [0,3,54,55,56] (.block 3 (.loop (qs [qb 57 .lss 56 55] [0,3,54,55,56,57] (.seq (qc 57 .skip (.exit 3)) (.seq (.block 4 (qs [zM 58 56,qD 59 5 54 56,qT 60 5 59,qZ 7 12,zM 6 58,qS 5 7 60] [0,3,6,7,54,55,56] (.cut (qs [zM 61 6,qk 62 .gtr 61 0] [0,3,6,7,54,55,56,62] (qc 62 (.reg [zM 63 0,⟨none,some 64,.call 16 [.t 63,.k (.c (.lit (.int .u8 44)))]⟩] [0,3,6,7,54,55,56]) .skip)) (qs [zM 65 0,qA 66 3 3,qF 67 1 66,zM 68 6,qD 69 1 67 68,qF 70 1 69,q2 71 116 65 70] [0,3,7,54,55,56] (qs [zM 72 0,⟨none,some 73,.call 16 [.t 72,.k (.c (.lit (.int .u8 58)))]⟩] [0,3,7,54,55,56] (.reg [zM 74 0,qT 75 5 7,q2 76 76 74 75] [0,3,54,55,56])))))) (.reg [qk 77 .add 56 1,zM 56 77] [0,3,54,55,56]))))))) (.reg [zM 78 0,⟨none,some 79,.call 16 [.t 78,.k (.c (.lit (.int .u8 125)))]⟩] []))) .skip)))))))))))))
theorem K.bV : iZ pZ 76 2 2 C.bV []=true:=by kernel_rfl
def C.jY : bZ:=(qs [qX 1 10 0,zA 2 (.mv (.k (.c (.str []))))] [1] (.seq (qs [qT 4 5 1,q1 5 59 4,qO 6 5] [1,6] (qc 6 (qr [zA 2 (.mv (.k (.c (.str []))))] [2]) .skip)) (qs [zA 3 (.FO 40 5 12 11)] [1,3] (qs [qT 7 5 1,q2 8 76 3 7] [3] (qr [q1 9 17 3,zM 2 9] [2])))))
theorem K.jY : iZ pZ 46 1 0 C.jY [.tmp 2]=true:=by kernel_rfl
def C.gK : bZ:=(qs [zA 2 (.mv (.k (.c (.str []))))] [0] (.seq (qs [zM 6 0,q1 7 113 6,qO 8 7] [0,8] (qc 8 (qr [zA 2 (.mv (.k (.c (.str []))))] [2]) .skip)) (qs [zA 3 (.FO 40 5 11 10)] [0,3] (.seq (qs [zM 9 0,qL 10 9,qI 11 0] [3,9,10,11] (.block 0 (.loop (qs [qb 12 .lss 11 10] [3,9,10,11,12] (.seq (qc 12 .skip (.exit 0)) (.seq (.block 1 (qs [zM 13 11,qD 14 1 9 11,qF 15 1 14,zM 4 13,zM 5 15] [3,4,5,9,10,11] (.cut (qs [zM 16 4,qk 17 .gtr 16 0] [3,5,9,10,11,17] (qc 17 (.reg [⟨none,some 18,.call 16 [.t 3,.k (.c (.lit (.int .u8 44)))]⟩] [3,5,9,10,11]) .skip)) (qs [zM 19 5,zA 20 (.bin .eql (.t 19) (.k (.c (.str [42]))))] [3,5,9,10,11,20] (qc 20 (.reg [zM 21 5,q2 22 14 3 21] [3,9,10,11]) (.reg [zM 23 5,q2 24 116 3 23] [3,9,10,11])))))) (.reg [qk 25 .add 11 1,zM 11 25] [3,9,10,11]))))))) (qr [q1 26 17 3,zM 2 26] [2])))))
theorem K.gK : iZ pZ 70 1 0 C.gK [.tmp 2]=true:=by kernel_rfl
def C.uD : bZ:=(qs [zA 2 (.mv (.k (.c (.str []))))] [0] (.seq (qs [zM 3 0] [3] (.block 0 (qs [qk 5 .eql 3 1,zM 4 5] [3,4] (qc 4 (qr [zA 2 (.mv (.k (.c (.str [97,100,100]))))] [2]) (qs [qk 7 .eql 3 2,zM 6 7] [3,6] (qc 6 (qr [zA 2 (.mv (.k (.c (.str [114,101,109,111,118,101]))))] [2]) (qs [qk 9 .eql 3 3,zM 8 9] [3,8] (qc 8 (qr [zA 2 (.mv (.k (.c (.str [114,101,112,108,97,99,101]))))] [2]) (qs [qk 11 .eql 3 4,zM 10 11] [3,10] (qc 10 (qr [zA 2 (.mv (.k (.c (.str [109,111,118,101]))))] [2]) (qs [qk 13 .eql 3 5,zM 12 13] [3,12] (qc 12 (qr [zA 2 (.mv (.k (.c (.str [99,111,112,121]))))] [2]) (qs [qk 15 .eql 3 6,zM 14 15] [14] (qc 14 (qr [zA 2 (.mv (.k (.c (.str [116,101,115,116]))))] [2]) .skip)))))))))))))) (qr [zA 2 (.mv (.k (.c (.str []))))] [2])))
theorem K.uD : iZ pZ 112 1 0 C.uD [.tmp 2]=true:=by kernel_rfl
def C.kS : bZ:=(qs [qZ 2 10] [0,2] (qs [zA 6 (.build zN [(0,1,kI 3)]),qZ 3 11,qS 5 3 6] [0,2,3] (.seq (qs [zM 7 0,qL 8 7,qI 9 0] [2,3,7,8,9] (.block 0 (.loop (qs [qb 10 .lss 9 8] [2,3,7,8,9,10] (.seq (qc 10 .skip (.exit 0)) (.seq (.block 1 (qs [qD 11 1 7 9,qF 12 1 11,zM 5 12] [2,3,5,7,8,9] (.reg [qA 13 4 3,qF 14 1 13,zM 15 5,zA 16 (.build zN [(0,1,kI 2),(2,1,.t 15)]),zA 17 (.jK 12 5 1 [.lit (.int .i64 0),.lit (.int .i64 0),.str [],.sl 1 [],.sl 5 []] [(0,.t 16)]),zA 18 (.append 13 5 80 (.t 14) (.t 17)),qA 19 4 3,qU 1 19 18] [2,3,7,8,9]))) (.reg [qk 20 .add 9 1,zM 9 20] [2,3,7,8,9]))))))) (qr [qT 21 5 3,qS 5 2 21] [2]))))
theorem K.kS : iZ pZ 164 1 0 C.kS [.cell 2 true 5]=true:=by kernel_rfl
def C.tq : bZ:=(qs [qX 1 10 0,qZ 2 11,qB 3 false] [1,2] (.seq (qs [qT 4 8 1,q1 5 162 4,qO 6 5] [1,2,6] (qc 6 (qr [zA 7 (.build zN []),qS 5 2 7,qB 3 false] [2,3]) .skip)) (.seq (.qW [(zA 8 (.jK 12 1 4 [.str []] [(0,.k (.c (.str [102,114,111,109]))),(1,.k (.c (.str [111,112]))),(2,.k (.c (.str [112,97,116,104]))),(3,.k (.c (.str [118,97,108,117,101])))]),[]),(qA 9 2 1,[]),(qF 10 1 9,[1]),(q1 11 164 10,[1,2]),(qA 12 0 1,[]),(qF 13 1 12,[4]),(q1 14 112 13,[1,2,3,4,5]),(zA 15 (.build zN [(0,1,kI 2),(2,1,.t 14)]),[1,2,3,4,5,6]),(qA 16 1 1,[]),(qF 17 1 16,[8]),(q1 18 164 17,[1,2,3,4,5,6,8,9]),(qA 19 3 1,[]),(qT 20 5 19,[11]),(q1 21 61 20,[1,2,3,4,5,6,8,9,10,11,12]),(zA 22 (.jK 13 5 4 [.lit (.int .i64 0),.lit (.int .i64 0),.str [],.sl 1 [],.sl 5 []] [(0,.t 11),(1,.t 15),(2,.t 18),(3,.t 21)]),[1,2,3,4,5,6,7,8,9,10,11,12,13]),(zA 23 (.build zN [(0,1,kI 4),(3,1,.t 8),(4,1,.t 22)]),[0,1,2,3,4,5,6,7,8,9,10,11,12,13,14]),(⟨none,some 24,.call 163 [.t 23,.k (.c (.lit (.bool true)))]⟩,[0,1,2,3,4,5,6,7,8,9,10,11,12,13,14,15]),(qE 25 24 0,[0,1,2,3,4,5,6,7,8,9,10,11,12,13,14,15,16]),(qE 26 24 1,[0,1,2,3,4,5,6,7,8,9,10,11,12,13,14,15,16]),(qS 5 2 25,[0,1,2,3,4,5,6,7,8,9,10,11,12,13,14,15,16,17,18]),(zM 3 26,[0,1,2,3,4,5,6,7,8,9,10,11,12,13,14,15,16,17,18,19])] [2,3]) .ret)))
theorem K.tq : iZ pZ 115 1 0 C.tq [.cell 2 true 5,.tmp 3]=true:=by kernel_rfl
def C.kQ : bZ:=(qs [zA 2 (.mv (.k (.c (.str [])))),qB 3 false] [0] (qs [zA 4 (.FO 40 5 11 10)] [0,4] (.seq (qs [zM 9 0,qL 10 9,qI 11 0] [4,9,10,11] (.block 0 (.loop (qs [qb 12 .lss 11 10] [4,9,10,11,12] (.seq (qc 12 .skip (.exit 0)) (.seq (.block 1 (qs [qD 13 8 9 11,qT 14 8 13,zA 6 (.alloc 12 [lW 0,.jI 1,.jI 1,lW 0,lW 0,.c (.str []),.jI 1,.jI 5]),qS 8 6 14] [4,6,9,10,11] (qs [qT 16 8 6,q1 17 115 16,zM 15 17,qE 18 15 0,qE 19 15 1,qZ 7 13,qS 5 7 18,zM 8 19] [4,7,8,9,10,11] (.seq (qs [zM 20 8,qO 21 20] [4,7,9,10,11,21] (qc 21 (qr [zA 2 (.mv (.k (.c (.str [])))),qB 3 false] [2,3]) .skip)) (qs [qT 22 5 7,q2 23 76 4 22] [4,9,10,11] (.reg [⟨none,some 24,.call 16 [.t 4,.k (.c (.lit (.int .u8 59)))]⟩] [4,9,10,11])))))) (.reg [qk 25 .add 11 1,zM 11 25] [4,9,10,11]))))))) (qr [q1 26 17 4,zM 2 26,qB 3 true] [2,3]))))
theorem K.kQ : iZ pZ 69 1 0 C.kQ [.tmp 2,.tmp 3]=true:=by kernel_rfl
def C.lT : bZ:=(qs [qX 1 10 0,qB 2 false] [1] (qr [qA 3 0 1,qF 4 1 3,qk 5 .geq 4 1,zM 6 5,zG 6 true 7 (.kJ 0 (.t 1)),zG 6 true 8 (.load false 1 (.t 7)),zG 6 true 9 (.bin .leq (.t 8) (kI 5)),qP 10 6 9,zM 11 10,zG 11 true 12 (.kJ 1 (.t 1)),zG 11 true 13 (.load false 1 (.t 12)),⟨(some (11,true)),some 14,.call 58 [.t 13]⟩,qP 15 11 14,zM 16 15,zG 16 true 17 (.kJ 2 (.t 1)),zG 16 true 18 (.load false 1 (.t 17)),⟨(some (16,true)),some 19,.call 113 [.t 18]⟩,qP 20 16 19,zM 21 20,zG 21 true 22 (.kJ 3 (.t 1)),zG 21 true 23 (.load false 1 (.t 22)),⟨(some (21,true)),some 24,.call 113 [.t 23]⟩,qP 25 21 24,zM 26 25,zG 26 true 27 (.kJ 4 (.t 1)),zG 26 true 28 (.load true 5 (.t 27)),⟨(some (26,true)),some 29,.call 59 [.t 28]⟩,qP 30 26 29,zM 31 30,zG 31 true 32 (.kJ 9 (.t 1)),zG 31 true 33 (.load false 1 (.t 32)),⟨(some (31,true)),some 34,.call 114 [.t 33]⟩,qP 35 31 34,zM 2 35] [2]))
theorem K.lT : iZ pZ 68 1 0 C.lT [.tmp 2]=true:=by kernel_rfl
def C.nH : bZ:=(qs [zA 2 (.mv (.k (.c (.str []))))] [0] (.seq (qs [zM 3 0] [3] (.block 0 (qs [qk 5 .eql 3 1,zM 4 5] [3,4] (qc 4 (qr [zA 2 (.mv (.k (.c (.str [103,101,116]))))] [2]) (qs [qk 7 .eql 3 2,zM 6 7] [3,6] (qc 6 (qr [zA 2 (.mv (.k (.c (.str [112,117,116]))))] [2]) (qs [qk 9 .eql 3 3,zM 8 9] [3,8] (qc 8 (qr [zA 2 (.mv (.k (.c (.str [100,101,108,101,116,101]))))] [2]) (qs [qk 11 .eql 3 4,zM 10 11] [3,10] (qc 10 (qr [zA 2 (.mv (.k (.c (.str [112,97,116,99,104]))))] [2]) (qs [qk 13 .eql 3 5,zM 12 13] [12] (qc 12 (qr [zA 2 (.mv (.k (.c (.str [109,101,114,103,101]))))] [2]) .skip)))))))))))) (qr [zA 2 (.mv (.k (.c (.str []))))] [2])))
theorem K.nH : iZ pZ 40 1 0 C.nH [.tmp 2]=true:=by kernel_rfl
def C.aT : bZ:=(qs [qX 1 10 0,zA 2 (.mv (.k (.c (.str []))))] [1] (.seq (qs [qT 7 10 1,q1 8 68 7,qO 9 8] [1,9] (qc 9 (qr [zA 2 (.mv (.k (.c (.str []))))] [2]) .skip)) (qs [qA 10 0 1,qF 11 1 10,qk 12 .eql 11 2,zM 13 12,zG 13 false 14 (.kJ 0 (.t 1)),zG 13 false 15 (.load false 1 (.t 14)),zG 13 false 16 (.bin .eql (.t 15) (kI 5)),qQ 17 13 16,zM 3 17] [1,3] (.cut (qs [zM 18 3,qO 19 18,zM 20 19,zG 20 true 21 (.kJ 4 (.t 1)),zG 20 true 22 (.kJ 0 (.t 21)),zG 20 true 23 (.load false 1 (.t 22)),zG 20 true 24 (.bin .neq (.t 23) (kI 0)),qP 25 20 24,zM 26 25,zG 26 false 27 (.kJ 0 (.t 1)),zG 26 false 28 (.load false 1 (.t 27)),zG 26 false 29 (.bin .neq (.t 28) (kI 4)),qm 26 false 30 29,zG 30 true 31 (.kJ 9 (.t 1)),zG 30 true 32 (.load false 1 (.t 31)),zG 30 true 33 (.len (.t 32)),zG 30 true 34 (.bin .gtr (.t 33) (kI 0)),zG 26 false 35 (.pick (.t 30) (.t 34) (kB false)),qQ 36 26 35] [1,36] (qc 36 (qr [zA 2 (.mv (.k (.c (.str []))))] [2]) .skip)) (qs [qA 37 4 1,qT 38 5 37,q1 39 46 38,zM 4 39] [1,4] (.cut (qs [qA 40 0 1,qF 41 1 40,qk 42 .eql 41 4] [1,4,42] (qc 42 (qs [qA 44 9 1,qF 45 1 44,q1 46 69 45,zM 43 46,qE 47 43 0,qE 48 43 1,zM 5 47,zM 6 48] [1,5,6] (.seq (qs [zM 49 6,qO 50 49] [1,5,50] (qc 50 (qr [zA 2 (.mv (.k (.c (.str []))))] [2]) .skip)) (.reg [zM 51 5,zM 4 51] [1,4]))) .skip)) (.seq (.qW [(qA 52 0 1,[]),(qF 53 1 52,[0]),(q1 54 40 53,[0,1]),(qA 55 1 1,[]),(qF 56 1 55,[3]),(qA 57 2 1,[]),(qF 58 1 57,[5]),(q1 59 70 58,[0,1,2,5,6]),(qA 60 3 1,[]),(qF 61 1 60,[8]),(q1 62 70 61,[0,1,2,5,6,7,8,9]),(zM 63 4,[]),(zA 64 (.jK 11 1 5 [.str []] [(0,.t 54),(1,.t 56),(2,.t 59),(3,.t 62),(4,.t 63)]),[0,1,2,3,4,5,6,7,8,9,10,11]),(⟨none,some 65,.call 33 [.t 64,.k (.c (.str [32]))]⟩,[0,1,2,3,4,5,6,7,8,9,10,11,12]),(zM 2 65,[0,1,2,3,4,5,6,7,8,9,10,11,12,13])] [2]) .ret)))))))
theorem K.aT : iZ pZ 44 1 0 C.aT [.tmp 2]=true:=by kernel_rfl
def C.uJ : bZ:=(qs [qX 2 10 0,zA 4 (.alloc 11 [.c (.str []),lW 0,lW 0,lW 0,.c (.str []),.jI 1,.jI 5]),qB 5 false] [1,2,4] (.seq (qs [qT 8 2 2,q1 9 35 8,qO 10 9] [1,2,4,10] (qc 10 (qr [zA 11 (.build [.c (.str []),lW 0,lW 0,lW 0,.c (.str []),.jI 1,.jI 5] []),qS 7 4 11,qB 5 false] [4,5]) .skip)) (qs [qA 13 0 2,qF 14 1 13,zM 15 1,q2 16 117 14 15,zM 12 16,qE 17 12 0,qE 18 12 1,zM 6 17,zM 7 18] [2,4,6,7] (.seq (qs [zM 19 7,qO 20 19] [2,4,6,20] (qc 20 (qr [zA 21 (.build [.c (.str []),lW 0,lW 0,lW 0,.c (.str []),.jI 1,.jI 5] []),qS 7 4 21,qB 5 false] [4,5]) .skip)) (qr [qA 22 0 2,qF 23 1 22,zM 24 6,qD 25 7 23 24,qT 26 7 25,q1 27 37 26,qS 7 4 27,qB 5 true] [4,5])))))
theorem K.uJ : iZ pZ 71 2 0 C.uJ [.cell 4 true 7,.tmp 5]=true:=by kernel_rfl
def C.jy : bZ:=(qs [zA 2 (.mv (.k (.c (.str []))))] [0] (qs [qI 3 17] [0,3] (.seq (qs [qI 4 0] [0,3,4] (.block 0 (.loop (.seq (qs [zM 7 4,zM 8 0,ql 9 8,qb 10 .lss 7 9] [0,3,4,10] (qc 10 .skip (.exit 0))) (.seq (.block 1 (.reg [zM 13 3,zA 14 (.bin .mul (kI 131) (.t 13)),zM 15 0,zM 16 4,zA 17 (.idxs (.t 15) (.t 16)),zA 18 (.Gv .i64 (.t 17)),qb 19 .add 14 18,qk 20 .rem 19 65521,zM 3 20] [0,3,4])) (.reg [zM 11 4,qk 12 .add 11 1,zM 4 12] [0,3,4])))))) (qs [zA 5 (.KT 10 1 4 [.lit (.int .u8 0)])] [3,5] (.seq (qs [qI 6 3] [3,5,6] (.block 2 (.loop (.seq (qs [zM 21 6,qk 22 .geq 21 0] [3,5,6,22] (qc 22 .skip (.exit 2))) (.seq (.block 3 (qs [zM 25 6,zM 26 3,qk 27 .rem 26 16,zA 28 (.idxs (.k (.c (.str [48,49,50,51,52,53,54,55,56,57,97,98,99,100,101,102]))) (.t 27)),zA 29 (.QT 1 4 (.t 5) (.t 25)),qU 1 29 28] [3,5,6] (.reg [zM 30 3,qk 31 .quo 30 16,zM 3 31] [3,5,6]))) (.reg [zM 23 6,qk 24 .sub 23 1,zM 6 24] [3,5,6])))))) (qr [zA 32 (.Rw 1 4 (.t 5)),zA 33 (.Qy (.t 32)),zM 2 33] [2]))))))
theorem K.jy : iZ pZ 118 1 0 C.jy [.tmp 2]=true:=by kernel_rfl
def C.uY : bZ:=(qs [qX 1 10 0,zA 2 (.mv (.k (.c (.str []))))] [1] (.seq (qs [qT 3 5 1,q1 4 59 3,qO 5 4] [1,5] (qc 5 (qr [zA 2 (.mv (.k (.c (.str []))))] [2]) .skip)) (qr [qT 6 5 1,q1 7 46 6,q1 8 118 7,zM 2 8] [2])))
theorem K.uY : iZ pZ 72 1 0 C.uY [.tmp 2]=true:=by kernel_rfl
def C.qf : bZ:=(qs [qX 2 10 0,qX 3 11 1,zA 4 (.alloc 12 [.jI 7,lW 0]),zA 5 (.alloc 13 [lW 0,.c (.str []),lW 0,lW 0,lW 0,.c (.str []),.jI 1,.jI 5])] [2,3,4,5] (qs [qT 9 2 2,qA 10 1 3,qF 11 1 10,q2 12 120 9 11,zM 8 12,qE 13 8 0,qE 14 8 1,zA 6 (.alloc 14 [.jI 7,lW 0]),qS 2 6 13,zM 7 14] [2,4,5,6,7] (.seq (qs [zM 15 7,qO 16 15] [2,4,5,6,16] (qc 16 (qr [qT 17 2 2,q1 18 23 17,zA 19 (.build [lW 0,.c (.str []),lW 0,lW 0,lW 0,.c (.str []),.jI 1,.jI 5] [(0,1,kI 422)]),qS 2 4 18,qS 8 5 19] [4,5]) .skip)) (.seq (.qW [(qT 20 2 6,[]),(qA 21 1 6,[]),(qF 22 1 21,[1]),(zA 23 (.build [lW 0,.c (.str []),lW 0,lW 0,lW 0,.c (.str []),.jI 1,.jI 5] [(0,1,kI 200),(2,1,.t 22)]),[1,2]),(qS 2 4 20,[0]),(qS 8 5 23,[0,1,2,3,4])] [4,5]) .ret))))
theorem K.qf : iZ pZ 74 2 0 C.qf [.cell 4 true 2,.cell 5 true 8]=true:=by kernel_rfl
def C.nT : bZ:=C.ins 7 104 219 [.str [],.lit (.int .i64 0),.lit (.int .i64 0),.lit (.int .i64 0),.str [],.sl 1 [],.sl 5 []]
theorem K.nT : iZ pZ 199 3 2 C.nT [.tmp 6]=true:=by kernel_rfl
def C.wP : bZ:=(qs [qX 3 10 1,zA 4 (.mv (.k (.jI 7)))] [0,3] (qs [zM 8 0,qA 9 0 3,qF 10 1 9,q2 11 117 8 10,zM 7 11,qE 12 7 0,qE 13 7 1,zM 5 12,zM 6 13] [0,3,5,6] (.seq (qs [zM 14 6] [0,3,5,14] (qc 14 (qs [zM 15 0,zM 16 5,qT 17 7 3,qD 18 7 15 16,qS 7 18 17] [0] (qr [zM 19 0,zM 4 19] [4])) .skip)) (qr [zM 20 0,zM 21 5,qT 22 7 3,zA 23 (.jK 11 7 1 [.str [],.lit (.int .i64 0),.lit (.int .i64 0),.lit (.int .i64 0),.str [],.sl 1 [],.sl 5 []] [(0,.t 22)]),q3 24 199 20 21 23,zM 4 24] [4]))))
theorem K.wP : iZ pZ 172 2 1 C.wP [.tmp 4]=true:=by kernel_rfl
def C.uK : bZ:=(qs [qX 3 10 0,qX 5 11 2,zA 6 (.alloc 12 [.jI 7,lW 0]),qB 7 false] [1,3,5,6] (.seq (qs [qT 9 2 3,q1 10 35 9,qO 11 10,zM 12 11,qm 12 false 13 1,⟨(some (12,false)),some 14,.call 58 [.t 13]⟩,zG 12 false 15 (.not (.t 14)),qQ 16 12 15,zM 17 16,zG 17 false 18 (.load true 5 (.t 5)),⟨(some (17,false)),some 19,.call 59 [.t 18]⟩,zG 17 false 20 (.not (.t 19)),qQ 21 17 20] [1,3,5,6,21] (qc 21 (qr [zA 22 (.build [.jI 7,lW 0] []),qS 2 6 22,qB 7 false] [6,7]) .skip)) (qs [qT 23 2 3,q1 24 23 23,zA 8 (.alloc 13 [.jI 7,lW 0]),qS 2 8 24] [1,5,6,8] (qs [qA 25 1 8,qF 26 1 25,qk 27 .add 26 1,qA 28 1 8,qU 1 28 27] [1,5,6,8] (.seq (.qW [(qA 29 0 8,[]),(qF 30 1 29,[0]),(zM 31 1,[]),(qA 32 1 8,[]),(qF 33 1 32,[3]),(qT 34 5 5,[]),(q1 35 61 34,[5]),(zA 36 (.build [.c (.str []),lW 0,lW 0,lW 0,.c (.str []),.jI 1,.jI 5] [(0,1,.t 31),(1,1,.t 33),(2,5,.t 35)]),[2,3,4,5,6]),(q2 37 172 30 36,[0,1,2,3,4,5,6,7]),(qA 38 0 8,[0,1,2,3,4,5,6,7,8]),(qU 1 38 37,[0,1,2,3,4,5,6,7,8,9])] [6,8]) (.seq (qs [qT 39 2 8,q1 40 35 39,qO 41 40] [6,8,41] (qc 41 (qr [zA 42 (.build [.jI 7,lW 0] []),qS 2 6 42,qB 7 false] [6,7]) .skip)) (qr [qT 43 2 8,qS 2 6 43,qB 7 true] [6,7])))))))
theorem K.uK : iZ pZ 122 3 0 C.uK [.cell 6 true 2,.tmp 7]=true:=by kernel_rfl
def C.vz : bZ:=(qs [zM 7 0,qN 8 7,qA 9 3 8,qF 10 1 9,zM 11 1,q2 12 216 10 11,zM 6 12,qE 13 6 0,qE 14 6 1,zM 4 13,zM 5 14] [0,4,5] (qs [zM 15 5] [0,4,15] (qc 15 (qs [zM 16 0,zM 17 0,qN 18 17,qA 19 3 18,qF 20 1 19,zM 21 4,zM 22 4,qk 23 .add 22 1,q3 24 230 20 21 23,qN 25 16,qA 26 3 25,qU 1 26 24] [0,4] (.reg [zM 27 0,zM 28 0,qN 29 28,qA 30 4 29,qF 31 1 30,zM 32 4,zM 33 4,qk 34 .add 33 1,q3 35 231 31 32 34,qN 36 27,qA 37 4 36,qU 1 37 35] [])) .skip)))
theorem K.vz : iZ pZ 215 2 3 C.vz []=true:=by kernel_rfl
def C.dW : bZ:=(qs [qX 2 10 0,qX 3 11 1,qZ 4 12] [2,3,4] (.seq (qs [qA 11 0 3,qF 12 1 11,qk 13 .neq 12 4] [2,3,4,13] (qc 13 (qr [qT 14 5 3,q1 15 61 14,qS 5 4 15] [4]) .skip)) (qs [zA 16 (.build zN [(0,1,kI 4)]),qZ 5 13,qS 5 5 16] [2,3,4,5] (.cut (qs [qA 17 0 2,qF 18 1 17,qk 19 .eql 18 4] [2,3,4,5,19] (qc 19 (.reg [qT 20 5 2,q1 21 61 20,qS 5 5 21] [3,4,5]) .skip)) (.seq (qs [qA 22 3 3,qF 23 1 22,qL 24 23,qI 25 0] [3,4,5,23,24,25] (.block 0 (.loop (qs [qb 26 .lss 25 24] [3,4,5,23,24,25,26] (.seq (qc 26 .skip (.exit 0)) (.seq (.block 1 (qs [zM 27 25,qD 28 1 23 25,qF 29 1 28,zM 6 27,zM 7 29] [3,4,5,6,7,23,24,25] (.seq (qs [qA 30 4 3,qF 31 1 30,zM 32 6,qD 33 5 31 32,qA 34 0 33,qF 35 1 34,qk 36 .eql 35 0] [3,4,5,6,7,23,24,25,36] (qc 36 (qs [zM 37 7,q2 38 215 5 37] [3,4,5,23,24,25] (.exit 1)) .skip)) (qs [qZ 8 14] [3,4,5,6,7,8,23,24,25] (.cut (qs [qA 40 3 5,qF 41 1 40,zM 42 7,q2 43 216 41 42,zM 39 43,qE 44 39 0,qE 45 39 1,zM 9 44,zM 10 45] [3,4,5,6,7,8,9,10,23,24,25] (qs [zM 46 10] [3,4,5,6,7,8,9,23,24,25,46] (qc 46 (.reg [qA 47 4 5,qF 48 1 47,zM 49 9,qD 50 5 48 49,qT 51 5 50,qS 5 8 51] [3,4,5,6,7,8,23,24,25]) .skip))) (.qW [(zM 52 7,[]),(qT 53 5 8,[]),(qA 54 4 3,[]),(qF 55 1 54,[2]),(zM 56 6,[]),(qD 57 5 55 56,[2,3,4]),(qT 58 5 57,[2,3,4,5]),(q2 59 198 53 58,[1,2,3,4,5,6]),(q3 60 217 5 52 59,[0,1,2,3,4,5,6,7])] [3,4,5,23,24,25])))))) (.reg [qk 61 .add 25 1,zM 25 61] [3,4,5,23,24,25]))))))) (qr [qT 62 5 5,qS 5 4 62] [4]))))))
theorem K.dW : iZ pZ 198 2 0 C.dW [.cell 4 true 5]=true:=by kernel_rfl
def C.rG : bZ:=(qs [qX 2 10 0,qX 3 11 1,qZ 4 12,qB 5 false] [2,3,4] (.seq (qs [qT 6 5 2,q1 7 59 6,qO 8 7,zM 9 8,zG 9 false 10 (.load true 5 (.t 3)),⟨(some (9,false)),some 11,.call 59 [.t 10]⟩,zG 9 false 12 (.not (.t 11)),qQ 13 9 12] [2,3,4,13] (qc 13 (qr [zA 14 (.build zN []),qS 5 4 14,qB 5 false] [4,5]) .skip)) (qr [qT 15 5 2,qT 16 5 3,q2 17 198 15 16,⟨none,some 18,.call 163 [.t 17,.k (.c (.lit (.bool true)))]⟩,qE 19 18 0,qE 20 18 1,qS 5 4 19,zM 5 20] [4,5])))
theorem K.rG : iZ pZ 171 2 0 C.rG [.cell 4 true 5,.tmp 5]=true:=by kernel_rfl
def C.uN : bZ:=(qs [qX 2 10 0,qX 3 11 1,qZ 4 12,qB 5 false] [2,3,4] (.seq (qs [qA 6 0 3,qF 7 1 6] [2,3,4,7] (.block 0 (qs [qk 9 .eql 7 4,zM 8 9] [2,3,4,7,8] (qc 8 (qr [qT 10 5 2,qA 11 9 3,qF 12 1 11,q2 13 170 10 12,qE 14 13 0,qE 15 13 1,qS 5 4 14,zM 5 15] [4,5]) (qs [qk 17 .eql 7 5,zM 16 17] [2,3,4,16] (qc 16 (qr [qT 18 5 2,qA 19 4 3,qT 20 5 19,q2 21 171 18 20,qE 22 21 0,qE 23 21 1,qS 5 4 22,zM 5 23] [4,5]) .skip)))))) (qr [qA 24 4 3,qT 25 5 24,qS 5 4 25,qB 5 true] [4,5])))
theorem K.uN : iZ pZ 121 2 0 C.uN [.cell 4 true 5,.tmp 5]=true:=by kernel_rfl
def C.nD : bZ:=(qs [qX 4 10 0,qX 5 11 1,qX 6 12 2,zA 8 (.alloc 13 [.jI 7,lW 0]),zA 9 (.alloc 14 [lW 0,.c (.str []),lW 0,lW 0,lW 0,.c (.str []),.jI 1,.jI 5])] [3,4,5,6,8,9] (qs [qT 15 5 6,qT 16 10 5,q2 17 121 15 16,zM 14 17,qE 18 14 0,qE 19 14 1,qZ 10 15,qS 5 10 18,zM 11 19] [3,4,5,8,9,10,11] (.seq (qs [zM 20 11,qO 21 20] [3,4,5,8,9,10,21] (qc 21 (qr [qT 22 2 4,q1 23 23 22,zA 24 (.build [lW 0,.c (.str []),lW 0,lW 0,lW 0,.c (.str []),.jI 1,.jI 5] [(0,1,kI 422)]),qS 2 8 23,qS 8 9 24] [8,9]) .skip)) (qs [qT 26 2 4,qA 27 1 5,qF 28 1 27,qT 29 5 10,q3 30 122 26 28 29,zM 25 30,qE 31 25 0,qE 32 25 1,zA 12 (.alloc 16 [.jI 7,lW 0]),qS 2 12 31,zM 11 32] [3,4,8,9,10,11,12] (.seq (qs [zM 33 11,qO 34 33] [3,4,8,9,10,12,34] (qc 34 (qr [qT 35 2 4,q1 36 23 35,zA 37 (.build [lW 0,.c (.str []),lW 0,lW 0,lW 0,.c (.str []),.jI 1,.jI 5] [(0,1,kI 422)]),qS 2 8 36,qS 8 9 37] [8,9]) .skip)) (.seq (.qW [(qT 38 5 10,[]),(q1 39 72 38,[0]),(qA 40 1 12,[]),(qF 41 1 40,[2]),(zA 42 (.build [lW 0,.c (.str []),lW 0,lW 0,lW 0,.c (.str []),.jI 1,.jI 5] [(0,1,kI 200),(1,1,.t 39),(2,1,.t 41)]),[0,1,2,3]),(zA 13 (.alloc 17 [lW 0,.c (.str []),lW 0,lW 0,lW 0,.c (.str []),.jI 1,.jI 5]),[]),(qS 8 13 42,[0,1,2,3,4,5])] [3,8,9,12,13]) (.seq (qs [zM 43 3,qO 44 43] [8,9,12,13,44] (qc 44 (.reg [qA 45 0 13,zS (.store false 1 (.t 45) (kI 201))] [8,9,12,13]) .skip)) (.seq (.qW [(qT 46 2 12,[]),(qT 47 8 13,[]),(qS 2 8 46,[0]),(qS 8 9 47,[0,1,2])] [8,9]) .ret))))))))
theorem K.nD : iZ pZ 75 4 0 C.nD [.cell 8 true 2,.cell 9 true 8]=true:=by kernel_rfl
def C.gY : bZ:=(qs [qX 2 10 0,qX 3 11 1,zA 4 (.alloc 12 [.jI 7,lW 0]),zA 5 (.alloc 13 [lW 0,.c (.str []),lW 0,lW 0,lW 0,.c (.str []),.jI 1,.jI 5])] [2,3,4,5] (.seq (qs [qT 10 2 2,q1 11 35 10,qO 12 11,zM 13 12,zG 13 false 14 (.load true 10 (.t 3)),⟨(some (13,false)),some 15,.call 68 [.t 14]⟩,zG 13 false 16 (.not (.t 15)),qQ 17 13 16] [2,3,4,5,17] (qc 17 (qr [zA 18 (.build [.jI 7,lW 0] []),zA 19 (.build [lW 0,.c (.str []),lW 0,lW 0,lW 0,.c (.str []),.jI 1,.jI 5] [(0,1,kI 400)]),qS 2 4 18,qS 8 5 19] [4,5]) .skip)) (qs [qT 21 2 2,qA 22 1 3,qF 23 1 22,q2 24 71 21 23,zM 20 24,qE 25 20 0,qE 26 20 1,zA 6 (.alloc 14 [.c (.str []),lW 0,lW 0,lW 0,.c (.str []),.jI 1,.jI 5]),qS 7 6 25,zM 7 26] [2,3,4,5,6,7] (.seq (qs [zM 27 7,qO 28 27,zM 29 28,zG 29 true 30 (.kJ 0 (.t 3)),zG 29 true 31 (.load false 1 (.t 30)),zG 29 true 32 (.bin .neq (.t 31) (kI 2)),qP 33 29 32] [2,3,4,5,6,7,33] (qc 33 (qr [qT 34 2 2,q1 35 23 34,zA 36 (.build [lW 0,.c (.str []),lW 0,lW 0,lW 0,.c (.str []),.jI 1,.jI 5] [(0,1,kI 404)]),qS 2 4 35,qS 8 5 36] [4,5]) .skip)) (qs [zA 8 (.mv (.k (.c (.str []))))] [2,3,4,5,6,7,8] (.cut (qs [zM 37 7] [2,3,4,5,6,7,8,37] (qc 37 (.reg [qA 38 2 6,qT 39 5 38,q1 40 72 39,zM 8 40] [2,3,4,5,6,7,8]) .skip)) (qs [qA 41 2 3,qF 42 1 41,qA 43 3 3,qF 44 1 43,zM 45 8,qA 46 0 3,qF 47 1 46,qk 48 .eql 47 1,⟨none,some 49,.call 73 [.t 42,.t 44,.t 45,.t 48]⟩,zM 9 49] [2,3,4,5,6,7,8,9] (.seq (qs [zM 50 9,qk 51 .neq 50 200] [2,3,4,5,6,7,8,9,51] (qc 51 (qr [qT 52 2 2,q1 53 23 52,zM 54 9,zA 55 (.build [lW 0,.c (.str []),lW 0,lW 0,lW 0,.c (.str []),.jI 1,.jI 5] [(0,1,.t 54)]),qS 2 4 53,qS 8 5 55] [4,5]) .skip)) (.seq (qs [qA 56 0 3,qF 57 1 56] [2,3,4,5,6,7,8,57] (.block 0 (qs [qk 59 .eql 57 1,zM 58 59] [2,3,4,5,6,7,8,57,58] (qc 58 (.seq (.qW [(qT 60 2 2,[]),(q1 61 23 60,[0]),(zM 62 8,[]),(qA 63 1 6,[]),(qF 64 1 63,[3]),(qA 65 2 6,[]),(qT 66 5 65,[5]),(zA 67 (.build [lW 0,.c (.str []),lW 0,lW 0,lW 0,.c (.str []),.jI 1,.jI 5] [(0,1,kI 200),(1,1,.t 62),(2,1,.t 64),(3,5,.t 66)]),[2,3,4,5,6]),(qS 2 4 61,[0,1]),(qS 8 5 67,[0,1,2,3,4,5,6,7,8])] [4,5]) .ret) (qs [qk 69 .eql 57 3,zM 68 69] [2,3,4,5,6,7,68] (qc 68 (qr [qT 70 2 2,qT 71 10 3,q2 72 74 70 71,qE 73 72 0,qE 74 72 1,qS 2 4 73,qS 8 5 74] [4,5]) .skip)))))) (qr [qT 75 2 2,qT 76 10 3,qA 77 2 6,qT 78 5 77,zM 79 7,⟨none,some 80,.call 75 [.t 75,.t 76,.t 78,.t 79]⟩,qE 81 80 0,qE 82 80 1,qS 2 4 81,qS 8 5 82] [4,5]))))))))))
theorem K.gY : iZ pZ 45 2 0 C.gY [.cell 4 true 2,.cell 5 true 8]=true:=by kernel_rfl
def C.jP : bZ:=(qs [qX 1 10 0,zA 2 (.mv (.k (.jI 1))),qB 3 false] [1] (.seq (qs [qA 7 0 1,qF 8 1 7,qk 9 .neq 8 3] [1,9] (qc 9 (qr [zA 2 (.mv (.k (.jI 1))),qB 3 false] [2,3]) .skip)) (qs [zA 4 (.mv (.k (.jI 1)))] [1,4] (.seq (qs [qA 10 4 1,qF 11 1 10,qL 12 11,qI 13 0] [4,11,12,13] (.block 0 (.loop (qs [qb 14 .lss 13 12] [4,11,12,13,14] (.seq (qc 14 .skip (.exit 0)) (.seq (.block 1 (qs [qD 15 5 11 13,qT 16 5 15,qZ 6 11,qS 5 6 16] [4,6,11,12,13] (.seq (qs [qA 17 0 6,qF 18 1 17,qk 19 .neq 18 2] [4,6,11,12,13,19] (qc 19 (qr [zA 2 (.mv (.k (.jI 1))),qB 3 false] [2,3]) .skip)) (.reg [zM 20 4,qA 21 2 6,qF 22 1 21,zA 23 (.jK 12 1 1 [.str []] [(0,.t 22)]),zA 24 (.append 13 1 16 (.t 20) (.t 23)),zM 4 24] [4,11,12,13])))) (.reg [qk 25 .add 13 1,zM 13 25] [4,11,12,13]))))))) (qr [zM 26 4,zM 27 4,q1 28 161 27,zM 2 26,zM 3 28] [2,3])))))
theorem K.jP : iZ pZ 111 1 0 C.jP [.tmp 2,.tmp 3]=true:=by kernel_rfl
def C.Fe : bZ:=(qs [qI 8 0,qB 9 false] [0,1,2,3] (.seq (qs [zM 11 1,zM 10 11] [0,2,3,10] (.block 0 (.loop (.seq (qs [zM 12 10,zM 13 2,qb 14 .leq 12 13] [0,2,3,10,14] (qc 14 .skip (.exit 0))) (.seq (.block 1 (qs [zM 17 3,zM 18 10,⟨none,some 19,.GN (.t 17) [.t 18]⟩,zM 20 0,qb 21 .eql 19 20] [0,2,3,10,21] (qc 21 (qr [zM 22 10,zM 8 22,qB 9 true] [8,9]) .skip))) (.reg [zM 15 10,qk 16 .add 15 1,zM 10 16] [0,2,3,10])))))) (qr [qI 8 0,qB 9 false] [8,9])))
theorem K.ig : iZ pZ 39 4 0 C.Fe [.tmp 8,.tmp 9]=true:=by kernel_rfl
def C.sZ : bZ:=(qs [qX 1 10 0,zA 2 (.alloc 11 [lW 0,.jI 1,.jI 1,lW 0,lW 0,.c (.str []),.jI 1,.jI 5]),qB 3 false] [1,2] (.seq (qs [qT 8 5 1,q1 9 59 8,qO 10 9,zM 11 10,zG 11 false 12 (.kJ 0 (.t 1)),zG 11 false 13 (.load false 1 (.t 12)),zG 11 false 14 (.bin .neq (.t 13) (kI 4)),qQ 15 11 14,zM 16 15,zG 16 false 17 (.kJ 3 (.t 1)),zG 16 false 18 (.load false 1 (.t 17)),zG 16 false 19 (.jK 12 1 4 [.str []] [(0,.k (.c (.str [102,114,111,109]))),(1,.k (.c (.str [111,112]))),(2,.k (.c (.str [112,97,116,104]))),(3,.k (.c (.str [118,97,108,117,101])))]),⟨(some (16,false)),some 20,.call 110 [.t 18,.t 19]⟩,zG 16 false 21 (.not (.t 20)),qQ 22 16 21] [1,2,22] (qc 22 (qr [zA 23 (.build [lW 0,.jI 1,.jI 1,lW 0,lW 0,.c (.str []),.jI 1,.jI 5] []),qS 8 2 23,qB 3 false] [2,3]) .skip)) (qs [qA 25 4 1,qF 26 1 25,zA 27 (.wJ 5 (.t 26) (kI 0)),qT 28 5 27,q1 29 111 28,zM 24 29,qE 30 24 0,qE 31 24 1,zM 4 30,zM 5 31] [1,2,4,5] (.seq (qs [zM 32 5,qO 33 32,zM 34 33,zG 34 false 35 (.kJ 4 (.t 1)),zG 34 false 36 (.load false 1 (.t 35)),zG 34 false 37 (.wJ 5 (.t 36) (kI 1)),zG 34 false 38 (.kJ 0 (.t 37)),zG 34 false 39 (.load false 1 (.t 38)),zG 34 false 40 (.bin .neq (.t 39) (kI 2)),qQ 41 34 40] [1,2,4,41] (qc 41 (qr [zA 42 (.build [lW 0,.jI 1,.jI 1,lW 0,lW 0,.c (.str []),.jI 1,.jI 5] []),qS 8 2 42,qB 3 false] [2,3]) .skip)) (qs [qA 44 4 1,qF 45 1 44,zA 46 (.wJ 5 (.t 45) (kI 1)),qA 47 2 46,qF 48 1 47,⟨none,some 49,.call 39 [.t 48,kI 1,kI 6,.k (.fn 112 [])]⟩,zM 43 49,qE 50 43 0,qE 51 43 1,zM 6 50,zM 5 51] [1,2,4,5,6] (.seq (qs [zM 52 5,qO 53 52] [1,2,4,6,53] (qc 53 (qr [zA 54 (.build [lW 0,.jI 1,.jI 1,lW 0,lW 0,.c (.str []),.jI 1,.jI 5] []),qS 8 2 54,qB 3 false] [2,3]) .skip)) (qs [qA 56 4 1,qF 57 1 56,zA 58 (.wJ 5 (.t 57) (kI 2)),qT 59 5 58,q1 60 111 59,zM 55 60,qE 61 55 0,qE 62 55 1,zM 7 61,zM 5 62] [1,2,4,5,6,7] (.seq (qs [zM 63 5,qO 64 63] [1,2,4,6,7,64] (qc 64 (qr [zA 65 (.build [lW 0,.jI 1,.jI 1,lW 0,lW 0,.c (.str []),.jI 1,.jI 5] []),qS 8 2 65,qB 3 false] [2,3]) .skip)) (qr [zM 66 6,zM 67 7,zM 68 4,qA 69 4 1,qF 70 1 69,zA 71 (.wJ 5 (.t 70) (kI 3)),qT 72 5 71,q1 73 61 72,zA 74 (.build [lW 0,.jI 1,.jI 1,lW 0,lW 0,.c (.str []),.jI 1,.jI 5] [(0,1,.t 66),(1,1,.t 67),(2,1,.t 68),(3,5,.t 73)]),qS 8 2 74,qB 3 true] [2,3])))))))))
theorem K.sZ : iZ pZ 67 1 0 C.sZ [.cell 2 true 8,.tmp 3]=true:=by kernel_rfl
def C.dR : bZ:=(qs [qZ 2 10,qB 3 false] [0,2] (qs [zM 8 0,qN 9 8,qA 10 1 9,qF 11 1 10,zM 4 11] [0,2,4] (.seq (.block 0 (.loop (.seq (qs [zM 12 4,zM 13 0,qN 14 13,qA 15 0 14,qF 16 1 15,ql 17 16,qb 18 .lss 12 17,zM 19 18,qm 19 true 20 0,zG 19 true 21 (.Fq (.t 20)),zG 19 true 22 (.kJ 0 (.t 21)),zG 19 true 23 (.load false 1 (.t 22)),qm 19 true 24 4,zG 19 true 25 (.idxs (.t 23) (.t 24)),zG 19 true 26 (.bin .eql (.t 25) (.k (.c (.lit (.int .u8 45))))),qm 19 true 27 26,qm 27 false 28 0,zG 27 false 29 (.Fq (.t 28)),zG 27 false 30 (.kJ 0 (.t 29)),zG 27 false 31 (.load false 1 (.t 30)),qm 27 false 32 4,zG 27 false 33 (.idxs (.t 31) (.t 32)),zG 27 false 34 (.bin .geq (.t 33) (.k (.c (.lit (.int .u8 48))))),qm 27 false 35 34,qm 35 true 36 0,zG 35 true 37 (.Fq (.t 36)),zG 35 true 38 (.kJ 0 (.t 37)),zG 35 true 39 (.load false 1 (.t 38)),qm 35 true 40 4,zG 35 true 41 (.idxs (.t 39) (.t 40)),zG 35 true 42 (.bin .leq (.t 41) (.k (.c (.lit (.int .u8 57))))),zG 27 false 43 (.pick (.t 35) (.t 42) (kB false)),zG 19 true 44 (.pick (.t 27) (kB true) (.t 43)),qP 45 19 44] [0,2,4,45] (qc 45 .skip (.exit 0))) (.block 1 (.reg [zM 46 4,qk 47 .add 46 1,zM 4 47] [0,2,4]))))) (.seq (.qW [(zM 48 0,[]),(qN 49 48,[0]),(qA 50 0 49,[0,1]),(qF 51 1 50,[0,1,2]),(zM 52 0,[]),(qN 53 52,[4]),(qA 54 1 53,[4,5]),(qF 55 1 54,[4,5,6]),(zM 56 4,[]),(zA 57 (.Cm (.t 51) (some (.t 55)) (some (.t 56))),[0,1,2,3,4,5,6,7,8]),(zM 5 57,[0,1,2,3,4,5,6,7,8,9])] [0,2,4,5]) (qs [zM 59 5,q1 60 159 59,zM 58 60,qE 61 58 0,qE 62 58 1,zM 6 61,zM 7 62] [0,2,4,5,6,7] (.seq (qs [zM 63 7,zA 64 (.Tu true (.t 63)),zM 65 64,qm 65 false 66 6,⟨(some (65,false)),some 67,.call 21 [.t 66]⟩,qm 65 false 68 5,zG 65 false 69 (.bin .neq (.t 67) (.t 68)),qQ 70 65 69] [0,2,4,6,70] (qc 70 (qr [zA 71 (.build zN []),qS 5 2 71,qB 3 false] [2,3]) .skip)) (qs [zM 72 0,zM 73 4,qN 74 72,qA 75 1 74,qU 1 75 73] [2,6] (qr [zM 76 6,zA 77 (.build zN [(0,1,kI 1),(1,1,.t 76)]),qS 5 2 77,qB 3 true] [2,3]))))))))
theorem K.dR : iZ pZ 108 1 1 C.dR [.cell 2 true 5,.tmp 3]=true:=by kernel_rfl
def C.iL : bZ:=(qs [qB 4 false] [0,1] (.seq (.seq (.qW [(zM 5 0,[]),(qN 6 5,[0]),(qA 7 0 6,[0,1]),(qF 8 1 7,[0,1,2]),(zM 9 0,[]),(qN 10 9,[4]),(qA 11 1 10,[4,5]),(qF 12 1 11,[4,5,6]),(zA 13 (.Cm (.t 8) (some (.t 12)) none),[0,1,2,3,4,5,6,7]),(zM 14 1,[]),(q2 15 109 13 14,[0,1,2,3,4,5,6,7,8,9]),(qO 16 15,[0,1,2,3,4,5,6,7,8,9,10])] [0,1,16]) (qc 16 (qr [qB 4 false] [4]) .skip)) (qs [zM 17 0,qN 18 17,qA 19 1 18,qF 20 1 19,zM 21 1,ql 22 21,qb 23 .add 20 22,qN 24 17,qA 25 1 24,qU 1 25 23] [] (qr [qB 4 true] [4]))))
theorem K.iL : iZ pZ 66 2 1 C.iL [.tmp 4]=true:=by kernel_rfl
def C.bP : bZ:=(qs [zA 2 (.mv (.k (.c (.str [])))),qB 3 false] [0] (.seq (qs [zM 6 0,⟨none,some 7,.call 66 [.t 6,.k (.c (.str [34]))]⟩,qO 8 7] [0,8] (qc 8 (qr [zA 2 (.mv (.k (.c (.str [])))),qB 3 false] [2,3]) .skip)) (qs [zA 4 (.FO 40 5 11 10)] [0,4] (.seq (.block 0 (.loop (.seq (.seq (.qW [(zM 9 0,[]),(qN 10 9,[0]),(qA 11 1 10,[0,1]),(qF 12 1 11,[0,1,2]),(zM 13 0,[]),(qN 14 13,[4]),(qA 15 0 14,[4,5]),(qF 16 1 15,[4,5,6]),(ql 17 16,[4,5,6,7]),(qb 18 .lss 12 17,[0,1,2,3,4,5,6,7,8])] [0,4,18]) (qc 18 .skip (.exit 0))) (.block 1 (.seq (.qW [(zM 19 0,[]),(qN 20 19,[0]),(qA 21 0 20,[0,1]),(qF 22 1 21,[0,1,2]),(zM 23 0,[]),(qN 24 23,[4]),(qA 25 1 24,[4,5]),(qF 26 1 25,[4,5,6]),(zA 27 (.idxs (.t 22) (.t 26)),[0,1,2,3,4,5,6,7]),(zM 5 27,[0,1,2,3,4,5,6,7,8])] [0,4,5]) (qs [zM 28 0,qN 29 28,qA 30 1 29,qF 31 1 30,qk 32 .add 31 1,qN 33 28,qA 34 1 33,qU 1 34 32] [0,4,5] (.seq (qs [zM 35 5,zA 36 (.bin .eql (.t 35) (.k (.c (.lit (.int .u8 34)))))] [0,4,5,36] (qc 36 (qr [q1 37 17 4,zM 2 37,qB 3 true] [2,3]) .skip)) (.cut (qs [zM 38 5,zA 39 (.bin .eql (.t 38) (.k (.c (.lit (.int .u8 92)))))] [0,4,5,39] (qc 39 (.seq (.seq (.qW [(zM 40 0,[]),(qN 41 40,[0]),(qA 42 1 41,[0,1]),(qF 43 1 42,[0,1,2]),(zM 44 0,[]),(qN 45 44,[4]),(qA 46 0 45,[4,5]),(qF 47 1 46,[4,5,6]),(ql 48 47,[4,5,6,7]),(qb 49 .eql 43 48,[0,1,2,3,4,5,6,7,8]),(zM 50 49,[0,1,2,3,4,5,6,7,8,9]),(qm 50 false 51 0,[0,1,2,3,4,5,6,7,8,9,10]),(zG 50 false 52 (.Fq (.t 51)),[0,1,2,3,4,5,6,7,8,9,10,11]),(zG 50 false 53 (.kJ 0 (.t 52)),[0,1,2,3,4,5,6,7,8,9,10,11,12]),(zG 50 false 54 (.load false 1 (.t 53)),[0,1,2,3,4,5,6,7,8,9,10,11,12,13]),(qm 50 false 55 0,[0,1,2,3,4,5,6,7,8,9,10]),(zG 50 false 56 (.Fq (.t 55)),[0,1,2,3,4,5,6,7,8,9,10,15]),(zG 50 false 57 (.kJ 1 (.t 56)),[0,1,2,3,4,5,6,7,8,9,10,15,16]),(zG 50 false 58 (.load false 1 (.t 57)),[0,1,2,3,4,5,6,7,8,9,10,15,16,17]),(zG 50 false 59 (.idxs (.t 54) (.t 58)),[0,1,2,3,4,5,6,7,8,9,10,11,12,13,14,15,16,17,18]),(zG 50 false 60 (.bin .neq (.t 59) (.k (.c (.lit (.int .u8 34))))),[0,1,2,3,4,5,6,7,8,9,10,11,12,13,14,15,16,17,18,19]),(qm 50 false 61 60,[0,1,2,3,4,5,6,7,8,9,10,11,12,13,14,15,16,17,18,19,20]),(qm 61 true 62 0,[0,1,2,3,4,5,6,7,8,9,10,11,12,13,14,15,16,17,18,19,20,21]),(zG 61 true 63 (.Fq (.t 62)),[0,1,2,3,4,5,6,7,8,9,10,11,12,13,14,15,16,17,18,19,20,21,22]),(zG 61 true 64 (.kJ 0 (.t 63)),[0,1,2,3,4,5,6,7,8,9,10,11,12,13,14,15,16,17,18,19,20,21,22,23]),(zG 61 true 65 (.load false 1 (.t 64)),[0,1,2,3,4,5,6,7,8,9,10,11,12,13,14,15,16,17,18,19,20,21,22,23,24]),(qm 61 true 66 0,[0,1,2,3,4,5,6,7,8,9,10,11,12,13,14,15,16,17,18,19,20,21]),(zG 61 true 67 (.Fq (.t 66)),[0,1,2,3,4,5,6,7,8,9,10,11,12,13,14,15,16,17,18,19,20,21,26]),(zG 61 true 68 (.kJ 1 (.t 67)),[0,1,2,3,4,5,6,7,8,9,10,11,12,13,14,15,16,17,18,19,20,21,26,27]),(zG 61 true 69 (.load false 1 (.t 68)),[0,1,2,3,4,5,6,7,8,9,10,11,12,13,14,15,16,17,18,19,20,21,26,27,28]),(zG 61 true 70 (.idxs (.t 65) (.t 69)),[0,1,2,3,4,5,6,7,8,9,10,11,12,13,14,15,16,17,18,19,20,21,22,23,24,25,26,27,28,29]),(zG 61 true 71 (.bin .neq (.t 70) (.k (.c (.lit (.int .u8 92))))),[0,1,2,3,4,5,6,7,8,9,10,11,12,13,14,15,16,17,18,19,20,21,22,23,24,25,26,27,28,29,30]),(zG 50 false 72 (.pick (.t 61) (.t 71) (kB false)),[0,1,2,3,4,5,6,7,8,9,10,11,12,13,14,15,16,17,18,19,20,21,22,23,24,25,26,27,28,29,30,31]),(qQ 73 50 72,[0,1,2,3,4,5,6,7,8,9,10,11,12,13,14,15,16,17,18,19,20,21,22,23,24,25,26,27,28,29,30,31,32])] [0,4,73]) (qc 73 (qr [zA 2 (.mv (.k (.c (.str [])))),qB 3 false] [2,3]) .skip)) (.seq (.qW [(zM 74 0,[]),(qN 75 74,[0]),(qA 76 0 75,[0,1]),(qF 77 1 76,[0,1,2]),(zM 78 0,[]),(qN 79 78,[4]),(qA 80 1 79,[4,5]),(qF 81 1 80,[4,5,6]),(zA 82 (.idxs (.t 77) (.t 81)),[0,1,2,3,4,5,6,7]),(zM 5 82,[0,1,2,3,4,5,6,7,8])] [0,4,5]) (.reg [zM 83 0,qN 84 83,qA 85 1 84,qF 86 1 85,qk 87 .add 86 1,qN 88 83,qA 89 1 88,qU 1 89 87] [0,4,5]))) .skip)) (.reg [zM 90 5,q2 91 16 4 90] [0,4]))))))))) (qr [zA 2 (.mv (.k (.c (.str [])))),qB 3 false] [2,3])))))
theorem K.bP : iZ pZ 106 1 1 C.bP [.tmp 2,.tmp 3]=true:=by kernel_rfl
def C.iG : bZ:=(qs [qZ 4 10,qB 5 false] [0,1,4] (.seq (.seq (.qW [(zM 8 1,[]),(qk 9 .gtr 8 5,[0]),(zM 10 9,[0,1]),(qm 10 false 11 0,[0,1,2]),(zG 10 false 12 (.Fq (.t 11)),[0,1,2,3]),(zG 10 false 13 (.kJ 1 (.t 12)),[0,1,2,3,4]),(zG 10 false 14 (.load false 1 (.t 13)),[0,1,2,3,4,5]),(qm 10 false 15 0,[0,1,2]),(zG 10 false 16 (.Fq (.t 15)),[0,1,2,7]),(zG 10 false 17 (.kJ 0 (.t 16)),[0,1,2,7,8]),(zG 10 false 18 (.load false 1 (.t 17)),[0,1,2,7,8,9]),(zG 10 false 19 (.lens (.t 18)),[0,1,2,7,8,9,10]),(zG 10 false 20 (.bin .geq (.t 14) (.t 19)),[0,1,2,3,4,5,6,7,8,9,10,11]),(qQ 21 10 20,[0,1,2,3,4,5,6,7,8,9,10,11,12])] [0,1,4,21]) (qc 21 (qr [zA 22 (.build zN []),qS 5 4 22,qB 5 false] [4,5]) .skip)) (.seq (.seq (.qW [(zM 23 0,[]),(qN 24 23,[0]),(qA 25 0 24,[0,1]),(qF 26 1 25,[0,1,2]),(zM 27 0,[]),(qN 28 27,[4]),(qA 29 1 28,[4,5]),(qF 30 1 29,[4,5,6]),(zA 31 (.idxs (.t 26) (.t 30)),[0,1,2,3,4,5,6,7])] [0,1,4,31]) (.block 0 (qs [zA 33 (.bin .eql (.t 31) (.k (.c (.lit (.int .u8 110))))),zM 32 33] [0,1,4,31,32] (qc 32 (qr [zA 34 (.build zN []),zM 35 0,⟨none,some 36,.call 66 [.t 35,.k (.c (.str [110,117,108,108]))]⟩,qS 5 4 34,zM 5 36] [4,5]) (qs [zA 38 (.bin .eql (.t 31) (.k (.c (.lit (.int .u8 34))))),zM 37 38] [0,1,4,31,37] (qc 37 (qs [zM 40 0,q1 41 106 40,zM 39 41,qE 42 39 0,qE 43 39 1,zM 6 42,zM 7 43] [4,6,7] (qr [zM 44 6,zA 45 (.build zN [(0,1,kI 2),(2,1,.t 44)]),zM 46 7,qS 5 4 45,zM 5 46] [4,5])) (qs [zA 48 (.bin .eql (.t 31) (.k (.c (.lit (.int .u8 91))))),zM 47 48] [0,1,4,31,47] (qc 47 (qs [zM 49 0,qN 50 49,qA 51 1 50,qF 52 1 51,qk 53 .add 52 1,qN 54 49,qA 55 1 54,qU 1 55 53] [0,1,4] (qr [zM 56 0,zM 57 1,⟨none,some 58,.call 107 [.t 56,kI 3,.t 57,.k (.c (.str [93]))]⟩,qE 59 58 0,qE 60 58 1,qS 5 4 59,zM 5 60] [4,5])) (qs [zA 62 (.bin .eql (.t 31) (.k (.c (.lit (.int .u8 123))))),zM 61 62] [0,1,4,61] (qc 61 (qs [zM 63 0,qN 64 63,qA 65 1 64,qF 66 1 65,qk 67 .add 66 1,qN 68 63,qA 69 1 68,qU 1 69 67] [0,1,4] (qr [zM 70 0,zM 71 1,⟨none,some 72,.call 107 [.t 70,kI 4,.t 71,.k (.c (.str [125]))]⟩,qE 73 72 0,qE 74 72 1,qS 5 4 73,zM 5 74] [4,5])) .skip)))))))))) (qr [zM 75 0,q1 76 108 75,qE 77 76 0,qE 78 76 1,qS 5 4 77,zM 5 78] [4,5]))))
theorem K.iG : iZ pZ 65 2 1 C.iG [.cell 4 true 5,.tmp 5]=true:=by kernel_rfl
def C.di : bZ:=(qs [qZ 8 10,qB 9 false] [0,1,2,3,8] (qs [zM 15 1,zA 16 (.build zN [(0,1,.t 15)]),qZ 10 11,qS 5 10 16] [0,1,2,3,8,10] (.seq (qs [zM 17 0,zM 18 3,q2 19 66 17 18] [0,1,2,3,8,10,19] (qc 19 (qr [qT 20 5 10,qS 5 8 20,qB 9 true] [8,9]) .skip)) (.block 0 (.loop (.block 1 (.cut (qs [zM 21 1,qk 22 .eql 21 4] [0,1,2,3,8,10,22] (qc 22 (qs [zM 24 0,q1 25 106 24,zM 23 25,qE 26 23 0,qE 27 23 1,zM 11 26,zM 12 27] [0,1,2,3,8,10,11,12] (.seq (qs [zM 28 12,qO 29 28,zM 30 29,qm 30 false 31 0,⟨(some (30,false)),some 32,.call 66 [.t 31,.k (.c (.str [58]))]⟩,zG 30 false 33 (.not (.t 32)),qQ 34 30 33] [0,1,2,3,8,10,11,34] (qc 34 (qr [zA 35 (.build zN []),qS 5 8 35,qB 9 false] [8,9]) .skip)) (.reg [qA 36 3 10,qF 37 1 36,zM 38 11,zA 39 (.jK 12 1 1 [.str []] [(0,.t 38)]),zA 40 (.append 13 1 16 (.t 37) (.t 39)),qA 41 3 10,qU 1 41 40] [0,1,2,3,8,10]))) .skip)) (qs [zM 43 0,zM 44 2,qk 45 .add 44 1,q2 46 65 43 45,zM 42 46,qE 47 42 0,qE 48 42 1,qZ 13 14,qS 5 13 47,zM 14 48] [0,1,2,3,8,10,13,14] (.seq (qs [zM 49 14,qO 50 49] [0,1,2,3,8,10,13,50] (qc 50 (qr [zA 51 (.build zN []),qS 5 8 51,qB 9 false] [8,9]) .skip)) (qs [qA 52 4 10,qF 53 1 52,qT 54 5 13,zA 55 (.jK 15 5 1 [.lit (.int .i64 0),.lit (.int .i64 0),.str [],.sl 1 [],.sl 5 []] [(0,.t 54)]),zA 56 (.append 16 5 80 (.t 53) (.t 55)),qA 57 4 10,qU 1 57 56] [0,1,2,3,8,10] (.seq (qs [zM 58 0,zM 59 3,q2 60 66 58 59] [0,1,2,3,8,10,60] (qc 60 (qr [qT 61 5 10,qS 5 8 61,qB 9 true] [8,9]) .skip)) (qs [zM 62 0,⟨none,some 63,.call 66 [.t 62,.k (.c (.str [44]))]⟩,qO 64 63] [0,1,2,3,8,10,64] (qc 64 (qr [zA 65 (.build zN []),qS 5 8 65,qB 9 false] [8,9]) .skip)))))))))))))
theorem K.di : iZ pZ 107 4 1 C.di [.cell 8 true 5,.tmp 9]=true:=by kernel_rfl
def C.rH : bZ:=(qs [qZ 2 10,qB 3 false] [0,2] (.seq (qs [zM 7 0,ql 8 7,qk 9 .gtr 8 2000] [0,2,9] (qc 9 (qr [zA 10 (.build zN []),qS 5 2 10,qB 3 false] [2,3]) .skip)) (qs [zM 11 0,zA 12 (.build [.c (.str []),lW 0] [(0,1,.t 11)]),zA 4 (.alloc 11 [.c (.str []),lW 0]),qS 2 4 12] [0,2,4] (qs [⟨none,some 14,.call 65 [.t 4,kI 1]⟩,zM 13 14,qE 15 13 0,qE 16 13 1,qZ 5 12,qS 5 5 15,zM 6 16] [0,2,4,5,6] (.seq (qs [zM 17 6,qO 18 17,zM 19 18,zG 19 false 20 (.kJ 1 (.t 4)),zG 19 false 21 (.load false 1 (.t 20)),qm 19 false 22 0,zG 19 false 23 (.lens (.t 22)),zG 19 false 24 (.bin .neq (.t 21) (.t 23)),qQ 25 19 24,zM 26 25,zG 26 false 27 (.load true 5 (.t 5)),⟨(some (26,false)),some 28,.call 59 [.t 27]⟩,zG 26 false 29 (.not (.t 28)),qQ 30 26 29] [2,5,30] (qc 30 (qr [zA 31 (.build zN []),qS 5 2 31,qB 3 false] [2,3]) .skip)) (qr [qT 32 5 5,q1 33 61 32,qS 5 2 33,qB 3 true] [2,3]))))))
theorem K.rH : iZ pZ 43 1 0 C.rH [.cell 2 true 5,.tmp 3]=true:=by kernel_rfl
theorem K.fJ : iZ pZ 39 4 0 C.Fe [.tmp 8,.tmp 9]=true:=by kernel_rfl
def C.mG : bZ:=(qs [zA 2 (.mv (.k (.jI 8))),qB 3 false] [0] (qs [zA 4 (.mv (.k (.jI 8)))] [0,4] (qs [zM 9 0,zA 10 (.build [.c (.str []),lW 0] [(0,1,.t 9)]),zA 5 (.alloc 10 [.c (.str []),lW 0]),qS 2 5 10] [0,4,5] (.seq (.block 0 (.loop (.seq (qs [qA 11 1 5,qF 12 1 11,zM 13 0,ql 14 13,qb 15 .lss 12 14] [0,4,5,15] (qc 15 .skip (.exit 0))) (.block 1 (qs [⟨none,some 17,.call 65 [.t 5,kI 1]⟩,zM 16 17,qE 18 16 0,qE 19 16 1,qZ 6 11,qS 5 6 18,zM 7 19] [0,4,5,6,7] (.seq (qs [zM 20 7,qO 21 20,zM 22 21,⟨(some (22,false)),some 23,.call 66 [.t 5,.k (.c (.str [59]))]⟩,zG 22 false 24 (.not (.t 23)),qQ 25 22 24] [0,4,5,6,25] (qc 25 (qr [zA 2 (.mv (.k (.jI 8))),qB 3 false] [2,3]) .skip)) (qs [qT 27 5 6,q1 28 67 27,zM 26 28,qE 29 26 0,qE 30 26 1,zA 8 (.alloc 12 [lW 0,.jI 1,.jI 1,lW 0,lW 0,.c (.str []),.jI 1,.jI 5]),qS 8 8 29,zM 7 30] [0,4,5,7,8] (.seq (qs [zM 31 7,qO 32 31,zM 33 32,qm 33 false 34 4,zG 33 false 35 (.len (.t 34)),zG 33 false 36 (.bin .eql (.t 35) (kI 12)),qQ 37 33 36] [0,4,5,8,37] (qc 37 (qr [zA 2 (.mv (.k (.jI 8))),qB 3 false] [2,3]) .skip)) (.reg [zM 38 4,qT 39 8 8,zA 40 (.jK 13 8 1 [.lit (.int .i64 0),.sl 1 [],.sl 1 [],.lit (.int .i64 0),.lit (.int .i64 0),.str [],.sl 1 [],.sl 5 []] [(0,.t 39)]),zA 41 (.append 14 8 136 (.t 38) (.t 40)),zM 4 41] [0,4,5]))))))))) (qr [zM 42 4,zM 2 42,qB 3 true] [2,3])))))
theorem K.mG : iZ pZ 42 1 0 C.mG [.tmp 2,.tmp 3]=true:=by kernel_rfl
def C.jq : bZ:=(qs [zA 2 (.alloc 10 [lW 0,.c (.str []),.jI 1,.jI 1,lW 0,lW 0,.c (.str []),.jI 1,.jI 5,.jI 8]),qB 3 false] [0,2] (qs [zM 13 0,⟨none,some 14,.call 38 [.t 13,.k (.c (.str [32])),kI 5]⟩,zM 4 14] [0,2,4] (.seq (qs [zM 15 0,ql 16 15,qk 17 .gtr 16 2000,zM 18 17,qm 18 false 19 4,zG 18 false 20 (.len (.t 19)),zG 18 false 21 (.bin .neq (.t 20) (kI 5)),qQ 22 18 21] [0,2,4,22] (qc 22 (qr [zA 23 (.build [lW 0,.c (.str []),.jI 1,.jI 1,lW 0,lW 0,.c (.str []),.jI 1,.jI 5,.jI 8] []),qS 10 2 23,qB 3 false] [2,3]) .skip)) (qs [zM 25 4,zA 26 (.wJ 1 (.t 25) (kI 0)),qF 27 1 26,⟨none,some 28,.call 39 [.t 27,kI 1,kI 5,.k (.fn 40 [])]⟩,zM 24 28,qE 29 24 0,qE 30 24 1,zM 5 29,zM 6 30] [0,2,4,5,6] (qs [zM 32 4,zA 33 (.wJ 1 (.t 32) (kI 2)),qF 34 1 33,q1 35 41 34,zM 31 35,qE 36 31 0,qE 37 31 1,zM 7 36,zM 8 37] [0,2,4,5,6,7,8] (qs [zM 39 4,zA 40 (.wJ 1 (.t 39) (kI 3)),qF 41 1 40,q1 42 41 41,zM 38 42,qE 43 38 0,qE 44 38 1,zM 9 43,zM 10 44] [0,2,4,5,6,7,8,9,10] (.seq (qs [zM 45 6,qO 46 45,zM 47 46,qm 47 false 48 8,zG 47 false 49 (.not (.t 48)),qQ 50 47 49,zM 51 50,qm 51 false 52 10,zG 51 false 53 (.not (.t 52)),qQ 54 51 53] [0,2,4,5,7,9,54] (qc 54 (qr [zA 55 (.build [lW 0,.c (.str []),.jI 1,.jI 1,lW 0,lW 0,.c (.str []),.jI 1,.jI 5,.jI 8] []),qS 10 2 55,qB 3 false] [2,3]) .skip)) (qs [zM 56 5,zM 57 4,zA 58 (.wJ 1 (.t 57) (kI 1)),qF 59 1 58,zM 60 7,zM 61 9,zA 62 (.build [lW 0,.c (.str []),.jI 1,.jI 1,lW 0,lW 0,.c (.str []),.jI 1,.jI 5,.jI 8] [(0,1,.t 56),(1,1,.t 59),(2,1,.t 60),(3,1,.t 61)]),zA 11 (.alloc 11 [lW 0,.c (.str []),.jI 1,.jI 1,lW 0,lW 0,.c (.str []),.jI 1,.jI 5,.jI 8]),qS 10 11 62] [0,2,4,5,11] (qs [qB 12 false] [0,2,4,5,11] (.cut (qs [zM 63 5,qk 64 .eql 63 4] [0,2,4,11,64] (qc 64 (.reg [zM 66 4,zA 67 (.wJ 1 (.t 66) (kI 4)),qF 68 1 67,q1 69 42 68,zM 65 69,qE 70 65 0,qE 71 65 1,qA 72 9 11,qU 1 72 70,zM 12 71] [0,2,11,12]) (.reg [zM 74 4,zA 75 (.wJ 1 (.t 74) (kI 4)),qF 76 1 75,q1 77 43 76,zM 73 77,qE 78 73 0,qE 79 73 1,qA 80 4 11,qS 5 80 78,zM 12 79] [0,2,11,12]))) (.seq (qs [zM 81 12,qO 82 81,zM 83 82,zG 83 false 84 (.load true 10 (.t 11)),⟨(some (83,false)),some 85,.call 44 [.t 84]⟩,qm 83 false 86 0,zG 83 false 87 (.bin .neq (.t 85) (.t 86)),qQ 88 83 87] [2,11,88] (qc 88 (qr [zA 89 (.build [lW 0,.c (.str []),.jI 1,.jI 1,lW 0,lW 0,.c (.str []),.jI 1,.jI 5,.jI 8] []),qS 10 2 89,qB 3 false] [2,3]) .skip)) (qr [qT 90 10 11,qS 10 2 90,qB 3 true] [2,3]))))))))))))
theorem K.jq : iZ pZ 24 1 0 C.jq [.cell 2 true 10,.tmp 3]=true:=by kernel_rfl
def C.vP : bZ:=(qs [qX 1 10 0,qI 2 0] [1] (.seq (qs [qT 3 5 1,q1 4 59 3,qO 5 4] [1,5] (qc 5 (qr [qI 2 (-1)] [2]) .skip)) (qr [qT 6 5 1,q1 7 46 6,ql 8 7,zM 2 8] [2])))
theorem K.vP : iZ pZ 60 1 0 C.vP [.tmp 2]=true:=by kernel_rfl
def C.vC : bZ:=(qs [qX 1 10 0,qI 2 0] [1] (.seq (.qW [(qA 3 0 1,[]),(qF 4 1 3,[0]),(ql 5 4,[0,1]),(qA 6 2 1,[]),(qT 7 5 6,[3]),(q1 8 60 7,[3,4]),(qb 9 .add 5 8,[0,1,2,3,4,5]),(zM 2 9,[0,1,2,3,4,5,6])] [2]) .ret))
theorem K.vC : iZ pZ 36 1 0 C.vC [.tmp 2]=true:=by kernel_rfl
def C.lS : bZ:=(qs [qX 1 10 0,qI 2 0] [1] (.seq (qs [qT 6 2 1,q1 7 35 6,qO 8 7] [1,8] (qc 8 (qr [qI 2 (-1)] [2]) .skip)) (qs [qI 3 0] [1,3] (.seq (qs [qA 9 0 1,qF 10 1 9,qL 11 10,qI 12 0] [3,10,11,12] (.block 0 (.loop (qs [qb 13 .lss 12 11] [3,10,11,12,13] (.seq (qc 13 .skip (.exit 0)) (.seq (.block 1 (qs [qD 14 7 10 12,qT 15 7 14,zA 5 (.alloc 11 [.c (.str []),lW 0,lW 0,lW 0,.c (.str []),.jI 1,.jI 5]),qS 7 5 15] [3,5,10,11,12] (.reg [zM 16 3,qT 17 7 5,q1 18 36 17,qb 19 .add 16 18,zM 3 19] [3,10,11,12]))) (.reg [qk 20 .add 12 1,zM 12 20] [3,10,11,12]))))))) (qr [zM 21 3,zM 2 21] [2])))))
theorem K.lS : iZ pZ 22 1 0 C.lS [.tmp 2]=true:=by kernel_rfl
def C.jD : bZ:=(qs [zA 2 (.mv (.k (.c (.str []))))] [0] (qs [zA 3 (.mv (.k (.jI 1)))] [0,3] (.seq (qs [zM 6 0,qN 7 6,qA 8 0 7,qA 9 0 8,qF 10 1 9,qL 11 10,qI 12 0] [3,10,11,12] (.block 0 (.loop (qs [qb 13 .lss 12 11] [3,10,11,12,13] (.seq (qc 13 .skip (.exit 0)) (.seq (.block 1 (qs [qD 14 7 10 12,qT 15 7 14,zA 5 (.alloc 10 [.c (.str []),lW 0,lW 0,lW 0,.c (.str []),.jI 1,.jI 5]),qS 7 5 15] [3,5,10,11,12] (.reg [zM 16 3,qA 17 0 5,qF 18 1 17,zA 19 (.jK 11 1 1 [.str []] [(0,.t 18)]),zA 20 (.append 12 1 16 (.t 16) (.t 19)),zM 3 20] [3,10,11,12]))) (.reg [qk 21 .add 12 1,zM 12 21] [3,10,11,12]))))))) (qr [zM 22 3,⟨none,some 23,.call 33 [.t 22,.k (.c (.str [32]))]⟩,zM 2 23] [2]))))
theorem K.jD : iZ pZ 20 1 1 C.jD [.tmp 2]=true:=by kernel_rfl
def C.dX : bZ:=(qs [qX 3 10 1,zA 4 (.mv (.k (.c (.str []))))] [0,3] (.seq (.qW [(zM 9 0,[]),(qN 10 9,[0]),(qA 11 0 10,[0,1]),(qT 12 2 11,[0,1,2]),(qT 13 10 3,[]),(q2 14 45 12 13,[0,1,2,3,4]),(zM 8 14,[0,1,2,3,4,5]),(qE 15 8 0,[0,1,2,3,4,5,6]),(qE 16 8 1,[0,1,2,3,4,5,6]),(zA 5 (.alloc 11 [.jI 7,lW 0]),[]),(zA 6 (.alloc 12 [lW 0,.c (.str []),lW 0,lW 0,lW 0,.c (.str []),.jI 1,.jI 5]),[]),(qS 2 5 15,[0,1,2,3,4,5,6,7,9,10]),(qS 8 6 16,[0,1,2,3,4,5,6,7,8,9,10,11])] [0,3,5,6]) (qs [zM 17 0,qT 18 2 5,qN 19 17,qA 20 0 19,qS 2 20 18] [3,6] (qs [zA 7 (.FO 40 5 14 13)] [3,6,7] (qs [qA 21 0 6,qF 22 1 21,q1 23 21 22,q2 24 14 7 23] [3,6,7] (.cut (qs [qA 25 1 6,qF 26 1 25,zA 27 (.bin .neq (.t 26) (.k (.c (.str []))))] [3,6,7,27] (qc 27 (qs [⟨none,some 28,.call 16 [.t 7,.k (.c (.lit (.int .u8 32)))]⟩] [3,6,7] (.reg [qA 29 1 6,qF 30 1 29,q2 31 14 7 30] [3,6,7])) .skip)) (.cut (qs [qA 32 0 3,qF 33 1 32,qk 34 .eql 33 1,zM 35 34,zG 35 true 36 (.kJ 0 (.t 6)),zG 35 true 37 (.load false 1 (.t 36)),zG 35 true 38 (.bin .eql (.t 37) (kI 200)),qP 39 35 38] [6,7,39] (qc 39 (qs [⟨none,some 40,.call 16 [.t 7,.k (.c (.lit (.int .u8 32)))]⟩] [6,7] (.reg [qA 41 3 6,qT 42 5 41,q1 43 46 42,q2 44 14 7 43] [7])) .skip)) (qr [q1 45 17 7,zM 4 45] [4]))))))))
theorem K.dX : iZ pZ 25 2 1 C.dX [.tmp 4]=true:=by kernel_rfl
def C.mP : bZ:=(qs [zA 4 (.mv (.k (.c (.str []))))] [0,1] (.seq (qs [zM 7 1] [0,1,7] (.block 0 (qs [zA 9 (.bin .eql (.t 7) (.k (.c (.str [108,105,115,116])))),zM 8 9] [0,1,7,8] (qc 8 (qr [zM 10 0,q1 11 20 10,zM 4 11] [4]) (qs [zA 13 (.bin .eql (.t 7) (.k (.c (.str [99,108,111,99,107])))),zM 12 13] [0,1,7,12] (qc 12 (qr [zM 14 0,qN 15 14,qA 16 0 15,qA 17 1 16,qF 18 1 17,q1 19 21 18,zM 4 19] [4]) (qs [zA 21 (.bin .eql (.t 7) (.k (.c (.str [115,105,122,101])))),zM 20 21] [0,1,7,20] (qc 20 (qr [zM 22 0,qN 23 22,qA 24 0 23,qT 25 2 24,q1 26 22 25,q1 27 21 26,zM 4 27] [4]) (qs [zA 29 (.bin .eql (.t 7) (.k (.c (.str [107,101,101,112])))),zM 28 29] [0,1,7,28] (qc 28 (qs [zM 30 0,zM 31 0,qN 32 31,qA 33 0 32,qT 34 2 33,q1 35 23 34,qN 36 30,qA 37 2 36,qS 2 37 35] [] (qr [zA 4 (.mv (.k (.c (.str [111,107]))))] [4])) (qs [zA 39 (.bin .eql (.t 7) (.k (.c (.str [98,97,99,107])))),zM 38 39] [0,1,38] (qc 38 (qs [zM 40 0,zM 41 0,qN 42 41,qA 43 2 42,qT 44 2 43,q1 45 23 44,qN 46 40,qA 47 0 46,qS 2 47 45] [] (qr [zA 4 (.mv (.k (.c (.str [111,107]))))] [4])) .skip)))))))))))) (.seq (qs [zM 49 1,q1 50 24 49,zM 48 50,qE 51 48 0,qE 52 48 1,zA 5 (.alloc 10 [lW 0,.c (.str []),.jI 1,.jI 1,lW 0,lW 0,.c (.str []),.jI 1,.jI 5,.jI 8]),qS 10 5 51,zM 6 52] [0,5,6] (qs [zM 53 6] [0,5,53] (qc 53 (qr [zM 54 0,qT 55 10 5,q2 56 25 54 55,zM 4 56] [4]) .skip))) (qr [zA 4 (.mv (.k (.c (.str [119,104,97,116]))))] [4]))))
theorem K.mP : iZ pZ 15 2 1 C.mP [.tmp 4]=true:=by kernel_rfl
def C.dU : bZ:=(qs [zA 2 (.mv (.k (.c (.str []))))] [0] (qs [zA 3 (.alloc 10 [.c (.sl 7 []),lW 0,.c (.sl 7 []),lW 0])] [0,3] (qs [zA 4 (.FO 40 5 12 11)] [0,3,4] (.cut (qs [zM 7 0,qL 8 7,qI 9 0] [3,4,7,8,9] (.block 0 (.loop (qs [qb 10 .lss 9 8] [3,4,7,8,9,10] (.seq (qc 10 .skip (.exit 0)) (.seq (.block 1 (qs [zM 11 9,qD 12 1 7 9,qF 13 1 12,zM 5 11,zM 6 13] [3,4,5,6,7,8,9] (.seq (qs [zM 14 5,qk 15 .eql 14 20] [3,4,6,7,8,9,15] (qc 15 (.exit 0) .skip)) (qs [zM 16 6,q2 17 15 3 16,q2 18 14 4 17] [3,4,7,8,9] (.reg [⟨none,some 19,.call 16 [.t 4,.k (.c (.lit (.int .u8 10)))]⟩] [3,4,7,8,9]))))) (.reg [qk 20 .add 9 1,zM 9 20] [3,4,7,8,9]))))))) (qr [q1 21 17 4,zM 2 21] [2])))))
theorem K.dU : iZ pZ 7 1 0 C.dU [.tmp 2]=true:=by kernel_rfl
def C.jS : bZ:=(qs [qI 4 0] [0,1] (qs [zM 7 0,zM 8 0,qN 9 8,qA 10 1 9,qF 11 1 10,qk 12 .add 11 1,qN 13 7,qA 14 1 13,qU 1 14 12] [0,1] (.seq (qs [zM 15 1,qk 16 .lss 15 1,zM 17 16,qm 17 false 18 0,zG 17 false 19 (.Fq (.t 18)),zG 17 false 20 (.kJ 0 (.t 19)),zG 17 false 21 (.load false 1 (.t 20)),zG 17 false 22 (.len (.t 21)),zG 17 false 23 (.bin .eql (.t 22) (kI 0)),qQ 24 17 23] [0,1,24] (qc 24 (qr [qI 4 0] [4]) .skip)) (qs [zM 25 0,qN 26 25,qA 27 1 26,qF 28 1 27,qk 29 .sub 28 1,zM 5 29] [0,1,5] (.seq (qs [zM 30 5,zM 31 0,qN 32 31,qA 33 0 32,qF 34 1 33,qL 35 34,qb 36 .lss 30 35] [0,1,5,36] (qc 36 (qr [zM 37 0,qN 38 37,qA 39 0 38,qF 40 1 39,zM 41 5,qD 42 1 40 41,qF 43 1 42,zA 44 (.Gv .i64 (.t 43)),zM 45 1,qb 46 .rem 44 45,zM 4 46] [4]) .skip)) (.seq (.qW [(zM 47 0,[]),(qN 48 47,[0]),(qA 49 0 48,[0,1]),(qF 50 1 49,[0,1,2]),(zM 51 5,[]),(zM 52 0,[]),(qN 53 52,[5]),(qA 54 0 53,[5,6]),(qF 55 1 54,[5,6,7]),(qL 56 55,[5,6,7,8]),(qb 57 .rem 51 56,[4,5,6,7,8,9]),(qD 58 1 50 57,[0,1,2,3,4,5,6,7,8,9,10]),(qF 59 1 58,[0,1,2,3,4,5,6,7,8,9,10,11]),(zA 60 (.Gv .i64 (.t 59)),[0,1,2,3,4,5,6,7,8,9,10,11,12]),(qk 61 .mul 60 131,[0,1,2,3,4,5,6,7,8,9,10,11,12,13]),(zM 62 0,[]),(qN 63 62,[15]),(qA 64 0 63,[15,16]),(qF 65 1 64,[15,16,17]),(zM 66 5,[]),(qk 67 .mul 66 7,[19]),(qk 68 .add 67 3,[19,20]),(zM 69 0,[]),(qN 70 69,[22]),(qA 71 0 70,[22,23]),(qF 72 1 71,[22,23,24]),(qL 73 72,[22,23,24,25]),(qb 74 .rem 68 73,[19,20,21,22,23,24,25,26]),(qD 75 1 65 74,[15,16,17,18,19,20,21,22,23,24,25,26,27]),(qF 76 1 75,[15,16,17,18,19,20,21,22,23,24,25,26,27,28]),(zA 77 (.Gv .i64 (.t 76)),[15,16,17,18,19,20,21,22,23,24,25,26,27,28,29]),(qk 78 .mul 77 1117,[15,16,17,18,19,20,21,22,23,24,25,26,27,28,29,30]),(qb 79 .add 61 78,[0,1,2,3,4,5,6,7,8,9,10,11,12,13,14,15,16,17,18,19,20,21,22,23,24,25,26,27,28,29,30,31]),(zM 80 5,[]),(qk 81 .mul 80 29,[33]),(qb 82 .add 79 81,[0,1,2,3,4,5,6,7,8,9,10,11,12,13,14,15,16,17,18,19,20,21,22,23,24,25,26,27,28,29,30,31,32,33,34]),(zM 83 5,[]),(zM 84 0,[]),(qN 85 84,[37]),(qA 86 0 85,[37,38]),(qF 87 1 86,[37,38,39]),(qL 88 87,[37,38,39,40]),(qb 89 .quo 83 88,[36,37,38,39,40,41]),(qk 90 .mul 89 53,[36,37,38,39,40,41,42]),(qb 91 .add 82 90,[0,1,2,3,4,5,6,7,8,9,10,11,12,13,14,15,16,17,18,19,20,21,22,23,24,25,26,27,28,29,30,31,32,33,34,35,36,37,38,39,40,41,42,43]),(zM 6 91,[0,1,2,3,4,5,6,7,8,9,10,11,12,13,14,15,16,17,18,19,20,21,22,23,24,25,26,27,28,29,30,31,32,33,34,35,36,37,38,39,40,41,42,43,44])] [1,6]) (qs [zM 92 6,zM 93 6,qk 94 .quo 93 64,qb 95 .xor 92 94,zM 6 95] [1,6] (qr [zM 96 6,zM 97 1,qb 98 .rem 96 97,zM 4 98] [4]))))))))
theorem K.jS : iZ pZ 12 2 1 C.jS [.tmp 4]=true:=by kernel_rfl
def C.nY : bZ:=(qs [zA 4 (.mv (.k (.c (.str []))))] [0,1] (qr [zM 5 1,zM 6 0,zM 7 1,qL 8 7,q2 9 12 6 8,qD 10 1 5 9,qF 11 1 10,zM 4 11] [4]))
theorem K.nY : iZ pZ 10 2 1 C.nY [.tmp 4]=true:=by kernel_rfl
def C.xm : bZ:=(qs [zA 4 (.mv (.k (.c (.str []))))] [0,1] (qs [zM 6 0,zM 7 1,ql 8 7,qk 9 .add 8 1,q2 10 12 6 9,zM 5 10] [0,1,5] (.seq (qs [zM 11 0,⟨none,some 12,.call 12 [.t 11,kI 5]⟩] [0,1,5,12] (.block 0 (qs [qk 14 .eql 12 0,zM 13 14] [0,1,5,12,13] (qc 13 (qs [zM 15 5,zM 16 1,ql 17 16,qb 18 .lss 15 17] [0,1,5,18] (qc 18 (.seq (.qW [(zM 19 1,[]),(zM 20 5,[]),(zA 21 (.Cm (.t 19) none (some (.t 20))),[0,1]),(zM 22 0,[]),(zA 23 (.jK 10 1 8 [.str []] [(0,.k (.c (.str [48]))),(1,.k (.c (.str [49]))),(2,.k (.c (.str [32]))),(3,.k (.c (.str [45]))),(4,.k (.c (.str [44]))),(5,.k (.c (.str [97]))),(6,.k (.c (.str [34]))),(7,.k (.c (.str [93])))]),[]),(q2 24 10 22 23,[3,4]),(qb 25 .add 21 24,[0,1,2,3,4,5]),(zM 26 1,[]),(zM 27 5,[]),(qk 28 .add 27 1,[8]),(zA 29 (.Cm (.t 26) (some (.t 28)) none),[7,8,9]),(qb 30 .add 25 29,[0,1,2,3,4,5,6,7,8,9,10]),(zM 4 30,[0,1,2,3,4,5,6,7,8,9,10,11])] [4]) .ret) .skip)) (qs [qk 32 .eql 12 1,zM 31 32] [0,1,5,12,31] (qc 31 (qr [zM 33 1,zM 34 5,zA 35 (.Cm (.t 33) none (some (.t 34))),zM 4 35] [4]) (qs [qk 37 .eql 12 2,zM 36 37] [0,1,36] (qc 36 (qr [zM 38 1,zM 39 0,zA 40 (.jK 11 1 6 [.str []] [(0,.k (.c (.str [48]))),(1,.k (.c (.str [32]))),(2,.k (.c (.str [110,117,108,108]))),(3,.k (.c (.str [44,49]))),(4,.k (.c (.str [120]))),(5,.k (.c (.str [126])))]),q2 41 10 39 40,qb 42 .add 38 41,zM 4 42] [4]) .skip)))))))) (qr [zM 43 1,zM 4 43] [4]))))
theorem K.xm : iZ pZ 13 2 1 C.xm [.tmp 4]=true:=by kernel_rfl
def C.uo : bZ:=(qs [zA 2 (.mv (.k (.c (.lit (.pointer none)))))] [0] (.seq (qs [zM 3 0,qL 4 3,qk 5 .gtr 4 2000] [0,5] (qc 5 (.reg [zM 6 0,zA 7 (.FD 1 (.t 6) none (some (kI 2000))),zM 0 7] [0]) .skip)) (qr [zM 8 0,zA 9 (.build [.jI 1,lW 0] [(0,1,.t 8)]),qX 10 10 9,zM 2 10] [2])))
theorem K.uo : iZ pZ 9 1 0 C.uo [.tmp 2]=true:=by kernel_rfl
def C.rC : bZ:=(qs [qI 4 0] [0,1] (qr [zM 5 1,zM 6 0,zM 7 1,qL 8 7,q2 9 12 6 8,qD 10 1 5 9,qF 11 1 10,zM 4 11] [4]))
theorem K.rC : iZ pZ 11 2 1 C.rC [.tmp 4]=true:=by kernel_rfl
def C.iC : bZ:=(qs [zA 2 (.mv (.k (.jI 1)))] [0] (qs [zM 7 0,q1 8 9 7,zM 3 8] [3] (qs [zM 9 3,zA 10 (.jK 10 1 5 [.str []] [(0,.k (.c (.str [112,117,116,32,97,32,32,32,123,34,97,34,58,49,125]))),(1,.k (.c (.str [108,105,115,116]))),(2,.k (.c (.str [112,117,116,32,98,32,32,32,91,49,44,50,44,34,120,34,93]))),(3,.k (.c (.str [103,101,116,32,97,32,32,32,110,117,108,108]))),(4,.k (.c (.str [107,101,101,112])))]),q2 11 10 9 10,zA 12 (.jK 11 1 1 [.str []] [(0,.t 11)]),zM 4 12] [3,4] (.seq (qs [zM 13 3,zA 14 (.jK 12 1 5 [.lit (.int .i64 0)] [(0,kI 6),(1,kI 8),(2,kI 4),(3,kI 10),(4,kI 0)]),q2 15 11 13 14,zM 5 15] [3,4,5] (.block 0 (.loop (.seq (qs [zM 16 5,qk 17 .gtr 16 0] [3,4,5,17] (qc 17 .skip (.exit 0))) (.seq (.block 1 (.reg [zM 20 4,zM 21 3,zA 22 (.jK 13 1 21 [.str []] [(0,.k (.c (.str [103,101,116,32,97,32,32,32,110,117,108,108]))),(1,.k (.c (.str [103,101,116,32,98,32,32,32,110,117,108,108]))),(2,.k (.c (.str [103,101,116,32,99,32,32,32,110,117,108,108]))),(3,.k (.c (.str [112,117,116,32,97,32,32,32,55]))),(4,.k (.c (.str [112,117,116,32,99,32,42,32,42,32,110,117,108,108]))),(5,.k (.c (.str [112,117,116,32,99,32,32,42,32,123,34,107,34,58,91,93,125]))),(6,.k (.c (.str [100,101,108,101,116,101,32,97,32,32,32,110,117,108,108]))),(7,.k (.c (.str [100,101,108,101,116,101,32,98,32,32,32,110,117,108,108]))),(8,.k (.c (.str [109,101,114,103,101,32,97,32,32,32,123,34,98,34,58,50,125]))),(9,.k (.c (.str [109,101,114,103,101,32,97,32,32,32,123,34,97,34,58,110,117,108,108,125]))),(10,.k (.c (.str [112,97,116,99,104,32,98,32,32,32]))),(11,.k (.c (.str [112,97,116,99,104,32,97,32,32,32,123,34,102,114,111,109,34,58,91,93,44,34,111,112,34,58,34,97,100,100,34,44,34,112,97,116,104,34,58,91,34,122,34,93,44,34,118,97,108,117,101,34,58,53,125,59]))),(12,.k (.c (.str [108,105,115,116]))),(13,.k (.c (.str [99,108,111,99,107]))),(14,.k (.c (.str [115,105,122,101]))),(15,.k (.c (.str [107,101,101,112]))),(16,.k (.c (.str [98,97,99,107]))),(17,.k (.c (.str []))),(18,.k (.c (.str [104,101,108,112]))),(19,.k (.c (.str [103,101,116,32,65,32,32,32,110,117,108,108]))),(20,.k (.c (.str [112,117,116,32,97,32,34,49,50,97,98,34,32,32,49])))]),q2 23 10 21 22,zA 24 (.jK 14 1 1 [.str []] [(0,.t 23)]),zA 25 (.append 15 1 16 (.t 20) (.t 24)),zM 4 25] [3,4,5])) (.reg [zM 18 5,qk 19 .sub 18 1,zM 5 19] [3,4,5])))))) (.seq (qs [zM 26 3,⟨none,some 27,.call 12 [.t 26,kI 6]⟩,qk 28 .eql 27 0] [3,4,28] (qc 28 (qs [zM 29 3,zM 30 4,qL 31 30,q2 32 12 29 31,zM 6 32] [3,4,6] (.reg [zM 33 4,zM 34 6,zM 35 3,zM 36 4,zM 37 6,qD 38 1 36 37,qF 39 1 38,q2 40 13 35 39,qD 41 1 33 34,qU 1 41 40] [4])) .skip)) (qr [zM 42 4,zM 2 42] [2]))))))
theorem K.iC : iZ pZ 6 1 0 C.iC [.tmp 2]=true:=by kernel_rfl
def C.fZ : bZ:=(qs [qB 6 false] [0,1,2] (qr [zM 7 1,zM 8 0,qb 9 .leq 7 8,zM 10 9,qm 10 true 11 0,qm 10 true 12 2,zG 10 true 13 (.bin .leq (.t 11) (.t 12)),qP 14 10 13,zM 6 14] [6]))
theorem K.fZ : iZ pZ 126 3 0 C.fZ [.tmp 6]=true:=by kernel_rfl
def C.lH : bZ:=(qs [qB 2 false] [0] (.seq (qs [qI 3 0] [0,3] (.block 0 (.loop (.seq (qs [zM 4 3,zM 5 0,ql 6 5,qb 7 .lss 4 6] [0,3,7] (qc 7 .skip (.exit 0))) (.seq (.block 1 (qs [zM 10 0,zM 11 3,zA 12 (.idxs (.t 10) (.t 11)),zA 13 (.Gv .i64 (.t 12)),⟨none,some 14,.call 126 [.t 13,kI 48,kI 57]⟩,qO 15 14,zM 16 15,qm 16 true 17 0,qm 16 true 18 3,zG 16 true 19 (.idxs (.t 17) (.t 18)),zG 16 true 20 (.Gv .i64 (.t 19)),⟨(some (16,true)),some 21,.call 126 [.t 20,kI 97,kI 102]⟩,zG 16 true 22 (.not (.t 21)),qP 23 16 22] [0,3,23] (qc 23 (qr [qB 2 false] [2]) .skip))) (.reg [zM 8 3,qk 9 .add 8 1,zM 3 9] [0,3])))))) (qr [zM 24 0,ql 25 24,qk 26 .eql 25 4,zM 2 26] [2])))
theorem K.lH : iZ pZ 123 1 0 C.lH [.tmp 2]=true:=by kernel_rfl
def C.iy : bZ:=(qs [qB 2 false] [0] (.seq (qs [qI 3 0] [0,3] (.block 0 (.loop (.seq (qs [zM 4 3,zM 5 0,qL 6 5,qb 7 .lss 4 6] [0,3,7] (qc 7 .skip (.exit 0))) (.seq (.block 1 (qs [zM 10 0,zM 11 3,qD 12 1 10 11,qF 13 1 12,zA 14 (.bin .neq (.t 13) (.k (.c (.str [42])))),zM 15 14,qm 15 true 16 0,qm 15 true 17 3,zG 15 true 18 (.wJ 1 (.t 16) (.t 17)),zG 15 true 19 (.load false 1 (.t 18)),⟨(some (15,true)),some 20,.call 123 [.t 19]⟩,zG 15 true 21 (.not (.t 20)),qP 22 15 21] [0,3,22] (qc 22 (qr [qB 2 false] [2]) .skip))) (.reg [zM 8 3,qk 9 .add 8 1,zM 3 9] [0,3])))))) (qr [zM 23 0,qL 24 23,qk 25 .leq 24 4,zM 2 25] [2])))
theorem K.iy : iZ pZ 79 1 0 C.iy [.tmp 2]=true:=by kernel_rfl
def C.fO : bZ:=(qs [zA 2 (.mv (.k (.c (.str []))))] [0] (qs [zA 3 (.mv (.k (.c (.str []))))] [0,3] (.seq (qs [zM 5 0,q1 6 79 5,qO 7 6] [0,3,7] (qc 7 (qr [zA 2 (.mv (.k (.c (.str []))))] [2]) .skip)) (.seq (qs [qI 4 0] [0,3,4] (.block 0 (.loop (.seq (qs [zM 8 4,zM 9 0,qL 10 9,qb 11 .lss 8 10] [0,3,4,11] (qc 11 .skip (.exit 0))) (.seq (.block 1 (.cut (qs [zM 14 4,qk 15 .gtr 14 0] [0,3,4,15] (qc 15 (.reg [zM 16 3,zA 17 (.bin .add (.t 16) (.k (.c (.str [44])))),zM 3 17] [0,3,4]) .skip)) (qs [zM 18 0,zM 19 4,qD 20 1 18 19,qF 21 1 20,zA 22 (.bin .eql (.t 21) (.k (.c (.str [42]))))] [0,3,4,22] (qc 22 (.reg [zM 23 3,zA 24 (.bin .add (.t 23) (.k (.c (.str [42])))),zM 3 24] [0,3,4]) (.reg [zM 25 3,zA 26 (.bin .add (.t 25) (.k (.c (.str [34])))),zM 27 0,zM 28 4,qD 29 1 27 28,qF 30 1 29,qb 31 .add 26 30,zA 32 (.bin .add (.t 31) (.k (.c (.str [34])))),zM 3 32] [0,3,4]))))) (.reg [zM 12 4,qk 13 .add 12 1,zM 4 13] [0,3,4])))))) (qr [zM 33 3,zM 2 33] [2])))))
theorem K.fO : iZ pZ 78 1 0 C.fO [.tmp 2]=true:=by kernel_rfl
def C.kz : bZ:=(qs [zA 2 (.mv (.k (.c (.str []))))] [0] (.seq (qs [zM 3 0,qk 4 .lss 3 0,zM 5 4,qm 5 true 6 0,qm 5 true 7 0,zG 5 true 8 (.neg (.t 7)),zG 5 true 9 (.bin .eql (.t 6) (.t 8)),qP 10 5 9] [0,10] (qc 10 (qr [zA 2 (.mv (.k (.c (.str [45,57,50,50,51,51,55,50,48,51,54,56,53,52,55,55,53,56,48,56]))))] [2]) .skip)) (.seq (qs [zM 11 0,qk 12 .lss 11 0] [0,12] (qc 12 (qr [zM 13 0,zA 14 (.neg (.t 13)),q1 15 27 14,zA 16 (.bin .add (.k (.c (.str [45]))) (.t 15)),zM 2 16] [2]) .skip)) (.seq (qs [zM 17 0,qk 18 .lss 17 10] [0,18] (qc 18 (qr [zM 19 0,zA 20 (.bin .add (kI 48) (.t 19)),zA 21 (.Gv .u8 (.t 20)),zA 22 (.jK 10 1 1 [.lit (.int .u8 0)] [(0,.t 21)]),zA 23 (.Qy (.t 22)),zM 2 23] [2]) .skip)) (.seq (.qW [(zM 24 0,[]),(qk 25 .quo 24 10,[0]),(q1 26 27 25,[0,1]),(zM 27 0,[]),(qk 28 .rem 27 10,[3]),(zA 29 (.bin .add (kI 48) (.t 28)),[3,4]),(zA 30 (.Gv .u8 (.t 29)),[3,4,5]),(zA 31 (.jK 11 1 1 [.lit (.int .u8 0)] [(0,.t 30)]),[3,4,5,6]),(zA 32 (.Qy (.t 31)),[3,4,5,6,7]),(qb 33 .add 26 32,[0,1,2,3,4,5,6,7,8]),(zM 2 33,[0,1,2,3,4,5,6,7,8,9])] [2]) .ret)))))
theorem K.kz : iZ pZ 27 1 0 C.kz [.tmp 2]=true:=by kernel_rfl
def C.nP : bZ:=(qs [zA 2 (.mv (.k (.c (.str []))))] [0] (qs [zA 3 (.mv (.k (.c (.str [34]))))] [0,3] (.seq (qs [qI 4 0] [0,3,4] (.block 0 (.loop (.seq (qs [zM 5 4,zM 6 0,ql 7 6,qb 8 .lss 5 7] [0,3,4,8] (qc 8 .skip (.exit 0))) (.seq (.block 1 (.seq (qs [zM 11 0,zM 12 4,zA 13 (.idxs (.t 11) (.t 12)),zA 14 (.bin .eql (.t 13) (.k (.c (.lit (.int .u8 34))))),zM 15 14,qm 15 false 16 0,qm 15 false 17 4,zG 15 false 18 (.idxs (.t 16) (.t 17)),zG 15 false 19 (.bin .eql (.t 18) (.k (.c (.lit (.int .u8 92))))),qQ 20 15 19] [0,3,4,20] (qc 20 (.reg [zM 21 3,zA 22 (.bin .add (.t 21) (.k (.c (.str [92])))),zM 3 22] [0,3,4]) .skip)) (.reg [zM 23 3,zM 24 0,zM 25 4,zM 26 4,qk 27 .add 26 1,zA 28 (.Cm (.t 24) (some (.t 25)) (some (.t 27))),qb 29 .add 23 28,zM 3 29] [0,3,4]))) (.reg [zM 9 4,qk 10 .add 9 1,zM 4 10] [0,3,4])))))) (qr [zM 30 3,zA 31 (.bin .add (.t 30) (.k (.c (.str [34])))),zM 2 31] [2]))))
theorem K.nP : iZ pZ 77 1 0 C.nP [.tmp 2]=true:=by kernel_rfl
def C.eX : bZ:=(qs [qX 1 10 0,zA 2 (.mv (.k (.c (.str []))))] [1] (qs [zA 3 (.mv (.k (.c (.str []))))] [1,3] (.seq (qs [qA 5 0 1,qF 6 1 5] [1,3,6] (.block 0 (qs [qk 8 .eql 6 1,zM 7 8] [1,3,6,7] (qc 7 (qr [qA 9 1 1,qF 10 1 9,q1 11 27 10,zM 2 11] [2]) (qs [qk 13 .eql 6 2,zM 12 13] [1,3,6,12] (qc 12 (qr [qA 14 2 1,qF 15 1 14,q1 16 77 15,zM 2 16] [2]) (qs [qk 18 .eql 6 0,zM 17 18] [1,3,17] (qc 17 (qr [zA 2 (.mv (.k (.c (.str [110,117,108,108]))))] [2]) .skip)))))))) (.seq (qs [qI 4 0] [1,3,4] (.block 1 (.loop (.seq (qs [zM 19 4,qA 20 4 1,qF 21 1 20,qL 22 21,qb 23 .lss 19 22] [1,3,4,23] (qc 23 .skip (.exit 1))) (.seq (.block 2 (.cut (qs [zM 26 4,qk 27 .gtr 26 0] [1,3,4,27] (qc 27 (.reg [zM 28 3,zA 29 (.bin .add (.t 28) (.k (.c (.str [44])))),zM 3 29] [1,3,4]) .skip)) (.cut (qs [qA 30 0 1,qF 31 1 30,qk 32 .eql 31 4] [1,3,4,32] (qc 32 (.reg [zM 33 3,qA 34 3 1,qF 35 1 34,zM 36 4,qD 37 1 35 36,qF 38 1 37,q1 39 77 38,qb 40 .add 33 39,zA 41 (.bin .add (.t 40) (.k (.c (.str [58])))),zM 3 41] [1,3,4]) .skip)) (.reg [zM 42 3,qA 43 4 1,qF 44 1 43,zM 45 4,qD 46 5 44 45,qT 47 5 46,q1 48 47 47,qb 49 .add 42 48,zM 3 49] [1,3,4])))) (.reg [zM 24 4,qk 25 .add 24 1,zM 4 25] [1,3,4])))))) (.seq (qs [qA 50 0 1,qF 51 1 50,qk 52 .eql 51 4] [3,52] (qc 52 (qr [zM 53 3,zA 54 (.bin .add (.k (.c (.str [123]))) (.t 53)),zA 55 (.bin .add (.t 54) (.k (.c (.str [125])))),zM 2 55] [2]) .skip)) (qr [zM 56 3,zA 57 (.bin .add (.k (.c (.str [91]))) (.t 56)),zA 58 (.bin .add (.t 57) (.k (.c (.str [93])))),zM 2 58] [2]))))))
theorem K.eX : iZ pZ 47 1 0 C.eX [.tmp 2]=true:=by kernel_rfl
def C.aY : bZ:=(qs [qX 1 10 0,qZ 2 11] [1,2] (qs [zA 5 (.jK 12 5 0 [.lit (.int .i64 0),.lit (.int .i64 0),.str [],.sl 1 [],.sl 5 []] []),zM 3 5] [1,2,3] (.seq (qs [qI 4 0] [1,2,3,4] (.block 0 (.loop (.seq (qs [zM 6 4,qA 7 4 1,qF 8 1 7,qL 9 8,qb 10 .lss 6 9] [1,2,3,4,10] (qc 10 .skip (.exit 0))) (.seq (.block 1 (.reg [zM 13 3,qA 14 4 1,qF 15 1 14,zM 16 4,qD 17 5 15 16,qT 18 5 17,q1 19 48 18,zA 20 (.jK 13 5 1 [.lit (.int .i64 0),.lit (.int .i64 0),.str [],.sl 1 [],.sl 5 []] [(0,.t 19)]),zA 21 (.append 14 5 80 (.t 13) (.t 20)),zM 3 21] [1,2,3,4])) (.reg [zM 11 4,qk 12 .add 11 1,zM 4 12] [1,2,3,4])))))) (.seq (.qW [(qA 22 0 1,[]),(qF 23 1 22,[0]),(qA 24 1 1,[]),(qF 25 1 24,[2]),(qA 26 2 1,[]),(qF 27 1 26,[4]),(zA 28 (.jK 15 1 0 [.str []] []),[]),(qA 29 3 1,[]),(qF 30 1 29,[7]),(zA 31 (.append 16 1 16 (.t 28) (.t 30)),[6,7,8]),(zM 32 3,[]),(zA 33 (.build zN [(0,1,.t 23),(1,1,.t 25),(2,1,.t 27),(3,1,.t 31),(4,1,.t 32)]),[0,1,2,3,4,5,6,7,8,9,10]),(qS 5 2 33,[0,1,2,3,4,5,6,7,8,9,10,11])] [2]) .ret))))
theorem K.aY : iZ pZ 48 1 0 C.aY [.cell 2 true 5]=true:=by kernel_rfl
def C.uO : bZ:=(qs [zA 0 (.mv (.k (.jI 1)))] [] (qr [zA 1 (.jK 10 1 7 [.str []] [(0,.k (.c (.str []))),(1,.k (.c (.str [97,100,100]))),(2,.k (.c (.str [114,101,109,111,118,101]))),(3,.k (.c (.str [114,101,112,108,97,99,101]))),(4,.k (.c (.str [109,111,118,101]))),(5,.k (.c (.str [99,111,112,121]))),(6,.k (.c (.str [116,101,115,116])))]),zM 0 1] [0]))
theorem K.uO : iZ pZ 128 0 0 C.uO [.tmp 0]=true:=by kernel_rfl
def C.xM : bZ:=(qs [qZ 2 10] [0,2] (qr [zM 3 0,zA 4 (.build zN [(0,1,kI 2),(2,1,.t 3)]),qS 5 2 4] [2]))
theorem K.xM : iZ pZ 137 1 0 C.xM [.cell 2 true 5]=true:=by kernel_rfl
def C.rq : bZ:=(qs [qZ 2 10] [0,2] (qs [zA 5 (.jK 11 5 0 [.lit (.int .i64 0),.lit (.int .i64 0),.str [],.sl 1 [],.sl 5 []] []),zM 3 5] [0,2,3] (.seq (qs [qI 4 0] [0,2,3,4] (.block 0 (.loop (.seq (qs [zM 6 4,zM 7 0,qL 8 7,qb 9 .lss 6 8] [0,2,3,4,9] (qc 9 .skip (.exit 0))) (.seq (.block 1 (.reg [zM 12 3,zM 13 0,zM 14 4,qD 15 1 13 14,qF 16 1 15,q1 17 137 16,zA 18 (.jK 12 5 1 [.lit (.int .i64 0),.lit (.int .i64 0),.str [],.sl 1 [],.sl 5 []] [(0,.t 17)]),zA 19 (.append 13 5 80 (.t 12) (.t 18)),zM 3 19] [0,2,3,4])) (.reg [zM 10 4,qk 11 .add 10 1,zM 4 11] [0,2,3,4])))))) (qr [zA 20 (.jK 14 1 0 [.str []] []),zM 21 3,zA 22 (.build zN [(0,1,kI 3),(3,1,.t 20),(4,1,.t 21)]),qS 5 2 22] [2]))))
theorem K.rq : iZ pZ 136 1 0 C.rq [.cell 2 true 5]=true:=by kernel_rfl
def C.qJ : bZ:=(qs [qX 1 10 0,qZ 2 11] [1,2] (.seq (.qW [(zA 3 (.jK 12 1 4 [.str []] [(0,.k (.c (.str [102,114,111,109]))),(1,.k (.c (.str [111,112]))),(2,.k (.c (.str [112,97,116,104]))),(3,.k (.c (.str [118,97,108,117,101])))]),[]),(qA 4 2 1,[]),(qF 5 1 4,[1]),(q1 6 136 5,[1,2]),(⟨none,some 7,.call 128 []⟩,[1,2,3]),(qA 8 0 1,[]),(qF 9 1 8,[5]),(qD 10 1 7 9,[1,2,3,4,5,6]),(qF 11 1 10,[1,2,3,4,5,6,7]),(q1 12 137 11,[1,2,3,4,5,6,7,8]),(qA 13 1 1,[]),(qF 14 1 13,[10]),(q1 15 136 14,[1,2,3,4,5,6,7,8,9,10,11]),(qA 16 3 1,[]),(qT 17 5 16,[13]),(q1 18 48 17,[1,2,3,4,5,6,7,8,9,10,11,12,13,14]),(zA 19 (.jK 13 5 4 [.lit (.int .i64 0),.lit (.int .i64 0),.str [],.sl 1 [],.sl 5 []] [(0,.t 6),(1,.t 12),(2,.t 15),(3,.t 18)]),[1,2,3,4,5,6,7,8,9,10,11,12,13,14,15]),(zA 20 (.build zN [(0,1,kI 4),(3,1,.t 3),(4,1,.t 19)]),[0,1,2,3,4,5,6,7,8,9,10,11,12,13,14,15,16]),(qS 5 2 20,[0,1,2,3,4,5,6,7,8,9,10,11,12,13,14,15,16,17])] [2]) .ret))
theorem K.qJ : iZ pZ 85 1 0 C.qJ [.cell 2 true 5]=true:=by kernel_rfl
def C.wQ : bZ:=(qs [zA 0 (.mv (.k (.jI 1)))] [] (qr [zA 1 (.jK 10 1 6 [.str []] [(0,.k (.c (.str []))),(1,.k (.c (.str [103,101,116]))),(2,.k (.c (.str [112,117,116]))),(3,.k (.c (.str [100,101,108,101,116,101]))),(4,.k (.c (.str [112,97,116,99,104]))),(5,.k (.c (.str [109,101,114,103,101])))]),zM 0 1] [0]))
theorem K.wQ : iZ pZ 50 0 0 C.wQ [.tmp 0]=true:=by kernel_rfl
def C.jE : bZ:=(qs [qX 1 10 0,zA 2 (.mv (.k (.c (.str []))))] [1] (.seq (.qW [(⟨none,some 5,.call 50 []⟩,[]),(qA 6 0 1,[]),(qF 7 1 6,[1]),(qD 8 1 5 7,[0,1,2]),(qF 9 1 8,[0,1,2,3]),(zA 10 (.bin .add (.t 9) (.k (.c (.str [32])))),[0,1,2,3,4]),(qA 11 1 1,[]),(qF 12 1 11,[6]),(qb 13 .add 10 12,[0,1,2,3,4,5,6,7]),(zA 14 (.bin .add (.t 13) (.k (.c (.str [32])))),[0,1,2,3,4,5,6,7,8]),(qA 15 2 1,[]),(qF 16 1 15,[10]),(q1 17 78 16,[0,10,11]),(qb 18 .add 14 17,[0,1,2,3,4,5,6,7,8,9,10,11,12]),(zA 19 (.bin .add (.t 18) (.k (.c (.str [32])))),[0,1,2,3,4,5,6,7,8,9,10,11,12,13]),(qA 20 3 1,[]),(qF 21 1 20,[15]),(q1 22 78 21,[0,10,11,12,15,16]),(qb 23 .add 19 22,[0,1,2,3,4,5,6,7,8,9,10,11,12,13,14,15,16,17]),(zA 24 (.bin .add (.t 23) (.k (.c (.str [32])))),[0,1,2,3,4,5,6,7,8,9,10,11,12,13,14,15,16,17,18]),(zM 3 24,[0,1,2,3,4,5,6,7,8,9,10,11,12,13,14,15,16,17,18,19])] [1,3]) (.seq (qs [qA 25 0 1,qF 26 1 25,qk 27 .eql 26 4] [1,3,27] (qc 27 (.seq (qs [qI 4 0] [1,3,4] (.block 0 (.loop (.seq (qs [zM 28 4,qA 29 9 1,qF 30 1 29,qL 31 30,qb 32 .lss 28 31] [1,3,4,32] (qc 32 .skip (.exit 0))) (.seq (.block 1 (.reg [zM 35 3,qA 36 9 1,qF 37 1 36,zM 38 4,qD 39 8 37 38,qT 40 8 39,q1 41 85 40,q1 42 47 41,qb 43 .add 35 42,zA 44 (.bin .add (.t 43) (.k (.c (.str [59])))),zM 3 44] [1,3,4])) (.reg [zM 33 4,qk 34 .add 33 1,zM 4 34] [1,3,4])))))) (qr [zM 45 3,zM 2 45] [2])) .skip)) (qr [zM 46 3,qA 47 4 1,qT 48 5 47,q1 49 47 48,qb 50 .add 46 49,zM 2 50] [2]))))
theorem K.jE : iZ pZ 86 1 0 C.jE [.tmp 2]=true:=by kernel_rfl
def C.nO : bZ:=(qs [qX 1 10 0,qI 2 0] [1] (qs [qI 3 1] [1,3] (.seq (qs [qI 4 0] [1,3,4] (.block 0 (.loop (.seq (qs [zM 5 4,qA 6 4 1,qF 7 1 6,qL 8 7,qb 9 .lss 5 8] [1,3,4,9] (qc 9 .skip (.exit 0))) (.seq (.block 1 (.reg [zM 12 3,qA 13 4 1,qF 14 1 13,zM 15 4,qD 16 5 14 15,qT 17 5 16,q1 18 133 17,qb 19 .add 12 18,zM 3 19] [1,3,4])) (.reg [zM 10 4,qk 11 .add 10 1,zM 4 11] [1,3,4])))))) (qr [zM 20 3,zM 2 20] [2]))))
theorem K.nO : iZ pZ 133 1 0 C.nO [.tmp 2]=true:=by kernel_rfl
def C.jd : bZ:=(qs [qB 2 false] [0] (.seq (qs [qI 3 0] [0,3] (.block 0 (.loop (.seq (qs [zM 4 3,zM 5 0,ql 6 5,qb 7 .lss 4 6] [0,3,7] (qc 7 .skip (.exit 0))) (.seq (.block 1 (qs [zM 10 0,zM 11 3,zA 12 (.idxs (.t 10) (.t 11)),zA 13 (.Gv .i64 (.t 12)),⟨none,some 14,.call 126 [.t 13,kI 32,kI 126]⟩,qO 15 14] [0,3,15] (qc 15 (qr [qB 2 false] [2]) .skip))) (.reg [zM 8 3,qk 9 .add 8 1,zM 3 9] [0,3])))))) (qr [zM 16 0,ql 17 16,qk 18 .leq 17 12,zM 2 18] [2])))
theorem K.jd : iZ pZ 176 1 0 C.jd [.tmp 2]=true:=by kernel_rfl
def C.oH : bZ:=(qs [qB 2 false] [0] (.seq (qs [qI 3 0] [0,3] (.block 0 (.loop (.seq (qs [zM 4 3,zM 5 0,qL 6 5,qb 7 .lss 4 6] [0,3,7] (qc 7 .skip (.exit 0))) (.seq (.block 1 (.seq (.qW [(zM 10 0,[]),(zM 11 3,[]),(qD 12 1 10 11,[0,1]),(qF 13 1 12,[0,1,2]),(q1 14 176 13,[0,1,2,3]),(qO 15 14,[0,1,2,3,4]),(zM 16 15,[0,1,2,3,4,5]),(qm 16 false 17 3,[0,1,2,3,4,5,6]),(zG 16 false 18 (.bin .gtr (.t 17) (kI 0)),[0,1,2,3,4,5,6,7]),(qm 16 false 19 18,[0,1,2,3,4,5,6,7,8]),(qm 19 true 20 0,[0,1,2,3,4,5,6,7,8,9]),(qm 19 true 21 3,[0,1,2,3,4,5,6,7,8,9]),(zG 19 true 22 (.wJ 1 (.t 20) (.t 21)),[0,1,2,3,4,5,6,7,8,9,10,11]),(zG 19 true 23 (.load false 1 (.t 22)),[0,1,2,3,4,5,6,7,8,9,10,11,12]),(qm 19 true 24 0,[0,1,2,3,4,5,6,7,8,9]),(qm 19 true 25 3,[0,1,2,3,4,5,6,7,8,9]),(zG 19 true 26 (.bin .sub (.t 25) (kI 1)),[0,1,2,3,4,5,6,7,8,9,15]),(zG 19 true 27 (.wJ 1 (.t 24) (.t 26)),[0,1,2,3,4,5,6,7,8,9,14,15,16]),(zG 19 true 28 (.load false 1 (.t 27)),[0,1,2,3,4,5,6,7,8,9,14,15,16,17]),(zG 19 true 29 (.bin .leq (.t 23) (.t 28)),[0,1,2,3,4,5,6,7,8,9,10,11,12,13,14,15,16,17,18]),(zG 16 false 30 (.pick (.t 19) (.t 29) (kB false)),[0,1,2,3,4,5,6,7,8,9,10,11,12,13,14,15,16,17,18,19]),(qQ 31 16 30,[0,1,2,3,4,5,6,7,8,9,10,11,12,13,14,15,16,17,18,19,20])] [0,3,31]) (qc 31 (qr [qB 2 false] [2]) .skip))) (.reg [zM 8 3,qk 9 .add 8 1,zM 3 9] [0,3])))))) (qr [qB 2 true] [2])))
theorem K.oH : iZ pZ 178 1 0 C.oH [.tmp 2]=true:=by kernel_rfl
def C.rX : bZ:=(qs [qX 2 10 0,qB 4 false] [1,2] (.seq (qs [qI 5 0] [1,2,5] (.block 0 (.loop (.seq (qs [zM 6 5,qA 7 4 2,qF 8 1 7,qL 9 8,qb 10 .lss 6 9] [1,2,5,10] (qc 10 .skip (.exit 0))) (.seq (.block 1 (qs [qA 13 4 2,qF 14 1 13,zM 15 5,qD 16 5 14 15,qT 17 5 16,zM 18 1,qk 19 .sub 18 1,q2 20 132 17 19,qO 21 20] [1,2,5,21] (qc 21 (qr [qB 4 false] [4]) .skip))) (.reg [zM 11 5,qk 12 .add 11 1,zM 5 12] [1,2,5])))))) (qr [qB 4 true] [4])))
theorem K.rX : iZ pZ 177 2 0 C.rX [.tmp 4]=true:=by kernel_rfl
def C.jA : bZ:=(qs [qX 2 10 0,qB 4 false] [1,2] (.cut (qs [zM 5 1,qk 6 .eql 5 0,zM 7 6,zG 7 false 8 (.kJ 4 (.t 2)),zG 7 false 9 (.load false 1 (.t 8)),zG 7 false 10 (.len (.t 9)),zG 7 false 11 (.bin .gtr (.t 10) (kI 6)),qQ 12 7 11,zM 13 12,zG 13 false 14 (.kJ 0 (.t 2)),zG 13 false 15 (.load false 1 (.t 14)),zG 13 false 16 (.bin .neq (.t 15) (kI 1)),qm 13 false 17 16,zG 17 true 18 (.kJ 1 (.t 2)),zG 17 true 19 (.load false 1 (.t 18)),zG 17 true 20 (.bin .neq (.t 19) (kI 0)),zG 13 false 21 (.pick (.t 17) (.t 20) (kB false)),qQ 22 13 21,zM 23 22,zG 23 false 24 (.kJ 0 (.t 2)),zG 23 false 25 (.load false 1 (.t 24)),zG 23 false 26 (.bin .neq (.t 25) (kI 2)),qm 23 false 27 26,zG 27 true 28 (.kJ 2 (.t 2)),zG 27 true 29 (.load false 1 (.t 28)),zG 27 true 30 (.bin .neq (.t 29) (.k (.c (.str [])))),zG 23 false 31 (.pick (.t 27) (.t 30) (kB false)),qQ 32 23 31,zM 33 32,zG 33 false 34 (.kJ 0 (.t 2)),zG 33 false 35 (.load false 1 (.t 34)),zG 33 false 36 (.bin .neq (.t 35) (kI 4)),qm 33 false 37 36,zG 37 true 38 (.kJ 3 (.t 2)),zG 37 true 39 (.load false 1 (.t 38)),zG 37 true 40 (.len (.t 39)),zG 37 true 41 (.bin .gtr (.t 40) (kI 0)),zG 33 false 42 (.pick (.t 37) (.t 41) (kB false)),qQ 43 33 42,zM 44 43,zG 44 false 45 (.kJ 0 (.t 2)),zG 44 false 46 (.load false 1 (.t 45)),zG 44 false 47 (.bin .lss (.t 46) (kI 3)),qm 44 false 48 47,zG 48 true 49 (.kJ 4 (.t 2)),zG 48 true 50 (.load false 1 (.t 49)),zG 48 true 51 (.len (.t 50)),zG 48 true 52 (.bin .gtr (.t 51) (kI 0)),zG 44 false 53 (.pick (.t 48) (.t 52) (kB false)),qQ 54 44 53] [1,2,54] (qc 54 (qr [qB 4 false] [4]) .skip)) (.seq (qs [qA 55 0 2,qF 56 1 55] [1,2,56] (.block 0 (qs [qk 58 .eql 56 1,zM 57 58] [1,2,56,57] (qc 57 (qr [qA 59 1 2,qF 60 1 59,⟨none,some 61,.call 126 [.t 60,kI (-999999),kI 999999]⟩,zM 4 61] [4]) (qs [qk 63 .eql 56 2,zM 62 63] [1,2,56,62] (qc 62 (qr [qA 64 2 2,qF 65 1 64,q1 66 176 65,zM 4 66] [4]) (qs [qk 68 .eql 56 3,zM 67 68] [1,2,56,67] (qc 67 (qr [qT 69 5 2,zM 70 1,q2 71 177 69 70,zM 4 71] [4]) (qs [qk 73 .eql 56 4,zM 72 73] [1,2,72] (qc 72 (qr [qA 74 3 2,qF 75 1 74,qL 76 75,qA 77 4 2,qF 78 1 77,qL 79 78,qb 80 .eql 76 79,zM 81 80,zG 81 true 82 (.kJ 3 (.t 2)),zG 81 true 83 (.load false 1 (.t 82)),⟨(some (81,true)),some 84,.call 178 [.t 83]⟩,qP 85 81 84,zM 86 85,zG 86 true 87 (.load true 5 (.t 2)),qm 86 true 88 1,⟨(some (86,true)),some 89,.call 177 [.t 87,.t 88]⟩,qP 90 86 89,zM 4 90] [4]) .skip)))))))))) (qr [qA 91 0 2,qF 92 1 91,qk 93 .eql 92 0,zM 4 93] [4]))))
theorem K.jA : iZ pZ 132 2 0 C.jA [.tmp 4]=true:=by kernel_rfl
def C.fB : bZ:=(qs [qX 1 10 0,qB 2 false] [1] (qr [qT 3 5 1,⟨none,some 4,.call 132 [.t 3,kI 5]⟩,zM 5 4,zG 5 true 6 (.load true 5 (.t 1)),⟨(some (5,true)),some 7,.call 133 [.t 6]⟩,zG 5 true 8 (.bin .leq (.t 7) (kI 40)),qP 9 5 8,zM 2 9] [2]))
theorem K.fB : iZ pZ 83 1 0 C.fB [.tmp 2]=true:=by kernel_rfl
def C.jc : bZ:=(qs [qB 2 false] [0] (.seq (qs [qI 3 0] [0,3] (.block 0 (.loop (.seq (qs [zM 4 3,zM 5 0,ql 6 5,qb 7 .lss 4 6] [0,3,7] (qc 7 .skip (.exit 0))) (.seq (.block 1 (qs [zM 10 0,zM 11 3,zA 12 (.idxs (.t 10) (.t 11)),zA 13 (.Gv .i64 (.t 12)),⟨none,some 14,.call 126 [.t 13,kI 97,kI 122]⟩,qO 15 14,zM 16 15,qm 16 true 17 0,qm 16 true 18 3,zG 16 true 19 (.idxs (.t 17) (.t 18)),zG 16 true 20 (.Gv .i64 (.t 19)),⟨(some (16,true)),some 21,.call 126 [.t 20,kI 48,kI 57]⟩,zG 16 true 22 (.not (.t 21)),qP 23 16 22] [0,3,23] (qc 23 (qr [qB 2 false] [2]) .skip))) (.reg [zM 8 3,qk 9 .add 8 1,zM 3 9] [0,3])))))) (qr [zM 24 0,ql 25 24,⟨none,some 26,.call 126 [.t 25,kI 1,kI 8]⟩,zM 2 26] [2])))
theorem K.jc : iZ pZ 134 1 0 C.jc [.tmp 2]=true:=by kernel_rfl
def C.jB : bZ:=(qs [qB 2 false] [0] (.seq (qs [qI 3 0] [0,3] (.block 0 (.loop (.seq (qs [zM 4 3,zM 5 0,qL 6 5,qb 7 .lss 4 6] [0,3,7] (qc 7 .skip (.exit 0))) (.seq (.block 1 (qs [zM 10 0,zM 11 3,qD 12 1 10 11,qF 13 1 12,q1 14 176 13,qO 15 14] [0,3,15] (qc 15 (qr [qB 2 false] [2]) .skip))) (.reg [zM 8 3,qk 9 .add 8 1,zM 3 9] [0,3])))))) (qr [zM 16 0,qL 17 16,qk 18 .leq 17 5,zM 2 18] [2])))
theorem K.jB : iZ pZ 174 1 0 C.jB [.tmp 2]=true:=by kernel_rfl
def C.oh : bZ:=(qs [qX 1 10 0,qB 2 false] [1] (qr [qA 3 0 1,qF 4 1 3,⟨none,some 5,.call 126 [.t 4,kI 1,kI 6]⟩,zM 6 5,zG 6 true 7 (.kJ 1 (.t 1)),zG 6 true 8 (.load false 1 (.t 7)),⟨(some (6,true)),some 9,.call 174 [.t 8]⟩,qP 10 6 9,zM 11 10,zG 11 true 12 (.kJ 2 (.t 1)),zG 11 true 13 (.load false 1 (.t 12)),⟨(some (11,true)),some 14,.call 174 [.t 13]⟩,qP 15 11 14,zM 16 15,zG 16 true 17 (.kJ 3 (.t 1)),zG 16 true 18 (.load true 5 (.t 17)),⟨(some (16,true)),some 19,.call 83 [.t 18]⟩,qP 20 16 19,zM 2 20] [2]))
theorem K.oh : iZ pZ 130 1 0 C.oh [.tmp 2]=true:=by kernel_rfl
def C.gG : bZ:=(qs [qB 2 false] [0] (.seq (qs [qI 3 0] [0,3] (.block 0 (.loop (.seq (qs [zM 4 3,zM 5 0,qL 6 5,qb 7 .lss 4 6] [0,3,7] (qc 7 .skip (.exit 0))) (.seq (.block 1 (qs [zM 10 0,zM 11 3,qD 12 8 10 11,qT 13 8 12,q1 14 130 13,qO 15 14] [0,3,15] (qc 15 (qr [qB 2 false] [2]) .skip))) (.reg [zM 8 3,qk 9 .add 8 1,zM 3 9] [0,3])))))) (qr [zM 16 0,qL 17 16,qk 18 .leq 17 12,zM 2 18] [2])))
theorem K.gG : iZ pZ 135 1 0 C.gG [.tmp 2]=true:=by kernel_rfl
def C.kY : bZ:=(qs [qX 1 10 0,qB 2 false] [1] (qr [qA 3 0 1,qF 4 1 3,⟨none,some 5,.call 126 [.t 4,kI 1,kI 5]⟩,zM 6 5,zG 6 true 7 (.kJ 1 (.t 1)),zG 6 true 8 (.load false 1 (.t 7)),⟨(some (6,true)),some 9,.call 134 [.t 8]⟩,qP 10 6 9,zM 11 10,zG 11 true 12 (.kJ 2 (.t 1)),zG 11 true 13 (.load false 1 (.t 12)),⟨(some (11,true)),some 14,.call 79 [.t 13]⟩,qP 15 11 14,zM 16 15,zG 16 true 17 (.kJ 3 (.t 1)),zG 16 true 18 (.load false 1 (.t 17)),⟨(some (16,true)),some 19,.call 79 [.t 18]⟩,qP 20 16 19,zM 21 20,zG 21 true 22 (.kJ 4 (.t 1)),zG 21 true 23 (.load true 5 (.t 22)),⟨(some (21,true)),some 24,.call 83 [.t 23]⟩,qP 25 21 24,zM 26 25,zG 26 true 27 (.kJ 9 (.t 1)),zG 26 true 28 (.load false 1 (.t 27)),⟨(some (26,true)),some 29,.call 135 [.t 28]⟩,qP 30 26 29,zM 2 30] [2]))
theorem K.kY : iZ pZ 84 1 0 C.kY [.tmp 2]=true:=by kernel_rfl
def C.dG : bZ:=(qs [qX 1 10 0,zA 2 (.mv (.k (.c (.str []))))] [1] (.cut (qs [qT 4 10 1,q1 5 84 4,qO 6 5,zM 7 6,zG 7 false 8 (.kJ 4 (.t 1)),zG 7 false 9 (.kJ 0 (.t 8)),zG 7 false 10 (.load false 1 (.t 9)),zG 7 false 11 (.bin .neq (.t 10) (kI 0)),qm 7 false 12 11,zG 12 true 13 (.kJ 0 (.t 1)),zG 12 true 14 (.load false 1 (.t 13)),zG 12 true 15 (.bin .neq (.t 14) (kI 2)),zG 7 false 16 (.pick (.t 12) (.t 15) (kB false)),qm 7 false 17 16,zG 17 true 18 (.kJ 0 (.t 1)),zG 17 true 19 (.load false 1 (.t 18)),zG 17 true 20 (.bin .neq (.t 19) (kI 5)),zG 7 false 21 (.pick (.t 17) (.t 20) (kB false)),qQ 22 7 21,zM 23 22,zG 23 false 24 (.kJ 9 (.t 1)),zG 23 false 25 (.load false 1 (.t 24)),zG 23 false 26 (.len (.t 25)),zG 23 false 27 (.bin .gtr (.t 26) (kI 0)),qm 23 false 28 27,zG 28 true 29 (.kJ 0 (.t 1)),zG 28 true 30 (.load false 1 (.t 29)),zG 28 true 31 (.bin .neq (.t 30) (kI 4)),zG 23 false 32 (.pick (.t 28) (.t 31) (kB false)),qQ 33 23 32] [1,33] (qc 33 (qr [zA 2 (.mv (.k (.c (.str []))))] [2]) .skip)) (.seq (qs [qI 3 0] [1,3] (.block 0 (.loop (.seq (qs [zM 34 3,qA 35 9 1,qF 36 1 35,qL 37 36,qb 38 .lss 34 37] [1,3,38] (qc 38 .skip (.exit 0))) (.seq (.block 1 (qs [qA 41 9 1,qF 42 1 41,zM 43 3,qD 44 8 42 43,qT 45 8 44,q1 46 85 45,q1 47 83 46,qO 48 47] [1,3,48] (qc 48 (qr [zA 2 (.mv (.k (.c (.str []))))] [2]) .skip))) (.reg [zM 39 3,qk 40 .add 39 1,zM 3 40] [1,3])))))) (qr [qT 49 10 1,q1 50 86 49,zM 2 50] [2]))))
theorem K.dG : iZ pZ 54 1 0 C.dG [.tmp 2]=true:=by kernel_rfl
def C.gB : bZ:=(qs [zA 2 (.mv (.k (.c (.lit (.int .u8 0)))))] [0] (.seq (.seq (.qW [(zM 3 0,[]),(qN 4 3,[0]),(qA 5 1 4,[0,1]),(qF 6 1 5,[0,1,2]),(zM 7 0,[]),(qN 8 7,[4]),(qA 9 0 8,[4,5]),(qF 10 1 9,[4,5,6]),(ql 11 10,[4,5,6,7]),(qb 12 .geq 6 11,[0,1,2,3,4,5,6,7,8])] [0,12]) (qc 12 (qr [zA 2 (.mv (.k (.c (.lit (.int .u8 0)))))] [2]) .skip)) (.seq (.qW [(zM 13 0,[]),(qN 14 13,[0]),(qA 15 0 14,[0,1]),(qF 16 1 15,[0,1,2]),(zM 17 0,[]),(qN 18 17,[4]),(qA 19 1 18,[4,5]),(qF 20 1 19,[4,5,6]),(zA 21 (.idxs (.t 16) (.t 20)),[0,1,2,3,4,5,6,7]),(zM 2 21,[0,1,2,3,4,5,6,7,8])] [2]) .ret)))
theorem K.gB : iZ pZ 82 1 1 C.gB [.tmp 2]=true:=by kernel_rfl
def C.kG : bZ:=(.seq (qs [zM 4 0,q1 5 82 4,zM 6 1,qb 7 .neq 5 6] [0,7] (qc 7 (qr [zM 8 0,qN 9 8,qA 10 2 9,zS (.store false 1 (.t 10) (kB true))] []) .skip)) (.reg [zM 11 0,zM 12 0,qN 13 12,qA 14 1 13,qF 15 1 14,qk 16 .add 15 1,qN 17 11,qA 18 1 17,qU 1 18 16] []))
theorem K.kG : iZ pZ 173 2 1 C.kG []=true:=by kernel_rfl
end Go.Ab
