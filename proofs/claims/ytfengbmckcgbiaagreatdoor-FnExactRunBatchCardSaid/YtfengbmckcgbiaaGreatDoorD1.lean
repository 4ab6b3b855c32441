/- What the functions of the program compute (part 1). No conditions. -/
import Derived.Test.YtfengbmckcgbiaaGreatDoorZ3
set_option linter.unusedVariables false
set_option linter.unusedSimpArgs false
set_option maxRecDepth 100000
set_option maxHeartbeats 4000000
set_option linter.defProp false
set_option linter.unusedSectionVars false
open Go.IntKind renaming wrap->af,bits->iQ
open Go.Op renaming bytesLess->iR
open Int renaming tmod->lD,tdiv->mJ,fdiv->sU
open List renaming map->ax,replicate->bY
open UInt8 renaming ofNat->gz
namespace Go.Ab
open Go
structure aj where
 bQ:Int
 wL:Int
 lI:fD
 aO:List fD
 aP:List aj
 deriving Inhabited
mutual
def aj.cells : aj->List Cell
 |aj.mk x0 x1 x2 x3 x4=>[.lit (.int .i64 x0),.lit (.int .i64 x1),.str x2,.sl 1 (ax cS x3),.sl 5 (aj.KY x4)]
def aj.KY : List aj->List (List Cell)
 |[]=>[]
 |x::r=>x.cells::aj.KY r
end
theorem aj.XC (ks:List aj):aj.KY ks=ax aj.cells ks:=by
 induction ks with
 |nil=>rfl
 |cons x r ih=>simp[aj.KY,ih]
theorem aj.iG (n:aj):n.cells=[.lit (.int .i64 n.bQ),.lit (.int .i64 n.wL),.str n.lI,.sl 1 (ax cS n.aO),.sl 5 (ax aj.cells n.aP)]:=by cases n;rw[aj.cells,aj.XC]
structure uO where
 bQ:Int
 uq:List fD
 xJ:List fD
 Value:aj
 deriving Inhabited
def uO.cells (n:uO):List Cell:=[.lit (.int .i64 n.bQ),.sl 1 (ax cS n.uq),.sl 1 (ax cS n.xJ),.lit (.int .i64 n.Value.bQ),.lit (.int .i64 n.Value.wL),.str n.Value.lI,.sl 1 (ax cS n.Value.aO),.sl 5 (ax aj.cells n.Value.aP)]
theorem uO.iG (n:uO):n.cells=[.lit (.int .i64 n.bQ),.sl 1 (ax cS n.uq),.sl 1 (ax cS n.xJ),.lit (.int .i64 n.Value.bQ),.lit (.int .i64 n.Value.wL),.str n.Value.lI,.sl 1 (ax cS n.Value.aO),.sl 5 (ax aj.cells n.Value.aP)]:=rfl
structure fB where
 iC:fD
 mW:Int
 pR:aj
 deriving Inhabited
def fB.cells (n:fB):List Cell:=[.str n.iC,.lit (.int .i64 n.mW),.lit (.int .i64 n.pR.bQ),.lit (.int .i64 n.pR.wL),.str n.pR.lI,.sl 1 (ax cS n.pR.aO),.sl 5 (ax aj.cells n.pR.aP)]
theorem fB.iG (n:fB):n.cells=[.str n.iC,.lit (.int .i64 n.mW),.lit (.int .i64 n.pR.bQ),.lit (.int .i64 n.pR.wL),.str n.pR.lI,.sl 1 (ax cS n.pR.aO),.sl 5 (ax aj.cells n.pR.aP)]:=rfl
structure bP where
 bH:List fB
 kZ:Int
 deriving Inhabited
def bP.cells (n:bP):List Cell:=[.sl 7 (ax fB.cells n.bH),.lit (.int .i64 n.kZ)]
theorem bP.iG (n:bP):n.cells=[.sl 7 (ax fB.cells n.bH),.lit (.int .i64 n.kZ)]:=rfl
structure bn where
 kQ:Int
 iC:fD
 yL:List fD
 uN:List fD
 Body:aj
 MH:List uO
 deriving Inhabited
def bn.cells (n:bn):List Cell:=[.lit (.int .i64 n.kQ),.str n.iC,.sl 1 (ax cS n.yL),.sl 1 (ax cS n.uN),.lit (.int .i64 n.Body.bQ),.lit (.int .i64 n.Body.wL),.str n.Body.lI,.sl 1 (ax cS n.Body.aO),.sl 5 (ax aj.cells n.Body.aP),.sl 8 (ax uO.cells n.MH)]
theorem bn.iG (n:bn):n.cells=[.lit (.int .i64 n.kQ),.str n.iC,.sl 1 (ax cS n.yL),.sl 1 (ax cS n.uN),.lit (.int .i64 n.Body.bQ),.lit (.int .i64 n.Body.wL),.str n.Body.lI,.sl 1 (ax cS n.Body.aO),.sl 5 (ax aj.cells n.Body.aP),.sl 8 (ax uO.cells n.MH)]:=rfl
structure bJ where
 GG:Int
 Tag:fD
 mW:Int
 Body:aj
 deriving Inhabited
def bJ.cells (n:bJ):List Cell:=[.lit (.int .i64 n.GG),.str n.Tag,.lit (.int .i64 n.mW),.lit (.int .i64 n.Body.bQ),.lit (.int .i64 n.Body.wL),.str n.Body.lI,.sl 1 (ax cS n.Body.aO),.sl 5 (ax aj.cells n.Body.aP)]
theorem bJ.iG (n:bJ):n.cells=[.lit (.int .i64 n.GG),.str n.Tag,.lit (.int .i64 n.mW),.lit (.int .i64 n.Body.bQ),.lit (.int .i64 n.Body.wL),.str n.Body.lI,.sl 1 (ax cS n.Body.aO),.sl 5 (ax aj.cells n.Body.aP)]:=rfl
def G.cmp_isNaN_int (f:Nat)(vw:Int):Option (Bool):=match f with
|0=>none
|n+1=>some<|vw != vw
def G.cmp_Compare_int (f:Nat)(vw:Int)(O5:Int):Option (Int):=match f with
|0=>none
|n+1=>(G.cmp_isNaN_int n vw).bind λv1=>(G.cmp_isNaN_int n O5).bind λv2=>cond v1 (cond v2 (some 0)<|some (-1))<|cond v2 (some 1)<|cond (decide<|vw<O5) (some (-1))<|cond (decide<|O5<vw) (some 1)<|some 0
def G.cmp_isNaN_string (f:Nat)(vw:fD):Option (Bool):=match f with
|0=>none
|n+1=>some<|(!(vw==vw))
def G.cmp_Less_string (f:Nat)(vw:fD)(O5:fD):Option (Bool):=match f with
|0=>none
|n+1=>(G.cmp_isNaN_string n vw).bind λv1=>cond v1 ((G.cmp_isNaN_string n O5).bind λv2=>cond v2 (some<|iR vw O5)<|some true)<|some<|iR vw O5
mutual
def G.bC.L2 (f:Nat)(aG:aj)(z1:List fD)(jM:Int)(z4:List aj):Option (aj):=match f with
|0=>none
|n+1=>cond (decide<|jM<(aG.aP.length:Int)) (chk (0<=jM/\jM<(aG.aP.length:Int))<|(G.bC n<|aG.aP.getD jM.toNat default).bind λv3=>chk (0<=jM/\jM<(z4.length:Int))<|G.bC.L2 n aG z1 (af .i64<|jM+1)<|z4.set jM.toNat v3)<|some<|aj.mk aG.bQ aG.wL aG.lI z1 z4
def G.bC.K1 (f:Nat)(aG:aj)(z1:List fD):Option (aj):=match f with
|0=>none
|n+1=>cond (decide<|0<(aG.aP.length:Int)) (chk (0<=(aG.aP.length:Int)/\(aG.aP.length:Int)<=(aG.aP.length:Int)/\80*(aG.aP.length:Int)<=2^47/\(aG.aP.length:Int)<=2^47)<|G.bC.L2 n aG z1 0<|bY aG.aP.length<|aj.mk 0 0 [] [] [])<|some<|aj.mk aG.bQ aG.wL aG.lI z1 []
def G.bC (f:Nat)(aG:aj):Option (aj):=match f with
|0=>none
|n+1=>cond (decide<|0<(aG.aO.length:Int)) (chk (0<=(aG.aO.length:Int)/\(aG.aO.length:Int)<=(aG.aO.length:Int)/\16*(aG.aO.length:Int)<=2^47/\(aG.aO.length:Int)<=2^47)<|G.bC.K1 n aG aG.aO)<|G.bC.K1 n aG []
end
def G.slices_isNaN_string (f:Nat)(vw:fD):Option (Bool):=match f with
|0=>none
|n+1=>some<|(!(vw==vw))
def G.slices_BinarySearch_string.L1 (f:Nat)(vw:List fD)(rU:fD)(aJ:Int)(NV:Int):Option (Int×Bool):=match f with
|0=>none
|n+1=>cond (decide<|aJ<NV) (chk (0<=(af .i64<|(sU (af .u64<|(af .i64<|aJ+NV))<|2^(min 1<|iQ .u64)))/\(af .i64<|(sU (af .u64<|(af .i64<|aJ+NV))<|2^(min 1<|iQ .u64)))<(vw.length:Int))<|(G.cmp_Less_string n (vw.getD (af .i64<|(sU (af .u64<|(af .i64<|aJ+NV))<|2^(min 1<|iQ .u64))).toNat default) rU).bind λv3=>cond v3 (G.slices_BinarySearch_string.L1 n vw rU (af .i64<|(af .i64<|(sU (af .u64<|(af .i64<|aJ+NV))<|2^(min 1<|iQ .u64)))+1) NV)<|G.slices_BinarySearch_string.L1 n vw rU aJ<|af .i64<|(sU (af .u64<|(af .i64<|aJ+NV))<|2^(min 1<|iQ .u64)))<|cond (decide<|aJ<(vw.length:Int)) (chk (0<=aJ/\aJ<(vw.length:Int))<|cond ((vw.getD aJ.toNat default)==rU) (some (aJ,true))<|chk (0<=aJ/\aJ<(vw.length:Int))<|(G.slices_isNaN_string n<|vw.getD aJ.toNat default).bind λv4=>cond v4 ((G.slices_isNaN_string n rU).bind λv5=>some (aJ,v5))<|some (aJ,false))<|some (aJ,false)
def G.slices_BinarySearch_string (f:Nat)(vw:List fD)(rU:fD):Option (Int×Bool):=match f with
|0=>none
|n+1=>G.slices_BinarySearch_string.L1 n vw rU 0 (vw.length:Int)
def G.strconv_Itoa (f:Nat)(i:Int):Option fD:=match f with
|0=>none
|_+1=>(chk ((-9223372036854775808<=i/\i<=9223372036854775807)/\(Go.Lib.itoa i).length<=1000000) (some (Go.Lib.itoa i)))
def G.gU.L1 (f:Nat)(aG:aj)(kJ:fD)(jM:Int):Option (Int×Bool):=match f with
|0=>none
|n+1=>cond (decide<|jM<(aG.aP.length:Int)) ((G.strconv_Itoa n jM).bind λv4=>cond (v4==kJ) (some (jM,true))<|G.gU.L1 n aG kJ<|af .i64<|jM+1)<|some (0,false)
def G.gU (f:Nat)(aG:aj)(kJ:fD):Option (Int×Bool):=match f with
|0=>none
|n+1=>cond (aG.bQ==4) ((G.slices_BinarySearch_string n aG.aO kJ).bind λv1=>some (v1.1,v1.2))<|cond (aG.bQ==3) (G.gU.L1 n aG kJ 0)<|some (0,false)
def G.je (f:Nat)(s:List aj)(i:Int)(v:List aj):Option (List aj):=match f with
|0=>none
|_+1=>chk (0<=i/\i<=(s.length:Int)/\v.length=1/\(s.length+1)*86<=2^46) (some (s.take i.toNat++v++s.drop i.toNat))
def G.mZ (f:Nat)(s:List fD)(i:Int)(v:List fD):Option (List fD):=match f with
|0=>none
|_+1=>chk (0<=i/\i<=(s.length:Int)/\v.length=1/\(s.length+1)*18<=2^46) (some (s.take i.toNat++v++s.drop i.toNat))
def G.pW (f:Nat)(BV:aj)(fU:fD)(iY:aj):Option (aj):=match f with
|0=>none
|n+1=>(G.slices_BinarySearch_string n BV.aO fU).bind λv1=>cond v1.2 (chk (0<=v1.1/\v1.1<(BV.aP.length:Int))<|some<|(aj.mk BV.bQ BV.wL BV.lI BV.aO<|BV.aP.set v1.1.toNat iY))<|(G.mZ n BV.aO v1.1 [fU]).bind λv2=>(G.je n BV.aP v1.1 [iY]).bind λv3=>some<|aj.mk BV.bQ BV.wL BV.lI v2 v3
def G.lX.K1 (f:Nat)(iY:aj)(v1:aj)(apa:Int)(ajV:Bool):Option (aj×Bool):=match f with
|0=>none
|n+1=>cond ajV ((G.bC n iY).bind λv6=>(G.je n v1.aP apa [v6]).bind λv7=>some ((aj.mk v1.bQ v1.wL v1.lI v1.aO v7),true))<|some ((aj.mk 0 0 [] [] []),false)
def G.lX (f:Nat)(aG:aj)(kJ:fD)(iY:aj):Option (aj×Bool):=match f with
|0=>none
|n+1=>(G.bC n aG).bind λv1=>cond (aG.bQ==4) ((G.bC n iY).bind λv2=>(G.pW n v1 kJ v2).bind λv3=>some (v3,true))<|cond (aG.bQ==3) ((G.gU n aG kJ).bind λv4=>cond v4.2 (G.lX.K1 n iY v1 v4.1 true)<|cond (kJ==[45]) (G.lX.K1 n iY v1 (aG.aP.length:Int) true)<|(G.strconv_Itoa n (aG.aP.length:Int)).bind λv8=>cond (kJ==v8) (G.lX.K1 n iY v1 (aG.aP.length:Int) true)<|G.lX.K1 n iY v1 v4.1 false)<|some ((aj.mk 0 0 [] [] []),false)
def G.vC (f:Nat)(Am:aj)(lq:List fD)(pM:Int)(AY:aj):Option (aj×Bool):=match f with
|0=>none
|n+1=>chk (0<=pM/\pM<(lq.length:Int))<|(G.lX n Am (lq.getD pM.toNat default) AY).bind λv1=>some (v1.1,v1.2)
def G.gK.L1 (f:Nat)(aX:fD)(aJ:Int):Option (Bool):=match f with
|0=>none
|n+1=>cond (decide<|aJ<(aX.length:Int)) (chk (0<=aJ/\aJ<(aX.length:Int))<|cond (decide<|((aX.getD aJ.toNat 0).toNat:Int)<32) (some false)<|chk (0<=aJ/\aJ<(aX.length:Int))<|cond (decide<|126<((aX.getD aJ.toNat 0).toNat:Int)) (some false)<|G.gK.L1 n aX<|af .i64<|aJ+1)<|some true
def G.gK (f:Nat)(aX:fD):Option (Bool):=match f with
|0=>none
|n+1=>cond (decide<|12<(aX.length:Int)) (some false)<|G.gK.L1 n aX 0
def G.kM.L1 (f:Nat)(xU:List fD)(jM:Int):Option (Bool):=match f with
|0=>none
|n+1=>cond (decide<|jM<(xU.length:Int)) (chk (0<=jM/\jM<(xU.length:Int))<|(G.gK n<|xU.getD jM.toNat default).bind λv3=>cond v3 (cond (decide<|0<jM) (chk (0<=(af .i64<|jM-1)/\(af .i64<|jM-1)<(xU.length:Int))<|cond (iR (xU.getD (af .i64<|jM-1).toNat default)<|xU.getD jM.toNat default) (G.kM.L1 n xU<|af .i64<|jM+1)<|some false)<|G.kM.L1 n xU<|af .i64<|jM+1)<|some false)<|some true
def G.kM (f:Nat)(xU:List fD):Option (Bool):=match f with
|0=>none
|n+1=>cond (decide<|6<(xU.length:Int)) (some false)<|G.kM.L1 n xU 0
def G.gV.K1 (f:Nat)(aG:aj):Option (Bool):=match f with
|0=>none
|n+1=>cond (aG.bQ != 4) (cond (decide<|0<(aG.aO.length:Int)) (some false)<|cond (aG.bQ==0) (some<|((aG.aP.length:Int)==0))<|cond (aG.bQ==1) (cond (decide<|(-999999)<=aG.wL) (cond (decide<|aG.wL<=999999) (some<|((aG.aP.length:Int)==0))<|some false)<|some false)<|cond (aG.bQ==2) ((G.gK n aG.lI).bind λv1=>cond v1 (some<|((aG.aP.length:Int)==0))<|some false)<|cond (aG.bQ==3) (some<|(decide<|(aG.aP.length:Int)<=6))<|cond (aG.bQ==4) ((G.kM n aG.aO).bind λv2=>cond v2 (some<|((aG.aP.length:Int)==(aG.aO.length:Int)))<|some false)<|some false)<|cond (aG.bQ==0) (some<|((aG.aP.length:Int)==0))<|cond (aG.bQ==1) (cond (decide<|(-999999)<=aG.wL) (cond (decide<|aG.wL<=999999) (some<|((aG.aP.length:Int)==0))<|some false)<|some false)<|cond (aG.bQ==2) ((G.gK n aG.lI).bind λv3=>cond v3 (some<|((aG.aP.length:Int)==0))<|some false)<|cond (aG.bQ==3) (some<|(decide<|(aG.aP.length:Int)<=6))<|cond (aG.bQ==4) ((G.kM n aG.aO).bind λv4=>cond v4 (some<|((aG.aP.length:Int)==(aG.aO.length:Int)))<|some false)<|some false
def G.gV (f:Nat)(aG:aj):Option (Bool):=match f with
|0=>none
|n+1=>cond (aG.bQ != 1) (cond (aG.wL != 0) (some false)<|cond (aG.bQ != 2) (cond (aG.lI==[]) (G.gV.K1 n aG)<|some false)<|G.gV.K1 n aG)<|cond (aG.bQ != 2) (cond (aG.lI==[]) (G.gV.K1 n aG)<|some false)<|G.gV.K1 n aG
mutual
def G.gB.L1 (f:Nat)(aG:aj)(Bj:Int)(abW:Int)(WV:Int)(jM:Int):Option (Int×Int×Bool):=match f with
|0=>none
|n+1=>cond (decide<|jM<(aG.aP.length:Int)) (chk (0<=jM/\jM<(aG.aP.length:Int))<|(G.gB n (aG.aP.getD jM.toNat default)<|af .i64<|Bj+1).bind λv4=>cond v4.2.2 (G.gB.L1 n aG Bj (af .i64<|abW+v4.1) (if(af .i64<|v4.2.1+1)>WV then(af .i64<|v4.2.1+1)else WV)<|af .i64<|jM+1)<|some (0,0,false))<|some (abW,WV,true)
def G.gB (f:Nat)(aG:aj)(Bj:Int):Option (Int×Int×Bool):=match f with
|0=>none
|n+1=>cond (decide<|5<Bj) (some (0,0,false))<|(G.gV n aG).bind λv1=>cond v1 (G.gB.L1 n aG Bj 1 1 0)<|some (0,0,false)
end
def G.dm (f:Nat)(aG:aj):Option (Bool):=match f with
|0=>none
|n+1=>(G.gB n aG 1).bind λv1=>cond v1.2.2 (some<|(decide<|v1.1<=40))<|some false
mutual
def G.jE (f:Nat)(aG:aj)(aV:List fD)(lq:List fD)(pM:Int)(AY:aj):Option (aj×Bool):=match f with
|0=>none
|n+1=>cond ((aV.length:Int)==0) ((G.vC n aG lq pM AY).bind λv1=>some (v1.1,v1.2))<|chk (0<=0/\0<(aV.length:Int))<|(G.gU n aG<|aV.getD 0 default).bind λv2=>cond v2.2 (chk (0<=v2.1/\v2.1<(aG.aP.length:Int))<|chk (0<=1/\1<=(aV.length:Int)/\(aV.length:Int)<=(aV.length:Int))<|(G.jE n (aG.aP.getD v2.1.toNat default) (aV.drop 1) lq pM AY).bind λv3=>cond v3.2 ((G.bC n aG).bind λv4=>chk (0<=v2.1/\v2.1<(v4.aP.length:Int))<|some ((aj.mk v4.bQ v4.wL v4.lI v4.aO<|v4.aP.set v2.1.toNat v3.1),true))<|some ((aj.mk 0 0 [] [] []),false))<|some ((aj.mk 0 0 [] [] []),false)
end
def G.pV (f:Nat)(aG:aj)(MM:Bool):Option (aj×Bool):=match f with
|0=>none
|n+1=>cond MM ((G.dm n aG).bind λv1=>cond v1 (some (aG,true))<|some ((aj.mk 0 0 [] [] []),false))<|some ((aj.mk 0 0 [] [] []),false)
def G.jq.L1 (f:Nat)(aV:List fD)(jM:Int):Option (Bool):=match f with
|0=>none
|n+1=>cond (decide<|jM<(aV.length:Int)) (chk (0<=jM/\jM<(aV.length:Int))<|(G.gK n<|aV.getD jM.toNat default).bind λv3=>cond v3 (G.jq.L1 n aV<|af .i64<|jM+1)<|some false)<|some true
def G.jq (f:Nat)(aV:List fD):Option (Bool):=match f with
|0=>none
|n+1=>cond (decide<|5<(aV.length:Int)) (some false)<|G.jq.L1 n aV 0
def G.oQ (f:Nat)(aG:aj)(aV:List fD)(iY:aj):Option (aj×Bool):=match f with
|0=>none
|n+1=>(G.dm n aG).bind λv1=>cond v1 ((G.jq n aV).bind λv2=>cond v2 ((G.dm n iY).bind λv3=>cond v3 (cond ((aV.length:Int)==0) ((G.bC n iY).bind λv4=>some (v4,true))<|chk (0<=0/\0<=(af .i64<|(aV.length:Int)-1)/\(af .i64<|(aV.length:Int)-1)<=(aV.length:Int))<|(G.jE n aG (aV.take<|(af .i64<|(aV.length:Int)-1).toNat) aV (af .i64<|(aV.length:Int)-1) iY).bind λv5=>(G.pV n v5.1 v5.2).bind λv6=>some (v6.1,v6.2))<|some ((aj.mk 0 0 [] [] []),false))<|some ((aj.mk 0 0 [] [] []),false))<|some ((aj.mk 0 0 [] [] []),false)
def G.kN.L1 (f:Nat)(aV:List fD)(jM:Int)(y6:Int)(y7:Int)(y8:fD)(y9:List fD)(UC:List aj):Option (aj×Bool):=match f with
|0=>none
|n+1=>cond (decide<|jM<(aV.length:Int)) (chk (0<=jM/\jM<(aV.length:Int))<|(G.gU n (aj.mk y6 y7 y8 y9 UC)<|aV.getD jM.toNat default).bind λv3=>cond v3.2 (chk (0<=v3.1/\v3.1<(UC.length:Int))<|G.kN.L1 n aV (af .i64<|jM+1) ((UC.getD v3.1.toNat default).bQ) ((UC.getD v3.1.toNat default).wL) ((UC.getD v3.1.toNat default).lI) ((UC.getD v3.1.toNat default).aO)<|(UC.getD v3.1.toNat default).aP)<|some ((aj.mk 0 0 [] [] []),false))<|some ((aj.mk y6 y7 y8 y9 UC),true)
def G.kN (f:Nat)(aG:aj)(aV:List fD):Option (aj×Bool):=match f with
|0=>none
|n+1=>G.kN.L1 n aV 0 aG.bQ aG.wL aG.lI aG.aO aG.aP
def G.uP (f:Nat)(aG:aj)(aV:List fD):Option (aj×Bool):=match f with
|0=>none
|n+1=>(G.dm n aG).bind λv1=>cond v1 ((G.jq n aV).bind λv2=>cond v2 ((G.kN n aG aV).bind λv3=>cond v3.2 ((G.bC n v3.1).bind λv4=>some (v4,true))<|some ((aj.mk 0 0 [] [] []),false))<|some ((aj.mk 0 0 [] [] []),false))<|some ((aj.mk 0 0 [] [] []),false)
def G.jW (f:Nat)(s:List aj)(i:Int)(j:Int):Option (List aj):=match f with
|0=>none
|_+1=>chk (0<=i/\i<j/\j<=(s.length:Int)/\s.length*86<=2^46) (some (s.take i.toNat++s.drop j.toNat))
def G.slices_Delete_string (f:Nat)(s:List fD)(i:Int)(j:Int):Option (List fD):=match f with
|0=>none
|_+1=>chk (0<=i/\i<j/\j<=(s.length:Int)/\s.length*18<=2^46) (some (s.take i.toNat++s.drop j.toNat))
def G.jo.K1 (f:Nat)(v1:Int×Bool)(v2:aj)(z1:List fD):Option (aj×Bool):=match f with
|0=>none
|n+1=>(G.jW n v2.aP v1.1<|af .i64<|v1.1+1).bind λv4=>some ((aj.mk v2.bQ v2.wL v2.lI z1 v4),true)
def G.jo (f:Nat)(Am:aj)(lq:List fD)(pM:Int):Option (aj×Bool):=match f with
|0=>none
|n+1=>chk (0<=pM/\pM<(lq.length:Int))<|(G.gU n Am<|lq.getD pM.toNat default).bind λv1=>cond v1.2 ((G.bC n Am).bind λv2=>cond (Am.bQ==4) ((G.slices_Delete_string n v2.aO v1.1<|af .i64<|v1.1+1).bind λv5=>G.jo.K1 n v1 v2 v5)<|G.jo.K1 n v1 v2 v2.aO)<|some ((aj.mk 0 0 [] [] []),false)
mutual
def G.ja (f:Nat)(aG:aj)(aV:List fD)(lq:List fD)(pM:Int):Option (aj×Bool):=match f with
|0=>none
|n+1=>cond ((aV.length:Int)==0) ((G.jo n aG lq pM).bind λv1=>some (v1.1,v1.2))<|chk (0<=0/\0<(aV.length:Int))<|(G.gU n aG<|aV.getD 0 default).bind λv2=>cond v2.2 (chk (0<=v2.1/\v2.1<(aG.aP.length:Int))<|chk (0<=1/\1<=(aV.length:Int)/\(aV.length:Int)<=(aV.length:Int))<|(G.ja n (aG.aP.getD v2.1.toNat default) (aV.drop 1) lq pM).bind λv3=>cond v3.2 ((G.bC n aG).bind λv4=>chk (0<=v2.1/\v2.1<(v4.aP.length:Int))<|some ((aj.mk v4.bQ v4.wL v4.lI v4.aO<|v4.aP.set v2.1.toNat v3.1),true))<|some ((aj.mk 0 0 [] [] []),false))<|some ((aj.mk 0 0 [] [] []),false)
end
def G.mF (f:Nat)(aG:aj)(aV:List fD):Option (aj×Bool):=match f with
|0=>none
|n+1=>(G.dm n aG).bind λv1=>cond v1 ((G.jq n aV).bind λv2=>cond v2 (cond ((aV.length:Int)==0) (some ((aj.mk 0 0 [] [] []),false))<|chk (0<=0/\0<=(af .i64<|(aV.length:Int)-1)/\(af .i64<|(aV.length:Int)-1)<=(aV.length:Int))<|(G.ja n aG (aV.take<|(af .i64<|(aV.length:Int)-1).toNat) aV<|af .i64<|(aV.length:Int)-1).bind λv3=>some (v3.1,v3.2))<|some ((aj.mk 0 0 [] [] []),false))<|some ((aj.mk 0 0 [] [] []),false)
def G.vF (f:Nat)(aS:aj)(lq:aj):Option (aj×Bool):=match f with
|0=>none
|n+1=>(G.bC n lq).bind λv1=>some (v1,true)
mutual
def G.jF (f:Nat)(aG:aj)(aV:List fD)(lq:aj):Option (aj×Bool):=match f with
|0=>none
|n+1=>cond ((aV.length:Int)==0) ((G.vF n aG lq).bind λv1=>some (v1.1,v1.2))<|chk (0<=0/\0<(aV.length:Int))<|(G.gU n aG<|aV.getD 0 default).bind λv2=>cond v2.2 (chk (0<=v2.1/\v2.1<(aG.aP.length:Int))<|chk (0<=1/\1<=(aV.length:Int)/\(aV.length:Int)<=(aV.length:Int))<|(G.jF n (aG.aP.getD v2.1.toNat default) (aV.drop 1) lq).bind λv3=>cond v3.2 ((G.bC n aG).bind λv4=>chk (0<=v2.1/\v2.1<(v4.aP.length:Int))<|some ((aj.mk v4.bQ v4.wL v4.lI v4.aO<|v4.aP.set v2.1.toNat v3.1),true))<|some ((aj.mk 0 0 [] [] []),false))<|some ((aj.mk 0 0 [] [] []),false)
end
def G.vP (f:Nat)(aG:aj)(aV:List fD)(iY:aj):Option (aj×Bool):=match f with
|0=>none
|n+1=>(G.dm n aG).bind λv1=>cond v1 ((G.jq n aV).bind λv2=>cond v2 ((G.dm n iY).bind λv3=>cond v3 ((G.jF n aG aV iY).bind λv4=>(G.pV n v4.1 v4.2).bind λv5=>some (v5.1,v5.2))<|some ((aj.mk 0 0 [] [] []),false))<|some ((aj.mk 0 0 [] [] []),false))<|some ((aj.mk 0 0 [] [] []),false)
def G.vK (f:Nat)(vz:uO):Option (Bool):=match f with
|0=>none
|n+1=>cond (decide<|1<=vz.bQ) (cond (decide<|vz.bQ<=6) ((G.jq n vz.uq).bind λv1=>cond v1 ((G.jq n vz.xJ).bind λv2=>cond v2 ((G.dm n vz.Value).bind λv3=>some v3)<|some false)<|some false)<|some false)<|some false
def G.slices_Equal_string.L1 (f:Nat)(Jp:List fD)(LX:List fD)(jM:Int):Option (Bool):=match f with
|0=>none
|n+1=>cond (decide<|jM<(Jp.length:Int)) (chk (0<=jM/\jM<(Jp.length:Int))<|chk (0<=jM/\jM<(LX.length:Int))<|cond ((Jp.getD jM.toNat default)==(LX.getD jM.toNat default)) (G.slices_Equal_string.L1 n Jp LX<|af .i64<|jM+1)<|some false)<|some true
def G.slices_Equal_string (f:Nat)(Jp:List fD)(LX:List fD):Option (Bool):=match f with
|0=>none
|n+1=>cond ((Jp.length:Int) != (LX.length:Int)) (some false)<|G.slices_Equal_string.L1 n Jp LX 0
def G.uJ (f:Nat)(aG:aj)(Ec:List fD)(aV:List fD):Option (aj×Bool):=match f with
|0=>none
|n+1=>(G.uP n aG Ec).bind λv1=>cond v1.2 ((G.slices_Equal_string n aV Ec).bind λv2=>cond v2 ((G.bC n aG).bind λv3=>some (v3,true))<|cond (decide<|(Ec.length:Int)<(aV.length:Int)) (chk (0<=0/\0<=(Ec.length:Int)/\(Ec.length:Int)<=(aV.length:Int))<|(G.slices_Equal_string n (aV.take Ec.length) Ec).bind λv4=>cond v4 (some ((aj.mk 0 0 [] [] []),false))<|(G.mF n aG Ec).bind λv5=>cond v5.2 ((G.oQ n v5.1 aV v1.1).bind λv6=>some (v6.1,v6.2))<|some ((aj.mk 0 0 [] [] []),false))<|(G.mF n aG Ec).bind λv7=>cond v7.2 ((G.oQ n v7.1 aV v1.1).bind λv8=>some (v8.1,v8.2))<|some ((aj.mk 0 0 [] [] []),false))<|some ((aj.mk 0 0 [] [] []),false)
def G.iH (f:Nat)(aS:fD)(gG:fD):Option (Int):=match f with
|0=>none
|n+1=>some<|Go.Lib.compareBytes aS gG
def G.strings_Compare (f:Nat)(aS:fD)(gG:fD):Option (Int):=match f with
|0=>none
|n+1=>(G.iH n aS gG).bind λv1=>some v1
mutual
def G.dQ.K4 (f:Nat)(aS:aj)(gG:aj)(aJ:Int):Option (Int):=match f with
|0=>none
|n+1=>chk (0<=aJ/\aJ<(aS.aP.length:Int))<|chk (0<=aJ/\aJ<(gG.aP.length:Int))<|(G.dQ n (aS.aP.getD aJ.toNat default)<|gG.aP.getD aJ.toNat default).bind λv11=>cond (v11 != 0) (some v11)<|G.dQ.L3 n aS gG<|af .i64<|aJ+1
def G.dQ.L3 (f:Nat)(aS:aj)(gG:aj)(aJ:Int):Option (Int):=match f with
|0=>none
|n+1=>cond (decide<|aJ<(aS.aP.length:Int)) (cond (decide<|aJ<(gG.aP.length:Int)) (cond (aS.bQ==4) (chk (0<=aJ/\aJ<(aS.aO.length:Int))<|chk (0<=aJ/\aJ<(gG.aO.length:Int))<|(G.strings_Compare n (aS.aO.getD aJ.toNat default)<|gG.aO.getD aJ.toNat default).bind λv12=>cond (v12 != 0) (some v12)<|G.dQ.K4 n aS gG aJ)<|G.dQ.K4 n aS gG aJ)<|(G.cmp_Compare_int n (aS.aP.length:Int) (gG.aP.length:Int)).bind λv13=>some v13)<|(G.cmp_Compare_int n (aS.aP.length:Int) (gG.aP.length:Int)).bind λv14=>some v14
def G.dQ (f:Nat)(aS:aj)(gG:aj):Option (Int):=match f with
|0=>none
|n+1=>(G.cmp_Compare_int n aS.bQ gG.bQ).bind λv1=>cond (v1 != 0) (some v1)<|(G.cmp_Compare_int n aS.wL gG.wL).bind λv2=>cond (v2 != 0) (some v2)<|(G.strings_Compare n aS.lI gG.lI).bind λv3=>cond (v3 != 0) (some v3)<|G.dQ.L3 n aS gG 0
end
def G.uK (f:Nat)(aS:aj)(gG:aj):Option (Bool):=match f with
|0=>none
|n+1=>(G.dQ n aS gG).bind λv1=>some<|v1==0
def G.sF (f:Nat)(aG:aj)(aV:List fD)(iY:aj):Option (aj×Bool):=match f with
|0=>none
|n+1=>(G.kN n aG aV).bind λv1=>cond v1.2 ((G.uK n v1.1 iY).bind λv2=>cond v2 ((G.bC n aG).bind λv3=>some (v3,true))<|some ((aj.mk 0 0 [] [] []),false))<|some ((aj.mk 0 0 [] [] []),false)
def G.rM (f:Nat)(aG:aj)(vz:uO):Option (aj×Bool):=match f with
|0=>none
|n+1=>(G.dm n aG).bind λv1=>cond v1 ((G.vK n vz).bind λv2=>cond v2 (cond (vz.bQ==1) ((G.oQ n aG vz.uq vz.Value).bind λv3=>some (v3.1,v3.2))<|cond (vz.bQ==2) ((G.mF n aG vz.uq).bind λv4=>some (v4.1,v4.2))<|cond (vz.bQ==3) ((G.vP n aG vz.uq vz.Value).bind λv5=>some (v5.1,v5.2))<|cond (vz.bQ==4) ((G.uJ n aG vz.xJ vz.uq).bind λv6=>some (v6.1,v6.2))<|cond (vz.bQ==5) ((G.uP n aG vz.xJ).bind λv7=>cond v7.2 ((G.oQ n aG vz.uq v7.1).bind λv8=>some (v8.1,v8.2))<|some ((aj.mk 0 0 [] [] []),false))<|(G.sF n aG vz.uq vz.Value).bind λv9=>some (v9.1,v9.2))<|some ((aj.mk 0 0 [] [] []),false))<|some ((aj.mk 0 0 [] [] []),false)
def G.gZ.L1 (f:Nat)(aU:List uO)(jM:Int):Option (Bool):=match f with
|0=>none
|n+1=>cond (decide<|jM<(aU.length:Int)) (chk (0<=jM/\jM<(aU.length:Int))<|(G.vK n<|uO.mk ((aU.getD jM.toNat default).bQ) ((aU.getD jM.toNat default).uq) ((aU.getD jM.toNat default).xJ)<|(aU.getD jM.toNat default).Value).bind λv3=>cond v3 (G.gZ.L1 n aU<|af .i64<|jM+1)<|some false)<|some true
def G.gZ (f:Nat)(aU:List uO):Option (Bool):=match f with
|0=>none
|n+1=>cond (decide<|12<(aU.length:Int)) (some false)<|G.gZ.L1 n aU 0
def G.lG.L1 (f:Nat)(aU:List uO)(jM:Int)(y6:Int)(y7:Int)(y8:fD)(y9:List fD)(UC:List aj):Option (aj×Int):=match f with
|0=>none
|n+1=>cond (decide<|jM<(aU.length:Int)) (chk (0<=jM/\jM<(aU.length:Int))<|(G.rM n (aj.mk y6 y7 y8 y9 UC)<|uO.mk ((aU.getD jM.toNat default).bQ) ((aU.getD jM.toNat default).uq) ((aU.getD jM.toNat default).xJ)<|(aU.getD jM.toNat default).Value).bind λv4=>cond v4.2 (G.lG.L1 n aU (af .i64<|jM+1) v4.1.bQ v4.1.wL v4.1.lI v4.1.aO v4.1.aP)<|some ((aj.mk 0 0 [] [] []),jM))<|some ((aj.mk y6 y7 y8 y9 UC),(aU.length:Int))
def G.lG (f:Nat)(aG:aj)(aU:List uO):Option (aj×Int):=match f with
|0=>none
|n+1=>(G.bC n aG).bind λv1=>G.lG.L1 n aU 0 v1.bQ v1.wL v1.lI v1.aO v1.aP
def G.ry (f:Nat)(aG:aj)(aU:List uO):Option (aj×Bool):=match f with
|0=>none
|n+1=>(G.dm n aG).bind λv1=>cond v1 ((G.gZ n aU).bind λv2=>cond v2 ((G.lG n aG aU).bind λv3=>some (v3.1,(v3.2==(aU.length:Int))))<|some ((aj.mk 0 0 [] [] []),false))<|some ((aj.mk 0 0 [] [] []),false)
def G.jR (f:Nat)(aX:fD)(P8:Int):Option (Int):=match f with
|0=>none
|n+1=>some<|Go.Lib.indexByte aX P8.toNat.toUInt8
def G.strings_IndexByte (f:Nat)(aX:fD)(P8:Int):Option (Int):=match f with
|0=>none
|n+1=>(G.jR n aX P8).bind λv1=>some v1
def G.o9.L1 (f:Nat)(aX:fD)(aJ:Int):Option (Bool):=match f with
|0=>none
|n+1=>cond (decide<|aJ<(aX.length:Int)) (chk (0<=aJ/\aJ<(aX.length:Int))<|(G.strings_IndexByte n [48,49,50,51,52,53,54,55,56,57,97,98,99,100,101,102] ((aX.getD aJ.toNat 0).toNat:Int)).bind λv3=>cond (decide<|v3<0) (some false)<|G.o9.L1 n aX<|af .i64<|aJ+1)<|some true
def G.o9 (f:Nat)(aX:fD):Option (Bool):=match f with
|0=>none
|n+1=>cond ((aX.length:Int) != 4) (some false)<|G.o9.L1 n aX 0
def G.kK.L1 (f:Nat)(aU:List fD)(jM:Int):Option (Bool):=match f with
|0=>none
|n+1=>cond (decide<|jM<(aU.length:Int)) (chk (0<=jM/\jM<(aU.length:Int))<|cond ((aU.getD jM.toNat default)==[42]) (G.kK.L1 n aU<|af .i64<|jM+1)<|(G.o9 n<|aU.getD jM.toNat default).bind λv3=>cond v3 (G.kK.L1 n aU<|af .i64<|jM+1)<|some false)<|some true
def G.kK (f:Nat)(aU:List fD):Option (Bool):=match f with
|0=>none
|n+1=>cond (decide<|4<(aU.length:Int)) (some false)<|G.kK.L1 n aU 0
def G.slices_Index_string.L1 (f:Nat)(aX:List fD)(EU:fD)(jM:Int):Option (Int):=match f with
|0=>none
|n+1=>cond (decide<|jM<(aX.length:Int)) (chk (0<=jM/\jM<(aX.length:Int))<|cond (EU==(aX.getD jM.toNat default)) (some jM)<|G.slices_Index_string.L1 n aX EU<|af .i64<|jM+1)<|some (-1)
def G.slices_Index_string (f:Nat)(aX:List fD)(EU:fD):Option (Int):=match f with
|0=>none
|n+1=>G.slices_Index_string.L1 n aX EU 0
def G.slices_Contains_string (f:Nat)(aX:List fD)(EU:fD):Option (Bool):=match f with
|0=>none
|n+1=>(G.slices_Index_string n aX EU).bind λv1=>some<|(decide<|0<=v1)
def G.qV (f:Nat)(aU:List fD)(uh:fD):Option (Bool):=match f with
|0=>none
|n+1=>(G.slices_Contains_string n aU uh).bind λv1=>cond v1 (some true)<|(G.slices_Contains_string n aU [42]).bind λv2=>some v2
def G.lg.K1 (f:Nat)(Aa:List fD)(vZ:List fD)(uh:fD)(yF:Bool):Option (Int):=match f with
|0=>none
|n+1=>cond (decide<|0<(Aa.length:Int)) (cond (uh==[]) (some 412)<|(G.qV n Aa uh).bind λv4=>cond v4 (cond (decide<|0<(vZ.length:Int)) ((G.qV n vZ uh).bind λv5=>cond v5 (cond yF (some 304)<|some 412)<|some 200)<|some 200)<|some 412)<|cond (decide<|0<(vZ.length:Int)) (cond (uh==[]) (some 200)<|(G.qV n vZ uh).bind λv6=>cond v6 (cond yF (some 304)<|some 412)<|some 200)<|some 200
def G.lg (f:Nat)(Aa:List fD)(vZ:List fD)(uh:fD)(yF:Bool):Option (Int):=match f with
|0=>none
|n+1=>(G.kK n Aa).bind λv7=>cond v7 ((G.kK n vZ).bind λv8=>cond v8 (cond (uh==[]) (G.lg.K1 n Aa vZ uh yF)<|(G.o9 n uh).bind λv9=>cond v9 (G.lg.K1 n Aa vZ uh yF)<|some 400)<|some 400)<|some 400
def G.kR.L1 (f:Nat)(aX:fD)(aJ:Int):Option (Bool):=match f with
|0=>none
|n+1=>cond (decide<|aJ<(aX.length:Int)) (chk (0<=aJ/\aJ<(aX.length:Int))<|cond (decide<|((aX.getD aJ.toNat 0).toNat:Int)<97) (chk (0<=aJ/\aJ<(aX.length:Int))<|cond (decide<|((aX.getD aJ.toNat 0).toNat:Int)<48) (some false)<|chk (0<=aJ/\aJ<(aX.length:Int))<|cond (decide<|57<((aX.getD aJ.toNat 0).toNat:Int)) (some false)<|G.kR.L1 n aX<|af .i64<|aJ+1)<|chk (0<=aJ/\aJ<(aX.length:Int))<|cond (decide<|122<((aX.getD aJ.toNat 0).toNat:Int)) (chk (0<=aJ/\aJ<(aX.length:Int))<|cond (decide<|((aX.getD aJ.toNat 0).toNat:Int)<48) (some false)<|chk (0<=aJ/\aJ<(aX.length:Int))<|cond (decide<|57<((aX.getD aJ.toNat 0).toNat:Int)) (some false)<|G.kR.L1 n aX<|af .i64<|aJ+1)<|G.kR.L1 n aX<|af .i64<|aJ+1)<|some true
def G.kR (f:Nat)(aX:fD):Option (Bool):=match f with
|0=>none
|n+1=>cond (aX==[]) (some false)<|cond (decide<|8<(aX.length:Int)) (some false)<|G.kR.L1 n aX 0
def G.dY.L1 (f:Nat)(aX:bP)(jM:Int):Option (Bool):=match f with
|0=>none
|n+1=>cond (decide<|jM<(aX.bH.length:Int)) (chk (0<=jM/\jM<(aX.bH.length:Int))<|(G.kR n<|(aX.bH.getD jM.toNat default).iC).bind λv6=>cond v6 (cond (decide<|0<jM) (chk (0<=(af .i64<|jM-1)/\(af .i64<|jM-1)<(aX.bH.length:Int))<|cond (iR ((aX.bH.getD (af .i64<|jM-1).toNat default).iC)<|(aX.bH.getD jM.toNat default).iC) (cond (decide<|(aX.bH.getD jM.toNat default).mW<1) (some false)<|cond (decide<|aX.kZ<(aX.bH.getD jM.toNat default).mW) (some false)<|(G.dm n<|(aX.bH.getD jM.toNat default).pR).bind λv7=>cond v7 (G.dY.L1 n aX<|af .i64<|jM+1)<|some false)<|some false)<|cond (decide<|(aX.bH.getD jM.toNat default).mW<1) (some false)<|cond (decide<|aX.kZ<(aX.bH.getD jM.toNat default).mW) (some false)<|(G.dm n<|(aX.bH.getD jM.toNat default).pR).bind λv8=>cond v8 (G.dY.L1 n aX<|af .i64<|jM+1)<|some false)<|some false)<|some true
def G.dY (f:Nat)(aX:bP):Option (Bool):=match f with
|0=>none
|n+1=>cond (decide<|10<(aX.bH.length:Int)) (some false)<|cond (decide<|aX.kZ<0) (some false)<|cond (decide<|999<aX.kZ) (some false)<|G.dY.L1 n aX 0
def G.sD (f:Nat)(yU:fB):Option (fB):=match f with
|0=>none
|n+1=>(G.bC n yU.pR).bind λv1=>some<|fB.mk yU.iC yU.mW v1
def G.fA.L1 (f:Nat)(aX:bP)(jM:Int)(z3:List fB):Option (bP):=match f with
|0=>none
|n+1=>cond (decide<|jM<(aX.bH.length:Int)) (chk (0<=jM/\jM<(aX.bH.length:Int))<|(G.sD n<|fB.mk ((aX.bH.getD jM.toNat default).iC) ((aX.bH.getD jM.toNat default).mW)<|(aX.bH.getD jM.toNat default).pR).bind λv3=>chk (0<=jM/\jM<(z3.length:Int))<|G.fA.L1 n aX (af .i64<|jM+1)<|z3.set jM.toNat v3)<|some<|bP.mk z3 aX.kZ
def G.fA (f:Nat)(aX:bP):Option (bP):=match f with
|0=>none
|n+1=>cond (decide<|0<(aX.bH.length:Int)) (chk (0<=(aX.bH.length:Int)/\(aX.bH.length:Int)<=(aX.bH.length:Int)/\104*(aX.bH.length:Int)<=2^47/\(aX.bH.length:Int)<=2^47)<|G.fA.L1 n aX 0<|bY aX.bH.length<|fB.mk [] 0<|aj.mk 0 0 [] [] [])<|some<|bP.mk [] aX.kZ
def G.sQ (f:Nat)(yU:fB)(fU:fD):Option (Int):=match f with
|0=>none
|n+1=>(G.strings_Compare n yU.iC fU).bind λv1=>some v1
def G.aW.L1 (f:Nat)(vw:List fB)(rU:fD)(aJ:Int)(NV:Int):Option (Int×Bool):=match f with
|0=>none
|n+1=>cond (decide<|aJ<NV) (chk (0<=(af .i64<|(sU (af .u64<|(af .i64<|aJ+NV))<|2^(min 1<|iQ .u64)))/\(af .i64<|(sU (af .u64<|(af .i64<|aJ+NV))<|2^(min 1<|iQ .u64)))<(vw.length:Int))<|(G.sQ n (fB.mk ((vw.getD (af .i64<|(sU (af .u64<|(af .i64<|aJ+NV))<|2^(min 1<|iQ .u64))).toNat default).iC) ((vw.getD (af .i64<|(sU (af .u64<|(af .i64<|aJ+NV))<|2^(min 1<|iQ .u64))).toNat default).mW)<|(vw.getD (af .i64<|(sU (af .u64<|(af .i64<|aJ+NV))<|2^(min 1<|iQ .u64))).toNat default).pR) rU).bind λv3=>cond (decide<|v3<0) (G.aW.L1 n vw rU (af .i64<|(af .i64<|(sU (af .u64<|(af .i64<|aJ+NV))<|2^(min 1<|iQ .u64)))+1) NV)<|G.aW.L1 n vw rU aJ<|af .i64<|(sU (af .u64<|(af .i64<|aJ+NV))<|2^(min 1<|iQ .u64)))<|cond (decide<|aJ<(vw.length:Int)) (chk (0<=aJ/\aJ<(vw.length:Int))<|(G.sQ n (fB.mk ((vw.getD aJ.toNat default).iC) ((vw.getD aJ.toNat default).mW)<|(vw.getD aJ.toNat default).pR) rU).bind λv4=>some (aJ,(v4==0)))<|some (aJ,false)
def G.aW (f:Nat)(vw:List fB)(rU:fD):Option (Int×Bool):=match f with
|0=>none
|n+1=>G.aW.L1 n vw rU 0 (vw.length:Int)
def G.og (f:Nat)(Au:List fB)(fU:fD):Option (Int×Bool):=match f with
|0=>none
|n+1=>(G.aW n Au fU).bind λv1=>some (v1.1,v1.2)
def G.oh (f:Nat)(s:List fB)(i:Int)(j:Int):Option (List fB):=match f with
|0=>none
|_+1=>chk (0<=i/\i<j/\j<=(s.length:Int)/\s.length*112<=2^46) (some (s.take i.toNat++s.drop j.toNat))
def G.uI (f:Nat)(aX:bP)(fU:fD):Option (bP×Bool):=match f with
|0=>none
|n+1=>(G.dY n aX).bind λv1=>cond v1 (cond (aX.kZ==999) (some ((bP.mk [] 0),false))<|(G.og n aX.bH fU).bind λv2=>cond v2.2 ((G.fA n aX).bind λv3=>(G.oh n v3.bH v2.1<|af .i64<|v2.1+1).bind λv4=>some ((bP.mk v4<|af .i64<|v3.kZ+1),true))<|some ((bP.mk [] 0),false))<|some ((bP.mk [] 0),false)
def G.dH (f:Nat)(b:jO)(c:Int):Option (Unit×jO):=match f with
|0=>none
|_+1=>(chk ((0<=c/\c<256)/\b.buf.length+1<=140737488355328) (some ((),jO.mk (b.buf++[gz c.toNat]))))
mutual
def G.iE.K4 (f:Nat)(aX:fD)(aJ:Int)(z5:fD):Option (jO):=match f with
|0=>none
|n+1=>chk (0<=aJ/\aJ<(aX.length:Int))<|(G.dH n (jO.mk z5) ((aX.getD aJ.toNat 0).toNat:Int)).bind λv14=>G.iE.L3 n aX (af .i64<|aJ+1) v14.2.buf
def G.iE.L3 (f:Nat)(aX:fD)(aJ:Int)(z4:fD):Option (jO):=match f with
|0=>none
|n+1=>cond (decide<|aJ<(aX.length:Int)) (chk (0<=aJ/\aJ<(aX.length:Int))<|cond (((aX.getD aJ.toNat 0).toNat:Int)==34) ((G.dH n (jO.mk z4) 92).bind λv15=>G.iE.K4 n aX aJ v15.2.buf)<|chk (0<=aJ/\aJ<(aX.length:Int))<|cond (((aX.getD aJ.toNat 0).toNat:Int)==92) ((G.dH n (jO.mk z4) 92).bind λv16=>G.iE.K4 n aX aJ v16.2.buf)<|G.iE.K4 n aX aJ z4)<|(G.dH n (jO.mk z4) 34).bind λv17=>some v17.2
end
def G.iE (f:Nat)(Ee:jO)(aX:fD):Option (jO):=match f with
|0=>none
|n+1=>(G.dH n Ee 34).bind λv1=>G.iE.L3 n aX 0 v1.2.buf
def G.nG (f:Nat)(b:jO)(s:fD):Option (Int×Unit×jO):=match f with
|0=>none
|_+1=>(chk (b.buf.length+s.length<=140737488355328) (some ((s.length:Int),(),jO.mk (b.buf++s))))
mutual
def G.dO.K4 (f:Nat)(aG:aj)(jM:Int)(z4:fD):Option (jO):=match f with
|0=>none
|n+1=>(G.dO n (jO.mk z4)<|aG.aP.getD jM.toNat default).bind λv11=>G.dO.L3 n aG (af .i64<|jM+1) v11.buf
def G.dO.L3 (f:Nat)(aG:aj)(jM:Int)(z3:fD):Option (jO):=match f with
|0=>none
|n+1=>cond (decide<|jM<(aG.aP.length:Int)) (chk (0<=jM/\jM<(aG.aP.length:Int))<|cond (decide<|0<jM) ((G.dH n (jO.mk z3) 44).bind λv12=>G.dO.K4 n aG jM v12.2.buf)<|G.dO.K4 n aG jM z3)<|(G.dH n (jO.mk z3) 93).bind λv13=>some v13.2
def G.dO.K8 (f:Nat)(aG:aj)(UB:Int)(z8:fD):Option (jO):=match f with
|0=>none
|n+1=>chk (0<=UB/\UB<(aG.aO.length:Int))<|(G.iE n (jO.mk z8)<|aG.aO.getD UB.toNat default).bind λv24=>(G.dH n v24 58).bind λv25=>(G.dO n v25.2<|aG.aP.getD UB.toNat default).bind λv26=>G.dO.L7 n aG (af .i64<|UB+1) v26.buf
def G.dO.L7 (f:Nat)(aG:aj)(UB:Int)(z7:fD):Option (jO):=match f with
|0=>none
|n+1=>cond (decide<|UB<(aG.aP.length:Int)) (chk (0<=UB/\UB<(aG.aP.length:Int))<|cond (decide<|0<UB) ((G.dH n (jO.mk z7) 44).bind λv27=>G.dO.K8 n aG UB v27.2.buf)<|G.dO.K8 n aG UB z7)<|(G.dH n (jO.mk z7) 125).bind λv28=>some v28.2
def G.dO (f:Nat)(Ee:jO)(aG:aj):Option (jO):=match f with
|0=>none
|n+1=>cond (aG.bQ==0) ((G.nG n Ee [110,117,108,108]).bind λv1=>some v1.2.2)<|cond (aG.bQ==1) ((G.strconv_Itoa n aG.wL).bind λv2=>(G.nG n Ee v2).bind λv3=>some v3.2.2)<|cond (aG.bQ==2) ((G.iE n Ee aG.lI).bind λv4=>some v4)<|cond (aG.bQ==3) ((G.dH n Ee 91).bind λv5=>G.dO.L3 n aG 0 v5.2.buf)<|cond (aG.bQ==4) ((G.dH n Ee 123).bind λv14=>G.dO.L7 n aG 0 v14.2.buf)<|some Ee
end
def G.uZ (f:Nat)(b:jO):Option fD:=match f with
|0=>none
|_+1=>(chk (b.buf.length<=140737488355328) (some b.buf))
def G.rC (f:Nat)(aG:aj):Option (fD):=match f with
|0=>none
|n+1=>(G.dm n aG).bind λv1=>cond v1 ((G.dO n (jO.mk []) aG).bind λv2=>(G.uZ n v2).bind λv3=>some v3)<|some<|[]
def G.vN (f:Nat)(aX:bP)(fU:fD):Option (fB×Bool):=match f with
|0=>none
|n+1=>(G.dY n aX).bind λv1=>cond v1 ((G.og n aX.bH fU).bind λv2=>cond v2.2 (chk (0<=v2.1/\v2.1<(aX.bH.length:Int))<|(G.sD n<|fB.mk ((aX.bH.getD v2.1.toNat default).iC) ((aX.bH.getD v2.1.toNat default).mW)<|(aX.bH.getD v2.1.toNat default).pR).bind λv3=>some (v3,true))<|some ((fB.mk [] 0<|aj.mk 0 0 [] [] []),false))<|some ((fB.mk [] 0<|aj.mk 0 0 [] [] []),false)
def G.jv.L2 (f:Nat)(ZQ:Int)(OG:Int)(z3:List Int):Option (fD):=match f with
|0=>none
|n+1=>cond (decide<|0<=OG) (chk (0<=(lD ZQ 16)/\(lD ZQ 16)<((16:Nat):Int))<|chk (0<=OG/\OG<(z3.length:Int))<|chk (0<=OG/\OG<4)<|G.jv.L2 n (af .i64<|mJ ZQ 16) (af .i64<|OG-1)<|z3.set OG.toNat ((([48,49,50,51,52,53,54,55,56,57,97,98,99,100,101,102]:fD).getD (lD ZQ 16).toNat 0).toNat:Int))<|chk (z3.length=4)<|chk ((z3.take 4).length<=maxLen)<|some<|(IW<|z3.take 4)
def G.jv.L1 (f:Nat)(aX:fD)(ajX:Int)(aJ:Int):Option (fD):=match f with
|0=>none
|n+1=>cond (decide<|aJ<(aX.length:Int)) (chk (0<=aJ/\aJ<(aX.length:Int))<|G.jv.L1 n aX (lD (af .i64<|(af .i64<|131*ajX)+(af .i64<|((aX.getD aJ.toNat 0).toNat:Int))) 65521)<|af .i64<|aJ+1)<|G.jv.L2 n ajX 3<|bY 4 0
def G.jv (f:Nat)(aX:fD):Option (fD):=match f with
|0=>none
|n+1=>G.jv.L1 n aX 17 0
def G.wo (f:Nat)(aG:aj):Option (fD):=match f with
|0=>none
|n+1=>(G.dm n aG).bind λv1=>cond v1 ((G.rC n aG).bind λv2=>(G.jv n v2).bind λv3=>some v3)<|some<|[]
def G.rD (f:Nat)(aX:bP)(nI:bn):Option (bP×bJ):=match f with
|0=>none
|n+1=>(G.uI n aX nI.iC).bind λv1=>cond v1.2 (some (v1.1,(bJ.mk 200 [] v1.1.kZ<|aj.mk 0 0 [] [] [])))<|(G.fA n aX).bind λv2=>some (v2,(bJ.mk 422 [] 0<|aj.mk 0 0 [] [] []))
def G.ou (f:Nat)(s:List fB)(i:Int)(v:List fB):Option (List fB):=match f with
|0=>none
|_+1=>chk (0<=i/\i<=(s.length:Int)/\v.length=1/\(s.length+1)*112<=2^46) (some (s.take i.toNat++v++s.drop i.toNat))
def G.xW (f:Nat)(Au:List fB)(yU:fB):Option (List fB):=match f with
|0=>none
|n+1=>(G.og n Au yU.iC).bind λv1=>cond v1.2 (chk (0<=v1.1/\v1.1<(Au.length:Int))<|some<|Au.set v1.1.toNat yU)<|(G.ou n Au v1.1 [yU]).bind λv2=>some v2
def G.vO (f:Nat)(aX:bP)(fU:fD)(aG:aj):Option (bP×Bool):=match f with
|0=>none
|n+1=>(G.dY n aX).bind λv1=>cond v1 ((G.kR n fU).bind λv2=>cond v2 ((G.dm n aG).bind λv3=>cond v3 ((G.fA n aX).bind λv4=>(G.bC n aG).bind λv5=>(G.xW n v4.bH<|fB.mk fU (af .i64<|v4.kZ+1) v5).bind λv6=>(G.dY n<|bP.mk v6<|af .i64<|v4.kZ+1).bind λv7=>cond v7 (some ((bP.mk v6<|af .i64<|v4.kZ+1),true))<|some ((bP.mk [] 0),false))<|some ((bP.mk [] 0),false))<|some ((bP.mk [] 0),false))<|some ((bP.mk [] 0),false)
def G.wF (f:Nat)(BV:aj)(fU:fD):Option (aj):=match f with
|0=>none
|n+1=>(G.slices_BinarySearch_string n BV.aO fU).bind λv1=>cond v1.2 ((G.slices_Delete_string n BV.aO v1.1<|af .i64<|v1.1+1).bind λv2=>(G.jW n BV.aP v1.1<|af .i64<|v1.1+1).bind λv3=>some<|aj.mk BV.bQ BV.wL BV.lI v2 v3)<|some BV
mutual
def G.fE.K5 (f:Nat)(fC:aj)(jM:Int)(y17:Int)(y18:Int)(y19:fD)(z5:List fD)(z6:List aj)(y20:Int)(y21:Int)(y22:fD)(y23:List fD)(y24:List aj):Option (aj):=match f with
|0=>none
|n+1=>chk (0<=jM/\jM<(fC.aP.length:Int))<|(G.fE n (aj.mk y20 y21 y22 y23 y24)<|fC.aP.getD jM.toNat default).bind λv15=>(G.pW n (aj.mk y17 y18 y19 z5 z6) (fC.aO.getD jM.toNat default) v15).bind λv16=>G.fE.L4 n fC (af .i64<|jM+1) v16.bQ v16.wL v16.lI v16.aO v16.aP
def G.fE.L4 (f:Nat)(fC:aj)(jM:Int)(y17:Int)(y18:Int)(y19:fD)(z5:List fD)(z6:List aj):Option (aj):=match f with
|0=>none
|n+1=>cond (decide<|jM<(fC.aO.length:Int)) (chk (0<=jM/\jM<(fC.aO.length:Int))<|chk (0<=jM/\jM<(fC.aP.length:Int))<|cond ((fC.aP.getD jM.toNat default).bQ==0) ((G.wF n (aj.mk y17 y18 y19 z5 z6)<|fC.aO.getD jM.toNat default).bind λv13=>G.fE.L4 n fC (af .i64<|jM+1) v13.bQ v13.wL v13.lI v13.aO v13.aP)<|(G.slices_BinarySearch_string n z5<|fC.aO.getD jM.toNat default).bind λv17=>cond v17.2 (chk (0<=v17.1/\v17.1<(z6.length:Int))<|G.fE.K5 n fC jM y17 y18 y19 z5 z6 ((z6.getD v17.1.toNat default).bQ) ((z6.getD v17.1.toNat default).wL) ((z6.getD v17.1.toNat default).lI) ((z6.getD v17.1.toNat default).aO)<|(z6.getD v17.1.toNat default).aP)<|G.fE.K5 n fC jM y17 y18 y19 z5 z6 0 0 [] [] [])<|some<|aj.mk y17 y18 y19 z5 z6
def G.fE.K1 (f:Nat)(fC:aj)(y1:Int)(y2:Int)(y3:fD)(z1:List fD)(z2:List aj):Option (aj):=match f with
|0=>none
|n+1=>G.fE.L4 n fC 0 y1 y2 y3 z1 z2
def G.fE (f:Nat)(aG:aj)(fC:aj):Option (aj):=match f with
|0=>none
|n+1=>cond (fC.bQ != 4) ((G.bC n fC).bind λv1=>some v1)<|cond (aG.bQ==4) ((G.bC n aG).bind λv18=>G.fE.K1 n fC v18.bQ v18.wL v18.lI v18.aO v18.aP)<|G.fE.K1 n fC 4 0 [] [] []
end
def G.sV (f:Nat)(aG:aj)(fC:aj):Option (aj×Bool):=match f with
|0=>none
|n+1=>(G.dm n aG).bind λv1=>cond v1 ((G.dm n fC).bind λv2=>cond v2 ((G.fE n aG fC).bind λv3=>(G.pV n v3 true).bind λv4=>some (v4.1,v4.2))<|some ((aj.mk 0 0 [] [] []),false))<|some ((aj.mk 0 0 [] [] []),false)
def G.vS (f:Nat)(Hr:aj)(nI:bn):Option (aj×Bool):=match f with
|0=>none
|n+1=>cond (nI.kQ==4) ((G.ry n Hr nI.MH).bind λv1=>some (v1.1,v1.2))<|cond (nI.kQ==5) ((G.sV n Hr nI.Body).bind λv2=>some (v2.1,v2.2))<|some (nI.Body,true)
def G.nP (f:Nat)(aX:bP)(nI:bn)(Hr:aj)(MN:Bool):Option (bP×bJ):=match f with
|0=>none
|n+1=>(G.vS n Hr nI).bind λv1=>cond v1.2 ((G.vO n aX nI.iC v1.1).bind λv2=>cond v2.2 ((G.wo n v1.1).bind λv3=>cond MN (some (v2.1,(bJ.mk 200 v3 v2.1.kZ<|aj.mk 0 0 [] [] [])))<|some (v2.1,(bJ.mk 201 v3 v2.1.kZ<|aj.mk 0 0 [] [] [])))<|(G.fA n aX).bind λv4=>some (v4,(bJ.mk 422 [] 0<|aj.mk 0 0 [] [] [])))<|(G.fA n aX).bind λv5=>some (v5,(bJ.mk 422 [] 0<|aj.mk 0 0 [] [] []))
def G.l7 (f:Nat)(nI:bn):Option (Bool):=match f with
|0=>none
|n+1=>cond (decide<|1<=nI.kQ) (cond (decide<|nI.kQ<=5) ((G.kR n nI.iC).bind λv1=>cond v1 ((G.kK n nI.yL).bind λv2=>cond v2 ((G.kK n nI.uN).bind λv3=>cond v3 ((G.dm n nI.Body).bind λv4=>cond v4 ((G.gZ n nI.MH).bind λv5=>some v5)<|some false)<|some false)<|some false)<|some false)<|some false)<|some false
def G.fG.K1 (f:Nat)(aX:bP)(nI:bn)(v3:fB×Bool)(ajY:fD):Option (bP×bJ):=match f with
|0=>none
|n+1=>(G.lg n nI.yL nI.uN ajY<|nI.kQ==1).bind λv5=>cond (v5 != 200) ((G.fA n aX).bind λv6=>some (v6,(bJ.mk v5 [] 0<|aj.mk 0 0 [] [] [])))<|cond (nI.kQ==1) ((G.fA n aX).bind λv7=>some (v7,(bJ.mk 200 ajY v3.1.mW v3.1.pR)))<|cond (nI.kQ==3) ((G.rD n aX nI).bind λv8=>some (v8.1,v8.2))<|(G.nP n aX nI v3.1.pR true).bind λv9=>some (v9.1,v9.2)
def G.fG.K2 (f:Nat)(aX:bP)(nI:bn)(v3:fB×Bool):Option (bP×bJ):=match f with
|0=>none
|n+1=>(G.lg n nI.yL nI.uN []<|nI.kQ==1).bind λv12=>cond (v12 != 200) ((G.fA n aX).bind λv13=>some (v13,(bJ.mk v12 [] 0<|aj.mk 0 0 [] [] [])))<|cond (nI.kQ==1) ((G.fA n aX).bind λv14=>some (v14,(bJ.mk 200 [] v3.1.mW v3.1.pR)))<|cond (nI.kQ==3) ((G.rD n aX nI).bind λv15=>some (v15.1,v15.2))<|(G.nP n aX nI v3.1.pR false).bind λv16=>some (v16.1,v16.2)
def G.fG (f:Nat)(aX:bP)(nI:bn):Option (bP×bJ):=match f with
|0=>none
|n+1=>(G.dY n aX).bind λv1=>cond v1 ((G.l7 n nI).bind λv2=>cond v2 ((G.vN n aX nI.iC).bind λv3=>cond v3.2 ((G.wo n v3.1.pR).bind λv10=>G.fG.K1 n aX nI v3 v10)<|cond (nI.kQ != 2) ((G.fA n aX).bind λv11=>some (v11,(bJ.mk 404 [] 0<|aj.mk 0 0 [] [] [])))<|G.fG.K2 n aX nI v3)<|some ((bP.mk [] 0),(bJ.mk 400 [] 0<|aj.mk 0 0 [] [] [])))<|some ((bP.mk [] 0),(bJ.mk 400 [] 0<|aj.mk 0 0 [] [] []))
def G.iZ.L1 (f:Nat)(aU:List bn)(jM:Int):Option (Bool):=match f with
|0=>none
|n+1=>cond (decide<|jM<(aU.length:Int)) (chk (0<=jM/\jM<(aU.length:Int))<|(G.l7 n<|bn.mk ((aU.getD jM.toNat default).kQ) ((aU.getD jM.toNat default).iC) ((aU.getD jM.toNat default).yL) ((aU.getD jM.toNat default).uN) ((aU.getD jM.toNat default).Body)<|(aU.getD jM.toNat default).MH).bind λv3=>cond v3 (G.iZ.L1 n aU<|af .i64<|jM+1)<|some false)<|some true
def G.iZ (f:Nat)(aU:List bn):Option (Bool):=match f with
|0=>none
|n+1=>cond (decide<|8<(aU.length:Int)) (some false)<|G.iZ.L1 n aU 0
def G.o8 (f:Nat)(wG:Int):Option (Bool):=match f with
|0=>none
|n+1=>cond (wG==200) (some true)<|some<|wG==201
def G.gy.L1 (f:Nat)(aU:List bn)(jM:Int)(y3:List fB)(y4:Int)(z2:List bJ):Option (bP×List bJ):=match f with
|0=>none
|n+1=>cond (decide<|jM<(aU.length:Int)) (chk (0<=jM/\jM<(aU.length:Int))<|(G.fG n (bP.mk y3 y4)<|bn.mk ((aU.getD jM.toNat default).kQ) ((aU.getD jM.toNat default).iC) ((aU.getD jM.toNat default).yL) ((aU.getD jM.toNat default).uN) ((aU.getD jM.toNat default).Body)<|(aU.getD jM.toNat default).MH).bind λv6=>chk ((z2.length+1)*121<=2^46)<|(G.o8 n v6.2.GG).bind λv7=>cond v7 (G.gy.L1 n aU (af .i64<|jM+1) v6.1.bH v6.1.kZ<|z2++[v6.2])<|some (v6.1,(z2++[v6.2])))<|some ((bP.mk y3 y4),z2)
def G.gy (f:Nat)(aX:bP)(aU:List bn):Option (bP×List bJ):=match f with
|0=>none
|n+1=>(G.fA n aX).bind λv1=>G.gy.L1 n aU 0 v1.bH v1.kZ []
def G.kD.L1 (f:Nat)(aX:bP)(v3:bP×List bJ)(jM:Int):Option (bP×List bJ×Bool):=match f with
|0=>none
|n+1=>cond (decide<|jM<(v3.2.length:Int)) (chk (0<=jM/\jM<(v3.2.length:Int))<|(G.o8 n<|(v3.2.getD jM.toNat default).GG).bind λv8=>cond v8 (G.kD.L1 n aX v3<|af .i64<|jM+1)<|(G.fA n aX).bind λv9=>some (v9,v3.2,false))<|some (v3.1,v3.2,true)
def G.kD (f:Nat)(aX:bP)(aU:List bn):Option (bP×List bJ×Bool):=match f with
|0=>none
|n+1=>(G.dY n aX).bind λv1=>cond v1 ((G.iZ n aU).bind λv2=>cond v2 ((G.gy n aX aU).bind λv3=>G.kD.L1 n aX v3 0)<|some ((bP.mk [] 0),[],false))<|some ((bP.mk [] 0),[],false)
def G.jT.L1 (f:Nat)(aS:List fD)(gG:List fD)(aJ:Int):Option (Bool):=match f with
|0=>none
|n+1=>cond (decide<|aJ<(aS.length:Int)) (chk (0<=aJ/\aJ<(aS.length:Int))<|chk (0<=aJ/\aJ<(gG.length:Int))<|cond ((aS.getD aJ.toNat default)==(gG.getD aJ.toNat default)) (G.jT.L1 n aS gG<|af .i64<|aJ+1)<|some false)<|some true
def G.jT (f:Nat)(aS:List fD)(gG:List fD):Option (Bool):=match f with
|0=>none
|n+1=>cond ((aS.length:Int) != (gG.length:Int)) (some false)<|G.jT.L1 n aS gG 0
mutual
def G.qW (f:Nat)(aS:aj)(gG:aj):Option (Bool):=match f with
|0=>none
|n+1=>cond (aS.bQ != gG.bQ) (some false)<|cond (aS.wL != gG.wL) (some false)<|cond (aS.lI==gG.lI) ((G.jT n aS.aO gG.aO).bind λv1=>cond v1 ((G.qC n aS.aP gG.aP).bind λv2=>cond v2 (some true)<|some false)<|some false)<|some false
def G.qC.L1 (f:Nat)(aS:List aj)(gG:List aj)(aJ:Int):Option (Bool):=match f with
|0=>none
|n+1=>cond (decide<|aJ<(aS.length:Int)) (chk (0<=aJ/\aJ<(aS.length:Int))<|chk (0<=aJ/\aJ<(gG.length:Int))<|(G.qW n (aS.getD aJ.toNat default)<|gG.getD aJ.toNat default).bind λv3=>cond v3 (G.qC.L1 n aS gG<|af .i64<|aJ+1)<|some false)<|some true
def G.qC (f:Nat)(aS:List aj)(gG:List aj):Option (Bool):=match f with
|0=>none
|n+1=>cond ((aS.length:Int) != (gG.length:Int)) (some false)<|G.qC.L1 n aS gG 0
end
def G.yx (f:Nat)(aS:fB)(gG:fB):Option (Bool):=match f with
|0=>none
|n+1=>cond (aS.iC==gG.iC) (cond (aS.mW != gG.mW) (some false)<|(G.qW n aS.pR gG.pR).bind λv1=>cond v1 (some true)<|some false)<|some false
def G.oU.L1 (f:Nat)(aS:List fB)(gG:List fB)(aJ:Int):Option (Bool):=match f with
|0=>none
|n+1=>cond (decide<|aJ<(aS.length:Int)) (chk (0<=aJ/\aJ<(aS.length:Int))<|chk (0<=aJ/\aJ<(gG.length:Int))<|(G.yx n (fB.mk ((aS.getD aJ.toNat default).iC) ((aS.getD aJ.toNat default).mW)<|(aS.getD aJ.toNat default).pR)<|fB.mk ((gG.getD aJ.toNat default).iC) ((gG.getD aJ.toNat default).mW)<|(gG.getD aJ.toNat default).pR).bind λv3=>cond v3 (G.oU.L1 n aS gG<|af .i64<|aJ+1)<|some false)<|some true
def G.oU (f:Nat)(aS:List fB)(gG:List fB):Option (Bool):=match f with
|0=>none
|n+1=>cond ((aS.length:Int) != (gG.length:Int)) (some false)<|G.oU.L1 n aS gG 0
def G.Bg (f:Nat)(aS:uO)(gG:uO):Option (Bool):=match f with
|0=>none
|n+1=>cond (aS.bQ != gG.bQ) (some false)<|(G.jT n aS.uq gG.uq).bind λv1=>cond v1 ((G.jT n aS.xJ gG.xJ).bind λv2=>cond v2 ((G.qW n aS.Value gG.Value).bind λv3=>cond v3 (some true)<|some false)<|some false)<|some false
def G.uj.L1 (f:Nat)(aS:List uO)(gG:List uO)(aJ:Int):Option (Bool):=match f with
|0=>none
|n+1=>cond (decide<|aJ<(aS.length:Int)) (chk (0<=aJ/\aJ<(aS.length:Int))<|chk (0<=aJ/\aJ<(gG.length:Int))<|(G.Bg n (uO.mk ((aS.getD aJ.toNat default).bQ) ((aS.getD aJ.toNat default).uq) ((aS.getD aJ.toNat default).xJ)<|(aS.getD aJ.toNat default).Value)<|uO.mk ((gG.getD aJ.toNat default).bQ) ((gG.getD aJ.toNat default).uq) ((gG.getD aJ.toNat default).xJ)<|(gG.getD aJ.toNat default).Value).bind λv3=>cond v3 (G.uj.L1 n aS gG<|af .i64<|aJ+1)<|some false)<|some true
def G.uj (f:Nat)(aS:List uO)(gG:List uO):Option (Bool):=match f with
|0=>none
|n+1=>cond ((aS.length:Int) != (gG.length:Int)) (some false)<|G.uj.L1 n aS gG 0
def G.vG (f:Nat)(aS:bn)(gG:bn):Option (Bool):=match f with
|0=>none
|n+1=>cond (aS.kQ != gG.kQ) (some false)<|cond (aS.iC==gG.iC) ((G.jT n aS.yL gG.yL).bind λv1=>cond v1 ((G.jT n aS.uN gG.uN).bind λv2=>cond v2 ((G.qW n aS.Body gG.Body).bind λv3=>cond v3 ((G.uj n aS.MH gG.MH).bind λv4=>cond v4 (some true)<|some false)<|some false)<|some false)<|some false)<|some false
def G.lH.L1 (f:Nat)(aS:List bn)(gG:List bn)(aJ:Int):Option (Bool):=match f with
|0=>none
|n+1=>cond (decide<|aJ<(aS.length:Int)) (chk (0<=aJ/\aJ<(aS.length:Int))<|chk (0<=aJ/\aJ<(gG.length:Int))<|(G.vG n (bn.mk ((aS.getD aJ.toNat default).kQ) ((aS.getD aJ.toNat default).iC) ((aS.getD aJ.toNat default).yL) ((aS.getD aJ.toNat default).uN) ((aS.getD aJ.toNat default).Body)<|(aS.getD aJ.toNat default).MH)<|bn.mk ((gG.getD aJ.toNat default).kQ) ((gG.getD aJ.toNat default).iC) ((gG.getD aJ.toNat default).yL) ((gG.getD aJ.toNat default).uN) ((gG.getD aJ.toNat default).Body)<|(gG.getD aJ.toNat default).MH).bind λv3=>cond v3 (G.lH.L1 n aS gG<|af .i64<|aJ+1)<|some false)<|some true
def G.lH (f:Nat)(aS:List bn)(gG:List bn):Option (Bool):=match f with
|0=>none
|n+1=>cond ((aS.length:Int) != (gG.length:Int)) (some false)<|G.lH.L1 n aS gG 0
def G.uA (f:Nat)(aS:bJ)(gG:bJ):Option (Bool):=match f with
|0=>none
|n+1=>cond (aS.GG != gG.GG) (some false)<|cond (aS.Tag==gG.Tag) (cond (aS.mW != gG.mW) (some false)<|(G.qW n aS.Body gG.Body).bind λv1=>cond v1 (some true)<|some false)<|some false
def G.jS.L1 (f:Nat)(aS:List bJ)(gG:List bJ)(aJ:Int):Option (Bool):=match f with
|0=>none
|n+1=>cond (decide<|aJ<(aS.length:Int)) (chk (0<=aJ/\aJ<(aS.length:Int))<|chk (0<=aJ/\aJ<(gG.length:Int))<|(G.uA n (bJ.mk ((aS.getD aJ.toNat default).GG) ((aS.getD aJ.toNat default).Tag) ((aS.getD aJ.toNat default).mW)<|(aS.getD aJ.toNat default).Body)<|bJ.mk ((gG.getD aJ.toNat default).GG) ((gG.getD aJ.toNat default).Tag) ((gG.getD aJ.toNat default).mW)<|(gG.getD aJ.toNat default).Body).bind λv3=>cond v3 (G.jS.L1 n aS gG<|af .i64<|aJ+1)<|some false)<|some true
def G.jS (f:Nat)(aS:List bJ)(gG:List bJ):Option (Bool):=match f with
|0=>none
|n+1=>cond ((aS.length:Int) != (gG.length:Int)) (some false)<|G.jS.L1 n aS gG 0
def G.uy (f:Nat)(aS:bP)(gG:bP):Option (Bool):=match f with
|0=>none
|n+1=>(G.oU n aS.bH gG.bH).bind λv1=>cond v1 (cond (aS.kZ != gG.kZ) (some false)<|some true)<|some false
def G.jf.L1 (f:Nat)(Ej:Int)(Fg:fD):Option (fD):=match f with
|0=>none
|n+1=>cond (decide<|0<Ej) (chk (1<=maxLen)<|chk (1+Fg.length<=maxLen)<|G.jf.L1 n (af .i64<|mJ Ej 10)<|[gz (af .u8<|(af .i64<|48+(lD Ej 10))).toNat]++Fg)<|chk (1+Fg.length<=maxLen)<|some<|[109]++Fg
def G.jf (f:Nat)(Aw:Int):Option (fD):=match f with
|0=>none
|n+1=>cond (decide<|Aw<=0) (some<|[109,48])<|G.jf.L1 n Aw []
def G.jk.L1 (f:Nat)(aS:List fD)(Ej:Int)(aJ:Int):Option (Int):=match f with
|0=>none
|n+1=>cond (decide<|aJ<(aS.length:Int)) (chk (0<=aJ/\aJ<(aS.length:Int))<|(G.jf n Ej).bind λv3=>cond ((aS.getD aJ.toNat default)==v3) (G.jk.L1 n aS (af .i64<|Ej+1)<|af .i64<|aJ+1)<|some (-1))<|some Ej
def G.jk (f:Nat)(aS:List fD)(Aw:Int):Option (Int):=match f with
|0=>none
|n+1=>G.jk.L1 n aS Aw 0
mutual
def G.jU.L1 (f:Nat)(aS:List aj)(Ej:Int)(aJ:Int):Option (Int):=match f with
|0=>none
|n+1=>cond (decide<|aJ<(aS.length:Int)) (chk (0<=aJ/\aJ<(aS.length:Int))<|cond ((aS.getD aJ.toNat default).bQ != Ej) (some (-1))<|chk (0<=aJ/\aJ<(aS.length:Int))<|cond ((aS.getD aJ.toNat default).wL != (af .i64<|Ej+1)) (some (-1))<|chk (0<=aJ/\aJ<(aS.length:Int))<|(G.jf n<|af .i64<|(af .i64<|Ej+1)+1).bind λv7=>cond ((aS.getD aJ.toNat default).lI==v7) (chk (0<=aJ/\aJ<(aS.length:Int))<|(G.jk n ((aS.getD aJ.toNat default).aO)<|af .i64<|(af .i64<|(af .i64<|Ej+1)+1)+1).bind λv8=>cond (decide<|v8<0) (some (-1))<|chk (0<=aJ/\aJ<(aS.length:Int))<|(G.jU n ((aS.getD aJ.toNat default).aP) v8).bind λv9=>cond (decide<|v9<0) (some (-1))<|G.jU.L1 n aS v9<|af .i64<|aJ+1)<|some (-1))<|some Ej
def G.jU (f:Nat)(aS:List aj)(Aw:Int):Option (Int):=match f with
|0=>none
|n+1=>G.jU.L1 n aS Aw 0
end
def G.l9.L1 (f:Nat)(aS:List fB)(Ej:Int)(aJ:Int):Option (Int):=match f with
|0=>none
|n+1=>cond (decide<|aJ<(aS.length:Int)) (chk (0<=aJ/\aJ<(aS.length:Int))<|(G.jf n Ej).bind λv9=>cond ((aS.getD aJ.toNat default).iC==v9) (chk (0<=aJ/\aJ<(aS.length:Int))<|cond ((aS.getD aJ.toNat default).mW != (af .i64<|Ej+1)) (some (-1))<|chk (0<=aJ/\aJ<(aS.length:Int))<|cond (((aS.getD aJ.toNat default).pR).bQ != (af .i64<|(af .i64<|Ej+1)+1)) (some (-1))<|chk (0<=aJ/\aJ<(aS.length:Int))<|cond (((aS.getD aJ.toNat default).pR).wL != (af .i64<|(af .i64<|(af .i64<|Ej+1)+1)+1)) (some (-1))<|chk (0<=aJ/\aJ<(aS.length:Int))<|(G.jf n<|af .i64<|(af .i64<|(af .i64<|(af .i64<|Ej+1)+1)+1)+1).bind λv10=>cond (((aS.getD aJ.toNat default).pR).lI==v10) (chk (0<=aJ/\aJ<(aS.length:Int))<|(G.jk n (((aS.getD aJ.toNat default).pR).aO)<|af .i64<|(af .i64<|(af .i64<|(af .i64<|(af .i64<|Ej+1)+1)+1)+1)+1).bind λv11=>cond (decide<|v11<0) (some (-1))<|chk (0<=aJ/\aJ<(aS.length:Int))<|(G.jU n (((aS.getD aJ.toNat default).pR).aP) v11).bind λv12=>cond (decide<|v12<0) (some (-1))<|G.l9.L1 n aS v12<|af .i64<|aJ+1)<|some (-1))<|some (-1))<|some Ej
def G.l9 (f:Nat)(aS:List fB)(Aw:Int):Option (Int):=match f with
|0=>none
|n+1=>G.l9.L1 n aS Aw 0
def G.jD.L1 (f:Nat)(aS:List bJ)(Ej:Int)(aJ:Int):Option (Int):=match f with
|0=>none
|n+1=>cond (decide<|aJ<(aS.length:Int)) (chk (0<=aJ/\aJ<(aS.length:Int))<|cond ((aS.getD aJ.toNat default).GG != Ej) (some (-1))<|chk (0<=aJ/\aJ<(aS.length:Int))<|(G.jf n<|af .i64<|Ej+1).bind λv9=>cond ((aS.getD aJ.toNat default).Tag==v9) (chk (0<=aJ/\aJ<(aS.length:Int))<|cond ((aS.getD aJ.toNat default).mW != (af .i64<|(af .i64<|Ej+1)+1)) (some (-1))<|chk (0<=aJ/\aJ<(aS.length:Int))<|cond (((aS.getD aJ.toNat default).Body).bQ != (af .i64<|(af .i64<|(af .i64<|Ej+1)+1)+1)) (some (-1))<|chk (0<=aJ/\aJ<(aS.length:Int))<|cond (((aS.getD aJ.toNat default).Body).wL != (af .i64<|(af .i64<|(af .i64<|(af .i64<|Ej+1)+1)+1)+1)) (some (-1))<|chk (0<=aJ/\aJ<(aS.length:Int))<|(G.jf n<|af .i64<|(af .i64<|(af .i64<|(af .i64<|(af .i64<|Ej+1)+1)+1)+1)+1).bind λv10=>cond (((aS.getD aJ.toNat default).Body).lI==v10) (chk (0<=aJ/\aJ<(aS.length:Int))<|(G.jk n (((aS.getD aJ.toNat default).Body).aO)<|af .i64<|(af .i64<|(af .i64<|(af .i64<|(af .i64<|(af .i64<|Ej+1)+1)+1)+1)+1)+1).bind λv11=>cond (decide<|v11<0) (some (-1))<|chk (0<=aJ/\aJ<(aS.length:Int))<|(G.jU n (((aS.getD aJ.toNat default).Body).aP) v11).bind λv12=>cond (decide<|v12<0) (some (-1))<|G.jD.L1 n aS v12<|af .i64<|aJ+1)<|some (-1))<|some (-1))<|some Ej
def G.jD (f:Nat)(aS:List bJ)(Aw:Int):Option (Int):=match f with
|0=>none
|n+1=>G.jD.L1 n aS Aw 0
def G.vH (f:Nat)(aS:bP)(Aw:Int):Option (Int):=match f with
|0=>none
|n+1=>(G.l9 n aS.bH Aw).bind λv1=>cond (decide<|v1<0) (some (-1))<|some v1
def G.jy.L1 (f:Nat)(aS:List fD)(CG:Int)(aJ:Int):Option (Int):=match f with
|0=>none
|n+1=>cond (decide<|aJ<(aS.length:Int)) (chk (0<=aJ/\aJ<(aS.length:Int))<|cond (decide<|(af .i64<|CG-((aS.getD aJ.toNat default).length:Int))<0) (some (-1))<|G.jy.L1 n aS (af .i64<|CG-((aS.getD aJ.toNat default).length:Int))<|af .i64<|aJ+1)<|some CG
def G.jy (f:Nat)(aS:List fD)(jC:Int):Option (Int):=match f with
|0=>none
|n+1=>cond (decide<|(af .i64<|jC-(aS.length:Int))<0) (some (-1))<|G.jy.L1 n aS (af .i64<|jC-(aS.length:Int)) 0
mutual
def G.qY (f:Nat)(aS:aj)(jC:Int):Option (Int):=match f with
|0=>none
|n+1=>cond (decide<|(af .i64<|jC-(aS.lI.length:Int))<0) (some (-1))<|(G.jy n aS.aO<|af .i64<|jC-(aS.lI.length:Int)).bind λv1=>cond (decide<|v1<0) (some (-1))<|(G.oV n aS.aP v1).bind λv2=>cond (decide<|v2<0) (some (-1))<|some v2
def G.oV.L1 (f:Nat)(aS:List aj)(CG:Int)(aJ:Int):Option (Int):=match f with
|0=>none
|n+1=>cond (decide<|aJ<(aS.length:Int)) (chk (0<=aJ/\aJ<(aS.length:Int))<|(G.qY n (aS.getD aJ.toNat default) CG).bind λv3=>cond (decide<|v3<0) (some (-1))<|G.oV.L1 n aS v3<|af .i64<|aJ+1)<|some CG
def G.oV (f:Nat)(aS:List aj)(jC:Int):Option (Int):=match f with
|0=>none
|n+1=>cond (decide<|(af .i64<|jC-(aS.length:Int))<0) (some (-1))<|G.oV.L1 n aS (af .i64<|jC-(aS.length:Int)) 0
end
def G.wZ (f:Nat)(aS:fB)(jC:Int):Option (Int):=match f with
|0=>none
|n+1=>cond (decide<|(af .i64<|jC-(aS.iC.length:Int))<0) (some (-1))<|(G.qY n aS.pR<|af .i64<|jC-(aS.iC.length:Int)).bind λv1=>cond (decide<|v1<0) (some (-1))<|some v1
def G.nM.L1 (f:Nat)(aS:List fB)(CG:Int)(aJ:Int):Option (Int):=match f with
|0=>none
|n+1=>cond (decide<|aJ<(aS.length:Int)) (chk (0<=aJ/\aJ<(aS.length:Int))<|(G.wZ n (fB.mk ((aS.getD aJ.toNat default).iC) ((aS.getD aJ.toNat default).mW)<|(aS.getD aJ.toNat default).pR) CG).bind λv3=>cond (decide<|v3<0) (some (-1))<|G.nM.L1 n aS v3<|af .i64<|aJ+1)<|some CG
def G.nM (f:Nat)(aS:List fB)(jC:Int):Option (Int):=match f with
|0=>none
|n+1=>cond (decide<|(af .i64<|jC-(aS.length:Int))<0) (some (-1))<|G.nM.L1 n aS (af .i64<|jC-(aS.length:Int)) 0
def G.yN (f:Nat)(aS:uO)(jC:Int):Option (Int):=match f with
|0=>none
|n+1=>(G.jy n aS.uq jC).bind λv1=>cond (decide<|v1<0) (some (-1))<|(G.jy n aS.xJ v1).bind λv2=>cond (decide<|v2<0) (some (-1))<|(G.qY n aS.Value v2).bind λv3=>cond (decide<|v3<0) (some (-1))<|some v3
def G.rE.L1 (f:Nat)(aS:List uO)(CG:Int)(aJ:Int):Option (Int):=match f with
|0=>none
|n+1=>cond (decide<|aJ<(aS.length:Int)) (chk (0<=aJ/\aJ<(aS.length:Int))<|(G.yN n (uO.mk ((aS.getD aJ.toNat default).bQ) ((aS.getD aJ.toNat default).uq) ((aS.getD aJ.toNat default).xJ)<|(aS.getD aJ.toNat default).Value) CG).bind λv3=>cond (decide<|v3<0) (some (-1))<|G.rE.L1 n aS v3<|af .i64<|aJ+1)<|some CG
def G.rE (f:Nat)(aS:List uO)(jC:Int):Option (Int):=match f with
|0=>none
|n+1=>cond (decide<|(af .i64<|jC-(aS.length:Int))<0) (some (-1))<|G.rE.L1 n aS (af .i64<|jC-(aS.length:Int)) 0
def G.pq (f:Nat)(aS:bn)(jC:Int):Option (Int):=match f with
|0=>none
|n+1=>cond (decide<|(af .i64<|jC-(aS.iC.length:Int))<0) (some (-1))<|(G.jy n aS.yL<|af .i64<|jC-(aS.iC.length:Int)).bind λv1=>cond (decide<|v1<0) (some (-1))<|(G.jy n aS.uN v1).bind λv2=>cond (decide<|v2<0) (some (-1))<|(G.qY n aS.Body v2).bind λv3=>cond (decide<|v3<0) (some (-1))<|(G.rE n aS.MH v3).bind λv4=>cond (decide<|v4<0) (some (-1))<|some v4
def G.jQ.L1 (f:Nat)(aS:List bn)(CG:Int)(aJ:Int):Option (Int):=match f with
|0=>none
|n+1=>cond (decide<|aJ<(aS.length:Int)) (chk (0<=aJ/\aJ<(aS.length:Int))<|(G.pq n (bn.mk ((aS.getD aJ.toNat default).kQ) ((aS.getD aJ.toNat default).iC) ((aS.getD aJ.toNat default).yL) ((aS.getD aJ.toNat default).uN) ((aS.getD aJ.toNat default).Body)<|(aS.getD aJ.toNat default).MH) CG).bind λv3=>cond (decide<|v3<0) (some (-1))<|G.jQ.L1 n aS v3<|af .i64<|aJ+1)<|some CG
def G.jQ (f:Nat)(aS:List bn)(jC:Int):Option (Int):=match f with
|0=>none
|n+1=>cond (decide<|(af .i64<|jC-(aS.length:Int))<0) (some (-1))<|G.jQ.L1 n aS (af .i64<|jC-(aS.length:Int)) 0
def G.sW (f:Nat)(aS:bP)(jC:Int):Option (Int):=match f with
|0=>none
|n+1=>(G.nM n aS.bH jC).bind λv1=>cond (decide<|v1<0) (some (-1))<|some v1
def G.jV.L1 (f:Nat)(aS:List fD)(aJ:Int)(z3:List fD):Option (List fD):=match f with
|0=>none
|n+1=>cond (decide<|aJ<(aS.length:Int)) (chk (0<=aJ/\aJ<(aS.length:Int))<|chk (0<=aJ/\aJ<(z3.length:Int))<|G.jV.L1 n aS (af .i64<|aJ+1)<|z3.set aJ.toNat<|aS.getD aJ.toNat default)<|some z3
def G.jV (f:Nat)(aS:List fD):Option (List fD):=match f with
|0=>none
|n+1=>chk (0<=(aS.length:Int)/\(aS.length:Int)<=(aS.length:Int)/\16*(aS.length:Int)<=2^47/\(aS.length:Int)<=2^47)<|G.jV.L1 n aS 0<|bY aS.length []
mutual
def G.sZ (f:Nat)(aS:aj):Option (aj):=match f with
|0=>none
|n+1=>(G.jV n aS.aO).bind λv1=>(G.qG n aS.aP).bind λv2=>some<|aj.mk aS.bQ aS.wL aS.lI v1 v2
def G.qG.L1 (f:Nat)(aS:List aj)(aJ:Int)(z3:List aj):Option (List aj):=match f with
|0=>none
|n+1=>cond (decide<|aJ<(aS.length:Int)) (chk (0<=aJ/\aJ<(aS.length:Int))<|(G.sZ n<|aS.getD aJ.toNat default).bind λv3=>chk (0<=aJ/\aJ<(z3.length:Int))<|G.qG.L1 n aS (af .i64<|aJ+1)<|z3.set aJ.toNat v3)<|some z3
def G.qG (f:Nat)(aS:List aj):Option (List aj):=match f with
|0=>none
|n+1=>chk (0<=(aS.length:Int)/\(aS.length:Int)<=(aS.length:Int)/\80*(aS.length:Int)<=2^47/\(aS.length:Int)<=2^47)<|G.qG.L1 n aS 0<|bY aS.length<|aj.mk 0 0 [] [] []
end
def G.yz (f:Nat)(aS:fB):Option (fB):=match f with
|0=>none
|n+1=>(G.sZ n aS.pR).bind λv1=>some<|fB.mk aS.iC aS.mW v1
def G.oW.L1 (f:Nat)(aS:List fB)(aJ:Int)(z3:List fB):Option (List fB):=match f with
|0=>none
|n+1=>cond (decide<|aJ<(aS.length:Int)) (chk (0<=aJ/\aJ<(aS.length:Int))<|(G.yz n<|fB.mk ((aS.getD aJ.toNat default).iC) ((aS.getD aJ.toNat default).mW)<|(aS.getD aJ.toNat default).pR).bind λv3=>chk (0<=aJ/\aJ<(z3.length:Int))<|G.oW.L1 n aS (af .i64<|aJ+1)<|z3.set aJ.toNat v3)<|some z3
def G.oW (f:Nat)(aS:List fB):Option (List fB):=match f with
|0=>none
|n+1=>chk (0<=(aS.length:Int)/\(aS.length:Int)<=(aS.length:Int)/\104*(aS.length:Int)<=2^47/\(aS.length:Int)<=2^47)<|G.oW.L1 n aS 0<|bY aS.length<|fB.mk [] 0<|aj.mk 0 0 [] [] []
def G.Bh (f:Nat)(aS:uO):Option (uO):=match f with
|0=>none
|n+1=>(G.jV n aS.uq).bind λv1=>(G.jV n aS.xJ).bind λv2=>(G.sZ n aS.Value).bind λv3=>some<|uO.mk aS.bQ v1 v2 v3
def G.uk.L1 (f:Nat)(aS:List uO)(aJ:Int)(z3:List uO):Option (List uO):=match f with
|0=>none
|n+1=>cond (decide<|aJ<(aS.length:Int)) (chk (0<=aJ/\aJ<(aS.length:Int))<|(G.Bh n<|uO.mk ((aS.getD aJ.toNat default).bQ) ((aS.getD aJ.toNat default).uq) ((aS.getD aJ.toNat default).xJ)<|(aS.getD aJ.toNat default).Value).bind λv3=>chk (0<=aJ/\aJ<(z3.length:Int))<|G.uk.L1 n aS (af .i64<|aJ+1)<|z3.set aJ.toNat v3)<|some z3
def G.uk (f:Nat)(aS:List uO):Option (List uO):=match f with
|0=>none
|n+1=>chk (0<=(aS.length:Int)/\(aS.length:Int)<=(aS.length:Int)/\136*(aS.length:Int)<=2^47/\(aS.length:Int)<=2^47)<|G.uk.L1 n aS 0<|bY aS.length<|uO.mk 0 [] []<|aj.mk 0 0 [] [] []
def G.vI (f:Nat)(aS:bn):Option (bn):=match f with
|0=>none
|n+1=>(G.jV n aS.yL).bind λv1=>(G.jV n aS.uN).bind λv2=>(G.sZ n aS.Body).bind λv3=>(G.uk n aS.MH).bind λv4=>some<|bn.mk aS.kQ aS.iC v1 v2 v3 v4
def G.kT.L1 (f:Nat)(aS:List bn)(aJ:Int)(z3:List bn):Option (List bn):=match f with
|0=>none
|n+1=>cond (decide<|aJ<(aS.length:Int)) (chk (0<=aJ/\aJ<(aS.length:Int))<|(G.vI n<|bn.mk ((aS.getD aJ.toNat default).kQ) ((aS.getD aJ.toNat default).iC) ((aS.getD aJ.toNat default).yL) ((aS.getD aJ.toNat default).uN) ((aS.getD aJ.toNat default).Body)<|(aS.getD aJ.toNat default).MH).bind λv3=>chk (0<=aJ/\aJ<(z3.length:Int))<|G.kT.L1 n aS (af .i64<|aJ+1)<|z3.set aJ.toNat v3)<|some z3
def G.kT (f:Nat)(aS:List bn):Option (List bn):=match f with
|0=>none
|n+1=>chk (0<=(aS.length:Int)/\(aS.length:Int)<=(aS.length:Int)/\176*(aS.length:Int)<=2^47/\(aS.length:Int)<=2^47)<|G.kT.L1 n aS 0<|bY aS.length<|bn.mk 0 [] [] [] (aj.mk 0 0 [] [] []) []
def G.vT (f:Nat)(aS:bP):Option (bP):=match f with
|0=>none
|n+1=>(G.oW n aS.bH).bind λv1=>some<|bP.mk v1 aS.kZ
mutual
def G.cO.L1 (f:Nat)(aG:aj)(aJ:Int)(z2:List aj):Option (aj):=match f with
|0=>none
|n+1=>cond (decide<|aJ<(aG.aP.length:Int)) (chk (0<=aJ/\aJ<(aG.aP.length:Int))<|(G.cO n<|aG.aP.getD aJ.toNat default).bind λv3=>chk ((z2.length+1)*86<=2^46)<|G.cO.L1 n aG (af .i64<|aJ+1)<|z2++[v3])<|chk (aG.aO.length*18<=2^46)<|some<|aj.mk aG.bQ aG.wL aG.lI aG.aO z2
def G.cO (f:Nat)(aG:aj):Option (aj):=match f with
|0=>none
|n+1=>G.cO.L1 n aG 0 []
end
mutual
def G.lY (f:Nat)(aG:Int):Option (fD):=match f with
|0=>none
|n+1=>cond (decide<|aG<0) (cond (aG==(af .i64<|0-aG)) (some<|[45,57,50,50,51,51,55,50,48,51,54,56,53,52,55,55,53,56,48,56])<|(G.lY n<|af .i64<|0-aG).bind λv1=>chk (1+v1.length<=maxLen)<|some<|[45]++v1)<|cond (decide<|aG<10) (chk (1<=maxLen)<|some<|[gz (af .u8<|(af .i64<|48+aG)).toNat])<|(G.lY n<|af .i64<|mJ aG 10).bind λv2=>chk (1<=maxLen)<|chk (v2.length+1<=maxLen)<|some<|(v2++[gz (af .u8<|(af .i64<|48+(lD aG 10))).toNat])
end
def G.jL.L1 (f:Nat)(aG:aj)(kJ:fD)(aJ:Int):Option (Int):=match f with
|0=>none
|n+1=>cond (decide<|aJ<(aG.aP.length:Int)) (cond (aG.bQ==4) (chk (0<=aJ/\aJ<(aG.aO.length:Int))<|cond ((aG.aO.getD aJ.toNat default)==kJ) (some aJ)<|cond (aG.bQ==3) ((G.lY n aJ).bind λv5=>cond (v5==kJ) (some aJ)<|G.jL.L1 n aG kJ<|af .i64<|aJ+1)<|G.jL.L1 n aG kJ<|af .i64<|aJ+1)<|cond (aG.bQ==3) ((G.lY n aJ).bind λv6=>cond (v6==kJ) (some aJ)<|G.jL.L1 n aG kJ<|af .i64<|aJ+1)<|G.jL.L1 n aG kJ<|af .i64<|aJ+1)<|some (-1)
def G.jL (f:Nat)(aG:aj)(kJ:fD):Option (Int):=match f with
|0=>none
|n+1=>G.jL.L1 n aG kJ 0
def G.mO.L1 (f:Nat)(aG:aj)(kJ:fD)(aJ:Int):Option (Int×Bool):=match f with
|0=>none
|n+1=>cond (aG.bQ==4) (cond (decide<|aJ<=(aG.aP.length:Int)) (cond (aJ==(aG.aP.length:Int)) (some (aJ,false))<|chk (0<=aJ/\aJ<(aG.aO.length:Int))<|cond (iR kJ<|aG.aO.getD aJ.toNat default) (some (aJ,false))<|G.mO.L1 n aG kJ<|af .i64<|aJ+1)<|some ((-1),false))<|some ((-1),false)
def G.mO.L2 (f:Nat)(aG:aj)(kJ:fD)(OG:Int):Option (Int×Bool):=match f with
|0=>none
|n+1=>cond (aG.bQ==4) (cond (decide<|OG<=(aG.aP.length:Int)) (cond (OG==(aG.aP.length:Int)) (some (OG,false))<|chk (0<=OG/\OG<(aG.aO.length:Int))<|cond (iR kJ<|aG.aO.getD OG.toNat default) (some (OG,false))<|G.mO.L2 n aG kJ<|af .i64<|OG+1)<|some ((-1),false))<|some ((-1),false)
def G.mO (f:Nat)(aG:aj)(kJ:fD):Option (Int×Bool):=match f with
|0=>none
|n+1=>(G.jL n aG kJ).bind λv1=>cond (decide<|0<=v1) (some (v1,(aG.bQ==4)))<|cond (aG.bQ==3) (cond (kJ==[45]) (some ((aG.aP.length:Int),false))<|(G.lY n (aG.aP.length:Int)).bind λv2=>cond (kJ==v2) (some ((aG.aP.length:Int),false))<|G.mO.L1 n aG kJ 0)<|G.mO.L2 n aG kJ 0
def G.qf (f:Nat)(aG:aj)(Aw:Int)(U0:aj):Option (aj):=match f with
|0=>none
|n+1=>(G.cO n aG).bind λv1=>(G.cO n U0).bind λv2=>chk (0<=Aw/\Aw<(v1.aP.length:Int))<|some<|(aj.mk v1.bQ v1.wL v1.lI v1.aO<|v1.aP.set Aw.toNat v2)
def G.rO (f:Nat)(aG:aj)(kJ:fD)(iY:aj):Option (aj×Bool):=match f with
|0=>none
|n+1=>(G.mO n aG kJ).bind λv1=>cond (decide<|v1.1<0) (some ((aj.mk 0 0 [] [] []),false))<|cond v1.2 ((G.qf n aG v1.1 iY).bind λv2=>some (v2,true))<|(G.cO n aG).bind λv3=>chk (0<=0/\0<=v1.1/\v1.1<=(v3.aP.length:Int))<|chk (((v3.aP.take v1.1.toNat).length)*86<=2^46)<|(G.cO n iY).bind λv4=>chk (((v3.aP.take v1.1.toNat).length+1)*86<=2^46)<|chk (0<=v1.1/\v1.1<=(v3.aP.length:Int)/\(v3.aP.length:Int)<=(v3.aP.length:Int))<|chk ((((v3.aP.take v1.1.toNat).length+1)+(v3.aP.drop v1.1.toNat).length)*86<=2^46)<|cond (aG.bQ==3) (some ((aj.mk aG.bQ 0 [] []<|((v3.aP.take v1.1.toNat)++[v4])++(v3.aP.drop v1.1.toNat)),true))<|chk (0<=0/\0<=v1.1/\v1.1<=(v3.aO.length:Int))<|chk (((v3.aO.take v1.1.toNat).length)*18<=2^46)<|chk (((v3.aO.take v1.1.toNat).length+1)*18<=2^46)<|chk (0<=v1.1/\v1.1<=(v3.aO.length:Int)/\(v3.aO.length:Int)<=(v3.aO.length:Int))<|chk ((((v3.aO.take v1.1.toNat).length+1)+(v3.aO.drop v1.1.toNat).length)*18<=2^46)<|some ((aj.mk aG.bQ 0 [] (((v3.aO.take v1.1.toNat)++[kJ])++(v3.aO.drop v1.1.toNat))<|((v3.aP.take v1.1.toNat)++[v4])++(v3.aP.drop v1.1.toNat)),true)
def G.uY.L1 (f:Nat)(aV:List fD)(aJ:Int)(y6:Int)(y7:Int)(y8:fD)(y9:List fD)(UC:List aj):Option (aj×Bool):=match f with
|0=>none
|n+1=>cond (decide<|aJ<(aV.length:Int)) (chk (0<=aJ/\aJ<(aV.length:Int))<|(G.jL n (aj.mk y6 y7 y8 y9 UC)<|aV.getD aJ.toNat default).bind λv3=>cond (decide<|v3<0) (some ((aj.mk 0 0 [] [] []),false))<|chk (0<=v3/\v3<(UC.length:Int))<|G.uY.L1 n aV (af .i64<|aJ+1) ((UC.getD v3.toNat default).bQ) ((UC.getD v3.toNat default).wL) ((UC.getD v3.toNat default).lI) ((UC.getD v3.toNat default).aO)<|(UC.getD v3.toNat default).aP)<|(G.cO n<|aj.mk y6 y7 y8 y9 UC).bind λv4=>some (v4,true)
def G.uY (f:Nat)(aG:aj)(aV:List fD):Option (aj×Bool):=match f with
|0=>none
|n+1=>G.uY.L1 n aV 0 aG.bQ aG.wL aG.lI aG.aO aG.aP
mutual
def G.qj (f:Nat)(aG:aj)(aV:List fD)(iY:aj):Option (aj×Bool):=match f with
|0=>none
|n+1=>cond ((aV.length:Int)==0) ((G.cO n iY).bind λv1=>some (v1,true))<|chk (0<=0/\0<(aV.length:Int))<|(G.jL n aG<|aV.getD 0 default).bind λv2=>cond (decide<|v2<0) (some ((aj.mk 0 0 [] [] []),false))<|chk (0<=v2/\v2<(aG.aP.length:Int))<|chk (0<=1/\1<=(aV.length:Int)/\(aV.length:Int)<=(aV.length:Int))<|(G.qj n (aG.aP.getD v2.toNat default) (aV.drop 1) iY).bind λv3=>cond v3.2 ((G.qf n aG v2 v3.1).bind λv4=>some (v4,true))<|some ((aj.mk 0 0 [] [] []),false)
end
def G.vM (f:Nat)(aG:aj)(aV:List fD)(iY:aj):Option (aj×Bool):=match f with
|0=>none
|n+1=>cond ((aV.length:Int)==0) ((G.cO n iY).bind λv1=>some (v1,true))<|chk (0<=0/\0<=(af .i64<|(aV.length:Int)-1)/\(af .i64<|(aV.length:Int)-1)<=(aV.length:Int))<|(G.uY n aG<|aV.take<|(af .i64<|(aV.length:Int)-1).toNat).bind λv2=>cond v2.2 (chk (0<=(af .i64<|(aV.length:Int)-1)/\(af .i64<|(aV.length:Int)-1)<(aV.length:Int))<|(G.rO n v2.1 (aV.getD (af .i64<|(aV.length:Int)-1).toNat default) iY).bind λv3=>cond v3.2 (chk (0<=0/\0<=(af .i64<|(aV.length:Int)-1)/\(af .i64<|(aV.length:Int)-1)<=(aV.length:Int))<|(G.qj n aG (aV.take<|(af .i64<|(aV.length:Int)-1).toNat) v3.1).bind λv4=>some (v4.1,v4.2))<|some ((aj.mk 0 0 [] [] []),false))<|some ((aj.mk 0 0 [] [] []),false)
def G.nT.L1 (f:Nat)(aV:List fD)(EL:List fD)(aJ:Int):Option (Bool):=match f with
|0=>none
|n+1=>cond (decide<|aJ<(EL.length:Int)) (cond (decide<|(aV.length:Int)<=aJ) (some false)<|chk (0<=aJ/\aJ<(aV.length:Int))<|chk (0<=aJ/\aJ<(EL.length:Int))<|cond ((aV.getD aJ.toNat default)==(EL.getD aJ.toNat default)) (G.nT.L1 n aV EL<|af .i64<|aJ+1)<|some false)<|some true
def G.nT (f:Nat)(aV:List fD)(EL:List fD):Option (Bool):=match f with
|0=>none
|n+1=>G.nT.L1 n aV EL 0
def G.kW.K1 (f:Nat)(aG:aj)(aV:List fD)(v1:aj×Bool)(z1:List aj)(z2:List fD):Option (aj×Bool):=match f with
|0=>none
|n+1=>chk (0<=0/\0<=(af .i64<|(aV.length:Int)-1)/\(af .i64<|(aV.length:Int)-1)<=(aV.length:Int))<|(G.qj n aG (aV.take<|(af .i64<|(aV.length:Int)-1).toNat)<|aj.mk v1.1.bQ 0 [] z2 z1).bind λv3=>some (v3.1,v3.2)
def G.kW (f:Nat)(aG:aj)(aV:List fD):Option (aj×Bool):=match f with
|0=>none
|n+1=>cond (decide<|(af .i64<|(aV.length:Int)-1)<0) (some ((aj.mk 0 0 [] [] []),false))<|chk (0<=0/\0<=(af .i64<|(aV.length:Int)-1)/\(af .i64<|(aV.length:Int)-1)<=(aV.length:Int))<|(G.uY n aG<|aV.take<|(af .i64<|(aV.length:Int)-1).toNat).bind λv1=>cond v1.2 (chk (0<=(af .i64<|(aV.length:Int)-1)/\(af .i64<|(aV.length:Int)-1)<(aV.length:Int))<|(G.jL n v1.1<|aV.getD (af .i64<|(aV.length:Int)-1).toNat default).bind λv2=>cond (decide<|v2<0) (some ((aj.mk 0 0 [] [] []),false))<|chk (0<=0/\0<=v2/\v2<=(v1.1.aP.length:Int))<|chk (((v1.1.aP.take v2.toNat).length)*86<=2^46)<|chk (0<=(af .i64<|v2+1)/\(af .i64<|v2+1)<=(v1.1.aP.length:Int)/\(v1.1.aP.length:Int)<=(v1.1.aP.length:Int))<|chk (((v1.1.aP.take v2.toNat).length+(v1.1.aP.drop<|(af .i64<|v2+1).toNat).length)*86<=2^46)<|cond (v1.1.bQ==4) (chk (0<=0/\0<=v2/\v2<=(v1.1.aO.length:Int))<|chk (((v1.1.aO.take v2.toNat).length)*18<=2^46)<|chk (0<=(af .i64<|v2+1)/\(af .i64<|v2+1)<=(v1.1.aO.length:Int)/\(v1.1.aO.length:Int)<=(v1.1.aO.length:Int))<|chk (((v1.1.aO.take v2.toNat).length+(v1.1.aO.drop<|(af .i64<|v2+1).toNat).length)*18<=2^46)<|G.kW.K1 n aG aV v1 ((v1.1.aP.take v2.toNat)++(v1.1.aP.drop<|(af .i64<|v2+1).toNat))<|(v1.1.aO.take v2.toNat)++(v1.1.aO.drop<|(af .i64<|v2+1).toNat))<|G.kW.K1 n aG aV v1 ((v1.1.aP.take v2.toNat)++(v1.1.aP.drop<|(af .i64<|v2+1).toNat)) [])<|some ((aj.mk 0 0 [] [] []),false)
def G.mQ (f:Nat)(gG:Bool):Option (Int):=match f with
|0=>none
|n+1=>cond gG (some 1)<|some 0
def G.sJ (f:Nat)(aS:Int)(gG:Int):Option (Int):=match f with
|0=>none
|n+1=>(G.mQ n<|decide<|gG<aS).bind λv1=>(G.mQ n<|decide<|aS<gG).bind λv2=>some<|(af .i64<|v1-v2)
def G.pJ (f:Nat)(aS:fD)(gG:fD):Option (Int):=match f with
|0=>none
|n+1=>cond (iR aS gG) ((G.mQ n false).bind λv1=>(G.mQ n true).bind λv2=>some<|(af .i64<|v1-v2))<|cond (aS==gG) ((G.mQ n false).bind λv3=>(G.mQ n false).bind λv4=>some<|(af .i64<|v3-v4))<|(G.mQ n true).bind λv5=>(G.mQ n false).bind λv6=>some<|(af .i64<|v5-v6)
mutual
def G.iO.L1 (f:Nat)(aS:aj)(gG:aj)(aJ:Int):Option (Int):=match f with
|0=>none
|n+1=>cond (decide<|aJ<(aS.aP.length:Int)) (cond (decide<|aJ<(gG.aP.length:Int)) (cond (aS.bQ==4) (chk (0<=aJ/\aJ<(aS.aO.length:Int))<|chk (0<=aJ/\aJ<(gG.aO.length:Int))<|cond ((aS.aO.getD aJ.toNat default)==(gG.aO.getD aJ.toNat default)) (chk (0<=aJ/\aJ<(aS.aP.length:Int))<|chk (0<=aJ/\aJ<(gG.aP.length:Int))<|(G.iO n (aS.aP.getD aJ.toNat default)<|gG.aP.getD aJ.toNat default).bind λv9=>cond (v9 != 0) (some v9)<|G.iO.L1 n aS gG<|af .i64<|aJ+1)<|chk (0<=aJ/\aJ<(aS.aO.length:Int))<|chk (0<=aJ/\aJ<(gG.aO.length:Int))<|(G.pJ n (aS.aO.getD aJ.toNat default)<|gG.aO.getD aJ.toNat default).bind λv10=>some v10)<|chk (0<=aJ/\aJ<(aS.aP.length:Int))<|chk (0<=aJ/\aJ<(gG.aP.length:Int))<|(G.iO n (aS.aP.getD aJ.toNat default)<|gG.aP.getD aJ.toNat default).bind λv11=>cond (v11 != 0) (some v11)<|G.iO.L1 n aS gG<|af .i64<|aJ+1)<|(G.sJ n (aS.aP.length:Int) (gG.aP.length:Int)).bind λv12=>some v12)<|(G.sJ n (aS.aP.length:Int) (gG.aP.length:Int)).bind λv13=>some v13
def G.iO (f:Nat)(aS:aj)(gG:aj):Option (Int):=match f with
|0=>none
|n+1=>cond (aS.bQ != gG.bQ) ((G.sJ n aS.bQ gG.bQ).bind λv1=>some v1)<|cond (aS.wL != gG.wL) ((G.sJ n aS.wL gG.wL).bind λv2=>some v2)<|cond (aS.lI==gG.lI) (G.iO.L1 n aS gG 0)<|(G.pJ n aS.lI gG.lI).bind λv14=>some v14
end
def G.zy (f:Nat)(aS:aj)(gG:aj):Option (Bool):=match f with
|0=>none
|n+1=>(G.iO n aS gG).bind λv1=>some<|v1==0
def G.lM.K1 (f:Nat)(aG:aj)(vz:uO)(aly:List fD):Option (aj×Bool):=match f with
|0=>none
|n+1=>(G.uY n aG aly).bind λv4=>cond v4.2 (cond (vz.bQ==6) ((G.zy n v4.1 vz.Value).bind λv5=>some (aG,v5))<|cond (vz.bQ==5) ((G.vM n aG vz.uq v4.1).bind λv6=>some (v6.1,v6.2))<|(G.nT n vz.uq vz.xJ).bind λv7=>cond v7 ((G.cO n aG).bind λv8=>some (v8,((vz.uq.length:Int)==(vz.xJ.length:Int))))<|(G.kW n aG vz.xJ).bind λv9=>cond v9.2 ((G.vM n v9.1 vz.uq v4.1).bind λv10=>some (v10.1,v10.2))<|some ((aj.mk 0 0 [] [] []),false))<|some ((aj.mk 0 0 [] [] []),false)
def G.lM (f:Nat)(aG:aj)(vz:uO):Option (aj×Bool):=match f with
|0=>none
|n+1=>cond (vz.bQ==1) ((G.vM n aG vz.uq vz.Value).bind λv1=>some (v1.1,v1.2))<|cond (vz.bQ==2) ((G.kW n aG vz.uq).bind λv2=>some (v2.1,v2.2))<|cond (vz.bQ==3) ((G.qj n aG vz.uq vz.Value).bind λv3=>some (v3.1,v3.2))<|cond (vz.bQ==6) (G.lM.K1 n aG vz vz.uq)<|G.lM.K1 n aG vz vz.xJ
mutual
def G.nY.L1 (f:Nat)(aG:aj)(Ej:Int)(aJ:Int):Option (Int):=match f with
|0=>none
|n+1=>cond (decide<|aJ<(aG.aP.length:Int)) (chk (0<=aJ/\aJ<(aG.aP.length:Int))<|(G.nY n<|aG.aP.getD aJ.toNat default).bind λv3=>G.nY.L1 n aG (af .i64<|Ej+v3)<|af .i64<|aJ+1)<|some Ej
def G.nY (f:Nat)(aG:aj):Option (Int):=match f with
|0=>none
|n+1=>G.nY.L1 n aG 1 0
end
def G.iP (f:Nat)(aG:Int)(U1:Int)(P9:Int):Option (Bool):=match f with
|0=>none
|n+1=>cond (decide<|U1<=aG) (some<|(decide<|aG<=P9))<|some false
def G.jc.L1 (f:Nat)(aX:fD)(aJ:Int):Option (Bool):=match f with
|0=>none
|n+1=>cond (decide<|aJ<(aX.length:Int)) (chk (0<=aJ/\aJ<(aX.length:Int))<|(G.iP n (af .i64<|((aX.getD aJ.toNat 0).toNat:Int)) 32 126).bind λv3=>cond v3 (G.jc.L1 n aX<|af .i64<|aJ+1)<|some false)<|some<|(decide<|(aX.length:Int)<=12)
def G.jc (f:Nat)(aX:fD):Option (Bool):=match f with
|0=>none
|n+1=>G.jc.L1 n aX 0
def G.pI.L1 (f:Nat)(aU:List fD)(aJ:Int):Option (Bool):=match f with
|0=>none
|n+1=>cond (decide<|aJ<(aU.length:Int)) (chk (0<=aJ/\aJ<(aU.length:Int))<|(G.jc n<|aU.getD aJ.toNat default).bind λv3=>cond v3 (cond (decide<|0<aJ) (chk (0<=aJ/\aJ<(aU.length:Int))<|chk (0<=(af .i64<|aJ-1)/\(af .i64<|aJ-1)<(aU.length:Int))<|cond (iR (aU.getD aJ.toNat default)<|aU.getD (af .i64<|aJ-1).toNat default) (some false)<|cond ((aU.getD aJ.toNat default)==(aU.getD (af .i64<|aJ-1).toNat default)) (some false)<|G.pI.L1 n aU<|af .i64<|aJ+1)<|G.pI.L1 n aU<|af .i64<|aJ+1)<|some false)<|some true
def G.pI (f:Nat)(aU:List fD):Option (Bool):=match f with
|0=>none
|n+1=>G.pI.L1 n aU 0
mutual
def G.uo.L1 (f:Nat)(aG:aj)(nH:Int)(aJ:Int):Option (Bool):=match f with
|0=>none
|n+1=>cond (decide<|aJ<(aG.aP.length:Int)) (chk (0<=aJ/\aJ<(aG.aP.length:Int))<|(G.jA n (aG.aP.getD aJ.toNat default)<|af .i64<|nH-1).bind λv3=>cond v3 (G.uo.L1 n aG nH<|af .i64<|aJ+1)<|some false)<|some true
def G.uo (f:Nat)(aG:aj)(nH:Int):Option (Bool):=match f with
|0=>none
|n+1=>G.uo.L1 n aG nH 0
def G.jA.K1 (f:Nat)(aG:aj)(nH:Int):Option (Bool):=match f with
|0=>none
|n+1=>cond (aG.bQ==1) ((G.iP n aG.wL (-999999) 999999).bind λv1=>some v1)<|cond (aG.bQ==2) ((G.jc n aG.lI).bind λv2=>some v2)<|cond (aG.bQ==3) ((G.uo n aG nH).bind λv3=>some v3)<|cond (aG.bQ==4) (cond ((aG.aO.length:Int)==(aG.aP.length:Int)) ((G.pI n aG.aO).bind λv4=>cond v4 ((G.uo n aG nH).bind λv5=>some v5)<|some false)<|some false)<|some<|aG.bQ==0
def G.jA (f:Nat)(aG:aj)(nH:Int):Option (Bool):=match f with
|0=>none
|n+1=>cond (nH==0) (some false)<|cond (decide<|6<(aG.aP.length:Int)) (some false)<|cond (aG.bQ != 1) (cond (aG.wL != 0) (some false)<|cond (aG.bQ != 2) (cond (aG.lI==[]) (cond (aG.bQ != 4) (cond (decide<|0<(aG.aO.length:Int)) (some false)<|cond (decide<|aG.bQ<3) (cond (decide<|0<(aG.aP.length:Int)) (some false)<|G.jA.K1 n aG nH)<|G.jA.K1 n aG nH)<|cond (decide<|aG.bQ<3) (cond (decide<|0<(aG.aP.length:Int)) (some false)<|G.jA.K1 n aG nH)<|G.jA.K1 n aG nH)<|some false)<|cond (aG.bQ != 4) (cond (decide<|0<(aG.aO.length:Int)) (some false)<|cond (decide<|aG.bQ<3) (cond (decide<|0<(aG.aP.length:Int)) (some false)<|G.jA.K1 n aG nH)<|G.jA.K1 n aG nH)<|cond (decide<|aG.bQ<3) (cond (decide<|0<(aG.aP.length:Int)) (some false)<|G.jA.K1 n aG nH)<|G.jA.K1 n aG nH)<|cond (aG.bQ != 2) (cond (aG.lI==[]) (cond (aG.bQ != 4) (cond (decide<|0<(aG.aO.length:Int)) (some false)<|cond (decide<|aG.bQ<3) (cond (decide<|0<(aG.aP.length:Int)) (some false)<|G.jA.K1 n aG nH)<|G.jA.K1 n aG nH)<|cond (decide<|aG.bQ<3) (cond (decide<|0<(aG.aP.length:Int)) (some false)<|G.jA.K1 n aG nH)<|G.jA.K1 n aG nH)<|some false)<|cond (aG.bQ != 4) (cond (decide<|0<(aG.aO.length:Int)) (some false)<|cond (decide<|aG.bQ<3) (cond (decide<|0<(aG.aP.length:Int)) (some false)<|G.jA.K1 n aG nH)<|G.jA.K1 n aG nH)<|cond (decide<|aG.bQ<3) (cond (decide<|0<(aG.aP.length:Int)) (some false)<|G.jA.K1 n aG nH)<|G.jA.K1 n aG nH
end
def G.iI (f:Nat)(aG:aj):Option (Bool):=match f with
|0=>none
|n+1=>(G.jA n aG 5).bind λv1=>cond v1 ((G.nY n aG).bind λv2=>some<|(decide<|v2<=40))<|some false
def G.qJ (f:Nat)(aG:aj)(MM:Bool):Option (aj×Bool):=match f with
|0=>none
|n+1=>cond MM ((G.iI n aG).bind λv1=>cond v1 (some (aG,true))<|some ((aj.mk 0 0 [] [] []),false))<|some ((aj.mk 0 0 [] [] []),false)
def G.rG (f:Nat)(aG:aj)(vz:uO):Option (aj×Bool):=match f with
|0=>none
|n+1=>(G.lM n aG vz).bind λv1=>(G.qJ n v1.1 v1.2).bind λv2=>cond v2.2 ((G.cO n v2.1).bind λv3=>some (v3,true))<|some ((aj.mk 0 0 [] [] []),false)
def G.jX.L1 (f:Nat)(aV:List fD)(aJ:Int):Option (Bool):=match f with
|0=>none
|n+1=>cond (decide<|aJ<(aV.length:Int)) (chk (0<=aJ/\aJ<(aV.length:Int))<|(G.jc n<|aV.getD aJ.toNat default).bind λv3=>cond v3 (G.jX.L1 n aV<|af .i64<|aJ+1)<|some false)<|some<|(decide<|(aV.length:Int)<=5)
def G.jX (f:Nat)(aV:List fD):Option (Bool):=match f with
|0=>none
|n+1=>G.jX.L1 n aV 0
def G.vU (f:Nat)(vz:uO):Option (Bool):=match f with
|0=>none
|n+1=>(G.iP n vz.bQ 1 6).bind λv1=>cond v1 ((G.jX n vz.uq).bind λv2=>cond v2 ((G.jX n vz.xJ).bind λv3=>cond v3 ((G.iI n vz.Value).bind λv4=>some v4)<|some false)<|some false)<|some false
def G.iL.L1 (f:Nat)(aU:List uO)(aJ:Int):Option (Bool):=match f with
|0=>none
|n+1=>cond (decide<|aJ<(aU.length:Int)) (chk (0<=aJ/\aJ<(aU.length:Int))<|(G.vU n<|uO.mk ((aU.getD aJ.toNat default).bQ) ((aU.getD aJ.toNat default).uq) ((aU.getD aJ.toNat default).xJ)<|(aU.getD aJ.toNat default).Value).bind λv3=>cond v3 (G.iL.L1 n aU<|af .i64<|aJ+1)<|some false)<|some<|(decide<|(aU.length:Int)<=12)
def G.iL (f:Nat)(aU:List uO):Option (Bool):=match f with
|0=>none
|n+1=>G.iL.L1 n aU 0
def G.jG.L1 (f:Nat)(aU:List uO)(aJ:Int)(y6:Int)(y7:Int)(y8:fD)(y9:List fD)(UC:List aj):Option (aj×Bool):=match f with
|0=>none
|n+1=>cond (decide<|aJ<(aU.length:Int)) (chk (0<=aJ/\aJ<(aU.length:Int))<|(G.rG n (aj.mk y6 y7 y8 y9 UC)<|uO.mk ((aU.getD aJ.toNat default).bQ) ((aU.getD aJ.toNat default).uq) ((aU.getD aJ.toNat default).xJ)<|(aU.getD aJ.toNat default).Value).bind λv6=>cond v6.2 (G.jG.L1 n aU (af .i64<|aJ+1) v6.1.bQ v6.1.wL v6.1.lI v6.1.aO v6.1.aP)<|some ((aj.mk 0 0 [] [] []),false))<|some ((aj.mk y6 y7 y8 y9 UC),true)
def G.jG (f:Nat)(aG:aj)(aU:List uO):Option (aj×Bool):=match f with
|0=>none
|n+1=>(G.iI n aG).bind λv1=>cond v1 ((G.iL n aU).bind λv2=>cond v2 ((G.cO n aG).bind λv3=>G.jG.L1 n aU 0 v3.bQ v3.wL v3.lI v3.aO v3.aP)<|some ((aj.mk 0 0 [] [] []),false))<|some ((aj.mk 0 0 [] [] []),false)
def G.pG (f:Nat)(wG:Int):Option (bJ):=match f with
|0=>none
|n+1=>some<|(bJ.mk wG [] 0<|aj.mk 0 0 [] [] [])
mutual
def G.jK.L2 (f:Nat)(fC:aj)(aJ:Int)(y11:Int)(y12:Int)(y13:fD)(y14:List fD)(y15:List aj):Option (aj):=match f with
|0=>none
|n+1=>cond (decide<|aJ<(fC.aP.length:Int)) (chk (0<=aJ/\aJ<(fC.aO.length:Int))<|(G.jL n (aj.mk y11 y12 y13 y14 y15)<|fC.aO.getD aJ.toNat default).bind λv19=>chk (0<=aJ/\aJ<(fC.aP.length:Int))<|cond ((fC.aP.getD aJ.toNat default).bQ==0) (cond (decide<|0<=v19) ((G.kW n (aj.mk y11 y12 y13 y14 y15) [(fC.aO.getD aJ.toNat default)]).bind λv20=>G.jK.L2 n fC (af .i64<|aJ+1) v20.1.bQ v20.1.wL v20.1.lI v20.1.aO v20.1.aP)<|chk (0<=aJ/\aJ<(fC.aP.length:Int))<|cond ((fC.aP.getD aJ.toNat default).bQ != 0) (chk (0<=aJ/\aJ<(fC.aP.length:Int))<|chk (0<=aJ/\aJ<(fC.aP.length:Int))<|(G.jK n (aj.mk 0 0 [] [] [])<|fC.aP.getD aJ.toNat default).bind λv21=>(G.rO n (aj.mk y11 y12 y13 y14 y15) (fC.aO.getD aJ.toNat default) v21).bind λv22=>G.jK.L2 n fC (af .i64<|aJ+1) v22.1.bQ v22.1.wL v22.1.lI v22.1.aO v22.1.aP)<|chk (0<=aJ/\aJ<(fC.aP.length:Int))<|G.jK.L2 n fC (af .i64<|aJ+1) y11 y12 y13 y14 y15)<|chk (0<=aJ/\aJ<(fC.aP.length:Int))<|cond ((fC.aP.getD aJ.toNat default).bQ != 0) (cond (decide<|0<=v19) (chk (0<=v19/\v19<(y15.length:Int))<|chk (0<=aJ/\aJ<(fC.aP.length:Int))<|(G.jK n (y15.getD v19.toNat default)<|fC.aP.getD aJ.toNat default).bind λv23=>(G.qf n (aj.mk y11 y12 y13 y14 y15) v19 v23).bind λv24=>G.jK.L2 n fC (af .i64<|aJ+1) v24.bQ v24.wL v24.lI v24.aO v24.aP)<|chk (0<=aJ/\aJ<(fC.aP.length:Int))<|chk (0<=aJ/\aJ<(fC.aP.length:Int))<|(G.jK n (aj.mk 0 0 [] [] [])<|fC.aP.getD aJ.toNat default).bind λv25=>(G.rO n (aj.mk y11 y12 y13 y14 y15) (fC.aO.getD aJ.toNat default) v25).bind λv26=>G.jK.L2 n fC (af .i64<|aJ+1) v26.1.bQ v26.1.wL v26.1.lI v26.1.aO v26.1.aP)<|chk (0<=aJ/\aJ<(fC.aP.length:Int))<|G.jK.L2 n fC (af .i64<|aJ+1) y11 y12 y13 y14 y15)<|some<|aj.mk y11 y12 y13 y14 y15
def G.jK.K1 (f:Nat)(fC:aj)(y1:Int)(y2:Int)(y3:fD)(y4:List fD)(y5:List aj):Option (aj):=match f with
|0=>none
|n+1=>G.jK.L2 n fC 0 y1 y2 y3 y4 y5
def G.jK (f:Nat)(aG:aj)(fC:aj):Option (aj):=match f with
|0=>none
|n+1=>cond (fC.bQ != 4) ((G.cO n fC).bind λv1=>some v1)<|cond (aG.bQ==4) ((G.cO n aG).bind λv27=>G.jK.K1 n fC v27.bQ v27.wL v27.lI v27.aO v27.aP)<|G.jK.K1 n fC 4 0 [] [] []
end
def G.rF (f:Nat)(aG:aj)(fC:aj):Option (aj×Bool):=match f with
|0=>none
|n+1=>(G.iI n aG).bind λv1=>cond v1 ((G.iI n fC).bind λv2=>cond v2 ((G.jK n aG fC).bind λv3=>(G.qJ n v3 true).bind λv4=>some (v4.1,v4.2))<|some ((aj.mk 0 0 [] [] []),false))<|some ((aj.mk 0 0 [] [] []),false)
def G.nJ.L1 (f:Nat)(aU:List fD)(uh:fD)(aJ:Int):Option (Bool):=match f with
|0=>none
|n+1=>cond (decide<|aJ<(aU.length:Int)) (chk (0<=aJ/\aJ<(aU.length:Int))<|cond ((aU.getD aJ.toNat default)==uh) (some true)<|chk (0<=aJ/\aJ<(aU.length:Int))<|cond ((aU.getD aJ.toNat default)==[42]) (some true)<|G.nJ.L1 n aU uh<|af .i64<|aJ+1)<|some false
def G.nJ (f:Nat)(aU:List fD)(uh:fD):Option (Bool):=match f with
|0=>none
|n+1=>G.nJ.L1 n aU uh 0
def G.wW (f:Nat)(Aa:List fD)(vZ:List fD)(uh:fD)(yF:Bool):Option (Int):=match f with
|0=>none
|n+1=>cond (decide<|0<(Aa.length:Int)) (cond (uh==[]) (some 412)<|(G.nJ n Aa uh).bind λv1=>cond v1 (cond (decide<|0<(vZ.length:Int)) ((G.nJ n vZ uh).bind λv2=>cond v2 (cond yF (some 304)<|some 412)<|some 200)<|some 200)<|some 412)<|cond (decide<|0<(vZ.length:Int)) (cond (uh==[]) (some 200)<|(G.nJ n vZ uh).bind λv3=>cond v3 (cond yF (some 304)<|some 412)<|some 200)<|some 200
def G.fO.L1 (f:Nat)(aX:bP)(aJ:Int)(z2:List fB):Option (bP):=match f with
|0=>none
|n+1=>cond (decide<|aJ<(aX.bH.length:Int)) (chk (0<=aJ/\aJ<(aX.bH.length:Int))<|chk (0<=aJ/\aJ<(aX.bH.length:Int))<|chk (0<=aJ/\aJ<(aX.bH.length:Int))<|(G.cO n<|(aX.bH.getD aJ.toNat default).pR).bind λv3=>chk ((z2.length+1)*112<=2^46)<|G.fO.L1 n aX (af .i64<|aJ+1)<|z2++[(fB.mk ((aX.bH.getD aJ.toNat default).iC) ((aX.bH.getD aJ.toNat default).mW) v3)])<|some<|bP.mk z2 aX.kZ
def G.fO (f:Nat)(aX:bP):Option (bP):=match f with
|0=>none
|n+1=>G.fO.L1 n aX 0 []
def G.sS.L1 (f:Nat)(aX:bP)(fU:fD)(v1:bP)(aJ:Int)(z2:List fB):Option (bP):=match f with
|0=>none
|n+1=>cond (decide<|aJ<(v1.bH.length:Int)) (chk (0<=aJ/\aJ<(v1.bH.length:Int))<|cond ((v1.bH.getD aJ.toNat default).iC==fU) (G.sS.L1 n aX fU v1 (af .i64<|aJ+1) z2)<|chk (0<=aJ/\aJ<(v1.bH.length:Int))<|chk ((z2.length+1)*112<=2^46)<|G.sS.L1 n aX fU v1 (af .i64<|aJ+1)<|z2++[(fB.mk ((v1.bH.getD aJ.toNat default).iC) ((v1.bH.getD aJ.toNat default).mW)<|(v1.bH.getD aJ.toNat default).pR)])<|some<|(bP.mk z2<|af .i64<|aX.kZ+1)
def G.sS (f:Nat)(aX:bP)(fU:fD):Option (bP):=match f with
|0=>none
|n+1=>(G.fO n aX).bind λv1=>G.sS.L1 n aX fU v1 0 []
def G.pY.L1 (f:Nat)(aX:bP)(fU:fD)(aJ:Int):Option (Int):=match f with
|0=>none
|n+1=>cond (decide<|aJ<(aX.bH.length:Int)) (chk (0<=aJ/\aJ<(aX.bH.length:Int))<|cond ((aX.bH.getD aJ.toNat default).iC==fU) (some aJ)<|G.pY.L1 n aX fU<|af .i64<|aJ+1)<|some (-1)
def G.pY (f:Nat)(aX:bP)(fU:fD):Option (Int):=match f with
|0=>none
|n+1=>G.pY.L1 n aX fU 0
def G.nZ.L1 (f:Nat)(aX:fD)(Fg:fD)(aJ:Int):Option (fD):=match f with
|0=>none
|n+1=>cond (decide<|aJ<(aX.length:Int)) (chk (0<=aJ/\aJ<(aX.length:Int))<|cond (((aX.getD aJ.toNat 0).toNat:Int)==34) (chk (Fg.length+1<=maxLen)<|chk (0<=aJ/\aJ<=(af .i64<|aJ+1)/\(af .i64<|aJ+1)<=(aX.length:Int))<|chk ((Fg.length+1)+((aX.take<|(af .i64<|aJ+1).toNat).drop aJ.toNat).length<=maxLen)<|G.nZ.L1 n aX ((Fg++[92])++((aX.take<|(af .i64<|aJ+1).toNat).drop aJ.toNat))<|af .i64<|aJ+1)<|chk (0<=aJ/\aJ<(aX.length:Int))<|cond (((aX.getD aJ.toNat 0).toNat:Int)==92) (chk (Fg.length+1<=maxLen)<|chk (0<=aJ/\aJ<=(af .i64<|aJ+1)/\(af .i64<|aJ+1)<=(aX.length:Int))<|chk ((Fg.length+1)+((aX.take<|(af .i64<|aJ+1).toNat).drop aJ.toNat).length<=maxLen)<|G.nZ.L1 n aX ((Fg++[92])++((aX.take<|(af .i64<|aJ+1).toNat).drop aJ.toNat))<|af .i64<|aJ+1)<|chk (0<=aJ/\aJ<=(af .i64<|aJ+1)/\(af .i64<|aJ+1)<=(aX.length:Int))<|chk (Fg.length+((aX.take<|(af .i64<|aJ+1).toNat).drop aJ.toNat).length<=maxLen)<|G.nZ.L1 n aX (Fg++((aX.take<|(af .i64<|aJ+1).toNat).drop aJ.toNat))<|af .i64<|aJ+1)<|chk (Fg.length+1<=maxLen)<|some<|Fg++[34]
def G.nZ (f:Nat)(aX:fD):Option (fD):=match f with
|0=>none
|n+1=>G.nZ.L1 n aX [34] 0
mutual
def G.ig.K7 (f:Nat)(aG:aj)(aJ:Int)(ajW:fD):Option (fD):=match f with
|0=>none
|n+1=>chk (0<=aJ/\aJ<(aG.aP.length:Int))<|(G.ig n<|aG.aP.getD aJ.toNat default).bind λv10=>chk (ajW.length+v10.length<=maxLen)<|G.ig.L5 n aG (ajW++v10)<|af .i64<|aJ+1
def G.ig.K6 (f:Nat)(aG:aj)(aJ:Int)(ZP:fD):Option (fD):=match f with
|0=>none
|n+1=>cond (aG.bQ==4) (chk (0<=aJ/\aJ<(aG.aO.length:Int))<|(G.nZ n<|aG.aO.getD aJ.toNat default).bind λv11=>chk (ZP.length+v11.length<=maxLen)<|chk ((ZP.length+v11.length)+1<=maxLen)<|G.ig.K7 n aG aJ<|(ZP++v11)++[58])<|G.ig.K7 n aG aJ ZP
def G.ig.L5 (f:Nat)(aG:aj)(LM:fD)(aJ:Int):Option (fD):=match f with
|0=>none
|n+1=>cond (decide<|aJ<(aG.aP.length:Int)) (cond (decide<|0<aJ) (chk (LM.length+1<=maxLen)<|G.ig.K6 n aG aJ<|LM++[44])<|G.ig.K6 n aG aJ LM)<|cond (aG.bQ==4) (chk (1+LM.length<=maxLen)<|chk ((1+LM.length)+1<=maxLen)<|some<|(([123]++LM)++[125]))<|chk (1+LM.length<=maxLen)<|chk ((1+LM.length)+1<=maxLen)<|some<|(([91]++LM)++[93])
def G.ig (f:Nat)(aG:aj):Option (fD):=match f with
|0=>none
|n+1=>cond (aG.bQ==1) ((G.lY n aG.wL).bind λv1=>some v1)<|cond (aG.bQ==2) ((G.nZ n aG.lI).bind λv2=>some v2)<|cond (aG.bQ==0) (some<|[110,117,108,108])<|G.ig.L5 n aG [] 0
end
def G.Bo (f:Nat)(aG:Int):Option (fD):=match f with
|0=>none
|n+1=>chk (0<=(af .i64<|mJ aG 4096)/\(af .i64<|mJ aG 4096)<((16:Nat):Int))<|chk (0<=(lD (af .i64<|mJ aG 256) 16)/\(lD (af .i64<|mJ aG 256) 16)<((16:Nat):Int))<|chk (0<=(lD (af .i64<|mJ aG 16) 16)/\(lD (af .i64<|mJ aG 16) 16)<((16:Nat):Int))<|chk (0<=(lD aG 16)/\(lD aG 16)<((16:Nat):Int))<|chk (4<=maxLen)<|some<|[gz ((([48,49,50,51,52,53,54,55,56,57,97,98,99,100,101,102]:fD).getD (af .i64<|mJ aG 4096).toNat 0).toNat),gz ((([48,49,50,51,52,53,54,55,56,57,97,98,99,100,101,102]:fD).getD (lD (af .i64<|mJ aG 256) 16).toNat 0).toNat),gz ((([48,49,50,51,52,53,54,55,56,57,97,98,99,100,101,102]:fD).getD (lD (af .i64<|mJ aG 16) 16).toNat 0).toNat),gz ((([48,49,50,51,52,53,54,55,56,57,97,98,99,100,101,102]:fD).getD (lD aG 16).toNat 0).toNat)]
def G.rH.L1 (f:Nat)(aX:fD)(apb:Int)(aJ:Int):Option (Int):=match f with
|0=>none
|n+1=>cond (decide<|aJ<(aX.length:Int)) (chk (0<=aJ/\aJ<(aX.length:Int))<|G.rH.L1 n aX (lD (af .i64<|(af .i64<|131*apb)+(af .i64<|((aX.getD aJ.toNat 0).toNat:Int))) 65521)<|af .i64<|aJ+1)<|some apb
def G.rH (f:Nat)(aX:fD):Option (Int):=match f with
|0=>none
|n+1=>G.rH.L1 n aX 17 0
def G.uD (f:Nat)(aX:bP)(fU:fD):Option (fD):=match f with
|0=>none
|n+1=>(G.pY n aX fU).bind λv1=>cond (decide<|v1<0) (some<|[])<|chk (0<=v1/\v1<(aX.bH.length:Int))<|(G.ig n<|(aX.bH.getD v1.toNat default).pR).bind λv2=>(G.rH n v2).bind λv3=>(G.Bo n v3).bind λv4=>some v4
mutual
def G.mP.K4 (f:Nat)(aX:bP)(fU:fD)(v1:aj)(v2:bP)(aJ:Int)(afc:Bool)(z5:List fB):Option (bP):=match f with
|0=>none
|n+1=>chk (0<=aJ/\aJ<(v2.bH.length:Int))<|cond ((v2.bH.getD aJ.toNat default).iC==fU) (G.mP.L3 n aX fU v1 v2 afc (af .i64<|aJ+1) z5)<|chk (0<=aJ/\aJ<(v2.bH.length:Int))<|chk ((z5.length+1)*112<=2^46)<|G.mP.L3 n aX fU v1 v2 afc (af .i64<|aJ+1)<|z5++[(fB.mk ((v2.bH.getD aJ.toNat default).iC) ((v2.bH.getD aJ.toNat default).mW)<|(v2.bH.getD aJ.toNat default).pR)]
def G.mP.L3 (f:Nat)(aX:bP)(fU:fD)(v1:aj)(v2:bP)(afb:Bool)(aJ:Int)(z4:List fB):Option (bP):=match f with
|0=>none
|n+1=>cond (decide<|aJ<(v2.bH.length:Int)) (cond afb (G.mP.K4 n aX fU v1 v2 aJ true z4)<|chk (0<=aJ/\aJ<(v2.bH.length:Int))<|cond (iR ((v2.bH.getD aJ.toNat default).iC) fU) (G.mP.K4 n aX fU v1 v2 aJ false z4)<|chk ((z4.length+1)*112<=2^46)<|G.mP.K4 n aX fU v1 v2 aJ true<|z4++[(fB.mk fU (af .i64<|aX.kZ+1) v1)])<|cond afb (some<|(bP.mk z4<|af .i64<|aX.kZ+1))<|chk ((z4.length+1)*112<=2^46)<|some<|(bP.mk (z4++[(fB.mk fU (af .i64<|aX.kZ+1) v1)])<|af .i64<|aX.kZ+1)
end
def G.mP (f:Nat)(aX:bP)(fU:fD)(aG:aj):Option (bP):=match f with
|0=>none
|n+1=>(G.cO n aG).bind λv1=>(G.fO n aX).bind λv2=>G.mP.L3 n aX fU v1 v2 false 0 []
def G.jB.L1 (f:Nat)(aX:fD)(aJ:Int):Option (Bool):=match f with
|0=>none
|n+1=>cond (decide<|aJ<(aX.length:Int)) (chk (0<=aJ/\aJ<(aX.length:Int))<|(G.iP n (af .i64<|((aX.getD aJ.toNat 0).toNat:Int)) 97 122).bind λv5=>cond v5 (G.jB.L1 n aX<|af .i64<|aJ+1)<|chk (0<=aJ/\aJ<(aX.length:Int))<|(G.iP n (af .i64<|((aX.getD aJ.toNat 0).toNat:Int)) 48 57).bind λv6=>cond v6 (G.jB.L1 n aX<|af .i64<|aJ+1)<|some false)<|(G.iP n (aX.length:Int) 1 8).bind λv7=>some v7
def G.jB (f:Nat)(aX:fD):Option (Bool):=match f with
|0=>none
|n+1=>G.jB.L1 n aX 0
def G.gX.L1 (f:Nat)(aX:bP)(aJ:Int):Option (Bool):=match f with
|0=>none
|n+1=>cond (decide<|aJ<(aX.bH.length:Int)) (chk (0<=aJ/\aJ<(aX.bH.length:Int))<|(G.jB n<|(aX.bH.getD aJ.toNat default).iC).bind λv7=>cond v7 ((G.iI n<|(aX.bH.getD aJ.toNat default).pR).bind λv8=>cond v8 ((G.iP n ((aX.bH.getD aJ.toNat default).mW) 1 aX.kZ).bind λv9=>cond v9 (cond (decide<|0<aJ) (chk (0<=(af .i64<|aJ-1)/\(af .i64<|aJ-1)<(aX.bH.length:Int))<|cond (iR ((aX.bH.getD aJ.toNat default).iC)<|(aX.bH.getD (af .i64<|aJ-1).toNat default).iC) (some false)<|cond ((aX.bH.getD aJ.toNat default).iC==(aX.bH.getD (af .i64<|aJ-1).toNat default).iC) (some false)<|G.gX.L1 n aX<|af .i64<|aJ+1)<|G.gX.L1 n aX<|af .i64<|aJ+1)<|some false)<|some false)<|some false)<|cond (decide<|(aX.bH.length:Int)<=10) ((G.iP n aX.kZ 0 999).bind λv10=>some v10)<|some false
def G.gX (f:Nat)(aX:bP):Option (Bool):=match f with
|0=>none
|n+1=>G.gX.L1 n aX 0
def G.mG.K1 (f:Nat)(aX:bP)(fU:fD)(aG:aj)(ag9:Int):Option (bP×bJ):=match f with
|0=>none
|n+1=>(G.mP n aX fU aG).bind λv2=>(G.gX n v2).bind λv3=>cond v3 ((G.uD n v2 fU).bind λv4=>some (v2,(bJ.mk ag9 v4 v2.kZ<|aj.mk 0 0 [] [] [])))<|(G.fO n aX).bind λv5=>(G.pG n 422).bind λv6=>some (v5,v6)
def G.mG (f:Nat)(aX:bP)(fU:fD)(aG:aj):Option (bP×bJ):=match f with
|0=>none
|n+1=>(G.pY n aX fU).bind λv7=>cond (decide<|v7<0) (G.mG.K1 n aX fU aG 201)<|G.mG.K1 n aX fU aG 200
def G.kS.K1 (f:Nat)(aX:bP)(nI:bn)(ajV:Bool)(y1:Int)(y2:Int)(y3:fD)(y4:List fD)(y5:List aj):Option (bP×bJ):=match f with
|0=>none
|n+1=>cond ajV ((G.mG n aX nI.iC<|aj.mk y1 y2 y3 y4 y5).bind λv17=>some (v17.1,v17.2))<|(G.fO n aX).bind λv18=>(G.pG n 422).bind λv19=>some (v18,v19)
def G.kS.K2 (f:Nat)(aX:bP)(nI:bn)(apc:Bool)(y6:Int)(y7:Int)(y8:fD)(y9:List fD)(UC:List aj):Option (bP×bJ):=match f with
|0=>none
|n+1=>cond apc ((G.mG n aX nI.iC<|aj.mk y6 y7 y8 y9 UC).bind λv34=>some (v34.1,v34.2))<|(G.fO n aX).bind λv35=>(G.pG n 422).bind λv36=>some (v35,v36)
def G.kS (f:Nat)(aX:bP)(nI:bn):Option (bP×bJ):=match f with
|0=>none
|n+1=>(G.pY n aX nI.iC).bind λv1=>cond (decide<|v1<0) (cond (nI.kQ != 2) ((G.fO n aX).bind λv2=>(G.pG n 404).bind λv3=>some (v2,v3))<|(G.uD n aX nI.iC).bind λv4=>(G.wW n nI.yL nI.uN v4<|nI.kQ==1).bind λv5=>cond (v5 != 200) ((G.fO n aX).bind λv6=>(G.pG n v5).bind λv7=>some (v6,v7))<|cond (nI.kQ==1) ((G.fO n aX).bind λv8=>(G.uD n aX nI.iC).bind λv9=>chk (0<=v1/\v1<(aX.bH.length:Int))<|chk (0<=v1/\v1<(aX.bH.length:Int))<|(G.cO n<|(aX.bH.getD v1.toNat default).pR).bind λv10=>some (v8,(bJ.mk v5 v9 ((aX.bH.getD v1.toNat default).mW) v10)))<|cond (nI.kQ==2) ((G.mG n aX nI.iC nI.Body).bind λv11=>some (v11.1,v11.2))<|cond (nI.kQ==3) (cond (aX.kZ==999) ((G.fO n aX).bind λv12=>(G.pG n 422).bind λv13=>some (v12,v13))<|(G.sS n aX nI.iC).bind λv14=>some (v14,(bJ.mk v5 [] (af .i64<|aX.kZ+1)<|aj.mk 0 0 [] [] [])))<|chk (0<=v1/\v1<(aX.bH.length:Int))<|(G.jG n ((aX.bH.getD v1.toNat default).pR) nI.MH).bind λv15=>cond (nI.kQ==5) (chk (0<=v1/\v1<(aX.bH.length:Int))<|(G.rF n ((aX.bH.getD v1.toNat default).pR) nI.Body).bind λv20=>G.kS.K1 n aX nI v20.2 v20.1.bQ v20.1.wL v20.1.lI v20.1.aO v20.1.aP)<|G.kS.K1 n aX nI v15.2 v15.1.bQ v15.1.wL v15.1.lI v15.1.aO v15.1.aP)<|(G.uD n aX nI.iC).bind λv21=>(G.wW n nI.yL nI.uN v21<|nI.kQ==1).bind λv22=>cond (v22 != 200) ((G.fO n aX).bind λv23=>(G.pG n v22).bind λv24=>some (v23,v24))<|cond (nI.kQ==1) ((G.fO n aX).bind λv25=>(G.uD n aX nI.iC).bind λv26=>chk (0<=v1/\v1<(aX.bH.length:Int))<|chk (0<=v1/\v1<(aX.bH.length:Int))<|(G.cO n<|(aX.bH.getD v1.toNat default).pR).bind λv27=>some (v25,(bJ.mk v22 v26 ((aX.bH.getD v1.toNat default).mW) v27)))<|cond (nI.kQ==2) ((G.mG n aX nI.iC nI.Body).bind λv28=>some (v28.1,v28.2))<|cond (nI.kQ==3) (cond (aX.kZ==999) ((G.fO n aX).bind λv29=>(G.pG n 422).bind λv30=>some (v29,v30))<|(G.sS n aX nI.iC).bind λv31=>some (v31,(bJ.mk v22 [] (af .i64<|aX.kZ+1)<|aj.mk 0 0 [] [] [])))<|chk (0<=v1/\v1<(aX.bH.length:Int))<|(G.jG n ((aX.bH.getD v1.toNat default).pR) nI.MH).bind λv32=>cond (nI.kQ==5) (chk (0<=v1/\v1<(aX.bH.length:Int))<|(G.rF n ((aX.bH.getD v1.toNat default).pR) nI.Body).bind λv37=>G.kS.K2 n aX nI v37.2 v37.1.bQ v37.1.wL v37.1.lI v37.1.aO v37.1.aP)<|G.kS.K2 n aX nI v32.2 v32.1.bQ v32.1.wL v32.1.lI v32.1.aO v32.1.aP
def G.lT.L1 (f:Nat)(aX:fD)(aJ:Int):Option (Bool):=match f with
|0=>none
|n+1=>cond (decide<|aJ<(aX.length:Int)) (chk (0<=aJ/\aJ<(aX.length:Int))<|(G.iP n (af .i64<|((aX.getD aJ.toNat 0).toNat:Int)) 48 57).bind λv5=>cond v5 (G.lT.L1 n aX<|af .i64<|aJ+1)<|chk (0<=aJ/\aJ<(aX.length:Int))<|(G.iP n (af .i64<|((aX.getD aJ.toNat 0).toNat:Int)) 97 102).bind λv6=>cond v6 (G.lT.L1 n aX<|af .i64<|aJ+1)<|some false)<|some<|((aX.length:Int)==4)
def G.lT (f:Nat)(aX:fD):Option (Bool):=match f with
|0=>none
|n+1=>G.lT.L1 n aX 0
def G.kH.L1 (f:Nat)(aU:List fD)(aJ:Int):Option (Bool):=match f with
|0=>none
|n+1=>cond (decide<|aJ<(aU.length:Int)) (chk (0<=aJ/\aJ<(aU.length:Int))<|cond ((aU.getD aJ.toNat default)==[42]) (G.kH.L1 n aU<|af .i64<|aJ+1)<|chk (0<=aJ/\aJ<(aU.length:Int))<|(G.lT n<|aU.getD aJ.toNat default).bind λv3=>cond v3 (G.kH.L1 n aU<|af .i64<|aJ+1)<|some false)<|some<|(decide<|(aU.length:Int)<=4)
def G.kH (f:Nat)(aU:List fD):Option (Bool):=match f with
|0=>none
|n+1=>G.kH.L1 n aU 0
def G.oL (f:Nat)(nI:bn):Option (Bool):=match f with
|0=>none
|n+1=>(G.iP n nI.kQ 1 5).bind λv1=>cond v1 ((G.jB n nI.iC).bind λv2=>cond v2 ((G.kH n nI.yL).bind λv3=>cond v3 ((G.kH n nI.uN).bind λv4=>cond v4 ((G.iI n nI.Body).bind λv5=>cond v5 ((G.iL n nI.MH).bind λv6=>some v6)<|some false)<|some false)<|some false)<|some false)<|some false
def G.Bi (f:Nat)(wG:Int):Option (Bool):=match f with
|0=>none
|n+1=>cond (wG==200) (some true)<|some<|wG==201
def G.jl.L1 (f:Nat)(aU:List bn)(aJ:Int):Option (Bool):=match f with
|0=>none
|n+1=>cond (decide<|aJ<(aU.length:Int)) (chk (0<=aJ/\aJ<(aU.length:Int))<|(G.oL n<|bn.mk ((aU.getD aJ.toNat default).kQ) ((aU.getD aJ.toNat default).iC) ((aU.getD aJ.toNat default).yL) ((aU.getD aJ.toNat default).uN) ((aU.getD aJ.toNat default).Body)<|(aU.getD aJ.toNat default).MH).bind λv3=>cond v3 (G.jl.L1 n aU<|af .i64<|aJ+1)<|some false)<|some<|(decide<|(aU.length:Int)<=8)
def G.jl (f:Nat)(aU:List bn):Option (Bool):=match f with
|0=>none
|n+1=>G.jl.L1 n aU 0
def G.kP.L1 (f:Nat)(aX:bP)(aU:List bn)(aJ:Int)(z2:List bJ)(y3:List fB)(y4:Int):Option (bP×List bJ×Bool):=match f with
|0=>none
|n+1=>cond (decide<|aJ<(aU.length:Int)) (chk (0<=aJ/\aJ<(aU.length:Int))<|(G.kS n (bP.mk y3 y4)<|bn.mk ((aU.getD aJ.toNat default).kQ) ((aU.getD aJ.toNat default).iC) ((aU.getD aJ.toNat default).yL) ((aU.getD aJ.toNat default).uN) ((aU.getD aJ.toNat default).Body)<|(aU.getD aJ.toNat default).MH).bind λv10=>chk ((z2.length+1)*121<=2^46)<|(G.Bi n v10.2.GG).bind λv11=>cond v11 (G.kP.L1 n aX aU (af .i64<|aJ+1) (z2++[v10.2]) v10.1.bH v10.1.kZ)<|(G.fO n aX).bind λv12=>some (v12,(z2++[v10.2]),false))<|some ((bP.mk y3 y4),z2,true)
def G.kP (f:Nat)(aX:bP)(aU:List bn):Option (bP×List bJ×Bool):=match f with
|0=>none
|n+1=>(G.gX n aX).bind λv1=>cond v1 ((G.jl n aU).bind λv2=>cond v2 ((G.fO n aX).bind λv3=>G.kP.L1 n aX aU 0 [] v3.bH v3.kZ)<|some ((bP.mk [] 0),[],false))<|some ((bP.mk [] 0),[],false)
section
theorem bW {a b:Prop}(x:a)(y:b):a/\b:=⟨x,y⟩
theorem aiV {α β:Type}(f:α->β)(l:List α)(n:Nat):List.take n (List.map f l)=List.map f (List.take n l):=List.map_take.symm
theorem aiU {α β:Type}(f:α->β)(l:List α)(n:Nat):List.drop n (List.map f l)=List.map f (List.drop n l):=List.map_drop.symm
theorem kq1 {i:Int}{m:Nat}[inst:Decidable (0<=i/\i<(m:Int))]{α:Type}{k:Option α}{r:α}(h:chk (0<=i/\i<(m:Int)) k=some r):(0<=i/\i<(m:Int))/\i.toNat<m/\k=some r:=by obtain⟨h1,h2⟩:=Es.1 h;exact⟨h1,by omega,h2⟩
inductive Mk : Nat->Prop
 |mk (n:Nat):Mk n
theorem kq0 {m:Nat}[inst:Decidable ((0:Nat)<=0/\(0:Int)<(m:Int))]{α:Type}{k:Option α}{r:α}(h:chk ((0:Nat)<=0/\(0:Int)<(m:Int)) k=some r):(0:Int)<(m:Int)/\0<m/\k=some r:=by obtain⟨h1,h2⟩:=Es.1 h;exact⟨h1.2,by omega,h2⟩
theorem kqn {j m:Nat}[inst:Decidable ((0:Nat)<=OfNat.ofNat j/\(OfNat.ofNat j:Int)<(m:Int))]{α:Type}{k:Option α}{r:α}(h:chk ((0:Nat)<=OfNat.ofNat j/\(OfNat.ofNat j:Int)<(m:Int)) k=some r):(OfNat.ofNat j:Int)<(m:Int)/\(OfNat.ofNat j:Nat)<m/\k=some r:=by obtain⟨h1,h2⟩:=Es.1 h;exact⟨h1.2,Int.ofNat_lt.1 h1.2,h2⟩
theorem kq {c:Prop}[Decidable c]{α:Type}{k:Option α}{r:α}(h:chk c k=some r):c/\k=some r:=Es.1 h
theorem bq {α β:Type}{x:Option α}{f:α->Option β}{r:β}(h:Option.bind x f=some r):∃a,x=some a/\f a=some r:=Option.bind_eq_some_iff.1 h
section
variable {P:Program} {Q:AQ} {st:gY}
theorem adg {f:FuncId}{xm:List AV}{p:Bool}{d:Option Nat}{K:List Nat->List Nat->gY->Prop}{du:DU K}(k:xK P f xm p d st K du):xK P f xm p d st K du:=k
theorem aiw {a:AQ->gY->Prop}{d1:DU a}{d2:DU Q}(k:KT a Q st d1 d2):KT a Q st d1 d2:=k
theorem alU {a b:AQ->gY->Prop}{d1:DU a}{d2:DU b}{d3:DU Q}(k:P7 a b Q st d1 d2 d3):P7 a b Q st d1 d2 d3:=k
theorem aow {X:Type}{p:X->Prop}(k:∃x,p x):∃x,p x:=k
theorem alV {rs:List zh}{r:AV}(k:Ue rs r st):Ue rs r st:=k
theorem aiy {rs:List zh}{m:Nat}{post:AV->List Box->Prop}(k:LU rs m post st):LU rs m post st:=k
end
theorem sq {α:Type}{x r:α}(h:some x=some r):r=x:=(Option.some.inj h).symm
theorem cq {b:Bool}{α:Type}{x y:Option α}{r:α}(h:cond b x y=some r):(b=true/\x=some r)\/(b=false/\y=some r):=afK.1 h
def egD :=bW @ag6 (bW @ajQ (bW @ag5 (bW @ajS (bW @ajP (bW @ag4 (bW @ad1 (bW @ag3 (bW @ajR (bW @ag2 (bW @akB (bW @akA (bW @afm (bW @afl (bW @afn (bW @afj (bW @afi (bW @afk (bW @ab9 (bW @ab8 (bW @acd (bW @aki (bW @akj (bW @akg (bW @akh (bW @ad4 (bW @abU (bW @ajU (bW @ag8 (bW @amc (bW @anR (bW @anQ (bW @ame (bW @akm (bW @ahv (bW @afq (bW @ahu (bW @PN.eq_1 (bW @PN.eq_2 (bW @FW.eq_1 (bW @FW.eq_2 (bW @st0.eq_1 (bW @EM.eq_1 (bW @EM.eq_2 (bW @uV.eq_1 (bW @uV.eq_2 (bW @nR.valid.eq_1 (bW @nR.valid.eq_2 (bW @fK.eq_1 (bW @apx (bW @apw (bW @g_v (bW @x_v (bW @KE (bW @Fq (bW @am4 (bW @ak6 (bW @ak5 (bW @Cb.eq_1 (bW @Cb.eq_2 (bW @uS.eq_1 (bW @uS.eq_2 (bW @aaV.eq_1 (bW @aaV.eq_2 (bW @setB.eq_1 (bW @setB.eq_2 (bW @agz (bW @agA (bW @agO (bW @adN (bW @FR.ok.eq_1 (bW @Uf.eq_1 (bW @Uf.eq_2 (bW @Uf.eq_3 (bW @AV.flat.eq_1 (bW @AV.flat.eq_2 (bW @AV.cells.eq_1 (bW @AV.cells.eq_2 (bW @AV.cells.eq_3 (bW @BF.eq_1 (bW @BF.eq_2 (bW @BF.eq_3 (bW @BF.eq_4 (bW @Zl.eq_1 (bW @Vz.eq_1 (bW @Vz.eq_2 (bW @splice.eq_1 (bW @Box.arr.eq_1 (bW @Box.arr.eq_2 (bW @Box.arr.eq_3 (bW @dataOf.eq_1 (bW @dataOf.eq_2 (bW @dataOf.eq_3 (bW @dataOf.eq_4 (bW @L6.eq_1 (bW @L6.eq_2 (bW @bnd.eq_1 (bW @bnd.eq_2 (bW @TV.eq_1 (bW @TV.eq_2 (bW @aiN (bW @aiM (bW @LK.eq_1 (bW @yH.eq_1 (bW @xX.eq_1 (bW @vSl.eq_1 (bW @Ey.eq_1 (bW @Ey.eq_2 (bW @Ey.eq_3 (bW @H9.eq_1 (bW @H9.eq_2 (bW @H9.eq_3 (bW @AX.eq_1 (bW @AX.eq_2 (bW @AX.eq_3 (bW @BC.eq_1 (bW @BC.eq_2 (bW @BC.eq_3 (bW @AV.owns.eq_1 (bW @AV.owns.eq_2 (bW @AV.owns.eq_3 (bW @qH.eq_1 (bW @qH.eq_2 (bW @qH.eq_3 (bW @AC.zi.eq_1 (bW @AC.zi.eq_2 (bW @AC.zi.eq_3 (bW @AC.isLit.eq_1 (bW @AC.isLit.eq_2 (bW @AV.all.eq_1 (bW @AV.all.eq_2 (bW @AV.all.eq_3 (bW @Cell.isLit.eq_1 (bW @Cell.isLit.eq_2 (bW @List.mem_cons.{0} (bW @List.not_mem_nil.{0} (bW @or_false (bW @false_or (bW @or_true (bW @true_or (bW @forall_eq.{1} (bW @forall_eq_or_imp.{1} (bW @true_and (bW @and_true (bW @true_implies (bW @false_implies (bW @implies_true.{1} (bW @if_true.{1} (bW @if_false.{1} (bW @Bool.false_eq_true (bW @Bool.true_eq_false (bW @imp_self (bW @and_self (bW @cond_true.{1} (bW @cond_false.{1} (bW @List.map_cons.{0,0} (bW @List.map_nil.{0,0} (bW @List.take_succ_cons.{0} (bW @List.take_zero.{0} (bW @List.drop_succ_cons.{0} (bW @List.drop_zero.{0} (bW @List.take_nil.{0} (bW @List.drop_nil.{0} (bW @List.cons_append.{0} (bW @List.nil_append.{0} (bW @List.append_nil.{0} (bW @List.length_cons.{0} (bW @List.length_nil.{0} (bW @List.getElem?_cons_zero.{0} (bW @List.getElem?_cons_succ.{0} (bW @List.length_map.{0,0} (bW @List.length_replicate.{0} (bW @List.length_append.{0} (bW @List.map_append.{0,0} (bW @List.flatMap_cons.{0,0} (bW @List.flatMap_nil.{0,0} (bW @List.all_cons.{0} (bW @List.all_nil.{0} (bW @List.contains_cons.{0} (bW @List.contains_nil.{0} (bW @Bool.and_true (bW @Bool.or_false (bW @Bool.false_or (bW @Bool.true_or (bW @Bool.or_true (bW @Bool.and_self (bW @Bool.not_false (bW @Bool.not_true (bW @Bool.true_and (bW @Bool.false_and (bW @Bool.and_false (bW @Nat.zero_lt_succ (bW @Nat.zero_le (bW @Nat.zero_add (bW @Nat.le_refl (bW @Nat.min_self (bW @apr (bW @apq (bW @decide_true (bW @decide_false (bW @aal.eq_1 (bW @aal.eq_2 (bW @ZB.eq_1 (bW @ZB.eq_2 (bW @Xb.eq_1 (bW @Xb.eq_2 (bW @Xb.eq_3 (bW @Qj.eq_1 (bW @Qj.eq_2 (bW @Lj.eq_1 (bW @Lj.eq_2 (bW @Qu.eq_1 (bW @Qu.eq_2 (bW @Zh.eq_1 (bW @FU.eq_1 (bW @FU.eq_2 (bW @FU.eq_3 (bW @cI.eq_1 (bW @cU.eq_1 (bW @cB.eq_1 (bW @cS.eq_1 (bW @cL.eq_1 (bW @cK.eq_1 (bW @aj.iG (bW @uO.iG (bW @bP.iG (bW @fB.iG (bW @bn.iG (bW @bJ.iG (bW @List.getD_cons_zero.{0} (bW @List.getD_cons_succ.{0} (bW @List.map_set.{0,0} (bW @List.length_set.{0} (bW @afY (bW @take_len (bW @Ov (bW @Ox (bW @aeP (bW @VF.eq_1 (bW @VF.eq_2 (bW @ah5 (bW @JK.eq_1 (bW @JK.eq_2 (bW @acy (bW @Ht (bW @aap (bW @aaq (bW @Option.map_some.{0,0} (bW @Int.toNat_natCast (bW @Int.toNat_zero (bW @aiV (bW @aiU (bW @bne_self_eq_false.{0} (bW @Bool.bne_true (bW @Bool.bne_false (bW @List.drop_replicate.{0} (bW @Nat.sub_self (bW @JJ.eq_1 (bW @JJ.eq_2 (bW @JJ.eq_3 (bW @Option.toList_none.{0} (bW @Option.toList_some.{0} (bW @YW.eq_1 (bW @xk.eq_1 (bW @xk.eq_2 (bW @CZ.eq_1 (bW @CZ.eq_2 (bW @eq_self.{1} (bW @List.replicate_zero.{0} (bW @List.replicate_succ.{0} (bW @Qo.eq_1 (bW @Qo.eq_2 (bW @Bl.eq_1 (bW @Bl.eq_2 (bW @List.set_cons_zero.{0} (bW @List.set_cons_succ.{0} (bW @ams (bW @Fa.eq_1 (bW @Fa.eq_2 (bW @FK.eq_1 (bW @FK.eq_2 (bW @FK.eq_3 (bW @List.zip_cons_cons.{0,0} (bW @List.zip_nil_right.{0,0} (bW @List.zip_nil_left.{0,0} (bW @beq_self_eq_true.{0} @Nat.add_zero)))))))))))))))))))))))))))))))))))))))))))))))))))))))))))))))))))))))))))))))))))))))))))))))))))))))))))))))))))))))))))))))))))))))))))))))))))))))))))))))))))))))))))))))))))))))))))))))))))))))))))))))))))))))))))))))))))))))))))))))))))))))))))))))))))))))))))))))))))))))))))))
theorem egR : type_of% egD:=egD
def wkD :=bW @WS.eq_1 (bW @WS.eq_2 (bW @abS.eq_1 (bW @abS.eq_2 (bW @Xr.eq_1 (bW @Xr.eq_2 (bW @Xr.eq_3 (bW @wkV.eq_1 (bW @wkV.eq_2 (bW @wkV.eq_3 (bW @wkV.eq_4 (bW @PS.eq_1 (bW @PS.eq_2 (bW @PS.eq_3 (bW @WY.eq_1 (bW @WY.eq_2 (bW @Cb.eq_1 (bW @Cb.eq_2 (bW @uS.eq_1 (bW @uS.eq_2 (bW @true_and (bW @and_true (bW @implies_true.{1} (bW @List.mem_cons.{0} (bW @List.not_mem_nil.{0} (bW @or_false (bW @or_true (bW @true_or (bW @Box.arr.eq_1 (bW @Box.arr.eq_2 (bW @Box.arr.eq_3 (bW @LK.eq_1 (bW @yH.eq_1 (bW @xX.eq_1 (bW @vSl.eq_1 (bW @not_false_eq_true (bW @false_or (bW @Option.some.injEq.{0} (bW @true_implies (bW @cI.eq_1 (bW @cU.eq_1 (bW @cB.eq_1 (bW @cS.eq_1 (bW @cL.eq_1 (bW @cK.eq_1 (bW @aj.iG (bW @uO.iG (bW @bP.iG (bW @fB.iG (bW @bn.iG (bW @bJ.iG (bW @List.map_append.{0,0} (bW @List.map_cons.{0,0} (bW @List.map_nil.{0,0} (bW @List.map_set.{0,0} (bW @List.map_take.{0,0} (bW @List.map_drop.{0,0} (bW @List.map_replicate.{0,0} (bW @List.length_append.{0} (bW @List.length_cons.{0} (bW @List.length_nil.{0} (bW @List.length_map.{0,0} (bW @List.length_set.{0} (bW @List.length_replicate.{0} (bW @Nat.zero_add (bW @Nat.add_zero (bW @List.nil_append.{0} (bW @List.cons_append.{0} (bW @List.append_nil.{0} (bW @take_len (bW @Ov (bW @Ox @and_self)))))))))))))))))))))))))))))))))))))))))))))))))))))))))))))))))))))))
theorem wkR : type_of% wkD:=wkD
def peD :=bW @Ue.eq_1 (bW @Jh.eq_1 (bW @Jh.eq_2 (bW @zh.ok.eq_1 (bW @zh.ok.eq_2 (bW @zh.val.eq_1 (bW @zh.val.eq_2 (bW @Xj.eq_1 (bW @Xj.eq_2 (bW @BL.eq_1 (bW @BL.eq_2 (bW @partOf.eq_1 (bW @partOf.eq_2 (bW @partOf.eq_3 (bW @KE (bW @Fq (bW @Pz (bW @g_v (bW @x_v (bW @AV.flat.eq_1 (bW @AV.flat.eq_2 (bW @BF.eq_1 (bW @BF.eq_2 (bW @BF.eq_3 (bW @BF.eq_4 (bW @Cb.eq_1 (bW @Cb.eq_2 (bW @uS.eq_1 (bW @uS.eq_2 (bW @dV.eq_1 (bW @dV.eq_2 (bW @dV.eq_3 (bW @dV.eq_4 (bW @dC.eq_1 (bW @dC.eq_2 (bW @dC.eq_3 (bW @dC.eq_4 (bW @dCs.eq_1 (bW @dCs.eq_2 (bW @dCs.eq_3 (bW @dPs.eq_1 (bW @dPs.eq_2 (bW @dPs.eq_3 (bW @Box.arr.eq_1 (bW @Box.arr.eq_2 (bW @Box.arr.eq_3 (bW @List.take_succ_cons.{0} (bW @List.take_zero.{0} (bW @List.drop_zero.{0} (bW @List.drop_succ_cons.{0} (bW @List.length_cons.{0} (bW @List.length_nil.{0} (bW @List.getElem?_cons_zero.{0} (bW @List.getElem?_cons_succ.{0} (bW @true_and (bW @and_true (bW @Nat.zero_add (bW @yH.eq_1 (bW @xX.eq_1 (bW @LK.eq_1 (bW @vSl.eq_1 (bW @FR.ok.eq_1 (bW @cI.eq_1 (bW @cU.eq_1 (bW @cB.eq_1 (bW @cS.eq_1 (bW @cL.eq_1 (bW @cK.eq_1 (bW @aj.iG (bW @uO.iG (bW @bP.iG (bW @fB.iG (bW @bn.iG (bW @bJ.iG (bW @List.map_append.{0,0} (bW @List.map_cons.{0,0} (bW @List.map_nil.{0,0} (bW @List.map_set.{0,0} (bW @List.map_take.{0,0} (bW @List.map_drop.{0,0} (bW @List.map_replicate.{0,0} (bW @List.length_append.{0} (bW @List.length_map.{0,0} (bW @List.length_set.{0} (bW @List.length_replicate.{0} (bW @Nat.add_zero (bW @List.nil_append.{0} (bW @List.cons_append.{0} (bW @List.append_nil.{0} (bW @take_len (bW @Ov (bW @Ox (bW @and_self @Ht))))))))))))))))))))))))))))))))))))))))))))))))))))))))))))))))))))))))))))))))))))))))))))
theorem peR : type_of% peD:=peD
def rwD :=bW @WS.eq_1 (bW @WS.eq_2 (bW @abS.eq_1 (bW @abS.eq_2 (bW @Xr.eq_1 (bW @Xr.eq_2 (bW @Xr.eq_3 (bW @wkV.eq_1 (bW @wkV.eq_2 (bW @wkV.eq_3 (bW @wkV.eq_4 (bW @PS.eq_1 (bW @PS.eq_2 (bW @PS.eq_3 (bW @WY.eq_1 (bW @WY.eq_2 (bW @Cb.eq_1 (bW @Cb.eq_2 (bW @uS.eq_1 (bW @uS.eq_2 (bW @true_and (bW @and_true (bW @implies_true.{1} (bW @List.mem_cons.{0} (bW @List.not_mem_nil.{0} (bW @or_false (bW @or_true (bW @true_or (bW @Box.arr.eq_1 (bW @Box.arr.eq_2 (bW @Box.arr.eq_3 (bW @LK.eq_1 (bW @yH.eq_1 (bW @xX.eq_1 (bW @vSl.eq_1 (bW @not_false_eq_true (bW @false_or (bW @Option.some.injEq.{0} (bW @true_implies (bW @cI.eq_1 (bW @cU.eq_1 (bW @cB.eq_1 (bW @cS.eq_1 (bW @cL.eq_1 (bW @cK.eq_1 (bW @aj.iG (bW @uO.iG (bW @bP.iG (bW @fB.iG (bW @bn.iG (bW @bJ.iG (bW @List.map_append.{0,0} (bW @List.map_cons.{0,0} (bW @List.map_nil.{0,0} (bW @List.map_set.{0,0} (bW @List.map_take.{0,0} (bW @List.map_drop.{0,0} (bW @List.map_replicate.{0,0} (bW @List.length_append.{0} (bW @List.length_cons.{0} (bW @List.length_nil.{0} (bW @List.length_map.{0,0} (bW @List.length_set.{0} (bW @List.length_replicate.{0} (bW @Nat.zero_add (bW @Nat.add_zero (bW @List.nil_append.{0} (bW @List.cons_append.{0} (bW @List.append_nil.{0} (bW @take_len (bW @Ov (bW @Ox (bW @and_self (bW @FW.eq_1 (bW @FW.eq_2 (bW @Xq.eq_1 (bW @Xq.eq_2 (bW @Xq.eq_3 (bW @Ue.eq_1 (bW @Jh.eq_1 (bW @Jh.eq_2 (bW @zh.ok.eq_1 (bW @zh.ok.eq_2 (bW @zh.val.eq_1 (bW @zh.val.eq_2 (bW @Xj.eq_1 (bW @Xj.eq_2 (bW @BL.eq_1 (bW @BL.eq_2 (bW @partOf.eq_1 (bW @partOf.eq_2 (bW @partOf.eq_3 (bW @KE (bW @Fq (bW @Pz (bW @g_v (bW @x_v (bW @AV.flat.eq_1 (bW @AV.flat.eq_2 (bW @BF.eq_1 (bW @BF.eq_2 (bW @BF.eq_3 (bW @BF.eq_4 (bW @dV.eq_1 (bW @dV.eq_2 (bW @dV.eq_3 (bW @dV.eq_4 (bW @dC.eq_1 (bW @dC.eq_2 (bW @dC.eq_3 (bW @dC.eq_4 (bW @dCs.eq_1 (bW @dCs.eq_2 (bW @dCs.eq_3 (bW @dPs.eq_1 (bW @dPs.eq_2 (bW @dPs.eq_3 (bW @List.take_succ_cons.{0} (bW @List.take_zero.{0} (bW @List.drop_zero.{0} (bW @List.drop_succ_cons.{0} (bW @List.getElem?_cons_zero.{0} (bW @List.getElem?_cons_succ.{0} (bW @FR.ok.eq_1 @Ht)))))))))))))))))))))))))))))))))))))))))))))))))))))))))))))))))))))))))))))))))))))))))))))))))))))))))))))))))))))))))))
theorem rwR : type_of% rwD:=rwD
def lnD :=bW @Ey.eq_1 (bW @Ey.eq_2 (bW @Ey.eq_3 (bW @H9.eq_1 (bW @H9.eq_2 (bW @H9.eq_3 (bW @AX.eq_1 (bW @AX.eq_2 (bW @AX.eq_3 (bW @BC.eq_1 (bW @BC.eq_2 (bW @BC.eq_3 (bW @Fq (bW @uS.eq_1 (bW @uS.eq_2 (bW @Box.arr.eq_1 (bW @Box.arr.eq_2 (bW @Box.arr.eq_3 (bW @AV.cells.eq_1 (bW @AV.cells.eq_2 (bW @AV.cells.eq_3 (bW @List.map_cons.{0,0} (bW @List.map_nil.{0,0} (bW @List.length_map.{0,0} (bW @List.length_append.{0} (bW @List.length_cons.{0} (bW @List.length_nil.{0} (bW @List.length_replicate.{0} (bW @List.length_set.{0} (bW @take_len (bW @Ov (bW @Ox (bW @true_and (bW @and_true (bW @and_self (bW @Nat.le_refl (bW @Nat.zero_add (bW @Nat.add_zero (bW @yH.eq_1 (bW @xX.eq_1 (bW @LK.eq_1 (bW @vSl.eq_1 (bW @cI.eq_1 (bW @cU.eq_1 (bW @cB.eq_1 (bW @cS.eq_1 (bW @cL.eq_1 (bW @cK.eq_1 (bW @List.map_append.{0,0} (bW @List.cons_append.{0} (bW @List.nil_append.{0} (bW @aj.iG (bW @uO.iG (bW @bP.iG (bW @fB.iG (bW @bn.iG @bJ.iG)))))))))))))))))))))))))))))))))))))))))))))))))))))))
theorem lnR : type_of% lnD:=lnD
def ggD :=bW @Xm.eq_1 (bW @Xm.eq_2 (bW @Xh.eq_1 (bW @Xh.eq_2 (bW @Fq (bW @uS.eq_1 (bW @uS.eq_2 (bW @Fa.eq_1 (bW @Fa.eq_2 (bW @List.getD_cons_zero.{0} (bW @List.getD_cons_succ.{0} (bW @List.cons_append.{0} (bW @List.nil_append.{0} (bW @List.append_nil.{0} (bW @List.map_cons.{0,0} (bW @List.map_nil.{0,0} (bW @List.map_append.{0,0} (bW @List.map_set.{0,0} (bW @List.length_append.{0} (bW @List.length_cons.{0} (bW @List.length_nil.{0} (bW @List.length_map.{0,0} (bW @List.length_set.{0} (bW @List.length_replicate.{0} (bW @List.replicate_zero.{0} (bW @List.replicate_succ.{0} (bW @List.map_replicate.{0,0} (bW @Nat.zero_add (bW @Nat.add_zero (bW @FK.eq_1 (bW @FK.eq_2 (bW @FK.eq_3 (bW @and_self (bW @and_true (bW @true_and (bW @cI.eq_1 (bW @cU.eq_1 (bW @cB.eq_1 (bW @cS.eq_1 (bW @cL.eq_1 (bW @cK.eq_1 (bW @aj.iG (bW @uO.iG (bW @bP.iG (bW @fB.iG (bW @bn.iG @bJ.iG)))))))))))))))))))))))))))))))))))))))))))))
theorem ggR : type_of% ggD:=ggD
def ghD :=bW @Xm.eq_1 (bW @Xm.eq_2 (bW @Xh.eq_1 (bW @Xh.eq_2 (bW @Fq (bW @uS.eq_1 (bW @uS.eq_2 (bW @Fa.eq_1 (bW @Fa.eq_2 (bW @List.getD_cons_zero.{0} (bW @List.getD_cons_succ.{0} (bW @List.cons_append.{0} (bW @List.nil_append.{0} (bW @List.append_nil.{0} (bW @List.map_cons.{0,0} (bW @List.map_nil.{0,0} (bW @List.map_append.{0,0} (bW @List.map_set.{0,0} (bW @List.length_append.{0} (bW @List.length_cons.{0} (bW @List.length_nil.{0} (bW @List.length_map.{0,0} (bW @List.length_set.{0} (bW @List.length_replicate.{0} (bW @List.replicate_zero.{0} (bW @List.replicate_succ.{0} (bW @List.map_replicate.{0,0} (bW @Nat.zero_add (bW @Nat.add_zero (bW @FK.eq_1 (bW @FK.eq_2 (bW @FK.eq_3 (bW @and_self (bW @and_true (bW @true_and (bW @cI.eq_1 (bW @cU.eq_1 (bW @cB.eq_1 (bW @cS.eq_1 (bW @cL.eq_1 (bW @cK.eq_1 (bW @aj.iG (bW @uO.iG (bW @bP.iG (bW @fB.iG (bW @bn.iG (bW @bJ.iG (bW @aeP (bW @VF.eq_1 (bW @VF.eq_2 (bW @JK.eq_1 (bW @JK.eq_2 (bW @List.flatMap_cons.{0,0} (bW @List.flatMap_nil.{0,0} (bW @AV.owns.eq_1 (bW @AV.owns.eq_2 (bW @AV.owns.eq_3 (bW @qH.eq_1 (bW @qH.eq_2 (bW @qH.eq_3 (bW @List.contains_cons.{0} (bW @List.contains_nil.{0} (bW @Bool.or_false (bW @Bool.or_true (bW @Bool.false_or (bW @if_true.{1} (bW @if_false.{1} (bW @Bool.false_eq_true (bW @Ey.eq_1 (bW @Ey.eq_2 (bW @Ey.eq_3 (bW @H9.eq_1 (bW @H9.eq_2 (bW @H9.eq_3 (bW @AX.eq_1 (bW @AX.eq_2 (bW @AX.eq_3 (bW @BC.eq_1 (bW @BC.eq_2 (bW @BC.eq_3 (bW @Box.arr.eq_1 (bW @Box.arr.eq_2 (bW @Box.arr.eq_3 (bW @AV.cells.eq_1 (bW @AV.cells.eq_2 (bW @AV.cells.eq_3 (bW @Nat.le_refl (bW @take_len (bW @Ov (bW @Ox (bW @yH.eq_1 (bW @xX.eq_1 (bW @LK.eq_1 @vSl.eq_1))))))))))))))))))))))))))))))))))))))))))))))))))))))))))))))))))))))))))))))))))))))))))))
theorem ghR : type_of% ghD:=ghD
end
section
abbrev zN : List AC:=[.c (.lit (.int .i64 0)),.c (.lit (.int .i64 0)),.c (.str []),.nS 1,.nS 5]
abbrev wI (z:Int):AC:=.c (.lit (.int .i64 z))
abbrev wS (s:fD):AC:=.c (.str s)
abbrev wT (l:List fD):AC:=.c (.sl 1 (List.map cS l))
abbrev wK (l:List aj):AC:=.c (.sl 5 (List.map aj.cells l))
abbrev wN (x:aj):List AC:=[wI x.bQ,wI x.wL,wS x.lI,wT x.aO,wK x.aP]
abbrev wB (b:Bool):AC:=.c (.lit (.bool b))
abbrev oI (z:Int):AV:=.one (wI z)
abbrev oS (s:fD):AV:=.one (wS s)
abbrev oT (l:List fD):AV:=.one (wT l)
abbrev oB (b:Bool):AV:=.one (wB b)
abbrev eP (a b:Nat):Nat×Slot:=(a,.v true (.one (.ptr b 0)))
abbrev eI (a:Nat)(z:Int):Nat×Slot:=(a,.v true (.one (wI z)))
abbrev eS (a:Nat)(z:fD):Nat×Slot:=(a,.v true (.one (wS z)))
abbrev eT (a:Nat)(z:List fD):Nat×Slot:=(a,.v true (.one (wT z)))
abbrev eB (a:Nat)(z:Bool):Nat×Slot:=(a,.v true (.one (wB z)))
abbrev w7 (l:List fB):AC:=.c (.sl 7 (List.map fB.cells l))
abbrev w8 (l:List uO):AC:=.c (.sl 8 (List.map uO.cells l))
abbrev wO (x:uO):List AC:=[wI x.bQ,wT x.uq,wT x.xJ,wI x.Value.bQ,wI x.Value.wL,wS x.Value.lI,wT x.Value.aO,wK x.Value.aP]
abbrev wM (x:fB):List AC:=[wS x.iC,wI x.mW,wI x.pR.bQ,wI x.pR.wL,wS x.pR.lI,wT x.pR.aO,wK x.pR.aP]
abbrev wU (x:bP):List AC:=[w7 x.bH,wI x.kZ]
abbrev wQ (x:bn):List AC:=[wI x.kQ,wS x.iC,wT x.yL,wT x.uN,wI x.Body.bQ,wI x.Body.wL,wS x.Body.lI,wT x.Body.aO,wK x.Body.aP,w8 x.MH]
abbrev wR (x:bJ):List AC:=[wI x.GG,wS x.Tag,wI x.mW,wI x.Body.bQ,wI x.Body.wL,wS x.Body.lI,wT x.Body.aO,wK x.Body.aP]
def pp {α:Sort _}{β:Sort _}(a:α)(b:β):PProd α β:=⟨a,b⟩
abbrev BU :=pp () <|pp () <|pp () <|pp () <|pp () <|pp () <|()
abbrev zK {A:Sort _}{B:Sort _}{C:Sort _}(a:A)(b:B)(c:C):=pp () <|pp () <|pp a <|pp () <|pp b <|pp c <|()
abbrev Yk {A:Sort _}(a:A):=pp () <|pp a <|pp () <|pp () <|pp () <|pp () <|()
abbrev ahb {A:Sort _}{B:Sort _}{C:Sort _}{D:Sort _}{E:Sort _}{F:Sort _}(a:A)(b:B)(c:C)(d:D)(e:E)(f:F):=pp () <|pp a <|pp b <|pp c <|pp d <|pp e <|f
abbrev iW {A:Sort _}(a:A):=pp a <|pp () <|pp () <|pp () <|pp () <|pp () <|()
abbrev Yl {A:Sort _}{B:Sort _}(a:A)(b:B):=pp a <|pp () <|pp () <|pp () <|pp () <|pp () <|b
abbrev IM {A:Sort _}{B:Sort _}{C:Sort _}{D:Sort _}(a:A)(b:B)(c:C)(d:D):=pp a <|pp () <|pp () <|pp b <|pp c <|pp d <|()
abbrev WW {A:Sort _}{B:Sort _}{C:Sort _}{D:Sort _}{E:Sort _}(a:A)(b:B)(c:C)(d:D)(e:E):=pp a <|pp () <|pp () <|pp b <|pp c <|pp d <|pp () <|e
abbrev ji {A:Sort _}{B:Sort _}{C:Sort _}{D:Sort _}(a:A)(b:B)(c:C)(d:D):=pp a <|pp () <|pp b <|pp () <|pp c <|pp d <|()
abbrev Ym {A:Sort _}{B:Sort _}{C:Sort _}{D:Sort _}{E:Sort _}(a:A)(b:B)(c:C)(d:D)(e:E):=pp a <|pp () <|pp b <|pp () <|pp c <|pp d <|e
abbrev Oy {A:Sort _}{B:Sort _}{C:Sort _}{D:Sort _}{E:Sort _}(a:A)(b:B)(c:C)(d:D)(e:E):=pp a <|pp () <|pp b <|pp c <|pp d <|pp e <|()
abbrev ad6 {A:Sort _}{B:Sort _}{C:Sort _}{D:Sort _}{E:Sort _}{F:Sort _}(a:A)(b:B)(c:C)(d:D)(e:E)(f:F):=pp a <|pp () <|pp b <|pp c <|pp d <|pp e <|pp () <|f
abbrev ahc {A:Sort _}{B:Sort _}{C:Sort _}{D:Sort _}{E:Sort _}{F:Sort _}(a:A)(b:B)(c:C)(d:D)(e:E)(f:F):=pp a <|pp () <|pp b <|pp c <|pp d <|pp e <|f
abbrev IP {A:Sort _}{B:Sort _}(a:A)(b:B):=pp a <|pp b <|pp () <|pp () <|pp () <|pp () <|()
abbrev IQ {A:Sort _}{B:Sort _}{C:Sort _}(a:A)(b:B)(c:C):=pp a <|pp b <|pp () <|pp () <|pp () <|pp () <|c
abbrev ahd {A:Sort _}{B:Sort _}{C:Sort _}{D:Sort _}{E:Sort _}(a:A)(b:B)(c:C)(d:D)(e:E):=pp a <|pp b <|pp () <|pp c <|pp d <|pp e <|()
abbrev ahe {A:Sort _}{B:Sort _}{C:Sort _}{D:Sort _}{E:Sort _}{F:Sort _}(a:A)(b:B)(c:C)(d:D)(e:E)(f:F):=pp a <|pp b <|pp () <|pp c <|pp d <|pp e <|f
abbrev ahf {A:Sort _}{B:Sort _}{C:Sort _}{D:Sort _}{E:Sort _}(a:A)(b:B)(c:C)(d:D)(e:E):=pp a <|pp b <|pp c <|pp () <|pp d <|pp e <|()
abbrev ad7 {A:Sort _}{B:Sort _}{C:Sort _}{D:Sort _}{E:Sort _}{F:Sort _}{G:Sort _}(a:A)(b:B)(c:C)(d:D)(e:E)(f:F)(g:G):=pp a <|pp b <|pp c <|pp d <|pp e <|pp f <|pp () <|g
abbrev ad8 {A:Sort _}{B:Sort _}{C:Sort _}{D:Sort _}{E:Sort _}{F:Sort _}{G:Sort _}{H:Sort _}(a:A)(b:B)(c:C)(d:D)(e:E)(f:F)(g:G)(h:H):=pp a <|pp b <|pp c <|pp d <|pp e <|pp f <|pp g <|h
theorem ihL {n:Nat}{A B:Nat->Prop}(h:∀m,m<n->A m/\B m):∀m,m<n->A m:=λm hm=>(h m hm).1
theorem ihR {n:Nat}{A B:Nat->Prop}(h:∀m,m<n->A m/\B m):∀m,m<n->B m:=λm hm=>(h m hm).2
theorem gJ (zs:List Nat)(pi:List (Nat×Nat))(vs:List Nat){m:Nat}{ts0 ts:List (Nat×Slot)}{H7 bs:List (Nat×Box)}(hk:SA m H7 bs pi vs=true)
 (hb:WS zs (uS H7) (WY pi) vs bs) (ht:abS zs (uS H7) (WY pi) vs ts0 ts):Oz m (gY.of ts0 H7) (gY.of ts bs):=alx zs pi vs hk hb ht
theorem EC (zs:List Nat)(pi:List (Nat×Nat))(vs:List Nat){rs:List zh}{ts:List (Nat×Slot)}{H7:List (Nat×Box)}{m:Nat}{r:AV}{bs:List Box}(hk:SA m H7 (FW bs 0) pi vs=true)
 (hok:Jh (gY.of ts H7) rs) (hb:WS zs (uS H7) (WY pi) vs (FW bs 0)) (hv:wkV zs (uS H7) (WY pi) vs (Xj (gY.of ts H7) rs) r) :
 LU rs m (λr1 b1=>r1=r/\b1=bs) (gY.of ts H7):=Tf zs pi vs hk hok hb hv
section
variable {P:Program} {f:FuncId} {xm:List AV} {d:Option Nat} {st:gY} {K:List Nat->List Nat->gY->Prop} {du:DU K} {Q:AQ}
theorem cG (sg nu:List Nat){P:Program}{f:FuncId}{xm:List AV}{d:Option Nat}{st:gY}{K:List Nat->List Nat->gY->Prop}{du:DU K}{ds:List AV}{fp H7:List Box}{r0:AV}(h:pO P f ds fp (λr bs=>r=r0/\bs=H7))(hl:sg.length=fp.length)(hn:nodupB (sg++nu)=true)(hf:Xm st (sg++nu) fp 0)(hv:Xh st nu)
 (hra:(ds.all λx=>x.all (AC.xN fp.length))=true) (hrf:fp.all (Box.xN fp.length)=true) (ha:xm=ds.map (FK λb=>(sg++nu).getD b 0)) (hb:H7.length=(sg++nu).length)
 (k:K (sg++nu) (sg++nu) ((st.vJ ((sg++nu).zip (H7.map (Fa λb=>(sg++nu).getD b 0)))).BD d (.v true (FK (λb=>(sg++nu).getD b 0) r0)))):xK P f xm true d st K du:=anV sg nu h hl hn hf hv hra hrf ha hb k
theorem cH (sg nu:List Nat){P:Program}{f:FuncId}{xm:List AV}{d:Option Nat}{st:gY}{K:List Nat->List Nat->gY->Prop}{du:DU K}{ds:List AV}{fp H7:List Box}{r0:AV}(h:pO P f ds fp (λr bs=>r=r0/\bs=H7))(he:xm.map (Ey st.bx)=ds.map (FK λb=>(sg++nu).getD b 0))(hlo:AX st.bx xm)
 (hl:sg.length=fp.length) (hn:nodupB (sg++nu)=true) (hf:Xm (st.H8 (xm.flatMap AV.owns)) (sg++nu) fp 0) (hv:Xh st nu)
 (hra:(ds.all λx=>x.all (AC.xN fp.length))=true) (hrf:fp.all (Box.xN fp.length)=true) (hb:H7.length=(sg++nu).length)
 (k:K (xm.flatMap AV.owns++(sg++nu)) (xm.flatMap AV.owns++(sg++nu)) (((st.H8 (xm.flatMap AV.owns)).vJ ((sg++nu).zip (H7.map (Fa λb=>(sg++nu).getD b 0)))).BD d (.v true (FK (λb=>(sg++nu).getD b 0) r0)))):xK P f xm true d st K du:=anW sg nu h he hlo hl hn hf hv hra hrf hb k
theorem Io (X:Type)(R:Type)(g:Nat->X->Option R)(r:R)(S:X->gY)(N:Nat){P:Program}{st:gY}{Q:AQ}{a b:dI}{d1:DU (wpC P a)}{d2:DU (wpC P b)}{d3:DU Q}
 (h1:D7 P a (xQ.then (λst'=>∃x m,(g m x=some r/\m<=N)/\Oz 10 st' (S x)) Q) st .mk .mk) (h2:∀n x,n<=N->g n x=some r->D7 P b Q (S x) .mk .mk):P7 (wpC P a) (wpC P b) Q st d1 d2 d3:=by
 refine aps (X:=X×Nat) (λp=>g p.2 p.1=some r/\p.2<=N) (λp=>S p.1) (wpC_mono (λe st h=>?_) h1) (λp hp=>h2 p.2 p.1 hp.2 hp.1);cases e with
 |normal=>obtain⟨x,m,h,hw⟩:=h;exact⟨(x,m),h,hw⟩
 |_=>exact h
theorem uM (X:Type)(R:Type)(g:Nat->X->Option R)(r:R)(S:X->gY)(N:Nat){P:Program}{st:gY}{Q:AQ}{a:dI}{d1:DU (wpC P a)}{d2:DU Q}(h0:∃x m,(g m x=some r/\m<=N)/\Oz 10 st (S x))
 (h:∀n x,n<=N->g n x=some r->D7 P a (xQ.then (λst'=>∃x' m,(g m x'=some r/\m<=N/\m<n)/\Oz 10 st' (S x')) Q) (S x) .mk .mk):KT (wpC P a) Q st d1 d2:=by
 obtain⟨x,m,h0,hw⟩:=h0;refine aoB (X:=X×Nat) (λp=>g p.2 p.1=some r/\p.2<=N) (λp=>S p.1) (λp=>p.2) (x,m) h0 hw (λp hp=>wpC_mono (λe st h=>?_) (h p.2 p.1 hp.2 hp.1));cases e with
 |normal=>obtain⟨x,m,h,hw⟩:=h;exact⟨(x,m),⟨⟨h.1,h.2.1⟩,h.2.2⟩,hw⟩
 |_=>exact h
end
theorem Ro {p:Prop}(x:p:=by simp -dsimp only[wkR,wkB,MJ,reduceIte,Nat.reduceEqDiff,reduceCtorEq]<;>simp[List.take_of_length_le]<;>fail):p:=x
theorem tPE {p:Prop}(x:p:=by(simp -dsimp only[peR,reduceIte,Nat.reduceEqDiff,Nat.reduceAdd,Nat.reduceLeDiff,reduceCtorEq]<;>first|(simp[List.take_of_length_le];done)|((try simp only[List.map_take,List.map_drop,List.map_append,List.map_cons,List.map_nil])<;>(repeat' apply And.intro)<;>first|rfl|(simp;done)|(simp<;>omega;done)|(congr 1;exact(List.take_of_length_le (by simp<;>omega)).symm)))):p:=x
theorem tRE {p:Prop}(x:p:=by(simp -dsimp only[rwR,wkB,MJ,reduceIte,Nat.reduceEqDiff,reduceCtorEq,Nat.reduceAdd,Nat.reduceLeDiff]<;>first|(simp[List.take_of_length_le];done)|((try simp only[List.map_take,List.map_drop,List.map_append,List.map_cons,List.map_nil])<;>(repeat' apply And.intro)<;>first|rfl|(simp;done)|(simp<;>omega;done)|(congr 1;exact(List.take_of_length_le (by simp<;>omega)).symm)))):p:=x
theorem tLN {p:Prop}(x:p:=by(simp only[lnR,reduceIte,Nat.reduceEqDiff]<;>omega)):p:=x
theorem tGG {p:Prop}(x:p:=by(simp only[ggR,GU,reduceIte,Nat.reduceEqDiff,Nat.reduceLeDiff,Nat.reduceAdd]<;>omega)):p:=x
theorem tGR {p:Prop}(x:p:=by first|rfl|(simp only[ggR,GU,reduceIte,Nat.reduceEqDiff,Nat.reduceLeDiff,Nat.reduceAdd]<;>omega)):p:=x
theorem tGH {p:Prop}(x:p:=by(simp only[ghR,GU,reduceIte,Nat.reduceEqDiff,Nat.reduceLeDiff,Nat.reduceAdd,Nat.reduceBEq]<;>omega)):p:=x
theorem Q9 {p:Prop}(x:p:=by((try simp only[Prod.exists]);(first|refine⟨_,_,⟨h,?_⟩,?_⟩|refine⟨_,_,_,⟨h,?_⟩,?_⟩|refine⟨_,_,_,_,⟨h,?_⟩,?_⟩|refine⟨_,_,_,_,_,⟨h,?_⟩,?_⟩|refine⟨_,_,_,_,_,_,⟨h,?_⟩,?_⟩|refine⟨_,_,_,_,_,_,_,⟨h,?_⟩,?_⟩|refine⟨_,_,_,_,_,_,_,_,⟨h,?_⟩,?_⟩|refine⟨_,_,_,_,_,_,_,_,_,⟨h,?_⟩,?_⟩|refine⟨_,_,_,_,_,_,_,_,_,_,⟨h,?_⟩,?_⟩|refine⟨_,_,_,_,_,_,_,_,_,_,_,⟨h,?_⟩,?_⟩|refine⟨_,_,_,_,_,_,_,_,_,_,_,_,⟨h,?_⟩,?_⟩|refine⟨_,_,_,_,_,_,_,_,_,_,_,_,_,⟨h,?_⟩,?_⟩|refine⟨_,_,_,_,_,_,_,_,_,_,_,_,_,_,⟨h,?_⟩,?_⟩|refine⟨_,_,_,_,_,_,_,_,_,_,_,_,_,_,_,⟨h,?_⟩,?_⟩|refine⟨_,_,_,_,_,_,_,_,_,_,_,_,_,_,_,_,⟨h,?_⟩,?_⟩|refine⟨_,_,_,_,_,_,_,_,_,_,_,_,_,_,_,_,_,⟨h,?_⟩,?_⟩|refine⟨_,_,_,_,_,_,_,_,_,_,_,_,_,_,_,_,_,_,⟨h,?_⟩,?_⟩|refine⟨_,_,_,_,_,_,_,_,_,_,_,_,_,_,_,_,_,_,_,⟨h,?_⟩,?_⟩|refine⟨_,_,_,_,_,_,_,_,_,_,_,_,_,_,_,_,_,_,_,_,⟨h,?_⟩,?_⟩|refine⟨_,_,_,_,_,_,_,_,_,_,_,_,_,_,_,_,_,_,_,_,_,⟨h,?_⟩,?_⟩|refine⟨_,_,_,_,_,_,_,_,_,_,_,_,_,_,_,_,_,_,_,_,_,_,⟨h,?_⟩,?_⟩|refine⟨_,_,_,_,_,_,_,_,_,_,_,_,_,_,_,_,_,_,_,_,_,_,_,⟨h,?_⟩,?_⟩|refine⟨_,_,_,_,_,_,_,_,_,_,_,_,_,_,_,_,_,_,_,_,_,_,_,_,⟨h,?_⟩,?_⟩|refine⟨(),_,⟨h,?_⟩,?_⟩);(focus omega);first|exact zj.1 (by rfl) Ro Ro|exact zj.2.1 (by rfl) Ro Ro|exact zj.2.2.1 (by rfl) Ro Ro|exact zj.2.2.2.1 (by rfl) Ro Ro|exact zj.2.2.2.2.1 (by rfl) Ro Ro|exact zj.2.2.2.2.2.1 (by rfl) Ro Ro|exact zj.2.2.2.2.2.2.1 (by rfl) Ro Ro|exact zj.2.2.2.2.2.2.2.1 (by rfl) Ro Ro|exact zj.2.2.2.2.2.2.2.2.1 (by rfl) Ro Ro|exact zj.2.2.2.2.2.2.2.2.2.1 (by rfl) Ro Ro|exact zj.2.2.2.2.2.2.2.2.2.2.1 (by rfl) Ro Ro|exact zj.2.2.2.2.2.2.2.2.2.2.2.1 (by rfl) Ro Ro|exact zj.2.2.2.2.2.2.2.2.2.2.2.2.1 (by rfl) Ro Ro|exact zj.2.2.2.2.2.2.2.2.2.2.2.2.2.1 (by rfl) Ro Ro)):p:=x
theorem uH {p:Prop}(x:p:=by
 obtain⟨zc,zg,zk,zu,ze,zj,zt⟩:=z
 try simp only[oI,oS,oT,oB,wR,wQ,wU,wM,wO,w8,w7,wN,wI,wS,wT,wK,wB,zN,eP,eI,eS,eT,eB]at zc zk zu zt zj⊢
 repeat' first
 |(clear h;(with_reducible intro n x hn h);rcases n with _|n<;>simp only[ze.1,reduceCtorEq]at h)
 |(simp only[reduceCtorEq]at h;done)
 |((with_reducible replace h:=kq0 h);obtain⟨_,_,h⟩:=h)
 |((with_reducible replace h:=kqn h);obtain⟨_,_,h⟩:=h)
 |((with_reducible replace h:=kq1 h);obtain⟨_,_,h⟩:=h)
 |((with_reducible replace h:=kq h);obtain⟨_,h⟩:=h)
 |((with_reducible replace h:=sq h);subst h;have h:=True.intro)
 | (try simp -dsimp only[egR,nR.qi,nR.f,nR.rd,Ef,Be,lvl,zB,reduceIte,Nat.reduceEqDiff,Nat.reduceAdd,Nat.reduceLeDiff,Nat.reduceBEq,reduceCtorEq,Int.reduceBNe,Int.reduceBEq,Int.reduceLT,Int.reduceLE,Int.reduceNeg,Nat.reduceLT,Ei,Int.reduceToNat,GU, *]
    repeat((with_reducible refine And.intro ?_ ?_);focus first|(show Az _ _ _ _=true;kernel_rfl)|(show zL _ _=true;kernel_rfl)|omega|assumption|(show _<=maxLen;decide))
    first
    |with_reducible refine ahH ?_
    |((with_reducible refine alU ?_);with_reducible refine zu.1 n ?_ ?_)
    |((with_reducible refine aiw ?_);first|((with_reducible refine zk.1 n ?_ ?_);(focus exact Q9))|((with_reducible refine zk.2.1 n ?_ ?_);(focus exact Q9))|((with_reducible refine zk.2.2.1 n ?_ ?_);(focus exact Q9))|((with_reducible refine zk.2.2.2.1 n ?_ ?_);(focus exact Q9))|((with_reducible refine zk.2.2.2.2.1 n ?_ ?_);(focus exact Q9))|((with_reducible refine zk.2.2.2.2.2.1 n ?_ ?_);(focus exact Q9)))
    |((with_reducible refine adg ?_);(with_reducible replace h:=bq h);obtain⟨_,hv,h⟩:=h;first|(have zd:=zc;(repeat(first|((first|with_reducible have hc:=zd.1 hv|with_reducible have hc:=zd.1 _ (by omega) hv);(first|refine ahG (λ_=>hc) rfl rfl ?_|refine ahI hc rfl rfl ?_|refine alI hc tLN tLN rfl rfl ?_|refine alH hc tLN tLN rfl rfl ?_);clear zd)|with_reducible replace zd:=zd.2));(fail_if_success have zz:=zd))|(have zd:=zg;(repeat(first|((first|with_reducible have hc:=zd.1.1 hv|with_reducible have hc:=zd.1.1 _ (by omega) hv);(first|refine zd.1.2 hc rfl rfl tGG tGG rfl rfl tGR rfl ?_|refine zd.1.2 hc tGH tGH rfl rfl tGH tGH rfl rfl rfl ?_);clear zd)|with_reducible replace zd:=zd.2));(fail_if_success have zz:=zd)))
    |((with_reducible replace h:=cq h);rcases h with⟨c,h⟩|⟨c,h⟩<;>try(simp only[*,Bool.false_eq_true,reduceCtorEq]at c;done))
    |((with_reducible refine aow ?_);exact Q9)
    |((with_reducible refine alV ?_);exact tPE)
    |((with_reducible refine aiy ?_);have zd:=zt;(repeat(first|exact zd.1 (by rfl) tRE tRE tRE|with_reducible replace zd:=zd.2))<;>fail)
    |(cases h;done))):p:=x
theorem ahY {p:Prop}(x:p:=by
 obtain⟨zc,zg,zk,zu,ze,zj,zt,zq⟩:=z
 try simp only[oI,oS,oT,oB,wR,wQ,wU,wM,wO,w8,w7,wN,wI,wS,wT,wK,wB,zN,eP,eI,eS,eT,eB]at zc zk zu zt zj⊢
 repeat' first
 |(clear h;(with_reducible intro n x hn h);rcases n with _|n<;>simp only[ze.1,reduceCtorEq]at h)
 |(simp only[reduceCtorEq]at h;done)
 |((with_reducible replace h:=kq0 h);obtain⟨_,_,h⟩:=h)
 |((with_reducible replace h:=kqn h);obtain⟨_,_,h⟩:=h)
 |((with_reducible replace h:=kq1 h);obtain⟨_,_,h⟩:=h)
 |((with_reducible replace h:=kq h);obtain⟨_,h⟩:=h)
 |((with_reducible replace h:=sq h);subst h;have h:=True.intro)
 | (try simp -dsimp only[egR,nR.qi,nR.f,nR.rd,Ef,Be,lvl,zB,reduceIte,Nat.reduceEqDiff,Nat.reduceAdd,Nat.reduceLeDiff,Nat.reduceBEq,reduceCtorEq,Int.reduceBNe,Int.reduceBEq,Int.reduceLT,Int.reduceLE,Int.reduceNeg,Nat.reduceLT,Ei,Int.reduceToNat,GU, *]
    repeat((with_reducible refine And.intro ?_ ?_);focus first|(show Az _ _ _ _=true;kernel_rfl)|(show zL _ _=true;kernel_rfl)|omega|assumption|(show _<=maxLen;decide))
    first
    |with_reducible refine ahH ?_
    |((with_reducible refine alU ?_);first|(rename Mk 1=>tk;clear tk;have:True:=(by(first|rewrite [zq.1.1]at h|rewrite [zq.1.2.1]at h|rewrite [zq.1.2.2.1]at h|rewrite [zq.1.2.2.2.1]at h|rewrite [zq.1.2.2.2.2.1]at h|rewrite [zq.1.2.2.2.2.2.1]at h|rewrite [zq.1.2.2.2.2.2.2.1]at h|rewrite [zq.1.2.2.2.2.2.2.2.1]at h);exact True.intro);with_reducible refine zu.1 n ?_ ?_)|(rename Mk 2=>tk;clear tk;have:True:=(by(first|rewrite [zq.2.1.1]at h|rewrite [zq.2.1.2.1]at h|rewrite [zq.2.1.2.2.1]at h|rewrite [zq.2.1.2.2.2.1]at h|rewrite [zq.2.1.2.2.2.2.1]at h|rewrite [zq.2.1.2.2.2.2.2.1]at h|rewrite [zq.2.1.2.2.2.2.2.2.1]at h|rewrite [zq.2.1.2.2.2.2.2.2.2.1]at h);exact True.intro);with_reducible refine zu.2.1 n ?_ ?_)|(rename Mk 3=>tk;clear tk;have:True:=(by(first|rewrite [zq.2.2.1.1]at h|rewrite [zq.2.2.1.2.1]at h|rewrite [zq.2.2.1.2.2.1]at h|rewrite [zq.2.2.1.2.2.2.1]at h|rewrite [zq.2.2.1.2.2.2.2.1]at h|rewrite [zq.2.2.1.2.2.2.2.2.1]at h|rewrite [zq.2.2.1.2.2.2.2.2.2.1]at h|rewrite [zq.2.2.1.2.2.2.2.2.2.2.1]at h);exact True.intro);with_reducible refine zu.2.2.1 n ?_ ?_)|(rename Mk 4=>tk;clear tk;have:True:=(by(first|rewrite [zq.2.2.2.1.1]at h|rewrite [zq.2.2.2.1.2.1]at h|rewrite [zq.2.2.2.1.2.2.1]at h|rewrite [zq.2.2.2.1.2.2.2.1]at h|rewrite [zq.2.2.2.1.2.2.2.2.1]at h|rewrite [zq.2.2.2.1.2.2.2.2.2.1]at h|rewrite [zq.2.2.2.1.2.2.2.2.2.2.1]at h|rewrite [zq.2.2.2.1.2.2.2.2.2.2.2.1]at h);exact True.intro);with_reducible refine zu.2.2.2.1 n ?_ ?_)|(rename Mk 5=>tk;clear tk;have:True:=(by(first|rewrite [zq.2.2.2.2.1.1]at h|rewrite [zq.2.2.2.2.1.2.1]at h|rewrite [zq.2.2.2.2.1.2.2.1]at h|rewrite [zq.2.2.2.2.1.2.2.2.1]at h|rewrite [zq.2.2.2.2.1.2.2.2.2.1]at h|rewrite [zq.2.2.2.2.1.2.2.2.2.2.1]at h|rewrite [zq.2.2.2.2.1.2.2.2.2.2.2.1]at h|rewrite [zq.2.2.2.2.1.2.2.2.2.2.2.2.1]at h);exact True.intro);with_reducible refine zu.2.2.2.2.1 n ?_ ?_)|(rename Mk 6=>tk;clear tk;have:True:=(by(first|rewrite [zq.2.2.2.2.2.1.1]at h|rewrite [zq.2.2.2.2.2.1.2.1]at h|rewrite [zq.2.2.2.2.2.1.2.2.1]at h|rewrite [zq.2.2.2.2.2.1.2.2.2.1]at h|rewrite [zq.2.2.2.2.2.1.2.2.2.2.1]at h|rewrite [zq.2.2.2.2.2.1.2.2.2.2.2.1]at h|rewrite [zq.2.2.2.2.2.1.2.2.2.2.2.2.1]at h|rewrite [zq.2.2.2.2.2.1.2.2.2.2.2.2.2.1]at h);exact True.intro);with_reducible refine zu.2.2.2.2.2.1 n ?_ ?_))
    |((with_reducible refine aiw ?_);first|((with_reducible refine zk.1 n ?_ ?_);(focus exact Q9))|((with_reducible refine zk.2.1 n ?_ ?_);(focus exact Q9))|((with_reducible refine zk.2.2.1 n ?_ ?_);(focus exact Q9))|((with_reducible refine zk.2.2.2.1 n ?_ ?_);(focus exact Q9))|((with_reducible refine zk.2.2.2.2.1 n ?_ ?_);(focus exact Q9))|((with_reducible refine zk.2.2.2.2.2.1 n ?_ ?_);(focus exact Q9)))
    |((with_reducible refine adg ?_);(with_reducible replace h:=bq h);obtain⟨_,hv,h⟩:=h;first|(have zd:=zc;(repeat(first|((first|with_reducible have hc:=zd.1 hv|with_reducible have hc:=zd.1 _ (by omega) hv);(first|refine ahG (λ_=>hc) rfl rfl ?_|refine ahI hc rfl rfl ?_|refine alI hc tLN tLN rfl rfl ?_|refine alH hc tLN tLN rfl rfl ?_);clear zd)|with_reducible replace zd:=zd.2));(fail_if_success have zz:=zd))|(have zd:=zg;(repeat(first|((first|with_reducible have hc:=zd.1.1 hv|with_reducible have hc:=zd.1.1 _ (by omega) hv);(first|refine zd.1.2 hc rfl rfl tGG tGG rfl rfl tGR rfl ?_|refine zd.1.2 hc tGH tGH rfl rfl tGH tGH rfl rfl rfl ?_);clear zd)|with_reducible replace zd:=zd.2));(fail_if_success have zz:=zd)))
    |((with_reducible replace h:=cq h);rcases h with⟨c,h⟩|⟨c,h⟩<;>try(simp only[*,Bool.false_eq_true,reduceCtorEq]at c;done))
    |((with_reducible refine aow ?_);exact Q9)
    |((with_reducible refine alV ?_);exact tPE)
    |((with_reducible refine aiy ?_);have zd:=zt;(repeat(first|exact zd.1 (by rfl) tRE tRE tRE|with_reducible replace zd:=zd.2))<;>fail)
    |(cases h;done))):p:=x
end
abbrev zA (d:Nat)(x:nR):lK:=⟨none,some d,.op x⟩
abbrev zM (d s:Nat):lK:=⟨none,some d,.op (.mv (.t s))⟩
abbrev zS (x:nR):lK:=⟨none,none,.op x⟩
abbrev zG (g:Nat)(b:Bool)(d:Nat)(x:nR):lK:=⟨some (g,b),some d,.op x⟩
noncomputable abbrev pZ : Program:=Go.Proofs.Tryz.prog
abbrev kI (n:Int):pU:=.k (.c (.lit (.int .i64 n)))
abbrev kB (b:Bool):pU:=.k (.c (.lit (.bool b)))
abbrev qx (n:Int):AC:=.c (.lit (.int .i64 n))
abbrev qF (d k a:Nat):lK:=zA d (.load false k (.t a))
abbrev qT (d k a:Nat):lK:=zA d (.load true k (.t a))
abbrev qS (k a b:Nat):lK:=zS (.store true k (.t a) (.t b))
abbrev qU (k a b:Nat):lK:=zS (.store false k (.t a) (.t b))
abbrev qA (d k a:Nat):lK:=zA d (.nK k (.t a))
abbrev qX (d k a:Nat):lK:=zA d (.box k (.t a))
abbrev qB (d:Nat)(b:Bool):lK:=zA d (.mv (kB b))
abbrev qI (d:Nat)(n:Int):lK:=zA d (.mv (kI n))
abbrev qL (d a:Nat):lK:=zA d (.len (.t a))
abbrev qO (d a:Nat):lK:=zA d (.not (.t a))
abbrev qE (d a k:Nat):lK:=zA d (.extract (.t a) k)
abbrev qP (d a b:Nat):lK:=zA d (.pick (.t a) (.t b) (kB false))
abbrev qQ (d a b:Nat):lK:=zA d (.pick (.t a) (kB true) (.t b))
abbrev qN (d a:Nat):lK:=zA d (.X5 (.t a))
abbrev qD (d k a b:Nat):lK:=zA d (.Aj k (.t a) (.t b))
abbrev qZ (d k:Nat):lK:=zA d (.alloc k zN)
abbrev q1 (d f a:Nat):lK:=⟨none,some d,.call f [.t a]⟩
abbrev q2 (d f a b:Nat):lK:=⟨none,some d,.call f [.t a,.t b]⟩
abbrev q3 (d f a b c:Nat):lK:=⟨none,some d,.call f [.t a,.t b,.t c]⟩
abbrev qb (d:Nat)(o:BinOp)(a b:Nat):lK:=zA d (.bin o (.t a) (.t b))
abbrev qk (d:Nat)(o:BinOp)(a:Nat)(n:Int):lK:=zA d (.bin o (.t a) (kI n))
abbrev ql (d a:Nat):lK:=zA d (.lens (.t a))
abbrev qm (g:Nat)(b:Bool)(d a:Nat):lK:=zG g b d (.mv (.t a))
abbrev qc (a:Nat)(x y:dI):dI:=.cond (.t a) x y
abbrev qs (l:List lK)(m:List Nat)(x:dI):dI:=.seq (.reg l m) x
abbrev qr (l:List lK)(m:List Nat):dI:=.seq (.reg l m) .ret
abbrev PV : List Nat:=[0,1,2,3]
abbrev OE : List Nat:=[0,1,2,3,4]
abbrev OY : List Nat:=[0,1,2,3,4,5]
abbrev Wj : List Nat:=[0,1,2,3,4,5,6]
abbrev Oo : List Nat:=[0,1,2,3,4,5,6,7]
abbrev TY : List Nat:=[0,1,2,3,4,5,6,7,8]
abbrev FM : List Nat:=[0,1,2,3,4,5,6,7,8,9]
abbrev OD : List Nat:=[0,1,2,3,4,5,6,7,8,9,10]
abbrev Ur : List Nat:=[0,1,2,3,4,5,6,7,8,9,10,11]
abbrev agE : List Nat:=[0,1,2,3,4,5,6,7,8,9,10,11,12]
abbrev adL : List Nat:=[0,1,2,3,4,5,6,7,8,9,10,11,12,13]
abbrev aoV : List Nat:=[0,1,2,3,4,5,6,7,8,9,10,11,12,13,14]
abbrev aqb : List Nat:=[0,1,2,3,4,5,6,7,8,9,10,11,12,13,14,15]
abbrev aoW : List Nat:=[0,1,2,3,4,5,6,7,8,9,10,11,12,13,14,15,16]
abbrev anh : List Nat:=[0,1,2,3,4,5,6,7,8,9,10,11,12,13,14,15,16,17]
abbrev alf : List Nat:=[0,1,2,3,4,5,6,7,8,9,10,11,12,13,14,15,16,17,18]
abbrev alg : List Nat:=[0,1,2,3,4,5,6,7,8,9,10,11,12,13,14,15,16,17,18,19]
abbrev aoX : List Nat:=[0,1,2,3,4,5,6,7,8,9,10,11,12,13,14,15,16,17,18,19,20]
abbrev ajn : List Nat:=[0,1,2,3,4,5,6,7,8,9,10,11,12,13,14,15,16,17,18,19,20,21]
abbrev aoY : List Nat:=[0,1,2,3,4,5,6,7,8,9,10,11,12,13,14,15,16,17,18,19,20,21,22]
abbrev aqc : List Nat:=[0,1,2,3,4,5,6,7,8,9,10,11,12,13,14,15,16,17,18,19,20,21,22,23,24,25,26,27,28,29,30]
abbrev aqd : List Nat:=[0,1,2,3,4,5,6,7,8,9,10,11,12,13,14,15,16,17,18,19,20,21,22,23,24,25,26,27,28,29,30,31]
abbrev aqe : List Nat:=[0,1,2,3,4,5,6,7,8,9,10,11,12,13,14,15,16,17,18,19,20,21,22,23,24,25,26,27,28,29,30,31,32]
def C.ins (sz cb gr:Nat)(z:List Cell):dI:=(qs [zA 6 (.mv (.k (.nS sz)))] [0,1,2] (qs [zM 10 0,zM 11 1,zA 12 (.Bc sz (.t 10) (some (.t 11)) none)] [0,1,2] (qs [zM 13 2,qL 14 13,zM 7 14] [0,1,2,7] (.seq (qs [zM 15 7,qk 16 .eql 15 0] [0,1,2,7,16] (qc 16 (qr [zM 17 0,zM 6 17] [6]) .skip)) (qs [zM 18 0,qL 19 18,zM 8 19] [0,1,2,7,8] (.seq (qs [zM 20 1,zM 21 8,qb 22 .eql 20 21] [0,1,2,7,8,22] (qc 22 (qr [zM 23 0,zM 24 2,zA 25 (.abB 10 sz cb (.t 23) (.t 24)),zM 6 25] [6]) .skip)) (.seq (qs [zM 26 8,zM 27 7,qb 28 .add 26 27,zM 29 0,zA 30 (.afF (.t 29)),qb 31 .gtr 28 30] [0,1,2,7,8,31] (qc 31 (qs [zM 32 0,zM 33 1,zA 34 (.Bc sz (.t 32) none (some (.t 33))),zM 35 8,zM 36 7,qb 37 .add 35 36,zM 38 1,qb 39 .sub 37 38,zA 40 (.acm 11 sz cb z (.t 34) (.t 39)),zM 9 40] [0,1,2,7,9] (qs [zM 41 9,zM 42 1,zA 43 (.Bc sz (.t 41) (some (.t 42)) none),zM 44 2,zA 45 (.Wp sz (.t 43) (.t 44))] [0,1,7,9] (.seq (.uC [(zM 46 9,[]),(zM 47 1,[]),(zM 48 7,[]),(qb 49 .add 47 48,[1,2]),(zA 50 (.Bc sz (.t 46) (some (.t 49)) none),PV),(zM 51 0,[]),(zM 52 1,[]),(zA 53 (.Bc sz (.t 51) (some (.t 52)) none),[5,6]),(zA 54 (.Wp sz (.t 50) (.t 53)),Oo)] [9]) (qr [zM 55 9,zM 6 55] [6])))) .skip)) (qs [zM 56 0,zM 57 8,zM 58 7,qb 59 .add 57 58,zA 60 (.Bc sz (.t 56) none (some (.t 59))),zM 0 60] [0,1,2,7,8] (.seq (qs [zM 61 2,zM 62 0,zM 63 1,zM 64 7,qb 65 .add 63 64,zA 66 (.Bc sz (.t 62) (some (.t 65)) none),zA 67 (.ovl (.t 61) (.t 66)),qO 68 67] [0,1,2,7,8,68] (qc 68 (.seq (.uC [(zM 69 0,[]),(zM 70 1,[]),(zM 71 7,[]),(qb 72 .add 70 71,[1,2]),(zA 73 (.Bc sz (.t 69) (some (.t 72)) none),PV),(zM 74 0,[]),(zM 75 1,[]),(zA 76 (.Bc sz (.t 74) (some (.t 75)) none),[5,6]),(zA 77 (.Wp sz (.t 73) (.t 76)),Oo)] [0,1,2]) (qs [zM 78 0,zM 79 1,zA 80 (.Bc sz (.t 78) (some (.t 79)) none),zM 81 2,zA 82 (.Wp sz (.t 80) (.t 81))] [0] (qr [zM 83 0,zM 6 83] [6]))) .skip)) (qs [zM 84 0,zM 85 8,zA 86 (.Bc sz (.t 84) (some (.t 85)) none),zM 87 2,zA 88 (.Wp sz (.t 86) (.t 87))] [0,1,7] (qs [zM 89 0,zM 90 1,zA 91 (.Bc sz (.t 89) (some (.t 90)) none),zM 92 7,⟨none,some 93,.call gr [.t 91,.t 92]⟩] [0] (qr [zM 94 0,zM 6 94] [6]))))))))))))
def C.del (sz cb:Nat)(z:List Cell):dI:=(qs [zA 6 (.mv (.k (.nS sz)))] [0,1,2] (qs [zM 8 0,zM 9 1,zM 10 2,zM 11 0,qL 12 11,zA 13 (.sl3 sz (.t 8) (.t 9) (.t 10) (.t 12))] [0,1,2] (.seq (qs [zM 14 1,zM 15 2,qb 16 .eql 14 15] [0,1,2,16] (qc 16 (qr [zM 17 0,zM 6 17] [6]) .skip)) (qs [zM 18 0,qL 19 18,zM 7 19] [0,1,2,7] (.seq (.uC [(zM 20 0,[]),(zM 21 1,[]),(zA 22 (.Bc sz (.t 20) none (some (.t 21))),[0,1]),(zM 23 0,[]),(zM 24 2,[]),(zA 25 (.Bc sz (.t 23) (some (.t 24)) none),[3,4]),(zA 26 (.abB 10 sz cb (.t 22) (.t 25)),OY),(zM 0 26,Wj)] [0,7]) (qs [zM 27 0,zM 28 0,qL 29 28,zM 30 7,zA 31 (.Bc sz (.t 27) (some (.t 29)) (some (.t 30))),zS (.adM sz z (.t 31))] [0] (qr [zM 32 0,zM 6 32] [6])))))))
def C.cmp_isNaN_int : dI:=qs [qB 2 false] [0]<|qr [zM 3 0,zM 4 0,qb 5 .neq 3 4,zM 2 5] [2]
theorem K.cmp_isNaN_int : jJ pZ 226 1 0 C.cmp_isNaN_int [.tmp 2]=true:=lS
def C.cmp_Compare_int : dI:=qs [qI 4 0] [0,1]<|qs [zM 7 0,q1 8 226 7,zM 5 8] [0,1,5]<|qs [zM 9 1,q1 10 226 9,zM 6 10] [0,1,5,6]<|.seq (qs [zM 11 5] [0,1,6,11]<|qc 11 (.seq (qs [zM 12 6] [12]<|qc 12 (qr [qI 4 0] [4]) .skip)<|qr [qI 4 (-1)] [4]) .skip)<|.seq (qs [zM 13 6] [0,1,13]<|qc 13 (qr [qI 4 1] [4]) .skip)<|.seq (qs [zM 14 0,zM 15 1,qb 16 .lss 14 15] [0,1,16]<|qc 16 (qr [qI 4 (-1)] [4]) .skip)<|.seq (qs [zM 17 0,zM 18 1,qb 19 .gtr 17 18] [19]<|qc 19 (qr [qI 4 1] [4]) .skip)<|qr [qI 4 0] [4]
theorem K.cmp_Compare_int : jJ pZ 223 2 0 C.cmp_Compare_int [.tmp 4]=true:=lS
def C.cmp_isNaN_string : dI:=qs [qB 2 false] [0]<|qr [zM 3 0,zM 4 0,qb 5 .neq 3 4,zM 2 5] [2]
theorem K.cmp_isNaN_string : jJ pZ 206 1 0 C.cmp_isNaN_string [.tmp 2]=true:=lS
def C.cmp_Less_string : dI:=qs [qB 4 false] [0,1]<|qr [zM 5 0,q1 6 206 5,zM 7 6,qm 7 true 8 1,⟨(some (7,true)),some 9,.call 206 [.t 8]⟩,zG 7 true 10 (.not<|.t 9),qP 11 7 10,zM 12 11,qm 12 false 13 0,qm 12 false 14 1,zG 12 false 15 (.bin .lss (.t 13)<|.t 14),qQ 16 12 15,zM 4 16] [4]
theorem K.cmp_Less_string : jJ pZ 186 2 0 C.cmp_Less_string [.tmp 4]=true:=lS
def C.bC : dI:=qs [qX 1 10 0,qZ 2 11] [1,2]<|qs [qA 6 0 1,qF 7 1 6,qA 8 1 1,qF 9 1 8,qA 10 2 1,qF 11 1 10,zA 12 (.build zN [(0,1,.t 7),(1,1,.t 9),(2,1,.t 11)]),qZ 3 12,qS 5 3 12] [1,2,3]<|.cut (qs [qA 13 3 1,qF 14 1 13,qL 15 14,qk 16 .gtr 15 0] [1,2,3,16]<|qc 16 (qs [qA 17 3 1,qF 18 1 17,qL 19 18,zA 20 (.makes 13 1 16 [.str []] (.t 19)<|.t 19),qA 21 3 3,qU 1 21 20] [1,2,3]<|.reg [qA 22 3 3,qF 23 1 22,qA 24 3 1,qF 25 1 24,zA 26 (.copy 1 (.t 23)<|.t 25)] [1,2,3]) .skip)<|.seq (qs [qA 27 4 1,qF 28 1 27,qL 29 28,qk 30 .gtr 29 0] [1,2,3,30]<|qc 30 (qs [qA 31 4 1,qF 32 1 31,qL 33 32,zA 34 (.makes 14 5 80 [.lit (.int .i64 0),.lit (.int .i64 0),.str [],.sl 1 [],.sl 5 []] (.t 33)<|.t 33),qA 35 4 3,qU 1 35 34] [1,2,3]<|qs [qA 36 4 1,qF 37 1 36,qL 38 37,qI 39 0] [2,3,37,38,39]<|.block 0<|.loop<|qs [qb 40 .lss 39 38] [2,3,37,38,39,40]<|.seq (qc 40 .skip<|.exit 0)<|.seq (.block 1<|qs [zM 41 39,qD 42 5 37 39,qT 43 5 42,qZ 5 15,zM 4 41,qS 5 5 43] [2,3,4,5,37,38,39]<|.uC [(qA 44 4 3,[]),(qF 45 1 44,[0]),(zM 46 4,[]),(qT 47 5 5,[]),(q1 48 124 47,[3]),(qD 49 5 45 46,OE),(qS 5 49 48,OY)] [2,3,37,38,39])<|.reg [qk 50 .add 39 1,zM 39 50] [2,3,37,38,39]) .skip)<|qr [qT 51 5 3,qS 5 2 51] [2]
theorem K.bC : jJ pZ 124 1 0 C.bC [.cell 2 true 5]=true:=lS
def C.slices_isNaN_string : dI:=qs [qB 2 false] [0]<|qr [zM 3 0,zM 4 0,qb 5 .neq 3 4,zM 2 5] [2]
theorem K.slices_isNaN_string : jJ pZ 187 1 0 C.slices_isNaN_string [.tmp 2]=true:=lS
def C.slices_BinarySearch_string : dI:=qs [qI 4 0,qB 5 false] [0,1]<|qs [zM 10 0,qL 11 10,zM 6 11] [0,1,6]<|qs [zM 12 6,qI 7 0,zM 8 12] [0,1,6,7,8]<|.seq (.block 0<|.loop<|.seq (qs [zM 13 7,zM 14 8,qb 15 .lss 13 14] [0,1,6,7,8,15]<|qc 15 .skip<|.exit 0)<|.block 1<|qs [zM 16 7,zM 17 8,qb 18 .add 16 17,zA 19 (.Md .u64<|.t 18),zA 20 (.shf false (.t 19)<|.k<|.c<|.lit<|.int .u64 1),zA 21 (.Md .i64<|.t 20),zM 9 21] [0,1,6,7,8,9]<|qs [zM 22 0,zM 23 9,qD 24 1 22 23,qF 25 1 24,zM 26 1,q2 27 186 25 26] [0,1,6,7,8,9,27]<|qc 27 (.reg [zM 28 9,qk 29 .add 28 1,zM 7 29] [0,1,6,7,8])<|.reg [zM 30 9,zM 8 30] [0,1,6,7,8])<|qr [zM 31 7,zM 32 7,zM 33 6,qb 34 .lss 32 33,zM 35 34,qm 35 true 36 0,qm 35 true 37 7,zG 35 true 38 (.Aj 1 (.t 36)<|.t 37),zG 35 true 39 (.load false 1<|.t 38),qm 35 true 40 1,zG 35 true 41 (.bin .eql (.t 39)<|.t 40),qm 35 true 42 41,qm 42 false 43 0,qm 42 false 44 7,zG 42 false 45 (.Aj 1 (.t 43)<|.t 44),zG 42 false 46 (.load false 1<|.t 45),⟨(some (42,false)),some 47,.call 187 [.t 46]⟩,qm 42 false 48 47,qm 48 true 49 1,⟨(some (48,true)),some 50,.call 187 [.t 49]⟩,zG 42 false 51 (.pick (.t 48) (.t 50)<|kB false),zG 35 true 52 (.pick (.t 42) (kB true)<|.t 51),qP 53 35 52,zM 4 31,zM 5 53] [4,5]
theorem K.slices_BinarySearch_string : jJ pZ 171 2 0 C.slices_BinarySearch_string [.tmp 4,.tmp 5]=true:=lS
def C.gU : dI:=qs [qX 2 10 0,qI 4 0,qB 5 false] [1,2]<|.seq (qs [qA 7 0 2,qF 8 1 7] [1,2,8]<|.block 0<|qs [qk 10 .eql 8 4,zM 9 10] [1,2,8,9]<|qc 9 (qr [qA 11 3 2,qF 12 1 11,zM 13 1,q2 14 171 12 13,qE 15 14 0,qE 16 14 1,zM 4 15,zM 5 16] [4,5])<|qs [qk 18 .eql 8 3,zM 17 18] [1,2,17]<|qc 17 (qs [qA 19 4 2,qF 20 1 19,qL 21 20,qI 22 0] [1,21,22]<|.block 1<|.loop<|qs [qb 23 .lss 22 21] [1,21,22,23]<|.seq (qc 23 .skip<|.exit 1)<|.seq (.block 2<|qs [zM 24 22,zM 6 24] [1,6,21,22]<|qs [zM 25 6,q1 26 148 25,zM 27 1,qb 28 .eql 26 27] [1,6,21,22,28]<|qc 28 (qr [zM 29 6,zM 4 29,qB 5 true] [4,5]) .skip)<|.reg [qk 30 .add 22 1,zM 22 30] [1,21,22]) .skip)<|qr [qI 4 0,qB 5 false] [4,5]
theorem K.gU : jJ pZ 201 2 0 C.gU [.tmp 4,.tmp 5]=true:=lS
def C.je : dI:=C.ins 5 80 210 [.lit (.int .i64 0),.lit (.int .i64 0),.str [],.sl 1 [],.sl 5 []]
theorem K.je : LZ pZ 189 3 2 C.je [.tmp 6]=true:=lS
def C.mZ : dI:=C.ins 1 16 208 [.str []]
theorem K.mZ : LZ pZ 188 3 2 C.mZ [.tmp 6]=true:=lS
def C.pW : dI:=qs [qX 5 10 2] [0,1,5]<|qs [zM 9 0,qN 10 9,qA 11 3 10,qF 12 1 11,zM 13 1,q2 14 171 12 13,zM 8 14,qE 15 8 0,qE 16 8 1,zM 6 15,zM 7 16] [0,1,5,6,7]<|.seq (qs [zM 17 7] [0,1,5,6,17]<|qc 17 (.seq (.uC [(zM 18 0,[]),(qN 19 18,[0]),(qA 20 4 19,[0,1]),(qF 21 1 20,[0,1,2]),(zM 22 6,[]),(qT 23 5 5,[]),(qD 24 5 21 22,OY),(qS 5 24 23,Wj)] []) .ret) .skip)<|qs [zM 25 0,zM 26 0,qN 27 26,qA 28 3 27,qF 29 1 28,zM 30 6,zM 31 1,zA 32 (.uB 11 1 1 [.str []] [(0,.t 31)]),q3 33 188 29 30 32,qN 34 25,qA 35 3 34,qU 1 35 33] [0,5,6]<|.uC [(zM 36 0,[]),(zM 37 0,[]),(qN 38 37,[1]),(qA 39 4 38,[1,2]),(qF 40 1 39,[1,2,3]),(zM 41 6,[]),(qT 42 5 5,[]),(zA 43 (.uB 12 5 1 [.lit (.int .i64 0),.lit (.int .i64 0),.str [],.sl 1 [],.sl 5 []] [(0,.t 42)]),[6]),(q3 44 189 40 41 43,[1,2,3,4,5,6,7]),(qN 45 36,TY),(qA 46 4 45,FM),(qU 1 46 44,OD)] []
theorem K.pW : jJ pZ 172 3 3 C.pW []=true:=lS
def C.lX : dI:=qs [qX 3 10 0,qX 5 11 2,qZ 6 12,qB 7 false] [1,3,5,6]<|qs [qT 11 5 3,q1 12 124 11,qZ 8 13,qS 5 8 12] [1,3,5,6,8]<|.seq (qs [qA 13 0 3,qF 14 1 13] [1,3,5,6,8,14]<|.block 0<|qs [qk 16 .eql 14 4,zM 15 16] [1,3,5,6,8,14,15]<|qc 15 (qs [zM 17 1,qT 18 5 5,q1 19 124 18,q3 20 172 8 17 19] [6,8]<|qr [qT 21 5 8,qS 5 6 21,qB 7 true] [6,7])<|qs [qk 23 .eql 14 3,zM 22 23] [1,3,5,6,8,22]<|qc 22 (qs [qT 25 5 3,zM 26 1,q2 27 201 25 26,zM 24 27,qE 28 24 0,qE 29 24 1,zM 9 28,zM 10 29] [1,3,5,6,8,9,10]<|.cut (qs [zM 30 10,qO 31 30,zM 32 31,qm 32 true 33 1,zG 32 true 34 (.bin .eql (.t 33)<|.k<|.c<|.str [45]),qm 32 true 35 34,qm 35 false 36 1,zG 35 false 37 (.nK 4<|.t 3),zG 35 false 38 (.load false 1<|.t 37),zG 35 false 39 (.len<|.t 38),⟨(some (35,false)),some 40,.call 148 [.t 39]⟩,zG 35 false 41 (.bin .eql (.t 36)<|.t 40),zG 32 true 42 (.pick (.t 35) (kB true)<|.t 41),qP 43 32 42] [3,5,6,8,9,10,43]<|qc 43 (.reg [qA 44 4 3,qF 45 1 44,qL 46 45,zM 9 46,qB 10 true] [5,6,8,9,10]) .skip)<|.seq (qs [zM 47 10,qO 48 47] [5,6,8,9,48]<|qc 48 (qr [zA 49 (.build zN []),qS 5 6 49,qB 7 false] [6,7]) .skip)<|.seq (.uC [(qA 50 4 8,[]),(qF 51 1 50,[0]),(zM 52 9,[]),(qT 53 5 5,[]),(q1 54 124 53,[3]),(zA 55 (.uB 14 5 1 [.lit (.int .i64 0),.lit (.int .i64 0),.str [],.sl 1 [],.sl 5 []] [(0,.t 54)]),[3,4]),(q3 56 189 51 52 55,OY),(qA 57 4 8,Wj),(qU 1 57 56,Oo)] [6,8])<|qr [qT 58 5 8,qS 5 6 58,qB 7 true] [6,7]) .skip)<|qr [zA 59 (.build zN []),qS 5 6 59,qB 7 false] [6,7]
theorem K.lX : jJ pZ 199 3 0 C.lX [.cell 6 true 5,.tmp 7]=true:=lS
def C.vC : dI:=qs [qX 4 10 0,qZ 5 11,qB 6 false] [1,2,3,4,5]<|.seq (.uC [(qT 7 5 4,[]),(qF 8 1 1,[]),(qF 9 1 2,[]),(qD 10 1 8 9,[1,2]),(qF 11 1 10,[1,2,3]),(qT 12 5 3,[]),(q3 13 199 7 11 12,OY),(qE 14 13 0,Wj),(qE 15 13 1,Wj),(qS 5 5 14,TY),(zM 6 15,FM)] [5,6]) .ret
theorem K.vC : jJ pZ 198 4 3 C.vC [.cell 5 true 5,.tmp 6]=true:=lS
def C.gK : dI:=qs [qB 2 false] [0]<|.seq (qs [zM 4 0,ql 5 4,qk 6 .gtr 5 12] [0,6]<|qc 6 (qr [qB 2 false] [2]) .skip)<|.seq (qs [qI 3 0] [0,3]<|.block 0<|.loop<|.seq (qs [zM 7 3,zM 8 0,ql 9 8,qb 10 .lss 7 9] [0,3,10]<|qc 10 .skip<|.exit 0)<|.seq (.block 1<|qs [zM 13 0,zM 14 3,zA 15 (.idxs (.t 13)<|.t 14),zA 16 (.bin .lss (.t 15)<|.k<|.c<|.lit<|.int .u8 32),zM 17 16,qm 17 false 18 0,qm 17 false 19 3,zG 17 false 20 (.idxs (.t 18)<|.t 19),zG 17 false 21 (.bin .gtr (.t 20)<|.k<|.c<|.lit<|.int .u8 126),qQ 22 17 21] [0,3,22]<|qc 22 (qr [qB 2 false] [2]) .skip)<|.reg [zM 11 3,qk 12 .add 11 1,zM 3 12] [0,3])<|qr [qB 2 true] [2]
theorem K.gK : jJ pZ 163 1 0 C.gK [.tmp 2]=true:=lS
def C.kM : dI:=qs [qB 2 false] [0]<|.seq (qs [zM 5 0,qL 6 5,qk 7 .gtr 6 6] [0,7]<|qc 7 (qr [qB 2 false] [2]) .skip)<|.seq (qs [zM 8 0,qL 9 8,qI 10 0] [0,8,9,10]<|.block 0<|.loop<|qs [qb 11 .lss 10 9] [0,8,9,10,11]<|.seq (qc 11 .skip<|.exit 0)<|.seq (.block 1<|qs [zM 12 10,qD 13 1 8 10,qF 14 1 13,zM 3 12,zM 4 14] [0,3,4,8,9,10]<|qs [zM 15 4,q1 16 163 15,qO 17 16,zM 18 17,qm 18 false 19 3,zG 18 false 20 (.bin .gtr (.t 19)<|kI 0),qm 18 false 21 20,qm 21 true 22 0,qm 21 true 23 3,zG 21 true 24 (.bin .sub (.t 23)<|kI 1),zG 21 true 25 (.Aj 1 (.t 22)<|.t 24),zG 21 true 26 (.load false 1<|.t 25),qm 21 true 27 4,zG 21 true 28 (.bin .geq (.t 26)<|.t 27),zG 18 false 29 (.pick (.t 21) (.t 28)<|kB false),qQ 30 18 29] [0,8,9,10,30]<|qc 30 (qr [qB 2 false] [2]) .skip)<|.reg [qk 31 .add 10 1,zM 10 31] [0,8,9,10])<|qr [qB 2 true] [2]
theorem K.kM : jJ pZ 164 1 0 C.kM [.tmp 2]=true:=lS
def C.gV : dI:=qs [qX 1 10 0,qB 2 false] [1]<|.cut (qs [qA 3 0 1,qF 4 1 3,qk 5 .neq 4 1,zM 6 5,zG 6 true 7 (.nK 1<|.t 1),zG 6 true 8 (.load false 1<|.t 7),zG 6 true 9 (.bin .neq (.t 8)<|kI 0),qP 10 6 9,zM 11 10,zG 11 false 12 (.nK 0<|.t 1),zG 11 false 13 (.load false 1<|.t 12),zG 11 false 14 (.bin .neq (.t 13)<|kI 2),qm 11 false 15 14,zG 15 true 16 (.nK 2<|.t 1),zG 15 true 17 (.load false 1<|.t 16),zG 15 true 18 (.bin .neq (.t 17)<|.k<|.c<|.str []),zG 11 false 19 (.pick (.t 15) (.t 18)<|kB false),qQ 20 11 19] [1,20]<|qc 20 (qr [qB 2 false] [2]) .skip)<|.seq (qs [qA 21 0 1,qF 22 1 21,qk 23 .neq 22 4,zM 24 23,zG 24 true 25 (.nK 3<|.t 1),zG 24 true 26 (.load false 1<|.t 25),zG 24 true 27 (.len<|.t 26),zG 24 true 28 (.bin .gtr (.t 27)<|kI 0),qP 29 24 28] [1,29]<|qc 29 (qr [qB 2 false] [2]) .skip)<|.seq (qs [qA 30 0 1,qF 31 1 30] [1,31]<|.block 0<|qs [qk 33 .eql 31 0,zM 32 33] [1,31,32]<|qc 32 (qr [qA 34 4 1,qF 35 1 34,qL 36 35,qk 37 .eql 36 0,zM 2 37] [2])<|qs [qk 39 .eql 31 1,zM 38 39] [1,31,38]<|qc 38 (qr [qA 40 1 1,qF 41 1 40,qk 42 .geq 41 (-999999),zM 43 42,zG 43 true 44 (.nK 1<|.t 1),zG 43 true 45 (.load false 1<|.t 44),zG 43 true 46 (.bin .leq (.t 45)<|kI 999999),qP 47 43 46,zM 48 47,zG 48 true 49 (.nK 4<|.t 1),zG 48 true 50 (.load false 1<|.t 49),zG 48 true 51 (.len<|.t 50),zG 48 true 52 (.bin .eql (.t 51)<|kI 0),qP 53 48 52,zM 2 53] [2])<|qs [qk 55 .eql 31 2,zM 54 55] [1,31,54]<|qc 54 (qr [qA 56 2 1,qF 57 1 56,q1 58 163 57,zM 59 58,zG 59 true 60 (.nK 4<|.t 1),zG 59 true 61 (.load false 1<|.t 60),zG 59 true 62 (.len<|.t 61),zG 59 true 63 (.bin .eql (.t 62)<|kI 0),qP 64 59 63,zM 2 64] [2])<|qs [qk 66 .eql 31 3,zM 65 66] [1,31,65]<|qc 65 (qr [qA 67 4 1,qF 68 1 67,qL 69 68,qk 70 .leq 69 6,zM 2 70] [2])<|qs [qk 72 .eql 31 4,zM 71 72] [1,71]<|qc 71 (qr [qA 73 3 1,qF 74 1 73,q1 75 164 74,zM 76 75,zG 76 true 77 (.nK 4<|.t 1),zG 76 true 78 (.load false 1<|.t 77),zG 76 true 79 (.len<|.t 78),zG 76 true 80 (.nK 3<|.t 1),zG 76 true 81 (.load false 1<|.t 80),zG 76 true 82 (.len<|.t 81),zG 76 true 83 (.bin .eql (.t 79)<|.t 82),qP 84 76 83,zM 2 84] [2]) .skip)<|qr [qB 2 false] [2]
theorem K.gV : jJ pZ 144 1 0 C.gV [.tmp 2]=true:=lS
def C.gB : dI:=qs [qX 2 10 0,qI 4 0,qI 5 0,qB 6 false] [1,2]<|.seq (qs [zM 12 1,qk 13 .gtr 12 5,zM 14 13,zG 14 false 15 (.load true 5<|.t 2),⟨(some (14,false)),some 16,.call 144 [.t 15]⟩,zG 14 false 17 (.not<|.t 16),qQ 18 14 17] [1,2,18]<|qc 18 (qr [qI 4 0,qI 5 0,qB 6 false] [4,5,6]) .skip)<|qs [qI 4 1,qI 5 1] [1,2,4,5]<|.seq (qs [qA 19 4 2,qF 20 1 19,qL 21 20,qI 22 0] [1,4,5,20,21,22]<|.block 0<|.loop<|qs [qb 23 .lss 22 21] [1,4,5,20,21,22,23]<|.seq (qc 23 .skip<|.exit 0)<|.seq (.block 1<|qs [qD 24 5 20 22,qT 25 5 24,qZ 8 11,qS 5 8 25] [1,4,5,8,20,21,22]<|qs [qT 27 5 8,zM 28 1,qk 29 .add 28 1,q2 30 119 27 29,zM 26 30,qE 31 26 0,qE 32 26 1,qE 33 26 2,zM 9 31,zM 10 32,zM 11 33] [1,4,5,9,10,11,20,21,22]<|.seq (qs [zM 34 11,qO 35 34] [1,4,5,9,10,20,21,22,35]<|qc 35 (qr [qI 4 0,qI 5 0,qB 6 false] [4,5,6]) .skip)<|qs [zM 36 4,zM 37 9,qb 38 .add 36 37,zM 4 38] [1,4,5,10,20,21,22]<|.reg [zM 39 5,zM 40 10,qk 41 .add 40 1,zA 42 (.max (.t 39)<|.t 41),zM 5 42] [1,4,5,20,21,22])<|.reg [qk 43 .add 22 1,zM 22 43] [1,4,5,20,21,22])<|qr [zM 44 4,zM 45 5,zM 4 44,zM 5 45,qB 6 true] [4,5,6]
theorem K.gB : jJ pZ 119 2 0 C.gB [.tmp 4,.tmp 5,.tmp 6]=true:=lS
def C.dm : dI:=qs [qX 1 10 0,qB 2 false] [1]<|qs [qT 7 5 1,⟨none,some 8,.call 119 [.t 7,kI 1]⟩,zM 6 8,qE 9 6 0,qE 10 6 1,qE 11 6 2,zM 3 9,zM 4 10,zM 5 11] [3,5]<|qr [zM 12 5,zM 13 12,qm 13 true 14 3,zG 13 true 15 (.bin .leq (.t 14)<|kI 40),qP 16 13 15,zM 2 16] [2]
theorem K.dm : jJ pZ 92 1 0 C.dm [.tmp 2]=true:=lS
def C.Dk : dI:=qs [qX 3 10 0,qZ 6 11,qB 7 false] [1,2,3,6]<|.seq (qs [zM 12 1,qL 13 12,qk 14 .eql 13 0] [1,2,3,6,14]<|qc 14 (qr [zM 15 2,qT 16 5 3,⟨none,some 17,.IX (.t 15) [.t 16]⟩,qE 18 17 0,qE 19 17 1,qS 5 6 18,zM 7 19] [6,7]) .skip)<|.seq (.uC [(qT 21 5 3,[]),(zM 22 1,[]),(zA 23 (.Aj 1 (.t 22)<|kI 0),[1]),(qF 24 1 23,[1,2]),(q2 25 201 21 24,PV),(zM 20 25,OE),(qE 26 20 0,OY),(qE 27 20 1,OY),(zM 8 26,Wj),(zM 9 27,TY)] [1,2,3,6,8,9])<|.seq (qs [zM 28 9,qO 29 28] [1,2,3,6,8,29]<|qc 29 (qr [zA 30 (.build zN []),qS 5 6 30,qB 7 false] [6,7]) .skip)<|.seq (.uC [(qA 32 4 3,[]),(qF 33 1 32,[0]),(zM 34 8,[]),(qD 35 5 33 34,[0,1,2]),(qT 36 5 35,PV),(zM 37 1,[]),(zA 38 (.IB 1 (.t 37) (some<|kI 1) none),[5]),(zM 39 2,[]),(q3 40 197 36 38 39,Oo),(zM 31 40,TY),(qE 41 31 0,FM),(qE 42 31 1,FM),(qZ 10 12,[]),(qS 5 10 41,[0,1,2,3,4,5,6,7,8,9,10,12]),(zM 9 42,adL)] [3,6,8,9,10])<|.seq (qs [zM 43 9,qO 44 43] [3,6,8,10,44]<|qc 44 (qr [zA 45 (.build zN []),qS 5 6 45,qB 7 false] [6,7]) .skip)<|qs [qT 46 5 3,q1 47 124 46,qZ 11 13,qS 5 11 47] [6,8,10,11]<|qs [qA 48 4 11,qF 49 1 48,zM 50 8,qT 51 5 10,qD 52 5 49 50,qS 5 52 51] [6,11]<|qr [qT 53 5 11,qS 5 6 53,qB 7 true] [6,7]
theorem K.jE : jJ pZ 197 3 3 C.Dk [.cell 6 true 5,.tmp 7]=true:=lS
def C.pV : dI:=qs [qX 2 10 0,qZ 4 11,qB 5 false] [1,2,4]<|.seq (qs [zM 6 1,qO 7 6,zM 8 7,zG 8 false 9 (.load true 5<|.t 2),⟨(some (8,false)),some 10,.call 92 [.t 9]⟩,zG 8 false 11 (.not<|.t 10),qQ 12 8 11] [2,4,12]<|qc 12 (qr [zA 13 (.build zN []),qS 5 4 13,qB 5 false] [4,5]) .skip)<|qr [qT 14 5 2,qS 5 4 14,qB 5 true] [4,5]
theorem K.pV : jJ pZ 154 2 0 C.pV [.cell 4 true 5,.tmp 5]=true:=lS
def C.jq : dI:=qs [qB 2 false] [0]<|.seq (qs [zM 5 0,qL 6 5,qk 7 .gtr 6 5] [0,7]<|qc 7 (qr [qB 2 false] [2]) .skip)<|.seq (qs [zM 8 0,qL 9 8,qI 10 0] [8,9,10]<|.block 0<|.loop<|qs [qb 11 .lss 10 9] [8,9,10,11]<|.seq (qc 11 .skip<|.exit 0)<|.seq (.block 1<|qs [qD 12 1 8 10,qF 13 1 12,zM 4 13] [4,8,9,10]<|qs [zM 14 4,q1 15 163 14,qO 16 15] [8,9,10,16]<|qc 16 (qr [qB 2 false] [2]) .skip)<|.reg [qk 17 .add 10 1,zM 10 17] [8,9,10])<|qr [qB 2 true] [2]
theorem K.jq : jJ pZ 145 1 0 C.jq [.tmp 2]=true:=lS
def C.oQ : dI:=qs [qX 3 10 0,qX 4 11 1,qX 5 12 2,qZ 6 13,qB 7 false] [3,4,5,6]<|.seq (qs [qT 9 5 3,q1 10 92 9,qO 11 10,zM 12 11,zG 12 false 13 (.load false 1<|.t 4),⟨(some (12,false)),some 14,.call 145 [.t 13]⟩,zG 12 false 15 (.not<|.t 14),qQ 16 12 15,zM 17 16,zG 17 false 18 (.load true 5<|.t 5),⟨(some (17,false)),some 19,.call 92 [.t 18]⟩,zG 17 false 20 (.not<|.t 19),qQ 21 17 20] [3,4,5,6,21]<|qc 21 (qr [zA 22 (.build zN []),qS 5 6 22,qB 7 false] [6,7]) .skip)<|.seq (qs [qF 23 1 4,qL 24 23,qk 25 .eql 24 0] [3,4,5,6,25]<|qc 25 (qr [qT 26 5 5,q1 27 124 26,qS 5 6 27,qB 7 true] [6,7]) .skip)<|qs [qF 28 1 4,qL 29 28,qk 30 .sub 29 1,zA 8 (.alloc 14 [qx 0]),qU 1 8 30] [3,4,5,6,8]<|.seq (.uC [(qT 31 5 3,[]),(qF 32 1 4,[]),(qF 33 1 8,[]),(zA 34 (.IB 1 (.t 32) none<|some<|.t 33),[1,2]),(zA 35 (.Zb 198 [.t 4,.t 8,.t 5]),[]),(q3 36 197 31 34 35,OE),(qE 37 36 0,OY),(qE 38 36 1,OY),(q2 39 154 37 38,Oo),(qE 40 39 0,TY),(qE 41 39 1,TY),(qS 5 6 40,OD),(zM 7 41,Ur)] [6,7]) .ret
theorem K.oQ : jJ pZ 178 3 0 C.oQ [.cell 6 true 5,.tmp 7]=true:=lS
def C.kN : dI:=qs [qX 2 10 0,qZ 4 11,qB 5 false] [1,2,4]<|.seq (qs [zM 10 1,qL 11 10,qI 12 0] [2,4,10,11,12]<|.block 0<|.loop<|qs [qb 13 .lss 12 11] [2,4,10,11,12,13]<|.seq (qc 13 .skip<|.exit 0)<|.seq (.block 1<|qs [qD 14 1 10 12,qF 15 1 14,zM 7 15] [2,4,7,10,11,12]<|qs [qT 17 5 2,zM 18 7,q2 19 201 17 18,zM 16 19,qE 20 16 0,qE 21 16 1,zM 8 20,zM 9 21] [2,4,8,9,10,11,12]<|.seq (qs [zM 22 9,qO 23 22] [2,4,8,10,11,12,23]<|qc 23 (qr [zA 24 (.build zN []),qS 5 4 24,qB 5 false] [4,5]) .skip)<|.reg [qA 25 4 2,qF 26 1 25,zM 27 8,qD 28 5 26 27,qT 29 5 28,qS 5 2 29] [2,4,10,11,12])<|.reg [qk 30 .add 12 1,zM 12 30] [2,4,10,11,12])<|qr [qT 31 5 2,qS 5 4 31,qB 5 true] [4,5]
theorem K.kN : jJ pZ 204 2 0 C.kN [.cell 4 true 5,.tmp 5]=true:=lS
def C.uP : dI:=qs [qX 2 10 0,qZ 4 11,qB 5 false] [1,2,4]<|.seq (qs [qT 8 5 2,q1 9 92 8,qO 10 9,zM 11 10,qm 11 false 12 1,⟨(some (11,false)),some 13,.call 145 [.t 12]⟩,zG 11 false 14 (.not<|.t 13),qQ 15 11 14] [1,2,4,15]<|qc 15 (qr [zA 16 (.build zN []),qS 5 4 16,qB 5 false] [4,5]) .skip)<|qs [qT 18 5 2,zM 19 1,q2 20 204 18 19,zM 17 20,qE 21 17 0,qE 22 17 1,qZ 6 12,qS 5 6 21,zM 7 22] [4,6,7]<|.seq (qs [zM 23 7,qO 24 23] [4,6,24]<|qc 24 (qr [zA 25 (.build zN []),qS 5 4 25,qB 5 false] [4,5]) .skip)<|qr [qT 26 5 6,q1 27 124 26,qS 5 4 27,qB 5 true] [4,5]
theorem K.uP : jJ pZ 182 2 0 C.uP [.cell 4 true 5,.tmp 5]=true:=lS
def C.jW : dI:=C.del 5 80 [.lit (.int .i64 0),.lit (.int .i64 0),.str [],.sl 1 [],.sl 5 []]
theorem K.jW : LZ pZ 185 3 1 C.jW [.tmp 6]=true:=lS
def C.slices_Delete_string : dI:=C.del 1 16 [.str []]
theorem K.slices_Delete_string : LZ pZ 184 3 1 C.slices_Delete_string [.tmp 6]=true:=lS
def C.jo : dI:=qs [qX 3 10 0,qZ 4 11,qB 5 false] [1,2,3,4]<|.seq (.uC [(qT 10 5 3,[]),(qF 11 1 1,[]),(qF 12 1 2,[]),(qD 13 1 11 12,[1,2]),(qF 14 1 13,[1,2,3]),(q2 15 201 10 14,OE),(zM 9 15,OY),(qE 16 9 0,Wj),(qE 17 9 1,Wj),(zM 6 16,Oo),(zM 7 17,FM)] [3,4,6,7])<|.seq (qs [zM 18 7,qO 19 18] [3,4,6,19]<|qc 19 (qr [zA 20 (.build zN []),qS 5 4 20,qB 5 false] [4,5]) .skip)<|qs [qT 21 5 3,q1 22 124 21,qZ 8 12,qS 5 8 22] [3,4,6,8]<|.cut (qs [qA 23 0 3,qF 24 1 23,qk 25 .eql 24 4] [4,6,8,25]<|qc 25 (.reg [qA 26 3 8,qF 27 1 26,zM 28 6,zM 29 6,qk 30 .add 29 1,q3 31 184 27 28 30,qA 32 3 8,qU 1 32 31] [4,6,8]) .skip)<|qs [qA 33 4 8,qF 34 1 33,zM 35 6,zM 36 6,qk 37 .add 36 1,q3 38 185 34 35 37,qA 39 4 8,qU 1 39 38] [4,8]<|qr [qT 40 5 8,qS 5 4 40,qB 5 true] [4,5]
theorem K.jo : jJ pZ 200 3 2 C.jo [.cell 4 true 5,.tmp 5]=true:=lS
theorem K.ja : jJ pZ 197 3 2 C.Dk [.cell 6 true 5,.tmp 7]=true:=lS
def C.mF : dI:=qs [qX 2 10 0,qX 3 11 1,qZ 4 12,qB 5 false] [2,3,4]<|.seq (qs [qT 7 5 2,q1 8 92 7,qO 9 8,zM 10 9,zG 10 false 11 (.load false 1<|.t 3),⟨(some (10,false)),some 12,.call 145 [.t 11]⟩,zG 10 false 13 (.not<|.t 12),qQ 14 10 13,zM 15 14,zG 15 false 16 (.load false 1<|.t 3),zG 15 false 17 (.len<|.t 16),zG 15 false 18 (.bin .eql (.t 17)<|kI 0),qQ 19 15 18] [2,3,4,19]<|qc 19 (qr [zA 20 (.build zN []),qS 5 4 20,qB 5 false] [4,5]) .skip)<|qs [qF 21 1 3,qL 22 21,qk 23 .sub 22 1,zA 6 (.alloc 13 [qx 0]),qU 1 6 23] [2,3,4,6]<|.seq (.uC [(qT 24 5 2,[]),(qF 25 1 3,[]),(qF 26 1 6,[]),(zA 27 (.IB 1 (.t 25) none<|some<|.t 26),[1,2]),(zA 28 (.Zb 200 [.t 3,.t 6]),[]),(q3 29 197 24 27 28,OE),(qE 30 29 0,OY),(qE 31 29 1,OY),(qS 5 4 30,Oo),(zM 5 31,TY)] [4,5]) .ret
theorem K.mF : jJ pZ 179 2 0 C.mF [.cell 4 true 5,.tmp 5]=true:=lS
def C.vF : dI:=qs [qX 2 10 0,qZ 3 11,qB 4 false] [1,3]<|qr [qT 5 5 1,q1 6 124 5,qS 5 3 6,qB 4 true] [3,4]
theorem K.vF : jJ pZ 202 2 1 C.vF [.cell 3 true 5,.tmp 4]=true:=lS
theorem K.jF : jJ pZ 197 3 1 C.Dk [.cell 6 true 5,.tmp 7]=true:=lS
def C.vP : dI:=qs [qX 3 10 0,qX 5 11 2,qZ 6 12,qB 7 false] [1,3,5,6]<|.seq (qs [qT 8 5 3,q1 9 92 8,qO 10 9,zM 11 10,qm 11 false 12 1,⟨(some (11,false)),some 13,.call 145 [.t 12]⟩,zG 11 false 14 (.not<|.t 13),qQ 15 11 14,zM 16 15,zG 16 false 17 (.load true 5<|.t 5),⟨(some (16,false)),some 18,.call 92 [.t 17]⟩,zG 16 false 19 (.not<|.t 18),qQ 20 16 19] [1,3,5,6,20]<|qc 20 (qr [zA 21 (.build zN []),qS 5 6 21,qB 7 false] [6,7]) .skip)<|qr [qT 22 5 3,zM 23 1,zA 24 (.Zb 202 [.t 5]),q3 25 197 22 23 24,qE 26 25 0,qE 27 25 1,q2 28 154 26 27,qE 29 28 0,qE 30 28 1,qS 5 6 29,zM 7 30] [6,7]
theorem K.vP : jJ pZ 180 3 0 C.vP [.cell 6 true 5,.tmp 7]=true:=lS
def C.vK : dI:=qs [qX 1 10 0,qB 2 false] [1]<|qr [qA 3 0 1,qF 4 1 3,qk 5 .geq 4 1,zM 6 5,zG 6 true 7 (.nK 0<|.t 1),zG 6 true 8 (.load false 1<|.t 7),zG 6 true 9 (.bin .leq (.t 8)<|kI 6),qP 10 6 9,zM 11 10,zG 11 true 12 (.nK 1<|.t 1),zG 11 true 13 (.load false 1<|.t 12),⟨(some (11,true)),some 14,.call 145 [.t 13]⟩,qP 15 11 14,zM 16 15,zG 16 true 17 (.nK 2<|.t 1),zG 16 true 18 (.load false 1<|.t 17),⟨(some (16,true)),some 19,.call 145 [.t 18]⟩,qP 20 16 19,zM 21 20,zG 21 true 22 (.nK 3<|.t 1),zG 21 true 23 (.load true 5<|.t 22),⟨(some (21,true)),some 24,.call 92 [.t 23]⟩,qP 25 21 24,zM 2 25] [2]
theorem K.vK : jJ pZ 120 1 0 C.vK [.tmp 2]=true:=lS
def C.slices_Equal_string : dI:=qs [qB 4 false] [0,1]<|.seq (qs [zM 6 0,qL 7 6,zM 8 1,qL 9 8,qb 10 .neq 7 9] [0,1,10]<|qc 10 (qr [qB 4 false] [4]) .skip)<|.seq (qs [zM 11 0,qL 12 11,qI 13 0] [0,1,12,13]<|.block 0<|.loop<|qs [qb 14 .lss 13 12] [0,1,12,13,14]<|.seq (qc 14 .skip<|.exit 0)<|.seq (.block 1<|qs [zM 15 13,zM 5 15] [0,1,5,12,13]<|.seq (.uC [(zM 16 0,[]),(zM 17 5,[]),(qD 18 1 16 17,[0,1]),(qF 19 1 18,[0,1,2]),(zM 20 1,[]),(zM 21 5,[]),(qD 22 1 20 21,[4,5]),(qF 23 1 22,[4,5,6]),(qb 24 .neq 19 23,Oo)] [0,1,12,13,24])<|qc 24 (qr [qB 4 false] [4]) .skip)<|.reg [qk 25 .add 13 1,zM 13 25] [0,1,12,13])<|qr [qB 4 true] [4]
theorem K.slices_Equal_string : jJ pZ 203 2 0 C.slices_Equal_string [.tmp 4]=true:=lS
def C.uJ : dI:=qs [qX 3 10 0,qZ 6 11,qB 7 false] [1,2,3,6]<|qs [qT 12 5 3,zM 13 1,q2 14 182 12 13,zM 11 14,qE 15 11 0,qE 16 11 1,qZ 8 12,qS 5 8 15,zM 9 16] [1,2,3,6,8,9]<|.seq (qs [zM 17 9,qO 18 17] [1,2,3,6,8,18]<|qc 18 (qr [zA 19 (.build zN []),qS 5 6 19,qB 7 false] [6,7]) .skip)<|.seq (qs [zM 20 2,zM 21 1,q2 22 203 20 21] [1,2,3,6,8,22]<|qc 22 (qr [qT 23 5 3,q1 24 124 23,qS 5 6 24,qB 7 true] [6,7]) .skip)<|.seq (qs [zM 25 2,qL 26 25,zM 27 1,qL 28 27,qb 29 .gtr 26 28,zM 30 29,qm 30 true 31 2,qm 30 true 32 1,zG 30 true 33 (.len<|.t 32),zG 30 true 34 (.IB 1 (.t 31) none<|some<|.t 33),qm 30 true 35 1,⟨(some (30,true)),some 36,.call 203 [.t 34,.t 35]⟩,qP 37 30 36] [1,2,3,6,8,37]<|qc 37 (qr [zA 38 (.build zN []),qS 5 6 38,qB 7 false] [6,7]) .skip)<|qs [qT 40 5 3,zM 41 1,q2 42 179 40 41,zM 39 42,qE 43 39 0,qE 44 39 1,qZ 10 13,qS 5 10 43,zM 9 44] [2,6,8,9,10]<|.seq (qs [zM 45 9,qO 46 45] [2,6,8,10,46]<|qc 46 (qr [zA 47 (.build zN []),qS 5 6 47,qB 7 false] [6,7]) .skip)<|qr [qT 48 5 10,zM 49 2,qT 50 5 8,q3 51 178 48 49 50,qE 52 51 0,qE 53 51 1,qS 5 6 52,zM 7 53] [6,7]
theorem K.uJ : jJ pZ 181 3 0 C.uJ [.cell 6 true 5,.tmp 7]=true:=lS
def C.iH : dI:=qs [qI 4 0] [0,1]<|qr [zM 5 0,zM 6 1,zA 7 (.afI (.t 5)<|.t 6),zM 4 7] [4]
theorem K.iH : jJ pZ 146 2 0 C.iH [.tmp 4]=true:=lS
def C.strings_Compare : dI:=qs [qI 4 0] [0,1]<|qr [zM 5 0,zM 6 1,q2 7 146 5 6,zM 4 7] [4]
theorem K.strings_Compare : jJ pZ 123 2 0 C.strings_Compare [.tmp 4]=true:=lS
def C.dQ : dI:=qs [qX 2 10 0,qX 3 11 1,qI 4 0] [2,3]<|.seq (qs [qA 11 0 2,qF 12 1 11,qA 13 0 3,qF 14 1 13,q2 15 223 12 14,zM 5 15] [2,3,5]<|qs [zM 16 5,qk 17 .neq 16 0] [2,3,5,17]<|qc 17 (qr [zM 18 5,zM 4 18] [4]) .skip)<|.seq (qs [qA 19 1 2,qF 20 1 19,qA 21 1 3,qF 22 1 21,q2 23 223 20 22,zM 6 23] [2,3,6]<|qs [zM 24 6,qk 25 .neq 24 0] [2,3,6,25]<|qc 25 (qr [zM 26 6,zM 4 26] [4]) .skip)<|.seq (qs [qA 27 2 2,qF 28 1 27,qA 29 2 3,qF 30 1 29,q2 31 123 28 30,zM 7 31] [2,3,7]<|qs [zM 32 7,qk 33 .neq 32 0] [2,3,7,33]<|qc 33 (qr [zM 34 7,zM 4 34] [4]) .skip)<|.seq (qs [qI 8 0] [2,3,8]<|.block 0<|.loop<|.seq (qs [zM 35 8,qA 36 4 2,qF 37 1 36,qL 38 37,qb 39 .lss 35 38,zM 40 39,qm 40 true 41 8,zG 40 true 42 (.nK 4<|.t 3),zG 40 true 43 (.load false 1<|.t 42),zG 40 true 44 (.len<|.t 43),zG 40 true 45 (.bin .lss (.t 41)<|.t 44),qP 46 40 45] [2,3,8,46]<|qc 46 .skip<|.exit 0)<|.seq (.block 1<|.cut (qs [qA 49 0 2,qF 50 1 49,qk 51 .eql 50 4] [2,3,8,51]<|qc 51 (.seq (.uC [(qA 52 3 2,[]),(qF 53 1 52,[0]),(zM 54 8,[]),(qD 55 1 53 54,[0,1,2]),(qF 56 1 55,PV),(qA 57 3 3,[]),(qF 58 1 57,[5]),(zM 59 8,[]),(qD 60 1 58 59,[5,6,7]),(qF 61 1 60,[5,6,7,8]),(q2 62 123 56 61,FM),(zM 9 62,OD)] [2,3,8,9])<|qs [zM 63 9,qk 64 .neq 63 0] [2,3,8,9,64]<|qc 64 (qr [zM 65 9,zM 4 65] [4]) .skip) .skip)<|.seq (.uC [(qA 66 4 2,[]),(qF 67 1 66,[0]),(zM 68 8,[]),(qD 69 5 67 68,[0,1,2]),(qT 70 5 69,PV),(qA 71 4 3,[]),(qF 72 1 71,[5]),(zM 73 8,[]),(qD 74 5 72 73,[5,6,7]),(qT 75 5 74,[5,6,7,8]),(q2 76 218 70 75,FM),(zM 10 76,OD)] [2,3,8,10])<|qs [zM 77 10,qk 78 .neq 77 0] [2,3,8,10,78]<|qc 78 (qr [zM 79 10,zM 4 79] [4]) .skip)<|.reg [zM 47 8,qk 48 .add 47 1,zM 8 48] [2,3,8])<|qr [qA 80 4 2,qF 81 1 80,qL 82 81,qA 83 4 3,qF 84 1 83,qL 85 84,q2 86 223 82 85,zM 4 86] [4]
theorem K.dQ : jJ pZ 218 2 0 C.dQ [.tmp 4]=true:=lS
def C.uK : dI:=qs [qX 2 10 0,qX 3 11 1,qB 4 false] [2,3]<|qr [qT 5 5 2,qT 6 5 3,q2 7 218 5 6,qk 8 .eql 7 0,zM 4 8] [4]
theorem K.uK : jJ pZ 205 2 0 C.uK [.tmp 4]=true:=lS
def C.sF : dI:=qs [qX 3 10 0,qX 5 11 2,qZ 6 12,qB 7 false] [1,3,5,6]<|qs [qT 11 5 3,zM 12 1,q2 13 204 11 12,zM 10 13,qE 14 10 0,qE 15 10 1,qZ 8 13,qS 5 8 14,zM 9 15] [3,5,6,8,9]<|.seq (qs [zM 16 9,qO 17 16,zM 18 17,zG 18 false 19 (.load true 5<|.t 8),zG 18 false 20 (.load true 5<|.t 5),⟨(some (18,false)),some 21,.call 205 [.t 19,.t 20]⟩,zG 18 false 22 (.not<|.t 21),qQ 23 18 22] [3,6,23]<|qc 23 (qr [zA 24 (.build zN []),qS 5 6 24,qB 7 false] [6,7]) .skip)<|qr [qT 25 5 3,q1 26 124 25,qS 5 6 26,qB 7 true] [6,7]
theorem K.sF : jJ pZ 183 3 0 C.sF [.cell 6 true 5,.tmp 7]=true:=lS
def C.rM : dI:=qs [qX 2 10 0,qX 3 11 1,qZ 4 12,qB 5 false] [2,3,4]<|.seq (qs [qT 8 5 2,q1 9 92 8,qO 10 9,zM 11 10,zG 11 false 12 (.load true 8<|.t 3),⟨(some (11,false)),some 13,.call 120 [.t 12]⟩,zG 11 false 14 (.not<|.t 13),qQ 15 11 14] [2,3,4,15]<|qc 15 (qr [zA 16 (.build zN []),qS 5 4 16,qB 5 false] [4,5]) .skip)<|.seq (qs [qA 17 0 3,qF 18 1 17] [2,3,4,18]<|.block 0<|qs [qk 20 .eql 18 1,zM 19 20] [2,3,4,18,19]<|qc 19 (qr [qT 21 5 2,qA 22 1 3,qF 23 1 22,qA 24 3 3,qT 25 5 24,q3 26 178 21 23 25,qE 27 26 0,qE 28 26 1,qS 5 4 27,zM 5 28] [4,5])<|qs [qk 30 .eql 18 2,zM 29 30] [2,3,4,18,29]<|qc 29 (qr [qT 31 5 2,qA 32 1 3,qF 33 1 32,q2 34 179 31 33,qE 35 34 0,qE 36 34 1,qS 5 4 35,zM 5 36] [4,5])<|qs [qk 38 .eql 18 3,zM 37 38] [2,3,4,18,37]<|qc 37 (qr [qT 39 5 2,qA 40 1 3,qF 41 1 40,qA 42 3 3,qT 43 5 42,q3 44 180 39 41 43,qE 45 44 0,qE 46 44 1,qS 5 4 45,zM 5 46] [4,5])<|qs [qk 48 .eql 18 4,zM 47 48] [2,3,4,18,47]<|qc 47 (qr [qT 49 5 2,qA 50 2 3,qF 51 1 50,qA 52 1 3,qF 53 1 52,q3 54 181 49 51 53,qE 55 54 0,qE 56 54 1,qS 5 4 55,zM 5 56] [4,5])<|qs [qk 58 .eql 18 5,zM 57 58] [2,3,4,57]<|qc 57 (qs [qT 60 5 2,qA 61 2 3,qF 62 1 61,q2 63 182 60 62,zM 59 63,qE 64 59 0,qE 65 59 1,qZ 6 13,qS 5 6 64,zM 7 65] [2,3,4,6,7]<|.seq (qs [zM 66 7,qO 67 66] [2,3,4,6,67]<|qc 67 (qr [zA 68 (.build zN []),qS 5 4 68,qB 5 false] [4,5]) .skip)<|qr [qT 69 5 2,qA 70 1 3,qF 71 1 70,qT 72 5 6,q3 73 178 69 71 72,qE 74 73 0,qE 75 73 1,qS 5 4 74,zM 5 75] [4,5]) .skip)<|qr [qT 76 5 2,qA 77 1 3,qF 78 1 77,qA 79 3 3,qT 80 5 79,q3 81 183 76 78 80,qE 82 81 0,qE 83 81 1,qS 5 4 82,zM 5 83] [4,5]
theorem K.rM : jJ pZ 169 2 0 C.rM [.cell 4 true 5,.tmp 5]=true:=lS
def C.gZ : dI:=qs [qB 2 false] [0]<|.seq (qs [zM 5 0,qL 6 5,qk 7 .gtr 6 12] [0,7]<|qc 7 (qr [qB 2 false] [2]) .skip)<|.seq (qs [zM 8 0,qL 9 8,qI 10 0] [8,9,10]<|.block 0<|.loop<|qs [qb 11 .lss 10 9] [8,9,10,11]<|.seq (qc 11 .skip<|.exit 0)<|.seq (.block 1<|qs [qD 12 8 8 10,qT 13 8 12,zA 4 (.alloc 10 [qx 0,.nS 1,.nS 1,qx 0,qx 0,.c (.str []),.nS 1,.nS 5]),qS 8 4 13] [4,8,9,10]<|qs [qT 14 8 4,q1 15 120 14,qO 16 15] [8,9,10,16]<|qc 16 (qr [qB 2 false] [2]) .skip)<|.reg [qk 17 .add 10 1,zM 10 17] [8,9,10])<|qr [qB 2 true] [2]
theorem K.gZ : jJ pZ 94 1 0 C.gZ [.tmp 2]=true:=lS
def C.lG : dI:=qs [qX 2 10 0,qZ 4 11,qI 5 0] [1,2,4]<|qs [qT 11 5 2,q1 12 124 11,qZ 6 12,qS 5 6 12] [1,4,6]<|.seq (qs [zM 13 1,qL 14 13,qI 15 0] [1,4,6,13,14,15]<|.block 0<|.loop<|qs [qb 16 .lss 15 14] [1,4,6,13,14,15,16]<|.seq (qc 16 .skip<|.exit 0)<|.seq (.block 1<|qs [zM 17 15,qD 18 8 13 15,qT 19 8 18,zA 8 (.alloc 13 [qx 0,.nS 1,.nS 1,qx 0,qx 0,.c (.str []),.nS 1,.nS 5]),zM 7 17,qS 8 8 19] [1,4,6,7,8,13,14,15]<|qs [qT 21 5 6,qT 22 8 8,q2 23 169 21 22,zM 20 23,qE 24 20 0,qE 25 20 1,qZ 9 14,qS 5 9 24,zM 10 25] [1,4,6,7,9,10,13,14,15]<|.seq (qs [zM 26 10,qO 27 26] [1,4,6,7,9,13,14,15,27]<|qc 27 (qr [zA 28 (.build zN []),zM 29 7,qS 5 4 28,zM 5 29] [4,5]) .skip)<|.reg [qT 30 5 9,qS 5 6 30] [1,4,6,13,14,15])<|.reg [qk 31 .add 15 1,zM 15 31] [1,4,6,13,14,15])<|qr [qT 32 5 6,zM 33 1,qL 34 33,qS 5 4 32,zM 5 34] [4,5]
theorem K.lG : jJ pZ 153 2 0 C.lG [.cell 4 true 5,.tmp 5]=true:=lS
def C.ry : dI:=qs [qX 2 10 0,qZ 4 11,qB 5 false] [1,2,4]<|.seq (qs [qT 8 5 2,q1 9 92 8,qO 10 9,zM 11 10,qm 11 false 12 1,⟨(some (11,false)),some 13,.call 94 [.t 12]⟩,zG 11 false 14 (.not<|.t 13),qQ 15 11 14] [1,2,4,15]<|qc 15 (qr [zA 16 (.build zN []),qS 5 4 16,qB 5 false] [4,5]) .skip)<|qs [qT 18 5 2,zM 19 1,q2 20 153 18 19,zM 17 20,qE 21 17 0,qE 22 17 1,qZ 6 12,qS 5 6 21,zM 7 22] [1,4,6,7]<|qr [qT 23 5 6,zM 24 7,zM 25 1,qL 26 25,qb 27 .eql 24 26,qS 5 4 23,zM 5 27] [4,5]
theorem K.ry : jJ pZ 130 2 0 C.ry [.cell 4 true 5,.tmp 5]=true:=lS
def C.jR : dI:=qs [qI 4 0] [0,1]<|qr [zM 5 0,zM 6 1,zA 7 (.af7 (.t 5)<|.t 6),zM 4 7] [4]
theorem K.jR : jJ pZ 151 2 0 C.jR [.tmp 4]=true:=lS
def C.strings_IndexByte : dI:=qs [qI 4 0] [0,1]<|qr [zM 5 0,zM 6 1,q2 7 151 5 6,zM 4 7] [4]
theorem K.strings_IndexByte : jJ pZ 127 2 0 C.strings_IndexByte [.tmp 4]=true:=lS
def C.o9 : dI:=qs [qB 2 false] [0]<|.seq (qs [zM 4 0,ql 5 4,qk 6 .neq 5 4] [0,6]<|qc 6 (qr [qB 2 false] [2]) .skip)<|.seq (qs [qI 3 0] [0,3]<|.block 0<|.loop<|.seq (qs [zM 7 3,zM 8 0,ql 9 8,qb 10 .lss 7 9] [0,3,10]<|qc 10 .skip<|.exit 0)<|.seq (.block 1<|qs [zM 13 0,zM 14 3,zA 15 (.idxs (.t 13)<|.t 14),⟨none,some 16,.call 127 [.k (.c<|.str [48,49,50,51,52,53,54,55,56,57,97,98,99,100,101,102]),.t 15]⟩,qk 17 .lss 16 0] [0,3,17]<|qc 17 (qr [qB 2 false] [2]) .skip)<|.reg [zM 11 3,qk 12 .add 11 1,zM 3 12] [0,3])<|qr [qB 2 true] [2]
theorem K.o9 : jJ pZ 99 1 0 C.o9 [.tmp 2]=true:=lS
def C.kK : dI:=qs [qB 2 false] [0]<|.seq (qs [zM 5 0,qL 6 5,qk 7 .gtr 6 4] [0,7]<|qc 7 (qr [qB 2 false] [2]) .skip)<|.seq (qs [zM 8 0,qL 9 8,qI 10 0] [8,9,10]<|.block 0<|.loop<|qs [qb 11 .lss 10 9] [8,9,10,11]<|.seq (qc 11 .skip<|.exit 0)<|.seq (.block 1<|qs [qD 12 1 8 10,qF 13 1 12,zM 4 13] [4,8,9,10]<|qs [zM 14 4,zA 15 (.bin .neq (.t 14)<|.k<|.c<|.str [42]),zM 16 15,qm 16 true 17 4,⟨(some (16,true)),some 18,.call 99 [.t 17]⟩,zG 16 true 19 (.not<|.t 18),qP 20 16 19] [8,9,10,20]<|qc 20 (qr [qB 2 false] [2]) .skip)<|.reg [qk 21 .add 10 1,zM 10 21] [8,9,10])<|qr [qB 2 true] [2]
theorem K.kK : jJ pZ 93 1 0 C.kK [.tmp 2]=true:=lS
def C.slices_Index_string : dI:=qs [qI 4 0] [0,1]<|.seq (qs [zM 6 0,qL 7 6,qI 8 0] [0,1,7,8]<|.block 0<|.loop<|qs [qb 9 .lss 8 7] [0,1,7,8,9]<|.seq (qc 9 .skip<|.exit 0)<|.seq (.block 1<|qs [zM 10 8,zM 5 10] [0,1,5,7,8]<|qs [zM 11 1,zM 12 0,zM 13 5,qD 14 1 12 13,qF 15 1 14,qb 16 .eql 11 15] [0,1,5,7,8,16]<|qc 16 (qr [zM 17 5,zM 4 17] [4]) .skip)<|.reg [qk 18 .add 8 1,zM 8 18] [0,1,7,8])<|qr [qI 4 (-1)] [4]
theorem K.slices_Index_string : jJ pZ 152 2 0 C.slices_Index_string [.tmp 4]=true:=lS
def C.slices_Contains_string : dI:=qs [qB 4 false] [0,1]<|qr [zM 5 0,zM 6 1,q2 7 152 5 6,qk 8 .geq 7 0,zM 4 8] [4]
theorem K.slices_Contains_string : jJ pZ 128 2 0 C.slices_Contains_string [.tmp 4]=true:=lS
def C.qV : dI:=qs [qB 4 false] [0,1]<|qr [zM 5 0,zM 6 1,q2 7 128 5 6,zM 8 7,qm 8 false 9 0,⟨(some (8,false)),some 10,.call 128 [.t 9,.k (.c<|.str [42])]⟩,qQ 11 8 10,zM 4 11] [4]
theorem K.qV : jJ pZ 100 2 0 C.qV [.tmp 4]=true:=lS
def C.lg : dI:=qs [qI 8 0] [0,1,2,3]<|.cut (qs [zM 9 0,q1 10 93 9,qO 11 10,zM 12 11,qm 12 false 13 1,⟨(some (12,false)),some 14,.call 93 [.t 13]⟩,zG 12 false 15 (.not<|.t 14),qQ 16 12 15,zM 17 16,qm 17 false 18 2,zG 17 false 19 (.bin .neq (.t 18)<|.k<|.c<|.str []),qm 17 false 20 19,qm 20 true 21 2,⟨(some (20,true)),some 22,.call 99 [.t 21]⟩,zG 20 true 23 (.not<|.t 22),zG 17 false 24 (.pick (.t 20) (.t 23)<|kB false),qQ 25 17 24] [0,1,2,3,25]<|qc 25 (qr [qI 8 400] [8]) .skip)<|.seq (qs [zM 26 0,qL 27 26,qk 28 .gtr 27 0,zM 29 28,qm 29 true 30 2,zG 29 true 31 (.bin .eql (.t 30)<|.k<|.c<|.str []),qm 29 true 32 31,qm 32 false 33 0,qm 32 false 34 2,⟨(some (32,false)),some 35,.call 100 [.t 33,.t 34]⟩,zG 32 false 36 (.not<|.t 35),zG 29 true 37 (.pick (.t 32) (kB true)<|.t 36),qP 38 29 37] [1,2,3,38]<|qc 38 (qr [qI 8 412] [8]) .skip)<|.seq (qs [zM 39 1,qL 40 39,qk 41 .gtr 40 0,zM 42 41,qm 42 true 43 2,zG 42 true 44 (.bin .neq (.t 43)<|.k<|.c<|.str []),qP 45 42 44,zM 46 45,qm 46 true 47 1,qm 46 true 48 2,⟨(some (46,true)),some 49,.call 100 [.t 47,.t 48]⟩,qP 50 46 49] [3,50]<|qc 50 (.seq (qs [zM 51 3] [51]<|qc 51 (qr [qI 8 304] [8]) .skip)<|qr [qI 8 412] [8]) .skip)<|qr [qI 8 200] [8]
theorem K.lg : jJ pZ 48 4 0 C.lg [.tmp 8]=true:=lS
def C.kR : dI:=qs [qB 2 false] [0]<|.seq (qs [zM 4 0,zA 5 (.bin .eql (.t 4)<|.k<|.c<|.str []),zM 6 5,qm 6 false 7 0,zG 6 false 8 (.lens<|.t 7),zG 6 false 9 (.bin .gtr (.t 8)<|kI 8),qQ 10 6 9] [0,10]<|qc 10 (qr [qB 2 false] [2]) .skip)<|.seq (qs [qI 3 0] [0,3]<|.block 0<|.loop<|.seq (qs [zM 11 3,zM 12 0,ql 13 12,qb 14 .lss 11 13] [0,3,14]<|qc 14 .skip<|.exit 0)<|.seq (.block 1<|qs [zM 17 0,zM 18 3,zA 19 (.idxs (.t 17)<|.t 18),zA 20 (.bin .lss (.t 19)<|.k<|.c<|.lit<|.int .u8 97),zM 21 20,qm 21 false 22 0,qm 21 false 23 3,zG 21 false 24 (.idxs (.t 22)<|.t 23),zG 21 false 25 (.bin .gtr (.t 24)<|.k<|.c<|.lit<|.int .u8 122),qQ 26 21 25,zM 27 26,qm 27 true 28 0,qm 27 true 29 3,zG 27 true 30 (.idxs (.t 28)<|.t 29),zG 27 true 31 (.bin .lss (.t 30)<|.k<|.c<|.lit<|.int .u8 48),qm 27 true 32 31,qm 32 false 33 0,qm 32 false 34 3,zG 32 false 35 (.idxs (.t 33)<|.t 34),zG 32 false 36 (.bin .gtr (.t 35)<|.k<|.c<|.lit<|.int .u8 57),zG 27 true 37 (.pick (.t 32) (kB true)<|.t 36),qP 38 27 37] [0,3,38]<|qc 38 (qr [qB 2 false] [2]) .skip)<|.reg [zM 15 3,qk 16 .add 15 1,zM 3 16] [0,3])<|qr [qB 2 true] [2]
theorem K.kR : jJ pZ 91 1 0 C.kR [.tmp 2]=true:=lS
def C.dY : dI:=qs [qX 1 10 0,qB 2 false] [1]<|.seq (qs [qA 5 0 1,qF 6 1 5,qL 7 6,qk 8 .gtr 7 10,zM 9 8,zG 9 false 10 (.nK 1<|.t 1),zG 9 false 11 (.load false 1<|.t 10),zG 9 false 12 (.bin .lss (.t 11)<|kI 0),qQ 13 9 12,zM 14 13,zG 14 false 15 (.nK 1<|.t 1),zG 14 false 16 (.load false 1<|.t 15),zG 14 false 17 (.bin .gtr (.t 16)<|kI 999),qQ 18 14 17] [1,18]<|qc 18 (qr [qB 2 false] [2]) .skip)<|.seq (qs [qA 19 0 1,qF 20 1 19,qL 21 20,qI 22 0] [1,20,21,22]<|.block 0<|.loop<|qs [qb 23 .lss 22 21] [1,20,21,22,23]<|.seq (qc 23 .skip<|.exit 0)<|.seq (.block 1<|qs [zM 24 22,qD 25 7 20 22,qT 26 7 25,zA 4 (.alloc 11 [.c (.str []),qx 0,qx 0,qx 0,.c (.str []),.nS 1,.nS 5]),zM 3 24,qS 7 4 26] [1,3,4,20,21,22]<|.seq (.seq (.uC [(qA 27 0 4,[]),(qF 28 1 27,[0]),(q1 29 91 28,[0,1]),(qO 30 29,[0,1,2]),(zM 31 30,PV),(qm 31 false 32 3,OE),(zG 31 false 33 (.bin .gtr (.t 32)<|kI 0),OY),(qm 31 false 34 33,Wj),(zG 34 true 35 (.nK 0<|.t 1),Oo),(zG 34 true 36 (.load false 1<|.t 35),TY),(qm 34 true 37 3,Oo),(zG 34 true 38 (.bin .sub (.t 37)<|kI 1),[0,1,2,3,4,5,6,7,10]),(zG 34 true 39 (.Aj 7 (.t 36)<|.t 38),Ur),(zG 34 true 40 (.nK 0<|.t 39),agE),(zG 34 true 41 (.load false 1<|.t 40),adL),(zG 34 true 42 (.nK 0<|.t 4),Oo),(zG 34 true 43 (.load false 1<|.t 42),[0,1,2,3,4,5,6,7,15]),(zG 34 true 44 (.bin .geq (.t 41)<|.t 43),aoW),(zG 31 false 45 (.pick (.t 34) (.t 44)<|kB false),anh),(qQ 46 31 45,alf)] [1,4,20,21,22,46])<|qc 46 (qr [qB 2 false] [2]) .skip)<|qs [qA 47 1 4,qF 48 1 47,qk 49 .lss 48 1,zM 50 49,zG 50 false 51 (.nK 1<|.t 4),zG 50 false 52 (.load false 1<|.t 51),zG 50 false 53 (.nK 1<|.t 1),zG 50 false 54 (.load false 1<|.t 53),zG 50 false 55 (.bin .gtr (.t 52)<|.t 54),qQ 56 50 55,zM 57 56,zG 57 false 58 (.nK 2<|.t 4),zG 57 false 59 (.load true 5<|.t 58),⟨(some (57,false)),some 60,.call 92 [.t 59]⟩,zG 57 false 61 (.not<|.t 60),qQ 62 57 61] [1,20,21,22,62]<|qc 62 (qr [qB 2 false] [2]) .skip)<|.reg [qk 63 .add 22 1,zM 22 63] [1,20,21,22])<|qr [qB 2 true] [2]
theorem K.dY : jJ pZ 43 1 0 C.dY [.tmp 2]=true:=lS
def C.sD : dI:=qs [qX 1 10 0,zA 2 (.alloc 11 [.c (.str []),qx 0,qx 0,qx 0,.c (.str []),.nS 1,.nS 5])] [1,2]<|.seq (.uC [(qA 3 0 1,[]),(qF 4 1 3,[0]),(qA 5 1 1,[]),(qF 6 1 5,[2]),(qA 7 2 1,[]),(qT 8 5 7,[4]),(q1 9 124 8,[4,5]),(zA 10 (.build [.c (.str []),qx 0,qx 0,qx 0,.c (.str []),.nS 1,.nS 5] [(0,1,.t 4),(1,1,.t 6),(2,5,.t 9)]),Wj),(qS 7 2 10,Oo)] [2]) .ret
theorem K.sD : jJ pZ 96 1 0 C.sD [.cell 2 true 7]=true:=lS
def C.fA : dI:=qs [qX 1 10 0,zA 2 (.alloc 11 [.nS 7,qx 0])] [1,2]<|qs [qA 6 1 1,qF 7 1 6,zA 8 (.build [.nS 7,qx 0] [(1,1,.t 7)]),zA 3 (.alloc 12 [.nS 7,qx 0]),qS 2 3 8] [1,2,3]<|.seq (qs [qA 9 0 1,qF 10 1 9,qL 11 10,qk 12 .gtr 11 0] [1,2,3,12]<|qc 12 (qs [qA 13 0 1,qF 14 1 13,qL 15 14,zA 16 (.makes 13 7 104 [.str [],.lit (.int .i64 0),.lit (.int .i64 0),.lit (.int .i64 0),.str [],.sl 1 [],.sl 5 []] (.t 15)<|.t 15),qA 17 0 3,qU 1 17 16] [1,2,3]<|qs [qA 18 0 1,qF 19 1 18,qL 20 19,qI 21 0] [2,3,19,20,21]<|.block 0<|.loop<|qs [qb 22 .lss 21 20] [2,3,19,20,21,22]<|.seq (qc 22 .skip<|.exit 0)<|.seq (.block 1<|qs [zM 23 21,qD 24 7 19 21,qT 25 7 24,zA 5 (.alloc 14 [.c (.str []),qx 0,qx 0,qx 0,.c (.str []),.nS 1,.nS 5]),zM 4 23,qS 7 5 25] [2,3,4,5,19,20,21]<|.uC [(qA 26 0 3,[]),(qF 27 1 26,[0]),(zM 28 4,[]),(qT 29 7 5,[]),(q1 30 96 29,[3]),(qD 31 7 27 28,OE),(qS 7 31 30,OY)] [2,3,19,20,21])<|.reg [qk 32 .add 21 1,zM 21 32] [2,3,19,20,21]) .skip)<|qr [qT 33 2 3,qS 2 2 33] [2]
theorem K.fA : jJ pZ 46 1 0 C.fA [.cell 2 true 2]=true:=lS
def C.sQ : dI:=qs [qX 2 10 0,qI 4 0] [1,2]<|qr [qA 5 0 2,qF 6 1 5,zM 7 1,q2 8 123 6 7,zM 4 8] [4]
theorem K.sQ : jJ pZ 122 2 0 C.sQ [.tmp 4]=true:=lS
def C.yG : dI:=qs [qI 6 0,qB 7 false] [0,1,2]<|qs [zM 12 0,qL 13 12,zM 8 13] [0,1,2,8]<|qs [zM 14 8,qI 9 0,zM 10 14] [0,1,2,8,9,10]<|.seq (.block 0<|.loop<|.seq (qs [zM 15 9,zM 16 10,qb 17 .lss 15 16] [0,1,2,8,9,10,17]<|qc 17 .skip<|.exit 0)<|.block 1<|qs [zM 18 9,zM 19 10,qb 20 .add 18 19,zA 21 (.Md .u64<|.t 20),zA 22 (.shf false (.t 21)<|.k<|.c<|.lit<|.int .u64 1),zA 23 (.Md .i64<|.t 22),zM 11 23] [0,1,2,8,9,10,11]<|qs [zM 24 2,zM 25 0,zM 26 11,qD 27 7 25 26,qT 28 7 27,zM 29 1,⟨none,some 30,.IX (.t 24) [.t 28,.t 29]⟩,qk 31 .lss 30 0] [0,1,2,8,9,10,11,31]<|qc 31 (.reg [zM 32 11,qk 33 .add 32 1,zM 9 33] [0,1,2,8,9,10])<|.reg [zM 34 11,zM 10 34] [0,1,2,8,9,10])<|qr [zM 35 9,zM 36 9,zM 37 8,qb 38 .lss 36 37,zM 39 38,qm 39 true 40 2,qm 39 true 41 0,qm 39 true 42 9,zG 39 true 43 (.Aj 7 (.t 41)<|.t 42),zG 39 true 44 (.load true 7<|.t 43),qm 39 true 45 1,⟨(some (39,true)),some 46,.IX (.t 40) [.t 44,.t 45]⟩,zG 39 true 47 (.bin .eql (.t 46)<|kI 0),qP 48 39 47,zM 6 35,zM 7 48] [6,7]
theorem K.aW : jJ pZ 121 3 0 C.yG [.tmp 6,.tmp 7]=true:=lS
def C.og : dI:=qs [qI 4 0,qB 5 false] [0,1]<|qr [zM 6 0,zM 7 1,⟨none,some 8,.call 121 [.t 6,.t 7,.k (.fn 122 [])]⟩,qE 9 8 0,qE 10 8 1,zM 4 9,zM 5 10] [4,5]
theorem K.og : jJ pZ 95 2 0 C.og [.tmp 4,.tmp 5]=true:=lS
def C.oh : dI:=C.del 7 104 [.str [],.lit (.int .i64 0),.lit (.int .i64 0),.lit (.int .i64 0),.str [],.sl 1 [],.sl 5 []]
theorem K.oh : LZ pZ 129 3 1 C.oh [.tmp 6]=true:=lS
def C.uI : dI:=qs [qX 2 10 0,zA 4 (.alloc 11 [.nS 7,qx 0]),qB 5 false] [1,2,4]<|.seq (qs [qT 9 2 2,q1 10 43 9,qO 11 10,zM 12 11,zG 12 false 13 (.nK 1<|.t 2),zG 12 false 14 (.load false 1<|.t 13),zG 12 false 15 (.bin .eql (.t 14)<|kI 999),qQ 16 12 15] [1,2,4,16]<|qc 16 (qr [zA 17 (.build [.nS 7,qx 0] []),qS 2 4 17,qB 5 false] [4,5]) .skip)<|qs [qA 19 0 2,qF 20 1 19,zM 21 1,q2 22 95 20 21,zM 18 22,qE 23 18 0,qE 24 18 1,zM 6 23,zM 7 24] [2,4,6,7]<|.seq (qs [zM 25 7,qO 26 25] [2,4,6,26]<|qc 26 (qr [zA 27 (.build [.nS 7,qx 0] []),qS 2 4 27,qB 5 false] [4,5]) .skip)<|qs [qT 28 2 2,q1 29 46 28,zA 8 (.alloc 12 [.nS 7,qx 0]),qS 2 8 29] [4,6,8]<|qs [qA 30 1 8,qF 31 1 30,qk 32 .add 31 1,qA 33 1 8,qU 1 33 32] [4,6,8]<|qs [qA 34 0 8,qF 35 1 34,zM 36 6,zM 37 6,qk 38 .add 37 1,q3 39 129 35 36 38,qA 40 0 8,qU 1 40 39] [4,8]<|qr [qT 41 2 8,qS 2 4 41,qB 5 true] [4,5]
theorem K.uI : jJ pZ 101 2 0 C.uI [.cell 4 true 2,.tmp 5]=true:=lS
def C.iE : dI:=qs [zM 5 0,⟨none,some 6,.call 150 [.t 5,.k (.c<|.lit<|.int .u8 34)]⟩] [0,1]<|.seq (qs [qI 4 0] [0,1,4]<|.block 0<|.loop<|.seq (qs [zM 7 4,zM 8 1,ql 9 8,qb 10 .lss 7 9] [0,1,4,10]<|qc 10 .skip<|.exit 0)<|.seq (.block 1<|.cut (qs [zM 13 1,zM 14 4,zA 15 (.idxs (.t 13)<|.t 14),zA 16 (.bin .eql (.t 15)<|.k<|.c<|.lit<|.int .u8 34),zM 17 16,qm 17 false 18 1,qm 17 false 19 4,zG 17 false 20 (.idxs (.t 18)<|.t 19),zG 17 false 21 (.bin .eql (.t 20)<|.k<|.c<|.lit<|.int .u8 92),qQ 22 17 21] [0,1,4,22]<|qc 22 (.reg [zM 23 0,⟨none,some 24,.call 150 [.t 23,.k (.c<|.lit<|.int .u8 92)]⟩] [0,1,4]) .skip)<|.reg [zM 25 0,zM 26 1,zM 27 4,zA 28 (.idxs (.t 26)<|.t 27),q2 29 150 25 28] [0,1,4])<|.reg [zM 11 4,qk 12 .add 11 1,zM 4 12] [0,1,4])<|.reg [zM 30 0,⟨none,some 31,.call 150 [.t 30,.k (.c<|.lit<|.int .u8 34)]⟩] []
theorem K.iE : jJ pZ 149 2 2 C.iE []=true:=lS
def C.dO : dI:=qs [qX 3 10 1] [0,3]<|qs [qA 8 0 3,qF 9 1 8] [0,3,9]<|.block 0<|qs [qk 11 .eql 9 0,zM 10 11] [0,3,9,10]<|qc 10 (.reg [zM 12 0,⟨none,some 13,.call 147 [.t 12,.k (.c<|.str [110,117,108,108])]⟩] [])<|qs [qk 15 .eql 9 1,zM 14 15] [0,3,9,14]<|qc 14 (.reg [zM 16 0,qA 17 1 3,qF 18 1 17,q1 19 148 18,q2 20 147 16 19] [])<|qs [qk 22 .eql 9 2,zM 21 22] [0,3,9,21]<|qc 21 (.reg [zM 23 0,qA 24 2 3,qF 25 1 24,q2 26 149 23 25] [])<|qs [qk 28 .eql 9 3,zM 27 28] [0,3,9,27]<|qc 27 (qs [zM 29 0,⟨none,some 30,.call 150 [.t 29,.k (.c<|.lit<|.int .u8 91)]⟩] [0,3]<|.seq (qs [qA 31 4 3,qF 32 1 31,qL 33 32,qI 34 0] [0,32,33,34]<|.block 1<|.loop<|qs [qb 35 .lss 34 33] [0,32,33,34,35]<|.seq (qc 35 .skip<|.exit 1)<|.seq (.block 2<|qs [zM 36 34,qD 37 5 32 34,qT 38 5 37,qZ 5 11,zM 4 36,qS 5 5 38] [0,4,5,32,33,34]<|.cut (qs [zM 39 4,qk 40 .gtr 39 0] [0,5,32,33,34,40]<|qc 40 (.reg [zM 41 0,⟨none,some 42,.call 150 [.t 41,.k (.c<|.lit<|.int .u8 44)]⟩] [0,5,32,33,34]) .skip)<|.reg [zM 43 0,qT 44 5 5,q2 45 125 43 44] [0,32,33,34])<|.reg [qk 46 .add 34 1,zM 34 46] [0,32,33,34])<|.reg [zM 47 0,⟨none,some 48,.call 150 [.t 47,.k (.c<|.lit<|.int .u8 93)]⟩] [])<|qs [qk 50 .eql 9 4,zM 49 50] [0,3,49]<|qc 49 (qs [zM 51 0,⟨none,some 52,.call 150 [.t 51,.k (.c<|.lit<|.int .u8 123)]⟩] [0,3]<|.seq (qs [qA 53 4 3,qF 54 1 53,qL 55 54,qI 56 0] [0,3,54,55,56]<|.block 3<|.loop<|qs [qb 57 .lss 56 55] [0,3,54,55,56,57]<|.seq (qc 57 .skip<|.exit 3)<|.seq (.block 4<|qs [zM 58 56,qD 59 5 54 56,qT 60 5 59,qZ 7 12,zM 6 58,qS 5 7 60] [0,3,6,7,54,55,56]<|.cut (qs [zM 61 6,qk 62 .gtr 61 0] [0,3,6,7,54,55,56,62]<|qc 62 (.reg [zM 63 0,⟨none,some 64,.call 150 [.t 63,.k (.c<|.lit<|.int .u8 44)]⟩] [0,3,6,7,54,55,56]) .skip)<|qs [zM 65 0,qA 66 3 3,qF 67 1 66,zM 68 6,qD 69 1 67 68,qF 70 1 69,q2 71 149 65 70] [0,3,7,54,55,56]<|qs [zM 72 0,⟨none,some 73,.call 150 [.t 72,.k (.c<|.lit<|.int .u8 58)]⟩] [0,3,7,54,55,56]<|.reg [zM 74 0,qT 75 5 7,q2 76 125 74 75] [0,3,54,55,56])<|.reg [qk 77 .add 56 1,zM 56 77] [0,3,54,55,56])<|.reg [zM 78 0,⟨none,some 79,.call 150 [.t 78,.k (.c<|.lit<|.int .u8 125)]⟩] []) .skip
theorem K.dO : jJ pZ 125 2 2 C.dO []=true:=lS
def C.rC : dI:=qs [qX 1 10 0,zA 2 (.mv<|.k<|.c<|.str [])] [1]<|.seq (qs [qT 4 5 1,q1 5 92 4,qO 6 5] [1,6]<|qc 6 (qr [zA 2 (.mv<|.k<|.c<|.str [])] [2]) .skip)<|qs [zA 3 (.O7 155 5 12 11)] [1,3]<|qs [qT 7 5 1,q2 8 125 3 7] [3]<|qr [q1 9 126 3,zM 2 9] [2]
theorem K.rC : jJ pZ 98 1 0 C.rC [.tmp 2]=true:=lS
def C.vN : dI:=qs [qX 2 10 0,zA 4 (.alloc 11 [.c (.str []),qx 0,qx 0,qx 0,.c (.str []),.nS 1,.nS 5]),qB 5 false] [1,2,4]<|.seq (qs [qT 8 2 2,q1 9 43 8,qO 10 9] [1,2,4,10]<|qc 10 (qr [zA 11 (.build [.c (.str []),qx 0,qx 0,qx 0,.c (.str []),.nS 1,.nS 5] []),qS 7 4 11,qB 5 false] [4,5]) .skip)<|qs [qA 13 0 2,qF 14 1 13,zM 15 1,q2 16 95 14 15,zM 12 16,qE 17 12 0,qE 18 12 1,zM 6 17,zM 7 18] [2,4,6,7]<|.seq (qs [zM 19 7,qO 20 19] [2,4,6,20]<|qc 20 (qr [zA 21 (.build [.c (.str []),qx 0,qx 0,qx 0,.c (.str []),.nS 1,.nS 5] []),qS 7 4 21,qB 5 false] [4,5]) .skip)<|qr [qA 22 0 2,qF 23 1 22,zM 24 6,qD 25 7 23 24,qT 26 7 25,q1 27 96 26,qS 7 4 27,qB 5 true] [4,5]
theorem K.vN : jJ pZ 45 2 0 C.vN [.cell 4 true 7,.tmp 5]=true:=lS
def C.jv : dI:=qs [zA 2 (.mv<|.k<|.c<|.str [])] [0]<|qs [qI 3 17] [0,3]<|.seq (qs [qI 4 0] [0,3,4]<|.block 0<|.loop<|.seq (qs [zM 7 4,zM 8 0,ql 9 8,qb 10 .lss 7 9] [0,3,4,10]<|qc 10 .skip<|.exit 0)<|.seq (.block 1<|.reg [zM 13 3,zA 14 (.bin .mul (kI 131)<|.t 13),zM 15 0,zM 16 4,zA 17 (.idxs (.t 15)<|.t 16),zA 18 (.Md .i64<|.t 17),qb 19 .add 14 18,qk 20 .rem 19 65521,zM 3 20] [0,3,4])<|.reg [zM 11 4,qk 12 .add 11 1,zM 4 12] [0,3,4])<|qs [zA 5 (.O6 10 1 4 [.lit (.int .u8 0)])] [3,5]<|.seq (qs [qI 6 3] [3,5,6]<|.block 2<|.loop<|.seq (qs [zM 21 6,qk 22 .geq 21 0] [3,5,6,22]<|qc 22 .skip<|.exit 2)<|.seq (.block 3<|qs [zM 25 6,zM 26 3,qk 27 .rem 26 16,zA 28 (.idxs (.k<|.c<|.str [48,49,50,51,52,53,54,55,56,57,97,98,99,100,101,102])<|.t 27),zA 29 (.VL 1 4 (.t 5)<|.t 25),qU 1 29 28] [3,5,6]<|.reg [zM 30 3,qk 31 .quo 30 16,zM 3 31] [3,5,6])<|.reg [zM 23 6,qk 24 .sub 23 1,zM 6 24] [3,5,6])<|qr [zA 32 (.Wu 1 4<|.t 5),zA 33 (.Vq<|.t 32),zM 2 33] [2]
theorem K.jv : jJ pZ 97 1 0 C.jv [.tmp 2]=true:=lS
def C.wo : dI:=qs [qX 1 10 0,zA 2 (.mv<|.k<|.c<|.str [])] [1]<|.seq (qs [qT 3 5 1,q1 4 92 3,qO 5 4] [1,5]<|qc 5 (qr [zA 2 (.mv<|.k<|.c<|.str [])] [2]) .skip)<|qr [qT 6 5 1,q1 7 98 6,q1 8 97 7,zM 2 8] [2]
theorem K.wo : jJ pZ 47 1 0 C.wo [.tmp 2]=true:=lS
def C.rD : dI:=qs [qX 2 10 0,qX 3 11 1,zA 4 (.alloc 12 [.nS 7,qx 0]),zA 5 (.alloc 13 [qx 0,.c (.str []),qx 0,qx 0,qx 0,.c (.str []),.nS 1,.nS 5])] [2,3,4,5]<|qs [qT 9 2 2,qA 10 1 3,qF 11 1 10,q2 12 101 9 11,zM 8 12,qE 13 8 0,qE 14 8 1,zA 6 (.alloc 14 [.nS 7,qx 0]),qS 2 6 13,zM 7 14] [2,4,5,6,7]<|.seq (qs [zM 15 7,qO 16 15] [2,4,5,6,16]<|qc 16 (qr [qT 17 2 2,q1 18 46 17,zA 19 (.build [qx 0,.c (.str []),qx 0,qx 0,qx 0,.c (.str []),.nS 1,.nS 5] [(0,1,kI 422)]),qS 2 4 18,qS 8 5 19] [4,5]) .skip)<|.seq (.uC [(qT 20 2 6,[]),(qA 21 1 6,[]),(qF 22 1 21,[1]),(zA 23 (.build [qx 0,.c (.str []),qx 0,qx 0,qx 0,.c (.str []),.nS 1,.nS 5] [(0,1,kI 200),(2,1,.t 22)]),[1,2]),(qS 2 4 20,[0]),(qS 8 5 23,OE)] [4,5]) .ret
theorem K.rD : jJ pZ 49 2 0 C.rD [.cell 4 true 2,.cell 5 true 8]=true:=lS
def C.ou : dI:=C.ins 7 104 174 [.str [],.lit (.int .i64 0),.lit (.int .i64 0),.lit (.int .i64 0),.str [],.sl 1 [],.sl 5 []]
theorem K.ou : LZ pZ 156 3 2 C.ou [.tmp 6]=true:=lS
def C.xW : dI:=qs [qX 3 10 1,zA 4 (.mv<|.k<|.nS 7)] [0,3]<|qs [zM 8 0,qA 9 0 3,qF 10 1 9,q2 11 95 8 10,zM 7 11,qE 12 7 0,qE 13 7 1,zM 5 12,zM 6 13] [0,3,5,6]<|.seq (qs [zM 14 6] [0,3,5,14]<|qc 14 (qs [zM 15 0,zM 16 5,qT 17 7 3,qD 18 7 15 16,qS 7 18 17] [0]<|qr [zM 19 0,zM 4 19] [4]) .skip)<|qr [zM 20 0,zM 21 5,qT 22 7 3,zA 23 (.uB 11 7 1 [.str [],.lit (.int .i64 0),.lit (.int .i64 0),.lit (.int .i64 0),.str [],.sl 1 [],.sl 5 []] [(0,.t 22)]),q3 24 156 20 21 23,zM 4 24] [4]
theorem K.xW : jJ pZ 132 2 1 C.xW [.tmp 4]=true:=lS
def C.vO : dI:=qs [qX 3 10 0,qX 5 11 2,zA 6 (.alloc 12 [.nS 7,qx 0]),qB 7 false] [1,3,5,6]<|.seq (qs [qT 9 2 3,q1 10 43 9,qO 11 10,zM 12 11,qm 12 false 13 1,⟨(some (12,false)),some 14,.call 91 [.t 13]⟩,zG 12 false 15 (.not<|.t 14),qQ 16 12 15,zM 17 16,zG 17 false 18 (.load true 5<|.t 5),⟨(some (17,false)),some 19,.call 92 [.t 18]⟩,zG 17 false 20 (.not<|.t 19),qQ 21 17 20] [1,3,5,6,21]<|qc 21 (qr [zA 22 (.build [.nS 7,qx 0] []),qS 2 6 22,qB 7 false] [6,7]) .skip)<|qs [qT 23 2 3,q1 24 46 23,zA 8 (.alloc 13 [.nS 7,qx 0]),qS 2 8 24] [1,5,6,8]<|qs [qA 25 1 8,qF 26 1 25,qk 27 .add 26 1,qA 28 1 8,qU 1 28 27] [1,5,6,8]<|.seq (.uC [(qA 29 0 8,[]),(qF 30 1 29,[0]),(zM 31 1,[]),(qA 32 1 8,[]),(qF 33 1 32,[3]),(qT 34 5 5,[]),(q1 35 124 34,[5]),(zA 36 (.build [.c (.str []),qx 0,qx 0,qx 0,.c (.str []),.nS 1,.nS 5] [(0,1,.t 31),(1,1,.t 33),(2,5,.t 35)]),[2,3,4,5,6]),(q2 37 132 30 36,Oo),(qA 38 0 8,TY),(qU 1 38 37,FM)] [6,8])<|.seq (qs [qT 39 2 8,q1 40 43 39,qO 41 40] [6,8,41]<|qc 41 (qr [zA 42 (.build [.nS 7,qx 0] []),qS 2 6 42,qB 7 false] [6,7]) .skip)<|qr [qT 43 2 8,qS 2 6 43,qB 7 true] [6,7]
theorem K.vO : jJ pZ 103 3 0 C.vO [.cell 6 true 2,.tmp 7]=true:=lS
def C.wF : dI:=qs [zM 7 0,qN 8 7,qA 9 3 8,qF 10 1 9,zM 11 1,q2 12 171 10 11,zM 6 12,qE 13 6 0,qE 14 6 1,zM 4 13,zM 5 14] [0,4,5]<|qs [zM 15 5] [0,4,15]<|qc 15 (qs [zM 16 0,zM 17 0,qN 18 17,qA 19 3 18,qF 20 1 19,zM 21 4,zM 22 4,qk 23 .add 22 1,q3 24 184 20 21 23,qN 25 16,qA 26 3 25,qU 1 26 24] [0,4]<|.reg [zM 27 0,zM 28 0,qN 29 28,qA 30 4 29,qF 31 1 30,zM 32 4,zM 33 4,qk 34 .add 33 1,q3 35 185 31 32 34,qN 36 27,qA 37 4 36,qU 1 37 35] []) .skip
theorem K.wF : jJ pZ 170 2 3 C.wF []=true:=lS
def C.fE : dI:=qs [qX 2 10 0,qX 3 11 1,qZ 4 12] [2,3,4]<|.seq (qs [qA 11 0 3,qF 12 1 11,qk 13 .neq 12 4] [2,3,4,13]<|qc 13 (qr [qT 14 5 3,q1 15 124 14,qS 5 4 15] [4]) .skip)<|qs [zA 16 (.build zN [(0,1,kI 4)]),qZ 5 13,qS 5 5 16] [2,3,4,5]<|.cut (qs [qA 17 0 2,qF 18 1 17,qk 19 .eql 18 4] [2,3,4,5,19]<|qc 19 (.reg [qT 20 5 2,q1 21 124 20,qS 5 5 21] [3,4,5]) .skip)<|.seq (qs [qA 22 3 3,qF 23 1 22,qL 24 23,qI 25 0] [3,4,5,23,24,25]<|.block 0<|.loop<|qs [qb 26 .lss 25 24] [3,4,5,23,24,25,26]<|.seq (qc 26 .skip<|.exit 0)<|.seq (.block 1<|qs [zM 27 25,qD 28 1 23 25,qF 29 1 28,zM 6 27,zM 7 29] [3,4,5,6,7,23,24,25]<|.seq (qs [qA 30 4 3,qF 31 1 30,zM 32 6,qD 33 5 31 32,qA 34 0 33,qF 35 1 34,qk 36 .eql 35 0] [3,4,5,6,7,23,24,25,36]<|qc 36 (qs [zM 37 7,q2 38 170 5 37] [3,4,5,23,24,25]<|.exit 1) .skip)<|qs [qZ 8 14] [3,4,5,6,7,8,23,24,25]<|.cut (qs [qA 40 3 5,qF 41 1 40,zM 42 7,q2 43 171 41 42,zM 39 43,qE 44 39 0,qE 45 39 1,zM 9 44,zM 10 45] [3,4,5,6,7,8,9,10,23,24,25]<|qs [zM 46 10] [3,4,5,6,7,8,9,23,24,25,46]<|qc 46 (.reg [qA 47 4 5,qF 48 1 47,zM 49 9,qD 50 5 48 49,qT 51 5 50,qS 5 8 51] [3,4,5,6,7,8,23,24,25]) .skip)<|.uC [(zM 52 7,[]),(qT 53 5 8,[]),(qA 54 4 3,[]),(qF 55 1 54,[2]),(zM 56 6,[]),(qD 57 5 55 56,[2,3,4]),(qT 58 5 57,[2,3,4,5]),(q2 59 155 53 58,[1,2,3,4,5,6]),(q3 60 172 5 52 59,Oo)] [3,4,5,23,24,25])<|.reg [qk 61 .add 25 1,zM 25 61] [3,4,5,23,24,25])<|qr [qT 62 5 5,qS 5 4 62] [4]
theorem K.fE : jJ pZ 155 2 0 C.fE [.cell 4 true 5]=true:=lS
def C.sV : dI:=qs [qX 2 10 0,qX 3 11 1,qZ 4 12,qB 5 false] [2,3,4]<|.seq (qs [qT 6 5 2,q1 7 92 6,qO 8 7,zM 9 8,zG 9 false 10 (.load true 5<|.t 3),⟨(some (9,false)),some 11,.call 92 [.t 10]⟩,zG 9 false 12 (.not<|.t 11),qQ 13 9 12] [2,3,4,13]<|qc 13 (qr [zA 14 (.build zN []),qS 5 4 14,qB 5 false] [4,5]) .skip)<|qr [qT 15 5 2,qT 16 5 3,q2 17 155 15 16,⟨none,some 18,.call 154 [.t 17,.k (.c<|.lit<|.bool true)]⟩,qE 19 18 0,qE 20 18 1,qS 5 4 19,zM 5 20] [4,5]
theorem K.sV : jJ pZ 131 2 0 C.sV [.cell 4 true 5,.tmp 5]=true:=lS
def C.vS : dI:=qs [qX 2 10 0,qX 3 11 1,qZ 4 12,qB 5 false] [2,3,4]<|.seq (qs [qA 6 0 3,qF 7 1 6] [2,3,4,7]<|.block 0<|qs [qk 9 .eql 7 4,zM 8 9] [2,3,4,7,8]<|qc 8 (qr [qT 10 5 2,qA 11 9 3,qF 12 1 11,q2 13 130 10 12,qE 14 13 0,qE 15 13 1,qS 5 4 14,zM 5 15] [4,5])<|qs [qk 17 .eql 7 5,zM 16 17] [2,3,4,16]<|qc 16 (qr [qT 18 5 2,qA 19 4 3,qT 20 5 19,q2 21 131 18 20,qE 22 21 0,qE 23 21 1,qS 5 4 22,zM 5 23] [4,5]) .skip)<|qr [qA 24 4 3,qT 25 5 24,qS 5 4 25,qB 5 true] [4,5]
theorem K.vS : jJ pZ 102 2 0 C.vS [.cell 4 true 5,.tmp 5]=true:=lS
def C.nP : dI:=qs [qX 4 10 0,qX 5 11 1,qX 6 12 2,zA 8 (.alloc 13 [.nS 7,qx 0]),zA 9 (.alloc 14 [qx 0,.c (.str []),qx 0,qx 0,qx 0,.c (.str []),.nS 1,.nS 5])] [3,4,5,6,8,9]<|qs [qT 15 5 6,qT 16 10 5,q2 17 102 15 16,zM 14 17,qE 18 14 0,qE 19 14 1,qZ 10 15,qS 5 10 18,zM 11 19] [3,4,5,8,9,10,11]<|.seq (qs [zM 20 11,qO 21 20] [3,4,5,8,9,10,21]<|qc 21 (qr [qT 22 2 4,q1 23 46 22,zA 24 (.build [qx 0,.c (.str []),qx 0,qx 0,qx 0,.c (.str []),.nS 1,.nS 5] [(0,1,kI 422)]),qS 2 8 23,qS 8 9 24] [8,9]) .skip)<|qs [qT 26 2 4,qA 27 1 5,qF 28 1 27,qT 29 5 10,q3 30 103 26 28 29,zM 25 30,qE 31 25 0,qE 32 25 1,zA 12 (.alloc 16 [.nS 7,qx 0]),qS 2 12 31,zM 11 32] [3,4,8,9,10,11,12]<|.seq (qs [zM 33 11,qO 34 33] [3,4,8,9,10,12,34]<|qc 34 (qr [qT 35 2 4,q1 36 46 35,zA 37 (.build [qx 0,.c (.str []),qx 0,qx 0,qx 0,.c (.str []),.nS 1,.nS 5] [(0,1,kI 422)]),qS 2 8 36,qS 8 9 37] [8,9]) .skip)<|.seq (.uC [(qT 38 5 10,[]),(q1 39 47 38,[0]),(qA 40 1 12,[]),(qF 41 1 40,[2]),(zA 42 (.build [qx 0,.c (.str []),qx 0,qx 0,qx 0,.c (.str []),.nS 1,.nS 5] [(0,1,kI 200),(1,1,.t 39),(2,1,.t 41)]),PV),(zA 13 (.alloc 17 [qx 0,.c (.str []),qx 0,qx 0,qx 0,.c (.str []),.nS 1,.nS 5]),[]),(qS 8 13 42,OY)] [3,8,9,12,13])<|.seq (qs [zM 43 3,qO 44 43] [8,9,12,13,44]<|qc 44 (.reg [qA 45 0 13,zS (.store false 1 (.t 45)<|kI 201)] [8,9,12,13]) .skip)<|.seq (.uC [(qT 46 2 12,[]),(qT 47 8 13,[]),(qS 2 8 46,[0]),(qS 8 9 47,[0,1,2])] [8,9]) .ret
theorem K.nP : jJ pZ 50 4 0 C.nP [.cell 8 true 2,.cell 9 true 8]=true:=lS
def C.l7 : dI:=qs [qX 1 10 0,qB 2 false] [1]<|qr [qA 3 0 1,qF 4 1 3,qk 5 .geq 4 1,zM 6 5,zG 6 true 7 (.nK 0<|.t 1),zG 6 true 8 (.load false 1<|.t 7),zG 6 true 9 (.bin .leq (.t 8)<|kI 5),qP 10 6 9,zM 11 10,zG 11 true 12 (.nK 1<|.t 1),zG 11 true 13 (.load false 1<|.t 12),⟨(some (11,true)),some 14,.call 91 [.t 13]⟩,qP 15 11 14,zM 16 15,zG 16 true 17 (.nK 2<|.t 1),zG 16 true 18 (.load false 1<|.t 17),⟨(some (16,true)),some 19,.call 93 [.t 18]⟩,qP 20 16 19,zM 21 20,zG 21 true 22 (.nK 3<|.t 1),zG 21 true 23 (.load false 1<|.t 22),⟨(some (21,true)),some 24,.call 93 [.t 23]⟩,qP 25 21 24,zM 26 25,zG 26 true 27 (.nK 4<|.t 1),zG 26 true 28 (.load true 5<|.t 27),⟨(some (26,true)),some 29,.call 92 [.t 28]⟩,qP 30 26 29,zM 31 30,zG 31 true 32 (.nK 9<|.t 1),zG 31 true 33 (.load false 1<|.t 32),⟨(some (31,true)),some 34,.call 94 [.t 33]⟩,qP 35 31 34,zM 2 35] [2]
theorem K.l7 : jJ pZ 44 1 0 C.l7 [.tmp 2]=true:=lS
def C.fG : dI:=qs [qX 2 10 0,qX 3 11 1,zA 4 (.alloc 12 [.nS 7,qx 0]),zA 5 (.alloc 13 [qx 0,.c (.str []),qx 0,qx 0,qx 0,.c (.str []),.nS 1,.nS 5])] [2,3,4,5]<|.seq (qs [qT 10 2 2,q1 11 43 10,qO 12 11,zM 13 12,zG 13 false 14 (.load true 10<|.t 3),⟨(some (13,false)),some 15,.call 44 [.t 14]⟩,zG 13 false 16 (.not<|.t 15),qQ 17 13 16] [2,3,4,5,17]<|qc 17 (qr [zA 18 (.build [.nS 7,qx 0] []),zA 19 (.build [qx 0,.c (.str []),qx 0,qx 0,qx 0,.c (.str []),.nS 1,.nS 5] [(0,1,kI 400)]),qS 2 4 18,qS 8 5 19] [4,5]) .skip)<|qs [qT 21 2 2,qA 22 1 3,qF 23 1 22,q2 24 45 21 23,zM 20 24,qE 25 20 0,qE 26 20 1,zA 6 (.alloc 14 [.c (.str []),qx 0,qx 0,qx 0,.c (.str []),.nS 1,.nS 5]),qS 7 6 25,zM 7 26] [2,3,4,5,6,7]<|.seq (qs [zM 27 7,qO 28 27,zM 29 28,zG 29 true 30 (.nK 0<|.t 3),zG 29 true 31 (.load false 1<|.t 30),zG 29 true 32 (.bin .neq (.t 31)<|kI 2),qP 33 29 32] [2,3,4,5,6,7,33]<|qc 33 (qr [qT 34 2 2,q1 35 46 34,zA 36 (.build [qx 0,.c (.str []),qx 0,qx 0,qx 0,.c (.str []),.nS 1,.nS 5] [(0,1,kI 404)]),qS 2 4 35,qS 8 5 36] [4,5]) .skip)<|qs [zA 8 (.mv<|.k<|.c<|.str [])] [2,3,4,5,6,7,8]<|.cut (qs [zM 37 7] [2,3,4,5,6,7,8,37]<|qc 37 (.reg [qA 38 2 6,qT 39 5 38,q1 40 47 39,zM 8 40] [2,3,4,5,6,7,8]) .skip)<|qs [qA 41 2 3,qF 42 1 41,qA 43 3 3,qF 44 1 43,zM 45 8,qA 46 0 3,qF 47 1 46,qk 48 .eql 47 1,⟨none,some 49,.call 48 [.t 42,.t 44,.t 45,.t 48]⟩,zM 9 49] [2,3,4,5,6,7,8,9]<|.seq (qs [zM 50 9,qk 51 .neq 50 200] [2,3,4,5,6,7,8,9,51]<|qc 51 (qr [qT 52 2 2,q1 53 46 52,zM 54 9,zA 55 (.build [qx 0,.c (.str []),qx 0,qx 0,qx 0,.c (.str []),.nS 1,.nS 5] [(0,1,.t 54)]),qS 2 4 53,qS 8 5 55] [4,5]) .skip)<|.seq (qs [qA 56 0 3,qF 57 1 56] [2,3,4,5,6,7,8,57]<|.block 0<|qs [qk 59 .eql 57 1,zM 58 59] [2,3,4,5,6,7,8,57,58]<|qc 58 (.seq (.uC [(qT 60 2 2,[]),(q1 61 46 60,[0]),(zM 62 8,[]),(qA 63 1 6,[]),(qF 64 1 63,[3]),(qA 65 2 6,[]),(qT 66 5 65,[5]),(zA 67 (.build [qx 0,.c (.str []),qx 0,qx 0,qx 0,.c (.str []),.nS 1,.nS 5] [(0,1,kI 200),(1,1,.t 62),(2,1,.t 64),(3,5,.t 66)]),[2,3,4,5,6]),(qS 2 4 61,[0,1]),(qS 8 5 67,TY)] [4,5]) .ret)<|qs [qk 69 .eql 57 3,zM 68 69] [2,3,4,5,6,7,68]<|qc 68 (qr [qT 70 2 2,qT 71 10 3,q2 72 49 70 71,qE 73 72 0,qE 74 72 1,qS 2 4 73,qS 8 5 74] [4,5]) .skip)<|qr [qT 75 2 2,qT 76 10 3,qA 77 2 6,qT 78 5 77,zM 79 7,⟨none,some 80,.call 50 [.t 75,.t 76,.t 78,.t 79]⟩,qE 81 80 0,qE 82 80 1,qS 2 4 81,qS 8 5 82] [4,5]
theorem K.fG : jJ pZ 11 2 0 C.fG [.cell 4 true 2,.cell 5 true 8]=true:=lS
def C.iZ : dI:=qs [qB 2 false] [0]<|.seq (qs [zM 5 0,qL 6 5,qk 7 .gtr 6 8] [0,7]<|qc 7 (qr [qB 2 false] [2]) .skip)<|.seq (qs [zM 8 0,qL 9 8,qI 10 0] [8,9,10]<|.block 0<|.loop<|qs [qb 11 .lss 10 9] [8,9,10,11]<|.seq (qc 11 .skip<|.exit 0)<|.seq (.block 1<|qs [qD 12 10 8 10,qT 13 10 12,zA 4 (.alloc 10 [qx 0,.c (.str []),.nS 1,.nS 1,qx 0,qx 0,.c (.str []),.nS 1,.nS 5,.nS 8]),qS 10 4 13] [4,8,9,10]<|qs [qT 14 10 4,q1 15 44 14,qO 16 15] [8,9,10,16]<|qc 16 (qr [qB 2 false] [2]) .skip)<|.reg [qk 17 .add 10 1,zM 10 17] [8,9,10])<|qr [qB 2 true] [2]
theorem K.iZ : jJ pZ 63 1 0 C.iZ [.tmp 2]=true:=lS
def C.o8 : dI:=qs [qB 2 false] [0]<|qr [zM 3 0,qk 4 .eql 3 200,zM 5 4,qm 5 false 6 0,zG 5 false 7 (.bin .eql (.t 6)<|kI 201),qQ 8 5 7,zM 2 8] [2]
theorem K.o8 : jJ pZ 71 1 0 C.o8 [.tmp 2]=true:=lS
def C.OM : dI:=qs [qX 3 10 0,zA 6 (.alloc 11 [.nS 7,qx 0]),zA 7 (.mv<|.k<|.nS 8)] [1,2,3,6]<|qs [qT 14 2 3,q1 15 46 14,zA 8 (.alloc 12 [.nS 7,qx 0]),qS 2 8 15] [1,2,6,8]<|qs [zA 9 (.mv<|.k<|.nS 8)] [1,2,6,8,9]<|.seq (qs [zM 16 1,qL 17 16,qI 18 0] [2,6,8,9,16,17,18]<|.block 0<|.loop<|qs [qb 19 .lss 18 17] [2,6,8,9,16,17,18,19]<|.seq (qc 19 .skip<|.exit 0)<|.seq (.block 1<|qs [qD 20 10 16 18,qT 21 10 20,zA 11 (.alloc 13 [qx 0,.c (.str []),.nS 1,.nS 1,qx 0,qx 0,.c (.str []),.nS 1,.nS 5,.nS 8]),qS 10 11 21] [2,6,8,9,11,16,17,18]<|qs [qT 23 2 8,qT 24 10 11,q2 25 11 23 24,zM 22 25,qE 26 22 0,qE 27 22 1,zA 12 (.alloc 14 [.nS 7,qx 0]),zA 13 (.alloc 15 [qx 0,.c (.str []),qx 0,qx 0,qx 0,.c (.str []),.nS 1,.nS 5]),qS 2 12 26,qS 8 13 27] [2,6,8,9,12,13,16,17,18]<|qs [qT 28 2 12,qS 2 8 28] [2,6,8,9,13,16,17,18]<|qs [zM 29 9,qT 30 8 13,zA 31 (.uB 16 8 1 [.lit (.int .i64 0),.str [],.lit (.int .i64 0),.lit (.int .i64 0),.lit (.int .i64 0),.str [],.sl 1 [],.sl 5 []] [(0,.t 30)]),zA 32 (.append 17 8 112 (.t 29)<|.t 31),zM 9 32] [2,6,8,9,13,16,17,18]<|qs [zM 33 2,qA 34 0 13,qF 35 1 34,⟨none,some 36,.IX (.t 33) [.t 35]⟩,qO 37 36] [2,6,8,9,16,17,18,37]<|qc 37 (.exit 0) .skip)<|.reg [qk 38 .add 18 1,zM 18 38] [2,6,8,9,16,17,18])<|qr [qT 39 2 8,zM 40 9,qS 2 6 39,zM 7 40] [6,7]
theorem K.gy : jJ pZ 64 3 0 C.OM [.cell 6 true 2,.tmp 7]=true:=lS
def C.kD : dI:=qs [qX 2 10 0,zA 4 (.alloc 11 [.nS 7,qx 0]),zA 5 (.mv<|.k<|.nS 8),qB 6 false] [1,2,4]<|.seq (qs [qT 11 2 2,q1 12 43 11,qO 13 12,zM 14 13,qm 14 false 15 1,⟨(some (14,false)),some 16,.call 63 [.t 15]⟩,zG 14 false 17 (.not<|.t 16),qQ 18 14 17] [1,2,4,18]<|qc 18 (qr [zA 19 (.build [.nS 7,qx 0] []),qS 2 4 19,zA 5 (.mv<|.k<|.nS 8),qB 6 false] [4,5,6]) .skip)<|qs [qT 21 2 2,zM 22 1,⟨none,some 23,.call 64 [.t 21,.t 22,.k (.fn 71 [])]⟩,zM 20 23,qE 24 20 0,qE 25 20 1,zA 7 (.alloc 12 [.nS 7,qx 0]),qS 2 7 24,zM 8 25] [2,4,7,8]<|.seq (qs [zM 26 8,qL 27 26,qI 28 0] [2,4,7,8,26,27,28]<|.block 0<|.loop<|qs [qb 29 .lss 28 27] [2,4,7,8,26,27,28,29]<|.seq (qc 29 .skip<|.exit 0)<|.seq (.block 1<|qs [qD 30 8 26 28,qT 31 8 30,zA 10 (.alloc 13 [qx 0,.c (.str []),qx 0,qx 0,qx 0,.c (.str []),.nS 1,.nS 5]),qS 8 10 31] [2,4,7,8,10,26,27,28]<|qs [qA 32 0 10,qF 33 1 32,q1 34 71 33,qO 35 34] [2,4,7,8,26,27,28,35]<|qc 35 (qr [qT 36 2 2,q1 37 46 36,zM 38 8,qS 2 4 37,zM 5 38,qB 6 false] [4,5,6]) .skip)<|.reg [qk 39 .add 28 1,zM 28 39] [2,4,7,8,26,27,28])<|qr [qT 40 2 7,zM 41 8,qS 2 4 40,zM 5 41,qB 6 true] [4,5,6]
theorem K.kD : jJ pZ 30 2 0 C.kD [.cell 4 true 2,.tmp 5,.tmp 6]=true:=lS
def C.jT : dI:=qs [qB 4 false] [0,1]<|.seq (qs [zM 6 0,qL 7 6,zM 8 1,qL 9 8,qb 10 .neq 7 9] [0,1,10]<|qc 10 (qr [qB 4 false] [4]) .skip)<|.seq (qs [qI 5 0] [0,1,5]<|.block 0<|.loop<|.seq (qs [zM 11 5,zM 12 0,qL 13 12,qb 14 .lss 11 13] [0,1,5,14]<|qc 14 .skip<|.exit 0)<|.seq (.block 1<|.seq (.uC [(zM 17 0,[]),(zM 18 5,[]),(qD 19 1 17 18,[0,1]),(qF 20 1 19,[0,1,2]),(zM 21 1,[]),(zM 22 5,[]),(qD 23 1 21 22,[4,5]),(qF 24 1 23,[4,5,6]),(qb 25 .neq 20 24,Oo)] [0,1,5,25])<|qc 25 (qr [qB 4 false] [4]) .skip)<|.reg [zM 15 5,qk 16 .add 15 1,zM 5 16] [0,1,5])<|qr [qB 4 true] [4]
theorem K.jT : jJ pZ 53 2 0 C.jT [.tmp 4]=true:=lS
def C.qW : dI:=qs [qX 2 10 0,qX 3 11 1,qB 4 false] [2,3]<|.seq (qs [qA 5 0 2,qF 6 1 5,qA 7 0 3,qF 8 1 7,qb 9 .neq 6 8] [2,3,9]<|qc 9 (qr [qB 4 false] [4]) .skip)<|.seq (qs [qA 10 1 2,qF 11 1 10,qA 12 1 3,qF 13 1 12,qb 14 .neq 11 13] [2,3,14]<|qc 14 (qr [qB 4 false] [4]) .skip)<|.seq (qs [qA 15 2 2,qF 16 1 15,qA 17 2 3,qF 18 1 17,qb 19 .neq 16 18] [2,3,19]<|qc 19 (qr [qB 4 false] [4]) .skip)<|.seq (qs [qA 20 3 2,qF 21 1 20,qA 22 3 3,qF 23 1 22,q2 24 53 21 23,qO 25 24] [2,3,25]<|qc 25 (qr [qB 4 false] [4]) .skip)<|.seq (qs [qA 26 4 2,qF 27 1 26,qA 28 4 3,qF 29 1 28,q2 30 105 27 29,qO 31 30] [31]<|qc 31 (qr [qB 4 false] [4]) .skip)<|qr [qB 4 true] [4]
theorem K.qW : jJ pZ 52 2 0 C.qW [.tmp 4]=true:=lS
def C.qC : dI:=qs [qB 4 false] [0,1]<|.seq (qs [zM 6 0,qL 7 6,zM 8 1,qL 9 8,qb 10 .neq 7 9] [0,1,10]<|qc 10 (qr [qB 4 false] [4]) .skip)<|.seq (qs [qI 5 0] [0,1,5]<|.block 0<|.loop<|.seq (qs [zM 11 5,zM 12 0,qL 13 12,qb 14 .lss 11 13] [0,1,5,14]<|qc 14 .skip<|.exit 0)<|.seq (.block 1<|.seq (.uC [(zM 17 0,[]),(zM 18 5,[]),(qD 19 5 17 18,[0,1]),(qT 20 5 19,[0,1,2]),(zM 21 1,[]),(zM 22 5,[]),(qD 23 5 21 22,[4,5]),(qT 24 5 23,[4,5,6]),(q2 25 52 20 24,Oo),(qO 26 25,TY)] [0,1,5,26])<|qc 26 (qr [qB 4 false] [4]) .skip)<|.reg [zM 15 5,qk 16 .add 15 1,zM 5 16] [0,1,5])<|qr [qB 4 true] [4]
theorem K.qC : jJ pZ 105 2 0 C.qC [.tmp 4]=true:=lS
def C.yx : dI:=qs [qX 2 10 0,qX 3 11 1,qB 4 false] [2,3]<|.seq (qs [qA 5 0 2,qF 6 1 5,qA 7 0 3,qF 8 1 7,qb 9 .neq 6 8] [2,3,9]<|qc 9 (qr [qB 4 false] [4]) .skip)<|.seq (qs [qA 10 1 2,qF 11 1 10,qA 12 1 3,qF 13 1 12,qb 14 .neq 11 13] [2,3,14]<|qc 14 (qr [qB 4 false] [4]) .skip)<|.seq (qs [qA 15 2 2,qT 16 5 15,qA 17 2 3,qT 18 5 17,q2 19 52 16 18,qO 20 19] [20]<|qc 20 (qr [qB 4 false] [4]) .skip)<|qr [qB 4 true] [4]
theorem K.yx : jJ pZ 104 2 0 C.yx [.tmp 4]=true:=lS
def C.oU : dI:=qs [qB 4 false] [0,1]<|.seq (qs [zM 6 0,qL 7 6,zM 8 1,qL 9 8,qb 10 .neq 7 9] [0,1,10]<|qc 10 (qr [qB 4 false] [4]) .skip)<|.seq (qs [qI 5 0] [0,1,5]<|.block 0<|.loop<|.seq (qs [zM 11 5,zM 12 0,qL 13 12,qb 14 .lss 11 13] [0,1,5,14]<|qc 14 .skip<|.exit 0)<|.seq (.block 1<|.seq (.uC [(zM 17 0,[]),(zM 18 5,[]),(qD 19 7 17 18,[0,1]),(qT 20 7 19,[0,1,2]),(zM 21 1,[]),(zM 22 5,[]),(qD 23 7 21 22,[4,5]),(qT 24 7 23,[4,5,6]),(q2 25 104 20 24,Oo),(qO 26 25,TY)] [0,1,5,26])<|qc 26 (qr [qB 4 false] [4]) .skip)<|.reg [zM 15 5,qk 16 .add 15 1,zM 5 16] [0,1,5])<|qr [qB 4 true] [4]
theorem K.oU : jJ pZ 51 2 0 C.oU [.tmp 4]=true:=lS
def C.Bg : dI:=qs [qX 2 10 0,qX 3 11 1,qB 4 false] [2,3]<|.seq (qs [qA 5 0 2,qF 6 1 5,qA 7 0 3,qF 8 1 7,qb 9 .neq 6 8] [2,3,9]<|qc 9 (qr [qB 4 false] [4]) .skip)<|.seq (qs [qA 10 1 2,qF 11 1 10,qA 12 1 3,qF 13 1 12,q2 14 53 11 13,qO 15 14] [2,3,15]<|qc 15 (qr [qB 4 false] [4]) .skip)<|.seq (qs [qA 16 2 2,qF 17 1 16,qA 18 2 3,qF 19 1 18,q2 20 53 17 19,qO 21 20] [2,3,21]<|qc 21 (qr [qB 4 false] [4]) .skip)<|.seq (qs [qA 22 3 2,qT 23 5 22,qA 24 3 3,qT 25 5 24,q2 26 52 23 25,qO 27 26] [27]<|qc 27 (qr [qB 4 false] [4]) .skip)<|qr [qB 4 true] [4]
theorem K.Bg : jJ pZ 106 2 0 C.Bg [.tmp 4]=true:=lS
def C.uj : dI:=qs [qB 4 false] [0,1]<|.seq (qs [zM 6 0,qL 7 6,zM 8 1,qL 9 8,qb 10 .neq 7 9] [0,1,10]<|qc 10 (qr [qB 4 false] [4]) .skip)<|.seq (qs [qI 5 0] [0,1,5]<|.block 0<|.loop<|.seq (qs [zM 11 5,zM 12 0,qL 13 12,qb 14 .lss 11 13] [0,1,5,14]<|qc 14 .skip<|.exit 0)<|.seq (.block 1<|.seq (.uC [(zM 17 0,[]),(zM 18 5,[]),(qD 19 8 17 18,[0,1]),(qT 20 8 19,[0,1,2]),(zM 21 1,[]),(zM 22 5,[]),(qD 23 8 21 22,[4,5]),(qT 24 8 23,[4,5,6]),(q2 25 106 20 24,Oo),(qO 26 25,TY)] [0,1,5,26])<|qc 26 (qr [qB 4 false] [4]) .skip)<|.reg [zM 15 5,qk 16 .add 15 1,zM 5 16] [0,1,5])<|qr [qB 4 true] [4]
theorem K.uj : jJ pZ 54 2 0 C.uj [.tmp 4]=true:=lS
def C.vG : dI:=qs [qX 2 10 0,qX 3 11 1,qB 4 false] [2,3]<|.seq (qs [qA 5 0 2,qF 6 1 5,qA 7 0 3,qF 8 1 7,qb 9 .neq 6 8] [2,3,9]<|qc 9 (qr [qB 4 false] [4]) .skip)<|.seq (qs [qA 10 1 2,qF 11 1 10,qA 12 1 3,qF 13 1 12,qb 14 .neq 11 13] [2,3,14]<|qc 14 (qr [qB 4 false] [4]) .skip)<|.seq (qs [qA 15 2 2,qF 16 1 15,qA 17 2 3,qF 18 1 17,q2 19 53 16 18,qO 20 19] [2,3,20]<|qc 20 (qr [qB 4 false] [4]) .skip)<|.seq (qs [qA 21 3 2,qF 22 1 21,qA 23 3 3,qF 24 1 23,q2 25 53 22 24,qO 26 25] [2,3,26]<|qc 26 (qr [qB 4 false] [4]) .skip)<|.seq (qs [qA 27 4 2,qT 28 5 27,qA 29 4 3,qT 30 5 29,q2 31 52 28 30,qO 32 31] [2,3,32]<|qc 32 (qr [qB 4 false] [4]) .skip)<|.seq (qs [qA 33 9 2,qF 34 1 33,qA 35 9 3,qF 36 1 35,q2 37 54 34 36,qO 38 37] [38]<|qc 38 (qr [qB 4 false] [4]) .skip)<|qr [qB 4 true] [4]
theorem K.vG : jJ pZ 14 2 0 C.vG [.tmp 4]=true:=lS
def C.lH : dI:=qs [qB 4 false] [0,1]<|.seq (qs [zM 6 0,qL 7 6,zM 8 1,qL 9 8,qb 10 .neq 7 9] [0,1,10]<|qc 10 (qr [qB 4 false] [4]) .skip)<|.seq (qs [qI 5 0] [0,1,5]<|.block 0<|.loop<|.seq (qs [zM 11 5,zM 12 0,qL 13 12,qb 14 .lss 11 13] [0,1,5,14]<|qc 14 .skip<|.exit 0)<|.seq (.block 1<|.seq (.uC [(zM 17 0,[]),(zM 18 5,[]),(qD 19 10 17 18,[0,1]),(qT 20 10 19,[0,1,2]),(zM 21 1,[]),(zM 22 5,[]),(qD 23 10 21 22,[4,5]),(qT 24 10 23,[4,5,6]),(q2 25 14 20 24,Oo),(qO 26 25,TY)] [0,1,5,26])<|qc 26 (qr [qB 4 false] [4]) .skip)<|.reg [zM 15 5,qk 16 .add 15 1,zM 5 16] [0,1,5])<|qr [qB 4 true] [4]
theorem K.lH : jJ pZ 25 2 0 C.lH [.tmp 4]=true:=lS
def C.uA : dI:=qs [qX 2 10 0,qX 3 11 1,qB 4 false] [2,3]<|.seq (qs [qA 5 0 2,qF 6 1 5,qA 7 0 3,qF 8 1 7,qb 9 .neq 6 8] [2,3,9]<|qc 9 (qr [qB 4 false] [4]) .skip)<|.seq (qs [qA 10 1 2,qF 11 1 10,qA 12 1 3,qF 13 1 12,qb 14 .neq 11 13] [2,3,14]<|qc 14 (qr [qB 4 false] [4]) .skip)<|.seq (qs [qA 15 2 2,qF 16 1 15,qA 17 2 3,qF 18 1 17,qb 19 .neq 16 18] [2,3,19]<|qc 19 (qr [qB 4 false] [4]) .skip)<|.seq (qs [qA 20 3 2,qT 21 5 20,qA 22 3 3,qT 23 5 22,q2 24 52 21 23,qO 25 24] [25]<|qc 25 (qr [qB 4 false] [4]) .skip)<|qr [qB 4 true] [4]
theorem K.uA : jJ pZ 13 2 0 C.uA [.tmp 4]=true:=lS
def C.jS : dI:=qs [qB 4 false] [0,1]<|.seq (qs [zM 6 0,qL 7 6,zM 8 1,qL 9 8,qb 10 .neq 7 9] [0,1,10]<|qc 10 (qr [qB 4 false] [4]) .skip)<|.seq (qs [qI 5 0] [0,1,5]<|.block 0<|.loop<|.seq (qs [zM 11 5,zM 12 0,qL 13 12,qb 14 .lss 11 13] [0,1,5,14]<|qc 14 .skip<|.exit 0)<|.seq (.block 1<|.seq (.uC [(zM 17 0,[]),(zM 18 5,[]),(qD 19 8 17 18,[0,1]),(qT 20 8 19,[0,1,2]),(zM 21 1,[]),(zM 22 5,[]),(qD 23 8 21 22,[4,5]),(qT 24 8 23,[4,5,6]),(q2 25 13 20 24,Oo),(qO 26 25,TY)] [0,1,5,26])<|qc 26 (qr [qB 4 false] [4]) .skip)<|.reg [zM 15 5,qk 16 .add 15 1,zM 5 16] [0,1,5])<|qr [qB 4 true] [4]
theorem K.jS : jJ pZ 24 2 0 C.jS [.tmp 4]=true:=lS
def C.uy : dI:=qs [qX 2 10 0,qX 3 11 1,qB 4 false] [2,3]<|.seq (qs [qA 5 0 2,qF 6 1 5,qA 7 0 3,qF 8 1 7,q2 9 51 6 8,qO 10 9] [2,3,10]<|qc 10 (qr [qB 4 false] [4]) .skip)<|.seq (qs [qA 11 1 2,qF 12 1 11,qA 13 1 3,qF 14 1 13,qb 15 .neq 12 14] [15]<|qc 15 (qr [qB 4 false] [4]) .skip)<|qr [qB 4 true] [4]
theorem K.uy : jJ pZ 12 2 0 C.uy [.tmp 4]=true:=lS
def C.jf : dI:=qs [zA 2 (.mv<|.k<|.c<|.str [])] [0]<|.seq (qs [zM 4 0,qk 5 .leq 4 0] [0,5]<|qc 5 (qr [zA 2 (.mv<|.k<|.c<|.str [109,48])] [2]) .skip)<|qs [zA 3 (.mv<|.k<|.c<|.str [])] [0,3]<|.seq (.block 0<|.loop<|.seq (qs [zM 6 0,qk 7 .gtr 6 0] [0,3,7]<|qc 7 .skip<|.exit 0)<|.block 1<|qs [zM 8 0,qk 9 .rem 8 10,zA 10 (.bin .add (kI 48)<|.t 9),zA 11 (.Md .u8<|.t 10),zA 12 (.uB 10 1 1 [.lit (.int .u8 0)] [(0,.t 11)]),zA 13 (.Vq<|.t 12),zM 14 3,qb 15 .add 13 14,zM 3 15] [0,3]<|.reg [zM 16 0,qk 17 .quo 16 10,zM 0 17] [0,3])<|qr [zM 18 3,zA 19 (.bin .add (.k<|.c<|.str [109])<|.t 18),zM 2 19] [2]
theorem K.jf : jJ pZ 66 1 0 C.jf [.tmp 2]=true:=lS
def C.jk : dI:=qs [qI 4 0] [0,1]<|.seq (qs [qI 5 0] [0,1,5]<|.block 0<|.loop<|.seq (qs [zM 6 5,zM 7 0,qL 8 7,qb 9 .lss 6 8] [0,1,5,9]<|qc 9 .skip<|.exit 0)<|.seq (.block 1<|.seq (.seq (.uC [(zM 12 0,[]),(zM 13 5,[]),(qD 14 1 12 13,[0,1]),(qF 15 1 14,[0,1,2]),(zM 16 1,[]),(q1 17 66 16,[4]),(qb 18 .neq 15 17,OY)] [0,1,5,18])<|qc 18 (qr [qI 4 (-1)] [4]) .skip)<|.reg [zM 19 1,qk 20 .add 19 1,zM 1 20] [0,1,5])<|.reg [zM 10 5,qk 11 .add 10 1,zM 5 11] [0,1,5])<|qr [zM 21 1,zM 4 21] [4]
theorem K.jk : jJ pZ 68 2 0 C.jk [.tmp 4]=true:=lS
def C.jU : dI:=qs [qI 4 0] [0,1]<|.seq (qs [qI 5 0] [0,1,5]<|.block 0<|.loop<|.seq (qs [zM 6 5,zM 7 0,qL 8 7,qb 9 .lss 6 8] [0,1,5,9]<|qc 9 .skip<|.exit 0)<|.seq (.block 1<|.seq (qs [zM 12 0,zM 13 5,qD 14 5 12 13,qA 15 0 14,qF 16 1 15,zM 17 1,qb 18 .neq 16 17] [0,1,5,18]<|qc 18 (qr [qI 4 (-1)] [4]) .skip)<|qs [zM 19 1,qk 20 .add 19 1,zM 1 20] [0,1,5]<|.seq (qs [zM 21 0,zM 22 5,qD 23 5 21 22,qA 24 1 23,qF 25 1 24,zM 26 1,qb 27 .neq 25 26] [0,1,5,27]<|qc 27 (qr [qI 4 (-1)] [4]) .skip)<|qs [zM 28 1,qk 29 .add 28 1,zM 1 29] [0,1,5]<|.seq (.seq (.uC [(zM 30 0,[]),(zM 31 5,[]),(qD 32 5 30 31,[0,1]),(qA 33 2 32,[0,1,2]),(qF 34 1 33,PV),(zM 35 1,[]),(q1 36 66 35,[5]),(qb 37 .neq 34 36,Wj)] [0,1,5,37])<|qc 37 (qr [qI 4 (-1)] [4]) .skip)<|qs [zM 38 1,qk 39 .add 38 1,zM 1 39] [0,1,5]<|qs [zM 40 0,zM 41 5,qD 42 5 40 41,qA 43 3 42,qF 44 1 43,zM 45 1,q2 46 68 44 45,zM 1 46] [0,1,5]<|.seq (qs [zM 47 1,qk 48 .lss 47 0] [0,1,5,48]<|qc 48 (qr [qI 4 (-1)] [4]) .skip)<|qs [zM 49 0,zM 50 5,qD 51 5 49 50,qA 52 4 51,qF 53 1 52,zM 54 1,q2 55 69 53 54,zM 1 55] [0,1,5]<|qs [zM 56 1,qk 57 .lss 56 0] [0,1,5,57]<|qc 57 (qr [qI 4 (-1)] [4]) .skip)<|.reg [zM 10 5,qk 11 .add 10 1,zM 5 11] [0,1,5])<|qr [zM 58 1,zM 4 58] [4]
theorem K.jU : jJ pZ 69 2 0 C.jU [.tmp 4]=true:=lS
def C.l9 : dI:=qs [qI 4 0] [0,1]<|.seq (qs [qI 5 0] [0,1,5]<|.block 0<|.loop<|.seq (qs [zM 6 5,zM 7 0,qL 8 7,qb 9 .lss 6 8] [0,1,5,9]<|qc 9 .skip<|.exit 0)<|.seq (.block 1<|.seq (.seq (.uC [(zM 12 0,[]),(zM 13 5,[]),(qD 14 7 12 13,[0,1]),(qA 15 0 14,[0,1,2]),(qF 16 1 15,PV),(zM 17 1,[]),(q1 18 66 17,[5]),(qb 19 .neq 16 18,Wj)] [0,1,5,19])<|qc 19 (qr [qI 4 (-1)] [4]) .skip)<|qs [zM 20 1,qk 21 .add 20 1,zM 1 21] [0,1,5]<|.seq (qs [zM 22 0,zM 23 5,qD 24 7 22 23,qA 25 1 24,qF 26 1 25,zM 27 1,qb 28 .neq 26 27] [0,1,5,28]<|qc 28 (qr [qI 4 (-1)] [4]) .skip)<|qs [zM 29 1,qk 30 .add 29 1,zM 1 30] [0,1,5]<|.seq (qs [zM 31 0,zM 32 5,qD 33 7 31 32,qA 34 2 33,qA 35 0 34,qF 36 1 35,zM 37 1,qb 38 .neq 36 37] [0,1,5,38]<|qc 38 (qr [qI 4 (-1)] [4]) .skip)<|qs [zM 39 1,qk 40 .add 39 1,zM 1 40] [0,1,5]<|.seq (qs [zM 41 0,zM 42 5,qD 43 7 41 42,qA 44 2 43,qA 45 1 44,qF 46 1 45,zM 47 1,qb 48 .neq 46 47] [0,1,5,48]<|qc 48 (qr [qI 4 (-1)] [4]) .skip)<|qs [zM 49 1,qk 50 .add 49 1,zM 1 50] [0,1,5]<|.seq (.seq (.uC [(zM 51 0,[]),(zM 52 5,[]),(qD 53 7 51 52,[0,1]),(qA 54 2 53,[0,1,2]),(qA 55 2 54,PV),(qF 56 1 55,OE),(zM 57 1,[]),(q1 58 66 57,[6]),(qb 59 .neq 56 58,Oo)] [0,1,5,59])<|qc 59 (qr [qI 4 (-1)] [4]) .skip)<|qs [zM 60 1,qk 61 .add 60 1,zM 1 61] [0,1,5]<|qs [zM 62 0,zM 63 5,qD 64 7 62 63,qA 65 2 64,qA 66 3 65,qF 67 1 66,zM 68 1,q2 69 68 67 68,zM 1 69] [0,1,5]<|.seq (qs [zM 70 1,qk 71 .lss 70 0] [0,1,5,71]<|qc 71 (qr [qI 4 (-1)] [4]) .skip)<|qs [zM 72 0,zM 73 5,qD 74 7 72 73,qA 75 2 74,qA 76 4 75,qF 77 1 76,zM 78 1,q2 79 69 77 78,zM 1 79] [0,1,5]<|qs [zM 80 1,qk 81 .lss 80 0] [0,1,5,81]<|qc 81 (qr [qI 4 (-1)] [4]) .skip)<|.reg [zM 10 5,qk 11 .add 10 1,zM 5 11] [0,1,5])<|qr [zM 82 1,zM 4 82] [4]
theorem K.l9 : jJ pZ 59 2 0 C.l9 [.tmp 4]=true:=lS
def C.jD : dI:=qs [qI 4 0] [0,1]<|.seq (qs [qI 5 0] [0,1,5]<|.block 0<|.loop<|.seq (qs [zM 6 5,zM 7 0,qL 8 7,qb 9 .lss 6 8] [0,1,5,9]<|qc 9 .skip<|.exit 0)<|.seq (.block 1<|.seq (qs [zM 12 0,zM 13 5,qD 14 8 12 13,qA 15 0 14,qF 16 1 15,zM 17 1,qb 18 .neq 16 17] [0,1,5,18]<|qc 18 (qr [qI 4 (-1)] [4]) .skip)<|qs [zM 19 1,qk 20 .add 19 1,zM 1 20] [0,1,5]<|.seq (.seq (.uC [(zM 21 0,[]),(zM 22 5,[]),(qD 23 8 21 22,[0,1]),(qA 24 1 23,[0,1,2]),(qF 25 1 24,PV),(zM 26 1,[]),(q1 27 66 26,[5]),(qb 28 .neq 25 27,Wj)] [0,1,5,28])<|qc 28 (qr [qI 4 (-1)] [4]) .skip)<|qs [zM 29 1,qk 30 .add 29 1,zM 1 30] [0,1,5]<|.seq (qs [zM 31 0,zM 32 5,qD 33 8 31 32,qA 34 2 33,qF 35 1 34,zM 36 1,qb 37 .neq 35 36] [0,1,5,37]<|qc 37 (qr [qI 4 (-1)] [4]) .skip)<|qs [zM 38 1,qk 39 .add 38 1,zM 1 39] [0,1,5]<|.seq (qs [zM 40 0,zM 41 5,qD 42 8 40 41,qA 43 3 42,qA 44 0 43,qF 45 1 44,zM 46 1,qb 47 .neq 45 46] [0,1,5,47]<|qc 47 (qr [qI 4 (-1)] [4]) .skip)<|qs [zM 48 1,qk 49 .add 48 1,zM 1 49] [0,1,5]<|.seq (qs [zM 50 0,zM 51 5,qD 52 8 50 51,qA 53 3 52,qA 54 1 53,qF 55 1 54,zM 56 1,qb 57 .neq 55 56] [0,1,5,57]<|qc 57 (qr [qI 4 (-1)] [4]) .skip)<|qs [zM 58 1,qk 59 .add 58 1,zM 1 59] [0,1,5]<|.seq (.seq (.uC [(zM 60 0,[]),(zM 61 5,[]),(qD 62 8 60 61,[0,1]),(qA 63 3 62,[0,1,2]),(qA 64 2 63,PV),(qF 65 1 64,OE),(zM 66 1,[]),(q1 67 66 66,[6]),(qb 68 .neq 65 67,Oo)] [0,1,5,68])<|qc 68 (qr [qI 4 (-1)] [4]) .skip)<|qs [zM 69 1,qk 70 .add 69 1,zM 1 70] [0,1,5]<|qs [zM 71 0,zM 72 5,qD 73 8 71 72,qA 74 3 73,qA 75 3 74,qF 76 1 75,zM 77 1,q2 78 68 76 77,zM 1 78] [0,1,5]<|.seq (qs [zM 79 1,qk 80 .lss 79 0] [0,1,5,80]<|qc 80 (qr [qI 4 (-1)] [4]) .skip)<|qs [zM 81 0,zM 82 5,qD 83 8 81 82,qA 84 3 83,qA 85 4 84,qF 86 1 85,zM 87 1,q2 88 69 86 87,zM 1 88] [0,1,5]<|qs [zM 89 1,qk 90 .lss 89 0] [0,1,5,90]<|qc 90 (qr [qI 4 (-1)] [4]) .skip)<|.reg [zM 10 5,qk 11 .add 10 1,zM 5 11] [0,1,5])<|qr [zM 91 1,zM 4 91] [4]
theorem K.jD : jJ pZ 28 2 0 C.jD [.tmp 4]=true:=lS
def C.vH : dI:=qs [qX 2 10 0,qI 4 0] [1,2]<|qs [qA 5 0 2,qF 6 1 5,zM 7 1,q2 8 59 6 7,zM 1 8] [1]<|.seq (qs [zM 9 1,qk 10 .lss 9 0] [1,10]<|qc 10 (qr [qI 4 (-1)] [4]) .skip)<|qr [zM 11 1,zM 4 11] [4]
theorem K.vH : jJ pZ 18 2 0 C.vH [.tmp 4]=true:=lS
def C.jy : dI:=qs [qI 4 0] [0,1]<|qs [zM 6 1,zM 7 0,qL 8 7,qb 9 .sub 6 8,zM 1 9] [0,1]<|.seq (qs [zM 10 1,qk 11 .lss 10 0] [0,1,11]<|qc 11 (qr [qI 4 (-1)] [4]) .skip)<|.seq (qs [qI 5 0] [0,1,5]<|.block 0<|.loop<|.seq (qs [zM 12 5,zM 13 0,qL 14 13,qb 15 .lss 12 14] [0,1,5,15]<|qc 15 .skip<|.exit 0)<|.seq (.block 1<|qs [zM 18 1,zM 19 0,zM 20 5,qD 21 1 19 20,qF 22 1 21,ql 23 22,qb 24 .sub 18 23,zM 1 24] [0,1,5]<|qs [zM 25 1,qk 26 .lss 25 0] [0,1,5,26]<|qc 26 (qr [qI 4 (-1)] [4]) .skip)<|.reg [zM 16 5,qk 17 .add 16 1,zM 5 17] [0,1,5])<|qr [zM 27 1,zM 4 27] [4]
theorem K.jy : jJ pZ 32 2 0 C.jy [.tmp 4]=true:=lS
def C.qY : dI:=qs [qX 2 10 0,qI 4 0] [1,2]<|qs [zM 5 1,qA 6 2 2,qF 7 1 6,ql 8 7,qb 9 .sub 5 8,zM 1 9] [1,2]<|.seq (qs [zM 10 1,qk 11 .lss 10 0] [1,2,11]<|qc 11 (qr [qI 4 (-1)] [4]) .skip)<|qs [qA 12 3 2,qF 13 1 12,zM 14 1,q2 15 32 13 14,zM 1 15] [1,2]<|.seq (qs [zM 16 1,qk 17 .lss 16 0] [1,2,17]<|qc 17 (qr [qI 4 (-1)] [4]) .skip)<|qs [qA 18 4 2,qF 19 1 18,zM 20 1,q2 21 73 19 20,zM 1 21] [1]<|.seq (qs [zM 22 1,qk 23 .lss 22 0] [1,23]<|qc 23 (qr [qI 4 (-1)] [4]) .skip)<|qr [zM 24 1,zM 4 24] [4]
theorem K.qY : jJ pZ 33 2 0 C.qY [.tmp 4]=true:=lS
def C.oV : dI:=qs [qI 4 0] [0,1]<|qs [zM 6 1,zM 7 0,qL 8 7,qb 9 .sub 6 8,zM 1 9] [0,1]<|.seq (qs [zM 10 1,qk 11 .lss 10 0] [0,1,11]<|qc 11 (qr [qI 4 (-1)] [4]) .skip)<|.seq (qs [qI 5 0] [0,1,5]<|.block 0<|.loop<|.seq (qs [zM 12 5,zM 13 0,qL 14 13,qb 15 .lss 12 14] [0,1,5,15]<|qc 15 .skip<|.exit 0)<|.seq (.block 1<|qs [zM 18 0,zM 19 5,qD 20 5 18 19,qT 21 5 20,zM 22 1,q2 23 33 21 22,zM 1 23] [0,1,5]<|qs [zM 24 1,qk 25 .lss 24 0] [0,1,5,25]<|qc 25 (qr [qI 4 (-1)] [4]) .skip)<|.reg [zM 16 5,qk 17 .add 16 1,zM 5 17] [0,1,5])<|qr [zM 26 1,zM 4 26] [4]
theorem K.oV : jJ pZ 73 2 0 C.oV [.tmp 4]=true:=lS
def C.wZ : dI:=qs [qX 2 10 0,qI 4 0] [1,2]<|qs [zM 5 1,qA 6 0 2,qF 7 1 6,ql 8 7,qb 9 .sub 5 8,zM 1 9] [1,2]<|.seq (qs [zM 10 1,qk 11 .lss 10 0] [1,2,11]<|qc 11 (qr [qI 4 (-1)] [4]) .skip)<|qs [qA 12 2 2,qT 13 5 12,zM 14 1,q2 15 33 13 14,zM 1 15] [1]<|.seq (qs [zM 16 1,qk 17 .lss 16 0] [1,17]<|qc 17 (qr [qI 4 (-1)] [4]) .skip)<|qr [zM 18 1,zM 4 18] [4]
theorem K.wZ : jJ pZ 72 2 0 C.wZ [.tmp 4]=true:=lS
def C.nM : dI:=qs [qI 4 0] [0,1]<|qs [zM 6 1,zM 7 0,qL 8 7,qb 9 .sub 6 8,zM 1 9] [0,1]<|.seq (qs [zM 10 1,qk 11 .lss 10 0] [0,1,11]<|qc 11 (qr [qI 4 (-1)] [4]) .skip)<|.seq (qs [qI 5 0] [0,1,5]<|.block 0<|.loop<|.seq (qs [zM 12 5,zM 13 0,qL 14 13,qb 15 .lss 12 14] [0,1,5,15]<|qc 15 .skip<|.exit 0)<|.seq (.block 1<|qs [zM 18 0,zM 19 5,qD 20 7 18 19,qT 21 7 20,zM 22 1,q2 23 72 21 22,zM 1 23] [0,1,5]<|qs [zM 24 1,qk 25 .lss 24 0] [0,1,5,25]<|qc 25 (qr [qI 4 (-1)] [4]) .skip)<|.reg [zM 16 5,qk 17 .add 16 1,zM 5 17] [0,1,5])<|qr [zM 26 1,zM 4 26] [4]
theorem K.nM : jJ pZ 31 2 0 C.nM [.tmp 4]=true:=lS
def C.yN : dI:=qs [qX 2 10 0,qI 4 0] [1,2]<|qs [qA 5 1 2,qF 6 1 5,zM 7 1,q2 8 32 6 7,zM 1 8] [1,2]<|.seq (qs [zM 9 1,qk 10 .lss 9 0] [1,2,10]<|qc 10 (qr [qI 4 (-1)] [4]) .skip)<|qs [qA 11 2 2,qF 12 1 11,zM 13 1,q2 14 32 12 13,zM 1 14] [1,2]<|.seq (qs [zM 15 1,qk 16 .lss 15 0] [1,2,16]<|qc 16 (qr [qI 4 (-1)] [4]) .skip)<|qs [qA 17 3 2,qT 18 5 17,zM 19 1,q2 20 33 18 19,zM 1 20] [1]<|.seq (qs [zM 21 1,qk 22 .lss 21 0] [1,22]<|qc 22 (qr [qI 4 (-1)] [4]) .skip)<|qr [zM 23 1,zM 4 23] [4]
theorem K.yN : jJ pZ 74 2 0 C.yN [.tmp 4]=true:=lS
def C.rE : dI:=qs [qI 4 0] [0,1]<|qs [zM 6 1,zM 7 0,qL 8 7,qb 9 .sub 6 8,zM 1 9] [0,1]<|.seq (qs [zM 10 1,qk 11 .lss 10 0] [0,1,11]<|qc 11 (qr [qI 4 (-1)] [4]) .skip)<|.seq (qs [qI 5 0] [0,1,5]<|.block 0<|.loop<|.seq (qs [zM 12 5,zM 13 0,qL 14 13,qb 15 .lss 12 14] [0,1,5,15]<|qc 15 .skip<|.exit 0)<|.seq (.block 1<|qs [zM 18 0,zM 19 5,qD 20 8 18 19,qT 21 8 20,zM 22 1,q2 23 74 21 22,zM 1 23] [0,1,5]<|qs [zM 24 1,qk 25 .lss 24 0] [0,1,5,25]<|qc 25 (qr [qI 4 (-1)] [4]) .skip)<|.reg [zM 16 5,qk 17 .add 16 1,zM 5 17] [0,1,5])<|qr [zM 26 1,zM 4 26] [4]
theorem K.rE : jJ pZ 34 2 0 C.rE [.tmp 4]=true:=lS
def C.pq : dI:=qs [qX 2 10 0,qI 4 0] [1,2]<|qs [zM 5 1,qA 6 1 2,qF 7 1 6,ql 8 7,qb 9 .sub 5 8,zM 1 9] [1,2]<|.seq (qs [zM 10 1,qk 11 .lss 10 0] [1,2,11]<|qc 11 (qr [qI 4 (-1)] [4]) .skip)<|qs [qA 12 2 2,qF 13 1 12,zM 14 1,q2 15 32 13 14,zM 1 15] [1,2]<|.seq (qs [zM 16 1,qk 17 .lss 16 0] [1,2,17]<|qc 17 (qr [qI 4 (-1)] [4]) .skip)<|qs [qA 18 3 2,qF 19 1 18,zM 20 1,q2 21 32 19 20,zM 1 21] [1,2]<|.seq (qs [zM 22 1,qk 23 .lss 22 0] [1,2,23]<|qc 23 (qr [qI 4 (-1)] [4]) .skip)<|qs [qA 24 4 2,qT 25 5 24,zM 26 1,q2 27 33 25 26,zM 1 27] [1,2]<|.seq (qs [zM 28 1,qk 29 .lss 28 0] [1,2,29]<|qc 29 (qr [qI 4 (-1)] [4]) .skip)<|qs [qA 30 9 2,qF 31 1 30,zM 32 1,q2 33 34 31 32,zM 1 33] [1]<|.seq (qs [zM 34 1,qk 35 .lss 34 0] [1,35]<|qc 35 (qr [qI 4 (-1)] [4]) .skip)<|qr [zM 36 1,zM 4 36] [4]
theorem K.pq : jJ pZ 7 2 0 C.pq [.tmp 4]=true:=lS
def C.jQ : dI:=qs [qI 4 0] [0,1]<|qs [zM 6 1,zM 7 0,qL 8 7,qb 9 .sub 6 8,zM 1 9] [0,1]<|.seq (qs [zM 10 1,qk 11 .lss 10 0] [0,1,11]<|qc 11 (qr [qI 4 (-1)] [4]) .skip)<|.seq (qs [qI 5 0] [0,1,5]<|.block 0<|.loop<|.seq (qs [zM 12 5,zM 13 0,qL 14 13,qb 15 .lss 12 14] [0,1,5,15]<|qc 15 .skip<|.exit 0)<|.seq (.block 1<|qs [zM 18 0,zM 19 5,qD 20 10 18 19,qT 21 10 20,zM 22 1,q2 23 7 21 22,zM 1 23] [0,1,5]<|qs [zM 24 1,qk 25 .lss 24 0] [0,1,5,25]<|qc 25 (qr [qI 4 (-1)] [4]) .skip)<|.reg [zM 16 5,qk 17 .add 16 1,zM 5 17] [0,1,5])<|qr [zM 26 1,zM 4 26] [4]
theorem K.jQ : jJ pZ 20 2 0 C.jQ [.tmp 4]=true:=lS
def C.sW : dI:=qs [qX 2 10 0,qI 4 0] [1,2]<|qs [qA 5 0 2,qF 6 1 5,zM 7 1,q2 8 31 6 7,zM 1 8] [1]<|.seq (qs [zM 9 1,qk 10 .lss 9 0] [1,10]<|qc 10 (qr [qI 4 (-1)] [4]) .skip)<|qr [zM 11 1,zM 4 11] [4]
theorem K.sW : jJ pZ 6 2 0 C.sW [.tmp 4]=true:=lS
def C.jV : dI:=qs [zA 2 (.mv<|.k<|.nS 1)] [0]<|qs [zM 5 0,qL 6 5,zA 7 (.makes 10 1 16 [.str []] (.t 6)<|.t 6),zM 3 7] [0,3]<|.seq (qs [qI 4 0] [0,3,4]<|.block 0<|.loop<|.seq (qs [zM 8 4,zM 9 0,qL 10 9,qb 11 .lss 8 10] [0,3,4,11]<|qc 11 .skip<|.exit 0)<|.seq (.block 1<|.reg [zM 14 3,zM 15 4,zM 16 0,zM 17 4,qD 18 1 16 17,qF 19 1 18,qD 20 1 14 15,qU 1 20 19] [0,3,4])<|.reg [zM 12 4,qk 13 .add 12 1,zM 4 13] [0,3,4])<|qr [zM 21 3,zM 2 21] [2]
theorem K.jV : jJ pZ 40 1 0 C.jV [.tmp 2]=true:=lS
def C.sZ : dI:=qs [qX 1 10 0,qZ 2 11] [1,2]<|qs [qZ 3 12] [1,2,3]<|qs [qA 4 0 1,qF 5 1 4,qA 6 0 3,qU 1 6 5] [1,2,3]<|qs [qA 7 1 1,qF 8 1 7,qA 9 1 3,qU 1 9 8] [1,2,3]<|qs [qA 10 2 1,qF 11 1 10,qA 12 2 3,qU 1 12 11] [1,2,3]<|qs [qA 13 3 1,qF 14 1 13,q1 15 40 14,qA 16 3 3,qU 1 16 15] [1,2,3]<|qs [qA 17 4 1,qF 18 1 17,q1 19 89 18,qA 20 4 3,qU 1 20 19] [2,3]<|qr [qT 21 5 3,qS 5 2 21] [2]
theorem K.sZ : jJ pZ 41 1 0 C.sZ [.cell 2 true 5]=true:=lS
def C.qG : dI:=qs [zA 2 (.mv<|.k<|.nS 5)] [0]<|qs [zM 5 0,qL 6 5,zA 7 (.makes 10 5 80 [.lit (.int .i64 0),.lit (.int .i64 0),.str [],.sl 1 [],.sl 5 []] (.t 6)<|.t 6),zM 3 7] [0,3]<|.seq (qs [qI 4 0] [0,3,4]<|.block 0<|.loop<|.seq (qs [zM 8 4,zM 9 0,qL 10 9,qb 11 .lss 8 10] [0,3,4,11]<|qc 11 .skip<|.exit 0)<|.seq (.block 1<|.reg [zM 14 3,zM 15 4,zM 16 0,zM 17 4,qD 18 5 16 17,qT 19 5 18,q1 20 41 19,qD 21 5 14 15,qS 5 21 20] [0,3,4])<|.reg [zM 12 4,qk 13 .add 12 1,zM 4 13] [0,3,4])<|qr [zM 22 3,zM 2 22] [2]
theorem K.qG : jJ pZ 89 1 0 C.qG [.tmp 2]=true:=lS
def C.yz : dI:=qs [qX 1 10 0,zA 2 (.alloc 11 [.c (.str []),qx 0,qx 0,qx 0,.c (.str []),.nS 1,.nS 5])] [1,2]<|qs [zA 3 (.alloc 12 [.c (.str []),qx 0,qx 0,qx 0,.c (.str []),.nS 1,.nS 5])] [1,2,3]<|qs [qA 4 0 1,qF 5 1 4,qA 6 0 3,qU 1 6 5] [1,2,3]<|qs [qA 7 1 1,qF 8 1 7,qA 9 1 3,qU 1 9 8] [1,2,3]<|qs [qA 10 2 1,qT 11 5 10,q1 12 41 11,qA 13 2 3,qS 5 13 12] [2,3]<|qr [qT 14 7 3,qS 7 2 14] [2]
theorem K.yz : jJ pZ 88 1 0 C.yz [.cell 2 true 7]=true:=lS
def C.oW : dI:=qs [zA 2 (.mv<|.k<|.nS 7)] [0]<|qs [zM 5 0,qL 6 5,zA 7 (.makes 10 7 104 [.str [],.lit (.int .i64 0),.lit (.int .i64 0),.lit (.int .i64 0),.str [],.sl 1 [],.sl 5 []] (.t 6)<|.t 6),zM 3 7] [0,3]<|.seq (qs [qI 4 0] [0,3,4]<|.block 0<|.loop<|.seq (qs [zM 8 4,zM 9 0,qL 10 9,qb 11 .lss 8 10] [0,3,4,11]<|qc 11 .skip<|.exit 0)<|.seq (.block 1<|.reg [zM 14 3,zM 15 4,zM 16 0,zM 17 4,qD 18 7 16 17,qT 19 7 18,q1 20 88 19,qD 21 7 14 15,qS 7 21 20] [0,3,4])<|.reg [zM 12 4,qk 13 .add 12 1,zM 4 13] [0,3,4])<|qr [zM 22 3,zM 2 22] [2]
theorem K.oW : jJ pZ 39 1 0 C.oW [.tmp 2]=true:=lS
def C.Bh : dI:=qs [qX 1 10 0,zA 2 (.alloc 11 [qx 0,.nS 1,.nS 1,qx 0,qx 0,.c (.str []),.nS 1,.nS 5])] [1,2]<|qs [zA 3 (.alloc 12 [qx 0,.nS 1,.nS 1,qx 0,qx 0,.c (.str []),.nS 1,.nS 5])] [1,2,3]<|qs [qA 4 0 1,qF 5 1 4,qA 6 0 3,qU 1 6 5] [1,2,3]<|qs [qA 7 1 1,qF 8 1 7,q1 9 40 8,qA 10 1 3,qU 1 10 9] [1,2,3]<|qs [qA 11 2 1,qF 12 1 11,q1 13 40 12,qA 14 2 3,qU 1 14 13] [1,2,3]<|qs [qA 15 3 1,qT 16 5 15,q1 17 41 16,qA 18 3 3,qS 5 18 17] [2,3]<|qr [qT 19 8 3,qS 8 2 19] [2]
theorem K.Bh : jJ pZ 90 1 0 C.Bh [.cell 2 true 8]=true:=lS
def C.uk : dI:=qs [zA 2 (.mv<|.k<|.nS 8)] [0]<|qs [zM 5 0,qL 6 5,zA 7 (.makes 10 8 136 [.lit (.int .i64 0),.sl 1 [],.sl 1 [],.lit (.int .i64 0),.lit (.int .i64 0),.str [],.sl 1 [],.sl 5 []] (.t 6)<|.t 6),zM 3 7] [0,3]<|.seq (qs [qI 4 0] [0,3,4]<|.block 0<|.loop<|.seq (qs [zM 8 4,zM 9 0,qL 10 9,qb 11 .lss 8 10] [0,3,4,11]<|qc 11 .skip<|.exit 0)<|.seq (.block 1<|.reg [zM 14 3,zM 15 4,zM 16 0,zM 17 4,qD 18 8 16 17,qT 19 8 18,q1 20 90 19,qD 21 8 14 15,qS 8 21 20] [0,3,4])<|.reg [zM 12 4,qk 13 .add 12 1,zM 4 13] [0,3,4])<|qr [zM 22 3,zM 2 22] [2]
theorem K.uk : jJ pZ 42 1 0 C.uk [.tmp 2]=true:=lS
def C.vI : dI:=qs [qX 1 10 0,zA 2 (.alloc 11 [qx 0,.c (.str []),.nS 1,.nS 1,qx 0,qx 0,.c (.str []),.nS 1,.nS 5,.nS 8])] [1,2]<|qs [zA 3 (.alloc 12 [qx 0,.c (.str []),.nS 1,.nS 1,qx 0,qx 0,.c (.str []),.nS 1,.nS 5,.nS 8])] [1,2,3]<|qs [qA 4 0 1,qF 5 1 4,qA 6 0 3,qU 1 6 5] [1,2,3]<|qs [qA 7 1 1,qF 8 1 7,qA 9 1 3,qU 1 9 8] [1,2,3]<|qs [qA 10 2 1,qF 11 1 10,q1 12 40 11,qA 13 2 3,qU 1 13 12] [1,2,3]<|qs [qA 14 3 1,qF 15 1 14,q1 16 40 15,qA 17 3 3,qU 1 17 16] [1,2,3]<|qs [qA 18 4 1,qT 19 5 18,q1 20 41 19,qA 21 4 3,qS 5 21 20] [1,2,3]<|qs [qA 22 9 1,qF 23 1 22,q1 24 42 23,qA 25 9 3,qU 1 25 24] [2,3]<|qr [qT 26 10 3,qS 10 2 26] [2]
theorem K.vI : jJ pZ 10 1 0 C.vI [.cell 2 true 10]=true:=lS
def C.kT : dI:=qs [zA 2 (.mv<|.k<|.nS 10)] [0]<|qs [zM 5 0,qL 6 5,zA 7 (.makes 10 10 176 [.lit (.int .i64 0),.str [],.sl 1 [],.sl 1 [],.lit (.int .i64 0),.lit (.int .i64 0),.str [],.sl 1 [],.sl 5 [],.sl 8 []] (.t 6)<|.t 6),zM 3 7] [0,3]<|.seq (qs [qI 4 0] [0,3,4]<|.block 0<|.loop<|.seq (qs [zM 8 4,zM 9 0,qL 10 9,qb 11 .lss 8 10] [0,3,4,11]<|qc 11 .skip<|.exit 0)<|.seq (.block 1<|.reg [zM 14 3,zM 15 4,zM 16 0,zM 17 4,qD 18 10 16 17,qT 19 10 18,q1 20 10 19,qD 21 10 14 15,qS 10 21 20] [0,3,4])<|.reg [zM 12 4,qk 13 .add 12 1,zM 4 13] [0,3,4])<|qr [zM 22 3,zM 2 22] [2]
theorem K.kT : jJ pZ 22 1 0 C.kT [.tmp 2]=true:=lS
def C.vT : dI:=qs [qX 1 10 0,zA 2 (.alloc 11 [.nS 7,qx 0])] [1,2]<|qs [zA 3 (.alloc 12 [.nS 7,qx 0])] [1,2,3]<|qs [qA 4 0 1,qF 5 1 4,q1 6 39 5,qA 7 0 3,qU 1 7 6] [1,2,3]<|qs [qA 8 1 1,qF 9 1 8,qA 10 1 3,qU 1 10 9] [2,3]<|qr [qT 11 2 3,qS 2 2 11] [2]
theorem K.vT : jJ pZ 9 1 0 C.vT [.cell 2 true 2]=true:=lS
def C.cO : dI:=qs [qX 1 10 0,qZ 2 11] [1,2]<|qs [zA 5 (.uB 12 5 0 [.lit (.int .i64 0),.lit (.int .i64 0),.str [],.sl 1 [],.sl 5 []] []),zM 3 5] [1,2,3]<|.seq (qs [qI 4 0] [1,2,3,4]<|.block 0<|.loop<|.seq (qs [zM 6 4,qA 7 4 1,qF 8 1 7,qL 9 8,qb 10 .lss 6 9] [1,2,3,4,10]<|qc 10 .skip<|.exit 0)<|.seq (.block 1<|.reg [zM 13 3,qA 14 4 1,qF 15 1 14,zM 16 4,qD 17 5 15 16,qT 18 5 17,q1 19 83 18,zA 20 (.uB 13 5 1 [.lit (.int .i64 0),.lit (.int .i64 0),.str [],.sl 1 [],.sl 5 []] [(0,.t 19)]),zA 21 (.append 14 5 80 (.t 13)<|.t 20),zM 3 21] [1,2,3,4])<|.reg [zM 11 4,qk 12 .add 11 1,zM 4 12] [1,2,3,4])<|.seq (.uC [(qA 22 0 1,[]),(qF 23 1 22,[0]),(qA 24 1 1,[]),(qF 25 1 24,[2]),(qA 26 2 1,[]),(qF 27 1 26,[4]),(zA 28 (.uB 15 1 0 [.str []] []),[]),(qA 29 3 1,[]),(qF 30 1 29,[7]),(zA 31 (.append 16 1 16 (.t 28)<|.t 30),[6,7,8]),(zM 32 3,[]),(zA 33 (.build zN [(0,1,.t 23),(1,1,.t 25),(2,1,.t 27),(3,1,.t 31),(4,1,.t 32)]),OD),(qS 5 2 33,Ur)] [2]) .ret
theorem K.cO : jJ pZ 83 1 0 C.cO [.cell 2 true 5]=true:=lS
def C.lY : dI:=qs [zA 2 (.mv<|.k<|.c<|.str [])] [0]<|.seq (qs [zM 3 0,qk 4 .lss 3 0,zM 5 4,qm 5 true 6 0,qm 5 true 7 0,zG 5 true 8 (.neg<|.t 7),zG 5 true 9 (.bin .eql (.t 6)<|.t 8),qP 10 5 9] [0,10]<|qc 10 (qr [zA 2 (.mv<|.k<|.c<|.str [45,57,50,50,51,51,55,50,48,51,54,56,53,52,55,55,53,56,48,56])] [2]) .skip)<|.seq (qs [zM 11 0,qk 12 .lss 11 0] [0,12]<|qc 12 (qr [zM 13 0,zA 14 (.neg<|.t 13),q1 15 137 14,zA 16 (.bin .add (.k<|.c<|.str [45])<|.t 15),zM 2 16] [2]) .skip)<|.seq (qs [zM 17 0,qk 18 .lss 17 10] [0,18]<|qc 18 (qr [zM 19 0,zA 20 (.bin .add (kI 48)<|.t 19),zA 21 (.Md .u8<|.t 20),zA 22 (.uB 10 1 1 [.lit (.int .u8 0)] [(0,.t 21)]),zA 23 (.Vq<|.t 22),zM 2 23] [2]) .skip)<|.seq (.uC [(zM 24 0,[]),(qk 25 .quo 24 10,[0]),(q1 26 137 25,[0,1]),(zM 27 0,[]),(qk 28 .rem 27 10,[3]),(zA 29 (.bin .add (kI 48)<|.t 28),[3,4]),(zA 30 (.Md .u8<|.t 29),[3,4,5]),(zA 31 (.uB 11 1 1 [.lit (.int .u8 0)] [(0,.t 30)]),[3,4,5,6]),(zA 32 (.Vq<|.t 31),[3,4,5,6,7]),(qb 33 .add 26 32,TY),(zM 2 33,FM)] [2]) .ret
theorem K.lY : jJ pZ 137 1 0 C.lY [.tmp 2]=true:=lS
def C.jL : dI:=qs [qX 2 10 0,qI 4 0] [1,2]<|.seq (qs [qI 5 0] [1,2,5]<|.block 0<|.loop<|.seq (qs [zM 6 5,qA 7 4 2,qF 8 1 7,qL 9 8,qb 10 .lss 6 9] [1,2,5,10]<|qc 10 .skip<|.exit 0)<|.seq (.block 1<|qs [qA 13 0 2,qF 14 1 13,qk 15 .eql 14 4,zM 16 15,zG 16 true 17 (.nK 3<|.t 2),zG 16 true 18 (.load false 1<|.t 17),qm 16 true 19 5,zG 16 true 20 (.Aj 1 (.t 18)<|.t 19),zG 16 true 21 (.load false 1<|.t 20),qm 16 true 22 1,zG 16 true 23 (.bin .eql (.t 21)<|.t 22),qP 24 16 23,zM 25 24,zG 25 false 26 (.nK 0<|.t 2),zG 25 false 27 (.load false 1<|.t 26),zG 25 false 28 (.bin .eql (.t 27)<|kI 3),qm 25 false 29 28,qm 29 true 30 5,⟨(some (29,true)),some 31,.call 137 [.t 30]⟩,qm 29 true 32 1,zG 29 true 33 (.bin .eql (.t 31)<|.t 32),zG 25 false 34 (.pick (.t 29) (.t 33)<|kB false),qQ 35 25 34] [1,2,5,35]<|qc 35 (qr [zM 36 5,zM 4 36] [4]) .skip)<|.reg [zM 11 5,qk 12 .add 11 1,zM 5 12] [1,2,5])<|qr [qI 4 (-1)] [4]
theorem K.jL : jJ pZ 140 2 0 C.jL [.tmp 4]=true:=lS
def C.mO : dI:=qs [qX 2 10 0,qI 4 0,qB 5 false] [1,2]<|qs [qT 8 5 2,zM 9 1,q2 10 140 8 9,zM 6 10] [1,2,6]<|.seq (qs [zM 11 6,qk 12 .geq 11 0] [1,2,6,12]<|qc 12 (.seq (.uC [(zM 13 6,[]),(qA 14 0 2,[]),(qF 15 1 14,[1]),(qk 16 .eql 15 4,[1,2]),(zM 4 13,[0]),(zM 5 16,OE)] [4,5]) .ret) .skip)<|.seq (qs [qA 17 0 2,qF 18 1 17,qk 19 .eql 18 3,zM 20 19,qm 20 true 21 1,zG 20 true 22 (.bin .eql (.t 21)<|.k<|.c<|.str [45]),qm 20 true 23 22,qm 23 false 24 1,zG 23 false 25 (.nK 4<|.t 2),zG 23 false 26 (.load false 1<|.t 25),zG 23 false 27 (.len<|.t 26),⟨(some (23,false)),some 28,.call 137 [.t 27]⟩,zG 23 false 29 (.bin .eql (.t 24)<|.t 28),zG 20 true 30 (.pick (.t 23) (kB true)<|.t 29),qP 31 20 30] [1,2,31]<|qc 31 (qr [qA 32 4 2,qF 33 1 32,qL 34 33,zM 4 34,qB 5 false] [4,5]) .skip)<|.seq (qs [qI 7 0] [1,2,7]<|.block 0<|.loop<|.seq (qs [qA 35 0 2,qF 36 1 35,qk 37 .eql 36 4,zM 38 37,qm 38 true 39 7,zG 38 true 40 (.nK 4<|.t 2),zG 38 true 41 (.load false 1<|.t 40),zG 38 true 42 (.len<|.t 41),zG 38 true 43 (.bin .leq (.t 39)<|.t 42),qP 44 38 43] [1,2,7,44]<|qc 44 .skip<|.exit 0)<|.seq (.block 1<|qs [zM 47 7,qA 48 4 2,qF 49 1 48,qL 50 49,qb 51 .eql 47 50,zM 52 51,qm 52 false 53 1,zG 52 false 54 (.nK 3<|.t 2),zG 52 false 55 (.load false 1<|.t 54),qm 52 false 56 7,zG 52 false 57 (.Aj 1 (.t 55)<|.t 56),zG 52 false 58 (.load false 1<|.t 57),zG 52 false 59 (.bin .lss (.t 53)<|.t 58),qQ 60 52 59] [1,2,7,60]<|qc 60 (qr [zM 61 7,zM 4 61,qB 5 false] [4,5]) .skip)<|.reg [zM 45 7,qk 46 .add 45 1,zM 7 46] [1,2,7])<|qr [qI 4 (-1),qB 5 false] [4,5]
theorem K.mO : jJ pZ 162 2 0 C.mO [.tmp 4,.tmp 5]=true:=lS
def C.qf : dI:=qs [qX 3 10 0,qX 5 11 2,qZ 6 12] [1,3,5,6]<|qs [qT 8 5 3,q1 9 83 8,qZ 7 13,qS 5 7 9] [1,5,6,7]<|.seq (.uC [(qA 10 4 7,[]),(qF 11 1 10,[0]),(zM 12 1,[]),(qT 13 5 5,[]),(q1 14 83 13,[3]),(qD 15 5 11 12,OE),(qS 5 15 14,OY)] [6,7])<|qr [qT 16 5 7,qS 5 6 16] [6]
theorem K.qf : jJ pZ 142 3 0 C.qf [.cell 6 true 5]=true:=lS
def C.rO : dI:=qs [qX 3 10 0,qX 5 11 2,qZ 6 12,qB 7 false] [1,3,5,6]<|qs [qT 14 5 3,zM 15 1,q2 16 162 14 15,zM 13 16,qE 17 13 0,qE 18 13 1,zM 8 17,zM 9 18] [1,3,5,6,8,9]<|.seq (qs [zM 19 8,qk 20 .lss 19 0] [1,3,5,6,8,9,20]<|qc 20 (qr [zA 21 (.build zN []),qS 5 6 21,qB 7 false] [6,7]) .skip)<|.seq (qs [zM 22 9] [1,3,5,6,8,22]<|qc 22 (qr [qT 23 5 3,zM 24 8,qT 25 5 5,q3 26 142 23 24 25,qS 5 6 26,qB 7 true] [6,7]) .skip)<|qs [qT 27 5 3,q1 28 83 27,qZ 10 13,qS 5 10 28] [1,3,5,6,8,10]<|.seq (.uC [(zA 29 (.uB 14 5 0 [.lit (.int .i64 0),.lit (.int .i64 0),.str [],.sl 1 [],.sl 5 []] []),[]),(qA 30 4 10,[]),(qF 31 1 30,[1]),(zM 32 8,[]),(zA 33 (.IB 5 (.t 31) none<|some<|.t 32),[1,2,3]),(zA 34 (.append 15 5 80 (.t 29)<|.t 33),OE),(qT 35 5 5,[]),(q1 36 83 35,Wj),(zA 37 (.uB 16 5 1 [.lit (.int .i64 0),.lit (.int .i64 0),.str [],.sl 1 [],.sl 5 []] [(0,.t 36)]),Oo),(zA 38 (.append 17 5 80 (.t 34)<|.t 37),TY),(zM 11 38,FM)] [1,3,6,8,10,11])<|qs [zM 39 11,qA 40 4 10,qF 41 1 40,zM 42 8,zA 43 (.IB 5 (.t 41) (some<|.t 42) none),zA 44 (.append 18 5 80 (.t 39)<|.t 43),zM 11 44] [1,3,6,8,10,11]<|.seq (qs [qA 45 0 3,qF 46 1 45,qk 47 .eql 46 3] [1,3,6,8,10,11,47]<|qc 47 (qr [qA 48 0 3,qF 49 1 48,zA 50 (.uB 19 1 0 [.str []] []),zM 51 11,zA 52 (.build zN [(0,1,.t 49),(3,1,.t 50),(4,1,.t 51)]),qS 5 6 52,qB 7 true] [6,7]) .skip)<|qs [zA 53 (.uB 20 1 0 [.str []] []),qA 54 3 10,qF 55 1 54,zM 56 8,zA 57 (.IB 1 (.t 55) none<|some<|.t 56),zA 58 (.append 21 1 16 (.t 53)<|.t 57),zM 59 1,zA 60 (.uB 22 1 1 [.str []] [(0,.t 59)]),zA 61 (.append 23 1 16 (.t 58)<|.t 60),zM 12 61] [3,6,8,10,11,12]<|qs [zM 62 12,qA 63 3 10,qF 64 1 63,zM 65 8,zA 66 (.IB 1 (.t 64) (some<|.t 65) none),zA 67 (.append 24 1 16 (.t 62)<|.t 66),zM 12 67] [3,6,11,12]<|qr [qA 68 0 3,qF 69 1 68,zM 70 12,zM 71 11,zA 72 (.build zN [(0,1,.t 69),(3,1,.t 70),(4,1,.t 71)]),qS 5 6 72,qB 7 true] [6,7]
theorem K.rO : jJ pZ 143 3 0 C.rO [.cell 6 true 5,.tmp 7]=true:=lS
def C.uY : dI:=qs [qX 2 10 0,qZ 4 11,qB 5 false] [1,2,4]<|.seq (qs [qI 6 0] [1,2,4,6]<|.block 0<|.loop<|.seq (qs [zM 8 6,zM 9 1,qL 10 9,qb 11 .lss 8 10] [1,2,4,6,11]<|qc 11 .skip<|.exit 0)<|.seq (.block 1<|.seq (.uC [(qT 14 5 2,[]),(zM 15 1,[]),(zM 16 6,[]),(qD 17 1 15 16,[1,2]),(qF 18 1 17,[1,2,3]),(q2 19 140 14 18,OE),(zM 7 19,OY)] [1,2,4,6,7])<|.seq (qs [zM 20 7,qk 21 .lss 20 0] [1,2,4,6,7,21]<|qc 21 (qr [zA 22 (.build zN []),qS 5 4 22,qB 5 false] [4,5]) .skip)<|.reg [qA 23 4 2,qF 24 1 23,zM 25 7,qD 26 5 24 25,qT 27 5 26,qS 5 2 27] [1,2,4,6])<|.reg [zM 12 6,qk 13 .add 12 1,zM 6 13] [1,2,4,6])<|qr [qT 28 5 2,q1 29 83 28,qS 5 4 29,qB 5 true] [4,5]
theorem K.uY : jJ pZ 159 2 0 C.uY [.cell 4 true 5,.tmp 5]=true:=lS
def C.qj : dI:=qs [qX 3 10 0,qX 5 11 2,qZ 6 12,qB 7 false] [1,3,5,6]<|.seq (qs [zM 11 1,qL 12 11,qk 13 .eql 12 0] [1,3,5,6,13]<|qc 13 (qr [qT 14 5 5,q1 15 83 14,qS 5 6 15,qB 7 true] [6,7]) .skip)<|.seq (.uC [(qT 16 5 3,[]),(zM 17 1,[]),(zA 18 (.Aj 1 (.t 17)<|kI 0),[1]),(qF 19 1 18,[1,2]),(q2 20 140 16 19,PV),(zM 8 20,OE)] [1,3,5,6,8])<|.seq (qs [zM 21 8,qk 22 .lss 21 0] [1,3,5,6,8,22]<|qc 22 (qr [zA 23 (.build zN []),qS 5 6 23,qB 7 false] [6,7]) .skip)<|.seq (.uC [(qA 25 4 3,[]),(qF 26 1 25,[0]),(zM 27 8,[]),(qD 28 5 26 27,[0,1,2]),(qT 29 5 28,PV),(zM 30 1,[]),(zA 31 (.IB 1 (.t 30) (some<|kI 1) none),[5]),(qT 32 5 5,[]),(q3 33 158 29 31 32,Oo),(zM 24 33,TY),(qE 34 24 0,FM),(qE 35 24 1,FM),(qZ 9 13,[]),(qS 5 9 34,[0,1,2,3,4,5,6,7,8,9,10,12]),(zM 10 35,adL)] [3,6,8,9,10])<|.seq (qs [zM 36 10,qO 37 36] [3,6,8,9,37]<|qc 37 (qr [zA 38 (.build zN []),qS 5 6 38,qB 7 false] [6,7]) .skip)<|qr [qT 39 5 3,zM 40 8,qT 41 5 9,q3 42 142 39 40 41,qS 5 6 42,qB 7 true] [6,7]
theorem K.qj : jJ pZ 158 3 0 C.qj [.cell 6 true 5,.tmp 7]=true:=lS
def C.vM : dI:=qs [qX 3 10 0,qX 5 11 2,qZ 6 12,qB 7 false] [1,3,5,6]<|.seq (qs [zM 13 1,qL 14 13,qk 15 .eql 14 0] [1,3,5,6,15]<|qc 15 (qr [qT 16 5 5,q1 17 83 16,qS 5 6 17,qB 7 true] [6,7]) .skip)<|qs [zM 18 1,qL 19 18,qk 20 .sub 19 1,zM 8 20] [1,3,5,6,8]<|.seq (.uC [(qT 22 5 3,[]),(zM 23 1,[]),(zM 24 8,[]),(zA 25 (.IB 1 (.t 23) none<|some<|.t 24),[1,2]),(q2 26 159 22 25,PV),(zM 21 26,OE),(qE 27 21 0,OY),(qE 28 21 1,OY),(qZ 9 13,[]),(qS 5 9 27,[0,1,2,3,4,5,6,8]),(zM 10 28,FM)] [1,3,5,6,8,9,10])<|.seq (qs [zM 29 10,qO 30 29] [1,3,5,6,8,9,30]<|qc 30 (qr [zA 31 (.build zN []),qS 5 6 31,qB 7 false] [6,7]) .skip)<|.seq (.uC [(qT 33 5 9,[]),(zM 34 1,[]),(zM 35 8,[]),(qD 36 1 34 35,[1,2]),(qF 37 1 36,[1,2,3]),(qT 38 5 5,[]),(q3 39 143 33 37 38,OY),(zM 32 39,Wj),(qE 40 32 0,Oo),(qE 41 32 1,Oo),(qZ 11 14,[]),(qS 5 11 40,[0,1,2,3,4,5,6,7,8,10]),(zM 12 41,Ur)] [1,3,6,8,11,12])<|.seq (qs [zM 42 12,qO 43 42] [1,3,6,8,11,43]<|qc 43 (qr [zA 44 (.build zN []),qS 5 6 44,qB 7 false] [6,7]) .skip)<|.seq (.uC [(qT 45 5 3,[]),(zM 46 1,[]),(zM 47 8,[]),(zA 48 (.IB 1 (.t 46) none<|some<|.t 47),[1,2]),(qT 49 5 11,[]),(q3 50 158 45 48 49,OE),(qE 51 50 0,OY),(qE 52 50 1,OY),(qS 5 6 51,Oo),(zM 7 52,TY)] [6,7]) .ret
theorem K.vM : jJ pZ 157 3 0 C.vM [.cell 6 true 5,.tmp 7]=true:=lS
def C.nT : dI:=qs [qB 4 false] [0,1]<|.seq (qs [qI 5 0] [0,1,5]<|.block 0<|.loop<|.seq (qs [zM 6 5,zM 7 1,qL 8 7,qb 9 .lss 6 8] [0,1,5,9]<|qc 9 .skip<|.exit 0)<|.seq (.block 1<|.seq (.uC [(zM 12 5,[]),(zM 13 0,[]),(qL 14 13,[1]),(qb 15 .geq 12 14,[0,1,2]),(zM 16 15,PV),(qm 16 false 17 0,OE),(qm 16 false 18 5,OE),(zG 16 false 19 (.Aj 1 (.t 17)<|.t 18),Wj),(zG 16 false 20 (.load false 1<|.t 19),Oo),(qm 16 false 21 1,OE),(qm 16 false 22 5,OE),(zG 16 false 23 (.Aj 1 (.t 21)<|.t 22),[0,1,2,3,4,9,10]),(zG 16 false 24 (.load false 1<|.t 23),[0,1,2,3,4,9,10,11]),(zG 16 false 25 (.bin .neq (.t 20)<|.t 24),agE),(qQ 26 16 25,adL)] [0,1,5,26])<|qc 26 (qr [qB 4 false] [4]) .skip)<|.reg [zM 10 5,qk 11 .add 10 1,zM 5 11] [0,1,5])<|qr [qB 4 true] [4]
theorem K.nT : jJ pZ 161 2 0 C.nT [.tmp 4]=true:=lS
def C.kW : dI:=qs [qX 2 10 0,qZ 4 11,qB 5 false] [1,2,4]<|qs [zM 12 1,qL 13 12,qk 14 .sub 13 1,zM 6 14] [1,2,4,6]<|.seq (qs [zM 15 6,qk 16 .lss 15 0] [1,2,4,6,16]<|qc 16 (qr [zA 17 (.build zN []),qS 5 4 17,qB 5 false] [4,5]) .skip)<|.seq (.uC [(qT 19 5 2,[]),(zM 20 1,[]),(zM 21 6,[]),(zA 22 (.IB 1 (.t 20) none<|some<|.t 21),[1,2]),(q2 23 159 19 22,PV),(zM 18 23,OE),(qE 24 18 0,OY),(qE 25 18 1,OY),(qZ 7 12,[]),(qS 5 7 24,[0,1,2,3,4,5,6,8]),(zM 8 25,FM)] [1,2,4,6,7,8])<|.seq (qs [zM 26 8,qO 27 26] [1,2,4,6,7,27]<|qc 27 (qr [zA 28 (.build zN []),qS 5 4 28,qB 5 false] [4,5]) .skip)<|.seq (.uC [(qT 29 5 7,[]),(zM 30 1,[]),(zM 31 6,[]),(qD 32 1 30 31,[1,2]),(qF 33 1 32,[1,2,3]),(q2 34 140 29 33,OE),(zM 9 34,OY)] [1,2,4,6,7,9])<|.seq (qs [zM 35 9,qk 36 .lss 35 0] [1,2,4,6,7,9,36]<|qc 36 (qr [zA 37 (.build zN []),qS 5 4 37,qB 5 false] [4,5]) .skip)<|.seq (.uC [(zA 38 (.uB 13 5 0 [.lit (.int .i64 0),.lit (.int .i64 0),.str [],.sl 1 [],.sl 5 []] []),[]),(qA 39 4 7,[]),(qF 40 1 39,[1]),(zM 41 9,[]),(zA 42 (.IB 5 (.t 40) none<|some<|.t 41),[1,2,3]),(zA 43 (.append 14 5 80 (.t 38)<|.t 42),OE),(qA 44 4 7,[]),(qF 45 1 44,[6]),(zM 46 9,[]),(qk 47 .add 46 1,[8]),(zA 48 (.IB 5 (.t 45) (some<|.t 47) none),[6,7,8,9]),(zA 49 (.append 15 5 80 (.t 43)<|.t 48),OD),(zM 10 49,Ur)] [1,2,4,6,7,9,10])<|qs [zA 50 (.uB 16 1 0 [.str []] []),zM 11 50] [1,2,4,6,7,9,10,11]<|.cut (qs [qA 51 0 7,qF 52 1 51,qk 53 .eql 52 4] [1,2,4,6,7,9,10,11,53]<|qc 53 (.uC [(zA 54 (.uB 17 1 0 [.str []] []),[]),(qA 55 3 7,[]),(qF 56 1 55,[1]),(zM 57 9,[]),(zA 58 (.IB 1 (.t 56) none<|some<|.t 57),[1,2,3]),(zA 59 (.append 18 1 16 (.t 54)<|.t 58),OE),(qA 60 3 7,[]),(qF 61 1 60,[6]),(zM 62 9,[]),(qk 63 .add 62 1,[8]),(zA 64 (.IB 1 (.t 61) (some<|.t 63) none),[6,7,8,9]),(zA 65 (.append 19 1 16 (.t 59)<|.t 64),OD),(zM 11 65,Ur)] [1,2,4,6,7,10,11]) .skip)<|.seq (.uC [(qT 66 5 2,[]),(zM 67 1,[]),(zM 68 6,[]),(zA 69 (.IB 1 (.t 67) none<|some<|.t 68),[1,2]),(qA 70 0 7,[]),(qF 71 1 70,[4]),(zM 72 11,[]),(zM 73 10,[]),(zA 74 (.build zN [(0,1,.t 71),(3,1,.t 72),(4,1,.t 73)]),[4,5,6,7]),(q3 75 158 66 69 74,TY),(qE 76 75 0,FM),(qE 77 75 1,FM),(qS 5 4 76,Ur),(zM 5 77,agE)] [4,5]) .ret
theorem K.kW : jJ pZ 141 2 0 C.kW [.cell 4 true 5,.tmp 5]=true:=lS
def C.mQ : dI:=qs [qI 2 0] [0]<|.seq (qs [zM 3 0] [3]<|qc 3 (qr [qI 2 1] [2]) .skip)<|qr [qI 2 0] [2]
theorem K.mQ : jJ pZ 212 1 0 C.mQ [.tmp 2]=true:=lS
def C.sJ : dI:=qs [qI 4 0] [0,1]<|qr [zM 5 0,zM 6 1,qb 7 .gtr 5 6,q1 8 212 7,zM 9 0,zM 10 1,qb 11 .lss 9 10,q1 12 212 11,qb 13 .sub 8 12,zM 4 13] [4]
theorem K.sJ : jJ pZ 191 2 0 C.sJ [.tmp 4]=true:=lS
def C.pJ : dI:=qs [qI 4 0] [0,1]<|qr [zM 5 0,zM 6 1,qb 7 .gtr 5 6,q1 8 212 7,zM 9 0,zM 10 1,qb 11 .lss 9 10,q1 12 212 11,qb 13 .sub 8 12,zM 4 13] [4]
theorem K.pJ : jJ pZ 192 2 0 C.pJ [.tmp 4]=true:=lS
def C.iO : dI:=qs [qX 2 10 0,qX 3 11 1,qI 4 0] [2,3]<|.seq (qs [qA 7 0 2,qF 8 1 7,qA 9 0 3,qF 10 1 9,qb 11 .neq 8 10] [2,3,11]<|qc 11 (qr [qA 12 0 2,qF 13 1 12,qA 14 0 3,qF 15 1 14,q2 16 191 13 15,zM 4 16] [4]) .skip)<|.seq (qs [qA 17 1 2,qF 18 1 17,qA 19 1 3,qF 20 1 19,qb 21 .neq 18 20] [2,3,21]<|qc 21 (qr [qA 22 1 2,qF 23 1 22,qA 24 1 3,qF 25 1 24,q2 26 191 23 25,zM 4 26] [4]) .skip)<|.seq (qs [qA 27 2 2,qF 28 1 27,qA 29 2 3,qF 30 1 29,qb 31 .neq 28 30] [2,3,31]<|qc 31 (qr [qA 32 2 2,qF 33 1 32,qA 34 2 3,qF 35 1 34,q2 36 192 33 35,zM 4 36] [4]) .skip)<|.seq (qs [qI 5 0] [2,3,5]<|.block 0<|.loop<|.seq (qs [zM 37 5,qA 38 4 2,qF 39 1 38,qL 40 39,qb 41 .lss 37 40,zM 42 41,qm 42 true 43 5,zG 42 true 44 (.nK 4<|.t 3),zG 42 true 45 (.load false 1<|.t 44),zG 42 true 46 (.len<|.t 45),zG 42 true 47 (.bin .lss (.t 43)<|.t 46),qP 48 42 47] [2,3,5,48]<|qc 48 .skip<|.exit 0)<|.seq (.block 1<|.seq (.seq (.uC [(qA 51 0 2,[]),(qF 52 1 51,[0]),(qk 53 .eql 52 4,[0,1]),(zM 54 53,[0,1,2]),(zG 54 true 55 (.nK 3<|.t 2),PV),(zG 54 true 56 (.load false 1<|.t 55),OE),(qm 54 true 57 5,PV),(zG 54 true 58 (.Aj 1 (.t 56)<|.t 57),Wj),(zG 54 true 59 (.load false 1<|.t 58),Oo),(zG 54 true 60 (.nK 3<|.t 3),PV),(zG 54 true 61 (.load false 1<|.t 60),[0,1,2,3,9]),(qm 54 true 62 5,PV),(zG 54 true 63 (.Aj 1 (.t 61)<|.t 62),[0,1,2,3,9,10,11]),(zG 54 true 64 (.load false 1<|.t 63),[0,1,2,3,9,10,11,12]),(zG 54 true 65 (.bin .neq (.t 59)<|.t 64),adL),(qP 66 54 65,aoV)] [2,3,5,66])<|qc 66 (.seq (.uC [(qA 67 3 2,[]),(qF 68 1 67,[0]),(zM 69 5,[]),(qD 70 1 68 69,[0,1,2]),(qF 71 1 70,PV),(qA 72 3 3,[]),(qF 73 1 72,[5]),(zM 74 5,[]),(qD 75 1 73 74,[5,6,7]),(qF 76 1 75,[5,6,7,8]),(q2 77 192 71 76,FM),(zM 4 77,OD)] [4]) .ret) .skip)<|.seq (.uC [(qA 78 4 2,[]),(qF 79 1 78,[0]),(zM 80 5,[]),(qD 81 5 79 80,[0,1,2]),(qT 82 5 81,PV),(qA 83 4 3,[]),(qF 84 1 83,[5]),(zM 85 5,[]),(qD 86 5 84 85,[5,6,7]),(qT 87 5 86,[5,6,7,8]),(q2 88 175 82 87,FM),(zM 6 88,OD)] [2,3,5,6])<|qs [zM 89 6,qk 90 .neq 89 0] [2,3,5,6,90]<|qc 90 (qr [zM 91 6,zM 4 91] [4]) .skip)<|.reg [zM 49 5,qk 50 .add 49 1,zM 5 50] [2,3,5])<|qr [qA 92 4 2,qF 93 1 92,qL 94 93,qA 95 4 3,qF 96 1 95,qL 97 96,q2 98 191 94 97,zM 4 98] [4]
theorem K.iO : jJ pZ 175 2 0 C.iO [.tmp 4]=true:=lS
def C.zy : dI:=qs [qX 2 10 0,qX 3 11 1,qB 4 false] [2,3]<|qr [qT 5 5 2,qT 6 5 3,q2 7 175 5 6,qk 8 .eql 7 0,zM 4 8] [4]
theorem K.zy : jJ pZ 160 2 0 C.zy [.tmp 4]=true:=lS
def C.lM : dI:=qs [qX 2 10 0,qX 3 11 1,qZ 4 12,qB 5 false] [2,3,4]<|.seq (qs [qA 11 0 3,qF 12 1 11] [2,3,4,12]<|.block 0<|qs [qk 14 .eql 12 1,zM 13 14] [2,3,4,12,13]<|qc 13 (qr [qT 15 5 2,qA 16 1 3,qF 17 1 16,qA 18 3 3,qT 19 5 18,q3 20 157 15 17 19,qE 21 20 0,qE 22 20 1,qS 5 4 21,zM 5 22] [4,5])<|qs [qk 24 .eql 12 2,zM 23 24] [2,3,4,12,23]<|qc 23 (qr [qT 25 5 2,qA 26 1 3,qF 27 1 26,q2 28 141 25 27,qE 29 28 0,qE 30 28 1,qS 5 4 29,zM 5 30] [4,5])<|qs [qk 32 .eql 12 3,zM 31 32] [2,3,4,31]<|qc 31 (qr [qT 33 5 2,qA 34 1 3,qF 35 1 34,qA 36 3 3,qT 37 5 36,q3 38 158 33 35 37,qE 39 38 0,qE 40 38 1,qS 5 4 39,zM 5 40] [4,5]) .skip)<|qs [qA 41 2 3,qF 42 1 41,zM 6 42] [2,3,4,6]<|.cut (qs [qA 43 0 3,qF 44 1 43,qk 45 .eql 44 6] [2,3,4,6,45]<|qc 45 (.reg [qA 46 1 3,qF 47 1 46,zM 6 47] [2,3,4,6]) .skip)<|qs [qT 49 5 2,zM 50 6,q2 51 159 49 50,zM 48 51,qE 52 48 0,qE 53 48 1,qZ 7 13,qS 5 7 52,zM 8 53] [2,3,4,7,8]<|.seq (qs [zM 54 8,qO 55 54] [2,3,4,7,55]<|qc 55 (qr [zA 56 (.build zN []),qS 5 4 56,qB 5 false] [4,5]) .skip)<|.seq (qs [qA 57 0 3,qF 58 1 57] [2,3,4,7,58]<|.block 1<|qs [qk 60 .eql 58 6,zM 59 60] [2,3,4,7,58,59]<|qc 59 (.seq (.uC [(qT 61 5 2,[]),(qT 62 5 7,[]),(qA 63 3 3,[]),(qT 64 5 63,[2]),(q2 65 160 62 64,[1,2,3]),(qS 5 4 61,OE),(zM 5 65,OY)] [4,5]) .ret)<|qs [qk 67 .eql 58 5,zM 66 67] [2,3,4,7,66]<|qc 66 (qr [qT 68 5 2,qA 69 1 3,qF 70 1 69,qT 71 5 7,q3 72 157 68 70 71,qE 73 72 0,qE 74 72 1,qS 5 4 73,zM 5 74] [4,5]) .skip)<|.seq (qs [qA 75 1 3,qF 76 1 75,qA 77 2 3,qF 78 1 77,q2 79 161 76 78] [2,3,4,7,79]<|qc 79 (.seq (.uC [(qT 80 5 2,[]),(q1 81 83 80,[0]),(qA 82 1 3,[]),(qF 83 1 82,[2]),(qL 84 83,[2,3]),(qA 85 2 3,[]),(qF 86 1 85,[5]),(qL 87 86,[5,6]),(qb 88 .eql 84 87,[2,3,4,5,6,7]),(qS 5 4 81,[0,1]),(zM 5 88,FM)] [4,5]) .ret) .skip)<|qs [qT 90 5 2,qA 91 2 3,qF 92 1 91,q2 93 141 90 92,zM 89 93,qE 94 89 0,qE 95 89 1,qZ 9 14,qS 5 9 94,zM 10 95] [3,4,7,9,10]<|.seq (qs [zM 96 10,qO 97 96] [3,4,7,9,97]<|qc 97 (qr [zA 98 (.build zN []),qS 5 4 98,qB 5 false] [4,5]) .skip)<|qr [qT 99 5 9,qA 100 1 3,qF 101 1 100,qT 102 5 7,q3 103 157 99 101 102,qE 104 103 0,qE 105 103 1,qS 5 4 104,zM 5 105] [4,5]
theorem K.lM : jJ pZ 139 2 0 C.lM [.cell 4 true 5,.tmp 5]=true:=lS
def C.nY : dI:=qs [qX 1 10 0,qI 2 0] [1]<|qs [qI 3 1] [1,3]<|.seq (qs [qI 4 0] [1,3,4]<|.block 0<|.loop<|.seq (qs [zM 5 4,qA 6 4 1,qF 7 1 6,qL 8 7,qb 9 .lss 5 8] [1,3,4,9]<|qc 9 .skip<|.exit 0)<|.seq (.block 1<|.reg [zM 12 3,qA 13 4 1,qF 14 1 13,zM 15 4,qD 16 5 14 15,qT 17 5 16,q1 18 108 17,qb 19 .add 12 18,zM 3 19] [1,3,4])<|.reg [zM 10 4,qk 11 .add 10 1,zM 4 11] [1,3,4])<|qr [zM 20 3,zM 2 20] [2]
theorem K.nY : jJ pZ 108 1 0 C.nY [.tmp 2]=true:=lS
def C.iP : dI:=qs [qB 6 false] [0,1,2]<|qr [zM 7 1,zM 8 0,qb 9 .leq 7 8,zM 10 9,qm 10 true 11 0,qm 10 true 12 2,zG 10 true 13 (.bin .leq (.t 11)<|.t 12),qP 14 10 13,zM 6 14] [6]
theorem K.iP : jJ pZ 77 3 0 C.iP [.tmp 6]=true:=lS
def C.jc : dI:=qs [qB 2 false] [0]<|.seq (qs [qI 3 0] [0,3]<|.block 0<|.loop<|.seq (qs [zM 4 3,zM 5 0,ql 6 5,qb 7 .lss 4 6] [0,3,7]<|qc 7 .skip<|.exit 0)<|.seq (.block 1<|qs [zM 10 0,zM 11 3,zA 12 (.idxs (.t 10)<|.t 11),zA 13 (.Md .i64<|.t 12),⟨none,some 14,.call 77 [.t 13,kI 32,kI 126]⟩,qO 15 14] [0,3,15]<|qc 15 (qr [qB 2 false] [2]) .skip)<|.reg [zM 8 3,qk 9 .add 8 1,zM 3 9] [0,3])<|qr [zM 16 0,ql 17 16,qk 18 .leq 17 12,zM 2 18] [2]
theorem K.jc : jJ pZ 133 1 0 C.jc [.tmp 2]=true:=lS
def C.pI : dI:=qs [qB 2 false] [0]<|.seq (qs [qI 3 0] [0,3]<|.block 0<|.loop<|.seq (qs [zM 4 3,zM 5 0,qL 6 5,qb 7 .lss 4 6] [0,3,7]<|qc 7 .skip<|.exit 0)<|.seq (.block 1<|.seq (.uC [(zM 10 0,[]),(zM 11 3,[]),(qD 12 1 10 11,[0,1]),(qF 13 1 12,[0,1,2]),(q1 14 133 13,PV),(qO 15 14,OE),(zM 16 15,OY),(qm 16 false 17 3,Wj),(zG 16 false 18 (.bin .gtr (.t 17)<|kI 0),Oo),(qm 16 false 19 18,TY),(qm 19 true 20 0,FM),(qm 19 true 21 3,FM),(zG 19 true 22 (.Aj 1 (.t 20)<|.t 21),Ur),(zG 19 true 23 (.load false 1<|.t 22),agE),(qm 19 true 24 0,FM),(qm 19 true 25 3,FM),(zG 19 true 26 (.bin .sub (.t 25)<|kI 1),[0,1,2,3,4,5,6,7,8,9,15]),(zG 19 true 27 (.Aj 1 (.t 24)<|.t 26),[0,1,2,3,4,5,6,7,8,9,14,15,16]),(zG 19 true 28 (.load false 1<|.t 27),[0,1,2,3,4,5,6,7,8,9,14,15,16,17]),(zG 19 true 29 (.bin .leq (.t 23)<|.t 28),alf),(zG 16 false 30 (.pick (.t 19) (.t 29)<|kB false),alg),(qQ 31 16 30,aoX)] [0,3,31])<|qc 31 (qr [qB 2 false] [2]) .skip)<|.reg [zM 8 3,qk 9 .add 8 1,zM 3 9] [0,3])<|qr [qB 2 true] [2]
theorem K.pI : jJ pZ 135 1 0 C.pI [.tmp 2]=true:=lS
def C.uo : dI:=qs [qX 2 10 0,qB 4 false] [1,2]<|.seq (qs [qI 5 0] [1,2,5]<|.block 0<|.loop<|.seq (qs [zM 6 5,qA 7 4 2,qF 8 1 7,qL 9 8,qb 10 .lss 6 9] [1,2,5,10]<|qc 10 .skip<|.exit 0)<|.seq (.block 1<|qs [qA 13 4 2,qF 14 1 13,zM 15 5,qD 16 5 14 15,qT 17 5 16,zM 18 1,qk 19 .sub 18 1,q2 20 107 17 19,qO 21 20] [1,2,5,21]<|qc 21 (qr [qB 4 false] [4]) .skip)<|.reg [zM 11 5,qk 12 .add 11 1,zM 5 12] [1,2,5])<|qr [qB 4 true] [4]
theorem K.uo : jJ pZ 134 2 0 C.uo [.tmp 4]=true:=lS
def C.jA : dI:=qs [qX 2 10 0,qB 4 false] [1,2]<|.cut (qs [zM 5 1,qk 6 .eql 5 0,zM 7 6,zG 7 false 8 (.nK 4<|.t 2),zG 7 false 9 (.load false 1<|.t 8),zG 7 false 10 (.len<|.t 9),zG 7 false 11 (.bin .gtr (.t 10)<|kI 6),qQ 12 7 11,zM 13 12,zG 13 false 14 (.nK 0<|.t 2),zG 13 false 15 (.load false 1<|.t 14),zG 13 false 16 (.bin .neq (.t 15)<|kI 1),qm 13 false 17 16,zG 17 true 18 (.nK 1<|.t 2),zG 17 true 19 (.load false 1<|.t 18),zG 17 true 20 (.bin .neq (.t 19)<|kI 0),zG 13 false 21 (.pick (.t 17) (.t 20)<|kB false),qQ 22 13 21,zM 23 22,zG 23 false 24 (.nK 0<|.t 2),zG 23 false 25 (.load false 1<|.t 24),zG 23 false 26 (.bin .neq (.t 25)<|kI 2),qm 23 false 27 26,zG 27 true 28 (.nK 2<|.t 2),zG 27 true 29 (.load false 1<|.t 28),zG 27 true 30 (.bin .neq (.t 29)<|.k<|.c<|.str []),zG 23 false 31 (.pick (.t 27) (.t 30)<|kB false),qQ 32 23 31,zM 33 32,zG 33 false 34 (.nK 0<|.t 2),zG 33 false 35 (.load false 1<|.t 34),zG 33 false 36 (.bin .neq (.t 35)<|kI 4),qm 33 false 37 36,zG 37 true 38 (.nK 3<|.t 2),zG 37 true 39 (.load false 1<|.t 38),zG 37 true 40 (.len<|.t 39),zG 37 true 41 (.bin .gtr (.t 40)<|kI 0),zG 33 false 42 (.pick (.t 37) (.t 41)<|kB false),qQ 43 33 42,zM 44 43,zG 44 false 45 (.nK 0<|.t 2),zG 44 false 46 (.load false 1<|.t 45),zG 44 false 47 (.bin .lss (.t 46)<|kI 3),qm 44 false 48 47,zG 48 true 49 (.nK 4<|.t 2),zG 48 true 50 (.load false 1<|.t 49),zG 48 true 51 (.len<|.t 50),zG 48 true 52 (.bin .gtr (.t 51)<|kI 0),zG 44 false 53 (.pick (.t 48) (.t 52)<|kB false),qQ 54 44 53] [1,2,54]<|qc 54 (qr [qB 4 false] [4]) .skip)<|.seq (qs [qA 55 0 2,qF 56 1 55] [1,2,56]<|.block 0<|qs [qk 58 .eql 56 1,zM 57 58] [1,2,56,57]<|qc 57 (qr [qA 59 1 2,qF 60 1 59,⟨none,some 61,.call 77 [.t 60,kI (-999999),kI 999999]⟩,zM 4 61] [4])<|qs [qk 63 .eql 56 2,zM 62 63] [1,2,56,62]<|qc 62 (qr [qA 64 2 2,qF 65 1 64,q1 66 133 65,zM 4 66] [4])<|qs [qk 68 .eql 56 3,zM 67 68] [1,2,56,67]<|qc 67 (qr [qT 69 5 2,zM 70 1,q2 71 134 69 70,zM 4 71] [4])<|qs [qk 73 .eql 56 4,zM 72 73] [1,2,72]<|qc 72 (qr [qA 74 3 2,qF 75 1 74,qL 76 75,qA 77 4 2,qF 78 1 77,qL 79 78,qb 80 .eql 76 79,zM 81 80,zG 81 true 82 (.nK 3<|.t 2),zG 81 true 83 (.load false 1<|.t 82),⟨(some (81,true)),some 84,.call 135 [.t 83]⟩,qP 85 81 84,zM 86 85,zG 86 true 87 (.load true 5<|.t 2),qm 86 true 88 1,⟨(some (86,true)),some 89,.call 134 [.t 87,.t 88]⟩,qP 90 86 89,zM 4 90] [4]) .skip)<|qr [qA 91 0 2,qF 92 1 91,qk 93 .eql 92 0,zM 4 93] [4]
theorem K.jA : jJ pZ 107 2 0 C.jA [.tmp 4]=true:=lS
def C.iI : dI:=qs [qX 1 10 0,qB 2 false] [1]<|qr [qT 3 5 1,⟨none,some 4,.call 107 [.t 3,kI 5]⟩,zM 5 4,zG 5 true 6 (.load true 5<|.t 1),⟨(some (5,true)),some 7,.call 108 [.t 6]⟩,zG 5 true 8 (.bin .leq (.t 7)<|kI 40),qP 9 5 8,zM 2 9] [2]
theorem K.iI : jJ pZ 76 1 0 C.iI [.tmp 2]=true:=lS
def C.qJ : dI:=qs [qX 2 10 0,qZ 4 11,qB 5 false] [1,2,4]<|.seq (qs [zM 6 1,qO 7 6,zM 8 7,zG 8 false 9 (.load true 5<|.t 2),⟨(some (8,false)),some 10,.call 76 [.t 9]⟩,zG 8 false 11 (.not<|.t 10),qQ 12 8 11] [2,4,12]<|qc 12 (qr [zA 13 (.build zN []),qS 5 4 13,qB 5 false] [4,5]) .skip)<|qr [qT 14 5 2,qS 5 4 14,qB 5 true] [4,5]
theorem K.qJ : jJ pZ 117 2 0 C.qJ [.cell 4 true 5,.tmp 5]=true:=lS
def C.rG : dI:=qs [qX 2 10 0,qX 3 11 1,qZ 4 12,qB 5 false] [2,3,4]<|qs [qT 9 5 2,qT 10 8 3,q2 11 139 9 10,qE 12 11 0,qE 13 11 1,q2 14 117 12 13,zM 8 14,qE 15 8 0,qE 16 8 1,qZ 6 13,qS 5 6 15,zM 7 16] [4,6,7]<|.seq (qs [zM 17 7,qO 18 17] [4,6,18]<|qc 18 (qr [zA 19 (.build zN []),qS 5 4 19,qB 5 false] [4,5]) .skip)<|qr [qT 20 5 6,q1 21 83 20,qS 5 4 21,qB 5 true] [4,5]
theorem K.rG : jJ pZ 116 2 0 C.rG [.cell 4 true 5,.tmp 5]=true:=lS
def C.jX : dI:=qs [qB 2 false] [0]<|.seq (qs [qI 3 0] [0,3]<|.block 0<|.loop<|.seq (qs [zM 4 3,zM 5 0,qL 6 5,qb 7 .lss 4 6] [0,3,7]<|qc 7 .skip<|.exit 0)<|.seq (.block 1<|qs [zM 10 0,zM 11 3,qD 12 1 10 11,qF 13 1 12,q1 14 133 13,qO 15 14] [0,3,15]<|qc 15 (qr [qB 2 false] [2]) .skip)<|.reg [zM 8 3,qk 9 .add 8 1,zM 3 9] [0,3])<|qr [zM 16 0,qL 17 16,qk 18 .leq 17 5,zM 2 18] [2]
theorem K.jX : jJ pZ 136 1 0 C.jX [.tmp 2]=true:=lS
def C.vU : dI:=qs [qX 1 10 0,qB 2 false] [1]<|qr [qA 3 0 1,qF 4 1 3,⟨none,some 5,.call 77 [.t 4,kI 1,kI 6]⟩,zM 6 5,zG 6 true 7 (.nK 1<|.t 1),zG 6 true 8 (.load false 1<|.t 7),⟨(some (6,true)),some 9,.call 136 [.t 8]⟩,qP 10 6 9,zM 11 10,zG 11 true 12 (.nK 2<|.t 1),zG 11 true 13 (.load false 1<|.t 12),⟨(some (11,true)),some 14,.call 136 [.t 13]⟩,qP 15 11 14,zM 16 15,zG 16 true 17 (.nK 3<|.t 1),zG 16 true 18 (.load true 5<|.t 17),⟨(some (16,true)),some 19,.call 76 [.t 18]⟩,qP 20 16 19,zM 2 20] [2]
theorem K.vU : jJ pZ 110 1 0 C.vU [.tmp 2]=true:=lS
def C.iL : dI:=qs [qB 2 false] [0]<|.seq (qs [qI 3 0] [0,3]<|.block 0<|.loop<|.seq (qs [zM 4 3,zM 5 0,qL 6 5,qb 7 .lss 4 6] [0,3,7]<|qc 7 .skip<|.exit 0)<|.seq (.block 1<|qs [zM 10 0,zM 11 3,qD 12 8 10 11,qT 13 8 12,q1 14 110 13,qO 15 14] [0,3,15]<|qc 15 (qr [qB 2 false] [2]) .skip)<|.reg [zM 8 3,qk 9 .add 8 1,zM 3 9] [0,3])<|qr [zM 16 0,qL 17 16,qk 18 .leq 17 12,zM 2 18] [2]
theorem K.iL : jJ pZ 79 1 0 C.iL [.tmp 2]=true:=lS
def C.jG : dI:=qs [qX 2 10 0,qZ 4 11,qB 5 false] [1,2,4]<|.seq (qs [qT 10 5 2,q1 11 76 10,qO 12 11,zM 13 12,qm 13 false 14 1,⟨(some (13,false)),some 15,.call 79 [.t 14]⟩,zG 13 false 16 (.not<|.t 15),qQ 17 13 16] [1,2,4,17]<|qc 17 (qr [zA 18 (.build zN []),qS 5 4 18,qB 5 false] [4,5]) .skip)<|qs [qT 19 5 2,q1 20 83 19,qZ 6 12,qS 5 6 20] [1,4,6]<|.seq (qs [qI 7 0] [1,4,6,7]<|.block 0<|.loop<|.seq (qs [zM 21 7,zM 22 1,qL 23 22,qb 24 .lss 21 23] [1,4,6,7,24]<|qc 24 .skip<|.exit 0)<|.seq (.block 1<|.seq (.uC [(qT 28 5 6,[]),(zM 29 1,[]),(zM 30 7,[]),(qD 31 8 29 30,[1,2]),(qT 32 8 31,[1,2,3]),(q2 33 116 28 32,OE),(zM 27 33,OY),(qE 34 27 0,Wj),(qE 35 27 1,Wj),(qZ 8 13,[]),(qS 5 8 34,[0,1,2,3,4,5,6,7,9]),(zM 9 35,OD)] [1,4,6,7,8,9])<|.seq (qs [zM 36 9,qO 37 36] [1,4,6,7,8,37]<|qc 37 (qr [zA 38 (.build zN []),qS 5 4 38,qB 5 false] [4,5]) .skip)<|.reg [qT 39 5 8,qS 5 6 39] [1,4,6,7])<|.reg [zM 25 7,qk 26 .add 25 1,zM 7 26] [1,4,6,7])<|qr [qT 40 5 6,qS 5 4 40,qB 5 true] [4,5]
theorem K.jG : jJ pZ 86 2 0 C.jG [.cell 4 true 5,.tmp 5]=true:=lS
def C.pG : dI:=qs [zA 2 (.alloc 10 [qx 0,.c (.str []),qx 0,qx 0,qx 0,.c (.str []),.nS 1,.nS 5])] [0,2]<|qr [zM 3 0,zA 4 (.build [qx 0,.c (.str []),qx 0,qx 0,qx 0,.c (.str []),.nS 1,.nS 5] [(0,1,.t 3)]),qS 8 2 4] [2]
theorem K.pG : jJ pZ 37 1 0 C.pG [.cell 2 true 8]=true:=lS
def C.jK : dI:=qs [qX 2 10 0,qX 3 11 1,qZ 4 12] [2,3,4]<|.seq (qs [qA 9 0 3,qF 10 1 9,qk 11 .neq 10 4] [2,3,4,11]<|qc 11 (qr [qT 12 5 3,q1 13 83 12,qS 5 4 13] [4]) .skip)<|qs [zA 14 (.uB 13 1 0 [.str []] []),zA 15 (.uB 14 5 0 [.lit (.int .i64 0),.lit (.int .i64 0),.str [],.sl 1 [],.sl 5 []] []),zA 16 (.build zN [(0,1,kI 4),(3,1,.t 14),(4,1,.t 15)]),qZ 5 15,qS 5 5 16] [2,3,4,5]<|.cut (qs [qA 17 0 2,qF 18 1 17,qk 19 .eql 18 4] [2,3,4,5,19]<|qc 19 (.reg [qT 20 5 2,q1 21 83 20,qS 5 5 21] [3,4,5]) .skip)<|.seq (qs [qI 6 0] [3,4,5,6]<|.block 0<|.loop<|.seq (qs [zM 22 6,qA 23 4 3,qF 24 1 23,qL 25 24,qb 26 .lss 22 25] [3,4,5,6,26]<|qc 26 .skip<|.exit 0)<|.seq (.block 1<|qs [qA 29 3 3,qF 30 1 29,zM 31 6,qD 32 1 30 31,qF 33 1 32,zM 7 33] [3,4,5,6,7]<|qs [qT 34 5 5,zM 35 7,q2 36 140 34 35,zM 8 36] [3,4,5,6,7,8]<|.block 2<|qs [qA 38 4 3,qF 39 1 38,zM 40 6,qD 41 5 39 40,qA 42 0 41,qF 43 1 42,qk 44 .eql 43 0,zM 45 44,qm 45 true 46 8,zG 45 true 47 (.bin .geq (.t 46)<|kI 0),qP 48 45 47,zM 37 48] [3,4,5,6,7,8,37]<|qc 37 (.reg [qT 50 5 5,zM 51 7,zA 52 (.uB 16 1 1 [.str []] [(0,.t 51)]),q2 53 141 50 52,zM 49 53,qE 54 49 0,qE 55 49 1,qS 5 5 54] [3,4,5,6])<|qs [qA 57 4 3,qF 58 1 57,zM 59 6,qD 60 5 58 59,qA 61 0 60,qF 62 1 61,qk 63 .neq 62 0,zM 64 63,qm 64 true 65 8,zG 64 true 66 (.bin .geq (.t 65)<|kI 0),qP 67 64 66,zM 56 67] [3,4,5,6,7,8,56]<|qc 56 (.uC [(qT 68 5 5,[]),(zM 69 8,[]),(qA 70 4 5,[]),(qF 71 1 70,[2]),(zM 72 8,[]),(qD 73 5 71 72,[2,3,4]),(qT 74 5 73,[2,3,4,5]),(qA 75 4 3,[]),(qF 76 1 75,[7]),(zM 77 6,[]),(qD 78 5 76 77,[7,8,9]),(qT 79 5 78,[7,8,9,10]),(q2 80 118 74 79,[2,3,4,5,6,7,8,9,10,11]),(q3 81 142 68 69 80,agE),(qS 5 5 81,adL)] [3,4,5,6])<|qs [qA 83 4 3,qF 84 1 83,zM 85 6,qD 86 5 84 85,qA 87 0 86,qF 88 1 87,qk 89 .neq 88 0,zM 82 89] [3,4,5,6,7,82]<|qc 82 (.uC [(qT 91 5 5,[]),(zM 92 7,[]),(zA 93 (.build zN []),[]),(qA 94 4 3,[]),(qF 95 1 94,[3]),(zM 96 6,[]),(qD 97 5 95 96,[3,4,5]),(qT 98 5 97,[3,4,5,6]),(q2 99 118 93 98,[2,3,4,5,6,7]),(q3 100 143 91 92 99,TY),(zM 90 100,FM),(qE 101 90 0,OD),(qE 102 90 1,OD),(qS 5 5 101,Ur)] [3,4,5,6]) .skip)<|.reg [zM 27 6,qk 28 .add 27 1,zM 6 28] [3,4,5,6])<|qr [qT 103 5 5,qS 5 4 103] [4]
theorem K.jK : jJ pZ 118 2 0 C.jK [.cell 4 true 5]=true:=lS
def C.rF : dI:=qs [qX 2 10 0,qX 3 11 1,qZ 4 12,qB 5 false] [2,3,4]<|.seq (qs [qT 6 5 2,q1 7 76 6,qO 8 7,zM 9 8,zG 9 false 10 (.load true 5<|.t 3),⟨(some (9,false)),some 11,.call 76 [.t 10]⟩,zG 9 false 12 (.not<|.t 11),qQ 13 9 12] [2,3,4,13]<|qc 13 (qr [zA 14 (.build zN []),qS 5 4 14,qB 5 false] [4,5]) .skip)<|qr [qT 15 5 2,qT 16 5 3,q2 17 118 15 16,⟨none,some 18,.call 117 [.t 17,.k (.c<|.lit<|.bool true)]⟩,qE 19 18 0,qE 20 18 1,qS 5 4 19,zM 5 20] [4,5]
theorem K.rF : jJ pZ 87 2 0 C.rF [.cell 4 true 5,.tmp 5]=true:=lS
def C.nJ : dI:=qs [qB 4 false] [0,1]<|.seq (qs [qI 5 0] [0,1,5]<|.block 0<|.loop<|.seq (qs [zM 6 5,zM 7 0,qL 8 7,qb 9 .lss 6 8] [0,1,5,9]<|qc 9 .skip<|.exit 0)<|.seq (.block 1<|qs [zM 12 0,zM 13 5,qD 14 1 12 13,qF 15 1 14,zM 16 1,qb 17 .eql 15 16,zM 18 17,qm 18 false 19 0,qm 18 false 20 5,zG 18 false 21 (.Aj 1 (.t 19)<|.t 20),zG 18 false 22 (.load false 1<|.t 21),zG 18 false 23 (.bin .eql (.t 22)<|.k<|.c<|.str [42]),qQ 24 18 23] [0,1,5,24]<|qc 24 (qr [qB 4 true] [4]) .skip)<|.reg [zM 10 5,qk 11 .add 10 1,zM 5 11] [0,1,5])<|qr [qB 4 false] [4]
theorem K.nJ : jJ pZ 111 2 0 C.nJ [.tmp 4]=true:=lS
def C.wW : dI:=qs [qI 8 0] [0,1,2,3]<|.seq (qs [zM 9 0,qL 10 9,qk 11 .gtr 10 0,zM 12 11,qm 12 true 13 2,zG 12 true 14 (.bin .eql (.t 13)<|.k<|.c<|.str []),qm 12 true 15 14,qm 15 false 16 0,qm 15 false 17 2,⟨(some (15,false)),some 18,.call 111 [.t 16,.t 17]⟩,zG 15 false 19 (.not<|.t 18),zG 12 true 20 (.pick (.t 15) (kB true)<|.t 19),qP 21 12 20] [1,2,3,21]<|qc 21 (qr [qI 8 412] [8]) .skip)<|.seq (qs [zM 22 1,qL 23 22,qk 24 .gtr 23 0,zM 25 24,qm 25 true 26 2,zG 25 true 27 (.bin .neq (.t 26)<|.k<|.c<|.str []),qP 28 25 27,zM 29 28,qm 29 true 30 1,qm 29 true 31 2,⟨(some (29,true)),some 32,.call 111 [.t 30,.t 31]⟩,qP 33 29 32] [3,33]<|qc 33 (.seq (qs [zM 34 3] [34]<|qc 34 (qr [qI 8 304] [8]) .skip)<|qr [qI 8 412] [8]) .skip)<|qr [qI 8 200] [8]
theorem K.wW : jJ pZ 81 4 0 C.wW [.tmp 8]=true:=lS
def C.fO : dI:=qs [qX 1 10 0,zA 2 (.alloc 11 [.nS 7,qx 0])] [1,2]<|qs [zA 5 (.uB 12 7 0 [.str [],.lit (.int .i64 0),.lit (.int .i64 0),.lit (.int .i64 0),.str [],.sl 1 [],.sl 5 []] []),zM 3 5] [1,2,3]<|.seq (qs [qI 4 0] [1,2,3,4]<|.block 0<|.loop<|.seq (qs [zM 6 4,qA 7 0 1,qF 8 1 7,qL 9 8,qb 10 .lss 6 9] [1,2,3,4,10]<|qc 10 .skip<|.exit 0)<|.seq (.block 1<|.uC [(zM 13 3,[]),(qA 14 0 1,[]),(qF 15 1 14,[1]),(zM 16 4,[]),(qD 17 7 15 16,[1,2,3]),(qA 18 0 17,[1,2,3,4]),(qF 19 1 18,[1,2,3,4,5]),(qA 20 0 1,[]),(qF 21 1 20,[7]),(zM 22 4,[]),(qD 23 7 21 22,[7,8,9]),(qA 24 1 23,[7,8,9,10]),(qF 25 1 24,[7,8,9,10,11]),(qA 26 0 1,[]),(qF 27 1 26,[13]),(zM 28 4,[]),(qD 29 7 27 28,[13,14,15]),(qA 30 2 29,[13,14,15,16]),(qT 31 5 30,[13,14,15,16,17]),(q1 32 83 31,[13,14,15,16,17,18]),(zA 33 (.build [.c (.str []),qx 0,qx 0,qx 0,.c (.str []),.nS 1,.nS 5] [(0,1,.t 19),(1,1,.t 25),(2,5,.t 32)]),[1,2,3,4,5,6,7,8,9,10,11,12,13,14,15,16,17,18,19]),(zA 34 (.uB 13 7 1 [.str [],.lit (.int .i64 0),.lit (.int .i64 0),.lit (.int .i64 0),.str [],.sl 1 [],.sl 5 []] [(0,.t 33)]),[1,2,3,4,5,6,7,8,9,10,11,12,13,14,15,16,17,18,19,20]),(zA 35 (.append 14 7 104 (.t 13)<|.t 34),ajn),(zM 3 35,aoY)] [1,2,3,4])<|.reg [zM 11 4,qk 12 .add 11 1,zM 4 12] [1,2,3,4])<|qr [zM 36 3,qA 37 1 1,qF 38 1 37,zA 39 (.build [.nS 7,qx 0] [(0,1,.t 36),(1,1,.t 38)]),qS 2 2 39] [2]
theorem K.fO : jJ pZ 62 1 0 C.fO [.cell 2 true 2]=true:=lS
def C.sS : dI:=qs [qX 2 10 0,zA 4 (.alloc 11 [.nS 7,qx 0])] [1,2,4]<|qs [zA 8 (.uB 12 7 0 [.str [],.lit (.int .i64 0),.lit (.int .i64 0),.lit (.int .i64 0),.str [],.sl 1 [],.sl 5 []] []),zM 5 8] [1,2,4,5]<|qs [qT 9 2 2,q1 10 62 9,zA 11 (.field false 0 1<|.t 10),zM 6 11] [1,2,4,5,6]<|.seq (qs [qI 7 0] [1,2,4,5,6,7]<|.block 0<|.loop<|.seq (qs [zM 12 7,zM 13 6,qL 14 13,qb 15 .lss 12 14] [1,2,4,5,6,7,15]<|qc 15 .skip<|.exit 0)<|.seq (.block 1<|qs [zM 18 6,zM 19 7,qD 20 7 18 19,qA 21 0 20,qF 22 1 21,zM 23 1,qb 24 .neq 22 23] [1,2,4,5,6,7,24]<|qc 24 (.reg [zM 25 5,zM 26 6,zM 27 7,qD 28 7 26 27,qT 29 7 28,zA 30 (.uB 13 7 1 [.str [],.lit (.int .i64 0),.lit (.int .i64 0),.lit (.int .i64 0),.str [],.sl 1 [],.sl 5 []] [(0,.t 29)]),zA 31 (.append 14 7 104 (.t 25)<|.t 30),zM 5 31] [1,2,4,5,6,7]) .skip)<|.reg [zM 16 7,qk 17 .add 16 1,zM 7 17] [1,2,4,5,6,7])<|qr [zM 32 5,qA 33 1 2,qF 34 1 33,qk 35 .add 34 1,zA 36 (.build [.nS 7,qx 0] [(0,1,.t 32),(1,1,.t 35)]),qS 2 4 36] [4]
theorem K.sS : jJ pZ 85 2 0 C.sS [.cell 4 true 2]=true:=lS
def C.pY : dI:=qs [qX 2 10 0,qI 4 0] [1,2]<|.seq (qs [qI 5 0] [1,2,5]<|.block 0<|.loop<|.seq (qs [zM 6 5,qA 7 0 2,qF 8 1 7,qL 9 8,qb 10 .lss 6 9] [1,2,5,10]<|qc 10 .skip<|.exit 0)<|.seq (.block 1<|qs [qA 13 0 2,qF 14 1 13,zM 15 5,qD 16 7 14 15,qA 17 0 16,qF 18 1 17,zM 19 1,qb 20 .eql 18 19] [1,2,5,20]<|qc 20 (qr [zM 21 5,zM 4 21] [4]) .skip)<|.reg [zM 11 5,qk 12 .add 11 1,zM 5 12] [1,2,5])<|qr [qI 4 (-1)] [4]
theorem K.pY : jJ pZ 80 2 0 C.pY [.tmp 4]=true:=lS
def C.nZ : dI:=qs [zA 2 (.mv<|.k<|.c<|.str [])] [0]<|qs [zA 3 (.mv<|.k<|.c<|.str [34])] [0,3]<|.seq (qs [qI 4 0] [0,3,4]<|.block 0<|.loop<|.seq (qs [zM 5 4,zM 6 0,ql 7 6,qb 8 .lss 5 7] [0,3,4,8]<|qc 8 .skip<|.exit 0)<|.seq (.block 1<|.seq (qs [zM 11 0,zM 12 4,zA 13 (.idxs (.t 11)<|.t 12),zA 14 (.bin .eql (.t 13)<|.k<|.c<|.lit<|.int .u8 34),zM 15 14,qm 15 false 16 0,qm 15 false 17 4,zG 15 false 18 (.idxs (.t 16)<|.t 17),zG 15 false 19 (.bin .eql (.t 18)<|.k<|.c<|.lit<|.int .u8 92),qQ 20 15 19] [0,3,4,20]<|qc 20 (.reg [zM 21 3,zA 22 (.bin .add (.t 21)<|.k<|.c<|.str [92]),zM 3 22] [0,3,4]) .skip)<|.reg [zM 23 3,zM 24 0,zM 25 4,zM 26 4,qk 27 .add 26 1,zA 28 (.Wv (.t 24) (some<|.t 25)<|some<|.t 27),qb 29 .add 23 28,zM 3 29] [0,3,4])<|.reg [zM 9 4,qk 10 .add 9 1,zM 4 10] [0,3,4])<|qr [zM 30 3,zA 31 (.bin .add (.t 30)<|.k<|.c<|.str [34]),zM 2 31] [2]
theorem K.nZ : jJ pZ 138 1 0 C.nZ [.tmp 2]=true:=lS
def C.ig : dI:=qs [qX 1 10 0,zA 2 (.mv<|.k<|.c<|.str [])] [1]<|qs [zA 3 (.mv<|.k<|.c<|.str [])] [1,3]<|.seq (qs [qA 5 0 1,qF 6 1 5] [1,3,6]<|.block 0<|qs [qk 8 .eql 6 1,zM 7 8] [1,3,6,7]<|qc 7 (qr [qA 9 1 1,qF 10 1 9,q1 11 137 10,zM 2 11] [2])<|qs [qk 13 .eql 6 2,zM 12 13] [1,3,6,12]<|qc 12 (qr [qA 14 2 1,qF 15 1 14,q1 16 138 15,zM 2 16] [2])<|qs [qk 18 .eql 6 0,zM 17 18] [1,3,17]<|qc 17 (qr [zA 2 (.mv<|.k<|.c<|.str [110,117,108,108])] [2]) .skip)<|.seq (qs [qI 4 0] [1,3,4]<|.block 1<|.loop<|.seq (qs [zM 19 4,qA 20 4 1,qF 21 1 20,qL 22 21,qb 23 .lss 19 22] [1,3,4,23]<|qc 23 .skip<|.exit 1)<|.seq (.block 2<|.cut (qs [zM 26 4,qk 27 .gtr 26 0] [1,3,4,27]<|qc 27 (.reg [zM 28 3,zA 29 (.bin .add (.t 28)<|.k<|.c<|.str [44]),zM 3 29] [1,3,4]) .skip)<|.cut (qs [qA 30 0 1,qF 31 1 30,qk 32 .eql 31 4] [1,3,4,32]<|qc 32 (.reg [zM 33 3,qA 34 3 1,qF 35 1 34,zM 36 4,qD 37 1 35 36,qF 38 1 37,q1 39 138 38,qb 40 .add 33 39,zA 41 (.bin .add (.t 40)<|.k<|.c<|.str [58]),zM 3 41] [1,3,4]) .skip)<|.reg [zM 42 3,qA 43 4 1,qF 44 1 43,zM 45 4,qD 46 5 44 45,qT 47 5 46,q1 48 114 47,qb 49 .add 42 48,zM 3 49] [1,3,4])<|.reg [zM 24 4,qk 25 .add 24 1,zM 4 25] [1,3,4])<|.seq (qs [qA 50 0 1,qF 51 1 50,qk 52 .eql 51 4] [3,52]<|qc 52 (qr [zM 53 3,zA 54 (.bin .add (.k<|.c<|.str [123])<|.t 53),zA 55 (.bin .add (.t 54)<|.k<|.c<|.str [125]),zM 2 55] [2]) .skip)<|qr [zM 56 3,zA 57 (.bin .add (.k<|.c<|.str [91])<|.t 56),zA 58 (.bin .add (.t 57)<|.k<|.c<|.str [93]),zM 2 58] [2]
theorem K.ig : jJ pZ 114 1 0 C.ig [.tmp 2]=true:=lS
def C.Bo : dI:=qs [zA 2 (.mv<|.k<|.c<|.str [])] [0]<|qs [zA 3 (.mv<|.k<|.c<|.str [48,49,50,51,52,53,54,55,56,57,97,98,99,100,101,102])] [0,3]<|.seq (.uC [(zM 4 3,[]),(zM 5 0,[]),(qk 6 .quo 5 4096,[1]),(zA 7 (.idxs (.t 4)<|.t 6),[0,1,2]),(zM 8 3,[]),(zM 9 0,[]),(qk 10 .quo 9 256,[5]),(qk 11 .rem 10 16,[5,6]),(zA 12 (.idxs (.t 8)<|.t 11),[4,5,6,7]),(zM 13 3,[]),(zM 14 0,[]),(qk 15 .quo 14 16,[10]),(qk 16 .rem 15 16,[10,11]),(zA 17 (.idxs (.t 13)<|.t 16),[9,10,11,12]),(zM 18 3,[]),(zM 19 0,[]),(qk 20 .rem 19 16,[15]),(zA 21 (.idxs (.t 18)<|.t 20),[14,15,16]),(zA 22 (.uB 10 1 4 [.lit (.int .u8 0)] [(0,.t 7),(1,.t 12),(2,.t 17),(3,.t 21)]),anh),(zA 23 (.Vq<|.t 22),alf),(zM 2 23,alg)] [2]) .ret
theorem K.Bo : jJ pZ 112 1 0 C.Bo [.tmp 2]=true:=lS
def C.rH : dI:=qs [qI 2 0] [0]<|qs [qI 3 17] [0,3]<|.seq (qs [qI 4 0] [0,3,4]<|.block 0<|.loop<|.seq (qs [zM 5 4,zM 6 0,ql 7 6,qb 8 .lss 5 7] [0,3,4,8]<|qc 8 .skip<|.exit 0)<|.seq (.block 1<|.reg [zM 11 3,zA 12 (.bin .mul (kI 131)<|.t 11),zM 13 0,zM 14 4,zA 15 (.idxs (.t 13)<|.t 14),zA 16 (.Md .i64<|.t 15),qb 17 .add 12 16,qk 18 .rem 17 65521,zM 3 18] [0,3,4])<|.reg [zM 9 4,qk 10 .add 9 1,zM 4 10] [0,3,4])<|qr [zM 19 3,zM 2 19] [2]
theorem K.rH : jJ pZ 113 1 0 C.rH [.tmp 2]=true:=lS
def C.uD : dI:=qs [qX 2 10 0,zA 4 (.mv<|.k<|.c<|.str [])] [1,2]<|qs [qT 6 2 2,zM 7 1,q2 8 80 6 7,zM 5 8] [2,5]<|.seq (qs [zM 9 5,qk 10 .lss 9 0] [2,5,10]<|qc 10 (qr [zA 4 (.mv<|.k<|.c<|.str [])] [4]) .skip)<|qr [qA 11 0 2,qF 12 1 11,zM 13 5,qD 14 7 12 13,qA 15 2 14,qT 16 5 15,q1 17 114 16,q1 18 113 17,q1 19 112 18,zM 4 19] [4]
theorem K.uD : jJ pZ 82 2 0 C.uD [.tmp 4]=true:=lS
def C.mP : dI:=qs [qX 3 10 0,qX 5 11 2,zA 6 (.alloc 12 [.nS 7,qx 0])] [1,3,5,6]<|qs [zA 12 (.uB 13 7 0 [.str [],.lit (.int .i64 0),.lit (.int .i64 0),.lit (.int .i64 0),.str [],.sl 1 [],.sl 5 []] []),zM 7 12] [1,3,5,6,7]<|.seq (.uC [(zM 13 1,[]),(qA 14 1 3,[]),(qF 15 1 14,[1]),(qk 16 .add 15 1,[1,2]),(qT 17 5 5,[]),(q1 18 83 17,[4]),(zA 19 (.build [.c (.str []),qx 0,qx 0,qx 0,.c (.str []),.nS 1,.nS 5] [(0,1,.t 13),(1,1,.t 16),(2,5,.t 18)]),OY),(zA 8 (.alloc 14 [.c (.str []),qx 0,qx 0,qx 0,.c (.str []),.nS 1,.nS 5]),[]),(qS 7 8 19,Oo)] [1,3,6,7,8])<|qs [qT 20 2 3,q1 21 62 20,zA 22 (.field false 0 1<|.t 21),zM 9 22] [1,3,6,7,8,9]<|qs [qB 10 false] [1,3,6,7,8,9,10]<|.seq (qs [qI 11 0] [1,3,6,7,8,9,10,11]<|.block 0<|.loop<|.seq (qs [zM 23 11,zM 24 9,qL 25 24,qb 26 .lss 23 25] [1,3,6,7,8,9,10,11,26]<|qc 26 .skip<|.exit 0)<|.seq (.block 1<|.cut (qs [zM 29 10,qO 30 29,zM 31 30,qm 31 true 32 9,qm 31 true 33 11,zG 31 true 34 (.Aj 7 (.t 32)<|.t 33),zG 31 true 35 (.nK 0<|.t 34),zG 31 true 36 (.load false 1<|.t 35),qm 31 true 37 1,zG 31 true 38 (.bin .geq (.t 36)<|.t 37),qP 39 31 38] [1,3,6,7,8,9,10,11,39]<|qc 39 (qs [zM 40 7,qT 41 7 8,zA 42 (.uB 15 7 1 [.str [],.lit (.int .i64 0),.lit (.int .i64 0),.lit (.int .i64 0),.str [],.sl 1 [],.sl 5 []] [(0,.t 41)]),zA 43 (.append 16 7 104 (.t 40)<|.t 42),zM 7 43] [1,3,6,7,8,9,11]<|.reg [qB 10 true] [1,3,6,7,8,9,10,11]) .skip)<|qs [zM 44 9,zM 45 11,qD 46 7 44 45,qA 47 0 46,qF 48 1 47,zM 49 1,qb 50 .neq 48 49] [1,3,6,7,8,9,10,11,50]<|qc 50 (.reg [zM 51 7,zM 52 9,zM 53 11,qD 54 7 52 53,qT 55 7 54,zA 56 (.uB 17 7 1 [.str [],.lit (.int .i64 0),.lit (.int .i64 0),.lit (.int .i64 0),.str [],.sl 1 [],.sl 5 []] [(0,.t 55)]),zA 57 (.append 18 7 104 (.t 51)<|.t 56),zM 7 57] [1,3,6,7,8,9,10,11]) .skip)<|.reg [zM 27 11,qk 28 .add 27 1,zM 11 28] [1,3,6,7,8,9,10,11])<|.seq (qs [zM 58 10,qO 59 58] [3,6,7,8,59]<|qc 59 (.reg [zM 60 7,qT 61 7 8,zA 62 (.uB 19 7 1 [.str [],.lit (.int .i64 0),.lit (.int .i64 0),.lit (.int .i64 0),.str [],.sl 1 [],.sl 5 []] [(0,.t 61)]),zA 63 (.append 20 7 104 (.t 60)<|.t 62),zM 7 63] [3,6,7]) .skip)<|qr [zM 64 7,qA 65 1 3,qF 66 1 65,qk 67 .add 66 1,zA 68 (.build [.nS 7,qx 0] [(0,1,.t 64),(1,1,.t 67)]),qS 2 6 68] [6]
theorem K.mP : jJ pZ 115 3 0 C.mP [.cell 6 true 2]=true:=lS
def C.jB : dI:=qs [qB 2 false] [0]<|.seq (qs [qI 3 0] [0,3]<|.block 0<|.loop<|.seq (qs [zM 4 3,zM 5 0,ql 6 5,qb 7 .lss 4 6] [0,3,7]<|qc 7 .skip<|.exit 0)<|.seq (.block 1<|qs [zM 10 0,zM 11 3,zA 12 (.idxs (.t 10)<|.t 11),zA 13 (.Md .i64<|.t 12),⟨none,some 14,.call 77 [.t 13,kI 97,kI 122]⟩,qO 15 14,zM 16 15,qm 16 true 17 0,qm 16 true 18 3,zG 16 true 19 (.idxs (.t 17)<|.t 18),zG 16 true 20 (.Md .i64<|.t 19),⟨(some (16,true)),some 21,.call 77 [.t 20,kI 48,kI 57]⟩,zG 16 true 22 (.not<|.t 21),qP 23 16 22] [0,3,23]<|qc 23 (qr [qB 2 false] [2]) .skip)<|.reg [zM 8 3,qk 9 .add 8 1,zM 3 9] [0,3])<|qr [zM 24 0,ql 25 24,⟨none,some 26,.call 77 [.t 25,kI 1,kI 8]⟩,zM 2 26] [2]
theorem K.jB : jJ pZ 75 1 0 C.jB [.tmp 2]=true:=lS
def C.gX : dI:=qs [qX 1 10 0,qB 2 false] [1]<|.seq (qs [qI 3 0] [1,3]<|.block 0<|.loop<|.seq (qs [zM 5 3,qA 6 0 1,qF 7 1 6,qL 8 7,qb 9 .lss 5 8] [1,3,9]<|qc 9 .skip<|.exit 0)<|.seq (.block 1<|qs [qA 12 0 1,qF 13 1 12,zM 14 3,qD 15 7 13 14,qT 16 7 15,zA 4 (.alloc 11 [.c (.str []),qx 0,qx 0,qx 0,.c (.str []),.nS 1,.nS 5]),qS 7 4 16] [1,3,4]<|.seq (.uC [(qA 17 0 4,[]),(qF 18 1 17,[0]),(q1 19 75 18,[0,1]),(qO 20 19,[0,1,2]),(zM 21 20,PV),(zG 21 false 22 (.nK 2<|.t 4),OE),(zG 21 false 23 (.load true 5<|.t 22),OY),(⟨(some (21,false)),some 24,.call 76 [.t 23]⟩,Wj),(zG 21 false 25 (.not<|.t 24),Oo),(qQ 26 21 25,TY),(zM 27 26,FM),(zG 27 false 28 (.nK 1<|.t 4),OD),(zG 27 false 29 (.load false 1<|.t 28),Ur),(zG 27 false 30 (.nK 1<|.t 1),OD),(zG 27 false 31 (.load false 1<|.t 30),[0,1,2,3,4,5,6,7,8,9,10,13]),(⟨(some (27,false)),some 32,.call 77 [.t 29,kI 1,.t 31]⟩,aoV),(zG 27 false 33 (.not<|.t 32),aqb),(qQ 34 27 33,aoW),(zM 35 34,anh),(qm 35 false 36 3,alf),(zG 35 false 37 (.bin .gtr (.t 36)<|kI 0),alg),(qm 35 false 38 37,aoX),(zG 38 true 39 (.nK 0<|.t 4),ajn),(zG 38 true 40 (.load false 1<|.t 39),aoY),(zG 38 true 41 (.nK 0<|.t 1),ajn),(zG 38 true 42 (.load false 1<|.t 41),[0,1,2,3,4,5,6,7,8,9,10,11,12,13,14,15,16,17,18,19,20,21,24]),(qm 38 true 43 3,ajn),(zG 38 true 44 (.bin .sub (.t 43)<|kI 1),[0,1,2,3,4,5,6,7,8,9,10,11,12,13,14,15,16,17,18,19,20,21,26]),(zG 38 true 45 (.Aj 7 (.t 42)<|.t 44),[0,1,2,3,4,5,6,7,8,9,10,11,12,13,14,15,16,17,18,19,20,21,24,25,26,27]),(zG 38 true 46 (.nK 0<|.t 45),[0,1,2,3,4,5,6,7,8,9,10,11,12,13,14,15,16,17,18,19,20,21,24,25,26,27,28]),(zG 38 true 47 (.load false 1<|.t 46),[0,1,2,3,4,5,6,7,8,9,10,11,12,13,14,15,16,17,18,19,20,21,24,25,26,27,28,29]),(zG 38 true 48 (.bin .leq (.t 40)<|.t 47),aqc),(zG 35 false 49 (.pick (.t 38) (.t 48)<|kB false),aqd),(qQ 50 35 49,aqe)] [1,3,50])<|qc 50 (qr [qB 2 false] [2]) .skip)<|.reg [zM 10 3,qk 11 .add 10 1,zM 3 11] [1,3])<|qr [qA 51 0 1,qF 52 1 51,qL 53 52,qk 54 .leq 53 10,zM 55 54,zG 55 true 56 (.nK 1<|.t 1),zG 55 true 57 (.load false 1<|.t 56),⟨(some (55,true)),some 58,.call 77 [.t 57,kI 0,kI 999]⟩,qP 59 55 58,zM 2 59] [2]
theorem K.gX : jJ pZ 35 1 0 C.gX [.tmp 2]=true:=lS
def C.mG : dI:=qs [qX 3 10 0,qX 5 11 2,zA 6 (.alloc 12 [.nS 7,qx 0]),zA 7 (.alloc 13 [qx 0,.c (.str []),qx 0,qx 0,qx 0,.c (.str []),.nS 1,.nS 5])] [1,3,5,6,7]<|qs [qI 8 200] [1,3,5,6,7,8]<|.cut (qs [qT 10 2 3,zM 11 1,q2 12 80 10 11,qk 13 .lss 12 0] [1,3,5,6,7,8,13]<|qc 13 (.reg [qI 8 201] [1,3,5,6,7,8]) .skip)<|qs [qT 14 2 3,zM 15 1,qT 16 5 5,q3 17 115 14 15 16,zA 9 (.alloc 14 [.nS 7,qx 0]),qS 2 9 17] [1,3,6,7,8,9]<|.seq (qs [qT 18 2 9,q1 19 35 18,qO 20 19] [1,3,6,7,8,9,20]<|qc 20 (qr [qT 21 2 3,q1 22 62 21,⟨none,some 23,.call 37 [kI 422]⟩,qS 2 6 22,qS 8 7 23] [6,7]) .skip)<|.seq (.uC [(qT 24 2 9,[]),(zM 25 8,[]),(qT 26 2 9,[]),(zM 27 1,[]),(q2 28 82 26 27,[2,3]),(qA 29 1 9,[]),(qF 30 1 29,[5]),(zA 31 (.build [qx 0,.c (.str []),qx 0,qx 0,qx 0,.c (.str []),.nS 1,.nS 5] [(0,1,.t 25),(1,1,.t 28),(2,1,.t 30)]),[1,2,3,4,5,6]),(qS 2 6 24,[0,2,3,4]),(qS 8 7 31,TY)] [6,7]) .ret
theorem K.mG : jJ pZ 84 3 0 C.mG [.cell 6 true 2,.cell 7 true 8]=true:=lS
def C.kS : dI:=qs [qX 2 10 0,qX 3 11 1,zA 4 (.alloc 12 [.nS 7,qx 0]),zA 5 (.alloc 13 [qx 0,.c (.str []),qx 0,qx 0,qx 0,.c (.str []),.nS 1,.nS 5])] [2,3,4,5]<|qs [qT 10 2 2,qA 11 1 3,qF 12 1 11,q2 13 80 10 12,zM 6 13] [2,3,4,5,6]<|.seq (qs [zM 14 6,qk 15 .lss 14 0,zM 16 15,zG 16 true 17 (.nK 0<|.t 3),zG 16 true 18 (.load false 1<|.t 17),zG 16 true 19 (.bin .neq (.t 18)<|kI 2),qP 20 16 19] [2,3,4,5,6,20]<|qc 20 (qr [qT 21 2 2,q1 22 62 21,⟨none,some 23,.call 37 [kI 404]⟩,qS 2 4 22,qS 8 5 23] [4,5]) .skip)<|.seq (.uC [(qA 24 2 3,[]),(qF 25 1 24,[0]),(qA 26 3 3,[]),(qF 27 1 26,[2]),(qT 28 2 2,[]),(qA 29 1 3,[]),(qF 30 1 29,[5]),(q2 31 82 28 30,[4,5,6]),(qA 32 0 3,[]),(qF 33 1 32,[8]),(qk 34 .eql 33 1,[8,9]),(⟨none,some 35,.call 81 [.t 25,.t 27,.t 31,.t 34]⟩,OD),(zM 7 35,Ur)] [2,3,4,5,6,7])<|.seq (qs [zM 36 7,qk 37 .neq 36 200] [2,3,4,5,6,7,37]<|qc 37 (qr [qT 38 2 2,q1 39 62 38,zM 40 7,q1 41 37 40,qS 2 4 39,qS 8 5 41] [4,5]) .skip)<|.seq (qs [qA 42 0 3,qF 43 1 42] [2,3,4,5,6,7,43]<|.block 0<|qs [qk 45 .eql 43 1,zM 44 45] [2,3,4,5,6,7,43,44]<|qc 44 (.seq (.uC [(qT 46 2 2,[]),(q1 47 62 46,[0]),(zM 48 7,[]),(qT 49 2 2,[]),(qA 50 1 3,[]),(qF 51 1 50,[4]),(q2 52 82 49 51,[0,1,3,4,5]),(qA 53 0 2,[]),(qF 54 1 53,[7]),(zM 55 6,[]),(qD 56 7 54 55,[7,8,9]),(qA 57 1 56,[7,8,9,10]),(qF 58 1 57,[7,8,9,10,11]),(qA 59 0 2,[]),(qF 60 1 59,[13]),(zM 61 6,[]),(qD 62 7 60 61,[13,14,15]),(qA 63 2 62,[13,14,15,16]),(qT 64 5 63,[13,14,15,16,17]),(q1 65 83 64,[0,1,3,4,5,6,13,14,15,16,17,18]),(zA 66 (.build [qx 0,.c (.str []),qx 0,qx 0,qx 0,.c (.str []),.nS 1,.nS 5] [(0,1,.t 48),(1,1,.t 52),(2,1,.t 58),(3,5,.t 65)]),alg),(qS 2 4 47,[0,1,3,4,5,6,13,14,15,16,17,18,19]),(qS 8 5 66,ajn)] [4,5]) .ret)<|qs [qk 68 .eql 43 2,zM 67 68] [2,3,4,5,6,7,43,67]<|qc 67 (qr [qT 69 2 2,qA 70 1 3,qF 71 1 70,qA 72 4 3,qT 73 5 72,q3 74 84 69 71 73,qE 75 74 0,qE 76 74 1,qS 2 4 75,qS 8 5 76] [4,5])<|qs [qk 78 .eql 43 3,zM 77 78] [2,3,4,5,6,7,77]<|qc 77 (.seq (qs [qA 79 1 2,qF 80 1 79,qk 81 .eql 80 999] [2,3,4,5,7,81]<|qc 81 (qr [qT 82 2 2,q1 83 62 82,⟨none,some 84,.call 37 [kI 422]⟩,qS 2 4 83,qS 8 5 84] [4,5]) .skip)<|.seq (.uC [(qT 85 2 2,[]),(qA 86 1 3,[]),(qF 87 1 86,[1]),(q2 88 85 85 87,[0,1,2]),(zM 89 7,[]),(qA 90 1 2,[]),(qF 91 1 90,[5]),(qk 92 .add 91 1,[5,6]),(zA 93 (.build [qx 0,.c (.str []),qx 0,qx 0,qx 0,.c (.str []),.nS 1,.nS 5] [(0,1,.t 89),(2,1,.t 92)]),[4,5,6,7]),(qS 2 4 88,PV),(qS 8 5 93,FM)] [4,5]) .ret) .skip)<|.seq (.uC [(qA 95 0 2,[]),(qF 96 1 95,[0]),(zM 97 6,[]),(qD 98 7 96 97,[0,1,2]),(qA 99 2 98,PV),(qT 100 5 99,OE),(qA 101 9 3,[]),(qF 102 1 101,[6]),(q2 103 86 100 102,Oo),(zM 94 103,TY),(qE 104 94 0,FM),(qE 105 94 1,FM),(qZ 8 14,[]),(qS 5 8 104,[0,1,2,3,4,5,6,7,8,9,10,12]),(zM 9 105,adL)] [2,3,4,5,6,8,9])<|.cut (qs [qA 106 0 3,qF 107 1 106,qk 108 .eql 107 5] [2,3,4,5,6,8,9,108]<|qc 108 (.uC [(qA 110 0 2,[]),(qF 111 1 110,[0]),(zM 112 6,[]),(qD 113 7 111 112,[0,1,2]),(qA 114 2 113,PV),(qT 115 5 114,OE),(qA 116 4 3,[]),(qT 117 5 116,[6]),(q2 118 87 115 117,Oo),(zM 109 118,TY),(qE 119 109 0,FM),(qE 120 109 1,FM),(qS 5 8 119,OD),(zM 9 120,agE)] [2,3,4,5,8,9]) .skip)<|.seq (qs [zM 121 9,qO 122 121] [2,3,4,5,8,122]<|qc 122 (qr [qT 123 2 2,q1 124 62 123,⟨none,some 125,.call 37 [kI 422]⟩,qS 2 4 124,qS 8 5 125] [4,5]) .skip)<|qr [qT 126 2 2,qA 127 1 3,qF 128 1 127,qT 129 5 8,q3 130 84 126 128 129,qE 131 130 0,qE 132 130 1,qS 2 4 131,qS 8 5 132] [4,5]
theorem K.kS : jJ pZ 38 2 0 C.kS [.cell 4 true 2,.cell 5 true 8]=true:=lS
def C.lT : dI:=qs [qB 2 false] [0]<|.seq (qs [qI 3 0] [0,3]<|.block 0<|.loop<|.seq (qs [zM 4 3,zM 5 0,ql 6 5,qb 7 .lss 4 6] [0,3,7]<|qc 7 .skip<|.exit 0)<|.seq (.block 1<|qs [zM 10 0,zM 11 3,zA 12 (.idxs (.t 10)<|.t 11),zA 13 (.Md .i64<|.t 12),⟨none,some 14,.call 77 [.t 13,kI 48,kI 57]⟩,qO 15 14,zM 16 15,qm 16 true 17 0,qm 16 true 18 3,zG 16 true 19 (.idxs (.t 17)<|.t 18),zG 16 true 20 (.Md .i64<|.t 19),⟨(some (16,true)),some 21,.call 77 [.t 20,kI 97,kI 102]⟩,zG 16 true 22 (.not<|.t 21),qP 23 16 22] [0,3,23]<|qc 23 (qr [qB 2 false] [2]) .skip)<|.reg [zM 8 3,qk 9 .add 8 1,zM 3 9] [0,3])<|qr [zM 24 0,ql 25 24,qk 26 .eql 25 4,zM 2 26] [2]
theorem K.lT : jJ pZ 109 1 0 C.lT [.tmp 2]=true:=lS
def C.kH : dI:=qs [qB 2 false] [0]<|.seq (qs [qI 3 0] [0,3]<|.block 0<|.loop<|.seq (qs [zM 4 3,zM 5 0,qL 6 5,qb 7 .lss 4 6] [0,3,7]<|qc 7 .skip<|.exit 0)<|.seq (.block 1<|qs [zM 10 0,zM 11 3,qD 12 1 10 11,qF 13 1 12,zA 14 (.bin .neq (.t 13)<|.k<|.c<|.str [42]),zM 15 14,qm 15 true 16 0,qm 15 true 17 3,zG 15 true 18 (.Aj 1 (.t 16)<|.t 17),zG 15 true 19 (.load false 1<|.t 18),⟨(some (15,true)),some 20,.call 109 [.t 19]⟩,zG 15 true 21 (.not<|.t 20),qP 22 15 21] [0,3,22]<|qc 22 (qr [qB 2 false] [2]) .skip)<|.reg [zM 8 3,qk 9 .add 8 1,zM 3 9] [0,3])<|qr [zM 23 0,qL 24 23,qk 25 .leq 24 4,zM 2 25] [2]
theorem K.kH : jJ pZ 78 1 0 C.kH [.tmp 2]=true:=lS
def C.oL : dI:=qs [qX 1 10 0,qB 2 false] [1]<|qr [qA 3 0 1,qF 4 1 3,⟨none,some 5,.call 77 [.t 4,kI 1,kI 5]⟩,zM 6 5,zG 6 true 7 (.nK 1<|.t 1),zG 6 true 8 (.load false 1<|.t 7),⟨(some (6,true)),some 9,.call 75 [.t 8]⟩,qP 10 6 9,zM 11 10,zG 11 true 12 (.nK 2<|.t 1),zG 11 true 13 (.load false 1<|.t 12),⟨(some (11,true)),some 14,.call 78 [.t 13]⟩,qP 15 11 14,zM 16 15,zG 16 true 17 (.nK 3<|.t 1),zG 16 true 18 (.load false 1<|.t 17),⟨(some (16,true)),some 19,.call 78 [.t 18]⟩,qP 20 16 19,zM 21 20,zG 21 true 22 (.nK 4<|.t 1),zG 21 true 23 (.load true 5<|.t 22),⟨(some (21,true)),some 24,.call 76 [.t 23]⟩,qP 25 21 24,zM 26 25,zG 26 true 27 (.nK 9<|.t 1),zG 26 true 28 (.load false 1<|.t 27),⟨(some (26,true)),some 29,.call 79 [.t 28]⟩,qP 30 26 29,zM 2 30] [2]
theorem K.oL : jJ pZ 36 1 0 C.oL [.tmp 2]=true:=lS
def C.Bi : dI:=qs [qB 2 false] [0]<|qr [zM 3 0,qk 4 .eql 3 200,zM 5 4,qm 5 false 6 0,zG 5 false 7 (.bin .eql (.t 6)<|kI 201),qQ 8 5 7,zM 2 8] [2]
theorem K.Bi : jJ pZ 70 1 0 C.Bi [.tmp 2]=true:=lS
def C.jl : dI:=qs [qB 2 false] [0]<|.seq (qs [qI 3 0] [0,3]<|.block 0<|.loop<|.seq (qs [zM 4 3,zM 5 0,qL 6 5,qb 7 .lss 4 6] [0,3,7]<|qc 7 .skip<|.exit 0)<|.seq (.block 1<|qs [zM 10 0,zM 11 3,qD 12 10 10 11,qT 13 10 12,q1 14 36 13,qO 15 14] [0,3,15]<|qc 15 (qr [qB 2 false] [2]) .skip)<|.reg [zM 8 3,qk 9 .add 8 1,zM 3 9] [0,3])<|qr [zM 16 0,qL 17 16,qk 18 .leq 17 8,zM 2 18] [2]
theorem K.jl : jJ pZ 61 1 0 C.jl [.tmp 2]=true:=lS
def C.kP : dI:=qs [qX 2 10 0,zA 4 (.alloc 11 [.nS 7,qx 0]),zA 5 (.mv<|.k<|.nS 8),qB 6 false] [1,2,4]<|qs [zA 12 (.uB 12 8 0 [.lit (.int .i64 0),.str [],.lit (.int .i64 0),.lit (.int .i64 0),.lit (.int .i64 0),.str [],.sl 1 [],.sl 5 []] []),zM 7 12] [1,2,4,7]<|.seq (qs [qT 13 2 2,q1 14 35 13,qO 15 14,zM 16 15,qm 16 false 17 1,⟨(some (16,false)),some 18,.call 61 [.t 17]⟩,zG 16 false 19 (.not<|.t 18),qQ 20 16 19] [1,2,4,7,20]<|qc 20 (qr [zA 21 (.build [.nS 7,qx 0] []),qS 2 4 21,zA 5 (.mv<|.k<|.nS 8),qB 6 false] [4,5,6]) .skip)<|qs [qT 22 2 2,q1 23 62 22,zA 8 (.alloc 13 [.nS 7,qx 0]),qS 2 8 23] [1,2,4,7,8]<|.seq (qs [qI 9 0] [1,2,4,7,8,9]<|.block 0<|.loop<|.seq (qs [zM 24 9,zM 25 1,qL 26 25,qb 27 .lss 24 26] [1,2,4,7,8,9,27]<|qc 27 .skip<|.exit 0)<|.seq (.block 1<|.seq (.uC [(qT 31 2 8,[]),(zM 32 1,[]),(zM 33 9,[]),(qD 34 10 32 33,[1,2]),(qT 35 10 34,[1,2,3]),(q2 36 38 31 35,OE),(zM 30 36,OY),(qE 37 30 0,Wj),(qE 38 30 1,Wj),(zA 10 (.alloc 14 [.nS 7,qx 0]),[]),(zA 11 (.alloc 15 [qx 0,.c (.str []),qx 0,qx 0,qx 0,.c (.str []),.nS 1,.nS 5]),[]),(qS 2 10 37,[0,1,2,3,4,5,6,7,9,10]),(qS 8 11 38,Ur)] [1,2,4,7,8,9,10,11])<|qs [qT 39 2 10,qS 2 8 39] [1,2,4,7,8,9,11]<|qs [zM 40 7,qT 41 8 11,zA 42 (.uB 16 8 1 [.lit (.int .i64 0),.str [],.lit (.int .i64 0),.lit (.int .i64 0),.lit (.int .i64 0),.str [],.sl 1 [],.sl 5 []] [(0,.t 41)]),zA 43 (.append 17 8 112 (.t 40)<|.t 42),zM 7 43] [1,2,4,7,8,9,11]<|qs [qA 44 0 11,qF 45 1 44,q1 46 70 45,qO 47 46] [1,2,4,7,8,9,47]<|qc 47 (qr [qT 48 2 2,q1 49 62 48,zM 50 7,qS 2 4 49,zM 5 50,qB 6 false] [4,5,6]) .skip)<|.reg [zM 28 9,qk 29 .add 28 1,zM 9 29] [1,2,4,7,8,9])<|qr [qT 51 2 8,zM 52 7,qS 2 4 51,zM 5 52,qB 6 true] [4,5,6]
theorem K.kP : jJ pZ 29 2 0 C.kP [.cell 4 true 2,.tmp 5,.tmp 6]=true:=lS
section
section
variable {P:Program} {K R:gY->Prop} {st:gY}
theorem ake {du:DU (QA K R)} : QK (QA K R) .normal st du=K st:=by unfold QK;rfl
theorem akf {du:DU (QA K R)} : QK (QA K R) .ret st du=R st:=by unfold QK;rfl
end
theorem afP {p:Prop}(x:p:=by
 repeat' (
  (try simp -dsimp only[egR,ake,akf,nR.qi,nR.f,nR.rd,Ef,Be,lvl,zB,reduceIte,Nat.reduceEqDiff,Nat.reduceAdd,Nat.reduceLeDiff,Nat.reduceBEq,reduceCtorEq,Int.reduceBNe,Int.reduceBEq,Int.reduceLT,Int.reduceLE,Int.reduceNeg,Nat.reduceLT,Ei,Int.reduceToNat,GU, *])
  repeat((with_reducible refine And.intro ?_ ?_);focus first|(show Az _ _ _ _=true;kernel_rfl)|(show zL _ _=true;kernel_rfl)|omega|assumption|(show _<=maxLen;decide))
  first
  |with_reducible refine ahH ?_
  |((with_reducible refine adg ?_);(have zd:=zc;(repeat(first|((first|refine ahG (λ_=>zd.1) rfl rfl ?_|refine ahI zd.1 rfl rfl ?_);clear zd)|with_reducible replace zd:=zd.2));(fail_if_success have zz:=zd)))
  |exact zf.f
  |((with_reducible refine aiy ?_);(exact EC [] [] [] (by rfl) tRE tRE tRE)<;>fail)
  )):p:=x
end
end Go.Ab
