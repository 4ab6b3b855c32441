/- What the functions of the program compute (part 1). No conditions. -/
import Derived.Test.YtfengbmckcgbiaaGreatDoorY3
set_option linter.unusedVariables false
set_option linter.unusedSimpArgs false
set_option maxRecDepth 100000
set_option maxHeartbeats 4000000
set_option linter.defProp false
set_option linter.unusedSectionVars false
open And renaming intro->lN
open Go.IntKind renaming wrap->af,bits->iR
open Go.Op renaming bytesLess->iT
open Int renaming tmod->lC,tdiv->mJ,ofNat_zero->rQ,fdiv->sU,toNat_sub->tJ,sub_zero->uz
open List renaming map->ax,map_cons->bT,replicate->bW,take_of_length_le->bz,drop_zero->dM,map_nil->jP,length_drop->nD,drop->oM,take_length->qg,map_append->vk,map_take->xC,take->yP,map_drop->zl
open Nat renaming le_mul_of_pos_right->BM,add_sub_cancel->jJ,sub_zero->oP
open Option renaming map_none->lQ
open UInt8 renaming ofNat->gy
namespace Go.Ab
open Go
structure aj where
 bM:Int
 wJ:Int
 lI:fC
 aO:List fC
 aP:List aj
 deriving Inhabited
mutual
def aj.cells : aj->List Cell
 |aj.mk x0 x1 x2 x3 x4=>[.lit (.int .i64 x0),.lit (.int .i64 x1),.str x2,.sl 1 (ax cS x3),.sl 5 (aj.KT x4)]
def aj.KT : List aj->List (List Cell)
 |[]=>[]
 |x::r=>x.cells::aj.KT r
end
theorem aj.Xx (ks:List aj):aj.KT ks=ax aj.cells ks:=by
 induction ks with
 |nil=>rfl
 |cons x r ih=>simp[aj.KT,ih]
theorem aj.iG (n:aj):n.cells=[.lit (.int .i64 n.bM),.lit (.int .i64 n.wJ),.str n.lI,.sl 1 (ax cS n.aO),.sl 5 (ax aj.cells n.aP)]:=by cases n;rw[aj.cells,aj.Xx]
structure uN where
 bM:Int
 uq:List fC
 xH:List fC
 Value:aj
 deriving Inhabited
def uN.cells (n:uN):List Cell:=[.lit (.int .i64 n.bM),.sl 1 (ax cS n.uq),.sl 1 (ax cS n.xH),.lit (.int .i64 n.Value.bM),.lit (.int .i64 n.Value.wJ),.str n.Value.lI,.sl 1 (ax cS n.Value.aO),.sl 5 (ax aj.cells n.Value.aP)]
theorem uN.iG (n:uN):n.cells=[.lit (.int .i64 n.bM),.sl 1 (ax cS n.uq),.sl 1 (ax cS n.xH),.lit (.int .i64 n.Value.bM),.lit (.int .i64 n.Value.wJ),.str n.Value.lI,.sl 1 (ax cS n.Value.aO),.sl 5 (ax aj.cells n.Value.aP)]:=rfl
structure fA where
 iC:fC
 mW:Int
 pO:aj
 deriving Inhabited
def fA.cells (n:fA):List Cell:=[.str n.iC,.lit (.int .i64 n.mW),.lit (.int .i64 n.pO.bM),.lit (.int .i64 n.pO.wJ),.str n.pO.lI,.sl 1 (ax cS n.pO.aO),.sl 5 (ax aj.cells n.pO.aP)]
theorem fA.iG (n:fA):n.cells=[.str n.iC,.lit (.int .i64 n.mW),.lit (.int .i64 n.pO.bM),.lit (.int .i64 n.pO.wJ),.str n.pO.lI,.sl 1 (ax cS n.pO.aO),.sl 5 (ax aj.cells n.pO.aP)]:=rfl
structure bU where
 bH:List fA
 kY:Int
 deriving Inhabited
def bU.cells (n:bU):List Cell:=[.sl 7 (ax fA.cells n.bH),.lit (.int .i64 n.kY)]
theorem bU.iG (n:bU):n.cells=[.sl 7 (ax fA.cells n.bH),.lit (.int .i64 n.kY)]:=rfl
structure bn where
 kP:Int
 iC:fC
 yK:List fC
 uM:List fC
 Body:aj
 Me:List uN
 deriving Inhabited
def bn.cells (n:bn):List Cell:=[.lit (.int .i64 n.kP),.str n.iC,.sl 1 (ax cS n.yK),.sl 1 (ax cS n.uM),.lit (.int .i64 n.Body.bM),.lit (.int .i64 n.Body.wJ),.str n.Body.lI,.sl 1 (ax cS n.Body.aO),.sl 5 (ax aj.cells n.Body.aP),.sl 8 (ax uN.cells n.Me)]
theorem bn.iG (n:bn):n.cells=[.lit (.int .i64 n.kP),.str n.iC,.sl 1 (ax cS n.yK),.sl 1 (ax cS n.uM),.lit (.int .i64 n.Body.bM),.lit (.int .i64 n.Body.wJ),.str n.Body.lI,.sl 1 (ax cS n.Body.aO),.sl 5 (ax aj.cells n.Body.aP),.sl 8 (ax uN.cells n.Me)]:=rfl
structure bP where
 Jy:Int
 Tag:fC
 mW:Int
 Body:aj
 deriving Inhabited
def bP.cells (n:bP):List Cell:=[.lit (.int .i64 n.Jy),.str n.Tag,.lit (.int .i64 n.mW),.lit (.int .i64 n.Body.bM),.lit (.int .i64 n.Body.wJ),.str n.Body.lI,.sl 1 (ax cS n.Body.aO),.sl 5 (ax aj.cells n.Body.aP)]
theorem bP.iG (n:bP):n.cells=[.lit (.int .i64 n.Jy),.str n.Tag,.lit (.int .i64 n.mW),.lit (.int .i64 n.Body.bM),.lit (.int .i64 n.Body.wJ),.str n.Body.lI,.sl 1 (ax cS n.Body.aO),.sl 5 (ax aj.cells n.Body.aP)]:=rfl
def G.cmp_isNaN_int (f:Nat)(vw:Int):Option (Bool):=match f with
|0=>none
|n+1=>some<|vw != vw
def G.cmp_Compare_int (f:Nat)(vw:Int)(O0:Int):Option (Int):=match f with
|0=>none
|n+1=>(G.cmp_isNaN_int n vw).bind λv1=>(G.cmp_isNaN_int n O0).bind λv2=>cond v1 (cond v2 (some 0)<|some (-1))<|cond v2 (some 1)<|cond (decide<|vw<O0) (some (-1))<|cond (decide<|O0<vw) (some 1)<|some 0
def G.cmp_isNaN_string (f:Nat)(vw:fC):Option (Bool):=match f with
|0=>none
|n+1=>some<|(!(vw==vw))
def G.cmp_Less_string (f:Nat)(vw:fC)(O0:fC):Option (Bool):=match f with
|0=>none
|n+1=>(G.cmp_isNaN_string n vw).bind λv1=>cond v1 ((G.cmp_isNaN_string n O0).bind λv2=>cond v2 (some<|iT vw O0)<|some true)<|some<|iT vw O0
mutual
def G.bC.L2 (f:Nat)(aG:aj)(z1:List fC)(kD:Int)(z4:List aj):Option (aj):=match f with
|0=>none
|n+1=>cond (decide<|kD<(aG.aP.length:Int)) (chk (0<=kD/\kD<(aG.aP.length:Int))<|(G.bC n<|aG.aP.getD kD.toNat default).bind λv3=>chk (0<=kD/\kD<(z4.length:Int))<|G.bC.L2 n aG z1 (af .i64<|kD+1)<|z4.set kD.toNat v3)<|some<|aj.mk aG.bM aG.wJ aG.lI z1 z4
def G.bC.K1 (f:Nat)(aG:aj)(z1:List fC):Option (aj):=match f with
|0=>none
|n+1=>cond (decide<|0<(aG.aP.length:Int)) (chk (0<=(aG.aP.length:Int)/\(aG.aP.length:Int)<=(aG.aP.length:Int)/\80*(aG.aP.length:Int)<=2^47/\(aG.aP.length:Int)<=2^47)<|G.bC.L2 n aG z1 0<|bW aG.aP.length<|aj.mk 0 0 [] [] [])<|some<|aj.mk aG.bM aG.wJ aG.lI z1 []
def G.bC (f:Nat)(aG:aj):Option (aj):=match f with
|0=>none
|n+1=>cond (decide<|0<(aG.aO.length:Int)) (chk (0<=(aG.aO.length:Int)/\(aG.aO.length:Int)<=(aG.aO.length:Int)/\16*(aG.aO.length:Int)<=2^47/\(aG.aO.length:Int)<=2^47)<|G.bC.K1 n aG aG.aO)<|G.bC.K1 n aG []
end
def G.slices_isNaN_string (f:Nat)(vw:fC):Option (Bool):=match f with
|0=>none
|n+1=>some<|(!(vw==vw))
def G.slices_BinarySearch_string.L1 (f:Nat)(vw:List fC)(rU:fC)(aJ:Int)(NQ:Int):Option (Int×Bool):=match f with
|0=>none
|n+1=>cond (decide<|aJ<NQ) (chk (0<=(af .i64<|(sU (af .u64<|(af .i64<|aJ+NQ))<|2^(min 1<|iR .u64)))/\(af .i64<|(sU (af .u64<|(af .i64<|aJ+NQ))<|2^(min 1<|iR .u64)))<(vw.length:Int))<|(G.cmp_Less_string n (vw.getD (af .i64<|(sU (af .u64<|(af .i64<|aJ+NQ))<|2^(min 1<|iR .u64))).toNat default) rU).bind λv3=>cond v3 (G.slices_BinarySearch_string.L1 n vw rU (af .i64<|(af .i64<|(sU (af .u64<|(af .i64<|aJ+NQ))<|2^(min 1<|iR .u64)))+1) NQ)<|G.slices_BinarySearch_string.L1 n vw rU aJ<|af .i64<|(sU (af .u64<|(af .i64<|aJ+NQ))<|2^(min 1<|iR .u64)))<|cond (decide<|aJ<(vw.length:Int)) (chk (0<=aJ/\aJ<(vw.length:Int))<|cond ((vw.getD aJ.toNat default)==rU) (some (aJ,true))<|chk (0<=aJ/\aJ<(vw.length:Int))<|(G.slices_isNaN_string n<|vw.getD aJ.toNat default).bind λv4=>cond v4 ((G.slices_isNaN_string n rU).bind λv5=>some (aJ,v5))<|some (aJ,false))<|some (aJ,false)
def G.slices_BinarySearch_string (f:Nat)(vw:List fC)(rU:fC):Option (Int×Bool):=match f with
|0=>none
|n+1=>G.slices_BinarySearch_string.L1 n vw rU 0 (vw.length:Int)
def G.strconv_Itoa (f:Nat)(i:Int):Option fC:=match f with
|0=>none
|_+1=>(chk ((-9223372036854775808<=i/\i<=9223372036854775807)/\(Go.Lib.itoa i).length<=1000000) (some (Go.Lib.itoa i)))
def G.gQ.L1 (f:Nat)(aG:aj)(kJ:fC)(kD:Int):Option (Int×Bool):=match f with
|0=>none
|n+1=>cond (decide<|kD<(aG.aP.length:Int)) ((G.strconv_Itoa n kD).bind λv4=>cond (v4==kJ) (some (kD,true))<|G.gQ.L1 n aG kJ<|af .i64<|kD+1)<|some (0,false)
def G.gQ (f:Nat)(aG:aj)(kJ:fC):Option (Int×Bool):=match f with
|0=>none
|n+1=>cond (aG.bM==4) ((G.slices_BinarySearch_string n aG.aO kJ).bind λv1=>some (v1.1,v1.2))<|cond (aG.bM==3) (G.gQ.L1 n aG kJ 0)<|some (0,false)
def G.jf (f:Nat)(s:List aj)(i:Int)(v:List aj):Option (List aj):=match f with
|0=>none
|_+1=>chk (0<=i/\i<=(s.length:Int)/\v.length=1/\(s.length+1)*86<=2^46) (some (s.take i.toNat++v++s.drop i.toNat))
def G.mZ (f:Nat)(s:List fC)(i:Int)(v:List fC):Option (List fC):=match f with
|0=>none
|_+1=>chk (0<=i/\i<=(s.length:Int)/\v.length=1/\(s.length+1)*18<=2^46) (some (s.take i.toNat++v++s.drop i.toNat))
def G.pV (f:Nat)(BP:aj)(fU:fC)(iZ:aj):Option (aj):=match f with
|0=>none
|n+1=>(G.slices_BinarySearch_string n BP.aO fU).bind λv1=>cond v1.2 (chk (0<=v1.1/\v1.1<(BP.aP.length:Int))<|some<|(aj.mk BP.bM BP.wJ BP.lI BP.aO<|BP.aP.set v1.1.toNat iZ))<|(G.mZ n BP.aO v1.1 [fU]).bind λv2=>(G.jf n BP.aP v1.1 [iZ]).bind λv3=>some<|aj.mk BP.bM BP.wJ BP.lI v2 v3
def G.lX.K1 (f:Nat)(iZ:aj)(v1:aj)(ao5:Int)(ajQ:Bool):Option (aj×Bool):=match f with
|0=>none
|n+1=>cond ajQ ((G.bC n iZ).bind λv6=>(G.jf n v1.aP ao5 [v6]).bind λv7=>some ((aj.mk v1.bM v1.wJ v1.lI v1.aO v7),true))<|some ((aj.mk 0 0 [] [] []),false)
def G.lX (f:Nat)(aG:aj)(kJ:fC)(iZ:aj):Option (aj×Bool):=match f with
|0=>none
|n+1=>(G.bC n aG).bind λv1=>cond (aG.bM==4) ((G.bC n iZ).bind λv2=>(G.pV n v1 kJ v2).bind λv3=>some (v3,true))<|cond (aG.bM==3) ((G.gQ n aG kJ).bind λv4=>cond v4.2 (G.lX.K1 n iZ v1 v4.1 true)<|cond (kJ==[45]) (G.lX.K1 n iZ v1 (aG.aP.length:Int) true)<|(G.strconv_Itoa n (aG.aP.length:Int)).bind λv8=>cond (kJ==v8) (G.lX.K1 n iZ v1 (aG.aP.length:Int) true)<|G.lX.K1 n iZ v1 v4.1 false)<|some ((aj.mk 0 0 [] [] []),false)
def G.vC (f:Nat)(Ak:aj)(lg:List fC)(pK:Int)(AX:aj):Option (aj×Bool):=match f with
|0=>none
|n+1=>chk (0<=pK/\pK<(lg.length:Int))<|(G.lX n Ak (lg.getD pK.toNat default) AX).bind λv1=>some (v1.1,v1.2)
def G.gI.L1 (f:Nat)(aZ:fC)(aJ:Int):Option (Bool):=match f with
|0=>none
|n+1=>cond (decide<|aJ<(aZ.length:Int)) (chk (0<=aJ/\aJ<(aZ.length:Int))<|cond (decide<|((aZ.getD aJ.toNat 0).toNat:Int)<32) (some false)<|chk (0<=aJ/\aJ<(aZ.length:Int))<|cond (decide<|126<((aZ.getD aJ.toNat 0).toNat:Int)) (some false)<|G.gI.L1 n aZ<|af .i64<|aJ+1)<|some true
def G.gI (f:Nat)(aZ:fC):Option (Bool):=match f with
|0=>none
|n+1=>cond (decide<|12<(aZ.length:Int)) (some false)<|G.gI.L1 n aZ 0
def G.kM.L1 (f:Nat)(xR:List fC)(kD:Int):Option (Bool):=match f with
|0=>none
|n+1=>cond (decide<|kD<(xR.length:Int)) (chk (0<=kD/\kD<(xR.length:Int))<|(G.gI n<|xR.getD kD.toNat default).bind λv3=>cond v3 (cond (decide<|0<kD) (chk (0<=(af .i64<|kD-1)/\(af .i64<|kD-1)<(xR.length:Int))<|cond (iT (xR.getD (af .i64<|kD-1).toNat default)<|xR.getD kD.toNat default) (G.kM.L1 n xR<|af .i64<|kD+1)<|some false)<|G.kM.L1 n xR<|af .i64<|kD+1)<|some false)<|some true
def G.kM (f:Nat)(xR:List fC):Option (Bool):=match f with
|0=>none
|n+1=>cond (decide<|6<(xR.length:Int)) (some false)<|G.kM.L1 n xR 0
def G.gV.K1 (f:Nat)(aG:aj):Option (Bool):=match f with
|0=>none
|n+1=>cond (aG.bM != 4) (cond (decide<|0<(aG.aO.length:Int)) (some false)<|cond (aG.bM==0) (some<|((aG.aP.length:Int)==0))<|cond (aG.bM==1) (cond (decide<|(-999999)<=aG.wJ) (cond (decide<|aG.wJ<=999999) (some<|((aG.aP.length:Int)==0))<|some false)<|some false)<|cond (aG.bM==2) ((G.gI n aG.lI).bind λv1=>cond v1 (some<|((aG.aP.length:Int)==0))<|some false)<|cond (aG.bM==3) (some<|(decide<|(aG.aP.length:Int)<=6))<|cond (aG.bM==4) ((G.kM n aG.aO).bind λv2=>cond v2 (some<|((aG.aP.length:Int)==(aG.aO.length:Int)))<|some false)<|some false)<|cond (aG.bM==0) (some<|((aG.aP.length:Int)==0))<|cond (aG.bM==1) (cond (decide<|(-999999)<=aG.wJ) (cond (decide<|aG.wJ<=999999) (some<|((aG.aP.length:Int)==0))<|some false)<|some false)<|cond (aG.bM==2) ((G.gI n aG.lI).bind λv3=>cond v3 (some<|((aG.aP.length:Int)==0))<|some false)<|cond (aG.bM==3) (some<|(decide<|(aG.aP.length:Int)<=6))<|cond (aG.bM==4) ((G.kM n aG.aO).bind λv4=>cond v4 (some<|((aG.aP.length:Int)==(aG.aO.length:Int)))<|some false)<|some false
def G.gV (f:Nat)(aG:aj):Option (Bool):=match f with
|0=>none
|n+1=>cond (aG.bM != 1) (cond (aG.wJ != 0) (some false)<|cond (aG.bM != 2) (cond (aG.lI==[]) (G.gV.K1 n aG)<|some false)<|G.gV.K1 n aG)<|cond (aG.bM != 2) (cond (aG.lI==[]) (G.gV.K1 n aG)<|some false)<|G.gV.K1 n aG
mutual
def G.gz.L1 (f:Nat)(aG:aj)(Bh:Int)(abP:Int)(WQ:Int)(kD:Int):Option (Int×Int×Bool):=match f with
|0=>none
|n+1=>cond (decide<|kD<(aG.aP.length:Int)) (chk (0<=kD/\kD<(aG.aP.length:Int))<|(G.gz n (aG.aP.getD kD.toNat default)<|af .i64<|Bh+1).bind λv4=>cond v4.2.2 (G.gz.L1 n aG Bh (af .i64<|abP+v4.1) (if(af .i64<|v4.2.1+1)>WQ then(af .i64<|v4.2.1+1)else WQ)<|af .i64<|kD+1)<|some (0,0,false))<|some (abP,WQ,true)
def G.gz (f:Nat)(aG:aj)(Bh:Int):Option (Int×Int×Bool):=match f with
|0=>none
|n+1=>cond (decide<|5<Bh) (some (0,0,false))<|(G.gV n aG).bind λv1=>cond v1 (G.gz.L1 n aG Bh 1 1 0)<|some (0,0,false)
end
def G.dm (f:Nat)(aG:aj):Option (Bool):=match f with
|0=>none
|n+1=>(G.gz n aG 1).bind λv1=>cond v1.2.2 (some<|(decide<|v1.1<=40))<|some false
mutual
def G.jF (f:Nat)(aG:aj)(aV:List fC)(lg:List fC)(pK:Int)(AX:aj):Option (aj×Bool):=match f with
|0=>none
|n+1=>cond ((aV.length:Int)==0) ((G.vC n aG lg pK AX).bind λv1=>some (v1.1,v1.2))<|chk (0<=0/\0<(aV.length:Int))<|(G.gQ n aG<|aV.getD 0 default).bind λv2=>cond v2.2 (chk (0<=v2.1/\v2.1<(aG.aP.length:Int))<|chk (0<=1/\1<=(aV.length:Int)/\(aV.length:Int)<=(aV.length:Int))<|(G.jF n (aG.aP.getD v2.1.toNat default) (aV.drop 1) lg pK AX).bind λv3=>cond v3.2 ((G.bC n aG).bind λv4=>chk (0<=v2.1/\v2.1<(v4.aP.length:Int))<|some ((aj.mk v4.bM v4.wJ v4.lI v4.aO<|v4.aP.set v2.1.toNat v3.1),true))<|some ((aj.mk 0 0 [] [] []),false))<|some ((aj.mk 0 0 [] [] []),false)
end
def G.pU (f:Nat)(aG:aj)(MH:Bool):Option (aj×Bool):=match f with
|0=>none
|n+1=>cond MH ((G.dm n aG).bind λv1=>cond v1 (some (aG,true))<|some ((aj.mk 0 0 [] [] []),false))<|some ((aj.mk 0 0 [] [] []),false)
def G.jv.L1 (f:Nat)(aV:List fC)(kD:Int):Option (Bool):=match f with
|0=>none
|n+1=>cond (decide<|kD<(aV.length:Int)) (chk (0<=kD/\kD<(aV.length:Int))<|(G.gI n<|aV.getD kD.toNat default).bind λv3=>cond v3 (G.jv.L1 n aV<|af .i64<|kD+1)<|some false)<|some true
def G.jv (f:Nat)(aV:List fC):Option (Bool):=match f with
|0=>none
|n+1=>cond (decide<|5<(aV.length:Int)) (some false)<|G.jv.L1 n aV 0
def G.oQ (f:Nat)(aG:aj)(aV:List fC)(iZ:aj):Option (aj×Bool):=match f with
|0=>none
|n+1=>(G.dm n aG).bind λv1=>cond v1 ((G.jv n aV).bind λv2=>cond v2 ((G.dm n iZ).bind λv3=>cond v3 (cond ((aV.length:Int)==0) ((G.bC n iZ).bind λv4=>some (v4,true))<|chk (0<=0/\0<=(af .i64<|(aV.length:Int)-1)/\(af .i64<|(aV.length:Int)-1)<=(aV.length:Int))<|(G.jF n aG (aV.take<|(af .i64<|(aV.length:Int)-1).toNat) aV (af .i64<|(aV.length:Int)-1) iZ).bind λv5=>(G.pU n v5.1 v5.2).bind λv6=>some (v6.1,v6.2))<|some ((aj.mk 0 0 [] [] []),false))<|some ((aj.mk 0 0 [] [] []),false))<|some ((aj.mk 0 0 [] [] []),false)
def G.kN.L1 (f:Nat)(aV:List fC)(kD:Int)(y6:Int)(y7:Int)(y8:fC)(y9:List fC)(Uy:List aj):Option (aj×Bool):=match f with
|0=>none
|n+1=>cond (decide<|kD<(aV.length:Int)) (chk (0<=kD/\kD<(aV.length:Int))<|(G.gQ n (aj.mk y6 y7 y8 y9 Uy)<|aV.getD kD.toNat default).bind λv3=>cond v3.2 (chk (0<=v3.1/\v3.1<(Uy.length:Int))<|G.kN.L1 n aV (af .i64<|kD+1) ((Uy.getD v3.1.toNat default).bM) ((Uy.getD v3.1.toNat default).wJ) ((Uy.getD v3.1.toNat default).lI) ((Uy.getD v3.1.toNat default).aO)<|(Uy.getD v3.1.toNat default).aP)<|some ((aj.mk 0 0 [] [] []),false))<|some ((aj.mk y6 y7 y8 y9 Uy),true)
def G.kN (f:Nat)(aG:aj)(aV:List fC):Option (aj×Bool):=match f with
|0=>none
|n+1=>G.kN.L1 n aV 0 aG.bM aG.wJ aG.lI aG.aO aG.aP
def G.uO (f:Nat)(aG:aj)(aV:List fC):Option (aj×Bool):=match f with
|0=>none
|n+1=>(G.dm n aG).bind λv1=>cond v1 ((G.jv n aV).bind λv2=>cond v2 ((G.kN n aG aV).bind λv3=>cond v3.2 ((G.bC n v3.1).bind λv4=>some (v4,true))<|some ((aj.mk 0 0 [] [] []),false))<|some ((aj.mk 0 0 [] [] []),false))<|some ((aj.mk 0 0 [] [] []),false)
def G.jW (f:Nat)(s:List aj)(i:Int)(j:Int):Option (List aj):=match f with
|0=>none
|_+1=>chk (0<=i/\i<j/\j<=(s.length:Int)/\s.length*86<=2^46) (some (s.take i.toNat++s.drop j.toNat))
def G.slices_Delete_string (f:Nat)(s:List fC)(i:Int)(j:Int):Option (List fC):=match f with
|0=>none
|_+1=>chk (0<=i/\i<j/\j<=(s.length:Int)/\s.length*18<=2^46) (some (s.take i.toNat++s.drop j.toNat))
def G.jq.K1 (f:Nat)(v1:Int×Bool)(v2:aj)(z1:List fC):Option (aj×Bool):=match f with
|0=>none
|n+1=>(G.jW n v2.aP v1.1<|af .i64<|v1.1+1).bind λv4=>some ((aj.mk v2.bM v2.wJ v2.lI z1 v4),true)
def G.jq (f:Nat)(Ak:aj)(lg:List fC)(pK:Int):Option (aj×Bool):=match f with
|0=>none
|n+1=>chk (0<=pK/\pK<(lg.length:Int))<|(G.gQ n Ak<|lg.getD pK.toNat default).bind λv1=>cond v1.2 ((G.bC n Ak).bind λv2=>cond (Ak.bM==4) ((G.slices_Delete_string n v2.aO v1.1<|af .i64<|v1.1+1).bind λv5=>G.jq.K1 n v1 v2 v5)<|G.jq.K1 n v1 v2 v2.aO)<|some ((aj.mk 0 0 [] [] []),false)
mutual
def G.jb (f:Nat)(aG:aj)(aV:List fC)(lg:List fC)(pK:Int):Option (aj×Bool):=match f with
|0=>none
|n+1=>cond ((aV.length:Int)==0) ((G.jq n aG lg pK).bind λv1=>some (v1.1,v1.2))<|chk (0<=0/\0<(aV.length:Int))<|(G.gQ n aG<|aV.getD 0 default).bind λv2=>cond v2.2 (chk (0<=v2.1/\v2.1<(aG.aP.length:Int))<|chk (0<=1/\1<=(aV.length:Int)/\(aV.length:Int)<=(aV.length:Int))<|(G.jb n (aG.aP.getD v2.1.toNat default) (aV.drop 1) lg pK).bind λv3=>cond v3.2 ((G.bC n aG).bind λv4=>chk (0<=v2.1/\v2.1<(v4.aP.length:Int))<|some ((aj.mk v4.bM v4.wJ v4.lI v4.aO<|v4.aP.set v2.1.toNat v3.1),true))<|some ((aj.mk 0 0 [] [] []),false))<|some ((aj.mk 0 0 [] [] []),false)
end
def G.mF (f:Nat)(aG:aj)(aV:List fC):Option (aj×Bool):=match f with
|0=>none
|n+1=>(G.dm n aG).bind λv1=>cond v1 ((G.jv n aV).bind λv2=>cond v2 (cond ((aV.length:Int)==0) (some ((aj.mk 0 0 [] [] []),false))<|chk (0<=0/\0<=(af .i64<|(aV.length:Int)-1)/\(af .i64<|(aV.length:Int)-1)<=(aV.length:Int))<|(G.jb n aG (aV.take<|(af .i64<|(aV.length:Int)-1).toNat) aV<|af .i64<|(aV.length:Int)-1).bind λv3=>some (v3.1,v3.2))<|some ((aj.mk 0 0 [] [] []),false))<|some ((aj.mk 0 0 [] [] []),false)
def G.vF (f:Nat)(aQ:aj)(lg:aj):Option (aj×Bool):=match f with
|0=>none
|n+1=>(G.bC n lg).bind λv1=>some (v1,true)
mutual
def G.jG (f:Nat)(aG:aj)(aV:List fC)(lg:aj):Option (aj×Bool):=match f with
|0=>none
|n+1=>cond ((aV.length:Int)==0) ((G.vF n aG lg).bind λv1=>some (v1.1,v1.2))<|chk (0<=0/\0<(aV.length:Int))<|(G.gQ n aG<|aV.getD 0 default).bind λv2=>cond v2.2 (chk (0<=v2.1/\v2.1<(aG.aP.length:Int))<|chk (0<=1/\1<=(aV.length:Int)/\(aV.length:Int)<=(aV.length:Int))<|(G.jG n (aG.aP.getD v2.1.toNat default) (aV.drop 1) lg).bind λv3=>cond v3.2 ((G.bC n aG).bind λv4=>chk (0<=v2.1/\v2.1<(v4.aP.length:Int))<|some ((aj.mk v4.bM v4.wJ v4.lI v4.aO<|v4.aP.set v2.1.toNat v3.1),true))<|some ((aj.mk 0 0 [] [] []),false))<|some ((aj.mk 0 0 [] [] []),false)
end
def G.vP (f:Nat)(aG:aj)(aV:List fC)(iZ:aj):Option (aj×Bool):=match f with
|0=>none
|n+1=>(G.dm n aG).bind λv1=>cond v1 ((G.jv n aV).bind λv2=>cond v2 ((G.dm n iZ).bind λv3=>cond v3 ((G.jG n aG aV iZ).bind λv4=>(G.pU n v4.1 v4.2).bind λv5=>some (v5.1,v5.2))<|some ((aj.mk 0 0 [] [] []),false))<|some ((aj.mk 0 0 [] [] []),false))<|some ((aj.mk 0 0 [] [] []),false)
def G.vK (f:Nat)(vz:uN):Option (Bool):=match f with
|0=>none
|n+1=>cond (decide<|1<=vz.bM) (cond (decide<|vz.bM<=6) ((G.jv n vz.uq).bind λv1=>cond v1 ((G.jv n vz.xH).bind λv2=>cond v2 ((G.dm n vz.Value).bind λv3=>some v3)<|some false)<|some false)<|some false)<|some false
def G.slices_Equal_string.L1 (f:Nat)(Jk:List fC)(LQ:List fC)(kD:Int):Option (Bool):=match f with
|0=>none
|n+1=>cond (decide<|kD<(Jk.length:Int)) (chk (0<=kD/\kD<(Jk.length:Int))<|chk (0<=kD/\kD<(LQ.length:Int))<|cond ((Jk.getD kD.toNat default)==(LQ.getD kD.toNat default)) (G.slices_Equal_string.L1 n Jk LQ<|af .i64<|kD+1)<|some false)<|some true
def G.slices_Equal_string (f:Nat)(Jk:List fC)(LQ:List fC):Option (Bool):=match f with
|0=>none
|n+1=>cond ((Jk.length:Int) != (LQ.length:Int)) (some false)<|G.slices_Equal_string.L1 n Jk LQ 0
def G.uJ (f:Nat)(aG:aj)(D9:List fC)(aV:List fC):Option (aj×Bool):=match f with
|0=>none
|n+1=>(G.uO n aG D9).bind λv1=>cond v1.2 ((G.slices_Equal_string n aV D9).bind λv2=>cond v2 ((G.bC n aG).bind λv3=>some (v3,true))<|cond (decide<|(D9.length:Int)<(aV.length:Int)) (chk (0<=0/\0<=(D9.length:Int)/\(D9.length:Int)<=(aV.length:Int))<|(G.slices_Equal_string n (aV.take D9.length) D9).bind λv4=>cond v4 (some ((aj.mk 0 0 [] [] []),false))<|(G.mF n aG D9).bind λv5=>cond v5.2 ((G.oQ n v5.1 aV v1.1).bind λv6=>some (v6.1,v6.2))<|some ((aj.mk 0 0 [] [] []),false))<|(G.mF n aG D9).bind λv7=>cond v7.2 ((G.oQ n v7.1 aV v1.1).bind λv8=>some (v8.1,v8.2))<|some ((aj.mk 0 0 [] [] []),false))<|some ((aj.mk 0 0 [] [] []),false)
def G.iH (f:Nat)(aQ:fC)(gB:fC):Option (Int):=match f with
|0=>none
|n+1=>some<|Go.Lib.compareBytes aQ gB
def G.strings_Compare (f:Nat)(aQ:fC)(gB:fC):Option (Int):=match f with
|0=>none
|n+1=>(G.iH n aQ gB).bind λv1=>some v1
mutual
def G.dQ.K4 (f:Nat)(aQ:aj)(gB:aj)(aJ:Int):Option (Int):=match f with
|0=>none
|n+1=>chk (0<=aJ/\aJ<(aQ.aP.length:Int))<|chk (0<=aJ/\aJ<(gB.aP.length:Int))<|(G.dQ n (aQ.aP.getD aJ.toNat default)<|gB.aP.getD aJ.toNat default).bind λv11=>cond (v11 != 0) (some v11)<|G.dQ.L3 n aQ gB<|af .i64<|aJ+1
def G.dQ.L3 (f:Nat)(aQ:aj)(gB:aj)(aJ:Int):Option (Int):=match f with
|0=>none
|n+1=>cond (decide<|aJ<(aQ.aP.length:Int)) (cond (decide<|aJ<(gB.aP.length:Int)) (cond (aQ.bM==4) (chk (0<=aJ/\aJ<(aQ.aO.length:Int))<|chk (0<=aJ/\aJ<(gB.aO.length:Int))<|(G.strings_Compare n (aQ.aO.getD aJ.toNat default)<|gB.aO.getD aJ.toNat default).bind λv12=>cond (v12 != 0) (some v12)<|G.dQ.K4 n aQ gB aJ)<|G.dQ.K4 n aQ gB aJ)<|(G.cmp_Compare_int n (aQ.aP.length:Int) (gB.aP.length:Int)).bind λv13=>some v13)<|(G.cmp_Compare_int n (aQ.aP.length:Int) (gB.aP.length:Int)).bind λv14=>some v14
def G.dQ (f:Nat)(aQ:aj)(gB:aj):Option (Int):=match f with
|0=>none
|n+1=>(G.cmp_Compare_int n aQ.bM gB.bM).bind λv1=>cond (v1 != 0) (some v1)<|(G.cmp_Compare_int n aQ.wJ gB.wJ).bind λv2=>cond (v2 != 0) (some v2)<|(G.strings_Compare n aQ.lI gB.lI).bind λv3=>cond (v3 != 0) (some v3)<|G.dQ.L3 n aQ gB 0
end
def G.uK (f:Nat)(aQ:aj)(gB:aj):Option (Bool):=match f with
|0=>none
|n+1=>(G.dQ n aQ gB).bind λv1=>some<|v1==0
def G.sD (f:Nat)(aG:aj)(aV:List fC)(iZ:aj):Option (aj×Bool):=match f with
|0=>none
|n+1=>(G.kN n aG aV).bind λv1=>cond v1.2 ((G.uK n v1.1 iZ).bind λv2=>cond v2 ((G.bC n aG).bind λv3=>some (v3,true))<|some ((aj.mk 0 0 [] [] []),false))<|some ((aj.mk 0 0 [] [] []),false)
def G.rM (f:Nat)(aG:aj)(vz:uN):Option (aj×Bool):=match f with
|0=>none
|n+1=>(G.dm n aG).bind λv1=>cond v1 ((G.vK n vz).bind λv2=>cond v2 (cond (vz.bM==1) ((G.oQ n aG vz.uq vz.Value).bind λv3=>some (v3.1,v3.2))<|cond (vz.bM==2) ((G.mF n aG vz.uq).bind λv4=>some (v4.1,v4.2))<|cond (vz.bM==3) ((G.vP n aG vz.uq vz.Value).bind λv5=>some (v5.1,v5.2))<|cond (vz.bM==4) ((G.uJ n aG vz.xH vz.uq).bind λv6=>some (v6.1,v6.2))<|cond (vz.bM==5) ((G.uO n aG vz.xH).bind λv7=>cond v7.2 ((G.oQ n aG vz.uq v7.1).bind λv8=>some (v8.1,v8.2))<|some ((aj.mk 0 0 [] [] []),false))<|(G.sD n aG vz.uq vz.Value).bind λv9=>some (v9.1,v9.2))<|some ((aj.mk 0 0 [] [] []),false))<|some ((aj.mk 0 0 [] [] []),false)
def G.gY.L1 (f:Nat)(aU:List uN)(kD:Int):Option (Bool):=match f with
|0=>none
|n+1=>cond (decide<|kD<(aU.length:Int)) (chk (0<=kD/\kD<(aU.length:Int))<|(G.vK n<|uN.mk ((aU.getD kD.toNat default).bM) ((aU.getD kD.toNat default).uq) ((aU.getD kD.toNat default).xH)<|(aU.getD kD.toNat default).Value).bind λv3=>cond v3 (G.gY.L1 n aU<|af .i64<|kD+1)<|some false)<|some true
def G.gY (f:Nat)(aU:List uN):Option (Bool):=match f with
|0=>none
|n+1=>cond (decide<|12<(aU.length:Int)) (some false)<|G.gY.L1 n aU 0
def G.lG.L1 (f:Nat)(aU:List uN)(kD:Int)(y6:Int)(y7:Int)(y8:fC)(y9:List fC)(Uy:List aj):Option (aj×Int):=match f with
|0=>none
|n+1=>cond (decide<|kD<(aU.length:Int)) (chk (0<=kD/\kD<(aU.length:Int))<|(G.rM n (aj.mk y6 y7 y8 y9 Uy)<|uN.mk ((aU.getD kD.toNat default).bM) ((aU.getD kD.toNat default).uq) ((aU.getD kD.toNat default).xH)<|(aU.getD kD.toNat default).Value).bind λv4=>cond v4.2 (G.lG.L1 n aU (af .i64<|kD+1) v4.1.bM v4.1.wJ v4.1.lI v4.1.aO v4.1.aP)<|some ((aj.mk 0 0 [] [] []),kD))<|some ((aj.mk y6 y7 y8 y9 Uy),(aU.length:Int))
def G.lG (f:Nat)(aG:aj)(aU:List uN):Option (aj×Int):=match f with
|0=>none
|n+1=>(G.bC n aG).bind λv1=>G.lG.L1 n aU 0 v1.bM v1.wJ v1.lI v1.aO v1.aP
def G.ry (f:Nat)(aG:aj)(aU:List uN):Option (aj×Bool):=match f with
|0=>none
|n+1=>(G.dm n aG).bind λv1=>cond v1 ((G.gY n aU).bind λv2=>cond v2 ((G.lG n aG aU).bind λv3=>some (v3.1,(v3.2==(aU.length:Int))))<|some ((aj.mk 0 0 [] [] []),false))<|some ((aj.mk 0 0 [] [] []),false)
def G.jR (f:Nat)(aZ:fC)(PZ:Int):Option (Int):=match f with
|0=>none
|n+1=>some<|Go.Lib.indexByte aZ PZ.toNat.toUInt8
def G.strings_IndexByte (f:Nat)(aZ:fC)(PZ:Int):Option (Int):=match f with
|0=>none
|n+1=>(G.jR n aZ PZ).bind λv1=>some v1
def G.o8.L1 (f:Nat)(aZ:fC)(aJ:Int):Option (Bool):=match f with
|0=>none
|n+1=>cond (decide<|aJ<(aZ.length:Int)) (chk (0<=aJ/\aJ<(aZ.length:Int))<|(G.strings_IndexByte n [48,49,50,51,52,53,54,55,56,57,97,98,99,100,101,102] ((aZ.getD aJ.toNat 0).toNat:Int)).bind λv3=>cond (decide<|v3<0) (some false)<|G.o8.L1 n aZ<|af .i64<|aJ+1)<|some true
def G.o8 (f:Nat)(aZ:fC):Option (Bool):=match f with
|0=>none
|n+1=>cond ((aZ.length:Int) != 4) (some false)<|G.o8.L1 n aZ 0
def G.kK.L1 (f:Nat)(aU:List fC)(kD:Int):Option (Bool):=match f with
|0=>none
|n+1=>cond (decide<|kD<(aU.length:Int)) (chk (0<=kD/\kD<(aU.length:Int))<|cond ((aU.getD kD.toNat default)==[42]) (G.kK.L1 n aU<|af .i64<|kD+1)<|(G.o8 n<|aU.getD kD.toNat default).bind λv3=>cond v3 (G.kK.L1 n aU<|af .i64<|kD+1)<|some false)<|some true
def G.kK (f:Nat)(aU:List fC):Option (Bool):=match f with
|0=>none
|n+1=>cond (decide<|4<(aU.length:Int)) (some false)<|G.kK.L1 n aU 0
def G.slices_Index_string.L1 (f:Nat)(aZ:List fC)(EO:fC)(kD:Int):Option (Int):=match f with
|0=>none
|n+1=>cond (decide<|kD<(aZ.length:Int)) (chk (0<=kD/\kD<(aZ.length:Int))<|cond (EO==(aZ.getD kD.toNat default)) (some kD)<|G.slices_Index_string.L1 n aZ EO<|af .i64<|kD+1)<|some (-1)
def G.slices_Index_string (f:Nat)(aZ:List fC)(EO:fC):Option (Int):=match f with
|0=>none
|n+1=>G.slices_Index_string.L1 n aZ EO 0
def G.slices_Contains_string (f:Nat)(aZ:List fC)(EO:fC):Option (Bool):=match f with
|0=>none
|n+1=>(G.slices_Index_string n aZ EO).bind λv1=>some<|(decide<|0<=v1)
def G.qV (f:Nat)(aU:List fC)(uh:fC):Option (Bool):=match f with
|0=>none
|n+1=>(G.slices_Contains_string n aU uh).bind λv1=>cond v1 (some true)<|(G.slices_Contains_string n aU [42]).bind λv2=>some v2
def G.kZ.K1 (f:Nat)(zZ:List fC)(vZ:List fC)(uh:fC)(yE:Bool):Option (Int):=match f with
|0=>none
|n+1=>cond (decide<|0<(zZ.length:Int)) (cond (uh==[]) (some 412)<|(G.qV n zZ uh).bind λv4=>cond v4 (cond (decide<|0<(vZ.length:Int)) ((G.qV n vZ uh).bind λv5=>cond v5 (cond yE (some 304)<|some 412)<|some 200)<|some 200)<|some 412)<|cond (decide<|0<(vZ.length:Int)) (cond (uh==[]) (some 200)<|(G.qV n vZ uh).bind λv6=>cond v6 (cond yE (some 304)<|some 412)<|some 200)<|some 200
def G.kZ (f:Nat)(zZ:List fC)(vZ:List fC)(uh:fC)(yE:Bool):Option (Int):=match f with
|0=>none
|n+1=>(G.kK n zZ).bind λv7=>cond v7 ((G.kK n vZ).bind λv8=>cond v8 (cond (uh==[]) (G.kZ.K1 n zZ vZ uh yE)<|(G.o8 n uh).bind λv9=>cond v9 (G.kZ.K1 n zZ vZ uh yE)<|some 400)<|some 400)<|some 400
def G.kQ.L1 (f:Nat)(aZ:fC)(aJ:Int):Option (Bool):=match f with
|0=>none
|n+1=>cond (decide<|aJ<(aZ.length:Int)) (chk (0<=aJ/\aJ<(aZ.length:Int))<|cond (decide<|((aZ.getD aJ.toNat 0).toNat:Int)<97) (chk (0<=aJ/\aJ<(aZ.length:Int))<|cond (decide<|((aZ.getD aJ.toNat 0).toNat:Int)<48) (some false)<|chk (0<=aJ/\aJ<(aZ.length:Int))<|cond (decide<|57<((aZ.getD aJ.toNat 0).toNat:Int)) (some false)<|G.kQ.L1 n aZ<|af .i64<|aJ+1)<|chk (0<=aJ/\aJ<(aZ.length:Int))<|cond (decide<|122<((aZ.getD aJ.toNat 0).toNat:Int)) (chk (0<=aJ/\aJ<(aZ.length:Int))<|cond (decide<|((aZ.getD aJ.toNat 0).toNat:Int)<48) (some false)<|chk (0<=aJ/\aJ<(aZ.length:Int))<|cond (decide<|57<((aZ.getD aJ.toNat 0).toNat:Int)) (some false)<|G.kQ.L1 n aZ<|af .i64<|aJ+1)<|G.kQ.L1 n aZ<|af .i64<|aJ+1)<|some true
def G.kQ (f:Nat)(aZ:fC):Option (Bool):=match f with
|0=>none
|n+1=>cond (aZ==[]) (some false)<|cond (decide<|8<(aZ.length:Int)) (some false)<|G.kQ.L1 n aZ 0
def G.dY.L1 (f:Nat)(aZ:bU)(kD:Int):Option (Bool):=match f with
|0=>none
|n+1=>cond (decide<|kD<(aZ.bH.length:Int)) (chk (0<=kD/\kD<(aZ.bH.length:Int))<|(G.kQ n<|(aZ.bH.getD kD.toNat default).iC).bind λv6=>cond v6 (cond (decide<|0<kD) (chk (0<=(af .i64<|kD-1)/\(af .i64<|kD-1)<(aZ.bH.length:Int))<|cond (iT ((aZ.bH.getD (af .i64<|kD-1).toNat default).iC)<|(aZ.bH.getD kD.toNat default).iC) (cond (decide<|(aZ.bH.getD kD.toNat default).mW<1) (some false)<|cond (decide<|aZ.kY<(aZ.bH.getD kD.toNat default).mW) (some false)<|(G.dm n<|(aZ.bH.getD kD.toNat default).pO).bind λv7=>cond v7 (G.dY.L1 n aZ<|af .i64<|kD+1)<|some false)<|some false)<|cond (decide<|(aZ.bH.getD kD.toNat default).mW<1) (some false)<|cond (decide<|aZ.kY<(aZ.bH.getD kD.toNat default).mW) (some false)<|(G.dm n<|(aZ.bH.getD kD.toNat default).pO).bind λv8=>cond v8 (G.dY.L1 n aZ<|af .i64<|kD+1)<|some false)<|some false)<|some true
def G.dY (f:Nat)(aZ:bU):Option (Bool):=match f with
|0=>none
|n+1=>cond (decide<|10<(aZ.bH.length:Int)) (some false)<|cond (decide<|aZ.kY<0) (some false)<|cond (decide<|999<aZ.kY) (some false)<|G.dY.L1 n aZ 0
def G.su (f:Nat)(yT:fA):Option (fA):=match f with
|0=>none
|n+1=>(G.bC n yT.pO).bind λv1=>some<|fA.mk yT.iC yT.mW v1
def G.fG.L1 (f:Nat)(aZ:bU)(kD:Int)(z3:List fA):Option (bU):=match f with
|0=>none
|n+1=>cond (decide<|kD<(aZ.bH.length:Int)) (chk (0<=kD/\kD<(aZ.bH.length:Int))<|(G.su n<|fA.mk ((aZ.bH.getD kD.toNat default).iC) ((aZ.bH.getD kD.toNat default).mW)<|(aZ.bH.getD kD.toNat default).pO).bind λv3=>chk (0<=kD/\kD<(z3.length:Int))<|G.fG.L1 n aZ (af .i64<|kD+1)<|z3.set kD.toNat v3)<|some<|bU.mk z3 aZ.kY
def G.fG (f:Nat)(aZ:bU):Option (bU):=match f with
|0=>none
|n+1=>cond (decide<|0<(aZ.bH.length:Int)) (chk (0<=(aZ.bH.length:Int)/\(aZ.bH.length:Int)<=(aZ.bH.length:Int)/\104*(aZ.bH.length:Int)<=2^47/\(aZ.bH.length:Int)<=2^47)<|G.fG.L1 n aZ 0<|bW aZ.bH.length<|fA.mk [] 0<|aj.mk 0 0 [] [] [])<|some<|bU.mk [] aZ.kY
def G.sQ (f:Nat)(yT:fA)(fU:fC):Option (Int):=match f with
|0=>none
|n+1=>(G.strings_Compare n yT.iC fU).bind λv1=>some v1
def G.aW.L1 (f:Nat)(vw:List fA)(rU:fC)(aJ:Int)(NQ:Int):Option (Int×Bool):=match f with
|0=>none
|n+1=>cond (decide<|aJ<NQ) (chk (0<=(af .i64<|(sU (af .u64<|(af .i64<|aJ+NQ))<|2^(min 1<|iR .u64)))/\(af .i64<|(sU (af .u64<|(af .i64<|aJ+NQ))<|2^(min 1<|iR .u64)))<(vw.length:Int))<|(G.sQ n (fA.mk ((vw.getD (af .i64<|(sU (af .u64<|(af .i64<|aJ+NQ))<|2^(min 1<|iR .u64))).toNat default).iC) ((vw.getD (af .i64<|(sU (af .u64<|(af .i64<|aJ+NQ))<|2^(min 1<|iR .u64))).toNat default).mW)<|(vw.getD (af .i64<|(sU (af .u64<|(af .i64<|aJ+NQ))<|2^(min 1<|iR .u64))).toNat default).pO) rU).bind λv3=>cond (decide<|v3<0) (G.aW.L1 n vw rU (af .i64<|(af .i64<|(sU (af .u64<|(af .i64<|aJ+NQ))<|2^(min 1<|iR .u64)))+1) NQ)<|G.aW.L1 n vw rU aJ<|af .i64<|(sU (af .u64<|(af .i64<|aJ+NQ))<|2^(min 1<|iR .u64)))<|cond (decide<|aJ<(vw.length:Int)) (chk (0<=aJ/\aJ<(vw.length:Int))<|(G.sQ n (fA.mk ((vw.getD aJ.toNat default).iC) ((vw.getD aJ.toNat default).mW)<|(vw.getD aJ.toNat default).pO) rU).bind λv4=>some (aJ,(v4==0)))<|some (aJ,false)
def G.aW (f:Nat)(vw:List fA)(rU:fC):Option (Int×Bool):=match f with
|0=>none
|n+1=>G.aW.L1 n vw rU 0 (vw.length:Int)
def G.nZ (f:Nat)(Ar:List fA)(fU:fC):Option (Int×Bool):=match f with
|0=>none
|n+1=>(G.aW n Ar fU).bind λv1=>some (v1.1,v1.2)
def G.oh (f:Nat)(s:List fA)(i:Int)(j:Int):Option (List fA):=match f with
|0=>none
|_+1=>chk (0<=i/\i<j/\j<=(s.length:Int)/\s.length*112<=2^46) (some (s.take i.toNat++s.drop j.toNat))
def G.uI (f:Nat)(aZ:bU)(fU:fC):Option (bU×Bool):=match f with
|0=>none
|n+1=>(G.dY n aZ).bind λv1=>cond v1 (cond (aZ.kY==999) (some ((bU.mk [] 0),false))<|(G.nZ n aZ.bH fU).bind λv2=>cond v2.2 ((G.fG n aZ).bind λv3=>(G.oh n v3.bH v2.1<|af .i64<|v2.1+1).bind λv4=>some ((bU.mk v4<|af .i64<|v3.kY+1),true))<|some ((bU.mk [] 0),false))<|some ((bU.mk [] 0),false)
def G.dH (f:Nat)(b:jM)(c:Int):Option (Unit×jM):=match f with
|0=>none
|_+1=>(chk ((0<=c/\c<256)/\b.buf.length+1<=140737488355328) (some ((),jM.mk (b.buf++[gy c.toNat]))))
mutual
def G.iE.K4 (f:Nat)(aZ:fC)(aJ:Int)(z5:fC):Option (jM):=match f with
|0=>none
|n+1=>chk (0<=aJ/\aJ<(aZ.length:Int))<|(G.dH n (jM.mk z5) ((aZ.getD aJ.toNat 0).toNat:Int)).bind λv14=>G.iE.L3 n aZ (af .i64<|aJ+1) v14.2.buf
def G.iE.L3 (f:Nat)(aZ:fC)(aJ:Int)(z4:fC):Option (jM):=match f with
|0=>none
|n+1=>cond (decide<|aJ<(aZ.length:Int)) (chk (0<=aJ/\aJ<(aZ.length:Int))<|cond (((aZ.getD aJ.toNat 0).toNat:Int)==34) ((G.dH n (jM.mk z4) 92).bind λv15=>G.iE.K4 n aZ aJ v15.2.buf)<|chk (0<=aJ/\aJ<(aZ.length:Int))<|cond (((aZ.getD aJ.toNat 0).toNat:Int)==92) ((G.dH n (jM.mk z4) 92).bind λv16=>G.iE.K4 n aZ aJ v16.2.buf)<|G.iE.K4 n aZ aJ z4)<|(G.dH n (jM.mk z4) 34).bind λv17=>some v17.2
end
def G.iE (f:Nat)(Eb:jM)(aZ:fC):Option (jM):=match f with
|0=>none
|n+1=>(G.dH n Eb 34).bind λv1=>G.iE.L3 n aZ 0 v1.2.buf
def G.nG (f:Nat)(b:jM)(s:fC):Option (Int×Unit×jM):=match f with
|0=>none
|_+1=>(chk (b.buf.length+s.length<=140737488355328) (some ((s.length:Int),(),jM.mk (b.buf++s))))
mutual
def G.dO.K4 (f:Nat)(aG:aj)(kD:Int)(z4:fC):Option (jM):=match f with
|0=>none
|n+1=>(G.dO n (jM.mk z4)<|aG.aP.getD kD.toNat default).bind λv11=>G.dO.L3 n aG (af .i64<|kD+1) v11.buf
def G.dO.L3 (f:Nat)(aG:aj)(kD:Int)(z3:fC):Option (jM):=match f with
|0=>none
|n+1=>cond (decide<|kD<(aG.aP.length:Int)) (chk (0<=kD/\kD<(aG.aP.length:Int))<|cond (decide<|0<kD) ((G.dH n (jM.mk z3) 44).bind λv12=>G.dO.K4 n aG kD v12.2.buf)<|G.dO.K4 n aG kD z3)<|(G.dH n (jM.mk z3) 93).bind λv13=>some v13.2
def G.dO.K8 (f:Nat)(aG:aj)(Ux:Int)(z8:fC):Option (jM):=match f with
|0=>none
|n+1=>chk (0<=Ux/\Ux<(aG.aO.length:Int))<|(G.iE n (jM.mk z8)<|aG.aO.getD Ux.toNat default).bind λv24=>(G.dH n v24 58).bind λv25=>(G.dO n v25.2<|aG.aP.getD Ux.toNat default).bind λv26=>G.dO.L7 n aG (af .i64<|Ux+1) v26.buf
def G.dO.L7 (f:Nat)(aG:aj)(Ux:Int)(z7:fC):Option (jM):=match f with
|0=>none
|n+1=>cond (decide<|Ux<(aG.aP.length:Int)) (chk (0<=Ux/\Ux<(aG.aP.length:Int))<|cond (decide<|0<Ux) ((G.dH n (jM.mk z7) 44).bind λv27=>G.dO.K8 n aG Ux v27.2.buf)<|G.dO.K8 n aG Ux z7)<|(G.dH n (jM.mk z7) 125).bind λv28=>some v28.2
def G.dO (f:Nat)(Eb:jM)(aG:aj):Option (jM):=match f with
|0=>none
|n+1=>cond (aG.bM==0) ((G.nG n Eb [110,117,108,108]).bind λv1=>some v1.2.2)<|cond (aG.bM==1) ((G.strconv_Itoa n aG.wJ).bind λv2=>(G.nG n Eb v2).bind λv3=>some v3.2.2)<|cond (aG.bM==2) ((G.iE n Eb aG.lI).bind λv4=>some v4)<|cond (aG.bM==3) ((G.dH n Eb 91).bind λv5=>G.dO.L3 n aG 0 v5.2.buf)<|cond (aG.bM==4) ((G.dH n Eb 123).bind λv14=>G.dO.L7 n aG 0 v14.2.buf)<|some Eb
end
def G.uZ (f:Nat)(b:jM):Option fC:=match f with
|0=>none
|_+1=>(chk (b.buf.length<=140737488355328) (some b.buf))
def G.rC (f:Nat)(aG:aj):Option (fC):=match f with
|0=>none
|n+1=>(G.dm n aG).bind λv1=>cond v1 ((G.dO n (jM.mk []) aG).bind λv2=>(G.uZ n v2).bind λv3=>some v3)<|some<|[]
def G.vN (f:Nat)(aZ:bU)(fU:fC):Option (fA×Bool):=match f with
|0=>none
|n+1=>(G.dY n aZ).bind λv1=>cond v1 ((G.nZ n aZ.bH fU).bind λv2=>cond v2.2 (chk (0<=v2.1/\v2.1<(aZ.bH.length:Int))<|(G.su n<|fA.mk ((aZ.bH.getD v2.1.toNat default).iC) ((aZ.bH.getD v2.1.toNat default).mW)<|(aZ.bH.getD v2.1.toNat default).pO).bind λv3=>some (v3,true))<|some ((fA.mk [] 0<|aj.mk 0 0 [] [] []),false))<|some ((fA.mk [] 0<|aj.mk 0 0 [] [] []),false)
def G.jy.L2 (f:Nat)(ZJ:Int)(OB:Int)(z3:List Int):Option (fC):=match f with
|0=>none
|n+1=>cond (decide<|0<=OB) (chk (0<=(lC ZJ 16)/\(lC ZJ 16)<((16:Nat):Int))<|chk (0<=OB/\OB<(z3.length:Int))<|chk (0<=OB/\OB<4)<|G.jy.L2 n (af .i64<|mJ ZJ 16) (af .i64<|OB-1)<|z3.set OB.toNat ((([48,49,50,51,52,53,54,55,56,57,97,98,99,100,101,102]:fC).getD (lC ZJ 16).toNat 0).toNat:Int))<|chk (z3.length=4)<|chk ((z3.take 4).length<=maxLen)<|some<|(IM<|z3.take 4)
def G.jy.L1 (f:Nat)(aZ:fC)(ajS:Int)(aJ:Int):Option (fC):=match f with
|0=>none
|n+1=>cond (decide<|aJ<(aZ.length:Int)) (chk (0<=aJ/\aJ<(aZ.length:Int))<|G.jy.L1 n aZ (lC (af .i64<|(af .i64<|131*ajS)+(af .i64<|((aZ.getD aJ.toNat 0).toNat:Int))) 65521)<|af .i64<|aJ+1)<|G.jy.L2 n ajS 3<|bW 4 0
def G.jy (f:Nat)(aZ:fC):Option (fC):=match f with
|0=>none
|n+1=>G.jy.L1 n aZ 17 0
def G.wo (f:Nat)(aG:aj):Option (fC):=match f with
|0=>none
|n+1=>(G.dm n aG).bind λv1=>cond v1 ((G.rC n aG).bind λv2=>(G.jy n v2).bind λv3=>some v3)<|some<|[]
def G.rD (f:Nat)(aZ:bU)(nI:bn):Option (bU×bP):=match f with
|0=>none
|n+1=>(G.uI n aZ nI.iC).bind λv1=>cond v1.2 (some (v1.1,(bP.mk 200 [] v1.1.kY<|aj.mk 0 0 [] [] [])))<|(G.fG n aZ).bind λv2=>some (v2,(bP.mk 422 [] 0<|aj.mk 0 0 [] [] []))
def G.ou (f:Nat)(s:List fA)(i:Int)(v:List fA):Option (List fA):=match f with
|0=>none
|_+1=>chk (0<=i/\i<=(s.length:Int)/\v.length=1/\(s.length+1)*112<=2^46) (some (s.take i.toNat++v++s.drop i.toNat))
def G.xU (f:Nat)(Ar:List fA)(yT:fA):Option (List fA):=match f with
|0=>none
|n+1=>(G.nZ n Ar yT.iC).bind λv1=>cond v1.2 (chk (0<=v1.1/\v1.1<(Ar.length:Int))<|some<|Ar.set v1.1.toNat yT)<|(G.ou n Ar v1.1 [yT]).bind λv2=>some v2
def G.vO (f:Nat)(aZ:bU)(fU:fC)(aG:aj):Option (bU×Bool):=match f with
|0=>none
|n+1=>(G.dY n aZ).bind λv1=>cond v1 ((G.kQ n fU).bind λv2=>cond v2 ((G.dm n aG).bind λv3=>cond v3 ((G.fG n aZ).bind λv4=>(G.bC n aG).bind λv5=>(G.xU n v4.bH<|fA.mk fU (af .i64<|v4.kY+1) v5).bind λv6=>(G.dY n<|bU.mk v6<|af .i64<|v4.kY+1).bind λv7=>cond v7 (some ((bU.mk v6<|af .i64<|v4.kY+1),true))<|some ((bU.mk [] 0),false))<|some ((bU.mk [] 0),false))<|some ((bU.mk [] 0),false))<|some ((bU.mk [] 0),false)
def G.wF (f:Nat)(BP:aj)(fU:fC):Option (aj):=match f with
|0=>none
|n+1=>(G.slices_BinarySearch_string n BP.aO fU).bind λv1=>cond v1.2 ((G.slices_Delete_string n BP.aO v1.1<|af .i64<|v1.1+1).bind λv2=>(G.jW n BP.aP v1.1<|af .i64<|v1.1+1).bind λv3=>some<|aj.mk BP.bM BP.wJ BP.lI v2 v3)<|some BP
mutual
def G.fD.K5 (f:Nat)(fB:aj)(kD:Int)(y17:Int)(y18:Int)(y19:fC)(z5:List fC)(z6:List aj)(y20:Int)(y21:Int)(y22:fC)(y23:List fC)(y24:List aj):Option (aj):=match f with
|0=>none
|n+1=>chk (0<=kD/\kD<(fB.aP.length:Int))<|(G.fD n (aj.mk y20 y21 y22 y23 y24)<|fB.aP.getD kD.toNat default).bind λv15=>(G.pV n (aj.mk y17 y18 y19 z5 z6) (fB.aO.getD kD.toNat default) v15).bind λv16=>G.fD.L4 n fB (af .i64<|kD+1) v16.bM v16.wJ v16.lI v16.aO v16.aP
def G.fD.L4 (f:Nat)(fB:aj)(kD:Int)(y17:Int)(y18:Int)(y19:fC)(z5:List fC)(z6:List aj):Option (aj):=match f with
|0=>none
|n+1=>cond (decide<|kD<(fB.aO.length:Int)) (chk (0<=kD/\kD<(fB.aO.length:Int))<|chk (0<=kD/\kD<(fB.aP.length:Int))<|cond ((fB.aP.getD kD.toNat default).bM==0) ((G.wF n (aj.mk y17 y18 y19 z5 z6)<|fB.aO.getD kD.toNat default).bind λv13=>G.fD.L4 n fB (af .i64<|kD+1) v13.bM v13.wJ v13.lI v13.aO v13.aP)<|(G.slices_BinarySearch_string n z5<|fB.aO.getD kD.toNat default).bind λv17=>cond v17.2 (chk (0<=v17.1/\v17.1<(z6.length:Int))<|G.fD.K5 n fB kD y17 y18 y19 z5 z6 ((z6.getD v17.1.toNat default).bM) ((z6.getD v17.1.toNat default).wJ) ((z6.getD v17.1.toNat default).lI) ((z6.getD v17.1.toNat default).aO)<|(z6.getD v17.1.toNat default).aP)<|G.fD.K5 n fB kD y17 y18 y19 z5 z6 0 0 [] [] [])<|some<|aj.mk y17 y18 y19 z5 z6
def G.fD.K1 (f:Nat)(fB:aj)(y1:Int)(y2:Int)(y3:fC)(z1:List fC)(z2:List aj):Option (aj):=match f with
|0=>none
|n+1=>G.fD.L4 n fB 0 y1 y2 y3 z1 z2
def G.fD (f:Nat)(aG:aj)(fB:aj):Option (aj):=match f with
|0=>none
|n+1=>cond (fB.bM != 4) ((G.bC n fB).bind λv1=>some v1)<|cond (aG.bM==4) ((G.bC n aG).bind λv18=>G.fD.K1 n fB v18.bM v18.wJ v18.lI v18.aO v18.aP)<|G.fD.K1 n fB 4 0 [] [] []
end
def G.sV (f:Nat)(aG:aj)(fB:aj):Option (aj×Bool):=match f with
|0=>none
|n+1=>(G.dm n aG).bind λv1=>cond v1 ((G.dm n fB).bind λv2=>cond v2 ((G.fD n aG fB).bind λv3=>(G.pU n v3 true).bind λv4=>some (v4.1,v4.2))<|some ((aj.mk 0 0 [] [] []),false))<|some ((aj.mk 0 0 [] [] []),false)
def G.vS (f:Nat)(Hg:aj)(nI:bn):Option (aj×Bool):=match f with
|0=>none
|n+1=>cond (nI.kP==4) ((G.ry n Hg nI.Me).bind λv1=>some (v1.1,v1.2))<|cond (nI.kP==5) ((G.sV n Hg nI.Body).bind λv2=>some (v2.1,v2.2))<|some (nI.Body,true)
def G.nP (f:Nat)(aZ:bU)(nI:bn)(Hg:aj)(MI:Bool):Option (bU×bP):=match f with
|0=>none
|n+1=>(G.vS n Hg nI).bind λv1=>cond v1.2 ((G.vO n aZ nI.iC v1.1).bind λv2=>cond v2.2 ((G.wo n v1.1).bind λv3=>cond MI (some (v2.1,(bP.mk 200 v3 v2.1.kY<|aj.mk 0 0 [] [] [])))<|some (v2.1,(bP.mk 201 v3 v2.1.kY<|aj.mk 0 0 [] [] [])))<|(G.fG n aZ).bind λv4=>some (v4,(bP.mk 422 [] 0<|aj.mk 0 0 [] [] [])))<|(G.fG n aZ).bind λv5=>some (v5,(bP.mk 422 [] 0<|aj.mk 0 0 [] [] []))
def G.l7 (f:Nat)(nI:bn):Option (Bool):=match f with
|0=>none
|n+1=>cond (decide<|1<=nI.kP) (cond (decide<|nI.kP<=5) ((G.kQ n nI.iC).bind λv1=>cond v1 ((G.kK n nI.yK).bind λv2=>cond v2 ((G.kK n nI.uM).bind λv3=>cond v3 ((G.dm n nI.Body).bind λv4=>cond v4 ((G.gY n nI.Me).bind λv5=>some v5)<|some false)<|some false)<|some false)<|some false)<|some false)<|some false
def G.fF.K1 (f:Nat)(aZ:bU)(nI:bn)(v3:fA×Bool)(ajT:fC):Option (bU×bP):=match f with
|0=>none
|n+1=>(G.kZ n nI.yK nI.uM ajT<|nI.kP==1).bind λv5=>cond (v5 != 200) ((G.fG n aZ).bind λv6=>some (v6,(bP.mk v5 [] 0<|aj.mk 0 0 [] [] [])))<|cond (nI.kP==1) ((G.fG n aZ).bind λv7=>some (v7,(bP.mk 200 ajT v3.1.mW v3.1.pO)))<|cond (nI.kP==3) ((G.rD n aZ nI).bind λv8=>some (v8.1,v8.2))<|(G.nP n aZ nI v3.1.pO true).bind λv9=>some (v9.1,v9.2)
def G.fF.K2 (f:Nat)(aZ:bU)(nI:bn)(v3:fA×Bool):Option (bU×bP):=match f with
|0=>none
|n+1=>(G.kZ n nI.yK nI.uM []<|nI.kP==1).bind λv12=>cond (v12 != 200) ((G.fG n aZ).bind λv13=>some (v13,(bP.mk v12 [] 0<|aj.mk 0 0 [] [] [])))<|cond (nI.kP==1) ((G.fG n aZ).bind λv14=>some (v14,(bP.mk 200 [] v3.1.mW v3.1.pO)))<|cond (nI.kP==3) ((G.rD n aZ nI).bind λv15=>some (v15.1,v15.2))<|(G.nP n aZ nI v3.1.pO false).bind λv16=>some (v16.1,v16.2)
def G.fF (f:Nat)(aZ:bU)(nI:bn):Option (bU×bP):=match f with
|0=>none
|n+1=>(G.dY n aZ).bind λv1=>cond v1 ((G.l7 n nI).bind λv2=>cond v2 ((G.vN n aZ nI.iC).bind λv3=>cond v3.2 ((G.wo n v3.1.pO).bind λv10=>G.fF.K1 n aZ nI v3 v10)<|cond (nI.kP != 2) ((G.fG n aZ).bind λv11=>some (v11,(bP.mk 404 [] 0<|aj.mk 0 0 [] [] [])))<|G.fF.K2 n aZ nI v3)<|some ((bU.mk [] 0),(bP.mk 400 [] 0<|aj.mk 0 0 [] [] [])))<|some ((bU.mk [] 0),(bP.mk 400 [] 0<|aj.mk 0 0 [] [] []))
def G.ja.L1 (f:Nat)(aU:List bn)(kD:Int):Option (Bool):=match f with
|0=>none
|n+1=>cond (decide<|kD<(aU.length:Int)) (chk (0<=kD/\kD<(aU.length:Int))<|(G.l7 n<|bn.mk ((aU.getD kD.toNat default).kP) ((aU.getD kD.toNat default).iC) ((aU.getD kD.toNat default).yK) ((aU.getD kD.toNat default).uM) ((aU.getD kD.toNat default).Body)<|(aU.getD kD.toNat default).Me).bind λv3=>cond v3 (G.ja.L1 n aU<|af .i64<|kD+1)<|some false)<|some true
def G.ja (f:Nat)(aU:List bn):Option (Bool):=match f with
|0=>none
|n+1=>cond (decide<|8<(aU.length:Int)) (some false)<|G.ja.L1 n aU 0
def G.qh (f:Nat)(aQ:Int):Option (Bool):=match f with
|0=>none
|n+1=>some true
def G.fO.L1 (f:Nat)(aU:List bn)(kD:Int)(y3:List fA)(y4:Int)(z2:List bP):Option (bU×List bP):=match f with
|0=>none
|n+1=>cond (decide<|kD<(aU.length:Int)) (chk (0<=kD/\kD<(aU.length:Int))<|(G.fF n (bU.mk y3 y4)<|bn.mk ((aU.getD kD.toNat default).kP) ((aU.getD kD.toNat default).iC) ((aU.getD kD.toNat default).yK) ((aU.getD kD.toNat default).uM) ((aU.getD kD.toNat default).Body)<|(aU.getD kD.toNat default).Me).bind λv6=>chk ((z2.length+1)*121<=2^46)<|(G.qh n v6.2.Jy).bind λv7=>cond v7 (G.fO.L1 n aU (af .i64<|kD+1) v6.1.bH v6.1.kY<|z2++[v6.2])<|some (v6.1,(z2++[v6.2])))<|some ((bU.mk y3 y4),z2)
def G.fO (f:Nat)(aZ:bU)(aU:List bn):Option (bU×List bP):=match f with
|0=>none
|n+1=>(G.fG n aZ).bind λv1=>G.fO.L1 n aU 0 v1.bH v1.kY []
def G.lF (f:Nat)(aZ:bU)(aU:List bn):Option (bU×List bP):=match f with
|0=>none
|n+1=>(G.dY n aZ).bind λv1=>cond v1 ((G.ja n aU).bind λv2=>cond v2 ((G.fO n aZ aU).bind λv3=>some (v3.1,v3.2))<|some ((bU.mk [] 0),[]))<|some ((bU.mk [] 0),[])
def G.jT.L1 (f:Nat)(aQ:List fC)(gB:List fC)(aJ:Int):Option (Bool):=match f with
|0=>none
|n+1=>cond (decide<|aJ<(aQ.length:Int)) (chk (0<=aJ/\aJ<(aQ.length:Int))<|chk (0<=aJ/\aJ<(gB.length:Int))<|cond ((aQ.getD aJ.toNat default)==(gB.getD aJ.toNat default)) (G.jT.L1 n aQ gB<|af .i64<|aJ+1)<|some false)<|some true
def G.jT (f:Nat)(aQ:List fC)(gB:List fC):Option (Bool):=match f with
|0=>none
|n+1=>cond ((aQ.length:Int) != (gB.length:Int)) (some false)<|G.jT.L1 n aQ gB 0
mutual
def G.qW (f:Nat)(aQ:aj)(gB:aj):Option (Bool):=match f with
|0=>none
|n+1=>cond (aQ.bM != gB.bM) (some false)<|cond (aQ.wJ != gB.wJ) (some false)<|cond (aQ.lI==gB.lI) ((G.jT n aQ.aO gB.aO).bind λv1=>cond v1 ((G.qC n aQ.aP gB.aP).bind λv2=>cond v2 (some true)<|some false)<|some false)<|some false
def G.qC.L1 (f:Nat)(aQ:List aj)(gB:List aj)(aJ:Int):Option (Bool):=match f with
|0=>none
|n+1=>cond (decide<|aJ<(aQ.length:Int)) (chk (0<=aJ/\aJ<(aQ.length:Int))<|chk (0<=aJ/\aJ<(gB.length:Int))<|(G.qW n (aQ.getD aJ.toNat default)<|gB.getD aJ.toNat default).bind λv3=>cond v3 (G.qC.L1 n aQ gB<|af .i64<|aJ+1)<|some false)<|some true
def G.qC (f:Nat)(aQ:List aj)(gB:List aj):Option (Bool):=match f with
|0=>none
|n+1=>cond ((aQ.length:Int) != (gB.length:Int)) (some false)<|G.qC.L1 n aQ gB 0
end
def G.yw (f:Nat)(aQ:fA)(gB:fA):Option (Bool):=match f with
|0=>none
|n+1=>cond (aQ.iC==gB.iC) (cond (aQ.mW != gB.mW) (some false)<|(G.qW n aQ.pO gB.pO).bind λv1=>cond v1 (some true)<|some false)<|some false
def G.oU.L1 (f:Nat)(aQ:List fA)(gB:List fA)(aJ:Int):Option (Bool):=match f with
|0=>none
|n+1=>cond (decide<|aJ<(aQ.length:Int)) (chk (0<=aJ/\aJ<(aQ.length:Int))<|chk (0<=aJ/\aJ<(gB.length:Int))<|(G.yw n (fA.mk ((aQ.getD aJ.toNat default).iC) ((aQ.getD aJ.toNat default).mW)<|(aQ.getD aJ.toNat default).pO)<|fA.mk ((gB.getD aJ.toNat default).iC) ((gB.getD aJ.toNat default).mW)<|(gB.getD aJ.toNat default).pO).bind λv3=>cond v3 (G.oU.L1 n aQ gB<|af .i64<|aJ+1)<|some false)<|some true
def G.oU (f:Nat)(aQ:List fA)(gB:List fA):Option (Bool):=match f with
|0=>none
|n+1=>cond ((aQ.length:Int) != (gB.length:Int)) (some false)<|G.oU.L1 n aQ gB 0
def G.Bf (f:Nat)(aQ:uN)(gB:uN):Option (Bool):=match f with
|0=>none
|n+1=>cond (aQ.bM != gB.bM) (some false)<|(G.jT n aQ.uq gB.uq).bind λv1=>cond v1 ((G.jT n aQ.xH gB.xH).bind λv2=>cond v2 ((G.qW n aQ.Value gB.Value).bind λv3=>cond v3 (some true)<|some false)<|some false)<|some false
def G.uj.L1 (f:Nat)(aQ:List uN)(gB:List uN)(aJ:Int):Option (Bool):=match f with
|0=>none
|n+1=>cond (decide<|aJ<(aQ.length:Int)) (chk (0<=aJ/\aJ<(aQ.length:Int))<|chk (0<=aJ/\aJ<(gB.length:Int))<|(G.Bf n (uN.mk ((aQ.getD aJ.toNat default).bM) ((aQ.getD aJ.toNat default).uq) ((aQ.getD aJ.toNat default).xH)<|(aQ.getD aJ.toNat default).Value)<|uN.mk ((gB.getD aJ.toNat default).bM) ((gB.getD aJ.toNat default).uq) ((gB.getD aJ.toNat default).xH)<|(gB.getD aJ.toNat default).Value).bind λv3=>cond v3 (G.uj.L1 n aQ gB<|af .i64<|aJ+1)<|some false)<|some true
def G.uj (f:Nat)(aQ:List uN)(gB:List uN):Option (Bool):=match f with
|0=>none
|n+1=>cond ((aQ.length:Int) != (gB.length:Int)) (some false)<|G.uj.L1 n aQ gB 0
def G.vG (f:Nat)(aQ:bn)(gB:bn):Option (Bool):=match f with
|0=>none
|n+1=>cond (aQ.kP != gB.kP) (some false)<|cond (aQ.iC==gB.iC) ((G.jT n aQ.yK gB.yK).bind λv1=>cond v1 ((G.jT n aQ.uM gB.uM).bind λv2=>cond v2 ((G.qW n aQ.Body gB.Body).bind λv3=>cond v3 ((G.uj n aQ.Me gB.Me).bind λv4=>cond v4 (some true)<|some false)<|some false)<|some false)<|some false)<|some false
def G.lH.L1 (f:Nat)(aQ:List bn)(gB:List bn)(aJ:Int):Option (Bool):=match f with
|0=>none
|n+1=>cond (decide<|aJ<(aQ.length:Int)) (chk (0<=aJ/\aJ<(aQ.length:Int))<|chk (0<=aJ/\aJ<(gB.length:Int))<|(G.vG n (bn.mk ((aQ.getD aJ.toNat default).kP) ((aQ.getD aJ.toNat default).iC) ((aQ.getD aJ.toNat default).yK) ((aQ.getD aJ.toNat default).uM) ((aQ.getD aJ.toNat default).Body)<|(aQ.getD aJ.toNat default).Me)<|bn.mk ((gB.getD aJ.toNat default).kP) ((gB.getD aJ.toNat default).iC) ((gB.getD aJ.toNat default).yK) ((gB.getD aJ.toNat default).uM) ((gB.getD aJ.toNat default).Body)<|(gB.getD aJ.toNat default).Me).bind λv3=>cond v3 (G.lH.L1 n aQ gB<|af .i64<|aJ+1)<|some false)<|some true
def G.lH (f:Nat)(aQ:List bn)(gB:List bn):Option (Bool):=match f with
|0=>none
|n+1=>cond ((aQ.length:Int) != (gB.length:Int)) (some false)<|G.lH.L1 n aQ gB 0
def G.uA (f:Nat)(aQ:bP)(gB:bP):Option (Bool):=match f with
|0=>none
|n+1=>cond (aQ.Jy != gB.Jy) (some false)<|cond (aQ.Tag==gB.Tag) (cond (aQ.mW != gB.mW) (some false)<|(G.qW n aQ.Body gB.Body).bind λv1=>cond v1 (some true)<|some false)<|some false
def G.jS.L1 (f:Nat)(aQ:List bP)(gB:List bP)(aJ:Int):Option (Bool):=match f with
|0=>none
|n+1=>cond (decide<|aJ<(aQ.length:Int)) (chk (0<=aJ/\aJ<(aQ.length:Int))<|chk (0<=aJ/\aJ<(gB.length:Int))<|(G.uA n (bP.mk ((aQ.getD aJ.toNat default).Jy) ((aQ.getD aJ.toNat default).Tag) ((aQ.getD aJ.toNat default).mW)<|(aQ.getD aJ.toNat default).Body)<|bP.mk ((gB.getD aJ.toNat default).Jy) ((gB.getD aJ.toNat default).Tag) ((gB.getD aJ.toNat default).mW)<|(gB.getD aJ.toNat default).Body).bind λv3=>cond v3 (G.jS.L1 n aQ gB<|af .i64<|aJ+1)<|some false)<|some true
def G.jS (f:Nat)(aQ:List bP)(gB:List bP):Option (Bool):=match f with
|0=>none
|n+1=>cond ((aQ.length:Int) != (gB.length:Int)) (some false)<|G.jS.L1 n aQ gB 0
def G.uy (f:Nat)(aQ:bU)(gB:bU):Option (Bool):=match f with
|0=>none
|n+1=>(G.oU n aQ.bH gB.bH).bind λv1=>cond v1 (cond (aQ.kY != gB.kY) (some false)<|some true)<|some false
def G.jh.L1 (f:Nat)(Eg:Int)(E8:fC):Option (fC):=match f with
|0=>none
|n+1=>cond (decide<|0<Eg) (chk (1<=maxLen)<|chk (1+E8.length<=maxLen)<|G.jh.L1 n (af .i64<|mJ Eg 10)<|[gy (af .u8<|(af .i64<|48+(lC Eg 10))).toNat]++E8)<|chk (1+E8.length<=maxLen)<|some<|[109]++E8
def G.jh (f:Nat)(Au:Int):Option (fC):=match f with
|0=>none
|n+1=>cond (decide<|Au<=0) (some<|[109,48])<|G.jh.L1 n Au []
def G.jl.L1 (f:Nat)(aQ:List fC)(Eg:Int)(aJ:Int):Option (Int):=match f with
|0=>none
|n+1=>cond (decide<|aJ<(aQ.length:Int)) (chk (0<=aJ/\aJ<(aQ.length:Int))<|(G.jh n Eg).bind λv3=>cond ((aQ.getD aJ.toNat default)==v3) (G.jl.L1 n aQ (af .i64<|Eg+1)<|af .i64<|aJ+1)<|some (-1))<|some Eg
def G.jl (f:Nat)(aQ:List fC)(Au:Int):Option (Int):=match f with
|0=>none
|n+1=>G.jl.L1 n aQ Au 0
mutual
def G.jU.L1 (f:Nat)(aQ:List aj)(Eg:Int)(aJ:Int):Option (Int):=match f with
|0=>none
|n+1=>cond (decide<|aJ<(aQ.length:Int)) (chk (0<=aJ/\aJ<(aQ.length:Int))<|cond ((aQ.getD aJ.toNat default).bM != Eg) (some (-1))<|chk (0<=aJ/\aJ<(aQ.length:Int))<|cond ((aQ.getD aJ.toNat default).wJ != (af .i64<|Eg+1)) (some (-1))<|chk (0<=aJ/\aJ<(aQ.length:Int))<|(G.jh n<|af .i64<|(af .i64<|Eg+1)+1).bind λv7=>cond ((aQ.getD aJ.toNat default).lI==v7) (chk (0<=aJ/\aJ<(aQ.length:Int))<|(G.jl n ((aQ.getD aJ.toNat default).aO)<|af .i64<|(af .i64<|(af .i64<|Eg+1)+1)+1).bind λv8=>cond (decide<|v8<0) (some (-1))<|chk (0<=aJ/\aJ<(aQ.length:Int))<|(G.jU n ((aQ.getD aJ.toNat default).aP) v8).bind λv9=>cond (decide<|v9<0) (some (-1))<|G.jU.L1 n aQ v9<|af .i64<|aJ+1)<|some (-1))<|some Eg
def G.jU (f:Nat)(aQ:List aj)(Au:Int):Option (Int):=match f with
|0=>none
|n+1=>G.jU.L1 n aQ Au 0
end
def G.l9.L1 (f:Nat)(aQ:List fA)(Eg:Int)(aJ:Int):Option (Int):=match f with
|0=>none
|n+1=>cond (decide<|aJ<(aQ.length:Int)) (chk (0<=aJ/\aJ<(aQ.length:Int))<|(G.jh n Eg).bind λv9=>cond ((aQ.getD aJ.toNat default).iC==v9) (chk (0<=aJ/\aJ<(aQ.length:Int))<|cond ((aQ.getD aJ.toNat default).mW != (af .i64<|Eg+1)) (some (-1))<|chk (0<=aJ/\aJ<(aQ.length:Int))<|cond (((aQ.getD aJ.toNat default).pO).bM != (af .i64<|(af .i64<|Eg+1)+1)) (some (-1))<|chk (0<=aJ/\aJ<(aQ.length:Int))<|cond (((aQ.getD aJ.toNat default).pO).wJ != (af .i64<|(af .i64<|(af .i64<|Eg+1)+1)+1)) (some (-1))<|chk (0<=aJ/\aJ<(aQ.length:Int))<|(G.jh n<|af .i64<|(af .i64<|(af .i64<|(af .i64<|Eg+1)+1)+1)+1).bind λv10=>cond (((aQ.getD aJ.toNat default).pO).lI==v10) (chk (0<=aJ/\aJ<(aQ.length:Int))<|(G.jl n (((aQ.getD aJ.toNat default).pO).aO)<|af .i64<|(af .i64<|(af .i64<|(af .i64<|(af .i64<|Eg+1)+1)+1)+1)+1).bind λv11=>cond (decide<|v11<0) (some (-1))<|chk (0<=aJ/\aJ<(aQ.length:Int))<|(G.jU n (((aQ.getD aJ.toNat default).pO).aP) v11).bind λv12=>cond (decide<|v12<0) (some (-1))<|G.l9.L1 n aQ v12<|af .i64<|aJ+1)<|some (-1))<|some (-1))<|some Eg
def G.l9 (f:Nat)(aQ:List fA)(Au:Int):Option (Int):=match f with
|0=>none
|n+1=>G.l9.L1 n aQ Au 0
def G.jE.L1 (f:Nat)(aQ:List bP)(Eg:Int)(aJ:Int):Option (Int):=match f with
|0=>none
|n+1=>cond (decide<|aJ<(aQ.length:Int)) (chk (0<=aJ/\aJ<(aQ.length:Int))<|cond ((aQ.getD aJ.toNat default).Jy != Eg) (some (-1))<|chk (0<=aJ/\aJ<(aQ.length:Int))<|(G.jh n<|af .i64<|Eg+1).bind λv9=>cond ((aQ.getD aJ.toNat default).Tag==v9) (chk (0<=aJ/\aJ<(aQ.length:Int))<|cond ((aQ.getD aJ.toNat default).mW != (af .i64<|(af .i64<|Eg+1)+1)) (some (-1))<|chk (0<=aJ/\aJ<(aQ.length:Int))<|cond (((aQ.getD aJ.toNat default).Body).bM != (af .i64<|(af .i64<|(af .i64<|Eg+1)+1)+1)) (some (-1))<|chk (0<=aJ/\aJ<(aQ.length:Int))<|cond (((aQ.getD aJ.toNat default).Body).wJ != (af .i64<|(af .i64<|(af .i64<|(af .i64<|Eg+1)+1)+1)+1)) (some (-1))<|chk (0<=aJ/\aJ<(aQ.length:Int))<|(G.jh n<|af .i64<|(af .i64<|(af .i64<|(af .i64<|(af .i64<|Eg+1)+1)+1)+1)+1).bind λv10=>cond (((aQ.getD aJ.toNat default).Body).lI==v10) (chk (0<=aJ/\aJ<(aQ.length:Int))<|(G.jl n (((aQ.getD aJ.toNat default).Body).aO)<|af .i64<|(af .i64<|(af .i64<|(af .i64<|(af .i64<|(af .i64<|Eg+1)+1)+1)+1)+1)+1).bind λv11=>cond (decide<|v11<0) (some (-1))<|chk (0<=aJ/\aJ<(aQ.length:Int))<|(G.jU n (((aQ.getD aJ.toNat default).Body).aP) v11).bind λv12=>cond (decide<|v12<0) (some (-1))<|G.jE.L1 n aQ v12<|af .i64<|aJ+1)<|some (-1))<|some (-1))<|some Eg
def G.jE (f:Nat)(aQ:List bP)(Au:Int):Option (Int):=match f with
|0=>none
|n+1=>G.jE.L1 n aQ Au 0
def G.vH (f:Nat)(aQ:bU)(Au:Int):Option (Int):=match f with
|0=>none
|n+1=>(G.l9 n aQ.bH Au).bind λv1=>cond (decide<|v1<0) (some (-1))<|some v1
def G.jA.L1 (f:Nat)(aQ:List fC)(Cj:Int)(aJ:Int):Option (Int):=match f with
|0=>none
|n+1=>cond (decide<|aJ<(aQ.length:Int)) (chk (0<=aJ/\aJ<(aQ.length:Int))<|cond (decide<|(af .i64<|Cj-((aQ.getD aJ.toNat default).length:Int))<0) (some (-1))<|G.jA.L1 n aQ (af .i64<|Cj-((aQ.getD aJ.toNat default).length:Int))<|af .i64<|aJ+1)<|some Cj
def G.jA (f:Nat)(aQ:List fC)(jD:Int):Option (Int):=match f with
|0=>none
|n+1=>cond (decide<|(af .i64<|jD-(aQ.length:Int))<0) (some (-1))<|G.jA.L1 n aQ (af .i64<|jD-(aQ.length:Int)) 0
mutual
def G.qY (f:Nat)(aQ:aj)(jD:Int):Option (Int):=match f with
|0=>none
|n+1=>cond (decide<|(af .i64<|jD-(aQ.lI.length:Int))<0) (some (-1))<|(G.jA n aQ.aO<|af .i64<|jD-(aQ.lI.length:Int)).bind λv1=>cond (decide<|v1<0) (some (-1))<|(G.oV n aQ.aP v1).bind λv2=>cond (decide<|v2<0) (some (-1))<|some v2
def G.oV.L1 (f:Nat)(aQ:List aj)(Cj:Int)(aJ:Int):Option (Int):=match f with
|0=>none
|n+1=>cond (decide<|aJ<(aQ.length:Int)) (chk (0<=aJ/\aJ<(aQ.length:Int))<|(G.qY n (aQ.getD aJ.toNat default) Cj).bind λv3=>cond (decide<|v3<0) (some (-1))<|G.oV.L1 n aQ v3<|af .i64<|aJ+1)<|some Cj
def G.oV (f:Nat)(aQ:List aj)(jD:Int):Option (Int):=match f with
|0=>none
|n+1=>cond (decide<|(af .i64<|jD-(aQ.length:Int))<0) (some (-1))<|G.oV.L1 n aQ (af .i64<|jD-(aQ.length:Int)) 0
end
def G.wY (f:Nat)(aQ:fA)(jD:Int):Option (Int):=match f with
|0=>none
|n+1=>cond (decide<|(af .i64<|jD-(aQ.iC.length:Int))<0) (some (-1))<|(G.qY n aQ.pO<|af .i64<|jD-(aQ.iC.length:Int)).bind λv1=>cond (decide<|v1<0) (some (-1))<|some v1
def G.nM.L1 (f:Nat)(aQ:List fA)(Cj:Int)(aJ:Int):Option (Int):=match f with
|0=>none
|n+1=>cond (decide<|aJ<(aQ.length:Int)) (chk (0<=aJ/\aJ<(aQ.length:Int))<|(G.wY n (fA.mk ((aQ.getD aJ.toNat default).iC) ((aQ.getD aJ.toNat default).mW)<|(aQ.getD aJ.toNat default).pO) Cj).bind λv3=>cond (decide<|v3<0) (some (-1))<|G.nM.L1 n aQ v3<|af .i64<|aJ+1)<|some Cj
def G.nM (f:Nat)(aQ:List fA)(jD:Int):Option (Int):=match f with
|0=>none
|n+1=>cond (decide<|(af .i64<|jD-(aQ.length:Int))<0) (some (-1))<|G.nM.L1 n aQ (af .i64<|jD-(aQ.length:Int)) 0
def G.yM (f:Nat)(aQ:uN)(jD:Int):Option (Int):=match f with
|0=>none
|n+1=>(G.jA n aQ.uq jD).bind λv1=>cond (decide<|v1<0) (some (-1))<|(G.jA n aQ.xH v1).bind λv2=>cond (decide<|v2<0) (some (-1))<|(G.qY n aQ.Value v2).bind λv3=>cond (decide<|v3<0) (some (-1))<|some v3
def G.rE.L1 (f:Nat)(aQ:List uN)(Cj:Int)(aJ:Int):Option (Int):=match f with
|0=>none
|n+1=>cond (decide<|aJ<(aQ.length:Int)) (chk (0<=aJ/\aJ<(aQ.length:Int))<|(G.yM n (uN.mk ((aQ.getD aJ.toNat default).bM) ((aQ.getD aJ.toNat default).uq) ((aQ.getD aJ.toNat default).xH)<|(aQ.getD aJ.toNat default).Value) Cj).bind λv3=>cond (decide<|v3<0) (some (-1))<|G.rE.L1 n aQ v3<|af .i64<|aJ+1)<|some Cj
def G.rE (f:Nat)(aQ:List uN)(jD:Int):Option (Int):=match f with
|0=>none
|n+1=>cond (decide<|(af .i64<|jD-(aQ.length:Int))<0) (some (-1))<|G.rE.L1 n aQ (af .i64<|jD-(aQ.length:Int)) 0
def G.o9 (f:Nat)(aQ:bn)(jD:Int):Option (Int):=match f with
|0=>none
|n+1=>cond (decide<|(af .i64<|jD-(aQ.iC.length:Int))<0) (some (-1))<|(G.jA n aQ.yK<|af .i64<|jD-(aQ.iC.length:Int)).bind λv1=>cond (decide<|v1<0) (some (-1))<|(G.jA n aQ.uM v1).bind λv2=>cond (decide<|v2<0) (some (-1))<|(G.qY n aQ.Body v2).bind λv3=>cond (decide<|v3<0) (some (-1))<|(G.rE n aQ.Me v3).bind λv4=>cond (decide<|v4<0) (some (-1))<|some v4
def G.jQ.L1 (f:Nat)(aQ:List bn)(Cj:Int)(aJ:Int):Option (Int):=match f with
|0=>none
|n+1=>cond (decide<|aJ<(aQ.length:Int)) (chk (0<=aJ/\aJ<(aQ.length:Int))<|(G.o9 n (bn.mk ((aQ.getD aJ.toNat default).kP) ((aQ.getD aJ.toNat default).iC) ((aQ.getD aJ.toNat default).yK) ((aQ.getD aJ.toNat default).uM) ((aQ.getD aJ.toNat default).Body)<|(aQ.getD aJ.toNat default).Me) Cj).bind λv3=>cond (decide<|v3<0) (some (-1))<|G.jQ.L1 n aQ v3<|af .i64<|aJ+1)<|some Cj
def G.jQ (f:Nat)(aQ:List bn)(jD:Int):Option (Int):=match f with
|0=>none
|n+1=>cond (decide<|(af .i64<|jD-(aQ.length:Int))<0) (some (-1))<|G.jQ.L1 n aQ (af .i64<|jD-(aQ.length:Int)) 0
def G.sW (f:Nat)(aQ:bU)(jD:Int):Option (Int):=match f with
|0=>none
|n+1=>(G.nM n aQ.bH jD).bind λv1=>cond (decide<|v1<0) (some (-1))<|some v1
def G.jV.L1 (f:Nat)(aQ:List fC)(aJ:Int)(z3:List fC):Option (List fC):=match f with
|0=>none
|n+1=>cond (decide<|aJ<(aQ.length:Int)) (chk (0<=aJ/\aJ<(aQ.length:Int))<|chk (0<=aJ/\aJ<(z3.length:Int))<|G.jV.L1 n aQ (af .i64<|aJ+1)<|z3.set aJ.toNat<|aQ.getD aJ.toNat default)<|some z3
def G.jV (f:Nat)(aQ:List fC):Option (List fC):=match f with
|0=>none
|n+1=>chk (0<=(aQ.length:Int)/\(aQ.length:Int)<=(aQ.length:Int)/\16*(aQ.length:Int)<=2^47/\(aQ.length:Int)<=2^47)<|G.jV.L1 n aQ 0<|bW aQ.length []
mutual
def G.sZ (f:Nat)(aQ:aj):Option (aj):=match f with
|0=>none
|n+1=>(G.jV n aQ.aO).bind λv1=>(G.qG n aQ.aP).bind λv2=>some<|aj.mk aQ.bM aQ.wJ aQ.lI v1 v2
def G.qG.L1 (f:Nat)(aQ:List aj)(aJ:Int)(z3:List aj):Option (List aj):=match f with
|0=>none
|n+1=>cond (decide<|aJ<(aQ.length:Int)) (chk (0<=aJ/\aJ<(aQ.length:Int))<|(G.sZ n<|aQ.getD aJ.toNat default).bind λv3=>chk (0<=aJ/\aJ<(z3.length:Int))<|G.qG.L1 n aQ (af .i64<|aJ+1)<|z3.set aJ.toNat v3)<|some z3
def G.qG (f:Nat)(aQ:List aj):Option (List aj):=match f with
|0=>none
|n+1=>chk (0<=(aQ.length:Int)/\(aQ.length:Int)<=(aQ.length:Int)/\80*(aQ.length:Int)<=2^47/\(aQ.length:Int)<=2^47)<|G.qG.L1 n aQ 0<|bW aQ.length<|aj.mk 0 0 [] [] []
end
def G.yx (f:Nat)(aQ:fA):Option (fA):=match f with
|0=>none
|n+1=>(G.sZ n aQ.pO).bind λv1=>some<|fA.mk aQ.iC aQ.mW v1
def G.oW.L1 (f:Nat)(aQ:List fA)(aJ:Int)(z3:List fA):Option (List fA):=match f with
|0=>none
|n+1=>cond (decide<|aJ<(aQ.length:Int)) (chk (0<=aJ/\aJ<(aQ.length:Int))<|(G.yx n<|fA.mk ((aQ.getD aJ.toNat default).iC) ((aQ.getD aJ.toNat default).mW)<|(aQ.getD aJ.toNat default).pO).bind λv3=>chk (0<=aJ/\aJ<(z3.length:Int))<|G.oW.L1 n aQ (af .i64<|aJ+1)<|z3.set aJ.toNat v3)<|some z3
def G.oW (f:Nat)(aQ:List fA):Option (List fA):=match f with
|0=>none
|n+1=>chk (0<=(aQ.length:Int)/\(aQ.length:Int)<=(aQ.length:Int)/\104*(aQ.length:Int)<=2^47/\(aQ.length:Int)<=2^47)<|G.oW.L1 n aQ 0<|bW aQ.length<|fA.mk [] 0<|aj.mk 0 0 [] [] []
def G.Bg (f:Nat)(aQ:uN):Option (uN):=match f with
|0=>none
|n+1=>(G.jV n aQ.uq).bind λv1=>(G.jV n aQ.xH).bind λv2=>(G.sZ n aQ.Value).bind λv3=>some<|uN.mk aQ.bM v1 v2 v3
def G.uk.L1 (f:Nat)(aQ:List uN)(aJ:Int)(z3:List uN):Option (List uN):=match f with
|0=>none
|n+1=>cond (decide<|aJ<(aQ.length:Int)) (chk (0<=aJ/\aJ<(aQ.length:Int))<|(G.Bg n<|uN.mk ((aQ.getD aJ.toNat default).bM) ((aQ.getD aJ.toNat default).uq) ((aQ.getD aJ.toNat default).xH)<|(aQ.getD aJ.toNat default).Value).bind λv3=>chk (0<=aJ/\aJ<(z3.length:Int))<|G.uk.L1 n aQ (af .i64<|aJ+1)<|z3.set aJ.toNat v3)<|some z3
def G.uk (f:Nat)(aQ:List uN):Option (List uN):=match f with
|0=>none
|n+1=>chk (0<=(aQ.length:Int)/\(aQ.length:Int)<=(aQ.length:Int)/\136*(aQ.length:Int)<=2^47/\(aQ.length:Int)<=2^47)<|G.uk.L1 n aQ 0<|bW aQ.length<|uN.mk 0 [] []<|aj.mk 0 0 [] [] []
def G.vI (f:Nat)(aQ:bn):Option (bn):=match f with
|0=>none
|n+1=>(G.jV n aQ.yK).bind λv1=>(G.jV n aQ.uM).bind λv2=>(G.sZ n aQ.Body).bind λv3=>(G.uk n aQ.Me).bind λv4=>some<|bn.mk aQ.kP aQ.iC v1 v2 v3 v4
def G.kS.L1 (f:Nat)(aQ:List bn)(aJ:Int)(z3:List bn):Option (List bn):=match f with
|0=>none
|n+1=>cond (decide<|aJ<(aQ.length:Int)) (chk (0<=aJ/\aJ<(aQ.length:Int))<|(G.vI n<|bn.mk ((aQ.getD aJ.toNat default).kP) ((aQ.getD aJ.toNat default).iC) ((aQ.getD aJ.toNat default).yK) ((aQ.getD aJ.toNat default).uM) ((aQ.getD aJ.toNat default).Body)<|(aQ.getD aJ.toNat default).Me).bind λv3=>chk (0<=aJ/\aJ<(z3.length:Int))<|G.kS.L1 n aQ (af .i64<|aJ+1)<|z3.set aJ.toNat v3)<|some z3
def G.kS (f:Nat)(aQ:List bn):Option (List bn):=match f with
|0=>none
|n+1=>chk (0<=(aQ.length:Int)/\(aQ.length:Int)<=(aQ.length:Int)/\176*(aQ.length:Int)<=2^47/\(aQ.length:Int)<=2^47)<|G.kS.L1 n aQ 0<|bW aQ.length<|bn.mk 0 [] [] [] (aj.mk 0 0 [] [] []) []
def G.vT (f:Nat)(aQ:bU):Option (bU):=match f with
|0=>none
|n+1=>(G.oW n aQ.bH).bind λv1=>some<|bU.mk v1 aQ.kY
mutual
def G.cO.L1 (f:Nat)(aG:aj)(aJ:Int)(z2:List aj):Option (aj):=match f with
|0=>none
|n+1=>cond (decide<|aJ<(aG.aP.length:Int)) (chk (0<=aJ/\aJ<(aG.aP.length:Int))<|(G.cO n<|aG.aP.getD aJ.toNat default).bind λv3=>chk ((z2.length+1)*86<=2^46)<|G.cO.L1 n aG (af .i64<|aJ+1)<|z2++[v3])<|chk (aG.aO.length*18<=2^46)<|some<|aj.mk aG.bM aG.wJ aG.lI aG.aO z2
def G.cO (f:Nat)(aG:aj):Option (aj):=match f with
|0=>none
|n+1=>G.cO.L1 n aG 0 []
end
mutual
def G.lY (f:Nat)(aG:Int):Option (fC):=match f with
|0=>none
|n+1=>cond (decide<|aG<0) (cond (aG==(af .i64<|0-aG)) (some<|[45,57,50,50,51,51,55,50,48,51,54,56,53,52,55,55,53,56,48,56])<|(G.lY n<|af .i64<|0-aG).bind λv1=>chk (1+v1.length<=maxLen)<|some<|[45]++v1)<|cond (decide<|aG<10) (chk (1<=maxLen)<|some<|[gy (af .u8<|(af .i64<|48+aG)).toNat])<|(G.lY n<|af .i64<|mJ aG 10).bind λv2=>chk (1<=maxLen)<|chk (v2.length+1<=maxLen)<|some<|(v2++[gy (af .u8<|(af .i64<|48+(lC aG 10))).toNat])
end
def G.jL.L1 (f:Nat)(aG:aj)(kJ:fC)(aJ:Int):Option (Int):=match f with
|0=>none
|n+1=>cond (decide<|aJ<(aG.aP.length:Int)) (cond (aG.bM==4) (chk (0<=aJ/\aJ<(aG.aO.length:Int))<|cond ((aG.aO.getD aJ.toNat default)==kJ) (some aJ)<|cond (aG.bM==3) ((G.lY n aJ).bind λv5=>cond (v5==kJ) (some aJ)<|G.jL.L1 n aG kJ<|af .i64<|aJ+1)<|G.jL.L1 n aG kJ<|af .i64<|aJ+1)<|cond (aG.bM==3) ((G.lY n aJ).bind λv6=>cond (v6==kJ) (some aJ)<|G.jL.L1 n aG kJ<|af .i64<|aJ+1)<|G.jL.L1 n aG kJ<|af .i64<|aJ+1)<|some (-1)
def G.jL (f:Nat)(aG:aj)(kJ:fC):Option (Int):=match f with
|0=>none
|n+1=>G.jL.L1 n aG kJ 0
def G.mO.L1 (f:Nat)(aG:aj)(kJ:fC)(aJ:Int):Option (Int×Bool):=match f with
|0=>none
|n+1=>cond (aG.bM==4) (cond (decide<|aJ<=(aG.aP.length:Int)) (cond (aJ==(aG.aP.length:Int)) (some (aJ,false))<|chk (0<=aJ/\aJ<(aG.aO.length:Int))<|cond (iT kJ<|aG.aO.getD aJ.toNat default) (some (aJ,false))<|G.mO.L1 n aG kJ<|af .i64<|aJ+1)<|some ((-1),false))<|some ((-1),false)
def G.mO.L2 (f:Nat)(aG:aj)(kJ:fC)(OB:Int):Option (Int×Bool):=match f with
|0=>none
|n+1=>cond (aG.bM==4) (cond (decide<|OB<=(aG.aP.length:Int)) (cond (OB==(aG.aP.length:Int)) (some (OB,false))<|chk (0<=OB/\OB<(aG.aO.length:Int))<|cond (iT kJ<|aG.aO.getD OB.toNat default) (some (OB,false))<|G.mO.L2 n aG kJ<|af .i64<|OB+1)<|some ((-1),false))<|some ((-1),false)
def G.mO (f:Nat)(aG:aj)(kJ:fC):Option (Int×Bool):=match f with
|0=>none
|n+1=>(G.jL n aG kJ).bind λv1=>cond (decide<|0<=v1) (some (v1,(aG.bM==4)))<|cond (aG.bM==3) (cond (kJ==[45]) (some ((aG.aP.length:Int),false))<|(G.lY n (aG.aP.length:Int)).bind λv2=>cond (kJ==v2) (some ((aG.aP.length:Int),false))<|G.mO.L1 n aG kJ 0)<|G.mO.L2 n aG kJ 0
def G.pY (f:Nat)(aG:aj)(Au:Int)(UW:aj):Option (aj):=match f with
|0=>none
|n+1=>(G.cO n aG).bind λv1=>(G.cO n UW).bind λv2=>chk (0<=Au/\Au<(v1.aP.length:Int))<|some<|(aj.mk v1.bM v1.wJ v1.lI v1.aO<|v1.aP.set Au.toNat v2)
def G.rO (f:Nat)(aG:aj)(kJ:fC)(iZ:aj):Option (aj×Bool):=match f with
|0=>none
|n+1=>(G.mO n aG kJ).bind λv1=>cond (decide<|v1.1<0) (some ((aj.mk 0 0 [] [] []),false))<|cond v1.2 ((G.pY n aG v1.1 iZ).bind λv2=>some (v2,true))<|(G.cO n aG).bind λv3=>chk (0<=0/\0<=v1.1/\v1.1<=(v3.aP.length:Int))<|chk (((v3.aP.take v1.1.toNat).length)*86<=2^46)<|(G.cO n iZ).bind λv4=>chk (((v3.aP.take v1.1.toNat).length+1)*86<=2^46)<|chk (0<=v1.1/\v1.1<=(v3.aP.length:Int)/\(v3.aP.length:Int)<=(v3.aP.length:Int))<|chk ((((v3.aP.take v1.1.toNat).length+1)+(v3.aP.drop v1.1.toNat).length)*86<=2^46)<|cond (aG.bM==3) (some ((aj.mk aG.bM 0 [] []<|((v3.aP.take v1.1.toNat)++[v4])++(v3.aP.drop v1.1.toNat)),true))<|chk (0<=0/\0<=v1.1/\v1.1<=(v3.aO.length:Int))<|chk (((v3.aO.take v1.1.toNat).length)*18<=2^46)<|chk (((v3.aO.take v1.1.toNat).length+1)*18<=2^46)<|chk (0<=v1.1/\v1.1<=(v3.aO.length:Int)/\(v3.aO.length:Int)<=(v3.aO.length:Int))<|chk ((((v3.aO.take v1.1.toNat).length+1)+(v3.aO.drop v1.1.toNat).length)*18<=2^46)<|some ((aj.mk aG.bM 0 [] (((v3.aO.take v1.1.toNat)++[kJ])++(v3.aO.drop v1.1.toNat))<|((v3.aP.take v1.1.toNat)++[v4])++(v3.aP.drop v1.1.toNat)),true)
def G.uY.L1 (f:Nat)(aV:List fC)(aJ:Int)(y6:Int)(y7:Int)(y8:fC)(y9:List fC)(Uy:List aj):Option (aj×Bool):=match f with
|0=>none
|n+1=>cond (decide<|aJ<(aV.length:Int)) (chk (0<=aJ/\aJ<(aV.length:Int))<|(G.jL n (aj.mk y6 y7 y8 y9 Uy)<|aV.getD aJ.toNat default).bind λv3=>cond (decide<|v3<0) (some ((aj.mk 0 0 [] [] []),false))<|chk (0<=v3/\v3<(Uy.length:Int))<|G.uY.L1 n aV (af .i64<|aJ+1) ((Uy.getD v3.toNat default).bM) ((Uy.getD v3.toNat default).wJ) ((Uy.getD v3.toNat default).lI) ((Uy.getD v3.toNat default).aO)<|(Uy.getD v3.toNat default).aP)<|(G.cO n<|aj.mk y6 y7 y8 y9 Uy).bind λv4=>some (v4,true)
def G.uY (f:Nat)(aG:aj)(aV:List fC):Option (aj×Bool):=match f with
|0=>none
|n+1=>G.uY.L1 n aV 0 aG.bM aG.wJ aG.lI aG.aO aG.aP
mutual
def G.qj (f:Nat)(aG:aj)(aV:List fC)(iZ:aj):Option (aj×Bool):=match f with
|0=>none
|n+1=>cond ((aV.length:Int)==0) ((G.cO n iZ).bind λv1=>some (v1,true))<|chk (0<=0/\0<(aV.length:Int))<|(G.jL n aG<|aV.getD 0 default).bind λv2=>cond (decide<|v2<0) (some ((aj.mk 0 0 [] [] []),false))<|chk (0<=v2/\v2<(aG.aP.length:Int))<|chk (0<=1/\1<=(aV.length:Int)/\(aV.length:Int)<=(aV.length:Int))<|(G.qj n (aG.aP.getD v2.toNat default) (aV.drop 1) iZ).bind λv3=>cond v3.2 ((G.pY n aG v2 v3.1).bind λv4=>some (v4,true))<|some ((aj.mk 0 0 [] [] []),false)
end
def G.vM (f:Nat)(aG:aj)(aV:List fC)(iZ:aj):Option (aj×Bool):=match f with
|0=>none
|n+1=>cond ((aV.length:Int)==0) ((G.cO n iZ).bind λv1=>some (v1,true))<|chk (0<=0/\0<=(af .i64<|(aV.length:Int)-1)/\(af .i64<|(aV.length:Int)-1)<=(aV.length:Int))<|(G.uY n aG<|aV.take<|(af .i64<|(aV.length:Int)-1).toNat).bind λv2=>cond v2.2 (chk (0<=(af .i64<|(aV.length:Int)-1)/\(af .i64<|(aV.length:Int)-1)<(aV.length:Int))<|(G.rO n v2.1 (aV.getD (af .i64<|(aV.length:Int)-1).toNat default) iZ).bind λv3=>cond v3.2 (chk (0<=0/\0<=(af .i64<|(aV.length:Int)-1)/\(af .i64<|(aV.length:Int)-1)<=(aV.length:Int))<|(G.qj n aG (aV.take<|(af .i64<|(aV.length:Int)-1).toNat) v3.1).bind λv4=>some (v4.1,v4.2))<|some ((aj.mk 0 0 [] [] []),false))<|some ((aj.mk 0 0 [] [] []),false)
def G.nS.L1 (f:Nat)(aV:List fC)(EI:List fC)(aJ:Int):Option (Bool):=match f with
|0=>none
|n+1=>cond (decide<|aJ<(EI.length:Int)) (cond (decide<|(aV.length:Int)<=aJ) (some false)<|chk (0<=aJ/\aJ<(aV.length:Int))<|chk (0<=aJ/\aJ<(EI.length:Int))<|cond ((aV.getD aJ.toNat default)==(EI.getD aJ.toNat default)) (G.nS.L1 n aV EI<|af .i64<|aJ+1)<|some false)<|some true
def G.nS (f:Nat)(aV:List fC)(EI:List fC):Option (Bool):=match f with
|0=>none
|n+1=>G.nS.L1 n aV EI 0
def G.kV.K1 (f:Nat)(aG:aj)(aV:List fC)(v1:aj×Bool)(z1:List aj)(z2:List fC):Option (aj×Bool):=match f with
|0=>none
|n+1=>chk (0<=0/\0<=(af .i64<|(aV.length:Int)-1)/\(af .i64<|(aV.length:Int)-1)<=(aV.length:Int))<|(G.qj n aG (aV.take<|(af .i64<|(aV.length:Int)-1).toNat)<|aj.mk v1.1.bM 0 [] z2 z1).bind λv3=>some (v3.1,v3.2)
def G.kV (f:Nat)(aG:aj)(aV:List fC):Option (aj×Bool):=match f with
|0=>none
|n+1=>cond (decide<|(af .i64<|(aV.length:Int)-1)<0) (some ((aj.mk 0 0 [] [] []),false))<|chk (0<=0/\0<=(af .i64<|(aV.length:Int)-1)/\(af .i64<|(aV.length:Int)-1)<=(aV.length:Int))<|(G.uY n aG<|aV.take<|(af .i64<|(aV.length:Int)-1).toNat).bind λv1=>cond v1.2 (chk (0<=(af .i64<|(aV.length:Int)-1)/\(af .i64<|(aV.length:Int)-1)<(aV.length:Int))<|(G.jL n v1.1<|aV.getD (af .i64<|(aV.length:Int)-1).toNat default).bind λv2=>cond (decide<|v2<0) (some ((aj.mk 0 0 [] [] []),false))<|chk (0<=0/\0<=v2/\v2<=(v1.1.aP.length:Int))<|chk (((v1.1.aP.take v2.toNat).length)*86<=2^46)<|chk (0<=(af .i64<|v2+1)/\(af .i64<|v2+1)<=(v1.1.aP.length:Int)/\(v1.1.aP.length:Int)<=(v1.1.aP.length:Int))<|chk (((v1.1.aP.take v2.toNat).length+(v1.1.aP.drop<|(af .i64<|v2+1).toNat).length)*86<=2^46)<|cond (v1.1.bM==4) (chk (0<=0/\0<=v2/\v2<=(v1.1.aO.length:Int))<|chk (((v1.1.aO.take v2.toNat).length)*18<=2^46)<|chk (0<=(af .i64<|v2+1)/\(af .i64<|v2+1)<=(v1.1.aO.length:Int)/\(v1.1.aO.length:Int)<=(v1.1.aO.length:Int))<|chk (((v1.1.aO.take v2.toNat).length+(v1.1.aO.drop<|(af .i64<|v2+1).toNat).length)*18<=2^46)<|G.kV.K1 n aG aV v1 ((v1.1.aP.take v2.toNat)++(v1.1.aP.drop<|(af .i64<|v2+1).toNat))<|(v1.1.aO.take v2.toNat)++(v1.1.aO.drop<|(af .i64<|v2+1).toNat))<|G.kV.K1 n aG aV v1 ((v1.1.aP.take v2.toNat)++(v1.1.aP.drop<|(af .i64<|v2+1).toNat)) [])<|some ((aj.mk 0 0 [] [] []),false)
def G.mQ (f:Nat)(gB:Bool):Option (Int):=match f with
|0=>none
|n+1=>cond gB (some 1)<|some 0
def G.sK (f:Nat)(aQ:Int)(gB:Int):Option (Int):=match f with
|0=>none
|n+1=>(G.mQ n<|decide<|gB<aQ).bind λv1=>(G.mQ n<|decide<|aQ<gB).bind λv2=>some<|(af .i64<|v1-v2)
def G.pI (f:Nat)(aQ:fC)(gB:fC):Option (Int):=match f with
|0=>none
|n+1=>cond (iT aQ gB) ((G.mQ n false).bind λv1=>(G.mQ n true).bind λv2=>some<|(af .i64<|v1-v2))<|cond (aQ==gB) ((G.mQ n false).bind λv3=>(G.mQ n false).bind λv4=>some<|(af .i64<|v3-v4))<|(G.mQ n true).bind λv5=>(G.mQ n false).bind λv6=>some<|(af .i64<|v5-v6)
mutual
def G.iO.L1 (f:Nat)(aQ:aj)(gB:aj)(aJ:Int):Option (Int):=match f with
|0=>none
|n+1=>cond (decide<|aJ<(aQ.aP.length:Int)) (cond (decide<|aJ<(gB.aP.length:Int)) (cond (aQ.bM==4) (chk (0<=aJ/\aJ<(aQ.aO.length:Int))<|chk (0<=aJ/\aJ<(gB.aO.length:Int))<|cond ((aQ.aO.getD aJ.toNat default)==(gB.aO.getD aJ.toNat default)) (chk (0<=aJ/\aJ<(aQ.aP.length:Int))<|chk (0<=aJ/\aJ<(gB.aP.length:Int))<|(G.iO n (aQ.aP.getD aJ.toNat default)<|gB.aP.getD aJ.toNat default).bind λv9=>cond (v9 != 0) (some v9)<|G.iO.L1 n aQ gB<|af .i64<|aJ+1)<|chk (0<=aJ/\aJ<(aQ.aO.length:Int))<|chk (0<=aJ/\aJ<(gB.aO.length:Int))<|(G.pI n (aQ.aO.getD aJ.toNat default)<|gB.aO.getD aJ.toNat default).bind λv10=>some v10)<|chk (0<=aJ/\aJ<(aQ.aP.length:Int))<|chk (0<=aJ/\aJ<(gB.aP.length:Int))<|(G.iO n (aQ.aP.getD aJ.toNat default)<|gB.aP.getD aJ.toNat default).bind λv11=>cond (v11 != 0) (some v11)<|G.iO.L1 n aQ gB<|af .i64<|aJ+1)<|(G.sK n (aQ.aP.length:Int) (gB.aP.length:Int)).bind λv12=>some v12)<|(G.sK n (aQ.aP.length:Int) (gB.aP.length:Int)).bind λv13=>some v13
def G.iO (f:Nat)(aQ:aj)(gB:aj):Option (Int):=match f with
|0=>none
|n+1=>cond (aQ.bM != gB.bM) ((G.sK n aQ.bM gB.bM).bind λv1=>some v1)<|cond (aQ.wJ != gB.wJ) ((G.sK n aQ.wJ gB.wJ).bind λv2=>some v2)<|cond (aQ.lI==gB.lI) (G.iO.L1 n aQ gB 0)<|(G.pI n aQ.lI gB.lI).bind λv14=>some v14
end
def G.zx (f:Nat)(aQ:aj)(gB:aj):Option (Bool):=match f with
|0=>none
|n+1=>(G.iO n aQ gB).bind λv1=>some<|v1==0
def G.lM.K1 (f:Nat)(aG:aj)(vz:uN)(alr:List fC):Option (aj×Bool):=match f with
|0=>none
|n+1=>(G.uY n aG alr).bind λv4=>cond v4.2 (cond (vz.bM==6) ((G.zx n v4.1 vz.Value).bind λv5=>some (aG,v5))<|cond (vz.bM==5) ((G.vM n aG vz.uq v4.1).bind λv6=>some (v6.1,v6.2))<|(G.nS n vz.uq vz.xH).bind λv7=>cond v7 ((G.cO n aG).bind λv8=>some (v8,((vz.uq.length:Int)==(vz.xH.length:Int))))<|(G.kV n aG vz.xH).bind λv9=>cond v9.2 ((G.vM n v9.1 vz.uq v4.1).bind λv10=>some (v10.1,v10.2))<|some ((aj.mk 0 0 [] [] []),false))<|some ((aj.mk 0 0 [] [] []),false)
def G.lM (f:Nat)(aG:aj)(vz:uN):Option (aj×Bool):=match f with
|0=>none
|n+1=>cond (vz.bM==1) ((G.vM n aG vz.uq vz.Value).bind λv1=>some (v1.1,v1.2))<|cond (vz.bM==2) ((G.kV n aG vz.uq).bind λv2=>some (v2.1,v2.2))<|cond (vz.bM==3) ((G.qj n aG vz.uq vz.Value).bind λv3=>some (v3.1,v3.2))<|cond (vz.bM==6) (G.lM.K1 n aG vz vz.uq)<|G.lM.K1 n aG vz vz.xH
mutual
def G.nX.L1 (f:Nat)(aG:aj)(Eg:Int)(aJ:Int):Option (Int):=match f with
|0=>none
|n+1=>cond (decide<|aJ<(aG.aP.length:Int)) (chk (0<=aJ/\aJ<(aG.aP.length:Int))<|(G.nX n<|aG.aP.getD aJ.toNat default).bind λv3=>G.nX.L1 n aG (af .i64<|Eg+v3)<|af .i64<|aJ+1)<|some Eg
def G.nX (f:Nat)(aG:aj):Option (Int):=match f with
|0=>none
|n+1=>G.nX.L1 n aG 1 0
end
def G.iP (f:Nat)(aG:Int)(UX:Int)(P5:Int):Option (Bool):=match f with
|0=>none
|n+1=>cond (decide<|UX<=aG) (some<|(decide<|aG<=P5))<|some false
def G.jd.L1 (f:Nat)(aZ:fC)(aJ:Int):Option (Bool):=match f with
|0=>none
|n+1=>cond (decide<|aJ<(aZ.length:Int)) (chk (0<=aJ/\aJ<(aZ.length:Int))<|(G.iP n (af .i64<|((aZ.getD aJ.toNat 0).toNat:Int)) 32 126).bind λv3=>cond v3 (G.jd.L1 n aZ<|af .i64<|aJ+1)<|some false)<|some<|(decide<|(aZ.length:Int)<=12)
def G.jd (f:Nat)(aZ:fC):Option (Bool):=match f with
|0=>none
|n+1=>G.jd.L1 n aZ 0
def G.pG.L1 (f:Nat)(aU:List fC)(aJ:Int):Option (Bool):=match f with
|0=>none
|n+1=>cond (decide<|aJ<(aU.length:Int)) (chk (0<=aJ/\aJ<(aU.length:Int))<|(G.jd n<|aU.getD aJ.toNat default).bind λv3=>cond v3 (cond (decide<|0<aJ) (chk (0<=aJ/\aJ<(aU.length:Int))<|chk (0<=(af .i64<|aJ-1)/\(af .i64<|aJ-1)<(aU.length:Int))<|cond (iT (aU.getD aJ.toNat default)<|aU.getD (af .i64<|aJ-1).toNat default) (some false)<|cond ((aU.getD aJ.toNat default)==(aU.getD (af .i64<|aJ-1).toNat default)) (some false)<|G.pG.L1 n aU<|af .i64<|aJ+1)<|G.pG.L1 n aU<|af .i64<|aJ+1)<|some false)<|some true
def G.pG (f:Nat)(aU:List fC):Option (Bool):=match f with
|0=>none
|n+1=>G.pG.L1 n aU 0
mutual
def G.uo.L1 (f:Nat)(aG:aj)(nH:Int)(aJ:Int):Option (Bool):=match f with
|0=>none
|n+1=>cond (decide<|aJ<(aG.aP.length:Int)) (chk (0<=aJ/\aJ<(aG.aP.length:Int))<|(G.jB n (aG.aP.getD aJ.toNat default)<|af .i64<|nH-1).bind λv3=>cond v3 (G.uo.L1 n aG nH<|af .i64<|aJ+1)<|some false)<|some true
def G.uo (f:Nat)(aG:aj)(nH:Int):Option (Bool):=match f with
|0=>none
|n+1=>G.uo.L1 n aG nH 0
def G.jB.K1 (f:Nat)(aG:aj)(nH:Int):Option (Bool):=match f with
|0=>none
|n+1=>cond (aG.bM==1) ((G.iP n aG.wJ (-999999) 999999).bind λv1=>some v1)<|cond (aG.bM==2) ((G.jd n aG.lI).bind λv2=>some v2)<|cond (aG.bM==3) ((G.uo n aG nH).bind λv3=>some v3)<|cond (aG.bM==4) (cond ((aG.aO.length:Int)==(aG.aP.length:Int)) ((G.pG n aG.aO).bind λv4=>cond v4 ((G.uo n aG nH).bind λv5=>some v5)<|some false)<|some false)<|some<|aG.bM==0
def G.jB (f:Nat)(aG:aj)(nH:Int):Option (Bool):=match f with
|0=>none
|n+1=>cond (nH==0) (some false)<|cond (decide<|6<(aG.aP.length:Int)) (some false)<|cond (aG.bM != 1) (cond (aG.wJ != 0) (some false)<|cond (aG.bM != 2) (cond (aG.lI==[]) (cond (aG.bM != 4) (cond (decide<|0<(aG.aO.length:Int)) (some false)<|cond (decide<|aG.bM<3) (cond (decide<|0<(aG.aP.length:Int)) (some false)<|G.jB.K1 n aG nH)<|G.jB.K1 n aG nH)<|cond (decide<|aG.bM<3) (cond (decide<|0<(aG.aP.length:Int)) (some false)<|G.jB.K1 n aG nH)<|G.jB.K1 n aG nH)<|some false)<|cond (aG.bM != 4) (cond (decide<|0<(aG.aO.length:Int)) (some false)<|cond (decide<|aG.bM<3) (cond (decide<|0<(aG.aP.length:Int)) (some false)<|G.jB.K1 n aG nH)<|G.jB.K1 n aG nH)<|cond (decide<|aG.bM<3) (cond (decide<|0<(aG.aP.length:Int)) (some false)<|G.jB.K1 n aG nH)<|G.jB.K1 n aG nH)<|cond (aG.bM != 2) (cond (aG.lI==[]) (cond (aG.bM != 4) (cond (decide<|0<(aG.aO.length:Int)) (some false)<|cond (decide<|aG.bM<3) (cond (decide<|0<(aG.aP.length:Int)) (some false)<|G.jB.K1 n aG nH)<|G.jB.K1 n aG nH)<|cond (decide<|aG.bM<3) (cond (decide<|0<(aG.aP.length:Int)) (some false)<|G.jB.K1 n aG nH)<|G.jB.K1 n aG nH)<|some false)<|cond (aG.bM != 4) (cond (decide<|0<(aG.aO.length:Int)) (some false)<|cond (decide<|aG.bM<3) (cond (decide<|0<(aG.aP.length:Int)) (some false)<|G.jB.K1 n aG nH)<|G.jB.K1 n aG nH)<|cond (decide<|aG.bM<3) (cond (decide<|0<(aG.aP.length:Int)) (some false)<|G.jB.K1 n aG nH)<|G.jB.K1 n aG nH
end
def G.iI (f:Nat)(aG:aj):Option (Bool):=match f with
|0=>none
|n+1=>(G.jB n aG 5).bind λv1=>cond v1 ((G.nX n aG).bind λv2=>some<|(decide<|v2<=40))<|some false
def G.qJ (f:Nat)(aG:aj)(MH:Bool):Option (aj×Bool):=match f with
|0=>none
|n+1=>cond MH ((G.iI n aG).bind λv1=>cond v1 (some (aG,true))<|some ((aj.mk 0 0 [] [] []),false))<|some ((aj.mk 0 0 [] [] []),false)
def G.rG (f:Nat)(aG:aj)(vz:uN):Option (aj×Bool):=match f with
|0=>none
|n+1=>(G.lM n aG vz).bind λv1=>(G.qJ n v1.1 v1.2).bind λv2=>cond v2.2 ((G.cO n v2.1).bind λv3=>some (v3,true))<|some ((aj.mk 0 0 [] [] []),false)
def G.jX.L1 (f:Nat)(aV:List fC)(aJ:Int):Option (Bool):=match f with
|0=>none
|n+1=>cond (decide<|aJ<(aV.length:Int)) (chk (0<=aJ/\aJ<(aV.length:Int))<|(G.jd n<|aV.getD aJ.toNat default).bind λv3=>cond v3 (G.jX.L1 n aV<|af .i64<|aJ+1)<|some false)<|some<|(decide<|(aV.length:Int)<=5)
def G.jX (f:Nat)(aV:List fC):Option (Bool):=match f with
|0=>none
|n+1=>G.jX.L1 n aV 0
def G.vU (f:Nat)(vz:uN):Option (Bool):=match f with
|0=>none
|n+1=>(G.iP n vz.bM 1 6).bind λv1=>cond v1 ((G.jX n vz.uq).bind λv2=>cond v2 ((G.jX n vz.xH).bind λv3=>cond v3 ((G.iI n vz.Value).bind λv4=>some v4)<|some false)<|some false)<|some false
def G.iL.L1 (f:Nat)(aU:List uN)(aJ:Int):Option (Bool):=match f with
|0=>none
|n+1=>cond (decide<|aJ<(aU.length:Int)) (chk (0<=aJ/\aJ<(aU.length:Int))<|(G.vU n<|uN.mk ((aU.getD aJ.toNat default).bM) ((aU.getD aJ.toNat default).uq) ((aU.getD aJ.toNat default).xH)<|(aU.getD aJ.toNat default).Value).bind λv3=>cond v3 (G.iL.L1 n aU<|af .i64<|aJ+1)<|some false)<|some<|(decide<|(aU.length:Int)<=12)
def G.iL (f:Nat)(aU:List uN):Option (Bool):=match f with
|0=>none
|n+1=>G.iL.L1 n aU 0
def G.jH.L1 (f:Nat)(aU:List uN)(aJ:Int)(y6:Int)(y7:Int)(y8:fC)(y9:List fC)(Uy:List aj):Option (aj×Bool):=match f with
|0=>none
|n+1=>cond (decide<|aJ<(aU.length:Int)) (chk (0<=aJ/\aJ<(aU.length:Int))<|(G.rG n (aj.mk y6 y7 y8 y9 Uy)<|uN.mk ((aU.getD aJ.toNat default).bM) ((aU.getD aJ.toNat default).uq) ((aU.getD aJ.toNat default).xH)<|(aU.getD aJ.toNat default).Value).bind λv6=>cond v6.2 (G.jH.L1 n aU (af .i64<|aJ+1) v6.1.bM v6.1.wJ v6.1.lI v6.1.aO v6.1.aP)<|some ((aj.mk 0 0 [] [] []),false))<|some ((aj.mk y6 y7 y8 y9 Uy),true)
def G.jH (f:Nat)(aG:aj)(aU:List uN):Option (aj×Bool):=match f with
|0=>none
|n+1=>(G.iI n aG).bind λv1=>cond v1 ((G.iL n aU).bind λv2=>cond v2 ((G.cO n aG).bind λv3=>G.jH.L1 n aU 0 v3.bM v3.wJ v3.lI v3.aO v3.aP)<|some ((aj.mk 0 0 [] [] []),false))<|some ((aj.mk 0 0 [] [] []),false)
def G.pz (f:Nat)(JV:Int):Option (bP):=match f with
|0=>none
|n+1=>some<|(bP.mk JV [] 0<|aj.mk 0 0 [] [] [])
mutual
def G.jK.L2 (f:Nat)(fB:aj)(aJ:Int)(y11:Int)(y12:Int)(y13:fC)(y14:List fC)(y15:List aj):Option (aj):=match f with
|0=>none
|n+1=>cond (decide<|aJ<(fB.aP.length:Int)) (chk (0<=aJ/\aJ<(fB.aO.length:Int))<|(G.jL n (aj.mk y11 y12 y13 y14 y15)<|fB.aO.getD aJ.toNat default).bind λv19=>chk (0<=aJ/\aJ<(fB.aP.length:Int))<|cond ((fB.aP.getD aJ.toNat default).bM==0) (cond (decide<|0<=v19) ((G.kV n (aj.mk y11 y12 y13 y14 y15) [(fB.aO.getD aJ.toNat default)]).bind λv20=>G.jK.L2 n fB (af .i64<|aJ+1) v20.1.bM v20.1.wJ v20.1.lI v20.1.aO v20.1.aP)<|chk (0<=aJ/\aJ<(fB.aP.length:Int))<|cond ((fB.aP.getD aJ.toNat default).bM != 0) (chk (0<=aJ/\aJ<(fB.aP.length:Int))<|chk (0<=aJ/\aJ<(fB.aP.length:Int))<|(G.jK n (aj.mk 0 0 [] [] [])<|fB.aP.getD aJ.toNat default).bind λv21=>(G.rO n (aj.mk y11 y12 y13 y14 y15) (fB.aO.getD aJ.toNat default) v21).bind λv22=>G.jK.L2 n fB (af .i64<|aJ+1) v22.1.bM v22.1.wJ v22.1.lI v22.1.aO v22.1.aP)<|chk (0<=aJ/\aJ<(fB.aP.length:Int))<|G.jK.L2 n fB (af .i64<|aJ+1) y11 y12 y13 y14 y15)<|chk (0<=aJ/\aJ<(fB.aP.length:Int))<|cond ((fB.aP.getD aJ.toNat default).bM != 0) (cond (decide<|0<=v19) (chk (0<=v19/\v19<(y15.length:Int))<|chk (0<=aJ/\aJ<(fB.aP.length:Int))<|(G.jK n (y15.getD v19.toNat default)<|fB.aP.getD aJ.toNat default).bind λv23=>(G.pY n (aj.mk y11 y12 y13 y14 y15) v19 v23).bind λv24=>G.jK.L2 n fB (af .i64<|aJ+1) v24.bM v24.wJ v24.lI v24.aO v24.aP)<|chk (0<=aJ/\aJ<(fB.aP.length:Int))<|chk (0<=aJ/\aJ<(fB.aP.length:Int))<|(G.jK n (aj.mk 0 0 [] [] [])<|fB.aP.getD aJ.toNat default).bind λv25=>(G.rO n (aj.mk y11 y12 y13 y14 y15) (fB.aO.getD aJ.toNat default) v25).bind λv26=>G.jK.L2 n fB (af .i64<|aJ+1) v26.1.bM v26.1.wJ v26.1.lI v26.1.aO v26.1.aP)<|chk (0<=aJ/\aJ<(fB.aP.length:Int))<|G.jK.L2 n fB (af .i64<|aJ+1) y11 y12 y13 y14 y15)<|some<|aj.mk y11 y12 y13 y14 y15
def G.jK.K1 (f:Nat)(fB:aj)(y1:Int)(y2:Int)(y3:fC)(y4:List fC)(y5:List aj):Option (aj):=match f with
|0=>none
|n+1=>G.jK.L2 n fB 0 y1 y2 y3 y4 y5
def G.jK (f:Nat)(aG:aj)(fB:aj):Option (aj):=match f with
|0=>none
|n+1=>cond (fB.bM != 4) ((G.cO n fB).bind λv1=>some v1)<|cond (aG.bM==4) ((G.cO n aG).bind λv27=>G.jK.K1 n fB v27.bM v27.wJ v27.lI v27.aO v27.aP)<|G.jK.K1 n fB 4 0 [] [] []
end
def G.rF (f:Nat)(aG:aj)(fB:aj):Option (aj×Bool):=match f with
|0=>none
|n+1=>(G.iI n aG).bind λv1=>cond v1 ((G.iI n fB).bind λv2=>cond v2 ((G.jK n aG fB).bind λv3=>(G.qJ n v3 true).bind λv4=>some (v4.1,v4.2))<|some ((aj.mk 0 0 [] [] []),false))<|some ((aj.mk 0 0 [] [] []),false)
def G.nJ.L1 (f:Nat)(aU:List fC)(uh:fC)(aJ:Int):Option (Bool):=match f with
|0=>none
|n+1=>cond (decide<|aJ<(aU.length:Int)) (chk (0<=aJ/\aJ<(aU.length:Int))<|cond ((aU.getD aJ.toNat default)==uh) (some true)<|chk (0<=aJ/\aJ<(aU.length:Int))<|cond ((aU.getD aJ.toNat default)==[42]) (some true)<|G.nJ.L1 n aU uh<|af .i64<|aJ+1)<|some false
def G.nJ (f:Nat)(aU:List fC)(uh:fC):Option (Bool):=match f with
|0=>none
|n+1=>G.nJ.L1 n aU uh 0
def G.wV (f:Nat)(zZ:List fC)(vZ:List fC)(uh:fC)(yE:Bool):Option (Int):=match f with
|0=>none
|n+1=>cond (decide<|0<(zZ.length:Int)) (cond (uh==[]) (some 412)<|(G.nJ n zZ uh).bind λv1=>cond v1 (cond (decide<|0<(vZ.length:Int)) ((G.nJ n vZ uh).bind λv2=>cond v2 (cond yE (some 304)<|some 412)<|some 200)<|some 200)<|some 412)<|cond (decide<|0<(vZ.length:Int)) (cond (uh==[]) (some 200)<|(G.nJ n vZ uh).bind λv3=>cond v3 (cond yE (some 304)<|some 412)<|some 200)<|some 200
def G.fZ.L1 (f:Nat)(aZ:bU)(aJ:Int)(z2:List fA):Option (bU):=match f with
|0=>none
|n+1=>cond (decide<|aJ<(aZ.bH.length:Int)) (chk (0<=aJ/\aJ<(aZ.bH.length:Int))<|chk (0<=aJ/\aJ<(aZ.bH.length:Int))<|chk (0<=aJ/\aJ<(aZ.bH.length:Int))<|(G.cO n<|(aZ.bH.getD aJ.toNat default).pO).bind λv3=>chk ((z2.length+1)*112<=2^46)<|G.fZ.L1 n aZ (af .i64<|aJ+1)<|z2++[(fA.mk ((aZ.bH.getD aJ.toNat default).iC) ((aZ.bH.getD aJ.toNat default).mW) v3)])<|some<|bU.mk z2 aZ.kY
def G.fZ (f:Nat)(aZ:bU):Option (bU):=match f with
|0=>none
|n+1=>G.fZ.L1 n aZ 0 []
def G.sS.L1 (f:Nat)(aZ:bU)(fU:fC)(v1:bU)(aJ:Int)(z2:List fA):Option (bU):=match f with
|0=>none
|n+1=>cond (decide<|aJ<(v1.bH.length:Int)) (chk (0<=aJ/\aJ<(v1.bH.length:Int))<|cond ((v1.bH.getD aJ.toNat default).iC==fU) (G.sS.L1 n aZ fU v1 (af .i64<|aJ+1) z2)<|chk (0<=aJ/\aJ<(v1.bH.length:Int))<|chk ((z2.length+1)*112<=2^46)<|G.sS.L1 n aZ fU v1 (af .i64<|aJ+1)<|z2++[(fA.mk ((v1.bH.getD aJ.toNat default).iC) ((v1.bH.getD aJ.toNat default).mW)<|(v1.bH.getD aJ.toNat default).pO)])<|some<|(bU.mk z2<|af .i64<|aZ.kY+1)
def G.sS (f:Nat)(aZ:bU)(fU:fC):Option (bU):=match f with
|0=>none
|n+1=>(G.fZ n aZ).bind λv1=>G.sS.L1 n aZ fU v1 0 []
def G.pX.L1 (f:Nat)(aZ:bU)(fU:fC)(aJ:Int):Option (Int):=match f with
|0=>none
|n+1=>cond (decide<|aJ<(aZ.bH.length:Int)) (chk (0<=aJ/\aJ<(aZ.bH.length:Int))<|cond ((aZ.bH.getD aJ.toNat default).iC==fU) (some aJ)<|G.pX.L1 n aZ fU<|af .i64<|aJ+1)<|some (-1)
def G.pX (f:Nat)(aZ:bU)(fU:fC):Option (Int):=match f with
|0=>none
|n+1=>G.pX.L1 n aZ fU 0
def G.nY.L1 (f:Nat)(aZ:fC)(E8:fC)(aJ:Int):Option (fC):=match f with
|0=>none
|n+1=>cond (decide<|aJ<(aZ.length:Int)) (chk (0<=aJ/\aJ<(aZ.length:Int))<|cond (((aZ.getD aJ.toNat 0).toNat:Int)==34) (chk (E8.length+1<=maxLen)<|chk (0<=aJ/\aJ<=(af .i64<|aJ+1)/\(af .i64<|aJ+1)<=(aZ.length:Int))<|chk ((E8.length+1)+((aZ.take<|(af .i64<|aJ+1).toNat).drop aJ.toNat).length<=maxLen)<|G.nY.L1 n aZ ((E8++[92])++((aZ.take<|(af .i64<|aJ+1).toNat).drop aJ.toNat))<|af .i64<|aJ+1)<|chk (0<=aJ/\aJ<(aZ.length:Int))<|cond (((aZ.getD aJ.toNat 0).toNat:Int)==92) (chk (E8.length+1<=maxLen)<|chk (0<=aJ/\aJ<=(af .i64<|aJ+1)/\(af .i64<|aJ+1)<=(aZ.length:Int))<|chk ((E8.length+1)+((aZ.take<|(af .i64<|aJ+1).toNat).drop aJ.toNat).length<=maxLen)<|G.nY.L1 n aZ ((E8++[92])++((aZ.take<|(af .i64<|aJ+1).toNat).drop aJ.toNat))<|af .i64<|aJ+1)<|chk (0<=aJ/\aJ<=(af .i64<|aJ+1)/\(af .i64<|aJ+1)<=(aZ.length:Int))<|chk (E8.length+((aZ.take<|(af .i64<|aJ+1).toNat).drop aJ.toNat).length<=maxLen)<|G.nY.L1 n aZ (E8++((aZ.take<|(af .i64<|aJ+1).toNat).drop aJ.toNat))<|af .i64<|aJ+1)<|chk (E8.length+1<=maxLen)<|some<|E8++[34]
def G.nY (f:Nat)(aZ:fC):Option (fC):=match f with
|0=>none
|n+1=>G.nY.L1 n aZ [34] 0
mutual
def G.ig.K7 (f:Nat)(aG:aj)(aJ:Int)(ajR:fC):Option (fC):=match f with
|0=>none
|n+1=>chk (0<=aJ/\aJ<(aG.aP.length:Int))<|(G.ig n<|aG.aP.getD aJ.toNat default).bind λv10=>chk (ajR.length+v10.length<=maxLen)<|G.ig.L5 n aG (ajR++v10)<|af .i64<|aJ+1
def G.ig.K6 (f:Nat)(aG:aj)(aJ:Int)(ZI:fC):Option (fC):=match f with
|0=>none
|n+1=>cond (aG.bM==4) (chk (0<=aJ/\aJ<(aG.aO.length:Int))<|(G.nY n<|aG.aO.getD aJ.toNat default).bind λv11=>chk (ZI.length+v11.length<=maxLen)<|chk ((ZI.length+v11.length)+1<=maxLen)<|G.ig.K7 n aG aJ<|(ZI++v11)++[58])<|G.ig.K7 n aG aJ ZI
def G.ig.L5 (f:Nat)(aG:aj)(LG:fC)(aJ:Int):Option (fC):=match f with
|0=>none
|n+1=>cond (decide<|aJ<(aG.aP.length:Int)) (cond (decide<|0<aJ) (chk (LG.length+1<=maxLen)<|G.ig.K6 n aG aJ<|LG++[44])<|G.ig.K6 n aG aJ LG)<|cond (aG.bM==4) (chk (1+LG.length<=maxLen)<|chk ((1+LG.length)+1<=maxLen)<|some<|(([123]++LG)++[125]))<|chk (1+LG.length<=maxLen)<|chk ((1+LG.length)+1<=maxLen)<|some<|(([91]++LG)++[93])
def G.ig (f:Nat)(aG:aj):Option (fC):=match f with
|0=>none
|n+1=>cond (aG.bM==1) ((G.lY n aG.wJ).bind λv1=>some v1)<|cond (aG.bM==2) ((G.nY n aG.lI).bind λv2=>some v2)<|cond (aG.bM==0) (some<|[110,117,108,108])<|G.ig.L5 n aG [] 0
end
def G.Bj (f:Nat)(aG:Int):Option (fC):=match f with
|0=>none
|n+1=>chk (0<=(af .i64<|mJ aG 4096)/\(af .i64<|mJ aG 4096)<((16:Nat):Int))<|chk (0<=(lC (af .i64<|mJ aG 256) 16)/\(lC (af .i64<|mJ aG 256) 16)<((16:Nat):Int))<|chk (0<=(lC (af .i64<|mJ aG 16) 16)/\(lC (af .i64<|mJ aG 16) 16)<((16:Nat):Int))<|chk (0<=(lC aG 16)/\(lC aG 16)<((16:Nat):Int))<|chk (4<=maxLen)<|some<|[gy ((([48,49,50,51,52,53,54,55,56,57,97,98,99,100,101,102]:fC).getD (af .i64<|mJ aG 4096).toNat 0).toNat),gy ((([48,49,50,51,52,53,54,55,56,57,97,98,99,100,101,102]:fC).getD (lC (af .i64<|mJ aG 256) 16).toNat 0).toNat),gy ((([48,49,50,51,52,53,54,55,56,57,97,98,99,100,101,102]:fC).getD (lC (af .i64<|mJ aG 16) 16).toNat 0).toNat),gy ((([48,49,50,51,52,53,54,55,56,57,97,98,99,100,101,102]:fC).getD (lC aG 16).toNat 0).toNat)]
def G.rH.L1 (f:Nat)(aZ:fC)(ao6:Int)(aJ:Int):Option (Int):=match f with
|0=>none
|n+1=>cond (decide<|aJ<(aZ.length:Int)) (chk (0<=aJ/\aJ<(aZ.length:Int))<|G.rH.L1 n aZ (lC (af .i64<|(af .i64<|131*ao6)+(af .i64<|((aZ.getD aJ.toNat 0).toNat:Int))) 65521)<|af .i64<|aJ+1)<|some ao6
def G.rH (f:Nat)(aZ:fC):Option (Int):=match f with
|0=>none
|n+1=>G.rH.L1 n aZ 17 0
def G.uD (f:Nat)(aZ:bU)(fU:fC):Option (fC):=match f with
|0=>none
|n+1=>(G.pX n aZ fU).bind λv1=>cond (decide<|v1<0) (some<|[])<|chk (0<=v1/\v1<(aZ.bH.length:Int))<|(G.ig n<|(aZ.bH.getD v1.toNat default).pO).bind λv2=>(G.rH n v2).bind λv3=>(G.Bj n v3).bind λv4=>some v4
mutual
def G.mP.K4 (f:Nat)(aZ:bU)(fU:fC)(v1:aj)(v2:bU)(aJ:Int)(ae6:Bool)(z5:List fA):Option (bU):=match f with
|0=>none
|n+1=>chk (0<=aJ/\aJ<(v2.bH.length:Int))<|cond ((v2.bH.getD aJ.toNat default).iC==fU) (G.mP.L3 n aZ fU v1 v2 ae6 (af .i64<|aJ+1) z5)<|chk (0<=aJ/\aJ<(v2.bH.length:Int))<|chk ((z5.length+1)*112<=2^46)<|G.mP.L3 n aZ fU v1 v2 ae6 (af .i64<|aJ+1)<|z5++[(fA.mk ((v2.bH.getD aJ.toNat default).iC) ((v2.bH.getD aJ.toNat default).mW)<|(v2.bH.getD aJ.toNat default).pO)]
def G.mP.L3 (f:Nat)(aZ:bU)(fU:fC)(v1:aj)(v2:bU)(ae5:Bool)(aJ:Int)(z4:List fA):Option (bU):=match f with
|0=>none
|n+1=>cond (decide<|aJ<(v2.bH.length:Int)) (cond ae5 (G.mP.K4 n aZ fU v1 v2 aJ true z4)<|chk (0<=aJ/\aJ<(v2.bH.length:Int))<|cond (iT ((v2.bH.getD aJ.toNat default).iC) fU) (G.mP.K4 n aZ fU v1 v2 aJ false z4)<|chk ((z4.length+1)*112<=2^46)<|G.mP.K4 n aZ fU v1 v2 aJ true<|z4++[(fA.mk fU (af .i64<|aZ.kY+1) v1)])<|cond ae5 (some<|(bU.mk z4<|af .i64<|aZ.kY+1))<|chk ((z4.length+1)*112<=2^46)<|some<|(bU.mk (z4++[(fA.mk fU (af .i64<|aZ.kY+1) v1)])<|af .i64<|aZ.kY+1)
end
def G.mP (f:Nat)(aZ:bU)(fU:fC)(aG:aj):Option (bU):=match f with
|0=>none
|n+1=>(G.cO n aG).bind λv1=>(G.fZ n aZ).bind λv2=>G.mP.L3 n aZ fU v1 v2 false 0 []
def G.jC.L1 (f:Nat)(aZ:fC)(aJ:Int):Option (Bool):=match f with
|0=>none
|n+1=>cond (decide<|aJ<(aZ.length:Int)) (chk (0<=aJ/\aJ<(aZ.length:Int))<|(G.iP n (af .i64<|((aZ.getD aJ.toNat 0).toNat:Int)) 97 122).bind λv5=>cond v5 (G.jC.L1 n aZ<|af .i64<|aJ+1)<|chk (0<=aJ/\aJ<(aZ.length:Int))<|(G.iP n (af .i64<|((aZ.getD aJ.toNat 0).toNat:Int)) 48 57).bind λv6=>cond v6 (G.jC.L1 n aZ<|af .i64<|aJ+1)<|some false)<|(G.iP n (aZ.length:Int) 1 8).bind λv7=>some v7
def G.jC (f:Nat)(aZ:fC):Option (Bool):=match f with
|0=>none
|n+1=>G.jC.L1 n aZ 0
def G.gX.L1 (f:Nat)(aZ:bU)(aJ:Int):Option (Bool):=match f with
|0=>none
|n+1=>cond (decide<|aJ<(aZ.bH.length:Int)) (chk (0<=aJ/\aJ<(aZ.bH.length:Int))<|(G.jC n<|(aZ.bH.getD aJ.toNat default).iC).bind λv7=>cond v7 ((G.iI n<|(aZ.bH.getD aJ.toNat default).pO).bind λv8=>cond v8 ((G.iP n ((aZ.bH.getD aJ.toNat default).mW) 1 aZ.kY).bind λv9=>cond v9 (cond (decide<|0<aJ) (chk (0<=(af .i64<|aJ-1)/\(af .i64<|aJ-1)<(aZ.bH.length:Int))<|cond (iT ((aZ.bH.getD aJ.toNat default).iC)<|(aZ.bH.getD (af .i64<|aJ-1).toNat default).iC) (some false)<|cond ((aZ.bH.getD aJ.toNat default).iC==(aZ.bH.getD (af .i64<|aJ-1).toNat default).iC) (some false)<|G.gX.L1 n aZ<|af .i64<|aJ+1)<|G.gX.L1 n aZ<|af .i64<|aJ+1)<|some false)<|some false)<|some false)<|cond (decide<|(aZ.bH.length:Int)<=10) ((G.iP n aZ.kY 0 999).bind λv10=>some v10)<|some false
def G.gX (f:Nat)(aZ:bU):Option (Bool):=match f with
|0=>none
|n+1=>G.gX.L1 n aZ 0
def G.mG.K1 (f:Nat)(aZ:bU)(fU:fC)(aG:aj)(ag3:Int):Option (bU×bP):=match f with
|0=>none
|n+1=>(G.mP n aZ fU aG).bind λv2=>(G.gX n v2).bind λv3=>cond v3 ((G.uD n v2 fU).bind λv4=>some (v2,(bP.mk ag3 v4 v2.kY<|aj.mk 0 0 [] [] [])))<|(G.fZ n aZ).bind λv5=>(G.pz n 422).bind λv6=>some (v5,v6)
def G.mG (f:Nat)(aZ:bU)(fU:fC)(aG:aj):Option (bU×bP):=match f with
|0=>none
|n+1=>(G.pX n aZ fU).bind λv7=>cond (decide<|v7<0) (G.mG.K1 n aZ fU aG 201)<|G.mG.K1 n aZ fU aG 200
def G.kR.K1 (f:Nat)(aZ:bU)(nI:bn)(ajQ:Bool)(y1:Int)(y2:Int)(y3:fC)(y4:List fC)(y5:List aj):Option (bU×bP):=match f with
|0=>none
|n+1=>cond ajQ ((G.mG n aZ nI.iC<|aj.mk y1 y2 y3 y4 y5).bind λv17=>some (v17.1,v17.2))<|(G.fZ n aZ).bind λv18=>(G.pz n 422).bind λv19=>some (v18,v19)
def G.kR.K2 (f:Nat)(aZ:bU)(nI:bn)(ao7:Bool)(y6:Int)(y7:Int)(y8:fC)(y9:List fC)(Uy:List aj):Option (bU×bP):=match f with
|0=>none
|n+1=>cond ao7 ((G.mG n aZ nI.iC<|aj.mk y6 y7 y8 y9 Uy).bind λv34=>some (v34.1,v34.2))<|(G.fZ n aZ).bind λv35=>(G.pz n 422).bind λv36=>some (v35,v36)
def G.kR (f:Nat)(aZ:bU)(nI:bn):Option (bU×bP):=match f with
|0=>none
|n+1=>(G.pX n aZ nI.iC).bind λv1=>cond (decide<|v1<0) (cond (nI.kP != 2) ((G.fZ n aZ).bind λv2=>(G.pz n 404).bind λv3=>some (v2,v3))<|(G.uD n aZ nI.iC).bind λv4=>(G.wV n nI.yK nI.uM v4<|nI.kP==1).bind λv5=>cond (v5 != 200) ((G.fZ n aZ).bind λv6=>(G.pz n v5).bind λv7=>some (v6,v7))<|cond (nI.kP==1) ((G.fZ n aZ).bind λv8=>(G.uD n aZ nI.iC).bind λv9=>chk (0<=v1/\v1<(aZ.bH.length:Int))<|chk (0<=v1/\v1<(aZ.bH.length:Int))<|(G.cO n<|(aZ.bH.getD v1.toNat default).pO).bind λv10=>some (v8,(bP.mk v5 v9 ((aZ.bH.getD v1.toNat default).mW) v10)))<|cond (nI.kP==2) ((G.mG n aZ nI.iC nI.Body).bind λv11=>some (v11.1,v11.2))<|cond (nI.kP==3) (cond (aZ.kY==999) ((G.fZ n aZ).bind λv12=>(G.pz n 422).bind λv13=>some (v12,v13))<|(G.sS n aZ nI.iC).bind λv14=>some (v14,(bP.mk v5 [] (af .i64<|aZ.kY+1)<|aj.mk 0 0 [] [] [])))<|chk (0<=v1/\v1<(aZ.bH.length:Int))<|(G.jH n ((aZ.bH.getD v1.toNat default).pO) nI.Me).bind λv15=>cond (nI.kP==5) (chk (0<=v1/\v1<(aZ.bH.length:Int))<|(G.rF n ((aZ.bH.getD v1.toNat default).pO) nI.Body).bind λv20=>G.kR.K1 n aZ nI v20.2 v20.1.bM v20.1.wJ v20.1.lI v20.1.aO v20.1.aP)<|G.kR.K1 n aZ nI v15.2 v15.1.bM v15.1.wJ v15.1.lI v15.1.aO v15.1.aP)<|(G.uD n aZ nI.iC).bind λv21=>(G.wV n nI.yK nI.uM v21<|nI.kP==1).bind λv22=>cond (v22 != 200) ((G.fZ n aZ).bind λv23=>(G.pz n v22).bind λv24=>some (v23,v24))<|cond (nI.kP==1) ((G.fZ n aZ).bind λv25=>(G.uD n aZ nI.iC).bind λv26=>chk (0<=v1/\v1<(aZ.bH.length:Int))<|chk (0<=v1/\v1<(aZ.bH.length:Int))<|(G.cO n<|(aZ.bH.getD v1.toNat default).pO).bind λv27=>some (v25,(bP.mk v22 v26 ((aZ.bH.getD v1.toNat default).mW) v27)))<|cond (nI.kP==2) ((G.mG n aZ nI.iC nI.Body).bind λv28=>some (v28.1,v28.2))<|cond (nI.kP==3) (cond (aZ.kY==999) ((G.fZ n aZ).bind λv29=>(G.pz n 422).bind λv30=>some (v29,v30))<|(G.sS n aZ nI.iC).bind λv31=>some (v31,(bP.mk v22 [] (af .i64<|aZ.kY+1)<|aj.mk 0 0 [] [] [])))<|chk (0<=v1/\v1<(aZ.bH.length:Int))<|(G.jH n ((aZ.bH.getD v1.toNat default).pO) nI.Me).bind λv32=>cond (nI.kP==5) (chk (0<=v1/\v1<(aZ.bH.length:Int))<|(G.rF n ((aZ.bH.getD v1.toNat default).pO) nI.Body).bind λv37=>G.kR.K2 n aZ nI v37.2 v37.1.bM v37.1.wJ v37.1.lI v37.1.aO v37.1.aP)<|G.kR.K2 n aZ nI v32.2 v32.1.bM v32.1.wJ v32.1.lI v32.1.aO v32.1.aP
def G.lS.L1 (f:Nat)(aZ:fC)(aJ:Int):Option (Bool):=match f with
|0=>none
|n+1=>cond (decide<|aJ<(aZ.length:Int)) (chk (0<=aJ/\aJ<(aZ.length:Int))<|(G.iP n (af .i64<|((aZ.getD aJ.toNat 0).toNat:Int)) 48 57).bind λv5=>cond v5 (G.lS.L1 n aZ<|af .i64<|aJ+1)<|chk (0<=aJ/\aJ<(aZ.length:Int))<|(G.iP n (af .i64<|((aZ.getD aJ.toNat 0).toNat:Int)) 97 102).bind λv6=>cond v6 (G.lS.L1 n aZ<|af .i64<|aJ+1)<|some false)<|some<|((aZ.length:Int)==4)
def G.lS (f:Nat)(aZ:fC):Option (Bool):=match f with
|0=>none
|n+1=>G.lS.L1 n aZ 0
def G.kH.L1 (f:Nat)(aU:List fC)(aJ:Int):Option (Bool):=match f with
|0=>none
|n+1=>cond (decide<|aJ<(aU.length:Int)) (chk (0<=aJ/\aJ<(aU.length:Int))<|cond ((aU.getD aJ.toNat default)==[42]) (G.kH.L1 n aU<|af .i64<|aJ+1)<|chk (0<=aJ/\aJ<(aU.length:Int))<|(G.lS n<|aU.getD aJ.toNat default).bind λv3=>cond v3 (G.kH.L1 n aU<|af .i64<|aJ+1)<|some false)<|some<|(decide<|(aU.length:Int)<=4)
def G.kH (f:Nat)(aU:List fC):Option (Bool):=match f with
|0=>none
|n+1=>G.kH.L1 n aU 0
def G.oL (f:Nat)(nI:bn):Option (Bool):=match f with
|0=>none
|n+1=>(G.iP n nI.kP 1 5).bind λv1=>cond v1 ((G.jC n nI.iC).bind λv2=>cond v2 ((G.kH n nI.yK).bind λv3=>cond v3 ((G.kH n nI.uM).bind λv4=>cond v4 ((G.iI n nI.Body).bind λv5=>cond v5 ((G.iL n nI.Me).bind λv6=>some v6)<|some false)<|some false)<|some false)<|some false)<|some false
def G.jo.L1 (f:Nat)(aU:List bn)(aJ:Int):Option (Bool):=match f with
|0=>none
|n+1=>cond (decide<|aJ<(aU.length:Int)) (chk (0<=aJ/\aJ<(aU.length:Int))<|(G.oL n<|bn.mk ((aU.getD aJ.toNat default).kP) ((aU.getD aJ.toNat default).iC) ((aU.getD aJ.toNat default).yK) ((aU.getD aJ.toNat default).uM) ((aU.getD aJ.toNat default).Body)<|(aU.getD aJ.toNat default).Me).bind λv3=>cond v3 (G.jo.L1 n aU<|af .i64<|aJ+1)<|some false)<|some<|(decide<|(aU.length:Int)<=8)
def G.jo (f:Nat)(aU:List bn):Option (Bool):=match f with
|0=>none
|n+1=>G.jo.L1 n aU 0
def G.iQ.L1 (f:Nat)(aU:List bn)(aJ:Int)(z2:List bP)(y3:List fA)(y4:Int):Option (bU×List bP):=match f with
|0=>none
|n+1=>cond (decide<|aJ<(aU.length:Int)) (chk (0<=aJ/\aJ<(aU.length:Int))<|(G.kR n (bU.mk y3 y4)<|bn.mk ((aU.getD aJ.toNat default).kP) ((aU.getD aJ.toNat default).iC) ((aU.getD aJ.toNat default).yK) ((aU.getD aJ.toNat default).uM) ((aU.getD aJ.toNat default).Body)<|(aU.getD aJ.toNat default).Me).bind λv6=>chk ((z2.length+1)*121<=2^46)<|G.iQ.L1 n aU (af .i64<|aJ+1) (z2++[v6.2]) v6.1.bH v6.1.kY)<|some ((bU.mk y3 y4),z2)
def G.iQ (f:Nat)(aZ:bU)(aU:List bn):Option (bU×List bP):=match f with
|0=>none
|n+1=>(G.gX n aZ).bind λv1=>cond v1 ((G.jo n aU).bind λv2=>cond v2 ((G.fZ n aZ).bind λv3=>G.iQ.L1 n aU 0 [] v3.bH v3.kY)<|some ((bU.mk [] 0),[]))<|some ((bU.mk [] 0),[])
section
theorem bY {a b:Prop}(x:a)(y:b):a/\b:=⟨x,y⟩
theorem aiO {α β:Type}(f:α->β)(l:List α)(n:Nat):List.take n (List.map f l)=List.map f (List.take n l):=List.map_take.symm
theorem aiN {α β:Type}(f:α->β)(l:List α)(n:Nat):List.drop n (List.map f l)=List.map f (List.drop n l):=List.map_drop.symm
theorem kq1 {i:Int}{m:Nat}[inst:Decidable (0<=i/\i<(m:Int))]{α:Type}{k:Option α}{r:α}(h:chk (0<=i/\i<(m:Int)) k=some r):(0<=i/\i<(m:Int))/\i.toNat<m/\k=some r:=by obtain⟨h1,h2⟩:=En.1 h;exact⟨h1,by omega,h2⟩
inductive Mk : Nat->Prop
 |mk (n:Nat):Mk n
theorem kq0 {m:Nat}[inst:Decidable ((0:Nat)<=0/\(0:Int)<(m:Int))]{α:Type}{k:Option α}{r:α}(h:chk ((0:Nat)<=0/\(0:Int)<(m:Int)) k=some r):(0:Int)<(m:Int)/\0<m/\k=some r:=by obtain⟨h1,h2⟩:=En.1 h;exact⟨h1.2,by omega,h2⟩
theorem kqn {j m:Nat}[inst:Decidable ((0:Nat)<=OfNat.ofNat j/\(OfNat.ofNat j:Int)<(m:Int))]{α:Type}{k:Option α}{r:α}(h:chk ((0:Nat)<=OfNat.ofNat j/\(OfNat.ofNat j:Int)<(m:Int)) k=some r):(OfNat.ofNat j:Int)<(m:Int)/\(OfNat.ofNat j:Nat)<m/\k=some r:=by obtain⟨h1,h2⟩:=En.1 h;exact⟨h1.2,Int.ofNat_lt.1 h1.2,h2⟩
theorem kq {c:Prop}[Decidable c]{α:Type}{k:Option α}{r:α}(h:chk c k=some r):c/\k=some r:=En.1 h
theorem bq {α β:Type}{x:Option α}{f:α->Option β}{r:β}(h:Option.bind x f=some r):∃a,x=some a/\f a=some r:=Option.bind_eq_some_iff.1 h
section
variable {P:Program} {Q:AQ} {st:gZ}
theorem ac7 {f:FuncId}{xk:List AV}{p:Bool}{d:Option Nat}{K:List Nat->List Nat->gZ->Prop}{du:DU K}(k:xI P f xk p d st K du):xI P f xk p d st K du:=k
theorem aip {a:AQ->gZ->Prop}{d1:DU a}{d2:DU Q}(k:KO a Q st d1 d2):KO a Q st d1 d2:=k
theorem alP {a b:AQ->gZ->Prop}{d1:DU a}{d2:DU b}{d3:DU Q}(k:PY a b Q st d1 d2 d3):PY a b Q st d1 d2 d3:=k
theorem aor {X:Type}{p:X->Prop}(k:∃x,p x):∃x,p x:=k
theorem alQ {rs:List yZ}{r:AV}(k:Ua rs r st):Ua rs r st:=k
theorem air {rs:List yZ}{m:Nat}{post:AV->List Box->Prop}(k:LK rs m post st):LK rs m post st:=k
end
theorem sq {α:Type}{x r:α}(h:some x=some r):r=x:=(Option.some.inj h).symm
theorem cq {b:Bool}{α:Type}{x y:Option α}{r:α}(h:cond b x y=some r):(b=true/\x=some r)\/(b=false/\y=some r):=afE.1 h
def egD :=bY @agZ (bY @ajL (bY @agY (bY @ajN (bY @ajK (bY @agX (bY @adS (bY @agW (bY @ajM (bY @agV (bY @akw (bY @akv (bY @afg (bY @aff (bY @afh (bY @afd (bY @afc (bY @afe (bY @ab2 (bY @ab1 (bY @ab3 (bY @akd (bY @ake (bY @akb (bY @akc (bY @adV (bY @abN (bY @ajP (bY @ag2 (bY @al7 (bY @anM (bY @anL (bY @al9 (bY @akh (bY @aho (bY @afk (bY @ahn (bY @PG.eq_1 (bY @PG.eq_2 (bY @FO.eq_1 (bY @FO.eq_2 (bY @st0.eq_1 (bY @EJ.eq_1 (bY @EJ.eq_2 (bY @uV.eq_1 (bY @uV.eq_2 (bY @nR.valid.eq_1 (bY @nR.valid.eq_2 (bY @fK.eq_1 (bY @aps (bY @apr (bY @g_v (bY @x_v (bY @Kz (bY @Ff (bY @amZ (bY @ak1 (bY @ak0 (bY @BR.eq_1 (bY @BR.eq_2 (bY @uP.eq_1 (bY @uP.eq_2 (bY @aaO.eq_1 (bY @aaO.eq_2 (bY @setB.eq_1 (bY @setB.eq_2 (bY @agt (bY @agu (bY @agI (bY @adG (bY @FR.ok.eq_1 (bY @Ub.eq_1 (bY @Ub.eq_2 (bY @Ub.eq_3 (bY @AV.flat.eq_1 (bY @AV.flat.eq_2 (bY @AV.cells.eq_1 (bY @AV.cells.eq_2 (bY @AV.cells.eq_3 (bY @BC.eq_1 (bY @BC.eq_2 (bY @BC.eq_3 (bY @BC.eq_4 (bY @Zg.eq_1 (bY @Vu.eq_1 (bY @Vu.eq_2 (bY @splice.eq_1 (bY @Box.arr.eq_1 (bY @Box.arr.eq_2 (bY @Box.arr.eq_3 (bY @dataOf.eq_1 (bY @dataOf.eq_2 (bY @dataOf.eq_3 (bY @dataOf.eq_4 (bY @LV.eq_1 (bY @LV.eq_2 (bY @bnd.eq_1 (bY @bnd.eq_2 (bY @TQ.eq_1 (bY @TQ.eq_2 (bY @aiG (bY @aiF (bY @LD.eq_1 (bY @yG.eq_1 (bY @xW.eq_1 (bY @vSl.eq_1 (bY @Et.eq_1 (bY @Et.eq_2 (bY @Et.eq_3 (bY @HY.eq_1 (bY @HY.eq_2 (bY @HY.eq_3 (bY @AU.eq_1 (bY @AU.eq_2 (bY @AU.eq_3 (bY @BA.eq_1 (bY @BA.eq_2 (bY @BA.eq_3 (bY @AV.owns.eq_1 (bY @AV.owns.eq_2 (bY @AV.owns.eq_3 (bY @qH.eq_1 (bY @qH.eq_2 (bY @qH.eq_3 (bY @AC.zh.eq_1 (bY @AC.zh.eq_2 (bY @AC.zh.eq_3 (bY @AC.isLit.eq_1 (bY @AC.isLit.eq_2 (bY @AV.all.eq_1 (bY @AV.all.eq_2 (bY @AV.all.eq_3 (bY @Cell.isLit.eq_1 (bY @Cell.isLit.eq_2 (bY @List.mem_cons.{0} (bY @List.not_mem_nil.{0} (bY @or_false (bY @false_or (bY @or_true (bY @true_or (bY @forall_eq.{1} (bY @forall_eq_or_imp.{1} (bY @true_and (bY @and_true (bY @true_implies (bY @false_implies (bY @implies_true.{1} (bY @if_true.{1} (bY @if_false.{1} (bY @Bool.false_eq_true (bY @Bool.true_eq_false (bY @imp_self (bY @and_self (bY @cond_true.{1} (bY @cond_false.{1} (bY @List.map_cons.{0,0} (bY @List.map_nil.{0,0} (bY @List.take_succ_cons.{0} (bY @List.take_zero.{0} (bY @List.drop_succ_cons.{0} (bY @List.drop_zero.{0} (bY @List.take_nil.{0} (bY @List.drop_nil.{0} (bY @List.cons_append.{0} (bY @List.nil_append.{0} (bY @List.append_nil.{0} (bY @List.length_cons.{0} (bY @List.length_nil.{0} (bY @List.getElem?_cons_zero.{0} (bY @List.getElem?_cons_succ.{0} (bY @List.length_map.{0,0} (bY @List.length_replicate.{0} (bY @List.length_append.{0} (bY @List.map_append.{0,0} (bY @List.flatMap_cons.{0,0} (bY @List.flatMap_nil.{0,0} (bY @List.all_cons.{0} (bY @List.all_nil.{0} (bY @List.contains_cons.{0} (bY @List.contains_nil.{0} (bY @Bool.and_true (bY @Bool.or_false (bY @Bool.false_or (bY @Bool.true_or (bY @Bool.or_true (bY @Bool.and_self (bY @Bool.not_false (bY @Bool.not_true (bY @Bool.true_and (bY @Bool.false_and (bY @Bool.and_false (bY @Nat.zero_lt_succ (bY @Nat.zero_le (bY @Nat.zero_add (bY @Nat.le_refl (bY @Nat.min_self (bY @apl (bY @apk (bY @decide_true (bY @decide_false (bY @aae.eq_1 (bY @aae.eq_2 (bY @Zw.eq_1 (bY @Zw.eq_2 (bY @WX.eq_1 (bY @WX.eq_2 (bY @WX.eq_3 (bY @Qe.eq_1 (bY @Qe.eq_2 (bY @Lc.eq_1 (bY @Lc.eq_2 (bY @Qp.eq_1 (bY @Qp.eq_2 (bY @Zc.eq_1 (bY @FN.eq_1 (bY @FN.eq_2 (bY @FN.eq_3 (bY @cI.eq_1 (bY @cU.eq_1 (bY @cB.eq_1 (bY @cS.eq_1 (bY @cL.eq_1 (bY @cK.eq_1 (bY @aj.iG (bY @uN.iG (bY @bU.iG (bY @fA.iG (bY @bn.iG (bY @bP.iG (bY @List.getD_cons_zero.{0} (bY @List.getD_cons_succ.{0} (bY @List.map_set.{0,0} (bY @List.length_set.{0} (bY @afS (bY @take_len (bY @Om (bY @Oo (bY @aeH (bY @VB.eq_1 (bY @VB.eq_2 (bY @ahY (bY @JF.eq_1 (bY @JF.eq_2 (bY @aco (bY @Hl (bY @aai (bY @aaj (bY @Option.map_some.{0,0} (bY @Int.toNat_natCast (bY @Int.toNat_zero (bY @aiO (bY @aiN (bY @bne_self_eq_false.{0} (bY @Bool.bne_true (bY @Bool.bne_false (bY @List.drop_replicate.{0} (bY @Nat.sub_self (bY @JE.eq_1 (bY @JE.eq_2 (bY @JE.eq_3 (bY @Option.toList_none.{0} (bY @Option.toList_some.{0} (bY @YR.eq_1 (bY @xh.eq_1 (bY @xh.eq_2 (bY @CU.eq_1 (bY @CU.eq_2 (bY @eq_self.{1} (bY @List.replicate_zero.{0} (bY @List.replicate_succ.{0} (bY @Qk.eq_1 (bY @Qk.eq_2 (bY @Bi.eq_1 (bY @Bi.eq_2 (bY @List.set_cons_zero.{0} (bY @List.set_cons_succ.{0} (bY @amm (bY @EY.eq_1 (bY @EY.eq_2 (bY @Fz.eq_1 (bY @Fz.eq_2 (bY @Fz.eq_3 (bY @List.zip_cons_cons.{0,0} (bY @List.zip_nil_right.{0,0} (bY @List.zip_nil_left.{0,0} (bY @beq_self_eq_true.{0} @Nat.add_zero)))))))))))))))))))))))))))))))))))))))))))))))))))))))))))))))))))))))))))))))))))))))))))))))))))))))))))))))))))))))))))))))))))))))))))))))))))))))))))))))))))))))))))))))))))))))))))))))))))))))))))))))))))))))))))))))))))))))))))))))))))))))))))))))))))))))))))))))))))))))))))))
theorem egR : type_of% egD:=egD
def wkD :=bY @WM.eq_1 (bY @WM.eq_2 (bY @abL.eq_1 (bY @abL.eq_2 (bY @Xm.eq_1 (bY @Xm.eq_2 (bY @Xm.eq_3 (bY @wkV.eq_1 (bY @wkV.eq_2 (bY @wkV.eq_3 (bY @wkV.eq_4 (bY @PM.eq_1 (bY @PM.eq_2 (bY @PM.eq_3 (bY @WT.eq_1 (bY @WT.eq_2 (bY @BR.eq_1 (bY @BR.eq_2 (bY @uP.eq_1 (bY @uP.eq_2 (bY @true_and (bY @and_true (bY @implies_true.{1} (bY @List.mem_cons.{0} (bY @List.not_mem_nil.{0} (bY @or_false (bY @or_true (bY @true_or (bY @Box.arr.eq_1 (bY @Box.arr.eq_2 (bY @Box.arr.eq_3 (bY @LD.eq_1 (bY @yG.eq_1 (bY @xW.eq_1 (bY @vSl.eq_1 (bY @not_false_eq_true (bY @false_or (bY @Option.some.injEq.{0} (bY @true_implies (bY @cI.eq_1 (bY @cU.eq_1 (bY @cB.eq_1 (bY @cS.eq_1 (bY @cL.eq_1 (bY @cK.eq_1 (bY @aj.iG (bY @uN.iG (bY @bU.iG (bY @fA.iG (bY @bn.iG (bY @bP.iG (bY @List.map_append.{0,0} (bY @List.map_cons.{0,0} (bY @List.map_nil.{0,0} (bY @List.map_set.{0,0} (bY @List.map_take.{0,0} (bY @List.map_drop.{0,0} (bY @List.map_replicate.{0,0} (bY @List.length_append.{0} (bY @List.length_cons.{0} (bY @List.length_nil.{0} (bY @List.length_map.{0,0} (bY @List.length_set.{0} (bY @List.length_replicate.{0} (bY @Nat.zero_add (bY @Nat.add_zero (bY @List.nil_append.{0} (bY @List.cons_append.{0} (bY @List.append_nil.{0} (bY @take_len (bY @Om (bY @Oo @and_self)))))))))))))))))))))))))))))))))))))))))))))))))))))))))))))))))))))))
theorem wkR : type_of% wkD:=wkD
def peD :=bY @Ua.eq_1 (bY @Jc.eq_1 (bY @Jc.eq_2 (bY @yZ.ok.eq_1 (bY @yZ.ok.eq_2 (bY @yZ.val.eq_1 (bY @yZ.val.eq_2 (bY @Xe.eq_1 (bY @Xe.eq_2 (bY @BI.eq_1 (bY @BI.eq_2 (bY @partOf.eq_1 (bY @partOf.eq_2 (bY @partOf.eq_3 (bY @Kz (bY @Ff (bY @Pq (bY @g_v (bY @x_v (bY @AV.flat.eq_1 (bY @AV.flat.eq_2 (bY @BC.eq_1 (bY @BC.eq_2 (bY @BC.eq_3 (bY @BC.eq_4 (bY @BR.eq_1 (bY @BR.eq_2 (bY @uP.eq_1 (bY @uP.eq_2 (bY @dV.eq_1 (bY @dV.eq_2 (bY @dV.eq_3 (bY @dV.eq_4 (bY @dC.eq_1 (bY @dC.eq_2 (bY @dC.eq_3 (bY @dC.eq_4 (bY @dCs.eq_1 (bY @dCs.eq_2 (bY @dCs.eq_3 (bY @dPs.eq_1 (bY @dPs.eq_2 (bY @dPs.eq_3 (bY @Box.arr.eq_1 (bY @Box.arr.eq_2 (bY @Box.arr.eq_3 (bY @List.take_succ_cons.{0} (bY @List.take_zero.{0} (bY @List.drop_zero.{0} (bY @List.drop_succ_cons.{0} (bY @List.length_cons.{0} (bY @List.length_nil.{0} (bY @List.getElem?_cons_zero.{0} (bY @List.getElem?_cons_succ.{0} (bY @true_and (bY @and_true (bY @Nat.zero_add (bY @yG.eq_1 (bY @xW.eq_1 (bY @LD.eq_1 (bY @vSl.eq_1 (bY @FR.ok.eq_1 (bY @cI.eq_1 (bY @cU.eq_1 (bY @cB.eq_1 (bY @cS.eq_1 (bY @cL.eq_1 (bY @cK.eq_1 (bY @aj.iG (bY @uN.iG (bY @bU.iG (bY @fA.iG (bY @bn.iG (bY @bP.iG (bY @List.map_append.{0,0} (bY @List.map_cons.{0,0} (bY @List.map_nil.{0,0} (bY @List.map_set.{0,0} (bY @List.map_take.{0,0} (bY @List.map_drop.{0,0} (bY @List.map_replicate.{0,0} (bY @List.length_append.{0} (bY @List.length_map.{0,0} (bY @List.length_set.{0} (bY @List.length_replicate.{0} (bY @Nat.add_zero (bY @List.nil_append.{0} (bY @List.cons_append.{0} (bY @List.append_nil.{0} (bY @take_len (bY @Om (bY @Oo (bY @and_self @Hl))))))))))))))))))))))))))))))))))))))))))))))))))))))))))))))))))))))))))))))))))))))))))))
theorem peR : type_of% peD:=peD
def rwD :=bY @WM.eq_1 (bY @WM.eq_2 (bY @abL.eq_1 (bY @abL.eq_2 (bY @Xm.eq_1 (bY @Xm.eq_2 (bY @Xm.eq_3 (bY @wkV.eq_1 (bY @wkV.eq_2 (bY @wkV.eq_3 (bY @wkV.eq_4 (bY @PM.eq_1 (bY @PM.eq_2 (bY @PM.eq_3 (bY @WT.eq_1 (bY @WT.eq_2 (bY @BR.eq_1 (bY @BR.eq_2 (bY @uP.eq_1 (bY @uP.eq_2 (bY @true_and (bY @and_true (bY @implies_true.{1} (bY @List.mem_cons.{0} (bY @List.not_mem_nil.{0} (bY @or_false (bY @or_true (bY @true_or (bY @Box.arr.eq_1 (bY @Box.arr.eq_2 (bY @Box.arr.eq_3 (bY @LD.eq_1 (bY @yG.eq_1 (bY @xW.eq_1 (bY @vSl.eq_1 (bY @not_false_eq_true (bY @false_or (bY @Option.some.injEq.{0} (bY @true_implies (bY @cI.eq_1 (bY @cU.eq_1 (bY @cB.eq_1 (bY @cS.eq_1 (bY @cL.eq_1 (bY @cK.eq_1 (bY @aj.iG (bY @uN.iG (bY @bU.iG (bY @fA.iG (bY @bn.iG (bY @bP.iG (bY @List.map_append.{0,0} (bY @List.map_cons.{0,0} (bY @List.map_nil.{0,0} (bY @List.map_set.{0,0} (bY @List.map_take.{0,0} (bY @List.map_drop.{0,0} (bY @List.map_replicate.{0,0} (bY @List.length_append.{0} (bY @List.length_cons.{0} (bY @List.length_nil.{0} (bY @List.length_map.{0,0} (bY @List.length_set.{0} (bY @List.length_replicate.{0} (bY @Nat.zero_add (bY @Nat.add_zero (bY @List.nil_append.{0} (bY @List.cons_append.{0} (bY @List.append_nil.{0} (bY @take_len (bY @Om (bY @Oo (bY @and_self (bY @FO.eq_1 (bY @FO.eq_2 (bY @Xl.eq_1 (bY @Xl.eq_2 (bY @Xl.eq_3 (bY @Ua.eq_1 (bY @Jc.eq_1 (bY @Jc.eq_2 (bY @yZ.ok.eq_1 (bY @yZ.ok.eq_2 (bY @yZ.val.eq_1 (bY @yZ.val.eq_2 (bY @Xe.eq_1 (bY @Xe.eq_2 (bY @BI.eq_1 (bY @BI.eq_2 (bY @partOf.eq_1 (bY @partOf.eq_2 (bY @partOf.eq_3 (bY @Kz (bY @Ff (bY @Pq (bY @g_v (bY @x_v (bY @AV.flat.eq_1 (bY @AV.flat.eq_2 (bY @BC.eq_1 (bY @BC.eq_2 (bY @BC.eq_3 (bY @BC.eq_4 (bY @dV.eq_1 (bY @dV.eq_2 (bY @dV.eq_3 (bY @dV.eq_4 (bY @dC.eq_1 (bY @dC.eq_2 (bY @dC.eq_3 (bY @dC.eq_4 (bY @dCs.eq_1 (bY @dCs.eq_2 (bY @dCs.eq_3 (bY @dPs.eq_1 (bY @dPs.eq_2 (bY @dPs.eq_3 (bY @List.take_succ_cons.{0} (bY @List.take_zero.{0} (bY @List.drop_zero.{0} (bY @List.drop_succ_cons.{0} (bY @List.getElem?_cons_zero.{0} (bY @List.getElem?_cons_succ.{0} (bY @FR.ok.eq_1 @Hl)))))))))))))))))))))))))))))))))))))))))))))))))))))))))))))))))))))))))))))))))))))))))))))))))))))))))))))))))))))))))))
theorem rwR : type_of% rwD:=rwD
def lnD :=bY @Et.eq_1 (bY @Et.eq_2 (bY @Et.eq_3 (bY @HY.eq_1 (bY @HY.eq_2 (bY @HY.eq_3 (bY @AU.eq_1 (bY @AU.eq_2 (bY @AU.eq_3 (bY @BA.eq_1 (bY @BA.eq_2 (bY @BA.eq_3 (bY @Ff (bY @uP.eq_1 (bY @uP.eq_2 (bY @Box.arr.eq_1 (bY @Box.arr.eq_2 (bY @Box.arr.eq_3 (bY @AV.cells.eq_1 (bY @AV.cells.eq_2 (bY @AV.cells.eq_3 (bY @List.map_cons.{0,0} (bY @List.map_nil.{0,0} (bY @List.length_map.{0,0} (bY @List.length_append.{0} (bY @List.length_cons.{0} (bY @List.length_nil.{0} (bY @List.length_replicate.{0} (bY @List.length_set.{0} (bY @take_len (bY @Om (bY @Oo (bY @true_and (bY @and_true (bY @and_self (bY @Nat.le_refl (bY @Nat.zero_add (bY @Nat.add_zero (bY @yG.eq_1 (bY @xW.eq_1 (bY @LD.eq_1 (bY @vSl.eq_1 (bY @cI.eq_1 (bY @cU.eq_1 (bY @cB.eq_1 (bY @cS.eq_1 (bY @cL.eq_1 (bY @cK.eq_1 (bY @List.map_append.{0,0} (bY @List.cons_append.{0} (bY @List.nil_append.{0} (bY @aj.iG (bY @uN.iG (bY @bU.iG (bY @fA.iG (bY @bn.iG @bP.iG)))))))))))))))))))))))))))))))))))))))))))))))))))))))
theorem lnR : type_of% lnD:=lnD
def ggD :=bY @Xh.eq_1 (bY @Xh.eq_2 (bY @Xc.eq_1 (bY @Xc.eq_2 (bY @Ff (bY @uP.eq_1 (bY @uP.eq_2 (bY @EY.eq_1 (bY @EY.eq_2 (bY @List.getD_cons_zero.{0} (bY @List.getD_cons_succ.{0} (bY @List.cons_append.{0} (bY @List.nil_append.{0} (bY @List.append_nil.{0} (bY @List.map_cons.{0,0} (bY @List.map_nil.{0,0} (bY @List.map_append.{0,0} (bY @List.map_set.{0,0} (bY @List.length_append.{0} (bY @List.length_cons.{0} (bY @List.length_nil.{0} (bY @List.length_map.{0,0} (bY @List.length_set.{0} (bY @List.length_replicate.{0} (bY @List.replicate_zero.{0} (bY @List.replicate_succ.{0} (bY @List.map_replicate.{0,0} (bY @Nat.zero_add (bY @Nat.add_zero (bY @Fz.eq_1 (bY @Fz.eq_2 (bY @Fz.eq_3 (bY @and_self (bY @and_true (bY @true_and (bY @cI.eq_1 (bY @cU.eq_1 (bY @cB.eq_1 (bY @cS.eq_1 (bY @cL.eq_1 (bY @cK.eq_1 (bY @aj.iG (bY @uN.iG (bY @bU.iG (bY @fA.iG (bY @bn.iG @bP.iG)))))))))))))))))))))))))))))))))))))))))))))
theorem ggR : type_of% ggD:=ggD
def ghD :=bY @Xh.eq_1 (bY @Xh.eq_2 (bY @Xc.eq_1 (bY @Xc.eq_2 (bY @Ff (bY @uP.eq_1 (bY @uP.eq_2 (bY @EY.eq_1 (bY @EY.eq_2 (bY @List.getD_cons_zero.{0} (bY @List.getD_cons_succ.{0} (bY @List.cons_append.{0} (bY @List.nil_append.{0} (bY @List.append_nil.{0} (bY @List.map_cons.{0,0} (bY @List.map_nil.{0,0} (bY @List.map_append.{0,0} (bY @List.map_set.{0,0} (bY @List.length_append.{0} (bY @List.length_cons.{0} (bY @List.length_nil.{0} (bY @List.length_map.{0,0} (bY @List.length_set.{0} (bY @List.length_replicate.{0} (bY @List.replicate_zero.{0} (bY @List.replicate_succ.{0} (bY @List.map_replicate.{0,0} (bY @Nat.zero_add (bY @Nat.add_zero (bY @Fz.eq_1 (bY @Fz.eq_2 (bY @Fz.eq_3 (bY @and_self (bY @and_true (bY @true_and (bY @cI.eq_1 (bY @cU.eq_1 (bY @cB.eq_1 (bY @cS.eq_1 (bY @cL.eq_1 (bY @cK.eq_1 (bY @aj.iG (bY @uN.iG (bY @bU.iG (bY @fA.iG (bY @bn.iG (bY @bP.iG (bY @aeH (bY @VB.eq_1 (bY @VB.eq_2 (bY @JF.eq_1 (bY @JF.eq_2 (bY @List.flatMap_cons.{0,0} (bY @List.flatMap_nil.{0,0} (bY @AV.owns.eq_1 (bY @AV.owns.eq_2 (bY @AV.owns.eq_3 (bY @qH.eq_1 (bY @qH.eq_2 (bY @qH.eq_3 (bY @List.contains_cons.{0} (bY @List.contains_nil.{0} (bY @Bool.or_false (bY @Bool.or_true (bY @Bool.false_or (bY @if_true.{1} (bY @if_false.{1} (bY @Bool.false_eq_true (bY @Et.eq_1 (bY @Et.eq_2 (bY @Et.eq_3 (bY @HY.eq_1 (bY @HY.eq_2 (bY @HY.eq_3 (bY @AU.eq_1 (bY @AU.eq_2 (bY @AU.eq_3 (bY @BA.eq_1 (bY @BA.eq_2 (bY @BA.eq_3 (bY @Box.arr.eq_1 (bY @Box.arr.eq_2 (bY @Box.arr.eq_3 (bY @AV.cells.eq_1 (bY @AV.cells.eq_2 (bY @AV.cells.eq_3 (bY @Nat.le_refl (bY @take_len (bY @Om (bY @Oo (bY @yG.eq_1 (bY @xW.eq_1 (bY @LD.eq_1 @vSl.eq_1))))))))))))))))))))))))))))))))))))))))))))))))))))))))))))))))))))))))))))))))))))))))))))
theorem ghR : type_of% ghD:=ghD
end
section
abbrev zN : List AC:=[.c (.lit (.int .i64 0)),.c (.lit (.int .i64 0)),.c (.str []),.og 1,.og 5]
abbrev wI (z:Int):AC:=.c (.lit (.int .i64 z))
abbrev wS (s:fC):AC:=.c (.str s)
abbrev wT (l:List fC):AC:=.c (.sl 1 (List.map cS l))
abbrev wK (l:List aj):AC:=.c (.sl 5 (List.map aj.cells l))
abbrev wN (x:aj):List AC:=[wI x.bM,wI x.wJ,wS x.lI,wT x.aO,wK x.aP]
abbrev wB (b:Bool):AC:=.c (.lit (.bool b))
abbrev oI (z:Int):AV:=.one (wI z)
abbrev oS (s:fC):AV:=.one (wS s)
abbrev oT (l:List fC):AV:=.one (wT l)
abbrev oB (b:Bool):AV:=.one (wB b)
abbrev eP (a b:Nat):Nat×Slot:=(a,.v true (.one (.ptr b 0)))
abbrev eI (a:Nat)(z:Int):Nat×Slot:=(a,.v true (.one (wI z)))
abbrev eS (a:Nat)(z:fC):Nat×Slot:=(a,.v true (.one (wS z)))
abbrev eT (a:Nat)(z:List fC):Nat×Slot:=(a,.v true (.one (wT z)))
abbrev eB (a:Nat)(z:Bool):Nat×Slot:=(a,.v true (.one (wB z)))
abbrev w7 (l:List fA):AC:=.c (.sl 7 (List.map fA.cells l))
abbrev w8 (l:List uN):AC:=.c (.sl 8 (List.map uN.cells l))
abbrev wO (x:uN):List AC:=[wI x.bM,wT x.uq,wT x.xH,wI x.Value.bM,wI x.Value.wJ,wS x.Value.lI,wT x.Value.aO,wK x.Value.aP]
abbrev wM (x:fA):List AC:=[wS x.iC,wI x.mW,wI x.pO.bM,wI x.pO.wJ,wS x.pO.lI,wT x.pO.aO,wK x.pO.aP]
abbrev wU (x:bU):List AC:=[w7 x.bH,wI x.kY]
abbrev wQ (x:bn):List AC:=[wI x.kP,wS x.iC,wT x.yK,wT x.uM,wI x.Body.bM,wI x.Body.wJ,wS x.Body.lI,wT x.Body.aO,wK x.Body.aP,w8 x.Me]
abbrev wR (x:bP):List AC:=[wI x.Jy,wS x.Tag,wI x.mW,wI x.Body.bM,wI x.Body.wJ,wS x.Body.lI,wT x.Body.aO,wK x.Body.aP]
def pp {α:Sort _}{β:Sort _}(a:α)(b:β):PProd α β:=⟨a,b⟩
abbrev Dk :=pp () <|pp () <|pp () <|pp () <|pp () <|pp () <|()
abbrev zJ {A:Sort _}{B:Sort _}{C:Sort _}(a:A)(b:B)(c:C):=pp () <|pp () <|pp a <|pp () <|pp b <|pp c <|()
abbrev Yf {A:Sort _}(a:A):=pp () <|pp a <|pp () <|pp () <|pp () <|pp () <|()
abbrev ag5 {A:Sort _}{B:Sort _}{C:Sort _}{D:Sort _}{E:Sort _}{F:Sort _}(a:A)(b:B)(c:C)(d:D)(e:E)(f:F):=pp () <|pp a <|pp b <|pp c <|pp d <|pp e <|f
abbrev iY {A:Sort _}(a:A):=pp a <|pp () <|pp () <|pp () <|pp () <|pp () <|()
abbrev Yg {A:Sort _}{B:Sort _}(a:A)(b:B):=pp a <|pp () <|pp () <|pp () <|pp () <|pp () <|b
abbrev II {A:Sort _}{B:Sort _}{C:Sort _}{D:Sort _}(a:A)(b:B)(c:C)(d:D):=pp a <|pp () <|pp () <|pp b <|pp c <|pp d <|()
abbrev WR {A:Sort _}{B:Sort _}{C:Sort _}{D:Sort _}{E:Sort _}(a:A)(b:B)(c:C)(d:D)(e:E):=pp a <|pp () <|pp () <|pp b <|pp c <|pp d <|pp () <|e
abbrev jk {A:Sort _}{B:Sort _}{C:Sort _}{D:Sort _}(a:A)(b:B)(c:C)(d:D):=pp a <|pp () <|pp b <|pp () <|pp c <|pp d <|()
abbrev Yh {A:Sort _}{B:Sort _}{C:Sort _}{D:Sort _}{E:Sort _}(a:A)(b:B)(c:C)(d:D)(e:E):=pp a <|pp () <|pp b <|pp () <|pp c <|pp d <|e
abbrev Oq {A:Sort _}{B:Sort _}{C:Sort _}{D:Sort _}{E:Sort _}(a:A)(b:B)(c:C)(d:D)(e:E):=pp a <|pp () <|pp b <|pp c <|pp d <|pp e <|()
abbrev adX {A:Sort _}{B:Sort _}{C:Sort _}{D:Sort _}{E:Sort _}{F:Sort _}(a:A)(b:B)(c:C)(d:D)(e:E)(f:F):=pp a <|pp () <|pp b <|pp c <|pp d <|pp e <|pp () <|f
abbrev ag6 {A:Sort _}{B:Sort _}{C:Sort _}{D:Sort _}{E:Sort _}{F:Sort _}(a:A)(b:B)(c:C)(d:D)(e:E)(f:F):=pp a <|pp () <|pp b <|pp c <|pp d <|pp e <|f
abbrev GM {A:Sort _}{B:Sort _}(a:A)(b:B):=pp a <|pp b <|pp () <|pp () <|pp () <|pp () <|()
abbrev IJ {A:Sort _}{B:Sort _}{C:Sort _}(a:A)(b:B)(c:C):=pp a <|pp b <|pp () <|pp () <|pp () <|pp () <|c
abbrev ag7 {A:Sort _}{B:Sort _}{C:Sort _}{D:Sort _}{E:Sort _}(a:A)(b:B)(c:C)(d:D)(e:E):=pp a <|pp b <|pp () <|pp c <|pp d <|pp e <|()
abbrev ag8 {A:Sort _}{B:Sort _}{C:Sort _}{D:Sort _}{E:Sort _}{F:Sort _}(a:A)(b:B)(c:C)(d:D)(e:E)(f:F):=pp a <|pp b <|pp () <|pp c <|pp d <|pp e <|f
abbrev adY {A:Sort _}{B:Sort _}{C:Sort _}{D:Sort _}{E:Sort _}{F:Sort _}{G:Sort _}(a:A)(b:B)(c:C)(d:D)(e:E)(f:F)(g:G):=pp a <|pp b <|pp c <|pp d <|pp e <|pp f <|pp () <|g
abbrev adZ {A:Sort _}{B:Sort _}{C:Sort _}{D:Sort _}{E:Sort _}{F:Sort _}{G:Sort _}{H:Sort _}(a:A)(b:B)(c:C)(d:D)(e:E)(f:F)(g:G)(h:H):=pp a <|pp b <|pp c <|pp d <|pp e <|pp f <|pp g <|h
theorem ihL {n:Nat}{A B:Nat->Prop}(h:∀m,m<n->A m/\B m):∀m,m<n->A m:=λm hm=>(h m hm).1
theorem ihR {n:Nat}{A B:Nat->Prop}(h:∀m,m<n->A m/\B m):∀m,m<n->B m:=λm hm=>(h m hm).2
theorem gK (zs:List Nat)(pi:List (Nat×Nat))(vs:List Nat){m:Nat}{ts0 ts:List (Nat×Slot)}{Hy bs:List (Nat×Box)}(hk:Sr m Hy bs pi vs=true)
 (hb:WM zs (uP Hy) (WT pi) vs bs) (ht:abL zs (uP Hy) (WT pi) vs ts0 ts):Ou m (gZ.of ts0 Hy) (gZ.of ts bs):=alq zs pi vs hk hb ht
theorem Ew (zs:List Nat)(pi:List (Nat×Nat))(vs:List Nat){rs:List yZ}{ts:List (Nat×Slot)}{Hy:List (Nat×Box)}{m:Nat}{r:AV}{bs:List Box}(hk:Sr m Hy (FO bs 0) pi vs=true)
 (hok:Jc (gZ.of ts Hy) rs) (hb:WM zs (uP Hy) (WT pi) vs (FO bs 0)) (hv:wkV zs (uP Hy) (WT pi) vs (Xe (gZ.of ts Hy) rs) r) :
 LK rs m (λr1 b1=>r1=r/\b1=bs) (gZ.of ts Hy):=SS zs pi vs hk hok hb hv
section
variable {P:Program} {f:FuncId} {xk:List AV} {d:Option Nat} {st:gZ} {K:List Nat->List Nat->gZ->Prop} {du:DU K} {Q:AQ}
theorem cG (sg nu:List Nat){P:Program}{f:FuncId}{xk:List AV}{d:Option Nat}{st:gZ}{K:List Nat->List Nat->gZ->Prop}{du:DU K}{ds:List AV}{fp Hy:List Box}{r0:AV}(h:pM P f ds fp (λr bs=>r=r0/\bs=Hy))(hl:sg.length=fp.length)(hn:nodupB (sg++nu)=true)(hf:Xh st (sg++nu) fp 0)(hv:Xc st nu)
 (hra:(ds.all λx=>x.all (AC.xK fp.length))=true) (hrf:fp.all (Box.xK fp.length)=true) (ha:xk=ds.map (Fz λb=>(sg++nu).getD b 0)) (hb:Hy.length=(sg++nu).length)
 (k:K (sg++nu) (sg++nu) ((st.vJ ((sg++nu).zip (Hy.map (EY λb=>(sg++nu).getD b 0)))).BB d (.v true (Fz (λb=>(sg++nu).getD b 0) r0)))):xI P f xk true d st K du:=anQ sg nu h hl hn hf hv hra hrf ha hb k
theorem cH (sg nu:List Nat){P:Program}{f:FuncId}{xk:List AV}{d:Option Nat}{st:gZ}{K:List Nat->List Nat->gZ->Prop}{du:DU K}{ds:List AV}{fp Hy:List Box}{r0:AV}(h:pM P f ds fp (λr bs=>r=r0/\bs=Hy))(he:xk.map (Et st.bx)=ds.map (Fz λb=>(sg++nu).getD b 0))(hlo:AU st.bx xk)
 (hl:sg.length=fp.length) (hn:nodupB (sg++nu)=true) (hf:Xh (st.Hz (xk.flatMap AV.owns)) (sg++nu) fp 0) (hv:Xc st nu)
 (hra:(ds.all λx=>x.all (AC.xK fp.length))=true) (hrf:fp.all (Box.xK fp.length)=true) (hb:Hy.length=(sg++nu).length)
 (k:K (xk.flatMap AV.owns++(sg++nu)) (xk.flatMap AV.owns++(sg++nu)) (((st.Hz (xk.flatMap AV.owns)).vJ ((sg++nu).zip (Hy.map (EY λb=>(sg++nu).getD b 0)))).BB d (.v true (Fz (λb=>(sg++nu).getD b 0) r0)))):xI P f xk true d st K du:=anR sg nu h he hlo hl hn hf hv hra hrf hb k
theorem Ii (X:Type)(R:Type)(g:Nat->X->Option R)(r:R)(S:X->gZ)(N:Nat){P:Program}{st:gZ}{Q:AQ}{a b:dK}{d1:DU (wpC P a)}{d2:DU (wpC P b)}{d3:DU Q}
 (h1:DZ P a (xP.then (λst'=>∃x m,(g m x=some r/\m<=N)/\Ou 10 st' (S x)) Q) st .mk .mk) (h2:∀n x,n<=N->g n x=some r->DZ P b Q (S x) .mk .mk):PY (wpC P a) (wpC P b) Q st d1 d2 d3:=by
 refine apm (X:=X×Nat) (λp=>g p.2 p.1=some r/\p.2<=N) (λp=>S p.1) (wpC_mono (λe st h=>?_) h1) (λp hp=>h2 p.2 p.1 hp.2 hp.1);cases e with
 |normal=>obtain⟨x,m,h,hw⟩:=h;exact⟨(x,m),h,hw⟩
 |_=>exact h
theorem uQ (X:Type)(R:Type)(g:Nat->X->Option R)(r:R)(S:X->gZ)(N:Nat){P:Program}{st:gZ}{Q:AQ}{a:dK}{d1:DU (wpC P a)}{d2:DU Q}(h0:∃x m,(g m x=some r/\m<=N)/\Ou 10 st (S x))
 (h:∀n x,n<=N->g n x=some r->DZ P a (xP.then (λst'=>∃x' m,(g m x'=some r/\m<=N/\m<n)/\Ou 10 st' (S x')) Q) (S x) .mk .mk):KO (wpC P a) Q st d1 d2:=by
 obtain⟨x,m,h0,hw⟩:=h0;refine aow (X:=X×Nat) (λp=>g p.2 p.1=some r/\p.2<=N) (λp=>S p.1) (λp=>p.2) (x,m) h0 hw (λp hp=>wpC_mono (λe st h=>?_) (h p.2 p.1 hp.2 hp.1));cases e with
 |normal=>obtain⟨x,m,h,hw⟩:=h;exact⟨(x,m),⟨⟨h.1,h.2.1⟩,h.2.2⟩,hw⟩
 |_=>exact h
end
theorem Rj {p:Prop}(x:p:=by simp -dsimp only[wkR,wkB,MC,reduceIte,Nat.reduceEqDiff,reduceCtorEq]<;>simp[List.take_of_length_le]<;>fail):p:=x
theorem tPE {p:Prop}(x:p:=by(simp -dsimp only[peR,reduceIte,Nat.reduceEqDiff,Nat.reduceAdd,Nat.reduceLeDiff,reduceCtorEq]<;>first|(simp[List.take_of_length_le];done)|((try simp only[List.map_take,List.map_drop,List.map_append,List.map_cons,List.map_nil])<;>(repeat' apply And.intro)<;>first|rfl|(simp;done)|(simp<;>omega;done)|(congr 1;exact(List.take_of_length_le (by simp<;>omega)).symm)))):p:=x
theorem tRE {p:Prop}(x:p:=by(simp -dsimp only[rwR,wkB,MC,reduceIte,Nat.reduceEqDiff,reduceCtorEq,Nat.reduceAdd,Nat.reduceLeDiff]<;>first|(simp[List.take_of_length_le];done)|((try simp only[List.map_take,List.map_drop,List.map_append,List.map_cons,List.map_nil])<;>(repeat' apply And.intro)<;>first|rfl|(simp;done)|(simp<;>omega;done)|(congr 1;exact(List.take_of_length_le (by simp<;>omega)).symm)))):p:=x
theorem tLN {p:Prop}(x:p:=by(simp only[lnR,reduceIte,Nat.reduceEqDiff]<;>omega)):p:=x
theorem tGG {p:Prop}(x:p:=by(simp only[ggR,GI,reduceIte,Nat.reduceEqDiff,Nat.reduceLeDiff,Nat.reduceAdd]<;>omega)):p:=x
theorem tGR {p:Prop}(x:p:=by first|rfl|(simp only[ggR,GI,reduceIte,Nat.reduceEqDiff,Nat.reduceLeDiff,Nat.reduceAdd]<;>omega)):p:=x
theorem tGH {p:Prop}(x:p:=by(simp only[ghR,GI,reduceIte,Nat.reduceEqDiff,Nat.reduceLeDiff,Nat.reduceAdd,Nat.reduceBEq]<;>omega)):p:=x
theorem Q4 {p:Prop}(x:p:=by((try simp only[Prod.exists]);(first|refine⟨_,_,⟨h,?_⟩,?_⟩|refine⟨_,_,_,⟨h,?_⟩,?_⟩|refine⟨_,_,_,_,⟨h,?_⟩,?_⟩|refine⟨_,_,_,_,_,⟨h,?_⟩,?_⟩|refine⟨_,_,_,_,_,_,⟨h,?_⟩,?_⟩|refine⟨_,_,_,_,_,_,_,⟨h,?_⟩,?_⟩|refine⟨_,_,_,_,_,_,_,_,⟨h,?_⟩,?_⟩|refine⟨_,_,_,_,_,_,_,_,_,⟨h,?_⟩,?_⟩|refine⟨_,_,_,_,_,_,_,_,_,_,⟨h,?_⟩,?_⟩|refine⟨_,_,_,_,_,_,_,_,_,_,_,⟨h,?_⟩,?_⟩|refine⟨_,_,_,_,_,_,_,_,_,_,_,_,⟨h,?_⟩,?_⟩|refine⟨_,_,_,_,_,_,_,_,_,_,_,_,_,⟨h,?_⟩,?_⟩|refine⟨_,_,_,_,_,_,_,_,_,_,_,_,_,_,⟨h,?_⟩,?_⟩|refine⟨_,_,_,_,_,_,_,_,_,_,_,_,_,_,_,⟨h,?_⟩,?_⟩|refine⟨_,_,_,_,_,_,_,_,_,_,_,_,_,_,_,_,⟨h,?_⟩,?_⟩|refine⟨_,_,_,_,_,_,_,_,_,_,_,_,_,_,_,_,_,⟨h,?_⟩,?_⟩|refine⟨_,_,_,_,_,_,_,_,_,_,_,_,_,_,_,_,_,_,⟨h,?_⟩,?_⟩|refine⟨_,_,_,_,_,_,_,_,_,_,_,_,_,_,_,_,_,_,_,⟨h,?_⟩,?_⟩|refine⟨_,_,_,_,_,_,_,_,_,_,_,_,_,_,_,_,_,_,_,_,⟨h,?_⟩,?_⟩|refine⟨_,_,_,_,_,_,_,_,_,_,_,_,_,_,_,_,_,_,_,_,_,⟨h,?_⟩,?_⟩|refine⟨_,_,_,_,_,_,_,_,_,_,_,_,_,_,_,_,_,_,_,_,_,_,⟨h,?_⟩,?_⟩|refine⟨_,_,_,_,_,_,_,_,_,_,_,_,_,_,_,_,_,_,_,_,_,_,_,⟨h,?_⟩,?_⟩|refine⟨_,_,_,_,_,_,_,_,_,_,_,_,_,_,_,_,_,_,_,_,_,_,_,_,⟨h,?_⟩,?_⟩|refine⟨(),_,⟨h,?_⟩,?_⟩);(focus omega);first|exact zj.1 (by rfl) Rj Rj|exact zj.2.1 (by rfl) Rj Rj|exact zj.2.2.1 (by rfl) Rj Rj|exact zj.2.2.2.1 (by rfl) Rj Rj|exact zj.2.2.2.2.1 (by rfl) Rj Rj|exact zj.2.2.2.2.2.1 (by rfl) Rj Rj|exact zj.2.2.2.2.2.2.1 (by rfl) Rj Rj|exact zj.2.2.2.2.2.2.2.1 (by rfl) Rj Rj|exact zj.2.2.2.2.2.2.2.2.1 (by rfl) Rj Rj|exact zj.2.2.2.2.2.2.2.2.2.1 (by rfl) Rj Rj|exact zj.2.2.2.2.2.2.2.2.2.2.1 (by rfl) Rj Rj|exact zj.2.2.2.2.2.2.2.2.2.2.2.1 (by rfl) Rj Rj|exact zj.2.2.2.2.2.2.2.2.2.2.2.2.1 (by rfl) Rj Rj|exact zj.2.2.2.2.2.2.2.2.2.2.2.2.2.1 (by rfl) Rj Rj)):p:=x
theorem uH {p:Prop}(x:p:=by
 obtain⟨zc,zg,zk,zu,ze,zj,zt⟩:=z
 try simp only[oI,oS,oT,oB,wR,wQ,wU,wM,wO,w8,w7,wN,wI,wS,wT,wK,wB,zN,eP,eI,eS,eT,eB]at zc zk zu zt zj⊢
 repeat' first
 |(clear h;(with_reducible intro n x hn h);rcases n with _|n<;>simp only[ze.1,reduceCtorEq]at h)
 |(simp only[reduceCtorEq]at h;done)
 |((with_reducible replace h:=kq0 h);obtain⟨_,_,h⟩:=h)
 |((with_reducible replace h:=kqn h);obtain⟨_,_,h⟩:=h)
 |((with_reducible replace h:=kq1 h);obtain⟨_,_,h⟩:=h)
 |((with_reducible replace h:=kq h);obtain⟨_,h⟩:=h)
 |((with_reducible replace h:=sq h);subst h;have h:=True.intro)
 | (try simp -dsimp only[egR,nR.qi,nR.f,nR.rd,Ec,Bc,lvl,zy,reduceIte,Nat.reduceEqDiff,Nat.reduceAdd,Nat.reduceLeDiff,Nat.reduceBEq,reduceCtorEq,Int.reduceBNe,Int.reduceBEq,Int.reduceLT,Int.reduceLE,Int.reduceNeg,Nat.reduceLT,Ef,Int.reduceToNat,GI, *]
    repeat((with_reducible refine And.intro ?_ ?_);focus first|(show Aw _ _ _ _=true;kernel_rfl)|(show zK _ _=true;kernel_rfl)|omega|assumption|(show _<=maxLen;decide))
    first
    |with_reducible refine ahA ?_
    |((with_reducible refine alP ?_);with_reducible refine zu.1 n ?_ ?_)
    |((with_reducible refine aip ?_);first|((with_reducible refine zk.1 n ?_ ?_);(focus exact Q4))|((with_reducible refine zk.2.1 n ?_ ?_);(focus exact Q4))|((with_reducible refine zk.2.2.1 n ?_ ?_);(focus exact Q4))|((with_reducible refine zk.2.2.2.1 n ?_ ?_);(focus exact Q4))|((with_reducible refine zk.2.2.2.2.1 n ?_ ?_);(focus exact Q4))|((with_reducible refine zk.2.2.2.2.2.1 n ?_ ?_);(focus exact Q4)))
    |((with_reducible refine ac7 ?_);(with_reducible replace h:=bq h);obtain⟨_,hv,h⟩:=h;first|(have zd:=zc;(repeat(first|((first|with_reducible have hc:=zd.1 hv|with_reducible have hc:=zd.1 _ (by omega) hv);(first|refine ahz (λ_=>hc) rfl rfl ?_|refine ahB hc rfl rfl ?_|refine alD hc tLN tLN rfl rfl ?_|refine alC hc tLN tLN rfl rfl ?_);clear zd)|with_reducible replace zd:=zd.2));(fail_if_success have zz:=zd))|(have zd:=zg;(repeat(first|((first|with_reducible have hc:=zd.1.1 hv|with_reducible have hc:=zd.1.1 _ (by omega) hv);(first|refine zd.1.2 hc rfl rfl tGG tGG rfl rfl tGR rfl ?_|refine zd.1.2 hc tGH tGH rfl rfl tGH tGH rfl rfl rfl ?_);clear zd)|with_reducible replace zd:=zd.2));(fail_if_success have zz:=zd)))
    |((with_reducible replace h:=cq h);rcases h with⟨c,h⟩|⟨c,h⟩<;>try(simp only[*,Bool.false_eq_true,reduceCtorEq]at c;done))
    |((with_reducible refine aor ?_);exact Q4)
    |((with_reducible refine alQ ?_);exact tPE)
    |((with_reducible refine air ?_);have zd:=zt;(repeat(first|exact zd.1 (by rfl) tRE tRE tRE|with_reducible replace zd:=zd.2))<;>fail)
    |(cases h;done))):p:=x
theorem ahR {p:Prop}(x:p:=by
 obtain⟨zc,zg,zk,zu,ze,zj,zt,zq⟩:=z
 try simp only[oI,oS,oT,oB,wR,wQ,wU,wM,wO,w8,w7,wN,wI,wS,wT,wK,wB,zN,eP,eI,eS,eT,eB]at zc zk zu zt zj⊢
 repeat' first
 |(clear h;(with_reducible intro n x hn h);rcases n with _|n<;>simp only[ze.1,reduceCtorEq]at h)
 |(simp only[reduceCtorEq]at h;done)
 |((with_reducible replace h:=kq0 h);obtain⟨_,_,h⟩:=h)
 |((with_reducible replace h:=kqn h);obtain⟨_,_,h⟩:=h)
 |((with_reducible replace h:=kq1 h);obtain⟨_,_,h⟩:=h)
 |((with_reducible replace h:=kq h);obtain⟨_,h⟩:=h)
 |((with_reducible replace h:=sq h);subst h;have h:=True.intro)
 | (try simp -dsimp only[egR,nR.qi,nR.f,nR.rd,Ec,Bc,lvl,zy,reduceIte,Nat.reduceEqDiff,Nat.reduceAdd,Nat.reduceLeDiff,Nat.reduceBEq,reduceCtorEq,Int.reduceBNe,Int.reduceBEq,Int.reduceLT,Int.reduceLE,Int.reduceNeg,Nat.reduceLT,Ef,Int.reduceToNat,GI, *]
    repeat((with_reducible refine And.intro ?_ ?_);focus first|(show Aw _ _ _ _=true;kernel_rfl)|(show zK _ _=true;kernel_rfl)|omega|assumption|(show _<=maxLen;decide))
    first
    |with_reducible refine ahA ?_
    |((with_reducible refine alP ?_);first|(rename Mk 1=>tk;clear tk;have:True:=(by(first|rewrite [zq.1.1]at h|rewrite [zq.1.2.1]at h|rewrite [zq.1.2.2.1]at h|rewrite [zq.1.2.2.2.1]at h|rewrite [zq.1.2.2.2.2.1]at h|rewrite [zq.1.2.2.2.2.2.1]at h|rewrite [zq.1.2.2.2.2.2.2.1]at h|rewrite [zq.1.2.2.2.2.2.2.2.1]at h);exact True.intro);with_reducible refine zu.1 n ?_ ?_)|(rename Mk 2=>tk;clear tk;have:True:=(by(first|rewrite [zq.2.1.1]at h|rewrite [zq.2.1.2.1]at h|rewrite [zq.2.1.2.2.1]at h|rewrite [zq.2.1.2.2.2.1]at h|rewrite [zq.2.1.2.2.2.2.1]at h|rewrite [zq.2.1.2.2.2.2.2.1]at h|rewrite [zq.2.1.2.2.2.2.2.2.1]at h|rewrite [zq.2.1.2.2.2.2.2.2.2.1]at h);exact True.intro);with_reducible refine zu.2.1 n ?_ ?_)|(rename Mk 3=>tk;clear tk;have:True:=(by(first|rewrite [zq.2.2.1.1]at h|rewrite [zq.2.2.1.2.1]at h|rewrite [zq.2.2.1.2.2.1]at h|rewrite [zq.2.2.1.2.2.2.1]at h|rewrite [zq.2.2.1.2.2.2.2.1]at h|rewrite [zq.2.2.1.2.2.2.2.2.1]at h|rewrite [zq.2.2.1.2.2.2.2.2.2.1]at h|rewrite [zq.2.2.1.2.2.2.2.2.2.2.1]at h);exact True.intro);with_reducible refine zu.2.2.1 n ?_ ?_)|(rename Mk 4=>tk;clear tk;have:True:=(by(first|rewrite [zq.2.2.2.1.1]at h|rewrite [zq.2.2.2.1.2.1]at h|rewrite [zq.2.2.2.1.2.2.1]at h|rewrite [zq.2.2.2.1.2.2.2.1]at h|rewrite [zq.2.2.2.1.2.2.2.2.1]at h|rewrite [zq.2.2.2.1.2.2.2.2.2.1]at h|rewrite [zq.2.2.2.1.2.2.2.2.2.2.1]at h|rewrite [zq.2.2.2.1.2.2.2.2.2.2.2.1]at h);exact True.intro);with_reducible refine zu.2.2.2.1 n ?_ ?_)|(rename Mk 5=>tk;clear tk;have:True:=(by(first|rewrite [zq.2.2.2.2.1.1]at h|rewrite [zq.2.2.2.2.1.2.1]at h|rewrite [zq.2.2.2.2.1.2.2.1]at h|rewrite [zq.2.2.2.2.1.2.2.2.1]at h|rewrite [zq.2.2.2.2.1.2.2.2.2.1]at h|rewrite [zq.2.2.2.2.1.2.2.2.2.2.1]at h|rewrite [zq.2.2.2.2.1.2.2.2.2.2.2.1]at h|rewrite [zq.2.2.2.2.1.2.2.2.2.2.2.2.1]at h);exact True.intro);with_reducible refine zu.2.2.2.2.1 n ?_ ?_)|(rename Mk 6=>tk;clear tk;have:True:=(by(first|rewrite [zq.2.2.2.2.2.1.1]at h|rewrite [zq.2.2.2.2.2.1.2.1]at h|rewrite [zq.2.2.2.2.2.1.2.2.1]at h|rewrite [zq.2.2.2.2.2.1.2.2.2.1]at h|rewrite [zq.2.2.2.2.2.1.2.2.2.2.1]at h|rewrite [zq.2.2.2.2.2.1.2.2.2.2.2.1]at h|rewrite [zq.2.2.2.2.2.1.2.2.2.2.2.2.1]at h|rewrite [zq.2.2.2.2.2.1.2.2.2.2.2.2.2.1]at h);exact True.intro);with_reducible refine zu.2.2.2.2.2.1 n ?_ ?_))
    |((with_reducible refine aip ?_);first|((with_reducible refine zk.1 n ?_ ?_);(focus exact Q4))|((with_reducible refine zk.2.1 n ?_ ?_);(focus exact Q4))|((with_reducible refine zk.2.2.1 n ?_ ?_);(focus exact Q4))|((with_reducible refine zk.2.2.2.1 n ?_ ?_);(focus exact Q4))|((with_reducible refine zk.2.2.2.2.1 n ?_ ?_);(focus exact Q4))|((with_reducible refine zk.2.2.2.2.2.1 n ?_ ?_);(focus exact Q4)))
    |((with_reducible refine ac7 ?_);(with_reducible replace h:=bq h);obtain⟨_,hv,h⟩:=h;first|(have zd:=zc;(repeat(first|((first|with_reducible have hc:=zd.1 hv|with_reducible have hc:=zd.1 _ (by omega) hv);(first|refine ahz (λ_=>hc) rfl rfl ?_|refine ahB hc rfl rfl ?_|refine alD hc tLN tLN rfl rfl ?_|refine alC hc tLN tLN rfl rfl ?_);clear zd)|with_reducible replace zd:=zd.2));(fail_if_success have zz:=zd))|(have zd:=zg;(repeat(first|((first|with_reducible have hc:=zd.1.1 hv|with_reducible have hc:=zd.1.1 _ (by omega) hv);(first|refine zd.1.2 hc rfl rfl tGG tGG rfl rfl tGR rfl ?_|refine zd.1.2 hc tGH tGH rfl rfl tGH tGH rfl rfl rfl ?_);clear zd)|with_reducible replace zd:=zd.2));(fail_if_success have zz:=zd)))
    |((with_reducible replace h:=cq h);rcases h with⟨c,h⟩|⟨c,h⟩<;>try(simp only[*,Bool.false_eq_true,reduceCtorEq]at c;done))
    |((with_reducible refine aor ?_);exact Q4)
    |((with_reducible refine alQ ?_);exact tPE)
    |((with_reducible refine air ?_);have zd:=zt;(repeat(first|exact zd.1 (by rfl) tRE tRE tRE|with_reducible replace zd:=zd.2))<;>fail)
    |(cases h;done))):p:=x
end
abbrev zA (d:Nat)(x:nR):lK:=⟨none,some d,.op x⟩
abbrev zM (d s:Nat):lK:=⟨none,some d,.op (.mv (.t s))⟩
abbrev zS (x:nR):lK:=⟨none,none,.op x⟩
abbrev zG (g:Nat)(b:Bool)(d:Nat)(x:nR):lK:=⟨some (g,b),some d,.op x⟩
noncomputable abbrev pZ : Program:=Go.Proofs.Tryz.prog
abbrev kI (n:Int):pR:=.k (.c (.lit (.int .i64 n)))
abbrev kB (b:Bool):pR:=.k (.c (.lit (.bool b)))
abbrev qy (n:Int):AC:=.c (.lit (.int .i64 n))
abbrev qF (d k a:Nat):lK:=zA d (.load false k (.t a))
abbrev qT (d k a:Nat):lK:=zA d (.load true k (.t a))
abbrev qS (k a b:Nat):lK:=zS (.store true k (.t a) (.t b))
abbrev qU (k a b:Nat):lK:=zS (.store false k (.t a) (.t b))
abbrev qA (d k a:Nat):lK:=zA d (.nK k (.t a))
abbrev qX (d k a:Nat):lK:=zA d (.box k (.t a))
abbrev qB (d:Nat)(b:Bool):lK:=zA d (.mv (kB b))
abbrev qI (d:Nat)(n:Int):lK:=zA d (.mv (kI n))
abbrev qL (d a:Nat):lK:=zA d (.len (.t a))
abbrev qO (d a:Nat):lK:=zA d (.not (.t a))
abbrev qE (d a k:Nat):lK:=zA d (.extract (.t a) k)
abbrev qP (d a b:Nat):lK:=zA d (.pick (.t a) (.t b) (kB false))
abbrev qQ (d a b:Nat):lK:=zA d (.pick (.t a) (kB true) (.t b))
abbrev qN (d a:Nat):lK:=zA d (.XY (.t a))
abbrev qD (d k a b:Nat):lK:=zA d (.Ai k (.t a) (.t b))
abbrev qZ (d k:Nat):lK:=zA d (.alloc k zN)
abbrev q1 (d f a:Nat):lK:=⟨none,some d,.call f [.t a]⟩
abbrev q2 (d f a b:Nat):lK:=⟨none,some d,.call f [.t a,.t b]⟩
abbrev q3 (d f a b c:Nat):lK:=⟨none,some d,.call f [.t a,.t b,.t c]⟩
abbrev qb (d:Nat)(o:BinOp)(a b:Nat):lK:=zA d (.bin o (.t a) (.t b))
abbrev qk (d:Nat)(o:BinOp)(a:Nat)(n:Int):lK:=zA d (.bin o (.t a) (kI n))
abbrev ql (d a:Nat):lK:=zA d (.lens (.t a))
abbrev qm (g:Nat)(b:Bool)(d a:Nat):lK:=zG g b d (.mv (.t a))
abbrev qc (a:Nat)(x y:dK):dK:=.cond (.t a) x y
abbrev qs (l:List lK)(m:List Nat)(x:dK):dK:=.seq (.reg l m) x
abbrev qr (l:List lK)(m:List Nat):dK:=.seq (.reg l m) .ret
abbrev PO : List Nat:=[0,1,2,3]
abbrev OA : List Nat:=[0,1,2,3,4]
abbrev OQ : List Nat:=[0,1,2,3,4,5]
abbrev V9 : List Nat:=[0,1,2,3,4,5,6]
abbrev Oh : List Nat:=[0,1,2,3,4,5,6,7]
abbrev TT : List Nat:=[0,1,2,3,4,5,6,7,8]
abbrev FB : List Nat:=[0,1,2,3,4,5,6,7,8,9]
abbrev Oz : List Nat:=[0,1,2,3,4,5,6,7,8,9,10]
abbrev Ul : List Nat:=[0,1,2,3,4,5,6,7,8,9,10,11]
abbrev agy : List Nat:=[0,1,2,3,4,5,6,7,8,9,10,11,12]
abbrev adE : List Nat:=[0,1,2,3,4,5,6,7,8,9,10,11,12,13]
abbrev aoQ : List Nat:=[0,1,2,3,4,5,6,7,8,9,10,11,12,13,14]
abbrev ap6 : List Nat:=[0,1,2,3,4,5,6,7,8,9,10,11,12,13,14,15]
abbrev aoR : List Nat:=[0,1,2,3,4,5,6,7,8,9,10,11,12,13,14,15,16]
abbrev anb : List Nat:=[0,1,2,3,4,5,6,7,8,9,10,11,12,13,14,15,16,17]
abbrev ala : List Nat:=[0,1,2,3,4,5,6,7,8,9,10,11,12,13,14,15,16,17,18]
abbrev alb : List Nat:=[0,1,2,3,4,5,6,7,8,9,10,11,12,13,14,15,16,17,18,19]
abbrev aoS : List Nat:=[0,1,2,3,4,5,6,7,8,9,10,11,12,13,14,15,16,17,18,19,20]
abbrev ajg : List Nat:=[0,1,2,3,4,5,6,7,8,9,10,11,12,13,14,15,16,17,18,19,20,21]
abbrev aoT : List Nat:=[0,1,2,3,4,5,6,7,8,9,10,11,12,13,14,15,16,17,18,19,20,21,22]
abbrev ap7 : List Nat:=[0,1,2,3,4,5,6,7,8,9,10,11,12,13,14,15,16,17,18,19,20,21,22,23,24,25,26,27,28,29,30]
abbrev ap8 : List Nat:=[0,1,2,3,4,5,6,7,8,9,10,11,12,13,14,15,16,17,18,19,20,21,22,23,24,25,26,27,28,29,30,31]
abbrev ap9 : List Nat:=[0,1,2,3,4,5,6,7,8,9,10,11,12,13,14,15,16,17,18,19,20,21,22,23,24,25,26,27,28,29,30,31,32]
def C.ins (sz cb gr:Nat)(z:List Cell):dK:=(qs [zA 6 (.mv (.k (.og sz)))] [0,1,2] (qs [zM 10 0,zM 11 1,zA 12 (.Ba sz (.t 10) (some (.t 11)) none)] [0,1,2] (qs [zM 13 2,qL 14 13,zM 7 14] [0,1,2,7] (.seq (qs [zM 15 7,qk 16 .eql 15 0] [0,1,2,7,16] (qc 16 (qr [zM 17 0,zM 6 17] [6]) .skip)) (qs [zM 18 0,qL 19 18,zM 8 19] [0,1,2,7,8] (.seq (qs [zM 20 1,zM 21 8,qb 22 .eql 20 21] [0,1,2,7,8,22] (qc 22 (qr [zM 23 0,zM 24 2,zA 25 (.abv 10 sz cb (.t 23) (.t 24)),zM 6 25] [6]) .skip)) (.seq (qs [zM 26 8,zM 27 7,qb 28 .add 26 27,zM 29 0,zA 30 (.afz (.t 29)),qb 31 .gtr 28 30] [0,1,2,7,8,31] (qc 31 (qs [zM 32 0,zM 33 1,zA 34 (.Ba sz (.t 32) none (some (.t 33))),zM 35 8,zM 36 7,qb 37 .add 35 36,zM 38 1,qb 39 .sub 37 38,zA 40 (.ace 11 sz cb z (.t 34) (.t 39)),zM 9 40] [0,1,2,7,9] (qs [zM 41 9,zM 42 1,zA 43 (.Ba sz (.t 41) (some (.t 42)) none),zM 44 2,zA 45 (.Wh sz (.t 43) (.t 44))] [0,1,7,9] (.seq (.uC [(zM 46 9,[]),(zM 47 1,[]),(zM 48 7,[]),(qb 49 .add 47 48,[1,2]),(zA 50 (.Ba sz (.t 46) (some (.t 49)) none),PO),(zM 51 0,[]),(zM 52 1,[]),(zA 53 (.Ba sz (.t 51) (some (.t 52)) none),[5,6]),(zA 54 (.Wh sz (.t 50) (.t 53)),Oh)] [9]) (qr [zM 55 9,zM 6 55] [6])))) .skip)) (qs [zM 56 0,zM 57 8,zM 58 7,qb 59 .add 57 58,zA 60 (.Ba sz (.t 56) none (some (.t 59))),zM 0 60] [0,1,2,7,8] (.seq (qs [zM 61 2,zM 62 0,zM 63 1,zM 64 7,qb 65 .add 63 64,zA 66 (.Ba sz (.t 62) (some (.t 65)) none),zA 67 (.ovl (.t 61) (.t 66)),qO 68 67] [0,1,2,7,8,68] (qc 68 (.seq (.uC [(zM 69 0,[]),(zM 70 1,[]),(zM 71 7,[]),(qb 72 .add 70 71,[1,2]),(zA 73 (.Ba sz (.t 69) (some (.t 72)) none),PO),(zM 74 0,[]),(zM 75 1,[]),(zA 76 (.Ba sz (.t 74) (some (.t 75)) none),[5,6]),(zA 77 (.Wh sz (.t 73) (.t 76)),Oh)] [0,1,2]) (qs [zM 78 0,zM 79 1,zA 80 (.Ba sz (.t 78) (some (.t 79)) none),zM 81 2,zA 82 (.Wh sz (.t 80) (.t 81))] [0] (qr [zM 83 0,zM 6 83] [6]))) .skip)) (qs [zM 84 0,zM 85 8,zA 86 (.Ba sz (.t 84) (some (.t 85)) none),zM 87 2,zA 88 (.Wh sz (.t 86) (.t 87))] [0,1,7] (qs [zM 89 0,zM 90 1,zA 91 (.Ba sz (.t 89) (some (.t 90)) none),zM 92 7,⟨none,some 93,.call gr [.t 91,.t 92]⟩] [0] (qr [zM 94 0,zM 6 94] [6]))))))))))))
def C.del (sz cb:Nat)(z:List Cell):dK:=(qs [zA 6 (.mv (.k (.og sz)))] [0,1,2] (qs [zM 8 0,zM 9 1,zM 10 2,zM 11 0,qL 12 11,zA 13 (.sl3 sz (.t 8) (.t 9) (.t 10) (.t 12))] [0,1,2] (.seq (qs [zM 14 1,zM 15 2,qb 16 .eql 14 15] [0,1,2,16] (qc 16 (qr [zM 17 0,zM 6 17] [6]) .skip)) (qs [zM 18 0,qL 19 18,zM 7 19] [0,1,2,7] (.seq (.uC [(zM 20 0,[]),(zM 21 1,[]),(zA 22 (.Ba sz (.t 20) none (some (.t 21))),[0,1]),(zM 23 0,[]),(zM 24 2,[]),(zA 25 (.Ba sz (.t 23) (some (.t 24)) none),[3,4]),(zA 26 (.abv 10 sz cb (.t 22) (.t 25)),OQ),(zM 0 26,V9)] [0,7]) (qs [zM 27 0,zM 28 0,qL 29 28,zM 30 7,zA 31 (.Ba sz (.t 27) (some (.t 29)) (some (.t 30))),zS (.adF sz z (.t 31))] [0] (qr [zM 32 0,zM 6 32] [6])))))))
def C.cmp_isNaN_int : dK:=qs [qB 2 false] [0]<|qr [zM 3 0,zM 4 0,qb 5 .neq 3 4,zM 2 5] [2]
theorem K.cmp_isNaN_int : jO pZ 226 1 0 C.cmp_isNaN_int [.tmp 2]=true:=lT
def C.cmp_Compare_int : dK:=qs [qI 4 0] [0,1]<|qs [zM 7 0,q1 8 226 7,zM 5 8] [0,1,5]<|qs [zM 9 1,q1 10 226 9,zM 6 10] [0,1,5,6]<|.seq (qs [zM 11 5] [0,1,6,11]<|qc 11 (.seq (qs [zM 12 6] [12]<|qc 12 (qr [qI 4 0] [4]) .skip)<|qr [qI 4 (-1)] [4]) .skip)<|.seq (qs [zM 13 6] [0,1,13]<|qc 13 (qr [qI 4 1] [4]) .skip)<|.seq (qs [zM 14 0,zM 15 1,qb 16 .lss 14 15] [0,1,16]<|qc 16 (qr [qI 4 (-1)] [4]) .skip)<|.seq (qs [zM 17 0,zM 18 1,qb 19 .gtr 17 18] [19]<|qc 19 (qr [qI 4 1] [4]) .skip)<|qr [qI 4 0] [4]
theorem K.cmp_Compare_int : jO pZ 223 2 0 C.cmp_Compare_int [.tmp 4]=true:=lT
def C.cmp_isNaN_string : dK:=qs [qB 2 false] [0]<|qr [zM 3 0,zM 4 0,qb 5 .neq 3 4,zM 2 5] [2]
theorem K.cmp_isNaN_string : jO pZ 206 1 0 C.cmp_isNaN_string [.tmp 2]=true:=lT
def C.cmp_Less_string : dK:=qs [qB 4 false] [0,1]<|qr [zM 5 0,q1 6 206 5,zM 7 6,qm 7 true 8 1,⟨(some (7,true)),some 9,.call 206 [.t 8]⟩,zG 7 true 10 (.not<|.t 9),qP 11 7 10,zM 12 11,qm 12 false 13 0,qm 12 false 14 1,zG 12 false 15 (.bin .lss (.t 13)<|.t 14),qQ 16 12 15,zM 4 16] [4]
theorem K.cmp_Less_string : jO pZ 186 2 0 C.cmp_Less_string [.tmp 4]=true:=lT
def C.bC : dK:=qs [qX 1 10 0,qZ 2 11] [1,2]<|qs [qA 6 0 1,qF 7 1 6,qA 8 1 1,qF 9 1 8,qA 10 2 1,qF 11 1 10,zA 12 (.build zN [(0,1,.t 7),(1,1,.t 9),(2,1,.t 11)]),qZ 3 12,qS 5 3 12] [1,2,3]<|.cut (qs [qA 13 3 1,qF 14 1 13,qL 15 14,qk 16 .gtr 15 0] [1,2,3,16]<|qc 16 (qs [qA 17 3 1,qF 18 1 17,qL 19 18,zA 20 (.makes 13 1 16 [.str []] (.t 19)<|.t 19),qA 21 3 3,qU 1 21 20] [1,2,3]<|.reg [qA 22 3 3,qF 23 1 22,qA 24 3 1,qF 25 1 24,zA 26 (.copy 1 (.t 23)<|.t 25)] [1,2,3]) .skip)<|.seq (qs [qA 27 4 1,qF 28 1 27,qL 29 28,qk 30 .gtr 29 0] [1,2,3,30]<|qc 30 (qs [qA 31 4 1,qF 32 1 31,qL 33 32,zA 34 (.makes 14 5 80 [.lit (.int .i64 0),.lit (.int .i64 0),.str [],.sl 1 [],.sl 5 []] (.t 33)<|.t 33),qA 35 4 3,qU 1 35 34] [1,2,3]<|qs [qA 36 4 1,qF 37 1 36,qL 38 37,qI 39 0] [2,3,37,38,39]<|.block 0<|.loop<|qs [qb 40 .lss 39 38] [2,3,37,38,39,40]<|.seq (qc 40 .skip<|.exit 0)<|.seq (.block 1<|qs [zM 41 39,qD 42 5 37 39,qT 43 5 42,qZ 5 15,zM 4 41,qS 5 5 43] [2,3,4,5,37,38,39]<|.uC [(qA 44 4 3,[]),(qF 45 1 44,[0]),(zM 46 4,[]),(qT 47 5 5,[]),(q1 48 124 47,[3]),(qD 49 5 45 46,OA),(qS 5 49 48,OQ)] [2,3,37,38,39])<|.reg [qk 50 .add 39 1,zM 39 50] [2,3,37,38,39]) .skip)<|qr [qT 51 5 3,qS 5 2 51] [2]
theorem K.bC : jO pZ 124 1 0 C.bC [.cell 2 true 5]=true:=lT
def C.slices_isNaN_string : dK:=qs [qB 2 false] [0]<|qr [zM 3 0,zM 4 0,qb 5 .neq 3 4,zM 2 5] [2]
theorem K.slices_isNaN_string : jO pZ 187 1 0 C.slices_isNaN_string [.tmp 2]=true:=lT
def C.slices_BinarySearch_string : dK:=qs [qI 4 0,qB 5 false] [0,1]<|qs [zM 10 0,qL 11 10,zM 6 11] [0,1,6]<|qs [zM 12 6,qI 7 0,zM 8 12] [0,1,6,7,8]<|.seq (.block 0<|.loop<|.seq (qs [zM 13 7,zM 14 8,qb 15 .lss 13 14] [0,1,6,7,8,15]<|qc 15 .skip<|.exit 0)<|.block 1<|qs [zM 16 7,zM 17 8,qb 18 .add 16 17,zA 19 (.L6 .u64<|.t 18),zA 20 (.shf false (.t 19)<|.k<|.c<|.lit<|.int .u64 1),zA 21 (.L6 .i64<|.t 20),zM 9 21] [0,1,6,7,8,9]<|qs [zM 22 0,zM 23 9,qD 24 1 22 23,qF 25 1 24,zM 26 1,q2 27 186 25 26] [0,1,6,7,8,9,27]<|qc 27 (.reg [zM 28 9,qk 29 .add 28 1,zM 7 29] [0,1,6,7,8])<|.reg [zM 30 9,zM 8 30] [0,1,6,7,8])<|qr [zM 31 7,zM 32 7,zM 33 6,qb 34 .lss 32 33,zM 35 34,qm 35 true 36 0,qm 35 true 37 7,zG 35 true 38 (.Ai 1 (.t 36)<|.t 37),zG 35 true 39 (.load false 1<|.t 38),qm 35 true 40 1,zG 35 true 41 (.bin .eql (.t 39)<|.t 40),qm 35 true 42 41,qm 42 false 43 0,qm 42 false 44 7,zG 42 false 45 (.Ai 1 (.t 43)<|.t 44),zG 42 false 46 (.load false 1<|.t 45),⟨(some (42,false)),some 47,.call 187 [.t 46]⟩,qm 42 false 48 47,qm 48 true 49 1,⟨(some (48,true)),some 50,.call 187 [.t 49]⟩,zG 42 false 51 (.pick (.t 48) (.t 50)<|kB false),zG 35 true 52 (.pick (.t 42) (kB true)<|.t 51),qP 53 35 52,zM 4 31,zM 5 53] [4,5]
theorem K.slices_BinarySearch_string : jO pZ 171 2 0 C.slices_BinarySearch_string [.tmp 4,.tmp 5]=true:=lT
def C.gQ : dK:=qs [qX 2 10 0,qI 4 0,qB 5 false] [1,2]<|.seq (qs [qA 7 0 2,qF 8 1 7] [1,2,8]<|.block 0<|qs [qk 10 .eql 8 4,zM 9 10] [1,2,8,9]<|qc 9 (qr [qA 11 3 2,qF 12 1 11,zM 13 1,q2 14 171 12 13,qE 15 14 0,qE 16 14 1,zM 4 15,zM 5 16] [4,5])<|qs [qk 18 .eql 8 3,zM 17 18] [1,2,17]<|qc 17 (qs [qA 19 4 2,qF 20 1 19,qL 21 20,qI 22 0] [1,21,22]<|.block 1<|.loop<|qs [qb 23 .lss 22 21] [1,21,22,23]<|.seq (qc 23 .skip<|.exit 1)<|.seq (.block 2<|qs [zM 24 22,zM 6 24] [1,6,21,22]<|qs [zM 25 6,q1 26 148 25,zM 27 1,qb 28 .eql 26 27] [1,6,21,22,28]<|qc 28 (qr [zM 29 6,zM 4 29,qB 5 true] [4,5]) .skip)<|.reg [qk 30 .add 22 1,zM 22 30] [1,21,22]) .skip)<|qr [qI 4 0,qB 5 false] [4,5]
theorem K.gQ : jO pZ 201 2 0 C.gQ [.tmp 4,.tmp 5]=true:=lT
def C.jf : dK:=C.ins 5 80 210 [.lit (.int .i64 0),.lit (.int .i64 0),.str [],.sl 1 [],.sl 5 []]
theorem K.jf : LU pZ 189 3 2 C.jf [.tmp 6]=true:=lT
def C.mZ : dK:=C.ins 1 16 208 [.str []]
theorem K.mZ : LU pZ 188 3 2 C.mZ [.tmp 6]=true:=lT
def C.pV : dK:=qs [qX 5 10 2] [0,1,5]<|qs [zM 9 0,qN 10 9,qA 11 3 10,qF 12 1 11,zM 13 1,q2 14 171 12 13,zM 8 14,qE 15 8 0,qE 16 8 1,zM 6 15,zM 7 16] [0,1,5,6,7]<|.seq (qs [zM 17 7] [0,1,5,6,17]<|qc 17 (.seq (.uC [(zM 18 0,[]),(qN 19 18,[0]),(qA 20 4 19,[0,1]),(qF 21 1 20,[0,1,2]),(zM 22 6,[]),(qT 23 5 5,[]),(qD 24 5 21 22,OQ),(qS 5 24 23,V9)] []) .ret) .skip)<|qs [zM 25 0,zM 26 0,qN 27 26,qA 28 3 27,qF 29 1 28,zM 30 6,zM 31 1,zA 32 (.uB 11 1 1 [.str []] [(0,.t 31)]),q3 33 188 29 30 32,qN 34 25,qA 35 3 34,qU 1 35 33] [0,5,6]<|.uC [(zM 36 0,[]),(zM 37 0,[]),(qN 38 37,[1]),(qA 39 4 38,[1,2]),(qF 40 1 39,[1,2,3]),(zM 41 6,[]),(qT 42 5 5,[]),(zA 43 (.uB 12 5 1 [.lit (.int .i64 0),.lit (.int .i64 0),.str [],.sl 1 [],.sl 5 []] [(0,.t 42)]),[6]),(q3 44 189 40 41 43,[1,2,3,4,5,6,7]),(qN 45 36,TT),(qA 46 4 45,FB),(qU 1 46 44,Oz)] []
theorem K.pV : jO pZ 172 3 3 C.pV []=true:=lT
def C.lX : dK:=qs [qX 3 10 0,qX 5 11 2,qZ 6 12,qB 7 false] [1,3,5,6]<|qs [qT 11 5 3,q1 12 124 11,qZ 8 13,qS 5 8 12] [1,3,5,6,8]<|.seq (qs [qA 13 0 3,qF 14 1 13] [1,3,5,6,8,14]<|.block 0<|qs [qk 16 .eql 14 4,zM 15 16] [1,3,5,6,8,14,15]<|qc 15 (qs [zM 17 1,qT 18 5 5,q1 19 124 18,q3 20 172 8 17 19] [6,8]<|qr [qT 21 5 8,qS 5 6 21,qB 7 true] [6,7])<|qs [qk 23 .eql 14 3,zM 22 23] [1,3,5,6,8,22]<|qc 22 (qs [qT 25 5 3,zM 26 1,q2 27 201 25 26,zM 24 27,qE 28 24 0,qE 29 24 1,zM 9 28,zM 10 29] [1,3,5,6,8,9,10]<|.cut (qs [zM 30 10,qO 31 30,zM 32 31,qm 32 true 33 1,zG 32 true 34 (.bin .eql (.t 33)<|.k<|.c<|.str [45]),qm 32 true 35 34,qm 35 false 36 1,zG 35 false 37 (.nK 4<|.t 3),zG 35 false 38 (.load false 1<|.t 37),zG 35 false 39 (.len<|.t 38),⟨(some (35,false)),some 40,.call 148 [.t 39]⟩,zG 35 false 41 (.bin .eql (.t 36)<|.t 40),zG 32 true 42 (.pick (.t 35) (kB true)<|.t 41),qP 43 32 42] [3,5,6,8,9,10,43]<|qc 43 (.reg [qA 44 4 3,qF 45 1 44,qL 46 45,zM 9 46,qB 10 true] [5,6,8,9,10]) .skip)<|.seq (qs [zM 47 10,qO 48 47] [5,6,8,9,48]<|qc 48 (qr [zA 49 (.build zN []),qS 5 6 49,qB 7 false] [6,7]) .skip)<|.seq (.uC [(qA 50 4 8,[]),(qF 51 1 50,[0]),(zM 52 9,[]),(qT 53 5 5,[]),(q1 54 124 53,[3]),(zA 55 (.uB 14 5 1 [.lit (.int .i64 0),.lit (.int .i64 0),.str [],.sl 1 [],.sl 5 []] [(0,.t 54)]),[3,4]),(q3 56 189 51 52 55,OQ),(qA 57 4 8,V9),(qU 1 57 56,Oh)] [6,8])<|qr [qT 58 5 8,qS 5 6 58,qB 7 true] [6,7]) .skip)<|qr [zA 59 (.build zN []),qS 5 6 59,qB 7 false] [6,7]
theorem K.lX : jO pZ 199 3 0 C.lX [.cell 6 true 5,.tmp 7]=true:=lT
def C.vC : dK:=qs [qX 4 10 0,qZ 5 11,qB 6 false] [1,2,3,4,5]<|.seq (.uC [(qT 7 5 4,[]),(qF 8 1 1,[]),(qF 9 1 2,[]),(qD 10 1 8 9,[1,2]),(qF 11 1 10,[1,2,3]),(qT 12 5 3,[]),(q3 13 199 7 11 12,OQ),(qE 14 13 0,V9),(qE 15 13 1,V9),(qS 5 5 14,TT),(zM 6 15,FB)] [5,6]) .ret
theorem K.vC : jO pZ 198 4 3 C.vC [.cell 5 true 5,.tmp 6]=true:=lT
def C.gI : dK:=qs [qB 2 false] [0]<|.seq (qs [zM 4 0,ql 5 4,qk 6 .gtr 5 12] [0,6]<|qc 6 (qr [qB 2 false] [2]) .skip)<|.seq (qs [qI 3 0] [0,3]<|.block 0<|.loop<|.seq (qs [zM 7 3,zM 8 0,ql 9 8,qb 10 .lss 7 9] [0,3,10]<|qc 10 .skip<|.exit 0)<|.seq (.block 1<|qs [zM 13 0,zM 14 3,zA 15 (.idxs (.t 13)<|.t 14),zA 16 (.bin .lss (.t 15)<|.k<|.c<|.lit<|.int .u8 32),zM 17 16,qm 17 false 18 0,qm 17 false 19 3,zG 17 false 20 (.idxs (.t 18)<|.t 19),zG 17 false 21 (.bin .gtr (.t 20)<|.k<|.c<|.lit<|.int .u8 126),qQ 22 17 21] [0,3,22]<|qc 22 (qr [qB 2 false] [2]) .skip)<|.reg [zM 11 3,qk 12 .add 11 1,zM 3 12] [0,3])<|qr [qB 2 true] [2]
theorem K.gI : jO pZ 163 1 0 C.gI [.tmp 2]=true:=lT
def C.kM : dK:=qs [qB 2 false] [0]<|.seq (qs [zM 5 0,qL 6 5,qk 7 .gtr 6 6] [0,7]<|qc 7 (qr [qB 2 false] [2]) .skip)<|.seq (qs [zM 8 0,qL 9 8,qI 10 0] [0,8,9,10]<|.block 0<|.loop<|qs [qb 11 .lss 10 9] [0,8,9,10,11]<|.seq (qc 11 .skip<|.exit 0)<|.seq (.block 1<|qs [zM 12 10,qD 13 1 8 10,qF 14 1 13,zM 3 12,zM 4 14] [0,3,4,8,9,10]<|qs [zM 15 4,q1 16 163 15,qO 17 16,zM 18 17,qm 18 false 19 3,zG 18 false 20 (.bin .gtr (.t 19)<|kI 0),qm 18 false 21 20,qm 21 true 22 0,qm 21 true 23 3,zG 21 true 24 (.bin .sub (.t 23)<|kI 1),zG 21 true 25 (.Ai 1 (.t 22)<|.t 24),zG 21 true 26 (.load false 1<|.t 25),qm 21 true 27 4,zG 21 true 28 (.bin .geq (.t 26)<|.t 27),zG 18 false 29 (.pick (.t 21) (.t 28)<|kB false),qQ 30 18 29] [0,8,9,10,30]<|qc 30 (qr [qB 2 false] [2]) .skip)<|.reg [qk 31 .add 10 1,zM 10 31] [0,8,9,10])<|qr [qB 2 true] [2]
theorem K.kM : jO pZ 164 1 0 C.kM [.tmp 2]=true:=lT
def C.gV : dK:=qs [qX 1 10 0,qB 2 false] [1]<|.cut (qs [qA 3 0 1,qF 4 1 3,qk 5 .neq 4 1,zM 6 5,zG 6 true 7 (.nK 1<|.t 1),zG 6 true 8 (.load false 1<|.t 7),zG 6 true 9 (.bin .neq (.t 8)<|kI 0),qP 10 6 9,zM 11 10,zG 11 false 12 (.nK 0<|.t 1),zG 11 false 13 (.load false 1<|.t 12),zG 11 false 14 (.bin .neq (.t 13)<|kI 2),qm 11 false 15 14,zG 15 true 16 (.nK 2<|.t 1),zG 15 true 17 (.load false 1<|.t 16),zG 15 true 18 (.bin .neq (.t 17)<|.k<|.c<|.str []),zG 11 false 19 (.pick (.t 15) (.t 18)<|kB false),qQ 20 11 19] [1,20]<|qc 20 (qr [qB 2 false] [2]) .skip)<|.seq (qs [qA 21 0 1,qF 22 1 21,qk 23 .neq 22 4,zM 24 23,zG 24 true 25 (.nK 3<|.t 1),zG 24 true 26 (.load false 1<|.t 25),zG 24 true 27 (.len<|.t 26),zG 24 true 28 (.bin .gtr (.t 27)<|kI 0),qP 29 24 28] [1,29]<|qc 29 (qr [qB 2 false] [2]) .skip)<|.seq (qs [qA 30 0 1,qF 31 1 30] [1,31]<|.block 0<|qs [qk 33 .eql 31 0,zM 32 33] [1,31,32]<|qc 32 (qr [qA 34 4 1,qF 35 1 34,qL 36 35,qk 37 .eql 36 0,zM 2 37] [2])<|qs [qk 39 .eql 31 1,zM 38 39] [1,31,38]<|qc 38 (qr [qA 40 1 1,qF 41 1 40,qk 42 .geq 41 (-999999),zM 43 42,zG 43 true 44 (.nK 1<|.t 1),zG 43 true 45 (.load false 1<|.t 44),zG 43 true 46 (.bin .leq (.t 45)<|kI 999999),qP 47 43 46,zM 48 47,zG 48 true 49 (.nK 4<|.t 1),zG 48 true 50 (.load false 1<|.t 49),zG 48 true 51 (.len<|.t 50),zG 48 true 52 (.bin .eql (.t 51)<|kI 0),qP 53 48 52,zM 2 53] [2])<|qs [qk 55 .eql 31 2,zM 54 55] [1,31,54]<|qc 54 (qr [qA 56 2 1,qF 57 1 56,q1 58 163 57,zM 59 58,zG 59 true 60 (.nK 4<|.t 1),zG 59 true 61 (.load false 1<|.t 60),zG 59 true 62 (.len<|.t 61),zG 59 true 63 (.bin .eql (.t 62)<|kI 0),qP 64 59 63,zM 2 64] [2])<|qs [qk 66 .eql 31 3,zM 65 66] [1,31,65]<|qc 65 (qr [qA 67 4 1,qF 68 1 67,qL 69 68,qk 70 .leq 69 6,zM 2 70] [2])<|qs [qk 72 .eql 31 4,zM 71 72] [1,71]<|qc 71 (qr [qA 73 3 1,qF 74 1 73,q1 75 164 74,zM 76 75,zG 76 true 77 (.nK 4<|.t 1),zG 76 true 78 (.load false 1<|.t 77),zG 76 true 79 (.len<|.t 78),zG 76 true 80 (.nK 3<|.t 1),zG 76 true 81 (.load false 1<|.t 80),zG 76 true 82 (.len<|.t 81),zG 76 true 83 (.bin .eql (.t 79)<|.t 82),qP 84 76 83,zM 2 84] [2]) .skip)<|qr [qB 2 false] [2]
theorem K.gV : jO pZ 144 1 0 C.gV [.tmp 2]=true:=lT
def C.gz : dK:=qs [qX 2 10 0,qI 4 0,qI 5 0,qB 6 false] [1,2]<|.seq (qs [zM 12 1,qk 13 .gtr 12 5,zM 14 13,zG 14 false 15 (.load true 5<|.t 2),⟨(some (14,false)),some 16,.call 144 [.t 15]⟩,zG 14 false 17 (.not<|.t 16),qQ 18 14 17] [1,2,18]<|qc 18 (qr [qI 4 0,qI 5 0,qB 6 false] [4,5,6]) .skip)<|qs [qI 4 1,qI 5 1] [1,2,4,5]<|.seq (qs [qA 19 4 2,qF 20 1 19,qL 21 20,qI 22 0] [1,4,5,20,21,22]<|.block 0<|.loop<|qs [qb 23 .lss 22 21] [1,4,5,20,21,22,23]<|.seq (qc 23 .skip<|.exit 0)<|.seq (.block 1<|qs [qD 24 5 20 22,qT 25 5 24,qZ 8 11,qS 5 8 25] [1,4,5,8,20,21,22]<|qs [qT 27 5 8,zM 28 1,qk 29 .add 28 1,q2 30 119 27 29,zM 26 30,qE 31 26 0,qE 32 26 1,qE 33 26 2,zM 9 31,zM 10 32,zM 11 33] [1,4,5,9,10,11,20,21,22]<|.seq (qs [zM 34 11,qO 35 34] [1,4,5,9,10,20,21,22,35]<|qc 35 (qr [qI 4 0,qI 5 0,qB 6 false] [4,5,6]) .skip)<|qs [zM 36 4,zM 37 9,qb 38 .add 36 37,zM 4 38] [1,4,5,10,20,21,22]<|.reg [zM 39 5,zM 40 10,qk 41 .add 40 1,zA 42 (.max (.t 39)<|.t 41),zM 5 42] [1,4,5,20,21,22])<|.reg [qk 43 .add 22 1,zM 22 43] [1,4,5,20,21,22])<|qr [zM 44 4,zM 45 5,zM 4 44,zM 5 45,qB 6 true] [4,5,6]
theorem K.gz : jO pZ 119 2 0 C.gz [.tmp 4,.tmp 5,.tmp 6]=true:=lT
def C.dm : dK:=qs [qX 1 10 0,qB 2 false] [1]<|qs [qT 7 5 1,⟨none,some 8,.call 119 [.t 7,kI 1]⟩,zM 6 8,qE 9 6 0,qE 10 6 1,qE 11 6 2,zM 3 9,zM 4 10,zM 5 11] [3,5]<|qr [zM 12 5,zM 13 12,qm 13 true 14 3,zG 13 true 15 (.bin .leq (.t 14)<|kI 40),qP 16 13 15,zM 2 16] [2]
theorem K.dm : jO pZ 92 1 0 C.dm [.tmp 2]=true:=lT
def C.Dc : dK:=qs [qX 3 10 0,qZ 6 11,qB 7 false] [1,2,3,6]<|.seq (qs [zM 12 1,qL 13 12,qk 14 .eql 13 0] [1,2,3,6,14]<|qc 14 (qr [zM 15 2,qT 16 5 3,⟨none,some 17,.IP (.t 15) [.t 16]⟩,qE 18 17 0,qE 19 17 1,qS 5 6 18,zM 7 19] [6,7]) .skip)<|.seq (.uC [(qT 21 5 3,[]),(zM 22 1,[]),(zA 23 (.Ai 1 (.t 22)<|kI 0),[1]),(qF 24 1 23,[1,2]),(q2 25 201 21 24,PO),(zM 20 25,OA),(qE 26 20 0,OQ),(qE 27 20 1,OQ),(zM 8 26,V9),(zM 9 27,TT)] [1,2,3,6,8,9])<|.seq (qs [zM 28 9,qO 29 28] [1,2,3,6,8,29]<|qc 29 (qr [zA 30 (.build zN []),qS 5 6 30,qB 7 false] [6,7]) .skip)<|.seq (.uC [(qA 32 4 3,[]),(qF 33 1 32,[0]),(zM 34 8,[]),(qD 35 5 33 34,[0,1,2]),(qT 36 5 35,PO),(zM 37 1,[]),(zA 38 (.Iu 1 (.t 37) (some<|kI 1) none),[5]),(zM 39 2,[]),(q3 40 197 36 38 39,Oh),(zM 31 40,TT),(qE 41 31 0,FB),(qE 42 31 1,FB),(qZ 10 12,[]),(qS 5 10 41,[0,1,2,3,4,5,6,7,8,9,10,12]),(zM 9 42,adE)] [3,6,8,9,10])<|.seq (qs [zM 43 9,qO 44 43] [3,6,8,10,44]<|qc 44 (qr [zA 45 (.build zN []),qS 5 6 45,qB 7 false] [6,7]) .skip)<|qs [qT 46 5 3,q1 47 124 46,qZ 11 13,qS 5 11 47] [6,8,10,11]<|qs [qA 48 4 11,qF 49 1 48,zM 50 8,qT 51 5 10,qD 52 5 49 50,qS 5 52 51] [6,11]<|qr [qT 53 5 11,qS 5 6 53,qB 7 true] [6,7]
theorem K.jF : jO pZ 197 3 3 C.Dc [.cell 6 true 5,.tmp 7]=true:=lT
def C.pU : dK:=qs [qX 2 10 0,qZ 4 11,qB 5 false] [1,2,4]<|.seq (qs [zM 6 1,qO 7 6,zM 8 7,zG 8 false 9 (.load true 5<|.t 2),⟨(some (8,false)),some 10,.call 92 [.t 9]⟩,zG 8 false 11 (.not<|.t 10),qQ 12 8 11] [2,4,12]<|qc 12 (qr [zA 13 (.build zN []),qS 5 4 13,qB 5 false] [4,5]) .skip)<|qr [qT 14 5 2,qS 5 4 14,qB 5 true] [4,5]
theorem K.pU : jO pZ 154 2 0 C.pU [.cell 4 true 5,.tmp 5]=true:=lT
def C.jv : dK:=qs [qB 2 false] [0]<|.seq (qs [zM 5 0,qL 6 5,qk 7 .gtr 6 5] [0,7]<|qc 7 (qr [qB 2 false] [2]) .skip)<|.seq (qs [zM 8 0,qL 9 8,qI 10 0] [8,9,10]<|.block 0<|.loop<|qs [qb 11 .lss 10 9] [8,9,10,11]<|.seq (qc 11 .skip<|.exit 0)<|.seq (.block 1<|qs [qD 12 1 8 10,qF 13 1 12,zM 4 13] [4,8,9,10]<|qs [zM 14 4,q1 15 163 14,qO 16 15] [8,9,10,16]<|qc 16 (qr [qB 2 false] [2]) .skip)<|.reg [qk 17 .add 10 1,zM 10 17] [8,9,10])<|qr [qB 2 true] [2]
theorem K.jv : jO pZ 145 1 0 C.jv [.tmp 2]=true:=lT
def C.oQ : dK:=qs [qX 3 10 0,qX 4 11 1,qX 5 12 2,qZ 6 13,qB 7 false] [3,4,5,6]<|.seq (qs [qT 9 5 3,q1 10 92 9,qO 11 10,zM 12 11,zG 12 false 13 (.load false 1<|.t 4),⟨(some (12,false)),some 14,.call 145 [.t 13]⟩,zG 12 false 15 (.not<|.t 14),qQ 16 12 15,zM 17 16,zG 17 false 18 (.load true 5<|.t 5),⟨(some (17,false)),some 19,.call 92 [.t 18]⟩,zG 17 false 20 (.not<|.t 19),qQ 21 17 20] [3,4,5,6,21]<|qc 21 (qr [zA 22 (.build zN []),qS 5 6 22,qB 7 false] [6,7]) .skip)<|.seq (qs [qF 23 1 4,qL 24 23,qk 25 .eql 24 0] [3,4,5,6,25]<|qc 25 (qr [qT 26 5 5,q1 27 124 26,qS 5 6 27,qB 7 true] [6,7]) .skip)<|qs [qF 28 1 4,qL 29 28,qk 30 .sub 29 1,zA 8 (.alloc 14 [qy 0]),qU 1 8 30] [3,4,5,6,8]<|.seq (.uC [(qT 31 5 3,[]),(qF 32 1 4,[]),(qF 33 1 8,[]),(zA 34 (.Iu 1 (.t 32) none<|some<|.t 33),[1,2]),(zA 35 (.Y6 198 [.t 4,.t 8,.t 5]),[]),(q3 36 197 31 34 35,OA),(qE 37 36 0,OQ),(qE 38 36 1,OQ),(q2 39 154 37 38,Oh),(qE 40 39 0,TT),(qE 41 39 1,TT),(qS 5 6 40,Oz),(zM 7 41,Ul)] [6,7]) .ret
theorem K.oQ : jO pZ 178 3 0 C.oQ [.cell 6 true 5,.tmp 7]=true:=lT
def C.kN : dK:=qs [qX 2 10 0,qZ 4 11,qB 5 false] [1,2,4]<|.seq (qs [zM 10 1,qL 11 10,qI 12 0] [2,4,10,11,12]<|.block 0<|.loop<|qs [qb 13 .lss 12 11] [2,4,10,11,12,13]<|.seq (qc 13 .skip<|.exit 0)<|.seq (.block 1<|qs [qD 14 1 10 12,qF 15 1 14,zM 7 15] [2,4,7,10,11,12]<|qs [qT 17 5 2,zM 18 7,q2 19 201 17 18,zM 16 19,qE 20 16 0,qE 21 16 1,zM 8 20,zM 9 21] [2,4,8,9,10,11,12]<|.seq (qs [zM 22 9,qO 23 22] [2,4,8,10,11,12,23]<|qc 23 (qr [zA 24 (.build zN []),qS 5 4 24,qB 5 false] [4,5]) .skip)<|.reg [qA 25 4 2,qF 26 1 25,zM 27 8,qD 28 5 26 27,qT 29 5 28,qS 5 2 29] [2,4,10,11,12])<|.reg [qk 30 .add 12 1,zM 12 30] [2,4,10,11,12])<|qr [qT 31 5 2,qS 5 4 31,qB 5 true] [4,5]
theorem K.kN : jO pZ 204 2 0 C.kN [.cell 4 true 5,.tmp 5]=true:=lT
def C.uO : dK:=qs [qX 2 10 0,qZ 4 11,qB 5 false] [1,2,4]<|.seq (qs [qT 8 5 2,q1 9 92 8,qO 10 9,zM 11 10,qm 11 false 12 1,⟨(some (11,false)),some 13,.call 145 [.t 12]⟩,zG 11 false 14 (.not<|.t 13),qQ 15 11 14] [1,2,4,15]<|qc 15 (qr [zA 16 (.build zN []),qS 5 4 16,qB 5 false] [4,5]) .skip)<|qs [qT 18 5 2,zM 19 1,q2 20 204 18 19,zM 17 20,qE 21 17 0,qE 22 17 1,qZ 6 12,qS 5 6 21,zM 7 22] [4,6,7]<|.seq (qs [zM 23 7,qO 24 23] [4,6,24]<|qc 24 (qr [zA 25 (.build zN []),qS 5 4 25,qB 5 false] [4,5]) .skip)<|qr [qT 26 5 6,q1 27 124 26,qS 5 4 27,qB 5 true] [4,5]
theorem K.uO : jO pZ 182 2 0 C.uO [.cell 4 true 5,.tmp 5]=true:=lT
def C.jW : dK:=C.del 5 80 [.lit (.int .i64 0),.lit (.int .i64 0),.str [],.sl 1 [],.sl 5 []]
theorem K.jW : LU pZ 185 3 1 C.jW [.tmp 6]=true:=lT
def C.slices_Delete_string : dK:=C.del 1 16 [.str []]
theorem K.slices_Delete_string : LU pZ 184 3 1 C.slices_Delete_string [.tmp 6]=true:=lT
def C.jq : dK:=qs [qX 3 10 0,qZ 4 11,qB 5 false] [1,2,3,4]<|.seq (.uC [(qT 10 5 3,[]),(qF 11 1 1,[]),(qF 12 1 2,[]),(qD 13 1 11 12,[1,2]),(qF 14 1 13,[1,2,3]),(q2 15 201 10 14,OA),(zM 9 15,OQ),(qE 16 9 0,V9),(qE 17 9 1,V9),(zM 6 16,Oh),(zM 7 17,FB)] [3,4,6,7])<|.seq (qs [zM 18 7,qO 19 18] [3,4,6,19]<|qc 19 (qr [zA 20 (.build zN []),qS 5 4 20,qB 5 false] [4,5]) .skip)<|qs [qT 21 5 3,q1 22 124 21,qZ 8 12,qS 5 8 22] [3,4,6,8]<|.cut (qs [qA 23 0 3,qF 24 1 23,qk 25 .eql 24 4] [4,6,8,25]<|qc 25 (.reg [qA 26 3 8,qF 27 1 26,zM 28 6,zM 29 6,qk 30 .add 29 1,q3 31 184 27 28 30,qA 32 3 8,qU 1 32 31] [4,6,8]) .skip)<|qs [qA 33 4 8,qF 34 1 33,zM 35 6,zM 36 6,qk 37 .add 36 1,q3 38 185 34 35 37,qA 39 4 8,qU 1 39 38] [4,8]<|qr [qT 40 5 8,qS 5 4 40,qB 5 true] [4,5]
theorem K.jq : jO pZ 200 3 2 C.jq [.cell 4 true 5,.tmp 5]=true:=lT
theorem K.jb : jO pZ 197 3 2 C.Dc [.cell 6 true 5,.tmp 7]=true:=lT
def C.mF : dK:=qs [qX 2 10 0,qX 3 11 1,qZ 4 12,qB 5 false] [2,3,4]<|.seq (qs [qT 7 5 2,q1 8 92 7,qO 9 8,zM 10 9,zG 10 false 11 (.load false 1<|.t 3),⟨(some (10,false)),some 12,.call 145 [.t 11]⟩,zG 10 false 13 (.not<|.t 12),qQ 14 10 13,zM 15 14,zG 15 false 16 (.load false 1<|.t 3),zG 15 false 17 (.len<|.t 16),zG 15 false 18 (.bin .eql (.t 17)<|kI 0),qQ 19 15 18] [2,3,4,19]<|qc 19 (qr [zA 20 (.build zN []),qS 5 4 20,qB 5 false] [4,5]) .skip)<|qs [qF 21 1 3,qL 22 21,qk 23 .sub 22 1,zA 6 (.alloc 13 [qy 0]),qU 1 6 23] [2,3,4,6]<|.seq (.uC [(qT 24 5 2,[]),(qF 25 1 3,[]),(qF 26 1 6,[]),(zA 27 (.Iu 1 (.t 25) none<|some<|.t 26),[1,2]),(zA 28 (.Y6 200 [.t 3,.t 6]),[]),(q3 29 197 24 27 28,OA),(qE 30 29 0,OQ),(qE 31 29 1,OQ),(qS 5 4 30,Oh),(zM 5 31,TT)] [4,5]) .ret
theorem K.mF : jO pZ 179 2 0 C.mF [.cell 4 true 5,.tmp 5]=true:=lT
def C.vF : dK:=qs [qX 2 10 0,qZ 3 11,qB 4 false] [1,3]<|qr [qT 5 5 1,q1 6 124 5,qS 5 3 6,qB 4 true] [3,4]
theorem K.vF : jO pZ 202 2 1 C.vF [.cell 3 true 5,.tmp 4]=true:=lT
theorem K.jG : jO pZ 197 3 1 C.Dc [.cell 6 true 5,.tmp 7]=true:=lT
def C.vP : dK:=qs [qX 3 10 0,qX 5 11 2,qZ 6 12,qB 7 false] [1,3,5,6]<|.seq (qs [qT 8 5 3,q1 9 92 8,qO 10 9,zM 11 10,qm 11 false 12 1,⟨(some (11,false)),some 13,.call 145 [.t 12]⟩,zG 11 false 14 (.not<|.t 13),qQ 15 11 14,zM 16 15,zG 16 false 17 (.load true 5<|.t 5),⟨(some (16,false)),some 18,.call 92 [.t 17]⟩,zG 16 false 19 (.not<|.t 18),qQ 20 16 19] [1,3,5,6,20]<|qc 20 (qr [zA 21 (.build zN []),qS 5 6 21,qB 7 false] [6,7]) .skip)<|qr [qT 22 5 3,zM 23 1,zA 24 (.Y6 202 [.t 5]),q3 25 197 22 23 24,qE 26 25 0,qE 27 25 1,q2 28 154 26 27,qE 29 28 0,qE 30 28 1,qS 5 6 29,zM 7 30] [6,7]
theorem K.vP : jO pZ 180 3 0 C.vP [.cell 6 true 5,.tmp 7]=true:=lT
def C.vK : dK:=qs [qX 1 10 0,qB 2 false] [1]<|qr [qA 3 0 1,qF 4 1 3,qk 5 .geq 4 1,zM 6 5,zG 6 true 7 (.nK 0<|.t 1),zG 6 true 8 (.load false 1<|.t 7),zG 6 true 9 (.bin .leq (.t 8)<|kI 6),qP 10 6 9,zM 11 10,zG 11 true 12 (.nK 1<|.t 1),zG 11 true 13 (.load false 1<|.t 12),⟨(some (11,true)),some 14,.call 145 [.t 13]⟩,qP 15 11 14,zM 16 15,zG 16 true 17 (.nK 2<|.t 1),zG 16 true 18 (.load false 1<|.t 17),⟨(some (16,true)),some 19,.call 145 [.t 18]⟩,qP 20 16 19,zM 21 20,zG 21 true 22 (.nK 3<|.t 1),zG 21 true 23 (.load true 5<|.t 22),⟨(some (21,true)),some 24,.call 92 [.t 23]⟩,qP 25 21 24,zM 2 25] [2]
theorem K.vK : jO pZ 120 1 0 C.vK [.tmp 2]=true:=lT
def C.slices_Equal_string : dK:=qs [qB 4 false] [0,1]<|.seq (qs [zM 6 0,qL 7 6,zM 8 1,qL 9 8,qb 10 .neq 7 9] [0,1,10]<|qc 10 (qr [qB 4 false] [4]) .skip)<|.seq (qs [zM 11 0,qL 12 11,qI 13 0] [0,1,12,13]<|.block 0<|.loop<|qs [qb 14 .lss 13 12] [0,1,12,13,14]<|.seq (qc 14 .skip<|.exit 0)<|.seq (.block 1<|qs [zM 15 13,zM 5 15] [0,1,5,12,13]<|.seq (.uC [(zM 16 0,[]),(zM 17 5,[]),(qD 18 1 16 17,[0,1]),(qF 19 1 18,[0,1,2]),(zM 20 1,[]),(zM 21 5,[]),(qD 22 1 20 21,[4,5]),(qF 23 1 22,[4,5,6]),(qb 24 .neq 19 23,Oh)] [0,1,12,13,24])<|qc 24 (qr [qB 4 false] [4]) .skip)<|.reg [qk 25 .add 13 1,zM 13 25] [0,1,12,13])<|qr [qB 4 true] [4]
theorem K.slices_Equal_string : jO pZ 203 2 0 C.slices_Equal_string [.tmp 4]=true:=lT
def C.uJ : dK:=qs [qX 3 10 0,qZ 6 11,qB 7 false] [1,2,3,6]<|qs [qT 12 5 3,zM 13 1,q2 14 182 12 13,zM 11 14,qE 15 11 0,qE 16 11 1,qZ 8 12,qS 5 8 15,zM 9 16] [1,2,3,6,8,9]<|.seq (qs [zM 17 9,qO 18 17] [1,2,3,6,8,18]<|qc 18 (qr [zA 19 (.build zN []),qS 5 6 19,qB 7 false] [6,7]) .skip)<|.seq (qs [zM 20 2,zM 21 1,q2 22 203 20 21] [1,2,3,6,8,22]<|qc 22 (qr [qT 23 5 3,q1 24 124 23,qS 5 6 24,qB 7 true] [6,7]) .skip)<|.seq (qs [zM 25 2,qL 26 25,zM 27 1,qL 28 27,qb 29 .gtr 26 28,zM 30 29,qm 30 true 31 2,qm 30 true 32 1,zG 30 true 33 (.len<|.t 32),zG 30 true 34 (.Iu 1 (.t 31) none<|some<|.t 33),qm 30 true 35 1,⟨(some (30,true)),some 36,.call 203 [.t 34,.t 35]⟩,qP 37 30 36] [1,2,3,6,8,37]<|qc 37 (qr [zA 38 (.build zN []),qS 5 6 38,qB 7 false] [6,7]) .skip)<|qs [qT 40 5 3,zM 41 1,q2 42 179 40 41,zM 39 42,qE 43 39 0,qE 44 39 1,qZ 10 13,qS 5 10 43,zM 9 44] [2,6,8,9,10]<|.seq (qs [zM 45 9,qO 46 45] [2,6,8,10,46]<|qc 46 (qr [zA 47 (.build zN []),qS 5 6 47,qB 7 false] [6,7]) .skip)<|qr [qT 48 5 10,zM 49 2,qT 50 5 8,q3 51 178 48 49 50,qE 52 51 0,qE 53 51 1,qS 5 6 52,zM 7 53] [6,7]
theorem K.uJ : jO pZ 181 3 0 C.uJ [.cell 6 true 5,.tmp 7]=true:=lT
def C.iH : dK:=qs [qI 4 0] [0,1]<|qr [zM 5 0,zM 6 1,zA 7 (.afC (.t 5)<|.t 6),zM 4 7] [4]
theorem K.iH : jO pZ 146 2 0 C.iH [.tmp 4]=true:=lT
def C.strings_Compare : dK:=qs [qI 4 0] [0,1]<|qr [zM 5 0,zM 6 1,q2 7 146 5 6,zM 4 7] [4]
theorem K.strings_Compare : jO pZ 123 2 0 C.strings_Compare [.tmp 4]=true:=lT
def C.dQ : dK:=qs [qX 2 10 0,qX 3 11 1,qI 4 0] [2,3]<|.seq (qs [qA 11 0 2,qF 12 1 11,qA 13 0 3,qF 14 1 13,q2 15 223 12 14,zM 5 15] [2,3,5]<|qs [zM 16 5,qk 17 .neq 16 0] [2,3,5,17]<|qc 17 (qr [zM 18 5,zM 4 18] [4]) .skip)<|.seq (qs [qA 19 1 2,qF 20 1 19,qA 21 1 3,qF 22 1 21,q2 23 223 20 22,zM 6 23] [2,3,6]<|qs [zM 24 6,qk 25 .neq 24 0] [2,3,6,25]<|qc 25 (qr [zM 26 6,zM 4 26] [4]) .skip)<|.seq (qs [qA 27 2 2,qF 28 1 27,qA 29 2 3,qF 30 1 29,q2 31 123 28 30,zM 7 31] [2,3,7]<|qs [zM 32 7,qk 33 .neq 32 0] [2,3,7,33]<|qc 33 (qr [zM 34 7,zM 4 34] [4]) .skip)<|.seq (qs [qI 8 0] [2,3,8]<|.block 0<|.loop<|.seq (qs [zM 35 8,qA 36 4 2,qF 37 1 36,qL 38 37,qb 39 .lss 35 38,zM 40 39,qm 40 true 41 8,zG 40 true 42 (.nK 4<|.t 3),zG 40 true 43 (.load false 1<|.t 42),zG 40 true 44 (.len<|.t 43),zG 40 true 45 (.bin .lss (.t 41)<|.t 44),qP 46 40 45] [2,3,8,46]<|qc 46 .skip<|.exit 0)<|.seq (.block 1<|.cut (qs [qA 49 0 2,qF 50 1 49,qk 51 .eql 50 4] [2,3,8,51]<|qc 51 (.seq (.uC [(qA 52 3 2,[]),(qF 53 1 52,[0]),(zM 54 8,[]),(qD 55 1 53 54,[0,1,2]),(qF 56 1 55,PO),(qA 57 3 3,[]),(qF 58 1 57,[5]),(zM 59 8,[]),(qD 60 1 58 59,[5,6,7]),(qF 61 1 60,[5,6,7,8]),(q2 62 123 56 61,FB),(zM 9 62,Oz)] [2,3,8,9])<|qs [zM 63 9,qk 64 .neq 63 0] [2,3,8,9,64]<|qc 64 (qr [zM 65 9,zM 4 65] [4]) .skip) .skip)<|.seq (.uC [(qA 66 4 2,[]),(qF 67 1 66,[0]),(zM 68 8,[]),(qD 69 5 67 68,[0,1,2]),(qT 70 5 69,PO),(qA 71 4 3,[]),(qF 72 1 71,[5]),(zM 73 8,[]),(qD 74 5 72 73,[5,6,7]),(qT 75 5 74,[5,6,7,8]),(q2 76 218 70 75,FB),(zM 10 76,Oz)] [2,3,8,10])<|qs [zM 77 10,qk 78 .neq 77 0] [2,3,8,10,78]<|qc 78 (qr [zM 79 10,zM 4 79] [4]) .skip)<|.reg [zM 47 8,qk 48 .add 47 1,zM 8 48] [2,3,8])<|qr [qA 80 4 2,qF 81 1 80,qL 82 81,qA 83 4 3,qF 84 1 83,qL 85 84,q2 86 223 82 85,zM 4 86] [4]
theorem K.dQ : jO pZ 218 2 0 C.dQ [.tmp 4]=true:=lT
def C.uK : dK:=qs [qX 2 10 0,qX 3 11 1,qB 4 false] [2,3]<|qr [qT 5 5 2,qT 6 5 3,q2 7 218 5 6,qk 8 .eql 7 0,zM 4 8] [4]
theorem K.uK : jO pZ 205 2 0 C.uK [.tmp 4]=true:=lT
def C.sD : dK:=qs [qX 3 10 0,qX 5 11 2,qZ 6 12,qB 7 false] [1,3,5,6]<|qs [qT 11 5 3,zM 12 1,q2 13 204 11 12,zM 10 13,qE 14 10 0,qE 15 10 1,qZ 8 13,qS 5 8 14,zM 9 15] [3,5,6,8,9]<|.seq (qs [zM 16 9,qO 17 16,zM 18 17,zG 18 false 19 (.load true 5<|.t 8),zG 18 false 20 (.load true 5<|.t 5),⟨(some (18,false)),some 21,.call 205 [.t 19,.t 20]⟩,zG 18 false 22 (.not<|.t 21),qQ 23 18 22] [3,6,23]<|qc 23 (qr [zA 24 (.build zN []),qS 5 6 24,qB 7 false] [6,7]) .skip)<|qr [qT 25 5 3,q1 26 124 25,qS 5 6 26,qB 7 true] [6,7]
theorem K.sD : jO pZ 183 3 0 C.sD [.cell 6 true 5,.tmp 7]=true:=lT
def C.rM : dK:=qs [qX 2 10 0,qX 3 11 1,qZ 4 12,qB 5 false] [2,3,4]<|.seq (qs [qT 8 5 2,q1 9 92 8,qO 10 9,zM 11 10,zG 11 false 12 (.load true 8<|.t 3),⟨(some (11,false)),some 13,.call 120 [.t 12]⟩,zG 11 false 14 (.not<|.t 13),qQ 15 11 14] [2,3,4,15]<|qc 15 (qr [zA 16 (.build zN []),qS 5 4 16,qB 5 false] [4,5]) .skip)<|.seq (qs [qA 17 0 3,qF 18 1 17] [2,3,4,18]<|.block 0<|qs [qk 20 .eql 18 1,zM 19 20] [2,3,4,18,19]<|qc 19 (qr [qT 21 5 2,qA 22 1 3,qF 23 1 22,qA 24 3 3,qT 25 5 24,q3 26 178 21 23 25,qE 27 26 0,qE 28 26 1,qS 5 4 27,zM 5 28] [4,5])<|qs [qk 30 .eql 18 2,zM 29 30] [2,3,4,18,29]<|qc 29 (qr [qT 31 5 2,qA 32 1 3,qF 33 1 32,q2 34 179 31 33,qE 35 34 0,qE 36 34 1,qS 5 4 35,zM 5 36] [4,5])<|qs [qk 38 .eql 18 3,zM 37 38] [2,3,4,18,37]<|qc 37 (qr [qT 39 5 2,qA 40 1 3,qF 41 1 40,qA 42 3 3,qT 43 5 42,q3 44 180 39 41 43,qE 45 44 0,qE 46 44 1,qS 5 4 45,zM 5 46] [4,5])<|qs [qk 48 .eql 18 4,zM 47 48] [2,3,4,18,47]<|qc 47 (qr [qT 49 5 2,qA 50 2 3,qF 51 1 50,qA 52 1 3,qF 53 1 52,q3 54 181 49 51 53,qE 55 54 0,qE 56 54 1,qS 5 4 55,zM 5 56] [4,5])<|qs [qk 58 .eql 18 5,zM 57 58] [2,3,4,57]<|qc 57 (qs [qT 60 5 2,qA 61 2 3,qF 62 1 61,q2 63 182 60 62,zM 59 63,qE 64 59 0,qE 65 59 1,qZ 6 13,qS 5 6 64,zM 7 65] [2,3,4,6,7]<|.seq (qs [zM 66 7,qO 67 66] [2,3,4,6,67]<|qc 67 (qr [zA 68 (.build zN []),qS 5 4 68,qB 5 false] [4,5]) .skip)<|qr [qT 69 5 2,qA 70 1 3,qF 71 1 70,qT 72 5 6,q3 73 178 69 71 72,qE 74 73 0,qE 75 73 1,qS 5 4 74,zM 5 75] [4,5]) .skip)<|qr [qT 76 5 2,qA 77 1 3,qF 78 1 77,qA 79 3 3,qT 80 5 79,q3 81 183 76 78 80,qE 82 81 0,qE 83 81 1,qS 5 4 82,zM 5 83] [4,5]
theorem K.rM : jO pZ 169 2 0 C.rM [.cell 4 true 5,.tmp 5]=true:=lT
def C.gY : dK:=qs [qB 2 false] [0]<|.seq (qs [zM 5 0,qL 6 5,qk 7 .gtr 6 12] [0,7]<|qc 7 (qr [qB 2 false] [2]) .skip)<|.seq (qs [zM 8 0,qL 9 8,qI 10 0] [8,9,10]<|.block 0<|.loop<|qs [qb 11 .lss 10 9] [8,9,10,11]<|.seq (qc 11 .skip<|.exit 0)<|.seq (.block 1<|qs [qD 12 8 8 10,qT 13 8 12,zA 4 (.alloc 10 [qy 0,.og 1,.og 1,qy 0,qy 0,.c (.str []),.og 1,.og 5]),qS 8 4 13] [4,8,9,10]<|qs [qT 14 8 4,q1 15 120 14,qO 16 15] [8,9,10,16]<|qc 16 (qr [qB 2 false] [2]) .skip)<|.reg [qk 17 .add 10 1,zM 10 17] [8,9,10])<|qr [qB 2 true] [2]
theorem K.gY : jO pZ 94 1 0 C.gY [.tmp 2]=true:=lT
def C.lG : dK:=qs [qX 2 10 0,qZ 4 11,qI 5 0] [1,2,4]<|qs [qT 11 5 2,q1 12 124 11,qZ 6 12,qS 5 6 12] [1,4,6]<|.seq (qs [zM 13 1,qL 14 13,qI 15 0] [1,4,6,13,14,15]<|.block 0<|.loop<|qs [qb 16 .lss 15 14] [1,4,6,13,14,15,16]<|.seq (qc 16 .skip<|.exit 0)<|.seq (.block 1<|qs [zM 17 15,qD 18 8 13 15,qT 19 8 18,zA 8 (.alloc 13 [qy 0,.og 1,.og 1,qy 0,qy 0,.c (.str []),.og 1,.og 5]),zM 7 17,qS 8 8 19] [1,4,6,7,8,13,14,15]<|qs [qT 21 5 6,qT 22 8 8,q2 23 169 21 22,zM 20 23,qE 24 20 0,qE 25 20 1,qZ 9 14,qS 5 9 24,zM 10 25] [1,4,6,7,9,10,13,14,15]<|.seq (qs [zM 26 10,qO 27 26] [1,4,6,7,9,13,14,15,27]<|qc 27 (qr [zA 28 (.build zN []),zM 29 7,qS 5 4 28,zM 5 29] [4,5]) .skip)<|.reg [qT 30 5 9,qS 5 6 30] [1,4,6,13,14,15])<|.reg [qk 31 .add 15 1,zM 15 31] [1,4,6,13,14,15])<|qr [qT 32 5 6,zM 33 1,qL 34 33,qS 5 4 32,zM 5 34] [4,5]
theorem K.lG : jO pZ 153 2 0 C.lG [.cell 4 true 5,.tmp 5]=true:=lT
def C.ry : dK:=qs [qX 2 10 0,qZ 4 11,qB 5 false] [1,2,4]<|.seq (qs [qT 8 5 2,q1 9 92 8,qO 10 9,zM 11 10,qm 11 false 12 1,⟨(some (11,false)),some 13,.call 94 [.t 12]⟩,zG 11 false 14 (.not<|.t 13),qQ 15 11 14] [1,2,4,15]<|qc 15 (qr [zA 16 (.build zN []),qS 5 4 16,qB 5 false] [4,5]) .skip)<|qs [qT 18 5 2,zM 19 1,q2 20 153 18 19,zM 17 20,qE 21 17 0,qE 22 17 1,qZ 6 12,qS 5 6 21,zM 7 22] [1,4,6,7]<|qr [qT 23 5 6,zM 24 7,zM 25 1,qL 26 25,qb 27 .eql 24 26,qS 5 4 23,zM 5 27] [4,5]
theorem K.ry : jO pZ 130 2 0 C.ry [.cell 4 true 5,.tmp 5]=true:=lT
def C.jR : dK:=qs [qI 4 0] [0,1]<|qr [zM 5 0,zM 6 1,zA 7 (.af0 (.t 5)<|.t 6),zM 4 7] [4]
theorem K.jR : jO pZ 151 2 0 C.jR [.tmp 4]=true:=lT
def C.strings_IndexByte : dK:=qs [qI 4 0] [0,1]<|qr [zM 5 0,zM 6 1,q2 7 151 5 6,zM 4 7] [4]
theorem K.strings_IndexByte : jO pZ 127 2 0 C.strings_IndexByte [.tmp 4]=true:=lT
def C.o8 : dK:=qs [qB 2 false] [0]<|.seq (qs [zM 4 0,ql 5 4,qk 6 .neq 5 4] [0,6]<|qc 6 (qr [qB 2 false] [2]) .skip)<|.seq (qs [qI 3 0] [0,3]<|.block 0<|.loop<|.seq (qs [zM 7 3,zM 8 0,ql 9 8,qb 10 .lss 7 9] [0,3,10]<|qc 10 .skip<|.exit 0)<|.seq (.block 1<|qs [zM 13 0,zM 14 3,zA 15 (.idxs (.t 13)<|.t 14),⟨none,some 16,.call 127 [.k (.c<|.str [48,49,50,51,52,53,54,55,56,57,97,98,99,100,101,102]),.t 15]⟩,qk 17 .lss 16 0] [0,3,17]<|qc 17 (qr [qB 2 false] [2]) .skip)<|.reg [zM 11 3,qk 12 .add 11 1,zM 3 12] [0,3])<|qr [qB 2 true] [2]
theorem K.o8 : jO pZ 99 1 0 C.o8 [.tmp 2]=true:=lT
def C.kK : dK:=qs [qB 2 false] [0]<|.seq (qs [zM 5 0,qL 6 5,qk 7 .gtr 6 4] [0,7]<|qc 7 (qr [qB 2 false] [2]) .skip)<|.seq (qs [zM 8 0,qL 9 8,qI 10 0] [8,9,10]<|.block 0<|.loop<|qs [qb 11 .lss 10 9] [8,9,10,11]<|.seq (qc 11 .skip<|.exit 0)<|.seq (.block 1<|qs [qD 12 1 8 10,qF 13 1 12,zM 4 13] [4,8,9,10]<|qs [zM 14 4,zA 15 (.bin .neq (.t 14)<|.k<|.c<|.str [42]),zM 16 15,qm 16 true 17 4,⟨(some (16,true)),some 18,.call 99 [.t 17]⟩,zG 16 true 19 (.not<|.t 18),qP 20 16 19] [8,9,10,20]<|qc 20 (qr [qB 2 false] [2]) .skip)<|.reg [qk 21 .add 10 1,zM 10 21] [8,9,10])<|qr [qB 2 true] [2]
theorem K.kK : jO pZ 93 1 0 C.kK [.tmp 2]=true:=lT
def C.slices_Index_string : dK:=qs [qI 4 0] [0,1]<|.seq (qs [zM 6 0,qL 7 6,qI 8 0] [0,1,7,8]<|.block 0<|.loop<|qs [qb 9 .lss 8 7] [0,1,7,8,9]<|.seq (qc 9 .skip<|.exit 0)<|.seq (.block 1<|qs [zM 10 8,zM 5 10] [0,1,5,7,8]<|qs [zM 11 1,zM 12 0,zM 13 5,qD 14 1 12 13,qF 15 1 14,qb 16 .eql 11 15] [0,1,5,7,8,16]<|qc 16 (qr [zM 17 5,zM 4 17] [4]) .skip)<|.reg [qk 18 .add 8 1,zM 8 18] [0,1,7,8])<|qr [qI 4 (-1)] [4]
theorem K.slices_Index_string : jO pZ 152 2 0 C.slices_Index_string [.tmp 4]=true:=lT
def C.slices_Contains_string : dK:=qs [qB 4 false] [0,1]<|qr [zM 5 0,zM 6 1,q2 7 152 5 6,qk 8 .geq 7 0,zM 4 8] [4]
theorem K.slices_Contains_string : jO pZ 128 2 0 C.slices_Contains_string [.tmp 4]=true:=lT
def C.qV : dK:=qs [qB 4 false] [0,1]<|qr [zM 5 0,zM 6 1,q2 7 128 5 6,zM 8 7,qm 8 false 9 0,⟨(some (8,false)),some 10,.call 128 [.t 9,.k (.c<|.str [42])]⟩,qQ 11 8 10,zM 4 11] [4]
theorem K.qV : jO pZ 100 2 0 C.qV [.tmp 4]=true:=lT
def C.kZ : dK:=qs [qI 8 0] [0,1,2,3]<|.cut (qs [zM 9 0,q1 10 93 9,qO 11 10,zM 12 11,qm 12 false 13 1,⟨(some (12,false)),some 14,.call 93 [.t 13]⟩,zG 12 false 15 (.not<|.t 14),qQ 16 12 15,zM 17 16,qm 17 false 18 2,zG 17 false 19 (.bin .neq (.t 18)<|.k<|.c<|.str []),qm 17 false 20 19,qm 20 true 21 2,⟨(some (20,true)),some 22,.call 99 [.t 21]⟩,zG 20 true 23 (.not<|.t 22),zG 17 false 24 (.pick (.t 20) (.t 23)<|kB false),qQ 25 17 24] [0,1,2,3,25]<|qc 25 (qr [qI 8 400] [8]) .skip)<|.seq (qs [zM 26 0,qL 27 26,qk 28 .gtr 27 0,zM 29 28,qm 29 true 30 2,zG 29 true 31 (.bin .eql (.t 30)<|.k<|.c<|.str []),qm 29 true 32 31,qm 32 false 33 0,qm 32 false 34 2,⟨(some (32,false)),some 35,.call 100 [.t 33,.t 34]⟩,zG 32 false 36 (.not<|.t 35),zG 29 true 37 (.pick (.t 32) (kB true)<|.t 36),qP 38 29 37] [1,2,3,38]<|qc 38 (qr [qI 8 412] [8]) .skip)<|.seq (qs [zM 39 1,qL 40 39,qk 41 .gtr 40 0,zM 42 41,qm 42 true 43 2,zG 42 true 44 (.bin .neq (.t 43)<|.k<|.c<|.str []),qP 45 42 44,zM 46 45,qm 46 true 47 1,qm 46 true 48 2,⟨(some (46,true)),some 49,.call 100 [.t 47,.t 48]⟩,qP 50 46 49] [3,50]<|qc 50 (.seq (qs [zM 51 3] [51]<|qc 51 (qr [qI 8 304] [8]) .skip)<|qr [qI 8 412] [8]) .skip)<|qr [qI 8 200] [8]
theorem K.kZ : jO pZ 48 4 0 C.kZ [.tmp 8]=true:=lT
def C.kQ : dK:=qs [qB 2 false] [0]<|.seq (qs [zM 4 0,zA 5 (.bin .eql (.t 4)<|.k<|.c<|.str []),zM 6 5,qm 6 false 7 0,zG 6 false 8 (.lens<|.t 7),zG 6 false 9 (.bin .gtr (.t 8)<|kI 8),qQ 10 6 9] [0,10]<|qc 10 (qr [qB 2 false] [2]) .skip)<|.seq (qs [qI 3 0] [0,3]<|.block 0<|.loop<|.seq (qs [zM 11 3,zM 12 0,ql 13 12,qb 14 .lss 11 13] [0,3,14]<|qc 14 .skip<|.exit 0)<|.seq (.block 1<|qs [zM 17 0,zM 18 3,zA 19 (.idxs (.t 17)<|.t 18),zA 20 (.bin .lss (.t 19)<|.k<|.c<|.lit<|.int .u8 97),zM 21 20,qm 21 false 22 0,qm 21 false 23 3,zG 21 false 24 (.idxs (.t 22)<|.t 23),zG 21 false 25 (.bin .gtr (.t 24)<|.k<|.c<|.lit<|.int .u8 122),qQ 26 21 25,zM 27 26,qm 27 true 28 0,qm 27 true 29 3,zG 27 true 30 (.idxs (.t 28)<|.t 29),zG 27 true 31 (.bin .lss (.t 30)<|.k<|.c<|.lit<|.int .u8 48),qm 27 true 32 31,qm 32 false 33 0,qm 32 false 34 3,zG 32 false 35 (.idxs (.t 33)<|.t 34),zG 32 false 36 (.bin .gtr (.t 35)<|.k<|.c<|.lit<|.int .u8 57),zG 27 true 37 (.pick (.t 32) (kB true)<|.t 36),qP 38 27 37] [0,3,38]<|qc 38 (qr [qB 2 false] [2]) .skip)<|.reg [zM 15 3,qk 16 .add 15 1,zM 3 16] [0,3])<|qr [qB 2 true] [2]
theorem K.kQ : jO pZ 91 1 0 C.kQ [.tmp 2]=true:=lT
def C.dY : dK:=qs [qX 1 10 0,qB 2 false] [1]<|.seq (qs [qA 5 0 1,qF 6 1 5,qL 7 6,qk 8 .gtr 7 10,zM 9 8,zG 9 false 10 (.nK 1<|.t 1),zG 9 false 11 (.load false 1<|.t 10),zG 9 false 12 (.bin .lss (.t 11)<|kI 0),qQ 13 9 12,zM 14 13,zG 14 false 15 (.nK 1<|.t 1),zG 14 false 16 (.load false 1<|.t 15),zG 14 false 17 (.bin .gtr (.t 16)<|kI 999),qQ 18 14 17] [1,18]<|qc 18 (qr [qB 2 false] [2]) .skip)<|.seq (qs [qA 19 0 1,qF 20 1 19,qL 21 20,qI 22 0] [1,20,21,22]<|.block 0<|.loop<|qs [qb 23 .lss 22 21] [1,20,21,22,23]<|.seq (qc 23 .skip<|.exit 0)<|.seq (.block 1<|qs [zM 24 22,qD 25 7 20 22,qT 26 7 25,zA 4 (.alloc 11 [.c (.str []),qy 0,qy 0,qy 0,.c (.str []),.og 1,.og 5]),zM 3 24,qS 7 4 26] [1,3,4,20,21,22]<|.seq (.seq (.uC [(qA 27 0 4,[]),(qF 28 1 27,[0]),(q1 29 91 28,[0,1]),(qO 30 29,[0,1,2]),(zM 31 30,PO),(qm 31 false 32 3,OA),(zG 31 false 33 (.bin .gtr (.t 32)<|kI 0),OQ),(qm 31 false 34 33,V9),(zG 34 true 35 (.nK 0<|.t 1),Oh),(zG 34 true 36 (.load false 1<|.t 35),TT),(qm 34 true 37 3,Oh),(zG 34 true 38 (.bin .sub (.t 37)<|kI 1),[0,1,2,3,4,5,6,7,10]),(zG 34 true 39 (.Ai 7 (.t 36)<|.t 38),Ul),(zG 34 true 40 (.nK 0<|.t 39),agy),(zG 34 true 41 (.load false 1<|.t 40),adE),(zG 34 true 42 (.nK 0<|.t 4),Oh),(zG 34 true 43 (.load false 1<|.t 42),[0,1,2,3,4,5,6,7,15]),(zG 34 true 44 (.bin .geq (.t 41)<|.t 43),aoR),(zG 31 false 45 (.pick (.t 34) (.t 44)<|kB false),anb),(qQ 46 31 45,ala)] [1,4,20,21,22,46])<|qc 46 (qr [qB 2 false] [2]) .skip)<|qs [qA 47 1 4,qF 48 1 47,qk 49 .lss 48 1,zM 50 49,zG 50 false 51 (.nK 1<|.t 4),zG 50 false 52 (.load false 1<|.t 51),zG 50 false 53 (.nK 1<|.t 1),zG 50 false 54 (.load false 1<|.t 53),zG 50 false 55 (.bin .gtr (.t 52)<|.t 54),qQ 56 50 55,zM 57 56,zG 57 false 58 (.nK 2<|.t 4),zG 57 false 59 (.load true 5<|.t 58),⟨(some (57,false)),some 60,.call 92 [.t 59]⟩,zG 57 false 61 (.not<|.t 60),qQ 62 57 61] [1,20,21,22,62]<|qc 62 (qr [qB 2 false] [2]) .skip)<|.reg [qk 63 .add 22 1,zM 22 63] [1,20,21,22])<|qr [qB 2 true] [2]
theorem K.dY : jO pZ 43 1 0 C.dY [.tmp 2]=true:=lT
def C.su : dK:=qs [qX 1 10 0,zA 2 (.alloc 11 [.c (.str []),qy 0,qy 0,qy 0,.c (.str []),.og 1,.og 5])] [1,2]<|.seq (.uC [(qA 3 0 1,[]),(qF 4 1 3,[0]),(qA 5 1 1,[]),(qF 6 1 5,[2]),(qA 7 2 1,[]),(qT 8 5 7,[4]),(q1 9 124 8,[4,5]),(zA 10 (.build [.c (.str []),qy 0,qy 0,qy 0,.c (.str []),.og 1,.og 5] [(0,1,.t 4),(1,1,.t 6),(2,5,.t 9)]),V9),(qS 7 2 10,Oh)] [2]) .ret
theorem K.su : jO pZ 96 1 0 C.su [.cell 2 true 7]=true:=lT
def C.fG : dK:=qs [qX 1 10 0,zA 2 (.alloc 11 [.og 7,qy 0])] [1,2]<|qs [qA 6 1 1,qF 7 1 6,zA 8 (.build [.og 7,qy 0] [(1,1,.t 7)]),zA 3 (.alloc 12 [.og 7,qy 0]),qS 2 3 8] [1,2,3]<|.seq (qs [qA 9 0 1,qF 10 1 9,qL 11 10,qk 12 .gtr 11 0] [1,2,3,12]<|qc 12 (qs [qA 13 0 1,qF 14 1 13,qL 15 14,zA 16 (.makes 13 7 104 [.str [],.lit (.int .i64 0),.lit (.int .i64 0),.lit (.int .i64 0),.str [],.sl 1 [],.sl 5 []] (.t 15)<|.t 15),qA 17 0 3,qU 1 17 16] [1,2,3]<|qs [qA 18 0 1,qF 19 1 18,qL 20 19,qI 21 0] [2,3,19,20,21]<|.block 0<|.loop<|qs [qb 22 .lss 21 20] [2,3,19,20,21,22]<|.seq (qc 22 .skip<|.exit 0)<|.seq (.block 1<|qs [zM 23 21,qD 24 7 19 21,qT 25 7 24,zA 5 (.alloc 14 [.c (.str []),qy 0,qy 0,qy 0,.c (.str []),.og 1,.og 5]),zM 4 23,qS 7 5 25] [2,3,4,5,19,20,21]<|.uC [(qA 26 0 3,[]),(qF 27 1 26,[0]),(zM 28 4,[]),(qT 29 7 5,[]),(q1 30 96 29,[3]),(qD 31 7 27 28,OA),(qS 7 31 30,OQ)] [2,3,19,20,21])<|.reg [qk 32 .add 21 1,zM 21 32] [2,3,19,20,21]) .skip)<|qr [qT 33 2 3,qS 2 2 33] [2]
theorem K.fG : jO pZ 46 1 0 C.fG [.cell 2 true 2]=true:=lT
def C.sQ : dK:=qs [qX 2 10 0,qI 4 0] [1,2]<|qr [qA 5 0 2,qF 6 1 5,zM 7 1,q2 8 123 6 7,zM 4 8] [4]
theorem K.sQ : jO pZ 122 2 0 C.sQ [.tmp 4]=true:=lT
def C.yF : dK:=qs [qI 6 0,qB 7 false] [0,1,2]<|qs [zM 12 0,qL 13 12,zM 8 13] [0,1,2,8]<|qs [zM 14 8,qI 9 0,zM 10 14] [0,1,2,8,9,10]<|.seq (.block 0<|.loop<|.seq (qs [zM 15 9,zM 16 10,qb 17 .lss 15 16] [0,1,2,8,9,10,17]<|qc 17 .skip<|.exit 0)<|.block 1<|qs [zM 18 9,zM 19 10,qb 20 .add 18 19,zA 21 (.L6 .u64<|.t 20),zA 22 (.shf false (.t 21)<|.k<|.c<|.lit<|.int .u64 1),zA 23 (.L6 .i64<|.t 22),zM 11 23] [0,1,2,8,9,10,11]<|qs [zM 24 2,zM 25 0,zM 26 11,qD 27 7 25 26,qT 28 7 27,zM 29 1,⟨none,some 30,.IP (.t 24) [.t 28,.t 29]⟩,qk 31 .lss 30 0] [0,1,2,8,9,10,11,31]<|qc 31 (.reg [zM 32 11,qk 33 .add 32 1,zM 9 33] [0,1,2,8,9,10])<|.reg [zM 34 11,zM 10 34] [0,1,2,8,9,10])<|qr [zM 35 9,zM 36 9,zM 37 8,qb 38 .lss 36 37,zM 39 38,qm 39 true 40 2,qm 39 true 41 0,qm 39 true 42 9,zG 39 true 43 (.Ai 7 (.t 41)<|.t 42),zG 39 true 44 (.load true 7<|.t 43),qm 39 true 45 1,⟨(some (39,true)),some 46,.IP (.t 40) [.t 44,.t 45]⟩,zG 39 true 47 (.bin .eql (.t 46)<|kI 0),qP 48 39 47,zM 6 35,zM 7 48] [6,7]
theorem K.aW : jO pZ 121 3 0 C.yF [.tmp 6,.tmp 7]=true:=lT
def C.nZ : dK:=qs [qI 4 0,qB 5 false] [0,1]<|qr [zM 6 0,zM 7 1,⟨none,some 8,.call 121 [.t 6,.t 7,.k (.fn 122 [])]⟩,qE 9 8 0,qE 10 8 1,zM 4 9,zM 5 10] [4,5]
theorem K.nZ : jO pZ 95 2 0 C.nZ [.tmp 4,.tmp 5]=true:=lT
def C.oh : dK:=C.del 7 104 [.str [],.lit (.int .i64 0),.lit (.int .i64 0),.lit (.int .i64 0),.str [],.sl 1 [],.sl 5 []]
theorem K.oh : LU pZ 129 3 1 C.oh [.tmp 6]=true:=lT
def C.uI : dK:=qs [qX 2 10 0,zA 4 (.alloc 11 [.og 7,qy 0]),qB 5 false] [1,2,4]<|.seq (qs [qT 9 2 2,q1 10 43 9,qO 11 10,zM 12 11,zG 12 false 13 (.nK 1<|.t 2),zG 12 false 14 (.load false 1<|.t 13),zG 12 false 15 (.bin .eql (.t 14)<|kI 999),qQ 16 12 15] [1,2,4,16]<|qc 16 (qr [zA 17 (.build [.og 7,qy 0] []),qS 2 4 17,qB 5 false] [4,5]) .skip)<|qs [qA 19 0 2,qF 20 1 19,zM 21 1,q2 22 95 20 21,zM 18 22,qE 23 18 0,qE 24 18 1,zM 6 23,zM 7 24] [2,4,6,7]<|.seq (qs [zM 25 7,qO 26 25] [2,4,6,26]<|qc 26 (qr [zA 27 (.build [.og 7,qy 0] []),qS 2 4 27,qB 5 false] [4,5]) .skip)<|qs [qT 28 2 2,q1 29 46 28,zA 8 (.alloc 12 [.og 7,qy 0]),qS 2 8 29] [4,6,8]<|qs [qA 30 1 8,qF 31 1 30,qk 32 .add 31 1,qA 33 1 8,qU 1 33 32] [4,6,8]<|qs [qA 34 0 8,qF 35 1 34,zM 36 6,zM 37 6,qk 38 .add 37 1,q3 39 129 35 36 38,qA 40 0 8,qU 1 40 39] [4,8]<|qr [qT 41 2 8,qS 2 4 41,qB 5 true] [4,5]
theorem K.uI : jO pZ 101 2 0 C.uI [.cell 4 true 2,.tmp 5]=true:=lT
def C.iE : dK:=qs [zM 5 0,⟨none,some 6,.call 150 [.t 5,.k (.c<|.lit<|.int .u8 34)]⟩] [0,1]<|.seq (qs [qI 4 0] [0,1,4]<|.block 0<|.loop<|.seq (qs [zM 7 4,zM 8 1,ql 9 8,qb 10 .lss 7 9] [0,1,4,10]<|qc 10 .skip<|.exit 0)<|.seq (.block 1<|.cut (qs [zM 13 1,zM 14 4,zA 15 (.idxs (.t 13)<|.t 14),zA 16 (.bin .eql (.t 15)<|.k<|.c<|.lit<|.int .u8 34),zM 17 16,qm 17 false 18 1,qm 17 false 19 4,zG 17 false 20 (.idxs (.t 18)<|.t 19),zG 17 false 21 (.bin .eql (.t 20)<|.k<|.c<|.lit<|.int .u8 92),qQ 22 17 21] [0,1,4,22]<|qc 22 (.reg [zM 23 0,⟨none,some 24,.call 150 [.t 23,.k (.c<|.lit<|.int .u8 92)]⟩] [0,1,4]) .skip)<|.reg [zM 25 0,zM 26 1,zM 27 4,zA 28 (.idxs (.t 26)<|.t 27),q2 29 150 25 28] [0,1,4])<|.reg [zM 11 4,qk 12 .add 11 1,zM 4 12] [0,1,4])<|.reg [zM 30 0,⟨none,some 31,.call 150 [.t 30,.k (.c<|.lit<|.int .u8 34)]⟩] []
theorem K.iE : jO pZ 149 2 2 C.iE []=true:=lT
def C.dO : dK:=qs [qX 3 10 1] [0,3]<|qs [qA 8 0 3,qF 9 1 8] [0,3,9]<|.block 0<|qs [qk 11 .eql 9 0,zM 10 11] [0,3,9,10]<|qc 10 (.reg [zM 12 0,⟨none,some 13,.call 147 [.t 12,.k (.c<|.str [110,117,108,108])]⟩] [])<|qs [qk 15 .eql 9 1,zM 14 15] [0,3,9,14]<|qc 14 (.reg [zM 16 0,qA 17 1 3,qF 18 1 17,q1 19 148 18,q2 20 147 16 19] [])<|qs [qk 22 .eql 9 2,zM 21 22] [0,3,9,21]<|qc 21 (.reg [zM 23 0,qA 24 2 3,qF 25 1 24,q2 26 149 23 25] [])<|qs [qk 28 .eql 9 3,zM 27 28] [0,3,9,27]<|qc 27 (qs [zM 29 0,⟨none,some 30,.call 150 [.t 29,.k (.c<|.lit<|.int .u8 91)]⟩] [0,3]<|.seq (qs [qA 31 4 3,qF 32 1 31,qL 33 32,qI 34 0] [0,32,33,34]<|.block 1<|.loop<|qs [qb 35 .lss 34 33] [0,32,33,34,35]<|.seq (qc 35 .skip<|.exit 1)<|.seq (.block 2<|qs [zM 36 34,qD 37 5 32 34,qT 38 5 37,qZ 5 11,zM 4 36,qS 5 5 38] [0,4,5,32,33,34]<|.cut (qs [zM 39 4,qk 40 .gtr 39 0] [0,5,32,33,34,40]<|qc 40 (.reg [zM 41 0,⟨none,some 42,.call 150 [.t 41,.k (.c<|.lit<|.int .u8 44)]⟩] [0,5,32,33,34]) .skip)<|.reg [zM 43 0,qT 44 5 5,q2 45 125 43 44] [0,32,33,34])<|.reg [qk 46 .add 34 1,zM 34 46] [0,32,33,34])<|.reg [zM 47 0,⟨none,some 48,.call 150 [.t 47,.k (.c<|.lit<|.int .u8 93)]⟩] [])<|qs [qk 50 .eql 9 4,zM 49 50] [0,3,49]<|qc 49 (qs [zM 51 0,⟨none,some 52,.call 150 [.t 51,.k (.c<|.lit<|.int .u8 123)]⟩] [0,3]<|.seq (qs [qA 53 4 3,qF 54 1 53,qL 55 54,qI 56 0] [0,3,54,55,56]<|.block 3<|.loop<|qs [qb 57 .lss 56 55] [0,3,54,55,56,57]<|.seq (qc 57 .skip<|.exit 3)<|.seq (.block 4<|qs [zM 58 56,qD 59 5 54 56,qT 60 5 59,qZ 7 12,zM 6 58,qS 5 7 60] [0,3,6,7,54,55,56]<|.cut (qs [zM 61 6,qk 62 .gtr 61 0] [0,3,6,7,54,55,56,62]<|qc 62 (.reg [zM 63 0,⟨none,some 64,.call 150 [.t 63,.k (.c<|.lit<|.int .u8 44)]⟩] [0,3,6,7,54,55,56]) .skip)<|qs [zM 65 0,qA 66 3 3,qF 67 1 66,zM 68 6,qD 69 1 67 68,qF 70 1 69,q2 71 149 65 70] [0,3,7,54,55,56]<|qs [zM 72 0,⟨none,some 73,.call 150 [.t 72,.k (.c<|.lit<|.int .u8 58)]⟩] [0,3,7,54,55,56]<|.reg [zM 74 0,qT 75 5 7,q2 76 125 74 75] [0,3,54,55,56])<|.reg [qk 77 .add 56 1,zM 56 77] [0,3,54,55,56])<|.reg [zM 78 0,⟨none,some 79,.call 150 [.t 78,.k (.c<|.lit<|.int .u8 125)]⟩] []) .skip
theorem K.dO : jO pZ 125 2 2 C.dO []=true:=lT
def C.rC : dK:=qs [qX 1 10 0,zA 2 (.mv<|.k<|.c<|.str [])] [1]<|.seq (qs [qT 4 5 1,q1 5 92 4,qO 6 5] [1,6]<|qc 6 (qr [zA 2 (.mv<|.k<|.c<|.str [])] [2]) .skip)<|qs [zA 3 (.O3 155 5 12 11)] [1,3]<|qs [qT 7 5 1,q2 8 125 3 7] [3]<|qr [q1 9 126 3,zM 2 9] [2]
theorem K.rC : jO pZ 98 1 0 C.rC [.tmp 2]=true:=lT
def C.vN : dK:=qs [qX 2 10 0,zA 4 (.alloc 11 [.c (.str []),qy 0,qy 0,qy 0,.c (.str []),.og 1,.og 5]),qB 5 false] [1,2,4]<|.seq (qs [qT 8 2 2,q1 9 43 8,qO 10 9] [1,2,4,10]<|qc 10 (qr [zA 11 (.build [.c (.str []),qy 0,qy 0,qy 0,.c (.str []),.og 1,.og 5] []),qS 7 4 11,qB 5 false] [4,5]) .skip)<|qs [qA 13 0 2,qF 14 1 13,zM 15 1,q2 16 95 14 15,zM 12 16,qE 17 12 0,qE 18 12 1,zM 6 17,zM 7 18] [2,4,6,7]<|.seq (qs [zM 19 7,qO 20 19] [2,4,6,20]<|qc 20 (qr [zA 21 (.build [.c (.str []),qy 0,qy 0,qy 0,.c (.str []),.og 1,.og 5] []),qS 7 4 21,qB 5 false] [4,5]) .skip)<|qr [qA 22 0 2,qF 23 1 22,zM 24 6,qD 25 7 23 24,qT 26 7 25,q1 27 96 26,qS 7 4 27,qB 5 true] [4,5]
theorem K.vN : jO pZ 45 2 0 C.vN [.cell 4 true 7,.tmp 5]=true:=lT
def C.jy : dK:=qs [zA 2 (.mv<|.k<|.c<|.str [])] [0]<|qs [qI 3 17] [0,3]<|.seq (qs [qI 4 0] [0,3,4]<|.block 0<|.loop<|.seq (qs [zM 7 4,zM 8 0,ql 9 8,qb 10 .lss 7 9] [0,3,4,10]<|qc 10 .skip<|.exit 0)<|.seq (.block 1<|.reg [zM 13 3,zA 14 (.bin .mul (kI 131)<|.t 13),zM 15 0,zM 16 4,zA 17 (.idxs (.t 15)<|.t 16),zA 18 (.L6 .i64<|.t 17),qb 19 .add 14 18,qk 20 .rem 19 65521,zM 3 20] [0,3,4])<|.reg [zM 11 4,qk 12 .add 11 1,zM 4 12] [0,3,4])<|qs [zA 5 (.O1 10 1 4 [.lit (.int .u8 0)])] [3,5]<|.seq (qs [qI 6 3] [3,5,6]<|.block 2<|.loop<|.seq (qs [zM 21 6,qk 22 .geq 21 0] [3,5,6,22]<|qc 22 .skip<|.exit 2)<|.seq (.block 3<|qs [zM 25 6,zM 26 3,qk 27 .rem 26 16,zA 28 (.idxs (.k<|.c<|.str [48,49,50,51,52,53,54,55,56,57,97,98,99,100,101,102])<|.t 27),zA 29 (.VH 1 4 (.t 5)<|.t 25),qU 1 29 28] [3,5,6]<|.reg [zM 30 3,qk 31 .quo 30 16,zM 3 31] [3,5,6])<|.reg [zM 23 6,qk 24 .sub 23 1,zM 6 24] [3,5,6])<|qr [zA 32 (.Wl 1 4<|.t 5),zA 33 (.Vl<|.t 32),zM 2 33] [2]
theorem K.jy : jO pZ 97 1 0 C.jy [.tmp 2]=true:=lT
def C.wo : dK:=qs [qX 1 10 0,zA 2 (.mv<|.k<|.c<|.str [])] [1]<|.seq (qs [qT 3 5 1,q1 4 92 3,qO 5 4] [1,5]<|qc 5 (qr [zA 2 (.mv<|.k<|.c<|.str [])] [2]) .skip)<|qr [qT 6 5 1,q1 7 98 6,q1 8 97 7,zM 2 8] [2]
theorem K.wo : jO pZ 47 1 0 C.wo [.tmp 2]=true:=lT
def C.rD : dK:=qs [qX 2 10 0,qX 3 11 1,zA 4 (.alloc 12 [.og 7,qy 0]),zA 5 (.alloc 13 [qy 0,.c (.str []),qy 0,qy 0,qy 0,.c (.str []),.og 1,.og 5])] [2,3,4,5]<|qs [qT 9 2 2,qA 10 1 3,qF 11 1 10,q2 12 101 9 11,zM 8 12,qE 13 8 0,qE 14 8 1,zA 6 (.alloc 14 [.og 7,qy 0]),qS 2 6 13,zM 7 14] [2,4,5,6,7]<|.seq (qs [zM 15 7,qO 16 15] [2,4,5,6,16]<|qc 16 (qr [qT 17 2 2,q1 18 46 17,zA 19 (.build [qy 0,.c (.str []),qy 0,qy 0,qy 0,.c (.str []),.og 1,.og 5] [(0,1,kI 422)]),qS 2 4 18,qS 8 5 19] [4,5]) .skip)<|.seq (.uC [(qT 20 2 6,[]),(qA 21 1 6,[]),(qF 22 1 21,[1]),(zA 23 (.build [qy 0,.c (.str []),qy 0,qy 0,qy 0,.c (.str []),.og 1,.og 5] [(0,1,kI 200),(2,1,.t 22)]),[1,2]),(qS 2 4 20,[0]),(qS 8 5 23,OA)] [4,5]) .ret
theorem K.rD : jO pZ 49 2 0 C.rD [.cell 4 true 2,.cell 5 true 8]=true:=lT
def C.ou : dK:=C.ins 7 104 174 [.str [],.lit (.int .i64 0),.lit (.int .i64 0),.lit (.int .i64 0),.str [],.sl 1 [],.sl 5 []]
theorem K.ou : LU pZ 156 3 2 C.ou [.tmp 6]=true:=lT
def C.xU : dK:=qs [qX 3 10 1,zA 4 (.mv<|.k<|.og 7)] [0,3]<|qs [zM 8 0,qA 9 0 3,qF 10 1 9,q2 11 95 8 10,zM 7 11,qE 12 7 0,qE 13 7 1,zM 5 12,zM 6 13] [0,3,5,6]<|.seq (qs [zM 14 6] [0,3,5,14]<|qc 14 (qs [zM 15 0,zM 16 5,qT 17 7 3,qD 18 7 15 16,qS 7 18 17] [0]<|qr [zM 19 0,zM 4 19] [4]) .skip)<|qr [zM 20 0,zM 21 5,qT 22 7 3,zA 23 (.uB 11 7 1 [.str [],.lit (.int .i64 0),.lit (.int .i64 0),.lit (.int .i64 0),.str [],.sl 1 [],.sl 5 []] [(0,.t 22)]),q3 24 156 20 21 23,zM 4 24] [4]
theorem K.xU : jO pZ 132 2 1 C.xU [.tmp 4]=true:=lT
def C.vO : dK:=qs [qX 3 10 0,qX 5 11 2,zA 6 (.alloc 12 [.og 7,qy 0]),qB 7 false] [1,3,5,6]<|.seq (qs [qT 9 2 3,q1 10 43 9,qO 11 10,zM 12 11,qm 12 false 13 1,⟨(some (12,false)),some 14,.call 91 [.t 13]⟩,zG 12 false 15 (.not<|.t 14),qQ 16 12 15,zM 17 16,zG 17 false 18 (.load true 5<|.t 5),⟨(some (17,false)),some 19,.call 92 [.t 18]⟩,zG 17 false 20 (.not<|.t 19),qQ 21 17 20] [1,3,5,6,21]<|qc 21 (qr [zA 22 (.build [.og 7,qy 0] []),qS 2 6 22,qB 7 false] [6,7]) .skip)<|qs [qT 23 2 3,q1 24 46 23,zA 8 (.alloc 13 [.og 7,qy 0]),qS 2 8 24] [1,5,6,8]<|qs [qA 25 1 8,qF 26 1 25,qk 27 .add 26 1,qA 28 1 8,qU 1 28 27] [1,5,6,8]<|.seq (.uC [(qA 29 0 8,[]),(qF 30 1 29,[0]),(zM 31 1,[]),(qA 32 1 8,[]),(qF 33 1 32,[3]),(qT 34 5 5,[]),(q1 35 124 34,[5]),(zA 36 (.build [.c (.str []),qy 0,qy 0,qy 0,.c (.str []),.og 1,.og 5] [(0,1,.t 31),(1,1,.t 33),(2,5,.t 35)]),[2,3,4,5,6]),(q2 37 132 30 36,Oh),(qA 38 0 8,TT),(qU 1 38 37,FB)] [6,8])<|.seq (qs [qT 39 2 8,q1 40 43 39,qO 41 40] [6,8,41]<|qc 41 (qr [zA 42 (.build [.og 7,qy 0] []),qS 2 6 42,qB 7 false] [6,7]) .skip)<|qr [qT 43 2 8,qS 2 6 43,qB 7 true] [6,7]
theorem K.vO : jO pZ 103 3 0 C.vO [.cell 6 true 2,.tmp 7]=true:=lT
def C.wF : dK:=qs [zM 7 0,qN 8 7,qA 9 3 8,qF 10 1 9,zM 11 1,q2 12 171 10 11,zM 6 12,qE 13 6 0,qE 14 6 1,zM 4 13,zM 5 14] [0,4,5]<|qs [zM 15 5] [0,4,15]<|qc 15 (qs [zM 16 0,zM 17 0,qN 18 17,qA 19 3 18,qF 20 1 19,zM 21 4,zM 22 4,qk 23 .add 22 1,q3 24 184 20 21 23,qN 25 16,qA 26 3 25,qU 1 26 24] [0,4]<|.reg [zM 27 0,zM 28 0,qN 29 28,qA 30 4 29,qF 31 1 30,zM 32 4,zM 33 4,qk 34 .add 33 1,q3 35 185 31 32 34,qN 36 27,qA 37 4 36,qU 1 37 35] []) .skip
theorem K.wF : jO pZ 170 2 3 C.wF []=true:=lT
def C.fD : dK:=qs [qX 2 10 0,qX 3 11 1,qZ 4 12] [2,3,4]<|.seq (qs [qA 11 0 3,qF 12 1 11,qk 13 .neq 12 4] [2,3,4,13]<|qc 13 (qr [qT 14 5 3,q1 15 124 14,qS 5 4 15] [4]) .skip)<|qs [zA 16 (.build zN [(0,1,kI 4)]),qZ 5 13,qS 5 5 16] [2,3,4,5]<|.cut (qs [qA 17 0 2,qF 18 1 17,qk 19 .eql 18 4] [2,3,4,5,19]<|qc 19 (.reg [qT 20 5 2,q1 21 124 20,qS 5 5 21] [3,4,5]) .skip)<|.seq (qs [qA 22 3 3,qF 23 1 22,qL 24 23,qI 25 0] [3,4,5,23,24,25]<|.block 0<|.loop<|qs [qb 26 .lss 25 24] [3,4,5,23,24,25,26]<|.seq (qc 26 .skip<|.exit 0)<|.seq (.block 1<|qs [zM 27 25,qD 28 1 23 25,qF 29 1 28,zM 6 27,zM 7 29] [3,4,5,6,7,23,24,25]<|.seq (qs [qA 30 4 3,qF 31 1 30,zM 32 6,qD 33 5 31 32,qA 34 0 33,qF 35 1 34,qk 36 .eql 35 0] [3,4,5,6,7,23,24,25,36]<|qc 36 (qs [zM 37 7,q2 38 170 5 37] [3,4,5,23,24,25]<|.exit 1) .skip)<|qs [qZ 8 14] [3,4,5,6,7,8,23,24,25]<|.cut (qs [qA 40 3 5,qF 41 1 40,zM 42 7,q2 43 171 41 42,zM 39 43,qE 44 39 0,qE 45 39 1,zM 9 44,zM 10 45] [3,4,5,6,7,8,9,10,23,24,25]<|qs [zM 46 10] [3,4,5,6,7,8,9,23,24,25,46]<|qc 46 (.reg [qA 47 4 5,qF 48 1 47,zM 49 9,qD 50 5 48 49,qT 51 5 50,qS 5 8 51] [3,4,5,6,7,8,23,24,25]) .skip)<|.uC [(zM 52 7,[]),(qT 53 5 8,[]),(qA 54 4 3,[]),(qF 55 1 54,[2]),(zM 56 6,[]),(qD 57 5 55 56,[2,3,4]),(qT 58 5 57,[2,3,4,5]),(q2 59 155 53 58,[1,2,3,4,5,6]),(q3 60 172 5 52 59,Oh)] [3,4,5,23,24,25])<|.reg [qk 61 .add 25 1,zM 25 61] [3,4,5,23,24,25])<|qr [qT 62 5 5,qS 5 4 62] [4]
theorem K.fD : jO pZ 155 2 0 C.fD [.cell 4 true 5]=true:=lT
def C.sV : dK:=qs [qX 2 10 0,qX 3 11 1,qZ 4 12,qB 5 false] [2,3,4]<|.seq (qs [qT 6 5 2,q1 7 92 6,qO 8 7,zM 9 8,zG 9 false 10 (.load true 5<|.t 3),⟨(some (9,false)),some 11,.call 92 [.t 10]⟩,zG 9 false 12 (.not<|.t 11),qQ 13 9 12] [2,3,4,13]<|qc 13 (qr [zA 14 (.build zN []),qS 5 4 14,qB 5 false] [4,5]) .skip)<|qr [qT 15 5 2,qT 16 5 3,q2 17 155 15 16,⟨none,some 18,.call 154 [.t 17,.k (.c<|.lit<|.bool true)]⟩,qE 19 18 0,qE 20 18 1,qS 5 4 19,zM 5 20] [4,5]
theorem K.sV : jO pZ 131 2 0 C.sV [.cell 4 true 5,.tmp 5]=true:=lT
def C.vS : dK:=qs [qX 2 10 0,qX 3 11 1,qZ 4 12,qB 5 false] [2,3,4]<|.seq (qs [qA 6 0 3,qF 7 1 6] [2,3,4,7]<|.block 0<|qs [qk 9 .eql 7 4,zM 8 9] [2,3,4,7,8]<|qc 8 (qr [qT 10 5 2,qA 11 9 3,qF 12 1 11,q2 13 130 10 12,qE 14 13 0,qE 15 13 1,qS 5 4 14,zM 5 15] [4,5])<|qs [qk 17 .eql 7 5,zM 16 17] [2,3,4,16]<|qc 16 (qr [qT 18 5 2,qA 19 4 3,qT 20 5 19,q2 21 131 18 20,qE 22 21 0,qE 23 21 1,qS 5 4 22,zM 5 23] [4,5]) .skip)<|qr [qA 24 4 3,qT 25 5 24,qS 5 4 25,qB 5 true] [4,5]
theorem K.vS : jO pZ 102 2 0 C.vS [.cell 4 true 5,.tmp 5]=true:=lT
def C.nP : dK:=qs [qX 4 10 0,qX 5 11 1,qX 6 12 2,zA 8 (.alloc 13 [.og 7,qy 0]),zA 9 (.alloc 14 [qy 0,.c (.str []),qy 0,qy 0,qy 0,.c (.str []),.og 1,.og 5])] [3,4,5,6,8,9]<|qs [qT 15 5 6,qT 16 10 5,q2 17 102 15 16,zM 14 17,qE 18 14 0,qE 19 14 1,qZ 10 15,qS 5 10 18,zM 11 19] [3,4,5,8,9,10,11]<|.seq (qs [zM 20 11,qO 21 20] [3,4,5,8,9,10,21]<|qc 21 (qr [qT 22 2 4,q1 23 46 22,zA 24 (.build [qy 0,.c (.str []),qy 0,qy 0,qy 0,.c (.str []),.og 1,.og 5] [(0,1,kI 422)]),qS 2 8 23,qS 8 9 24] [8,9]) .skip)<|qs [qT 26 2 4,qA 27 1 5,qF 28 1 27,qT 29 5 10,q3 30 103 26 28 29,zM 25 30,qE 31 25 0,qE 32 25 1,zA 12 (.alloc 16 [.og 7,qy 0]),qS 2 12 31,zM 11 32] [3,4,8,9,10,11,12]<|.seq (qs [zM 33 11,qO 34 33] [3,4,8,9,10,12,34]<|qc 34 (qr [qT 35 2 4,q1 36 46 35,zA 37 (.build [qy 0,.c (.str []),qy 0,qy 0,qy 0,.c (.str []),.og 1,.og 5] [(0,1,kI 422)]),qS 2 8 36,qS 8 9 37] [8,9]) .skip)<|.seq (.uC [(qT 38 5 10,[]),(q1 39 47 38,[0]),(qA 40 1 12,[]),(qF 41 1 40,[2]),(zA 42 (.build [qy 0,.c (.str []),qy 0,qy 0,qy 0,.c (.str []),.og 1,.og 5] [(0,1,kI 200),(1,1,.t 39),(2,1,.t 41)]),PO),(zA 13 (.alloc 17 [qy 0,.c (.str []),qy 0,qy 0,qy 0,.c (.str []),.og 1,.og 5]),[]),(qS 8 13 42,OQ)] [3,8,9,12,13])<|.seq (qs [zM 43 3,qO 44 43] [8,9,12,13,44]<|qc 44 (.reg [qA 45 0 13,zS (.store false 1 (.t 45)<|kI 201)] [8,9,12,13]) .skip)<|.seq (.uC [(qT 46 2 12,[]),(qT 47 8 13,[]),(qS 2 8 46,[0]),(qS 8 9 47,[0,1,2])] [8,9]) .ret
theorem K.nP : jO pZ 50 4 0 C.nP [.cell 8 true 2,.cell 9 true 8]=true:=lT
def C.l7 : dK:=qs [qX 1 10 0,qB 2 false] [1]<|qr [qA 3 0 1,qF 4 1 3,qk 5 .geq 4 1,zM 6 5,zG 6 true 7 (.nK 0<|.t 1),zG 6 true 8 (.load false 1<|.t 7),zG 6 true 9 (.bin .leq (.t 8)<|kI 5),qP 10 6 9,zM 11 10,zG 11 true 12 (.nK 1<|.t 1),zG 11 true 13 (.load false 1<|.t 12),⟨(some (11,true)),some 14,.call 91 [.t 13]⟩,qP 15 11 14,zM 16 15,zG 16 true 17 (.nK 2<|.t 1),zG 16 true 18 (.load false 1<|.t 17),⟨(some (16,true)),some 19,.call 93 [.t 18]⟩,qP 20 16 19,zM 21 20,zG 21 true 22 (.nK 3<|.t 1),zG 21 true 23 (.load false 1<|.t 22),⟨(some (21,true)),some 24,.call 93 [.t 23]⟩,qP 25 21 24,zM 26 25,zG 26 true 27 (.nK 4<|.t 1),zG 26 true 28 (.load true 5<|.t 27),⟨(some (26,true)),some 29,.call 92 [.t 28]⟩,qP 30 26 29,zM 31 30,zG 31 true 32 (.nK 9<|.t 1),zG 31 true 33 (.load false 1<|.t 32),⟨(some (31,true)),some 34,.call 94 [.t 33]⟩,qP 35 31 34,zM 2 35] [2]
theorem K.l7 : jO pZ 44 1 0 C.l7 [.tmp 2]=true:=lT
def C.fF : dK:=qs [qX 2 10 0,qX 3 11 1,zA 4 (.alloc 12 [.og 7,qy 0]),zA 5 (.alloc 13 [qy 0,.c (.str []),qy 0,qy 0,qy 0,.c (.str []),.og 1,.og 5])] [2,3,4,5]<|.seq (qs [qT 10 2 2,q1 11 43 10,qO 12 11,zM 13 12,zG 13 false 14 (.load true 10<|.t 3),⟨(some (13,false)),some 15,.call 44 [.t 14]⟩,zG 13 false 16 (.not<|.t 15),qQ 17 13 16] [2,3,4,5,17]<|qc 17 (qr [zA 18 (.build [.og 7,qy 0] []),zA 19 (.build [qy 0,.c (.str []),qy 0,qy 0,qy 0,.c (.str []),.og 1,.og 5] [(0,1,kI 400)]),qS 2 4 18,qS 8 5 19] [4,5]) .skip)<|qs [qT 21 2 2,qA 22 1 3,qF 23 1 22,q2 24 45 21 23,zM 20 24,qE 25 20 0,qE 26 20 1,zA 6 (.alloc 14 [.c (.str []),qy 0,qy 0,qy 0,.c (.str []),.og 1,.og 5]),qS 7 6 25,zM 7 26] [2,3,4,5,6,7]<|.seq (qs [zM 27 7,qO 28 27,zM 29 28,zG 29 true 30 (.nK 0<|.t 3),zG 29 true 31 (.load false 1<|.t 30),zG 29 true 32 (.bin .neq (.t 31)<|kI 2),qP 33 29 32] [2,3,4,5,6,7,33]<|qc 33 (qr [qT 34 2 2,q1 35 46 34,zA 36 (.build [qy 0,.c (.str []),qy 0,qy 0,qy 0,.c (.str []),.og 1,.og 5] [(0,1,kI 404)]),qS 2 4 35,qS 8 5 36] [4,5]) .skip)<|qs [zA 8 (.mv<|.k<|.c<|.str [])] [2,3,4,5,6,7,8]<|.cut (qs [zM 37 7] [2,3,4,5,6,7,8,37]<|qc 37 (.reg [qA 38 2 6,qT 39 5 38,q1 40 47 39,zM 8 40] [2,3,4,5,6,7,8]) .skip)<|qs [qA 41 2 3,qF 42 1 41,qA 43 3 3,qF 44 1 43,zM 45 8,qA 46 0 3,qF 47 1 46,qk 48 .eql 47 1,⟨none,some 49,.call 48 [.t 42,.t 44,.t 45,.t 48]⟩,zM 9 49] [2,3,4,5,6,7,8,9]<|.seq (qs [zM 50 9,qk 51 .neq 50 200] [2,3,4,5,6,7,8,9,51]<|qc 51 (qr [qT 52 2 2,q1 53 46 52,zM 54 9,zA 55 (.build [qy 0,.c (.str []),qy 0,qy 0,qy 0,.c (.str []),.og 1,.og 5] [(0,1,.t 54)]),qS 2 4 53,qS 8 5 55] [4,5]) .skip)<|.seq (qs [qA 56 0 3,qF 57 1 56] [2,3,4,5,6,7,8,57]<|.block 0<|qs [qk 59 .eql 57 1,zM 58 59] [2,3,4,5,6,7,8,57,58]<|qc 58 (.seq (.uC [(qT 60 2 2,[]),(q1 61 46 60,[0]),(zM 62 8,[]),(qA 63 1 6,[]),(qF 64 1 63,[3]),(qA 65 2 6,[]),(qT 66 5 65,[5]),(zA 67 (.build [qy 0,.c (.str []),qy 0,qy 0,qy 0,.c (.str []),.og 1,.og 5] [(0,1,kI 200),(1,1,.t 62),(2,1,.t 64),(3,5,.t 66)]),[2,3,4,5,6]),(qS 2 4 61,[0,1]),(qS 8 5 67,TT)] [4,5]) .ret)<|qs [qk 69 .eql 57 3,zM 68 69] [2,3,4,5,6,7,68]<|qc 68 (qr [qT 70 2 2,qT 71 10 3,q2 72 49 70 71,qE 73 72 0,qE 74 72 1,qS 2 4 73,qS 8 5 74] [4,5]) .skip)<|qr [qT 75 2 2,qT 76 10 3,qA 77 2 6,qT 78 5 77,zM 79 7,⟨none,some 80,.call 50 [.t 75,.t 76,.t 78,.t 79]⟩,qE 81 80 0,qE 82 80 1,qS 2 4 81,qS 8 5 82] [4,5]
theorem K.fF : jO pZ 11 2 0 C.fF [.cell 4 true 2,.cell 5 true 8]=true:=lT
def C.ja : dK:=qs [qB 2 false] [0]<|.seq (qs [zM 5 0,qL 6 5,qk 7 .gtr 6 8] [0,7]<|qc 7 (qr [qB 2 false] [2]) .skip)<|.seq (qs [zM 8 0,qL 9 8,qI 10 0] [8,9,10]<|.block 0<|.loop<|qs [qb 11 .lss 10 9] [8,9,10,11]<|.seq (qc 11 .skip<|.exit 0)<|.seq (.block 1<|qs [qD 12 10 8 10,qT 13 10 12,zA 4 (.alloc 10 [qy 0,.c (.str []),.og 1,.og 1,qy 0,qy 0,.c (.str []),.og 1,.og 5,.og 8]),qS 10 4 13] [4,8,9,10]<|qs [qT 14 10 4,q1 15 44 14,qO 16 15] [8,9,10,16]<|qc 16 (qr [qB 2 false] [2]) .skip)<|.reg [qk 17 .add 10 1,zM 10 17] [8,9,10])<|qr [qB 2 true] [2]
theorem K.ja : jO pZ 63 1 0 C.ja [.tmp 2]=true:=lT
def C.OH : dK:=qs [qX 3 10 0,zA 6 (.alloc 11 [.og 7,qy 0]),zA 7 (.mv<|.k<|.og 8)] [1,2,3,6]<|qs [qT 14 2 3,q1 15 46 14,zA 8 (.alloc 12 [.og 7,qy 0]),qS 2 8 15] [1,2,6,8]<|qs [zA 9 (.mv<|.k<|.og 8)] [1,2,6,8,9]<|.seq (qs [zM 16 1,qL 17 16,qI 18 0] [2,6,8,9,16,17,18]<|.block 0<|.loop<|qs [qb 19 .lss 18 17] [2,6,8,9,16,17,18,19]<|.seq (qc 19 .skip<|.exit 0)<|.seq (.block 1<|qs [qD 20 10 16 18,qT 21 10 20,zA 11 (.alloc 13 [qy 0,.c (.str []),.og 1,.og 1,qy 0,qy 0,.c (.str []),.og 1,.og 5,.og 8]),qS 10 11 21] [2,6,8,9,11,16,17,18]<|qs [qT 23 2 8,qT 24 10 11,q2 25 11 23 24,zM 22 25,qE 26 22 0,qE 27 22 1,zA 12 (.alloc 14 [.og 7,qy 0]),zA 13 (.alloc 15 [qy 0,.c (.str []),qy 0,qy 0,qy 0,.c (.str []),.og 1,.og 5]),qS 2 12 26,qS 8 13 27] [2,6,8,9,12,13,16,17,18]<|qs [qT 28 2 12,qS 2 8 28] [2,6,8,9,13,16,17,18]<|qs [zM 29 9,qT 30 8 13,zA 31 (.uB 16 8 1 [.lit (.int .i64 0),.str [],.lit (.int .i64 0),.lit (.int .i64 0),.lit (.int .i64 0),.str [],.sl 1 [],.sl 5 []] [(0,.t 30)]),zA 32 (.append 17 8 112 (.t 29)<|.t 31),zM 9 32] [2,6,8,9,13,16,17,18]<|qs [zM 33 2,qA 34 0 13,qF 35 1 34,⟨none,some 36,.IP (.t 33) [.t 35]⟩,qO 37 36] [2,6,8,9,16,17,18,37]<|qc 37 (.exit 0) .skip)<|.reg [qk 38 .add 18 1,zM 18 38] [2,6,8,9,16,17,18])<|qr [qT 39 2 8,zM 40 9,qS 2 6 39,zM 7 40] [6,7]
def C.qh : dK:=qs [qB 2 false] []<|qr [qB 2 true] [2]
theorem K.qh : jO pZ 65 1 0 C.qh [.tmp 2]=true:=lT
theorem K.fO : jO pZ 64 3 0 C.OH [.cell 6 true 2,.tmp 7]=true:=lT
def C.lF : dK:=qs [qX 2 10 0,zA 4 (.alloc 11 [.og 7,qy 0]),zA 5 (.mv<|.k<|.og 8)] [1,2,4]<|.seq (qs [qT 6 2 2,q1 7 43 6,qO 8 7,zM 9 8,qm 9 false 10 1,⟨(some (9,false)),some 11,.call 63 [.t 10]⟩,zG 9 false 12 (.not<|.t 11),qQ 13 9 12] [1,2,4,13]<|qc 13 (qr [zA 14 (.build [.og 7,qy 0] []),qS 2 4 14,zA 5 (.mv<|.k<|.og 8)] [4,5]) .skip)<|qr [qT 15 2 2,zM 16 1,⟨none,some 17,.call 64 [.t 15,.t 16,.k (.fn 65 [])]⟩,qE 18 17 0,qE 19 17 1,qS 2 4 18,zM 5 19] [4,5]
theorem K.lF : jO pZ 23 2 0 C.lF [.cell 4 true 2,.tmp 5]=true:=lT
def C.jT : dK:=qs [qB 4 false] [0,1]<|.seq (qs [zM 6 0,qL 7 6,zM 8 1,qL 9 8,qb 10 .neq 7 9] [0,1,10]<|qc 10 (qr [qB 4 false] [4]) .skip)<|.seq (qs [qI 5 0] [0,1,5]<|.block 0<|.loop<|.seq (qs [zM 11 5,zM 12 0,qL 13 12,qb 14 .lss 11 13] [0,1,5,14]<|qc 14 .skip<|.exit 0)<|.seq (.block 1<|.seq (.uC [(zM 17 0,[]),(zM 18 5,[]),(qD 19 1 17 18,[0,1]),(qF 20 1 19,[0,1,2]),(zM 21 1,[]),(zM 22 5,[]),(qD 23 1 21 22,[4,5]),(qF 24 1 23,[4,5,6]),(qb 25 .neq 20 24,Oh)] [0,1,5,25])<|qc 25 (qr [qB 4 false] [4]) .skip)<|.reg [zM 15 5,qk 16 .add 15 1,zM 5 16] [0,1,5])<|qr [qB 4 true] [4]
theorem K.jT : jO pZ 53 2 0 C.jT [.tmp 4]=true:=lT
def C.qW : dK:=qs [qX 2 10 0,qX 3 11 1,qB 4 false] [2,3]<|.seq (qs [qA 5 0 2,qF 6 1 5,qA 7 0 3,qF 8 1 7,qb 9 .neq 6 8] [2,3,9]<|qc 9 (qr [qB 4 false] [4]) .skip)<|.seq (qs [qA 10 1 2,qF 11 1 10,qA 12 1 3,qF 13 1 12,qb 14 .neq 11 13] [2,3,14]<|qc 14 (qr [qB 4 false] [4]) .skip)<|.seq (qs [qA 15 2 2,qF 16 1 15,qA 17 2 3,qF 18 1 17,qb 19 .neq 16 18] [2,3,19]<|qc 19 (qr [qB 4 false] [4]) .skip)<|.seq (qs [qA 20 3 2,qF 21 1 20,qA 22 3 3,qF 23 1 22,q2 24 53 21 23,qO 25 24] [2,3,25]<|qc 25 (qr [qB 4 false] [4]) .skip)<|.seq (qs [qA 26 4 2,qF 27 1 26,qA 28 4 3,qF 29 1 28,q2 30 105 27 29,qO 31 30] [31]<|qc 31 (qr [qB 4 false] [4]) .skip)<|qr [qB 4 true] [4]
theorem K.qW : jO pZ 52 2 0 C.qW [.tmp 4]=true:=lT
def C.qC : dK:=qs [qB 4 false] [0,1]<|.seq (qs [zM 6 0,qL 7 6,zM 8 1,qL 9 8,qb 10 .neq 7 9] [0,1,10]<|qc 10 (qr [qB 4 false] [4]) .skip)<|.seq (qs [qI 5 0] [0,1,5]<|.block 0<|.loop<|.seq (qs [zM 11 5,zM 12 0,qL 13 12,qb 14 .lss 11 13] [0,1,5,14]<|qc 14 .skip<|.exit 0)<|.seq (.block 1<|.seq (.uC [(zM 17 0,[]),(zM 18 5,[]),(qD 19 5 17 18,[0,1]),(qT 20 5 19,[0,1,2]),(zM 21 1,[]),(zM 22 5,[]),(qD 23 5 21 22,[4,5]),(qT 24 5 23,[4,5,6]),(q2 25 52 20 24,Oh),(qO 26 25,TT)] [0,1,5,26])<|qc 26 (qr [qB 4 false] [4]) .skip)<|.reg [zM 15 5,qk 16 .add 15 1,zM 5 16] [0,1,5])<|qr [qB 4 true] [4]
theorem K.qC : jO pZ 105 2 0 C.qC [.tmp 4]=true:=lT
def C.yw : dK:=qs [qX 2 10 0,qX 3 11 1,qB 4 false] [2,3]<|.seq (qs [qA 5 0 2,qF 6 1 5,qA 7 0 3,qF 8 1 7,qb 9 .neq 6 8] [2,3,9]<|qc 9 (qr [qB 4 false] [4]) .skip)<|.seq (qs [qA 10 1 2,qF 11 1 10,qA 12 1 3,qF 13 1 12,qb 14 .neq 11 13] [2,3,14]<|qc 14 (qr [qB 4 false] [4]) .skip)<|.seq (qs [qA 15 2 2,qT 16 5 15,qA 17 2 3,qT 18 5 17,q2 19 52 16 18,qO 20 19] [20]<|qc 20 (qr [qB 4 false] [4]) .skip)<|qr [qB 4 true] [4]
theorem K.yw : jO pZ 104 2 0 C.yw [.tmp 4]=true:=lT
def C.oU : dK:=qs [qB 4 false] [0,1]<|.seq (qs [zM 6 0,qL 7 6,zM 8 1,qL 9 8,qb 10 .neq 7 9] [0,1,10]<|qc 10 (qr [qB 4 false] [4]) .skip)<|.seq (qs [qI 5 0] [0,1,5]<|.block 0<|.loop<|.seq (qs [zM 11 5,zM 12 0,qL 13 12,qb 14 .lss 11 13] [0,1,5,14]<|qc 14 .skip<|.exit 0)<|.seq (.block 1<|.seq (.uC [(zM 17 0,[]),(zM 18 5,[]),(qD 19 7 17 18,[0,1]),(qT 20 7 19,[0,1,2]),(zM 21 1,[]),(zM 22 5,[]),(qD 23 7 21 22,[4,5]),(qT 24 7 23,[4,5,6]),(q2 25 104 20 24,Oh),(qO 26 25,TT)] [0,1,5,26])<|qc 26 (qr [qB 4 false] [4]) .skip)<|.reg [zM 15 5,qk 16 .add 15 1,zM 5 16] [0,1,5])<|qr [qB 4 true] [4]
theorem K.oU : jO pZ 51 2 0 C.oU [.tmp 4]=true:=lT
def C.Bf : dK:=qs [qX 2 10 0,qX 3 11 1,qB 4 false] [2,3]<|.seq (qs [qA 5 0 2,qF 6 1 5,qA 7 0 3,qF 8 1 7,qb 9 .neq 6 8] [2,3,9]<|qc 9 (qr [qB 4 false] [4]) .skip)<|.seq (qs [qA 10 1 2,qF 11 1 10,qA 12 1 3,qF 13 1 12,q2 14 53 11 13,qO 15 14] [2,3,15]<|qc 15 (qr [qB 4 false] [4]) .skip)<|.seq (qs [qA 16 2 2,qF 17 1 16,qA 18 2 3,qF 19 1 18,q2 20 53 17 19,qO 21 20] [2,3,21]<|qc 21 (qr [qB 4 false] [4]) .skip)<|.seq (qs [qA 22 3 2,qT 23 5 22,qA 24 3 3,qT 25 5 24,q2 26 52 23 25,qO 27 26] [27]<|qc 27 (qr [qB 4 false] [4]) .skip)<|qr [qB 4 true] [4]
theorem K.Bf : jO pZ 106 2 0 C.Bf [.tmp 4]=true:=lT
def C.uj : dK:=qs [qB 4 false] [0,1]<|.seq (qs [zM 6 0,qL 7 6,zM 8 1,qL 9 8,qb 10 .neq 7 9] [0,1,10]<|qc 10 (qr [qB 4 false] [4]) .skip)<|.seq (qs [qI 5 0] [0,1,5]<|.block 0<|.loop<|.seq (qs [zM 11 5,zM 12 0,qL 13 12,qb 14 .lss 11 13] [0,1,5,14]<|qc 14 .skip<|.exit 0)<|.seq (.block 1<|.seq (.uC [(zM 17 0,[]),(zM 18 5,[]),(qD 19 8 17 18,[0,1]),(qT 20 8 19,[0,1,2]),(zM 21 1,[]),(zM 22 5,[]),(qD 23 8 21 22,[4,5]),(qT 24 8 23,[4,5,6]),(q2 25 106 20 24,Oh),(qO 26 25,TT)] [0,1,5,26])<|qc 26 (qr [qB 4 false] [4]) .skip)<|.reg [zM 15 5,qk 16 .add 15 1,zM 5 16] [0,1,5])<|qr [qB 4 true] [4]
theorem K.uj : jO pZ 54 2 0 C.uj [.tmp 4]=true:=lT
def C.vG : dK:=qs [qX 2 10 0,qX 3 11 1,qB 4 false] [2,3]<|.seq (qs [qA 5 0 2,qF 6 1 5,qA 7 0 3,qF 8 1 7,qb 9 .neq 6 8] [2,3,9]<|qc 9 (qr [qB 4 false] [4]) .skip)<|.seq (qs [qA 10 1 2,qF 11 1 10,qA 12 1 3,qF 13 1 12,qb 14 .neq 11 13] [2,3,14]<|qc 14 (qr [qB 4 false] [4]) .skip)<|.seq (qs [qA 15 2 2,qF 16 1 15,qA 17 2 3,qF 18 1 17,q2 19 53 16 18,qO 20 19] [2,3,20]<|qc 20 (qr [qB 4 false] [4]) .skip)<|.seq (qs [qA 21 3 2,qF 22 1 21,qA 23 3 3,qF 24 1 23,q2 25 53 22 24,qO 26 25] [2,3,26]<|qc 26 (qr [qB 4 false] [4]) .skip)<|.seq (qs [qA 27 4 2,qT 28 5 27,qA 29 4 3,qT 30 5 29,q2 31 52 28 30,qO 32 31] [2,3,32]<|qc 32 (qr [qB 4 false] [4]) .skip)<|.seq (qs [qA 33 9 2,qF 34 1 33,qA 35 9 3,qF 36 1 35,q2 37 54 34 36,qO 38 37] [38]<|qc 38 (qr [qB 4 false] [4]) .skip)<|qr [qB 4 true] [4]
theorem K.vG : jO pZ 14 2 0 C.vG [.tmp 4]=true:=lT
def C.lH : dK:=qs [qB 4 false] [0,1]<|.seq (qs [zM 6 0,qL 7 6,zM 8 1,qL 9 8,qb 10 .neq 7 9] [0,1,10]<|qc 10 (qr [qB 4 false] [4]) .skip)<|.seq (qs [qI 5 0] [0,1,5]<|.block 0<|.loop<|.seq (qs [zM 11 5,zM 12 0,qL 13 12,qb 14 .lss 11 13] [0,1,5,14]<|qc 14 .skip<|.exit 0)<|.seq (.block 1<|.seq (.uC [(zM 17 0,[]),(zM 18 5,[]),(qD 19 10 17 18,[0,1]),(qT 20 10 19,[0,1,2]),(zM 21 1,[]),(zM 22 5,[]),(qD 23 10 21 22,[4,5]),(qT 24 10 23,[4,5,6]),(q2 25 14 20 24,Oh),(qO 26 25,TT)] [0,1,5,26])<|qc 26 (qr [qB 4 false] [4]) .skip)<|.reg [zM 15 5,qk 16 .add 15 1,zM 5 16] [0,1,5])<|qr [qB 4 true] [4]
theorem K.lH : jO pZ 25 2 0 C.lH [.tmp 4]=true:=lT
def C.uA : dK:=qs [qX 2 10 0,qX 3 11 1,qB 4 false] [2,3]<|.seq (qs [qA 5 0 2,qF 6 1 5,qA 7 0 3,qF 8 1 7,qb 9 .neq 6 8] [2,3,9]<|qc 9 (qr [qB 4 false] [4]) .skip)<|.seq (qs [qA 10 1 2,qF 11 1 10,qA 12 1 3,qF 13 1 12,qb 14 .neq 11 13] [2,3,14]<|qc 14 (qr [qB 4 false] [4]) .skip)<|.seq (qs [qA 15 2 2,qF 16 1 15,qA 17 2 3,qF 18 1 17,qb 19 .neq 16 18] [2,3,19]<|qc 19 (qr [qB 4 false] [4]) .skip)<|.seq (qs [qA 20 3 2,qT 21 5 20,qA 22 3 3,qT 23 5 22,q2 24 52 21 23,qO 25 24] [25]<|qc 25 (qr [qB 4 false] [4]) .skip)<|qr [qB 4 true] [4]
theorem K.uA : jO pZ 13 2 0 C.uA [.tmp 4]=true:=lT
def C.jS : dK:=qs [qB 4 false] [0,1]<|.seq (qs [zM 6 0,qL 7 6,zM 8 1,qL 9 8,qb 10 .neq 7 9] [0,1,10]<|qc 10 (qr [qB 4 false] [4]) .skip)<|.seq (qs [qI 5 0] [0,1,5]<|.block 0<|.loop<|.seq (qs [zM 11 5,zM 12 0,qL 13 12,qb 14 .lss 11 13] [0,1,5,14]<|qc 14 .skip<|.exit 0)<|.seq (.block 1<|.seq (.uC [(zM 17 0,[]),(zM 18 5,[]),(qD 19 8 17 18,[0,1]),(qT 20 8 19,[0,1,2]),(zM 21 1,[]),(zM 22 5,[]),(qD 23 8 21 22,[4,5]),(qT 24 8 23,[4,5,6]),(q2 25 13 20 24,Oh),(qO 26 25,TT)] [0,1,5,26])<|qc 26 (qr [qB 4 false] [4]) .skip)<|.reg [zM 15 5,qk 16 .add 15 1,zM 5 16] [0,1,5])<|qr [qB 4 true] [4]
theorem K.jS : jO pZ 24 2 0 C.jS [.tmp 4]=true:=lT
def C.uy : dK:=qs [qX 2 10 0,qX 3 11 1,qB 4 false] [2,3]<|.seq (qs [qA 5 0 2,qF 6 1 5,qA 7 0 3,qF 8 1 7,q2 9 51 6 8,qO 10 9] [2,3,10]<|qc 10 (qr [qB 4 false] [4]) .skip)<|.seq (qs [qA 11 1 2,qF 12 1 11,qA 13 1 3,qF 14 1 13,qb 15 .neq 12 14] [15]<|qc 15 (qr [qB 4 false] [4]) .skip)<|qr [qB 4 true] [4]
theorem K.uy : jO pZ 12 2 0 C.uy [.tmp 4]=true:=lT
def C.jh : dK:=qs [zA 2 (.mv<|.k<|.c<|.str [])] [0]<|.seq (qs [zM 4 0,qk 5 .leq 4 0] [0,5]<|qc 5 (qr [zA 2 (.mv<|.k<|.c<|.str [109,48])] [2]) .skip)<|qs [zA 3 (.mv<|.k<|.c<|.str [])] [0,3]<|.seq (.block 0<|.loop<|.seq (qs [zM 6 0,qk 7 .gtr 6 0] [0,3,7]<|qc 7 .skip<|.exit 0)<|.block 1<|qs [zM 8 0,qk 9 .rem 8 10,zA 10 (.bin .add (kI 48)<|.t 9),zA 11 (.L6 .u8<|.t 10),zA 12 (.uB 10 1 1 [.lit (.int .u8 0)] [(0,.t 11)]),zA 13 (.Vl<|.t 12),zM 14 3,qb 15 .add 13 14,zM 3 15] [0,3]<|.reg [zM 16 0,qk 17 .quo 16 10,zM 0 17] [0,3])<|qr [zM 18 3,zA 19 (.bin .add (.k<|.c<|.str [109])<|.t 18),zM 2 19] [2]
theorem K.jh : jO pZ 66 1 0 C.jh [.tmp 2]=true:=lT
def C.jl : dK:=qs [qI 4 0] [0,1]<|.seq (qs [qI 5 0] [0,1,5]<|.block 0<|.loop<|.seq (qs [zM 6 5,zM 7 0,qL 8 7,qb 9 .lss 6 8] [0,1,5,9]<|qc 9 .skip<|.exit 0)<|.seq (.block 1<|.seq (.seq (.uC [(zM 12 0,[]),(zM 13 5,[]),(qD 14 1 12 13,[0,1]),(qF 15 1 14,[0,1,2]),(zM 16 1,[]),(q1 17 66 16,[4]),(qb 18 .neq 15 17,OQ)] [0,1,5,18])<|qc 18 (qr [qI 4 (-1)] [4]) .skip)<|.reg [zM 19 1,qk 20 .add 19 1,zM 1 20] [0,1,5])<|.reg [zM 10 5,qk 11 .add 10 1,zM 5 11] [0,1,5])<|qr [zM 21 1,zM 4 21] [4]
theorem K.jl : jO pZ 68 2 0 C.jl [.tmp 4]=true:=lT
def C.jU : dK:=qs [qI 4 0] [0,1]<|.seq (qs [qI 5 0] [0,1,5]<|.block 0<|.loop<|.seq (qs [zM 6 5,zM 7 0,qL 8 7,qb 9 .lss 6 8] [0,1,5,9]<|qc 9 .skip<|.exit 0)<|.seq (.block 1<|.seq (qs [zM 12 0,zM 13 5,qD 14 5 12 13,qA 15 0 14,qF 16 1 15,zM 17 1,qb 18 .neq 16 17] [0,1,5,18]<|qc 18 (qr [qI 4 (-1)] [4]) .skip)<|qs [zM 19 1,qk 20 .add 19 1,zM 1 20] [0,1,5]<|.seq (qs [zM 21 0,zM 22 5,qD 23 5 21 22,qA 24 1 23,qF 25 1 24,zM 26 1,qb 27 .neq 25 26] [0,1,5,27]<|qc 27 (qr [qI 4 (-1)] [4]) .skip)<|qs [zM 28 1,qk 29 .add 28 1,zM 1 29] [0,1,5]<|.seq (.seq (.uC [(zM 30 0,[]),(zM 31 5,[]),(qD 32 5 30 31,[0,1]),(qA 33 2 32,[0,1,2]),(qF 34 1 33,PO),(zM 35 1,[]),(q1 36 66 35,[5]),(qb 37 .neq 34 36,V9)] [0,1,5,37])<|qc 37 (qr [qI 4 (-1)] [4]) .skip)<|qs [zM 38 1,qk 39 .add 38 1,zM 1 39] [0,1,5]<|qs [zM 40 0,zM 41 5,qD 42 5 40 41,qA 43 3 42,qF 44 1 43,zM 45 1,q2 46 68 44 45,zM 1 46] [0,1,5]<|.seq (qs [zM 47 1,qk 48 .lss 47 0] [0,1,5,48]<|qc 48 (qr [qI 4 (-1)] [4]) .skip)<|qs [zM 49 0,zM 50 5,qD 51 5 49 50,qA 52 4 51,qF 53 1 52,zM 54 1,q2 55 69 53 54,zM 1 55] [0,1,5]<|qs [zM 56 1,qk 57 .lss 56 0] [0,1,5,57]<|qc 57 (qr [qI 4 (-1)] [4]) .skip)<|.reg [zM 10 5,qk 11 .add 10 1,zM 5 11] [0,1,5])<|qr [zM 58 1,zM 4 58] [4]
theorem K.jU : jO pZ 69 2 0 C.jU [.tmp 4]=true:=lT
def C.l9 : dK:=qs [qI 4 0] [0,1]<|.seq (qs [qI 5 0] [0,1,5]<|.block 0<|.loop<|.seq (qs [zM 6 5,zM 7 0,qL 8 7,qb 9 .lss 6 8] [0,1,5,9]<|qc 9 .skip<|.exit 0)<|.seq (.block 1<|.seq (.seq (.uC [(zM 12 0,[]),(zM 13 5,[]),(qD 14 7 12 13,[0,1]),(qA 15 0 14,[0,1,2]),(qF 16 1 15,PO),(zM 17 1,[]),(q1 18 66 17,[5]),(qb 19 .neq 16 18,V9)] [0,1,5,19])<|qc 19 (qr [qI 4 (-1)] [4]) .skip)<|qs [zM 20 1,qk 21 .add 20 1,zM 1 21] [0,1,5]<|.seq (qs [zM 22 0,zM 23 5,qD 24 7 22 23,qA 25 1 24,qF 26 1 25,zM 27 1,qb 28 .neq 26 27] [0,1,5,28]<|qc 28 (qr [qI 4 (-1)] [4]) .skip)<|qs [zM 29 1,qk 30 .add 29 1,zM 1 30] [0,1,5]<|.seq (qs [zM 31 0,zM 32 5,qD 33 7 31 32,qA 34 2 33,qA 35 0 34,qF 36 1 35,zM 37 1,qb 38 .neq 36 37] [0,1,5,38]<|qc 38 (qr [qI 4 (-1)] [4]) .skip)<|qs [zM 39 1,qk 40 .add 39 1,zM 1 40] [0,1,5]<|.seq (qs [zM 41 0,zM 42 5,qD 43 7 41 42,qA 44 2 43,qA 45 1 44,qF 46 1 45,zM 47 1,qb 48 .neq 46 47] [0,1,5,48]<|qc 48 (qr [qI 4 (-1)] [4]) .skip)<|qs [zM 49 1,qk 50 .add 49 1,zM 1 50] [0,1,5]<|.seq (.seq (.uC [(zM 51 0,[]),(zM 52 5,[]),(qD 53 7 51 52,[0,1]),(qA 54 2 53,[0,1,2]),(qA 55 2 54,PO),(qF 56 1 55,OA),(zM 57 1,[]),(q1 58 66 57,[6]),(qb 59 .neq 56 58,Oh)] [0,1,5,59])<|qc 59 (qr [qI 4 (-1)] [4]) .skip)<|qs [zM 60 1,qk 61 .add 60 1,zM 1 61] [0,1,5]<|qs [zM 62 0,zM 63 5,qD 64 7 62 63,qA 65 2 64,qA 66 3 65,qF 67 1 66,zM 68 1,q2 69 68 67 68,zM 1 69] [0,1,5]<|.seq (qs [zM 70 1,qk 71 .lss 70 0] [0,1,5,71]<|qc 71 (qr [qI 4 (-1)] [4]) .skip)<|qs [zM 72 0,zM 73 5,qD 74 7 72 73,qA 75 2 74,qA 76 4 75,qF 77 1 76,zM 78 1,q2 79 69 77 78,zM 1 79] [0,1,5]<|qs [zM 80 1,qk 81 .lss 80 0] [0,1,5,81]<|qc 81 (qr [qI 4 (-1)] [4]) .skip)<|.reg [zM 10 5,qk 11 .add 10 1,zM 5 11] [0,1,5])<|qr [zM 82 1,zM 4 82] [4]
theorem K.l9 : jO pZ 59 2 0 C.l9 [.tmp 4]=true:=lT
def C.jE : dK:=qs [qI 4 0] [0,1]<|.seq (qs [qI 5 0] [0,1,5]<|.block 0<|.loop<|.seq (qs [zM 6 5,zM 7 0,qL 8 7,qb 9 .lss 6 8] [0,1,5,9]<|qc 9 .skip<|.exit 0)<|.seq (.block 1<|.seq (qs [zM 12 0,zM 13 5,qD 14 8 12 13,qA 15 0 14,qF 16 1 15,zM 17 1,qb 18 .neq 16 17] [0,1,5,18]<|qc 18 (qr [qI 4 (-1)] [4]) .skip)<|qs [zM 19 1,qk 20 .add 19 1,zM 1 20] [0,1,5]<|.seq (.seq (.uC [(zM 21 0,[]),(zM 22 5,[]),(qD 23 8 21 22,[0,1]),(qA 24 1 23,[0,1,2]),(qF 25 1 24,PO),(zM 26 1,[]),(q1 27 66 26,[5]),(qb 28 .neq 25 27,V9)] [0,1,5,28])<|qc 28 (qr [qI 4 (-1)] [4]) .skip)<|qs [zM 29 1,qk 30 .add 29 1,zM 1 30] [0,1,5]<|.seq (qs [zM 31 0,zM 32 5,qD 33 8 31 32,qA 34 2 33,qF 35 1 34,zM 36 1,qb 37 .neq 35 36] [0,1,5,37]<|qc 37 (qr [qI 4 (-1)] [4]) .skip)<|qs [zM 38 1,qk 39 .add 38 1,zM 1 39] [0,1,5]<|.seq (qs [zM 40 0,zM 41 5,qD 42 8 40 41,qA 43 3 42,qA 44 0 43,qF 45 1 44,zM 46 1,qb 47 .neq 45 46] [0,1,5,47]<|qc 47 (qr [qI 4 (-1)] [4]) .skip)<|qs [zM 48 1,qk 49 .add 48 1,zM 1 49] [0,1,5]<|.seq (qs [zM 50 0,zM 51 5,qD 52 8 50 51,qA 53 3 52,qA 54 1 53,qF 55 1 54,zM 56 1,qb 57 .neq 55 56] [0,1,5,57]<|qc 57 (qr [qI 4 (-1)] [4]) .skip)<|qs [zM 58 1,qk 59 .add 58 1,zM 1 59] [0,1,5]<|.seq (.seq (.uC [(zM 60 0,[]),(zM 61 5,[]),(qD 62 8 60 61,[0,1]),(qA 63 3 62,[0,1,2]),(qA 64 2 63,PO),(qF 65 1 64,OA),(zM 66 1,[]),(q1 67 66 66,[6]),(qb 68 .neq 65 67,Oh)] [0,1,5,68])<|qc 68 (qr [qI 4 (-1)] [4]) .skip)<|qs [zM 69 1,qk 70 .add 69 1,zM 1 70] [0,1,5]<|qs [zM 71 0,zM 72 5,qD 73 8 71 72,qA 74 3 73,qA 75 3 74,qF 76 1 75,zM 77 1,q2 78 68 76 77,zM 1 78] [0,1,5]<|.seq (qs [zM 79 1,qk 80 .lss 79 0] [0,1,5,80]<|qc 80 (qr [qI 4 (-1)] [4]) .skip)<|qs [zM 81 0,zM 82 5,qD 83 8 81 82,qA 84 3 83,qA 85 4 84,qF 86 1 85,zM 87 1,q2 88 69 86 87,zM 1 88] [0,1,5]<|qs [zM 89 1,qk 90 .lss 89 0] [0,1,5,90]<|qc 90 (qr [qI 4 (-1)] [4]) .skip)<|.reg [zM 10 5,qk 11 .add 10 1,zM 5 11] [0,1,5])<|qr [zM 91 1,zM 4 91] [4]
theorem K.jE : jO pZ 28 2 0 C.jE [.tmp 4]=true:=lT
def C.vH : dK:=qs [qX 2 10 0,qI 4 0] [1,2]<|qs [qA 5 0 2,qF 6 1 5,zM 7 1,q2 8 59 6 7,zM 1 8] [1]<|.seq (qs [zM 9 1,qk 10 .lss 9 0] [1,10]<|qc 10 (qr [qI 4 (-1)] [4]) .skip)<|qr [zM 11 1,zM 4 11] [4]
theorem K.vH : jO pZ 18 2 0 C.vH [.tmp 4]=true:=lT
def C.jA : dK:=qs [qI 4 0] [0,1]<|qs [zM 6 1,zM 7 0,qL 8 7,qb 9 .sub 6 8,zM 1 9] [0,1]<|.seq (qs [zM 10 1,qk 11 .lss 10 0] [0,1,11]<|qc 11 (qr [qI 4 (-1)] [4]) .skip)<|.seq (qs [qI 5 0] [0,1,5]<|.block 0<|.loop<|.seq (qs [zM 12 5,zM 13 0,qL 14 13,qb 15 .lss 12 14] [0,1,5,15]<|qc 15 .skip<|.exit 0)<|.seq (.block 1<|qs [zM 18 1,zM 19 0,zM 20 5,qD 21 1 19 20,qF 22 1 21,ql 23 22,qb 24 .sub 18 23,zM 1 24] [0,1,5]<|qs [zM 25 1,qk 26 .lss 25 0] [0,1,5,26]<|qc 26 (qr [qI 4 (-1)] [4]) .skip)<|.reg [zM 16 5,qk 17 .add 16 1,zM 5 17] [0,1,5])<|qr [zM 27 1,zM 4 27] [4]
theorem K.jA : jO pZ 32 2 0 C.jA [.tmp 4]=true:=lT
def C.qY : dK:=qs [qX 2 10 0,qI 4 0] [1,2]<|qs [zM 5 1,qA 6 2 2,qF 7 1 6,ql 8 7,qb 9 .sub 5 8,zM 1 9] [1,2]<|.seq (qs [zM 10 1,qk 11 .lss 10 0] [1,2,11]<|qc 11 (qr [qI 4 (-1)] [4]) .skip)<|qs [qA 12 3 2,qF 13 1 12,zM 14 1,q2 15 32 13 14,zM 1 15] [1,2]<|.seq (qs [zM 16 1,qk 17 .lss 16 0] [1,2,17]<|qc 17 (qr [qI 4 (-1)] [4]) .skip)<|qs [qA 18 4 2,qF 19 1 18,zM 20 1,q2 21 73 19 20,zM 1 21] [1]<|.seq (qs [zM 22 1,qk 23 .lss 22 0] [1,23]<|qc 23 (qr [qI 4 (-1)] [4]) .skip)<|qr [zM 24 1,zM 4 24] [4]
theorem K.qY : jO pZ 33 2 0 C.qY [.tmp 4]=true:=lT
def C.oV : dK:=qs [qI 4 0] [0,1]<|qs [zM 6 1,zM 7 0,qL 8 7,qb 9 .sub 6 8,zM 1 9] [0,1]<|.seq (qs [zM 10 1,qk 11 .lss 10 0] [0,1,11]<|qc 11 (qr [qI 4 (-1)] [4]) .skip)<|.seq (qs [qI 5 0] [0,1,5]<|.block 0<|.loop<|.seq (qs [zM 12 5,zM 13 0,qL 14 13,qb 15 .lss 12 14] [0,1,5,15]<|qc 15 .skip<|.exit 0)<|.seq (.block 1<|qs [zM 18 0,zM 19 5,qD 20 5 18 19,qT 21 5 20,zM 22 1,q2 23 33 21 22,zM 1 23] [0,1,5]<|qs [zM 24 1,qk 25 .lss 24 0] [0,1,5,25]<|qc 25 (qr [qI 4 (-1)] [4]) .skip)<|.reg [zM 16 5,qk 17 .add 16 1,zM 5 17] [0,1,5])<|qr [zM 26 1,zM 4 26] [4]
theorem K.oV : jO pZ 73 2 0 C.oV [.tmp 4]=true:=lT
def C.wY : dK:=qs [qX 2 10 0,qI 4 0] [1,2]<|qs [zM 5 1,qA 6 0 2,qF 7 1 6,ql 8 7,qb 9 .sub 5 8,zM 1 9] [1,2]<|.seq (qs [zM 10 1,qk 11 .lss 10 0] [1,2,11]<|qc 11 (qr [qI 4 (-1)] [4]) .skip)<|qs [qA 12 2 2,qT 13 5 12,zM 14 1,q2 15 33 13 14,zM 1 15] [1]<|.seq (qs [zM 16 1,qk 17 .lss 16 0] [1,17]<|qc 17 (qr [qI 4 (-1)] [4]) .skip)<|qr [zM 18 1,zM 4 18] [4]
theorem K.wY : jO pZ 72 2 0 C.wY [.tmp 4]=true:=lT
def C.nM : dK:=qs [qI 4 0] [0,1]<|qs [zM 6 1,zM 7 0,qL 8 7,qb 9 .sub 6 8,zM 1 9] [0,1]<|.seq (qs [zM 10 1,qk 11 .lss 10 0] [0,1,11]<|qc 11 (qr [qI 4 (-1)] [4]) .skip)<|.seq (qs [qI 5 0] [0,1,5]<|.block 0<|.loop<|.seq (qs [zM 12 5,zM 13 0,qL 14 13,qb 15 .lss 12 14] [0,1,5,15]<|qc 15 .skip<|.exit 0)<|.seq (.block 1<|qs [zM 18 0,zM 19 5,qD 20 7 18 19,qT 21 7 20,zM 22 1,q2 23 72 21 22,zM 1 23] [0,1,5]<|qs [zM 24 1,qk 25 .lss 24 0] [0,1,5,25]<|qc 25 (qr [qI 4 (-1)] [4]) .skip)<|.reg [zM 16 5,qk 17 .add 16 1,zM 5 17] [0,1,5])<|qr [zM 26 1,zM 4 26] [4]
theorem K.nM : jO pZ 31 2 0 C.nM [.tmp 4]=true:=lT
def C.yM : dK:=qs [qX 2 10 0,qI 4 0] [1,2]<|qs [qA 5 1 2,qF 6 1 5,zM 7 1,q2 8 32 6 7,zM 1 8] [1,2]<|.seq (qs [zM 9 1,qk 10 .lss 9 0] [1,2,10]<|qc 10 (qr [qI 4 (-1)] [4]) .skip)<|qs [qA 11 2 2,qF 12 1 11,zM 13 1,q2 14 32 12 13,zM 1 14] [1,2]<|.seq (qs [zM 15 1,qk 16 .lss 15 0] [1,2,16]<|qc 16 (qr [qI 4 (-1)] [4]) .skip)<|qs [qA 17 3 2,qT 18 5 17,zM 19 1,q2 20 33 18 19,zM 1 20] [1]<|.seq (qs [zM 21 1,qk 22 .lss 21 0] [1,22]<|qc 22 (qr [qI 4 (-1)] [4]) .skip)<|qr [zM 23 1,zM 4 23] [4]
theorem K.yM : jO pZ 74 2 0 C.yM [.tmp 4]=true:=lT
def C.rE : dK:=qs [qI 4 0] [0,1]<|qs [zM 6 1,zM 7 0,qL 8 7,qb 9 .sub 6 8,zM 1 9] [0,1]<|.seq (qs [zM 10 1,qk 11 .lss 10 0] [0,1,11]<|qc 11 (qr [qI 4 (-1)] [4]) .skip)<|.seq (qs [qI 5 0] [0,1,5]<|.block 0<|.loop<|.seq (qs [zM 12 5,zM 13 0,qL 14 13,qb 15 .lss 12 14] [0,1,5,15]<|qc 15 .skip<|.exit 0)<|.seq (.block 1<|qs [zM 18 0,zM 19 5,qD 20 8 18 19,qT 21 8 20,zM 22 1,q2 23 74 21 22,zM 1 23] [0,1,5]<|qs [zM 24 1,qk 25 .lss 24 0] [0,1,5,25]<|qc 25 (qr [qI 4 (-1)] [4]) .skip)<|.reg [zM 16 5,qk 17 .add 16 1,zM 5 17] [0,1,5])<|qr [zM 26 1,zM 4 26] [4]
theorem K.rE : jO pZ 34 2 0 C.rE [.tmp 4]=true:=lT
def C.o9 : dK:=qs [qX 2 10 0,qI 4 0] [1,2]<|qs [zM 5 1,qA 6 1 2,qF 7 1 6,ql 8 7,qb 9 .sub 5 8,zM 1 9] [1,2]<|.seq (qs [zM 10 1,qk 11 .lss 10 0] [1,2,11]<|qc 11 (qr [qI 4 (-1)] [4]) .skip)<|qs [qA 12 2 2,qF 13 1 12,zM 14 1,q2 15 32 13 14,zM 1 15] [1,2]<|.seq (qs [zM 16 1,qk 17 .lss 16 0] [1,2,17]<|qc 17 (qr [qI 4 (-1)] [4]) .skip)<|qs [qA 18 3 2,qF 19 1 18,zM 20 1,q2 21 32 19 20,zM 1 21] [1,2]<|.seq (qs [zM 22 1,qk 23 .lss 22 0] [1,2,23]<|qc 23 (qr [qI 4 (-1)] [4]) .skip)<|qs [qA 24 4 2,qT 25 5 24,zM 26 1,q2 27 33 25 26,zM 1 27] [1,2]<|.seq (qs [zM 28 1,qk 29 .lss 28 0] [1,2,29]<|qc 29 (qr [qI 4 (-1)] [4]) .skip)<|qs [qA 30 9 2,qF 31 1 30,zM 32 1,q2 33 34 31 32,zM 1 33] [1]<|.seq (qs [zM 34 1,qk 35 .lss 34 0] [1,35]<|qc 35 (qr [qI 4 (-1)] [4]) .skip)<|qr [zM 36 1,zM 4 36] [4]
theorem K.o9 : jO pZ 7 2 0 C.o9 [.tmp 4]=true:=lT
def C.jQ : dK:=qs [qI 4 0] [0,1]<|qs [zM 6 1,zM 7 0,qL 8 7,qb 9 .sub 6 8,zM 1 9] [0,1]<|.seq (qs [zM 10 1,qk 11 .lss 10 0] [0,1,11]<|qc 11 (qr [qI 4 (-1)] [4]) .skip)<|.seq (qs [qI 5 0] [0,1,5]<|.block 0<|.loop<|.seq (qs [zM 12 5,zM 13 0,qL 14 13,qb 15 .lss 12 14] [0,1,5,15]<|qc 15 .skip<|.exit 0)<|.seq (.block 1<|qs [zM 18 0,zM 19 5,qD 20 10 18 19,qT 21 10 20,zM 22 1,q2 23 7 21 22,zM 1 23] [0,1,5]<|qs [zM 24 1,qk 25 .lss 24 0] [0,1,5,25]<|qc 25 (qr [qI 4 (-1)] [4]) .skip)<|.reg [zM 16 5,qk 17 .add 16 1,zM 5 17] [0,1,5])<|qr [zM 26 1,zM 4 26] [4]
theorem K.jQ : jO pZ 20 2 0 C.jQ [.tmp 4]=true:=lT
def C.sW : dK:=qs [qX 2 10 0,qI 4 0] [1,2]<|qs [qA 5 0 2,qF 6 1 5,zM 7 1,q2 8 31 6 7,zM 1 8] [1]<|.seq (qs [zM 9 1,qk 10 .lss 9 0] [1,10]<|qc 10 (qr [qI 4 (-1)] [4]) .skip)<|qr [zM 11 1,zM 4 11] [4]
theorem K.sW : jO pZ 6 2 0 C.sW [.tmp 4]=true:=lT
def C.jV : dK:=qs [zA 2 (.mv<|.k<|.og 1)] [0]<|qs [zM 5 0,qL 6 5,zA 7 (.makes 10 1 16 [.str []] (.t 6)<|.t 6),zM 3 7] [0,3]<|.seq (qs [qI 4 0] [0,3,4]<|.block 0<|.loop<|.seq (qs [zM 8 4,zM 9 0,qL 10 9,qb 11 .lss 8 10] [0,3,4,11]<|qc 11 .skip<|.exit 0)<|.seq (.block 1<|.reg [zM 14 3,zM 15 4,zM 16 0,zM 17 4,qD 18 1 16 17,qF 19 1 18,qD 20 1 14 15,qU 1 20 19] [0,3,4])<|.reg [zM 12 4,qk 13 .add 12 1,zM 4 13] [0,3,4])<|qr [zM 21 3,zM 2 21] [2]
theorem K.jV : jO pZ 40 1 0 C.jV [.tmp 2]=true:=lT
def C.sZ : dK:=qs [qX 1 10 0,qZ 2 11] [1,2]<|qs [qZ 3 12] [1,2,3]<|qs [qA 4 0 1,qF 5 1 4,qA 6 0 3,qU 1 6 5] [1,2,3]<|qs [qA 7 1 1,qF 8 1 7,qA 9 1 3,qU 1 9 8] [1,2,3]<|qs [qA 10 2 1,qF 11 1 10,qA 12 2 3,qU 1 12 11] [1,2,3]<|qs [qA 13 3 1,qF 14 1 13,q1 15 40 14,qA 16 3 3,qU 1 16 15] [1,2,3]<|qs [qA 17 4 1,qF 18 1 17,q1 19 89 18,qA 20 4 3,qU 1 20 19] [2,3]<|qr [qT 21 5 3,qS 5 2 21] [2]
theorem K.sZ : jO pZ 41 1 0 C.sZ [.cell 2 true 5]=true:=lT
def C.qG : dK:=qs [zA 2 (.mv<|.k<|.og 5)] [0]<|qs [zM 5 0,qL 6 5,zA 7 (.makes 10 5 80 [.lit (.int .i64 0),.lit (.int .i64 0),.str [],.sl 1 [],.sl 5 []] (.t 6)<|.t 6),zM 3 7] [0,3]<|.seq (qs [qI 4 0] [0,3,4]<|.block 0<|.loop<|.seq (qs [zM 8 4,zM 9 0,qL 10 9,qb 11 .lss 8 10] [0,3,4,11]<|qc 11 .skip<|.exit 0)<|.seq (.block 1<|.reg [zM 14 3,zM 15 4,zM 16 0,zM 17 4,qD 18 5 16 17,qT 19 5 18,q1 20 41 19,qD 21 5 14 15,qS 5 21 20] [0,3,4])<|.reg [zM 12 4,qk 13 .add 12 1,zM 4 13] [0,3,4])<|qr [zM 22 3,zM 2 22] [2]
theorem K.qG : jO pZ 89 1 0 C.qG [.tmp 2]=true:=lT
def C.yx : dK:=qs [qX 1 10 0,zA 2 (.alloc 11 [.c (.str []),qy 0,qy 0,qy 0,.c (.str []),.og 1,.og 5])] [1,2]<|qs [zA 3 (.alloc 12 [.c (.str []),qy 0,qy 0,qy 0,.c (.str []),.og 1,.og 5])] [1,2,3]<|qs [qA 4 0 1,qF 5 1 4,qA 6 0 3,qU 1 6 5] [1,2,3]<|qs [qA 7 1 1,qF 8 1 7,qA 9 1 3,qU 1 9 8] [1,2,3]<|qs [qA 10 2 1,qT 11 5 10,q1 12 41 11,qA 13 2 3,qS 5 13 12] [2,3]<|qr [qT 14 7 3,qS 7 2 14] [2]
theorem K.yx : jO pZ 88 1 0 C.yx [.cell 2 true 7]=true:=lT
def C.oW : dK:=qs [zA 2 (.mv<|.k<|.og 7)] [0]<|qs [zM 5 0,qL 6 5,zA 7 (.makes 10 7 104 [.str [],.lit (.int .i64 0),.lit (.int .i64 0),.lit (.int .i64 0),.str [],.sl 1 [],.sl 5 []] (.t 6)<|.t 6),zM 3 7] [0,3]<|.seq (qs [qI 4 0] [0,3,4]<|.block 0<|.loop<|.seq (qs [zM 8 4,zM 9 0,qL 10 9,qb 11 .lss 8 10] [0,3,4,11]<|qc 11 .skip<|.exit 0)<|.seq (.block 1<|.reg [zM 14 3,zM 15 4,zM 16 0,zM 17 4,qD 18 7 16 17,qT 19 7 18,q1 20 88 19,qD 21 7 14 15,qS 7 21 20] [0,3,4])<|.reg [zM 12 4,qk 13 .add 12 1,zM 4 13] [0,3,4])<|qr [zM 22 3,zM 2 22] [2]
theorem K.oW : jO pZ 39 1 0 C.oW [.tmp 2]=true:=lT
def C.Bg : dK:=qs [qX 1 10 0,zA 2 (.alloc 11 [qy 0,.og 1,.og 1,qy 0,qy 0,.c (.str []),.og 1,.og 5])] [1,2]<|qs [zA 3 (.alloc 12 [qy 0,.og 1,.og 1,qy 0,qy 0,.c (.str []),.og 1,.og 5])] [1,2,3]<|qs [qA 4 0 1,qF 5 1 4,qA 6 0 3,qU 1 6 5] [1,2,3]<|qs [qA 7 1 1,qF 8 1 7,q1 9 40 8,qA 10 1 3,qU 1 10 9] [1,2,3]<|qs [qA 11 2 1,qF 12 1 11,q1 13 40 12,qA 14 2 3,qU 1 14 13] [1,2,3]<|qs [qA 15 3 1,qT 16 5 15,q1 17 41 16,qA 18 3 3,qS 5 18 17] [2,3]<|qr [qT 19 8 3,qS 8 2 19] [2]
theorem K.Bg : jO pZ 90 1 0 C.Bg [.cell 2 true 8]=true:=lT
def C.uk : dK:=qs [zA 2 (.mv<|.k<|.og 8)] [0]<|qs [zM 5 0,qL 6 5,zA 7 (.makes 10 8 136 [.lit (.int .i64 0),.sl 1 [],.sl 1 [],.lit (.int .i64 0),.lit (.int .i64 0),.str [],.sl 1 [],.sl 5 []] (.t 6)<|.t 6),zM 3 7] [0,3]<|.seq (qs [qI 4 0] [0,3,4]<|.block 0<|.loop<|.seq (qs [zM 8 4,zM 9 0,qL 10 9,qb 11 .lss 8 10] [0,3,4,11]<|qc 11 .skip<|.exit 0)<|.seq (.block 1<|.reg [zM 14 3,zM 15 4,zM 16 0,zM 17 4,qD 18 8 16 17,qT 19 8 18,q1 20 90 19,qD 21 8 14 15,qS 8 21 20] [0,3,4])<|.reg [zM 12 4,qk 13 .add 12 1,zM 4 13] [0,3,4])<|qr [zM 22 3,zM 2 22] [2]
theorem K.uk : jO pZ 42 1 0 C.uk [.tmp 2]=true:=lT
def C.vI : dK:=qs [qX 1 10 0,zA 2 (.alloc 11 [qy 0,.c (.str []),.og 1,.og 1,qy 0,qy 0,.c (.str []),.og 1,.og 5,.og 8])] [1,2]<|qs [zA 3 (.alloc 12 [qy 0,.c (.str []),.og 1,.og 1,qy 0,qy 0,.c (.str []),.og 1,.og 5,.og 8])] [1,2,3]<|qs [qA 4 0 1,qF 5 1 4,qA 6 0 3,qU 1 6 5] [1,2,3]<|qs [qA 7 1 1,qF 8 1 7,qA 9 1 3,qU 1 9 8] [1,2,3]<|qs [qA 10 2 1,qF 11 1 10,q1 12 40 11,qA 13 2 3,qU 1 13 12] [1,2,3]<|qs [qA 14 3 1,qF 15 1 14,q1 16 40 15,qA 17 3 3,qU 1 17 16] [1,2,3]<|qs [qA 18 4 1,qT 19 5 18,q1 20 41 19,qA 21 4 3,qS 5 21 20] [1,2,3]<|qs [qA 22 9 1,qF 23 1 22,q1 24 42 23,qA 25 9 3,qU 1 25 24] [2,3]<|qr [qT 26 10 3,qS 10 2 26] [2]
theorem K.vI : jO pZ 10 1 0 C.vI [.cell 2 true 10]=true:=lT
def C.kS : dK:=qs [zA 2 (.mv<|.k<|.og 10)] [0]<|qs [zM 5 0,qL 6 5,zA 7 (.makes 10 10 176 [.lit (.int .i64 0),.str [],.sl 1 [],.sl 1 [],.lit (.int .i64 0),.lit (.int .i64 0),.str [],.sl 1 [],.sl 5 [],.sl 8 []] (.t 6)<|.t 6),zM 3 7] [0,3]<|.seq (qs [qI 4 0] [0,3,4]<|.block 0<|.loop<|.seq (qs [zM 8 4,zM 9 0,qL 10 9,qb 11 .lss 8 10] [0,3,4,11]<|qc 11 .skip<|.exit 0)<|.seq (.block 1<|.reg [zM 14 3,zM 15 4,zM 16 0,zM 17 4,qD 18 10 16 17,qT 19 10 18,q1 20 10 19,qD 21 10 14 15,qS 10 21 20] [0,3,4])<|.reg [zM 12 4,qk 13 .add 12 1,zM 4 13] [0,3,4])<|qr [zM 22 3,zM 2 22] [2]
theorem K.kS : jO pZ 22 1 0 C.kS [.tmp 2]=true:=lT
def C.vT : dK:=qs [qX 1 10 0,zA 2 (.alloc 11 [.og 7,qy 0])] [1,2]<|qs [zA 3 (.alloc 12 [.og 7,qy 0])] [1,2,3]<|qs [qA 4 0 1,qF 5 1 4,q1 6 39 5,qA 7 0 3,qU 1 7 6] [1,2,3]<|qs [qA 8 1 1,qF 9 1 8,qA 10 1 3,qU 1 10 9] [2,3]<|qr [qT 11 2 3,qS 2 2 11] [2]
theorem K.vT : jO pZ 9 1 0 C.vT [.cell 2 true 2]=true:=lT
def C.cO : dK:=qs [qX 1 10 0,qZ 2 11] [1,2]<|qs [zA 5 (.uB 12 5 0 [.lit (.int .i64 0),.lit (.int .i64 0),.str [],.sl 1 [],.sl 5 []] []),zM 3 5] [1,2,3]<|.seq (qs [qI 4 0] [1,2,3,4]<|.block 0<|.loop<|.seq (qs [zM 6 4,qA 7 4 1,qF 8 1 7,qL 9 8,qb 10 .lss 6 9] [1,2,3,4,10]<|qc 10 .skip<|.exit 0)<|.seq (.block 1<|.reg [zM 13 3,qA 14 4 1,qF 15 1 14,zM 16 4,qD 17 5 15 16,qT 18 5 17,q1 19 83 18,zA 20 (.uB 13 5 1 [.lit (.int .i64 0),.lit (.int .i64 0),.str [],.sl 1 [],.sl 5 []] [(0,.t 19)]),zA 21 (.append 14 5 80 (.t 13)<|.t 20),zM 3 21] [1,2,3,4])<|.reg [zM 11 4,qk 12 .add 11 1,zM 4 12] [1,2,3,4])<|.seq (.uC [(qA 22 0 1,[]),(qF 23 1 22,[0]),(qA 24 1 1,[]),(qF 25 1 24,[2]),(qA 26 2 1,[]),(qF 27 1 26,[4]),(zA 28 (.uB 15 1 0 [.str []] []),[]),(qA 29 3 1,[]),(qF 30 1 29,[7]),(zA 31 (.append 16 1 16 (.t 28)<|.t 30),[6,7,8]),(zM 32 3,[]),(zA 33 (.build zN [(0,1,.t 23),(1,1,.t 25),(2,1,.t 27),(3,1,.t 31),(4,1,.t 32)]),Oz),(qS 5 2 33,Ul)] [2]) .ret
theorem K.cO : jO pZ 83 1 0 C.cO [.cell 2 true 5]=true:=lT
def C.lY : dK:=qs [zA 2 (.mv<|.k<|.c<|.str [])] [0]<|.seq (qs [zM 3 0,qk 4 .lss 3 0,zM 5 4,qm 5 true 6 0,qm 5 true 7 0,zG 5 true 8 (.neg<|.t 7),zG 5 true 9 (.bin .eql (.t 6)<|.t 8),qP 10 5 9] [0,10]<|qc 10 (qr [zA 2 (.mv<|.k<|.c<|.str [45,57,50,50,51,51,55,50,48,51,54,56,53,52,55,55,53,56,48,56])] [2]) .skip)<|.seq (qs [zM 11 0,qk 12 .lss 11 0] [0,12]<|qc 12 (qr [zM 13 0,zA 14 (.neg<|.t 13),q1 15 137 14,zA 16 (.bin .add (.k<|.c<|.str [45])<|.t 15),zM 2 16] [2]) .skip)<|.seq (qs [zM 17 0,qk 18 .lss 17 10] [0,18]<|qc 18 (qr [zM 19 0,zA 20 (.bin .add (kI 48)<|.t 19),zA 21 (.L6 .u8<|.t 20),zA 22 (.uB 10 1 1 [.lit (.int .u8 0)] [(0,.t 21)]),zA 23 (.Vl<|.t 22),zM 2 23] [2]) .skip)<|.seq (.uC [(zM 24 0,[]),(qk 25 .quo 24 10,[0]),(q1 26 137 25,[0,1]),(zM 27 0,[]),(qk 28 .rem 27 10,[3]),(zA 29 (.bin .add (kI 48)<|.t 28),[3,4]),(zA 30 (.L6 .u8<|.t 29),[3,4,5]),(zA 31 (.uB 11 1 1 [.lit (.int .u8 0)] [(0,.t 30)]),[3,4,5,6]),(zA 32 (.Vl<|.t 31),[3,4,5,6,7]),(qb 33 .add 26 32,TT),(zM 2 33,FB)] [2]) .ret
theorem K.lY : jO pZ 137 1 0 C.lY [.tmp 2]=true:=lT
def C.jL : dK:=qs [qX 2 10 0,qI 4 0] [1,2]<|.seq (qs [qI 5 0] [1,2,5]<|.block 0<|.loop<|.seq (qs [zM 6 5,qA 7 4 2,qF 8 1 7,qL 9 8,qb 10 .lss 6 9] [1,2,5,10]<|qc 10 .skip<|.exit 0)<|.seq (.block 1<|qs [qA 13 0 2,qF 14 1 13,qk 15 .eql 14 4,zM 16 15,zG 16 true 17 (.nK 3<|.t 2),zG 16 true 18 (.load false 1<|.t 17),qm 16 true 19 5,zG 16 true 20 (.Ai 1 (.t 18)<|.t 19),zG 16 true 21 (.load false 1<|.t 20),qm 16 true 22 1,zG 16 true 23 (.bin .eql (.t 21)<|.t 22),qP 24 16 23,zM 25 24,zG 25 false 26 (.nK 0<|.t 2),zG 25 false 27 (.load false 1<|.t 26),zG 25 false 28 (.bin .eql (.t 27)<|kI 3),qm 25 false 29 28,qm 29 true 30 5,⟨(some (29,true)),some 31,.call 137 [.t 30]⟩,qm 29 true 32 1,zG 29 true 33 (.bin .eql (.t 31)<|.t 32),zG 25 false 34 (.pick (.t 29) (.t 33)<|kB false),qQ 35 25 34] [1,2,5,35]<|qc 35 (qr [zM 36 5,zM 4 36] [4]) .skip)<|.reg [zM 11 5,qk 12 .add 11 1,zM 5 12] [1,2,5])<|qr [qI 4 (-1)] [4]
theorem K.jL : jO pZ 140 2 0 C.jL [.tmp 4]=true:=lT
def C.mO : dK:=qs [qX 2 10 0,qI 4 0,qB 5 false] [1,2]<|qs [qT 8 5 2,zM 9 1,q2 10 140 8 9,zM 6 10] [1,2,6]<|.seq (qs [zM 11 6,qk 12 .geq 11 0] [1,2,6,12]<|qc 12 (.seq (.uC [(zM 13 6,[]),(qA 14 0 2,[]),(qF 15 1 14,[1]),(qk 16 .eql 15 4,[1,2]),(zM 4 13,[0]),(zM 5 16,OA)] [4,5]) .ret) .skip)<|.seq (qs [qA 17 0 2,qF 18 1 17,qk 19 .eql 18 3,zM 20 19,qm 20 true 21 1,zG 20 true 22 (.bin .eql (.t 21)<|.k<|.c<|.str [45]),qm 20 true 23 22,qm 23 false 24 1,zG 23 false 25 (.nK 4<|.t 2),zG 23 false 26 (.load false 1<|.t 25),zG 23 false 27 (.len<|.t 26),⟨(some (23,false)),some 28,.call 137 [.t 27]⟩,zG 23 false 29 (.bin .eql (.t 24)<|.t 28),zG 20 true 30 (.pick (.t 23) (kB true)<|.t 29),qP 31 20 30] [1,2,31]<|qc 31 (qr [qA 32 4 2,qF 33 1 32,qL 34 33,zM 4 34,qB 5 false] [4,5]) .skip)<|.seq (qs [qI 7 0] [1,2,7]<|.block 0<|.loop<|.seq (qs [qA 35 0 2,qF 36 1 35,qk 37 .eql 36 4,zM 38 37,qm 38 true 39 7,zG 38 true 40 (.nK 4<|.t 2),zG 38 true 41 (.load false 1<|.t 40),zG 38 true 42 (.len<|.t 41),zG 38 true 43 (.bin .leq (.t 39)<|.t 42),qP 44 38 43] [1,2,7,44]<|qc 44 .skip<|.exit 0)<|.seq (.block 1<|qs [zM 47 7,qA 48 4 2,qF 49 1 48,qL 50 49,qb 51 .eql 47 50,zM 52 51,qm 52 false 53 1,zG 52 false 54 (.nK 3<|.t 2),zG 52 false 55 (.load false 1<|.t 54),qm 52 false 56 7,zG 52 false 57 (.Ai 1 (.t 55)<|.t 56),zG 52 false 58 (.load false 1<|.t 57),zG 52 false 59 (.bin .lss (.t 53)<|.t 58),qQ 60 52 59] [1,2,7,60]<|qc 60 (qr [zM 61 7,zM 4 61,qB 5 false] [4,5]) .skip)<|.reg [zM 45 7,qk 46 .add 45 1,zM 7 46] [1,2,7])<|qr [qI 4 (-1),qB 5 false] [4,5]
theorem K.mO : jO pZ 162 2 0 C.mO [.tmp 4,.tmp 5]=true:=lT
def C.pY : dK:=qs [qX 3 10 0,qX 5 11 2,qZ 6 12] [1,3,5,6]<|qs [qT 8 5 3,q1 9 83 8,qZ 7 13,qS 5 7 9] [1,5,6,7]<|.seq (.uC [(qA 10 4 7,[]),(qF 11 1 10,[0]),(zM 12 1,[]),(qT 13 5 5,[]),(q1 14 83 13,[3]),(qD 15 5 11 12,OA),(qS 5 15 14,OQ)] [6,7])<|qr [qT 16 5 7,qS 5 6 16] [6]
theorem K.pY : jO pZ 142 3 0 C.pY [.cell 6 true 5]=true:=lT
def C.rO : dK:=qs [qX 3 10 0,qX 5 11 2,qZ 6 12,qB 7 false] [1,3,5,6]<|qs [qT 14 5 3,zM 15 1,q2 16 162 14 15,zM 13 16,qE 17 13 0,qE 18 13 1,zM 8 17,zM 9 18] [1,3,5,6,8,9]<|.seq (qs [zM 19 8,qk 20 .lss 19 0] [1,3,5,6,8,9,20]<|qc 20 (qr [zA 21 (.build zN []),qS 5 6 21,qB 7 false] [6,7]) .skip)<|.seq (qs [zM 22 9] [1,3,5,6,8,22]<|qc 22 (qr [qT 23 5 3,zM 24 8,qT 25 5 5,q3 26 142 23 24 25,qS 5 6 26,qB 7 true] [6,7]) .skip)<|qs [qT 27 5 3,q1 28 83 27,qZ 10 13,qS 5 10 28] [1,3,5,6,8,10]<|.seq (.uC [(zA 29 (.uB 14 5 0 [.lit (.int .i64 0),.lit (.int .i64 0),.str [],.sl 1 [],.sl 5 []] []),[]),(qA 30 4 10,[]),(qF 31 1 30,[1]),(zM 32 8,[]),(zA 33 (.Iu 5 (.t 31) none<|some<|.t 32),[1,2,3]),(zA 34 (.append 15 5 80 (.t 29)<|.t 33),OA),(qT 35 5 5,[]),(q1 36 83 35,V9),(zA 37 (.uB 16 5 1 [.lit (.int .i64 0),.lit (.int .i64 0),.str [],.sl 1 [],.sl 5 []] [(0,.t 36)]),Oh),(zA 38 (.append 17 5 80 (.t 34)<|.t 37),TT),(zM 11 38,FB)] [1,3,6,8,10,11])<|qs [zM 39 11,qA 40 4 10,qF 41 1 40,zM 42 8,zA 43 (.Iu 5 (.t 41) (some<|.t 42) none),zA 44 (.append 18 5 80 (.t 39)<|.t 43),zM 11 44] [1,3,6,8,10,11]<|.seq (qs [qA 45 0 3,qF 46 1 45,qk 47 .eql 46 3] [1,3,6,8,10,11,47]<|qc 47 (qr [qA 48 0 3,qF 49 1 48,zA 50 (.uB 19 1 0 [.str []] []),zM 51 11,zA 52 (.build zN [(0,1,.t 49),(3,1,.t 50),(4,1,.t 51)]),qS 5 6 52,qB 7 true] [6,7]) .skip)<|qs [zA 53 (.uB 20 1 0 [.str []] []),qA 54 3 10,qF 55 1 54,zM 56 8,zA 57 (.Iu 1 (.t 55) none<|some<|.t 56),zA 58 (.append 21 1 16 (.t 53)<|.t 57),zM 59 1,zA 60 (.uB 22 1 1 [.str []] [(0,.t 59)]),zA 61 (.append 23 1 16 (.t 58)<|.t 60),zM 12 61] [3,6,8,10,11,12]<|qs [zM 62 12,qA 63 3 10,qF 64 1 63,zM 65 8,zA 66 (.Iu 1 (.t 64) (some<|.t 65) none),zA 67 (.append 24 1 16 (.t 62)<|.t 66),zM 12 67] [3,6,11,12]<|qr [qA 68 0 3,qF 69 1 68,zM 70 12,zM 71 11,zA 72 (.build zN [(0,1,.t 69),(3,1,.t 70),(4,1,.t 71)]),qS 5 6 72,qB 7 true] [6,7]
theorem K.rO : jO pZ 143 3 0 C.rO [.cell 6 true 5,.tmp 7]=true:=lT
def C.uY : dK:=qs [qX 2 10 0,qZ 4 11,qB 5 false] [1,2,4]<|.seq (qs [qI 6 0] [1,2,4,6]<|.block 0<|.loop<|.seq (qs [zM 8 6,zM 9 1,qL 10 9,qb 11 .lss 8 10] [1,2,4,6,11]<|qc 11 .skip<|.exit 0)<|.seq (.block 1<|.seq (.uC [(qT 14 5 2,[]),(zM 15 1,[]),(zM 16 6,[]),(qD 17 1 15 16,[1,2]),(qF 18 1 17,[1,2,3]),(q2 19 140 14 18,OA),(zM 7 19,OQ)] [1,2,4,6,7])<|.seq (qs [zM 20 7,qk 21 .lss 20 0] [1,2,4,6,7,21]<|qc 21 (qr [zA 22 (.build zN []),qS 5 4 22,qB 5 false] [4,5]) .skip)<|.reg [qA 23 4 2,qF 24 1 23,zM 25 7,qD 26 5 24 25,qT 27 5 26,qS 5 2 27] [1,2,4,6])<|.reg [zM 12 6,qk 13 .add 12 1,zM 6 13] [1,2,4,6])<|qr [qT 28 5 2,q1 29 83 28,qS 5 4 29,qB 5 true] [4,5]
theorem K.uY : jO pZ 159 2 0 C.uY [.cell 4 true 5,.tmp 5]=true:=lT
def C.qj : dK:=qs [qX 3 10 0,qX 5 11 2,qZ 6 12,qB 7 false] [1,3,5,6]<|.seq (qs [zM 11 1,qL 12 11,qk 13 .eql 12 0] [1,3,5,6,13]<|qc 13 (qr [qT 14 5 5,q1 15 83 14,qS 5 6 15,qB 7 true] [6,7]) .skip)<|.seq (.uC [(qT 16 5 3,[]),(zM 17 1,[]),(zA 18 (.Ai 1 (.t 17)<|kI 0),[1]),(qF 19 1 18,[1,2]),(q2 20 140 16 19,PO),(zM 8 20,OA)] [1,3,5,6,8])<|.seq (qs [zM 21 8,qk 22 .lss 21 0] [1,3,5,6,8,22]<|qc 22 (qr [zA 23 (.build zN []),qS 5 6 23,qB 7 false] [6,7]) .skip)<|.seq (.uC [(qA 25 4 3,[]),(qF 26 1 25,[0]),(zM 27 8,[]),(qD 28 5 26 27,[0,1,2]),(qT 29 5 28,PO),(zM 30 1,[]),(zA 31 (.Iu 1 (.t 30) (some<|kI 1) none),[5]),(qT 32 5 5,[]),(q3 33 158 29 31 32,Oh),(zM 24 33,TT),(qE 34 24 0,FB),(qE 35 24 1,FB),(qZ 9 13,[]),(qS 5 9 34,[0,1,2,3,4,5,6,7,8,9,10,12]),(zM 10 35,adE)] [3,6,8,9,10])<|.seq (qs [zM 36 10,qO 37 36] [3,6,8,9,37]<|qc 37 (qr [zA 38 (.build zN []),qS 5 6 38,qB 7 false] [6,7]) .skip)<|qr [qT 39 5 3,zM 40 8,qT 41 5 9,q3 42 142 39 40 41,qS 5 6 42,qB 7 true] [6,7]
theorem K.qj : jO pZ 158 3 0 C.qj [.cell 6 true 5,.tmp 7]=true:=lT
def C.vM : dK:=qs [qX 3 10 0,qX 5 11 2,qZ 6 12,qB 7 false] [1,3,5,6]<|.seq (qs [zM 13 1,qL 14 13,qk 15 .eql 14 0] [1,3,5,6,15]<|qc 15 (qr [qT 16 5 5,q1 17 83 16,qS 5 6 17,qB 7 true] [6,7]) .skip)<|qs [zM 18 1,qL 19 18,qk 20 .sub 19 1,zM 8 20] [1,3,5,6,8]<|.seq (.uC [(qT 22 5 3,[]),(zM 23 1,[]),(zM 24 8,[]),(zA 25 (.Iu 1 (.t 23) none<|some<|.t 24),[1,2]),(q2 26 159 22 25,PO),(zM 21 26,OA),(qE 27 21 0,OQ),(qE 28 21 1,OQ),(qZ 9 13,[]),(qS 5 9 27,[0,1,2,3,4,5,6,8]),(zM 10 28,FB)] [1,3,5,6,8,9,10])<|.seq (qs [zM 29 10,qO 30 29] [1,3,5,6,8,9,30]<|qc 30 (qr [zA 31 (.build zN []),qS 5 6 31,qB 7 false] [6,7]) .skip)<|.seq (.uC [(qT 33 5 9,[]),(zM 34 1,[]),(zM 35 8,[]),(qD 36 1 34 35,[1,2]),(qF 37 1 36,[1,2,3]),(qT 38 5 5,[]),(q3 39 143 33 37 38,OQ),(zM 32 39,V9),(qE 40 32 0,Oh),(qE 41 32 1,Oh),(qZ 11 14,[]),(qS 5 11 40,[0,1,2,3,4,5,6,7,8,10]),(zM 12 41,Ul)] [1,3,6,8,11,12])<|.seq (qs [zM 42 12,qO 43 42] [1,3,6,8,11,43]<|qc 43 (qr [zA 44 (.build zN []),qS 5 6 44,qB 7 false] [6,7]) .skip)<|.seq (.uC [(qT 45 5 3,[]),(zM 46 1,[]),(zM 47 8,[]),(zA 48 (.Iu 1 (.t 46) none<|some<|.t 47),[1,2]),(qT 49 5 11,[]),(q3 50 158 45 48 49,OA),(qE 51 50 0,OQ),(qE 52 50 1,OQ),(qS 5 6 51,Oh),(zM 7 52,TT)] [6,7]) .ret
theorem K.vM : jO pZ 157 3 0 C.vM [.cell 6 true 5,.tmp 7]=true:=lT
def C.nS : dK:=qs [qB 4 false] [0,1]<|.seq (qs [qI 5 0] [0,1,5]<|.block 0<|.loop<|.seq (qs [zM 6 5,zM 7 1,qL 8 7,qb 9 .lss 6 8] [0,1,5,9]<|qc 9 .skip<|.exit 0)<|.seq (.block 1<|.seq (.uC [(zM 12 5,[]),(zM 13 0,[]),(qL 14 13,[1]),(qb 15 .geq 12 14,[0,1,2]),(zM 16 15,PO),(qm 16 false 17 0,OA),(qm 16 false 18 5,OA),(zG 16 false 19 (.Ai 1 (.t 17)<|.t 18),V9),(zG 16 false 20 (.load false 1<|.t 19),Oh),(qm 16 false 21 1,OA),(qm 16 false 22 5,OA),(zG 16 false 23 (.Ai 1 (.t 21)<|.t 22),[0,1,2,3,4,9,10]),(zG 16 false 24 (.load false 1<|.t 23),[0,1,2,3,4,9,10,11]),(zG 16 false 25 (.bin .neq (.t 20)<|.t 24),agy),(qQ 26 16 25,adE)] [0,1,5,26])<|qc 26 (qr [qB 4 false] [4]) .skip)<|.reg [zM 10 5,qk 11 .add 10 1,zM 5 11] [0,1,5])<|qr [qB 4 true] [4]
theorem K.nS : jO pZ 161 2 0 C.nS [.tmp 4]=true:=lT
def C.kV : dK:=qs [qX 2 10 0,qZ 4 11,qB 5 false] [1,2,4]<|qs [zM 12 1,qL 13 12,qk 14 .sub 13 1,zM 6 14] [1,2,4,6]<|.seq (qs [zM 15 6,qk 16 .lss 15 0] [1,2,4,6,16]<|qc 16 (qr [zA 17 (.build zN []),qS 5 4 17,qB 5 false] [4,5]) .skip)<|.seq (.uC [(qT 19 5 2,[]),(zM 20 1,[]),(zM 21 6,[]),(zA 22 (.Iu 1 (.t 20) none<|some<|.t 21),[1,2]),(q2 23 159 19 22,PO),(zM 18 23,OA),(qE 24 18 0,OQ),(qE 25 18 1,OQ),(qZ 7 12,[]),(qS 5 7 24,[0,1,2,3,4,5,6,8]),(zM 8 25,FB)] [1,2,4,6,7,8])<|.seq (qs [zM 26 8,qO 27 26] [1,2,4,6,7,27]<|qc 27 (qr [zA 28 (.build zN []),qS 5 4 28,qB 5 false] [4,5]) .skip)<|.seq (.uC [(qT 29 5 7,[]),(zM 30 1,[]),(zM 31 6,[]),(qD 32 1 30 31,[1,2]),(qF 33 1 32,[1,2,3]),(q2 34 140 29 33,OA),(zM 9 34,OQ)] [1,2,4,6,7,9])<|.seq (qs [zM 35 9,qk 36 .lss 35 0] [1,2,4,6,7,9,36]<|qc 36 (qr [zA 37 (.build zN []),qS 5 4 37,qB 5 false] [4,5]) .skip)<|.seq (.uC [(zA 38 (.uB 13 5 0 [.lit (.int .i64 0),.lit (.int .i64 0),.str [],.sl 1 [],.sl 5 []] []),[]),(qA 39 4 7,[]),(qF 40 1 39,[1]),(zM 41 9,[]),(zA 42 (.Iu 5 (.t 40) none<|some<|.t 41),[1,2,3]),(zA 43 (.append 14 5 80 (.t 38)<|.t 42),OA),(qA 44 4 7,[]),(qF 45 1 44,[6]),(zM 46 9,[]),(qk 47 .add 46 1,[8]),(zA 48 (.Iu 5 (.t 45) (some<|.t 47) none),[6,7,8,9]),(zA 49 (.append 15 5 80 (.t 43)<|.t 48),Oz),(zM 10 49,Ul)] [1,2,4,6,7,9,10])<|qs [zA 50 (.uB 16 1 0 [.str []] []),zM 11 50] [1,2,4,6,7,9,10,11]<|.cut (qs [qA 51 0 7,qF 52 1 51,qk 53 .eql 52 4] [1,2,4,6,7,9,10,11,53]<|qc 53 (.uC [(zA 54 (.uB 17 1 0 [.str []] []),[]),(qA 55 3 7,[]),(qF 56 1 55,[1]),(zM 57 9,[]),(zA 58 (.Iu 1 (.t 56) none<|some<|.t 57),[1,2,3]),(zA 59 (.append 18 1 16 (.t 54)<|.t 58),OA),(qA 60 3 7,[]),(qF 61 1 60,[6]),(zM 62 9,[]),(qk 63 .add 62 1,[8]),(zA 64 (.Iu 1 (.t 61) (some<|.t 63) none),[6,7,8,9]),(zA 65 (.append 19 1 16 (.t 59)<|.t 64),Oz),(zM 11 65,Ul)] [1,2,4,6,7,10,11]) .skip)<|.seq (.uC [(qT 66 5 2,[]),(zM 67 1,[]),(zM 68 6,[]),(zA 69 (.Iu 1 (.t 67) none<|some<|.t 68),[1,2]),(qA 70 0 7,[]),(qF 71 1 70,[4]),(zM 72 11,[]),(zM 73 10,[]),(zA 74 (.build zN [(0,1,.t 71),(3,1,.t 72),(4,1,.t 73)]),[4,5,6,7]),(q3 75 158 66 69 74,TT),(qE 76 75 0,FB),(qE 77 75 1,FB),(qS 5 4 76,Ul),(zM 5 77,agy)] [4,5]) .ret
theorem K.kV : jO pZ 141 2 0 C.kV [.cell 4 true 5,.tmp 5]=true:=lT
def C.mQ : dK:=qs [qI 2 0] [0]<|.seq (qs [zM 3 0] [3]<|qc 3 (qr [qI 2 1] [2]) .skip)<|qr [qI 2 0] [2]
theorem K.mQ : jO pZ 212 1 0 C.mQ [.tmp 2]=true:=lT
def C.sK : dK:=qs [qI 4 0] [0,1]<|qr [zM 5 0,zM 6 1,qb 7 .gtr 5 6,q1 8 212 7,zM 9 0,zM 10 1,qb 11 .lss 9 10,q1 12 212 11,qb 13 .sub 8 12,zM 4 13] [4]
theorem K.sK : jO pZ 191 2 0 C.sK [.tmp 4]=true:=lT
def C.pI : dK:=qs [qI 4 0] [0,1]<|qr [zM 5 0,zM 6 1,qb 7 .gtr 5 6,q1 8 212 7,zM 9 0,zM 10 1,qb 11 .lss 9 10,q1 12 212 11,qb 13 .sub 8 12,zM 4 13] [4]
theorem K.pI : jO pZ 192 2 0 C.pI [.tmp 4]=true:=lT
def C.iO : dK:=qs [qX 2 10 0,qX 3 11 1,qI 4 0] [2,3]<|.seq (qs [qA 7 0 2,qF 8 1 7,qA 9 0 3,qF 10 1 9,qb 11 .neq 8 10] [2,3,11]<|qc 11 (qr [qA 12 0 2,qF 13 1 12,qA 14 0 3,qF 15 1 14,q2 16 191 13 15,zM 4 16] [4]) .skip)<|.seq (qs [qA 17 1 2,qF 18 1 17,qA 19 1 3,qF 20 1 19,qb 21 .neq 18 20] [2,3,21]<|qc 21 (qr [qA 22 1 2,qF 23 1 22,qA 24 1 3,qF 25 1 24,q2 26 191 23 25,zM 4 26] [4]) .skip)<|.seq (qs [qA 27 2 2,qF 28 1 27,qA 29 2 3,qF 30 1 29,qb 31 .neq 28 30] [2,3,31]<|qc 31 (qr [qA 32 2 2,qF 33 1 32,qA 34 2 3,qF 35 1 34,q2 36 192 33 35,zM 4 36] [4]) .skip)<|.seq (qs [qI 5 0] [2,3,5]<|.block 0<|.loop<|.seq (qs [zM 37 5,qA 38 4 2,qF 39 1 38,qL 40 39,qb 41 .lss 37 40,zM 42 41,qm 42 true 43 5,zG 42 true 44 (.nK 4<|.t 3),zG 42 true 45 (.load false 1<|.t 44),zG 42 true 46 (.len<|.t 45),zG 42 true 47 (.bin .lss (.t 43)<|.t 46),qP 48 42 47] [2,3,5,48]<|qc 48 .skip<|.exit 0)<|.seq (.block 1<|.seq (.seq (.uC [(qA 51 0 2,[]),(qF 52 1 51,[0]),(qk 53 .eql 52 4,[0,1]),(zM 54 53,[0,1,2]),(zG 54 true 55 (.nK 3<|.t 2),PO),(zG 54 true 56 (.load false 1<|.t 55),OA),(qm 54 true 57 5,PO),(zG 54 true 58 (.Ai 1 (.t 56)<|.t 57),V9),(zG 54 true 59 (.load false 1<|.t 58),Oh),(zG 54 true 60 (.nK 3<|.t 3),PO),(zG 54 true 61 (.load false 1<|.t 60),[0,1,2,3,9]),(qm 54 true 62 5,PO),(zG 54 true 63 (.Ai 1 (.t 61)<|.t 62),[0,1,2,3,9,10,11]),(zG 54 true 64 (.load false 1<|.t 63),[0,1,2,3,9,10,11,12]),(zG 54 true 65 (.bin .neq (.t 59)<|.t 64),adE),(qP 66 54 65,aoQ)] [2,3,5,66])<|qc 66 (.seq (.uC [(qA 67 3 2,[]),(qF 68 1 67,[0]),(zM 69 5,[]),(qD 70 1 68 69,[0,1,2]),(qF 71 1 70,PO),(qA 72 3 3,[]),(qF 73 1 72,[5]),(zM 74 5,[]),(qD 75 1 73 74,[5,6,7]),(qF 76 1 75,[5,6,7,8]),(q2 77 192 71 76,FB),(zM 4 77,Oz)] [4]) .ret) .skip)<|.seq (.uC [(qA 78 4 2,[]),(qF 79 1 78,[0]),(zM 80 5,[]),(qD 81 5 79 80,[0,1,2]),(qT 82 5 81,PO),(qA 83 4 3,[]),(qF 84 1 83,[5]),(zM 85 5,[]),(qD 86 5 84 85,[5,6,7]),(qT 87 5 86,[5,6,7,8]),(q2 88 175 82 87,FB),(zM 6 88,Oz)] [2,3,5,6])<|qs [zM 89 6,qk 90 .neq 89 0] [2,3,5,6,90]<|qc 90 (qr [zM 91 6,zM 4 91] [4]) .skip)<|.reg [zM 49 5,qk 50 .add 49 1,zM 5 50] [2,3,5])<|qr [qA 92 4 2,qF 93 1 92,qL 94 93,qA 95 4 3,qF 96 1 95,qL 97 96,q2 98 191 94 97,zM 4 98] [4]
theorem K.iO : jO pZ 175 2 0 C.iO [.tmp 4]=true:=lT
def C.zx : dK:=qs [qX 2 10 0,qX 3 11 1,qB 4 false] [2,3]<|qr [qT 5 5 2,qT 6 5 3,q2 7 175 5 6,qk 8 .eql 7 0,zM 4 8] [4]
theorem K.zx : jO pZ 160 2 0 C.zx [.tmp 4]=true:=lT
def C.lM : dK:=qs [qX 2 10 0,qX 3 11 1,qZ 4 12,qB 5 false] [2,3,4]<|.seq (qs [qA 11 0 3,qF 12 1 11] [2,3,4,12]<|.block 0<|qs [qk 14 .eql 12 1,zM 13 14] [2,3,4,12,13]<|qc 13 (qr [qT 15 5 2,qA 16 1 3,qF 17 1 16,qA 18 3 3,qT 19 5 18,q3 20 157 15 17 19,qE 21 20 0,qE 22 20 1,qS 5 4 21,zM 5 22] [4,5])<|qs [qk 24 .eql 12 2,zM 23 24] [2,3,4,12,23]<|qc 23 (qr [qT 25 5 2,qA 26 1 3,qF 27 1 26,q2 28 141 25 27,qE 29 28 0,qE 30 28 1,qS 5 4 29,zM 5 30] [4,5])<|qs [qk 32 .eql 12 3,zM 31 32] [2,3,4,31]<|qc 31 (qr [qT 33 5 2,qA 34 1 3,qF 35 1 34,qA 36 3 3,qT 37 5 36,q3 38 158 33 35 37,qE 39 38 0,qE 40 38 1,qS 5 4 39,zM 5 40] [4,5]) .skip)<|qs [qA 41 2 3,qF 42 1 41,zM 6 42] [2,3,4,6]<|.cut (qs [qA 43 0 3,qF 44 1 43,qk 45 .eql 44 6] [2,3,4,6,45]<|qc 45 (.reg [qA 46 1 3,qF 47 1 46,zM 6 47] [2,3,4,6]) .skip)<|qs [qT 49 5 2,zM 50 6,q2 51 159 49 50,zM 48 51,qE 52 48 0,qE 53 48 1,qZ 7 13,qS 5 7 52,zM 8 53] [2,3,4,7,8]<|.seq (qs [zM 54 8,qO 55 54] [2,3,4,7,55]<|qc 55 (qr [zA 56 (.build zN []),qS 5 4 56,qB 5 false] [4,5]) .skip)<|.seq (qs [qA 57 0 3,qF 58 1 57] [2,3,4,7,58]<|.block 1<|qs [qk 60 .eql 58 6,zM 59 60] [2,3,4,7,58,59]<|qc 59 (.seq (.uC [(qT 61 5 2,[]),(qT 62 5 7,[]),(qA 63 3 3,[]),(qT 64 5 63,[2]),(q2 65 160 62 64,[1,2,3]),(qS 5 4 61,OA),(zM 5 65,OQ)] [4,5]) .ret)<|qs [qk 67 .eql 58 5,zM 66 67] [2,3,4,7,66]<|qc 66 (qr [qT 68 5 2,qA 69 1 3,qF 70 1 69,qT 71 5 7,q3 72 157 68 70 71,qE 73 72 0,qE 74 72 1,qS 5 4 73,zM 5 74] [4,5]) .skip)<|.seq (qs [qA 75 1 3,qF 76 1 75,qA 77 2 3,qF 78 1 77,q2 79 161 76 78] [2,3,4,7,79]<|qc 79 (.seq (.uC [(qT 80 5 2,[]),(q1 81 83 80,[0]),(qA 82 1 3,[]),(qF 83 1 82,[2]),(qL 84 83,[2,3]),(qA 85 2 3,[]),(qF 86 1 85,[5]),(qL 87 86,[5,6]),(qb 88 .eql 84 87,[2,3,4,5,6,7]),(qS 5 4 81,[0,1]),(zM 5 88,FB)] [4,5]) .ret) .skip)<|qs [qT 90 5 2,qA 91 2 3,qF 92 1 91,q2 93 141 90 92,zM 89 93,qE 94 89 0,qE 95 89 1,qZ 9 14,qS 5 9 94,zM 10 95] [3,4,7,9,10]<|.seq (qs [zM 96 10,qO 97 96] [3,4,7,9,97]<|qc 97 (qr [zA 98 (.build zN []),qS 5 4 98,qB 5 false] [4,5]) .skip)<|qr [qT 99 5 9,qA 100 1 3,qF 101 1 100,qT 102 5 7,q3 103 157 99 101 102,qE 104 103 0,qE 105 103 1,qS 5 4 104,zM 5 105] [4,5]
theorem K.lM : jO pZ 139 2 0 C.lM [.cell 4 true 5,.tmp 5]=true:=lT
def C.nX : dK:=qs [qX 1 10 0,qI 2 0] [1]<|qs [qI 3 1] [1,3]<|.seq (qs [qI 4 0] [1,3,4]<|.block 0<|.loop<|.seq (qs [zM 5 4,qA 6 4 1,qF 7 1 6,qL 8 7,qb 9 .lss 5 8] [1,3,4,9]<|qc 9 .skip<|.exit 0)<|.seq (.block 1<|.reg [zM 12 3,qA 13 4 1,qF 14 1 13,zM 15 4,qD 16 5 14 15,qT 17 5 16,q1 18 108 17,qb 19 .add 12 18,zM 3 19] [1,3,4])<|.reg [zM 10 4,qk 11 .add 10 1,zM 4 11] [1,3,4])<|qr [zM 20 3,zM 2 20] [2]
theorem K.nX : jO pZ 108 1 0 C.nX [.tmp 2]=true:=lT
def C.iP : dK:=qs [qB 6 false] [0,1,2]<|qr [zM 7 1,zM 8 0,qb 9 .leq 7 8,zM 10 9,qm 10 true 11 0,qm 10 true 12 2,zG 10 true 13 (.bin .leq (.t 11)<|.t 12),qP 14 10 13,zM 6 14] [6]
theorem K.iP : jO pZ 77 3 0 C.iP [.tmp 6]=true:=lT
def C.jd : dK:=qs [qB 2 false] [0]<|.seq (qs [qI 3 0] [0,3]<|.block 0<|.loop<|.seq (qs [zM 4 3,zM 5 0,ql 6 5,qb 7 .lss 4 6] [0,3,7]<|qc 7 .skip<|.exit 0)<|.seq (.block 1<|qs [zM 10 0,zM 11 3,zA 12 (.idxs (.t 10)<|.t 11),zA 13 (.L6 .i64<|.t 12),⟨none,some 14,.call 77 [.t 13,kI 32,kI 126]⟩,qO 15 14] [0,3,15]<|qc 15 (qr [qB 2 false] [2]) .skip)<|.reg [zM 8 3,qk 9 .add 8 1,zM 3 9] [0,3])<|qr [zM 16 0,ql 17 16,qk 18 .leq 17 12,zM 2 18] [2]
theorem K.jd : jO pZ 133 1 0 C.jd [.tmp 2]=true:=lT
def C.pG : dK:=qs [qB 2 false] [0]<|.seq (qs [qI 3 0] [0,3]<|.block 0<|.loop<|.seq (qs [zM 4 3,zM 5 0,qL 6 5,qb 7 .lss 4 6] [0,3,7]<|qc 7 .skip<|.exit 0)<|.seq (.block 1<|.seq (.uC [(zM 10 0,[]),(zM 11 3,[]),(qD 12 1 10 11,[0,1]),(qF 13 1 12,[0,1,2]),(q1 14 133 13,PO),(qO 15 14,OA),(zM 16 15,OQ),(qm 16 false 17 3,V9),(zG 16 false 18 (.bin .gtr (.t 17)<|kI 0),Oh),(qm 16 false 19 18,TT),(qm 19 true 20 0,FB),(qm 19 true 21 3,FB),(zG 19 true 22 (.Ai 1 (.t 20)<|.t 21),Ul),(zG 19 true 23 (.load false 1<|.t 22),agy),(qm 19 true 24 0,FB),(qm 19 true 25 3,FB),(zG 19 true 26 (.bin .sub (.t 25)<|kI 1),[0,1,2,3,4,5,6,7,8,9,15]),(zG 19 true 27 (.Ai 1 (.t 24)<|.t 26),[0,1,2,3,4,5,6,7,8,9,14,15,16]),(zG 19 true 28 (.load false 1<|.t 27),[0,1,2,3,4,5,6,7,8,9,14,15,16,17]),(zG 19 true 29 (.bin .leq (.t 23)<|.t 28),ala),(zG 16 false 30 (.pick (.t 19) (.t 29)<|kB false),alb),(qQ 31 16 30,aoS)] [0,3,31])<|qc 31 (qr [qB 2 false] [2]) .skip)<|.reg [zM 8 3,qk 9 .add 8 1,zM 3 9] [0,3])<|qr [qB 2 true] [2]
theorem K.pG : jO pZ 135 1 0 C.pG [.tmp 2]=true:=lT
def C.uo : dK:=qs [qX 2 10 0,qB 4 false] [1,2]<|.seq (qs [qI 5 0] [1,2,5]<|.block 0<|.loop<|.seq (qs [zM 6 5,qA 7 4 2,qF 8 1 7,qL 9 8,qb 10 .lss 6 9] [1,2,5,10]<|qc 10 .skip<|.exit 0)<|.seq (.block 1<|qs [qA 13 4 2,qF 14 1 13,zM 15 5,qD 16 5 14 15,qT 17 5 16,zM 18 1,qk 19 .sub 18 1,q2 20 107 17 19,qO 21 20] [1,2,5,21]<|qc 21 (qr [qB 4 false] [4]) .skip)<|.reg [zM 11 5,qk 12 .add 11 1,zM 5 12] [1,2,5])<|qr [qB 4 true] [4]
theorem K.uo : jO pZ 134 2 0 C.uo [.tmp 4]=true:=lT
def C.jB : dK:=qs [qX 2 10 0,qB 4 false] [1,2]<|.cut (qs [zM 5 1,qk 6 .eql 5 0,zM 7 6,zG 7 false 8 (.nK 4<|.t 2),zG 7 false 9 (.load false 1<|.t 8),zG 7 false 10 (.len<|.t 9),zG 7 false 11 (.bin .gtr (.t 10)<|kI 6),qQ 12 7 11,zM 13 12,zG 13 false 14 (.nK 0<|.t 2),zG 13 false 15 (.load false 1<|.t 14),zG 13 false 16 (.bin .neq (.t 15)<|kI 1),qm 13 false 17 16,zG 17 true 18 (.nK 1<|.t 2),zG 17 true 19 (.load false 1<|.t 18),zG 17 true 20 (.bin .neq (.t 19)<|kI 0),zG 13 false 21 (.pick (.t 17) (.t 20)<|kB false),qQ 22 13 21,zM 23 22,zG 23 false 24 (.nK 0<|.t 2),zG 23 false 25 (.load false 1<|.t 24),zG 23 false 26 (.bin .neq (.t 25)<|kI 2),qm 23 false 27 26,zG 27 true 28 (.nK 2<|.t 2),zG 27 true 29 (.load false 1<|.t 28),zG 27 true 30 (.bin .neq (.t 29)<|.k<|.c<|.str []),zG 23 false 31 (.pick (.t 27) (.t 30)<|kB false),qQ 32 23 31,zM 33 32,zG 33 false 34 (.nK 0<|.t 2),zG 33 false 35 (.load false 1<|.t 34),zG 33 false 36 (.bin .neq (.t 35)<|kI 4),qm 33 false 37 36,zG 37 true 38 (.nK 3<|.t 2),zG 37 true 39 (.load false 1<|.t 38),zG 37 true 40 (.len<|.t 39),zG 37 true 41 (.bin .gtr (.t 40)<|kI 0),zG 33 false 42 (.pick (.t 37) (.t 41)<|kB false),qQ 43 33 42,zM 44 43,zG 44 false 45 (.nK 0<|.t 2),zG 44 false 46 (.load false 1<|.t 45),zG 44 false 47 (.bin .lss (.t 46)<|kI 3),qm 44 false 48 47,zG 48 true 49 (.nK 4<|.t 2),zG 48 true 50 (.load false 1<|.t 49),zG 48 true 51 (.len<|.t 50),zG 48 true 52 (.bin .gtr (.t 51)<|kI 0),zG 44 false 53 (.pick (.t 48) (.t 52)<|kB false),qQ 54 44 53] [1,2,54]<|qc 54 (qr [qB 4 false] [4]) .skip)<|.seq (qs [qA 55 0 2,qF 56 1 55] [1,2,56]<|.block 0<|qs [qk 58 .eql 56 1,zM 57 58] [1,2,56,57]<|qc 57 (qr [qA 59 1 2,qF 60 1 59,⟨none,some 61,.call 77 [.t 60,kI (-999999),kI 999999]⟩,zM 4 61] [4])<|qs [qk 63 .eql 56 2,zM 62 63] [1,2,56,62]<|qc 62 (qr [qA 64 2 2,qF 65 1 64,q1 66 133 65,zM 4 66] [4])<|qs [qk 68 .eql 56 3,zM 67 68] [1,2,56,67]<|qc 67 (qr [qT 69 5 2,zM 70 1,q2 71 134 69 70,zM 4 71] [4])<|qs [qk 73 .eql 56 4,zM 72 73] [1,2,72]<|qc 72 (qr [qA 74 3 2,qF 75 1 74,qL 76 75,qA 77 4 2,qF 78 1 77,qL 79 78,qb 80 .eql 76 79,zM 81 80,zG 81 true 82 (.nK 3<|.t 2),zG 81 true 83 (.load false 1<|.t 82),⟨(some (81,true)),some 84,.call 135 [.t 83]⟩,qP 85 81 84,zM 86 85,zG 86 true 87 (.load true 5<|.t 2),qm 86 true 88 1,⟨(some (86,true)),some 89,.call 134 [.t 87,.t 88]⟩,qP 90 86 89,zM 4 90] [4]) .skip)<|qr [qA 91 0 2,qF 92 1 91,qk 93 .eql 92 0,zM 4 93] [4]
theorem K.jB : jO pZ 107 2 0 C.jB [.tmp 4]=true:=lT
def C.iI : dK:=qs [qX 1 10 0,qB 2 false] [1]<|qr [qT 3 5 1,⟨none,some 4,.call 107 [.t 3,kI 5]⟩,zM 5 4,zG 5 true 6 (.load true 5<|.t 1),⟨(some (5,true)),some 7,.call 108 [.t 6]⟩,zG 5 true 8 (.bin .leq (.t 7)<|kI 40),qP 9 5 8,zM 2 9] [2]
theorem K.iI : jO pZ 76 1 0 C.iI [.tmp 2]=true:=lT
def C.qJ : dK:=qs [qX 2 10 0,qZ 4 11,qB 5 false] [1,2,4]<|.seq (qs [zM 6 1,qO 7 6,zM 8 7,zG 8 false 9 (.load true 5<|.t 2),⟨(some (8,false)),some 10,.call 76 [.t 9]⟩,zG 8 false 11 (.not<|.t 10),qQ 12 8 11] [2,4,12]<|qc 12 (qr [zA 13 (.build zN []),qS 5 4 13,qB 5 false] [4,5]) .skip)<|qr [qT 14 5 2,qS 5 4 14,qB 5 true] [4,5]
theorem K.qJ : jO pZ 117 2 0 C.qJ [.cell 4 true 5,.tmp 5]=true:=lT
def C.rG : dK:=qs [qX 2 10 0,qX 3 11 1,qZ 4 12,qB 5 false] [2,3,4]<|qs [qT 9 5 2,qT 10 8 3,q2 11 139 9 10,qE 12 11 0,qE 13 11 1,q2 14 117 12 13,zM 8 14,qE 15 8 0,qE 16 8 1,qZ 6 13,qS 5 6 15,zM 7 16] [4,6,7]<|.seq (qs [zM 17 7,qO 18 17] [4,6,18]<|qc 18 (qr [zA 19 (.build zN []),qS 5 4 19,qB 5 false] [4,5]) .skip)<|qr [qT 20 5 6,q1 21 83 20,qS 5 4 21,qB 5 true] [4,5]
theorem K.rG : jO pZ 116 2 0 C.rG [.cell 4 true 5,.tmp 5]=true:=lT
def C.jX : dK:=qs [qB 2 false] [0]<|.seq (qs [qI 3 0] [0,3]<|.block 0<|.loop<|.seq (qs [zM 4 3,zM 5 0,qL 6 5,qb 7 .lss 4 6] [0,3,7]<|qc 7 .skip<|.exit 0)<|.seq (.block 1<|qs [zM 10 0,zM 11 3,qD 12 1 10 11,qF 13 1 12,q1 14 133 13,qO 15 14] [0,3,15]<|qc 15 (qr [qB 2 false] [2]) .skip)<|.reg [zM 8 3,qk 9 .add 8 1,zM 3 9] [0,3])<|qr [zM 16 0,qL 17 16,qk 18 .leq 17 5,zM 2 18] [2]
theorem K.jX : jO pZ 136 1 0 C.jX [.tmp 2]=true:=lT
def C.vU : dK:=qs [qX 1 10 0,qB 2 false] [1]<|qr [qA 3 0 1,qF 4 1 3,⟨none,some 5,.call 77 [.t 4,kI 1,kI 6]⟩,zM 6 5,zG 6 true 7 (.nK 1<|.t 1),zG 6 true 8 (.load false 1<|.t 7),⟨(some (6,true)),some 9,.call 136 [.t 8]⟩,qP 10 6 9,zM 11 10,zG 11 true 12 (.nK 2<|.t 1),zG 11 true 13 (.load false 1<|.t 12),⟨(some (11,true)),some 14,.call 136 [.t 13]⟩,qP 15 11 14,zM 16 15,zG 16 true 17 (.nK 3<|.t 1),zG 16 true 18 (.load true 5<|.t 17),⟨(some (16,true)),some 19,.call 76 [.t 18]⟩,qP 20 16 19,zM 2 20] [2]
theorem K.vU : jO pZ 110 1 0 C.vU [.tmp 2]=true:=lT
def C.iL : dK:=qs [qB 2 false] [0]<|.seq (qs [qI 3 0] [0,3]<|.block 0<|.loop<|.seq (qs [zM 4 3,zM 5 0,qL 6 5,qb 7 .lss 4 6] [0,3,7]<|qc 7 .skip<|.exit 0)<|.seq (.block 1<|qs [zM 10 0,zM 11 3,qD 12 8 10 11,qT 13 8 12,q1 14 110 13,qO 15 14] [0,3,15]<|qc 15 (qr [qB 2 false] [2]) .skip)<|.reg [zM 8 3,qk 9 .add 8 1,zM 3 9] [0,3])<|qr [zM 16 0,qL 17 16,qk 18 .leq 17 12,zM 2 18] [2]
theorem K.iL : jO pZ 79 1 0 C.iL [.tmp 2]=true:=lT
def C.jH : dK:=qs [qX 2 10 0,qZ 4 11,qB 5 false] [1,2,4]<|.seq (qs [qT 10 5 2,q1 11 76 10,qO 12 11,zM 13 12,qm 13 false 14 1,⟨(some (13,false)),some 15,.call 79 [.t 14]⟩,zG 13 false 16 (.not<|.t 15),qQ 17 13 16] [1,2,4,17]<|qc 17 (qr [zA 18 (.build zN []),qS 5 4 18,qB 5 false] [4,5]) .skip)<|qs [qT 19 5 2,q1 20 83 19,qZ 6 12,qS 5 6 20] [1,4,6]<|.seq (qs [qI 7 0] [1,4,6,7]<|.block 0<|.loop<|.seq (qs [zM 21 7,zM 22 1,qL 23 22,qb 24 .lss 21 23] [1,4,6,7,24]<|qc 24 .skip<|.exit 0)<|.seq (.block 1<|.seq (.uC [(qT 28 5 6,[]),(zM 29 1,[]),(zM 30 7,[]),(qD 31 8 29 30,[1,2]),(qT 32 8 31,[1,2,3]),(q2 33 116 28 32,OA),(zM 27 33,OQ),(qE 34 27 0,V9),(qE 35 27 1,V9),(qZ 8 13,[]),(qS 5 8 34,[0,1,2,3,4,5,6,7,9]),(zM 9 35,Oz)] [1,4,6,7,8,9])<|.seq (qs [zM 36 9,qO 37 36] [1,4,6,7,8,37]<|qc 37 (qr [zA 38 (.build zN []),qS 5 4 38,qB 5 false] [4,5]) .skip)<|.reg [qT 39 5 8,qS 5 6 39] [1,4,6,7])<|.reg [zM 25 7,qk 26 .add 25 1,zM 7 26] [1,4,6,7])<|qr [qT 40 5 6,qS 5 4 40,qB 5 true] [4,5]
theorem K.jH : jO pZ 86 2 0 C.jH [.cell 4 true 5,.tmp 5]=true:=lT
def C.pz : dK:=qs [zA 2 (.alloc 10 [qy 0,.c (.str []),qy 0,qy 0,qy 0,.c (.str []),.og 1,.og 5])] [0,2]<|qr [zM 3 0,zA 4 (.build [qy 0,.c (.str []),qy 0,qy 0,qy 0,.c (.str []),.og 1,.og 5] [(0,1,.t 3)]),qS 8 2 4] [2]
theorem K.pz : jO pZ 37 1 0 C.pz [.cell 2 true 8]=true:=lT
def C.jK : dK:=qs [qX 2 10 0,qX 3 11 1,qZ 4 12] [2,3,4]<|.seq (qs [qA 9 0 3,qF 10 1 9,qk 11 .neq 10 4] [2,3,4,11]<|qc 11 (qr [qT 12 5 3,q1 13 83 12,qS 5 4 13] [4]) .skip)<|qs [zA 14 (.uB 13 1 0 [.str []] []),zA 15 (.uB 14 5 0 [.lit (.int .i64 0),.lit (.int .i64 0),.str [],.sl 1 [],.sl 5 []] []),zA 16 (.build zN [(0,1,kI 4),(3,1,.t 14),(4,1,.t 15)]),qZ 5 15,qS 5 5 16] [2,3,4,5]<|.cut (qs [qA 17 0 2,qF 18 1 17,qk 19 .eql 18 4] [2,3,4,5,19]<|qc 19 (.reg [qT 20 5 2,q1 21 83 20,qS 5 5 21] [3,4,5]) .skip)<|.seq (qs [qI 6 0] [3,4,5,6]<|.block 0<|.loop<|.seq (qs [zM 22 6,qA 23 4 3,qF 24 1 23,qL 25 24,qb 26 .lss 22 25] [3,4,5,6,26]<|qc 26 .skip<|.exit 0)<|.seq (.block 1<|qs [qA 29 3 3,qF 30 1 29,zM 31 6,qD 32 1 30 31,qF 33 1 32,zM 7 33] [3,4,5,6,7]<|qs [qT 34 5 5,zM 35 7,q2 36 140 34 35,zM 8 36] [3,4,5,6,7,8]<|.block 2<|qs [qA 38 4 3,qF 39 1 38,zM 40 6,qD 41 5 39 40,qA 42 0 41,qF 43 1 42,qk 44 .eql 43 0,zM 45 44,qm 45 true 46 8,zG 45 true 47 (.bin .geq (.t 46)<|kI 0),qP 48 45 47,zM 37 48] [3,4,5,6,7,8,37]<|qc 37 (.reg [qT 50 5 5,zM 51 7,zA 52 (.uB 16 1 1 [.str []] [(0,.t 51)]),q2 53 141 50 52,zM 49 53,qE 54 49 0,qE 55 49 1,qS 5 5 54] [3,4,5,6])<|qs [qA 57 4 3,qF 58 1 57,zM 59 6,qD 60 5 58 59,qA 61 0 60,qF 62 1 61,qk 63 .neq 62 0,zM 64 63,qm 64 true 65 8,zG 64 true 66 (.bin .geq (.t 65)<|kI 0),qP 67 64 66,zM 56 67] [3,4,5,6,7,8,56]<|qc 56 (.uC [(qT 68 5 5,[]),(zM 69 8,[]),(qA 70 4 5,[]),(qF 71 1 70,[2]),(zM 72 8,[]),(qD 73 5 71 72,[2,3,4]),(qT 74 5 73,[2,3,4,5]),(qA 75 4 3,[]),(qF 76 1 75,[7]),(zM 77 6,[]),(qD 78 5 76 77,[7,8,9]),(qT 79 5 78,[7,8,9,10]),(q2 80 118 74 79,[2,3,4,5,6,7,8,9,10,11]),(q3 81 142 68 69 80,agy),(qS 5 5 81,adE)] [3,4,5,6])<|qs [qA 83 4 3,qF 84 1 83,zM 85 6,qD 86 5 84 85,qA 87 0 86,qF 88 1 87,qk 89 .neq 88 0,zM 82 89] [3,4,5,6,7,82]<|qc 82 (.uC [(qT 91 5 5,[]),(zM 92 7,[]),(zA 93 (.build zN []),[]),(qA 94 4 3,[]),(qF 95 1 94,[3]),(zM 96 6,[]),(qD 97 5 95 96,[3,4,5]),(qT 98 5 97,[3,4,5,6]),(q2 99 118 93 98,[2,3,4,5,6,7]),(q3 100 143 91 92 99,TT),(zM 90 100,FB),(qE 101 90 0,Oz),(qE 102 90 1,Oz),(qS 5 5 101,Ul)] [3,4,5,6]) .skip)<|.reg [zM 27 6,qk 28 .add 27 1,zM 6 28] [3,4,5,6])<|qr [qT 103 5 5,qS 5 4 103] [4]
theorem K.jK : jO pZ 118 2 0 C.jK [.cell 4 true 5]=true:=lT
def C.rF : dK:=qs [qX 2 10 0,qX 3 11 1,qZ 4 12,qB 5 false] [2,3,4]<|.seq (qs [qT 6 5 2,q1 7 76 6,qO 8 7,zM 9 8,zG 9 false 10 (.load true 5<|.t 3),⟨(some (9,false)),some 11,.call 76 [.t 10]⟩,zG 9 false 12 (.not<|.t 11),qQ 13 9 12] [2,3,4,13]<|qc 13 (qr [zA 14 (.build zN []),qS 5 4 14,qB 5 false] [4,5]) .skip)<|qr [qT 15 5 2,qT 16 5 3,q2 17 118 15 16,⟨none,some 18,.call 117 [.t 17,.k (.c<|.lit<|.bool true)]⟩,qE 19 18 0,qE 20 18 1,qS 5 4 19,zM 5 20] [4,5]
theorem K.rF : jO pZ 87 2 0 C.rF [.cell 4 true 5,.tmp 5]=true:=lT
def C.nJ : dK:=qs [qB 4 false] [0,1]<|.seq (qs [qI 5 0] [0,1,5]<|.block 0<|.loop<|.seq (qs [zM 6 5,zM 7 0,qL 8 7,qb 9 .lss 6 8] [0,1,5,9]<|qc 9 .skip<|.exit 0)<|.seq (.block 1<|qs [zM 12 0,zM 13 5,qD 14 1 12 13,qF 15 1 14,zM 16 1,qb 17 .eql 15 16,zM 18 17,qm 18 false 19 0,qm 18 false 20 5,zG 18 false 21 (.Ai 1 (.t 19)<|.t 20),zG 18 false 22 (.load false 1<|.t 21),zG 18 false 23 (.bin .eql (.t 22)<|.k<|.c<|.str [42]),qQ 24 18 23] [0,1,5,24]<|qc 24 (qr [qB 4 true] [4]) .skip)<|.reg [zM 10 5,qk 11 .add 10 1,zM 5 11] [0,1,5])<|qr [qB 4 false] [4]
theorem K.nJ : jO pZ 111 2 0 C.nJ [.tmp 4]=true:=lT
def C.wV : dK:=qs [qI 8 0] [0,1,2,3]<|.seq (qs [zM 9 0,qL 10 9,qk 11 .gtr 10 0,zM 12 11,qm 12 true 13 2,zG 12 true 14 (.bin .eql (.t 13)<|.k<|.c<|.str []),qm 12 true 15 14,qm 15 false 16 0,qm 15 false 17 2,⟨(some (15,false)),some 18,.call 111 [.t 16,.t 17]⟩,zG 15 false 19 (.not<|.t 18),zG 12 true 20 (.pick (.t 15) (kB true)<|.t 19),qP 21 12 20] [1,2,3,21]<|qc 21 (qr [qI 8 412] [8]) .skip)<|.seq (qs [zM 22 1,qL 23 22,qk 24 .gtr 23 0,zM 25 24,qm 25 true 26 2,zG 25 true 27 (.bin .neq (.t 26)<|.k<|.c<|.str []),qP 28 25 27,zM 29 28,qm 29 true 30 1,qm 29 true 31 2,⟨(some (29,true)),some 32,.call 111 [.t 30,.t 31]⟩,qP 33 29 32] [3,33]<|qc 33 (.seq (qs [zM 34 3] [34]<|qc 34 (qr [qI 8 304] [8]) .skip)<|qr [qI 8 412] [8]) .skip)<|qr [qI 8 200] [8]
theorem K.wV : jO pZ 81 4 0 C.wV [.tmp 8]=true:=lT
def C.fZ : dK:=qs [qX 1 10 0,zA 2 (.alloc 11 [.og 7,qy 0])] [1,2]<|qs [zA 5 (.uB 12 7 0 [.str [],.lit (.int .i64 0),.lit (.int .i64 0),.lit (.int .i64 0),.str [],.sl 1 [],.sl 5 []] []),zM 3 5] [1,2,3]<|.seq (qs [qI 4 0] [1,2,3,4]<|.block 0<|.loop<|.seq (qs [zM 6 4,qA 7 0 1,qF 8 1 7,qL 9 8,qb 10 .lss 6 9] [1,2,3,4,10]<|qc 10 .skip<|.exit 0)<|.seq (.block 1<|.uC [(zM 13 3,[]),(qA 14 0 1,[]),(qF 15 1 14,[1]),(zM 16 4,[]),(qD 17 7 15 16,[1,2,3]),(qA 18 0 17,[1,2,3,4]),(qF 19 1 18,[1,2,3,4,5]),(qA 20 0 1,[]),(qF 21 1 20,[7]),(zM 22 4,[]),(qD 23 7 21 22,[7,8,9]),(qA 24 1 23,[7,8,9,10]),(qF 25 1 24,[7,8,9,10,11]),(qA 26 0 1,[]),(qF 27 1 26,[13]),(zM 28 4,[]),(qD 29 7 27 28,[13,14,15]),(qA 30 2 29,[13,14,15,16]),(qT 31 5 30,[13,14,15,16,17]),(q1 32 83 31,[13,14,15,16,17,18]),(zA 33 (.build [.c (.str []),qy 0,qy 0,qy 0,.c (.str []),.og 1,.og 5] [(0,1,.t 19),(1,1,.t 25),(2,5,.t 32)]),[1,2,3,4,5,6,7,8,9,10,11,12,13,14,15,16,17,18,19]),(zA 34 (.uB 13 7 1 [.str [],.lit (.int .i64 0),.lit (.int .i64 0),.lit (.int .i64 0),.str [],.sl 1 [],.sl 5 []] [(0,.t 33)]),[1,2,3,4,5,6,7,8,9,10,11,12,13,14,15,16,17,18,19,20]),(zA 35 (.append 14 7 104 (.t 13)<|.t 34),ajg),(zM 3 35,aoT)] [1,2,3,4])<|.reg [zM 11 4,qk 12 .add 11 1,zM 4 12] [1,2,3,4])<|qr [zM 36 3,qA 37 1 1,qF 38 1 37,zA 39 (.build [.og 7,qy 0] [(0,1,.t 36),(1,1,.t 38)]),qS 2 2 39] [2]
theorem K.fZ : jO pZ 62 1 0 C.fZ [.cell 2 true 2]=true:=lT
def C.sS : dK:=qs [qX 2 10 0,zA 4 (.alloc 11 [.og 7,qy 0])] [1,2,4]<|qs [zA 8 (.uB 12 7 0 [.str [],.lit (.int .i64 0),.lit (.int .i64 0),.lit (.int .i64 0),.str [],.sl 1 [],.sl 5 []] []),zM 5 8] [1,2,4,5]<|qs [qT 9 2 2,q1 10 62 9,zA 11 (.field false 0 1<|.t 10),zM 6 11] [1,2,4,5,6]<|.seq (qs [qI 7 0] [1,2,4,5,6,7]<|.block 0<|.loop<|.seq (qs [zM 12 7,zM 13 6,qL 14 13,qb 15 .lss 12 14] [1,2,4,5,6,7,15]<|qc 15 .skip<|.exit 0)<|.seq (.block 1<|qs [zM 18 6,zM 19 7,qD 20 7 18 19,qA 21 0 20,qF 22 1 21,zM 23 1,qb 24 .neq 22 23] [1,2,4,5,6,7,24]<|qc 24 (.reg [zM 25 5,zM 26 6,zM 27 7,qD 28 7 26 27,qT 29 7 28,zA 30 (.uB 13 7 1 [.str [],.lit (.int .i64 0),.lit (.int .i64 0),.lit (.int .i64 0),.str [],.sl 1 [],.sl 5 []] [(0,.t 29)]),zA 31 (.append 14 7 104 (.t 25)<|.t 30),zM 5 31] [1,2,4,5,6,7]) .skip)<|.reg [zM 16 7,qk 17 .add 16 1,zM 7 17] [1,2,4,5,6,7])<|qr [zM 32 5,qA 33 1 2,qF 34 1 33,qk 35 .add 34 1,zA 36 (.build [.og 7,qy 0] [(0,1,.t 32),(1,1,.t 35)]),qS 2 4 36] [4]
theorem K.sS : jO pZ 85 2 0 C.sS [.cell 4 true 2]=true:=lT
def C.pX : dK:=qs [qX 2 10 0,qI 4 0] [1,2]<|.seq (qs [qI 5 0] [1,2,5]<|.block 0<|.loop<|.seq (qs [zM 6 5,qA 7 0 2,qF 8 1 7,qL 9 8,qb 10 .lss 6 9] [1,2,5,10]<|qc 10 .skip<|.exit 0)<|.seq (.block 1<|qs [qA 13 0 2,qF 14 1 13,zM 15 5,qD 16 7 14 15,qA 17 0 16,qF 18 1 17,zM 19 1,qb 20 .eql 18 19] [1,2,5,20]<|qc 20 (qr [zM 21 5,zM 4 21] [4]) .skip)<|.reg [zM 11 5,qk 12 .add 11 1,zM 5 12] [1,2,5])<|qr [qI 4 (-1)] [4]
theorem K.pX : jO pZ 80 2 0 C.pX [.tmp 4]=true:=lT
def C.nY : dK:=qs [zA 2 (.mv<|.k<|.c<|.str [])] [0]<|qs [zA 3 (.mv<|.k<|.c<|.str [34])] [0,3]<|.seq (qs [qI 4 0] [0,3,4]<|.block 0<|.loop<|.seq (qs [zM 5 4,zM 6 0,ql 7 6,qb 8 .lss 5 7] [0,3,4,8]<|qc 8 .skip<|.exit 0)<|.seq (.block 1<|.seq (qs [zM 11 0,zM 12 4,zA 13 (.idxs (.t 11)<|.t 12),zA 14 (.bin .eql (.t 13)<|.k<|.c<|.lit<|.int .u8 34),zM 15 14,qm 15 false 16 0,qm 15 false 17 4,zG 15 false 18 (.idxs (.t 16)<|.t 17),zG 15 false 19 (.bin .eql (.t 18)<|.k<|.c<|.lit<|.int .u8 92),qQ 20 15 19] [0,3,4,20]<|qc 20 (.reg [zM 21 3,zA 22 (.bin .add (.t 21)<|.k<|.c<|.str [92]),zM 3 22] [0,3,4]) .skip)<|.reg [zM 23 3,zM 24 0,zM 25 4,zM 26 4,qk 27 .add 26 1,zA 28 (.Wn (.t 24) (some<|.t 25)<|some<|.t 27),qb 29 .add 23 28,zM 3 29] [0,3,4])<|.reg [zM 9 4,qk 10 .add 9 1,zM 4 10] [0,3,4])<|qr [zM 30 3,zA 31 (.bin .add (.t 30)<|.k<|.c<|.str [34]),zM 2 31] [2]
theorem K.nY : jO pZ 138 1 0 C.nY [.tmp 2]=true:=lT
def C.ig : dK:=qs [qX 1 10 0,zA 2 (.mv<|.k<|.c<|.str [])] [1]<|qs [zA 3 (.mv<|.k<|.c<|.str [])] [1,3]<|.seq (qs [qA 5 0 1,qF 6 1 5] [1,3,6]<|.block 0<|qs [qk 8 .eql 6 1,zM 7 8] [1,3,6,7]<|qc 7 (qr [qA 9 1 1,qF 10 1 9,q1 11 137 10,zM 2 11] [2])<|qs [qk 13 .eql 6 2,zM 12 13] [1,3,6,12]<|qc 12 (qr [qA 14 2 1,qF 15 1 14,q1 16 138 15,zM 2 16] [2])<|qs [qk 18 .eql 6 0,zM 17 18] [1,3,17]<|qc 17 (qr [zA 2 (.mv<|.k<|.c<|.str [110,117,108,108])] [2]) .skip)<|.seq (qs [qI 4 0] [1,3,4]<|.block 1<|.loop<|.seq (qs [zM 19 4,qA 20 4 1,qF 21 1 20,qL 22 21,qb 23 .lss 19 22] [1,3,4,23]<|qc 23 .skip<|.exit 1)<|.seq (.block 2<|.cut (qs [zM 26 4,qk 27 .gtr 26 0] [1,3,4,27]<|qc 27 (.reg [zM 28 3,zA 29 (.bin .add (.t 28)<|.k<|.c<|.str [44]),zM 3 29] [1,3,4]) .skip)<|.cut (qs [qA 30 0 1,qF 31 1 30,qk 32 .eql 31 4] [1,3,4,32]<|qc 32 (.reg [zM 33 3,qA 34 3 1,qF 35 1 34,zM 36 4,qD 37 1 35 36,qF 38 1 37,q1 39 138 38,qb 40 .add 33 39,zA 41 (.bin .add (.t 40)<|.k<|.c<|.str [58]),zM 3 41] [1,3,4]) .skip)<|.reg [zM 42 3,qA 43 4 1,qF 44 1 43,zM 45 4,qD 46 5 44 45,qT 47 5 46,q1 48 114 47,qb 49 .add 42 48,zM 3 49] [1,3,4])<|.reg [zM 24 4,qk 25 .add 24 1,zM 4 25] [1,3,4])<|.seq (qs [qA 50 0 1,qF 51 1 50,qk 52 .eql 51 4] [3,52]<|qc 52 (qr [zM 53 3,zA 54 (.bin .add (.k<|.c<|.str [123])<|.t 53),zA 55 (.bin .add (.t 54)<|.k<|.c<|.str [125]),zM 2 55] [2]) .skip)<|qr [zM 56 3,zA 57 (.bin .add (.k<|.c<|.str [91])<|.t 56),zA 58 (.bin .add (.t 57)<|.k<|.c<|.str [93]),zM 2 58] [2]
theorem K.ig : jO pZ 114 1 0 C.ig [.tmp 2]=true:=lT
def C.Bj : dK:=qs [zA 2 (.mv<|.k<|.c<|.str [])] [0]<|qs [zA 3 (.mv<|.k<|.c<|.str [48,49,50,51,52,53,54,55,56,57,97,98,99,100,101,102])] [0,3]<|.seq (.uC [(zM 4 3,[]),(zM 5 0,[]),(qk 6 .quo 5 4096,[1]),(zA 7 (.idxs (.t 4)<|.t 6),[0,1,2]),(zM 8 3,[]),(zM 9 0,[]),(qk 10 .quo 9 256,[5]),(qk 11 .rem 10 16,[5,6]),(zA 12 (.idxs (.t 8)<|.t 11),[4,5,6,7]),(zM 13 3,[]),(zM 14 0,[]),(qk 15 .quo 14 16,[10]),(qk 16 .rem 15 16,[10,11]),(zA 17 (.idxs (.t 13)<|.t 16),[9,10,11,12]),(zM 18 3,[]),(zM 19 0,[]),(qk 20 .rem 19 16,[15]),(zA 21 (.idxs (.t 18)<|.t 20),[14,15,16]),(zA 22 (.uB 10 1 4 [.lit (.int .u8 0)] [(0,.t 7),(1,.t 12),(2,.t 17),(3,.t 21)]),anb),(zA 23 (.Vl<|.t 22),ala),(zM 2 23,alb)] [2]) .ret
theorem K.Bj : jO pZ 112 1 0 C.Bj [.tmp 2]=true:=lT
def C.rH : dK:=qs [qI 2 0] [0]<|qs [qI 3 17] [0,3]<|.seq (qs [qI 4 0] [0,3,4]<|.block 0<|.loop<|.seq (qs [zM 5 4,zM 6 0,ql 7 6,qb 8 .lss 5 7] [0,3,4,8]<|qc 8 .skip<|.exit 0)<|.seq (.block 1<|.reg [zM 11 3,zA 12 (.bin .mul (kI 131)<|.t 11),zM 13 0,zM 14 4,zA 15 (.idxs (.t 13)<|.t 14),zA 16 (.L6 .i64<|.t 15),qb 17 .add 12 16,qk 18 .rem 17 65521,zM 3 18] [0,3,4])<|.reg [zM 9 4,qk 10 .add 9 1,zM 4 10] [0,3,4])<|qr [zM 19 3,zM 2 19] [2]
theorem K.rH : jO pZ 113 1 0 C.rH [.tmp 2]=true:=lT
def C.uD : dK:=qs [qX 2 10 0,zA 4 (.mv<|.k<|.c<|.str [])] [1,2]<|qs [qT 6 2 2,zM 7 1,q2 8 80 6 7,zM 5 8] [2,5]<|.seq (qs [zM 9 5,qk 10 .lss 9 0] [2,5,10]<|qc 10 (qr [zA 4 (.mv<|.k<|.c<|.str [])] [4]) .skip)<|qr [qA 11 0 2,qF 12 1 11,zM 13 5,qD 14 7 12 13,qA 15 2 14,qT 16 5 15,q1 17 114 16,q1 18 113 17,q1 19 112 18,zM 4 19] [4]
theorem K.uD : jO pZ 82 2 0 C.uD [.tmp 4]=true:=lT
def C.mP : dK:=qs [qX 3 10 0,qX 5 11 2,zA 6 (.alloc 12 [.og 7,qy 0])] [1,3,5,6]<|qs [zA 12 (.uB 13 7 0 [.str [],.lit (.int .i64 0),.lit (.int .i64 0),.lit (.int .i64 0),.str [],.sl 1 [],.sl 5 []] []),zM 7 12] [1,3,5,6,7]<|.seq (.uC [(zM 13 1,[]),(qA 14 1 3,[]),(qF 15 1 14,[1]),(qk 16 .add 15 1,[1,2]),(qT 17 5 5,[]),(q1 18 83 17,[4]),(zA 19 (.build [.c (.str []),qy 0,qy 0,qy 0,.c (.str []),.og 1,.og 5] [(0,1,.t 13),(1,1,.t 16),(2,5,.t 18)]),OQ),(zA 8 (.alloc 14 [.c (.str []),qy 0,qy 0,qy 0,.c (.str []),.og 1,.og 5]),[]),(qS 7 8 19,Oh)] [1,3,6,7,8])<|qs [qT 20 2 3,q1 21 62 20,zA 22 (.field false 0 1<|.t 21),zM 9 22] [1,3,6,7,8,9]<|qs [qB 10 false] [1,3,6,7,8,9,10]<|.seq (qs [qI 11 0] [1,3,6,7,8,9,10,11]<|.block 0<|.loop<|.seq (qs [zM 23 11,zM 24 9,qL 25 24,qb 26 .lss 23 25] [1,3,6,7,8,9,10,11,26]<|qc 26 .skip<|.exit 0)<|.seq (.block 1<|.cut (qs [zM 29 10,qO 30 29,zM 31 30,qm 31 true 32 9,qm 31 true 33 11,zG 31 true 34 (.Ai 7 (.t 32)<|.t 33),zG 31 true 35 (.nK 0<|.t 34),zG 31 true 36 (.load false 1<|.t 35),qm 31 true 37 1,zG 31 true 38 (.bin .geq (.t 36)<|.t 37),qP 39 31 38] [1,3,6,7,8,9,10,11,39]<|qc 39 (qs [zM 40 7,qT 41 7 8,zA 42 (.uB 15 7 1 [.str [],.lit (.int .i64 0),.lit (.int .i64 0),.lit (.int .i64 0),.str [],.sl 1 [],.sl 5 []] [(0,.t 41)]),zA 43 (.append 16 7 104 (.t 40)<|.t 42),zM 7 43] [1,3,6,7,8,9,11]<|.reg [qB 10 true] [1,3,6,7,8,9,10,11]) .skip)<|qs [zM 44 9,zM 45 11,qD 46 7 44 45,qA 47 0 46,qF 48 1 47,zM 49 1,qb 50 .neq 48 49] [1,3,6,7,8,9,10,11,50]<|qc 50 (.reg [zM 51 7,zM 52 9,zM 53 11,qD 54 7 52 53,qT 55 7 54,zA 56 (.uB 17 7 1 [.str [],.lit (.int .i64 0),.lit (.int .i64 0),.lit (.int .i64 0),.str [],.sl 1 [],.sl 5 []] [(0,.t 55)]),zA 57 (.append 18 7 104 (.t 51)<|.t 56),zM 7 57] [1,3,6,7,8,9,10,11]) .skip)<|.reg [zM 27 11,qk 28 .add 27 1,zM 11 28] [1,3,6,7,8,9,10,11])<|.seq (qs [zM 58 10,qO 59 58] [3,6,7,8,59]<|qc 59 (.reg [zM 60 7,qT 61 7 8,zA 62 (.uB 19 7 1 [.str [],.lit (.int .i64 0),.lit (.int .i64 0),.lit (.int .i64 0),.str [],.sl 1 [],.sl 5 []] [(0,.t 61)]),zA 63 (.append 20 7 104 (.t 60)<|.t 62),zM 7 63] [3,6,7]) .skip)<|qr [zM 64 7,qA 65 1 3,qF 66 1 65,qk 67 .add 66 1,zA 68 (.build [.og 7,qy 0] [(0,1,.t 64),(1,1,.t 67)]),qS 2 6 68] [6]
theorem K.mP : jO pZ 115 3 0 C.mP [.cell 6 true 2]=true:=lT
def C.jC : dK:=qs [qB 2 false] [0]<|.seq (qs [qI 3 0] [0,3]<|.block 0<|.loop<|.seq (qs [zM 4 3,zM 5 0,ql 6 5,qb 7 .lss 4 6] [0,3,7]<|qc 7 .skip<|.exit 0)<|.seq (.block 1<|qs [zM 10 0,zM 11 3,zA 12 (.idxs (.t 10)<|.t 11),zA 13 (.L6 .i64<|.t 12),⟨none,some 14,.call 77 [.t 13,kI 97,kI 122]⟩,qO 15 14,zM 16 15,qm 16 true 17 0,qm 16 true 18 3,zG 16 true 19 (.idxs (.t 17)<|.t 18),zG 16 true 20 (.L6 .i64<|.t 19),⟨(some (16,true)),some 21,.call 77 [.t 20,kI 48,kI 57]⟩,zG 16 true 22 (.not<|.t 21),qP 23 16 22] [0,3,23]<|qc 23 (qr [qB 2 false] [2]) .skip)<|.reg [zM 8 3,qk 9 .add 8 1,zM 3 9] [0,3])<|qr [zM 24 0,ql 25 24,⟨none,some 26,.call 77 [.t 25,kI 1,kI 8]⟩,zM 2 26] [2]
theorem K.jC : jO pZ 75 1 0 C.jC [.tmp 2]=true:=lT
def C.gX : dK:=qs [qX 1 10 0,qB 2 false] [1]<|.seq (qs [qI 3 0] [1,3]<|.block 0<|.loop<|.seq (qs [zM 5 3,qA 6 0 1,qF 7 1 6,qL 8 7,qb 9 .lss 5 8] [1,3,9]<|qc 9 .skip<|.exit 0)<|.seq (.block 1<|qs [qA 12 0 1,qF 13 1 12,zM 14 3,qD 15 7 13 14,qT 16 7 15,zA 4 (.alloc 11 [.c (.str []),qy 0,qy 0,qy 0,.c (.str []),.og 1,.og 5]),qS 7 4 16] [1,3,4]<|.seq (.uC [(qA 17 0 4,[]),(qF 18 1 17,[0]),(q1 19 75 18,[0,1]),(qO 20 19,[0,1,2]),(zM 21 20,PO),(zG 21 false 22 (.nK 2<|.t 4),OA),(zG 21 false 23 (.load true 5<|.t 22),OQ),(⟨(some (21,false)),some 24,.call 76 [.t 23]⟩,V9),(zG 21 false 25 (.not<|.t 24),Oh),(qQ 26 21 25,TT),(zM 27 26,FB),(zG 27 false 28 (.nK 1<|.t 4),Oz),(zG 27 false 29 (.load false 1<|.t 28),Ul),(zG 27 false 30 (.nK 1<|.t 1),Oz),(zG 27 false 31 (.load false 1<|.t 30),[0,1,2,3,4,5,6,7,8,9,10,13]),(⟨(some (27,false)),some 32,.call 77 [.t 29,kI 1,.t 31]⟩,aoQ),(zG 27 false 33 (.not<|.t 32),ap6),(qQ 34 27 33,aoR),(zM 35 34,anb),(qm 35 false 36 3,ala),(zG 35 false 37 (.bin .gtr (.t 36)<|kI 0),alb),(qm 35 false 38 37,aoS),(zG 38 true 39 (.nK 0<|.t 4),ajg),(zG 38 true 40 (.load false 1<|.t 39),aoT),(zG 38 true 41 (.nK 0<|.t 1),ajg),(zG 38 true 42 (.load false 1<|.t 41),[0,1,2,3,4,5,6,7,8,9,10,11,12,13,14,15,16,17,18,19,20,21,24]),(qm 38 true 43 3,ajg),(zG 38 true 44 (.bin .sub (.t 43)<|kI 1),[0,1,2,3,4,5,6,7,8,9,10,11,12,13,14,15,16,17,18,19,20,21,26]),(zG 38 true 45 (.Ai 7 (.t 42)<|.t 44),[0,1,2,3,4,5,6,7,8,9,10,11,12,13,14,15,16,17,18,19,20,21,24,25,26,27]),(zG 38 true 46 (.nK 0<|.t 45),[0,1,2,3,4,5,6,7,8,9,10,11,12,13,14,15,16,17,18,19,20,21,24,25,26,27,28]),(zG 38 true 47 (.load false 1<|.t 46),[0,1,2,3,4,5,6,7,8,9,10,11,12,13,14,15,16,17,18,19,20,21,24,25,26,27,28,29]),(zG 38 true 48 (.bin .leq (.t 40)<|.t 47),ap7),(zG 35 false 49 (.pick (.t 38) (.t 48)<|kB false),ap8),(qQ 50 35 49,ap9)] [1,3,50])<|qc 50 (qr [qB 2 false] [2]) .skip)<|.reg [zM 10 3,qk 11 .add 10 1,zM 3 11] [1,3])<|qr [qA 51 0 1,qF 52 1 51,qL 53 52,qk 54 .leq 53 10,zM 55 54,zG 55 true 56 (.nK 1<|.t 1),zG 55 true 57 (.load false 1<|.t 56),⟨(some (55,true)),some 58,.call 77 [.t 57,kI 0,kI 999]⟩,qP 59 55 58,zM 2 59] [2]
theorem K.gX : jO pZ 35 1 0 C.gX [.tmp 2]=true:=lT
def C.mG : dK:=qs [qX 3 10 0,qX 5 11 2,zA 6 (.alloc 12 [.og 7,qy 0]),zA 7 (.alloc 13 [qy 0,.c (.str []),qy 0,qy 0,qy 0,.c (.str []),.og 1,.og 5])] [1,3,5,6,7]<|qs [qI 8 200] [1,3,5,6,7,8]<|.cut (qs [qT 10 2 3,zM 11 1,q2 12 80 10 11,qk 13 .lss 12 0] [1,3,5,6,7,8,13]<|qc 13 (.reg [qI 8 201] [1,3,5,6,7,8]) .skip)<|qs [qT 14 2 3,zM 15 1,qT 16 5 5,q3 17 115 14 15 16,zA 9 (.alloc 14 [.og 7,qy 0]),qS 2 9 17] [1,3,6,7,8,9]<|.seq (qs [qT 18 2 9,q1 19 35 18,qO 20 19] [1,3,6,7,8,9,20]<|qc 20 (qr [qT 21 2 3,q1 22 62 21,⟨none,some 23,.call 37 [kI 422]⟩,qS 2 6 22,qS 8 7 23] [6,7]) .skip)<|.seq (.uC [(qT 24 2 9,[]),(zM 25 8,[]),(qT 26 2 9,[]),(zM 27 1,[]),(q2 28 82 26 27,[2,3]),(qA 29 1 9,[]),(qF 30 1 29,[5]),(zA 31 (.build [qy 0,.c (.str []),qy 0,qy 0,qy 0,.c (.str []),.og 1,.og 5] [(0,1,.t 25),(1,1,.t 28),(2,1,.t 30)]),[1,2,3,4,5,6]),(qS 2 6 24,[0,2,3,4]),(qS 8 7 31,TT)] [6,7]) .ret
theorem K.mG : jO pZ 84 3 0 C.mG [.cell 6 true 2,.cell 7 true 8]=true:=lT
def C.kR : dK:=qs [qX 2 10 0,qX 3 11 1,zA 4 (.alloc 12 [.og 7,qy 0]),zA 5 (.alloc 13 [qy 0,.c (.str []),qy 0,qy 0,qy 0,.c (.str []),.og 1,.og 5])] [2,3,4,5]<|qs [qT 10 2 2,qA 11 1 3,qF 12 1 11,q2 13 80 10 12,zM 6 13] [2,3,4,5,6]<|.seq (qs [zM 14 6,qk 15 .lss 14 0,zM 16 15,zG 16 true 17 (.nK 0<|.t 3),zG 16 true 18 (.load false 1<|.t 17),zG 16 true 19 (.bin .neq (.t 18)<|kI 2),qP 20 16 19] [2,3,4,5,6,20]<|qc 20 (qr [qT 21 2 2,q1 22 62 21,⟨none,some 23,.call 37 [kI 404]⟩,qS 2 4 22,qS 8 5 23] [4,5]) .skip)<|.seq (.uC [(qA 24 2 3,[]),(qF 25 1 24,[0]),(qA 26 3 3,[]),(qF 27 1 26,[2]),(qT 28 2 2,[]),(qA 29 1 3,[]),(qF 30 1 29,[5]),(q2 31 82 28 30,[4,5,6]),(qA 32 0 3,[]),(qF 33 1 32,[8]),(qk 34 .eql 33 1,[8,9]),(⟨none,some 35,.call 81 [.t 25,.t 27,.t 31,.t 34]⟩,Oz),(zM 7 35,Ul)] [2,3,4,5,6,7])<|.seq (qs [zM 36 7,qk 37 .neq 36 200] [2,3,4,5,6,7,37]<|qc 37 (qr [qT 38 2 2,q1 39 62 38,zM 40 7,q1 41 37 40,qS 2 4 39,qS 8 5 41] [4,5]) .skip)<|.seq (qs [qA 42 0 3,qF 43 1 42] [2,3,4,5,6,7,43]<|.block 0<|qs [qk 45 .eql 43 1,zM 44 45] [2,3,4,5,6,7,43,44]<|qc 44 (.seq (.uC [(qT 46 2 2,[]),(q1 47 62 46,[0]),(zM 48 7,[]),(qT 49 2 2,[]),(qA 50 1 3,[]),(qF 51 1 50,[4]),(q2 52 82 49 51,[0,1,3,4,5]),(qA 53 0 2,[]),(qF 54 1 53,[7]),(zM 55 6,[]),(qD 56 7 54 55,[7,8,9]),(qA 57 1 56,[7,8,9,10]),(qF 58 1 57,[7,8,9,10,11]),(qA 59 0 2,[]),(qF 60 1 59,[13]),(zM 61 6,[]),(qD 62 7 60 61,[13,14,15]),(qA 63 2 62,[13,14,15,16]),(qT 64 5 63,[13,14,15,16,17]),(q1 65 83 64,[0,1,3,4,5,6,13,14,15,16,17,18]),(zA 66 (.build [qy 0,.c (.str []),qy 0,qy 0,qy 0,.c (.str []),.og 1,.og 5] [(0,1,.t 48),(1,1,.t 52),(2,1,.t 58),(3,5,.t 65)]),alb),(qS 2 4 47,[0,1,3,4,5,6,13,14,15,16,17,18,19]),(qS 8 5 66,ajg)] [4,5]) .ret)<|qs [qk 68 .eql 43 2,zM 67 68] [2,3,4,5,6,7,43,67]<|qc 67 (qr [qT 69 2 2,qA 70 1 3,qF 71 1 70,qA 72 4 3,qT 73 5 72,q3 74 84 69 71 73,qE 75 74 0,qE 76 74 1,qS 2 4 75,qS 8 5 76] [4,5])<|qs [qk 78 .eql 43 3,zM 77 78] [2,3,4,5,6,7,77]<|qc 77 (.seq (qs [qA 79 1 2,qF 80 1 79,qk 81 .eql 80 999] [2,3,4,5,7,81]<|qc 81 (qr [qT 82 2 2,q1 83 62 82,⟨none,some 84,.call 37 [kI 422]⟩,qS 2 4 83,qS 8 5 84] [4,5]) .skip)<|.seq (.uC [(qT 85 2 2,[]),(qA 86 1 3,[]),(qF 87 1 86,[1]),(q2 88 85 85 87,[0,1,2]),(zM 89 7,[]),(qA 90 1 2,[]),(qF 91 1 90,[5]),(qk 92 .add 91 1,[5,6]),(zA 93 (.build [qy 0,.c (.str []),qy 0,qy 0,qy 0,.c (.str []),.og 1,.og 5] [(0,1,.t 89),(2,1,.t 92)]),[4,5,6,7]),(qS 2 4 88,PO),(qS 8 5 93,FB)] [4,5]) .ret) .skip)<|.seq (.uC [(qA 95 0 2,[]),(qF 96 1 95,[0]),(zM 97 6,[]),(qD 98 7 96 97,[0,1,2]),(qA 99 2 98,PO),(qT 100 5 99,OA),(qA 101 9 3,[]),(qF 102 1 101,[6]),(q2 103 86 100 102,Oh),(zM 94 103,TT),(qE 104 94 0,FB),(qE 105 94 1,FB),(qZ 8 14,[]),(qS 5 8 104,[0,1,2,3,4,5,6,7,8,9,10,12]),(zM 9 105,adE)] [2,3,4,5,6,8,9])<|.cut (qs [qA 106 0 3,qF 107 1 106,qk 108 .eql 107 5] [2,3,4,5,6,8,9,108]<|qc 108 (.uC [(qA 110 0 2,[]),(qF 111 1 110,[0]),(zM 112 6,[]),(qD 113 7 111 112,[0,1,2]),(qA 114 2 113,PO),(qT 115 5 114,OA),(qA 116 4 3,[]),(qT 117 5 116,[6]),(q2 118 87 115 117,Oh),(zM 109 118,TT),(qE 119 109 0,FB),(qE 120 109 1,FB),(qS 5 8 119,Oz),(zM 9 120,agy)] [2,3,4,5,8,9]) .skip)<|.seq (qs [zM 121 9,qO 122 121] [2,3,4,5,8,122]<|qc 122 (qr [qT 123 2 2,q1 124 62 123,⟨none,some 125,.call 37 [kI 422]⟩,qS 2 4 124,qS 8 5 125] [4,5]) .skip)<|qr [qT 126 2 2,qA 127 1 3,qF 128 1 127,qT 129 5 8,q3 130 84 126 128 129,qE 131 130 0,qE 132 130 1,qS 2 4 131,qS 8 5 132] [4,5]
theorem K.kR : jO pZ 38 2 0 C.kR [.cell 4 true 2,.cell 5 true 8]=true:=lT
def C.lS : dK:=qs [qB 2 false] [0]<|.seq (qs [qI 3 0] [0,3]<|.block 0<|.loop<|.seq (qs [zM 4 3,zM 5 0,ql 6 5,qb 7 .lss 4 6] [0,3,7]<|qc 7 .skip<|.exit 0)<|.seq (.block 1<|qs [zM 10 0,zM 11 3,zA 12 (.idxs (.t 10)<|.t 11),zA 13 (.L6 .i64<|.t 12),⟨none,some 14,.call 77 [.t 13,kI 48,kI 57]⟩,qO 15 14,zM 16 15,qm 16 true 17 0,qm 16 true 18 3,zG 16 true 19 (.idxs (.t 17)<|.t 18),zG 16 true 20 (.L6 .i64<|.t 19),⟨(some (16,true)),some 21,.call 77 [.t 20,kI 97,kI 102]⟩,zG 16 true 22 (.not<|.t 21),qP 23 16 22] [0,3,23]<|qc 23 (qr [qB 2 false] [2]) .skip)<|.reg [zM 8 3,qk 9 .add 8 1,zM 3 9] [0,3])<|qr [zM 24 0,ql 25 24,qk 26 .eql 25 4,zM 2 26] [2]
theorem K.lS : jO pZ 109 1 0 C.lS [.tmp 2]=true:=lT
def C.kH : dK:=qs [qB 2 false] [0]<|.seq (qs [qI 3 0] [0,3]<|.block 0<|.loop<|.seq (qs [zM 4 3,zM 5 0,qL 6 5,qb 7 .lss 4 6] [0,3,7]<|qc 7 .skip<|.exit 0)<|.seq (.block 1<|qs [zM 10 0,zM 11 3,qD 12 1 10 11,qF 13 1 12,zA 14 (.bin .neq (.t 13)<|.k<|.c<|.str [42]),zM 15 14,qm 15 true 16 0,qm 15 true 17 3,zG 15 true 18 (.Ai 1 (.t 16)<|.t 17),zG 15 true 19 (.load false 1<|.t 18),⟨(some (15,true)),some 20,.call 109 [.t 19]⟩,zG 15 true 21 (.not<|.t 20),qP 22 15 21] [0,3,22]<|qc 22 (qr [qB 2 false] [2]) .skip)<|.reg [zM 8 3,qk 9 .add 8 1,zM 3 9] [0,3])<|qr [zM 23 0,qL 24 23,qk 25 .leq 24 4,zM 2 25] [2]
theorem K.kH : jO pZ 78 1 0 C.kH [.tmp 2]=true:=lT
def C.oL : dK:=qs [qX 1 10 0,qB 2 false] [1]<|qr [qA 3 0 1,qF 4 1 3,⟨none,some 5,.call 77 [.t 4,kI 1,kI 5]⟩,zM 6 5,zG 6 true 7 (.nK 1<|.t 1),zG 6 true 8 (.load false 1<|.t 7),⟨(some (6,true)),some 9,.call 75 [.t 8]⟩,qP 10 6 9,zM 11 10,zG 11 true 12 (.nK 2<|.t 1),zG 11 true 13 (.load false 1<|.t 12),⟨(some (11,true)),some 14,.call 78 [.t 13]⟩,qP 15 11 14,zM 16 15,zG 16 true 17 (.nK 3<|.t 1),zG 16 true 18 (.load false 1<|.t 17),⟨(some (16,true)),some 19,.call 78 [.t 18]⟩,qP 20 16 19,zM 21 20,zG 21 true 22 (.nK 4<|.t 1),zG 21 true 23 (.load true 5<|.t 22),⟨(some (21,true)),some 24,.call 76 [.t 23]⟩,qP 25 21 24,zM 26 25,zG 26 true 27 (.nK 9<|.t 1),zG 26 true 28 (.load false 1<|.t 27),⟨(some (26,true)),some 29,.call 79 [.t 28]⟩,qP 30 26 29,zM 2 30] [2]
theorem K.oL : jO pZ 36 1 0 C.oL [.tmp 2]=true:=lT
def C.jo : dK:=qs [qB 2 false] [0]<|.seq (qs [qI 3 0] [0,3]<|.block 0<|.loop<|.seq (qs [zM 4 3,zM 5 0,qL 6 5,qb 7 .lss 4 6] [0,3,7]<|qc 7 .skip<|.exit 0)<|.seq (.block 1<|qs [zM 10 0,zM 11 3,qD 12 10 10 11,qT 13 10 12,q1 14 36 13,qO 15 14] [0,3,15]<|qc 15 (qr [qB 2 false] [2]) .skip)<|.reg [zM 8 3,qk 9 .add 8 1,zM 3 9] [0,3])<|qr [zM 16 0,qL 17 16,qk 18 .leq 17 8,zM 2 18] [2]
theorem K.jo : jO pZ 61 1 0 C.jo [.tmp 2]=true:=lT
def C.iQ : dK:=qs [qX 2 10 0,zA 4 (.alloc 11 [.og 7,qy 0]),zA 5 (.mv<|.k<|.og 8)] [1,2,4]<|qs [zA 11 (.uB 12 8 0 [.lit (.int .i64 0),.str [],.lit (.int .i64 0),.lit (.int .i64 0),.lit (.int .i64 0),.str [],.sl 1 [],.sl 5 []] []),zM 6 11] [1,2,4,6]<|.seq (qs [qT 12 2 2,q1 13 35 12,qO 14 13,zM 15 14,qm 15 false 16 1,⟨(some (15,false)),some 17,.call 61 [.t 16]⟩,zG 15 false 18 (.not<|.t 17),qQ 19 15 18] [1,2,4,6,19]<|qc 19 (qr [zA 20 (.build [.og 7,qy 0] []),qS 2 4 20,zA 5 (.mv<|.k<|.og 8)] [4,5]) .skip)<|qs [qT 21 2 2,q1 22 62 21,zA 7 (.alloc 13 [.og 7,qy 0]),qS 2 7 22] [1,4,6,7]<|.seq (qs [qI 8 0] [1,4,6,7,8]<|.block 0<|.loop<|.seq (qs [zM 23 8,zM 24 1,qL 25 24,qb 26 .lss 23 25] [1,4,6,7,8,26]<|qc 26 .skip<|.exit 0)<|.seq (.block 1<|.seq (.uC [(qT 30 2 7,[]),(zM 31 1,[]),(zM 32 8,[]),(qD 33 10 31 32,[1,2]),(qT 34 10 33,[1,2,3]),(q2 35 38 30 34,OA),(zM 29 35,OQ),(qE 36 29 0,V9),(qE 37 29 1,V9),(zA 9 (.alloc 14 [.og 7,qy 0]),[]),(zA 10 (.alloc 15 [qy 0,.c (.str []),qy 0,qy 0,qy 0,.c (.str []),.og 1,.og 5]),[]),(qS 2 9 36,[0,1,2,3,4,5,6,7,9,10]),(qS 8 10 37,Ul)] [1,4,6,7,8,9,10])<|qs [qT 38 2 9,qS 2 7 38] [1,4,6,7,8,10]<|.reg [zM 39 6,qT 40 8 10,zA 41 (.uB 16 8 1 [.lit (.int .i64 0),.str [],.lit (.int .i64 0),.lit (.int .i64 0),.lit (.int .i64 0),.str [],.sl 1 [],.sl 5 []] [(0,.t 40)]),zA 42 (.append 17 8 112 (.t 39)<|.t 41),zM 6 42] [1,4,6,7,8])<|.reg [zM 27 8,qk 28 .add 27 1,zM 8 28] [1,4,6,7,8])<|qr [qT 43 2 7,zM 44 6,qS 2 4 43,zM 5 44] [4,5]
theorem K.iQ : jO pZ 21 2 0 C.iQ [.cell 4 true 2,.tmp 5]=true:=lT
section
section
variable {P:Program} {K R:gZ->Prop} {st:gZ}
theorem aj9 {du:DU (QA K R)} : QK (QA K R) .normal st du=K st:=by unfold QK;rfl
theorem aka {du:DU (QA K R)} : QK (QA K R) .ret st du=R st:=by unfold QK;rfl
end
theorem afJ {p:Prop}(x:p:=by
 repeat' (
  (try simp -dsimp only[egR,aj9,aka,nR.qi,nR.f,nR.rd,Ec,Bc,lvl,zy,reduceIte,Nat.reduceEqDiff,Nat.reduceAdd,Nat.reduceLeDiff,Nat.reduceBEq,reduceCtorEq,Int.reduceBNe,Int.reduceBEq,Int.reduceLT,Int.reduceLE,Int.reduceNeg,Nat.reduceLT,Ef,Int.reduceToNat,GI, *])
  repeat((with_reducible refine And.intro ?_ ?_);focus first|(show Aw _ _ _ _=true;kernel_rfl)|(show zK _ _=true;kernel_rfl)|omega|assumption|(show _<=maxLen;decide))
  first
  |with_reducible refine ahA ?_
  |((with_reducible refine ac7 ?_);(have zd:=zc;(repeat(first|((first|refine ahz (λ_=>zd.1) rfl rfl ?_|refine ahB zd.1 rfl rfl ?_);clear zd)|with_reducible replace zd:=zd.2));(fail_if_success have zz:=zd)))
  |exact zf.f
  |((with_reducible refine air ?_);(exact Ew [] [] [] (by rfl) tRE tRE tRE)<;>fail)
  )):p:=x
end
theorem FZ.ins {P:Program}{f gr sz cb:Nat}{z:List Cell}(h0:sz≠0)(hK:LU P f 3 2 (C.ins sz cb gr z) [.tmp 6]=true){es:List (List Cell)}{v:List Cell}{c i:Nat}(hc:es.length<=c)(hi:i<=es.length)(hb:(es.length+1)*(cb+sz+1)<=2^46) :
 NS P f [.one (.sub 0 0 es.length (some c) sz),.one (.c (.lit (.int .i64 (i:Int)))),.one (.own 1 1 sz)] [.dat sz es,.dat sz [v]]
  (λr1 b1=>r1 = .one (.own 2 (es.length+1) sz)/\b1=[.dead,.dat sz [v],.dat sz (es.take i++v::es.drop i)]):=by
 have hb0:es.length+1<=(es.length+1)*(cb+sz+1):=BM _ aI;have hw:af .i64 ((es.length:Int)+((1:Nat):Int))=((es.length+1:Nat):Int):=by rw[GZ]<;>omega
 have hw2:af .i64 ((i:Int)+((1:Nat):Int))=((i+1:Nat):Int):=by rw[GZ]<;>omega
 have hw3:af .i64 (((es.length+1:Nat):Int)-i)=((es.length+1-i:Nat):Int):=by rw[GZ]<;>omega
 refine VC hK (ug ?_);unfold C.ins;have h10:(((1:Nat):Int)==0)=false:=rfl;by_cases h1:i=es.length
 ·subst h1;have he:((es.length:Int)==(es.length:Int))=true:=by simp
  simp -dsimp only[egR,nR.qi,nR.f,nR.rd,Ec,Bc,lvl,zy,reduceIte,Nat.reduceEqDiff,Nat.reduceAdd,Nat.reduceLeDiff,Nat.reduceBEq,reduceCtorEq,Int.reduceBNe,Int.reduceBEq,Int.reduceLT,Int.reduceLE,Int.reduceNeg,Nat.reduceLT,Ef,Int.reduceToNat,GI,Bl,NH,H6,H8,Hu,H7,truncS,lQ,uz,oP,tJ,rQ,dM,qg,jJ,h10]
  repeat refine lN (by first|(show Aw _ _ _ _=true;kernel_rfl)|(show zK _ _=true;kernel_rfl)|omega|assumption) ?_
  have e:es++[v]++oM (es.length+1) es=es++v::oM es.length es:=by simp
  have e2:es++[v]=es++v::oM es.length es:=by simp
  by_cases hr:es.length+1<=c
  ·simp -dsimp only[egR,nR.qi,nR.f,nR.rd,Ec,Bc,lvl,zy,reduceIte,Nat.reduceEqDiff,Nat.reduceAdd,Nat.reduceLeDiff,Nat.reduceBEq,reduceCtorEq,Int.reduceBNe,Int.reduceBEq,Int.reduceLT,Int.reduceLE,Int.reduceNeg,Nat.reduceLT,Ef,Int.reduceToNat,GI,Bl,NH,H6,H8,Hu,H7,truncS,lQ,uz,oP,tJ,rQ,dM,qg,jJ,hr]
   repeat refine lN (by first|(show Aw _ _ _ _=true;kernel_rfl)|(show zK _ _=true;kernel_rfl)|omega|assumption) ?_
   rw[e];refine SS [] [(0,0),(1,1),(2,0)] [] (by rfl) ?_ ?_ ?_<;>(simp -dsimp only[rwR,wkB,MC,reduceIte,Nat.reduceEqDiff,reduceCtorEq,Nat.reduceAdd,Nat.reduceLeDiff]<;>first|(simp[bz];done)|((try simp only[xC,zl,vk,bT,jP])<;>(repeat' apply lN)<;>first|rfl|(simp;done)|(simp<;>omega;done)|(congr 1;exact(bz (by simp<;>omega)).symm)))
  ·simp -dsimp only[egR,nR.qi,nR.f,nR.rd,Ec,Bc,lvl,zy,reduceIte,Nat.reduceEqDiff,Nat.reduceAdd,Nat.reduceLeDiff,Nat.reduceBEq,reduceCtorEq,Int.reduceBNe,Int.reduceBEq,Int.reduceLT,Int.reduceLE,Int.reduceNeg,Nat.reduceLT,Ef,Int.reduceToNat,GI,Bl,NH,H6,H8,Hu,H7,truncS,lQ,uz,oP,tJ,rQ,dM,qg,jJ,hr]
   repeat refine lN (by first|(show Aw _ _ _ _=true;kernel_rfl)|(show zK _ _=true;kernel_rfl)|omega|assumption) ?_
   rw[e2];refine SS [] [(0,0),(1,1),(2,10)] [] (by rfl) ?_ ?_ ?_<;>(simp -dsimp only[rwR,wkB,MC,reduceIte,Nat.reduceEqDiff,reduceCtorEq,Nat.reduceAdd,Nat.reduceLeDiff]<;>first|(simp[bz];done)|((try simp only[xC,zl,vk,bT,jP])<;>(repeat' apply lN)<;>first|rfl|(simp;done)|(simp<;>omega;done)|(congr 1;exact(bz (by simp<;>omega)).symm)))
 ·have he:((i:Int)==(es.length:Int))=false:=by simp;omega
  simp -dsimp only[egR,nR.qi,nR.f,nR.rd,Ec,Bc,lvl,zy,reduceIte,Nat.reduceEqDiff,Nat.reduceAdd,Nat.reduceLeDiff,Nat.reduceBEq,reduceCtorEq,Int.reduceBNe,Int.reduceBEq,Int.reduceLT,Int.reduceLE,Int.reduceNeg,Nat.reduceLT,Ef,Int.reduceToNat,GI,Bl,NH,H6,H8,Hu,H7,truncS,lQ,uz,oP,tJ,rQ,dM,qg,jJ,h10]
  repeat refine lN (by first|(show Aw _ _ _ _=true;kernel_rfl)|(show zK _ _=true;kernel_rfl)|omega|assumption) ?_
  simp -dsimp only[egR,nR.qi,nR.f,nR.rd,Ec,Bc,lvl,zy,reduceIte,Nat.reduceEqDiff,Nat.reduceAdd,Nat.reduceLeDiff,Nat.reduceBEq,reduceCtorEq,Int.reduceBNe,Int.reduceBEq,Int.reduceLT,Int.reduceLE,Int.reduceNeg,Nat.reduceLT,Ef,Int.reduceToNat,GI,Bl,NH,H6,H8,Hu,H7,truncS,lQ,uz,oP,tJ,rQ,dM,qg,jJ,he];by_cases hr:es.length+1<=c
  ·have hd:decide ((c:Int)<((es.length+1:Nat):Int))=false:=(by simp;omega);simp -dsimp only[egR,nR.qi,nR.f,nR.rd,Ec,Bc,lvl,zy,reduceIte,Nat.reduceEqDiff,Nat.reduceAdd,Nat.reduceLeDiff,Nat.reduceBEq,reduceCtorEq,Int.reduceBNe,Int.reduceBEq,Int.reduceLT,Int.reduceLE,Int.reduceNeg,Nat.reduceLT,Ef,Int.reduceToNat,GI,Bl,NH,H6,H8,Hu,H7,truncS,lQ,uz,oP,tJ,rQ,dM,qg,jJ,hw,hd]
   repeat refine lN (by first|(show Aw _ _ _ _=true;kernel_rfl)|(show zK _ _=true;kernel_rfl)|omega|assumption) ?_
   simp -dsimp only[egR,nR.qi,nR.f,nR.rd,Ec,Bc,lvl,zy,reduceIte,Nat.reduceEqDiff,Nat.reduceAdd,Nat.reduceLeDiff,Nat.reduceBEq,reduceCtorEq,Int.reduceBNe,Int.reduceBEq,Int.reduceLT,Int.reduceLE,Int.reduceNeg,Nat.reduceLT,Ef,Int.reduceToNat,GI,Bl,NH,H6,H8,Hu,H7,truncS,lQ,uz,oP,tJ,rQ,dM,qg,jJ,hw2]
   repeat refine lN (by first|(show Aw _ _ _ _=true;kernel_rfl)|(show zK _ _=true;kernel_rfl)|omega|assumption) ?_
   refine lN (by simp[h0];omega) ?_;have e:=apU es v i aI;simp only[splice]at e;rw[e];refine SS [] [(0,0),(1,1),(2,0)] [] (by rfl) ?_ ?_ ?_<;>(simp -dsimp only[rwR,wkB,MC,reduceIte,Nat.reduceEqDiff,reduceCtorEq,Nat.reduceAdd,Nat.reduceLeDiff]<;>first|(simp[bz];done)|((try simp only[xC,zl,vk,bT,jP])<;>(repeat' apply lN)<;>first|rfl|(simp;done)|(simp<;>omega;done)|(congr 1;exact(bz (by simp<;>omega)).symm)))
  ·have hd:decide ((c:Int)<((es.length+1:Nat):Int))=true:=(by simp;omega);have hx:c<i+(es.length+1-i):=(by omega);have e0:i+(es.length+1-i)=es.length+1:=(by omega);have hb2:(i+(es.length+1-i))*(cb+sz+1)<=2^46:=(by rw[e0];exact hb);simp -dsimp only[egR,nR.qi,nR.f,nR.rd,Ec,Bc,lvl,zy,reduceIte,Nat.reduceEqDiff,Nat.reduceAdd,Nat.reduceLeDiff,Nat.reduceBEq,reduceCtorEq,Int.reduceBNe,Int.reduceBEq,Int.reduceLT,Int.reduceLE,Int.reduceNeg,Nat.reduceLT,Ef,Int.reduceToNat,GI,Bl,NH,H6,H8,Hu,H7,truncS,lQ,uz,oP,tJ,rQ,dM,qg,jJ,hw,hd,hw2,hw3]
   repeat refine lN (by first|(show Aw _ _ _ _=true;kernel_rfl)|(show zK _ _=true;kernel_rfl)|omega|assumption) ?_
   refine lN (by simp[h0];omega) ?_
   repeat refine lN (by first|(show Aw _ _ _ _=true;kernel_rfl)|(show zK _ _=true;kernel_rfl)|omega|assumption) ?_
   refine lN ⟨aI,by simp;omega⟩ ?_
   repeat refine lN (by first|(show Aw _ _ _ _=true;kernel_rfl)|(show zK _ _=true;kernel_rfl)|omega|assumption) ?_
   have e:=apV es v z i _ aI rfl;simp only[splice]at e;have e0:i+(es.length+1-i)=es.length+1:=(by omega);rw[e,e0];refine SS [] [(0,0),(1,1),(2,11)] [] (by rfl) ?_ ?_ ?_<;>(simp -dsimp only[rwR,wkB,MC,reduceIte,Nat.reduceEqDiff,reduceCtorEq,Nat.reduceAdd,Nat.reduceLeDiff]<;>first|(simp[bz];done)|((try simp only[xC,zl,vk,bT,jP])<;>(repeat' apply lN)<;>first|rfl|(simp;done)|(simp<;>omega;done)|(congr 1;exact(bz (by simp<;>omega)).symm)))
theorem FZ.del {P:Program}{f sz cb:Nat}{z:List Cell}(h0:sz≠0)(hK:LU P f 3 1 (C.del sz cb z) [.tmp 6]=true){es:List (List Cell)}{c i j:Nat}(hc:es.length<=c)(hi:i<j)(hj:j<=es.length)(hb:es.length*(cb+sz+1)<=2^46) :
 NS P f [.one (.sub 0 0 es.length (some c) sz),.one (.c (.lit (.int .i64 (i:Int)))),.one (.c (.lit (.int .i64 (j:Int))))] [.dat sz es]
  (λr1 b1=>r1 = .one (.sub 1 0 (i+(es.length-j)) (some c) sz)/\b1=[.dead,.dat sz (es.take i++es.drop j)]):=by
 have hb0:es.length<=es.length*(cb+sz+1):=BM _ aI;refine VC hK (ug ?_);unfold C.del;have he:((i:Int)==(j:Int))=false:=by simp;omega
 have ht:yP (es.length-j) (oM j es)=oM j es:=bz mD;have hr:i+(es.length-j)<=c:=by omega
 simp -dsimp only[egR,nR.qi,nR.f,nR.rd,Ec,Bc,lvl,zy,reduceIte,Nat.reduceEqDiff,Nat.reduceAdd,Nat.reduceLeDiff,Nat.reduceBEq,reduceCtorEq,Int.reduceBNe,Int.reduceBEq,Int.reduceLT,Int.reduceLE,Int.reduceNeg,Nat.reduceLT,Ef,Int.reduceToNat,GI,Bl,NH,H6,H8,Hu,H7,truncS,lQ,uz,oP,tJ,rQ,dM,qg,jJ,he]
 repeat refine lN (by first|(show Aw _ _ _ _=true;kernel_rfl)|(show zK _ _=true;kernel_rfl)|omega|assumption) ?_
 simp -dsimp only[egR,nR.qi,nR.f,nR.rd,Ec,Bc,lvl,zy,reduceIte,Nat.reduceEqDiff,Nat.reduceAdd,Nat.reduceLeDiff,Nat.reduceBEq,reduceCtorEq,Int.reduceBNe,Int.reduceBEq,Int.reduceLT,Int.reduceLE,Int.reduceNeg,Nat.reduceLT,Ef,Int.reduceToNat,GI,Bl,NH,H6,H8,Hu,H7,truncS,lQ,uz,oP,tJ,rQ,dM,qg,jJ,ht,nD,hr]
 repeat refine lN (by first|(show Aw _ _ _ _=true;kernel_rfl)|(show zK _ _=true;kernel_rfl)|omega|assumption) ?_
 refine lN (by simp[h0];omega) ?_;have e4:(yP i es).length=i:=by simp;omega
 have e:yP (i+(es.length-j)) (yP i es++oM j es++oM (i+(es.length-j)) es)=yP i es++oM j es:=by
  have e5:(yP i es++oM j es).length=i+(es.length-j):=by rw[List.length_append,e4,nD]
  rw[List.take_append_of_le_length aI,bz aI]
 rw[e,List.append_assoc];generalize bW (es.length-(i+(es.length-j))) z++oM (i+(es.length-j)+(es.length-(i+(es.length-j)))) (yP i es++oM j es++oM (i+(es.length-j)) es)=T;generalize yP i es++oM j es=A;refine SS [] [(0,0),(1,0)] [] (by rfl) ?_ ?_ ?_<;>(simp -dsimp only[rwR,wkB,MC,reduceIte,Nat.reduceEqDiff,reduceCtorEq,Nat.reduceAdd,Nat.reduceLeDiff]<;>first|(simp[bz];done)|((try simp only[xC,zl,vk,bT,jP])<;>(repeat' apply lN)<;>first|rfl|(simp;done)|(simp<;>omega;done)|(congr 1;exact(bz (by simp<;>omega)).symm)))
theorem FG.ins {α:Type}(enc:α->List Cell){P:Program}{f gr sz cb:Nat}{z:List Cell}(h0:sz≠0)(hK:LU P f 3 2 (C.ins sz cb gr z) [.tmp 6]=true){s v r:List α}{i:Int}
 (h:chk (0<=i/\i<=(s.length:Int)/\v.length=1/\(s.length+1)*(cb+sz+1)<=2^46) (some (s.take i.toNat++v++s.drop i.toNat))=some r) (hk:aio P f sz=true:=by kernel_rfl) :
 pM P f [.one (.own 0 s.length sz),.one (.c (.lit (.int .i64 i))),.one (.own 1 v.length sz)] [.dat sz (List.map enc s),.dat sz (List.map enc v)]
  (λr1 b1=>r1 = .one (.own 2 r.length sz)/\b1=[.dead,.dat sz (List.map enc v),.dat sz (List.map enc r)]):=by
 obtain⟨⟨q1,q2,q3,q4⟩,h⟩:=En.1 h;cases h;obtain⟨x,rfl⟩:=List.length_eq_one_iff.1 q3;obtain⟨k,rfl⟩:∃k:Nat,i=k:=⟨i.toNat,by omega⟩;have hf:=ak4 hk (es:=List.map enc s) (v:=enc x) (i:=k) (by rw[List.length_map];omega) (λls lv c hl hc=>by rw[List.length_map]at hl hc;have:=FZ.ins h0 hK (es:=lits ls) (v:=lv.map .lit) (c:=c) (i:=k) (by rw[Eu];omega) (by rw[Eu];omega) (by rw[Eu,hl];exact q4);rw[Eu]at this;simpa[lits]using this)
 have e1:(List.take k s++[x]++List.drop k s).length=s.length+1:=by simp;omega
 rw[Int.toNat_natCast,e1];simpa using hf
theorem FG.del {α:Type}(enc:α->List Cell){P:Program}{f sz cb:Nat}{z:List Cell}(h0:sz≠0)(hK:LU P f 3 1 (C.del sz cb z) [.tmp 6]=true){s r:List α}{i j:Int}
 (h:chk (0<=i/\i<j/\j<=(s.length:Int)/\s.length*(cb+sz+1)<=2^46) (some (s.take i.toNat++s.drop j.toNat))=some r) (hk:ahN P f sz=true:=by kernel_rfl) :
 pM P f [.one (.own 0 s.length sz),.one (.c (.lit (.int .i64 i))),.one (.c (.lit (.int .i64 j)))] [.dat sz (List.map enc s)]
  (λr1 b1=>r1 = .one (.own 1 r.length sz)/\b1=[.dead,.dat sz (List.map enc r)]):=by
 obtain⟨⟨q1,q2,q3,q4⟩,h⟩:=En.1 h;cases h;obtain⟨k,rfl⟩:∃k:Nat,i=k:=⟨i.toNat,by omega⟩;obtain⟨l,rfl⟩:∃l:Nat,j=l:=⟨j.toNat,by omega⟩;have hf:=ak3 hk (es:=List.map enc s) (i:=k) (j:=l) (by omega) (by rw[List.length_map];omega) (λls c hl hc=>by rw[List.length_map]at hl hc;have:=FZ.del h0 hK (es:=lits ls) (c:=c) (i:=k) (j:=l) (by rw[Eu];omega) (by omega) (by rw[Eu];omega) (by rw[Eu,hl];exact q4);rw[Eu]at this;simpa[lits]using this)
 have e1:(List.take k s++List.drop l s).length=k+(s.length-l):=by simp;omega
 rw[Int.toNat_natCast,Int.toNat_natCast,e1];simpa using hf
end Go.Ab
