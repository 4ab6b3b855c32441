/- The functions of the program that the laws reach: what they compute, the proofs that they do, the laws of the data (part 1). No conditions. -/
import Derived.Test.YtfengbmckcgbiaaGreatDoorX3
set_option linter.unusedVariables false
set_option linter.unusedSimpArgs false
set_option maxRecDepth 100000
set_option maxHeartbeats 4000000
set_option linter.defProp false
set_option linter.unusedSectionVars false
open And renaming intro->kZ
open Go.IntKind renaming wrap->af,bits->iq
open Go.Lib renaming compareBytes->jO
open Go.Op renaming bytesLess->iw
open Int renaming tmod->kP,tdiv->lU,ofNat_zero->rD,toNat_sub->sO,fdiv->su,sub_zero->tY
open List renaming take_of_length_le->aT,map_cons->aZ,map->ai,replicate->bC,drop_zero->bT,map_nil->jH,length_drop->mG,drop->nX,take_length->pz,map_append->uG,map_take->wP,map_drop->yD,take->yg
open Nat renaming le_mul_of_pos_right->Bq,add_sub_cancel->iH,sub_zero->oh
open Option renaming map_none->lg
open UInt8 renaming ofNat->fB,toNat_inj->zB
namespace Go.Ab
open Go
structure ak where
 alC:Int
 Num:Int
 amV:dR
 aiJ:List dR
 ajX:List ak
 deriving Inhabited
mutual
def ak.cells : ak->List Cell
 |ak.mk x0 x1 x2 x3 x4=>[.lit (.int .i64 x0),.lit (.int .i64 x1),.str x2,.sl 1 (ai cS x3),.sl 5 (ak.Ls x4)]
def ak.Ls : List ak->List (List Cell)
 |[]=>[]
 |x::r=>x.cells::ak.Ls r
end
theorem ak.Yq (ks:List ak):ak.Ls ks=ai ak.cells ks:=by
 induction ks with
 |nil=>rfl
 |cons x r ih=>simp[ak.Ls,ih]
theorem ak.gy (n:ak):n.cells=[.lit (.int .i64 n.alC),.lit (.int .i64 n.Num),.str n.amV,.sl 1 (ai cS n.aiJ),.sl 5 (ai ak.cells n.ajX)]:=by cases n;rw[ak.cells,ak.Yq]
structure pW where
 alC:Int
 anu:List dR
 anw:List dR
 Value:ak
 deriving Inhabited
def pW.cells (n:pW):List Cell:=[.lit (.int .i64 n.alC),.sl 1 (ai cS n.anu),.sl 1 (ai cS n.anw),.lit (.int .i64 n.Value.alC),.lit (.int .i64 n.Value.Num),.str n.Value.amV,.sl 1 (ai cS n.Value.aiJ),.sl 5 (ai ak.cells n.Value.ajX)]
theorem pW.gy (n:pW):n.cells=[.lit (.int .i64 n.alC),.sl 1 (ai cS n.anu),.sl 1 (ai cS n.anw),.lit (.int .i64 n.Value.alC),.lit (.int .i64 n.Value.Num),.str n.Value.amV,.sl 1 (ai cS n.Value.aiJ),.sl 5 (ai ak.cells n.Value.ajX)]:=rfl
structure bg where
 al9:dR
 amX:Int
 am4:ak
 deriving Inhabited
def bg.cells (n:bg):List Cell:=[.str n.al9,.lit (.int .i64 n.amX),.lit (.int .i64 n.am4.alC),.lit (.int .i64 n.am4.Num),.str n.am4.amV,.sl 1 (ai cS n.am4.aiJ),.sl 5 (ai ak.cells n.am4.ajX)]
theorem bg.gy (n:bg):n.cells=[.str n.al9,.lit (.int .i64 n.amX),.lit (.int .i64 n.am4.alC),.lit (.int .i64 n.am4.Num),.str n.am4.amV,.sl 1 (ai cS n.am4.aiJ),.sl 5 (ai ak.cells n.am4.ajX)]:=rfl
structure alG where
 akj:List bg
 amJ:Int
 deriving Inhabited
def alG.cells (n:alG):List Cell:=[.sl 7 (ai bg.cells n.akj),.lit (.int .i64 n.amJ)]
theorem alG.gy (n:alG):n.cells=[.sl 7 (ai bg.cells n.akj),.lit (.int .i64 n.amJ)]:=rfl
structure akh where
 amI:Int
 al9:dR
 anx:List dR
 lY:List dR
 Body:ak
 Ops:List pW
 deriving Inhabited
def akh.cells (n:akh):List Cell:=[.lit (.int .i64 n.amI),.str n.al9,.sl 1 (ai cS n.anx),.sl 1 (ai cS n.lY),.lit (.int .i64 n.Body.alC),.lit (.int .i64 n.Body.Num),.str n.Body.amV,.sl 1 (ai cS n.Body.aiJ),.sl 5 (ai ak.cells n.Body.ajX),.sl 8 (ai pW.cells n.Ops)]
theorem akh.gy (n:akh):n.cells=[.lit (.int .i64 n.amI),.str n.al9,.sl 1 (ai cS n.anx),.sl 1 (ai cS n.lY),.lit (.int .i64 n.Body.alC),.lit (.int .i64 n.Body.Num),.str n.Body.amV,.sl 1 (ai cS n.Body.aiJ),.sl 5 (ai ak.cells n.Body.ajX),.sl 8 (ai pW.cells n.Ops)]:=rfl
structure aI where
 anA:Int
 Tag:dR
 amX:Int
 Body:ak
 deriving Inhabited
def aI.cells (n:aI):List Cell:=[.lit (.int .i64 n.anA),.str n.Tag,.lit (.int .i64 n.amX),.lit (.int .i64 n.Body.alC),.lit (.int .i64 n.Body.Num),.str n.Body.amV,.sl 1 (ai cS n.Body.aiJ),.sl 5 (ai ak.cells n.Body.ajX)]
theorem aI.gy (n:aI):n.cells=[.lit (.int .i64 n.anA),.str n.Tag,.lit (.int .i64 n.amX),.lit (.int .i64 n.Body.alC),.lit (.int .i64 n.Body.Num),.str n.Body.amV,.sl 1 (ai cS n.Body.aiJ),.sl 5 (ai ak.cells n.Body.ajX)]:=rfl
def G.cmp_isNaN_int (f:Nat)(uI:Int):Option (Bool):=match f with
|0=>none
|n+1=>some<|uI != uI
def G.cmp_Compare_int (f:Nat)(uI:Int)(PX:Int):Option (Int):=match f with
|0=>none
|n+1=>(G.cmp_isNaN_int n uI).bind λv1=>(G.cmp_isNaN_int n PX).bind λv2=>cond v1 (cond v2 (some 0)<|some (-1))<|cond v2 (some 1)<|cond (decide<|uI<PX) (some (-1))<|cond (decide<|PX<uI) (some 1)<|some 0
def G.cmp_isNaN_string (f:Nat)(uI:dR):Option (Bool):=match f with
|0=>none
|n+1=>some<|(!(uI==uI))
def G.cmp_Less_string (f:Nat)(uI:dR)(PX:dR):Option (Bool):=match f with
|0=>none
|n+1=>(G.cmp_isNaN_string n uI).bind λv1=>cond v1 ((G.cmp_isNaN_string n PX).bind λv2=>cond v2 (some<|iw uI PX)<|some true)<|some<|iw uI PX
mutual
def G.aV.L2 (f:Nat)(aB:ak)(z1:List dR)(jb:Int)(z4:List ak):Option (ak):=match f with
|0=>none
|n+1=>cond (decide<|jb<(aB.ajX.length:Int)) (chk (0<=jb/\jb<(aB.ajX.length:Int))<|(G.aV n<|aB.ajX.getD jb.toNat default).bind λv3=>chk (0<=jb/\jb<(z4.length:Int))<|G.aV.L2 n aB z1 (af .i64<|jb+1)<|z4.set jb.toNat v3)<|some<|ak.mk aB.alC aB.Num aB.amV z1 z4
def G.aV.K1 (f:Nat)(aB:ak)(z1:List dR):Option (ak):=match f with
|0=>none
|n+1=>cond (decide<|0<(aB.ajX.length:Int)) (chk (0<=(aB.ajX.length:Int)/\(aB.ajX.length:Int)<=(aB.ajX.length:Int)/\80*(aB.ajX.length:Int)<=2^47/\(aB.ajX.length:Int)<=2^47)<|G.aV.L2 n aB z1 0<|bC aB.ajX.length<|ak.mk 0 0 [] [] [])<|some<|ak.mk aB.alC aB.Num aB.amV z1 []
def G.aV (f:Nat)(aB:ak):Option (ak):=match f with
|0=>none
|n+1=>cond (decide<|0<(aB.aiJ.length:Int)) (chk (0<=(aB.aiJ.length:Int)/\(aB.aiJ.length:Int)<=(aB.aiJ.length:Int)/\16*(aB.aiJ.length:Int)<=2^47/\(aB.aiJ.length:Int)<=2^47)<|G.aV.K1 n aB aB.aiJ)<|G.aV.K1 n aB []
end
def G.slices_isNaN_string (f:Nat)(uI:dR):Option (Bool):=match f with
|0=>none
|n+1=>some<|(!(uI==uI))
def G.slices_BinarySearch_string.L1 (f:Nat)(uI:List dR)(rE:dR)(aG:Int)(Ox:Int):Option (Int×Bool):=match f with
|0=>none
|n+1=>cond (decide<|aG<Ox) (chk (0<=(af .i64<|(su (af .u64<|(af .i64<|aG+Ox))<|2^(min 1<|iq .u64)))/\(af .i64<|(su (af .u64<|(af .i64<|aG+Ox))<|2^(min 1<|iq .u64)))<(uI.length:Int))<|(G.cmp_Less_string n (uI.getD (af .i64<|(su (af .u64<|(af .i64<|aG+Ox))<|2^(min 1<|iq .u64))).toNat default) rE).bind λv3=>cond v3 (G.slices_BinarySearch_string.L1 n uI rE (af .i64<|(af .i64<|(su (af .u64<|(af .i64<|aG+Ox))<|2^(min 1<|iq .u64)))+1) Ox)<|G.slices_BinarySearch_string.L1 n uI rE aG<|af .i64<|(su (af .u64<|(af .i64<|aG+Ox))<|2^(min 1<|iq .u64)))<|cond (decide<|aG<(uI.length:Int)) (chk (0<=aG/\aG<(uI.length:Int))<|cond ((uI.getD aG.toNat default)==rE) (some (aG,true))<|chk (0<=aG/\aG<(uI.length:Int))<|(G.slices_isNaN_string n<|uI.getD aG.toNat default).bind λv4=>cond v4 ((G.slices_isNaN_string n rE).bind λv5=>some (aG,v5))<|some (aG,false))<|some (aG,false)
def G.slices_BinarySearch_string (f:Nat)(uI:List dR)(rE:dR):Option (Int×Bool):=match f with
|0=>none
|n+1=>G.slices_BinarySearch_string.L1 n uI rE 0 (uI.length:Int)
def G.strconv_Itoa (f:Nat)(i:Int):Option dR:=match f with
|0=>none
|_+1=>(chk ((-9223372036854775808<=i/\i<=9223372036854775807)/\(Go.Lib.itoa i).length<=1000000) (some (Go.Lib.itoa i)))
def G.fQ.L1 (f:Nat)(aB:ak)(jX:dR)(jb:Int):Option (Int×Bool):=match f with
|0=>none
|n+1=>cond (decide<|jb<(aB.ajX.length:Int)) ((G.strconv_Itoa n jb).bind λv4=>cond (v4==jX) (some (jb,true))<|G.fQ.L1 n aB jX<|af .i64<|jb+1)<|some (0,false)
def G.fQ (f:Nat)(aB:ak)(jX:dR):Option (Int×Bool):=match f with
|0=>none
|n+1=>cond (aB.alC==4) ((G.slices_BinarySearch_string n aB.aiJ jX).bind λv1=>some (v1.1,v1.2))<|cond (aB.alC==3) (G.fQ.L1 n aB jX 0)<|some (0,false)
def G.iV (f:Nat)(s:List ak)(i:Int)(v:List ak):Option (List ak):=match f with
|0=>none
|_+1=>chk (0<=i/\i<=(s.length:Int)/\v.length=1/\(s.length+1)*86<=2^46) (some (s.take i.toNat++v++s.drop i.toNat))
def G.l9 (f:Nat)(s:List dR)(i:Int)(v:List dR):Option (List dR):=match f with
|0=>none
|_+1=>chk (0<=i/\i<=(s.length:Int)/\v.length=1/\(s.length+1)*18<=2^46) (some (s.take i.toNat++v++s.drop i.toNat))
def G.o6 (f:Nat)(BA:ak)(eH:dR)(iD:ak):Option (ak):=match f with
|0=>none
|n+1=>(G.slices_BinarySearch_string n BA.aiJ eH).bind λv1=>cond v1.2 (chk (0<=v1.1/\v1.1<(BA.ajX.length:Int))<|some<|(ak.mk BA.alC BA.Num BA.amV BA.aiJ<|BA.ajX.set v1.1.toNat iD))<|(G.l9 n BA.aiJ v1.1 [eH]).bind λv2=>(G.iV n BA.ajX v1.1 [iD]).bind λv3=>some<|ak.mk BA.alC BA.Num BA.amV v2 v3
def G.lH.K1 (f:Nat)(iD:ak)(v1:ak)(ao0:Int)(ajZ:Bool):Option (ak×Bool):=match f with
|0=>none
|n+1=>cond ajZ ((G.aV n iD).bind λv6=>(G.iV n v1.ajX ao0 [v6]).bind λv7=>some ((ak.mk v1.alC v1.Num v1.amV v1.aiJ v7),true))<|some ((ak.mk 0 0 [] [] []),false)
def G.lH (f:Nat)(aB:ak)(jX:dR)(iD:ak):Option (ak×Bool):=match f with
|0=>none
|n+1=>(G.aV n aB).bind λv1=>cond (aB.alC==4) ((G.aV n iD).bind λv2=>(G.o6 n v1 jX v2).bind λv3=>some (v3,true))<|cond (aB.alC==3) ((G.fQ n aB jX).bind λv4=>cond v4.2 (G.lH.K1 n iD v1 v4.1 true)<|cond (jX==[45]) (G.lH.K1 n iD v1 (aB.ajX.length:Int) true)<|(G.strconv_Itoa n (aB.ajX.length:Int)).bind λv8=>cond (jX==v8) (G.lH.K1 n iD v1 (aB.ajX.length:Int) true)<|G.lH.K1 n iD v1 v4.1 false)<|some ((ak.mk 0 0 [] [] []),false)
def G.uK (f:Nat)(zF:ak)(kM:List dR)(oU:Int)(zZ:ak):Option (ak×Bool):=match f with
|0=>none
|n+1=>chk (0<=oU/\oU<(kM.length:Int))<|(G.lH n zF (kM.getD oU.toNat default) zZ).bind λv1=>some (v1.1,v1.2)
def G.fK.L1 (f:Nat)(aJ:dR)(aG:Int):Option (Bool):=match f with
|0=>none
|n+1=>cond (decide<|aG<(aJ.length:Int)) (chk (0<=aG/\aG<(aJ.length:Int))<|cond (decide<|((aJ.getD aG.toNat 0).toNat:Int)<32) (some false)<|chk (0<=aG/\aG<(aJ.length:Int))<|cond (decide<|126<((aJ.getD aG.toNat 0).toNat:Int)) (some false)<|G.fK.L1 n aJ<|af .i64<|aG+1)<|some true
def G.fK (f:Nat)(aJ:dR):Option (Bool):=match f with
|0=>none
|n+1=>cond (decide<|12<(aJ.length:Int)) (some false)<|G.fK.L1 n aJ 0
def G.jZ.L1 (f:Nat)(xg:List dR)(jb:Int):Option (Bool):=match f with
|0=>none
|n+1=>cond (decide<|jb<(xg.length:Int)) (chk (0<=jb/\jb<(xg.length:Int))<|(G.fK n<|xg.getD jb.toNat default).bind λv3=>cond v3 (cond (decide<|0<jb) (chk (0<=(af .i64<|jb-1)/\(af .i64<|jb-1)<(xg.length:Int))<|cond (iw (xg.getD (af .i64<|jb-1).toNat default)<|xg.getD jb.toNat default) (G.jZ.L1 n xg<|af .i64<|jb+1)<|some false)<|G.jZ.L1 n xg<|af .i64<|jb+1)<|some false)<|some true
def G.jZ (f:Nat)(xg:List dR):Option (Bool):=match f with
|0=>none
|n+1=>cond (decide<|6<(xg.length:Int)) (some false)<|G.jZ.L1 n xg 0
def G.fU.K1 (f:Nat)(aB:ak):Option (Bool):=match f with
|0=>none
|n+1=>cond (aB.alC != 4) (cond (decide<|0<(aB.aiJ.length:Int)) (some false)<|cond (aB.alC==0) (some<|((aB.ajX.length:Int)==0))<|cond (aB.alC==1) (cond (decide<|(-999999)<=aB.Num) (cond (decide<|aB.Num<=999999) (some<|((aB.ajX.length:Int)==0))<|some false)<|some false)<|cond (aB.alC==2) ((G.fK n aB.amV).bind λv1=>cond v1 (some<|((aB.ajX.length:Int)==0))<|some false)<|cond (aB.alC==3) (some<|(decide<|(aB.ajX.length:Int)<=6))<|cond (aB.alC==4) ((G.jZ n aB.aiJ).bind λv2=>cond v2 (some<|((aB.ajX.length:Int)==(aB.aiJ.length:Int)))<|some false)<|some false)<|cond (aB.alC==0) (some<|((aB.ajX.length:Int)==0))<|cond (aB.alC==1) (cond (decide<|(-999999)<=aB.Num) (cond (decide<|aB.Num<=999999) (some<|((aB.ajX.length:Int)==0))<|some false)<|some false)<|cond (aB.alC==2) ((G.fK n aB.amV).bind λv3=>cond v3 (some<|((aB.ajX.length:Int)==0))<|some false)<|cond (aB.alC==3) (some<|(decide<|(aB.ajX.length:Int)<=6))<|cond (aB.alC==4) ((G.jZ n aB.aiJ).bind λv4=>cond v4 (some<|((aB.ajX.length:Int)==(aB.aiJ.length:Int)))<|some false)<|some false
def G.fU (f:Nat)(aB:ak):Option (Bool):=match f with
|0=>none
|n+1=>cond (aB.alC != 1) (cond (aB.Num != 0) (some false)<|cond (aB.alC != 2) (cond (aB.amV==[]) (G.fU.K1 n aB)<|some false)<|G.fU.K1 n aB)<|cond (aB.alC != 2) (cond (aB.amV==[]) (G.fU.K1 n aB)<|some false)<|G.fU.K1 n aB
mutual
def G.fC.L1 (f:Nat)(aB:ak)(Aw:Int)(acJ:Int)(XU:Int)(jb:Int):Option (Int×Int×Bool):=match f with
|0=>none
|n+1=>cond (decide<|jb<(aB.ajX.length:Int)) (chk (0<=jb/\jb<(aB.ajX.length:Int))<|(G.fC n (aB.ajX.getD jb.toNat default)<|af .i64<|Aw+1).bind λv4=>cond v4.2.2 (G.fC.L1 n aB Aw (af .i64<|acJ+v4.1) (if(af .i64<|v4.2.1+1)>XU then(af .i64<|v4.2.1+1)else XU)<|af .i64<|jb+1)<|some (0,0,false))<|some (acJ,XU,true)
def G.fC (f:Nat)(aB:ak)(Aw:Int):Option (Int×Int×Bool):=match f with
|0=>none
|n+1=>cond (decide<|5<Aw) (some (0,0,false))<|(G.fU n aB).bind λv1=>cond v1 (G.fC.L1 n aB Aw 1 1 0)<|some (0,0,false)
end
def G.bJ (f:Nat)(aB:ak):Option (Bool):=match f with
|0=>none
|n+1=>(G.fC n aB 1).bind λv1=>cond v1.2.2 (some<|(decide<|v1.1<=40))<|some false
mutual
def G.jq (f:Nat)(aB:ak)(aN:List dR)(kM:List dR)(oU:Int)(zZ:ak):Option (ak×Bool):=match f with
|0=>none
|n+1=>cond ((aN.length:Int)==0) ((G.uK n aB kM oU zZ).bind λv1=>some (v1.1,v1.2))<|chk (0<=0/\0<(aN.length:Int))<|(G.fQ n aB<|aN.getD 0 default).bind λv2=>cond v2.2 (chk (0<=v2.1/\v2.1<(aB.ajX.length:Int))<|chk (0<=1/\1<=(aN.length:Int)/\(aN.length:Int)<=(aN.length:Int))<|(G.jq n (aB.ajX.getD v2.1.toNat default) (aN.drop 1) kM oU zZ).bind λv3=>cond v3.2 ((G.aV n aB).bind λv4=>chk (0<=v2.1/\v2.1<(v4.ajX.length:Int))<|some ((ak.mk v4.alC v4.Num v4.amV v4.aiJ<|v4.ajX.set v2.1.toNat v3.1),true))<|some ((ak.mk 0 0 [] [] []),false))<|some ((ak.mk 0 0 [] [] []),false)
end
def G.oZ (f:Nat)(aB:ak)(Nr:Bool):Option (ak×Bool):=match f with
|0=>none
|n+1=>cond Nr ((G.bJ n aB).bind λv1=>cond v1 (some (aB,true))<|some ((ak.mk 0 0 [] [] []),false))<|some ((ak.mk 0 0 [] [] []),false)
def G.iT.L1 (f:Nat)(aN:List dR)(jb:Int):Option (Bool):=match f with
|0=>none
|n+1=>cond (decide<|jb<(aN.length:Int)) (chk (0<=jb/\jb<(aN.length:Int))<|(G.fK n<|aN.getD jb.toNat default).bind λv3=>cond v3 (G.iT.L1 n aN<|af .i64<|jb+1)<|some false)<|some true
def G.iT (f:Nat)(aN:List dR):Option (Bool):=match f with
|0=>none
|n+1=>cond (decide<|5<(aN.length:Int)) (some false)<|G.iT.L1 n aN 0
def G.ou (f:Nat)(aB:ak)(aN:List dR)(iD:ak):Option (ak×Bool):=match f with
|0=>none
|n+1=>(G.bJ n aB).bind λv1=>cond v1 ((G.iT n aN).bind λv2=>cond v2 ((G.bJ n iD).bind λv3=>cond v3 (cond ((aN.length:Int)==0) ((G.aV n iD).bind λv4=>some (v4,true))<|chk (0<=0/\0<=(af .i64<|(aN.length:Int)-1)/\(af .i64<|(aN.length:Int)-1)<=(aN.length:Int))<|(G.jq n aB (aN.take<|(af .i64<|(aN.length:Int)-1).toNat) aN (af .i64<|(aN.length:Int)-1) iD).bind λv5=>(G.oZ n v5.1 v5.2).bind λv6=>some (v6.1,v6.2))<|some ((ak.mk 0 0 [] [] []),false))<|some ((ak.mk 0 0 [] [] []),false))<|some ((ak.mk 0 0 [] [] []),false)
def G.kz.L1 (f:Nat)(aN:List dR)(jb:Int)(y6:Int)(y7:Int)(y8:dR)(y9:List dR)(Vk:List ak):Option (ak×Bool):=match f with
|0=>none
|n+1=>cond (decide<|jb<(aN.length:Int)) (chk (0<=jb/\jb<(aN.length:Int))<|(G.fQ n (ak.mk y6 y7 y8 y9 Vk)<|aN.getD jb.toNat default).bind λv3=>cond v3.2 (chk (0<=v3.1/\v3.1<(Vk.length:Int))<|G.kz.L1 n aN (af .i64<|jb+1) ((Vk.getD v3.1.toNat default).alC) ((Vk.getD v3.1.toNat default).Num) ((Vk.getD v3.1.toNat default).amV) ((Vk.getD v3.1.toNat default).aiJ)<|(Vk.getD v3.1.toNat default).ajX)<|some ((ak.mk 0 0 [] [] []),false))<|some ((ak.mk y6 y7 y8 y9 Vk),true)
def G.kz (f:Nat)(aB:ak)(aN:List dR):Option (ak×Bool):=match f with
|0=>none
|n+1=>G.kz.L1 n aN 0 aB.alC aB.Num aB.amV aB.aiJ aB.ajX
def G.um (f:Nat)(aB:ak)(aN:List dR):Option (ak×Bool):=match f with
|0=>none
|n+1=>(G.bJ n aB).bind λv1=>cond v1 ((G.iT n aN).bind λv2=>cond v2 ((G.kz n aB aN).bind λv3=>cond v3.2 ((G.aV n v3.1).bind λv4=>some (v4,true))<|some ((ak.mk 0 0 [] [] []),false))<|some ((ak.mk 0 0 [] [] []),false))<|some ((ak.mk 0 0 [] [] []),false)
def G.jM (f:Nat)(s:List ak)(i:Int)(j:Int):Option (List ak):=match f with
|0=>none
|_+1=>chk (0<=i/\i<j/\j<=(s.length:Int)/\s.length*86<=2^46) (some (s.take i.toNat++s.drop j.toNat))
def G.slices_Delete_string (f:Nat)(s:List dR)(i:Int)(j:Int):Option (List dR):=match f with
|0=>none
|_+1=>chk (0<=i/\i<j/\j<=(s.length:Int)/\s.length*18<=2^46) (some (s.take i.toNat++s.drop j.toNat))
def G.jd.K1 (f:Nat)(v1:Int×Bool)(v2:ak)(z1:List dR):Option (ak×Bool):=match f with
|0=>none
|n+1=>(G.jM n v2.ajX v1.1<|af .i64<|v1.1+1).bind λv4=>some ((ak.mk v2.alC v2.Num v2.amV z1 v4),true)
def G.jd (f:Nat)(zF:ak)(kM:List dR)(oU:Int):Option (ak×Bool):=match f with
|0=>none
|n+1=>chk (0<=oU/\oU<(kM.length:Int))<|(G.fQ n zF<|kM.getD oU.toNat default).bind λv1=>cond v1.2 ((G.aV n zF).bind λv2=>cond (zF.alC==4) ((G.slices_Delete_string n v2.aiJ v1.1<|af .i64<|v1.1+1).bind λv5=>G.jd.K1 n v1 v2 v5)<|G.jd.K1 n v1 v2 v2.aiJ)<|some ((ak.mk 0 0 [] [] []),false)
mutual
def G.iI (f:Nat)(aB:ak)(aN:List dR)(kM:List dR)(oU:Int):Option (ak×Bool):=match f with
|0=>none
|n+1=>cond ((aN.length:Int)==0) ((G.jd n aB kM oU).bind λv1=>some (v1.1,v1.2))<|chk (0<=0/\0<(aN.length:Int))<|(G.fQ n aB<|aN.getD 0 default).bind λv2=>cond v2.2 (chk (0<=v2.1/\v2.1<(aB.ajX.length:Int))<|chk (0<=1/\1<=(aN.length:Int)/\(aN.length:Int)<=(aN.length:Int))<|(G.iI n (aB.ajX.getD v2.1.toNat default) (aN.drop 1) kM oU).bind λv3=>cond v3.2 ((G.aV n aB).bind λv4=>chk (0<=v2.1/\v2.1<(v4.ajX.length:Int))<|some ((ak.mk v4.alC v4.Num v4.amV v4.aiJ<|v4.ajX.set v2.1.toNat v3.1),true))<|some ((ak.mk 0 0 [] [] []),false))<|some ((ak.mk 0 0 [] [] []),false)
end
def G.lS (f:Nat)(aB:ak)(aN:List dR):Option (ak×Bool):=match f with
|0=>none
|n+1=>(G.bJ n aB).bind λv1=>cond v1 ((G.iT n aN).bind λv2=>cond v2 (cond ((aN.length:Int)==0) (some ((ak.mk 0 0 [] [] []),false))<|chk (0<=0/\0<=(af .i64<|(aN.length:Int)-1)/\(af .i64<|(aN.length:Int)-1)<=(aN.length:Int))<|(G.iI n aB (aN.take<|(af .i64<|(aN.length:Int)-1).toNat) aN<|af .i64<|(aN.length:Int)-1).bind λv3=>some (v3.1,v3.2))<|some ((ak.mk 0 0 [] [] []),false))<|some ((ak.mk 0 0 [] [] []),false)
def G.uM (f:Nat)(aF:ak)(kM:ak):Option (ak×Bool):=match f with
|0=>none
|n+1=>(G.aV n kM).bind λv1=>some (v1,true)
mutual
def G.jv (f:Nat)(aB:ak)(aN:List dR)(kM:ak):Option (ak×Bool):=match f with
|0=>none
|n+1=>cond ((aN.length:Int)==0) ((G.uM n aB kM).bind λv1=>some (v1.1,v1.2))<|chk (0<=0/\0<(aN.length:Int))<|(G.fQ n aB<|aN.getD 0 default).bind λv2=>cond v2.2 (chk (0<=v2.1/\v2.1<(aB.ajX.length:Int))<|chk (0<=1/\1<=(aN.length:Int)/\(aN.length:Int)<=(aN.length:Int))<|(G.jv n (aB.ajX.getD v2.1.toNat default) (aN.drop 1) kM).bind λv3=>cond v3.2 ((G.aV n aB).bind λv4=>chk (0<=v2.1/\v2.1<(v4.ajX.length:Int))<|some ((ak.mk v4.alC v4.Num v4.amV v4.aiJ<|v4.ajX.set v2.1.toNat v3.1),true))<|some ((ak.mk 0 0 [] [] []),false))<|some ((ak.mk 0 0 [] [] []),false)
end
def G.uU (f:Nat)(aB:ak)(aN:List dR)(iD:ak):Option (ak×Bool):=match f with
|0=>none
|n+1=>(G.bJ n aB).bind λv1=>cond v1 ((G.iT n aN).bind λv2=>cond v2 ((G.bJ n iD).bind λv3=>cond v3 ((G.jv n aB aN iD).bind λv4=>(G.oZ n v4.1 v4.2).bind λv5=>some (v5.1,v5.2))<|some ((ak.mk 0 0 [] [] []),false))<|some ((ak.mk 0 0 [] [] []),false))<|some ((ak.mk 0 0 [] [] []),false)
def G.uy (f:Nat)(mV:pW):Option (Bool):=match f with
|0=>none
|n+1=>cond (decide<|1<=mV.alC) (cond (decide<|mV.alC<=6) ((G.iT n mV.anu).bind λv1=>cond v1 ((G.iT n mV.anw).bind λv2=>cond v2 ((G.bJ n mV.Value).bind λv3=>some v3)<|some false)<|some false)<|some false)<|some false
def G.slices_Equal_string.L1 (f:Nat)(JG:List dR)(MN:List dR)(jb:Int):Option (Bool):=match f with
|0=>none
|n+1=>cond (decide<|jb<(JG.length:Int)) (chk (0<=jb/\jb<(JG.length:Int))<|chk (0<=jb/\jb<(MN.length:Int))<|cond ((JG.getD jb.toNat default)==(MN.getD jb.toNat default)) (G.slices_Equal_string.L1 n JG MN<|af .i64<|jb+1)<|some false)<|some true
def G.slices_Equal_string (f:Nat)(JG:List dR)(MN:List dR):Option (Bool):=match f with
|0=>none
|n+1=>cond ((JG.length:Int) != (MN.length:Int)) (some false)<|G.slices_Equal_string.L1 n JG MN 0
def G.uj (f:Nat)(aB:ak)(DV:List dR)(aN:List dR):Option (ak×Bool):=match f with
|0=>none
|n+1=>(G.um n aB DV).bind λv1=>cond v1.2 ((G.slices_Equal_string n aN DV).bind λv2=>cond v2 ((G.aV n aB).bind λv3=>some (v3,true))<|cond (decide<|(DV.length:Int)<(aN.length:Int)) (chk (0<=0/\0<=(DV.length:Int)/\(DV.length:Int)<=(aN.length:Int))<|(G.slices_Equal_string n (aN.take DV.length) DV).bind λv4=>cond v4 (some ((ak.mk 0 0 [] [] []),false))<|(G.lS n aB DV).bind λv5=>cond v5.2 ((G.ou n v5.1 aN v1.1).bind λv6=>some (v6.1,v6.2))<|some ((ak.mk 0 0 [] [] []),false))<|(G.lS n aB DV).bind λv7=>cond v7.2 ((G.ou n v7.1 aN v1.1).bind λv8=>some (v8.1,v8.2))<|some ((ak.mk 0 0 [] [] []),false))<|some ((ak.mk 0 0 [] [] []),false)
def G.gU (f:Nat)(aF:dR)(eF:dR):Option (Int):=match f with
|0=>none
|n+1=>some<|jO aF eF
def G.strings_Compare (f:Nat)(aF:dR)(eF:dR):Option (Int):=match f with
|0=>none
|n+1=>(G.gU n aF eF).bind λv1=>some v1
mutual
def G.dw.K4 (f:Nat)(aF:ak)(eF:ak)(aG:Int):Option (Int):=match f with
|0=>none
|n+1=>chk (0<=aG/\aG<(aF.ajX.length:Int))<|chk (0<=aG/\aG<(eF.ajX.length:Int))<|(G.dw n (aF.ajX.getD aG.toNat default)<|eF.ajX.getD aG.toNat default).bind λv11=>cond (v11 != 0) (some v11)<|G.dw.L3 n aF eF<|af .i64<|aG+1
def G.dw.L3 (f:Nat)(aF:ak)(eF:ak)(aG:Int):Option (Int):=match f with
|0=>none
|n+1=>cond (decide<|aG<(aF.ajX.length:Int)) (cond (decide<|aG<(eF.ajX.length:Int)) (cond (aF.alC==4) (chk (0<=aG/\aG<(aF.aiJ.length:Int))<|chk (0<=aG/\aG<(eF.aiJ.length:Int))<|(G.strings_Compare n (aF.aiJ.getD aG.toNat default)<|eF.aiJ.getD aG.toNat default).bind λv12=>cond (v12 != 0) (some v12)<|G.dw.K4 n aF eF aG)<|G.dw.K4 n aF eF aG)<|(G.cmp_Compare_int n (aF.ajX.length:Int) (eF.ajX.length:Int)).bind λv13=>some v13)<|(G.cmp_Compare_int n (aF.ajX.length:Int) (eF.ajX.length:Int)).bind λv14=>some v14
def G.dw (f:Nat)(aF:ak)(eF:ak):Option (Int):=match f with
|0=>none
|n+1=>(G.cmp_Compare_int n aF.alC eF.alC).bind λv1=>cond (v1 != 0) (some v1)<|(G.cmp_Compare_int n aF.Num eF.Num).bind λv2=>cond (v2 != 0) (some v2)<|(G.strings_Compare n aF.amV eF.amV).bind λv3=>cond (v3 != 0) (some v3)<|G.dw.L3 n aF eF 0
end
def G.uk (f:Nat)(aF:ak)(eF:ak):Option (Bool):=match f with
|0=>none
|n+1=>(G.dw n aF eF).bind λv1=>some<|v1==0
def G.rP (f:Nat)(aB:ak)(aN:List dR)(iD:ak):Option (ak×Bool):=match f with
|0=>none
|n+1=>(G.kz n aB aN).bind λv1=>cond v1.2 ((G.uk n v1.1 iD).bind λv2=>cond v2 ((G.aV n aB).bind λv3=>some (v3,true))<|some ((ak.mk 0 0 [] [] []),false))<|some ((ak.mk 0 0 [] [] []),false)
def G.ru (f:Nat)(aB:ak)(mV:pW):Option (ak×Bool):=match f with
|0=>none
|n+1=>(G.bJ n aB).bind λv1=>cond v1 ((G.uy n mV).bind λv2=>cond v2 (cond (mV.alC==1) ((G.ou n aB mV.anu mV.Value).bind λv3=>some (v3.1,v3.2))<|cond (mV.alC==2) ((G.lS n aB mV.anu).bind λv4=>some (v4.1,v4.2))<|cond (mV.alC==3) ((G.uU n aB mV.anu mV.Value).bind λv5=>some (v5.1,v5.2))<|cond (mV.alC==4) ((G.uj n aB mV.anw mV.anu).bind λv6=>some (v6.1,v6.2))<|cond (mV.alC==5) ((G.um n aB mV.anw).bind λv7=>cond v7.2 ((G.ou n aB mV.anu v7.1).bind λv8=>some (v8.1,v8.2))<|some ((ak.mk 0 0 [] [] []),false))<|(G.rP n aB mV.anu mV.Value).bind λv9=>some (v9.1,v9.2))<|some ((ak.mk 0 0 [] [] []),false))<|some ((ak.mk 0 0 [] [] []),false)
def G.eX.L1 (f:Nat)(aH:List pW)(jb:Int):Option (Bool):=match f with
|0=>none
|n+1=>cond (decide<|jb<(aH.length:Int)) (chk (0<=jb/\jb<(aH.length:Int))<|(G.uy n<|pW.mk ((aH.getD jb.toNat default).alC) ((aH.getD jb.toNat default).anu) ((aH.getD jb.toNat default).anw)<|(aH.getD jb.toNat default).Value).bind λv3=>cond v3 (G.eX.L1 n aH<|af .i64<|jb+1)<|some false)<|some true
def G.eX (f:Nat)(aH:List pW):Option (Bool):=match f with
|0=>none
|n+1=>cond (decide<|12<(aH.length:Int)) (some false)<|G.eX.L1 n aH 0
def G.kV.L1 (f:Nat)(aH:List pW)(jb:Int)(y6:Int)(y7:Int)(y8:dR)(y9:List dR)(Vk:List ak):Option (ak×Int):=match f with
|0=>none
|n+1=>cond (decide<|jb<(aH.length:Int)) (chk (0<=jb/\jb<(aH.length:Int))<|(G.ru n (ak.mk y6 y7 y8 y9 Vk)<|pW.mk ((aH.getD jb.toNat default).alC) ((aH.getD jb.toNat default).anu) ((aH.getD jb.toNat default).anw)<|(aH.getD jb.toNat default).Value).bind λv4=>cond v4.2 (G.kV.L1 n aH (af .i64<|jb+1) v4.1.alC v4.1.Num v4.1.amV v4.1.aiJ v4.1.ajX)<|some ((ak.mk 0 0 [] [] []),jb))<|some ((ak.mk y6 y7 y8 y9 Vk),(aH.length:Int))
def G.kV (f:Nat)(aB:ak)(aH:List pW):Option (ak×Int):=match f with
|0=>none
|n+1=>(G.aV n aB).bind λv1=>G.kV.L1 n aH 0 v1.alC v1.Num v1.amV v1.aiJ v1.ajX
def G.qJ (f:Nat)(aB:ak)(aH:List pW):Option (ak×Bool):=match f with
|0=>none
|n+1=>(G.bJ n aB).bind λv1=>cond v1 ((G.eX n aH).bind λv2=>cond v2 ((G.kV n aB aH).bind λv3=>some (v3.1,(v3.2==(aH.length:Int))))<|some ((ak.mk 0 0 [] [] []),false))<|some ((ak.mk 0 0 [] [] []),false)
def G.jJ (f:Nat)(aJ:dR)(QC:Int):Option (Int):=match f with
|0=>none
|n+1=>some<|Go.Lib.indexByte aJ QC.toNat.toUInt8
def G.strings_IndexByte (f:Nat)(aJ:dR)(QC:Int):Option (Int):=match f with
|0=>none
|n+1=>(G.jJ n aJ QC).bind λv1=>some v1
def G.oM.L1 (f:Nat)(aJ:dR)(aG:Int):Option (Bool):=match f with
|0=>none
|n+1=>cond (decide<|aG<(aJ.length:Int)) (chk (0<=aG/\aG<(aJ.length:Int))<|(G.strings_IndexByte n [48,49,50,51,52,53,54,55,56,57,97,98,99,100,101,102] ((aJ.getD aG.toNat 0).toNat:Int)).bind λv3=>cond (decide<|v3<0) (some false)<|G.oM.L1 n aJ<|af .i64<|aG+1)<|some true
def G.oM (f:Nat)(aJ:dR):Option (Bool):=match f with
|0=>none
|n+1=>cond ((aJ.length:Int) != 4) (some false)<|G.oM.L1 n aJ 0
def G.jG.L1 (f:Nat)(aH:List dR)(jb:Int):Option (Bool):=match f with
|0=>none
|n+1=>cond (decide<|jb<(aH.length:Int)) (chk (0<=jb/\jb<(aH.length:Int))<|cond ((aH.getD jb.toNat default)==[42]) (G.jG.L1 n aH<|af .i64<|jb+1)<|(G.oM n<|aH.getD jb.toNat default).bind λv3=>cond v3 (G.jG.L1 n aH<|af .i64<|jb+1)<|some false)<|some true
def G.jG (f:Nat)(aH:List dR):Option (Bool):=match f with
|0=>none
|n+1=>cond (decide<|4<(aH.length:Int)) (some false)<|G.jG.L1 n aH 0
def G.slices_Index_string.L1 (f:Nat)(aJ:List dR)(EN:dR)(jb:Int):Option (Int):=match f with
|0=>none
|n+1=>cond (decide<|jb<(aJ.length:Int)) (chk (0<=jb/\jb<(aJ.length:Int))<|cond (EN==(aJ.getD jb.toNat default)) (some jb)<|G.slices_Index_string.L1 n aJ EN<|af .i64<|jb+1)<|some (-1)
def G.slices_Index_string (f:Nat)(aJ:List dR)(EN:dR):Option (Int):=match f with
|0=>none
|n+1=>G.slices_Index_string.L1 n aJ EN 0
def G.slices_Contains_string (f:Nat)(aJ:List dR)(EN:dR):Option (Bool):=match f with
|0=>none
|n+1=>(G.slices_Index_string n aJ EN).bind λv1=>some<|(decide<|0<=v1)
def G.qx (f:Nat)(aH:List dR)(sW:dR):Option (Bool):=match f with
|0=>none
|n+1=>(G.slices_Contains_string n aH sW).bind λv1=>cond v1 (some true)<|(G.slices_Contains_string n aH [42]).bind λv2=>some v2
def G.kK.K1 (f:Nat)(yZ:List dR)(vg:List dR)(sW:dR)(xQ:Bool):Option (Int):=match f with
|0=>none
|n+1=>cond (decide<|0<(yZ.length:Int)) (cond (sW==[]) (some 412)<|(G.qx n yZ sW).bind λv4=>cond v4 (cond (decide<|0<(vg.length:Int)) ((G.qx n vg sW).bind λv5=>cond v5 (cond xQ (some 304)<|some 412)<|some 200)<|some 200)<|some 412)<|cond (decide<|0<(vg.length:Int)) (cond (sW==[]) (some 200)<|(G.qx n vg sW).bind λv6=>cond v6 (cond xQ (some 304)<|some 412)<|some 200)<|some 200
def G.kK (f:Nat)(yZ:List dR)(vg:List dR)(sW:dR)(xQ:Bool):Option (Int):=match f with
|0=>none
|n+1=>(G.jG n yZ).bind λv7=>cond v7 ((G.jG n vg).bind λv8=>cond v8 (cond (sW==[]) (G.kK.K1 n yZ vg sW xQ)<|(G.oM n sW).bind λv9=>cond v9 (G.kK.K1 n yZ vg sW xQ)<|some 400)<|some 400)<|some 400
def G.jR.L1 (f:Nat)(aJ:dR)(aG:Int):Option (Bool):=match f with
|0=>none
|n+1=>cond (decide<|aG<(aJ.length:Int)) (chk (0<=aG/\aG<(aJ.length:Int))<|cond (decide<|((aJ.getD aG.toNat 0).toNat:Int)<97) (chk (0<=aG/\aG<(aJ.length:Int))<|cond (decide<|((aJ.getD aG.toNat 0).toNat:Int)<48) (some false)<|chk (0<=aG/\aG<(aJ.length:Int))<|cond (decide<|57<((aJ.getD aG.toNat 0).toNat:Int)) (some false)<|G.jR.L1 n aJ<|af .i64<|aG+1)<|chk (0<=aG/\aG<(aJ.length:Int))<|cond (decide<|122<((aJ.getD aG.toNat 0).toNat:Int)) (chk (0<=aG/\aG<(aJ.length:Int))<|cond (decide<|((aJ.getD aG.toNat 0).toNat:Int)<48) (some false)<|chk (0<=aG/\aG<(aJ.length:Int))<|cond (decide<|57<((aJ.getD aG.toNat 0).toNat:Int)) (some false)<|G.jR.L1 n aJ<|af .i64<|aG+1)<|G.jR.L1 n aJ<|af .i64<|aG+1)<|some true
def G.jR (f:Nat)(aJ:dR):Option (Bool):=match f with
|0=>none
|n+1=>cond (aJ==[]) (some false)<|cond (decide<|8<(aJ.length:Int)) (some false)<|G.jR.L1 n aJ 0
def G.bM.L1 (f:Nat)(aJ:alG)(jb:Int):Option (Bool):=match f with
|0=>none
|n+1=>cond (decide<|jb<(aJ.akj.length:Int)) (chk (0<=jb/\jb<(aJ.akj.length:Int))<|(G.jR n<|(aJ.akj.getD jb.toNat default).al9).bind λv6=>cond v6 (cond (decide<|0<jb) (chk (0<=(af .i64<|jb-1)/\(af .i64<|jb-1)<(aJ.akj.length:Int))<|cond (iw ((aJ.akj.getD (af .i64<|jb-1).toNat default).al9)<|(aJ.akj.getD jb.toNat default).al9) (cond (decide<|(aJ.akj.getD jb.toNat default).amX<1) (some false)<|cond (decide<|aJ.amJ<(aJ.akj.getD jb.toNat default).amX) (some false)<|(G.bJ n<|(aJ.akj.getD jb.toNat default).am4).bind λv7=>cond v7 (G.bM.L1 n aJ<|af .i64<|jb+1)<|some false)<|some false)<|cond (decide<|(aJ.akj.getD jb.toNat default).amX<1) (some false)<|cond (decide<|aJ.amJ<(aJ.akj.getD jb.toNat default).amX) (some false)<|(G.bJ n<|(aJ.akj.getD jb.toNat default).am4).bind λv8=>cond v8 (G.bM.L1 n aJ<|af .i64<|jb+1)<|some false)<|some false)<|some true
def G.bM (f:Nat)(aJ:alG):Option (Bool):=match f with
|0=>none
|n+1=>cond (decide<|10<(aJ.akj.length:Int)) (some false)<|cond (decide<|aJ.amJ<0) (some false)<|cond (decide<|999<aJ.amJ) (some false)<|G.bM.L1 n aJ 0
def G.rO (f:Nat)(pX:bg):Option (bg):=match f with
|0=>none
|n+1=>(G.aV n pX.am4).bind λv1=>some<|bg.mk pX.al9 pX.amX v1
def G.dG.L1 (f:Nat)(aJ:alG)(jb:Int)(z3:List bg):Option (alG):=match f with
|0=>none
|n+1=>cond (decide<|jb<(aJ.akj.length:Int)) (chk (0<=jb/\jb<(aJ.akj.length:Int))<|(G.rO n<|bg.mk ((aJ.akj.getD jb.toNat default).al9) ((aJ.akj.getD jb.toNat default).amX)<|(aJ.akj.getD jb.toNat default).am4).bind λv3=>chk (0<=jb/\jb<(z3.length:Int))<|G.dG.L1 n aJ (af .i64<|jb+1)<|z3.set jb.toNat v3)<|some<|alG.mk z3 aJ.amJ
def G.dG (f:Nat)(aJ:alG):Option (alG):=match f with
|0=>none
|n+1=>cond (decide<|0<(aJ.akj.length:Int)) (chk (0<=(aJ.akj.length:Int)/\(aJ.akj.length:Int)<=(aJ.akj.length:Int)/\104*(aJ.akj.length:Int)<=2^47/\(aJ.akj.length:Int)<=2^47)<|G.dG.L1 n aJ 0<|bC aJ.akj.length<|bg.mk [] 0<|ak.mk 0 0 [] [] [])<|some<|alG.mk [] aJ.amJ
def G.rY (f:Nat)(pX:bg)(eH:dR):Option (Int):=match f with
|0=>none
|n+1=>(G.strings_Compare n pX.al9 eH).bind λv1=>some v1
def G.aO.L1 (f:Nat)(uI:List bg)(rE:dR)(aG:Int)(Ox:Int):Option (Int×Bool):=match f with
|0=>none
|n+1=>cond (decide<|aG<Ox) (chk (0<=(af .i64<|(su (af .u64<|(af .i64<|aG+Ox))<|2^(min 1<|iq .u64)))/\(af .i64<|(su (af .u64<|(af .i64<|aG+Ox))<|2^(min 1<|iq .u64)))<(uI.length:Int))<|(G.rY n (bg.mk ((uI.getD (af .i64<|(su (af .u64<|(af .i64<|aG+Ox))<|2^(min 1<|iq .u64))).toNat default).al9) ((uI.getD (af .i64<|(su (af .u64<|(af .i64<|aG+Ox))<|2^(min 1<|iq .u64))).toNat default).amX)<|(uI.getD (af .i64<|(su (af .u64<|(af .i64<|aG+Ox))<|2^(min 1<|iq .u64))).toNat default).am4) rE).bind λv3=>cond (decide<|v3<0) (G.aO.L1 n uI rE (af .i64<|(af .i64<|(su (af .u64<|(af .i64<|aG+Ox))<|2^(min 1<|iq .u64)))+1) Ox)<|G.aO.L1 n uI rE aG<|af .i64<|(su (af .u64<|(af .i64<|aG+Ox))<|2^(min 1<|iq .u64)))<|cond (decide<|aG<(uI.length:Int)) (chk (0<=aG/\aG<(uI.length:Int))<|(G.rY n (bg.mk ((uI.getD aG.toNat default).al9) ((uI.getD aG.toNat default).amX)<|(uI.getD aG.toNat default).am4) rE).bind λv4=>some (aG,(v4==0)))<|some (aG,false)
def G.aO (f:Nat)(uI:List bg)(rE:dR):Option (Int×Bool):=match f with
|0=>none
|n+1=>G.aO.L1 n uI rE 0 (uI.length:Int)
def G.nM (f:Nat)(zL:List bg)(eH:dR):Option (Int×Bool):=match f with
|0=>none
|n+1=>(G.aO n zL eH).bind λv1=>some (v1.1,v1.2)
def G.nN (f:Nat)(s:List bg)(i:Int)(j:Int):Option (List bg):=match f with
|0=>none
|_+1=>chk (0<=i/\i<j/\j<=(s.length:Int)/\s.length*112<=2^46) (some (s.take i.toNat++s.drop j.toNat))
def G.uh (f:Nat)(aJ:alG)(eH:dR):Option (alG×Bool):=match f with
|0=>none
|n+1=>(G.bM n aJ).bind λv1=>cond v1 (cond (aJ.amJ==999) (some ((alG.mk [] 0),false))<|(G.nM n aJ.akj eH).bind λv2=>cond v2.2 ((G.dG n aJ).bind λv3=>(G.nN n v3.akj v2.1<|af .i64<|v2.1+1).bind λv4=>some ((alG.mk v4<|af .i64<|v3.amJ+1),true))<|some ((alG.mk [] 0),false))<|some ((alG.mk [] 0),false)
def G.bY (f:Nat)(b:jF)(c:Int):Option (Unit×jF):=match f with
|0=>none
|_+1=>(chk ((0<=c/\c<256)/\b.buf.length+1<=140737488355328) (some ((),jF.mk (b.buf++[fB c.toNat]))))
mutual
def G.gK.K4 (f:Nat)(aJ:dR)(aG:Int)(z5:dR):Option (jF):=match f with
|0=>none
|n+1=>chk (0<=aG/\aG<(aJ.length:Int))<|(G.bY n (jF.mk z5) ((aJ.getD aG.toNat 0).toNat:Int)).bind λv14=>G.gK.L3 n aJ (af .i64<|aG+1) v14.2.buf
def G.gK.L3 (f:Nat)(aJ:dR)(aG:Int)(z4:dR):Option (jF):=match f with
|0=>none
|n+1=>cond (decide<|aG<(aJ.length:Int)) (chk (0<=aG/\aG<(aJ.length:Int))<|cond (((aJ.getD aG.toNat 0).toNat:Int)==34) ((G.bY n (jF.mk z4) 92).bind λv15=>G.gK.K4 n aJ aG v15.2.buf)<|chk (0<=aG/\aG<(aJ.length:Int))<|cond (((aJ.getD aG.toNat 0).toNat:Int)==92) ((G.bY n (jF.mk z4) 92).bind λv16=>G.gK.K4 n aJ aG v16.2.buf)<|G.gK.K4 n aJ aG z4)<|(G.bY n (jF.mk z4) 34).bind λv17=>some v17.2
end
def G.gK (f:Nat)(DZ:jF)(aJ:dR):Option (jF):=match f with
|0=>none
|n+1=>(G.bY n DZ 34).bind λv1=>G.gK.L3 n aJ 0 v1.2.buf
def G.mM (f:Nat)(b:jF)(s:dR):Option (Int×Unit×jF):=match f with
|0=>none
|_+1=>(chk (b.buf.length+s.length<=140737488355328) (some ((s.length:Int),(),jF.mk (b.buf++s))))
mutual
def G.di.K4 (f:Nat)(aB:ak)(jb:Int)(z4:dR):Option (jF):=match f with
|0=>none
|n+1=>(G.di n (jF.mk z4)<|aB.ajX.getD jb.toNat default).bind λv11=>G.di.L3 n aB (af .i64<|jb+1) v11.buf
def G.di.L3 (f:Nat)(aB:ak)(jb:Int)(z3:dR):Option (jF):=match f with
|0=>none
|n+1=>cond (decide<|jb<(aB.ajX.length:Int)) (chk (0<=jb/\jb<(aB.ajX.length:Int))<|cond (decide<|0<jb) ((G.bY n (jF.mk z3) 44).bind λv12=>G.di.K4 n aB jb v12.2.buf)<|G.di.K4 n aB jb z3)<|(G.bY n (jF.mk z3) 93).bind λv13=>some v13.2
def G.di.K8 (f:Nat)(aB:ak)(Vj:Int)(z8:dR):Option (jF):=match f with
|0=>none
|n+1=>chk (0<=Vj/\Vj<(aB.aiJ.length:Int))<|(G.gK n (jF.mk z8)<|aB.aiJ.getD Vj.toNat default).bind λv24=>(G.bY n v24 58).bind λv25=>(G.di n v25.2<|aB.ajX.getD Vj.toNat default).bind λv26=>G.di.L7 n aB (af .i64<|Vj+1) v26.buf
def G.di.L7 (f:Nat)(aB:ak)(Vj:Int)(z7:dR):Option (jF):=match f with
|0=>none
|n+1=>cond (decide<|Vj<(aB.ajX.length:Int)) (chk (0<=Vj/\Vj<(aB.ajX.length:Int))<|cond (decide<|0<Vj) ((G.bY n (jF.mk z7) 44).bind λv27=>G.di.K8 n aB Vj v27.2.buf)<|G.di.K8 n aB Vj z7)<|(G.bY n (jF.mk z7) 125).bind λv28=>some v28.2
def G.di (f:Nat)(DZ:jF)(aB:ak):Option (jF):=match f with
|0=>none
|n+1=>cond (aB.alC==0) ((G.mM n DZ [110,117,108,108]).bind λv1=>some v1.2.2)<|cond (aB.alC==1) ((G.strconv_Itoa n aB.Num).bind λv2=>(G.mM n DZ v2).bind λv3=>some v3.2.2)<|cond (aB.alC==2) ((G.gK n DZ aB.amV).bind λv4=>some v4)<|cond (aB.alC==3) ((G.bY n DZ 91).bind λv5=>G.di.L3 n aB 0 v5.2.buf)<|cond (aB.alC==4) ((G.bY n DZ 123).bind λv14=>G.di.L7 n aB 0 v14.2.buf)<|some DZ
end
def G.uC (f:Nat)(b:jF):Option dR:=match f with
|0=>none
|_+1=>(chk (b.buf.length<=140737488355328) (some b.buf))
def G.qK (f:Nat)(aB:ak):Option (dR):=match f with
|0=>none
|n+1=>(G.bJ n aB).bind λv1=>cond v1 ((G.di n (jF.mk []) aB).bind λv2=>(G.uC n v2).bind λv3=>some v3)<|some<|[]
def G.uS (f:Nat)(aJ:alG)(eH:dR):Option (bg×Bool):=match f with
|0=>none
|n+1=>(G.bM n aJ).bind λv1=>cond v1 ((G.nM n aJ.akj eH).bind λv2=>cond v2.2 (chk (0<=v2.1/\v2.1<(aJ.akj.length:Int))<|(G.rO n<|bg.mk ((aJ.akj.getD v2.1.toNat default).al9) ((aJ.akj.getD v2.1.toNat default).amX)<|(aJ.akj.getD v2.1.toNat default).am4).bind λv3=>some (v3,true))<|some ((bg.mk [] 0<|ak.mk 0 0 [] [] []),false))<|some ((bg.mk [] 0<|ak.mk 0 0 [] [] []),false)
def G.je.L2 (f:Nat)(aaz:Int)(Po:Int)(z3:List Int):Option (dR):=match f with
|0=>none
|n+1=>cond (decide<|0<=Po) (chk (0<=(kP aaz 16)/\(kP aaz 16)<((16:Nat):Int))<|chk (0<=Po/\Po<(z3.length:Int))<|chk (0<=Po/\Po<4)<|G.je.L2 n (af .i64<|lU aaz 16) (af .i64<|Po-1)<|z3.set Po.toNat ((([48,49,50,51,52,53,54,55,56,57,97,98,99,100,101,102]:dR).getD (kP aaz 16).toNat 0).toNat:Int))<|chk (z3.length=4)<|chk ((z3.take 4).length<=maxLen)<|some<|(I9<|z3.take 4)
def G.je.L1 (f:Nat)(aJ:dR)(aj1:Int)(aG:Int):Option (dR):=match f with
|0=>none
|n+1=>cond (decide<|aG<(aJ.length:Int)) (chk (0<=aG/\aG<(aJ.length:Int))<|G.je.L1 n aJ (kP (af .i64<|(af .i64<|131*aj1)+(af .i64<|((aJ.getD aG.toNat 0).toNat:Int))) 65521)<|af .i64<|aG+1)<|G.je.L2 n aj1 3<|bC 4 0
def G.je (f:Nat)(aJ:dR):Option (dR):=match f with
|0=>none
|n+1=>G.je.L1 n aJ 17 0
def G.vk (f:Nat)(aB:ak):Option (dR):=match f with
|0=>none
|n+1=>(G.bJ n aB).bind λv1=>cond v1 ((G.qK n aB).bind λv2=>(G.je n v2).bind λv3=>some v3)<|some<|[]
def G.qM (f:Nat)(aJ:alG)(fJ:akh):Option (alG×aI):=match f with
|0=>none
|n+1=>(G.uh n aJ fJ.al9).bind λv1=>cond v1.2 (some (v1.1,(aI.mk 200 [] v1.1.amJ<|ak.mk 0 0 [] [] [])))<|(G.dG n aJ).bind λv2=>some (v2,(aI.mk 422 [] 0<|ak.mk 0 0 [] [] []))
def G.nO (f:Nat)(s:List bg)(i:Int)(v:List bg):Option (List bg):=match f with
|0=>none
|_+1=>chk (0<=i/\i<=(s.length:Int)/\v.length=1/\(s.length+1)*112<=2^46) (some (s.take i.toNat++v++s.drop i.toNat))
def G.xh (f:Nat)(zL:List bg)(pX:bg):Option (List bg):=match f with
|0=>none
|n+1=>(G.nM n zL pX.al9).bind λv1=>cond v1.2 (chk (0<=v1.1/\v1.1<(zL.length:Int))<|some<|zL.set v1.1.toNat pX)<|(G.nO n zL v1.1 [pX]).bind λv2=>some v2
def G.uT (f:Nat)(aJ:alG)(eH:dR)(aB:ak):Option (alG×Bool):=match f with
|0=>none
|n+1=>(G.bM n aJ).bind λv1=>cond v1 ((G.jR n eH).bind λv2=>cond v2 ((G.bJ n aB).bind λv3=>cond v3 ((G.dG n aJ).bind λv4=>(G.aV n aB).bind λv5=>(G.xh n v4.akj<|bg.mk eH (af .i64<|v4.amJ+1) v5).bind λv6=>(G.bM n<|alG.mk v6<|af .i64<|v4.amJ+1).bind λv7=>cond v7 (some ((alG.mk v6<|af .i64<|v4.amJ+1),true))<|some ((alG.mk [] 0),false))<|some ((alG.mk [] 0),false))<|some ((alG.mk [] 0),false))<|some ((alG.mk [] 0),false)
def G.vH (f:Nat)(BA:ak)(eH:dR):Option (ak):=match f with
|0=>none
|n+1=>(G.slices_BinarySearch_string n BA.aiJ eH).bind λv1=>cond v1.2 ((G.slices_Delete_string n BA.aiJ v1.1<|af .i64<|v1.1+1).bind λv2=>(G.jM n BA.ajX v1.1<|af .i64<|v1.1+1).bind λv3=>some<|ak.mk BA.alC BA.Num BA.amV v2 v3)<|some BA
mutual
def G.dP.K5 (f:Nat)(dO:ak)(jb:Int)(y17:Int)(y18:Int)(y19:dR)(z5:List dR)(z6:List ak)(y20:Int)(y21:Int)(y22:dR)(y23:List dR)(y24:List ak):Option (ak):=match f with
|0=>none
|n+1=>chk (0<=jb/\jb<(dO.ajX.length:Int))<|(G.dP n (ak.mk y20 y21 y22 y23 y24)<|dO.ajX.getD jb.toNat default).bind λv15=>(G.o6 n (ak.mk y17 y18 y19 z5 z6) (dO.aiJ.getD jb.toNat default) v15).bind λv16=>G.dP.L4 n dO (af .i64<|jb+1) v16.alC v16.Num v16.amV v16.aiJ v16.ajX
def G.dP.L4 (f:Nat)(dO:ak)(jb:Int)(y17:Int)(y18:Int)(y19:dR)(z5:List dR)(z6:List ak):Option (ak):=match f with
|0=>none
|n+1=>cond (decide<|jb<(dO.aiJ.length:Int)) (chk (0<=jb/\jb<(dO.aiJ.length:Int))<|chk (0<=jb/\jb<(dO.ajX.length:Int))<|cond ((dO.ajX.getD jb.toNat default).alC==0) ((G.vH n (ak.mk y17 y18 y19 z5 z6)<|dO.aiJ.getD jb.toNat default).bind λv13=>G.dP.L4 n dO (af .i64<|jb+1) v13.alC v13.Num v13.amV v13.aiJ v13.ajX)<|(G.slices_BinarySearch_string n z5<|dO.aiJ.getD jb.toNat default).bind λv17=>cond v17.2 (chk (0<=v17.1/\v17.1<(z6.length:Int))<|G.dP.K5 n dO jb y17 y18 y19 z5 z6 ((z6.getD v17.1.toNat default).alC) ((z6.getD v17.1.toNat default).Num) ((z6.getD v17.1.toNat default).amV) ((z6.getD v17.1.toNat default).aiJ)<|(z6.getD v17.1.toNat default).ajX)<|G.dP.K5 n dO jb y17 y18 y19 z5 z6 0 0 [] [] [])<|some<|ak.mk y17 y18 y19 z5 z6
def G.dP.K1 (f:Nat)(dO:ak)(y1:Int)(y2:Int)(y3:dR)(z1:List dR)(z2:List ak):Option (ak):=match f with
|0=>none
|n+1=>G.dP.L4 n dO 0 y1 y2 y3 z1 z2
def G.dP (f:Nat)(aB:ak)(dO:ak):Option (ak):=match f with
|0=>none
|n+1=>cond (dO.alC != 4) ((G.aV n dO).bind λv1=>some v1)<|cond (aB.alC==4) ((G.aV n aB).bind λv18=>G.dP.K1 n dO v18.alC v18.Num v18.amV v18.aiJ v18.ajX)<|G.dP.K1 n dO 4 0 [] [] []
end
def G.sD (f:Nat)(aB:ak)(dO:ak):Option (ak×Bool):=match f with
|0=>none
|n+1=>(G.bJ n aB).bind λv1=>cond v1 ((G.bJ n dO).bind λv2=>cond v2 ((G.dP n aB dO).bind λv3=>(G.oZ n v3 true).bind λv4=>some (v4.1,v4.2))<|some ((ak.mk 0 0 [] [] []),false))<|some ((ak.mk 0 0 [] [] []),false)
def G.uV (f:Nat)(H8:ak)(fJ:akh):Option (ak×Bool):=match f with
|0=>none
|n+1=>cond (fJ.amI==4) ((G.qJ n H8 fJ.Ops).bind λv1=>some (v1.1,v1.2))<|cond (fJ.amI==5) ((G.sD n H8 fJ.Body).bind λv2=>some (v2.1,v2.2))<|some (fJ.Body,true)
def G.ni (f:Nat)(aJ:alG)(fJ:akh)(H8:ak)(Ns:Bool):Option (alG×aI):=match f with
|0=>none
|n+1=>(G.uV n H8 fJ).bind λv1=>cond v1.2 ((G.uT n aJ fJ.al9 v1.1).bind λv2=>cond v2.2 ((G.vk n v1.1).bind λv3=>cond Ns (some (v2.1,(aI.mk 200 v3 v2.1.amJ<|ak.mk 0 0 [] [] [])))<|some (v2.1,(aI.mk 201 v3 v2.1.amJ<|ak.mk 0 0 [] [] [])))<|(G.dG n aJ).bind λv4=>some (v4,(aI.mk 422 [] 0<|ak.mk 0 0 [] [] [])))<|(G.dG n aJ).bind λv5=>some (v5,(aI.mk 422 [] 0<|ak.mk 0 0 [] [] []))
def G.lq (f:Nat)(fJ:akh):Option (Bool):=match f with
|0=>none
|n+1=>cond (decide<|1<=fJ.amI) (cond (decide<|fJ.amI<=5) ((G.jR n fJ.al9).bind λv1=>cond v1 ((G.jG n fJ.anx).bind λv2=>cond v2 ((G.jG n fJ.lY).bind λv3=>cond v3 ((G.bJ n fJ.Body).bind λv4=>cond v4 ((G.eX n fJ.Ops).bind λv5=>some v5)<|some false)<|some false)<|some false)<|some false)<|some false)<|some false
def G.dB.K1 (f:Nat)(aJ:alG)(fJ:akh)(v3:bg×Bool)(aj2:dR):Option (alG×aI):=match f with
|0=>none
|n+1=>(G.kK n fJ.anx fJ.lY aj2<|fJ.amI==1).bind λv5=>cond (v5 != 200) ((G.dG n aJ).bind λv6=>some (v6,(aI.mk v5 [] 0<|ak.mk 0 0 [] [] [])))<|cond (fJ.amI==1) ((G.dG n aJ).bind λv7=>some (v7,(aI.mk 200 aj2 v3.1.amX v3.1.am4)))<|cond (fJ.amI==3) ((G.qM n aJ fJ).bind λv8=>some (v8.1,v8.2))<|(G.ni n aJ fJ v3.1.am4 true).bind λv9=>some (v9.1,v9.2)
def G.dB.K2 (f:Nat)(aJ:alG)(fJ:akh)(v3:bg×Bool):Option (alG×aI):=match f with
|0=>none
|n+1=>(G.kK n fJ.anx fJ.lY []<|fJ.amI==1).bind λv12=>cond (v12 != 200) ((G.dG n aJ).bind λv13=>some (v13,(aI.mk v12 [] 0<|ak.mk 0 0 [] [] [])))<|cond (fJ.amI==1) ((G.dG n aJ).bind λv14=>some (v14,(aI.mk 200 [] v3.1.amX v3.1.am4)))<|cond (fJ.amI==3) ((G.qM n aJ fJ).bind λv15=>some (v15.1,v15.2))<|(G.ni n aJ fJ v3.1.am4 false).bind λv16=>some (v16.1,v16.2)
def G.dB (f:Nat)(aJ:alG)(fJ:akh):Option (alG×aI):=match f with
|0=>none
|n+1=>(G.bM n aJ).bind λv1=>cond v1 ((G.lq n fJ).bind λv2=>cond v2 ((G.uS n aJ fJ.al9).bind λv3=>cond v3.2 ((G.vk n v3.1.am4).bind λv10=>G.dB.K1 n aJ fJ v3 v10)<|cond (fJ.amI != 2) ((G.dG n aJ).bind λv11=>some (v11,(aI.mk 404 [] 0<|ak.mk 0 0 [] [] [])))<|G.dB.K2 n aJ fJ v3)<|some ((alG.mk [] 0),(aI.mk 400 [] 0<|ak.mk 0 0 [] [] [])))<|some ((alG.mk [] 0),(aI.mk 400 [] 0<|ak.mk 0 0 [] [] []))
def G.jK.L1 (f:Nat)(aF:List dR)(eF:List dR)(aG:Int):Option (Bool):=match f with
|0=>none
|n+1=>cond (decide<|aG<(aF.length:Int)) (chk (0<=aG/\aG<(aF.length:Int))<|chk (0<=aG/\aG<(eF.length:Int))<|cond ((aF.getD aG.toNat default)==(eF.getD aG.toNat default)) (G.jK.L1 n aF eF<|af .i64<|aG+1)<|some false)<|some true
def G.jK (f:Nat)(aF:List dR)(eF:List dR):Option (Bool):=match f with
|0=>none
|n+1=>cond ((aF.length:Int) != (eF.length:Int)) (some false)<|G.jK.L1 n aF eF 0
mutual
def G.qy (f:Nat)(aF:ak)(eF:ak):Option (Bool):=match f with
|0=>none
|n+1=>cond (aF.alC != eF.alC) (some false)<|cond (aF.Num != eF.Num) (some false)<|cond (aF.amV==eF.amV) ((G.jK n aF.aiJ eF.aiJ).bind λv1=>cond v1 ((G.pY n aF.ajX eF.ajX).bind λv2=>cond v2 (some true)<|some false)<|some false)<|some false
def G.pY.L1 (f:Nat)(aF:List ak)(eF:List ak)(aG:Int):Option (Bool):=match f with
|0=>none
|n+1=>cond (decide<|aG<(aF.length:Int)) (chk (0<=aG/\aG<(aF.length:Int))<|chk (0<=aG/\aG<(eF.length:Int))<|(G.qy n (aF.getD aG.toNat default)<|eF.getD aG.toNat default).bind λv3=>cond v3 (G.pY.L1 n aF eF<|af .i64<|aG+1)<|some false)<|some true
def G.pY (f:Nat)(aF:List ak)(eF:List ak):Option (Bool):=match f with
|0=>none
|n+1=>cond ((aF.length:Int) != (eF.length:Int)) (some false)<|G.pY.L1 n aF eF 0
end
def G.xI (f:Nat)(aF:bg)(eF:bg):Option (Bool):=match f with
|0=>none
|n+1=>cond (aF.al9==eF.al9) (cond (aF.amX != eF.amX) (some false)<|(G.qy n aF.am4 eF.am4).bind λv1=>cond v1 (some true)<|some false)<|some false
def G.oz.L1 (f:Nat)(aF:List bg)(eF:List bg)(aG:Int):Option (Bool):=match f with
|0=>none
|n+1=>cond (decide<|aG<(aF.length:Int)) (chk (0<=aG/\aG<(aF.length:Int))<|chk (0<=aG/\aG<(eF.length:Int))<|(G.xI n (bg.mk ((aF.getD aG.toNat default).al9) ((aF.getD aG.toNat default).amX)<|(aF.getD aG.toNat default).am4)<|bg.mk ((eF.getD aG.toNat default).al9) ((eF.getD aG.toNat default).amX)<|(eF.getD aG.toNat default).am4).bind λv3=>cond v3 (G.oz.L1 n aF eF<|af .i64<|aG+1)<|some false)<|some true
def G.oz (f:Nat)(aF:List bg)(eF:List bg):Option (Bool):=match f with
|0=>none
|n+1=>cond ((aF.length:Int) != (eF.length:Int)) (some false)<|G.oz.L1 n aF eF 0
def G.Am (f:Nat)(aF:pW)(eF:pW):Option (Bool):=match f with
|0=>none
|n+1=>cond (aF.alC != eF.alC) (some false)<|(G.jK n aF.anu eF.anu).bind λv1=>cond v1 ((G.jK n aF.anw eF.anw).bind λv2=>cond v2 ((G.qy n aF.Value eF.Value).bind λv3=>cond v3 (some true)<|some false)<|some false)<|some false
def G.tq.L1 (f:Nat)(aF:List pW)(eF:List pW)(aG:Int):Option (Bool):=match f with
|0=>none
|n+1=>cond (decide<|aG<(aF.length:Int)) (chk (0<=aG/\aG<(aF.length:Int))<|chk (0<=aG/\aG<(eF.length:Int))<|(G.Am n (pW.mk ((aF.getD aG.toNat default).alC) ((aF.getD aG.toNat default).anu) ((aF.getD aG.toNat default).anw)<|(aF.getD aG.toNat default).Value)<|pW.mk ((eF.getD aG.toNat default).alC) ((eF.getD aG.toNat default).anu) ((eF.getD aG.toNat default).anw)<|(eF.getD aG.toNat default).Value).bind λv3=>cond v3 (G.tq.L1 n aF eF<|af .i64<|aG+1)<|some false)<|some true
def G.tq (f:Nat)(aF:List pW)(eF:List pW):Option (Bool):=match f with
|0=>none
|n+1=>cond ((aF.length:Int) != (eF.length:Int)) (some false)<|G.tq.L1 n aF eF 0
def G.sF (f:Nat)(aF:akh)(eF:akh):Option (Bool):=match f with
|0=>none
|n+1=>cond (aF.amI != eF.amI) (some false)<|cond (aF.al9==eF.al9) ((G.jK n aF.anx eF.anx).bind λv1=>cond v1 ((G.jK n aF.lY eF.lY).bind λv2=>cond v2 ((G.qy n aF.Body eF.Body).bind λv3=>cond v3 ((G.tq n aF.Ops eF.Ops).bind λv4=>cond v4 (some true)<|some false)<|some false)<|some false)<|some false)<|some false
def G.nZ (f:Nat)(aF:aI)(eF:aI):Option (Bool):=match f with
|0=>none
|n+1=>cond (aF.anA != eF.anA) (some false)<|cond (aF.Tag==eF.Tag) (cond (aF.amX != eF.amX) (some false)<|(G.qy n aF.Body eF.Body).bind λv1=>cond v1 (some true)<|some false)<|some false
def G.kS (f:Nat)(aF:alG)(eF:alG):Option (Bool):=match f with
|0=>none
|n+1=>(G.oz n aF.akj eF.akj).bind λv1=>cond v1 (cond (aF.amJ != eF.amJ) (some false)<|some true)<|some false
def G.iE.L1 (f:Nat)(Eb:Int)(E5:dR):Option (dR):=match f with
|0=>none
|n+1=>cond (decide<|0<Eb) (chk (1<=maxLen)<|chk (1+E5.length<=maxLen)<|G.iE.L1 n (af .i64<|lU Eb 10)<|[fB (af .u8<|(af .i64<|48+(kP Eb 10))).toNat]++E5)<|chk (1+E5.length<=maxLen)<|some<|[109]++E5
def G.iE (f:Nat)(xe:Int):Option (dR):=match f with
|0=>none
|n+1=>cond (decide<|xe<=0) (some<|[109,48])<|G.iE.L1 n xe []
def G.iG.L1 (f:Nat)(aF:List dR)(Eb:Int)(aG:Int):Option (Int):=match f with
|0=>none
|n+1=>cond (decide<|aG<(aF.length:Int)) (chk (0<=aG/\aG<(aF.length:Int))<|(G.iE n Eb).bind λv3=>cond ((aF.getD aG.toNat default)==v3) (G.iG.L1 n aF (af .i64<|Eb+1)<|af .i64<|aG+1)<|some (-1))<|some Eb
def G.iG (f:Nat)(aF:List dR)(xe:Int):Option (Int):=match f with
|0=>none
|n+1=>G.iG.L1 n aF xe 0
mutual
def G.jf.L1 (f:Nat)(aF:List ak)(Eb:Int)(aG:Int):Option (Int):=match f with
|0=>none
|n+1=>cond (decide<|aG<(aF.length:Int)) (chk (0<=aG/\aG<(aF.length:Int))<|cond ((aF.getD aG.toNat default).alC != Eb) (some (-1))<|chk (0<=aG/\aG<(aF.length:Int))<|cond ((aF.getD aG.toNat default).Num != (af .i64<|Eb+1)) (some (-1))<|chk (0<=aG/\aG<(aF.length:Int))<|(G.iE n<|af .i64<|(af .i64<|Eb+1)+1).bind λv7=>cond ((aF.getD aG.toNat default).amV==v7) (chk (0<=aG/\aG<(aF.length:Int))<|(G.iG n ((aF.getD aG.toNat default).aiJ)<|af .i64<|(af .i64<|(af .i64<|Eb+1)+1)+1).bind λv8=>cond (decide<|v8<0) (some (-1))<|chk (0<=aG/\aG<(aF.length:Int))<|(G.jf n ((aF.getD aG.toNat default).ajX) v8).bind λv9=>cond (decide<|v9<0) (some (-1))<|G.jf.L1 n aF v9<|af .i64<|aG+1)<|some (-1))<|some Eb
def G.jf (f:Nat)(aF:List ak)(xe:Int):Option (Int):=match f with
|0=>none
|n+1=>G.jf.L1 n aF xe 0
end
def G.lM.L1 (f:Nat)(aF:List bg)(Eb:Int)(aG:Int):Option (Int):=match f with
|0=>none
|n+1=>cond (decide<|aG<(aF.length:Int)) (chk (0<=aG/\aG<(aF.length:Int))<|(G.iE n Eb).bind λv9=>cond ((aF.getD aG.toNat default).al9==v9) (chk (0<=aG/\aG<(aF.length:Int))<|cond ((aF.getD aG.toNat default).amX != (af .i64<|Eb+1)) (some (-1))<|chk (0<=aG/\aG<(aF.length:Int))<|cond (((aF.getD aG.toNat default).am4).alC != (af .i64<|(af .i64<|Eb+1)+1)) (some (-1))<|chk (0<=aG/\aG<(aF.length:Int))<|cond (((aF.getD aG.toNat default).am4).Num != (af .i64<|(af .i64<|(af .i64<|Eb+1)+1)+1)) (some (-1))<|chk (0<=aG/\aG<(aF.length:Int))<|(G.iE n<|af .i64<|(af .i64<|(af .i64<|(af .i64<|Eb+1)+1)+1)+1).bind λv10=>cond (((aF.getD aG.toNat default).am4).amV==v10) (chk (0<=aG/\aG<(aF.length:Int))<|(G.iG n (((aF.getD aG.toNat default).am4).aiJ)<|af .i64<|(af .i64<|(af .i64<|(af .i64<|(af .i64<|Eb+1)+1)+1)+1)+1).bind λv11=>cond (decide<|v11<0) (some (-1))<|chk (0<=aG/\aG<(aF.length:Int))<|(G.jf n (((aF.getD aG.toNat default).am4).ajX) v11).bind λv12=>cond (decide<|v12<0) (some (-1))<|G.lM.L1 n aF v12<|af .i64<|aG+1)<|some (-1))<|some (-1))<|some Eb
def G.lM (f:Nat)(aF:List bg)(xe:Int):Option (Int):=match f with
|0=>none
|n+1=>G.lM.L1 n aF xe 0
def G.vI (f:Nat)(aF:ak)(xe:Int):Option (Int):=match f with
|0=>none
|n+1=>(G.iG n aF.aiJ xe).bind λv1=>cond (decide<|v1<0) (some (-1))<|(G.jf n aF.ajX v1).bind λv2=>cond (decide<|v2<0) (some (-1))<|some v2
def G.qR (f:Nat)(aF:aI)(xe:Int):Option (Int):=match f with
|0=>none
|n+1=>(G.vI n aF.Body xe).bind λv1=>cond (decide<|v1<0) (some (-1))<|some v1
def G.pU (f:Nat)(aF:alG)(xe:Int):Option (Int):=match f with
|0=>none
|n+1=>(G.lM n aF.akj xe).bind λv1=>cond (decide<|v1<0) (some (-1))<|some v1
def G.jh.L1 (f:Nat)(aF:List dR)(BQ:Int)(aG:Int):Option (Int):=match f with
|0=>none
|n+1=>cond (decide<|aG<(aF.length:Int)) (chk (0<=aG/\aG<(aF.length:Int))<|cond (decide<|(af .i64<|BQ-((aF.getD aG.toNat default).length:Int))<0) (some (-1))<|G.jh.L1 n aF (af .i64<|BQ-((aF.getD aG.toNat default).length:Int))<|af .i64<|aG+1)<|some BQ
def G.jh (f:Nat)(aF:List dR)(jo:Int):Option (Int):=match f with
|0=>none
|n+1=>cond (decide<|(af .i64<|jo-(aF.length:Int))<0) (some (-1))<|G.jh.L1 n aF (af .i64<|jo-(aF.length:Int)) 0
mutual
def G.qC (f:Nat)(aF:ak)(jo:Int):Option (Int):=match f with
|0=>none
|n+1=>cond (decide<|(af .i64<|jo-(aF.amV.length:Int))<0) (some (-1))<|(G.jh n aF.aiJ<|af .i64<|jo-(aF.amV.length:Int)).bind λv1=>cond (decide<|v1<0) (some (-1))<|(G.oD n aF.ajX v1).bind λv2=>cond (decide<|v2<0) (some (-1))<|some v2
def G.oD.L1 (f:Nat)(aF:List ak)(BQ:Int)(aG:Int):Option (Int):=match f with
|0=>none
|n+1=>cond (decide<|aG<(aF.length:Int)) (chk (0<=aG/\aG<(aF.length:Int))<|(G.qC n (aF.getD aG.toNat default) BQ).bind λv3=>cond (decide<|v3<0) (some (-1))<|G.oD.L1 n aF v3<|af .i64<|aG+1)<|some BQ
def G.oD (f:Nat)(aF:List ak)(jo:Int):Option (Int):=match f with
|0=>none
|n+1=>cond (decide<|(af .i64<|jo-(aF.length:Int))<0) (some (-1))<|G.oD.L1 n aF (af .i64<|jo-(aF.length:Int)) 0
end
def G.vX (f:Nat)(aF:bg)(jo:Int):Option (Int):=match f with
|0=>none
|n+1=>cond (decide<|(af .i64<|jo-(aF.al9.length:Int))<0) (some (-1))<|(G.qC n aF.am4<|af .i64<|jo-(aF.al9.length:Int)).bind λv1=>cond (decide<|v1<0) (some (-1))<|some v1
def G.mX.L1 (f:Nat)(aF:List bg)(BQ:Int)(aG:Int):Option (Int):=match f with
|0=>none
|n+1=>cond (decide<|aG<(aF.length:Int)) (chk (0<=aG/\aG<(aF.length:Int))<|(G.vX n (bg.mk ((aF.getD aG.toNat default).al9) ((aF.getD aG.toNat default).amX)<|(aF.getD aG.toNat default).am4) BQ).bind λv3=>cond (decide<|v3<0) (some (-1))<|G.mX.L1 n aF v3<|af .i64<|aG+1)<|some BQ
def G.mX (f:Nat)(aF:List bg)(jo:Int):Option (Int):=match f with
|0=>none
|n+1=>cond (decide<|(af .i64<|jo-(aF.length:Int))<0) (some (-1))<|G.mX.L1 n aF (af .i64<|jo-(aF.length:Int)) 0
def G.x9 (f:Nat)(aF:pW)(jo:Int):Option (Int):=match f with
|0=>none
|n+1=>(G.jh n aF.anu jo).bind λv1=>cond (decide<|v1<0) (some (-1))<|(G.jh n aF.anw v1).bind λv2=>cond (decide<|v2<0) (some (-1))<|(G.qC n aF.Value v2).bind λv3=>cond (decide<|v3<0) (some (-1))<|some v3
def G.qV.L1 (f:Nat)(aF:List pW)(BQ:Int)(aG:Int):Option (Int):=match f with
|0=>none
|n+1=>cond (decide<|aG<(aF.length:Int)) (chk (0<=aG/\aG<(aF.length:Int))<|(G.x9 n (pW.mk ((aF.getD aG.toNat default).alC) ((aF.getD aG.toNat default).anu) ((aF.getD aG.toNat default).anw)<|(aF.getD aG.toNat default).Value) BQ).bind λv3=>cond (decide<|v3<0) (some (-1))<|G.qV.L1 n aF v3<|af .i64<|aG+1)<|some BQ
def G.qV (f:Nat)(aF:List pW)(jo:Int):Option (Int):=match f with
|0=>none
|n+1=>cond (decide<|(af .i64<|jo-(aF.length:Int))<0) (some (-1))<|G.qV.L1 n aF (af .i64<|jo-(aF.length:Int)) 0
def G.lN (f:Nat)(aF:akh)(jo:Int):Option (Int):=match f with
|0=>none
|n+1=>cond (decide<|(af .i64<|jo-(aF.al9.length:Int))<0) (some (-1))<|(G.jh n aF.anx<|af .i64<|jo-(aF.al9.length:Int)).bind λv1=>cond (decide<|v1<0) (some (-1))<|(G.jh n aF.lY v1).bind λv2=>cond (decide<|v2<0) (some (-1))<|(G.qC n aF.Body v2).bind λv3=>cond (decide<|v3<0) (some (-1))<|(G.qV n aF.Ops v3).bind λv4=>cond (decide<|v4<0) (some (-1))<|some v4
def G.kL (f:Nat)(aF:alG)(jo:Int):Option (Int):=match f with
|0=>none
|n+1=>(G.mX n aF.akj jo).bind λv1=>cond (decide<|v1<0) (some (-1))<|some v1
def G.jL.L1 (f:Nat)(aF:List dR)(aG:Int)(z3:List dR):Option (List dR):=match f with
|0=>none
|n+1=>cond (decide<|aG<(aF.length:Int)) (chk (0<=aG/\aG<(aF.length:Int))<|chk (0<=aG/\aG<(z3.length:Int))<|G.jL.L1 n aF (af .i64<|aG+1)<|z3.set aG.toNat<|aF.getD aG.toNat default)<|some z3
def G.jL (f:Nat)(aF:List dR):Option (List dR):=match f with
|0=>none
|n+1=>chk (0<=(aF.length:Int)/\(aF.length:Int)<=(aF.length:Int)/\16*(aF.length:Int)<=2^47/\(aF.length:Int)<=2^47)<|G.jL.L1 n aF 0<|bC aF.length []
mutual
def G.sG (f:Nat)(aF:ak):Option (ak):=match f with
|0=>none
|n+1=>(G.jL n aF.aiJ).bind λv1=>(G.qf n aF.ajX).bind λv2=>some<|ak.mk aF.alC aF.Num aF.amV v1 v2
def G.qf.L1 (f:Nat)(aF:List ak)(aG:Int)(z3:List ak):Option (List ak):=match f with
|0=>none
|n+1=>cond (decide<|aG<(aF.length:Int)) (chk (0<=aG/\aG<(aF.length:Int))<|(G.sG n<|aF.getD aG.toNat default).bind λv3=>chk (0<=aG/\aG<(z3.length:Int))<|G.qf.L1 n aF (af .i64<|aG+1)<|z3.set aG.toNat v3)<|some z3
def G.qf (f:Nat)(aF:List ak):Option (List ak):=match f with
|0=>none
|n+1=>chk (0<=(aF.length:Int)/\(aF.length:Int)<=(aF.length:Int)/\80*(aF.length:Int)<=2^47/\(aF.length:Int)<=2^47)<|G.qf.L1 n aF 0<|bC aF.length<|ak.mk 0 0 [] [] []
end
def G.xJ (f:Nat)(aF:bg):Option (bg):=match f with
|0=>none
|n+1=>(G.sG n aF.am4).bind λv1=>some<|bg.mk aF.al9 aF.amX v1
def G.oG.L1 (f:Nat)(aF:List bg)(aG:Int)(z3:List bg):Option (List bg):=match f with
|0=>none
|n+1=>cond (decide<|aG<(aF.length:Int)) (chk (0<=aG/\aG<(aF.length:Int))<|(G.xJ n<|bg.mk ((aF.getD aG.toNat default).al9) ((aF.getD aG.toNat default).amX)<|(aF.getD aG.toNat default).am4).bind λv3=>chk (0<=aG/\aG<(z3.length:Int))<|G.oG.L1 n aF (af .i64<|aG+1)<|z3.set aG.toNat v3)<|some z3
def G.oG (f:Nat)(aF:List bg):Option (List bg):=match f with
|0=>none
|n+1=>chk (0<=(aF.length:Int)/\(aF.length:Int)<=(aF.length:Int)/\104*(aF.length:Int)<=2^47/\(aF.length:Int)<=2^47)<|G.oG.L1 n aF 0<|bC aF.length<|bg.mk [] 0<|ak.mk 0 0 [] [] []
def G.Ap (f:Nat)(aF:pW):Option (pW):=match f with
|0=>none
|n+1=>(G.jL n aF.anu).bind λv1=>(G.jL n aF.anw).bind λv2=>(G.sG n aF.Value).bind λv3=>some<|pW.mk aF.alC v1 v2 v3
def G.tu.L1 (f:Nat)(aF:List pW)(aG:Int)(z3:List pW):Option (List pW):=match f with
|0=>none
|n+1=>cond (decide<|aG<(aF.length:Int)) (chk (0<=aG/\aG<(aF.length:Int))<|(G.Ap n<|pW.mk ((aF.getD aG.toNat default).alC) ((aF.getD aG.toNat default).anu) ((aF.getD aG.toNat default).anw)<|(aF.getD aG.toNat default).Value).bind λv3=>chk (0<=aG/\aG<(z3.length:Int))<|G.tu.L1 n aF (af .i64<|aG+1)<|z3.set aG.toNat v3)<|some z3
def G.tu (f:Nat)(aF:List pW):Option (List pW):=match f with
|0=>none
|n+1=>chk (0<=(aF.length:Int)/\(aF.length:Int)<=(aF.length:Int)/\136*(aF.length:Int)<=2^47/\(aF.length:Int)<=2^47)<|G.tu.L1 n aF 0<|bC aF.length<|pW.mk 0 [] []<|ak.mk 0 0 [] [] []
def G.pV (f:Nat)(aF:akh):Option (akh):=match f with
|0=>none
|n+1=>(G.jL n aF.anx).bind λv1=>(G.jL n aF.lY).bind λv2=>(G.sG n aF.Body).bind λv3=>(G.tu n aF.Ops).bind λv4=>some<|akh.mk aF.amI aF.al9 v1 v2 v3 v4
def G.nR (f:Nat)(aF:alG):Option (alG):=match f with
|0=>none
|n+1=>(G.oG n aF.akj).bind λv1=>some<|alG.mk v1 aF.amJ
mutual
def G.bG.L1 (f:Nat)(aB:ak)(aG:Int)(z2:List ak):Option (ak):=match f with
|0=>none
|n+1=>cond (decide<|aG<(aB.ajX.length:Int)) (chk (0<=aG/\aG<(aB.ajX.length:Int))<|(G.bG n<|aB.ajX.getD aG.toNat default).bind λv3=>chk ((z2.length+1)*86<=2^46)<|G.bG.L1 n aB (af .i64<|aG+1)<|z2++[v3])<|chk (aB.aiJ.length*18<=2^46)<|some<|ak.mk aB.alC aB.Num aB.amV aB.aiJ z2
def G.bG (f:Nat)(aB:ak):Option (ak):=match f with
|0=>none
|n+1=>G.bG.L1 n aB 0 []
end
mutual
def G.lJ (f:Nat)(aB:Int):Option (dR):=match f with
|0=>none
|n+1=>cond (decide<|aB<0) (cond (aB==(af .i64<|0-aB)) (some<|[45,57,50,50,51,51,55,50,48,51,54,56,53,52,55,55,53,56,48,56])<|(G.lJ n<|af .i64<|0-aB).bind λv1=>chk (1+v1.length<=maxLen)<|some<|[45]++v1)<|cond (decide<|aB<10) (chk (1<=maxLen)<|some<|[fB (af .u8<|(af .i64<|48+aB)).toNat])<|(G.lJ n<|af .i64<|lU aB 10).bind λv2=>chk (1<=maxLen)<|chk (v2.length+1<=maxLen)<|some<|(v2++[fB (af .u8<|(af .i64<|48+(kP aB 10))).toNat])
end
def G.jE.L1 (f:Nat)(aB:ak)(jX:dR)(aG:Int):Option (Int):=match f with
|0=>none
|n+1=>cond (decide<|aG<(aB.ajX.length:Int)) (cond (aB.alC==4) (chk (0<=aG/\aG<(aB.aiJ.length:Int))<|cond ((aB.aiJ.getD aG.toNat default)==jX) (some aG)<|cond (aB.alC==3) ((G.lJ n aG).bind λv5=>cond (v5==jX) (some aG)<|G.jE.L1 n aB jX<|af .i64<|aG+1)<|G.jE.L1 n aB jX<|af .i64<|aG+1)<|cond (aB.alC==3) ((G.lJ n aG).bind λv6=>cond (v6==jX) (some aG)<|G.jE.L1 n aB jX<|af .i64<|aG+1)<|G.jE.L1 n aB jX<|af .i64<|aG+1)<|some (-1)
def G.jE (f:Nat)(aB:ak)(jX:dR):Option (Int):=match f with
|0=>none
|n+1=>G.jE.L1 n aB jX 0
def G.lV.L1 (f:Nat)(aB:ak)(jX:dR)(aG:Int):Option (Int×Bool):=match f with
|0=>none
|n+1=>cond (aB.alC==4) (cond (decide<|aG<=(aB.ajX.length:Int)) (cond (aG==(aB.ajX.length:Int)) (some (aG,false))<|chk (0<=aG/\aG<(aB.aiJ.length:Int))<|cond (iw jX<|aB.aiJ.getD aG.toNat default) (some (aG,false))<|G.lV.L1 n aB jX<|af .i64<|aG+1)<|some ((-1),false))<|some ((-1),false)
def G.lV.L2 (f:Nat)(aB:ak)(jX:dR)(Po:Int):Option (Int×Bool):=match f with
|0=>none
|n+1=>cond (aB.alC==4) (cond (decide<|Po<=(aB.ajX.length:Int)) (cond (Po==(aB.ajX.length:Int)) (some (Po,false))<|chk (0<=Po/\Po<(aB.aiJ.length:Int))<|cond (iw jX<|aB.aiJ.getD Po.toNat default) (some (Po,false))<|G.lV.L2 n aB jX<|af .i64<|Po+1)<|some ((-1),false))<|some ((-1),false)
def G.lV (f:Nat)(aB:ak)(jX:dR):Option (Int×Bool):=match f with
|0=>none
|n+1=>(G.jE n aB jX).bind λv1=>cond (decide<|0<=v1) (some (v1,(aB.alC==4)))<|cond (aB.alC==3) (cond (jX==[45]) (some ((aB.ajX.length:Int),false))<|(G.lJ n (aB.ajX.length:Int)).bind λv2=>cond (jX==v2) (some ((aB.ajX.length:Int),false))<|G.lV.L1 n aB jX 0)<|G.lV.L2 n aB jX 0
def G.o9 (f:Nat)(aB:ak)(xe:Int)(VR:ak):Option (ak):=match f with
|0=>none
|n+1=>(G.bG n aB).bind λv1=>(G.bG n VR).bind λv2=>chk (0<=xe/\xe<(v1.ajX.length:Int))<|some<|(ak.mk v1.alC v1.Num v1.amV v1.aiJ<|v1.ajX.set xe.toNat v2)
def G.ry (f:Nat)(aB:ak)(jX:dR)(iD:ak):Option (ak×Bool):=match f with
|0=>none
|n+1=>(G.lV n aB jX).bind λv1=>cond (decide<|v1.1<0) (some ((ak.mk 0 0 [] [] []),false))<|cond v1.2 ((G.o9 n aB v1.1 iD).bind λv2=>some (v2,true))<|(G.bG n aB).bind λv3=>chk (0<=0/\0<=v1.1/\v1.1<=(v3.ajX.length:Int))<|chk (((v3.ajX.take v1.1.toNat).length)*86<=2^46)<|(G.bG n iD).bind λv4=>chk (((v3.ajX.take v1.1.toNat).length+1)*86<=2^46)<|chk (0<=v1.1/\v1.1<=(v3.ajX.length:Int)/\(v3.ajX.length:Int)<=(v3.ajX.length:Int))<|chk ((((v3.ajX.take v1.1.toNat).length+1)+(v3.ajX.drop v1.1.toNat).length)*86<=2^46)<|cond (aB.alC==3) (some ((ak.mk aB.alC 0 [] []<|((v3.ajX.take v1.1.toNat)++[v4])++(v3.ajX.drop v1.1.toNat)),true))<|chk (0<=0/\0<=v1.1/\v1.1<=(v3.aiJ.length:Int))<|chk (((v3.aiJ.take v1.1.toNat).length)*18<=2^46)<|chk (((v3.aiJ.take v1.1.toNat).length+1)*18<=2^46)<|chk (0<=v1.1/\v1.1<=(v3.aiJ.length:Int)/\(v3.aiJ.length:Int)<=(v3.aiJ.length:Int))<|chk ((((v3.aiJ.take v1.1.toNat).length+1)+(v3.aiJ.drop v1.1.toNat).length)*18<=2^46)<|some ((ak.mk aB.alC 0 [] (((v3.aiJ.take v1.1.toNat)++[jX])++(v3.aiJ.drop v1.1.toNat))<|((v3.ajX.take v1.1.toNat)++[v4])++(v3.ajX.drop v1.1.toNat)),true)
def G.uB.L1 (f:Nat)(aN:List dR)(aG:Int)(y6:Int)(y7:Int)(y8:dR)(y9:List dR)(Vk:List ak):Option (ak×Bool):=match f with
|0=>none
|n+1=>cond (decide<|aG<(aN.length:Int)) (chk (0<=aG/\aG<(aN.length:Int))<|(G.jE n (ak.mk y6 y7 y8 y9 Vk)<|aN.getD aG.toNat default).bind λv3=>cond (decide<|v3<0) (some ((ak.mk 0 0 [] [] []),false))<|chk (0<=v3/\v3<(Vk.length:Int))<|G.uB.L1 n aN (af .i64<|aG+1) ((Vk.getD v3.toNat default).alC) ((Vk.getD v3.toNat default).Num) ((Vk.getD v3.toNat default).amV) ((Vk.getD v3.toNat default).aiJ)<|(Vk.getD v3.toNat default).ajX)<|(G.bG n<|ak.mk y6 y7 y8 y9 Vk).bind λv4=>some (v4,true)
def G.uB (f:Nat)(aB:ak)(aN:List dR):Option (ak×Bool):=match f with
|0=>none
|n+1=>G.uB.L1 n aN 0 aB.alC aB.Num aB.amV aB.aiJ aB.ajX
mutual
def G.pJ (f:Nat)(aB:ak)(aN:List dR)(iD:ak):Option (ak×Bool):=match f with
|0=>none
|n+1=>cond ((aN.length:Int)==0) ((G.bG n iD).bind λv1=>some (v1,true))<|chk (0<=0/\0<(aN.length:Int))<|(G.jE n aB<|aN.getD 0 default).bind λv2=>cond (decide<|v2<0) (some ((ak.mk 0 0 [] [] []),false))<|chk (0<=v2/\v2<(aB.ajX.length:Int))<|chk (0<=1/\1<=(aN.length:Int)/\(aN.length:Int)<=(aN.length:Int))<|(G.pJ n (aB.ajX.getD v2.toNat default) (aN.drop 1) iD).bind λv3=>cond v3.2 ((G.o9 n aB v2 v3.1).bind λv4=>some (v4,true))<|some ((ak.mk 0 0 [] [] []),false)
end
def G.uQ (f:Nat)(aB:ak)(aN:List dR)(iD:ak):Option (ak×Bool):=match f with
|0=>none
|n+1=>cond ((aN.length:Int)==0) ((G.bG n iD).bind λv1=>some (v1,true))<|chk (0<=0/\0<=(af .i64<|(aN.length:Int)-1)/\(af .i64<|(aN.length:Int)-1)<=(aN.length:Int))<|(G.uB n aB<|aN.take<|(af .i64<|(aN.length:Int)-1).toNat).bind λv2=>cond v2.2 (chk (0<=(af .i64<|(aN.length:Int)-1)/\(af .i64<|(aN.length:Int)-1)<(aN.length:Int))<|(G.ry n v2.1 (aN.getD (af .i64<|(aN.length:Int)-1).toNat default) iD).bind λv3=>cond v3.2 (chk (0<=0/\0<=(af .i64<|(aN.length:Int)-1)/\(af .i64<|(aN.length:Int)-1)<=(aN.length:Int))<|(G.pJ n aB (aN.take<|(af .i64<|(aN.length:Int)-1).toNat) v3.1).bind λv4=>some (v4.1,v4.2))<|some ((ak.mk 0 0 [] [] []),false))<|some ((ak.mk 0 0 [] [] []),false)
def G.nC.L1 (f:Nat)(aN:List dR)(EG:List dR)(aG:Int):Option (Bool):=match f with
|0=>none
|n+1=>cond (decide<|aG<(EG.length:Int)) (cond (decide<|(aN.length:Int)<=aG) (some false)<|chk (0<=aG/\aG<(aN.length:Int))<|chk (0<=aG/\aG<(EG.length:Int))<|cond ((aN.getD aG.toNat default)==(EG.getD aG.toNat default)) (G.nC.L1 n aN EG<|af .i64<|aG+1)<|some false)<|some true
def G.nC (f:Nat)(aN:List dR)(EG:List dR):Option (Bool):=match f with
|0=>none
|n+1=>G.nC.L1 n aN EG 0
def G.kG.K1 (f:Nat)(aB:ak)(aN:List dR)(v1:ak×Bool)(z1:List ak)(z2:List dR):Option (ak×Bool):=match f with
|0=>none
|n+1=>chk (0<=0/\0<=(af .i64<|(aN.length:Int)-1)/\(af .i64<|(aN.length:Int)-1)<=(aN.length:Int))<|(G.pJ n aB (aN.take<|(af .i64<|(aN.length:Int)-1).toNat)<|ak.mk v1.1.alC 0 [] z2 z1).bind λv3=>some (v3.1,v3.2)
def G.kG (f:Nat)(aB:ak)(aN:List dR):Option (ak×Bool):=match f with
|0=>none
|n+1=>cond (decide<|(af .i64<|(aN.length:Int)-1)<0) (some ((ak.mk 0 0 [] [] []),false))<|chk (0<=0/\0<=(af .i64<|(aN.length:Int)-1)/\(af .i64<|(aN.length:Int)-1)<=(aN.length:Int))<|(G.uB n aB<|aN.take<|(af .i64<|(aN.length:Int)-1).toNat).bind λv1=>cond v1.2 (chk (0<=(af .i64<|(aN.length:Int)-1)/\(af .i64<|(aN.length:Int)-1)<(aN.length:Int))<|(G.jE n v1.1<|aN.getD (af .i64<|(aN.length:Int)-1).toNat default).bind λv2=>cond (decide<|v2<0) (some ((ak.mk 0 0 [] [] []),false))<|chk (0<=0/\0<=v2/\v2<=(v1.1.ajX.length:Int))<|chk (((v1.1.ajX.take v2.toNat).length)*86<=2^46)<|chk (0<=(af .i64<|v2+1)/\(af .i64<|v2+1)<=(v1.1.ajX.length:Int)/\(v1.1.ajX.length:Int)<=(v1.1.ajX.length:Int))<|chk (((v1.1.ajX.take v2.toNat).length+(v1.1.ajX.drop<|(af .i64<|v2+1).toNat).length)*86<=2^46)<|cond (v1.1.alC==4) (chk (0<=0/\0<=v2/\v2<=(v1.1.aiJ.length:Int))<|chk (((v1.1.aiJ.take v2.toNat).length)*18<=2^46)<|chk (0<=(af .i64<|v2+1)/\(af .i64<|v2+1)<=(v1.1.aiJ.length:Int)/\(v1.1.aiJ.length:Int)<=(v1.1.aiJ.length:Int))<|chk (((v1.1.aiJ.take v2.toNat).length+(v1.1.aiJ.drop<|(af .i64<|v2+1).toNat).length)*18<=2^46)<|G.kG.K1 n aB aN v1 ((v1.1.ajX.take v2.toNat)++(v1.1.ajX.drop<|(af .i64<|v2+1).toNat))<|(v1.1.aiJ.take v2.toNat)++(v1.1.aiJ.drop<|(af .i64<|v2+1).toNat))<|G.kG.K1 n aB aN v1 ((v1.1.ajX.take v2.toNat)++(v1.1.ajX.drop<|(af .i64<|v2+1).toNat)) [])<|some ((ak.mk 0 0 [] [] []),false)
def G.lX (f:Nat)(eF:Bool):Option (Int):=match f with
|0=>none
|n+1=>cond eF (some 1)<|some 0
def G.rV (f:Nat)(aF:Int)(eF:Int):Option (Int):=match f with
|0=>none
|n+1=>(G.lX n<|decide<|eF<aF).bind λv1=>(G.lX n<|decide<|aF<eF).bind λv2=>some<|(af .i64<|v1-v2)
def G.oP (f:Nat)(aF:dR)(eF:dR):Option (Int):=match f with
|0=>none
|n+1=>cond (iw aF eF) ((G.lX n false).bind λv1=>(G.lX n true).bind λv2=>some<|(af .i64<|v1-v2))<|cond (aF==eF) ((G.lX n false).bind λv3=>(G.lX n false).bind λv4=>some<|(af .i64<|v3-v4))<|(G.lX n true).bind λv5=>(G.lX n false).bind λv6=>some<|(af .i64<|v5-v6)
mutual
def G.gZ.L1 (f:Nat)(aF:ak)(eF:ak)(aG:Int):Option (Int):=match f with
|0=>none
|n+1=>cond (decide<|aG<(aF.ajX.length:Int)) (cond (decide<|aG<(eF.ajX.length:Int)) (cond (aF.alC==4) (chk (0<=aG/\aG<(aF.aiJ.length:Int))<|chk (0<=aG/\aG<(eF.aiJ.length:Int))<|cond ((aF.aiJ.getD aG.toNat default)==(eF.aiJ.getD aG.toNat default)) (chk (0<=aG/\aG<(aF.ajX.length:Int))<|chk (0<=aG/\aG<(eF.ajX.length:Int))<|(G.gZ n (aF.ajX.getD aG.toNat default)<|eF.ajX.getD aG.toNat default).bind λv9=>cond (v9 != 0) (some v9)<|G.gZ.L1 n aF eF<|af .i64<|aG+1)<|chk (0<=aG/\aG<(aF.aiJ.length:Int))<|chk (0<=aG/\aG<(eF.aiJ.length:Int))<|(G.oP n (aF.aiJ.getD aG.toNat default)<|eF.aiJ.getD aG.toNat default).bind λv10=>some v10)<|chk (0<=aG/\aG<(aF.ajX.length:Int))<|chk (0<=aG/\aG<(eF.ajX.length:Int))<|(G.gZ n (aF.ajX.getD aG.toNat default)<|eF.ajX.getD aG.toNat default).bind λv11=>cond (v11 != 0) (some v11)<|G.gZ.L1 n aF eF<|af .i64<|aG+1)<|(G.rV n (aF.ajX.length:Int) (eF.ajX.length:Int)).bind λv12=>some v12)<|(G.rV n (aF.ajX.length:Int) (eF.ajX.length:Int)).bind λv13=>some v13
def G.gZ (f:Nat)(aF:ak)(eF:ak):Option (Int):=match f with
|0=>none
|n+1=>cond (aF.alC != eF.alC) ((G.rV n aF.alC eF.alC).bind λv1=>some v1)<|cond (aF.Num != eF.Num) ((G.rV n aF.Num eF.Num).bind λv2=>some v2)<|cond (aF.amV==eF.amV) (G.gZ.L1 n aF eF 0)<|(G.oP n aF.amV eF.amV).bind λv14=>some v14
end
def G.yG (f:Nat)(aF:ak)(eF:ak):Option (Bool):=match f with
|0=>none
|n+1=>(G.gZ n aF eF).bind λv1=>some<|v1==0
def G.kY.K1 (f:Nat)(aB:ak)(mV:pW)(alE:List dR):Option (ak×Bool):=match f with
|0=>none
|n+1=>(G.uB n aB alE).bind λv4=>cond v4.2 (cond (mV.alC==6) ((G.yG n v4.1 mV.Value).bind λv5=>some (aB,v5))<|cond (mV.alC==5) ((G.uQ n aB mV.anu v4.1).bind λv6=>some (v6.1,v6.2))<|(G.nC n mV.anu mV.anw).bind λv7=>cond v7 ((G.bG n aB).bind λv8=>some (v8,((mV.anu.length:Int)==(mV.anw.length:Int))))<|(G.kG n aB mV.anw).bind λv9=>cond v9.2 ((G.uQ n v9.1 mV.anu v4.1).bind λv10=>some (v10.1,v10.2))<|some ((ak.mk 0 0 [] [] []),false))<|some ((ak.mk 0 0 [] [] []),false)
def G.kY (f:Nat)(aB:ak)(mV:pW):Option (ak×Bool):=match f with
|0=>none
|n+1=>cond (mV.alC==1) ((G.uQ n aB mV.anu mV.Value).bind λv1=>some (v1.1,v1.2))<|cond (mV.alC==2) ((G.kG n aB mV.anu).bind λv2=>some (v2.1,v2.2))<|cond (mV.alC==3) ((G.pJ n aB mV.anu mV.Value).bind λv3=>some (v3.1,v3.2))<|cond (mV.alC==6) (G.kY.K1 n aB mV mV.anu)<|G.kY.K1 n aB mV mV.anw
mutual
def G.nJ.L1 (f:Nat)(aB:ak)(Eb:Int)(aG:Int):Option (Int):=match f with
|0=>none
|n+1=>cond (decide<|aG<(aB.ajX.length:Int)) (chk (0<=aG/\aG<(aB.ajX.length:Int))<|(G.nJ n<|aB.ajX.getD aG.toNat default).bind λv3=>G.nJ.L1 n aB (af .i64<|Eb+v3)<|af .i64<|aG+1)<|some Eb
def G.nJ (f:Nat)(aB:ak):Option (Int):=match f with
|0=>none
|n+1=>G.nJ.L1 n aB 1 0
end
def G.gu (f:Nat)(aB:Int)(VS:Int)(QD:Int):Option (Bool):=match f with
|0=>none
|n+1=>cond (decide<|VS<=aB) (some<|(decide<|aB<=QD))<|some false
def G.iP.L1 (f:Nat)(aJ:dR)(aG:Int):Option (Bool):=match f with
|0=>none
|n+1=>cond (decide<|aG<(aJ.length:Int)) (chk (0<=aG/\aG<(aJ.length:Int))<|(G.gu n (af .i64<|((aJ.getD aG.toNat 0).toNat:Int)) 32 126).bind λv3=>cond v3 (G.iP.L1 n aJ<|af .i64<|aG+1)<|some false)<|some<|(decide<|(aJ.length:Int)<=12)
def G.iP (f:Nat)(aJ:dR):Option (Bool):=match f with
|0=>none
|n+1=>G.iP.L1 n aJ 0
def G.oO.L1 (f:Nat)(aH:List dR)(aG:Int):Option (Bool):=match f with
|0=>none
|n+1=>cond (decide<|aG<(aH.length:Int)) (chk (0<=aG/\aG<(aH.length:Int))<|(G.iP n<|aH.getD aG.toNat default).bind λv3=>cond v3 (cond (decide<|0<aG) (chk (0<=aG/\aG<(aH.length:Int))<|chk (0<=(af .i64<|aG-1)/\(af .i64<|aG-1)<(aH.length:Int))<|cond (iw (aH.getD aG.toNat default)<|aH.getD (af .i64<|aG-1).toNat default) (some false)<|cond ((aH.getD aG.toNat default)==(aH.getD (af .i64<|aG-1).toNat default)) (some false)<|G.oO.L1 n aH<|af .i64<|aG+1)<|G.oO.L1 n aH<|af .i64<|aG+1)<|some false)<|some true
def G.oO (f:Nat)(aH:List dR):Option (Bool):=match f with
|0=>none
|n+1=>G.oO.L1 n aH 0
mutual
def G.tC.L1 (f:Nat)(aB:ak)(mP:Int)(aG:Int):Option (Bool):=match f with
|0=>none
|n+1=>cond (decide<|aG<(aB.ajX.length:Int)) (chk (0<=aG/\aG<(aB.ajX.length:Int))<|(G.ji n (aB.ajX.getD aG.toNat default)<|af .i64<|mP-1).bind λv3=>cond v3 (G.tC.L1 n aB mP<|af .i64<|aG+1)<|some false)<|some true
def G.tC (f:Nat)(aB:ak)(mP:Int):Option (Bool):=match f with
|0=>none
|n+1=>G.tC.L1 n aB mP 0
def G.ji.K1 (f:Nat)(aB:ak)(mP:Int):Option (Bool):=match f with
|0=>none
|n+1=>cond (aB.alC==1) ((G.gu n aB.Num (-999999) 999999).bind λv1=>some v1)<|cond (aB.alC==2) ((G.iP n aB.amV).bind λv2=>some v2)<|cond (aB.alC==3) ((G.tC n aB mP).bind λv3=>some v3)<|cond (aB.alC==4) (cond ((aB.aiJ.length:Int)==(aB.ajX.length:Int)) ((G.oO n aB.aiJ).bind λv4=>cond v4 ((G.tC n aB mP).bind λv5=>some v5)<|some false)<|some false)<|some<|aB.alC==0
def G.ji (f:Nat)(aB:ak)(mP:Int):Option (Bool):=match f with
|0=>none
|n+1=>cond (mP==0) (some false)<|cond (decide<|6<(aB.ajX.length:Int)) (some false)<|cond (aB.alC != 1) (cond (aB.Num != 0) (some false)<|cond (aB.alC != 2) (cond (aB.amV==[]) (cond (aB.alC != 4) (cond (decide<|0<(aB.aiJ.length:Int)) (some false)<|cond (decide<|aB.alC<3) (cond (decide<|0<(aB.ajX.length:Int)) (some false)<|G.ji.K1 n aB mP)<|G.ji.K1 n aB mP)<|cond (decide<|aB.alC<3) (cond (decide<|0<(aB.ajX.length:Int)) (some false)<|G.ji.K1 n aB mP)<|G.ji.K1 n aB mP)<|some false)<|cond (aB.alC != 4) (cond (decide<|0<(aB.aiJ.length:Int)) (some false)<|cond (decide<|aB.alC<3) (cond (decide<|0<(aB.ajX.length:Int)) (some false)<|G.ji.K1 n aB mP)<|G.ji.K1 n aB mP)<|cond (decide<|aB.alC<3) (cond (decide<|0<(aB.ajX.length:Int)) (some false)<|G.ji.K1 n aB mP)<|G.ji.K1 n aB mP)<|cond (aB.alC != 2) (cond (aB.amV==[]) (cond (aB.alC != 4) (cond (decide<|0<(aB.aiJ.length:Int)) (some false)<|cond (decide<|aB.alC<3) (cond (decide<|0<(aB.ajX.length:Int)) (some false)<|G.ji.K1 n aB mP)<|G.ji.K1 n aB mP)<|cond (decide<|aB.alC<3) (cond (decide<|0<(aB.ajX.length:Int)) (some false)<|G.ji.K1 n aB mP)<|G.ji.K1 n aB mP)<|some false)<|cond (aB.alC != 4) (cond (decide<|0<(aB.aiJ.length:Int)) (some false)<|cond (decide<|aB.alC<3) (cond (decide<|0<(aB.ajX.length:Int)) (some false)<|G.ji.K1 n aB mP)<|G.ji.K1 n aB mP)<|cond (decide<|aB.alC<3) (cond (decide<|0<(aB.ajX.length:Int)) (some false)<|G.ji.K1 n aB mP)<|G.ji.K1 n aB mP
end
def G.fZ (f:Nat)(aB:ak):Option (Bool):=match f with
|0=>none
|n+1=>(G.ji n aB 5).bind λv1=>cond v1 ((G.nJ n aB).bind λv2=>some<|(decide<|v2<=40))<|some false
def G.qh (f:Nat)(aB:ak)(Nr:Bool):Option (ak×Bool):=match f with
|0=>none
|n+1=>cond Nr ((G.fZ n aB).bind λv1=>cond v1 (some (aB,true))<|some ((ak.mk 0 0 [] [] []),false))<|some ((ak.mk 0 0 [] [] []),false)
def G.qY (f:Nat)(aB:ak)(mV:pW):Option (ak×Bool):=match f with
|0=>none
|n+1=>(G.kY n aB mV).bind λv1=>(G.qh n v1.1 v1.2).bind λv2=>cond v2.2 ((G.bG n v2.1).bind λv3=>some (v3,true))<|some ((ak.mk 0 0 [] [] []),false)
def G.jk.L1 (f:Nat)(aN:List dR)(aG:Int):Option (Bool):=match f with
|0=>none
|n+1=>cond (decide<|aG<(aN.length:Int)) (chk (0<=aG/\aG<(aN.length:Int))<|(G.iP n<|aN.getD aG.toNat default).bind λv3=>cond v3 (G.jk.L1 n aN<|af .i64<|aG+1)<|some false)<|some<|(decide<|(aN.length:Int)<=5)
def G.jk (f:Nat)(aN:List dR):Option (Bool):=match f with
|0=>none
|n+1=>G.jk.L1 n aN 0
def G.rC (f:Nat)(mV:pW):Option (Bool):=match f with
|0=>none
|n+1=>(G.gu n mV.alC 1 6).bind λv1=>cond v1 ((G.jk n mV.anu).bind λv2=>cond v2 ((G.jk n mV.anw).bind λv3=>cond v3 ((G.fZ n mV.Value).bind λv4=>some v4)<|some false)<|some false)<|some false
def G.fE.L1 (f:Nat)(aH:List pW)(aG:Int):Option (Bool):=match f with
|0=>none
|n+1=>cond (decide<|aG<(aH.length:Int)) (chk (0<=aG/\aG<(aH.length:Int))<|(G.rC n<|pW.mk ((aH.getD aG.toNat default).alC) ((aH.getD aG.toNat default).anu) ((aH.getD aG.toNat default).anw)<|(aH.getD aG.toNat default).Value).bind λv3=>cond v3 (G.fE.L1 n aH<|af .i64<|aG+1)<|some false)<|some<|(decide<|(aH.length:Int)<=12)
def G.fE (f:Nat)(aH:List pW):Option (Bool):=match f with
|0=>none
|n+1=>G.fE.L1 n aH 0
def G.jy.L1 (f:Nat)(aH:List pW)(aG:Int)(y6:Int)(y7:Int)(y8:dR)(y9:List dR)(Vk:List ak):Option (ak×Bool):=match f with
|0=>none
|n+1=>cond (decide<|aG<(aH.length:Int)) (chk (0<=aG/\aG<(aH.length:Int))<|(G.qY n (ak.mk y6 y7 y8 y9 Vk)<|pW.mk ((aH.getD aG.toNat default).alC) ((aH.getD aG.toNat default).anu) ((aH.getD aG.toNat default).anw)<|(aH.getD aG.toNat default).Value).bind λv6=>cond v6.2 (G.jy.L1 n aH (af .i64<|aG+1) v6.1.alC v6.1.Num v6.1.amV v6.1.aiJ v6.1.ajX)<|some ((ak.mk 0 0 [] [] []),false))<|some ((ak.mk y6 y7 y8 y9 Vk),true)
def G.jy (f:Nat)(aB:ak)(aH:List pW):Option (ak×Bool):=match f with
|0=>none
|n+1=>(G.fZ n aB).bind λv1=>cond v1 ((G.fE n aH).bind λv2=>cond v2 ((G.bG n aB).bind λv3=>G.jy.L1 n aH 0 v3.alC v3.Num v3.amV v3.aiJ v3.ajX)<|some ((ak.mk 0 0 [] [] []),false))<|some ((ak.mk 0 0 [] [] []),false)
def G.lI (f:Nat)(vJ:Int):Option (aI):=match f with
|0=>none
|n+1=>some<|(aI.mk vJ [] 0<|ak.mk 0 0 [] [] [])
mutual
def G.jD.L2 (f:Nat)(dO:ak)(aG:Int)(y11:Int)(y12:Int)(y13:dR)(y14:List dR)(y15:List ak):Option (ak):=match f with
|0=>none
|n+1=>cond (decide<|aG<(dO.ajX.length:Int)) (chk (0<=aG/\aG<(dO.aiJ.length:Int))<|(G.jE n (ak.mk y11 y12 y13 y14 y15)<|dO.aiJ.getD aG.toNat default).bind λv19=>chk (0<=aG/\aG<(dO.ajX.length:Int))<|cond ((dO.ajX.getD aG.toNat default).alC==0) (cond (decide<|0<=v19) ((G.kG n (ak.mk y11 y12 y13 y14 y15) [(dO.aiJ.getD aG.toNat default)]).bind λv20=>G.jD.L2 n dO (af .i64<|aG+1) v20.1.alC v20.1.Num v20.1.amV v20.1.aiJ v20.1.ajX)<|chk (0<=aG/\aG<(dO.ajX.length:Int))<|cond ((dO.ajX.getD aG.toNat default).alC != 0) (chk (0<=aG/\aG<(dO.ajX.length:Int))<|chk (0<=aG/\aG<(dO.ajX.length:Int))<|(G.jD n (ak.mk 0 0 [] [] [])<|dO.ajX.getD aG.toNat default).bind λv21=>(G.ry n (ak.mk y11 y12 y13 y14 y15) (dO.aiJ.getD aG.toNat default) v21).bind λv22=>G.jD.L2 n dO (af .i64<|aG+1) v22.1.alC v22.1.Num v22.1.amV v22.1.aiJ v22.1.ajX)<|chk (0<=aG/\aG<(dO.ajX.length:Int))<|G.jD.L2 n dO (af .i64<|aG+1) y11 y12 y13 y14 y15)<|chk (0<=aG/\aG<(dO.ajX.length:Int))<|cond ((dO.ajX.getD aG.toNat default).alC != 0) (cond (decide<|0<=v19) (chk (0<=v19/\v19<(y15.length:Int))<|chk (0<=aG/\aG<(dO.ajX.length:Int))<|(G.jD n (y15.getD v19.toNat default)<|dO.ajX.getD aG.toNat default).bind λv23=>(G.o9 n (ak.mk y11 y12 y13 y14 y15) v19 v23).bind λv24=>G.jD.L2 n dO (af .i64<|aG+1) v24.alC v24.Num v24.amV v24.aiJ v24.ajX)<|chk (0<=aG/\aG<(dO.ajX.length:Int))<|chk (0<=aG/\aG<(dO.ajX.length:Int))<|(G.jD n (ak.mk 0 0 [] [] [])<|dO.ajX.getD aG.toNat default).bind λv25=>(G.ry n (ak.mk y11 y12 y13 y14 y15) (dO.aiJ.getD aG.toNat default) v25).bind λv26=>G.jD.L2 n dO (af .i64<|aG+1) v26.1.alC v26.1.Num v26.1.amV v26.1.aiJ v26.1.ajX)<|chk (0<=aG/\aG<(dO.ajX.length:Int))<|G.jD.L2 n dO (af .i64<|aG+1) y11 y12 y13 y14 y15)<|some<|ak.mk y11 y12 y13 y14 y15
def G.jD.K1 (f:Nat)(dO:ak)(y1:Int)(y2:Int)(y3:dR)(y4:List dR)(y5:List ak):Option (ak):=match f with
|0=>none
|n+1=>G.jD.L2 n dO 0 y1 y2 y3 y4 y5
def G.jD (f:Nat)(aB:ak)(dO:ak):Option (ak):=match f with
|0=>none
|n+1=>cond (dO.alC != 4) ((G.bG n dO).bind λv1=>some v1)<|cond (aB.alC==4) ((G.bG n aB).bind λv27=>G.jD.K1 n dO v27.alC v27.Num v27.amV v27.aiJ v27.ajX)<|G.jD.K1 n dO 4 0 [] [] []
end
def G.qW (f:Nat)(aB:ak)(dO:ak):Option (ak×Bool):=match f with
|0=>none
|n+1=>(G.fZ n aB).bind λv1=>cond v1 ((G.fZ n dO).bind λv2=>cond v2 ((G.jD n aB dO).bind λv3=>(G.qh n v3 true).bind λv4=>some (v4.1,v4.2))<|some ((ak.mk 0 0 [] [] []),false))<|some ((ak.mk 0 0 [] [] []),false)
def G.mQ.L1 (f:Nat)(aH:List dR)(sW:dR)(aG:Int):Option (Bool):=match f with
|0=>none
|n+1=>cond (decide<|aG<(aH.length:Int)) (chk (0<=aG/\aG<(aH.length:Int))<|cond ((aH.getD aG.toNat default)==sW) (some true)<|chk (0<=aG/\aG<(aH.length:Int))<|cond ((aH.getD aG.toNat default)==[42]) (some true)<|G.mQ.L1 n aH sW<|af .i64<|aG+1)<|some false
def G.mQ (f:Nat)(aH:List dR)(sW:dR):Option (Bool):=match f with
|0=>none
|n+1=>G.mQ.L1 n aH sW 0
def G.vP (f:Nat)(yZ:List dR)(vg:List dR)(sW:dR)(xQ:Bool):Option (Int):=match f with
|0=>none
|n+1=>cond (decide<|0<(yZ.length:Int)) (cond (sW==[]) (some 412)<|(G.mQ n yZ sW).bind λv1=>cond v1 (cond (decide<|0<(vg.length:Int)) ((G.mQ n vg sW).bind λv2=>cond v2 (cond xQ (some 304)<|some 412)<|some 200)<|some 200)<|some 412)<|cond (decide<|0<(vg.length:Int)) (cond (sW==[]) (some 200)<|(G.mQ n vg sW).bind λv3=>cond v3 (cond xQ (some 304)<|some 412)<|some 200)<|some 200
def G.dU.L1 (f:Nat)(aJ:alG)(aG:Int)(z2:List bg):Option (alG):=match f with
|0=>none
|n+1=>cond (decide<|aG<(aJ.akj.length:Int)) (chk (0<=aG/\aG<(aJ.akj.length:Int))<|chk (0<=aG/\aG<(aJ.akj.length:Int))<|chk (0<=aG/\aG<(aJ.akj.length:Int))<|(G.bG n<|(aJ.akj.getD aG.toNat default).am4).bind λv3=>chk ((z2.length+1)*112<=2^46)<|G.dU.L1 n aJ (af .i64<|aG+1)<|z2++[(bg.mk ((aJ.akj.getD aG.toNat default).al9) ((aJ.akj.getD aG.toNat default).amX) v3)])<|some<|alG.mk z2 aJ.amJ
def G.dU (f:Nat)(aJ:alG):Option (alG):=match f with
|0=>none
|n+1=>G.dU.L1 n aJ 0 []
def G.rZ.L1 (f:Nat)(aJ:alG)(eH:dR)(v1:alG)(aG:Int)(z2:List bg):Option (alG):=match f with
|0=>none
|n+1=>cond (decide<|aG<(v1.akj.length:Int)) (chk (0<=aG/\aG<(v1.akj.length:Int))<|cond ((v1.akj.getD aG.toNat default).al9==eH) (G.rZ.L1 n aJ eH v1 (af .i64<|aG+1) z2)<|chk (0<=aG/\aG<(v1.akj.length:Int))<|chk ((z2.length+1)*112<=2^46)<|G.rZ.L1 n aJ eH v1 (af .i64<|aG+1)<|z2++[(bg.mk ((v1.akj.getD aG.toNat default).al9) ((v1.akj.getD aG.toNat default).amX)<|(v1.akj.getD aG.toNat default).am4)])<|some<|(alG.mk z2<|af .i64<|aJ.amJ+1)
def G.rZ (f:Nat)(aJ:alG)(eH:dR):Option (alG):=match f with
|0=>none
|n+1=>(G.dU n aJ).bind λv1=>G.rZ.L1 n aJ eH v1 0 []
def G.o8.L1 (f:Nat)(aJ:alG)(eH:dR)(aG:Int):Option (Int):=match f with
|0=>none
|n+1=>cond (decide<|aG<(aJ.akj.length:Int)) (chk (0<=aG/\aG<(aJ.akj.length:Int))<|cond ((aJ.akj.getD aG.toNat default).al9==eH) (some aG)<|G.o8.L1 n aJ eH<|af .i64<|aG+1)<|some (-1)
def G.o8 (f:Nat)(aJ:alG)(eH:dR):Option (Int):=match f with
|0=>none
|n+1=>G.o8.L1 n aJ eH 0
def G.nK.L1 (f:Nat)(aJ:dR)(E5:dR)(aG:Int):Option (dR):=match f with
|0=>none
|n+1=>cond (decide<|aG<(aJ.length:Int)) (chk (0<=aG/\aG<(aJ.length:Int))<|cond (((aJ.getD aG.toNat 0).toNat:Int)==34) (chk (E5.length+1<=maxLen)<|chk (0<=aG/\aG<=(af .i64<|aG+1)/\(af .i64<|aG+1)<=(aJ.length:Int))<|chk ((E5.length+1)+((aJ.take<|(af .i64<|aG+1).toNat).drop aG.toNat).length<=maxLen)<|G.nK.L1 n aJ ((E5++[92])++((aJ.take<|(af .i64<|aG+1).toNat).drop aG.toNat))<|af .i64<|aG+1)<|chk (0<=aG/\aG<(aJ.length:Int))<|cond (((aJ.getD aG.toNat 0).toNat:Int)==92) (chk (E5.length+1<=maxLen)<|chk (0<=aG/\aG<=(af .i64<|aG+1)/\(af .i64<|aG+1)<=(aJ.length:Int))<|chk ((E5.length+1)+((aJ.take<|(af .i64<|aG+1).toNat).drop aG.toNat).length<=maxLen)<|G.nK.L1 n aJ ((E5++[92])++((aJ.take<|(af .i64<|aG+1).toNat).drop aG.toNat))<|af .i64<|aG+1)<|chk (0<=aG/\aG<=(af .i64<|aG+1)/\(af .i64<|aG+1)<=(aJ.length:Int))<|chk (E5.length+((aJ.take<|(af .i64<|aG+1).toNat).drop aG.toNat).length<=maxLen)<|G.nK.L1 n aJ (E5++((aJ.take<|(af .i64<|aG+1).toNat).drop aG.toNat))<|af .i64<|aG+1)<|chk (E5.length+1<=maxLen)<|some<|E5++[34]
def G.nK (f:Nat)(aJ:dR):Option (dR):=match f with
|0=>none
|n+1=>G.nK.L1 n aJ [34] 0
mutual
def G.gz.K7 (f:Nat)(aB:ak)(aG:Int)(aj0:dR):Option (dR):=match f with
|0=>none
|n+1=>chk (0<=aG/\aG<(aB.ajX.length:Int))<|(G.gz n<|aB.ajX.getD aG.toNat default).bind λv10=>chk (aj0.length+v10.length<=maxLen)<|G.gz.L5 n aB (aj0++v10)<|af .i64<|aG+1
def G.gz.K6 (f:Nat)(aB:ak)(aG:Int)(aay:dR):Option (dR):=match f with
|0=>none
|n+1=>cond (aB.alC==4) (chk (0<=aG/\aG<(aB.aiJ.length:Int))<|(G.nK n<|aB.aiJ.getD aG.toNat default).bind λv11=>chk (aay.length+v11.length<=maxLen)<|chk ((aay.length+v11.length)+1<=maxLen)<|G.gz.K7 n aB aG<|(aay++v11)++[58])<|G.gz.K7 n aB aG aay
def G.gz.L5 (f:Nat)(aB:ak)(MB:dR)(aG:Int):Option (dR):=match f with
|0=>none
|n+1=>cond (decide<|aG<(aB.ajX.length:Int)) (cond (decide<|0<aG) (chk (MB.length+1<=maxLen)<|G.gz.K6 n aB aG<|MB++[44])<|G.gz.K6 n aB aG MB)<|cond (aB.alC==4) (chk (1+MB.length<=maxLen)<|chk ((1+MB.length)+1<=maxLen)<|some<|(([123]++MB)++[125]))<|chk (1+MB.length<=maxLen)<|chk ((1+MB.length)+1<=maxLen)<|some<|(([91]++MB)++[93])
def G.gz (f:Nat)(aB:ak):Option (dR):=match f with
|0=>none
|n+1=>cond (aB.alC==1) ((G.lJ n aB.Num).bind λv1=>some v1)<|cond (aB.alC==2) ((G.nK n aB.amV).bind λv2=>some v2)<|cond (aB.alC==0) (some<|[110,117,108,108])<|G.gz.L5 n aB [] 0
end
def G.AB (f:Nat)(aB:Int):Option (dR):=match f with
|0=>none
|n+1=>chk (0<=(af .i64<|lU aB 4096)/\(af .i64<|lU aB 4096)<((16:Nat):Int))<|chk (0<=(kP (af .i64<|lU aB 256) 16)/\(kP (af .i64<|lU aB 256) 16)<((16:Nat):Int))<|chk (0<=(kP (af .i64<|lU aB 16) 16)/\(kP (af .i64<|lU aB 16) 16)<((16:Nat):Int))<|chk (0<=(kP aB 16)/\(kP aB 16)<((16:Nat):Int))<|chk (4<=maxLen)<|some<|[fB ((([48,49,50,51,52,53,54,55,56,57,97,98,99,100,101,102]:dR).getD (af .i64<|lU aB 4096).toNat 0).toNat),fB ((([48,49,50,51,52,53,54,55,56,57,97,98,99,100,101,102]:dR).getD (kP (af .i64<|lU aB 256) 16).toNat 0).toNat),fB ((([48,49,50,51,52,53,54,55,56,57,97,98,99,100,101,102]:dR).getD (kP (af .i64<|lU aB 16) 16).toNat 0).toNat),fB ((([48,49,50,51,52,53,54,55,56,57,97,98,99,100,101,102]:dR).getD (kP aB 16).toNat 0).toNat)]
def G.rf.L1 (f:Nat)(aJ:dR)(ao1:Int)(aG:Int):Option (Int):=match f with
|0=>none
|n+1=>cond (decide<|aG<(aJ.length:Int)) (chk (0<=aG/\aG<(aJ.length:Int))<|G.rf.L1 n aJ (kP (af .i64<|(af .i64<|131*ao1)+(af .i64<|((aJ.getD aG.toNat 0).toNat:Int))) 65521)<|af .i64<|aG+1)<|some ao1
def G.rf (f:Nat)(aJ:dR):Option (Int):=match f with
|0=>none
|n+1=>G.rf.L1 n aJ 17 0
def G.uf (f:Nat)(aJ:alG)(eH:dR):Option (dR):=match f with
|0=>none
|n+1=>(G.o8 n aJ eH).bind λv1=>cond (decide<|v1<0) (some<|[])<|chk (0<=v1/\v1<(aJ.akj.length:Int))<|(G.gz n<|(aJ.akj.getD v1.toNat default).am4).bind λv2=>(G.rf n v2).bind λv3=>(G.AB n v3).bind λv4=>some v4
mutual
def G.lW.K4 (f:Nat)(aJ:alG)(eH:dR)(v1:ak)(v2:alG)(aG:Int)(afs:Bool)(z5:List bg):Option (alG):=match f with
|0=>none
|n+1=>chk (0<=aG/\aG<(v2.akj.length:Int))<|cond ((v2.akj.getD aG.toNat default).al9==eH) (G.lW.L3 n aJ eH v1 v2 afs (af .i64<|aG+1) z5)<|chk (0<=aG/\aG<(v2.akj.length:Int))<|chk ((z5.length+1)*112<=2^46)<|G.lW.L3 n aJ eH v1 v2 afs (af .i64<|aG+1)<|z5++[(bg.mk ((v2.akj.getD aG.toNat default).al9) ((v2.akj.getD aG.toNat default).amX)<|(v2.akj.getD aG.toNat default).am4)]
def G.lW.L3 (f:Nat)(aJ:alG)(eH:dR)(v1:ak)(v2:alG)(afr:Bool)(aG:Int)(z4:List bg):Option (alG):=match f with
|0=>none
|n+1=>cond (decide<|aG<(v2.akj.length:Int)) (cond afr (G.lW.K4 n aJ eH v1 v2 aG true z4)<|chk (0<=aG/\aG<(v2.akj.length:Int))<|cond (iw ((v2.akj.getD aG.toNat default).al9) eH) (G.lW.K4 n aJ eH v1 v2 aG false z4)<|chk ((z4.length+1)*112<=2^46)<|G.lW.K4 n aJ eH v1 v2 aG true<|z4++[(bg.mk eH (af .i64<|aJ.amJ+1) v1)])<|cond afr (some<|(alG.mk z4<|af .i64<|aJ.amJ+1))<|chk ((z4.length+1)*112<=2^46)<|some<|(alG.mk (z4++[(bg.mk eH (af .i64<|aJ.amJ+1) v1)])<|af .i64<|aJ.amJ+1)
end
def G.lW (f:Nat)(aJ:alG)(eH:dR)(aB:ak):Option (alG):=match f with
|0=>none
|n+1=>(G.bG n aB).bind λv1=>(G.dU n aJ).bind λv2=>G.lW.L3 n aJ eH v1 v2 false 0 []
def G.iO.L1 (f:Nat)(aJ:dR)(aG:Int):Option (Bool):=match f with
|0=>none
|n+1=>cond (decide<|aG<(aJ.length:Int)) (chk (0<=aG/\aG<(aJ.length:Int))<|(G.gu n (af .i64<|((aJ.getD aG.toNat 0).toNat:Int)) 97 122).bind λv5=>cond v5 (G.iO.L1 n aJ<|af .i64<|aG+1)<|chk (0<=aG/\aG<(aJ.length:Int))<|(G.gu n (af .i64<|((aJ.getD aG.toNat 0).toNat:Int)) 48 57).bind λv6=>cond v6 (G.iO.L1 n aJ<|af .i64<|aG+1)<|some false)<|(G.gu n (aJ.length:Int) 1 8).bind λv7=>some v7
def G.iO (f:Nat)(aJ:dR):Option (Bool):=match f with
|0=>none
|n+1=>G.iO.L1 n aJ 0
def G.dF.L1 (f:Nat)(aJ:alG)(aG:Int):Option (Bool):=match f with
|0=>none
|n+1=>cond (decide<|aG<(aJ.akj.length:Int)) (chk (0<=aG/\aG<(aJ.akj.length:Int))<|(G.iO n<|(aJ.akj.getD aG.toNat default).al9).bind λv7=>cond v7 ((G.fZ n<|(aJ.akj.getD aG.toNat default).am4).bind λv8=>cond v8 ((G.gu n ((aJ.akj.getD aG.toNat default).amX) 1 aJ.amJ).bind λv9=>cond v9 (cond (decide<|0<aG) (chk (0<=(af .i64<|aG-1)/\(af .i64<|aG-1)<(aJ.akj.length:Int))<|cond (iw ((aJ.akj.getD aG.toNat default).al9)<|(aJ.akj.getD (af .i64<|aG-1).toNat default).al9) (some false)<|cond ((aJ.akj.getD aG.toNat default).al9==(aJ.akj.getD (af .i64<|aG-1).toNat default).al9) (some false)<|G.dF.L1 n aJ<|af .i64<|aG+1)<|G.dF.L1 n aJ<|af .i64<|aG+1)<|some false)<|some false)<|some false)<|cond (decide<|(aJ.akj.length:Int)<=10) ((G.gu n aJ.amJ 0 999).bind λv10=>some v10)<|some false
def G.dF (f:Nat)(aJ:alG):Option (Bool):=match f with
|0=>none
|n+1=>G.dF.L1 n aJ 0
def G.lT.K1 (f:Nat)(aJ:alG)(eH:dR)(aB:ak)(ahf:Int):Option (alG×aI):=match f with
|0=>none
|n+1=>(G.lW n aJ eH aB).bind λv2=>(G.dF n v2).bind λv3=>cond v3 ((G.uf n v2 eH).bind λv4=>some (v2,(aI.mk ahf v4 v2.amJ<|ak.mk 0 0 [] [] [])))<|(G.dU n aJ).bind λv5=>(G.lI n 422).bind λv6=>some (v5,v6)
def G.lT (f:Nat)(aJ:alG)(eH:dR)(aB:ak):Option (alG×aI):=match f with
|0=>none
|n+1=>(G.o8 n aJ eH).bind λv7=>cond (decide<|v7<0) (G.lT.K1 n aJ eH aB 201)<|G.lT.K1 n aJ eH aB 200
def G.ja.K1 (f:Nat)(aJ:alG)(fJ:akh)(ajZ:Bool)(y1:Int)(y2:Int)(y3:dR)(y4:List dR)(y5:List ak):Option (alG×aI):=match f with
|0=>none
|n+1=>cond ajZ ((G.lT n aJ fJ.al9<|ak.mk y1 y2 y3 y4 y5).bind λv17=>some (v17.1,v17.2))<|(G.dU n aJ).bind λv18=>(G.lI n 422).bind λv19=>some (v18,v19)
def G.ja.K2 (f:Nat)(aJ:alG)(fJ:akh)(ao2:Bool)(y6:Int)(y7:Int)(y8:dR)(y9:List dR)(Vk:List ak):Option (alG×aI):=match f with
|0=>none
|n+1=>cond ao2 ((G.lT n aJ fJ.al9<|ak.mk y6 y7 y8 y9 Vk).bind λv34=>some (v34.1,v34.2))<|(G.dU n aJ).bind λv35=>(G.lI n 422).bind λv36=>some (v35,v36)
def G.ja (f:Nat)(aJ:alG)(fJ:akh):Option (alG×aI):=match f with
|0=>none
|n+1=>(G.o8 n aJ fJ.al9).bind λv1=>cond (decide<|v1<0) (cond (fJ.amI != 2) ((G.dU n aJ).bind λv2=>(G.lI n 404).bind λv3=>some (v2,v3))<|(G.uf n aJ fJ.al9).bind λv4=>(G.vP n fJ.anx fJ.lY v4<|fJ.amI==1).bind λv5=>cond (v5 != 200) ((G.dU n aJ).bind λv6=>(G.lI n v5).bind λv7=>some (v6,v7))<|cond (fJ.amI==1) ((G.dU n aJ).bind λv8=>(G.uf n aJ fJ.al9).bind λv9=>chk (0<=v1/\v1<(aJ.akj.length:Int))<|chk (0<=v1/\v1<(aJ.akj.length:Int))<|(G.bG n<|(aJ.akj.getD v1.toNat default).am4).bind λv10=>some (v8,(aI.mk v5 v9 ((aJ.akj.getD v1.toNat default).amX) v10)))<|cond (fJ.amI==2) ((G.lT n aJ fJ.al9 fJ.Body).bind λv11=>some (v11.1,v11.2))<|cond (fJ.amI==3) (cond (aJ.amJ==999) ((G.dU n aJ).bind λv12=>(G.lI n 422).bind λv13=>some (v12,v13))<|(G.rZ n aJ fJ.al9).bind λv14=>some (v14,(aI.mk v5 [] (af .i64<|aJ.amJ+1)<|ak.mk 0 0 [] [] [])))<|chk (0<=v1/\v1<(aJ.akj.length:Int))<|(G.jy n ((aJ.akj.getD v1.toNat default).am4) fJ.Ops).bind λv15=>cond (fJ.amI==5) (chk (0<=v1/\v1<(aJ.akj.length:Int))<|(G.qW n ((aJ.akj.getD v1.toNat default).am4) fJ.Body).bind λv20=>G.ja.K1 n aJ fJ v20.2 v20.1.alC v20.1.Num v20.1.amV v20.1.aiJ v20.1.ajX)<|G.ja.K1 n aJ fJ v15.2 v15.1.alC v15.1.Num v15.1.amV v15.1.aiJ v15.1.ajX)<|(G.uf n aJ fJ.al9).bind λv21=>(G.vP n fJ.anx fJ.lY v21<|fJ.amI==1).bind λv22=>cond (v22 != 200) ((G.dU n aJ).bind λv23=>(G.lI n v22).bind λv24=>some (v23,v24))<|cond (fJ.amI==1) ((G.dU n aJ).bind λv25=>(G.uf n aJ fJ.al9).bind λv26=>chk (0<=v1/\v1<(aJ.akj.length:Int))<|chk (0<=v1/\v1<(aJ.akj.length:Int))<|(G.bG n<|(aJ.akj.getD v1.toNat default).am4).bind λv27=>some (v25,(aI.mk v22 v26 ((aJ.akj.getD v1.toNat default).amX) v27)))<|cond (fJ.amI==2) ((G.lT n aJ fJ.al9 fJ.Body).bind λv28=>some (v28.1,v28.2))<|cond (fJ.amI==3) (cond (aJ.amJ==999) ((G.dU n aJ).bind λv29=>(G.lI n 422).bind λv30=>some (v29,v30))<|(G.rZ n aJ fJ.al9).bind λv31=>some (v31,(aI.mk v22 [] (af .i64<|aJ.amJ+1)<|ak.mk 0 0 [] [] [])))<|chk (0<=v1/\v1<(aJ.akj.length:Int))<|(G.jy n ((aJ.akj.getD v1.toNat default).am4) fJ.Ops).bind λv32=>cond (fJ.amI==5) (chk (0<=v1/\v1<(aJ.akj.length:Int))<|(G.qW n ((aJ.akj.getD v1.toNat default).am4) fJ.Body).bind λv37=>G.ja.K2 n aJ fJ v37.2 v37.1.alC v37.1.Num v37.1.amV v37.1.aiJ v37.1.ajX)<|G.ja.K2 n aJ fJ v32.2 v32.1.alC v32.1.Num v32.1.amV v32.1.aiJ v32.1.ajX
def G.lu.L1 (f:Nat)(aJ:dR)(aG:Int):Option (Bool):=match f with
|0=>none
|n+1=>cond (decide<|aG<(aJ.length:Int)) (chk (0<=aG/\aG<(aJ.length:Int))<|(G.gu n (af .i64<|((aJ.getD aG.toNat 0).toNat:Int)) 48 57).bind λv5=>cond v5 (G.lu.L1 n aJ<|af .i64<|aG+1)<|chk (0<=aG/\aG<(aJ.length:Int))<|(G.gu n (af .i64<|((aJ.getD aG.toNat 0).toNat:Int)) 97 102).bind λv6=>cond v6 (G.lu.L1 n aJ<|af .i64<|aG+1)<|some false)<|some<|((aJ.length:Int)==4)
def G.lu (f:Nat)(aJ:dR):Option (Bool):=match f with
|0=>none
|n+1=>G.lu.L1 n aJ 0
def G.jA.L1 (f:Nat)(aH:List dR)(aG:Int):Option (Bool):=match f with
|0=>none
|n+1=>cond (decide<|aG<(aH.length:Int)) (chk (0<=aG/\aG<(aH.length:Int))<|cond ((aH.getD aG.toNat default)==[42]) (G.jA.L1 n aH<|af .i64<|aG+1)<|chk (0<=aG/\aG<(aH.length:Int))<|(G.lu n<|aH.getD aG.toNat default).bind λv3=>cond v3 (G.jA.L1 n aH<|af .i64<|aG+1)<|some false)<|some<|(decide<|(aH.length:Int)<=4)
def G.jA (f:Nat)(aH:List dR):Option (Bool):=match f with
|0=>none
|n+1=>G.jA.L1 n aH 0
def G.jB (f:Nat)(fJ:akh):Option (Bool):=match f with
|0=>none
|n+1=>(G.gu n fJ.amI 1 5).bind λv1=>cond v1 ((G.iO n fJ.al9).bind λv2=>cond v2 ((G.jA n fJ.anx).bind λv3=>cond v3 ((G.jA n fJ.lY).bind λv4=>cond v4 ((G.fZ n fJ.Body).bind λv5=>cond v5 ((G.fE n fJ.Ops).bind λv6=>some v6)<|some false)<|some false)<|some false)<|some false)<|some false
def G.jY (f:Nat)(aJ:alG)(fJ:akh):Option (alG×aI):=match f with
|0=>none
|n+1=>(G.dF n aJ).bind λv1=>cond v1 ((G.jB n fJ).bind λv2=>cond v2 ((G.ja n aJ fJ).bind λv3=>some (v3.1,v3.2))<|(G.lI n 400).bind λv4=>some ((alG.mk [] 0),v4))<|(G.lI n 400).bind λv5=>some ((alG.mk [] 0),v5)
section
theorem bz {a b:Prop}(x:a)(y:b):a/\b:=⟨x,y⟩
theorem aiX {α β:Type}(f:α->β)(l:List α)(n:Nat):List.take n (List.map f l)=List.map f (List.take n l):=List.map_take.symm
theorem aiW {α β:Type}(f:α->β)(l:List α)(n:Nat):List.drop n (List.map f l)=List.map f (List.drop n l):=List.map_drop.symm
theorem kq1 {i:Int}{m:Nat}[inst:Decidable (0<=i/\i<(m:Int))]{α:Type}{k:Option α}{r:α}(h:chk (0<=i/\i<(m:Int)) k=some r):(0<=i/\i<(m:Int))/\i.toNat<m/\k=some r:=by obtain⟨h1,h2⟩:=Eg.1 h;exact⟨h1,by omega,h2⟩
inductive Mk : Nat->Prop
 |mk (n:Nat):Mk n
theorem kq0 {m:Nat}[inst:Decidable ((0:Nat)<=0/\(0:Int)<(m:Int))]{α:Type}{k:Option α}{r:α}(h:chk ((0:Nat)<=0/\(0:Int)<(m:Int)) k=some r):(0:Int)<(m:Int)/\0<m/\k=some r:=by obtain⟨h1,h2⟩:=Eg.1 h;exact⟨h1.2,by omega,h2⟩
theorem kqn {j m:Nat}[inst:Decidable ((0:Nat)<=OfNat.ofNat j/\(OfNat.ofNat j:Int)<(m:Int))]{α:Type}{k:Option α}{r:α}(h:chk ((0:Nat)<=OfNat.ofNat j/\(OfNat.ofNat j:Int)<(m:Int)) k=some r):(OfNat.ofNat j:Int)<(m:Int)/\(OfNat.ofNat j:Nat)<m/\k=some r:=by obtain⟨h1,h2⟩:=Eg.1 h;exact⟨h1.2,Int.ofNat_lt.1 h1.2,h2⟩
theorem kq {c:Prop}[Decidable c]{α:Type}{k:Option α}{r:α}(h:chk c k=some r):c/\k=some r:=Eg.1 h
theorem bq {α β:Type}{x:Option α}{f:α->Option β}{r:β}(h:Option.bind x f=some r):∃a,x=some a/\f a=some r:=Option.bind_eq_some_iff.1 h
section
variable {P:Program} {Q:AQ} {st:fH}
theorem adK {f:FuncId}{wC:List AV}{p:Bool}{d:Option Nat}{K:List Nat->List Nat->fH->Prop}{du:DU K}(k:wR P f wC p d st K du):wR P f wC p d st K du:=k
theorem aiw {a:AQ->fH->Prop}{d1:DU a}{d2:DU Q}(k:Lm a Q st d1 d2):Lm a Q st d1 d2:=k
theorem alU {a b:AQ->fH->Prop}{d1:DU a}{d2:DU b}{d3:DU Q}(k:QB a b Q st d1 d2 d3):QB a b Q st d1 d2 d3:=k
theorem aov {X:Type}{p:X->Prop}(k:∃x,p x):∃x,p x:=k
theorem alV {rs:List yx}{r:AV}(k:UX rs r st):UX rs r st:=k
theorem aiy {rs:List yx}{m:Nat}{post:AV->List Box->Prop}(k:MJ rs m post st):MJ rs m post st:=k
end
theorem sq {α:Type}{x r:α}(h:some x=some r):r=x:=(Option.some.inj h).symm
theorem cq {b:Bool}{α:Type}{x y:Option α}{r:α}(h:cond b x y=some r):(b=true/\x=some r)\/(b=false/\y=some r):=afZ.1 h
def egD :=bz @ahc (bz @ajU (bz @ahb (bz @ajW (bz @ajT (bz @aha (bz @aet (bz @ag9 (bz @ajV (bz @ag8 (bz @akM (bz @akL (bz @afB (bz @afA (bz @afC (bz @afy (bz @afx (bz @afz (bz @acQ (bz @acP (bz @acR (bz @akt (bz @aku (bz @akr (bz @aks (bz @aew (bz @acF (bz @ajY (bz @ahe (bz @amj (bz @anT (bz @anS (bz @aml (bz @aky (bz @ahu (bz @afF (bz @aht (bz @Qr.eq_1 (bz @Qr.eq_2 (bz @FP.eq_1 (bz @FP.eq_2 (bz @st0.eq_1 (bz @EH.eq_1 (bz @EH.eq_2 (bz @uA.eq_1 (bz @uA.eq_2 (bz @ny.valid.eq_1 (bz @ny.valid.eq_2 (bz @dZ.eq_1 (bz @apm (bz @apl (bz @g_v (bz @x_v (bz @KT (bz @Ff (bz @am7 (bz @alf (bz @ale (bz @BF.eq_1 (bz @BF.eq_2 (bz @uq.eq_1 (bz @uq.eq_2 (bz @abw.eq_1 (bz @abw.eq_2 (bz @setB.eq_1 (bz @setB.eq_2 (bz @agH (bz @agI (bz @agV (bz @aeg (bz @FR.ok.eq_1 (bz @UY.eq_1 (bz @UY.eq_2 (bz @UY.eq_3 (bz @AV.flat.eq_1 (bz @AV.flat.eq_2 (bz @AV.cells.eq_1 (bz @AV.cells.eq_2 (bz @AV.cells.eq_3 (bz @Ba.eq_1 (bz @Ba.eq_2 (bz @Ba.eq_3 (bz @Ba.eq_4 (bz @Z8.eq_1 (bz @WC.eq_1 (bz @WC.eq_2 (bz @splice.eq_1 (bz @Box.arr.eq_1 (bz @Box.arr.eq_2 (bz @Box.arr.eq_3 (bz @dataOf.eq_1 (bz @dataOf.eq_2 (bz @dataOf.eq_3 (bz @dataOf.eq_4 (bz @MQ.eq_1 (bz @MQ.eq_2 (bz @bnd.eq_1 (bz @bnd.eq_2 (bz @UO.eq_1 (bz @UO.eq_2 (bz @aiP (bz @aiO (bz @Me.eq_1 (bz @xW.eq_1 (bz @vz.eq_1 (bz @vSl.eq_1 (bz @Em.eq_1 (bz @Em.eq_2 (bz @Em.eq_3 (bz @Il.eq_1 (bz @Il.eq_2 (bz @Il.eq_3 (bz @zY.eq_1 (bz @zY.eq_2 (bz @zY.eq_3 (bz @AZ.eq_1 (bz @AZ.eq_2 (bz @AZ.eq_3 (bz @AV.owns.eq_1 (bz @AV.owns.eq_2 (bz @AV.owns.eq_3 (bz @qg.eq_1 (bz @qg.eq_2 (bz @qg.eq_3 (bz @AC.yA.eq_1 (bz @AC.yA.eq_2 (bz @AC.yA.eq_3 (bz @AC.isLit.eq_1 (bz @AC.isLit.eq_2 (bz @AV.all.eq_1 (bz @AV.all.eq_2 (bz @AV.all.eq_3 (bz @Cell.isLit.eq_1 (bz @Cell.isLit.eq_2 (bz @List.mem_cons.{0} (bz @List.not_mem_nil.{0} (bz @or_false (bz @false_or (bz @or_true (bz @true_or (bz @forall_eq.{1} (bz @forall_eq_or_imp.{1} (bz @true_and (bz @and_true (bz @true_implies (bz @false_implies (bz @implies_true.{1} (bz @if_true.{1} (bz @if_false.{1} (bz @Bool.false_eq_true (bz @Bool.true_eq_false (bz @imp_self (bz @and_self (bz @cond_true.{1} (bz @cond_false.{1} (bz @List.map_cons.{0,0} (bz @List.map_nil.{0,0} (bz @List.take_succ_cons.{0} (bz @List.take_zero.{0} (bz @List.drop_succ_cons.{0} (bz @List.drop_zero.{0} (bz @List.take_nil.{0} (bz @List.drop_nil.{0} (bz @List.cons_append.{0} (bz @List.nil_append.{0} (bz @List.append_nil.{0} (bz @List.length_cons.{0} (bz @List.length_nil.{0} (bz @List.getElem?_cons_zero.{0} (bz @List.getElem?_cons_succ.{0} (bz @List.length_map.{0,0} (bz @List.length_replicate.{0} (bz @List.length_append.{0} (bz @List.map_append.{0,0} (bz @List.flatMap_cons.{0,0} (bz @List.flatMap_nil.{0,0} (bz @List.all_cons.{0} (bz @List.all_nil.{0} (bz @List.contains_cons.{0} (bz @List.contains_nil.{0} (bz @Bool.and_true (bz @Bool.or_false (bz @Bool.false_or (bz @Bool.true_or (bz @Bool.or_true (bz @Bool.and_self (bz @Bool.not_false (bz @Bool.not_true (bz @Bool.true_and (bz @Bool.false_and (bz @Bool.and_false (bz @Nat.zero_lt_succ (bz @Nat.zero_le (bz @Nat.zero_add (bz @Nat.le_refl (bz @Nat.min_self (bz @apg (bz @apf (bz @decide_true (bz @decide_false (bz @aaT.eq_1 (bz @aaT.eq_2 (bz @aao.eq_1 (bz @aao.eq_2 (bz @X5.eq_1 (bz @X5.eq_2 (bz @X5.eq_3 (bz @QS.eq_1 (bz @QS.eq_2 (bz @LK.eq_1 (bz @LK.eq_2 (bz @Q5.eq_1 (bz @Q5.eq_2 (bz @ZZ.eq_1 (bz @FO.eq_1 (bz @FO.eq_2 (bz @FO.eq_3 (bz @cI.eq_1 (bz @cU.eq_1 (bz @cB.eq_1 (bz @cS.eq_1 (bz @cL.eq_1 (bz @cK.eq_1 (bz @ak.gy (bz @pW.gy (bz @alG.gy (bz @bg.gy (bz @akh.gy (bz @aI.gy (bz @List.getD_cons_zero.{0} (bz @List.getD_cons_succ.{0} (bz @List.map_set.{0,0} (bz @List.length_set.{0} (bz @agb (bz @take_len (bz @O7 (bz @O8 (bz @ae6 (bz @WL.eq_1 (bz @WL.eq_2 (bz @ah2 (bz @JY.eq_1 (bz @JY.eq_2 (bz @ac5 (bz @H9 (bz @aaX (bz @aaY (bz @Option.map_some.{0,0} (bz @Int.toNat_natCast (bz @Int.toNat_zero (bz @aiX (bz @aiW (bz @bne_self_eq_false.{0} (bz @Bool.bne_true (bz @Bool.bne_false (bz @List.drop_replicate.{0} (bz @Nat.sub_self (bz @JX.eq_1 (bz @JX.eq_2 (bz @JX.eq_3 (bz @Option.toList_none.{0} (bz @Option.toList_some.{0} (bz @ZB.eq_1 (bz @wB.eq_1 (bz @wB.eq_2 (bz @Ci.eq_1 (bz @Ci.eq_2 (bz @eq_self.{1} (bz @List.replicate_zero.{0} (bz @List.replicate_succ.{0} (bz @QW.eq_1 (bz @QW.eq_2 (bz @Az.eq_1 (bz @Az.eq_2 (bz @List.set_cons_zero.{0} (bz @List.set_cons_succ.{0} (bz @amz (bz @EU.eq_1 (bz @EU.eq_2 (bz @FH.eq_1 (bz @FH.eq_2 (bz @FH.eq_3 (bz @List.zip_cons_cons.{0,0} (bz @List.zip_nil_right.{0,0} (bz @List.zip_nil_left.{0,0} (bz @beq_self_eq_true.{0} @Nat.add_zero)))))))))))))))))))))))))))))))))))))))))))))))))))))))))))))))))))))))))))))))))))))))))))))))))))))))))))))))))))))))))))))))))))))))))))))))))))))))))))))))))))))))))))))))))))))))))))))))))))))))))))))))))))))))))))))))))))))))))))))))))))))))))))))))))))))))))))))))))))))))))))))
theorem egR : type_of% egD:=egD
def wkD :=bz @XQ.eq_1 (bz @XQ.eq_2 (bz @acD.eq_1 (bz @acD.eq_2 (bz @Yi.eq_1 (bz @Yi.eq_2 (bz @Yi.eq_3 (bz @wkV.eq_1 (bz @wkV.eq_2 (bz @wkV.eq_3 (bz @wkV.eq_4 (bz @Qu.eq_1 (bz @Qu.eq_2 (bz @Qu.eq_3 (bz @XY.eq_1 (bz @XY.eq_2 (bz @BF.eq_1 (bz @BF.eq_2 (bz @uq.eq_1 (bz @uq.eq_2 (bz @true_and (bz @and_true (bz @implies_true.{1} (bz @List.mem_cons.{0} (bz @List.not_mem_nil.{0} (bz @or_false (bz @or_true (bz @true_or (bz @Box.arr.eq_1 (bz @Box.arr.eq_2 (bz @Box.arr.eq_3 (bz @Me.eq_1 (bz @xW.eq_1 (bz @vz.eq_1 (bz @vSl.eq_1 (bz @not_false_eq_true (bz @false_or (bz @Option.some.injEq.{0} (bz @true_implies (bz @cI.eq_1 (bz @cU.eq_1 (bz @cB.eq_1 (bz @cS.eq_1 (bz @cL.eq_1 (bz @cK.eq_1 (bz @ak.gy (bz @pW.gy (bz @alG.gy (bz @bg.gy (bz @akh.gy (bz @aI.gy (bz @List.map_append.{0,0} (bz @List.map_cons.{0,0} (bz @List.map_nil.{0,0} (bz @List.map_set.{0,0} (bz @List.map_take.{0,0} (bz @List.map_drop.{0,0} (bz @List.map_replicate.{0,0} (bz @List.length_append.{0} (bz @List.length_cons.{0} (bz @List.length_nil.{0} (bz @List.length_map.{0,0} (bz @List.length_set.{0} (bz @List.length_replicate.{0} (bz @Nat.zero_add (bz @Nat.add_zero (bz @List.nil_append.{0} (bz @List.cons_append.{0} (bz @List.append_nil.{0} (bz @take_len (bz @O7 (bz @O8 @and_self)))))))))))))))))))))))))))))))))))))))))))))))))))))))))))))))))))))))
theorem wkR : type_of% wkD:=wkD
def peD :=bz @UX.eq_1 (bz @Jp.eq_1 (bz @Jp.eq_2 (bz @yx.ok.eq_1 (bz @yx.ok.eq_2 (bz @yx.val.eq_1 (bz @yx.val.eq_2 (bz @Yb.eq_1 (bz @Yb.eq_2 (bz @Bi.eq_1 (bz @Bi.eq_2 (bz @partOf.eq_1 (bz @partOf.eq_2 (bz @partOf.eq_3 (bz @KT (bz @Ff (bz @Qi (bz @g_v (bz @x_v (bz @AV.flat.eq_1 (bz @AV.flat.eq_2 (bz @Ba.eq_1 (bz @Ba.eq_2 (bz @Ba.eq_3 (bz @Ba.eq_4 (bz @BF.eq_1 (bz @BF.eq_2 (bz @uq.eq_1 (bz @uq.eq_2 (bz @dV.eq_1 (bz @dV.eq_2 (bz @dV.eq_3 (bz @dV.eq_4 (bz @dC.eq_1 (bz @dC.eq_2 (bz @dC.eq_3 (bz @dC.eq_4 (bz @dCs.eq_1 (bz @dCs.eq_2 (bz @dCs.eq_3 (bz @dPs.eq_1 (bz @dPs.eq_2 (bz @dPs.eq_3 (bz @Box.arr.eq_1 (bz @Box.arr.eq_2 (bz @Box.arr.eq_3 (bz @List.take_succ_cons.{0} (bz @List.take_zero.{0} (bz @List.drop_zero.{0} (bz @List.drop_succ_cons.{0} (bz @List.length_cons.{0} (bz @List.length_nil.{0} (bz @List.getElem?_cons_zero.{0} (bz @List.getElem?_cons_succ.{0} (bz @true_and (bz @and_true (bz @Nat.zero_add (bz @xW.eq_1 (bz @vz.eq_1 (bz @Me.eq_1 (bz @vSl.eq_1 (bz @FR.ok.eq_1 (bz @cI.eq_1 (bz @cU.eq_1 (bz @cB.eq_1 (bz @cS.eq_1 (bz @cL.eq_1 (bz @cK.eq_1 (bz @ak.gy (bz @pW.gy (bz @alG.gy (bz @bg.gy (bz @akh.gy (bz @aI.gy (bz @List.map_append.{0,0} (bz @List.map_cons.{0,0} (bz @List.map_nil.{0,0} (bz @List.map_set.{0,0} (bz @List.map_take.{0,0} (bz @List.map_drop.{0,0} (bz @List.map_replicate.{0,0} (bz @List.length_append.{0} (bz @List.length_map.{0,0} (bz @List.length_set.{0} (bz @List.length_replicate.{0} (bz @Nat.add_zero (bz @List.nil_append.{0} (bz @List.cons_append.{0} (bz @List.append_nil.{0} (bz @take_len (bz @O7 (bz @O8 (bz @and_self @H9))))))))))))))))))))))))))))))))))))))))))))))))))))))))))))))))))))))))))))))))))))))))))))
theorem peR : type_of% peD:=peD
def rwD :=bz @XQ.eq_1 (bz @XQ.eq_2 (bz @acD.eq_1 (bz @acD.eq_2 (bz @Yi.eq_1 (bz @Yi.eq_2 (bz @Yi.eq_3 (bz @wkV.eq_1 (bz @wkV.eq_2 (bz @wkV.eq_3 (bz @wkV.eq_4 (bz @Qu.eq_1 (bz @Qu.eq_2 (bz @Qu.eq_3 (bz @XY.eq_1 (bz @XY.eq_2 (bz @BF.eq_1 (bz @BF.eq_2 (bz @uq.eq_1 (bz @uq.eq_2 (bz @true_and (bz @and_true (bz @implies_true.{1} (bz @List.mem_cons.{0} (bz @List.not_mem_nil.{0} (bz @or_false (bz @or_true (bz @true_or (bz @Box.arr.eq_1 (bz @Box.arr.eq_2 (bz @Box.arr.eq_3 (bz @Me.eq_1 (bz @xW.eq_1 (bz @vz.eq_1 (bz @vSl.eq_1 (bz @not_false_eq_true (bz @false_or (bz @Option.some.injEq.{0} (bz @true_implies (bz @cI.eq_1 (bz @cU.eq_1 (bz @cB.eq_1 (bz @cS.eq_1 (bz @cL.eq_1 (bz @cK.eq_1 (bz @ak.gy (bz @pW.gy (bz @alG.gy (bz @bg.gy (bz @akh.gy (bz @aI.gy (bz @List.map_append.{0,0} (bz @List.map_cons.{0,0} (bz @List.map_nil.{0,0} (bz @List.map_set.{0,0} (bz @List.map_take.{0,0} (bz @List.map_drop.{0,0} (bz @List.map_replicate.{0,0} (bz @List.length_append.{0} (bz @List.length_cons.{0} (bz @List.length_nil.{0} (bz @List.length_map.{0,0} (bz @List.length_set.{0} (bz @List.length_replicate.{0} (bz @Nat.zero_add (bz @Nat.add_zero (bz @List.nil_append.{0} (bz @List.cons_append.{0} (bz @List.append_nil.{0} (bz @take_len (bz @O7 (bz @O8 (bz @and_self (bz @FP.eq_1 (bz @FP.eq_2 (bz @Yh.eq_1 (bz @Yh.eq_2 (bz @Yh.eq_3 (bz @UX.eq_1 (bz @Jp.eq_1 (bz @Jp.eq_2 (bz @yx.ok.eq_1 (bz @yx.ok.eq_2 (bz @yx.val.eq_1 (bz @yx.val.eq_2 (bz @Yb.eq_1 (bz @Yb.eq_2 (bz @Bi.eq_1 (bz @Bi.eq_2 (bz @partOf.eq_1 (bz @partOf.eq_2 (bz @partOf.eq_3 (bz @KT (bz @Ff (bz @Qi (bz @g_v (bz @x_v (bz @AV.flat.eq_1 (bz @AV.flat.eq_2 (bz @Ba.eq_1 (bz @Ba.eq_2 (bz @Ba.eq_3 (bz @Ba.eq_4 (bz @dV.eq_1 (bz @dV.eq_2 (bz @dV.eq_3 (bz @dV.eq_4 (bz @dC.eq_1 (bz @dC.eq_2 (bz @dC.eq_3 (bz @dC.eq_4 (bz @dCs.eq_1 (bz @dCs.eq_2 (bz @dCs.eq_3 (bz @dPs.eq_1 (bz @dPs.eq_2 (bz @dPs.eq_3 (bz @List.take_succ_cons.{0} (bz @List.take_zero.{0} (bz @List.drop_zero.{0} (bz @List.drop_succ_cons.{0} (bz @List.getElem?_cons_zero.{0} (bz @List.getElem?_cons_succ.{0} (bz @FR.ok.eq_1 @H9)))))))))))))))))))))))))))))))))))))))))))))))))))))))))))))))))))))))))))))))))))))))))))))))))))))))))))))))))))))))))))
theorem rwR : type_of% rwD:=rwD
def lnD :=bz @Em.eq_1 (bz @Em.eq_2 (bz @Em.eq_3 (bz @Il.eq_1 (bz @Il.eq_2 (bz @Il.eq_3 (bz @zY.eq_1 (bz @zY.eq_2 (bz @zY.eq_3 (bz @AZ.eq_1 (bz @AZ.eq_2 (bz @AZ.eq_3 (bz @Ff (bz @uq.eq_1 (bz @uq.eq_2 (bz @Box.arr.eq_1 (bz @Box.arr.eq_2 (bz @Box.arr.eq_3 (bz @AV.cells.eq_1 (bz @AV.cells.eq_2 (bz @AV.cells.eq_3 (bz @List.map_cons.{0,0} (bz @List.map_nil.{0,0} (bz @List.length_map.{0,0} (bz @List.length_append.{0} (bz @List.length_cons.{0} (bz @List.length_nil.{0} (bz @List.length_replicate.{0} (bz @List.length_set.{0} (bz @take_len (bz @O7 (bz @O8 (bz @true_and (bz @and_true (bz @and_self (bz @Nat.le_refl (bz @Nat.zero_add (bz @Nat.add_zero (bz @xW.eq_1 (bz @vz.eq_1 (bz @Me.eq_1 (bz @vSl.eq_1 (bz @cI.eq_1 (bz @cU.eq_1 (bz @cB.eq_1 (bz @cS.eq_1 (bz @cL.eq_1 (bz @cK.eq_1 (bz @List.map_append.{0,0} (bz @List.cons_append.{0} (bz @List.nil_append.{0} (bz @ak.gy (bz @pW.gy (bz @alG.gy (bz @bg.gy (bz @akh.gy @aI.gy)))))))))))))))))))))))))))))))))))))))))))))))))))))))
theorem lnR : type_of% lnD:=lnD
def ggD :=bz @Ye.eq_1 (bz @Ye.eq_2 (bz @Ya.eq_1 (bz @Ya.eq_2 (bz @Ff (bz @uq.eq_1 (bz @uq.eq_2 (bz @EU.eq_1 (bz @EU.eq_2 (bz @List.getD_cons_zero.{0} (bz @List.getD_cons_succ.{0} (bz @List.cons_append.{0} (bz @List.nil_append.{0} (bz @List.append_nil.{0} (bz @List.map_cons.{0,0} (bz @List.map_nil.{0,0} (bz @List.map_append.{0,0} (bz @List.map_set.{0,0} (bz @List.length_append.{0} (bz @List.length_cons.{0} (bz @List.length_nil.{0} (bz @List.length_map.{0,0} (bz @List.length_set.{0} (bz @List.length_replicate.{0} (bz @List.replicate_zero.{0} (bz @List.replicate_succ.{0} (bz @List.map_replicate.{0,0} (bz @Nat.zero_add (bz @Nat.add_zero (bz @FH.eq_1 (bz @FH.eq_2 (bz @FH.eq_3 (bz @and_self (bz @and_true (bz @true_and (bz @cI.eq_1 (bz @cU.eq_1 (bz @cB.eq_1 (bz @cS.eq_1 (bz @cL.eq_1 (bz @cK.eq_1 (bz @ak.gy (bz @pW.gy (bz @alG.gy (bz @bg.gy (bz @akh.gy @aI.gy)))))))))))))))))))))))))))))))))))))))))))))
theorem ggR : type_of% ggD:=ggD
def ghD :=bz @Ye.eq_1 (bz @Ye.eq_2 (bz @Ya.eq_1 (bz @Ya.eq_2 (bz @Ff (bz @uq.eq_1 (bz @uq.eq_2 (bz @EU.eq_1 (bz @EU.eq_2 (bz @List.getD_cons_zero.{0} (bz @List.getD_cons_succ.{0} (bz @List.cons_append.{0} (bz @List.nil_append.{0} (bz @List.append_nil.{0} (bz @List.map_cons.{0,0} (bz @List.map_nil.{0,0} (bz @List.map_append.{0,0} (bz @List.map_set.{0,0} (bz @List.length_append.{0} (bz @List.length_cons.{0} (bz @List.length_nil.{0} (bz @List.length_map.{0,0} (bz @List.length_set.{0} (bz @List.length_replicate.{0} (bz @List.replicate_zero.{0} (bz @List.replicate_succ.{0} (bz @List.map_replicate.{0,0} (bz @Nat.zero_add (bz @Nat.add_zero (bz @FH.eq_1 (bz @FH.eq_2 (bz @FH.eq_3 (bz @and_self (bz @and_true (bz @true_and (bz @cI.eq_1 (bz @cU.eq_1 (bz @cB.eq_1 (bz @cS.eq_1 (bz @cL.eq_1 (bz @cK.eq_1 (bz @ak.gy (bz @pW.gy (bz @alG.gy (bz @bg.gy (bz @akh.gy (bz @aI.gy (bz @ae6 (bz @WL.eq_1 (bz @WL.eq_2 (bz @JY.eq_1 (bz @JY.eq_2 (bz @List.flatMap_cons.{0,0} (bz @List.flatMap_nil.{0,0} (bz @AV.owns.eq_1 (bz @AV.owns.eq_2 (bz @AV.owns.eq_3 (bz @qg.eq_1 (bz @qg.eq_2 (bz @qg.eq_3 (bz @List.contains_cons.{0} (bz @List.contains_nil.{0} (bz @Bool.or_false (bz @Bool.or_true (bz @Bool.false_or (bz @if_true.{1} (bz @if_false.{1} (bz @Bool.false_eq_true (bz @Em.eq_1 (bz @Em.eq_2 (bz @Em.eq_3 (bz @Il.eq_1 (bz @Il.eq_2 (bz @Il.eq_3 (bz @zY.eq_1 (bz @zY.eq_2 (bz @zY.eq_3 (bz @AZ.eq_1 (bz @AZ.eq_2 (bz @AZ.eq_3 (bz @Box.arr.eq_1 (bz @Box.arr.eq_2 (bz @Box.arr.eq_3 (bz @AV.cells.eq_1 (bz @AV.cells.eq_2 (bz @AV.cells.eq_3 (bz @Nat.le_refl (bz @take_len (bz @O7 (bz @O8 (bz @xW.eq_1 (bz @vz.eq_1 (bz @Me.eq_1 @vSl.eq_1))))))))))))))))))))))))))))))))))))))))))))))))))))))))))))))))))))))))))))))))))))))))))))
theorem ghR : type_of% ghD:=ghD
end
section
abbrev zN : List AC:=[.c (.lit (.int .i64 0)),.c (.lit (.int .i64 0)),.c (.str []),.lF 1,.lF 5]
abbrev wI (z:Int):AC:=.c (.lit (.int .i64 z))
abbrev wS (s:dR):AC:=.c (.str s)
abbrev wT (l:List dR):AC:=.c (.sl 1 (List.map cS l))
abbrev wK (l:List ak):AC:=.c (.sl 5 (List.map ak.cells l))
abbrev wN (x:ak):List AC:=[wI x.alC,wI x.Num,wS x.amV,wT x.aiJ,wK x.ajX]
abbrev acL (b:Bool):AC:=.c (.lit (.bool b))
abbrev acM (z:Int):AV:=.one (wI z)
abbrev oS (s:dR):AV:=.one (wS s)
abbrev oT (l:List dR):AV:=.one (wT l)
abbrev oB (b:Bool):AV:=.one (acL b)
abbrev eP (a b:Nat):Nat×Slot:=(a,.v true (.one (.ptr b 0)))
abbrev eI (a:Nat)(z:Int):Nat×Slot:=(a,.v true (.one (wI z)))
abbrev eS (a:Nat)(z:dR):Nat×Slot:=(a,.v true (.one (wS z)))
abbrev eT (a:Nat)(z:List dR):Nat×Slot:=(a,.v true (.one (wT z)))
abbrev eB (a:Nat)(z:Bool):Nat×Slot:=(a,.v true (.one (acL z)))
abbrev w7 (l:List bg):AC:=.c (.sl 7 (List.map bg.cells l))
abbrev w8 (l:List pW):AC:=.c (.sl 8 (List.map pW.cells l))
abbrev acN (x:pW):List AC:=[wI x.alC,wT x.anu,wT x.anw,wI x.Value.alC,wI x.Value.Num,wS x.Value.amV,wT x.Value.aiJ,wK x.Value.ajX]
abbrev adH (x:bg):List AC:=[wS x.al9,wI x.amX,wI x.am4.alC,wI x.am4.Num,wS x.am4.amV,wT x.am4.aiJ,wK x.am4.ajX]
abbrev aeA (x:alG):List AC:=[w7 x.akj,wI x.amJ]
abbrev aeQ (x:akh):List AC:=[wI x.amI,wS x.al9,wT x.anx,wT x.lY,wI x.Body.alC,wI x.Body.Num,wS x.Body.amV,wT x.Body.aiJ,wK x.Body.ajX,w8 x.Ops]
abbrev aeT (x:aI):List AC:=[wI x.anA,wS x.Tag,wI x.amX,wI x.Body.alC,wI x.Body.Num,wS x.Body.amV,wT x.Body.aiJ,wK x.Body.ajX]
def pp {α:Sort _}{β:Sort _}(a:α)(b:β):PProd α β:=⟨a,b⟩
abbrev afw :=pp () <|pp () <|pp () <|pp () <|pp () <|pp () <|()
abbrev afu {A:Sort _}{B:Sort _}{C:Sort _}(a:A)(b:B)(c:C):=pp () <|pp () <|pp a <|pp () <|pp b <|pp c <|()
abbrev akb {A:Sort _}(a:A):=pp () <|pp a <|pp () <|pp () <|pp () <|pp () <|()
abbrev amb {A:Sort _}{B:Sort _}{C:Sort _}{D:Sort _}{E:Sort _}{F:Sort _}(a:A)(b:B)(c:C)(d:D)(e:E)(f:F):=pp () <|pp a <|pp b <|pp c <|pp d <|pp e <|f
abbrev afo {A:Sort _}(a:A):=pp a <|pp () <|pp () <|pp () <|pp () <|pp () <|()
abbrev akc {A:Sort _}{B:Sort _}(a:A)(b:B):=pp a <|pp () <|pp () <|pp () <|pp () <|pp () <|b
abbrev agi {A:Sort _}{B:Sort _}{C:Sort _}{D:Sort _}(a:A)(b:B)(c:C)(d:D):=pp a <|pp () <|pp () <|pp b <|pp c <|pp d <|()
abbrev ajM {A:Sort _}{B:Sort _}{C:Sort _}{D:Sort _}{E:Sort _}(a:A)(b:B)(c:C)(d:D)(e:E):=pp a <|pp () <|pp () <|pp b <|pp c <|pp d <|pp () <|e
abbrev afp {A:Sort _}{B:Sort _}{C:Sort _}{D:Sort _}(a:A)(b:B)(c:C)(d:D):=pp a <|pp () <|pp b <|pp () <|pp c <|pp d <|()
abbrev akd {A:Sort _}{B:Sort _}{C:Sort _}{D:Sort _}{E:Sort _}(a:A)(b:B)(c:C)(d:D)(e:E):=pp a <|pp () <|pp b <|pp () <|pp c <|pp d <|e
abbrev ahi {A:Sort _}{B:Sort _}{C:Sort _}{D:Sort _}{E:Sort _}(a:A)(b:B)(c:C)(d:D)(e:E):=pp a <|pp () <|pp b <|pp c <|pp d <|pp e <|()
abbrev akP {A:Sort _}{B:Sort _}{C:Sort _}{D:Sort _}{E:Sort _}{F:Sort _}(a:A)(b:B)(c:C)(d:D)(e:E)(f:F):=pp a <|pp () <|pp b <|pp c <|pp d <|pp e <|pp () <|f
abbrev amc {A:Sort _}{B:Sort _}{C:Sort _}{D:Sort _}{E:Sort _}{F:Sort _}(a:A)(b:B)(c:C)(d:D)(e:E)(f:F):=pp a <|pp () <|pp b <|pp c <|pp d <|pp e <|f
abbrev ag6 {A:Sort _}{B:Sort _}(a:A)(b:B):=pp a <|pp b <|pp () <|pp () <|pp () <|pp () <|()
abbrev ahh {A:Sort _}{B:Sort _}{C:Sort _}(a:A)(b:B)(c:C):=pp a <|pp b <|pp () <|pp () <|pp () <|pp () <|c
abbrev amd {A:Sort _}{B:Sort _}{C:Sort _}{D:Sort _}{E:Sort _}(a:A)(b:B)(c:C)(d:D)(e:E):=pp a <|pp b <|pp () <|pp c <|pp d <|pp e <|()
abbrev amy {A:Sort _}{B:Sort _}{C:Sort _}{D:Sort _}{E:Sort _}{F:Sort _}(a:A)(b:B)(c:C)(d:D)(e:E)(f:F):=pp a <|pp b <|pp () <|pp c <|pp d <|pp e <|f
abbrev alb {A:Sort _}{B:Sort _}{C:Sort _}{D:Sort _}{E:Sort _}{F:Sort _}{G:Sort _}(a:A)(b:B)(c:C)(d:D)(e:E)(f:F)(g:G):=pp a <|pp b <|pp c <|pp d <|pp e <|pp f <|pp () <|g
abbrev alx {A:Sort _}{B:Sort _}{C:Sort _}{D:Sort _}{E:Sort _}{F:Sort _}{G:Sort _}{H:Sort _}(a:A)(b:B)(c:C)(d:D)(e:E)(f:F)(g:G)(h:H):=pp a <|pp b <|pp c <|pp d <|pp e <|pp f <|pp g <|h
theorem ihL {n:Nat}{A B:Nat->Prop}(h:∀m,m<n->A m/\B m):∀m,m<n->A m:=λm hm=>(h m hm).1
theorem ihR {n:Nat}{A B:Nat->Prop}(h:∀m,m<n->A m/\B m):∀m,m<n->B m:=λm hm=>(h m hm).2
theorem fF (zs:List Nat)(pi:List (Nat×Nat))(vs:List Nat){m:Nat}{ts0 ts:List (Nat×Slot)}{Ij bs:List (Nat×Box)}(hk:TJ m Ij bs pi vs=true)
 (hb:XQ zs (uq Ij) (XY pi) vs bs) (ht:acD zs (uq Ij) (XY pi) vs ts0 ts):Ph m (fH.of ts0 Ij) (fH.of ts bs):=alD zs pi vs hk hb ht
theorem Eo (zs:List Nat)(pi:List (Nat×Nat))(vs:List Nat){rs:List yx}{ts:List (Nat×Slot)}{Ij:List (Nat×Box)}{m:Nat}{r:AV}{bs:List Box}(hk:TJ m Ij (FP bs 0) pi vs=true)
 (hok:Jp (fH.of ts Ij) rs) (hb:XQ zs (uq Ij) (XY pi) vs (FP bs 0)) (hv:wkV zs (uq Ij) (XY pi) vs (Yb (fH.of ts Ij) rs) r) :
 MJ rs m (λr1 b1=>r1=r/\b1=bs) (fH.of ts Ij):=Ue zs pi vs hk hok hb hv
section
variable {P:Program} {f:FuncId} {wC:List AV} {d:Option Nat} {st:fH} {K:List Nat->List Nat->fH->Prop} {du:DU K} {Q:AQ}
theorem cG (sg nu:List Nat){P:Program}{f:FuncId}{wC:List AV}{d:Option Nat}{st:fH}{K:List Nat->List Nat->fH->Prop}{du:DU K}{ds:List AV}{fp Ij:List Box}{r0:AV}(h:oV P f ds fp (λr bs=>r=r0/\bs=Ij))(hl:sg.length=fp.length)(hn:nodupB (sg++nu)=true)(hf:Ye st (sg++nu) fp 0)(hv:Ya st nu)
 (hra:(ds.all λx=>x.all (AC.wV fp.length))=true) (hrf:fp.all (Box.wV fp.length)=true) (ha:wC=ds.map (FH λb=>(sg++nu).getD b 0)) (hb:Ij.length=(sg++nu).length)
 (k:K (sg++nu) (sg++nu) ((st.uN ((sg++nu).zip (Ij.map (EU λb=>(sg++nu).getD b 0)))).A8 d (.v true (FH (λb=>(sg++nu).getD b 0) r0)))):wR P f wC true d st K du:=anX sg nu h hl hn hf hv hra hrf ha hb k
theorem cH (sg nu:List Nat){P:Program}{f:FuncId}{wC:List AV}{d:Option Nat}{st:fH}{K:List Nat->List Nat->fH->Prop}{du:DU K}{ds:List AV}{fp Ij:List Box}{r0:AV}(h:oV P f ds fp (λr bs=>r=r0/\bs=Ij))(he:wC.map (Em st.bx)=ds.map (FH λb=>(sg++nu).getD b 0))(hlo:zY st.bx wC)
 (hl:sg.length=fp.length) (hn:nodupB (sg++nu)=true) (hf:Ye (st.Ik (wC.flatMap AV.owns)) (sg++nu) fp 0) (hv:Ya st nu)
 (hra:(ds.all λx=>x.all (AC.wV fp.length))=true) (hrf:fp.all (Box.wV fp.length)=true) (hb:Ij.length=(sg++nu).length)
 (k:K (wC.flatMap AV.owns++(sg++nu)) (wC.flatMap AV.owns++(sg++nu)) (((st.Ik (wC.flatMap AV.owns)).uN ((sg++nu).zip (Ij.map (EU λb=>(sg++nu).getD b 0)))).A8 d (.v true (FH (λb=>(sg++nu).getD b 0) r0)))):wR P f wC true d st K du:=anY sg nu h he hlo hl hn hf hv hra hrf hb k
theorem IE (X:Type)(R:Type)(g:Nat->X->Option R)(r:R)(S:X->fH)(N:Nat){P:Program}{st:fH}{Q:AQ}{a b:bU}{d1:DU (wpC P a)}{d2:DU (wpC P b)}{d3:DU Q}
 (h1:DI P a (wX.then (λst'=>∃x m,(g m x=some r/\m<=N)/\Ph 10 st' (S x)) Q) st .mk .mk) (h2:∀n x,n<=N->g n x=some r->DI P b Q (S x) .mk .mk):QB (wpC P a) (wpC P b) Q st d1 d2 d3:=by
 refine aph (X:=X×Nat) (λp=>g p.2 p.1=some r/\p.2<=N) (λp=>S p.1) (wpC_mono (λe st h=>?_) h1) (λp hp=>h2 p.2 p.1 hp.2 hp.1);cases e with
 |normal=>obtain⟨x,m,h,hw⟩:=h;exact⟨(x,m),h,hw⟩
 |_=>exact h
theorem tZ (X:Type)(R:Type)(g:Nat->X->Option R)(r:R)(S:X->fH)(N:Nat){P:Program}{st:fH}{Q:AQ}{a:bU}{d1:DU (wpC P a)}{d2:DU Q}(h0:∃x m,(g m x=some r/\m<=N)/\Ph 10 st (S x))
 (h:∀n x,n<=N->g n x=some r->DI P a (wX.then (λst'=>∃x' m,(g m x'=some r/\m<=N/\m<n)/\Ph 10 st' (S x')) Q) (S x) .mk .mk):Lm (wpC P a) Q st d1 d2:=by
 obtain⟨x,m,h0,hw⟩:=h0;refine aoB (X:=X×Nat) (λp=>g p.2 p.1=some r/\p.2<=N) (λp=>S p.1) (λp=>p.2) (x,m) h0 hw (λp hp=>wpC_mono (λe st h=>?_) (h p.2 p.1 hp.2 hp.1));cases e with
 |normal=>obtain⟨x,m,h,hw⟩:=h;exact⟨(x,m),⟨⟨h.1,h.2.1⟩,h.2.2⟩,hw⟩
 |_=>exact h
end
theorem SG {p:Prop}(x:p:=by simp -dsimp only[wkR,wkB,Nj,reduceIte,Nat.reduceEqDiff,reduceCtorEq]<;>simp[List.take_of_length_le]<;>fail):p:=x
theorem tPE {p:Prop}(x:p:=by(simp -dsimp only[peR,reduceIte,Nat.reduceEqDiff,Nat.reduceAdd,Nat.reduceLeDiff,reduceCtorEq]<;>first|(simp[List.take_of_length_le];done)|((try simp only[List.map_take,List.map_drop,List.map_append,List.map_cons,List.map_nil])<;>(repeat' apply And.intro)<;>first|rfl|(simp;done)|(simp<;>omega;done)|(congr 1;exact(List.take_of_length_le (by simp<;>omega)).symm)))):p:=x
theorem tRE {p:Prop}(x:p:=by(simp -dsimp only[rwR,wkB,Nj,reduceIte,Nat.reduceEqDiff,reduceCtorEq,Nat.reduceAdd,Nat.reduceLeDiff]<;>first|(simp[List.take_of_length_le];done)|((try simp only[List.map_take,List.map_drop,List.map_append,List.map_cons,List.map_nil])<;>(repeat' apply And.intro)<;>first|rfl|(simp;done)|(simp<;>omega;done)|(congr 1;exact(List.take_of_length_le (by simp<;>omega)).symm)))):p:=x
theorem tLN {p:Prop}(x:p:=by(simp only[lnR,reduceIte,Nat.reduceEqDiff]<;>omega)):p:=x
theorem tGG {p:Prop}(x:p:=by(simp only[ggR,G5,reduceIte,Nat.reduceEqDiff,Nat.reduceLeDiff,Nat.reduceAdd]<;>omega)):p:=x
theorem tGR {p:Prop}(x:p:=by first|rfl|(simp only[ggR,G5,reduceIte,Nat.reduceEqDiff,Nat.reduceLeDiff,Nat.reduceAdd]<;>omega)):p:=x
theorem tGH {p:Prop}(x:p:=by(simp only[ghR,G5,reduceIte,Nat.reduceEqDiff,Nat.reduceLeDiff,Nat.reduceAdd,Nat.reduceBEq]<;>omega)):p:=x
theorem RY {p:Prop}(x:p:=by((try simp only[Prod.exists]);(first|refine⟨_,_,⟨h,?_⟩,?_⟩|refine⟨_,_,_,⟨h,?_⟩,?_⟩|refine⟨_,_,_,_,⟨h,?_⟩,?_⟩|refine⟨_,_,_,_,_,⟨h,?_⟩,?_⟩|refine⟨_,_,_,_,_,_,⟨h,?_⟩,?_⟩|refine⟨_,_,_,_,_,_,_,⟨h,?_⟩,?_⟩|refine⟨_,_,_,_,_,_,_,_,⟨h,?_⟩,?_⟩|refine⟨_,_,_,_,_,_,_,_,_,⟨h,?_⟩,?_⟩|refine⟨_,_,_,_,_,_,_,_,_,_,⟨h,?_⟩,?_⟩|refine⟨_,_,_,_,_,_,_,_,_,_,_,⟨h,?_⟩,?_⟩|refine⟨_,_,_,_,_,_,_,_,_,_,_,_,⟨h,?_⟩,?_⟩|refine⟨_,_,_,_,_,_,_,_,_,_,_,_,_,⟨h,?_⟩,?_⟩|refine⟨_,_,_,_,_,_,_,_,_,_,_,_,_,_,⟨h,?_⟩,?_⟩|refine⟨_,_,_,_,_,_,_,_,_,_,_,_,_,_,_,⟨h,?_⟩,?_⟩|refine⟨_,_,_,_,_,_,_,_,_,_,_,_,_,_,_,_,⟨h,?_⟩,?_⟩|refine⟨_,_,_,_,_,_,_,_,_,_,_,_,_,_,_,_,_,⟨h,?_⟩,?_⟩|refine⟨_,_,_,_,_,_,_,_,_,_,_,_,_,_,_,_,_,_,⟨h,?_⟩,?_⟩|refine⟨_,_,_,_,_,_,_,_,_,_,_,_,_,_,_,_,_,_,_,⟨h,?_⟩,?_⟩|refine⟨_,_,_,_,_,_,_,_,_,_,_,_,_,_,_,_,_,_,_,_,⟨h,?_⟩,?_⟩|refine⟨_,_,_,_,_,_,_,_,_,_,_,_,_,_,_,_,_,_,_,_,_,⟨h,?_⟩,?_⟩|refine⟨_,_,_,_,_,_,_,_,_,_,_,_,_,_,_,_,_,_,_,_,_,_,⟨h,?_⟩,?_⟩|refine⟨_,_,_,_,_,_,_,_,_,_,_,_,_,_,_,_,_,_,_,_,_,_,_,⟨h,?_⟩,?_⟩|refine⟨_,_,_,_,_,_,_,_,_,_,_,_,_,_,_,_,_,_,_,_,_,_,_,_,⟨h,?_⟩,?_⟩|refine⟨(),_,⟨h,?_⟩,?_⟩);(focus omega);first|exact zj.1 (by rfl) SG SG|exact zj.2.1 (by rfl) SG SG|exact zj.2.2.1 (by rfl) SG SG|exact zj.2.2.2.1 (by rfl) SG SG|exact zj.2.2.2.2.1 (by rfl) SG SG|exact zj.2.2.2.2.2.1 (by rfl) SG SG|exact zj.2.2.2.2.2.2.1 (by rfl) SG SG|exact zj.2.2.2.2.2.2.2.1 (by rfl) SG SG|exact zj.2.2.2.2.2.2.2.2.1 (by rfl) SG SG|exact zj.2.2.2.2.2.2.2.2.2.1 (by rfl) SG SG|exact zj.2.2.2.2.2.2.2.2.2.2.1 (by rfl) SG SG|exact zj.2.2.2.2.2.2.2.2.2.2.2.1 (by rfl) SG SG|exact zj.2.2.2.2.2.2.2.2.2.2.2.2.1 (by rfl) SG SG|exact zj.2.2.2.2.2.2.2.2.2.2.2.2.2.1 (by rfl) SG SG)):p:=x
theorem tH {p:Prop}(x:p:=by
 obtain⟨zc,zg,zk,zu,ze,zj,zt⟩:=z
 try simp only[acM,oS,oT,oB,aeT,aeQ,aeA,adH,acN,w8,w7,wN,wI,wS,wT,wK,acL,zN,eP,eI,eS,eT,eB]at zc zk zu zt zj⊢
 repeat' first
 |(clear h;(with_reducible intro n x hn h);rcases n with _|n<;>simp only[ze.1,reduceCtorEq]at h)
 |(simp only[reduceCtorEq]at h;done)
 |((with_reducible replace h:=kq0 h);obtain⟨_,_,h⟩:=h)
 |((with_reducible replace h:=kqn h);obtain⟨_,_,h⟩:=h)
 |((with_reducible replace h:=kq1 h);obtain⟨_,_,h⟩:=h)
 |((with_reducible replace h:=kq h);obtain⟨_,h⟩:=h)
 |((with_reducible replace h:=sq h);subst h;have h:=True.intro)
 | (try simp -dsimp only[egR,ny.pI,ny.f,ny.rd,D7,Aj,lvl,yH,reduceIte,Nat.reduceEqDiff,Nat.reduceAdd,Nat.reduceLeDiff,Nat.reduceBEq,reduceCtorEq,Int.reduceBNe,Int.reduceBEq,Int.reduceLT,Int.reduceLE,Int.reduceNeg,Nat.reduceLT,Ea,Int.reduceToNat,G5, *]
    repeat((with_reducible refine And.intro ?_ ?_);focus first|(show zO _ _ _ _=true;kernel_rfl)|(show yO _ _=true;kernel_rfl)|omega|assumption|(show _<=maxLen;decide))
    first
    |with_reducible refine ahG ?_
    |((with_reducible refine alU ?_);with_reducible refine zu.1 n ?_ ?_)
    |((with_reducible refine aiw ?_);first|((with_reducible refine zk.1 n ?_ ?_);(focus exact RY))|((with_reducible refine zk.2.1 n ?_ ?_);(focus exact RY))|((with_reducible refine zk.2.2.1 n ?_ ?_);(focus exact RY))|((with_reducible refine zk.2.2.2.1 n ?_ ?_);(focus exact RY))|((with_reducible refine zk.2.2.2.2.1 n ?_ ?_);(focus exact RY))|((with_reducible refine zk.2.2.2.2.2.1 n ?_ ?_);(focus exact RY)))
    |((with_reducible refine adK ?_);(with_reducible replace h:=bq h);obtain⟨_,hv,h⟩:=h;first|(have zd:=zc;(repeat(first|((first|with_reducible have hc:=zd.1 hv|with_reducible have hc:=zd.1 _ (by omega) hv);(first|refine ahF (λ_=>hc) rfl rfl ?_|refine ahH hc rfl rfl ?_|refine alL hc tLN tLN rfl rfl ?_|refine alK hc tLN tLN rfl rfl ?_);clear zd)|with_reducible replace zd:=zd.2));(fail_if_success have zz:=zd))|(have zd:=zg;(repeat(first|((first|with_reducible have hc:=zd.1.1 hv|with_reducible have hc:=zd.1.1 _ (by omega) hv);(first|refine zd.1.2 hc rfl rfl tGG tGG rfl rfl tGR rfl ?_|refine zd.1.2 hc tGH tGH rfl rfl tGH tGH rfl rfl rfl ?_);clear zd)|with_reducible replace zd:=zd.2));(fail_if_success have zz:=zd)))
    |((with_reducible replace h:=cq h);rcases h with⟨c,h⟩|⟨c,h⟩<;>try(simp only[*,Bool.false_eq_true,reduceCtorEq]at c;done))
    |((with_reducible refine aov ?_);exact RY)
    |((with_reducible refine alV ?_);exact tPE)
    |((with_reducible refine aiy ?_);have zd:=zt;(repeat(first|exact zd.1 (by rfl) tRE tRE tRE|with_reducible replace zd:=zd.2))<;>fail)
    |(cases h;done))):p:=x
theorem ahV {p:Prop}(x:p:=by
 obtain⟨zc,zg,zk,zu,ze,zj,zt,zq⟩:=z
 try simp only[acM,oS,oT,oB,aeT,aeQ,aeA,adH,acN,w8,w7,wN,wI,wS,wT,wK,acL,zN,eP,eI,eS,eT,eB]at zc zk zu zt zj⊢
 repeat' first
 |(clear h;(with_reducible intro n x hn h);rcases n with _|n<;>simp only[ze.1,reduceCtorEq]at h)
 |(simp only[reduceCtorEq]at h;done)
 |((with_reducible replace h:=kq0 h);obtain⟨_,_,h⟩:=h)
 |((with_reducible replace h:=kqn h);obtain⟨_,_,h⟩:=h)
 |((with_reducible replace h:=kq1 h);obtain⟨_,_,h⟩:=h)
 |((with_reducible replace h:=kq h);obtain⟨_,h⟩:=h)
 |((with_reducible replace h:=sq h);subst h;have h:=True.intro)
 | (try simp -dsimp only[egR,ny.pI,ny.f,ny.rd,D7,Aj,lvl,yH,reduceIte,Nat.reduceEqDiff,Nat.reduceAdd,Nat.reduceLeDiff,Nat.reduceBEq,reduceCtorEq,Int.reduceBNe,Int.reduceBEq,Int.reduceLT,Int.reduceLE,Int.reduceNeg,Nat.reduceLT,Ea,Int.reduceToNat,G5, *]
    repeat((with_reducible refine And.intro ?_ ?_);focus first|(show zO _ _ _ _=true;kernel_rfl)|(show yO _ _=true;kernel_rfl)|omega|assumption|(show _<=maxLen;decide))
    first
    |with_reducible refine ahG ?_
    |((with_reducible refine alU ?_);first|(rename Mk 1=>tk;clear tk;have:True:=(by(first|rewrite [zq.1.1]at h|rewrite [zq.1.2.1]at h|rewrite [zq.1.2.2.1]at h|rewrite [zq.1.2.2.2.1]at h|rewrite [zq.1.2.2.2.2.1]at h|rewrite [zq.1.2.2.2.2.2.1]at h|rewrite [zq.1.2.2.2.2.2.2.1]at h|rewrite [zq.1.2.2.2.2.2.2.2.1]at h);exact True.intro);with_reducible refine zu.1 n ?_ ?_)|(rename Mk 2=>tk;clear tk;have:True:=(by(first|rewrite [zq.2.1.1]at h|rewrite [zq.2.1.2.1]at h|rewrite [zq.2.1.2.2.1]at h|rewrite [zq.2.1.2.2.2.1]at h|rewrite [zq.2.1.2.2.2.2.1]at h|rewrite [zq.2.1.2.2.2.2.2.1]at h|rewrite [zq.2.1.2.2.2.2.2.2.1]at h|rewrite [zq.2.1.2.2.2.2.2.2.2.1]at h);exact True.intro);with_reducible refine zu.2.1 n ?_ ?_)|(rename Mk 3=>tk;clear tk;have:True:=(by(first|rewrite [zq.2.2.1.1]at h|rewrite [zq.2.2.1.2.1]at h|rewrite [zq.2.2.1.2.2.1]at h|rewrite [zq.2.2.1.2.2.2.1]at h|rewrite [zq.2.2.1.2.2.2.2.1]at h|rewrite [zq.2.2.1.2.2.2.2.2.1]at h|rewrite [zq.2.2.1.2.2.2.2.2.2.1]at h|rewrite [zq.2.2.1.2.2.2.2.2.2.2.1]at h);exact True.intro);with_reducible refine zu.2.2.1 n ?_ ?_)|(rename Mk 4=>tk;clear tk;have:True:=(by(first|rewrite [zq.2.2.2.1.1]at h|rewrite [zq.2.2.2.1.2.1]at h|rewrite [zq.2.2.2.1.2.2.1]at h|rewrite [zq.2.2.2.1.2.2.2.1]at h|rewrite [zq.2.2.2.1.2.2.2.2.1]at h|rewrite [zq.2.2.2.1.2.2.2.2.2.1]at h|rewrite [zq.2.2.2.1.2.2.2.2.2.2.1]at h|rewrite [zq.2.2.2.1.2.2.2.2.2.2.2.1]at h);exact True.intro);with_reducible refine zu.2.2.2.1 n ?_ ?_)|(rename Mk 5=>tk;clear tk;have:True:=(by(first|rewrite [zq.2.2.2.2.1.1]at h|rewrite [zq.2.2.2.2.1.2.1]at h|rewrite [zq.2.2.2.2.1.2.2.1]at h|rewrite [zq.2.2.2.2.1.2.2.2.1]at h|rewrite [zq.2.2.2.2.1.2.2.2.2.1]at h|rewrite [zq.2.2.2.2.1.2.2.2.2.2.1]at h|rewrite [zq.2.2.2.2.1.2.2.2.2.2.2.1]at h|rewrite [zq.2.2.2.2.1.2.2.2.2.2.2.2.1]at h);exact True.intro);with_reducible refine zu.2.2.2.2.1 n ?_ ?_)|(rename Mk 6=>tk;clear tk;have:True:=(by(first|rewrite [zq.2.2.2.2.2.1.1]at h|rewrite [zq.2.2.2.2.2.1.2.1]at h|rewrite [zq.2.2.2.2.2.1.2.2.1]at h|rewrite [zq.2.2.2.2.2.1.2.2.2.1]at h|rewrite [zq.2.2.2.2.2.1.2.2.2.2.1]at h|rewrite [zq.2.2.2.2.2.1.2.2.2.2.2.1]at h|rewrite [zq.2.2.2.2.2.1.2.2.2.2.2.2.1]at h|rewrite [zq.2.2.2.2.2.1.2.2.2.2.2.2.2.1]at h);exact True.intro);with_reducible refine zu.2.2.2.2.2.1 n ?_ ?_))
    |((with_reducible refine aiw ?_);first|((with_reducible refine zk.1 n ?_ ?_);(focus exact RY))|((with_reducible refine zk.2.1 n ?_ ?_);(focus exact RY))|((with_reducible refine zk.2.2.1 n ?_ ?_);(focus exact RY))|((with_reducible refine zk.2.2.2.1 n ?_ ?_);(focus exact RY))|((with_reducible refine zk.2.2.2.2.1 n ?_ ?_);(focus exact RY))|((with_reducible refine zk.2.2.2.2.2.1 n ?_ ?_);(focus exact RY)))
    |((with_reducible refine adK ?_);(with_reducible replace h:=bq h);obtain⟨_,hv,h⟩:=h;first|(have zd:=zc;(repeat(first|((first|with_reducible have hc:=zd.1 hv|with_reducible have hc:=zd.1 _ (by omega) hv);(first|refine ahF (λ_=>hc) rfl rfl ?_|refine ahH hc rfl rfl ?_|refine alL hc tLN tLN rfl rfl ?_|refine alK hc tLN tLN rfl rfl ?_);clear zd)|with_reducible replace zd:=zd.2));(fail_if_success have zz:=zd))|(have zd:=zg;(repeat(first|((first|with_reducible have hc:=zd.1.1 hv|with_reducible have hc:=zd.1.1 _ (by omega) hv);(first|refine zd.1.2 hc rfl rfl tGG tGG rfl rfl tGR rfl ?_|refine zd.1.2 hc tGH tGH rfl rfl tGH tGH rfl rfl rfl ?_);clear zd)|with_reducible replace zd:=zd.2));(fail_if_success have zz:=zd)))
    |((with_reducible replace h:=cq h);rcases h with⟨c,h⟩|⟨c,h⟩<;>try(simp only[*,Bool.false_eq_true,reduceCtorEq]at c;done))
    |((with_reducible refine aov ?_);exact RY)
    |((with_reducible refine alV ?_);exact tPE)
    |((with_reducible refine aiy ?_);have zd:=zt;(repeat(first|exact zd.1 (by rfl) tRE tRE tRE|with_reducible replace zd:=zd.2))<;>fail)
    |(cases h;done))):p:=x
end
abbrev zA (d:Nat)(x:ny):kX:=⟨none,some d,.op x⟩
abbrev zM (d s:Nat):kX:=⟨none,some d,.op (.mv (.t s))⟩
abbrev zS (x:ny):kX:=⟨none,none,.op x⟩
abbrev zG (g:Nat)(b:Bool)(d:Nat)(x:ny):kX:=⟨some (g,b),some d,.op x⟩
noncomputable abbrev pZ : Program:=Go.Proofs.Tryz.prog
abbrev kI (n:Int):oW:=.k (.c (.lit (.int .i64 n)))
abbrev kB (b:Bool):oW:=.k (.c (.lit (.bool b)))
abbrev oJ (n:Int):AC:=.c (.lit (.int .i64 n))
abbrev qF (d k a:Nat):kX:=zA d (.load false k (.t a))
abbrev qT (d k a:Nat):kX:=zA d (.load true k (.t a))
abbrev qS (k a b:Nat):kX:=zS (.store true k (.t a) (.t b))
abbrev qU (k a b:Nat):kX:=zS (.store false k (.t a) (.t b))
abbrev qA (d k a:Nat):kX:=zA d (.mW k (.t a))
abbrev qX (d k a:Nat):kX:=zA d (.box k (.t a))
abbrev qB (d:Nat)(b:Bool):kX:=zA d (.mv (kB b))
abbrev qI (d:Nat)(n:Int):kX:=zA d (.mv (kI n))
abbrev qL (d a:Nat):kX:=zA d (.len (.t a))
abbrev qO (d a:Nat):kX:=zA d (.not (.t a))
abbrev qE (d a k:Nat):kX:=zA d (.extract (.t a) k)
abbrev qP (d a b:Nat):kX:=zA d (.pick (.t a) (.t b) (kB false))
abbrev qQ (d a b:Nat):kX:=zA d (.pick (.t a) (kB true) (.t b))
abbrev qN (d a:Nat):kX:=zA d (.YP (.t a))
abbrev qD (d k a b:Nat):kX:=zA d (.zD k (.t a) (.t b))
abbrev qZ (d k:Nat):kX:=zA d (.alloc k zN)
abbrev q1 (d f a:Nat):kX:=⟨none,some d,.call f [.t a]⟩
abbrev q2 (d f a b:Nat):kX:=⟨none,some d,.call f [.t a,.t b]⟩
abbrev q3 (d f a b c:Nat):kX:=⟨none,some d,.call f [.t a,.t b,.t c]⟩
abbrev qb (d:Nat)(o:BinOp)(a b:Nat):kX:=zA d (.bin o (.t a) (.t b))
abbrev qk (d:Nat)(o:BinOp)(a:Nat)(n:Int):kX:=zA d (.bin o (.t a) (kI n))
abbrev ql (d a:Nat):kX:=zA d (.lens (.t a))
abbrev qm (g:Nat)(b:Bool)(d a:Nat):kX:=zG g b d (.mv (.t a))
abbrev qc (a:Nat)(x y:bU):bU:=.cond (.t a) x y
abbrev qs (l:List kX)(m:List Nat)(x:bU):bU:=.seq (.reg l m) x
abbrev qr (l:List kX)(m:List Nat):bU:=.seq (.reg l m) .ret
abbrev rr4 : List Nat:=[0,1,2,3]
abbrev rr5 : List Nat:=[0,1,2,3,4]
abbrev rr6 : List Nat:=[0,1,2,3,4,5]
abbrev rr7 : List Nat:=[0,1,2,3,4,5,6]
abbrev rr8 : List Nat:=[0,1,2,3,4,5,6,7]
abbrev rr9 : List Nat:=[0,1,2,3,4,5,6,7,8]
abbrev afE : List Nat:=[0,1,2,3,4,5,6,7,8,9]
abbrev ahj : List Nat:=[0,1,2,3,4,5,6,7,8,9,10]
abbrev ajd : List Nat:=[0,1,2,3,4,5,6,7,8,9,10,11]
abbrev al8 : List Nat:=[0,1,2,3,4,5,6,7,8,9,10,11,12]
abbrev akl : List Nat:=[0,1,2,3,4,5,6,7,8,9,10,11,12,13]
abbrev ap7 : List Nat:=[0,1,2,3,4,5,6,7,8,9,10,11,12,13,14]
abbrev aqz : List Nat:=[0,1,2,3,4,5,6,7,8,9,10,11,12,13,14,15]
abbrev ap8 : List Nat:=[0,1,2,3,4,5,6,7,8,9,10,11,12,13,14,15,16]
abbrev aoI : List Nat:=[0,1,2,3,4,5,6,7,8,9,10,11,12,13,14,15,16,17]
abbrev anE : List Nat:=[0,1,2,3,4,5,6,7,8,9,10,11,12,13,14,15,16,17,18]
abbrev anF : List Nat:=[0,1,2,3,4,5,6,7,8,9,10,11,12,13,14,15,16,17,18,19]
abbrev ap9 : List Nat:=[0,1,2,3,4,5,6,7,8,9,10,11,12,13,14,15,16,17,18,19,20]
abbrev anj : List Nat:=[0,1,2,3,4,5,6,7,8,9,10,11,12,13,14,15,16,17,18,19,20,21]
abbrev aqa : List Nat:=[0,1,2,3,4,5,6,7,8,9,10,11,12,13,14,15,16,17,18,19,20,21,22]
abbrev aqA : List Nat:=[0,1,2,3,4,5,6,7,8,9,10,11,12,13,14,15,16,17,18,19,20,21,22,23,24,25,26,27,28,29,30]
abbrev aqB : List Nat:=[0,1,2,3,4,5,6,7,8,9,10,11,12,13,14,15,16,17,18,19,20,21,22,23,24,25,26,27,28,29,30,31]
abbrev aqC : List Nat:=[0,1,2,3,4,5,6,7,8,9,10,11,12,13,14,15,16,17,18,19,20,21,22,23,24,25,26,27,28,29,30,31,32]
def C.ins (sz cb gr:Nat)(z:List Cell):bU:=(qs [zA 6 (.mv (.k (.lF sz)))] [0,1,2] (qs [zM 10 0,zM 11 1,zA 12 (.Ah sz (.t 10) (some (.t 11)) none)] [0,1,2] (qs [zM 13 2,qL 14 13,zM 7 14] [0,1,2,7] (.seq (qs [zM 15 7,qk 16 .eql 15 0] [0,1,2,7,16] (qc 16 (qr [zM 17 0,zM 6 17] [6]) .skip)) (qs [zM 18 0,qL 19 18,zM 8 19] [0,1,2,7,8] (.seq (qs [zM 20 1,zM 21 8,qb 22 .eql 20 21] [0,1,2,7,8,22] (qc 22 (qr [zM 23 0,zM 24 2,zA 25 (.acj 10 sz cb (.t 23) (.t 24)),zM 6 25] [6]) .skip)) (.seq (qs [zM 26 8,zM 27 7,qb 28 .add 26 27,zM 29 0,zA 30 (.afT (.t 29)),qb 31 .gtr 28 30] [0,1,2,7,8,31] (qc 31 (qs [zM 32 0,zM 33 1,zA 34 (.Ah sz (.t 32) none (some (.t 33))),zM 35 8,zM 36 7,qb 37 .add 35 36,zM 38 1,qb 39 .sub 37 38,zA 40 (.acW 11 sz cb z (.t 34) (.t 39)),zM 9 40] [0,1,2,7,9] (qs [zM 41 9,zM 42 1,zA 43 (.Ah sz (.t 41) (some (.t 42)) none),zM 44 2,zA 45 (.Xu sz (.t 43) (.t 44))] [0,1,7,9] (.seq (.sH [(zM 46 9,[]),(zM 47 1,[]),(zM 48 7,[]),(qb 49 .add 47 48,[1,2]),(zA 50 (.Ah sz (.t 46) (some (.t 49)) none),rr4),(zM 51 0,[]),(zM 52 1,[]),(zA 53 (.Ah sz (.t 51) (some (.t 52)) none),[5,6]),(zA 54 (.Xu sz (.t 50) (.t 53)),rr8)] [9]) (qr [zM 55 9,zM 6 55] [6])))) .skip)) (qs [zM 56 0,zM 57 8,zM 58 7,qb 59 .add 57 58,zA 60 (.Ah sz (.t 56) none (some (.t 59))),zM 0 60] [0,1,2,7,8] (.seq (qs [zM 61 2,zM 62 0,zM 63 1,zM 64 7,qb 65 .add 63 64,zA 66 (.Ah sz (.t 62) (some (.t 65)) none),zA 67 (.ovl (.t 61) (.t 66)),qO 68 67] [0,1,2,7,8,68] (qc 68 (.seq (.sH [(zM 69 0,[]),(zM 70 1,[]),(zM 71 7,[]),(qb 72 .add 70 71,[1,2]),(zA 73 (.Ah sz (.t 69) (some (.t 72)) none),rr4),(zM 74 0,[]),(zM 75 1,[]),(zA 76 (.Ah sz (.t 74) (some (.t 75)) none),[5,6]),(zA 77 (.Xu sz (.t 73) (.t 76)),rr8)] [0,1,2]) (qs [zM 78 0,zM 79 1,zA 80 (.Ah sz (.t 78) (some (.t 79)) none),zM 81 2,zA 82 (.Xu sz (.t 80) (.t 81))] [0] (qr [zM 83 0,zM 6 83] [6]))) .skip)) (qs [zM 84 0,zM 85 8,zA 86 (.Ah sz (.t 84) (some (.t 85)) none),zM 87 2,zA 88 (.Xu sz (.t 86) (.t 87))] [0,1,7] (qs [zM 89 0,zM 90 1,zA 91 (.Ah sz (.t 89) (some (.t 90)) none),zM 92 7,⟨none,some 93,.call gr [.t 91,.t 92]⟩] [0] (qr [zM 94 0,zM 6 94] [6]))))))))))))
def C.del (sz cb:Nat)(z:List Cell):bU:=(qs [zA 6 (.mv (.k (.lF sz)))] [0,1,2] (qs [zM 8 0,zM 9 1,zM 10 2,zM 11 0,qL 12 11,zA 13 (.sl3 sz (.t 8) (.t 9) (.t 10) (.t 12))] [0,1,2] (.seq (qs [zM 14 1,zM 15 2,qb 16 .eql 14 15] [0,1,2,16] (qc 16 (qr [zM 17 0,zM 6 17] [6]) .skip)) (qs [zM 18 0,qL 19 18,zM 7 19] [0,1,2,7] (.seq (.sH [(zM 20 0,[]),(zM 21 1,[]),(zA 22 (.Ah sz (.t 20) none (some (.t 21))),[0,1]),(zM 23 0,[]),(zM 24 2,[]),(zA 25 (.Ah sz (.t 23) (some (.t 24)) none),[3,4]),(zA 26 (.acj 10 sz cb (.t 22) (.t 25)),rr6),(zM 0 26,rr7)] [0,7]) (qs [zM 27 0,zM 28 0,qL 29 28,zM 30 7,zA 31 (.Ah sz (.t 27) (some (.t 29)) (some (.t 30))),zS (.aef sz z (.t 31))] [0] (qr [zM 32 0,zM 6 32] [6])))))))
def C.cmp_isNaN_int : bU:=qs [qB 2 false] [0]<|qr [zM 3 0,zM 4 0,qb 5 .neq 3 4,zM 2 5] [2]
theorem K.cmp_isNaN_int : jl pZ 226 1 0 C.cmp_isNaN_int [.tmp 2]=true:=by kernel_rfl
def C.cmp_Compare_int : bU:=qs [qI 4 0] [0,1]<|qs [zM 7 0,q1 8 226 7,zM 5 8] [0,1,5]<|qs [zM 9 1,q1 10 226 9,zM 6 10] [0,1,5,6]<|.seq (qs [zM 11 5] [0,1,6,11]<|qc 11 (.seq (qs [zM 12 6] [12]<|qc 12 (qr [qI 4 0] [4]) .skip)<|qr [qI 4 (-1)] [4]) .skip)<|.seq (qs [zM 13 6] [0,1,13]<|qc 13 (qr [qI 4 1] [4]) .skip)<|.seq (qs [zM 14 0,zM 15 1,qb 16 .lss 14 15] [0,1,16]<|qc 16 (qr [qI 4 (-1)] [4]) .skip)<|.seq (qs [zM 17 0,zM 18 1,qb 19 .gtr 17 18] [19]<|qc 19 (qr [qI 4 1] [4]) .skip)<|qr [qI 4 0] [4]
theorem K.cmp_Compare_int : jl pZ 223 2 0 C.cmp_Compare_int [.tmp 4]=true:=by kernel_rfl
def C.cmp_isNaN_string : bU:=qs [qB 2 false] [0]<|qr [zM 3 0,zM 4 0,qb 5 .neq 3 4,zM 2 5] [2]
theorem K.cmp_isNaN_string : jl pZ 206 1 0 C.cmp_isNaN_string [.tmp 2]=true:=by kernel_rfl
def C.cmp_Less_string : bU:=qs [qB 4 false] [0,1]<|qr [zM 5 0,q1 6 206 5,zM 7 6,qm 7 true 8 1,⟨(some (7,true)),some 9,.call 206 [.t 8]⟩,zG 7 true 10 (.not<|.t 9),qP 11 7 10,zM 12 11,qm 12 false 13 0,qm 12 false 14 1,zG 12 false 15 (.bin .lss (.t 13)<|.t 14),qQ 16 12 15,zM 4 16] [4]
theorem K.cmp_Less_string : jl pZ 186 2 0 C.cmp_Less_string [.tmp 4]=true:=by kernel_rfl
def C.aV : bU:=qs [qX 1 10 0,qZ 2 11] [1,2]<|qs [qA 6 0 1,qF 7 1 6,qA 8 1 1,qF 9 1 8,qA 10 2 1,qF 11 1 10,zA 12 (.build zN [(0,1,.t 7),(1,1,.t 9),(2,1,.t 11)]),qZ 3 12,qS 5 3 12] [1,2,3]<|.cut (qs [qA 13 3 1,qF 14 1 13,qL 15 14,qk 16 .gtr 15 0] [1,2,3,16]<|qc 16 (qs [qA 17 3 1,qF 18 1 17,qL 19 18,zA 20 (.makes 13 1 16 [.str []] (.t 19)<|.t 19),qA 21 3 3,qU 1 21 20] [1,2,3]<|.reg [qA 22 3 3,qF 23 1 22,qA 24 3 1,qF 25 1 24,zA 26 (.copy 1 (.t 23)<|.t 25)] [1,2,3]) .skip)<|.seq (qs [qA 27 4 1,qF 28 1 27,qL 29 28,qk 30 .gtr 29 0] [1,2,3,30]<|qc 30 (qs [qA 31 4 1,qF 32 1 31,qL 33 32,zA 34 (.makes 14 5 80 [.lit (.int .i64 0),.lit (.int .i64 0),.str [],.sl 1 [],.sl 5 []] (.t 33)<|.t 33),qA 35 4 3,qU 1 35 34] [1,2,3]<|qs [qA 36 4 1,qF 37 1 36,qL 38 37,qI 39 0] [2,3,37,38,39]<|.block 0<|.loop<|qs [qb 40 .lss 39 38] [2,3,37,38,39,40]<|.seq (qc 40 .skip<|.exit 0)<|.seq (.block 1<|qs [zM 41 39,qD 42 5 37 39,qT 43 5 42,qZ 5 15,zM 4 41,qS 5 5 43] [2,3,4,5,37,38,39]<|.sH [(qA 44 4 3,[]),(qF 45 1 44,[0]),(zM 46 4,[]),(qT 47 5 5,[]),(q1 48 124 47,[3]),(qD 49 5 45 46,rr5),(qS 5 49 48,rr6)] [2,3,37,38,39])<|.reg [qk 50 .add 39 1,zM 39 50] [2,3,37,38,39]) .skip)<|qr [qT 51 5 3,qS 5 2 51] [2]
theorem K.aV : jl pZ 124 1 0 C.aV [.cell 2 true 5]=true:=by kernel_rfl
def C.slices_isNaN_string : bU:=qs [qB 2 false] [0]<|qr [zM 3 0,zM 4 0,qb 5 .neq 3 4,zM 2 5] [2]
theorem K.slices_isNaN_string : jl pZ 187 1 0 C.slices_isNaN_string [.tmp 2]=true:=by kernel_rfl
def C.slices_BinarySearch_string : bU:=qs [qI 4 0,qB 5 false] [0,1]<|qs [zM 10 0,qL 11 10,zM 6 11] [0,1,6]<|qs [zM 12 6,qI 7 0,zM 8 12] [0,1,6,7,8]<|.seq (.block 0<|.loop<|.seq (qs [zM 13 7,zM 14 8,qb 15 .lss 13 14] [0,1,6,7,8,15]<|qc 15 .skip<|.exit 0)<|.block 1<|qs [zM 16 7,zM 17 8,qb 18 .add 16 17,zA 19 (.MZ .u64<|.t 18),zA 20 (.shf false (.t 19)<|.k<|.c<|.lit<|.int .u64 1),zA 21 (.MZ .i64<|.t 20),zM 9 21] [0,1,6,7,8,9]<|qs [zM 22 0,zM 23 9,qD 24 1 22 23,qF 25 1 24,zM 26 1,q2 27 186 25 26] [0,1,6,7,8,9,27]<|qc 27 (.reg [zM 28 9,qk 29 .add 28 1,zM 7 29] [0,1,6,7,8])<|.reg [zM 30 9,zM 8 30] [0,1,6,7,8])<|qr [zM 31 7,zM 32 7,zM 33 6,qb 34 .lss 32 33,zM 35 34,qm 35 true 36 0,qm 35 true 37 7,zG 35 true 38 (.zD 1 (.t 36)<|.t 37),zG 35 true 39 (.load false 1<|.t 38),qm 35 true 40 1,zG 35 true 41 (.bin .eql (.t 39)<|.t 40),qm 35 true 42 41,qm 42 false 43 0,qm 42 false 44 7,zG 42 false 45 (.zD 1 (.t 43)<|.t 44),zG 42 false 46 (.load false 1<|.t 45),⟨(some (42,false)),some 47,.call 187 [.t 46]⟩,qm 42 false 48 47,qm 48 true 49 1,⟨(some (48,true)),some 50,.call 187 [.t 49]⟩,zG 42 false 51 (.pick (.t 48) (.t 50)<|kB false),zG 35 true 52 (.pick (.t 42) (kB true)<|.t 51),qP 53 35 52,zM 4 31,zM 5 53] [4,5]
theorem K.slices_BinarySearch_string : jl pZ 171 2 0 C.slices_BinarySearch_string [.tmp 4,.tmp 5]=true:=by kernel_rfl
def C.fQ : bU:=qs [qX 2 10 0,qI 4 0,qB 5 false] [1,2]<|.seq (qs [qA 7 0 2,qF 8 1 7] [1,2,8]<|.block 0<|qs [qk 10 .eql 8 4,zM 9 10] [1,2,8,9]<|qc 9 (qr [qA 11 3 2,qF 12 1 11,zM 13 1,q2 14 171 12 13,qE 15 14 0,qE 16 14 1,zM 4 15,zM 5 16] [4,5])<|qs [qk 18 .eql 8 3,zM 17 18] [1,2,17]<|qc 17 (qs [qA 19 4 2,qF 20 1 19,qL 21 20,qI 22 0] [1,21,22]<|.block 1<|.loop<|qs [qb 23 .lss 22 21] [1,21,22,23]<|.seq (qc 23 .skip<|.exit 1)<|.seq (.block 2<|qs [zM 24 22,zM 6 24] [1,6,21,22]<|qs [zM 25 6,q1 26 148 25,zM 27 1,qb 28 .eql 26 27] [1,6,21,22,28]<|qc 28 (qr [zM 29 6,zM 4 29,qB 5 true] [4,5]) .skip)<|.reg [qk 30 .add 22 1,zM 22 30] [1,21,22]) .skip)<|qr [qI 4 0,qB 5 false] [4,5]
theorem K.fQ : jl pZ 201 2 0 C.fQ [.tmp 4,.tmp 5]=true:=by kernel_rfl
def C.iV : bU:=C.ins 5 80 210 [.lit (.int .i64 0),.lit (.int .i64 0),.str [],.sl 1 [],.sl 5 []]
theorem K.iV : MP pZ 189 3 2 C.iV [.tmp 6]=true:=by kernel_rfl
def C.l9 : bU:=C.ins 1 16 208 [.str []]
theorem K.l9 : MP pZ 188 3 2 C.l9 [.tmp 6]=true:=by kernel_rfl
def C.o6 : bU:=qs [qX 5 10 2] [0,1,5]<|qs [zM 9 0,qN 10 9,qA 11 3 10,qF 12 1 11,zM 13 1,q2 14 171 12 13,zM 8 14,qE 15 8 0,qE 16 8 1,zM 6 15,zM 7 16] [0,1,5,6,7]<|.seq (qs [zM 17 7] [0,1,5,6,17]<|qc 17 (.seq (.sH [(zM 18 0,[]),(qN 19 18,[0]),(qA 20 4 19,[0,1]),(qF 21 1 20,[0,1,2]),(zM 22 6,[]),(qT 23 5 5,[]),(qD 24 5 21 22,rr6),(qS 5 24 23,rr7)] []) .ret) .skip)<|qs [zM 25 0,zM 26 0,qN 27 26,qA 28 3 27,qF 29 1 28,zM 30 6,zM 31 1,zA 32 (.sZ 11 1 1 [.str []] [(0,.t 31)]),q3 33 188 29 30 32,qN 34 25,qA 35 3 34,qU 1 35 33] [0,5,6]<|.sH [(zM 36 0,[]),(zM 37 0,[]),(qN 38 37,[1]),(qA 39 4 38,[1,2]),(qF 40 1 39,[1,2,3]),(zM 41 6,[]),(qT 42 5 5,[]),(zA 43 (.sZ 12 5 1 [.lit (.int .i64 0),.lit (.int .i64 0),.str [],.sl 1 [],.sl 5 []] [(0,.t 42)]),[6]),(q3 44 189 40 41 43,[1,2,3,4,5,6,7]),(qN 45 36,rr9),(qA 46 4 45,afE),(qU 1 46 44,ahj)] []
theorem K.o6 : jl pZ 172 3 3 C.o6 []=true:=by kernel_rfl
def C.lH : bU:=qs [qX 3 10 0,qX 5 11 2,qZ 6 12,qB 7 false] [1,3,5,6]<|qs [qT 11 5 3,q1 12 124 11,qZ 8 13,qS 5 8 12] [1,3,5,6,8]<|.seq (qs [qA 13 0 3,qF 14 1 13] [1,3,5,6,8,14]<|.block 0<|qs [qk 16 .eql 14 4,zM 15 16] [1,3,5,6,8,14,15]<|qc 15 (qs [zM 17 1,qT 18 5 5,q1 19 124 18,q3 20 172 8 17 19] [6,8]<|qr [qT 21 5 8,qS 5 6 21,qB 7 true] [6,7])<|qs [qk 23 .eql 14 3,zM 22 23] [1,3,5,6,8,22]<|qc 22 (qs [qT 25 5 3,zM 26 1,q2 27 201 25 26,zM 24 27,qE 28 24 0,qE 29 24 1,zM 9 28,zM 10 29] [1,3,5,6,8,9,10]<|.cut (qs [zM 30 10,qO 31 30,zM 32 31,qm 32 true 33 1,zG 32 true 34 (.bin .eql (.t 33)<|.k<|.c<|.str [45]),qm 32 true 35 34,qm 35 false 36 1,zG 35 false 37 (.mW 4<|.t 3),zG 35 false 38 (.load false 1<|.t 37),zG 35 false 39 (.len<|.t 38),⟨(some (35,false)),some 40,.call 148 [.t 39]⟩,zG 35 false 41 (.bin .eql (.t 36)<|.t 40),zG 32 true 42 (.pick (.t 35) (kB true)<|.t 41),qP 43 32 42] [3,5,6,8,9,10,43]<|qc 43 (.reg [qA 44 4 3,qF 45 1 44,qL 46 45,zM 9 46,qB 10 true] [5,6,8,9,10]) .skip)<|.seq (qs [zM 47 10,qO 48 47] [5,6,8,9,48]<|qc 48 (qr [zA 49 (.build zN []),qS 5 6 49,qB 7 false] [6,7]) .skip)<|.seq (.sH [(qA 50 4 8,[]),(qF 51 1 50,[0]),(zM 52 9,[]),(qT 53 5 5,[]),(q1 54 124 53,[3]),(zA 55 (.sZ 14 5 1 [.lit (.int .i64 0),.lit (.int .i64 0),.str [],.sl 1 [],.sl 5 []] [(0,.t 54)]),[3,4]),(q3 56 189 51 52 55,rr6),(qA 57 4 8,rr7),(qU 1 57 56,rr8)] [6,8])<|qr [qT 58 5 8,qS 5 6 58,qB 7 true] [6,7]) .skip)<|qr [zA 59 (.build zN []),qS 5 6 59,qB 7 false] [6,7]
theorem K.lH : jl pZ 199 3 0 C.lH [.cell 6 true 5,.tmp 7]=true:=by kernel_rfl
def C.uK : bU:=qs [qX 4 10 0,qZ 5 11,qB 6 false] [1,2,3,4,5]<|.seq (.sH [(qT 7 5 4,[]),(qF 8 1 1,[]),(qF 9 1 2,[]),(qD 10 1 8 9,[1,2]),(qF 11 1 10,[1,2,3]),(qT 12 5 3,[]),(q3 13 199 7 11 12,rr6),(qE 14 13 0,rr7),(qE 15 13 1,rr7),(qS 5 5 14,rr9),(zM 6 15,afE)] [5,6]) .ret
theorem K.uK : jl pZ 198 4 3 C.uK [.cell 5 true 5,.tmp 6]=true:=by kernel_rfl
def C.fK : bU:=qs [qB 2 false] [0]<|.seq (qs [zM 4 0,ql 5 4,qk 6 .gtr 5 12] [0,6]<|qc 6 (qr [qB 2 false] [2]) .skip)<|.seq (qs [qI 3 0] [0,3]<|.block 0<|.loop<|.seq (qs [zM 7 3,zM 8 0,ql 9 8,qb 10 .lss 7 9] [0,3,10]<|qc 10 .skip<|.exit 0)<|.seq (.block 1<|qs [zM 13 0,zM 14 3,zA 15 (.idxs (.t 13)<|.t 14),zA 16 (.bin .lss (.t 15)<|.k<|.c<|.lit<|.int .u8 32),zM 17 16,qm 17 false 18 0,qm 17 false 19 3,zG 17 false 20 (.idxs (.t 18)<|.t 19),zG 17 false 21 (.bin .gtr (.t 20)<|.k<|.c<|.lit<|.int .u8 126),qQ 22 17 21] [0,3,22]<|qc 22 (qr [qB 2 false] [2]) .skip)<|.reg [zM 11 3,qk 12 .add 11 1,zM 3 12] [0,3])<|qr [qB 2 true] [2]
theorem K.fK : jl pZ 163 1 0 C.fK [.tmp 2]=true:=by kernel_rfl
def C.jZ : bU:=qs [qB 2 false] [0]<|.seq (qs [zM 5 0,qL 6 5,qk 7 .gtr 6 6] [0,7]<|qc 7 (qr [qB 2 false] [2]) .skip)<|.seq (qs [zM 8 0,qL 9 8,qI 10 0] [0,8,9,10]<|.block 0<|.loop<|qs [qb 11 .lss 10 9] [0,8,9,10,11]<|.seq (qc 11 .skip<|.exit 0)<|.seq (.block 1<|qs [zM 12 10,qD 13 1 8 10,qF 14 1 13,zM 3 12,zM 4 14] [0,3,4,8,9,10]<|qs [zM 15 4,q1 16 163 15,qO 17 16,zM 18 17,qm 18 false 19 3,zG 18 false 20 (.bin .gtr (.t 19)<|kI 0),qm 18 false 21 20,qm 21 true 22 0,qm 21 true 23 3,zG 21 true 24 (.bin .sub (.t 23)<|kI 1),zG 21 true 25 (.zD 1 (.t 22)<|.t 24),zG 21 true 26 (.load false 1<|.t 25),qm 21 true 27 4,zG 21 true 28 (.bin .geq (.t 26)<|.t 27),zG 18 false 29 (.pick (.t 21) (.t 28)<|kB false),qQ 30 18 29] [0,8,9,10,30]<|qc 30 (qr [qB 2 false] [2]) .skip)<|.reg [qk 31 .add 10 1,zM 10 31] [0,8,9,10])<|qr [qB 2 true] [2]
theorem K.jZ : jl pZ 164 1 0 C.jZ [.tmp 2]=true:=by kernel_rfl
def C.fU : bU:=qs [qX 1 10 0,qB 2 false] [1]<|.cut (qs [qA 3 0 1,qF 4 1 3,qk 5 .neq 4 1,zM 6 5,zG 6 true 7 (.mW 1<|.t 1),zG 6 true 8 (.load false 1<|.t 7),zG 6 true 9 (.bin .neq (.t 8)<|kI 0),qP 10 6 9,zM 11 10,zG 11 false 12 (.mW 0<|.t 1),zG 11 false 13 (.load false 1<|.t 12),zG 11 false 14 (.bin .neq (.t 13)<|kI 2),qm 11 false 15 14,zG 15 true 16 (.mW 2<|.t 1),zG 15 true 17 (.load false 1<|.t 16),zG 15 true 18 (.bin .neq (.t 17)<|.k<|.c<|.str []),zG 11 false 19 (.pick (.t 15) (.t 18)<|kB false),qQ 20 11 19] [1,20]<|qc 20 (qr [qB 2 false] [2]) .skip)<|.seq (qs [qA 21 0 1,qF 22 1 21,qk 23 .neq 22 4,zM 24 23,zG 24 true 25 (.mW 3<|.t 1),zG 24 true 26 (.load false 1<|.t 25),zG 24 true 27 (.len<|.t 26),zG 24 true 28 (.bin .gtr (.t 27)<|kI 0),qP 29 24 28] [1,29]<|qc 29 (qr [qB 2 false] [2]) .skip)<|.seq (qs [qA 30 0 1,qF 31 1 30] [1,31]<|.block 0<|qs [qk 33 .eql 31 0,zM 32 33] [1,31,32]<|qc 32 (qr [qA 34 4 1,qF 35 1 34,qL 36 35,qk 37 .eql 36 0,zM 2 37] [2])<|qs [qk 39 .eql 31 1,zM 38 39] [1,31,38]<|qc 38 (qr [qA 40 1 1,qF 41 1 40,qk 42 .geq 41 (-999999),zM 43 42,zG 43 true 44 (.mW 1<|.t 1),zG 43 true 45 (.load false 1<|.t 44),zG 43 true 46 (.bin .leq (.t 45)<|kI 999999),qP 47 43 46,zM 48 47,zG 48 true 49 (.mW 4<|.t 1),zG 48 true 50 (.load false 1<|.t 49),zG 48 true 51 (.len<|.t 50),zG 48 true 52 (.bin .eql (.t 51)<|kI 0),qP 53 48 52,zM 2 53] [2])<|qs [qk 55 .eql 31 2,zM 54 55] [1,31,54]<|qc 54 (qr [qA 56 2 1,qF 57 1 56,q1 58 163 57,zM 59 58,zG 59 true 60 (.mW 4<|.t 1),zG 59 true 61 (.load false 1<|.t 60),zG 59 true 62 (.len<|.t 61),zG 59 true 63 (.bin .eql (.t 62)<|kI 0),qP 64 59 63,zM 2 64] [2])<|qs [qk 66 .eql 31 3,zM 65 66] [1,31,65]<|qc 65 (qr [qA 67 4 1,qF 68 1 67,qL 69 68,qk 70 .leq 69 6,zM 2 70] [2])<|qs [qk 72 .eql 31 4,zM 71 72] [1,71]<|qc 71 (qr [qA 73 3 1,qF 74 1 73,q1 75 164 74,zM 76 75,zG 76 true 77 (.mW 4<|.t 1),zG 76 true 78 (.load false 1<|.t 77),zG 76 true 79 (.len<|.t 78),zG 76 true 80 (.mW 3<|.t 1),zG 76 true 81 (.load false 1<|.t 80),zG 76 true 82 (.len<|.t 81),zG 76 true 83 (.bin .eql (.t 79)<|.t 82),qP 84 76 83,zM 2 84] [2]) .skip)<|qr [qB 2 false] [2]
theorem K.fU : jl pZ 144 1 0 C.fU [.tmp 2]=true:=by kernel_rfl
def C.fC : bU:=qs [qX 2 10 0,qI 4 0,qI 5 0,qB 6 false] [1,2]<|.seq (qs [zM 12 1,qk 13 .gtr 12 5,zM 14 13,zG 14 false 15 (.load true 5<|.t 2),⟨(some (14,false)),some 16,.call 144 [.t 15]⟩,zG 14 false 17 (.not<|.t 16),qQ 18 14 17] [1,2,18]<|qc 18 (qr [qI 4 0,qI 5 0,qB 6 false] [4,5,6]) .skip)<|qs [qI 4 1,qI 5 1] [1,2,4,5]<|.seq (qs [qA 19 4 2,qF 20 1 19,qL 21 20,qI 22 0] [1,4,5,20,21,22]<|.block 0<|.loop<|qs [qb 23 .lss 22 21] [1,4,5,20,21,22,23]<|.seq (qc 23 .skip<|.exit 0)<|.seq (.block 1<|qs [qD 24 5 20 22,qT 25 5 24,qZ 8 11,qS 5 8 25] [1,4,5,8,20,21,22]<|qs [qT 27 5 8,zM 28 1,qk 29 .add 28 1,q2 30 119 27 29,zM 26 30,qE 31 26 0,qE 32 26 1,qE 33 26 2,zM 9 31,zM 10 32,zM 11 33] [1,4,5,9,10,11,20,21,22]<|.seq (qs [zM 34 11,qO 35 34] [1,4,5,9,10,20,21,22,35]<|qc 35 (qr [qI 4 0,qI 5 0,qB 6 false] [4,5,6]) .skip)<|qs [zM 36 4,zM 37 9,qb 38 .add 36 37,zM 4 38] [1,4,5,10,20,21,22]<|.reg [zM 39 5,zM 40 10,qk 41 .add 40 1,zA 42 (.max (.t 39)<|.t 41),zM 5 42] [1,4,5,20,21,22])<|.reg [qk 43 .add 22 1,zM 22 43] [1,4,5,20,21,22])<|qr [zM 44 4,zM 45 5,zM 4 44,zM 5 45,qB 6 true] [4,5,6]
theorem K.fC : jl pZ 119 2 0 C.fC [.tmp 4,.tmp 5,.tmp 6]=true:=by kernel_rfl
def C.bJ : bU:=qs [qX 1 10 0,qB 2 false] [1]<|qs [qT 7 5 1,⟨none,some 8,.call 119 [.t 7,kI 1]⟩,zM 6 8,qE 9 6 0,qE 10 6 1,qE 11 6 2,zM 3 9,zM 4 10,zM 5 11] [3,5]<|qr [zM 12 5,zM 13 12,qm 13 true 14 3,zG 13 true 15 (.bin .leq (.t 14)<|kI 40),qP 16 13 15,zM 2 16] [2]
theorem K.bJ : jl pZ 92 1 0 C.bJ [.tmp 2]=true:=by kernel_rfl
def C.CP : bU:=qs [qX 3 10 0,qZ 6 11,qB 7 false] [1,2,3,6]<|.seq (qs [zM 12 1,qL 13 12,qk 14 .eql 13 0] [1,2,3,6,14]<|qc 14 (qr [zM 15 2,qT 16 5 3,⟨none,some 17,.Ja (.t 15) [.t 16]⟩,qE 18 17 0,qE 19 17 1,qS 5 6 18,zM 7 19] [6,7]) .skip)<|.seq (.sH [(qT 21 5 3,[]),(zM 22 1,[]),(zA 23 (.zD 1 (.t 22)<|kI 0),[1]),(qF 24 1 23,[1,2]),(q2 25 201 21 24,rr4),(zM 20 25,rr5),(qE 26 20 0,rr6),(qE 27 20 1,rr6),(zM 8 26,rr7),(zM 9 27,rr9)] [1,2,3,6,8,9])<|.seq (qs [zM 28 9,qO 29 28] [1,2,3,6,8,29]<|qc 29 (qr [zA 30 (.build zN []),qS 5 6 30,qB 7 false] [6,7]) .skip)<|.seq (.sH [(qA 32 4 3,[]),(qF 33 1 32,[0]),(zM 34 8,[]),(qD 35 5 33 34,[0,1,2]),(qT 36 5 35,rr4),(zM 37 1,[]),(zA 38 (.IM 1 (.t 37) (some<|kI 1) none),[5]),(zM 39 2,[]),(q3 40 197 36 38 39,rr8),(zM 31 40,rr9),(qE 41 31 0,afE),(qE 42 31 1,afE),(qZ 10 12,[]),(qS 5 10 41,[0,1,2,3,4,5,6,7,8,9,10,12]),(zM 9 42,akl)] [3,6,8,9,10])<|.seq (qs [zM 43 9,qO 44 43] [3,6,8,10,44]<|qc 44 (qr [zA 45 (.build zN []),qS 5 6 45,qB 7 false] [6,7]) .skip)<|qs [qT 46 5 3,q1 47 124 46,qZ 11 13,qS 5 11 47] [6,8,10,11]<|qs [qA 48 4 11,qF 49 1 48,zM 50 8,qT 51 5 10,qD 52 5 49 50,qS 5 52 51] [6,11]<|qr [qT 53 5 11,qS 5 6 53,qB 7 true] [6,7]
theorem K.jq : jl pZ 197 3 3 C.CP [.cell 6 true 5,.tmp 7]=true:=by kernel_rfl
def C.oZ : bU:=qs [qX 2 10 0,qZ 4 11,qB 5 false] [1,2,4]<|.seq (qs [zM 6 1,qO 7 6,zM 8 7,zG 8 false 9 (.load true 5<|.t 2),⟨(some (8,false)),some 10,.call 92 [.t 9]⟩,zG 8 false 11 (.not<|.t 10),qQ 12 8 11] [2,4,12]<|qc 12 (qr [zA 13 (.build zN []),qS 5 4 13,qB 5 false] [4,5]) .skip)<|qr [qT 14 5 2,qS 5 4 14,qB 5 true] [4,5]
theorem K.oZ : jl pZ 154 2 0 C.oZ [.cell 4 true 5,.tmp 5]=true:=by kernel_rfl
def C.iT : bU:=qs [qB 2 false] [0]<|.seq (qs [zM 5 0,qL 6 5,qk 7 .gtr 6 5] [0,7]<|qc 7 (qr [qB 2 false] [2]) .skip)<|.seq (qs [zM 8 0,qL 9 8,qI 10 0] [8,9,10]<|.block 0<|.loop<|qs [qb 11 .lss 10 9] [8,9,10,11]<|.seq (qc 11 .skip<|.exit 0)<|.seq (.block 1<|qs [qD 12 1 8 10,qF 13 1 12,zM 4 13] [4,8,9,10]<|qs [zM 14 4,q1 15 163 14,qO 16 15] [8,9,10,16]<|qc 16 (qr [qB 2 false] [2]) .skip)<|.reg [qk 17 .add 10 1,zM 10 17] [8,9,10])<|qr [qB 2 true] [2]
theorem K.iT : jl pZ 145 1 0 C.iT [.tmp 2]=true:=by kernel_rfl
def C.ou : bU:=qs [qX 3 10 0,qX 4 11 1,qX 5 12 2,qZ 6 13,qB 7 false] [3,4,5,6]<|.seq (qs [qT 9 5 3,q1 10 92 9,qO 11 10,zM 12 11,zG 12 false 13 (.load false 1<|.t 4),⟨(some (12,false)),some 14,.call 145 [.t 13]⟩,zG 12 false 15 (.not<|.t 14),qQ 16 12 15,zM 17 16,zG 17 false 18 (.load true 5<|.t 5),⟨(some (17,false)),some 19,.call 92 [.t 18]⟩,zG 17 false 20 (.not<|.t 19),qQ 21 17 20] [3,4,5,6,21]<|qc 21 (qr [zA 22 (.build zN []),qS 5 6 22,qB 7 false] [6,7]) .skip)<|.seq (qs [qF 23 1 4,qL 24 23,qk 25 .eql 24 0] [3,4,5,6,25]<|qc 25 (qr [qT 26 5 5,q1 27 124 26,qS 5 6 27,qB 7 true] [6,7]) .skip)<|qs [qF 28 1 4,qL 29 28,qk 30 .sub 29 1,zA 8 (.alloc 14 [oJ 0]),qU 1 8 30] [3,4,5,6,8]<|.seq (.sH [(qT 31 5 3,[]),(qF 32 1 4,[]),(qF 33 1 8,[]),(zA 34 (.IM 1 (.t 32) none<|some<|.t 33),[1,2]),(zA 35 (.ZU 198 [.t 4,.t 8,.t 5]),[]),(q3 36 197 31 34 35,rr5),(qE 37 36 0,rr6),(qE 38 36 1,rr6),(q2 39 154 37 38,rr8),(qE 40 39 0,rr9),(qE 41 39 1,rr9),(qS 5 6 40,ahj),(zM 7 41,ajd)] [6,7]) .ret
theorem K.ou : jl pZ 178 3 0 C.ou [.cell 6 true 5,.tmp 7]=true:=by kernel_rfl
def C.kz : bU:=qs [qX 2 10 0,qZ 4 11,qB 5 false] [1,2,4]<|.seq (qs [zM 10 1,qL 11 10,qI 12 0] [2,4,10,11,12]<|.block 0<|.loop<|qs [qb 13 .lss 12 11] [2,4,10,11,12,13]<|.seq (qc 13 .skip<|.exit 0)<|.seq (.block 1<|qs [qD 14 1 10 12,qF 15 1 14,zM 7 15] [2,4,7,10,11,12]<|qs [qT 17 5 2,zM 18 7,q2 19 201 17 18,zM 16 19,qE 20 16 0,qE 21 16 1,zM 8 20,zM 9 21] [2,4,8,9,10,11,12]<|.seq (qs [zM 22 9,qO 23 22] [2,4,8,10,11,12,23]<|qc 23 (qr [zA 24 (.build zN []),qS 5 4 24,qB 5 false] [4,5]) .skip)<|.reg [qA 25 4 2,qF 26 1 25,zM 27 8,qD 28 5 26 27,qT 29 5 28,qS 5 2 29] [2,4,10,11,12])<|.reg [qk 30 .add 12 1,zM 12 30] [2,4,10,11,12])<|qr [qT 31 5 2,qS 5 4 31,qB 5 true] [4,5]
theorem K.kz : jl pZ 204 2 0 C.kz [.cell 4 true 5,.tmp 5]=true:=by kernel_rfl
def C.um : bU:=qs [qX 2 10 0,qZ 4 11,qB 5 false] [1,2,4]<|.seq (qs [qT 8 5 2,q1 9 92 8,qO 10 9,zM 11 10,qm 11 false 12 1,⟨(some (11,false)),some 13,.call 145 [.t 12]⟩,zG 11 false 14 (.not<|.t 13),qQ 15 11 14] [1,2,4,15]<|qc 15 (qr [zA 16 (.build zN []),qS 5 4 16,qB 5 false] [4,5]) .skip)<|qs [qT 18 5 2,zM 19 1,q2 20 204 18 19,zM 17 20,qE 21 17 0,qE 22 17 1,qZ 6 12,qS 5 6 21,zM 7 22] [4,6,7]<|.seq (qs [zM 23 7,qO 24 23] [4,6,24]<|qc 24 (qr [zA 25 (.build zN []),qS 5 4 25,qB 5 false] [4,5]) .skip)<|qr [qT 26 5 6,q1 27 124 26,qS 5 4 27,qB 5 true] [4,5]
theorem K.um : jl pZ 182 2 0 C.um [.cell 4 true 5,.tmp 5]=true:=by kernel_rfl
def C.jM : bU:=C.del 5 80 [.lit (.int .i64 0),.lit (.int .i64 0),.str [],.sl 1 [],.sl 5 []]
theorem K.jM : MP pZ 185 3 1 C.jM [.tmp 6]=true:=by kernel_rfl
def C.slices_Delete_string : bU:=C.del 1 16 [.str []]
theorem K.slices_Delete_string : MP pZ 184 3 1 C.slices_Delete_string [.tmp 6]=true:=by kernel_rfl
def C.jd : bU:=qs [qX 3 10 0,qZ 4 11,qB 5 false] [1,2,3,4]<|.seq (.sH [(qT 10 5 3,[]),(qF 11 1 1,[]),(qF 12 1 2,[]),(qD 13 1 11 12,[1,2]),(qF 14 1 13,[1,2,3]),(q2 15 201 10 14,rr5),(zM 9 15,rr6),(qE 16 9 0,rr7),(qE 17 9 1,rr7),(zM 6 16,rr8),(zM 7 17,afE)] [3,4,6,7])<|.seq (qs [zM 18 7,qO 19 18] [3,4,6,19]<|qc 19 (qr [zA 20 (.build zN []),qS 5 4 20,qB 5 false] [4,5]) .skip)<|qs [qT 21 5 3,q1 22 124 21,qZ 8 12,qS 5 8 22] [3,4,6,8]<|.cut (qs [qA 23 0 3,qF 24 1 23,qk 25 .eql 24 4] [4,6,8,25]<|qc 25 (.reg [qA 26 3 8,qF 27 1 26,zM 28 6,zM 29 6,qk 30 .add 29 1,q3 31 184 27 28 30,qA 32 3 8,qU 1 32 31] [4,6,8]) .skip)<|qs [qA 33 4 8,qF 34 1 33,zM 35 6,zM 36 6,qk 37 .add 36 1,q3 38 185 34 35 37,qA 39 4 8,qU 1 39 38] [4,8]<|qr [qT 40 5 8,qS 5 4 40,qB 5 true] [4,5]
theorem K.jd : jl pZ 200 3 2 C.jd [.cell 4 true 5,.tmp 5]=true:=by kernel_rfl
theorem K.iI : jl pZ 197 3 2 C.CP [.cell 6 true 5,.tmp 7]=true:=by kernel_rfl
def C.lS : bU:=qs [qX 2 10 0,qX 3 11 1,qZ 4 12,qB 5 false] [2,3,4]<|.seq (qs [qT 7 5 2,q1 8 92 7,qO 9 8,zM 10 9,zG 10 false 11 (.load false 1<|.t 3),⟨(some (10,false)),some 12,.call 145 [.t 11]⟩,zG 10 false 13 (.not<|.t 12),qQ 14 10 13,zM 15 14,zG 15 false 16 (.load false 1<|.t 3),zG 15 false 17 (.len<|.t 16),zG 15 false 18 (.bin .eql (.t 17)<|kI 0),qQ 19 15 18] [2,3,4,19]<|qc 19 (qr [zA 20 (.build zN []),qS 5 4 20,qB 5 false] [4,5]) .skip)<|qs [qF 21 1 3,qL 22 21,qk 23 .sub 22 1,zA 6 (.alloc 13 [oJ 0]),qU 1 6 23] [2,3,4,6]<|.seq (.sH [(qT 24 5 2,[]),(qF 25 1 3,[]),(qF 26 1 6,[]),(zA 27 (.IM 1 (.t 25) none<|some<|.t 26),[1,2]),(zA 28 (.ZU 200 [.t 3,.t 6]),[]),(q3 29 197 24 27 28,rr5),(qE 30 29 0,rr6),(qE 31 29 1,rr6),(qS 5 4 30,rr8),(zM 5 31,rr9)] [4,5]) .ret
theorem K.lS : jl pZ 179 2 0 C.lS [.cell 4 true 5,.tmp 5]=true:=by kernel_rfl
def C.uM : bU:=qs [qX 2 10 0,qZ 3 11,qB 4 false] [1,3]<|qr [qT 5 5 1,q1 6 124 5,qS 5 3 6,qB 4 true] [3,4]
theorem K.uM : jl pZ 202 2 1 C.uM [.cell 3 true 5,.tmp 4]=true:=by kernel_rfl
theorem K.jv : jl pZ 197 3 1 C.CP [.cell 6 true 5,.tmp 7]=true:=by kernel_rfl
def C.uU : bU:=qs [qX 3 10 0,qX 5 11 2,qZ 6 12,qB 7 false] [1,3,5,6]<|.seq (qs [qT 8 5 3,q1 9 92 8,qO 10 9,zM 11 10,qm 11 false 12 1,⟨(some (11,false)),some 13,.call 145 [.t 12]⟩,zG 11 false 14 (.not<|.t 13),qQ 15 11 14,zM 16 15,zG 16 false 17 (.load true 5<|.t 5),⟨(some (16,false)),some 18,.call 92 [.t 17]⟩,zG 16 false 19 (.not<|.t 18),qQ 20 16 19] [1,3,5,6,20]<|qc 20 (qr [zA 21 (.build zN []),qS 5 6 21,qB 7 false] [6,7]) .skip)<|qr [qT 22 5 3,zM 23 1,zA 24 (.ZU 202 [.t 5]),q3 25 197 22 23 24,qE 26 25 0,qE 27 25 1,q2 28 154 26 27,qE 29 28 0,qE 30 28 1,qS 5 6 29,zM 7 30] [6,7]
theorem K.uU : jl pZ 180 3 0 C.uU [.cell 6 true 5,.tmp 7]=true:=by kernel_rfl
def C.uy : bU:=qs [qX 1 10 0,qB 2 false] [1]<|qr [qA 3 0 1,qF 4 1 3,qk 5 .geq 4 1,zM 6 5,zG 6 true 7 (.mW 0<|.t 1),zG 6 true 8 (.load false 1<|.t 7),zG 6 true 9 (.bin .leq (.t 8)<|kI 6),qP 10 6 9,zM 11 10,zG 11 true 12 (.mW 1<|.t 1),zG 11 true 13 (.load false 1<|.t 12),⟨(some (11,true)),some 14,.call 145 [.t 13]⟩,qP 15 11 14,zM 16 15,zG 16 true 17 (.mW 2<|.t 1),zG 16 true 18 (.load false 1<|.t 17),⟨(some (16,true)),some 19,.call 145 [.t 18]⟩,qP 20 16 19,zM 21 20,zG 21 true 22 (.mW 3<|.t 1),zG 21 true 23 (.load true 5<|.t 22),⟨(some (21,true)),some 24,.call 92 [.t 23]⟩,qP 25 21 24,zM 2 25] [2]
theorem K.uy : jl pZ 120 1 0 C.uy [.tmp 2]=true:=by kernel_rfl
def C.slices_Equal_string : bU:=qs [qB 4 false] [0,1]<|.seq (qs [zM 6 0,qL 7 6,zM 8 1,qL 9 8,qb 10 .neq 7 9] [0,1,10]<|qc 10 (qr [qB 4 false] [4]) .skip)<|.seq (qs [zM 11 0,qL 12 11,qI 13 0] [0,1,12,13]<|.block 0<|.loop<|qs [qb 14 .lss 13 12] [0,1,12,13,14]<|.seq (qc 14 .skip<|.exit 0)<|.seq (.block 1<|qs [zM 15 13,zM 5 15] [0,1,5,12,13]<|.seq (.sH [(zM 16 0,[]),(zM 17 5,[]),(qD 18 1 16 17,[0,1]),(qF 19 1 18,[0,1,2]),(zM 20 1,[]),(zM 21 5,[]),(qD 22 1 20 21,[4,5]),(qF 23 1 22,[4,5,6]),(qb 24 .neq 19 23,rr8)] [0,1,12,13,24])<|qc 24 (qr [qB 4 false] [4]) .skip)<|.reg [qk 25 .add 13 1,zM 13 25] [0,1,12,13])<|qr [qB 4 true] [4]
theorem K.slices_Equal_string : jl pZ 203 2 0 C.slices_Equal_string [.tmp 4]=true:=by kernel_rfl
def C.uj : bU:=qs [qX 3 10 0,qZ 6 11,qB 7 false] [1,2,3,6]<|qs [qT 12 5 3,zM 13 1,q2 14 182 12 13,zM 11 14,qE 15 11 0,qE 16 11 1,qZ 8 12,qS 5 8 15,zM 9 16] [1,2,3,6,8,9]<|.seq (qs [zM 17 9,qO 18 17] [1,2,3,6,8,18]<|qc 18 (qr [zA 19 (.build zN []),qS 5 6 19,qB 7 false] [6,7]) .skip)<|.seq (qs [zM 20 2,zM 21 1,q2 22 203 20 21] [1,2,3,6,8,22]<|qc 22 (qr [qT 23 5 3,q1 24 124 23,qS 5 6 24,qB 7 true] [6,7]) .skip)<|.seq (qs [zM 25 2,qL 26 25,zM 27 1,qL 28 27,qb 29 .gtr 26 28,zM 30 29,qm 30 true 31 2,qm 30 true 32 1,zG 30 true 33 (.len<|.t 32),zG 30 true 34 (.IM 1 (.t 31) none<|some<|.t 33),qm 30 true 35 1,⟨(some (30,true)),some 36,.call 203 [.t 34,.t 35]⟩,qP 37 30 36] [1,2,3,6,8,37]<|qc 37 (qr [zA 38 (.build zN []),qS 5 6 38,qB 7 false] [6,7]) .skip)<|qs [qT 40 5 3,zM 41 1,q2 42 179 40 41,zM 39 42,qE 43 39 0,qE 44 39 1,qZ 10 13,qS 5 10 43,zM 9 44] [2,6,8,9,10]<|.seq (qs [zM 45 9,qO 46 45] [2,6,8,10,46]<|qc 46 (qr [zA 47 (.build zN []),qS 5 6 47,qB 7 false] [6,7]) .skip)<|qr [qT 48 5 10,zM 49 2,qT 50 5 8,q3 51 178 48 49 50,qE 52 51 0,qE 53 51 1,qS 5 6 52,zM 7 53] [6,7]
theorem K.uj : jl pZ 181 3 0 C.uj [.cell 6 true 5,.tmp 7]=true:=by kernel_rfl
def C.gU : bU:=qs [qI 4 0] [0,1]<|qr [zM 5 0,zM 6 1,zA 7 (.afX (.t 5)<|.t 6),zM 4 7] [4]
theorem K.gU : jl pZ 146 2 0 C.gU [.tmp 4]=true:=by kernel_rfl
def C.strings_Compare : bU:=qs [qI 4 0] [0,1]<|qr [zM 5 0,zM 6 1,q2 7 146 5 6,zM 4 7] [4]
theorem K.strings_Compare : jl pZ 123 2 0 C.strings_Compare [.tmp 4]=true:=by kernel_rfl
def C.dw : bU:=qs [qX 2 10 0,qX 3 11 1,qI 4 0] [2,3]<|.seq (qs [qA 11 0 2,qF 12 1 11,qA 13 0 3,qF 14 1 13,q2 15 223 12 14,zM 5 15] [2,3,5]<|qs [zM 16 5,qk 17 .neq 16 0] [2,3,5,17]<|qc 17 (qr [zM 18 5,zM 4 18] [4]) .skip)<|.seq (qs [qA 19 1 2,qF 20 1 19,qA 21 1 3,qF 22 1 21,q2 23 223 20 22,zM 6 23] [2,3,6]<|qs [zM 24 6,qk 25 .neq 24 0] [2,3,6,25]<|qc 25 (qr [zM 26 6,zM 4 26] [4]) .skip)<|.seq (qs [qA 27 2 2,qF 28 1 27,qA 29 2 3,qF 30 1 29,q2 31 123 28 30,zM 7 31] [2,3,7]<|qs [zM 32 7,qk 33 .neq 32 0] [2,3,7,33]<|qc 33 (qr [zM 34 7,zM 4 34] [4]) .skip)<|.seq (qs [qI 8 0] [2,3,8]<|.block 0<|.loop<|.seq (qs [zM 35 8,qA 36 4 2,qF 37 1 36,qL 38 37,qb 39 .lss 35 38,zM 40 39,qm 40 true 41 8,zG 40 true 42 (.mW 4<|.t 3),zG 40 true 43 (.load false 1<|.t 42),zG 40 true 44 (.len<|.t 43),zG 40 true 45 (.bin .lss (.t 41)<|.t 44),qP 46 40 45] [2,3,8,46]<|qc 46 .skip<|.exit 0)<|.seq (.block 1<|.cut (qs [qA 49 0 2,qF 50 1 49,qk 51 .eql 50 4] [2,3,8,51]<|qc 51 (.seq (.sH [(qA 52 3 2,[]),(qF 53 1 52,[0]),(zM 54 8,[]),(qD 55 1 53 54,[0,1,2]),(qF 56 1 55,rr4),(qA 57 3 3,[]),(qF 58 1 57,[5]),(zM 59 8,[]),(qD 60 1 58 59,[5,6,7]),(qF 61 1 60,[5,6,7,8]),(q2 62 123 56 61,afE),(zM 9 62,ahj)] [2,3,8,9])<|qs [zM 63 9,qk 64 .neq 63 0] [2,3,8,9,64]<|qc 64 (qr [zM 65 9,zM 4 65] [4]) .skip) .skip)<|.seq (.sH [(qA 66 4 2,[]),(qF 67 1 66,[0]),(zM 68 8,[]),(qD 69 5 67 68,[0,1,2]),(qT 70 5 69,rr4),(qA 71 4 3,[]),(qF 72 1 71,[5]),(zM 73 8,[]),(qD 74 5 72 73,[5,6,7]),(qT 75 5 74,[5,6,7,8]),(q2 76 218 70 75,afE),(zM 10 76,ahj)] [2,3,8,10])<|qs [zM 77 10,qk 78 .neq 77 0] [2,3,8,10,78]<|qc 78 (qr [zM 79 10,zM 4 79] [4]) .skip)<|.reg [zM 47 8,qk 48 .add 47 1,zM 8 48] [2,3,8])<|qr [qA 80 4 2,qF 81 1 80,qL 82 81,qA 83 4 3,qF 84 1 83,qL 85 84,q2 86 223 82 85,zM 4 86] [4]
theorem K.dw : jl pZ 218 2 0 C.dw [.tmp 4]=true:=by kernel_rfl
def C.uk : bU:=qs [qX 2 10 0,qX 3 11 1,qB 4 false] [2,3]<|qr [qT 5 5 2,qT 6 5 3,q2 7 218 5 6,qk 8 .eql 7 0,zM 4 8] [4]
theorem K.uk : jl pZ 205 2 0 C.uk [.tmp 4]=true:=by kernel_rfl
def C.rP : bU:=qs [qX 3 10 0,qX 5 11 2,qZ 6 12,qB 7 false] [1,3,5,6]<|qs [qT 11 5 3,zM 12 1,q2 13 204 11 12,zM 10 13,qE 14 10 0,qE 15 10 1,qZ 8 13,qS 5 8 14,zM 9 15] [3,5,6,8,9]<|.seq (qs [zM 16 9,qO 17 16,zM 18 17,zG 18 false 19 (.load true 5<|.t 8),zG 18 false 20 (.load true 5<|.t 5),⟨(some (18,false)),some 21,.call 205 [.t 19,.t 20]⟩,zG 18 false 22 (.not<|.t 21),qQ 23 18 22] [3,6,23]<|qc 23 (qr [zA 24 (.build zN []),qS 5 6 24,qB 7 false] [6,7]) .skip)<|qr [qT 25 5 3,q1 26 124 25,qS 5 6 26,qB 7 true] [6,7]
theorem K.rP : jl pZ 183 3 0 C.rP [.cell 6 true 5,.tmp 7]=true:=by kernel_rfl
def C.ru : bU:=qs [qX 2 10 0,qX 3 11 1,qZ 4 12,qB 5 false] [2,3,4]<|.seq (qs [qT 8 5 2,q1 9 92 8,qO 10 9,zM 11 10,zG 11 false 12 (.load true 8<|.t 3),⟨(some (11,false)),some 13,.call 120 [.t 12]⟩,zG 11 false 14 (.not<|.t 13),qQ 15 11 14] [2,3,4,15]<|qc 15 (qr [zA 16 (.build zN []),qS 5 4 16,qB 5 false] [4,5]) .skip)<|.seq (qs [qA 17 0 3,qF 18 1 17] [2,3,4,18]<|.block 0<|qs [qk 20 .eql 18 1,zM 19 20] [2,3,4,18,19]<|qc 19 (qr [qT 21 5 2,qA 22 1 3,qF 23 1 22,qA 24 3 3,qT 25 5 24,q3 26 178 21 23 25,qE 27 26 0,qE 28 26 1,qS 5 4 27,zM 5 28] [4,5])<|qs [qk 30 .eql 18 2,zM 29 30] [2,3,4,18,29]<|qc 29 (qr [qT 31 5 2,qA 32 1 3,qF 33 1 32,q2 34 179 31 33,qE 35 34 0,qE 36 34 1,qS 5 4 35,zM 5 36] [4,5])<|qs [qk 38 .eql 18 3,zM 37 38] [2,3,4,18,37]<|qc 37 (qr [qT 39 5 2,qA 40 1 3,qF 41 1 40,qA 42 3 3,qT 43 5 42,q3 44 180 39 41 43,qE 45 44 0,qE 46 44 1,qS 5 4 45,zM 5 46] [4,5])<|qs [qk 48 .eql 18 4,zM 47 48] [2,3,4,18,47]<|qc 47 (qr [qT 49 5 2,qA 50 2 3,qF 51 1 50,qA 52 1 3,qF 53 1 52,q3 54 181 49 51 53,qE 55 54 0,qE 56 54 1,qS 5 4 55,zM 5 56] [4,5])<|qs [qk 58 .eql 18 5,zM 57 58] [2,3,4,57]<|qc 57 (qs [qT 60 5 2,qA 61 2 3,qF 62 1 61,q2 63 182 60 62,zM 59 63,qE 64 59 0,qE 65 59 1,qZ 6 13,qS 5 6 64,zM 7 65] [2,3,4,6,7]<|.seq (qs [zM 66 7,qO 67 66] [2,3,4,6,67]<|qc 67 (qr [zA 68 (.build zN []),qS 5 4 68,qB 5 false] [4,5]) .skip)<|qr [qT 69 5 2,qA 70 1 3,qF 71 1 70,qT 72 5 6,q3 73 178 69 71 72,qE 74 73 0,qE 75 73 1,qS 5 4 74,zM 5 75] [4,5]) .skip)<|qr [qT 76 5 2,qA 77 1 3,qF 78 1 77,qA 79 3 3,qT 80 5 79,q3 81 183 76 78 80,qE 82 81 0,qE 83 81 1,qS 5 4 82,zM 5 83] [4,5]
theorem K.ru : jl pZ 169 2 0 C.ru [.cell 4 true 5,.tmp 5]=true:=by kernel_rfl
def C.eX : bU:=qs [qB 2 false] [0]<|.seq (qs [zM 5 0,qL 6 5,qk 7 .gtr 6 12] [0,7]<|qc 7 (qr [qB 2 false] [2]) .skip)<|.seq (qs [zM 8 0,qL 9 8,qI 10 0] [8,9,10]<|.block 0<|.loop<|qs [qb 11 .lss 10 9] [8,9,10,11]<|.seq (qc 11 .skip<|.exit 0)<|.seq (.block 1<|qs [qD 12 8 8 10,qT 13 8 12,zA 4 (.alloc 10 [oJ 0,.lF 1,.lF 1,oJ 0,oJ 0,.c (.str []),.lF 1,.lF 5]),qS 8 4 13] [4,8,9,10]<|qs [qT 14 8 4,q1 15 120 14,qO 16 15] [8,9,10,16]<|qc 16 (qr [qB 2 false] [2]) .skip)<|.reg [qk 17 .add 10 1,zM 10 17] [8,9,10])<|qr [qB 2 true] [2]
theorem K.eX : jl pZ 94 1 0 C.eX [.tmp 2]=true:=by kernel_rfl
def C.kV : bU:=qs [qX 2 10 0,qZ 4 11,qI 5 0] [1,2,4]<|qs [qT 11 5 2,q1 12 124 11,qZ 6 12,qS 5 6 12] [1,4,6]<|.seq (qs [zM 13 1,qL 14 13,qI 15 0] [1,4,6,13,14,15]<|.block 0<|.loop<|qs [qb 16 .lss 15 14] [1,4,6,13,14,15,16]<|.seq (qc 16 .skip<|.exit 0)<|.seq (.block 1<|qs [zM 17 15,qD 18 8 13 15,qT 19 8 18,zA 8 (.alloc 13 [oJ 0,.lF 1,.lF 1,oJ 0,oJ 0,.c (.str []),.lF 1,.lF 5]),zM 7 17,qS 8 8 19] [1,4,6,7,8,13,14,15]<|qs [qT 21 5 6,qT 22 8 8,q2 23 169 21 22,zM 20 23,qE 24 20 0,qE 25 20 1,qZ 9 14,qS 5 9 24,zM 10 25] [1,4,6,7,9,10,13,14,15]<|.seq (qs [zM 26 10,qO 27 26] [1,4,6,7,9,13,14,15,27]<|qc 27 (qr [zA 28 (.build zN []),zM 29 7,qS 5 4 28,zM 5 29] [4,5]) .skip)<|.reg [qT 30 5 9,qS 5 6 30] [1,4,6,13,14,15])<|.reg [qk 31 .add 15 1,zM 15 31] [1,4,6,13,14,15])<|qr [qT 32 5 6,zM 33 1,qL 34 33,qS 5 4 32,zM 5 34] [4,5]
theorem K.kV : jl pZ 153 2 0 C.kV [.cell 4 true 5,.tmp 5]=true:=by kernel_rfl
def C.qJ : bU:=qs [qX 2 10 0,qZ 4 11,qB 5 false] [1,2,4]<|.seq (qs [qT 8 5 2,q1 9 92 8,qO 10 9,zM 11 10,qm 11 false 12 1,⟨(some (11,false)),some 13,.call 94 [.t 12]⟩,zG 11 false 14 (.not<|.t 13),qQ 15 11 14] [1,2,4,15]<|qc 15 (qr [zA 16 (.build zN []),qS 5 4 16,qB 5 false] [4,5]) .skip)<|qs [qT 18 5 2,zM 19 1,q2 20 153 18 19,zM 17 20,qE 21 17 0,qE 22 17 1,qZ 6 12,qS 5 6 21,zM 7 22] [1,4,6,7]<|qr [qT 23 5 6,zM 24 7,zM 25 1,qL 26 25,qb 27 .eql 24 26,qS 5 4 23,zM 5 27] [4,5]
theorem K.qJ : jl pZ 130 2 0 C.qJ [.cell 4 true 5,.tmp 5]=true:=by kernel_rfl
def C.jJ : bU:=qs [qI 4 0] [0,1]<|qr [zM 5 0,zM 6 1,zA 7 (.agj (.t 5)<|.t 6),zM 4 7] [4]
theorem K.jJ : jl pZ 151 2 0 C.jJ [.tmp 4]=true:=by kernel_rfl
def C.strings_IndexByte : bU:=qs [qI 4 0] [0,1]<|qr [zM 5 0,zM 6 1,q2 7 151 5 6,zM 4 7] [4]
theorem K.strings_IndexByte : jl pZ 127 2 0 C.strings_IndexByte [.tmp 4]=true:=by kernel_rfl
def C.oM : bU:=qs [qB 2 false] [0]<|.seq (qs [zM 4 0,ql 5 4,qk 6 .neq 5 4] [0,6]<|qc 6 (qr [qB 2 false] [2]) .skip)<|.seq (qs [qI 3 0] [0,3]<|.block 0<|.loop<|.seq (qs [zM 7 3,zM 8 0,ql 9 8,qb 10 .lss 7 9] [0,3,10]<|qc 10 .skip<|.exit 0)<|.seq (.block 1<|qs [zM 13 0,zM 14 3,zA 15 (.idxs (.t 13)<|.t 14),⟨none,some 16,.call 127 [.k (.c<|.str [48,49,50,51,52,53,54,55,56,57,97,98,99,100,101,102]),.t 15]⟩,qk 17 .lss 16 0] [0,3,17]<|qc 17 (qr [qB 2 false] [2]) .skip)<|.reg [zM 11 3,qk 12 .add 11 1,zM 3 12] [0,3])<|qr [qB 2 true] [2]
theorem K.oM : jl pZ 99 1 0 C.oM [.tmp 2]=true:=by kernel_rfl
def C.jG : bU:=qs [qB 2 false] [0]<|.seq (qs [zM 5 0,qL 6 5,qk 7 .gtr 6 4] [0,7]<|qc 7 (qr [qB 2 false] [2]) .skip)<|.seq (qs [zM 8 0,qL 9 8,qI 10 0] [8,9,10]<|.block 0<|.loop<|qs [qb 11 .lss 10 9] [8,9,10,11]<|.seq (qc 11 .skip<|.exit 0)<|.seq (.block 1<|qs [qD 12 1 8 10,qF 13 1 12,zM 4 13] [4,8,9,10]<|qs [zM 14 4,zA 15 (.bin .neq (.t 14)<|.k<|.c<|.str [42]),zM 16 15,qm 16 true 17 4,⟨(some (16,true)),some 18,.call 99 [.t 17]⟩,zG 16 true 19 (.not<|.t 18),qP 20 16 19] [8,9,10,20]<|qc 20 (qr [qB 2 false] [2]) .skip)<|.reg [qk 21 .add 10 1,zM 10 21] [8,9,10])<|qr [qB 2 true] [2]
theorem K.jG : jl pZ 93 1 0 C.jG [.tmp 2]=true:=by kernel_rfl
def C.slices_Index_string : bU:=qs [qI 4 0] [0,1]<|.seq (qs [zM 6 0,qL 7 6,qI 8 0] [0,1,7,8]<|.block 0<|.loop<|qs [qb 9 .lss 8 7] [0,1,7,8,9]<|.seq (qc 9 .skip<|.exit 0)<|.seq (.block 1<|qs [zM 10 8,zM 5 10] [0,1,5,7,8]<|qs [zM 11 1,zM 12 0,zM 13 5,qD 14 1 12 13,qF 15 1 14,qb 16 .eql 11 15] [0,1,5,7,8,16]<|qc 16 (qr [zM 17 5,zM 4 17] [4]) .skip)<|.reg [qk 18 .add 8 1,zM 8 18] [0,1,7,8])<|qr [qI 4 (-1)] [4]
theorem K.slices_Index_string : jl pZ 152 2 0 C.slices_Index_string [.tmp 4]=true:=by kernel_rfl
def C.slices_Contains_string : bU:=qs [qB 4 false] [0,1]<|qr [zM 5 0,zM 6 1,q2 7 152 5 6,qk 8 .geq 7 0,zM 4 8] [4]
theorem K.slices_Contains_string : jl pZ 128 2 0 C.slices_Contains_string [.tmp 4]=true:=by kernel_rfl
def C.qx : bU:=qs [qB 4 false] [0,1]<|qr [zM 5 0,zM 6 1,q2 7 128 5 6,zM 8 7,qm 8 false 9 0,⟨(some (8,false)),some 10,.call 128 [.t 9,.k (.c<|.str [42])]⟩,qQ 11 8 10,zM 4 11] [4]
theorem K.qx : jl pZ 100 2 0 C.qx [.tmp 4]=true:=by kernel_rfl
def C.kK : bU:=qs [qI 8 0] [0,1,2,3]<|.cut (qs [zM 9 0,q1 10 93 9,qO 11 10,zM 12 11,qm 12 false 13 1,⟨(some (12,false)),some 14,.call 93 [.t 13]⟩,zG 12 false 15 (.not<|.t 14),qQ 16 12 15,zM 17 16,qm 17 false 18 2,zG 17 false 19 (.bin .neq (.t 18)<|.k<|.c<|.str []),qm 17 false 20 19,qm 20 true 21 2,⟨(some (20,true)),some 22,.call 99 [.t 21]⟩,zG 20 true 23 (.not<|.t 22),zG 17 false 24 (.pick (.t 20) (.t 23)<|kB false),qQ 25 17 24] [0,1,2,3,25]<|qc 25 (qr [qI 8 400] [8]) .skip)<|.seq (qs [zM 26 0,qL 27 26,qk 28 .gtr 27 0,zM 29 28,qm 29 true 30 2,zG 29 true 31 (.bin .eql (.t 30)<|.k<|.c<|.str []),qm 29 true 32 31,qm 32 false 33 0,qm 32 false 34 2,⟨(some (32,false)),some 35,.call 100 [.t 33,.t 34]⟩,zG 32 false 36 (.not<|.t 35),zG 29 true 37 (.pick (.t 32) (kB true)<|.t 36),qP 38 29 37] [1,2,3,38]<|qc 38 (qr [qI 8 412] [8]) .skip)<|.seq (qs [zM 39 1,qL 40 39,qk 41 .gtr 40 0,zM 42 41,qm 42 true 43 2,zG 42 true 44 (.bin .neq (.t 43)<|.k<|.c<|.str []),qP 45 42 44,zM 46 45,qm 46 true 47 1,qm 46 true 48 2,⟨(some (46,true)),some 49,.call 100 [.t 47,.t 48]⟩,qP 50 46 49] [3,50]<|qc 50 (.seq (qs [zM 51 3] [51]<|qc 51 (qr [qI 8 304] [8]) .skip)<|qr [qI 8 412] [8]) .skip)<|qr [qI 8 200] [8]
theorem K.kK : jl pZ 48 4 0 C.kK [.tmp 8]=true:=by kernel_rfl
def C.jR : bU:=qs [qB 2 false] [0]<|.seq (qs [zM 4 0,zA 5 (.bin .eql (.t 4)<|.k<|.c<|.str []),zM 6 5,qm 6 false 7 0,zG 6 false 8 (.lens<|.t 7),zG 6 false 9 (.bin .gtr (.t 8)<|kI 8),qQ 10 6 9] [0,10]<|qc 10 (qr [qB 2 false] [2]) .skip)<|.seq (qs [qI 3 0] [0,3]<|.block 0<|.loop<|.seq (qs [zM 11 3,zM 12 0,ql 13 12,qb 14 .lss 11 13] [0,3,14]<|qc 14 .skip<|.exit 0)<|.seq (.block 1<|qs [zM 17 0,zM 18 3,zA 19 (.idxs (.t 17)<|.t 18),zA 20 (.bin .lss (.t 19)<|.k<|.c<|.lit<|.int .u8 97),zM 21 20,qm 21 false 22 0,qm 21 false 23 3,zG 21 false 24 (.idxs (.t 22)<|.t 23),zG 21 false 25 (.bin .gtr (.t 24)<|.k<|.c<|.lit<|.int .u8 122),qQ 26 21 25,zM 27 26,qm 27 true 28 0,qm 27 true 29 3,zG 27 true 30 (.idxs (.t 28)<|.t 29),zG 27 true 31 (.bin .lss (.t 30)<|.k<|.c<|.lit<|.int .u8 48),qm 27 true 32 31,qm 32 false 33 0,qm 32 false 34 3,zG 32 false 35 (.idxs (.t 33)<|.t 34),zG 32 false 36 (.bin .gtr (.t 35)<|.k<|.c<|.lit<|.int .u8 57),zG 27 true 37 (.pick (.t 32) (kB true)<|.t 36),qP 38 27 37] [0,3,38]<|qc 38 (qr [qB 2 false] [2]) .skip)<|.reg [zM 15 3,qk 16 .add 15 1,zM 3 16] [0,3])<|qr [qB 2 true] [2]
theorem K.jR : jl pZ 91 1 0 C.jR [.tmp 2]=true:=by kernel_rfl
def C.bM : bU:=qs [qX 1 10 0,qB 2 false] [1]<|.seq (qs [qA 5 0 1,qF 6 1 5,qL 7 6,qk 8 .gtr 7 10,zM 9 8,zG 9 false 10 (.mW 1<|.t 1),zG 9 false 11 (.load false 1<|.t 10),zG 9 false 12 (.bin .lss (.t 11)<|kI 0),qQ 13 9 12,zM 14 13,zG 14 false 15 (.mW 1<|.t 1),zG 14 false 16 (.load false 1<|.t 15),zG 14 false 17 (.bin .gtr (.t 16)<|kI 999),qQ 18 14 17] [1,18]<|qc 18 (qr [qB 2 false] [2]) .skip)<|.seq (qs [qA 19 0 1,qF 20 1 19,qL 21 20,qI 22 0] [1,20,21,22]<|.block 0<|.loop<|qs [qb 23 .lss 22 21] [1,20,21,22,23]<|.seq (qc 23 .skip<|.exit 0)<|.seq (.block 1<|qs [zM 24 22,qD 25 7 20 22,qT 26 7 25,zA 4 (.alloc 11 [.c (.str []),oJ 0,oJ 0,oJ 0,.c (.str []),.lF 1,.lF 5]),zM 3 24,qS 7 4 26] [1,3,4,20,21,22]<|.seq (.seq (.sH [(qA 27 0 4,[]),(qF 28 1 27,[0]),(q1 29 91 28,[0,1]),(qO 30 29,[0,1,2]),(zM 31 30,rr4),(qm 31 false 32 3,rr5),(zG 31 false 33 (.bin .gtr (.t 32)<|kI 0),rr6),(qm 31 false 34 33,rr7),(zG 34 true 35 (.mW 0<|.t 1),rr8),(zG 34 true 36 (.load false 1<|.t 35),rr9),(qm 34 true 37 3,rr8),(zG 34 true 38 (.bin .sub (.t 37)<|kI 1),[0,1,2,3,4,5,6,7,10]),(zG 34 true 39 (.zD 7 (.t 36)<|.t 38),ajd),(zG 34 true 40 (.mW 0<|.t 39),al8),(zG 34 true 41 (.load false 1<|.t 40),akl),(zG 34 true 42 (.mW 0<|.t 4),rr8),(zG 34 true 43 (.load false 1<|.t 42),[0,1,2,3,4,5,6,7,15]),(zG 34 true 44 (.bin .geq (.t 41)<|.t 43),ap8),(zG 31 false 45 (.pick (.t 34) (.t 44)<|kB false),aoI),(qQ 46 31 45,anE)] [1,4,20,21,22,46])<|qc 46 (qr [qB 2 false] [2]) .skip)<|qs [qA 47 1 4,qF 48 1 47,qk 49 .lss 48 1,zM 50 49,zG 50 false 51 (.mW 1<|.t 4),zG 50 false 52 (.load false 1<|.t 51),zG 50 false 53 (.mW 1<|.t 1),zG 50 false 54 (.load false 1<|.t 53),zG 50 false 55 (.bin .gtr (.t 52)<|.t 54),qQ 56 50 55,zM 57 56,zG 57 false 58 (.mW 2<|.t 4),zG 57 false 59 (.load true 5<|.t 58),⟨(some (57,false)),some 60,.call 92 [.t 59]⟩,zG 57 false 61 (.not<|.t 60),qQ 62 57 61] [1,20,21,22,62]<|qc 62 (qr [qB 2 false] [2]) .skip)<|.reg [qk 63 .add 22 1,zM 22 63] [1,20,21,22])<|qr [qB 2 true] [2]
theorem K.bM : jl pZ 43 1 0 C.bM [.tmp 2]=true:=by kernel_rfl
def C.rO : bU:=qs [qX 1 10 0,zA 2 (.alloc 11 [.c (.str []),oJ 0,oJ 0,oJ 0,.c (.str []),.lF 1,.lF 5])] [1,2]<|.seq (.sH [(qA 3 0 1,[]),(qF 4 1 3,[0]),(qA 5 1 1,[]),(qF 6 1 5,[2]),(qA 7 2 1,[]),(qT 8 5 7,[4]),(q1 9 124 8,[4,5]),(zA 10 (.build [.c (.str []),oJ 0,oJ 0,oJ 0,.c (.str []),.lF 1,.lF 5] [(0,1,.t 4),(1,1,.t 6),(2,5,.t 9)]),rr7),(qS 7 2 10,rr8)] [2]) .ret
theorem K.rO : jl pZ 96 1 0 C.rO [.cell 2 true 7]=true:=by kernel_rfl
def C.dG : bU:=qs [qX 1 10 0,zA 2 (.alloc 11 [.lF 7,oJ 0])] [1,2]<|qs [qA 6 1 1,qF 7 1 6,zA 8 (.build [.lF 7,oJ 0] [(1,1,.t 7)]),zA 3 (.alloc 12 [.lF 7,oJ 0]),qS 2 3 8] [1,2,3]<|.seq (qs [qA 9 0 1,qF 10 1 9,qL 11 10,qk 12 .gtr 11 0] [1,2,3,12]<|qc 12 (qs [qA 13 0 1,qF 14 1 13,qL 15 14,zA 16 (.makes 13 7 104 [.str [],.lit (.int .i64 0),.lit (.int .i64 0),.lit (.int .i64 0),.str [],.sl 1 [],.sl 5 []] (.t 15)<|.t 15),qA 17 0 3,qU 1 17 16] [1,2,3]<|qs [qA 18 0 1,qF 19 1 18,qL 20 19,qI 21 0] [2,3,19,20,21]<|.block 0<|.loop<|qs [qb 22 .lss 21 20] [2,3,19,20,21,22]<|.seq (qc 22 .skip<|.exit 0)<|.seq (.block 1<|qs [zM 23 21,qD 24 7 19 21,qT 25 7 24,zA 5 (.alloc 14 [.c (.str []),oJ 0,oJ 0,oJ 0,.c (.str []),.lF 1,.lF 5]),zM 4 23,qS 7 5 25] [2,3,4,5,19,20,21]<|.sH [(qA 26 0 3,[]),(qF 27 1 26,[0]),(zM 28 4,[]),(qT 29 7 5,[]),(q1 30 96 29,[3]),(qD 31 7 27 28,rr5),(qS 7 31 30,rr6)] [2,3,19,20,21])<|.reg [qk 32 .add 21 1,zM 21 32] [2,3,19,20,21]) .skip)<|qr [qT 33 2 3,qS 2 2 33] [2]
theorem K.dG : jl pZ 46 1 0 C.dG [.cell 2 true 2]=true:=by kernel_rfl
def C.rY : bU:=qs [qX 2 10 0,qI 4 0] [1,2]<|qr [qA 5 0 2,qF 6 1 5,zM 7 1,q2 8 123 6 7,zM 4 8] [4]
theorem K.rY : jl pZ 122 2 0 C.rY [.tmp 4]=true:=by kernel_rfl
def C.xR : bU:=qs [qI 6 0,qB 7 false] [0,1,2]<|qs [zM 12 0,qL 13 12,zM 8 13] [0,1,2,8]<|qs [zM 14 8,qI 9 0,zM 10 14] [0,1,2,8,9,10]<|.seq (.block 0<|.loop<|.seq (qs [zM 15 9,zM 16 10,qb 17 .lss 15 16] [0,1,2,8,9,10,17]<|qc 17 .skip<|.exit 0)<|.block 1<|qs [zM 18 9,zM 19 10,qb 20 .add 18 19,zA 21 (.MZ .u64<|.t 20),zA 22 (.shf false (.t 21)<|.k<|.c<|.lit<|.int .u64 1),zA 23 (.MZ .i64<|.t 22),zM 11 23] [0,1,2,8,9,10,11]<|qs [zM 24 2,zM 25 0,zM 26 11,qD 27 7 25 26,qT 28 7 27,zM 29 1,⟨none,some 30,.Ja (.t 24) [.t 28,.t 29]⟩,qk 31 .lss 30 0] [0,1,2,8,9,10,11,31]<|qc 31 (.reg [zM 32 11,qk 33 .add 32 1,zM 9 33] [0,1,2,8,9,10])<|.reg [zM 34 11,zM 10 34] [0,1,2,8,9,10])<|qr [zM 35 9,zM 36 9,zM 37 8,qb 38 .lss 36 37,zM 39 38,qm 39 true 40 2,qm 39 true 41 0,qm 39 true 42 9,zG 39 true 43 (.zD 7 (.t 41)<|.t 42),zG 39 true 44 (.load true 7<|.t 43),qm 39 true 45 1,⟨(some (39,true)),some 46,.Ja (.t 40) [.t 44,.t 45]⟩,zG 39 true 47 (.bin .eql (.t 46)<|kI 0),qP 48 39 47,zM 6 35,zM 7 48] [6,7]
theorem K.aO : jl pZ 121 3 0 C.xR [.tmp 6,.tmp 7]=true:=by kernel_rfl
def C.nM : bU:=qs [qI 4 0,qB 5 false] [0,1]<|qr [zM 6 0,zM 7 1,⟨none,some 8,.call 121 [.t 6,.t 7,.k (.fn 122 [])]⟩,qE 9 8 0,qE 10 8 1,zM 4 9,zM 5 10] [4,5]
theorem K.nM : jl pZ 95 2 0 C.nM [.tmp 4,.tmp 5]=true:=by kernel_rfl
def C.nN : bU:=C.del 7 104 [.str [],.lit (.int .i64 0),.lit (.int .i64 0),.lit (.int .i64 0),.str [],.sl 1 [],.sl 5 []]
theorem K.nN : MP pZ 129 3 1 C.nN [.tmp 6]=true:=by kernel_rfl
def C.uh : bU:=qs [qX 2 10 0,zA 4 (.alloc 11 [.lF 7,oJ 0]),qB 5 false] [1,2,4]<|.seq (qs [qT 9 2 2,q1 10 43 9,qO 11 10,zM 12 11,zG 12 false 13 (.mW 1<|.t 2),zG 12 false 14 (.load false 1<|.t 13),zG 12 false 15 (.bin .eql (.t 14)<|kI 999),qQ 16 12 15] [1,2,4,16]<|qc 16 (qr [zA 17 (.build [.lF 7,oJ 0] []),qS 2 4 17,qB 5 false] [4,5]) .skip)<|qs [qA 19 0 2,qF 20 1 19,zM 21 1,q2 22 95 20 21,zM 18 22,qE 23 18 0,qE 24 18 1,zM 6 23,zM 7 24] [2,4,6,7]<|.seq (qs [zM 25 7,qO 26 25] [2,4,6,26]<|qc 26 (qr [zA 27 (.build [.lF 7,oJ 0] []),qS 2 4 27,qB 5 false] [4,5]) .skip)<|qs [qT 28 2 2,q1 29 46 28,zA 8 (.alloc 12 [.lF 7,oJ 0]),qS 2 8 29] [4,6,8]<|qs [qA 30 1 8,qF 31 1 30,qk 32 .add 31 1,qA 33 1 8,qU 1 33 32] [4,6,8]<|qs [qA 34 0 8,qF 35 1 34,zM 36 6,zM 37 6,qk 38 .add 37 1,q3 39 129 35 36 38,qA 40 0 8,qU 1 40 39] [4,8]<|qr [qT 41 2 8,qS 2 4 41,qB 5 true] [4,5]
theorem K.uh : jl pZ 101 2 0 C.uh [.cell 4 true 2,.tmp 5]=true:=by kernel_rfl
def C.gK : bU:=qs [zM 5 0,⟨none,some 6,.call 150 [.t 5,.k (.c<|.lit<|.int .u8 34)]⟩] [0,1]<|.seq (qs [qI 4 0] [0,1,4]<|.block 0<|.loop<|.seq (qs [zM 7 4,zM 8 1,ql 9 8,qb 10 .lss 7 9] [0,1,4,10]<|qc 10 .skip<|.exit 0)<|.seq (.block 1<|.cut (qs [zM 13 1,zM 14 4,zA 15 (.idxs (.t 13)<|.t 14),zA 16 (.bin .eql (.t 15)<|.k<|.c<|.lit<|.int .u8 34),zM 17 16,qm 17 false 18 1,qm 17 false 19 4,zG 17 false 20 (.idxs (.t 18)<|.t 19),zG 17 false 21 (.bin .eql (.t 20)<|.k<|.c<|.lit<|.int .u8 92),qQ 22 17 21] [0,1,4,22]<|qc 22 (.reg [zM 23 0,⟨none,some 24,.call 150 [.t 23,.k (.c<|.lit<|.int .u8 92)]⟩] [0,1,4]) .skip)<|.reg [zM 25 0,zM 26 1,zM 27 4,zA 28 (.idxs (.t 26)<|.t 27),q2 29 150 25 28] [0,1,4])<|.reg [zM 11 4,qk 12 .add 11 1,zM 4 12] [0,1,4])<|.reg [zM 30 0,⟨none,some 31,.call 150 [.t 30,.k (.c<|.lit<|.int .u8 34)]⟩] []
theorem K.gK : jl pZ 149 2 2 C.gK []=true:=by kernel_rfl
def C.di : bU:=qs [qX 3 10 1] [0,3]<|qs [qA 8 0 3,qF 9 1 8] [0,3,9]<|.block 0<|qs [qk 11 .eql 9 0,zM 10 11] [0,3,9,10]<|qc 10 (.reg [zM 12 0,⟨none,some 13,.call 147 [.t 12,.k (.c<|.str [110,117,108,108])]⟩] [])<|qs [qk 15 .eql 9 1,zM 14 15] [0,3,9,14]<|qc 14 (.reg [zM 16 0,qA 17 1 3,qF 18 1 17,q1 19 148 18,q2 20 147 16 19] [])<|qs [qk 22 .eql 9 2,zM 21 22] [0,3,9,21]<|qc 21 (.reg [zM 23 0,qA 24 2 3,qF 25 1 24,q2 26 149 23 25] [])<|qs [qk 28 .eql 9 3,zM 27 28] [0,3,9,27]<|qc 27 (qs [zM 29 0,⟨none,some 30,.call 150 [.t 29,.k (.c<|.lit<|.int .u8 91)]⟩] [0,3]<|.seq (qs [qA 31 4 3,qF 32 1 31,qL 33 32,qI 34 0] [0,32,33,34]<|.block 1<|.loop<|qs [qb 35 .lss 34 33] [0,32,33,34,35]<|.seq (qc 35 .skip<|.exit 1)<|.seq (.block 2<|qs [zM 36 34,qD 37 5 32 34,qT 38 5 37,qZ 5 11,zM 4 36,qS 5 5 38] [0,4,5,32,33,34]<|.cut (qs [zM 39 4,qk 40 .gtr 39 0] [0,5,32,33,34,40]<|qc 40 (.reg [zM 41 0,⟨none,some 42,.call 150 [.t 41,.k (.c<|.lit<|.int .u8 44)]⟩] [0,5,32,33,34]) .skip)<|.reg [zM 43 0,qT 44 5 5,q2 45 125 43 44] [0,32,33,34])<|.reg [qk 46 .add 34 1,zM 34 46] [0,32,33,34])<|.reg [zM 47 0,⟨none,some 48,.call 150 [.t 47,.k (.c<|.lit<|.int .u8 93)]⟩] [])<|qs [qk 50 .eql 9 4,zM 49 50] [0,3,49]<|qc 49 (qs [zM 51 0,⟨none,some 52,.call 150 [.t 51,.k (.c<|.lit<|.int .u8 123)]⟩] [0,3]<|.seq (qs [qA 53 4 3,qF 54 1 53,qL 55 54,qI 56 0] [0,3,54,55,56]<|.block 3<|.loop<|qs [qb 57 .lss 56 55] [0,3,54,55,56,57]<|.seq (qc 57 .skip<|.exit 3)<|.seq (.block 4<|qs [zM 58 56,qD 59 5 54 56,qT 60 5 59,qZ 7 12,zM 6 58,qS 5 7 60] [0,3,6,7,54,55,56]<|.cut (qs [zM 61 6,qk 62 .gtr 61 0] [0,3,6,7,54,55,56,62]<|qc 62 (.reg [zM 63 0,⟨none,some 64,.call 150 [.t 63,.k (.c<|.lit<|.int .u8 44)]⟩] [0,3,6,7,54,55,56]) .skip)<|qs [zM 65 0,qA 66 3 3,qF 67 1 66,zM 68 6,qD 69 1 67 68,qF 70 1 69,q2 71 149 65 70] [0,3,7,54,55,56]<|qs [zM 72 0,⟨none,some 73,.call 150 [.t 72,.k (.c<|.lit<|.int .u8 58)]⟩] [0,3,7,54,55,56]<|.reg [zM 74 0,qT 75 5 7,q2 76 125 74 75] [0,3,54,55,56])<|.reg [qk 77 .add 56 1,zM 56 77] [0,3,54,55,56])<|.reg [zM 78 0,⟨none,some 79,.call 150 [.t 78,.k (.c<|.lit<|.int .u8 125)]⟩] []) .skip
theorem K.di : jl pZ 125 2 2 C.di []=true:=by kernel_rfl
def C.qK : bU:=qs [qX 1 10 0,zA 2 (.mv<|.k<|.c<|.str [])] [1]<|.seq (qs [qT 4 5 1,q1 5 92 4,qO 6 5] [1,6]<|qc 6 (qr [zA 2 (.mv<|.k<|.c<|.str [])] [2]) .skip)<|qs [zA 3 (.PZ 155 5 12 11)] [1,3]<|qs [qT 7 5 1,q2 8 125 3 7] [3]<|qr [q1 9 126 3,zM 2 9] [2]
theorem K.qK : jl pZ 98 1 0 C.qK [.tmp 2]=true:=by kernel_rfl
def C.uS : bU:=qs [qX 2 10 0,zA 4 (.alloc 11 [.c (.str []),oJ 0,oJ 0,oJ 0,.c (.str []),.lF 1,.lF 5]),qB 5 false] [1,2,4]<|.seq (qs [qT 8 2 2,q1 9 43 8,qO 10 9] [1,2,4,10]<|qc 10 (qr [zA 11 (.build [.c (.str []),oJ 0,oJ 0,oJ 0,.c (.str []),.lF 1,.lF 5] []),qS 7 4 11,qB 5 false] [4,5]) .skip)<|qs [qA 13 0 2,qF 14 1 13,zM 15 1,q2 16 95 14 15,zM 12 16,qE 17 12 0,qE 18 12 1,zM 6 17,zM 7 18] [2,4,6,7]<|.seq (qs [zM 19 7,qO 20 19] [2,4,6,20]<|qc 20 (qr [zA 21 (.build [.c (.str []),oJ 0,oJ 0,oJ 0,.c (.str []),.lF 1,.lF 5] []),qS 7 4 21,qB 5 false] [4,5]) .skip)<|qr [qA 22 0 2,qF 23 1 22,zM 24 6,qD 25 7 23 24,qT 26 7 25,q1 27 96 26,qS 7 4 27,qB 5 true] [4,5]
theorem K.uS : jl pZ 45 2 0 C.uS [.cell 4 true 7,.tmp 5]=true:=by kernel_rfl
def C.je : bU:=qs [zA 2 (.mv<|.k<|.c<|.str [])] [0]<|qs [qI 3 17] [0,3]<|.seq (qs [qI 4 0] [0,3,4]<|.block 0<|.loop<|.seq (qs [zM 7 4,zM 8 0,ql 9 8,qb 10 .lss 7 9] [0,3,4,10]<|qc 10 .skip<|.exit 0)<|.seq (.block 1<|.reg [zM 13 3,zA 14 (.bin .mul (kI 131)<|.t 13),zM 15 0,zM 16 4,zA 17 (.idxs (.t 15)<|.t 16),zA 18 (.MZ .i64<|.t 17),qb 19 .add 14 18,qk 20 .rem 19 65521,zM 3 20] [0,3,4])<|.reg [zM 11 4,qk 12 .add 11 1,zM 4 12] [0,3,4])<|qs [zA 5 (.PY 10 1 4 [.lit (.int .u8 0)])] [3,5]<|.seq (qs [qI 6 3] [3,5,6]<|.block 2<|.loop<|.seq (qs [zM 21 6,qk 22 .geq 21 0] [3,5,6,22]<|qc 22 .skip<|.exit 2)<|.seq (.block 3<|qs [zM 25 6,zM 26 3,qk 27 .rem 26 16,zA 28 (.idxs (.k<|.c<|.str [48,49,50,51,52,53,54,55,56,57,97,98,99,100,101,102])<|.t 27),zA 29 (.WQ 1 4 (.t 5)<|.t 25),qU 1 29 28] [3,5,6]<|.reg [zM 30 3,qk 31 .quo 30 16,zM 3 31] [3,5,6])<|.reg [zM 23 6,qk 24 .sub 23 1,zM 6 24] [3,5,6])<|qr [zA 32 (.Xx 1 4<|.t 5),zA 33 (.Wn<|.t 32),zM 2 33] [2]
theorem K.je : jl pZ 97 1 0 C.je [.tmp 2]=true:=by kernel_rfl
def C.vk : bU:=qs [qX 1 10 0,zA 2 (.mv<|.k<|.c<|.str [])] [1]<|.seq (qs [qT 3 5 1,q1 4 92 3,qO 5 4] [1,5]<|qc 5 (qr [zA 2 (.mv<|.k<|.c<|.str [])] [2]) .skip)<|qr [qT 6 5 1,q1 7 98 6,q1 8 97 7,zM 2 8] [2]
theorem K.vk : jl pZ 47 1 0 C.vk [.tmp 2]=true:=by kernel_rfl
def C.qM : bU:=qs [qX 2 10 0,qX 3 11 1,zA 4 (.alloc 12 [.lF 7,oJ 0]),zA 5 (.alloc 13 [oJ 0,.c (.str []),oJ 0,oJ 0,oJ 0,.c (.str []),.lF 1,.lF 5])] [2,3,4,5]<|qs [qT 9 2 2,qA 10 1 3,qF 11 1 10,q2 12 101 9 11,zM 8 12,qE 13 8 0,qE 14 8 1,zA 6 (.alloc 14 [.lF 7,oJ 0]),qS 2 6 13,zM 7 14] [2,4,5,6,7]<|.seq (qs [zM 15 7,qO 16 15] [2,4,5,6,16]<|qc 16 (qr [qT 17 2 2,q1 18 46 17,zA 19 (.build [oJ 0,.c (.str []),oJ 0,oJ 0,oJ 0,.c (.str []),.lF 1,.lF 5] [(0,1,kI 422)]),qS 2 4 18,qS 8 5 19] [4,5]) .skip)<|.seq (.sH [(qT 20 2 6,[]),(qA 21 1 6,[]),(qF 22 1 21,[1]),(zA 23 (.build [oJ 0,.c (.str []),oJ 0,oJ 0,oJ 0,.c (.str []),.lF 1,.lF 5] [(0,1,kI 200),(2,1,.t 22)]),[1,2]),(qS 2 4 20,[0]),(qS 8 5 23,rr5)] [4,5]) .ret
theorem K.qM : jl pZ 49 2 0 C.qM [.cell 4 true 2,.cell 5 true 8]=true:=by kernel_rfl
def C.nO : bU:=C.ins 7 104 174 [.str [],.lit (.int .i64 0),.lit (.int .i64 0),.lit (.int .i64 0),.str [],.sl 1 [],.sl 5 []]
theorem K.nO : MP pZ 156 3 2 C.nO [.tmp 6]=true:=by kernel_rfl
def C.xh : bU:=qs [qX 3 10 1,zA 4 (.mv<|.k<|.lF 7)] [0,3]<|qs [zM 8 0,qA 9 0 3,qF 10 1 9,q2 11 95 8 10,zM 7 11,qE 12 7 0,qE 13 7 1,zM 5 12,zM 6 13] [0,3,5,6]<|.seq (qs [zM 14 6] [0,3,5,14]<|qc 14 (qs [zM 15 0,zM 16 5,qT 17 7 3,qD 18 7 15 16,qS 7 18 17] [0]<|qr [zM 19 0,zM 4 19] [4]) .skip)<|qr [zM 20 0,zM 21 5,qT 22 7 3,zA 23 (.sZ 11 7 1 [.str [],.lit (.int .i64 0),.lit (.int .i64 0),.lit (.int .i64 0),.str [],.sl 1 [],.sl 5 []] [(0,.t 22)]),q3 24 156 20 21 23,zM 4 24] [4]
theorem K.xh : jl pZ 132 2 1 C.xh [.tmp 4]=true:=by kernel_rfl
def C.uT : bU:=qs [qX 3 10 0,qX 5 11 2,zA 6 (.alloc 12 [.lF 7,oJ 0]),qB 7 false] [1,3,5,6]<|.seq (qs [qT 9 2 3,q1 10 43 9,qO 11 10,zM 12 11,qm 12 false 13 1,⟨(some (12,false)),some 14,.call 91 [.t 13]⟩,zG 12 false 15 (.not<|.t 14),qQ 16 12 15,zM 17 16,zG 17 false 18 (.load true 5<|.t 5),⟨(some (17,false)),some 19,.call 92 [.t 18]⟩,zG 17 false 20 (.not<|.t 19),qQ 21 17 20] [1,3,5,6,21]<|qc 21 (qr [zA 22 (.build [.lF 7,oJ 0] []),qS 2 6 22,qB 7 false] [6,7]) .skip)<|qs [qT 23 2 3,q1 24 46 23,zA 8 (.alloc 13 [.lF 7,oJ 0]),qS 2 8 24] [1,5,6,8]<|qs [qA 25 1 8,qF 26 1 25,qk 27 .add 26 1,qA 28 1 8,qU 1 28 27] [1,5,6,8]<|.seq (.sH [(qA 29 0 8,[]),(qF 30 1 29,[0]),(zM 31 1,[]),(qA 32 1 8,[]),(qF 33 1 32,[3]),(qT 34 5 5,[]),(q1 35 124 34,[5]),(zA 36 (.build [.c (.str []),oJ 0,oJ 0,oJ 0,.c (.str []),.lF 1,.lF 5] [(0,1,.t 31),(1,1,.t 33),(2,5,.t 35)]),[2,3,4,5,6]),(q2 37 132 30 36,rr8),(qA 38 0 8,rr9),(qU 1 38 37,afE)] [6,8])<|.seq (qs [qT 39 2 8,q1 40 43 39,qO 41 40] [6,8,41]<|qc 41 (qr [zA 42 (.build [.lF 7,oJ 0] []),qS 2 6 42,qB 7 false] [6,7]) .skip)<|qr [qT 43 2 8,qS 2 6 43,qB 7 true] [6,7]
theorem K.uT : jl pZ 103 3 0 C.uT [.cell 6 true 2,.tmp 7]=true:=by kernel_rfl
def C.vH : bU:=qs [zM 7 0,qN 8 7,qA 9 3 8,qF 10 1 9,zM 11 1,q2 12 171 10 11,zM 6 12,qE 13 6 0,qE 14 6 1,zM 4 13,zM 5 14] [0,4,5]<|qs [zM 15 5] [0,4,15]<|qc 15 (qs [zM 16 0,zM 17 0,qN 18 17,qA 19 3 18,qF 20 1 19,zM 21 4,zM 22 4,qk 23 .add 22 1,q3 24 184 20 21 23,qN 25 16,qA 26 3 25,qU 1 26 24] [0,4]<|.reg [zM 27 0,zM 28 0,qN 29 28,qA 30 4 29,qF 31 1 30,zM 32 4,zM 33 4,qk 34 .add 33 1,q3 35 185 31 32 34,qN 36 27,qA 37 4 36,qU 1 37 35] []) .skip
theorem K.vH : jl pZ 170 2 3 C.vH []=true:=by kernel_rfl
def C.dP : bU:=qs [qX 2 10 0,qX 3 11 1,qZ 4 12] [2,3,4]<|.seq (qs [qA 11 0 3,qF 12 1 11,qk 13 .neq 12 4] [2,3,4,13]<|qc 13 (qr [qT 14 5 3,q1 15 124 14,qS 5 4 15] [4]) .skip)<|qs [zA 16 (.build zN [(0,1,kI 4)]),qZ 5 13,qS 5 5 16] [2,3,4,5]<|.cut (qs [qA 17 0 2,qF 18 1 17,qk 19 .eql 18 4] [2,3,4,5,19]<|qc 19 (.reg [qT 20 5 2,q1 21 124 20,qS 5 5 21] [3,4,5]) .skip)<|.seq (qs [qA 22 3 3,qF 23 1 22,qL 24 23,qI 25 0] [3,4,5,23,24,25]<|.block 0<|.loop<|qs [qb 26 .lss 25 24] [3,4,5,23,24,25,26]<|.seq (qc 26 .skip<|.exit 0)<|.seq (.block 1<|qs [zM 27 25,qD 28 1 23 25,qF 29 1 28,zM 6 27,zM 7 29] [3,4,5,6,7,23,24,25]<|.seq (qs [qA 30 4 3,qF 31 1 30,zM 32 6,qD 33 5 31 32,qA 34 0 33,qF 35 1 34,qk 36 .eql 35 0] [3,4,5,6,7,23,24,25,36]<|qc 36 (qs [zM 37 7,q2 38 170 5 37] [3,4,5,23,24,25]<|.exit 1) .skip)<|qs [qZ 8 14] [3,4,5,6,7,8,23,24,25]<|.cut (qs [qA 40 3 5,qF 41 1 40,zM 42 7,q2 43 171 41 42,zM 39 43,qE 44 39 0,qE 45 39 1,zM 9 44,zM 10 45] [3,4,5,6,7,8,9,10,23,24,25]<|qs [zM 46 10] [3,4,5,6,7,8,9,23,24,25,46]<|qc 46 (.reg [qA 47 4 5,qF 48 1 47,zM 49 9,qD 50 5 48 49,qT 51 5 50,qS 5 8 51] [3,4,5,6,7,8,23,24,25]) .skip)<|.sH [(zM 52 7,[]),(qT 53 5 8,[]),(qA 54 4 3,[]),(qF 55 1 54,[2]),(zM 56 6,[]),(qD 57 5 55 56,[2,3,4]),(qT 58 5 57,[2,3,4,5]),(q2 59 155 53 58,[1,2,3,4,5,6]),(q3 60 172 5 52 59,rr8)] [3,4,5,23,24,25])<|.reg [qk 61 .add 25 1,zM 25 61] [3,4,5,23,24,25])<|qr [qT 62 5 5,qS 5 4 62] [4]
theorem K.dP : jl pZ 155 2 0 C.dP [.cell 4 true 5]=true:=by kernel_rfl
def C.sD : bU:=qs [qX 2 10 0,qX 3 11 1,qZ 4 12,qB 5 false] [2,3,4]<|.seq (qs [qT 6 5 2,q1 7 92 6,qO 8 7,zM 9 8,zG 9 false 10 (.load true 5<|.t 3),⟨(some (9,false)),some 11,.call 92 [.t 10]⟩,zG 9 false 12 (.not<|.t 11),qQ 13 9 12] [2,3,4,13]<|qc 13 (qr [zA 14 (.build zN []),qS 5 4 14,qB 5 false] [4,5]) .skip)<|qr [qT 15 5 2,qT 16 5 3,q2 17 155 15 16,⟨none,some 18,.call 154 [.t 17,.k (.c<|.lit<|.bool true)]⟩,qE 19 18 0,qE 20 18 1,qS 5 4 19,zM 5 20] [4,5]
theorem K.sD : jl pZ 131 2 0 C.sD [.cell 4 true 5,.tmp 5]=true:=by kernel_rfl
def C.uV : bU:=qs [qX 2 10 0,qX 3 11 1,qZ 4 12,qB 5 false] [2,3,4]<|.seq (qs [qA 6 0 3,qF 7 1 6] [2,3,4,7]<|.block 0<|qs [qk 9 .eql 7 4,zM 8 9] [2,3,4,7,8]<|qc 8 (qr [qT 10 5 2,qA 11 9 3,qF 12 1 11,q2 13 130 10 12,qE 14 13 0,qE 15 13 1,qS 5 4 14,zM 5 15] [4,5])<|qs [qk 17 .eql 7 5,zM 16 17] [2,3,4,16]<|qc 16 (qr [qT 18 5 2,qA 19 4 3,qT 20 5 19,q2 21 131 18 20,qE 22 21 0,qE 23 21 1,qS 5 4 22,zM 5 23] [4,5]) .skip)<|qr [qA 24 4 3,qT 25 5 24,qS 5 4 25,qB 5 true] [4,5]
theorem K.uV : jl pZ 102 2 0 C.uV [.cell 4 true 5,.tmp 5]=true:=by kernel_rfl
def C.ni : bU:=qs [qX 4 10 0,qX 5 11 1,qX 6 12 2,zA 8 (.alloc 13 [.lF 7,oJ 0]),zA 9 (.alloc 14 [oJ 0,.c (.str []),oJ 0,oJ 0,oJ 0,.c (.str []),.lF 1,.lF 5])] [3,4,5,6,8,9]<|qs [qT 15 5 6,qT 16 10 5,q2 17 102 15 16,zM 14 17,qE 18 14 0,qE 19 14 1,qZ 10 15,qS 5 10 18,zM 11 19] [3,4,5,8,9,10,11]<|.seq (qs [zM 20 11,qO 21 20] [3,4,5,8,9,10,21]<|qc 21 (qr [qT 22 2 4,q1 23 46 22,zA 24 (.build [oJ 0,.c (.str []),oJ 0,oJ 0,oJ 0,.c (.str []),.lF 1,.lF 5] [(0,1,kI 422)]),qS 2 8 23,qS 8 9 24] [8,9]) .skip)<|qs [qT 26 2 4,qA 27 1 5,qF 28 1 27,qT 29 5 10,q3 30 103 26 28 29,zM 25 30,qE 31 25 0,qE 32 25 1,zA 12 (.alloc 16 [.lF 7,oJ 0]),qS 2 12 31,zM 11 32] [3,4,8,9,10,11,12]<|.seq (qs [zM 33 11,qO 34 33] [3,4,8,9,10,12,34]<|qc 34 (qr [qT 35 2 4,q1 36 46 35,zA 37 (.build [oJ 0,.c (.str []),oJ 0,oJ 0,oJ 0,.c (.str []),.lF 1,.lF 5] [(0,1,kI 422)]),qS 2 8 36,qS 8 9 37] [8,9]) .skip)<|.seq (.sH [(qT 38 5 10,[]),(q1 39 47 38,[0]),(qA 40 1 12,[]),(qF 41 1 40,[2]),(zA 42 (.build [oJ 0,.c (.str []),oJ 0,oJ 0,oJ 0,.c (.str []),.lF 1,.lF 5] [(0,1,kI 200),(1,1,.t 39),(2,1,.t 41)]),rr4),(zA 13 (.alloc 17 [oJ 0,.c (.str []),oJ 0,oJ 0,oJ 0,.c (.str []),.lF 1,.lF 5]),[]),(qS 8 13 42,rr6)] [3,8,9,12,13])<|.seq (qs [zM 43 3,qO 44 43] [8,9,12,13,44]<|qc 44 (.reg [qA 45 0 13,zS (.store false 1 (.t 45)<|kI 201)] [8,9,12,13]) .skip)<|.seq (.sH [(qT 46 2 12,[]),(qT 47 8 13,[]),(qS 2 8 46,[0]),(qS 8 9 47,[0,1,2])] [8,9]) .ret
theorem K.ni : jl pZ 50 4 0 C.ni [.cell 8 true 2,.cell 9 true 8]=true:=by kernel_rfl
def C.lq : bU:=qs [qX 1 10 0,qB 2 false] [1]<|qr [qA 3 0 1,qF 4 1 3,qk 5 .geq 4 1,zM 6 5,zG 6 true 7 (.mW 0<|.t 1),zG 6 true 8 (.load false 1<|.t 7),zG 6 true 9 (.bin .leq (.t 8)<|kI 5),qP 10 6 9,zM 11 10,zG 11 true 12 (.mW 1<|.t 1),zG 11 true 13 (.load false 1<|.t 12),⟨(some (11,true)),some 14,.call 91 [.t 13]⟩,qP 15 11 14,zM 16 15,zG 16 true 17 (.mW 2<|.t 1),zG 16 true 18 (.load false 1<|.t 17),⟨(some (16,true)),some 19,.call 93 [.t 18]⟩,qP 20 16 19,zM 21 20,zG 21 true 22 (.mW 3<|.t 1),zG 21 true 23 (.load false 1<|.t 22),⟨(some (21,true)),some 24,.call 93 [.t 23]⟩,qP 25 21 24,zM 26 25,zG 26 true 27 (.mW 4<|.t 1),zG 26 true 28 (.load true 5<|.t 27),⟨(some (26,true)),some 29,.call 92 [.t 28]⟩,qP 30 26 29,zM 31 30,zG 31 true 32 (.mW 9<|.t 1),zG 31 true 33 (.load false 1<|.t 32),⟨(some (31,true)),some 34,.call 94 [.t 33]⟩,qP 35 31 34,zM 2 35] [2]
theorem K.lq : jl pZ 44 1 0 C.lq [.tmp 2]=true:=by kernel_rfl
def C.dB : bU:=qs [qX 2 10 0,qX 3 11 1,zA 4 (.alloc 12 [.lF 7,oJ 0]),zA 5 (.alloc 13 [oJ 0,.c (.str []),oJ 0,oJ 0,oJ 0,.c (.str []),.lF 1,.lF 5])] [2,3,4,5]<|.seq (qs [qT 10 2 2,q1 11 43 10,qO 12 11,zM 13 12,zG 13 false 14 (.load true 10<|.t 3),⟨(some (13,false)),some 15,.call 44 [.t 14]⟩,zG 13 false 16 (.not<|.t 15),qQ 17 13 16] [2,3,4,5,17]<|qc 17 (qr [zA 18 (.build [.lF 7,oJ 0] []),zA 19 (.build [oJ 0,.c (.str []),oJ 0,oJ 0,oJ 0,.c (.str []),.lF 1,.lF 5] [(0,1,kI 400)]),qS 2 4 18,qS 8 5 19] [4,5]) .skip)<|qs [qT 21 2 2,qA 22 1 3,qF 23 1 22,q2 24 45 21 23,zM 20 24,qE 25 20 0,qE 26 20 1,zA 6 (.alloc 14 [.c (.str []),oJ 0,oJ 0,oJ 0,.c (.str []),.lF 1,.lF 5]),qS 7 6 25,zM 7 26] [2,3,4,5,6,7]<|.seq (qs [zM 27 7,qO 28 27,zM 29 28,zG 29 true 30 (.mW 0<|.t 3),zG 29 true 31 (.load false 1<|.t 30),zG 29 true 32 (.bin .neq (.t 31)<|kI 2),qP 33 29 32] [2,3,4,5,6,7,33]<|qc 33 (qr [qT 34 2 2,q1 35 46 34,zA 36 (.build [oJ 0,.c (.str []),oJ 0,oJ 0,oJ 0,.c (.str []),.lF 1,.lF 5] [(0,1,kI 404)]),qS 2 4 35,qS 8 5 36] [4,5]) .skip)<|qs [zA 8 (.mv<|.k<|.c<|.str [])] [2,3,4,5,6,7,8]<|.cut (qs [zM 37 7] [2,3,4,5,6,7,8,37]<|qc 37 (.reg [qA 38 2 6,qT 39 5 38,q1 40 47 39,zM 8 40] [2,3,4,5,6,7,8]) .skip)<|qs [qA 41 2 3,qF 42 1 41,qA 43 3 3,qF 44 1 43,zM 45 8,qA 46 0 3,qF 47 1 46,qk 48 .eql 47 1,⟨none,some 49,.call 48 [.t 42,.t 44,.t 45,.t 48]⟩,zM 9 49] [2,3,4,5,6,7,8,9]<|.seq (qs [zM 50 9,qk 51 .neq 50 200] [2,3,4,5,6,7,8,9,51]<|qc 51 (qr [qT 52 2 2,q1 53 46 52,zM 54 9,zA 55 (.build [oJ 0,.c (.str []),oJ 0,oJ 0,oJ 0,.c (.str []),.lF 1,.lF 5] [(0,1,.t 54)]),qS 2 4 53,qS 8 5 55] [4,5]) .skip)<|.seq (qs [qA 56 0 3,qF 57 1 56] [2,3,4,5,6,7,8,57]<|.block 0<|qs [qk 59 .eql 57 1,zM 58 59] [2,3,4,5,6,7,8,57,58]<|qc 58 (.seq (.sH [(qT 60 2 2,[]),(q1 61 46 60,[0]),(zM 62 8,[]),(qA 63 1 6,[]),(qF 64 1 63,[3]),(qA 65 2 6,[]),(qT 66 5 65,[5]),(zA 67 (.build [oJ 0,.c (.str []),oJ 0,oJ 0,oJ 0,.c (.str []),.lF 1,.lF 5] [(0,1,kI 200),(1,1,.t 62),(2,1,.t 64),(3,5,.t 66)]),[2,3,4,5,6]),(qS 2 4 61,[0,1]),(qS 8 5 67,rr9)] [4,5]) .ret)<|qs [qk 69 .eql 57 3,zM 68 69] [2,3,4,5,6,7,68]<|qc 68 (qr [qT 70 2 2,qT 71 10 3,q2 72 49 70 71,qE 73 72 0,qE 74 72 1,qS 2 4 73,qS 8 5 74] [4,5]) .skip)<|qr [qT 75 2 2,qT 76 10 3,qA 77 2 6,qT 78 5 77,zM 79 7,⟨none,some 80,.call 50 [.t 75,.t 76,.t 78,.t 79]⟩,qE 81 80 0,qE 82 80 1,qS 2 4 81,qS 8 5 82] [4,5]
theorem K.dB : jl pZ 11 2 0 C.dB [.cell 4 true 2,.cell 5 true 8]=true:=by kernel_rfl
def C.jK : bU:=qs [qB 4 false] [0,1]<|.seq (qs [zM 6 0,qL 7 6,zM 8 1,qL 9 8,qb 10 .neq 7 9] [0,1,10]<|qc 10 (qr [qB 4 false] [4]) .skip)<|.seq (qs [qI 5 0] [0,1,5]<|.block 0<|.loop<|.seq (qs [zM 11 5,zM 12 0,qL 13 12,qb 14 .lss 11 13] [0,1,5,14]<|qc 14 .skip<|.exit 0)<|.seq (.block 1<|.seq (.sH [(zM 17 0,[]),(zM 18 5,[]),(qD 19 1 17 18,[0,1]),(qF 20 1 19,[0,1,2]),(zM 21 1,[]),(zM 22 5,[]),(qD 23 1 21 22,[4,5]),(qF 24 1 23,[4,5,6]),(qb 25 .neq 20 24,rr8)] [0,1,5,25])<|qc 25 (qr [qB 4 false] [4]) .skip)<|.reg [zM 15 5,qk 16 .add 15 1,zM 5 16] [0,1,5])<|qr [qB 4 true] [4]
theorem K.jK : jl pZ 53 2 0 C.jK [.tmp 4]=true:=by kernel_rfl
def C.qy : bU:=qs [qX 2 10 0,qX 3 11 1,qB 4 false] [2,3]<|.seq (qs [qA 5 0 2,qF 6 1 5,qA 7 0 3,qF 8 1 7,qb 9 .neq 6 8] [2,3,9]<|qc 9 (qr [qB 4 false] [4]) .skip)<|.seq (qs [qA 10 1 2,qF 11 1 10,qA 12 1 3,qF 13 1 12,qb 14 .neq 11 13] [2,3,14]<|qc 14 (qr [qB 4 false] [4]) .skip)<|.seq (qs [qA 15 2 2,qF 16 1 15,qA 17 2 3,qF 18 1 17,qb 19 .neq 16 18] [2,3,19]<|qc 19 (qr [qB 4 false] [4]) .skip)<|.seq (qs [qA 20 3 2,qF 21 1 20,qA 22 3 3,qF 23 1 22,q2 24 53 21 23,qO 25 24] [2,3,25]<|qc 25 (qr [qB 4 false] [4]) .skip)<|.seq (qs [qA 26 4 2,qF 27 1 26,qA 28 4 3,qF 29 1 28,q2 30 105 27 29,qO 31 30] [31]<|qc 31 (qr [qB 4 false] [4]) .skip)<|qr [qB 4 true] [4]
theorem K.qy : jl pZ 52 2 0 C.qy [.tmp 4]=true:=by kernel_rfl
def C.pY : bU:=qs [qB 4 false] [0,1]<|.seq (qs [zM 6 0,qL 7 6,zM 8 1,qL 9 8,qb 10 .neq 7 9] [0,1,10]<|qc 10 (qr [qB 4 false] [4]) .skip)<|.seq (qs [qI 5 0] [0,1,5]<|.block 0<|.loop<|.seq (qs [zM 11 5,zM 12 0,qL 13 12,qb 14 .lss 11 13] [0,1,5,14]<|qc 14 .skip<|.exit 0)<|.seq (.block 1<|.seq (.sH [(zM 17 0,[]),(zM 18 5,[]),(qD 19 5 17 18,[0,1]),(qT 20 5 19,[0,1,2]),(zM 21 1,[]),(zM 22 5,[]),(qD 23 5 21 22,[4,5]),(qT 24 5 23,[4,5,6]),(q2 25 52 20 24,rr8),(qO 26 25,rr9)] [0,1,5,26])<|qc 26 (qr [qB 4 false] [4]) .skip)<|.reg [zM 15 5,qk 16 .add 15 1,zM 5 16] [0,1,5])<|qr [qB 4 true] [4]
theorem K.pY : jl pZ 105 2 0 C.pY [.tmp 4]=true:=by kernel_rfl
def C.xI : bU:=qs [qX 2 10 0,qX 3 11 1,qB 4 false] [2,3]<|.seq (qs [qA 5 0 2,qF 6 1 5,qA 7 0 3,qF 8 1 7,qb 9 .neq 6 8] [2,3,9]<|qc 9 (qr [qB 4 false] [4]) .skip)<|.seq (qs [qA 10 1 2,qF 11 1 10,qA 12 1 3,qF 13 1 12,qb 14 .neq 11 13] [2,3,14]<|qc 14 (qr [qB 4 false] [4]) .skip)<|.seq (qs [qA 15 2 2,qT 16 5 15,qA 17 2 3,qT 18 5 17,q2 19 52 16 18,qO 20 19] [20]<|qc 20 (qr [qB 4 false] [4]) .skip)<|qr [qB 4 true] [4]
theorem K.xI : jl pZ 104 2 0 C.xI [.tmp 4]=true:=by kernel_rfl
def C.oz : bU:=qs [qB 4 false] [0,1]<|.seq (qs [zM 6 0,qL 7 6,zM 8 1,qL 9 8,qb 10 .neq 7 9] [0,1,10]<|qc 10 (qr [qB 4 false] [4]) .skip)<|.seq (qs [qI 5 0] [0,1,5]<|.block 0<|.loop<|.seq (qs [zM 11 5,zM 12 0,qL 13 12,qb 14 .lss 11 13] [0,1,5,14]<|qc 14 .skip<|.exit 0)<|.seq (.block 1<|.seq (.sH [(zM 17 0,[]),(zM 18 5,[]),(qD 19 7 17 18,[0,1]),(qT 20 7 19,[0,1,2]),(zM 21 1,[]),(zM 22 5,[]),(qD 23 7 21 22,[4,5]),(qT 24 7 23,[4,5,6]),(q2 25 104 20 24,rr8),(qO 26 25,rr9)] [0,1,5,26])<|qc 26 (qr [qB 4 false] [4]) .skip)<|.reg [zM 15 5,qk 16 .add 15 1,zM 5 16] [0,1,5])<|qr [qB 4 true] [4]
theorem K.oz : jl pZ 51 2 0 C.oz [.tmp 4]=true:=by kernel_rfl
def C.Am : bU:=qs [qX 2 10 0,qX 3 11 1,qB 4 false] [2,3]<|.seq (qs [qA 5 0 2,qF 6 1 5,qA 7 0 3,qF 8 1 7,qb 9 .neq 6 8] [2,3,9]<|qc 9 (qr [qB 4 false] [4]) .skip)<|.seq (qs [qA 10 1 2,qF 11 1 10,qA 12 1 3,qF 13 1 12,q2 14 53 11 13,qO 15 14] [2,3,15]<|qc 15 (qr [qB 4 false] [4]) .skip)<|.seq (qs [qA 16 2 2,qF 17 1 16,qA 18 2 3,qF 19 1 18,q2 20 53 17 19,qO 21 20] [2,3,21]<|qc 21 (qr [qB 4 false] [4]) .skip)<|.seq (qs [qA 22 3 2,qT 23 5 22,qA 24 3 3,qT 25 5 24,q2 26 52 23 25,qO 27 26] [27]<|qc 27 (qr [qB 4 false] [4]) .skip)<|qr [qB 4 true] [4]
theorem K.Am : jl pZ 106 2 0 C.Am [.tmp 4]=true:=by kernel_rfl
def C.tq : bU:=qs [qB 4 false] [0,1]<|.seq (qs [zM 6 0,qL 7 6,zM 8 1,qL 9 8,qb 10 .neq 7 9] [0,1,10]<|qc 10 (qr [qB 4 false] [4]) .skip)<|.seq (qs [qI 5 0] [0,1,5]<|.block 0<|.loop<|.seq (qs [zM 11 5,zM 12 0,qL 13 12,qb 14 .lss 11 13] [0,1,5,14]<|qc 14 .skip<|.exit 0)<|.seq (.block 1<|.seq (.sH [(zM 17 0,[]),(zM 18 5,[]),(qD 19 8 17 18,[0,1]),(qT 20 8 19,[0,1,2]),(zM 21 1,[]),(zM 22 5,[]),(qD 23 8 21 22,[4,5]),(qT 24 8 23,[4,5,6]),(q2 25 106 20 24,rr8),(qO 26 25,rr9)] [0,1,5,26])<|qc 26 (qr [qB 4 false] [4]) .skip)<|.reg [zM 15 5,qk 16 .add 15 1,zM 5 16] [0,1,5])<|qr [qB 4 true] [4]
theorem K.tq : jl pZ 54 2 0 C.tq [.tmp 4]=true:=by kernel_rfl
def C.sF : bU:=qs [qX 2 10 0,qX 3 11 1,qB 4 false] [2,3]<|.seq (qs [qA 5 0 2,qF 6 1 5,qA 7 0 3,qF 8 1 7,qb 9 .neq 6 8] [2,3,9]<|qc 9 (qr [qB 4 false] [4]) .skip)<|.seq (qs [qA 10 1 2,qF 11 1 10,qA 12 1 3,qF 13 1 12,qb 14 .neq 11 13] [2,3,14]<|qc 14 (qr [qB 4 false] [4]) .skip)<|.seq (qs [qA 15 2 2,qF 16 1 15,qA 17 2 3,qF 18 1 17,q2 19 53 16 18,qO 20 19] [2,3,20]<|qc 20 (qr [qB 4 false] [4]) .skip)<|.seq (qs [qA 21 3 2,qF 22 1 21,qA 23 3 3,qF 24 1 23,q2 25 53 22 24,qO 26 25] [2,3,26]<|qc 26 (qr [qB 4 false] [4]) .skip)<|.seq (qs [qA 27 4 2,qT 28 5 27,qA 29 4 3,qT 30 5 29,q2 31 52 28 30,qO 32 31] [2,3,32]<|qc 32 (qr [qB 4 false] [4]) .skip)<|.seq (qs [qA 33 9 2,qF 34 1 33,qA 35 9 3,qF 36 1 35,q2 37 54 34 36,qO 38 37] [38]<|qc 38 (qr [qB 4 false] [4]) .skip)<|qr [qB 4 true] [4]
theorem K.sF : jl pZ 14 2 0 C.sF [.tmp 4]=true:=by kernel_rfl
def C.nZ : bU:=qs [qX 2 10 0,qX 3 11 1,qB 4 false] [2,3]<|.seq (qs [qA 5 0 2,qF 6 1 5,qA 7 0 3,qF 8 1 7,qb 9 .neq 6 8] [2,3,9]<|qc 9 (qr [qB 4 false] [4]) .skip)<|.seq (qs [qA 10 1 2,qF 11 1 10,qA 12 1 3,qF 13 1 12,qb 14 .neq 11 13] [2,3,14]<|qc 14 (qr [qB 4 false] [4]) .skip)<|.seq (qs [qA 15 2 2,qF 16 1 15,qA 17 2 3,qF 18 1 17,qb 19 .neq 16 18] [2,3,19]<|qc 19 (qr [qB 4 false] [4]) .skip)<|.seq (qs [qA 20 3 2,qT 21 5 20,qA 22 3 3,qT 23 5 22,q2 24 52 21 23,qO 25 24] [25]<|qc 25 (qr [qB 4 false] [4]) .skip)<|qr [qB 4 true] [4]
theorem K.nZ : jl pZ 13 2 0 C.nZ [.tmp 4]=true:=by kernel_rfl
def C.kS : bU:=qs [qX 2 10 0,qX 3 11 1,qB 4 false] [2,3]<|.seq (qs [qA 5 0 2,qF 6 1 5,qA 7 0 3,qF 8 1 7,q2 9 51 6 8,qO 10 9] [2,3,10]<|qc 10 (qr [qB 4 false] [4]) .skip)<|.seq (qs [qA 11 1 2,qF 12 1 11,qA 13 1 3,qF 14 1 13,qb 15 .neq 12 14] [15]<|qc 15 (qr [qB 4 false] [4]) .skip)<|qr [qB 4 true] [4]
theorem K.kS : jl pZ 12 2 0 C.kS [.tmp 4]=true:=by kernel_rfl
def C.iE : bU:=qs [zA 2 (.mv<|.k<|.c<|.str [])] [0]<|.seq (qs [zM 4 0,qk 5 .leq 4 0] [0,5]<|qc 5 (qr [zA 2 (.mv<|.k<|.c<|.str [109,48])] [2]) .skip)<|qs [zA 3 (.mv<|.k<|.c<|.str [])] [0,3]<|.seq (.block 0<|.loop<|.seq (qs [zM 6 0,qk 7 .gtr 6 0] [0,3,7]<|qc 7 .skip<|.exit 0)<|.block 1<|qs [zM 8 0,qk 9 .rem 8 10,zA 10 (.bin .add (kI 48)<|.t 9),zA 11 (.MZ .u8<|.t 10),zA 12 (.sZ 10 1 1 [.lit (.int .u8 0)] [(0,.t 11)]),zA 13 (.Wn<|.t 12),zM 14 3,qb 15 .add 13 14,zM 3 15] [0,3]<|.reg [zM 16 0,qk 17 .quo 16 10,zM 0 17] [0,3])<|qr [zM 18 3,zA 19 (.bin .add (.k<|.c<|.str [109])<|.t 18),zM 2 19] [2]
theorem K.iE : jl pZ 66 1 0 C.iE [.tmp 2]=true:=by kernel_rfl
def C.iG : bU:=qs [qI 4 0] [0,1]<|.seq (qs [qI 5 0] [0,1,5]<|.block 0<|.loop<|.seq (qs [zM 6 5,zM 7 0,qL 8 7,qb 9 .lss 6 8] [0,1,5,9]<|qc 9 .skip<|.exit 0)<|.seq (.block 1<|.seq (.seq (.sH [(zM 12 0,[]),(zM 13 5,[]),(qD 14 1 12 13,[0,1]),(qF 15 1 14,[0,1,2]),(zM 16 1,[]),(q1 17 66 16,[4]),(qb 18 .neq 15 17,rr6)] [0,1,5,18])<|qc 18 (qr [qI 4 (-1)] [4]) .skip)<|.reg [zM 19 1,qk 20 .add 19 1,zM 1 20] [0,1,5])<|.reg [zM 10 5,qk 11 .add 10 1,zM 5 11] [0,1,5])<|qr [zM 21 1,zM 4 21] [4]
theorem K.iG : jl pZ 68 2 0 C.iG [.tmp 4]=true:=by kernel_rfl
def C.jf : bU:=qs [qI 4 0] [0,1]<|.seq (qs [qI 5 0] [0,1,5]<|.block 0<|.loop<|.seq (qs [zM 6 5,zM 7 0,qL 8 7,qb 9 .lss 6 8] [0,1,5,9]<|qc 9 .skip<|.exit 0)<|.seq (.block 1<|.seq (qs [zM 12 0,zM 13 5,qD 14 5 12 13,qA 15 0 14,qF 16 1 15,zM 17 1,qb 18 .neq 16 17] [0,1,5,18]<|qc 18 (qr [qI 4 (-1)] [4]) .skip)<|qs [zM 19 1,qk 20 .add 19 1,zM 1 20] [0,1,5]<|.seq (qs [zM 21 0,zM 22 5,qD 23 5 21 22,qA 24 1 23,qF 25 1 24,zM 26 1,qb 27 .neq 25 26] [0,1,5,27]<|qc 27 (qr [qI 4 (-1)] [4]) .skip)<|qs [zM 28 1,qk 29 .add 28 1,zM 1 29] [0,1,5]<|.seq (.seq (.sH [(zM 30 0,[]),(zM 31 5,[]),(qD 32 5 30 31,[0,1]),(qA 33 2 32,[0,1,2]),(qF 34 1 33,rr4),(zM 35 1,[]),(q1 36 66 35,[5]),(qb 37 .neq 34 36,rr7)] [0,1,5,37])<|qc 37 (qr [qI 4 (-1)] [4]) .skip)<|qs [zM 38 1,qk 39 .add 38 1,zM 1 39] [0,1,5]<|qs [zM 40 0,zM 41 5,qD 42 5 40 41,qA 43 3 42,qF 44 1 43,zM 45 1,q2 46 68 44 45,zM 1 46] [0,1,5]<|.seq (qs [zM 47 1,qk 48 .lss 47 0] [0,1,5,48]<|qc 48 (qr [qI 4 (-1)] [4]) .skip)<|qs [zM 49 0,zM 50 5,qD 51 5 49 50,qA 52 4 51,qF 53 1 52,zM 54 1,q2 55 69 53 54,zM 1 55] [0,1,5]<|qs [zM 56 1,qk 57 .lss 56 0] [0,1,5,57]<|qc 57 (qr [qI 4 (-1)] [4]) .skip)<|.reg [zM 10 5,qk 11 .add 10 1,zM 5 11] [0,1,5])<|qr [zM 58 1,zM 4 58] [4]
theorem K.jf : jl pZ 69 2 0 C.jf [.tmp 4]=true:=by kernel_rfl
def C.lM : bU:=qs [qI 4 0] [0,1]<|.seq (qs [qI 5 0] [0,1,5]<|.block 0<|.loop<|.seq (qs [zM 6 5,zM 7 0,qL 8 7,qb 9 .lss 6 8] [0,1,5,9]<|qc 9 .skip<|.exit 0)<|.seq (.block 1<|.seq (.seq (.sH [(zM 12 0,[]),(zM 13 5,[]),(qD 14 7 12 13,[0,1]),(qA 15 0 14,[0,1,2]),(qF 16 1 15,rr4),(zM 17 1,[]),(q1 18 66 17,[5]),(qb 19 .neq 16 18,rr7)] [0,1,5,19])<|qc 19 (qr [qI 4 (-1)] [4]) .skip)<|qs [zM 20 1,qk 21 .add 20 1,zM 1 21] [0,1,5]<|.seq (qs [zM 22 0,zM 23 5,qD 24 7 22 23,qA 25 1 24,qF 26 1 25,zM 27 1,qb 28 .neq 26 27] [0,1,5,28]<|qc 28 (qr [qI 4 (-1)] [4]) .skip)<|qs [zM 29 1,qk 30 .add 29 1,zM 1 30] [0,1,5]<|.seq (qs [zM 31 0,zM 32 5,qD 33 7 31 32,qA 34 2 33,qA 35 0 34,qF 36 1 35,zM 37 1,qb 38 .neq 36 37] [0,1,5,38]<|qc 38 (qr [qI 4 (-1)] [4]) .skip)<|qs [zM 39 1,qk 40 .add 39 1,zM 1 40] [0,1,5]<|.seq (qs [zM 41 0,zM 42 5,qD 43 7 41 42,qA 44 2 43,qA 45 1 44,qF 46 1 45,zM 47 1,qb 48 .neq 46 47] [0,1,5,48]<|qc 48 (qr [qI 4 (-1)] [4]) .skip)<|qs [zM 49 1,qk 50 .add 49 1,zM 1 50] [0,1,5]<|.seq (.seq (.sH [(zM 51 0,[]),(zM 52 5,[]),(qD 53 7 51 52,[0,1]),(qA 54 2 53,[0,1,2]),(qA 55 2 54,rr4),(qF 56 1 55,rr5),(zM 57 1,[]),(q1 58 66 57,[6]),(qb 59 .neq 56 58,rr8)] [0,1,5,59])<|qc 59 (qr [qI 4 (-1)] [4]) .skip)<|qs [zM 60 1,qk 61 .add 60 1,zM 1 61] [0,1,5]<|qs [zM 62 0,zM 63 5,qD 64 7 62 63,qA 65 2 64,qA 66 3 65,qF 67 1 66,zM 68 1,q2 69 68 67 68,zM 1 69] [0,1,5]<|.seq (qs [zM 70 1,qk 71 .lss 70 0] [0,1,5,71]<|qc 71 (qr [qI 4 (-1)] [4]) .skip)<|qs [zM 72 0,zM 73 5,qD 74 7 72 73,qA 75 2 74,qA 76 4 75,qF 77 1 76,zM 78 1,q2 79 69 77 78,zM 1 79] [0,1,5]<|qs [zM 80 1,qk 81 .lss 80 0] [0,1,5,81]<|qc 81 (qr [qI 4 (-1)] [4]) .skip)<|.reg [zM 10 5,qk 11 .add 10 1,zM 5 11] [0,1,5])<|qr [zM 82 1,zM 4 82] [4]
theorem K.lM : jl pZ 59 2 0 C.lM [.tmp 4]=true:=by kernel_rfl
def C.vI : bU:=qs [qX 2 10 0,qI 4 0] [1,2]<|qs [qA 5 3 2,qF 6 1 5,zM 7 1,q2 8 68 6 7,zM 1 8] [1,2]<|.seq (qs [zM 9 1,qk 10 .lss 9 0] [1,2,10]<|qc 10 (qr [qI 4 (-1)] [4]) .skip)<|qs [qA 11 4 2,qF 12 1 11,zM 13 1,q2 14 69 12 13,zM 1 14] [1]<|.seq (qs [zM 15 1,qk 16 .lss 15 0] [1,16]<|qc 16 (qr [qI 4 (-1)] [4]) .skip)<|qr [zM 17 1,zM 4 17] [4]
theorem K.vI : jl pZ 60 2 0 C.vI [.tmp 4]=true:=by kernel_rfl
def C.qR : bU:=qs [qX 2 10 0,qI 4 0] [1,2]<|qs [qA 5 3 2,qT 6 5 5,zM 7 1,q2 8 60 6 7,zM 1 8] [1]<|.seq (qs [zM 9 1,qk 10 .lss 9 0] [1,10]<|qc 10 (qr [qI 4 (-1)] [4]) .skip)<|qr [zM 11 1,zM 4 11] [4]
theorem K.qR : jl pZ 19 2 0 C.qR [.tmp 4]=true:=by kernel_rfl
def C.pU : bU:=qs [qX 2 10 0,qI 4 0] [1,2]<|qs [qA 5 0 2,qF 6 1 5,zM 7 1,q2 8 59 6 7,zM 1 8] [1]<|.seq (qs [zM 9 1,qk 10 .lss 9 0] [1,10]<|qc 10 (qr [qI 4 (-1)] [4]) .skip)<|qr [zM 11 1,zM 4 11] [4]
theorem K.pU : jl pZ 18 2 0 C.pU [.tmp 4]=true:=by kernel_rfl
def C.jh : bU:=qs [qI 4 0] [0,1]<|qs [zM 6 1,zM 7 0,qL 8 7,qb 9 .sub 6 8,zM 1 9] [0,1]<|.seq (qs [zM 10 1,qk 11 .lss 10 0] [0,1,11]<|qc 11 (qr [qI 4 (-1)] [4]) .skip)<|.seq (qs [qI 5 0] [0,1,5]<|.block 0<|.loop<|.seq (qs [zM 12 5,zM 13 0,qL 14 13,qb 15 .lss 12 14] [0,1,5,15]<|qc 15 .skip<|.exit 0)<|.seq (.block 1<|qs [zM 18 1,zM 19 0,zM 20 5,qD 21 1 19 20,qF 22 1 21,ql 23 22,qb 24 .sub 18 23,zM 1 24] [0,1,5]<|qs [zM 25 1,qk 26 .lss 25 0] [0,1,5,26]<|qc 26 (qr [qI 4 (-1)] [4]) .skip)<|.reg [zM 16 5,qk 17 .add 16 1,zM 5 17] [0,1,5])<|qr [zM 27 1,zM 4 27] [4]
theorem K.jh : jl pZ 32 2 0 C.jh [.tmp 4]=true:=by kernel_rfl
def C.qC : bU:=qs [qX 2 10 0,qI 4 0] [1,2]<|qs [zM 5 1,qA 6 2 2,qF 7 1 6,ql 8 7,qb 9 .sub 5 8,zM 1 9] [1,2]<|.seq (qs [zM 10 1,qk 11 .lss 10 0] [1,2,11]<|qc 11 (qr [qI 4 (-1)] [4]) .skip)<|qs [qA 12 3 2,qF 13 1 12,zM 14 1,q2 15 32 13 14,zM 1 15] [1,2]<|.seq (qs [zM 16 1,qk 17 .lss 16 0] [1,2,17]<|qc 17 (qr [qI 4 (-1)] [4]) .skip)<|qs [qA 18 4 2,qF 19 1 18,zM 20 1,q2 21 73 19 20,zM 1 21] [1]<|.seq (qs [zM 22 1,qk 23 .lss 22 0] [1,23]<|qc 23 (qr [qI 4 (-1)] [4]) .skip)<|qr [zM 24 1,zM 4 24] [4]
theorem K.qC : jl pZ 33 2 0 C.qC [.tmp 4]=true:=by kernel_rfl
def C.oD : bU:=qs [qI 4 0] [0,1]<|qs [zM 6 1,zM 7 0,qL 8 7,qb 9 .sub 6 8,zM 1 9] [0,1]<|.seq (qs [zM 10 1,qk 11 .lss 10 0] [0,1,11]<|qc 11 (qr [qI 4 (-1)] [4]) .skip)<|.seq (qs [qI 5 0] [0,1,5]<|.block 0<|.loop<|.seq (qs [zM 12 5,zM 13 0,qL 14 13,qb 15 .lss 12 14] [0,1,5,15]<|qc 15 .skip<|.exit 0)<|.seq (.block 1<|qs [zM 18 0,zM 19 5,qD 20 5 18 19,qT 21 5 20,zM 22 1,q2 23 33 21 22,zM 1 23] [0,1,5]<|qs [zM 24 1,qk 25 .lss 24 0] [0,1,5,25]<|qc 25 (qr [qI 4 (-1)] [4]) .skip)<|.reg [zM 16 5,qk 17 .add 16 1,zM 5 17] [0,1,5])<|qr [zM 26 1,zM 4 26] [4]
theorem K.oD : jl pZ 73 2 0 C.oD [.tmp 4]=true:=by kernel_rfl
def C.vX : bU:=qs [qX 2 10 0,qI 4 0] [1,2]<|qs [zM 5 1,qA 6 0 2,qF 7 1 6,ql 8 7,qb 9 .sub 5 8,zM 1 9] [1,2]<|.seq (qs [zM 10 1,qk 11 .lss 10 0] [1,2,11]<|qc 11 (qr [qI 4 (-1)] [4]) .skip)<|qs [qA 12 2 2,qT 13 5 12,zM 14 1,q2 15 33 13 14,zM 1 15] [1]<|.seq (qs [zM 16 1,qk 17 .lss 16 0] [1,17]<|qc 17 (qr [qI 4 (-1)] [4]) .skip)<|qr [zM 18 1,zM 4 18] [4]
theorem K.vX : jl pZ 72 2 0 C.vX [.tmp 4]=true:=by kernel_rfl
def C.mX : bU:=qs [qI 4 0] [0,1]<|qs [zM 6 1,zM 7 0,qL 8 7,qb 9 .sub 6 8,zM 1 9] [0,1]<|.seq (qs [zM 10 1,qk 11 .lss 10 0] [0,1,11]<|qc 11 (qr [qI 4 (-1)] [4]) .skip)<|.seq (qs [qI 5 0] [0,1,5]<|.block 0<|.loop<|.seq (qs [zM 12 5,zM 13 0,qL 14 13,qb 15 .lss 12 14] [0,1,5,15]<|qc 15 .skip<|.exit 0)<|.seq (.block 1<|qs [zM 18 0,zM 19 5,qD 20 7 18 19,qT 21 7 20,zM 22 1,q2 23 72 21 22,zM 1 23] [0,1,5]<|qs [zM 24 1,qk 25 .lss 24 0] [0,1,5,25]<|qc 25 (qr [qI 4 (-1)] [4]) .skip)<|.reg [zM 16 5,qk 17 .add 16 1,zM 5 17] [0,1,5])<|qr [zM 26 1,zM 4 26] [4]
theorem K.mX : jl pZ 31 2 0 C.mX [.tmp 4]=true:=by kernel_rfl
def C.x9 : bU:=qs [qX 2 10 0,qI 4 0] [1,2]<|qs [qA 5 1 2,qF 6 1 5,zM 7 1,q2 8 32 6 7,zM 1 8] [1,2]<|.seq (qs [zM 9 1,qk 10 .lss 9 0] [1,2,10]<|qc 10 (qr [qI 4 (-1)] [4]) .skip)<|qs [qA 11 2 2,qF 12 1 11,zM 13 1,q2 14 32 12 13,zM 1 14] [1,2]<|.seq (qs [zM 15 1,qk 16 .lss 15 0] [1,2,16]<|qc 16 (qr [qI 4 (-1)] [4]) .skip)<|qs [qA 17 3 2,qT 18 5 17,zM 19 1,q2 20 33 18 19,zM 1 20] [1]<|.seq (qs [zM 21 1,qk 22 .lss 21 0] [1,22]<|qc 22 (qr [qI 4 (-1)] [4]) .skip)<|qr [zM 23 1,zM 4 23] [4]
theorem K.x9 : jl pZ 74 2 0 C.x9 [.tmp 4]=true:=by kernel_rfl
def C.qV : bU:=qs [qI 4 0] [0,1]<|qs [zM 6 1,zM 7 0,qL 8 7,qb 9 .sub 6 8,zM 1 9] [0,1]<|.seq (qs [zM 10 1,qk 11 .lss 10 0] [0,1,11]<|qc 11 (qr [qI 4 (-1)] [4]) .skip)<|.seq (qs [qI 5 0] [0,1,5]<|.block 0<|.loop<|.seq (qs [zM 12 5,zM 13 0,qL 14 13,qb 15 .lss 12 14] [0,1,5,15]<|qc 15 .skip<|.exit 0)<|.seq (.block 1<|qs [zM 18 0,zM 19 5,qD 20 8 18 19,qT 21 8 20,zM 22 1,q2 23 74 21 22,zM 1 23] [0,1,5]<|qs [zM 24 1,qk 25 .lss 24 0] [0,1,5,25]<|qc 25 (qr [qI 4 (-1)] [4]) .skip)<|.reg [zM 16 5,qk 17 .add 16 1,zM 5 17] [0,1,5])<|qr [zM 26 1,zM 4 26] [4]
theorem K.qV : jl pZ 34 2 0 C.qV [.tmp 4]=true:=by kernel_rfl
def C.lN : bU:=qs [qX 2 10 0,qI 4 0] [1,2]<|qs [zM 5 1,qA 6 1 2,qF 7 1 6,ql 8 7,qb 9 .sub 5 8,zM 1 9] [1,2]<|.seq (qs [zM 10 1,qk 11 .lss 10 0] [1,2,11]<|qc 11 (qr [qI 4 (-1)] [4]) .skip)<|qs [qA 12 2 2,qF 13 1 12,zM 14 1,q2 15 32 13 14,zM 1 15] [1,2]<|.seq (qs [zM 16 1,qk 17 .lss 16 0] [1,2,17]<|qc 17 (qr [qI 4 (-1)] [4]) .skip)<|qs [qA 18 3 2,qF 19 1 18,zM 20 1,q2 21 32 19 20,zM 1 21] [1,2]<|.seq (qs [zM 22 1,qk 23 .lss 22 0] [1,2,23]<|qc 23 (qr [qI 4 (-1)] [4]) .skip)<|qs [qA 24 4 2,qT 25 5 24,zM 26 1,q2 27 33 25 26,zM 1 27] [1,2]<|.seq (qs [zM 28 1,qk 29 .lss 28 0] [1,2,29]<|qc 29 (qr [qI 4 (-1)] [4]) .skip)<|qs [qA 30 9 2,qF 31 1 30,zM 32 1,q2 33 34 31 32,zM 1 33] [1]<|.seq (qs [zM 34 1,qk 35 .lss 34 0] [1,35]<|qc 35 (qr [qI 4 (-1)] [4]) .skip)<|qr [zM 36 1,zM 4 36] [4]
theorem K.lN : jl pZ 7 2 0 C.lN [.tmp 4]=true:=by kernel_rfl
def C.kL : bU:=qs [qX 2 10 0,qI 4 0] [1,2]<|qs [qA 5 0 2,qF 6 1 5,zM 7 1,q2 8 31 6 7,zM 1 8] [1]<|.seq (qs [zM 9 1,qk 10 .lss 9 0] [1,10]<|qc 10 (qr [qI 4 (-1)] [4]) .skip)<|qr [zM 11 1,zM 4 11] [4]
theorem K.kL : jl pZ 6 2 0 C.kL [.tmp 4]=true:=by kernel_rfl
def C.jL : bU:=qs [zA 2 (.mv<|.k<|.lF 1)] [0]<|qs [zM 5 0,qL 6 5,zA 7 (.makes 10 1 16 [.str []] (.t 6)<|.t 6),zM 3 7] [0,3]<|.seq (qs [qI 4 0] [0,3,4]<|.block 0<|.loop<|.seq (qs [zM 8 4,zM 9 0,qL 10 9,qb 11 .lss 8 10] [0,3,4,11]<|qc 11 .skip<|.exit 0)<|.seq (.block 1<|.reg [zM 14 3,zM 15 4,zM 16 0,zM 17 4,qD 18 1 16 17,qF 19 1 18,qD 20 1 14 15,qU 1 20 19] [0,3,4])<|.reg [zM 12 4,qk 13 .add 12 1,zM 4 13] [0,3,4])<|qr [zM 21 3,zM 2 21] [2]
theorem K.jL : jl pZ 40 1 0 C.jL [.tmp 2]=true:=by kernel_rfl
def C.sG : bU:=qs [qX 1 10 0,qZ 2 11] [1,2]<|qs [qZ 3 12] [1,2,3]<|qs [qA 4 0 1,qF 5 1 4,qA 6 0 3,qU 1 6 5] [1,2,3]<|qs [qA 7 1 1,qF 8 1 7,qA 9 1 3,qU 1 9 8] [1,2,3]<|qs [qA 10 2 1,qF 11 1 10,qA 12 2 3,qU 1 12 11] [1,2,3]<|qs [qA 13 3 1,qF 14 1 13,q1 15 40 14,qA 16 3 3,qU 1 16 15] [1,2,3]<|qs [qA 17 4 1,qF 18 1 17,q1 19 89 18,qA 20 4 3,qU 1 20 19] [2,3]<|qr [qT 21 5 3,qS 5 2 21] [2]
theorem K.sG : jl pZ 41 1 0 C.sG [.cell 2 true 5]=true:=by kernel_rfl
def C.qf : bU:=qs [zA 2 (.mv<|.k<|.lF 5)] [0]<|qs [zM 5 0,qL 6 5,zA 7 (.makes 10 5 80 [.lit (.int .i64 0),.lit (.int .i64 0),.str [],.sl 1 [],.sl 5 []] (.t 6)<|.t 6),zM 3 7] [0,3]<|.seq (qs [qI 4 0] [0,3,4]<|.block 0<|.loop<|.seq (qs [zM 8 4,zM 9 0,qL 10 9,qb 11 .lss 8 10] [0,3,4,11]<|qc 11 .skip<|.exit 0)<|.seq (.block 1<|.reg [zM 14 3,zM 15 4,zM 16 0,zM 17 4,qD 18 5 16 17,qT 19 5 18,q1 20 41 19,qD 21 5 14 15,qS 5 21 20] [0,3,4])<|.reg [zM 12 4,qk 13 .add 12 1,zM 4 13] [0,3,4])<|qr [zM 22 3,zM 2 22] [2]
theorem K.qf : jl pZ 89 1 0 C.qf [.tmp 2]=true:=by kernel_rfl
def C.xJ : bU:=qs [qX 1 10 0,zA 2 (.alloc 11 [.c (.str []),oJ 0,oJ 0,oJ 0,.c (.str []),.lF 1,.lF 5])] [1,2]<|qs [zA 3 (.alloc 12 [.c (.str []),oJ 0,oJ 0,oJ 0,.c (.str []),.lF 1,.lF 5])] [1,2,3]<|qs [qA 4 0 1,qF 5 1 4,qA 6 0 3,qU 1 6 5] [1,2,3]<|qs [qA 7 1 1,qF 8 1 7,qA 9 1 3,qU 1 9 8] [1,2,3]<|qs [qA 10 2 1,qT 11 5 10,q1 12 41 11,qA 13 2 3,qS 5 13 12] [2,3]<|qr [qT 14 7 3,qS 7 2 14] [2]
theorem K.xJ : jl pZ 88 1 0 C.xJ [.cell 2 true 7]=true:=by kernel_rfl
def C.oG : bU:=qs [zA 2 (.mv<|.k<|.lF 7)] [0]<|qs [zM 5 0,qL 6 5,zA 7 (.makes 10 7 104 [.str [],.lit (.int .i64 0),.lit (.int .i64 0),.lit (.int .i64 0),.str [],.sl 1 [],.sl 5 []] (.t 6)<|.t 6),zM 3 7] [0,3]<|.seq (qs [qI 4 0] [0,3,4]<|.block 0<|.loop<|.seq (qs [zM 8 4,zM 9 0,qL 10 9,qb 11 .lss 8 10] [0,3,4,11]<|qc 11 .skip<|.exit 0)<|.seq (.block 1<|.reg [zM 14 3,zM 15 4,zM 16 0,zM 17 4,qD 18 7 16 17,qT 19 7 18,q1 20 88 19,qD 21 7 14 15,qS 7 21 20] [0,3,4])<|.reg [zM 12 4,qk 13 .add 12 1,zM 4 13] [0,3,4])<|qr [zM 22 3,zM 2 22] [2]
theorem K.oG : jl pZ 39 1 0 C.oG [.tmp 2]=true:=by kernel_rfl
def C.Ap : bU:=qs [qX 1 10 0,zA 2 (.alloc 11 [oJ 0,.lF 1,.lF 1,oJ 0,oJ 0,.c (.str []),.lF 1,.lF 5])] [1,2]<|qs [zA 3 (.alloc 12 [oJ 0,.lF 1,.lF 1,oJ 0,oJ 0,.c (.str []),.lF 1,.lF 5])] [1,2,3]<|qs [qA 4 0 1,qF 5 1 4,qA 6 0 3,qU 1 6 5] [1,2,3]<|qs [qA 7 1 1,qF 8 1 7,q1 9 40 8,qA 10 1 3,qU 1 10 9] [1,2,3]<|qs [qA 11 2 1,qF 12 1 11,q1 13 40 12,qA 14 2 3,qU 1 14 13] [1,2,3]<|qs [qA 15 3 1,qT 16 5 15,q1 17 41 16,qA 18 3 3,qS 5 18 17] [2,3]<|qr [qT 19 8 3,qS 8 2 19] [2]
theorem K.Ap : jl pZ 90 1 0 C.Ap [.cell 2 true 8]=true:=by kernel_rfl
def C.tu : bU:=qs [zA 2 (.mv<|.k<|.lF 8)] [0]<|qs [zM 5 0,qL 6 5,zA 7 (.makes 10 8 136 [.lit (.int .i64 0),.sl 1 [],.sl 1 [],.lit (.int .i64 0),.lit (.int .i64 0),.str [],.sl 1 [],.sl 5 []] (.t 6)<|.t 6),zM 3 7] [0,3]<|.seq (qs [qI 4 0] [0,3,4]<|.block 0<|.loop<|.seq (qs [zM 8 4,zM 9 0,qL 10 9,qb 11 .lss 8 10] [0,3,4,11]<|qc 11 .skip<|.exit 0)<|.seq (.block 1<|.reg [zM 14 3,zM 15 4,zM 16 0,zM 17 4,qD 18 8 16 17,qT 19 8 18,q1 20 90 19,qD 21 8 14 15,qS 8 21 20] [0,3,4])<|.reg [zM 12 4,qk 13 .add 12 1,zM 4 13] [0,3,4])<|qr [zM 22 3,zM 2 22] [2]
theorem K.tu : jl pZ 42 1 0 C.tu [.tmp 2]=true:=by kernel_rfl
def C.pV : bU:=qs [qX 1 10 0,zA 2 (.alloc 11 [oJ 0,.c (.str []),.lF 1,.lF 1,oJ 0,oJ 0,.c (.str []),.lF 1,.lF 5,.lF 8])] [1,2]<|qs [zA 3 (.alloc 12 [oJ 0,.c (.str []),.lF 1,.lF 1,oJ 0,oJ 0,.c (.str []),.lF 1,.lF 5,.lF 8])] [1,2,3]<|qs [qA 4 0 1,qF 5 1 4,qA 6 0 3,qU 1 6 5] [1,2,3]<|qs [qA 7 1 1,qF 8 1 7,qA 9 1 3,qU 1 9 8] [1,2,3]<|qs [qA 10 2 1,qF 11 1 10,q1 12 40 11,qA 13 2 3,qU 1 13 12] [1,2,3]<|qs [qA 14 3 1,qF 15 1 14,q1 16 40 15,qA 17 3 3,qU 1 17 16] [1,2,3]<|qs [qA 18 4 1,qT 19 5 18,q1 20 41 19,qA 21 4 3,qS 5 21 20] [1,2,3]<|qs [qA 22 9 1,qF 23 1 22,q1 24 42 23,qA 25 9 3,qU 1 25 24] [2,3]<|qr [qT 26 10 3,qS 10 2 26] [2]
theorem K.pV : jl pZ 10 1 0 C.pV [.cell 2 true 10]=true:=by kernel_rfl
def C.nR : bU:=qs [qX 1 10 0,zA 2 (.alloc 11 [.lF 7,oJ 0])] [1,2]<|qs [zA 3 (.alloc 12 [.lF 7,oJ 0])] [1,2,3]<|qs [qA 4 0 1,qF 5 1 4,q1 6 39 5,qA 7 0 3,qU 1 7 6] [1,2,3]<|qs [qA 8 1 1,qF 9 1 8,qA 10 1 3,qU 1 10 9] [2,3]<|qr [qT 11 2 3,qS 2 2 11] [2]
theorem K.nR : jl pZ 9 1 0 C.nR [.cell 2 true 2]=true:=by kernel_rfl
def C.bG : bU:=qs [qX 1 10 0,qZ 2 11] [1,2]<|qs [zA 5 (.sZ 12 5 0 [.lit (.int .i64 0),.lit (.int .i64 0),.str [],.sl 1 [],.sl 5 []] []),zM 3 5] [1,2,3]<|.seq (qs [qI 4 0] [1,2,3,4]<|.block 0<|.loop<|.seq (qs [zM 6 4,qA 7 4 1,qF 8 1 7,qL 9 8,qb 10 .lss 6 9] [1,2,3,4,10]<|qc 10 .skip<|.exit 0)<|.seq (.block 1<|.reg [zM 13 3,qA 14 4 1,qF 15 1 14,zM 16 4,qD 17 5 15 16,qT 18 5 17,q1 19 83 18,zA 20 (.sZ 13 5 1 [.lit (.int .i64 0),.lit (.int .i64 0),.str [],.sl 1 [],.sl 5 []] [(0,.t 19)]),zA 21 (.append 14 5 80 (.t 13)<|.t 20),zM 3 21] [1,2,3,4])<|.reg [zM 11 4,qk 12 .add 11 1,zM 4 12] [1,2,3,4])<|.seq (.sH [(qA 22 0 1,[]),(qF 23 1 22,[0]),(qA 24 1 1,[]),(qF 25 1 24,[2]),(qA 26 2 1,[]),(qF 27 1 26,[4]),(zA 28 (.sZ 15 1 0 [.str []] []),[]),(qA 29 3 1,[]),(qF 30 1 29,[7]),(zA 31 (.append 16 1 16 (.t 28)<|.t 30),[6,7,8]),(zM 32 3,[]),(zA 33 (.build zN [(0,1,.t 23),(1,1,.t 25),(2,1,.t 27),(3,1,.t 31),(4,1,.t 32)]),ahj),(qS 5 2 33,ajd)] [2]) .ret
theorem K.bG : jl pZ 83 1 0 C.bG [.cell 2 true 5]=true:=by kernel_rfl
def C.lJ : bU:=qs [zA 2 (.mv<|.k<|.c<|.str [])] [0]<|.seq (qs [zM 3 0,qk 4 .lss 3 0,zM 5 4,qm 5 true 6 0,qm 5 true 7 0,zG 5 true 8 (.neg<|.t 7),zG 5 true 9 (.bin .eql (.t 6)<|.t 8),qP 10 5 9] [0,10]<|qc 10 (qr [zA 2 (.mv<|.k<|.c<|.str [45,57,50,50,51,51,55,50,48,51,54,56,53,52,55,55,53,56,48,56])] [2]) .skip)<|.seq (qs [zM 11 0,qk 12 .lss 11 0] [0,12]<|qc 12 (qr [zM 13 0,zA 14 (.neg<|.t 13),q1 15 137 14,zA 16 (.bin .add (.k<|.c<|.str [45])<|.t 15),zM 2 16] [2]) .skip)<|.seq (qs [zM 17 0,qk 18 .lss 17 10] [0,18]<|qc 18 (qr [zM 19 0,zA 20 (.bin .add (kI 48)<|.t 19),zA 21 (.MZ .u8<|.t 20),zA 22 (.sZ 10 1 1 [.lit (.int .u8 0)] [(0,.t 21)]),zA 23 (.Wn<|.t 22),zM 2 23] [2]) .skip)<|.seq (.sH [(zM 24 0,[]),(qk 25 .quo 24 10,[0]),(q1 26 137 25,[0,1]),(zM 27 0,[]),(qk 28 .rem 27 10,[3]),(zA 29 (.bin .add (kI 48)<|.t 28),[3,4]),(zA 30 (.MZ .u8<|.t 29),[3,4,5]),(zA 31 (.sZ 11 1 1 [.lit (.int .u8 0)] [(0,.t 30)]),[3,4,5,6]),(zA 32 (.Wn<|.t 31),[3,4,5,6,7]),(qb 33 .add 26 32,rr9),(zM 2 33,afE)] [2]) .ret
theorem K.lJ : jl pZ 137 1 0 C.lJ [.tmp 2]=true:=by kernel_rfl
def C.jE : bU:=qs [qX 2 10 0,qI 4 0] [1,2]<|.seq (qs [qI 5 0] [1,2,5]<|.block 0<|.loop<|.seq (qs [zM 6 5,qA 7 4 2,qF 8 1 7,qL 9 8,qb 10 .lss 6 9] [1,2,5,10]<|qc 10 .skip<|.exit 0)<|.seq (.block 1<|qs [qA 13 0 2,qF 14 1 13,qk 15 .eql 14 4,zM 16 15,zG 16 true 17 (.mW 3<|.t 2),zG 16 true 18 (.load false 1<|.t 17),qm 16 true 19 5,zG 16 true 20 (.zD 1 (.t 18)<|.t 19),zG 16 true 21 (.load false 1<|.t 20),qm 16 true 22 1,zG 16 true 23 (.bin .eql (.t 21)<|.t 22),qP 24 16 23,zM 25 24,zG 25 false 26 (.mW 0<|.t 2),zG 25 false 27 (.load false 1<|.t 26),zG 25 false 28 (.bin .eql (.t 27)<|kI 3),qm 25 false 29 28,qm 29 true 30 5,⟨(some (29,true)),some 31,.call 137 [.t 30]⟩,qm 29 true 32 1,zG 29 true 33 (.bin .eql (.t 31)<|.t 32),zG 25 false 34 (.pick (.t 29) (.t 33)<|kB false),qQ 35 25 34] [1,2,5,35]<|qc 35 (qr [zM 36 5,zM 4 36] [4]) .skip)<|.reg [zM 11 5,qk 12 .add 11 1,zM 5 12] [1,2,5])<|qr [qI 4 (-1)] [4]
theorem K.jE : jl pZ 140 2 0 C.jE [.tmp 4]=true:=by kernel_rfl
def C.lV : bU:=qs [qX 2 10 0,qI 4 0,qB 5 false] [1,2]<|qs [qT 8 5 2,zM 9 1,q2 10 140 8 9,zM 6 10] [1,2,6]<|.seq (qs [zM 11 6,qk 12 .geq 11 0] [1,2,6,12]<|qc 12 (.seq (.sH [(zM 13 6,[]),(qA 14 0 2,[]),(qF 15 1 14,[1]),(qk 16 .eql 15 4,[1,2]),(zM 4 13,[0]),(zM 5 16,rr5)] [4,5]) .ret) .skip)<|.seq (qs [qA 17 0 2,qF 18 1 17,qk 19 .eql 18 3,zM 20 19,qm 20 true 21 1,zG 20 true 22 (.bin .eql (.t 21)<|.k<|.c<|.str [45]),qm 20 true 23 22,qm 23 false 24 1,zG 23 false 25 (.mW 4<|.t 2),zG 23 false 26 (.load false 1<|.t 25),zG 23 false 27 (.len<|.t 26),⟨(some (23,false)),some 28,.call 137 [.t 27]⟩,zG 23 false 29 (.bin .eql (.t 24)<|.t 28),zG 20 true 30 (.pick (.t 23) (kB true)<|.t 29),qP 31 20 30] [1,2,31]<|qc 31 (qr [qA 32 4 2,qF 33 1 32,qL 34 33,zM 4 34,qB 5 false] [4,5]) .skip)<|.seq (qs [qI 7 0] [1,2,7]<|.block 0<|.loop<|.seq (qs [qA 35 0 2,qF 36 1 35,qk 37 .eql 36 4,zM 38 37,qm 38 true 39 7,zG 38 true 40 (.mW 4<|.t 2),zG 38 true 41 (.load false 1<|.t 40),zG 38 true 42 (.len<|.t 41),zG 38 true 43 (.bin .leq (.t 39)<|.t 42),qP 44 38 43] [1,2,7,44]<|qc 44 .skip<|.exit 0)<|.seq (.block 1<|qs [zM 47 7,qA 48 4 2,qF 49 1 48,qL 50 49,qb 51 .eql 47 50,zM 52 51,qm 52 false 53 1,zG 52 false 54 (.mW 3<|.t 2),zG 52 false 55 (.load false 1<|.t 54),qm 52 false 56 7,zG 52 false 57 (.zD 1 (.t 55)<|.t 56),zG 52 false 58 (.load false 1<|.t 57),zG 52 false 59 (.bin .lss (.t 53)<|.t 58),qQ 60 52 59] [1,2,7,60]<|qc 60 (qr [zM 61 7,zM 4 61,qB 5 false] [4,5]) .skip)<|.reg [zM 45 7,qk 46 .add 45 1,zM 7 46] [1,2,7])<|qr [qI 4 (-1),qB 5 false] [4,5]
theorem K.lV : jl pZ 162 2 0 C.lV [.tmp 4,.tmp 5]=true:=by kernel_rfl
def C.o9 : bU:=qs [qX 3 10 0,qX 5 11 2,qZ 6 12] [1,3,5,6]<|qs [qT 8 5 3,q1 9 83 8,qZ 7 13,qS 5 7 9] [1,5,6,7]<|.seq (.sH [(qA 10 4 7,[]),(qF 11 1 10,[0]),(zM 12 1,[]),(qT 13 5 5,[]),(q1 14 83 13,[3]),(qD 15 5 11 12,rr5),(qS 5 15 14,rr6)] [6,7])<|qr [qT 16 5 7,qS 5 6 16] [6]
theorem K.o9 : jl pZ 142 3 0 C.o9 [.cell 6 true 5]=true:=by kernel_rfl
def C.ry : bU:=qs [qX 3 10 0,qX 5 11 2,qZ 6 12,qB 7 false] [1,3,5,6]<|qs [qT 14 5 3,zM 15 1,q2 16 162 14 15,zM 13 16,qE 17 13 0,qE 18 13 1,zM 8 17,zM 9 18] [1,3,5,6,8,9]<|.seq (qs [zM 19 8,qk 20 .lss 19 0] [1,3,5,6,8,9,20]<|qc 20 (qr [zA 21 (.build zN []),qS 5 6 21,qB 7 false] [6,7]) .skip)<|.seq (qs [zM 22 9] [1,3,5,6,8,22]<|qc 22 (qr [qT 23 5 3,zM 24 8,qT 25 5 5,q3 26 142 23 24 25,qS 5 6 26,qB 7 true] [6,7]) .skip)<|qs [qT 27 5 3,q1 28 83 27,qZ 10 13,qS 5 10 28] [1,3,5,6,8,10]<|.seq (.sH [(zA 29 (.sZ 14 5 0 [.lit (.int .i64 0),.lit (.int .i64 0),.str [],.sl 1 [],.sl 5 []] []),[]),(qA 30 4 10,[]),(qF 31 1 30,[1]),(zM 32 8,[]),(zA 33 (.IM 5 (.t 31) none<|some<|.t 32),[1,2,3]),(zA 34 (.append 15 5 80 (.t 29)<|.t 33),rr5),(qT 35 5 5,[]),(q1 36 83 35,rr7),(zA 37 (.sZ 16 5 1 [.lit (.int .i64 0),.lit (.int .i64 0),.str [],.sl 1 [],.sl 5 []] [(0,.t 36)]),rr8),(zA 38 (.append 17 5 80 (.t 34)<|.t 37),rr9),(zM 11 38,afE)] [1,3,6,8,10,11])<|qs [zM 39 11,qA 40 4 10,qF 41 1 40,zM 42 8,zA 43 (.IM 5 (.t 41) (some<|.t 42) none),zA 44 (.append 18 5 80 (.t 39)<|.t 43),zM 11 44] [1,3,6,8,10,11]<|.seq (qs [qA 45 0 3,qF 46 1 45,qk 47 .eql 46 3] [1,3,6,8,10,11,47]<|qc 47 (qr [qA 48 0 3,qF 49 1 48,zA 50 (.sZ 19 1 0 [.str []] []),zM 51 11,zA 52 (.build zN [(0,1,.t 49),(3,1,.t 50),(4,1,.t 51)]),qS 5 6 52,qB 7 true] [6,7]) .skip)<|qs [zA 53 (.sZ 20 1 0 [.str []] []),qA 54 3 10,qF 55 1 54,zM 56 8,zA 57 (.IM 1 (.t 55) none<|some<|.t 56),zA 58 (.append 21 1 16 (.t 53)<|.t 57),zM 59 1,zA 60 (.sZ 22 1 1 [.str []] [(0,.t 59)]),zA 61 (.append 23 1 16 (.t 58)<|.t 60),zM 12 61] [3,6,8,10,11,12]<|qs [zM 62 12,qA 63 3 10,qF 64 1 63,zM 65 8,zA 66 (.IM 1 (.t 64) (some<|.t 65) none),zA 67 (.append 24 1 16 (.t 62)<|.t 66),zM 12 67] [3,6,11,12]<|qr [qA 68 0 3,qF 69 1 68,zM 70 12,zM 71 11,zA 72 (.build zN [(0,1,.t 69),(3,1,.t 70),(4,1,.t 71)]),qS 5 6 72,qB 7 true] [6,7]
theorem K.ry : jl pZ 143 3 0 C.ry [.cell 6 true 5,.tmp 7]=true:=by kernel_rfl
def C.uB : bU:=qs [qX 2 10 0,qZ 4 11,qB 5 false] [1,2,4]<|.seq (qs [qI 6 0] [1,2,4,6]<|.block 0<|.loop<|.seq (qs [zM 8 6,zM 9 1,qL 10 9,qb 11 .lss 8 10] [1,2,4,6,11]<|qc 11 .skip<|.exit 0)<|.seq (.block 1<|.seq (.sH [(qT 14 5 2,[]),(zM 15 1,[]),(zM 16 6,[]),(qD 17 1 15 16,[1,2]),(qF 18 1 17,[1,2,3]),(q2 19 140 14 18,rr5),(zM 7 19,rr6)] [1,2,4,6,7])<|.seq (qs [zM 20 7,qk 21 .lss 20 0] [1,2,4,6,7,21]<|qc 21 (qr [zA 22 (.build zN []),qS 5 4 22,qB 5 false] [4,5]) .skip)<|.reg [qA 23 4 2,qF 24 1 23,zM 25 7,qD 26 5 24 25,qT 27 5 26,qS 5 2 27] [1,2,4,6])<|.reg [zM 12 6,qk 13 .add 12 1,zM 6 13] [1,2,4,6])<|qr [qT 28 5 2,q1 29 83 28,qS 5 4 29,qB 5 true] [4,5]
theorem K.uB : jl pZ 159 2 0 C.uB [.cell 4 true 5,.tmp 5]=true:=by kernel_rfl
def C.pJ : bU:=qs [qX 3 10 0,qX 5 11 2,qZ 6 12,qB 7 false] [1,3,5,6]<|.seq (qs [zM 11 1,qL 12 11,qk 13 .eql 12 0] [1,3,5,6,13]<|qc 13 (qr [qT 14 5 5,q1 15 83 14,qS 5 6 15,qB 7 true] [6,7]) .skip)<|.seq (.sH [(qT 16 5 3,[]),(zM 17 1,[]),(zA 18 (.zD 1 (.t 17)<|kI 0),[1]),(qF 19 1 18,[1,2]),(q2 20 140 16 19,rr4),(zM 8 20,rr5)] [1,3,5,6,8])<|.seq (qs [zM 21 8,qk 22 .lss 21 0] [1,3,5,6,8,22]<|qc 22 (qr [zA 23 (.build zN []),qS 5 6 23,qB 7 false] [6,7]) .skip)<|.seq (.sH [(qA 25 4 3,[]),(qF 26 1 25,[0]),(zM 27 8,[]),(qD 28 5 26 27,[0,1,2]),(qT 29 5 28,rr4),(zM 30 1,[]),(zA 31 (.IM 1 (.t 30) (some<|kI 1) none),[5]),(qT 32 5 5,[]),(q3 33 158 29 31 32,rr8),(zM 24 33,rr9),(qE 34 24 0,afE),(qE 35 24 1,afE),(qZ 9 13,[]),(qS 5 9 34,[0,1,2,3,4,5,6,7,8,9,10,12]),(zM 10 35,akl)] [3,6,8,9,10])<|.seq (qs [zM 36 10,qO 37 36] [3,6,8,9,37]<|qc 37 (qr [zA 38 (.build zN []),qS 5 6 38,qB 7 false] [6,7]) .skip)<|qr [qT 39 5 3,zM 40 8,qT 41 5 9,q3 42 142 39 40 41,qS 5 6 42,qB 7 true] [6,7]
theorem K.pJ : jl pZ 158 3 0 C.pJ [.cell 6 true 5,.tmp 7]=true:=by kernel_rfl
def C.uQ : bU:=qs [qX 3 10 0,qX 5 11 2,qZ 6 12,qB 7 false] [1,3,5,6]<|.seq (qs [zM 13 1,qL 14 13,qk 15 .eql 14 0] [1,3,5,6,15]<|qc 15 (qr [qT 16 5 5,q1 17 83 16,qS 5 6 17,qB 7 true] [6,7]) .skip)<|qs [zM 18 1,qL 19 18,qk 20 .sub 19 1,zM 8 20] [1,3,5,6,8]<|.seq (.sH [(qT 22 5 3,[]),(zM 23 1,[]),(zM 24 8,[]),(zA 25 (.IM 1 (.t 23) none<|some<|.t 24),[1,2]),(q2 26 159 22 25,rr4),(zM 21 26,rr5),(qE 27 21 0,rr6),(qE 28 21 1,rr6),(qZ 9 13,[]),(qS 5 9 27,[0,1,2,3,4,5,6,8]),(zM 10 28,afE)] [1,3,5,6,8,9,10])<|.seq (qs [zM 29 10,qO 30 29] [1,3,5,6,8,9,30]<|qc 30 (qr [zA 31 (.build zN []),qS 5 6 31,qB 7 false] [6,7]) .skip)<|.seq (.sH [(qT 33 5 9,[]),(zM 34 1,[]),(zM 35 8,[]),(qD 36 1 34 35,[1,2]),(qF 37 1 36,[1,2,3]),(qT 38 5 5,[]),(q3 39 143 33 37 38,rr6),(zM 32 39,rr7),(qE 40 32 0,rr8),(qE 41 32 1,rr8),(qZ 11 14,[]),(qS 5 11 40,[0,1,2,3,4,5,6,7,8,10]),(zM 12 41,ajd)] [1,3,6,8,11,12])<|.seq (qs [zM 42 12,qO 43 42] [1,3,6,8,11,43]<|qc 43 (qr [zA 44 (.build zN []),qS 5 6 44,qB 7 false] [6,7]) .skip)<|.seq (.sH [(qT 45 5 3,[]),(zM 46 1,[]),(zM 47 8,[]),(zA 48 (.IM 1 (.t 46) none<|some<|.t 47),[1,2]),(qT 49 5 11,[]),(q3 50 158 45 48 49,rr5),(qE 51 50 0,rr6),(qE 52 50 1,rr6),(qS 5 6 51,rr8),(zM 7 52,rr9)] [6,7]) .ret
theorem K.uQ : jl pZ 157 3 0 C.uQ [.cell 6 true 5,.tmp 7]=true:=by kernel_rfl
def C.nC : bU:=qs [qB 4 false] [0,1]<|.seq (qs [qI 5 0] [0,1,5]<|.block 0<|.loop<|.seq (qs [zM 6 5,zM 7 1,qL 8 7,qb 9 .lss 6 8] [0,1,5,9]<|qc 9 .skip<|.exit 0)<|.seq (.block 1<|.seq (.sH [(zM 12 5,[]),(zM 13 0,[]),(qL 14 13,[1]),(qb 15 .geq 12 14,[0,1,2]),(zM 16 15,rr4),(qm 16 false 17 0,rr5),(qm 16 false 18 5,rr5),(zG 16 false 19 (.zD 1 (.t 17)<|.t 18),rr7),(zG 16 false 20 (.load false 1<|.t 19),rr8),(qm 16 false 21 1,rr5),(qm 16 false 22 5,rr5),(zG 16 false 23 (.zD 1 (.t 21)<|.t 22),[0,1,2,3,4,9,10]),(zG 16 false 24 (.load false 1<|.t 23),[0,1,2,3,4,9,10,11]),(zG 16 false 25 (.bin .neq (.t 20)<|.t 24),al8),(qQ 26 16 25,akl)] [0,1,5,26])<|qc 26 (qr [qB 4 false] [4]) .skip)<|.reg [zM 10 5,qk 11 .add 10 1,zM 5 11] [0,1,5])<|qr [qB 4 true] [4]
theorem K.nC : jl pZ 161 2 0 C.nC [.tmp 4]=true:=by kernel_rfl
def C.kG : bU:=qs [qX 2 10 0,qZ 4 11,qB 5 false] [1,2,4]<|qs [zM 12 1,qL 13 12,qk 14 .sub 13 1,zM 6 14] [1,2,4,6]<|.seq (qs [zM 15 6,qk 16 .lss 15 0] [1,2,4,6,16]<|qc 16 (qr [zA 17 (.build zN []),qS 5 4 17,qB 5 false] [4,5]) .skip)<|.seq (.sH [(qT 19 5 2,[]),(zM 20 1,[]),(zM 21 6,[]),(zA 22 (.IM 1 (.t 20) none<|some<|.t 21),[1,2]),(q2 23 159 19 22,rr4),(zM 18 23,rr5),(qE 24 18 0,rr6),(qE 25 18 1,rr6),(qZ 7 12,[]),(qS 5 7 24,[0,1,2,3,4,5,6,8]),(zM 8 25,afE)] [1,2,4,6,7,8])<|.seq (qs [zM 26 8,qO 27 26] [1,2,4,6,7,27]<|qc 27 (qr [zA 28 (.build zN []),qS 5 4 28,qB 5 false] [4,5]) .skip)<|.seq (.sH [(qT 29 5 7,[]),(zM 30 1,[]),(zM 31 6,[]),(qD 32 1 30 31,[1,2]),(qF 33 1 32,[1,2,3]),(q2 34 140 29 33,rr5),(zM 9 34,rr6)] [1,2,4,6,7,9])<|.seq (qs [zM 35 9,qk 36 .lss 35 0] [1,2,4,6,7,9,36]<|qc 36 (qr [zA 37 (.build zN []),qS 5 4 37,qB 5 false] [4,5]) .skip)<|.seq (.sH [(zA 38 (.sZ 13 5 0 [.lit (.int .i64 0),.lit (.int .i64 0),.str [],.sl 1 [],.sl 5 []] []),[]),(qA 39 4 7,[]),(qF 40 1 39,[1]),(zM 41 9,[]),(zA 42 (.IM 5 (.t 40) none<|some<|.t 41),[1,2,3]),(zA 43 (.append 14 5 80 (.t 38)<|.t 42),rr5),(qA 44 4 7,[]),(qF 45 1 44,[6]),(zM 46 9,[]),(qk 47 .add 46 1,[8]),(zA 48 (.IM 5 (.t 45) (some<|.t 47) none),[6,7,8,9]),(zA 49 (.append 15 5 80 (.t 43)<|.t 48),ahj),(zM 10 49,ajd)] [1,2,4,6,7,9,10])<|qs [zA 50 (.sZ 16 1 0 [.str []] []),zM 11 50] [1,2,4,6,7,9,10,11]<|.cut (qs [qA 51 0 7,qF 52 1 51,qk 53 .eql 52 4] [1,2,4,6,7,9,10,11,53]<|qc 53 (.sH [(zA 54 (.sZ 17 1 0 [.str []] []),[]),(qA 55 3 7,[]),(qF 56 1 55,[1]),(zM 57 9,[]),(zA 58 (.IM 1 (.t 56) none<|some<|.t 57),[1,2,3]),(zA 59 (.append 18 1 16 (.t 54)<|.t 58),rr5),(qA 60 3 7,[]),(qF 61 1 60,[6]),(zM 62 9,[]),(qk 63 .add 62 1,[8]),(zA 64 (.IM 1 (.t 61) (some<|.t 63) none),[6,7,8,9]),(zA 65 (.append 19 1 16 (.t 59)<|.t 64),ahj),(zM 11 65,ajd)] [1,2,4,6,7,10,11]) .skip)<|.seq (.sH [(qT 66 5 2,[]),(zM 67 1,[]),(zM 68 6,[]),(zA 69 (.IM 1 (.t 67) none<|some<|.t 68),[1,2]),(qA 70 0 7,[]),(qF 71 1 70,[4]),(zM 72 11,[]),(zM 73 10,[]),(zA 74 (.build zN [(0,1,.t 71),(3,1,.t 72),(4,1,.t 73)]),[4,5,6,7]),(q3 75 158 66 69 74,rr9),(qE 76 75 0,afE),(qE 77 75 1,afE),(qS 5 4 76,ajd),(zM 5 77,al8)] [4,5]) .ret
theorem K.kG : jl pZ 141 2 0 C.kG [.cell 4 true 5,.tmp 5]=true:=by kernel_rfl
def C.lX : bU:=qs [qI 2 0] [0]<|.seq (qs [zM 3 0] [3]<|qc 3 (qr [qI 2 1] [2]) .skip)<|qr [qI 2 0] [2]
theorem K.lX : jl pZ 212 1 0 C.lX [.tmp 2]=true:=by kernel_rfl
def C.rV : bU:=qs [qI 4 0] [0,1]<|qr [zM 5 0,zM 6 1,qb 7 .gtr 5 6,q1 8 212 7,zM 9 0,zM 10 1,qb 11 .lss 9 10,q1 12 212 11,qb 13 .sub 8 12,zM 4 13] [4]
theorem K.rV : jl pZ 191 2 0 C.rV [.tmp 4]=true:=by kernel_rfl
def C.oP : bU:=qs [qI 4 0] [0,1]<|qr [zM 5 0,zM 6 1,qb 7 .gtr 5 6,q1 8 212 7,zM 9 0,zM 10 1,qb 11 .lss 9 10,q1 12 212 11,qb 13 .sub 8 12,zM 4 13] [4]
theorem K.oP : jl pZ 192 2 0 C.oP [.tmp 4]=true:=by kernel_rfl
def C.gZ : bU:=qs [qX 2 10 0,qX 3 11 1,qI 4 0] [2,3]<|.seq (qs [qA 7 0 2,qF 8 1 7,qA 9 0 3,qF 10 1 9,qb 11 .neq 8 10] [2,3,11]<|qc 11 (qr [qA 12 0 2,qF 13 1 12,qA 14 0 3,qF 15 1 14,q2 16 191 13 15,zM 4 16] [4]) .skip)<|.seq (qs [qA 17 1 2,qF 18 1 17,qA 19 1 3,qF 20 1 19,qb 21 .neq 18 20] [2,3,21]<|qc 21 (qr [qA 22 1 2,qF 23 1 22,qA 24 1 3,qF 25 1 24,q2 26 191 23 25,zM 4 26] [4]) .skip)<|.seq (qs [qA 27 2 2,qF 28 1 27,qA 29 2 3,qF 30 1 29,qb 31 .neq 28 30] [2,3,31]<|qc 31 (qr [qA 32 2 2,qF 33 1 32,qA 34 2 3,qF 35 1 34,q2 36 192 33 35,zM 4 36] [4]) .skip)<|.seq (qs [qI 5 0] [2,3,5]<|.block 0<|.loop<|.seq (qs [zM 37 5,qA 38 4 2,qF 39 1 38,qL 40 39,qb 41 .lss 37 40,zM 42 41,qm 42 true 43 5,zG 42 true 44 (.mW 4<|.t 3),zG 42 true 45 (.load false 1<|.t 44),zG 42 true 46 (.len<|.t 45),zG 42 true 47 (.bin .lss (.t 43)<|.t 46),qP 48 42 47] [2,3,5,48]<|qc 48 .skip<|.exit 0)<|.seq (.block 1<|.seq (.seq (.sH [(qA 51 0 2,[]),(qF 52 1 51,[0]),(qk 53 .eql 52 4,[0,1]),(zM 54 53,[0,1,2]),(zG 54 true 55 (.mW 3<|.t 2),rr4),(zG 54 true 56 (.load false 1<|.t 55),rr5),(qm 54 true 57 5,rr4),(zG 54 true 58 (.zD 1 (.t 56)<|.t 57),rr7),(zG 54 true 59 (.load false 1<|.t 58),rr8),(zG 54 true 60 (.mW 3<|.t 3),rr4),(zG 54 true 61 (.load false 1<|.t 60),[0,1,2,3,9]),(qm 54 true 62 5,rr4),(zG 54 true 63 (.zD 1 (.t 61)<|.t 62),[0,1,2,3,9,10,11]),(zG 54 true 64 (.load false 1<|.t 63),[0,1,2,3,9,10,11,12]),(zG 54 true 65 (.bin .neq (.t 59)<|.t 64),akl),(qP 66 54 65,ap7)] [2,3,5,66])<|qc 66 (.seq (.sH [(qA 67 3 2,[]),(qF 68 1 67,[0]),(zM 69 5,[]),(qD 70 1 68 69,[0,1,2]),(qF 71 1 70,rr4),(qA 72 3 3,[]),(qF 73 1 72,[5]),(zM 74 5,[]),(qD 75 1 73 74,[5,6,7]),(qF 76 1 75,[5,6,7,8]),(q2 77 192 71 76,afE),(zM 4 77,ahj)] [4]) .ret) .skip)<|.seq (.sH [(qA 78 4 2,[]),(qF 79 1 78,[0]),(zM 80 5,[]),(qD 81 5 79 80,[0,1,2]),(qT 82 5 81,rr4),(qA 83 4 3,[]),(qF 84 1 83,[5]),(zM 85 5,[]),(qD 86 5 84 85,[5,6,7]),(qT 87 5 86,[5,6,7,8]),(q2 88 175 82 87,afE),(zM 6 88,ahj)] [2,3,5,6])<|qs [zM 89 6,qk 90 .neq 89 0] [2,3,5,6,90]<|qc 90 (qr [zM 91 6,zM 4 91] [4]) .skip)<|.reg [zM 49 5,qk 50 .add 49 1,zM 5 50] [2,3,5])<|qr [qA 92 4 2,qF 93 1 92,qL 94 93,qA 95 4 3,qF 96 1 95,qL 97 96,q2 98 191 94 97,zM 4 98] [4]
theorem K.gZ : jl pZ 175 2 0 C.gZ [.tmp 4]=true:=by kernel_rfl
def C.yG : bU:=qs [qX 2 10 0,qX 3 11 1,qB 4 false] [2,3]<|qr [qT 5 5 2,qT 6 5 3,q2 7 175 5 6,qk 8 .eql 7 0,zM 4 8] [4]
theorem K.yG : jl pZ 160 2 0 C.yG [.tmp 4]=true:=by kernel_rfl
def C.kY : bU:=qs [qX 2 10 0,qX 3 11 1,qZ 4 12,qB 5 false] [2,3,4]<|.seq (qs [qA 11 0 3,qF 12 1 11] [2,3,4,12]<|.block 0<|qs [qk 14 .eql 12 1,zM 13 14] [2,3,4,12,13]<|qc 13 (qr [qT 15 5 2,qA 16 1 3,qF 17 1 16,qA 18 3 3,qT 19 5 18,q3 20 157 15 17 19,qE 21 20 0,qE 22 20 1,qS 5 4 21,zM 5 22] [4,5])<|qs [qk 24 .eql 12 2,zM 23 24] [2,3,4,12,23]<|qc 23 (qr [qT 25 5 2,qA 26 1 3,qF 27 1 26,q2 28 141 25 27,qE 29 28 0,qE 30 28 1,qS 5 4 29,zM 5 30] [4,5])<|qs [qk 32 .eql 12 3,zM 31 32] [2,3,4,31]<|qc 31 (qr [qT 33 5 2,qA 34 1 3,qF 35 1 34,qA 36 3 3,qT 37 5 36,q3 38 158 33 35 37,qE 39 38 0,qE 40 38 1,qS 5 4 39,zM 5 40] [4,5]) .skip)<|qs [qA 41 2 3,qF 42 1 41,zM 6 42] [2,3,4,6]<|.cut (qs [qA 43 0 3,qF 44 1 43,qk 45 .eql 44 6] [2,3,4,6,45]<|qc 45 (.reg [qA 46 1 3,qF 47 1 46,zM 6 47] [2,3,4,6]) .skip)<|qs [qT 49 5 2,zM 50 6,q2 51 159 49 50,zM 48 51,qE 52 48 0,qE 53 48 1,qZ 7 13,qS 5 7 52,zM 8 53] [2,3,4,7,8]<|.seq (qs [zM 54 8,qO 55 54] [2,3,4,7,55]<|qc 55 (qr [zA 56 (.build zN []),qS 5 4 56,qB 5 false] [4,5]) .skip)<|.seq (qs [qA 57 0 3,qF 58 1 57] [2,3,4,7,58]<|.block 1<|qs [qk 60 .eql 58 6,zM 59 60] [2,3,4,7,58,59]<|qc 59 (.seq (.sH [(qT 61 5 2,[]),(qT 62 5 7,[]),(qA 63 3 3,[]),(qT 64 5 63,[2]),(q2 65 160 62 64,[1,2,3]),(qS 5 4 61,rr5),(zM 5 65,rr6)] [4,5]) .ret)<|qs [qk 67 .eql 58 5,zM 66 67] [2,3,4,7,66]<|qc 66 (qr [qT 68 5 2,qA 69 1 3,qF 70 1 69,qT 71 5 7,q3 72 157 68 70 71,qE 73 72 0,qE 74 72 1,qS 5 4 73,zM 5 74] [4,5]) .skip)<|.seq (qs [qA 75 1 3,qF 76 1 75,qA 77 2 3,qF 78 1 77,q2 79 161 76 78] [2,3,4,7,79]<|qc 79 (.seq (.sH [(qT 80 5 2,[]),(q1 81 83 80,[0]),(qA 82 1 3,[]),(qF 83 1 82,[2]),(qL 84 83,[2,3]),(qA 85 2 3,[]),(qF 86 1 85,[5]),(qL 87 86,[5,6]),(qb 88 .eql 84 87,[2,3,4,5,6,7]),(qS 5 4 81,[0,1]),(zM 5 88,afE)] [4,5]) .ret) .skip)<|qs [qT 90 5 2,qA 91 2 3,qF 92 1 91,q2 93 141 90 92,zM 89 93,qE 94 89 0,qE 95 89 1,qZ 9 14,qS 5 9 94,zM 10 95] [3,4,7,9,10]<|.seq (qs [zM 96 10,qO 97 96] [3,4,7,9,97]<|qc 97 (qr [zA 98 (.build zN []),qS 5 4 98,qB 5 false] [4,5]) .skip)<|qr [qT 99 5 9,qA 100 1 3,qF 101 1 100,qT 102 5 7,q3 103 157 99 101 102,qE 104 103 0,qE 105 103 1,qS 5 4 104,zM 5 105] [4,5]
theorem K.kY : jl pZ 139 2 0 C.kY [.cell 4 true 5,.tmp 5]=true:=by kernel_rfl
def C.nJ : bU:=qs [qX 1 10 0,qI 2 0] [1]<|qs [qI 3 1] [1,3]<|.seq (qs [qI 4 0] [1,3,4]<|.block 0<|.loop<|.seq (qs [zM 5 4,qA 6 4 1,qF 7 1 6,qL 8 7,qb 9 .lss 5 8] [1,3,4,9]<|qc 9 .skip<|.exit 0)<|.seq (.block 1<|.reg [zM 12 3,qA 13 4 1,qF 14 1 13,zM 15 4,qD 16 5 14 15,qT 17 5 16,q1 18 108 17,qb 19 .add 12 18,zM 3 19] [1,3,4])<|.reg [zM 10 4,qk 11 .add 10 1,zM 4 11] [1,3,4])<|qr [zM 20 3,zM 2 20] [2]
theorem K.nJ : jl pZ 108 1 0 C.nJ [.tmp 2]=true:=by kernel_rfl
def C.gu : bU:=qs [qB 6 false] [0,1,2]<|qr [zM 7 1,zM 8 0,qb 9 .leq 7 8,zM 10 9,qm 10 true 11 0,qm 10 true 12 2,zG 10 true 13 (.bin .leq (.t 11)<|.t 12),qP 14 10 13,zM 6 14] [6]
theorem K.gu : jl pZ 77 3 0 C.gu [.tmp 6]=true:=by kernel_rfl
def C.iP : bU:=qs [qB 2 false] [0]<|.seq (qs [qI 3 0] [0,3]<|.block 0<|.loop<|.seq (qs [zM 4 3,zM 5 0,ql 6 5,qb 7 .lss 4 6] [0,3,7]<|qc 7 .skip<|.exit 0)<|.seq (.block 1<|qs [zM 10 0,zM 11 3,zA 12 (.idxs (.t 10)<|.t 11),zA 13 (.MZ .i64<|.t 12),⟨none,some 14,.call 77 [.t 13,kI 32,kI 126]⟩,qO 15 14] [0,3,15]<|qc 15 (qr [qB 2 false] [2]) .skip)<|.reg [zM 8 3,qk 9 .add 8 1,zM 3 9] [0,3])<|qr [zM 16 0,ql 17 16,qk 18 .leq 17 12,zM 2 18] [2]
theorem K.iP : jl pZ 133 1 0 C.iP [.tmp 2]=true:=by kernel_rfl
def C.oO : bU:=qs [qB 2 false] [0]<|.seq (qs [qI 3 0] [0,3]<|.block 0<|.loop<|.seq (qs [zM 4 3,zM 5 0,qL 6 5,qb 7 .lss 4 6] [0,3,7]<|qc 7 .skip<|.exit 0)<|.seq (.block 1<|.seq (.sH [(zM 10 0,[]),(zM 11 3,[]),(qD 12 1 10 11,[0,1]),(qF 13 1 12,[0,1,2]),(q1 14 133 13,rr4),(qO 15 14,rr5),(zM 16 15,rr6),(qm 16 false 17 3,rr7),(zG 16 false 18 (.bin .gtr (.t 17)<|kI 0),rr8),(qm 16 false 19 18,rr9),(qm 19 true 20 0,afE),(qm 19 true 21 3,afE),(zG 19 true 22 (.zD 1 (.t 20)<|.t 21),ajd),(zG 19 true 23 (.load false 1<|.t 22),al8),(qm 19 true 24 0,afE),(qm 19 true 25 3,afE),(zG 19 true 26 (.bin .sub (.t 25)<|kI 1),[0,1,2,3,4,5,6,7,8,9,15]),(zG 19 true 27 (.zD 1 (.t 24)<|.t 26),[0,1,2,3,4,5,6,7,8,9,14,15,16]),(zG 19 true 28 (.load false 1<|.t 27),[0,1,2,3,4,5,6,7,8,9,14,15,16,17]),(zG 19 true 29 (.bin .leq (.t 23)<|.t 28),anE),(zG 16 false 30 (.pick (.t 19) (.t 29)<|kB false),anF),(qQ 31 16 30,ap9)] [0,3,31])<|qc 31 (qr [qB 2 false] [2]) .skip)<|.reg [zM 8 3,qk 9 .add 8 1,zM 3 9] [0,3])<|qr [qB 2 true] [2]
theorem K.oO : jl pZ 135 1 0 C.oO [.tmp 2]=true:=by kernel_rfl
def C.tC : bU:=qs [qX 2 10 0,qB 4 false] [1,2]<|.seq (qs [qI 5 0] [1,2,5]<|.block 0<|.loop<|.seq (qs [zM 6 5,qA 7 4 2,qF 8 1 7,qL 9 8,qb 10 .lss 6 9] [1,2,5,10]<|qc 10 .skip<|.exit 0)<|.seq (.block 1<|qs [qA 13 4 2,qF 14 1 13,zM 15 5,qD 16 5 14 15,qT 17 5 16,zM 18 1,qk 19 .sub 18 1,q2 20 107 17 19,qO 21 20] [1,2,5,21]<|qc 21 (qr [qB 4 false] [4]) .skip)<|.reg [zM 11 5,qk 12 .add 11 1,zM 5 12] [1,2,5])<|qr [qB 4 true] [4]
theorem K.tC : jl pZ 134 2 0 C.tC [.tmp 4]=true:=by kernel_rfl
def C.ji : bU:=qs [qX 2 10 0,qB 4 false] [1,2]<|.cut (qs [zM 5 1,qk 6 .eql 5 0,zM 7 6,zG 7 false 8 (.mW 4<|.t 2),zG 7 false 9 (.load false 1<|.t 8),zG 7 false 10 (.len<|.t 9),zG 7 false 11 (.bin .gtr (.t 10)<|kI 6),qQ 12 7 11,zM 13 12,zG 13 false 14 (.mW 0<|.t 2),zG 13 false 15 (.load false 1<|.t 14),zG 13 false 16 (.bin .neq (.t 15)<|kI 1),qm 13 false 17 16,zG 17 true 18 (.mW 1<|.t 2),zG 17 true 19 (.load false 1<|.t 18),zG 17 true 20 (.bin .neq (.t 19)<|kI 0),zG 13 false 21 (.pick (.t 17) (.t 20)<|kB false),qQ 22 13 21,zM 23 22,zG 23 false 24 (.mW 0<|.t 2),zG 23 false 25 (.load false 1<|.t 24),zG 23 false 26 (.bin .neq (.t 25)<|kI 2),qm 23 false 27 26,zG 27 true 28 (.mW 2<|.t 2),zG 27 true 29 (.load false 1<|.t 28),zG 27 true 30 (.bin .neq (.t 29)<|.k<|.c<|.str []),zG 23 false 31 (.pick (.t 27) (.t 30)<|kB false),qQ 32 23 31,zM 33 32,zG 33 false 34 (.mW 0<|.t 2),zG 33 false 35 (.load false 1<|.t 34),zG 33 false 36 (.bin .neq (.t 35)<|kI 4),qm 33 false 37 36,zG 37 true 38 (.mW 3<|.t 2),zG 37 true 39 (.load false 1<|.t 38),zG 37 true 40 (.len<|.t 39),zG 37 true 41 (.bin .gtr (.t 40)<|kI 0),zG 33 false 42 (.pick (.t 37) (.t 41)<|kB false),qQ 43 33 42,zM 44 43,zG 44 false 45 (.mW 0<|.t 2),zG 44 false 46 (.load false 1<|.t 45),zG 44 false 47 (.bin .lss (.t 46)<|kI 3),qm 44 false 48 47,zG 48 true 49 (.mW 4<|.t 2),zG 48 true 50 (.load false 1<|.t 49),zG 48 true 51 (.len<|.t 50),zG 48 true 52 (.bin .gtr (.t 51)<|kI 0),zG 44 false 53 (.pick (.t 48) (.t 52)<|kB false),qQ 54 44 53] [1,2,54]<|qc 54 (qr [qB 4 false] [4]) .skip)<|.seq (qs [qA 55 0 2,qF 56 1 55] [1,2,56]<|.block 0<|qs [qk 58 .eql 56 1,zM 57 58] [1,2,56,57]<|qc 57 (qr [qA 59 1 2,qF 60 1 59,⟨none,some 61,.call 77 [.t 60,kI (-999999),kI 999999]⟩,zM 4 61] [4])<|qs [qk 63 .eql 56 2,zM 62 63] [1,2,56,62]<|qc 62 (qr [qA 64 2 2,qF 65 1 64,q1 66 133 65,zM 4 66] [4])<|qs [qk 68 .eql 56 3,zM 67 68] [1,2,56,67]<|qc 67 (qr [qT 69 5 2,zM 70 1,q2 71 134 69 70,zM 4 71] [4])<|qs [qk 73 .eql 56 4,zM 72 73] [1,2,72]<|qc 72 (qr [qA 74 3 2,qF 75 1 74,qL 76 75,qA 77 4 2,qF 78 1 77,qL 79 78,qb 80 .eql 76 79,zM 81 80,zG 81 true 82 (.mW 3<|.t 2),zG 81 true 83 (.load false 1<|.t 82),⟨(some (81,true)),some 84,.call 135 [.t 83]⟩,qP 85 81 84,zM 86 85,zG 86 true 87 (.load true 5<|.t 2),qm 86 true 88 1,⟨(some (86,true)),some 89,.call 134 [.t 87,.t 88]⟩,qP 90 86 89,zM 4 90] [4]) .skip)<|qr [qA 91 0 2,qF 92 1 91,qk 93 .eql 92 0,zM 4 93] [4]
theorem K.ji : jl pZ 107 2 0 C.ji [.tmp 4]=true:=by kernel_rfl
def C.fZ : bU:=qs [qX 1 10 0,qB 2 false] [1]<|qr [qT 3 5 1,⟨none,some 4,.call 107 [.t 3,kI 5]⟩,zM 5 4,zG 5 true 6 (.load true 5<|.t 1),⟨(some (5,true)),some 7,.call 108 [.t 6]⟩,zG 5 true 8 (.bin .leq (.t 7)<|kI 40),qP 9 5 8,zM 2 9] [2]
theorem K.fZ : jl pZ 76 1 0 C.fZ [.tmp 2]=true:=by kernel_rfl
def C.qh : bU:=qs [qX 2 10 0,qZ 4 11,qB 5 false] [1,2,4]<|.seq (qs [zM 6 1,qO 7 6,zM 8 7,zG 8 false 9 (.load true 5<|.t 2),⟨(some (8,false)),some 10,.call 76 [.t 9]⟩,zG 8 false 11 (.not<|.t 10),qQ 12 8 11] [2,4,12]<|qc 12 (qr [zA 13 (.build zN []),qS 5 4 13,qB 5 false] [4,5]) .skip)<|qr [qT 14 5 2,qS 5 4 14,qB 5 true] [4,5]
theorem K.qh : jl pZ 117 2 0 C.qh [.cell 4 true 5,.tmp 5]=true:=by kernel_rfl
def C.qY : bU:=qs [qX 2 10 0,qX 3 11 1,qZ 4 12,qB 5 false] [2,3,4]<|qs [qT 9 5 2,qT 10 8 3,q2 11 139 9 10,qE 12 11 0,qE 13 11 1,q2 14 117 12 13,zM 8 14,qE 15 8 0,qE 16 8 1,qZ 6 13,qS 5 6 15,zM 7 16] [4,6,7]<|.seq (qs [zM 17 7,qO 18 17] [4,6,18]<|qc 18 (qr [zA 19 (.build zN []),qS 5 4 19,qB 5 false] [4,5]) .skip)<|qr [qT 20 5 6,q1 21 83 20,qS 5 4 21,qB 5 true] [4,5]
theorem K.qY : jl pZ 116 2 0 C.qY [.cell 4 true 5,.tmp 5]=true:=by kernel_rfl
def C.jk : bU:=qs [qB 2 false] [0]<|.seq (qs [qI 3 0] [0,3]<|.block 0<|.loop<|.seq (qs [zM 4 3,zM 5 0,qL 6 5,qb 7 .lss 4 6] [0,3,7]<|qc 7 .skip<|.exit 0)<|.seq (.block 1<|qs [zM 10 0,zM 11 3,qD 12 1 10 11,qF 13 1 12,q1 14 133 13,qO 15 14] [0,3,15]<|qc 15 (qr [qB 2 false] [2]) .skip)<|.reg [zM 8 3,qk 9 .add 8 1,zM 3 9] [0,3])<|qr [zM 16 0,qL 17 16,qk 18 .leq 17 5,zM 2 18] [2]
theorem K.jk : jl pZ 136 1 0 C.jk [.tmp 2]=true:=by kernel_rfl
def C.rC : bU:=qs [qX 1 10 0,qB 2 false] [1]<|qr [qA 3 0 1,qF 4 1 3,⟨none,some 5,.call 77 [.t 4,kI 1,kI 6]⟩,zM 6 5,zG 6 true 7 (.mW 1<|.t 1),zG 6 true 8 (.load false 1<|.t 7),⟨(some (6,true)),some 9,.call 136 [.t 8]⟩,qP 10 6 9,zM 11 10,zG 11 true 12 (.mW 2<|.t 1),zG 11 true 13 (.load false 1<|.t 12),⟨(some (11,true)),some 14,.call 136 [.t 13]⟩,qP 15 11 14,zM 16 15,zG 16 true 17 (.mW 3<|.t 1),zG 16 true 18 (.load true 5<|.t 17),⟨(some (16,true)),some 19,.call 76 [.t 18]⟩,qP 20 16 19,zM 2 20] [2]
theorem K.rC : jl pZ 110 1 0 C.rC [.tmp 2]=true:=by kernel_rfl
def C.fE : bU:=qs [qB 2 false] [0]<|.seq (qs [qI 3 0] [0,3]<|.block 0<|.loop<|.seq (qs [zM 4 3,zM 5 0,qL 6 5,qb 7 .lss 4 6] [0,3,7]<|qc 7 .skip<|.exit 0)<|.seq (.block 1<|qs [zM 10 0,zM 11 3,qD 12 8 10 11,qT 13 8 12,q1 14 110 13,qO 15 14] [0,3,15]<|qc 15 (qr [qB 2 false] [2]) .skip)<|.reg [zM 8 3,qk 9 .add 8 1,zM 3 9] [0,3])<|qr [zM 16 0,qL 17 16,qk 18 .leq 17 12,zM 2 18] [2]
theorem K.fE : jl pZ 79 1 0 C.fE [.tmp 2]=true:=by kernel_rfl
def C.jy : bU:=qs [qX 2 10 0,qZ 4 11,qB 5 false] [1,2,4]<|.seq (qs [qT 10 5 2,q1 11 76 10,qO 12 11,zM 13 12,qm 13 false 14 1,⟨(some (13,false)),some 15,.call 79 [.t 14]⟩,zG 13 false 16 (.not<|.t 15),qQ 17 13 16] [1,2,4,17]<|qc 17 (qr [zA 18 (.build zN []),qS 5 4 18,qB 5 false] [4,5]) .skip)<|qs [qT 19 5 2,q1 20 83 19,qZ 6 12,qS 5 6 20] [1,4,6]<|.seq (qs [qI 7 0] [1,4,6,7]<|.block 0<|.loop<|.seq (qs [zM 21 7,zM 22 1,qL 23 22,qb 24 .lss 21 23] [1,4,6,7,24]<|qc 24 .skip<|.exit 0)<|.seq (.block 1<|.seq (.sH [(qT 28 5 6,[]),(zM 29 1,[]),(zM 30 7,[]),(qD 31 8 29 30,[1,2]),(qT 32 8 31,[1,2,3]),(q2 33 116 28 32,rr5),(zM 27 33,rr6),(qE 34 27 0,rr7),(qE 35 27 1,rr7),(qZ 8 13,[]),(qS 5 8 34,[0,1,2,3,4,5,6,7,9]),(zM 9 35,ahj)] [1,4,6,7,8,9])<|.seq (qs [zM 36 9,qO 37 36] [1,4,6,7,8,37]<|qc 37 (qr [zA 38 (.build zN []),qS 5 4 38,qB 5 false] [4,5]) .skip)<|.reg [qT 39 5 8,qS 5 6 39] [1,4,6,7])<|.reg [zM 25 7,qk 26 .add 25 1,zM 7 26] [1,4,6,7])<|qr [qT 40 5 6,qS 5 4 40,qB 5 true] [4,5]
theorem K.jy : jl pZ 86 2 0 C.jy [.cell 4 true 5,.tmp 5]=true:=by kernel_rfl
def C.lI : bU:=qs [zA 2 (.alloc 10 [oJ 0,.c (.str []),oJ 0,oJ 0,oJ 0,.c (.str []),.lF 1,.lF 5])] [0,2]<|qr [zM 3 0,zA 4 (.build [oJ 0,.c (.str []),oJ 0,oJ 0,oJ 0,.c (.str []),.lF 1,.lF 5] [(0,1,.t 3)]),qS 8 2 4] [2]
theorem K.lI : jl pZ 37 1 0 C.lI [.cell 2 true 8]=true:=by kernel_rfl
def C.jD : bU:=qs [qX 2 10 0,qX 3 11 1,qZ 4 12] [2,3,4]<|.seq (qs [qA 9 0 3,qF 10 1 9,qk 11 .neq 10 4] [2,3,4,11]<|qc 11 (qr [qT 12 5 3,q1 13 83 12,qS 5 4 13] [4]) .skip)<|qs [zA 14 (.sZ 13 1 0 [.str []] []),zA 15 (.sZ 14 5 0 [.lit (.int .i64 0),.lit (.int .i64 0),.str [],.sl 1 [],.sl 5 []] []),zA 16 (.build zN [(0,1,kI 4),(3,1,.t 14),(4,1,.t 15)]),qZ 5 15,qS 5 5 16] [2,3,4,5]<|.cut (qs [qA 17 0 2,qF 18 1 17,qk 19 .eql 18 4] [2,3,4,5,19]<|qc 19 (.reg [qT 20 5 2,q1 21 83 20,qS 5 5 21] [3,4,5]) .skip)<|.seq (qs [qI 6 0] [3,4,5,6]<|.block 0<|.loop<|.seq (qs [zM 22 6,qA 23 4 3,qF 24 1 23,qL 25 24,qb 26 .lss 22 25] [3,4,5,6,26]<|qc 26 .skip<|.exit 0)<|.seq (.block 1<|qs [qA 29 3 3,qF 30 1 29,zM 31 6,qD 32 1 30 31,qF 33 1 32,zM 7 33] [3,4,5,6,7]<|qs [qT 34 5 5,zM 35 7,q2 36 140 34 35,zM 8 36] [3,4,5,6,7,8]<|.block 2<|qs [qA 38 4 3,qF 39 1 38,zM 40 6,qD 41 5 39 40,qA 42 0 41,qF 43 1 42,qk 44 .eql 43 0,zM 45 44,qm 45 true 46 8,zG 45 true 47 (.bin .geq (.t 46)<|kI 0),qP 48 45 47,zM 37 48] [3,4,5,6,7,8,37]<|qc 37 (.reg [qT 50 5 5,zM 51 7,zA 52 (.sZ 16 1 1 [.str []] [(0,.t 51)]),q2 53 141 50 52,zM 49 53,qE 54 49 0,qE 55 49 1,qS 5 5 54] [3,4,5,6])<|qs [qA 57 4 3,qF 58 1 57,zM 59 6,qD 60 5 58 59,qA 61 0 60,qF 62 1 61,qk 63 .neq 62 0,zM 64 63,qm 64 true 65 8,zG 64 true 66 (.bin .geq (.t 65)<|kI 0),qP 67 64 66,zM 56 67] [3,4,5,6,7,8,56]<|qc 56 (.sH [(qT 68 5 5,[]),(zM 69 8,[]),(qA 70 4 5,[]),(qF 71 1 70,[2]),(zM 72 8,[]),(qD 73 5 71 72,[2,3,4]),(qT 74 5 73,[2,3,4,5]),(qA 75 4 3,[]),(qF 76 1 75,[7]),(zM 77 6,[]),(qD 78 5 76 77,[7,8,9]),(qT 79 5 78,[7,8,9,10]),(q2 80 118 74 79,[2,3,4,5,6,7,8,9,10,11]),(q3 81 142 68 69 80,al8),(qS 5 5 81,akl)] [3,4,5,6])<|qs [qA 83 4 3,qF 84 1 83,zM 85 6,qD 86 5 84 85,qA 87 0 86,qF 88 1 87,qk 89 .neq 88 0,zM 82 89] [3,4,5,6,7,82]<|qc 82 (.sH [(qT 91 5 5,[]),(zM 92 7,[]),(zA 93 (.build zN []),[]),(qA 94 4 3,[]),(qF 95 1 94,[3]),(zM 96 6,[]),(qD 97 5 95 96,[3,4,5]),(qT 98 5 97,[3,4,5,6]),(q2 99 118 93 98,[2,3,4,5,6,7]),(q3 100 143 91 92 99,rr9),(zM 90 100,afE),(qE 101 90 0,ahj),(qE 102 90 1,ahj),(qS 5 5 101,ajd)] [3,4,5,6]) .skip)<|.reg [zM 27 6,qk 28 .add 27 1,zM 6 28] [3,4,5,6])<|qr [qT 103 5 5,qS 5 4 103] [4]
theorem K.jD : jl pZ 118 2 0 C.jD [.cell 4 true 5]=true:=by kernel_rfl
def C.qW : bU:=qs [qX 2 10 0,qX 3 11 1,qZ 4 12,qB 5 false] [2,3,4]<|.seq (qs [qT 6 5 2,q1 7 76 6,qO 8 7,zM 9 8,zG 9 false 10 (.load true 5<|.t 3),⟨(some (9,false)),some 11,.call 76 [.t 10]⟩,zG 9 false 12 (.not<|.t 11),qQ 13 9 12] [2,3,4,13]<|qc 13 (qr [zA 14 (.build zN []),qS 5 4 14,qB 5 false] [4,5]) .skip)<|qr [qT 15 5 2,qT 16 5 3,q2 17 118 15 16,⟨none,some 18,.call 117 [.t 17,.k (.c<|.lit<|.bool true)]⟩,qE 19 18 0,qE 20 18 1,qS 5 4 19,zM 5 20] [4,5]
theorem K.qW : jl pZ 87 2 0 C.qW [.cell 4 true 5,.tmp 5]=true:=by kernel_rfl
def C.mQ : bU:=qs [qB 4 false] [0,1]<|.seq (qs [qI 5 0] [0,1,5]<|.block 0<|.loop<|.seq (qs [zM 6 5,zM 7 0,qL 8 7,qb 9 .lss 6 8] [0,1,5,9]<|qc 9 .skip<|.exit 0)<|.seq (.block 1<|qs [zM 12 0,zM 13 5,qD 14 1 12 13,qF 15 1 14,zM 16 1,qb 17 .eql 15 16,zM 18 17,qm 18 false 19 0,qm 18 false 20 5,zG 18 false 21 (.zD 1 (.t 19)<|.t 20),zG 18 false 22 (.load false 1<|.t 21),zG 18 false 23 (.bin .eql (.t 22)<|.k<|.c<|.str [42]),qQ 24 18 23] [0,1,5,24]<|qc 24 (qr [qB 4 true] [4]) .skip)<|.reg [zM 10 5,qk 11 .add 10 1,zM 5 11] [0,1,5])<|qr [qB 4 false] [4]
theorem K.mQ : jl pZ 111 2 0 C.mQ [.tmp 4]=true:=by kernel_rfl
def C.vP : bU:=qs [qI 8 0] [0,1,2,3]<|.seq (qs [zM 9 0,qL 10 9,qk 11 .gtr 10 0,zM 12 11,qm 12 true 13 2,zG 12 true 14 (.bin .eql (.t 13)<|.k<|.c<|.str []),qm 12 true 15 14,qm 15 false 16 0,qm 15 false 17 2,⟨(some (15,false)),some 18,.call 111 [.t 16,.t 17]⟩,zG 15 false 19 (.not<|.t 18),zG 12 true 20 (.pick (.t 15) (kB true)<|.t 19),qP 21 12 20] [1,2,3,21]<|qc 21 (qr [qI 8 412] [8]) .skip)<|.seq (qs [zM 22 1,qL 23 22,qk 24 .gtr 23 0,zM 25 24,qm 25 true 26 2,zG 25 true 27 (.bin .neq (.t 26)<|.k<|.c<|.str []),qP 28 25 27,zM 29 28,qm 29 true 30 1,qm 29 true 31 2,⟨(some (29,true)),some 32,.call 111 [.t 30,.t 31]⟩,qP 33 29 32] [3,33]<|qc 33 (.seq (qs [zM 34 3] [34]<|qc 34 (qr [qI 8 304] [8]) .skip)<|qr [qI 8 412] [8]) .skip)<|qr [qI 8 200] [8]
theorem K.vP : jl pZ 81 4 0 C.vP [.tmp 8]=true:=by kernel_rfl
def C.dU : bU:=qs [qX 1 10 0,zA 2 (.alloc 11 [.lF 7,oJ 0])] [1,2]<|qs [zA 5 (.sZ 12 7 0 [.str [],.lit (.int .i64 0),.lit (.int .i64 0),.lit (.int .i64 0),.str [],.sl 1 [],.sl 5 []] []),zM 3 5] [1,2,3]<|.seq (qs [qI 4 0] [1,2,3,4]<|.block 0<|.loop<|.seq (qs [zM 6 4,qA 7 0 1,qF 8 1 7,qL 9 8,qb 10 .lss 6 9] [1,2,3,4,10]<|qc 10 .skip<|.exit 0)<|.seq (.block 1<|.sH [(zM 13 3,[]),(qA 14 0 1,[]),(qF 15 1 14,[1]),(zM 16 4,[]),(qD 17 7 15 16,[1,2,3]),(qA 18 0 17,[1,2,3,4]),(qF 19 1 18,[1,2,3,4,5]),(qA 20 0 1,[]),(qF 21 1 20,[7]),(zM 22 4,[]),(qD 23 7 21 22,[7,8,9]),(qA 24 1 23,[7,8,9,10]),(qF 25 1 24,[7,8,9,10,11]),(qA 26 0 1,[]),(qF 27 1 26,[13]),(zM 28 4,[]),(qD 29 7 27 28,[13,14,15]),(qA 30 2 29,[13,14,15,16]),(qT 31 5 30,[13,14,15,16,17]),(q1 32 83 31,[13,14,15,16,17,18]),(zA 33 (.build [.c (.str []),oJ 0,oJ 0,oJ 0,.c (.str []),.lF 1,.lF 5] [(0,1,.t 19),(1,1,.t 25),(2,5,.t 32)]),[1,2,3,4,5,6,7,8,9,10,11,12,13,14,15,16,17,18,19]),(zA 34 (.sZ 13 7 1 [.str [],.lit (.int .i64 0),.lit (.int .i64 0),.lit (.int .i64 0),.str [],.sl 1 [],.sl 5 []] [(0,.t 33)]),[1,2,3,4,5,6,7,8,9,10,11,12,13,14,15,16,17,18,19,20]),(zA 35 (.append 14 7 104 (.t 13)<|.t 34),anj),(zM 3 35,aqa)] [1,2,3,4])<|.reg [zM 11 4,qk 12 .add 11 1,zM 4 12] [1,2,3,4])<|qr [zM 36 3,qA 37 1 1,qF 38 1 37,zA 39 (.build [.lF 7,oJ 0] [(0,1,.t 36),(1,1,.t 38)]),qS 2 2 39] [2]
theorem K.dU : jl pZ 62 1 0 C.dU [.cell 2 true 2]=true:=by kernel_rfl
def C.rZ : bU:=qs [qX 2 10 0,zA 4 (.alloc 11 [.lF 7,oJ 0])] [1,2,4]<|qs [zA 8 (.sZ 12 7 0 [.str [],.lit (.int .i64 0),.lit (.int .i64 0),.lit (.int .i64 0),.str [],.sl 1 [],.sl 5 []] []),zM 5 8] [1,2,4,5]<|qs [qT 9 2 2,q1 10 62 9,zA 11 (.field false 0 1<|.t 10),zM 6 11] [1,2,4,5,6]<|.seq (qs [qI 7 0] [1,2,4,5,6,7]<|.block 0<|.loop<|.seq (qs [zM 12 7,zM 13 6,qL 14 13,qb 15 .lss 12 14] [1,2,4,5,6,7,15]<|qc 15 .skip<|.exit 0)<|.seq (.block 1<|qs [zM 18 6,zM 19 7,qD 20 7 18 19,qA 21 0 20,qF 22 1 21,zM 23 1,qb 24 .neq 22 23] [1,2,4,5,6,7,24]<|qc 24 (.reg [zM 25 5,zM 26 6,zM 27 7,qD 28 7 26 27,qT 29 7 28,zA 30 (.sZ 13 7 1 [.str [],.lit (.int .i64 0),.lit (.int .i64 0),.lit (.int .i64 0),.str [],.sl 1 [],.sl 5 []] [(0,.t 29)]),zA 31 (.append 14 7 104 (.t 25)<|.t 30),zM 5 31] [1,2,4,5,6,7]) .skip)<|.reg [zM 16 7,qk 17 .add 16 1,zM 7 17] [1,2,4,5,6,7])<|qr [zM 32 5,qA 33 1 2,qF 34 1 33,qk 35 .add 34 1,zA 36 (.build [.lF 7,oJ 0] [(0,1,.t 32),(1,1,.t 35)]),qS 2 4 36] [4]
theorem K.rZ : jl pZ 85 2 0 C.rZ [.cell 4 true 2]=true:=by kernel_rfl
def C.o8 : bU:=qs [qX 2 10 0,qI 4 0] [1,2]<|.seq (qs [qI 5 0] [1,2,5]<|.block 0<|.loop<|.seq (qs [zM 6 5,qA 7 0 2,qF 8 1 7,qL 9 8,qb 10 .lss 6 9] [1,2,5,10]<|qc 10 .skip<|.exit 0)<|.seq (.block 1<|qs [qA 13 0 2,qF 14 1 13,zM 15 5,qD 16 7 14 15,qA 17 0 16,qF 18 1 17,zM 19 1,qb 20 .eql 18 19] [1,2,5,20]<|qc 20 (qr [zM 21 5,zM 4 21] [4]) .skip)<|.reg [zM 11 5,qk 12 .add 11 1,zM 5 12] [1,2,5])<|qr [qI 4 (-1)] [4]
theorem K.o8 : jl pZ 80 2 0 C.o8 [.tmp 4]=true:=by kernel_rfl
def C.nK : bU:=qs [zA 2 (.mv<|.k<|.c<|.str [])] [0]<|qs [zA 3 (.mv<|.k<|.c<|.str [34])] [0,3]<|.seq (qs [qI 4 0] [0,3,4]<|.block 0<|.loop<|.seq (qs [zM 5 4,zM 6 0,ql 7 6,qb 8 .lss 5 7] [0,3,4,8]<|qc 8 .skip<|.exit 0)<|.seq (.block 1<|.seq (qs [zM 11 0,zM 12 4,zA 13 (.idxs (.t 11)<|.t 12),zA 14 (.bin .eql (.t 13)<|.k<|.c<|.lit<|.int .u8 34),zM 15 14,qm 15 false 16 0,qm 15 false 17 4,zG 15 false 18 (.idxs (.t 16)<|.t 17),zG 15 false 19 (.bin .eql (.t 18)<|.k<|.c<|.lit<|.int .u8 92),qQ 20 15 19] [0,3,4,20]<|qc 20 (.reg [zM 21 3,zA 22 (.bin .add (.t 21)<|.k<|.c<|.str [92]),zM 3 22] [0,3,4]) .skip)<|.reg [zM 23 3,zM 24 0,zM 25 4,zM 26 4,qk 27 .add 26 1,zA 28 (.Xz (.t 24) (some<|.t 25)<|some<|.t 27),qb 29 .add 23 28,zM 3 29] [0,3,4])<|.reg [zM 9 4,qk 10 .add 9 1,zM 4 10] [0,3,4])<|qr [zM 30 3,zA 31 (.bin .add (.t 30)<|.k<|.c<|.str [34]),zM 2 31] [2]
theorem K.nK : jl pZ 138 1 0 C.nK [.tmp 2]=true:=by kernel_rfl
def C.gz : bU:=qs [qX 1 10 0,zA 2 (.mv<|.k<|.c<|.str [])] [1]<|qs [zA 3 (.mv<|.k<|.c<|.str [])] [1,3]<|.seq (qs [qA 5 0 1,qF 6 1 5] [1,3,6]<|.block 0<|qs [qk 8 .eql 6 1,zM 7 8] [1,3,6,7]<|qc 7 (qr [qA 9 1 1,qF 10 1 9,q1 11 137 10,zM 2 11] [2])<|qs [qk 13 .eql 6 2,zM 12 13] [1,3,6,12]<|qc 12 (qr [qA 14 2 1,qF 15 1 14,q1 16 138 15,zM 2 16] [2])<|qs [qk 18 .eql 6 0,zM 17 18] [1,3,17]<|qc 17 (qr [zA 2 (.mv<|.k<|.c<|.str [110,117,108,108])] [2]) .skip)<|.seq (qs [qI 4 0] [1,3,4]<|.block 1<|.loop<|.seq (qs [zM 19 4,qA 20 4 1,qF 21 1 20,qL 22 21,qb 23 .lss 19 22] [1,3,4,23]<|qc 23 .skip<|.exit 1)<|.seq (.block 2<|.cut (qs [zM 26 4,qk 27 .gtr 26 0] [1,3,4,27]<|qc 27 (.reg [zM 28 3,zA 29 (.bin .add (.t 28)<|.k<|.c<|.str [44]),zM 3 29] [1,3,4]) .skip)<|.cut (qs [qA 30 0 1,qF 31 1 30,qk 32 .eql 31 4] [1,3,4,32]<|qc 32 (.reg [zM 33 3,qA 34 3 1,qF 35 1 34,zM 36 4,qD 37 1 35 36,qF 38 1 37,q1 39 138 38,qb 40 .add 33 39,zA 41 (.bin .add (.t 40)<|.k<|.c<|.str [58]),zM 3 41] [1,3,4]) .skip)<|.reg [zM 42 3,qA 43 4 1,qF 44 1 43,zM 45 4,qD 46 5 44 45,qT 47 5 46,q1 48 114 47,qb 49 .add 42 48,zM 3 49] [1,3,4])<|.reg [zM 24 4,qk 25 .add 24 1,zM 4 25] [1,3,4])<|.seq (qs [qA 50 0 1,qF 51 1 50,qk 52 .eql 51 4] [3,52]<|qc 52 (qr [zM 53 3,zA 54 (.bin .add (.k<|.c<|.str [123])<|.t 53),zA 55 (.bin .add (.t 54)<|.k<|.c<|.str [125]),zM 2 55] [2]) .skip)<|qr [zM 56 3,zA 57 (.bin .add (.k<|.c<|.str [91])<|.t 56),zA 58 (.bin .add (.t 57)<|.k<|.c<|.str [93]),zM 2 58] [2]
theorem K.gz : jl pZ 114 1 0 C.gz [.tmp 2]=true:=by kernel_rfl
def C.AB : bU:=qs [zA 2 (.mv<|.k<|.c<|.str [])] [0]<|qs [zA 3 (.mv<|.k<|.c<|.str [48,49,50,51,52,53,54,55,56,57,97,98,99,100,101,102])] [0,3]<|.seq (.sH [(zM 4 3,[]),(zM 5 0,[]),(qk 6 .quo 5 4096,[1]),(zA 7 (.idxs (.t 4)<|.t 6),[0,1,2]),(zM 8 3,[]),(zM 9 0,[]),(qk 10 .quo 9 256,[5]),(qk 11 .rem 10 16,[5,6]),(zA 12 (.idxs (.t 8)<|.t 11),[4,5,6,7]),(zM 13 3,[]),(zM 14 0,[]),(qk 15 .quo 14 16,[10]),(qk 16 .rem 15 16,[10,11]),(zA 17 (.idxs (.t 13)<|.t 16),[9,10,11,12]),(zM 18 3,[]),(zM 19 0,[]),(qk 20 .rem 19 16,[15]),(zA 21 (.idxs (.t 18)<|.t 20),[14,15,16]),(zA 22 (.sZ 10 1 4 [.lit (.int .u8 0)] [(0,.t 7),(1,.t 12),(2,.t 17),(3,.t 21)]),aoI),(zA 23 (.Wn<|.t 22),anE),(zM 2 23,anF)] [2]) .ret
theorem K.AB : jl pZ 112 1 0 C.AB [.tmp 2]=true:=by kernel_rfl
def C.rf : bU:=qs [qI 2 0] [0]<|qs [qI 3 17] [0,3]<|.seq (qs [qI 4 0] [0,3,4]<|.block 0<|.loop<|.seq (qs [zM 5 4,zM 6 0,ql 7 6,qb 8 .lss 5 7] [0,3,4,8]<|qc 8 .skip<|.exit 0)<|.seq (.block 1<|.reg [zM 11 3,zA 12 (.bin .mul (kI 131)<|.t 11),zM 13 0,zM 14 4,zA 15 (.idxs (.t 13)<|.t 14),zA 16 (.MZ .i64<|.t 15),qb 17 .add 12 16,qk 18 .rem 17 65521,zM 3 18] [0,3,4])<|.reg [zM 9 4,qk 10 .add 9 1,zM 4 10] [0,3,4])<|qr [zM 19 3,zM 2 19] [2]
theorem K.rf : jl pZ 113 1 0 C.rf [.tmp 2]=true:=by kernel_rfl
def C.uf : bU:=qs [qX 2 10 0,zA 4 (.mv<|.k<|.c<|.str [])] [1,2]<|qs [qT 6 2 2,zM 7 1,q2 8 80 6 7,zM 5 8] [2,5]<|.seq (qs [zM 9 5,qk 10 .lss 9 0] [2,5,10]<|qc 10 (qr [zA 4 (.mv<|.k<|.c<|.str [])] [4]) .skip)<|qr [qA 11 0 2,qF 12 1 11,zM 13 5,qD 14 7 12 13,qA 15 2 14,qT 16 5 15,q1 17 114 16,q1 18 113 17,q1 19 112 18,zM 4 19] [4]
theorem K.uf : jl pZ 82 2 0 C.uf [.tmp 4]=true:=by kernel_rfl
def C.lW : bU:=qs [qX 3 10 0,qX 5 11 2,zA 6 (.alloc 12 [.lF 7,oJ 0])] [1,3,5,6]<|qs [zA 12 (.sZ 13 7 0 [.str [],.lit (.int .i64 0),.lit (.int .i64 0),.lit (.int .i64 0),.str [],.sl 1 [],.sl 5 []] []),zM 7 12] [1,3,5,6,7]<|.seq (.sH [(zM 13 1,[]),(qA 14 1 3,[]),(qF 15 1 14,[1]),(qk 16 .add 15 1,[1,2]),(qT 17 5 5,[]),(q1 18 83 17,[4]),(zA 19 (.build [.c (.str []),oJ 0,oJ 0,oJ 0,.c (.str []),.lF 1,.lF 5] [(0,1,.t 13),(1,1,.t 16),(2,5,.t 18)]),rr6),(zA 8 (.alloc 14 [.c (.str []),oJ 0,oJ 0,oJ 0,.c (.str []),.lF 1,.lF 5]),[]),(qS 7 8 19,rr8)] [1,3,6,7,8])<|qs [qT 20 2 3,q1 21 62 20,zA 22 (.field false 0 1<|.t 21),zM 9 22] [1,3,6,7,8,9]<|qs [qB 10 false] [1,3,6,7,8,9,10]<|.seq (qs [qI 11 0] [1,3,6,7,8,9,10,11]<|.block 0<|.loop<|.seq (qs [zM 23 11,zM 24 9,qL 25 24,qb 26 .lss 23 25] [1,3,6,7,8,9,10,11,26]<|qc 26 .skip<|.exit 0)<|.seq (.block 1<|.cut (qs [zM 29 10,qO 30 29,zM 31 30,qm 31 true 32 9,qm 31 true 33 11,zG 31 true 34 (.zD 7 (.t 32)<|.t 33),zG 31 true 35 (.mW 0<|.t 34),zG 31 true 36 (.load false 1<|.t 35),qm 31 true 37 1,zG 31 true 38 (.bin .geq (.t 36)<|.t 37),qP 39 31 38] [1,3,6,7,8,9,10,11,39]<|qc 39 (qs [zM 40 7,qT 41 7 8,zA 42 (.sZ 15 7 1 [.str [],.lit (.int .i64 0),.lit (.int .i64 0),.lit (.int .i64 0),.str [],.sl 1 [],.sl 5 []] [(0,.t 41)]),zA 43 (.append 16 7 104 (.t 40)<|.t 42),zM 7 43] [1,3,6,7,8,9,11]<|.reg [qB 10 true] [1,3,6,7,8,9,10,11]) .skip)<|qs [zM 44 9,zM 45 11,qD 46 7 44 45,qA 47 0 46,qF 48 1 47,zM 49 1,qb 50 .neq 48 49] [1,3,6,7,8,9,10,11,50]<|qc 50 (.reg [zM 51 7,zM 52 9,zM 53 11,qD 54 7 52 53,qT 55 7 54,zA 56 (.sZ 17 7 1 [.str [],.lit (.int .i64 0),.lit (.int .i64 0),.lit (.int .i64 0),.str [],.sl 1 [],.sl 5 []] [(0,.t 55)]),zA 57 (.append 18 7 104 (.t 51)<|.t 56),zM 7 57] [1,3,6,7,8,9,10,11]) .skip)<|.reg [zM 27 11,qk 28 .add 27 1,zM 11 28] [1,3,6,7,8,9,10,11])<|.seq (qs [zM 58 10,qO 59 58] [3,6,7,8,59]<|qc 59 (.reg [zM 60 7,qT 61 7 8,zA 62 (.sZ 19 7 1 [.str [],.lit (.int .i64 0),.lit (.int .i64 0),.lit (.int .i64 0),.str [],.sl 1 [],.sl 5 []] [(0,.t 61)]),zA 63 (.append 20 7 104 (.t 60)<|.t 62),zM 7 63] [3,6,7]) .skip)<|qr [zM 64 7,qA 65 1 3,qF 66 1 65,qk 67 .add 66 1,zA 68 (.build [.lF 7,oJ 0] [(0,1,.t 64),(1,1,.t 67)]),qS 2 6 68] [6]
theorem K.lW : jl pZ 115 3 0 C.lW [.cell 6 true 2]=true:=by kernel_rfl
def C.iO : bU:=qs [qB 2 false] [0]<|.seq (qs [qI 3 0] [0,3]<|.block 0<|.loop<|.seq (qs [zM 4 3,zM 5 0,ql 6 5,qb 7 .lss 4 6] [0,3,7]<|qc 7 .skip<|.exit 0)<|.seq (.block 1<|qs [zM 10 0,zM 11 3,zA 12 (.idxs (.t 10)<|.t 11),zA 13 (.MZ .i64<|.t 12),⟨none,some 14,.call 77 [.t 13,kI 97,kI 122]⟩,qO 15 14,zM 16 15,qm 16 true 17 0,qm 16 true 18 3,zG 16 true 19 (.idxs (.t 17)<|.t 18),zG 16 true 20 (.MZ .i64<|.t 19),⟨(some (16,true)),some 21,.call 77 [.t 20,kI 48,kI 57]⟩,zG 16 true 22 (.not<|.t 21),qP 23 16 22] [0,3,23]<|qc 23 (qr [qB 2 false] [2]) .skip)<|.reg [zM 8 3,qk 9 .add 8 1,zM 3 9] [0,3])<|qr [zM 24 0,ql 25 24,⟨none,some 26,.call 77 [.t 25,kI 1,kI 8]⟩,zM 2 26] [2]
theorem K.iO : jl pZ 75 1 0 C.iO [.tmp 2]=true:=by kernel_rfl
def C.dF : bU:=qs [qX 1 10 0,qB 2 false] [1]<|.seq (qs [qI 3 0] [1,3]<|.block 0<|.loop<|.seq (qs [zM 5 3,qA 6 0 1,qF 7 1 6,qL 8 7,qb 9 .lss 5 8] [1,3,9]<|qc 9 .skip<|.exit 0)<|.seq (.block 1<|qs [qA 12 0 1,qF 13 1 12,zM 14 3,qD 15 7 13 14,qT 16 7 15,zA 4 (.alloc 11 [.c (.str []),oJ 0,oJ 0,oJ 0,.c (.str []),.lF 1,.lF 5]),qS 7 4 16] [1,3,4]<|.seq (.sH [(qA 17 0 4,[]),(qF 18 1 17,[0]),(q1 19 75 18,[0,1]),(qO 20 19,[0,1,2]),(zM 21 20,rr4),(zG 21 false 22 (.mW 2<|.t 4),rr5),(zG 21 false 23 (.load true 5<|.t 22),rr6),(⟨(some (21,false)),some 24,.call 76 [.t 23]⟩,rr7),(zG 21 false 25 (.not<|.t 24),rr8),(qQ 26 21 25,rr9),(zM 27 26,afE),(zG 27 false 28 (.mW 1<|.t 4),ahj),(zG 27 false 29 (.load false 1<|.t 28),ajd),(zG 27 false 30 (.mW 1<|.t 1),ahj),(zG 27 false 31 (.load false 1<|.t 30),[0,1,2,3,4,5,6,7,8,9,10,13]),(⟨(some (27,false)),some 32,.call 77 [.t 29,kI 1,.t 31]⟩,ap7),(zG 27 false 33 (.not<|.t 32),aqz),(qQ 34 27 33,ap8),(zM 35 34,aoI),(qm 35 false 36 3,anE),(zG 35 false 37 (.bin .gtr (.t 36)<|kI 0),anF),(qm 35 false 38 37,ap9),(zG 38 true 39 (.mW 0<|.t 4),anj),(zG 38 true 40 (.load false 1<|.t 39),aqa),(zG 38 true 41 (.mW 0<|.t 1),anj),(zG 38 true 42 (.load false 1<|.t 41),[0,1,2,3,4,5,6,7,8,9,10,11,12,13,14,15,16,17,18,19,20,21,24]),(qm 38 true 43 3,anj),(zG 38 true 44 (.bin .sub (.t 43)<|kI 1),[0,1,2,3,4,5,6,7,8,9,10,11,12,13,14,15,16,17,18,19,20,21,26]),(zG 38 true 45 (.zD 7 (.t 42)<|.t 44),[0,1,2,3,4,5,6,7,8,9,10,11,12,13,14,15,16,17,18,19,20,21,24,25,26,27]),(zG 38 true 46 (.mW 0<|.t 45),[0,1,2,3,4,5,6,7,8,9,10,11,12,13,14,15,16,17,18,19,20,21,24,25,26,27,28]),(zG 38 true 47 (.load false 1<|.t 46),[0,1,2,3,4,5,6,7,8,9,10,11,12,13,14,15,16,17,18,19,20,21,24,25,26,27,28,29]),(zG 38 true 48 (.bin .leq (.t 40)<|.t 47),aqA),(zG 35 false 49 (.pick (.t 38) (.t 48)<|kB false),aqB),(qQ 50 35 49,aqC)] [1,3,50])<|qc 50 (qr [qB 2 false] [2]) .skip)<|.reg [zM 10 3,qk 11 .add 10 1,zM 3 11] [1,3])<|qr [qA 51 0 1,qF 52 1 51,qL 53 52,qk 54 .leq 53 10,zM 55 54,zG 55 true 56 (.mW 1<|.t 1),zG 55 true 57 (.load false 1<|.t 56),⟨(some (55,true)),some 58,.call 77 [.t 57,kI 0,kI 999]⟩,qP 59 55 58,zM 2 59] [2]
theorem K.dF : jl pZ 35 1 0 C.dF [.tmp 2]=true:=by kernel_rfl
def C.lT : bU:=qs [qX 3 10 0,qX 5 11 2,zA 6 (.alloc 12 [.lF 7,oJ 0]),zA 7 (.alloc 13 [oJ 0,.c (.str []),oJ 0,oJ 0,oJ 0,.c (.str []),.lF 1,.lF 5])] [1,3,5,6,7]<|qs [qI 8 200] [1,3,5,6,7,8]<|.cut (qs [qT 10 2 3,zM 11 1,q2 12 80 10 11,qk 13 .lss 12 0] [1,3,5,6,7,8,13]<|qc 13 (.reg [qI 8 201] [1,3,5,6,7,8]) .skip)<|qs [qT 14 2 3,zM 15 1,qT 16 5 5,q3 17 115 14 15 16,zA 9 (.alloc 14 [.lF 7,oJ 0]),qS 2 9 17] [1,3,6,7,8,9]<|.seq (qs [qT 18 2 9,q1 19 35 18,qO 20 19] [1,3,6,7,8,9,20]<|qc 20 (qr [qT 21 2 3,q1 22 62 21,⟨none,some 23,.call 37 [kI 422]⟩,qS 2 6 22,qS 8 7 23] [6,7]) .skip)<|.seq (.sH [(qT 24 2 9,[]),(zM 25 8,[]),(qT 26 2 9,[]),(zM 27 1,[]),(q2 28 82 26 27,[2,3]),(qA 29 1 9,[]),(qF 30 1 29,[5]),(zA 31 (.build [oJ 0,.c (.str []),oJ 0,oJ 0,oJ 0,.c (.str []),.lF 1,.lF 5] [(0,1,.t 25),(1,1,.t 28),(2,1,.t 30)]),[1,2,3,4,5,6]),(qS 2 6 24,[0,2,3,4]),(qS 8 7 31,rr9)] [6,7]) .ret
theorem K.lT : jl pZ 84 3 0 C.lT [.cell 6 true 2,.cell 7 true 8]=true:=by kernel_rfl
def C.ja : bU:=qs [qX 2 10 0,qX 3 11 1,zA 4 (.alloc 12 [.lF 7,oJ 0]),zA 5 (.alloc 13 [oJ 0,.c (.str []),oJ 0,oJ 0,oJ 0,.c (.str []),.lF 1,.lF 5])] [2,3,4,5]<|qs [qT 10 2 2,qA 11 1 3,qF 12 1 11,q2 13 80 10 12,zM 6 13] [2,3,4,5,6]<|.seq (qs [zM 14 6,qk 15 .lss 14 0,zM 16 15,zG 16 true 17 (.mW 0<|.t 3),zG 16 true 18 (.load false 1<|.t 17),zG 16 true 19 (.bin .neq (.t 18)<|kI 2),qP 20 16 19] [2,3,4,5,6,20]<|qc 20 (qr [qT 21 2 2,q1 22 62 21,⟨none,some 23,.call 37 [kI 404]⟩,qS 2 4 22,qS 8 5 23] [4,5]) .skip)<|.seq (.sH [(qA 24 2 3,[]),(qF 25 1 24,[0]),(qA 26 3 3,[]),(qF 27 1 26,[2]),(qT 28 2 2,[]),(qA 29 1 3,[]),(qF 30 1 29,[5]),(q2 31 82 28 30,[4,5,6]),(qA 32 0 3,[]),(qF 33 1 32,[8]),(qk 34 .eql 33 1,[8,9]),(⟨none,some 35,.call 81 [.t 25,.t 27,.t 31,.t 34]⟩,ahj),(zM 7 35,ajd)] [2,3,4,5,6,7])<|.seq (qs [zM 36 7,qk 37 .neq 36 200] [2,3,4,5,6,7,37]<|qc 37 (qr [qT 38 2 2,q1 39 62 38,zM 40 7,q1 41 37 40,qS 2 4 39,qS 8 5 41] [4,5]) .skip)<|.seq (qs [qA 42 0 3,qF 43 1 42] [2,3,4,5,6,7,43]<|.block 0<|qs [qk 45 .eql 43 1,zM 44 45] [2,3,4,5,6,7,43,44]<|qc 44 (.seq (.sH [(qT 46 2 2,[]),(q1 47 62 46,[0]),(zM 48 7,[]),(qT 49 2 2,[]),(qA 50 1 3,[]),(qF 51 1 50,[4]),(q2 52 82 49 51,[0,1,3,4,5]),(qA 53 0 2,[]),(qF 54 1 53,[7]),(zM 55 6,[]),(qD 56 7 54 55,[7,8,9]),(qA 57 1 56,[7,8,9,10]),(qF 58 1 57,[7,8,9,10,11]),(qA 59 0 2,[]),(qF 60 1 59,[13]),(zM 61 6,[]),(qD 62 7 60 61,[13,14,15]),(qA 63 2 62,[13,14,15,16]),(qT 64 5 63,[13,14,15,16,17]),(q1 65 83 64,[0,1,3,4,5,6,13,14,15,16,17,18]),(zA 66 (.build [oJ 0,.c (.str []),oJ 0,oJ 0,oJ 0,.c (.str []),.lF 1,.lF 5] [(0,1,.t 48),(1,1,.t 52),(2,1,.t 58),(3,5,.t 65)]),anF),(qS 2 4 47,[0,1,3,4,5,6,13,14,15,16,17,18,19]),(qS 8 5 66,anj)] [4,5]) .ret)<|qs [qk 68 .eql 43 2,zM 67 68] [2,3,4,5,6,7,43,67]<|qc 67 (qr [qT 69 2 2,qA 70 1 3,qF 71 1 70,qA 72 4 3,qT 73 5 72,q3 74 84 69 71 73,qE 75 74 0,qE 76 74 1,qS 2 4 75,qS 8 5 76] [4,5])<|qs [qk 78 .eql 43 3,zM 77 78] [2,3,4,5,6,7,77]<|qc 77 (.seq (qs [qA 79 1 2,qF 80 1 79,qk 81 .eql 80 999] [2,3,4,5,7,81]<|qc 81 (qr [qT 82 2 2,q1 83 62 82,⟨none,some 84,.call 37 [kI 422]⟩,qS 2 4 83,qS 8 5 84] [4,5]) .skip)<|.seq (.sH [(qT 85 2 2,[]),(qA 86 1 3,[]),(qF 87 1 86,[1]),(q2 88 85 85 87,[0,1,2]),(zM 89 7,[]),(qA 90 1 2,[]),(qF 91 1 90,[5]),(qk 92 .add 91 1,[5,6]),(zA 93 (.build [oJ 0,.c (.str []),oJ 0,oJ 0,oJ 0,.c (.str []),.lF 1,.lF 5] [(0,1,.t 89),(2,1,.t 92)]),[4,5,6,7]),(qS 2 4 88,rr4),(qS 8 5 93,afE)] [4,5]) .ret) .skip)<|.seq (.sH [(qA 95 0 2,[]),(qF 96 1 95,[0]),(zM 97 6,[]),(qD 98 7 96 97,[0,1,2]),(qA 99 2 98,rr4),(qT 100 5 99,rr5),(qA 101 9 3,[]),(qF 102 1 101,[6]),(q2 103 86 100 102,rr8),(zM 94 103,rr9),(qE 104 94 0,afE),(qE 105 94 1,afE),(qZ 8 14,[]),(qS 5 8 104,[0,1,2,3,4,5,6,7,8,9,10,12]),(zM 9 105,akl)] [2,3,4,5,6,8,9])<|.cut (qs [qA 106 0 3,qF 107 1 106,qk 108 .eql 107 5] [2,3,4,5,6,8,9,108]<|qc 108 (.sH [(qA 110 0 2,[]),(qF 111 1 110,[0]),(zM 112 6,[]),(qD 113 7 111 112,[0,1,2]),(qA 114 2 113,rr4),(qT 115 5 114,rr5),(qA 116 4 3,[]),(qT 117 5 116,[6]),(q2 118 87 115 117,rr8),(zM 109 118,rr9),(qE 119 109 0,afE),(qE 120 109 1,afE),(qS 5 8 119,ahj),(zM 9 120,al8)] [2,3,4,5,8,9]) .skip)<|.seq (qs [zM 121 9,qO 122 121] [2,3,4,5,8,122]<|qc 122 (qr [qT 123 2 2,q1 124 62 123,⟨none,some 125,.call 37 [kI 422]⟩,qS 2 4 124,qS 8 5 125] [4,5]) .skip)<|qr [qT 126 2 2,qA 127 1 3,qF 128 1 127,qT 129 5 8,q3 130 84 126 128 129,qE 131 130 0,qE 132 130 1,qS 2 4 131,qS 8 5 132] [4,5]
theorem K.ja : jl pZ 38 2 0 C.ja [.cell 4 true 2,.cell 5 true 8]=true:=by kernel_rfl
def C.lu : bU:=qs [qB 2 false] [0]<|.seq (qs [qI 3 0] [0,3]<|.block 0<|.loop<|.seq (qs [zM 4 3,zM 5 0,ql 6 5,qb 7 .lss 4 6] [0,3,7]<|qc 7 .skip<|.exit 0)<|.seq (.block 1<|qs [zM 10 0,zM 11 3,zA 12 (.idxs (.t 10)<|.t 11),zA 13 (.MZ .i64<|.t 12),⟨none,some 14,.call 77 [.t 13,kI 48,kI 57]⟩,qO 15 14,zM 16 15,qm 16 true 17 0,qm 16 true 18 3,zG 16 true 19 (.idxs (.t 17)<|.t 18),zG 16 true 20 (.MZ .i64<|.t 19),⟨(some (16,true)),some 21,.call 77 [.t 20,kI 97,kI 102]⟩,zG 16 true 22 (.not<|.t 21),qP 23 16 22] [0,3,23]<|qc 23 (qr [qB 2 false] [2]) .skip)<|.reg [zM 8 3,qk 9 .add 8 1,zM 3 9] [0,3])<|qr [zM 24 0,ql 25 24,qk 26 .eql 25 4,zM 2 26] [2]
theorem K.lu : jl pZ 109 1 0 C.lu [.tmp 2]=true:=by kernel_rfl
def C.jA : bU:=qs [qB 2 false] [0]<|.seq (qs [qI 3 0] [0,3]<|.block 0<|.loop<|.seq (qs [zM 4 3,zM 5 0,qL 6 5,qb 7 .lss 4 6] [0,3,7]<|qc 7 .skip<|.exit 0)<|.seq (.block 1<|qs [zM 10 0,zM 11 3,qD 12 1 10 11,qF 13 1 12,zA 14 (.bin .neq (.t 13)<|.k<|.c<|.str [42]),zM 15 14,qm 15 true 16 0,qm 15 true 17 3,zG 15 true 18 (.zD 1 (.t 16)<|.t 17),zG 15 true 19 (.load false 1<|.t 18),⟨(some (15,true)),some 20,.call 109 [.t 19]⟩,zG 15 true 21 (.not<|.t 20),qP 22 15 21] [0,3,22]<|qc 22 (qr [qB 2 false] [2]) .skip)<|.reg [zM 8 3,qk 9 .add 8 1,zM 3 9] [0,3])<|qr [zM 23 0,qL 24 23,qk 25 .leq 24 4,zM 2 25] [2]
theorem K.jA : jl pZ 78 1 0 C.jA [.tmp 2]=true:=by kernel_rfl
def C.jB : bU:=qs [qX 1 10 0,qB 2 false] [1]<|qr [qA 3 0 1,qF 4 1 3,⟨none,some 5,.call 77 [.t 4,kI 1,kI 5]⟩,zM 6 5,zG 6 true 7 (.mW 1<|.t 1),zG 6 true 8 (.load false 1<|.t 7),⟨(some (6,true)),some 9,.call 75 [.t 8]⟩,qP 10 6 9,zM 11 10,zG 11 true 12 (.mW 2<|.t 1),zG 11 true 13 (.load false 1<|.t 12),⟨(some (11,true)),some 14,.call 78 [.t 13]⟩,qP 15 11 14,zM 16 15,zG 16 true 17 (.mW 3<|.t 1),zG 16 true 18 (.load false 1<|.t 17),⟨(some (16,true)),some 19,.call 78 [.t 18]⟩,qP 20 16 19,zM 21 20,zG 21 true 22 (.mW 4<|.t 1),zG 21 true 23 (.load true 5<|.t 22),⟨(some (21,true)),some 24,.call 76 [.t 23]⟩,qP 25 21 24,zM 26 25,zG 26 true 27 (.mW 9<|.t 1),zG 26 true 28 (.load false 1<|.t 27),⟨(some (26,true)),some 29,.call 79 [.t 28]⟩,qP 30 26 29,zM 2 30] [2]
theorem K.jB : jl pZ 36 1 0 C.jB [.tmp 2]=true:=by kernel_rfl
def C.jY : bU:=qs [qX 2 10 0,qX 3 11 1,zA 4 (.alloc 12 [.lF 7,oJ 0]),zA 5 (.alloc 13 [oJ 0,.c (.str []),oJ 0,oJ 0,oJ 0,.c (.str []),.lF 1,.lF 5])] [2,3,4,5]<|.seq (qs [qT 6 2 2,q1 7 35 6,qO 8 7,zM 9 8,zG 9 false 10 (.load true 10<|.t 3),⟨(some (9,false)),some 11,.call 36 [.t 10]⟩,zG 9 false 12 (.not<|.t 11),qQ 13 9 12] [2,3,4,5,13]<|qc 13 (qr [zA 14 (.build [.lF 7,oJ 0] []),⟨none,some 15,.call 37 [kI 400]⟩,qS 2 4 14,qS 8 5 15] [4,5]) .skip)<|qr [qT 16 2 2,qT 17 10 3,q2 18 38 16 17,qE 19 18 0,qE 20 18 1,qS 2 4 19,qS 8 5 20] [4,5]
theorem K.jY : jl pZ 8 2 0 C.jY [.cell 4 true 2,.cell 5 true 8]=true:=by kernel_rfl
section
section
variable {P:Program} {K R:fH->Prop} {st:fH}
theorem akp {du:DU (QA K R)} : QK (QA K R) .normal st du=K st:=by unfold QK;rfl
theorem akq {du:DU (QA K R)} : QK (QA K R) .ret st du=R st:=by unfold QK;rfl
end
theorem Na {p:Prop}(x:p:=by
 repeat' (
  (try simp -dsimp only[egR,akp,akq,ny.pI,ny.f,ny.rd,D7,Aj,lvl,yH,reduceIte,Nat.reduceEqDiff,Nat.reduceAdd,Nat.reduceLeDiff,Nat.reduceBEq,reduceCtorEq,Int.reduceBNe,Int.reduceBEq,Int.reduceLT,Int.reduceLE,Int.reduceNeg,Nat.reduceLT,Ea,Int.reduceToNat,G5, *])
  repeat((with_reducible refine And.intro ?_ ?_);focus first|(show zO _ _ _ _=true;kernel_rfl)|(show yO _ _=true;kernel_rfl)|omega|assumption|(show _<=maxLen;decide))
  first
  |with_reducible refine ahG ?_
  |((with_reducible refine adK ?_);(have zd:=zc;(repeat(first|((first|refine ahF (λ_=>zd.1) rfl rfl ?_|refine ahH zd.1 rfl rfl ?_);clear zd)|with_reducible replace zd:=zd.2));(fail_if_success have zz:=zd)))
  |exact zf.f
  |((with_reducible refine aiy ?_);(exact Eo [] [] [] (by rfl) tRE tRE tRE)<;>fail)
  )):p:=x
end
theorem FZ.ins {P:Program}{f gr sz cb:Nat}{z:List Cell}(h0:sz≠0)(hK:MP P f 3 2 (C.ins sz cb gr z) [.tmp 6]=true){es:List (List Cell)}{v:List Cell}{c i:Nat}(hc:es.length<=c)(hi:i<=es.length)(hb:(es.length+1)*(cb+sz+1)<=2^46) :
 OA P f [.one (.sub 0 0 es.length (some c) sz),.one (.c (.lit (.int .i64 (i:Int)))),.one (.own 1 1 sz)] [.dat sz es,.dat sz [v]]
  (λr1 b1=>r1 = .one (.own 2 (es.length+1) sz)/\b1=[.dead,.dat sz [v],.dat sz (es.take i++v::es.drop i)]):=by
 have hb0:es.length+1<=(es.length+1)*(cb+sz+1):=Bq _ (by omega);have hw:af .i64 ((es.length:Int)+((1:Nat):Int))=((es.length+1:Nat):Int):=by rw[Hl]<;>omega
 have hw2:af .i64 ((i:Int)+((1:Nat):Int))=((i+1:Nat):Int):=by rw[Hl]<;>omega
 have hw3:af .i64 (((es.length+1:Nat):Int)-i)=((es.length+1-i:Nat):Int):=by rw[Hl]<;>omega
 refine WM hK (qw ?_);unfold C.ins;have h10:(((1:Nat):Int)==0)=false:=rfl;by_cases h1:i=es.length
 ·subst h1;have he:((es.length:Int)==(es.length:Int))=true:=by simp
  simp -dsimp only[egR,ny.pI,ny.f,ny.rd,D7,Aj,lvl,yH,reduceIte,Nat.reduceEqDiff,Nat.reduceAdd,Nat.reduceLeDiff,Nat.reduceBEq,reduceCtorEq,Int.reduceBNe,Int.reduceBEq,Int.reduceLT,Int.reduceLE,Int.reduceNeg,Nat.reduceLT,Ea,Int.reduceToNat,G5,AL,Om,Io,Iq,Ih,Ip,truncS,lg,tY,oh,sO,rD,bT,pz,iH,h10]
  repeat refine kZ (by first|(show zO _ _ _ _=true;kernel_rfl)|(show yO _ _=true;kernel_rfl)|omega|assumption) ?_
  have e:es++[v]++nX (es.length+1) es=es++v::nX es.length es:=by simp
  have e2:es++[v]=es++v::nX es.length es:=by simp
  by_cases hr:es.length+1<=c
  ·simp -dsimp only[egR,ny.pI,ny.f,ny.rd,D7,Aj,lvl,yH,reduceIte,Nat.reduceEqDiff,Nat.reduceAdd,Nat.reduceLeDiff,Nat.reduceBEq,reduceCtorEq,Int.reduceBNe,Int.reduceBEq,Int.reduceLT,Int.reduceLE,Int.reduceNeg,Nat.reduceLT,Ea,Int.reduceToNat,G5,AL,Om,Io,Iq,Ih,Ip,truncS,lg,tY,oh,sO,rD,bT,pz,iH,hr]
   repeat refine kZ (by first|(show zO _ _ _ _=true;kernel_rfl)|(show yO _ _=true;kernel_rfl)|omega|assumption) ?_
   rw[e];refine Ue [] [(0,0),(1,1),(2,0)] [] (by rfl) ?_ ?_ ?_<;>(simp -dsimp only[rwR,wkB,Nj,reduceIte,Nat.reduceEqDiff,reduceCtorEq,Nat.reduceAdd,Nat.reduceLeDiff]<;>first|(simp[aT];done)|((try simp only[wP,yD,uG,aZ,jH])<;>(repeat' apply kZ)<;>first|rfl|(simp;done)|(simp<;>omega;done)|(congr 1;exact(aT (by simp<;>omega)).symm)))
  ·simp -dsimp only[egR,ny.pI,ny.f,ny.rd,D7,Aj,lvl,yH,reduceIte,Nat.reduceEqDiff,Nat.reduceAdd,Nat.reduceLeDiff,Nat.reduceBEq,reduceCtorEq,Int.reduceBNe,Int.reduceBEq,Int.reduceLT,Int.reduceLE,Int.reduceNeg,Nat.reduceLT,Ea,Int.reduceToNat,G5,AL,Om,Io,Iq,Ih,Ip,truncS,lg,tY,oh,sO,rD,bT,pz,iH,hr]
   repeat refine kZ (by first|(show zO _ _ _ _=true;kernel_rfl)|(show yO _ _=true;kernel_rfl)|omega|assumption) ?_
   rw[e2];refine Ue [] [(0,0),(1,1),(2,10)] [] (by rfl) ?_ ?_ ?_<;>(simp -dsimp only[rwR,wkB,Nj,reduceIte,Nat.reduceEqDiff,reduceCtorEq,Nat.reduceAdd,Nat.reduceLeDiff]<;>first|(simp[aT];done)|((try simp only[wP,yD,uG,aZ,jH])<;>(repeat' apply kZ)<;>first|rfl|(simp;done)|(simp<;>omega;done)|(congr 1;exact(aT (by simp<;>omega)).symm)))
 ·have he:((i:Int)==(es.length:Int))=false:=by simp;omega
  simp -dsimp only[egR,ny.pI,ny.f,ny.rd,D7,Aj,lvl,yH,reduceIte,Nat.reduceEqDiff,Nat.reduceAdd,Nat.reduceLeDiff,Nat.reduceBEq,reduceCtorEq,Int.reduceBNe,Int.reduceBEq,Int.reduceLT,Int.reduceLE,Int.reduceNeg,Nat.reduceLT,Ea,Int.reduceToNat,G5,AL,Om,Io,Iq,Ih,Ip,truncS,lg,tY,oh,sO,rD,bT,pz,iH,h10]
  repeat refine kZ (by first|(show zO _ _ _ _=true;kernel_rfl)|(show yO _ _=true;kernel_rfl)|omega|assumption) ?_
  simp -dsimp only[egR,ny.pI,ny.f,ny.rd,D7,Aj,lvl,yH,reduceIte,Nat.reduceEqDiff,Nat.reduceAdd,Nat.reduceLeDiff,Nat.reduceBEq,reduceCtorEq,Int.reduceBNe,Int.reduceBEq,Int.reduceLT,Int.reduceLE,Int.reduceNeg,Nat.reduceLT,Ea,Int.reduceToNat,G5,AL,Om,Io,Iq,Ih,Ip,truncS,lg,tY,oh,sO,rD,bT,pz,iH,he];by_cases hr:es.length+1<=c
  ·have hd:decide ((c:Int)<((es.length+1:Nat):Int))=false:=(by simp;omega);simp -dsimp only[egR,ny.pI,ny.f,ny.rd,D7,Aj,lvl,yH,reduceIte,Nat.reduceEqDiff,Nat.reduceAdd,Nat.reduceLeDiff,Nat.reduceBEq,reduceCtorEq,Int.reduceBNe,Int.reduceBEq,Int.reduceLT,Int.reduceLE,Int.reduceNeg,Nat.reduceLT,Ea,Int.reduceToNat,G5,AL,Om,Io,Iq,Ih,Ip,truncS,lg,tY,oh,sO,rD,bT,pz,iH,hw,hd]
   repeat refine kZ (by first|(show zO _ _ _ _=true;kernel_rfl)|(show yO _ _=true;kernel_rfl)|omega|assumption) ?_
   simp -dsimp only[egR,ny.pI,ny.f,ny.rd,D7,Aj,lvl,yH,reduceIte,Nat.reduceEqDiff,Nat.reduceAdd,Nat.reduceLeDiff,Nat.reduceBEq,reduceCtorEq,Int.reduceBNe,Int.reduceBEq,Int.reduceLT,Int.reduceLE,Int.reduceNeg,Nat.reduceLT,Ea,Int.reduceToNat,G5,AL,Om,Io,Iq,Ih,Ip,truncS,lg,tY,oh,sO,rD,bT,pz,iH,hw2]
   repeat refine kZ (by first|(show zO _ _ _ _=true;kernel_rfl)|(show yO _ _=true;kernel_rfl)|omega|assumption) ?_
   refine kZ (by simp[h0];omega) ?_;have e:=apO es v i (by omega);simp only[splice]at e;rw[e];refine Ue [] [(0,0),(1,1),(2,0)] [] (by rfl) ?_ ?_ ?_<;>(simp -dsimp only[rwR,wkB,Nj,reduceIte,Nat.reduceEqDiff,reduceCtorEq,Nat.reduceAdd,Nat.reduceLeDiff]<;>first|(simp[aT];done)|((try simp only[wP,yD,uG,aZ,jH])<;>(repeat' apply kZ)<;>first|rfl|(simp;done)|(simp<;>omega;done)|(congr 1;exact(aT (by simp<;>omega)).symm)))
  ·have hd:decide ((c:Int)<((es.length+1:Nat):Int))=true:=(by simp;omega);have hx:c<i+(es.length+1-i):=(by omega);have e0:i+(es.length+1-i)=es.length+1:=(by omega);have hb2:(i+(es.length+1-i))*(cb+sz+1)<=2^46:=(by rw[e0];exact hb);simp -dsimp only[egR,ny.pI,ny.f,ny.rd,D7,Aj,lvl,yH,reduceIte,Nat.reduceEqDiff,Nat.reduceAdd,Nat.reduceLeDiff,Nat.reduceBEq,reduceCtorEq,Int.reduceBNe,Int.reduceBEq,Int.reduceLT,Int.reduceLE,Int.reduceNeg,Nat.reduceLT,Ea,Int.reduceToNat,G5,AL,Om,Io,Iq,Ih,Ip,truncS,lg,tY,oh,sO,rD,bT,pz,iH,hw,hd,hw2,hw3]
   repeat refine kZ (by first|(show zO _ _ _ _=true;kernel_rfl)|(show yO _ _=true;kernel_rfl)|omega|assumption) ?_
   refine kZ (by simp[h0];omega) ?_
   repeat refine kZ (by first|(show zO _ _ _ _=true;kernel_rfl)|(show yO _ _=true;kernel_rfl)|omega|assumption) ?_
   refine kZ ⟨by omega,by simp;omega⟩ ?_
   repeat refine kZ (by first|(show zO _ _ _ _=true;kernel_rfl)|(show yO _ _=true;kernel_rfl)|omega|assumption) ?_
   have e:=apP es v z i _ (by omega) rfl;simp only[splice]at e;have e0:i+(es.length+1-i)=es.length+1:=(by omega);rw[e,e0];refine Ue [] [(0,0),(1,1),(2,11)] [] (by rfl) ?_ ?_ ?_<;>(simp -dsimp only[rwR,wkB,Nj,reduceIte,Nat.reduceEqDiff,reduceCtorEq,Nat.reduceAdd,Nat.reduceLeDiff]<;>first|(simp[aT];done)|((try simp only[wP,yD,uG,aZ,jH])<;>(repeat' apply kZ)<;>first|rfl|(simp;done)|(simp<;>omega;done)|(congr 1;exact(aT (by simp<;>omega)).symm)))
theorem FZ.del {P:Program}{f sz cb:Nat}{z:List Cell}(h0:sz≠0)(hK:MP P f 3 1 (C.del sz cb z) [.tmp 6]=true){es:List (List Cell)}{c i j:Nat}(hc:es.length<=c)(hi:i<j)(hj:j<=es.length)(hb:es.length*(cb+sz+1)<=2^46) :
 OA P f [.one (.sub 0 0 es.length (some c) sz),.one (.c (.lit (.int .i64 (i:Int)))),.one (.c (.lit (.int .i64 (j:Int))))] [.dat sz es]
  (λr1 b1=>r1 = .one (.sub 1 0 (i+(es.length-j)) (some c) sz)/\b1=[.dead,.dat sz (es.take i++es.drop j)]):=by
 have hb0:es.length<=es.length*(cb+sz+1):=Bq _ (by omega);refine WM hK (qw ?_);unfold C.del;have he:((i:Int)==(j:Int))=false:=by simp;omega
 have ht:yg (es.length-j) (nX j es)=nX j es:=aT (by simp);have hr:i+(es.length-j)<=c:=by omega
 simp -dsimp only[egR,ny.pI,ny.f,ny.rd,D7,Aj,lvl,yH,reduceIte,Nat.reduceEqDiff,Nat.reduceAdd,Nat.reduceLeDiff,Nat.reduceBEq,reduceCtorEq,Int.reduceBNe,Int.reduceBEq,Int.reduceLT,Int.reduceLE,Int.reduceNeg,Nat.reduceLT,Ea,Int.reduceToNat,G5,AL,Om,Io,Iq,Ih,Ip,truncS,lg,tY,oh,sO,rD,bT,pz,iH,he]
 repeat refine kZ (by first|(show zO _ _ _ _=true;kernel_rfl)|(show yO _ _=true;kernel_rfl)|omega|assumption) ?_
 simp -dsimp only[egR,ny.pI,ny.f,ny.rd,D7,Aj,lvl,yH,reduceIte,Nat.reduceEqDiff,Nat.reduceAdd,Nat.reduceLeDiff,Nat.reduceBEq,reduceCtorEq,Int.reduceBNe,Int.reduceBEq,Int.reduceLT,Int.reduceLE,Int.reduceNeg,Nat.reduceLT,Ea,Int.reduceToNat,G5,AL,Om,Io,Iq,Ih,Ip,truncS,lg,tY,oh,sO,rD,bT,pz,iH,ht,mG,hr]
 repeat refine kZ (by first|(show zO _ _ _ _=true;kernel_rfl)|(show yO _ _=true;kernel_rfl)|omega|assumption) ?_
 refine kZ (by simp[h0];omega) ?_;have e4:(yg i es).length=i:=by simp;omega
 have e:yg (i+(es.length-j)) (yg i es++nX j es++nX (i+(es.length-j)) es)=yg i es++nX j es:=by
  have e5:(yg i es++nX j es).length=i+(es.length-j):=by rw[List.length_append,e4,mG]
  rw[List.take_append_of_le_length (by omega),aT (by omega)]
 rw[e,List.append_assoc];generalize bC (es.length-(i+(es.length-j))) z++nX (i+(es.length-j)+(es.length-(i+(es.length-j)))) (yg i es++nX j es++nX (i+(es.length-j)) es)=T;generalize yg i es++nX j es=A;refine Ue [] [(0,0),(1,0)] [] (by rfl) ?_ ?_ ?_<;>(simp -dsimp only[rwR,wkB,Nj,reduceIte,Nat.reduceEqDiff,reduceCtorEq,Nat.reduceAdd,Nat.reduceLeDiff]<;>first|(simp[aT];done)|((try simp only[wP,yD,uG,aZ,jH])<;>(repeat' apply kZ)<;>first|rfl|(simp;done)|(simp<;>omega;done)|(congr 1;exact(aT (by simp<;>omega)).symm)))
theorem FG.ins {α:Type}(enc:α->List Cell){P:Program}{f gr sz cb:Nat}{z:List Cell}(h0:sz≠0)(hK:MP P f 3 2 (C.ins sz cb gr z) [.tmp 6]=true){s v r:List α}{i:Int}
 (h:chk (0<=i/\i<=(s.length:Int)/\v.length=1/\(s.length+1)*(cb+sz+1)<=2^46) (some (s.take i.toNat++v++s.drop i.toNat))=some r) (hk:aiv P f sz=true:=by kernel_rfl) :
 oV P f [.one (.own 0 s.length sz),.one (.c (.lit (.int .i64 i))),.one (.own 1 v.length sz)] [.dat sz (List.map enc s),.dat sz (List.map enc v)]
  (λr1 b1=>r1 = .one (.own 2 r.length sz)/\b1=[.dead,.dat sz (List.map enc v),.dat sz (List.map enc r)]):=by
 obtain⟨⟨q1,q2,q3,q4⟩,h⟩:=Eg.1 h;cases h;obtain⟨x,rfl⟩:=List.length_eq_one_iff.1 q3;obtain⟨k,rfl⟩:∃k:Nat,i=k:=⟨i.toNat,by omega⟩;have hf:=ali hk (es:=List.map enc s) (v:=enc x) (i:=k) (by rw[List.length_map];omega) (λls lv c hl hc=>by rw[List.length_map]at hl hc;have:=FZ.ins h0 hK (es:=lits ls) (v:=lv.map .lit) (c:=c) (i:=k) (by rw[En];omega) (by rw[En];omega) (by rw[En,hl];exact q4);rw[En]at this;simpa[lits]using this)
 have e1:(List.take k s++[x]++List.drop k s).length=s.length+1:=by simp;omega
 rw[Int.toNat_natCast,e1];simpa using hf
theorem FG.del {α:Type}(enc:α->List Cell){P:Program}{f sz cb:Nat}{z:List Cell}(h0:sz≠0)(hK:MP P f 3 1 (C.del sz cb z) [.tmp 6]=true){s r:List α}{i j:Int}
 (h:chk (0<=i/\i<j/\j<=(s.length:Int)/\s.length*(cb+sz+1)<=2^46) (some (s.take i.toNat++s.drop j.toNat))=some r) (hk:ahR P f sz=true:=by kernel_rfl) :
 oV P f [.one (.own 0 s.length sz),.one (.c (.lit (.int .i64 i))),.one (.c (.lit (.int .i64 j)))] [.dat sz (List.map enc s)]
  (λr1 b1=>r1 = .one (.own 1 r.length sz)/\b1=[.dead,.dat sz (List.map enc r)]):=by
 obtain⟨⟨q1,q2,q3,q4⟩,h⟩:=Eg.1 h;cases h;obtain⟨k,rfl⟩:∃k:Nat,i=k:=⟨i.toNat,by omega⟩;obtain⟨l,rfl⟩:∃l:Nat,j=l:=⟨j.toNat,by omega⟩;have hf:=alh hk (es:=List.map enc s) (i:=k) (j:=l) (by omega) (by rw[List.length_map];omega) (λls c hl hc=>by rw[List.length_map]at hl hc;have:=FZ.del h0 hK (es:=lits ls) (c:=c) (i:=k) (j:=l) (by rw[En];omega) (by omega) (by rw[En];omega) (by rw[En,hl];exact q4);rw[En]at this;simpa[lits]using this)
 have e1:(List.take k s++List.drop l s).length=k+(s.length-l):=by simp;omega
 rw[Int.toNat_natCast,Int.toNat_natCast,e1];simpa using hf
section
def Ev {α:Type}(g:Nat->Option α)(r:α):Prop:=∃N,∀n,N<=n->g n=some r
section
variable {α β:Type} {g g':Nat->Option α} {r s:α}
theorem akk (r:α):Ev (λ_=>some r) r:=⟨0,λ_ _=>rfl⟩
theorem ake (h:s=r):Ev (λ_=>some s) r:=by subst h;exact akk _
theorem ais (h:Ev (λn=>g (n+1)) r):Ev g r:=by obtain⟨N,h⟩:=h;refine⟨N+1,λn hn=>?_⟩;obtain⟨m,rfl⟩:∃m,n=m+1:=⟨n-1,by omega⟩;exact h m (by omega)
theorem af5 {h:Nat->Option β}{k:Nat->β->Option α}{a:β}(h1:Ev h a)(h2:Ev (λn=>k n a) r):Ev (λn=>Option.bind (h n) (k n)) r:=by obtain⟨N,h1⟩:=h1;obtain⟨M,h2⟩:=h2;refine⟨max N M,λn hn=>?_⟩;show Option.bind (h n) (k n)=some r;rw[h1 n (by omega)];exact h2 n (by omega)
theorem ant {p:Prop}[Decidable p](hp:p)(h:Ev g r):Ev (λn=>Ab.chk p (g n)) r:=by obtain⟨N,h⟩:=h;exact⟨N,λn hn=>by show Ab.chk p (g n)=some r;rw[Ab.chk,ahl hp];exact h n hn⟩
theorem alZ {c:Bool}(hc:c=true)(h:Ev g r):Ev (λn=>cond c (g n) (g' n)) r:=by subst hc;exact h
theorem alW {c:Bool}(hc:c=false)(h:Ev g' r):Ev (λn=>cond c (g n) (g' n)) r:=by subst hc;exact h
theorem alI {p:Prop}[Decidable p](h:Ev g r)(hp:p:=by omega):Ev (λn=>Ab.chk p (g n)) r:=ant hp h
theorem ani {p:Prop}[Decidable p](h:Ev g r)(hp:p:=by omega):Ev (λn=>cond (decide p) (g n) (g' n)) r:=alZ (al6 hp) h
theorem anm {p:Prop}[Decidable p](h:Ev g' r)(hp:¬p:=by omega):Ev (λn=>cond (decide p) (g n) (g' n)) r:=alW (aki hp) h
theorem alH {c:Bool}(h:c=true->Ev g r)(h':c=false->Ev g' r):Ev (λn=>cond c (g n) (g' n)) r:=by
 cases c
 ·exact h' rfl
 ·exact h rfl
theorem Ev.eq (h:Ev g r)(e:r=s):Ev g s:=e▸h
theorem Ev.val (h:Ev g r):∃n,g n=some r:=⟨h.choose,h.choose_spec _ (Nat.le_refl _)⟩
end
theorem wrapN {x:Int}{m:Nat}(h:x=(m:Int))(h1:m<9223372036854775808):af .i64 x=(m:Int):=by rw[Hl (by omega) (by omega),h]
theorem dS {i:Nat}(h1:i+1<9223372036854775808):af .i64 ((i:Int)+1)=((i+1:Nat):Int):=wrapN (by omega) h1
theorem wrS (i:Nat)(h1:i+1<9223372036854775808:=by omega):IntKind.wrap .i64 ((i:Int)+1)=((i+1:Nat):Int):=dS h1
theorem gJ {α:Type}{l:List α}{i:Nat}(d:α)(h:i<l.length):l.getD i d=l[i]:=by simp[List.getD,h]
theorem dW {α:Type}{l:List α}{i:Nat}(d:α)(h:i<l.length):l.drop i=l.getD i d::l.drop (i+1):=by rw[gJ d h,List.drop_eq_getElem_cons h]
abbrev bl (x y:List UInt8):Bool:=iw x y
theorem ac0 (x:List UInt8):bl x []=false:=by cases x<;>rfl
theorem Vp (a b:UInt8)(x y:List UInt8):bl (a::x) (b::y)=(decide (a<b)||(a==b&&bl x y)):=rfl
theorem P8 : ∀x:List UInt8,bl x x=false
 |[]=>rfl
 |a::x=>by rw[Vp,P8 x];simp
theorem Dt : ∀{x y z:List UInt8},bl x y=true->bl y z=true->bl x z=true
 |_,[],_,h,_=>by rw[ac0]at h;cases h
 |_,_::_,[],_,h=>by rw[ac0]at h;cases h
 |[],_::_,_::_,_,_=>rfl
 | a::x,b::y,c::z,h,k=>by
   rw[Vp]at *;simp only[Bool.or_eq_true,Bool.and_eq_true,ahm,akg]at *;rcases h with h|⟨rfl,h⟩<;>rcases k with k|⟨rfl,k⟩
   ·exact .inl (UInt8.lt_trans h k)
   ·exact .inl h
   ·exact .inl k
   ·exact .inr ⟨rfl,Dt h k⟩
theorem Nz : ∀{x y:List UInt8},bl x y=false->bl y x=false->x=y
 |[],[],_,_=>rfl
 |[],_::_,h,_=>by cases h
 |_::_,[],_,h=>by cases h
 | a::x,b::y,h,k=>by
   rw[Vp]at *;simp only[Bool.or_eq_false_iff,Bool.and_eq_false_iff,alR]at *;obtain⟨h1,h2⟩:=h;obtain⟨k1,k2⟩:=k;have e:a=b:=by apply zB.1;simp only[UInt8.lt_iff_toNat_lt]at h1 k1;omega
   subst e;simp only[beq_self_eq_true,Bool.true_eq_false,false_or]at h2 k2;rw[Nz h2 k2]
theorem QH {x y:List UInt8}(h:bl x y=true):bl y x=false:=by
 cases k:bl y x with
 |false=>rfl
 |true=>have:=Dt h k;rw[P8]at this;cases this
theorem JH {x y:List UInt8}(h:bl x y=true):x≠y:=by intro e;subst e;rw[P8]at h;cases h
theorem ams : ∀(x y:List UInt8),jO x y=if bl x y then -1 else if x=y then 0 else 1
 |[],[]=>rfl
 |[],_::_=>rfl
 |_::_,[]=>by simp[jO,ac0]
 | a::x,b::y=>by
   rw[jO,Vp];by_cases h:a<b
   ·simp[h]
   ·by_cases k:b<a
    ·have:a≠b:=λe=>(by subst e;exact h k);simp[h,k,this]
    ·have e:a=b:=by
      apply zB.1;simp only[UInt8.lt_iff_toNat_lt]at h k;omega
     subst e;rw[ahk h,ahk h,ams x y];simp
theorem Yv {x y:List UInt8} : jO x y=0<->x=y:=by
 rw[ams];by_cases h:bl x y=true
 ·simp only[h,amB];exact⟨λe=>by omega,λe=>al7 e (JH h)⟩
 ·simp only[h];by_cases e:x=y<;>simp[e]
end
end Go.Ab
