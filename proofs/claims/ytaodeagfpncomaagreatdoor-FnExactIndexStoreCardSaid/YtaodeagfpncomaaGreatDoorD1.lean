/- What the functions of the program compute (part 1). No conditions. -/
import Derived.Test.YtaodeagfpncomaaGreatDoorY3
set_option linter.unusedVariables false
set_option linter.unusedSimpArgs false
set_option maxRecDepth 100000
set_option maxHeartbeats 4000000
set_option linter.defProp false
open Bool renaming false_or->EC,and_eq_true->af,true_and->dA,or_eq_true->eX,and_eq_false_iff->mM,and_false->pY,and_true->qH,eq_iff_iff->rG,or_true->tZ,true_or->uf,false_and->yD
open Go.DataW renaming trod->jf
open Go.IntKind renaming wrap->ah,bits->iP,signed->nV
open Go.Lib renaming compareBytes->lV,pow10Tab->o6,itoa->qo
open Go.Op renaming bytesLess->gu
open Int renaming toNat_natCast->ax,fdiv->sK,tdiv->xk,tmod->zy
open List renaming all_eq_true->aB,mem_map->aG,mem_cons_self->aJ,getElem?_map->aP,drop_of_length_le->aV,map->aW,getElem?_append_left->aX,getD_eq_getElem?_getD->aY,getElem?_eq_getElem->ai,mem_cons->au,getElem?_eq_some_iff->ay,replicate->bG,mem_cons_of_mem->bU,getElem?_append_right->bZ,map_cons->bf,getD->bu,getElem_mem->dB,eq_nil_of_length_eq_zero->dL,getElem?_cons_zero->fC,not_mem_nil->fF,take_of_length_le->fH,getElem?_cons_succ->gB,mem_flatMap->gX,drop_zero->iL,all_cons->iy,foldl_cons->jL,length_map->jM,length_cons->jU,take_succ_eq_append_getElem->ja,pairwise_cons->kC,length_append->kZ,range->lG,getD_cons_succ->lW,append_nil->mJ,take_succ_cons->nH,length_set->nM,append_assoc->nX,filterMap_cons->o7,length_filterMap_le->pR,sum_cons->qK,filterMap_nil->sG,range'->su,find?_cons->uN,range'_succ->xN
open Nat renaming le_refl->aA,le_trans->dh,strongRecOn->iQ,zero_le->kU,add_assoc->lH,add_sub_cancel->sH
open Option renaming map_eq_some_iff->aU,bind->lJ
open Option.some renaming injEq->aI
open UInt8 renaming ofNat->jv
namespace Go.Ab
open Go
structure aN where
 fZ:Int
 xu:Int
 nJ:jE
 dQ:List jE
 bQ:List aN
 deriving Inhabited
mutual
def aN.cells : aN->List Cell
 |aN.mk x0 x1 x2 x3 x4=>[.lit (.int .i64 x0),.lit (.int .i64 x1),.str x2,.sl 1 (aW cS x3),.sl 5 (aN.CG x4)]
def aN.CG : List aN->List (List Cell)
 |[]=>[]
 |x::r=>x.cells::aN.CG r
end
theorem aN.Oa (ks:List aN):aN.CG ks=aW aN.cells ks:=by
 induction ks with
 |nil=>rfl
 |cons x r ih=>simp[aN.CG,ih]
theorem aN.iO (n:aN):n.cells=[.lit (.int .i64 n.fZ),.lit (.int .i64 n.xu),.str n.nJ,.sl 1 (aW cS n.dQ),.sl 5 (aW aN.cells n.bQ)]:=by cases n;rw[aN.cells,aN.Oa]
structure bI where
 uC:aN
 lg:jE
 deriving Inhabited
def bI.cells (n:bI):List Cell:=[.lit (.int .i64 n.uC.fZ),.lit (.int .i64 n.uC.xu),.str n.uC.nJ,.sl 1 (aW cS n.uC.dQ),.sl 5 (aW aN.cells n.uC.bQ),.str n.lg]
theorem bI.iO (n:bI):n.cells=[.lit (.int .i64 n.uC.fZ),.lit (.int .i64 n.uC.xu),.str n.uC.nJ,.sl 1 (aW cS n.uC.dQ),.sl 5 (aW aN.cells n.uC.bQ),.str n.lg]:=rfl
structure jc where
 lg:jE
 nZ:Int
 qy:aN
 deriving Inhabited
def jc.cells (n:jc):List Cell:=[.str n.lg,.lit (.int .i64 n.nZ),.lit (.int .i64 n.qy.fZ),.lit (.int .i64 n.qy.xu),.str n.qy.nJ,.sl 1 (aW cS n.qy.dQ),.sl 5 (aW aN.cells n.qy.bQ)]
theorem jc.iO (n:jc):n.cells=[.str n.lg,.lit (.int .i64 n.nZ),.lit (.int .i64 n.qy.fZ),.lit (.int .i64 n.qy.xu),.str n.qy.nJ,.sl 1 (aW cS n.qy.dQ),.sl 5 (aW aN.cells n.qy.bQ)]:=rfl
structure gQ where
 dG:List jc
 pW:Int
 deriving Inhabited
def gQ.cells (n:gQ):List Cell:=[.sl 7 (aW jc.cells n.dG),.lit (.int .i64 n.pW)]
theorem gQ.iO (n:gQ):n.cells=[.sl 7 (aW jc.cells n.dG),.lit (.int .i64 n.pW)]:=rfl
theorem bI.Fb {l:List bI}{i j:Nat}{x0 x1 x2 x3 x4 x5:Cell} : List.drop 6 (((aW bI.cells l).set i [x0,x1,x2,x3,x4,x5]).getD j [])=[]:=Go.Ab.Fb bI.cells 6 (λt=>by simp[bI.iO]) kY
def G.cmp_isNaN_int (f:Nat)(oN:Int):Option (Bool):=match f with
|0=>none
|n+1=>some<|oN != oN
def G.cmp_Compare_int (f:Nat)(oN:Int)(Fz:Int):Option (Int):=match f with
|0=>none
|n+1=>(G.cmp_isNaN_int n oN).bind λv1=>(G.cmp_isNaN_int n Fz).bind λv2=>cond v1 (cond v2 (some 0)<|some (-1))<|cond v2 (some 1)<|cond (decide<|oN<Fz) (some (-1))<|cond (decide<|Fz<oN) (some 1)<|some 0
def G.cmp_isNaN_string (f:Nat)(oN:jE):Option (Bool):=match f with
|0=>none
|n+1=>some<|(!(oN==oN))
def G.cmp_Less_string (f:Nat)(oN:jE)(Fz:jE):Option (Bool):=match f with
|0=>none
|n+1=>(G.cmp_isNaN_string n oN).bind λv1=>cond v1 ((G.cmp_isNaN_string n Fz).bind λv2=>cond v2 (some<|gu oN Fz)<|some true)<|some<|gu oN Fz
def G.lQ.L1 (f:Nat)(vI:List Int)(mP:Int):Option (Int):=match f with
|0=>none
|n+1=>cond (decide<|mP<(vI.length:Int)) (chk (0<=mP/\mP<(vI.length:Int))<|cond ((vI.getD mP.toNat default) != 0) (some<|vI.getD mP.toNat default)<|G.lQ.L1 n vI<|ah .i64<|mP+1)<|some 0
def G.lQ (f:Nat)(vI:List Int):Option (Int):=match f with
|0=>none
|n+1=>G.lQ.L1 n vI 0
def G.fB (f:Nat)(aS:jE)(fA:jE):Option (Int):=match f with
|0=>none
|n+1=>some<|lV aS fA
def G.strings_Compare (f:Nat)(aS:jE)(fA:jE):Option (Int):=match f with
|0=>none
|n+1=>(G.fB n aS fA).bind λv1=>some v1
mutual
def G.dD.K4 (f:Nat)(aS:aN)(fA:aN)(bz:Int):Option (Int):=match f with
|0=>none
|n+1=>chk (0<=bz/\bz<(aS.bQ.length:Int))<|chk (0<=bz/\bz<(fA.bQ.length:Int))<|(G.dD n (aS.bQ.getD bz.toNat default)<|fA.bQ.getD bz.toNat default).bind λv11=>cond (v11 != 0) (some v11)<|G.dD.L3 n aS fA<|ah .i64<|bz+1
def G.dD.L3 (f:Nat)(aS:aN)(fA:aN)(bz:Int):Option (Int):=match f with
|0=>none
|n+1=>cond (decide<|bz<(aS.bQ.length:Int)) (cond (decide<|bz<(fA.bQ.length:Int)) (cond (aS.fZ==4) (chk (0<=bz/\bz<(aS.dQ.length:Int))<|chk (0<=bz/\bz<(fA.dQ.length:Int))<|(G.strings_Compare n (aS.dQ.getD bz.toNat default)<|fA.dQ.getD bz.toNat default).bind λv12=>cond (v12 != 0) (some v12)<|G.dD.K4 n aS fA bz)<|G.dD.K4 n aS fA bz)<|(G.cmp_Compare_int n (aS.bQ.length:Int) (fA.bQ.length:Int)).bind λv13=>some v13)<|(G.cmp_Compare_int n (aS.bQ.length:Int) (fA.bQ.length:Int)).bind λv14=>some v14
def G.dD (f:Nat)(aS:aN)(fA:aN):Option (Int):=match f with
|0=>none
|n+1=>(G.cmp_Compare_int n aS.fZ fA.fZ).bind λv1=>cond (v1 != 0) (some v1)<|(G.cmp_Compare_int n aS.xu fA.xu).bind λv2=>cond (v2 != 0) (some v2)<|(G.strings_Compare n aS.nJ fA.nJ).bind λv3=>cond (v3 != 0) (some v3)<|G.dD.L3 n aS fA 0
end
def G.iK (f:Nat)(aS:bI)(fA:bI):Option (Int):=match f with
|0=>none
|n+1=>(G.dD n aS.uC fA.uC).bind λv1=>(G.strings_Compare n aS.lg fA.lg).bind λv2=>(G.lQ n [v1,v2]).bind λv3=>some v3
def G.dH.L1 (f:Nat)(fK:jE)(bz:Int):Option (Bool):=match f with
|0=>none
|n+1=>cond (decide<|bz<(fK.length:Int)) (chk (0<=bz/\bz<(fK.length:Int))<|cond (decide<|((fK.getD bz.toNat 0).toNat:Int)<32) (some false)<|chk (0<=bz/\bz<(fK.length:Int))<|cond (decide<|126<((fK.getD bz.toNat 0).toNat:Int)) (some false)<|G.dH.L1 n fK<|ah .i64<|bz+1)<|some true
def G.dH (f:Nat)(fK:jE):Option (Bool):=match f with
|0=>none
|n+1=>cond (decide<|12<(fK.length:Int)) (some false)<|G.dH.L1 n fK 0
def G.gV.L1 (f:Nat)(oQ:List jE)(mP:Int):Option (Bool):=match f with
|0=>none
|n+1=>cond (decide<|mP<(oQ.length:Int)) (chk (0<=mP/\mP<(oQ.length:Int))<|(G.dH n<|oQ.getD mP.toNat default).bind λv3=>cond v3 (cond (decide<|0<mP) (chk (0<=(ah .i64<|mP-1)/\(ah .i64<|mP-1)<(oQ.length:Int))<|cond (gu (oQ.getD (ah .i64<|mP-1).toNat default)<|oQ.getD mP.toNat default) (G.gV.L1 n oQ<|ah .i64<|mP+1)<|some false)<|G.gV.L1 n oQ<|ah .i64<|mP+1)<|some false)<|some true
def G.gV (f:Nat)(oQ:List jE):Option (Bool):=match f with
|0=>none
|n+1=>cond (decide<|6<(oQ.length:Int)) (some false)<|G.gV.L1 n oQ 0
def G.dJ.K1 (f:Nat)(bD:aN):Option (Bool):=match f with
|0=>none
|n+1=>cond (bD.fZ != 4) (cond (decide<|0<(bD.dQ.length:Int)) (some false)<|cond (bD.fZ==0) (some<|((bD.bQ.length:Int)==0))<|cond (bD.fZ==1) (cond (decide<|(-999999)<=bD.xu) (cond (decide<|bD.xu<=999999) (some<|((bD.bQ.length:Int)==0))<|some false)<|some false)<|cond (bD.fZ==2) ((G.dH n bD.nJ).bind λv1=>cond v1 (some<|((bD.bQ.length:Int)==0))<|some false)<|cond (bD.fZ==3) (some<|(decide<|(bD.bQ.length:Int)<=6))<|cond (bD.fZ==4) ((G.gV n bD.dQ).bind λv2=>cond v2 (some<|((bD.bQ.length:Int)==(bD.dQ.length:Int)))<|some false)<|some false)<|cond (bD.fZ==0) (some<|((bD.bQ.length:Int)==0))<|cond (bD.fZ==1) (cond (decide<|(-999999)<=bD.xu) (cond (decide<|bD.xu<=999999) (some<|((bD.bQ.length:Int)==0))<|some false)<|some false)<|cond (bD.fZ==2) ((G.dH n bD.nJ).bind λv3=>cond v3 (some<|((bD.bQ.length:Int)==0))<|some false)<|cond (bD.fZ==3) (some<|(decide<|(bD.bQ.length:Int)<=6))<|cond (bD.fZ==4) ((G.gV n bD.dQ).bind λv4=>cond v4 (some<|((bD.bQ.length:Int)==(bD.dQ.length:Int)))<|some false)<|some false
def G.dJ (f:Nat)(bD:aN):Option (Bool):=match f with
|0=>none
|n+1=>cond (bD.fZ != 1) (cond (bD.xu != 0) (some false)<|cond (bD.fZ != 2) (cond (bD.nJ==[]) (G.dJ.K1 n bD)<|some false)<|G.dJ.K1 n bD)<|cond (bD.fZ != 2) (cond (bD.nJ==[]) (G.dJ.K1 n bD)<|some false)<|G.dJ.K1 n bD
mutual
def G.dw.L1 (f:Nat)(bD:aN)(sN:Int)(TW:Int)(Ny:Int)(mP:Int):Option (Int×Int×Bool):=match f with
|0=>none
|n+1=>cond (decide<|mP<(bD.bQ.length:Int)) (chk (0<=mP/\mP<(bD.bQ.length:Int))<|(G.dw n (bD.bQ.getD mP.toNat default)<|ah .i64<|sN+1).bind λv4=>cond v4.2.2 (G.dw.L1 n bD sN (ah .i64<|TW+v4.1) (if(ah .i64<|v4.2.1+1)>Ny then(ah .i64<|v4.2.1+1)else Ny)<|ah .i64<|mP+1)<|some (0,0,false))<|some (TW,Ny,true)
def G.dw (f:Nat)(bD:aN)(sN:Int):Option (Int×Int×Bool):=match f with
|0=>none
|n+1=>cond (decide<|5<sN) (some (0,0,false))<|(G.dJ n bD).bind λv1=>cond v1 (G.dw.L1 n bD sN 1 1 0)<|some (0,0,false)
end
def G.kE (f:Nat)(bD:aN):Option (Bool):=match f with
|0=>none
|n+1=>(G.dw n bD 1).bind λv1=>cond v1.2.2 (some<|(decide<|v1.1<=40))<|some false
def G.iW.L1 (f:Nat)(fK:jE)(bz:Int):Option (Bool):=match f with
|0=>none
|n+1=>cond (decide<|bz<(fK.length:Int)) (chk (0<=bz/\bz<(fK.length:Int))<|cond (decide<|((fK.getD bz.toNat 0).toNat:Int)<97) (chk (0<=bz/\bz<(fK.length:Int))<|cond (decide<|((fK.getD bz.toNat 0).toNat:Int)<48) (some false)<|chk (0<=bz/\bz<(fK.length:Int))<|cond (decide<|57<((fK.getD bz.toNat 0).toNat:Int)) (some false)<|G.iW.L1 n fK<|ah .i64<|bz+1)<|chk (0<=bz/\bz<(fK.length:Int))<|cond (decide<|122<((fK.getD bz.toNat 0).toNat:Int)) (chk (0<=bz/\bz<(fK.length:Int))<|cond (decide<|((fK.getD bz.toNat 0).toNat:Int)<48) (some false)<|chk (0<=bz/\bz<(fK.length:Int))<|cond (decide<|57<((fK.getD bz.toNat 0).toNat:Int)) (some false)<|G.iW.L1 n fK<|ah .i64<|bz+1)<|G.iW.L1 n fK<|ah .i64<|bz+1)<|some true
def G.iW (f:Nat)(fK:jE):Option (Bool):=match f with
|0=>none
|n+1=>cond (fK==[]) (some false)<|cond (decide<|8<(fK.length:Int)) (some false)<|G.iW.L1 n fK 0
def G.dP.L1 (f:Nat)(fK:gQ)(mP:Int):Option (Bool):=match f with
|0=>none
|n+1=>cond (decide<|mP<(fK.dG.length:Int)) (chk (0<=mP/\mP<(fK.dG.length:Int))<|(G.iW n<|(fK.dG.getD mP.toNat default).lg).bind λv6=>cond v6 (cond (decide<|0<mP) (chk (0<=(ah .i64<|mP-1)/\(ah .i64<|mP-1)<(fK.dG.length:Int))<|cond (gu ((fK.dG.getD (ah .i64<|mP-1).toNat default).lg)<|(fK.dG.getD mP.toNat default).lg) (cond (decide<|(fK.dG.getD mP.toNat default).nZ<1) (some false)<|cond (decide<|fK.pW<(fK.dG.getD mP.toNat default).nZ) (some false)<|(G.kE n<|(fK.dG.getD mP.toNat default).qy).bind λv7=>cond v7 (G.dP.L1 n fK<|ah .i64<|mP+1)<|some false)<|some false)<|cond (decide<|(fK.dG.getD mP.toNat default).nZ<1) (some false)<|cond (decide<|fK.pW<(fK.dG.getD mP.toNat default).nZ) (some false)<|(G.kE n<|(fK.dG.getD mP.toNat default).qy).bind λv8=>cond v8 (G.dP.L1 n fK<|ah .i64<|mP+1)<|some false)<|some false)<|some true
def G.dP (f:Nat)(fK:gQ):Option (Bool):=match f with
|0=>none
|n+1=>cond (decide<|10<(fK.dG.length:Int)) (some false)<|cond (decide<|fK.pW<0) (some false)<|cond (decide<|999<fK.pW) (some false)<|G.dP.L1 n fK 0
mutual
def G.dN.L2 (f:Nat)(bD:aN)(z1:List jE)(mP:Int)(z4:List aN):Option (aN):=match f with
|0=>none
|n+1=>cond (decide<|mP<(bD.bQ.length:Int)) (chk (0<=mP/\mP<(bD.bQ.length:Int))<|(G.dN n<|bD.bQ.getD mP.toNat default).bind λv3=>chk (0<=mP/\mP<(z4.length:Int))<|G.dN.L2 n bD z1 (ah .i64<|mP+1)<|z4.set mP.toNat v3)<|some<|aN.mk bD.fZ bD.xu bD.nJ z1 z4
def G.dN.K1 (f:Nat)(bD:aN)(z1:List jE):Option (aN):=match f with
|0=>none
|n+1=>cond (decide<|0<(bD.bQ.length:Int)) (chk (0<=(bD.bQ.length:Int)/\(bD.bQ.length:Int)<=(bD.bQ.length:Int)/\80*(bD.bQ.length:Int)<=2^47/\(bD.bQ.length:Int)<=2^47)<|G.dN.L2 n bD z1 0<|bG bD.bQ.length<|aN.mk 0 0 [] [] [])<|some<|aN.mk bD.fZ bD.xu bD.nJ z1 []
def G.dN (f:Nat)(bD:aN):Option (aN):=match f with
|0=>none
|n+1=>cond (decide<|0<(bD.dQ.length:Int)) (chk (0<=(bD.dQ.length:Int)/\(bD.dQ.length:Int)<=(bD.dQ.length:Int)/\16*(bD.dQ.length:Int)<=2^47/\(bD.dQ.length:Int)<=2^47)<|G.dN.K1 n bD bD.dQ)<|G.dN.K1 n bD []
end
def G.slices_isNaN_string (f:Nat)(oN:jE):Option (Bool):=match f with
|0=>none
|n+1=>some<|(!(oN==oN))
def G.slices_BinarySearch_string.L1 (f:Nat)(oN:List jE)(rV:jE)(bz:Int)(VW:Int):Option (Int×Bool):=match f with
|0=>none
|n+1=>cond (decide<|bz<VW) (chk (0<=(ah .i64<|(sK (ah .u64<|(ah .i64<|bz+VW))<|2^(min 1<|iP .u64)))/\(ah .i64<|(sK (ah .u64<|(ah .i64<|bz+VW))<|2^(min 1<|iP .u64)))<(oN.length:Int))<|(G.cmp_Less_string n (oN.getD (ah .i64<|(sK (ah .u64<|(ah .i64<|bz+VW))<|2^(min 1<|iP .u64))).toNat default) rV).bind λv3=>cond v3 (G.slices_BinarySearch_string.L1 n oN rV (ah .i64<|(ah .i64<|(sK (ah .u64<|(ah .i64<|bz+VW))<|2^(min 1<|iP .u64)))+1) VW)<|G.slices_BinarySearch_string.L1 n oN rV bz<|ah .i64<|(sK (ah .u64<|(ah .i64<|bz+VW))<|2^(min 1<|iP .u64)))<|cond (decide<|bz<(oN.length:Int)) (chk (0<=bz/\bz<(oN.length:Int))<|cond ((oN.getD bz.toNat default)==rV) (some (bz,true))<|chk (0<=bz/\bz<(oN.length:Int))<|(G.slices_isNaN_string n<|oN.getD bz.toNat default).bind λv4=>cond v4 ((G.slices_isNaN_string n rV).bind λv5=>some (bz,v5))<|some (bz,false))<|some (bz,false)
def G.slices_BinarySearch_string (f:Nat)(oN:List jE)(rV:jE):Option (Int×Bool):=match f with
|0=>none
|n+1=>G.slices_BinarySearch_string.L1 n oN rV 0 (oN.length:Int)
def G.strconv_Itoa (f:Nat)(i:Int):Option jE:=match f with
|0=>none
|_+1=>(chk ((-9223372036854775808<=i/\i<=9223372036854775807)/\(qo i).length<=1000000) (some (qo i)))
def G.gW.L1 (f:Nat)(bD:aN)(nK:jE)(mP:Int):Option (Int×Bool):=match f with
|0=>none
|n+1=>cond (decide<|mP<(bD.bQ.length:Int)) ((G.strconv_Itoa n mP).bind λv4=>cond (v4==nK) (some (mP,true))<|G.gW.L1 n bD nK<|ah .i64<|mP+1)<|some (0,false)
def G.gW (f:Nat)(bD:aN)(nK:jE):Option (Int×Bool):=match f with
|0=>none
|n+1=>cond (bD.fZ==4) ((G.slices_BinarySearch_string n bD.dQ nK).bind λv1=>some (v1.1,v1.2))<|cond (bD.fZ==3) (G.gW.L1 n bD nK 0)<|some (0,false)
def G.iI.L1 (f:Nat)(dI:List jE)(mP:Int)(y6:Int)(y7:Int)(y8:jE)(y9:List jE)(TY:List aN):Option (aN×Bool):=match f with
|0=>none
|n+1=>cond (decide<|mP<(dI.length:Int)) (chk (0<=mP/\mP<(dI.length:Int))<|(G.gW n (aN.mk y6 y7 y8 y9 TY)<|dI.getD mP.toNat default).bind λv3=>cond v3.2 (chk (0<=v3.1/\v3.1<(TY.length:Int))<|G.iI.L1 n dI (ah .i64<|mP+1) ((TY.getD v3.1.toNat default).fZ) ((TY.getD v3.1.toNat default).xu) ((TY.getD v3.1.toNat default).nJ) ((TY.getD v3.1.toNat default).dQ)<|(TY.getD v3.1.toNat default).bQ)<|some ((aN.mk 0 0 [] [] []),false))<|some ((aN.mk y6 y7 y8 y9 TY),true)
def G.iI (f:Nat)(bD:aN)(dI:List jE):Option (aN×Bool):=match f with
|0=>none
|n+1=>G.iI.L1 n dI 0 bD.fZ bD.xu bD.nJ bD.dQ bD.bQ
def G.jk.L1 (f:Nat)(dI:List jE)(mP:Int):Option (Bool):=match f with
|0=>none
|n+1=>cond (decide<|mP<(dI.length:Int)) (chk (0<=mP/\mP<(dI.length:Int))<|(G.dH n<|dI.getD mP.toNat default).bind λv3=>cond v3 (G.jk.L1 n dI<|ah .i64<|mP+1)<|some false)<|some true
def G.jk (f:Nat)(dI:List jE):Option (Bool):=match f with
|0=>none
|n+1=>cond (decide<|5<(dI.length:Int)) (some false)<|G.jk.L1 n dI 0
def G.fV (f:Nat)(l:List bI):Option (List bI):=match f with
|0=>none
|n+1=>chk (l.length<=12/\(l.all λa=>l.all λb=>(G.iK n a b).isSome)=true)<|some<|NS (λa b=>decide<|(G.iK n a b).getD 0<0) l
def G.dW.L1 (f:Nat)(fK:gQ)(dI:List jE)(mP:Int)(z2:List bI):Option (List bI):=match f with
|0=>none
|n+1=>cond (decide<|mP<(fK.dG.length:Int)) (chk (0<=mP/\mP<(fK.dG.length:Int))<|(G.iI n ((fK.dG.getD mP.toNat default).qy) dI).bind λv7=>cond v7.2 ((G.dN n v7.1).bind λv8=>chk ((z2.length+1)*103<=2^46)<|G.dW.L1 n fK dI (ah .i64<|mP+1)<|z2++[(bI.mk v8<|(fK.dG.getD mP.toNat default).lg)])<|G.dW.L1 n fK dI (ah .i64<|mP+1) z2)<|(G.fV n z2).bind λv9=>chk (z2.length=v9.length)<|some v9
def G.dW (f:Nat)(fK:gQ)(dI:List jE):Option (List bI):=match f with
|0=>none
|n+1=>(G.dP n fK).bind λv1=>cond v1 ((G.jk n dI).bind λv2=>cond v2 (G.dW.L1 n fK dI 0 [])<|some<|[])<|some<|[]
def G.iG.L1 (f:Nat)(aS:List jE)(fA:List jE)(bz:Int):Option (Bool):=match f with
|0=>none
|n+1=>cond (decide<|bz<(aS.length:Int)) (chk (0<=bz/\bz<(aS.length:Int))<|chk (0<=bz/\bz<(fA.length:Int))<|cond ((aS.getD bz.toNat default)==(fA.getD bz.toNat default)) (G.iG.L1 n aS fA<|ah .i64<|bz+1)<|some false)<|some true
def G.iG (f:Nat)(aS:List jE)(fA:List jE):Option (Bool):=match f with
|0=>none
|n+1=>cond ((aS.length:Int) != (fA.length:Int)) (some false)<|G.iG.L1 n aS fA 0
mutual
def G.lZ (f:Nat)(aS:aN)(fA:aN):Option (Bool):=match f with
|0=>none
|n+1=>cond (aS.fZ != fA.fZ) (some false)<|cond (aS.xu != fA.xu) (some false)<|cond (aS.nJ==fA.nJ) ((G.iG n aS.dQ fA.dQ).bind λv1=>cond v1 ((G.kJ n aS.bQ fA.bQ).bind λv2=>cond v2 (some true)<|some false)<|some false)<|some false
def G.kJ.L1 (f:Nat)(aS:List aN)(fA:List aN)(bz:Int):Option (Bool):=match f with
|0=>none
|n+1=>cond (decide<|bz<(aS.length:Int)) (chk (0<=bz/\bz<(aS.length:Int))<|chk (0<=bz/\bz<(fA.length:Int))<|(G.lZ n (aS.getD bz.toNat default)<|fA.getD bz.toNat default).bind λv3=>cond v3 (G.kJ.L1 n aS fA<|ah .i64<|bz+1)<|some false)<|some true
def G.kJ (f:Nat)(aS:List aN)(fA:List aN):Option (Bool):=match f with
|0=>none
|n+1=>cond ((aS.length:Int) != (fA.length:Int)) (some false)<|G.kJ.L1 n aS fA 0
end
def G.oU (f:Nat)(aS:bI)(fA:bI):Option (Bool):=match f with
|0=>none
|n+1=>(G.lZ n aS.uC fA.uC).bind λv1=>cond v1 (cond (aS.lg==fA.lg) (some true)<|some false)<|some false
def G.iU.L1 (f:Nat)(aS:List bI)(fA:List bI)(bz:Int):Option (Bool):=match f with
|0=>none
|n+1=>cond (decide<|bz<(aS.length:Int)) (chk (0<=bz/\bz<(aS.length:Int))<|chk (0<=bz/\bz<(fA.length:Int))<|(G.oU n (bI.mk ((aS.getD bz.toNat default).uC)<|(aS.getD bz.toNat default).lg)<|bI.mk ((fA.getD bz.toNat default).uC)<|(fA.getD bz.toNat default).lg).bind λv3=>cond v3 (G.iU.L1 n aS fA<|ah .i64<|bz+1)<|some false)<|some true
def G.iU (f:Nat)(aS:List bI)(fA:List bI):Option (Bool):=match f with
|0=>none
|n+1=>cond ((aS.length:Int) != (fA.length:Int)) (some false)<|G.iU.L1 n aS fA 0
def G.pJ (f:Nat)(aS:jc)(fA:jc):Option (Bool):=match f with
|0=>none
|n+1=>cond (aS.lg==fA.lg) (cond (aS.nZ != fA.nZ) (some false)<|(G.lZ n aS.qy fA.qy).bind λv1=>cond v1 (some true)<|some false)<|some false
def G.jI.L1 (f:Nat)(aS:List jc)(fA:List jc)(bz:Int):Option (Bool):=match f with
|0=>none
|n+1=>cond (decide<|bz<(aS.length:Int)) (chk (0<=bz/\bz<(aS.length:Int))<|chk (0<=bz/\bz<(fA.length:Int))<|(G.pJ n (jc.mk ((aS.getD bz.toNat default).lg) ((aS.getD bz.toNat default).nZ)<|(aS.getD bz.toNat default).qy)<|jc.mk ((fA.getD bz.toNat default).lg) ((fA.getD bz.toNat default).nZ)<|(fA.getD bz.toNat default).qy).bind λv3=>cond v3 (G.jI.L1 n aS fA<|ah .i64<|bz+1)<|some false)<|some true
def G.jI (f:Nat)(aS:List jc)(fA:List jc):Option (Bool):=match f with
|0=>none
|n+1=>cond ((aS.length:Int) != (fA.length:Int)) (some false)<|G.jI.L1 n aS fA 0
def G.og (f:Nat)(aS:gQ)(fA:gQ):Option (Bool):=match f with
|0=>none
|n+1=>(G.jI n aS.dG fA.dG).bind λv1=>cond v1 (cond (aS.pW != fA.pW) (some false)<|some true)<|some false
def G.gm.L1 (f:Nat)(AX:Int)(QU:jE):Option (jE):=match f with
|0=>none
|n+1=>cond (decide<|0<AX) (chk (1<=maxLen)<|chk (1+QU.length<=maxLen)<|G.gm.L1 n (ah .i64<|xk AX 10)<|[jv (ah .u8<|(ah .i64<|48+(zy AX 10))).toNat]++QU)<|chk (1+QU.length<=maxLen)<|some<|[109]++QU
def G.gm (f:Nat)(yL:Int):Option (jE):=match f with
|0=>none
|n+1=>cond (decide<|yL<=0) (some<|[109,48])<|G.gm.L1 n yL []
def G.gy.L1 (f:Nat)(aS:List jE)(AX:Int)(bz:Int):Option (Int):=match f with
|0=>none
|n+1=>cond (decide<|bz<(aS.length:Int)) (chk (0<=bz/\bz<(aS.length:Int))<|(G.gm n AX).bind λv3=>cond ((aS.getD bz.toNat default)==v3) (G.gy.L1 n aS (ah .i64<|AX+1)<|ah .i64<|bz+1)<|some (-1))<|some AX
def G.gy (f:Nat)(aS:List jE)(yL:Int):Option (Int):=match f with
|0=>none
|n+1=>G.gy.L1 n aS yL 0
mutual
def G.gZ.L1 (f:Nat)(aS:List aN)(AX:Int)(bz:Int):Option (Int):=match f with
|0=>none
|n+1=>cond (decide<|bz<(aS.length:Int)) (chk (0<=bz/\bz<(aS.length:Int))<|cond ((aS.getD bz.toNat default).fZ != AX) (some (-1))<|chk (0<=bz/\bz<(aS.length:Int))<|cond ((aS.getD bz.toNat default).xu != (ah .i64<|AX+1)) (some (-1))<|chk (0<=bz/\bz<(aS.length:Int))<|(G.gm n<|ah .i64<|(ah .i64<|AX+1)+1).bind λv7=>cond ((aS.getD bz.toNat default).nJ==v7) (chk (0<=bz/\bz<(aS.length:Int))<|(G.gy n ((aS.getD bz.toNat default).dQ)<|ah .i64<|(ah .i64<|(ah .i64<|AX+1)+1)+1).bind λv8=>cond (decide<|v8<0) (some (-1))<|chk (0<=bz/\bz<(aS.length:Int))<|(G.gZ n ((aS.getD bz.toNat default).bQ) v8).bind λv9=>cond (decide<|v9<0) (some (-1))<|G.gZ.L1 n aS v9<|ah .i64<|bz+1)<|some (-1))<|some AX
def G.gZ (f:Nat)(aS:List aN)(yL:Int):Option (Int):=match f with
|0=>none
|n+1=>G.gZ.L1 n aS yL 0
end
def G.iJ.L1 (f:Nat)(aS:List bI)(AX:Int)(bz:Int):Option (Int):=match f with
|0=>none
|n+1=>cond (decide<|bz<(aS.length:Int)) (chk (0<=bz/\bz<(aS.length:Int))<|cond (((aS.getD bz.toNat default).uC).fZ != AX) (some (-1))<|chk (0<=bz/\bz<(aS.length:Int))<|cond (((aS.getD bz.toNat default).uC).xu != (ah .i64<|AX+1)) (some (-1))<|chk (0<=bz/\bz<(aS.length:Int))<|(G.gm n<|ah .i64<|(ah .i64<|AX+1)+1).bind λv9=>cond (((aS.getD bz.toNat default).uC).nJ==v9) (chk (0<=bz/\bz<(aS.length:Int))<|(G.gy n (((aS.getD bz.toNat default).uC).dQ)<|ah .i64<|(ah .i64<|(ah .i64<|AX+1)+1)+1).bind λv10=>cond (decide<|v10<0) (some (-1))<|chk (0<=bz/\bz<(aS.length:Int))<|(G.gZ n (((aS.getD bz.toNat default).uC).bQ) v10).bind λv11=>cond (decide<|v11<0) (some (-1))<|chk (0<=bz/\bz<(aS.length:Int))<|(G.gm n v11).bind λv12=>cond ((aS.getD bz.toNat default).lg==v12) (G.iJ.L1 n aS (ah .i64<|v11+1)<|ah .i64<|bz+1)<|some (-1))<|some (-1))<|some AX
def G.iJ (f:Nat)(aS:List bI)(yL:Int):Option (Int):=match f with
|0=>none
|n+1=>G.iJ.L1 n aS yL 0
def G.gz.L1 (f:Nat)(aS:List jE)(zX:Int)(bz:Int):Option (Int):=match f with
|0=>none
|n+1=>cond (decide<|bz<(aS.length:Int)) (chk (0<=bz/\bz<(aS.length:Int))<|cond (decide<|(ah .i64<|zX-((aS.getD bz.toNat default).length:Int))<0) (some (-1))<|G.gz.L1 n aS (ah .i64<|zX-((aS.getD bz.toNat default).length:Int))<|ah .i64<|bz+1)<|some zX
def G.gz (f:Nat)(aS:List jE)(jH:Int):Option (Int):=match f with
|0=>none
|n+1=>cond (decide<|(ah .i64<|jH-(aS.length:Int))<0) (some (-1))<|G.gz.L1 n aS (ah .i64<|jH-(aS.length:Int)) 0
mutual
def G.l7 (f:Nat)(aS:aN)(jH:Int):Option (Int):=match f with
|0=>none
|n+1=>cond (decide<|(ah .i64<|jH-(aS.nJ.length:Int))<0) (some (-1))<|(G.gz n aS.dQ<|ah .i64<|jH-(aS.nJ.length:Int)).bind λv1=>cond (decide<|v1<0) (some (-1))<|(G.jJ n aS.bQ v1).bind λv2=>cond (decide<|v2<0) (some (-1))<|some v2
def G.jJ.L1 (f:Nat)(aS:List aN)(zX:Int)(bz:Int):Option (Int):=match f with
|0=>none
|n+1=>cond (decide<|bz<(aS.length:Int)) (chk (0<=bz/\bz<(aS.length:Int))<|(G.l7 n (aS.getD bz.toNat default) zX).bind λv3=>cond (decide<|v3<0) (some (-1))<|G.jJ.L1 n aS v3<|ah .i64<|bz+1)<|some zX
def G.jJ (f:Nat)(aS:List aN)(jH:Int):Option (Int):=match f with
|0=>none
|n+1=>cond (decide<|(ah .i64<|jH-(aS.length:Int))<0) (some (-1))<|G.jJ.L1 n aS (ah .i64<|jH-(aS.length:Int)) 0
end
def G.nR (f:Nat)(aS:jc)(jH:Int):Option (Int):=match f with
|0=>none
|n+1=>cond (decide<|(ah .i64<|jH-(aS.lg.length:Int))<0) (some (-1))<|(G.l7 n aS.qy<|ah .i64<|jH-(aS.lg.length:Int)).bind λv1=>cond (decide<|v1<0) (some (-1))<|some v1
def G.jo.L1 (f:Nat)(aS:List jc)(zX:Int)(bz:Int):Option (Int):=match f with
|0=>none
|n+1=>cond (decide<|bz<(aS.length:Int)) (chk (0<=bz/\bz<(aS.length:Int))<|(G.nR n (jc.mk ((aS.getD bz.toNat default).lg) ((aS.getD bz.toNat default).nZ)<|(aS.getD bz.toNat default).qy) zX).bind λv3=>cond (decide<|v3<0) (some (-1))<|G.jo.L1 n aS v3<|ah .i64<|bz+1)<|some zX
def G.jo (f:Nat)(aS:List jc)(jH:Int):Option (Int):=match f with
|0=>none
|n+1=>cond (decide<|(ah .i64<|jH-(aS.length:Int))<0) (some (-1))<|G.jo.L1 n aS (ah .i64<|jH-(aS.length:Int)) 0
def G.lu (f:Nat)(aS:gQ)(jH:Int):Option (Int):=match f with
|0=>none
|n+1=>(G.jo n aS.dG jH).bind λv1=>cond (decide<|v1<0) (some (-1))<|some v1
def G.ig.L1 (f:Nat)(aS:List jE)(bz:Int)(z3:List jE):Option (List jE):=match f with
|0=>none
|n+1=>cond (decide<|bz<(aS.length:Int)) (chk (0<=bz/\bz<(aS.length:Int))<|chk (0<=bz/\bz<(z3.length:Int))<|G.ig.L1 n aS (ah .i64<|bz+1)<|z3.set bz.toNat<|aS.getD bz.toNat default)<|some z3
def G.ig (f:Nat)(aS:List jE):Option (List jE):=match f with
|0=>none
|n+1=>chk (0<=(aS.length:Int)/\(aS.length:Int)<=(aS.length:Int)/\16*(aS.length:Int)<=2^47/\(aS.length:Int)<=2^47)<|G.ig.L1 n aS 0<|bG aS.length []
mutual
def G.nD (f:Nat)(aS:aN):Option (aN):=match f with
|0=>none
|n+1=>(G.ig n aS.dQ).bind λv1=>(G.kK n aS.bQ).bind λv2=>some<|aN.mk aS.fZ aS.xu aS.nJ v1 v2
def G.kK.L1 (f:Nat)(aS:List aN)(bz:Int)(z3:List aN):Option (List aN):=match f with
|0=>none
|n+1=>cond (decide<|bz<(aS.length:Int)) (chk (0<=bz/\bz<(aS.length:Int))<|(G.nD n<|aS.getD bz.toNat default).bind λv3=>chk (0<=bz/\bz<(z3.length:Int))<|G.kK.L1 n aS (ah .i64<|bz+1)<|z3.set bz.toNat v3)<|some z3
def G.kK (f:Nat)(aS:List aN):Option (List aN):=match f with
|0=>none
|n+1=>chk (0<=(aS.length:Int)/\(aS.length:Int)<=(aS.length:Int)/\80*(aS.length:Int)<=2^47/\(aS.length:Int)<=2^47)<|G.kK.L1 n aS 0<|bG aS.length<|aN.mk 0 0 [] [] []
end
def G.pK (f:Nat)(aS:jc):Option (jc):=match f with
|0=>none
|n+1=>(G.nD n aS.qy).bind λv1=>some<|jc.mk aS.lg aS.nZ v1
def G.jK.L1 (f:Nat)(aS:List jc)(bz:Int)(z3:List jc):Option (List jc):=match f with
|0=>none
|n+1=>cond (decide<|bz<(aS.length:Int)) (chk (0<=bz/\bz<(aS.length:Int))<|(G.pK n<|jc.mk ((aS.getD bz.toNat default).lg) ((aS.getD bz.toNat default).nZ)<|(aS.getD bz.toNat default).qy).bind λv3=>chk (0<=bz/\bz<(z3.length:Int))<|G.jK.L1 n aS (ah .i64<|bz+1)<|z3.set bz.toNat v3)<|some z3
def G.jK (f:Nat)(aS:List jc):Option (List jc):=match f with
|0=>none
|n+1=>chk (0<=(aS.length:Int)/\(aS.length:Int)<=(aS.length:Int)/\104*(aS.length:Int)<=2^47/\(aS.length:Int)<=2^47)<|G.jK.L1 n aS 0<|bG aS.length<|jc.mk [] 0<|aN.mk 0 0 [] [] []
def G.mV (f:Nat)(aS:gQ):Option (gQ):=match f with
|0=>none
|n+1=>(G.jK n aS.dG).bind λv1=>some<|gQ.mk v1 aS.pW
mutual
def G.fG.L1 (f:Nat)(bD:aN)(bz:Int)(z2:List aN):Option (aN):=match f with
|0=>none
|n+1=>cond (decide<|bz<(bD.bQ.length:Int)) (chk (0<=bz/\bz<(bD.bQ.length:Int))<|(G.fG n<|bD.bQ.getD bz.toNat default).bind λv3=>chk ((z2.length+1)*86<=2^46)<|G.fG.L1 n bD (ah .i64<|bz+1)<|z2++[v3])<|chk (bD.dQ.length*18<=2^46)<|some<|aN.mk bD.fZ bD.xu bD.nJ bD.dQ z2
def G.fG (f:Nat)(bD:aN):Option (aN):=match f with
|0=>none
|n+1=>G.fG.L1 n bD 0 []
end
mutual
def G.jT (f:Nat)(bD:Int):Option (jE):=match f with
|0=>none
|n+1=>cond (decide<|bD<0) (cond (bD==(ah .i64<|0-bD)) (some<|[45,57,50,50,51,51,55,50,48,51,54,56,53,52,55,55,53,56,48,56])<|(G.jT n<|ah .i64<|0-bD).bind λv1=>chk (1+v1.length<=maxLen)<|some<|[45]++v1)<|cond (decide<|bD<10) (chk (1<=maxLen)<|some<|[jv (ah .u8<|(ah .i64<|48+bD)).toNat])<|(G.jT n<|ah .i64<|xk bD 10).bind λv2=>chk (1<=maxLen)<|chk (v2.length+1<=maxLen)<|some<|(v2++[jv (ah .u8<|(ah .i64<|48+(zy bD 10))).toNat])
end
def G.jh.L1 (f:Nat)(bD:aN)(nK:jE)(bz:Int):Option (Int):=match f with
|0=>none
|n+1=>cond (decide<|bz<(bD.bQ.length:Int)) (cond (bD.fZ==4) (chk (0<=bz/\bz<(bD.dQ.length:Int))<|cond ((bD.dQ.getD bz.toNat default)==nK) (some bz)<|cond (bD.fZ==3) ((G.jT n bz).bind λv5=>cond (v5==nK) (some bz)<|G.jh.L1 n bD nK<|ah .i64<|bz+1)<|G.jh.L1 n bD nK<|ah .i64<|bz+1)<|cond (bD.fZ==3) ((G.jT n bz).bind λv6=>cond (v6==nK) (some bz)<|G.jh.L1 n bD nK<|ah .i64<|bz+1)<|G.jh.L1 n bD nK<|ah .i64<|bz+1)<|some (-1)
def G.jh (f:Nat)(bD:aN)(nK:jE):Option (Int):=match f with
|0=>none
|n+1=>G.jh.L1 n bD nK 0
def G.oh.L1 (f:Nat)(dI:List jE)(bz:Int)(y6:Int)(y7:Int)(y8:jE)(y9:List jE)(TY:List aN):Option (aN×Bool):=match f with
|0=>none
|n+1=>cond (decide<|bz<(dI.length:Int)) (chk (0<=bz/\bz<(dI.length:Int))<|(G.jh n (aN.mk y6 y7 y8 y9 TY)<|dI.getD bz.toNat default).bind λv3=>cond (decide<|v3<0) (some ((aN.mk 0 0 [] [] []),false))<|chk (0<=v3/\v3<(TY.length:Int))<|G.oh.L1 n dI (ah .i64<|bz+1) ((TY.getD v3.toNat default).fZ) ((TY.getD v3.toNat default).xu) ((TY.getD v3.toNat default).nJ) ((TY.getD v3.toNat default).dQ)<|(TY.getD v3.toNat default).bQ)<|(G.fG n<|aN.mk y6 y7 y8 y9 TY).bind λv4=>some (v4,true)
def G.oh (f:Nat)(bD:aN)(dI:List jE):Option (aN×Bool):=match f with
|0=>none
|n+1=>G.oh.L1 n dI 0 bD.fZ bD.xu bD.nJ bD.dQ bD.bQ
def G.jq (f:Nat)(fA:Bool):Option (Int):=match f with
|0=>none
|n+1=>cond fA (some 1)<|some 0
def G.nP (f:Nat)(aS:Int)(fA:Int):Option (Int):=match f with
|0=>none
|n+1=>(G.jq n<|decide<|fA<aS).bind λv1=>(G.jq n<|decide<|aS<fA).bind λv2=>some<|(ah .i64<|v1-v2)
def G.lT (f:Nat)(aS:jE)(fA:jE):Option (Int):=match f with
|0=>none
|n+1=>cond (gu aS fA) ((G.jq n false).bind λv1=>(G.jq n true).bind λv2=>some<|(ah .i64<|v1-v2))<|cond (aS==fA) ((G.jq n false).bind λv3=>(G.jq n false).bind λv4=>some<|(ah .i64<|v3-v4))<|(G.jq n true).bind λv5=>(G.jq n false).bind λv6=>some<|(ah .i64<|v5-v6)
mutual
def G.iF.L1 (f:Nat)(aS:aN)(fA:aN)(bz:Int):Option (Int):=match f with
|0=>none
|n+1=>cond (decide<|bz<(aS.bQ.length:Int)) (cond (decide<|bz<(fA.bQ.length:Int)) (cond (aS.fZ==4) (chk (0<=bz/\bz<(aS.dQ.length:Int))<|chk (0<=bz/\bz<(fA.dQ.length:Int))<|cond ((aS.dQ.getD bz.toNat default)==(fA.dQ.getD bz.toNat default)) (chk (0<=bz/\bz<(aS.bQ.length:Int))<|chk (0<=bz/\bz<(fA.bQ.length:Int))<|(G.iF n (aS.bQ.getD bz.toNat default)<|fA.bQ.getD bz.toNat default).bind λv9=>cond (v9 != 0) (some v9)<|G.iF.L1 n aS fA<|ah .i64<|bz+1)<|chk (0<=bz/\bz<(aS.dQ.length:Int))<|chk (0<=bz/\bz<(fA.dQ.length:Int))<|(G.lT n (aS.dQ.getD bz.toNat default)<|fA.dQ.getD bz.toNat default).bind λv10=>some v10)<|chk (0<=bz/\bz<(aS.bQ.length:Int))<|chk (0<=bz/\bz<(fA.bQ.length:Int))<|(G.iF n (aS.bQ.getD bz.toNat default)<|fA.bQ.getD bz.toNat default).bind λv11=>cond (v11 != 0) (some v11)<|G.iF.L1 n aS fA<|ah .i64<|bz+1)<|(G.nP n (aS.bQ.length:Int) (fA.bQ.length:Int)).bind λv12=>some v12)<|(G.nP n (aS.bQ.length:Int) (fA.bQ.length:Int)).bind λv13=>some v13
def G.iF (f:Nat)(aS:aN)(fA:aN):Option (Int):=match f with
|0=>none
|n+1=>cond (aS.fZ != fA.fZ) ((G.nP n aS.fZ fA.fZ).bind λv1=>some v1)<|cond (aS.xu != fA.xu) ((G.nP n aS.xu fA.xu).bind λv2=>some v2)<|cond (aS.nJ==fA.nJ) (G.iF.L1 n aS fA 0)<|(G.lT n aS.nJ fA.nJ).bind λv14=>some v14
end
mutual
def G.gp.L4 (f:Nat)(fK:gQ)(dI:List jE)(bz:Int)(AY:Int)(z10:List bI):Option (List bI):=match f with
|0=>none
|n+1=>cond (decide<|0<AY) (chk (0<=AY/\AY<(z10.length:Int))<|chk (0<=(ah .i64<|AY-1)/\(ah .i64<|AY-1)<(z10.length:Int))<|(G.iF n ((z10.getD AY.toNat default).uC)<|(z10.getD (ah .i64<|AY-1).toNat default).uC).bind λv12=>cond (decide<|v12<0) (chk (0<=AY/\AY<(z10.length:Int))<|chk (0<=(ah .i64<|AY-1)/\(ah .i64<|AY-1)<(z10.length:Int))<|chk (0<=AY/\AY<(z10.length:Int))<|chk (0<=(ah .i64<|AY-1)/\(ah .i64<|AY-1)<(z10.length:Int))<|G.gp.L4 n fK dI bz (ah .i64<|AY-1)<|(z10.set AY.toNat<|bI.mk ((z10.getD (ah .i64<|AY-1).toNat default).uC)<|(z10.getD (ah .i64<|AY-1).toNat default).lg).set ((ah .i64<|AY-1).toNat)<|bI.mk ((z10.getD AY.toNat default).uC)<|(z10.getD AY.toNat default).lg)<|G.gp.L3 n fK dI (ah .i64<|bz+1) z10)<|G.gp.L3 n fK dI (ah .i64<|bz+1) z10
def G.gp.L3 (f:Nat)(fK:gQ)(dI:List jE)(bz:Int)(z7:List bI):Option (List bI):=match f with
|0=>none
|n+1=>cond (decide<|bz<(fK.dG.length:Int)) (chk (0<=bz/\bz<(fK.dG.length:Int))<|(G.oh n ((fK.dG.getD bz.toNat default).qy) dI).bind λv9=>cond v9.2 (chk (0<=bz/\bz<(fK.dG.length:Int))<|chk ((z7.length+1)*103<=2^46)<|G.gp.L4 n fK dI bz (ah .i64<|(((z7.length+1):Nat):Int)-1)<|z7++[(bI.mk v9.1<|(fK.dG.getD bz.toNat default).lg)])<|G.gp.L3 n fK dI (ah .i64<|bz+1) z7)<|some z7
end
def G.gp (f:Nat)(fK:gQ)(dI:List jE):Option (List bI):=match f with
|0=>none
|n+1=>G.gp.L3 n fK dI 0 []
def G.iC (f:Nat)(bD:Int)(KD:Int)(Gj:Int):Option (Bool):=match f with
|0=>none
|n+1=>cond (decide<|KD<=bD) (some<|(decide<|bD<=Gj))<|some false
def G.eU.L1 (f:Nat)(fK:jE)(bz:Int):Option (Bool):=match f with
|0=>none
|n+1=>cond (decide<|bz<(fK.length:Int)) (chk (0<=bz/\bz<(fK.length:Int))<|(G.iC n (ah .i64<|((fK.getD bz.toNat 0).toNat:Int)) 32 126).bind λv3=>cond v3 (G.eU.L1 n fK<|ah .i64<|bz+1)<|some false)<|some<|(decide<|(fK.length:Int)<=12)
def G.eU (f:Nat)(fK:jE):Option (Bool):=match f with
|0=>none
|n+1=>G.eU.L1 n fK 0
def G.gK.L1 (f:Nat)(dI:List jE)(bz:Int):Option (Bool):=match f with
|0=>none
|n+1=>cond (decide<|bz<(dI.length:Int)) (chk (0<=bz/\bz<(dI.length:Int))<|(G.eU n<|dI.getD bz.toNat default).bind λv3=>cond v3 (G.gK.L1 n dI<|ah .i64<|bz+1)<|some false)<|some<|(decide<|(dI.length:Int)<=5)
def G.gK (f:Nat)(dI:List jE):Option (Bool):=match f with
|0=>none
|n+1=>G.gK.L1 n dI 0
def G.gJ.L1 (f:Nat)(fK:jE)(bz:Int):Option (Bool):=match f with
|0=>none
|n+1=>cond (decide<|bz<(fK.length:Int)) (chk (0<=bz/\bz<(fK.length:Int))<|(G.iC n (ah .i64<|((fK.getD bz.toNat 0).toNat:Int)) 97 122).bind λv5=>cond v5 (G.gJ.L1 n fK<|ah .i64<|bz+1)<|chk (0<=bz/\bz<(fK.length:Int))<|(G.iC n (ah .i64<|((fK.getD bz.toNat 0).toNat:Int)) 48 57).bind λv6=>cond v6 (G.gJ.L1 n fK<|ah .i64<|bz+1)<|some false)<|(G.iC n (fK.length:Int) 1 8).bind λv7=>some v7
def G.gJ (f:Nat)(fK:jE):Option (Bool):=match f with
|0=>none
|n+1=>G.gJ.L1 n fK 0
mutual
def G.jA.L1 (f:Nat)(bD:aN)(AX:Int)(bz:Int):Option (Int):=match f with
|0=>none
|n+1=>cond (decide<|bz<(bD.bQ.length:Int)) (chk (0<=bz/\bz<(bD.bQ.length:Int))<|(G.jA n<|bD.bQ.getD bz.toNat default).bind λv3=>G.jA.L1 n bD (ah .i64<|AX+v3)<|ah .i64<|bz+1)<|some AX
def G.jA (f:Nat)(bD:aN):Option (Int):=match f with
|0=>none
|n+1=>G.jA.L1 n bD 1 0
end
def G.jQ.L1 (f:Nat)(rD:List jE)(bz:Int):Option (Bool):=match f with
|0=>none
|n+1=>cond (decide<|bz<(rD.length:Int)) (chk (0<=bz/\bz<(rD.length:Int))<|(G.eU n<|rD.getD bz.toNat default).bind λv3=>cond v3 (cond (decide<|0<bz) (chk (0<=bz/\bz<(rD.length:Int))<|chk (0<=(ah .i64<|bz-1)/\(ah .i64<|bz-1)<(rD.length:Int))<|cond (gu (rD.getD bz.toNat default)<|rD.getD (ah .i64<|bz-1).toNat default) (some false)<|cond ((rD.getD bz.toNat default)==(rD.getD (ah .i64<|bz-1).toNat default)) (some false)<|G.jQ.L1 n rD<|ah .i64<|bz+1)<|G.jQ.L1 n rD<|ah .i64<|bz+1)<|some false)<|some true
def G.jQ (f:Nat)(rD:List jE):Option (Bool):=match f with
|0=>none
|n+1=>G.jQ.L1 n rD 0
mutual
def G.lK.L1 (f:Nat)(bD:aN)(ji:Int)(bz:Int):Option (Bool):=match f with
|0=>none
|n+1=>cond (decide<|bz<(bD.bQ.length:Int)) (chk (0<=bz/\bz<(bD.bQ.length:Int))<|(G.fD n (bD.bQ.getD bz.toNat default)<|ah .i64<|ji-1).bind λv3=>cond v3 (G.lK.L1 n bD ji<|ah .i64<|bz+1)<|some false)<|some true
def G.lK (f:Nat)(bD:aN)(ji:Int):Option (Bool):=match f with
|0=>none
|n+1=>G.lK.L1 n bD ji 0
def G.fD.K1 (f:Nat)(bD:aN)(ji:Int):Option (Bool):=match f with
|0=>none
|n+1=>cond (bD.fZ==1) ((G.iC n bD.xu (-999999) 999999).bind λv1=>some v1)<|cond (bD.fZ==2) ((G.eU n bD.nJ).bind λv2=>some v2)<|cond (bD.fZ==3) ((G.lK n bD ji).bind λv3=>some v3)<|cond (bD.fZ==4) (cond ((bD.dQ.length:Int)==(bD.bQ.length:Int)) ((G.jQ n bD.dQ).bind λv4=>cond v4 ((G.lK n bD ji).bind λv5=>some v5)<|some false)<|some false)<|some<|bD.fZ==0
def G.fD (f:Nat)(bD:aN)(ji:Int):Option (Bool):=match f with
|0=>none
|n+1=>cond (ji==0) (some false)<|cond (decide<|6<(bD.bQ.length:Int)) (some false)<|cond (bD.fZ != 1) (cond (bD.xu != 0) (some false)<|cond (bD.fZ != 2) (cond (bD.nJ==[]) (cond (bD.fZ != 4) (cond (decide<|0<(bD.dQ.length:Int)) (some false)<|cond (decide<|bD.fZ<3) (cond (decide<|0<(bD.bQ.length:Int)) (some false)<|G.fD.K1 n bD ji)<|G.fD.K1 n bD ji)<|cond (decide<|bD.fZ<3) (cond (decide<|0<(bD.bQ.length:Int)) (some false)<|G.fD.K1 n bD ji)<|G.fD.K1 n bD ji)<|some false)<|cond (bD.fZ != 4) (cond (decide<|0<(bD.dQ.length:Int)) (some false)<|cond (decide<|bD.fZ<3) (cond (decide<|0<(bD.bQ.length:Int)) (some false)<|G.fD.K1 n bD ji)<|G.fD.K1 n bD ji)<|cond (decide<|bD.fZ<3) (cond (decide<|0<(bD.bQ.length:Int)) (some false)<|G.fD.K1 n bD ji)<|G.fD.K1 n bD ji)<|cond (bD.fZ != 2) (cond (bD.nJ==[]) (cond (bD.fZ != 4) (cond (decide<|0<(bD.dQ.length:Int)) (some false)<|cond (decide<|bD.fZ<3) (cond (decide<|0<(bD.bQ.length:Int)) (some false)<|G.fD.K1 n bD ji)<|G.fD.K1 n bD ji)<|cond (decide<|bD.fZ<3) (cond (decide<|0<(bD.bQ.length:Int)) (some false)<|G.fD.K1 n bD ji)<|G.fD.K1 n bD ji)<|some false)<|cond (bD.fZ != 4) (cond (decide<|0<(bD.dQ.length:Int)) (some false)<|cond (decide<|bD.fZ<3) (cond (decide<|0<(bD.bQ.length:Int)) (some false)<|G.fD.K1 n bD ji)<|G.fD.K1 n bD ji)<|cond (decide<|bD.fZ<3) (cond (decide<|0<(bD.bQ.length:Int)) (some false)<|G.fD.K1 n bD ji)<|G.fD.K1 n bD ji
end
def G.lD (f:Nat)(bD:aN):Option (Bool):=match f with
|0=>none
|n+1=>(G.fD n bD 5).bind λv1=>cond v1 ((G.jA n bD).bind λv2=>some<|(decide<|v2<=40))<|some false
def G.dR.L1 (f:Nat)(fK:gQ)(bz:Int):Option (Bool):=match f with
|0=>none
|n+1=>cond (decide<|bz<(fK.dG.length:Int)) (chk (0<=bz/\bz<(fK.dG.length:Int))<|(G.gJ n<|(fK.dG.getD bz.toNat default).lg).bind λv7=>cond v7 ((G.lD n<|(fK.dG.getD bz.toNat default).qy).bind λv8=>cond v8 ((G.iC n ((fK.dG.getD bz.toNat default).nZ) 1 fK.pW).bind λv9=>cond v9 (cond (decide<|0<bz) (chk (0<=(ah .i64<|bz-1)/\(ah .i64<|bz-1)<(fK.dG.length:Int))<|cond (gu ((fK.dG.getD bz.toNat default).lg)<|(fK.dG.getD (ah .i64<|bz-1).toNat default).lg) (some false)<|cond ((fK.dG.getD bz.toNat default).lg==(fK.dG.getD (ah .i64<|bz-1).toNat default).lg) (some false)<|G.dR.L1 n fK<|ah .i64<|bz+1)<|G.dR.L1 n fK<|ah .i64<|bz+1)<|some false)<|some false)<|some false)<|cond (decide<|(fK.dG.length:Int)<=10) ((G.iC n fK.pW 0 999).bind λv10=>some v10)<|some false
def G.dR (f:Nat)(fK:gQ):Option (Bool):=match f with
|0=>none
|n+1=>G.dR.L1 n fK 0
def G.iY (f:Nat)(fK:gQ)(dI:List jE):Option (List bI):=match f with
|0=>none
|n+1=>(G.dR n fK).bind λv1=>cond v1 ((G.gK n dI).bind λv2=>cond v2 ((G.gp n fK dI).bind λv3=>some v3)<|some<|[])<|some<|[]
section
theorem aT {a b:Prop}(x:a)(y:b):a/\b:=⟨x,y⟩
theorem aaT {α β:Type}(f:α->β)(l:List α)(n:Nat):List.take n (List.map f l)=List.map f (List.take n l):=List.map_take.symm
theorem aaS {α β:Type}(f:α->β)(l:List α)(n:Nat):List.drop n (List.map f l)=List.map f (List.drop n l):=List.map_drop.symm
theorem kq1 {i:Int}{m:Nat}[inst:Decidable (0<=i/\i<(m:Int))]{α:Type}{k:Option α}{r:α}(h:chk (0<=i/\i<(m:Int)) k=some r):(0<=i/\i<(m:Int))/\i.toNat<m/\k=some r:=by obtain⟨h1,h2⟩:=Af.1 h;exact⟨h1,by omega,h2⟩
theorem kq0 {m:Nat}[inst:Decidable ((0:Nat)<=0/\(0:Int)<(m:Int))]{α:Type}{k:Option α}{r:α}(h:chk ((0:Nat)<=0/\(0:Int)<(m:Int)) k=some r):(0:Int)<(m:Int)/\0<m/\k=some r:=by obtain⟨h1,h2⟩:=Af.1 h;exact⟨h1.2,by omega,h2⟩
theorem kqn {j m:Nat}[inst:Decidable ((0:Nat)<=OfNat.ofNat j/\(OfNat.ofNat j:Int)<(m:Int))]{α:Type}{k:Option α}{r:α}(h:chk ((0:Nat)<=OfNat.ofNat j/\(OfNat.ofNat j:Int)<(m:Int)) k=some r):(OfNat.ofNat j:Int)<(m:Int)/\(OfNat.ofNat j:Nat)<m/\k=some r:=by obtain⟨h1,h2⟩:=Af.1 h;exact⟨h1.2,Int.ofNat_lt.1 h1.2,h2⟩
theorem kq {c:Prop}[Decidable c]{α:Type}{k:Option α}{r:α}(h:chk c k=some r):c/\k=some r:=Af.1 h
theorem bq {α β:Type}{x:Option α}{f:α->Option β}{r:β}(h:Option.bind x f=some r):∃a,x=some a/\f a=some r:=Option.bind_eq_some_iff.1 h
section
variable {P:Program} {Q:AQ} {st:eH}
theorem aax {f:FuncId}{pz:List AV}{p:Bool}{d:Option Nat}{K:List Nat->List Nat->eH->Prop}{du:DU K}(k:pM P f pz p d st K du):pM P f pz p d st K du:=k
theorem aeK {a:AQ->eH->Prop}{d1:DU a}{d2:DU Q}(k:Cm a Q st d1 d2):Cm a Q st d1 d2:=k
theorem ags {a b:AQ->eH->Prop}{d1:DU a}{d2:DU b}{d3:DU Q}(k:Gi a b Q st d1 d2 d3):Gi a b Q st d1 d2 d3:=k
theorem ahU {X:Type}{p:X->Prop}(k:∃x,p x):∃x,p x:=k
theorem agt {rs:List qW}{r:AV}(k:JE rs r st):JE rs r st:=k
theorem adU {rs:List qW}{m:Nat}{post:AV->List Box->Prop}(k:BF rs m post st):BF rs m post st:=k
end
theorem sq {α:Type}{x r:α}(h:some x=some r):r=x:=(Option.some.inj h).symm
theorem cq {b:Bool}{α:Type}{x y:Option α}{r:α}(h:cond b x y=some r):(b=true/\x=some r)\/(b=false/\y=some r):=XY.1 h
def egD :=aT @Zd (aT @abX (aT @Zc (aT @abZ (aT @abW (aT @Zb (aT @VS (aT @Za (aT @abY (aT @Y9 (aT @acH (aT @acG (aT @XC (aT @XB (aT @XD (aT @Xz (aT @Xy (aT @XA (aT @Uk (aT @Uj (aT @Ul (aT @aco (aT @acp (aT @acm (aT @acn (aT @VV (aT @TV (aT @ab2 (aT @Zf (aT @aec (aT @afM (aT @afL (aT @aee (aT @acr (aT @Zy (aT @XF (aT @Zx (aT @FZ.eq_1 (aT @FZ.eq_2 (aT @xW.eq_1 (aT @xW.eq_2 (aT @st0.eq_1 (aT @xe.eq_1 (aT @xe.eq_2 (aT @mF.eq_1 (aT @mF.eq_2 (aT @kH.valid.eq_1 (aT @kH.valid.eq_2 (aT @bW.eq_1 (aT @ahp (aT @aho (aT @g_v (aT @x_v (aT @BV (aT @xG (aT @aeV (aT @ade (aT @adb (aT @uF.eq_1 (aT @uF.eq_2 (aT @l9.eq_1 (aT @l9.eq_2 (aT @Si.eq_1 (aT @Si.eq_2 (aT @setB.eq_1 (aT @setB.eq_2 (aT @YH (aT @YI (aT @YX (aT @VF (aT @FR.ok.eq_1 (aT @JF.eq_1 (aT @JF.eq_2 (aT @JF.eq_3 (aT @AV.flat.eq_1 (aT @AV.flat.eq_2 (aT @AV.cells.eq_1 (aT @AV.cells.eq_2 (aT @AV.cells.eq_3 (aT @tJ.eq_1 (aT @tJ.eq_2 (aT @tJ.eq_3 (aT @tJ.eq_4 (aT @Qu.eq_1 (aT @Ls.eq_1 (aT @Ls.eq_2 (aT @splice.eq_1 (aT @Box.arr.eq_1 (aT @Box.arr.eq_2 (aT @Box.arr.eq_3 (aT @dataOf.eq_1 (aT @dataOf.eq_2 (aT @dataOf.eq_3 (aT @dataOf.eq_4 (aT @Dt.eq_1 (aT @Dt.eq_2 (aT @bnd.eq_1 (aT @bnd.eq_2 (aT @Ju.eq_1 (aT @Ju.eq_2 (aT @aaL (aT @aaK (aT @Dk.eq_1 (aT @pX.eq_1 (aT @oV.eq_1 (aT @vSl.eq_1 (aT @xZ.eq_1 (aT @xZ.eq_2 (aT @xZ.eq_3 (aT @zD.eq_1 (aT @zD.eq_2 (aT @zD.eq_3 (aT @tY.eq_1 (aT @tY.eq_2 (aT @tY.eq_3 (aT @tu.eq_1 (aT @tu.eq_2 (aT @tu.eq_3 (aT @AV.owns.eq_1 (aT @AV.owns.eq_2 (aT @AV.owns.eq_3 (aT @kL.eq_1 (aT @kL.eq_2 (aT @kL.eq_3 (aT @AC.qC.eq_1 (aT @AC.qC.eq_2 (aT @AC.qC.eq_3 (aT @AC.isLit.eq_1 (aT @AC.isLit.eq_2 (aT @AV.all.eq_1 (aT @AV.all.eq_2 (aT @AV.all.eq_3 (aT @Cell.isLit.eq_1 (aT @Cell.isLit.eq_2 (aT @List.mem_cons.{0} (aT @List.not_mem_nil.{0} (aT @or_false (aT @false_or (aT @or_true (aT @true_or (aT @forall_eq.{1} (aT @forall_eq_or_imp.{1} (aT @true_and (aT @and_true (aT @true_implies (aT @false_implies (aT @implies_true.{1} (aT @if_true.{1} (aT @if_false.{1} (aT @Bool.false_eq_true (aT @Bool.true_eq_false (aT @imp_self (aT @and_self (aT @cond_true.{1} (aT @cond_false.{1} (aT @List.map_cons.{0,0} (aT @List.map_nil.{0,0} (aT @List.take_succ_cons.{0} (aT @List.take_zero.{0} (aT @List.drop_succ_cons.{0} (aT @List.drop_zero.{0} (aT @List.take_nil.{0} (aT @List.drop_nil.{0} (aT @List.cons_append.{0} (aT @List.nil_append.{0} (aT @List.append_nil.{0} (aT @List.length_cons.{0} (aT @List.length_nil.{0} (aT @List.getElem?_cons_zero.{0} (aT @List.getElem?_cons_succ.{0} (aT @List.length_map.{0,0} (aT @List.length_replicate.{0} (aT @List.length_append.{0} (aT @List.map_append.{0,0} (aT @List.flatMap_cons.{0,0} (aT @List.flatMap_nil.{0,0} (aT @List.all_cons.{0} (aT @List.all_nil.{0} (aT @List.contains_cons.{0} (aT @List.contains_nil.{0} (aT @Bool.and_true (aT @Bool.or_false (aT @Bool.false_or (aT @Bool.true_or (aT @Bool.or_true (aT @Bool.and_self (aT @Bool.not_false (aT @Bool.not_true (aT @Bool.true_and (aT @Bool.false_and (aT @Bool.and_false (aT @Nat.zero_lt_succ (aT @Nat.zero_le (aT @Nat.zero_add (aT @Nat.le_refl (aT @Nat.min_self (aT @ahk (aT @ahj (aT @decide_true (aT @decide_false (aT @Rf.eq_1 (aT @Rf.eq_2 (aT @QG.eq_1 (aT @QG.eq_2 (aT @NH.eq_1 (aT @NH.eq_2 (aT @NH.eq_3 (aT @GG.eq_1 (aT @GG.eq_2 (aT @CW.eq_1 (aT @CW.eq_2 (aT @GY.eq_1 (aT @GY.eq_2 (aT @Qr.eq_1 (aT @xU.eq_1 (aT @xU.eq_2 (aT @xU.eq_3 (aT @cI.eq_1 (aT @cU.eq_1 (aT @cB.eq_1 (aT @cS.eq_1 (aT @cL.eq_1 (aT @cK.eq_1 (aT @aN.iO (aT @bI.iO (aT @gQ.iO (aT @jc.iO (aT @bI.Fb (aT @List.getD_cons_zero.{0} (aT @List.getD_cons_succ.{0} (aT @List.map_set.{0,0} (aT @List.length_set.{0} (aT @Yc (aT @take_len (aT @EN (aT @EO (aT @WZ (aT @LG.eq_1 (aT @LG.eq_2 (aT @Z8 (aT @Bq.eq_1 (aT @Bq.eq_2 (aT @UB (aT @zl (aT @Rj (aT @Rk (aT @Option.map_some.{0,0} (aT @Int.toNat_natCast (aT @Int.toNat_zero (aT @aaT (aT @aaS (aT @bne_self_eq_false.{0} (aT @Bool.bne_true (aT @Bool.bne_false (aT @List.drop_replicate.{0} (aT @Nat.sub_self (aT @Bo.eq_1 (aT @Bo.eq_2 (aT @Bo.eq_3 (aT @Option.toList_none.{0} (aT @Option.toList_some.{0} (aT @P9.eq_1 (aT @nT.eq_1 (aT @nT.eq_2 (aT @uQ.eq_1 (aT @uQ.eq_2 (aT @eq_self.{1} (aT @List.replicate_zero.{0} (aT @List.replicate_succ.{0} (aT @GM.eq_1 (aT @GM.eq_2 (aT @sO.eq_1 (aT @sO.eq_2 (aT @List.set_cons_zero.{0} (aT @List.set_cons_succ.{0} (aT @aep (aT @yc.eq_1 (aT @yc.eq_2 (aT @zi.eq_1 (aT @zi.eq_2 (aT @zi.eq_3 (aT @List.zip_cons_cons.{0,0} (aT @List.zip_nil_right.{0,0} (aT @List.zip_nil_left.{0,0} (aT @beq_self_eq_true.{0} @Nat.add_zero))))))))))))))))))))))))))))))))))))))))))))))))))))))))))))))))))))))))))))))))))))))))))))))))))))))))))))))))))))))))))))))))))))))))))))))))))))))))))))))))))))))))))))))))))))))))))))))))))))))))))))))))))))))))))))))))))))))))))))))))))))))))))))))))))))))))))))))))))))))))))))
theorem egR : type_of% egD:=egD
def wkD :=aT @Nu.eq_1 (aT @Nu.eq_2 (aT @TT.eq_1 (aT @TT.eq_2 (aT @NU.eq_1 (aT @NU.eq_2 (aT @NU.eq_3 (aT @Xu.eq_1 (aT @Xu.eq_2 (aT @Xu.eq_3 (aT @Xu.eq_4 (aT @F9.eq_1 (aT @F9.eq_2 (aT @F9.eq_3 (aT @ND.eq_1 (aT @ND.eq_2 (aT @uF.eq_1 (aT @uF.eq_2 (aT @l9.eq_1 (aT @l9.eq_2 (aT @true_and (aT @and_true (aT @implies_true.{1} (aT @List.mem_cons.{0} (aT @List.not_mem_nil.{0} (aT @or_false (aT @or_true (aT @true_or (aT @Box.arr.eq_1 (aT @Box.arr.eq_2 (aT @Box.arr.eq_3 (aT @Dk.eq_1 (aT @pX.eq_1 (aT @oV.eq_1 (aT @vSl.eq_1 (aT @not_false_eq_true (aT @false_or (aT @Option.some.injEq.{0} (aT @true_implies (aT @cI.eq_1 (aT @cU.eq_1 (aT @cB.eq_1 (aT @cS.eq_1 (aT @cL.eq_1 (aT @cK.eq_1 (aT @aN.iO (aT @bI.iO (aT @gQ.iO (aT @jc.iO (aT @bI.Fb (aT @List.map_append.{0,0} (aT @List.map_cons.{0,0} (aT @List.map_nil.{0,0} (aT @List.map_set.{0,0} (aT @List.map_take.{0,0} (aT @List.map_drop.{0,0} (aT @List.map_replicate.{0,0} (aT @List.length_append.{0} (aT @List.length_cons.{0} (aT @List.length_nil.{0} (aT @List.length_map.{0,0} (aT @List.length_set.{0} (aT @List.length_replicate.{0} (aT @Nat.zero_add (aT @Nat.add_zero (aT @List.nil_append.{0} (aT @List.cons_append.{0} (aT @List.append_nil.{0} (aT @take_len (aT @EN (aT @EO @and_self))))))))))))))))))))))))))))))))))))))))))))))))))))))))))))))))))))))
theorem wkR : type_of% wkD:=wkD
def peD :=aT @JE.eq_1 (aT @Au.eq_1 (aT @Au.eq_2 (aT @qW.ok.eq_1 (aT @qW.ok.eq_2 (aT @qW.val.eq_1 (aT @qW.val.eq_2 (aT @NP.eq_1 (aT @NP.eq_2 (aT @uj.eq_1 (aT @uj.eq_2 (aT @partOf.eq_1 (aT @partOf.eq_2 (aT @partOf.eq_3 (aT @BV (aT @xG (aT @FQ (aT @g_v (aT @x_v (aT @AV.flat.eq_1 (aT @AV.flat.eq_2 (aT @tJ.eq_1 (aT @tJ.eq_2 (aT @tJ.eq_3 (aT @tJ.eq_4 (aT @uF.eq_1 (aT @uF.eq_2 (aT @l9.eq_1 (aT @l9.eq_2 (aT @dV.eq_1 (aT @dV.eq_2 (aT @dV.eq_3 (aT @dV.eq_4 (aT @dC.eq_1 (aT @dC.eq_2 (aT @dC.eq_3 (aT @dC.eq_4 (aT @dCs.eq_1 (aT @dCs.eq_2 (aT @dCs.eq_3 (aT @dPs.eq_1 (aT @dPs.eq_2 (aT @dPs.eq_3 (aT @Box.arr.eq_1 (aT @Box.arr.eq_2 (aT @Box.arr.eq_3 (aT @List.take_succ_cons.{0} (aT @List.take_zero.{0} (aT @List.drop_zero.{0} (aT @List.drop_succ_cons.{0} (aT @List.length_cons.{0} (aT @List.length_nil.{0} (aT @List.getElem?_cons_zero.{0} (aT @List.getElem?_cons_succ.{0} (aT @true_and (aT @and_true (aT @Nat.zero_add (aT @pX.eq_1 (aT @oV.eq_1 (aT @Dk.eq_1 (aT @vSl.eq_1 (aT @FR.ok.eq_1 (aT @cI.eq_1 (aT @cU.eq_1 (aT @cB.eq_1 (aT @cS.eq_1 (aT @cL.eq_1 (aT @cK.eq_1 (aT @aN.iO (aT @bI.iO (aT @gQ.iO (aT @jc.iO (aT @bI.Fb (aT @List.map_append.{0,0} (aT @List.map_cons.{0,0} (aT @List.map_nil.{0,0} (aT @List.map_set.{0,0} (aT @List.map_take.{0,0} (aT @List.map_drop.{0,0} (aT @List.map_replicate.{0,0} (aT @List.length_append.{0} (aT @List.length_map.{0,0} (aT @List.length_set.{0} (aT @List.length_replicate.{0} (aT @Nat.add_zero (aT @List.nil_append.{0} (aT @List.cons_append.{0} (aT @List.append_nil.{0} (aT @take_len (aT @EN (aT @EO (aT @and_self @zl)))))))))))))))))))))))))))))))))))))))))))))))))))))))))))))))))))))))))))))))))))))))))))
theorem peR : type_of% peD:=peD
def rwD :=aT @Nu.eq_1 (aT @Nu.eq_2 (aT @TT.eq_1 (aT @TT.eq_2 (aT @NU.eq_1 (aT @NU.eq_2 (aT @NU.eq_3 (aT @Xu.eq_1 (aT @Xu.eq_2 (aT @Xu.eq_3 (aT @Xu.eq_4 (aT @F9.eq_1 (aT @F9.eq_2 (aT @F9.eq_3 (aT @ND.eq_1 (aT @ND.eq_2 (aT @uF.eq_1 (aT @uF.eq_2 (aT @l9.eq_1 (aT @l9.eq_2 (aT @true_and (aT @and_true (aT @implies_true.{1} (aT @List.mem_cons.{0} (aT @List.not_mem_nil.{0} (aT @or_false (aT @or_true (aT @true_or (aT @Box.arr.eq_1 (aT @Box.arr.eq_2 (aT @Box.arr.eq_3 (aT @Dk.eq_1 (aT @pX.eq_1 (aT @oV.eq_1 (aT @vSl.eq_1 (aT @not_false_eq_true (aT @false_or (aT @Option.some.injEq.{0} (aT @true_implies (aT @cI.eq_1 (aT @cU.eq_1 (aT @cB.eq_1 (aT @cS.eq_1 (aT @cL.eq_1 (aT @cK.eq_1 (aT @aN.iO (aT @bI.iO (aT @gQ.iO (aT @jc.iO (aT @bI.Fb (aT @List.map_append.{0,0} (aT @List.map_cons.{0,0} (aT @List.map_nil.{0,0} (aT @List.map_set.{0,0} (aT @List.map_take.{0,0} (aT @List.map_drop.{0,0} (aT @List.map_replicate.{0,0} (aT @List.length_append.{0} (aT @List.length_cons.{0} (aT @List.length_nil.{0} (aT @List.length_map.{0,0} (aT @List.length_set.{0} (aT @List.length_replicate.{0} (aT @Nat.zero_add (aT @Nat.add_zero (aT @List.nil_append.{0} (aT @List.cons_append.{0} (aT @List.append_nil.{0} (aT @take_len (aT @EN (aT @EO (aT @and_self (aT @xW.eq_1 (aT @xW.eq_2 (aT @NT.eq_1 (aT @NT.eq_2 (aT @NT.eq_3 (aT @JE.eq_1 (aT @Au.eq_1 (aT @Au.eq_2 (aT @qW.ok.eq_1 (aT @qW.ok.eq_2 (aT @qW.val.eq_1 (aT @qW.val.eq_2 (aT @NP.eq_1 (aT @NP.eq_2 (aT @uj.eq_1 (aT @uj.eq_2 (aT @partOf.eq_1 (aT @partOf.eq_2 (aT @partOf.eq_3 (aT @BV (aT @xG (aT @FQ (aT @g_v (aT @x_v (aT @AV.flat.eq_1 (aT @AV.flat.eq_2 (aT @tJ.eq_1 (aT @tJ.eq_2 (aT @tJ.eq_3 (aT @tJ.eq_4 (aT @dV.eq_1 (aT @dV.eq_2 (aT @dV.eq_3 (aT @dV.eq_4 (aT @dC.eq_1 (aT @dC.eq_2 (aT @dC.eq_3 (aT @dC.eq_4 (aT @dCs.eq_1 (aT @dCs.eq_2 (aT @dCs.eq_3 (aT @dPs.eq_1 (aT @dPs.eq_2 (aT @dPs.eq_3 (aT @List.take_succ_cons.{0} (aT @List.take_zero.{0} (aT @List.drop_zero.{0} (aT @List.drop_succ_cons.{0} (aT @List.getElem?_cons_zero.{0} (aT @List.getElem?_cons_succ.{0} (aT @FR.ok.eq_1 @zl))))))))))))))))))))))))))))))))))))))))))))))))))))))))))))))))))))))))))))))))))))))))))))))))))))))))))))))))))))))))))
theorem rwR : type_of% rwD:=rwD
def lnD :=aT @xZ.eq_1 (aT @xZ.eq_2 (aT @xZ.eq_3 (aT @zD.eq_1 (aT @zD.eq_2 (aT @zD.eq_3 (aT @tY.eq_1 (aT @tY.eq_2 (aT @tY.eq_3 (aT @tu.eq_1 (aT @tu.eq_2 (aT @tu.eq_3 (aT @xG (aT @l9.eq_1 (aT @l9.eq_2 (aT @Box.arr.eq_1 (aT @Box.arr.eq_2 (aT @Box.arr.eq_3 (aT @AV.cells.eq_1 (aT @AV.cells.eq_2 (aT @AV.cells.eq_3 (aT @List.map_cons.{0,0} (aT @List.map_nil.{0,0} (aT @List.length_map.{0,0} (aT @List.length_append.{0} (aT @List.length_cons.{0} (aT @List.length_nil.{0} (aT @List.length_replicate.{0} (aT @List.length_set.{0} (aT @take_len (aT @EN (aT @EO (aT @true_and (aT @and_true (aT @and_self (aT @Nat.le_refl (aT @Nat.zero_add (aT @Nat.add_zero (aT @pX.eq_1 (aT @oV.eq_1 (aT @Dk.eq_1 (aT @vSl.eq_1 (aT @cI.eq_1 (aT @cU.eq_1 (aT @cB.eq_1 (aT @cS.eq_1 (aT @cL.eq_1 (aT @cK.eq_1 (aT @List.map_append.{0,0} (aT @List.cons_append.{0} (aT @List.nil_append.{0} (aT @aN.iO (aT @bI.iO (aT @gQ.iO (aT @jc.iO @bI.Fb))))))))))))))))))))))))))))))))))))))))))))))))))))))
theorem lnR : type_of% lnD:=lnD
def ggD :=aT @TC.eq_1 (aT @TC.eq_2 (aT @SH.eq_1 (aT @SH.eq_2 (aT @xG (aT @l9.eq_1 (aT @l9.eq_2 (aT @yc.eq_1 (aT @yc.eq_2 (aT @List.getD_cons_zero.{0} (aT @List.getD_cons_succ.{0} (aT @List.cons_append.{0} (aT @List.nil_append.{0} (aT @List.append_nil.{0} (aT @List.map_cons.{0,0} (aT @List.map_nil.{0,0} (aT @List.map_append.{0,0} (aT @List.map_set.{0,0} (aT @List.length_append.{0} (aT @List.length_cons.{0} (aT @List.length_nil.{0} (aT @List.length_map.{0,0} (aT @List.length_set.{0} (aT @List.length_replicate.{0} (aT @List.replicate_zero.{0} (aT @List.replicate_succ.{0} (aT @List.map_replicate.{0,0} (aT @Nat.zero_add (aT @Nat.add_zero (aT @zi.eq_1 (aT @zi.eq_2 (aT @zi.eq_3 (aT @and_self (aT @and_true (aT @true_and (aT @cI.eq_1 (aT @cU.eq_1 (aT @cB.eq_1 (aT @cS.eq_1 (aT @cL.eq_1 (aT @cK.eq_1 (aT @aN.iO (aT @bI.iO (aT @gQ.iO (aT @jc.iO @bI.Fb))))))))))))))))))))))))))))))))))))))))))))
theorem ggR : type_of% ggD:=ggD
def ghD :=aT @TC.eq_1 (aT @TC.eq_2 (aT @SH.eq_1 (aT @SH.eq_2 (aT @xG (aT @l9.eq_1 (aT @l9.eq_2 (aT @yc.eq_1 (aT @yc.eq_2 (aT @List.getD_cons_zero.{0} (aT @List.getD_cons_succ.{0} (aT @List.cons_append.{0} (aT @List.nil_append.{0} (aT @List.append_nil.{0} (aT @List.map_cons.{0,0} (aT @List.map_nil.{0,0} (aT @List.map_append.{0,0} (aT @List.map_set.{0,0} (aT @List.length_append.{0} (aT @List.length_cons.{0} (aT @List.length_nil.{0} (aT @List.length_map.{0,0} (aT @List.length_set.{0} (aT @List.length_replicate.{0} (aT @List.replicate_zero.{0} (aT @List.replicate_succ.{0} (aT @List.map_replicate.{0,0} (aT @Nat.zero_add (aT @Nat.add_zero (aT @zi.eq_1 (aT @zi.eq_2 (aT @zi.eq_3 (aT @and_self (aT @and_true (aT @true_and (aT @cI.eq_1 (aT @cU.eq_1 (aT @cB.eq_1 (aT @cS.eq_1 (aT @cL.eq_1 (aT @cK.eq_1 (aT @aN.iO (aT @bI.iO (aT @gQ.iO (aT @jc.iO (aT @bI.Fb (aT @WZ (aT @LG.eq_1 (aT @LG.eq_2 (aT @Bq.eq_1 (aT @Bq.eq_2 (aT @List.flatMap_cons.{0,0} (aT @List.flatMap_nil.{0,0} (aT @AV.owns.eq_1 (aT @AV.owns.eq_2 (aT @AV.owns.eq_3 (aT @kL.eq_1 (aT @kL.eq_2 (aT @kL.eq_3 (aT @List.contains_cons.{0} (aT @List.contains_nil.{0} (aT @Bool.or_false (aT @Bool.or_true (aT @Bool.false_or (aT @if_true.{1} (aT @if_false.{1} (aT @Bool.false_eq_true (aT @xZ.eq_1 (aT @xZ.eq_2 (aT @xZ.eq_3 (aT @zD.eq_1 (aT @zD.eq_2 (aT @zD.eq_3 (aT @tY.eq_1 (aT @tY.eq_2 (aT @tY.eq_3 (aT @tu.eq_1 (aT @tu.eq_2 (aT @tu.eq_3 (aT @Box.arr.eq_1 (aT @Box.arr.eq_2 (aT @Box.arr.eq_3 (aT @AV.cells.eq_1 (aT @AV.cells.eq_2 (aT @AV.cells.eq_3 (aT @Nat.le_refl (aT @take_len (aT @EN (aT @EO (aT @pX.eq_1 (aT @oV.eq_1 (aT @Dk.eq_1 @vSl.eq_1)))))))))))))))))))))))))))))))))))))))))))))))))))))))))))))))))))))))))))))))))))))))))))
theorem ghR : type_of% ghD:=ghD
end
section
abbrev zN : List AC:=[.c (.lit (.int .i64 0)),.c (.lit (.int .i64 0)),.c (.str []),.wC 1,.wC 5]
abbrev wI (z:Int):AC:=.c (.lit (.int .i64 z))
abbrev wS (s:jE):AC:=.c (.str s)
abbrev wT (l:List jE):AC:=.c (.sl 1 (List.map cS l))
abbrev wK (l:List aN):AC:=.c (.sl 5 (List.map aN.cells l))
abbrev wN (x:aN):List AC:=[wI x.fZ,wI x.xu,wS x.nJ,wT x.dQ,wK x.bQ]
abbrev wB (b:Bool):AC:=.c (.lit (.bool b))
abbrev oI (z:Int):AV:=.one (wI z)
abbrev oS (s:jE):AV:=.one (wS s)
abbrev oT (l:List jE):AV:=.one (wT l)
abbrev oB (b:Bool):AV:=.one (wB b)
abbrev eP (a b:Nat):Nat×Slot:=(a,.v true (.one (.ptr b 0)))
abbrev eI (a:Nat)(z:Int):Nat×Slot:=(a,.v true (.one (wI z)))
abbrev eS (a:Nat)(z:jE):Nat×Slot:=(a,.v true (.one (wS z)))
abbrev eT (a:Nat)(z:List jE):Nat×Slot:=(a,.v true (.one (wT z)))
abbrev eB (a:Nat)(z:Bool):Nat×Slot:=(a,.v true (.one (wB z)))
abbrev w7 (l:List jc):AC:=.c (.sl 7 (List.map jc.cells l))
abbrev wM (x:jc):List AC:=[wS x.lg,wI x.nZ,wI x.qy.fZ,wI x.qy.xu,wS x.qy.nJ,wT x.qy.dQ,wK x.qy.bQ]
abbrev wU (x:gQ):List AC:=[w7 x.dG,wI x.pW]
abbrev wE (x:bI):List AC:=[wI x.uC.fZ,wI x.uC.xu,wS x.uC.nJ,wT x.uC.dQ,wK x.uC.bQ,wS x.lg]
def pp {α:Sort _}{β:Sort _}(a:α)(b:β):PProd α β:=⟨a,b⟩
abbrev Ad :=pp () <|pp () <|pp () <|pp () <|pp () <|pp () <|()
abbrev yT {A:Sort _}{B:Sort _}{C:Sort _}(a:A)(b:B)(c:C):=pp () <|pp () <|pp a <|pp () <|pp b <|pp c <|()
abbrev ny {A:Sort _}(a:A):=pp a <|pp () <|pp () <|pp () <|pp () <|pp () <|()
abbrev Pe {A:Sort _}{B:Sort _}{C:Sort _}{D:Sort _}(a:A)(b:B)(c:C)(d:D):=pp a <|pp () <|pp () <|pp b <|pp c <|pp d <|()
abbrev jW {A:Sort _}{B:Sort _}{C:Sort _}{D:Sort _}(a:A)(b:B)(c:C)(d:D):=pp a <|pp () <|pp b <|pp () <|pp c <|pp d <|()
abbrev Pg {A:Sort _}{B:Sort _}{C:Sort _}{D:Sort _}{E:Sort _}(a:A)(b:B)(c:C)(d:D)(e:E):=pp a <|pp () <|pp b <|pp c <|pp d <|pp e <|()
abbrev Zi {A:Sort _}{B:Sort _}{C:Sort _}{D:Sort _}{E:Sort _}(a:A)(b:B)(c:C)(d:D)(e:E):=pp a <|pp b <|pp c <|pp () <|pp d <|pp e <|()
theorem ihL {n:Nat}{A B:Nat->Prop}(h:∀m,m<n->A m/\B m):∀m,m<n->A m:=λm hm=>(h m hm).1
theorem ihR {n:Nat}{A B:Nat->Prop}(h:∀m,m<n->A m/\B m):∀m,m<n->B m:=λm hm=>(h m hm).2
theorem kS (zs:List Nat)(pi:List (Nat×Nat))(vs:List Nat){m:Nat}{ts0 ts:List (Nat×Slot)}{BL bs:List (Nat×Box)}(hk:IU m BL bs pi vs=true)
 (hb:Nu zs (l9 BL) (ND pi) vs bs) (ht:TT zs (l9 BL) (ND pi) vs ts0 ts):ER m (eH.of ts0 BL) (eH.of ts bs):=adA zs pi vs hk hb ht
theorem ah3 (zs:List Nat)(pi:List (Nat×Nat))(vs:List Nat){rs:List qW}{ts:List (Nat×Slot)}{BL:List (Nat×Box)}{m:Nat}{r:AV}{bs:List Box}(hk:IU m BL (xW bs 0) pi vs=true)
 (hok:Au (eH.of ts BL) rs) (hb:Nu zs (l9 BL) (ND pi) vs (xW bs 0)) (hv:Xu zs (l9 BL) (ND pi) vs (NP (eH.of ts BL) rs) r) :
 BF rs m (λr1 b1=>r1=r/\b1=bs) (eH.of ts BL):=ae7 zs pi vs hk hok hb hv
section
variable {P:Program} {f:FuncId} {pz:List AV} {d:Option Nat} {st:eH} {K:List Nat->List Nat->eH->Prop} {du:DU K} {Q:AQ}
theorem cG (sg nu:List Nat){P:Program}{f:FuncId}{pz:List AV}{d:Option Nat}{st:eH}{K:List Nat->List Nat->eH->Prop}{du:DU K}{ds:List AV}{fp BL:List Box}{r0:AV}(h:xm P f ds fp (λr bs=>r=r0/\bs=BL))(hl:sg.length=fp.length)(hn:nodupB (sg++nu)=true)(hf:TC st (sg++nu) fp 0)(hv:SH st nu)
 (hra:(ds.all λx=>x.all (AC.qG fp.length))=true) (hrf:fp.all (Box.qG fp.length)=true) (ha:pz=ds.map (zi λb=>(sg++nu).getD b 0)) (hb:BL.length=(sg++nu).length)
 (k:K (sg++nu) (sg++nu) ((st.mW ((sg++nu).zip (BL.map (yc λb=>(sg++nu).getD b 0)))).uh d (.v true (zi (λb=>(sg++nu).getD b 0) r0)))):pM P f pz true d st K du:=afT sg nu h hl hn hf hv hra hrf ha hb k
theorem acJ (X:Type)(R:Type)(g:Nat->X->Option R)(r:R)(S:X->eH)(N:Nat){P:Program}{st:eH}{Q:AQ}{a b:eG}{d1:DU (wpC P a)}{d2:DU (wpC P b)}{d3:DU Q}
 (h1:vU P a (oO.then (λst'=>∃x m,(g m x=some r/\m<=N)/\ER 10 st' (S x)) Q) st .mk .mk) (h2:∀n x,n<=N->g n x=some r->vU P b Q (S x) .mk .mk):Gi (wpC P a) (wpC P b) Q st d1 d2 d3:=by
 refine ahl (X:=X×Nat) (λp=>g p.2 p.1=some r/\p.2<=N) (λp=>S p.1) (wpC_mono (λe st h=>?_) h1) (λp hp=>h2 p.2 p.1 hp.2 hp.1);cases e with
 |normal=>obtain⟨x,m,h,hw⟩:=h;exact⟨(x,m),h,hw⟩
 |_=>exact h
theorem uB (X:Type)(R:Type)(g:Nat->X->Option R)(r:R)(S:X->eH)(N:Nat){P:Program}{st:eH}{Q:AQ}{a:eG}{d1:DU (wpC P a)}{d2:DU Q}(h0:∃x m,(g m x=some r/\m<=N)/\ER 10 st (S x))
 (h:∀n x,n<=N->g n x=some r->vU P a (oO.then (λst'=>∃x' m,(g m x'=some r/\m<=N/\m<n)/\ER 10 st' (S x')) Q) (S x) .mk .mk):Cm (wpC P a) Q st d1 d2:=by
 obtain⟨x,m,h0,hw⟩:=h0;refine agw (X:=X×Nat) (λp=>g p.2 p.1=some r/\p.2<=N) (λp=>S p.1) (λp=>p.2) (x,m) h0 hw (λp hp=>wpC_mono (λe st h=>?_) (h p.2 p.1 hp.2 hp.1));cases e with
 |normal=>obtain⟨x,m,h,hw⟩:=h;exact⟨(x,m),⟨⟨h.1,h.2.1⟩,h.2.2⟩,hw⟩
 |_=>exact h
end
theorem Ig {p:Prop}(x:p:=by simp -dsimp only[wkR,Zo,F8,reduceIte,Nat.reduceEqDiff,reduceCtorEq]<;>simp[List.take_of_length_le]<;>fail):p:=x
theorem tPE {p:Prop}(x:p:=by(simp -dsimp only[peR,reduceIte,Nat.reduceEqDiff,Nat.reduceAdd,Nat.reduceLeDiff,reduceCtorEq]<;>first|(simp[List.take_of_length_le];done)|((try simp only[List.map_take,List.map_drop,List.map_append,List.map_cons,List.map_nil])<;>(repeat' apply And.intro)<;>first|rfl|(simp;done)|(simp<;>omega;done)|(congr 1;exact(List.take_of_length_le (by simp<;>omega)).symm)))):p:=x
theorem tRE {p:Prop}(x:p:=by(simp -dsimp only[rwR,Zo,F8,reduceIte,Nat.reduceEqDiff,reduceCtorEq,Nat.reduceAdd,Nat.reduceLeDiff]<;>first|(simp[List.take_of_length_le];done)|((try simp only[List.map_take,List.map_drop,List.map_append,List.map_cons,List.map_nil])<;>(repeat' apply And.intro)<;>first|rfl|(simp;done)|(simp<;>omega;done)|(congr 1;exact(List.take_of_length_le (by simp<;>omega)).symm)))):p:=x
theorem tLN {p:Prop}(x:p:=by(simp only[lnR,reduceIte,Nat.reduceEqDiff]<;>omega)):p:=x
theorem tGG {p:Prop}(x:p:=by(simp only[ggR,EW,reduceIte,Nat.reduceEqDiff,Nat.reduceLeDiff,Nat.reduceAdd]<;>omega)):p:=x
theorem tGR {p:Prop}(x:p:=by first|rfl|(simp only[ggR,EW,reduceIte,Nat.reduceEqDiff,Nat.reduceLeDiff,Nat.reduceAdd]<;>omega)):p:=x
theorem tGH {p:Prop}(x:p:=by(simp only[ghR,EW,reduceIte,Nat.reduceEqDiff,Nat.reduceLeDiff,Nat.reduceAdd,Nat.reduceBEq]<;>omega)):p:=x
theorem VO {p:Prop}(x:p:=by((try simp only[Prod.exists]);(first|refine⟨_,_,⟨h,?_⟩,?_⟩|refine⟨_,_,_,⟨h,?_⟩,?_⟩|refine⟨_,_,_,_,⟨h,?_⟩,?_⟩|refine⟨_,_,_,_,_,⟨h,?_⟩,?_⟩|refine⟨_,_,_,_,_,_,⟨h,?_⟩,?_⟩|refine⟨_,_,_,_,_,_,_,⟨h,?_⟩,?_⟩|refine⟨_,_,_,_,_,_,_,_,⟨h,?_⟩,?_⟩|refine⟨_,_,_,_,_,_,_,_,_,⟨h,?_⟩,?_⟩|refine⟨_,_,_,_,_,_,_,_,_,_,⟨h,?_⟩,?_⟩|refine⟨_,_,_,_,_,_,_,_,_,_,_,⟨h,?_⟩,?_⟩|refine⟨_,_,_,_,_,_,_,_,_,_,_,_,⟨h,?_⟩,?_⟩|refine⟨_,_,_,_,_,_,_,_,_,_,_,_,_,⟨h,?_⟩,?_⟩|refine⟨_,_,_,_,_,_,_,_,_,_,_,_,_,_,⟨h,?_⟩,?_⟩|refine⟨_,_,_,_,_,_,_,_,_,_,_,_,_,_,_,⟨h,?_⟩,?_⟩|refine⟨_,_,_,_,_,_,_,_,_,_,_,_,_,_,_,_,⟨h,?_⟩,?_⟩|refine⟨_,_,_,_,_,_,_,_,_,_,_,_,_,_,_,_,_,⟨h,?_⟩,?_⟩|refine⟨_,_,_,_,_,_,_,_,_,_,_,_,_,_,_,_,_,_,⟨h,?_⟩,?_⟩|refine⟨_,_,_,_,_,_,_,_,_,_,_,_,_,_,_,_,_,_,_,⟨h,?_⟩,?_⟩|refine⟨_,_,_,_,_,_,_,_,_,_,_,_,_,_,_,_,_,_,_,_,⟨h,?_⟩,?_⟩|refine⟨_,_,_,_,_,_,_,_,_,_,_,_,_,_,_,_,_,_,_,_,_,⟨h,?_⟩,?_⟩|refine⟨_,_,_,_,_,_,_,_,_,_,_,_,_,_,_,_,_,_,_,_,_,_,⟨h,?_⟩,?_⟩|refine⟨_,_,_,_,_,_,_,_,_,_,_,_,_,_,_,_,_,_,_,_,_,_,_,⟨h,?_⟩,?_⟩|refine⟨_,_,_,_,_,_,_,_,_,_,_,_,_,_,_,_,_,_,_,_,_,_,_,_,⟨h,?_⟩,?_⟩|refine⟨(),_,⟨h,?_⟩,?_⟩);(focus omega);first|exact zj.1 (by rfl) Ig Ig|exact zj.2.1 (by rfl) Ig Ig|exact zj.2.2.1 (by rfl) Ig Ig|exact zj.2.2.2.1 (by rfl) Ig Ig|exact zj.2.2.2.2.1 (by rfl) Ig Ig|exact zj.2.2.2.2.2.1 (by rfl) Ig Ig|exact zj.2.2.2.2.2.2.1 (by rfl) Ig Ig|exact zj.2.2.2.2.2.2.2.1 (by rfl) Ig Ig|exact zj.2.2.2.2.2.2.2.2.1 (by rfl) Ig Ig|exact zj.2.2.2.2.2.2.2.2.2.1 (by rfl) Ig Ig|exact zj.2.2.2.2.2.2.2.2.2.2.1 (by rfl) Ig Ig|exact zj.2.2.2.2.2.2.2.2.2.2.2.1 (by rfl) Ig Ig|exact zj.2.2.2.2.2.2.2.2.2.2.2.2.1 (by rfl) Ig Ig|exact zj.2.2.2.2.2.2.2.2.2.2.2.2.2.1 (by rfl) Ig Ig)):p:=x
theorem wG {p:Prop}(x:p:=by
 obtain⟨zc,zg,zk,zu,ze,zj,zt⟩:=z
 try simp only[oI,oS,oT,oB,wE,wU,wM,w7,wN,wI,wS,wT,wK,wB,zN,eP,eI,eS,eT,eB]at zc zk zu zt zj⊢
 repeat' first
 |(clear h;(with_reducible intro n x hn h);rcases n with _|n<;>simp only[ze.1,reduceCtorEq]at h)
 |(simp only[reduceCtorEq]at h;done)
 |((with_reducible replace h:=kq0 h);obtain⟨_,_,h⟩:=h)
 |((with_reducible replace h:=kqn h);obtain⟨_,_,h⟩:=h)
 |((with_reducible replace h:=kq1 h);obtain⟨_,_,h⟩:=h)
 |((with_reducible replace h:=kq h);obtain⟨_,h⟩:=h)
 |((with_reducible replace h:=sq h);subst h;have h:=True.intro)
 | (try simp -dsimp only[egR,kH.kX,kH.f,kH.rd,LP,Az,lvl,vT,reduceIte,Nat.reduceEqDiff,Nat.reduceAdd,Nat.reduceLeDiff,Nat.reduceBEq,reduceCtorEq,Int.reduceBNe,Int.reduceBEq,Int.reduceLT,Int.reduceLE,Int.reduceNeg,Nat.reduceLT,Nb,Int.reduceToNat,EW, *]
    repeat((with_reducible refine And.intro ?_ ?_);focus first|(show x8 _ _ _ _=true;kernel_rfl)|(show yN _ _=true;kernel_rfl)|omega|assumption|(show _<=maxLen;decide))
    first
    |with_reducible refine adI ?_
    |((with_reducible refine ags ?_);with_reducible refine zu.1 n ?_ ?_)
    |((with_reducible refine aeK ?_);first|((with_reducible refine zk.1 n ?_ ?_);(focus exact VO))|((with_reducible refine zk.2.1 n ?_ ?_);(focus exact VO))|((with_reducible refine zk.2.2.1 n ?_ ?_);(focus exact VO))|((with_reducible refine zk.2.2.2.1 n ?_ ?_);(focus exact VO))|((with_reducible refine zk.2.2.2.2.1 n ?_ ?_);(focus exact VO))|((with_reducible refine zk.2.2.2.2.2.1 n ?_ ?_);(focus exact VO)))
    |((with_reducible refine aax ?_);(with_reducible replace h:=bq h);obtain⟨_,hv,h⟩:=h;first|(have zd:=zc;(repeat(first|((first|with_reducible have hc:=zd.1 hv|with_reducible have hc:=zd.1 _ (by omega) hv);(first|refine adH (λ_=>hc) rfl rfl ?_|refine adJ hc rfl rfl ?_|refine afS hc tLN tLN rfl rfl ?_|refine afR hc tLN tLN rfl rfl ?_);clear zd)|with_reducible replace zd:=zd.2));(fail_if_success have zz:=zd))|(have zd:=zg;(repeat(first|((first|with_reducible have hc:=zd.1.1 hv|with_reducible have hc:=zd.1.1 _ (by omega) hv);(first|refine zd.1.2 hc rfl rfl tGG tGG rfl rfl tGR rfl ?_|refine zd.1.2 hc tGH tGH rfl rfl tGH tGH rfl rfl rfl ?_);clear zd)|with_reducible replace zd:=zd.2));(fail_if_success have zz:=zd)))
    |((with_reducible replace h:=cq h);rcases h with⟨c,h⟩|⟨c,h⟩<;>try(simp only[*,Bool.false_eq_true,reduceCtorEq]at c;done))
    |((with_reducible refine ahU ?_);exact VO)
    |((with_reducible refine agt ?_);exact tPE)
    |((with_reducible refine adU ?_);have zd:=zt;(repeat(first|exact zd.1 (by rfl) tRE tRE tRE|with_reducible replace zd:=zd.2))<;>fail)
    |(cases h;done))):p:=x
end
abbrev zA (d:Nat)(x:kH):iR:=⟨none,some d,.op x⟩
abbrev zM (d s:Nat):iR:=⟨none,some d,.op (.mv (.t s))⟩
abbrev zS (x:kH):iR:=⟨none,none,.op x⟩
abbrev zG (g:Nat)(b:Bool)(d:Nat)(x:kH):iR:=⟨some (g,b),some d,.op x⟩
noncomputable abbrev pZ : Program:=Go.Proofs.Tryz.prog
abbrev kI (n:Int):jR:=.k (.c (.lit (.int .i64 n)))
abbrev kB (b:Bool):jR:=.k (.c (.lit (.bool b)))
abbrev JX (n:Int):AC:=.c (.lit (.int .i64 n))
abbrev qF (d k a:Nat):iR:=zA d (.load false k (.t a))
abbrev qT (d k a:Nat):iR:=zA d (.load true k (.t a))
abbrev qS (k a b:Nat):iR:=zS (.store true k (.t a) (.t b))
abbrev qU (k a b:Nat):iR:=zS (.store false k (.t a) (.t b))
abbrev qA (d k a:Nat):iR:=zA d (.lS k (.t a))
abbrev qX (d k a:Nat):iR:=zA d (.box k (.t a))
abbrev qB (d:Nat)(b:Bool):iR:=zA d (.mv (kB b))
abbrev qI (d:Nat)(n:Int):iR:=zA d (.mv (kI n))
abbrev qL (d a:Nat):iR:=zA d (.len (.t a))
abbrev qO (d a:Nat):iR:=zA d (.not (.t a))
abbrev qE (d a k:Nat):iR:=zA d (.extract (.t a) k)
abbrev qP (d a b:Nat):iR:=zA d (.pick (.t a) (.t b) (kB false))
abbrev qQ (d a b:Nat):iR:=zA d (.pick (.t a) (kB true) (.t b))
abbrev qD (d k a b:Nat):iR:=zA d (.uP k (.t a) (.t b))
abbrev qZ (d k:Nat):iR:=zA d (.alloc k zN)
abbrev q1 (d f a:Nat):iR:=⟨none,some d,.call f [.t a]⟩
abbrev q2 (d f a b:Nat):iR:=⟨none,some d,.call f [.t a,.t b]⟩
abbrev q3 (d f a b c:Nat):iR:=⟨none,some d,.call f [.t a,.t b,.t c]⟩
abbrev qb (d:Nat)(o:BinOp)(a b:Nat):iR:=zA d (.bin o (.t a) (.t b))
abbrev qk (d:Nat)(o:BinOp)(a:Nat)(n:Int):iR:=zA d (.bin o (.t a) (kI n))
abbrev ql (d a:Nat):iR:=zA d (.lens (.t a))
abbrev qm (g:Nat)(b:Bool)(d a:Nat):iR:=zG g b d (.mv (.t a))
abbrev qc (a:Nat)(x y:eG):eG:=.cond (.t a) x y
abbrev qs (l:List iR)(m:List Nat)(x:eG):eG:=.seq (.reg l m) x
abbrev qr (l:List iR)(m:List Nat):eG:=.seq (.reg l m) .ret
abbrev Uf : List Nat:=[0,1,2,3]
abbrev rr5 : List Nat:=[0,1,2,3,4]
abbrev rr6 : List Nat:=[0,1,2,3,4,5]
abbrev rr7 : List Nat:=[0,1,2,3,4,5,6]
abbrev Zm : List Nat:=[0,1,2,3,4,5,6,7]
abbrev rr9 : List Nat:=[0,1,2,3,4,5,6,7,8]
abbrev JM : List Nat:=[0,1,2,3,4,5,6,7,8,9]
abbrev QB : List Nat:=[0,1,2,3,4,5,6,7,8,9,10]
abbrev abp : List Nat:=[0,1,2,3,4,5,6,7,8,9,10,11]
abbrev agO : List Nat:=[0,1,2,3,4,5,6,7,8,9,10,11,12]
abbrev ae9 : List Nat:=[0,1,2,3,4,5,6,7,8,9,10,11,12,13]
abbrev afa : List Nat:=[0,1,2,3,4,5,6,7,8,9,10,11,12,13,14]
abbrev agP : List Nat:=[0,1,2,3,4,5,6,7,8,9,10,11,12,13,14,15]
abbrev agQ : List Nat:=[0,1,2,3,4,5,6,7,8,9,10,11,12,13,14,15,16]
abbrev agR : List Nat:=[0,1,2,3,4,5,6,7,8,9,10,11,12,13,14,15,16,17]
abbrev afb : List Nat:=[0,1,2,3,4,5,6,7,8,9,10,11,12,13,14,15,16,17,18]
abbrev agS : List Nat:=[0,1,2,3,4,5,6,7,8,9,10,11,12,13,14,15,16,17,18,19]
abbrev agT : List Nat:=[0,1,2,3,4,5,6,7,8,9,10,11,12,13,14,15,16,17,18,19,20]
abbrev afc : List Nat:=[0,1,2,3,4,5,6,7,8,9,10,11,12,13,14,15,16,17,18,19,20,21]
abbrev ah5 : List Nat:=[0,1,2,3,4,5,6,7,8,9,10,11,12,13,14,15,16,17,18,19,20,21,22]
abbrev ah6 : List Nat:=[0,1,2,3,4,5,6,7,8,9,10,11,12,13,14,15,16,17,18,19,20,21,22,23,24,25,26,27,28,29,30]
abbrev ah7 : List Nat:=[0,1,2,3,4,5,6,7,8,9,10,11,12,13,14,15,16,17,18,19,20,21,22,23,24,25,26,27,28,29,30,31]
abbrev ah8 : List Nat:=[0,1,2,3,4,5,6,7,8,9,10,11,12,13,14,15,16,17,18,19,20,21,22,23,24,25,26,27,28,29,30,31,32]
def C.cmp_isNaN_int : eG:=qs [qB 2 false] [0]<|qr [zM 3 0,zM 4 0,qb 5 .neq 3 4,zM 2 5] [2]
theorem K.cmp_isNaN_int : nI pZ 123 1 0 C.cmp_isNaN_int [.tmp 2]=true:=lY
def C.cmp_Compare_int : eG:=qs [qI 4 0] [0,1]<|qs [zM 7 0,q1 8 123 7,zM 5 8] [0,1,5]<|qs [zM 9 1,q1 10 123 9,zM 6 10] [0,1,5,6]<|.seq (qs [zM 11 5] [0,1,6,11]<|qc 11 (.seq (qs [zM 12 6] [12]<|qc 12 (qr [qI 4 0] [4]) .skip)<|qr [qI 4 (-1)] [4]) .skip)<|.seq (qs [zM 13 6] [0,1,13]<|qc 13 (qr [qI 4 1] [4]) .skip)<|.seq (qs [zM 14 0,zM 15 1,qb 16 .lss 14 15] [0,1,16]<|qc 16 (qr [qI 4 (-1)] [4]) .skip)<|.seq (qs [zM 17 0,zM 18 1,qb 19 .gtr 17 18] [19]<|qc 19 (qr [qI 4 1] [4]) .skip)<|qr [qI 4 0] [4]
theorem K.cmp_Compare_int : nI pZ 77 2 0 C.cmp_Compare_int [.tmp 4]=true:=lY
def C.cmp_isNaN_string : eG:=qs [qB 2 false] [0]<|qr [zM 3 0,zM 4 0,qb 5 .neq 3 4,zM 2 5] [2]
theorem K.cmp_isNaN_string : nI pZ 188 1 0 C.cmp_isNaN_string [.tmp 2]=true:=lY
def C.cmp_Less_string : eG:=qs [qB 4 false] [0,1]<|qr [zM 5 0,q1 6 188 5,zM 7 6,qm 7 true 8 1,⟨(some (7,true)),some 9,.call 188 [.t 8]⟩,zG 7 true 10 (.not<|.t 9),qP 11 7 10,zM 12 11,qm 12 false 13 0,qm 12 false 14 1,zG 12 false 15 (.bin .lss (.t 13)<|.t 14),qQ 16 12 15,zM 4 16] [4]
theorem K.cmp_Less_string : nI pZ 165 2 0 C.cmp_Less_string [.tmp 4]=true:=lY
def C.lQ : eG:=qs [qI 2 0] [0]<|qs [qI 3 0] [0,3]<|.seq (qs [zM 6 0,qL 7 6,qI 8 0] [3,6,7,8]<|.block 0<|.loop<|qs [qb 9 .lss 8 7] [3,6,7,8,9]<|.seq (qc 9 .skip<|.exit 0)<|.seq (.block 1<|qs [qD 10 1 6 8,qF 11 1 10,zM 5 11] [3,5,6,7,8]<|qs [zM 12 5,zM 13 3,qb 14 .neq 12 13] [3,5,6,7,8,14]<|qc 14 (qr [zM 15 5,zM 2 15] [2]) .skip)<|.reg [qk 16 .add 8 1,zM 8 16] [3,6,7,8])<|qr [zM 17 3,zM 2 17] [2]
theorem K.lQ : nI pZ 34 1 0 C.lQ [.tmp 2]=true:=lY
def C.fB : eG:=qs [qI 4 0] [0,1]<|qr [zM 5 0,zM 6 1,zA 7 (.XW (.t 5)<|.t 6),zM 4 7] [4]
theorem K.fB : nI pZ 78 2 0 C.fB [.tmp 4]=true:=lY
def C.strings_Compare : eG:=qs [qI 4 0] [0,1]<|qr [zM 5 0,zM 6 1,q2 7 78 5 6,zM 4 7] [4]
theorem K.strings_Compare : nI pZ 36 2 0 C.strings_Compare [.tmp 4]=true:=lY
def C.dD : eG:=qs [qX 2 10 0,qX 3 11 1,qI 4 0] [2,3]<|.seq (qs [qA 11 0 2,qF 12 1 11,qA 13 0 3,qF 14 1 13,q2 15 77 12 14,zM 5 15] [2,3,5]<|qs [zM 16 5,qk 17 .neq 16 0] [2,3,5,17]<|qc 17 (qr [zM 18 5,zM 4 18] [4]) .skip)<|.seq (qs [qA 19 1 2,qF 20 1 19,qA 21 1 3,qF 22 1 21,q2 23 77 20 22,zM 6 23] [2,3,6]<|qs [zM 24 6,qk 25 .neq 24 0] [2,3,6,25]<|qc 25 (qr [zM 26 6,zM 4 26] [4]) .skip)<|.seq (qs [qA 27 2 2,qF 28 1 27,qA 29 2 3,qF 30 1 29,q2 31 36 28 30,zM 7 31] [2,3,7]<|qs [zM 32 7,qk 33 .neq 32 0] [2,3,7,33]<|qc 33 (qr [zM 34 7,zM 4 34] [4]) .skip)<|.seq (qs [qI 8 0] [2,3,8]<|.block 0<|.loop<|.seq (qs [zM 35 8,qA 36 4 2,qF 37 1 36,qL 38 37,qb 39 .lss 35 38,zM 40 39,qm 40 true 41 8,zG 40 true 42 (.lS 4<|.t 3),zG 40 true 43 (.load false 1<|.t 42),zG 40 true 44 (.len<|.t 43),zG 40 true 45 (.bin .lss (.t 41)<|.t 44),qP 46 40 45] [2,3,8,46]<|qc 46 .skip<|.exit 0)<|.seq (.block 1<|.cut (qs [qA 49 0 2,qF 50 1 49,qk 51 .eql 50 4] [2,3,8,51]<|qc 51 (.seq (.wJ [(qA 52 3 2,[]),(qF 53 1 52,[0]),(zM 54 8,[]),(qD 55 1 53 54,[0,1,2]),(qF 56 1 55,Uf),(qA 57 3 3,[]),(qF 58 1 57,[5]),(zM 59 8,[]),(qD 60 1 58 59,[5,6,7]),(qF 61 1 60,[5,6,7,8]),(q2 62 36 56 61,JM),(zM 9 62,QB)] [2,3,8,9])<|qs [zM 63 9,qk 64 .neq 63 0] [2,3,8,9,64]<|qc 64 (qr [zM 65 9,zM 4 65] [4]) .skip) .skip)<|.seq (.wJ [(qA 66 4 2,[]),(qF 67 1 66,[0]),(zM 68 8,[]),(qD 69 5 67 68,[0,1,2]),(qT 70 5 69,Uf),(qA 71 4 3,[]),(qF 72 1 71,[5]),(zM 73 8,[]),(qD 74 5 72 73,[5,6,7]),(qT 75 5 74,[5,6,7,8]),(q2 76 35 70 75,JM),(zM 10 76,QB)] [2,3,8,10])<|qs [zM 77 10,qk 78 .neq 77 0] [2,3,8,10,78]<|qc 78 (qr [zM 79 10,zM 4 79] [4]) .skip)<|.reg [zM 47 8,qk 48 .add 47 1,zM 8 48] [2,3,8])<|qr [qA 80 4 2,qF 81 1 80,qL 82 81,qA 83 4 3,qF 84 1 83,qL 85 84,q2 86 77 82 85,zM 4 86] [4]
theorem K.dD : nI pZ 35 2 0 C.dD [.tmp 4]=true:=lY
def C.iK : eG:=qs [qX 2 10 0,qX 3 11 1,qI 4 0] [2,3]<|.seq (.wJ [(qA 5 0 2,[]),(qT 6 5 5,[0]),(qA 7 0 3,[]),(qT 8 5 7,[2]),(q2 9 35 6 8,Uf),(qA 10 5 2,[]),(qF 11 1 10,[5]),(qA 12 5 3,[]),(qF 13 1 12,[7]),(q2 14 36 11 13,rr9),(zA 15 (.uZ 12 1 2 [.lit (.int .i64 0)] [(0,.t 9),(1,.t 14)]),JM),(q1 16 34 15,QB),(zM 4 16,abp)] [4]) .ret
theorem K.iK : nI pZ 33 2 0 C.iK [.tmp 4]=true:=lY
def C.dH : eG:=qs [qB 2 false] [0]<|.seq (qs [zM 4 0,ql 5 4,qk 6 .gtr 5 12] [0,6]<|qc 6 (qr [qB 2 false] [2]) .skip)<|.seq (qs [qI 3 0] [0,3]<|.block 0<|.loop<|.seq (qs [zM 7 3,zM 8 0,ql 9 8,qb 10 .lss 7 9] [0,3,10]<|qc 10 .skip<|.exit 0)<|.seq (.block 1<|qs [zM 13 0,zM 14 3,zA 15 (.idxs (.t 13)<|.t 14),zA 16 (.bin .lss (.t 15)<|.k<|.c<|.lit<|.int .u8 32),zM 17 16,qm 17 false 18 0,qm 17 false 19 3,zG 17 false 20 (.idxs (.t 18)<|.t 19),zG 17 false 21 (.bin .gtr (.t 20)<|.k<|.c<|.lit<|.int .u8 126),qQ 22 17 21] [0,3,22]<|qc 22 (qr [qB 2 false] [2]) .skip)<|.reg [zM 11 3,qk 12 .add 11 1,zM 3 12] [0,3])<|qr [qB 2 true] [2]
theorem K.dH : nI pZ 73 1 0 C.dH [.tmp 2]=true:=lY
def C.gV : eG:=qs [qB 2 false] [0]<|.seq (qs [zM 5 0,qL 6 5,qk 7 .gtr 6 6] [0,7]<|qc 7 (qr [qB 2 false] [2]) .skip)<|.seq (qs [zM 8 0,qL 9 8,qI 10 0] [0,8,9,10]<|.block 0<|.loop<|qs [qb 11 .lss 10 9] [0,8,9,10,11]<|.seq (qc 11 .skip<|.exit 0)<|.seq (.block 1<|qs [zM 12 10,qD 13 1 8 10,qF 14 1 13,zM 3 12,zM 4 14] [0,3,4,8,9,10]<|qs [zM 15 4,q1 16 73 15,qO 17 16,zM 18 17,qm 18 false 19 3,zG 18 false 20 (.bin .gtr (.t 19)<|kI 0),qm 18 false 21 20,qm 21 true 22 0,qm 21 true 23 3,zG 21 true 24 (.bin .sub (.t 23)<|kI 1),zG 21 true 25 (.uP 1 (.t 22)<|.t 24),zG 21 true 26 (.load false 1<|.t 25),qm 21 true 27 4,zG 21 true 28 (.bin .geq (.t 26)<|.t 27),zG 18 false 29 (.pick (.t 21) (.t 28)<|kB false),qQ 30 18 29] [0,8,9,10,30]<|qc 30 (qr [qB 2 false] [2]) .skip)<|.reg [qk 31 .add 10 1,zM 10 31] [0,8,9,10])<|qr [qB 2 true] [2]
theorem K.gV : nI pZ 187 1 0 C.gV [.tmp 2]=true:=lY
def C.dJ : eG:=qs [qX 1 10 0,qB 2 false] [1]<|.cut (qs [qA 3 0 1,qF 4 1 3,qk 5 .neq 4 1,zM 6 5,zG 6 true 7 (.lS 1<|.t 1),zG 6 true 8 (.load false 1<|.t 7),zG 6 true 9 (.bin .neq (.t 8)<|kI 0),qP 10 6 9,zM 11 10,zG 11 false 12 (.lS 0<|.t 1),zG 11 false 13 (.load false 1<|.t 12),zG 11 false 14 (.bin .neq (.t 13)<|kI 2),qm 11 false 15 14,zG 15 true 16 (.lS 2<|.t 1),zG 15 true 17 (.load false 1<|.t 16),zG 15 true 18 (.bin .neq (.t 17)<|.k<|.c<|.str []),zG 11 false 19 (.pick (.t 15) (.t 18)<|kB false),qQ 20 11 19] [1,20]<|qc 20 (qr [qB 2 false] [2]) .skip)<|.seq (qs [qA 21 0 1,qF 22 1 21,qk 23 .neq 22 4,zM 24 23,zG 24 true 25 (.lS 3<|.t 1),zG 24 true 26 (.load false 1<|.t 25),zG 24 true 27 (.len<|.t 26),zG 24 true 28 (.bin .gtr (.t 27)<|kI 0),qP 29 24 28] [1,29]<|qc 29 (qr [qB 2 false] [2]) .skip)<|.seq (qs [qA 30 0 1,qF 31 1 30] [1,31]<|.block 0<|qs [qk 33 .eql 31 0,zM 32 33] [1,31,32]<|qc 32 (qr [qA 34 4 1,qF 35 1 34,qL 36 35,qk 37 .eql 36 0,zM 2 37] [2])<|qs [qk 39 .eql 31 1,zM 38 39] [1,31,38]<|qc 38 (qr [qA 40 1 1,qF 41 1 40,qk 42 .geq 41 (-999999),zM 43 42,zG 43 true 44 (.lS 1<|.t 1),zG 43 true 45 (.load false 1<|.t 44),zG 43 true 46 (.bin .leq (.t 45)<|kI 999999),qP 47 43 46,zM 48 47,zG 48 true 49 (.lS 4<|.t 1),zG 48 true 50 (.load false 1<|.t 49),zG 48 true 51 (.len<|.t 50),zG 48 true 52 (.bin .eql (.t 51)<|kI 0),qP 53 48 52,zM 2 53] [2])<|qs [qk 55 .eql 31 2,zM 54 55] [1,31,54]<|qc 54 (qr [qA 56 2 1,qF 57 1 56,q1 58 73 57,zM 59 58,zG 59 true 60 (.lS 4<|.t 1),zG 59 true 61 (.load false 1<|.t 60),zG 59 true 62 (.len<|.t 61),zG 59 true 63 (.bin .eql (.t 62)<|kI 0),qP 64 59 63,zM 2 64] [2])<|qs [qk 66 .eql 31 3,zM 65 66] [1,31,65]<|qc 65 (qr [qA 67 4 1,qF 68 1 67,qL 69 68,qk 70 .leq 69 6,zM 2 70] [2])<|qs [qk 72 .eql 31 4,zM 71 72] [1,71]<|qc 71 (qr [qA 73 3 1,qF 74 1 73,q1 75 187 74,zM 76 75,zG 76 true 77 (.lS 4<|.t 1),zG 76 true 78 (.load false 1<|.t 77),zG 76 true 79 (.len<|.t 78),zG 76 true 80 (.lS 3<|.t 1),zG 76 true 81 (.load false 1<|.t 80),zG 76 true 82 (.len<|.t 81),zG 76 true 83 (.bin .eql (.t 79)<|.t 82),qP 84 76 83,zM 2 84] [2]) .skip)<|qr [qB 2 false] [2]
theorem K.dJ : nI pZ 164 1 0 C.dJ [.tmp 2]=true:=lY
def C.dw : eG:=qs [qX 2 10 0,qI 4 0,qI 5 0,qB 6 false] [1,2]<|.seq (qs [zM 12 1,qk 13 .gtr 12 5,zM 14 13,zG 14 false 15 (.load true 5<|.t 2),⟨(some (14,false)),some 16,.call 164 [.t 15]⟩,zG 14 false 17 (.not<|.t 16),qQ 18 14 17] [1,2,18]<|qc 18 (qr [qI 4 0,qI 5 0,qB 6 false] [4,5,6]) .skip)<|qs [qI 4 1,qI 5 1] [1,2,4,5]<|.seq (qs [qA 19 4 2,qF 20 1 19,qL 21 20,qI 22 0] [1,4,5,20,21,22]<|.block 0<|.loop<|qs [qb 23 .lss 22 21] [1,4,5,20,21,22,23]<|.seq (qc 23 .skip<|.exit 0)<|.seq (.block 1<|qs [qD 24 5 20 22,qT 25 5 24,qZ 8 11,qS 5 8 25] [1,4,5,8,20,21,22]<|qs [qT 27 5 8,zM 28 1,qk 29 .add 28 1,q2 30 110 27 29,zM 26 30,qE 31 26 0,qE 32 26 1,qE 33 26 2,zM 9 31,zM 10 32,zM 11 33] [1,4,5,9,10,11,20,21,22]<|.seq (qs [zM 34 11,qO 35 34] [1,4,5,9,10,20,21,22,35]<|qc 35 (qr [qI 4 0,qI 5 0,qB 6 false] [4,5,6]) .skip)<|qs [zM 36 4,zM 37 9,qb 38 .add 36 37,zM 4 38] [1,4,5,10,20,21,22]<|.reg [zM 39 5,zM 40 10,qk 41 .add 40 1,zA 42 (.max (.t 39)<|.t 41),zM 5 42] [1,4,5,20,21,22])<|.reg [qk 43 .add 22 1,zM 22 43] [1,4,5,20,21,22])<|qr [zM 44 4,zM 45 5,zM 4 44,zM 5 45,qB 6 true] [4,5,6]
theorem K.dw : nI pZ 110 2 0 C.dw [.tmp 4,.tmp 5,.tmp 6]=true:=lY
def C.kE : eG:=qs [qX 1 10 0,qB 2 false] [1]<|qs [qT 7 5 1,⟨none,some 8,.call 110 [.t 7,kI 1]⟩,zM 6 8,qE 9 6 0,qE 10 6 1,qE 11 6 2,zM 3 9,zM 4 10,zM 5 11] [3,5]<|qr [zM 12 5,zM 13 12,qm 13 true 14 3,zG 13 true 15 (.bin .leq (.t 14)<|kI 40),qP 16 13 15,zM 2 16] [2]
theorem K.kE : nI pZ 72 1 0 C.kE [.tmp 2]=true:=lY
def C.iW : eG:=qs [qB 2 false] [0]<|.seq (qs [zM 4 0,zA 5 (.bin .eql (.t 4)<|.k<|.c<|.str []),zM 6 5,qm 6 false 7 0,zG 6 false 8 (.lens<|.t 7),zG 6 false 9 (.bin .gtr (.t 8)<|kI 8),qQ 10 6 9] [0,10]<|qc 10 (qr [qB 2 false] [2]) .skip)<|.seq (qs [qI 3 0] [0,3]<|.block 0<|.loop<|.seq (qs [zM 11 3,zM 12 0,ql 13 12,qb 14 .lss 11 13] [0,3,14]<|qc 14 .skip<|.exit 0)<|.seq (.block 1<|qs [zM 17 0,zM 18 3,zA 19 (.idxs (.t 17)<|.t 18),zA 20 (.bin .lss (.t 19)<|.k<|.c<|.lit<|.int .u8 97),zM 21 20,qm 21 false 22 0,qm 21 false 23 3,zG 21 false 24 (.idxs (.t 22)<|.t 23),zG 21 false 25 (.bin .gtr (.t 24)<|.k<|.c<|.lit<|.int .u8 122),qQ 26 21 25,zM 27 26,qm 27 true 28 0,qm 27 true 29 3,zG 27 true 30 (.idxs (.t 28)<|.t 29),zG 27 true 31 (.bin .lss (.t 30)<|.k<|.c<|.lit<|.int .u8 48),qm 27 true 32 31,qm 32 false 33 0,qm 32 false 34 3,zG 32 false 35 (.idxs (.t 33)<|.t 34),zG 32 false 36 (.bin .gtr (.t 35)<|.k<|.c<|.lit<|.int .u8 57),zG 27 true 37 (.pick (.t 32) (kB true)<|.t 36),qP 38 27 37] [0,3,38]<|qc 38 (qr [qB 2 false] [2]) .skip)<|.reg [zM 15 3,qk 16 .add 15 1,zM 3 16] [0,3])<|qr [qB 2 true] [2]
theorem K.iW : nI pZ 71 1 0 C.iW [.tmp 2]=true:=lY
def C.dP : eG:=qs [qX 1 10 0,qB 2 false] [1]<|.seq (qs [qA 5 0 1,qF 6 1 5,qL 7 6,qk 8 .gtr 7 10,zM 9 8,zG 9 false 10 (.lS 1<|.t 1),zG 9 false 11 (.load false 1<|.t 10),zG 9 false 12 (.bin .lss (.t 11)<|kI 0),qQ 13 9 12,zM 14 13,zG 14 false 15 (.lS 1<|.t 1),zG 14 false 16 (.load false 1<|.t 15),zG 14 false 17 (.bin .gtr (.t 16)<|kI 999),qQ 18 14 17] [1,18]<|qc 18 (qr [qB 2 false] [2]) .skip)<|.seq (qs [qA 19 0 1,qF 20 1 19,qL 21 20,qI 22 0] [1,20,21,22]<|.block 0<|.loop<|qs [qb 23 .lss 22 21] [1,20,21,22,23]<|.seq (qc 23 .skip<|.exit 0)<|.seq (.block 1<|qs [zM 24 22,qD 25 7 20 22,qT 26 7 25,zA 4 (.alloc 11 [.c (.str []),JX 0,JX 0,JX 0,.c (.str []),.wC 1,.wC 5]),zM 3 24,qS 7 4 26] [1,3,4,20,21,22]<|.seq (.seq (.wJ [(qA 27 0 4,[]),(qF 28 1 27,[0]),(q1 29 71 28,[0,1]),(qO 30 29,[0,1,2]),(zM 31 30,Uf),(qm 31 false 32 3,rr5),(zG 31 false 33 (.bin .gtr (.t 32)<|kI 0),rr6),(qm 31 false 34 33,rr7),(zG 34 true 35 (.lS 0<|.t 1),Zm),(zG 34 true 36 (.load false 1<|.t 35),rr9),(qm 34 true 37 3,Zm),(zG 34 true 38 (.bin .sub (.t 37)<|kI 1),[0,1,2,3,4,5,6,7,10]),(zG 34 true 39 (.uP 7 (.t 36)<|.t 38),abp),(zG 34 true 40 (.lS 0<|.t 39),agO),(zG 34 true 41 (.load false 1<|.t 40),ae9),(zG 34 true 42 (.lS 0<|.t 4),Zm),(zG 34 true 43 (.load false 1<|.t 42),[0,1,2,3,4,5,6,7,15]),(zG 34 true 44 (.bin .geq (.t 41)<|.t 43),agQ),(zG 31 false 45 (.pick (.t 34) (.t 44)<|kB false),agR),(qQ 46 31 45,afb)] [1,4,20,21,22,46])<|qc 46 (qr [qB 2 false] [2]) .skip)<|qs [qA 47 1 4,qF 48 1 47,qk 49 .lss 48 1,zM 50 49,zG 50 false 51 (.lS 1<|.t 4),zG 50 false 52 (.load false 1<|.t 51),zG 50 false 53 (.lS 1<|.t 1),zG 50 false 54 (.load false 1<|.t 53),zG 50 false 55 (.bin .gtr (.t 52)<|.t 54),qQ 56 50 55,zM 57 56,zG 57 false 58 (.lS 2<|.t 4),zG 57 false 59 (.load true 5<|.t 58),⟨(some (57,false)),some 60,.call 72 [.t 59]⟩,zG 57 false 61 (.not<|.t 60),qQ 62 57 61] [1,20,21,22,62]<|qc 62 (qr [qB 2 false] [2]) .skip)<|.reg [qk 63 .add 22 1,zM 22 63] [1,20,21,22])<|qr [qB 2 true] [2]
theorem K.dP : nI pZ 28 1 0 C.dP [.tmp 2]=true:=lY
def C.dN : eG:=qs [qX 1 10 0,qZ 2 11] [1,2]<|qs [qA 6 0 1,qF 7 1 6,qA 8 1 1,qF 9 1 8,qA 10 2 1,qF 11 1 10,zA 12 (.build zN [(0,1,.t 7),(1,1,.t 9),(2,1,.t 11)]),qZ 3 12,qS 5 3 12] [1,2,3]<|.cut (qs [qA 13 3 1,qF 14 1 13,qL 15 14,qk 16 .gtr 15 0] [1,2,3,16]<|qc 16 (qs [qA 17 3 1,qF 18 1 17,qL 19 18,zA 20 (.makes 13 1 16 [.str []] (.t 19)<|.t 19),qA 21 3 3,qU 1 21 20] [1,2,3]<|.reg [qA 22 3 3,qF 23 1 22,qA 24 3 1,qF 25 1 24,zA 26 (.copy 1 (.t 23)<|.t 25)] [1,2,3]) .skip)<|.seq (qs [qA 27 4 1,qF 28 1 27,qL 29 28,qk 30 .gtr 29 0] [1,2,3,30]<|qc 30 (qs [qA 31 4 1,qF 32 1 31,qL 33 32,zA 34 (.makes 14 5 80 [.lit (.int .i64 0),.lit (.int .i64 0),.str [],.sl 1 [],.sl 5 []] (.t 33)<|.t 33),qA 35 4 3,qU 1 35 34] [1,2,3]<|qs [qA 36 4 1,qF 37 1 36,qL 38 37,qI 39 0] [2,3,37,38,39]<|.block 0<|.loop<|qs [qb 40 .lss 39 38] [2,3,37,38,39,40]<|.seq (qc 40 .skip<|.exit 0)<|.seq (.block 1<|qs [zM 41 39,qD 42 5 37 39,qT 43 5 42,qZ 5 15,zM 4 41,qS 5 5 43] [2,3,4,5,37,38,39]<|.wJ [(qA 44 4 3,[]),(qF 45 1 44,[0]),(zM 46 4,[]),(qT 47 5 5,[]),(q1 48 31 47,[3]),(qD 49 5 45 46,rr5),(qS 5 49 48,rr6)] [2,3,37,38,39])<|.reg [qk 50 .add 39 1,zM 39 50] [2,3,37,38,39]) .skip)<|qr [qT 51 5 3,qS 5 2 51] [2]
theorem K.dN : nI pZ 31 1 0 C.dN [.cell 2 true 5]=true:=lY
def C.slices_isNaN_string : eG:=qs [qB 2 false] [0]<|qr [zM 3 0,zM 4 0,qb 5 .neq 3 4,zM 2 5] [2]
theorem K.slices_isNaN_string : nI pZ 166 1 0 C.slices_isNaN_string [.tmp 2]=true:=lY
def C.slices_BinarySearch_string : eG:=qs [qI 4 0,qB 5 false] [0,1]<|qs [zM 10 0,qL 11 10,zM 6 11] [0,1,6]<|qs [zM 12 6,qI 7 0,zM 8 12] [0,1,6,7,8]<|.seq (.block 0<|.loop<|.seq (qs [zM 13 7,zM 14 8,qb 15 .lss 13 14] [0,1,6,7,8,15]<|qc 15 .skip<|.exit 0)<|.block 1<|qs [zM 16 7,zM 17 8,qb 18 .add 16 17,zA 19 (.JI .u64<|.t 18),zA 20 (.shf false (.t 19)<|.k<|.c<|.lit<|.int .u64 1),zA 21 (.JI .i64<|.t 20),zM 9 21] [0,1,6,7,8,9]<|qs [zM 22 0,zM 23 9,qD 24 1 22 23,qF 25 1 24,zM 26 1,q2 27 165 25 26] [0,1,6,7,8,9,27]<|qc 27 (.reg [zM 28 9,qk 29 .add 28 1,zM 7 29] [0,1,6,7,8])<|.reg [zM 30 9,zM 8 30] [0,1,6,7,8])<|qr [zM 31 7,zM 32 7,zM 33 6,qb 34 .lss 32 33,zM 35 34,qm 35 true 36 0,qm 35 true 37 7,zG 35 true 38 (.uP 1 (.t 36)<|.t 37),zG 35 true 39 (.load false 1<|.t 38),qm 35 true 40 1,zG 35 true 41 (.bin .eql (.t 39)<|.t 40),qm 35 true 42 41,qm 42 false 43 0,qm 42 false 44 7,zG 42 false 45 (.uP 1 (.t 43)<|.t 44),zG 42 false 46 (.load false 1<|.t 45),⟨(some (42,false)),some 47,.call 166 [.t 46]⟩,qm 42 false 48 47,qm 48 true 49 1,⟨(some (48,true)),some 50,.call 166 [.t 49]⟩,zG 42 false 51 (.pick (.t 48) (.t 50)<|kB false),zG 35 true 52 (.pick (.t 42) (kB true)<|.t 51),qP 53 35 52,zM 4 31,zM 5 53] [4,5]
theorem K.slices_BinarySearch_string : nI pZ 111 2 0 C.slices_BinarySearch_string [.tmp 4,.tmp 5]=true:=lY
def C.gW : eG:=qs [qX 2 10 0,qI 4 0,qB 5 false] [1,2]<|.seq (qs [qA 7 0 2,qF 8 1 7] [1,2,8]<|.block 0<|qs [qk 10 .eql 8 4,zM 9 10] [1,2,8,9]<|qc 9 (qr [qA 11 3 2,qF 12 1 11,zM 13 1,q2 14 111 12 13,qE 15 14 0,qE 16 14 1,zM 4 15,zM 5 16] [4,5])<|qs [qk 18 .eql 8 3,zM 17 18] [1,2,17]<|qc 17 (qs [qA 19 4 2,qF 20 1 19,qL 21 20,qI 22 0] [1,21,22]<|.block 1<|.loop<|qs [qb 23 .lss 22 21] [1,21,22,23]<|.seq (qc 23 .skip<|.exit 1)<|.seq (.block 2<|qs [zM 24 22,zM 6 24] [1,6,21,22]<|qs [zM 25 6,q1 26 112 25,zM 27 1,qb 28 .eql 26 27] [1,6,21,22,28]<|qc 28 (qr [zM 29 6,zM 4 29,qB 5 true] [4,5]) .skip)<|.reg [qk 30 .add 22 1,zM 22 30] [1,21,22]) .skip)<|qr [qI 4 0,qB 5 false] [4,5]
theorem K.gW : nI pZ 74 2 0 C.gW [.tmp 4,.tmp 5]=true:=lY
def C.iI : eG:=qs [qX 2 10 0,qZ 4 11,qB 5 false] [1,2,4]<|.seq (qs [zM 10 1,qL 11 10,qI 12 0] [2,4,10,11,12]<|.block 0<|.loop<|qs [qb 13 .lss 12 11] [2,4,10,11,12,13]<|.seq (qc 13 .skip<|.exit 0)<|.seq (.block 1<|qs [qD 14 1 10 12,qF 15 1 14,zM 7 15] [2,4,7,10,11,12]<|qs [qT 17 5 2,zM 18 7,q2 19 74 17 18,zM 16 19,qE 20 16 0,qE 21 16 1,zM 8 20,zM 9 21] [2,4,8,9,10,11,12]<|.seq (qs [zM 22 9,qO 23 22] [2,4,8,10,11,12,23]<|qc 23 (qr [zA 24 (.build zN []),qS 5 4 24,qB 5 false] [4,5]) .skip)<|.reg [qA 25 4 2,qF 26 1 25,zM 27 8,qD 28 5 26 27,qT 29 5 28,qS 5 2 29] [2,4,10,11,12])<|.reg [qk 30 .add 12 1,zM 12 30] [2,4,10,11,12])<|qr [qT 31 5 2,qS 5 4 31,qB 5 true] [4,5]
theorem K.iI : nI pZ 30 2 0 C.iI [.cell 4 true 5,.tmp 5]=true:=lY
def C.jk : eG:=qs [qB 2 false] [0]<|.seq (qs [zM 5 0,qL 6 5,qk 7 .gtr 6 5] [0,7]<|qc 7 (qr [qB 2 false] [2]) .skip)<|.seq (qs [zM 8 0,qL 9 8,qI 10 0] [8,9,10]<|.block 0<|.loop<|qs [qb 11 .lss 10 9] [8,9,10,11]<|.seq (qc 11 .skip<|.exit 0)<|.seq (.block 1<|qs [qD 12 1 8 10,qF 13 1 12,zM 4 13] [4,8,9,10]<|qs [zM 14 4,q1 15 73 14,qO 16 15] [8,9,10,16]<|qc 16 (qr [qB 2 false] [2]) .skip)<|.reg [qk 17 .add 10 1,zM 10 17] [8,9,10])<|qr [qB 2 true] [2]
theorem K.jk : nI pZ 29 1 0 C.jk [.tmp 2]=true:=lY
def C.dW : eG:=qs [qX 2 10 0,zA 4 (.mv<|.k<|.wC 6)] [1,2]<|.seq (qs [qT 10 2 2,q1 11 28 10,qO 12 11,zM 13 12,qm 13 false 14 1,⟨(some (13,false)),some 15,.call 29 [.t 14]⟩,zG 13 false 16 (.not<|.t 15),qQ 17 13 16] [1,2,17]<|qc 17 (qr [zA 4 (.mv<|.k<|.wC 6)] [4]) .skip)<|qs [zA 5 (.mv<|.k<|.wC 6)] [1,2,5]<|.seq (qs [qA 18 0 2,qF 19 1 18,qL 20 19,qI 21 0] [1,5,19,20,21]<|.block 0<|.loop<|qs [qb 22 .lss 21 20] [1,5,19,20,21,22]<|.seq (qc 22 .skip<|.exit 0)<|.seq (.block 1<|qs [qD 23 7 19 21,qT 24 7 23,zA 7 (.alloc 11 [.c (.str []),JX 0,JX 0,JX 0,.c (.str []),.wC 1,.wC 5]),qS 7 7 24] [1,5,7,19,20,21]<|qs [qA 26 2 7,qT 27 5 26,zM 28 1,q2 29 30 27 28,zM 25 29,qE 30 25 0,qE 31 25 1,qZ 8 12,qS 5 8 30,zM 9 31] [1,5,7,8,9,19,20,21]<|qs [zM 32 9] [1,5,7,8,19,20,21,32]<|qc 32 (.wJ [(zM 33 5,[]),(qT 34 5 8,[]),(q1 35 31 34,[1]),(qA 36 0 7,[]),(qF 37 1 36,[3]),(zA 38 (.build [JX 0,JX 0,.c (.str []),.wC 1,.wC 5,.c (.str [])] [(0,5,.t 35),(5,1,.t 37)]),[1,2,3,4]),(zA 39 (.uZ 13 6 1 [.lit (.int .i64 0),.lit (.int .i64 0),.str [],.sl 1 [],.sl 5 [],.str []] [(0,.t 38)]),[1,2,3,4,5]),(zA 40 (.append 14 6 96 (.t 33)<|.t 39),rr7),(zM 5 40,Zm)] [1,5,19,20,21]) .skip)<|.reg [qk 41 .add 21 1,zM 21 41] [1,5,19,20,21])<|qs [zM 42 5,⟨none,some 43,.call 32 [.t 42,.k (.fn 33 [])]⟩] [5]<|qr [zM 44 5,zM 4 44] [4]
theorem K.dW : nI pZ 10 2 0 C.dW [.tmp 4]=true:=lY
def C.iG : eG:=qs [qB 4 false] [0,1]<|.seq (qs [zM 6 0,qL 7 6,zM 8 1,qL 9 8,qb 10 .neq 7 9] [0,1,10]<|qc 10 (qr [qB 4 false] [4]) .skip)<|.seq (qs [qI 5 0] [0,1,5]<|.block 0<|.loop<|.seq (qs [zM 11 5,zM 12 0,qL 13 12,qb 14 .lss 11 13] [0,1,5,14]<|qc 14 .skip<|.exit 0)<|.seq (.block 1<|.seq (.wJ [(zM 17 0,[]),(zM 18 5,[]),(qD 19 1 17 18,[0,1]),(qF 20 1 19,[0,1,2]),(zM 21 1,[]),(zM 22 5,[]),(qD 23 1 21 22,[4,5]),(qF 24 1 23,[4,5,6]),(qb 25 .neq 20 24,Zm)] [0,1,5,25])<|qc 25 (qr [qB 4 false] [4]) .skip)<|.reg [zM 15 5,qk 16 .add 15 1,zM 5 16] [0,1,5])<|qr [qB 4 true] [4]
theorem K.iG : nI pZ 13 2 0 C.iG [.tmp 4]=true:=lY
def C.lZ : eG:=qs [qX 2 10 0,qX 3 11 1,qB 4 false] [2,3]<|.seq (qs [qA 5 0 2,qF 6 1 5,qA 7 0 3,qF 8 1 7,qb 9 .neq 6 8] [2,3,9]<|qc 9 (qr [qB 4 false] [4]) .skip)<|.seq (qs [qA 10 1 2,qF 11 1 10,qA 12 1 3,qF 13 1 12,qb 14 .neq 11 13] [2,3,14]<|qc 14 (qr [qB 4 false] [4]) .skip)<|.seq (qs [qA 15 2 2,qF 16 1 15,qA 17 2 3,qF 18 1 17,qb 19 .neq 16 18] [2,3,19]<|qc 19 (qr [qB 4 false] [4]) .skip)<|.seq (qs [qA 20 3 2,qF 21 1 20,qA 22 3 3,qF 23 1 22,q2 24 13 21 23,qO 25 24] [2,3,25]<|qc 25 (qr [qB 4 false] [4]) .skip)<|.seq (qs [qA 26 4 2,qF 27 1 26,qA 28 4 3,qF 29 1 28,q2 30 100 27 29,qO 31 30] [31]<|qc 31 (qr [qB 4 false] [4]) .skip)<|qr [qB 4 true] [4]
theorem K.lZ : nI pZ 57 2 0 C.lZ [.tmp 4]=true:=lY
def C.kJ : eG:=qs [qB 4 false] [0,1]<|.seq (qs [zM 6 0,qL 7 6,zM 8 1,qL 9 8,qb 10 .neq 7 9] [0,1,10]<|qc 10 (qr [qB 4 false] [4]) .skip)<|.seq (qs [qI 5 0] [0,1,5]<|.block 0<|.loop<|.seq (qs [zM 11 5,zM 12 0,qL 13 12,qb 14 .lss 11 13] [0,1,5,14]<|qc 14 .skip<|.exit 0)<|.seq (.block 1<|.seq (.wJ [(zM 17 0,[]),(zM 18 5,[]),(qD 19 5 17 18,[0,1]),(qT 20 5 19,[0,1,2]),(zM 21 1,[]),(zM 22 5,[]),(qD 23 5 21 22,[4,5]),(qT 24 5 23,[4,5,6]),(q2 25 57 20 24,Zm),(qO 26 25,rr9)] [0,1,5,26])<|qc 26 (qr [qB 4 false] [4]) .skip)<|.reg [zM 15 5,qk 16 .add 15 1,zM 5 16] [0,1,5])<|qr [qB 4 true] [4]
theorem K.kJ : nI pZ 100 2 0 C.kJ [.tmp 4]=true:=lY
def C.oU : eG:=qs [qX 2 10 0,qX 3 11 1,qB 4 false] [2,3]<|.seq (qs [qA 5 0 2,qT 6 5 5,qA 7 0 3,qT 8 5 7,q2 9 57 6 8,qO 10 9] [2,3,10]<|qc 10 (qr [qB 4 false] [4]) .skip)<|.seq (qs [qA 11 5 2,qF 12 1 11,qA 13 5 3,qF 14 1 13,qb 15 .neq 12 14] [15]<|qc 15 (qr [qB 4 false] [4]) .skip)<|qr [qB 4 true] [4]
theorem K.oU : nI pZ 37 2 0 C.oU [.tmp 4]=true:=lY
def C.iU : eG:=qs [qB 4 false] [0,1]<|.seq (qs [zM 6 0,qL 7 6,zM 8 1,qL 9 8,qb 10 .neq 7 9] [0,1,10]<|qc 10 (qr [qB 4 false] [4]) .skip)<|.seq (qs [qI 5 0] [0,1,5]<|.block 0<|.loop<|.seq (qs [zM 11 5,zM 12 0,qL 13 12,qb 14 .lss 11 13] [0,1,5,14]<|qc 14 .skip<|.exit 0)<|.seq (.block 1<|.seq (.wJ [(zM 17 0,[]),(zM 18 5,[]),(qD 19 6 17 18,[0,1]),(qT 20 6 19,[0,1,2]),(zM 21 1,[]),(zM 22 5,[]),(qD 23 6 21 22,[4,5]),(qT 24 6 23,[4,5,6]),(q2 25 37 20 24,Zm),(qO 26 25,rr9)] [0,1,5,26])<|qc 26 (qr [qB 4 false] [4]) .skip)<|.reg [zM 15 5,qk 16 .add 15 1,zM 5 16] [0,1,5])<|qr [qB 4 true] [4]
theorem K.iU : nI pZ 11 2 0 C.iU [.tmp 4]=true:=lY
def C.pJ : eG:=qs [qX 2 10 0,qX 3 11 1,qB 4 false] [2,3]<|.seq (qs [qA 5 0 2,qF 6 1 5,qA 7 0 3,qF 8 1 7,qb 9 .neq 6 8] [2,3,9]<|qc 9 (qr [qB 4 false] [4]) .skip)<|.seq (qs [qA 10 1 2,qF 11 1 10,qA 12 1 3,qF 13 1 12,qb 14 .neq 11 13] [2,3,14]<|qc 14 (qr [qB 4 false] [4]) .skip)<|.seq (qs [qA 15 2 2,qT 16 5 15,qA 17 2 3,qT 18 5 17,q2 19 57 16 18,qO 20 19] [20]<|qc 20 (qr [qB 4 false] [4]) .skip)<|qr [qB 4 true] [4]
theorem K.pJ : nI pZ 79 2 0 C.pJ [.tmp 4]=true:=lY
def C.jI : eG:=qs [qB 4 false] [0,1]<|.seq (qs [zM 6 0,qL 7 6,zM 8 1,qL 9 8,qb 10 .neq 7 9] [0,1,10]<|qc 10 (qr [qB 4 false] [4]) .skip)<|.seq (qs [qI 5 0] [0,1,5]<|.block 0<|.loop<|.seq (qs [zM 11 5,zM 12 0,qL 13 12,qb 14 .lss 11 13] [0,1,5,14]<|qc 14 .skip<|.exit 0)<|.seq (.block 1<|.seq (.wJ [(zM 17 0,[]),(zM 18 5,[]),(qD 19 7 17 18,[0,1]),(qT 20 7 19,[0,1,2]),(zM 21 1,[]),(zM 22 5,[]),(qD 23 7 21 22,[4,5]),(qT 24 7 23,[4,5,6]),(q2 25 79 20 24,Zm),(qO 26 25,rr9)] [0,1,5,26])<|qc 26 (qr [qB 4 false] [4]) .skip)<|.reg [zM 15 5,qk 16 .add 15 1,zM 5 16] [0,1,5])<|qr [qB 4 true] [4]
theorem K.jI : nI pZ 38 2 0 C.jI [.tmp 4]=true:=lY
def C.og : eG:=qs [qX 2 10 0,qX 3 11 1,qB 4 false] [2,3]<|.seq (qs [qA 5 0 2,qF 6 1 5,qA 7 0 3,qF 8 1 7,q2 9 38 6 8,qO 10 9] [2,3,10]<|qc 10 (qr [qB 4 false] [4]) .skip)<|.seq (qs [qA 11 1 2,qF 12 1 11,qA 13 1 3,qF 14 1 13,qb 15 .neq 12 14] [15]<|qc 15 (qr [qB 4 false] [4]) .skip)<|qr [qB 4 true] [4]
theorem K.og : nI pZ 12 2 0 C.og [.tmp 4]=true:=lY
def C.gm : eG:=qs [zA 2 (.mv<|.k<|.c<|.str [])] [0]<|.seq (qs [zM 4 0,qk 5 .leq 4 0] [0,5]<|qc 5 (qr [zA 2 (.mv<|.k<|.c<|.str [109,48])] [2]) .skip)<|qs [zA 3 (.mv<|.k<|.c<|.str [])] [0,3]<|.seq (.block 0<|.loop<|.seq (qs [zM 6 0,qk 7 .gtr 6 0] [0,3,7]<|qc 7 .skip<|.exit 0)<|.block 1<|qs [zM 8 0,qk 9 .rem 8 10,zA 10 (.bin .add (kI 48)<|.t 9),zA 11 (.JI .u8<|.t 10),zA 12 (.uZ 10 1 1 [.lit (.int .u8 0)] [(0,.t 11)]),zA 13 (.PW<|.t 12),zM 14 3,qb 15 .add 13 14,zM 3 15] [0,3]<|.reg [zM 16 0,qk 17 .quo 16 10,zM 0 17] [0,3])<|qr [zM 18 3,zA 19 (.bin .add (.k<|.c<|.str [109])<|.t 18),zM 2 19] [2]
theorem K.gm : nI pZ 40 1 0 C.gm [.tmp 2]=true:=lY
def C.gy : eG:=qs [qI 4 0] [0,1]<|.seq (qs [qI 5 0] [0,1,5]<|.block 0<|.loop<|.seq (qs [zM 6 5,zM 7 0,qL 8 7,qb 9 .lss 6 8] [0,1,5,9]<|qc 9 .skip<|.exit 0)<|.seq (.block 1<|.seq (.seq (.wJ [(zM 12 0,[]),(zM 13 5,[]),(qD 14 1 12 13,[0,1]),(qF 15 1 14,[0,1,2]),(zM 16 1,[]),(q1 17 40 16,[4]),(qb 18 .neq 15 17,rr6)] [0,1,5,18])<|qc 18 (qr [qI 4 (-1)] [4]) .skip)<|.reg [zM 19 1,qk 20 .add 19 1,zM 1 20] [0,1,5])<|.reg [zM 10 5,qk 11 .add 10 1,zM 5 11] [0,1,5])<|qr [zM 21 1,zM 4 21] [4]
theorem K.gy : nI pZ 42 2 0 C.gy [.tmp 4]=true:=lY
def C.gZ : eG:=qs [qI 4 0] [0,1]<|.seq (qs [qI 5 0] [0,1,5]<|.block 0<|.loop<|.seq (qs [zM 6 5,zM 7 0,qL 8 7,qb 9 .lss 6 8] [0,1,5,9]<|qc 9 .skip<|.exit 0)<|.seq (.block 1<|.seq (qs [zM 12 0,zM 13 5,qD 14 5 12 13,qA 15 0 14,qF 16 1 15,zM 17 1,qb 18 .neq 16 17] [0,1,5,18]<|qc 18 (qr [qI 4 (-1)] [4]) .skip)<|qs [zM 19 1,qk 20 .add 19 1,zM 1 20] [0,1,5]<|.seq (qs [zM 21 0,zM 22 5,qD 23 5 21 22,qA 24 1 23,qF 25 1 24,zM 26 1,qb 27 .neq 25 26] [0,1,5,27]<|qc 27 (qr [qI 4 (-1)] [4]) .skip)<|qs [zM 28 1,qk 29 .add 28 1,zM 1 29] [0,1,5]<|.seq (.seq (.wJ [(zM 30 0,[]),(zM 31 5,[]),(qD 32 5 30 31,[0,1]),(qA 33 2 32,[0,1,2]),(qF 34 1 33,Uf),(zM 35 1,[]),(q1 36 40 35,[5]),(qb 37 .neq 34 36,rr7)] [0,1,5,37])<|qc 37 (qr [qI 4 (-1)] [4]) .skip)<|qs [zM 38 1,qk 39 .add 38 1,zM 1 39] [0,1,5]<|qs [zM 40 0,zM 41 5,qD 42 5 40 41,qA 43 3 42,qF 44 1 43,zM 45 1,q2 46 42 44 45,zM 1 46] [0,1,5]<|.seq (qs [zM 47 1,qk 48 .lss 47 0] [0,1,5,48]<|qc 48 (qr [qI 4 (-1)] [4]) .skip)<|qs [zM 49 0,zM 50 5,qD 51 5 49 50,qA 52 4 51,qF 53 1 52,zM 54 1,q2 55 43 53 54,zM 1 55] [0,1,5]<|qs [zM 56 1,qk 57 .lss 56 0] [0,1,5,57]<|qc 57 (qr [qI 4 (-1)] [4]) .skip)<|.reg [zM 10 5,qk 11 .add 10 1,zM 5 11] [0,1,5])<|qr [zM 58 1,zM 4 58] [4]
theorem K.gZ : nI pZ 43 2 0 C.gZ [.tmp 4]=true:=lY
def C.iJ : eG:=qs [qI 4 0] [0,1]<|.seq (qs [qI 5 0] [0,1,5]<|.block 0<|.loop<|.seq (qs [zM 6 5,zM 7 0,qL 8 7,qb 9 .lss 6 8] [0,1,5,9]<|qc 9 .skip<|.exit 0)<|.seq (.block 1<|.seq (qs [zM 12 0,zM 13 5,qD 14 6 12 13,qA 15 0 14,qA 16 0 15,qF 17 1 16,zM 18 1,qb 19 .neq 17 18] [0,1,5,19]<|qc 19 (qr [qI 4 (-1)] [4]) .skip)<|qs [zM 20 1,qk 21 .add 20 1,zM 1 21] [0,1,5]<|.seq (qs [zM 22 0,zM 23 5,qD 24 6 22 23,qA 25 0 24,qA 26 1 25,qF 27 1 26,zM 28 1,qb 29 .neq 27 28] [0,1,5,29]<|qc 29 (qr [qI 4 (-1)] [4]) .skip)<|qs [zM 30 1,qk 31 .add 30 1,zM 1 31] [0,1,5]<|.seq (.seq (.wJ [(zM 32 0,[]),(zM 33 5,[]),(qD 34 6 32 33,[0,1]),(qA 35 0 34,[0,1,2]),(qA 36 2 35,Uf),(qF 37 1 36,rr5),(zM 38 1,[]),(q1 39 40 38,[6]),(qb 40 .neq 37 39,Zm)] [0,1,5,40])<|qc 40 (qr [qI 4 (-1)] [4]) .skip)<|qs [zM 41 1,qk 42 .add 41 1,zM 1 42] [0,1,5]<|qs [zM 43 0,zM 44 5,qD 45 6 43 44,qA 46 0 45,qA 47 3 46,qF 48 1 47,zM 49 1,q2 50 42 48 49,zM 1 50] [0,1,5]<|.seq (qs [zM 51 1,qk 52 .lss 51 0] [0,1,5,52]<|qc 52 (qr [qI 4 (-1)] [4]) .skip)<|qs [zM 53 0,zM 54 5,qD 55 6 53 54,qA 56 0 55,qA 57 4 56,qF 58 1 57,zM 59 1,q2 60 43 58 59,zM 1 60] [0,1,5]<|.seq (qs [zM 61 1,qk 62 .lss 61 0] [0,1,5,62]<|qc 62 (qr [qI 4 (-1)] [4]) .skip)<|.seq (.seq (.wJ [(zM 63 0,[]),(zM 64 5,[]),(qD 65 6 63 64,[0,1]),(qA 66 5 65,[0,1,2]),(qF 67 1 66,Uf),(zM 68 1,[]),(q1 69 40 68,[5]),(qb 70 .neq 67 69,rr7)] [0,1,5,70])<|qc 70 (qr [qI 4 (-1)] [4]) .skip)<|.reg [zM 71 1,qk 72 .add 71 1,zM 1 72] [0,1,5])<|.reg [zM 10 5,qk 11 .add 10 1,zM 5 11] [0,1,5])<|qr [zM 73 1,zM 4 73] [4]
theorem K.iJ : nI pZ 17 2 0 C.iJ [.tmp 4]=true:=lY
def C.gz : eG:=qs [qI 4 0] [0,1]<|qs [zM 6 1,zM 7 0,qL 8 7,qb 9 .sub 6 8,zM 1 9] [0,1]<|.seq (qs [zM 10 1,qk 11 .lss 10 0] [0,1,11]<|qc 11 (qr [qI 4 (-1)] [4]) .skip)<|.seq (qs [qI 5 0] [0,1,5]<|.block 0<|.loop<|.seq (qs [zM 12 5,zM 13 0,qL 14 13,qb 15 .lss 12 14] [0,1,5,15]<|qc 15 .skip<|.exit 0)<|.seq (.block 1<|qs [zM 18 1,zM 19 0,zM 20 5,qD 21 1 19 20,qF 22 1 21,ql 23 22,qb 24 .sub 18 23,zM 1 24] [0,1,5]<|qs [zM 25 1,qk 26 .lss 25 0] [0,1,5,26]<|qc 26 (qr [qI 4 (-1)] [4]) .skip)<|.reg [zM 16 5,qk 17 .add 16 1,zM 5 17] [0,1,5])<|qr [zM 27 1,zM 4 27] [4]
theorem K.gz : nI pZ 6 2 0 C.gz [.tmp 4]=true:=lY
def C.l7 : eG:=qs [qX 2 10 0,qI 4 0] [1,2]<|qs [zM 5 1,qA 6 2 2,qF 7 1 6,ql 8 7,qb 9 .sub 5 8,zM 1 9] [1,2]<|.seq (qs [zM 10 1,qk 11 .lss 10 0] [1,2,11]<|qc 11 (qr [qI 4 (-1)] [4]) .skip)<|qs [qA 12 3 2,qF 13 1 12,zM 14 1,q2 15 6 13 14,zM 1 15] [1,2]<|.seq (qs [zM 16 1,qk 17 .lss 16 0] [1,2,17]<|qc 17 (qr [qI 4 (-1)] [4]) .skip)<|qs [qA 18 4 2,qF 19 1 18,zM 20 1,q2 21 159 19 20,zM 1 21] [1]<|.seq (qs [zM 22 1,qk 23 .lss 22 0] [1,23]<|qc 23 (qr [qI 4 (-1)] [4]) .skip)<|qr [zM 24 1,zM 4 24] [4]
theorem K.l7 : nI pZ 102 2 0 C.l7 [.tmp 4]=true:=lY
def C.jJ : eG:=qs [qI 4 0] [0,1]<|qs [zM 6 1,zM 7 0,qL 8 7,qb 9 .sub 6 8,zM 1 9] [0,1]<|.seq (qs [zM 10 1,qk 11 .lss 10 0] [0,1,11]<|qc 11 (qr [qI 4 (-1)] [4]) .skip)<|.seq (qs [qI 5 0] [0,1,5]<|.block 0<|.loop<|.seq (qs [zM 12 5,zM 13 0,qL 14 13,qb 15 .lss 12 14] [0,1,5,15]<|qc 15 .skip<|.exit 0)<|.seq (.block 1<|qs [zM 18 0,zM 19 5,qD 20 5 18 19,qT 21 5 20,zM 22 1,q2 23 102 21 22,zM 1 23] [0,1,5]<|qs [zM 24 1,qk 25 .lss 24 0] [0,1,5,25]<|qc 25 (qr [qI 4 (-1)] [4]) .skip)<|.reg [zM 16 5,qk 17 .add 16 1,zM 5 17] [0,1,5])<|qr [zM 26 1,zM 4 26] [4]
theorem K.jJ : nI pZ 159 2 0 C.jJ [.tmp 4]=true:=lY
def C.nR : eG:=qs [qX 2 10 0,qI 4 0] [1,2]<|qs [zM 5 1,qA 6 0 2,qF 7 1 6,ql 8 7,qb 9 .sub 5 8,zM 1 9] [1,2]<|.seq (qs [zM 10 1,qk 11 .lss 10 0] [1,2,11]<|qc 11 (qr [qI 4 (-1)] [4]) .skip)<|qs [qA 12 2 2,qT 13 5 12,zM 14 1,q2 15 102 13 14,zM 1 15] [1]<|.seq (qs [zM 16 1,qk 17 .lss 16 0] [1,17]<|qc 17 (qr [qI 4 (-1)] [4]) .skip)<|qr [zM 18 1,zM 4 18] [4]
theorem K.nR : nI pZ 63 2 0 C.nR [.tmp 4]=true:=lY
def C.jo : eG:=qs [qI 4 0] [0,1]<|qs [zM 6 1,zM 7 0,qL 8 7,qb 9 .sub 6 8,zM 1 9] [0,1]<|.seq (qs [zM 10 1,qk 11 .lss 10 0] [0,1,11]<|qc 11 (qr [qI 4 (-1)] [4]) .skip)<|.seq (qs [qI 5 0] [0,1,5]<|.block 0<|.loop<|.seq (qs [zM 12 5,zM 13 0,qL 14 13,qb 15 .lss 12 14] [0,1,5,15]<|qc 15 .skip<|.exit 0)<|.seq (.block 1<|qs [zM 18 0,zM 19 5,qD 20 7 18 19,qT 21 7 20,zM 22 1,q2 23 63 21 22,zM 1 23] [0,1,5]<|qs [zM 24 1,qk 25 .lss 24 0] [0,1,5,25]<|qc 25 (qr [qI 4 (-1)] [4]) .skip)<|.reg [zM 16 5,qk 17 .add 16 1,zM 5 17] [0,1,5])<|qr [zM 26 1,zM 4 26] [4]
theorem K.jo : nI pZ 23 2 0 C.jo [.tmp 4]=true:=lY
def C.lu : eG:=qs [qX 2 10 0,qI 4 0] [1,2]<|qs [qA 5 0 2,qF 6 1 5,zM 7 1,q2 8 23 6 7,zM 1 8] [1]<|.seq (qs [zM 9 1,qk 10 .lss 9 0] [1,10]<|qc 10 (qr [qI 4 (-1)] [4]) .skip)<|qr [zM 11 1,zM 4 11] [4]
theorem K.lu : nI pZ 5 2 0 C.lu [.tmp 4]=true:=lY
def C.ig : eG:=qs [zA 2 (.mv<|.k<|.wC 1)] [0]<|qs [zM 5 0,qL 6 5,zA 7 (.makes 10 1 16 [.str []] (.t 6)<|.t 6),zM 3 7] [0,3]<|.seq (qs [qI 4 0] [0,3,4]<|.block 0<|.loop<|.seq (qs [zM 8 4,zM 9 0,qL 10 9,qb 11 .lss 8 10] [0,3,4,11]<|qc 11 .skip<|.exit 0)<|.seq (.block 1<|.reg [zM 14 3,zM 15 4,zM 16 0,zM 17 4,qD 18 1 16 17,qF 19 1 18,qD 20 1 14 15,qU 1 20 19] [0,3,4])<|.reg [zM 12 4,qk 13 .add 12 1,zM 4 13] [0,3,4])<|qr [zM 21 3,zM 2 21] [2]
theorem K.ig : nI pZ 9 1 0 C.ig [.tmp 2]=true:=lY
def C.nD : eG:=qs [qX 1 10 0,qZ 2 11] [1,2]<|qs [qZ 3 12] [1,2,3]<|qs [qA 4 0 1,qF 5 1 4,qA 6 0 3,qU 1 6 5] [1,2,3]<|qs [qA 7 1 1,qF 8 1 7,qA 9 1 3,qU 1 9 8] [1,2,3]<|qs [qA 10 2 1,qF 11 1 10,qA 12 2 3,qU 1 12 11] [1,2,3]<|qs [qA 13 3 1,qF 14 1 13,q1 15 9 14,qA 16 3 3,qU 1 16 15] [1,2,3]<|qs [qA 17 4 1,qF 18 1 17,q1 19 163 18,qA 20 4 3,qU 1 20 19] [2,3]<|qr [qT 21 5 3,qS 5 2 21] [2]
theorem K.nD : nI pZ 109 1 0 C.nD [.cell 2 true 5]=true:=lY
def C.kK : eG:=qs [zA 2 (.mv<|.k<|.wC 5)] [0]<|qs [zM 5 0,qL 6 5,zA 7 (.makes 10 5 80 [.lit (.int .i64 0),.lit (.int .i64 0),.str [],.sl 1 [],.sl 5 []] (.t 6)<|.t 6),zM 3 7] [0,3]<|.seq (qs [qI 4 0] [0,3,4]<|.block 0<|.loop<|.seq (qs [zM 8 4,zM 9 0,qL 10 9,qb 11 .lss 8 10] [0,3,4,11]<|qc 11 .skip<|.exit 0)<|.seq (.block 1<|.reg [zM 14 3,zM 15 4,zM 16 0,zM 17 4,qD 18 5 16 17,qT 19 5 18,q1 20 109 19,qD 21 5 14 15,qS 5 21 20] [0,3,4])<|.reg [zM 12 4,qk 13 .add 12 1,zM 4 13] [0,3,4])<|qr [zM 22 3,zM 2 22] [2]
theorem K.kK : nI pZ 163 1 0 C.kK [.tmp 2]=true:=lY
def C.pK : eG:=qs [qX 1 10 0,zA 2 (.alloc 11 [.c (.str []),JX 0,JX 0,JX 0,.c (.str []),.wC 1,.wC 5])] [1,2]<|qs [zA 3 (.alloc 12 [.c (.str []),JX 0,JX 0,JX 0,.c (.str []),.wC 1,.wC 5])] [1,2,3]<|qs [qA 4 0 1,qF 5 1 4,qA 6 0 3,qU 1 6 5] [1,2,3]<|qs [qA 7 1 1,qF 8 1 7,qA 9 1 3,qU 1 9 8] [1,2,3]<|qs [qA 10 2 1,qT 11 5 10,q1 12 109 11,qA 13 2 3,qS 5 13 12] [2,3]<|qr [qT 14 7 3,qS 7 2 14] [2]
theorem K.pK : nI pZ 70 1 0 C.pK [.cell 2 true 7]=true:=lY
def C.jK : eG:=qs [zA 2 (.mv<|.k<|.wC 7)] [0]<|qs [zM 5 0,qL 6 5,zA 7 (.makes 10 7 104 [.str [],.lit (.int .i64 0),.lit (.int .i64 0),.lit (.int .i64 0),.str [],.sl 1 [],.sl 5 []] (.t 6)<|.t 6),zM 3 7] [0,3]<|.seq (qs [qI 4 0] [0,3,4]<|.block 0<|.loop<|.seq (qs [zM 8 4,zM 9 0,qL 10 9,qb 11 .lss 8 10] [0,3,4,11]<|qc 11 .skip<|.exit 0)<|.seq (.block 1<|.reg [zM 14 3,zM 15 4,zM 16 0,zM 17 4,qD 18 7 16 17,qT 19 7 18,q1 20 70 19,qD 21 7 14 15,qS 7 21 20] [0,3,4])<|.reg [zM 12 4,qk 13 .add 12 1,zM 4 13] [0,3,4])<|qr [zM 22 3,zM 2 22] [2]
theorem K.jK : nI pZ 27 1 0 C.jK [.tmp 2]=true:=lY
def C.mV : eG:=qs [qX 1 10 0,zA 2 (.alloc 11 [.wC 7,JX 0])] [1,2]<|qs [zA 3 (.alloc 12 [.wC 7,JX 0])] [1,2,3]<|qs [qA 4 0 1,qF 5 1 4,q1 6 27 5,qA 7 0 3,qU 1 7 6] [1,2,3]<|qs [qA 8 1 1,qF 9 1 8,qA 10 1 3,qU 1 10 9] [2,3]<|qr [qT 11 2 3,qS 2 2 11] [2]
theorem K.mV : nI pZ 8 1 0 C.mV [.cell 2 true 2]=true:=lY
def C.fG : eG:=qs [qX 1 10 0,qZ 2 11] [1,2]<|qs [zA 5 (.uZ 12 5 0 [.lit (.int .i64 0),.lit (.int .i64 0),.str [],.sl 1 [],.sl 5 []] []),zM 3 5] [1,2,3]<|.seq (qs [qI 4 0] [1,2,3,4]<|.block 0<|.loop<|.seq (qs [zM 6 4,qA 7 4 1,qF 8 1 7,qL 9 8,qb 10 .lss 6 9] [1,2,3,4,10]<|qc 10 .skip<|.exit 0)<|.seq (.block 1<|.reg [zM 13 3,qA 14 4 1,qF 15 1 14,zM 16 4,qD 17 5 15 16,qT 18 5 17,q1 19 106 18,zA 20 (.uZ 13 5 1 [.lit (.int .i64 0),.lit (.int .i64 0),.str [],.sl 1 [],.sl 5 []] [(0,.t 19)]),zA 21 (.append 14 5 80 (.t 13)<|.t 20),zM 3 21] [1,2,3,4])<|.reg [zM 11 4,qk 12 .add 11 1,zM 4 12] [1,2,3,4])<|.seq (.wJ [(qA 22 0 1,[]),(qF 23 1 22,[0]),(qA 24 1 1,[]),(qF 25 1 24,[2]),(qA 26 2 1,[]),(qF 27 1 26,[4]),(zA 28 (.uZ 15 1 0 [.str []] []),[]),(qA 29 3 1,[]),(qF 30 1 29,[7]),(zA 31 (.append 16 1 16 (.t 28)<|.t 30),[6,7,8]),(zM 32 3,[]),(zA 33 (.build zN [(0,1,.t 23),(1,1,.t 25),(2,1,.t 27),(3,1,.t 31),(4,1,.t 32)]),QB),(qS 5 2 33,abp)] [2]) .ret
theorem K.fG : nI pZ 106 1 0 C.fG [.cell 2 true 5]=true:=lY
def C.jT : eG:=qs [zA 2 (.mv<|.k<|.c<|.str [])] [0]<|.seq (qs [zM 3 0,qk 4 .lss 3 0,zM 5 4,qm 5 true 6 0,qm 5 true 7 0,zG 5 true 8 (.neg<|.t 7),zG 5 true 9 (.bin .eql (.t 6)<|.t 8),qP 10 5 9] [0,10]<|qc 10 (qr [zA 2 (.mv<|.k<|.c<|.str [45,57,50,50,51,51,55,50,48,51,54,56,53,52,55,55,53,56,48,56])] [2]) .skip)<|.seq (qs [zM 11 0,qk 12 .lss 11 0] [0,12]<|qc 12 (qr [zM 13 0,zA 14 (.neg<|.t 13),q1 15 133 14,zA 16 (.bin .add (.k<|.c<|.str [45])<|.t 15),zM 2 16] [2]) .skip)<|.seq (qs [zM 17 0,qk 18 .lss 17 10] [0,18]<|qc 18 (qr [zM 19 0,zA 20 (.bin .add (kI 48)<|.t 19),zA 21 (.JI .u8<|.t 20),zA 22 (.uZ 10 1 1 [.lit (.int .u8 0)] [(0,.t 21)]),zA 23 (.PW<|.t 22),zM 2 23] [2]) .skip)<|.seq (.wJ [(zM 24 0,[]),(qk 25 .quo 24 10,[0]),(q1 26 133 25,[0,1]),(zM 27 0,[]),(qk 28 .rem 27 10,[3]),(zA 29 (.bin .add (kI 48)<|.t 28),[3,4]),(zA 30 (.JI .u8<|.t 29),[3,4,5]),(zA 31 (.uZ 11 1 1 [.lit (.int .u8 0)] [(0,.t 30)]),[3,4,5,6]),(zA 32 (.PW<|.t 31),[3,4,5,6,7]),(qb 33 .add 26 32,rr9),(zM 2 33,JM)] [2]) .ret
theorem K.jT : nI pZ 133 1 0 C.jT [.tmp 2]=true:=lY
def C.jh : eG:=qs [qX 2 10 0,qI 4 0] [1,2]<|.seq (qs [qI 5 0] [1,2,5]<|.block 0<|.loop<|.seq (qs [zM 6 5,qA 7 4 2,qF 8 1 7,qL 9 8,qb 10 .lss 6 9] [1,2,5,10]<|qc 10 .skip<|.exit 0)<|.seq (.block 1<|qs [qA 13 0 2,qF 14 1 13,qk 15 .eql 14 4,zM 16 15,zG 16 true 17 (.lS 3<|.t 2),zG 16 true 18 (.load false 1<|.t 17),qm 16 true 19 5,zG 16 true 20 (.uP 1 (.t 18)<|.t 19),zG 16 true 21 (.load false 1<|.t 20),qm 16 true 22 1,zG 16 true 23 (.bin .eql (.t 21)<|.t 22),qP 24 16 23,zM 25 24,zG 25 false 26 (.lS 0<|.t 2),zG 25 false 27 (.load false 1<|.t 26),zG 25 false 28 (.bin .eql (.t 27)<|kI 3),qm 25 false 29 28,qm 29 true 30 5,⟨(some (29,true)),some 31,.call 133 [.t 30]⟩,qm 29 true 32 1,zG 29 true 33 (.bin .eql (.t 31)<|.t 32),zG 25 false 34 (.pick (.t 29) (.t 33)<|kB false),qQ 35 25 34] [1,2,5,35]<|qc 35 (qr [zM 36 5,zM 4 36] [4]) .skip)<|.reg [zM 11 5,qk 12 .add 11 1,zM 5 12] [1,2,5])<|qr [qI 4 (-1)] [4]
theorem K.jh : nI pZ 105 2 0 C.jh [.tmp 4]=true:=lY
def C.oh : eG:=qs [qX 2 10 0,qZ 4 11,qB 5 false] [1,2,4]<|.seq (qs [qI 6 0] [1,2,4,6]<|.block 0<|.loop<|.seq (qs [zM 8 6,zM 9 1,qL 10 9,qb 11 .lss 8 10] [1,2,4,6,11]<|qc 11 .skip<|.exit 0)<|.seq (.block 1<|.seq (.wJ [(qT 14 5 2,[]),(zM 15 1,[]),(zM 16 6,[]),(qD 17 1 15 16,[1,2]),(qF 18 1 17,[1,2,3]),(q2 19 105 14 18,rr5),(zM 7 19,rr6)] [1,2,4,6,7])<|.seq (qs [zM 20 7,qk 21 .lss 20 0] [1,2,4,6,7,21]<|qc 21 (qr [zA 22 (.build zN []),qS 5 4 22,qB 5 false] [4,5]) .skip)<|.reg [qA 23 4 2,qF 24 1 23,zM 25 7,qD 26 5 24 25,qT 27 5 26,qS 5 2 27] [1,2,4,6])<|.reg [zM 12 6,qk 13 .add 12 1,zM 6 13] [1,2,4,6])<|qr [qT 28 5 2,q1 29 106 28,qS 5 4 29,qB 5 true] [4,5]
theorem K.oh : nI pZ 68 2 0 C.oh [.cell 4 true 5,.tmp 5]=true:=lY
def C.jq : eG:=qs [qI 2 0] [0]<|.seq (qs [zM 3 0] [3]<|qc 3 (qr [qI 2 1] [2]) .skip)<|qr [qI 2 0] [2]
theorem K.jq : nI pZ 162 1 0 C.jq [.tmp 2]=true:=lY
def C.nP : eG:=qs [qI 4 0] [0,1]<|qr [zM 5 0,zM 6 1,qb 7 .gtr 5 6,q1 8 162 7,zM 9 0,zM 10 1,qb 11 .lss 9 10,q1 12 162 11,qb 13 .sub 8 12,zM 4 13] [4]
theorem K.nP : nI pZ 107 2 0 C.nP [.tmp 4]=true:=lY
def C.lT : eG:=qs [qI 4 0] [0,1]<|qr [zM 5 0,zM 6 1,qb 7 .gtr 5 6,q1 8 162 7,zM 9 0,zM 10 1,qb 11 .lss 9 10,q1 12 162 11,qb 13 .sub 8 12,zM 4 13] [4]
theorem K.lT : nI pZ 108 2 0 C.lT [.tmp 4]=true:=lY
def C.iF : eG:=qs [qX 2 10 0,qX 3 11 1,qI 4 0] [2,3]<|.seq (qs [qA 7 0 2,qF 8 1 7,qA 9 0 3,qF 10 1 9,qb 11 .neq 8 10] [2,3,11]<|qc 11 (qr [qA 12 0 2,qF 13 1 12,qA 14 0 3,qF 15 1 14,q2 16 107 13 15,zM 4 16] [4]) .skip)<|.seq (qs [qA 17 1 2,qF 18 1 17,qA 19 1 3,qF 20 1 19,qb 21 .neq 18 20] [2,3,21]<|qc 21 (qr [qA 22 1 2,qF 23 1 22,qA 24 1 3,qF 25 1 24,q2 26 107 23 25,zM 4 26] [4]) .skip)<|.seq (qs [qA 27 2 2,qF 28 1 27,qA 29 2 3,qF 30 1 29,qb 31 .neq 28 30] [2,3,31]<|qc 31 (qr [qA 32 2 2,qF 33 1 32,qA 34 2 3,qF 35 1 34,q2 36 108 33 35,zM 4 36] [4]) .skip)<|.seq (qs [qI 5 0] [2,3,5]<|.block 0<|.loop<|.seq (qs [zM 37 5,qA 38 4 2,qF 39 1 38,qL 40 39,qb 41 .lss 37 40,zM 42 41,qm 42 true 43 5,zG 42 true 44 (.lS 4<|.t 3),zG 42 true 45 (.load false 1<|.t 44),zG 42 true 46 (.len<|.t 45),zG 42 true 47 (.bin .lss (.t 43)<|.t 46),qP 48 42 47] [2,3,5,48]<|qc 48 .skip<|.exit 0)<|.seq (.block 1<|.seq (.seq (.wJ [(qA 51 0 2,[]),(qF 52 1 51,[0]),(qk 53 .eql 52 4,[0,1]),(zM 54 53,[0,1,2]),(zG 54 true 55 (.lS 3<|.t 2),Uf),(zG 54 true 56 (.load false 1<|.t 55),rr5),(qm 54 true 57 5,Uf),(zG 54 true 58 (.uP 1 (.t 56)<|.t 57),rr7),(zG 54 true 59 (.load false 1<|.t 58),Zm),(zG 54 true 60 (.lS 3<|.t 3),Uf),(zG 54 true 61 (.load false 1<|.t 60),[0,1,2,3,9]),(qm 54 true 62 5,Uf),(zG 54 true 63 (.uP 1 (.t 61)<|.t 62),[0,1,2,3,9,10,11]),(zG 54 true 64 (.load false 1<|.t 63),[0,1,2,3,9,10,11,12]),(zG 54 true 65 (.bin .neq (.t 59)<|.t 64),ae9),(qP 66 54 65,afa)] [2,3,5,66])<|qc 66 (.seq (.wJ [(qA 67 3 2,[]),(qF 68 1 67,[0]),(zM 69 5,[]),(qD 70 1 68 69,[0,1,2]),(qF 71 1 70,Uf),(qA 72 3 3,[]),(qF 73 1 72,[5]),(zM 74 5,[]),(qD 75 1 73 74,[5,6,7]),(qF 76 1 75,[5,6,7,8]),(q2 77 108 71 76,JM),(zM 4 77,QB)] [4]) .ret) .skip)<|.seq (.wJ [(qA 78 4 2,[]),(qF 79 1 78,[0]),(zM 80 5,[]),(qD 81 5 79 80,[0,1,2]),(qT 82 5 81,Uf),(qA 83 4 3,[]),(qF 84 1 83,[5]),(zM 85 5,[]),(qD 86 5 84 85,[5,6,7]),(qT 87 5 86,[5,6,7,8]),(q2 88 69 82 87,JM),(zM 6 88,QB)] [2,3,5,6])<|qs [zM 89 6,qk 90 .neq 89 0] [2,3,5,6,90]<|qc 90 (qr [zM 91 6,zM 4 91] [4]) .skip)<|.reg [zM 49 5,qk 50 .add 49 1,zM 5 50] [2,3,5])<|qr [qA 92 4 2,qF 93 1 92,qL 94 93,qA 95 4 3,qF 96 1 95,qL 97 96,q2 98 107 94 97,zM 4 98] [4]
theorem K.iF : nI pZ 69 2 0 C.iF [.tmp 4]=true:=lY
def C.gp : eG:=qs [qX 2 10 0,zA 4 (.mv<|.k<|.wC 6)] [1,2]<|qs [zA 11 (.uZ 11 6 0 [.lit (.int .i64 0),.lit (.int .i64 0),.str [],.sl 1 [],.sl 5 [],.str []] []),zM 5 11] [1,2,5]<|.seq (qs [qI 6 0] [1,2,5,6]<|.block 0<|.loop<|.seq (qs [zM 12 6,qA 13 0 2,qF 14 1 13,qL 15 14,qb 16 .lss 12 15] [1,2,5,6,16]<|qc 16 .skip<|.exit 0)<|.seq (.block 1<|qs [qA 20 0 2,qF 21 1 20,zM 22 6,qD 23 7 21 22,qA 24 2 23,qT 25 5 24,zM 26 1,q2 27 68 25 26,zM 19 27,qE 28 19 0,qE 29 19 1,qZ 7 12,qS 5 7 28,zM 8 29] [1,2,5,6,7,8]<|.seq (qs [zM 30 8,qO 31 30] [1,2,5,6,7,31]<|qc 31 (.exit 1) .skip)<|.seq (.wJ [(zM 32 5,[]),(qT 33 5 7,[]),(qA 34 0 2,[]),(qF 35 1 34,[2]),(zM 36 6,[]),(qD 37 7 35 36,[2,3,4]),(qA 38 0 37,[2,3,4,5]),(qF 39 1 38,[2,3,4,5,6]),(zA 40 (.build [JX 0,JX 0,.c (.str []),.wC 1,.wC 5,.c (.str [])] [(0,5,.t 33),(5,1,.t 39)]),[1,2,3,4,5,6,7]),(zA 41 (.uZ 13 6 1 [.lit (.int .i64 0),.lit (.int .i64 0),.str [],.sl 1 [],.sl 5 [],.str []] [(0,.t 40)]),[1,2,3,4,5,6,7,8]),(zA 42 (.append 14 6 96 (.t 32)<|.t 41),JM),(zM 5 42,QB)] [1,2,5,6])<|qs [zM 43 5,qL 44 43,qk 45 .sub 44 1,zM 9 45] [1,2,5,6,9]<|.block 2<|.loop<|.seq (.seq (.wJ [(zM 46 9,[]),(qk 47 .gtr 46 0,[0]),(zM 48 47,[0,1]),(qm 48 true 49 5,[0,1,2]),(qm 48 true 50 9,[0,1,2]),(zG 48 true 51 (.uP 6 (.t 49)<|.t 50),rr5),(zG 48 true 52 (.lS 0<|.t 51),rr6),(zG 48 true 53 (.load true 5<|.t 52),rr7),(qm 48 true 54 5,[0,1,2]),(qm 48 true 55 9,[0,1,2]),(zG 48 true 56 (.bin .sub (.t 55)<|kI 1),[0,1,2,9]),(zG 48 true 57 (.uP 6 (.t 54)<|.t 56),[0,1,2,8,9,10]),(zG 48 true 58 (.lS 0<|.t 57),[0,1,2,8,9,10,11]),(zG 48 true 59 (.load true 5<|.t 58),[0,1,2,8,9,10,11,12]),(⟨(some (48,true)),some 60,.call 69 [.t 53,.t 59]⟩,ae9),(zG 48 true 61 (.bin .lss (.t 60)<|kI 0),afa),(qP 62 48 61,agP)] [1,2,5,6,9,62])<|qc 62 .skip<|.exit 2)<|.seq (.block 3<|qs [zM 65 5,zM 66 9,qD 67 6 65 66,qT 68 6 67,zA 10 (.alloc 15 [JX 0,JX 0,.c (.str []),.wC 1,.wC 5,.c (.str [])]),qS 6 10 68] [1,2,5,6,9,10]<|qs [zM 69 5,zM 70 9,zM 71 5,zM 72 9,qk 73 .sub 72 1,qD 74 6 71 73,qT 75 6 74,qD 76 6 69 70,qS 6 76 75] [1,2,5,6,9,10]<|.reg [zM 77 5,zM 78 9,qk 79 .sub 78 1,qT 80 6 10,qD 81 6 77 79,qS 6 81 80] [1,2,5,6,9])<|.reg [zM 63 9,qk 64 .sub 63 1,zM 9 64] [1,2,5,6,9])<|.reg [zM 17 6,qk 18 .add 17 1,zM 6 18] [1,2,5,6])<|qr [zM 82 5,zM 4 82] [4]
theorem K.gp : nI pZ 26 2 0 C.gp [.tmp 4]=true:=lY
def C.iC : eG:=qs [qB 6 false] [0,1,2]<|qr [zM 7 1,zM 8 0,qb 9 .leq 7 8,zM 10 9,qm 10 true 11 0,qm 10 true 12 2,zG 10 true 13 (.bin .leq (.t 11)<|.t 12),qP 14 10 13,zM 6 14] [6]
theorem K.iC : nI pZ 66 3 0 C.iC [.tmp 6]=true:=lY
def C.eU : eG:=qs [qB 2 false] [0]<|.seq (qs [qI 3 0] [0,3]<|.block 0<|.loop<|.seq (qs [zM 4 3,zM 5 0,ql 6 5,qb 7 .lss 4 6] [0,3,7]<|qc 7 .skip<|.exit 0)<|.seq (.block 1<|qs [zM 10 0,zM 11 3,zA 12 (.idxs (.t 10)<|.t 11),zA 13 (.JI .i64<|.t 12),⟨none,some 14,.call 66 [.t 13,kI 32,kI 126]⟩,qO 15 14] [0,3,15]<|qc 15 (qr [qB 2 false] [2]) .skip)<|.reg [zM 8 3,qk 9 .add 8 1,zM 3 9] [0,3])<|qr [zM 16 0,ql 17 16,qk 18 .leq 17 12,zM 2 18] [2]
theorem K.eU : nI pZ 67 1 0 C.eU [.tmp 2]=true:=lY
def C.gK : eG:=qs [qB 2 false] [0]<|.seq (qs [qI 3 0] [0,3]<|.block 0<|.loop<|.seq (qs [zM 4 3,zM 5 0,qL 6 5,qb 7 .lss 4 6] [0,3,7]<|qc 7 .skip<|.exit 0)<|.seq (.block 1<|qs [zM 10 0,zM 11 3,qD 12 1 10 11,qF 13 1 12,q1 14 67 13,qO 15 14] [0,3,15]<|qc 15 (qr [qB 2 false] [2]) .skip)<|.reg [zM 8 3,qk 9 .add 8 1,zM 3 9] [0,3])<|qr [zM 16 0,qL 17 16,qk 18 .leq 17 5,zM 2 18] [2]
theorem K.gK : nI pZ 25 1 0 C.gK [.tmp 2]=true:=lY
def C.gJ : eG:=qs [qB 2 false] [0]<|.seq (qs [qI 3 0] [0,3]<|.block 0<|.loop<|.seq (qs [zM 4 3,zM 5 0,ql 6 5,qb 7 .lss 4 6] [0,3,7]<|qc 7 .skip<|.exit 0)<|.seq (.block 1<|qs [zM 10 0,zM 11 3,zA 12 (.idxs (.t 10)<|.t 11),zA 13 (.JI .i64<|.t 12),⟨none,some 14,.call 66 [.t 13,kI 97,kI 122]⟩,qO 15 14,zM 16 15,qm 16 true 17 0,qm 16 true 18 3,zG 16 true 19 (.idxs (.t 17)<|.t 18),zG 16 true 20 (.JI .i64<|.t 19),⟨(some (16,true)),some 21,.call 66 [.t 20,kI 48,kI 57]⟩,zG 16 true 22 (.not<|.t 21),qP 23 16 22] [0,3,23]<|qc 23 (qr [qB 2 false] [2]) .skip)<|.reg [zM 8 3,qk 9 .add 8 1,zM 3 9] [0,3])<|qr [zM 24 0,ql 25 24,⟨none,some 26,.call 66 [.t 25,kI 1,kI 8]⟩,zM 2 26] [2]
theorem K.gJ : nI pZ 64 1 0 C.gJ [.tmp 2]=true:=lY
def C.jA : eG:=qs [qX 1 10 0,qI 2 0] [1]<|qs [qI 3 1] [1,3]<|.seq (qs [qI 4 0] [1,3,4]<|.block 0<|.loop<|.seq (qs [zM 5 4,qA 6 4 1,qF 7 1 6,qL 8 7,qb 9 .lss 5 8] [1,3,4,9]<|qc 9 .skip<|.exit 0)<|.seq (.block 1<|.reg [zM 12 3,qA 13 4 1,qF 14 1 13,zM 15 4,qD 16 5 14 15,qT 17 5 16,q1 18 104 17,qb 19 .add 12 18,zM 3 19] [1,3,4])<|.reg [zM 10 4,qk 11 .add 10 1,zM 4 11] [1,3,4])<|qr [zM 20 3,zM 2 20] [2]
theorem K.jA : nI pZ 104 1 0 C.jA [.tmp 2]=true:=lY
def C.jQ : eG:=qs [qB 2 false] [0]<|.seq (qs [qI 3 0] [0,3]<|.block 0<|.loop<|.seq (qs [zM 4 3,zM 5 0,qL 6 5,qb 7 .lss 4 6] [0,3,7]<|qc 7 .skip<|.exit 0)<|.seq (.block 1<|.seq (.wJ [(zM 10 0,[]),(zM 11 3,[]),(qD 12 1 10 11,[0,1]),(qF 13 1 12,[0,1,2]),(q1 14 67 13,Uf),(qO 15 14,rr5),(zM 16 15,rr6),(qm 16 false 17 3,rr7),(zG 16 false 18 (.bin .gtr (.t 17)<|kI 0),Zm),(qm 16 false 19 18,rr9),(qm 19 true 20 0,JM),(qm 19 true 21 3,JM),(zG 19 true 22 (.uP 1 (.t 20)<|.t 21),abp),(zG 19 true 23 (.load false 1<|.t 22),agO),(qm 19 true 24 0,JM),(qm 19 true 25 3,JM),(zG 19 true 26 (.bin .sub (.t 25)<|kI 1),[0,1,2,3,4,5,6,7,8,9,15]),(zG 19 true 27 (.uP 1 (.t 24)<|.t 26),[0,1,2,3,4,5,6,7,8,9,14,15,16]),(zG 19 true 28 (.load false 1<|.t 27),[0,1,2,3,4,5,6,7,8,9,14,15,16,17]),(zG 19 true 29 (.bin .leq (.t 23)<|.t 28),afb),(zG 16 false 30 (.pick (.t 19) (.t 29)<|kB false),agS),(qQ 31 16 30,agT)] [0,3,31])<|qc 31 (qr [qB 2 false] [2]) .skip)<|.reg [zM 8 3,qk 9 .add 8 1,zM 3 9] [0,3])<|qr [qB 2 true] [2]
theorem K.jQ : nI pZ 161 1 0 C.jQ [.tmp 2]=true:=lY
def C.lK : eG:=qs [qX 2 10 0,qB 4 false] [1,2]<|.seq (qs [qI 5 0] [1,2,5]<|.block 0<|.loop<|.seq (qs [zM 6 5,qA 7 4 2,qF 8 1 7,qL 9 8,qb 10 .lss 6 9] [1,2,5,10]<|qc 10 .skip<|.exit 0)<|.seq (.block 1<|qs [qA 13 4 2,qF 14 1 13,zM 15 5,qD 16 5 14 15,qT 17 5 16,zM 18 1,qk 19 .sub 18 1,q2 20 103 17 19,qO 21 20] [1,2,5,21]<|qc 21 (qr [qB 4 false] [4]) .skip)<|.reg [zM 11 5,qk 12 .add 11 1,zM 5 12] [1,2,5])<|qr [qB 4 true] [4]
theorem K.lK : nI pZ 160 2 0 C.lK [.tmp 4]=true:=lY
def C.fD : eG:=qs [qX 2 10 0,qB 4 false] [1,2]<|.cut (qs [zM 5 1,qk 6 .eql 5 0,zM 7 6,zG 7 false 8 (.lS 4<|.t 2),zG 7 false 9 (.load false 1<|.t 8),zG 7 false 10 (.len<|.t 9),zG 7 false 11 (.bin .gtr (.t 10)<|kI 6),qQ 12 7 11,zM 13 12,zG 13 false 14 (.lS 0<|.t 2),zG 13 false 15 (.load false 1<|.t 14),zG 13 false 16 (.bin .neq (.t 15)<|kI 1),qm 13 false 17 16,zG 17 true 18 (.lS 1<|.t 2),zG 17 true 19 (.load false 1<|.t 18),zG 17 true 20 (.bin .neq (.t 19)<|kI 0),zG 13 false 21 (.pick (.t 17) (.t 20)<|kB false),qQ 22 13 21,zM 23 22,zG 23 false 24 (.lS 0<|.t 2),zG 23 false 25 (.load false 1<|.t 24),zG 23 false 26 (.bin .neq (.t 25)<|kI 2),qm 23 false 27 26,zG 27 true 28 (.lS 2<|.t 2),zG 27 true 29 (.load false 1<|.t 28),zG 27 true 30 (.bin .neq (.t 29)<|.k<|.c<|.str []),zG 23 false 31 (.pick (.t 27) (.t 30)<|kB false),qQ 32 23 31,zM 33 32,zG 33 false 34 (.lS 0<|.t 2),zG 33 false 35 (.load false 1<|.t 34),zG 33 false 36 (.bin .neq (.t 35)<|kI 4),qm 33 false 37 36,zG 37 true 38 (.lS 3<|.t 2),zG 37 true 39 (.load false 1<|.t 38),zG 37 true 40 (.len<|.t 39),zG 37 true 41 (.bin .gtr (.t 40)<|kI 0),zG 33 false 42 (.pick (.t 37) (.t 41)<|kB false),qQ 43 33 42,zM 44 43,zG 44 false 45 (.lS 0<|.t 2),zG 44 false 46 (.load false 1<|.t 45),zG 44 false 47 (.bin .lss (.t 46)<|kI 3),qm 44 false 48 47,zG 48 true 49 (.lS 4<|.t 2),zG 48 true 50 (.load false 1<|.t 49),zG 48 true 51 (.len<|.t 50),zG 48 true 52 (.bin .gtr (.t 51)<|kI 0),zG 44 false 53 (.pick (.t 48) (.t 52)<|kB false),qQ 54 44 53] [1,2,54]<|qc 54 (qr [qB 4 false] [4]) .skip)<|.seq (qs [qA 55 0 2,qF 56 1 55] [1,2,56]<|.block 0<|qs [qk 58 .eql 56 1,zM 57 58] [1,2,56,57]<|qc 57 (qr [qA 59 1 2,qF 60 1 59,⟨none,some 61,.call 66 [.t 60,kI (-999999),kI 999999]⟩,zM 4 61] [4])<|qs [qk 63 .eql 56 2,zM 62 63] [1,2,56,62]<|qc 62 (qr [qA 64 2 2,qF 65 1 64,q1 66 67 65,zM 4 66] [4])<|qs [qk 68 .eql 56 3,zM 67 68] [1,2,56,67]<|qc 67 (qr [qT 69 5 2,zM 70 1,q2 71 160 69 70,zM 4 71] [4])<|qs [qk 73 .eql 56 4,zM 72 73] [1,2,72]<|qc 72 (qr [qA 74 3 2,qF 75 1 74,qL 76 75,qA 77 4 2,qF 78 1 77,qL 79 78,qb 80 .eql 76 79,zM 81 80,zG 81 true 82 (.lS 3<|.t 2),zG 81 true 83 (.load false 1<|.t 82),⟨(some (81,true)),some 84,.call 161 [.t 83]⟩,qP 85 81 84,zM 86 85,zG 86 true 87 (.load true 5<|.t 2),qm 86 true 88 1,⟨(some (86,true)),some 89,.call 160 [.t 87,.t 88]⟩,qP 90 86 89,zM 4 90] [4]) .skip)<|qr [qA 91 0 2,qF 92 1 91,qk 93 .eql 92 0,zM 4 93] [4]
theorem K.fD : nI pZ 103 2 0 C.fD [.tmp 4]=true:=lY
def C.lD : eG:=qs [qX 1 10 0,qB 2 false] [1]<|qr [qT 3 5 1,⟨none,some 4,.call 103 [.t 3,kI 5]⟩,zM 5 4,zG 5 true 6 (.load true 5<|.t 1),⟨(some (5,true)),some 7,.call 104 [.t 6]⟩,zG 5 true 8 (.bin .leq (.t 7)<|kI 40),qP 9 5 8,zM 2 9] [2]
theorem K.lD : nI pZ 65 1 0 C.lD [.tmp 2]=true:=lY
def C.dR : eG:=qs [qX 1 10 0,qB 2 false] [1]<|.seq (qs [qI 3 0] [1,3]<|.block 0<|.loop<|.seq (qs [zM 5 3,qA 6 0 1,qF 7 1 6,qL 8 7,qb 9 .lss 5 8] [1,3,9]<|qc 9 .skip<|.exit 0)<|.seq (.block 1<|qs [qA 12 0 1,qF 13 1 12,zM 14 3,qD 15 7 13 14,qT 16 7 15,zA 4 (.alloc 11 [.c (.str []),JX 0,JX 0,JX 0,.c (.str []),.wC 1,.wC 5]),qS 7 4 16] [1,3,4]<|.seq (.wJ [(qA 17 0 4,[]),(qF 18 1 17,[0]),(q1 19 64 18,[0,1]),(qO 20 19,[0,1,2]),(zM 21 20,Uf),(zG 21 false 22 (.lS 2<|.t 4),rr5),(zG 21 false 23 (.load true 5<|.t 22),rr6),(⟨(some (21,false)),some 24,.call 65 [.t 23]⟩,rr7),(zG 21 false 25 (.not<|.t 24),Zm),(qQ 26 21 25,rr9),(zM 27 26,JM),(zG 27 false 28 (.lS 1<|.t 4),QB),(zG 27 false 29 (.load false 1<|.t 28),abp),(zG 27 false 30 (.lS 1<|.t 1),QB),(zG 27 false 31 (.load false 1<|.t 30),[0,1,2,3,4,5,6,7,8,9,10,13]),(⟨(some (27,false)),some 32,.call 66 [.t 29,kI 1,.t 31]⟩,afa),(zG 27 false 33 (.not<|.t 32),agP),(qQ 34 27 33,agQ),(zM 35 34,agR),(qm 35 false 36 3,afb),(zG 35 false 37 (.bin .gtr (.t 36)<|kI 0),agS),(qm 35 false 38 37,agT),(zG 38 true 39 (.lS 0<|.t 4),afc),(zG 38 true 40 (.load false 1<|.t 39),ah5),(zG 38 true 41 (.lS 0<|.t 1),afc),(zG 38 true 42 (.load false 1<|.t 41),[0,1,2,3,4,5,6,7,8,9,10,11,12,13,14,15,16,17,18,19,20,21,24]),(qm 38 true 43 3,afc),(zG 38 true 44 (.bin .sub (.t 43)<|kI 1),[0,1,2,3,4,5,6,7,8,9,10,11,12,13,14,15,16,17,18,19,20,21,26]),(zG 38 true 45 (.uP 7 (.t 42)<|.t 44),[0,1,2,3,4,5,6,7,8,9,10,11,12,13,14,15,16,17,18,19,20,21,24,25,26,27]),(zG 38 true 46 (.lS 0<|.t 45),[0,1,2,3,4,5,6,7,8,9,10,11,12,13,14,15,16,17,18,19,20,21,24,25,26,27,28]),(zG 38 true 47 (.load false 1<|.t 46),[0,1,2,3,4,5,6,7,8,9,10,11,12,13,14,15,16,17,18,19,20,21,24,25,26,27,28,29]),(zG 38 true 48 (.bin .leq (.t 40)<|.t 47),ah6),(zG 35 false 49 (.pick (.t 38) (.t 48)<|kB false),ah7),(qQ 50 35 49,ah8)] [1,3,50])<|qc 50 (qr [qB 2 false] [2]) .skip)<|.reg [zM 10 3,qk 11 .add 10 1,zM 3 11] [1,3])<|qr [qA 51 0 1,qF 52 1 51,qL 53 52,qk 54 .leq 53 10,zM 55 54,zG 55 true 56 (.lS 1<|.t 1),zG 55 true 57 (.load false 1<|.t 56),⟨(some (55,true)),some 58,.call 66 [.t 57,kI 0,kI 999]⟩,qP 59 55 58,zM 2 59] [2]
theorem K.dR : nI pZ 24 1 0 C.dR [.tmp 2]=true:=lY
def C.iY : eG:=qs [qX 2 10 0,zA 4 (.mv<|.k<|.wC 6)] [1,2]<|.seq (qs [qT 5 2 2,q1 6 24 5,qO 7 6,zM 8 7,qm 8 false 9 1,⟨(some (8,false)),some 10,.call 25 [.t 9]⟩,zG 8 false 11 (.not<|.t 10),qQ 12 8 11] [1,2,12]<|qc 12 (qr [zA 4 (.mv<|.k<|.wC 6)] [4]) .skip)<|qr [qT 13 2 2,zM 14 1,q2 15 26 13 14,zM 4 15] [4]
theorem K.iY : nI pZ 7 2 0 C.iY [.tmp 4]=true:=lY
section
section
variable {P:Program} {K R:eH->Prop} {st:eH}
theorem acj {du:DU (QA K R)} : QK (QA K R) .normal st du=K st:=by unfold QK;rfl
theorem ack {du:DU (QA K R)} : QK (QA K R) .ret st du=R st:=by unfold QK;rfl
end
theorem X5 {p:Prop}(x:p:=by
 repeat' (
  (try simp -dsimp only[egR,acj,ack,kH.kX,kH.f,kH.rd,LP,Az,lvl,vT,reduceIte,Nat.reduceEqDiff,Nat.reduceAdd,Nat.reduceLeDiff,Nat.reduceBEq,reduceCtorEq,Int.reduceBNe,Int.reduceBEq,Int.reduceLT,Int.reduceLE,Int.reduceNeg,Nat.reduceLT,Nb,Int.reduceToNat,EW, *])
  repeat((with_reducible refine And.intro ?_ ?_);focus first|(show x8 _ _ _ _=true;kernel_rfl)|(show yN _ _=true;kernel_rfl)|omega|assumption|(show _<=maxLen;decide))
  first
  |with_reducible refine adI ?_
  |((with_reducible refine aax ?_);(have zd:=zc;(repeat(first|((first|refine adH (λ_=>zd.1) rfl rfl ?_|refine adJ zd.1 rfl rfl ?_);clear zd)|with_reducible replace zd:=zd.2));(fail_if_success have zz:=zd)))
  |exact zf.f
  |((with_reducible refine adU ?_);(exact ah3 [] [] [] (by rfl) tRE tRE tRE)<;>fail)
  )):p:=x
end
section
def Ev {α:Type}(g:Nat->Option α)(r:α):Prop:=∃N,∀n,N<=n->g n=some r
section
variable {α β:Type} {g g':Nat->Option α} {r s:α}
theorem iD (r:α):Ev (λ_=>some r) r:=⟨0,λ_ _=>rfl⟩
theorem dn (h:s=r):Ev (λ_=>some s) r:=by subst h;exact iD _
theorem cO (h:Ev (λn=>g (n+1)) r):Ev g r:=by obtain⟨N,h⟩:=h;refine⟨N+1,λn hn=>?_⟩;obtain⟨m,rfl⟩:∃m,n=m+1:=⟨n-1,aQ⟩;exact h m aQ
theorem bV {h:Nat->Option β}{k:Nat->β->Option α}{a:β}(h1:Ev h a)(h2:Ev (λn=>k n a) r):Ev (λn=>lJ (h n) (k n)) r:=by obtain⟨N,h1⟩:=h1;obtain⟨M,h2⟩:=h2;refine⟨max N M,λn hn=>?_⟩;show lJ (h n) (k n)=some r;rw[h1 n aQ];exact h2 n aQ
theorem vW {p:Prop}[Decidable p](hp:p)(h:Ev g r):Ev (λn=>Ab.chk p (g n)) r:=by obtain⟨N,h⟩:=h;exact⟨N,λn hn=>by show Ab.chk p (g n)=some r;rw[Ab.chk,aF hp];exact h n hn⟩
theorem jr {c:Bool}(hc:c=true)(h:Ev g r):Ev (λn=>cond c (g n) (g' n)) r:=by subst hc;exact h
theorem jb {c:Bool}(hc:c=false)(h:Ev g' r):Ev (λn=>cond c (g n) (g' n)) r:=by subst hc;exact h
theorem iH {p:Prop}[Decidable p](h:Ev g r)(hp:p:=by omega):Ev (λn=>Ab.chk p (g n)) r:=vW hp h
theorem rU {p:Prop}[Decidable p](h:Ev g r)(hp:p:=by omega):Ev (λn=>cond (decide p) (g n) (g' n)) r:=jr (dK hp) h
theorem tV {p:Prop}[Decidable p](h:Ev g' r)(hp:¬p:=by omega):Ev (λn=>cond (decide p) (g n) (g' n)) r:=jb (bP hp) h
theorem gU {c:Bool}(h:c=true->Ev g r)(h':c=false->Ev g' r):Ev (λn=>cond c (g n) (g' n)) r:=by
 cases c
 ·exact h' rfl
 ·exact h rfl
theorem Ev.eq (h:Ev g r)(e:r=s):Ev g s:=e▸h
theorem Ev.val (h:Ev g r):∃n,g n=some r:=⟨h.choose,h.choose_spec _ (aA _)⟩
end
theorem wrapN {x:Int}{m:Nat}(h:x=(m:Int))(h1:m<9223372036854775808):ah .i64 x=(m:Int):=by rw[Xx aQ aQ,h]
theorem nU {i:Nat}(h1:i+1<9223372036854775808):ah .i64 ((i:Int)+1)=((i+1:Nat):Int):=wrapN aQ h1
theorem Nw (i:Nat)(h1:i+1<9223372036854775808:=by omega):IntKind.wrap .i64 ((i:Int)+1)=((i+1:Nat):Int):=nU h1
theorem jX {α:Type}{l:List α}{i:Nat}(d:α)(h:i<l.length):l.getD i d=l[i]:=by simp[bu,h]
theorem jl {α:Type}{l:List α}{i:Nat}(d:α)(h:i<l.length):l.drop i=l.getD i d::l.drop (i+1):=by rw[jX d h,List.drop_eq_getElem_cons h]
abbrev bl (x y:List UInt8):Bool:=gu x y
theorem Ux (x:List UInt8):bl x []=false:=by cases x<;>rfl
theorem JV (a b:UInt8)(x y:List UInt8):bl (a::x) (b::y)=(decide (a<b)||(a==b&&bl x y)):=rfl
theorem KJ : ∀x:List UInt8,bl x x=false
 |[]=>rfl
 |a::x=>by rw[JV,KJ x];simp
theorem DL : ∀{x y z:List UInt8},bl x y=true->bl y z=true->bl x z=true
 |_,[],_,h,_=>by rw[Ux]at h;cases h
 |_,_::_,[],_,h=>by rw[Ux]at h;cases h
 |[],_::_,_::_,_,_=>rfl
 | a::x,b::y,c::z,h,k=>by
   rw[JV]at *;simp only[eX,af,ak,aK]at *;rcases h with h|⟨rfl,h⟩<;>rcases k with k|⟨rfl,k⟩
   ·exact .inl (UInt8.lt_trans h k)
   ·exact .inl h
   ·exact .inl k
   ·exact .inr ⟨rfl,DL h k⟩
theorem Uy : ∀{x y:List UInt8},bl x y=false->bl y x=false->x=y
 |[],[],_,_=>rfl
 |[],_::_,h,_=>by cases h
 |_::_,[],_,h=>by cases h
 | a::x,b::y,h,k=>by
   rw[JV]at *;simp only[Bool.or_eq_false_iff,mM,bH]at *;obtain⟨h1,h2⟩:=h;obtain⟨k1,k2⟩:=k;have e:a=b:=by apply UInt8.toNat_inj.1;simp only[UInt8.lt_iff_toNat_lt]at h1 k1;omega
   subst e;simp only[beq_self_eq_true,Bool.true_eq_false,false_or]at h2 k2;rw[Uy h2 k2]
theorem KI {x y:List UInt8}(h:bl x y=true):bl y x=false:=by
 cases k:bl y x with
 |false=>rfl
 |true=>have:=DL h k;rw[KJ]at this;cases this
theorem V8 {x y:List UInt8}(h:bl x y=true):x≠y:=by intro e;subst e;rw[KJ]at h;cases h
theorem afU : ∀(x y:List UInt8),lV x y=if bl x y then -1 else if x=y then 0 else 1
 |[],[]=>rfl
 |[],_::_=>rfl
 |_::_,[]=>by simp[lV,Ux]
 | a::x,b::y=>by
   rw[lV,JV];by_cases h:a<b
   ·simp[h]
   ·by_cases k:b<a
    ·have:a≠b:=λe=>(by subst e;exact h k);simp[h,k,this]
    ·have e:a=b:=by
      apply UInt8.toNat_inj.1;simp only[UInt8.lt_iff_toNat_lt]at h k;omega
     subst e;rw[aj h,aj h,afU x y];simp
end
def okB (b:UInt8):Bool:=decide (32<=b.toNat)&&decide (b.toNat<=126)
def PT (s:jE):Bool:=s.all okB&&decide (s.length<=12)
def PP (p:List jE):Bool:=p.all PT&&decide (p.length<=5)
def Asc : List jE->Bool
 |[]=>true
 |[_]=>true
 |x::y::r=>gu x y&&Asc (y::r)
def big : Nat:=4611686018427387904
theorem N8 (b:UInt8):ah .i64 (b.toNat:Int)=(b.toNat:Int):=by have:=b.toNat_lt;exact wrapN rfl aQ
theorem T.iC (a lo hi:Int):Ev (λn=>G.iC n a lo hi) (decide (lo<=a)&&decide (a<=hi)):=by
 refine cO ?_;simp only[G.iC];refine gU (λh=>?_) (λh=>?_)
 ·exact dn (by rw[h,dA])
 ·exact dn (by rw[h,yD])
theorem T.eU.L1 (s:jE)(hs:s.length<big):∀(k i:Nat),i+k=s.length->Ev (λn=>G.eU.L1 n s i) ((s.drop i).all okB&&decide (s.length<=12)):=by
 unfold big at hs;intro k
 induction k with
 | zero=>intro i hi;refine cO ?_;simp only[G.eU.L1];refine jb (by simp;omega) (dn ?_);rw[aV aQ];simp;omega
 | succ k ih=>
   intro i hi;refine cO ?_;simp only[G.eU.L1];refine jr (by simp;omega) (iH ?_);refine bV (T.iC _ _ _) ?_;rw[jl (0:UInt8) (by omega:i<s.length),iy,ax,N8];have e:(decide ((32:Int)<=((s.getD i 0).toNat:Int))&&decide (((s.getD i 0).toNat:Int)<=126))=okB (s.getD i 0):=(by unfold okB;congr 1<;>(apply decide_eq_decide.2;omega));rw[e];refine gU (λh=>?_) (λh=>?_)
   ·rw[nU aQ,h,dA];exact ih (i+1) aQ
   ·exact dn (by rw[h];rfl)
theorem T.eU (s:jE)(hs:s.length<big):Ev (λn=>G.eU n s) (PT s):=by refine cO ?_;simp only[G.eU];exact T.eU.L1 s hs s.length 0 aQ
theorem T.dH.L1 (s:jE)(hs:s.length<big):∀(k i:Nat),i+k=s.length->Ev (λn=>G.dH.L1 n s i) ((s.drop i).all okB):=by
 unfold big at hs;intro k
 induction k with
 | zero=>intro i hi;refine cO ?_;simp only[G.dH.L1];refine jb (by simp;omega) (dn ?_);rw[aV aQ];rfl
 | succ k ih=>
   intro i hi;refine cO ?_;simp only[G.dH.L1];rw[jl (0:UInt8) (by omega:i<s.length),iy,ax];refine jr (by simp;omega) (iH ?_);refine gU (λh=>?_) (λh=>?_)
   ·refine dn ?_;have:okB (s.getD i 0)=false:=by
     simp only[ak]at h;simp only[okB,mM,bH];omega
    rw[this];rfl
   ·refine iH ?_;refine gU (λk=>?_) (λk=>?_)
    ·refine dn ?_;have:okB (s.getD i 0)=false:=by
      simp only[ak]at k;simp only[okB,mM,bH];omega
     rw[this];rfl
    ·have:okB (s.getD i 0)=true:=by
      simp only[bH]at h k;simp only[okB,af,ak];omega
     rw[this,dA,nU aQ];exact ih (i+1) aQ
theorem T.dH (s:jE)(hs:s.length<big):Ev (λn=>G.dH n s) (PT s):=by
 refine cO ?_;simp only[G.dH];refine gU (λh=>?_) (λh=>?_)
 ·simp only[ak]at h;refine dn ?_;have:decide (s.length<=12)=false:=by simp;omega
  rw[PT,this,pY]
 ·simp only[bH]at h;refine(T.dH.L1 s hs s.length 0 aQ).eq ?_;have:decide (s.length<=12)=true:=by simp;omega
  rw[PT,this,qH,iL]
def Sm (l:List jE):Prop:=l.length<big/\∀s,s∈l->s.length<big
theorem Sm.get {l:List jE}(h:Sm l){i:Nat}(hi:i<l.length):(l.getD i default).length<big:=by rw[jX _ hi];exact h.2 _ (dB hi)
theorem T.gK.L1 (p:List jE)(hp:Sm p):∀(k i:Nat),i+k=p.length->Ev (λn=>G.gK.L1 n p i) ((p.drop i).all PT&&decide (p.length<=5)):=by
 have hl:=hp.1;unfold big at hl;intro k
 induction k with
 | zero=>intro i hi;refine cO ?_;simp only[G.gK.L1];refine jb (by simp;omega) (dn ?_);rw[aV aQ];simp;omega
 | succ k ih=>
   intro i hi;refine cO ?_;simp only[G.gK.L1];refine jr (by simp;omega) (iH ?_);rw[jl (default:jE) (by omega:i<p.length),iy,ax];refine bV (T.eU _ (hp.get aQ)) ?_;refine gU (λh=>?_) (λh=>?_)
   ·rw[nU aQ,h,dA];exact ih (i+1) aQ
   ·exact dn (by rw[h];rfl)
theorem T.gK (p:List jE)(hp:Sm p):Ev (λn=>G.gK n p) (PP p):=by refine cO ?_;simp only[G.gK];exact T.gK.L1 p hp p.length 0 aQ
theorem T.jk.L1 (p:List jE)(hp:Sm p):∀(k i:Nat),i+k=p.length->Ev (λn=>G.jk.L1 n p i) ((p.drop i).all PT):=by
 have hl:=hp.1;unfold big at hl;intro k
 induction k with
 | zero=>intro i hi;refine cO ?_;simp only[G.jk.L1];refine jb (by simp;omega) (dn ?_);rw[aV aQ];rfl
 | succ k ih=>
   intro i hi;refine cO ?_;simp only[G.jk.L1];refine jr (by simp;omega) (iH ?_);rw[jl (default:jE) (by omega:i<p.length),iy,ax];refine bV (T.dH _ (hp.get aQ)) ?_;refine gU (λh=>?_) (λh=>?_)
   ·rw[nU aQ,h,dA];exact ih (i+1) aQ
   ·exact dn (by rw[h];rfl)
theorem T.jk (p:List jE)(hp:Sm p):Ev (λn=>G.jk n p) (PP p):=by
 refine cO ?_;simp only[G.jk];refine gU (λh=>?_) (λh=>?_)
 ·simp only[ak]at h;refine dn ?_;have:decide (p.length<=5)=false:=by simp;omega
  rw[PP,this,pY]
 ·simp only[bH]at h;refine(T.jk.L1 p hp p.length 0 aQ).eq ?_;have:decide (p.length<=5)=true:=by simp;omega
  rw[PP,this,qH,iL]
def NM (l:List jE):Bool:=l.all PT&&Asc l
theorem drop_pred {l:List jE}{i:Nat}(h0:0<i)(h:i<l.length):l.drop (i-1)=l.getD (i-1) default::l.getD i default::l.drop (i+1):=by rw[jl (default:jE) (by omega:i-1<l.length),show i-1+1=i by omega,jl (default:jE) h]
theorem T.jQ.L1 (l:List jE)(hp:Sm l):∀(k i:Nat),i+k=l.length->Ev (λn=>G.jQ.L1 n l i) ((l.drop i).all PT&&Asc (l.drop (i-1))):=by
 have hl:=hp.1;unfold big at hl;intro k
 induction k with
 | zero=>
   intro i hi;refine cO ?_;simp only[G.jQ.L1];refine jb (by simp;omega) (dn ?_);rw[aV aQ];by_cases h0:i=0
   ·rw[aV aQ];rfl
   ·rw[jl (default:jE) (by omega:i-1<l.length),aV aQ];rfl
 | succ k ih=>
   intro i hi;refine cO ?_;simp only[G.jQ.L1];refine jr (by simp;omega) (iH ?_);rw[jl (default:jE) (by omega:i<l.length),iy,ax];refine bV (T.eU _ (hp.get aQ)) ?_;refine gU (λh=>?_) (λh=>?_)
   ·rw[h,dA,nU aQ];refine gU (λh0=>?_) (λh0=>?_)
    ·simp only[ak]at h0;have e:ah .i64 ((i:Int)-1)=((i-1:Nat):Int):=wrapN aQ aQ;rw[e,ax];refine iH (iH ?_);rw[drop_pred aQ aQ,Asc];have hd:l.getD i default::l.drop (i+1)=l.drop (i+1-1):=(by rw[sH,<- jl (default:jE) (by omega:i<l.length)]);refine gU (λh1=>?_) (λh1=>?_)
     ·exact dn (by rw[show gu (l.getD (i-1) default) (l.getD i default)=false from KI h1];simp)
     ·refine gU (λh2=>?_) (λh2=>?_)
      ·rw[aK]at h2;exact dn (by rw[show gu (l.getD (i-1) default) (l.getD i default)=false by rw[h2];exact KJ _];simp)
      ·have:gu (l.getD (i-1) default) (l.getD i default)=true:=by
        cases hb:gu (l.getD (i-1) default) (l.getD i default)with
        |true=>rfl
        |false=>rw[Uy h1 hb]at h2;simp at h2
       rw[this,dA,hd];exact ih (i+1) aQ
    ·simp only[bH]at h0;have:i=0:=(by omega);subst this;exact ih 1 aQ
   ·exact dn (by rw[h];rfl)
theorem T.jQ (l:List jE)(hp:Sm l):Ev (λn=>G.jQ n l) (NM l):=by refine cO ?_;simp only[G.jQ];exact T.jQ.L1 l hp l.length 0 aQ
theorem T.gV.L1 (l:List jE)(hp:Sm l):∀(k i:Nat),i+k=l.length->Ev (λn=>G.gV.L1 n l i) ((l.drop i).all PT&&Asc (l.drop (i-1))):=by
 have hl:=hp.1;unfold big at hl;intro k
 induction k with
 | zero=>
   intro i hi;refine cO ?_;simp only[G.gV.L1];refine jb (by simp;omega) (dn ?_);rw[aV aQ];by_cases h0:i=0
   ·rw[aV aQ];rfl
   ·rw[jl (default:jE) (by omega:i-1<l.length),aV aQ];rfl
 | succ k ih=>
   intro i hi;refine cO ?_;simp only[G.gV.L1];refine jr (by simp;omega) (iH ?_);rw[jl (default:jE) (by omega:i<l.length),iy,ax];refine bV (T.dH _ (hp.get aQ)) ?_;refine gU (λh=>?_) (λh=>?_)
   ·rw[h,dA,nU aQ];refine gU (λh0=>?_) (λh0=>?_)
    ·simp only[ak]at h0;have e:ah .i64 ((i:Int)-1)=((i-1:Nat):Int):=wrapN aQ aQ;rw[e,ax];refine iH ?_;rw[drop_pred aQ aQ,Asc];have hd:l.getD i default::l.drop (i+1)=l.drop (i+1-1):=(by rw[sH,<- jl (default:jE) (by omega:i<l.length)]);refine gU (λh1=>?_) (λh1=>?_)
     ·rw[h1,dA,hd];exact ih (i+1) aQ
     ·exact dn (by rw[h1];simp)
    ·simp only[bH]at h0;have:i=0:=(by omega);subst this;exact ih 1 aQ
   ·exact dn (by rw[h];rfl)
theorem T.gV (l:List jE)(hp:Sm l):Ev (λn=>G.gV n l) (NM l&&decide (l.length<=6)):=by
 refine cO ?_;simp only[G.gV];refine gU (λh=>?_) (λh=>?_)
 ·simp only[ak]at h;refine dn ?_;have:decide (l.length<=6)=false:=by simp;omega
  rw[this,pY]
 ·simp only[bH]at h;refine(T.gV.L1 l hp l.length 0 aQ).eq ?_;have:decide (l.length<=6)=true:=by simp;omega
  rw[NM,this,qH,iL]
def Fine (B:Nat):Nat->aN->Prop
 |0,_=>False
 |d+1,n=>n.nJ.length<=B/\n.dQ.length<=B/\(∀s,s∈n.dQ->s.length<=B)/\n.bQ.length<=B/\(n.fZ=4->n.bQ.length<=n.dQ.length)/\∀k,k∈n.bQ->Fine B d k
def tq (B:Nat):Nat->aN->Prop
 |0,_=>False
 |d+1,n=>n.nJ.length<=B/\n.dQ.length<=B/\(∀s,s∈n.dQ->s.length<=B)/\n.bQ.length<=B/\True/\∀k,k∈n.bQ->tq B d k
theorem Fine.fin0 {B:Nat} : ∀{d:Nat} {n:aN},Fine B d n->tq B d n
 |0,_,h=>h
 |d+1,n,⟨h1,h2,h3,h4,_,h6⟩=>⟨h1,h2,h3,h4,trivial,λk hk=>(h6 k hk).fin0⟩
theorem Fine.mono {B C:Nat}(hB:B<=C):∀{d e:Nat} {n:aN},d<=e->Fine B d n->Fine C e n
 |0,_,_,_,h=>h.elim
 |d+1,0,_,hd,_=>by omega
 | d+1,e+1,n,hd,h=>by obtain⟨h1,h2,h3,h4,h5,h6⟩:=h;exact⟨aQ,aQ,λs hs=>dh (h3 s hs) hB,aQ,h5,λk hk=>(h6 k hk).mono hB aQ⟩
theorem tq.mono {B C:Nat}(hB:B<=C):∀{d e:Nat} {n:aN},d<=e->tq B d n->tq C e n
 |0,_,_,_,h=>h.elim
 |d+1,0,_,hd,_=>by omega
 | d+1,e+1,n,hd,h=>by obtain⟨h1,h2,h3,h4,h5,h6⟩:=h;exact⟨aQ,aQ,λs hs=>dh (h3 s hs) hB,aQ,h5,λk hk=>(h6 k hk).mono hB aQ⟩
def lim : Nat:=4294967296
theorem Fine.sm {B d:Nat}{n:aN}(hB:B<=lim)(h:Fine B d n):Sm n.dQ:=by
 cases d with
 |zero=>exact h.elim
 | succ d=>obtain⟨h1,h2,h3,h4,h5,h6⟩:=h;unfold lim at hB;exact⟨by unfold big;omega,λs hs=>by have:=h3 s hs;unfold big;omega⟩
theorem tq.sm {B d:Nat}{n:aN}(hB:B<=lim)(h:tq B d n):Sm n.dQ:=by
 cases d with
 |zero=>exact h.elim
 | succ d=>obtain⟨h1,h2,h3,h4,h5,h6⟩:=h;unfold lim at hB;exact⟨by unfold big;omega,λs hs=>by have:=h3 s hs;unfold big;omega⟩
theorem Fine.text {B d:Nat}{n:aN}(hB:B<=lim)(h:Fine B d n):n.nJ.length<big:=by
 cases d with
 |zero=>exact h.elim
 |succ d=>obtain⟨h1,_⟩:=h;unfold lim at hB;unfold big;omega
theorem tq.text {B d:Nat}{n:aN}(hB:B<=lim)(h:tq B d n):n.nJ.length<big:=by
 cases d with
 |zero=>exact h.elim
 |succ d=>obtain⟨h1,_⟩:=h;unfold lim at hB;unfold big;omega
theorem Fine.kids {B d:Nat}{n:aN}(h:Fine B d n):n.bQ.length<=B:=by
 cases d with
 |zero=>exact h.elim
 |succ d=>exact h.2.2.2.1
theorem tq.kids {B d:Nat}{n:aN}(h:tq B d n):n.bQ.length<=B:=by
 cases d with
 |zero=>exact h.elim
 |succ d=>exact h.2.2.2.1
theorem Fine.names {B d:Nat}{n:aN}(h:Fine B d n):n.dQ.length<=B:=by
 cases d with
 |zero=>exact h.elim
 |succ d=>exact h.2.1
theorem tq.names {B d:Nat}{n:aN}(h:tq B d n):n.dQ.length<=B:=by
 cases d with
 |zero=>exact h.elim
 |succ d=>exact h.2.1
theorem Fine.map {B d:Nat}{n:aN}(h:Fine B d n)(hk:n.fZ=4):n.bQ.length<=n.dQ.length:=by
 cases d with
 |zero=>exact h.elim
 |succ d=>exact h.2.2.2.2.1 hk
theorem Fine.kid {B d:Nat}{n:aN}(h:Fine B (d+1) n){i:Nat}(hi:i<n.bQ.length):Fine B d (n.bQ.getD i default):=by rw[jX _ hi];exact h.2.2.2.2.2 _ (dB hi)
theorem tq.kid {B d:Nat}{n:aN}(h:tq B (d+1) n){i:Nat}(hi:i<n.bQ.length):tq B d (n.bQ.getD i default):=by rw[jX _ hi];exact h.2.2.2.2.2 _ (dB hi)
def Parts (n:aN):Bool:=
 (n.fZ==1||n.xu==0)&&(n.fZ==2||n.nJ==[])&&(n.fZ==4||n.dQ.length==0) &&
 (if n.fZ=0 then n.bQ.length==0 else if n.fZ=1 then(decide (-999999<=n.xu)&&decide (n.xu<=999999))&&n.bQ.length==0 else if n.fZ=2 then PT n.nJ&&n.bQ.length==0
  else if n.fZ=3 then decide (n.bQ.length<=6)else if n.fZ=4 then NM n.dQ&&decide (n.dQ.length<=6)&&n.bQ.length==n.dQ.length else false)
def Shape : Nat->aN->Bool
 |0,_=>false
 |d+1,n=>Parts n&&n.bQ.all (Shape d)
theorem ilen {a b:Nat} : ((a:Int)==(b:Int))=(a==b):=by rw[rG];simp;omega
theorem agq {a:Nat} : ((a:Int)==0)=(a==0):=by rw[rG];simp
theorem Ec {a b:Nat} : decide ((a:Int)<=(b:Int))=decide (a<=b):=by rw[rG];simp
def Fq (n:aN):Bool:=
 (n.fZ==4||n.dQ.length==0) &&
 (if n.fZ=0 then n.bQ.length==0 else if n.fZ=1 then(decide (-999999<=n.xu)&&decide (n.xu<=999999))&&n.bQ.length==0 else if n.fZ=2 then PT n.nJ&&n.bQ.length==0
  else if n.fZ=3 then decide (n.bQ.length<=6)else if n.fZ=4 then NM n.dQ&&decide (n.dQ.length<=6)&&n.bQ.length==n.dQ.length else false)
theorem Zt (n:aN):Parts n=((n.fZ==1||n.xu==0)&&(n.fZ==2||n.nJ==[])&&Fq n):=by unfold Parts Fq;simp only[Bool.and_assoc]
theorem T0.dJ.K1 {B d:Nat}{n:aN}(hB:B<=lim)(h:tq B d n):Ev (λf=>G.dJ.K1 f n) (Fq n):=by
 refine cO ?_;simp only[G.dJ.K1];have ht:=T.dH _ (h.text hB);have hn:=T.gV _ (h.sm hB);have h0:decide ((0:Int)<(n.dQ.length:Int)) = !(n.dQ.length==0):=by cases hq:n.dQ.length<;>simp
 have h6:decide ((n.bQ.length:Int)<=6)=decide (n.bQ.length<=6):=by rw[rG];simp;omega
 rw[h0];have tail:Ev (λf=>cond (n.fZ==0) (some ((n.bQ.length:Int)==0)) (cond (n.fZ==1) (cond (decide ((-999999)<=n.xu)) (cond (decide (n.xu<=999999)) (some ((n.bQ.length:Int)==0)) (some false)) (some false))
  (cond (n.fZ==2) (lJ (G.dH f n.nJ) λv3=>cond v3 (some ((n.bQ.length:Int)==0)) (some false))
  (cond (n.fZ==3) (some (decide ((n.bQ.length:Int)<=6))) (cond (n.fZ==4) (lJ (G.gV f n.dQ) λv4=>cond v4 (some ((n.bQ.length:Int)==(n.dQ.length:Int))) (some false)) (some false))))))
  (if n.fZ=0 then n.bQ.length==0 else if n.fZ=1 then(decide (-999999<=n.xu)&&decide (n.xu<=999999))&&n.bQ.length==0 else if n.fZ=2 then PT n.nJ&&n.bQ.length==0
   else if n.fZ=3 then decide (n.bQ.length<=6)else if n.fZ=4 then NM n.dQ&&decide (n.dQ.length<=6)&&n.bQ.length==n.dQ.length else false):=by
  rw[agq,ilen,h6];refine gU (λe=>dn ?_) (λe0=>?_)
  ·rw[aF (by simpa using e)]
  rw[aj (by simpa using e0)];refine gU (λe=>?_) (λe1=>?_)
  ·rw[aF (by simpa using e)];refine gU (λk=>gU (λk2=>dn ?_) (λk2=>dn ?_)) (λk=>dn ?_)
   ·rw[k,k2];simp
   ·rw[k2];simp
   ·rw[k];simp
  rw[aj (by simpa using e1)];refine gU (λe=>?_) (λe2=>?_)
  ·rw[aF (by simpa using e)];refine bV ht (gU (λk=>dn ?_) (λk=>dn ?_))
   ·rw[k,dA]
   ·rw[k,yD]
  rw[aj (by simpa using e2)];refine gU (λe=>dn ?_) (λe3=>?_)
  ·rw[aF (by simpa using e)]
  rw[aj (by simpa using e3)];refine gU (λe=>?_) (λe4=>dn ?_)
  ·rw[aF (by simpa using e)];refine bV hn (gU (λk=>dn ?_) (λk=>dn ?_))
   ·rw[k,dA]
   ·rw[k,yD]
  ·rw[aj (by simpa using e4)]
 refine gU (λe=>?_) (λe=>?_)
 ·have e':(n.fZ==4)=false:=by simpa using e
  refine gU (λk=>dn ?_) (λk=>?_)
  ·rw[Bool.not_eq_true']at k;rw[Fq,e',k];rfl
  ·rw[Bool.not_eq_false']at k;exact tail.eq (by rw[Fq,k,tZ,dA])
 ·have e':(n.fZ==4)=true:=by simpa using e
  exact tail.eq (by rw[Fq,e',uf,dA])
theorem T0.dJ {B d:Nat}{n:aN}(hB:B<=lim)(h:tq B d n):Ev (λf=>G.dJ f n) (Parts n):=by
 refine cO ?_;simp only[G.dJ];have hk:=T0.dJ.K1 hB h;rw[Zt];have tail:Ev (λf=>cond (n.fZ != 2) (cond (n.nJ==[]) (G.dJ.K1 f n) (some false)) (G.dJ.K1 f n)) ((n.fZ==2||n.nJ==[])&&Fq n):=by
  refine gU (λe=>?_) (λe=>?_)
  ·have e':(n.fZ==2)=false:=(by simpa using e);refine gU (λk=>?_) (λk=>dn ?_)
   ·exact hk.eq (by rw[k,tZ,dA])
   ·rw[e',k];rfl
  ·have e':(n.fZ==2)=true:=(by simpa using e);exact hk.eq (by rw[e',uf,dA])
 refine gU (λe=>?_) (λe=>?_)
 ·have e':(n.fZ==1)=false:=by simpa using e
  refine gU (λk=>dn ?_) (λk=>?_)
  ·have:(n.xu==0)=false:=(by simpa using k);rw[e',this];rfl
  ·have:(n.xu==0)=true:=(by simpa using k);exact tail.eq (by rw[this,tZ,dA])
 ·have e':(n.fZ==1)=true:=by simpa using e
  exact tail.eq (by rw[e',uf,dA])
theorem T0.lK.L1 {B D d:Nat}{n:aN}(hB:B<=lim)(h:tq B (D+1) n)(hd:d<1000)(hs:∀k,k∈n.bQ->Ev (λf=>G.fD f k d) (Shape d k)) :
 ∀(k i:Nat),i+k=n.bQ.length->Ev (λf=>G.lK.L1 f n ((d+1:Nat):Int) i) ((n.bQ.drop i).all (Shape d)):=by
 have hl:=h.kids;unfold lim at hB;intro k
 induction k with
 | zero=>intro i hi;refine cO ?_;simp only[G.lK.L1];refine jb (by simp;omega) (dn ?_);rw[aV aQ];rfl
 | succ k ih=>
   intro i hi;refine cO ?_;simp only[G.lK.L1];refine jr (by simp;omega) (iH ?_);rw[jl (default:aN) (by omega:i<n.bQ.length),iy,ax];have e:ah .i64 (((d+1:Nat):Int)-1)=(d:Int):=wrapN aQ aQ;rw[e];refine bV (hs _ (by rw[jX _ (by omega:i<n.bQ.length)];exact dB _)) ?_;refine gU (λh=>?_) (λh=>?_)
   ·rw[nU aQ,h,dA];exact ih (i+1) aQ
   ·exact dn (by rw[h];rfl)
theorem T0.lK {B D d:Nat}{n:aN}(hB:B<=lim)(h:tq B (D+1) n)(hd:d<1000)(hs:∀k,k∈n.bQ->Ev (λf=>G.fD f k d) (Shape d k)) :
 Ev (λf=>G.lK f n ((d+1:Nat):Int)) (n.bQ.all (Shape d)):=by
 refine cO ?_;simp only[G.lK];exact T0.lK.L1 hB h hd hs n.bQ.length 0 aQ
def ShK (d:Nat)(n:aN):Bool:=
 if n.fZ=1 then decide (-999999<=n.xu)&&decide (n.xu<=999999)else if n.fZ=2 then PT n.nJ else if n.fZ=3 then n.bQ.all (Shape d)
 else if n.fZ=4 then n.dQ.length==n.bQ.length&&NM n.dQ&&n.bQ.all (Shape d)else n.fZ==0
theorem T0.fD.K1 {B D d:Nat}{n:aN}(hB:B<=lim)(h:tq B (D+1) n)(hd:d<1000)(hs:∀k,k∈n.bQ->Ev (λf=>G.fD f k d) (Shape d k)) :
 Ev (λf=>G.fD.K1 f n ((d+1:Nat):Int)) (ShK d n):=by
 refine cO ?_;simp only[G.fD.K1];have hk:=T0.lK hB h hd hs;unfold ShK;refine gU (λe=>?_) (λe1=>?_)
 ·rw[aF (by simpa using e)];exact bV (T.iC _ _ _) (iD _)
 rw[aj (by simpa using e1)];refine gU (λe=>?_) (λe2=>?_)
 ·rw[aF (by simpa using e)];exact bV (T.eU _ (h.text hB)) (iD _)
 rw[aj (by simpa using e2)];refine gU (λe=>?_) (λe3=>?_)
 ·rw[aF (by simpa using e)];exact bV hk (iD _)
 rw[aj (by simpa using e3)];refine gU (λe=>?_) (λe4=>?_)
 ·rw[aF (by simpa using e),ilen];refine gU (λk=>?_) (λk=>dn (by rw[k];rfl));refine bV (T.jQ _ (h.sm hB)) ?_;refine gU (λk2=>?_) (λk2=>dn (by rw[k2];simp));exact bV hk (dn (by rw[k,k2];rfl))
 ·exact dn (by rw[aj (by simpa using e4)])
theorem agr {a:Nat} : decide ((0:Int)<(a:Int)) = !(a==0):=by cases a<;>simp
theorem UQ {c a:Bool}{g:Nat->Option Bool}{V:Bool}(h:Ev g V):Ev (λf=>cond c (cond a (some false) (g f)) (g f)) ((!c || !a)&&V):=by
 cases c<;>cases a
 ·exact h
 ·exact h
 ·exact h
 ·exact iD _
theorem acF {c a:Bool}{g:Nat->Option Bool}{V:Bool}(h:Ev g V):Ev (λf=>cond c (cond a (g f) (some false)) (g f)) ((!c||a)&&V):=by
 cases c<;>cases a
 ·exact h
 ·exact h
 ·exact iD _
 ·exact h
theorem FX {n:aN}(h:6<n.bQ.length):Parts n=false:=by
 have e0:(n.bQ.length==0)=false:=beq_eq_false_iff_ne.2 aQ;have e6:decide (n.bQ.length<=6)=false:=by simp;omega
 have e4:(NM n.dQ&&decide (n.dQ.length<=6)&&n.bQ.length==n.dQ.length)=false:=by
  cases h1:decide (n.dQ.length<=6)with
  |false=>simp
  | true=>have:(n.bQ.length==n.dQ.length)=false:=(by simp at h1;simp;omega);rw[this,pY]
 unfold Parts;rw[e0,e6,e4];simp
theorem abt {d:Nat}{n:aN}(h:n.bQ.length<=6) :
 ((!(n.fZ != 1) || !(n.xu != 0))&&((!(n.fZ != 2)||n.nJ==[])&&((!(n.fZ != 4) || !(!(n.dQ.length==0)))&&((!(decide (n.fZ<3)) || !(!(n.bQ.length==0)))&&ShK d n))))=Shape (d+1) n:=by
 have e6:decide (n.bQ.length<=6)=true:=by simp;omega
 have hall:n.bQ.length=0->n.bQ.all (Shape d)=true:=λe=>by rw[dL e];rfl
 have hb:∀x y:Int,(!(x != y))=(x==y):=λx y=>by simp[bne]
 rw[hb,hb,hb,hb];unfold Shape Parts ShK;simp only[Bool.not_not,Bool.and_assoc]
 congr 1
 congr 1
 congr 1
 rw[e6];by_cases k0:n.fZ=0
 ·simp only[k0];cases hz:(n.bQ.length==0)<;>simp_all
 by_cases k1:n.fZ=1
 ·simp only[k1];cases hz:(n.bQ.length==0)<;>simp_all
 by_cases k2:n.fZ=2
 ·simp only[k2];cases hz:(n.bQ.length==0)<;>simp_all
 by_cases k3:n.fZ=3
 ·simp[k3]
 by_cases k4:n.fZ=4
 ·simp only[k4];have hc:(n.bQ.length==n.dQ.length)=(n.dQ.length==n.bQ.length):=by rw[rG];simp;omega
  rw[hc];cases hz:(n.dQ.length==n.bQ.length)
  ·simp
  ·have:decide (n.dQ.length<=6)=true:=(by simp at hz;simp;omega);simp[this]
 ·simp[k0,k1,k2,k3,k4]
def Cnt : Nat->aN->Nat
 |0,_=>0
 |d+1,n=>1+(n.bQ.map (Cnt d)).sum
theorem vS {d:Nat}{n:aN}(h:Shape (d+1) n=true):Parts n=true:=by unfold Shape at h;simp only[af]at h;exact h.1
theorem uK {d:Nat}{n:aN}(h:Shape (d+1) n=true):∀k,k∈n.bQ->Shape d k=true:=by unfold Shape at h;simp only[af]at h;exact aB.1 h.2
theorem Ce {d:Nat}{n:aN}(h:Shape d n=true):n.bQ.length<=6:=by
 cases d with
 |zero=>cases h
 | succ d=>
   by_cases k:n.bQ.length<=6
   ·exact k
   ·have:=FX (n:=n) aQ;rw[vS h]at this;cases this
theorem abG {α:Type}(f:α->Nat)(m:Nat):∀l:List α,(∀x,x∈l->f x<=m)->(l.map f).sum<=l.length*m
 |[],_=>by simp
 | x::l,h=>by have h1:=abG f m l (λy hy=>h y (by simp[hy]));have h2:=h x kY;simp only[bf,qK,jU,Nat.add_mul];omega
theorem cnt_le : ∀{d:Nat} {n:aN},Shape d n=true->Cnt d n<=7^d
 |0,_,h=>by cases h
 | d+1,n,h=>by have hk:=uK h;have:=abG (Cnt d) (7^d) n.bQ (λk hk'=>cnt_le (hk k hk'));have h6:=Ce h;have hm:n.bQ.length*7^d<=6*7^d:=Nat.mul_le_mul_right _ h6;have hp:1<=7^d:=Nat.one_le_pow _ _ aQ;unfold Cnt;rw[Nat.pow_succ];omega
theorem abk {d:Nat}(h:d<=5):7^d<=16807:=dh (Nat.pow_le_pow_right aQ h) zx
theorem T0.fD {B:Nat}(hB:B<=lim):∀(d D:Nat) (n:aN),d<1000->tq B D n->Ev (λf=>G.fD f n (d:Int)) (Shape d n):=by
 intro d
 induction d with
 | zero=>intro D n _ h;refine cO ?_;simp only[G.fD];exact jr kY (iD _)
 | succ d ih=>
   intro D n hd h;cases D with
   |zero=>exact h.elim
   |succ D=>
   have hK:=T0.fD.K1 (d:=d) hB h aQ (λk hk=>ih D k aQ (h.2.2.2.2.2 k hk));refine cO ?_;simp only[G.fD];rw[agr,agr];have t1:=UQ (c:=decide (n.fZ<3)) (a:= !(n.bQ.length==0)) hK;have t2:=UQ (c:=n.fZ != 4) (a:= !(n.dQ.length==0)) t1;have t3:=acF (c:=n.fZ != 2) (a:=n.nJ==[]) t2;have t4:=UQ (c:=n.fZ != 1) (a:=n.xu != 0) t3;refine jb (by simp;omega) ?_;refine gU (λe=>dn ?_) (λe=>t4.eq ?_)
   ·simp only[ak]at e;rw[Shape,FX aQ];rfl
   ·simp only[bH]at e;exact abt aQ
theorem T0.jA.L1 {B D d:Nat}{n:aN}(hB:B<=lim)(h:tq B (D+1) n)(hs:∀k,k∈n.bQ->Ev (λf=>G.jA f k) ((Cnt d k:Nat):Int)) :
 ∀(k i c:Nat),i+k=n.bQ.length->c+((n.bQ.drop i).map (Cnt d)).sum<big->Ev (λf=>G.jA.L1 f n (c:Int) i) ((c+((n.bQ.drop i).map (Cnt d)).sum:Nat):Int):=by
 have hl:=h.kids;unfold lim at hB;unfold big;intro k
 induction k with
 | zero=>intro i c hi hc;refine cO ?_;simp only[G.jA.L1];refine jb (by simp;omega) (dn ?_);rw[aV aQ];rfl
 | succ k ih=>intro i c hi;rw[jl (default:aN) (by omega:i<n.bQ.length),bf,qK];intro hc;refine cO ?_;simp only[G.jA.L1];refine jr (by simp;omega) (iH ?_);rw[ax];refine bV (hs _ (by rw[jX _ (by omega:i<n.bQ.length)];exact dB _)) ?_;rw[nU aQ,wrapN (m:=c+Cnt d (n.bQ.getD i default)) aQ aQ];exact(ih (i+1) (c+Cnt d (n.bQ.getD i default)) aQ aQ).eq (by congr 1;omega)
theorem T0.jA {B:Nat}(hB:B<=lim):∀(d D:Nat) (n:aN),d<=5->tq B D n->Shape d n=true->Ev (λf=>G.jA f n) ((Cnt d n:Nat):Int):=by
 intro d
 induction d with
 |zero=>intro D n _ _ h;cases h
 | succ d ih=>
   intro D n hd h hS;cases D with
   |zero=>exact h.elim
   |succ D=>
   have hS':=uK hS;refine cO ?_;simp only[G.jA];have:=cnt_le (d:=d+1) (n:=n) hS;have hp:=abk hd;refine(T0.jA.L1 hB h (λk hk=>ih D k aQ (h.2.2.2.2.2 k hk) (hS' k hk)) n.bQ.length 0 1 aQ ?_).eq rfl;rw[iL];show Cnt (d+1) n<big;unfold big;omega
def Val (n:aN):Bool:=Shape 5 n&&decide (Cnt 5 n<=40)
theorem T0.lD {B D:Nat}{n:aN}(hB:B<=lim)(h:tq B D n):Ev (λf=>G.lD f n) (Val n):=by refine cO ?_;simp only[G.lD];refine bV (T0.fD hB 5 D n aQ h) (gU (λe=>?_) (λe=>dn (by rw[Val,e];rfl)));refine bV (T0.jA hB 5 D n aQ h e) (dn ?_);rw[Val,e,dA];apply decide_eq_decide.2;omega
theorem T0.dw.L1 {B D d l:Nat}{n:aN}(hB:B<=lim)(h:tq B (D+1) n)(hl:l<1000)
 (hs:∀k,k∈n.bQ->∃c dp,Ev (λf=>G.dw f k ((l+1:Nat):Int)) (c,dp,Shape d k)/\(Shape d k=true->c=((Cnt d k:Nat):Int))) :
 ∀ (k i c:Nat) (dp:Int),i+k=n.bQ.length->(n.bQ.drop i).all (Shape d)=true->c+((n.bQ.drop i).map (Cnt d)).sum<big ->
   ∃dp',Ev (λf=>G.dw.L1 f n (l:Int) (c:Int) dp i) (((c+((n.bQ.drop i).map (Cnt d)).sum:Nat):Int),dp',true):=by
 have hk:=h.kids;unfold lim at hB;unfold big;intro k
 induction k with
 | zero=>intro i c dp hi _ hc;refine⟨dp,cO ?_⟩;simp only[G.dw.L1];refine jb (by simp;omega) (dn ?_);rw[aV aQ];rfl
 | succ k ih=>intro i c dp hi;rw[jl (default:aN) (by omega:i<n.bQ.length),bf,qK,iy,af];intro⟨hS,hA⟩ hc;obtain⟨c1,d1,h1,h2⟩:=hs (n.bQ.getD i default) (by rw[jX _ (by omega:i<n.bQ.length)];exact dB _);have e:=h2 hS;subst e;obtain⟨dp',g1⟩:=ih (i+1) (c+Cnt d (n.bQ.getD i default)) (if ah .i64 (d1+1)>dp then ah .i64 (d1+1)else dp) aQ hA aQ;refine⟨dp',cO ?_⟩;simp only[G.dw.L1];refine jr (by simp;omega) (iH ?_);rw[ax,nU aQ];refine bV h1 ?_;refine jr hS ?_;rw[nU aQ,wrapN (m:=c+Cnt d (n.bQ.getD i default)) aQ aQ];exact g1.eq (by rw[lH])
theorem T0.dw.L1f {B D d l:Nat}{n:aN}(hB:B<=lim)(h:tq B (D+1) n)(hl:l<1000)
 (hs:∀k,k∈n.bQ->∃c dp,Ev (λf=>G.dw f k ((l+1:Nat):Int)) (c,dp,Shape d k)) :
 ∀(k i:Nat) (c dp:Int),i+k=n.bQ.length->(n.bQ.drop i).all (Shape d)=false->Ev (λf=>G.dw.L1 f n (l:Int) c dp i) (0,0,false):=by
 have hk:=h.kids;unfold lim at hB;intro k
 induction k with
 | zero=>intro i c dp hi hA;rw[aV aQ]at hA;cases hA
 | succ k ih=>intro i c dp hi;rw[jl (default:aN) (by omega:i<n.bQ.length),iy];intro hA;obtain⟨c1,d1,h1⟩:=hs (n.bQ.getD i default) (by rw[jX _ (by omega:i<n.bQ.length)];exact dB _);refine cO ?_;simp only[G.dw.L1];refine jr (by simp;omega) (iH ?_);rw[ax,nU aQ];refine bV h1 ?_;refine gU (λhS=>?_) (λhS=>iD _);have hS:Shape d (n.bQ.getD i default)=true:=hS;rw[hS,dA]at hA;rw[nU aQ];exact ih (i+1) _ _ aQ hA
theorem T0.dw {B:Nat}(hB:B<=lim):∀(d l D:Nat) (n:aN),d+l=6->1<=l->tq B D n ->
 ∃c dp,Ev (λf=>G.dw f n (l:Int)) (c,dp,Shape d n)/\(Shape d n=true->c=((Cnt d n:Nat):Int)):=by
 intro d
 induction d with
 | zero=>intro l D n hl h1 h;refine⟨0,0,cO ?_,λe=>by cases e⟩;simp only[G.dw];exact jr (by simp;omega) (iD _)
 | succ d ih=>
   intro l D n hl h1 h;cases D with
   |zero=>exact h.elim
   |succ D=>
   have hs:=λk (hk:k∈n.bQ)=>ih (l+1) D k aQ aQ (h.2.2.2.2.2 k hk);have hp:=T0.dJ hB h;cases hS:Shape (d+1) n with
   | true=>have hk:=uK hS;have hc:=cnt_le hS;have hpw:=abk (d:=d+1) aQ;obtain⟨dp',g⟩:=T0.dw.L1 hB h aQ hs n.bQ.length 0 1 1 aQ (by rw[iL];exact aB.2 hk) (by rw[iL];unfold big;show Cnt (d+1) n<_;omega);rw[iL]at g;refine⟨((Cnt (d+1) n:Nat):Int),dp',cO ?_,λ_=>rfl⟩;simp only[G.dw];exact jb (by simp;omega) (bV hp (jr (vS hS) g))
   | false=>
     refine⟨0,0,cO ?_,λe=>by cases e⟩;simp only[G.dw];refine jb (by simp;omega) (bV hp (gU (λe=>?_) (λe=>iD _)));refine T0.dw.L1f (d:=d) hB h aQ (λk hk=>?_) n.bQ.length 0 1 1 aQ ?_
     ·obtain⟨c,dp,g,_⟩:=hs k hk;exact⟨c,dp,g⟩
     ·rw[iL];unfold Shape at hS;rw[e,dA]at hS;exact hS
theorem T0.kE {B D:Nat}{n:aN}(hB:B<=lim)(h:tq B D n):Ev (λf=>G.kE f n) (Val n):=by
 obtain⟨c,dp,g,hc⟩:=T0.dw hB 5 1 D n rfl aQ h;refine cO ?_;simp only[G.kE];refine bV g (gU (λe=>dn ?_) (λe=>dn ?_))
 ·have e:Shape 5 n=true:=e;show decide (c<=40)=_;rw[hc e,Val,e,dA];apply decide_eq_decide.2;omega
 ·have e:Shape 5 n=false:=e;rw[Val,e];rfl
theorem T0.fG.L1 {B D:Nat}{n:aN}(hB:B<=lim)(h:tq B (D+1) n)(hs:∀k,k∈n.bQ->Ev (λf=>G.fG f k) k) :
 ∀(k i:Nat),i+k=n.bQ.length->Ev (λf=>G.fG.L1 f n i (n.bQ.take i)) n:=by
 have hl:=h.kids;have hn:=h.names;unfold lim at hB;intro k
 induction k with
 | zero=>intro i hi;refine cO ?_;simp only[G.fG.L1];refine jb (by simp;omega) (iH (dn ?_));rw[fH aQ];cases n;rfl
 | succ k ih=>intro i hi;refine cO ?_;simp only[G.fG.L1];refine jr (by simp;omega) (iH ?_);rw[ax];refine bV (hs _ (by rw[jX _ (by omega:i<n.bQ.length)];exact dB _)) ?_;refine vW (by rw[List.length_take];omega) ?_;have e:n.bQ.take i++[n.bQ.getD i default]=n.bQ.take (i+1):=(by rw[jX _ (by omega:i<n.bQ.length),ja aQ]);rw[nU aQ,e];exact ih (i+1) aQ
theorem T0.fG {B:Nat}(hB:B<=lim):∀{D:Nat} {n:aN},tq B D n->Ev (λf=>G.fG f n) n:=by
 intro D
 induction D with
 |zero=>intro n h;exact h.elim
 | succ D ih=>intro n h;refine cO ?_;simp only[G.fG];exact T0.fG.L1 hB h (λk hk=>ih (h.2.2.2.2.2 k hk)) n.bQ.length 0 aQ
theorem T.fG {B:Nat}(hB:B<=lim){D:Nat}{n:aN}(h:Fine B D n):Ev (λf=>G.fG f n) n:=T0.fG hB h.fin0
theorem T0.dN.L2 {B D:Nat}{n:aN}(zs:List jE)(hB:B<=lim)(h:tq B (D+1) n)(hs:∀k,k∈n.bQ->Ev (λf=>G.dN f k) k) :
 ∀(k i:Nat) (z:List aN),i+k=n.bQ.length->z.length=n.bQ.length->z.take i=n.bQ.take i->Ev (λf=>G.dN.L2 f n zs i z) (aN.mk n.fZ n.xu n.nJ zs n.bQ):=by
 have hl:=h.kids;unfold lim at hB;intro k
 induction k with
 | zero=>intro i z hi hz ht;refine cO ?_;simp only[G.dN.L2];refine jb (by simp;omega) (dn ?_);rw[fH aQ,fH aQ]at ht;rw[ht]
 | succ k ih=>intro i z hi hz ht;refine cO ?_;simp only[G.dN.L2];refine jr (by simp;omega) (iH ?_);rw[ax];refine bV (hs _ (by rw[jX _ (by omega:i<n.bQ.length)];exact dB _)) ?_;refine iH ?_;rw[nU aQ];refine ih (i+1) _ aQ (by rw[nM];exact hz) ?_;rw[jX _ (by omega:i<n.bQ.length),ja (by rw[nM];omega),ja (by omega:i<n.bQ.length),List.getElem_set_self,List.take_set_of_le (aA i),ht]
theorem T0.dN {B:Nat}(hB:B<=lim):∀{D:Nat} {n:aN},tq B D n->Ev (λf=>G.dN f n) n:=by
 intro D
 induction D with
 |zero=>intro n h;exact h.elim
 | succ D ih=>
   intro n h;have hl:=h.kids;have hn:=h.names;have hB':=hB;unfold lim at hB';have hK:Ev (λf=>G.dN.K1 f n n.dQ) n:=by
    refine cO ?_;simp only[G.dN.K1];refine gU (λe=>?_) (λe=>dn ?_)
    ·refine iH ?_;refine(T0.dN.L2 n.dQ hB h (λk hk=>ih (h.2.2.2.2.2 k hk)) n.bQ.length 0 (bG n.bQ.length (aN.mk 0 0 [] [] [])) aQ kY rfl).eq ?_;cases n;rfl
    ·have:n.bQ=[]:=by
      apply dL;simp only[bH]at e;omega
     cases n;simp only at this;subst this;rfl
   refine cO ?_;simp only[G.dN];refine gU (λe=>?_) (λe=>?_)
   ·exact iH hK
   ·have:n.dQ=[]:=by
     apply dL;simp only[bH]at e;omega
    rw[this]at hK;exact hK
theorem T.dN {B:Nat}(hB:B<=lim){D:Nat}{n:aN}(h:Fine B D n):Ev (λf=>G.dN f n) n:=T0.dN hB h.fin0
def GH (i:Nat):jE:=if i<10 then [jv (48+i)]else GH (i/10)++[jv (48+i%10)]
 termination_by i
theorem FK {i:Nat}(h:i<10):GH i=[jv (48+i)]:=by rw[GH,aF h]
theorem Lp {i:Nat}(h:¬i<10):GH i=GH (i/10)++[jv (48+i%10)]:=by rw[GH,aj h]
theorem ZV : ∀(k i:Nat),i<k->(GH i).length<=i+1:=by
 intro k
 induction k with
 |zero=>intro i h;omega
 | succ k ih=>
   intro i h;by_cases hi:i<10
   ·rw[FK hi];simp
   ·rw[Lp hi,kZ];have:=ih (i/10) aQ;simp only[List.length_singleton];omega
theorem wrap_u8 {m:Nat}(h:m<256):ah .u8 (m:Int)=m:=by simp only[ah,iP,nV];simp;omega
theorem T.jT : ∀(k i:Nat),i<k->i<lim->Ev (λf=>G.jT f (i:Int)) (GH i):=by
 intro k
 induction k with
 |zero=>intro i h;omega
 | succ k ih=>
   intro i h hl;unfold lim at hl;have hm:4294967296<maxLen:=(by decide);refine cO ?_;simp only[G.jT];refine jb kY ?_;refine gU (λe=>?_) (λe=>?_)
   ·simp only[ak]at e;refine iH (dn ?_);rw[FK aQ,wrapN (m:=48+i) aQ aQ,wrap_u8 aQ,ax]
   ·simp only[bH]at e;have e1:xk (i:Int) 10=((i/10:Nat):Int):=(by rw[Int.tdiv_eq_ediv_of_nonneg aQ];omega);have e2:zy (i:Int) 10=((i%10:Nat):Int):=(by rw[Int.tmod_eq_emod_of_nonneg aQ];omega);rw[e1,e2,wrapN (m:=i/10) rfl aQ,wrapN (m:=48+i%10) aQ aQ,wrap_u8 aQ,ax];refine bV (ih (i/10) aQ (by unfold lim;omega)) ?_;have:=ZV (i/10+1) (i/10) aQ;refine iH (iH (dn ?_));exact(Lp aQ).symm
theorem T.decimal {i:Nat}(h:i<lim):Ev (λf=>G.jT f (i:Int)) (GH i):=T.jT (i+1) i aQ h
theorem aen : ∀(k i:Nat),i<k->Lib.decDigits i=GH i:=by
 intro k
 induction k with
 |zero=>intro i h;omega
 | succ k ih=>
   intro i h;by_cases h10:i<10
   ·rw[Lib.decDigits_one h10,FK h10]
   ·rw[Lp h10,Lib.decDigits,dif_neg h10,ih (i/10) aQ]
theorem aaz (i:Nat):qo (i:Int)=GH i:=by unfold qo;rw[aj aQ,ax,aen (i+1) i aQ]
theorem T.Itoa {n:Int}(h : -900000000000000<=n/\n<=900000000000000):Ev (λf=>G.strconv_Itoa f n) (qo n):=by refine cO ?_;simp only[G.strconv_Itoa];exact vW ⟨aQ,dh (Lib.itoa_length_le n aQ aQ) zx⟩ (iD _)
theorem T.strconv_Itoa {i:Nat}(h:i<10):Ev (λf=>G.strconv_Itoa f (i:Int)) (GH i):=by
 have:=T.Itoa (n:=(i:Int)) aQ
 rwa[aaz]at this
def hit (n:aN)(s:jE)(j:Nat):Bool:=(n.fZ==4&&n.dQ.getD j default==s)||(n.fZ==3&&GH j==s)
def Tm (n:aN)(s:jE):Option Nat:=(su 0 n.bQ.length).find? (hit n s)
def abh : Option Nat->Int
 |some j=>j
 |none=> -1
theorem Vw {n:aN}{s:jE}{j:Nat}(h:Tm n s=some j):j<n.bQ.length:=by have:=List.mem_of_find?_eq_some h;simp at this;exact this
theorem T.jh.L1 {B D:Nat}{n:aN}(s:jE)(hB:B<=lim)(h:Fine B D n) :
 ∀(k i:Nat),i+k=n.bQ.length->Ev (λf=>G.jh.L1 f n s i) (abh ((su i k).find? (hit n s))):=by
 have hl:=h.kids;have hm:=h.map;intro k
 induction k with
 | zero=>intro i hi;refine cO ?_;simp only[G.jh.L1];exact jb (by simp;omega) (iD _)
 | succ k ih=>
   intro i hi;have hih:=ih (i+1) aQ;have hd:=T.decimal (i:=i) aQ;unfold lim at hB;rw[xN,uN];have ahs:n.fZ≠4->Ev (λf=>cond (n.fZ==3) (lJ (G.jT f (i:Int)) λv5=>cond (v5==s) (some (i:Int)) (G.jh.L1 f n s (ah .i64 ((i:Int)+1)))) (G.jh.L1 f n s (ah .i64 ((i:Int)+1))))
    (abh (match hit n s i with|true=>some i|false=>(su (i+1) k).find? (hit n s))):=by
    intro h4;have e4:(n.fZ==4)=false:=(by simpa using h4);rw[nU aQ];refine gU (λe=>?_) (λe=>?_)
    ·refine bV hd (gU (λe2=>dn ?_) (λe2=>?_))
     ·rw[show hit n s i=true by unfold hit;rw[e,e2,e4];rfl];rfl
     ·exact hih.eq (by rw[show hit n s i=false by unfold hit;rw[e,e2,e4];rfl])
    ·exact hih.eq (by rw[show hit n s i=false by unfold hit;rw[e,e4];rfl])
   refine cO ?_;simp only[G.jh.L1];refine jr (by simp;omega) ?_;refine gU (λe=>?_) (λe=>ahs (by simpa using e));have h4:n.fZ=4:=(by simpa using e);have:=hm h4;refine iH ?_;rw[ax];refine gU (λe2=>dn ?_) (λe2=>?_)
   ·rw[show hit n s i=true by unfold hit;rw[e,e2];rfl];rfl
   ·refine jb (by rw[h4];rfl) ?_;rw[nU aQ];exact hih.eq (by rw[show hit n s i=false by unfold hit;rw[e2,h4];rfl])
theorem T.jh {B D:Nat}{n:aN}(s:jE)(hB:B<=lim)(h:Fine B D n):Ev (λf=>G.jh f n s) (abh (Tm n s)):=by refine cO ?_;simp only[G.jh];exact T.jh.L1 s hB h n.bQ.length 0 aQ
theorem T.cmp_Less_string (x y:jE):Ev (λf=>G.cmp_Less_string f x y) (bl x y):=by
 refine cO ?_;simp only[G.cmp_Less_string];have:Ev (λf=>G.cmp_isNaN_string f x) false:=by refine cO ?_;simp only[G.cmp_isNaN_string];exact dn kY
 exact bV this (iD _)
structure LB (l:List jE)(t:jE)(i:Nat):Prop where
 le:i<=l.length
 lo:∀j,j<i->bl (l.getD j default) t=true
 hi:∀j,i<=j->j<l.length->bl (l.getD j default) t=false
theorem half (i j:Nat)(h:i+j<9223372036854775808):ah .i64 ((sK (ah .u64 (ah .i64 ((i:Int)+(j:Int)))) (2^(min 1 (iP .u64)))))=(((i+j)/2:Nat):Int):=by
 rw[wrapN (x:=(i:Int)+(j:Int)) (m:=i+j) aQ h];have e:ah .u64 ((i+j:Nat):Int)=((i+j:Nat):Int):=by simp only[ah,iP,nV];simp;omega
 rw[e];have e2:sK ((i+j:Nat):Int) (2^(min 1 (iP .u64)))=(((i+j)/2:Nat):Int):=by have:(2:Int)^(min 1 (iP .u64))=2:=rfl;rw[this,Int.fdiv_eq_ediv_of_nonneg _ aQ];omega
 rw[e2];exact wrapN rfl aQ
theorem T.BinarySearch.L1 {l:List jE}(t:jE)(hl:l.length<big)(hA:∀i j,i<j->j<l.length->bl (l.getD i default) (l.getD j default)=true) :
 ∀ (k i j:Nat),j-i<=k->i<=j->j<=l.length->(∀q,q<i->bl (l.getD q default) t=true)->(∀q,j<=q->q<l.length->bl (l.getD q default) t=false) ->
   ∃p:Nat,Ev (λf=>G.slices_BinarySearch_string.L1 f l t i j) ((p:Int),decide (p<l.length)&&l.getD p default==t)/\LB l t p:=by
 unfold big at hl;intro k
 induction k with
 | zero=>
   intro i j hk hij hj hlo hhi;have:i=j:=(by omega);subst this;refine⟨i,cO ?_,hj,hlo,hhi⟩;simp only[G.slices_BinarySearch_string.L1];refine jb kY (gU (λe=>?_) (λe=>dn ?_))
   ·have e':i<l.length:=(by simpa using e);rw[ax];have d1:decide (i<l.length)=true:=(by simpa using e');rw[d1,dA];refine iH (gU (λe2=>dn (by rw[e2])) (λe2=>iH ?_));have:Ev (λf=>G.slices_isNaN_string f (l.getD i default)) false:=by
     refine cO ?_;simp only[G.slices_isNaN_string];exact dn kY
    exact bV this (dn (by rw[e2]))
   ·have d1:decide (i<l.length)=false:=(by simpa using e);rw[d1];rfl
 | succ k ih=>
   intro i j hk hij hj hlo hhi;by_cases he:i=j
   ·exact ih i j aQ hij hj hlo hhi
   have h1:(i+j)/2<j:=(by omega);have h2:i<=(i+j)/2:=(by omega);cases hc:bl (l.getD ((i+j)/2) default) t with
   | true=>
     obtain⟨p,g,hp⟩:=ih ((i+j)/2+1) j aQ aQ hj (λq hq=>by
      by_cases hq2:q=(i+j)/2
      ·rw[hq2];exact hc
      ·exact DL (hA q ((i+j)/2) aQ aQ) hc) hhi
     refine⟨p,cO ?_,hp⟩;simp only[G.slices_BinarySearch_string.L1];refine jr (by simp;omega) ?_;rw[half i j aQ,ax];refine iH (bV (T.cmp_Less_string _ _) (jr hc ?_));rw[nU aQ];exact g
   | false=>
     obtain⟨p,g,hp⟩:=ih i ((i+j)/2) aQ h2 aQ hlo (λq hq hq2=>by
      by_cases hq3:q=(i+j)/2
      ·rw[hq3];exact hc
      ·cases hb:bl (l.getD q default) t with
       |false=>rfl
       |true=>rw[DL (hA ((i+j)/2) q aQ hq2) hb]at hc;cases hc)
     refine⟨p,cO ?_,hp⟩;simp only[G.slices_BinarySearch_string.L1];refine jr (by simp;omega) ?_;rw[half i j aQ,ax];refine iH (bV (T.cmp_Less_string _ _) (jb hc ?_));exact g
theorem Ky {x:jE}{l:List jE}(h:Asc (x::l)=true):Asc l=true:=by
 cases l with
 |nil=>rfl
 |cons y r=>rw[Asc,af]at h;exact h.2
theorem Kw : ∀{l:List jE} {x:jE},Asc (x::l)=true->∀y,y∈l->bl x y=true
 |[],_,_,y,hy=>by cases hy
 | z::r,x,h,y,hy=>by
   have h1:bl x z=true:=(by rw[Asc,af]at h;exact h.1);rcases au.1 hy with rfl|hy
   ·exact h1
   ·exact DL h1 (Kw (Ky h) y hy)
theorem Uh : ∀{l:List jE},Asc l=true->∀i j,i<j->j<l.length->bl (l.getD i default) (l.getD j default)=true
 |[],_,i,j,_,hj=>by simp at hj
 | x::l,h,i,j,hij,hj=>by
   cases j with
   |zero=>omega
   | succ j=>
     rw[lW];have hj':j<l.length:=(by simpa using hj);cases i with
     |zero=>rw[List.getD_cons_zero,jX _ hj'];exact Kw h _ (dB _)
     |succ i=>rw[lW];exact Uh (Ky h) i j aQ hj'
theorem T.slices_BinarySearch_string {l:List jE}(t:jE)(hl:l.length<big)(hA:Asc l=true) :
 ∃p:Nat,Ev (λf=>G.slices_BinarySearch_string f l t) ((p:Int),decide (p<l.length)&&l.getD p default==t)/\LB l t p:=by
 obtain⟨p,g,hp⟩:=T.BinarySearch.L1 t hl (Uh hA) l.length 0 l.length aQ aQ aQ (λq hq=>by omega) (λq h1 h2=>by omega);refine⟨p,cO ?_,hp⟩;simp only[G.slices_BinarySearch_string];exact g
theorem aN.eta (n:aN):aN.mk n.fZ n.xu n.nJ n.dQ n.bQ=n:=by cases n;rfl
theorem X6 {p:Nat->Bool} : ∀{k i:Nat},(su i k).find? p=none<->∀q,i<=q->q<i+k->p q=false:=by
 intro k i;rw[List.find?_eq_none];constructor
 ·intro h q h1 h2;have:=h q (by simp;omega);simpa using this
 ·intro h q hq;simp at hq;rw[h q hq.1 hq.2];simp
theorem X7 {p:Nat->Bool} : ∀{k i j:Nat},(su i k).find? p=some j<->(i<=j/\j<i+k/\p j=true/\∀q,i<=q->q<j->p q=false):=by
 intro k
 induction k with
 |zero=>intro i j;simp;omega
 | succ k ih=>
   intro i j;rw[xN,uN];cases h:p i with
   | true=>
     simp only[aI];constructor
     ·rintro rfl;exact⟨aQ,aQ,h,λq h1 h2=>by omega⟩
     ·rintro⟨h1,h2,h3,h4⟩;by_cases e:i=j
      ·exact e
      ·have:=h4 i aQ aQ;rw[h]at this;cases this
   | false=>
     simp only;rw[ih];constructor
     ·rintro⟨h1,h2,h3,h4⟩;refine⟨aQ,aQ,h3,λq g1 g2=>?_⟩;by_cases e:q=i
      ·rw[e];exact h
      ·exact h4 q aQ g2
     ·rintro⟨h1,h2,h3,h4⟩;have:j≠i:=λe=>(by rw[e,h]at h3;cases h3);exact⟨aQ,aQ,h3,λq g1 g2=>h4 q aQ g2⟩
theorem abj {n:aN}{s:jE}{j:Nat} : Tm n s=some j<->(j<n.bQ.length/\hit n s j=true/\∀q,q<j->hit n s q=false):=by
 unfold Tm;rw[X7];constructor
 ·rintro⟨h1,h2,h3,h4⟩;exact⟨aQ,h3,λq hq=>h4 q aQ hq⟩
 ·rintro⟨h1,h2,h3⟩;exact⟨aQ,aQ,h2,λq _ hq=>h3 q hq⟩
theorem Tn {n:aN}{s:jE} : Tm n s=none<->∀q,q<n.bQ.length->hit n s q=false:=by
 unfold Tm;rw[X6];constructor
 ·intro h q hq;exact h q aQ aQ
 ·intro h q _ hq;exact h q aQ
theorem BZ {n:aN}(h:Parts n=true)(hk:n.fZ=4):n.xu=0/\n.nJ=[]/\NM n.dQ=true/\n.dQ.length<=6/\n.bQ.length=n.dQ.length:=by unfold Parts at h;simp[hk]at h;obtain⟨⟨h1,h2⟩,⟨h3,h4⟩,h5⟩:=h;exact⟨h1,h2,h3,h4,h5⟩
theorem FT {n:aN}(h:Parts n=true)(hk:n.fZ=3):n.xu=0/\n.nJ=[]/\n.dQ=[]/\n.bQ.length<=6:=by unfold Parts at h;simp[hk]at h;obtain⟨⟨⟨h1,h2⟩,h3⟩,h4⟩:=h;exact⟨h1,h2,h3,h4⟩
theorem MH {n:aN}(h:Parts n=true)(h4:n.fZ≠4)(h3:n.fZ≠3):n.dQ=[]/\n.bQ=[]:=by
 unfold Parts at h;have e4:(n.fZ==4)=false:=by simpa using h4
 simp only[af,e4,EC]at h;obtain⟨⟨_,h1⟩,h2⟩:=h;refine⟨dL (by simpa using h1),dL ?_⟩;by_cases k0:n.fZ=0
 ·rw[aF k0]at h2;simpa using h2
 rw[aj k0]at h2;by_cases k1:n.fZ=1
 ·rw[aF k1]at h2;simp at h2;rw[h2.2];rfl
 rw[aj k1]at h2;by_cases k2:n.fZ=2
 ·rw[aF k2]at h2;simp at h2;rw[h2.2];rfl
 rw[aj k2,aj h3,aj h4]at h2;cases h2
theorem aa6 {l:List jE}(h:NM l=true):Asc l=true:=by unfold NM at h;simp only[af]at h;exact h.2
theorem aeS {l:List jE}(h:NM l=true):∀s,s∈l->PT s=true:=by unfold NM at h;simp only[af]at h;exact aB.1 h.1
theorem YF {n:aN}(h:Parts n=true):n.bQ.length<=6:=by
 by_cases k:n.bQ.length<=6
 ·exact k
 ·rw[FX aQ]at h;cases h
theorem Qe {n:aN}(hk:n.fZ=4)(s:jE)(j:Nat):hit n s j=(n.dQ.getD j default==s):=by unfold hit;rw[hk];simp
theorem aao {n:aN}(hk:n.fZ=3)(s:jE)(j:Nat):hit n s j=(GH j==s):=by unfold hit;rw[hk];simp
theorem aan {n:aN}(h4:n.fZ≠4)(h3:n.fZ≠3)(s:jE)(j:Nat):hit n s j=false:=by unfold hit;rw[show(n.fZ==4)=false by simpa using h4,show(n.fZ==3)=false by simpa using h3];rfl
theorem ae2 {n:aN}{s:jE}{p:Nat}(hk:n.fZ=4)(hA:Asc n.dQ=true)(hl:n.bQ.length=n.dQ.length)(h:LB n.dQ s p) :
 Tm n s=if decide (p<n.dQ.length)&&n.dQ.getD p default==s then some p else none:=by
 cases hc:decide (p<n.dQ.length)&&n.dQ.getD p default==s with
 | true=>simp only[af,ak]at hc;rw[aF rfl,abj];refine⟨aQ,by rw[Qe hk];exact hc.2,λq hq=>?_⟩;rw[Qe hk];have:=V8 (h.lo q hq);simpa using this
 | false=>
   rw[aj kY,Tn];intro q hq;rw[Qe hk];by_cases h1:q<p
   ·have:=V8 (h.lo q h1);simpa using this
   ·cases he:n.dQ.getD q default==s with
    |false=>rfl
    | true=>
      rw[aK]at he;by_cases h2:q=p
      ·subst h2;rw[he]at hc;have:decide (q<n.dQ.length)=true:=(by simp;omega);rw[this]at hc;simp at hc
      ·have:=Uh hA p q aQ aQ;rw[he,h.hi p aQ aQ]at this;cases this
theorem T.gW.L1 {n:aN}(s:jE)(hk:n.fZ=3)(hl:n.bQ.length<=6) :
 ∀(k i:Nat),i+k=n.bQ.length->Ev (λf=>G.gW.L1 f n s i) (match(su i k).find? (hit n s)with|some j=>((j:Int),true)|none=>(0,false)):=by
 intro k
 induction k with
 | zero=>intro i hi;refine cO ?_;simp only[G.gW.L1];exact jb (by simp;omega) (iD _)
 | succ k ih=>intro i hi;refine cO ?_;simp only[G.gW.L1];refine jr (by simp;omega) (bV (T.strconv_Itoa (i:=i) aQ) ?_);rw[xN,uN,aao hk,nU aQ];refine gU (λe=>dn (by rw[e])) (λe=>?_);exact(ih (i+1) aQ).eq (by rw[e])
theorem T.gW {n:aN}(s:jE)(h:Parts n=true) :
 ∃v b,Ev (λf=>G.gW f n s) (v,b)/\(∀j,Tm n s=some j->v=(j:Int)/\b=true)/\(Tm n s=none->b=false):=by
 by_cases h4:n.fZ=4
 ·obtain⟨_,_,hN,hl,hkl⟩:=BZ h h4;obtain⟨p,g,hp⟩:=T.slices_BinarySearch_string s (by unfold big;omega) (aa6 hN);have hpl:=ae2 h4 (aa6 hN) hkl hp;refine⟨p,decide (p<n.dQ.length)&&n.dQ.getD p default==s,cO ?_,λj hj=>?_,λhn=>?_⟩
  ·simp only[G.gW];exact jr (by simpa using h4) (bV g (iD _))
  ·rw[hpl]at hj;split at hj
   ·rename_i hc;cases hj;exact⟨rfl,hc⟩
   ·cases hj
  ·rw[hpl]at hn;split at hn
   ·cases hn
   ·rename_i hc;simpa using hc
 ·have e4:(n.fZ==4)=false:=by simpa using h4
  by_cases h3:n.fZ=3
  ·obtain⟨_,_,_,hl⟩:=FT h h3;have g:=T.gW.L1 s h3 hl n.bQ.length 0 aQ;cases hp:Tm n s with
   | some j=>refine⟨j,true,cO ?_,λj' hj=>(by cases hj;exact⟨rfl,rfl⟩),λhn=>(by cases hn)⟩;simp only[G.gW];refine jb e4 (jr (by simpa using h3) ?_);exact g.eq (by unfold Tm at hp;rw[hp])
   | none=>refine⟨0,false,cO ?_,λj' hj=>(by cases hj),λ_=>rfl⟩;simp only[G.gW];refine jb e4 (jr (by simpa using h3) ?_);exact g.eq (by unfold Tm at hp;rw[hp])
  ·have hp:Tm n s=none:=Tn.2 (λq _=>aan h4 h3 s q);refine⟨0,false,cO ?_,λj hj=>(by rw[hp]at hj;cases hj),λ_=>rfl⟩;simp only[G.gW];exact jb e4 (jb (by simpa using h3) (iD _))
def Uu : aN->List jE->Option aN
 |n,[]=>some n
 | n,s::p=>match Tm n s with
   |some j=>Uu (n.bQ.getD j default) p
   |none=>none
def aeU : aN:=aN.mk 0 0 [] [] []
def Xc : Option aN->aN×Bool
 |some n=>(n,true)
 |none=>(aeU,false)
theorem T.oh.L1 {B:Nat}(p:List jE)(hB:B<=lim)(hp:p.length<big) :
 ∀(k i D:Nat) (n:aN),i+k=p.length->Fine B D n->Ev (λf=>G.oh.L1 f p i n.fZ n.xu n.nJ n.dQ n.bQ) (Xc (Uu n (p.drop i))):=by
 unfold big at hp;intro k
 induction k with
 | zero=>intro i D n hi h;refine cO ?_;simp only[G.oh.L1,aN.eta];refine jb (by simp;omega) ?_;rw[aV aQ];have hc:=T.fG hB h;exact bV hc (iD _)
 | succ k ih=>
   intro i D n hi h;refine cO ?_;simp only[G.oh.L1,aN.eta];refine jr (by simp;omega) (iH ?_);rw[jl (default:jE) (by omega:i<p.length),ax];have hP:=T.jh (p.getD i default) hB h;refine bV hP ?_;rw[Uu];cases hj:Tm n (p.getD i default)with
   |none=>exact jr rfl (iD _)
   | some j=>
     have hjl:=Vw hj;cases D with
     |zero=>exact h.elim
     |succ D=>
     refine jb (bP (by simp only[abh];omega)) (vW (by simp only[abh];omega) ?_);rw[nU aQ];exact ih (i+1) D _ aQ (h.kid hjl)
theorem T.oh {B D:Nat}{n:aN}(p:List jE)(hB:B<=lim)(hp:p.length<big)(h:Fine B D n):Ev (λf=>G.oh f n p) (Xc (Uu n p)):=by refine cO ?_;simp only[G.oh];exact T.oh.L1 p hB hp p.length 0 D n aQ h
theorem T.iI.L1 (p:List jE)(hp:p.length<big) :
 ∀(k i d:Nat) (n:aN),i+k=p.length->Shape d n=true->Ev (λf=>G.iI.L1 f p i n.fZ n.xu n.nJ n.dQ n.bQ) (Xc (Uu n (p.drop i))):=by
 unfold big at hp;intro k
 induction k with
 | zero=>intro i d n hi h;refine cO ?_;simp only[G.iI.L1,aN.eta];refine jb (by simp;omega) ?_;rw[aV aQ];exact iD _
 | succ k ih=>
   intro i d n hi h;cases d with
   |zero=>cases h
   |succ d=>
   refine cO ?_;simp only[G.iI.L1,aN.eta];refine jr (by simp;omega) (iH ?_);rw[jl (default:jE) (by omega:i<p.length),ax];obtain⟨v,b,g,h1,h2⟩:=T.gW (p.getD i default) (vS h);refine bV g ?_;rw[Uu];cases hj:Tm n (p.getD i default)with
   |none=>exact jb (h2 hj) (iD _)
   | some j=>have hjl:=Vw hj;obtain⟨rfl,rfl⟩:=h1 j hj;refine jr rfl (iH ?_);rw[nU aQ];exact ih (i+1) d _ aQ (uK h _ (by rw[ax,jX _ hjl];exact dB _))
theorem T.iI {d:Nat}{n:aN}(p:List jE)(hp:p.length<big)(h:Shape d n=true):Ev (λf=>G.iI f n p) (Xc (Uu n p)):=by refine cO ?_;simp only[G.iI];exact T.iI.L1 p hp p.length 0 d n aQ h
theorem Vx {s:jE}(h:PT s=true):s.length<=12:=by unfold PT at h;simp at h;exact h.2
theorem MS : ∀{d:Nat} {n:aN},Shape d n=true->Fine 12 d n
 |0,_,h=>by cases h
 | d+1,n,h=>by
   have hp:=vS h;have hk:=uK h;have hl:=YF hp;refine⟨?_,?_,?_,aQ,?_,λk hk'=>MS (hk k hk')⟩
   ·by_cases h2:n.fZ=2
    ·unfold Parts at hp;simp[h2]at hp;exact Vx hp.2.1
    ·have e2:(n.fZ==2)=false:=(by simpa using h2);unfold Parts at hp;simp only[e2,EC,af]at hp;have:=hp.1.1.2;rw[aK]at this;rw[this];simp
   ·by_cases h4:n.fZ=4
    ·have:=(BZ hp h4).2.2.2.1;omega
    ·by_cases h3:n.fZ=3
     ·rw[(FT hp h3).2.2.1];simp
     ·rw[(MH hp h4 h3).1];simp
   ·intro s hs;by_cases h4:n.fZ=4
    ·exact Vx (aeS (BZ hp h4).2.2.1 s hs)
    ·by_cases h3:n.fZ=3
     ·rw[(FT hp h3).2.2.1]at hs;cases hs
     ·rw[(MH hp h4 h3).1]at hs;cases hs
   ·intro h4;have:=(BZ hp h4).2.2.2.2;omega
theorem Cc {d:Nat}{n:aN}(h:Shape (d+1) n=true){j:Nat}(hj:j<n.bQ.length):Shape d (n.bQ.getD j default)=true:=by rw[jX _ hj];exact uK h _ (dB _)
theorem T.jq (b:Bool):Ev (λf=>G.jq f b) (if b then 1 else 0):=by
 refine cO ?_;simp only[G.jq];cases b
 ·exact iD _
 ·exact iD _
theorem Bi {d:Nat}{n:aN}(h:Shape d n=true)(hk:n.fZ=4):n.dQ.length=n.bQ.length:=by
 cases d with
 |zero=>cases h
 |succ d=>exact(BZ (vS h) hk).2.2.2.2.symm
theorem FY : ∀{d e:Nat} {n:aN},d<=e->Shape d n=true->Shape e n=true
 |0,_,_,_,h=>by cases h
 |d+1,0,_,hd,_=>by omega
 | d+1,e+1,n,hd,h=>by unfold Shape;rw[vS h,dA,aB];exact λk hk=>FY aQ (uK h k hk)
theorem Ff {α:Type}{f g:α->Nat} : ∀{l:List α},(∀x,x∈l->f x=g x)->(l.map f).sum=(l.map g).sum
 |[],_=>rfl
 | x::l,h=>by simp only[bf,qK];rw[h x kY,Ff (λy hy=>h y (by simp[hy]))]
theorem cnt_mono : ∀{d e:Nat} {n:aN},d<=e->Shape d n=true->Cnt d n=Cnt e n
 |0,_,_,_,h=>by cases h
 |d+1,0,_,hd,_=>by omega
 | d+1,e+1,n,hd,h=>by unfold Cnt;rw[Ff (f:=Cnt d) (g:=Cnt e) (λk hk=>cnt_mono aQ (uK h k hk))]
theorem aaG {α:Type}(f:α->Nat):∀{l:List α} {x:α},x∈l->f x<=(l.map f).sum
 | y::l,x,h=>by
   simp only[bf,qK];rcases au.1 h with rfl|h
   ·omega
   ·have:=aaG f h;omega
theorem yR {n:aN}(h:Val n=true):Shape 5 n=true:=by unfold Val at h;simp only[af]at h;exact h.1
theorem ady {n:aN}(h:Val n=true):Cnt 5 n<=40:=by unfold Val at h;simp only[af,ak]at h;exact h.2
theorem TP {n:aN}(h:Val n=true):Fine 12 5 n:=MS (yR h)
theorem afl {d:Nat}{n:aN}(hd:d<=5)(h:Shape d n=true)(hc:Cnt d n<=40):Val n=true:=by unfold Val;rw[FY hd h,dA,ak,<- cnt_mono hd h];exact hc
theorem Q9 : ∀(p:List jE) {d:Nat} {n m:aN},Shape d n=true->Uu n p=some m->Shape d m=true/\Cnt d m<=Cnt d n
 |[],d,n,m,h,e=>by cases e;exact⟨h,aA _⟩
 | s::p,d,n,m,h,e=>by
   rw[Uu]at e;cases hj:Tm n s with
   |none=>rw[hj]at e;cases e
   | some j=>
     rw[hj]at e;cases d with
     |zero=>cases h
     | succ d=>have hjl:=Vw hj;obtain⟨h1,h2⟩:=Q9 p (Cc h hjl) e;refine⟨FY aQ h1,?_⟩;rw[<- cnt_mono (Nat.le_succ d) h1];have:=aaG (Cnt d) (l:=n.bQ) (x:=n.bQ.getD j default) (by rw[jX _ hjl];exact dB _);show _<=1+(n.bQ.map (Cnt d)).sum;omega
theorem Gp : ∀{l:List jE},Asc l=true<->l.Pairwise (λx y=>bl x y=true)
 |[]=>by simp[Asc]
 | x::l=>by
   rw[kC,<- Gp (l:=l)];constructor
   ·intro h;exact⟨Kw h,Ky h⟩
   ·rintro⟨h1,h2⟩;cases l with
    |nil=>rfl
    |cons y r=>rw[Asc,h2,qH];exact h1 y kY
theorem adX {B:Nat}(hB:B<=lim){p:List jE}(hl:p.length<=B)(hs:∀s,s∈p->s.length<=B):Sm p:=by unfold lim at hB;exact⟨by unfold big;omega,λs h=>by have:=hs s h;unfold big;omega⟩
def Jj (B:Nat)(p:List jE):Prop:=p.length<=B/\∀s,s∈p->s.length<=B
theorem Jj.sm {B:Nat}(hB:B<=lim){p:List jE}(h:Jj B p):Sm p:=adX hB h.1 h.2
theorem Xd {p:List jE}(h:PP p=true):Jj 12 p:=by unfold PP at h;simp only[af,ak]at h;exact⟨aQ,λs hs=>Vx (aB.1 h.1 s hs)⟩
theorem Pv {n m:aN}{p:List jE}(h:Val n=true)(e:Uu n p=some m):Val m=true:=by obtain⟨h1,h2⟩:=Q9 p (yR h) e;exact afl (aA _) h1 (dh h2 (ady h))
theorem CP {α:Type}{l:List α}{i:Nat}(d:α)(h:i<l.length):l.getD i d∈l:=by rw[jX d h];exact dB h
theorem MP {α:Type}{l z:List α}{i:Nat}(hi:i<l.length)(hz:z.length=l.length)(ht:z.take i=l.take i):(z.set i l[i]).take (i+1)=l.take (i+1):=by rw[ja (by rw[nM];omega),ja hi,List.getElem_set_self,List.take_set_of_le (aA i),ht]
theorem T.abN {l:List jE}(hl:l.length<=lim):Ev (λf=>G.ig f l) l:=by
 unfold lim at hl;have L:∀(k i:Nat) (z:List jE),i+k=l.length->z.length=l.length->z.take i=l.take i->Ev (λf=>G.ig.L1 f l i z) l:=by
  intro k
  induction k with
  | zero=>intro i z hi hz ht;refine cO ?_;simp only[G.ig.L1];rw[fH aQ,fH aQ]at ht;exact tV (dn ht)
  | succ k ih=>intro i z hi hz ht;have hil:i<l.length:=(by omega);refine cO ?_;simp only[G.ig.L1,ax,Nw i];refine rU (iH (iH (ih (i+1) _ aQ (by rw[nM];exact hz) ?_)));rw[jX _ hil];exact MP hil hz ht
 refine cO ?_;simp only[G.ig];exact iH (L l.length 0 _ aQ kY rfl)
theorem T.adv {l:List aN}(hl:l.length<=lim)(hs:∀k,k∈l->Ev (λf=>G.nD f k) k):Ev (λf=>G.kK f l) l:=by
 unfold lim at hl;have L:∀(k i:Nat) (z:List aN),i+k=l.length->z.length=l.length->z.take i=l.take i->Ev (λf=>G.kK.L1 f l i z) l:=by
  intro k
  induction k with
  | zero=>intro i z hi hz ht;refine cO ?_;simp only[G.kK.L1];rw[fH aQ,fH aQ]at ht;exact tV (dn ht)
  | succ k ih=>intro i z hi hz ht;have hil:i<l.length:=(by omega);refine cO ?_;simp only[G.kK.L1,ax,Nw i];refine rU (iH (bV (hs _ (CP default hil)) (iH (ih (i+1) _ aQ (by rw[nM];exact hz) ?_))));rw[jX _ hil];exact MP hil hz ht
 refine cO ?_;simp only[G.kK];exact iH (L l.length 0 _ aQ kY rfl)
theorem T.abM {B:Nat}(hB:B<=lim):∀{D:Nat} {n:aN},tq B D n->Ev (λf=>G.nD f n) n
 |0,_,h=>h.elim
 | D+1,n,h=>by have h1:=h.names;have h2:=h.kids;refine cO ?_;simp only[G.nD];exact bV (T.abN aQ) (bV (T.adv aQ (λk hk=>T.abM hB (h.2.2.2.2.2 k hk))) (dn (by cases n;rfl)))
theorem T.ZY {l:List jE}(hl:l.length<=lim):Ev (λf=>G.iG f l l) true:=by
 unfold lim at hl;have L:∀(k i:Nat),i+k=l.length->Ev (λf=>G.iG.L1 f l l i) true:=by
  intro k
  induction k with
  | zero=>intro i hi;refine cO ?_;simp only[G.iG.L1];exact tV (iD _)
  | succ k ih=>intro i hi;refine cO ?_;simp only[G.iG.L1,Nw i];exact rU (iH (iH (jr kY (ih (i+1) aQ))))
 refine cO ?_;simp only[G.iG];exact jb kY (L l.length 0 aQ)
theorem T.acN {l:List aN}(hl:l.length<=lim)(hs:∀k,k∈l->Ev (λf=>G.lZ f k k) true):Ev (λf=>G.kJ f l l) true:=by
 unfold lim at hl;have L:∀(k i:Nat),i+k=l.length->Ev (λf=>G.kJ.L1 f l l i) true:=by
  intro k
  induction k with
  | zero=>intro i hi;refine cO ?_;simp only[G.kJ.L1];exact tV (iD _)
  | succ k ih=>intro i hi;refine cO ?_;simp only[G.kJ.L1,ax,Nw i];exact rU (iH (iH (bV (hs _ (CP default aQ)) (jr rfl (ih (i+1) aQ)))))
 refine cO ?_;simp only[G.kJ];exact jb kY (L l.length 0 aQ)
theorem T.UU {B:Nat}(hB:B<=lim):∀{D:Nat} {n:aN},tq B D n->Ev (λf=>G.lZ f n n) true
 |0,_,h=>h.elim
 | D+1,n,h=>by have h1:=h.names;have h2:=h.kids;refine cO ?_;simp only[G.lZ];exact jb kY (jb kY (jr kY (bV (T.ZY aQ) (jr rfl (bV (T.acN aQ (λk hk=>T.UU hB (h.2.2.2.2.2 k hk))) (jr rfl (iD _)))))))
def mx : Nat:=9223372036854775807
mutual
def OA : aN->Nat
 |aN.mk _ _ _ ns ks=>3+ns.length+qi ks
def qi : List aN->Nat
 |[]=>0
 |n::r=>OA n+qi r
end
theorem CY (n:aN):OA n=3+n.dQ.length+qi n.bQ:=by cases n;rfl
theorem AB {x:Int}(h0 : -9223372036854775808<=x)(h1:x<9223372036854775808):ah .i64 x=x:=by simp only[ah,iP,nV];simp;omega
theorem T.abK {l:List jE}(h1:l.length<=mx)(h2:∀s,s∈l->s.length<=mx){left:Int}(h0:0<=left)(hl:left<=1048576) :
 ∃r,Ev (λf=>G.gz f l left) r/\r<=left/\(0<=r->(l.length:Int)<=left-r/\∀s,s∈l->(s.length:Int)<=left):=by
 unfold mx at *;have w0:ah .i64 (left-(l.length:Int))=left-(l.length:Int):=AB aQ aQ;by_cases c:left-(l.length:Int)<0
 ·refine⟨-1,cO ?_,aQ,λh=>by omega⟩;simp only[G.gz,w0];exact jr (dK c) (iD _)
 ·have L:∀(k i:Nat) (a:Int),i+k=l.length->0<=a->a<=1048576->∃r,Ev (λf=>G.gz.L1 f l a i) r/\r<=a/\(0<=r->∀s,s∈l.drop i->(s.length:Int)<=a):=by
   intro k
   induction k with
   | zero=>
     intro i a hi ha ha2;refine⟨a,cO ?_,aQ,λ_ s hs=>?_⟩
     ·simp only[G.gz.L1];exact tV (iD _)
     ·rw[aV aQ]at hs;cases hs
   | succ k ih=>
     intro i a hi ha ha2;have hil:i<l.length:=(by omega);have hb:=h2 _ (CP default hil);have w1:ah .i64 (a-((l.getD i default).length:Int))=a-((l.getD i default).length:Int):=AB aQ aQ;by_cases c1:a-((l.getD i default).length:Int)<0
     ·refine⟨-1,cO ?_,aQ,λh=>by omega⟩;simp only[G.gz.L1,ax,w1];exact rU (iH (jr (dK c1) (iD _)))
     ·obtain⟨r,g,g1,g2⟩:=ih (i+1) (a-((l.getD i default).length:Int)) aQ aQ aQ;refine⟨r,cO ?_,aQ,λh s hs=>?_⟩
      ·simp only[G.gz.L1,ax,w1,Nw i];exact rU (iH (jb (bP c1) g))
      ·rw[jl default hil]at hs;rcases au.1 hs with e|e
       ·rw[e];omega
       ·have:=g2 h s e;omega
  obtain⟨r,g,g1,g2⟩:=L l.length 0 (left-(l.length:Int)) aQ aQ aQ;refine⟨r,cO ?_,aQ,λh=>⟨aQ,λs hs=>?_⟩⟩
  ·simp only[G.gz,w0];exact jb (bP c) g
  ·have:=g2 h s (by rw[iL];exact hs);omega
theorem T.Xo : ∀(D:Nat) {n:aN} {left:Int},tq mx D n->0<=left->left<=1048576->∃r,Ev (λf=>G.l7 f n left) r/\r<=left/\(0<=r->tq 1048576 D n/\(OA n:Int)<=3*(left-r)+3)
 |0,_,_,h,_,_=>h.elim
 | D+1,n,left,h,h0,hl=>by
   obtain⟨hT,hN,hS,hK,_,hR⟩:=h;have S:∀(left:Int),0<=left->left<=1048576->∃r,Ev (λf=>G.jJ f n.bQ left) r/\r<=left/\(0<=r->(n.bQ.length:Int)<=left-r/\(∀k,k∈n.bQ->tq 1048576 D k)/\(qi n.bQ:Int)<=3*(left-r)):=by
    intro left h0 hl;have hK':n.bQ.length<=9223372036854775807:=hK;have w0:ah .i64 (left-(n.bQ.length:Int))=left-(n.bQ.length:Int):=AB aQ aQ;by_cases c:left-(n.bQ.length:Int)<0
    ·refine⟨-1,cO ?_,aQ,λh=>by omega⟩;simp only[G.jJ,w0];exact jr (dK c) (iD _)
    ·have L:∀(k i:Nat) (a:Int),i+k=n.bQ.length->0<=a->a<=1048576->∃r,Ev (λf=>G.jJ.L1 f n.bQ a i) r/\r<=a/\(0<=r->(∀k,k∈n.bQ.drop i->tq 1048576 D k)/\(qi (n.bQ.drop i):Int)<=3*(a-r)+3*((n.bQ.length:Int)-i)):=by
      intro k
      induction k with
      | zero=>
        intro i a hi ha ha2;refine⟨a,cO ?_,aQ,λ_=>⟨λs hs=>?_,?_⟩⟩
        ·simp only[G.jJ.L1];exact tV (iD _)
        ·rw[aV aQ]at hs;cases hs
        ·rw[aV aQ];simp only[qi];omega
      | succ k ih=>
        intro i a hi ha ha2;have hil:i<n.bQ.length:=(by omega);obtain⟨q,gq,q1,q2⟩:=T.Xo D (hR _ (CP default hil)) ha ha2;by_cases c1:q<0
        ·refine⟨-1,cO ?_,aQ,λh=>by omega⟩;simp only[G.jJ.L1,ax];exact rU (iH (bV gq (jr (dK c1) (iD _))))
        ·obtain⟨r,g,g1,g2⟩:=ih (i+1) q aQ aQ aQ;refine⟨r,cO ?_,aQ,λh=>⟨λs hs=>?_,?_⟩⟩
         ·simp only[G.jJ.L1,ax,Nw i];exact rU (iH (bV gq (jb (bP c1) g)))
         ·rw[jl default hil]at hs;rcases au.1 hs with e|e
          ·rw[e];exact(q2 aQ).1
          ·exact(g2 h).1 s e
         ·rw[jl default hil];have h3:=(q2 aQ).2;have h4:=(g2 h).2;simp only[qi];omega
     obtain⟨r,g,g1,g2⟩:=L n.bQ.length 0 (left-(n.bQ.length:Int)) aQ aQ aQ;refine⟨r,cO ?_,aQ,λh=>⟨aQ,λs hs=>(g2 h).1 s (by rw[iL];exact hs),?_⟩⟩
     rotate_left
     ·have h4:=(g2 h).2;rw[iL]at h4;omega
     simp only[G.jJ,w0];exact jb (bP c) g
   have hT':n.nJ.length<=9223372036854775807:=hT;have w0:ah .i64 (left-(n.nJ.length:Int))=left-(n.nJ.length:Int):=AB aQ aQ;by_cases c:left-(n.nJ.length:Int)<0
   ·refine⟨-1,cO ?_,aQ,λh=>by omega⟩;simp only[G.l7,w0];exact jr (dK c) (iD _)
   ·obtain⟨v1,g1,a1,b1⟩:=T.abK hN hS (left:=left-(n.nJ.length:Int)) aQ aQ;by_cases c1:v1<0
    ·refine⟨-1,cO ?_,aQ,λh=>by omega⟩;simp only[G.l7,w0];exact jb (bP c) (bV g1 (jr (dK c1) (iD _)))
    ·obtain⟨v2,g2,a2,b2⟩:=S v1 aQ aQ;by_cases c2:v2<0
     ·refine⟨-1,cO ?_,aQ,λh=>by omega⟩;simp only[G.l7,w0];exact jb (bP c) (bV g1 (jb (bP c1) (bV g2 (jr (dK c2) (iD _)))))
     ·refine⟨v2,cO ?_,aQ,λh=>?_⟩
      ·simp only[G.l7,w0];exact jb (bP c) (bV g1 (jb (bP c1) (bV g2 (jb (bP c2) (iD _)))))
      ·obtain⟨e1,e2⟩:=b1 aQ;obtain⟨e3,e4,e5⟩:=b2 aQ;refine⟨⟨aQ,aQ,λs hs=>by have:=e2 s hs;omega,aQ,trivial,e4⟩,?_⟩;rw[CY];omega
section
def Tot {α:Type}(Q:α->Prop)(F:Nat->Option α):Prop:=∃x,Ev F x/\Q x
section
variable {α β:Type} {Q:α->Prop} {F F':Nat->Option α}
theorem Tot.up (h:Tot Q (λn=>F (n+1))):Tot Q F:=let ⟨x,g,q⟩:=h;⟨x,cO g,q⟩
theorem Tot.ret {x:α}(h:Q x):Tot Q (λ_=>some x):=⟨x,iD x,h⟩
theorem Tot.bind {P:β->Prop}{h:Nat->Option β}{k:Nat->β->Option α}(h1:Tot P h)(h2:∀x,P x->Tot Q (λn=>k n x)):Tot Q (λn=>lJ (h n) (k n)):=by obtain⟨x,g,p⟩:=h1;obtain⟨y,g',q⟩:=h2 x p;exact⟨y,bV g g',q⟩
theorem Tot.chk {p:Prop}[Decidable p](hp:p)(h:Tot Q F):Tot Q (λn=>Ab.chk p (F n)):=let ⟨x,g,q⟩:=h;⟨x,vW hp g,q⟩
theorem Tot.ite {c:Bool}(h:c=true->Tot Q F)(h':c=false->Tot Q F'):Tot Q (λn=>cond c (F n) (F' n)):=by
 cases c
 ·exact h' rfl
 ·exact h rfl
theorem Tot.mono {P:α->Prop}(h:Tot P F)(hq:∀x,P x->Q x):Tot Q F:=let ⟨x,g,q⟩:=h;⟨x,g,hq x q⟩
end
abbrev adD (B:Nat)(n:aN):Prop:=∃D,Fine B D n
theorem LW : 60<=lim:=zx
end
theorem Jj.mono {B C:Nat}{p:List jE}(h:Jj B p)(hB:B<=C):Jj C p:=⟨dh h.1 hB,λs hs=>dh (h.2 s hs) hB⟩
theorem Lt {n:aN}(h:Val n=true):Fine 60 5 n:=(TP h).mono aQ (aA _)
theorem getD_mem {α:Type}{l:List α}{i:Nat}(d:α)(h:i<l.length):l.getD i d∈l:=by rw[jX d h];exact dB h
theorem Qk : 1048576<=lim:=zx
section
def ZH (a b:Int):Int:=if a<b then -1 else if b<a then 1 else 0
def Rl (a b:jE):Int:=if bl a b then -1 else if a=b then 0 else 1
def Kq (x y:Int):Int:=if x=0 then y else x
theorem O9 {x:Int}(h0 : -9223372036854775808<=x)(h1:x<9223372036854775808):ah .i64 x=x:=by simp only[ah,iP,nV];simp;omega
theorem DN (a b:Int):ZH a b=0<->a=b:=by
 unfold ZH;by_cases h:a<b
 ·rw[aF h];constructor<;>intro e<;>omega
 ·rw[aj h];by_cases k:b<a
  ·rw[aF k];constructor<;>intro e<;>omega
  ·rw[aj k];constructor<;>intro e<;>omega
theorem Gt (a b:jE):Rl a b=0<->a=b:=by
 unfold Rl;by_cases h:bl a b=true
 ·rw[aF h];exact⟨λe=>by omega,λe=>dO e (V8 h)⟩
 ·rw[aj h];by_cases e:a=b
  ·rw[aF e];exact⟨λ_=>e,λ_=>rfl⟩
  ·rw[aj e];exact⟨λh=>by omega,λh=>dO h e⟩
theorem Hq {x y:Int}(h:x=0):Kq x y=y:=aF h
theorem MC {x y:Int}(h:x≠0):Kq x y=x:=aj h
def XR (F:aN->aN->Int)(a b:aN):Nat->Nat->Int
 |0,_=>ZH (a.bQ.length:Int) (b.bQ.length:Int)
 |k+1,i=>Kq (if a.fZ=4 then Rl (a.dQ.getD i default) (b.dQ.getD i default)else 0) (Kq (F (a.bQ.getD i default) (b.bQ.getD i default)) (XR F a b k (i+1)))
def zn : Nat->aN->aN->Int
 |0,_,_=>0
 |d+1,a,b=>Kq (ZH a.fZ b.fZ) (Kq (ZH a.xu b.xu) (Kq (Rl a.nJ b.nJ) (XR (zn d) a b (min a.bQ.length b.bQ.length) 0)))
theorem Oc {d:Nat}{a b:aN} : zn (d+1) a b=Kq (ZH a.fZ b.fZ) (Kq (ZH a.xu b.xu) (Kq (Rl a.nJ b.nJ) (XR (zn d) a b (min a.bQ.length b.bQ.length) 0))):=by rw[zn]
theorem T.Et (a b:Int):Ev (λf=>G.nP f a b) (ZH a b):=by
 refine cO ?_;simp only[G.nP];refine bV (T.jq _) (bV (T.jq _) (dn ?_));unfold ZH;by_cases h:a<b
 ·rw[aF h,dK h,bP (show ¬b<a by omega)];exact O9 zx zx
 ·rw[aj h,bP h];by_cases k:b<a
  ·rw[aF k,dK k];exact O9 zx zx
  ·rw[aj k,bP k];exact O9 zx zx
theorem T.Dv (a b:jE):Ev (λf=>G.lT f a b) (Rl a b):=by
 refine cO ?_;simp only[G.lT];unfold Rl;cases h:bl a b with
 |true=>exact jr h (bV (T.jq _) (bV (T.jq _) (dn (O9 zx zx))))
 | false=>
   refine jb h ?_;rw[aj kY];by_cases e:a=b
   ·rw[aF e];exact jr (by simpa using e) (bV (T.jq _) (bV (T.jq _) (dn (O9 zx zx))))
   ·rw[aj e];exact jb (by simpa using e) (bV (T.jq _) (bV (T.jq _) (dn (O9 zx zx))))
theorem T.Lj (a b:Int):Ev (λf=>G.cmp_Compare_int f a b) (ZH a b):=by
 have hn:∀x:Int,Ev (λf=>G.cmp_isNaN_int f x) false:=λx=>by refine cO ?_;simp only[G.cmp_isNaN_int];exact dn kY
 refine cO ?_;simp only[G.cmp_Compare_int];unfold ZH;refine bV (hn a) (bV (hn b) (jb rfl (jb rfl ?_)));by_cases h:a<b
 ·rw[aF h];exact jr (dK h) (iD _)
 ·rw[aj h];refine jb (bP h) ?_;by_cases k:b<a
  ·rw[aF k];exact jr (dK k) (iD _)
  ·rw[aj k];exact jb (bP k) (iD _)
theorem T.Nc (a b:jE):Ev (λf=>G.strings_Compare f a b) (Rl a b):=by
 refine cO ?_;simp only[G.strings_Compare];have:Ev (λf=>G.fB f a b) (lV a b):=by refine cO ?_;simp only[G.fB];exact iD _
 exact bV this (dn (afU a b))
theorem Ev.Kq {h g:Nat->Option Int}{x y:Int}(h1:Ev h x)(h2:x=0->Ev g y):Ev (λn=>lJ (h n) λv=>cond (v != 0) (some v) (g n)) (Kq x y):=by
 refine bV h1 ?_;by_cases e:x=0
 ·rw[Hq e];exact jb (by simpa using e) (h2 e)
 ·rw[MC e];exact jr (by simpa using e) (iD _)
section
variable {d:Nat} {a b:aN} (ha:Shape (d+1) a=true) (hb:Shape (d+1) b=true) (hk:a.fZ=b.fZ)
include ha hb hk
theorem T.HY.L1 (hs:∀x y,Shape d x=true->Shape d y=true->Ev (λf=>G.iF f x y) (zn d x y)) :
 ∀(k i:Nat),i+k=min a.bQ.length b.bQ.length->Ev (λf=>G.iF.L1 f a b i) (XR (zn d) a b k i):=by
 have la:=Ce ha;have lb:=Ce hb;intro k
 induction k with
 | zero=>
   intro i hi;have tail:Ev (λf=>lJ (G.nP f (a.bQ.length:Int) (b.bQ.length:Int)) λv=>some v) (XR (zn d) a b 0 i):=bV (T.Et _ _) (dn (by rw[XR]));refine cO ?_;simp only[G.iF.L1];by_cases h:i<a.bQ.length
   ·exact rU (tV tail)
   ·exact tV tail
 | succ k ih=>
   intro i hi;have hia:i<a.bQ.length:=(by omega);have hib:i<b.bQ.length:=(by omega);have rest:Ev (λf=>lJ (G.iF f (a.bQ.getD i default) (b.bQ.getD i default)) λv=>cond (v != 0) (some v) (G.iF.L1 f a b ((i+1:Nat):Int))) (Kq (zn d (a.bQ.getD i default) (b.bQ.getD i default)) (XR (zn d) a b k (i+1))):=
    Ev.Kq (hs _ _ (Cc ha hia) (Cc hb hib)) (λ_=>ih (i+1) aQ)
   refine cO ?_;simp only[G.iF.L1,ax,Nw i];rw[XR];refine rU (rU ?_);by_cases h4:a.fZ=4
   ·have n1:=Bi ha h4;have n2:=Bi hb (hk▸h4);rw[aF h4];refine jr (by simpa using h4) (iH (iH ?_));by_cases hn:a.dQ.getD i default=b.dQ.getD i default
    ·rw[Hq ((Gt _ _).2 hn)];exact jr (by simpa using hn) (iH (iH rest))
    ·rw[MC (λe=>hn ((Gt _ _).1 e))];exact jb (by simpa using hn) (iH (iH (bV (T.Dv _ _) (iD _))))
   ·rw[aj h4,Hq rfl];exact jb (by simpa using h4) (iH (iH rest))
theorem T.GZ.L3 (hs:∀x y,Shape d x=true->Shape d y=true->Ev (λf=>G.dD f x y) (zn d x y)) :
 ∀(k i:Nat),i+k=min a.bQ.length b.bQ.length->Ev (λf=>G.dD.L3 f a b i) (XR (zn d) a b k i):=by
 have la:=Ce ha;have lb:=Ce hb;intro k
 induction k with
 | zero=>
   intro i hi;have tail:Ev (λf=>lJ (G.cmp_Compare_int f (a.bQ.length:Int) (b.bQ.length:Int)) λv=>some v) (XR (zn d) a b 0 i):=bV (T.Lj _ _) (dn (by rw[XR]));refine cO ?_;simp only[G.dD.L3];by_cases h:i<a.bQ.length
   ·exact rU (tV tail)
   ·exact tV tail
 | succ k ih=>
   intro i hi;have hia:i<a.bQ.length:=(by omega);have hib:i<b.bQ.length:=(by omega);have rest:Ev (λf=>G.dD.K4 f a b (i:Int)) (Kq (zn d (a.bQ.getD i default) (b.bQ.getD i default)) (XR (zn d) a b k (i+1))):=by refine cO ?_;simp only[G.dD.K4,ax,Nw i];exact iH (iH (Ev.Kq (hs _ _ (Cc ha hia) (Cc hb hib)) (λ_=>ih (i+1) aQ)))
   refine cO ?_;simp only[G.dD.L3,ax];rw[XR];refine rU (rU ?_);by_cases h4:a.fZ=4
   ·have n1:=Bi ha h4;have n2:=Bi hb (hk▸h4);rw[aF h4];exact jr (by simpa using h4) (iH (iH (Ev.Kq (T.Nc _ _) (λ_=>rest))))
   ·rw[aj h4,Hq rfl];exact jb (by simpa using h4) rest
end
theorem T.HY : ∀(d:Nat) {a b:aN},Shape d a=true->Shape d b=true->Ev (λf=>G.iF f a b) (zn d a b)
 |0,_,_,h,_=>by cases h
 | d+1,a,b,ha,hb=>by
   refine cO ?_;simp only[G.iF];rw[Oc];by_cases h1:a.fZ=b.fZ
   ·rw[Hq ((DN _ _).2 h1)];refine jb (by simpa using h1) ?_;by_cases h2:a.xu=b.xu
    ·rw[Hq ((DN _ _).2 h2)];refine jb (by simpa using h2) ?_;by_cases h3:a.nJ=b.nJ
     ·rw[Hq ((Gt _ _).2 h3)];exact jr (by simpa using h3) (T.HY.L1 ha hb h1 (λx y hx hy=>T.HY d hx hy) (min a.bQ.length b.bQ.length) 0 aQ)
     ·rw[MC (λe=>h3 ((Gt _ _).1 e))];exact jb (by simpa using h3) (bV (T.Dv _ _) (iD _))
    ·rw[MC (λe=>h2 ((DN _ _).1 e))];exact jr (by simpa using h2) (bV (T.Et _ _) (iD _))
   ·rw[MC (λe=>h1 ((DN _ _).1 e))];exact jr (by simpa using h1) (bV (T.Et _ _) (iD _))
theorem T.GZ : ∀(d:Nat) {a b:aN},Shape d a=true->Shape d b=true->Ev (λf=>G.dD f a b) (zn d a b)
 |0,_,_,h,_=>by cases h
 | d+1,a,b,ha,hb=>by refine cO ?_;simp only[G.dD];rw[Oc];exact Ev.Kq (T.Lj _ _) (λh1=>Ev.Kq (T.Lj _ _) (λ_=>Ev.Kq (T.Nc _ _) (λ_=>T.GZ.L3 ha hb ((DN _ _).1 h1) (λx y hx hy=>T.GZ d hx hy) (min a.bQ.length b.bQ.length) 0 aQ)))
end
section
def W9 (b:UInt8):Bool:=(decide (97<=b.toNat)&&decide (b.toNat<=122))||(decide (48<=b.toNat)&&decide (b.toNat<=57))
def NmV (s:jE):Bool:=s.all W9&&(decide (1<=s.length)&&decide (s.length<=8))
def Uc (c:Int)(it:jc):Bool:=NmV it.lg&&(Val it.qy&&(decide (1<=it.nZ)&&decide (it.nZ<=c)))
def I7 (l:List jc):List jE:=l.map λit=>it.lg
def Zk (s:gQ):Bool:=(s.dG.all (Uc s.pW)&&Asc (I7 s.dG))&&(decide (s.dG.length<=10)&&(decide (0<=s.pW)&&decide (s.pW<=999)))
structure E5 (B:Nat)(s:gQ):Prop where
 len:s.dG.length<=B
 nam:∀it,it∈s.dG->it.lg.length<=B
 QW:∀it,it∈s.dG->adD B it.qy
theorem Hl {l:List jc} : (I7 l).length=l.length:=by unfold I7;rw[jM]
theorem Qq {l:List jc}{i:Nat}(h:i<l.length):(I7 l).getD i default=(l.getD i default).lg:=by rw[jX _ (by rw[Hl];exact h),jX _ h];unfold I7;rw[List.getElem_map]
theorem Q8 {l:List jE}{i:Nat}(h0:0<i)(h:i<l.length):Asc (l.drop (i-1))=(bl (l.getD (i-1) default) (l.getD i default)&&Asc (l.drop i)):=by rw[drop_pred h0 h,Asc,jl (default:jE) h]
theorem V6 {l:List jE}{i:Nat}(h:l.length<=i):Asc (l.drop (i-1))=true:=by
 by_cases h0:l.length<=i-1
 ·rw[aV h0];rfl
 ·rw[jl (default:jE) (by omega:i-1<l.length),aV aQ];rfl
theorem T.gJ.L1 (s:jE)(hs:s.length<big):∀(k i:Nat),i+k=s.length->Ev (λf=>G.gJ.L1 f s i) ((s.drop i).all W9&&(decide (1<=s.length)&&decide (s.length<=8))):=by
 unfold big at hs;intro k
 induction k with
 | zero=>
   intro i hi;refine cO ?_;simp only[G.gJ.L1];refine tV (bV (T.iC _ _ _) (dn ?_));rw[aV aQ,List.all_nil,dA]
   congr 1<;>(apply decide_eq_decide.2;omega)
 | succ k ih=>
   intro i hi;refine cO ?_;simp only[G.gJ.L1,ax,N8,Nw i];rw[jl (0:UInt8) (by omega:i<s.length),iy];have e1:(decide ((97:Int)<=((s.getD i 0).toNat:Int))&&decide (((s.getD i 0).toNat:Int)<=122))=(decide (97<=(s.getD i 0).toNat)&&decide ((s.getD i 0).toNat<=122)):=(by congr 1<;>(apply decide_eq_decide.2;omega));have e2:(decide ((48:Int)<=((s.getD i 0).toNat:Int))&&decide (((s.getD i 0).toNat:Int)<=57))=(decide (48<=(s.getD i 0).toNat)&&decide ((s.getD i 0).toNat<=57)):=(by congr 1<;>(apply decide_eq_decide.2;omega));refine rU (iH (bV (T.iC _ _ _) ?_));rw[e1];refine gU (λh=>?_) (λh=>?_)
   ·refine(ih (i+1) aQ).eq ?_;unfold W9;rw[show(decide (97<=(s.getD i 0).toNat)&&decide ((s.getD i 0).toNat<=122))=true from h,uf,dA]
   ·refine iH (bV (T.iC _ _ _) ?_);rw[e2];refine gU (λh2=>?_) (λh2=>dn ?_)
    ·refine(ih (i+1) aQ).eq ?_;unfold W9;rw[show(decide (48<=(s.getD i 0).toNat)&&decide ((s.getD i 0).toNat<=57))=true from h2,tZ,dA]
    ·unfold W9;rw[show(decide (97<=(s.getD i 0).toNat)&&decide ((s.getD i 0).toNat<=122))=false from h,show(decide (48<=(s.getD i 0).toNat)&&decide ((s.getD i 0).toNat<=57))=false from h2];rfl
theorem T.gJ (s:jE)(hs:s.length<big):Ev (λf=>G.gJ f s) (NmV s):=by refine cO ?_;simp only[G.gJ];exact T.gJ.L1 s hs s.length 0 aQ
theorem T.iW.L1 (s:jE)(hs:s.length<big):∀(k i:Nat),i+k=s.length->Ev (λf=>G.iW.L1 f s i) ((s.drop i).all W9):=by
 unfold big at hs;intro k
 induction k with
 | zero=>intro i hi;refine cO ?_;simp only[G.iW.L1];refine tV (dn ?_);rw[aV aQ];rfl
 | succ k ih=>
   intro i hi;refine cO ?_;simp only[G.iW.L1,ax,Nw i];rw[jl (0:UInt8) (by omega:i<s.length),iy];have yes:W9 (s.getD i 0)=true->Ev (λf=>G.iW.L1 f s ((i+1:Nat):Int)) (W9 (s.getD i 0)&&(s.drop (i+1)).all W9):=λh=>(ih (i+1) aQ).eq (by rw[h];rfl);have no:W9 (s.getD i 0)=false->Ev (λ_=>some false) (W9 (s.getD i 0)&&(s.drop (i+1)).all W9):=λh=>dn (by rw[h];rfl);have ok:W9 (s.getD i 0)=decide ((97<=(s.getD i 0).toNat/\(s.getD i 0).toNat<=122)\/(48<=(s.getD i 0).toNat/\(s.getD i 0).toNat<=57)):=(by unfold W9;simp);refine rU (iH ?_);refine gU (λh=>?_) (λh=>?_)
   ·simp only[ak]at h;refine iH (gU (λh2=>?_) (λh2=>?_))
    ·simp only[ak]at h2;exact no (by rw[ok];exact bP aQ)
    ·simp only[bH]at h2;refine iH (gU (λh3=>?_) (λh3=>?_))
     ·simp only[ak]at h3;exact no (by rw[ok];exact bP aQ)
     ·simp only[bH]at h3;exact yes (by rw[ok];exact dK aQ)
   ·simp only[bH]at h;refine iH (gU (λh2=>?_) (λh2=>?_))
    ·simp only[ak]at h2;refine iH (tV (iH (rU ?_)));exact no (by rw[ok];exact bP aQ)
    ·simp only[bH]at h2;exact yes (by rw[ok];exact dK aQ)
theorem T.iW (s:jE)(hs:s.length<big):Ev (λf=>G.iW f s) (NmV s):=by
 refine cO ?_;simp only[G.iW];unfold NmV;refine gU (λh=>dn ?_) (λh=>gU (λh2=>dn ?_) (λh2=>?_))
 ·have:s=[]:=by simpa using h
  subst this;rfl
 ·simp only[ak]at h2;rw[bP (show ¬s.length<=8 by omega),pY,pY]
 ·simp only[bH]at h2;have hne:s≠[]:=by simpa using h
  have hl:1<=s.length:=by cases s with
   |nil=>exact dO rfl hne
   |cons _ _=>simp
  refine(T.iW.L1 s hs s.length 0 aQ).eq ?_;rw[dK hl,dK (show s.length<=8 by omega),iL];simp
def afI (B:Nat)(n:aN):Prop:=∃D,tq B D n
structure Pn (B:Nat)(s:gQ):Prop where
 len:s.dG.length<=B
 nam:∀it,it∈s.dG->it.lg.length<=B
 QW:∀it,it∈s.dG->afI B it.qy
theorem Pn.at_ {B:Nat}{s:gQ}(h:Pn B s){i:Nat}(hi:i<s.dG.length):(s.dG.getD i default).lg.length<=B/\afI B (s.dG.getD i default).qy:=
 ⟨h.nam _ (getD_mem default hi),h.QW _ (getD_mem default hi)⟩
section
variable {B:Nat} {s:gQ} (hB:B<=lim) (h:Pn B s)
include hB h
theorem T0.dR.L1 : ∀(k i:Nat),i+k=s.dG.length->Ev (λf=>G.dR.L1 f s i) (((s.dG.drop i).all (Uc s.pW)&&Asc ((I7 s.dG).drop (i-1)))&&(decide (s.dG.length<=10)&&(decide (0<=s.pW)&&decide (s.pW<=999)))):=by
 have hl:=h.len;unfold lim at hB;intro k
 induction k with
 | zero=>
   intro i hi;refine cO ?_;simp only[G.dR.L1];rw[aV aQ,V6 (by rw[Hl];omega)];refine tV (gU (λe=>?_) (λe=>dn ?_))
   ·refine bV (T.iC _ _ _) (dn ?_);rw[dK (show s.dG.length<=10 by simp only[ak]at e;omega)];simp
   ·rw[bP (show ¬s.dG.length<=10 by simp only[bH]at e;omega)];simp
 | succ k ih=>
   intro i hi;have hil:i<s.dG.length:=(by omega);obtain⟨hn,⟨D,hd⟩⟩:=h.at_ hil;refine cO ?_;simp only[G.dR.L1,ax,Nw i];rw[jl (default:jc) hil,iy];refine rU (iH ?_);unfold Uc;refine bV (T.gJ _ (by unfold big;omega)) (gU (λe1=>?_) (λe1=>dn (by rw[e1];simp)));refine bV (T0.lD (by unfold lim;omega) hd) (gU (λe2=>?_) (λe2=>dn (by rw[e2];simp)));refine bV (T.iC _ _ _) (gU (λe3=>?_) (λe3=>dn (by rw[e3];simp)));rw[e1,e2,e3];have ih':=ih (i+1) aQ;unfold Uc at ih';rw[sH]at ih';by_cases h0:0<i
   ·have e:ah .i64 ((i:Int)-1)=((i-1:Nat):Int):=wrapN aQ aQ;rw[e,ax];rw[Q8 h0 (by rw[Hl];exact hil),Qq hil,Qq (by omega:i-1<s.dG.length)];refine rU (iH (gU (λh1=>dn ?_) (λh1=>gU (λh2=>dn ?_) (λh2=>?_))))
    ·rw[show bl (s.dG.getD (i-1) default).lg (s.dG.getD i default).lg=false from KI h1];simp
    ·rw[aK]at h2;rw[show bl (s.dG.getD (i-1) default).lg (s.dG.getD i default).lg=false by rw[h2];exact KJ _];simp
    ·have hb:bl (s.dG.getD (i-1) default).lg (s.dG.getD i default).lg=true:=by
      cases hb:bl (s.dG.getD (i-1) default).lg (s.dG.getD i default).lg with
      |true=>rfl
      |false=>rw[Uy h1 hb]at h2;simp at h2
     rw[hb];exact ih'.eq kY
   ·have:i=0:=(by omega);subst this;exact jb zx (ih'.eq kY)
theorem T0.dR : Ev (λf=>G.dR f s) (Zk s):=by refine cO ?_;simp only[G.dR];exact T0.dR.L1 hB h s.dG.length 0 aQ
theorem T0.dP.L1 : ∀(k i:Nat),i+k=s.dG.length->Ev (λf=>G.dP.L1 f s i) ((s.dG.drop i).all (Uc s.pW)&&Asc ((I7 s.dG).drop (i-1))):=by
 have hl:=h.len;unfold lim at hB;intro k
 induction k with
 | zero=>intro i hi;refine cO ?_;simp only[G.dP.L1];rw[aV aQ,V6 (by rw[Hl];omega)];exact tV (iD _)
 | succ k ih=>
   intro i hi;have hil:i<s.dG.length:=(by omega);obtain⟨hn,⟨D,hd⟩⟩:=h.at_ hil;refine cO ?_;simp only[G.dP.L1,ax,Nw i];rw[jl (default:jc) hil,iy];have ih':=ih (i+1) aQ;rw[sH]at ih';refine rU (iH ?_);refine bV (T.iW _ (by unfold big;omega)) (gU (λe1=>?_) (λe1=>dn (by unfold Uc;rw[e1];simp)));have tail:∀q:Bool,(q=true->Asc ((I7 s.dG).drop (i-1))=Asc ((I7 s.dG).drop i))->q=true->Ev (λf=>cond (decide ((s.dG.getD i default).nZ<1)) (some false) (cond (decide (s.pW<(s.dG.getD i default).nZ)) (some false)
    (lJ (G.kE f (s.dG.getD i default).qy) λv=>cond v (G.dP.L1 f s ((i+1:Nat):Int)) (some false)))) (Uc s.pW (s.dG.getD i default)&&(s.dG.drop (i+1)).all (Uc s.pW)&&Asc ((I7 s.dG).drop (i-1))):=λq hq hq'=>by
    rw[hq hq'];refine gU (λv1=>dn ?_) (λv1=>gU (λv2=>dn ?_) (λv2=>?_))
    ·simp only[ak]at v1;unfold Uc;rw[bP (show ¬ 1<=(s.dG.getD i default).nZ by omega)];simp
    ·simp only[ak]at v2;unfold Uc;rw[bP (show ¬(s.dG.getD i default).nZ<=s.pW by omega)];simp
    ·simp only[bH]at v1 v2;refine bV (T0.kE (by unfold lim;omega) hd) (gU (λe2=>?_) (λe2=>dn (by unfold Uc;rw[e2];simp)));refine ih'.eq ?_;have:Uc s.pW (s.dG.getD i default)=true:=by
      unfold Uc;rw[e1,e2,dK (show 1<=(s.dG.getD i default).nZ by omega),dK (show(s.dG.getD i default).nZ<=s.pW by omega)];rfl
     rw[this];rfl
   by_cases h0:0<i
   ·have e:ah .i64 ((i:Int)-1)=((i-1:Nat):Int):=wrapN aQ aQ;rw[e,ax];have hst:=Q8 h0 (l:=I7 s.dG) (by rw[Hl];exact hil);rw[Qq hil,Qq (by omega:i-1<s.dG.length)]at hst;refine rU (iH (gU (λh1=>?_) (λh1=>dn ?_)))
    ·exact tail true (λ_=>by rw[hst,show bl (s.dG.getD (i-1) default).lg (s.dG.getD i default).lg=true from h1];rfl) rfl
    ·rw[hst,show bl (s.dG.getD (i-1) default).lg (s.dG.getD i default).lg=false from h1];simp
   ·have:i=0:=(by omega);subst this;exact jb zx (tail true (λ_=>rfl) rfl)
theorem T0.dP : Ev (λf=>G.dP f s) (Zk s):=by
 refine cO ?_;simp only[G.dP];unfold Zk;refine gU (λe=>dn ?_) (λe=>gU (λe2=>dn ?_) (λe2=>gU (λe3=>dn ?_) (λe3=>?_)))
 ·rw[bP (show ¬s.dG.length<=10 by simp only[ak]at e;omega)];simp
 ·rw[bP (show ¬ 0<=s.pW by simp only[ak]at e2;omega)];simp
 ·rw[bP (show ¬s.pW<=999 by simp only[ak]at e3;omega)];simp
 ·simp only[bH]at e e2 e3;refine(T0.dP.L1 hB h s.dG.length 0 aQ).eq ?_;rw[dK (show s.dG.length<=10 by omega),dK (show 0<=s.pW by omega),dK (show s.pW<=999 by omega),iL];simp
end
theorem E5.at_ {B:Nat}{s:gQ}(h:E5 B s){i:Nat}(hi:i<s.dG.length):(s.dG.getD i default).lg.length<=B/\adD B (s.dG.getD i default).qy:=
 ⟨h.nam _ (getD_mem default hi),h.QW _ (getD_mem default hi)⟩
theorem E5.fin {B:Nat}{s:gQ}(h:E5 B s):Pn B s:=⟨h.len,h.nam,λit hi=>let ⟨D,hd⟩:=h.QW it hi;⟨D,hd.fin0⟩⟩
section
variable {B:Nat} {s:gQ} (hB:B<=lim) (h:E5 B s)
include hB h
theorem T.dR : Ev (λf=>G.dR f s) (Zk s):=T0.dR hB h.fin
theorem T.dP : Ev (λf=>G.dP f s) (Zk s):=T0.dP hB h.fin
end
structure StF (s:gQ):Prop where
 itm:∀it,it∈s.dG->Uc s.pW it=true
 asc:Asc (I7 s.dG)=true
 len:s.dG.length<=10
 lo:0<=s.pW
 hi:s.pW<=999
theorem MX {s:gQ} : Zk s=true<->StF s:=by unfold Zk;simp only[af,ak,aB];exact⟨λ⟨⟨h1,h2⟩,h3,h4,h5⟩=>⟨h1,h2,h3,h4,h5⟩,λh=>⟨⟨h.itm,h.asc⟩,h.len,h.lo,h.hi⟩⟩
structure ItF (c:Int)(it:jc):Prop where
 nam:NmV it.lg=true
 QW:Val it.qy=true
 lo:1<=it.nZ
 hi:it.nZ<=c
theorem LQ {c:Int}{it:jc} : Uc c it=true<->ItF c it:=by unfold Uc;simp only[af,ak];exact⟨λ⟨h1,h2,h3,h4⟩=>⟨h1,h2,h3,h4⟩,λh=>⟨h.nam,h.QW,h.lo,h.hi⟩⟩
theorem aeT {s:jE}(h:NmV s=true):1<=s.length/\s.length<=8:=by unfold NmV at h;simp only[af,ak]at h;exact h.2
theorem StF.it {s:gQ}(h:StF s){i:Nat}(hi:i<s.dG.length):ItF s.pW (s.dG.getD i default):=LQ.1 (h.itm _ (getD_mem default hi))
theorem StF.fine {s:gQ}(h:StF s):E5 60 s:=
 ⟨by have:=h.len;omega,λit hi=>by have:=(aeT (LQ.1 (h.itm it hi)).nam).2;omega,λit hi=>⟨5,Lt (LQ.1 (h.itm it hi)).QW⟩⟩
end
theorem RG {α:Type}(d:α){A S:List α}{x:α}{j:Nat}(h:j=A.length):(A++x::S).getD j d=x:=by subst h;simp[bu]
theorem TB {α:Type}{A S:List α}{x y:α}{j:Nat}(h:j=A.length):(A++x::S).set j y=A++y::S:=by subst h;simp
section
def ltE (x y:bI):Bool:=decide (zn 5 x.uC y.uC<0)
def JK : List bI->bI->List bI->List bI
 |[],x,S=>x::S
 |r::R,x,S=>if ltE x r then JK R x (r::S)else(r::R).reverse++x::S
def NI (l:List bI)(x:bI):List bI:=JK l.reverse x []
def yB (l:List bI):List bI:=l.foldl NI []
def Ba (p:List jE)(it:jc):Option bI:=(Uu it.qy p).map λk=>bI.mk k it.lg
def BP (p:List jE)(l:List jc):List bI:=l.filterMap (Ba p)
theorem Td : ∀(R:List bI) {x e:bI} {S:List bI},e∈JK R x S<->e=x\/e∈R\/e∈S
 |[],x,e,S=>by simp[JK]
 | r::R,x,e,S=>by
   rw[JK];cases h:ltE x r with
   | true=>
     rw[aF rfl,Td R,au,au];constructor
     ·rintro(a|a|a|a)
      ·exact .inl a
      ·exact .inr (.inl (.inr a))
      ·exact .inr (.inl (.inl a))
      ·exact .inr (.inr a)
     ·rintro(a|(a|a)|a)
      ·exact .inl a
      ·exact .inr (.inr (.inl a))
      ·exact .inr (.inl a)
      ·exact .inr (.inr (.inr a))
   | false=>
     rw[aj kY,List.mem_append,List.mem_reverse,au (a:=e) (b:=x)];constructor
     ·rintro(a|a|a)
      ·exact .inr (.inl a)
      ·exact .inl a
      ·exact .inr (.inr a)
     ·rintro(a|a|a)
      ·exact .inr (.inl a)
      ·exact .inl a
      ·exact .inr (.inr a)
theorem Tc : ∀(R:List bI) {x:bI} {S:List bI},(JK R x S).length=R.length+S.length+1
 |[],_,_=>by simp[JK]
 | r::R,x,S=>by
   rw[JK];cases h:ltE x r with
   |true=>rw[aF rfl,Tc R];simp;omega
   |false=>rw[aj kY];simp;omega
theorem RY {l:List bI}{x e:bI} : e∈NI l x<->e=x\/e∈l:=by unfold NI;rw[Td];simp
theorem aaw {l:List bI}{x:bI} : (NI l x).length=l.length+1:=by unfold NI;rw[Tc];simp
theorem Rz : ∀{l a:List bI} {e:bI},e∈l.foldl NI a<->e∈a\/e∈l
 |[],a,e=>by simp
 | x::l,a,e=>by
   rw[jL,Rz,RY,au];constructor
   ·rintro((h|h)|h)
    ·exact .inr (.inl h)
    ·exact .inl h
    ·exact .inr (.inr h)
   ·rintro(h|h|h)
    ·exact .inl (.inr h)
    ·exact .inl (.inl h)
    ·exact .inr h
theorem Ry : ∀{l a:List bI},(l.foldl NI a).length=a.length+l.length
 |[],a=>by simp
 |x::l,a=>by rw[jL,Ry,aaw,jU];omega
theorem O0 {l:List bI}{e:bI} : e∈yB l<->e∈l:=by unfold yB;rw[Rz];simp
theorem Jd {l:List bI} : (yB l).length=l.length:=by unfold yB;rw[Ry];simp
theorem VK {l:List bI}{x:bI} : yB (l++[x])=NI (yB l) x:=by unfold yB;rw[List.foldl_append];rfl
structure afH (l:List bI):Prop where
 val:∀e,e∈l->Val e.uC=true
 asc:l.Pairwise λa b=>bl a.lg b.lg=true
theorem PY {p:List jE}{l:List jc}{e:bI} : e∈BP p l<->∃it,it∈l/\Uu it.qy p=some e.uC/\it.lg=e.lg:=by
 unfold BP Ba;rw[List.mem_filterMap];constructor
 ·rintro⟨it,hit,h⟩;obtain⟨k,hk,rfl⟩:=aU.1 h;exact⟨it,hit,hk,rfl⟩
 ·rintro⟨it,hit,h1,h2⟩;exact⟨it,hit,by rw[h1,Option.map_some,h2]⟩
theorem Rt {p:List jE}{s:gQ}(hs:StF s):afH (BP p s.dG):=by
 refine⟨λe he=>?_,?_⟩
 ·obtain⟨it,hit,h1,_⟩:=PY.1 he;exact Pv (LQ.1 (hs.itm it hit)).QW h1
 ·have:=Gp.1 hs.asc;unfold I7 at this;rw[List.pairwise_map]at this;unfold BP;refine List.Pairwise.filterMap _ (λa b h x hx y hy=>?_) this;unfold Ba at hx hy;obtain⟨k,_,rfl⟩:=aU.1 hx;obtain⟨k',_,rfl⟩:=aU.1 hy;exact h
noncomputable def DI (s:gQ)(p:List jE):List bI:=if Zk s&&PP p then yB (BP p s.dG)else []
theorem T.aej {x r:bI}(hx:Val x.uC=true)(hr:Val r.uC=true):Ev (λf=>G.iK f x r) (Kq (zn 5 x.uC r.uC) (Rl x.lg r.lg)):=by
 refine cO ?_;simp only[G.iK];refine bV (T.GZ 5 (yR hx) (yR hr)) (bV (T.Nc _ _) (bV ?_ (iD _)));refine cO ?_;simp only[G.lQ];have w1:ah .i64 ((0:Int)+1)=1:=by decide
 have w2:ah .i64 ((1:Int)+1)=2:=by decide
 refine cO ?_;simp only[G.lQ.L1,w1];refine jr kY (vW kY ?_);show Ev (λf=>cond (zn 5 x.uC r.uC != 0) (some (zn 5 x.uC r.uC)) _) _;by_cases h0:zn 5 x.uC r.uC=0
 ·rw[Hq h0];refine jb (by simpa using h0) (cO ?_);simp only[G.lQ.L1,w2];refine jr kY (vW kY ?_);show Ev (λf=>cond (Rl x.lg r.lg != 0) (some (Rl x.lg r.lg)) _) _;by_cases h1:Rl x.lg r.lg=0
  ·rw[h1];refine jb rfl (cO ?_);simp only[G.lQ.L1];exact jb kY (iD _)
  ·exact jr (by simpa using h1) (iD _)
 ·rw[MC h0];exact jr (by simpa using h0) (iD _)
theorem cmp_neg {x r:bI}(h:bl r.lg x.lg=true):decide (Kq (zn 5 x.uC r.uC) (Rl x.lg r.lg)<0)=ltE x r:=by
 unfold ltE;by_cases h0:zn 5 x.uC r.uC=0
 ·have:Rl x.lg r.lg=1:=by unfold Rl;rw[KI h,aj kY,aj (λe=>V8 h e.symm)]
  rw[Hq h0,h0,this];decide
 ·rw[MC h0]
theorem abb {lt:bI->bI->Bool}{x:bI} : ∀{R S:List bI},(∀r,r∈R->lt x r=ltE x r)->DD lt R x S=JK R x S
 |[],_,_=>rfl
 | r::R,S,h=>by rw[DD,JK,h r (aJ ..),abb (R:=R) λq hq=>h q (bU _ hq)]
theorem fold_eq {lt:bI->bI->Bool} : ∀{l a:List bI},(∀e x,e∈a->x∈l->lt x e=ltE x e)->(l.Pairwise λe x=>lt x e=ltE x e)->l.foldl (H6 lt) a=l.foldl NI a
 |[],_,_,_=>rfl
 | x::l,a,h,hp=>by
   obtain⟨p1,p2⟩:=kC.1 hp;have e:H6 lt a x=NI a x:=abb λr hr=>h r x (List.mem_reverse.1 hr) (aJ ..);rw[jL,jL,e];refine fold_eq (λq y hq hy=>?_) p2;rcases RY.1 hq with rfl|hq
   ·exact p1 y hy
   ·exact h q y hq (bU _ hy)
theorem Z4 {β α:Type}{g:Nat->β->Option α}{r:β->α} : ∀{l:List β},(∀b,b∈l->Ev (λf=>g f b) (r b))->∃N,∀n,N<=n->∀b,b∈l->g n b=some (r b)
 |[],_=>⟨0,λ_ _ _ h=>by cases h⟩
 | b::l,h=>by
   obtain⟨N,hN⟩:=h b (aJ ..);obtain⟨M,hM⟩:=Z4 (l:=l) λc hc=>h c (bU _ hc);refine⟨N+M,λn hn c hc=>?_⟩;rcases au.1 hc with rfl|hc
   ·exact hN n aQ
   ·exact hM n aQ c hc
theorem T.abz {l:List bI}(hl:l.length<=12)(h:afH l):Ev (λf=>G.fV f l) (yB l):=by
 obtain⟨N,hN⟩:=Z4 (l:=l.flatMap λa=>l.map λb=>(a,b)) (g:=λf q=>G.iK f q.1 q.2) (r:=λq=>Kq (zn 5 q.1.uC q.2.uC) (Rl q.1.lg q.2.lg)) (λq hq=>by obtain⟨a,ha,hq⟩:=gX.1 hq;obtain⟨b,hb,rfl⟩:=aG.1 hq;exact T.aej (h.val a ha) (h.val b hb))
 have hq:∀n,N<=n->∀a b,a∈l->b∈l->G.iK n a b=some (Kq (zn 5 a.uC b.uC) (Rl a.lg b.lg)):=λn hn a b ha hb=>hN n hn (a,b) (gX.2 ⟨a,ha,aG.2 ⟨b,hb,rfl⟩⟩);refine cO ⟨N,λn hn=>?_⟩;have hs:=hq n hn;simp only[G.fV];have h1:(l.all λa=>l.all λb=>(G.iK n a b).isSome)=true:=aB.2 λa ha=>aB.2 λb hb=>by rw[hs a b ha hb];rfl
 have h2:NS (λa b=>decide ((G.iK n a b).getD 0<0)) l=yB l:=by refine fold_eq (λe x he=>by cases he) ?_;refine List.Pairwise.imp_of_mem (λ{e x} he hx hb=>?_) h.asc;show decide ((G.iK n x e).getD 0<0)=ltE x e;rw[hs x e hx he];exact cmp_neg hb
 rw[h2];exact Af.2 ⟨⟨hl,h1⟩,rfl⟩
section
variable {s:gQ} {p:List jE} (h:E5 60 s) (hp:Jj 60 p)
include h hp
theorem T.dW : Ev (λf=>G.dW f s p) (DI s p):=by
 refine cO ?_;simp only[G.dW];unfold DI;refine bV (T.dP LW h) (gU (λe1=>?_) (λe1=>dn (by rw[e1];rfl)));refine bV (T.jk p (hp.sm LW)) (gU (λe2=>?_) (λe2=>dn (by rw[e1,e2];rfl)));rw[e1,e2];have hs:=MX.1 e1;have hl:=hs.len;have hpl:=hp.1;have L:∀(k i:Nat),i+k=s.dG.length->Ev (λf=>G.dW.L1 f s p i (BP p (s.dG.take i))) (yB (BP p s.dG)):=by
  intro k
  induction k with
  | zero=>intro i hi;refine cO ?_;simp only[G.dW.L1];rw[fH aQ];have hlen:(BP p s.dG).length<=10:=dh (pR _ _) hl;exact tV (bV (T.abz aQ (Rt hs)) (vW Jd.symm (iD _)))
  | succ k ih=>
    intro i hi;have hil:i<s.dG.length:=(by omega);have hit:=hs.it hil;have hn:=ih (i+1) aQ;rw[ja hil,<- jX (default:jc) hil]at hn;unfold BP at hn⊢;rw[List.filterMap_append]at hn;have hlen:((s.dG.take i).filterMap (Ba p)).length<=10:=dh (pR _ _) (by simp;omega);refine cO ?_;simp only[G.dW.L1,ax,Nw i];refine rU (iH (bV (T.iI p (by unfold big;omega) (yR hit.QW)) ?_));cases ha:Uu (s.dG.getD i default).qy p with
    | none=>have e:[s.dG.getD i default].filterMap (Ba p)=[]:=(by rw[o7,sG];unfold Ba;rw[ha];rfl);rw[e,mJ]at hn;exact jb rfl hn
    | some k=>have e:[s.dG.getD i default].filterMap (Ba p)=[bI.mk k (s.dG.getD i default).lg]:=(by rw[o7,sG];unfold Ba;rw[ha];rfl);rw[e]at hn;exact jr rfl (bV (T.dN LW (Lt (Pv hit.QW ha))) (iH hn))
 exact L s.dG.length 0 aQ
end
theorem T.entries.L4 {s:gQ}{p:List jE}{i:Nat}{q:List bI}(hi:i<1000):∀(R:List bI) (x:bI) (S:List bI),R.length+S.length<1000->Val x.uC=true->(∀r,r∈R->Val r.uC=true) ->
 Ev (λf=>G.gp.L3 f s p ((i+1:Nat):Int) (JK R x S)) q ->
 Ev (λf=>G.gp.L4 f s p i (R.length:Int) (R.reverse++x::S)) q
 | [],x,S,hl,hx,hr,h=>by refine cO ?_;simp only[G.gp.L4,Nw i];exact jb kY h
 | r::R,x,S,hl,hx,hr,h=>by
   have hl':R.length+1+S.length<1000:=(by simpa using hl);have vr:=hr r kY;have e1:(r::R).length=R.length+1:=rfl;have w1:ah .i64 (((R.length+1:Nat):Int)-1)=(R.length:Int):=wrapN aQ aQ;have g1:((r::R).reverse++x::S).getD (R.length+1) default=x:=RG _ kY;have g0:((r::R).reverse++x::S).getD R.length default=r:=(by rw[List.reverse_cons,nX];exact RG _ kY);have hlen:((r::R).reverse++x::S).length=R.length+1+(S.length+1):=(by simp;omega);refine cO ?_;simp only[G.gp.L4,Nw i,e1,w1,ax,g0,g1];refine rU (vW (by rw[hlen];omega) (vW (by rw[hlen];omega) (bV (T.HY 5 (yR hx) (yR vr)) ?_)));rw[JK]at h;cases hx':ltE x r with
   | true=>
     rw[hx',aF rfl]at h;refine jr hx' (vW (by rw[hlen];omega) (vW (by rw[hlen];omega) (vW (by rw[hlen];omega) (vW (by rw[hlen];omega) ?_))));have e2:(((r::R).reverse++x::S).set (R.length+1) r).set R.length x=R.reverse++x::(r::S):=by rw[TB kY,List.reverse_cons,nX];exact TB kY
     show Ev (λf=>G.gp.L4 f s p i (R.length:Int) ((((r::R).reverse++x::S).set (R.length+1) r).set R.length x)) q;rw[e2];exact T.entries.L4 hi R x (r::S) (by simp;omega) hx (λr' hr'=>hr r' (by simp[hr'])) h
   | false=>rw[hx',aj kY]at h;exact jb hx' h
section
variable {s:gQ} {p:List jE} (h:E5 60 s) (hp:Jj 60 p)
include h hp
theorem T.iY : Ev (λf=>G.iY f s p) (DI s p):=by
 refine cO ?_;simp only[G.iY];unfold DI;refine bV (T.dR LW h) (gU (λe1=>?_) (λe1=>dn (by rw[e1];rfl)));refine bV (T.gK p (hp.sm LW)) (gU (λe2=>?_) (λe2=>dn (by rw[e1,e2];rfl)));rw[e1,e2];have hs:=MX.1 e1;have hl:=hs.len;have hpl:=hp.1;have L:∀(k i:Nat),i+k=s.dG.length->Ev (λf=>G.gp.L3 f s p i (yB (BP p (s.dG.take i)))) (yB (BP p s.dG)):=by
  intro k
  induction k with
  | zero=>intro i hi;refine cO ?_;simp only[G.gp.L3];rw[fH aQ];exact tV (iD _)
  | succ k ih=>
    intro i hi;have hil:i<s.dG.length:=(by omega);have hit:=hs.it hil;have hn:=ih (i+1) aQ;rw[ja hil,<- jX (default:jc) hil]at hn;have hlen:((s.dG.take i).filterMap (Ba p)).length<=10:=dh (pR _ _) (by simp;omega);have hap:BP p (s.dG.take i++[s.dG.getD i default])=BP p (s.dG.take i)++[s.dG.getD i default].filterMap (Ba p):=(by unfold BP;rw[List.filterMap_append]);rw[hap]at hn;have hsl:(yB (BP p (s.dG.take i))).length<=10:=(by rw[Jd];exact hlen);refine cO ?_;simp only[G.gp.L3,ax,Nw i];refine rU (iH (bV (T.oh p LW (by unfold big;omega) (Lt hit.QW)) ?_));cases ha:Uu (s.dG.getD i default).qy p with
    | none=>have e:[s.dG.getD i default].filterMap (Ba p)=[]:=(by rw[o7,sG];unfold Ba;rw[ha];rfl);rw[e,mJ]at hn;exact jb rfl hn
    | some k=>
      have e:[s.dG.getD i default].filterMap (Ba p)=[bI.mk k (s.dG.getD i default).lg]:=(by rw[o7,sG];unfold Ba;rw[ha];rfl);rw[e,VK]at hn;refine jr rfl (iH (iH ?_));have w:ah .i64 ((((yB (BP p (s.dG.take i))).length+1:Nat):Int)-1)=(((yB (BP p (s.dG.take i))).reverse.length:Nat):Int):=(by rw[List.length_reverse];exact wrapN aQ aQ);rw[w];have:=T.entries.L4 (s:=s) (p:=p) (i:=i) aQ (yB (BP p (s.dG.take i))).reverse (bI.mk k (s.dG.getD i default).lg) [] (by simp;omega) (Pv hit.QW ha) (λr hr=>by have hm:r∈BP p (s.dG.take i):=O0.1 (by simpa using hr);obtain⟨it,hi',h1,_⟩:=PY.1 hm;exact Pv (LQ.1 (hs.itm it (List.mem_of_mem_take hi'))).QW h1) hn
      rw[List.reverse_reverse]at this;exact this
 refine bV (cO ?_) (iD _);simp only[G.gp];exact L s.dG.length 0 aQ
end
theorem Om {s:gQ}{p:List jE} : DI s p=[]\/(StF s/\PP p=true/\DI s p=yB (BP p s.dG)):=by
 unfold DI;cases h:Zk s&&PP p with
 |false=>exact .inl rfl
 | true=>obtain⟨h1,h2⟩:Zk s=true/\PP p=true:=(by simpa using h);exact .inr ⟨MX.1 h1,h2,rfl⟩
theorem ac2 {s:gQ}{p:List jE}{e:bI}(h:e∈DI s p):Val e.uC=true/\∃it,it∈s.dG/\Uu it.qy p=some e.uC/\it.lg=e.lg:=by
 rcases Om (s:=s) (p:=p)with q|⟨hs,_,q⟩
 ·rw[q]at h;cases h
 ·rw[q]at h;have hm:=O0.1 h;exact⟨(Rt hs).val e hm,PY.1 hm⟩
theorem ac0 {s:gQ}{p:List jE} : (DI s p).length<=10:=by
 rcases Om (s:=s) (p:=p)with q|⟨hs,_,q⟩
 ·rw[q];decide
 ·rw[q,Jd];exact dh (pR _ _) hs.len
end
section
theorem WW : ∀(m:Nat) (k:Int) (out:jE),k.toNat<=m->0<=k->k<4611686018427387904->out.length+k.toNat<9223372036854775806->∃s,Ev (λf=>G.gm.L1 f k out) s/\s.length<=9223372036854775807
 | m,k,out,hm,h0,h1,hl=>by
   by_cases hk:0<k
   ·have e1:xk k 10=k/10:=(by rw[Int.tdiv_eq_ediv_of_nonneg h0]);have w1:ah .i64 (xk k 10)=k/10:=by rw[e1];exact AB aQ aQ
    match m with
    |0=>omega
    | m+1=>obtain⟨s,hs,hl2⟩:=WW m (k/10) ([jv (ah .u8 ((ah .i64 (48+(zy k 10))))).toNat]++out) aQ aQ aQ (by simp;omega);refine⟨s,cO ?_,hl2⟩;simp only[G.gm.L1,w1];exact jr (dK hk) (vW zx (vW (by simp only[maxLen];omega) hs))
   ·refine⟨[109]++out,cO ?_,by simp;omega⟩;simp only[G.gm.L1];exact jb (bP hk) (vW (by simp only[maxLen];omega) (iD _))
theorem agA {k:Int}(h0:0<=k)(h1:k<4611686018427387904):∃s,Ev (λf=>G.gm f k) s:=by
 by_cases hk:k<=0
 ·refine⟨[109,48],cO ?_⟩;simp only[G.gm];exact jr (dK hk) (iD _)
 ·obtain⟨s,hs,_⟩:=WW k.toNat k [] (aA _) h0 h1 (by simp;omega);refine⟨s,cO ?_⟩;simp only[G.gm];exact jb (bP hk) hs
noncomputable def tx (k:Int):jE:=open Classical in if h:∃s,Ev (λf=>G.gm f k) s then h.choose else []
theorem TN {k:Int}(h:Va k):Ev (λf=>G.gm f k) (tx k):=by have hx:=agA h.1 h.2;unfold tx;rw[dif_pos hx];exact hx.choose_spec
noncomputable def Hf : List jE->Int->List jE
 |[],_=>[]
 |_::r,k=>tx k::Hf r (k+1)
mutual
noncomputable def He : aN->Int->aN×Int
 |aN.mk _ _ _ ns ks,k=>(aN.mk k (k+1) (tx (k+2)) (Hf ns (k+3)) (vO ks (k+3+ns.length)).1,(vO ks (k+3+ns.length)).2)
noncomputable def vO : List aN->Int->List aN×Int
 |[],k=>([],k)
 |n::r,k=>((He n k).1::(vO r (He n k).2).1,(vO r (He n k).2).2)
end
theorem L6 : ∀(l:List jE) (k:Int),(Hf l k).length=l.length
 |[],_=>rfl
 |_::r,k=>by simp[Hf,L6 r]
mutual
theorem Qm : ∀(n:aN) (k:Int),(He n k).2=k+OA n
 |aN.mk _ _ _ ns ks,k=>by simp only[He,OA,J8 ks];omega
theorem J8 : ∀(l:List aN) (k:Int),(vO l k).2=k+qi l
 |[],k=>by simp[vO,qi]
 |n::r,k=>by simp only[vO,qi,J8 r,Qm n];omega
end
theorem IZ : ∀(l:List aN) (k:Int),(vO l k).1.length=l.length
 |[],_=>rfl
 |_::r,k=>by simp[vO,IZ r]
structure MT (mt:yK)(fS fN tS tN:Nat):Prop where
 s:mt fS=some (tS,1,[.str 0])
 n:mt fN=some (tN,5,[.int 0,.int 1,.str 2,.sub 3 fS,.sub 4 fN])
section
variable {mt:yK} {fS fN tS tN:Nat}
theorem WU (M:MT mt fS fN tS tN):∀(l:List jE) {k:Int},0<=k->k+l.length<4611686018427387904->yA mt tx (.L [.str 0] (l.map cS) k ((Hf l k).map cS) (k+l.length))
 |[],k,_,_=>by simpa[Hf]using yA.l0
 | s::r,k,h0,h1=>by
   have h2:=WU M r (k:=k+1) aQ (by simp at h1;omega);simp only[bf,Hf];refine .l1 (k1:=k+1) (.es ⟨h0,by simp at h1;omega⟩ ⟨aQ,by simp at h1;omega⟩ (by simp[cS]) ?_) ?_
   ·simpa[cS]using yA.e0
   ·have e:k+1+(r.length:Int)=k+((s::r).length:Nat):=(by simp;omega);rw[e]at h2;exact h2
theorem J9 (M:MT mt fS fN tS tN)(l:List jE){k:Int}(h0:0<=k)(h1:k+l.length<4611686018427387904):yA mt tx (.C fS (.sl 1 (l.map cS)) k (.sl 1 ((Hf l k).map cS)) (k+l.length)):=
 .c M.s ⟨h0,aQ⟩ (WU M l h0 h1)
mutual
theorem ac7 (M:MT mt fS fN tS tN):∀(n:aN) {k:Int},0<=k->k+OA n<4611686018427387904->yA mt tx (.E [.int 0,.int 1,.str 2,.sub 3 fS,.sub 4 fN] n.cells k (He n k).1.cells (He n k).2)
 | aN.mk a b c ns ks,k,h0,h1=>by simp only[OA]at h1;have h2:=L8 M ks (k:=k+3+ns.length) aQ aQ;have h3:=J9 M ns (k:=k+3) aQ aQ;rw[aN.iO,aN.iO];simp only[He];refine .ei ⟨h0,aQ⟩ ⟨aQ,aQ⟩ kY (.ei ⟨aQ,aQ⟩ ⟨aQ,aQ⟩ kY (.es ⟨aQ,aQ⟩ ⟨aQ,aQ⟩ kY ?_));rw[show k+1+1=k+2 by omega,show k+2+1=k+3 by omega];refine .ef (c:=.sl 1 (ns.map cS)) kY h3 (.ef (c:=.sl 5 (ks.map aN.cells)) kY (.c M.n ⟨aQ,aQ⟩ h2) ?_);simpa using yA.e0
theorem L8 (M:MT mt fS fN tS tN):∀(l:List aN) {k:Int},0<=k->k+qi l<4611686018427387904->yA mt tx (.L [.int 0,.int 1,.str 2,.sub 3 fS,.sub 4 fN] (l.map aN.cells) k ((vO l k).1.map aN.cells) (vO l k).2)
 |[],k,_,_=>by simpa[vO]using yA.l0
 | n::r,k,h0,h1=>by simp only[qi]at h1;have h2:=ac7 M n (k:=k) h0 aQ;have h3:=L8 M r (k:=(He n k).2) (by rw[Qm];omega) (by rw[Qm];omega);simp only[bf,vO];exact .l1 h2 h3
end
theorem SB (M:MT mt fS fN tS tN)(l:List aN){k:Int}(h0:0<=k)(h1:k+qi l<4611686018427387904):yA mt tx (.C fN (.sl 5 (l.map aN.cells)) k (.sl 5 ((vO l k).1.map aN.cells)) (vO l k).2):=
 .c M.n ⟨h0,aQ⟩ (L8 M l h0 h1)
end
section
variable {P:Program} {tS tN:Nat}
theorem H9 (h1:oD P tS=1)(l:List jE):Gh P tS (.sl 1 (l.map cS)):=
 have hx:∀(i j sz':Nat) (es':List (List Cell)),¬((l.map cS).getD i [])[j]? = some (.sl sz' es'):=λi j sz' es' h=>by
  simp only[aY,aP]at h;cases hl:l[i]? with
  |none=>rw[hl]at h;simp at h
  |some s=>rw[hl]at h;cases j<;>simp[cS]at h
 .sl _ _ _ (λ_=>0) h1 (λi j sz' es' h=>dO h (hx i j sz' es')) (λi j sz' es' h=>dO h (hx i j sz' es'))
mutual
theorem abQ (h1:oD P tS=1)(h2:oD P tN=5)(h3:kD P tN=[(3,tS),(4,tN)]):∀(n:aN) (j sz':Nat) (es':List (List Cell)),n.cells[j]? = some (.sl sz' es')->(j,if j=3 then tS else tN)∈kD P tN/\Gh P (if j=3 then tS else tN) (.sl sz' es')
 | aN.mk a b c ns ks,j,sz',es',h=>by
   have h4:=EP h1 h2 h3 ks;rw[aN.iO]at h
   match j,h with
   |0,h=>simp at h
   |1,h=>simp at h
   |2,h=>simp at h
   | 3,h=>simp only[gB,fC,aI,Cell.sl.injEq]at h;obtain⟨rfl,rfl⟩:=h;exact⟨by simp[h3],by simpa using H9 h1 ns⟩
   | 4,h=>simp only[gB,fC,aI,Cell.sl.injEq]at h;obtain⟨rfl,rfl⟩:=h;exact⟨by simp[h3],by simpa using h4⟩
   |j+5,h=>simp at h
theorem EP (h1:oD P tS=1)(h2:oD P tN=5)(h3:kD P tN=[(3,tS),(4,tN)]):∀(l:List aN),Gh P tN (.sl 5 (l.map aN.cells))
 | []=>have hx:∀(i j sz':Nat) (es':List (List Cell)),¬(([]:List (List Cell)).getD i [])[j]? = some (.sl sz' es'):=λi j sz' es' h=>by simp at h
   .sl _ _ _ (λ_=>0) h2 (λi j sz' es' h=>dO h (hx i j sz' es')) (λi j sz' es' h=>dO h (hx i j sz' es'))
 | n::r=>by
   have a:=abQ h1 h2 h3 n;have b:=EP h1 h2 h3 r;cases b with
   |sl _ _ _ t hs b1 b2=>
   have key:∀(i j sz':Nat) (es':List (List Cell)),(((n::r).map aN.cells).getD i [])[j]? = some (.sl sz' es')->(j,if j=3 then tS else tN)∈kD P tN/\Gh P (if j=3 then tS else tN) (.sl sz' es'):=by
    intro i j sz' es' h;cases i with
    |zero=>exact a j sz' es' (by simpa using h)
    | succ i=>
      have h':((r.map aN.cells).getD i [])[j]? = some (.sl sz' es'):=(by simpa using h);have c1:=b1 i j sz' es' h';have c2:=b2 i j sz' es' h';rw[h3]at c1;simp only[au,Prod.mk.injEq,fF,or_false]at c1;rcases c1 with⟨rfl,e⟩|⟨rfl,e⟩
      ·rw[e]at c2;exact⟨by simp[h3],by simpa using c2⟩
      ·rw[e]at c2;exact⟨by simp[h3],by simpa using c2⟩
   exact .sl _ _ _ (λj=>if j=3 then tS else tN) h2 (λi j sz' es' h=>(key i j sz' es' h).1) (λi j sz' es' h=>(key i j sz' es' h).2)
end
end
end
theorem SA : ∀(l:List jE) (k:Int) {i:Nat},i<l.length->(Hf l k).getD i default=tx (k+i)
 |[],_,i,h=>by simp at h
 |s::r,k,0,_=>by simp[Hf]
 | s::r,k,i+1,h=>by
   have:=SA r (k+1) (i:=i) (by simpa using h);simp only[Hf,lW,this]
   congr 1
   omega
theorem Oz : ∀(l:List aN) (k:Int) {i:Nat},i<l.length->(vO l k).1.getD i default=(He (l.getD i default) (k+qi (l.take i))).1
 |[],_,i,h=>by simp at h
 |n::r,k,0,_=>by simp[vO,qi]
 | n::r,k,i+1,h=>by
   have:=Oz r (He n k).2 (i:=i) (by simpa using h);simp only[vO,lW,this,nH,qi]
   congr 2
   rw[Qm];omega
theorem OB : ∀(l:List aN) {i:Nat},i<l.length->qi (l.take (i+1))=qi (l.take i)+OA (l.getD i default)
 |[],i,h=>by simp at h
 |n::r,0,_=>by simp[qi]
 | n::r,i+1,h=>by have:=OB r (i:=i) (by simpa using h);simp only[nH,qi,this,lW];omega
theorem WV : ∀(l:List aN) (i:Nat),qi (l.take i)<=qi l
 |[],i=>by simp[qi]
 |n::r,0=>by simp[qi]
 |n::r,i+1=>by have:=WV r i;simp only[nH,qi];omega
theorem J7 (n:aN)(k:Int):(He n k).1=aN.mk k (k+1) (tx (k+2)) (Hf n.dQ (k+3)) (vO n.bQ (k+3+n.dQ.length)).1:=by cases n;rfl
theorem T.RP {l:List jE}{k:Int}(h0:0<=k)(h1:k+l.length<4611686018427387904):Ev (λf=>G.gy f (Hf l k) k) (k+l.length):=by
 have L:∀(m i:Nat),i+m=l.length->Ev (λf=>G.gy.L1 f (Hf l k) (k+i) i) (k+l.length):=by
  intro m
  induction m with
  | zero=>intro i hi;refine cO ?_;simp only[G.gy.L1,L6];exact tV (dn aQ)
  | succ m ih=>intro i hi;have w1:ah .i64 (k+i+1)=k+((i+1:Nat):Int):=(by rw[AB aQ aQ];omega);refine cO ?_;simp only[G.gy.L1,L6,ax,w1,Nw i,SA l k (show i<l.length by omega)];exact rU (iH (bV (TN ⟨aQ,aQ⟩) (jr kY (ih (i+1) aQ))))
 refine cO ?_;simp only[G.gy];have:=L l.length 0 aQ;simpa using this
def VZ (n:aN):Prop:=∀k:Int,0<=k->k+qi n.bQ<4611686018427387904->Ev (λf=>G.gZ f (vO n.bQ k).1 k) (k+qi n.bQ)
theorem T.LK {l:List aN}(hl:∀n,n∈l->VZ n){k:Int}(h0:0<=k)(h1:k+qi l<4611686018427387904)(hlen:l.length<4611686018427387904):Ev (λf=>G.gZ f (vO l k).1 k) (k+qi l):=by
 have L:∀(m i:Nat),i+m=l.length->Ev (λf=>G.gZ.L1 f (vO l k).1 (k+qi (l.take i)) i) (k+qi l):=by
  intro m
  induction m with
  | zero=>intro i hi;refine cO ?_;simp only[G.gZ.L1,IZ];exact tV (dn (by rw[fH aQ]))
  | succ m ih=>intro i hi;have hil:i<l.length:=(by omega);have hs:=OB l hil;have hle:=WV l (i+1);have hme:VZ (l.getD i default):=hl _ (CP default hil);have ht:=CY (l.getD i default);generalize hq:l.getD i default=q at hs hme ht;have w1:ah .i64 (k+qi (l.take i)+1)=k+qi (l.take i)+1:=AB aQ aQ;have w2:ah .i64 (k+qi (l.take i)+1+1)=k+qi (l.take i)+2:=(by rw[AB aQ aQ];omega);have w3:ah .i64 (k+qi (l.take i)+2+1)=k+qi (l.take i)+3:=(by rw[AB aQ aQ];omega);have e1:=T.RP (l:=q.dQ) (k:=k+qi (l.take i)+3) aQ aQ;have e2:=hme (k+qi (l.take i)+3+q.dQ.length) aQ aQ;have e3:=ih (i+1) aQ;have e4:k+((qi (l.take (i+1)):Nat):Int)=k+qi (l.take i)+3+q.dQ.length+qi q.bQ:=(by omega);rw[e4]at e3;refine cO ?_;simp only[G.gZ.L1,IZ,ax,Oz l k hil,hq,J7,w1,w2,w3,Nw i];refine rU (iH (jb kY (iH (jb kY (iH (bV (TN ⟨aQ,aQ⟩) (jr kY (iH (bV e1 (tV (iH (bV e2 (tV e3)))))))))))))
 refine cO ?_;simp only[G.gZ];have:=L l.length 0 aQ;simpa[qi]using this
theorem L9 : ∀(l:List aN),l.length<=qi l
 |[]=>by simp
 |n::r=>by have:=L9 r;simp only[qi,CY n,jU];omega
mutual
theorem agb : ∀(n:aN),VZ n
 |aN.mk _ _ _ _ ks=>λk h0 h1=>T.LK (U7 ks) h0 h1 (by have:=L9 ks;have h2:k+(qi ks:Int)<4611686018427387904:=h1;omega)
theorem U7 : ∀(l:List aN),∀n,n∈l->VZ n
 |[],n,h=>by cases h
 | m::r,n,h=>by
   rcases au.1 h with e|e
   ·rw[e];exact agb m
   ·exact U7 r n e
end
theorem T.Ye (l:List aN){k:Int}(h0:0<=k)(h1:k+qi l<4611686018427387904):Ev (λf=>G.gZ f (vO l k).1 k) (k+qi l):=
 T.LK (U7 l) h0 h1 (by have:=L9 l;omega)
def rtc (n:aN):Nat:=n.dQ.length+qi n.bQ
theorem Ti {n:aN}(h:Parts n=true):n.dQ.length<=6:=by
 unfold Parts at h;simp only[af,eX,aK]at h;obtain⟨⟨_,h1⟩,h2⟩:=h;rcases h1 with h1|h1
 ·rw[h1]at h2;simp at h2;omega
 ·omega
theorem SE : ∀(l:List aN) (f:aN->Nat),(∀n,n∈l->OA n<=9*f n)->qi l<=9*(l.map f).sum
 |[],f,_=>by simp[qi]
 | n::r,f,h=>by have h1:=SE r f (λn hn=>h n (bU _ hn));have h2:=h n (aJ ..);simp only[qi,bf,qK];omega
theorem OU : ∀(d:Nat) (n:aN),Shape d n=true->OA n<=9*Cnt d n
 |0,n,h=>by simp[Shape]at h
 | d+1,n,h=>by have h1:=Ti (vS h);have h2:=SE n.bQ (Cnt d) (λk hk=>OU d k (uK h k hk));rw[CY];simp only[Cnt];omega
theorem adz {n:aN}(h:Val n=true):rtc n<=400:=by unfold Val at h;simp only[af,ak]at h;have:=OU 5 n h.1;rw[CY]at this;unfold rtc;omega
theorem Wn {P:Program}{tX a n:Nat}{L:List (List Cell)}(h0:Gh P tX (.sl n L))(j sz:Nat)(es:List (List Cell))(h:[Cell.sl n L][j]? = some (.sl sz es)):∃r,r∈[(0,tX,a)]/\r.1=j/\Gh P r.2.1 (.sl sz es):=by
 match j,h with
 | 0,h=>simp only[fC,aI,Cell.sl.injEq]at h;obtain⟨rfl,rfl⟩:=h;exact⟨(0,tX,a),kY,rfl,h0⟩
 |j+1,h=>simp at h
section
theorem yA.ei' {mt:yK}{o:Nat}{r:List MA}{e e':List Cell}{k k1 k':Int}(hk:Va k)(hk':Va k1)(h1:k1=k+1)(ho:o<e.length)(h:yA mt tx (.E r (e.set o (.lit (.int .i64 k))) k1 e' k')):yA mt tx (.E (.int o::r) e k e' k'):=by subst h1;exact .ei hk hk' ho h
theorem yA.es' {mt:yK}{o:Nat}{r:List MA}{e e':List Cell}{k k1 k':Int}(hk:Va k)(hk':Va k1)(h1:k1=k+1)(ho:o<e.length)(h:yA mt tx (.E r (e.set o (.str (tx k))) k1 e' k')):yA mt tx (.E (.str o::r) e k e' k'):=by subst h1;exact .es hk hk' ho h
theorem yA.to {mt:yK}{f:Nat}{c c':Cell}{k k1 k2:Int}(h:yA mt tx (.C f c k c' k1))(e:k1=k2):yA mt tx (.C f c k c' k2):=by subst e;exact h
structure TyH (P:Program)(tS tN tP:Nat):Prop where
 s:oD P tS=1
 n:oD P tN=5
 rn:kD P tN=[(3,tS),(4,tN)]
 p:oD P tP=8
 rp:kD P tP=[(1,tS),(2,tS),(6,tS),(7,tN)]
def EU {α:Type}(mc:α->Nat):List α->Nat
 |[]=>0
 |o::r=>mc o+EU mc r
noncomputable def YA {α:Type}(mk:α->Int->α)(mc:α->Nat):List α->Int->List α
 |[],_=>[]
 |o::r,k=>mk o k::YA mk mc r (k+(mc o:Nat))
section
variable {α:Type} (mk:α->Int->α) (mc:α->Nat)
theorem Ql : ∀(l:List α) (k:Int),(YA mk mc l k).length=l.length
 |[],_=>rfl
 |_::r,k=>by simp[YA,Ql r]
theorem WT [Inhabited α]:∀(l:List α) (k:Int) {i:Nat},i<l.length->(YA mk mc l k).getD i default=mk (l.getD i default) (k+EU mc (l.take i))
 |[],_,i,h=>by simp at h
 |o::r,k,0,_=>by simp[YA,EU]
 | o::r,k,i+1,h=>by
   have:=WT r (k+(mc o:Nat)) (i:=i) (by simpa using h);simp only[YA,lW,this,nH,EU]
   congr 1
   omega
theorem Sv [Inhabited α]:∀(l:List α) {i:Nat},i<l.length->EU mc (l.take (i+1))=EU mc (l.take i)+mc (l.getD i default)
 |[],i,h=>by simp at h
 |n::r,0,_=>by simp[EU]
 | n::r,i+1,h=>by have:=Sv r (i:=i) (by simpa using h);simp only[nH,EU,this,lW];omega
theorem aaW : ∀(l:List α) (i:Nat),EU mc (l.take i)<=EU mc l
 |[],i=>by simp[EU]
 |n::r,0=>by simp[EU]
 |n::r,i+1=>by have:=aaW r i;simp only[nH,EU];omega
end
theorem aa1 {α:Type}{mk:α->Int->α}{mc:α->Nat}{cells:α->List Cell}{mt:yK}{acts:List MA}(H:∀(x:α) (k:Int),0<=k->k+(mc x:Nat)<4611686018427387904->yA mt tx (.E acts (cells x) k (cells (mk x k)) (k+(mc x:Nat)))):∀(l:List α) {k:Int},0<=k->k+(EU mc l:Nat)<4611686018427387904->yA mt tx (.L acts (l.map cells) k ((YA mk mc l k).map cells) (k+(EU mc l:Nat)))
 |[],k,_,_=>by simpa[YA,EU]using yA.l0
 | o::r,k,h0,h1=>by simp only[EU]at h1;have h2:=H o k h0 aQ;have h3:=aa1 H r (k:=k+(mc o:Nat)) aQ aQ;simp only[bf,YA,EU];have e:k+((mc o:Nat):Int)+((EU mc r:Nat):Int)=k+((mc o+EU mc r:Nat):Int):=(by omega);rw[e]at h3;exact .l1 h2 h3
theorem ad7 {P:Program}{tX n:Nat}{α:Type}{cells:α->List Cell}{fn:Nat->Nat}(h4:oD P tX=n)(H:∀(o:α) (j sz:Nat) (es:List (List Cell)),(cells o)[j]? = some (.sl sz es)->(j,fn j)∈kD P tX/\Gh P (fn j) (.sl sz es))(l:List α):Gh P tX (.sl n (l.map cells)):=by
 have key:∀(i j sz':Nat) (es':List (List Cell)),((l.map cells).getD i [])[j]? = some (.sl sz' es')->(j,fn j)∈kD P tX/\Gh P (fn j) (.sl sz' es'):=by
  intro i j sz' es' h;simp only[aY,aP]at h;cases hl:l[i]? with
  |none=>rw[hl]at h;simp at h
  | some o=>rw[hl]at h;exact H o j sz' es' (by simpa using h)
 exact .sl _ _ _ fn h4 (λi j sz' es' h=>(key i j sz' es' h).1) (λi j sz' es' h=>(key i j sz' es' h).2)
def IX (x:jc):Nat:=1+1+OA x.qy
noncomputable def mkItem (x:jc)(k:Int):jc:=jc.mk (tx (k+((0:Nat):Int))) (k+((1:Nat):Int)) (He x.qy (k+((1+1:Nat):Int))).1
noncomputable abbrev WS : List jc->Int->List jc:=YA mkItem IX
abbrev Bf : List jc->Nat:=EU IX
abbrev Gl (fS fN:Nat):List MA:=[.str 0,.int 1,.int 2,.int 3,.str 4,.sub 5 fS,.sub 6 fN]
theorem aa0 {mt:yK}{fS fN tS tN:Nat}(M:MT mt fS fN tS tN)(x:jc){k:Int}(h0:0<=k)(h1:k+(IX x:Nat)<4611686018427387904):yA mt tx (.E (Gl fS fN) x.cells k (mkItem x k).cells (k+(IX x:Nat))):=by
 unfold IX at *;have aiF:=CY x.qy;obtain⟨K1,e1⟩:∃z:Int,z=k+((1:Nat):Int):=⟨_,rfl⟩;obtain⟨K2,e2⟩:∃z:Int,z=K1+((1:Nat):Int):=⟨_,rfl⟩;obtain⟨K3,e3⟩:∃z:Int,z=K2+((1:Nat):Int):=⟨_,rfl⟩;obtain⟨K4,e4⟩:∃z:Int,z=K3+((1:Nat):Int):=⟨_,rfl⟩;obtain⟨K5,e5⟩:∃z:Int,z=K4+((1:Nat):Int):=⟨_,rfl⟩;obtain⟨K6,e6⟩:∃z:Int,z=K5+(x.qy.dQ.length:Int):=⟨_,rfl⟩;obtain⟨K7,e7⟩:∃z:Int,z=K6+((qi x.qy.bQ:Nat):Int):=⟨_,rfl⟩;have eL:k+((1+1+OA x.qy:Nat):Int)=K7:=by omega
 have o0:k+((0:Nat):Int)=k:=by omega
 have o1:k+((1:Nat):Int)=K1:=by omega
 have o2:k+((1+1:Nat):Int)=K2:=by omega
 rw[eL];rw[jc.iO,jc.iO];unfold mkItem;simp only[J7,o0,o1,o2];have i0:K2+1=K3:=by omega
 have i1:K2+2=K4:=by omega
 have i2:K5+(x.qy.dQ.length:Int)=K6:=by omega
 have i3:K2+3=K5:=by omega
 simp only[i0,i1,i2,i3];refine yA.es' (k1:=K1) ⟨aQ,aQ⟩ ⟨aQ,aQ⟩ aQ kY ?_;refine yA.ei' (k1:=K2) ⟨aQ,aQ⟩ ⟨aQ,aQ⟩ aQ kY ?_;refine yA.ei' (k1:=K3) ⟨aQ,aQ⟩ ⟨aQ,aQ⟩ aQ kY ?_;refine yA.ei' (k1:=K4) ⟨aQ,aQ⟩ ⟨aQ,aQ⟩ aQ kY ?_;refine yA.es' (k1:=K5) ⟨aQ,aQ⟩ ⟨aQ,aQ⟩ aQ kY ?_;refine yA.ef (k1:=K6) (c:=.sl 1 (x.qy.dQ.map cS)) kY ((J9 M x.qy.dQ aQ aQ).to aQ) ?_;refine yA.ef (k1:=K7) (c:=.sl 5 (x.qy.bQ.map aN.cells)) kY ((SB M x.qy.bQ aQ aQ).to (by rw[J8];omega)) ?_;simpa using yA.e0
theorem ac6 {mt:yK}{fS fN tS tN tX fX:Nat}(M:MT mt fS fN tS tN)(hX:mt fX=some (tX,7,Gl fS fN))(l:List jc){k:Int}(h0:0<=k)(h1:k+(Bf l:Nat)<4611686018427387904):yA mt tx (.C fX (.sl 7 (l.map jc.cells)) k (.sl 7 ((WS l k).map jc.cells)) (k+(Bf l:Nat))):=
 .c hX ⟨h0,aQ⟩ (aa1 (λx _ a b=>aa0 M x a b) l h0 h1)
theorem acI {P:Program}{tS tN tP:Nat}(H:TyH P tS tN tP)(x:jc)(a b:Nat)(j sz:Nat)(es:List (List Cell))(h:x.cells[j]? = some (.sl sz es)):∃r,r∈[(5,tS,a),(6,tN,b)]/\r.1=j/\Gh P r.2.1 (.sl sz es):=by
 rw[jc.iO]at h
 match j,h with
 | 5,h=>simp only[gB,fC,aI,Cell.sl.injEq]at h;obtain⟨rfl,rfl⟩:=h;exact⟨(5,tS,a),kY,rfl,H9 H.s _⟩
 | 6,h=>simp only[gB,fC,aI,Cell.sl.injEq]at h;obtain⟨rfl,rfl⟩:=h;exact⟨(6,tN,b),kY,rfl,EP H.s H.n H.rn _⟩
 |0,h=>simp at h
 |1,h=>simp at h
 |2,h=>simp at h
 |3,h=>simp at h
 |4,h=>simp at h
 |j+7,h=>simp at h
theorem Y7 {P:Program}{tS tN tP tX:Nat}(H:TyH P tS tN tP)(h4:oD P tX=7)(h5:kD P tX=[(5,tS),(6,tN)])(l:List jc):Gh P tX (.sl 7 (l.map jc.cells)):=by refine ad7 (fn:=λj=>(if j=6 then tN else tS)) h4 (λo j sz' es' h=>?_) l;obtain⟨r,hr,rfl,ht⟩:=acI H o 0 0 j sz' es' h;simp only[au,fF,or_false]at hr;rcases hr with rfl|rfl<;>exact⟨by simp[h5],by simpa using ht⟩
def rE (x:bI):Nat:=OA x.uC+1
noncomputable def Bg (x:bI)(k:Int):bI:=bI.mk (He x.uC (k+((0:Nat):Int))).1 (tx (k+((OA x.uC:Nat):Int)))
noncomputable abbrev G9 : List bI->Int->List bI:=YA Bg rE
abbrev wR : List bI->Nat:=EU rE
abbrev Ik (fS fN:Nat):List MA:=[.int 0,.int 1,.str 2,.sub 3 fS,.sub 4 fN,.str 5]
theorem Yz {mt:yK}{fS fN tS tN:Nat}(M:MT mt fS fN tS tN)(x:bI){k:Int}(h0:0<=k)(h1:k+(rE x:Nat)<4611686018427387904):yA mt tx (.E (Ik fS fN) x.cells k (Bg x k).cells (k+(rE x:Nat))):=by
 unfold rE at *;have ahZ:=CY x.uC;obtain⟨K1,e1⟩:∃z:Int,z=k+((1:Nat):Int):=⟨_,rfl⟩;obtain⟨K2,e2⟩:∃z:Int,z=K1+((1:Nat):Int):=⟨_,rfl⟩;obtain⟨K3,e3⟩:∃z:Int,z=K2+((1:Nat):Int):=⟨_,rfl⟩;obtain⟨K4,e4⟩:∃z:Int,z=K3+(x.uC.dQ.length:Int):=⟨_,rfl⟩;obtain⟨K5,e5⟩:∃z:Int,z=K4+((qi x.uC.bQ:Nat):Int):=⟨_,rfl⟩;obtain⟨K6,e6⟩:∃z:Int,z=K5+((1:Nat):Int):=⟨_,rfl⟩;have eL:k+((OA x.uC+1:Nat):Int)=K6:=by omega
 have o0:k+((0:Nat):Int)=k:=by omega
 have o1:k+((OA x.uC:Nat):Int)=K5:=by omega
 rw[eL];rw[bI.iO,bI.iO];unfold Bg;simp only[J7,o0,o1];have i0:k+1=K1:=by omega
 have i1:k+2=K2:=by omega
 have i2:K3+(x.uC.dQ.length:Int)=K4:=by omega
 have i3:k+3=K3:=by omega
 simp only[i0,i1,i2,i3];refine yA.ei' (k1:=K1) ⟨aQ,aQ⟩ ⟨aQ,aQ⟩ aQ kY ?_;refine yA.ei' (k1:=K2) ⟨aQ,aQ⟩ ⟨aQ,aQ⟩ aQ kY ?_;refine yA.es' (k1:=K3) ⟨aQ,aQ⟩ ⟨aQ,aQ⟩ aQ kY ?_;refine yA.ef (k1:=K4) (c:=.sl 1 (x.uC.dQ.map cS)) kY ((J9 M x.uC.dQ aQ aQ).to aQ) ?_;refine yA.ef (k1:=K5) (c:=.sl 5 (x.uC.bQ.map aN.cells)) kY ((SB M x.uC.bQ aQ aQ).to (by rw[J8];omega)) ?_;refine yA.es' (k1:=K6) ⟨aQ,aQ⟩ ⟨aQ,aQ⟩ aQ kY ?_;simpa using yA.e0
theorem aaZ {mt:yK}{fS fN tS tN tX fX:Nat}(M:MT mt fS fN tS tN)(hX:mt fX=some (tX,6,Ik fS fN))(l:List bI){k:Int}(h0:0<=k)(h1:k+(wR l:Nat)<4611686018427387904):yA mt tx (.C fX (.sl 6 (l.map bI.cells)) k (.sl 6 ((G9 l k).map bI.cells)) (k+(wR l:Nat))):=
 .c hX ⟨h0,aQ⟩ (aa1 (λx _ a b=>Yz M x a b) l h0 h1)
theorem ZP {P:Program}{tS tN tP:Nat}(H:TyH P tS tN tP)(x:bI)(a b:Nat)(j sz:Nat)(es:List (List Cell))(h:x.cells[j]? = some (.sl sz es)):∃r,r∈[(3,tS,a),(4,tN,b)]/\r.1=j/\Gh P r.2.1 (.sl sz es):=by
 rw[bI.iO]at h
 match j,h with
 | 3,h=>simp only[gB,fC,aI,Cell.sl.injEq]at h;obtain⟨rfl,rfl⟩:=h;exact⟨(3,tS,a),kY,rfl,H9 H.s _⟩
 | 4,h=>simp only[gB,fC,aI,Cell.sl.injEq]at h;obtain⟨rfl,rfl⟩:=h;exact⟨(4,tN,b),kY,rfl,EP H.s H.n H.rn _⟩
 |0,h=>simp at h
 |1,h=>simp at h
 |2,h=>simp at h
 |5,h=>simp at h
 |j+6,h=>simp at h
theorem VP {P:Program}{tS tN tP tX:Nat}(H:TyH P tS tN tP)(h4:oD P tX=6)(h5:kD P tX=[(3,tS),(4,tN)])(l:List bI):Gh P tX (.sl 6 (l.map bI.cells)):=by refine ad7 (fn:=λj=>(if j=4 then tN else tS)) h4 (λo j sz' es' h=>?_) l;obtain⟨r,hr,rfl,ht⟩:=ZP H o 0 0 j sz' es' h;simp only[au,fF,or_false]at hr;rcases hr with rfl|rfl<;>exact⟨by simp[h5],by simpa using ht⟩
theorem T.U6 (l:List bI){k:Int}(h0:0<=k)(h1:k+(EU rE l:Nat)<4611686018427387904)(hlen:l.length<4611686018427387904):Ev (λf=>G.iJ f (YA Bg rE l k) k) (k+(EU rE l:Nat)):=by
 have L:∀(m i:Nat),i+m=l.length->Ev (λf=>G.iJ.L1 f (YA Bg rE l k) (k+(EU rE (l.take i):Nat)) i) (k+(EU rE l:Nat)):=by
  intro m
  induction m with
  | zero=>intro i hi;refine cO ?_;simp only[G.iJ.L1,Ql];exact tV (dn (by rw[fH aQ]))
  | succ m ih=>
    intro i hi;have hil:i<l.length:=(by omega);have hs:=Sv rE l hil;have hle:=aaW rE l (i+1);have hg:=WT Bg rE l k hil;generalize hq:l.getD i default=q at hs hg;rw[show rE q=OA q.uC+1 from rfl]at hs;obtain⟨K0,e0⟩:∃z:Int,z=k+(EU rE (l.take i):Nat):=⟨_,rfl⟩;rw[<- e0]at hg;have ahZ:=CY q.uC;obtain⟨K1,e1⟩:∃z:Int,z=K0+((1:Nat):Int):=⟨_,rfl⟩;obtain⟨K2,e2⟩:∃z:Int,z=K1+((1:Nat):Int):=⟨_,rfl⟩;obtain⟨K3,e3⟩:∃z:Int,z=K2+((1:Nat):Int):=⟨_,rfl⟩;obtain⟨K4,e4⟩:∃z:Int,z=K3+(q.uC.dQ.length:Int):=⟨_,rfl⟩;obtain⟨K5,e5⟩:∃z:Int,z=K4+((qi q.uC.bQ:Nat):Int):=⟨_,rfl⟩;obtain⟨K6,e6⟩:∃z:Int,z=K5+((1:Nat):Int):=⟨_,rfl⟩;have o0:K0+((0:Nat):Int)=K0:=(by omega);have o1:K0+((OA q.uC:Nat):Int)=K5:=(by omega);have i0:K0+1=K1:=(by omega);have i1:K0+2=K2:=(by omega);have i2:K3+(q.uC.dQ.length:Int)=K4:=(by omega);have i3:K0+3=K3:=(by omega);generalize hz:Bg q K0=z at hg;unfold Bg at hz;simp only[J7,o0,o1]at hz;simp only[i0,i1,i2,i3]at hz;subst hz;have w0:ah .i64 (K0+1)=K1:=(by rw[AB aQ aQ];omega);have w1:ah .i64 (K1+1)=K2:=(by rw[AB aQ aQ];omega);have w2:ah .i64 (K2+1)=K3:=(by rw[AB aQ aQ];omega);have g3:=(T.RP (l:=q.uC.dQ) (k:=K3) aQ aQ).eq (show _=K4 by omega);have g4:=(T.Ye q.uC.bQ (k:=K4) aQ aQ).eq (show _=K5 by omega);have w5:ah .i64 (K5+1)=K6:=(by rw[AB aQ aQ];omega);have e9:=ih (i+1) aQ;have e8:k+((EU rE (l.take (i+1)):Nat):Int)=K6:=(by omega);rw[e8]at e9;rw[<- e0];refine cO ?_;simp only[G.iJ.L1,Ql,ax,hg,Nw i];refine rU ?_;refine iH (jb kY ?_)
    try simp only[w0]
    refine iH (jb kY ?_)
    try simp only[w1]
    refine iH (bV (TN ⟨aQ,aQ⟩) (jr kY ?_))
    try simp only[w2]
    refine iH (bV g3 (tV ?_));refine iH (bV g4 (tV ?_));refine iH (bV (TN ⟨aQ,aQ⟩) (jr kY ?_))
    try simp only[w5]
    exact e9
 refine cO ?_;simp only[G.iJ];have:=L l.length 0 aQ;simpa[EU]using this
section
variable {mt:yK} {sb:Um} {fS fN tS tN fP tP fI tI fM:Nat} {ty:Nat->Nat}
noncomputable def agz (s:gQ)(k:Int):gQ:=gQ.mk (WS s.dG k) s.pW
theorem abB (M:MT mt fS fN tS tN)(hI:mt fI=some (tI,7,Gl fS fN))(h0':ty 0=tI)(s:gQ){k:Int}(h0:0<=k)(h1:k+(Bf s.dG:Nat)<4611686018427387904):SR mt sb tx ty [.sl 0 fI] s.cells k (agz s k).cells (k+(Bf s.dG:Nat)):=by have e1:=ac6 M hI s.dG h0 h1;rw[gQ.iO,gQ.iO];refine .sl (c:=.sl 7 (s.dG.map jc.cells)) rfl ⟨_,_,by rw[h0'];exact hI⟩ e1 ?_;simpa[agz]using SR.nil
end
theorem ZQ {P:Program}{tS tN tP tI:Nat}(H:TyH P tS tN tP)(h4:oD P tI=7)(h5:kD P tI=[(5,tS),(6,tN)])(x:gQ)(a:Nat)(j sz:Nat)(es:List (List Cell))(h:x.cells[j]? = some (.sl sz es)):∃r,r∈[(0,tI,a)]/\r.1=j/\Gh P r.2.1 (.sl sz es):=by
 rw[gQ.iO]at h
 match j,h with
 | 0,h=>simp only[fC,aI,Cell.sl.injEq]at h;obtain⟨rfl,rfl⟩:=h;exact⟨(0,tI,a),kY,rfl,Y7 H h4 h5 _⟩
 |1,h=>simp at h
 |j+2,h=>simp at h
end
structure Pm (B D:Nat)(it:jc):Prop where
 nam:it.lg.length<=B
 QW:tq B D it.qy
theorem T.adt {D:Nat}{it:jc}{left:Int}(h:Pm mx D it)(h0:0<=left)(hl:left<=1048576):∃r,Ev (λf=>G.nR f it left) r/\r<=left/\(0<=r->Pm 1048576 D it/\(OA it.qy:Int)<=3*(left-r)+3):=by
 have hn:it.lg.length<=9223372036854775807:=h.nam;have w0:ah .i64 (left-(it.lg.length:Int))=left-(it.lg.length:Int):=AB aQ aQ;by_cases c:left-(it.lg.length:Int)<0
 ·refine⟨-1,cO ?_,aQ,λh=>by omega⟩;simp only[G.nR,w0];exact jr (dK c) (iD _)
 obtain⟨v1,g1,a1,b1⟩:=T.Xo D h.QW (left:=left-(it.lg.length:Int)) aQ aQ;by_cases c1:v1<0
 ·refine⟨-1,cO ?_,aQ,λh=>by omega⟩;simp only[G.nR,w0];exact jb (bP c) (bV g1 (jr (dK c1) (iD _)))
 refine⟨v1,cO ?_,aQ,λh=>⟨⟨aQ,(b1 h).1⟩,by have:=(b1 h).2;omega⟩⟩;simp only[G.nR,w0];exact jb (bP c) (bV g1 (jb (bP c1) (iD _)))
def mkI : List jc->Nat
 |[]=>0
 |it::r=>OA it.qy+2+mkI r
theorem T.abJ {D:Nat}{s:gQ}{left:Int}(h1:s.dG.length<=mx)(hO:∀o,o∈s.dG->Pm mx D o)(h0:0<=left)(hl:left<=1048576) :
 ∃r,Ev (λf=>G.lu f s left) r/\r<=left/\(0<=r->Pn 1048576 s/\(mkI s.dG:Int)<=5*(left-r)):=by
 obtain⟨l,ck⟩:=s;have S:∃r,Ev (λf=>G.jo f l left) r/\r<=left/\(0<=r->(l.length:Int)<=left/\(∀o,o∈l->Pm 1048576 D o)/\(mkI l:Int)<=5*(left-r)):=by
  unfold mx at h1;simp only at h1 hO;have w0:ah .i64 (left-(l.length:Int))=left-(l.length:Int):=AB aQ aQ;by_cases c:left-(l.length:Int)<0
  ·refine⟨-1,cO ?_,aQ,λh=>by omega⟩;simp only[G.jo,w0];exact jr (dK c) (iD _)
  ·have L:∀(k i:Nat) (a:Int),i+k=l.length->0<=a->a<=1048576->∃r,Ev (λf=>G.jo.L1 f l a i) r/\r<=a/\(0<=r->(∀o,o∈l.drop i->Pm 1048576 D o)/\(mkI (l.drop i):Int)<=3*(a-r)+5*k):=by
    intro k
    induction k with
    | zero=>
      intro i a hi ha ha2;refine⟨a,cO ?_,aQ,λ_=>⟨λs hs=>?_,by rw[aV aQ];simp[mkI]⟩⟩
      ·simp only[G.jo.L1];exact tV (iD _)
      ·rw[aV aQ]at hs;cases hs
    | succ k ih=>
      intro i a hi ha ha2;have hil:i<l.length:=(by omega);obtain⟨q,gq,q1,q2⟩:=T.adt (hO _ (CP default hil)) ha ha2;by_cases c1:q<0
      ·refine⟨-1,cO ?_,aQ,λh=>by omega⟩;simp only[G.jo.L1,ax];exact rU (iH (bV gq (jr (dK c1) (iD _))))
      ·obtain⟨r,g,g1,g2⟩:=ih (i+1) q aQ aQ aQ;refine⟨r,cO ?_,aQ,λh=>⟨λs hs=>?_,?_⟩⟩
       ·simp only[G.jo.L1,ax,Nw i];exact rU (iH (bV gq (jb (bP c1) g)))
       ·rw[jl default hil]at hs;rcases au.1 hs with e|e
        ·rw[e];exact(q2 aQ).1
        ·exact(g2 h).1 s e
       ·have h1:=(q2 aQ).2;have h2:=(g2 h).2;rw[jl default hil];simp only[mkI];omega
   obtain⟨r,g,g1,g2⟩:=L l.length 0 (left-(l.length:Int)) aQ aQ aQ;refine⟨r,cO ?_,aQ,λh=>⟨aQ,λs hs=>(g2 h).1 s (by rw[iL];exact hs),by have:=(g2 h).2;rw[iL]at this;omega⟩⟩;simp only[G.jo,w0];exact jb (bP c) g
 obtain⟨r,g,g1,g2⟩:=S;by_cases c:r<0
 ·refine⟨-1,cO ?_,aQ,λh=>by omega⟩;simp only[G.lu];exact bV g (jr (dK c) (iD _))
 ·refine⟨r,cO ?_,aQ,λh=>?_⟩
  ·simp only[G.lu];exact bV g (jb (bP c) (iD _))
  ·obtain⟨e1,e2,e3⟩:=g2 h;exact⟨⟨by show l.length<=_;omega,λit hi=>(e2 it hi).nam,λit hi=>⟨D,(e2 it hi).QW⟩⟩,e3⟩
theorem T.adw {s:gQ}(h:Pn 1048576 s):Ev (λf=>G.mV f s) s:=by
 obtain⟨l,ck⟩:=s;have hl:l.length<=1048576:=h.len;have I:∀it,it∈l->Ev (λf=>G.pK f it) it:=λit hi=>by obtain⟨D,hd⟩:=h.QW it hi;refine cO ?_;simp only[G.pK];exact bV (T.abM Qk hd) (iD _)
 have L:∀(k i:Nat) (z:List jc),i+k=l.length->z.length=l.length->z.take i=l.take i->Ev (λf=>G.jK.L1 f l i z) l:=by
  intro k
  induction k with
  | zero=>intro i z hi hz ht;refine cO ?_;simp only[G.jK.L1];rw[fH aQ,fH aQ]at ht;exact tV (dn ht)
  | succ k ih=>intro i z hi hz ht;have hil:i<l.length:=(by omega);refine cO ?_;simp only[G.jK.L1,ax,Nw i];refine rU (iH (bV (I _ (CP default hil)) (iH (ih (i+1) _ aQ (by rw[nM];exact hz) ?_))));rw[jX _ hil];exact MP hil hz ht
 have S:Ev (λf=>G.jK f l) l:=by refine cO ?_;simp only[G.jK];exact iH (L l.length 0 _ aQ kY rfl)
 refine cO ?_;simp only[G.mV];exact bV S (iD _)
theorem T.acO {s:gQ}(h:Pn 1048576 s):Ev (λf=>G.og f s s) true:=by
 obtain⟨l,ck⟩:=s;have hl:l.length<=1048576:=h.len;have I:∀it,it∈l->Ev (λf=>G.pJ f it it) true:=λit hi=>by obtain⟨D,hd⟩:=h.QW it hi;refine cO ?_;simp only[G.pJ];exact jr kY (jb kY (bV (T.UU Qk hd) (jr rfl (iD _))))
 have L:∀(k i:Nat),i+k=l.length->Ev (λf=>G.jI.L1 f l l i) true:=by
  intro k
  induction k with
  | zero=>intro i hi;refine cO ?_;simp only[G.jI.L1];exact tV (iD _)
  | succ k ih=>intro i hi;refine cO ?_;simp only[G.jI.L1,ax,Nw i];exact rU (iH (iH (bV (I _ (CP default aQ)) (jr rfl (ih (i+1) aQ)))))
 have S:Ev (λf=>G.jI f l l) true:=by refine cO ?_;simp only[G.jI];exact jb kY (L l.length 0 aQ)
 refine cO ?_;simp only[G.og];exact bV S (jr rfl (jb kY (iD _)))
section
section
variable {s:gQ} {p:List jE}
theorem T0.dW (hs:Pn 1048576 s)(hp:Sm p):Ev (λf=>G.dW f s p) (DI s p):=by
 cases h1:Zk s with
 | true=>
   cases h2:PP p with
   |true=>exact T.dW (MX.1 h1).fine ((Xd h2).mono aQ)
   | false=>refine cO ?_;simp only[G.dW];unfold DI;rw[h1,h2];exact bV (T0.dP Qk hs) (jr h1 (bV (T.jk p hp) (jb h2 (iD _))))
 | false=>refine cO ?_;simp only[G.dW];unfold DI;rw[h1];exact bV (T0.dP Qk hs) (jb h1 (iD _))
theorem T0.iY (hs:Pn 1048576 s)(hp:Sm p):Ev (λf=>G.iY f s p) (DI s p):=by
 cases h1:Zk s with
 | true=>
   cases h2:PP p with
   |true=>exact T.iY (MX.1 h1).fine ((Xd h2).mono aQ)
   | false=>refine cO ?_;simp only[G.iY];unfold DI;rw[h1,h2];exact bV (T0.dR Qk hs) (jr h1 (bV (T.gK p hp) (jb h2 (iD _))))
 | false=>refine cO ?_;simp only[G.iY];unfold DI;rw[h1];exact bV (T0.dR Qk hs) (jb h1 (iD _))
end
theorem WH : ∀(l:List jc),Bf l=mkI l
 |[]=>rfl
 |it::r=>by have:=WH r;simp only[Bf,EU,IX,mkI]at *;omega
structure Zu (l:List bI):Prop where
 len:l.length<=10
 v:∀e,e∈l->Val e.uC=true
theorem ac1 (s:gQ)(p:List jE):Zu (DI s p):=⟨ac0,λ_ h=>(ac2 h).1⟩
theorem Zu.k : ∀{l:List bI},(∀e,e∈l->Val e.uC=true)->wR l<=500*l.length
 |[],_=>by simp[wR,EU]
 | o::r,h=>by have h1:=adz (h o (aJ ..));have h2:=Zu.k (l:=r) λx hx=>h x (bU _ hx);have h3:=CY o.uC;unfold rtc at h1;simp only[wR,EU,rE,jU,Nat.mul_succ]at h2⊢;omega
theorem T.ZX {l:List bI}(h:Zu l):Ev (λf=>G.iU f l l) true:=by
 have hl:=h.len;have L:∀(k i:Nat),i+k=l.length->Ev (λf=>G.iU.L1 f l l i) true:=by
  intro k
  induction k with
  | zero=>intro i hi;refine cO ?_;simp only[G.iU.L1];exact tV (iD _)
  | succ k ih=>intro i hi;refine cO ?_;simp only[G.iU.L1,ax,Nw i];refine rU (iH (iH (bV (r:=true) (cO ?_) (jr rfl (ih (i+1) aQ)))));simp only[G.oU];exact bV (T.UU LW ((TP (h.v _ (CP default aQ))).fin0.mono aQ (aA _))) (jr rfl (jr kY (iD _)))
 refine cO ?_;simp only[G.iU];exact jb kY (L l.length 0 aQ)
end
theorem F.cmp_isNaN_int {n:Nat} : ∀{oN r},G.cmp_isNaN_int n oN=some r->gY pZ 123 [oI oN] (oB r):=by intro oN r h;refine dU K.cmp_isNaN_int (vK ?_);unfold C.cmp_isNaN_int;rcases n with _|n<;>simp only[G.cmp_isNaN_int,reduceCtorEq]at h;have z:=Ad;exact wG
theorem F.cmp_Compare_int {n:Nat} : ∀{oN Fz r},G.cmp_Compare_int n oN Fz=some r->gY pZ 77 [oI oN,oI Fz] (oI r):=by intro oN Fz r h;refine dU K.cmp_Compare_int (vK ?_);unfold C.cmp_Compare_int;cases n;cases h;simp only[G.cmp_Compare_int]at h;have z:=ny (pp @F.cmp_isNaN_int ());exact wG
theorem F.cmp_isNaN_string {n:Nat} : ∀{oN r},G.cmp_isNaN_string n oN=some r->gY pZ 188 [oS oN] (oB r):=by intro oN r h;refine dU K.cmp_isNaN_string (vK ?_);unfold C.cmp_isNaN_string;rcases n with _|n<;>simp only[G.cmp_isNaN_string,reduceCtorEq]at h;have z:=Ad;exact wG
theorem F.cmp_Less_string {n:Nat} : ∀{oN Fz r},G.cmp_Less_string n oN Fz=some r->gY pZ 165 [oS oN,oS Fz] (oB r):=by intro oN Fz r h;refine dU K.cmp_Less_string (vK ?_);unfold C.cmp_Less_string;cases n;cases h;simp only[G.cmp_Less_string]at h;have z:=ny (pp @F.cmp_isNaN_string ());exact wG
theorem F.lQ {n:Nat} : ∀{vI r},G.lQ n vI=some r->gY pZ 34 [.one (.c (.sl 1 (aW cI vI)))] (oI r):=by intro vI r h;refine dU K.lQ (vK ?_);unfold C.lQ;rcases n with _|n<;>simp only[G.lQ,reduceCtorEq]at h;have z:=yT (pp (@uB (Int) _ (λn x=>G.lQ.L1 n vI x) r (λx=>eH.of [eI 3 0,(6,.v true (.one (.c (.sl 1 (aW cI vI))))),eI 7 (vI.length:Int),eI 8 x] [])) ()) (pp (aT @G.lQ.L1.eq_1 <|@G.lQ.L1.eq_2) ()) (pp (@kS [] [] []) ());exact wG
theorem F.fB {n:Nat} : ∀{aS fA r},G.fB n aS fA=some r->gY pZ 78 [oS aS,oS fA] (oI r):=by intro aS fA r h;refine dU K.fB (vK ?_);unfold C.fB;rcases n with _|n<;>simp only[G.fB,reduceCtorEq]at h;have z:=Ad;exact wG
theorem F.strings_Compare {n:Nat} : ∀{aS fA r},G.strings_Compare n aS fA=some r->gY pZ 36 [oS aS,oS fA] (oI r):=by intro aS fA r h;refine dU K.strings_Compare (vK ?_);unfold C.strings_Compare;cases n;cases h;simp only[G.strings_Compare]at h;have z:=ny (pp @F.fB ());exact wG
theorem F.ET : ∀(n:Nat),∀{aS fA r},G.dD n aS fA=some r->gY pZ 35 [.agg (wN aS),.agg (wN fA)] (oI r):=by
 intro n
 induction n using iQ with|_ n ih=>
 intro aS fA r h;refine dU K.dD (vK ?_);unfold C.dD;rcases n with _|n<;>simp only[G.dD,reduceCtorEq]at h;have z:=Pg (pp ih <|pp @F.cmp_Compare_int <|pp @F.strings_Compare ()) (pp (@uB (Int) _ (λn x=>G.dD.L3 n aS fA x) r (λx=>eH.of [eP 2 109,eP 3 110,eI 8 x] [(109,.var (wN aS)),(110,.var (wN fA))])) ()) (pp (@acJ (Int) _ (λn x=>G.dD.K4 n aS fA x) r (λx=>eH.of [eP 2 111,eP 3 112,eI 8 x] [(111,.var (wN aS)),(112,.var (wN fA))])) ()) (pp (aT @G.dD.L3.eq_1 <|aT @G.dD.L3.eq_2 <|aT @G.dD.K4.eq_1 <|@G.dD.K4.eq_2) ()) (pp (@kS [] [(109,10),(110,11)] []) <|pp (@kS [] [(111,109),(112,110)] []) <|pp (@kS [] [(109,111),(110,112)] []) ());exact wG
theorem F.dD {n:Nat} : ∀{aS:aN} {fA:aN} {r:Int},G.dD n aS fA=some r->gY pZ 35 [.agg (wN aS),.agg (wN fA)] (oI r):=F.ET n
theorem F.iK {n:Nat} : ∀{aS fA r},G.iK n aS fA=some r->gY pZ 33 [.agg (wE aS),.agg (wE fA)] (oI r):=by intro aS fA r h;refine dU K.iK (vK ?_);unfold C.iK;cases n;cases h;simp only[G.iK]at h;have z:=ny (pp @F.dD <|pp @F.strings_Compare <|pp @F.lQ ());exact wG
theorem F.dH {n:Nat} : ∀{fK r},G.dH n fK=some r->gY pZ 73 [oS fK] (oB r):=by intro fK r h;refine dU K.dH (vK ?_);unfold C.dH;rcases n with _|n<;>simp only[G.dH,reduceCtorEq]at h;have z:=yT (pp (@uB (Int) _ (λn x=>G.dH.L1 n fK x) r (λx=>eH.of [eS 0 fK,eI 3 x] [])) ()) (pp (aT @G.dH.L1.eq_1 <|@G.dH.L1.eq_2) ()) (pp (@kS [] [] []) ());exact wG
theorem F.gV {n:Nat} : ∀{oQ r},G.gV n oQ=some r->gY pZ 187 [oT oQ] (oB r):=by intro oQ r h;refine dU K.gV (vK ?_);unfold C.gV;rcases n with _|n<;>simp only[G.gV,reduceCtorEq]at h;have z:=jW (pp @F.dH ()) (pp (@uB (Int) _ (λn x=>G.gV.L1 n oQ x) r (λx=>eH.of [eT 0 oQ,eT 8 oQ,eI 9 (oQ.length:Int),eI 10 x] [])) ()) (pp (aT @G.gV.L1.eq_1 <|@G.gV.L1.eq_2) ()) (pp (@kS [] [] []) ());exact wG
theorem F.dJ {n:Nat} : ∀{bD r},G.dJ n bD=some r->gY pZ 164 [.agg (wN bD)] (oB r):=by intro bD r h;refine dU K.dJ (vK ?_);unfold C.dJ;rcases n with _|n<;>simp only[G.dJ,reduceCtorEq]at h;have z:=Pe (pp @F.dH <|pp @F.gV ()) (pp (@acJ (Unit) _ (λn x=>G.dJ.K1 n bD) r (λx=>eH.of [eP 1 101,eB 20 false] [(101,.var (wN bD))])) ()) (pp (aT @G.dJ.K1.eq_1 <|@G.dJ.K1.eq_2) ()) (pp (@kS [] [(101,10)] []) ());exact wG
theorem F.FO : ∀(n:Nat),∀{bD sN r},G.dw n bD sN=some r->gY pZ 110 [.agg (wN bD),oI sN] (.Bl [(false,[wI r.1]),(false,[wI r.2.1]),(false,[wB r.2.2])]):=by
 intro n
 induction n using iQ with|_ n ih=>
 intro bD sN r h;refine dU K.dw (vK ?_);unfold C.dw;rcases n with _|n<;>simp only[G.dw,reduceCtorEq]at h;have z:=jW (pp ih <|pp @F.dJ ()) (pp (@uB (Int×Int×Int) _ (λn x=>G.dw.L1 n bD sN x.1 x.2.1 x.2.2) r (λx=>eH.of [eI 1 sN,eI 4 x.1,eI 5 x.2.1,(20,.v true (.one (wK bD.bQ))),eI 21 (bD.bQ.length:Int),eI 22 x.2.2] [])) ()) (pp (aT @G.dw.L1.eq_1 <|@G.dw.L1.eq_2) ()) (pp (@kS [] [] []) ());exact wG
theorem F.dw {n:Nat} : ∀{bD:aN} {sN:Int} {r:Int×Int×Bool},G.dw n bD sN=some r->gY pZ 110 [.agg (wN bD),oI sN] (.Bl [(false,[wI r.1]),(false,[wI r.2.1]),(false,[wB r.2.2])]):=F.FO n
theorem F.kE {n:Nat} : ∀{bD r},G.kE n bD=some r->gY pZ 72 [.agg (wN bD)] (oB r):=by intro bD r h;refine dU K.kE (vK ?_);unfold C.kE;cases n;cases h;simp only[G.kE]at h;have z:=ny (pp @F.dw ());exact wG
theorem F.iW {n:Nat} : ∀{fK r},G.iW n fK=some r->gY pZ 71 [oS fK] (oB r):=by intro fK r h;refine dU K.iW (vK ?_);unfold C.iW;rcases n with _|n<;>simp only[G.iW,reduceCtorEq]at h;have z:=yT (pp (@uB (Int) _ (λn x=>G.iW.L1 n fK x) r (λx=>eH.of [eS 0 fK,eI 3 x] [])) ()) (pp (aT @G.iW.L1.eq_1 <|@G.iW.L1.eq_2) ()) (pp (@kS [] [] []) ());exact wG
theorem F.dP {n:Nat} : ∀{fK r},G.dP n fK=some r->gY pZ 28 [.agg (wU fK)] (oB r):=by intro fK r h;refine dU K.dP (vK ?_);unfold C.dP;rcases n with _|n<;>simp only[G.dP,reduceCtorEq]at h;have z:=jW (pp @F.iW <|pp @F.kE ()) (pp (@uB (Int) _ (λn x=>G.dP.L1 n fK x) r (λx=>eH.of [eP 1 103,(20,.v true (.one (w7 fK.dG))),eI 21 (fK.dG.length:Int),eI 22 x] [(103,.var (wU fK))])) ()) (pp (aT @G.dP.L1.eq_1 <|@G.dP.L1.eq_2) ()) (pp (@kS [] [(103,10)] []) <|pp (@kS [] [(103,103)] []) ());exact wG
theorem F.JJ : ∀(n:Nat),∀{bD r},G.dN n bD=some r->gY pZ 31 [.agg (wN bD)] (.agg (wN r)):=by
 intro n
 induction n using iQ with|_ n ih=>
 intro bD r h;refine dU K.dN (vK ?_);unfold C.dN;rcases n with _|n<;>simp only[G.dN,reduceCtorEq]at h;have z:=Pg (pp ih ()) (pp (@uB (List jE×Int×List aN) _ (λn x=>G.dN.L2 n bD x.1 x.2.1 x.2.2) r (λx=>eH.of [eP 2 113,eP 3 114,(37,.v true (.one (wK bD.bQ))),eI 38 (bD.bQ.length:Int),eI 39 x.2.1] [(113,.var zN),(114,.var [wI bD.fZ,wI bD.xu,wS bD.nJ,.own 115 x.1.length 1,.own 116 x.2.2.length 5]),(115,.dat 1 (aW cS x.1)),(116,.dat 5 (aW aN.cells x.2.2))])) ()) (pp (@acJ (List jE) _ (λn x=>G.dN.K1 n bD x) r (λx=>eH.of [eP 1 101,eP 2 102,eP 3 103] [(101,.var (wN bD)),(102,.var zN),(103,.var [wI bD.fZ,wI bD.xu,wS bD.nJ,.own 104 x.length 1,.wC 5]),(104,.dat 1 (aW cS x))])) ()) (pp (aT @G.dN.K1.eq_1 <|aT @G.dN.K1.eq_2 <|aT @G.dN.L2.eq_1 <|@G.dN.L2.eq_2) ()) (pp (@kS [] [(101,10),(102,11),(103,12),(104,13)] []) <|pp (@kS [] [(101,10),(102,11),(103,12)] [104]) <|pp (@kS [] [(113,102),(114,103),(115,104),(116,14)] []) <|pp (@kS [] [(113,113),(114,114),(115,115),(116,116)] []) ());exact wG
theorem F.dN {n:Nat} : ∀{bD:aN} {r:aN},G.dN n bD=some r->gY pZ 31 [.agg (wN bD)] (.agg (wN r)):=F.JJ n
theorem F.slices_isNaN_string {n:Nat} : ∀{oN r},G.slices_isNaN_string n oN=some r->gY pZ 166 [oS oN] (oB r):=by intro oN r h;refine dU K.slices_isNaN_string (vK ?_);unfold C.slices_isNaN_string;rcases n with _|n<;>simp only[G.slices_isNaN_string,reduceCtorEq]at h;have z:=Ad;exact wG
theorem F.slices_BinarySearch_string {n:Nat} : ∀{oN rV r},G.slices_BinarySearch_string n oN rV=some r->gY pZ 111 [oT oN,oS rV] (.Bl [(false,[wI r.1]),(false,[wB r.2])]):=by intro oN rV r h;refine dU K.slices_BinarySearch_string (vK ?_);unfold C.slices_BinarySearch_string;rcases n with _|n<;>simp only[G.slices_BinarySearch_string,reduceCtorEq]at h;have z:=jW (pp @F.cmp_Less_string <|pp @F.slices_isNaN_string ()) (pp (@uB (Int×Int) _ (λn x=>G.slices_BinarySearch_string.L1 n oN rV x.1 x.2) r (λx=>eH.of [eT 0 oN,eS 1 rV,eI 6 (oN.length:Int),eI 7 x.1,eI 8 x.2] [])) ()) (pp (aT @G.slices_BinarySearch_string.L1.eq_1 <|@G.slices_BinarySearch_string.L1.eq_2) ()) (pp (@kS [] [] []) ());exact wG
def B.ren : Go.Shelf.Ren:=⟨λn=>match n with|138=>139|143=>140|147=>50|172=>180|195=>174|197=>175|205=>216|217=>179|218=>176|219=>177|221=>89|224=>193|225=>192|244=>196|245=>197|247=>205|260=>191|266=>195|267=>194|268=>138|279=>206|280=>207|281=>208|282=>209|287=>214|314=>204|316=>215|321=>219|322=>220|99=>146|129=>122|156=>98|165=>156|166=>157|167=>155|169=>153|171=>112|206=>181|240=>185|241=>186|243=>167|246=>189|276=>198|277=>199|283=>200|284=>201|285=>202|286=>203|317=>210|318=>211|319=>212|320=>213|337=>217|338=>218|_=>0,λn=>match n with|21=>21|85=>216|105=>192|119=>209|138=>211|139=>212|143=>229|145=>231|146=>213|167=>215|168=>218|175=>223|210=>226|0=>0|2=>2|3=>3|4=>4|5=>5|9=>9|20=>20|31=>25|37=>105|46=>101|51=>147|53=>149|70=>169|72=>171|75=>175|76=>178|80=>151|127=>194|164=>202|171=>205|173=>207|212=>221|213=>222|232=>232|233=>233|_=>0,λn=>match n with|1=>0|3=>1|4=>2|15=>4|16=>5|17=>3|18=>6|19=>7|_=>0⟩
theorem B.x72 : Go.Proofs.Builder.X72 pZ B.ren:=by constructor<;>kernel_rfl
theorem B.x : Go.Proofs.Builder.Extra pZ B.ren:=by constructor<;>first|exact B.x72|kernel_rfl|(intro w;kernel_rfl)|decide
theorem B.lays171 : Go.Proofs.Lays.n171 pZ B.ren:=by constructor<;>first|kernel_rfl|(intro w;kernel_rfl)
theorem B.laysM171 : Go.Proofs.LaysM.n171 pZ B.ren:=by constructor<;>first|exact B.lays171|kernel_rfl|(intro w;kernel_rfl)
theorem F.strconv_Itoa {n:Nat} : ∀{afP:Int} {r:jE},G.strconv_Itoa n afP=some r->gY pZ 112 [oI afP] (oS r):=by intro i r h;rcases n with _|n<;>simp only[G.strconv_Itoa,reduceCtorEq]at h;obtain⟨⟨h0,hl⟩,h⟩:=Af.1 h;exact acs B.laysM171 h0 (dh hl zx) (by cases h;rfl)
theorem F.gW {n:Nat} : ∀{bD nK r},G.gW n bD nK=some r->gY pZ 74 [.agg (wN bD),oS nK] (.Bl [(false,[wI r.1]),(false,[wB r.2])]):=by intro bD nK r h;refine dU K.gW (vK ?_);unfold C.gW;rcases n with _|n<;>simp only[G.gW,reduceCtorEq]at h;have z:=jW (pp @F.slices_BinarySearch_string <|pp @F.strconv_Itoa ()) (pp (@uB (Int) _ (λn x=>G.gW.L1 n bD nK x) r (λx=>eH.of [eS 1 nK,eI 21 (bD.bQ.length:Int),eI 22 x] [])) ()) (pp (aT @G.gW.L1.eq_1 <|@G.gW.L1.eq_2) ()) (pp (@kS [] [] []) ());exact wG
theorem F.iI {n:Nat} : ∀{bD dI r},G.iI n bD dI=some r->gY pZ 30 [.agg (wN bD),oT dI] (.Bl [(true,(wN r.1)),(false,[wB r.2])]):=by intro bD dI r h;refine dU K.iI (vK ?_);unfold C.iI;rcases n with _|n<;>simp only[G.iI,reduceCtorEq]at h;have z:=jW (pp @F.gW ()) (pp (@uB (Int×Int×Int×jE×List jE×List aN) _ (λn x=>G.iI.L1 n dI x.1 x.2.1 x.2.2.1 x.2.2.2.1 x.2.2.2.2.1 x.2.2.2.2.2) r (λx=>eH.of [eP 2 105,eP 4 106,eT 10 dI,eI 11 (dI.length:Int),eI 12 x.1] [(105,.var [wI x.2.1,wI x.2.2.1,wS x.2.2.2.1,wT x.2.2.2.2.1,wK x.2.2.2.2.2]),(106,.var zN)])) ()) (pp (aT @G.iI.L1.eq_1 <|@G.iI.L1.eq_2) ()) (pp (@kS [] [(105,10),(106,11)] []) <|pp (@kS [] [(105,105),(106,106)] []) ());exact wG
theorem F.jk {n:Nat} : ∀{dI r},G.jk n dI=some r->gY pZ 29 [oT dI] (oB r):=by intro dI r h;refine dU K.jk (vK ?_);unfold C.jk;rcases n with _|n<;>simp only[G.jk,reduceCtorEq]at h;have z:=jW (pp @F.dH ()) (pp (@uB (Int) _ (λn x=>G.jk.L1 n dI x) r (λx=>eH.of [eT 8 dI,eI 9 (dI.length:Int),eI 10 x] [])) ()) (pp (aT @G.jk.L1.eq_1 <|@G.jk.L1.eq_2) ()) (pp (@kS [] [] []) ());exact wG
def B.ah2 : Go.Shelf.Ren:=⟨λn=>match n with|6=>32|14=>75|15=>76|20=>113|21=>114|22=>115|23=>116|24=>117|25=>118|26=>119|27=>120|28=>121|29=>122|46=>168|47=>169|48=>170|49=>171|50=>172|57=>190|_=>0,λn=>match n with|0=>0|3=>3|4=>4|5=>5|9=>9|22=>28|24=>62|25=>67|39=>101|45=>140|46=>141|50=>83|53=>147|55=>149|66=>184|70=>188|76=>197|77=>198|_=>0,λ_=>0⟩
theorem B.sortL : Go.Proofs.SlLaysF0.n6 pZ B.ah2:=by constructor<;>first|kernel_rfl|(intro w;kernel_rfl)|exact ZB lY lY
theorem F.fV {n:Nat} : ∀{oN:List bI} {r:List bI},G.fV n oN=some r->xm pZ 32 [.one (.own 0 oN.length 6),.one (.fn 33 [])] [.dat 6 (aW bI.cells oN)] (λr1 b1=>r1 = .Bl []/\b1=[.dat 6 (aW bI.cells r)]):=by
 intro l r h;rcases n with _|n<;>simp only[G.fV,reduceCtorEq]at h;obtain⟨⟨hl,hs⟩,h⟩:=Af.1 h;cases h;exact acu (ec:=bI.cells) B.sortL lY zx (λ_=>rfl) (by intro w;kernel_rfl) (by intro w;kernel_rfl) (PZ lY) hl (λa b ha hb=>F.iK (by have h1:=aB.1 (aB.1 hs a ha) b hb;obtain⟨z,hz⟩:=Option.isSome_iff_exists.1 h1;rw[hz];rfl))
theorem F.dW {n:Nat} : ∀{fK dI r},G.dW n fK dI=some r->gY pZ 10 [.agg (wU fK),oT dI] (.one (.c (.sl 6 (aW bI.cells r)))):=by intro fK dI r h;refine dU K.dW (vK ?_);unfold C.dW;rcases n with _|n<;>simp only[G.dW,reduceCtorEq]at h;have z:=Zi (pp @F.dP <|pp @F.jk <|pp @F.iI <|pp @F.dN ()) (pp (pp @F.fV (@cG [102] [])) ()) (pp (@uB (Int×List bI) _ (λn x=>G.dW.L1 n fK dI x.1 x.2) r (λx=>eH.of [eT 1 dI,(5,.v true (.one (.own 102 x.2.length 6))),(19,.v true (.one (w7 fK.dG))),eI 20 (fK.dG.length:Int),eI 21 x.1] [(102,.dat 6 (aW bI.cells x.2))])) ()) (pp (aT @G.dW.L1.eq_1 <|@G.dW.L1.eq_2) ()) (pp (@kS [] [] [102]) <|pp (@kS [] [(102,14)] []) <|pp (@kS [] [(102,102)] []) ());exact wG
theorem F.iG {n:Nat} : ∀{aS fA r},G.iG n aS fA=some r->gY pZ 13 [oT aS,oT fA] (oB r):=by intro aS fA r h;refine dU K.iG (vK ?_);unfold C.iG;rcases n with _|n<;>simp only[G.iG,reduceCtorEq]at h;have z:=yT (pp (@uB (Int) _ (λn x=>G.iG.L1 n aS fA x) r (λx=>eH.of [eT 0 aS,eT 1 fA,eI 5 x] [])) ()) (pp (aT @G.iG.L1.eq_1 <|@G.iG.L1.eq_2) ()) (pp (@kS [] [] []) ());exact wG
theorem F.JP : ∀(n:Nat),(∀{aS fA r},G.lZ n aS fA=some r->gY pZ 57 [.agg (wN aS),.agg (wN fA)] (oB r))/\(∀{aS fA r},G.kJ n aS fA=some r->gY pZ 100 [.one (wK aS),.one (wK fA)] (oB r)):=by
 intro n
 induction n using iQ with|_ n ih=>
 refine⟨?_,?_⟩
 ·intro aS fA r h;refine dU K.lZ (vK ?_);unfold C.lZ;cases n;cases h;simp only[G.lZ]at h;have z:=ny (pp ((ihR ih)) <|pp @F.iG ());exact wG
 ·intro aS fA r h;refine dU K.kJ (vK ?_);unfold C.kJ;rcases n with _|n<;>simp only[G.kJ,reduceCtorEq]at h;have z:=jW (pp ((ihL ih)) ()) (pp (@uB (Int) _ (λn x=>G.kJ.L1 n aS fA x) r (λx=>eH.of [(0,.v true (.one (wK aS))),(1,.v true (.one (wK fA))),eI 5 x] [])) ()) (pp (aT @G.kJ.L1.eq_1 <|@G.kJ.L1.eq_2) ()) (pp (@kS [] [] []) ());exact wG
theorem F.lZ {n:Nat} : ∀{aS:aN} {fA:aN} {r:Bool},G.lZ n aS fA=some r->gY pZ 57 [.agg (wN aS),.agg (wN fA)] (oB r):=(F.JP n).1
theorem F.oU {n:Nat} : ∀{aS fA r},G.oU n aS fA=some r->gY pZ 37 [.agg (wE aS),.agg (wE fA)] (oB r):=by intro aS fA r h;refine dU K.oU (vK ?_);unfold C.oU;cases n;cases h;simp only[G.oU]at h;have z:=ny (pp @F.lZ ());exact wG
theorem F.iU {n:Nat} : ∀{aS fA r},G.iU n aS fA=some r->gY pZ 11 [.one (.c (.sl 6 (aW bI.cells aS))),.one (.c (.sl 6 (aW bI.cells fA)))] (oB r):=by intro aS fA r h;refine dU K.iU (vK ?_);unfold C.iU;rcases n with _|n<;>simp only[G.iU,reduceCtorEq]at h;have z:=jW (pp @F.oU ()) (pp (@uB (Int) _ (λn x=>G.iU.L1 n aS fA x) r (λx=>eH.of [(0,.v true (.one (.c (.sl 6 (aW bI.cells aS))))),(1,.v true (.one (.c (.sl 6 (aW bI.cells fA))))),eI 5 x] [])) ()) (pp (aT @G.iU.L1.eq_1 <|@G.iU.L1.eq_2) ()) (pp (@kS [] [] []) ());exact wG
theorem F.pJ {n:Nat} : ∀{aS fA r},G.pJ n aS fA=some r->gY pZ 79 [.agg (wM aS),.agg (wM fA)] (oB r):=by intro aS fA r h;refine dU K.pJ (vK ?_);unfold C.pJ;cases n;cases h;simp only[G.pJ]at h;have z:=ny (pp @F.lZ ());exact wG
theorem F.jI {n:Nat} : ∀{aS fA r},G.jI n aS fA=some r->gY pZ 38 [.one (w7 aS),.one (w7 fA)] (oB r):=by intro aS fA r h;refine dU K.jI (vK ?_);unfold C.jI;rcases n with _|n<;>simp only[G.jI,reduceCtorEq]at h;have z:=jW (pp @F.pJ ()) (pp (@uB (Int) _ (λn x=>G.jI.L1 n aS fA x) r (λx=>eH.of [(0,.v true (.one (w7 aS))),(1,.v true (.one (w7 fA))),eI 5 x] [])) ()) (pp (aT @G.jI.L1.eq_1 <|@G.jI.L1.eq_2) ()) (pp (@kS [] [] []) ());exact wG
theorem F.og {n:Nat} : ∀{aS fA r},G.og n aS fA=some r->gY pZ 12 [.agg (wU aS),.agg (wU fA)] (oB r):=by intro aS fA r h;refine dU K.og (vK ?_);unfold C.og;cases n;cases h;simp only[G.og]at h;have z:=ny (pp @F.jI ());exact wG
theorem F.gm {n:Nat} : ∀{yL r},G.gm n yL=some r->gY pZ 40 [oI yL] (oS r):=by intro yL r h;refine dU K.gm (vK ?_);unfold C.gm;rcases n with _|n<;>simp only[G.gm,reduceCtorEq]at h;have z:=yT (pp (@uB (Int×jE) _ (λn x=>G.gm.L1 n x.1 x.2) r (λx=>eH.of [eI 0 x.1,eS 3 x.2] [])) ()) (pp (aT @G.gm.L1.eq_1 <|@G.gm.L1.eq_2) ()) (pp (@kS [] [] []) ());exact wG
theorem F.gy {n:Nat} : ∀{aS yL r},G.gy n aS yL=some r->gY pZ 42 [oT aS,oI yL] (oI r):=by intro aS yL r h;refine dU K.gy (vK ?_);unfold C.gy;rcases n with _|n<;>simp only[G.gy,reduceCtorEq]at h;have z:=jW (pp @F.gm ()) (pp (@uB (Int×Int) _ (λn x=>G.gy.L1 n aS x.1 x.2) r (λx=>eH.of [eT 0 aS,eI 1 x.1,eI 5 x.2] [])) ()) (pp (aT @G.gy.L1.eq_1 <|@G.gy.L1.eq_2) ()) (pp (@kS [] [] []) ());exact wG
theorem F.IV : ∀(n:Nat),∀{aS yL r},G.gZ n aS yL=some r->gY pZ 43 [.one (wK aS),oI yL] (oI r):=by
 intro n
 induction n using iQ with|_ n ih=>
 intro aS yL r h;refine dU K.gZ (vK ?_);unfold C.gZ;rcases n with _|n<;>simp only[G.gZ,reduceCtorEq]at h;have z:=jW (pp ih <|pp @F.gm <|pp @F.gy ()) (pp (@uB (Int×Int) _ (λn x=>G.gZ.L1 n aS x.1 x.2) r (λx=>eH.of [(0,.v true (.one (wK aS))),eI 1 x.1,eI 5 x.2] [])) ()) (pp (aT @G.gZ.L1.eq_1 <|@G.gZ.L1.eq_2) ()) (pp (@kS [] [] []) ());exact wG
theorem F.gZ {n:Nat} : ∀{aS:List aN} {yL:Int} {r:Int},G.gZ n aS yL=some r->gY pZ 43 [.one (wK aS),oI yL] (oI r):=F.IV n
theorem F.iJ {n:Nat} : ∀{aS yL r},G.iJ n aS yL=some r->gY pZ 17 [.one (.c (.sl 6 (aW bI.cells aS))),oI yL] (oI r):=by intro aS yL r h;refine dU K.iJ (vK ?_);unfold C.iJ;rcases n with _|n<;>simp only[G.iJ,reduceCtorEq]at h;have z:=jW (pp @F.gm <|pp @F.gy <|pp @F.gZ ()) (pp (@uB (Int×Int) _ (λn x=>G.iJ.L1 n aS x.1 x.2) r (λx=>eH.of [(0,.v true (.one (.c (.sl 6 (aW bI.cells aS))))),eI 1 x.1,eI 5 x.2] [])) ()) (pp (aT @G.iJ.L1.eq_1 <|@G.iJ.L1.eq_2) ()) (pp (@kS [] [] []) ());exact wG
theorem F.gz {n:Nat} : ∀{aS jH r},G.gz n aS jH=some r->gY pZ 6 [oT aS,oI jH] (oI r):=by intro aS jH r h;refine dU K.gz (vK ?_);unfold C.gz;rcases n with _|n<;>simp only[G.gz,reduceCtorEq]at h;have z:=yT (pp (@uB (Int×Int) _ (λn x=>G.gz.L1 n aS x.1 x.2) r (λx=>eH.of [eT 0 aS,eI 1 x.1,eI 5 x.2] [])) ()) (pp (aT @G.gz.L1.eq_1 <|@G.gz.L1.eq_2) ()) (pp (@kS [] [] []) ());exact wG
theorem F.JQ : ∀(n:Nat),(∀{aS jH r},G.l7 n aS jH=some r->gY pZ 102 [.agg (wN aS),oI jH] (oI r))/\(∀{aS jH r},G.jJ n aS jH=some r->gY pZ 159 [.one (wK aS),oI jH] (oI r)):=by
 intro n
 induction n using iQ with|_ n ih=>
 refine⟨?_,?_⟩
 ·intro aS jH r h;refine dU K.l7 (vK ?_);unfold C.l7;cases n;cases h;simp only[G.l7]at h;have z:=ny (pp ((ihR ih)) <|pp @F.gz ());exact wG
 ·intro aS jH r h;refine dU K.jJ (vK ?_);unfold C.jJ;rcases n with _|n<;>simp only[G.jJ,reduceCtorEq]at h;have z:=jW (pp ((ihL ih)) ()) (pp (@uB (Int×Int) _ (λn x=>G.jJ.L1 n aS x.1 x.2) r (λx=>eH.of [(0,.v true (.one (wK aS))),eI 1 x.1,eI 5 x.2] [])) ()) (pp (aT @G.jJ.L1.eq_1 <|@G.jJ.L1.eq_2) ()) (pp (@kS [] [] []) ());exact wG
theorem F.l7 {n:Nat} : ∀{aS:aN} {jH:Int} {r:Int},G.l7 n aS jH=some r->gY pZ 102 [.agg (wN aS),oI jH] (oI r):=(F.JQ n).1
theorem F.nR {n:Nat} : ∀{aS jH r},G.nR n aS jH=some r->gY pZ 63 [.agg (wM aS),oI jH] (oI r):=by intro aS jH r h;refine dU K.nR (vK ?_);unfold C.nR;cases n;cases h;simp only[G.nR]at h;have z:=ny (pp @F.l7 ());exact wG
theorem F.jo {n:Nat} : ∀{aS jH r},G.jo n aS jH=some r->gY pZ 23 [.one (w7 aS),oI jH] (oI r):=by intro aS jH r h;refine dU K.jo (vK ?_);unfold C.jo;rcases n with _|n<;>simp only[G.jo,reduceCtorEq]at h;have z:=jW (pp @F.nR ()) (pp (@uB (Int×Int) _ (λn x=>G.jo.L1 n aS x.1 x.2) r (λx=>eH.of [(0,.v true (.one (w7 aS))),eI 1 x.1,eI 5 x.2] [])) ()) (pp (aT @G.jo.L1.eq_1 <|@G.jo.L1.eq_2) ()) (pp (@kS [] [] []) ());exact wG
theorem F.lu {n:Nat} : ∀{aS jH r},G.lu n aS jH=some r->gY pZ 5 [.agg (wU aS),oI jH] (oI r):=by intro aS jH r h;refine dU K.lu (vK ?_);unfold C.lu;cases n;cases h;simp only[G.lu]at h;have z:=ny (pp @F.jo ());exact wG
theorem F.ig {n:Nat} : ∀{aS r},G.ig n aS=some r->gY pZ 9 [oT aS] (oT r):=by intro aS r h;refine dU K.ig (vK ?_);unfold C.ig;rcases n with _|n<;>simp only[G.ig,reduceCtorEq]at h;have z:=yT (pp (@uB (Int×List jE) _ (λn x=>G.ig.L1 n aS x.1 x.2) r (λx=>eH.of [eT 0 aS,(3,.v true (.one (.own 103 x.2.length 1))),eI 4 x.1] [(103,.dat 1 (aW cS x.2))])) ()) (pp (aT @G.ig.L1.eq_1 <|@G.ig.L1.eq_2) ()) (pp (@kS [] [(103,10)] []) <|pp (@kS [] [(103,103)] []) ());exact wG
theorem F.JR : ∀(n:Nat),(∀{aS r},G.nD n aS=some r->gY pZ 109 [.agg (wN aS)] (.agg (wN r)))/\(∀{aS r},G.kK n aS=some r->gY pZ 163 [.one (wK aS)] (.one (wK r))):=by
 intro n
 induction n using iQ with|_ n ih=>
 refine⟨?_,?_⟩
 ·intro aS r h;refine dU K.nD (vK ?_);unfold C.nD;cases n;cases h;simp only[G.nD]at h;have z:=ny (pp ((ihR ih)) <|pp @F.ig ());exact wG
 ·intro aS r h;refine dU K.kK (vK ?_);unfold C.kK;rcases n with _|n<;>simp only[G.kK,reduceCtorEq]at h;have z:=jW (pp ((ihL ih)) ()) (pp (@uB (Int×List aN) _ (λn x=>G.kK.L1 n aS x.1 x.2) r (λx=>eH.of [(0,.v true (.one (wK aS))),(3,.v true (.one (.own 103 x.2.length 5))),eI 4 x.1] [(103,.dat 5 (aW aN.cells x.2))])) ()) (pp (aT @G.kK.L1.eq_1 <|@G.kK.L1.eq_2) ()) (pp (@kS [] [(103,10)] []) <|pp (@kS [] [(103,103)] []) ());exact wG
theorem F.nD {n:Nat} : ∀{aS:aN} {r:aN},G.nD n aS=some r->gY pZ 109 [.agg (wN aS)] (.agg (wN r)):=(F.JR n).1
theorem F.pK {n:Nat} : ∀{aS r},G.pK n aS=some r->gY pZ 70 [.agg (wM aS)] (.agg (wM r)):=by intro aS r h;refine dU K.pK (vK ?_);unfold C.pK;cases n;cases h;simp only[G.pK]at h;have z:=ny (pp @F.nD ());exact wG
theorem F.jK {n:Nat} : ∀{aS r},G.jK n aS=some r->gY pZ 27 [.one (w7 aS)] (.one (w7 r)):=by intro aS r h;refine dU K.jK (vK ?_);unfold C.jK;rcases n with _|n<;>simp only[G.jK,reduceCtorEq]at h;have z:=jW (pp @F.pK ()) (pp (@uB (Int×List jc) _ (λn x=>G.jK.L1 n aS x.1 x.2) r (λx=>eH.of [(0,.v true (.one (w7 aS))),(3,.v true (.one (.own 103 x.2.length 7))),eI 4 x.1] [(103,.dat 7 (aW jc.cells x.2))])) ()) (pp (aT @G.jK.L1.eq_1 <|@G.jK.L1.eq_2) ()) (pp (@kS [] [(103,10)] []) <|pp (@kS [] [(103,103)] []) ());exact wG
theorem F.mV {n:Nat} : ∀{aS r},G.mV n aS=some r->gY pZ 8 [.agg (wU aS)] (.agg (wU r)):=by intro aS r h;refine dU K.mV (vK ?_);unfold C.mV;cases n;cases h;simp only[G.mV]at h;have z:=ny (pp @F.jK ());exact wG
theorem F.JS : ∀(n:Nat),∀{bD r},G.fG n bD=some r->gY pZ 106 [.agg (wN bD)] (.agg (wN r)):=by
 intro n
 induction n using iQ with|_ n ih=>
 intro bD r h;refine dU K.fG (vK ?_);unfold C.fG;rcases n with _|n<;>simp only[G.fG,reduceCtorEq]at h;have z:=jW (pp ih ()) (pp (@uB (Int×List aN) _ (λn x=>G.fG.L1 n bD x.1 x.2) r (λx=>eH.of [eP 1 107,eP 2 108,(3,.v true (.one (.own 109 x.2.length 5))),eI 4 x.1] [(107,.var (wN bD)),(108,.var zN),(109,.dat 5 (aW aN.cells x.2))])) ()) (pp (aT @G.fG.L1.eq_1 <|@G.fG.L1.eq_2) ()) (pp (@kS [] [(107,10),(108,11),(109,12)] []) <|pp (@kS [] [(107,107),(108,108),(109,14)] []) ());exact wG
theorem F.fG {n:Nat} : ∀{bD:aN} {r:aN},G.fG n bD=some r->gY pZ 106 [.agg (wN bD)] (.agg (wN r)):=F.JS n
theorem F.MW : ∀(n:Nat),∀{bD r},G.jT n bD=some r->gY pZ 133 [oI bD] (oS r):=by
 intro n
 induction n using iQ with|_ n ih=>
 intro bD r h;refine dU K.jT (vK ?_);unfold C.jT;cases n;cases h;simp only[G.jT]at h;have z:=ny (pp ih ());exact wG
theorem F.jT {n:Nat} : ∀{bD:Int} {r:jE},G.jT n bD=some r->gY pZ 133 [oI bD] (oS r):=F.MW n
theorem F.jh {n:Nat} : ∀{bD nK r},G.jh n bD nK=some r->gY pZ 105 [.agg (wN bD),oS nK] (oI r):=by intro bD nK r h;refine dU K.jh (vK ?_);unfold C.jh;rcases n with _|n<;>simp only[G.jh,reduceCtorEq]at h;have z:=jW (pp @F.jT ()) (pp (@uB (Int) _ (λn x=>G.jh.L1 n bD nK x) r (λx=>eH.of [eS 1 nK,eP 2 103,eI 5 x] [(103,.var (wN bD))])) ()) (pp (aT @G.jh.L1.eq_1 <|@G.jh.L1.eq_2) ()) (pp (@kS [] [(103,10)] []) <|pp (@kS [] [(103,103)] []) ());exact wG
theorem F.oh {n:Nat} : ∀{bD dI r},G.oh n bD dI=some r->gY pZ 68 [.agg (wN bD),oT dI] (.Bl [(true,(wN r.1)),(false,[wB r.2])]):=by intro bD dI r h;refine dU K.oh (vK ?_);unfold C.oh;rcases n with _|n<;>simp only[G.oh,reduceCtorEq]at h;have z:=jW (pp @F.jh <|pp @F.fG ()) (pp (@uB (Int×Int×Int×jE×List jE×List aN) _ (λn x=>G.oh.L1 n dI x.1 x.2.1 x.2.2.1 x.2.2.2.1 x.2.2.2.2.1 x.2.2.2.2.2) r (λx=>eH.of [eT 1 dI,eP 2 105,eP 4 106,eI 6 x.1] [(105,.var [wI x.2.1,wI x.2.2.1,wS x.2.2.2.1,wT x.2.2.2.2.1,wK x.2.2.2.2.2]),(106,.var zN)])) ()) (pp (aT @G.oh.L1.eq_1 <|@G.oh.L1.eq_2) ()) (pp (@kS [] [(105,10),(106,11)] []) <|pp (@kS [] [(105,105),(106,106)] []) ());exact wG
theorem F.jq {n:Nat} : ∀{fA r},G.jq n fA=some r->gY pZ 162 [oB fA] (oI r):=by intro fA r h;refine dU K.jq (vK ?_);unfold C.jq;rcases n with _|n<;>simp only[G.jq,reduceCtorEq]at h;have z:=Ad;exact wG
theorem F.nP {n:Nat} : ∀{aS fA r},G.nP n aS fA=some r->gY pZ 107 [oI aS,oI fA] (oI r):=by intro aS fA r h;refine dU K.nP (vK ?_);unfold C.nP;cases n;cases h;simp only[G.nP]at h;have z:=ny (pp @F.jq ());exact wG
theorem F.lT {n:Nat} : ∀{aS fA r},G.lT n aS fA=some r->gY pZ 108 [oS aS,oS fA] (oI r):=by intro aS fA r h;refine dU K.lT (vK ?_);unfold C.lT;cases n;cases h;simp only[G.lT]at h;have z:=ny (pp @F.jq ());exact wG
theorem F.MV : ∀(n:Nat),∀{aS fA r},G.iF n aS fA=some r->gY pZ 69 [.agg (wN aS),.agg (wN fA)] (oI r):=by
 intro n
 induction n using iQ with|_ n ih=>
 intro aS fA r h;refine dU K.iF (vK ?_);unfold C.iF;rcases n with _|n<;>simp only[G.iF,reduceCtorEq]at h;have z:=jW (pp ih <|pp @F.nP <|pp @F.lT ()) (pp (@uB (Int) _ (λn x=>G.iF.L1 n aS fA x) r (λx=>eH.of [eP 2 105,eP 3 106,eI 5 x] [(105,.var (wN aS)),(106,.var (wN fA))])) ()) (pp (aT @G.iF.L1.eq_1 <|@G.iF.L1.eq_2) ()) (pp (@kS [] [(105,10),(106,11)] []) <|pp (@kS [] [(105,105),(106,106)] []) ());exact wG
theorem F.iF {n:Nat} : ∀{aS:aN} {fA:aN} {r:Int},G.iF n aS fA=some r->gY pZ 69 [.agg (wN aS),.agg (wN fA)] (oI r):=F.MV n
theorem F.gp {n:Nat} : ∀{fK dI r},G.gp n fK dI=some r->gY pZ 26 [.agg (wU fK),oT dI] (.one (.c (.sl 6 (aW bI.cells r)))):=by intro fK dI r h;refine dU K.gp (vK ?_);unfold C.gp;rcases n with _|n<;>simp only[G.gp,reduceCtorEq]at h;have z:=jW (pp @F.oh <|pp @F.iF ()) (pp (@uB (Int×List bI) _ (λn x=>G.gp.L3 n fK dI x.1 x.2) r (λx=>eH.of [eT 1 dI,eP 2 117,(5,.v true (.one (.own 118 x.2.length 6))),eI 6 x.1] [(117,.var (wU fK)),(118,.dat 6 (aW bI.cells x.2))])) <|pp (@uB (Int×Int×List bI) _ (λn x=>G.gp.L4 n fK dI x.1 x.2.1 x.2.2) r (λx=>eH.of [eT 1 dI,eP 2 123,(5,.v true (.one (.own 124 x.2.2.length 6))),eI 6 x.1,eI 9 x.2.1] [(123,.var (wU fK)),(124,.dat 6 (aW bI.cells x.2.2))])) ()) (pp (aT @G.gp.L3.eq_1 <|aT @G.gp.L3.eq_2 <|aT @G.gp.L4.eq_1 <|@G.gp.L4.eq_2) ()) (pp (@kS [] [(117,10),(118,11)] []) <|pp (@kS [] [(123,117),(124,14)] []) <|pp (@kS [] [(123,123),(124,124)] []) <|pp (@kS [] [(117,123),(118,124)] []) <|pp (@kS [] [(117,117),(118,118)] []) ());exact wG
theorem F.iC {n:Nat} : ∀{bD KD Gj r},G.iC n bD KD Gj=some r->gY pZ 66 [oI bD,oI KD,oI Gj] (oB r):=by intro bD KD Gj r h;refine dU K.iC (vK ?_);unfold C.iC;rcases n with _|n<;>simp only[G.iC,reduceCtorEq]at h;have z:=Ad;exact wG
theorem F.eU {n:Nat} : ∀{fK r},G.eU n fK=some r->gY pZ 67 [oS fK] (oB r):=by intro fK r h;refine dU K.eU (vK ?_);unfold C.eU;rcases n with _|n<;>simp only[G.eU,reduceCtorEq]at h;have z:=jW (pp @F.iC ()) (pp (@uB (Int) _ (λn x=>G.eU.L1 n fK x) r (λx=>eH.of [eS 0 fK,eI 3 x] [])) ()) (pp (aT @G.eU.L1.eq_1 <|@G.eU.L1.eq_2) ()) (pp (@kS [] [] []) ());exact wG
theorem F.gK {n:Nat} : ∀{dI r},G.gK n dI=some r->gY pZ 25 [oT dI] (oB r):=by intro dI r h;refine dU K.gK (vK ?_);unfold C.gK;rcases n with _|n<;>simp only[G.gK,reduceCtorEq]at h;have z:=jW (pp @F.eU ()) (pp (@uB (Int) _ (λn x=>G.gK.L1 n dI x) r (λx=>eH.of [eT 0 dI,eI 3 x] [])) ()) (pp (aT @G.gK.L1.eq_1 <|@G.gK.L1.eq_2) ()) (pp (@kS [] [] []) ());exact wG
theorem F.gJ {n:Nat} : ∀{fK r},G.gJ n fK=some r->gY pZ 64 [oS fK] (oB r):=by intro fK r h;refine dU K.gJ (vK ?_);unfold C.gJ;rcases n with _|n<;>simp only[G.gJ,reduceCtorEq]at h;have z:=jW (pp @F.iC ()) (pp (@uB (Int) _ (λn x=>G.gJ.L1 n fK x) r (λx=>eH.of [eS 0 fK,eI 3 x] [])) ()) (pp (aT @G.gJ.L1.eq_1 <|@G.gJ.L1.eq_2) ()) (pp (@kS [] [] []) ());exact wG
theorem F.QI : ∀(n:Nat),∀{bD r},G.jA n bD=some r->gY pZ 104 [.agg (wN bD)] (oI r):=by
 intro n
 induction n using iQ with|_ n ih=>
 intro bD r h;refine dU K.jA (vK ?_);unfold C.jA;rcases n with _|n<;>simp only[G.jA,reduceCtorEq]at h;have z:=jW (pp ih ()) (pp (@uB (Int×Int) _ (λn x=>G.jA.L1 n bD x.1 x.2) r (λx=>eH.of [eP 1 103,eI 3 x.1,eI 4 x.2] [(103,.var (wN bD))])) ()) (pp (aT @G.jA.L1.eq_1 <|@G.jA.L1.eq_2) ()) (pp (@kS [] [(103,10)] []) <|pp (@kS [] [(103,103)] []) ());exact wG
theorem F.jA {n:Nat} : ∀{bD:aN} {r:Int},G.jA n bD=some r->gY pZ 104 [.agg (wN bD)] (oI r):=F.QI n
theorem F.jQ {n:Nat} : ∀{rD r},G.jQ n rD=some r->gY pZ 161 [oT rD] (oB r):=by intro rD r h;refine dU K.jQ (vK ?_);unfold C.jQ;rcases n with _|n<;>simp only[G.jQ,reduceCtorEq]at h;have z:=jW (pp @F.eU ()) (pp (@uB (Int) _ (λn x=>G.jQ.L1 n rD x) r (λx=>eH.of [eT 0 rD,eI 3 x] [])) ()) (pp (aT @G.jQ.L1.eq_1 <|@G.jQ.L1.eq_2) ()) (pp (@kS [] [] []) ());exact wG
theorem F.NR : ∀(n:Nat),(∀{bD ji r},G.lK n bD ji=some r->gY pZ 160 [.agg (wN bD),oI ji] (oB r))/\(∀{bD ji r},G.fD n bD ji=some r->gY pZ 103 [.agg (wN bD),oI ji] (oB r)):=by
 intro n
 induction n using iQ with|_ n ih=>
 refine⟨?_,?_⟩
 ·intro bD ji r h;refine dU K.lK (vK ?_);unfold C.lK;rcases n with _|n<;>simp only[G.lK,reduceCtorEq]at h;have z:=jW (pp ((ihR ih)) ()) (pp (@uB (Int) _ (λn x=>G.lK.L1 n bD ji x) r (λx=>eH.of [eI 1 ji,eP 2 103,eI 5 x] [(103,.var (wN bD))])) ()) (pp (aT @G.lK.L1.eq_1 <|@G.lK.L1.eq_2) ()) (pp (@kS [] [(103,10)] []) <|pp (@kS [] [(103,103)] []) ());exact wG
 ·intro bD ji r h;refine dU K.fD (vK ?_);unfold C.fD;rcases n with _|n<;>simp only[G.fD,reduceCtorEq]at h;have z:=Pe (pp ((ihL ih)) <|pp @F.iC <|pp @F.eU <|pp @F.jQ ()) (pp (@acJ (Unit) _ (λn x=>G.fD.K1 n bD ji) r (λx=>eH.of [eI 1 ji,eP 2 101,eB 54 false] [(101,.var (wN bD))])) ()) (pp (aT @G.fD.K1.eq_1 <|@G.fD.K1.eq_2) ()) (pp (@kS [] [(101,10)] []) ());exact wG
theorem F.fD {n:Nat} : ∀{bD:aN} {ji:Int} {r:Bool},G.fD n bD ji=some r->gY pZ 103 [.agg (wN bD),oI ji] (oB r):=(F.NR n).2
theorem F.lD {n:Nat} : ∀{bD r},G.lD n bD=some r->gY pZ 65 [.agg (wN bD)] (oB r):=by intro bD r h;refine dU K.lD (vK ?_);unfold C.lD;cases n;cases h;simp only[G.lD]at h;have z:=ny (pp @F.fD <|pp @F.jA ());exact wG
theorem F.dR {n:Nat} : ∀{fK r},G.dR n fK=some r->gY pZ 24 [.agg (wU fK)] (oB r):=by intro fK r h;refine dU K.dR (vK ?_);unfold C.dR;rcases n with _|n<;>simp only[G.dR,reduceCtorEq]at h;have z:=jW (pp @F.gJ <|pp @F.lD <|pp @F.iC ()) (pp (@uB (Int) _ (λn x=>G.dR.L1 n fK x) r (λx=>eH.of [eP 1 103,eI 3 x] [(103,.var (wU fK))])) ()) (pp (aT @G.dR.L1.eq_1 <|@G.dR.L1.eq_2) ()) (pp (@kS [] [(103,10)] []) <|pp (@kS [] [(103,103)] []) ());exact wG
theorem F.iY {n:Nat} : ∀{fK dI r},G.iY n fK dI=some r->gY pZ 7 [.agg (wU fK),oT dI] (.one (.c (.sl 6 (aW bI.cells r)))):=by intro fK dI r h;refine dU K.iY (vK ?_);unfold C.iY;cases n;cases h;simp only[G.iY]at h;have z:=ny (pp @F.dR <|pp @F.gK <|pp @F.gp ());exact wG
end Go.Ab
section
namespace Go.Ab
open Go Go.ChangeShapes Go.WideShapes Go.ChangeAt Go.RowKit
def I0 (W:World):IH:=λb=>match W.heap[b]? with
 |some (.cells c _ _)=>some c
 |_=>none
theorem Zr (W:World):Agree (I0 W) W:=by
 intro b c h;unfold I0 at h;split at h
 ·rename_i c' e fr hb;cases h;exact⟨e,fr,hb⟩
 ·cases h
theorem V3 (W:World){a:Addr}{v:Value}(h:W.cell? a=some v):(I0 W).cell a=some v:=by
 unfold Go.World.cell? at h;unfold IH.cell I0;split at h
 ·rename_i c e fr hb;split at h
  ·cases h
  ·rename_i hs;rw[aj hs,hb];exact h
 ·cases h
theorem Px {W W':World}{M:Nat->Prop}(h:wZ W W' M)(hM:∀k,¬M k):Below W.heap.size W W':=
 ⟨h.os,h.tape,h.output,h.size,λk hk=>h.block k hk (hM k)⟩
theorem I8 (ρ:Ren)(k:Nat):¬ ∃b,(yU [] b).uses (ρ b) k:=λ⟨b,h⟩=>by simp only[yU,List.getD_nil]at h;exact h
theorem Yi {P:Program}{W:World}{x:String×DataW Unit}{rest:List (String×DataW Unit)}(h:laidMet P (x::rest) W):laidMet P rest W:=by obtain⟨ps,hv,hn,hc⟩:=h;obtain⟨g,t,cs,fuel,p,q,h1,h2,h3,h4,h5,rfl⟩:=hv;exact⟨q,h5,(List.nodup_append.1 hn).2.1,λb off hp=>hc b off (List.mem_append_right _ hp)⟩
theorem Ot {P:Program}{W:World} : ∀(k:Nat) {l:List (String×DataW Unit)},laidMet P l W->laidMet P (l.drop k) W
 |0,l,h=>h
 |k+1,[],h=>h
 |k+1,x::l,h=>Ot k (l:=l) (Yi h)
theorem ae3 {P:Program}{W:World}{rest:List (String×DataW Unit)}{g:Nat}{t e:TypeId}
 (hg:P.globalNamed "internal/strconv.uint64pow10" = some g) (hty:(P.globals[g]?).map (·.type)=some t) (ht:P.underlying t=some (.array 20 e)) (he:P.underlying e=some (.int .u64)) (hce:P.cellsOf e=1) (hct:P.cellsOf t=20)
 (h:laidMet P (("internal/strconv.uint64pow10",Lib.tabData .u64 o6)::rest) W):∀g',P.globalNamed "internal/strconv.uint64pow10" = some g'->I0 W g'=some (o6.map λz=>Go.Value.int .u64 z).toArray:=by
 have h1:=Lib.tabIs_of_head hg hty ht he hce hct h;intro g' hg';rw[hg]at hg';simp only[aI]at hg';subst hg';unfold Lib.TabIs World.var? at h1;simp only[hg]at h1;unfold I0
 revert h1
 split<;>simp_all
theorem aeQ {P:Program}{W:World}{n:String}{g:Nat}{t:TypeId}(h:W.ShapedOpen P)(hn:P.globalNamed n=some g)(hg:g<P.globals.size)
 (h0:((begin P (λ_ _=>0) default).world.heap[g]?).bind Obj.row? = some (#[.int .i64 0],t)) (hb:P.buildable t=true) (hc:P.cellTypes P.depth t=some [t]) (hu:P.underlying t=some (.int .i64)) :
 ∀g',P.globalNamed n=some g'->∃m,(I0 W).cell ⟨g',0,none⟩=some (.int .i64 m):=by
 intro g' hg';cases hn.symm.trans hg';obtain⟨m,hm⟩:=Go.Proofs.cell_of_shapedOpen_int h hg h0 rfl hb hc hu;exact⟨m,V3 W hm⟩
end Go.Ab
end
namespace Go.Ab
open Go
section
variable {P:Program} {W:World} {H:Type} {enc:TypeId×Value->H}
def Jl (I:IH)(cs:List Value)(xs:List Cell):Prop:=xs.length=cs.length/\∀(i:Nat) v c,cs[i]? = some v->xs[i]? = some c->Rd I v c
theorem Jl.nil {I:IH} : Jl I [] []:=⟨rfl,λi v c h=>by simp at h⟩
theorem Jl.app {I:IH}{a b:List Value}{x y:List Cell}(h:Jl I a x)(k:Jl I b y):Jl I (a++b) (x++y):=by
 refine⟨by rw[kZ,kZ,h.1,k.1],λi v c hv hc=>?_⟩;have hl:=h.1;by_cases hi:i<a.length
 ·rw[aX hi]at hv;rw[aX aQ]at hc;exact h.2 i v c hv hc
 ·rw[bZ aQ]at hv;rw[bZ aQ,hl]at hc;exact k.2 _ v c hv hc
theorem Jl.one {I:IH}{v:Value}{c:Cell}(h:Rd I v c):Jl I [v] [c]:=by
 refine⟨rfl,λi v' c' hv hc=>?_⟩
 match i with
 | 0=>simp only[fC,aI]at hv hc;subst hv hc;exact h
 |i+1=>simp at hv
theorem Jl.fst {I:IH}{v:Value}{c:Cell}(h:Jl I [v] [c]):Rd I v c:=h.2 0 v c rfl rfl
section
variable {fuel:Nat} {t:TypeId} {cs:List Value} {d:DataW H} {ps:List MemPlace}
theorem trod_int {k:IntKind}(ht:P.underlying t=some (.int k))(h:jf enc P W 0 (λ_=>true) true fuel t cs=some (d,ps)):∃n,cs=[.int k n]/\(Lit.int k n).wf=true:=by
 cases fuel with
 |zero=>cases h
 | succ fuel=>unfold jf at h;rw[ht]at h;split at h<;>simp_all
theorem abO (ht:P.underlying t=some .string)(h:jf enc P W 0 (λ_=>true) true fuel t cs=some (d,ps)):∃s:ByteArray,cs=[.string s]/\s.size<=maxLen:=by
 cases fuel with
 |zero=>cases h
 | succ fuel=>unfold jf at h;rw[ht]at h;split at h<;>simp_all
end
theorem mapM_at {α β:Type}{f:α->Option β} : ∀{l:List α} {ys:List β},l.mapM f=some ys->ys.length=l.length/\∀(i:Nat) x,l[i]? = some x->f x=ys[i]?
 | [],ys,h=>by simp at h;subst h;exact⟨rfl,λi x hx=>by simp at hx⟩
 | a::l,ys,h=>by
   rw[List.mapM_cons]at h;cases ha:f a with
   |none=>rw[ha]at h;cases h
   | some y=>
     cases hl:l.mapM f with
     |none=>rw[ha,hl]at h;cases h
     | some r=>
       rw[ha,hl]at h;have:ys=y::r:=(by simpa using h.symm);subst this;obtain⟨h1,h2⟩:=mapM_at hl;refine⟨by simp[h1],λi x hx=>?_⟩
       match i with
       |0=>simp at hx;subst hx;simpa using ha
       |i+1=>simp at hx;simpa using h2 i x hx
theorem Tt {β:Type}{f:Nat->Option β}{n:Nat}{ys:List β}(h:(lG n).mapM f=some ys):ys.length=n/\∀i,i<n->f i=ys[i]?:=by obtain⟨h1,h2⟩:=mapM_at h;rw[List.length_range]at h1;exact⟨h1,λi hi=>h2 i i (by simp[hi])⟩
theorem cells_at {a:Addr}{n:Nat}{ecs:List Value}(h:W.cells? 0 a n=some ecs):ecs.length=n/\∀j v,ecs[j]? = some v->(I0 W).cell (a.add j)=some v:=by
 unfold World.cells? at h;rw[aF (kU _)]at h;obtain⟨h1,h2⟩:=Tt h;refine⟨h1,λj v hv=>?_⟩;have hj:j<n:=by have:=(ay.1 hv).1;omega
 have:=h2 j hj;rw[hv]at this;exact V3 W this
theorem add_add (a:Addr)(x y:Nat):(a.add x).add y=a.add (x+y):=by
 unfold Go.Addr.add;by_cases hx:x=0
 ·subst hx;simp
 ·by_cases hy:y=0
  ·subst hy;simp
  ·have:¬x+y=0:=(by omega);simp[hx,hy,lH]
theorem FU {X:Type}{cells:X->List Cell}{Q:X->Prop}{sz:Nat}{t e:TypeId}{fuel:Nat}{cs:List Value}{d:DataW H}{ps:List MemPlace}(ht:P.underlying t=some (.slice e))(hce:P.cellsOf e=sz)
 (hX:∀f ecs d p,f<fuel->jf enc P W 0 (λ_=>true) true f e ecs=some (d,p)->∃x,Jl (I0 W) ecs (cells x)/\Q x)
 (h:jf enc P W 0 (λ_=>true) true fuel t cs=some (d,ps)):∃(l:List X) (v:Value),cs=[v]/\Rd (I0 W) v (.sl sz (l.map cells))/\l.length<=maxLen/\∀x,x∈l->Q x:=by
 subst hce;cases fuel with
 |zero=>cases h
 | succ fuel=>
   unfold jf at h;rw[ht]at h;split at h<;>(try(simp at *;done))<;>(try contradiction)
   ·refine⟨[],_,rfl,.sl none 0 0 _ [] (λ_ _=>undef) rfl (aA _) (kU _) (λe h=>by cases h) (λh=>by omega) (λad h=>by cases h) (λi j c h=>by simp at h),kU _,λx h=>by cases h⟩
   ·rename_i e' a len cap heq;have:e'=e:=(by simpa using heq.symm);subst this;simp only at h;split at h
    ·rename_i hc;obtain⟨_,hlc,hcm⟩:=hc;cases hm:(lG len).mapM (λi=>(W.cells? 0 (a.add (i*P.cellsOf e')) (P.cellsOf e')).bind (jf enc P W 0 (λ_=>true) true fuel e'))with
     |none=>rw[hm]at h;cases h
     | some ys=>
       obtain⟨h1,h2⟩:=Tt hm;have elem:∀i,i<len->∃x ecs,W.cells? 0 (a.add (i*P.cellsOf e')) (P.cellsOf e')=some ecs/\Jl (I0 W) ecs (cells x)/\Q x:=λi hi=>by
        have:=h2 i hi;rw[ai aQ]at this;cases hw:W.cells? 0 (a.add (i*P.cellsOf e')) (P.cellsOf e')with
        |none=>rw[hw]at this;cases this
        | some ecs=>rw[hw]at this;obtain⟨x,hx⟩:=hX fuel ecs _ _ (Nat.lt_succ_self _) this;exact⟨x,ecs,rfl,hx⟩
       have pick:∃l:List X,l.length=len/\∀i (hi:i<l.length),∃ecs,W.cells? 0 (a.add (i*P.cellsOf e')) (P.cellsOf e')=some ecs/\Jl (I0 W) ecs (cells l[i])/\Q l[i]:=by refine⟨(lG len).attach.map λi=>(elem i.1 (by simpa using i.2)).choose,kY,λi hi=>?_⟩;have hi':i<len:=(by simpa using hi);obtain⟨ecs,h3⟩:=(elem i hi').choose_spec;refine⟨ecs,h3.1,?_⟩;simpa using h3.2
       obtain⟨l,hl,hp'⟩:=pick;have hp:=λi hi=>(hp' i hi).imp λ_ h=>(⟨h.1,h.2.1⟩:_/\_);refine⟨l,_,rfl,.sl (some a) len cap _ _ (λi j=>((I0 W).cell ((a.add (i*P.cellsOf e'+j)))).getD undef) (by rw[jM,hl]) hlc hcm (λx hx=>?_) (λ_ h=>by cases h) (λad hd i j hi hj=>?_) (λi j c hc=>?_),aQ,λx hx=>?_⟩
       ·obtain⟨y,hy,rfl⟩:=aG.1 hx;obtain⟨i,hi,rfl⟩:=List.mem_iff_getElem.1 hy;obtain⟨ecs,g1,g2⟩:=hp i hi;rw[g2.1,(cells_at g1).1]
       ·cases hd;obtain⟨ecs,g1,g2⟩:=hp i aQ;obtain⟨q1,q2⟩:=cells_at g1;have:=q2 j ecs[j] (ai aQ);have ea:(a.add (i*P.cellsOf e')).add j=a.add (i*P.cellsOf e'+j):=add_add _ _ _;rw[ea]at this;rw[this];rfl
       ·by_cases hi:i<l.length
        ·obtain⟨ecs,g1,g2⟩:=hp i hi;have e1:(l.map cells).getD i []=cells l[i]:=(by simp[bu,hi]);rw[e1]at hc;obtain⟨q1,q2⟩:=cells_at g1;have hj:j<ecs.length:=by
          have:=(ay.1 hc).1;have:=g2.1;omega
         have q3:=q2 j ecs[j] (ai hj);have ea:(a.add (i*P.cellsOf e')).add j=a.add (i*P.cellsOf e'+j):=add_add _ _ _;rw[ea]at q3;rw[q3];exact g2.2 j _ c (ai hj) hc
        ·have:(l.map cells).getD i []=[]:=(by simp[bu,List.getElem?_eq_none (by simpa using hi:(l.map cells).length<=i)]);rw[this]at hc;simp at hc
       ·obtain⟨i,hi,rfl⟩:=List.mem_iff_getElem.1 hx;exact(hp' i hi).choose_spec.2.2
    ·cases h
theorem trod_struct {t:TypeId}{fs:Array Field}{fuel:Nat}{cs:List Value}{d:DataW H}{ps:List MemPlace}(ht:P.underlying t=some (.struct fs))
 (h:jf enc P W 0 (λ_=>true) true fuel t cs=some (d,ps)):∃f,fuel=f+1/\cs.length=P.cellsOf t/\∀(k:Nat) x,fs.toList[k]? = some x->∃d' p',jf enc P W 0 (λ_=>true) true f x.type ((cs.drop x.offset).take (P.cellsOf x.type))=some (d',p'):=by
 cases fuel with
 |zero=>cases h
 | succ fuel=>
   refine⟨fuel,rfl,?_⟩;unfold jf at h;rw[ht]at h;split at h<;>(try(simp at *;done))<;>(try contradiction);rename_i cs0 x0 cs1 fs' heq;have:fs'=fs:=(by simpa using heq.symm);subst this;split at h
   ·rename_i hl;refine⟨hl,λk x hx=>?_⟩;cases hm:fs'.toList.mapM (λf=>jf enc P W 0 (λ_=>true) true fuel f.type ((cs0.drop f.offset).take (P.cellsOf f.type)))with
    |none=>rw[hm]at h;cases h
    | some ys=>
      obtain⟨h1,h2⟩:=mapM_at hm;have h3:=h2 k x hx;have hk:k<ys.length:=by have:=(ay.1 hx).1;omega
      rw[ai hk]at h3;exact⟨_,_,h3⟩
   ·cases h
end
end Go.Ab
section
namespace Go.Ab
open Go Go.ChangeShapes Go.WideShapes Go.ChangeAt Go.RowKit
theorem adh {I:IH}{ρ:Ren}{cs:Array Value}{xs:List Cell}(h:Jl I cs.toList xs):GV I ρ (.agg cs) (.agg (xs.map .c)):=by refine⟨cs,rfl,by rw[jM];exact h.1.symm,λj v x hv hx=>?_⟩;rw[aP]at hx;obtain⟨c,hc,rfl⟩:=aU.1 hx;exact h.2 j v c hv hc
theorem agK {I:IH}{ρ:Ren}{v:Value}{x:Cell}(h:Rd I v x):GV I ρ v (.one (.c x)):=h
theorem acW {I:IH}{ρ:Ren}{v u:Value}{x y:AV}(h:GV I ρ v x)(k:GV I ρ u y):NF I ρ [v,u] [x,y]:=by
 refine⟨rfl,λj v' x' hv hx=>?_⟩
 match j with
 | 0=>simp only[fC,aI]at hv hx;subst hv hx;exact h
 | 1=>simp only[gB,fC,aI]at hv hx;subst hv hx;exact k
 |j+2=>simp at hv
theorem aeM {P:Program}{f:FuncId}{W:World}{vs:List Value}{as_:List AV}(hT:Tabs P (I0 W))(hg:NF (I0 W) (λ_=>none) vs as_)(hp:gY P f as_ (oV true)) :
 Calls P f vs.toArray W λe W'=>e = .returned (.bool true)/\Below W.heap.size W W':=by
 refine(hp (I0 W) (λ_=>none) W vs hT (Zr W) ⟨λb=>by simp only[yU,List.getD_nil];exact rfl,λb b' k h=>(I8 (λ_=>none) k ⟨b,h⟩).elim,λb k h=>(I8 (λ_=>none) k ⟨b,h⟩).elim⟩ hg (λ_ _=>True) .QN).mono ?_;rintro e W' ⟨⟨v,J,σ,r,bs,rfl,⟨rfl,rfl⟩,hg,_,_,_,hfr,_⟩,_⟩;refine⟨?_,Px hfr (I8 (λ_=>none))⟩;cases hg;rfl
end Go.Ab
end
