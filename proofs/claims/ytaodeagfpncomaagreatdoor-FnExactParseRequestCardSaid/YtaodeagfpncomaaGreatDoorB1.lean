/- What the functions of the program compute (part 1). No conditions. -/
import Derived.Test.YtaodeagfpncomaaGreatDoorX3
set_option linter.unusedVariables false
set_option linter.unusedSimpArgs false
set_option maxRecDepth 100000
set_option maxHeartbeats 4000000
set_option linter.defProp false
open Bool renaming false_or->JF,and_eq_true->ah,or_eq_true->dP,true_and->dX,and_eq_false_iff->lN,and_false->qJ,eq_iff_iff->qg,and_true->sK,true_or->wC,or_true->wz,false_and->xE
open Go.IntKind renaming wrap->af,bits->yZ,signed->yl
open Go.Lib renaming itoa->uQ
open Go.Op renaming bytesLess->jV
open Int renaming tdiv->BO,tmod->Eh,toNat_natCast->ax
open List renaming sum_cons->AP,length_set->Dk,drop_of_length_le->aB,mem_cons_self->aG,all_eq_true->aN,mem_cons->aO,map->aP,mem_cons_of_mem->bF,map_cons->bJ,getElem?_map->dD,eq_nil_of_length_eq_zero->dN,replicate->dU,length_cons->dW,take_of_length_le->eU,all_cons->fF,getElem_mem->fU,getD_eq_getElem?_getD->fZ,getElem?_cons_succ->gX,getElem?_cons_zero->gY,drop_zero->iC,not_mem_nil->jL,take_succ_eq_append_getElem->lZ,getD_cons_succ->rC,take_succ_cons->rE
open List.cons renaming injEq->uj
open Nat renaming zero_le->aJ,le_refl->ak,le_trans->dR,add_sub_cancel->xN
open Option renaming filter->AU,bind->lY
open Option.some renaming injEq->aC
open UInt8 renaming ofNat->fA
namespace Go.Ab
open Go
structure au where
 dH:Int
 ve:Int
 oz:di
 dS:List di
 bC:List au
 deriving Inhabited
mutual
def au.cells : au->List Cell
 |au.mk x0 x1 x2 x3 x4=>[.lit (.int .i64 x0),.lit (.int .i64 x1),.str x2,.sl 1 (aP cS x3),.sl 5 (au.Hf x4)]
def au.Hf : List au->List (List Cell)
 |[]=>[]
 |x::r=>x.cells::au.Hf r
end
theorem au.Tt (ks:List au):au.Hf ks=aP au.cells ks:=by
 induction ks with
 |nil=>rfl
 |cons x r ih=>simp[au.Hf,ih]
theorem au.gq (n:au):n.cells=[.lit (.int .i64 n.dH),.lit (.int .i64 n.ve),.str n.oz,.sl 1 (aP cS n.dS),.sl 5 (aP au.cells n.bC)]:=by cases n;rw[au.cells,au.Tt]
structure o6 where
 dH:Int
 uF:List di
 vg:List di
 Value:au
 deriving Inhabited
def o6.cells (n:o6):List Cell:=[.lit (.int .i64 n.dH),.sl 1 (aP cS n.uF),.sl 1 (aP cS n.vg),.lit (.int .i64 n.Value.dH),.lit (.int .i64 n.Value.ve),.str n.Value.oz,.sl 1 (aP cS n.Value.dS),.sl 5 (aP au.cells n.Value.bC)]
theorem o6.gq (n:o6):n.cells=[.lit (.int .i64 n.dH),.sl 1 (aP cS n.uF),.sl 1 (aP cS n.vg),.lit (.int .i64 n.Value.dH),.lit (.int .i64 n.Value.ve),.str n.Value.oz,.sl 1 (aP cS n.Value.dS),.sl 5 (aP au.cells n.Value.bC)]:=rfl
structure cZ where
 gZ:Int
 rW:di
 xZ:List di
 tu:List di
 Body:au
 vZ:List o6
 deriving Inhabited
def cZ.cells (n:cZ):List Cell:=[.lit (.int .i64 n.gZ),.str n.rW,.sl 1 (aP cS n.xZ),.sl 1 (aP cS n.tu),.lit (.int .i64 n.Body.dH),.lit (.int .i64 n.Body.ve),.str n.Body.oz,.sl 1 (aP cS n.Body.dS),.sl 5 (aP au.cells n.Body.bC),.sl 8 (aP o6.cells n.vZ)]
theorem cZ.gq (n:cZ):n.cells=[.lit (.int .i64 n.gZ),.str n.rW,.sl 1 (aP cS n.xZ),.sl 1 (aP cS n.tu),.lit (.int .i64 n.Body.dH),.lit (.int .i64 n.Body.ve),.str n.Body.oz,.sl 1 (aP cS n.Body.dS),.sl 5 (aP au.cells n.Body.bC),.sl 8 (aP o6.cells n.vZ)]:=rfl
structure wJ where
 Yl:au
 rW:di
 deriving Inhabited
def wJ.cells (n:wJ):List Cell:=[.lit (.int .i64 n.Yl.dH),.lit (.int .i64 n.Yl.ve),.str n.Yl.oz,.sl 1 (aP cS n.Yl.dS),.sl 5 (aP au.cells n.Yl.bC),.str n.rW]
theorem wJ.gq (n:wJ):n.cells=[.lit (.int .i64 n.Yl.dH),.lit (.int .i64 n.Yl.ve),.str n.Yl.oz,.sl 1 (aP cS n.Yl.dS),.sl 5 (aP au.cells n.Yl.bC),.str n.rW]:=rfl
structure zo where
 rW:di
 xy:Int
 Ed:au
 deriving Inhabited
def zo.cells (n:zo):List Cell:=[.str n.rW,.lit (.int .i64 n.xy),.lit (.int .i64 n.Ed.dH),.lit (.int .i64 n.Ed.ve),.str n.Ed.oz,.sl 1 (aP cS n.Ed.dS),.sl 5 (aP au.cells n.Ed.bC)]
theorem zo.gq (n:zo):n.cells=[.str n.rW,.lit (.int .i64 n.xy),.lit (.int .i64 n.Ed.dH),.lit (.int .i64 n.Ed.ve),.str n.Ed.oz,.sl 1 (aP cS n.Ed.dS),.sl 5 (aP au.cells n.Ed.bC)]:=rfl
structure tV where
 kM:List zo
 xJ:Int
 deriving Inhabited
def tV.cells (n:tV):List Cell:=[.sl 7 (aP zo.cells n.kM),.lit (.int .i64 n.xJ)]
theorem tV.gq (n:tV):n.cells=[.sl 7 (aP zo.cells n.kM),.lit (.int .i64 n.xJ)]:=rfl
structure yD where
 Func:di
 ve:di
 Err:Unit
 deriving Inhabited
def yD.cells (n:yD):List Cell:=[.str n.Func,.str n.ve,.lit .nilIface]
theorem yD.gq (n:yD):n.cells=[.str n.Func,.str n.ve,.lit .nilIface]:=rfl
structure bg where
 text:di
 at_:Int
 deriving Inhabited
def bg.cells (n:bg):List Cell:=[.str n.text,.lit (.int .i64 n.at_)]
theorem bg.gq (n:bg):n.cells=[.str n.text,.lit (.int .i64 n.at_)]:=rfl
structure dI where
 text:di
 at_:Int
 bad:Bool
 deriving Inhabited
def dI.cells (n:dI):List Cell:=[.str n.text,.lit (.int .i64 n.at_),.lit (.bool n.bad)]
theorem dI.gq (n:dI):n.cells=[.str n.text,.lit (.int .i64 n.at_),.lit (.bool n.bad)]:=rfl
theorem wJ.Ku {l:List wJ}{i j:Nat}{x0 x1 x2 x3 x4 x5:Cell} : List.drop 6 (((aP wJ.cells l).set i [x0,x1,x2,x3,x4,x5]).getD j [])=[]:=Go.Ab.Ku wJ.cells 6 (λt=>by simp[wJ.gq]) nV
def G.gB.L1 (f:Nat)(bZ:di)(bK:Int):Option (Bool):=match f with
|0=>none
|n+1=>cond (decide<|bK<(bZ.length:Int)) (chk (0<=bK/\bK<(bZ.length:Int))<|cond (decide<|((bZ.getD bK.toNat 0).toNat:Int)<32) (some false)<|chk (0<=bK/\bK<(bZ.length:Int))<|cond (decide<|126<((bZ.getD bK.toNat 0).toNat:Int)) (some false)<|G.gB.L1 n bZ<|af .i64<|bK+1)<|some true
def G.gB (f:Nat)(bZ:di):Option (Bool):=match f with
|0=>none
|n+1=>cond (decide<|12<(bZ.length:Int)) (some false)<|G.gB.L1 n bZ 0
def G.jI.L1 (f:Nat)(tX:List di)(lI:Int):Option (Bool):=match f with
|0=>none
|n+1=>cond (decide<|lI<(tX.length:Int)) (chk (0<=lI/\lI<(tX.length:Int))<|(G.gB n<|tX.getD lI.toNat default).bind λv3=>cond v3 (cond (decide<|0<lI) (chk (0<=(af .i64<|lI-1)/\(af .i64<|lI-1)<(tX.length:Int))<|cond (jV (tX.getD (af .i64<|lI-1).toNat default)<|tX.getD lI.toNat default) (G.jI.L1 n tX<|af .i64<|lI+1)<|some false)<|G.jI.L1 n tX<|af .i64<|lI+1)<|some false)<|some true
def G.jI (f:Nat)(tX:List di):Option (Bool):=match f with
|0=>none
|n+1=>cond (decide<|6<(tX.length:Int)) (some false)<|G.jI.L1 n tX 0
def G.gJ.K1 (f:Nat)(aX:au):Option (Bool):=match f with
|0=>none
|n+1=>cond (aX.dH != 4) (cond (decide<|0<(aX.dS.length:Int)) (some false)<|cond (aX.dH==0) (some<|((aX.bC.length:Int)==0))<|cond (aX.dH==1) (cond (decide<|(-999999)<=aX.ve) (cond (decide<|aX.ve<=999999) (some<|((aX.bC.length:Int)==0))<|some false)<|some false)<|cond (aX.dH==2) ((G.gB n aX.oz).bind λv1=>cond v1 (some<|((aX.bC.length:Int)==0))<|some false)<|cond (aX.dH==3) (some<|(decide<|(aX.bC.length:Int)<=6))<|cond (aX.dH==4) ((G.jI n aX.dS).bind λv2=>cond v2 (some<|((aX.bC.length:Int)==(aX.dS.length:Int)))<|some false)<|some false)<|cond (aX.dH==0) (some<|((aX.bC.length:Int)==0))<|cond (aX.dH==1) (cond (decide<|(-999999)<=aX.ve) (cond (decide<|aX.ve<=999999) (some<|((aX.bC.length:Int)==0))<|some false)<|some false)<|cond (aX.dH==2) ((G.gB n aX.oz).bind λv3=>cond v3 (some<|((aX.bC.length:Int)==0))<|some false)<|cond (aX.dH==3) (some<|(decide<|(aX.bC.length:Int)<=6))<|cond (aX.dH==4) ((G.jI n aX.dS).bind λv4=>cond v4 (some<|((aX.bC.length:Int)==(aX.dS.length:Int)))<|some false)<|some false
def G.gJ (f:Nat)(aX:au):Option (Bool):=match f with
|0=>none
|n+1=>cond (aX.dH != 1) (cond (aX.ve != 0) (some false)<|cond (aX.dH != 2) (cond (aX.oz==[]) (G.gJ.K1 n aX)<|some false)<|G.gJ.K1 n aX)<|cond (aX.dH != 2) (cond (aX.oz==[]) (G.gJ.K1 n aX)<|some false)<|G.gJ.K1 n aX
mutual
def G.fQ.L1 (f:Nat)(aX:au)(lD:Int)(Yc:Int)(RZ:Int)(lI:Int):Option (Int×Int×Bool):=match f with
|0=>none
|n+1=>cond (decide<|lI<(aX.bC.length:Int)) (chk (0<=lI/\lI<(aX.bC.length:Int))<|(G.fQ n (aX.bC.getD lI.toNat default)<|af .i64<|lD+1).bind λv4=>cond v4.2.2 (G.fQ.L1 n aX lD (af .i64<|Yc+v4.1) (if(af .i64<|v4.2.1+1)>RZ then(af .i64<|v4.2.1+1)else RZ)<|af .i64<|lI+1)<|some (0,0,false))<|some (Yc,RZ,true)
def G.fQ (f:Nat)(aX:au)(lD:Int):Option (Int×Int×Bool):=match f with
|0=>none
|n+1=>cond (decide<|5<lD) (some (0,0,false))<|(G.gJ n aX).bind λv1=>cond v1 (G.fQ.L1 n aX lD 1 1 0)<|some (0,0,false)
end
def G.gU (f:Nat)(aX:au):Option (Bool):=match f with
|0=>none
|n+1=>(G.fQ n aX 1).bind λv1=>cond v1.2.2 (some<|(decide<|v1.1<=40))<|some false
def G.bz (f:Nat)(b:iP)(c:Int):Option (Unit×iP):=match f with
|0=>none
|_+1=>(chk ((0<=c/\c<256)/\b.buf.length+1<=140737488355328) (some ((),iP.mk (b.buf++[fA c.toNat]))))
mutual
def G.gG.K4 (f:Nat)(bZ:di)(bK:Int)(z5:di):Option (iP):=match f with
|0=>none
|n+1=>chk (0<=bK/\bK<(bZ.length:Int))<|(G.bz n (iP.mk z5) ((bZ.getD bK.toNat 0).toNat:Int)).bind λv14=>G.gG.L3 n bZ (af .i64<|bK+1) v14.2.buf
def G.gG.L3 (f:Nat)(bZ:di)(bK:Int)(z4:di):Option (iP):=match f with
|0=>none
|n+1=>cond (decide<|bK<(bZ.length:Int)) (chk (0<=bK/\bK<(bZ.length:Int))<|cond (((bZ.getD bK.toNat 0).toNat:Int)==34) ((G.bz n (iP.mk z4) 92).bind λv15=>G.gG.K4 n bZ bK v15.2.buf)<|chk (0<=bK/\bK<(bZ.length:Int))<|cond (((bZ.getD bK.toNat 0).toNat:Int)==92) ((G.bz n (iP.mk z4) 92).bind λv16=>G.gG.K4 n bZ bK v16.2.buf)<|G.gG.K4 n bZ bK z4)<|(G.bz n (iP.mk z4) 34).bind λv17=>some v17.2
end
def G.gG (f:Nat)(A8:iP)(bZ:di):Option (iP):=match f with
|0=>none
|n+1=>(G.bz n A8 34).bind λv1=>G.gG.L3 n bZ 0 v1.2.buf
def G.strconv_Itoa (f:Nat)(i:Int):Option di:=match f with
|0=>none
|_+1=>(chk ((-9223372036854775808<=i/\i<=9223372036854775807)/\(uQ i).length<=1000000) (some (uQ i)))
def G.jU (f:Nat)(b:iP)(s:di):Option (Int×Unit×iP):=match f with
|0=>none
|_+1=>(chk (b.buf.length+s.length<=140737488355328) (some ((s.length:Int),(),iP.mk (b.buf++s))))
mutual
def G.bV.K4 (f:Nat)(aX:au)(lI:Int)(z4:di):Option (iP):=match f with
|0=>none
|n+1=>(G.bV n (iP.mk z4)<|aX.bC.getD lI.toNat default).bind λv11=>G.bV.L3 n aX (af .i64<|lI+1) v11.buf
def G.bV.L3 (f:Nat)(aX:au)(lI:Int)(z3:di):Option (iP):=match f with
|0=>none
|n+1=>cond (decide<|lI<(aX.bC.length:Int)) (chk (0<=lI/\lI<(aX.bC.length:Int))<|cond (decide<|0<lI) ((G.bz n (iP.mk z3) 44).bind λv12=>G.bV.K4 n aX lI v12.2.buf)<|G.bV.K4 n aX lI z3)<|(G.bz n (iP.mk z3) 93).bind λv13=>some v13.2
def G.bV.K8 (f:Nat)(aX:au)(O9:Int)(z8:di):Option (iP):=match f with
|0=>none
|n+1=>chk (0<=O9/\O9<(aX.dS.length:Int))<|(G.gG n (iP.mk z8)<|aX.dS.getD O9.toNat default).bind λv24=>(G.bz n v24 58).bind λv25=>(G.bV n v25.2<|aX.bC.getD O9.toNat default).bind λv26=>G.bV.L7 n aX (af .i64<|O9+1) v26.buf
def G.bV.L7 (f:Nat)(aX:au)(O9:Int)(z7:di):Option (iP):=match f with
|0=>none
|n+1=>cond (decide<|O9<(aX.bC.length:Int)) (chk (0<=O9/\O9<(aX.bC.length:Int))<|cond (decide<|0<O9) ((G.bz n (iP.mk z7) 44).bind λv27=>G.bV.K8 n aX O9 v27.2.buf)<|G.bV.K8 n aX O9 z7)<|(G.bz n (iP.mk z7) 125).bind λv28=>some v28.2
def G.bV (f:Nat)(A8:iP)(aX:au):Option (iP):=match f with
|0=>none
|n+1=>cond (aX.dH==0) ((G.jU n A8 [110,117,108,108]).bind λv1=>some v1.2.2)<|cond (aX.dH==1) ((G.strconv_Itoa n aX.ve).bind λv2=>(G.jU n A8 v2).bind λv3=>some v3.2.2)<|cond (aX.dH==2) ((G.gG n A8 aX.oz).bind λv4=>some v4)<|cond (aX.dH==3) ((G.bz n A8 91).bind λv5=>G.bV.L3 n aX 0 v5.2.buf)<|cond (aX.dH==4) ((G.bz n A8 123).bind λv14=>G.bV.L7 n aX 0 v14.2.buf)<|some A8
end
def G.kG (f:Nat)(b:iP):Option di:=match f with
|0=>none
|_+1=>(chk (b.buf.length<=140737488355328) (some b.buf))
def G.nC (f:Nat)(aX:au):Option (di):=match f with
|0=>none
|n+1=>(G.gU n aX).bind λv1=>cond v1 ((G.bV n (iP.mk []) aX).bind λv2=>(G.kG n v2).bind λv3=>some v3)<|some<|[]
def G.jB (f:Nat)(bZ:di)(Gl:Int):Option (Int):=match f with
|0=>none
|n+1=>some<|Go.Lib.indexByte bZ Gl.toNat.toUInt8
def G.strings_IndexByte (f:Nat)(bZ:di)(Gl:Int):Option (Int):=match f with
|0=>none
|n+1=>(G.jB n bZ Gl).bind λv1=>some v1
def G.nD.L1 (f:Nat)(bZ:di)(bK:Int):Option (Bool):=match f with
|0=>none
|n+1=>cond (decide<|bK<(bZ.length:Int)) (chk (0<=bK/\bK<(bZ.length:Int))<|(G.strings_IndexByte n [48,49,50,51,52,53,54,55,56,57,97,98,99,100,101,102] ((bZ.getD bK.toNat 0).toNat:Int)).bind λv3=>cond (decide<|v3<0) (some false)<|G.nD.L1 n bZ<|af .i64<|bK+1)<|some true
def G.nD (f:Nat)(bZ:di):Option (Bool):=match f with
|0=>none
|n+1=>cond ((bZ.length:Int) != 4) (some false)<|G.nD.L1 n bZ 0
def G.jS.L1 (f:Nat)(bP:List di)(lI:Int):Option (Bool):=match f with
|0=>none
|n+1=>cond (decide<|lI<(bP.length:Int)) (chk (0<=lI/\lI<(bP.length:Int))<|cond ((bP.getD lI.toNat default)==[42]) (G.jS.L1 n bP<|af .i64<|lI+1)<|(G.nD n<|bP.getD lI.toNat default).bind λv3=>cond v3 (G.jS.L1 n bP<|af .i64<|lI+1)<|some false)<|some true
def G.jS (f:Nat)(bP:List di):Option (Bool):=match f with
|0=>none
|n+1=>cond (decide<|4<(bP.length:Int)) (some false)<|G.jS.L1 n bP 0
mutual
def G.gy.K4 (f:Nat)(bP:List di)(lI:Int)(z4:di):Option (di):=match f with
|0=>none
|n+1=>cond ((bP.getD lI.toNat default)==[42]) ((G.jU n (iP.mk z4)<|bP.getD lI.toNat default).bind λv9=>G.gy.L3 n bP (af .i64<|lI+1) v9.2.2.buf)<|(G.gG n (iP.mk z4)<|bP.getD lI.toNat default).bind λv10=>G.gy.L3 n bP (af .i64<|lI+1) v10.buf
def G.gy.L3 (f:Nat)(bP:List di)(lI:Int)(z3:di):Option (di):=match f with
|0=>none
|n+1=>cond (decide<|lI<(bP.length:Int)) (chk (0<=lI/\lI<(bP.length:Int))<|cond (decide<|0<lI) ((G.bz n (iP.mk z3) 44).bind λv11=>G.gy.K4 n bP lI v11.2.buf)<|G.gy.K4 n bP lI z3)<|(G.kG n<|iP.mk z3).bind λv12=>some v12
end
def G.gy (f:Nat)(bP:List di):Option (di):=match f with
|0=>none
|n+1=>(G.jS n bP).bind λv1=>cond v1 (G.gy.L3 n bP 0 [])<|some<|[]
def G.qK (f:Nat)(aX:au)(Wi:Bool):Option (au×Bool):=match f with
|0=>none
|n+1=>cond Wi ((G.gU n aX).bind λv1=>cond v1 (some (aX,true))<|some ((au.mk 0 0 [] [] []),false))<|some ((au.mk 0 0 [] [] []),false)
mutual
def G.fO.L2 (f:Nat)(aX:au)(z1:List di)(lI:Int)(z4:List au):Option (au):=match f with
|0=>none
|n+1=>cond (decide<|lI<(aX.bC.length:Int)) (chk (0<=lI/\lI<(aX.bC.length:Int))<|(G.fO n<|aX.bC.getD lI.toNat default).bind λv3=>chk (0<=lI/\lI<(z4.length:Int))<|G.fO.L2 n aX z1 (af .i64<|lI+1)<|z4.set lI.toNat v3)<|some<|au.mk aX.dH aX.ve aX.oz z1 z4
def G.fO.K1 (f:Nat)(aX:au)(z1:List di):Option (au):=match f with
|0=>none
|n+1=>cond (decide<|0<(aX.bC.length:Int)) (chk (0<=(aX.bC.length:Int)/\(aX.bC.length:Int)<=(aX.bC.length:Int)/\80*(aX.bC.length:Int)<=2^47/\(aX.bC.length:Int)<=2^47)<|G.fO.L2 n aX z1 0<|dU aX.bC.length<|au.mk 0 0 [] [] [])<|some<|au.mk aX.dH aX.ve aX.oz z1 []
def G.fO (f:Nat)(aX:au):Option (au):=match f with
|0=>none
|n+1=>cond (decide<|0<(aX.dS.length:Int)) (chk (0<=(aX.dS.length:Int)/\(aX.dS.length:Int)<=(aX.dS.length:Int)/\16*(aX.dS.length:Int)<=2^47/\(aX.dS.length:Int)<=2^47)<|G.fO.K1 n aX aX.dS)<|G.fO.K1 n aX []
end
def G.kJ.L1 (f:Nat)(kF:List di)(lI:Int):Option (Bool):=match f with
|0=>none
|n+1=>cond (decide<|lI<(kF.length:Int)) (chk (0<=lI/\lI<(kF.length:Int))<|(G.gB n<|kF.getD lI.toNat default).bind λv3=>cond v3 (G.kJ.L1 n kF<|af .i64<|lI+1)<|some false)<|some true
def G.kJ (f:Nat)(kF:List di):Option (Bool):=match f with
|0=>none
|n+1=>cond (decide<|5<(kF.length:Int)) (some false)<|G.kJ.L1 n kF 0
def G.qY (f:Nat)(yU:o6):Option (Bool):=match f with
|0=>none
|n+1=>cond (decide<|1<=yU.dH) (cond (decide<|yU.dH<=6) ((G.kJ n yU.uF).bind λv1=>cond v1 ((G.kJ n yU.vg).bind λv2=>cond v2 ((G.gU n yU.Value).bind λv3=>some v3)<|some false)<|some false)<|some false)<|some false
def G.qH (f:Nat)(qx:Int):Option (di):=match f with
|0=>none
|n+1=>cond (qx==1) (some<|[97,100,100])<|cond (qx==2) (some<|[114,101,109,111,118,101])<|cond (qx==3) (some<|[114,101,112,108,97,99,101])<|cond (qx==4) (some<|[109,111,118,101])<|cond (qx==5) (some<|[99,111,112,121])<|cond (qx==6) (some<|[116,101,115,116])<|some<|[]
def G.jW.L1 (f:Nat)(kF:List di)(lI:Int)(z2:List au):Option (au):=match f with
|0=>none
|n+1=>cond (decide<|lI<(kF.length:Int)) (chk (0<=lI/\lI<(kF.length:Int))<|chk ((z2.length+1)*86<=2^46)<|G.jW.L1 n kF (af .i64<|lI+1)<|z2++[(au.mk 2 0 (kF.getD lI.toNat default) [] [])])<|some<|au.mk 3 0 [] [] z2
def G.jW (f:Nat)(kF:List di):Option (au):=match f with
|0=>none
|n+1=>G.jW.L1 n kF 0 []
def G.pO (f:Nat)(yU:o6):Option (au×Bool):=match f with
|0=>none
|n+1=>(G.qY n yU).bind λv1=>cond v1 ((G.jW n yU.vg).bind λv2=>(G.qH n yU.dH).bind λv3=>(G.jW n yU.uF).bind λv4=>(G.fO n yU.Value).bind λv5=>(G.qK n (au.mk 4 0 [] [[102,114,111,109],[111,112],[112,97,116,104],[118,97,108,117,101]] [v2,(au.mk 2 0 v3 [] []),v4,v5]) true).bind λv6=>some (v6.1,v6.2))<|some ((au.mk 0 0 [] [] []),false)
def G.jT.L1 (f:Nat)(bP:List o6)(lI:Int)(z2:di):Option (di×Bool):=match f with
|0=>none
|n+1=>cond (decide<|lI<(bP.length:Int)) (chk (0<=lI/\lI<(bP.length:Int))<|(G.pO n<|o6.mk ((bP.getD lI.toNat default).dH) ((bP.getD lI.toNat default).uF) ((bP.getD lI.toNat default).vg)<|(bP.getD lI.toNat default).Value).bind λv7=>cond v7.2 ((G.bV n (iP.mk z2) v7.1).bind λv8=>(G.bz n v8 59).bind λv9=>G.jT.L1 n bP (af .i64<|lI+1) v9.2.buf)<|some ([],false))<|(G.kG n<|iP.mk z2).bind λv10=>some (v10,true)
def G.jT (f:Nat)(bP:List o6):Option (di×Bool):=match f with
|0=>none
|n+1=>G.jT.L1 n bP 0 []
def G.je.L1 (f:Nat)(bP:List o6)(lI:Int):Option (Bool):=match f with
|0=>none
|n+1=>cond (decide<|lI<(bP.length:Int)) (chk (0<=lI/\lI<(bP.length:Int))<|(G.qY n<|o6.mk ((bP.getD lI.toNat default).dH) ((bP.getD lI.toNat default).uF) ((bP.getD lI.toNat default).vg)<|(bP.getD lI.toNat default).Value).bind λv3=>cond v3 (G.je.L1 n bP<|af .i64<|lI+1)<|some false)<|some true
def G.je (f:Nat)(bP:List o6):Option (Bool):=match f with
|0=>none
|n+1=>cond (decide<|12<(bP.length:Int)) (some false)<|G.je.L1 n bP 0
def G.kH.L1 (f:Nat)(bZ:di)(bK:Int):Option (Bool):=match f with
|0=>none
|n+1=>cond (decide<|bK<(bZ.length:Int)) (chk (0<=bK/\bK<(bZ.length:Int))<|cond (decide<|((bZ.getD bK.toNat 0).toNat:Int)<97) (chk (0<=bK/\bK<(bZ.length:Int))<|cond (decide<|((bZ.getD bK.toNat 0).toNat:Int)<48) (some false)<|chk (0<=bK/\bK<(bZ.length:Int))<|cond (decide<|57<((bZ.getD bK.toNat 0).toNat:Int)) (some false)<|G.kH.L1 n bZ<|af .i64<|bK+1)<|chk (0<=bK/\bK<(bZ.length:Int))<|cond (decide<|122<((bZ.getD bK.toNat 0).toNat:Int)) (chk (0<=bK/\bK<(bZ.length:Int))<|cond (decide<|((bZ.getD bK.toNat 0).toNat:Int)<48) (some false)<|chk (0<=bK/\bK<(bZ.length:Int))<|cond (decide<|57<((bZ.getD bK.toNat 0).toNat:Int)) (some false)<|G.kH.L1 n bZ<|af .i64<|bK+1)<|G.kH.L1 n bZ<|af .i64<|bK+1)<|some true
def G.kH (f:Nat)(bZ:di):Option (Bool):=match f with
|0=>none
|n+1=>cond (bZ==[]) (some false)<|cond (decide<|8<(bZ.length:Int)) (some false)<|G.kH.L1 n bZ 0
def G.lV (f:Nat)(jR:cZ):Option (Bool):=match f with
|0=>none
|n+1=>cond (decide<|1<=jR.gZ) (cond (decide<|jR.gZ<=5) ((G.kH n jR.rW).bind λv1=>cond v1 ((G.jS n jR.xZ).bind λv2=>cond v2 ((G.jS n jR.tu).bind λv3=>cond v3 ((G.gU n jR.Body).bind λv4=>cond v4 ((G.je n jR.vZ).bind λv5=>some v5)<|some false)<|some false)<|some false)<|some false)<|some false)<|some false
def G.lK (f:Nat)(AZ:Int):Option (di):=match f with
|0=>none
|n+1=>cond (AZ==1) (some<|[103,101,116])<|cond (AZ==2) (some<|[112,117,116])<|cond (AZ==3) (some<|[100,101,108,101,116,101])<|cond (AZ==4) (some<|[112,97,116,99,104])<|cond (AZ==5) (some<|[109,101,114,103,101])<|some<|[]
def G.strings_Join (f:Nat)(l:List di)(s:di):Option di:=match f with
|0=>none
|_+1=>(chk (l.length<=140737488355328/\(Go.Lib.join l s).length<=140737488355328) (some (Go.Lib.join l s)))
def G.aV.K2 (f:Nat)(jR:cZ)(Z4:di):Option (di):=match f with
|0=>none
|n+1=>(G.lK n jR.gZ).bind λv4=>(G.gy n jR.xZ).bind λv5=>(G.gy n jR.tu).bind λv6=>(G.strings_Join n [v4,jR.rW,v5,v6,Z4] [32]).bind λv7=>some v7
def G.aV.K1 (f:Nat)(jR:cZ):Option (di):=match f with
|0=>none
|n+1=>(G.nC n jR.Body).bind λv2=>cond (jR.gZ==4) ((G.jT n jR.vZ).bind λv8=>cond v8.2 (G.aV.K2 n jR v8.1)<|some<|[])<|G.aV.K2 n jR v2
def G.aV.K4 (f:Nat)(jR:cZ)(Z5:di):Option (di):=match f with
|0=>none
|n+1=>(G.lK n jR.gZ).bind λv11=>(G.gy n jR.xZ).bind λv12=>(G.gy n jR.tu).bind λv13=>(G.strings_Join n [v11,jR.rW,v12,v13,Z5] [32]).bind λv14=>some v14
def G.aV.K3 (f:Nat)(jR:cZ):Option (di):=match f with
|0=>none
|n+1=>(G.nC n jR.Body).bind λv9=>cond (jR.gZ==4) ((G.jT n jR.vZ).bind λv15=>cond v15.2 (G.aV.K4 n jR v15.1)<|some<|[])<|G.aV.K4 n jR v9
def G.aV (f:Nat)(jR:cZ):Option (di):=match f with
|0=>none
|n+1=>(G.lV n jR).bind λv1=>cond v1 (cond (jR.gZ==2) (cond (jR.gZ != 4) (cond (decide<|0<(jR.vZ.length:Int)) (some<|[])<|G.aV.K1 n jR)<|G.aV.K1 n jR)<|cond (jR.gZ==5) (cond (jR.gZ != 4) (cond (decide<|0<(jR.vZ.length:Int)) (some<|[])<|G.aV.K3 n jR)<|G.aV.K3 n jR)<|cond (jR.Body.dH != 0) (some<|[])<|cond (jR.gZ != 4) (cond (decide<|0<(jR.vZ.length:Int)) (some<|[])<|G.aV.K3 n jR)<|G.aV.K3 n jR)<|some<|[]
def G.oL.L1 (f:Nat)(bZ:tV)(lI:Int):Option (Bool):=match f with
|0=>none
|n+1=>cond (decide<|lI<(bZ.kM.length:Int)) (chk (0<=lI/\lI<(bZ.kM.length:Int))<|(G.kH n<|(bZ.kM.getD lI.toNat default).rW).bind λv6=>cond v6 (cond (decide<|0<lI) (chk (0<=(af .i64<|lI-1)/\(af .i64<|lI-1)<(bZ.kM.length:Int))<|cond (jV ((bZ.kM.getD (af .i64<|lI-1).toNat default).rW)<|(bZ.kM.getD lI.toNat default).rW) (cond (decide<|(bZ.kM.getD lI.toNat default).xy<1) (some false)<|cond (decide<|bZ.xJ<(bZ.kM.getD lI.toNat default).xy) (some false)<|(G.gU n<|(bZ.kM.getD lI.toNat default).Ed).bind λv7=>cond v7 (G.oL.L1 n bZ<|af .i64<|lI+1)<|some false)<|some false)<|cond (decide<|(bZ.kM.getD lI.toNat default).xy<1) (some false)<|cond (decide<|bZ.xJ<(bZ.kM.getD lI.toNat default).xy) (some false)<|(G.gU n<|(bZ.kM.getD lI.toNat default).Ed).bind λv8=>cond v8 (G.oL.L1 n bZ<|af .i64<|lI+1)<|some false)<|some false)<|some true
def G.oL (f:Nat)(bZ:tV):Option (Bool):=match f with
|0=>none
|n+1=>cond (decide<|10<(bZ.kM.length:Int)) (some false)<|cond (decide<|bZ.xJ<0) (some false)<|cond (decide<|999<bZ.xJ) (some false)<|G.oL.L1 n bZ 0
def G.jy.L1 (f:Nat)(aX:au)(lI:Int)(z2:List di):Option (List di×Bool):=match f with
|0=>none
|n+1=>cond (decide<|lI<(aX.bC.length:Int)) (chk (0<=lI/\lI<(aX.bC.length:Int))<|cond ((aX.bC.getD lI.toNat default).dH != 2) (some ([],false))<|chk ((z2.length+1)*18<=2^46)<|G.jy.L1 n aX (af .i64<|lI+1)<|z2++[(aX.bC.getD lI.toNat default).oz])<|(G.kJ n z2).bind λv1=>some (z2,v1)
def G.jy (f:Nat)(aX:au):Option (List di×Bool):=match f with
|0=>none
|n+1=>cond (aX.dH != 3) (some ([],false))<|G.jy.L1 n aX 0 []
def G.gV.L1 (f:Nat)(uX:di)(uV:Int)(Ba:Int):Option (Int×Bool):=match f with
|0=>none
|n+1=>cond (decide<|Ba<=uV) ((G.qH n Ba).bind λv3=>cond (v3==uX) (some (Ba,true))<|G.gV.L1 n uX uV<|af .i64<|Ba+1)<|some (0,false)
def G.gV (f:Nat)(uX:di)(Af:Int)(uV:Int):Option (Int×Bool):=match f with
|0=>none
|n+1=>G.gV.L1 n uX uV Af
def G.slices_Equal_string.L1 (f:Nat)(FD:List di)(Iy:List di)(lI:Int):Option (Bool):=match f with
|0=>none
|n+1=>cond (decide<|lI<(FD.length:Int)) (chk (0<=lI/\lI<(FD.length:Int))<|chk (0<=lI/\lI<(Iy.length:Int))<|cond ((FD.getD lI.toNat default)==(Iy.getD lI.toNat default)) (G.slices_Equal_string.L1 n FD Iy<|af .i64<|lI+1)<|some false)<|some true
def G.slices_Equal_string (f:Nat)(FD:List di)(Iy:List di):Option (Bool):=match f with
|0=>none
|n+1=>cond ((FD.length:Int) != (Iy.length:Int)) (some false)<|G.slices_Equal_string.L1 n FD Iy 0
def G.pM (f:Nat)(aX:au):Option (o6×Bool):=match f with
|0=>none
|n+1=>(G.gU n aX).bind λv1=>cond v1 (cond (aX.dH != 4) (some ((o6.mk 0 [] []<|au.mk 0 0 [] [] []),false))<|(G.slices_Equal_string n aX.dS [[102,114,111,109],[111,112],[112,97,116,104],[118,97,108,117,101]]).bind λv2=>cond v2 (chk (0<=0/\0<(aX.bC.length:Int))<|(G.jy n<|aX.bC.getD 0 default).bind λv3=>cond v3.2 (chk (0<=1/\1<(aX.bC.length:Int))<|cond ((aX.bC.getD 1 default).dH != 2) (some ((o6.mk 0 [] []<|au.mk 0 0 [] [] []),false))<|chk (0<=1/\1<(aX.bC.length:Int))<|(G.gV n ((aX.bC.getD 1 default).oz) 1 6).bind λv4=>cond v4.2 (chk (0<=2/\2<(aX.bC.length:Int))<|(G.jy n<|aX.bC.getD 2 default).bind λv5=>cond v5.2 (chk (0<=3/\3<(aX.bC.length:Int))<|(G.fO n<|aX.bC.getD 3 default).bind λv6=>some ((o6.mk v4.1 v5.1 v3.1 v6),true))<|some ((o6.mk 0 [] []<|au.mk 0 0 [] [] []),false))<|some ((o6.mk 0 [] []<|au.mk 0 0 [] [] []),false))<|some ((o6.mk 0 [] []<|au.mk 0 0 [] [] []),false))<|some ((o6.mk 0 [] []<|au.mk 0 0 [] [] []),false))<|some ((o6.mk 0 [] []<|au.mk 0 0 [] [] []),false)
def G.strconv_Atoi (f:Nat)(s:di):Option (Int×Bool):=match f with
|0=>none
|_+1=>(chk (s.length<=281474976710656) (some (Gp s)))
def G.dO.L1 (f:Nat)(jf:bg)(uP:Int):Option (au×Bool×bg):=match f with
|0=>none
|n+1=>cond (decide<|uP<(jf.text.length:Int)) (chk (0<=uP/\uP<(jf.text.length:Int))<|cond (((jf.text.getD uP.toNat 0).toNat:Int)==45) (G.dO.L1 n jf<|af .i64<|uP+1)<|chk (0<=uP/\uP<(jf.text.length:Int))<|cond (decide<|48<=((jf.text.getD uP.toNat 0).toNat:Int)) (chk (0<=uP/\uP<(jf.text.length:Int))<|cond (decide<|((jf.text.getD uP.toNat 0).toNat:Int)<=57) (G.dO.L1 n jf<|af .i64<|uP+1)<|chk (0<=jf.at_/\jf.at_<=uP/\uP<=(jf.text.length:Int))<|(G.strconv_Atoi n<|(jf.text.take uP.toNat).drop jf.at_.toNat).bind λv1=>cond v1.2 (some ((au.mk 0 0 [] [] []),false,jf))<|(G.strconv_Itoa n v1.1).bind λv2=>cond (v2==((jf.text.take uP.toNat).drop jf.at_.toNat)) (some ((au.mk 1 v1.1 [] [] []),true,(bg.mk jf.text uP)))<|some ((au.mk 0 0 [] [] []),false,jf))<|chk (0<=jf.at_/\jf.at_<=uP/\uP<=(jf.text.length:Int))<|(G.strconv_Atoi n<|(jf.text.take uP.toNat).drop jf.at_.toNat).bind λv3=>cond v3.2 (some ((au.mk 0 0 [] [] []),false,jf))<|(G.strconv_Itoa n v3.1).bind λv4=>cond (v4==((jf.text.take uP.toNat).drop jf.at_.toNat)) (some ((au.mk 1 v3.1 [] [] []),true,(bg.mk jf.text uP)))<|some ((au.mk 0 0 [] [] []),false,jf))<|chk (0<=jf.at_/\jf.at_<=uP/\uP<=(jf.text.length:Int))<|(G.strconv_Atoi n<|(jf.text.take uP.toNat).drop jf.at_.toNat).bind λv5=>cond v5.2 (some ((au.mk 0 0 [] [] []),false,jf))<|(G.strconv_Itoa n v5.1).bind λv6=>cond (v6==((jf.text.take uP.toNat).drop jf.at_.toNat)) (some ((au.mk 1 v5.1 [] [] []),true,(bg.mk jf.text uP)))<|some ((au.mk 0 0 [] [] []),false,jf)
def G.dO (f:Nat)(jf:bg):Option (au×Bool×bg):=match f with
|0=>none
|n+1=>G.dO.L1 n jf jf.at_
def G.strings_HasPrefix (f:Nat)(s:di)(p:di):Option Bool:=match f with
|0=>none
|_+1=>some (Go.Lib.hasPrefix s p)
def G.iJ (f:Nat)(jf:bg)(bZ:di):Option (Bool×bg):=match f with
|0=>none
|n+1=>chk (0<=jf.at_/\jf.at_<=(jf.text.length:Int)/\(jf.text.length:Int)<=(jf.text.length:Int))<|(G.strings_HasPrefix n (jf.text.drop jf.at_.toNat) bZ).bind λv1=>cond v1 (some (true,(bg.mk jf.text<|af .i64<|jf.at_+(bZ.length:Int))))<|some (false,jf)
mutual
def G.bQ.K4 (f:Nat)(v1:Bool×bg)(z2:di)(amJ:Int)(y5:Int):Option (di×Bool×bg):=match f with
|0=>none
|n+1=>(G.bz n (iP.mk z2) amJ).bind λv7=>G.bQ.L3 n v1 y5 v7.2.buf
def G.bQ.L3 (f:Nat)(v1:Bool×bg)(y4:Int)(z2:di):Option (di×Bool×bg):=match f with
|0=>none
|n+1=>cond (decide<|y4<(v1.2.text.length:Int)) (chk (0<=y4/\y4<(v1.2.text.length:Int))<|cond (((v1.2.text.getD y4.toNat 0).toNat:Int)==34) ((G.kG n<|iP.mk z2).bind λv6=>some (v6,true,(bg.mk v1.2.text<|af .i64<|y4+1)))<|cond (((v1.2.text.getD y4.toNat 0).toNat:Int)==92) (cond ((af .i64<|y4+1)==(v1.2.text.length:Int)) (some ([],false,(bg.mk v1.2.text<|af .i64<|y4+1)))<|chk (0<=(af .i64<|y4+1)/\(af .i64<|y4+1)<(v1.2.text.length:Int))<|cond (((v1.2.text.getD (af .i64<|y4+1).toNat 0).toNat:Int) != 34) (chk (0<=(af .i64<|y4+1)/\(af .i64<|y4+1)<(v1.2.text.length:Int))<|cond (((v1.2.text.getD (af .i64<|y4+1).toNat 0).toNat:Int) != 92) (some ([],false,(bg.mk v1.2.text<|af .i64<|y4+1)))<|chk (0<=(af .i64<|y4+1)/\(af .i64<|y4+1)<(v1.2.text.length:Int))<|G.bQ.K4 n v1 z2 ((v1.2.text.getD (af .i64<|y4+1).toNat 0).toNat:Int)<|af .i64<|(af .i64<|y4+1)+1)<|chk (0<=(af .i64<|y4+1)/\(af .i64<|y4+1)<(v1.2.text.length:Int))<|G.bQ.K4 n v1 z2 ((v1.2.text.getD (af .i64<|y4+1).toNat 0).toNat:Int)<|af .i64<|(af .i64<|y4+1)+1)<|G.bQ.K4 n v1 z2 ((v1.2.text.getD y4.toNat 0).toNat:Int)<|af .i64<|y4+1)<|some ([],false,(bg.mk v1.2.text y4))
end
def G.bQ (f:Nat)(jf:bg):Option (di×Bool×bg):=match f with
|0=>none
|n+1=>(G.iJ n jf [34]).bind λv1=>cond v1.1 (G.bQ.L3 n v1 v1.2.at_ [])<|some ([],false,v1.2)
mutual
def G.iw (f:Nat)(jf:bg)(lD:Int):Option (au×Bool×bg):=match f with
|0=>none
|n+1=>cond (decide<|5<lD) (some ((au.mk 0 0 [] [] []),false,jf))<|cond (decide<|(jf.text.length:Int)<=jf.at_) (some ((au.mk 0 0 [] [] []),false,jf))<|chk (0<=jf.at_/\jf.at_<(jf.text.length:Int))<|cond (((jf.text.getD jf.at_.toNat 0).toNat:Int)==110) ((G.iJ n jf [110,117,108,108]).bind λv1=>some ((au.mk 0 0 [] [] []),v1.1,v1.2))<|cond (((jf.text.getD jf.at_.toNat 0).toNat:Int)==34) ((G.bQ n jf).bind λv2=>some ((au.mk 2 0 v2.1 [] []),v2.2.1,v2.2.2))<|cond (((jf.text.getD jf.at_.toNat 0).toNat:Int)==91) ((G.dh n (bg.mk jf.text<|af .i64<|jf.at_+1) 3 lD [93]).bind λv3=>some (v3.1,v3.2.1,v3.2.2))<|cond (((jf.text.getD jf.at_.toNat 0).toNat:Int)==123) ((G.dh n (bg.mk jf.text<|af .i64<|jf.at_+1) 4 lD [125]).bind λv4=>some (v4.1,v4.2.1,v4.2.2))<|(G.dO n jf).bind λv5=>some (v5.1,v5.2.1,v5.2.2)
def G.dh.K4 (f:Nat)(qx:Int)(lD:Int)(rO:di)(z6:List au)(y9:di)(y10:Int)(z7:List di):Option (au×Bool×bg):=match f with
|0=>none
|n+1=>(G.iw n (bg.mk y9 y10)<|af .i64<|lD+1).bind λv18=>cond v18.2.1 (chk ((z6.length+1)*86<=2^46)<|(G.iJ n v18.2.2 rO).bind λv19=>cond v19.1 (some ((au.mk qx 0 [] z7<|z6++[v18.1]),true,v19.2))<|(G.iJ n v19.2 [44]).bind λv20=>cond v20.1 (G.dh.L3 n qx lD rO v20.2.text v20.2.at_ z7<|z6++[v18.1])<|some ((au.mk 0 0 [] [] []),false,v20.2))<|some ((au.mk 0 0 [] [] []),false,v18.2.2)
def G.dh.L3 (f:Nat)(qx:Int)(lD:Int)(rO:di)(y7:di)(y8:Int)(z5:List di)(z6:List au):Option (au×Bool×bg):=match f with
|0=>none
|n+1=>cond (qx==4) ((G.bQ n<|bg.mk y7 y8).bind λv21=>cond v21.2.1 ((G.iJ n v21.2.2 [58]).bind λv22=>cond v22.1 (chk ((z5.length+1)*18<=2^46)<|G.dh.K4 n qx lD rO z6 v22.2.text v22.2.at_<|z5++[v21.1])<|some ((au.mk 0 0 [] [] []),false,v22.2))<|some ((au.mk 0 0 [] [] []),false,v21.2.2))<|G.dh.K4 n qx lD rO z6 y7 y8 z5
def G.dh (f:Nat)(jf:bg)(qx:Int)(lD:Int)(rO:di):Option (au×Bool×bg):=match f with
|0=>none
|n+1=>(G.iJ n jf rO).bind λv1=>cond v1.1 (some ((au.mk qx 0 [] [] []),true,v1.2))<|G.dh.L3 n qx lD rO v1.2.text v1.2.at_ [] []
end
def G.oO (f:Nat)(bZ:di):Option (au×Bool):=match f with
|0=>none
|n+1=>cond (decide<|2000<(bZ.length:Int)) (some ((au.mk 0 0 [] [] []),false))<|(G.iw n (bg.mk bZ 0) 1).bind λv1=>cond v1.2.1 (cond (v1.2.2.at_ != (bZ.length:Int)) (some ((au.mk 0 0 [] [] []),false))<|(G.gU n v1.1).bind λv2=>cond v2 ((G.fO n v1.1).bind λv3=>some (v3,true))<|some ((au.mk 0 0 [] [] []),false))<|some ((au.mk 0 0 [] [] []),false)
def G.ru (f:Nat)(s:di):Option (List di×Bool):=match f with
|0=>none
|_+1=>(chk (s.length<=1000000) (some (VD Ij s)))
def G.fD.L1 (f:Nat)(uX:di)(uV:Int)(Ba:Int):Option (Int×Bool):=match f with
|0=>none
|n+1=>cond (decide<|Ba<=uV) ((G.lK n Ba).bind λv3=>cond (v3==uX) (some (Ba,true))<|G.fD.L1 n uX uV<|af .i64<|Ba+1)<|some (0,false)
def G.fD (f:Nat)(uX:di)(Af:Int)(uV:Int):Option (Int×Bool):=match f with
|0=>none
|n+1=>G.fD.L1 n uX uV Af
def G.lu.L1 (f:Nat)(bZ:di)(z2:List o6)(y3:di)(y4:Int):Option (List o6×Bool):=match f with
|0=>none
|n+1=>cond (decide<|y4<(bZ.length:Int)) ((G.iw n (bg.mk y3 y4) 1).bind λv7=>cond v7.2.1 ((G.iJ n v7.2.2 [59]).bind λv8=>cond v8.1 ((G.pM n v7.1).bind λv9=>cond v9.2 (cond ((z2.length:Int)==12) (some ([],false))<|chk ((z2.length+1)*145<=2^46)<|G.lu.L1 n bZ (z2++[v9.1]) v8.2.text v8.2.at_)<|some ([],false))<|some ([],false))<|some ([],false))<|some (z2,true)
def G.lu (f:Nat)(bZ:di):Option (List o6×Bool):=match f with
|0=>none
|n+1=>G.lu.L1 n bZ [] bZ 0
def G.strings_SplitN (f:Nat)(s:di)(sep:di)(k:Int):Option (List di):=match f with
|0=>none
|_+1=>(chk (s.length<4294967281/\1<=sep.length/\1<=k/\k<=1000000) (some (Go.Lib.splitK sep 0 (min k.toNat (s.length+1)-1) s)))
def G.jh.K1 (f:Nat)(bZ:di)(v1:List di)(v2:Int×Bool)(v3:List di×Bool)(v4:List di×Bool)(alg:Bool)(y1:Int)(y2:Int)(y3:di)(y4:List di)(y5:List au)(y6:List o6):Option (cZ×Bool):=match f with
|0=>none
|n+1=>cond alg ((G.aV n<|cZ.mk v2.1 (v1.getD 1 default) v3.1 v4.1 (au.mk y1 y2 y3 y4 y5) y6).bind λv7=>cond (v7==bZ) (some ((cZ.mk v2.1 (v1.getD 1 default) v3.1 v4.1 (au.mk y1 y2 y3 y4 y5) y6),true))<|some ((cZ.mk 0 [] [] [] (au.mk 0 0 [] [] []) []),false))<|some ((cZ.mk 0 [] [] [] (au.mk 0 0 [] [] []) []),false)
def G.jh (f:Nat)(bZ:di):Option (cZ×Bool):=match f with
|0=>none
|n+1=>(G.strings_SplitN n bZ [32] 5).bind λv1=>cond (decide<|2000<(bZ.length:Int)) (some ((cZ.mk 0 [] [] [] (au.mk 0 0 [] [] []) []),false))<|cond ((v1.length:Int) != 5) (some ((cZ.mk 0 [] [] [] (au.mk 0 0 [] [] []) []),false))<|chk (0<=0/\0<(v1.length:Int))<|(G.fD n (v1.getD 0 default) 1 5).bind λv2=>chk (0<=2/\2<(v1.length:Int))<|(G.ru n<|v1.getD 2 default).bind λv3=>chk (0<=3/\3<(v1.length:Int))<|(G.ru n<|v1.getD 3 default).bind λv4=>cond v2.2 (cond v3.2 (cond v4.2 (chk (0<=1/\1<(v1.length:Int))<|cond (v2.1==4) (chk (0<=4/\4<(v1.length:Int))<|(G.lu n<|v1.getD 4 default).bind λv8=>G.jh.K1 n bZ v1 v2 v3 v4 v8.2 0 0 [] [] [] v8.1)<|chk (0<=4/\4<(v1.length:Int))<|(G.oO n<|v1.getD 4 default).bind λv9=>G.jh.K1 n bZ v1 v2 v3 v4 v9.2 v9.1.dH v9.1.ve v9.1.oz v9.1.dS v9.1.bC [])<|some ((cZ.mk 0 [] [] [] (au.mk 0 0 [] [] []) []),false))<|some ((cZ.mk 0 [] [] [] (au.mk 0 0 [] [] []) []),false))<|some ((cZ.mk 0 [] [] [] (au.mk 0 0 [] [] []) []),false)
def G.jC.L1 (f:Nat)(iF:List di)(kR:List di)(bK:Int):Option (Bool):=match f with
|0=>none
|n+1=>cond (decide<|bK<(iF.length:Int)) (chk (0<=bK/\bK<(iF.length:Int))<|chk (0<=bK/\bK<(kR.length:Int))<|cond ((iF.getD bK.toNat default)==(kR.getD bK.toNat default)) (G.jC.L1 n iF kR<|af .i64<|bK+1)<|some false)<|some true
def G.jC (f:Nat)(iF:List di)(kR:List di):Option (Bool):=match f with
|0=>none
|n+1=>cond ((iF.length:Int) != (kR.length:Int)) (some false)<|G.jC.L1 n iF kR 0
mutual
def G.pU (f:Nat)(iF:au)(kR:au):Option (Bool):=match f with
|0=>none
|n+1=>cond (iF.dH != kR.dH) (some false)<|cond (iF.ve != kR.ve) (some false)<|cond (iF.oz==kR.oz) ((G.jC n iF.dS kR.dS).bind λv1=>cond v1 ((G.nI n iF.bC kR.bC).bind λv2=>cond v2 (some true)<|some false)<|some false)<|some false
def G.nI.L1 (f:Nat)(iF:List au)(kR:List au)(bK:Int):Option (Bool):=match f with
|0=>none
|n+1=>cond (decide<|bK<(iF.length:Int)) (chk (0<=bK/\bK<(iF.length:Int))<|chk (0<=bK/\bK<(kR.length:Int))<|(G.pU n (iF.getD bK.toNat default)<|kR.getD bK.toNat default).bind λv3=>cond v3 (G.nI.L1 n iF kR<|af .i64<|bK+1)<|some false)<|some true
def G.nI (f:Nat)(iF:List au)(kR:List au):Option (Bool):=match f with
|0=>none
|n+1=>cond ((iF.length:Int) != (kR.length:Int)) (some false)<|G.nI.L1 n iF kR 0
end
def G.xQ (f:Nat)(iF:o6)(kR:o6):Option (Bool):=match f with
|0=>none
|n+1=>cond (iF.dH != kR.dH) (some false)<|(G.jC n iF.uF kR.uF).bind λv1=>cond v1 ((G.jC n iF.vg kR.vg).bind λv2=>cond v2 ((G.pU n iF.Value kR.Value).bind λv3=>cond v3 (some true)<|some false)<|some false)<|some false
def G.oZ.L1 (f:Nat)(iF:List o6)(kR:List o6)(bK:Int):Option (Bool):=match f with
|0=>none
|n+1=>cond (decide<|bK<(iF.length:Int)) (chk (0<=bK/\bK<(iF.length:Int))<|chk (0<=bK/\bK<(kR.length:Int))<|(G.xQ n (o6.mk ((iF.getD bK.toNat default).dH) ((iF.getD bK.toNat default).uF) ((iF.getD bK.toNat default).vg)<|(iF.getD bK.toNat default).Value)<|o6.mk ((kR.getD bK.toNat default).dH) ((kR.getD bK.toNat default).uF) ((kR.getD bK.toNat default).vg)<|(kR.getD bK.toNat default).Value).bind λv3=>cond v3 (G.oZ.L1 n iF kR<|af .i64<|bK+1)<|some false)<|some true
def G.oZ (f:Nat)(iF:List o6)(kR:List o6):Option (Bool):=match f with
|0=>none
|n+1=>cond ((iF.length:Int) != (kR.length:Int)) (some false)<|G.oZ.L1 n iF kR 0
def G.pI (f:Nat)(iF:cZ)(kR:cZ):Option (Bool):=match f with
|0=>none
|n+1=>cond (iF.gZ != kR.gZ) (some false)<|cond (iF.rW==kR.rW) ((G.jC n iF.xZ kR.xZ).bind λv1=>cond v1 ((G.jC n iF.tu kR.tu).bind λv2=>cond v2 ((G.pU n iF.Body kR.Body).bind λv3=>cond v3 ((G.oZ n iF.vZ kR.vZ).bind λv4=>cond v4 (some true)<|some false)<|some false)<|some false)<|some false)<|some false
def G.jF.L1 (f:Nat)(Fq:Int)(yH:di):Option (di):=match f with
|0=>none
|n+1=>cond (decide<|0<Fq) (chk (1<=maxLen)<|chk (1+yH.length<=maxLen)<|G.jF.L1 n (af .i64<|BO Fq 10)<|[fA (af .u8<|(af .i64<|48+(Eh Fq 10))).toNat]++yH)<|chk (1+yH.length<=maxLen)<|some<|[109]++yH
def G.jF (f:Nat)(yT:Int):Option (di):=match f with
|0=>none
|n+1=>cond (decide<|yT<=0) (some<|[109,48])<|G.jF.L1 n yT []
def G.iD.L1 (f:Nat)(iF:List di)(Fq:Int)(bK:Int):Option (Int):=match f with
|0=>none
|n+1=>cond (decide<|bK<(iF.length:Int)) (chk (0<=bK/\bK<(iF.length:Int))<|(G.jF n Fq).bind λv3=>cond ((iF.getD bK.toNat default)==v3) (G.iD.L1 n iF (af .i64<|Fq+1)<|af .i64<|bK+1)<|some (-1))<|some Fq
def G.iD (f:Nat)(iF:List di)(yT:Int):Option (Int):=match f with
|0=>none
|n+1=>G.iD.L1 n iF yT 0
mutual
def G.jD.L1 (f:Nat)(iF:List au)(Fq:Int)(bK:Int):Option (Int):=match f with
|0=>none
|n+1=>cond (decide<|bK<(iF.length:Int)) (chk (0<=bK/\bK<(iF.length:Int))<|cond ((iF.getD bK.toNat default).dH != Fq) (some (-1))<|chk (0<=bK/\bK<(iF.length:Int))<|cond ((iF.getD bK.toNat default).ve != (af .i64<|Fq+1)) (some (-1))<|chk (0<=bK/\bK<(iF.length:Int))<|(G.jF n<|af .i64<|(af .i64<|Fq+1)+1).bind λv7=>cond ((iF.getD bK.toNat default).oz==v7) (chk (0<=bK/\bK<(iF.length:Int))<|(G.iD n ((iF.getD bK.toNat default).dS)<|af .i64<|(af .i64<|(af .i64<|Fq+1)+1)+1).bind λv8=>cond (decide<|v8<0) (some (-1))<|chk (0<=bK/\bK<(iF.length:Int))<|(G.jD n ((iF.getD bK.toNat default).bC) v8).bind λv9=>cond (decide<|v9<0) (some (-1))<|G.jD.L1 n iF v9<|af .i64<|bK+1)<|some (-1))<|some Fq
def G.jD (f:Nat)(iF:List au)(yT:Int):Option (Int):=match f with
|0=>none
|n+1=>G.jD.L1 n iF yT 0
end
def G.rF (f:Nat)(iF:au)(yT:Int):Option (Int):=match f with
|0=>none
|n+1=>(G.iD n iF.dS yT).bind λv1=>cond (decide<|v1<0) (some (-1))<|(G.jD n iF.bC v1).bind λv2=>cond (decide<|v2<0) (some (-1))<|some v2
def G.l9.L1 (f:Nat)(iF:List o6)(Fq:Int)(bK:Int):Option (Int):=match f with
|0=>none
|n+1=>cond (decide<|bK<(iF.length:Int)) (chk (0<=bK/\bK<(iF.length:Int))<|cond ((iF.getD bK.toNat default).dH != Fq) (some (-1))<|chk (0<=bK/\bK<(iF.length:Int))<|(G.iD n ((iF.getD bK.toNat default).uF)<|af .i64<|Fq+1).bind λv11=>cond (decide<|v11<0) (some (-1))<|chk (0<=bK/\bK<(iF.length:Int))<|(G.iD n ((iF.getD bK.toNat default).vg) v11).bind λv12=>cond (decide<|v12<0) (some (-1))<|chk (0<=bK/\bK<(iF.length:Int))<|cond (((iF.getD bK.toNat default).Value).dH != v12) (some (-1))<|chk (0<=bK/\bK<(iF.length:Int))<|cond (((iF.getD bK.toNat default).Value).ve != (af .i64<|v12+1)) (some (-1))<|chk (0<=bK/\bK<(iF.length:Int))<|(G.jF n<|af .i64<|(af .i64<|v12+1)+1).bind λv13=>cond (((iF.getD bK.toNat default).Value).oz==v13) (chk (0<=bK/\bK<(iF.length:Int))<|(G.iD n (((iF.getD bK.toNat default).Value).dS)<|af .i64<|(af .i64<|(af .i64<|v12+1)+1)+1).bind λv14=>cond (decide<|v14<0) (some (-1))<|chk (0<=bK/\bK<(iF.length:Int))<|(G.jD n (((iF.getD bK.toNat default).Value).bC) v14).bind λv15=>cond (decide<|v15<0) (some (-1))<|G.l9.L1 n iF v15<|af .i64<|bK+1)<|some (-1))<|some Fq
def G.l9 (f:Nat)(iF:List o6)(yT:Int):Option (Int):=match f with
|0=>none
|n+1=>G.l9.L1 n iF yT 0
def G.oM (f:Nat)(iF:cZ)(yT:Int):Option (Int):=match f with
|0=>none
|n+1=>(G.iD n iF.xZ yT).bind λv1=>cond (decide<|v1<0) (some (-1))<|(G.iD n iF.tu v1).bind λv2=>cond (decide<|v2<0) (some (-1))<|(G.rF n iF.Body v2).bind λv3=>cond (decide<|v3<0) (some (-1))<|(G.l9 n iF.vZ v3).bind λv4=>cond (decide<|v4<0) (some (-1))<|some v4
def G.gK (f:Nat)(aX:Int)(PV:Int)(LC:Int):Option (Bool):=match f with
|0=>none
|n+1=>cond (decide<|PV<=aX) (some<|(decide<|aX<=LC))<|some false
def G.kL.L1 (f:Nat)(bZ:di)(bK:Int):Option (Bool):=match f with
|0=>none
|n+1=>cond (decide<|bK<(bZ.length:Int)) (chk (0<=bK/\bK<(bZ.length:Int))<|(G.gK n (af .i64<|((bZ.getD bK.toNat 0).toNat:Int)) 48 57).bind λv5=>cond v5 (G.kL.L1 n bZ<|af .i64<|bK+1)<|chk (0<=bK/\bK<(bZ.length:Int))<|(G.gK n (af .i64<|((bZ.getD bK.toNat 0).toNat:Int)) 97 102).bind λv6=>cond v6 (G.kL.L1 n bZ<|af .i64<|bK+1)<|some false)<|some<|((bZ.length:Int)==4)
def G.kL (f:Nat)(bZ:di):Option (Bool):=match f with
|0=>none
|n+1=>G.kL.L1 n bZ 0
def G.iG.L1 (f:Nat)(bP:List di)(bK:Int):Option (Bool):=match f with
|0=>none
|n+1=>cond (decide<|bK<(bP.length:Int)) (chk (0<=bK/\bK<(bP.length:Int))<|cond ((bP.getD bK.toNat default)==[42]) (G.iG.L1 n bP<|af .i64<|bK+1)<|chk (0<=bK/\bK<(bP.length:Int))<|(G.kL n<|bP.getD bK.toNat default).bind λv3=>cond v3 (G.iG.L1 n bP<|af .i64<|bK+1)<|some false)<|some<|(decide<|(bP.length:Int)<=4)
def G.iG (f:Nat)(bP:List di):Option (Bool):=match f with
|0=>none
|n+1=>G.iG.L1 n bP 0
mutual
def G.fG.K4 (f:Nat)(bP:List di)(bK:Int)(Oq:di):Option (di):=match f with
|0=>none
|n+1=>chk (0<=bK/\bK<(bP.length:Int))<|cond ((bP.getD bK.toNat default)==[42]) (chk (Oq.length+1<=maxLen)<|G.fG.L3 n bP (Oq++[42])<|af .i64<|bK+1)<|chk (Oq.length+1<=maxLen)<|chk (0<=bK/\bK<(bP.length:Int))<|chk ((Oq.length+1)+(bP.getD bK.toNat default).length<=maxLen)<|chk (((Oq.length+1)+(bP.getD bK.toNat default).length)+1<=maxLen)<|G.fG.L3 n bP (((Oq++[34])++(bP.getD bK.toNat default))++[34])<|af .i64<|bK+1
def G.fG.L3 (f:Nat)(bP:List di)(VY:di)(bK:Int):Option (di):=match f with
|0=>none
|n+1=>cond (decide<|bK<(bP.length:Int)) (cond (decide<|0<bK) (chk (VY.length+1<=maxLen)<|G.fG.K4 n bP bK<|VY++[44])<|G.fG.K4 n bP bK VY)<|some VY
end
def G.fG (f:Nat)(bP:List di):Option (di):=match f with
|0=>none
|n+1=>(G.iG n bP).bind λv1=>cond v1 (G.fG.L3 n bP [] 0)<|some<|[]
mutual
def G.mZ (f:Nat)(aX:Int):Option (di):=match f with
|0=>none
|n+1=>cond (decide<|aX<0) (cond (aX==(af .i64<|0-aX)) (some<|[45,57,50,50,51,51,55,50,48,51,54,56,53,52,55,55,53,56,48,56])<|(G.mZ n<|af .i64<|0-aX).bind λv1=>chk (1+v1.length<=maxLen)<|some<|[45]++v1)<|cond (decide<|aX<10) (chk (1<=maxLen)<|some<|[fA (af .u8<|(af .i64<|48+aX)).toNat])<|(G.mZ n<|af .i64<|BO aX 10).bind λv2=>chk (1<=maxLen)<|chk (v2.length+1<=maxLen)<|some<|(v2++[fA (af .u8<|(af .i64<|48+(Eh aX 10))).toNat])
end
def G.lU.L1 (f:Nat)(bZ:di)(yH:di)(bK:Int):Option (di):=match f with
|0=>none
|n+1=>cond (decide<|bK<(bZ.length:Int)) (chk (0<=bK/\bK<(bZ.length:Int))<|cond (((bZ.getD bK.toNat 0).toNat:Int)==34) (chk (yH.length+1<=maxLen)<|chk (0<=bK/\bK<=(af .i64<|bK+1)/\(af .i64<|bK+1)<=(bZ.length:Int))<|chk ((yH.length+1)+((bZ.take<|(af .i64<|bK+1).toNat).drop bK.toNat).length<=maxLen)<|G.lU.L1 n bZ ((yH++[92])++((bZ.take<|(af .i64<|bK+1).toNat).drop bK.toNat))<|af .i64<|bK+1)<|chk (0<=bK/\bK<(bZ.length:Int))<|cond (((bZ.getD bK.toNat 0).toNat:Int)==92) (chk (yH.length+1<=maxLen)<|chk (0<=bK/\bK<=(af .i64<|bK+1)/\(af .i64<|bK+1)<=(bZ.length:Int))<|chk ((yH.length+1)+((bZ.take<|(af .i64<|bK+1).toNat).drop bK.toNat).length<=maxLen)<|G.lU.L1 n bZ ((yH++[92])++((bZ.take<|(af .i64<|bK+1).toNat).drop bK.toNat))<|af .i64<|bK+1)<|chk (0<=bK/\bK<=(af .i64<|bK+1)/\(af .i64<|bK+1)<=(bZ.length:Int))<|chk (yH.length+((bZ.take<|(af .i64<|bK+1).toNat).drop bK.toNat).length<=maxLen)<|G.lU.L1 n bZ (yH++((bZ.take<|(af .i64<|bK+1).toNat).drop bK.toNat))<|af .i64<|bK+1)<|chk (yH.length+1<=maxLen)<|some<|yH++[34]
def G.lU (f:Nat)(bZ:di):Option (di):=match f with
|0=>none
|n+1=>G.lU.L1 n bZ [34] 0
mutual
def G.gu.K7 (f:Nat)(aX:au)(bK:Int)(af9:di):Option (di):=match f with
|0=>none
|n+1=>chk (0<=bK/\bK<(aX.bC.length:Int))<|(G.gu n<|aX.bC.getD bK.toNat default).bind λv10=>chk (af9.length+v10.length<=maxLen)<|G.gu.L5 n aX (af9++v10)<|af .i64<|bK+1
def G.gu.K6 (f:Nat)(aX:au)(bK:Int)(VZ:di):Option (di):=match f with
|0=>none
|n+1=>cond (aX.dH==4) (chk (0<=bK/\bK<(aX.dS.length:Int))<|(G.lU n<|aX.dS.getD bK.toNat default).bind λv11=>chk (VZ.length+v11.length<=maxLen)<|chk ((VZ.length+v11.length)+1<=maxLen)<|G.gu.K7 n aX bK<|(VZ++v11)++[58])<|G.gu.K7 n aX bK VZ
def G.gu.L5 (f:Nat)(aX:au)(Iq:di)(bK:Int):Option (di):=match f with
|0=>none
|n+1=>cond (decide<|bK<(aX.bC.length:Int)) (cond (decide<|0<bK) (chk (Iq.length+1<=maxLen)<|G.gu.K6 n aX bK<|Iq++[44])<|G.gu.K6 n aX bK Iq)<|cond (aX.dH==4) (chk (1+Iq.length<=maxLen)<|chk ((1+Iq.length)+1<=maxLen)<|some<|(([123]++Iq)++[125]))<|chk (1+Iq.length<=maxLen)<|chk ((1+Iq.length)+1<=maxLen)<|some<|(([91]++Iq)++[93])
def G.gu (f:Nat)(aX:au):Option (di):=match f with
|0=>none
|n+1=>cond (aX.dH==1) ((G.mZ n aX.ve).bind λv1=>some v1)<|cond (aX.dH==2) ((G.lU n aX.oz).bind λv2=>some v2)<|cond (aX.dH==0) (some<|[110,117,108,108])<|G.gu.L5 n aX [] 0
end
mutual
def G.iT.L1 (f:Nat)(aX:au)(bK:Int)(z2:List au):Option (au):=match f with
|0=>none
|n+1=>cond (decide<|bK<(aX.bC.length:Int)) (chk (0<=bK/\bK<(aX.bC.length:Int))<|(G.iT n<|aX.bC.getD bK.toNat default).bind λv3=>chk ((z2.length+1)*86<=2^46)<|G.iT.L1 n aX (af .i64<|bK+1)<|z2++[v3])<|chk (aX.dS.length*18<=2^46)<|some<|au.mk aX.dH aX.ve aX.oz aX.dS z2
def G.iT (f:Nat)(aX:au):Option (au):=match f with
|0=>none
|n+1=>G.iT.L1 n aX 0 []
end
def G.qM (f:Nat):Option (List di):=match f with
|0=>none
|n+1=>some<|[[],[97,100,100],[114,101,109,111,118,101],[114,101,112,108,97,99,101],[109,111,118,101],[99,111,112,121],[116,101,115,116]]
def G.uN (f:Nat)(bZ:di):Option (au):=match f with
|0=>none
|n+1=>some<|au.mk 2 0 bZ [] []
def G.oJ.L1 (f:Nat)(kF:List di)(bK:Int)(z2:List au):Option (au):=match f with
|0=>none
|n+1=>cond (decide<|bK<(kF.length:Int)) (chk (0<=bK/\bK<(kF.length:Int))<|(G.uN n<|kF.getD bK.toNat default).bind λv3=>chk ((z2.length+1)*86<=2^46)<|G.oJ.L1 n kF (af .i64<|bK+1)<|z2++[v3])<|some<|au.mk 3 0 [] [] z2
def G.oJ (f:Nat)(kF:List di):Option (au):=match f with
|0=>none
|n+1=>G.oJ.L1 n kF 0 []
def G.nY (f:Nat)(yU:o6):Option (au):=match f with
|0=>none
|n+1=>(G.oJ n yU.vg).bind λv1=>(G.qM n).bind λv2=>chk (0<=yU.dH/\yU.dH<(v2.length:Int))<|(G.uN n<|v2.getD yU.dH.toNat default).bind λv3=>(G.oJ n yU.uF).bind λv4=>(G.iT n yU.Value).bind λv5=>some<|au.mk 4 0 [] [[102,114,111,109],[111,112],[112,97,116,104],[118,97,108,117,101]] [v1,v3,v4,v5]
def G.tY (f:Nat):Option (List di):=match f with
|0=>none
|n+1=>some<|[[],[103,101,116],[112,117,116],[100,101,108,101,116,101],[112,97,116,99,104],[109,101,114,103,101]]
def G.jo.L1 (f:Nat)(jR:cZ)(yH:di)(bK:Int):Option (di):=match f with
|0=>none
|n+1=>cond (decide<|bK<(jR.vZ.length:Int)) (chk (0<=bK/\bK<(jR.vZ.length:Int))<|(G.nY n<|o6.mk ((jR.vZ.getD bK.toNat default).dH) ((jR.vZ.getD bK.toNat default).uF) ((jR.vZ.getD bK.toNat default).vg)<|(jR.vZ.getD bK.toNat default).Value).bind λv8=>(G.gu n v8).bind λv9=>chk (yH.length+v9.length<=maxLen)<|chk ((yH.length+v9.length)+1<=maxLen)<|G.jo.L1 n jR ((yH++v9)++[59])<|af .i64<|bK+1)<|some yH
def G.jo (f:Nat)(jR:cZ):Option (di):=match f with
|0=>none
|n+1=>(G.tY n).bind λv1=>chk (0<=jR.gZ/\jR.gZ<(v1.length:Int))<|chk ((v1.getD jR.gZ.toNat default).length+1<=maxLen)<|chk (((v1.getD jR.gZ.toNat default).length+1)+jR.rW.length<=maxLen)<|chk ((((v1.getD jR.gZ.toNat default).length+1)+jR.rW.length)+1<=maxLen)<|(G.fG n jR.xZ).bind λv2=>chk (((((v1.getD jR.gZ.toNat default).length+1)+jR.rW.length)+1)+v2.length<=maxLen)<|chk ((((((v1.getD jR.gZ.toNat default).length+1)+jR.rW.length)+1)+v2.length)+1<=maxLen)<|(G.fG n jR.tu).bind λv3=>chk (((((((v1.getD jR.gZ.toNat default).length+1)+jR.rW.length)+1)+v2.length)+1)+v3.length<=maxLen)<|chk ((((((((v1.getD jR.gZ.toNat default).length+1)+jR.rW.length)+1)+v2.length)+1)+v3.length)+1<=maxLen)<|cond (jR.gZ==4) (G.jo.L1 n jR ((((((((v1.getD jR.gZ.toNat default)++[32])++jR.rW)++[32])++v2)++[32])++v3)++[32]) 0)<|(G.gu n jR.Body).bind λv10=>chk (((((((((v1.getD jR.gZ.toNat default).length+1)+jR.rW.length)+1)+v2.length)+1)+v3.length)+1)+v10.length<=maxLen)<|some<|(((((((((v1.getD jR.gZ.toNat default)++[32])++jR.rW)++[32])++v2)++[32])++v3)++[32])++v10)
mutual
def G.lT.L1 (f:Nat)(aX:au)(Fq:Int)(bK:Int):Option (Int):=match f with
|0=>none
|n+1=>cond (decide<|bK<(aX.bC.length:Int)) (chk (0<=bK/\bK<(aX.bC.length:Int))<|(G.lT n<|aX.bC.getD bK.toNat default).bind λv3=>G.lT.L1 n aX (af .i64<|Fq+v3)<|af .i64<|bK+1)<|some Fq
def G.lT (f:Nat)(aX:au):Option (Int):=match f with
|0=>none
|n+1=>G.lT.L1 n aX 1 0
end
def G.iV.L1 (f:Nat)(bZ:di)(bK:Int):Option (Bool):=match f with
|0=>none
|n+1=>cond (decide<|bK<(bZ.length:Int)) (chk (0<=bK/\bK<(bZ.length:Int))<|(G.gK n (af .i64<|((bZ.getD bK.toNat 0).toNat:Int)) 32 126).bind λv3=>cond v3 (G.iV.L1 n bZ<|af .i64<|bK+1)<|some false)<|some<|(decide<|(bZ.length:Int)<=12)
def G.iV (f:Nat)(bZ:di):Option (Bool):=match f with
|0=>none
|n+1=>G.iV.L1 n bZ 0
def G.mQ.L1 (f:Nat)(bP:List di)(bK:Int):Option (Bool):=match f with
|0=>none
|n+1=>cond (decide<|bK<(bP.length:Int)) (chk (0<=bK/\bK<(bP.length:Int))<|(G.iV n<|bP.getD bK.toNat default).bind λv3=>cond v3 (cond (decide<|0<bK) (chk (0<=bK/\bK<(bP.length:Int))<|chk (0<=(af .i64<|bK-1)/\(af .i64<|bK-1)<(bP.length:Int))<|cond (jV (bP.getD bK.toNat default)<|bP.getD (af .i64<|bK-1).toNat default) (some false)<|cond ((bP.getD bK.toNat default)==(bP.getD (af .i64<|bK-1).toNat default)) (some false)<|G.mQ.L1 n bP<|af .i64<|bK+1)<|G.mQ.L1 n bP<|af .i64<|bK+1)<|some false)<|some true
def G.mQ (f:Nat)(bP:List di):Option (Bool):=match f with
|0=>none
|n+1=>G.mQ.L1 n bP 0
mutual
def G.o7.L1 (f:Nat)(aX:au)(iq:Int)(bK:Int):Option (Bool):=match f with
|0=>none
|n+1=>cond (decide<|bK<(aX.bC.length:Int)) (chk (0<=bK/\bK<(aX.bC.length:Int))<|(G.ji n (aX.bC.getD bK.toNat default)<|af .i64<|iq-1).bind λv3=>cond v3 (G.o7.L1 n aX iq<|af .i64<|bK+1)<|some false)<|some true
def G.o7 (f:Nat)(aX:au)(iq:Int):Option (Bool):=match f with
|0=>none
|n+1=>G.o7.L1 n aX iq 0
def G.ji.K1 (f:Nat)(aX:au)(iq:Int):Option (Bool):=match f with
|0=>none
|n+1=>cond (aX.dH==1) ((G.gK n aX.ve (-999999) 999999).bind λv1=>some v1)<|cond (aX.dH==2) ((G.iV n aX.oz).bind λv2=>some v2)<|cond (aX.dH==3) ((G.o7 n aX iq).bind λv3=>some v3)<|cond (aX.dH==4) (cond ((aX.dS.length:Int)==(aX.bC.length:Int)) ((G.mQ n aX.dS).bind λv4=>cond v4 ((G.o7 n aX iq).bind λv5=>some v5)<|some false)<|some false)<|some<|aX.dH==0
def G.ji (f:Nat)(aX:au)(iq:Int):Option (Bool):=match f with
|0=>none
|n+1=>cond (iq==0) (some false)<|cond (decide<|6<(aX.bC.length:Int)) (some false)<|cond (aX.dH != 1) (cond (aX.ve != 0) (some false)<|cond (aX.dH != 2) (cond (aX.oz==[]) (cond (aX.dH != 4) (cond (decide<|0<(aX.dS.length:Int)) (some false)<|cond (decide<|aX.dH<3) (cond (decide<|0<(aX.bC.length:Int)) (some false)<|G.ji.K1 n aX iq)<|G.ji.K1 n aX iq)<|cond (decide<|aX.dH<3) (cond (decide<|0<(aX.bC.length:Int)) (some false)<|G.ji.K1 n aX iq)<|G.ji.K1 n aX iq)<|some false)<|cond (aX.dH != 4) (cond (decide<|0<(aX.dS.length:Int)) (some false)<|cond (decide<|aX.dH<3) (cond (decide<|0<(aX.bC.length:Int)) (some false)<|G.ji.K1 n aX iq)<|G.ji.K1 n aX iq)<|cond (decide<|aX.dH<3) (cond (decide<|0<(aX.bC.length:Int)) (some false)<|G.ji.K1 n aX iq)<|G.ji.K1 n aX iq)<|cond (aX.dH != 2) (cond (aX.oz==[]) (cond (aX.dH != 4) (cond (decide<|0<(aX.dS.length:Int)) (some false)<|cond (decide<|aX.dH<3) (cond (decide<|0<(aX.bC.length:Int)) (some false)<|G.ji.K1 n aX iq)<|G.ji.K1 n aX iq)<|cond (decide<|aX.dH<3) (cond (decide<|0<(aX.bC.length:Int)) (some false)<|G.ji.K1 n aX iq)<|G.ji.K1 n aX iq)<|some false)<|cond (aX.dH != 4) (cond (decide<|0<(aX.dS.length:Int)) (some false)<|cond (decide<|aX.dH<3) (cond (decide<|0<(aX.bC.length:Int)) (some false)<|G.ji.K1 n aX iq)<|G.ji.K1 n aX iq)<|cond (decide<|aX.dH<3) (cond (decide<|0<(aX.bC.length:Int)) (some false)<|G.ji.K1 n aX iq)<|G.ji.K1 n aX iq
end
def G.iU (f:Nat)(aX:au):Option (Bool):=match f with
|0=>none
|n+1=>(G.ji n aX 5).bind λv1=>cond v1 ((G.lT n aX).bind λv2=>some<|(decide<|v2<=40))<|some false
def G.jr.L1 (f:Nat)(bZ:di)(bK:Int):Option (Bool):=match f with
|0=>none
|n+1=>cond (decide<|bK<(bZ.length:Int)) (chk (0<=bK/\bK<(bZ.length:Int))<|(G.gK n (af .i64<|((bZ.getD bK.toNat 0).toNat:Int)) 97 122).bind λv5=>cond v5 (G.jr.L1 n bZ<|af .i64<|bK+1)<|chk (0<=bK/\bK<(bZ.length:Int))<|(G.gK n (af .i64<|((bZ.getD bK.toNat 0).toNat:Int)) 48 57).bind λv6=>cond v6 (G.jr.L1 n bZ<|af .i64<|bK+1)<|some false)<|(G.gK n (bZ.length:Int) 1 8).bind λv7=>some v7
def G.jr (f:Nat)(bZ:di):Option (Bool):=match f with
|0=>none
|n+1=>G.jr.L1 n bZ 0
def G.jE.L1 (f:Nat)(kF:List di)(bK:Int):Option (Bool):=match f with
|0=>none
|n+1=>cond (decide<|bK<(kF.length:Int)) (chk (0<=bK/\bK<(kF.length:Int))<|(G.iV n<|kF.getD bK.toNat default).bind λv3=>cond v3 (G.jE.L1 n kF<|af .i64<|bK+1)<|some false)<|some<|(decide<|(kF.length:Int)<=5)
def G.jE (f:Nat)(kF:List di):Option (Bool):=match f with
|0=>none
|n+1=>G.jE.L1 n kF 0
def G.oV (f:Nat)(yU:o6):Option (Bool):=match f with
|0=>none
|n+1=>(G.gK n yU.dH 1 6).bind λv1=>cond v1 ((G.jE n yU.uF).bind λv2=>cond v2 ((G.jE n yU.vg).bind λv3=>cond v3 ((G.iU n yU.Value).bind λv4=>some v4)<|some false)<|some false)<|some false
def G.jA.L1 (f:Nat)(bP:List o6)(bK:Int):Option (Bool):=match f with
|0=>none
|n+1=>cond (decide<|bK<(bP.length:Int)) (chk (0<=bK/\bK<(bP.length:Int))<|(G.oV n<|o6.mk ((bP.getD bK.toNat default).dH) ((bP.getD bK.toNat default).uF) ((bP.getD bK.toNat default).vg)<|(bP.getD bK.toNat default).Value).bind λv3=>cond v3 (G.jA.L1 n bP<|af .i64<|bK+1)<|some false)<|some<|(decide<|(bP.length:Int)<=12)
def G.jA (f:Nat)(bP:List o6):Option (Bool):=match f with
|0=>none
|n+1=>G.jA.L1 n bP 0
def G.kC (f:Nat)(jR:cZ):Option (Bool):=match f with
|0=>none
|n+1=>(G.gK n jR.gZ 1 5).bind λv1=>cond v1 ((G.jr n jR.rW).bind λv2=>cond v2 ((G.iG n jR.xZ).bind λv3=>cond v3 ((G.iG n jR.tu).bind λv4=>cond v4 ((G.iU n jR.Body).bind λv5=>cond v5 ((G.jA n jR.vZ).bind λv6=>some v6)<|some false)<|some false)<|some false)<|some false)<|some false
def G.dA.L2 (f:Nat)(jR:cZ)(bK:Int):Option (di):=match f with
|0=>none
|n+1=>cond (decide<|bK<(jR.vZ.length:Int)) (chk (0<=bK/\bK<(jR.vZ.length:Int))<|(G.nY n<|o6.mk ((jR.vZ.getD bK.toNat default).dH) ((jR.vZ.getD bK.toNat default).uF) ((jR.vZ.getD bK.toNat default).vg)<|(jR.vZ.getD bK.toNat default).Value).bind λv6=>(G.iU n v6).bind λv7=>cond v7 (G.dA.L2 n jR<|af .i64<|bK+1)<|some<|[])<|(G.jo n jR).bind λv8=>some v8
def G.dA.K1 (f:Nat)(jR:cZ):Option (di):=match f with
|0=>none
|n+1=>G.dA.L2 n jR 0
def G.dA (f:Nat)(jR:cZ):Option (di):=match f with
|0=>none
|n+1=>(G.kC n jR).bind λv9=>cond v9 (cond (jR.Body.dH != 0) (cond (jR.gZ != 2) (cond (jR.gZ != 5) (some<|[])<|cond (decide<|0<(jR.vZ.length:Int)) (cond (jR.gZ != 4) (some<|[])<|G.dA.K1 n jR)<|G.dA.K1 n jR)<|cond (decide<|0<(jR.vZ.length:Int)) (cond (jR.gZ != 4) (some<|[])<|G.dA.K1 n jR)<|G.dA.K1 n jR)<|cond (decide<|0<(jR.vZ.length:Int)) (cond (jR.gZ != 4) (some<|[])<|G.dA.K1 n jR)<|G.dA.K1 n jR)<|some<|[]
def G.kY (f:Nat)(kR:Bool):Option (Int):=match f with
|0=>none
|n+1=>cond kR (some 1)<|some 0
def G.oH (f:Nat)(iF:Int)(kR:Int):Option (Int):=match f with
|0=>none
|n+1=>(G.kY n<|decide<|kR<iF).bind λv1=>(G.kY n<|decide<|iF<kR).bind λv2=>some<|(af .i64<|v1-v2)
def G.mV (f:Nat)(iF:di)(kR:di):Option (Int):=match f with
|0=>none
|n+1=>cond (jV iF kR) ((G.kY n false).bind λv1=>(G.kY n true).bind λv2=>some<|(af .i64<|v1-v2))<|cond (iF==kR) ((G.kY n false).bind λv3=>(G.kY n false).bind λv4=>some<|(af .i64<|v3-v4))<|(G.kY n true).bind λv5=>(G.kY n false).bind λv6=>some<|(af .i64<|v5-v6)
mutual
def G.iM.L1 (f:Nat)(iF:au)(kR:au)(bK:Int):Option (Int):=match f with
|0=>none
|n+1=>cond (decide<|bK<(iF.bC.length:Int)) (cond (decide<|bK<(kR.bC.length:Int)) (cond (iF.dH==4) (chk (0<=bK/\bK<(iF.dS.length:Int))<|chk (0<=bK/\bK<(kR.dS.length:Int))<|cond ((iF.dS.getD bK.toNat default)==(kR.dS.getD bK.toNat default)) (chk (0<=bK/\bK<(iF.bC.length:Int))<|chk (0<=bK/\bK<(kR.bC.length:Int))<|(G.iM n (iF.bC.getD bK.toNat default)<|kR.bC.getD bK.toNat default).bind λv9=>cond (v9 != 0) (some v9)<|G.iM.L1 n iF kR<|af .i64<|bK+1)<|chk (0<=bK/\bK<(iF.dS.length:Int))<|chk (0<=bK/\bK<(kR.dS.length:Int))<|(G.mV n (iF.dS.getD bK.toNat default)<|kR.dS.getD bK.toNat default).bind λv10=>some v10)<|chk (0<=bK/\bK<(iF.bC.length:Int))<|chk (0<=bK/\bK<(kR.bC.length:Int))<|(G.iM n (iF.bC.getD bK.toNat default)<|kR.bC.getD bK.toNat default).bind λv11=>cond (v11 != 0) (some v11)<|G.iM.L1 n iF kR<|af .i64<|bK+1)<|(G.oH n (iF.bC.length:Int) (kR.bC.length:Int)).bind λv12=>some v12)<|(G.oH n (iF.bC.length:Int) (kR.bC.length:Int)).bind λv13=>some v13
def G.iM (f:Nat)(iF:au)(kR:au):Option (Int):=match f with
|0=>none
|n+1=>cond (iF.dH != kR.dH) ((G.oH n iF.dH kR.dH).bind λv1=>some v1)<|cond (iF.ve != kR.ve) ((G.oH n iF.ve kR.ve).bind λv2=>some v2)<|cond (iF.oz==kR.oz) (G.iM.L1 n iF kR 0)<|(G.mV n iF.oz kR.oz).bind λv14=>some v14
end
def G.pq.L1 (f:Nat)(bZ:tV)(bK:Int):Option (Bool):=match f with
|0=>none
|n+1=>cond (decide<|bK<(bZ.kM.length:Int)) (chk (0<=bK/\bK<(bZ.kM.length:Int))<|(G.jr n<|(bZ.kM.getD bK.toNat default).rW).bind λv7=>cond v7 ((G.iU n<|(bZ.kM.getD bK.toNat default).Ed).bind λv8=>cond v8 ((G.gK n ((bZ.kM.getD bK.toNat default).xy) 1 bZ.xJ).bind λv9=>cond v9 (cond (decide<|0<bK) (chk (0<=(af .i64<|bK-1)/\(af .i64<|bK-1)<(bZ.kM.length:Int))<|cond (jV ((bZ.kM.getD bK.toNat default).rW)<|(bZ.kM.getD (af .i64<|bK-1).toNat default).rW) (some false)<|cond ((bZ.kM.getD bK.toNat default).rW==(bZ.kM.getD (af .i64<|bK-1).toNat default).rW) (some false)<|G.pq.L1 n bZ<|af .i64<|bK+1)<|G.pq.L1 n bZ<|af .i64<|bK+1)<|some false)<|some false)<|some false)<|cond (decide<|(bZ.kM.length:Int)<=10) ((G.gK n bZ.xJ 0 999).bind λv10=>some v10)<|some false
def G.pq (f:Nat)(bZ:tV):Option (Bool):=match f with
|0=>none
|n+1=>G.pq.L1 n bZ 0
def G.lM.L1 (f:Nat)(aX:au)(bK:Int)(z2:List di):Option (List di):=match f with
|0=>none
|n+1=>cond (decide<|bK<(aX.bC.length:Int)) (chk (0<=bK/\bK<(aX.bC.length:Int))<|chk ((z2.length+1)*18<=2^46)<|G.lM.L1 n aX (af .i64<|bK+1)<|z2++[(aX.bC.getD bK.toNat default).oz])<|some z2
def G.lM (f:Nat)(aX:au):Option (List di):=match f with
|0=>none
|n+1=>G.lM.L1 n aX 0 []
def G.vM (f:Nat)(iF:au)(kR:au):Option (Bool):=match f with
|0=>none
|n+1=>(G.iM n iF kR).bind λv1=>some<|v1==0
def G.kK.L1 (f:Nat)(aX:au)(v2:List di)(Pz:Int)(bK:Int):Option (o6×Bool):=match f with
|0=>none
|n+1=>cond (decide<|bK<(v2.length:Int)) (chk (0<=1/\1<(aX.bC.length:Int))<|chk (0<=bK/\bK<(v2.length:Int))<|cond ((aX.bC.getD 1 default).oz==(v2.getD bK.toNat default)) (G.kK.L1 n aX v2 bK<|af .i64<|bK+1)<|G.kK.L1 n aX v2 Pz<|af .i64<|bK+1)<|chk (0<=2/\2<(aX.bC.length:Int))<|(G.lM n<|aX.bC.getD 2 default).bind λv3=>chk (0<=0/\0<(aX.bC.length:Int))<|(G.lM n<|aX.bC.getD 0 default).bind λv4=>chk (0<=3/\3<(aX.bC.length:Int))<|(G.iT n<|aX.bC.getD 3 default).bind λv5=>(G.oV n<|o6.mk Pz v3 v4 v5).bind λv6=>cond v6 ((G.nY n<|o6.mk Pz v3 v4 v5).bind λv7=>(G.vM n v7 aX).bind λv8=>cond v8 (some ((o6.mk Pz v3 v4 v5),true))<|some ((o6.mk 0 [] []<|au.mk 0 0 [] [] []),false))<|some ((o6.mk 0 [] []<|au.mk 0 0 [] [] []),false)
def G.kK (f:Nat)(aX:au):Option (o6×Bool):=match f with
|0=>none
|n+1=>(G.iU n aX).bind λv1=>cond v1 (cond (aX.dH != 4) (some ((o6.mk 0 [] []<|au.mk 0 0 [] [] []),false))<|cond ((aX.bC.length:Int) != 4) (some ((o6.mk 0 [] []<|au.mk 0 0 [] [] []),false))<|(G.qM n).bind λv2=>G.kK.L1 n aX v2 0 1)<|some ((o6.mk 0 [] []<|au.mk 0 0 [] [] []),false)
def G.gp (f:Nat)(jf:dI):Option (Int×dI):=match f with
|0=>none
|n+1=>cond (decide<|(jf.text.length:Int)<=jf.at_) (some (0,jf))<|chk (0<=jf.at_/\jf.at_<(jf.text.length:Int))<|some (((jf.text.getD jf.at_.toNat 0).toNat:Int),jf)
def G.jK (f:Nat)(jf:dI)(Gl:Int):Option (dI):=match f with
|0=>none
|n+1=>(G.gp n jf).bind λv1=>cond (v1.1 != Gl) (some<|dI.mk v1.2.text v1.2.at_ true)<|some<|(dI.mk v1.2.text (af .i64<|v1.2.at_+1) v1.2.bad)
mutual
def G.eX.K4 (f:Nat)(z2:List Int)(y13:di)(y14:Int)(y15:Bool):Option (di×dI):=match f with
|0=>none
|n+1=>(G.gp n<|dI.mk y13 y14 y15).bind λv15=>cond (v15.1==0) (some ([],(dI.mk v15.2.text v15.2.at_ true)))<|(G.gp n v15.2).bind λv16=>chk ((z2.length+1)*3<=2^46)<|G.eX.L3 n v16.2.text (af .i64<|v16.2.at_+1) v16.2.bad<|z2++[v16.1]
def G.eX.L3 (f:Nat)(y10:di)(y11:Int)(y12:Bool)(z2:List Int):Option (di×dI):=match f with
|0=>none
|n+1=>cond y12 ((G.jK n (dI.mk y10 y11 true) 34).bind λv12=>chk (z2.length<=maxLen)<|some ((Ag z2),v12))<|(G.gp n<|dI.mk y10 y11 false).bind λv13=>cond (v13.1 != 34) ((G.gp n v13.2).bind λv17=>cond (v17.1==92) (G.eX.K4 n z2 v17.2.text (af .i64<|v17.2.at_+1) v17.2.bad)<|G.eX.K4 n z2 v17.2.text v17.2.at_ v17.2.bad)<|(G.jK n v13.2 34).bind λv18=>chk (z2.length<=maxLen)<|some ((Ag z2),v18)
end
def G.eX (f:Nat)(jf:dI):Option (di×dI):=match f with
|0=>none
|n+1=>(G.jK n jf 34).bind λv1=>G.eX.L3 n v1.text v1.at_ v1.bad []
def G.eY.L2 (f:Nat)(Nj:Int)(ajB:Int)(Fq:Int)(y7:di)(y8:Int)(y9:Bool):Option (Int×dI):=match f with
|0=>none
|n+1=>cond (decide<|Fq<7) ((G.gp n<|dI.mk y7 y8 y9).bind λv8=>(G.gK n (af .i64<|v8.1) 48 57).bind λv9=>cond v9 ((G.gp n v8.2).bind λv10=>G.eY.L2 n Nj (af .i64<|(af .i64<|(af .i64<|10*ajB)+(af .i64<|v10.1))-48) (af .i64<|Fq+1) v10.2.text (af .i64<|v10.2.at_+1) v10.2.bad)<|some ((af .i64<|Nj*ajB),v8.2))<|some ((af .i64<|Nj*ajB),(dI.mk y7 y8 y9))
def G.eY.K1 (f:Nat)(Nj:Int)(y1:di)(y2:Int)(y3:Bool):Option (Int×dI):=match f with
|0=>none
|n+1=>G.eY.L2 n Nj 0 0 y1 y2 y3
def G.eY (f:Nat)(jf:dI):Option (Int×dI):=match f with
|0=>none
|n+1=>(G.gp n jf).bind λv11=>cond (v11.1==45) (G.eY.K1 n (-1) v11.2.text (af .i64<|v11.2.at_+1) v11.2.bad)<|G.eY.K1 n 1 v11.2.text v11.2.at_ v11.2.bad
mutual
def G.bT.K7 (f:Nat)(aX:au)(xM:Int)(iq:Int)(z6:List au)(y22:di)(y23:Int)(y24:Bool)(z7:List di):Option (au×dI):=match f with
|0=>none
|n+1=>(G.jJ n (dI.mk y22 y23 y24)<|af .i64<|iq-1).bind λv22=>chk ((z6.length+1)*86<=2^46)<|G.bT.L5 n aX xM iq v22.2.text v22.2.at_ v22.2.bad z7<|z6++[v22.1]
def G.bT.K6 (f:Nat)(aX:au)(xM:Int)(iq:Int)(z5:List di)(z6:List au)(y19:di)(y20:Int)(y21:Bool):Option (au×dI):=match f with
|0=>none
|n+1=>cond (aX.dH==4) ((G.eX n<|dI.mk y19 y20 y21).bind λv23=>chk ((z5.length+1)*18<=2^46)<|(G.jK n v23.2 58).bind λv24=>G.bT.K7 n aX xM iq z6 v24.text v24.at_ v24.bad<|z5++[v23.1])<|G.bT.K7 n aX xM iq z6 y19 y20 y21 z5
def G.bT.L5 (f:Nat)(aX:au)(xM:Int)(iq:Int)(y16:di)(y17:Int)(y18:Bool)(z5:List di)(z6:List au):Option (au×dI):=match f with
|0=>none
|n+1=>cond y18 ((G.jK n (dI.mk y16 y17 true) xM).bind λv17=>some ((au.mk aX.dH 0 [] z5 z6),v17))<|(G.gp n<|dI.mk y16 y17 false).bind λv18=>cond (v18.1 != xM) (cond (decide<|0<(z6.length:Int)) ((G.jK n v18.2 44).bind λv25=>G.bT.K6 n aX xM iq z5 z6 v25.text v25.at_ v25.bad)<|G.bT.K6 n aX xM iq z5 z6 v18.2.text v18.2.at_ v18.2.bad)<|(G.jK n v18.2 xM).bind λv26=>some ((au.mk aX.dH 0 [] z5 z6),v26)
def G.bT (f:Nat)(jf:dI)(aX:au)(xM:Int)(iq:Int):Option (au×dI):=match f with
|0=>none
|n+1=>G.bT.L5 n aX xM iq jf.text (af .i64<|jf.at_+1) jf.bad [] []
def G.jJ (f:Nat)(jf:dI)(iq:Int):Option (au×dI):=match f with
|0=>none
|n+1=>cond (iq==0) (some ((au.mk 0 0 [] [] []),(dI.mk jf.text jf.at_ true)))<|cond jf.bad (some ((au.mk 0 0 [] [] []),(dI.mk jf.text jf.at_ true)))<|(G.gp n<|dI.mk jf.text jf.at_ false).bind λv1=>cond (v1.1==34) ((G.eX n v1.2).bind λv2=>some ((au.mk 2 0 v2.1 [] []),v2.2))<|(G.gp n v1.2).bind λv3=>cond (v3.1==91) ((G.bT n v3.2 (au.mk 3 0 [] [] []) 93 iq).bind λv4=>some (v4.1,v4.2))<|(G.gp n v3.2).bind λv5=>cond (v5.1==123) ((G.bT n v5.2 (au.mk 4 0 [] [] []) 125 iq).bind λv6=>some (v6.1,v6.2))<|(G.gp n v5.2).bind λv7=>cond (v7.1==110) (some ((au.mk 0 0 [] [] []),(dI.mk v7.2.text (if(v7.2.text.length:Int)<(af .i64<|v7.2.at_+4)then(v7.2.text.length:Int)else(af .i64<|v7.2.at_+4)) v7.2.bad)))<|(G.gp n v7.2).bind λv8=>cond (v8.1==45) ((G.eY n v8.2).bind λv9=>some ((au.mk 1 v9.1 [] [] []),v9.2))<|(G.gp n v8.2).bind λv10=>(G.gK n (af .i64<|v10.1) 48 57).bind λv11=>cond v11 ((G.eY n v10.2).bind λv12=>some ((au.mk 1 v12.1 [] [] []),v12.2))<|some ((au.mk 0 0 [] [] []),(dI.mk v10.2.text v10.2.at_ true))
end
def G.oQ (f:Nat)(bZ:di):Option (au×Bool):=match f with
|0=>none
|n+1=>cond (decide<|2000<(bZ.length:Int)) (some ((au.mk 0 0 [] [] []),false))<|(G.jJ n (dI.mk bZ 0 false) 5).bind λv1=>cond v1.2.bad (some ((au.mk 0 0 [] [] []),false))<|(G.iU n v1.1).bind λv2=>cond v2 ((G.gu n v1.1).bind λv3=>cond (v3==bZ) (some (v1.1,true))<|some ((au.mk 0 0 [] [] []),false))<|some ((au.mk 0 0 [] [] []),false)
def G.jd.L1 (f:Nat)(bZ:di)(xK:Int)(z2:List di):Option (List di×Bool):=match f with
|0=>none
|n+1=>cond (decide<|xK<(bZ.length:Int)) (cond (decide<|(z2.length:Int)<=4) (cond (decide<|0<xK) (chk (0<=xK/\xK<(bZ.length:Int))<|cond (((bZ.getD xK.toNat 0).toNat:Int)==44) (G.jd.L1 n bZ (af .i64<|xK+1) z2)<|chk (0<=xK/\xK<(bZ.length:Int))<|cond (((bZ.getD xK.toNat 0).toNat:Int)==42) (chk ((z2.length+1)*18<=2^46)<|G.jd.L1 n bZ (af .i64<|xK+1)<|z2++[[42]])<|cond (decide<|(af .i64<|xK+6)<=(bZ.length:Int)) (chk (0<=(af .i64<|xK+1)/\(af .i64<|xK+1)<=(af .i64<|xK+5)/\(af .i64<|xK+5)<=(bZ.length:Int))<|chk ((z2.length+1)*18<=2^46)<|G.jd.L1 n bZ (af .i64<|xK+6)<|z2++[((bZ.take<|(af .i64<|xK+5).toNat).drop<|(af .i64<|xK+1).toNat)])<|some ([],false))<|chk (0<=xK/\xK<(bZ.length:Int))<|cond (((bZ.getD xK.toNat 0).toNat:Int)==42) (chk ((z2.length+1)*18<=2^46)<|G.jd.L1 n bZ (af .i64<|xK+1)<|z2++[[42]])<|cond (decide<|(af .i64<|xK+6)<=(bZ.length:Int)) (chk (0<=(af .i64<|xK+1)/\(af .i64<|xK+1)<=(af .i64<|xK+5)/\(af .i64<|xK+5)<=(bZ.length:Int))<|chk ((z2.length+1)*18<=2^46)<|G.jd.L1 n bZ (af .i64<|xK+6)<|z2++[((bZ.take<|(af .i64<|xK+5).toNat).drop<|(af .i64<|xK+1).toNat)])<|some ([],false))<|(G.fG n z2).bind λv1=>cond (v1==bZ) ((G.iG n z2).bind λv2=>cond v2 (some (z2,true))<|some ([],false))<|some ([],false))<|(G.fG n z2).bind λv3=>cond (v3==bZ) ((G.iG n z2).bind λv4=>cond v4 (some (z2,true))<|some ([],false))<|some ([],false)
def G.jd (f:Nat)(bZ:di):Option (List di×Bool):=match f with
|0=>none
|n+1=>G.jd.L1 n bZ 0 []
def G.oU.L1 (f:Nat)(bZ:di)(bK:Int):Option (di×di):=match f with
|0=>none
|n+1=>cond (decide<|bK<(bZ.length:Int)) (chk (0<=bK/\bK<(bZ.length:Int))<|cond (((bZ.getD bK.toNat 0).toNat:Int)==32) (chk (0<=0/\0<=bK/\bK<=(bZ.length:Int))<|chk (0<=(af .i64<|bK+1)/\(af .i64<|bK+1)<=(bZ.length:Int)/\(bZ.length:Int)<=(bZ.length:Int))<|some ((bZ.take bK.toNat),(bZ.drop<|(af .i64<|bK+1).toNat)))<|G.oU.L1 n bZ<|af .i64<|bK+1)<|some (bZ,[])
def G.oU (f:Nat)(bZ:di):Option (di×di):=match f with
|0=>none
|n+1=>G.oU.L1 n bZ 0
def G.lC.L1 (f:Nat)(adm:di)(z2:List o6):Option (List o6×Bool):=match f with
|0=>none
|n+1=>cond (decide<|0<(adm.length:Int)) (cond (decide<|(z2.length:Int)<=12) ((G.jJ n (dI.mk adm 0 false) 5).bind λv7=>(G.kK n v7.1).bind λv8=>cond v7.2.bad (some ([],false))<|cond v8.2 ((G.gp n<|dI.mk v7.2.text v7.2.at_ false).bind λv9=>cond (v9.1 != 59) (some ([],false))<|chk ((z2.length+1)*145<=2^46)<|chk (0<=(af .i64<|v9.2.at_+1)/\(af .i64<|v9.2.at_+1)<=(adm.length:Int)/\(adm.length:Int)<=(adm.length:Int))<|G.lC.L1 n (adm.drop<|(af .i64<|v9.2.at_+1).toNat)<|z2++[v8.1])<|some ([],false))<|some (z2,true))<|some (z2,true)
def G.lC (f:Nat)(bZ:di):Option (List o6×Bool):=match f with
|0=>none
|n+1=>G.lC.L1 n bZ []
def G.gm.K2 (f:Nat)(bZ:di)(v2:di×di)(y2:Int)(v6:List di×Bool)(v7:List di×Bool)(aga:Bool)(y3:Int)(y4:Int)(y5:di)(y6:List di)(y7:List au)(y8:List o6):Option (cZ×Bool):=match f with
|0=>none
|n+1=>cond v6.2 (cond v7.2 (cond aga ((G.dA n<|cZ.mk y2 v2.1 v6.1 v7.1 (au.mk y3 y4 y5 y6 y7) y8).bind λv10=>cond (v10==bZ) (cond (bZ==[]) (some ((cZ.mk 0 [] [] [] (au.mk 0 0 [] [] []) []),false))<|some ((cZ.mk y2 v2.1 v6.1 v7.1 (au.mk y3 y4 y5 y6 y7) y8),true))<|some ((cZ.mk 0 [] [] [] (au.mk 0 0 [] [] []) []),false))<|some ((cZ.mk 0 [] [] [] (au.mk 0 0 [] [] []) []),false))<|some ((cZ.mk 0 [] [] [] (au.mk 0 0 [] [] []) []),false))<|some ((cZ.mk 0 [] [] [] (au.mk 0 0 [] [] []) []),false)
def G.gm.L1 (f:Nat)(bZ:di)(v1:di×di)(v2:di×di)(v3:di×di)(v4:di×di)(v5:List di)(bK:Int)(y2:Int):Option (cZ×Bool):=match f with
|0=>none
|n+1=>cond (decide<|bK<(v5.length:Int)) (chk (0<=bK/\bK<(v5.length:Int))<|cond ((v5.getD bK.toNat default)==v1.1) (G.gm.L1 n bZ v1 v2 v3 v4 v5 (af .i64<|bK+1) bK)<|G.gm.L1 n bZ v1 v2 v3 v4 v5 (af .i64<|bK+1) y2)<|(G.jd n v3.1).bind λv6=>(G.jd n v4.1).bind λv7=>cond (y2==4) ((G.lC n v4.2).bind λv11=>G.gm.K2 n bZ v2 y2 v6 v7 v11.2 0 0 [] [] [] v11.1)<|(G.oQ n v4.2).bind λv12=>G.gm.K2 n bZ v2 y2 v6 v7 v12.2 v12.1.dH v12.1.ve v12.1.oz v12.1.dS v12.1.bC []
def G.gm (f:Nat)(bZ:di):Option (cZ×Bool):=match f with
|0=>none
|n+1=>cond (decide<|2000<(bZ.length:Int)) (some ((cZ.mk 0 [] [] [] (au.mk 0 0 [] [] []) []),false))<|(G.oU n bZ).bind λv1=>(G.oU n v1.2).bind λv2=>(G.oU n v2.2).bind λv3=>(G.oU n v3.2).bind λv4=>(G.tY n).bind λv5=>G.gm.L1 n bZ v1 v2 v3 v4 v5 1 0
section
theorem bn {a b:Prop}(x:a)(y:b):a/\b:=⟨x,y⟩
theorem ae0 {α β:Type}(f:α->β)(l:List α)(n:Nat):List.take n (List.map f l)=List.map f (List.take n l):=List.map_take.symm
theorem aeZ {α β:Type}(f:α->β)(l:List α)(n:Nat):List.drop n (List.map f l)=List.map f (List.drop n l):=List.map_drop.symm
theorem kq1 {i:Int}{m:Nat}[inst:Decidable (0<=i/\i<(m:Int))]{α:Type}{k:Option α}{r:α}(h:chk (0<=i/\i<(m:Int)) k=some r):(0<=i/\i<(m:Int))/\i.toNat<m/\k=some r:=by obtain⟨h1,h2⟩:=zy.1 h;exact⟨h1,by omega,h2⟩
inductive Mk : Nat->Prop
 |mk (n:Nat):Mk n
theorem kq0 {m:Nat}[inst:Decidable ((0:Nat)<=0/\(0:Int)<(m:Int))]{α:Type}{k:Option α}{r:α}(h:chk ((0:Nat)<=0/\(0:Int)<(m:Int)) k=some r):(0:Int)<(m:Int)/\0<m/\k=some r:=by obtain⟨h1,h2⟩:=zy.1 h;exact⟨h1.2,by omega,h2⟩
theorem kqn {j m:Nat}[inst:Decidable ((0:Nat)<=OfNat.ofNat j/\(OfNat.ofNat j:Int)<(m:Int))]{α:Type}{k:Option α}{r:α}(h:chk ((0:Nat)<=OfNat.ofNat j/\(OfNat.ofNat j:Int)<(m:Int)) k=some r):(OfNat.ofNat j:Int)<(m:Int)/\(OfNat.ofNat j:Nat)<m/\k=some r:=by obtain⟨h1,h2⟩:=zy.1 h;exact⟨h1.2,Int.ofNat_lt.1 h1.2,h2⟩
theorem kq {c:Prop}[Decidable c]{α:Type}{k:Option α}{r:α}(h:chk c k=some r):c/\k=some r:=zy.1 h
theorem bq {α β:Type}{x:Option α}{f:α->Option β}{r:β}(h:Option.bind x f=some r):∃a,x=some a/\f a=some r:=Option.bind_eq_some_iff.1 h
section
variable {P:Program} {Q:AQ} {st:iI}
theorem Zf {f:FuncId}{rX:List AV}{p:Bool}{d:Option Nat}{K:List Nat->List Nat->iI->Prop}{du:DU K}(k:sV P f rX p d st K du):sV P f rX p d st K du:=k
theorem aeE {a:AQ->iI->Prop}{d1:DU a}{d2:DU Q}(k:G8 a Q st d1 d2):G8 a Q st d1 d2:=k
theorem ah4 {a b:AQ->iI->Prop}{d1:DU a}{d2:DU b}{d3:DU Q}(k:Lu a b Q st d1 d2 d3):Lu a b Q st d1 d2 d3:=k
theorem akF {X:Type}{p:X->Prop}(k:∃x,p x):∃x,p x:=k
theorem ah6 {rs:List vT}{r:AV}(k:OT rs r st):OT rs r st:=k
theorem aeG {rs:List vT}{m:Nat}{post:AV->List Box->Prop}(k:Gi rs m post st):Gi rs m post st:=k
end
theorem sq {α:Type}{x r:α}(h:some x=some r):r=x:=(Option.some.inj h).symm
theorem cq {b:Bool}{α:Type}{x y:Option α}{r:α}(h:cond b x y=some r):(b=true/\x=some r)\/(b=false/\y=some r):=TA.1 h
def egD :=bn @adi (bn @af4 (bn @adh (bn @af6 (bn @af2 (bn @adg (bn @ZW (bn @adf (bn @af5 (bn @ade (bn @agS (bn @agR (bn @abq (bn @abp (bn @abr (bn @abn (bn @abm (bn @abo (bn @Yn (bn @Ym (bn @Yo (bn @agy (bn @agz (bn @agw (bn @agx (bn @ZZ (bn @X9 (bn @af8 (bn @adl (bn @aim (bn @aj1 (bn @aj0 (bn @aio (bn @agA (bn @adH (bn @abu (bn @adG (bn @Lh.eq_1 (bn @Lh.eq_2 (bn @CU.eq_1 (bn @CU.eq_2 (bn @st0.eq_1 (bn @BL.eq_1 (bn @BL.eq_2 (bn @qf.eq_1 (bn @qf.eq_2 (bn @mG.valid.eq_1 (bn @mG.valid.eq_2 (bn @dY.eq_1 (bn @alM (bn @alL (bn @g_v (bn @x_v (bn @GH (bn @Cc (bn @aja (bn @ahn (bn @ahm (bn @yQ.eq_1 (bn @yQ.eq_2 (bn @pV.eq_1 (bn @pV.eq_2 (bn @Xh.eq_1 (bn @Xh.eq_2 (bn @setB.eq_1 (bn @setB.eq_2 (bn @acH (bn @acI (bn @acY (bn @ZJ (bn @FR.ok.eq_1 (bn @OU.eq_1 (bn @OU.eq_2 (bn @OU.eq_3 (bn @AV.flat.eq_1 (bn @AV.flat.eq_2 (bn @AV.cells.eq_1 (bn @AV.cells.eq_2 (bn @AV.cells.eq_3 (bn @yw.eq_1 (bn @yw.eq_2 (bn @yw.eq_3 (bn @yw.eq_4 (bn @VA.eq_1 (bn @Qz.eq_1 (bn @Qz.eq_2 (bn @splice.eq_1 (bn @Box.arr.eq_1 (bn @Box.arr.eq_2 (bn @Box.arr.eq_3 (bn @dataOf.eq_1 (bn @dataOf.eq_2 (bn @dataOf.eq_3 (bn @dataOf.eq_4 (bn @IB.eq_1 (bn @IB.eq_2 (bn @bnd.eq_1 (bn @bnd.eq_2 (bn @OI.eq_1 (bn @OI.eq_2 (bn @aeS (bn @aeR (bn @Ip.eq_1 (bn @uI.eq_1 (bn @tH.eq_1 (bn @vSl.eq_1 (bn @BB.eq_1 (bn @BB.eq_2 (bn @BB.eq_3 (bn @Ep.eq_1 (bn @Ep.eq_2 (bn @Ep.eq_3 (bn @xC.eq_1 (bn @xC.eq_2 (bn @xC.eq_3 (bn @x9.eq_1 (bn @x9.eq_2 (bn @x9.eq_3 (bn @AV.owns.eq_1 (bn @AV.owns.eq_2 (bn @AV.owns.eq_3 (bn @nJ.eq_1 (bn @nJ.eq_2 (bn @nJ.eq_3 (bn @AC.vC.eq_1 (bn @AC.vC.eq_2 (bn @AC.vC.eq_3 (bn @AC.isLit.eq_1 (bn @AC.isLit.eq_2 (bn @AV.all.eq_1 (bn @AV.all.eq_2 (bn @AV.all.eq_3 (bn @Cell.isLit.eq_1 (bn @Cell.isLit.eq_2 (bn @List.mem_cons.{0} (bn @List.not_mem_nil.{0} (bn @or_false (bn @false_or (bn @or_true (bn @true_or (bn @forall_eq.{1} (bn @forall_eq_or_imp.{1} (bn @true_and (bn @and_true (bn @true_implies (bn @false_implies (bn @implies_true.{1} (bn @if_true.{1} (bn @if_false.{1} (bn @Bool.false_eq_true (bn @Bool.true_eq_false (bn @imp_self (bn @and_self (bn @cond_true.{1} (bn @cond_false.{1} (bn @List.map_cons.{0,0} (bn @List.map_nil.{0,0} (bn @List.take_succ_cons.{0} (bn @List.take_zero.{0} (bn @List.drop_succ_cons.{0} (bn @List.drop_zero.{0} (bn @List.take_nil.{0} (bn @List.drop_nil.{0} (bn @List.cons_append.{0} (bn @List.nil_append.{0} (bn @List.append_nil.{0} (bn @List.length_cons.{0} (bn @List.length_nil.{0} (bn @List.getElem?_cons_zero.{0} (bn @List.getElem?_cons_succ.{0} (bn @List.length_map.{0,0} (bn @List.length_replicate.{0} (bn @List.length_append.{0} (bn @List.map_append.{0,0} (bn @List.flatMap_cons.{0,0} (bn @List.flatMap_nil.{0,0} (bn @List.all_cons.{0} (bn @List.all_nil.{0} (bn @List.contains_cons.{0} (bn @List.contains_nil.{0} (bn @Bool.and_true (bn @Bool.or_false (bn @Bool.false_or (bn @Bool.true_or (bn @Bool.or_true (bn @Bool.and_self (bn @Bool.not_false (bn @Bool.not_true (bn @Bool.true_and (bn @Bool.false_and (bn @Bool.and_false (bn @Nat.zero_lt_succ (bn @Nat.zero_le (bn @Nat.zero_add (bn @Nat.le_refl (bn @Nat.min_self (bn @alF (bn @alE (bn @decide_true (bn @decide_false (bn @Wu.eq_1 (bn @Wu.eq_2 (bn @VM.eq_1 (bn @VM.eq_2 (bn @Su.eq_1 (bn @Su.eq_2 (bn @Su.eq_3 (bn @LQ.eq_1 (bn @LQ.eq_2 (bn @Hu.eq_1 (bn @Hu.eq_2 (bn @MB.eq_1 (bn @MB.eq_2 (bn @Vy.eq_1 (bn @CS.eq_1 (bn @CS.eq_2 (bn @CS.eq_3 (bn @cI.eq_1 (bn @cU.eq_1 (bn @cB.eq_1 (bn @cS.eq_1 (bn @cL.eq_1 (bn @cK.eq_1 (bn @au.gq (bn @o6.gq (bn @cZ.gq (bn @wJ.gq (bn @tV.gq (bn @zo.gq (bn @yD.gq (bn @bg.gq (bn @dI.gq (bn @wJ.Ku (bn @List.getD_cons_zero.{0} (bn @List.getD_cons_succ.{0} (bn @List.map_set.{0,0} (bn @List.length_set.{0} (bn @ab2 (bn @take_len (bn @JZ (bn @J4 (bn @aaU (bn @QG.eq_1 (bn @QG.eq_2 (bn @aeh (bn @FT.eq_1 (bn @FT.eq_2 (bn @YC (bn @zx (bn @WC (bn @WE (bn @Option.map_some.{0,0} (bn @Int.toNat_natCast (bn @Int.toNat_zero (bn @ae0 (bn @aeZ (bn @bne_self_eq_false.{0} (bn @Bool.bne_true (bn @Bool.bne_false (bn @List.drop_replicate.{0} (bn @Nat.sub_self (bn @FQ.eq_1 (bn @FQ.eq_2 (bn @FQ.eq_3 (bn @Option.toList_none.{0} (bn @Option.toList_some.{0} (bn @U8.eq_1 (bn @rZ.eq_1 (bn @rZ.eq_2 (bn @zC.eq_1 (bn @zC.eq_2 (bn @eq_self.{1} (bn @List.replicate_zero.{0} (bn @List.replicate_succ.{0} (bn @LZ.eq_1 (bn @LZ.eq_2 (bn @xU.eq_1 (bn @xU.eq_2 (bn @List.set_cons_zero.{0} (bn @List.set_cons_succ.{0} (bn @aiB (bn @BU.eq_1 (bn @BU.eq_2 (bn @CJ.eq_1 (bn @CJ.eq_2 (bn @CJ.eq_3 (bn @List.zip_cons_cons.{0,0} (bn @List.zip_nil_right.{0,0} (bn @List.zip_nil_left.{0,0} (bn @beq_self_eq_true.{0} @Nat.add_zero)))))))))))))))))))))))))))))))))))))))))))))))))))))))))))))))))))))))))))))))))))))))))))))))))))))))))))))))))))))))))))))))))))))))))))))))))))))))))))))))))))))))))))))))))))))))))))))))))))))))))))))))))))))))))))))))))))))))))))))))))))))))))))))))))))))))))))))))))))))))))))))))))
theorem egR : type_of% egD:=egD
def wkD :=bn @RV.eq_1 (bn @RV.eq_2 (bn @X7.eq_1 (bn @X7.eq_2 (bn @S9.eq_1 (bn @S9.eq_2 (bn @S9.eq_3 (bn @wkV.eq_1 (bn @wkV.eq_2 (bn @wkV.eq_3 (bn @wkV.eq_4 (bn @Lr.eq_1 (bn @Lr.eq_2 (bn @Lr.eq_3 (bn @Sj.eq_1 (bn @Sj.eq_2 (bn @yQ.eq_1 (bn @yQ.eq_2 (bn @pV.eq_1 (bn @pV.eq_2 (bn @true_and (bn @and_true (bn @implies_true.{1} (bn @List.mem_cons.{0} (bn @List.not_mem_nil.{0} (bn @or_false (bn @or_true (bn @true_or (bn @Box.arr.eq_1 (bn @Box.arr.eq_2 (bn @Box.arr.eq_3 (bn @Ip.eq_1 (bn @uI.eq_1 (bn @tH.eq_1 (bn @vSl.eq_1 (bn @not_false_eq_true (bn @false_or (bn @Option.some.injEq.{0} (bn @true_implies (bn @cI.eq_1 (bn @cU.eq_1 (bn @cB.eq_1 (bn @cS.eq_1 (bn @cL.eq_1 (bn @cK.eq_1 (bn @au.gq (bn @o6.gq (bn @cZ.gq (bn @wJ.gq (bn @tV.gq (bn @zo.gq (bn @yD.gq (bn @bg.gq (bn @dI.gq (bn @wJ.Ku (bn @List.map_append.{0,0} (bn @List.map_cons.{0,0} (bn @List.map_nil.{0,0} (bn @List.map_set.{0,0} (bn @List.map_take.{0,0} (bn @List.map_drop.{0,0} (bn @List.map_replicate.{0,0} (bn @List.length_append.{0} (bn @List.length_cons.{0} (bn @List.length_nil.{0} (bn @List.length_map.{0,0} (bn @List.length_set.{0} (bn @List.length_replicate.{0} (bn @Nat.zero_add (bn @Nat.add_zero (bn @List.nil_append.{0} (bn @List.cons_append.{0} (bn @List.append_nil.{0} (bn @take_len (bn @JZ (bn @J4 @and_self)))))))))))))))))))))))))))))))))))))))))))))))))))))))))))))))))))))))))))
theorem wkR : type_of% wkD:=wkD
def peD :=bn @OT.eq_1 (bn @Fg.eq_1 (bn @Fg.eq_2 (bn @vT.ok.eq_1 (bn @vT.ok.eq_2 (bn @vT.val.eq_1 (bn @vT.val.eq_2 (bn @SH.eq_1 (bn @SH.eq_2 (bn @yG.eq_1 (bn @yG.eq_2 (bn @partOf.eq_1 (bn @partOf.eq_2 (bn @partOf.eq_3 (bn @GH (bn @Cc (bn @La (bn @g_v (bn @x_v (bn @AV.flat.eq_1 (bn @AV.flat.eq_2 (bn @yw.eq_1 (bn @yw.eq_2 (bn @yw.eq_3 (bn @yw.eq_4 (bn @yQ.eq_1 (bn @yQ.eq_2 (bn @pV.eq_1 (bn @pV.eq_2 (bn @dV.eq_1 (bn @dV.eq_2 (bn @dV.eq_3 (bn @dV.eq_4 (bn @dC.eq_1 (bn @dC.eq_2 (bn @dC.eq_3 (bn @dC.eq_4 (bn @dCs.eq_1 (bn @dCs.eq_2 (bn @dCs.eq_3 (bn @dPs.eq_1 (bn @dPs.eq_2 (bn @dPs.eq_3 (bn @Box.arr.eq_1 (bn @Box.arr.eq_2 (bn @Box.arr.eq_3 (bn @List.take_succ_cons.{0} (bn @List.take_zero.{0} (bn @List.drop_zero.{0} (bn @List.drop_succ_cons.{0} (bn @List.length_cons.{0} (bn @List.length_nil.{0} (bn @List.getElem?_cons_zero.{0} (bn @List.getElem?_cons_succ.{0} (bn @true_and (bn @and_true (bn @Nat.zero_add (bn @uI.eq_1 (bn @tH.eq_1 (bn @Ip.eq_1 (bn @vSl.eq_1 (bn @FR.ok.eq_1 (bn @cI.eq_1 (bn @cU.eq_1 (bn @cB.eq_1 (bn @cS.eq_1 (bn @cL.eq_1 (bn @cK.eq_1 (bn @au.gq (bn @o6.gq (bn @cZ.gq (bn @wJ.gq (bn @tV.gq (bn @zo.gq (bn @yD.gq (bn @bg.gq (bn @dI.gq (bn @wJ.Ku (bn @List.map_append.{0,0} (bn @List.map_cons.{0,0} (bn @List.map_nil.{0,0} (bn @List.map_set.{0,0} (bn @List.map_take.{0,0} (bn @List.map_drop.{0,0} (bn @List.map_replicate.{0,0} (bn @List.length_append.{0} (bn @List.length_map.{0,0} (bn @List.length_set.{0} (bn @List.length_replicate.{0} (bn @Nat.add_zero (bn @List.nil_append.{0} (bn @List.cons_append.{0} (bn @List.append_nil.{0} (bn @take_len (bn @JZ (bn @J4 (bn @and_self @zx))))))))))))))))))))))))))))))))))))))))))))))))))))))))))))))))))))))))))))))))))))))))))))))))
theorem peR : type_of% peD:=peD
def rwD :=bn @RV.eq_1 (bn @RV.eq_2 (bn @X7.eq_1 (bn @X7.eq_2 (bn @S9.eq_1 (bn @S9.eq_2 (bn @S9.eq_3 (bn @wkV.eq_1 (bn @wkV.eq_2 (bn @wkV.eq_3 (bn @wkV.eq_4 (bn @Lr.eq_1 (bn @Lr.eq_2 (bn @Lr.eq_3 (bn @Sj.eq_1 (bn @Sj.eq_2 (bn @yQ.eq_1 (bn @yQ.eq_2 (bn @pV.eq_1 (bn @pV.eq_2 (bn @true_and (bn @and_true (bn @implies_true.{1} (bn @List.mem_cons.{0} (bn @List.not_mem_nil.{0} (bn @or_false (bn @or_true (bn @true_or (bn @Box.arr.eq_1 (bn @Box.arr.eq_2 (bn @Box.arr.eq_3 (bn @Ip.eq_1 (bn @uI.eq_1 (bn @tH.eq_1 (bn @vSl.eq_1 (bn @not_false_eq_true (bn @false_or (bn @Option.some.injEq.{0} (bn @true_implies (bn @cI.eq_1 (bn @cU.eq_1 (bn @cB.eq_1 (bn @cS.eq_1 (bn @cL.eq_1 (bn @cK.eq_1 (bn @au.gq (bn @o6.gq (bn @cZ.gq (bn @wJ.gq (bn @tV.gq (bn @zo.gq (bn @yD.gq (bn @bg.gq (bn @dI.gq (bn @wJ.Ku (bn @List.map_append.{0,0} (bn @List.map_cons.{0,0} (bn @List.map_nil.{0,0} (bn @List.map_set.{0,0} (bn @List.map_take.{0,0} (bn @List.map_drop.{0,0} (bn @List.map_replicate.{0,0} (bn @List.length_append.{0} (bn @List.length_cons.{0} (bn @List.length_nil.{0} (bn @List.length_map.{0,0} (bn @List.length_set.{0} (bn @List.length_replicate.{0} (bn @Nat.zero_add (bn @Nat.add_zero (bn @List.nil_append.{0} (bn @List.cons_append.{0} (bn @List.append_nil.{0} (bn @take_len (bn @JZ (bn @J4 (bn @and_self (bn @CU.eq_1 (bn @CU.eq_2 (bn @SY.eq_1 (bn @SY.eq_2 (bn @SY.eq_3 (bn @OT.eq_1 (bn @Fg.eq_1 (bn @Fg.eq_2 (bn @vT.ok.eq_1 (bn @vT.ok.eq_2 (bn @vT.val.eq_1 (bn @vT.val.eq_2 (bn @SH.eq_1 (bn @SH.eq_2 (bn @yG.eq_1 (bn @yG.eq_2 (bn @partOf.eq_1 (bn @partOf.eq_2 (bn @partOf.eq_3 (bn @GH (bn @Cc (bn @La (bn @g_v (bn @x_v (bn @AV.flat.eq_1 (bn @AV.flat.eq_2 (bn @yw.eq_1 (bn @yw.eq_2 (bn @yw.eq_3 (bn @yw.eq_4 (bn @dV.eq_1 (bn @dV.eq_2 (bn @dV.eq_3 (bn @dV.eq_4 (bn @dC.eq_1 (bn @dC.eq_2 (bn @dC.eq_3 (bn @dC.eq_4 (bn @dCs.eq_1 (bn @dCs.eq_2 (bn @dCs.eq_3 (bn @dPs.eq_1 (bn @dPs.eq_2 (bn @dPs.eq_3 (bn @List.take_succ_cons.{0} (bn @List.take_zero.{0} (bn @List.drop_zero.{0} (bn @List.drop_succ_cons.{0} (bn @List.getElem?_cons_zero.{0} (bn @List.getElem?_cons_succ.{0} (bn @FR.ok.eq_1 @zx)))))))))))))))))))))))))))))))))))))))))))))))))))))))))))))))))))))))))))))))))))))))))))))))))))))))))))))))))))))))))))))))
theorem rwR : type_of% rwD:=rwD
def lnD :=bn @BB.eq_1 (bn @BB.eq_2 (bn @BB.eq_3 (bn @Ep.eq_1 (bn @Ep.eq_2 (bn @Ep.eq_3 (bn @xC.eq_1 (bn @xC.eq_2 (bn @xC.eq_3 (bn @x9.eq_1 (bn @x9.eq_2 (bn @x9.eq_3 (bn @Cc (bn @pV.eq_1 (bn @pV.eq_2 (bn @Box.arr.eq_1 (bn @Box.arr.eq_2 (bn @Box.arr.eq_3 (bn @AV.cells.eq_1 (bn @AV.cells.eq_2 (bn @AV.cells.eq_3 (bn @List.map_cons.{0,0} (bn @List.map_nil.{0,0} (bn @List.length_map.{0,0} (bn @List.length_append.{0} (bn @List.length_cons.{0} (bn @List.length_nil.{0} (bn @List.length_replicate.{0} (bn @List.length_set.{0} (bn @take_len (bn @JZ (bn @J4 (bn @true_and (bn @and_true (bn @and_self (bn @Nat.le_refl (bn @Nat.zero_add (bn @Nat.add_zero (bn @uI.eq_1 (bn @tH.eq_1 (bn @Ip.eq_1 (bn @vSl.eq_1 (bn @cI.eq_1 (bn @cU.eq_1 (bn @cB.eq_1 (bn @cS.eq_1 (bn @cL.eq_1 (bn @cK.eq_1 (bn @List.map_append.{0,0} (bn @List.cons_append.{0} (bn @List.nil_append.{0} (bn @au.gq (bn @o6.gq (bn @cZ.gq (bn @wJ.gq (bn @tV.gq (bn @zo.gq (bn @yD.gq (bn @bg.gq (bn @dI.gq @wJ.Ku)))))))))))))))))))))))))))))))))))))))))))))))))))))))))))
theorem lnR : type_of% lnD:=lnD
def ggD :=bn @SN.eq_1 (bn @SN.eq_2 (bn @SB.eq_1 (bn @SB.eq_2 (bn @Cc (bn @pV.eq_1 (bn @pV.eq_2 (bn @BU.eq_1 (bn @BU.eq_2 (bn @List.getD_cons_zero.{0} (bn @List.getD_cons_succ.{0} (bn @List.cons_append.{0} (bn @List.nil_append.{0} (bn @List.append_nil.{0} (bn @List.map_cons.{0,0} (bn @List.map_nil.{0,0} (bn @List.map_append.{0,0} (bn @List.map_set.{0,0} (bn @List.length_append.{0} (bn @List.length_cons.{0} (bn @List.length_nil.{0} (bn @List.length_map.{0,0} (bn @List.length_set.{0} (bn @List.length_replicate.{0} (bn @List.replicate_zero.{0} (bn @List.replicate_succ.{0} (bn @List.map_replicate.{0,0} (bn @Nat.zero_add (bn @Nat.add_zero (bn @CJ.eq_1 (bn @CJ.eq_2 (bn @CJ.eq_3 (bn @and_self (bn @and_true (bn @true_and (bn @cI.eq_1 (bn @cU.eq_1 (bn @cB.eq_1 (bn @cS.eq_1 (bn @cL.eq_1 (bn @cK.eq_1 (bn @au.gq (bn @o6.gq (bn @cZ.gq (bn @wJ.gq (bn @tV.gq (bn @zo.gq (bn @yD.gq (bn @bg.gq (bn @dI.gq @wJ.Ku)))))))))))))))))))))))))))))))))))))))))))))))))
theorem ggR : type_of% ggD:=ggD
def ghD :=bn @SN.eq_1 (bn @SN.eq_2 (bn @SB.eq_1 (bn @SB.eq_2 (bn @Cc (bn @pV.eq_1 (bn @pV.eq_2 (bn @BU.eq_1 (bn @BU.eq_2 (bn @List.getD_cons_zero.{0} (bn @List.getD_cons_succ.{0} (bn @List.cons_append.{0} (bn @List.nil_append.{0} (bn @List.append_nil.{0} (bn @List.map_cons.{0,0} (bn @List.map_nil.{0,0} (bn @List.map_append.{0,0} (bn @List.map_set.{0,0} (bn @List.length_append.{0} (bn @List.length_cons.{0} (bn @List.length_nil.{0} (bn @List.length_map.{0,0} (bn @List.length_set.{0} (bn @List.length_replicate.{0} (bn @List.replicate_zero.{0} (bn @List.replicate_succ.{0} (bn @List.map_replicate.{0,0} (bn @Nat.zero_add (bn @Nat.add_zero (bn @CJ.eq_1 (bn @CJ.eq_2 (bn @CJ.eq_3 (bn @and_self (bn @and_true (bn @true_and (bn @cI.eq_1 (bn @cU.eq_1 (bn @cB.eq_1 (bn @cS.eq_1 (bn @cL.eq_1 (bn @cK.eq_1 (bn @au.gq (bn @o6.gq (bn @cZ.gq (bn @wJ.gq (bn @tV.gq (bn @zo.gq (bn @yD.gq (bn @bg.gq (bn @dI.gq (bn @wJ.Ku (bn @aaU (bn @QG.eq_1 (bn @QG.eq_2 (bn @FT.eq_1 (bn @FT.eq_2 (bn @List.flatMap_cons.{0,0} (bn @List.flatMap_nil.{0,0} (bn @AV.owns.eq_1 (bn @AV.owns.eq_2 (bn @AV.owns.eq_3 (bn @nJ.eq_1 (bn @nJ.eq_2 (bn @nJ.eq_3 (bn @List.contains_cons.{0} (bn @List.contains_nil.{0} (bn @Bool.or_false (bn @Bool.or_true (bn @Bool.false_or (bn @if_true.{1} (bn @if_false.{1} (bn @Bool.false_eq_true (bn @BB.eq_1 (bn @BB.eq_2 (bn @BB.eq_3 (bn @Ep.eq_1 (bn @Ep.eq_2 (bn @Ep.eq_3 (bn @xC.eq_1 (bn @xC.eq_2 (bn @xC.eq_3 (bn @x9.eq_1 (bn @x9.eq_2 (bn @x9.eq_3 (bn @Box.arr.eq_1 (bn @Box.arr.eq_2 (bn @Box.arr.eq_3 (bn @AV.cells.eq_1 (bn @AV.cells.eq_2 (bn @AV.cells.eq_3 (bn @Nat.le_refl (bn @take_len (bn @JZ (bn @J4 (bn @uI.eq_1 (bn @tH.eq_1 (bn @Ip.eq_1 @vSl.eq_1))))))))))))))))))))))))))))))))))))))))))))))))))))))))))))))))))))))))))))))))))))))))))))))))
theorem ghR : type_of% ghD:=ghD
end
section
abbrev zN : List AC:=[.c (.lit (.int .i64 0)),.c (.lit (.int .i64 0)),.c (.str []),.mM 1,.mM 5]
abbrev wI (z:Int):AC:=.c (.lit (.int .i64 z))
abbrev wS (s:di):AC:=.c (.str s)
abbrev wT (l:List di):AC:=.c (.sl 1 (List.map cS l))
abbrev wK (l:List au):AC:=.c (.sl 5 (List.map au.cells l))
abbrev wN (x:au):List AC:=[wI x.dH,wI x.ve,wS x.oz,wT x.dS,wK x.bC]
abbrev wB (b:Bool):AC:=.c (.lit (.bool b))
abbrev oI (z:Int):AV:=.one (wI z)
abbrev oS (s:di):AV:=.one (wS s)
abbrev oT (l:List di):AV:=.one (wT l)
abbrev oB (b:Bool):AV:=.one (wB b)
abbrev eP (a b:Nat):Nat×Slot:=(a,.v true (.one (.ptr b 0)))
abbrev eI (a:Nat)(z:Int):Nat×Slot:=(a,.v true (.one (wI z)))
abbrev eS (a:Nat)(z:di):Nat×Slot:=(a,.v true (.one (wS z)))
abbrev eT (a:Nat)(z:List di):Nat×Slot:=(a,.v true (.one (wT z)))
abbrev eB (a:Nat)(z:Bool):Nat×Slot:=(a,.v true (.one (wB z)))
abbrev w7 (l:List zo):AC:=.c (.sl 7 (List.map zo.cells l))
abbrev w8 (l:List o6):AC:=.c (.sl 8 (List.map o6.cells l))
abbrev wO (x:o6):List AC:=[wI x.dH,wT x.uF,wT x.vg,wI x.Value.dH,wI x.Value.ve,wS x.Value.oz,wT x.Value.dS,wK x.Value.bC]
abbrev wM (x:zo):List AC:=[wS x.rW,wI x.xy,wI x.Ed.dH,wI x.Ed.ve,wS x.Ed.oz,wT x.Ed.dS,wK x.Ed.bC]
abbrev wU (x:tV):List AC:=[w7 x.kM,wI x.xJ]
abbrev wQ (x:cZ):List AC:=[wI x.gZ,wS x.rW,wT x.xZ,wT x.tu,wI x.Body.dH,wI x.Body.ve,wS x.Body.oz,wT x.Body.dS,wK x.Body.bC,w8 x.vZ]
abbrev wE (x:wJ):List AC:=[wI x.Yl.dH,wI x.Yl.ve,wS x.Yl.oz,wT x.Yl.dS,wK x.Yl.bC,wS x.rW]
def pp {α:Sort _}{β:Sort _}(a:α)(b:β):PProd α β:=⟨a,b⟩
abbrev CB :=pp () <|pp () <|pp () <|pp () <|pp () <|pp () <|()
abbrev ado {A:Sort _}(a:A):=pp () <|pp () <|pp () <|pp () <|pp () <|pp () <|a
abbrev Bc {A:Sort _}{B:Sort _}{C:Sort _}(a:A)(b:B)(c:C):=pp () <|pp () <|pp a <|pp () <|pp b <|pp c <|()
abbrev Uy {A:Sort _}{B:Sort _}(a:A)(b:B):=pp () <|pp a <|pp () <|pp () <|pp () <|pp () <|b
abbrev J6 {A:Sort _}{B:Sort _}{C:Sort _}{D:Sort _}{E:Sort _}{F:Sort _}(a:A)(b:B)(c:C)(d:D)(e:E)(f:F):=pp () <|pp a <|pp b <|pp c <|pp d <|pp e <|f
abbrev rY {A:Sort _}(a:A):=pp a <|pp () <|pp () <|pp () <|pp () <|pp () <|()
abbrev adp {A:Sort _}{B:Sort _}(a:A)(b:B):=pp a <|pp () <|pp () <|pp () <|pp () <|pp () <|b
abbrev Uz {A:Sort _}{B:Sort _}{C:Sort _}{D:Sort _}(a:A)(b:B)(c:C)(d:D):=pp a <|pp () <|pp () <|pp b <|pp c <|pp d <|()
abbrev Z8 {A:Sort _}{B:Sort _}{C:Sort _}{D:Sort _}{E:Sort _}(a:A)(b:B)(c:C)(d:D)(e:E):=pp a <|pp () <|pp () <|pp b <|pp c <|pp d <|pp () <|e
abbrev ny {A:Sort _}{B:Sort _}{C:Sort _}{D:Sort _}(a:A)(b:B)(c:C)(d:D):=pp a <|pp () <|pp b <|pp () <|pp c <|pp d <|()
abbrev adq {A:Sort _}{B:Sort _}{C:Sort _}{D:Sort _}{E:Sort _}(a:A)(b:B)(c:C)(d:D)(e:E):=pp a <|pp () <|pp b <|pp () <|pp c <|pp d <|e
abbrev J7 {A:Sort _}{B:Sort _}{C:Sort _}{D:Sort _}{E:Sort _}(a:A)(b:B)(c:C)(d:D)(e:E):=pp a <|pp () <|pp b <|pp c <|pp d <|pp e <|()
abbrev Z9 {A:Sort _}{B:Sort _}{C:Sort _}{D:Sort _}{E:Sort _}{F:Sort _}(a:A)(b:B)(c:C)(d:D)(e:E)(f:F):=pp a <|pp () <|pp b <|pp c <|pp d <|pp e <|pp () <|f
abbrev J8 {A:Sort _}{B:Sort _}(a:A)(b:B):=pp a <|pp b <|pp () <|pp () <|pp () <|pp () <|()
abbrev adr {A:Sort _}{B:Sort _}{C:Sort _}{D:Sort _}{E:Sort _}(a:A)(b:B)(c:C)(d:D)(e:E):=pp a <|pp b <|pp () <|pp c <|pp d <|pp e <|()
abbrev Ou {A:Sort _}{B:Sort _}{C:Sort _}{D:Sort _}{E:Sort _}(a:A)(b:B)(c:C)(d:D)(e:E):=pp a <|pp b <|pp c <|pp () <|pp d <|pp e <|()
abbrev ads {A:Sort _}{B:Sort _}{C:Sort _}{D:Sort _}{E:Sort _}{F:Sort _}(a:A)(b:B)(c:C)(d:D)(e:E)(f:F):=pp a <|pp b <|pp c <|pp d <|pp e <|pp f <|()
abbrev adt {A:Sort _}{B:Sort _}{C:Sort _}{D:Sort _}{E:Sort _}{F:Sort _}{G:Sort _}(a:A)(b:B)(c:C)(d:D)(e:E)(f:F)(g:G):=pp a <|pp b <|pp c <|pp d <|pp e <|pp f <|g
abbrev aab {A:Sort _}{B:Sort _}{C:Sort _}{D:Sort _}{E:Sort _}{F:Sort _}{G:Sort _}{H:Sort _}(a:A)(b:B)(c:C)(d:D)(e:E)(f:F)(g:G)(h:H):=pp a <|pp b <|pp c <|pp d <|pp e <|pp f <|pp g <|h
theorem ihL {n:Nat}{A B:Nat->Prop}(h:∀m,m<n->A m/\B m):∀m,m<n->A m:=λm hm=>(h m hm).1
theorem ihR {n:Nat}{A B:Nat->Prop}(h:∀m,m<n->A m/\B m):∀m,m<n->B m:=λm hm=>(h m hm).2
theorem jl (zs:List Nat)(pi:List (Nat×Nat))(vs:List Nat){m:Nat}{ts0 ts:List (Nat×Slot)}{Em bs:List (Nat×Box)}(hk:NY m Em bs pi vs=true)
 (hb:RV zs (pV Em) (Sj pi) vs bs) (ht:X7 zs (pV Em) (Sj pi) vs ts0 ts):Ko m (iI.of ts0 Em) (iI.of ts bs):=ahO zs pi vs hk hb ht
theorem Fh (zs:List Nat)(pi:List (Nat×Nat))(vs:List Nat){rs:List vT}{ts:List (Nat×Slot)}{Em:List (Nat×Box)}{m:Nat}{r:AV}{bs:List Box}(hk:NY m Em (CU bs 0) pi vs=true)
 (hok:Fg (iI.of ts Em) rs) (hb:RV zs (pV Em) (Sj pi) vs (CU bs 0)) (hv:wkV zs (pV Em) (Sj pi) vs (SH (iI.of ts Em) rs) r) :
 Gi rs m (λr1 b1=>r1=r/\b1=bs) (iI.of ts Em):=ajn zs pi vs hk hok hb hv
section
variable {P:Program} {f:FuncId} {rX:List AV} {d:Option Nat} {st:iI} {K:List Nat->List Nat->iI->Prop} {du:DU K} {Q:AQ}
theorem cG (sg nu:List Nat){P:Program}{f:FuncId}{rX:List AV}{d:Option Nat}{st:iI}{K:List Nat->List Nat->iI->Prop}{du:DU K}{ds:List AV}{fp Em:List Box}{r0:AV}(h:oN P f ds fp (λr bs=>r=r0/\bs=Em))(hl:sg.length=fp.length)(hn:nodupB (sg++nu)=true)(hf:SN st (sg++nu) fp 0)(hv:SB st nu)
 (hra:(ds.all λx=>x.all (AC.sW fp.length))=true) (hrf:fp.all (Box.sW fp.length)=true) (ha:rX=ds.map (CJ λb=>(sg++nu).getD b 0)) (hb:Em.length=(sg++nu).length)
 (k:K (sg++nu) (sg++nu) ((st.qo ((sg++nu).zip (Em.map (BU λb=>(sg++nu).getD b 0)))).yf d (.v true (CJ (λb=>(sg++nu).getD b 0) r0)))):sV P f rX true d st K du:=aj8 sg nu h hl hn hf hv hra hrf ha hb k
theorem cH (sg nu:List Nat){P:Program}{f:FuncId}{rX:List AV}{d:Option Nat}{st:iI}{K:List Nat->List Nat->iI->Prop}{du:DU K}{ds:List AV}{fp Em:List Box}{r0:AV}(h:oN P f ds fp (λr bs=>r=r0/\bs=Em))(he:rX.map (BB st.bx)=ds.map (CJ λb=>(sg++nu).getD b 0))(hlo:xC st.bx rX)
 (hl:sg.length=fp.length) (hn:nodupB (sg++nu)=true) (hf:SN (st.Eo (rX.flatMap AV.owns)) (sg++nu) fp 0) (hv:SB st nu)
 (hra:(ds.all λx=>x.all (AC.sW fp.length))=true) (hrf:fp.all (Box.sW fp.length)=true) (hb:Em.length=(sg++nu).length)
 (k:K (rX.flatMap AV.owns++(sg++nu)) (rX.flatMap AV.owns++(sg++nu)) (((st.Eo (rX.flatMap AV.owns)).qo ((sg++nu).zip (Em.map (BU λb=>(sg++nu).getD b 0)))).yf d (.v true (CJ (λb=>(sg++nu).getD b 0) r0)))):sV P f rX true d st K du:=aj9 sg nu h he hlo hl hn hf hv hra hrf hb k
theorem EZ (X:Type)(R:Type)(g:Nat->X->Option R)(r:R)(S:X->iI)(N:Nat){P:Program}{st:iI}{Q:AQ}{a b:gI}{d1:DU (wpC P a)}{d2:DU (wpC P b)}{d3:DU Q}
 (h1:Am P a (tJ.then (λst'=>∃x m,(g m x=some r/\m<=N)/\Ko 10 st' (S x)) Q) st .mk .mk) (h2:∀n x,n<=N->g n x=some r->Am P b Q (S x) .mk .mk):Lu (wpC P a) (wpC P b) Q st d1 d2 d3:=by
 refine alH (X:=X×Nat) (λp=>g p.2 p.1=some r/\p.2<=N) (λp=>S p.1) (wpC_mono (λe st h=>?_) h1) (λp hp=>h2 p.2 p.1 hp.2 hp.1);cases e with
 |normal=>obtain⟨x,m,h,hw⟩:=h;exact⟨(x,m),h,hw⟩
 |_=>exact h
theorem uG (X:Type)(R:Type)(g:Nat->X->Option R)(r:R)(S:X->iI)(N:Nat){P:Program}{st:iI}{Q:AQ}{a:gI}{d1:DU (wpC P a)}{d2:DU Q}(h0:∃x m,(g m x=some r/\m<=N)/\Ko 10 st (S x))
 (h:∀n x,n<=N->g n x=some r->Am P a (tJ.then (λst'=>∃x' m,(g m x'=some r/\m<=N/\m<n)/\Ko 10 st' (S x')) Q) (S x) .mk .mk):G8 (wpC P a) Q st d1 d2:=by
 obtain⟨x,m,h0,hw⟩:=h0;refine akJ (X:=X×Nat) (λp=>g p.2 p.1=some r/\p.2<=N) (λp=>S p.1) (λp=>p.2) (x,m) h0 hw (λp hp=>wpC_mono (λe st h=>?_) (h p.2 p.1 hp.2 hp.1));cases e with
 |normal=>obtain⟨x,m,h,hw⟩:=h;exact⟨(x,m),⟨⟨h.1,h.2.1⟩,h.2.2⟩,hw⟩
 |_=>exact h
end
theorem Nr {p:Prop}(x:p:=by simp -dsimp only[wkR,wkB,Lp,reduceIte,Nat.reduceEqDiff,reduceCtorEq]<;>simp[List.take_of_length_le]<;>fail):p:=x
theorem tPE {p:Prop}(x:p:=by(simp -dsimp only[peR,reduceIte,Nat.reduceEqDiff,Nat.reduceAdd,Nat.reduceLeDiff,reduceCtorEq]<;>first|(simp[List.take_of_length_le];done)|((try simp only[List.map_take,List.map_drop,List.map_append,List.map_cons,List.map_nil])<;>(repeat' apply And.intro)<;>first|rfl|(simp;done)|(simp<;>omega;done)|(congr 1;exact(List.take_of_length_le (by simp<;>omega)).symm)))):p:=x
theorem tRE {p:Prop}(x:p:=by(simp -dsimp only[rwR,wkB,Lp,reduceIte,Nat.reduceEqDiff,reduceCtorEq,Nat.reduceAdd,Nat.reduceLeDiff]<;>first|(simp[List.take_of_length_le];done)|((try simp only[List.map_take,List.map_drop,List.map_append,List.map_cons,List.map_nil])<;>(repeat' apply And.intro)<;>first|rfl|(simp;done)|(simp<;>omega;done)|(congr 1;exact(List.take_of_length_le (by simp<;>omega)).symm)))):p:=x
theorem tLN {p:Prop}(x:p:=by(simp only[lnR,reduceIte,Nat.reduceEqDiff]<;>omega)):p:=x
theorem tGG {p:Prop}(x:p:=by(simp only[ggR,FZ,reduceIte,Nat.reduceEqDiff,Nat.reduceLeDiff,Nat.reduceAdd]<;>omega)):p:=x
theorem tGR {p:Prop}(x:p:=by first|rfl|(simp only[ggR,FZ,reduceIte,Nat.reduceEqDiff,Nat.reduceLeDiff,Nat.reduceAdd]<;>omega)):p:=x
theorem tGH {p:Prop}(x:p:=by(simp only[ghR,FZ,reduceIte,Nat.reduceEqDiff,Nat.reduceLeDiff,Nat.reduceAdd,Nat.reduceBEq]<;>omega)):p:=x
theorem Na {p:Prop}(x:p:=by((try simp only[Prod.exists]);(first|refine⟨_,_,⟨h,?_⟩,?_⟩|refine⟨_,_,_,⟨h,?_⟩,?_⟩|refine⟨_,_,_,_,⟨h,?_⟩,?_⟩|refine⟨_,_,_,_,_,⟨h,?_⟩,?_⟩|refine⟨_,_,_,_,_,_,⟨h,?_⟩,?_⟩|refine⟨_,_,_,_,_,_,_,⟨h,?_⟩,?_⟩|refine⟨_,_,_,_,_,_,_,_,⟨h,?_⟩,?_⟩|refine⟨_,_,_,_,_,_,_,_,_,⟨h,?_⟩,?_⟩|refine⟨_,_,_,_,_,_,_,_,_,_,⟨h,?_⟩,?_⟩|refine⟨_,_,_,_,_,_,_,_,_,_,_,⟨h,?_⟩,?_⟩|refine⟨_,_,_,_,_,_,_,_,_,_,_,_,⟨h,?_⟩,?_⟩|refine⟨_,_,_,_,_,_,_,_,_,_,_,_,_,⟨h,?_⟩,?_⟩|refine⟨_,_,_,_,_,_,_,_,_,_,_,_,_,_,⟨h,?_⟩,?_⟩|refine⟨_,_,_,_,_,_,_,_,_,_,_,_,_,_,_,⟨h,?_⟩,?_⟩|refine⟨_,_,_,_,_,_,_,_,_,_,_,_,_,_,_,_,⟨h,?_⟩,?_⟩|refine⟨_,_,_,_,_,_,_,_,_,_,_,_,_,_,_,_,_,⟨h,?_⟩,?_⟩|refine⟨_,_,_,_,_,_,_,_,_,_,_,_,_,_,_,_,_,_,⟨h,?_⟩,?_⟩|refine⟨_,_,_,_,_,_,_,_,_,_,_,_,_,_,_,_,_,_,_,⟨h,?_⟩,?_⟩|refine⟨_,_,_,_,_,_,_,_,_,_,_,_,_,_,_,_,_,_,_,_,⟨h,?_⟩,?_⟩|refine⟨_,_,_,_,_,_,_,_,_,_,_,_,_,_,_,_,_,_,_,_,_,⟨h,?_⟩,?_⟩|refine⟨_,_,_,_,_,_,_,_,_,_,_,_,_,_,_,_,_,_,_,_,_,_,⟨h,?_⟩,?_⟩|refine⟨_,_,_,_,_,_,_,_,_,_,_,_,_,_,_,_,_,_,_,_,_,_,_,⟨h,?_⟩,?_⟩|refine⟨_,_,_,_,_,_,_,_,_,_,_,_,_,_,_,_,_,_,_,_,_,_,_,_,⟨h,?_⟩,?_⟩|refine⟨(),_,⟨h,?_⟩,?_⟩);(focus omega);first|exact zj.1 (by rfl) Nr Nr|exact zj.2.1 (by rfl) Nr Nr|exact zj.2.2.1 (by rfl) Nr Nr|exact zj.2.2.2.1 (by rfl) Nr Nr|exact zj.2.2.2.2.1 (by rfl) Nr Nr|exact zj.2.2.2.2.2.1 (by rfl) Nr Nr|exact zj.2.2.2.2.2.2.1 (by rfl) Nr Nr|exact zj.2.2.2.2.2.2.2.1 (by rfl) Nr Nr|exact zj.2.2.2.2.2.2.2.2.1 (by rfl) Nr Nr|exact zj.2.2.2.2.2.2.2.2.2.1 (by rfl) Nr Nr|exact zj.2.2.2.2.2.2.2.2.2.2.1 (by rfl) Nr Nr|exact zj.2.2.2.2.2.2.2.2.2.2.2.1 (by rfl) Nr Nr|exact zj.2.2.2.2.2.2.2.2.2.2.2.2.1 (by rfl) Nr Nr|exact zj.2.2.2.2.2.2.2.2.2.2.2.2.2.1 (by rfl) Nr Nr)):p:=x
theorem xP {p:Prop}(x:p:=by
 obtain⟨zc,zg,zk,zu,ze,zj,zt⟩:=z
 try simp only[oI,oS,oT,oB,wE,wQ,wU,wM,wO,w8,w7,wN,wI,wS,wT,wK,wB,zN,eP,eI,eS,eT,eB]at zc zk zu zt zj⊢
 repeat' first
 |(clear h;(with_reducible intro n x hn h);rcases n with _|n<;>simp only[ze.1,reduceCtorEq]at h)
 |(simp only[reduceCtorEq]at h;done)
 |((with_reducible replace h:=kq0 h);obtain⟨_,_,h⟩:=h)
 |((with_reducible replace h:=kqn h);obtain⟨_,_,h⟩:=h)
 |((with_reducible replace h:=kq1 h);obtain⟨_,_,h⟩:=h)
 |((with_reducible replace h:=kq h);obtain⟨_,h⟩:=h)
 |((with_reducible replace h:=sq h);subst h;have h:=True.intro)
 | (try simp -dsimp only[egR,mG.nT,mG.f,mG.rd,FW,Bi,lvl,yx,reduceIte,Nat.reduceEqDiff,Nat.reduceAdd,Nat.reduceLeDiff,Nat.reduceBEq,reduceCtorEq,Int.reduceBNe,Int.reduceBEq,Int.reduceLT,Int.reduceLE,Int.reduceNeg,Nat.reduceLT,F6,Int.reduceToNat,FZ, *]
    repeat((with_reducible refine And.intro ?_ ?_);focus first|(show zZ _ _ _ _=true;kernel_rfl)|(show zL _ _=true;kernel_rfl)|omega|assumption|(show _<=maxLen;decide))
    first
    |with_reducible refine adR ?_
    |((with_reducible refine ah4 ?_);with_reducible refine zu.1 n ?_ ?_)
    |((with_reducible refine aeE ?_);first|((with_reducible refine zk.1 n ?_ ?_);(focus exact Na))|((with_reducible refine zk.2.1 n ?_ ?_);(focus exact Na))|((with_reducible refine zk.2.2.1 n ?_ ?_);(focus exact Na))|((with_reducible refine zk.2.2.2.1 n ?_ ?_);(focus exact Na))|((with_reducible refine zk.2.2.2.2.1 n ?_ ?_);(focus exact Na))|((with_reducible refine zk.2.2.2.2.2.1 n ?_ ?_);(focus exact Na)))
    |((with_reducible refine Zf ?_);(with_reducible replace h:=bq h);obtain⟨_,hv,h⟩:=h;first|(have zd:=zc;(repeat(first|((first|with_reducible have hc:=zd.1 hv|with_reducible have hc:=zd.1 _ (by omega) hv);(first|refine aan (λ_=>hc) rfl rfl ?_|refine adS hc rfl rfl ?_|refine ahV hc tLN tLN rfl rfl ?_|refine ahU hc tLN tLN rfl rfl ?_);clear zd)|with_reducible replace zd:=zd.2));(fail_if_success have zz:=zd))|(have zd:=zg;(repeat(first|((first|with_reducible have hc:=zd.1.1 hv|with_reducible have hc:=zd.1.1 _ (by omega) hv);(first|refine zd.1.2 hc rfl rfl tGG tGG rfl rfl tGR rfl ?_|refine zd.1.2 hc tGH tGH rfl rfl tGH tGH rfl rfl rfl ?_);clear zd)|with_reducible replace zd:=zd.2));(fail_if_success have zz:=zd)))
    |((with_reducible replace h:=cq h);rcases h with⟨c,h⟩|⟨c,h⟩<;>try(simp only[*,Bool.false_eq_true,reduceCtorEq]at c;done))
    |((with_reducible refine akF ?_);exact Na)
    |((with_reducible refine ah6 ?_);exact tPE)
    |((with_reducible refine aeG ?_);have zd:=zt;(repeat(first|exact zd.1 (by rfl) tRE tRE tRE|with_reducible replace zd:=zd.2))<;>fail)
    |(cases h;done))):p:=x
theorem agV {p:Prop}(x:p:=by
 obtain⟨zc,zg,zk,zu,ze,zj,zt,zq⟩:=z
 try simp only[oI,oS,oT,oB,wE,wQ,wU,wM,wO,w8,w7,wN,wI,wS,wT,wK,wB,zN,eP,eI,eS,eT,eB]at zc zk zu zt zj⊢
 repeat' first
 |(clear h;(with_reducible intro n x hn h);rcases n with _|n<;>simp only[ze.1,reduceCtorEq]at h)
 |(simp only[reduceCtorEq]at h;done)
 |((with_reducible replace h:=kq0 h);obtain⟨_,_,h⟩:=h)
 |((with_reducible replace h:=kqn h);obtain⟨_,_,h⟩:=h)
 |((with_reducible replace h:=kq1 h);obtain⟨_,_,h⟩:=h)
 |((with_reducible replace h:=kq h);obtain⟨_,h⟩:=h)
 |((with_reducible replace h:=sq h);subst h;have h:=True.intro)
 | (try simp -dsimp only[egR,mG.nT,mG.f,mG.rd,FW,Bi,lvl,yx,reduceIte,Nat.reduceEqDiff,Nat.reduceAdd,Nat.reduceLeDiff,Nat.reduceBEq,reduceCtorEq,Int.reduceBNe,Int.reduceBEq,Int.reduceLT,Int.reduceLE,Int.reduceNeg,Nat.reduceLT,F6,Int.reduceToNat,FZ, *]
    repeat((with_reducible refine And.intro ?_ ?_);focus first|(show zZ _ _ _ _=true;kernel_rfl)|(show zL _ _=true;kernel_rfl)|omega|assumption|(show _<=maxLen;decide))
    first
    |with_reducible refine adR ?_
    |((with_reducible refine ah4 ?_);first|(rename Mk 1=>tk;clear tk;have:True:=(by(first|rewrite [zq.1.1]at h|rewrite [zq.1.2.1]at h|rewrite [zq.1.2.2.1]at h|rewrite [zq.1.2.2.2.1]at h|rewrite [zq.1.2.2.2.2.1]at h|rewrite [zq.1.2.2.2.2.2.1]at h|rewrite [zq.1.2.2.2.2.2.2.1]at h|rewrite [zq.1.2.2.2.2.2.2.2.1]at h);exact True.intro);with_reducible refine zu.1 n ?_ ?_)|(rename Mk 2=>tk;clear tk;have:True:=(by(first|rewrite [zq.2.1.1]at h|rewrite [zq.2.1.2.1]at h|rewrite [zq.2.1.2.2.1]at h|rewrite [zq.2.1.2.2.2.1]at h|rewrite [zq.2.1.2.2.2.2.1]at h|rewrite [zq.2.1.2.2.2.2.2.1]at h|rewrite [zq.2.1.2.2.2.2.2.2.1]at h|rewrite [zq.2.1.2.2.2.2.2.2.2.1]at h);exact True.intro);with_reducible refine zu.2.1 n ?_ ?_)|(rename Mk 3=>tk;clear tk;have:True:=(by(first|rewrite [zq.2.2.1.1]at h|rewrite [zq.2.2.1.2.1]at h|rewrite [zq.2.2.1.2.2.1]at h|rewrite [zq.2.2.1.2.2.2.1]at h|rewrite [zq.2.2.1.2.2.2.2.1]at h|rewrite [zq.2.2.1.2.2.2.2.2.1]at h|rewrite [zq.2.2.1.2.2.2.2.2.2.1]at h|rewrite [zq.2.2.1.2.2.2.2.2.2.2.1]at h);exact True.intro);with_reducible refine zu.2.2.1 n ?_ ?_)|(rename Mk 4=>tk;clear tk;have:True:=(by(first|rewrite [zq.2.2.2.1.1]at h|rewrite [zq.2.2.2.1.2.1]at h|rewrite [zq.2.2.2.1.2.2.1]at h|rewrite [zq.2.2.2.1.2.2.2.1]at h|rewrite [zq.2.2.2.1.2.2.2.2.1]at h|rewrite [zq.2.2.2.1.2.2.2.2.2.1]at h|rewrite [zq.2.2.2.1.2.2.2.2.2.2.1]at h|rewrite [zq.2.2.2.1.2.2.2.2.2.2.2.1]at h);exact True.intro);with_reducible refine zu.2.2.2.1 n ?_ ?_)|(rename Mk 5=>tk;clear tk;have:True:=(by(first|rewrite [zq.2.2.2.2.1.1]at h|rewrite [zq.2.2.2.2.1.2.1]at h|rewrite [zq.2.2.2.2.1.2.2.1]at h|rewrite [zq.2.2.2.2.1.2.2.2.1]at h|rewrite [zq.2.2.2.2.1.2.2.2.2.1]at h|rewrite [zq.2.2.2.2.1.2.2.2.2.2.1]at h|rewrite [zq.2.2.2.2.1.2.2.2.2.2.2.1]at h|rewrite [zq.2.2.2.2.1.2.2.2.2.2.2.2.1]at h);exact True.intro);with_reducible refine zu.2.2.2.2.1 n ?_ ?_)|(rename Mk 6=>tk;clear tk;have:True:=(by(first|rewrite [zq.2.2.2.2.2.1.1]at h|rewrite [zq.2.2.2.2.2.1.2.1]at h|rewrite [zq.2.2.2.2.2.1.2.2.1]at h|rewrite [zq.2.2.2.2.2.1.2.2.2.1]at h|rewrite [zq.2.2.2.2.2.1.2.2.2.2.1]at h|rewrite [zq.2.2.2.2.2.1.2.2.2.2.2.1]at h|rewrite [zq.2.2.2.2.2.1.2.2.2.2.2.2.1]at h|rewrite [zq.2.2.2.2.2.1.2.2.2.2.2.2.2.1]at h);exact True.intro);with_reducible refine zu.2.2.2.2.2.1 n ?_ ?_))
    |((with_reducible refine aeE ?_);first|((with_reducible refine zk.1 n ?_ ?_);(focus exact Na))|((with_reducible refine zk.2.1 n ?_ ?_);(focus exact Na))|((with_reducible refine zk.2.2.1 n ?_ ?_);(focus exact Na))|((with_reducible refine zk.2.2.2.1 n ?_ ?_);(focus exact Na))|((with_reducible refine zk.2.2.2.2.1 n ?_ ?_);(focus exact Na))|((with_reducible refine zk.2.2.2.2.2.1 n ?_ ?_);(focus exact Na)))
    |((with_reducible refine Zf ?_);(with_reducible replace h:=bq h);obtain⟨_,hv,h⟩:=h;first|(have zd:=zc;(repeat(first|((first|with_reducible have hc:=zd.1 hv|with_reducible have hc:=zd.1 _ (by omega) hv);(first|refine aan (λ_=>hc) rfl rfl ?_|refine adS hc rfl rfl ?_|refine ahV hc tLN tLN rfl rfl ?_|refine ahU hc tLN tLN rfl rfl ?_);clear zd)|with_reducible replace zd:=zd.2));(fail_if_success have zz:=zd))|(have zd:=zg;(repeat(first|((first|with_reducible have hc:=zd.1.1 hv|with_reducible have hc:=zd.1.1 _ (by omega) hv);(first|refine zd.1.2 hc rfl rfl tGG tGG rfl rfl tGR rfl ?_|refine zd.1.2 hc tGH tGH rfl rfl tGH tGH rfl rfl rfl ?_);clear zd)|with_reducible replace zd:=zd.2));(fail_if_success have zz:=zd)))
    |((with_reducible replace h:=cq h);rcases h with⟨c,h⟩|⟨c,h⟩<;>try(simp only[*,Bool.false_eq_true,reduceCtorEq]at c;done))
    |((with_reducible refine akF ?_);exact Na)
    |((with_reducible refine ah6 ?_);exact tPE)
    |((with_reducible refine aeG ?_);have zd:=zt;(repeat(first|exact zd.1 (by rfl) tRE tRE tRE|with_reducible replace zd:=zd.2))<;>fail)
    |(cases h;done))):p:=x
end
abbrev zA (d:Nat)(x:mG):kE:=⟨none,some d,.op x⟩
abbrev zM (d s:Nat):kE:=⟨none,some d,.op (.mv (.t s))⟩
abbrev zS (x:mG):kE:=⟨none,none,.op x⟩
abbrev zG (g:Nat)(b:Bool)(d:Nat)(x:mG):kE:=⟨some (g,b),some d,.op x⟩
noncomputable abbrev pZ : Program:=Go.Proofs.Tryz.prog
abbrev kI (n:Int):mY:=.k (.c (.lit (.int .i64 n)))
abbrev kB (b:Bool):mY:=.k (.c (.lit (.bool b)))
abbrev xI (n:Int):AC:=.c (.lit (.int .i64 n))
abbrev qF (d k a:Nat):kE:=zA d (.load false k (.t a))
abbrev qT (d k a:Nat):kE:=zA d (.load true k (.t a))
abbrev qS (k a b:Nat):kE:=zS (.store true k (.t a) (.t b))
abbrev qU (k a b:Nat):kE:=zS (.store false k (.t a) (.t b))
abbrev qA (d k a:Nat):kE:=zA d (.lH k (.t a))
abbrev qX (d k a:Nat):kE:=zA d (.box k (.t a))
abbrev qB (d:Nat)(b:Bool):kE:=zA d (.mv (kB b))
abbrev qI (d:Nat)(n:Int):kE:=zA d (.mv (kI n))
abbrev qL (d a:Nat):kE:=zA d (.len (.t a))
abbrev qO (d a:Nat):kE:=zA d (.not (.t a))
abbrev qE (d a k:Nat):kE:=zA d (.extract (.t a) k)
abbrev qP (d a b:Nat):kE:=zA d (.pick (.t a) (.t b) (kB false))
abbrev qQ (d a b:Nat):kE:=zA d (.pick (.t a) (kB true) (.t b))
abbrev qN (d a:Nat):kE:=zA d (.Es (.t a))
abbrev qD (d k a b:Nat):kE:=zA d (.vK k (.t a) (.t b))
abbrev qZ (d k:Nat):kE:=zA d (.alloc k zN)
abbrev q1 (d f a:Nat):kE:=⟨none,some d,.call f [.t a]⟩
abbrev q2 (d f a b:Nat):kE:=⟨none,some d,.call f [.t a,.t b]⟩
abbrev q3 (d f a b c:Nat):kE:=⟨none,some d,.call f [.t a,.t b,.t c]⟩
abbrev qb (d:Nat)(o:BinOp)(a b:Nat):kE:=zA d (.bin o (.t a) (.t b))
abbrev qk (d:Nat)(o:BinOp)(a:Nat)(n:Int):kE:=zA d (.bin o (.t a) (kI n))
abbrev ql (d a:Nat):kE:=zA d (.lens (.t a))
abbrev qm (g:Nat)(b:Bool)(d a:Nat):kE:=zG g b d (.mv (.t a))
abbrev qc (a:Nat)(x y:gI):gI:=.cond (.t a) x y
abbrev qs (l:List kE)(m:List Nat)(x:gI):gI:=.seq (.reg l m) x
abbrev qr (l:List kE)(m:List Nat):gI:=.seq (.reg l m) .ret
abbrev rr4 : List Nat:=[0,1,2,3]
abbrev rr5 : List Nat:=[0,1,2,3,4]
abbrev rr6 : List Nat:=[0,1,2,3,4,5]
abbrev rr7 : List Nat:=[0,1,2,3,4,5,6]
abbrev ZI : List Nat:=[0,1,2,3,4,5,6,7]
abbrev rr9 : List Nat:=[0,1,2,3,4,5,6,7,8]
abbrev SI : List Nat:=[0,1,2,3,4,5,6,7,8,9]
abbrev acJ : List Nat:=[0,1,2,3,4,5,6,7,8,9,10]
abbrev acK : List Nat:=[0,1,2,3,4,5,6,7,8,9,10,11]
abbrev acL : List Nat:=[0,1,2,3,4,5,6,7,8,9,10,11,12]
abbrev afD : List Nat:=[0,1,2,3,4,5,6,7,8,9,10,11,12,13]
abbrev ak0 : List Nat:=[0,1,2,3,4,5,6,7,8,9,10,11,12,13,14]
abbrev ak1 : List Nat:=[0,1,2,3,4,5,6,7,8,9,10,11,12,13,14,15]
abbrev ajp : List Nat:=[0,1,2,3,4,5,6,7,8,9,10,11,12,13,14,15,16]
abbrev ajq : List Nat:=[0,1,2,3,4,5,6,7,8,9,10,11,12,13,14,15,16,17]
abbrev ahz : List Nat:=[0,1,2,3,4,5,6,7,8,9,10,11,12,13,14,15,16,17,18]
abbrev ahA : List Nat:=[0,1,2,3,4,5,6,7,8,9,10,11,12,13,14,15,16,17,18,19]
abbrev ak2 : List Nat:=[0,1,2,3,4,5,6,7,8,9,10,11,12,13,14,15,16,17,18,19,20]
abbrev ak3 : List Nat:=[0,1,2,3,4,5,6,7,8,9,10,11,12,13,14,15,16,17,18,19,20,21]
abbrev ams : List Nat:=[0,1,2,3,4,5,6,7,8,9,10,11,12,13,14,15,16,17,18,19,20,21,22]
abbrev amu : List Nat:=[0,1,2,3,4,5,6,7,8,9,10,11,12,13,14,15,16,17,18,19,20,21,22,23]
abbrev amv : List Nat:=[0,1,2,3,4,5,6,7,8,9,10,11,12,13,14,15,16,17,18,19,20,21,22,23,24]
abbrev amw : List Nat:=[0,1,2,3,4,5,6,7,8,9,10,11,12,13,14,15,16,17,18,19,20,21,22,23,24,25,26,27,28,29]
abbrev amx : List Nat:=[0,1,2,3,4,5,6,7,8,9,10,11,12,13,14,15,16,17,18,19,20,21,22,23,24,25,26,27,28,29,30]
abbrev amy : List Nat:=[0,1,2,3,4,5,6,7,8,9,10,11,12,13,14,15,16,17,18,19,20,21,22,23,24,25,26,27,28,29,30,31]
abbrev amz : List Nat:=[0,1,2,3,4,5,6,7,8,9,10,11,12,13,14,15,16,17,18,19,20,21,22,23,24,25,26,27,28,29,30,31,32]
def C.gB : gI:=qs [qB 2 false] [0]<|.seq (qs [zM 4 0,ql 5 4,qk 6 .gtr 5 12] [0,6]<|qc 6 (qr [qB 2 false] [2]) .skip)<|.seq (qs [qI 3 0] [0,3]<|.block 0<|.loop<|.seq (qs [zM 7 3,zM 8 0,ql 9 8,qb 10 .lss 7 9] [0,3,10]<|qc 10 .skip<|.exit 0)<|.seq (.block 1<|qs [zM 13 0,zM 14 3,zA 15 (.idxs (.t 13)<|.t 14),zA 16 (.bin .lss (.t 15)<|.k<|.c<|.lit<|.int .u8 32),zM 17 16,qm 17 false 18 0,qm 17 false 19 3,zG 17 false 20 (.idxs (.t 18)<|.t 19),zG 17 false 21 (.bin .gtr (.t 20)<|.k<|.c<|.lit<|.int .u8 126),qQ 22 17 21] [0,3,22]<|qc 22 (qr [qB 2 false] [2]) .skip)<|.reg [zM 11 3,qk 12 .add 11 1,zM 3 12] [0,3])<|qr [qB 2 true] [2]
theorem K.gB : nO pZ 73 1 0 C.gB [.tmp 2]=true:=oK
def C.jI : gI:=qs [qB 2 false] [0]<|.seq (qs [zM 5 0,qL 6 5,qk 7 .gtr 6 6] [0,7]<|qc 7 (qr [qB 2 false] [2]) .skip)<|.seq (qs [zM 8 0,qL 9 8,qI 10 0] [0,8,9,10]<|.block 0<|.loop<|qs [qb 11 .lss 10 9] [0,8,9,10,11]<|.seq (qc 11 .skip<|.exit 0)<|.seq (.block 1<|qs [zM 12 10,qD 13 1 8 10,qF 14 1 13,zM 3 12,zM 4 14] [0,3,4,8,9,10]<|qs [zM 15 4,q1 16 73 15,qO 17 16,zM 18 17,qm 18 false 19 3,zG 18 false 20 (.bin .gtr (.t 19)<|kI 0),qm 18 false 21 20,qm 21 true 22 0,qm 21 true 23 3,zG 21 true 24 (.bin .sub (.t 23)<|kI 1),zG 21 true 25 (.vK 1 (.t 22)<|.t 24),zG 21 true 26 (.load false 1<|.t 25),qm 21 true 27 4,zG 21 true 28 (.bin .geq (.t 26)<|.t 27),zG 18 false 29 (.pick (.t 21) (.t 28)<|kB false),qQ 30 18 29] [0,8,9,10,30]<|qc 30 (qr [qB 2 false] [2]) .skip)<|.reg [qk 31 .add 10 1,zM 10 31] [0,8,9,10])<|qr [qB 2 true] [2]
theorem K.jI : nO pZ 187 1 0 C.jI [.tmp 2]=true:=oK
def C.gJ : gI:=qs [qX 1 10 0,qB 2 false] [1]<|.cut (qs [qA 3 0 1,qF 4 1 3,qk 5 .neq 4 1,zM 6 5,zG 6 true 7 (.lH 1<|.t 1),zG 6 true 8 (.load false 1<|.t 7),zG 6 true 9 (.bin .neq (.t 8)<|kI 0),qP 10 6 9,zM 11 10,zG 11 false 12 (.lH 0<|.t 1),zG 11 false 13 (.load false 1<|.t 12),zG 11 false 14 (.bin .neq (.t 13)<|kI 2),qm 11 false 15 14,zG 15 true 16 (.lH 2<|.t 1),zG 15 true 17 (.load false 1<|.t 16),zG 15 true 18 (.bin .neq (.t 17)<|.k<|.c<|.str []),zG 11 false 19 (.pick (.t 15) (.t 18)<|kB false),qQ 20 11 19] [1,20]<|qc 20 (qr [qB 2 false] [2]) .skip)<|.seq (qs [qA 21 0 1,qF 22 1 21,qk 23 .neq 22 4,zM 24 23,zG 24 true 25 (.lH 3<|.t 1),zG 24 true 26 (.load false 1<|.t 25),zG 24 true 27 (.len<|.t 26),zG 24 true 28 (.bin .gtr (.t 27)<|kI 0),qP 29 24 28] [1,29]<|qc 29 (qr [qB 2 false] [2]) .skip)<|.seq (qs [qA 30 0 1,qF 31 1 30] [1,31]<|.block 0<|qs [qk 33 .eql 31 0,zM 32 33] [1,31,32]<|qc 32 (qr [qA 34 4 1,qF 35 1 34,qL 36 35,qk 37 .eql 36 0,zM 2 37] [2])<|qs [qk 39 .eql 31 1,zM 38 39] [1,31,38]<|qc 38 (qr [qA 40 1 1,qF 41 1 40,qk 42 .geq 41 (-999999),zM 43 42,zG 43 true 44 (.lH 1<|.t 1),zG 43 true 45 (.load false 1<|.t 44),zG 43 true 46 (.bin .leq (.t 45)<|kI 999999),qP 47 43 46,zM 48 47,zG 48 true 49 (.lH 4<|.t 1),zG 48 true 50 (.load false 1<|.t 49),zG 48 true 51 (.len<|.t 50),zG 48 true 52 (.bin .eql (.t 51)<|kI 0),qP 53 48 52,zM 2 53] [2])<|qs [qk 55 .eql 31 2,zM 54 55] [1,31,54]<|qc 54 (qr [qA 56 2 1,qF 57 1 56,q1 58 73 57,zM 59 58,zG 59 true 60 (.lH 4<|.t 1),zG 59 true 61 (.load false 1<|.t 60),zG 59 true 62 (.len<|.t 61),zG 59 true 63 (.bin .eql (.t 62)<|kI 0),qP 64 59 63,zM 2 64] [2])<|qs [qk 66 .eql 31 3,zM 65 66] [1,31,65]<|qc 65 (qr [qA 67 4 1,qF 68 1 67,qL 69 68,qk 70 .leq 69 6,zM 2 70] [2])<|qs [qk 72 .eql 31 4,zM 71 72] [1,71]<|qc 71 (qr [qA 73 3 1,qF 74 1 73,q1 75 187 74,zM 76 75,zG 76 true 77 (.lH 4<|.t 1),zG 76 true 78 (.load false 1<|.t 77),zG 76 true 79 (.len<|.t 78),zG 76 true 80 (.lH 3<|.t 1),zG 76 true 81 (.load false 1<|.t 80),zG 76 true 82 (.len<|.t 81),zG 76 true 83 (.bin .eql (.t 79)<|.t 82),qP 84 76 83,zM 2 84] [2]) .skip)<|qr [qB 2 false] [2]
theorem K.gJ : nO pZ 164 1 0 C.gJ [.tmp 2]=true:=oK
def C.fQ : gI:=qs [qX 2 10 0,qI 4 0,qI 5 0,qB 6 false] [1,2]<|.seq (qs [zM 12 1,qk 13 .gtr 12 5,zM 14 13,zG 14 false 15 (.load true 5<|.t 2),⟨(some (14,false)),some 16,.call 164 [.t 15]⟩,zG 14 false 17 (.not<|.t 16),qQ 18 14 17] [1,2,18]<|qc 18 (qr [qI 4 0,qI 5 0,qB 6 false] [4,5,6]) .skip)<|qs [qI 4 1,qI 5 1] [1,2,4,5]<|.seq (qs [qA 19 4 2,qF 20 1 19,qL 21 20,qI 22 0] [1,4,5,20,21,22]<|.block 0<|.loop<|qs [qb 23 .lss 22 21] [1,4,5,20,21,22,23]<|.seq (qc 23 .skip<|.exit 0)<|.seq (.block 1<|qs [qD 24 5 20 22,qT 25 5 24,qZ 8 11,qS 5 8 25] [1,4,5,8,20,21,22]<|qs [qT 27 5 8,zM 28 1,qk 29 .add 28 1,q2 30 110 27 29,zM 26 30,qE 31 26 0,qE 32 26 1,qE 33 26 2,zM 9 31,zM 10 32,zM 11 33] [1,4,5,9,10,11,20,21,22]<|.seq (qs [zM 34 11,qO 35 34] [1,4,5,9,10,20,21,22,35]<|qc 35 (qr [qI 4 0,qI 5 0,qB 6 false] [4,5,6]) .skip)<|qs [zM 36 4,zM 37 9,qb 38 .add 36 37,zM 4 38] [1,4,5,10,20,21,22]<|.reg [zM 39 5,zM 40 10,qk 41 .add 40 1,zA 42 (.max (.t 39)<|.t 41),zM 5 42] [1,4,5,20,21,22])<|.reg [qk 43 .add 22 1,zM 22 43] [1,4,5,20,21,22])<|qr [zM 44 4,zM 45 5,zM 4 44,zM 5 45,qB 6 true] [4,5,6]
theorem K.fQ : nO pZ 110 2 0 C.fQ [.tmp 4,.tmp 5,.tmp 6]=true:=oK
def C.gU : gI:=qs [qX 1 10 0,qB 2 false] [1]<|qs [qT 7 5 1,⟨none,some 8,.call 110 [.t 7,kI 1]⟩,zM 6 8,qE 9 6 0,qE 10 6 1,qE 11 6 2,zM 3 9,zM 4 10,zM 5 11] [3,5]<|qr [zM 12 5,zM 13 12,qm 13 true 14 3,zG 13 true 15 (.bin .leq (.t 14)<|kI 40),qP 16 13 15,zM 2 16] [2]
theorem K.gU : nO pZ 72 1 0 C.gU [.tmp 2]=true:=oK
def C.gG : gI:=qs [zM 5 0,⟨none,some 6,.call 155 [.t 5,.k (.c<|.lit<|.int .u8 34)]⟩] [0,1]<|.seq (qs [qI 4 0] [0,1,4]<|.block 0<|.loop<|.seq (qs [zM 7 4,zM 8 1,ql 9 8,qb 10 .lss 7 9] [0,1,4,10]<|qc 10 .skip<|.exit 0)<|.seq (.block 1<|.cut (qs [zM 13 1,zM 14 4,zA 15 (.idxs (.t 13)<|.t 14),zA 16 (.bin .eql (.t 15)<|.k<|.c<|.lit<|.int .u8 34),zM 17 16,qm 17 false 18 1,qm 17 false 19 4,zG 17 false 20 (.idxs (.t 18)<|.t 19),zG 17 false 21 (.bin .eql (.t 20)<|.k<|.c<|.lit<|.int .u8 92),qQ 22 17 21] [0,1,4,22]<|qc 22 (.reg [zM 23 0,⟨none,some 24,.call 155 [.t 23,.k (.c<|.lit<|.int .u8 92)]⟩] [0,1,4]) .skip)<|.reg [zM 25 0,zM 26 1,zM 27 4,zA 28 (.idxs (.t 26)<|.t 27),q2 29 155 25 28] [0,1,4])<|.reg [zM 11 4,qk 12 .add 11 1,zM 4 12] [0,1,4])<|.reg [zM 30 0,⟨none,some 31,.call 155 [.t 30,.k (.c<|.lit<|.int .u8 34)]⟩] []
theorem K.gG : nO pZ 158 2 2 C.gG []=true:=oK
def C.bV : gI:=qs [qX 3 10 1] [0,3]<|qs [qA 8 0 3,qF 9 1 8] [0,3,9]<|.block 0<|qs [qk 11 .eql 9 0,zM 10 11] [0,3,9,10]<|qc 10 (.reg [zM 12 0,⟨none,some 13,.call 157 [.t 12,.k (.c<|.str [110,117,108,108])]⟩] [])<|qs [qk 15 .eql 9 1,zM 14 15] [0,3,9,14]<|qc 14 (.reg [zM 16 0,qA 17 1 3,qF 18 1 17,q1 19 112 18,q2 20 157 16 19] [])<|qs [qk 22 .eql 9 2,zM 21 22] [0,3,9,21]<|qc 21 (.reg [zM 23 0,qA 24 2 3,qF 25 1 24,q2 26 158 23 25] [])<|qs [qk 28 .eql 9 3,zM 27 28] [0,3,9,27]<|qc 27 (qs [zM 29 0,⟨none,some 30,.call 155 [.t 29,.k (.c<|.lit<|.int .u8 91)]⟩] [0,3]<|.seq (qs [qA 31 4 3,qF 32 1 31,qL 33 32,qI 34 0] [0,32,33,34]<|.block 1<|.loop<|qs [qb 35 .lss 34 33] [0,32,33,34,35]<|.seq (qc 35 .skip<|.exit 1)<|.seq (.block 2<|qs [zM 36 34,qD 37 5 32 34,qT 38 5 37,qZ 5 11,zM 4 36,qS 5 5 38] [0,4,5,32,33,34]<|.cut (qs [zM 39 4,qk 40 .gtr 39 0] [0,5,32,33,34,40]<|qc 40 (.reg [zM 41 0,⟨none,some 42,.call 155 [.t 41,.k (.c<|.lit<|.int .u8 44)]⟩] [0,5,32,33,34]) .skip)<|.reg [zM 43 0,qT 44 5 5,q2 45 152 43 44] [0,32,33,34])<|.reg [qk 46 .add 34 1,zM 34 46] [0,32,33,34])<|.reg [zM 47 0,⟨none,some 48,.call 155 [.t 47,.k (.c<|.lit<|.int .u8 93)]⟩] [])<|qs [qk 50 .eql 9 4,zM 49 50] [0,3,49]<|qc 49 (qs [zM 51 0,⟨none,some 52,.call 155 [.t 51,.k (.c<|.lit<|.int .u8 123)]⟩] [0,3]<|.seq (qs [qA 53 4 3,qF 54 1 53,qL 55 54,qI 56 0] [0,3,54,55,56]<|.block 3<|.loop<|qs [qb 57 .lss 56 55] [0,3,54,55,56,57]<|.seq (qc 57 .skip<|.exit 3)<|.seq (.block 4<|qs [zM 58 56,qD 59 5 54 56,qT 60 5 59,qZ 7 12,zM 6 58,qS 5 7 60] [0,3,6,7,54,55,56]<|.cut (qs [zM 61 6,qk 62 .gtr 61 0] [0,3,6,7,54,55,56,62]<|qc 62 (.reg [zM 63 0,⟨none,some 64,.call 155 [.t 63,.k (.c<|.lit<|.int .u8 44)]⟩] [0,3,6,7,54,55,56]) .skip)<|qs [zM 65 0,qA 66 3 3,qF 67 1 66,zM 68 6,qD 69 1 67 68,qF 70 1 69,q2 71 158 65 70] [0,3,7,54,55,56]<|qs [zM 72 0,⟨none,some 73,.call 155 [.t 72,.k (.c<|.lit<|.int .u8 58)]⟩] [0,3,7,54,55,56]<|.reg [zM 74 0,qT 75 5 7,q2 76 152 74 75] [0,3,54,55,56])<|.reg [qk 77 .add 56 1,zM 56 77] [0,3,54,55,56])<|.reg [zM 78 0,⟨none,some 79,.call 155 [.t 78,.k (.c<|.lit<|.int .u8 125)]⟩] []) .skip
theorem K.bV : nO pZ 152 2 2 C.bV []=true:=oK
def C.nC : gI:=qs [qX 1 10 0,zA 2 (.mv<|.k<|.c<|.str [])] [1]<|.seq (qs [qT 4 5 1,q1 5 72 4,qO 6 5] [1,6]<|qc 6 (qr [zA 2 (.mv<|.k<|.c<|.str [])] [2]) .skip)<|qs [zA 3 (.FP 171 5 12 11)] [1,3]<|qs [qT 7 5 1,q2 8 152 3 7] [3]<|qr [q1 9 153 3,zM 2 9] [2]
theorem K.nC : nO pZ 96 1 0 C.nC [.tmp 2]=true:=oK
def C.jB : gI:=qs [qI 4 0] [0,1]<|qr [zM 5 0,zM 6 1,zA 7 (.ab5 (.t 5)<|.t 6),zM 4 7] [4]
theorem K.jB : nO pZ 179 2 0 C.jB [.tmp 4]=true:=oK
def C.strings_IndexByte : gI:=qs [qI 4 0] [0,1]<|qr [zM 5 0,zM 6 1,q2 7 179 5 6,zM 4 7] [4]
theorem K.strings_IndexByte : nO pZ 142 2 0 C.strings_IndexByte [.tmp 4]=true:=oK
def C.nD : gI:=qs [qB 2 false] [0]<|.seq (qs [zM 4 0,ql 5 4,qk 6 .neq 5 4] [0,6]<|qc 6 (qr [qB 2 false] [2]) .skip)<|.seq (qs [qI 3 0] [0,3]<|.block 0<|.loop<|.seq (qs [zM 7 3,zM 8 0,ql 9 8,qb 10 .lss 7 9] [0,3,10]<|qc 10 .skip<|.exit 0)<|.seq (.block 1<|qs [zM 13 0,zM 14 3,zA 15 (.idxs (.t 13)<|.t 14),⟨none,some 16,.call 142 [.k (.c<|.str [48,49,50,51,52,53,54,55,56,57,97,98,99,100,101,102]),.t 15]⟩,qk 17 .lss 16 0] [0,3,17]<|qc 17 (qr [qB 2 false] [2]) .skip)<|.reg [zM 11 3,qk 12 .add 11 1,zM 3 12] [0,3])<|qr [qB 2 true] [2]
theorem K.nD : nO pZ 91 1 0 C.nD [.tmp 2]=true:=oK
def C.jS : gI:=qs [qB 2 false] [0]<|.seq (qs [zM 5 0,qL 6 5,qk 7 .gtr 6 4] [0,7]<|qc 7 (qr [qB 2 false] [2]) .skip)<|.seq (qs [zM 8 0,qL 9 8,qI 10 0] [8,9,10]<|.block 0<|.loop<|qs [qb 11 .lss 10 9] [8,9,10,11]<|.seq (qc 11 .skip<|.exit 0)<|.seq (.block 1<|qs [qD 12 1 8 10,qF 13 1 12,zM 4 13] [4,8,9,10]<|qs [zM 14 4,zA 15 (.bin .neq (.t 14)<|.k<|.c<|.str [42]),zM 16 15,qm 16 true 17 4,⟨(some (16,true)),some 18,.call 91 [.t 17]⟩,zG 16 true 19 (.not<|.t 18),qP 20 16 19] [8,9,10,20]<|qc 20 (qr [qB 2 false] [2]) .skip)<|.reg [qk 21 .add 10 1,zM 10 21] [8,9,10])<|qr [qB 2 true] [2]
theorem K.jS : nO pZ 150 1 0 C.jS [.tmp 2]=true:=oK
def C.gy : gI:=qs [zA 2 (.mv<|.k<|.c<|.str [])] [0]<|.seq (qs [zM 6 0,q1 7 150 6,qO 8 7] [0,8]<|qc 8 (qr [zA 2 (.mv<|.k<|.c<|.str [])] [2]) .skip)<|qs [zA 3 (.FP 171 5 11 10)] [0,3]<|.seq (qs [zM 9 0,qL 10 9,qI 11 0] [3,9,10,11]<|.block 0<|.loop<|qs [qb 12 .lss 11 10] [3,9,10,11,12]<|.seq (qc 12 .skip<|.exit 0)<|.seq (.block 1<|qs [zM 13 11,qD 14 1 9 11,qF 15 1 14,zM 4 13,zM 5 15] [3,4,5,9,10,11]<|.cut (qs [zM 16 4,qk 17 .gtr 16 0] [3,5,9,10,11,17]<|qc 17 (.reg [⟨none,some 18,.call 155 [.t 3,.k (.c<|.lit<|.int .u8 44)]⟩] [3,5,9,10,11]) .skip)<|qs [zM 19 5,zA 20 (.bin .eql (.t 19)<|.k<|.c<|.str [42])] [3,5,9,10,11,20]<|qc 20 (.reg [zM 21 5,q2 22 157 3 21] [3,9,10,11])<|.reg [zM 23 5,q2 24 158 3 23] [3,9,10,11])<|.reg [qk 25 .add 11 1,zM 11 25] [3,9,10,11])<|qr [q1 26 153 3,zM 2 26] [2]
theorem K.gy : nO pZ 99 1 0 C.gy [.tmp 2]=true:=oK
def C.qK : gI:=qs [qX 2 10 0,qZ 4 11,qB 5 false] [1,2,4]<|.seq (qs [zM 6 1,qO 7 6,zM 8 7,zG 8 false 9 (.load true 5<|.t 2),⟨(some (8,false)),some 10,.call 72 [.t 9]⟩,zG 8 false 11 (.not<|.t 10),qQ 12 8 11] [2,4,12]<|qc 12 (qr [zA 13 (.build zN []),qS 5 4 13,qB 5 false] [4,5]) .skip)<|qr [qT 14 5 2,qS 5 4 14,qB 5 true] [4,5]
theorem K.qK : nO pZ 183 2 0 C.qK [.cell 4 true 5,.tmp 5]=true:=oK
def C.fO : gI:=qs [qX 1 10 0,qZ 2 11] [1,2]<|qs [qA 6 0 1,qF 7 1 6,qA 8 1 1,qF 9 1 8,qA 10 2 1,qF 11 1 10,zA 12 (.build zN [(0,1,.t 7),(1,1,.t 9),(2,1,.t 11)]),qZ 3 12,qS 5 3 12] [1,2,3]<|.cut (qs [qA 13 3 1,qF 14 1 13,qL 15 14,qk 16 .gtr 15 0] [1,2,3,16]<|qc 16 (qs [qA 17 3 1,qF 18 1 17,qL 19 18,zA 20 (.makes 13 1 16 [.str []] (.t 19)<|.t 19),qA 21 3 3,qU 1 21 20] [1,2,3]<|.reg [qA 22 3 3,qF 23 1 22,qA 24 3 1,qF 25 1 24,zA 26 (.copy 1 (.t 23)<|.t 25)] [1,2,3]) .skip)<|.seq (qs [qA 27 4 1,qF 28 1 27,qL 29 28,qk 30 .gtr 29 0] [1,2,3,30]<|qc 30 (qs [qA 31 4 1,qF 32 1 31,qL 33 32,zA 34 (.makes 14 5 80 [.lit (.int .i64 0),.lit (.int .i64 0),.str [],.sl 1 [],.sl 5 []] (.t 33)<|.t 33),qA 35 4 3,qU 1 35 34] [1,2,3]<|qs [qA 36 4 1,qF 37 1 36,qL 38 37,qI 39 0] [2,3,37,38,39]<|.block 0<|.loop<|qs [qb 40 .lss 39 38] [2,3,37,38,39,40]<|.seq (qc 40 .skip<|.exit 0)<|.seq (.block 1<|qs [zM 41 39,qD 42 5 37 39,qT 43 5 42,qZ 5 15,zM 4 41,qS 5 5 43] [2,3,4,5,37,38,39]<|.yF [(qA 44 4 3,[]),(qF 45 1 44,[0]),(zM 46 4,[]),(qT 47 5 5,[]),(q1 48 31 47,[3]),(qD 49 5 45 46,rr5),(qS 5 49 48,rr6)] [2,3,37,38,39])<|.reg [qk 50 .add 39 1,zM 39 50] [2,3,37,38,39]) .skip)<|qr [qT 51 5 3,qS 5 2 51] [2]
theorem K.fO : nO pZ 31 1 0 C.fO [.cell 2 true 5]=true:=oK
def C.kJ : gI:=qs [qB 2 false] [0]<|.seq (qs [zM 5 0,qL 6 5,qk 7 .gtr 6 5] [0,7]<|qc 7 (qr [qB 2 false] [2]) .skip)<|.seq (qs [zM 8 0,qL 9 8,qI 10 0] [8,9,10]<|.block 0<|.loop<|qs [qb 11 .lss 10 9] [8,9,10,11]<|.seq (qc 11 .skip<|.exit 0)<|.seq (.block 1<|qs [qD 12 1 8 10,qF 13 1 12,zM 4 13] [4,8,9,10]<|qs [zM 14 4,q1 15 73 14,qO 16 15] [8,9,10,16]<|qc 16 (qr [qB 2 false] [2]) .skip)<|.reg [qk 17 .add 10 1,zM 10 17] [8,9,10])<|qr [qB 2 true] [2]
theorem K.kJ : nO pZ 29 1 0 C.kJ [.tmp 2]=true:=oK
def C.qY : gI:=qs [qX 1 10 0,qB 2 false] [1]<|qr [qA 3 0 1,qF 4 1 3,qk 5 .geq 4 1,zM 6 5,zG 6 true 7 (.lH 0<|.t 1),zG 6 true 8 (.load false 1<|.t 7),zG 6 true 9 (.bin .leq (.t 8)<|kI 6),qP 10 6 9,zM 11 10,zG 11 true 12 (.lH 1<|.t 1),zG 11 true 13 (.load false 1<|.t 12),⟨(some (11,true)),some 14,.call 29 [.t 13]⟩,qP 15 11 14,zM 16 15,zG 16 true 17 (.lH 2<|.t 1),zG 16 true 18 (.load false 1<|.t 17),⟨(some (16,true)),some 19,.call 29 [.t 18]⟩,qP 20 16 19,zM 21 20,zG 21 true 22 (.lH 3<|.t 1),zG 21 true 23 (.load true 5<|.t 22),⟨(some (21,true)),some 24,.call 72 [.t 23]⟩,qP 25 21 24,zM 2 25] [2]
theorem K.qY : nO pZ 182 1 0 C.qY [.tmp 2]=true:=oK
def C.qH : gI:=qs [zA 2 (.mv<|.k<|.c<|.str [])] [0]<|.seq (qs [zM 3 0] [3]<|.block 0<|qs [qk 5 .eql 3 1,zM 4 5] [3,4]<|qc 4 (qr [zA 2 (.mv<|.k<|.c<|.str [97,100,100])] [2])<|qs [qk 7 .eql 3 2,zM 6 7] [3,6]<|qc 6 (qr [zA 2 (.mv<|.k<|.c<|.str [114,101,109,111,118,101])] [2])<|qs [qk 9 .eql 3 3,zM 8 9] [3,8]<|qc 8 (qr [zA 2 (.mv<|.k<|.c<|.str [114,101,112,108,97,99,101])] [2])<|qs [qk 11 .eql 3 4,zM 10 11] [3,10]<|qc 10 (qr [zA 2 (.mv<|.k<|.c<|.str [109,111,118,101])] [2])<|qs [qk 13 .eql 3 5,zM 12 13] [3,12]<|qc 12 (qr [zA 2 (.mv<|.k<|.c<|.str [99,111,112,121])] [2])<|qs [qk 15 .eql 3 6,zM 14 15] [14]<|qc 14 (qr [zA 2 (.mv<|.k<|.c<|.str [116,101,115,116])] [2]) .skip)<|qr [zA 2 (.mv<|.k<|.c<|.str [])] [2]
theorem K.qH : nO pZ 149 1 0 C.qH [.tmp 2]=true:=oK
def C.jW : gI:=qs [qZ 2 10] [0,2]<|qs [zA 6 (.build zN [(0,1,kI 3)]),qZ 3 11,qS 5 3 6] [0,2,3]<|.seq (qs [zM 7 0,qL 8 7,qI 9 0] [2,3,7,8,9]<|.block 0<|.loop<|qs [qb 10 .lss 9 8] [2,3,7,8,9,10]<|.seq (qc 10 .skip<|.exit 0)<|.seq (.block 1<|qs [qD 11 1 7 9,qF 12 1 11,zM 5 12] [2,3,5,7,8,9]<|.reg [qA 13 4 3,qF 14 1 13,zM 15 5,zA 16 (.build zN [(0,1,kI 2),(2,1,.t 15)]),zA 17 (.oD 12 5 1 [.lit (.int .i64 0),.lit (.int .i64 0),.str [],.sl 1 [],.sl 5 []] [(0,.t 16)]),zA 18 (.append 13 5 80 (.t 14)<|.t 17),qA 19 4 3,qU 1 19 18] [2,3,7,8,9])<|.reg [qk 20 .add 9 1,zM 9 20] [2,3,7,8,9])<|qr [qT 21 5 3,qS 5 2 21] [2]
theorem K.jW : nO pZ 184 1 0 C.jW [.cell 2 true 5]=true:=oK
def C.pO : gI:=qs [qX 1 10 0,qZ 2 11,qB 3 false] [1,2]<|.seq (qs [qT 4 8 1,q1 5 182 4,qO 6 5] [1,2,6]<|qc 6 (qr [zA 7 (.build zN []),qS 5 2 7,qB 3 false] [2,3]) .skip)<|.seq (.yF [(zA 8 (.oD 12 1 4 [.str []] [(0,.k (.c<|.str [102,114,111,109])),(1,.k (.c<|.str [111,112])),(2,.k (.c<|.str [112,97,116,104])),(3,.k (.c<|.str [118,97,108,117,101]))]),[]),(qA 9 2 1,[]),(qF 10 1 9,[1]),(q1 11 184 10,[1,2]),(qA 12 0 1,[]),(qF 13 1 12,[4]),(q1 14 149 13,[1,2,3,4,5]),(zA 15 (.build zN [(0,1,kI 2),(2,1,.t 14)]),[1,2,3,4,5,6]),(qA 16 1 1,[]),(qF 17 1 16,[8]),(q1 18 184 17,[1,2,3,4,5,6,8,9]),(qA 19 3 1,[]),(qT 20 5 19,[11]),(q1 21 31 20,[1,2,3,4,5,6,8,9,10,11,12]),(zA 22 (.oD 13 5 4 [.lit (.int .i64 0),.lit (.int .i64 0),.str [],.sl 1 [],.sl 5 []] [(0,.t 11),(1,.t 15),(2,.t 18),(3,.t 21)]),[1,2,3,4,5,6,7,8,9,10,11,12,13]),(zA 23 (.build zN [(0,1,kI 4),(3,1,.t 8),(4,1,.t 22)]),ak0),(⟨none,some 24,.call 183 [.t 23,.k (.c<|.lit<|.bool true)]⟩,ak1),(qE 25 24 0,ajp),(qE 26 24 1,ajp),(qS 5 2 25,ahz),(zM 3 26,ahA)] [2,3]) .ret
theorem K.pO : nO pZ 154 1 0 C.pO [.cell 2 true 5,.tmp 3]=true:=oK
def C.jT : gI:=qs [zA 2 (.mv<|.k<|.c<|.str []),qB 3 false] [0]<|qs [zA 4 (.FP 171 5 11 10)] [0,4]<|.seq (qs [zM 9 0,qL 10 9,qI 11 0] [4,9,10,11]<|.block 0<|.loop<|qs [qb 12 .lss 11 10] [4,9,10,11,12]<|.seq (qc 12 .skip<|.exit 0)<|.seq (.block 1<|qs [qD 13 8 9 11,qT 14 8 13,zA 6 (.alloc 12 [xI 0,.mM 1,.mM 1,xI 0,xI 0,.c (.str []),.mM 1,.mM 5]),qS 8 6 14] [4,6,9,10,11]<|qs [qT 16 8 6,q1 17 154 16,zM 15 17,qE 18 15 0,qE 19 15 1,qZ 7 13,qS 5 7 18,zM 8 19] [4,7,8,9,10,11]<|.seq (qs [zM 20 8,qO 21 20] [4,7,9,10,11,21]<|qc 21 (qr [zA 2 (.mv<|.k<|.c<|.str []),qB 3 false] [2,3]) .skip)<|qs [qT 22 5 7,q2 23 152 4 22] [4,9,10,11]<|.reg [⟨none,some 24,.call 155 [.t 4,.k (.c<|.lit<|.int .u8 59)]⟩] [4,9,10,11])<|.reg [qk 25 .add 11 1,zM 11 25] [4,9,10,11])<|qr [q1 26 153 4,zM 2 26,qB 3 true] [2,3]
theorem K.jT : nO pZ 97 1 0 C.jT [.tmp 2,.tmp 3]=true:=oK
def C.je : gI:=qs [qB 2 false] [0]<|.seq (qs [zM 5 0,qL 6 5,qk 7 .gtr 6 12] [0,7]<|qc 7 (qr [qB 2 false] [2]) .skip)<|.seq (qs [zM 8 0,qL 9 8,qI 10 0] [8,9,10]<|.block 0<|.loop<|qs [qb 11 .lss 10 9] [8,9,10,11]<|.seq (qc 11 .skip<|.exit 0)<|.seq (.block 1<|qs [qD 12 8 8 10,qT 13 8 12,zA 4 (.alloc 10 [xI 0,.mM 1,.mM 1,xI 0,xI 0,.c (.str []),.mM 1,.mM 5]),qS 8 4 13] [4,8,9,10]<|qs [qT 14 8 4,q1 15 182 14,qO 16 15] [8,9,10,16]<|qc 16 (qr [qB 2 false] [2]) .skip)<|.reg [qk 17 .add 10 1,zM 10 17] [8,9,10])<|qr [qB 2 true] [2]
theorem K.je : nO pZ 151 1 0 C.je [.tmp 2]=true:=oK
def C.kH : gI:=qs [qB 2 false] [0]<|.seq (qs [zM 4 0,zA 5 (.bin .eql (.t 4)<|.k<|.c<|.str []),zM 6 5,qm 6 false 7 0,zG 6 false 8 (.lens<|.t 7),zG 6 false 9 (.bin .gtr (.t 8)<|kI 8),qQ 10 6 9] [0,10]<|qc 10 (qr [qB 2 false] [2]) .skip)<|.seq (qs [qI 3 0] [0,3]<|.block 0<|.loop<|.seq (qs [zM 11 3,zM 12 0,ql 13 12,qb 14 .lss 11 13] [0,3,14]<|qc 14 .skip<|.exit 0)<|.seq (.block 1<|qs [zM 17 0,zM 18 3,zA 19 (.idxs (.t 17)<|.t 18),zA 20 (.bin .lss (.t 19)<|.k<|.c<|.lit<|.int .u8 97),zM 21 20,qm 21 false 22 0,qm 21 false 23 3,zG 21 false 24 (.idxs (.t 22)<|.t 23),zG 21 false 25 (.bin .gtr (.t 24)<|.k<|.c<|.lit<|.int .u8 122),qQ 26 21 25,zM 27 26,qm 27 true 28 0,qm 27 true 29 3,zG 27 true 30 (.idxs (.t 28)<|.t 29),zG 27 true 31 (.bin .lss (.t 30)<|.k<|.c<|.lit<|.int .u8 48),qm 27 true 32 31,qm 32 false 33 0,qm 32 false 34 3,zG 32 false 35 (.idxs (.t 33)<|.t 34),zG 32 false 36 (.bin .gtr (.t 35)<|.k<|.c<|.lit<|.int .u8 57),zG 27 true 37 (.pick (.t 32) (kB true)<|.t 36),qP 38 27 37] [0,3,38]<|qc 38 (qr [qB 2 false] [2]) .skip)<|.reg [zM 15 3,qk 16 .add 15 1,zM 3 16] [0,3])<|qr [qB 2 true] [2]
theorem K.kH : nO pZ 71 1 0 C.kH [.tmp 2]=true:=oK
def C.lV : gI:=qs [qX 1 10 0,qB 2 false] [1]<|qr [qA 3 0 1,qF 4 1 3,qk 5 .geq 4 1,zM 6 5,zG 6 true 7 (.lH 0<|.t 1),zG 6 true 8 (.load false 1<|.t 7),zG 6 true 9 (.bin .leq (.t 8)<|kI 5),qP 10 6 9,zM 11 10,zG 11 true 12 (.lH 1<|.t 1),zG 11 true 13 (.load false 1<|.t 12),⟨(some (11,true)),some 14,.call 71 [.t 13]⟩,qP 15 11 14,zM 16 15,zG 16 true 17 (.lH 2<|.t 1),zG 16 true 18 (.load false 1<|.t 17),⟨(some (16,true)),some 19,.call 150 [.t 18]⟩,qP 20 16 19,zM 21 20,zG 21 true 22 (.lH 3<|.t 1),zG 21 true 23 (.load false 1<|.t 22),⟨(some (21,true)),some 24,.call 150 [.t 23]⟩,qP 25 21 24,zM 26 25,zG 26 true 27 (.lH 4<|.t 1),zG 26 true 28 (.load true 5<|.t 27),⟨(some (26,true)),some 29,.call 72 [.t 28]⟩,qP 30 26 29,zM 31 30,zG 31 true 32 (.lH 9<|.t 1),zG 31 true 33 (.load false 1<|.t 32),⟨(some (31,true)),some 34,.call 151 [.t 33]⟩,qP 35 31 34,zM 2 35] [2]
theorem K.lV : nO pZ 95 1 0 C.lV [.tmp 2]=true:=oK
def C.lK : gI:=qs [zA 2 (.mv<|.k<|.c<|.str [])] [0]<|.seq (qs [zM 3 0] [3]<|.block 0<|qs [qk 5 .eql 3 1,zM 4 5] [3,4]<|qc 4 (qr [zA 2 (.mv<|.k<|.c<|.str [103,101,116])] [2])<|qs [qk 7 .eql 3 2,zM 6 7] [3,6]<|qc 6 (qr [zA 2 (.mv<|.k<|.c<|.str [112,117,116])] [2])<|qs [qk 9 .eql 3 3,zM 8 9] [3,8]<|qc 8 (qr [zA 2 (.mv<|.k<|.c<|.str [100,101,108,101,116,101])] [2])<|qs [qk 11 .eql 3 4,zM 10 11] [3,10]<|qc 10 (qr [zA 2 (.mv<|.k<|.c<|.str [112,97,116,99,104])] [2])<|qs [qk 13 .eql 3 5,zM 12 13] [12]<|qc 12 (qr [zA 2 (.mv<|.k<|.c<|.str [109,101,114,103,101])] [2]) .skip)<|qr [zA 2 (.mv<|.k<|.c<|.str [])] [2]
theorem K.lK : nO pZ 52 1 0 C.lK [.tmp 2]=true:=oK
def C.aV : gI:=qs [qX 1 10 0,zA 2 (.mv<|.k<|.c<|.str [])] [1]<|.seq (qs [qT 7 10 1,q1 8 95 7,qO 9 8] [1,9]<|qc 9 (qr [zA 2 (.mv<|.k<|.c<|.str [])] [2]) .skip)<|qs [qA 10 0 1,qF 11 1 10,qk 12 .eql 11 2,zM 13 12,zG 13 false 14 (.lH 0<|.t 1),zG 13 false 15 (.load false 1<|.t 14),zG 13 false 16 (.bin .eql (.t 15)<|kI 5),qQ 17 13 16,zM 3 17] [1,3]<|.cut (qs [zM 18 3,qO 19 18,zM 20 19,zG 20 true 21 (.lH 4<|.t 1),zG 20 true 22 (.lH 0<|.t 21),zG 20 true 23 (.load false 1<|.t 22),zG 20 true 24 (.bin .neq (.t 23)<|kI 0),qP 25 20 24,zM 26 25,zG 26 false 27 (.lH 0<|.t 1),zG 26 false 28 (.load false 1<|.t 27),zG 26 false 29 (.bin .neq (.t 28)<|kI 4),qm 26 false 30 29,zG 30 true 31 (.lH 9<|.t 1),zG 30 true 32 (.load false 1<|.t 31),zG 30 true 33 (.len<|.t 32),zG 30 true 34 (.bin .gtr (.t 33)<|kI 0),zG 26 false 35 (.pick (.t 30) (.t 34)<|kB false),qQ 36 26 35] [1,36]<|qc 36 (qr [zA 2 (.mv<|.k<|.c<|.str [])] [2]) .skip)<|qs [qA 37 4 1,qT 38 5 37,q1 39 96 38,zM 4 39] [1,4]<|.cut (qs [qA 40 0 1,qF 41 1 40,qk 42 .eql 41 4] [1,4,42]<|qc 42 (qs [qA 44 9 1,qF 45 1 44,q1 46 97 45,zM 43 46,qE 47 43 0,qE 48 43 1,zM 5 47,zM 6 48] [1,5,6]<|.seq (qs [zM 49 6,qO 50 49] [1,5,50]<|qc 50 (qr [zA 2 (.mv<|.k<|.c<|.str [])] [2]) .skip)<|.reg [zM 51 5,zM 4 51] [1,4]) .skip)<|.seq (.yF [(qA 52 0 1,[]),(qF 53 1 52,[0]),(q1 54 52 53,[0,1]),(qA 55 1 1,[]),(qF 56 1 55,[3]),(qA 57 2 1,[]),(qF 58 1 57,[5]),(q1 59 99 58,[0,1,2,5,6]),(qA 60 3 1,[]),(qF 61 1 60,[8]),(q1 62 99 61,[0,1,2,5,6,7,8,9]),(zM 63 4,[]),(zA 64 (.oD 11 1 5 [.str []] [(0,.t 54),(1,.t 56),(2,.t 59),(3,.t 62),(4,.t 63)]),acK),(⟨none,some 65,.call 98 [.t 64,.k (.c<|.str [32])]⟩,acL),(zM 2 65,afD)] [2]) .ret
theorem K.aV : nO pZ 56 1 0 C.aV [.tmp 2]=true:=oK
def C.jy : gI:=qs [qX 1 10 0,zA 2 (.mv<|.k<|.mM 1),qB 3 false] [1]<|.seq (qs [qA 7 0 1,qF 8 1 7,qk 9 .neq 8 3] [1,9]<|qc 9 (qr [zA 2 (.mv<|.k<|.mM 1),qB 3 false] [2,3]) .skip)<|qs [zA 4 (.mv<|.k<|.mM 1)] [1,4]<|.seq (qs [qA 10 4 1,qF 11 1 10,qL 12 11,qI 13 0] [4,11,12,13]<|.block 0<|.loop<|qs [qb 14 .lss 13 12] [4,11,12,13,14]<|.seq (qc 14 .skip<|.exit 0)<|.seq (.block 1<|qs [qD 15 5 11 13,qT 16 5 15,qZ 6 11,qS 5 6 16] [4,6,11,12,13]<|.seq (qs [qA 17 0 6,qF 18 1 17,qk 19 .neq 18 2] [4,6,11,12,13,19]<|qc 19 (qr [zA 2 (.mv<|.k<|.mM 1),qB 3 false] [2,3]) .skip)<|.reg [zM 20 4,qA 21 2 6,qF 22 1 21,zA 23 (.oD 12 1 1 [.str []] [(0,.t 22)]),zA 24 (.append 13 1 16 (.t 20)<|.t 23),zM 4 24] [4,11,12,13])<|.reg [qk 25 .add 13 1,zM 13 25] [4,11,12,13])<|qr [zM 26 4,zM 27 4,q1 28 29 27,zM 2 26,zM 3 28] [2,3]
theorem K.jy : nO pZ 148 1 0 C.jy [.tmp 2,.tmp 3]=true:=oK
def C.DX : gI:=qs [qI 8 0,qB 9 false] [0,1,2,3]<|.seq (qs [zM 11 1,zM 10 11] [0,2,3,10]<|.block 0<|.loop<|.seq (qs [zM 12 10,zM 13 2,qb 14 .leq 12 13] [0,2,3,10,14]<|qc 14 .skip<|.exit 0)<|.seq (.block 1<|qs [zM 17 3,zM 18 10,⟨none,some 19,.Iz (.t 17) [.t 18]⟩,zM 20 0,qb 21 .eql 19 20] [0,2,3,10,21]<|qc 21 (qr [zM 22 10,zM 8 22,qB 9 true] [8,9]) .skip)<|.reg [zM 15 10,qk 16 .add 15 1,zM 10 16] [0,2,3,10])<|qr [qI 8 0,qB 9 false] [8,9]
theorem K.gV : nO pZ 51 4 0 C.DX [.tmp 8,.tmp 9]=true:=oK
def C.slices_Equal_string : gI:=qs [qB 4 false] [0,1]<|.seq (qs [zM 6 0,qL 7 6,zM 8 1,qL 9 8,qb 10 .neq 7 9] [0,1,10]<|qc 10 (qr [qB 4 false] [4]) .skip)<|.seq (qs [zM 11 0,qL 12 11,qI 13 0] [0,1,12,13]<|.block 0<|.loop<|qs [qb 14 .lss 13 12] [0,1,12,13,14]<|.seq (qc 14 .skip<|.exit 0)<|.seq (.block 1<|qs [zM 15 13,zM 5 15] [0,1,5,12,13]<|.seq (.yF [(zM 16 0,[]),(zM 17 5,[]),(qD 18 1 16 17,[0,1]),(qF 19 1 18,[0,1,2]),(zM 20 1,[]),(zM 21 5,[]),(qD 22 1 20 21,[4,5]),(qF 23 1 22,[4,5,6]),(qb 24 .neq 19 23,ZI)] [0,1,12,13,24])<|qc 24 (qr [qB 4 false] [4]) .skip)<|.reg [qk 25 .add 13 1,zM 13 25] [0,1,12,13])<|qr [qB 4 true] [4]
theorem K.slices_Equal_string : nO pZ 147 2 0 C.slices_Equal_string [.tmp 4]=true:=oK
def C.pM : gI:=qs [qX 1 10 0,zA 2 (.alloc 11 [xI 0,.mM 1,.mM 1,xI 0,xI 0,.c (.str []),.mM 1,.mM 5]),qB 3 false] [1,2]<|.seq (qs [qT 8 5 1,q1 9 72 8,qO 10 9,zM 11 10,zG 11 false 12 (.lH 0<|.t 1),zG 11 false 13 (.load false 1<|.t 12),zG 11 false 14 (.bin .neq (.t 13)<|kI 4),qQ 15 11 14,zM 16 15,zG 16 false 17 (.lH 3<|.t 1),zG 16 false 18 (.load false 1<|.t 17),zG 16 false 19 (.oD 12 1 4 [.str []] [(0,.k (.c<|.str [102,114,111,109])),(1,.k (.c<|.str [111,112])),(2,.k (.c<|.str [112,97,116,104])),(3,.k (.c<|.str [118,97,108,117,101]))]),⟨(some (16,false)),some 20,.call 147 [.t 18,.t 19]⟩,zG 16 false 21 (.not<|.t 20),qQ 22 16 21] [1,2,22]<|qc 22 (qr [zA 23 (.build [xI 0,.mM 1,.mM 1,xI 0,xI 0,.c (.str []),.mM 1,.mM 5] []),qS 8 2 23,qB 3 false] [2,3]) .skip)<|qs [qA 25 4 1,qF 26 1 25,zA 27 (.vK 5 (.t 26)<|kI 0),qT 28 5 27,q1 29 148 28,zM 24 29,qE 30 24 0,qE 31 24 1,zM 4 30,zM 5 31] [1,2,4,5]<|.seq (qs [zM 32 5,qO 33 32,zM 34 33,zG 34 false 35 (.lH 4<|.t 1),zG 34 false 36 (.load false 1<|.t 35),zG 34 false 37 (.vK 5 (.t 36)<|kI 1),zG 34 false 38 (.lH 0<|.t 37),zG 34 false 39 (.load false 1<|.t 38),zG 34 false 40 (.bin .neq (.t 39)<|kI 2),qQ 41 34 40] [1,2,4,41]<|qc 41 (qr [zA 42 (.build [xI 0,.mM 1,.mM 1,xI 0,xI 0,.c (.str []),.mM 1,.mM 5] []),qS 8 2 42,qB 3 false] [2,3]) .skip)<|qs [qA 44 4 1,qF 45 1 44,zA 46 (.vK 5 (.t 45)<|kI 1),qA 47 2 46,qF 48 1 47,⟨none,some 49,.call 51 [.t 48,kI 1,kI 6,.k (.fn 149 [])]⟩,zM 43 49,qE 50 43 0,qE 51 43 1,zM 6 50,zM 5 51] [1,2,4,5,6]<|.seq (qs [zM 52 5,qO 53 52] [1,2,4,6,53]<|qc 53 (qr [zA 54 (.build [xI 0,.mM 1,.mM 1,xI 0,xI 0,.c (.str []),.mM 1,.mM 5] []),qS 8 2 54,qB 3 false] [2,3]) .skip)<|qs [qA 56 4 1,qF 57 1 56,zA 58 (.vK 5 (.t 57)<|kI 2),qT 59 5 58,q1 60 148 59,zM 55 60,qE 61 55 0,qE 62 55 1,zM 7 61,zM 5 62] [1,2,4,5,6,7]<|.seq (qs [zM 63 5,qO 64 63] [1,2,4,6,7,64]<|qc 64 (qr [zA 65 (.build [xI 0,.mM 1,.mM 1,xI 0,xI 0,.c (.str []),.mM 1,.mM 5] []),qS 8 2 65,qB 3 false] [2,3]) .skip)<|qr [zM 66 6,zM 67 7,zM 68 4,qA 69 4 1,qF 70 1 69,zA 71 (.vK 5 (.t 70)<|kI 3),qT 72 5 71,q1 73 31 72,zA 74 (.build [xI 0,.mM 1,.mM 1,xI 0,xI 0,.c (.str []),.mM 1,.mM 5] [(0,1,.t 66),(1,1,.t 67),(2,1,.t 68),(3,5,.t 73)]),qS 8 2 74,qB 3 true] [2,3]
theorem K.pM : nO pZ 94 1 0 C.pM [.cell 2 true 8,.tmp 3]=true:=oK
def C.dO : gI:=qs [qZ 2 10,qB 3 false] [0,2]<|qs [zM 8 0,qN 9 8,qA 10 1 9,qF 11 1 10,zM 4 11] [0,2,4]<|.seq (.block 0<|.loop<|.seq (qs [zM 12 4,zM 13 0,qN 14 13,qA 15 0 14,qF 16 1 15,ql 17 16,qb 18 .lss 12 17,zM 19 18,qm 19 true 20 0,zG 19 true 21 (.Es<|.t 20),zG 19 true 22 (.lH 0<|.t 21),zG 19 true 23 (.load false 1<|.t 22),qm 19 true 24 4,zG 19 true 25 (.idxs (.t 23)<|.t 24),zG 19 true 26 (.bin .eql (.t 25)<|.k<|.c<|.lit<|.int .u8 45),qm 19 true 27 26,qm 27 false 28 0,zG 27 false 29 (.Es<|.t 28),zG 27 false 30 (.lH 0<|.t 29),zG 27 false 31 (.load false 1<|.t 30),qm 27 false 32 4,zG 27 false 33 (.idxs (.t 31)<|.t 32),zG 27 false 34 (.bin .geq (.t 33)<|.k<|.c<|.lit<|.int .u8 48),qm 27 false 35 34,qm 35 true 36 0,zG 35 true 37 (.Es<|.t 36),zG 35 true 38 (.lH 0<|.t 37),zG 35 true 39 (.load false 1<|.t 38),qm 35 true 40 4,zG 35 true 41 (.idxs (.t 39)<|.t 40),zG 35 true 42 (.bin .leq (.t 41)<|.k<|.c<|.lit<|.int .u8 57),zG 27 false 43 (.pick (.t 35) (.t 42)<|kB false),zG 19 true 44 (.pick (.t 27) (kB true)<|.t 43),qP 45 19 44] [0,2,4,45]<|qc 45 .skip<|.exit 0)<|.block 1<|.reg [zM 46 4,qk 47 .add 46 1,zM 4 47] [0,2,4])<|.seq (.yF [(zM 48 0,[]),(qN 49 48,[0]),(qA 50 0 49,[0,1]),(qF 51 1 50,[0,1,2]),(zM 52 0,[]),(qN 53 52,[4]),(qA 54 1 53,[4,5]),(qF 55 1 54,[4,5,6]),(zM 56 4,[]),(zA 57 (.GM (.t 51) (some<|.t 55)<|some<|.t 56),rr9),(zM 5 57,SI)] [0,2,4,5])<|qs [zM 59 5,q1 60 180 59,zM 58 60,qE 61 58 0,qE 62 58 1,zM 6 61,zM 7 62] [0,2,4,5,6,7]<|.seq (qs [zM 63 7,zA 64 (.TM true<|.t 63),zM 65 64,qm 65 false 66 6,⟨(some (65,false)),some 67,.call 112 [.t 66]⟩,qm 65 false 68 5,zG 65 false 69 (.bin .neq (.t 67)<|.t 68),qQ 70 65 69] [0,2,4,6,70]<|qc 70 (qr [zA 71 (.build zN []),qS 5 2 71,qB 3 false] [2,3]) .skip)<|qs [zM 72 0,zM 73 4,qN 74 72,qA 75 1 74,qU 1 75 73] [2,6]<|qr [zM 76 6,zA 77 (.build zN [(0,1,kI 1),(1,1,.t 76)]),qS 5 2 77,qB 3 true] [2,3]
theorem K.dO : nO pZ 145 1 1 C.dO [.cell 2 true 5,.tmp 3]=true:=oK
def C.iJ : gI:=qs [qB 4 false] [0,1]<|.seq (.seq (.yF [(zM 5 0,[]),(qN 6 5,[0]),(qA 7 0 6,[0,1]),(qF 8 1 7,[0,1,2]),(zM 9 0,[]),(qN 10 9,[4]),(qA 11 1 10,[4,5]),(qF 12 1 11,[4,5,6]),(zA 13 (.GM (.t 8) (some<|.t 12) none),ZI),(zM 14 1,[]),(q2 15 146 13 14,SI),(qO 16 15,acJ)] [0,1,16])<|qc 16 (qr [qB 4 false] [4]) .skip)<|qs [zM 17 0,qN 18 17,qA 19 1 18,qF 20 1 19,zM 21 1,ql 22 21,qb 23 .add 20 22,qN 24 17,qA 25 1 24,qU 1 25 23] []<|qr [qB 4 true] [4]
theorem K.iJ : nO pZ 93 2 1 C.iJ [.tmp 4]=true:=oK
def C.bQ : gI:=qs [zA 2 (.mv<|.k<|.c<|.str []),qB 3 false] [0]<|.seq (qs [zM 6 0,⟨none,some 7,.call 93 [.t 6,.k (.c<|.str [34])]⟩,qO 8 7] [0,8]<|qc 8 (qr [zA 2 (.mv<|.k<|.c<|.str []),qB 3 false] [2,3]) .skip)<|qs [zA 4 (.FP 171 5 11 10)] [0,4]<|.seq (.block 0<|.loop<|.seq (.seq (.yF [(zM 9 0,[]),(qN 10 9,[0]),(qA 11 1 10,[0,1]),(qF 12 1 11,[0,1,2]),(zM 13 0,[]),(qN 14 13,[4]),(qA 15 0 14,[4,5]),(qF 16 1 15,[4,5,6]),(ql 17 16,[4,5,6,7]),(qb 18 .lss 12 17,rr9)] [0,4,18])<|qc 18 .skip<|.exit 0)<|.block 1<|.seq (.yF [(zM 19 0,[]),(qN 20 19,[0]),(qA 21 0 20,[0,1]),(qF 22 1 21,[0,1,2]),(zM 23 0,[]),(qN 24 23,[4]),(qA 25 1 24,[4,5]),(qF 26 1 25,[4,5,6]),(zA 27 (.idxs (.t 22)<|.t 26),ZI),(zM 5 27,rr9)] [0,4,5])<|qs [zM 28 0,qN 29 28,qA 30 1 29,qF 31 1 30,qk 32 .add 31 1,qN 33 28,qA 34 1 33,qU 1 34 32] [0,4,5]<|.seq (qs [zM 35 5,zA 36 (.bin .eql (.t 35)<|.k<|.c<|.lit<|.int .u8 34)] [0,4,5,36]<|qc 36 (qr [q1 37 153 4,zM 2 37,qB 3 true] [2,3]) .skip)<|.cut (qs [zM 38 5,zA 39 (.bin .eql (.t 38)<|.k<|.c<|.lit<|.int .u8 92)] [0,4,5,39]<|qc 39 (.seq (.seq (.yF [(zM 40 0,[]),(qN 41 40,[0]),(qA 42 1 41,[0,1]),(qF 43 1 42,[0,1,2]),(zM 44 0,[]),(qN 45 44,[4]),(qA 46 0 45,[4,5]),(qF 47 1 46,[4,5,6]),(ql 48 47,[4,5,6,7]),(qb 49 .eql 43 48,rr9),(zM 50 49,SI),(qm 50 false 51 0,acJ),(zG 50 false 52 (.Es<|.t 51),acK),(zG 50 false 53 (.lH 0<|.t 52),acL),(zG 50 false 54 (.load false 1<|.t 53),afD),(qm 50 false 55 0,acJ),(zG 50 false 56 (.Es<|.t 55),[0,1,2,3,4,5,6,7,8,9,10,15]),(zG 50 false 57 (.lH 1<|.t 56),[0,1,2,3,4,5,6,7,8,9,10,15,16]),(zG 50 false 58 (.load false 1<|.t 57),[0,1,2,3,4,5,6,7,8,9,10,15,16,17]),(zG 50 false 59 (.idxs (.t 54)<|.t 58),ahz),(zG 50 false 60 (.bin .neq (.t 59)<|.k<|.c<|.lit<|.int .u8 34),ahA),(qm 50 false 61 60,ak2),(qm 61 true 62 0,ak3),(zG 61 true 63 (.Es<|.t 62),ams),(zG 61 true 64 (.lH 0<|.t 63),amu),(zG 61 true 65 (.load false 1<|.t 64),amv),(qm 61 true 66 0,ak3),(zG 61 true 67 (.Es<|.t 66),[0,1,2,3,4,5,6,7,8,9,10,11,12,13,14,15,16,17,18,19,20,21,26]),(zG 61 true 68 (.lH 1<|.t 67),[0,1,2,3,4,5,6,7,8,9,10,11,12,13,14,15,16,17,18,19,20,21,26,27]),(zG 61 true 69 (.load false 1<|.t 68),[0,1,2,3,4,5,6,7,8,9,10,11,12,13,14,15,16,17,18,19,20,21,26,27,28]),(zG 61 true 70 (.idxs (.t 65)<|.t 69),amw),(zG 61 true 71 (.bin .neq (.t 70)<|.k<|.c<|.lit<|.int .u8 92),amx),(zG 50 false 72 (.pick (.t 61) (.t 71)<|kB false),amy),(qQ 73 50 72,amz)] [0,4,73])<|qc 73 (qr [zA 2 (.mv<|.k<|.c<|.str []),qB 3 false] [2,3]) .skip)<|.seq (.yF [(zM 74 0,[]),(qN 75 74,[0]),(qA 76 0 75,[0,1]),(qF 77 1 76,[0,1,2]),(zM 78 0,[]),(qN 79 78,[4]),(qA 80 1 79,[4,5]),(qF 81 1 80,[4,5,6]),(zA 82 (.idxs (.t 77)<|.t 81),ZI),(zM 5 82,rr9)] [0,4,5])<|.reg [zM 83 0,qN 84 83,qA 85 1 84,qF 86 1 85,qk 87 .add 86 1,qN 88 83,qA 89 1 88,qU 1 89 87] [0,4,5]) .skip)<|.reg [zM 90 5,q2 91 155 4 90] [0,4])<|qr [zA 2 (.mv<|.k<|.c<|.str []),qB 3 false] [2,3]
theorem K.bQ : nO pZ 143 1 1 C.bQ [.tmp 2,.tmp 3]=true:=oK
def C.iw : gI:=qs [qZ 4 10,qB 5 false] [0,1,4]<|.seq (.seq (.yF [(zM 8 1,[]),(qk 9 .gtr 8 5,[0]),(zM 10 9,[0,1]),(qm 10 false 11 0,[0,1,2]),(zG 10 false 12 (.Es<|.t 11),rr4),(zG 10 false 13 (.lH 1<|.t 12),rr5),(zG 10 false 14 (.load false 1<|.t 13),rr6),(qm 10 false 15 0,[0,1,2]),(zG 10 false 16 (.Es<|.t 15),[0,1,2,7]),(zG 10 false 17 (.lH 0<|.t 16),[0,1,2,7,8]),(zG 10 false 18 (.load false 1<|.t 17),[0,1,2,7,8,9]),(zG 10 false 19 (.lens<|.t 18),[0,1,2,7,8,9,10]),(zG 10 false 20 (.bin .geq (.t 14)<|.t 19),acK),(qQ 21 10 20,acL)] [0,1,4,21])<|qc 21 (qr [zA 22 (.build zN []),qS 5 4 22,qB 5 false] [4,5]) .skip)<|.seq (.seq (.yF [(zM 23 0,[]),(qN 24 23,[0]),(qA 25 0 24,[0,1]),(qF 26 1 25,[0,1,2]),(zM 27 0,[]),(qN 28 27,[4]),(qA 29 1 28,[4,5]),(qF 30 1 29,[4,5,6]),(zA 31 (.idxs (.t 26)<|.t 30),ZI)] [0,1,4,31])<|.block 0<|qs [zA 33 (.bin .eql (.t 31)<|.k<|.c<|.lit<|.int .u8 110),zM 32 33] [0,1,4,31,32]<|qc 32 (qr [zA 34 (.build zN []),zM 35 0,⟨none,some 36,.call 93 [.t 35,.k (.c<|.str [110,117,108,108])]⟩,qS 5 4 34,zM 5 36] [4,5])<|qs [zA 38 (.bin .eql (.t 31)<|.k<|.c<|.lit<|.int .u8 34),zM 37 38] [0,1,4,31,37]<|qc 37 (qs [zM 40 0,q1 41 143 40,zM 39 41,qE 42 39 0,qE 43 39 1,zM 6 42,zM 7 43] [4,6,7]<|qr [zM 44 6,zA 45 (.build zN [(0,1,kI 2),(2,1,.t 44)]),zM 46 7,qS 5 4 45,zM 5 46] [4,5])<|qs [zA 48 (.bin .eql (.t 31)<|.k<|.c<|.lit<|.int .u8 91),zM 47 48] [0,1,4,31,47]<|qc 47 (qs [zM 49 0,qN 50 49,qA 51 1 50,qF 52 1 51,qk 53 .add 52 1,qN 54 49,qA 55 1 54,qU 1 55 53] [0,1,4]<|qr [zM 56 0,zM 57 1,⟨none,some 58,.call 144 [.t 56,kI 3,.t 57,.k (.c<|.str [93])]⟩,qE 59 58 0,qE 60 58 1,qS 5 4 59,zM 5 60] [4,5])<|qs [zA 62 (.bin .eql (.t 31)<|.k<|.c<|.lit<|.int .u8 123),zM 61 62] [0,1,4,61]<|qc 61 (qs [zM 63 0,qN 64 63,qA 65 1 64,qF 66 1 65,qk 67 .add 66 1,qN 68 63,qA 69 1 68,qU 1 69 67] [0,1,4]<|qr [zM 70 0,zM 71 1,⟨none,some 72,.call 144 [.t 70,kI 4,.t 71,.k (.c<|.str [125])]⟩,qE 73 72 0,qE 74 72 1,qS 5 4 73,zM 5 74] [4,5]) .skip)<|qr [zM 75 0,q1 76 145 75,qE 77 76 0,qE 78 76 1,qS 5 4 77,zM 5 78] [4,5]
theorem K.iw : nO pZ 92 2 1 C.iw [.cell 4 true 5,.tmp 5]=true:=oK
def C.dh : gI:=qs [qZ 8 10,qB 9 false] [0,1,2,3,8]<|qs [zM 15 1,zA 16 (.build zN [(0,1,.t 15)]),qZ 10 11,qS 5 10 16] [0,1,2,3,8,10]<|.seq (qs [zM 17 0,zM 18 3,q2 19 93 17 18] [0,1,2,3,8,10,19]<|qc 19 (qr [qT 20 5 10,qS 5 8 20,qB 9 true] [8,9]) .skip)<|.block 0<|.loop<|.block 1<|.cut (qs [zM 21 1,qk 22 .eql 21 4] [0,1,2,3,8,10,22]<|qc 22 (qs [zM 24 0,q1 25 143 24,zM 23 25,qE 26 23 0,qE 27 23 1,zM 11 26,zM 12 27] [0,1,2,3,8,10,11,12]<|.seq (qs [zM 28 12,qO 29 28,zM 30 29,qm 30 false 31 0,⟨(some (30,false)),some 32,.call 93 [.t 31,.k (.c<|.str [58])]⟩,zG 30 false 33 (.not<|.t 32),qQ 34 30 33] [0,1,2,3,8,10,11,34]<|qc 34 (qr [zA 35 (.build zN []),qS 5 8 35,qB 9 false] [8,9]) .skip)<|.reg [qA 36 3 10,qF 37 1 36,zM 38 11,zA 39 (.oD 12 1 1 [.str []] [(0,.t 38)]),zA 40 (.append 13 1 16 (.t 37)<|.t 39),qA 41 3 10,qU 1 41 40] [0,1,2,3,8,10]) .skip)<|qs [zM 43 0,zM 44 2,qk 45 .add 44 1,q2 46 92 43 45,zM 42 46,qE 47 42 0,qE 48 42 1,qZ 13 14,qS 5 13 47,zM 14 48] [0,1,2,3,8,10,13,14]<|.seq (qs [zM 49 14,qO 50 49] [0,1,2,3,8,10,13,50]<|qc 50 (qr [zA 51 (.build zN []),qS 5 8 51,qB 9 false] [8,9]) .skip)<|qs [qA 52 4 10,qF 53 1 52,qT 54 5 13,zA 55 (.oD 15 5 1 [.lit (.int .i64 0),.lit (.int .i64 0),.str [],.sl 1 [],.sl 5 []] [(0,.t 54)]),zA 56 (.append 16 5 80 (.t 53)<|.t 55),qA 57 4 10,qU 1 57 56] [0,1,2,3,8,10]<|.seq (qs [zM 58 0,zM 59 3,q2 60 93 58 59] [0,1,2,3,8,10,60]<|qc 60 (qr [qT 61 5 10,qS 5 8 61,qB 9 true] [8,9]) .skip)<|qs [zM 62 0,⟨none,some 63,.call 93 [.t 62,.k (.c<|.str [44])]⟩,qO 64 63] [0,1,2,3,8,10,64]<|qc 64 (qr [zA 65 (.build zN []),qS 5 8 65,qB 9 false] [8,9]) .skip
theorem K.dh : nO pZ 144 4 1 C.dh [.cell 8 true 5,.tmp 9]=true:=oK
def C.oO : gI:=qs [qZ 2 10,qB 3 false] [0,2]<|.seq (qs [zM 7 0,ql 8 7,qk 9 .gtr 8 2000] [0,2,9]<|qc 9 (qr [zA 10 (.build zN []),qS 5 2 10,qB 3 false] [2,3]) .skip)<|qs [zM 11 0,zA 12 (.build [.c (.str []),xI 0] [(0,1,.t 11)]),zA 4 (.alloc 11 [.c (.str []),xI 0]),qS 2 4 12] [0,2,4]<|qs [⟨none,some 14,.call 92 [.t 4,kI 1]⟩,zM 13 14,qE 15 13 0,qE 16 13 1,qZ 5 12,qS 5 5 15,zM 6 16] [0,2,4,5,6]<|.seq (qs [zM 17 6,qO 18 17,zM 19 18,zG 19 false 20 (.lH 1<|.t 4),zG 19 false 21 (.load false 1<|.t 20),qm 19 false 22 0,zG 19 false 23 (.lens<|.t 22),zG 19 false 24 (.bin .neq (.t 21)<|.t 23),qQ 25 19 24,zM 26 25,zG 26 false 27 (.load true 5<|.t 5),⟨(some (26,false)),some 28,.call 72 [.t 27]⟩,zG 26 false 29 (.not<|.t 28),qQ 30 26 29] [2,5,30]<|qc 30 (qr [zA 31 (.build zN []),qS 5 2 31,qB 3 false] [2,3]) .skip)<|qr [qT 32 5 5,q1 33 31 32,qS 5 2 33,qB 3 true] [2,3]
theorem K.oO : nO pZ 55 1 0 C.oO [.cell 2 true 5,.tmp 3]=true:=oK
theorem K.fD : nO pZ 51 4 0 C.DX [.tmp 8,.tmp 9]=true:=oK
def C.lu : gI:=qs [zA 2 (.mv<|.k<|.mM 8),qB 3 false] [0]<|qs [zA 4 (.mv<|.k<|.mM 8)] [0,4]<|qs [zM 9 0,zA 10 (.build [.c (.str []),xI 0] [(0,1,.t 9)]),zA 5 (.alloc 10 [.c (.str []),xI 0]),qS 2 5 10] [0,4,5]<|.seq (.block 0<|.loop<|.seq (qs [qA 11 1 5,qF 12 1 11,zM 13 0,ql 14 13,qb 15 .lss 12 14] [0,4,5,15]<|qc 15 .skip<|.exit 0)<|.block 1<|qs [⟨none,some 17,.call 92 [.t 5,kI 1]⟩,zM 16 17,qE 18 16 0,qE 19 16 1,qZ 6 11,qS 5 6 18,zM 7 19] [0,4,5,6,7]<|.seq (qs [zM 20 7,qO 21 20,zM 22 21,⟨(some (22,false)),some 23,.call 93 [.t 5,.k (.c<|.str [59])]⟩,zG 22 false 24 (.not<|.t 23),qQ 25 22 24] [0,4,5,6,25]<|qc 25 (qr [zA 2 (.mv<|.k<|.mM 8),qB 3 false] [2,3]) .skip)<|qs [qT 27 5 6,q1 28 94 27,zM 26 28,qE 29 26 0,qE 30 26 1,zA 8 (.alloc 12 [xI 0,.mM 1,.mM 1,xI 0,xI 0,.c (.str []),.mM 1,.mM 5]),qS 8 8 29,zM 7 30] [0,4,5,7,8]<|.seq (qs [zM 31 7,qO 32 31,zM 33 32,qm 33 false 34 4,zG 33 false 35 (.len<|.t 34),zG 33 false 36 (.bin .eql (.t 35)<|kI 12),qQ 37 33 36] [0,4,5,8,37]<|qc 37 (qr [zA 2 (.mv<|.k<|.mM 8),qB 3 false] [2,3]) .skip)<|.reg [zM 38 4,qT 39 8 8,zA 40 (.oD 13 8 1 [.lit (.int .i64 0),.sl 1 [],.sl 1 [],.lit (.int .i64 0),.lit (.int .i64 0),.str [],.sl 1 [],.sl 5 []] [(0,.t 39)]),zA 41 (.append 14 8 136 (.t 38)<|.t 40),zM 4 41] [0,4,5])<|qr [zM 42 4,zM 2 42,qB 3 true] [2,3]
theorem K.lu : nO pZ 54 1 0 C.lu [.tmp 2,.tmp 3]=true:=oK
def C.jh : gI:=qs [zA 2 (.alloc 10 [xI 0,.c (.str []),.mM 1,.mM 1,xI 0,xI 0,.c (.str []),.mM 1,.mM 5,.mM 8]),qB 3 false] [0,2]<|qs [zM 13 0,⟨none,some 14,.call 50 [.t 13,.k (.c<|.str [32]),kI 5]⟩,zM 4 14] [0,2,4]<|.seq (qs [zM 15 0,ql 16 15,qk 17 .gtr 16 2000,zM 18 17,qm 18 false 19 4,zG 18 false 20 (.len<|.t 19),zG 18 false 21 (.bin .neq (.t 20)<|kI 5),qQ 22 18 21] [0,2,4,22]<|qc 22 (qr [zA 23 (.build [xI 0,.c (.str []),.mM 1,.mM 1,xI 0,xI 0,.c (.str []),.mM 1,.mM 5,.mM 8] []),qS 10 2 23,qB 3 false] [2,3]) .skip)<|qs [zM 25 4,zA 26 (.vK 1 (.t 25)<|kI 0),qF 27 1 26,⟨none,some 28,.call 51 [.t 27,kI 1,kI 5,.k (.fn 52 [])]⟩,zM 24 28,qE 29 24 0,qE 30 24 1,zM 5 29,zM 6 30] [0,2,4,5,6]<|qs [zM 32 4,zA 33 (.vK 1 (.t 32)<|kI 2),qF 34 1 33,q1 35 53 34,zM 31 35,qE 36 31 0,qE 37 31 1,zM 7 36,zM 8 37] [0,2,4,5,6,7,8]<|qs [zM 39 4,zA 40 (.vK 1 (.t 39)<|kI 3),qF 41 1 40,q1 42 53 41,zM 38 42,qE 43 38 0,qE 44 38 1,zM 9 43,zM 10 44] [0,2,4,5,6,7,8,9,10]<|.seq (qs [zM 45 6,qO 46 45,zM 47 46,qm 47 false 48 8,zG 47 false 49 (.not<|.t 48),qQ 50 47 49,zM 51 50,qm 51 false 52 10,zG 51 false 53 (.not<|.t 52),qQ 54 51 53] [0,2,4,5,7,9,54]<|qc 54 (qr [zA 55 (.build [xI 0,.c (.str []),.mM 1,.mM 1,xI 0,xI 0,.c (.str []),.mM 1,.mM 5,.mM 8] []),qS 10 2 55,qB 3 false] [2,3]) .skip)<|qs [zM 56 5,zM 57 4,zA 58 (.vK 1 (.t 57)<|kI 1),qF 59 1 58,zM 60 7,zM 61 9,zA 62 (.build [xI 0,.c (.str []),.mM 1,.mM 1,xI 0,xI 0,.c (.str []),.mM 1,.mM 5,.mM 8] [(0,1,.t 56),(1,1,.t 59),(2,1,.t 60),(3,1,.t 61)]),zA 11 (.alloc 11 [xI 0,.c (.str []),.mM 1,.mM 1,xI 0,xI 0,.c (.str []),.mM 1,.mM 5,.mM 8]),qS 10 11 62] [0,2,4,5,11]<|qs [qB 12 false] [0,2,4,5,11]<|.cut (qs [zM 63 5,qk 64 .eql 63 4] [0,2,4,11,64]<|qc 64 (.reg [zM 66 4,zA 67 (.vK 1 (.t 66)<|kI 4),qF 68 1 67,q1 69 54 68,zM 65 69,qE 70 65 0,qE 71 65 1,qA 72 9 11,qU 1 72 70,zM 12 71] [0,2,11,12])<|.reg [zM 74 4,zA 75 (.vK 1 (.t 74)<|kI 4),qF 76 1 75,q1 77 55 76,zM 73 77,qE 78 73 0,qE 79 73 1,qA 80 4 11,qS 5 80 78,zM 12 79] [0,2,11,12])<|.seq (qs [zM 81 12,qO 82 81,zM 83 82,zG 83 false 84 (.load true 10<|.t 11),⟨(some (83,false)),some 85,.call 56 [.t 84]⟩,qm 83 false 86 0,zG 83 false 87 (.bin .neq (.t 85)<|.t 86),qQ 88 83 87] [2,11,88]<|qc 88 (qr [zA 89 (.build [xI 0,.c (.str []),.mM 1,.mM 1,xI 0,xI 0,.c (.str []),.mM 1,.mM 5,.mM 8] []),qS 10 2 89,qB 3 false] [2,3]) .skip)<|qr [qT 90 10 11,qS 10 2 90,qB 3 true] [2,3]
theorem K.jh : nO pZ 19 1 0 C.jh [.cell 2 true 10,.tmp 3]=true:=oK
def C.jC : gI:=qs [qB 4 false] [0,1]<|.seq (qs [zM 6 0,qL 7 6,zM 8 1,qL 9 8,qb 10 .neq 7 9] [0,1,10]<|qc 10 (qr [qB 4 false] [4]) .skip)<|.seq (qs [qI 5 0] [0,1,5]<|.block 0<|.loop<|.seq (qs [zM 11 5,zM 12 0,qL 13 12,qb 14 .lss 11 13] [0,1,5,14]<|qc 14 .skip<|.exit 0)<|.seq (.block 1<|.seq (.yF [(zM 17 0,[]),(zM 18 5,[]),(qD 19 1 17 18,[0,1]),(qF 20 1 19,[0,1,2]),(zM 21 1,[]),(zM 22 5,[]),(qD 23 1 21 22,[4,5]),(qF 24 1 23,[4,5,6]),(qb 25 .neq 20 24,ZI)] [0,1,5,25])<|qc 25 (qr [qB 4 false] [4]) .skip)<|.reg [zM 15 5,qk 16 .add 15 1,zM 5 16] [0,1,5])<|qr [qB 4 true] [4]
theorem K.jC : nO pZ 13 2 0 C.jC [.tmp 4]=true:=oK
def C.pU : gI:=qs [qX 2 10 0,qX 3 11 1,qB 4 false] [2,3]<|.seq (qs [qA 5 0 2,qF 6 1 5,qA 7 0 3,qF 8 1 7,qb 9 .neq 6 8] [2,3,9]<|qc 9 (qr [qB 4 false] [4]) .skip)<|.seq (qs [qA 10 1 2,qF 11 1 10,qA 12 1 3,qF 13 1 12,qb 14 .neq 11 13] [2,3,14]<|qc 14 (qr [qB 4 false] [4]) .skip)<|.seq (qs [qA 15 2 2,qF 16 1 15,qA 17 2 3,qF 18 1 17,qb 19 .neq 16 18] [2,3,19]<|qc 19 (qr [qB 4 false] [4]) .skip)<|.seq (qs [qA 20 3 2,qF 21 1 20,qA 22 3 3,qF 23 1 22,q2 24 13 21 23,qO 25 24] [2,3,25]<|qc 25 (qr [qB 4 false] [4]) .skip)<|.seq (qs [qA 26 4 2,qF 27 1 26,qA 28 4 3,qF 29 1 28,q2 30 100 27 29,qO 31 30] [31]<|qc 31 (qr [qB 4 false] [4]) .skip)<|qr [qB 4 true] [4]
theorem K.pU : nO pZ 57 2 0 C.pU [.tmp 4]=true:=oK
def C.nI : gI:=qs [qB 4 false] [0,1]<|.seq (qs [zM 6 0,qL 7 6,zM 8 1,qL 9 8,qb 10 .neq 7 9] [0,1,10]<|qc 10 (qr [qB 4 false] [4]) .skip)<|.seq (qs [qI 5 0] [0,1,5]<|.block 0<|.loop<|.seq (qs [zM 11 5,zM 12 0,qL 13 12,qb 14 .lss 11 13] [0,1,5,14]<|qc 14 .skip<|.exit 0)<|.seq (.block 1<|.seq (.yF [(zM 17 0,[]),(zM 18 5,[]),(qD 19 5 17 18,[0,1]),(qT 20 5 19,[0,1,2]),(zM 21 1,[]),(zM 22 5,[]),(qD 23 5 21 22,[4,5]),(qT 24 5 23,[4,5,6]),(q2 25 57 20 24,ZI),(qO 26 25,rr9)] [0,1,5,26])<|qc 26 (qr [qB 4 false] [4]) .skip)<|.reg [zM 15 5,qk 16 .add 15 1,zM 5 16] [0,1,5])<|qr [qB 4 true] [4]
theorem K.nI : nO pZ 100 2 0 C.nI [.tmp 4]=true:=oK
def C.xQ : gI:=qs [qX 2 10 0,qX 3 11 1,qB 4 false] [2,3]<|.seq (qs [qA 5 0 2,qF 6 1 5,qA 7 0 3,qF 8 1 7,qb 9 .neq 6 8] [2,3,9]<|qc 9 (qr [qB 4 false] [4]) .skip)<|.seq (qs [qA 10 1 2,qF 11 1 10,qA 12 1 3,qF 13 1 12,q2 14 13 11 13,qO 15 14] [2,3,15]<|qc 15 (qr [qB 4 false] [4]) .skip)<|.seq (qs [qA 16 2 2,qF 17 1 16,qA 18 2 3,qF 19 1 18,q2 20 13 17 19,qO 21 20] [2,3,21]<|qc 21 (qr [qB 4 false] [4]) .skip)<|.seq (qs [qA 22 3 2,qT 23 5 22,qA 24 3 3,qT 25 5 24,q2 26 57 23 25,qO 27 26] [27]<|qc 27 (qr [qB 4 false] [4]) .skip)<|qr [qB 4 true] [4]
theorem K.xQ : nO pZ 101 2 0 C.xQ [.tmp 4]=true:=oK
def C.oZ : gI:=qs [qB 4 false] [0,1]<|.seq (qs [zM 6 0,qL 7 6,zM 8 1,qL 9 8,qb 10 .neq 7 9] [0,1,10]<|qc 10 (qr [qB 4 false] [4]) .skip)<|.seq (qs [qI 5 0] [0,1,5]<|.block 0<|.loop<|.seq (qs [zM 11 5,zM 12 0,qL 13 12,qb 14 .lss 11 13] [0,1,5,14]<|qc 14 .skip<|.exit 0)<|.seq (.block 1<|.seq (.yF [(zM 17 0,[]),(zM 18 5,[]),(qD 19 8 17 18,[0,1]),(qT 20 8 19,[0,1,2]),(zM 21 1,[]),(zM 22 5,[]),(qD 23 8 21 22,[4,5]),(qT 24 8 23,[4,5,6]),(q2 25 101 20 24,ZI),(qO 26 25,rr9)] [0,1,5,26])<|qc 26 (qr [qB 4 false] [4]) .skip)<|.reg [zM 15 5,qk 16 .add 15 1,zM 5 16] [0,1,5])<|qr [qB 4 true] [4]
theorem K.oZ : nO pZ 58 2 0 C.oZ [.tmp 4]=true:=oK
def C.pI : gI:=qs [qX 2 10 0,qX 3 11 1,qB 4 false] [2,3]<|.seq (qs [qA 5 0 2,qF 6 1 5,qA 7 0 3,qF 8 1 7,qb 9 .neq 6 8] [2,3,9]<|qc 9 (qr [qB 4 false] [4]) .skip)<|.seq (qs [qA 10 1 2,qF 11 1 10,qA 12 1 3,qF 13 1 12,qb 14 .neq 11 13] [2,3,14]<|qc 14 (qr [qB 4 false] [4]) .skip)<|.seq (qs [qA 15 2 2,qF 16 1 15,qA 17 2 3,qF 18 1 17,q2 19 13 16 18,qO 20 19] [2,3,20]<|qc 20 (qr [qB 4 false] [4]) .skip)<|.seq (qs [qA 21 3 2,qF 22 1 21,qA 23 3 3,qF 24 1 23,q2 25 13 22 24,qO 26 25] [2,3,26]<|qc 26 (qr [qB 4 false] [4]) .skip)<|.seq (qs [qA 27 4 2,qT 28 5 27,qA 29 4 3,qT 30 5 29,q2 31 57 28 30,qO 32 31] [2,3,32]<|qc 32 (qr [qB 4 false] [4]) .skip)<|.seq (qs [qA 33 9 2,qF 34 1 33,qA 35 9 3,qF 36 1 35,q2 37 58 34 36,qO 38 37] [38]<|qc 38 (qr [qB 4 false] [4]) .skip)<|qr [qB 4 true] [4]
theorem K.pI : nO pZ 20 2 0 C.pI [.tmp 4]=true:=oK
def C.jF : gI:=qs [zA 2 (.mv<|.k<|.c<|.str [])] [0]<|.seq (qs [zM 4 0,qk 5 .leq 4 0] [0,5]<|qc 5 (qr [zA 2 (.mv<|.k<|.c<|.str [109,48])] [2]) .skip)<|qs [zA 3 (.mv<|.k<|.c<|.str [])] [0,3]<|.seq (.block 0<|.loop<|.seq (qs [zM 6 0,qk 7 .gtr 6 0] [0,3,7]<|qc 7 .skip<|.exit 0)<|.block 1<|qs [zM 8 0,qk 9 .rem 8 10,zA 10 (.bin .add (kI 48)<|.t 9),zA 11 (.KN .u8<|.t 10),zA 12 (.oD 10 1 1 [.lit (.int .u8 0)] [(0,.t 11)]),zA 13 (.Sv<|.t 12),zM 14 3,qb 15 .add 13 14,zM 3 15] [0,3]<|.reg [zM 16 0,qk 17 .quo 16 10,zM 0 17] [0,3])<|qr [zM 18 3,zA 19 (.bin .add (.k<|.c<|.str [109])<|.t 18),zM 2 19] [2]
theorem K.jF : nO pZ 40 1 0 C.jF [.tmp 2]=true:=oK
def C.iD : gI:=qs [qI 4 0] [0,1]<|.seq (qs [qI 5 0] [0,1,5]<|.block 0<|.loop<|.seq (qs [zM 6 5,zM 7 0,qL 8 7,qb 9 .lss 6 8] [0,1,5,9]<|qc 9 .skip<|.exit 0)<|.seq (.block 1<|.seq (.seq (.yF [(zM 12 0,[]),(zM 13 5,[]),(qD 14 1 12 13,[0,1]),(qF 15 1 14,[0,1,2]),(zM 16 1,[]),(q1 17 40 16,[4]),(qb 18 .neq 15 17,rr6)] [0,1,5,18])<|qc 18 (qr [qI 4 (-1)] [4]) .skip)<|.reg [zM 19 1,qk 20 .add 19 1,zM 1 20] [0,1,5])<|.reg [zM 10 5,qk 11 .add 10 1,zM 5 11] [0,1,5])<|qr [zM 21 1,zM 4 21] [4]
theorem K.iD : nO pZ 42 2 0 C.iD [.tmp 4]=true:=oK
def C.jD : gI:=qs [qI 4 0] [0,1]<|.seq (qs [qI 5 0] [0,1,5]<|.block 0<|.loop<|.seq (qs [zM 6 5,zM 7 0,qL 8 7,qb 9 .lss 6 8] [0,1,5,9]<|qc 9 .skip<|.exit 0)<|.seq (.block 1<|.seq (qs [zM 12 0,zM 13 5,qD 14 5 12 13,qA 15 0 14,qF 16 1 15,zM 17 1,qb 18 .neq 16 17] [0,1,5,18]<|qc 18 (qr [qI 4 (-1)] [4]) .skip)<|qs [zM 19 1,qk 20 .add 19 1,zM 1 20] [0,1,5]<|.seq (qs [zM 21 0,zM 22 5,qD 23 5 21 22,qA 24 1 23,qF 25 1 24,zM 26 1,qb 27 .neq 25 26] [0,1,5,27]<|qc 27 (qr [qI 4 (-1)] [4]) .skip)<|qs [zM 28 1,qk 29 .add 28 1,zM 1 29] [0,1,5]<|.seq (.seq (.yF [(zM 30 0,[]),(zM 31 5,[]),(qD 32 5 30 31,[0,1]),(qA 33 2 32,[0,1,2]),(qF 34 1 33,rr4),(zM 35 1,[]),(q1 36 40 35,[5]),(qb 37 .neq 34 36,rr7)] [0,1,5,37])<|qc 37 (qr [qI 4 (-1)] [4]) .skip)<|qs [zM 38 1,qk 39 .add 38 1,zM 1 39] [0,1,5]<|qs [zM 40 0,zM 41 5,qD 42 5 40 41,qA 43 3 42,qF 44 1 43,zM 45 1,q2 46 42 44 45,zM 1 46] [0,1,5]<|.seq (qs [zM 47 1,qk 48 .lss 47 0] [0,1,5,48]<|qc 48 (qr [qI 4 (-1)] [4]) .skip)<|qs [zM 49 0,zM 50 5,qD 51 5 49 50,qA 52 4 51,qF 53 1 52,zM 54 1,q2 55 43 53 54,zM 1 55] [0,1,5]<|qs [zM 56 1,qk 57 .lss 56 0] [0,1,5,57]<|qc 57 (qr [qI 4 (-1)] [4]) .skip)<|.reg [zM 10 5,qk 11 .add 10 1,zM 5 11] [0,1,5])<|qr [zM 58 1,zM 4 58] [4]
theorem K.jD : nO pZ 43 2 0 C.jD [.tmp 4]=true:=oK
def C.rF : gI:=qs [qX 2 10 0,qI 4 0] [1,2]<|qs [qA 5 3 2,qF 6 1 5,zM 7 1,q2 8 42 6 7,zM 1 8] [1,2]<|.seq (qs [zM 9 1,qk 10 .lss 9 0] [1,2,10]<|qc 10 (qr [qI 4 (-1)] [4]) .skip)<|qs [qA 11 4 2,qF 12 1 11,zM 13 1,q2 14 43 12 13,zM 1 14] [1]<|.seq (qs [zM 15 1,qk 16 .lss 15 0] [1,16]<|qc 16 (qr [qI 4 (-1)] [4]) .skip)<|qr [zM 17 1,zM 4 17] [4]
theorem K.rF : nO pZ 61 2 0 C.rF [.tmp 4]=true:=oK
def C.l9 : gI:=qs [qI 4 0] [0,1]<|.seq (qs [qI 5 0] [0,1,5]<|.block 0<|.loop<|.seq (qs [zM 6 5,zM 7 0,qL 8 7,qb 9 .lss 6 8] [0,1,5,9]<|qc 9 .skip<|.exit 0)<|.seq (.block 1<|.seq (qs [zM 12 0,zM 13 5,qD 14 8 12 13,qA 15 0 14,qF 16 1 15,zM 17 1,qb 18 .neq 16 17] [0,1,5,18]<|qc 18 (qr [qI 4 (-1)] [4]) .skip)<|qs [zM 19 1,qk 20 .add 19 1,zM 1 20] [0,1,5]<|qs [zM 21 0,zM 22 5,qD 23 8 21 22,qA 24 1 23,qF 25 1 24,zM 26 1,q2 27 42 25 26,zM 1 27] [0,1,5]<|.seq (qs [zM 28 1,qk 29 .lss 28 0] [0,1,5,29]<|qc 29 (qr [qI 4 (-1)] [4]) .skip)<|qs [zM 30 0,zM 31 5,qD 32 8 30 31,qA 33 2 32,qF 34 1 33,zM 35 1,q2 36 42 34 35,zM 1 36] [0,1,5]<|.seq (qs [zM 37 1,qk 38 .lss 37 0] [0,1,5,38]<|qc 38 (qr [qI 4 (-1)] [4]) .skip)<|.seq (qs [zM 39 0,zM 40 5,qD 41 8 39 40,qA 42 3 41,qA 43 0 42,qF 44 1 43,zM 45 1,qb 46 .neq 44 45] [0,1,5,46]<|qc 46 (qr [qI 4 (-1)] [4]) .skip)<|qs [zM 47 1,qk 48 .add 47 1,zM 1 48] [0,1,5]<|.seq (qs [zM 49 0,zM 50 5,qD 51 8 49 50,qA 52 3 51,qA 53 1 52,qF 54 1 53,zM 55 1,qb 56 .neq 54 55] [0,1,5,56]<|qc 56 (qr [qI 4 (-1)] [4]) .skip)<|qs [zM 57 1,qk 58 .add 57 1,zM 1 58] [0,1,5]<|.seq (.seq (.yF [(zM 59 0,[]),(zM 60 5,[]),(qD 61 8 59 60,[0,1]),(qA 62 3 61,[0,1,2]),(qA 63 2 62,rr4),(qF 64 1 63,rr5),(zM 65 1,[]),(q1 66 40 65,[6]),(qb 67 .neq 64 66,ZI)] [0,1,5,67])<|qc 67 (qr [qI 4 (-1)] [4]) .skip)<|qs [zM 68 1,qk 69 .add 68 1,zM 1 69] [0,1,5]<|qs [zM 70 0,zM 71 5,qD 72 8 70 71,qA 73 3 72,qA 74 3 73,qF 75 1 74,zM 76 1,q2 77 42 75 76,zM 1 77] [0,1,5]<|.seq (qs [zM 78 1,qk 79 .lss 78 0] [0,1,5,79]<|qc 79 (qr [qI 4 (-1)] [4]) .skip)<|qs [zM 80 0,zM 81 5,qD 82 8 80 81,qA 83 3 82,qA 84 4 83,qF 85 1 84,zM 86 1,q2 87 43 85 86,zM 1 87] [0,1,5]<|qs [zM 88 1,qk 89 .lss 88 0] [0,1,5,89]<|qc 89 (qr [qI 4 (-1)] [4]) .skip)<|.reg [zM 10 5,qk 11 .add 10 1,zM 5 11] [0,1,5])<|qr [zM 90 1,zM 4 90] [4]
theorem K.l9 : nO pZ 62 2 0 C.l9 [.tmp 4]=true:=oK
def C.oM : gI:=qs [qX 2 10 0,qI 4 0] [1,2]<|qs [qA 5 2 2,qF 6 1 5,zM 7 1,q2 8 42 6 7,zM 1 8] [1,2]<|.seq (qs [zM 9 1,qk 10 .lss 9 0] [1,2,10]<|qc 10 (qr [qI 4 (-1)] [4]) .skip)<|qs [qA 11 3 2,qF 12 1 11,zM 13 1,q2 14 42 12 13,zM 1 14] [1,2]<|.seq (qs [zM 15 1,qk 16 .lss 15 0] [1,2,16]<|qc 16 (qr [qI 4 (-1)] [4]) .skip)<|qs [qA 17 4 2,qT 18 5 17,zM 19 1,q2 20 61 18 19,zM 1 20] [1,2]<|.seq (qs [zM 21 1,qk 22 .lss 21 0] [1,2,22]<|qc 22 (qr [qI 4 (-1)] [4]) .skip)<|qs [qA 23 9 2,qF 24 1 23,zM 25 1,q2 26 62 24 25,zM 1 26] [1]<|.seq (qs [zM 27 1,qk 28 .lss 27 0] [1,28]<|qc 28 (qr [qI 4 (-1)] [4]) .skip)<|qr [zM 29 1,zM 4 29] [4]
theorem K.oM : nO pZ 22 2 0 C.oM [.tmp 4]=true:=oK
def C.gK : gI:=qs [qB 6 false] [0,1,2]<|qr [zM 7 1,zM 8 0,qb 9 .leq 7 8,zM 10 9,qm 10 true 11 0,qm 10 true 12 2,zG 10 true 13 (.bin .leq (.t 11)<|.t 12),qP 14 10 13,zM 6 14] [6]
theorem K.gK : nO pZ 66 3 0 C.gK [.tmp 6]=true:=oK
def C.kL : gI:=qs [qB 2 false] [0]<|.seq (qs [qI 3 0] [0,3]<|.block 0<|.loop<|.seq (qs [zM 4 3,zM 5 0,ql 6 5,qb 7 .lss 4 6] [0,3,7]<|qc 7 .skip<|.exit 0)<|.seq (.block 1<|qs [zM 10 0,zM 11 3,zA 12 (.idxs (.t 10)<|.t 11),zA 13 (.KN .i64<|.t 12),⟨none,some 14,.call 66 [.t 13,kI 48,kI 57]⟩,qO 15 14,zM 16 15,qm 16 true 17 0,qm 16 true 18 3,zG 16 true 19 (.idxs (.t 17)<|.t 18),zG 16 true 20 (.KN .i64<|.t 19),⟨(some (16,true)),some 21,.call 66 [.t 20,kI 97,kI 102]⟩,zG 16 true 22 (.not<|.t 21),qP 23 16 22] [0,3,23]<|qc 23 (qr [qB 2 false] [2]) .skip)<|.reg [zM 8 3,qk 9 .add 8 1,zM 3 9] [0,3])<|qr [zM 24 0,ql 25 24,qk 26 .eql 25 4,zM 2 26] [2]
theorem K.kL : nO pZ 125 1 0 C.kL [.tmp 2]=true:=oK
def C.iG : gI:=qs [qB 2 false] [0]<|.seq (qs [qI 3 0] [0,3]<|.block 0<|.loop<|.seq (qs [zM 4 3,zM 5 0,qL 6 5,qb 7 .lss 4 6] [0,3,7]<|qc 7 .skip<|.exit 0)<|.seq (.block 1<|qs [zM 10 0,zM 11 3,qD 12 1 10 11,qF 13 1 12,zA 14 (.bin .neq (.t 13)<|.k<|.c<|.str [42]),zM 15 14,qm 15 true 16 0,qm 15 true 17 3,zG 15 true 18 (.vK 1 (.t 16)<|.t 17),zG 15 true 19 (.load false 1<|.t 18),⟨(some (15,true)),some 20,.call 125 [.t 19]⟩,zG 15 true 21 (.not<|.t 20),qP 22 15 21] [0,3,22]<|qc 22 (qr [qB 2 false] [2]) .skip)<|.reg [zM 8 3,qk 9 .add 8 1,zM 3 9] [0,3])<|qr [zM 23 0,qL 24 23,qk 25 .leq 24 4,zM 2 25] [2]
theorem K.iG : nO pZ 81 1 0 C.iG [.tmp 2]=true:=oK
def C.fG : gI:=qs [zA 2 (.mv<|.k<|.c<|.str [])] [0]<|qs [zA 3 (.mv<|.k<|.c<|.str [])] [0,3]<|.seq (qs [zM 5 0,q1 6 81 5,qO 7 6] [0,3,7]<|qc 7 (qr [zA 2 (.mv<|.k<|.c<|.str [])] [2]) .skip)<|.seq (qs [qI 4 0] [0,3,4]<|.block 0<|.loop<|.seq (qs [zM 8 4,zM 9 0,qL 10 9,qb 11 .lss 8 10] [0,3,4,11]<|qc 11 .skip<|.exit 0)<|.seq (.block 1<|.cut (qs [zM 14 4,qk 15 .gtr 14 0] [0,3,4,15]<|qc 15 (.reg [zM 16 3,zA 17 (.bin .add (.t 16)<|.k<|.c<|.str [44]),zM 3 17] [0,3,4]) .skip)<|qs [zM 18 0,zM 19 4,qD 20 1 18 19,qF 21 1 20,zA 22 (.bin .eql (.t 21)<|.k<|.c<|.str [42])] [0,3,4,22]<|qc 22 (.reg [zM 23 3,zA 24 (.bin .add (.t 23)<|.k<|.c<|.str [42]),zM 3 24] [0,3,4])<|.reg [zM 25 3,zA 26 (.bin .add (.t 25)<|.k<|.c<|.str [34]),zM 27 0,zM 28 4,qD 29 1 27 28,qF 30 1 29,qb 31 .add 26 30,zA 32 (.bin .add (.t 31)<|.k<|.c<|.str [34]),zM 3 32] [0,3,4])<|.reg [zM 12 4,qk 13 .add 12 1,zM 4 13] [0,3,4])<|qr [zM 33 3,zM 2 33] [2]
theorem K.fG : nO pZ 80 1 0 C.fG [.tmp 2]=true:=oK
def C.mZ : gI:=qs [zA 2 (.mv<|.k<|.c<|.str [])] [0]<|.seq (qs [zM 3 0,qk 4 .lss 3 0,zM 5 4,qm 5 true 6 0,qm 5 true 7 0,zG 5 true 8 (.neg<|.t 7),zG 5 true 9 (.bin .eql (.t 6)<|.t 8),qP 10 5 9] [0,10]<|qc 10 (qr [zA 2 (.mv<|.k<|.c<|.str [45,57,50,50,51,51,55,50,48,51,54,56,53,52,55,55,53,56,48,56])] [2]) .skip)<|.seq (qs [zM 11 0,qk 12 .lss 11 0] [0,12]<|qc 12 (qr [zM 13 0,zA 14 (.neg<|.t 13),q1 15 133 14,zA 16 (.bin .add (.k<|.c<|.str [45])<|.t 15),zM 2 16] [2]) .skip)<|.seq (qs [zM 17 0,qk 18 .lss 17 10] [0,18]<|qc 18 (qr [zM 19 0,zA 20 (.bin .add (kI 48)<|.t 19),zA 21 (.KN .u8<|.t 20),zA 22 (.oD 10 1 1 [.lit (.int .u8 0)] [(0,.t 21)]),zA 23 (.Sv<|.t 22),zM 2 23] [2]) .skip)<|.seq (.yF [(zM 24 0,[]),(qk 25 .quo 24 10,[0]),(q1 26 133 25,[0,1]),(zM 27 0,[]),(qk 28 .rem 27 10,[3]),(zA 29 (.bin .add (kI 48)<|.t 28),[3,4]),(zA 30 (.KN .u8<|.t 29),[3,4,5]),(zA 31 (.oD 11 1 1 [.lit (.int .u8 0)] [(0,.t 30)]),[3,4,5,6]),(zA 32 (.Sv<|.t 31),[3,4,5,6,7]),(qb 33 .add 26 32,rr9),(zM 2 33,SI)] [2]) .ret
theorem K.mZ : nO pZ 133 1 0 C.mZ [.tmp 2]=true:=oK
def C.lU : gI:=qs [zA 2 (.mv<|.k<|.c<|.str [])] [0]<|qs [zA 3 (.mv<|.k<|.c<|.str [34])] [0,3]<|.seq (qs [qI 4 0] [0,3,4]<|.block 0<|.loop<|.seq (qs [zM 5 4,zM 6 0,ql 7 6,qb 8 .lss 5 7] [0,3,4,8]<|qc 8 .skip<|.exit 0)<|.seq (.block 1<|.seq (qs [zM 11 0,zM 12 4,zA 13 (.idxs (.t 11)<|.t 12),zA 14 (.bin .eql (.t 13)<|.k<|.c<|.lit<|.int .u8 34),zM 15 14,qm 15 false 16 0,qm 15 false 17 4,zG 15 false 18 (.idxs (.t 16)<|.t 17),zG 15 false 19 (.bin .eql (.t 18)<|.k<|.c<|.lit<|.int .u8 92),qQ 20 15 19] [0,3,4,20]<|qc 20 (.reg [zM 21 3,zA 22 (.bin .add (.t 21)<|.k<|.c<|.str [92]),zM 3 22] [0,3,4]) .skip)<|.reg [zM 23 3,zM 24 0,zM 25 4,zM 26 4,qk 27 .add 26 1,zA 28 (.GM (.t 24) (some<|.t 25)<|some<|.t 27),qb 29 .add 23 28,zM 3 29] [0,3,4])<|.reg [zM 9 4,qk 10 .add 9 1,zM 4 10] [0,3,4])<|qr [zM 30 3,zA 31 (.bin .add (.t 30)<|.k<|.c<|.str [34]),zM 2 31] [2]
theorem K.lU : nO pZ 134 1 0 C.lU [.tmp 2]=true:=oK
def C.gu : gI:=qs [qX 1 10 0,zA 2 (.mv<|.k<|.c<|.str [])] [1]<|qs [zA 3 (.mv<|.k<|.c<|.str [])] [1,3]<|.seq (qs [qA 5 0 1,qF 6 1 5] [1,3,6]<|.block 0<|qs [qk 8 .eql 6 1,zM 7 8] [1,3,6,7]<|qc 7 (qr [qA 9 1 1,qF 10 1 9,q1 11 133 10,zM 2 11] [2])<|qs [qk 13 .eql 6 2,zM 12 13] [1,3,6,12]<|qc 12 (qr [qA 14 2 1,qF 15 1 14,q1 16 134 15,zM 2 16] [2])<|qs [qk 18 .eql 6 0,zM 17 18] [1,3,17]<|qc 17 (qr [zA 2 (.mv<|.k<|.c<|.str [110,117,108,108])] [2]) .skip)<|.seq (qs [qI 4 0] [1,3,4]<|.block 1<|.loop<|.seq (qs [zM 19 4,qA 20 4 1,qF 21 1 20,qL 22 21,qb 23 .lss 19 22] [1,3,4,23]<|qc 23 .skip<|.exit 1)<|.seq (.block 2<|.cut (qs [zM 26 4,qk 27 .gtr 26 0] [1,3,4,27]<|qc 27 (.reg [zM 28 3,zA 29 (.bin .add (.t 28)<|.k<|.c<|.str [44]),zM 3 29] [1,3,4]) .skip)<|.cut (qs [qA 30 0 1,qF 31 1 30,qk 32 .eql 31 4] [1,3,4,32]<|qc 32 (.reg [zM 33 3,qA 34 3 1,qF 35 1 34,zM 36 4,qD 37 1 35 36,qF 38 1 37,q1 39 134 38,qb 40 .add 33 39,zA 41 (.bin .add (.t 40)<|.k<|.c<|.str [58]),zM 3 41] [1,3,4]) .skip)<|.reg [zM 42 3,qA 43 4 1,qF 44 1 43,zM 45 4,qD 46 5 44 45,qT 47 5 46,q1 48 85 47,qb 49 .add 42 48,zM 3 49] [1,3,4])<|.reg [zM 24 4,qk 25 .add 24 1,zM 4 25] [1,3,4])<|.seq (qs [qA 50 0 1,qF 51 1 50,qk 52 .eql 51 4] [3,52]<|qc 52 (qr [zM 53 3,zA 54 (.bin .add (.k<|.c<|.str [123])<|.t 53),zA 55 (.bin .add (.t 54)<|.k<|.c<|.str [125]),zM 2 55] [2]) .skip)<|qr [zM 56 3,zA 57 (.bin .add (.k<|.c<|.str [91])<|.t 56),zA 58 (.bin .add (.t 57)<|.k<|.c<|.str [93]),zM 2 58] [2]
theorem K.gu : nO pZ 85 1 0 C.gu [.tmp 2]=true:=oK
def C.iT : gI:=qs [qX 1 10 0,qZ 2 11] [1,2]<|qs [zA 5 (.oD 12 5 0 [.lit (.int .i64 0),.lit (.int .i64 0),.str [],.sl 1 [],.sl 5 []] []),zM 3 5] [1,2,3]<|.seq (qs [qI 4 0] [1,2,3,4]<|.block 0<|.loop<|.seq (qs [zM 6 4,qA 7 4 1,qF 8 1 7,qL 9 8,qb 10 .lss 6 9] [1,2,3,4,10]<|qc 10 .skip<|.exit 0)<|.seq (.block 1<|.reg [zM 13 3,qA 14 4 1,qF 15 1 14,zM 16 4,qD 17 5 15 16,qT 18 5 17,q1 19 106 18,zA 20 (.oD 13 5 1 [.lit (.int .i64 0),.lit (.int .i64 0),.str [],.sl 1 [],.sl 5 []] [(0,.t 19)]),zA 21 (.append 14 5 80 (.t 13)<|.t 20),zM 3 21] [1,2,3,4])<|.reg [zM 11 4,qk 12 .add 11 1,zM 4 12] [1,2,3,4])<|.seq (.yF [(qA 22 0 1,[]),(qF 23 1 22,[0]),(qA 24 1 1,[]),(qF 25 1 24,[2]),(qA 26 2 1,[]),(qF 27 1 26,[4]),(zA 28 (.oD 15 1 0 [.str []] []),[]),(qA 29 3 1,[]),(qF 30 1 29,[7]),(zA 31 (.append 16 1 16 (.t 28)<|.t 30),[6,7,8]),(zM 32 3,[]),(zA 33 (.build zN [(0,1,.t 23),(1,1,.t 25),(2,1,.t 27),(3,1,.t 31),(4,1,.t 32)]),acJ),(qS 5 2 33,acK)] [2]) .ret
theorem K.iT : nO pZ 106 1 0 C.iT [.cell 2 true 5]=true:=oK
def C.qM : gI:=qs [zA 0 (.mv<|.k<|.mM 1)] []<|qr [zA 1 (.oD 10 1 7 [.str []] [(0,.k (.c<|.str [])),(1,.k (.c<|.str [97,100,100])),(2,.k (.c<|.str [114,101,109,111,118,101])),(3,.k (.c<|.str [114,101,112,108,97,99,101])),(4,.k (.c<|.str [109,111,118,101])),(5,.k (.c<|.str [99,111,112,121])),(6,.k (.c<|.str [116,101,115,116]))]),zM 0 1] [0]
theorem K.qM : nO pZ 129 0 0 C.qM [.tmp 0]=true:=oK
def C.uN : gI:=qs [qZ 2 10] [0,2]<|qr [zM 3 0,zA 4 (.build zN [(0,1,kI 2),(2,1,.t 3)]),qS 5 2 4] [2]
theorem K.uN : nO pZ 137 1 0 C.uN [.cell 2 true 5]=true:=oK
def C.oJ : gI:=qs [qZ 2 10] [0,2]<|qs [zA 5 (.oD 11 5 0 [.lit (.int .i64 0),.lit (.int .i64 0),.str [],.sl 1 [],.sl 5 []] []),zM 3 5] [0,2,3]<|.seq (qs [qI 4 0] [0,2,3,4]<|.block 0<|.loop<|.seq (qs [zM 6 4,zM 7 0,qL 8 7,qb 9 .lss 6 8] [0,2,3,4,9]<|qc 9 .skip<|.exit 0)<|.seq (.block 1<|.reg [zM 12 3,zM 13 0,zM 14 4,qD 15 1 13 14,qF 16 1 15,q1 17 137 16,zA 18 (.oD 12 5 1 [.lit (.int .i64 0),.lit (.int .i64 0),.str [],.sl 1 [],.sl 5 []] [(0,.t 17)]),zA 19 (.append 13 5 80 (.t 12)<|.t 18),zM 3 19] [0,2,3,4])<|.reg [zM 10 4,qk 11 .add 10 1,zM 4 11] [0,2,3,4])<|qr [zA 20 (.oD 14 1 0 [.str []] []),zM 21 3,zA 22 (.build zN [(0,1,kI 3),(3,1,.t 20),(4,1,.t 21)]),qS 5 2 22] [2]
theorem K.oJ : nO pZ 136 1 0 C.oJ [.cell 2 true 5]=true:=oK
def C.nY : gI:=qs [qX 1 10 0,qZ 2 11] [1,2]<|.seq (.yF [(zA 3 (.oD 12 1 4 [.str []] [(0,.k (.c<|.str [102,114,111,109])),(1,.k (.c<|.str [111,112])),(2,.k (.c<|.str [112,97,116,104])),(3,.k (.c<|.str [118,97,108,117,101]))]),[]),(qA 4 2 1,[]),(qF 5 1 4,[1]),(q1 6 136 5,[1,2]),(⟨none,some 7,.call 129 []⟩,[1,2,3]),(qA 8 0 1,[]),(qF 9 1 8,[5]),(qD 10 1 7 9,[1,2,3,4,5,6]),(qF 11 1 10,[1,2,3,4,5,6,7]),(q1 12 137 11,[1,2,3,4,5,6,7,8]),(qA 13 1 1,[]),(qF 14 1 13,[10]),(q1 15 136 14,[1,2,3,4,5,6,7,8,9,10,11]),(qA 16 3 1,[]),(qT 17 5 16,[13]),(q1 18 106 17,[1,2,3,4,5,6,7,8,9,10,11,12,13,14]),(zA 19 (.oD 13 5 4 [.lit (.int .i64 0),.lit (.int .i64 0),.str [],.sl 1 [],.sl 5 []] [(0,.t 6),(1,.t 12),(2,.t 15),(3,.t 18)]),[1,2,3,4,5,6,7,8,9,10,11,12,13,14,15]),(zA 20 (.build zN [(0,1,kI 4),(3,1,.t 3),(4,1,.t 19)]),ajp),(qS 5 2 20,ajq)] [2]) .ret
theorem K.nY : nO pZ 87 1 0 C.nY [.cell 2 true 5]=true:=oK
def C.tY : gI:=qs [zA 0 (.mv<|.k<|.mM 1)] []<|qr [zA 1 (.oD 10 1 6 [.str []] [(0,.k (.c<|.str [])),(1,.k (.c<|.str [103,101,116])),(2,.k (.c<|.str [112,117,116])),(3,.k (.c<|.str [100,101,108,101,116,101])),(4,.k (.c<|.str [112,97,116,99,104])),(5,.k (.c<|.str [109,101,114,103,101]))]),zM 0 1] [0]
theorem K.tY : nO pZ 45 0 0 C.tY [.tmp 0]=true:=oK
def C.jo : gI:=qs [qX 1 10 0,zA 2 (.mv<|.k<|.c<|.str [])] [1]<|.seq (.yF [(⟨none,some 5,.call 45 []⟩,[]),(qA 6 0 1,[]),(qF 7 1 6,[1]),(qD 8 1 5 7,[0,1,2]),(qF 9 1 8,rr4),(zA 10 (.bin .add (.t 9)<|.k<|.c<|.str [32]),rr5),(qA 11 1 1,[]),(qF 12 1 11,[6]),(qb 13 .add 10 12,ZI),(zA 14 (.bin .add (.t 13)<|.k<|.c<|.str [32]),rr9),(qA 15 2 1,[]),(qF 16 1 15,[10]),(q1 17 80 16,[0,10,11]),(qb 18 .add 14 17,acL),(zA 19 (.bin .add (.t 18)<|.k<|.c<|.str [32]),afD),(qA 20 3 1,[]),(qF 21 1 20,[15]),(q1 22 80 21,[0,10,11,12,15,16]),(qb 23 .add 19 22,ajq),(zA 24 (.bin .add (.t 23)<|.k<|.c<|.str [32]),ahz),(zM 3 24,ahA)] [1,3])<|.seq (qs [qA 25 0 1,qF 26 1 25,qk 27 .eql 26 4] [1,3,27]<|qc 27 (.seq (qs [qI 4 0] [1,3,4]<|.block 0<|.loop<|.seq (qs [zM 28 4,qA 29 9 1,qF 30 1 29,qL 31 30,qb 32 .lss 28 31] [1,3,4,32]<|qc 32 .skip<|.exit 0)<|.seq (.block 1<|.reg [zM 35 3,qA 36 9 1,qF 37 1 36,zM 38 4,qD 39 8 37 38,qT 40 8 39,q1 41 87 40,q1 42 85 41,qb 43 .add 35 42,zA 44 (.bin .add (.t 43)<|.k<|.c<|.str [59]),zM 3 44] [1,3,4])<|.reg [zM 33 4,qk 34 .add 33 1,zM 4 34] [1,3,4])<|qr [zM 45 3,zM 2 45] [2]) .skip)<|qr [zM 46 3,qA 47 4 1,qT 48 5 47,q1 49 85 48,qb 50 .add 46 49,zM 2 50] [2]
theorem K.jo : nO pZ 88 1 0 C.jo [.tmp 2]=true:=oK
def C.lT : gI:=qs [qX 1 10 0,qI 2 0] [1]<|qs [qI 3 1] [1,3]<|.seq (qs [qI 4 0] [1,3,4]<|.block 0<|.loop<|.seq (qs [zM 5 4,qA 6 4 1,qF 7 1 6,qL 8 7,qb 9 .lss 5 8] [1,3,4,9]<|qc 9 .skip<|.exit 0)<|.seq (.block 1<|.reg [zM 12 3,qA 13 4 1,qF 14 1 13,zM 15 4,qD 16 5 14 15,qT 17 5 16,q1 18 104 17,qb 19 .add 12 18,zM 3 19] [1,3,4])<|.reg [zM 10 4,qk 11 .add 10 1,zM 4 11] [1,3,4])<|qr [zM 20 3,zM 2 20] [2]
theorem K.lT : nO pZ 104 1 0 C.lT [.tmp 2]=true:=oK
def C.iV : gI:=qs [qB 2 false] [0]<|.seq (qs [qI 3 0] [0,3]<|.block 0<|.loop<|.seq (qs [zM 4 3,zM 5 0,ql 6 5,qb 7 .lss 4 6] [0,3,7]<|qc 7 .skip<|.exit 0)<|.seq (.block 1<|qs [zM 10 0,zM 11 3,zA 12 (.idxs (.t 10)<|.t 11),zA 13 (.KN .i64<|.t 12),⟨none,some 14,.call 66 [.t 13,kI 32,kI 126]⟩,qO 15 14] [0,3,15]<|qc 15 (qr [qB 2 false] [2]) .skip)<|.reg [zM 8 3,qk 9 .add 8 1,zM 3 9] [0,3])<|qr [zM 16 0,ql 17 16,qk 18 .leq 17 12,zM 2 18] [2]
theorem K.iV : nO pZ 67 1 0 C.iV [.tmp 2]=true:=oK
def C.mQ : gI:=qs [qB 2 false] [0]<|.seq (qs [qI 3 0] [0,3]<|.block 0<|.loop<|.seq (qs [zM 4 3,zM 5 0,qL 6 5,qb 7 .lss 4 6] [0,3,7]<|qc 7 .skip<|.exit 0)<|.seq (.block 1<|.seq (.yF [(zM 10 0,[]),(zM 11 3,[]),(qD 12 1 10 11,[0,1]),(qF 13 1 12,[0,1,2]),(q1 14 67 13,rr4),(qO 15 14,rr5),(zM 16 15,rr6),(qm 16 false 17 3,rr7),(zG 16 false 18 (.bin .gtr (.t 17)<|kI 0),ZI),(qm 16 false 19 18,rr9),(qm 19 true 20 0,SI),(qm 19 true 21 3,SI),(zG 19 true 22 (.vK 1 (.t 20)<|.t 21),acK),(zG 19 true 23 (.load false 1<|.t 22),acL),(qm 19 true 24 0,SI),(qm 19 true 25 3,SI),(zG 19 true 26 (.bin .sub (.t 25)<|kI 1),[0,1,2,3,4,5,6,7,8,9,15]),(zG 19 true 27 (.vK 1 (.t 24)<|.t 26),[0,1,2,3,4,5,6,7,8,9,14,15,16]),(zG 19 true 28 (.load false 1<|.t 27),[0,1,2,3,4,5,6,7,8,9,14,15,16,17]),(zG 19 true 29 (.bin .leq (.t 23)<|.t 28),ahz),(zG 16 false 30 (.pick (.t 19) (.t 29)<|kB false),ahA),(qQ 31 16 30,ak2)] [0,3,31])<|qc 31 (qr [qB 2 false] [2]) .skip)<|.reg [zM 8 3,qk 9 .add 8 1,zM 3 9] [0,3])<|qr [qB 2 true] [2]
theorem K.mQ : nO pZ 161 1 0 C.mQ [.tmp 2]=true:=oK
def C.o7 : gI:=qs [qX 2 10 0,qB 4 false] [1,2]<|.seq (qs [qI 5 0] [1,2,5]<|.block 0<|.loop<|.seq (qs [zM 6 5,qA 7 4 2,qF 8 1 7,qL 9 8,qb 10 .lss 6 9] [1,2,5,10]<|qc 10 .skip<|.exit 0)<|.seq (.block 1<|qs [qA 13 4 2,qF 14 1 13,zM 15 5,qD 16 5 14 15,qT 17 5 16,zM 18 1,qk 19 .sub 18 1,q2 20 103 17 19,qO 21 20] [1,2,5,21]<|qc 21 (qr [qB 4 false] [4]) .skip)<|.reg [zM 11 5,qk 12 .add 11 1,zM 5 12] [1,2,5])<|qr [qB 4 true] [4]
theorem K.o7 : nO pZ 160 2 0 C.o7 [.tmp 4]=true:=oK
def C.ji : gI:=qs [qX 2 10 0,qB 4 false] [1,2]<|.cut (qs [zM 5 1,qk 6 .eql 5 0,zM 7 6,zG 7 false 8 (.lH 4<|.t 2),zG 7 false 9 (.load false 1<|.t 8),zG 7 false 10 (.len<|.t 9),zG 7 false 11 (.bin .gtr (.t 10)<|kI 6),qQ 12 7 11,zM 13 12,zG 13 false 14 (.lH 0<|.t 2),zG 13 false 15 (.load false 1<|.t 14),zG 13 false 16 (.bin .neq (.t 15)<|kI 1),qm 13 false 17 16,zG 17 true 18 (.lH 1<|.t 2),zG 17 true 19 (.load false 1<|.t 18),zG 17 true 20 (.bin .neq (.t 19)<|kI 0),zG 13 false 21 (.pick (.t 17) (.t 20)<|kB false),qQ 22 13 21,zM 23 22,zG 23 false 24 (.lH 0<|.t 2),zG 23 false 25 (.load false 1<|.t 24),zG 23 false 26 (.bin .neq (.t 25)<|kI 2),qm 23 false 27 26,zG 27 true 28 (.lH 2<|.t 2),zG 27 true 29 (.load false 1<|.t 28),zG 27 true 30 (.bin .neq (.t 29)<|.k<|.c<|.str []),zG 23 false 31 (.pick (.t 27) (.t 30)<|kB false),qQ 32 23 31,zM 33 32,zG 33 false 34 (.lH 0<|.t 2),zG 33 false 35 (.load false 1<|.t 34),zG 33 false 36 (.bin .neq (.t 35)<|kI 4),qm 33 false 37 36,zG 37 true 38 (.lH 3<|.t 2),zG 37 true 39 (.load false 1<|.t 38),zG 37 true 40 (.len<|.t 39),zG 37 true 41 (.bin .gtr (.t 40)<|kI 0),zG 33 false 42 (.pick (.t 37) (.t 41)<|kB false),qQ 43 33 42,zM 44 43,zG 44 false 45 (.lH 0<|.t 2),zG 44 false 46 (.load false 1<|.t 45),zG 44 false 47 (.bin .lss (.t 46)<|kI 3),qm 44 false 48 47,zG 48 true 49 (.lH 4<|.t 2),zG 48 true 50 (.load false 1<|.t 49),zG 48 true 51 (.len<|.t 50),zG 48 true 52 (.bin .gtr (.t 51)<|kI 0),zG 44 false 53 (.pick (.t 48) (.t 52)<|kB false),qQ 54 44 53] [1,2,54]<|qc 54 (qr [qB 4 false] [4]) .skip)<|.seq (qs [qA 55 0 2,qF 56 1 55] [1,2,56]<|.block 0<|qs [qk 58 .eql 56 1,zM 57 58] [1,2,56,57]<|qc 57 (qr [qA 59 1 2,qF 60 1 59,⟨none,some 61,.call 66 [.t 60,kI (-999999),kI 999999]⟩,zM 4 61] [4])<|qs [qk 63 .eql 56 2,zM 62 63] [1,2,56,62]<|qc 62 (qr [qA 64 2 2,qF 65 1 64,q1 66 67 65,zM 4 66] [4])<|qs [qk 68 .eql 56 3,zM 67 68] [1,2,56,67]<|qc 67 (qr [qT 69 5 2,zM 70 1,q2 71 160 69 70,zM 4 71] [4])<|qs [qk 73 .eql 56 4,zM 72 73] [1,2,72]<|qc 72 (qr [qA 74 3 2,qF 75 1 74,qL 76 75,qA 77 4 2,qF 78 1 77,qL 79 78,qb 80 .eql 76 79,zM 81 80,zG 81 true 82 (.lH 3<|.t 2),zG 81 true 83 (.load false 1<|.t 82),⟨(some (81,true)),some 84,.call 161 [.t 83]⟩,qP 85 81 84,zM 86 85,zG 86 true 87 (.load true 5<|.t 2),qm 86 true 88 1,⟨(some (86,true)),some 89,.call 160 [.t 87,.t 88]⟩,qP 90 86 89,zM 4 90] [4]) .skip)<|qr [qA 91 0 2,qF 92 1 91,qk 93 .eql 92 0,zM 4 93] [4]
theorem K.ji : nO pZ 103 2 0 C.ji [.tmp 4]=true:=oK
def C.iU : gI:=qs [qX 1 10 0,qB 2 false] [1]<|qr [qT 3 5 1,⟨none,some 4,.call 103 [.t 3,kI 5]⟩,zM 5 4,zG 5 true 6 (.load true 5<|.t 1),⟨(some (5,true)),some 7,.call 104 [.t 6]⟩,zG 5 true 8 (.bin .leq (.t 7)<|kI 40),qP 9 5 8,zM 2 9] [2]
theorem K.iU : nO pZ 65 1 0 C.iU [.tmp 2]=true:=oK
def C.jr : gI:=qs [qB 2 false] [0]<|.seq (qs [qI 3 0] [0,3]<|.block 0<|.loop<|.seq (qs [zM 4 3,zM 5 0,ql 6 5,qb 7 .lss 4 6] [0,3,7]<|qc 7 .skip<|.exit 0)<|.seq (.block 1<|qs [zM 10 0,zM 11 3,zA 12 (.idxs (.t 10)<|.t 11),zA 13 (.KN .i64<|.t 12),⟨none,some 14,.call 66 [.t 13,kI 97,kI 122]⟩,qO 15 14,zM 16 15,qm 16 true 17 0,qm 16 true 18 3,zG 16 true 19 (.idxs (.t 17)<|.t 18),zG 16 true 20 (.KN .i64<|.t 19),⟨(some (16,true)),some 21,.call 66 [.t 20,kI 48,kI 57]⟩,zG 16 true 22 (.not<|.t 21),qP 23 16 22] [0,3,23]<|qc 23 (qr [qB 2 false] [2]) .skip)<|.reg [zM 8 3,qk 9 .add 8 1,zM 3 9] [0,3])<|qr [zM 24 0,ql 25 24,⟨none,some 26,.call 66 [.t 25,kI 1,kI 8]⟩,zM 2 26] [2]
theorem K.jr : nO pZ 64 1 0 C.jr [.tmp 2]=true:=oK
def C.jE : gI:=qs [qB 2 false] [0]<|.seq (qs [qI 3 0] [0,3]<|.block 0<|.loop<|.seq (qs [zM 4 3,zM 5 0,qL 6 5,qb 7 .lss 4 6] [0,3,7]<|qc 7 .skip<|.exit 0)<|.seq (.block 1<|qs [zM 10 0,zM 11 3,qD 12 1 10 11,qF 13 1 12,q1 14 67 13,qO 15 14] [0,3,15]<|qc 15 (qr [qB 2 false] [2]) .skip)<|.reg [zM 8 3,qk 9 .add 8 1,zM 3 9] [0,3])<|qr [zM 16 0,qL 17 16,qk 18 .leq 17 5,zM 2 18] [2]
theorem K.jE : nO pZ 25 1 0 C.jE [.tmp 2]=true:=oK
def C.oV : gI:=qs [qX 1 10 0,qB 2 false] [1]<|qr [qA 3 0 1,qF 4 1 3,⟨none,some 5,.call 66 [.t 4,kI 1,kI 6]⟩,zM 6 5,zG 6 true 7 (.lH 1<|.t 1),zG 6 true 8 (.load false 1<|.t 7),⟨(some (6,true)),some 9,.call 25 [.t 8]⟩,qP 10 6 9,zM 11 10,zG 11 true 12 (.lH 2<|.t 1),zG 11 true 13 (.load false 1<|.t 12),⟨(some (11,true)),some 14,.call 25 [.t 13]⟩,qP 15 11 14,zM 16 15,zG 16 true 17 (.lH 3<|.t 1),zG 16 true 18 (.load true 5<|.t 17),⟨(some (16,true)),some 19,.call 65 [.t 18]⟩,qP 20 16 19,zM 2 20] [2]
theorem K.oV : nO pZ 131 1 0 C.oV [.tmp 2]=true:=oK
def C.jA : gI:=qs [qB 2 false] [0]<|.seq (qs [qI 3 0] [0,3]<|.block 0<|.loop<|.seq (qs [zM 4 3,zM 5 0,qL 6 5,qb 7 .lss 4 6] [0,3,7]<|qc 7 .skip<|.exit 0)<|.seq (.block 1<|qs [zM 10 0,zM 11 3,qD 12 8 10 11,qT 13 8 12,q1 14 131 13,qO 15 14] [0,3,15]<|qc 15 (qr [qB 2 false] [2]) .skip)<|.reg [zM 8 3,qk 9 .add 8 1,zM 3 9] [0,3])<|qr [zM 16 0,qL 17 16,qk 18 .leq 17 12,zM 2 18] [2]
theorem K.jA : nO pZ 135 1 0 C.jA [.tmp 2]=true:=oK
def C.kC : gI:=qs [qX 1 10 0,qB 2 false] [1]<|qr [qA 3 0 1,qF 4 1 3,⟨none,some 5,.call 66 [.t 4,kI 1,kI 5]⟩,zM 6 5,zG 6 true 7 (.lH 1<|.t 1),zG 6 true 8 (.load false 1<|.t 7),⟨(some (6,true)),some 9,.call 64 [.t 8]⟩,qP 10 6 9,zM 11 10,zG 11 true 12 (.lH 2<|.t 1),zG 11 true 13 (.load false 1<|.t 12),⟨(some (11,true)),some 14,.call 81 [.t 13]⟩,qP 15 11 14,zM 16 15,zG 16 true 17 (.lH 3<|.t 1),zG 16 true 18 (.load false 1<|.t 17),⟨(some (16,true)),some 19,.call 81 [.t 18]⟩,qP 20 16 19,zM 21 20,zG 21 true 22 (.lH 4<|.t 1),zG 21 true 23 (.load true 5<|.t 22),⟨(some (21,true)),some 24,.call 65 [.t 23]⟩,qP 25 21 24,zM 26 25,zG 26 true 27 (.lH 9<|.t 1),zG 26 true 28 (.load false 1<|.t 27),⟨(some (26,true)),some 29,.call 135 [.t 28]⟩,qP 30 26 29,zM 2 30] [2]
theorem K.kC : nO pZ 86 1 0 C.kC [.tmp 2]=true:=oK
def C.dA : gI:=qs [qX 1 10 0,zA 2 (.mv<|.k<|.c<|.str [])] [1]<|.cut (qs [qT 4 10 1,q1 5 86 4,qO 6 5,zM 7 6,zG 7 false 8 (.lH 4<|.t 1),zG 7 false 9 (.lH 0<|.t 8),zG 7 false 10 (.load false 1<|.t 9),zG 7 false 11 (.bin .neq (.t 10)<|kI 0),qm 7 false 12 11,zG 12 true 13 (.lH 0<|.t 1),zG 12 true 14 (.load false 1<|.t 13),zG 12 true 15 (.bin .neq (.t 14)<|kI 2),zG 7 false 16 (.pick (.t 12) (.t 15)<|kB false),qm 7 false 17 16,zG 17 true 18 (.lH 0<|.t 1),zG 17 true 19 (.load false 1<|.t 18),zG 17 true 20 (.bin .neq (.t 19)<|kI 5),zG 7 false 21 (.pick (.t 17) (.t 20)<|kB false),qQ 22 7 21,zM 23 22,zG 23 false 24 (.lH 9<|.t 1),zG 23 false 25 (.load false 1<|.t 24),zG 23 false 26 (.len<|.t 25),zG 23 false 27 (.bin .gtr (.t 26)<|kI 0),qm 23 false 28 27,zG 28 true 29 (.lH 0<|.t 1),zG 28 true 30 (.load false 1<|.t 29),zG 28 true 31 (.bin .neq (.t 30)<|kI 4),zG 23 false 32 (.pick (.t 28) (.t 31)<|kB false),qQ 33 23 32] [1,33]<|qc 33 (qr [zA 2 (.mv<|.k<|.c<|.str [])] [2]) .skip)<|.seq (qs [qI 3 0] [1,3]<|.block 0<|.loop<|.seq (qs [zM 34 3,qA 35 9 1,qF 36 1 35,qL 37 36,qb 38 .lss 34 37] [1,3,38]<|qc 38 .skip<|.exit 0)<|.seq (.block 1<|qs [qA 41 9 1,qF 42 1 41,zM 43 3,qD 44 8 42 43,qT 45 8 44,q1 46 87 45,q1 47 65 46,qO 48 47] [1,3,48]<|qc 48 (qr [zA 2 (.mv<|.k<|.c<|.str [])] [2]) .skip)<|.reg [zM 39 3,qk 40 .add 39 1,zM 3 40] [1,3])<|qr [qT 49 10 1,q1 50 88 49,zM 2 50] [2]
theorem K.dA : nO pZ 49 1 0 C.dA [.tmp 2]=true:=oK
def C.kY : gI:=qs [qI 2 0] [0]<|.seq (qs [zM 3 0] [3]<|qc 3 (qr [qI 2 1] [2]) .skip)<|qr [qI 2 0] [2]
theorem K.kY : nO pZ 162 1 0 C.kY [.tmp 2]=true:=oK
def C.oH : gI:=qs [qI 4 0] [0,1]<|qr [zM 5 0,zM 6 1,qb 7 .gtr 5 6,q1 8 162 7,zM 9 0,zM 10 1,qb 11 .lss 9 10,q1 12 162 11,qb 13 .sub 8 12,zM 4 13] [4]
theorem K.oH : nO pZ 107 2 0 C.oH [.tmp 4]=true:=oK
def C.mV : gI:=qs [qI 4 0] [0,1]<|qr [zM 5 0,zM 6 1,qb 7 .gtr 5 6,q1 8 162 7,zM 9 0,zM 10 1,qb 11 .lss 9 10,q1 12 162 11,qb 13 .sub 8 12,zM 4 13] [4]
theorem K.mV : nO pZ 108 2 0 C.mV [.tmp 4]=true:=oK
def C.iM : gI:=qs [qX 2 10 0,qX 3 11 1,qI 4 0] [2,3]<|.seq (qs [qA 7 0 2,qF 8 1 7,qA 9 0 3,qF 10 1 9,qb 11 .neq 8 10] [2,3,11]<|qc 11 (qr [qA 12 0 2,qF 13 1 12,qA 14 0 3,qF 15 1 14,q2 16 107 13 15,zM 4 16] [4]) .skip)<|.seq (qs [qA 17 1 2,qF 18 1 17,qA 19 1 3,qF 20 1 19,qb 21 .neq 18 20] [2,3,21]<|qc 21 (qr [qA 22 1 2,qF 23 1 22,qA 24 1 3,qF 25 1 24,q2 26 107 23 25,zM 4 26] [4]) .skip)<|.seq (qs [qA 27 2 2,qF 28 1 27,qA 29 2 3,qF 30 1 29,qb 31 .neq 28 30] [2,3,31]<|qc 31 (qr [qA 32 2 2,qF 33 1 32,qA 34 2 3,qF 35 1 34,q2 36 108 33 35,zM 4 36] [4]) .skip)<|.seq (qs [qI 5 0] [2,3,5]<|.block 0<|.loop<|.seq (qs [zM 37 5,qA 38 4 2,qF 39 1 38,qL 40 39,qb 41 .lss 37 40,zM 42 41,qm 42 true 43 5,zG 42 true 44 (.lH 4<|.t 3),zG 42 true 45 (.load false 1<|.t 44),zG 42 true 46 (.len<|.t 45),zG 42 true 47 (.bin .lss (.t 43)<|.t 46),qP 48 42 47] [2,3,5,48]<|qc 48 .skip<|.exit 0)<|.seq (.block 1<|.seq (.seq (.yF [(qA 51 0 2,[]),(qF 52 1 51,[0]),(qk 53 .eql 52 4,[0,1]),(zM 54 53,[0,1,2]),(zG 54 true 55 (.lH 3<|.t 2),rr4),(zG 54 true 56 (.load false 1<|.t 55),rr5),(qm 54 true 57 5,rr4),(zG 54 true 58 (.vK 1 (.t 56)<|.t 57),rr7),(zG 54 true 59 (.load false 1<|.t 58),ZI),(zG 54 true 60 (.lH 3<|.t 3),rr4),(zG 54 true 61 (.load false 1<|.t 60),[0,1,2,3,9]),(qm 54 true 62 5,rr4),(zG 54 true 63 (.vK 1 (.t 61)<|.t 62),[0,1,2,3,9,10,11]),(zG 54 true 64 (.load false 1<|.t 63),[0,1,2,3,9,10,11,12]),(zG 54 true 65 (.bin .neq (.t 59)<|.t 64),afD),(qP 66 54 65,ak0)] [2,3,5,66])<|qc 66 (.seq (.yF [(qA 67 3 2,[]),(qF 68 1 67,[0]),(zM 69 5,[]),(qD 70 1 68 69,[0,1,2]),(qF 71 1 70,rr4),(qA 72 3 3,[]),(qF 73 1 72,[5]),(zM 74 5,[]),(qD 75 1 73 74,[5,6,7]),(qF 76 1 75,[5,6,7,8]),(q2 77 108 71 76,SI),(zM 4 77,acJ)] [4]) .ret) .skip)<|.seq (.yF [(qA 78 4 2,[]),(qF 79 1 78,[0]),(zM 80 5,[]),(qD 81 5 79 80,[0,1,2]),(qT 82 5 81,rr4),(qA 83 4 3,[]),(qF 84 1 83,[5]),(zM 85 5,[]),(qD 86 5 84 85,[5,6,7]),(qT 87 5 86,[5,6,7,8]),(q2 88 69 82 87,SI),(zM 6 88,acJ)] [2,3,5,6])<|qs [zM 89 6,qk 90 .neq 89 0] [2,3,5,6,90]<|qc 90 (qr [zM 91 6,zM 4 91] [4]) .skip)<|.reg [zM 49 5,qk 50 .add 49 1,zM 5 50] [2,3,5])<|qr [qA 92 4 2,qF 93 1 92,qL 94 93,qA 95 4 3,qF 96 1 95,qL 97 96,q2 98 107 94 97,zM 4 98] [4]
theorem K.iM : nO pZ 69 2 0 C.iM [.tmp 4]=true:=oK
def C.lM : gI:=qs [qX 1 10 0,zA 2 (.mv<|.k<|.mM 1)] [1]<|qs [zA 5 (.oD 11 1 0 [.str []] []),zM 3 5] [1,3]<|.seq (qs [qI 4 0] [1,3,4]<|.block 0<|.loop<|.seq (qs [zM 6 4,qA 7 4 1,qF 8 1 7,qL 9 8,qb 10 .lss 6 9] [1,3,4,10]<|qc 10 .skip<|.exit 0)<|.seq (.block 1<|.reg [zM 13 3,qA 14 4 1,qF 15 1 14,zM 16 4,qD 17 5 15 16,qA 18 2 17,qF 19 1 18,zA 20 (.oD 12 1 1 [.str []] [(0,.t 19)]),zA 21 (.append 13 1 16 (.t 13)<|.t 20),zM 3 21] [1,3,4])<|.reg [zM 11 4,qk 12 .add 11 1,zM 4 12] [1,3,4])<|qr [zM 22 3,zM 2 22] [2]
theorem K.lM : nO pZ 130 1 0 C.lM [.tmp 2]=true:=oK
def C.vM : gI:=qs [qX 2 10 0,qX 3 11 1,qB 4 false] [2,3]<|qr [qT 5 5 2,qT 6 5 3,q2 7 69 5 6,qk 8 .eql 7 0,zM 4 8] [4]
theorem K.vM : nO pZ 132 2 0 C.vM [.tmp 4]=true:=oK
def C.kK : gI:=qs [qX 1 10 0,zA 2 (.alloc 11 [xI 0,.mM 1,.mM 1,xI 0,xI 0,.c (.str []),.mM 1,.mM 5]),qB 3 false] [1,2]<|.seq (qs [qT 8 5 1,q1 9 65 8,qO 10 9,zM 11 10,zG 11 false 12 (.lH 0<|.t 1),zG 11 false 13 (.load false 1<|.t 12),zG 11 false 14 (.bin .neq (.t 13)<|kI 4),qQ 15 11 14,zM 16 15,zG 16 false 17 (.lH 4<|.t 1),zG 16 false 18 (.load false 1<|.t 17),zG 16 false 19 (.len<|.t 18),zG 16 false 20 (.bin .neq (.t 19)<|kI 4),qQ 21 16 20] [1,2,21]<|qc 21 (qr [zA 22 (.build [xI 0,.mM 1,.mM 1,xI 0,xI 0,.c (.str []),.mM 1,.mM 5] []),qS 8 2 22,qB 3 false] [2,3]) .skip)<|qs [⟨none,some 23,.call 129 []⟩,zM 4 23] [1,2,4]<|qs [qI 5 0] [1,2,4,5]<|.seq (qs [qI 6 1] [1,2,4,5,6]<|.block 0<|.loop<|.seq (qs [zM 24 6,zM 25 4,qL 26 25,qb 27 .lss 24 26] [1,2,4,5,6,27]<|qc 27 .skip<|.exit 0)<|.seq (.block 1<|.seq (.yF [(qA 30 4 1,[]),(qF 31 1 30,[0]),(zA 32 (.vK 5 (.t 31)<|kI 1),[0,1]),(qA 33 2 32,[0,1,2]),(qF 34 1 33,rr4),(zM 35 4,[]),(zM 36 6,[]),(qD 37 1 35 36,[5,6]),(qF 38 1 37,[5,6,7]),(qb 39 .eql 34 38,rr9)] [1,2,4,5,6,39])<|qc 39 (.reg [zM 40 6,zM 5 40] [1,2,4,5,6]) .skip)<|.reg [zM 28 6,qk 29 .add 28 1,zM 6 29] [1,2,4,5,6])<|.seq (.yF [(zM 41 5,[]),(qA 42 4 1,[]),(qF 43 1 42,[1]),(zA 44 (.vK 5 (.t 43)<|kI 2),[1,2]),(qT 45 5 44,[1,2,3]),(q1 46 130 45,[1,2,3,4]),(qA 47 4 1,[]),(qF 48 1 47,[6]),(zA 49 (.vK 5 (.t 48)<|kI 0),[6,7]),(qT 50 5 49,[6,7,8]),(q1 51 130 50,[1,2,3,4,5,6,7,8,9]),(qA 52 4 1,[]),(qF 53 1 52,[11]),(zA 54 (.vK 5 (.t 53)<|kI 3),[11,12]),(qT 55 5 54,[11,12,13]),(q1 56 106 55,[1,2,3,4,5,6,7,8,9,10,11,12,13,14]),(zA 57 (.build [xI 0,.mM 1,.mM 1,xI 0,xI 0,.c (.str []),.mM 1,.mM 5] [(0,1,.t 41),(1,1,.t 46),(2,1,.t 51),(3,5,.t 56)]),ak1),(zA 7 (.alloc 12 [xI 0,.mM 1,.mM 1,xI 0,xI 0,.c (.str []),.mM 1,.mM 5]),[]),(qS 8 7 57,ajq)] [1,2,7])<|.seq (.seq (.yF [(qT 58 8 7,[]),(q1 59 131 58,[0]),(qO 60 59,[0,1]),(zM 61 60,[0,1,2]),(zG 61 false 62 (.load true 8<|.t 7),rr4),(⟨(some (61,false)),some 63,.call 87 [.t 62]⟩,rr5),(zG 61 false 64 (.load true 5<|.t 1),rr4),(⟨(some (61,false)),some 65,.call 132 [.t 63,.t 64]⟩,rr7),(zG 61 false 66 (.not<|.t 65),ZI),(qQ 67 61 66,rr9)] [2,7,67])<|qc 67 (qr [zA 68 (.build [xI 0,.mM 1,.mM 1,xI 0,xI 0,.c (.str []),.mM 1,.mM 5] []),qS 8 2 68,qB 3 false] [2,3]) .skip)<|qr [qT 69 8 7,qS 8 2 69,qB 3 true] [2,3]
theorem K.kK : nO pZ 83 1 0 C.kK [.cell 2 true 8,.tmp 3]=true:=oK
def C.gp : gI:=qs [zA 2 (.mv<|.k<|.c<|.lit<|.int .u8 0)] [0]<|.seq (.seq (.yF [(zM 3 0,[]),(qN 4 3,[0]),(qA 5 1 4,[0,1]),(qF 6 1 5,[0,1,2]),(zM 7 0,[]),(qN 8 7,[4]),(qA 9 0 8,[4,5]),(qF 10 1 9,[4,5,6]),(ql 11 10,[4,5,6,7]),(qb 12 .geq 6 11,rr9)] [0,12])<|qc 12 (qr [zA 2 (.mv<|.k<|.c<|.lit<|.int .u8 0)] [2]) .skip)<|.seq (.yF [(zM 13 0,[]),(qN 14 13,[0]),(qA 15 0 14,[0,1]),(qF 16 1 15,[0,1,2]),(zM 17 0,[]),(qN 18 17,[4]),(qA 19 1 18,[4,5]),(qF 20 1 19,[4,5,6]),(zA 21 (.idxs (.t 16)<|.t 20),ZI),(zM 2 21,rr9)] [2]) .ret
theorem K.gp : nO pZ 84 1 1 C.gp [.tmp 2]=true:=oK
def C.jK : gI:=.seq (qs [zM 4 0,q1 5 84 4,zM 6 1,qb 7 .neq 5 6] [0,7]<|qc 7 (qr [zM 8 0,qN 9 8,qA 10 2 9,zS (.store false 1 (.t 10)<|kB true)] []) .skip)<|.reg [zM 11 0,zM 12 0,qN 13 12,qA 14 1 13,qF 15 1 14,qk 16 .add 15 1,qN 17 11,qA 18 1 17,qU 1 18 16] []
theorem K.jK : nO pZ 173 2 1 C.jK []=true:=oK
def C.eX : gI:=qs [zA 2 (.mv<|.k<|.c<|.str [])] [0]<|qs [zA 4 (.oD 10 1 0 [.lit (.int .u8 0)] []),zM 3 4] [0,3]<|qs [zM 5 0,⟨none,some 6,.call 173 [.t 5,.k (.c<|.lit<|.int .u8 34)]⟩] [0,3]<|.seq (.block 0<|.loop<|.seq (qs [zM 7 0,qN 8 7,qA 9 2 8,qF 10 1 9,qO 11 10,zM 12 11,qm 12 true 13 0,⟨(some (12,true)),some 14,.call 84 [.t 13]⟩,zG 12 true 15 (.bin .neq (.t 14)<|.k<|.c<|.lit<|.int .u8 34),qP 16 12 15] [0,3,16]<|qc 16 .skip<|.exit 0)<|.block 1<|.cut (qs [zM 17 0,q1 18 84 17,zA 19 (.bin .eql (.t 18)<|.k<|.c<|.lit<|.int .u8 92)] [0,3,19]<|qc 19 (.reg [zM 20 0,zM 21 0,qN 22 21,qA 23 1 22,qF 24 1 23,qk 25 .add 24 1,qN 26 20,qA 27 1 26,qU 1 27 25] [0,3]) .skip)<|.seq (qs [zM 28 0,q1 29 84 28,zA 30 (.bin .eql (.t 29)<|.k<|.c<|.lit<|.int .u8 0)] [0,3,30]<|qc 30 (qs [zM 31 0,qN 32 31,qA 33 2 32,zS (.store false 1 (.t 33)<|kB true)] []<|qr [zA 2 (.mv<|.k<|.c<|.str [])] [2]) .skip)<|qs [zM 34 3,zM 35 0,q1 36 84 35,zA 37 (.oD 11 1 1 [.lit (.int .u8 0)] [(0,.t 36)]),zA 38 (.append 12 1 1 (.t 34)<|.t 37),zM 3 38] [0,3]<|.reg [zM 39 0,zM 40 0,qN 41 40,qA 42 1 41,qF 43 1 42,qk 44 .add 43 1,qN 45 39,qA 46 1 45,qU 1 46 44] [0,3])<|qs [zM 47 0,⟨none,some 48,.call 173 [.t 47,.k (.c<|.lit<|.int .u8 34)]⟩] [3]<|qr [zM 49 3,zA 50 (.Sv<|.t 49),zM 2 50] [2]
theorem K.eX : nO pZ 126 1 1 C.eX [.tmp 2]=true:=oK
def C.eY : gI:=qs [qI 2 0] [0]<|qs [qI 3 0] [0,3]<|qs [qI 4 1] [0,3,4]<|.cut (qs [zM 6 0,q1 7 84 6,zA 8 (.bin .eql (.t 7)<|.k<|.c<|.lit<|.int .u8 45)] [0,3,4,8]<|qc 8 (qs [qI 4 (-1)] [0,3,4]<|.reg [zM 9 0,zM 10 0,qN 11 10,qA 12 1 11,qF 13 1 12,qk 14 .add 13 1,qN 15 9,qA 16 1 15,qU 1 16 14] [0,3,4]) .skip)<|.seq (qs [qI 5 0] [0,3,4,5]<|.block 0<|.loop<|.seq (qs [zM 17 5,qk 18 .lss 17 7,zM 19 18,qm 19 true 20 0,⟨(some (19,true)),some 21,.call 84 [.t 20]⟩,zG 19 true 22 (.KN .i64<|.t 21),⟨(some (19,true)),some 23,.call 66 [.t 22,kI 48,kI 57]⟩,qP 24 19 23] [0,3,4,5,24]<|qc 24 .skip<|.exit 0)<|.seq (.block 1<|qs [zM 27 3,zA 28 (.bin .mul (kI 10)<|.t 27),zM 29 0,q1 30 84 29,zA 31 (.KN .i64<|.t 30),qb 32 .add 28 31,qk 33 .sub 32 48,zM 3 33] [0,3,4,5]<|.reg [zM 34 0,zM 35 0,qN 36 35,qA 37 1 36,qF 38 1 37,qk 39 .add 38 1,qN 40 34,qA 41 1 40,qU 1 41 39] [0,3,4,5])<|.reg [zM 25 5,qk 26 .add 25 1,zM 5 26] [0,3,4,5])<|qr [zM 42 4,zM 43 3,qb 44 .mul 42 43,zM 2 44] [2]
theorem K.eY : nO pZ 128 1 1 C.eY [.tmp 2]=true:=oK
def C.bT : gI:=qs [qX 5 10 1,qZ 8 11] [0,2,3,5,8]<|qs [zA 11 (.oD 12 1 0 [.str []] []),zM 9 11] [0,2,3,5,8,9]<|qs [zA 12 (.oD 13 5 0 [.lit (.int .i64 0),.lit (.int .i64 0),.str [],.sl 1 [],.sl 5 []] []),zM 10 12] [0,2,3,5,8,9,10]<|qs [zM 13 0,zM 14 0,qN 15 14,qA 16 1 15,qF 17 1 16,qk 18 .add 17 1,qN 19 13,qA 20 1 19,qU 1 20 18] [0,2,3,5,8,9,10]<|.seq (.block 0<|.loop<|.seq (qs [zM 21 0,qN 22 21,qA 23 2 22,qF 24 1 23,qO 25 24,zM 26 25,qm 26 true 27 0,⟨(some (26,true)),some 28,.call 84 [.t 27]⟩,qm 26 true 29 2,zG 26 true 30 (.bin .neq (.t 28)<|.t 29),qP 31 26 30] [0,2,3,5,8,9,10,31]<|qc 31 .skip<|.exit 0)<|.block 1<|.cut (qs [zM 32 10,qL 33 32,qk 34 .gtr 33 0] [0,2,3,5,8,9,10,34]<|qc 34 (.reg [zM 35 0,⟨none,some 36,.call 173 [.t 35,.k (.c<|.lit<|.int .u8 44)]⟩] [0,2,3,5,8,9,10]) .skip)<|.cut (qs [qA 37 0 5,qF 38 1 37,qk 39 .eql 38 4] [0,2,3,5,8,9,10,39]<|qc 39 (qs [zM 40 9,zM 41 0,q1 42 126 41,zA 43 (.oD 14 1 1 [.str []] [(0,.t 42)]),zA 44 (.append 15 1 16 (.t 40)<|.t 43),zM 9 44] [0,2,3,5,8,9,10]<|.reg [zM 45 0,⟨none,some 46,.call 173 [.t 45,.k (.c<|.lit<|.int .u8 58)]⟩] [0,2,3,5,8,9,10]) .skip)<|.reg [zM 47 10,zM 48 0,zM 49 3,qk 50 .sub 49 1,q2 51 82 48 50,zA 52 (.oD 16 5 1 [.lit (.int .i64 0),.lit (.int .i64 0),.str [],.sl 1 [],.sl 5 []] [(0,.t 51)]),zA 53 (.append 17 5 80 (.t 47)<|.t 52),zM 10 53] [0,2,3,5,8,9,10])<|qs [zM 54 0,zM 55 2,q2 56 173 54 55] [5,8,9,10]<|qr [qA 57 0 5,qF 58 1 57,zM 59 9,zM 60 10,zA 61 (.build zN [(0,1,.t 58),(3,1,.t 59),(4,1,.t 60)]),qS 5 8 61] [8]
theorem K.bT : nO pZ 127 4 1 C.bT [.cell 8 true 5]=true:=oK
def C.jJ : gI:=qs [qZ 4 10] [0,1,4]<|.seq (.block 0<|qs [zM 6 1,qk 7 .eql 6 0,zM 8 7,qm 8 false 9 0,zG 8 false 10 (.Es<|.t 9),zG 8 false 11 (.lH 2<|.t 10),zG 8 false 12 (.load false 1<|.t 11),qQ 13 8 12,zM 5 13] [0,1,4,5]<|qc 5 (qs [zM 14 0,qN 15 14,qA 16 2 15,zS (.store false 1 (.t 16)<|kB true)] [4]<|qr [zA 17 (.build zN []),qS 5 4 17] [4])<|qs [zM 19 0,q1 20 84 19,zA 21 (.bin .eql (.t 20)<|.k<|.c<|.lit<|.int .u8 34),zM 18 21] [0,1,4,18]<|qc 18 (qr [zM 22 0,q1 23 126 22,zA 24 (.build zN [(0,1,kI 2),(2,1,.t 23)]),qS 5 4 24] [4])<|qs [zM 26 0,q1 27 84 26,zA 28 (.bin .eql (.t 27)<|.k<|.c<|.lit<|.int .u8 91),zM 25 28] [0,1,4,25]<|qc 25 (qr [zM 29 0,zA 30 (.build zN [(0,1,kI 3)]),zM 31 1,⟨none,some 32,.call 127 [.t 29,.t 30,.k (.c<|.lit<|.int .u8 93),.t 31]⟩,qS 5 4 32] [4])<|qs [zM 34 0,q1 35 84 34,zA 36 (.bin .eql (.t 35)<|.k<|.c<|.lit<|.int .u8 123),zM 33 36] [0,1,4,33]<|qc 33 (qr [zM 37 0,zA 38 (.build zN [(0,1,kI 4)]),zM 39 1,⟨none,some 40,.call 127 [.t 37,.t 38,.k (.c<|.lit<|.int .u8 125),.t 39]⟩,qS 5 4 40] [4])<|qs [zM 42 0,q1 43 84 42,zA 44 (.bin .eql (.t 43)<|.k<|.c<|.lit<|.int .u8 110),zM 41 44] [0,4,41]<|qc 41 (.seq (.yF [(zM 45 0,[]),(zM 46 0,[]),(qN 47 46,[1]),(qA 48 1 47,[1,2]),(qF 49 1 48,[1,2,3]),(qk 50 .add 49 4,[1,2,3,4]),(zM 51 0,[]),(qN 52 51,[6]),(qA 53 0 52,[6,7]),(qF 54 1 53,[6,7,8]),(ql 55 54,[6,7,8,9]),(zA 56 (.min (.t 50)<|.t 55),[1,2,3,4,5,6,7,8,9,10]),(qN 57 45,acK),(qA 58 1 57,acL),(qU 1 58 56,afD)] [4])<|qr [zA 59 (.build zN []),qS 5 4 59] [4])<|qs [zM 61 0,q1 62 84 61,zA 63 (.bin .eql (.t 62)<|.k<|.c<|.lit<|.int .u8 45),zM 64 63,qm 64 false 65 0,⟨(some (64,false)),some 66,.call 84 [.t 65]⟩,zG 64 false 67 (.KN .i64<|.t 66),⟨(some (64,false)),some 68,.call 66 [.t 67,kI 48,kI 57]⟩,qQ 69 64 68,zM 60 69] [0,4,60]<|qc 60 (qr [zM 70 0,q1 71 128 70,zA 72 (.build zN [(0,1,kI 1),(1,1,.t 71)]),qS 5 4 72] [4]) .skip)<|qs [zM 73 0,qN 74 73,qA 75 2 74,zS (.store false 1 (.t 75)<|kB true)] [4]<|qr [zA 76 (.build zN []),qS 5 4 76] [4]
theorem K.jJ : nO pZ 82 2 1 C.jJ [.cell 4 true 5]=true:=oK
def C.oQ : gI:=qs [qZ 2 10,qB 3 false] [0,2]<|.seq (qs [zM 6 0,ql 7 6,qk 8 .gtr 7 2000] [0,2,8]<|qc 8 (qr [zA 9 (.build zN []),qS 5 2 9,qB 3 false] [2,3]) .skip)<|qs [zM 10 0,zA 11 (.build [.c (.str []),xI 0,.c (.lit<|.bool false)] [(0,1,.t 10)]),qX 12 11 11,zM 4 12] [0,2,4]<|qs [zM 13 4,⟨none,some 14,.call 82 [.t 13,kI 5]⟩,qZ 5 12,qS 5 5 14] [0,2,4,5]<|.seq (qs [zM 15 4,qN 16 15,qA 17 2 16,qF 18 1 17,zM 19 18,zG 19 false 20 (.load true 5<|.t 5),⟨(some (19,false)),some 21,.call 65 [.t 20]⟩,zG 19 false 22 (.not<|.t 21),qQ 23 19 22,zM 24 23,zG 24 false 25 (.load true 5<|.t 5),⟨(some (24,false)),some 26,.call 85 [.t 25]⟩,qm 24 false 27 0,zG 24 false 28 (.bin .neq (.t 26)<|.t 27),qQ 29 24 28] [2,5,29]<|qc 29 (qr [zA 30 (.build zN []),qS 5 2 30,qB 3 false] [2,3]) .skip)<|qr [qT 31 5 5,qS 5 2 31,qB 3 true] [2,3]
theorem K.oQ : nO pZ 48 1 0 C.oQ [.cell 2 true 5,.tmp 3]=true:=oK
def C.jd : gI:=qs [zA 2 (.mv<|.k<|.mM 1),qB 3 false] [0]<|qs [zA 6 (.oD 10 1 0 [.str []] []),zM 4 6] [0,4]<|.seq (qs [qI 5 0] [0,4,5]<|.block 0<|.loop<|.seq (qs [zM 7 5,zM 8 0,ql 9 8,qb 10 .lss 7 9,zM 11 10,qm 11 true 12 4,zG 11 true 13 (.len<|.t 12),zG 11 true 14 (.bin .leq (.t 13)<|kI 4),qP 15 11 14] [0,4,5,15]<|qc 15 .skip<|.exit 0)<|.block 1<|.block 2<|qs [zM 17 5,qk 18 .gtr 17 0,zM 19 18,qm 19 true 20 0,qm 19 true 21 5,zG 19 true 22 (.idxs (.t 20)<|.t 21),zG 19 true 23 (.bin .eql (.t 22)<|.k<|.c<|.lit<|.int .u8 44),qP 24 19 23,zM 16 24] [0,4,5,16]<|qc 16 (.reg [zM 25 5,qk 26 .add 25 1,zM 5 26] [0,4,5])<|qs [zM 28 0,zM 29 5,zA 30 (.idxs (.t 28)<|.t 29),zA 31 (.bin .eql (.t 30)<|.k<|.c<|.lit<|.int .u8 42),zM 27 31] [0,4,5,27]<|qc 27 (qs [zM 32 4,zA 33 (.oD 11 1 1 [.str []] [(0,.k (.c<|.str [42]))]),zA 34 (.append 12 1 16 (.t 32)<|.t 33),zM 4 34] [0,4,5]<|.reg [zM 35 5,qk 36 .add 35 1,zM 5 36] [0,4,5])<|qs [zM 38 5,qk 39 .add 38 6,zM 40 0,ql 41 40,qb 42 .leq 39 41,zM 37 42] [0,4,5,37]<|qc 37 (qs [zM 43 4,zM 44 0,zM 45 5,qk 46 .add 45 1,zM 47 5,qk 48 .add 47 5,zA 49 (.GM (.t 44) (some<|.t 46)<|some<|.t 48),zA 50 (.oD 13 1 1 [.str []] [(0,.t 49)]),zA 51 (.append 14 1 16 (.t 43)<|.t 50),zM 4 51] [0,4,5]<|.reg [zM 52 5,qk 53 .add 52 6,zM 5 53] [0,4,5])<|qr [zA 2 (.mv<|.k<|.mM 1),qB 3 false] [2,3])<|.seq (qs [zM 54 4,q1 55 80 54,zM 56 0,qb 57 .neq 55 56,zM 58 57,qm 58 false 59 4,⟨(some (58,false)),some 60,.call 81 [.t 59]⟩,zG 58 false 61 (.not<|.t 60),qQ 62 58 61] [4,62]<|qc 62 (qr [zA 2 (.mv<|.k<|.mM 1),qB 3 false] [2,3]) .skip)<|qr [zM 63 4,zM 2 63,qB 3 true] [2,3]
theorem K.jd : nO pZ 46 1 0 C.jd [.tmp 2,.tmp 3]=true:=oK
def C.oU : gI:=qs [zA 2 (.mv<|.k<|.c<|.str []),zA 3 (.mv<|.k<|.c<|.str [])] [0]<|.seq (qs [qI 4 0] [0,4]<|.block 0<|.loop<|.seq (qs [zM 5 4,zM 6 0,ql 7 6,qb 8 .lss 5 7] [0,4,8]<|qc 8 .skip<|.exit 0)<|.seq (.block 1<|qs [zM 11 0,zM 12 4,zA 13 (.idxs (.t 11)<|.t 12),zA 14 (.bin .eql (.t 13)<|.k<|.c<|.lit<|.int .u8 32)] [0,4,14]<|qc 14 (.seq (.yF [(zM 15 0,[]),(zM 16 4,[]),(zA 17 (.GM (.t 15) none<|some<|.t 16),[0,1]),(zM 18 0,[]),(zM 19 4,[]),(qk 20 .add 19 1,[4]),(zA 21 (.GM (.t 18) (some<|.t 20) none),[3,4,5]),(zM 2 17,[0,1,2]),(zM 3 21,ZI)] [2,3]) .ret) .skip)<|.reg [zM 9 4,qk 10 .add 9 1,zM 4 10] [0,4])<|qr [zM 22 0,zM 2 22,zA 3 (.mv<|.k<|.c<|.str [])] [2,3]
theorem K.oU : nO pZ 44 1 0 C.oU [.tmp 2,.tmp 3]=true:=oK
def C.lC : gI:=qs [zA 2 (.mv<|.k<|.mM 8),qB 3 false] [0]<|qs [zA 9 (.oD 10 8 0 [.lit (.int .i64 0),.sl 1 [],.sl 1 [],.lit (.int .i64 0),.lit (.int .i64 0),.str [],.sl 1 [],.sl 5 []] []),zM 4 9] [0,4]<|.seq (.block 0<|.loop<|.seq (qs [zM 10 0,ql 11 10,qk 12 .gtr 11 0,zM 13 12,qm 13 true 14 4,zG 13 true 15 (.len<|.t 14),zG 13 true 16 (.bin .leq (.t 15)<|kI 12),qP 17 13 16] [0,4,17]<|qc 17 .skip<|.exit 0)<|.block 1<|qs [zM 18 0,zA 19 (.build [.c (.str []),xI 0,.c (.lit<|.bool false)] [(0,1,.t 18)]),qX 20 11 19,zM 5 20] [0,4,5]<|qs [zM 21 5,⟨none,some 22,.call 82 [.t 21,kI 5]⟩,qZ 6 12,qS 5 6 22] [0,4,5,6]<|qs [qT 24 5 6,q1 25 83 24,zM 23 25,qE 26 23 0,qE 27 23 1,zA 7 (.alloc 13 [xI 0,.mM 1,.mM 1,xI 0,xI 0,.c (.str []),.mM 1,.mM 5]),qS 8 7 26,zM 8 27] [0,4,5,7,8]<|.seq (qs [zM 28 5,qN 29 28,qA 30 2 29,qF 31 1 30,zM 32 31,qm 32 false 33 8,zG 32 false 34 (.not<|.t 33),qQ 35 32 34,zM 36 35,qm 36 false 37 5,⟨(some (36,false)),some 38,.call 84 [.t 37]⟩,zG 36 false 39 (.bin .neq (.t 38)<|.k<|.c<|.lit<|.int .u8 59),qQ 40 36 39] [0,4,5,7,40]<|qc 40 (qr [zA 2 (.mv<|.k<|.mM 8),qB 3 false] [2,3]) .skip)<|qs [zM 41 4,qT 42 8 7,zA 43 (.oD 14 8 1 [.lit (.int .i64 0),.sl 1 [],.sl 1 [],.lit (.int .i64 0),.lit (.int .i64 0),.str [],.sl 1 [],.sl 5 []] [(0,.t 42)]),zA 44 (.append 15 8 136 (.t 41)<|.t 43),zM 4 44] [0,4,5]<|.reg [zM 45 0,zM 46 5,qN 47 46,qA 48 1 47,qF 49 1 48,qk 50 .add 49 1,zA 51 (.GM (.t 45) (some<|.t 50) none),zM 0 51] [0,4])<|qr [zM 52 4,zM 2 52,qB 3 true] [2,3]
theorem K.lC : nO pZ 47 1 0 C.lC [.tmp 2,.tmp 3]=true:=oK
def C.gm : gI:=qs [zA 2 (.alloc 10 [xI 0,.c (.str []),.mM 1,.mM 1,xI 0,xI 0,.c (.str []),.mM 1,.mM 5,.mM 8]),qB 3 false] [0,2]<|.seq (qs [zM 20 0,ql 21 20,qk 22 .gtr 21 2000] [0,2,22]<|qc 22 (qr [zA 23 (.build [xI 0,.c (.str []),.mM 1,.mM 1,xI 0,xI 0,.c (.str []),.mM 1,.mM 5,.mM 8] []),qS 10 2 23,qB 3 false] [2,3]) .skip)<|qs [zM 25 0,q1 26 44 25,zM 24 26,qE 27 24 0,qE 28 24 1,zM 4 27,zM 5 28] [0,2,4,5]<|qs [zM 30 5,q1 31 44 30,zM 29 31,qE 32 29 0,qE 33 29 1,zM 6 32,zM 7 33] [0,2,4,6,7]<|qs [zM 35 7,q1 36 44 35,zM 34 36,qE 37 34 0,qE 38 34 1,zM 8 37,zM 9 38] [0,2,4,6,8,9]<|qs [zM 40 9,q1 41 44 40,zM 39 41,qE 42 39 0,qE 43 39 1,zM 10 42,zM 11 43] [0,2,4,6,8,10,11]<|qs [zM 44 6,zA 45 (.oD 11 1 0 [.str []] []),zA 46 (.oD 12 1 0 [.str []] []),zA 47 (.oD 13 8 0 [.lit (.int .i64 0),.sl 1 [],.sl 1 [],.lit (.int .i64 0),.lit (.int .i64 0),.str [],.sl 1 [],.sl 5 []] []),zA 48 (.build [xI 0,.c (.str []),.mM 1,.mM 1,xI 0,xI 0,.c (.str []),.mM 1,.mM 5,.mM 8] [(1,1,.t 44),(2,1,.t 45),(3,1,.t 46),(9,1,.t 47)]),zA 12 (.alloc 14 [xI 0,.c (.str []),.mM 1,.mM 1,xI 0,xI 0,.c (.str []),.mM 1,.mM 5,.mM 8]),qS 10 12 48] [0,2,4,8,10,11,12]<|qs [⟨none,some 49,.call 45 []⟩,zM 13 49] [0,2,4,8,10,11,12,13]<|.seq (qs [qI 14 1] [0,2,4,8,10,11,12,13,14]<|.block 0<|.loop<|.seq (qs [zM 50 14,zM 51 13,qL 52 51,qb 53 .lss 50 52] [0,2,4,8,10,11,12,13,14,53]<|qc 53 .skip<|.exit 0)<|.seq (.block 1<|qs [zM 56 13,zM 57 14,qD 58 1 56 57,qF 59 1 58,zM 60 4,qb 61 .eql 59 60] [0,2,4,8,10,11,12,13,14,61]<|qc 61 (.reg [zM 62 14,qA 63 0 12,qU 1 63 62] [0,2,4,8,10,11,12,13,14]) .skip)<|.reg [zM 54 14,qk 55 .add 54 1,zM 14 55] [0,2,4,8,10,11,12,13,14])<|qs [zM 65 8,q1 66 46 65,zM 64 66,qE 67 64 0,qE 68 64 1,zM 15 67,zM 16 68] [0,2,10,11,12,15,16]<|qs [zM 70 10,q1 71 46 70,zM 69 71,qE 72 69 0,qE 73 69 1,zM 17 72,zM 18 73] [0,2,11,12,15,16,17,18]<|qs [qB 19 true] [0,2,11,12,15,16,17,18]<|.cut (qs [qA 74 0 12,qF 75 1 74,qk 76 .eql 75 4] [0,2,11,12,15,16,17,18,76]<|qc 76 (.reg [zM 78 11,q1 79 47 78,zM 77 79,qE 80 77 0,qE 81 77 1,qA 82 9 12,qU 1 82 80,zM 19 81] [0,2,12,15,16,17,18,19])<|.reg [zM 84 11,q1 85 48 84,zM 83 85,qE 86 83 0,qE 87 83 1,qA 88 4 12,qS 5 88 86,zM 19 87] [0,2,12,15,16,17,18,19])<|qs [zM 89 15,qA 90 2 12,qU 1 90 89] [0,2,12,16,17,18,19]<|qs [zM 91 17,qA 92 3 12,qU 1 92 91] [0,2,12,16,18,19]<|.seq (qs [zM 93 16,qO 94 93,zM 95 94,qm 95 false 96 18,zG 95 false 97 (.not<|.t 96),qQ 98 95 97,zM 99 98,qm 99 false 100 19,zG 99 false 101 (.not<|.t 100),qQ 102 99 101,zM 103 102,zG 103 false 104 (.load true 10<|.t 12),⟨(some (103,false)),some 105,.call 49 [.t 104]⟩,qm 103 false 106 0,zG 103 false 107 (.bin .neq (.t 105)<|.t 106),qQ 108 103 107,zM 109 108,qm 109 false 110 0,zG 109 false 111 (.bin .eql (.t 110)<|.k<|.c<|.str []),qQ 112 109 111] [2,12,112]<|qc 112 (qr [zA 113 (.build [xI 0,.c (.str []),.mM 1,.mM 1,xI 0,xI 0,.c (.str []),.mM 1,.mM 5,.mM 8] []),qS 10 2 113,qB 3 false] [2,3]) .skip)<|qr [qT 114 10 12,qS 10 2 114,qB 3 true] [2,3]
theorem K.gm : nO pZ 18 1 0 C.gm [.cell 2 true 10,.tmp 3]=true:=oK
section
section
variable {P:Program} {K R:iI->Prop} {st:iI}
theorem agu {du:DU (QA K R)} : QK (QA K R) .normal st du=K st:=by unfold QK;rfl
theorem agv {du:DU (QA K R)} : QK (QA K R) .ret st du=R st:=by unfold QK;rfl
end
theorem agW {p:Prop}(x:p:=by
 repeat' (
  (try simp -dsimp only[egR,agu,agv,mG.nT,mG.f,mG.rd,FW,Bi,lvl,yx,reduceIte,Nat.reduceEqDiff,Nat.reduceAdd,Nat.reduceLeDiff,Nat.reduceBEq,reduceCtorEq,Int.reduceBNe,Int.reduceBEq,Int.reduceLT,Int.reduceLE,Int.reduceNeg,Nat.reduceLT,F6,Int.reduceToNat,FZ, *])
  repeat((with_reducible refine And.intro ?_ ?_);focus first|(show zZ _ _ _ _=true;kernel_rfl)|(show zL _ _=true;kernel_rfl)|omega|assumption|(show _<=maxLen;decide))
  first
  |with_reducible refine adR ?_
  |((with_reducible refine Zf ?_);(have zd:=zc;(repeat(first|((first|refine aan (λ_=>zd.1) rfl rfl ?_|refine adS zd.1 rfl rfl ?_);clear zd)|with_reducible replace zd:=zd.2));(fail_if_success have zz:=zd)))
  |exact zf.f
  |((with_reducible refine aeG ?_);(exact Fh [] [] [] (by rfl) tRE tRE tRE)<;>fail)
  )):p:=x
end
section
def Ev {α:Type}(g:Nat->Option α)(r:α):Prop:=∃N,∀n,N<=n->g n=some r
section
variable {α β:Type} {g g':Nat->Option α} {r s:α}
theorem jQ (r:α):Ev (λ_=>some r) r:=⟨0,λ_ _=>rfl⟩
theorem bU (h:s=r):Ev (λ_=>some s) r:=by subst h;exact jQ _
theorem dF (h:Ev (λn=>g (n+1)) r):Ev g r:=by obtain⟨N,h⟩:=h;refine⟨N+1,λn hn=>?_⟩;obtain⟨m,rfl⟩:∃m,n=m+1:=⟨n-1,aI⟩;exact h m aI
theorem aZ {h:Nat->Option β}{k:Nat->β->Option α}{a:β}(h1:Ev h a)(h2:Ev (λn=>k n a) r):Ev (λn=>lY (h n) (k n)) r:=by obtain⟨N,h1⟩:=h1;obtain⟨M,h2⟩:=h2;refine⟨max N M,λn hn=>?_⟩;show lY (h n) (k n)=some r;rw[h1 n aI];exact h2 n aI
theorem yh {p:Prop}[Decidable p](hp:p)(h:Ev g r):Ev (λn=>Ab.chk p (g n)) r:=by obtain⟨N,h⟩:=h;exact⟨N,λn hn=>by show Ab.chk p (g n)=some r;rw[Ab.chk,aF hp];exact h n hn⟩
theorem mF {c:Bool}(hc:c=true)(h:Ev g r):Ev (λn=>cond c (g n) (g' n)) r:=by subst hc;exact h
theorem mW {c:Bool}(hc:c=false)(h:Ev g' r):Ev (λn=>cond c (g n) (g' n)) r:=by subst hc;exact h
theorem iY {p:Prop}[Decidable p](h:Ev g r)(hp:p:=by omega):Ev (λn=>Ab.chk p (g n)) r:=yh hp h
theorem vN {p:Prop}[Decidable p](h:Ev g r)(hp:p:=by omega):Ev (λn=>cond (decide p) (g n) (g' n)) r:=mF (iH hp) h
theorem rU {p:Prop}[Decidable p](h:Ev g' r)(hp:¬p:=by omega):Ev (λn=>cond (decide p) (g n) (g' n)) r:=mW (gW hp) h
theorem fH {c:Bool}(h:c=true->Ev g r)(h':c=false->Ev g' r):Ev (λn=>cond c (g n) (g' n)) r:=by
 cases c
 ·exact h' rfl
 ·exact h rfl
theorem Ev.eq (h:Ev g r)(e:r=s):Ev g s:=e▸h
theorem Ev.uniq (h:Ev g r)(k:Ev g s):r=s:=by obtain⟨N,h⟩:=h;obtain⟨M,k⟩:=k;have e:=h (max N M) aI;rw[k (max N M) aI]at e;exact(Option.some.inj e).symm
theorem Ev.val (h:Ev g r):∃n,g n=some r:=⟨h.choose,h.choose_spec _ (ak _)⟩
end
theorem wrapN {x:Int}{m:Nat}(h:x=(m:Int))(h1:m<9223372036854775808):af .i64 x=(m:Int):=by rw[VX aI aI,h]
theorem qp {i:Nat}(h1:i+1<9223372036854775808):af .i64 ((i:Int)+1)=((i+1:Nat):Int):=wrapN aI h1
theorem Gh (i:Nat)(h1:i+1<9223372036854775808:=by omega):IntKind.wrap .i64 ((i:Int)+1)=((i+1:Nat):Int):=qp h1
theorem lS {α:Type}{l:List α}{i:Nat}(d:α)(h:i<l.length):l.getD i d=l[i]:=by simp[List.getD,h]
theorem gQ {α:Type}{l:List α}{i:Nat}(d:α)(h:i<l.length):l.drop i=l.getD i d::l.drop (i+1):=by rw[lS d h,List.drop_eq_getElem_cons h]
abbrev bl (x y:List UInt8):Bool:=jV x y
theorem adN (x:List UInt8):bl x []=false:=by cases x<;>rfl
theorem UH (a b:UInt8)(x y:List UInt8):bl (a::x) (b::y)=(decide (a<b)||(a==b&&bl x y)):=rfl
theorem UI : ∀x:List UInt8,bl x x=false
 |[]=>rfl
 |a::x=>by rw[UH,UI x];simp
theorem Wy : ∀{x y z:List UInt8},bl x y=true->bl y z=true->bl x z=true
 |_,[],_,h,_=>by rw[adN]at h;cases h
 |_,_::_,[],_,h=>by rw[adN]at h;cases h
 |[],_::_,_::_,_,_=>rfl
 | a::x,b::y,c::z,h,k=>by
   rw[UH]at *;simp only[dP,ah,aj,aH]at *;rcases h with h|⟨rfl,h⟩<;>rcases k with k|⟨rfl,k⟩
   ·exact .inl (UInt8.lt_trans h k)
   ·exact .inl h
   ·exact .inl k
   ·exact .inr ⟨rfl,Wy h k⟩
theorem Yx : ∀{x y:List UInt8},bl x y=false->bl y x=false->x=y
 |[],[],_,_=>rfl
 |[],_::_,h,_=>by cases h
 |_::_,[],_,h=>by cases h
 | a::x,b::y,h,k=>by
   rw[UH]at *;simp only[Bool.or_eq_false_iff,lN,aQ]at *;obtain⟨h1,h2⟩:=h;obtain⟨k1,k2⟩:=k;have e:a=b:=by apply UInt8.toNat_inj.1;simp only[UInt8.lt_iff_toNat_lt]at h1 k1;omega
   subst e;simp only[beq_self_eq_true,Bool.true_eq_false,false_or]at h2 k2;rw[Yx h2 k2]
theorem Wx {x y:List UInt8}(h:bl x y=true):bl y x=false:=by
 cases k:bl y x with
 |false=>rfl
 |true=>have:=Wy h k;rw[UI]at this;cases this
end
def okB (b:UInt8):Bool:=decide (32<=b.toNat)&&decide (b.toNat<=126)
def PT (s:di):Bool:=s.all okB&&decide (s.length<=12)
def PP (p:List di):Bool:=p.all PT&&decide (p.length<=5)
def Asc : List di->Bool
 |[]=>true
 |[_]=>true
 |x::y::r=>jV x y&&Asc (y::r)
def big : Nat:=4611686018427387904
theorem NC (b:UInt8):af .i64 (b.toNat:Int)=(b.toNat:Int):=by have:=b.toNat_lt;exact wrapN rfl aI
theorem T.gK (a lo hi:Int):Ev (λn=>G.gK n a lo hi) (decide (lo<=a)&&decide (a<=hi)):=by
 refine dF ?_;simp only[G.gK];refine fH (λh=>?_) (λh=>?_)
 ·exact bU (by rw[h,dX])
 ·exact bU (by rw[h,xE])
theorem T.iV.L1 (s:di)(hs:s.length<big):∀(k i:Nat),i+k=s.length->Ev (λn=>G.iV.L1 n s i) ((s.drop i).all okB&&decide (s.length<=12)):=by
 unfold big at hs;intro k
 induction k with
 | zero=>intro i hi;refine dF ?_;simp only[G.iV.L1];refine mW (by simp;omega) (bU ?_);rw[aB aI];simp;omega
 | succ k ih=>
   intro i hi;refine dF ?_;simp only[G.iV.L1];refine mF (by simp;omega) (iY ?_);refine aZ (T.gK _ _ _) ?_;rw[gQ (0:UInt8) (by omega:i<s.length),fF,ax,NC];have e:(decide ((32:Int)<=((s.getD i 0).toNat:Int))&&decide (((s.getD i 0).toNat:Int)<=126))=okB (s.getD i 0):=(by unfold okB;congr 1<;>(apply decide_eq_decide.2;omega));rw[e];refine fH (λh=>?_) (λh=>?_)
   ·rw[qp aI,h,dX];exact ih (i+1) aI
   ·exact bU (by rw[h];rfl)
theorem T.iV (s:di)(hs:s.length<big):Ev (λn=>G.iV n s) (PT s):=by refine dF ?_;simp only[G.iV];exact T.iV.L1 s hs s.length 0 aI
theorem T.gB.L1 (s:di)(hs:s.length<big):∀(k i:Nat),i+k=s.length->Ev (λn=>G.gB.L1 n s i) ((s.drop i).all okB):=by
 unfold big at hs;intro k
 induction k with
 | zero=>intro i hi;refine dF ?_;simp only[G.gB.L1];refine mW (by simp;omega) (bU ?_);rw[aB aI];rfl
 | succ k ih=>
   intro i hi;refine dF ?_;simp only[G.gB.L1];rw[gQ (0:UInt8) (by omega:i<s.length),fF,ax];refine mF (by simp;omega) (iY ?_);refine fH (λh=>?_) (λh=>?_)
   ·refine bU ?_;have:okB (s.getD i 0)=false:=by
     simp only[aj]at h;simp only[okB,lN,aQ];omega
    rw[this];rfl
   ·refine iY ?_;refine fH (λk=>?_) (λk=>?_)
    ·refine bU ?_;have:okB (s.getD i 0)=false:=by
      simp only[aj]at k;simp only[okB,lN,aQ];omega
     rw[this];rfl
    ·have:okB (s.getD i 0)=true:=by
      simp only[aQ]at h k;simp only[okB,ah,aj];omega
     rw[this,dX,qp aI];exact ih (i+1) aI
theorem T.gB (s:di)(hs:s.length<big):Ev (λn=>G.gB n s) (PT s):=by
 refine dF ?_;simp only[G.gB];refine fH (λh=>?_) (λh=>?_)
 ·simp only[aj]at h;refine bU ?_;have:decide (s.length<=12)=false:=by simp;omega
  rw[PT,this,qJ]
 ·simp only[aQ]at h;refine(T.gB.L1 s hs s.length 0 aI).eq ?_;have:decide (s.length<=12)=true:=by simp;omega
  rw[PT,this,sK,iC]
def Sm (l:List di):Prop:=l.length<big/\∀s,s∈l->s.length<big
theorem Sm.get {l:List di}(h:Sm l){i:Nat}(hi:i<l.length):(l.getD i default).length<big:=by rw[lS _ hi];exact h.2 _ (fU hi)
theorem T.jE.L1 (p:List di)(hp:Sm p):∀(k i:Nat),i+k=p.length->Ev (λn=>G.jE.L1 n p i) ((p.drop i).all PT&&decide (p.length<=5)):=by
 have hl:=hp.1;unfold big at hl;intro k
 induction k with
 | zero=>intro i hi;refine dF ?_;simp only[G.jE.L1];refine mW (by simp;omega) (bU ?_);rw[aB aI];simp;omega
 | succ k ih=>
   intro i hi;refine dF ?_;simp only[G.jE.L1];refine mF (by simp;omega) (iY ?_);rw[gQ (default:di) (by omega:i<p.length),fF,ax];refine aZ (T.iV _ (hp.get aI)) ?_;refine fH (λh=>?_) (λh=>?_)
   ·rw[qp aI,h,dX];exact ih (i+1) aI
   ·exact bU (by rw[h];rfl)
theorem T.jE (p:List di)(hp:Sm p):Ev (λn=>G.jE n p) (PP p):=by refine dF ?_;simp only[G.jE];exact T.jE.L1 p hp p.length 0 aI
theorem T.kJ.L1 (p:List di)(hp:Sm p):∀(k i:Nat),i+k=p.length->Ev (λn=>G.kJ.L1 n p i) ((p.drop i).all PT):=by
 have hl:=hp.1;unfold big at hl;intro k
 induction k with
 | zero=>intro i hi;refine dF ?_;simp only[G.kJ.L1];refine mW (by simp;omega) (bU ?_);rw[aB aI];rfl
 | succ k ih=>
   intro i hi;refine dF ?_;simp only[G.kJ.L1];refine mF (by simp;omega) (iY ?_);rw[gQ (default:di) (by omega:i<p.length),fF,ax];refine aZ (T.gB _ (hp.get aI)) ?_;refine fH (λh=>?_) (λh=>?_)
   ·rw[qp aI,h,dX];exact ih (i+1) aI
   ·exact bU (by rw[h];rfl)
theorem T.kJ (p:List di)(hp:Sm p):Ev (λn=>G.kJ n p) (PP p):=by
 refine dF ?_;simp only[G.kJ];refine fH (λh=>?_) (λh=>?_)
 ·simp only[aj]at h;refine bU ?_;have:decide (p.length<=5)=false:=by simp;omega
  rw[PP,this,qJ]
 ·simp only[aQ]at h;refine(T.kJ.L1 p hp p.length 0 aI).eq ?_;have:decide (p.length<=5)=true:=by simp;omega
  rw[PP,this,sK,iC]
def NM (l:List di):Bool:=l.all PT&&Asc l
theorem drop_pred {l:List di}{i:Nat}(h0:0<i)(h:i<l.length):l.drop (i-1)=l.getD (i-1) default::l.getD i default::l.drop (i+1):=by rw[gQ (default:di) (by omega:i-1<l.length),show i-1+1=i by omega,gQ (default:di) h]
theorem T.mQ.L1 (l:List di)(hp:Sm l):∀(k i:Nat),i+k=l.length->Ev (λn=>G.mQ.L1 n l i) ((l.drop i).all PT&&Asc (l.drop (i-1))):=by
 have hl:=hp.1;unfold big at hl;intro k
 induction k with
 | zero=>
   intro i hi;refine dF ?_;simp only[G.mQ.L1];refine mW (by simp;omega) (bU ?_);rw[aB aI];by_cases h0:i=0
   ·rw[aB aI];rfl
   ·rw[gQ (default:di) (by omega:i-1<l.length),aB aI];rfl
 | succ k ih=>
   intro i hi;refine dF ?_;simp only[G.mQ.L1];refine mF (by simp;omega) (iY ?_);rw[gQ (default:di) (by omega:i<l.length),fF,ax];refine aZ (T.iV _ (hp.get aI)) ?_;refine fH (λh=>?_) (λh=>?_)
   ·rw[h,dX,qp aI];refine fH (λh0=>?_) (λh0=>?_)
    ·simp only[aj]at h0;have e:af .i64 ((i:Int)-1)=((i-1:Nat):Int):=wrapN aI aI;rw[e,ax];refine iY (iY ?_);rw[drop_pred aI aI,Asc];have hd:l.getD i default::l.drop (i+1)=l.drop (i+1-1):=(by rw[xN,<- gQ (default:di) (by omega:i<l.length)]);refine fH (λh1=>?_) (λh1=>?_)
     ·exact bU (by rw[show jV (l.getD (i-1) default) (l.getD i default)=false from Wx h1];simp)
     ·refine fH (λh2=>?_) (λh2=>?_)
      ·rw[aH]at h2;exact bU (by rw[show jV (l.getD (i-1) default) (l.getD i default)=false by rw[h2];exact UI _];simp)
      ·have:jV (l.getD (i-1) default) (l.getD i default)=true:=by
        cases hb:jV (l.getD (i-1) default) (l.getD i default)with
        |true=>rfl
        |false=>rw[Yx h1 hb]at h2;simp at h2
       rw[this,dX,hd];exact ih (i+1) aI
    ·simp only[aQ]at h0;have:i=0:=(by omega);subst this;exact ih 1 aI
   ·exact bU (by rw[h];rfl)
theorem T.mQ (l:List di)(hp:Sm l):Ev (λn=>G.mQ n l) (NM l):=by refine dF ?_;simp only[G.mQ];exact T.mQ.L1 l hp l.length 0 aI
theorem T.jI.L1 (l:List di)(hp:Sm l):∀(k i:Nat),i+k=l.length->Ev (λn=>G.jI.L1 n l i) ((l.drop i).all PT&&Asc (l.drop (i-1))):=by
 have hl:=hp.1;unfold big at hl;intro k
 induction k with
 | zero=>
   intro i hi;refine dF ?_;simp only[G.jI.L1];refine mW (by simp;omega) (bU ?_);rw[aB aI];by_cases h0:i=0
   ·rw[aB aI];rfl
   ·rw[gQ (default:di) (by omega:i-1<l.length),aB aI];rfl
 | succ k ih=>
   intro i hi;refine dF ?_;simp only[G.jI.L1];refine mF (by simp;omega) (iY ?_);rw[gQ (default:di) (by omega:i<l.length),fF,ax];refine aZ (T.gB _ (hp.get aI)) ?_;refine fH (λh=>?_) (λh=>?_)
   ·rw[h,dX,qp aI];refine fH (λh0=>?_) (λh0=>?_)
    ·simp only[aj]at h0;have e:af .i64 ((i:Int)-1)=((i-1:Nat):Int):=wrapN aI aI;rw[e,ax];refine iY ?_;rw[drop_pred aI aI,Asc];have hd:l.getD i default::l.drop (i+1)=l.drop (i+1-1):=(by rw[xN,<- gQ (default:di) (by omega:i<l.length)]);refine fH (λh1=>?_) (λh1=>?_)
     ·rw[h1,dX,hd];exact ih (i+1) aI
     ·exact bU (by rw[h1];simp)
    ·simp only[aQ]at h0;have:i=0:=(by omega);subst this;exact ih 1 aI
   ·exact bU (by rw[h];rfl)
theorem T.jI (l:List di)(hp:Sm l):Ev (λn=>G.jI n l) (NM l&&decide (l.length<=6)):=by
 refine dF ?_;simp only[G.jI];refine fH (λh=>?_) (λh=>?_)
 ·simp only[aj]at h;refine bU ?_;have:decide (l.length<=6)=false:=by simp;omega
  rw[this,qJ]
 ·simp only[aQ]at h;refine(T.jI.L1 l hp l.length 0 aI).eq ?_;have:decide (l.length<=6)=true:=by simp;omega
  rw[NM,this,sK,iC]
def Fine (B:Nat):Nat->au->Prop
 |0,_=>False
 |d+1,n=>n.oz.length<=B/\n.dS.length<=B/\(∀s,s∈n.dS->s.length<=B)/\n.bC.length<=B/\(n.dH=4->n.bC.length<=n.dS.length)/\∀k,k∈n.bC->Fine B d k
def sF (B:Nat):Nat->au->Prop
 |0,_=>False
 |d+1,n=>n.oz.length<=B/\n.dS.length<=B/\(∀s,s∈n.dS->s.length<=B)/\n.bC.length<=B/\True/\∀k,k∈n.bC->sF B d k
theorem Fine.fin0 {B:Nat} : ∀{d:Nat} {n:au},Fine B d n->sF B d n
 |0,_,h=>h
 |d+1,n,⟨h1,h2,h3,h4,_,h6⟩=>⟨h1,h2,h3,h4,trivial,λk hk=>(h6 k hk).fin0⟩
theorem Fine.mono {B C:Nat}(hB:B<=C):∀{d e:Nat} {n:au},d<=e->Fine B d n->Fine C e n
 |0,_,_,_,h=>h.elim
 |d+1,0,_,hd,_=>by omega
 | d+1,e+1,n,hd,h=>by obtain⟨h1,h2,h3,h4,h5,h6⟩:=h;exact⟨aI,aI,λs hs=>dR (h3 s hs) hB,aI,h5,λk hk=>(h6 k hk).mono hB aI⟩
theorem sF.mono {B C:Nat}(hB:B<=C):∀{d e:Nat} {n:au},d<=e->sF B d n->sF C e n
 |0,_,_,_,h=>h.elim
 |d+1,0,_,hd,_=>by omega
 | d+1,e+1,n,hd,h=>by obtain⟨h1,h2,h3,h4,h5,h6⟩:=h;exact⟨aI,aI,λs hs=>dR (h3 s hs) hB,aI,h5,λk hk=>(h6 k hk).mono hB aI⟩
def lim : Nat:=4294967296
theorem Fine.sm {B d:Nat}{n:au}(hB:B<=lim)(h:Fine B d n):Sm n.dS:=by
 cases d with
 |zero=>exact h.elim
 | succ d=>obtain⟨h1,h2,h3,h4,h5,h6⟩:=h;unfold lim at hB;exact⟨by unfold big;omega,λs hs=>by have:=h3 s hs;unfold big;omega⟩
theorem sF.sm {B d:Nat}{n:au}(hB:B<=lim)(h:sF B d n):Sm n.dS:=by
 cases d with
 |zero=>exact h.elim
 | succ d=>obtain⟨h1,h2,h3,h4,h5,h6⟩:=h;unfold lim at hB;exact⟨by unfold big;omega,λs hs=>by have:=h3 s hs;unfold big;omega⟩
theorem Fine.text {B d:Nat}{n:au}(hB:B<=lim)(h:Fine B d n):n.oz.length<big:=by
 cases d with
 |zero=>exact h.elim
 |succ d=>obtain⟨h1,_⟩:=h;unfold lim at hB;unfold big;omega
theorem sF.text {B d:Nat}{n:au}(hB:B<=lim)(h:sF B d n):n.oz.length<big:=by
 cases d with
 |zero=>exact h.elim
 |succ d=>obtain⟨h1,_⟩:=h;unfold lim at hB;unfold big;omega
theorem Fine.kids {B d:Nat}{n:au}(h:Fine B d n):n.bC.length<=B:=by
 cases d with
 |zero=>exact h.elim
 |succ d=>exact h.2.2.2.1
theorem sF.kids {B d:Nat}{n:au}(h:sF B d n):n.bC.length<=B:=by
 cases d with
 |zero=>exact h.elim
 |succ d=>exact h.2.2.2.1
theorem Fine.names {B d:Nat}{n:au}(h:Fine B d n):n.dS.length<=B:=by
 cases d with
 |zero=>exact h.elim
 |succ d=>exact h.2.1
theorem sF.names {B d:Nat}{n:au}(h:sF B d n):n.dS.length<=B:=by
 cases d with
 |zero=>exact h.elim
 |succ d=>exact h.2.1
theorem Fine.map {B d:Nat}{n:au}(h:Fine B d n)(hk:n.dH=4):n.bC.length<=n.dS.length:=by
 cases d with
 |zero=>exact h.elim
 |succ d=>exact h.2.2.2.2.1 hk
theorem Fine.kid {B d:Nat}{n:au}(h:Fine B (d+1) n){i:Nat}(hi:i<n.bC.length):Fine B d (n.bC.getD i default):=by rw[lS _ hi];exact h.2.2.2.2.2 _ (fU hi)
theorem sF.kid {B d:Nat}{n:au}(h:sF B (d+1) n){i:Nat}(hi:i<n.bC.length):sF B d (n.bC.getD i default):=by rw[lS _ hi];exact h.2.2.2.2.2 _ (fU hi)
def Parts (n:au):Bool:=
 (n.dH==1||n.ve==0)&&(n.dH==2||n.oz==[])&&(n.dH==4||n.dS.length==0) &&
 (if n.dH=0 then n.bC.length==0 else if n.dH=1 then(decide (-999999<=n.ve)&&decide (n.ve<=999999))&&n.bC.length==0 else if n.dH=2 then PT n.oz&&n.bC.length==0
  else if n.dH=3 then decide (n.bC.length<=6)else if n.dH=4 then NM n.dS&&decide (n.dS.length<=6)&&n.bC.length==n.dS.length else false)
def Shape : Nat->au->Bool
 |0,_=>false
 |d+1,n=>Parts n&&n.bC.all (Shape d)
theorem ilen {a b:Nat} : ((a:Int)==(b:Int))=(a==b):=by rw[qg];simp;omega
theorem akD {a:Nat} : ((a:Int)==0)=(a==0):=by rw[qg];simp
theorem Kq {a b:Nat} : decide ((a:Int)<=(b:Int))=decide (a<=b):=by rw[qg];simp
def KE (n:au):Bool:=
 (n.dH==4||n.dS.length==0) &&
 (if n.dH=0 then n.bC.length==0 else if n.dH=1 then(decide (-999999<=n.ve)&&decide (n.ve<=999999))&&n.bC.length==0 else if n.dH=2 then PT n.oz&&n.bC.length==0
  else if n.dH=3 then decide (n.bC.length<=6)else if n.dH=4 then NM n.dS&&decide (n.dS.length<=6)&&n.bC.length==n.dS.length else false)
theorem adE (n:au):Parts n=((n.dH==1||n.ve==0)&&(n.dH==2||n.oz==[])&&KE n):=by unfold Parts KE;simp only[Bool.and_assoc]
theorem T0.gJ.K1 {B d:Nat}{n:au}(hB:B<=lim)(h:sF B d n):Ev (λf=>G.gJ.K1 f n) (KE n):=by
 refine dF ?_;simp only[G.gJ.K1];have ht:=T.gB _ (h.text hB);have hn:=T.jI _ (h.sm hB);have h0:decide ((0:Int)<(n.dS.length:Int)) = !(n.dS.length==0):=by cases hq:n.dS.length<;>simp
 have h6:decide ((n.bC.length:Int)<=6)=decide (n.bC.length<=6):=by rw[qg];simp;omega
 rw[h0];have tail:Ev (λf=>cond (n.dH==0) (some ((n.bC.length:Int)==0)) (cond (n.dH==1) (cond (decide ((-999999)<=n.ve)) (cond (decide (n.ve<=999999)) (some ((n.bC.length:Int)==0)) (some false)) (some false))
  (cond (n.dH==2) (lY (G.gB f n.oz) λv3=>cond v3 (some ((n.bC.length:Int)==0)) (some false))
  (cond (n.dH==3) (some (decide ((n.bC.length:Int)<=6))) (cond (n.dH==4) (lY (G.jI f n.dS) λv4=>cond v4 (some ((n.bC.length:Int)==(n.dS.length:Int))) (some false)) (some false))))))
  (if n.dH=0 then n.bC.length==0 else if n.dH=1 then(decide (-999999<=n.ve)&&decide (n.ve<=999999))&&n.bC.length==0 else if n.dH=2 then PT n.oz&&n.bC.length==0
   else if n.dH=3 then decide (n.bC.length<=6)else if n.dH=4 then NM n.dS&&decide (n.dS.length<=6)&&n.bC.length==n.dS.length else false):=by
  rw[akD,ilen,h6];refine fH (λe=>bU ?_) (λe0=>?_)
  ·rw[aF (by simpa using e)]
  rw[ai (by simpa using e0)];refine fH (λe=>?_) (λe1=>?_)
  ·rw[aF (by simpa using e)];refine fH (λk=>fH (λk2=>bU ?_) (λk2=>bU ?_)) (λk=>bU ?_)
   ·rw[k,k2];simp
   ·rw[k2];simp
   ·rw[k];simp
  rw[ai (by simpa using e1)];refine fH (λe=>?_) (λe2=>?_)
  ·rw[aF (by simpa using e)];refine aZ ht (fH (λk=>bU ?_) (λk=>bU ?_))
   ·rw[k,dX]
   ·rw[k,xE]
  rw[ai (by simpa using e2)];refine fH (λe=>bU ?_) (λe3=>?_)
  ·rw[aF (by simpa using e)]
  rw[ai (by simpa using e3)];refine fH (λe=>?_) (λe4=>bU ?_)
  ·rw[aF (by simpa using e)];refine aZ hn (fH (λk=>bU ?_) (λk=>bU ?_))
   ·rw[k,dX]
   ·rw[k,xE]
  ·rw[ai (by simpa using e4)]
 refine fH (λe=>?_) (λe=>?_)
 ·have e':(n.dH==4)=false:=by simpa using e
  refine fH (λk=>bU ?_) (λk=>?_)
  ·rw[Bool.not_eq_true']at k;rw[KE,e',k];rfl
  ·rw[Bool.not_eq_false']at k;exact tail.eq (by rw[KE,k,wz,dX])
 ·have e':(n.dH==4)=true:=by simpa using e
  exact tail.eq (by rw[KE,e',wC,dX])
theorem T0.gJ {B d:Nat}{n:au}(hB:B<=lim)(h:sF B d n):Ev (λf=>G.gJ f n) (Parts n):=by
 refine dF ?_;simp only[G.gJ];have hk:=T0.gJ.K1 hB h;rw[adE];have tail:Ev (λf=>cond (n.dH != 2) (cond (n.oz==[]) (G.gJ.K1 f n) (some false)) (G.gJ.K1 f n)) ((n.dH==2||n.oz==[])&&KE n):=by
  refine fH (λe=>?_) (λe=>?_)
  ·have e':(n.dH==2)=false:=(by simpa using e);refine fH (λk=>?_) (λk=>bU ?_)
   ·exact hk.eq (by rw[k,wz,dX])
   ·rw[e',k];rfl
  ·have e':(n.dH==2)=true:=(by simpa using e);exact hk.eq (by rw[e',wC,dX])
 refine fH (λe=>?_) (λe=>?_)
 ·have e':(n.dH==1)=false:=by simpa using e
  refine fH (λk=>bU ?_) (λk=>?_)
  ·have:(n.ve==0)=false:=(by simpa using k);rw[e',this];rfl
  ·have:(n.ve==0)=true:=(by simpa using k);exact tail.eq (by rw[this,wz,dX])
 ·have e':(n.dH==1)=true:=by simpa using e
  exact tail.eq (by rw[e',wC,dX])
theorem T0.o7.L1 {B D d:Nat}{n:au}(hB:B<=lim)(h:sF B (D+1) n)(hd:d<1000)(hs:∀k,k∈n.bC->Ev (λf=>G.ji f k d) (Shape d k)) :
 ∀(k i:Nat),i+k=n.bC.length->Ev (λf=>G.o7.L1 f n ((d+1:Nat):Int) i) ((n.bC.drop i).all (Shape d)):=by
 have hl:=h.kids;unfold lim at hB;intro k
 induction k with
 | zero=>intro i hi;refine dF ?_;simp only[G.o7.L1];refine mW (by simp;omega) (bU ?_);rw[aB aI];rfl
 | succ k ih=>
   intro i hi;refine dF ?_;simp only[G.o7.L1];refine mF (by simp;omega) (iY ?_);rw[gQ (default:au) (by omega:i<n.bC.length),fF,ax];have e:af .i64 (((d+1:Nat):Int)-1)=(d:Int):=wrapN aI aI;rw[e];refine aZ (hs _ (by rw[lS _ (by omega:i<n.bC.length)];exact fU _)) ?_;refine fH (λh=>?_) (λh=>?_)
   ·rw[qp aI,h,dX];exact ih (i+1) aI
   ·exact bU (by rw[h];rfl)
theorem T0.o7 {B D d:Nat}{n:au}(hB:B<=lim)(h:sF B (D+1) n)(hd:d<1000)(hs:∀k,k∈n.bC->Ev (λf=>G.ji f k d) (Shape d k)) :
 Ev (λf=>G.o7 f n ((d+1:Nat):Int)) (n.bC.all (Shape d)):=by
 refine dF ?_;simp only[G.o7];exact T0.o7.L1 hB h hd hs n.bC.length 0 aI
def ShK (d:Nat)(n:au):Bool:=
 if n.dH=1 then decide (-999999<=n.ve)&&decide (n.ve<=999999)else if n.dH=2 then PT n.oz else if n.dH=3 then n.bC.all (Shape d)
 else if n.dH=4 then n.dS.length==n.bC.length&&NM n.dS&&n.bC.all (Shape d)else n.dH==0
theorem T0.ji.K1 {B D d:Nat}{n:au}(hB:B<=lim)(h:sF B (D+1) n)(hd:d<1000)(hs:∀k,k∈n.bC->Ev (λf=>G.ji f k d) (Shape d k)) :
 Ev (λf=>G.ji.K1 f n ((d+1:Nat):Int)) (ShK d n):=by
 refine dF ?_;simp only[G.ji.K1];have hk:=T0.o7 hB h hd hs;unfold ShK;refine fH (λe=>?_) (λe1=>?_)
 ·rw[aF (by simpa using e)];exact aZ (T.gK _ _ _) (jQ _)
 rw[ai (by simpa using e1)];refine fH (λe=>?_) (λe2=>?_)
 ·rw[aF (by simpa using e)];exact aZ (T.iV _ (h.text hB)) (jQ _)
 rw[ai (by simpa using e2)];refine fH (λe=>?_) (λe3=>?_)
 ·rw[aF (by simpa using e)];exact aZ hk (jQ _)
 rw[ai (by simpa using e3)];refine fH (λe=>?_) (λe4=>?_)
 ·rw[aF (by simpa using e),ilen];refine fH (λk=>?_) (λk=>bU (by rw[k];rfl));refine aZ (T.mQ _ (h.sm hB)) ?_;refine fH (λk2=>?_) (λk2=>bU (by rw[k2];simp));exact aZ hk (bU (by rw[k,k2];rfl))
 ·exact bU (by rw[ai (by simpa using e4)])
theorem akE {a:Nat} : decide ((0:Int)<(a:Int)) = !(a==0):=by cases a<;>simp
theorem YQ {c a:Bool}{g:Nat->Option Bool}{V:Bool}(h:Ev g V):Ev (λf=>cond c (cond a (some false) (g f)) (g f)) ((!c || !a)&&V):=by
 cases c<;>cases a
 ·exact h
 ·exact h
 ·exact h
 ·exact jQ _
theorem agP {c a:Bool}{g:Nat->Option Bool}{V:Bool}(h:Ev g V):Ev (λf=>cond c (cond a (g f) (some false)) (g f)) ((!c||a)&&V):=by
 cases c<;>cases a
 ·exact h
 ·exact h
 ·exact jQ _
 ·exact h
theorem Le {n:au}(h:6<n.bC.length):Parts n=false:=by
 have e0:(n.bC.length==0)=false:=beq_eq_false_iff_ne.2 aI;have e6:decide (n.bC.length<=6)=false:=by simp;omega
 have e4:(NM n.dS&&decide (n.dS.length<=6)&&n.bC.length==n.dS.length)=false:=by
  cases h1:decide (n.dS.length<=6)with
  |false=>simp
  | true=>have:(n.bC.length==n.dS.length)=false:=(by simp at h1;simp;omega);rw[this,qJ]
 unfold Parts;rw[e0,e6,e4];simp
theorem afG {d:Nat}{n:au}(h:n.bC.length<=6) :
 ((!(n.dH != 1) || !(n.ve != 0))&&((!(n.dH != 2)||n.oz==[])&&((!(n.dH != 4) || !(!(n.dS.length==0)))&&((!(decide (n.dH<3)) || !(!(n.bC.length==0)))&&ShK d n))))=Shape (d+1) n:=by
 have e6:decide (n.bC.length<=6)=true:=by simp;omega
 have hall:n.bC.length=0->n.bC.all (Shape d)=true:=λe=>by rw[dN e];rfl
 have hb:∀x y:Int,(!(x != y))=(x==y):=λx y=>by simp[bne]
 rw[hb,hb,hb,hb];unfold Shape Parts ShK;simp only[Bool.not_not,Bool.and_assoc]
 congr 1
 congr 1
 congr 1
 rw[e6];by_cases k0:n.dH=0
 ·simp only[k0];cases hz:(n.bC.length==0)<;>simp_all
 by_cases k1:n.dH=1
 ·simp only[k1];cases hz:(n.bC.length==0)<;>simp_all
 by_cases k2:n.dH=2
 ·simp only[k2];cases hz:(n.bC.length==0)<;>simp_all
 by_cases k3:n.dH=3
 ·simp[k3]
 by_cases k4:n.dH=4
 ·simp only[k4];have hc:(n.bC.length==n.dS.length)=(n.dS.length==n.bC.length):=by rw[qg];simp;omega
  rw[hc];cases hz:(n.dS.length==n.bC.length)
  ·simp
  ·have:decide (n.dS.length<=6)=true:=(by simp at hz;simp;omega);simp[this]
 ·simp[k0,k1,k2,k3,k4]
def Cnt : Nat->au->Nat
 |0,_=>0
 |d+1,n=>1+(n.bC.map (Cnt d)).sum
theorem mP {d:Nat}{n:au}(h:Shape (d+1) n=true):Parts n=true:=by unfold Shape at h;simp only[ah]at h;exact h.1
theorem yg {d:Nat}{n:au}(h:Shape (d+1) n=true):∀k,k∈n.bC->Shape d k=true:=by unfold Shape at h;simp only[ah]at h;exact aN.1 h.2
theorem ER {d:Nat}{n:au}(h:Shape d n=true):n.bC.length<=6:=by
 cases d with
 |zero=>cases h
 | succ d=>
   by_cases k:n.bC.length<=6
   ·exact k
   ·have:=Le (n:=n) aI;rw[mP h]at this;cases this
theorem afO {α:Type}(f:α->Nat)(m:Nat):∀l:List α,(∀x,x∈l->f x<=m)->(l.map f).sum<=l.length*m
 |[],_=>by simp
 | x::l,h=>by have h1:=afO f m l (λy hy=>h y (by simp[hy]));have h2:=h x nV;simp only[bJ,AP,dW,Nat.add_mul];omega
theorem cnt_le : ∀{d:Nat} {n:au},Shape d n=true->Cnt d n<=7^d
 |0,_,h=>by cases h
 | d+1,n,h=>by have hk:=yg h;have:=afO (Cnt d) (7^d) n.bC (λk hk'=>cnt_le (hk k hk'));have h6:=ER h;have hm:n.bC.length*7^d<=6*7^d:=Nat.mul_le_mul_right _ h6;have hp:1<=7^d:=Nat.one_le_pow _ _ aI;unfold Cnt;rw[Nat.pow_succ];omega
theorem VC {d:Nat}(h:d<=5):7^d<=16807:=dR (Nat.pow_le_pow_right aI h) xR
theorem T0.ji {B:Nat}(hB:B<=lim):∀(d D:Nat) (n:au),d<1000->sF B D n->Ev (λf=>G.ji f n (d:Int)) (Shape d n):=by
 intro d
 induction d with
 | zero=>intro D n _ h;refine dF ?_;simp only[G.ji];exact mF nV (jQ _)
 | succ d ih=>
   intro D n hd h;cases D with
   |zero=>exact h.elim
   |succ D=>
   have hK:=T0.ji.K1 (d:=d) hB h aI (λk hk=>ih D k aI (h.2.2.2.2.2 k hk));refine dF ?_;simp only[G.ji];rw[akE,akE];have t1:=YQ (c:=decide (n.dH<3)) (a:= !(n.bC.length==0)) hK;have t2:=YQ (c:=n.dH != 4) (a:= !(n.dS.length==0)) t1;have t3:=agP (c:=n.dH != 2) (a:=n.oz==[]) t2;have t4:=YQ (c:=n.dH != 1) (a:=n.ve != 0) t3;refine mW (by simp;omega) ?_;refine fH (λe=>bU ?_) (λe=>t4.eq ?_)
   ·simp only[aj]at e;rw[Shape,Le aI];rfl
   ·simp only[aQ]at e;exact afG aI
theorem T0.lT.L1 {B D d:Nat}{n:au}(hB:B<=lim)(h:sF B (D+1) n)(hs:∀k,k∈n.bC->Ev (λf=>G.lT f k) ((Cnt d k:Nat):Int)) :
 ∀(k i c:Nat),i+k=n.bC.length->c+((n.bC.drop i).map (Cnt d)).sum<big->Ev (λf=>G.lT.L1 f n (c:Int) i) ((c+((n.bC.drop i).map (Cnt d)).sum:Nat):Int):=by
 have hl:=h.kids;unfold lim at hB;unfold big;intro k
 induction k with
 | zero=>intro i c hi hc;refine dF ?_;simp only[G.lT.L1];refine mW (by simp;omega) (bU ?_);rw[aB aI];rfl
 | succ k ih=>intro i c hi;rw[gQ (default:au) (by omega:i<n.bC.length),bJ,AP];intro hc;refine dF ?_;simp only[G.lT.L1];refine mF (by simp;omega) (iY ?_);rw[ax];refine aZ (hs _ (by rw[lS _ (by omega:i<n.bC.length)];exact fU _)) ?_;rw[qp aI,wrapN (m:=c+Cnt d (n.bC.getD i default)) aI aI];exact(ih (i+1) (c+Cnt d (n.bC.getD i default)) aI aI).eq (by congr 1;omega)
theorem T0.lT {B:Nat}(hB:B<=lim):∀(d D:Nat) (n:au),d<=5->sF B D n->Shape d n=true->Ev (λf=>G.lT f n) ((Cnt d n:Nat):Int):=by
 intro d
 induction d with
 |zero=>intro D n _ _ h;cases h
 | succ d ih=>
   intro D n hd h hS;cases D with
   |zero=>exact h.elim
   |succ D=>
   have hS':=yg hS;refine dF ?_;simp only[G.lT];have:=cnt_le (d:=d+1) (n:=n) hS;have hp:=VC hd;refine(T0.lT.L1 hB h (λk hk=>ih D k aI (h.2.2.2.2.2 k hk) (hS' k hk)) n.bC.length 0 1 aI ?_).eq rfl;rw[iC];show Cnt (d+1) n<big;unfold big;omega
def Val (n:au):Bool:=Shape 5 n&&decide (Cnt 5 n<=40)
theorem T0.iU {B D:Nat}{n:au}(hB:B<=lim)(h:sF B D n):Ev (λf=>G.iU f n) (Val n):=by refine dF ?_;simp only[G.iU];refine aZ (T0.ji hB 5 D n aI h) (fH (λe=>?_) (λe=>bU (by rw[Val,e];rfl)));refine aZ (T0.lT hB 5 D n aI h e) (bU ?_);rw[Val,e,dX];apply decide_eq_decide.2;omega
theorem T.iU {B D:Nat}{n:au}(hB:B<=lim)(h:Fine B D n):Ev (λf=>G.iU f n) (Val n):=T0.iU hB h.fin0
theorem T0.fQ.L1 {B D d l:Nat}{n:au}(hB:B<=lim)(h:sF B (D+1) n)(hl:l<1000)
 (hs:∀k,k∈n.bC->∃c dp,Ev (λf=>G.fQ f k ((l+1:Nat):Int)) (c,dp,Shape d k)/\(Shape d k=true->c=((Cnt d k:Nat):Int))) :
 ∀ (k i c:Nat) (dp:Int),i+k=n.bC.length->(n.bC.drop i).all (Shape d)=true->c+((n.bC.drop i).map (Cnt d)).sum<big ->
   ∃dp',Ev (λf=>G.fQ.L1 f n (l:Int) (c:Int) dp i) (((c+((n.bC.drop i).map (Cnt d)).sum:Nat):Int),dp',true):=by
 have hk:=h.kids;unfold lim at hB;unfold big;intro k
 induction k with
 | zero=>intro i c dp hi _ hc;refine⟨dp,dF ?_⟩;simp only[G.fQ.L1];refine mW (by simp;omega) (bU ?_);rw[aB aI];rfl
 | succ k ih=>intro i c dp hi;rw[gQ (default:au) (by omega:i<n.bC.length),bJ,AP,fF,ah];intro⟨hS,hA⟩ hc;obtain⟨c1,d1,h1,h2⟩:=hs (n.bC.getD i default) (by rw[lS _ (by omega:i<n.bC.length)];exact fU _);have e:=h2 hS;subst e;obtain⟨dp',g1⟩:=ih (i+1) (c+Cnt d (n.bC.getD i default)) (if af .i64 (d1+1)>dp then af .i64 (d1+1)else dp) aI hA aI;refine⟨dp',dF ?_⟩;simp only[G.fQ.L1];refine mF (by simp;omega) (iY ?_);rw[ax,qp aI];refine aZ h1 ?_;refine mF hS ?_;rw[qp aI,wrapN (m:=c+Cnt d (n.bC.getD i default)) aI aI];exact g1.eq (by rw[Nat.add_assoc])
theorem T0.fQ.L1f {B D d l:Nat}{n:au}(hB:B<=lim)(h:sF B (D+1) n)(hl:l<1000)
 (hs:∀k,k∈n.bC->∃c dp,Ev (λf=>G.fQ f k ((l+1:Nat):Int)) (c,dp,Shape d k)) :
 ∀(k i:Nat) (c dp:Int),i+k=n.bC.length->(n.bC.drop i).all (Shape d)=false->Ev (λf=>G.fQ.L1 f n (l:Int) c dp i) (0,0,false):=by
 have hk:=h.kids;unfold lim at hB;intro k
 induction k with
 | zero=>intro i c dp hi hA;rw[aB aI]at hA;cases hA
 | succ k ih=>intro i c dp hi;rw[gQ (default:au) (by omega:i<n.bC.length),fF];intro hA;obtain⟨c1,d1,h1⟩:=hs (n.bC.getD i default) (by rw[lS _ (by omega:i<n.bC.length)];exact fU _);refine dF ?_;simp only[G.fQ.L1];refine mF (by simp;omega) (iY ?_);rw[ax,qp aI];refine aZ h1 ?_;refine fH (λhS=>?_) (λhS=>jQ _);have hS:Shape d (n.bC.getD i default)=true:=hS;rw[hS,dX]at hA;rw[qp aI];exact ih (i+1) _ _ aI hA
theorem T0.fQ {B:Nat}(hB:B<=lim):∀(d l D:Nat) (n:au),d+l=6->1<=l->sF B D n ->
 ∃c dp,Ev (λf=>G.fQ f n (l:Int)) (c,dp,Shape d n)/\(Shape d n=true->c=((Cnt d n:Nat):Int)):=by
 intro d
 induction d with
 | zero=>intro l D n hl h1 h;refine⟨0,0,dF ?_,λe=>by cases e⟩;simp only[G.fQ];exact mF (by simp;omega) (jQ _)
 | succ d ih=>
   intro l D n hl h1 h;cases D with
   |zero=>exact h.elim
   |succ D=>
   have hs:=λk (hk:k∈n.bC)=>ih (l+1) D k aI aI (h.2.2.2.2.2 k hk);have hp:=T0.gJ hB h;cases hS:Shape (d+1) n with
   | true=>have hk:=yg hS;have hc:=cnt_le hS;have hpw:=VC (d:=d+1) aI;obtain⟨dp',g⟩:=T0.fQ.L1 hB h aI hs n.bC.length 0 1 1 aI (by rw[iC];exact aN.2 hk) (by rw[iC];unfold big;show Cnt (d+1) n<_;omega);rw[iC]at g;refine⟨((Cnt (d+1) n:Nat):Int),dp',dF ?_,λ_=>rfl⟩;simp only[G.fQ];exact mW (by simp;omega) (aZ hp (mF (mP hS) g))
   | false=>
     refine⟨0,0,dF ?_,λe=>by cases e⟩;simp only[G.fQ];refine mW (by simp;omega) (aZ hp (fH (λe=>?_) (λe=>jQ _)));refine T0.fQ.L1f (d:=d) hB h aI (λk hk=>?_) n.bC.length 0 1 1 aI ?_
     ·obtain⟨c,dp,g,_⟩:=hs k hk;exact⟨c,dp,g⟩
     ·rw[iC];unfold Shape at hS;rw[e,dX]at hS;exact hS
theorem T0.gU {B D:Nat}{n:au}(hB:B<=lim)(h:sF B D n):Ev (λf=>G.gU f n) (Val n):=by
 obtain⟨c,dp,g,hc⟩:=T0.fQ hB 5 1 D n rfl aI h;refine dF ?_;simp only[G.gU];refine aZ g (fH (λe=>bU ?_) (λe=>bU ?_))
 ·have e:Shape 5 n=true:=e;show decide (c<=40)=_;rw[hc e,Val,e,dX];apply decide_eq_decide.2;omega
 ·have e:Shape 5 n=false:=e;rw[Val,e];rfl
theorem T.gU {B D:Nat}{n:au}(hB:B<=lim)(h:Fine B D n):Ev (λf=>G.gU f n) (Val n):=T0.gU hB h.fin0
theorem T0.iT.L1 {B D:Nat}{n:au}(hB:B<=lim)(h:sF B (D+1) n)(hs:∀k,k∈n.bC->Ev (λf=>G.iT f k) k) :
 ∀(k i:Nat),i+k=n.bC.length->Ev (λf=>G.iT.L1 f n i (n.bC.take i)) n:=by
 have hl:=h.kids;have hn:=h.names;unfold lim at hB;intro k
 induction k with
 | zero=>intro i hi;refine dF ?_;simp only[G.iT.L1];refine mW (by simp;omega) (iY (bU ?_));rw[eU aI];cases n;rfl
 | succ k ih=>intro i hi;refine dF ?_;simp only[G.iT.L1];refine mF (by simp;omega) (iY ?_);rw[ax];refine aZ (hs _ (by rw[lS _ (by omega:i<n.bC.length)];exact fU _)) ?_;refine yh (by rw[List.length_take];omega) ?_;have e:n.bC.take i++[n.bC.getD i default]=n.bC.take (i+1):=(by rw[lS _ (by omega:i<n.bC.length),lZ aI]);rw[qp aI,e];exact ih (i+1) aI
theorem T0.iT {B:Nat}(hB:B<=lim):∀{D:Nat} {n:au},sF B D n->Ev (λf=>G.iT f n) n:=by
 intro D
 induction D with
 |zero=>intro n h;exact h.elim
 | succ D ih=>intro n h;refine dF ?_;simp only[G.iT];exact T0.iT.L1 hB h (λk hk=>ih (h.2.2.2.2.2 k hk)) n.bC.length 0 aI
theorem T.iT {B:Nat}(hB:B<=lim){D:Nat}{n:au}(h:Fine B D n):Ev (λf=>G.iT f n) n:=T0.iT hB h.fin0
theorem T0.fO.L2 {B D:Nat}{n:au}(zs:List di)(hB:B<=lim)(h:sF B (D+1) n)(hs:∀k,k∈n.bC->Ev (λf=>G.fO f k) k) :
 ∀(k i:Nat) (z:List au),i+k=n.bC.length->z.length=n.bC.length->z.take i=n.bC.take i->Ev (λf=>G.fO.L2 f n zs i z) (au.mk n.dH n.ve n.oz zs n.bC):=by
 have hl:=h.kids;unfold lim at hB;intro k
 induction k with
 | zero=>intro i z hi hz ht;refine dF ?_;simp only[G.fO.L2];refine mW (by simp;omega) (bU ?_);rw[eU aI,eU aI]at ht;rw[ht]
 | succ k ih=>intro i z hi hz ht;refine dF ?_;simp only[G.fO.L2];refine mF (by simp;omega) (iY ?_);rw[ax];refine aZ (hs _ (by rw[lS _ (by omega:i<n.bC.length)];exact fU _)) ?_;refine iY ?_;rw[qp aI];refine ih (i+1) _ aI (by rw[Dk];exact hz) ?_;rw[lS _ (by omega:i<n.bC.length),lZ (by rw[Dk];omega),lZ (by omega:i<n.bC.length),List.getElem_set_self,List.take_set_of_le (ak i),ht]
theorem T0.fO {B:Nat}(hB:B<=lim):∀{D:Nat} {n:au},sF B D n->Ev (λf=>G.fO f n) n:=by
 intro D
 induction D with
 |zero=>intro n h;exact h.elim
 | succ D ih=>
   intro n h;have hl:=h.kids;have hn:=h.names;have hB':=hB;unfold lim at hB';have hK:Ev (λf=>G.fO.K1 f n n.dS) n:=by
    refine dF ?_;simp only[G.fO.K1];refine fH (λe=>?_) (λe=>bU ?_)
    ·refine iY ?_;refine(T0.fO.L2 n.dS hB h (λk hk=>ih (h.2.2.2.2.2 k hk)) n.bC.length 0 (dU n.bC.length (au.mk 0 0 [] [] [])) aI nV rfl).eq ?_;cases n;rfl
    ·have:n.bC=[]:=by
      apply dN;simp only[aQ]at e;omega
     cases n;simp only at this;subst this;rfl
   refine dF ?_;simp only[G.fO];refine fH (λe=>?_) (λe=>?_)
   ·exact iY hK
   ·have:n.dS=[]:=by
     apply dN;simp only[aQ]at e;omega
    rw[this]at hK;exact hK
theorem T.fO {B:Nat}(hB:B<=lim){D:Nat}{n:au}(h:Fine B D n):Ev (λf=>G.fO f n) n:=T0.fO hB h.fin0
theorem Y6 {α:Type}{l:List α}{i:Nat}(d:α)(h:i<l.length):l.getD i d∈l:=by rw[lS d h];exact fU h
theorem T.Qv {l:List di}(hl:l.length<=lim):Ev (λf=>G.jC f l l) true:=by
 unfold lim at hl;have L:∀(k i:Nat),i+k=l.length->Ev (λf=>G.jC.L1 f l l i) true:=by
  intro k
  induction k with
  | zero=>intro i hi;refine dF ?_;simp only[G.jC.L1];exact rU (jQ _)
  | succ k ih=>intro i hi;refine dF ?_;simp only[G.jC.L1,Gh i];exact vN (iY (iY (mF nV (ih (i+1) aI))))
 refine dF ?_;simp only[G.jC];exact mW nV (L l.length 0 aI)
theorem T.agY {l:List au}(hl:l.length<=lim)(hs:∀k,k∈l->Ev (λf=>G.pU f k k) true):Ev (λf=>G.nI f l l) true:=by
 unfold lim at hl;have L:∀(k i:Nat),i+k=l.length->Ev (λf=>G.nI.L1 f l l i) true:=by
  intro k
  induction k with
  | zero=>intro i hi;refine dF ?_;simp only[G.nI.L1];exact rU (jQ _)
  | succ k ih=>intro i hi;refine dF ?_;simp only[G.nI.L1,ax,Gh i];exact vN (iY (iY (aZ (hs _ (Y6 default aI)) (mF rfl (ih (i+1) aI)))))
 refine dF ?_;simp only[G.nI];exact mW nV (L l.length 0 aI)
theorem T.YV {B:Nat}(hB:B<=lim):∀{D:Nat} {n:au},sF B D n->Ev (λf=>G.pU f n n) true
 |0,_,h=>h.elim
 | D+1,n,h=>by have h1:=h.names;have h2:=h.kids;refine dF ?_;simp only[G.pU];exact mW nV (mW nV (mF nV (aZ (T.Qv aI) (mF rfl (aZ (T.agY aI (λk hk=>T.YV hB (h.2.2.2.2.2 k hk))) (mF rfl (jQ _)))))))
def mx : Nat:=9223372036854775807
mutual
def mkc : au->Nat
 |au.mk _ _ _ ns ks=>3+ns.length+wo ks
def wo : List au->Nat
 |[]=>0
 |n::r=>mkc n+wo r
end
theorem KW (n:au):mkc n=3+n.dS.length+wo n.bC:=by cases n;rfl
theorem Eu {x:Int}(h0 : -9223372036854775808<=x)(h1:x<9223372036854775808):af .i64 x=x:=by simp only[af,yZ,yl];simp;omega
structure ED (B D:Nat)(o:o6):Prop where
 path:o.uF.length<=B/\∀s,s∈o.uF->s.length<=B
 from_:o.vg.length<=B/\∀s,s∈o.vg->s.length<=B
 val:sF B D o.Value
theorem ED.mono {B D D':Nat}{o:o6}(h:ED B D o)(hD:D<=D'):ED B D' o:=⟨h.path,h.from_,h.val.mono (ak _) hD⟩
theorem ED.all {B:Nat} : ∀{l:List o6} (D:Nat),(∀o,o∈l->∃D,ED B D o)->∃D',D<=D'/\∀o,o∈l->ED B D' o
 |[],D,_=>⟨D,ak _,λo h=>by cases h⟩
 | o::l,D,h=>by
   obtain⟨d,hd⟩:=h o (aG ..);obtain⟨D',h1,h2⟩:=ED.all (l:=l) (max D d) (λo ho=>h o (bF _ ho));refine⟨D',aI,λx hx=>?_⟩;rcases aO.1 hx with e|e
   ·rw[e];exact hd.mono aI
   ·exact h2 x e
def mkO (o:o6):Nat:=o.uF.length+o.vg.length+mkc o.Value
def vX : List o6->Nat
 |[]=>0
 |o::r=>mkO o+1+vX r
theorem T.alJ {B D:Nat}{o:o6}(hB:B<=lim)(h:ED B D o):Ev (λf=>G.xQ f o o) true:=by refine dF ?_;simp only[G.xQ];exact mW nV (aZ (T.Qv (dR h.path.1 hB)) (mF rfl (aZ (T.Qv (dR h.from_.1 hB)) (mF rfl (aZ (T.YV hB h.val) (mF rfl (jQ _)))))))
theorem T.akg {B D:Nat}{l:List o6}(hB:B<=lim)(hl:l.length<=lim)(h:∀o,o∈l->ED B D o):Ev (λf=>G.oZ f l l) true:=by
 unfold lim at hl;have L:∀(k i:Nat),i+k=l.length->Ev (λf=>G.oZ.L1 f l l i) true:=by
  intro k
  induction k with
  | zero=>intro i hi;refine dF ?_;simp only[G.oZ.L1];exact rU (jQ _)
  | succ k ih=>intro i hi;refine dF ?_;simp only[G.oZ.L1,ax,Gh i];exact vN (iY (iY (aZ (T.alJ hB (h _ (Y6 default aI))) (mF rfl (ih (i+1) aI)))))
 refine dF ?_;simp only[G.oZ];exact mW nV (L l.length 0 aI)
def yO (i:Nat):di:=if i<10 then [fA (48+i)]else yO (i/10)++[fA (48+i%10)]
 termination_by i
theorem x8 {i:Nat}(h:i<10):yO i=[fA (48+i)]:=by rw[yO,aF h]
theorem CV {i:Nat}(h:¬i<10):yO i=yO (i/10)++[fA (48+i%10)]:=by rw[yO,ai h]
theorem ad7 : ∀(k i:Nat),i<k->(yO i).length<=i+1:=by
 intro k
 induction k with
 |zero=>intro i h;omega
 | succ k ih=>
   intro i h;by_cases hi:i<10
   ·rw[x8 hi];simp
   ·rw[CV hi,List.length_append];have:=ih (i/10) aI;simp only[List.length_singleton];omega
theorem wrap_u8 {m:Nat}(h:m<256):af .u8 (m:Int)=m:=by simp only[af,yZ,yl];simp;omega
theorem T.mZ : ∀(k i:Nat),i<k->i<lim->Ev (λf=>G.mZ f (i:Int)) (yO i):=by
 intro k
 induction k with
 |zero=>intro i h;omega
 | succ k ih=>
   intro i h hl;unfold lim at hl;have hm:4294967296<maxLen:=(by decide);refine dF ?_;simp only[G.mZ];refine mW nV ?_;refine fH (λe=>?_) (λe=>?_)
   ·simp only[aj]at e;refine iY (bU ?_);rw[x8 aI,wrapN (m:=48+i) aI aI,wrap_u8 aI,ax]
   ·simp only[aQ]at e;have e1:BO (i:Int) 10=((i/10:Nat):Int):=(by rw[Int.tdiv_eq_ediv_of_nonneg aI];omega);have e2:Eh (i:Int) 10=((i%10:Nat):Int):=(by rw[Int.tmod_eq_emod_of_nonneg aI];omega);rw[e1,e2,wrapN (m:=i/10) rfl aI,wrapN (m:=48+i%10) aI aI,wrap_u8 aI,ax];refine aZ (ih (i/10) aI (by unfold lim;omega)) ?_;have:=ad7 (i/10+1) (i/10) aI;refine iY (iY (bU ?_));exact(CV aI).symm
theorem T.decimal {i:Nat}(h:i<lim):Ev (λf=>G.mZ f (i:Int)) (yO i):=T.mZ (i+1) i aI h
theorem ad9 : ∀(k i:Nat),i<k->Lib.decDigits i=yO i:=by
 intro k
 induction k with
 |zero=>intro i h;omega
 | succ k ih=>
   intro i h;by_cases h10:i<10
   ·rw[Lib.decDigits_one h10,x8 h10]
   ·rw[CV h10,Lib.decDigits,dif_neg h10,ih (i/10) aI]
theorem T.Itoa {n:Int}(h : -900000000000000<=n/\n<=900000000000000):Ev (λf=>G.strconv_Itoa f n) (uQ n):=by refine dF ?_;simp only[G.strconv_Itoa];exact yh ⟨aI,dR (Lib.itoa_length_le n aI aI) xR⟩ (jQ _)
def hit (n:au)(s:di)(j:Nat):Bool:=(n.dH==4&&n.dS.getD j default==s)||(n.dH==3&&yO j==s)
def plc (n:au)(s:di):Option Nat:=(List.range' 0 n.bC.length).find? (hit n s)
theorem au.eta (n:au):au.mk n.dH n.ve n.oz n.dS n.bC=n:=by cases n;rfl
theorem Cf {n:au}(h:Parts n=true)(hk:n.dH=4):n.ve=0/\n.oz=[]/\NM n.dS=true/\n.dS.length<=6/\n.bC.length=n.dS.length:=by unfold Parts at h;simp[hk]at h;obtain⟨⟨h1,h2⟩,⟨h3,h4⟩,h5⟩:=h;exact⟨h1,h2,h3,h4,h5⟩
theorem H9 {n:au}(h:Parts n=true)(hk:n.dH=3):n.ve=0/\n.oz=[]/\n.dS=[]/\n.bC.length<=6:=by unfold Parts at h;simp[hk]at h;obtain⟨⟨⟨h1,h2⟩,h3⟩,h4⟩:=h;exact⟨h1,h2,h3,h4⟩
theorem yc {n:au}(h:Parts n=true)(h4:n.dH≠4)(h3:n.dH≠3):n.dS=[]/\n.bC=[]:=by
 unfold Parts at h;have e4:(n.dH==4)=false:=by simpa using h4
 simp only[ah,e4,JF]at h;obtain⟨⟨_,h1⟩,h2⟩:=h;refine⟨dN (by simpa using h1),dN ?_⟩;by_cases k0:n.dH=0
 ·rw[aF k0]at h2;simpa using h2
 rw[ai k0]at h2;by_cases k1:n.dH=1
 ·rw[aF k1]at h2;simp at h2;rw[h2.2];rfl
 rw[ai k1]at h2;by_cases k2:n.dH=2
 ·rw[aF k2]at h2;simp at h2;rw[h2.2];rfl
 rw[ai k2,ai h3,ai h4]at h2;cases h2
theorem ai9 {l:List di}(h:NM l=true):Asc l=true:=by unfold NM at h;simp only[ah]at h;exact h.2
theorem Zv {l:List di}(h:NM l=true):∀s,s∈l->PT s=true:=by unfold NM at h;simp only[ah]at h;exact aN.1 h.1
theorem acE {n:au}(h:Parts n=true):n.bC.length<=6:=by
 by_cases k:n.bC.length<=6
 ·exact k
 ·rw[Le aI]at h;cases h
def Zx : au:=au.mk 0 0 [] [] []
def QZ : Option au->au×Bool
 |some n=>(n,true)
 |none=>(Zx,false)
theorem Q9 {s:di}(h:PT s=true):s.length<=12:=by unfold PT at h;simp at h;exact h.2
theorem Ru : ∀{d:Nat} {n:au},Shape d n=true->Fine 12 d n
 |0,_,h=>by cases h
 | d+1,n,h=>by
   have hp:=mP h;have hk:=yg h;have hl:=acE hp;refine⟨?_,?_,?_,aI,?_,λk hk'=>Ru (hk k hk')⟩
   ·by_cases h2:n.dH=2
    ·unfold Parts at hp;simp[h2]at hp;exact Q9 hp.2.1
    ·have e2:(n.dH==2)=false:=(by simpa using h2);unfold Parts at hp;simp only[e2,JF,ah]at hp;have:=hp.1.1.2;rw[aH]at this;rw[this];simp
   ·by_cases h4:n.dH=4
    ·have:=(Cf hp h4).2.2.2.1;omega
    ·by_cases h3:n.dH=3
     ·rw[(H9 hp h3).2.2.1];simp
     ·rw[(yc hp h4 h3).1];simp
   ·intro s hs;by_cases h4:n.dH=4
    ·exact Q9 (Zv (Cf hp h4).2.2.1 s hs)
    ·by_cases h3:n.dH=3
     ·rw[(H9 hp h3).2.2.1]at hs;cases hs
     ·rw[(yc hp h4 h3).1]at hs;cases hs
   ·intro h4;have:=(Cf hp h4).2.2.2.2;omega
theorem JU {d:Nat}{n:au}(h:Shape (d+1) n=true){j:Nat}(hj:j<n.bC.length):Shape d (n.bC.getD j default)=true:=by rw[lS _ hj];exact yg h _ (fU _)
theorem aaI : 12<=lim:=xR
theorem T.kY (b:Bool):Ev (λf=>G.kY f b) (if b then 1 else 0):=by
 refine dF ?_;simp only[G.kY];cases b
 ·exact jQ _
 ·exact jQ _
theorem T.oH (a b:Int):∃r,Ev (λf=>G.oH f a b) r/\(r=0<->a=b):=by
 by_cases h:a<b
 ·refine⟨-1,dF ?_,aI⟩;simp only[G.oH];rw[show decide (b<a)=false by simp;omega,show decide (a<b)=true by simpa using h];exact aZ (T.kY _) (aZ (T.kY _) (jQ _))
 ·by_cases k:b<a
  ·refine⟨1,dF ?_,aI⟩;simp only[G.oH];rw[show decide (a<b)=false by simp;omega,show decide (b<a)=true by simpa using k];exact aZ (T.kY _) (aZ (T.kY _) (jQ _))
  ·refine⟨0,dF ?_,aI⟩;simp only[G.oH];rw[show decide (a<b)=false by simp;omega,show decide (b<a)=false by simp;omega];exact aZ (T.kY _) (aZ (T.kY _) (jQ _))
theorem T.mV (a b:di)(hne:a≠b):∃r,Ev (λf=>G.mV f a b) r/\r≠0:=by
 cases h:bl a b with
 | true=>refine⟨-1,dF ?_,aI⟩;simp only[G.mV];exact mF h (aZ (T.kY _) (aZ (T.kY _) (jQ _)))
 | false=>refine⟨1,dF ?_,aI⟩;simp only[G.mV];exact mW h (mW (by simpa using hne) (aZ (T.kY _) (aZ (T.kY _) (jQ _))))
def KC (a b:au)(i:Nat):Prop:=a.bC.drop i=b.bC.drop i/\(a.dH=4->a.dS.drop i=b.dS.drop i)
theorem YU {a b:au}{i:Nat}(ha:i<a.bC.length)(hb:i<b.bC.length)(h4:a.dH=4->i<a.dS.length/\i<b.dS.length) :
 KC a b i<->((a.dH=4->a.dS.getD i default=b.dS.getD i default)/\a.bC.getD i default=b.bC.getD i default/\KC a b (i+1)):=by
 unfold KC;rw[gQ (default:au) ha,gQ (default:au) hb,uj];by_cases hk:a.dH=4
 ·obtain⟨n1,n2⟩:=h4 hk;rw[gQ (default:di) n1,gQ (default:di) n2,uj];simp only[hk,true_implies];constructor
  ·rintro⟨⟨x,y⟩,z,w⟩;exact⟨z,x,y,w⟩
  ·rintro⟨z,x,y,w⟩;exact⟨⟨x,y⟩,z,w⟩
 ·simp only[hk,false_implies,and_true,true_and]
theorem FN {d:Nat}{n:au}(h:Shape d n=true)(hk:n.dH=4):n.dS.length=n.bC.length:=by
 cases d with
 |zero=>cases h
 |succ d=>exact(Cf (mP h) hk).2.2.2.2.symm
theorem T.iM.L1 {d e:Nat}{a b:au}(ha:Shape (d+1) a=true)(hb:Shape (e+1) b=true)(hk:a.dH=b.dH)
 (hs:∀x y,x∈a.bC->y∈b.bC->∃r,Ev (λf=>G.iM f x y) r/\(r=0<->x=y)) :
 ∀(k i:Nat),a.bC.length<=i+k->i<=a.bC.length->i<=b.bC.length->∃r,Ev (λf=>G.iM.L1 f a b i) r/\(r=0<->KC a b i):=by
 have la:=ER ha;have lb:=ER hb;have tail:∀i,i<=a.bC.length->i<=b.bC.length->(i=a.bC.length\/i=b.bC.length)->∃r,Ev (λf=>lY (G.oH f (a.bC.length:Int) (b.bC.length:Int)) λv=>some v) r/\(r=0<->KC a b i):=by
  intro i h1 h2 h3;obtain⟨r,g,hr⟩:=T.oH (a.bC.length:Int) (b.bC.length:Int);refine⟨r,aZ g (jQ _),hr.trans ⟨λhl=>?_,λhE=>?_⟩⟩
  ·have hl:a.bC.length=b.bC.length:=(by omega);refine⟨by rw[aB aI,aB aI],λh4=>?_⟩;have n1:=FN ha h4;have n2:=FN hb (hk▸h4);rw[aB aI,aB aI]
  ·have:=kZ List.length hE.1;simp only[List.length_drop]at this;omega
 intro k
 induction k with
 | zero=>intro i h1 h2 h3;obtain⟨r,g,hr⟩:=tail i h2 h3 aI;refine⟨r,dF ?_,hr⟩;simp only[G.iM.L1];exact mW (by simp;omega) g
 | succ k ih=>
   intro i h1 h2 h3;by_cases hia:i=a.bC.length
   ·obtain⟨r,g,hr⟩:=tail i h2 h3 aI;refine⟨r,dF ?_,hr⟩;simp only[G.iM.L1];exact mW (by simp;omega) g
   by_cases hib:i=b.bC.length
   ·obtain⟨r,g,hr⟩:=tail i h2 h3 aI;refine⟨r,dF ?_,hr⟩;simp only[G.iM.L1];exact mF (by simp;omega) (mW (by simp;omega) g)
   have n4:a.dH=4->i<a.dS.length/\i<b.dS.length:=λh4=>by have n1:=FN ha h4;have n2:=FN hb (hk▸h4);omega
   have hE:=YU (a:=a) (b:=b) (i:=i) aI aI n4;obtain⟨r2,g2,hr2⟩:=hs (a.bC.getD i default) (b.bC.getD i default) (by rw[lS _ (by omega:i<a.bC.length)];exact fU _) (by rw[lS _ (by omega:i<b.bC.length)];exact fU _);obtain⟨r3,g3,hr3⟩:=ih (i+1) aI aI aI;have rest:∃r,Ev (λf=>lY (G.iM f (a.bC.getD i default) (b.bC.getD i default)) λv=>cond (v != 0) (some v) (G.iM.L1 f a b ((i+1:Nat):Int))) r/\(r=0<->(a.bC.getD i default=b.bC.getD i default/\KC a b (i+1))):=by
    by_cases h0:r2=0
    ·refine⟨r3,aZ g2 (mW (by rw[h0];rfl) g3),?_⟩;rw[hr3];exact⟨λh=>⟨hr2.1 h0,h⟩,λh=>h.2⟩
    ·refine⟨r2,aZ g2 (mF (by simpa using h0) (jQ _)),?_⟩;exact⟨λh=>aY h h0,λh=>hr2.2 h.1⟩
   obtain⟨r4,g4,hr4⟩:=rest;by_cases h4:a.dH=4
   ·obtain⟨m1,m2⟩:=n4 h4;by_cases hn:a.dS.getD i default=b.dS.getD i default
    ·refine⟨r4,dF ?_,?_⟩
     ·simp only[G.iM.L1];rw[ax,qp aI];exact mF (by simp;omega) (mF (by simp;omega) (mF (by simpa using h4) (iY (iY (mF (by simpa using hn) (iY (iY g4)))))))
     ·rw[hr4,hE];exact⟨λh=>⟨λ_=>hn,h⟩,λh=>h.2⟩
    ·obtain⟨r,g,hr⟩:=T.mV _ _ hn;refine⟨r,dF ?_,?_⟩
     ·simp only[G.iM.L1];rw[ax,qp aI];exact mF (by simp;omega) (mF (by simp;omega) (mF (by simpa using h4) (iY (iY (mW (by simpa using hn) (iY (iY (aZ g (jQ _)))))))))
     ·rw[hE];exact⟨λh=>aY h hr,λh=>aY (h.1 h4) hn⟩
   ·refine⟨r4,dF ?_,?_⟩
    ·simp only[G.iM.L1];rw[ax,qp aI];exact mF (by simp;omega) (mF (by simp;omega) (mW (by simpa using h4) (iY (iY g4))))
    ·rw[hr4,hE];exact⟨λh=>⟨λe=>aY e h4,h⟩,λh=>h.2⟩
theorem TZ {d:Nat}{n:au}(h:Shape (d+1) n=true)(h4:n.dH≠4):n.dS=[]:=by
 by_cases h3:n.dH=3
 ·exact(H9 (mP h) h3).2.2.1
 ·exact(yc (mP h) h4 h3).1
theorem eq_iff {d e:Nat}{a b:au}(ha:Shape (d+1) a=true)(hb:Shape (e+1) b=true):a=b<->(a.dH=b.dH/\a.ve=b.ve/\a.oz=b.oz/\KC a b 0):=by
 constructor
 ·rintro rfl;exact⟨rfl,rfl,rfl,rfl,λ_=>rfl⟩
 ·rintro⟨h1,h2,h3,h4,h5⟩;simp only[iC]at h4 h5;have hn:a.dS=b.dS:=by
   by_cases h:a.dH=4
   ·exact h5 h
   ·rw[TZ ha h,TZ hb (h1▸h)]
  cases a;cases b;simp only at h1 h2 h3 h4 hn;subst h1 h2 h3 h4 hn;rfl
theorem T.iM : ∀(d:Nat) {e:Nat} {a b:au},Shape d a=true->Shape e b=true->∃r,Ev (λf=>G.iM f a b) r/\(r=0<->a=b)
 |0,_,_,_,h,_=>by cases h
 |_+1,0,_,_,_,h=>by cases h
 | d+1,e+1,a,b,ha,hb=>by
   rw[eq_iff ha hb];by_cases h1:a.dH=b.dH
   ·by_cases h2:a.ve=b.ve
    ·by_cases h3:a.oz=b.oz
     ·obtain⟨r,g,hr⟩:=T.iM.L1 ha hb h1 (λx y hx hy=>T.iM d (yg ha x hx) (yg hb y hy)) a.bC.length 0 aI aI aI;refine⟨r,dF ?_,hr.trans ⟨λh=>⟨h1,h2,h3,h⟩,λh=>h.2.2.2⟩⟩;simp only[G.iM];exact mW (by simpa using h1) (mW (by simpa using h2) (mF (by simpa using h3) g))
     ·obtain⟨r,g,hr⟩:=T.mV _ _ h3;refine⟨r,dF ?_,⟨λh=>aY h hr,λh=>aY h.2.2.1 h3⟩⟩;simp only[G.iM];exact mW (by simpa using h1) (mW (by simpa using h2) (mW (by simpa using h3) (aZ g (jQ _))))
    ·obtain⟨r,g,hr⟩:=T.oH a.ve b.ve;refine⟨r,dF ?_,hr.trans ⟨λh=>aY h h2,λh=>h.2.1⟩⟩;simp only[G.iM];exact mW (by simpa using h1) (mF (by simpa using h2) (aZ g (jQ _)))
   ·obtain⟨r,g,hr⟩:=T.oH a.dH b.dH;refine⟨r,dF ?_,hr.trans ⟨λh=>aY h h1,λh=>h.1⟩⟩;simp only[G.iM];exact mF (by simpa using h1) (aZ g (jQ _))
theorem T.vM {d e:Nat}{a b:au}(ha:Shape d a=true)(hb:Shape e b=true):∃v,Ev (λf=>G.vM f a b) v/\(v=true<->a=b):=by obtain⟨r,g,hr⟩:=T.iM d ha hb;refine⟨r==0,dF ?_,by rw[aH];exact hr⟩;simp only[G.vM];exact aZ g (jQ _)
theorem uO {n:au}(h:Val n=true):Shape 5 n=true:=by unfold Val at h;simp only[ah]at h;exact h.1
theorem GZ {n:au}(h:Val n=true):Fine 12 5 n:=Ru (uO h)
theorem T.qK {B D:Nat}{o:Option au}(hB:B<=lim)(h:∀m,o=some m->Fine B D m):Ev (λf=>G.qK f (QZ o).1 (QZ o).2) (QZ (o.filter Val)):=by
 refine dF ?_;simp only[G.qK];cases o with
 |none=>exact mW rfl (jQ _)
 | some m=>
   refine mF rfl (aZ (T.gU hB (h m rfl)) (fH (λe=>bU ?_) (λe=>bU ?_)))
   ·have e:Val m=true:=e;simp[AU,e,QZ]
   ·have e:Val m=false:=e;simp[AU,e,QZ,Zx]
theorem XI {B:Nat}(hB:B<=lim){p:List di}(hl:p.length<=B)(hs:∀s,s∈p->s.length<=B):Sm p:=by unfold lim at hB;exact⟨by unfold big;omega,λs h=>by have:=hs s h;unfold big;omega⟩
def xh (B:Nat)(p:List di):Prop:=p.length<=B/\∀s,s∈p->s.length<=B
theorem xh.sm {B:Nat}(hB:B<=lim){p:List di}(h:xh B p):Sm p:=XI hB h.1 h.2
theorem EK {p:List di}(h:PP p=true):xh 12 p:=by unfold PP at h;simp only[ah,aj]at h;exact⟨aI,λs hs=>Q9 (aN.1 h.1 s hs)⟩
theorem T.slices_Equal_string.L1 {a b:List di}(hl:a.length=b.length)(hb:a.length<big):∀(k i:Nat),i+k=a.length->Ev (λf=>G.slices_Equal_string.L1 f a b i) (decide (a.drop i=b.drop i)):=by
 unfold big at hb;intro k
 induction k with
 | zero=>intro i hi;refine dF ?_;simp only[G.slices_Equal_string.L1];refine mW (by simp;omega) (bU ?_);rw[aB aI,aB aI];rfl
 | succ k ih=>
   intro i hi;refine dF ?_;simp only[G.slices_Equal_string.L1,ax,Gh i];refine mF (by simp;omega) (iY (iY ?_));rw[gQ (default:di) (by omega:i<a.length),gQ (default:di) (by omega:i<b.length)];refine fH (λe=>(ih (i+1) aI).eq ?_) (λe=>bU ?_)
   ·rw[aH]at e;apply decide_eq_decide.2;rw[uj];exact⟨λh=>⟨e,h⟩,λh=>h.2⟩
   ·have e:a.getD i default≠b.getD i default:=by simpa using e
    symm
    apply gW;rw[uj];exact λh=>e h.1
theorem T.slices_Equal_string {a b:List di}(hb:a.length<big):Ev (λf=>G.slices_Equal_string f a b) (decide (a=b)):=by
 refine dF ?_;simp only[G.slices_Equal_string];by_cases h:a.length=b.length
 ·exact mW (by simp;omega) (T.slices_Equal_string.L1 h hb a.length 0 aI)
 ·refine mF (by simp;omega) (bU ?_)
  symm
  exact gW (λe=>h (by rw[e]))
def PO (o:o6):Bool:=(decide (1<=o.dH)&&decide (o.dH<=6))&&PP o.uF&&PP o.vg&&Val o.Value
structure aag (o:o6):Prop where
 k1:1<=o.dH
 k6:o.dH<=6
 path:PP o.uF=true
 from_:PP o.vg=true
 val:Val o.Value=true
theorem uo {o:o6}(h:PO o=true):aag o:=by unfold PO at h;simp only[ah,aj]at h;exact⟨h.1.1.1.1,h.1.1.1.2,h.1.1.2,h.1.2,h.2⟩
structure V5 (B D:Nat)(o:o6):Prop where
 path:xh B o.uF
 from_:xh B o.vg
 val:Fine B D o.Value
theorem V5.fin {B D:Nat}{o:o6}(h:V5 B D o):ED B D o:=⟨⟨h.path.1,h.path.2⟩,⟨h.from_.1,h.from_.2⟩,h.val.fin0⟩
theorem T0.oV {B D:Nat}{o:o6}(hB:B<=lim)(h:ED B D o):Ev (λf=>G.oV f o) (PO o):=by refine dF ?_;simp only[G.oV];unfold PO;refine aZ (T.gK _ _ _) (fH (λe1=>?_) (λe1=>bU (by rw[e1];rfl)));refine aZ (T.jE _ (XI hB h.path.1 h.path.2)) (fH (λe2=>?_) (λe2=>bU (by rw[e1,e2];rfl)));refine aZ (T.jE _ (XI hB h.from_.1 h.from_.2)) (fH (λe3=>?_) (λe3=>bU (by rw[e1,e2,e3];rfl)));exact aZ (T0.iU hB h.val) (bU (by rw[e1,e2,e3];rfl))
theorem T0.qY {B D:Nat}{o:o6}(hB:B<=lim)(h:ED B D o):Ev (λf=>G.qY f o) (PO o):=by refine dF ?_;simp only[G.qY];unfold PO;refine fH (λe0=>?_) (λe0=>bU (by rw[e0];rfl));refine fH (λe1=>?_) (λe1=>bU (by rw[e0,e1];rfl));refine aZ (T.kJ _ (XI hB h.path.1 h.path.2)) (fH (λe2=>?_) (λe2=>bU (by rw[e0,e1,e2];rfl)));refine aZ (T.kJ _ (XI hB h.from_.1 h.from_.2)) (fH (λe3=>?_) (λe3=>bU (by rw[e0,e1,e2,e3];rfl)));exact aZ (T0.gU hB h.val) (bU (by rw[e0,e1,e2,e3];rfl))
theorem T.qY {B D:Nat}{o:o6}(hB:B<=lim)(h:V5 B D o):Ev (λf=>G.qY f o) (PO o):=T0.qY hB h.fin
def stp : Nat->Nat
 |0=>4
 |d+1=>20+6*stp d
section
def Tot {α:Type}(Q:α->Prop)(F:Nat->Option α):Prop:=∃x,Ev F x/\Q x
section
variable {α β:Type} {Q:α->Prop} {F F':Nat->Option α}
theorem Tot.up (h:Tot Q (λn=>F (n+1))):Tot Q F:=let ⟨x,g,q⟩:=h;⟨x,dF g,q⟩
theorem Tot.ret {x:α}(h:Q x):Tot Q (λ_=>some x):=⟨x,jQ x,h⟩
theorem Tot.bind {P:β->Prop}{h:Nat->Option β}{k:Nat->β->Option α}(h1:Tot P h)(h2:∀x,P x->Tot Q (λn=>k n x)):Tot Q (λn=>lY (h n) (k n)):=by obtain⟨x,g,p⟩:=h1;obtain⟨y,g',q⟩:=h2 x p;exact⟨y,aZ g g',q⟩
theorem Tot.pR {a:β}{h:Nat->Option β}{k:Nat->β->Option α}(h1:Ev h a)(h2:Tot Q (λn=>k n a)):Tot Q (λn=>lY (h n) (k n)):=by obtain⟨y,g',q⟩:=h2;exact⟨y,aZ h1 g',q⟩
theorem Tot.chk {p:Prop}[Decidable p](hp:p)(h:Tot Q F):Tot Q (λn=>Ab.chk p (F n)):=let ⟨x,g,q⟩:=h;⟨x,yh hp g,q⟩
theorem Tot.ite {c:Bool}(h:c=true->Tot Q F)(h':c=false->Tot Q F'):Tot Q (λn=>cond c (F n) (F' n)):=by
 cases c
 ·exact h' rfl
 ·exact h rfl
theorem Tot.mono {P:α->Prop}(h:Tot P F)(hq:∀x,P x->Q x):Tot Q F:=let ⟨x,g,q⟩:=h;⟨x,g,hq x q⟩
end
abbrev adA (B:Nat)(n:au):Prop:=∃D,Fine B D n
theorem Xk : 60<=lim:=xR
end
abbrev aij (o:o6):Prop:=∃E,V5 60 E o
theorem xh.mono {B C:Nat}{p:List di}(h:xh B p)(hB:B<=C):xh C p:=⟨dR h.1 hB,λs hs=>dR (h.2 s hs) hB⟩
theorem aeg {n:au}(h:Val n=true):Fine 60 5 n:=(GZ h).mono aI (ak _)
theorem evd {p:Prop}(x:p:=by
 repeat' first
 |assumption
 |exact jQ _
 |refine mF rfl ?_
 |refine mW rfl ?_
 |refine aZ (by assumption) ?_
 |refine fH (λ_=>?_) (λ_=>?_)):p:=x
theorem o6.eta (o:o6):o6.mk o.dH o.uF o.vg o.Value=o:=rfl
def II (l:List o6):Bool:=l.all PO&&decide (l.length<=12)
theorem XG {l:List o6}(h:II l=true):(∀o,o∈l->PO o=true)/\l.length<=12:=by unfold II at h;simp only[ah,aj,aN]at h;exact h
def V4 (l:List o6):Prop:=l.length<=1000/\∀o,o∈l->aij o
theorem abX {l:List o6}(h:II l=true):V4 l:=by obtain⟨h1,h2⟩:=XG h;exact⟨aI,λo ho=>⟨5,(EK (uo (h1 o ho)).path).mono aI,(EK (uo (h1 o ho)).from_).mono aI,(GZ (uo (h1 o ho)).val).mono aI (ak _)⟩⟩
theorem getD_mem {α:Type}{l:List α}{i:Nat}(d:α)(h:i<l.length):l.getD i d∈l:=by rw[lS d h];exact fU h
theorem Vj : 1048576<=lim:=xR
def KD (l:List o6):Prop:=l.length<=1048576/\∀o,o∈l->∃D,ED 1048576 D o
theorem V4.fin {l:List o6}(h:V4 l):KD l:=⟨by have:=h.1;omega,λo ho=>by obtain⟨D,h1,h2,h3⟩:=h.2 o ho;exact⟨D,⟨by have:=h1.1;omega,λs hs=>by have:=h1.2 s hs;omega⟩,⟨by have:=h2.1;omega,λs hs=>by have:=h2.2 s hs;omega⟩,h3.fin0.mono aI (ak _)⟩⟩
theorem T0.je.L1 {l:List o6}(h:KD l):∀(k i:Nat),i+k=l.length->Ev (λf=>G.je.L1 f l i) ((l.drop i).all PO):=by
 obtain⟨hl,ho⟩:=h;intro k
 induction k with
 | zero=>intro i hi;refine dF ?_;simp only[G.je.L1];refine mW (by simp;omega) (bU ?_);rw[aB aI];rfl
 | succ k ih=>
   intro i hi;have hlt:i<l.length:=(by omega);refine dF ?_;simp only[G.je.L1,ax,o6.eta,Gh i];obtain⟨E,hf⟩:=ho _ (getD_mem default hlt);refine mF (by simpa using hlt) (iY (aZ (T0.qY Vj hf) ?_));rw[gQ (default:o6) hlt,fF];refine fH (λe=>?_) (λe=>?_)
   ·rw[e,dX];exact ih (i+1) aI
   ·rw[e,xE];exact jQ _
theorem T0.je {l:List o6}(h:KD l):Ev (λf=>G.je f l) (II l):=by
 refine dF ?_;simp only[G.je];have hL:=T0.je.L1 h l.length 0 aI;unfold II;refine fH (λe=>bU ?_) (λe=>?_)
 ·have:¬l.length<=12:=by simp at e;omega
  simp[this]
 ·have:l.length<=12:=by simp at e;omega
  simp only[this,decide_true,sK];exact hL
theorem T0.jA.L1 {l:List o6}(h:KD l):∀(k i:Nat),i+k=l.length->Ev (λf=>G.jA.L1 f l i) ((l.drop i).all PO&&decide (l.length<=12)):=by
 obtain⟨hl,ho⟩:=h;intro k
 induction k with
 | zero=>intro i hi;refine dF ?_;simp only[G.jA.L1];refine mW (by simp;omega) (bU ?_);rw[aB aI,List.all_nil,dX];simp;omega
 | succ k ih=>
   intro i hi;have hlt:i<l.length:=(by omega);refine dF ?_;simp only[G.jA.L1,ax,o6.eta,Gh i];obtain⟨E,hf⟩:=ho _ (getD_mem default hlt);refine mF (by simpa using hlt) (iY (aZ (T0.oV Vj hf) ?_));rw[gQ (default:o6) hlt,fF];refine fH (λe=>?_) (λe=>?_)
   ·rw[e,dX];exact ih (i+1) aI
   ·rw[e,xE];exact jQ _
theorem T0.jA {l:List o6}(h:KD l):Ev (λf=>G.jA f l) (II l):=by refine dF ?_;simp only[G.jA];exact T0.jA.L1 h l.length 0 aI
section
theorem aaS : ∀(m:Nat) (k:Int) (out:di),k.toNat<=m->0<=k->k<4611686018427387904->out.length+k.toNat<9223372036854775806->∃s,Ev (λf=>G.jF.L1 f k out) s/\s.length<=9223372036854775807
 | m,k,out,hm,h0,h1,hl=>by
   by_cases hk:0<k
   ·have e1:BO k 10=k/10:=(by rw[Int.tdiv_eq_ediv_of_nonneg h0]);have w1:af .i64 (BO k 10)=k/10:=by rw[e1];exact Eu aI aI
    match m with
    |0=>omega
    | m+1=>obtain⟨s,hs,hl2⟩:=aaS m (k/10) ([fA (af .u8 ((af .i64 (48+(Eh k 10))))).toNat]++out) aI aI aI (by simp;omega);refine⟨s,dF ?_,hl2⟩;simp only[G.jF.L1,w1];exact mF (iH hk) (yh xR (yh (by simp only[maxLen];omega) hs))
   ·refine⟨[109]++out,dF ?_,by simp;omega⟩;simp only[G.jF.L1];exact mW (gW hk) (yh (by simp only[maxLen];omega) (jQ _))
theorem akN {k:Int}(h0:0<=k)(h1:k<4611686018427387904):∃s,Ev (λf=>G.jF f k) s:=by
 by_cases hk:k<=0
 ·refine⟨[109,48],dF ?_⟩;simp only[G.jF];exact mF (iH hk) (jQ _)
 ·obtain⟨s,hs,_⟩:=aaS k.toNat k [] (ak _) h0 h1 (by simp;omega);refine⟨s,dF ?_⟩;simp only[G.jF];exact mW (gW hk) hs
noncomputable def tx (k:Int):di:=open Classical in if h:∃s,Ev (λf=>G.jF f k) s then h.choose else []
theorem abe {k:Int}(h:inR k):Ev (λf=>G.jF f k) (tx k):=by have hx:=akN h.1 h.2;unfold tx;rw[dif_pos hx];exact hx.choose_spec
noncomputable def Hy : List di->Int->List di
 |[],_=>[]
 |_::r,k=>tx k::Hy r (k+1)
mutual
noncomputable def N8 : au->Int->au×Int
 |au.mk _ _ _ ns ks,k=>(au.mk k (k+1) (tx (k+2)) (Hy ns (k+3)) (yR ks (k+3+ns.length)).1,(yR ks (k+3+ns.length)).2)
noncomputable def yR : List au->Int->List au×Int
 |[],k=>([],k)
 |n::r,k=>((N8 n k).1::(yR r (N8 n k).2).1,(yR r (N8 n k).2).2)
end
theorem QS : ∀(l:List di) (k:Int),(Hy l k).length=l.length
 |[],_=>rfl
 |_::r,k=>by simp[Hy,QS r]
mutual
theorem Vm : ∀(n:au) (k:Int),(N8 n k).2=k+mkc n
 |au.mk _ _ _ ns ks,k=>by simp only[N8,mkc,Po ks];omega
theorem Po : ∀(l:List au) (k:Int),(yR l k).2=k+wo l
 |[],k=>by simp[yR,wo]
 |n::r,k=>by simp only[yR,wo,Po r,Vm n];omega
end
theorem N9 : ∀(l:List au) (k:Int),(yR l k).1.length=l.length
 |[],_=>rfl
 |_::r,k=>by simp[yR,N9 r]
structure MT (mt:G7)(fS fN tS tN:Nat):Prop where
 s:mt fS=some (tS,1,[.str 0])
 n:mt fN=some (tN,5,[.int 0,.int 1,.str 2,.sub 3 fS,.sub 4 fN])
section
variable {mt:G7} {fS fN tS tN:Nat}
theorem aaQ (M:MT mt fS fN tS tN):∀(l:List di) {k:Int},0<=k->k+l.length<4611686018427387904->J9 mt tx (.L [.str 0] (l.map cS) k ((Hy l k).map cS) (k+l.length))
 |[],k,_,_=>by simpa[Hy]using J9.l0
 | s::r,k,h0,h1=>by
   have h2:=aaQ M r (k:=k+1) aI (by simp at h1;omega);simp only[bJ,Hy];refine .l1 (k1:=k+1) (.es ⟨h0,by simp at h1;omega⟩ ⟨aI,by simp at h1;omega⟩ (by simp[cS]) ?_) ?_
   ·simpa[cS]using J9.e0
   ·have e:k+1+(r.length:Int)=k+((s::r).length:Nat):=(by simp;omega);rw[e]at h2;exact h2
theorem Hz (M:MT mt fS fN tS tN)(l:List di){k:Int}(h0:0<=k)(h1:k+l.length<4611686018427387904):J9 mt tx (.C fS (.sl 1 (l.map cS)) k (.sl 1 ((Hy l k).map cS)) (k+l.length)):=
 .c M.s ⟨h0,aI⟩ (aaQ M l h0 h1)
mutual
theorem ahh (M:MT mt fS fN tS tN):∀(n:au) {k:Int},0<=k->k+mkc n<4611686018427387904->J9 mt tx (.E [.int 0,.int 1,.str 2,.sub 3 fS,.sub 4 fN] n.cells k (N8 n k).1.cells (N8 n k).2)
 | au.mk a b c ns ks,k,h0,h1=>by simp only[mkc]at h1;have h2:=MJ M ks (k:=k+3+ns.length) aI aI;have h3:=Hz M ns (k:=k+3) aI aI;rw[au.gq,au.gq];simp only[N8];refine .ei ⟨h0,aI⟩ ⟨aI,aI⟩ nV (.ei ⟨aI,aI⟩ ⟨aI,aI⟩ nV (.es ⟨aI,aI⟩ ⟨aI,aI⟩ nV ?_));rw[show k+1+1=k+2 by omega,show k+2+1=k+3 by omega];refine .ef (c:=.sl 1 (ns.map cS)) nV h3 (.ef (c:=.sl 5 (ks.map au.cells)) nV (.c M.n ⟨aI,aI⟩ h2) ?_);simpa using J9.e0
theorem MJ (M:MT mt fS fN tS tN):∀(l:List au) {k:Int},0<=k->k+wo l<4611686018427387904->J9 mt tx (.L [.int 0,.int 1,.str 2,.sub 3 fS,.sub 4 fN] (l.map au.cells) k ((yR l k).1.map au.cells) (yR l k).2)
 |[],k,_,_=>by simpa[yR]using J9.l0
 | n::r,k,h0,h1=>by simp only[wo]at h1;have h2:=ahh M n (k:=k) h0 aI;have h3:=MJ M r (k:=(N8 n k).2) (by rw[Vm];omega) (by rw[Vm];omega);simp only[bJ,yR];exact .l1 h2 h3
end
theorem ae5 (M:MT mt fS fN tS tN)(l:List au){k:Int}(h0:0<=k)(h1:k+wo l<4611686018427387904):J9 mt tx (.C fN (.sl 5 (l.map au.cells)) k (.sl 5 ((yR l k).1.map au.cells)) (yR l k).2):=
 .c M.n ⟨h0,aI⟩ (MJ M l h0 h1)
end
section
variable {P:Program} {tS tN:Nat}
theorem Fp (h1:vw P tS=1)(l:List di):PU P tS (.sl 1 (l.map cS)):=
 have hx:∀(i j sz':Nat) (es':List (List Cell)),¬((l.map cS).getD i [])[j]? = some (.sl sz' es'):=λi j sz' es' h=>by
  simp only[fZ,dD]at h;cases hl:l[i]? with
  |none=>rw[hl]at h;simp at h
  |some s=>rw[hl]at h;cases j<;>simp[cS]at h
 .sl _ _ _ (λ_=>0) h1 (λi j sz' es' h=>aY h (hx i j sz' es')) (λi j sz' es' h=>aY h (hx i j sz' es'))
mutual
theorem afT (h1:vw P tS=1)(h2:vw P tN=5)(h3:nP P tN=[(3,tS),(4,tN)]):∀(n:au) (j sz':Nat) (es':List (List Cell)),n.cells[j]? = some (.sl sz' es')->(j,if j=3 then tS else tN)∈nP P tN/\PU P (if j=3 then tS else tN) (.sl sz' es')
 | au.mk a b c ns ks,j,sz',es',h=>by
   have h4:=J5 h1 h2 h3 ks;rw[au.gq]at h
   match j,h with
   |0,h=>simp at h
   |1,h=>simp at h
   |2,h=>simp at h
   | 3,h=>simp only[gX,gY,aC,Cell.sl.injEq]at h;obtain⟨rfl,rfl⟩:=h;exact⟨by simp[h3],by simpa using Fp h1 ns⟩
   | 4,h=>simp only[gX,gY,aC,Cell.sl.injEq]at h;obtain⟨rfl,rfl⟩:=h;exact⟨by simp[h3],by simpa using h4⟩
   |j+5,h=>simp at h
theorem J5 (h1:vw P tS=1)(h2:vw P tN=5)(h3:nP P tN=[(3,tS),(4,tN)]):∀(l:List au),PU P tN (.sl 5 (l.map au.cells))
 | []=>have hx:∀(i j sz':Nat) (es':List (List Cell)),¬(([]:List (List Cell)).getD i [])[j]? = some (.sl sz' es'):=λi j sz' es' h=>by simp at h
   .sl _ _ _ (λ_=>0) h2 (λi j sz' es' h=>aY h (hx i j sz' es')) (λi j sz' es' h=>aY h (hx i j sz' es'))
 | n::r=>by
   have a:=afT h1 h2 h3 n;have b:=J5 h1 h2 h3 r;cases b with
   |sl _ _ _ t hs b1 b2=>
   have key:∀(i j sz':Nat) (es':List (List Cell)),(((n::r).map au.cells).getD i [])[j]? = some (.sl sz' es')->(j,if j=3 then tS else tN)∈nP P tN/\PU P (if j=3 then tS else tN) (.sl sz' es'):=by
    intro i j sz' es' h;cases i with
    |zero=>exact a j sz' es' (by simpa using h)
    | succ i=>
      have h':((r.map au.cells).getD i [])[j]? = some (.sl sz' es'):=(by simpa using h);have c1:=b1 i j sz' es' h';have c2:=b2 i j sz' es' h';rw[h3]at c1;simp only[aO,Prod.mk.injEq,jL,or_false]at c1;rcases c1 with⟨rfl,e⟩|⟨rfl,e⟩
      ·rw[e]at c2;exact⟨by simp[h3],by simpa using c2⟩
      ·rw[e]at c2;exact⟨by simp[h3],by simpa using c2⟩
   exact .sl _ _ _ (λj=>if j=3 then tS else tN) h2 (λi j sz' es' h=>(key i j sz' es' h).1) (λi j sz' es' h=>(key i j sz' es' h).2)
end
end
end
theorem Xq : ∀(l:List di) (k:Int) {i:Nat},i<l.length->(Hy l k).getD i default=tx (k+i)
 |[],_,i,h=>by simp at h
 |s::r,k,0,_=>by simp[Hy]
 | s::r,k,i+1,h=>by
   have:=Xq r (k+1) (i:=i) (by simpa using h);simp only[Hy,rC,this]
   congr 1
   omega
theorem TT : ∀(l:List au) (k:Int) {i:Nat},i<l.length->(yR l k).1.getD i default=(N8 (l.getD i default) (k+wo (l.take i))).1
 |[],_,i,h=>by simp at h
 |n::r,k,0,_=>by simp[yR,wo]
 | n::r,k,i+1,h=>by
   have:=TT r (N8 n k).2 (i:=i) (by simpa using h);simp only[yR,rC,this,rE,wo]
   congr 2
   rw[Vm];omega
theorem TW : ∀(l:List au) {i:Nat},i<l.length->wo (l.take (i+1))=wo (l.take i)+mkc (l.getD i default)
 |[],i,h=>by simp at h
 |n::r,0,_=>by simp[wo]
 | n::r,i+1,h=>by have:=TW r (i:=i) (by simpa using h);simp only[rE,wo,this,rC];omega
theorem aaR : ∀(l:List au) (i:Nat),wo (l.take i)<=wo l
 |[],i=>by simp[wo]
 |n::r,0=>by simp[wo]
 |n::r,i+1=>by have:=aaR r i;simp only[rE,wo];omega
theorem Vo (n:au)(k:Int):(N8 n k).1=au.mk k (k+1) (tx (k+2)) (Hy n.dS (k+3)) (yR n.bC (k+3+n.dS.length)).1:=by cases n;rfl
theorem T.E8 {l:List di}{k:Int}(h0:0<=k)(h1:k+l.length<4611686018427387904):Ev (λf=>G.iD f (Hy l k) k) (k+l.length):=by
 have L:∀(m i:Nat),i+m=l.length->Ev (λf=>G.iD.L1 f (Hy l k) (k+i) i) (k+l.length):=by
  intro m
  induction m with
  | zero=>intro i hi;refine dF ?_;simp only[G.iD.L1,QS];exact rU (bU aI)
  | succ m ih=>intro i hi;have w1:af .i64 (k+i+1)=k+((i+1:Nat):Int):=(by rw[Eu aI aI];omega);refine dF ?_;simp only[G.iD.L1,QS,ax,w1,Gh i,Xq l k (show i<l.length by omega)];exact vN (iY (aZ (abe ⟨aI,aI⟩) (mF nV (ih (i+1) aI))))
 refine dF ?_;simp only[G.iD];have:=L l.length 0 aI;simpa using this
def aae (n:au):Prop:=∀k:Int,0<=k->k+wo n.bC<4611686018427387904->Ev (λf=>G.jD f (yR n.bC k).1 k) (k+wo n.bC)
theorem T.QI {l:List au}(hl:∀n,n∈l->aae n){k:Int}(h0:0<=k)(h1:k+wo l<4611686018427387904)(hlen:l.length<4611686018427387904):Ev (λf=>G.jD f (yR l k).1 k) (k+wo l):=by
 have L:∀(m i:Nat),i+m=l.length->Ev (λf=>G.jD.L1 f (yR l k).1 (k+wo (l.take i)) i) (k+wo l):=by
  intro m
  induction m with
  | zero=>intro i hi;refine dF ?_;simp only[G.jD.L1,N9];exact rU (bU (by rw[eU aI]))
  | succ m ih=>intro i hi;have hil:i<l.length:=(by omega);have hs:=TW l hil;have hle:=aaR l (i+1);have hme:aae (l.getD i default):=hl _ (Y6 default hil);have ht:=KW (l.getD i default);generalize hq:l.getD i default=q at hs hme ht;have w1:af .i64 (k+wo (l.take i)+1)=k+wo (l.take i)+1:=Eu aI aI;have w2:af .i64 (k+wo (l.take i)+1+1)=k+wo (l.take i)+2:=(by rw[Eu aI aI];omega);have w3:af .i64 (k+wo (l.take i)+2+1)=k+wo (l.take i)+3:=(by rw[Eu aI aI];omega);have e1:=T.E8 (l:=q.dS) (k:=k+wo (l.take i)+3) aI aI;have e2:=hme (k+wo (l.take i)+3+q.dS.length) aI aI;have e3:=ih (i+1) aI;have e4:k+((wo (l.take (i+1)):Nat):Int)=k+wo (l.take i)+3+q.dS.length+wo q.bC:=(by omega);rw[e4]at e3;refine dF ?_;simp only[G.jD.L1,N9,ax,TT l k hil,hq,Vo,w1,w2,w3,Gh i];refine vN (iY (mW nV (iY (mW nV (iY (aZ (abe ⟨aI,aI⟩) (mF nV (iY (aZ e1 (rU (iY (aZ e2 (rU e3)))))))))))))
 refine dF ?_;simp only[G.jD];have:=L l.length 0 aI;simpa[wo]using this
theorem QT : ∀(l:List au),l.length<=wo l
 |[]=>by simp
 |n::r=>by have:=QT r;simp only[wo,KW n,dW];omega
mutual
theorem ako : ∀(n:au),aae n
 |au.mk _ _ _ _ ks=>λk h0 h1=>T.QI (Y9 ks) h0 h1 (by have:=QT ks;have h2:k+(wo ks:Int)<4611686018427387904:=h1;omega)
theorem Y9 : ∀(l:List au),∀n,n∈l->aae n
 |[],n,h=>by cases h
 | m::r,n,h=>by
   rcases aO.1 h with e|e
   ·rw[e];exact ako m
   ·exact Y9 r n e
end
theorem T.TF (l:List au){k:Int}(h0:0<=k)(h1:k+wo l<4611686018427387904):Ev (λf=>G.jD f (yR l k).1 k) (k+wo l):=
 T.QI (Y9 l) h0 h1 (by have:=QT l;omega)
noncomputable def mkRoot (n:au)(k:Int):au:=au.mk n.dH n.ve n.oz (Hy n.dS k) (yR n.bC (k+n.dS.length)).1
def XO (n:au):Nat:=n.dS.length+wo n.bC
theorem T.aes (n:au){k:Int}(h0:0<=k)(h1:k+XO n<4611686018427387904):Ev (λf=>G.rF f (mkRoot n k) k) (k+XO n):=by unfold XO at *;have e1:=T.E8 (l:=n.dS) (k:=k) h0 aI;have e2:=T.TF n.bC (k:=k+n.dS.length) aI aI;refine dF ?_;simp only[G.rF,mkRoot];exact aZ e1 (rU (aZ e2 (rU (bU aI))))
theorem XF {n:au}(h:Parts n=true):n.dS.length<=6:=by
 unfold Parts at h;simp only[ah,dP,aH]at h;obtain⟨⟨_,h1⟩,h2⟩:=h;rcases h1 with h1|h1
 ·rw[h1]at h2;simp at h2;omega
 ·omega
theorem Xr : ∀(l:List au) (f:au->Nat),(∀n,n∈l->mkc n<=9*f n)->wo l<=9*(l.map f).sum
 |[],f,_=>by simp[wo]
 | n::r,f,h=>by have h1:=Xr r f (λn hn=>h n (bF _ hn));have h2:=h n (aG ..);simp only[wo,bJ,AP];omega
theorem Ul : ∀(d:Nat) (n:au),Shape d n=true->mkc n<=9*Cnt d n
 |0,n,h=>by simp[Shape]at h
 | d+1,n,h=>by have h1:=XF (mP h);have h2:=Xr n.bC (Cnt d) (λk hk=>Ul d k (yg h k hk));rw[KW];simp only[Cnt];omega
theorem abg {n:au}(h:Val n=true):XO n<=400:=by unfold Val at h;simp only[ah,aj]at h;have:=Ul 5 n h.1;rw[KW]at this;unfold XO;omega
section
abbrev afe (n:au):List Cell:=[.lit (.int .i64 n.dH),.lit (.int .i64 n.ve),.str n.oz,.sl 1 (n.dS.map cS),.sl 5 (n.bC.map au.cells)]
abbrev opL (o:o6):List Cell:=[.lit (.int .i64 o.dH),.sl 1 (o.uF.map cS),.sl 1 (o.vg.map cS),.lit (.int .i64 o.Value.dH),.lit (.int .i64 o.Value.ve),.str o.Value.oz,.sl 1 (o.Value.dS.map cS),.sl 5 (o.Value.bC.map au.cells)]
section
variable {mt:G7} {sb:Yp} {fS fN tS tN fM:Nat} {ty:Nat->Nat}
theorem ahF (M:MT mt fS fN tS tN)(h3:ty 3=tS)(h4:ty 4=tN)(n:au){k:Int}(h0:0<=k)(h1:k+XO n<4611686018427387904):SR mt sb tx ty [.sl 3 fS,.sl 4 fN] (afe n) k (afe (mkRoot n k)) (k+XO n):=by
 unfold XO at *;have e1:=Hz M n.dS (k:=k) h0 aI;have e2:=ae5 M n.bC (k:=k+n.dS.length) aI aI;refine .sl (c:=.sl 1 (n.dS.map cS)) rfl ⟨_,_,by rw[h3];exact M.s⟩ e1 (.sl (c:=.sl 5 (n.bC.map au.cells)) rfl ⟨_,_,by rw[h4];exact M.n⟩ e2 ?_);have e:k+((n.dS.length+wo n.bC:Nat):Int)=(yR n.bC (k+n.dS.length)).2:=by rw[Po];omega
 rw[e];simpa[afe,mkRoot]using SR.nil
end
section
variable {P:Program} {tS tN:Nat}
theorem aiv (h1:vw P tS=1)(h2:vw P tN=5)(h3:nP P tN=[(3,tS),(4,tN)])(o:o6)(a b c d:Nat)(j sz:Nat)(es:List (List Cell))(h:(opL o)[j]? = some (.sl sz es)):∃r,r∈[(1,tS,a),(2,tS,b),(6,tS,c),(7,tN,d)]/\r.1=j/\PU P r.2.1 (.sl sz es):=by
 match j,h with
 | 1,h=>simp only[opL,gX,gY,aC,Cell.sl.injEq]at h;obtain⟨rfl,rfl⟩:=h;exact⟨(1,tS,a),nV,rfl,Fp h1 _⟩
 | 2,h=>simp only[opL,gX,gY,aC,Cell.sl.injEq]at h;obtain⟨rfl,rfl⟩:=h;exact⟨(2,tS,b),nV,rfl,Fp h1 _⟩
 | 6,h=>simp only[opL,gX,gY,aC,Cell.sl.injEq]at h;obtain⟨rfl,rfl⟩:=h;exact⟨(6,tS,c),nV,rfl,Fp h1 _⟩
 | 7,h=>simp only[opL,gX,gY,aC,Cell.sl.injEq]at h;obtain⟨rfl,rfl⟩:=h;exact⟨(7,tN,d),nV,rfl,J5 h1 h2 h3 _⟩
 |0,h=>simp[opL]at h
 |3,h=>simp[opL]at h
 |4,h=>simp[opL]at h
 |5,h=>simp[opL]at h
 |j+8,h=>simp[opL]at h
end
end
structure Rts (p:au):Prop where
 f:sF 12 5 p
 k:XO p<=400
theorem QW : Rts Zx:=⟨⟨aJ _,aJ _,(λ_ h=>by cases h),aJ _,trivial,λ_ h=>by cases h⟩,xR⟩
section
noncomputable def ae4 (o:o6)(k:Int):o6:=o6.mk k (Hy o.uF (k+1)) (Hy o.vg (k+1+o.uF.length)) (N8 o.Value (k+1+o.uF.length+o.vg.length)).1
noncomputable def GG : List o6->Int->List o6
 |[],_=>[]
 |o::r,k=>ae4 o k::GG r (k+(mkO o+1:Nat))
theorem Oa : ∀(l:List o6) (k:Int),(GG l k).length=l.length
 |[],_=>rfl
 |_::r,k=>by simp[GG,Oa r]
theorem TV : ∀(l:List o6) (k:Int) {i:Nat},i<l.length->(GG l k).getD i default=ae4 (l.getD i default) (k+vX (l.take i))
 |[],_,i,h=>by simp at h
 |o::r,k,0,_=>by simp[GG,vX]
 | o::r,k,i+1,h=>by
   have:=TV r (k+(mkO o+1:Nat)) (i:=i) (by simpa using h);simp only[GG,rC,this,rE,vX]
   congr 1
   omega
theorem TU : ∀(l:List o6) {i:Nat},i<l.length->vX (l.take (i+1))=vX (l.take i)+(mkO (l.getD i default)+1)
 |[],i,h=>by simp at h
 |n::r,0,_=>by simp[vX]
 | n::r,i+1,h=>by have:=TU r (i:=i) (by simpa using h);simp only[rE,vX,this,rC];omega
theorem aaP : ∀(l:List o6) (i:Nat),vX (l.take i)<=vX l
 |[],i=>by simp[vX]
 |n::r,0=>by simp[vX]
 |n::r,i+1=>by have:=aaP r i;simp only[rE,vX];omega
theorem Xp : ∀(l:List o6),l.length<=vX l
 |[]=>by simp
 |n::r=>by have:=Xp r;simp only[vX,dW];omega
section
variable {mt:G7} {fS fN tS tN fP tP:Nat}
abbrev Vu (fS fN:Nat):List MA:=[.int 0,.sub 1 fS,.sub 2 fS,.int 3,.int 4,.str 5,.sub 6 fS,.sub 7 fN]
theorem akM (M:MT mt fS fN tS tN)(o:o6){k:Int}(h0:0<=k)(h1:k+(mkO o+1:Nat)<4611686018427387904):J9 mt tx (.E (Vu fS fN) o.cells k (ae4 o k).cells (k+(mkO o+1:Nat))):=by
 have hm:=KW o.Value;unfold mkO at *;have e1:=Hz M o.uF (k:=k+1) aI aI;have e2:=Hz M o.vg (k:=k+1+o.uF.length) aI aI;have e3:=Hz M o.Value.dS (k:=k+1+o.uF.length+o.vg.length+3) aI aI;have e4:=MJ M o.Value.bC (k:=k+1+o.uF.length+o.vg.length+3+o.Value.dS.length) aI aI;have e5:(yR o.Value.bC (k+1+o.uF.length+o.vg.length+3+o.Value.dS.length)).2=k+((o.uF.length+o.vg.length+mkc o.Value+1:Nat):Int):=by rw[Po];omega
 rw[o6.gq,o6.gq];unfold ae4;rw[Vo];simp only;refine .ei ⟨h0,aI⟩ ⟨aI,aI⟩ nV ?_;refine .ef (c:=.sl 1 (o.uF.map cS)) nV e1 (.ef (c:=.sl 1 (o.vg.map cS)) nV e2 ?_);refine .ei ⟨aI,aI⟩ ⟨aI,aI⟩ nV (.ei ⟨aI,aI⟩ ⟨aI,aI⟩ nV (.es ⟨aI,aI⟩ ⟨aI,aI⟩ nV ?_));rw[show k+1+o.uF.length+o.vg.length+1+1=k+1+o.uF.length+o.vg.length+2 by omega,show k+1+o.uF.length+o.vg.length+2+1=k+1+o.uF.length+o.vg.length+3 by omega];refine .ef (c:=.sl 1 (o.Value.dS.map cS)) nV e3 (.ef (c:=.sl 5 (o.Value.bC.map au.cells)) nV (.c M.n ⟨aI,aI⟩ e4) ?_);rw[e5];simpa using J9.e0
theorem ae6 (M:MT mt fS fN tS tN):∀(l:List o6) {k:Int},0<=k->k+vX l<4611686018427387904->J9 mt tx (.L (Vu fS fN) (l.map o6.cells) k ((GG l k).map o6.cells) (k+vX l))
 |[],k,_,_=>by simpa[GG,vX]using J9.l0
 | o::r,k,h0,h1=>by simp only[vX]at h1;have h2:=akM M o (k:=k) h0 aI;have h3:=ae6 M r (k:=k+(mkO o+1:Nat)) aI aI;simp only[bJ,GG,vX];have e:k+((mkO o+1:Nat):Int)+(vX r:Int)=k+((mkO o+1+vX r:Nat):Int):=(by omega);rw[e]at h3;exact .l1 h2 h3
theorem ai5 (M:MT mt fS fN tS tN)(hP:mt fP=some (tP,8,Vu fS fN))(l:List o6){k:Int}(h0:0<=k)(h1:k+vX l<4611686018427387904):J9 mt tx (.C fP (.sl 8 (l.map o6.cells)) k (.sl 8 ((GG l k).map o6.cells)) (k+vX l)):=
 .c hP ⟨h0,aI⟩ (ae6 M l h0 h1)
end
section
variable {P:Program} {tS tN tP:Nat}
theorem ahL (h1:vw P tS=1)(h2:vw P tN=5)(h3:nP P tN=[(3,tS),(4,tN)])(h4:vw P tP=8)(h5:nP P tP=[(1,tS),(2,tS),(6,tS),(7,tN)])(l:List o6):PU P tP (.sl 8 (l.map o6.cells)):=by
 have key:∀(i j sz':Nat) (es':List (List Cell)),((l.map o6.cells).getD i [])[j]? = some (.sl sz' es')->(j,if j=7 then tN else tS)∈nP P tP/\PU P (if j=7 then tN else tS) (.sl sz' es'):=by
  intro i j sz' es' h;simp only[fZ,dD]at h;cases hl:l[i]? with
  |none=>rw[hl]at h;simp at h
  | some o=>
    rw[hl]at h;simp only[Option.map_some,Option.getD_some]at h;obtain⟨r,hr,rfl,ht⟩:=aiv h1 h2 h3 o 0 0 0 0 j sz' es' h;simp only[aO,jL,or_false]at hr;rcases hr with rfl|rfl|rfl|rfl
    ·exact⟨by simp[h5],by simpa using ht⟩
    ·exact⟨by simp[h5],by simpa using ht⟩
    ·exact⟨by simp[h5],by simpa using ht⟩
    ·exact⟨by simp[h5],by simpa using ht⟩
 exact .sl _ _ _ (λj=>if j=7 then tN else tS) h4 (λi j sz' es' h=>(key i j sz' es' h).1) (λi j sz' es' h=>(key i j sz' es' h).2)
end
theorem T.ag7 (l:List o6){k:Int}(h0:0<=k)(h1:k+vX l<4611686018427387904):Ev (λf=>G.l9 f (GG l k) k) (k+vX l):=by
 have hlen:=Xp l;have L:∀(m i:Nat),i+m=l.length->Ev (λf=>G.l9.L1 f (GG l k) (k+vX (l.take i)) i) (k+vX l):=by
  intro m
  induction m with
  | zero=>intro i hi;refine dF ?_;simp only[G.l9.L1,Oa];exact rU (bU (by rw[eU aI]))
  | succ m ih=>intro i hi;have hil:i<l.length:=(by omega);have hs:=TU l hil;have hle:=aaP l (i+1);generalize hq:l.getD i default=q at hs;have ht:=KW q.Value;unfold mkO at hs;have w1:af .i64 (k+vX (l.take i)+1)=k+vX (l.take i)+1:=Eu aI aI;have e1:=T.E8 (l:=q.uF) (k:=k+vX (l.take i)+1) aI aI;have e2:=T.E8 (l:=q.vg) (k:=k+vX (l.take i)+1+q.uF.length) aI aI;have w2:af .i64 (k+vX (l.take i)+1+q.uF.length+q.vg.length+1)=k+vX (l.take i)+1+q.uF.length+q.vg.length+1:=Eu aI aI;have w3:af .i64 (k+vX (l.take i)+1+q.uF.length+q.vg.length+1+1)=k+vX (l.take i)+1+q.uF.length+q.vg.length+2:=(by rw[Eu aI aI];omega);have w4:af .i64 (k+vX (l.take i)+1+q.uF.length+q.vg.length+2+1)=k+vX (l.take i)+1+q.uF.length+q.vg.length+3:=(by rw[Eu aI aI];omega);have e3:=T.E8 (l:=q.Value.dS) (k:=k+vX (l.take i)+1+q.uF.length+q.vg.length+3) aI aI;have e4:=T.TF q.Value.bC (k:=k+vX (l.take i)+1+q.uF.length+q.vg.length+3+q.Value.dS.length) aI aI;have e5:=ih (i+1) aI;have e6:k+((vX (l.take (i+1)):Nat):Int)=k+vX (l.take i)+1+q.uF.length+q.vg.length+3+q.Value.dS.length+wo q.Value.bC:=(by omega);rw[e6]at e5;refine dF ?_;simp only[G.l9.L1,Oa,ax,TV l k hil,hq,ae4,Vo,w1,Gh i];refine vN (iY (mW nV (iY (aZ e1 (rU (iY (aZ e2 (rU ?_))))))));simp only[w2,w3,w4];exact iY (mW nV (iY (mW nV (iY (aZ (abe ⟨aI,aI⟩) (mF nV (iY (aZ e3 (rU (iY (aZ e4 (rU e5))))))))))))
 refine dF ?_;simp only[G.l9];have:=L l.length 0 aI;simpa[vX]using this
end
section
theorem J9.es' {mt:G7}{o:Nat}{r:List MA}{e e':List Cell}{k k1 k':Int}(hk:inR k)(hk':inR k1)(h1:k1=k+1)(ho:o<e.length)(h:J9 mt tx (.E r (e.set o (.str (tx k))) k1 e' k')):J9 mt tx (.E (.str o::r) e k e' k'):=by subst h1;exact .es hk hk' ho h
structure TyH (P:Program)(tS tN tP:Nat):Prop where
 s:vw P tS=1
 n:vw P tN=5
 rn:nP P tN=[(3,tS),(4,tN)]
 p:vw P tP=8
 rp:nP P tP=[(1,tS),(2,tS),(6,tS),(7,tN)]
theorem YR {P:Program}{tS tN tP:Nat}(H:TyH P tS tN tP)(x:cZ)(a b c d e:Nat)(j sz:Nat)(es:List (List Cell))(h:x.cells[j]? = some (.sl sz es)):∃r,r∈[(2,tS,a),(3,tS,b),(7,tS,c),(8,tN,d),(9,tP,e)]/\r.1=j/\PU P r.2.1 (.sl sz es):=by
 rw[cZ.gq]at h
 match j,h with
 | 2,h=>simp only[gX,gY,aC,Cell.sl.injEq]at h;obtain⟨rfl,rfl⟩:=h;exact⟨(2,tS,a),nV,rfl,Fp H.s _⟩
 | 3,h=>simp only[gX,gY,aC,Cell.sl.injEq]at h;obtain⟨rfl,rfl⟩:=h;exact⟨(3,tS,b),nV,rfl,Fp H.s _⟩
 | 7,h=>simp only[gX,gY,aC,Cell.sl.injEq]at h;obtain⟨rfl,rfl⟩:=h;exact⟨(7,tS,c),nV,rfl,Fp H.s _⟩
 | 8,h=>simp only[gX,gY,aC,Cell.sl.injEq]at h;obtain⟨rfl,rfl⟩:=h;exact⟨(8,tN,d),nV,rfl,J5 H.s H.n H.rn _⟩
 | 9,h=>simp only[gX,gY,aC,Cell.sl.injEq]at h;obtain⟨rfl,rfl⟩:=h;exact⟨(9,tP,e),nV,rfl,ahL H.s H.n H.rn H.p H.rp _⟩
 |0,h=>simp at h
 |1,h=>simp at h
 |4,h=>simp at h
 |5,h=>simp at h
 |6,h=>simp at h
 |j+10,h=>simp at h
section
variable {mt:G7} {sb:Yp} {fS fN tS tN fP tP fI tI fM:Nat} {ty:Nat->Nat}
def rqc (q:cZ):Nat:=q.xZ.length+q.tu.length+XO q.Body+vX q.vZ
noncomputable def Zo (q:cZ)(k:Int):cZ:=cZ.mk q.gZ q.rW (Hy q.xZ k) (Hy q.tu (k+q.xZ.length)) (mkRoot q.Body (k+q.xZ.length+q.tu.length)) (GG q.vZ (k+q.xZ.length+q.tu.length+XO q.Body))
theorem ZP (M:MT mt fS fN tS tN)(hP:mt fP=some (tP,8,Vu fS fN))(hs:sb fM=some (5,[.sl 3 fS,.sl 4 fN]))(h2:ty 2=tS)(h3:ty 3=tS)(h7:ty 7=tS)(h8:ty 8=tN)(h9:ty 9=tP)(q:cZ){k:Int}(h0:0<=k)(h1:k+(rqc q:Nat)<4611686018427387904):SR mt sb tx ty [.sl 2 fS,.sl 3 fS,.st 4 5 fM,.sl 9 fP] q.cells k (Zo q k).cells (k+(rqc q:Nat)):=by
 unfold rqc at *;have e1:=Hz M q.xZ (k:=k) h0 aI;have e2:=Hz M q.tu (k:=k+q.xZ.length) aI aI;have e3:=ahF (sb:=sb) (ty:=λj=>ty (4+j)) M (by simpa using h7) (by simpa using h8) q.Body (k:=k+q.xZ.length+q.tu.length) aI aI;have e4:=ai5 M hP q.vZ (k:=k+q.xZ.length+q.tu.length+XO q.Body) aI aI;have e:k+((q.xZ.length+q.tu.length+XO q.Body+vX q.vZ:Nat):Int)=k+q.xZ.length+q.tu.length+XO q.Body+vX q.vZ:=by omega
 rw[e,cZ.gq,cZ.gq];refine .sl (c:=.sl 1 (q.xZ.map cS)) rfl ⟨_,_,by rw[h2];exact M.s⟩ e1 (.sl (c:=.sl 1 (q.tu.map cS)) rfl ⟨_,_,by rw[h3];exact M.s⟩ e2 (.st hs nV e3 rfl (.sl (c:=.sl 8 (q.vZ.map o6.cells)) rfl ⟨_,_,by rw[h9];exact hP⟩ e4 ?_)));simpa[Zo,mkRoot]using SR.nil
end
theorem T.WZ (q:cZ){k:Int}(h0:0<=k)(h1:k+(rqc q:Nat)<4611686018427387904):Ev (λf=>G.oM f (Zo q k) k) (k+(rqc q:Nat)):=by unfold rqc at *;have e1:=T.E8 (l:=q.xZ) (k:=k) h0 aI;have e2:=T.E8 (l:=q.tu) (k:=k+q.xZ.length) aI aI;have e3:=T.aes q.Body (k:=k+q.xZ.length+q.tu.length) aI aI;have e4:=T.ag7 q.vZ (k:=k+q.xZ.length+q.tu.length+XO q.Body) aI aI;refine dF ?_;simp only[G.oM,Zo,au.eta];exact aZ e1 (rU (aZ e2 (rU (aZ e3 (rU (aZ e4 (rU (bU aI))))))))
end
theorem xh.big {B:Nat}{p:List di}(hB:B<=1000)(h:xh B p):p.length<Ab.big:=by have:=h.1;unfold Ab.big;omega
structure alA (p:List o6):Prop where
 l:p.length<=lim
 f:∀o,o∈p->ED 12 5 o
 k:vX p<=900000000
theorem QO {K:Nat} : ∀{l:List o6},(∀o,o∈l->mkO o+1<=K)->vX l<=K*l.length
 |[],_=>by simp[vX]
 | o::r,h=>by have h1:=h o (aG ..);have h2:=QO (l:=r) λx hx=>h x (bF _ hx);simp only[vX,dW,Nat.mul_succ];omega
theorem aaY {o:o6}(h:PO o=true):ED 12 5 o/\mkO o+1<=500:=by have fo:=uo h;have p1:=EK fo.path;have p2:=EK fo.from_;have hv:=abg fo.val;have hm:=KW o.Value;have a1:=p1.1;have a2:=p2.1;exact⟨⟨⟨aI,p1.2⟩,⟨aI,p2.2⟩,(GZ fo.val).fin0⟩,by unfold mkO;unfold XO at hv;omega⟩
theorem afp {l:List o6}(h:II l=true):alA l:=by obtain⟨h1,h2⟩:=XG h;have:=QO (K:=500) (l:=l) λo ho=>(aaY (h1 o ho)).2;exact⟨by unfold lim;omega,λo ho=>(aaY (h1 o ho)).1,aI⟩
end Go.Ab
