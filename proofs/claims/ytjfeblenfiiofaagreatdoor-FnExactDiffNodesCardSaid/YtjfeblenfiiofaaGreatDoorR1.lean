/- The law FnExactDiffNodes of the package laws answers true for all arguments and leaves them as they are (part 1). Conditions: none but what the row lists. -/
import Derived.Test.YtjfeblenfiiofaaGreatDoorD2
set_option linter.unusedVariables false
set_option linter.unusedSimpArgs false
set_option maxRecDepth 100000
set_option maxHeartbeats 4000000
set_option linter.unusedSectionVars false
open Bool renaming and_eq_true->af,and_true->qY
open Go.IntKind renaming wrap->ah
open Go.Lib renaming pow10Tab->pG
open Go.OpenSpec renaming ofChange->oU
open Go.Proofs.Tryz renaming f6->afv
open Int renaming toNat_natCast->ak
open List renaming length->A8,mem_cons->aB,mem_map->aF,drop_of_length_le->aI,map_cons->aP,map->aT,mem_append->aV,take_of_length_le->aW,mem_iff_getElem->acw,reverse_append->aeA,length_range'->aeH,range'_concat->aeO,length_singleton->aeb,reverse_singleton->aeh,zip_append->afA,zip->afS,getElem_zip->afx,mem_cons_of_mem->bW,getD->bu,mem_of_mem_take->dG,drop_zero->dI,not_mem_nil->gU,length_append->iM,mem_flatMap->iw,take_succ_eq_append_getElem->kR,sum_cons->lG,map_append->mG,range'->mJ,flatMap_cons->mX,length_map->nX,append_nil->pI,append_assoc->qM,range'_succ->uO,mem_singleton->wV,cons_append->yt
open Nat renaming le_refl->aA,sub_self->aeR,min_eq_left->aej,strongRecOn->eU,one_mul->qG
open Option renaming map_eq_some_iff->bI,bind_some->fG,map_some->iH,bind->iV,isSome_iff_exists->nM
open Option.some renaming inj->yO
open Prod.mk renaming injEq->bV
namespace Go.Ab
open Go
def G.adw (f:Nat)(jL:List gB):Option (List gB):=match f with
|0=>none
|n+1=>(cond ((jL.length:Int)==0)
(some ([]))
(chk (0<=(jL.length:Int)/\(jL.length:Int)<=(jL.length:Int)/\16*(jL.length:Int)<=2^47/\(jL.length:Int)<=2^47)
(some (jL))))
def G.aa8 (f:Nat)(aei:o7)(afy:Int)(au:List gB)(dM:ai):Option (o7):=match f with
|0=>none
|n+1=>((G.adw n au).bind λv1=>((G.aO n dM).bind λv2=>(chk ((aei.list.length+1)*145<=2^46)
(some ((o7.mk (aei.list++[(tC.mk afy v1 [] v2)])))))))
def G.aci (f:Nat)(au:List gB)(fK:gB):Option (List gB):=match f with
|0=>none
|n+1=>(chk (0<=0/\0<=(ah .i64 ((au.length:Int)+1))/\16*(ah .i64 ((au.length:Int)+1))<=2^47/\(ah .i64 ((au.length:Int)+1))<=2^47)
(chk (au.length*18<=2^46)
(chk ((au.length+1)*18<=2^46)
(some ((((List.replicate 0 [])++au)++[fK]))))))
mutual
def G.abD (f:Nat)(aei:o7)(bD:ai)(fU:ai)(au:List gB):Option (o7):=match f with
|0=>none
|n+1=>((G.lW n bD fU).bind λv1=>(cond v1
(some (aei))
(cond (bD.Kind==4)
(cond (fU.Kind==4)
((G.aa7 n aei bD fU au).bind λv2=>(some (v2)))
(cond (bD.Kind==3)
(cond (fU.Kind==3)
((G.aa6 n aei bD fU au).bind λv3=>(some (v3)))
((G.aa8 n aei 3 au fU).bind λv4=>(some (v4))))
((G.aa8 n aei 3 au fU).bind λv5=>(some (v5)))))
(cond (bD.Kind==3)
(cond (fU.Kind==3)
((G.aa6 n aei bD fU au).bind λv6=>(some (v6)))
((G.aa8 n aei 3 au fU).bind λv7=>(some (v7))))
((G.aa8 n aei 3 au fU).bind λv8=>(some (v8)))))))
def G.aa6.L3 (f:Nat)(fU:ai)(au:List gB)(Ua:Int)(z6:List tC):Option (o7):=match f with
|0=>none
|n+1=>(cond (decide (Ua<(fU.Kids.length:Int)))
((G.strconv_Itoa n Ua).bind λv25=>((G.aci n au v25).bind λv26=>(chk (0<=Ua/\Ua<(fU.Kids.length:Int))
((G.aa8 n (o7.mk z6) 1 v26 (fU.Kids.getD Ua.toNat default)).bind λv27=>(G.aa6.L3 n fU au (ah .i64 (Ua+1)) v27.list)))))
(some ((o7.mk z6))))
def G.aa6.L2 (f:Nat)(bD:ai)(fU:ai)(au:List gB)(di:Int)(z4:List tC):Option (o7):=match f with
|0=>none
|n+1=>(cond (decide ((if(fU.Kids.length:Int)<(bD.Kids.length:Int)then(fU.Kids.length:Int)else(bD.Kids.length:Int))<=di))
((G.strconv_Itoa n di).bind λv16=>((G.aci n au v16).bind λv17=>((G.aa8 n (o7.mk z4) 2 v17 (ai.mk 0 0 [] [] [])).bind λv18=>(G.aa6.L2 n bD fU au (ah .i64 (di-1)) v18.list))))
(G.aa6.L3 n fU au (if(fU.Kids.length:Int)<(bD.Kids.length:Int)then(fU.Kids.length:Int)else(bD.Kids.length:Int)) z4))
def G.aa6.L1 (f:Nat)(bD:ai)(fU:ai)(au:List gB)(oZ:Int)(z2:List tC):Option (o7):=match f with
|0=>none
|n+1=>(cond (decide (oZ<(if(fU.Kids.length:Int)<(bD.Kids.length:Int)then(fU.Kids.length:Int)else(bD.Kids.length:Int))))
(chk (0<=oZ/\oZ<(bD.Kids.length:Int))
(chk (0<=oZ/\oZ<(fU.Kids.length:Int))
((G.strconv_Itoa n oZ).bind λv7=>((G.aci n au v7).bind λv8=>((G.abD n (o7.mk z2) (bD.Kids.getD oZ.toNat default) (fU.Kids.getD oZ.toNat default) v8).bind λv9=>(G.aa6.L1 n bD fU au (ah .i64 (oZ+1)) v9.list))))))
(G.aa6.L2 n bD fU au (ah .i64 ((bD.Kids.length:Int)-1)) z2))
def G.aa6 (f:Nat)(aei:o7)(bD:ai)(fU:ai)(au:List gB):Option (o7):=match f with
|0=>none
|n+1=>(G.aa6.L1 n bD fU au 0 aei.list)
def G.aa7.L2 (f:Nat)(bD:ai)(fU:ai)(au:List gB)(ahc:Int)(z4:List tC):Option (o7):=match f with
|0=>none
|n+1=>(cond (decide (ahc<(fU.Names.length:Int)))
(chk (0<=ahc/\ahc<(fU.Names.length:Int))
((G.slices_BinarySearch_string n bD.Names (fU.Names.getD ahc.toNat default)).bind λv22=>(cond v22.2
(G.aa7.L2 n bD fU au (ah .i64 (ahc+1)) z4)
((G.aci n au (fU.Names.getD ahc.toNat default)).bind λv23=>(chk (0<=ahc/\ahc<(fU.Kids.length:Int))
((G.aa8 n (o7.mk z4) 1 v23 (fU.Kids.getD ahc.toNat default)).bind λv24=>(G.aa7.L2 n bD fU au (ah .i64 (ahc+1)) v24.list)))))))
(some ((o7.mk z4))))
def G.aa7.L1 (f:Nat)(bD:ai)(fU:ai)(au:List gB)(oZ:Int)(z2:List tC):Option (o7):=match f with
|0=>none
|n+1=>(cond (decide (oZ<(bD.Names.length:Int)))
(chk (0<=oZ/\oZ<(bD.Names.length:Int))
((G.slices_BinarySearch_string n fU.Names (bD.Names.getD oZ.toNat default)).bind λv11=>(cond v11.2
(chk (0<=oZ/\oZ<(bD.Kids.length:Int))
(chk (0<=v11.1/\v11.1<(fU.Kids.length:Int))
((G.aci n au (bD.Names.getD oZ.toNat default)).bind λv12=>((G.abD n (o7.mk z2) (bD.Kids.getD oZ.toNat default) (fU.Kids.getD v11.1.toNat default) v12).bind λv13=>(G.aa7.L1 n bD fU au (ah .i64 (oZ+1)) v13.list)))))
((G.aci n au (bD.Names.getD oZ.toNat default)).bind λv14=>((G.aa8 n (o7.mk z2) 2 v14 (ai.mk 0 0 [] [] [])).bind λv15=>(G.aa7.L1 n bD fU au (ah .i64 (oZ+1)) v15.list))))))
(G.aa7.L2 n bD fU au 0 z2))
def G.aa7 (f:Nat)(aei:o7)(bD:ai)(fU:ai)(au:List gB):Option (o7):=match f with
|0=>none
|n+1=>(G.aa7.L1 n bD fU au 0 aei.list)
end
def G.aco.K1 (f:Nat)(bD:ai)(fU:ai):Option (List tC×Bool):=match f with
|0=>none
|n+1=>((G.abD n (o7.mk []) bD fU []).bind λv3=>((G.acr n bD v3.list).bind λv4=>(cond v4.2
(some (v3.list,true))
(some ([],false)))))
def G.aco (f:Nat)(bD:ai)(fU:ai):Option (List tC×Bool):=match f with
|0=>none
|n+1=>((G.cu n bD).bind λv1=>(cond v1
((G.cu n fU).bind λv2=>(cond v2
(G.aco.K1 n bD fU)
(some ([],false))))
(some ([],false))))
def G.adS (f:Nat)(afy:Int)(au:List gB)(dM:ai):Option (tC):=match f with
|0=>none
|n+1=>((G.bC n dM).bind λv1=>(some ((tC.mk afy au [] v1))))
def G.ac7.L1 (f:Nat)(fK:gB)(jL:List tC)(di:Int)(z2:List tC):Option (List tC):=match f with
|0=>none
|n+1=>(cond (decide (di<(jL.length:Int)))
(chk (0<=di/\di<(jL.length:Int))
(chk ((1+((jL.getD di.toNat default).Path).length)*18<=2^46)
(chk (0<=di/\di<(jL.length:Int))
(chk (0<=di/\di<(jL.length:Int))
(chk ((z2.length+1)*145<=2^46)
(G.ac7.L1 n fK jL (ah .i64 (di+1)) (z2++[(tC.mk ((jL.getD di.toNat default).Kind) ([fK]++(jL.getD di.toNat default).Path) [] ((jL.getD di.toNat default).Value))])))))))
(some (z2)))
def G.ac7 (f:Nat)(fK:gB)(jL:List tC):Option (List tC):=match f with
|0=>none
|n+1=>(G.ac7.L1 n fK jL 0 [])
mutual
def G.ad5 (f:Nat)(bD:ai)(fU:ai):Option (List tC):=match f with
|0=>none
|n+1=>((G.rD n bD fU).bind λv1=>(cond v1
(some ([]))
(cond (bD.Kind==4)
(cond (fU.Kind==4)
((G.abU n bD fU).bind λv2=>(some (v2)))
(cond (bD.Kind==3)
(cond (fU.Kind==3)
((G.aa9 n bD fU).bind λv3=>(some (v3)))
((G.adS n 3 [] fU).bind λv4=>(some ([v4]))))
((G.adS n 3 [] fU).bind λv5=>(some ([v5])))))
(cond (bD.Kind==3)
(cond (fU.Kind==3)
((G.aa9 n bD fU).bind λv6=>(some (v6)))
((G.adS n 3 [] fU).bind λv7=>(some ([v7]))))
((G.adS n 3 [] fU).bind λv8=>(some ([v8])))))))
def G.aa9.L3 (f:Nat)(fU:ai)(aib:Int)(z6:List tC):Option (List tC):=match f with
|0=>none
|n+1=>(cond (decide (aib<(fU.Kids.length:Int)))
((G.ji n aib).bind λv20=>(chk (0<=aib/\aib<(fU.Kids.length:Int))
((G.adS n 1 [v20] (fU.Kids.getD aib.toNat default)).bind λv21=>(chk ((z6.length+1)*145<=2^46)
(G.aa9.L3 n fU (ah .i64 (aib+1)) (z6++[v21]))))))
(some (z6)))
def G.aa9.L2 (f:Nat)(bD:ai)(fU:ai)(Ua:Int)(z4:List tC):Option (List tC):=match f with
|0=>none
|n+1=>(cond (decide ((if(fU.Kids.length:Int)<(bD.Kids.length:Int)then(fU.Kids.length:Int)else(bD.Kids.length:Int))<=Ua))
((G.ji n Ua).bind λv14=>((G.adS n 2 [v14] (ai.mk 0 0 [] [] [])).bind λv15=>(chk ((z4.length+1)*145<=2^46)
(G.aa9.L2 n bD fU (ah .i64 (Ua-1)) (z4++[v15])))))
(G.aa9.L3 n fU (if(fU.Kids.length:Int)<(bD.Kids.length:Int)then(fU.Kids.length:Int)else(bD.Kids.length:Int)) z4))
def G.aa9.L1 (f:Nat)(bD:ai)(fU:ai)(di:Int)(z2:List tC):Option (List tC):=match f with
|0=>none
|n+1=>(cond (decide (di<(if(fU.Kids.length:Int)<(bD.Kids.length:Int)then(fU.Kids.length:Int)else(bD.Kids.length:Int))))
((G.ji n di).bind λv7=>(chk (0<=di/\di<(bD.Kids.length:Int))
(chk (0<=di/\di<(fU.Kids.length:Int))
((G.ad5 n (bD.Kids.getD di.toNat default) (fU.Kids.getD di.toNat default)).bind λv8=>((G.ac7 n v7 v8).bind λv9=>(chk ((z2.length+v9.length)*145<=2^46)
(G.aa9.L1 n bD fU (ah .i64 (di+1)) (z2++v9))))))))
(G.aa9.L2 n bD fU (ah .i64 ((bD.Kids.length:Int)-1)) z2))
def G.aa9 (f:Nat)(bD:ai)(fU:ai):Option (List tC):=match f with
|0=>none
|n+1=>(G.aa9.L1 n bD fU 0 [])
def G.abU.L2 (f:Nat)(bD:ai)(fU:ai)(FD:Int)(z4:List tC):Option (List tC):=match f with
|0=>none
|n+1=>(cond (decide (FD<(fU.Kids.length:Int)))
(chk (0<=FD/\FD<(fU.Names.length:Int))
((G.fO n bD (fU.Names.getD FD.toNat default)).bind λv17=>(cond (decide (v17<0))
(chk (0<=FD/\FD<(fU.Names.length:Int))
(chk (0<=FD/\FD<(fU.Kids.length:Int))
((G.adS n 1 [(fU.Names.getD FD.toNat default)] (fU.Kids.getD FD.toNat default)).bind λv18=>(chk ((z4.length+1)*145<=2^46)
(G.abU.L2 n bD fU (ah .i64 (FD+1)) (z4++[v18]))))))
(G.abU.L2 n bD fU (ah .i64 (FD+1)) z4))))
(some (z4)))
def G.abU.L1 (f:Nat)(bD:ai)(fU:ai)(di:Int)(z2:List tC):Option (List tC):=match f with
|0=>none
|n+1=>(cond (decide (di<(bD.Kids.length:Int)))
(chk (0<=di/\di<(bD.Names.length:Int))
((G.fO n fU (bD.Names.getD di.toNat default)).bind λv9=>(cond (decide (v9<0))
(chk (0<=di/\di<(bD.Names.length:Int))
((G.adS n 2 [(bD.Names.getD di.toNat default)] (ai.mk 0 0 [] [] [])).bind λv10=>(chk ((z2.length+1)*145<=2^46)
(G.abU.L1 n bD fU (ah .i64 (di+1)) (z2++[v10])))))
(chk (0<=di/\di<(bD.Names.length:Int))
(chk (0<=di/\di<(bD.Kids.length:Int))
(chk (0<=v9/\v9<(fU.Kids.length:Int))
((G.ad5 n (bD.Kids.getD di.toNat default) (fU.Kids.getD v9.toNat default)).bind λv11=>((G.ac7 n (bD.Names.getD di.toNat default) v11).bind λv12=>(chk ((z2.length+v12.length)*145<=2^46)
(G.abU.L1 n bD fU (ah .i64 (di+1)) (z2++v12)))))))))))
(G.abU.L2 n bD fU 0 z2))
def G.abU (f:Nat)(bD:ai)(fU:ai):Option (List tC):=match f with
|0=>none
|n+1=>(G.abU.L1 n bD fU 0 [])
end
def G.adi (f:Nat)(bD:ai)(fU:ai):Option (List tC×Bool):=match f with
|0=>none
|n+1=>((G.fZ n bD).bind λv1=>(cond v1
((G.fZ n fU).bind λv2=>(cond v2
((G.ad5 n bD fU).bind λv3=>((G.mV n v3).bind λv4=>(cond v4
((G.aba n bD v3).bind λv5=>(cond v5.2
(some (v3,true))
(some ([],false))))
(some ([],false)))))
(some ([],false))))
(some ([],false))))
def C.adw : dD:=(qs [zA 2 (.mv (.k (.xh 1)))] [0] (.seq (qs [zM 4 0,qL 5 4,qk 6 .eql 5 0] [0,6] (qc 6 (qr [zA 2 (.mv (.k (.xh 1)))] [2]) .skip)) (qs [zM 7 0,qL 8 7,zA 9 (.makes 10 1 16 [.str []] (.t 8) (.t 8)),zM 3 9] [0,3] (qs [zM 10 3,zM 11 0,zA 12 (.copy 1 (.t 10) (.t 11))] [3] (qr [zM 13 3,zM 2 13] [2])))))
theorem K.adw : lK pZ 109 1 0 C.adw [.tmp 2]=true:=by kernel_rfl
def C.aa8 : dD:=(qs [qX 7 10 3] [0,1,2,7] (.qp [(zM 8 0,[]),(zM 9 0,[]),(qN 10 9,[1]),(qA 11 0 10,[1,2]),(qF 12 1 11,[1,2,3]),(zM 13 1,[]),(zM 14 2,[]),(q1 15 109 14,[6]),(qT 16 5 7,[]),(q1 17 53 16,[6,7,8]),(zA 18 (.build [cI' 0,.xh 1,.xh 1,cI' 0,cI' 0,.c (.str []),.xh 1,.xh 5] [(0,1,.t 13),(1,1,.t 15),(3,5,.t 17)]),[5,6,7,8,9]),(zA 19 (.rH 11 8 1 [.lit (.int .i64 0),.sl 1 [],.sl 1 [],.lit (.int .i64 0),.lit (.int .i64 0),.str [],.sl 1 [],.sl 5 []] [(0,.t 18)]),[5,6,7,8,9,10]),(zA 20 (.append 12 8 136 (.t 12) (.t 19)),[1,2,3,4,5,6,7,8,9,10,11]),(qN 21 8,[0,1,2,3,4,5,6,7,8,9,10,11,12]),(qA 22 0 21,[0,1,2,3,4,5,6,7,8,9,10,11,12,13]),(qU 1 22 20,[0,1,2,3,4,5,6,7,8,9,10,11,12,13,14])] []))
theorem K.aa8 : lK pZ 86 4 2 C.aa8 []=true:=by kernel_rfl
def C.aci : dD:=(qs [zA 4 (.mv (.k (.xh 1)))] [0,1] (qs [zM 6 0,qL 7 6,qk 8 .add 7 1,zA 9 (.makes 10 1 16 [.str []] (kI 0) (.t 8)),zM 5 9] [0,1,5] (qs [zM 10 5,zM 11 0,zA 12 (.append 11 1 16 (.t 10) (.t 11)),zM 5 12] [1,5] (qr [zM 13 5,zM 14 1,zA 15 (.rH 12 1 1 [.str []] [(0,.t 14)]),zA 16 (.append 13 1 16 (.t 13) (.t 15)),zM 4 16] [4]))))
theorem K.aci : lK pZ 108 2 0 C.aci [.tmp 4]=true:=by kernel_rfl
def C.abD : dD:=(qs [qX 5 10 1,qX 6 11 2] [0,3,5,6] (.block 0 (qs [qT 13 5 5,qT 14 5 6,q2 15 52 13 14,zM 12 15] [0,3,5,6,12] (qc 12 .skip (qs [qA 17 0 5,qF 18 1 17,qk 19 .eql 18 4,zM 20 19,zG 20 true 21 (.ny 0 (.t 6)),zG 20 true 22 (.load false 1 (.t 21)),zG 20 true 23 (.bin .eql (.t 22) (kI 4)),qP 24 20 23,zM 16 24] [0,3,5,6,16] (qc 16 (.reg [zM 25 0,qT 26 5 5,qT 27 5 6,zM 28 3,⟨none,some 29,.call 84 [.t 25,.t 26,.t 27,.t 28]⟩] []) (qs [qA 31 0 5,qF 32 1 31,qk 33 .eql 32 3,zM 34 33,zG 34 true 35 (.ny 0 (.t 6)),zG 34 true 36 (.load false 1 (.t 35)),zG 34 true 37 (.bin .eql (.t 36) (kI 3)),qP 38 34 37,zM 30 38] [0,3,5,6,30] (qc 30 (.reg [zM 39 0,qT 40 5 5,qT 41 5 6,zM 42 3,⟨none,some 43,.call 85 [.t 39,.t 40,.t 41,.t 42]⟩] []) (.reg [zM 8 0,zM 9 3,qT 10 5 6,⟨none,some 11,.call 86 [.t 8,kI 3,.t 9,.t 10]⟩] [])))))))))
theorem K.abD : lK pZ 59 4 2 C.abD []=true:=by kernel_rfl
def C.aa6 : dD:=(qs [qX 5 10 1,qX 6 11 2] [0,3,5,6] (qs [qA 12 4 5,qF 13 1 12,qL 14 13,qA 15 4 6,qF 16 1 15,qL 17 16,zA 18 (.min (.t 14) (.t 17)),zM 8 18] [0,3,5,6,8] (.seq (qs [zM 19 8,qI 20 0] [0,3,5,6,8,19,20] (.block 0 (.loop (qs [qb 21 .lss 20 19] [0,3,5,6,8,19,20,21] (.seq (qc 21 .skip (.exit 0)) (.seq (.block 1 (qs [zM 22 20,zM 9 22] [0,3,5,6,8,9,19,20] (.qp [(zM 23 0,[]),(qA 24 4 5,[]),(qF 25 1 24,[1]),(zM 26 9,[]),(qD 27 5 25 26,[1,2,3]),(qT 28 5 27,[1,2,3,4]),(qA 29 4 6,[]),(qF 30 1 29,[6]),(zM 31 9,[]),(qD 32 5 30 31,[6,7,8]),(qT 33 5 32,[6,7,8,9]),(zM 34 3,[]),(zM 35 9,[]),(q1 36 98 35,[12]),(q2 37 108 34 36,[11,12,13]),(⟨none,some 38,.call 59 [.t 23,.t 28,.t 33,.t 37]⟩,[0,1,2,3,4,5,6,7,8,9,10,11,12,13,14])] [0,3,5,6,8,19,20]))) (.reg [qk 39 .add 20 1,zM 20 39] [0,3,5,6,8,19,20]))))))) (.seq (qs [qA 40 4 5,qF 41 1 40,qL 42 41,qk 43 .sub 42 1,zM 10 43] [0,3,6,8,10] (.block 2 (.loop (.seq (qs [zM 44 10,zM 45 8,qb 46 .geq 44 45] [0,3,6,8,10,46] (qc 46 .skip (.exit 2))) (.seq (.block 3 (.reg [zM 49 0,zM 50 3,zM 51 10,q1 52 98 51,q2 53 108 50 52,zA 54 (.build zN []),⟨none,some 55,.call 86 [.t 49,kI 2,.t 53,.t 54]⟩] [0,3,6,8,10])) (.reg [zM 47 10,qk 48 .sub 47 1,zM 10 48] [0,3,6,8,10])))))) (qs [zM 56 8,zM 11 56] [0,3,6,11] (.block 4 (.loop (.seq (qs [zM 57 11,qA 58 4 6,qF 59 1 58,qL 60 59,qb 61 .lss 57 60] [0,3,6,11,61] (qc 61 .skip (.exit 4))) (.seq (.block 5 (.qp [(zM 64 0,[]),(zM 65 3,[]),(zM 66 11,[]),(q1 67 98 66,[2]),(q2 68 108 65 67,[1,2,3]),(qA 69 4 6,[]),(qF 70 1 69,[5]),(zM 71 11,[]),(qD 72 5 70 71,[5,6,7]),(qT 73 5 72,[5,6,7,8]),(⟨none,some 74,.call 86 [.t 64,kI 1,.t 68,.t 73]⟩,[0,1,2,3,4,5,6,7,8,9])] [0,3,6,11])) (.reg [zM 62 11,qk 63 .add 62 1,zM 11 63] [0,3,6,11]))))))))))
theorem K.aa6 : lK pZ 85 4 2 C.aa6 []=true:=by kernel_rfl
def C.aa7 : dD:=(qs [qX 5 10 1,qX 6 11 2] [0,3,5,6] (.seq (qs [qA 16 3 5,qF 17 1 16,qL 18 17,qI 19 0] [0,3,5,6,17,18,19] (.block 0 (.loop (qs [qb 20 .lss 19 18] [0,3,5,6,17,18,19,20] (.seq (qc 20 .skip (.exit 0)) (.seq (.block 1 (qs [zM 21 19,qD 22 1 17 19,qF 23 1 22,zM 8 21,zM 9 23] [0,3,5,6,8,9,17,18,19] (qs [qA 25 3 6,qF 26 1 25,zM 27 9,q2 28 100 26 27,zM 24 28,qE 29 24 0,qE 30 24 1,zM 10 29,zM 11 30] [0,3,5,6,8,9,10,11,17,18,19] (qs [zM 31 11] [0,3,5,6,8,9,10,17,18,19,31] (qc 31 (.qp [(zM 32 0,[]),(qA 33 4 5,[]),(qF 34 1 33,[1]),(zM 35 8,[]),(qD 36 5 34 35,[1,2,3]),(qT 37 5 36,[1,2,3,4]),(qA 38 4 6,[]),(qF 39 1 38,[6]),(zM 40 10,[]),(qD 41 5 39 40,[6,7,8]),(qT 42 5 41,[6,7,8,9]),(zM 43 3,[]),(zM 44 9,[]),(q2 45 108 43 44,[11,12]),(⟨none,some 46,.call 59 [.t 32,.t 37,.t 42,.t 45]⟩,[0,1,2,3,4,5,6,7,8,9,10,11,12,13])] [0,3,5,6,17,18,19]) (.reg [zM 47 0,zM 48 3,zM 49 9,q2 50 108 48 49,zA 51 (.build zN []),⟨none,some 52,.call 86 [.t 47,kI 2,.t 50,.t 51]⟩] [0,3,5,6,17,18,19])))))) (.reg [qk 53 .add 19 1,zM 19 53] [0,3,5,6,17,18,19]))))))) (qs [qA 54 3 6,qF 55 1 54,qL 56 55,qI 57 0] [0,3,5,6,55,56,57] (.block 2 (.loop (qs [qb 58 .lss 57 56] [0,3,5,6,55,56,57,58] (.seq (qc 58 .skip (.exit 2)) (.seq (.block 3 (qs [zM 59 57,qD 60 1 55 57,qF 61 1 60,zM 12 59,zM 13 61] [0,3,5,6,12,13,55,56,57] (qs [qA 63 3 5,qF 64 1 63,zM 65 13,q2 66 100 64 65,zM 62 66,qE 67 62 0,qE 68 62 1,zM 14 67,zM 15 68] [0,3,5,6,12,13,15,55,56,57] (qs [zM 69 15,qO 70 69] [0,3,5,6,12,13,55,56,57,70] (qc 70 (.qp [(zM 71 0,[]),(zM 72 3,[]),(zM 73 13,[]),(q2 74 108 72 73,[1,2]),(qA 75 4 6,[]),(qF 76 1 75,[4]),(zM 77 12,[]),(qD 78 5 76 77,[4,5,6]),(qT 79 5 78,[4,5,6,7]),(⟨none,some 80,.call 86 [.t 71,kI 1,.t 74,.t 79]⟩,[0,1,2,3,4,5,6,7,8])] [0,3,5,6,55,56,57]) .skip))))) (.reg [qk 81 .add 57 1,zM 57 81] [0,3,5,6,55,56,57])))))))))
theorem K.aa7 : lK pZ 84 4 2 C.aa7 []=true:=by kernel_rfl
def C.aco : dD:=(qs [qX 2 10 0,qX 3 11 1,zA 4 (.mv (.k (.xh 8))),qB 5 false] [2,3] (.seq (qs [qT 9 5 2,q1 10 36 9,qO 11 10,zM 12 11,zG 12 false 13 (.load true 5 (.t 3)),⟨(some (12,false)),some 14,.call 36 [.t 13]⟩,zG 12 false 15 (.not (.t 14)),qQ 16 12 15] [2,3,16] (qc 16 (qr [zA 4 (.mv (.k (.xh 8))),qB 5 false] [4,5]) .skip)) (.cut (.reg [zA 6 (.alloc 12 [.xh 8])] [2,3,6]) (qs [qT 17 5 2,qT 18 5 3,⟨none,some 19,.call 59 [.t 6,.t 17,.t 18,.k (.xh 1)]⟩] [2,6] (.seq (qs [qT 21 5 2,qA 22 0 6,qF 23 1 22,q2 24 26 21 23,zM 20 24,qE 25 20 0,qE 26 20 1,qZ 7 13,qS 5 7 25,zM 8 26] [6,8] (qs [zM 27 8,qO 28 27] [6,28] (qc 28 (qr [zA 4 (.mv (.k (.xh 8))),qB 5 false] [4,5]) .skip))) (qr [qA 29 0 6,qF 30 1 29,zM 4 30,qB 5 true] [4,5]))))))
theorem K.aco : lK pZ 28 2 0 C.aco [.tmp 4,.tmp 5]=true:=by kernel_rfl
def C.adS : dD:=(qs [qX 5 10 2,zA 6 (.alloc 11 [cI' 0,.xh 1,.xh 1,cI' 0,cI' 0,.c (.str []),.xh 1,.xh 5])] [0,1,5,6] (qr [zM 7 0,zM 8 1,zA 9 (.rH 12 1 0 [.str []] []),qT 10 5 5,q1 11 51 10,zA 12 (.build [cI' 0,.xh 1,.xh 1,cI' 0,cI' 0,.c (.str []),.xh 1,.xh 5] [(0,1,.t 7),(1,1,.t 8),(2,1,.t 9),(3,5,.t 11)]),qS 8 6 12] [6]))
theorem K.adS : lK pZ 83 3 0 C.adS [.cell 6 true 8]=true:=by kernel_rfl
def C.ac7 : dD:=(qs [zA 4 (.mv (.k (.xh 8)))] [0,1] (qs [zA 8 (.rH 10 8 0 [.lit (.int .i64 0),.sl 1 [],.sl 1 [],.lit (.int .i64 0),.lit (.int .i64 0),.str [],.sl 1 [],.sl 5 []] []),zM 5 8] [0,1,5] (.seq (qs [qI 6 0] [0,1,5,6] (.block 0 (.loop (.seq (qs [zM 9 6,zM 10 1,qL 11 10,qb 12 .lss 9 11] [0,1,5,6,12] (qc 12 .skip (.exit 0))) (.seq (.block 1 (qs [zM 15 0,zA 16 (.rH 11 1 1 [.str []] [(0,.t 15)]),zM 17 1,zM 18 6,qD 19 8 17 18,qA 20 1 19,qF 21 1 20,zA 22 (.append 12 1 16 (.t 16) (.t 21)),zM 7 22] [0,1,5,6,7] (.qp [(zM 23 5,[]),(zM 24 1,[]),(zM 25 6,[]),(qD 26 8 24 25,[1,2]),(qA 27 0 26,[1,2,3]),(qF 28 1 27,[1,2,3,4]),(zM 29 7,[]),(zA 30 (.rH 13 1 0 [.str []] []),[]),(zM 31 1,[]),(zM 32 6,[]),(qD 33 8 31 32,[8,9]),(qA 34 3 33,[8,9,10]),(qT 35 5 34,[8,9,10,11]),(zA 36 (.build [cI' 0,.xh 1,.xh 1,cI' 0,cI' 0,.c (.str []),.xh 1,.xh 5] [(0,1,.t 28),(1,1,.t 29),(2,1,.t 30),(3,5,.t 35)]),[1,2,3,4,5,6,7,8,9,10,11,12]),(zA 37 (.rH 14 8 1 [.lit (.int .i64 0),.sl 1 [],.sl 1 [],.lit (.int .i64 0),.lit (.int .i64 0),.str [],.sl 1 [],.sl 5 []] [(0,.t 36)]),[1,2,3,4,5,6,7,8,9,10,11,12,13]),(zA 38 (.append 15 8 136 (.t 23) (.t 37)),[0,1,2,3,4,5,6,7,8,9,10,11,12,13,14]),(zM 5 38,[0,1,2,3,4,5,6,7,8,9,10,11,12,13,14,15])] [0,1,5,6]))) (.reg [zM 13 6,qk 14 .add 13 1,zM 6 14] [0,1,5,6])))))) (qr [zM 39 5,zM 4 39] [4]))))
theorem K.ac7 : lK pZ 106 2 0 C.ac7 [.tmp 4]=true:=by kernel_rfl
def C.ad5 : dD:=(qs [qX 2 10 0,qX 3 11 1,zA 4 (.mv (.k (.xh 8)))] [2,3] (.seq (qs [qT 5 5 2,qT 6 5 3,q2 7 50 5 6] [2,3,7] (qc 7 (qr [zA 8 (.rH 12 8 0 [.lit (.int .i64 0),.sl 1 [],.sl 1 [],.lit (.int .i64 0),.lit (.int .i64 0),.str [],.sl 1 [],.sl 5 []] []),zM 4 8] [4]) .skip)) (.seq (.block 0 (qs [qA 10 0 2,qF 11 1 10,qk 12 .eql 11 4,zM 13 12,zG 13 true 14 (.ny 0 (.t 3)),zG 13 true 15 (.load false 1 (.t 14)),zG 13 true 16 (.bin .eql (.t 15) (kI 4)),qP 17 13 16,zM 9 17] [2,3,9] (qc 9 (qr [qT 18 5 2,qT 19 5 3,q2 20 81 18 19,zM 4 20] [4]) (qs [qA 22 0 2,qF 23 1 22,qk 24 .eql 23 3,zM 25 24,zG 25 true 26 (.ny 0 (.t 3)),zG 25 true 27 (.load false 1 (.t 26)),zG 25 true 28 (.bin .eql (.t 27) (kI 3)),qP 29 25 28,zM 21 29] [2,3,21] (qc 21 (qr [qT 30 5 2,qT 31 5 3,q2 32 82 30 31,zM 4 32] [4]) .skip))))) (qr [zA 33 (.rH 13 1 0 [.str []] []),qT 34 5 3,⟨none,some 35,.call 83 [kI 3,.t 33,.t 34]⟩,zA 36 (.rH 14 8 1 [.lit (.int .i64 0),.sl 1 [],.sl 1 [],.lit (.int .i64 0),.lit (.int .i64 0),.str [],.sl 1 [],.sl 5 []] [(0,.t 35)]),zM 4 36] [4]))))
theorem K.ad5 : lK pZ 58 2 0 C.ad5 [.tmp 4]=true:=by kernel_rfl
def C.aa9 : dD:=(qs [qX 2 10 0,qX 3 11 1,zA 4 (.mv (.k (.xh 8)))] [2,3] (qs [zA 10 (.rH 12 8 0 [.lit (.int .i64 0),.sl 1 [],.sl 1 [],.lit (.int .i64 0),.lit (.int .i64 0),.str [],.sl 1 [],.sl 5 []] []),zM 5 10] [2,3,5] (qs [qA 11 4 2,qF 12 1 11,qL 13 12,qA 14 4 3,qF 15 1 14,qL 16 15,zA 17 (.min (.t 13) (.t 16)),zM 6 17] [2,3,5,6] (.seq (qs [qI 7 0] [2,3,5,6,7] (.block 0 (.loop (.seq (qs [zM 18 7,zM 19 6,qb 20 .lss 18 19] [2,3,5,6,7,20] (qc 20 .skip (.exit 0))) (.seq (.block 1 (.qp [(zM 23 5,[]),(zM 24 7,[]),(q1 25 107 24,[1]),(qA 26 4 2,[]),(qF 27 1 26,[3]),(zM 28 7,[]),(qD 29 5 27 28,[3,4,5]),(qT 30 5 29,[3,4,5,6]),(qA 31 4 3,[]),(qF 32 1 31,[8]),(zM 33 7,[]),(qD 34 5 32 33,[8,9,10]),(qT 35 5 34,[8,9,10,11]),(q2 36 58 30 35,[1,2,3,4,5,6,7,8,9,10,11,12]),(q2 37 106 25 36,[1,2,3,4,5,6,7,8,9,10,11,12,13]),(zA 38 (.append 13 8 136 (.t 23) (.t 37)),[0,1,2,3,4,5,6,7,8,9,10,11,12,13,14]),(zM 5 38,[0,1,2,3,4,5,6,7,8,9,10,11,12,13,14,15])] [2,3,5,6,7])) (.reg [zM 21 7,qk 22 .add 21 1,zM 7 22] [2,3,5,6,7])))))) (.seq (qs [qA 39 4 2,qF 40 1 39,qL 41 40,qk 42 .sub 41 1,zM 8 42] [3,5,6,8] (.block 2 (.loop (.seq (qs [zM 43 8,zM 44 6,qb 45 .geq 43 44] [3,5,6,8,45] (qc 45 .skip (.exit 2))) (.seq (.block 3 (.reg [zM 48 5,zM 49 8,q1 50 107 49,zA 51 (.rH 14 1 1 [.str []] [(0,.t 50)]),zA 52 (.build zN []),⟨none,some 53,.call 83 [kI 2,.t 51,.t 52]⟩,zA 54 (.rH 15 8 1 [.lit (.int .i64 0),.sl 1 [],.sl 1 [],.lit (.int .i64 0),.lit (.int .i64 0),.str [],.sl 1 [],.sl 5 []] [(0,.t 53)]),zA 55 (.append 16 8 136 (.t 48) (.t 54)),zM 5 55] [3,5,6,8])) (.reg [zM 46 8,qk 47 .sub 46 1,zM 8 47] [3,5,6,8])))))) (.seq (qs [zM 56 6,zM 9 56] [3,5,9] (.block 4 (.loop (.seq (qs [zM 57 9,qA 58 4 3,qF 59 1 58,qL 60 59,qb 61 .lss 57 60] [3,5,9,61] (qc 61 .skip (.exit 4))) (.seq (.block 5 (.qp [(zM 64 5,[]),(zM 65 9,[]),(q1 66 107 65,[1]),(zA 67 (.rH 17 1 1 [.str []] [(0,.t 66)]),[1,2]),(qA 68 4 3,[]),(qF 69 1 68,[4]),(zM 70 9,[]),(qD 71 5 69 70,[4,5,6]),(qT 72 5 71,[4,5,6,7]),(⟨none,some 73,.call 83 [kI 1,.t 67,.t 72]⟩,[1,2,3,4,5,6,7,8]),(zA 74 (.rH 18 8 1 [.lit (.int .i64 0),.sl 1 [],.sl 1 [],.lit (.int .i64 0),.lit (.int .i64 0),.str [],.sl 1 [],.sl 5 []] [(0,.t 73)]),[1,2,3,4,5,6,7,8,9]),(zA 75 (.append 19 8 136 (.t 64) (.t 74)),[0,1,2,3,4,5,6,7,8,9,10]),(zM 5 75,[0,1,2,3,4,5,6,7,8,9,10,11])] [3,5,9])) (.reg [zM 62 9,qk 63 .add 62 1,zM 9 63] [3,5,9])))))) (qr [zM 76 5,zM 4 76] [4])))))))
theorem K.aa9 : lK pZ 82 2 0 C.aa9 [.tmp 4]=true:=by kernel_rfl
def C.abU : dD:=(qs [qX 2 10 0,qX 3 11 1,zA 4 (.mv (.k (.xh 8)))] [2,3] (qs [zA 9 (.rH 12 8 0 [.lit (.int .i64 0),.sl 1 [],.sl 1 [],.lit (.int .i64 0),.lit (.int .i64 0),.str [],.sl 1 [],.sl 5 []] []),zM 5 9] [2,3,5] (.seq (qs [qI 6 0] [2,3,5,6] (.block 0 (.loop (.seq (qs [zM 10 6,qA 11 4 2,qF 12 1 11,qL 13 12,qb 14 .lss 10 13] [2,3,5,6,14] (qc 14 .skip (.exit 0))) (.seq (.block 1 (.seq (.qp [(qT 17 5 3,[]),(qA 18 3 2,[]),(qF 19 1 18,[1]),(zM 20 6,[]),(qD 21 1 19 20,[1,2,3]),(qF 22 1 21,[1,2,3,4]),(q2 23 105 17 22,[0,1,2,3,4,5]),(zM 7 23,[0,1,2,3,4,5,6])] [2,3,5,6,7]) (qs [zM 24 7,qk 25 .lss 24 0] [2,3,5,6,7,25] (qc 25 (.reg [zM 26 5,qA 27 3 2,qF 28 1 27,zM 29 6,qD 30 1 28 29,qF 31 1 30,zA 32 (.rH 13 1 1 [.str []] [(0,.t 31)]),zA 33 (.build zN []),⟨none,some 34,.call 83 [kI 2,.t 32,.t 33]⟩,zA 35 (.rH 14 8 1 [.lit (.int .i64 0),.sl 1 [],.sl 1 [],.lit (.int .i64 0),.lit (.int .i64 0),.str [],.sl 1 [],.sl 5 []] [(0,.t 34)]),zA 36 (.append 15 8 136 (.t 26) (.t 35)),zM 5 36] [2,3,5,6]) (.qp [(zM 37 5,[]),(qA 38 3 2,[]),(qF 39 1 38,[1]),(zM 40 6,[]),(qD 41 1 39 40,[1,2,3]),(qF 42 1 41,[1,2,3,4]),(qA 43 4 2,[]),(qF 44 1 43,[6]),(zM 45 6,[]),(qD 46 5 44 45,[6,7,8]),(qT 47 5 46,[6,7,8,9]),(qA 48 4 3,[]),(qF 49 1 48,[11]),(zM 50 7,[]),(qD 51 5 49 50,[11,12,13]),(qT 52 5 51,[11,12,13,14]),(q2 53 58 47 52,[6,7,8,9,10,11,12,13,14,15]),(q2 54 106 42 53,[1,2,3,4,5,6,7,8,9,10,11,12,13,14,15,16]),(zA 55 (.append 16 8 136 (.t 37) (.t 54)),[0,1,2,3,4,5,6,7,8,9,10,11,12,13,14,15,16,17]),(zM 5 55,[0,1,2,3,4,5,6,7,8,9,10,11,12,13,14,15,16,17,18])] [2,3,5,6]))))) (.reg [zM 15 6,qk 16 .add 15 1,zM 6 16] [2,3,5,6])))))) (.seq (qs [qI 8 0] [2,3,5,8] (.block 2 (.loop (.seq (qs [zM 56 8,qA 57 4 3,qF 58 1 57,qL 59 58,qb 60 .lss 56 59] [2,3,5,8,60] (qc 60 .skip (.exit 2))) (.seq (.block 3 (.seq (.qp [(qT 63 5 2,[]),(qA 64 3 3,[]),(qF 65 1 64,[1]),(zM 66 8,[]),(qD 67 1 65 66,[1,2,3]),(qF 68 1 67,[1,2,3,4]),(q2 69 105 63 68,[0,1,2,3,4,5]),(qk 70 .lss 69 0,[0,1,2,3,4,5,6])] [2,3,5,8,70]) (qc 70 (.qp [(zM 71 5,[]),(qA 72 3 3,[]),(qF 73 1 72,[1]),(zM 74 8,[]),(qD 75 1 73 74,[1,2,3]),(qF 76 1 75,[1,2,3,4]),(zA 77 (.rH 17 1 1 [.str []] [(0,.t 76)]),[1,2,3,4,5]),(qA 78 4 3,[]),(qF 79 1 78,[7]),(zM 80 8,[]),(qD 81 5 79 80,[7,8,9]),(qT 82 5 81,[7,8,9,10]),(⟨none,some 83,.call 83 [kI 1,.t 77,.t 82]⟩,[1,2,3,4,5,6,7,8,9,10,11]),(zA 84 (.rH 18 8 1 [.lit (.int .i64 0),.sl 1 [],.sl 1 [],.lit (.int .i64 0),.lit (.int .i64 0),.str [],.sl 1 [],.sl 5 []] [(0,.t 83)]),[1,2,3,4,5,6,7,8,9,10,11,12]),(zA 85 (.append 19 8 136 (.t 71) (.t 84)),[0,1,2,3,4,5,6,7,8,9,10,11,12,13]),(zM 5 85,[0,1,2,3,4,5,6,7,8,9,10,11,12,13,14])] [2,3,5,8]) .skip))) (.reg [zM 61 8,qk 62 .add 61 1,zM 8 62] [2,3,5,8])))))) (qr [zM 86 5,zM 4 86] [4])))))
theorem K.abU : lK pZ 81 2 0 C.abU [.tmp 4]=true:=by kernel_rfl
def C.adi : dD:=(qs [qX 2 10 0,qX 3 11 1,zA 4 (.mv (.k (.xh 8))),qB 5 false] [2,3] (.seq (qs [qT 9 5 2,q1 10 31 9,qO 11 10,zM 12 11,zG 12 false 13 (.load true 5 (.t 3)),⟨(some (12,false)),some 14,.call 31 [.t 13]⟩,zG 12 false 15 (.not (.t 14)),qQ 16 12 15] [2,3,16] (qc 16 (qr [zA 4 (.mv (.k (.xh 8))),qB 5 false] [4,5]) .skip)) (qs [qT 17 5 2,qT 18 5 3,q2 19 58 17 18,zM 6 19] [2,6] (.seq (qs [zM 20 6,q1 21 55 20,qO 22 21] [2,6,22] (qc 22 (qr [zA 4 (.mv (.k (.xh 8))),qB 5 false] [4,5]) .skip)) (qs [qT 24 5 2,zM 25 6,q2 26 24 24 25,zM 23 26,qE 27 23 0,qE 28 23 1,qZ 7 12,qS 5 7 27,zM 8 28] [6,8] (.seq (qs [zM 29 8,qO 30 29] [6,30] (qc 30 (qr [zA 4 (.mv (.k (.xh 8))),qB 5 false] [4,5]) .skip)) (qr [zM 31 6,zM 4 31,qB 5 true] [4,5])))))))
theorem K.adi : lK pZ 27 2 0 C.adi [.tmp 4,.tmp 5]=true:=by kernel_rfl
theorem ajn : Val Gn=true:=by decide
theorem ahH {n m:ai}{l:List tC}(h:aeg n l=some m):Val n=true/\acU l=true/\agE n l=some m/\Val m=true:=by
 unfold aeg at h;split at h
 ·rename_i hv;simp only[af]at hv;exact⟨hv.1,hv.2,h,ahJ hv.1 h⟩
 ·cases h
theorem T.lS.L1 {l:List tC}(h:ag1 l):∀(k i:Nat),i+k=l.length->Ev (λf=>G.lS.L1 f l i) ((l.drop i).all Rn):=by
 obtain⟨hl,ho⟩:=h;intro k
 induction k with
 | zero=>intro i hi;refine Ev.up ?_;simp only[G.lS.L1];refine Ev.cf (by simp;omega) (Ev.ret' ?_);rw[aI (by omega)];rfl
 | succ k ih=>
   intro i hi;have hlt:i<l.length:=(by omega);refine Ev.up ?_;simp only[G.lS.L1,ak,tC.eta,iP (show i+1<9223372036854775808 by omega)];obtain⟨E,hf⟩:=ho _ (getD_mem default hlt);refine Ev.ct (by simpa using hlt) (Ev.chk (by omega) (Ev.bind (T.nJ ai0 hf) ?_));rw[iJ (default:tC) hlt,List.all_cons];refine Ev.ite (λe=>?_) (λe=>?_)
   ·rw[e,Bool.true_and];exact ih (i+1) (by omega)
   ·rw[e,Bool.false_and];exact Ev.ret _
theorem T.lS {l:List tC}(h:ag1 l):Ev (λf=>G.lS f l) (acU l):=by
 refine Ev.up ?_;simp only[G.lS];have hL:=T.lS.L1 h l.length 0 (by omega);unfold acU;refine Ev.ite (λe=>Ev.ret' ?_) (λe=>?_)
 ·have:¬l.length<=12:=by simp at e;omega
  simp[this]
 ·have:l.length<=12:=by simp at e;omega
  simp only[this,decide_true,qY];exact hL
theorem T.acr {B E:Nat}{n:ai}{l:List tC}(hB:B<=lim)(hn:Fine B E n)(hl:ag1 l):Ev (λf=>G.acr f n l) (mM (aeg n l)):=by
 refine Ev.up ?_;simp only[G.acr];unfold aeg;refine Ev.bind (T.cu hB hn) (Ev.ite (λe1=>?_) (λe1=>Ev.ret' (by rw[e1];rfl)));refine Ev.bind (T.lS hl) (Ev.ite (λe2=>?_) (λe2=>Ev.ret' (by rw[e1,e2];rfl)));refine Ev.bind (T.acp e1 e2) (Ev.ret' ?_);rw[e1,e2,if_pos (by rfl)];unfold ah9;cases hr:agE n l with
 |some m=>simp[mM]
 | none=>have h1:¬agN n l=l.length:=λe=>(by have:=ahh.1 e;rw[hr]at this;cases this);simp only[Nat.zero_add,mM];rw[ilen];simp[h1]
theorem agZ {x:gB}{l:List gB}(h:Asc l=true)(hx:∀y,y∈l->bl x y=true):Asc (x::l)=true:=by
 cases l with
 |nil=>rfl
 |cons y l=>rw[Asc,h,qY];exact hx y (by simp)
theorem ahT : ∀{a b:List gB},Asc a=true->Asc b=true->(∀s,s∈a<->s∈b)->a=b
 |[],[],_,_,_=>rfl
 |[],y::b,_,_,h=>absurd ((h y).2 (by simp)) (by simp)
 |x::a,[],_,_,h=>absurd ((h x).1 (by simp)) (by simp)
 | x::a,y::b,ha,hb,h=>by
   have e:x=y:=by
    rcases aB.1 ((h x).1 (by simp))with e|hx
    ·exact e
    ·rcases aB.1 ((h y).2 (by simp))with e|hy
     ·exact e.symm
     ·have h1:=KQ hb x hx;have h2:=KQ ha y hy;rw[RG h1]at h2;cases h2
   subst e;rw[ahT (KR ha) (KR hb) (λs=>?_)];have nx:∀{l:List gB},Asc (x::l)=true->x ∉ l:=λhl hx=>(by have:=KQ hl x hx;rw[Pz]at this;cases this);constructor
   ·intro hs;rcases aB.1 ((h s).1 (bW _ hs))with rfl|h'
    ·exact absurd hs (nx ha)
    ·exact h'
   ·intro hs;rcases aB.1 ((h s).2 (bW _ hs))with rfl|h'
    ·exact absurd hs (nx hb)
    ·exact h'
def lk (n:ai)(s:gB):Option ai:=(DJ n s).map λj=>n.Kids.getD j default
theorem agz {n:ai}(h:Parts n=true)(hk:n.Kind=4):afE n/\n.Names.length<=6/\∀s,s∈n.Names->s.length<=12:=by obtain⟨_,_,hN,hl,hkl⟩:=yh h hk;exact⟨⟨hk,Jm hN,hkl⟩,hl,λs hs=>Vs (aaq hN s hs)⟩
theorem agP {n:ai}(h:afE n){s:gB} : (lk n s).isSome=true<->s∈n.Names:=by
 unfold lk;rw[Option.isSome_map];constructor
 ·intro hs;obtain⟨j,hj⟩:=nM.1 hs;obtain⟨h1,h2,_⟩:=aaA.1 hj;rw[Qn h.kind,beq_iff_eq]at h2;rw[<- h2];exact getD_mem default (by rw[<- h.len];exact h1)
 ·intro hs;cases hp:DJ n s with
  |some j=>rfl
  | none=>obtain⟨i,hi,e⟩:=acw.1 hs;have:=MX.1 hp i (by rw[h.len];exact hi);rw[Qn h.kind,jC default hi,e]at this;simp at this
theorem ajh {n x:ai}{s:gB}(h:lk n s=some x):x∈n.Kids:=by unfold lk at h;obtain⟨j,hj,rfl⟩:=bI.1 h;exact getD_mem default (xU hj)
theorem agG {n:ai}(h:afE n){s:gB} : lk n s=none<->s ∉ n.Names:=by rw[<- agP h];cases lk n s<;>simp
theorem ahy : ∀{l:List gB} (i:Nat),Asc l=true->Asc (l.drop i)=true
 |l,0,h=>by simpa using h
 |[],i+1,_=>rfl
 |x::l,i+1,h=>ahy (l:=l) i (KR h)
theorem agF {d:Nat}{n x:ai}{s:gB}(h:Shape (d+1) n=true)(hx:lk n s=some x):Shape d x=true:=oL h x (ajh hx)
theorem ahU {v:Bool}{P:Prop}(h:v=true<->P)(hp:¬P):v=false:=by
 cases v with
 |false=>rfl
 |true=>exact absurd (h.1 rfl) hp
theorem afJ {n:ai}(h:afE n){r:gB}{k:ai} : lk n r=some k<->(r,k)∈n.Names.zip n.Kids:=by
 have at_:∀j,j<n.Names.length->(n.Names.getD j default,n.Kids.getD j default)∈n.Names.zip n.Kids:=λj hj=>by
  have hk:j<n.Kids.length:=by rw[h.len];exact hj
  rw[jC _ hj,jC _ hk];exact acw.2 ⟨j,by simp;omega,by simp⟩
 constructor
 ·intro e;unfold lk at e;obtain⟨j,hj,rfl⟩:=bI.1 e;obtain⟨h1,h2,_⟩:=aaA.1 hj;rw[Qn h.kind,beq_iff_eq]at h2;rw[<- h2];exact at_ j (by rw[<- h.len];exact h1)
 ·intro e;obtain⟨j,hj,e⟩:=acw.1 e;have hj1:j<n.Names.length:=by simp at hj;omega
  have hj2:j<n.Kids.length:=by simp at hj;omega
  simp only[afx,bV]at e;obtain⟨e1,e2⟩:=e;have hp:DJ n r=some j:=by rw[aaA];refine⟨hj2,by rw[Qn h.kind,jC _ hj1,e1];simp,λq hq=>?_⟩;rw[Qn h.kind];have:=Y1 (Pm h.asc q j hq hj1);rw[jC _ hj1,e1]at this;simpa using this
  unfold lk;rw[hp,iH,jC _ hj2,e2]
theorem aiN {n m:ai}(hn:afE n)(hm:afE m)(h1:n.Num=m.Num)(h2:n.Text=m.Text)(h:∀r,lk n r=lk m r):n=m:=by
 have e1:n.Names=m.Names:=ahT hn.asc hm.asc (λs=>by rw[<- agP hn,<- agP hm,h s]);have e2:n.Kids=m.Kids:=by
  refine List.ext_getElem (by rw[hn.len,hm.len,e1]) (λj hj hj'=>?_);have l1:j<n.Names.length:=by rw[<- hn.len];exact hj
  have l2:j<m.Names.length:=by rw[<- hm.len];exact hj'
  have a1:lk n n.Names[j]=some n.Kids[j]:=(afJ hn).2 (acw.2 ⟨j,by simp;omega,by simp⟩);have a2:lk m m.Names[j]=some m.Kids[j]:=(afJ hm).2 (acw.2 ⟨j,by simp;omega,by simp⟩);have e3:n.Names[j]=m.Names[j]:=by simp only[e1]
  rw[h,e3,a2]at a1;exact(yO a1).symm
 have hk:n.Kind=m.Kind:=by rw[hn.kind,hm.kind]
 cases n;cases m;simp only at h1 h2 e1 e2 hk;rw[h1,h2,e1,e2,hk]
theorem aiU {α β:Type}{a:List α}{b:List β}{p:Nat}{x:α}{y:β}(h:a.length=b.length):(insL a p x).zip (insL b p y)=insL (a.zip b) p (x,y):=by
 unfold insL;rw[afA (by simp[h]),afA (by simp[h])];have e1:(a.zip b).take p=(a.take p).zip (b.take p):=by rw[afS,List.take_zipWith]
 have e2:(a.zip b).drop p=(a.drop p).zip (b.drop p):=by rw[afS,List.drop_zipWith]
 rw[e1,e2];rfl
theorem aiL {α:Type}{l:List α}{p:Nat}{x y:α} : y∈insL l p x<->y=x\/y∈l:=by
 unfold insL;rw[aV,aV,wV];have:=List.take_append_drop p l;constructor
 ·rintro((h|h)|h)
  ·exact .inr (dG h)
  ·exact .inl h
  ·exact .inr (List.mem_of_mem_drop h)
 ·rintro(h|h)
  ·exact .inl (.inr h)
  ·rw[<- this,aV]at h;rcases h with h|h
   ·exact .inl (.inl h)
   ·exact .inr h
theorem aih {n v:ai}{s:gB}(h:afE n)(hs:s ∉ n.Names):∃m,addN n s v=some m/\m.Kind=4/\m.Num=0/\m.Text=[]/\m.Kids.length=m.Names.length/\∀r k,(r,k)∈m.Names.zip m.Kids<->(r,k)=(s,v)\/(r,k)∈n.Names.zip n.Kids:=by
 have hp:DJ n s=none:=by have:=(agG h).2 hs;unfold lk at this;simpa using this
 have hk:=h.kind;refine⟨ai.mk 4 0 [] (insL n.Names (slt n s) s) (insL n.Kids (slt n s) v),?_,rfl,rfl,rfl,?_,λr k=>?_⟩
 ·unfold addN;rw[hp];simp only[hk,if_true,show ¬((4:Int)=3) by decide,if_false]
 ·show(insL n.Kids _ v).length=(insL n.Names _ s).length;have:=h.len;unfold insL;simp;omega
 ·show(r,k)∈(insL n.Names (slt n s) s).zip (insL n.Kids (slt n s) v)<->_;rw[aiU h.len.symm,aiL]
theorem ahz : ∀{l:List gB} (i:Nat),Asc l=true->Asc (l.take i)=true
 |_,0,_=>by simp[Asc]
 |[],i+1,_=>rfl
 | x::l,i+1,h=>by rw[List.take_succ_cons];exact agZ (ahz i (KR h)) (λy hy=>KQ h y (dG hy))
theorem aiK {n m v:ai}{s:gB}(h:afE n)(hs:s ∉ n.Names)(hm:addN n s v=some m):Asc m.Names=true:=by
 have hp:DJ n s=none:=by have:=(agG h).2 hs;unfold lk at this;simpa using this
 have hk:=h.kind;unfold addN at hm;rw[hp]at hm;simp only[hk,if_true,show ¬((4:Int)=3) by decide,if_false,Option.some.injEq]at hm;subst hm;show Asc (insL n.Names (slt n s) s)=true;have hle:=adW n s;have hl:=h.len;have before:∀i,i<slt n s->bl (n.Names.getD i default) s=true:=λi hi=>by
  have h1:bl s (n.Names.getD i default)=false:=by
   unfold slt at hi;cases hf:(mJ 0 n.Kids.length).find? λi=>bl s (n.Names.getD i default)with
   | none=>rw[hf]at hi;exact OB.1 hf i (by omega) (by simpa using hi)
   | some j=>rw[hf]at hi;exact(IW.1 hf).2.2.2 i (by omega) hi
  cases h2:bl (n.Names.getD i default) s with
  |true=>rfl
  |false=>exact absurd (getD_mem default (by omega:i<n.Names.length)) (by rw[Uu h2 h1];exact hs)
 have behind:∀i,slt n s<=i->i<n.Names.length->bl s (n.Names.getD i default)=true:=λi h1 h2=>by
  have h3:slt n s<n.Kids.length:=by omega
  have h4:bl s (n.Names.getD (slt n s) default)=true:=by
   unfold slt at h3⊢;cases hf:(mJ 0 n.Kids.length).find? λi=>bl s (n.Names.getD i default)with
   |none=>rw[hf]at h3;simp at h3
   |some j=>exact(IW.1 hf).2.2.1
  by_cases e:slt n s=i
  ·rw[<- e];exact h4
  ·exact DY h4 (Pm h.asc (slt n s) i (by omega) h2)
 generalize slt n s=p at *;unfold insL;have key:∀(A S:List gB),Asc A=true->Asc S=true->(∀x,x∈A->bl x s=true)->(∀y,y∈S->bl s y=true)->Asc ((A++[s])++S)=true:=by
  intro A
  induction A with
  |nil=>intro S _ hS _ h2;exact agZ hS h2
  | cons a A ih=>
    intro S hA hS h1 h2;rw[yt,yt];refine agZ (ih S (KR hA) hS (λx hx=>h1 x (by simp[hx])) h2) (λy hy=>?_);rcases aV.1 hy with hy|hy
    ·rcases aV.1 hy with hy|hy
     ·exact KQ hA y hy
     ·rw[wV]at hy;subst hy;exact h1 a (by simp)
    ·exact DY (h1 a (by simp)) (h2 y hy)
 refine key _ _ (ahz p h.asc) (ahy p h.asc) (λx hx=>?_) (λy hy=>?_)
 ·obtain⟨i,hi,e⟩:=acw.1 hx;have hi2:i<p/\i<n.Names.length:=by simp at hi;omega
  have:=before i hi2.1;rw[jC _ hi2.2]at this;rw[<- e];simpa using this
 ·obtain⟨i,hi,e⟩:=acw.1 hy;have hi2:p+i<n.Names.length:=by simp at hi;omega
  have:=behind (p+i) (by omega) hi2;rw[jC _ hi2]at this;rw[<- e];simpa using this
theorem ahI {n c:ai}{j:Nat}(s:gB):DJ (Nq n j c) s=DJ n s:=by
 unfold DJ;have e:(Nq n j c).Kids.length=n.Kids.length:=by simp[Nq]
 rw[e];rfl
theorem ahD {n c:ai}{j:Nat}(h:j<n.Kids.length):(Nq n j c).Kids.getD j default=c:=by simp[Nq,bu,h]
theorem aia {n c e:ai}{j:Nat} : Nq (Nq n j c) j e=Nq n j e:=by unfold Nq;simp
theorem ahi {s:gB}{q:List gB}(h:q≠[]):yc (s::q)=s::yc q:=by
 unfold yc;cases q with
 |nil=>exact absurd rfl h
 |cons a r=>simp
theorem ahj {s:gB}{q:List gB}(h:q≠[]):Bv (s::q)=Bv q:=by
 unfold Bv;cases q with
 |nil=>exact absurd rfl h
 |cons a r=>simp[bu]
def und (s:gB)(o:tC):tC:=tC.mk o.Kind (s::o.Path) [] o.Value
def ag2 (o:tC):Prop:=o.Kind=3\/((o.Kind=1\/o.Kind=2)/\o.Path≠[])
theorem ah2 {n:ai}{s:gB}{j:Nat}{o:tC}(h:ag2 o)(hj:DJ n s=some j):applyN n (und s o)=(applyN (n.Kids.getD j default) o).map (Nq n j):=by
 have hc:s::o.Path≠[]:=by simp
 rcases h with h|⟨h|h,hp⟩
 ·unfold applyN;simp only[und,h,show ¬((3:Int)=1) by decide,show ¬((3:Int)=2) by decide,if_false,if_true];unfold Kz;rw[Ap,hj]
 ·unfold applyN;simp only[und,h,if_true];unfold vP;rw[if_neg hc,if_neg hp,ahi hp,ahj hp,Ap,hj]
 ·unfold applyN;simp only[und,h,show ¬((2:Int)=1) by decide,if_false,if_true];unfold yG;rw[if_neg hc,if_neg hp,ahi hp,ahj hp,Ap,hj]
noncomputable def aeG : ai->List tC->Option ai
 |n,[]=>some n
 | n,o::r=>match applyN n o with
   |some m=>aeG m r
   |none=>none
theorem ag8 : ∀{l:List tC} {n m:ai},agE n l=some m->aeG n l=some m
 |[],n,m,h=>h
 | o::l,n,m,h=>by
   rw[agE]at h;cases ha:yX n o with
   |none=>rw[ha]at h;cases h
   | some k=>rw[ha]at h;rw[aeG,(applied ha).app];exact ag8 h
theorem agX {l r:List tC} : ∀{n:ai},aeG n (l++r)=(aeG n l).bind λm=>aeG m r:=by
 induction l with
 |nil=>intro n;rfl
 | cons o l ih=>
   intro n;rw[yt,aeG,aeG];cases applyN n o with
   |none=>rfl
   |some k=>exact ih
theorem ahv {s:gB}{j:Nat} : ∀{l:List tC} {n:ai},(∀o,o∈l->ag2 o)->DJ n s=some j->aeG n (l.map (und s))=(aeG (n.Kids.getD j default) l).map (Nq n j)
 | [],n,_,hj=>by have hlt:=xU hj;show some n=some (Nq n j (n.Kids.getD j default));have e:n.Kids.set j (n.Kids.getD j default)=n.Kids:=(by rw[jC _ hlt];simp);unfold Nq;rw[e,ai.eta]
 | o::l,n,h,hj=>by
   have hlt:=xU hj;rw[aP,aeG,aeG,ah2 (h o (by simp)) hj];cases ha:applyN (n.Kids.getD j default) o with
   |none=>rfl
   | some k=>
     show aeG (Nq n j k) (l.map (und s))=(aeG k l).map (Nq n j);rw[ahv (λo ho=>h o (by simp[ho])) (show DJ (Nq n j k) s=some j by rw[ahI];exact hj),ahD hlt]
     congr 1
     funext e
     exact aia
theorem T.adS {k:Int}{p:List gB}{v:ai}{B D:Nat}(hB:B<=lim)(hv:Fine B D v):Ev (λf=>G.adS f k p v) (tC.mk k p [] v):=by refine Ev.up ?_;simp only[G.adS];exact Ev.bind (T.bC hB hv) (Ev.ret _)
theorem T.adw {l:List gB}(hl:l.length<=1000):Ev (λf=>G.adw f l) l:=by
 refine Ev.up ?_;simp only[G.adw];refine Ev.ite (λe=>Ev.ret' ?_) (λ_=>Ev.chk (by omega) (Ev.ret _));have:l.length=0:=by simpa using e
 exact(List.eq_nil_of_length_eq_zero this).symm
theorem T.aci {l:List gB}{s:gB}(hl:l.length<=1000):Ev (λf=>G.aci f l s) (l++[s]):=by have w:ah .i64 ((l.length:Int)+1)=((l.length+1:Nat):Int):=iP (by omega);refine Ev.up ?_;simp only[G.aci,w];exact Ev.chk (by omega) (Ev.chk (by omega) (Ev.chk (by omega) (Ev.ret' (by simp))))
theorem T.agD {d:o7}{k:Int}{p:List gB}{v:ai}{B D:Nat}(hB:B<=lim)(hv:Fine B D v)(hp:p.length<=1000)(hd:d.list.length<=200000000) :
 Ev (λf=>G.aa8 f d k p v) (o7.mk (d.list++[tC.mk k p [] v])):=by
 refine Ev.up ?_;simp only[G.aa8];exact Ev.bind (T.adw hp) (Ev.bind (T.aO hB hv) (Ev.chk (by omega) (Ev.ret _)))
theorem T.ac7.L1 {s:gB}{l:List tC}(hl:l.length<=1000000)(hp:∀o,o∈l->o.Path.length<=1000):∀(k i:Nat) (z:List tC),i+k=l.length->z.length<=i ->
 Ev (λf=>G.ac7.L1 f s l i z) (z++(l.drop i).map (und s)):=by
 intro k
 induction k with
 | zero=>intro i z hi hz;refine Ev.up ?_;simp only[G.ac7.L1];refine Ev.cf (decide_eq_false (by omega)) (Ev.ret' ?_);rw[aI (by omega)];simp
 | succ k ih=>intro i z hi hz;have hpl:=hp _ (getD_mem default (by omega:i<l.length));refine Ev.up ?_;simp only[G.ac7.L1,ak,iP (show i+1<9223372036854775808 by omega)];refine Ev.ct (decide_eq_true (by omega)) (Ev.chk (by omega) (Ev.chk (by omega) (Ev.chk (by omega) (Ev.chk (by omega) (Ev.chk (by omega) ?_)))));refine(ih (i+1) _ (by omega) (by simp;omega)).eq ?_;rw[iJ (default:tC) (by omega:i<l.length)];simp[und]
theorem T.ac7 {s:gB}{l:List tC}(hl:l.length<=1000000)(hp:∀o,o∈l->o.Path.length<=1000):Ev (λf=>G.ac7 f s l) (l.map (und s)):=by refine Ev.up ?_;simp only[G.ac7];exact T.ac7.L1 hl hp l.length 0 [] (by omega) (by simp)
def ahg (F:ai->ai->List tC)(a b:ai):List tC:=
 ((mJ 0 a.Kids.length).flatMap λi=>match lk b (a.Names.getD i default)with
   |some y=>(F (a.Kids.getD i default) y).map (und (a.Names.getD i default))
   |none=>[tC.mk 2 [a.Names.getD i default] [] Gn]) ++
 ((mJ 0 b.Kids.length).flatMap λk=>if(lk a (b.Names.getD k default)).isSome then []else [tC.mk 1 [b.Names.getD k default] [] (b.Kids.getD k default)])
def age (F:ai->ai->List tC)(a b:ai):List tC:=
 ((mJ 0 (min a.Kids.length b.Kids.length)).flatMap λi=>(F (a.Kids.getD i default) (b.Kids.getD i default)).map (und (D8 i))) ++
 ((mJ b.Kids.length (a.Kids.length-b.Kids.length)).reverse.map λi=>tC.mk 2 [D8 i] [] Gn) ++
 ((mJ a.Kids.length (b.Kids.length-a.Kids.length)).map λi=>tC.mk 1 [D8 i] [] (b.Kids.getD i default))
open Classical in
noncomputable def ad8 : Nat->ai->ai->List tC
 |0,_,_=>[]
 |d+1,a,b=>if a=b then []else if a.Kind=4/\b.Kind=4 then ahg (ad8 d) a b else if a.Kind=3/\b.Kind=3 then age (ad8 d) a b else [tC.mk 3 [] [] b]
open Classical in
theorem afD {d:Nat}{a b:ai} : ad8 (d+1) a b=if a=b then []else if a.Kind=4/\b.Kind=4 then ahg (ad8 d) a b else if a.Kind=3/\b.Kind=3 then age (ad8 d) a b else [tC.mk 3 [] [] b]:=by rw[ad8]
theorem ahK {s:gB}{o:tC}(h:ag2 o):ag2 (und s o):=by
 rcases h with h|⟨h,_⟩
 ·exact .inl h
 ·exact .inr ⟨h,by simp[und]⟩
theorem agt : ∀(d:Nat) {a b:ai} {o:tC},o∈ad8 d a b->ag2 o
 |0,_,_,_,h=>by cases h
 | d+1,a,b,o,h=>by
   rw[afD]at h;split at h
   ·cases h
   ·split at h
    ·rcases aV.1 h with h|h
     ·obtain⟨i,_,h⟩:=iw.1 h;split at h
      ·obtain⟨q,hq,rfl⟩:=aF.1 h;exact ahK (agt d hq)
      ·rw[wV]at h;subst h;exact .inr ⟨.inr rfl,by simp⟩
     ·obtain⟨i,_,h⟩:=iw.1 h;split at h
      ·cases h
      ·rw[wV]at h;subst h;exact .inr ⟨.inl rfl,by simp⟩
    ·split at h
     ·rcases aV.1 h with h|h
      ·rcases aV.1 h with h|h
       ·obtain⟨i,_,h⟩:=iw.1 h;obtain⟨q,hq,rfl⟩:=aF.1 h;exact ahK (agt d hq)
       ·obtain⟨i,_,rfl⟩:=aF.1 h;exact .inr ⟨.inr rfl,by simp⟩
      ·obtain⟨i,_,rfl⟩:=aF.1 h;exact .inr ⟨.inl rfl,by simp⟩
     ·rw[wV]at h;subst h;exact .inl rfl
structure Mp (m:ai):Prop where
 map:afE m
 num:m.Num=0
 text:m.Text=[]
theorem ai3 {n:ai}(h:Parts n=true)(hk:n.Kind=4):Mp n:=⟨(agz h hk).1,(yh h hk).1,(yh h hk).2.1⟩
theorem aim {m x:ai}{s:gB}(h:lk m s=some x):∃j,DJ m s=some j/\m.Kids.getD j default=x:=by unfold lk at h;exact bI.1 h
theorem ai1 {m:ai}(h:afE m){i:Nat}(hi:i<m.Kids.length):lk m (m.Names.getD i default)=some (m.Kids.getD i default):=by
 have hi':i<m.Names.length:=by rw[<- h.len];exact hi
 rw[afJ h,jC _ hi,jC _ hi'];exact acw.2 ⟨i,by simp;omega,by simp⟩
theorem ahF {m:ai}(h:afE m){i j:Nat}(hi:i<m.Names.length)(hj:j<m.Names.length)(e:m.Names.getD i default=m.Names.getD j default):i=j:=by
 rcases Nat.lt_trichotomy i j with k|k|k
 ·exact absurd e (Y1 (Pm h.asc i j k hj))
 ·exact k
 ·exact absurd e.symm (Y1 (Pm h.asc j i k hi))
theorem aiM {m y:ai}{s:gB}{j:Nat}(h:afE m)(hj:DJ m s=some j)(r:gB):lk (Nq m j y) r=if r=s then some y else lk m r:=by
 unfold lk;rw[ahI];by_cases e:r=s
 ·subst e;rw[if_pos rfl,hj,iH,ahD (xU hj)]
 ·rw[if_neg e];cases hr:DJ m r with
  |none=>rfl
  | some i=>
    have hne:j≠i:=λe2=>by subst e2;have a:=KJ hj;have b:=KJ hr;rw[Qn h.kind,beq_iff_eq]at a b;exact e (b.symm.trans a)
    simp[Nq,bu,List.getElem?_set,hne]
theorem aiO {m y:ai}{j:Nat}(h:Mp m):Mp (Nq m j y):=⟨⟨h.map.kind,h.map.asc,by show(m.Kids.set j y).length=m.Names.length;rw[List.length_set];exact h.map.len⟩,h.num,h.text⟩
theorem ah6 {α:Type}{l:List α}{k:Nat}{y:α} : y∈yC l k<->∃i,∃h:i<l.length,i≠k/\l[i]=y:=by
 unfold yC;rw[aV,List.mem_take_iff_getElem,List.mem_drop_iff_getElem];constructor
 ·rintro(⟨i,h,e⟩|⟨i,h,e⟩)
  ·exact⟨i,by omega,by omega,e⟩
  ·exact⟨k+1+i,by omega,by omega,e⟩
 ·rintro⟨i,h,hk,e⟩;by_cases c:i<k
  ·exact .inl ⟨i,by omega,e⟩
  ·refine .inr ⟨i-(k+1),by omega,?_⟩;have:k+1+(i-(k+1))=i:=(by omega);simp only[this];exact e
theorem aic {α β:Type}{a:List α}{b:List β}{k:Nat}(h:a.length=b.length):(yC a k).zip (yC b k)=yC (a.zip b) k:=by
 unfold yC;rw[afA (by simp[h])];have e1:(a.zip b).take k=(a.take k).zip (b.take k):=by rw[afS,List.take_zipWith]
 have e2:(a.zip b).drop (k+1)=(a.drop (k+1)).zip (b.drop (k+1)):=by rw[afS,List.drop_zipWith]
 rw[e1,e2]
theorem aji {m:ai}{s:gB}(h:afE m)(hs:s∈m.Names):∃m',Ie m s=some m'/\Mp m'/\∀r,lk m' r=if r=s then none else lk m r:=by
 obtain⟨x,hx⟩:=nM.1 ((agP h).2 hs);obtain⟨j,hj,_⟩:=aim hx;obtain⟨hjl,hjh,_⟩:=aaA.1 hj;rw[Qn h.kind,beq_iff_eq]at hjh;have hjn:j<m.Names.length:=by rw[<- h.len];exact hjl
 have hM:afE (ai.mk 4 0 [] (yC m.Names j) (yC m.Kids j)):=by refine⟨rfl,CG.2 ((CG.1 h.asc).sublist (Ah _ _)),?_⟩;show(yC m.Kids j).length=(yC m.Names j).length;rw[EU hjl,EU hjn,h.len]
 refine⟨_,?_,⟨hM,rfl,rfl⟩,λr=>?_⟩
 ·unfold Ie;rw[hj];simp only[h.kind,if_true]
 ·apply Option.ext;intro x;rw[afJ hM];show(r,x)∈(yC m.Names j).zip (yC m.Kids j)<->_;rw[aic h.len.symm,ah6];by_cases e:r=s
  ·rw[if_pos e];constructor
   ·rintro⟨i,hi,hne,e2⟩;have l1:i<m.Names.length:=(by simp at hi;omega);rw[afx,bV]at e2;refine absurd (ahF h l1 hjn ?_) hne;rw[jC _ l1,e2.1,hjh,e]
   ·intro e2;cases e2
  ·rw[if_neg e,afJ h,acw];constructor
   ·rintro⟨i,hi,_,e2⟩;exact⟨i,hi,e2⟩
   ·rintro⟨i,hi,e2⟩;refine⟨i,hi,λc=>?_,e2⟩;subst c;rw[afx,bV]at e2;rw[jC _ hjn,e2.1]at hjh;exact e hjh
theorem ai9 {m v:ai}{s:gB}(h:afE m)(hs:s ∉ m.Names):∃m',addN m s v=some m'/\Mp m'/\∀r,lk m' r=if r=s then some v else lk m r:=by
 obtain⟨m',e,k1,k2,k3,k4,k5⟩:=aih (v:=v) h hs;have hM:afE m':=⟨k1,aiK h hs e,k4⟩;refine⟨m',e,⟨hM,k2,k3⟩,λr=>?_⟩;apply Option.ext;intro x;rw[afJ hM,k5];by_cases c:r=s
 ·rw[if_pos c];constructor
  ·rintro(q|q)
   ·rw[bV]at q;rw[q.2]
   ·have:=(agG h).2 hs;rw[<- afJ h,c,this]at q;cases q
  ·intro q;cases q;exact .inl (by rw[c])
 ·rw[if_neg c,afJ h];constructor
  ·rintro(q|q)
   ·rw[bV]at q;exact absurd q.1 c
   ·exact q
  ·exact .inr
theorem ahd {n v:ai}{s:gB} : applyN n (tC.mk 2 [s] [] v)=Ie n s:=by unfold applyN;simp only[show ¬((2:Int)=1) by decide,if_false,if_true];unfold yG;rw[if_neg (by simp)];rfl
theorem apply_add {n v:ai}{s:gB} : applyN n (tC.mk 1 [s] [] v)=addN n s v:=by unfold applyN;simp only[if_true];unfold vP;rw[if_neg (by simp)];rfl
theorem ah1 {n v:ai} : applyN n (tC.mk 3 [] [] v)=some v:=by unfold applyN;simp only[show ¬((3:Int)=1) by decide,show ¬((3:Int)=2) by decide,if_false,if_true];rfl
theorem ahu {n:ai}{o:tC} : aeG n [o]=applyN n o:=by rw[aeG];cases applyN n o<;>rfl
theorem ag7 {g:Nat->List tC}{P:Nat->ai->Prop}{N:Nat}(step:∀i m,i<N->P i m->∃m',aeG m (g i)=some m'/\P (i+1) m') :
 ∀k i m,i+k=N->P i m->∃m',aeG m ((mJ i k).flatMap g)=some m'/\P N m':=by
 intro k
 induction k with
 | zero=>intro i m hi h;have:i=N:=(by omega);subst this;exact⟨m,rfl,h⟩
 | succ k ih=>intro i m hi h;obtain⟨m1,e1,h1⟩:=step i m (by omega) h;obtain⟨m2,e2,h2⟩:=ih (i+1) m1 (by omega) h1;refine⟨m2,?_,h2⟩;rw[uO,mX,agX,e1];exact e2
theorem aec {l:List gB}{i:Nat}(h:i<l.length){r:gB} : r∈l.take (i+1)<->r∈l.take i\/r=l.getD i default:=by rw[kR h,aV,wV,jC _ h]
theorem ahG {m:ai}(h:afE m){i:Nat}(hi:i<m.Names.length):m.Names.getD i default ∉ m.Names.take i:=by
 intro c;obtain⟨j,hj,e⟩:=List.mem_take_iff_getElem.1 c;have hj':j<m.Names.length:=by omega
 have:=ahF h hj' hi (by rw[jC _ hj'];exact e);omega
theorem ait {F:ai->ai->List tC}{a b:ai}(ma:Mp a)(mb:Mp b)(hg:∀x y o,o∈F x y->ag2 o)
 (hF:∀s x y,lk a s=some x->lk b s=some y->aeG x (F x y)=some y):aeG a (ahg F a b)=some b:=by
 have hla:=ma.map.len;have hlb:=mb.map.len;have p1:=ag7 (N:=a.Kids.length) (P:=λi m=>Mp m/\∀r,lk m r=if r∈a.Names.take i then lk b r else lk a r)
  (g:=λi=>match lk b (a.Names.getD i default)with
   |some y=>(F (a.Kids.getD i default) y).map (und (a.Names.getD i default))
   |none=>[tC.mk 2 [a.Names.getD i default] [] Gn]) (by
  intro i m hi ⟨hm,hr⟩;have hi':i<a.Names.length:=by rw[<- hla];exact hi
  have hx:=ai1 ma.map hi;have hnt:=ahG ma.map hi';have hms:lk m (a.Names.getD i default)=some (a.Kids.getD i default):=by rw[hr,if_neg hnt,hx]
  have fin:∀m',Mp m'->(∀r,lk m' r=if r=a.Names.getD i default then lk b (a.Names.getD i default)else lk m r)->Mp m'/\∀r,lk m' r=if r∈a.Names.take (i+1)then lk b r else lk a r:=λm' h1 h2=>by
   refine⟨h1,λr=>?_⟩;rw[h2];by_cases c:r=a.Names.getD i default
   ·rw[if_pos c,if_pos ((aec hi').2 (.inr c)),c]
   ·rw[if_neg c,hr];by_cases d:r∈a.Names.take i
    ·rw[if_pos d,if_pos ((aec hi').2 (.inl d))]
    ·rw[if_neg d,if_neg (λq=>((aec hi').1 q).elim d c)]
  cases hy:lk b (a.Names.getD i default)with
  | some y=>obtain⟨j,hj,ej⟩:=aim hms;refine⟨Nq m j y,?_,fin _ (aiO hm) (λr=>by rw[aiM hm.map hj,hy])⟩;show aeG m ((F (a.Kids.getD i default) y).map (und (a.Names.getD i default)))=_;rw[ahv (hg _ _) hj,ej,hF _ _ _ hx hy];rfl
  | none=>obtain⟨m',e,h1,h2⟩:=aji hm.map ((agP hm.map).1 (by rw[hms];rfl));refine⟨m',?_,fin _ h1 (λr=>by rw[h2,hy])⟩;show aeG m [tC.mk 2 [a.Names.getD i default] [] Gn]=_;rw[ahu,ahd,e]) a.Kids.length 0 a (by omega) ⟨ma,λr=>by simp⟩
 obtain⟨m1,e1,hm1,h1⟩:=p1;have h1':∀r,lk m1 r=if r∈a.Names then lk b r else none:=λr=>by
  rw[h1,aW (by omega)];by_cases c:r∈a.Names
  ·rw[if_pos c,if_pos c]
  ·rw[if_neg c,if_neg c,(agG ma.map).2 c]
 have p2:=ag7 (N:=b.Kids.length) (P:=λk m=>Mp m/\∀r,lk m r=if r∈a.Names\/r∈b.Names.take k then lk b r else none)
  (g:=λk=>if(lk a (b.Names.getD k default)).isSome then []else [tC.mk 1 [b.Names.getD k default] [] (b.Kids.getD k default)]) (by
  intro k m hk ⟨hm,hr⟩;have hk':k<b.Names.length:=by rw[<- hlb];exact hk
  have hy:=ai1 mb.map hk;have hnt:=ahG mb.map hk';by_cases c:(lk a (b.Names.getD k default)).isSome=true
  ·have ca:=(agP ma.map).1 c;refine⟨m,by simp only[c,if_true];rfl,hm,λr=>?_⟩;rw[hr];by_cases d:r∈a.Names\/r∈b.Names.take k
   ·rw[if_pos d,if_pos (d.imp_right λq=>(aec hk').2 (.inl q))]
   ·rw[if_neg d,if_neg];rintro(q|q)
    ·exact d (.inl q)
    ·rcases(aec hk').1 q with q|q
     ·exact d (.inr q)
     ·exact d (.inl (q▸ca))
  ·have ca:b.Names.getD k default ∉ a.Names:=λq=>c ((agP ma.map).2 q);have hn:b.Names.getD k default ∉ m.Names:=by
    rw[<- agG hm.map,hr,if_neg];rintro(q|q)
    ·exact ca q
    ·exact hnt q
   obtain⟨m',e,g1,g2⟩:=ai9 (v:=b.Kids.getD k default) hm.map hn;refine⟨m',?_,g1,λr=>?_⟩
   ·simp only[c];show aeG m [tC.mk 1 [b.Names.getD k default] [] (b.Kids.getD k default)]=_;rw[ahu,apply_add,e]
   ·rw[g2];by_cases d:r=b.Names.getD k default
    ·rw[if_pos d,if_pos (.inr ((aec hk').2 (.inr d))),d,hy]
    ·rw[if_neg d,hr];by_cases q:r∈a.Names\/r∈b.Names.take k
     ·rw[if_pos q,if_pos (q.imp_right λw=>(aec hk').2 (.inl w))]
     ·rw[if_neg q,if_neg];rintro(w|w)
      ·exact q (.inl w)
      ·rcases(aec hk').1 w with w|w
       ·exact q (.inr w)
       ·exact d w) b.Kids.length 0 m1 (by omega) ⟨hm1,λr=>by rw[h1'];simp⟩
 obtain⟨m2,e2,hm2,h2⟩:=p2;have:m2=b:=aiN hm2.map mb.map (by rw[hm2.num,mb.num]) (by rw[hm2.text,mb.text]) (λr=>by
  rw[h2,aW (by omega)];by_cases c:r∈a.Names\/r∈b.Names
  ·rw[if_pos c]
  ·rw[if_neg c];exact((agG mb.map).2 (λq=>c (.inr q))).symm)
 subst this;unfold ahg;rw[agX,e1];exact e2
def ln (l:List ai):ai:=ai.mk 3 0 [] [] l
theorem ai2 {n:ai}(h:Parts n=true)(hk:n.Kind=3):n=ln n.Kids/\n.Kids.length<=6:=by
 obtain⟨h1,h2,h3,h4⟩:=y5 h hk;refine⟨?_,h4⟩;cases n with
 | mk k nu t na ki=>simp only at h1 h2 h3 hk;subst h1 h2 h3 hk;rfl
theorem aii {i j:Nat}(hi:i<10)(hj:j<10)(h:D8 i=D8 j):i=j:=by rw[Gg hi,Gg hj,List.cons.injEq]at h;have:=congrArg UInt8.toNat h.1;rw[UInt8.toNat_ofNat',UInt8.toNat_ofNat']at this;omega
theorem ahQ {l:List ai}(hl:l.length<=9){i:Nat}(hi:i<=l.length):DJ (ln l) (D8 i)=if i<l.length then some i else none:=by
 have hh:∀q,q<10->hit (ln l) (D8 i) q=true->q=i:=λq hq h=>by rw[ZC (n:=ln l) rfl,beq_iff_eq]at h;exact aii hq (by omega) h
 by_cases c:i<l.length
 ·rw[if_pos c,aaA];refine⟨c,by rw[ZC (n:=ln l) rfl];simp,λq hq=>?_⟩;cases e:hit (ln l) (D8 i) q with
  |false=>rfl
  |true=>have:=hh q (by omega) e;omega
 ·rw[if_neg c,MX];intro q hq;have hq':q<l.length:=hq;cases e:hit (ln l) (D8 i) q with
  |false=>rfl
  |true=>have:=hh q (by omega) e;omega
theorem ajj {l:List ai}{i:Nat}(hl:l.length<=9)(hi:i<l.length):Ie (ln l) (D8 i)=some (ln (yC l i)):=by unfold Ie;rw[ahQ hl (by omega),if_pos hi];rfl
theorem aja {l:List ai}{v:ai}(hl:l.length<=9):addN (ln l) (D8 l.length) v=some (ln (l++[v])):=by unfold addN;rw[ahQ hl (by omega),if_neg (by omega)];show(if(3:Int)=3 then _ else _)=_;rw[if_pos rfl,if_pos (.inr rfl)];show some (ln (insL l l.length v))=_;unfold insL;simp
theorem aiu {lb:Nat} : ∀(k:Nat) (l:List ai),l.length=lb+k->l.length<=9->aeG (ln l) ((mJ lb k).reverse.map λi=>tC.mk 2 [D8 i] [] Gn)=some (ln (l.take lb)):=by
 intro k
 induction k with
 | zero=>intro l hl _;rw[aW (by omega)];rfl
 | succ k ih=>
   intro l hl h9;rw[aeO,aeA,aeh,List.singleton_append,aP,aeG,ahd,qG,ajj h9 (by omega)];have hd:=EU (l:=l) (k:=lb+k) (by omega);show aeG (ln (yC l (lb+k))) _=_;rw[ih _ (by omega) (by omega)]
   congr 2
   unfold yC;rw[aI (by omega),pI,List.take_take,aej (by omega)]
theorem ais {L:List ai} : ∀(k i:Nat),i+k=L.length->L.length<=9->aeG (ln (L.take i)) ((mJ i k).map λi=>tC.mk 1 [D8 i] [] (L.getD i default))=some (ln L):=by
 intro k
 induction k with
 | zero=>intro i hi _;rw[aW (by omega)];rfl
 | succ k ih=>intro i hi h9;have e:(L.take i).length=i:=(by simp;omega);have ha:=aja (l:=L.take i) (v:=L.getD i default) (by omega);rw[e]at ha;rw[uO,aP,aeG,apply_add,ha];show aeG (ln (L.take i++[L.getD i default])) _=_;rw[jC _ (by omega:i<L.length),<- kR (by omega)];exact ih (i+1) (by omega) h9
theorem ah8 {F:ai->ai->List tC}{A B:List ai}(ha:A.length<=6)(hb:B.length<=6)(hg:∀x y o,o∈F x y->ag2 o)
 (hF:∀x y,x∈A->y∈B->aeG x (F x y)=some y):aeG (ln A) (age F (ln A) (ln B))=some (ln B):=by
 have p1:=ag7 (N:=min A.length B.length) (P:=λi m=>m=ln (B.take i++A.drop i))
  (g:=λi=>(F (A.getD i default) (B.getD i default)).map (und (D8 i))) (by
  intro i m hi e;subst e;have ia:i<A.length:=by omega
  have ib:i<B.length:=by omega
  have hl:(B.take i++A.drop i).length=A.length:=by simp;omega
  have hp:=ahQ (l:=B.take i++A.drop i) (by omega) (i:=i) (by omega);rw[if_pos (by omega)]at hp;have hk:(ln (B.take i++A.drop i)).Kids.getD i default=A.getD i default:=by show(B.take i++A.drop i).getD i default=_;have e1:(B.take i).length=i:=(by simp;omega);simp only[bu];rw[List.getElem?_append_right (by omega),e1,List.getElem?_drop];simp
  refine⟨_,by rw[ahv (hg _ _) hp,hk,hF _ _ (getD_mem default ia) (getD_mem default ib)];rfl,?_⟩;show ln ((B.take i++A.drop i).set i (B.getD i default))=ln (B.take (i+1)++A.drop (i+1))
  congr 1
  have e1:(B.take i).length=i:=by simp;omega
  rw[List.set_append_right _ _ (by omega),e1,aeR,iJ (default:ai) ia,List.set_cons_zero,kR ib,qM,jC _ ib];rfl) (min A.length B.length) 0 (ln A) (by omega) (by simp)
 obtain⟨m1,e1,rfl⟩:=p1;show aeG (ln A) (age F (ln A) (ln B))=some (ln B);unfold age;show aeG (ln A) (((mJ 0 (min A.length B.length)).flatMap λi=>(F (A.getD i default) (B.getD i default)).map (und (D8 i))) ++
  ((mJ B.length (A.length-B.length)).reverse.map λi=>tC.mk 2 [D8 i] [] Gn)++((mJ A.length (B.length-A.length)).map λi=>tC.mk 1 [D8 i] [] (B.getD i default)))=_
 rw[agX,agX,e1,fG];by_cases c:A.length<=B.length
 ·have z:A.length-B.length=0:=by omega
  rw[z,aej c,aI (aA _),pI];exact ais _ _ (by omega) (by omega)
 ·have z:B.length-A.length=0:=by omega
  rw[z,Nat.min_eq_right (by omega),aiu (A.length-B.length) _ (by simp) (by simp;omega),fG];show some (ln ((B.take B.length++A.drop B.length).take B.length))=some (ln B);rw[List.take_length,List.take_left]
theorem ag3 : ∀(d:Nat) {a b:ai},Shape d a=true->Shape d b=true->aeG a (ad8 d a b)=some b
 |0,_,_,h,_=>by cases h
 | d+1,a,b,ha,hb=>by
   rw[afD];have pa:=nO ha;have pb:=nO hb;by_cases e:a=b
   ·rw[if_pos e,e];rfl
   rw[if_neg e];by_cases h4:a.Kind=4/\b.Kind=4
   ·rw[if_pos h4];exact ait (ai3 pa h4.1) (ai3 pb h4.2) (λx y o h=>agt d h) (λs x y hx hy=>ag3 d (agF ha hx) (agF hb hy))
   rw[if_neg h4];by_cases h3:a.Kind=3/\b.Kind=3
   ·rw[if_pos h3];obtain⟨ea,la⟩:=ai2 pa h3.1;obtain⟨eb,lb⟩:=ai2 pb h3.2;rw[ea,eb];exact ah8 la lb (λx y o h=>agt d h) (λx y hx hy=>ag3 d (oL ha x hx) (oL hb y hy))
   rw[if_neg h3,ahu,ah1]
structure aie (d:Nat)(o:tC):Prop where
 k1:1<=o.Kind
 k3:o.Kind<=3
 wu:o.From=[]
 len:o.Path.length<=d
 txt:∀s,s∈o.Path->s.length<=12
 val:Fine 12 5 o.Value
theorem afT : Fine 12 5 Gn:=lg ajn
theorem ahV {d:Nat}{s:gB}{o:tC}(h:aie d o)(hs:s.length<=12):aie (d+1) (und s o):=
 ⟨h.k1,h.k3,rfl,by show(s::o.Path).length<=_;have:=h.len;simp;omega,λt ht=>by rcases aB.1 ht with e|e;exact e▸hs;exact h.txt t e,h.val⟩
theorem agW {d:Nat}{k:Int}{s:gB}{v:ai}(h1:1<=k)(h3:k<=3)(hs:s.length<=12)(hv:Fine 12 5 v):aie (d+1) (tC.mk k [s] [] v):=
 ⟨h1,h3,rfl,by simp,λt ht=>by rw[wV.1 ht];exact hs,hv⟩
theorem agO {i:Nat}(h:i<10):(D8 i).length<=12:=by rw[Gg h];simp
theorem ahw {d:Nat}{n:ai}(hd:d<=5)(h:Shape d n=true):Fine 12 5 n:=(AZ h).mono (aA _) hd
theorem agB : ∀(d:Nat) {a b:ai} {o:tC},d<=5->Shape d a=true->Shape d b=true->o∈ad8 d a b->aie d o
 |0,_,_,_,_,h,_,_=>by cases h
 | d+1,a,b,o,hd,ha,hb,h=>by
   rw[afD]at h;have pa:=nO ha;have pb:=nO hb;have hla:=Cf ha;have hlb:=Cf hb;split at h
   ·cases h
   ·split at h
    ·rename_i h4;obtain⟨ma,_,na⟩:=agz pa h4.1;obtain⟨mb,_,nb⟩:=agz pb h4.2;have la:=ma.len;have lb:=mb.len;rcases aV.1 h with h|h
     ·obtain⟨i,hi,h⟩:=iw.1 h;have hi':i<a.Kids.length:=(by simp at hi;exact hi);have hs:=na _ (getD_mem default (show i<a.Names.length by omega));split at h
      ·rename_i y hy;obtain⟨q,hq,rfl⟩:=aF.1 h;exact ahV (agB d (by omega) (Js ha hi') (agF hb hy) hq) hs
      ·rw[wV]at h;subst h;exact agW (by omega) (by omega) hs afT
     ·obtain⟨i,hi,h⟩:=iw.1 h;have hi':i<b.Kids.length:=(by simp at hi;exact hi);have hs:=nb _ (getD_mem default (show i<b.Names.length by omega));split at h
      ·cases h
      ·rw[wV]at h;subst h;exact agW (by omega) (by omega) hs (ahw (by omega) (Js hb hi'))
    ·split at h
     ·rcases aV.1 h with h|h
      ·rcases aV.1 h with h|h
       ·obtain⟨i,hi,h⟩:=iw.1 h;have hi':i<a.Kids.length/\i<b.Kids.length:=(by simp at hi;omega);obtain⟨q,hq,rfl⟩:=aF.1 h;exact ahV (agB d (by omega) (Js ha hi'.1) (Js hb hi'.2) hq) (agO (by omega))
       ·obtain⟨i,hi,rfl⟩:=aF.1 h;have hi':i<6:=(by simp at hi;omega);exact agW (by omega) (by omega) (agO (by omega)) afT
      ·obtain⟨i,hi,rfl⟩:=aF.1 h;have hi':i<b.Kids.length:=(by simp at hi;omega);exact agW (by omega) (by omega) (agO (by omega)) (ahw (by omega) (Js hb hi'))
     ·rw[wV]at h;subst h;exact⟨(by show(1:Int)<=3;omega),(by show(3:Int)<=3;omega),rfl,(by simp),(λt ht=>(by cases ht)),ahw hd hb⟩
theorem ag4 {g:Nat->List tC}{f:Nat->Nat} : ∀(k i:Nat),(∀j,i<=j->j<i+k->(g j).length<=f j)->((mJ i k).flatMap g).length<=((mJ i k).map f).sum:=by
 intro k
 induction k with
 |zero=>intro i _;simp
 | succ k ih=>intro i h;have h1:=h i (by omega) (by omega);have h2:=ih (i+1) (λj h1 h2=>h j (by omega) (by omega));rw[uO,mX,iM,aP,lG];omega
theorem ahn {f:ai->Nat} : ∀(k i:Nat) (l:List ai),i+k<=l.length->((mJ i k).map λj=>f (l.getD j default)).sum<=((l.drop i).map f).sum:=by
 intro k
 induction k with
 |zero=>intro i l _;simp
 | succ k ih=>intro i l h;rw[uO,aP,lG,iJ (default:ai) (by omega:i<l.length),aP,lG];have:=ih (i+1) l (by omega);omega
theorem aiI {d:Nat}{n:ai}(h:Shape d n=true):1<=Cnt d n:=by
 cases d with
 |zero=>cases h
 |succ d=>unfold Cnt;omega
theorem ahx {f:ai->Nat}{c:Nat} : ∀l:List ai,(l.map λx=>c*f x).sum=c*(l.map f).sum
 |[]=>by simp
 |x::l=>by rw[aP,lG,aP,lG,ahx l,Nat.mul_add]
theorem agQ : ∀(d:Nat) {a b:ai},Shape d a=true->Shape d b=true->(ad8 d a b).length<=13*Cnt d a
 |0,_,_,h,_=>by cases h
 | d+1,a,b,ha,hb=>by
   rw[afD];have pa:=nO ha;have pb:=nO hb;have hla:=Cf ha;have hlb:=Cf hb;have hc:Cnt (d+1) a=1+(a.Kids.map (Cnt d)).sum:=(by rw[Cnt]);have hs:=ahn (f:=λx=>13*Cnt d x) a.Kids.length 0 a.Kids (by omega);rw[dI,ahx]at hs;have hs':=ahn (f:=λx=>13*Cnt d x) (min a.Kids.length b.Kids.length) 0 a.Kids (by omega);rw[dI,ahx]at hs';split
   ·simp
   ·split
    ·rename_i h4;unfold ahg;rw[iM];have f1:=ag4 (f:=λi=>13*Cnt d (a.Kids.getD i default)) (g:=λi=>match lk b (a.Names.getD i default)with
      |some y=>(ad8 d (a.Kids.getD i default) y).map (und (a.Names.getD i default))
      | none=>[tC.mk 2 [a.Names.getD i default] [] Gn]) a.Kids.length 0 (λj _ hj=>by
        have hk:=Js ha (show j<a.Kids.length by omega);show A8 (match lk b (a.Names.getD j default)with|some y=>_|none=>_)<=_;split
        ·rename_i y hy;rw[nX];exact agQ d hk (agF hb hy)
        ·have:=aiI hk;simp only[aeb];omega)
     have f2:=ag4 (f:=λ_=>1) (g:=λk=>if(lk a (b.Names.getD k default)).isSome then []else [tC.mk 1 [b.Names.getD k default] [] (b.Kids.getD k default)]) b.Kids.length 0 (λj _ _=>by show A8 (if _ then _ else _)<=_;split<;>simp)
     simp only[List.map_const',aeH,List.sum_replicate_nat]at f2;omega
    ·split
     ·unfold age;rw[iM,iM,nX,nX,List.length_reverse,aeH,aeH];have f1:=ag4 (f:=λi=>13*Cnt d (a.Kids.getD i default)) (g:=λi=>(ad8 d (a.Kids.getD i default) (b.Kids.getD i default)).map (und (D8 i))) (min a.Kids.length b.Kids.length) 0 (λj _ hj=>by
       show A8 ((ad8 d (a.Kids.getD j default) (b.Kids.getD j default)).map (und (D8 j)))<=_;rw[nX];exact agQ d (Js ha (by omega)) (Js hb (by omega)))
      omega
     ·simp only[aeb];omega
section
def gA (F:ai->ai->List tC) (a b:ai) (i:Nat):List tC:=match lk b (a.Names.getD i default)with
    |some y=>(F (a.Kids.getD i default) y).map (und (a.Names.getD i default))
    |none=>[tC.mk 2 [a.Names.getD i default] [] Gn]
def aaR (a b:ai)(k:Nat):List tC:=if(lk a (b.Names.getD k default)).isSome then []else [tC.mk 1 [b.Names.getD k default] [] (b.Kids.getD k default)]
def gL (F:ai->ai->List tC)(a b:ai)(i:Nat):List tC:=(F (a.Kids.getD i default) (b.Kids.getD i default)).map (und (D8 i))
def ahS (i:Nat):tC:=tC.mk 2 [D8 i] [] Gn
def aho (b:ai)(i:Nat):tC:=tC.mk 1 [D8 i] [] (b.Kids.getD i default)
theorem ahA {F:ai->ai->List tC}{a b:ai} : ahg F a b=(mJ 0 a.Kids.length).flatMap (gA F a b)++(mJ 0 b.Kids.length).flatMap (aaR a b):=rfl
theorem ahe {F:ai->ai->List tC}{a b:ai} : age F a b=(mJ 0 (min a.Kids.length b.Kids.length)).flatMap (gL F a b) ++
 ((mJ (min a.Kids.length b.Kids.length) (a.Kids.length-min a.Kids.length b.Kids.length)).reverse.map ahS ++
 (mJ (min a.Kids.length b.Kids.length) (b.Kids.length-min a.Kids.length b.Kids.length)).map (aho b)):=by
 unfold age gL;rw[qM];by_cases c:a.Kids.length<=b.Kids.length
 ·rw[aej c,Nat.sub_eq_zero_of_le c,aeR];rfl
 ·rw[Nat.min_eq_right (by omega),Nat.sub_eq_zero_of_le (show b.Kids.length<=a.Kids.length by omega),aeR];rfl
theorem ahC {a b:Nat} : (if(b:Int)<(a:Int)then(b:Int)else(a:Int))=((min a b:Nat):Int):=by
 by_cases h:b<a
 ·rw[if_pos (by omega)];omega
 ·rw[if_neg (by omega)];omega
theorem wrap_in {x:Int}(h0 : -9223372036854775808<=x)(h1:x<9223372036854775808):ah .i64 x=x:=by simp only[ah,Go.IntKind.bits,Go.IntKind.signed];simp;omega
theorem air {o:Option Nat} : decide (Oc o<0) = !o.isSome:=by
 cases o with
 |none=>rfl
 |some j=>exact decide_eq_false (by simp only[Oc];omega)
theorem ahk {n:ai}{s:gB} : (lk n s).isSome=(DJ n s).isSome:=by unfold lk;rw[Option.isSome_map]
theorem ahB {d:Nat}{a b:ai}(hd:d<=5)(ha:Shape d a=true)(hb:Shape d b=true):∀o,o∈ad8 d a b->o.Path.length<=1000:=λo ho=>by have:=(agB d hd ha hb ho).len;omega
theorem ah3 {d:Nat}{a:ai}(hd:d<=5)(h:Shape d a=true):13*Cnt d a<=300000:=by have:=cnt_le h;have:=aaB hd;omega
theorem agv {d:Nat}{a b:ai}(hd:d<=5)(ha:Shape d a=true)(hb:Shape d b=true):(ad8 d a b).length<=300000:=by have:=agQ d ha hb;have:=ah3 hd ha;omega
section
variable {d:Nat} {a b:ai} (hd:d<=4) (ha:Shape (d+1) a=true) (hb:Shape (d+1) b=true)
include hd ha hb
theorem T.abU.L2 (mb:afE b):∀(t k:Nat) (z:List tC),k+t=b.Kids.length->z.length+t<=3000000 ->
 Ev (λf=>G.abU.L2 f a b (k:Int) z) (z++(mJ k t).flatMap (aaR a b)):=by
 have hlb:=mb.len;have h6:=Cf hb;intro t
 induction t with
 | zero=>intro k z hk hz;refine Ev.up ?_;simp only[G.abU.L2];exact Ev.cf (decide_eq_false (by omega)) (Ev.ret' (by simp))
 | succ t ih=>
   intro k z hk hz;refine Ev.up ?_;simp only[G.abU.L2,ak,iP (show k+1<9223372036854775808 by omega)];refine Ev.ct (decide_eq_true (by omega)) (Ev.chk (by omega) (Ev.bind (T.fO _ MH (AZ ha)) ?_));rw[air,<- ahk,uO,mX];refine Ev.ite (λe=>?_) (λe=>?_)
   ·refine Ev.chk (by omega) (Ev.chk (by omega) (Ev.bind (T.adS MH (AZ (Js hb (by omega)))) (Ev.chk (by omega) ?_)));refine(ih (k+1) _ (by omega) (by simp;omega)).eq ?_;have:(lk a (b.Names.getD k default)).isSome=false:=(by simpa using e);unfold aaR;rw[this];simp
   ·refine(ih (k+1) _ (by omega) (by omega)).eq ?_;have:(lk a (b.Names.getD k default)).isSome=true:=(by simpa using e);have g:aaR a b k=[]:=(by unfold aaR;rw[this];rfl);rw[g];rfl
theorem T.abU.L1 (ma:afE a)(mb:afE b)(hs:∀x y,Shape d x=true->Shape d y=true->Ev (λf=>G.ad5 f x y) (ad8 d x y)):∀(t i:Nat) (z:List tC),i+t=a.Kids.length->z.length+300000*t<=2900000 ->
 Ev (λf=>G.abU.L1 f a b (i:Int) z) (z++((mJ i t).flatMap (gA (ad8 d) a b)++(mJ 0 b.Kids.length).flatMap (aaR a b))):=by
 have hla:=ma.len;have h6:=Cf ha;have h7:=Cf hb;intro t
 induction t with
 | zero=>intro i z hi hz;refine Ev.up ?_;simp only[G.abU.L1];exact Ev.cf (decide_eq_false (by omega)) ((T.abU.L2 hd ha hb mb b.Kids.length 0 z (by omega) (by omega)).eq (by simp))
 | succ t ih=>
   intro i z hi hz;have hx:=Js ha (show i<a.Kids.length by omega);refine Ev.up ?_;simp only[G.abU.L1,ak,iP (show i+1<9223372036854775808 by omega)];refine Ev.ct (decide_eq_true (by omega)) (Ev.chk (by omega) (Ev.bind (T.fO _ MH (AZ hb)) ?_));rw[uO,mX];cases hp:DJ b (a.Names.getD i default)with
   | none=>have g:gA (ad8 d) a b i=[tC.mk 2 [a.Names.getD i default] [] Gn]:=(by unfold gA lk;rw[hp];rfl);refine Ev.ct (by decide) (Ev.chk (by omega) (Ev.bind (T.adS MH afT) (Ev.chk (by omega) ?_)));refine(ih (i+1) _ (by omega) (by simp;omega)).eq ?_;rw[g];simp[Gn]
   | some j=>have hj:=xU hp;have hy:=Js hb hj;have g:gA (ad8 d) a b i=(ad8 d (a.Kids.getD i default) (b.Kids.getD j default)).map (und (a.Names.getD i default)):=(by unfold gA lk;rw[hp];rfl);have hl:=agv (by omega) hx hy;simp only[Oc,ak];refine Ev.cf (decide_eq_false (by omega)) (Ev.chk (by omega) (Ev.chk (by omega) (Ev.chk (by omega) (Ev.bind (hs _ _ hx hy) (Ev.bind (T.ac7 (by omega) (ahB (by omega) hx hy)) (Ev.chk (by rw[nX];omega) ?_))))));refine(ih (i+1) _ (by omega) (by rw[iM,nX];omega)).eq ?_;rw[g];simp
theorem T.aa9.L3 : ∀(t i:Nat) (z:List tC),i+t=b.Kids.length->z.length+t<=3000000 ->
 Ev (λf=>G.aa9.L3 f b (i:Int) z) (z++(mJ i t).map (aho b)):=by
 have h6:=Cf hb;intro t
 induction t with
 | zero=>intro i z hi hz;refine Ev.up ?_;simp only[G.aa9.L3];exact Ev.cf (decide_eq_false (by omega)) (Ev.ret' (by simp))
 | succ t ih=>intro i z hi hz;refine Ev.up ?_;simp only[G.aa9.L3,ak,iP (show i+1<9223372036854775808 by omega)];refine Ev.ct (decide_eq_true (by omega)) (Ev.bind (T.decimal (by unfold lim;omega)) (Ev.chk (by omega) (Ev.bind (T.adS MH (AZ (Js hb (by omega)))) (Ev.chk (by omega) ?_))));refine(ih (i+1) _ (by omega) (by simp;omega)).eq ?_;rw[uO];simp[aho]
theorem T.aa9.L2 : ∀(t:Nat) (x:Int) (z:List tC),min a.Kids.length b.Kids.length+t<=6->x=((min a.Kids.length b.Kids.length+t:Nat):Int)-1->z.length+t<=2900000 ->
 Ev (λf=>G.aa9.L2 f a b x z) (z++((mJ (min a.Kids.length b.Kids.length) t).reverse.map ahS++(mJ (min a.Kids.length b.Kids.length) (b.Kids.length-min a.Kids.length b.Kids.length)).map (aho b))):=by
 have h6:=Cf hb;intro t
 induction t with
 | zero=>intro x z hm hx hz;refine Ev.up ?_;simp only[G.aa9.L2,ahC];exact Ev.cf (decide_eq_false (by omega)) ((T.aa9.L3 hd ha hb (b.Kids.length-min a.Kids.length b.Kids.length) _ z (by omega) (by omega)).eq (by simp))
 | succ t ih=>intro x z hm hx hz;have ex:x=((min a.Kids.length b.Kids.length+t:Nat):Int):=(by omega);subst ex;refine Ev.up ?_;simp only[G.aa9.L2,ahC];refine Ev.ct (decide_eq_true (by omega)) (Ev.bind (T.decimal (by unfold lim;omega)) (Ev.bind (T.adS MH afT) (Ev.chk (by omega) ?_)));rw[wrap_in (by omega) (by omega)];refine(ih _ _ (by omega) rfl (by simp;omega)).eq ?_;rw[aeO,aeA,aeh,qG];simp[ahS,Gn]
theorem T.aa9.L1 (hs:∀x y,Shape d x=true->Shape d y=true->Ev (λf=>G.ad5 f x y) (ad8 d x y)):∀(t i:Nat) (z:List tC),i+t=min a.Kids.length b.Kids.length->z.length+300000*t<=2800000 ->
 Ev (λf=>G.aa9.L1 f a b (i:Int) z) (z++((mJ i t).flatMap (gL (ad8 d) a b)++((mJ (min a.Kids.length b.Kids.length) (a.Kids.length-min a.Kids.length b.Kids.length)).reverse.map ahS ++
 (mJ (min a.Kids.length b.Kids.length) (b.Kids.length-min a.Kids.length b.Kids.length)).map (aho b)))):=by
 have h6:=Cf ha;have h7:=Cf hb;intro t
 induction t with
 | zero=>intro i z hi hz;refine Ev.up ?_;have w:ah .i64 ((a.Kids.length:Int)-1)=(a.Kids.length:Int)-1:=wrap_in (by omega) (by omega);simp only[G.aa9.L1,ahC,w];exact Ev.cf (decide_eq_false (by omega)) ((T.aa9.L2 hd ha hb (a.Kids.length-min a.Kids.length b.Kids.length) _ z (by omega) (by omega) (by omega)).eq (by simp))
 | succ t ih=>intro i z hi hz;have hx:=Js ha (show i<a.Kids.length by omega);have hy:=Js hb (show i<b.Kids.length by omega);have hl:=agv (by omega) hx hy;refine Ev.up ?_;simp only[G.aa9.L1,ahC,ak,iP (show i+1<9223372036854775808 by omega)];refine Ev.ct (decide_eq_true (by omega)) (Ev.bind (T.decimal (by unfold lim;omega)) (Ev.chk (by omega) (Ev.chk (by omega) (Ev.bind (hs _ _ hx hy) (Ev.bind (T.ac7 (by omega) (ahB (by omega) hx hy)) (Ev.chk (by rw[nX];omega) ?_))))));refine(ih (i+1) _ (by omega) (by rw[iM,nX];omega)).eq ?_;rw[uO,mX];simp[gL]
end
theorem T.ad5 : ∀(d:Nat) {a b:ai},d<=5->Shape d a=true->Shape d b=true->Ev (λf=>G.ad5 f a b) (ad8 d a b)
 |0,_,_,_,h,_=>by cases h
 | d+1,a,b,hd,ha,hb=>by
   have h6:=Cf ha;have h7:=Cf hb;obtain⟨v,gs,hv⟩:=T.rD ha hb;have one:Ev (λf=>iV (G.adS f 3 [] b) λv=>some [v]) [tC.mk 3 [] [] b]:=Ev.bind (T.adS MH (AZ hb)) (Ev.ret _);refine Ev.up ?_;simp only[G.ad5];rw[afD];refine Ev.bind gs ?_;by_cases e:a=b
   ·rw[if_pos e];exact Ev.ct (hv.2 e) (Ev.ret _)
   rw[if_neg e];refine Ev.cf (ahU hv e) ?_;have k3:Ev (λf=>cond (a.Kind==3) (cond (b.Kind==3) (iV (G.aa9 f a b) λv=>some v) (iV (G.adS f 3 [] b) λv=>some [v])) (iV (G.adS f 3 [] b) λv=>some [v]))
    (if a.Kind=3/\b.Kind=3 then age (ad8 d) a b else [tC.mk 3 [] [] b]):=by
    refine Ev.ite (λka=>?_) (λka=>?_)
    ·have ka':a.Kind=3:=(by simpa using ka);refine Ev.ite (λkb=>?_) (λkb=>?_)
     ·have kb':b.Kind=3:=(by simpa using kb);rw[if_pos ⟨ka',kb'⟩,ahe];refine Ev.bind (Ev.up ?_) (Ev.ret _);simp only[G.aa9];exact(T.aa9.L1 (by omega) ha hb (λx y hx hy=>T.ad5 d (by omega) hx hy) (min a.Kids.length b.Kids.length) 0 [] (by omega) (by simp;omega)).eq (by simp)
     ·have kb':¬b.Kind=3:=(by simpa using kb);rw[if_neg (λh=>kb' h.2)];exact one
    ·have ka':¬a.Kind=3:=(by simpa using ka);rw[if_neg (λh=>ka' h.1)];exact one
   refine Ev.ite (λka=>?_) (λka=>?_)
   ·have ka':a.Kind=4:=(by simpa using ka);refine Ev.ite (λkb=>?_) (λkb=>?_)
    ·have kb':b.Kind=4:=(by simpa using kb);rw[if_pos ⟨ka',kb'⟩,ahA];refine Ev.bind (Ev.up ?_) (Ev.ret _);simp only[G.abU];exact(T.abU.L1 (by omega) ha hb (agz (nO ha) ka').1 (agz (nO hb) kb').1 (λx y hx hy=>T.ad5 d (by omega) hx hy) a.Kids.length 0 [] (by omega) (by simp;omega)).eq (by simp)
    ·have kb':¬b.Kind=4:=(by simpa using kb);rw[if_neg (λh=>kb' h.2)];exact k3
   ·have ka':¬a.Kind=4:=(by simpa using ka);rw[if_neg (λh=>ka' h.1)];exact k3
theorem aiS {p:List gB}{s:gB}{o:tC} : YN p (und s o)=YN (p++[s]) o:=by simp[YN,und]
theorem ahX {p:List gB}{s:gB}{l:List tC} : (l.map (und s)).map (YN p)=l.map (YN (p++[s])):=by
 rw[List.map_map]
 congr 1
 funext o
 exact aiS
theorem T.bs {n:ai}(s:gB)(h:afE n)(hl:n.Names.length<=1000):∃p:Nat,Ev (λf=>G.slices_BinarySearch_string f n.Names s) ((p:Int),(DJ n s).isSome)/\∀j,DJ n s=some j->p=j:=by
 obtain⟨p,g,hp⟩:=T.slices_BinarySearch_string s (by unfold big;omega) h.asc;have hpl:=aaz h.kind h.asc h.len hp;cases hc:decide (p<n.Names.length)&&n.Names.getD p default==s with
 | true=>rw[hc]at g hpl;rw[if_pos rfl]at hpl;refine⟨p,by rw[hpl];exact g,λj hj=>?_⟩;rw[hpl]at hj;exact yO hj
 | false=>rw[hc]at g hpl;rw[if_neg (by simp)]at hpl;refine⟨p,by rw[hpl];exact g,λj hj=>?_⟩;rw[hpl]at hj;cases hj
section
variable {d:Nat} {a b:ai} {p:List gB} (hd:d<=4) (hp:p.length+(d+1)<=100) (ha:Shape (d+1) a=true) (hb:Shape (d+1) b=true)
include hd hp ha hb
theorem T.agU.L2 (ma:afE a)(mb:afE b):∀(t k:Nat) (z:List tC),k+t=b.Kids.length->z.length+t<=100000000 ->
 Ev (λf=>G.aa7.L2 f a b p (k:Int) z) (o7.mk (z++((mJ k t).flatMap (aaR a b)).map (YN p))):=by
 have hlb:=mb.len;have hla:=ma.len;have h6:=Cf hb;have h7:=Cf ha;intro t
 induction t with
 | zero=>intro k z hk hz;refine Ev.up ?_;simp only[G.aa7.L2];exact Ev.cf (decide_eq_false (by omega)) (Ev.ret' (by simp))
 | succ t ih=>
   intro k z hk hz;obtain⟨q,gq,hq⟩:=T.bs (b.Names.getD k default) ma (by omega);refine Ev.up ?_;simp only[G.aa7.L2,ak,iP (show k+1<9223372036854775808 by omega)];refine Ev.ct (decide_eq_true (by omega)) (Ev.chk (by omega) (Ev.bind gq ?_));rw[<- ahk,uO,mX,mG];refine Ev.ite (λe=>?_) (λe=>?_)
   ·refine(ih (k+1) _ (by omega) (by omega)).eq ?_;have g:aaR a b k=[]:=(by unfold aaR;rw[show(lk a (b.Names.getD k default)).isSome=true from e];rfl);rw[g];rfl
   ·refine Ev.bind (T.aci (by omega)) (Ev.chk (by omega) (Ev.bind (T.agD MH (AZ (Js hb (by omega))) (by simp;omega) (by show z.length<=_;omega)) ?_));refine(ih (k+1) _ (by omega) (by simp;omega)).eq ?_;have g:aaR a b k=[tC.mk 1 [b.Names.getD k default] [] (b.Kids.getD k default)]:=(by unfold aaR;rw[show(lk a (b.Names.getD k default)).isSome=false from e];rfl);rw[g];simp[YN]
theorem T.agU.L1 (ma:afE a)(mb:afE b)(hs:∀x y q D,q.length+d<=100->D.list.length+3000000*d<=99000000->Shape d x=true->Shape d y=true->Ev (λf=>G.abD f D x y q) (o7.mk (D.list++(ad8 d x y).map (YN q)))) :
 ∀(t i:Nat) (z:List tC),i+t=a.Kids.length->z.length+300000*t+3000000*d<=99000000 ->
 Ev (λf=>G.aa7.L1 f a b p (i:Int) z) (o7.mk (z++((mJ i t).flatMap (gA (ad8 d) a b)++(mJ 0 b.Kids.length).flatMap (aaR a b)).map (YN p))):=by
 have hla:=ma.len;have hlb:=mb.len;have h6:=Cf ha;have h7:=Cf hb;intro t
 induction t with
 | zero=>intro i z hi hz;refine Ev.up ?_;simp only[G.aa7.L1];exact Ev.cf (decide_eq_false (by omega)) ((T.agU.L2 hd hp ha hb ma mb b.Kids.length 0 z (by omega) (by omega)).eq (by simp))
 | succ t ih=>
   intro i z hi hz;have hx:=Js ha (show i<a.Kids.length by omega);obtain⟨q,gq,hq⟩:=T.bs (a.Names.getD i default) mb (by omega);refine Ev.up ?_;simp only[G.aa7.L1,ak,iP (show i+1<9223372036854775808 by omega)];refine Ev.ct (decide_eq_true (by omega)) (Ev.chk (by omega) (Ev.bind gq ?_));rw[uO,mX];cases hpl:DJ b (a.Names.getD i default)with
   | none=>have g:gA (ad8 d) a b i=[tC.mk 2 [a.Names.getD i default] [] Gn]:=(by unfold gA lk;rw[hpl];rfl);refine Ev.cf rfl (Ev.bind (T.aci (by omega)) (Ev.bind (T.agD MH afT (by simp;omega) (by show z.length<=_;omega)) ?_));refine(ih (i+1) _ (by omega) (by simp;omega)).eq ?_;rw[g];simp[Gn,YN]
   | some j=>have hj:=xU hpl;have hy:=Js hb hj;have e:=hq j hpl;subst e;have g:gA (ad8 d) a b i=(ad8 d (a.Kids.getD i default) (b.Kids.getD q default)).map (und (a.Names.getD i default)):=(by unfold gA lk;rw[hpl];rfl);have hl:=agv (by omega) hx hy;simp only[ak];refine Ev.ct rfl (Ev.chk (by omega) (Ev.chk (by omega) (Ev.bind (T.aci (by omega)) (Ev.bind (hs _ _ _ _ (by simp;omega) (by show z.length+_<=_;omega) hx hy) ?_))));refine(ih (i+1) _ (by omega) (by show(z++aT _ _).length+_+_<=_;rw[iM,nX];omega)).eq ?_;rw[g];simp only[mG,ahX,qM]
theorem T.afW.L3 : ∀(t i:Nat) (z:List tC),i+t=b.Kids.length->z.length+t<=100000000 ->
 Ev (λf=>G.aa6.L3 f b p (i:Int) z) (o7.mk (z++((mJ i t).map (aho b)).map (YN p))):=by
 have h6:=Cf hb;intro t
 induction t with
 | zero=>intro i z hi hz;refine Ev.up ?_;simp only[G.aa6.L3];exact Ev.cf (decide_eq_false (by omega)) (Ev.ret' (by simp))
 | succ t ih=>intro i z hi hz;refine Ev.up ?_;simp only[G.aa6.L3,ak,iP (show i+1<9223372036854775808 by omega)];refine Ev.ct (decide_eq_true (by omega)) (Ev.bind (T.strconv_Itoa (by omega)) (Ev.bind (T.aci (by omega)) (Ev.chk (by omega) (Ev.bind (T.agD MH (AZ (Js hb (by omega))) (by simp;omega) (by show z.length<=_;omega)) ?_))));refine(ih (i+1) _ (by omega) (by simp;omega)).eq ?_;rw[uO];simp[aho,YN]
theorem T.afW.L2 : ∀(t:Nat) (x:Int) (z:List tC),min a.Kids.length b.Kids.length+t<=6->x=((min a.Kids.length b.Kids.length+t:Nat):Int)-1->z.length+t<=99500000 ->
 Ev (λf=>G.aa6.L2 f a b p x z) (o7.mk (z++((mJ (min a.Kids.length b.Kids.length) t).reverse.map ahS++(mJ (min a.Kids.length b.Kids.length) (b.Kids.length-min a.Kids.length b.Kids.length)).map (aho b)).map (YN p))):=by
 have h6:=Cf hb;intro t
 induction t with
 | zero=>intro x z hm hx hz;refine Ev.up ?_;simp only[G.aa6.L2,ahC];exact Ev.cf (decide_eq_false (by omega)) ((T.afW.L3 hd hp ha hb (b.Kids.length-min a.Kids.length b.Kids.length) _ z (by omega) (by omega)).eq (by simp))
 | succ t ih=>intro x z hm hx hz;have ex:x=((min a.Kids.length b.Kids.length+t:Nat):Int):=(by omega);subst ex;refine Ev.up ?_;simp only[G.aa6.L2,ahC];refine Ev.ct (decide_eq_true (by omega)) (Ev.bind (T.strconv_Itoa (by omega)) (Ev.bind (T.aci (by omega)) (Ev.bind (T.agD MH afT (by simp;omega) (by show z.length<=_;omega)) ?_)));rw[wrap_in (by omega) (by omega)];refine(ih _ _ (by omega) rfl (by simp;omega)).eq ?_;rw[aeO,aeA,aeh,qG];simp[ahS,Gn,YN]
theorem T.afW.L1 (hs:∀x y q D,q.length+d<=100->D.list.length+3000000*d<=99000000->Shape d x=true->Shape d y=true->Ev (λf=>G.abD f D x y q) (o7.mk (D.list++(ad8 d x y).map (YN q)))) :
 ∀(t i:Nat) (z:List tC),i+t=min a.Kids.length b.Kids.length->z.length+300000*t+3000000*d<=99000000 ->
 Ev (λf=>G.aa6.L1 f a b p (i:Int) z) (o7.mk (z++((mJ i t).flatMap (gL (ad8 d) a b)++((mJ (min a.Kids.length b.Kids.length) (a.Kids.length-min a.Kids.length b.Kids.length)).reverse.map ahS ++
 (mJ (min a.Kids.length b.Kids.length) (b.Kids.length-min a.Kids.length b.Kids.length)).map (aho b))).map (YN p))):=by
 have h6:=Cf ha;have h7:=Cf hb;intro t
 induction t with
 | zero=>intro i z hi hz;refine Ev.up ?_;have w:ah .i64 ((a.Kids.length:Int)-1)=(a.Kids.length:Int)-1:=wrap_in (by omega) (by omega);simp only[G.aa6.L1,ahC,w];exact Ev.cf (decide_eq_false (by omega)) ((T.afW.L2 hd hp ha hb (a.Kids.length-min a.Kids.length b.Kids.length) _ z (by omega) (by omega) (by omega)).eq (by simp))
 | succ t ih=>intro i z hi hz;have hx:=Js ha (show i<a.Kids.length by omega);have hy:=Js hb (show i<b.Kids.length by omega);have hl:=agv (by omega) hx hy;refine Ev.up ?_;simp only[G.aa6.L1,ahC,ak,iP (show i+1<9223372036854775808 by omega)];refine Ev.ct (decide_eq_true (by omega)) (Ev.chk (by omega) (Ev.chk (by omega) (Ev.bind (T.strconv_Itoa (by omega)) (Ev.bind (T.aci (by omega)) (Ev.bind (hs _ _ _ _ (by simp;omega) (by show z.length+_<=_;omega) hx hy) ?_)))));refine(ih (i+1) _ (by omega) (by show(z++aT _ _).length+_+_<=_;rw[iM,nX];omega)).eq ?_;rw[uO,mX];simp only[gL,mG,ahX,qM]
end
theorem T.visit : ∀(d:Nat) {a b:ai} {p:List gB} {D:o7},d<=5->p.length+d<=100->D.list.length+3000000*d<=99000000->Shape d a=true->Shape d b=true->Ev (λf=>G.abD f D a b p) (o7.mk (D.list++(ad8 d a b).map (YN p)))
 |0,_,_,_,_,_,_,_,h,_=>by cases h
 | d+1,a,b,p,D,hd,hp,hD,ha,hb=>by
   have h6:=Cf ha;have h7:=Cf hb;obtain⟨v,gs,hv⟩:=T.lW ha hb;have hrec:=λ(x y:ai) (q:List gB) (D':o7) (hq:q.length+d<=100) (hD':D'.list.length+3000000*d<=99000000) (hx:Shape d x=true) (hy:Shape d y=true)=>T.visit d (p:=q) (D:=D') (by omega) (by omega) hD' hx hy;have one:Ev (λf=>iV (G.aa8 f D 3 p b) λv=>some v) (o7.mk (D.list++[tC.mk 3 [] [] b].map (YN p))):=Ev.bind (T.agD MH (AZ hb) (by omega) (by omega)) (Ev.ret' (by simp[YN]));refine Ev.up ?_;simp only[G.abD];rw[afD];refine Ev.bind gs ?_;by_cases e:a=b
   ·rw[if_pos e];exact Ev.ct (hv.2 e) (Ev.ret' (by simp))
   rw[if_neg e];refine Ev.cf (ahU hv e) ?_;have k3:Ev (λf=>cond (a.Kind==3) (cond (b.Kind==3) (iV (G.aa6 f D a b p) λv=>some v) (iV (G.aa8 f D 3 p b) λv=>some v)) (iV (G.aa8 f D 3 p b) λv=>some v))
    (o7.mk (D.list++(if a.Kind=3/\b.Kind=3 then age (ad8 d) a b else [tC.mk 3 [] [] b]).map (YN p))):=by
    refine Ev.ite (λka=>?_) (λka=>?_)
    ·have ka':a.Kind=3:=(by simpa using ka);refine Ev.ite (λkb=>?_) (λkb=>?_)
     ·have kb':b.Kind=3:=(by simpa using kb);rw[if_pos ⟨ka',kb'⟩,ahe];refine Ev.bind (Ev.up ?_) (Ev.ret _);simp only[G.aa6];exact T.afW.L1 (by omega) (by omega) ha hb hrec (min a.Kids.length b.Kids.length) 0 _ (by omega) (by omega)
     ·have kb':¬b.Kind=3:=(by simpa using kb);rw[if_neg (λh=>kb' h.2)];exact one
    ·have ka':¬a.Kind=3:=(by simpa using ka);rw[if_neg (λh=>ka' h.1)];exact one
   refine Ev.ite (λka=>?_) (λka=>?_)
   ·have ka':a.Kind=4:=(by simpa using ka);refine Ev.ite (λkb=>?_) (λkb=>?_)
    ·have kb':b.Kind=4:=(by simpa using kb);rw[if_pos ⟨ka',kb'⟩,ahA];refine Ev.bind (Ev.up ?_) (Ev.ret _);simp only[G.aa7];exact T.agU.L1 (by omega) (by omega) ha hb (agz (nO ha) ka').1 (agz (nO hb) kb').1 hrec a.Kids.length 0 _ (by omega) (by omega)
    ·have kb':¬b.Kind=4:=(by simpa using kb);rw[if_neg (λh=>kb' h.2)];exact k3
   ·have ka':¬a.Kind=4:=(by simpa using ka);rw[if_neg (λh=>ka' h.1)];exact k3
end
section
noncomputable def agJ (a b:ai):List tC×Bool:=if Val a&&Val b then(if(aeg a (ad8 5 a b)).isSome then(ad8 5 a b,true)else([],false))else([],false)
theorem ah4 {d:Nat}{o:tC}(hd:d<=5)(h:aie d o):aif o:=by refine⟨5,⟨by have:=h.len;omega,λs hs=>by have:=h.txt s hs;omega⟩,?_,h.val.mono (by omega) (aA _)⟩;rw[h.wu];exact⟨by simp,λs hs=>by cases hs⟩
theorem agR {a b:ai}(ha:Val a=true)(hb:Val b=true):ag1 (ad8 5 a b):=by have:=agQ 5 (uf ha) (uf hb);have:=WW ha;exact⟨by omega,λo ho=>ah4 (aA _) (agB 5 (by omega) (uf ha) (uf hb) ho)⟩
theorem aiR {l:List tC}(h:∀o,o∈l->o.From=[]):l.map (YN [])=l:=by
 have:l.map (YN [])=l.map id:=List.map_congr_left (λo ho=>by have:=h o ho;cases o;simp only at this;subst this;rfl)
 rw[this,List.map_id]
theorem ajo {a b:ai}(ha:Val a=true)(hb:Val b=true):Ev (λf=>G.abD f (o7.mk []) a b []) (o7.mk (ad8 5 a b)):=by refine(T.visit 5 (by omega) (by simp) (by simp) (uf ha) (uf hb)).eq ?_;rw[aiR (λo ho=>(agB 5 (by omega) (uf ha) (uf hb) ho).wu)];rfl
section
variable {B D E:Nat} {a b:ai} (hB:B<=lim) (ha:Fine B D a) (hb:Fine B E b)
include hB ha hb
theorem T.aco : Ev (λf=>G.aco f a b) (agJ a b):=by
 refine Ev.up ?_;simp only[G.aco];unfold agJ;refine Ev.bind (T.cu hB ha) (Ev.ite (λe1=>?_) (λe1=>Ev.ret' (by rw[e1];rfl)));refine Ev.bind (T.cu hB hb) (Ev.ite (λe2=>?_) (λe2=>Ev.ret' (by rw[e1,e2];rfl)));refine Ev.up ?_;simp only[G.aco.K1];rw[e1,e2];refine Ev.bind (ajo e1 e2) (Ev.bind (T.acr hB ha (agR e1 e2)) ?_);cases aeg a (ad8 5 a b)with
 |none=>exact Ev.cf rfl (Ev.ret _)
 |some m=>exact Ev.ct rfl (Ev.ret _)
theorem T.adi : Ev (λf=>G.adi f a b) (agJ a b):=by
 refine Ev.up ?_;simp only[G.adi];unfold agJ;refine Ev.bind (T.fZ hB ha) (Ev.ite (λe1=>?_) (λe1=>Ev.ret' (by rw[e1];rfl)));refine Ev.bind (T.fZ hB hb) (Ev.ite (λe2=>?_) (λe2=>Ev.ret' (by rw[e1,e2];rfl)));rw[e1,e2];refine Ev.bind (T.ad5 5 (by omega) (uf e1) (uf e2)) (Ev.bind (T.mV (agR e1 e2)) ?_);refine Ev.ite (λe3=>?_) (λe3=>Ev.ret' ?_)
 ·refine Ev.bind (T.aba hB ha (agR e1 e2)) ?_;cases aeg a (ad8 5 a b)with
  |none=>exact Ev.cf rfl (Ev.ret _)
  |some m=>exact Ev.ct rfl (Ev.ret _)
 ·have:aeg a (ad8 5 a b)=none:=by unfold aeg;rw[e1,e3];rfl
  rw[this];rfl
end
structure Dif (a b:ai):Prop where
 va:Val a=true
 vb:Val b=true
 run:aeg a (ad8 5 a b)=some b
 is:agJ a b=(ad8 5 a b,true)
 pat:acU (ad8 5 a b)=true
theorem ah5 (a b:ai):agJ a b=([],false)\/Dif a b:=by
 cases h:Val a&&Val b with
 |false=>exact .inl (by unfold agJ;rw[h];rfl)
 | true=>
   obtain⟨va,vb⟩:Val a=true/\Val b=true:=(by simpa using h);cases hp:aeg a (ad8 5 a b)with
   |none=>exact .inl (by unfold agJ;rw[h,hp];rfl)
   | some m=>refine .inr ?_;obtain⟨_,hv,hr,_⟩:=ahH hp;have:=ag8 hr;rw[ag3 5 (uf va) (uf vb)]at this;have e:=yO this;subst e;exact⟨va,vb,hp,by unfold agJ;rw[h,hp];rfl,hv⟩
end
theorem ag5 {K:Nat} : ∀{l:List tC},(∀o,o∈l->mkO o+1<=K)->aea l<=K*l.length
 |[],_=>by simp[aea]
 | o::r,h=>by have h1:=h o (List.mem_cons_self ..);have h2:=ag5 (l:=r) λx hx=>h x (bW _ hx);simp only[aea,List.length_cons,Nat.mul_succ];omega
theorem ahZ {o:tC}(h:Rn o=true):DF 12 5 o/\mkO o+1<=500:=by have fo:=E5 h;have p1:=rC fo.path;have p2:=rC fo.from_;have hv:=acj fo.val;have hm:=Jk o.Value;have a1:=p1.1;have a2:=p2.1;exact⟨⟨⟨by omega,p1.2⟩,⟨by omega,p2.2⟩,(lg fo.val).fin0⟩,by unfold mkO;unfold NW at hv;omega⟩
theorem aiq {l:List tC}(h:acU l=true):aiH l:=by obtain⟨h1,h2⟩:=ag6 h;have:=ag5 (K:=500) (l:=l) λo ho=>(ahZ (h1 o ho)).2;exact⟨by unfold lim;omega,λo ho=>(ahZ (h1 o ho)).1,by omega⟩
section
theorem aij (a b:ai):aiH (agJ a b).1:=by
 rcases ah5 a b with h|h
 ·rw[h];exact ag9
 ·rw[h.is];exact aiq h.pat
section
variable {B D E:Nat} {a b:ai} (hB:B<=lim) (ha:tu B D a) (hb:tu B E b)
include hB ha hb
theorem T0.aco : Ev (λf=>G.aco f a b) (agJ a b):=by
 by_cases hv:(Val a&&Val b)=true
 ·have hv':=hv;simp only[af]at hv';exact T.aco (B:=12) (D:=5) (E:=5) (by decide) (lg hv'.1) (lg hv'.2)
 refine Ev.up ?_;simp only[G.aco];unfold agJ;rw[if_neg hv];refine Ev.bind (T0.cu hB ha) (Ev.ite (λe1=>?_) (λe1=>Ev.ret' rfl));refine Ev.bind (T0.cu hB hb) (Ev.ite (λe2=>?_) (λe2=>Ev.ret' rfl));exact absurd (by rw[e1,e2];rfl) hv
theorem T0.adi : Ev (λf=>G.adi f a b) (agJ a b):=by
 by_cases hv:(Val a&&Val b)=true
 ·have hv':=hv;simp only[af]at hv';exact T.adi (B:=12) (D:=5) (E:=5) (by decide) (lg hv'.1) (lg hv'.2)
 refine Ev.up ?_;simp only[G.adi];unfold agJ;rw[if_neg hv];refine Ev.bind (T0.fZ hB ha) (Ev.ite (λe1=>?_) (λe1=>Ev.ret' rfl));refine Ev.bind (T0.fZ hB hb) (Ev.ite (λe2=>?_) (λe2=>Ev.ret' rfl));exact absurd (by rw[e1,e2];rfl) hv
end
end
theorem F.adw {n:Nat} : ∀{jL r},G.adw n jL=some r->fD pZ 109 [.one (wT jL)] (.one (wT r)):=by
 intro jL r h;refine dB K.adw (tJ ?_);unfold C.adw;rcases n with _|n<;>simp only[G.adw,reduceCtorEq]at h;have z:=pp () <|pp () <|pp () <|pp () <|pp () <|pp () <|()
 exact uG
theorem F.aa8 {n:Nat} : ∀{aei:o7} {afy:Int} {au:List gB} {dM:ai} {r:o7},G.aa8 n aei afy au dM=some r->nN pZ 86 [.one (.ptr 0 0),.one (.c (.lit (.int .i64 afy))),.one (.c (.sl 1 (aT cS au))),.agg [.c (.lit (.int .i64 dM.Kind)),.c (.lit (.int .i64 dM.Num)),.c (.str dM.Text),.c (.sl 1 (aT cS dM.Names)),.c (.sl 5 (aT ai.cells dM.Kids))]] [.var [.own 1 aei.list.length 8],.dat 8 (aT tC.cells aei.list)] (λr1 b1=>r1 = .wF []/\b1=[.var [.own 2 r.list.length 8],.dead,.dat 8 (aT tC.cells r.list)]):=by
 intro aei afy au dM r h;refine vI K.aa8 (tJ ?_);unfold C.aa8;rcases n with _|n<;>simp only[G.aa8,reduceCtorEq]at h;have z:=pp (pp @F.adw <|pp @F.aO ()) <|pp () <|pp () <|pp () <|pp () <|pp () <|(pp (@FB [] [(0,0),(1,1),(2,12)] []) ())
 exact uG
theorem F.aci {n:Nat} : ∀{au fK r},G.aci n au fK=some r->fD pZ 108 [.one (wT au),.one (wS fK)] (.one (wT r)):=by
 intro au fK r h;refine dB K.aci (tJ ?_);unfold C.aci;rcases n with _|n<;>simp only[G.aci,reduceCtorEq]at h;have z:=pp () <|pp () <|pp () <|pp () <|pp () <|pp () <|()
 exact uG
theorem F.afU : ∀(n:Nat),(∀{aei:o7} {bD:ai} {fU:ai} {au:List gB} {r:o7},G.abD n aei bD fU au=some r->nN pZ 59 [.one (.ptr 0 0),.agg [.c (.lit (.int .i64 bD.Kind)),.c (.lit (.int .i64 bD.Num)),.c (.str bD.Text),.c (.sl 1 (aT cS bD.Names)),.c (.sl 5 (aT ai.cells bD.Kids))],.agg [.c (.lit (.int .i64 fU.Kind)),.c (.lit (.int .i64 fU.Num)),.c (.str fU.Text),.c (.sl 1 (aT cS fU.Names)),.c (.sl 5 (aT ai.cells fU.Kids))],.one (.c (.sl 1 (aT cS au)))] [.var [.own 1 aei.list.length 8],.dat 8 (aT tC.cells aei.list)] (λr1 b1=>r1 = .wF []/\b1=[.var [.own 2 r.list.length 8],.dead,.dat 8 (aT tC.cells r.list)]))/\(∀{aei:o7} {bD:ai} {fU:ai} {au:List gB} {r:o7},G.aa6 n aei bD fU au=some r->nN pZ 85 [.one (.ptr 0 0),.agg [.c (.lit (.int .i64 bD.Kind)),.c (.lit (.int .i64 bD.Num)),.c (.str bD.Text),.c (.sl 1 (aT cS bD.Names)),.c (.sl 5 (aT ai.cells bD.Kids))],.agg [.c (.lit (.int .i64 fU.Kind)),.c (.lit (.int .i64 fU.Num)),.c (.str fU.Text),.c (.sl 1 (aT cS fU.Names)),.c (.sl 5 (aT ai.cells fU.Kids))],.one (.c (.sl 1 (aT cS au)))] [.var [.own 1 aei.list.length 8],.dat 8 (aT tC.cells aei.list)] (λr1 b1=>r1 = .wF []/\b1=[.var [.own 2 r.list.length 8],.dead,.dat 8 (aT tC.cells r.list)]))/\(∀{aei:o7} {bD:ai} {fU:ai} {au:List gB} {r:o7},G.aa7 n aei bD fU au=some r->nN pZ 84 [.one (.ptr 0 0),.agg [.c (.lit (.int .i64 bD.Kind)),.c (.lit (.int .i64 bD.Num)),.c (.str bD.Text),.c (.sl 1 (aT cS bD.Names)),.c (.sl 5 (aT ai.cells bD.Kids))],.agg [.c (.lit (.int .i64 fU.Kind)),.c (.lit (.int .i64 fU.Num)),.c (.str fU.Text),.c (.sl 1 (aT cS fU.Names)),.c (.sl 5 (aT ai.cells fU.Kids))],.one (.c (.sl 1 (aT cS au)))] [.var [.own 1 aei.list.length 8],.dat 8 (aT tC.cells aei.list)] (λr1 b1=>r1 = .wF []/\b1=[.var [.own 2 r.list.length 8],.dead,.dat 8 (aT tC.cells r.list)])):=by
 intro n
 induction n using eU with|_ n ih=>
 refine⟨?_,?_,?_⟩
 ·intro aei bD fU au r h;refine vI K.abD (tJ ?_);unfold C.abD;rcases n with _|n<;>simp only[G.abD,reduceCtorEq]at h;have z:=pp (pp @F.lW ()) <|pp (pp (pp (ihR (ihR ih)) (@cG [0,1] [101])) <|pp (pp (ihL (ihR ih)) (@cG [0,1] [102])) <|pp (pp (ihL (ihR ih)) (@cG [0,1] [105])) <|pp (pp @F.aa8 (@cG [0,1] [103])) <|pp (pp @F.aa8 (@cG [0,1] [104])) <|pp (pp @F.aa8 (@cG [0,1] [106])) <|pp (pp @F.aa8 (@cG [0,1] [107])) ()) <|pp () <|pp () <|pp () <|pp () <|(pp (@FB [] [(0,0),(1,1),(2,1)] []) <|pp (@FB [] [(0,0),(1,1),(2,101)] []) <|pp (@FB [] [(0,0),(1,1),(2,102)] []) <|pp (@FB [] [(0,0),(1,1),(2,103)] []) <|pp (@FB [] [(0,0),(1,1),(2,104)] []) <|pp (@FB [] [(0,0),(1,1),(2,105)] []) <|pp (@FB [] [(0,0),(1,1),(2,106)] []) <|pp (@FB [] [(0,0),(1,1),(2,107)] []) ())
  exact uG
 ·intro aei bD fU au r h;refine vI K.aa6 (tJ ?_);unfold C.aa6;rcases n with _|n<;>simp only[G.aa6,reduceCtorEq]at h;have z:=pp (pp @F.strconv_Itoa <|pp @F.aci ()) <|pp (pp (pp (ihL ih) (@cG [0,110] [111])) <|pp (pp @F.aa8 (@cH [0,119] [120])) <|pp (pp @F.aa8 (@cG [0,128] [129])) ()) <|pp (pp (@wX (Int×List tC) _ (λn x=>G.aa6.L1 n bD fU au x.1 x.2) r (λx=>dP.of [(0,.v true (.one (.ptr 0 0))),(3,.v true (.one (.c (.sl 1 (aT cS au))))),(5,.v true (.one (.ptr 108 0))),(6,.v true (.one (.ptr 109 0))),(8,.v true (.one (.c (.lit (.int .i64 (if(fU.Kids.length:Int)<(bD.Kids.length:Int)then(fU.Kids.length:Int)else(bD.Kids.length:Int))))))),(19,.v true (.one (.c (.lit (.int .i64 (if(fU.Kids.length:Int)<(bD.Kids.length:Int)then(fU.Kids.length:Int)else(bD.Kids.length:Int))))))),(20,.v true (.one (.c (.lit (.int .i64 x.1)))))] [(0,.var [.own 110 x.2.length 8]),(1,.dead),(108,.var [.c (.lit (.int .i64 bD.Kind)),.c (.lit (.int .i64 bD.Num)),.c (.str bD.Text),.c (.sl 1 (aT cS bD.Names)),.c (.sl 5 (aT ai.cells bD.Kids))]),(109,.var [.c (.lit (.int .i64 fU.Kind)),.c (.lit (.int .i64 fU.Num)),.c (.str fU.Text),.c (.sl 1 (aT cS fU.Names)),.c (.sl 5 (aT ai.cells fU.Kids))]),(110,.dat 8 (aT tC.cells x.2))])) <|pp (@wX (Int×List tC) _ (λn x=>G.aa6.L2 n bD fU au x.1 x.2) r (λx=>dP.of [(0,.v true (.one (.ptr 0 0))),(3,.v true (.one (.c (.sl 1 (aT cS au))))),(6,.v true (.one (.ptr 118 0))),(8,.v true (.one (.c (.lit (.int .i64 (if(fU.Kids.length:Int)<(bD.Kids.length:Int)then(fU.Kids.length:Int)else(bD.Kids.length:Int))))))),(10,.v true (.one (.c (.lit (.int .i64 x.1)))))] [(0,.var [.own 119 x.2.length 8]),(1,.dead),(118,.var [.c (.lit (.int .i64 fU.Kind)),.c (.lit (.int .i64 fU.Num)),.c (.str fU.Text),.c (.sl 1 (aT cS fU.Names)),.c (.sl 5 (aT ai.cells fU.Kids))]),(119,.dat 8 (aT tC.cells x.2))])) <|pp (@wX (Int×List tC) _ (λn x=>G.aa6.L3 n fU au x.1 x.2) r (λx=>dP.of [(0,.v true (.one (.ptr 0 0))),(3,.v true (.one (.c (.sl 1 (aT cS au))))),(6,.v true (.one (.ptr 127 0))),(11,.v true (.one (.c (.lit (.int .i64 x.1)))))] [(0,.var [.own 128 x.2.length 8]),(1,.dead),(127,.var [.c (.lit (.int .i64 fU.Kind)),.c (.lit (.int .i64 fU.Num)),.c (.str fU.Text),.c (.sl 1 (aT cS fU.Names)),.c (.sl 5 (aT ai.cells fU.Kids))]),(128,.dat 8 (aT tC.cells x.2))])) ()) <|pp () <|pp (pp (aS @G.aa6.L1.eq_1 <|aS @G.aa6.L1.eq_2 <|aS @G.aa6.L2.eq_1 <|aS @G.aa6.L2.eq_2 <|aS @G.aa6.L3.eq_1 <|@G.aa6.L3.eq_2) ()) <|pp (pp (@kQ [] [(0,0),(1,1),(108,10),(109,11),(110,1)] []) <|pp (@kQ [] [(0,0),(1,1),(108,108),(109,109),(110,111)] []) <|pp (@kQ [] [(0,0),(1,1),(118,109),(119,110)] []) <|pp (@kQ [] [(0,0),(1,1),(118,118),(119,120)] []) <|pp (@kQ [] [(0,0),(1,1),(127,118),(128,119)] []) <|pp (@kQ [] [(0,0),(1,1),(127,127),(128,129)] []) ()) <|(pp (@FB [] [(0,0),(1,1),(2,128)] []) ())
  exact uG
 ·intro aei bD fU au r h;refine vI K.aa7 (tJ ?_);unfold C.aa7;rcases n with _|n<;>simp only[G.aa7,reduceCtorEq]at h;have z:=pp (pp @F.slices_BinarySearch_string <|pp @F.aci ()) <|pp (pp (pp (ihL ih) (@cG [0,112] [113])) <|pp (pp @F.aa8 (@cH [0,112] [114])) <|pp (pp @F.aa8 (@cG [0,125] [126])) ()) <|pp (pp (@wX (Int×List tC) _ (λn x=>G.aa7.L1 n bD fU au x.1 x.2) r (λx=>dP.of [(0,.v true (.one (.ptr 0 0))),(3,.v true (.one (.c (.sl 1 (aT cS au))))),(5,.v true (.one (.ptr 110 0))),(6,.v true (.one (.ptr 111 0))),(17,.v true (.one (.c (.sl 1 (aT cS bD.Names))))),(18,.v true (.one (.c (.lit (.int .i64 (bD.Names.length:Int)))))),(19,.v true (.one (.c (.lit (.int .i64 x.1)))))] [(0,.var [.own 112 x.2.length 8]),(1,.dead),(110,.var [.c (.lit (.int .i64 bD.Kind)),.c (.lit (.int .i64 bD.Num)),.c (.str bD.Text),.c (.sl 1 (aT cS bD.Names)),.c (.sl 5 (aT ai.cells bD.Kids))]),(111,.var [.c (.lit (.int .i64 fU.Kind)),.c (.lit (.int .i64 fU.Num)),.c (.str fU.Text),.c (.sl 1 (aT cS fU.Names)),.c (.sl 5 (aT ai.cells fU.Kids))]),(112,.dat 8 (aT tC.cells x.2))])) <|pp (@wX (Int×List tC) _ (λn x=>G.aa7.L2 n bD fU au x.1 x.2) r (λx=>dP.of [(0,.v true (.one (.ptr 0 0))),(3,.v true (.one (.c (.sl 1 (aT cS au))))),(5,.v true (.one (.ptr 123 0))),(6,.v true (.one (.ptr 124 0))),(55,.v true (.one (.c (.sl 1 (aT cS fU.Names))))),(56,.v true (.one (.c (.lit (.int .i64 (fU.Names.length:Int)))))),(57,.v true (.one (.c (.lit (.int .i64 x.1)))))] [(0,.var [.own 125 x.2.length 8]),(1,.dead),(123,.var [.c (.lit (.int .i64 bD.Kind)),.c (.lit (.int .i64 bD.Num)),.c (.str bD.Text),.c (.sl 1 (aT cS bD.Names)),.c (.sl 5 (aT ai.cells bD.Kids))]),(124,.var [.c (.lit (.int .i64 fU.Kind)),.c (.lit (.int .i64 fU.Num)),.c (.str fU.Text),.c (.sl 1 (aT cS fU.Names)),.c (.sl 5 (aT ai.cells fU.Kids))]),(125,.dat 8 (aT tC.cells x.2))])) ()) <|pp () <|pp (pp (aS @G.aa7.L1.eq_1 <|aS @G.aa7.L1.eq_2 <|aS @G.aa7.L2.eq_1 <|@G.aa7.L2.eq_2) ()) <|pp (pp (@kQ [] [(0,0),(1,1),(110,10),(111,11),(112,1)] []) <|pp (@kQ [] [(0,0),(1,1),(110,110),(111,111),(112,113)] []) <|pp (@kQ [] [(0,0),(1,1),(110,110),(111,111),(112,114)] []) <|pp (@kQ [] [(0,0),(1,1),(123,110),(124,111),(125,112)] []) <|pp (@kQ [] [(0,0),(1,1),(123,123),(124,124),(125,125)] []) <|pp (@kQ [] [(0,0),(1,1),(123,123),(124,124),(125,126)] []) ()) <|(pp (@FB [] [(0,0),(1,1),(2,125)] []) ())
  exact uG
theorem F.abD {n:Nat} : ∀{aei:o7} {bD:ai} {fU:ai} {au:List gB} {r:o7},G.abD n aei bD fU au=some r->nN pZ 59 [.one (.ptr 0 0),.agg (wN bD),.agg (wN fU),.one (wT au)] [.var [.own 1 aei.list.length 8],.dat 8 (aT tC.cells aei.list)] (λr1 b1=>r1 = .wF []/\b1=[.var [.own 2 r.list.length 8],.dead,.dat 8 (aT tC.cells r.list)]):=(F.afU n).1
theorem F.aco {n:Nat} : ∀{bD fU r},G.aco n bD fU=some r->fD pZ 28 [.agg (wN bD),.agg (wN fU)] (.wF [(false,[.c (.sl 8 (aT tC.cells r.1))]),(false,[.c (.lit (.bool r.2))])]):=by
 intro bD fU r h;refine dB K.aco (tJ ?_);unfold C.aco;rcases n with _|n<;>simp only[G.aco,reduceCtorEq]at h;have z:=pp (pp @F.cu <|pp @F.acr ()) <|pp (pp (pp @F.abD (@cH [103,104] [105])) ()) <|pp () <|pp (pp (@P8 (Unit) _ (λn x=>G.aco.K1 n bD fU) r (λx=>dP.of [eP 2 101,eP 3 102,eP 6 103] [(101,.var (wN bD)),(102,.var (wN fU)),(103,.var [.own 104 0 8]),(104,.dat 8 (aT tC.cells []))])) ()) <|pp (pp (aS @G.aco.K1.eq_1 <|@G.aco.K1.eq_2) ()) <|pp (pp (@kQ [] [(101,10),(102,11),(103,12)] [104]) ()) <|()
 exact uG
theorem F.adS {n:Nat} : ∀{afy au dM r},G.adS n afy au dM=some r->fD pZ 83 [.one (wI afy),.one (wT au),.agg (wN dM)] (.agg [wI r.Kind,wT r.Path,wT r.From,wI r.Value.Kind,wI r.Value.Num,wS r.Value.Text,wT r.Value.Names,wK r.Value.Kids]):=by
 intro afy au dM r h;refine dB K.adS (tJ ?_);unfold C.adS;rcases n with _|n<;>simp only[G.adS,reduceCtorEq]at h;have z:=pp (pp @F.bC ()) <|pp () <|pp () <|pp () <|pp () <|pp () <|()
 exact uG
theorem F.ac7 {n:Nat} : ∀{fK jL r},G.ac7 n fK jL=some r->fD pZ 106 [.one (wS fK),.one (.c (.sl 8 (aT tC.cells jL)))] (.one (.c (.sl 8 (aT tC.cells r)))):=by
 intro fK jL r h;refine dB K.ac7 (tJ ?_);unfold C.ac7;rcases n with _|n<;>simp only[G.ac7,reduceCtorEq]at h;have z:=pp () <|pp () <|pp (pp (@wX (Int×List tC) _ (λn x=>G.ac7.L1 n fK jL x.1 x.2) r (λx=>dP.of [eS 0 fK,(1,.v true (.one (.c (.sl 8 (aT tC.cells jL))))),(5,.v true (.one (.own 103 x.2.length 8))),eI 6 x.1] [(103,.dat 8 (aT tC.cells x.2))])) ()) <|pp () <|pp (pp (aS @G.ac7.L1.eq_1 <|@G.ac7.L1.eq_2) ()) <|pp (pp (@kQ [] [(103,10)] []) <|pp (@kQ [] [(103,15)] []) ()) <|()
 exact uG
theorem F.ahb : ∀(n:Nat),(∀{bD fU r},G.ad5 n bD fU=some r->fD pZ 58 [.agg (wN bD),.agg (wN fU)] (.one (.c (.sl 8 (aT tC.cells r)))))/\(∀{bD fU r},G.aa9 n bD fU=some r->fD pZ 82 [.agg (wN bD),.agg (wN fU)] (.one (.c (.sl 8 (aT tC.cells r)))))/\(∀{bD fU r},G.abU n bD fU=some r->fD pZ 81 [.agg (wN bD),.agg (wN fU)] (.one (.c (.sl 8 (aT tC.cells r))))):=by
 intro n
 induction n using eU with|_ n ih=>
 refine⟨?_,?_,?_⟩
 ·intro bD fU r h;refine dB K.ad5 (tJ ?_);unfold C.ad5;rcases n with _|n<;>simp only[G.ad5,reduceCtorEq]at h;have z:=pp (pp ((ihR (ihR ih))) <|pp ((ihL (ihR ih))) <|pp @F.rD <|pp @F.adS ()) <|pp () <|pp () <|pp () <|pp () <|pp () <|()
  exact uG
 ·intro bD fU r h;refine dB K.aa9 (tJ ?_);unfold C.aa9;rcases n with _|n<;>simp only[G.aa9,reduceCtorEq]at h;have z:=pp (pp ((ihL ih)) <|pp @F.ji <|pp @F.ac7 <|pp @F.adS ()) <|pp () <|pp (pp (@wX (Int×List tC) _ (λn x=>G.aa9.L1 n bD fU x.1 x.2) r (λx=>dP.of [eP 2 107,eP 3 108,(5,.v true (.one (.own 109 x.2.length 8))),eI 6 (if(fU.Kids.length:Int)<(bD.Kids.length:Int)then(fU.Kids.length:Int)else(bD.Kids.length:Int)),eI 7 x.1] [(107,.var (wN bD)),(108,.var (wN fU)),(109,.dat 8 (aT tC.cells x.2))])) <|pp (@wX (Int×List tC) _ (λn x=>G.aa9.L2 n bD fU x.1 x.2) r (λx=>dP.of [eP 3 114,(5,.v true (.one (.own 115 x.2.length 8))),eI 6 (if(fU.Kids.length:Int)<(bD.Kids.length:Int)then(fU.Kids.length:Int)else(bD.Kids.length:Int)),eI 8 x.1] [(114,.var (wN fU)),(115,.dat 8 (aT tC.cells x.2))])) <|pp (@wX (Int×List tC) _ (λn x=>G.aa9.L3 n fU x.1 x.2) r (λx=>dP.of [eP 3 120,(5,.v true (.one (.own 121 x.2.length 8))),eI 9 x.1] [(120,.var (wN fU)),(121,.dat 8 (aT tC.cells x.2))])) ()) <|pp () <|pp (pp (aS @G.aa9.L1.eq_1 <|aS @G.aa9.L1.eq_2 <|aS @G.aa9.L2.eq_1 <|aS @G.aa9.L2.eq_2 <|aS @G.aa9.L3.eq_1 <|@G.aa9.L3.eq_2) ()) <|pp (pp (@kQ [] [(107,10),(108,11),(109,12)] []) <|pp (@kQ [] [(107,107),(108,108),(109,13)] []) <|pp (@kQ [] [(114,108),(115,109)] []) <|pp (@kQ [] [(114,114),(115,16)] []) <|pp (@kQ [] [(120,114),(121,115)] []) <|pp (@kQ [] [(120,120),(121,19)] []) ()) <|()
  exact uG
 ·intro bD fU r h;refine dB K.abU (tJ ?_);unfold C.abU;rcases n with _|n<;>simp only[G.abU,reduceCtorEq]at h;have z:=pp (pp ((ihL ih)) <|pp @F.fO <|pp @F.adS <|pp @F.ac7 ()) <|pp () <|pp (pp (@wX (Int×List tC) _ (λn x=>G.abU.L1 n bD fU x.1 x.2) r (λx=>dP.of [eP 2 107,eP 3 108,(5,.v true (.one (.own 109 x.2.length 8))),eI 6 x.1] [(107,.var (wN bD)),(108,.var (wN fU)),(109,.dat 8 (aT tC.cells x.2))])) <|pp (@wX (Int×List tC) _ (λn x=>G.abU.L2 n bD fU x.1 x.2) r (λx=>dP.of [eP 2 116,eP 3 117,(5,.v true (.one (.own 118 x.2.length 8))),eI 8 x.1] [(116,.var (wN bD)),(117,.var (wN fU)),(118,.dat 8 (aT tC.cells x.2))])) ()) <|pp () <|pp (pp (aS @G.abU.L1.eq_1 <|aS @G.abU.L1.eq_2 <|aS @G.abU.L2.eq_1 <|@G.abU.L2.eq_2) ()) <|pp (pp (@kQ [] [(107,10),(108,11),(109,12)] []) <|pp (@kQ [] [(107,107),(108,108),(109,15)] []) <|pp (@kQ [] [(107,107),(108,108),(109,16)] []) <|pp (@kQ [] [(116,107),(117,108),(118,109)] []) <|pp (@kQ [] [(116,116),(117,117),(118,19)] []) <|pp (@kQ [] [(116,116),(117,117),(118,118)] []) ()) <|()
  exact uG
theorem F.ad5 {n:Nat} : ∀{bD:ai} {fU:ai} {r:List tC},G.ad5 n bD fU=some r->fD pZ 58 [.agg (wN bD),.agg (wN fU)] (.one (.c (.sl 8 (aT tC.cells r)))):=(F.ahb n).1
theorem F.adi {n:Nat} : ∀{bD fU r},G.adi n bD fU=some r->fD pZ 27 [.agg (wN bD),.agg (wN fU)] (.wF [(false,[.c (.sl 8 (aT tC.cells r.1))]),(false,[.c (.lit (.bool r.2))])]):=by
 intro bD fU r h;refine dB K.adi (tJ ?_);unfold C.adi;rcases n with _|n<;>simp only[G.adi,reduceCtorEq]at h;have z:=pp (pp @F.fZ <|pp @F.ad5 <|pp @F.mV <|pp @F.aba ()) <|pp () <|pp () <|pp () <|pp () <|pp () <|()
 exact uG
end Go.Ab
section
namespace Go.Ab
open Go
def C.adR : dD:=(.seq (.reg [ ⟨none,some 2,.op (.box 10 (.t 0))⟩,⟨none,some 3,.op (.box 11 (.t 1))⟩,⟨none,some 4,.op (.mv (.k (.c (.lit (.bool false)))))⟩] [2,3]) (.seq (.reg [ ⟨none,some 5,.op (.mv (.k (.c (.lit (.int .i64 1048576)))))⟩] [2,3,5]) (.seq (.reg [ ⟨none,some 17,.op (.load true 5 (.t 2))⟩,⟨none,some 18,.op (.mv (.t 5))⟩,⟨none,some 19,.call 7 [.t 17,.t 18]⟩,⟨none,some 5,.op (.mv (.t 19))⟩] [2,3,5]) (.seq (.seq (.reg [ ⟨none,some 20,.op (.mv (.t 5))⟩,⟨none,some 21,.op (.bin .lss (.t 20) (.k (.c (.lit (.int .i64 0)))))⟩] [2,3,5,21]) (.cond (.t 21) (.seq (.reg [ ⟨none,some 4,.op (.mv (.k (.c (.lit (.bool true)))))⟩] [4]) .ret) .skip)) (.seq (.reg [ ⟨none,some 22,.op (.load true 5 (.t 3))⟩,⟨none,some 23,.op (.mv (.t 5))⟩,⟨none,some 24,.call 7 [.t 22,.t 23]⟩,⟨none,some 5,.op (.mv (.t 24))⟩] [2,3,5]) (.seq (.seq (.reg [ ⟨none,some 25,.op (.mv (.t 5))⟩,⟨none,some 26,.op (.bin .lss (.t 25) (.k (.c (.lit (.int .i64 0)))))⟩] [2,3,26]) (.cond (.t 26) (.seq (.reg [ ⟨none,some 4,.op (.mv (.k (.c (.lit (.bool true)))))⟩] [4]) .ret) .skip)) (.seq (.qp [ (⟨none,some 28,.op (.load true 5 (.t 2))⟩,[]),(⟨none,some 29,.call 10 [.t 28]⟩,[0]),(⟨none,some 30,.op (.load true 5 (.t 3))⟩,[]),(⟨none,some 31,.call 10 [.t 30]⟩,[0,1,2]),(⟨none,some 32,.call 27 [.t 29,.t 31]⟩,[0,1,2,3]),(⟨none,some 27,.op (.mv (.t 32))⟩,[0,1,2,3,4]),(⟨none,some 33,.op (.extract (.t 27) 0)⟩,[0,1,2,3,4,5]),(⟨none,some 34,.op (.extract (.t 27) 1)⟩,[0,1,2,3,4,5]),(⟨none,some 6,.op (.mv (.t 33))⟩,[0,1,2,3,4,5,6]),(⟨none,some 7,.op (.mv (.t 34))⟩,[0,1,2,3,4,5,6,7,8])] [2,3,6,7]) (.seq (.reg [ ⟨none,some 35,.op (.load true 5 (.t 2))⟩,⟨none,some 36,.call 10 [.t 35]⟩,⟨none,some 8,.op (.alloc 12 [.c (.lit (.int .i64 0)),.c (.lit (.int .i64 0)),.c (.str []),.xh 1,.xh 5])⟩,⟨none,none,.op (.store true 5 (.t 8) (.t 36))⟩] [2,3,6,7,8]) (.seq (.reg [ ⟨none,some 37,.op (.load true 5 (.t 3))⟩,⟨none,some 38,.call 10 [.t 37]⟩,⟨none,some 9,.op (.alloc 13 [.c (.lit (.int .i64 0)),.c (.lit (.int .i64 0)),.c (.str []),.xh 1,.xh 5])⟩,⟨none,none,.op (.store true 5 (.t 9) (.t 38))⟩] [2,3,6,7,8,9]) (.seq (.reg [ ⟨none,some 40,.op (.load true 5 (.t 8))⟩,⟨none,some 41,.op (.load true 5 (.t 9))⟩,⟨none,some 42,.call 28 [.t 40,.t 41]⟩,⟨none,some 39,.op (.mv (.t 42))⟩,⟨none,some 43,.op (.extract (.t 39) 0)⟩,⟨none,some 44,.op (.extract (.t 39) 1)⟩,⟨none,some 10,.op (.mv (.t 43))⟩,⟨none,some 11,.op (.mv (.t 44))⟩] [2,3,6,7,8,9,10,11]) (.seq (.seq (.reg [ ⟨none,some 45,.op (.mv (.t 10))⟩,⟨none,some 46,.op (.mv (.t 6))⟩,⟨none,some 47,.call 20 [.t 45,.t 46]⟩,⟨none,some 48,.op (.not (.t 47))⟩,⟨none,some 49,.op (.mv (.t 48))⟩,⟨(some (49,false)),some 50,.op (.mv (.t 11))⟩,⟨(some (49,false)),some 51,.op (.mv (.t 7))⟩,⟨(some (49,false)),some 52,.op (.beq true (.t 50) (.t 51))⟩,⟨none,some 53,.op (.pick (.t 49) (.k (.c (.lit (.bool true)))) (.t 52))⟩] [2,3,6,7,8,9,10,11,53]) (.cond (.t 53) (.seq (.reg [ ⟨none,some 4,.op (.mv (.k (.c (.lit (.bool false)))))⟩] [4]) .ret) .skip)) (.seq (.seq (.qp [ (⟨none,some 54,.op (.load true 5 (.t 8))⟩,[]),(⟨none,some 55,.op (.load true 5 (.t 2))⟩,[]),(⟨none,some 56,.call 10 [.t 55]⟩,[1]),(⟨none,some 57,.call 13 [.t 54,.t 56]⟩,[0,1,2]),(⟨none,some 58,.op (.not (.t 57))⟩,[0,1,2,3])] [2,3,6,7,8,9,10,11,58]) (.cond (.t 58) (.seq (.reg [ ⟨none,some 4,.op (.mv (.k (.c (.lit (.bool false)))))⟩] [4]) .ret) .skip)) (.seq (.seq (.qp [ (⟨none,some 59,.op (.load true 5 (.t 9))⟩,[]),(⟨none,some 60,.op (.load true 5 (.t 3))⟩,[]),(⟨none,some 61,.call 10 [.t 60]⟩,[1]),(⟨none,some 62,.call 13 [.t 59,.t 61]⟩,[0,1,2]),(⟨none,some 63,.op (.not (.t 62))⟩,[0,1,2,3])] [2,3,6,7,8,9,10,11,63]) (.cond (.t 63) (.seq (.reg [ ⟨none,some 4,.op (.mv (.k (.c (.lit (.bool false)))))⟩] [4]) .ret) .skip)) (.seq (.reg [ ⟨none,some 12,.op (.mv (.k (.c (.lit (.int .i64 1)))))⟩] [2,3,6,7,8,9,10,11,12]) (.seq (.reg [ ⟨none,some 64,.op (.load true 5 (.t 8))⟩,⟨none,some 65,.op (.mv (.t 12))⟩,⟨none,some 66,.call 15 [.t 64,.t 65]⟩,⟨none,some 12,.op (.mv (.t 66))⟩] [2,3,6,7,9,10,11,12]) (.seq (.reg [ ⟨none,some 67,.op (.load true 5 (.t 9))⟩,⟨none,some 68,.op (.mv (.t 12))⟩,⟨none,some 69,.call 15 [.t 67,.t 68]⟩,⟨none,some 12,.op (.mv (.t 69))⟩] [2,3,6,7,10,11,12]) (.seq (.seq (.reg [ ⟨none,some 70,.op (.mv (.t 12))⟩,⟨none,some 71,.op (.bin .lss (.t 70) (.k (.c (.lit (.int .i64 0)))))⟩,⟨none,some 72,.op (.mv (.t 71))⟩,⟨(some (72,false)),some 73,.op (.mv (.t 10))⟩,⟨(some (72,false)),some 74,.op (.mv (.t 6))⟩,⟨(some (72,false)),some 75,.call 20 [.t 73,.t 74]⟩,⟨(some (72,false)),some 76,.op (.not (.t 75))⟩,⟨none,some 77,.op (.pick (.t 72) (.k (.c (.lit (.bool true)))) (.t 76))⟩,⟨none,some 78,.op (.mv (.t 77))⟩,⟨(some (78,false)),some 79,.op (.mv (.t 11))⟩,⟨(some (78,false)),some 80,.op (.mv (.t 7))⟩,⟨(some (78,false)),some 81,.op (.beq true (.t 79) (.t 80))⟩,⟨none,some 82,.op (.pick (.t 78) (.k (.c (.lit (.bool true)))) (.t 81))⟩] [2,3,6,7,10,82]) (.cond (.t 82) (.seq (.reg [ ⟨none,some 4,.op (.mv (.k (.c (.lit (.bool false)))))⟩] [4]) .ret) .skip)) (.seq (.reg [ ⟨none,some 13,.op (.mv (.k (.c (.lit (.int .i64 1)))))⟩] [2,3,6,7,10,13]) (.seq (.reg [ ⟨none,some 83,.op (.mv (.t 10))⟩,⟨none,some 84,.op (.mv (.t 13))⟩,⟨none,some 85,.call 21 [.t 83,.t 84]⟩,⟨none,some 13,.op (.mv (.t 85))⟩] [2,3,6,7,10,13]) (.seq (.reg [ ⟨none,some 14,.op (.mv (.k (.c (.lit (.int .i64 1)))))⟩] [2,3,6,7,10,13,14]) (.seq (.reg [ ⟨none,some 86,.op (.mv (.t 10))⟩,⟨none,some 87,.op (.mv (.t 14))⟩,⟨none,some 88,.call 22 [.t 86,.t 87]⟩,⟨none,some 14,.op (.mv (.t 88))⟩] [2,3,6,7,10,13,14]) (.seq (.seq (.reg [ ⟨none,some 89,.op (.mv (.t 14))⟩,⟨none,some 90,.op (.bin .lss (.t 89) (.k (.c (.lit (.int .i64 0)))))⟩] [2,3,6,7,10,13,14,90]) (.cond (.t 90) (.seq (.reg [ ⟨none,some 4,.op (.mv (.k (.c (.lit (.bool false)))))⟩] [4]) .ret) .skip)) (.seq (.seq (.reg [ ⟨none,some 91,.op (.mv (.t 14))⟩,⟨none,some 92,.op (.mv (.t 13))⟩,⟨none,some 93,.op (.bin .neq (.t 91) (.t 92))⟩] [2,3,6,7,10,13,93]) (.cond (.t 93) (.seq (.reg [ ⟨none,some 4,.op (.mv (.k (.c (.lit (.bool false)))))⟩] [4]) .ret) .skip)) (.seq (.qp [ (⟨none,some 95,.op (.load true 5 (.t 2))⟩,[]),(⟨none,some 96,.call 10 [.t 95]⟩,[0]),(⟨none,some 97,.op (.load true 5 (.t 3))⟩,[]),(⟨none,some 98,.call 10 [.t 97]⟩,[0,1,2]),(⟨none,some 99,.call 28 [.t 96,.t 98]⟩,[0,1,2,3]),(⟨none,some 94,.op (.mv (.t 99))⟩,[0,1,2,3,4]),(⟨none,some 100,.op (.extract (.t 94) 0)⟩,[0,1,2,3,4,5]),(⟨none,some 101,.op (.extract (.t 94) 1)⟩,[0,1,2,3,4,5]),(⟨none,some 15,.op (.mv (.t 100))⟩,[0,1,2,3,4,5,6]),(⟨none,some 16,.op (.mv (.t 101))⟩,[0,1,2,3,4,5,6,7,8])] [6,7,10,13,15,16]) (.seq (.seq (.reg [ ⟨none,some 102,.op (.mv (.t 15))⟩,⟨none,some 103,.op (.mv (.t 6))⟩,⟨none,some 104,.call 20 [.t 102,.t 103]⟩,⟨none,some 105,.op (.not (.t 104))⟩,⟨none,some 106,.op (.mv (.t 105))⟩,⟨(some (106,false)),some 107,.op (.mv (.t 16))⟩,⟨(some (106,false)),some 108,.op (.mv (.t 7))⟩,⟨(some (106,false)),some 109,.op (.beq true (.t 107) (.t 108))⟩,⟨none,some 110,.op (.pick (.t 106) (.k (.c (.lit (.bool true)))) (.t 109))⟩] [10,13,110]) (.cond (.t 110) (.seq (.reg [ ⟨none,some 4,.op (.mv (.k (.c (.lit (.bool false)))))⟩] [4]) .ret) .skip)) (.seq (.reg [ ⟨none,some 14,.op (.mv (.k (.c (.lit (.int .i64 1)))))⟩] [10,13,14]) (.seq (.reg [ ⟨none,some 111,.op (.mv (.t 10))⟩,⟨none,some 112,.op (.mv (.t 14))⟩,⟨none,some 113,.call 22 [.t 111,.t 112]⟩,⟨none,some 14,.op (.mv (.t 113))⟩] [13,14]) (.seq (.seq (.reg [ ⟨none,some 114,.op (.mv (.t 14))⟩,⟨none,some 115,.op (.bin .lss (.t 114) (.k (.c (.lit (.int .i64 0)))))⟩] [13,14,115]) (.cond (.t 115) (.seq (.reg [ ⟨none,some 4,.op (.mv (.k (.c (.lit (.bool false)))))⟩] [4]) .ret) .skip)) (.seq (.seq (.reg [ ⟨none,some 116,.op (.mv (.t 14))⟩,⟨none,some 117,.op (.mv (.t 13))⟩,⟨none,some 118,.op (.bin .neq (.t 116) (.t 117))⟩] [118]) (.cond (.t 118) (.seq (.reg [ ⟨none,some 4,.op (.mv (.k (.c (.lit (.bool false)))))⟩] [4]) .ret) .skip)) (.seq (.reg [ ⟨none,some 4,.op (.mv (.k (.c (.lit (.bool true)))))⟩] [4]) .ret))))))))))))))))))))))))))))))
noncomputable abbrev xM : Program:=Go.Proofs.Tryz.prog
noncomputable abbrev Bo : Func:=afv
noncomputable abbrev acB : Code:=(afv.body).getD .skip
theorem Lh : afv.body=some acB:=by kernel_rfl
theorem ZT : oK xM 119 0 acB C.adR=true:=by kernel_rfl
def Qz : Fq
 |46=>some (22,1,[.str 0])
 |47=>some (30,5,[.int 0,.int 1,.str 2,.sub 3 46,.sub 4 47])
 |21=>some (44,8,[.int 0,.sub 1 46,.sub 2 46,.int 3,.int 4,.str 5,.sub 6 46,.sub 7 47])
 |_=>none
def Q5 : Xg
 |15=>some (5,[.sl 3 46,.sl 4 47])
 |_=>none
theorem MO (f:Nat)(h:(Qz f).isSome=true):Xx xM 54 Qz f=true:=by
 unfold Qz at h;split at h
 ·kernel_rfl
 ·kernel_rfl
 ·kernel_rfl
 ·cases h
theorem Ci (f:Nat)(h:(Q5 f).isSome=true):aby xM Q5 f=true:=by
 unfold Q5 at h;split at h
 ·kernel_rfl
 ·cases h
theorem Q9 : DR xM 54 tx:=λk h0 h1=>by obtain⟨n,hn⟩:=(aaS ⟨h0,h1⟩).val;exact F.gu hn
theorem Vh : MT Qz 46 47 22 30:=⟨rfl,rfl⟩
theorem ad2 : qJ xM 22=1:=by kernel_rfl
theorem ad3 : qJ xM 30=5:=by kernel_rfl
theorem ad4 : kP xM 30=[(3,22),(4,30)]:=by kernel_rfl
theorem aiA : qJ xM 44=8:=by kernel_rfl
theorem aiB : kP xM 44=[(1,22),(2,22),(6,22),(7,30)]:=by kernel_rfl
noncomputable abbrev Y7 : Code:=Ea 7 acB
noncomputable abbrev acC : Code:=Ea 7 Y7
noncomputable abbrev acD : Code:=Ea 1 acC
noncomputable abbrev Y8 : Code:=Ea 1 acD
noncomputable abbrev acE : Code:=Ea 2 Y8
noncomputable abbrev aey : Code:=Ea 1 acE
abbrev Bi : dD:=C.adR
abbrev La : dD:=He 7 Bi
abbrev Om : dD:=He 2 (He 7 La)
abbrev YX : dD:=He 1 (He 2 Om)
theorem agk : oK xM 119 0 Y7 La=true:=by kernel_rfl
theorem agl : oK xM 119 0 Y8 Om=true:=by kernel_rfl
theorem agm : oK xM 119 0 aey YX=true:=by kernel_rfl
def Ec : List OF:=[.vp 8 8 0,.row 8 ⟨3,22,100803⟩,.row 8 ⟨4,30,100804⟩,.vp 9 9 0,.row 9 ⟨3,22,100903⟩,.row 9 ⟨4,30,100904⟩,.ref 10 ⟨0,44,201000⟩]
theorem afb : (AU xM [] 7 acB Bi []).isSome=true:=by kernel_rfl
theorem agr : (match AU xM [2,3,6,7] 7 Y7 La []with|some Γ =>Ec.all Γ.contains|none=>false)=true:=by kernel_rfl
theorem ags : (AU xM [2,3,6,7,10,11] 2 Y8 Om []).isSome=true:=by kernel_rfl
theorem agn : MK xM 119 acC=some (some 5,8,12,15,[64,65,66,12]):=by kernel_rfl
theorem agp : MK xM 119 acD=some (some 5,9,12,15,[67,68,69,12]):=by kernel_rfl
theorem agq : MK xM 119 acE=some (none,10,13,21,[83,84,85,13]):=by kernel_rfl
structure GI (n:ai)(o:ai)(p:List tC)(l1 l2:Int)(b:Bool):Prop where
 s1:∃m,G.jE m n 1048576=some l1
 c1:decide (l1<0)=false
 s2:∃m,G.jE m o l1=some l2
 c2:decide (l2<0)=false
 t1:∃m,G.kW m n=some n
 t2:∃m,G.kW m o=some o
 w:∃m,G.adi m n o=some (p,b)
 g:∃m,G.aco m n o=some (p,b)
 e1:∃m,G.acO m p p=some true
 e2:∃m,G.kE m n n=some true
 e3:∃m,G.kE m o o=some true
 h:∃m,G.acS m (afB p 1) 1=some (1+(aea p:Int))
 k1:NW n<1000000000
 k2:NW o<1000000000
 k3:aea p<1000000000
abbrev vg (n:ai):List AC:=[.c (.lit (.int .i64 n.Kind)),.c (.lit (.int .i64 n.Num)),.c (.str n.Text),.c (.sl 1 (aT cS n.Names)),.c (.sl 5 (aT ai.cells n.Kids))]
abbrev oH (n:ai):Slot:=.v true (.one (.zC (AB n)))
abbrev wU (b:Bool):Slot:=.v true (.one (.c (.lit (.bool b))))
abbrev Ja (k:Int):Slot:=.v true (.one (.c (.lit (.int .i64 k))))
abbrev adk (o:List tC):Slot:=.v true (.one (.c (.sl 8 (aT tC.cells o))))
theorem afm {n:ai}{o:ai}{p:List tC}{l1 l2:Int}{b:Bool}(F0:GI n o p l1 l2 b){K:dP->Prop}(zf:YP K (dP.of [(2,.v true (.one (.ptr 10 0))),(3,.v true (.one (.ptr 11 0))),(6,adk p),(7,wU b)] [(10,.var (vg n)),(11,.var (vg o))])):wpC xM (takeA 7 Bi) (QA K RL) (st0 [.agg (vg n),.agg (vg o)] []):=by
 obtain⟨_,h1⟩:=F0.s1;obtain⟨_,h2⟩:=F0.s2;obtain⟨_,h3⟩:=F0.t1;obtain⟨_,h4⟩:=F0.t2;obtain⟨_,h5⟩:=F0.w;have zc:=pp (F.jE h1) <|pp (F.jE h2) <|pp (F.kW h3) <|pp (F.kW h4) <|pp (F.adi h5) <|()
 have c1:=F0.c1;have c2:=F0.c2;clear F0;refine tJ ?_;unfold Bi C.adR;simp only[takeA];exact XH
theorem afn {n:ai}{o:ai}{p:List tC}{l1 l2:Int}{b:Bool}(F0:GI n o p l1 l2 b){K:dP->Prop}(zf:YP K (dP.of [(2,oH n),(3,oH o),(6,adk p),(7,wU b),(8,.v true (.one (.ptr 12 0))),(9,.v true (.one (.ptr 13 0))),(10,adk p),(11,wU b),(12,Ja 1)] [(12,.var (vg n)),(13,.var (vg o))])):wpC xM (takeA 7 La) (QA K RL) (dP.of [(2,oH n),(3,oH o),(6,adk p),(7,wU b)] []):=by
 obtain⟨_,h1⟩:=F0.t1;obtain⟨_,h2⟩:=F0.t2;obtain⟨_,h3⟩:=F0.g;obtain⟨_,h4⟩:=F0.e1;obtain⟨_,h5⟩:=F0.e2;obtain⟨_,h6⟩:=F0.e3;have zc:=pp (F.kW h1) <|pp (F.kW h2) <|pp (F.aco h3) <|pp (F.acO h4) <|pp (F.kE h5) <|pp (F.kE h6) <|()
 clear F0;refine tJ ?_;unfold La Bi C.adR;simp only[takeA,He];exact XH
theorem afo {n:ai}{o:ai}{p:List tC}{l1 l2:Int}{b:Bool}{k:Int}(F0:GI n o p l1 l2 b)(hk:decide (k<0)=false){K:dP->Prop}(zf:YP K (dP.of [(2,oH n),(3,oH o),(6,adk p),(7,wU b),(10,adk p),(13,Ja 1)] [])):wpC xM (takeA 2 Om) (QA K RL) (dP.of [(2,oH n),(3,oH o),(6,adk p),(7,wU b),(10,adk p),(11,wU b),(12,Ja k)] []):=by
 obtain⟨_,h1⟩:=F0.e1;have zc:=pp (F.acO h1) <|()
 clear F0;refine tJ ?_;unfold Om La Bi C.adR;simp only[takeA,He];exact XH
theorem afp {n:ai}{o:ai}{p:List tC}{l1 l2:Int}{b:Bool}(F0:GI n o p l1 l2 b):wpC xM YX (QF [.tmp 4] 0 (λr bs=>r=pq true/\bs=[])) (dP.of [(2,oH n),(3,oH o),(6,adk p),(7,wU b),(10,adk (afB p 1)),(13,Ja (1+(aea p:Int)))] []):=by
 obtain⟨_,h1⟩:=F0.t1;obtain⟨_,h2⟩:=F0.t2;obtain⟨_,h3⟩:=F0.g;obtain⟨_,h4⟩:=F0.e1;obtain⟨_,h5⟩:=F0.h;have zc:=pp (F.kW h1) <|pp (F.kW h2) <|pp (F.aco h3) <|pp (F.acO h4) <|pp (F.acS h5) <|()
 have hk:decide (1+(aea p:Int)<0)=false:=decide_eq_false (by omega);clear F0;refine tJ ?_;unfold YX Om La Bi C.adR;simp only[He];exact XH
theorem afq {n:ai}{o:ai}{l1:Int}{K:dP->Prop}(h:∃m,G.jE m n 1048576=some l1)(hk:decide (l1<0)=true):wpC xM (takeA 7 Bi) (QA K RL) (st0 [.agg (vg n),.agg (vg o)] []):=by
 obtain⟨_,h1⟩:=h;have zc:=pp (F.jE h1) <|()
 have zf:=();refine tJ ?_;unfold Bi C.adR;simp only[takeA];exact XH
theorem afr {n:ai}{o:ai}{l1 l2:Int}{K:dP->Prop}(h:∃m,G.jE m n 1048576=some l1)(hk:decide (l1<0)=false)(h':∃m,G.jE m o l1=some l2)(hk':decide (l2<0)=true):wpC xM (takeA 7 Bi) (QA K RL) (st0 [.agg (vg n),.agg (vg o)] []):=by
 obtain⟨_,h1⟩:=h;obtain⟨_,h2⟩:=h';have zc:=pp (F.jE h1) <|pp (F.jE h2) <|()
 have zf:=();refine tJ ?_;unfold Bi C.adR;simp only[takeA];exact XH
theorem Q8 {S:Slot}{I:IH}{ρ:Ren}{v:Value}{x:Value}(h:Uh I ρ v S)(e:S = .v true (.one (.c (.lit x)))):v=x:=by subst e;have h1:=h.1 rfl;cases h1;rfl
theorem adD {n:ai}{o:ai}{p:List tC}{l1 l2:Int}{b:Bool}(F0:GI n o p l1 l2 b):fD xM 6 [.agg (vg n),.agg (vg o)] (pq true):=by
 have hcr:xO xM Bo.ntmps Bo.results.toList [.tmp 4]=true:=by kernel_rfl
 obtain⟨Γ0,oA'⟩:=nM.1 afb;refine XV (fn:=Bo) (ac:=Bi) (by kernel_rfl) Lh (by kernel_rfl) (by show 2<=Bo.ntmps;exact(by kernel_rfl:decide (2<=Bo.ntmps)=true) |> of_decide_eq_true) hcr ZT oA' (λK zf=>afm F0 zf) ?_;intro w0 wA JA I ρ g a w A;obtain⟨hT,hG⟩:=A.gx;have hJ:=KN (V:=ad1 ρ (dP.of [(2,.v true (.one (.ptr 10 0))),(3,.v true (.one (.ptr 11 0))),(6,adk p),(7,wU b)] [(10,.var (vg n)),(11,.var (vg o))])) hG.agree;have s2:=Nu (x:=2) (b:=10) (cs:=AB n) hG (by decide) rfl rfl rfl;have s3:=Nu (x:=3) (b:=11) (cs:=AB o) hG (by decide) rfl rfl rfl;have s6:=adU (x:=6) (c:=.sl 8 (aT tC.cells p)) hG (by decide) rfl hJ;have s7:=adU (x:=7) (c:=.lit (.bool b)) hG (by decide) rfl hJ;have hA:=GG (V:=ad1 ρ (dP.of [(2,.v true (.one (.ptr 10 0))),(3,.v true (.one (.ptr 11 0))),(6,adk p),(7,wU b)] [(10,.var (vg n)),(11,.var (vg o))])) hG.agree;generalize I.with w _=JB at hJ s2 s3 s6 s7 hA;have hM:Mid xM Bo.ntmps w0 JB [(2,oH n),(3,oH o),(6,adk p),(7,wU b)] a w:=⟨A.tabs.mono (IH.le_trans A.Ei hJ),hA,λt s hs=>by
  simp only[aB,bV,gU,or_false]at hs;rcases hs with⟨rfl,rfl⟩|⟨rfl,rfl⟩|⟨rfl,rfl⟩|⟨rfl,rfl⟩
  ·exact s2
  ·exact s3
  ·exact s6
  ·exact s7,hG.size,hG.defers,A.wu⟩
 clear A hG s2 s3 s6 s7 hJ hA;have hsz:=hM.wu.size;have hB:=agr;split at hB
 case h_2=>cases hB
 rename_i ΓB oB';refine OJ hcr (pa:=[(2,a.tmps.getD 2 undef),(3,a.tmps.getD 3 undef),(6,a.tmps.getD 6 undef),(7,a.tmps.getD 7 undef)]) (pl:=[2,3,6,7]) hM (by simp) (by intro e he;simp only[aB,gU,or_false]at he;rcases he with rfl|rfl|rfl|rfl<;>rfl) agk oB' (λK zf=>afn F0 zf) ?_
 intro I1 ρ1 g1 a1 w1 A;have hmem:∀f,f∈Ec->f ∈ ΓB:=λf hf=>by have:=List.all_eq_true.1 hB f hf;simpa using this
 obtain⟨hT1,hG⟩:=A.gx;obtain⟨k8,v8,e8,p8,q8,n8,r8,⟨_,_,_,u8⟩,g8⟩:=Jy (x:=8) (b:=12) (cs:=AB n) (rows:=[(3,22,100803),(4,30,100804)]) hG A.ow (by decide) rfl rfl rfl (hmem _ (by simp[Ec])) (λr hr=>hmem _ (by revert r;decide));obtain⟨k9,v9,e9,p9,q9,n9,r9,⟨_,_,_,u9⟩,g9⟩:=Jy (x:=9) (b:=13) (cs:=AB o) (rows:=[(3,22,100903),(4,30,100904)]) hG A.ow (by decide) rfl rfl rfl (hmem _ (by simp[Ec])) (λr hr=>hmem _ (by revert r;decide));obtain⟨r10,g10⟩:=agT (x:=10) (T:=44) (m:=201000) (c:=.sl 8 (aT tC.cells p)) hG A.ow (by decide) rfl (hmem _ (by simp[Ec]));obtain⟨v10,p10⟩:∃v,a1.tmps.getD 10 undef=v:=⟨_,rfl⟩;rw[p10]at r10 g10;have S8:=aaN A.ow.good A.tabs A.Iy A.old A.ag n8 r8 (by decide) g8 (RQ ad2 ad3 ad4 n _ _);have S9:=aaN A.ow.good A.tabs A.Iy A.old A.ag n9 r9 (by decide) g9 (RQ ad2 ad3 ad4 o _ _);have S10:=aaN (vs:=[v10]) (cs:=[Cell.sl 8 (aT tC.cells p)]) (rows:=[(0,44,201000)]) A.ow.good A.tabs A.Iy A.old A.ag rfl (ahR r10) (by decide) (ahM g10) (ahr ad2 ad3 ad4 aiA aiB p _);have K:Mks xM Bo.ntmps w0 w JB I1 g1 a1 w1:=⟨A.new,A.Zk.size,A.old,A.Ei,A.ag,hG.size,hG.defers,A.wu,hsz⟩;have t11:=Q8 (hG.tm 11 (by decide)) rfl;have t12:=Q8 (hG.tm 12 (by decide)) rfl;refine MG K S8 agn (Qm p8 q8 n8) t12 (KX.any (CU (Ci 15 rfl) rfl (Nz MO Ci Q9 (Q3 Vh rfl rfl n (by decide) (by have:=F0.k1;omega))))) ?_;intro a2 w2 J2 K2 _ c2 tk2 fr2 kp2;have S9:=kp2 S9 (apart (by decide) (by decide) (by decide));have S10:=kp2 S10 (apart (by decide) (by decide) (by decide));refine MG K2 S9 agp (Qm ((tk2 9 (by decide)).trans p9) ((fr2 _ _ _ _ u9).trans q9) n9) c2 (KX.any (CU (Ci 15 rfl) rfl (Nz MO Ci Q9 (Q3 Vh rfl rfl o (by omega) (by have:=F0.k1;have:=F0.k2;omega))))) ?_;intro a3 w3 J3 K3 _ c3 tk3 fr3 kp3;have S10:=kp3 S10 (apart (by decide) (by decide) (by decide));have tk:∀t,t ∉ [64,65,66,67,68,69,12]->a3.tmps.getD t undef=a1.tmps.getD t undef:=λt ht=>by simp only[aB,gU,or_false,not_or]at ht;rw[tk3 t (by simp;omega),tk2 t (by simp;omega)]
 have hJ:=KN (V:=λ_=>False) K3.ag;have hA:=GG (V:=λ_=>False) K3.ag;generalize J3.with w3 _=JC at hJ hA;have hJ':=IH.le_trans K3.Ei hJ;have hM3:Mid xM Bo.ntmps w0 JC [(2,oH n),(3,oH o),(6,adk p),(7,wU b),(10,adk p),(11,wU b),(12,Ja (1+NW n+NW o))] a3 w3:=⟨hM.tabs.mono hJ',hA,λt s hs=>by
  simp only[aB,bV,gU,or_false]at hs;have base:∀t s,(t,s)∈[(2,oH n),(3,oH o),(6,adk p),(7,wU b)]->t ∉ [64,65,66,67,68,69,12]->(t,a.tmps.getD t undef)∈[(2,a.tmps.getD 2 undef),(3,a.tmps.getD 3 undef),(6,a.tmps.getD 6 undef),(7,a.tmps.getD 7 undef)]->Uh JC Rj (a3.tmps.getD t undef) s:=λt s h1 h2 h3=>by rw[tk t h2,A.pa _ h3];exact(hM.sl t s h1).mono hJ' (λ_ _ h=>h)
  rcases hs with⟨rfl,rfl⟩|⟨rfl,rfl⟩|⟨rfl,rfl⟩|⟨rfl,rfl⟩|⟨rfl,rfl⟩|⟨rfl,rfl⟩|⟨rfl,rfl⟩
  ·exact base _ _ (by simp) (by decide) (by simp)
  ·exact base _ _ (by simp) (by decide) (by simp)
  ·exact base _ _ (by simp) (by decide) (by simp)
  ·exact base _ _ (by simp) (by decide) (by simp)
  ·rw[tk 10 (by decide)];exact agY ((S10.rd 0 _ _ rfl rfl).mono hJ) p10
  ·rw[tk 11 (by decide)];rw[t11];exact⟨λ_=>.lit _ rfl,λe=>by cases e⟩
  ·rw[c3];exact⟨λ_=>.lit _ rfl,λe=>by cases e⟩,K3.size,K3.defers,K3.wu⟩
 obtain⟨ΓE,oE'⟩:=nM.1 ags;refine OJ hcr (pa:=[(2,a3.tmps.getD 2 undef),(3,a3.tmps.getD 3 undef),(6,a3.tmps.getD 6 undef),(7,a3.tmps.getD 7 undef),(10,a3.tmps.getD 10 undef)]) (pl:=[2,3,6,7,10,11]) hM3 (by simp) (by intro e he;simp only[aB,gU,or_false]at he;rcases he with rfl|rfl|rfl|rfl|rfl<;>rfl) agl oE' (λK zf=>afo F0 (decide_eq_false (by omega)) zf) ?_
 intro I4 ρ4 g4 a4 w4 A4;obtain⟨hT4,hG4⟩:=A4.gx;have S10:=S10.quiet A4.Zk;have t13:=Q8 (hG4.tm 13 (by decide)) rfl;have K4:Mks xM Bo.ntmps w0 w JB J3 g1 a4 w4:=⟨K3.new,Nat.le_trans K3.sz A4.Zk.size,K3.old,K3.Ei,K3.ag.quiet A4.Zk,hG4.size,hG4.defers,A4.wu,K3.sz0⟩;refine MG K4 S10 agq (ahs ((A4.pa (10,a3.tmps.getD 10 undef) (by simp)).trans ((tk 10 (by decide)).trans p10))) t13 (aha MO Q9 (ahN Vh rfl p (by decide) (by have:=F0.k3;omega)) ⟨_,_,rfl⟩) ?_;intro a5 w5 J5 K5 S10 c5 tk5 fr5 kp5;have hJ5:=KN (V:=λ_=>False) K5.ag;have hA5:=GG (V:=λ_=>False) K5.ag;generalize J5.with w5 _=JD at hJ5 hA5;have aeI:=IH.le_trans K5.Ei hJ5;refine ZY hcr (ts:=[(2,oH n),(3,oH o),(6,adk p),(7,wU b),(10,adk (afB p 1)),(13,Ja (1+(aea p:Int)))]) ⟨hM.tabs.mono aeI,hA5,λt s hs=>?_,K5.size,K5.defers,K5.wu⟩ agm (afp F0);simp only[aB,bV,gU,or_false]at hs;have base:∀t s,(t,s)∈[(2,oH n),(3,oH o),(6,adk p),(7,wU b)]->t ∉ [64,65,66,67,68,69,12]->t ∉ [83,84,85,13]->(t,a3.tmps.getD t undef)∈[(2,a3.tmps.getD 2 undef),(3,a3.tmps.getD 3 undef),(6,a3.tmps.getD 6 undef),(7,a3.tmps.getD 7 undef),(10,a3.tmps.getD 10 undef)]->(t,a.tmps.getD t undef)∈[(2,a.tmps.getD 2 undef),(3,a.tmps.getD 3 undef),(6,a.tmps.getD 6 undef),(7,a.tmps.getD 7 undef)]->Uh JD Rj (a5.tmps.getD t undef) s:=λt s h1 h2 h3 h4 h5=>by
  rw[tk5 t h3,A4.pa _ h4]
  dsimp only
  rw[tk t h2,A.pa _ h5];exact(hM.sl t s h1).mono aeI (λ_ _ h=>h)
 rcases hs with⟨rfl,rfl⟩|⟨rfl,rfl⟩|⟨rfl,rfl⟩|⟨rfl,rfl⟩|⟨rfl,rfl⟩|⟨rfl,rfl⟩
 ·exact base _ _ (by simp) (by decide) (by decide) (by simp) (by simp)
 ·exact base _ _ (by simp) (by decide) (by decide) (by simp) (by simp)
 ·exact base _ _ (by simp) (by decide) (by decide) (by simp) (by simp)
 ·exact base _ _ (by simp) (by decide) (by decide) (by simp) (by simp)
 ·rw[tk5 10 (by decide),A4.pa (10,a3.tmps.getD 10 undef) (by simp)]
  dsimp only
  rw[tk 10 (by decide)];exact agY ((S10.rd 0 _ _ rfl rfl).mono hJ5) p10
 ·rw[c5];exact⟨λ_=>.lit _ rfl,λe=>by cases e⟩
theorem V8 {n:ai}{o:ai}(hw:wpC xM (takeA 7 Bi) (QA (λ_=>False) RL) (st0 [.agg (vg n),.agg (vg o)] [])):fD xM 6 [.agg (vg n),.agg (vg o)] (pq true):=by
 have hcr:xO xM Bo.ntmps Bo.results.toList [.tmp 4]=true:=by kernel_rfl
 obtain⟨Γ0,oA'⟩:=nM.1 afb;exact XU (fn:=Bo) (ac:=Bi) (by kernel_rfl) Lh (by kernel_rfl) (by show 2<=Bo.ntmps;exact(by kernel_rfl:decide (2<=Bo.ntmps)=true) |> of_decide_eq_true) hcr ZT oA' hw
theorem ae4 {n:ai}{o:ai}{D:Nat}(hn:tu mx D n){E:Nat}(ho:tu mx E o):fD xM 6 [.agg (vg n),.agg (vg o)] (pq true):=by
 obtain⟨l1,h1,b1,f1⟩:=T.Q7 D hn (left:=1048576) (by decide) (by decide);by_cases c1:l1<0
 ·exact V8 (afq h1.val (decide_eq_true c1))
 obtain⟨l2,h2,b2,f2⟩:=T.Q7 E ho (left:=l1) (by omega) (by omega);by_cases c2:l2<0
 ·exact V8 (afr h1.val (decide_eq_false c1) h2.val (decide_eq_true c2))
 obtain⟨f1,k1⟩:=f1 (by omega);obtain⟨f2,k2⟩:=f2 (by omega);have hL:(1048576:Nat)<=lim:=by decide
 have hL':lim=4294967296:=rfl;have hp:=aij n o;have m1:=WQ n;have m2:=WQ o;have m3:=hp.k;exact adD (p:=(agJ n o).1) (b:=(agJ n o).2) {
  s1:=h1.val,c1:=decide_eq_false c1,s2:=h2.val,c2:=decide_eq_false c2
  t1:=(T.VI hL f1).val,t2:=(T.VI hL f2).val
  w:=(T0.adi hL f1 f2).val,g:=(T0.aco hL f1 f2).val
  e1:=(T.aik (B:=12) (D:=5) (by decide) hp.l hp.f).val,e2:=(T.Qb hL f1).val,e3:=(T.Qb hL f2).val
  h:=(T.ahW _ (by decide) (by omega)).val
  k1:=by omega,k2:=by omega,k3:=by omega }
end Go.Ab
namespace Go.Proofs.YtjfeblenfiiofaaGreatDoor.fnExactDiffNodes
open Go Go.ChangeShapes Go.WideShapes Go.ChangeAt Go.RowKit Go.Ab
theorem own : ownKnob Tryz.prog.godebug=none:=by kernel_rfl
theorem laidOut : laidOutB Tryz.prog=true:=by kernel_rfl
theorem tyN : Po Tryz.prog 3 9 22 25 23:=⟨by kernel_rfl,by kernel_rfl,by kernel_rfl,by kernel_rfl,⟨_,Tryz.underlying25,by kernel_rfl⟩,by kernel_rfl,by kernel_rfl,by kernel_rfl,by kernel_rfl,by kernel_rfl⟩
theorem met {W:World}(h:laidMetH Tryz.prog Rows.fnExactDiffNodesRow.laid W):laidMet Tryz.prog Rows.fnExactDiffNodesRow.laid W:=by unfold laidMetH at h;rw[show(Rows.fnExactDiffNodesRow.laid.filter λx=>x.2.handleName?.isSome)=[]from by kernel_rfl]at h;exact h
theorem agw {W:World} (hL:laidMetH Tryz.prog Rows.fnExactDiffNodesRow.laid W):∀g,Tryz.prog.globalNamed "internal/strconv.uint64pow10" = some g->I0 W g=some (pG.map λz=>Go.Value.int .u64 z).toArray:=by
 have h:=OI 2 (met hL);rw[show Rows.fnExactDiffNodesRow.laid.drop 2=("internal/strconv.uint64pow10",Go.Lib.tabData .u64 pG)::Rows.fnExactDiffNodesRow.laid.drop 3 from by kernel_rfl]at h
 exact adN (g:=1) (t:=124) (e:=116) (by kernel_rfl) (by kernel_rfl) (by kernel_rfl) (by kernel_rfl) (by kernel_rfl) (by kernel_rfl) h
theorem agx {W:World} (hS:W.ShapedOpen Tryz.prog):∀g,Tryz.prog.globalNamed "internal/bytealg.MaxLen" = some g->∃m,(I0 W).cell ⟨g,0,none⟩=some (.int .i64 m):=
 adE (g:=0) (t:=3) hS (by kernel_rfl) (of_decide_eq_true (by kernel_rfl)) (by kernel_rfl) (by kernel_rfl) (by kernel_rfl) (by kernel_rfl)
theorem tabs {W:World} (hS:W.ShapedOpen Tryz.prog) (hL:laidMetH Tryz.prog Rows.fnExactDiffNodesRow.laid W):Tabs Tryz.prog (I0 W):=⟨agw hL,agx hS,(λg hg=>by cases hg.symm.trans (show Tryz.prog.globalNamed "strconv.ErrSyntax" = none by kernel_rfl)),(λg hg=>by cases hg.symm.trans (show Tryz.prog.globalNamed "strconv.ErrRange" = none by kernel_rfl))⟩
theorem contract (H:Type)(enc:TypeId×Value->H)(W:World)(base:Nat)(args:Array Value)(ds gs:List (DataW H))(before:List MemPlace)
 (hval:∀(j:Nat) t v,Tryz.f6.params[j]? = some t->args[j]? = some v->Go.Value.okWide Tryz.prog W .any base t v)
 (hW:DataW.Whole enc Tryz.prog Tryz.f6.params.toList Rows.fnExactDiffNodesSpec.vars false W args.toList ds gs before)
 (hS:W.ShapedOpen Tryz.prog) (hL:laidMetH Tryz.prog Rows.fnExactDiffNodesRow.laid W) :
 Calls Tryz.prog 6 args W λe W'=>∃v,e = .returned v/\Rows.fnExactDiffNodesSpec.post enc Tryz.prog Tryz.f6 false true false false W args v W':=by
 have hW':=hW;obtain⟨p,q,hA0,hV,rfl,hfz,hnd⟩:=hW;have hA:DataW.TrodAll enc Tryz.prog W 0 (λ_=>true) true Tryz.f6.params.toList args.toList ds p:=hA0;rw[Tryz.params6]at hA hval;obtain⟨v0,vs0,d0,ds0,p0,q0,hargs,rfl,rfl,h0,r0⟩:=trodAll_cons hA;obtain⟨v1,vs1,d1,ds1,p1,q1,rfl,rfl,rfl,h1,r1⟩:=trodAll_cons r0;obtain⟨rfl,rfl,rfl⟩:=trodAll_nil r1;obtain rfl:args = #[v0,v1]:=by cases args;simp_all
 obtain⟨rfl,rfl⟩:=trodVars_none hV;clear hA0;simp only[pI]at hW';have hlt:∀x∈(p0++p1),x.block<W.heap.size:=λx hx=>hW'.lt x (by simpa using hx);obtain⟨c0,rfl,_⟩:=okWide_struct Tryz.underlying25 (hval 0 25 v0 rfl rfl);have hk0:=h0;obtain⟨f0,g0⟩:=h0;obtain⟨x0,e0,_,m0⟩:=O4 tyN f0 g0;rw[ai.kU]at e0;obtain⟨c1,rfl,_⟩:=okWide_struct Tryz.underlying25 (hval 1 25 v1 rfl rfl);have hk1:=h1;obtain⟨f1,g1⟩:=h1;obtain⟨x1,e1,_,m1⟩:=O4 tyN f1 g1;rw[ai.kU]at e1;have key:=adB (tabs hS hL) (abM (WN e0) (WN e1)) (ae4 m0 m1);refine Go.Calls.mono key λe W' ⟨he,hb⟩=>?_;subst he;have ht:DataW.TrodAll enc Tryz.prog W' 0 (λb=>decide (b<W.heap.size)) true [25,25] [_,_] [d0,d1] (p0++(p1++[])):=trodAll_cons_mk (Below.trod laidOut (by kernel_rfl) (of_decide_eq_true (by kernel_rfl)) hk0 hb (λx hx=>hlt x (List.mem_append_left _ hx))) (trodAll_cons_mk (Below.trod laidOut (by kernel_rfl) (of_decide_eq_true (by kernel_rfl)) hk1 hb (λx hx=>hlt x (List.mem_append_right _ hx))) (trodAll_mk0));simp only[pI]at ht;exact⟨_,rfl,_,_,_,[],_,[],hW',trodAll_cons_mk (shut_bool Tryz.underlying4 _) trodAll_mk0,
  ht,rfl,hb.frame _,λh=>by cases h⟩
noncomputable def laidWorld (os:Os):World:=Go.World.laidAll Tryz.prog os Rows.fnExactDiffNodesRow.laid
theorem laid_met (os:Os):laidMet Tryz.prog Rows.fnExactDiffNodesRow.laid ((laidWorld os).forCall (λ_ _=>0) ⟨#[],#[.agg #[.int .i64 0,.int .i64 0,.string ⟨#[]⟩,.slice none 0 0,.slice none 0 0],.agg #[.int .i64 0,.int .i64 0,.string ⟨#[]⟩,.slice none 0 0,.slice none 0 0]],[]⟩).memory:=
 laidMet_laidAll _ (by kernel_rfl) (by kernel_rfl)
theorem reads (os:Os){H:Type}(enc:TypeId×Value->H):∃places,Go.DataW.whole enc Tryz.prog ((laidWorld os).forCall (λ_ _=>0) ⟨#[],#[.agg #[.int .i64 0,.int .i64 0,.string ⟨#[]⟩,.slice none 0 0,.slice none 0 0],.agg #[.int .i64 0,.int .i64 0,.string ⟨#[]⟩,.slice none 0 0,.slice none 0 0]],[]⟩).memory Tryz.f6.params.toList Rows.fnExactDiffNodesSpec.vars false #[.agg #[.int .i64 0,.int .i64 0,.string ⟨#[]⟩,.slice none 0 0,.slice none 0 0],.agg #[.int .i64 0,.int .i64 0,.string ⟨#[]⟩,.slice none 0 0,.slice none 0 0]].toList 8=some ([.agg [.lit (.int .i64 0),.lit (.int .i64 0),.lit (.string []),.nil,.nil],.agg [.lit (.int .i64 0),.lit (.int .i64 0),.lit (.string []),.nil,.nil]],[],places):=
 ⟨[],by kernel_rfl⟩
theorem lifted (os:Os)(started:os.Started)(H:Type)(enc:TypeId×Value->H)(F:Stop.Interp) :
 ReturnsInHanded {} Tryz.checked os 6 .any ((oU Rows.fnExactDiffNodesSpec).preRow enc Tryz.prog Tryz.f6 Rows.fnExactDiffNodesRow.domain false Rows.fnExactDiffNodesRow.laid) (((oU Rows.fnExactDiffNodesSpec).at F).post enc Tryz.prog Tryz.f6 false true false false):=by
 obtain⟨places,hx⟩:=reads os enc;refine returnsInHanded_of_row (C:=Tryz.checked) (s:=oU Rows.fnExactDiffNodesSpec) own started (by kernel_rfl) Tryz.func6
  (witness_row_atRef (enc:=enc) (C:=Tryz.checked) false (laidWorld os) #[.agg #[.int .i64 0,.int .i64 0,.string ⟨#[]⟩,.slice none 0 0,.slice none 0 0],.agg #[.int .i64 0,.int .i64 0,.string ⟨#[]⟩,.slice none 0 0,.slice none 0 0]] (Go.World.laidAll_os _ _ _) (by kernel_rfl) (by kernel_rfl) (by kernel_rfl)
   (Go.OpenSpec.preRow_of_cond 8 hx (by kernel_rfl) (λk hk=>by cases hk) (by kernel_rfl) (laid_met os))) ?_
 intro W base args ds gs before hval hW _ _ _ hL hS _;exact contract H enc W base args ds gs before hval hW hS hL
theorem j1 : (Rows.fnExactDiffNodesRow.inPlace==Tryz.prog.inPlace 6)=true:=by kernel_rfl
theorem j2 : (Rows.fnExactDiffNodesRow.unfollowed==Tryz.prog.unfollowed 6)=true:=by kernel_rfl
theorem j3 : (Rows.fnExactDiffNodesRow.recurses==Tryz.prog.recurses 6)=true:=by kernel_rfl
theorem j4 : (Rows.fnExactDiffNodesRow.named==Tryz.prog.varsNamed 6)=true:=by kernel_rfl
theorem j5 : joinedFacts Tryz.prog 6 Tryz.f6 (oU Rows.fnExactDiffNodesSpec).bare Rows.fnExactDiffNodesRow=true:=by
 unfold joinedFacts;rw[j1,j2,j3,j4]
 kernel_rfl
theorem j6 : Tryz.prog.funcNamed Rows.fnExactDiffNodesRow.func=some 6:=by kernel_rfl
theorem said : Rows.FnExactDiffNodesSaid:=
 Go.OpenClaim.holds_of_cond 6 Tryz.f6 rfl rfl rfl rfl rfl rfl rfl ⟨rfl,rfl,rfl,rfl,rfl⟩ rfl rfl rfl rfl rfl j6 Tryz.func6 j5
  (of_decide_eq_true (by kernel_rfl)) (by unfold Go.Func.isWrapper;first|(rw[if_pos (by decide +kernel)];kernel_rfl)|(rw[if_neg (by decide +kernel)];exact⟨rfl,rfl⟩))
  (λos started H enc _ F=>by rw[Go.OpenClaim.pre_eq_preRow];exact lifted os started H enc F)
theorem jw : Rows.fnExactDiffNodesRow.wfByText (oU Rows.fnExactDiffNodesSpec)=true:=by kernel_rfl
theorem jm : Tryz.pinned.checked.prog.mainIs=some (Rows.fnExactDiffNodesCard.stood.harness.1,Rows.fnExactDiffNodesCard.stood.harness.2.toList):=by kernel_rfl
theorem jg : false=Rows.fnExactDiffNodesRow.goesBy Tryz.pinned.checked.prog:=by kernel_rfl
theorem plain (f:FuncId)(fn:Func)(hf:Tryz.pinned.checked.prog.funcNamed Rows.fnExactDiffNodesRow.func=some f)(hfn:Tryz.pinned.checked.prog.funcs[f]? = some fn) :
 false=Tryz.pinned.checked.prog.looks []/\∀(j:Nat) t,fn.params[j]? = some t->Tryz.pinned.checked.prog.wantsStandIn t=false:=by
 obtain rfl:f=6:=yO ((show Tryz.prog.funcNamed Rows.fnExactDiffNodesRow.func=some 6 by kernel_rfl).symm.trans hf) |>.symm;obtain rfl:fn=Tryz.f6:=(yO (Tryz.func6.symm.trans hfn)).symm;refine⟨by kernel_rfl,λj t ht=>?_⟩;rw[Tryz.params6]at ht;have ht':t=25\/t=25:=by simpa using Array.mem_of_getElem? ht
 rcases ht' with rfl|rfl
 ·exact(show Tryz.prog.wantsStandIn 25=false by kernel_rfl)
 ·exact(show Tryz.prog.wantsStandIn 25=false by kernel_rfl)
theorem card : Rows.FnExactDiffNodesCardSaid:=
 Claim7.holds_tied_plain_at .later [] _ _ _ _ said (λ_ h=>by cases h) jw (λ_ h=>by cases h) fnExactDiffNodes_row_tie rfl ⟨rfl,rfl⟩ jm rfl plain jg
end Go.Proofs.YtjfeblenfiiofaaGreatDoor.fnExactDiffNodes
end
