/- The functions of the program that the laws reach: what they compute, the proofs that they do, the laws of the data (part 2). No conditions. -/
import Derived.Test.YtghoohcdipegcaaGreatDoorC1
set_option linter.unusedVariables false
set_option linter.unusedSimpArgs false
set_option maxRecDepth 100000
set_option maxHeartbeats 4000000
set_option linter.defProp false
set_option linter.unusedSectionVars false
open And renaming intro->jT
open BitVec renaming ofInt->pG
open Bool renaming false_or->CG,and_eq_true->ai,true_and->bU,and_true->oJ,eq_iff_iff->pU,and_false->qC,false_and->uH,and_eq_false_iff->uq,or_true->xh,true_or->yH
open Go.IntKind renaming wrap->af,bits->fP,signed->xZ
open Go.Lib renaming indexByte->eY,compareBytes->jU,itoa->vk
open Go.Op renaming bytesLess->iU
open Int renaming le_refl->Ea,toNat_natCast->ah,tdiv->lJ,ofNat_zero->qG,toNat_sub->rQ,sub_zero->sF
open List renaming cons_prefix_cons->BG,foldl_nil->BQ,set_cons_zero->Dk,zip_append->EK,getElem_zip->Em,zip->FT,take_of_length_le->aC,range'->aQ,mem_append->aV,all_eq_true->aZ,map->ag,drop_of_length_le->ak,length_append->au,length_cons->bH,mem_singleton->bJ,append_nil->bM,drop_zero->bW,cons_append->bY,map_cons->bf,getD->bu,mem_cons->cu,append_assoc->dA,eq_nil_of_length_eq_zero->dD,all_cons->dI,getElem_mem->dJ,mem_of_mem_take->dS,replicate->dh,length_take->dm,length_drop->fE,map_nil->iD,length_map->iE,map_append->jO,take_succ_eq_append_getElem->jW,range'_succ->kH,mem_iff_getElem->lI,foldl_cons->lZ,drop->lu,mem_of_mem_drop->mX,length_set->nC,map_take->nK,length_pos_iff->ny,mem_or_eq_of_mem_set->o5,take_length->o6,getD_cons_succ->oL,map_drop->oM,sum_cons->rU,getD_cons_zero->sS,take->sV,all_nil->vM,foldl_append->vT,take_append_drop->vZ,find?_cons->yR
open List.cons renaming injEq->wU
open Nat renaming le_mul_of_pos_right->A7,le_refl->ax,le_trans->iP,add_sub_cancel->jo,sub_zero->pK,mod_lt->tH
open Option renaming isSome_iff_exists->Ap,bind_some->gJ,bind->iM,map_none->lC,map_some->lD,filter->oN,map_eq_some_iff->qM,filter_eq_some_iff->wY
open Option.some renaming injEq->aH,inj->pW
open Prod.mk renaming injEq->aJ
open UInt8 renaming ofNat_toNat->Ai,ofNat->eU,toNat_inj->oq
namespace Go.Ab
open Go
def C.fC : bZ:=(qs [zA 2 (.mv (.k (.c (.str []))))] [0] (qs [zA 4 (.jK 10 1 0 [.lit (.int .u8 0)] []),zM 3 4] [0,3] (qs [zM 5 0,⟨none,some 6,.call 173 [.t 5,.k (.c (.lit (.int .u8 34)))]⟩] [0,3] (.seq (.block 0 (.loop (.seq (qs [zM 7 0,qN 8 7,qA 9 2 8,qF 10 1 9,qO 11 10,zM 12 11,qm 12 true 13 0,⟨(some (12,true)),some 14,.call 82 [.t 13]⟩,zG 12 true 15 (.bin .neq (.t 14) (.k (.c (.lit (.int .u8 34))))),qP 16 12 15] [0,3,16] (qc 16 .skip (.exit 0))) (.block 1 (.cut (qs [zM 17 0,q1 18 82 17,zA 19 (.bin .eql (.t 18) (.k (.c (.lit (.int .u8 92)))))] [0,3,19] (qc 19 (.reg [zM 20 0,zM 21 0,qN 22 21,qA 23 1 22,qF 24 1 23,qk 25 .add 24 1,qN 26 20,qA 27 1 26,qU 1 27 25] [0,3]) .skip)) (.seq (qs [zM 28 0,q1 29 82 28,zA 30 (.bin .eql (.t 29) (.k (.c (.lit (.int .u8 0)))))] [0,3,30] (qc 30 (qs [zM 31 0,qN 32 31,qA 33 2 32,zS (.store false 1 (.t 33) (kB true))] [] (qr [zA 2 (.mv (.k (.c (.str []))))] [2])) .skip)) (qs [zM 34 3,zM 35 0,q1 36 82 35,zA 37 (.jK 11 1 1 [.lit (.int .u8 0)] [(0,.t 36)]),zA 38 (.append 12 1 1 (.t 34) (.t 37)),zM 3 38] [0,3] (.reg [zM 39 0,zM 40 0,qN 41 40,qA 42 1 41,qF 43 1 42,qk 44 .add 43 1,qN 45 39,qA 46 1 45,qU 1 46 44] [0,3])))))))) (qs [zM 47 0,⟨none,some 48,.call 173 [.t 47,.k (.c (.lit (.int .u8 34)))]⟩] [3] (qr [zM 49 3,zA 50 (.Qy (.t 49)),zM 2 50] [2]))))))
theorem K.fC : iZ pZ 124 1 1 C.fC [.tmp 2]=true:=by kernel_rfl
def C.fG : bZ:=(qs [qI 2 0] [0] (qs [qI 3 0] [0,3] (qs [qI 4 1] [0,3,4] (.cut (qs [zM 6 0,q1 7 82 6,zA 8 (.bin .eql (.t 7) (.k (.c (.lit (.int .u8 45)))))] [0,3,4,8] (qc 8 (qs [qI 4 (-1)] [0,3,4] (.reg [zM 9 0,zM 10 0,qN 11 10,qA 12 1 11,qF 13 1 12,qk 14 .add 13 1,qN 15 9,qA 16 1 15,qU 1 16 14] [0,3,4])) .skip)) (.seq (qs [qI 5 0] [0,3,4,5] (.block 0 (.loop (.seq (qs [zM 17 5,qk 18 .lss 17 7,zM 19 18,qm 19 true 20 0,⟨(some (19,true)),some 21,.call 82 [.t 20]⟩,zG 19 true 22 (.Gv .i64 (.t 21)),⟨(some (19,true)),some 23,.call 126 [.t 22,kI 48,kI 57]⟩,qP 24 19 23] [0,3,4,5,24] (qc 24 .skip (.exit 0))) (.seq (.block 1 (qs [zM 27 3,zA 28 (.bin .mul (kI 10) (.t 27)),zM 29 0,q1 30 82 29,zA 31 (.Gv .i64 (.t 30)),qb 32 .add 28 31,qk 33 .sub 32 48,zM 3 33] [0,3,4,5] (.reg [zM 34 0,zM 35 0,qN 36 35,qA 37 1 36,qF 38 1 37,qk 39 .add 38 1,qN 40 34,qA 41 1 40,qU 1 41 39] [0,3,4,5]))) (.reg [zM 25 5,qk 26 .add 25 1,zM 5 26] [0,3,4,5])))))) (qr [zM 42 4,zM 43 3,qb 44 .mul 42 43,zM 2 44] [2]))))))
theorem K.fG : iZ pZ 127 1 1 C.fG [.tmp 2]=true:=by kernel_rfl
def C.bT : bZ:=(qs [qX 5 10 1,qZ 8 11] [0,2,3,5,8] (qs [zA 11 (.jK 12 1 0 [.str []] []),zM 9 11] [0,2,3,5,8,9] (qs [zA 12 (.jK 13 5 0 [.lit (.int .i64 0),.lit (.int .i64 0),.str [],.sl 1 [],.sl 5 []] []),zM 10 12] [0,2,3,5,8,9,10] (qs [zM 13 0,zM 14 0,qN 15 14,qA 16 1 15,qF 17 1 16,qk 18 .add 17 1,qN 19 13,qA 20 1 19,qU 1 20 18] [0,2,3,5,8,9,10] (.seq (.block 0 (.loop (.seq (qs [zM 21 0,qN 22 21,qA 23 2 22,qF 24 1 23,qO 25 24,zM 26 25,qm 26 true 27 0,⟨(some (26,true)),some 28,.call 82 [.t 27]⟩,qm 26 true 29 2,zG 26 true 30 (.bin .neq (.t 28) (.t 29)),qP 31 26 30] [0,2,3,5,8,9,10,31] (qc 31 .skip (.exit 0))) (.block 1 (.cut (qs [zM 32 10,qL 33 32,qk 34 .gtr 33 0] [0,2,3,5,8,9,10,34] (qc 34 (.reg [zM 35 0,⟨none,some 36,.call 173 [.t 35,.k (.c (.lit (.int .u8 44)))]⟩] [0,2,3,5,8,9,10]) .skip)) (.cut (qs [qA 37 0 5,qF 38 1 37,qk 39 .eql 38 4] [0,2,3,5,8,9,10,39] (qc 39 (qs [zM 40 9,zM 41 0,q1 42 124 41,zA 43 (.jK 14 1 1 [.str []] [(0,.t 42)]),zA 44 (.append 15 1 16 (.t 40) (.t 43)),zM 9 44] [0,2,3,5,8,9,10] (.reg [zM 45 0,⟨none,some 46,.call 173 [.t 45,.k (.c (.lit (.int .u8 58)))]⟩] [0,2,3,5,8,9,10])) .skip)) (.reg [zM 47 10,zM 48 0,zM 49 3,qk 50 .sub 49 1,q2 51 80 48 50,zA 52 (.jK 16 5 1 [.lit (.int .i64 0),.lit (.int .i64 0),.str [],.sl 1 [],.sl 5 []] [(0,.t 51)]),zA 53 (.append 17 5 80 (.t 47) (.t 52)),zM 10 53] [0,2,3,5,8,9,10]))))))) (qs [zM 54 0,zM 55 2,q2 56 173 54 55] [5,8,9,10] (qr [qA 57 0 5,qF 58 1 57,zM 59 9,zM 60 10,zA 61 (.build zN [(0,1,.t 58),(3,1,.t 59),(4,1,.t 60)]),qS 5 8 61] [8])))))))
theorem K.bT : iZ pZ 125 4 1 C.bT [.cell 8 true 5]=true:=by kernel_rfl
def C.kF : bZ:=(qs [qZ 4 10] [0,1,4] (.seq (.block 0 (qs [zM 6 1,qk 7 .eql 6 0,zM 8 7,qm 8 false 9 0,zG 8 false 10 (.Fq (.t 9)),zG 8 false 11 (.kJ 2 (.t 10)),zG 8 false 12 (.load false 1 (.t 11)),qQ 13 8 12,zM 5 13] [0,1,4,5] (qc 5 (qs [zM 14 0,qN 15 14,qA 16 2 15,zS (.store false 1 (.t 16) (kB true))] [4] (qr [zA 17 (.build zN []),qS 5 4 17] [4])) (qs [zM 19 0,q1 20 82 19,zA 21 (.bin .eql (.t 20) (.k (.c (.lit (.int .u8 34))))),zM 18 21] [0,1,4,18] (qc 18 (qr [zM 22 0,q1 23 124 22,zA 24 (.build zN [(0,1,kI 2),(2,1,.t 23)]),qS 5 4 24] [4]) (qs [zM 26 0,q1 27 82 26,zA 28 (.bin .eql (.t 27) (.k (.c (.lit (.int .u8 91))))),zM 25 28] [0,1,4,25] (qc 25 (qr [zM 29 0,zA 30 (.build zN [(0,1,kI 3)]),zM 31 1,⟨none,some 32,.call 125 [.t 29,.t 30,.k (.c (.lit (.int .u8 93))),.t 31]⟩,qS 5 4 32] [4]) (qs [zM 34 0,q1 35 82 34,zA 36 (.bin .eql (.t 35) (.k (.c (.lit (.int .u8 123))))),zM 33 36] [0,1,4,33] (qc 33 (qr [zM 37 0,zA 38 (.build zN [(0,1,kI 4)]),zM 39 1,⟨none,some 40,.call 125 [.t 37,.t 38,.k (.c (.lit (.int .u8 125))),.t 39]⟩,qS 5 4 40] [4]) (qs [zM 42 0,q1 43 82 42,zA 44 (.bin .eql (.t 43) (.k (.c (.lit (.int .u8 110))))),zM 41 44] [0,4,41] (qc 41 (.seq (.qW [(zM 45 0,[]),(zM 46 0,[]),(qN 47 46,[1]),(qA 48 1 47,[1,2]),(qF 49 1 48,[1,2,3]),(qk 50 .add 49 4,[1,2,3,4]),(zM 51 0,[]),(qN 52 51,[6]),(qA 53 0 52,[6,7]),(qF 54 1 53,[6,7,8]),(ql 55 54,[6,7,8,9]),(zA 56 (.min (.t 50) (.t 55)),[1,2,3,4,5,6,7,8,9,10]),(qN 57 45,[0,1,2,3,4,5,6,7,8,9,10,11]),(qA 58 1 57,[0,1,2,3,4,5,6,7,8,9,10,11,12]),(qU 1 58 56,[0,1,2,3,4,5,6,7,8,9,10,11,12,13])] [4]) (qr [zA 59 (.build zN []),qS 5 4 59] [4])) (qs [zM 61 0,q1 62 82 61,zA 63 (.bin .eql (.t 62) (.k (.c (.lit (.int .u8 45))))),zM 64 63,qm 64 false 65 0,⟨(some (64,false)),some 66,.call 82 [.t 65]⟩,zG 64 false 67 (.Gv .i64 (.t 66)),⟨(some (64,false)),some 68,.call 126 [.t 67,kI 48,kI 57]⟩,qQ 69 64 68,zM 60 69] [0,4,60] (qc 60 (qr [zM 70 0,q1 71 127 70,zA 72 (.build zN [(0,1,kI 1),(1,1,.t 71)]),qS 5 4 72] [4]) .skip))))))))))))) (qs [zM 73 0,qN 74 73,qA 75 2 74,zS (.store false 1 (.t 75) (kB true))] [4] (qr [zA 76 (.build zN []),qS 5 4 76] [4]))))
theorem K.kF : iZ pZ 80 2 1 C.kF [.cell 4 true 5]=true:=by kernel_rfl
def C.rO : bZ:=(qs [qZ 2 10,qB 3 false] [0,2] (.seq (qs [zM 6 0,ql 7 6,qk 8 .gtr 7 2000] [0,2,8] (qc 8 (qr [zA 9 (.build zN []),qS 5 2 9,qB 3 false] [2,3]) .skip)) (qs [zM 10 0,zA 11 (.build [.c (.str []),lW 0,.c (.lit (.bool false))] [(0,1,.t 10)]),qX 12 11 11,zM 4 12] [0,2,4] (qs [zM 13 4,⟨none,some 14,.call 80 [.t 13,kI 5]⟩,qZ 5 12,qS 5 5 14] [0,2,4,5] (.seq (qs [zM 15 4,qN 16 15,qA 17 2 16,qF 18 1 17,zM 19 18,zG 19 false 20 (.load true 5 (.t 5)),⟨(some (19,false)),some 21,.call 83 [.t 20]⟩,zG 19 false 22 (.not (.t 21)),qQ 23 19 22,zM 24 23,zG 24 false 25 (.load true 5 (.t 5)),⟨(some (24,false)),some 26,.call 47 [.t 25]⟩,qm 24 false 27 0,zG 24 false 28 (.bin .neq (.t 26) (.t 27)),qQ 29 24 28] [2,5,29] (qc 29 (qr [zA 30 (.build zN []),qS 5 2 30,qB 3 false] [2,3]) .skip)) (qr [qT 31 5 5,qS 5 2 31,qB 3 true] [2,3]))))))
theorem K.rO : iZ pZ 53 1 0 C.rO [.cell 2 true 5,.tmp 3]=true:=by kernel_rfl
def C.ji : bZ:=(qs [zA 2 (.mv (.k (.jI 1))),qB 3 false] [0] (qs [zA 6 (.jK 10 1 0 [.str []] []),zM 4 6] [0,4] (.seq (qs [qI 5 0] [0,4,5] (.block 0 (.loop (.seq (qs [zM 7 5,zM 8 0,ql 9 8,qb 10 .lss 7 9,zM 11 10,qm 11 true 12 4,zG 11 true 13 (.len (.t 12)),zG 11 true 14 (.bin .leq (.t 13) (kI 4)),qP 15 11 14] [0,4,5,15] (qc 15 .skip (.exit 0))) (.block 1 (.block 2 (qs [zM 17 5,qk 18 .gtr 17 0,zM 19 18,qm 19 true 20 0,qm 19 true 21 5,zG 19 true 22 (.idxs (.t 20) (.t 21)),zG 19 true 23 (.bin .eql (.t 22) (.k (.c (.lit (.int .u8 44))))),qP 24 19 23,zM 16 24] [0,4,5,16] (qc 16 (.reg [zM 25 5,qk 26 .add 25 1,zM 5 26] [0,4,5]) (qs [zM 28 0,zM 29 5,zA 30 (.idxs (.t 28) (.t 29)),zA 31 (.bin .eql (.t 30) (.k (.c (.lit (.int .u8 42))))),zM 27 31] [0,4,5,27] (qc 27 (qs [zM 32 4,zA 33 (.jK 11 1 1 [.str []] [(0,.k (.c (.str [42])))]),zA 34 (.append 12 1 16 (.t 32) (.t 33)),zM 4 34] [0,4,5] (.reg [zM 35 5,qk 36 .add 35 1,zM 5 36] [0,4,5])) (qs [zM 38 5,qk 39 .add 38 6,zM 40 0,ql 41 40,qb 42 .leq 39 41,zM 37 42] [0,4,5,37] (qc 37 (qs [zM 43 4,zM 44 0,zM 45 5,qk 46 .add 45 1,zM 47 5,qk 48 .add 47 5,zA 49 (.Cm (.t 44) (some (.t 46)) (some (.t 48))),zA 50 (.jK 13 1 1 [.str []] [(0,.t 49)]),zA 51 (.append 14 1 16 (.t 43) (.t 50)),zM 4 51] [0,4,5] (.reg [zM 52 5,qk 53 .add 52 6,zM 5 53] [0,4,5])) (qr [zA 2 (.mv (.k (.jI 1))),qB 3 false] [2,3]))))))))))))) (.seq (qs [zM 54 4,q1 55 78 54,zM 56 0,qb 57 .neq 55 56,zM 58 57,qm 58 false 59 4,⟨(some (58,false)),some 60,.call 79 [.t 59]⟩,zG 58 false 61 (.not (.t 60)),qQ 62 58 61] [4,62] (qc 62 (qr [zA 2 (.mv (.k (.jI 1))),qB 3 false] [2,3]) .skip)) (qr [zM 63 4,zM 2 63,qB 3 true] [2,3])))))
theorem K.ji : iZ pZ 51 1 0 C.ji [.tmp 2,.tmp 3]=true:=by kernel_rfl
def C.rP : bZ:=(qs [zA 2 (.mv (.k (.c (.str [])))),zA 3 (.mv (.k (.c (.str []))))] [0] (.seq (qs [qI 4 0] [0,4] (.block 0 (.loop (.seq (qs [zM 5 4,zM 6 0,ql 7 6,qb 8 .lss 5 7] [0,4,8] (qc 8 .skip (.exit 0))) (.seq (.block 1 (qs [zM 11 0,zM 12 4,zA 13 (.idxs (.t 11) (.t 12)),zA 14 (.bin .eql (.t 13) (.k (.c (.lit (.int .u8 32)))))] [0,4,14] (qc 14 (.seq (.qW [(zM 15 0,[]),(zM 16 4,[]),(zA 17 (.Cm (.t 15) none (some (.t 16))),[0,1]),(zM 18 0,[]),(zM 19 4,[]),(qk 20 .add 19 1,[4]),(zA 21 (.Cm (.t 18) (some (.t 20)) none),[3,4,5]),(zM 2 17,[0,1,2]),(zM 3 21,[0,1,2,3,4,5,6,7])] [2,3]) .ret) .skip))) (.reg [zM 9 4,qk 10 .add 9 1,zM 4 10] [0,4])))))) (qr [zM 22 0,zM 2 22,zA 3 (.mv (.k (.c (.str []))))] [2,3])))
theorem K.rP : iZ pZ 49 1 0 C.rP [.tmp 2,.tmp 3]=true:=by kernel_rfl
def C.nJ : bZ:=(qs [qX 1 10 0,zA 2 (.mv (.k (.jI 1)))] [1] (qs [zA 5 (.jK 11 1 0 [.str []] []),zM 3 5] [1,3] (.seq (qs [qI 4 0] [1,3,4] (.block 0 (.loop (.seq (qs [zM 6 4,qA 7 4 1,qF 8 1 7,qL 9 8,qb 10 .lss 6 9] [1,3,4,10] (qc 10 .skip (.exit 0))) (.seq (.block 1 (.reg [zM 13 3,qA 14 4 1,qF 15 1 14,zM 16 4,qD 17 5 15 16,qA 18 2 17,qF 19 1 18,zA 20 (.jK 12 1 1 [.str []] [(0,.t 19)]),zA 21 (.append 13 1 16 (.t 13) (.t 20)),zM 3 21] [1,3,4])) (.reg [zM 11 4,qk 12 .add 11 1,zM 4 12] [1,3,4])))))) (qr [zM 22 3,zM 2 22] [2]))))
theorem K.nJ : iZ pZ 129 1 0 C.nJ [.tmp 2]=true:=by kernel_rfl
def C.mD : bZ:=(qs [qI 2 0] [0] (.seq (qs [zM 3 0] [3] (qc 3 (qr [qI 2 1] [2]) .skip)) (qr [qI 2 0] [2])))
theorem K.mD : iZ pZ 220 1 0 C.mD [.tmp 2]=true:=by kernel_rfl
def C.rf : bZ:=(qs [qI 4 0] [0,1] (qr [zM 5 0,zM 6 1,qb 7 .gtr 5 6,q1 8 220 7,zM 9 0,zM 10 1,qb 11 .lss 9 10,q1 12 220 11,qb 13 .sub 8 12,zM 4 13] [4]))
theorem K.rf : iZ pZ 200 2 0 C.rf [.tmp 4]=true:=by kernel_rfl
def C.oI : bZ:=(qs [qI 4 0] [0,1] (qr [zM 5 0,zM 6 1,qb 7 .gtr 5 6,q1 8 220 7,zM 9 0,zM 10 1,qb 11 .lss 9 10,q1 12 220 11,qb 13 .sub 8 12,zM 4 13] [4]))
theorem K.oI : iZ pZ 201 2 0 C.oI [.tmp 4]=true:=by kernel_rfl
def C.iO : bZ:=(qs [qX 2 10 0,qX 3 11 1,qI 4 0] [2,3] (.seq (qs [qA 7 0 2,qF 8 1 7,qA 9 0 3,qF 10 1 9,qb 11 .neq 8 10] [2,3,11] (qc 11 (qr [qA 12 0 2,qF 13 1 12,qA 14 0 3,qF 15 1 14,q2 16 200 13 15,zM 4 16] [4]) .skip)) (.seq (qs [qA 17 1 2,qF 18 1 17,qA 19 1 3,qF 20 1 19,qb 21 .neq 18 20] [2,3,21] (qc 21 (qr [qA 22 1 2,qF 23 1 22,qA 24 1 3,qF 25 1 24,q2 26 200 23 25,zM 4 26] [4]) .skip)) (.seq (qs [qA 27 2 2,qF 28 1 27,qA 29 2 3,qF 30 1 29,qb 31 .neq 28 30] [2,3,31] (qc 31 (qr [qA 32 2 2,qF 33 1 32,qA 34 2 3,qF 35 1 34,q2 36 201 33 35,zM 4 36] [4]) .skip)) (.seq (qs [qI 5 0] [2,3,5] (.block 0 (.loop (.seq (qs [zM 37 5,qA 38 4 2,qF 39 1 38,qL 40 39,qb 41 .lss 37 40,zM 42 41,qm 42 true 43 5,zG 42 true 44 (.kJ 4 (.t 3)),zG 42 true 45 (.load false 1 (.t 44)),zG 42 true 46 (.len (.t 45)),zG 42 true 47 (.bin .lss (.t 43) (.t 46)),qP 48 42 47] [2,3,5,48] (qc 48 .skip (.exit 0))) (.seq (.block 1 (.seq (.seq (.qW [(qA 51 0 2,[]),(qF 52 1 51,[0]),(qk 53 .eql 52 4,[0,1]),(zM 54 53,[0,1,2]),(zG 54 true 55 (.kJ 3 (.t 2)),[0,1,2,3]),(zG 54 true 56 (.load false 1 (.t 55)),[0,1,2,3,4]),(qm 54 true 57 5,[0,1,2,3]),(zG 54 true 58 (.wJ 1 (.t 56) (.t 57)),[0,1,2,3,4,5,6]),(zG 54 true 59 (.load false 1 (.t 58)),[0,1,2,3,4,5,6,7]),(zG 54 true 60 (.kJ 3 (.t 3)),[0,1,2,3]),(zG 54 true 61 (.load false 1 (.t 60)),[0,1,2,3,9]),(qm 54 true 62 5,[0,1,2,3]),(zG 54 true 63 (.wJ 1 (.t 61) (.t 62)),[0,1,2,3,9,10,11]),(zG 54 true 64 (.load false 1 (.t 63)),[0,1,2,3,9,10,11,12]),(zG 54 true 65 (.bin .neq (.t 59) (.t 64)),[0,1,2,3,4,5,6,7,8,9,10,11,12,13]),(qP 66 54 65,[0,1,2,3,4,5,6,7,8,9,10,11,12,13,14])] [2,3,5,66]) (qc 66 (.seq (.qW [(qA 67 3 2,[]),(qF 68 1 67,[0]),(zM 69 5,[]),(qD 70 1 68 69,[0,1,2]),(qF 71 1 70,[0,1,2,3]),(qA 72 3 3,[]),(qF 73 1 72,[5]),(zM 74 5,[]),(qD 75 1 73 74,[5,6,7]),(qF 76 1 75,[5,6,7,8]),(q2 77 201 71 76,[0,1,2,3,4,5,6,7,8,9]),(zM 4 77,[0,1,2,3,4,5,6,7,8,9,10])] [4]) .ret) .skip)) (.seq (.qW [(qA 78 4 2,[]),(qF 79 1 78,[0]),(zM 80 5,[]),(qD 81 5 79 80,[0,1,2]),(qT 82 5 81,[0,1,2,3]),(qA 83 4 3,[]),(qF 84 1 83,[5]),(zM 85 5,[]),(qD 86 5 84 85,[5,6,7]),(qT 87 5 86,[5,6,7,8]),(q2 88 175 82 87,[0,1,2,3,4,5,6,7,8,9]),(zM 6 88,[0,1,2,3,4,5,6,7,8,9,10])] [2,3,5,6]) (qs [zM 89 6,qk 90 .neq 89 0] [2,3,5,6,90] (qc 90 (qr [zM 91 6,zM 4 91] [4]) .skip))))) (.reg [zM 49 5,qk 50 .add 49 1,zM 5 50] [2,3,5])))))) (qr [qA 92 4 2,qF 93 1 92,qL 94 93,qA 95 4 3,qF 96 1 95,qL 97 96,q2 98 200 94 97,zM 4 98] [4]))))))
theorem K.iO : iZ pZ 175 2 0 C.iO [.tmp 4]=true:=by kernel_rfl
def C.wC : bZ:=(qs [qX 2 10 0,qX 3 11 1,qB 4 false] [2,3] (qr [qT 5 5 2,qT 6 5 3,q2 7 175 5 6,qk 8 .eql 7 0,zM 4 8] [4]))
theorem K.wC : iZ pZ 131 2 0 C.wC [.tmp 4]=true:=by kernel_rfl
def C.lG : bZ:=(qs [qX 1 10 0,zA 2 (.alloc 11 [lW 0,.jI 1,.jI 1,lW 0,lW 0,.c (.str []),.jI 1,.jI 5]),qB 3 false] [1,2] (.seq (qs [qT 8 5 1,q1 9 83 8,qO 10 9,zM 11 10,zG 11 false 12 (.kJ 0 (.t 1)),zG 11 false 13 (.load false 1 (.t 12)),zG 11 false 14 (.bin .neq (.t 13) (kI 4)),qQ 15 11 14,zM 16 15,zG 16 false 17 (.kJ 4 (.t 1)),zG 16 false 18 (.load false 1 (.t 17)),zG 16 false 19 (.len (.t 18)),zG 16 false 20 (.bin .neq (.t 19) (kI 4)),qQ 21 16 20] [1,2,21] (qc 21 (qr [zA 22 (.build [lW 0,.jI 1,.jI 1,lW 0,lW 0,.c (.str []),.jI 1,.jI 5] []),qS 8 2 22,qB 3 false] [2,3]) .skip)) (qs [⟨none,some 23,.call 128 []⟩,zM 4 23] [1,2,4] (qs [qI 5 0] [1,2,4,5] (.seq (qs [qI 6 1] [1,2,4,5,6] (.block 0 (.loop (.seq (qs [zM 24 6,zM 25 4,qL 26 25,qb 27 .lss 24 26] [1,2,4,5,6,27] (qc 27 .skip (.exit 0))) (.seq (.block 1 (.seq (.qW [(qA 30 4 1,[]),(qF 31 1 30,[0]),(zA 32 (.wJ 5 (.t 31) (kI 1)),[0,1]),(qA 33 2 32,[0,1,2]),(qF 34 1 33,[0,1,2,3]),(zM 35 4,[]),(zM 36 6,[]),(qD 37 1 35 36,[5,6]),(qF 38 1 37,[5,6,7]),(qb 39 .eql 34 38,[0,1,2,3,4,5,6,7,8])] [1,2,4,5,6,39]) (qc 39 (.reg [zM 40 6,zM 5 40] [1,2,4,5,6]) .skip))) (.reg [zM 28 6,qk 29 .add 28 1,zM 6 29] [1,2,4,5,6])))))) (.seq (.qW [(zM 41 5,[]),(qA 42 4 1,[]),(qF 43 1 42,[1]),(zA 44 (.wJ 5 (.t 43) (kI 2)),[1,2]),(qT 45 5 44,[1,2,3]),(q1 46 129 45,[1,2,3,4]),(qA 47 4 1,[]),(qF 48 1 47,[6]),(zA 49 (.wJ 5 (.t 48) (kI 0)),[6,7]),(qT 50 5 49,[6,7,8]),(q1 51 129 50,[1,2,3,4,5,6,7,8,9]),(qA 52 4 1,[]),(qF 53 1 52,[11]),(zA 54 (.wJ 5 (.t 53) (kI 3)),[11,12]),(qT 55 5 54,[11,12,13]),(q1 56 48 55,[1,2,3,4,5,6,7,8,9,10,11,12,13,14]),(zA 57 (.build [lW 0,.jI 1,.jI 1,lW 0,lW 0,.c (.str []),.jI 1,.jI 5] [(0,1,.t 41),(1,1,.t 46),(2,1,.t 51),(3,5,.t 56)]),[0,1,2,3,4,5,6,7,8,9,10,11,12,13,14,15]),(zA 7 (.alloc 12 [lW 0,.jI 1,.jI 1,lW 0,lW 0,.c (.str []),.jI 1,.jI 5]),[]),(qS 8 7 57,[0,1,2,3,4,5,6,7,8,9,10,11,12,13,14,15,16,17])] [1,2,7]) (.seq (.seq (.qW [(qT 58 8 7,[]),(q1 59 130 58,[0]),(qO 60 59,[0,1]),(zM 61 60,[0,1,2]),(zG 61 false 62 (.load true 8 (.t 7)),[0,1,2,3]),(⟨(some (61,false)),some 63,.call 85 [.t 62]⟩,[0,1,2,3,4]),(zG 61 false 64 (.load true 5 (.t 1)),[0,1,2,3]),(⟨(some (61,false)),some 65,.call 131 [.t 63,.t 64]⟩,[0,1,2,3,4,5,6]),(zG 61 false 66 (.not (.t 65)),[0,1,2,3,4,5,6,7]),(qQ 67 61 66,[0,1,2,3,4,5,6,7,8])] [2,7,67]) (qc 67 (qr [zA 68 (.build [lW 0,.jI 1,.jI 1,lW 0,lW 0,.c (.str []),.jI 1,.jI 5] []),qS 8 2 68,qB 3 false] [2,3]) .skip)) (qr [qT 69 8 7,qS 8 2 69,qB 3 true] [2,3]))))))))
theorem K.lG : iZ pZ 81 1 0 C.lG [.cell 2 true 8,.tmp 3]=true:=by kernel_rfl
def C.mJ : bZ:=(qs [zA 2 (.mv (.k (.jI 8))),qB 3 false] [0] (qs [zA 9 (.jK 10 8 0 [.lit (.int .i64 0),.sl 1 [],.sl 1 [],.lit (.int .i64 0),.lit (.int .i64 0),.str [],.sl 1 [],.sl 5 []] []),zM 4 9] [0,4] (.seq (.block 0 (.loop (.seq (qs [zM 10 0,ql 11 10,qk 12 .gtr 11 0,zM 13 12,qm 13 true 14 4,zG 13 true 15 (.len (.t 14)),zG 13 true 16 (.bin .leq (.t 15) (kI 12)),qP 17 13 16] [0,4,17] (qc 17 .skip (.exit 0))) (.block 1 (qs [zM 18 0,zA 19 (.build [.c (.str []),lW 0,.c (.lit (.bool false))] [(0,1,.t 18)]),qX 20 11 19,zM 5 20] [0,4,5] (qs [zM 21 5,⟨none,some 22,.call 80 [.t 21,kI 5]⟩,qZ 6 12,qS 5 6 22] [0,4,5,6] (qs [qT 24 5 6,q1 25 81 24,zM 23 25,qE 26 23 0,qE 27 23 1,zA 7 (.alloc 13 [lW 0,.jI 1,.jI 1,lW 0,lW 0,.c (.str []),.jI 1,.jI 5]),qS 8 7 26,zM 8 27] [0,4,5,7,8] (.seq (qs [zM 28 5,qN 29 28,qA 30 2 29,qF 31 1 30,zM 32 31,qm 32 false 33 8,zG 32 false 34 (.not (.t 33)),qQ 35 32 34,zM 36 35,qm 36 false 37 5,⟨(some (36,false)),some 38,.call 82 [.t 37]⟩,zG 36 false 39 (.bin .neq (.t 38) (.k (.c (.lit (.int .u8 59))))),qQ 40 36 39] [0,4,5,7,40] (qc 40 (qr [zA 2 (.mv (.k (.jI 8))),qB 3 false] [2,3]) .skip)) (qs [zM 41 4,qT 42 8 7,zA 43 (.jK 14 8 1 [.lit (.int .i64 0),.sl 1 [],.sl 1 [],.lit (.int .i64 0),.lit (.int .i64 0),.str [],.sl 1 [],.sl 5 []] [(0,.t 42)]),zA 44 (.append 15 8 136 (.t 41) (.t 43)),zM 4 44] [0,4,5] (.reg [zM 45 0,zM 46 5,qN 47 46,qA 48 1 47,qF 49 1 48,qk 50 .add 49 1,zA 51 (.Cm (.t 45) (some (.t 50)) none),zM 0 51] [0,4])))))))))) (qr [zM 52 4,zM 2 52,qB 3 true] [2,3]))))
theorem K.mJ : iZ pZ 52 1 0 C.mJ [.tmp 2,.tmp 3]=true:=by kernel_rfl
def C.fM : bZ:=(qs [zA 2 (.alloc 10 [lW 0,.c (.str []),.jI 1,.jI 1,lW 0,lW 0,.c (.str []),.jI 1,.jI 5,.jI 8]),qB 3 false] [0,2] (.seq (qs [zM 20 0,ql 21 20,qk 22 .gtr 21 2000] [0,2,22] (qc 22 (qr [zA 23 (.build [lW 0,.c (.str []),.jI 1,.jI 1,lW 0,lW 0,.c (.str []),.jI 1,.jI 5,.jI 8] []),qS 10 2 23,qB 3 false] [2,3]) .skip)) (qs [zM 25 0,q1 26 49 25,zM 24 26,qE 27 24 0,qE 28 24 1,zM 4 27,zM 5 28] [0,2,4,5] (qs [zM 30 5,q1 31 49 30,zM 29 31,qE 32 29 0,qE 33 29 1,zM 6 32,zM 7 33] [0,2,4,6,7] (qs [zM 35 7,q1 36 49 35,zM 34 36,qE 37 34 0,qE 38 34 1,zM 8 37,zM 9 38] [0,2,4,6,8,9] (qs [zM 40 9,q1 41 49 40,zM 39 41,qE 42 39 0,qE 43 39 1,zM 10 42,zM 11 43] [0,2,4,6,8,10,11] (qs [zM 44 6,zA 45 (.jK 11 1 0 [.str []] []),zA 46 (.jK 12 1 0 [.str []] []),zA 47 (.jK 13 8 0 [.lit (.int .i64 0),.sl 1 [],.sl 1 [],.lit (.int .i64 0),.lit (.int .i64 0),.str [],.sl 1 [],.sl 5 []] []),zA 48 (.build [lW 0,.c (.str []),.jI 1,.jI 1,lW 0,lW 0,.c (.str []),.jI 1,.jI 5,.jI 8] [(1,1,.t 44),(2,1,.t 45),(3,1,.t 46),(9,1,.t 47)]),zA 12 (.alloc 14 [lW 0,.c (.str []),.jI 1,.jI 1,lW 0,lW 0,.c (.str []),.jI 1,.jI 5,.jI 8]),qS 10 12 48] [0,2,4,8,10,11,12] (qs [⟨none,some 49,.call 50 []⟩,zM 13 49] [0,2,4,8,10,11,12,13] (.seq (qs [qI 14 1] [0,2,4,8,10,11,12,13,14] (.block 0 (.loop (.seq (qs [zM 50 14,zM 51 13,qL 52 51,qb 53 .lss 50 52] [0,2,4,8,10,11,12,13,14,53] (qc 53 .skip (.exit 0))) (.seq (.block 1 (qs [zM 56 13,zM 57 14,qD 58 1 56 57,qF 59 1 58,zM 60 4,qb 61 .eql 59 60] [0,2,4,8,10,11,12,13,14,61] (qc 61 (.reg [zM 62 14,qA 63 0 12,qU 1 63 62] [0,2,4,8,10,11,12,13,14]) .skip))) (.reg [zM 54 14,qk 55 .add 54 1,zM 14 55] [0,2,4,8,10,11,12,13,14])))))) (qs [zM 65 8,q1 66 51 65,zM 64 66,qE 67 64 0,qE 68 64 1,zM 15 67,zM 16 68] [0,2,10,11,12,15,16] (qs [zM 70 10,q1 71 51 70,zM 69 71,qE 72 69 0,qE 73 69 1,zM 17 72,zM 18 73] [0,2,11,12,15,16,17,18] (qs [qB 19 true] [0,2,11,12,15,16,17,18] (.cut (qs [qA 74 0 12,qF 75 1 74,qk 76 .eql 75 4] [0,2,11,12,15,16,17,18,76] (qc 76 (.reg [zM 78 11,q1 79 52 78,zM 77 79,qE 80 77 0,qE 81 77 1,qA 82 9 12,qU 1 82 80,zM 19 81] [0,2,12,15,16,17,18,19]) (.reg [zM 84 11,q1 85 53 84,zM 83 85,qE 86 83 0,qE 87 83 1,qA 88 4 12,qS 5 88 86,zM 19 87] [0,2,12,15,16,17,18,19]))) (qs [zM 89 15,qA 90 2 12,qU 1 90 89] [0,2,12,16,17,18,19] (qs [zM 91 17,qA 92 3 12,qU 1 92 91] [0,2,12,16,18,19] (.seq (qs [zM 93 16,qO 94 93,zM 95 94,qm 95 false 96 18,zG 95 false 97 (.not (.t 96)),qQ 98 95 97,zM 99 98,qm 99 false 100 19,zG 99 false 101 (.not (.t 100)),qQ 102 99 101,zM 103 102,zG 103 false 104 (.load true 10 (.t 12)),⟨(some (103,false)),some 105,.call 54 [.t 104]⟩,qm 103 false 106 0,zG 103 false 107 (.bin .neq (.t 105) (.t 106)),qQ 108 103 107,zM 109 108,qm 109 false 110 0,zG 109 false 111 (.bin .eql (.t 110) (.k (.c (.str [])))),qQ 112 109 111] [2,12,112] (qc 112 (qr [zA 113 (.build [lW 0,.c (.str []),.jI 1,.jI 1,lW 0,lW 0,.c (.str []),.jI 1,.jI 5,.jI 8] []),qS 10 2 113,qB 3 false] [2,3]) .skip)) (qr [qT 114 10 12,qS 10 2 114,qB 3 true] [2,3])))))))))))))))))
theorem K.fM : iZ pZ 30 1 0 C.fM [.cell 2 true 10,.tmp 3]=true:=by kernel_rfl
def C.fK : bZ:=(qs [qX 1 10 0,zA 2 (.alloc 11 [.jI 7,lW 0])] [1,2] (qs [zA 5 (.jK 12 7 0 [.str [],.lit (.int .i64 0),.lit (.int .i64 0),.lit (.int .i64 0),.str [],.sl 1 [],.sl 5 []] []),zM 3 5] [1,2,3] (.seq (qs [qI 4 0] [1,2,3,4] (.block 0 (.loop (.seq (qs [zM 6 4,qA 7 0 1,qF 8 1 7,qL 9 8,qb 10 .lss 6 9] [1,2,3,4,10] (qc 10 .skip (.exit 0))) (.seq (.block 1 (.qW [(zM 13 3,[]),(qA 14 0 1,[]),(qF 15 1 14,[1]),(zM 16 4,[]),(qD 17 7 15 16,[1,2,3]),(qA 18 0 17,[1,2,3,4]),(qF 19 1 18,[1,2,3,4,5]),(qA 20 0 1,[]),(qF 21 1 20,[7]),(zM 22 4,[]),(qD 23 7 21 22,[7,8,9]),(qA 24 1 23,[7,8,9,10]),(qF 25 1 24,[7,8,9,10,11]),(qA 26 0 1,[]),(qF 27 1 26,[13]),(zM 28 4,[]),(qD 29 7 27 28,[13,14,15]),(qA 30 2 29,[13,14,15,16]),(qT 31 5 30,[13,14,15,16,17]),(q1 32 48 31,[13,14,15,16,17,18]),(zA 33 (.build [.c (.str []),lW 0,lW 0,lW 0,.c (.str []),.jI 1,.jI 5] [(0,1,.t 19),(1,1,.t 25),(2,5,.t 32)]),[1,2,3,4,5,6,7,8,9,10,11,12,13,14,15,16,17,18,19]),(zA 34 (.jK 13 7 1 [.str [],.lit (.int .i64 0),.lit (.int .i64 0),.lit (.int .i64 0),.str [],.sl 1 [],.sl 5 []] [(0,.t 33)]),[1,2,3,4,5,6,7,8,9,10,11,12,13,14,15,16,17,18,19,20]),(zA 35 (.append 14 7 104 (.t 13) (.t 34)),[0,1,2,3,4,5,6,7,8,9,10,11,12,13,14,15,16,17,18,19,20,21]),(zM 3 35,[0,1,2,3,4,5,6,7,8,9,10,11,12,13,14,15,16,17,18,19,20,21,22])] [1,2,3,4])) (.reg [zM 11 4,qk 12 .add 11 1,zM 4 12] [1,2,3,4])))))) (qr [zM 36 3,qA 37 1 1,qF 38 1 37,zA 39 (.build [.jI 7,lW 0] [(0,1,.t 36),(1,1,.t 38)]),qS 2 2 39] [2]))))
theorem K.fK : iZ pZ 29 1 0 C.fK [.cell 2 true 2]=true:=by kernel_rfl
def C.jM : bZ:=(qs [qX 2 10 0,qI 4 0] [1,2] (.seq (qs [qI 5 0] [1,2,5] (.block 0 (.loop (.seq (qs [zM 6 5,qA 7 4 2,qF 8 1 7,qL 9 8,qb 10 .lss 6 9] [1,2,5,10] (qc 10 .skip (.exit 0))) (.seq (.block 1 (qs [qA 13 0 2,qF 14 1 13,qk 15 .eql 14 4,zM 16 15,zG 16 true 17 (.kJ 3 (.t 2)),zG 16 true 18 (.load false 1 (.t 17)),qm 16 true 19 5,zG 16 true 20 (.wJ 1 (.t 18) (.t 19)),zG 16 true 21 (.load false 1 (.t 20)),qm 16 true 22 1,zG 16 true 23 (.bin .eql (.t 21) (.t 22)),qP 24 16 23,zM 25 24,zG 25 false 26 (.kJ 0 (.t 2)),zG 25 false 27 (.load false 1 (.t 26)),zG 25 false 28 (.bin .eql (.t 27) (kI 3)),qm 25 false 29 28,qm 29 true 30 5,⟨(some (29,true)),some 31,.call 27 [.t 30]⟩,qm 29 true 32 1,zG 29 true 33 (.bin .eql (.t 31) (.t 32)),zG 25 false 34 (.pick (.t 29) (.t 33) (kB false)),qQ 35 25 34] [1,2,5,35] (qc 35 (qr [zM 36 5,zM 4 36] [4]) .skip))) (.reg [zM 11 5,qk 12 .add 11 1,zM 5 12] [1,2,5])))))) (qr [qI 4 (-1)] [4])))
theorem K.jM : iZ pZ 180 2 0 C.jM [.tmp 4]=true:=by kernel_rfl
def C.l9 : bZ:=(qs [qX 2 10 0,qI 4 0,qB 5 false] [1,2] (qs [qT 8 5 2,zM 9 1,q2 10 180 8 9,zM 6 10] [1,2,6] (.seq (qs [zM 11 6,qk 12 .geq 11 0] [1,2,6,12] (qc 12 (.seq (.qW [(zM 13 6,[]),(qA 14 0 2,[]),(qF 15 1 14,[1]),(qk 16 .eql 15 4,[1,2]),(zM 4 13,[0]),(zM 5 16,[0,1,2,3,4])] [4,5]) .ret) .skip)) (.seq (qs [qA 17 0 2,qF 18 1 17,qk 19 .eql 18 3,zM 20 19,qm 20 true 21 1,zG 20 true 22 (.bin .eql (.t 21) (.k (.c (.str [45])))),qm 20 true 23 22,qm 23 false 24 1,zG 23 false 25 (.kJ 4 (.t 2)),zG 23 false 26 (.load false 1 (.t 25)),zG 23 false 27 (.len (.t 26)),⟨(some (23,false)),some 28,.call 27 [.t 27]⟩,zG 23 false 29 (.bin .eql (.t 24) (.t 28)),zG 20 true 30 (.pick (.t 23) (kB true) (.t 29)),qP 31 20 30] [1,2,31] (qc 31 (qr [qA 32 4 2,qF 33 1 32,qL 34 33,zM 4 34,qB 5 false] [4,5]) .skip)) (.seq (qs [qI 7 0] [1,2,7] (.block 0 (.loop (.seq (qs [qA 35 0 2,qF 36 1 35,qk 37 .eql 36 4,zM 38 37,qm 38 true 39 7,zG 38 true 40 (.kJ 4 (.t 2)),zG 38 true 41 (.load false 1 (.t 40)),zG 38 true 42 (.len (.t 41)),zG 38 true 43 (.bin .leq (.t 39) (.t 42)),qP 44 38 43] [1,2,7,44] (qc 44 .skip (.exit 0))) (.seq (.block 1 (qs [zM 47 7,qA 48 4 2,qF 49 1 48,qL 50 49,qb 51 .eql 47 50,zM 52 51,qm 52 false 53 1,zG 52 false 54 (.kJ 3 (.t 2)),zG 52 false 55 (.load false 1 (.t 54)),qm 52 false 56 7,zG 52 false 57 (.wJ 1 (.t 55) (.t 56)),zG 52 false 58 (.load false 1 (.t 57)),zG 52 false 59 (.bin .lss (.t 53) (.t 58)),qQ 60 52 59] [1,2,7,60] (qc 60 (qr [zM 61 7,zM 4 61,qB 5 false] [4,5]) .skip))) (.reg [zM 45 7,qk 46 .add 45 1,zM 7 46] [1,2,7])))))) (qr [qI 4 (-1),qB 5 false] [4,5]))))))
theorem K.l9 : iZ pZ 206 2 0 C.l9 [.tmp 4,.tmp 5]=true:=by kernel_rfl
def C.oW : bZ:=(qs [qX 3 10 0,qX 5 11 2,qZ 6 12] [1,3,5,6] (qs [qT 8 5 3,q1 9 48 8,qZ 7 13,qS 5 7 9] [1,5,6,7] (.seq (.qW [(qA 10 4 7,[]),(qF 11 1 10,[0]),(zM 12 1,[]),(qT 13 5 5,[]),(q1 14 48 13,[3]),(qD 15 5 11 12,[0,1,2,3,4]),(qS 5 15 14,[0,1,2,3,4,5])] [6,7]) (qr [qT 16 5 7,qS 5 6 16] [6]))))
theorem K.oW : iZ pZ 182 3 0 C.oW [.cell 6 true 5]=true:=by kernel_rfl
def C.qy : bZ:=(qs [qX 3 10 0,qX 5 11 2,qZ 6 12,qB 7 false] [1,3,5,6] (qs [qT 14 5 3,zM 15 1,q2 16 206 14 15,zM 13 16,qE 17 13 0,qE 18 13 1,zM 8 17,zM 9 18] [1,3,5,6,8,9] (.seq (qs [zM 19 8,qk 20 .lss 19 0] [1,3,5,6,8,9,20] (qc 20 (qr [zA 21 (.build zN []),qS 5 6 21,qB 7 false] [6,7]) .skip)) (.seq (qs [zM 22 9] [1,3,5,6,8,22] (qc 22 (qr [qT 23 5 3,zM 24 8,qT 25 5 5,q3 26 182 23 24 25,qS 5 6 26,qB 7 true] [6,7]) .skip)) (qs [qT 27 5 3,q1 28 48 27,qZ 10 13,qS 5 10 28] [1,3,5,6,8,10] (.seq (.qW [(zA 29 (.jK 14 5 0 [.lit (.int .i64 0),.lit (.int .i64 0),.str [],.sl 1 [],.sl 5 []] []),[]),(qA 30 4 10,[]),(qF 31 1 30,[1]),(zM 32 8,[]),(zA 33 (.FD 5 (.t 31) none (some (.t 32))),[1,2,3]),(zA 34 (.append 15 5 80 (.t 29) (.t 33)),[0,1,2,3,4]),(qT 35 5 5,[]),(q1 36 48 35,[0,1,2,3,4,5,6]),(zA 37 (.jK 16 5 1 [.lit (.int .i64 0),.lit (.int .i64 0),.str [],.sl 1 [],.sl 5 []] [(0,.t 36)]),[0,1,2,3,4,5,6,7]),(zA 38 (.append 17 5 80 (.t 34) (.t 37)),[0,1,2,3,4,5,6,7,8]),(zM 11 38,[0,1,2,3,4,5,6,7,8,9])] [1,3,6,8,10,11]) (qs [zM 39 11,qA 40 4 10,qF 41 1 40,zM 42 8,zA 43 (.FD 5 (.t 41) (some (.t 42)) none),zA 44 (.append 18 5 80 (.t 39) (.t 43)),zM 11 44] [1,3,6,8,10,11] (.seq (qs [qA 45 0 3,qF 46 1 45,qk 47 .eql 46 3] [1,3,6,8,10,11,47] (qc 47 (qr [qA 48 0 3,qF 49 1 48,zA 50 (.jK 19 1 0 [.str []] []),zM 51 11,zA 52 (.build zN [(0,1,.t 49),(3,1,.t 50),(4,1,.t 51)]),qS 5 6 52,qB 7 true] [6,7]) .skip)) (qs [zA 53 (.jK 20 1 0 [.str []] []),qA 54 3 10,qF 55 1 54,zM 56 8,zA 57 (.FD 1 (.t 55) none (some (.t 56))),zA 58 (.append 21 1 16 (.t 53) (.t 57)),zM 59 1,zA 60 (.jK 22 1 1 [.str []] [(0,.t 59)]),zA 61 (.append 23 1 16 (.t 58) (.t 60)),zM 12 61] [3,6,8,10,11,12] (qs [zM 62 12,qA 63 3 10,qF 64 1 63,zM 65 8,zA 66 (.FD 1 (.t 64) (some (.t 65)) none),zA 67 (.append 24 1 16 (.t 62) (.t 66)),zM 12 67] [3,6,11,12] (qr [qA 68 0 3,qF 69 1 68,zM 70 12,zM 71 11,zA 72 (.build zN [(0,1,.t 69),(3,1,.t 70),(4,1,.t 71)]),qS 5 6 72,qB 7 true] [6,7])))))))))))
theorem K.qy : iZ pZ 183 3 0 C.qy [.cell 6 true 5,.tmp 7]=true:=by kernel_rfl
def C.tZ : bZ:=(qs [qX 2 10 0,qZ 4 11,qB 5 false] [1,2,4] (.seq (qs [qI 6 0] [1,2,4,6] (.block 0 (.loop (.seq (qs [zM 8 6,zM 9 1,qL 10 9,qb 11 .lss 8 10] [1,2,4,6,11] (qc 11 .skip (.exit 0))) (.seq (.block 1 (.seq (.qW [(qT 14 5 2,[]),(zM 15 1,[]),(zM 16 6,[]),(qD 17 1 15 16,[1,2]),(qF 18 1 17,[1,2,3]),(q2 19 180 14 18,[0,1,2,3,4]),(zM 7 19,[0,1,2,3,4,5])] [1,2,4,6,7]) (.seq (qs [zM 20 7,qk 21 .lss 20 0] [1,2,4,6,7,21] (qc 21 (qr [zA 22 (.build zN []),qS 5 4 22,qB 5 false] [4,5]) .skip)) (.reg [qA 23 4 2,qF 24 1 23,zM 25 7,qD 26 5 24 25,qT 27 5 26,qS 5 2 27] [1,2,4,6])))) (.reg [zM 12 6,qk 13 .add 12 1,zM 6 13] [1,2,4,6])))))) (qr [qT 28 5 2,q1 29 48 28,qS 5 4 29,qB 5 true] [4,5])))
theorem K.tZ : iZ pZ 204 2 0 C.tZ [.cell 4 true 5,.tmp 5]=true:=by kernel_rfl
def C.o9 : bZ:=(qs [qX 3 10 0,qX 5 11 2,qZ 6 12,qB 7 false] [1,3,5,6] (.seq (qs [zM 11 1,qL 12 11,qk 13 .eql 12 0] [1,3,5,6,13] (qc 13 (qr [qT 14 5 5,q1 15 48 14,qS 5 6 15,qB 7 true] [6,7]) .skip)) (.seq (.qW [(qT 16 5 3,[]),(zM 17 1,[]),(zA 18 (.wJ 1 (.t 17) (kI 0)),[1]),(qF 19 1 18,[1,2]),(q2 20 180 16 19,[0,1,2,3]),(zM 8 20,[0,1,2,3,4])] [1,3,5,6,8]) (.seq (qs [zM 21 8,qk 22 .lss 21 0] [1,3,5,6,8,22] (qc 22 (qr [zA 23 (.build zN []),qS 5 6 23,qB 7 false] [6,7]) .skip)) (.seq (.qW [(qA 25 4 3,[]),(qF 26 1 25,[0]),(zM 27 8,[]),(qD 28 5 26 27,[0,1,2]),(qT 29 5 28,[0,1,2,3]),(zM 30 1,[]),(zA 31 (.FD 1 (.t 30) (some (kI 1)) none),[5]),(qT 32 5 5,[]),(q3 33 203 29 31 32,[0,1,2,3,4,5,6,7]),(zM 24 33,[0,1,2,3,4,5,6,7,8]),(qE 34 24 0,[0,1,2,3,4,5,6,7,8,9]),(qE 35 24 1,[0,1,2,3,4,5,6,7,8,9]),(qZ 9 13,[]),(qS 5 9 34,[0,1,2,3,4,5,6,7,8,9,10,12]),(zM 10 35,[0,1,2,3,4,5,6,7,8,9,10,11,12,13])] [3,6,8,9,10]) (.seq (qs [zM 36 10,qO 37 36] [3,6,8,9,37] (qc 37 (qr [zA 38 (.build zN []),qS 5 6 38,qB 7 false] [6,7]) .skip)) (qr [qT 39 5 3,zM 40 8,qT 41 5 9,q3 42 182 39 40 41,qS 5 6 42,qB 7 true] [6,7])))))))
theorem K.o9 : iZ pZ 203 3 0 C.o9 [.cell 6 true 5,.tmp 7]=true:=by kernel_rfl
def C.uG : bZ:=(qs [qX 3 10 0,qX 5 11 2,qZ 6 12,qB 7 false] [1,3,5,6] (.seq (qs [zM 13 1,qL 14 13,qk 15 .eql 14 0] [1,3,5,6,15] (qc 15 (qr [qT 16 5 5,q1 17 48 16,qS 5 6 17,qB 7 true] [6,7]) .skip)) (qs [zM 18 1,qL 19 18,qk 20 .sub 19 1,zM 8 20] [1,3,5,6,8] (.seq (.qW [(qT 22 5 3,[]),(zM 23 1,[]),(zM 24 8,[]),(zA 25 (.FD 1 (.t 23) none (some (.t 24))),[1,2]),(q2 26 204 22 25,[0,1,2,3]),(zM 21 26,[0,1,2,3,4]),(qE 27 21 0,[0,1,2,3,4,5]),(qE 28 21 1,[0,1,2,3,4,5]),(qZ 9 13,[]),(qS 5 9 27,[0,1,2,3,4,5,6,8]),(zM 10 28,[0,1,2,3,4,5,6,7,8,9])] [1,3,5,6,8,9,10]) (.seq (qs [zM 29 10,qO 30 29] [1,3,5,6,8,9,30] (qc 30 (qr [zA 31 (.build zN []),qS 5 6 31,qB 7 false] [6,7]) .skip)) (.seq (.qW [(qT 33 5 9,[]),(zM 34 1,[]),(zM 35 8,[]),(qD 36 1 34 35,[1,2]),(qF 37 1 36,[1,2,3]),(qT 38 5 5,[]),(q3 39 183 33 37 38,[0,1,2,3,4,5]),(zM 32 39,[0,1,2,3,4,5,6]),(qE 40 32 0,[0,1,2,3,4,5,6,7]),(qE 41 32 1,[0,1,2,3,4,5,6,7]),(qZ 11 14,[]),(qS 5 11 40,[0,1,2,3,4,5,6,7,8,10]),(zM 12 41,[0,1,2,3,4,5,6,7,8,9,10,11])] [1,3,6,8,11,12]) (.seq (qs [zM 42 12,qO 43 42] [1,3,6,8,11,43] (qc 43 (qr [zA 44 (.build zN []),qS 5 6 44,qB 7 false] [6,7]) .skip)) (.seq (.qW [(qT 45 5 3,[]),(zM 46 1,[]),(zM 47 8,[]),(zA 48 (.FD 1 (.t 46) none (some (.t 47))),[1,2]),(qT 49 5 11,[]),(q3 50 203 45 48 49,[0,1,2,3,4]),(qE 51 50 0,[0,1,2,3,4,5]),(qE 52 50 1,[0,1,2,3,4,5]),(qS 5 6 51,[0,1,2,3,4,5,6,7]),(zM 7 52,[0,1,2,3,4,5,6,7,8])] [6,7]) .ret))))))))
theorem K.uG : iZ pZ 202 3 0 C.uG [.cell 6 true 5,.tmp 7]=true:=by kernel_rfl
def C.nI : bZ:=(qs [qB 4 false] [0,1] (.seq (qs [qI 5 0] [0,1,5] (.block 0 (.loop (.seq (qs [zM 6 5,zM 7 1,qL 8 7,qb 9 .lss 6 8] [0,1,5,9] (qc 9 .skip (.exit 0))) (.seq (.block 1 (.seq (.qW [(zM 12 5,[]),(zM 13 0,[]),(qL 14 13,[1]),(qb 15 .geq 12 14,[0,1,2]),(zM 16 15,[0,1,2,3]),(qm 16 false 17 0,[0,1,2,3,4]),(qm 16 false 18 5,[0,1,2,3,4]),(zG 16 false 19 (.wJ 1 (.t 17) (.t 18)),[0,1,2,3,4,5,6]),(zG 16 false 20 (.load false 1 (.t 19)),[0,1,2,3,4,5,6,7]),(qm 16 false 21 1,[0,1,2,3,4]),(qm 16 false 22 5,[0,1,2,3,4]),(zG 16 false 23 (.wJ 1 (.t 21) (.t 22)),[0,1,2,3,4,9,10]),(zG 16 false 24 (.load false 1 (.t 23)),[0,1,2,3,4,9,10,11]),(zG 16 false 25 (.bin .neq (.t 20) (.t 24)),[0,1,2,3,4,5,6,7,8,9,10,11,12]),(qQ 26 16 25,[0,1,2,3,4,5,6,7,8,9,10,11,12,13])] [0,1,5,26]) (qc 26 (qr [qB 4 false] [4]) .skip))) (.reg [zM 10 5,qk 11 .add 10 1,zM 5 11] [0,1,5])))))) (qr [qB 4 true] [4])))
theorem K.nI : iZ pZ 205 2 0 C.nI [.tmp 4]=true:=by kernel_rfl
def C.kM : bZ:=(qs [qX 2 10 0,qZ 4 11,qB 5 false] [1,2,4] (qs [zM 12 1,qL 13 12,qk 14 .sub 13 1,zM 6 14] [1,2,4,6] (.seq (qs [zM 15 6,qk 16 .lss 15 0] [1,2,4,6,16] (qc 16 (qr [zA 17 (.build zN []),qS 5 4 17,qB 5 false] [4,5]) .skip)) (.seq (.qW [(qT 19 5 2,[]),(zM 20 1,[]),(zM 21 6,[]),(zA 22 (.FD 1 (.t 20) none (some (.t 21))),[1,2]),(q2 23 204 19 22,[0,1,2,3]),(zM 18 23,[0,1,2,3,4]),(qE 24 18 0,[0,1,2,3,4,5]),(qE 25 18 1,[0,1,2,3,4,5]),(qZ 7 12,[]),(qS 5 7 24,[0,1,2,3,4,5,6,8]),(zM 8 25,[0,1,2,3,4,5,6,7,8,9])] [1,2,4,6,7,8]) (.seq (qs [zM 26 8,qO 27 26] [1,2,4,6,7,27] (qc 27 (qr [zA 28 (.build zN []),qS 5 4 28,qB 5 false] [4,5]) .skip)) (.seq (.qW [(qT 29 5 7,[]),(zM 30 1,[]),(zM 31 6,[]),(qD 32 1 30 31,[1,2]),(qF 33 1 32,[1,2,3]),(q2 34 180 29 33,[0,1,2,3,4]),(zM 9 34,[0,1,2,3,4,5])] [1,2,4,6,7,9]) (.seq (qs [zM 35 9,qk 36 .lss 35 0] [1,2,4,6,7,9,36] (qc 36 (qr [zA 37 (.build zN []),qS 5 4 37,qB 5 false] [4,5]) .skip)) (.seq (.qW [(zA 38 (.jK 13 5 0 [.lit (.int .i64 0),.lit (.int .i64 0),.str [],.sl 1 [],.sl 5 []] []),[]),(qA 39 4 7,[]),(qF 40 1 39,[1]),(zM 41 9,[]),(zA 42 (.FD 5 (.t 40) none (some (.t 41))),[1,2,3]),(zA 43 (.append 14 5 80 (.t 38) (.t 42)),[0,1,2,3,4]),(qA 44 4 7,[]),(qF 45 1 44,[6]),(zM 46 9,[]),(qk 47 .add 46 1,[8]),(zA 48 (.FD 5 (.t 45) (some (.t 47)) none),[6,7,8,9]),(zA 49 (.append 15 5 80 (.t 43) (.t 48)),[0,1,2,3,4,5,6,7,8,9,10]),(zM 10 49,[0,1,2,3,4,5,6,7,8,9,10,11])] [1,2,4,6,7,9,10]) (qs [zA 50 (.jK 16 1 0 [.str []] []),zM 11 50] [1,2,4,6,7,9,10,11] (.cut (qs [qA 51 0 7,qF 52 1 51,qk 53 .eql 52 4] [1,2,4,6,7,9,10,11,53] (qc 53 (.qW [(zA 54 (.jK 17 1 0 [.str []] []),[]),(qA 55 3 7,[]),(qF 56 1 55,[1]),(zM 57 9,[]),(zA 58 (.FD 1 (.t 56) none (some (.t 57))),[1,2,3]),(zA 59 (.append 18 1 16 (.t 54) (.t 58)),[0,1,2,3,4]),(qA 60 3 7,[]),(qF 61 1 60,[6]),(zM 62 9,[]),(qk 63 .add 62 1,[8]),(zA 64 (.FD 1 (.t 61) (some (.t 63)) none),[6,7,8,9]),(zA 65 (.append 19 1 16 (.t 59) (.t 64)),[0,1,2,3,4,5,6,7,8,9,10]),(zM 11 65,[0,1,2,3,4,5,6,7,8,9,10,11])] [1,2,4,6,7,10,11]) .skip)) (.seq (.qW [(qT 66 5 2,[]),(zM 67 1,[]),(zM 68 6,[]),(zA 69 (.FD 1 (.t 67) none (some (.t 68))),[1,2]),(qA 70 0 7,[]),(qF 71 1 70,[4]),(zM 72 11,[]),(zM 73 10,[]),(zA 74 (.build zN [(0,1,.t 71),(3,1,.t 72),(4,1,.t 73)]),[4,5,6,7]),(q3 75 203 66 69 74,[0,1,2,3,4,5,6,7,8]),(qE 76 75 0,[0,1,2,3,4,5,6,7,8,9]),(qE 77 75 1,[0,1,2,3,4,5,6,7,8,9]),(qS 5 4 76,[0,1,2,3,4,5,6,7,8,9,10,11]),(zM 5 77,[0,1,2,3,4,5,6,7,8,9,10,11,12])] [4,5]) .ret)))))))))))
theorem K.kM : iZ pZ 181 2 0 C.kM [.cell 4 true 5,.tmp 5]=true:=by kernel_rfl
def C.lq : bZ:=(qs [qX 2 10 0,qX 3 11 1,qZ 4 12,qB 5 false] [2,3,4] (.seq (qs [qA 11 0 3,qF 12 1 11] [2,3,4,12] (.block 0 (qs [qk 14 .eql 12 1,zM 13 14] [2,3,4,12,13] (qc 13 (qr [qT 15 5 2,qA 16 1 3,qF 17 1 16,qA 18 3 3,qT 19 5 18,q3 20 202 15 17 19,qE 21 20 0,qE 22 20 1,qS 5 4 21,zM 5 22] [4,5]) (qs [qk 24 .eql 12 2,zM 23 24] [2,3,4,12,23] (qc 23 (qr [qT 25 5 2,qA 26 1 3,qF 27 1 26,q2 28 181 25 27,qE 29 28 0,qE 30 28 1,qS 5 4 29,zM 5 30] [4,5]) (qs [qk 32 .eql 12 3,zM 31 32] [2,3,4,31] (qc 31 (qr [qT 33 5 2,qA 34 1 3,qF 35 1 34,qA 36 3 3,qT 37 5 36,q3 38 203 33 35 37,qE 39 38 0,qE 40 38 1,qS 5 4 39,zM 5 40] [4,5]) .skip)))))))) (qs [qA 41 2 3,qF 42 1 41,zM 6 42] [2,3,4,6] (.cut (qs [qA 43 0 3,qF 44 1 43,qk 45 .eql 44 6] [2,3,4,6,45] (qc 45 (.reg [qA 46 1 3,qF 47 1 46,zM 6 47] [2,3,4,6]) .skip)) (qs [qT 49 5 2,zM 50 6,q2 51 204 49 50,zM 48 51,qE 52 48 0,qE 53 48 1,qZ 7 13,qS 5 7 52,zM 8 53] [2,3,4,7,8] (.seq (qs [zM 54 8,qO 55 54] [2,3,4,7,55] (qc 55 (qr [zA 56 (.build zN []),qS 5 4 56,qB 5 false] [4,5]) .skip)) (.seq (qs [qA 57 0 3,qF 58 1 57] [2,3,4,7,58] (.block 1 (qs [qk 60 .eql 58 6,zM 59 60] [2,3,4,7,58,59] (qc 59 (.seq (.qW [(qT 61 5 2,[]),(qT 62 5 7,[]),(qA 63 3 3,[]),(qT 64 5 63,[2]),(q2 65 131 62 64,[1,2,3]),(qS 5 4 61,[0,1,2,3,4]),(zM 5 65,[0,1,2,3,4,5])] [4,5]) .ret) (qs [qk 67 .eql 58 5,zM 66 67] [2,3,4,7,66] (qc 66 (qr [qT 68 5 2,qA 69 1 3,qF 70 1 69,qT 71 5 7,q3 72 202 68 70 71,qE 73 72 0,qE 74 72 1,qS 5 4 73,zM 5 74] [4,5]) .skip)))))) (.seq (qs [qA 75 1 3,qF 76 1 75,qA 77 2 3,qF 78 1 77,q2 79 205 76 78] [2,3,4,7,79] (qc 79 (.seq (.qW [(qT 80 5 2,[]),(q1 81 48 80,[0]),(qA 82 1 3,[]),(qF 83 1 82,[2]),(qL 84 83,[2,3]),(qA 85 2 3,[]),(qF 86 1 85,[5]),(qL 87 86,[5,6]),(qb 88 .eql 84 87,[2,3,4,5,6,7]),(qS 5 4 81,[0,1]),(zM 5 88,[0,1,2,3,4,5,6,7,8,9])] [4,5]) .ret) .skip)) (qs [qT 90 5 2,qA 91 2 3,qF 92 1 91,q2 93 181 90 92,zM 89 93,qE 94 89 0,qE 95 89 1,qZ 9 14,qS 5 9 94,zM 10 95] [3,4,7,9,10] (.seq (qs [zM 96 10,qO 97 96] [3,4,7,9,97] (qc 97 (qr [zA 98 (.build zN []),qS 5 4 98,qB 5 false] [4,5]) .skip)) (qr [qT 99 5 9,qA 100 1 3,qF 101 1 100,qT 102 5 7,q3 103 202 99 101 102,qE 104 103 0,qE 105 103 1,qS 5 4 104,zM 5 105] [4,5])))))))))))
theorem K.lq : iZ pZ 179 2 0 C.lq [.cell 4 true 5,.tmp 5]=true:=by kernel_rfl
def C.pR : bZ:=(qs [qX 2 10 0,qZ 4 11,qB 5 false] [1,2,4] (.seq (qs [zM 6 1,qO 7 6,zM 8 7,zG 8 false 9 (.load true 5 (.t 2)),⟨(some (8,false)),some 10,.call 83 [.t 9]⟩,zG 8 false 11 (.not (.t 10)),qQ 12 8 11] [2,4,12] (qc 12 (qr [zA 13 (.build zN []),qS 5 4 13,qB 5 false] [4,5]) .skip)) (qr [qT 14 5 2,qS 5 4 14,qB 5 true] [4,5])))
theorem K.pR : iZ pZ 144 2 0 C.pR [.cell 4 true 5,.tmp 5]=true:=by kernel_rfl
def C.qi : bZ:=(qs [qX 2 10 0,qX 3 11 1,qZ 4 12,qB 5 false] [2,3,4] (qs [qT 9 5 2,qT 10 8 3,q2 11 179 9 10,qE 12 11 0,qE 13 11 1,q2 14 144 12 13,zM 8 14,qE 15 8 0,qE 16 8 1,qZ 6 13,qS 5 6 15,zM 7 16] [4,6,7] (.seq (qs [zM 17 7,qO 18 17] [4,6,18] (qc 18 (qr [zA 19 (.build zN []),qS 5 4 19,qB 5 false] [4,5]) .skip)) (qr [qT 20 5 6,q1 21 48 20,qS 5 4 21,qB 5 true] [4,5]))))
theorem K.qi : iZ pZ 143 2 0 C.qi [.cell 4 true 5,.tmp 5]=true:=by kernel_rfl
def C.jH : bZ:=(qs [qX 2 10 0,qZ 4 11,qB 5 false] [1,2,4] (.seq (qs [qT 10 5 2,q1 11 83 10,qO 12 11,zM 13 12,qm 13 false 14 1,⟨(some (13,false)),some 15,.call 135 [.t 14]⟩,zG 13 false 16 (.not (.t 15)),qQ 17 13 16] [1,2,4,17] (qc 17 (qr [zA 18 (.build zN []),qS 5 4 18,qB 5 false] [4,5]) .skip)) (qs [qT 19 5 2,q1 20 48 19,qZ 6 12,qS 5 6 20] [1,4,6] (.seq (qs [qI 7 0] [1,4,6,7] (.block 0 (.loop (.seq (qs [zM 21 7,zM 22 1,qL 23 22,qb 24 .lss 21 23] [1,4,6,7,24] (qc 24 .skip (.exit 0))) (.seq (.block 1 (.seq (.qW [(qT 28 5 6,[]),(zM 29 1,[]),(zM 30 7,[]),(qD 31 8 29 30,[1,2]),(qT 32 8 31,[1,2,3]),(q2 33 143 28 32,[0,1,2,3,4]),(zM 27 33,[0,1,2,3,4,5]),(qE 34 27 0,[0,1,2,3,4,5,6]),(qE 35 27 1,[0,1,2,3,4,5,6]),(qZ 8 13,[]),(qS 5 8 34,[0,1,2,3,4,5,6,7,9]),(zM 9 35,[0,1,2,3,4,5,6,7,8,9,10])] [1,4,6,7,8,9]) (.seq (qs [zM 36 9,qO 37 36] [1,4,6,7,8,37] (qc 37 (qr [zA 38 (.build zN []),qS 5 4 38,qB 5 false] [4,5]) .skip)) (.reg [qT 39 5 8,qS 5 6 39] [1,4,6,7])))) (.reg [zM 25 7,qk 26 .add 25 1,zM 7 26] [1,4,6,7])))))) (qr [qT 40 5 6,qS 5 4 40,qB 5 true] [4,5])))))
theorem K.jH : iZ pZ 93 2 0 C.jH [.cell 4 true 5,.tmp 5]=true:=by kernel_rfl
def C.jL : bZ:=(qs [qX 2 10 0,qX 3 11 1,qZ 4 12] [2,3,4] (.seq (qs [qA 9 0 3,qF 10 1 9,qk 11 .neq 10 4] [2,3,4,11] (qc 11 (qr [qT 12 5 3,q1 13 48 12,qS 5 4 13] [4]) .skip)) (qs [zA 14 (.jK 13 1 0 [.str []] []),zA 15 (.jK 14 5 0 [.lit (.int .i64 0),.lit (.int .i64 0),.str [],.sl 1 [],.sl 5 []] []),zA 16 (.build zN [(0,1,kI 4),(3,1,.t 14),(4,1,.t 15)]),qZ 5 15,qS 5 5 16] [2,3,4,5] (.cut (qs [qA 17 0 2,qF 18 1 17,qk 19 .eql 18 4] [2,3,4,5,19] (qc 19 (.reg [qT 20 5 2,q1 21 48 20,qS 5 5 21] [3,4,5]) .skip)) (.seq (qs [qI 6 0] [3,4,5,6] (.block 0 (.loop (.seq (qs [zM 22 6,qA 23 4 3,qF 24 1 23,qL 25 24,qb 26 .lss 22 25] [3,4,5,6,26] (qc 26 .skip (.exit 0))) (.seq (.block 1 (qs [qA 29 3 3,qF 30 1 29,zM 31 6,qD 32 1 30 31,qF 33 1 32,zM 7 33] [3,4,5,6,7] (qs [qT 34 5 5,zM 35 7,q2 36 180 34 35,zM 8 36] [3,4,5,6,7,8] (.block 2 (qs [qA 38 4 3,qF 39 1 38,zM 40 6,qD 41 5 39 40,qA 42 0 41,qF 43 1 42,qk 44 .eql 43 0,zM 45 44,qm 45 true 46 8,zG 45 true 47 (.bin .geq (.t 46) (kI 0)),qP 48 45 47,zM 37 48] [3,4,5,6,7,8,37] (qc 37 (.reg [qT 50 5 5,zM 51 7,zA 52 (.jK 16 1 1 [.str []] [(0,.t 51)]),q2 53 181 50 52,zM 49 53,qE 54 49 0,qE 55 49 1,qS 5 5 54] [3,4,5,6]) (qs [qA 57 4 3,qF 58 1 57,zM 59 6,qD 60 5 58 59,qA 61 0 60,qF 62 1 61,qk 63 .neq 62 0,zM 64 63,qm 64 true 65 8,zG 64 true 66 (.bin .geq (.t 65) (kI 0)),qP 67 64 66,zM 56 67] [3,4,5,6,7,8,56] (qc 56 (.qW [(qT 68 5 5,[]),(zM 69 8,[]),(qA 70 4 5,[]),(qF 71 1 70,[2]),(zM 72 8,[]),(qD 73 5 71 72,[2,3,4]),(qT 74 5 73,[2,3,4,5]),(qA 75 4 3,[]),(qF 76 1 75,[7]),(zM 77 6,[]),(qD 78 5 76 77,[7,8,9]),(qT 79 5 78,[7,8,9,10]),(q2 80 145 74 79,[2,3,4,5,6,7,8,9,10,11]),(q3 81 182 68 69 80,[0,1,2,3,4,5,6,7,8,9,10,11,12]),(qS 5 5 81,[0,1,2,3,4,5,6,7,8,9,10,11,12,13])] [3,4,5,6]) (qs [qA 83 4 3,qF 84 1 83,zM 85 6,qD 86 5 84 85,qA 87 0 86,qF 88 1 87,qk 89 .neq 88 0,zM 82 89] [3,4,5,6,7,82] (qc 82 (.qW [(qT 91 5 5,[]),(zM 92 7,[]),(zA 93 (.build zN []),[]),(qA 94 4 3,[]),(qF 95 1 94,[3]),(zM 96 6,[]),(qD 97 5 95 96,[3,4,5]),(qT 98 5 97,[3,4,5,6]),(q2 99 145 93 98,[2,3,4,5,6,7]),(q3 100 183 91 92 99,[0,1,2,3,4,5,6,7,8]),(zM 90 100,[0,1,2,3,4,5,6,7,8,9]),(qE 101 90 0,[0,1,2,3,4,5,6,7,8,9,10]),(qE 102 90 1,[0,1,2,3,4,5,6,7,8,9,10]),(qS 5 5 101,[0,1,2,3,4,5,6,7,8,9,10,11])] [3,4,5,6]) .skip)))))))))) (.reg [zM 27 6,qk 28 .add 27 1,zM 6 28] [3,4,5,6])))))) (qr [qT 103 5 5,qS 5 4 103] [4]))))))
theorem K.jL : iZ pZ 145 2 0 C.jL [.cell 4 true 5]=true:=by kernel_rfl
def C.qh : bZ:=(qs [qX 2 10 0,qX 3 11 1,qZ 4 12,qB 5 false] [2,3,4] (.seq (qs [qT 6 5 2,q1 7 83 6,qO 8 7,zM 9 8,zG 9 false 10 (.load true 5 (.t 3)),⟨(some (9,false)),some 11,.call 83 [.t 10]⟩,zG 9 false 12 (.not (.t 11)),qQ 13 9 12] [2,3,4,13] (qc 13 (qr [zA 14 (.build zN []),qS 5 4 14,qB 5 false] [4,5]) .skip)) (qr [qT 15 5 2,qT 16 5 3,q2 17 145 15 16,⟨none,some 18,.call 144 [.t 17,.k (.c (.lit (.bool true)))]⟩,qE 19 18 0,qE 20 18 1,qS 5 4 19,zM 5 20] [4,5])))
theorem K.qh : iZ pZ 94 2 0 C.qh [.cell 4 true 5,.tmp 5]=true:=by kernel_rfl
def C.oG : bZ:=(qs [zA 2 (.alloc 10 [lW 0,.c (.str []),lW 0,lW 0,lW 0,.c (.str []),.jI 1,.jI 5])] [0,2] (qr [zM 3 0,zA 4 (.build [lW 0,.c (.str []),lW 0,lW 0,lW 0,.c (.str []),.jI 1,.jI 5] [(0,1,.t 3)]),qS 8 2 4] [2]))
theorem K.oG : iZ pZ 88 1 0 C.oG [.cell 2 true 8]=true:=by kernel_rfl
def C.mZ : bZ:=(qs [qB 4 false] [0,1] (.seq (qs [qI 5 0] [0,1,5] (.block 0 (.loop (.seq (qs [zM 6 5,zM 7 0,qL 8 7,qb 9 .lss 6 8] [0,1,5,9] (qc 9 .skip (.exit 0))) (.seq (.block 1 (qs [zM 12 0,zM 13 5,qD 14 1 12 13,qF 15 1 14,zM 16 1,qb 17 .eql 15 16,zM 18 17,qm 18 false 19 0,qm 18 false 20 5,zG 18 false 21 (.wJ 1 (.t 19) (.t 20)),zG 18 false 22 (.load false 1 (.t 21)),zG 18 false 23 (.bin .eql (.t 22) (.k (.c (.str [42])))),qQ 24 18 23] [0,1,5,24] (qc 24 (qr [qB 4 true] [4]) .skip))) (.reg [zM 10 5,qk 11 .add 10 1,zM 5 11] [0,1,5])))))) (qr [qB 4 false] [4])))
theorem K.mZ : iZ pZ 138 2 0 C.mZ [.tmp 4]=true:=by kernel_rfl
def C.vJ : bZ:=(qs [qI 8 0] [0,1,2,3] (.seq (qs [zM 9 0,qL 10 9,qk 11 .gtr 10 0,zM 12 11,qm 12 true 13 2,zG 12 true 14 (.bin .eql (.t 13) (.k (.c (.str [])))),qm 12 true 15 14,qm 15 false 16 0,qm 15 false 17 2,⟨(some (15,false)),some 18,.call 138 [.t 16,.t 17]⟩,zG 15 false 19 (.not (.t 18)),zG 12 true 20 (.pick (.t 15) (kB true) (.t 19)),qP 21 12 20] [1,2,3,21] (qc 21 (qr [qI 8 412] [8]) .skip)) (.seq (qs [zM 22 1,qL 23 22,qk 24 .gtr 23 0,zM 25 24,qm 25 true 26 2,zG 25 true 27 (.bin .neq (.t 26) (.k (.c (.str [])))),qP 28 25 27,zM 29 28,qm 29 true 30 1,qm 29 true 31 2,⟨(some (29,true)),some 32,.call 138 [.t 30,.t 31]⟩,qP 33 29 32] [3,33] (qc 33 (.seq (qs [zM 34 3] [34] (qc 34 (qr [qI 8 304] [8]) .skip)) (qr [qI 8 412] [8])) .skip)) (qr [qI 8 200] [8]))))
theorem K.vJ : iZ pZ 89 4 0 C.vJ [.tmp 8]=true:=by kernel_rfl
def C.ry : bZ:=(qs [qX 2 10 0,zA 4 (.alloc 11 [.jI 7,lW 0])] [1,2,4] (qs [zA 8 (.jK 12 7 0 [.str [],.lit (.int .i64 0),.lit (.int .i64 0),.lit (.int .i64 0),.str [],.sl 1 [],.sl 5 []] []),zM 5 8] [1,2,4,5] (qs [qT 9 2 2,q1 10 29 9,zA 11 (.field false 0 1 (.t 10)),zM 6 11] [1,2,4,5,6] (.seq (qs [qI 7 0] [1,2,4,5,6,7] (.block 0 (.loop (.seq (qs [zM 12 7,zM 13 6,qL 14 13,qb 15 .lss 12 14] [1,2,4,5,6,7,15] (qc 15 .skip (.exit 0))) (.seq (.block 1 (qs [zM 18 6,zM 19 7,qD 20 7 18 19,qA 21 0 20,qF 22 1 21,zM 23 1,qb 24 .neq 22 23] [1,2,4,5,6,7,24] (qc 24 (.reg [zM 25 5,zM 26 6,zM 27 7,qD 28 7 26 27,qT 29 7 28,zA 30 (.jK 13 7 1 [.str [],.lit (.int .i64 0),.lit (.int .i64 0),.lit (.int .i64 0),.str [],.sl 1 [],.sl 5 []] [(0,.t 29)]),zA 31 (.append 14 7 104 (.t 25) (.t 30)),zM 5 31] [1,2,4,5,6,7]) .skip))) (.reg [zM 16 7,qk 17 .add 16 1,zM 7 17] [1,2,4,5,6,7])))))) (qr [zM 32 5,qA 33 1 2,qF 34 1 33,qk 35 .add 34 1,zA 36 (.build [.jI 7,lW 0] [(0,1,.t 32),(1,1,.t 35)]),qS 2 4 36] [4])))))
theorem K.ry : iZ pZ 92 2 0 C.ry [.cell 4 true 2]=true:=by kernel_rfl
def C.oV : bZ:=(qs [qX 2 10 0,qI 4 0] [1,2] (.seq (qs [qI 5 0] [1,2,5] (.block 0 (.loop (.seq (qs [zM 6 5,qA 7 0 2,qF 8 1 7,qL 9 8,qb 10 .lss 6 9] [1,2,5,10] (qc 10 .skip (.exit 0))) (.seq (.block 1 (qs [qA 13 0 2,qF 14 1 13,zM 15 5,qD 16 7 14 15,qA 17 0 16,qF 18 1 17,zM 19 1,qb 20 .eql 18 19] [1,2,5,20] (qc 20 (qr [zM 21 5,zM 4 21] [4]) .skip))) (.reg [zM 11 5,qk 12 .add 11 1,zM 5 12] [1,2,5])))))) (qr [qI 4 (-1)] [4])))
theorem K.oV : iZ pZ 87 2 0 C.oV [.tmp 4]=true:=by kernel_rfl
def C.zT : bZ:=(qs [zA 2 (.mv (.k (.c (.str []))))] [0] (qs [zA 3 (.mv (.k (.c (.str [48,49,50,51,52,53,54,55,56,57,97,98,99,100,101,102]))))] [0,3] (.seq (.qW [(zM 4 3,[]),(zM 5 0,[]),(qk 6 .quo 5 4096,[1]),(zA 7 (.idxs (.t 4) (.t 6)),[0,1,2]),(zM 8 3,[]),(zM 9 0,[]),(qk 10 .quo 9 256,[5]),(qk 11 .rem 10 16,[5,6]),(zA 12 (.idxs (.t 8) (.t 11)),[4,5,6,7]),(zM 13 3,[]),(zM 14 0,[]),(qk 15 .quo 14 16,[10]),(qk 16 .rem 15 16,[10,11]),(zA 17 (.idxs (.t 13) (.t 16)),[9,10,11,12]),(zM 18 3,[]),(zM 19 0,[]),(qk 20 .rem 19 16,[15]),(zA 21 (.idxs (.t 18) (.t 20)),[14,15,16]),(zA 22 (.jK 10 1 4 [.lit (.int .u8 0)] [(0,.t 7),(1,.t 12),(2,.t 17),(3,.t 21)]),[0,1,2,3,4,5,6,7,8,9,10,11,12,13,14,15,16,17]),(zA 23 (.Qy (.t 22)),[0,1,2,3,4,5,6,7,8,9,10,11,12,13,14,15,16,17,18]),(zM 2 23,[0,1,2,3,4,5,6,7,8,9,10,11,12,13,14,15,16,17,18,19])] [2]) .ret)))
theorem K.zT : iZ pZ 139 1 0 C.zT [.tmp 2]=true:=by kernel_rfl
def C.qj : bZ:=(qs [qI 2 0] [0] (qs [qI 3 17] [0,3] (.seq (qs [qI 4 0] [0,3,4] (.block 0 (.loop (.seq (qs [zM 5 4,zM 6 0,ql 7 6,qb 8 .lss 5 7] [0,3,4,8] (qc 8 .skip (.exit 0))) (.seq (.block 1 (.reg [zM 11 3,zA 12 (.bin .mul (kI 131) (.t 11)),zM 13 0,zM 14 4,zA 15 (.idxs (.t 13) (.t 14)),zA 16 (.Gv .i64 (.t 15)),qb 17 .add 12 16,qk 18 .rem 17 65521,zM 3 18] [0,3,4])) (.reg [zM 9 4,qk 10 .add 9 1,zM 4 10] [0,3,4])))))) (qr [zM 19 3,zM 2 19] [2]))))
theorem K.qj : iZ pZ 140 1 0 C.qj [.tmp 2]=true:=by kernel_rfl
def C.sN : bZ:=(qs [qX 2 10 0,zA 4 (.mv (.k (.c (.str []))))] [1,2] (qs [qT 6 2 2,zM 7 1,q2 8 87 6 7,zM 5 8] [2,5] (.seq (qs [zM 9 5,qk 10 .lss 9 0] [2,5,10] (qc 10 (qr [zA 4 (.mv (.k (.c (.str []))))] [4]) .skip)) (qr [qA 11 0 2,qF 12 1 11,zM 13 5,qD 14 7 12 13,qA 15 2 14,qT 16 5 15,q1 17 47 16,q1 18 140 17,q1 19 139 18,zM 4 19] [4]))))
theorem K.sN : iZ pZ 90 2 0 C.sN [.tmp 4]=true:=by kernel_rfl
def C.mg : bZ:=(qs [qX 3 10 0,qX 5 11 2,zA 6 (.alloc 12 [.jI 7,lW 0])] [1,3,5,6] (qs [zA 12 (.jK 13 7 0 [.str [],.lit (.int .i64 0),.lit (.int .i64 0),.lit (.int .i64 0),.str [],.sl 1 [],.sl 5 []] []),zM 7 12] [1,3,5,6,7] (.seq (.qW [(zM 13 1,[]),(qA 14 1 3,[]),(qF 15 1 14,[1]),(qk 16 .add 15 1,[1,2]),(qT 17 5 5,[]),(q1 18 48 17,[4]),(zA 19 (.build [.c (.str []),lW 0,lW 0,lW 0,.c (.str []),.jI 1,.jI 5] [(0,1,.t 13),(1,1,.t 16),(2,5,.t 18)]),[0,1,2,3,4,5]),(zA 8 (.alloc 14 [.c (.str []),lW 0,lW 0,lW 0,.c (.str []),.jI 1,.jI 5]),[]),(qS 7 8 19,[0,1,2,3,4,5,6,7])] [1,3,6,7,8]) (qs [qT 20 2 3,q1 21 29 20,zA 22 (.field false 0 1 (.t 21)),zM 9 22] [1,3,6,7,8,9] (qs [qB 10 false] [1,3,6,7,8,9,10] (.seq (qs [qI 11 0] [1,3,6,7,8,9,10,11] (.block 0 (.loop (.seq (qs [zM 23 11,zM 24 9,qL 25 24,qb 26 .lss 23 25] [1,3,6,7,8,9,10,11,26] (qc 26 .skip (.exit 0))) (.seq (.block 1 (.cut (qs [zM 29 10,qO 30 29,zM 31 30,qm 31 true 32 9,qm 31 true 33 11,zG 31 true 34 (.wJ 7 (.t 32) (.t 33)),zG 31 true 35 (.kJ 0 (.t 34)),zG 31 true 36 (.load false 1 (.t 35)),qm 31 true 37 1,zG 31 true 38 (.bin .geq (.t 36) (.t 37)),qP 39 31 38] [1,3,6,7,8,9,10,11,39] (qc 39 (qs [zM 40 7,qT 41 7 8,zA 42 (.jK 15 7 1 [.str [],.lit (.int .i64 0),.lit (.int .i64 0),.lit (.int .i64 0),.str [],.sl 1 [],.sl 5 []] [(0,.t 41)]),zA 43 (.append 16 7 104 (.t 40) (.t 42)),zM 7 43] [1,3,6,7,8,9,11] (.reg [qB 10 true] [1,3,6,7,8,9,10,11])) .skip)) (qs [zM 44 9,zM 45 11,qD 46 7 44 45,qA 47 0 46,qF 48 1 47,zM 49 1,qb 50 .neq 48 49] [1,3,6,7,8,9,10,11,50] (qc 50 (.reg [zM 51 7,zM 52 9,zM 53 11,qD 54 7 52 53,qT 55 7 54,zA 56 (.jK 17 7 1 [.str [],.lit (.int .i64 0),.lit (.int .i64 0),.lit (.int .i64 0),.str [],.sl 1 [],.sl 5 []] [(0,.t 55)]),zA 57 (.append 18 7 104 (.t 51) (.t 56)),zM 7 57] [1,3,6,7,8,9,10,11]) .skip)))) (.reg [zM 27 11,qk 28 .add 27 1,zM 11 28] [1,3,6,7,8,9,10,11])))))) (.seq (qs [zM 58 10,qO 59 58] [3,6,7,8,59] (qc 59 (.reg [zM 60 7,qT 61 7 8,zA 62 (.jK 19 7 1 [.str [],.lit (.int .i64 0),.lit (.int .i64 0),.lit (.int .i64 0),.str [],.sl 1 [],.sl 5 []] [(0,.t 61)]),zA 63 (.append 20 7 104 (.t 60) (.t 62)),zM 7 63] [3,6,7]) .skip)) (qr [zM 64 7,qA 65 1 3,qF 66 1 65,qk 67 .add 66 1,zA 68 (.build [.jI 7,lW 0] [(0,1,.t 64),(1,1,.t 67)]),qS 2 6 68] [6]))))))))
theorem K.mg : iZ pZ 141 3 0 C.mg [.cell 6 true 2]=true:=by kernel_rfl
def C.iw : bZ:=(qs [qX 1 10 0,qB 2 false] [1] (.seq (qs [qI 3 0] [1,3] (.block 0 (.loop (.seq (qs [zM 5 3,qA 6 0 1,qF 7 1 6,qL 8 7,qb 9 .lss 5 8] [1,3,9] (qc 9 .skip (.exit 0))) (.seq (.block 1 (qs [qA 12 0 1,qF 13 1 12,zM 14 3,qD 15 7 13 14,qT 16 7 15,zA 4 (.alloc 11 [.c (.str []),lW 0,lW 0,lW 0,.c (.str []),.jI 1,.jI 5]),qS 7 4 16] [1,3,4] (.seq (.qW [(qA 17 0 4,[]),(qF 18 1 17,[0]),(q1 19 134 18,[0,1]),(qO 20 19,[0,1,2]),(zM 21 20,[0,1,2,3]),(zG 21 false 22 (.kJ 2 (.t 4)),[0,1,2,3,4]),(zG 21 false 23 (.load true 5 (.t 22)),[0,1,2,3,4,5]),(⟨(some (21,false)),some 24,.call 83 [.t 23]⟩,[0,1,2,3,4,5,6]),(zG 21 false 25 (.not (.t 24)),[0,1,2,3,4,5,6,7]),(qQ 26 21 25,[0,1,2,3,4,5,6,7,8]),(zM 27 26,[0,1,2,3,4,5,6,7,8,9]),(zG 27 false 28 (.kJ 1 (.t 4)),[0,1,2,3,4,5,6,7,8,9,10]),(zG 27 false 29 (.load false 1 (.t 28)),[0,1,2,3,4,5,6,7,8,9,10,11]),(zG 27 false 30 (.kJ 1 (.t 1)),[0,1,2,3,4,5,6,7,8,9,10]),(zG 27 false 31 (.load false 1 (.t 30)),[0,1,2,3,4,5,6,7,8,9,10,13]),(⟨(some (27,false)),some 32,.call 126 [.t 29,kI 1,.t 31]⟩,[0,1,2,3,4,5,6,7,8,9,10,11,12,13,14]),(zG 27 false 33 (.not (.t 32)),[0,1,2,3,4,5,6,7,8,9,10,11,12,13,14,15]),(qQ 34 27 33,[0,1,2,3,4,5,6,7,8,9,10,11,12,13,14,15,16]),(zM 35 34,[0,1,2,3,4,5,6,7,8,9,10,11,12,13,14,15,16,17]),(qm 35 false 36 3,[0,1,2,3,4,5,6,7,8,9,10,11,12,13,14,15,16,17,18]),(zG 35 false 37 (.bin .gtr (.t 36) (kI 0)),[0,1,2,3,4,5,6,7,8,9,10,11,12,13,14,15,16,17,18,19]),(qm 35 false 38 37,[0,1,2,3,4,5,6,7,8,9,10,11,12,13,14,15,16,17,18,19,20]),(zG 38 true 39 (.kJ 0 (.t 4)),[0,1,2,3,4,5,6,7,8,9,10,11,12,13,14,15,16,17,18,19,20,21]),(zG 38 true 40 (.load false 1 (.t 39)),[0,1,2,3,4,5,6,7,8,9,10,11,12,13,14,15,16,17,18,19,20,21,22]),(zG 38 true 41 (.kJ 0 (.t 1)),[0,1,2,3,4,5,6,7,8,9,10,11,12,13,14,15,16,17,18,19,20,21]),(zG 38 true 42 (.load false 1 (.t 41)),[0,1,2,3,4,5,6,7,8,9,10,11,12,13,14,15,16,17,18,19,20,21,24]),(qm 38 true 43 3,[0,1,2,3,4,5,6,7,8,9,10,11,12,13,14,15,16,17,18,19,20,21]),(zG 38 true 44 (.bin .sub (.t 43) (kI 1)),[0,1,2,3,4,5,6,7,8,9,10,11,12,13,14,15,16,17,18,19,20,21,26]),(zG 38 true 45 (.wJ 7 (.t 42) (.t 44)),[0,1,2,3,4,5,6,7,8,9,10,11,12,13,14,15,16,17,18,19,20,21,24,25,26,27]),(zG 38 true 46 (.kJ 0 (.t 45)),[0,1,2,3,4,5,6,7,8,9,10,11,12,13,14,15,16,17,18,19,20,21,24,25,26,27,28]),(zG 38 true 47 (.load false 1 (.t 46)),[0,1,2,3,4,5,6,7,8,9,10,11,12,13,14,15,16,17,18,19,20,21,24,25,26,27,28,29]),(zG 38 true 48 (.bin .leq (.t 40) (.t 47)),[0,1,2,3,4,5,6,7,8,9,10,11,12,13,14,15,16,17,18,19,20,21,22,23,24,25,26,27,28,29,30]),(zG 35 false 49 (.pick (.t 38) (.t 48) (kB false)),[0,1,2,3,4,5,6,7,8,9,10,11,12,13,14,15,16,17,18,19,20,21,22,23,24,25,26,27,28,29,30,31]),(qQ 50 35 49,[0,1,2,3,4,5,6,7,8,9,10,11,12,13,14,15,16,17,18,19,20,21,22,23,24,25,26,27,28,29,30,31,32])] [1,3,50]) (qc 50 (qr [qB 2 false] [2]) .skip)))) (.reg [zM 10 3,qk 11 .add 10 1,zM 3 11] [1,3])))))) (qr [qA 51 0 1,qF 52 1 51,qL 53 52,qk 54 .leq 53 10,zM 55 54,zG 55 true 56 (.kJ 1 (.t 1)),zG 55 true 57 (.load false 1 (.t 56)),⟨(some (55,true)),some 58,.call 126 [.t 57,kI 0,kI 999]⟩,qP 59 55 58,zM 2 59] [2])))
theorem K.iw : iZ pZ 142 1 0 C.iw [.tmp 2]=true:=by kernel_rfl
def C.lY : bZ:=(qs [qX 3 10 0,qX 5 11 2,zA 6 (.alloc 12 [.jI 7,lW 0]),zA 7 (.alloc 13 [lW 0,.c (.str []),lW 0,lW 0,lW 0,.c (.str []),.jI 1,.jI 5])] [1,3,5,6,7] (qs [qI 8 200] [1,3,5,6,7,8] (.cut (qs [qT 10 2 3,zM 11 1,q2 12 87 10 11,qk 13 .lss 12 0] [1,3,5,6,7,8,13] (qc 13 (.reg [qI 8 201] [1,3,5,6,7,8]) .skip)) (qs [qT 14 2 3,zM 15 1,qT 16 5 5,q3 17 141 14 15 16,zA 9 (.alloc 14 [.jI 7,lW 0]),qS 2 9 17] [1,3,6,7,8,9] (.seq (qs [qT 18 2 9,q1 19 142 18,qO 20 19] [1,3,6,7,8,9,20] (qc 20 (qr [qT 21 2 3,q1 22 29 21,⟨none,some 23,.call 88 [kI 422]⟩,qS 2 6 22,qS 8 7 23] [6,7]) .skip)) (.seq (.qW [(qT 24 2 9,[]),(zM 25 8,[]),(qT 26 2 9,[]),(zM 27 1,[]),(q2 28 90 26 27,[2,3]),(qA 29 1 9,[]),(qF 30 1 29,[5]),(zA 31 (.build [lW 0,.c (.str []),lW 0,lW 0,lW 0,.c (.str []),.jI 1,.jI 5] [(0,1,.t 25),(1,1,.t 28),(2,1,.t 30)]),[1,2,3,4,5,6]),(qS 2 6 24,[0,2,3,4]),(qS 8 7 31,[0,1,2,3,4,5,6,7,8])] [6,7]) .ret))))))
theorem K.lY : iZ pZ 91 3 0 C.lY [.cell 6 true 2,.cell 7 true 8]=true:=by kernel_rfl
def C.kE : bZ:=(qs [qX 2 10 0,qX 3 11 1,zA 4 (.alloc 12 [.jI 7,lW 0]),zA 5 (.alloc 13 [lW 0,.c (.str []),lW 0,lW 0,lW 0,.c (.str []),.jI 1,.jI 5])] [2,3,4,5] (qs [qT 10 2 2,qA 11 1 3,qF 12 1 11,q2 13 87 10 12,zM 6 13] [2,3,4,5,6] (.seq (qs [zM 14 6,qk 15 .lss 14 0,zM 16 15,zG 16 true 17 (.kJ 0 (.t 3)),zG 16 true 18 (.load false 1 (.t 17)),zG 16 true 19 (.bin .neq (.t 18) (kI 2)),qP 20 16 19] [2,3,4,5,6,20] (qc 20 (qr [qT 21 2 2,q1 22 29 21,⟨none,some 23,.call 88 [kI 404]⟩,qS 2 4 22,qS 8 5 23] [4,5]) .skip)) (.seq (.qW [(qA 24 2 3,[]),(qF 25 1 24,[0]),(qA 26 3 3,[]),(qF 27 1 26,[2]),(qT 28 2 2,[]),(qA 29 1 3,[]),(qF 30 1 29,[5]),(q2 31 90 28 30,[4,5,6]),(qA 32 0 3,[]),(qF 33 1 32,[8]),(qk 34 .eql 33 1,[8,9]),(⟨none,some 35,.call 89 [.t 25,.t 27,.t 31,.t 34]⟩,[0,1,2,3,4,5,6,7,8,9,10]),(zM 7 35,[0,1,2,3,4,5,6,7,8,9,10,11])] [2,3,4,5,6,7]) (.seq (qs [zM 36 7,qk 37 .neq 36 200] [2,3,4,5,6,7,37] (qc 37 (qr [qT 38 2 2,q1 39 29 38,zM 40 7,q1 41 88 40,qS 2 4 39,qS 8 5 41] [4,5]) .skip)) (.seq (qs [qA 42 0 3,qF 43 1 42] [2,3,4,5,6,7,43] (.block 0 (qs [qk 45 .eql 43 1,zM 44 45] [2,3,4,5,6,7,43,44] (qc 44 (.seq (.qW [(qT 46 2 2,[]),(q1 47 29 46,[0]),(zM 48 7,[]),(qT 49 2 2,[]),(qA 50 1 3,[]),(qF 51 1 50,[4]),(q2 52 90 49 51,[0,1,3,4,5]),(qA 53 0 2,[]),(qF 54 1 53,[7]),(zM 55 6,[]),(qD 56 7 54 55,[7,8,9]),(qA 57 1 56,[7,8,9,10]),(qF 58 1 57,[7,8,9,10,11]),(qA 59 0 2,[]),(qF 60 1 59,[13]),(zM 61 6,[]),(qD 62 7 60 61,[13,14,15]),(qA 63 2 62,[13,14,15,16]),(qT 64 5 63,[13,14,15,16,17]),(q1 65 48 64,[0,1,3,4,5,6,13,14,15,16,17,18]),(zA 66 (.build [lW 0,.c (.str []),lW 0,lW 0,lW 0,.c (.str []),.jI 1,.jI 5] [(0,1,.t 48),(1,1,.t 52),(2,1,.t 58),(3,5,.t 65)]),[0,1,2,3,4,5,6,7,8,9,10,11,12,13,14,15,16,17,18,19]),(qS 2 4 47,[0,1,3,4,5,6,13,14,15,16,17,18,19]),(qS 8 5 66,[0,1,2,3,4,5,6,7,8,9,10,11,12,13,14,15,16,17,18,19,20,21])] [4,5]) .ret) (qs [qk 68 .eql 43 2,zM 67 68] [2,3,4,5,6,7,43,67] (qc 67 (qr [qT 69 2 2,qA 70 1 3,qF 71 1 70,qA 72 4 3,qT 73 5 72,q3 74 91 69 71 73,qE 75 74 0,qE 76 74 1,qS 2 4 75,qS 8 5 76] [4,5]) (qs [qk 78 .eql 43 3,zM 77 78] [2,3,4,5,6,7,77] (qc 77 (.seq (qs [qA 79 1 2,qF 80 1 79,qk 81 .eql 80 999] [2,3,4,5,7,81] (qc 81 (qr [qT 82 2 2,q1 83 29 82,⟨none,some 84,.call 88 [kI 422]⟩,qS 2 4 83,qS 8 5 84] [4,5]) .skip)) (.seq (.qW [(qT 85 2 2,[]),(qA 86 1 3,[]),(qF 87 1 86,[1]),(q2 88 92 85 87,[0,1,2]),(zM 89 7,[]),(qA 90 1 2,[]),(qF 91 1 90,[5]),(qk 92 .add 91 1,[5,6]),(zA 93 (.build [lW 0,.c (.str []),lW 0,lW 0,lW 0,.c (.str []),.jI 1,.jI 5] [(0,1,.t 89),(2,1,.t 92)]),[4,5,6,7]),(qS 2 4 88,[0,1,2,3]),(qS 8 5 93,[0,1,2,3,4,5,6,7,8,9])] [4,5]) .ret)) .skip)))))))) (.seq (.qW [(qA 95 0 2,[]),(qF 96 1 95,[0]),(zM 97 6,[]),(qD 98 7 96 97,[0,1,2]),(qA 99 2 98,[0,1,2,3]),(qT 100 5 99,[0,1,2,3,4]),(qA 101 9 3,[]),(qF 102 1 101,[6]),(q2 103 93 100 102,[0,1,2,3,4,5,6,7]),(zM 94 103,[0,1,2,3,4,5,6,7,8]),(qE 104 94 0,[0,1,2,3,4,5,6,7,8,9]),(qE 105 94 1,[0,1,2,3,4,5,6,7,8,9]),(qZ 8 14,[]),(qS 5 8 104,[0,1,2,3,4,5,6,7,8,9,10,12]),(zM 9 105,[0,1,2,3,4,5,6,7,8,9,10,11,12,13])] [2,3,4,5,6,8,9]) (.cut (qs [qA 106 0 3,qF 107 1 106,qk 108 .eql 107 5] [2,3,4,5,6,8,9,108] (qc 108 (.qW [(qA 110 0 2,[]),(qF 111 1 110,[0]),(zM 112 6,[]),(qD 113 7 111 112,[0,1,2]),(qA 114 2 113,[0,1,2,3]),(qT 115 5 114,[0,1,2,3,4]),(qA 116 4 3,[]),(qT 117 5 116,[6]),(q2 118 94 115 117,[0,1,2,3,4,5,6,7]),(zM 109 118,[0,1,2,3,4,5,6,7,8]),(qE 119 109 0,[0,1,2,3,4,5,6,7,8,9]),(qE 120 109 1,[0,1,2,3,4,5,6,7,8,9]),(qS 5 8 119,[0,1,2,3,4,5,6,7,8,9,10]),(zM 9 120,[0,1,2,3,4,5,6,7,8,9,10,11,12])] [2,3,4,5,8,9]) .skip)) (.seq (qs [zM 121 9,qO 122 121] [2,3,4,5,8,122] (qc 122 (qr [qT 123 2 2,q1 124 29 123,⟨none,some 125,.call 88 [kI 422]⟩,qS 2 4 124,qS 8 5 125] [4,5]) .skip)) (qr [qT 126 2 2,qA 127 1 3,qF 128 1 127,qT 129 5 8,q3 130 91 126 128 129,qE 131 130 0,qE 132 130 1,qS 2 4 131,qS 8 5 132] [4,5]))))))))))
theorem K.kE : iZ pZ 55 2 0 C.kE [.cell 4 true 2,.cell 5 true 8]=true:=by kernel_rfl
def C.nU : bZ:=(qs [qX 3 10 1,zA 4 (.mv (.k (.c (.str []))))] [0,3] (.seq (.qW [(zM 9 0,[]),(qN 10 9,[0]),(qA 11 0 10,[0,1]),(qT 12 2 11,[0,1,2]),(qT 13 10 3,[]),(q2 14 55 12 13,[0,1,2,3,4]),(zM 8 14,[0,1,2,3,4,5]),(qE 15 8 0,[0,1,2,3,4,5,6]),(qE 16 8 1,[0,1,2,3,4,5,6]),(zA 5 (.alloc 11 [.jI 7,lW 0]),[]),(zA 6 (.alloc 12 [lW 0,.c (.str []),lW 0,lW 0,lW 0,.c (.str []),.jI 1,.jI 5]),[]),(qS 2 5 15,[0,1,2,3,4,5,6,7,9,10]),(qS 8 6 16,[0,1,2,3,4,5,6,7,8,9,10,11])] [0,3,5,6]) (qs [zM 17 0,qT 18 2 5,qN 19 17,qA 20 0 19,qS 2 20 18] [3,6] (qs [qA 21 0 6,qF 22 1 21,q1 23 27 22,zM 7 23] [3,6,7] (.cut (qs [qA 24 1 6,qF 25 1 24,zA 26 (.bin .neq (.t 25) (.k (.c (.str []))))] [3,6,7,26] (qc 26 (.reg [zM 27 7,zA 28 (.bin .add (.t 27) (.k (.c (.str [32])))),qA 29 1 6,qF 30 1 29,qb 31 .add 28 30,zM 7 31] [3,6,7]) .skip)) (.seq (qs [qA 32 0 3,qF 33 1 32,qk 34 .eql 33 1,zM 35 34,zG 35 true 36 (.kJ 0 (.t 6)),zG 35 true 37 (.load false 1 (.t 36)),zG 35 true 38 (.bin .eql (.t 37) (kI 200)),qP 39 35 38] [6,7,39] (qc 39 (.reg [zM 40 7,zA 41 (.bin .add (.t 40) (.k (.c (.str [32])))),qA 42 3 6,qT 43 5 42,q1 44 47 43,qb 45 .add 41 44,zM 7 45] [7]) .skip)) (qr [zM 46 7,zM 4 46] [4])))))))
theorem K.nU : iZ pZ 31 2 1 C.nU [.tmp 4]=true:=by kernel_rfl
def C.lF : bZ:=(qs [zA 2 (.mv (.k (.c (.str []))))] [0] (qs [zA 3 (.mv (.k (.c (.str []))))] [0,3] (.seq (qs [qI 4 0] [0,3,4] (.block 0 (.loop (.seq (qs [zM 5 4,zM 6 0,qN 7 6,qA 8 0 7,qA 9 0 8,qF 10 1 9,qL 11 10,qb 12 .lss 5 11] [0,3,4,12] (qc 12 .skip (.exit 0))) (.seq (.block 1 (.seq (qs [zM 15 4,qk 16 .gtr 15 0] [0,3,4,16] (qc 16 (.reg [zM 17 3,zA 18 (.bin .add (.t 17) (.k (.c (.str [32])))),zM 3 18] [0,3,4]) .skip)) (.reg [zM 19 3,zM 20 0,qN 21 20,qA 22 0 21,qA 23 0 22,qF 24 1 23,zM 25 4,qD 26 7 24 25,qA 27 0 26,qF 28 1 27,qb 29 .add 19 28,zM 3 29] [0,3,4]))) (.reg [zM 13 4,qk 14 .add 13 1,zM 4 14] [0,3,4])))))) (qr [zM 30 3,zM 2 30] [2]))))
theorem K.lF : iZ pZ 26 1 1 C.lF [.tmp 2]=true:=by kernel_rfl
def C.uA : bZ:=(qs [qX 1 10 0,qI 2 0] [1] (qs [qI 3 0] [1,3] (.seq (qs [qI 4 0] [1,3,4] (.block 0 (.loop (.seq (qs [zM 5 4,qA 6 0 1,qF 7 1 6,qL 8 7,qb 9 .lss 5 8] [1,3,4,9] (qc 9 .skip (.exit 0))) (.seq (.block 1 (.qW [(zM 12 3,[]),(qA 13 0 1,[]),(qF 14 1 13,[1]),(zM 15 4,[]),(qD 16 7 14 15,[1,2,3]),(qA 17 0 16,[1,2,3,4]),(qF 18 1 17,[1,2,3,4,5]),(ql 19 18,[1,2,3,4,5,6]),(qb 20 .add 12 19,[0,1,2,3,4,5,6,7]),(qA 21 0 1,[]),(qF 22 1 21,[9]),(zM 23 4,[]),(qD 24 7 22 23,[9,10,11]),(qA 25 2 24,[9,10,11,12]),(qT 26 5 25,[9,10,11,12,13]),(q1 27 47 26,[9,10,11,12,13,14]),(ql 28 27,[9,10,11,12,13,14,15]),(qb 29 .add 20 28,[0,1,2,3,4,5,6,7,8,9,10,11,12,13,14,15,16]),(zM 3 29,[0,1,2,3,4,5,6,7,8,9,10,11,12,13,14,15,16,17])] [1,3,4])) (.reg [zM 10 4,qk 11 .add 10 1,zM 4 11] [1,3,4])))))) (qr [zM 30 3,zM 2 30] [2]))))
theorem K.uA : iZ pZ 28 1 0 C.uA [.tmp 2]=true:=by kernel_rfl
def C.sK : bZ:=(qs [zA 4 (.mv (.k (.c (.str []))))] [0,1] (.seq (qs [zM 7 1] [0,1,7] (.block 0 (qs [zA 9 (.bin .eql (.t 7) (.k (.c (.str [108,105,115,116])))),zM 8 9] [0,1,7,8] (qc 8 (qr [zM 10 0,q1 11 26 10,zM 4 11] [4]) (qs [zA 13 (.bin .eql (.t 7) (.k (.c (.str [99,108,111,99,107])))),zM 12 13] [0,1,7,12] (qc 12 (qr [zM 14 0,qN 15 14,qA 16 0 15,qA 17 1 16,qF 18 1 17,q1 19 27 18,zM 4 19] [4]) (qs [zA 21 (.bin .eql (.t 7) (.k (.c (.str [115,105,122,101])))),zM 20 21] [0,1,7,20] (qc 20 (qr [zM 22 0,qN 23 22,qA 24 0 23,qT 25 2 24,q1 26 28 25,q1 27 27 26,zM 4 27] [4]) (qs [zA 29 (.bin .eql (.t 7) (.k (.c (.str [107,101,101,112])))),zM 28 29] [0,1,7,28] (qc 28 (qs [zM 30 0,zM 31 0,qN 32 31,qA 33 0 32,qT 34 2 33,q1 35 29 34,qN 36 30,qA 37 2 36,qS 2 37 35] [] (qr [zA 4 (.mv (.k (.c (.str [111,107]))))] [4])) (qs [zA 39 (.bin .eql (.t 7) (.k (.c (.str [98,97,99,107])))),zM 38 39] [0,1,38] (qc 38 (qs [zM 40 0,zM 41 0,qN 42 41,qA 43 2 42,qT 44 2 43,q1 45 29 44,qN 46 40,qA 47 0 46,qS 2 47 45] [] (qr [zA 4 (.mv (.k (.c (.str [111,107]))))] [4])) .skip)))))))))))) (qs [zM 49 1,q1 50 30 49,zM 48 50,qE 51 48 0,qE 52 48 1,zA 5 (.alloc 10 [lW 0,.c (.str []),.jI 1,.jI 1,lW 0,lW 0,.c (.str []),.jI 1,.jI 5,.jI 8]),qS 10 5 51,zM 6 52] [0,5,6] (.seq (qs [zM 53 6,qO 54 53] [0,5,54] (qc 54 (qr [zA 4 (.mv (.k (.c (.str [119,104,97,116]))))] [4]) .skip)) (qr [zM 55 0,qT 56 10 5,q2 57 31 55 56,zM 4 57] [4])))))
theorem K.sK : iZ pZ 18 2 1 C.sK [.tmp 4]=true:=by kernel_rfl
def C.iq : bZ:=(qs [zA 2 (.mv (.k (.c (.str []))))] [0] (qs [zA 6 (.build [.c (.sl 7 []),lW 0,.c (.sl 7 []),lW 0] []),qX 7 10 6,zM 3 7] [0,3] (qs [zA 4 (.mv (.k (.c (.str []))))] [0,3,4] (.seq (qs [qI 5 0] [0,3,4,5] (.block 0 (.loop (.seq (qs [zM 8 5,zM 9 0,qL 10 9,qb 11 .lss 8 10,zM 12 11,qm 12 true 13 5,zG 12 true 14 (.bin .lss (.t 13) (kI 20)),qP 15 12 14] [0,3,4,5,15] (qc 15 .skip (.exit 0))) (.seq (.block 1 (.reg [zM 18 4,zM 19 3,zM 20 0,zM 21 5,qD 22 1 20 21,qF 23 1 22,q2 24 18 19 23,qb 25 .add 18 24,zA 26 (.bin .add (.t 25) (.k (.c (.str [10])))),zM 4 26] [0,3,4,5])) (.reg [zM 16 5,qk 17 .add 16 1,zM 5 17] [0,3,4,5])))))) (qr [zM 27 4,zM 2 27] [2])))))
theorem K.iq : iZ pZ 8 1 0 C.iq [.tmp 2]=true:=by kernel_rfl
theorem FZ.ins {P:Program}{f gr sz cb:Nat}{z:List Cell}(h0:sz≠0)(hK:iZ P f 3 2 (C.ins sz cb gr z) [.tmp 6]=true){es:List (List Cell)}{v:List Cell}{c i:Nat}(hc:es.length<=c)(hi:i<=es.length)(hb:(es.length+1)*(cb+sz+1)<=2^46) :
 kV P f [.one (.sub 0 0 es.length (some c) sz),.one (.c (.lit (.int .i64 (i:Int)))),.one (.own 1 1 sz)] [.dat sz es,.dat sz [v]]
  (λr1 b1=>r1 = .one (.own 2 (es.length+1) sz)/\b1=[.dead,.dat sz [v],.dat sz (es.take i++v::es.drop i)]):=by
 have hb0:es.length+1<=(es.length+1)*(cb+sz+1):=A7 _ (by omega);have hw:af .i64 ((es.length:Int)+((1:Nat):Int))=((es.length+1:Nat):Int):=by rw[Fg]<;>omega
 have hw2:af .i64 ((i:Int)+((1:Nat):Int))=((i+1:Nat):Int):=by rw[Fg]<;>omega
 have hw3:af .i64 (((es.length+1:Nat):Int)-i)=((es.length+1-i:Nat):Int):=by rw[Fg]<;>omega
 refine lg hK (qx ?_);unfold C.ins;have h10:(((1:Nat):Int)==0)=false:=rfl;by_cases h1:i=es.length
 ·subst h1;have he:((es.length:Int)==(es.length:Int))=true:=by simp
  simp -dsimp only[egR,nM.pz,nM.f,nM.rd,DZ,Ae,lvl,yG,reduceIte,Nat.reduceEqDiff,Nat.reduceAdd,Nat.reduceLeDiff,Nat.reduceBEq,reduceCtorEq,Int.reduceBNe,Int.reduceBEq,Int.reduceLT,Int.reduceLE,Int.reduceNeg,Nat.reduceLT,D8,Int.reduceToNat,Fz,zU,JP,FY,F6,FU,F5,truncS,lC,sF,pK,rQ,qG,bW,o6,jo,h10]
  repeat refine jT (by first|(show Am _ _ _ _=true;kernel_rfl)|(show AA _ _=true;kernel_rfl)|omega|assumption) ?_
  have e:es++[v]++lu (es.length+1) es=es++v::lu es.length es:=by simp
  have e2:es++[v]=es++v::lu es.length es:=by simp
  by_cases hr:es.length+1<=c
  ·simp -dsimp only[egR,nM.pz,nM.f,nM.rd,DZ,Ae,lvl,yG,reduceIte,Nat.reduceEqDiff,Nat.reduceAdd,Nat.reduceLeDiff,Nat.reduceBEq,reduceCtorEq,Int.reduceBNe,Int.reduceBEq,Int.reduceLT,Int.reduceLE,Int.reduceNeg,Nat.reduceLT,D8,Int.reduceToNat,Fz,zU,JP,FY,F6,FU,F5,truncS,lC,sF,pK,rQ,qG,bW,o6,jo,hr]
   repeat refine jT (by first|(show Am _ _ _ _=true;kernel_rfl)|(show AA _ _=true;kernel_rfl)|omega|assumption) ?_
   rw[e];refine OQ [] [(0,0),(1,1),(2,0)] [] (by rfl) ?_ ?_ ?_<;>(simp -dsimp only[rwR,Xc,Jk,reduceIte,Nat.reduceEqDiff,reduceCtorEq,Nat.reduceAdd,Nat.reduceLeDiff]<;>first|(simp[aC];done)|((try simp only[nK,oM,jO,bf,iD])<;>(repeat' apply jT)<;>first|rfl|(simp;done)|(simp<;>omega;done)|(congr 1;exact(aC (by simp<;>omega)).symm)))
  ·simp -dsimp only[egR,nM.pz,nM.f,nM.rd,DZ,Ae,lvl,yG,reduceIte,Nat.reduceEqDiff,Nat.reduceAdd,Nat.reduceLeDiff,Nat.reduceBEq,reduceCtorEq,Int.reduceBNe,Int.reduceBEq,Int.reduceLT,Int.reduceLE,Int.reduceNeg,Nat.reduceLT,D8,Int.reduceToNat,Fz,zU,JP,FY,F6,FU,F5,truncS,lC,sF,pK,rQ,qG,bW,o6,jo,hr]
   repeat refine jT (by first|(show Am _ _ _ _=true;kernel_rfl)|(show AA _ _=true;kernel_rfl)|omega|assumption) ?_
   rw[e2];refine OQ [] [(0,0),(1,1),(2,10)] [] (by rfl) ?_ ?_ ?_<;>(simp -dsimp only[rwR,Xc,Jk,reduceIte,Nat.reduceEqDiff,reduceCtorEq,Nat.reduceAdd,Nat.reduceLeDiff]<;>first|(simp[aC];done)|((try simp only[nK,oM,jO,bf,iD])<;>(repeat' apply jT)<;>first|rfl|(simp;done)|(simp<;>omega;done)|(congr 1;exact(aC (by simp<;>omega)).symm)))
 ·have he:((i:Int)==(es.length:Int))=false:=by simp;omega
  simp -dsimp only[egR,nM.pz,nM.f,nM.rd,DZ,Ae,lvl,yG,reduceIte,Nat.reduceEqDiff,Nat.reduceAdd,Nat.reduceLeDiff,Nat.reduceBEq,reduceCtorEq,Int.reduceBNe,Int.reduceBEq,Int.reduceLT,Int.reduceLE,Int.reduceNeg,Nat.reduceLT,D8,Int.reduceToNat,Fz,zU,JP,FY,F6,FU,F5,truncS,lC,sF,pK,rQ,qG,bW,o6,jo,h10]
  repeat refine jT (by first|(show Am _ _ _ _=true;kernel_rfl)|(show AA _ _=true;kernel_rfl)|omega|assumption) ?_
  simp -dsimp only[egR,nM.pz,nM.f,nM.rd,DZ,Ae,lvl,yG,reduceIte,Nat.reduceEqDiff,Nat.reduceAdd,Nat.reduceLeDiff,Nat.reduceBEq,reduceCtorEq,Int.reduceBNe,Int.reduceBEq,Int.reduceLT,Int.reduceLE,Int.reduceNeg,Nat.reduceLT,D8,Int.reduceToNat,Fz,zU,JP,FY,F6,FU,F5,truncS,lC,sF,pK,rQ,qG,bW,o6,jo,he];by_cases hr:es.length+1<=c
  ·have hd:decide ((c:Int)<((es.length+1:Nat):Int))=false:=(by simp;omega);simp -dsimp only[egR,nM.pz,nM.f,nM.rd,DZ,Ae,lvl,yG,reduceIte,Nat.reduceEqDiff,Nat.reduceAdd,Nat.reduceLeDiff,Nat.reduceBEq,reduceCtorEq,Int.reduceBNe,Int.reduceBEq,Int.reduceLT,Int.reduceLE,Int.reduceNeg,Nat.reduceLT,D8,Int.reduceToNat,Fz,zU,JP,FY,F6,FU,F5,truncS,lC,sF,pK,rQ,qG,bW,o6,jo,hw,hd]
   repeat refine jT (by first|(show Am _ _ _ _=true;kernel_rfl)|(show AA _ _=true;kernel_rfl)|omega|assumption) ?_
   simp -dsimp only[egR,nM.pz,nM.f,nM.rd,DZ,Ae,lvl,yG,reduceIte,Nat.reduceEqDiff,Nat.reduceAdd,Nat.reduceLeDiff,Nat.reduceBEq,reduceCtorEq,Int.reduceBNe,Int.reduceBEq,Int.reduceLT,Int.reduceLE,Int.reduceNeg,Nat.reduceLT,D8,Int.reduceToNat,Fz,zU,JP,FY,F6,FU,F5,truncS,lC,sF,pK,rQ,qG,bW,o6,jo,hw2]
   repeat refine jT (by first|(show Am _ _ _ _=true;kernel_rfl)|(show AA _ _=true;kernel_rfl)|omega|assumption) ?_
   refine jT (by simp[h0];omega) ?_;have e:=ahO es v i (by omega);simp only[splice]at e;rw[e];refine OQ [] [(0,0),(1,1),(2,0)] [] (by rfl) ?_ ?_ ?_<;>(simp -dsimp only[rwR,Xc,Jk,reduceIte,Nat.reduceEqDiff,reduceCtorEq,Nat.reduceAdd,Nat.reduceLeDiff]<;>first|(simp[aC];done)|((try simp only[nK,oM,jO,bf,iD])<;>(repeat' apply jT)<;>first|rfl|(simp;done)|(simp<;>omega;done)|(congr 1;exact(aC (by simp<;>omega)).symm)))
  ·have hd:decide ((c:Int)<((es.length+1:Nat):Int))=true:=(by simp;omega);have hx:c<i+(es.length+1-i):=(by omega);have e0:i+(es.length+1-i)=es.length+1:=(by omega);have hb2:(i+(es.length+1-i))*(cb+sz+1)<=2^46:=(by rw[e0];exact hb);simp -dsimp only[egR,nM.pz,nM.f,nM.rd,DZ,Ae,lvl,yG,reduceIte,Nat.reduceEqDiff,Nat.reduceAdd,Nat.reduceLeDiff,Nat.reduceBEq,reduceCtorEq,Int.reduceBNe,Int.reduceBEq,Int.reduceLT,Int.reduceLE,Int.reduceNeg,Nat.reduceLT,D8,Int.reduceToNat,Fz,zU,JP,FY,F6,FU,F5,truncS,lC,sF,pK,rQ,qG,bW,o6,jo,hw,hd,hw2,hw3]
   repeat refine jT (by first|(show Am _ _ _ _=true;kernel_rfl)|(show AA _ _=true;kernel_rfl)|omega|assumption) ?_
   refine jT (by simp[h0];omega) ?_
   repeat refine jT (by first|(show Am _ _ _ _=true;kernel_rfl)|(show AA _ _=true;kernel_rfl)|omega|assumption) ?_
   refine jT ⟨by omega,by simp;omega⟩ ?_
   repeat refine jT (by first|(show Am _ _ _ _=true;kernel_rfl)|(show AA _ _=true;kernel_rfl)|omega|assumption) ?_
   have e:=ahP es v z i _ (by omega) rfl;simp only[splice]at e;have e0:i+(es.length+1-i)=es.length+1:=(by omega);rw[e,e0];refine OQ [] [(0,0),(1,1),(2,11)] [] (by rfl) ?_ ?_ ?_<;>(simp -dsimp only[rwR,Xc,Jk,reduceIte,Nat.reduceEqDiff,reduceCtorEq,Nat.reduceAdd,Nat.reduceLeDiff]<;>first|(simp[aC];done)|((try simp only[nK,oM,jO,bf,iD])<;>(repeat' apply jT)<;>first|rfl|(simp;done)|(simp<;>omega;done)|(congr 1;exact(aC (by simp<;>omega)).symm)))
theorem FZ.del {P:Program}{f sz cb:Nat}{z:List Cell}(h0:sz≠0)(hK:iZ P f 3 1 (C.del sz cb z) [.tmp 6]=true){es:List (List Cell)}{c i j:Nat}(hc:es.length<=c)(hi:i<j)(hj:j<=es.length)(hb:es.length*(cb+sz+1)<=2^46) :
 kV P f [.one (.sub 0 0 es.length (some c) sz),.one (.c (.lit (.int .i64 (i:Int)))),.one (.c (.lit (.int .i64 (j:Int))))] [.dat sz es]
  (λr1 b1=>r1 = .one (.own 1 (i+(es.length-j)) sz)/\b1=[.dead,.dat sz (es.take i++es.drop j)]):=by
 have hb0:es.length<=es.length*(cb+sz+1):=A7 _ (by omega);refine lg hK (qx ?_);unfold C.del;have he:((i:Int)==(j:Int))=false:=by simp;omega
 have ht:sV (es.length-j) (lu j es)=lu j es:=aC (by simp);have hr:i+(es.length-j)<=c:=by omega
 simp -dsimp only[egR,nM.pz,nM.f,nM.rd,DZ,Ae,lvl,yG,reduceIte,Nat.reduceEqDiff,Nat.reduceAdd,Nat.reduceLeDiff,Nat.reduceBEq,reduceCtorEq,Int.reduceBNe,Int.reduceBEq,Int.reduceLT,Int.reduceLE,Int.reduceNeg,Nat.reduceLT,D8,Int.reduceToNat,Fz,zU,JP,FY,F6,FU,F5,truncS,lC,sF,pK,rQ,qG,bW,o6,jo,he]
 repeat refine jT (by first|(show Am _ _ _ _=true;kernel_rfl)|(show AA _ _=true;kernel_rfl)|omega|assumption) ?_
 simp -dsimp only[egR,nM.pz,nM.f,nM.rd,DZ,Ae,lvl,yG,reduceIte,Nat.reduceEqDiff,Nat.reduceAdd,Nat.reduceLeDiff,Nat.reduceBEq,reduceCtorEq,Int.reduceBNe,Int.reduceBEq,Int.reduceLT,Int.reduceLE,Int.reduceNeg,Nat.reduceLT,D8,Int.reduceToNat,Fz,zU,JP,FY,F6,FU,F5,truncS,lC,sF,pK,rQ,qG,bW,o6,jo,ht,fE,hr]
 repeat refine jT (by first|(show Am _ _ _ _=true;kernel_rfl)|(show AA _ _=true;kernel_rfl)|omega|assumption) ?_
 refine jT (by simp[h0];omega) ?_;have e4:(sV i es).length=i:=by simp;omega
 have e:sV (i+(es.length-j)) (sV i es++lu j es++lu (i+(es.length-j)) es)=sV i es++lu j es:=by
  have e5:(sV i es++lu j es).length=i+(es.length-j):=by rw[au,e4,fE]
  rw[List.take_append_of_le_length (by omega),aC (by omega)]
 rw[e,dA];generalize dh (es.length-(i+(es.length-j))) z++lu (i+(es.length-j)+(es.length-(i+(es.length-j)))) (sV i es++lu j es++lu (i+(es.length-j)) es)=T;generalize sV i es++lu j es=A;refine OQ [] [(0,0),(1,0)] [] (by rfl) ?_ ?_ ?_<;>(simp -dsimp only[rwR,Xc,Jk,reduceIte,Nat.reduceEqDiff,reduceCtorEq,Nat.reduceAdd,Nat.reduceLeDiff]<;>first|(simp[aC];done)|((try simp only[nK,oM,jO,bf,iD])<;>(repeat' apply jT)<;>first|rfl|(simp;done)|(simp<;>omega;done)|(congr 1;exact(aC (by simp<;>omega)).symm)))
theorem FG.ins {α:Type}(enc:α->List Cell){P:Program}{f gr sz cb:Nat}{z:List Cell}(h0:sz≠0)(hK:iZ P f 3 2 (C.ins sz cb gr z) [.tmp 6]=true){s v r:List α}{i:Int}
 (h:chk (0<=i/\i<=(s.length:Int)/\v.length=1/\(s.length+1)*(cb+sz+1)<=2^46) (some (s.take i.toNat++v++s.drop i.toNat))=some r) :
 kV P f [.one (.own 0 s.length sz),.one (.c (.lit (.int .i64 i))),.one (.own 1 v.length sz)] [.dat sz (ag enc s),.dat sz (ag enc v)]
  (λr1 b1=>r1 = .one (.own 2 r.length sz)/\b1=[.dead,.dat sz (ag enc v),.dat sz (ag enc r)]):=by
 obtain⟨⟨q1,q2,q3,q4⟩,h⟩:=zK.1 h;cases h;obtain⟨x,rfl⟩:=List.length_eq_one_iff.1 q3;obtain⟨k,rfl⟩:∃k:Nat,i=k:=⟨i.toNat,by omega⟩;refine YO (λc hc=>?_);have hf:=FZ.ins h0 hK (es:=ag enc s) (v:=enc x) (c:=c) (i:=k) (by simpa using hc) (by rw[iE];omega) (by rw[iE];exact q4);have e1:(sV k s++[x]++lu k s).length=s.length+1:=by simp;omega
 rw[ah,e1];simpa using hf
theorem FG.del {α:Type}(enc:α->List Cell){P:Program}{f sz cb:Nat}{z:List Cell}(h0:sz≠0)(hK:iZ P f 3 1 (C.del sz cb z) [.tmp 6]=true){s r:List α}{i j:Int}
 (h:chk (0<=i/\i<j/\j<=(s.length:Int)/\s.length*(cb+sz+1)<=2^46) (some (s.take i.toNat++s.drop j.toNat))=some r) :
 kV P f [.one (.own 0 s.length sz),.one (.c (.lit (.int .i64 i))),.one (.c (.lit (.int .i64 j)))] [.dat sz (ag enc s)]
  (λr1 b1=>r1 = .one (.own 1 r.length sz)/\b1=[.dead,.dat sz (ag enc r)]):=by
 obtain⟨⟨q1,q2,q3,q4⟩,h⟩:=zK.1 h;cases h;obtain⟨k,rfl⟩:∃k:Nat,i=k:=⟨i.toNat,by omega⟩;obtain⟨l,rfl⟩:∃l:Nat,j=l:=⟨j.toNat,by omega⟩;refine YO (λc hc=>?_);have hf:=FZ.del h0 hK (es:=ag enc s) (c:=c) (i:=k) (j:=l) (by simpa using hc) (by omega) (by rw[iE];omega) (by rw[iE];exact q4);have e1:(sV k s++lu l s).length=k+(s.length-l):=by simp;omega
 rw[ah,ah,e1];simpa using hf
section
def Ev {α:Type}(g:Nat->Option α)(r:α):Prop:=∃N,∀n,N<=n->g n=some r
section
variable {α β:Type} {g g':Nat->Option α} {r s:α}
theorem Ev.ret (r:α):Ev (λ_=>some r) r:=⟨0,λ_ _=>rfl⟩
theorem Ev.ret' (h:s=r):Ev (λ_=>some s) r:=by subst h;exact Ev.ret _
theorem Ev.up (h:Ev (λn=>g (n+1)) r):Ev g r:=by obtain⟨N,h⟩:=h;refine⟨N+1,λn hn=>?_⟩;obtain⟨m,rfl⟩:∃m,n=m+1:=⟨n-1,by omega⟩;exact h m (by omega)
theorem Ev.bind {h:Nat->Option β}{k:Nat->β->Option α}{a:β}(h1:Ev h a)(h2:Ev (λn=>k n a) r):Ev (λn=>iM (h n) (k n)) r:=by obtain⟨N,h1⟩:=h1;obtain⟨M,h2⟩:=h2;refine⟨max N M,λn hn=>?_⟩;show iM (h n) (k n)=some r;rw[h1 n (by omega)];exact h2 n (by omega)
theorem Ev.chk {p:Prop}[Decidable p](hp:p)(h:Ev g r):Ev (λn=>Ab.chk p (g n)) r:=by obtain⟨N,h⟩:=h;exact⟨N,λn hn=>by show Ab.chk p (g n)=some r;rw[Ab.chk,if_pos hp];exact h n hn⟩
theorem Ev.ct {c:Bool}(hc:c=true)(h:Ev g r):Ev (λn=>cond c (g n) (g' n)) r:=by subst hc;exact h
theorem Ev.cf {c:Bool}(hc:c=false)(h:Ev g' r):Ev (λn=>cond c (g n) (g' n)) r:=by subst hc;exact h
theorem Ev.ite {c:Bool}(h:c=true->Ev g r)(h':c=false->Ev g' r):Ev (λn=>cond c (g n) (g' n)) r:=by
 cases c
 ·exact h' rfl
 ·exact h rfl
theorem Ev.eq (h:Ev g r)(e:r=s):Ev g s:=e▸h
theorem Ev.uniq (h:Ev g r)(k:Ev g s):r=s:=by obtain⟨N,h⟩:=h;obtain⟨M,k⟩:=k;have e:=h (max N M) (by omega);rw[k (max N M) (by omega)]at e;exact(pW e).symm
theorem Ev.val (h:Ev g r):∃n,g n=some r:=⟨h.choose,h.choose_spec _ (ax _)⟩
end
theorem wrapN {x:Int}{m:Nat}(h:x=(m:Int))(h1:m<9223372036854775808):af .i64 x=(m:Int):=by rw[Fg (by omega) (by omega),h]
theorem dF {i:Nat}(h1:i+1<9223372036854775808):af .i64 ((i:Int)+1)=((i+1:Nat):Int):=wrapN (by omega) h1
theorem gu {α:Type}{l:List α}{i:Nat}(d:α)(h:i<l.length):l.getD i d=l[i]:=by simp[bu,h]
theorem dP {α:Type}{l:List α}{i:Nat}(d:α)(h:i<l.length):l.drop i=l.getD i d::l.drop (i+1):=by rw[gu d h,List.drop_eq_getElem_cons h]
abbrev bl (x y:List UInt8):Bool:=iU x y
theorem XB (x:List UInt8):bl x []=false:=by cases x<;>rfl
theorem PU (a b:UInt8)(x y:List UInt8):bl (a::x) (b::y)=(decide (a<b)||(a==b&&bl x y)):=rfl
theorem KY : ∀x:List UInt8,bl x x=false
 |[]=>rfl
 |a::x=>by rw[PU,KY x];simp
theorem Cf : ∀{x y z:List UInt8},bl x y=true->bl y z=true->bl x z=true
 |_,[],_,h,_=>by rw[XB]at h;cases h
 |_,_::_,[],_,h=>by rw[XB]at h;cases h
 |[],_::_,_::_,_,_=>rfl
 | a::x,b::y,c::z,h,k=>by
   rw[PU]at *;simp only[Bool.or_eq_true,ai,decide_eq_true_eq,beq_iff_eq]at *;rcases h with h|⟨rfl,h⟩<;>rcases k with k|⟨rfl,k⟩
   ·exact .inl (UInt8.lt_trans h k)
   ·exact .inl h
   ·exact .inl k
   ·exact .inr ⟨rfl,Cf h k⟩
theorem Js : ∀{x y:List UInt8},bl x y=false->bl y x=false->x=y
 |[],[],_,_=>rfl
 |[],_::_,h,_=>by cases h
 |_::_,[],_,h=>by cases h
 | a::x,b::y,h,k=>by
   rw[PU]at *;simp only[Bool.or_eq_false_iff,uq,decide_eq_false_iff_not]at *;obtain⟨h1,h2⟩:=h;obtain⟨k1,k2⟩:=k;have e:a=b:=by apply oq.1;simp only[UInt8.lt_iff_toNat_lt]at h1 k1;omega
   subst e;simp only[beq_self_eq_true,Bool.true_eq_false,false_or]at h2 k2;rw[Js h2 k2]
theorem MB {x y:List UInt8}(h:bl x y=true):bl y x=false:=by
 cases k:bl y x with
 |false=>rfl
 |true=>have:=Cf h k;rw[KY]at this;cases this
theorem GM {x y:List UInt8}(h:bl x y=true):x≠y:=by intro e;subst e;rw[KY]at h;cases h
theorem afN : ∀(x y:List UInt8),jU x y=if bl x y then -1 else if x=y then 0 else 1
 |[],[]=>rfl
 |[],_::_=>rfl
 |_::_,[]=>by simp[jU,XB]
 | a::x,b::y=>by
   rw[jU,PU];by_cases h:a<b
   ·simp[h]
   ·by_cases k:b<a
    ·have:a≠b:=λe=>(by subst e;exact h k);simp[h,k,this]
    ·have e:a=b:=by
      apply oq.1;simp only[UInt8.lt_iff_toNat_lt]at h k;omega
     subst e;rw[if_neg h,if_neg h,afN x y];simp
theorem Tj {x y:List UInt8} : jU x y=0<->x=y:=by
 rw[afN];by_cases h:bl x y=true
 ·simp only[h,if_true];exact⟨λe=>by omega,λe=>absurd e (GM h)⟩
 ·simp only[h];by_cases e:x=y<;>simp[e]
end
def okB (b:UInt8):Bool:=decide (32<=b.toNat)&&decide (b.toNat<=126)
def PT (s:aK):Bool:=s.all okB&&decide (s.length<=12)
def PP (p:List aK):Bool:=p.all PT&&decide (p.length<=5)
def Asc : List aK->Bool
 |[]=>true
 |[_]=>true
 |x::y::r=>iU x y&&Asc (y::r)
def big : Nat:=4611686018427387904
theorem Ia (b:UInt8):af .i64 (b.toNat:Int)=(b.toNat:Int):=by have:=b.toNat_lt;exact wrapN rfl (by omega)
theorem T.fZ (a lo hi:Int):Ev (λn=>G.fZ n a lo hi) (decide (lo<=a)&&decide (a<=hi)):=by
 refine Ev.up ?_;simp only[G.fZ];refine Ev.ite (λh=>?_) (λh=>?_)
 ·exact Ev.ret' (by rw[h,bU])
 ·exact Ev.ret' (by rw[h,uH])
theorem T.jd.L1 (s:aK)(hs:s.length<big):∀(k i:Nat),i+k=s.length->Ev (λn=>G.jd.L1 n s i) ((s.drop i).all okB&&decide (s.length<=12)):=by
 unfold big at hs;intro k
 induction k with
 | zero=>intro i hi;refine Ev.up ?_;simp only[G.jd.L1];refine Ev.cf (by simp;omega) (Ev.ret' ?_);rw[ak (by omega)];simp;omega
 | succ k ih=>
   intro i hi;refine Ev.up ?_;simp only[G.jd.L1];refine Ev.ct (by simp;omega) (Ev.chk (by omega) ?_);refine Ev.bind (T.fZ _ _ _) ?_;rw[dP (0:UInt8) (by omega:i<s.length),dI,ah,Ia];have e:(decide ((32:Int)<=((s.getD i 0).toNat:Int))&&decide (((s.getD i 0).toNat:Int)<=126))=okB (s.getD i 0):=(by unfold okB;congr 1<;>(apply decide_eq_decide.2;omega));rw[e];refine Ev.ite (λh=>?_) (λh=>?_)
   ·rw[dF (by omega),h,bU];exact ih (i+1) (by omega)
   ·exact Ev.ret' (by rw[h];rfl)
theorem T.jd (s:aK)(hs:s.length<big):Ev (λn=>G.jd n s) (PT s):=by refine Ev.up ?_;simp only[G.jd];exact T.jd.L1 s hs s.length 0 (by omega)
theorem T.gU.L1 (s:aK)(hs:s.length<big):∀(k i:Nat),i+k=s.length->Ev (λn=>G.gU.L1 n s i) ((s.drop i).all okB):=by
 unfold big at hs;intro k
 induction k with
 | zero=>intro i hi;refine Ev.up ?_;simp only[G.gU.L1];refine Ev.cf (by simp;omega) (Ev.ret' ?_);rw[ak (by omega)];rfl
 | succ k ih=>
   intro i hi;refine Ev.up ?_;simp only[G.gU.L1];rw[dP (0:UInt8) (by omega:i<s.length),dI,ah];refine Ev.ct (by simp;omega) (Ev.chk (by omega) ?_);refine Ev.ite (λh=>?_) (λh=>?_)
   ·refine Ev.ret' ?_;have:okB (s.getD i 0)=false:=by
     simp only[decide_eq_true_eq]at h;simp only[okB,uq,decide_eq_false_iff_not];omega
    rw[this];rfl
   ·refine Ev.chk (by omega) ?_;refine Ev.ite (λk=>?_) (λk=>?_)
    ·refine Ev.ret' ?_;have:okB (s.getD i 0)=false:=by
      simp only[decide_eq_true_eq]at k;simp only[okB,uq,decide_eq_false_iff_not];omega
     rw[this];rfl
    ·have:okB (s.getD i 0)=true:=by
      simp only[decide_eq_false_iff_not]at h k;simp only[okB,ai,decide_eq_true_eq];omega
     rw[this,bU,dF (by omega)];exact ih (i+1) (by omega)
theorem T.gU (s:aK)(hs:s.length<big):Ev (λn=>G.gU n s) (PT s):=by
 refine Ev.up ?_;simp only[G.gU];refine Ev.ite (λh=>?_) (λh=>?_)
 ·simp only[decide_eq_true_eq]at h;refine Ev.ret' ?_;have:decide (s.length<=12)=false:=by simp;omega
  rw[PT,this,qC]
 ·simp only[decide_eq_false_iff_not]at h;refine(T.gU.L1 s hs s.length 0 (by omega)).eq ?_;have:decide (s.length<=12)=true:=by simp;omega
  rw[PT,this,oJ,bW]
def Sm (l:List aK):Prop:=l.length<big/\∀s,s∈l->s.length<big
theorem Sm.get {l:List aK}(h:Sm l){i:Nat}(hi:i<l.length):(l.getD i default).length<big:=by rw[gu _ hi];exact h.2 _ (dJ hi)
theorem T.jB.L1 (p:List aK)(hp:Sm p):∀(k i:Nat),i+k=p.length->Ev (λn=>G.jB.L1 n p i) ((p.drop i).all PT&&decide (p.length<=5)):=by
 have hl:=hp.1;unfold big at hl;intro k
 induction k with
 | zero=>intro i hi;refine Ev.up ?_;simp only[G.jB.L1];refine Ev.cf (by simp;omega) (Ev.ret' ?_);rw[ak (by omega)];simp;omega
 | succ k ih=>
   intro i hi;refine Ev.up ?_;simp only[G.jB.L1];refine Ev.ct (by simp;omega) (Ev.chk (by omega) ?_);rw[dP (default:aK) (by omega:i<p.length),dI,ah];refine Ev.bind (T.jd _ (hp.get (by omega))) ?_;refine Ev.ite (λh=>?_) (λh=>?_)
   ·rw[dF (by omega),h,bU];exact ih (i+1) (by omega)
   ·exact Ev.ret' (by rw[h];rfl)
theorem T.jB (p:List aK)(hp:Sm p):Ev (λn=>G.jB n p) (PP p):=by refine Ev.up ?_;simp only[G.jB];exact T.jB.L1 p hp p.length 0 (by omega)
theorem T.iQ.L1 (p:List aK)(hp:Sm p):∀(k i:Nat),i+k=p.length->Ev (λn=>G.iQ.L1 n p i) ((p.drop i).all PT):=by
 have hl:=hp.1;unfold big at hl;intro k
 induction k with
 | zero=>intro i hi;refine Ev.up ?_;simp only[G.iQ.L1];refine Ev.cf (by simp;omega) (Ev.ret' ?_);rw[ak (by omega)];rfl
 | succ k ih=>
   intro i hi;refine Ev.up ?_;simp only[G.iQ.L1];refine Ev.ct (by simp;omega) (Ev.chk (by omega) ?_);rw[dP (default:aK) (by omega:i<p.length),dI,ah];refine Ev.bind (T.gU _ (hp.get (by omega))) ?_;refine Ev.ite (λh=>?_) (λh=>?_)
   ·rw[dF (by omega),h,bU];exact ih (i+1) (by omega)
   ·exact Ev.ret' (by rw[h];rfl)
theorem T.iQ (p:List aK)(hp:Sm p):Ev (λn=>G.iQ n p) (PP p):=by
 refine Ev.up ?_;simp only[G.iQ];refine Ev.ite (λh=>?_) (λh=>?_)
 ·simp only[decide_eq_true_eq]at h;refine Ev.ret' ?_;have:decide (p.length<=5)=false:=by simp;omega
  rw[PP,this,qC]
 ·simp only[decide_eq_false_iff_not]at h;refine(T.iQ.L1 p hp p.length 0 (by omega)).eq ?_;have:decide (p.length<=5)=true:=by simp;omega
  rw[PP,this,oJ,bW]
def NM (l:List aK):Bool:=l.all PT&&Asc l
theorem drop_pred {l:List aK}{i:Nat}(h0:0<i)(h:i<l.length):l.drop (i-1)=l.getD (i-1) default::l.getD i default::l.drop (i+1):=by rw[dP (default:aK) (by omega:i-1<l.length),show i-1+1=i by omega,dP (default:aK) h]
theorem T.oH.L1 (l:List aK)(hp:Sm l):∀(k i:Nat),i+k=l.length->Ev (λn=>G.oH.L1 n l i) ((l.drop i).all PT&&Asc (l.drop (i-1))):=by
 have hl:=hp.1;unfold big at hl;intro k
 induction k with
 | zero=>
   intro i hi;refine Ev.up ?_;simp only[G.oH.L1];refine Ev.cf (by simp;omega) (Ev.ret' ?_);rw[ak (by omega)];by_cases h0:i=0
   ·rw[ak (by omega)];rfl
   ·rw[dP (default:aK) (by omega:i-1<l.length),ak (by omega)];rfl
 | succ k ih=>
   intro i hi;refine Ev.up ?_;simp only[G.oH.L1];refine Ev.ct (by simp;omega) (Ev.chk (by omega) ?_);rw[dP (default:aK) (by omega:i<l.length),dI,ah];refine Ev.bind (T.jd _ (hp.get (by omega))) ?_;refine Ev.ite (λh=>?_) (λh=>?_)
   ·rw[h,bU,dF (by omega)];refine Ev.ite (λh0=>?_) (λh0=>?_)
    ·simp only[decide_eq_true_eq]at h0;have e:af .i64 ((i:Int)-1)=((i-1:Nat):Int):=wrapN (by omega) (by omega);rw[e,ah];refine Ev.chk (by omega) (Ev.chk (by omega) ?_);rw[drop_pred (by omega) (by omega),Asc];have hd:l.getD i default::l.drop (i+1)=l.drop (i+1-1):=(by rw[jo,<- dP (default:aK) (by omega:i<l.length)]);refine Ev.ite (λh1=>?_) (λh1=>?_)
     ·exact Ev.ret' (by rw[show iU (l.getD (i-1) default) (l.getD i default)=false from MB h1];simp)
     ·refine Ev.ite (λh2=>?_) (λh2=>?_)
      ·rw[beq_iff_eq]at h2;exact Ev.ret' (by rw[show iU (l.getD (i-1) default) (l.getD i default)=false by rw[h2];exact KY _];simp)
      ·have:iU (l.getD (i-1) default) (l.getD i default)=true:=by
        cases hb:iU (l.getD (i-1) default) (l.getD i default)with
        |true=>rfl
        |false=>rw[Js h1 hb]at h2;simp at h2
       rw[this,bU,hd];exact ih (i+1) (by omega)
    ·simp only[decide_eq_false_iff_not]at h0;have:i=0:=(by omega);subst this;exact ih 1 (by omega)
   ·exact Ev.ret' (by rw[h];rfl)
theorem T.oH (l:List aK)(hp:Sm l):Ev (λn=>G.oH n l) (NM l):=by refine Ev.up ?_;simp only[G.oH];exact T.oH.L1 l hp l.length 0 (by omega)
theorem T.kC.L1 (l:List aK)(hp:Sm l):∀(k i:Nat),i+k=l.length->Ev (λn=>G.kC.L1 n l i) ((l.drop i).all PT&&Asc (l.drop (i-1))):=by
 have hl:=hp.1;unfold big at hl;intro k
 induction k with
 | zero=>
   intro i hi;refine Ev.up ?_;simp only[G.kC.L1];refine Ev.cf (by simp;omega) (Ev.ret' ?_);rw[ak (by omega)];by_cases h0:i=0
   ·rw[ak (by omega)];rfl
   ·rw[dP (default:aK) (by omega:i-1<l.length),ak (by omega)];rfl
 | succ k ih=>
   intro i hi;refine Ev.up ?_;simp only[G.kC.L1];refine Ev.ct (by simp;omega) (Ev.chk (by omega) ?_);rw[dP (default:aK) (by omega:i<l.length),dI,ah];refine Ev.bind (T.gU _ (hp.get (by omega))) ?_;refine Ev.ite (λh=>?_) (λh=>?_)
   ·rw[h,bU,dF (by omega)];refine Ev.ite (λh0=>?_) (λh0=>?_)
    ·simp only[decide_eq_true_eq]at h0;have e:af .i64 ((i:Int)-1)=((i-1:Nat):Int):=wrapN (by omega) (by omega);rw[e,ah];refine Ev.chk (by omega) ?_;rw[drop_pred (by omega) (by omega),Asc];have hd:l.getD i default::l.drop (i+1)=l.drop (i+1-1):=(by rw[jo,<- dP (default:aK) (by omega:i<l.length)]);refine Ev.ite (λh1=>?_) (λh1=>?_)
     ·rw[h1,bU,hd];exact ih (i+1) (by omega)
     ·exact Ev.ret' (by rw[h1];simp)
    ·simp only[decide_eq_false_iff_not]at h0;have:i=0:=(by omega);subst this;exact ih 1 (by omega)
   ·exact Ev.ret' (by rw[h];rfl)
theorem T.kC (l:List aK)(hp:Sm l):Ev (λn=>G.kC n l) (NM l&&decide (l.length<=6)):=by
 refine Ev.up ?_;simp only[G.kC];refine Ev.ite (λh=>?_) (λh=>?_)
 ·simp only[decide_eq_true_eq]at h;refine Ev.ret' ?_;have:decide (l.length<=6)=false:=by simp;omega
  rw[this,qC]
 ·simp only[decide_eq_false_iff_not]at h;refine(T.kC.L1 l hp l.length 0 (by omega)).eq ?_;have:decide (l.length<=6)=true:=by simp;omega
  rw[NM,this,oJ,bW]
def Fine (B:Nat):Nat->aj->Prop
 |0,_=>False
 |d+1,n=>n.Text.length<=B/\n.Names.length<=B/\(∀s,s∈n.Names->s.length<=B)/\n.Kids.length<=B/\(n.Kind=4->n.Kids.length<=n.Names.length)/\∀k,k∈n.Kids->Fine B d k
def wE (B:Nat):Nat->aj->Prop
 |0,_=>False
 |d+1,n=>n.Text.length<=B/\n.Names.length<=B/\(∀s,s∈n.Names->s.length<=B)/\n.Kids.length<=B/\True/\∀k,k∈n.Kids->wE B d k
theorem Fine.fin0 {B:Nat} : ∀{d:Nat} {n:aj},Fine B d n->wE B d n
 |0,_,h=>h
 |d+1,n,⟨h1,h2,h3,h4,_,h6⟩=>⟨h1,h2,h3,h4,trivial,λk hk=>(h6 k hk).fin0⟩
theorem Fine.mono {B C:Nat}(hB:B<=C):∀{d e:Nat} {n:aj},d<=e->Fine B d n->Fine C e n
 |0,_,_,_,h=>h.elim
 |d+1,0,_,hd,_=>by omega
 | d+1,e+1,n,hd,h=>by obtain⟨h1,h2,h3,h4,h5,h6⟩:=h;exact⟨by omega,by omega,λs hs=>iP (h3 s hs) hB,by omega,h5,λk hk=>(h6 k hk).mono hB (by omega)⟩
theorem wE.mono {B C:Nat}(hB:B<=C):∀{d e:Nat} {n:aj},d<=e->wE B d n->wE C e n
 |0,_,_,_,h=>h.elim
 |d+1,0,_,hd,_=>by omega
 | d+1,e+1,n,hd,h=>by obtain⟨h1,h2,h3,h4,h5,h6⟩:=h;exact⟨by omega,by omega,λs hs=>iP (h3 s hs) hB,by omega,h5,λk hk=>(h6 k hk).mono hB (by omega)⟩
def lim : Nat:=4294967296
theorem Fine.sm {B d:Nat}{n:aj}(hB:B<=lim)(h:Fine B d n):Sm n.Names:=by
 cases d with
 |zero=>exact h.elim
 | succ d=>obtain⟨h1,h2,h3,h4,h5,h6⟩:=h;unfold lim at hB;exact⟨by unfold big;omega,λs hs=>by have:=h3 s hs;unfold big;omega⟩
theorem wE.sm {B d:Nat}{n:aj}(hB:B<=lim)(h:wE B d n):Sm n.Names:=by
 cases d with
 |zero=>exact h.elim
 | succ d=>obtain⟨h1,h2,h3,h4,h5,h6⟩:=h;unfold lim at hB;exact⟨by unfold big;omega,λs hs=>by have:=h3 s hs;unfold big;omega⟩
theorem Fine.text {B d:Nat}{n:aj}(hB:B<=lim)(h:Fine B d n):n.Text.length<big:=by
 cases d with
 |zero=>exact h.elim
 |succ d=>obtain⟨h1,_⟩:=h;unfold lim at hB;unfold big;omega
theorem wE.text {B d:Nat}{n:aj}(hB:B<=lim)(h:wE B d n):n.Text.length<big:=by
 cases d with
 |zero=>exact h.elim
 |succ d=>obtain⟨h1,_⟩:=h;unfold lim at hB;unfold big;omega
theorem Fine.kids {B d:Nat}{n:aj}(h:Fine B d n):n.Kids.length<=B:=by
 cases d with
 |zero=>exact h.elim
 |succ d=>exact h.2.2.2.1
theorem wE.kids {B d:Nat}{n:aj}(h:wE B d n):n.Kids.length<=B:=by
 cases d with
 |zero=>exact h.elim
 |succ d=>exact h.2.2.2.1
theorem Fine.names {B d:Nat}{n:aj}(h:Fine B d n):n.Names.length<=B:=by
 cases d with
 |zero=>exact h.elim
 |succ d=>exact h.2.1
theorem wE.names {B d:Nat}{n:aj}(h:wE B d n):n.Names.length<=B:=by
 cases d with
 |zero=>exact h.elim
 |succ d=>exact h.2.1
theorem Fine.map {B d:Nat}{n:aj}(h:Fine B d n)(hk:n.Kind=4):n.Kids.length<=n.Names.length:=by
 cases d with
 |zero=>exact h.elim
 |succ d=>exact h.2.2.2.2.1 hk
theorem Fine.kid {B d:Nat}{n:aj}(h:Fine B (d+1) n){i:Nat}(hi:i<n.Kids.length):Fine B d (n.Kids.getD i default):=by rw[gu _ hi];exact h.2.2.2.2.2 _ (dJ hi)
theorem wE.kid {B d:Nat}{n:aj}(h:wE B (d+1) n){i:Nat}(hi:i<n.Kids.length):wE B d (n.Kids.getD i default):=by rw[gu _ hi];exact h.2.2.2.2.2 _ (dJ hi)
def Parts (n:aj):Bool:=
 (n.Kind==1||n.Num==0)&&(n.Kind==2||n.Text==[])&&(n.Kind==4||n.Names.length==0) &&
 (if n.Kind=0 then n.Kids.length==0 else if n.Kind=1 then(decide (-999999<=n.Num)&&decide (n.Num<=999999))&&n.Kids.length==0 else if n.Kind=2 then PT n.Text&&n.Kids.length==0
  else if n.Kind=3 then decide (n.Kids.length<=6)else if n.Kind=4 then NM n.Names&&decide (n.Names.length<=6)&&n.Kids.length==n.Names.length else false)
def Shape : Nat->aj->Bool
 |0,_=>false
 |d+1,n=>Parts n&&n.Kids.all (Shape d)
theorem ilen {a b:Nat} : ((a:Int)==(b:Int))=(a==b):=by rw[pU];simp;omega
theorem ag0 {a:Nat} : ((a:Int)==0)=(a==0):=by rw[pU];simp
theorem PX {a b:Nat} : decide ((a:Int)<=(b:Int))=decide (a<=b):=by rw[pU];simp
def KQ (n:aj):Bool:=
 (n.Kind==4||n.Names.length==0) &&
 (if n.Kind=0 then n.Kids.length==0 else if n.Kind=1 then(decide (-999999<=n.Num)&&decide (n.Num<=999999))&&n.Kids.length==0 else if n.Kind=2 then PT n.Text&&n.Kids.length==0
  else if n.Kind=3 then decide (n.Kids.length<=6)else if n.Kind=4 then NM n.Names&&decide (n.Names.length<=6)&&n.Kids.length==n.Names.length else false)
theorem abz (n:aj):Parts n=((n.Kind==1||n.Num==0)&&(n.Kind==2||n.Text==[])&&KQ n):=by unfold Parts KQ;simp only[Bool.and_assoc]
theorem T0.gZ.K1 {B d:Nat}{n:aj}(hB:B<=lim)(h:wE B d n):Ev (λf=>G.gZ.K1 f n) (KQ n):=by
 refine Ev.up ?_;simp only[G.gZ.K1];have ht:=T.gU _ (h.text hB);have hn:=T.kC _ (h.sm hB);have h0:decide ((0:Int)<(n.Names.length:Int)) = !(n.Names.length==0):=by cases hq:n.Names.length<;>simp
 have h6:decide ((n.Kids.length:Int)<=6)=decide (n.Kids.length<=6):=by rw[pU];simp;omega
 rw[h0];have tail:Ev (λf=>cond (n.Kind==0) (some ((n.Kids.length:Int)==0)) (cond (n.Kind==1) (cond (decide ((-999999)<=n.Num)) (cond (decide (n.Num<=999999)) (some ((n.Kids.length:Int)==0)) (some false)) (some false))
  (cond (n.Kind==2) (iM (G.gU f n.Text) λv3=>cond v3 (some ((n.Kids.length:Int)==0)) (some false))
  (cond (n.Kind==3) (some (decide ((n.Kids.length:Int)<=6))) (cond (n.Kind==4) (iM (G.kC f n.Names) λv4=>cond v4 (some ((n.Kids.length:Int)==(n.Names.length:Int))) (some false)) (some false))))))
  (if n.Kind=0 then n.Kids.length==0 else if n.Kind=1 then(decide (-999999<=n.Num)&&decide (n.Num<=999999))&&n.Kids.length==0 else if n.Kind=2 then PT n.Text&&n.Kids.length==0
   else if n.Kind=3 then decide (n.Kids.length<=6)else if n.Kind=4 then NM n.Names&&decide (n.Names.length<=6)&&n.Kids.length==n.Names.length else false):=by
  rw[ag0,ilen,h6];refine Ev.ite (λe=>Ev.ret' ?_) (λe0=>?_)
  ·rw[if_pos (by simpa using e)]
  rw[if_neg (by simpa using e0)];refine Ev.ite (λe=>?_) (λe1=>?_)
  ·rw[if_pos (by simpa using e)];refine Ev.ite (λk=>Ev.ite (λk2=>Ev.ret' ?_) (λk2=>Ev.ret' ?_)) (λk=>Ev.ret' ?_)
   ·rw[k,k2];simp
   ·rw[k2];simp
   ·rw[k];simp
  rw[if_neg (by simpa using e1)];refine Ev.ite (λe=>?_) (λe2=>?_)
  ·rw[if_pos (by simpa using e)];refine Ev.bind ht (Ev.ite (λk=>Ev.ret' ?_) (λk=>Ev.ret' ?_))
   ·rw[k,bU]
   ·rw[k,uH]
  rw[if_neg (by simpa using e2)];refine Ev.ite (λe=>Ev.ret' ?_) (λe3=>?_)
  ·rw[if_pos (by simpa using e)]
  rw[if_neg (by simpa using e3)];refine Ev.ite (λe=>?_) (λe4=>Ev.ret' ?_)
  ·rw[if_pos (by simpa using e)];refine Ev.bind hn (Ev.ite (λk=>Ev.ret' ?_) (λk=>Ev.ret' ?_))
   ·rw[k,bU]
   ·rw[k,uH]
  ·rw[if_neg (by simpa using e4)]
 refine Ev.ite (λe=>?_) (λe=>?_)
 ·have e':(n.Kind==4)=false:=by simpa using e
  refine Ev.ite (λk=>Ev.ret' ?_) (λk=>?_)
  ·rw[Bool.not_eq_true']at k;rw[KQ,e',k];rfl
  ·rw[Bool.not_eq_false']at k;exact tail.eq (by rw[KQ,k,xh,bU])
 ·have e':(n.Kind==4)=true:=by simpa using e
  exact tail.eq (by rw[KQ,e',yH,bU])
theorem T0.gZ {B d:Nat}{n:aj}(hB:B<=lim)(h:wE B d n):Ev (λf=>G.gZ f n) (Parts n):=by
 refine Ev.up ?_;simp only[G.gZ];have hk:=T0.gZ.K1 hB h;rw[abz];have tail:Ev (λf=>cond (n.Kind != 2) (cond (n.Text==[]) (G.gZ.K1 f n) (some false)) (G.gZ.K1 f n)) ((n.Kind==2||n.Text==[])&&KQ n):=by
  refine Ev.ite (λe=>?_) (λe=>?_)
  ·have e':(n.Kind==2)=false:=(by simpa using e);refine Ev.ite (λk=>?_) (λk=>Ev.ret' ?_)
   ·exact hk.eq (by rw[k,xh,bU])
   ·rw[e',k];rfl
  ·have e':(n.Kind==2)=true:=(by simpa using e);exact hk.eq (by rw[e',yH,bU])
 refine Ev.ite (λe=>?_) (λe=>?_)
 ·have e':(n.Kind==1)=false:=by simpa using e
  refine Ev.ite (λk=>Ev.ret' ?_) (λk=>?_)
  ·have:(n.Num==0)=false:=(by simpa using k);rw[e',this];rfl
  ·have:(n.Num==0)=true:=(by simpa using k);exact tail.eq (by rw[this,xh,bU])
 ·have e':(n.Kind==1)=true:=by simpa using e
  exact tail.eq (by rw[e',yH,bU])
theorem T0.rX.L1 {B D d:Nat}{n:aj}(hB:B<=lim)(h:wE B (D+1) n)(hd:d<1000)(hs:∀k,k∈n.Kids->Ev (λf=>G.jA f k d) (Shape d k)) :
 ∀(k i:Nat),i+k=n.Kids.length->Ev (λf=>G.rX.L1 f n ((d+1:Nat):Int) i) ((n.Kids.drop i).all (Shape d)):=by
 have hl:=h.kids;unfold lim at hB;intro k
 induction k with
 | zero=>intro i hi;refine Ev.up ?_;simp only[G.rX.L1];refine Ev.cf (by simp;omega) (Ev.ret' ?_);rw[ak (by omega)];rfl
 | succ k ih=>
   intro i hi;refine Ev.up ?_;simp only[G.rX.L1];refine Ev.ct (by simp;omega) (Ev.chk (by omega) ?_);rw[dP (default:aj) (by omega:i<n.Kids.length),dI,ah];have e:af .i64 (((d+1:Nat):Int)-1)=(d:Int):=wrapN (by omega) (by omega);rw[e];refine Ev.bind (hs _ (by rw[gu _ (by omega:i<n.Kids.length)];exact dJ _)) ?_;refine Ev.ite (λh=>?_) (λh=>?_)
   ·rw[dF (by omega),h,bU];exact ih (i+1) (by omega)
   ·exact Ev.ret' (by rw[h];rfl)
theorem T0.rX {B D d:Nat}{n:aj}(hB:B<=lim)(h:wE B (D+1) n)(hd:d<1000)(hs:∀k,k∈n.Kids->Ev (λf=>G.jA f k d) (Shape d k)) :
 Ev (λf=>G.rX f n ((d+1:Nat):Int)) (n.Kids.all (Shape d)):=by
 refine Ev.up ?_;simp only[G.rX];exact T0.rX.L1 hB h hd hs n.Kids.length 0 (by omega)
def ShK (d:Nat)(n:aj):Bool:=
 if n.Kind=1 then decide (-999999<=n.Num)&&decide (n.Num<=999999)else if n.Kind=2 then PT n.Text else if n.Kind=3 then n.Kids.all (Shape d)
 else if n.Kind=4 then n.Names.length==n.Kids.length&&NM n.Names&&n.Kids.all (Shape d)else n.Kind==0
theorem T0.jA.K1 {B D d:Nat}{n:aj}(hB:B<=lim)(h:wE B (D+1) n)(hd:d<1000)(hs:∀k,k∈n.Kids->Ev (λf=>G.jA f k d) (Shape d k)) :
 Ev (λf=>G.jA.K1 f n ((d+1:Nat):Int)) (ShK d n):=by
 refine Ev.up ?_;simp only[G.jA.K1];have hk:=T0.rX hB h hd hs;unfold ShK;refine Ev.ite (λe=>?_) (λe1=>?_)
 ·rw[if_pos (by simpa using e)];exact Ev.bind (T.fZ _ _ _) (Ev.ret _)
 rw[if_neg (by simpa using e1)];refine Ev.ite (λe=>?_) (λe2=>?_)
 ·rw[if_pos (by simpa using e)];exact Ev.bind (T.jd _ (h.text hB)) (Ev.ret _)
 rw[if_neg (by simpa using e2)];refine Ev.ite (λe=>?_) (λe3=>?_)
 ·rw[if_pos (by simpa using e)];exact Ev.bind hk (Ev.ret _)
 rw[if_neg (by simpa using e3)];refine Ev.ite (λe=>?_) (λe4=>?_)
 ·rw[if_pos (by simpa using e),ilen];refine Ev.ite (λk=>?_) (λk=>Ev.ret' (by rw[k];rfl));refine Ev.bind (T.oH _ (h.sm hB)) ?_;refine Ev.ite (λk2=>?_) (λk2=>Ev.ret' (by rw[k2];simp));exact Ev.bind hk (Ev.ret' (by rw[k,k2];rfl))
 ·exact Ev.ret' (by rw[if_neg (by simpa using e4)])
theorem ag1 {a:Nat} : decide ((0:Int)<(a:Int)) = !(a==0):=by cases a<;>simp
theorem XW {c a:Bool}{g:Nat->Option Bool}{V:Bool}(h:Ev g V):Ev (λf=>cond c (cond a (some false) (g f)) (g f)) ((!c || !a)&&V):=by
 cases c<;>cases a
 ·exact h
 ·exact h
 ·exact h
 ·exact Ev.ret _
theorem aes {c a:Bool}{g:Nat->Option Bool}{V:Bool}(h:Ev g V):Ev (λf=>cond c (cond a (g f) (some false)) (g f)) ((!c||a)&&V):=by
 cases c<;>cases a
 ·exact h
 ·exact h
 ·exact Ev.ret _
 ·exact h
theorem LH {n:aj}(h:6<n.Kids.length):Parts n=false:=by
 have e0:(n.Kids.length==0)=false:=beq_eq_false_iff_ne.2 (by omega);have e6:decide (n.Kids.length<=6)=false:=by simp;omega
 have e4:(NM n.Names&&decide (n.Names.length<=6)&&n.Kids.length==n.Names.length)=false:=by
  cases h1:decide (n.Names.length<=6)with
  |false=>simp
  | true=>have:(n.Kids.length==n.Names.length)=false:=(by simp at h1;simp;omega);rw[this,qC]
 unfold Parts;rw[e0,e6,e4];simp
theorem adk {d:Nat}{n:aj}(h:n.Kids.length<=6) :
 ((!(n.Kind != 1) || !(n.Num != 0))&&((!(n.Kind != 2)||n.Text==[])&&((!(n.Kind != 4) || !(!(n.Names.length==0)))&&((!(decide (n.Kind<3)) || !(!(n.Kids.length==0)))&&ShK d n))))=Shape (d+1) n:=by
 have e6:decide (n.Kids.length<=6)=true:=by simp;omega
 have hall:n.Kids.length=0->n.Kids.all (Shape d)=true:=λe=>by rw[dD e];rfl
 have hb:∀x y:Int,(!(x != y))=(x==y):=λx y=>by simp[bne]
 rw[hb,hb,hb,hb];unfold Shape Parts ShK;simp only[Bool.not_not,Bool.and_assoc]
 congr 1
 congr 1
 congr 1
 rw[e6];by_cases k0:n.Kind=0
 ·simp only[k0];cases hz:(n.Kids.length==0)<;>simp_all
 by_cases k1:n.Kind=1
 ·simp only[k1];cases hz:(n.Kids.length==0)<;>simp_all
 by_cases k2:n.Kind=2
 ·simp only[k2];cases hz:(n.Kids.length==0)<;>simp_all
 by_cases k3:n.Kind=3
 ·simp[k3]
 by_cases k4:n.Kind=4
 ·simp only[k4];have hc:(n.Kids.length==n.Names.length)=(n.Names.length==n.Kids.length):=by rw[pU];simp;omega
  rw[hc];cases hz:(n.Names.length==n.Kids.length)
  ·simp
  ·have:decide (n.Names.length<=6)=true:=(by simp at hz;simp;omega);simp[this]
 ·simp[k0,k1,k2,k3,k4]
def Cnt : Nat->aj->Nat
 |0,_=>0
 |d+1,n=>1+(n.Kids.map (Cnt d)).sum
theorem kT {d:Nat}{n:aj}(h:Shape (d+1) n=true):Parts n=true:=by unfold Shape at h;simp only[ai]at h;exact h.1
theorem uF {d:Nat}{n:aj}(h:Shape (d+1) n=true):∀k,k∈n.Kids->Shape d k=true:=by unfold Shape at h;simp only[ai]at h;exact aZ.1 h.2
theorem Eh {d:Nat}{n:aj}(h:Shape d n=true):n.Kids.length<=6:=by
 cases d with
 |zero=>cases h
 | succ d=>
   by_cases k:n.Kids.length<=6
   ·exact k
   ·have:=LH (n:=n) (by omega);rw[kT h]at this;cases this
theorem adv {α:Type}(f:α->Nat)(m:Nat):∀l:List α,(∀x,x∈l->f x<=m)->(l.map f).sum<=l.length*m
 |[],_=>by simp
 | x::l,h=>by have h1:=adv f m l (λy hy=>h y (by simp[hy]));have h2:=h x (by simp);simp only[bf,rU,bH,Nat.add_mul];omega
theorem cnt_le : ∀{d:Nat} {n:aj},Shape d n=true->Cnt d n<=7^d
 |0,_,h=>by cases h
 | d+1,n,h=>by have hk:=uF h;have:=adv (Cnt d) (7^d) n.Kids (λk hk'=>cnt_le (hk k hk'));have h6:=Eh h;have hm:n.Kids.length*7^d<=6*7^d:=Nat.mul_le_mul_right _ h6;have hp:1<=7^d:=Nat.one_le_pow _ _ (by omega);unfold Cnt;rw[Nat.pow_succ];omega
theorem U1 {d:Nat}(h:d<=5):7^d<=16807:=iP (Nat.pow_le_pow_right (by omega) h) (by decide)
theorem T0.jA {B:Nat}(hB:B<=lim):∀(d D:Nat) (n:aj),d<1000->wE B D n->Ev (λf=>G.jA f n (d:Int)) (Shape d n):=by
 intro d
 induction d with
 | zero=>intro D n _ h;refine Ev.up ?_;simp only[G.jA];exact Ev.ct (by simp) (Ev.ret _)
 | succ d ih=>
   intro D n hd h;cases D with
   |zero=>exact h.elim
   |succ D=>
   have hK:=T0.jA.K1 (d:=d) hB h (by omega) (λk hk=>ih D k (by omega) (h.2.2.2.2.2 k hk));refine Ev.up ?_;simp only[G.jA];rw[ag1,ag1];have t1:=XW (c:=decide (n.Kind<3)) (a:= !(n.Kids.length==0)) hK;have t2:=XW (c:=n.Kind != 4) (a:= !(n.Names.length==0)) t1;have t3:=aes (c:=n.Kind != 2) (a:=n.Text==[]) t2;have t4:=XW (c:=n.Kind != 1) (a:=n.Num != 0) t3;refine Ev.cf (by simp;omega) ?_;refine Ev.ite (λe=>Ev.ret' ?_) (λe=>t4.eq ?_)
   ·simp only[decide_eq_true_eq]at e;rw[Shape,LH (by omega)];rfl
   ·simp only[decide_eq_false_iff_not]at e;exact adk (by omega)
theorem T0.nO.L1 {B D d:Nat}{n:aj}(hB:B<=lim)(h:wE B (D+1) n)(hs:∀k,k∈n.Kids->Ev (λf=>G.nO f k) ((Cnt d k:Nat):Int)) :
 ∀(k i c:Nat),i+k=n.Kids.length->c+((n.Kids.drop i).map (Cnt d)).sum<big->Ev (λf=>G.nO.L1 f n (c:Int) i) ((c+((n.Kids.drop i).map (Cnt d)).sum:Nat):Int):=by
 have hl:=h.kids;unfold lim at hB;unfold big;intro k
 induction k with
 | zero=>intro i c hi hc;refine Ev.up ?_;simp only[G.nO.L1];refine Ev.cf (by simp;omega) (Ev.ret' ?_);rw[ak (by omega)];rfl
 | succ k ih=>intro i c hi;rw[dP (default:aj) (by omega:i<n.Kids.length),bf,rU];intro hc;refine Ev.up ?_;simp only[G.nO.L1];refine Ev.ct (by simp;omega) (Ev.chk (by omega) ?_);rw[ah];refine Ev.bind (hs _ (by rw[gu _ (by omega:i<n.Kids.length)];exact dJ _)) ?_;rw[dF (by omega),wrapN (m:=c+Cnt d (n.Kids.getD i default)) (by omega) (by omega)];exact(ih (i+1) (c+Cnt d (n.Kids.getD i default)) (by omega) (by omega)).eq (by congr 1;omega)
theorem T0.nO {B:Nat}(hB:B<=lim):∀(d D:Nat) (n:aj),d<=5->wE B D n->Shape d n=true->Ev (λf=>G.nO f n) ((Cnt d n:Nat):Int):=by
 intro d
 induction d with
 |zero=>intro D n _ _ h;cases h
 | succ d ih=>
   intro D n hd h hS;cases D with
   |zero=>exact h.elim
   |succ D=>
   have hS':=uF hS;refine Ev.up ?_;simp only[G.nO];have:=cnt_le (d:=d+1) (n:=n) hS;have hp:=U1 hd;refine(T0.nO.L1 hB h (λk hk=>ih D k (by omega) (h.2.2.2.2.2 k hk) (hS' k hk)) n.Kids.length 0 1 (by omega) ?_).eq rfl;rw[bW];show Cnt (d+1) n<big;unfold big;omega
def Val (n:aj):Bool:=Shape 5 n&&decide (Cnt 5 n<=40)
theorem T0.fB {B D:Nat}{n:aj}(hB:B<=lim)(h:wE B D n):Ev (λf=>G.fB f n) (Val n):=by refine Ev.up ?_;simp only[G.fB];refine Ev.bind (T0.jA hB 5 D n (by omega) h) (Ev.ite (λe=>?_) (λe=>Ev.ret' (by rw[Val,e];rfl)));refine Ev.bind (T0.nO hB 5 D n (by omega) h e) (Ev.ret' ?_);rw[Val,e,bU];apply decide_eq_decide.2;omega
theorem T.fB {B D:Nat}{n:aj}(hB:B<=lim)(h:Fine B D n):Ev (λf=>G.fB f n) (Val n):=T0.fB hB h.fin0
theorem T0.gy.L1 {B D d l:Nat}{n:aj}(hB:B<=lim)(h:wE B (D+1) n)(hl:l<1000)
 (hs:∀k,k∈n.Kids->∃c dp,Ev (λf=>G.gy f k ((l+1:Nat):Int)) (c,dp,Shape d k)/\(Shape d k=true->c=((Cnt d k:Nat):Int))) :
 ∀ (k i c:Nat) (dp:Int),i+k=n.Kids.length->(n.Kids.drop i).all (Shape d)=true->c+((n.Kids.drop i).map (Cnt d)).sum<big ->
   ∃dp',Ev (λf=>G.gy.L1 f n (l:Int) (c:Int) dp i) (((c+((n.Kids.drop i).map (Cnt d)).sum:Nat):Int),dp',true):=by
 have hk:=h.kids;unfold lim at hB;unfold big;intro k
 induction k with
 | zero=>intro i c dp hi _ hc;refine⟨dp,Ev.up ?_⟩;simp only[G.gy.L1];refine Ev.cf (by simp;omega) (Ev.ret' ?_);rw[ak (by omega)];rfl
 | succ k ih=>intro i c dp hi;rw[dP (default:aj) (by omega:i<n.Kids.length),bf,rU,dI,ai];intro⟨hS,hA⟩ hc;obtain⟨c1,d1,h1,h2⟩:=hs (n.Kids.getD i default) (by rw[gu _ (by omega:i<n.Kids.length)];exact dJ _);have e:=h2 hS;subst e;obtain⟨dp',g1⟩:=ih (i+1) (c+Cnt d (n.Kids.getD i default)) (if af .i64 (d1+1)>dp then af .i64 (d1+1)else dp) (by omega) hA (by omega);refine⟨dp',Ev.up ?_⟩;simp only[G.gy.L1];refine Ev.ct (by simp;omega) (Ev.chk (by omega) ?_);rw[ah,dF (by omega)];refine Ev.bind h1 ?_;refine Ev.ct hS ?_;rw[dF (by omega),wrapN (m:=c+Cnt d (n.Kids.getD i default)) (by omega) (by omega)];exact g1.eq (by rw[Nat.add_assoc])
theorem T0.gy.L1f {B D d l:Nat}{n:aj}(hB:B<=lim)(h:wE B (D+1) n)(hl:l<1000)
 (hs:∀k,k∈n.Kids->∃c dp,Ev (λf=>G.gy f k ((l+1:Nat):Int)) (c,dp,Shape d k)) :
 ∀(k i:Nat) (c dp:Int),i+k=n.Kids.length->(n.Kids.drop i).all (Shape d)=false->Ev (λf=>G.gy.L1 f n (l:Int) c dp i) (0,0,false):=by
 have hk:=h.kids;unfold lim at hB;intro k
 induction k with
 | zero=>intro i c dp hi hA;rw[ak (by omega)]at hA;cases hA
 | succ k ih=>intro i c dp hi;rw[dP (default:aj) (by omega:i<n.Kids.length),dI];intro hA;obtain⟨c1,d1,h1⟩:=hs (n.Kids.getD i default) (by rw[gu _ (by omega:i<n.Kids.length)];exact dJ _);refine Ev.up ?_;simp only[G.gy.L1];refine Ev.ct (by simp;omega) (Ev.chk (by omega) ?_);rw[ah,dF (by omega)];refine Ev.bind h1 ?_;refine Ev.ite (λhS=>?_) (λhS=>Ev.ret _);have hS:Shape d (n.Kids.getD i default)=true:=hS;rw[hS,bU]at hA;rw[dF (by omega)];exact ih (i+1) _ _ (by omega) hA
theorem T0.gy {B:Nat}(hB:B<=lim):∀(d l D:Nat) (n:aj),d+l=6->1<=l->wE B D n ->
 ∃c dp,Ev (λf=>G.gy f n (l:Int)) (c,dp,Shape d n)/\(Shape d n=true->c=((Cnt d n:Nat):Int)):=by
 intro d
 induction d with
 | zero=>intro l D n hl h1 h;refine⟨0,0,Ev.up ?_,λe=>by cases e⟩;simp only[G.gy];exact Ev.ct (by simp;omega) (Ev.ret _)
 | succ d ih=>
   intro l D n hl h1 h;cases D with
   |zero=>exact h.elim
   |succ D=>
   have hs:=λk (hk:k∈n.Kids)=>ih (l+1) D k (by omega) (by omega) (h.2.2.2.2.2 k hk);have hp:=T0.gZ hB h;cases hS:Shape (d+1) n with
   | true=>have hk:=uF hS;have hc:=cnt_le hS;have hpw:=U1 (d:=d+1) (by omega);obtain⟨dp',g⟩:=T0.gy.L1 hB h (by omega) hs n.Kids.length 0 1 1 (by omega) (by rw[bW];exact aZ.2 hk) (by rw[bW];unfold big;show Cnt (d+1) n<_;omega);rw[bW]at g;refine⟨((Cnt (d+1) n:Nat):Int),dp',Ev.up ?_,λ_=>rfl⟩;simp only[G.gy];exact Ev.cf (by simp;omega) (Ev.bind hp (Ev.ct (kT hS) g))
   | false=>
     refine⟨0,0,Ev.up ?_,λe=>by cases e⟩;simp only[G.gy];refine Ev.cf (by simp;omega) (Ev.bind hp (Ev.ite (λe=>?_) (λe=>Ev.ret _)));refine T0.gy.L1f (d:=d) hB h (by omega) (λk hk=>?_) n.Kids.length 0 1 1 (by omega) ?_
     ·obtain⟨c,dp,g,_⟩:=hs k hk;exact⟨c,dp,g⟩
     ·rw[bW];unfold Shape at hS;rw[e,bU]at hS;exact hS
theorem T0.aX {B D:Nat}{n:aj}(hB:B<=lim)(h:wE B D n):Ev (λf=>G.aX f n) (Val n):=by
 obtain⟨c,dp,g,hc⟩:=T0.gy hB 5 1 D n rfl (by omega) h;refine Ev.up ?_;simp only[G.aX];refine Ev.bind g (Ev.ite (λe=>Ev.ret' ?_) (λe=>Ev.ret' ?_))
 ·have e:Shape 5 n=true:=e;show decide (c<=40)=_;rw[hc e,Val,e,bU];apply decide_eq_decide.2;omega
 ·have e:Shape 5 n=false:=e;rw[Val,e];rfl
theorem T.aX {B D:Nat}{n:aj}(hB:B<=lim)(h:Fine B D n):Ev (λf=>G.aX f n) (Val n):=T0.aX hB h.fin0
theorem T0.aY.L1 {B D:Nat}{n:aj}(hB:B<=lim)(h:wE B (D+1) n)(hs:∀k,k∈n.Kids->Ev (λf=>G.aY f k) k) :
 ∀(k i:Nat),i+k=n.Kids.length->Ev (λf=>G.aY.L1 f n i (n.Kids.take i)) n:=by
 have hl:=h.kids;have hn:=h.names;unfold lim at hB;intro k
 induction k with
 | zero=>intro i hi;refine Ev.up ?_;simp only[G.aY.L1];refine Ev.cf (by simp;omega) (Ev.chk (by omega) (Ev.ret' ?_));rw[aC (by omega)];cases n;rfl
 | succ k ih=>intro i hi;refine Ev.up ?_;simp only[G.aY.L1];refine Ev.ct (by simp;omega) (Ev.chk (by omega) ?_);rw[ah];refine Ev.bind (hs _ (by rw[gu _ (by omega:i<n.Kids.length)];exact dJ _)) ?_;refine Ev.chk (by rw[dm];omega) ?_;have e:n.Kids.take i++[n.Kids.getD i default]=n.Kids.take (i+1):=(by rw[gu _ (by omega:i<n.Kids.length),jW (by omega)]);rw[dF (by omega),e];exact ih (i+1) (by omega)
theorem T0.aY {B:Nat}(hB:B<=lim):∀{D:Nat} {n:aj},wE B D n->Ev (λf=>G.aY f n) n:=by
 intro D
 induction D with
 |zero=>intro n h;exact h.elim
 | succ D ih=>intro n h;refine Ev.up ?_;simp only[G.aY];exact T0.aY.L1 hB h (λk hk=>ih (h.2.2.2.2.2 k hk)) n.Kids.length 0 (by omega)
theorem T.aY {B:Nat}(hB:B<=lim){D:Nat}{n:aj}(h:Fine B D n):Ev (λf=>G.aY f n) n:=T0.aY hB h.fin0
theorem T0.aP.L2 {B D:Nat}{n:aj}(zs:List aK)(hB:B<=lim)(h:wE B (D+1) n)(hs:∀k,k∈n.Kids->Ev (λf=>G.aP f k) k) :
 ∀(k i:Nat) (z:List aj),i+k=n.Kids.length->z.length=n.Kids.length->z.take i=n.Kids.take i->Ev (λf=>G.aP.L2 f n zs i z) (aj.mk n.Kind n.Num n.Text zs n.Kids):=by
 have hl:=h.kids;unfold lim at hB;intro k
 induction k with
 | zero=>intro i z hi hz ht;refine Ev.up ?_;simp only[G.aP.L2];refine Ev.cf (by simp;omega) (Ev.ret' ?_);rw[aC (by omega),aC (by omega)]at ht;rw[ht]
 | succ k ih=>intro i z hi hz ht;refine Ev.up ?_;simp only[G.aP.L2];refine Ev.ct (by simp;omega) (Ev.chk (by omega) ?_);rw[ah];refine Ev.bind (hs _ (by rw[gu _ (by omega:i<n.Kids.length)];exact dJ _)) ?_;refine Ev.chk (by omega) ?_;rw[dF (by omega)];refine ih (i+1) _ (by omega) (by rw[nC];exact hz) ?_;rw[gu _ (by omega:i<n.Kids.length),jW (by rw[nC];omega),jW (by omega:i<n.Kids.length),List.getElem_set_self,List.take_set_of_le (ax i),ht]
theorem T0.aP {B:Nat}(hB:B<=lim):∀{D:Nat} {n:aj},wE B D n->Ev (λf=>G.aP f n) n:=by
 intro D
 induction D with
 |zero=>intro n h;exact h.elim
 | succ D ih=>
   intro n h;have hl:=h.kids;have hn:=h.names;have hB':=hB;unfold lim at hB';have hK:Ev (λf=>G.aP.K1 f n n.Names) n:=by
    refine Ev.up ?_;simp only[G.aP.K1];refine Ev.ite (λe=>?_) (λe=>Ev.ret' ?_)
    ·refine Ev.chk (by omega) ?_;refine(T0.aP.L2 n.Names hB h (λk hk=>ih (h.2.2.2.2.2 k hk)) n.Kids.length 0 (dh n.Kids.length (aj.mk 0 0 [] [] [])) (by omega) (by simp) rfl).eq ?_;cases n;rfl
    ·have:n.Kids=[]:=by
      apply dD;simp only[decide_eq_false_iff_not]at e;omega
     cases n;simp only at this;subst this;rfl
   refine Ev.up ?_;simp only[G.aP];refine Ev.ite (λe=>?_) (λe=>?_)
   ·exact Ev.chk (by omega) hK
   ·have:n.Names=[]:=by
     apply dD;simp only[decide_eq_false_iff_not]at e;omega
    rw[this]at hK;exact hK
theorem T.aP {B:Nat}(hB:B<=lim){D:Nat}{n:aj}(h:Fine B D n):Ev (λf=>G.aP f n) n:=T0.aP hB h.fin0
def yE (i:Nat):aK:=if i<10 then [eU (48+i)]else yE (i/10)++[eU (48+i%10)]
 termination_by i
theorem yD {i:Nat}(h:i<10):yE i=[eU (48+i)]:=by rw[yE,if_pos h]
theorem Du {i:Nat}(h:¬i<10):yE i=yE (i/10)++[eU (48+i%10)]:=by rw[yE,if_neg h]
theorem abS : ∀(k i:Nat),i<k->(yE i).length<=i+1:=by
 intro k
 induction k with
 |zero=>intro i h;omega
 | succ k ih=>
   intro i h;by_cases hi:i<10
   ·rw[yD hi];simp
   ·rw[Du hi,au];have:=ih (i/10) (by omega);simp only[List.length_singleton];omega
theorem wrap_u8 {m:Nat}(h:m<256):af .u8 (m:Int)=m:=by simp only[af,fP,xZ];simp;omega
theorem T.kz : ∀(k i:Nat),i<k->i<lim->Ev (λf=>G.kz f (i:Int)) (yE i):=by
 intro k
 induction k with
 |zero=>intro i h;omega
 | succ k ih=>
   intro i h hl;unfold lim at hl;have hm:4294967296<maxLen:=(by decide);refine Ev.up ?_;simp only[G.kz];refine Ev.cf (by simp) ?_;refine Ev.ite (λe=>?_) (λe=>?_)
   ·simp only[decide_eq_true_eq]at e;refine Ev.chk (by omega) (Ev.ret' ?_);rw[yD (by omega),wrapN (m:=48+i) (by omega) (by omega),wrap_u8 (by omega),ah]
   ·simp only[decide_eq_false_iff_not]at e;have e1:lJ (i:Int) 10=((i/10:Nat):Int):=(by rw[Int.tdiv_eq_ediv_of_nonneg (by omega)];omega);have e2:Int.tmod (i:Int) 10=((i%10:Nat):Int):=(by rw[Int.tmod_eq_emod_of_nonneg (by omega)];omega);rw[e1,e2,wrapN (m:=i/10) rfl (by omega),wrapN (m:=48+i%10) (by omega) (by omega),wrap_u8 (by omega),ah];refine Ev.bind (ih (i/10) (by omega) (by unfold lim;omega)) ?_;have:=abS (i/10+1) (i/10) (by omega);refine Ev.chk (by omega) (Ev.chk (by omega) (Ev.ret' ?_));exact(Du (by omega)).symm
theorem T.decimal {i:Nat}(h:i<lim):Ev (λf=>G.kz f (i:Int)) (yE i):=T.kz (i+1) i (by omega) h
theorem XY : ∀(k i:Nat),i<k->Lib.decDigits i=yE i:=by
 intro k
 induction k with
 |zero=>intro i h;omega
 | succ k ih=>
   intro i h;by_cases h10:i<10
   ·rw[Lib.decDigits_one h10,yD h10]
   ·rw[Du h10,Lib.decDigits,dif_neg h10,ih (i/10) (by omega)]
theorem acA (i:Nat):vk (i:Int)=yE i:=by unfold vk;rw[if_neg (by omega),ah,XY (i+1) i (by omega)]
theorem T.Itoa {n:Int}(h : -900000000000000<=n/\n<=900000000000000):Ev (λf=>G.strconv_Itoa f n) (vk n):=by refine Ev.up ?_;simp only[G.strconv_Itoa];exact Ev.chk ⟨by omega,iP (Lib.itoa_length_le n (by omega) (by omega)) (by decide)⟩ (Ev.ret _)
theorem T.strconv_Itoa {i:Nat}(h:i<10):Ev (λf=>G.strconv_Itoa f (i:Int)) (yE i):=by
 have:=T.Itoa (n:=(i:Int)) (by omega)
 rwa[acA]at this
def hit (n:aj)(s:aK)(j:Nat):Bool:=(n.Kind==4&&n.Names.getD j default==s)||(n.Kind==3&&yE j==s)
def EL (n:aj)(s:aK):Option Nat:=(aQ 0 n.Kids.length).find? (hit n s)
def Ik : Option Nat->Int
 |some j=>j
 |none=> -1
theorem zF {n:aj}{s:aK}{j:Nat}(h:EL n s=some j):j<n.Kids.length:=by have:=List.mem_of_find?_eq_some h;simp at this;exact this
theorem Ko {n:aj}{s:aK}{j:Nat}(h:EL n s=some j):hit n s j=true:=List.find?_some h
theorem T.jM.L1 {B D:Nat}{n:aj}(s:aK)(hB:B<=lim)(h:Fine B D n) :
 ∀(k i:Nat),i+k=n.Kids.length->Ev (λf=>G.jM.L1 f n s i) (Ik ((aQ i k).find? (hit n s))):=by
 have hl:=h.kids;have hm:=h.map;intro k
 induction k with
 | zero=>intro i hi;refine Ev.up ?_;simp only[G.jM.L1];exact Ev.cf (by simp;omega) (Ev.ret _)
 | succ k ih=>
   intro i hi;have hih:=ih (i+1) (by omega);have hd:=T.decimal (i:=i) (by omega);unfold lim at hB;rw[kH,yR];have ahA:n.Kind≠4->Ev (λf=>cond (n.Kind==3) (iM (G.kz f (i:Int)) λv5=>cond (v5==s) (some (i:Int)) (G.jM.L1 f n s (af .i64 ((i:Int)+1)))) (G.jM.L1 f n s (af .i64 ((i:Int)+1))))
    (Ik (match hit n s i with|true=>some i|false=>(aQ (i+1) k).find? (hit n s))):=by
    intro h4;have e4:(n.Kind==4)=false:=(by simpa using h4);rw[dF (by omega)];refine Ev.ite (λe=>?_) (λe=>?_)
    ·refine Ev.bind hd (Ev.ite (λe2=>Ev.ret' ?_) (λe2=>?_))
     ·rw[show hit n s i=true by unfold hit;rw[e,e2,e4];rfl];rfl
     ·exact hih.eq (by rw[show hit n s i=false by unfold hit;rw[e,e2,e4];rfl])
    ·exact hih.eq (by rw[show hit n s i=false by unfold hit;rw[e,e4];rfl])
   refine Ev.up ?_;simp only[G.jM.L1];refine Ev.ct (by simp;omega) ?_;refine Ev.ite (λe=>?_) (λe=>ahA (by simpa using e));have h4:n.Kind=4:=(by simpa using e);have:=hm h4;refine Ev.chk (by omega) ?_;rw[ah];refine Ev.ite (λe2=>Ev.ret' ?_) (λe2=>?_)
   ·rw[show hit n s i=true by unfold hit;rw[e,e2];rfl];rfl
   ·refine Ev.cf (by rw[h4];rfl) ?_;rw[dF (by omega)];exact hih.eq (by rw[show hit n s i=false by unfold hit;rw[e2,h4];rfl])
theorem T.jM {B D:Nat}{n:aj}(s:aK)(hB:B<=lim)(h:Fine B D n):Ev (λf=>G.jM f n s) (Ik (EL n s)):=by refine Ev.up ?_;simp only[G.jM];exact T.jM.L1 s hB h n.Kids.length 0 (by omega)
theorem T.cmp_Less_string (x y:aK):Ev (λf=>G.cmp_Less_string f x y) (bl x y):=by
 refine Ev.up ?_;simp only[G.cmp_Less_string];have:Ev (λf=>G.cmp_isNaN_string f x) false:=by refine Ev.up ?_;simp only[G.cmp_isNaN_string];exact Ev.ret' (by simp)
 exact Ev.bind this (Ev.ret _)
structure LB (l:List aK)(t:aK)(i:Nat):Prop where
 le:i<=l.length
 lo:∀j,j<i->bl (l.getD j default) t=true
 hi:∀j,i<=j->j<l.length->bl (l.getD j default) t=false
theorem half (i j:Nat)(h:i+j<9223372036854775808):af .i64 ((Int.fdiv (af .u64 (af .i64 ((i:Int)+(j:Int)))) (2^(min 1 (fP .u64)))))=(((i+j)/2:Nat):Int):=by
 rw[wrapN (x:=(i:Int)+(j:Int)) (m:=i+j) (by omega) h];have e:af .u64 ((i+j:Nat):Int)=((i+j:Nat):Int):=by simp only[af,fP,xZ];simp;omega
 rw[e];have e2:Int.fdiv ((i+j:Nat):Int) (2^(min 1 (fP .u64)))=(((i+j)/2:Nat):Int):=by have:(2:Int)^(min 1 (fP .u64))=2:=rfl;rw[this,Int.fdiv_eq_ediv_of_nonneg _ (by omega)];omega
 rw[e2];exact wrapN rfl (by omega)
theorem T.BinarySearch.L1 {l:List aK}(t:aK)(hl:l.length<big)(hA:∀i j,i<j->j<l.length->bl (l.getD i default) (l.getD j default)=true) :
 ∀ (k i j:Nat),j-i<=k->i<=j->j<=l.length->(∀q,q<i->bl (l.getD q default) t=true)->(∀q,j<=q->q<l.length->bl (l.getD q default) t=false) ->
   ∃p:Nat,Ev (λf=>G.slices_BinarySearch_string.L1 f l t i j) ((p:Int),decide (p<l.length)&&l.getD p default==t)/\LB l t p:=by
 unfold big at hl;intro k
 induction k with
 | zero=>
   intro i j hk hij hj hlo hhi;have:i=j:=(by omega);subst this;refine⟨i,Ev.up ?_,hj,hlo,hhi⟩;simp only[G.slices_BinarySearch_string.L1];refine Ev.cf (by simp) (Ev.ite (λe=>?_) (λe=>Ev.ret' ?_))
   ·have e':i<l.length:=(by simpa using e);rw[ah];have d1:decide (i<l.length)=true:=(by simpa using e');rw[d1,bU];refine Ev.chk (by omega) (Ev.ite (λe2=>Ev.ret' (by rw[e2])) (λe2=>Ev.chk (by omega) ?_));have:Ev (λf=>G.slices_isNaN_string f (l.getD i default)) false:=by
     refine Ev.up ?_;simp only[G.slices_isNaN_string];exact Ev.ret' (by simp)
    exact Ev.bind this (Ev.ret' (by rw[e2]))
   ·have d1:decide (i<l.length)=false:=(by simpa using e);rw[d1];rfl
 | succ k ih=>
   intro i j hk hij hj hlo hhi;by_cases he:i=j
   ·exact ih i j (by omega) hij hj hlo hhi
   have h1:(i+j)/2<j:=(by omega);have h2:i<=(i+j)/2:=(by omega);cases hc:bl (l.getD ((i+j)/2) default) t with
   | true=>
     obtain⟨p,g,hp⟩:=ih ((i+j)/2+1) j (by omega) (by omega) hj (λq hq=>by
      by_cases hq2:q=(i+j)/2
      ·rw[hq2];exact hc
      ·exact Cf (hA q ((i+j)/2) (by omega) (by omega)) hc) hhi
     refine⟨p,Ev.up ?_,hp⟩;simp only[G.slices_BinarySearch_string.L1];refine Ev.ct (by simp;omega) ?_;rw[half i j (by omega),ah];refine Ev.chk (by omega) (Ev.bind (T.cmp_Less_string _ _) (Ev.ct hc ?_));rw[dF (by omega)];exact g
   | false=>
     obtain⟨p,g,hp⟩:=ih i ((i+j)/2) (by omega) h2 (by omega) hlo (λq hq hq2=>by
      by_cases hq3:q=(i+j)/2
      ·rw[hq3];exact hc
      ·cases hb:bl (l.getD q default) t with
       |false=>rfl
       |true=>rw[Cf (hA ((i+j)/2) q (by omega) hq2) hb]at hc;cases hc)
     refine⟨p,Ev.up ?_,hp⟩;simp only[G.slices_BinarySearch_string.L1];refine Ev.ct (by simp;omega) ?_;rw[half i j (by omega),ah];refine Ev.chk (by omega) (Ev.bind (T.cmp_Less_string _ _) (Ev.cf hc ?_));exact g
theorem Gs {x:aK}{l:List aK}(h:Asc (x::l)=true):Asc l=true:=by
 cases l with
 |nil=>rfl
 |cons y r=>rw[Asc,ai]at h;exact h.2
theorem Ht : ∀{l:List aK} {x:aK},Asc (x::l)=true->∀y,y∈l->bl x y=true
 |[],_,_,y,hy=>by cases hy
 | z::r,x,h,y,hy=>by
   have h1:bl x z=true:=(by rw[Asc,ai]at h;exact h.1);rcases cu.1 hy with rfl|hy
   ·exact h1
   ·exact Cf h1 (Ht (Gs h) y hy)
theorem FK : ∀{l:List aK},Asc l=true->∀i j,i<j->j<l.length->bl (l.getD i default) (l.getD j default)=true
 |[],_,i,j,_,hj=>by simp at hj
 | x::l,h,i,j,hij,hj=>by
   cases j with
   |zero=>omega
   | succ j=>
     rw[oL];have hj':j<l.length:=(by simpa using hj);cases i with
     |zero=>rw[sS,gu _ hj'];exact Ht h _ (dJ _)
     |succ i=>rw[oL];exact FK (Gs h) i j (by omega) hj'
theorem T.slices_BinarySearch_string {l:List aK}(t:aK)(hl:l.length<big)(hA:Asc l=true) :
 ∃p:Nat,Ev (λf=>G.slices_BinarySearch_string f l t) ((p:Int),decide (p<l.length)&&l.getD p default==t)/\LB l t p:=by
 obtain⟨p,g,hp⟩:=T.BinarySearch.L1 t hl (FK hA) l.length 0 l.length (by omega) (by omega) (by omega) (λq hq=>by omega) (λq h1 h2=>by omega);refine⟨p,Ev.up ?_,hp⟩;simp only[G.slices_BinarySearch_string];exact g
theorem aj.eta (n:aj):aj.mk n.Kind n.Num n.Text n.Names n.Kids=n:=by cases n;rfl
theorem J4 {p:Nat->Bool} : ∀{k i:Nat},(aQ i k).find? p=none<->∀q,i<=q->q<i+k->p q=false:=by
 intro k i;rw[List.find?_eq_none];constructor
 ·intro h q h1 h2;have:=h q (by simp;omega);simpa using this
 ·intro h q hq;simp at hq;rw[h q hq.1 hq.2];simp
theorem Gp {p:Nat->Bool} : ∀{k i j:Nat},(aQ i k).find? p=some j<->(i<=j/\j<i+k/\p j=true/\∀q,i<=q->q<j->p q=false):=by
 intro k
 induction k with
 |zero=>intro i j;simp;omega
 | succ k ih=>
   intro i j;rw[kH,yR];cases h:p i with
   | true=>
     simp only[aH];constructor
     ·rintro rfl;exact⟨by omega,by omega,h,λq h1 h2=>by omega⟩
     ·rintro⟨h1,h2,h3,h4⟩;by_cases e:i=j
      ·exact e
      ·have:=h4 i (by omega) (by omega);rw[h]at this;cases this
   | false=>
     simp only;rw[ih];constructor
     ·rintro⟨h1,h2,h3,h4⟩;refine⟨by omega,by omega,h3,λq g1 g2=>?_⟩;by_cases e:q=i
      ·rw[e];exact h
      ·exact h4 q (by omega) g2
     ·rintro⟨h1,h2,h3,h4⟩;have:j≠i:=λe=>(by rw[e,h]at h3;cases h3);exact⟨by omega,by omega,h3,λq g1 g2=>h4 q (by omega) g2⟩
theorem JI {n:aj}{s:aK}{j:Nat} : EL n s=some j<->(j<n.Kids.length/\hit n s j=true/\∀q,q<j->hit n s q=false):=by
 unfold EL;rw[Gp];constructor
 ·rintro⟨h1,h2,h3,h4⟩;exact⟨by omega,h3,λq hq=>h4 q (by omega) hq⟩
 ·rintro⟨h1,h2,h3⟩;exact⟨by omega,by omega,h2,λq _ hq=>h3 q hq⟩
theorem NF {n:aj}{s:aK} : EL n s=none<->∀q,q<n.Kids.length->hit n s q=false:=by
 unfold EL;rw[J4];constructor
 ·intro h q hq;exact h q (by omega) (by omega)
 ·intro h q _ hq;exact h q (by omega)
theorem yw {n:aj}(h:Parts n=true)(hk:n.Kind=4):n.Num=0/\n.Text=[]/\NM n.Names=true/\n.Names.length<=6/\n.Kids.length=n.Names.length:=by unfold Parts at h;simp[hk]at h;obtain⟨⟨h1,h2⟩,⟨h3,h4⟩,h5⟩:=h;exact⟨h1,h2,h3,h4,h5⟩
theorem D5 {n:aj}(h:Parts n=true)(hk:n.Kind=3):n.Num=0/\n.Text=[]/\n.Names=[]/\n.Kids.length<=6:=by unfold Parts at h;simp[hk]at h;obtain⟨⟨⟨h1,h2⟩,h3⟩,h4⟩:=h;exact⟨h1,h2,h3,h4⟩
theorem Ad {n:aj}(h:Parts n=true)(h4:n.Kind≠4)(h3:n.Kind≠3):n.Names=[]/\n.Kids=[]:=by
 unfold Parts at h;have e4:(n.Kind==4)=false:=by simpa using h4
 simp only[ai,e4,CG]at h;obtain⟨⟨_,h1⟩,h2⟩:=h;refine⟨dD (by simpa using h1),dD ?_⟩;by_cases k0:n.Kind=0
 ·rw[if_pos k0]at h2;simpa using h2
 rw[if_neg k0]at h2;by_cases k1:n.Kind=1
 ·rw[if_pos k1]at h2;simp at h2;rw[h2.2];rfl
 rw[if_neg k1]at h2;by_cases k2:n.Kind=2
 ·rw[if_pos k2]at h2;simp at h2;rw[h2.2];rfl
 rw[if_neg k2,if_neg h3,if_neg h4]at h2;cases h2
theorem Ls {l:List aK}(h:NM l=true):Asc l=true:=by unfold NM at h;simp only[ai]at h;exact h.2
theorem UQ {l:List aK}(h:NM l=true):∀s,s∈l->PT s=true:=by unfold NM at h;simp only[ai]at h;exact aZ.1 h.1
theorem OM {n:aj}(h:Parts n=true):n.Kids.length<=6:=by
 by_cases k:n.Kids.length<=6
 ·exact k
 ·rw[LH (by omega)]at h;cases h
theorem Fb {n:aj}(hk:n.Kind=4)(s:aK)(j:Nat):hit n s j=(n.Names.getD j default==s):=by unfold hit;rw[hk];simp
theorem ack {n:aj}(hk:n.Kind=3)(s:aK)(j:Nat):hit n s j=(yE j==s):=by unfold hit;rw[hk];simp
theorem Ie {n:aj}(h4:n.Kind≠4)(h3:n.Kind≠3)(s:aK)(j:Nat):hit n s j=false:=by unfold hit;rw[show(n.Kind==4)=false by simpa using h4,show(n.Kind==3)=false by simpa using h3];rfl
theorem UZ {n:aj}{s:aK}{p:Nat}(hk:n.Kind=4)(hA:Asc n.Names=true)(hl:n.Kids.length=n.Names.length)(h:LB n.Names s p) :
 EL n s=if decide (p<n.Names.length)&&n.Names.getD p default==s then some p else none:=by
 cases hc:decide (p<n.Names.length)&&n.Names.getD p default==s with
 | true=>simp only[ai,decide_eq_true_eq]at hc;rw[if_pos rfl,JI];refine⟨by omega,by rw[Fb hk];exact hc.2,λq hq=>?_⟩;rw[Fb hk];have:=GM (h.lo q hq);simpa using this
 | false=>
   rw[if_neg (by simp),NF];intro q hq;rw[Fb hk];by_cases h1:q<p
   ·have:=GM (h.lo q h1);simpa using this
   ·cases he:n.Names.getD q default==s with
    |false=>rfl
    | true=>
      rw[beq_iff_eq]at he;by_cases h2:q=p
      ·subst h2;rw[he]at hc;have:decide (q<n.Names.length)=true:=(by simp;omega);rw[this]at hc;simp at hc
      ·have:=FK hA p q (by omega) (by omega);rw[he,h.hi p (by omega) (by omega)]at this;cases this
theorem T.gV.L1 {n:aj}(s:aK)(hk:n.Kind=3)(hl:n.Kids.length<=6) :
 ∀(k i:Nat),i+k=n.Kids.length->Ev (λf=>G.gV.L1 f n s i) (match(aQ i k).find? (hit n s)with|some j=>((j:Int),true)|none=>(0,false)):=by
 intro k
 induction k with
 | zero=>intro i hi;refine Ev.up ?_;simp only[G.gV.L1];exact Ev.cf (by simp;omega) (Ev.ret _)
 | succ k ih=>intro i hi;refine Ev.up ?_;simp only[G.gV.L1];refine Ev.ct (by simp;omega) (Ev.bind (T.strconv_Itoa (i:=i) (by omega)) ?_);rw[kH,yR,ack hk,dF (by omega)];refine Ev.ite (λe=>Ev.ret' (by rw[e])) (λe=>?_);exact(ih (i+1) (by omega)).eq (by rw[e])
theorem T.gV {n:aj}(s:aK)(h:Parts n=true) :
 ∃v b,Ev (λf=>G.gV f n s) (v,b)/\(∀j,EL n s=some j->v=(j:Int)/\b=true)/\(EL n s=none->b=false):=by
 by_cases h4:n.Kind=4
 ·obtain⟨_,_,hN,hl,hkl⟩:=yw h h4;obtain⟨p,g,hp⟩:=T.slices_BinarySearch_string s (by unfold big;omega) (Ls hN);have hpl:=UZ h4 (Ls hN) hkl hp;refine⟨p,decide (p<n.Names.length)&&n.Names.getD p default==s,Ev.up ?_,λj hj=>?_,λhn=>?_⟩
  ·simp only[G.gV];exact Ev.ct (by simpa using h4) (Ev.bind g (Ev.ret _))
  ·rw[hpl]at hj;split at hj
   ·rename_i hc;cases hj;exact⟨rfl,hc⟩
   ·cases hj
  ·rw[hpl]at hn;split at hn
   ·cases hn
   ·rename_i hc;simpa using hc
 ·have e4:(n.Kind==4)=false:=by simpa using h4
  by_cases h3:n.Kind=3
  ·obtain⟨_,_,_,hl⟩:=D5 h h3;have g:=T.gV.L1 s h3 hl n.Kids.length 0 (by omega);cases hp:EL n s with
   | some j=>refine⟨j,true,Ev.up ?_,λj' hj=>(by cases hj;exact⟨rfl,rfl⟩),λhn=>(by cases hn)⟩;simp only[G.gV];refine Ev.cf e4 (Ev.ct (by simpa using h3) ?_);exact g.eq (by unfold EL at hp;rw[hp])
   | none=>refine⟨0,false,Ev.up ?_,λj' hj=>(by cases hj),λ_=>rfl⟩;simp only[G.gV];refine Ev.cf e4 (Ev.ct (by simpa using h3) ?_);exact g.eq (by unfold EL at hp;rw[hp])
  ·have hp:EL n s=none:=NF.2 (λq _=>Ie h4 h3 s q);refine⟨0,false,Ev.up ?_,λj hj=>(by rw[hp]at hj;cases hj),λ_=>rfl⟩;simp only[G.gV];exact Ev.cf e4 (Ev.cf (by simpa using h3) (Ev.ret _))
def Jr : aj->List aK->Option aj
 |n,[]=>some n
 | n,s::p=>match EL n s with
   |some j=>Jr (n.Kids.getD j default) p
   |none=>none
def ve : aj:=aj.mk 0 0 [] [] []
def oQ : Option aj->aj×Bool
 |some n=>(n,true)
 |none=>(ve,false)
theorem T.tZ.L1 {B:Nat}(p:List aK)(hB:B<=lim)(hp:p.length<big) :
 ∀(k i D:Nat) (n:aj),i+k=p.length->Fine B D n->Ev (λf=>G.tZ.L1 f p i n.Kind n.Num n.Text n.Names n.Kids) (oQ (Jr n (p.drop i))):=by
 unfold big at hp;intro k
 induction k with
 | zero=>intro i D n hi h;refine Ev.up ?_;simp only[G.tZ.L1,aj.eta];refine Ev.cf (by simp;omega) ?_;rw[ak (by omega)];have hc:=T.aY hB h;exact Ev.bind hc (Ev.ret _)
 | succ k ih=>
   intro i D n hi h;refine Ev.up ?_;simp only[G.tZ.L1,aj.eta];refine Ev.ct (by simp;omega) (Ev.chk (by omega) ?_);rw[dP (default:aK) (by omega:i<p.length),ah];have hP:=T.jM (p.getD i default) hB h;refine Ev.bind hP ?_;rw[Jr];cases hj:EL n (p.getD i default)with
   |none=>exact Ev.ct rfl (Ev.ret _)
   | some j=>
     have hjl:=zF hj;cases D with
     |zero=>exact h.elim
     |succ D=>
     refine Ev.cf (decide_eq_false (by simp only[Ik];omega)) (Ev.chk (by simp only[Ik];omega) ?_);rw[dF (by omega)];exact ih (i+1) D _ (by omega) (h.kid hjl)
theorem T.tZ {B D:Nat}{n:aj}(p:List aK)(hB:B<=lim)(hp:p.length<big)(h:Fine B D n):Ev (λf=>G.tZ f n p) (oQ (Jr n p)):=by refine Ev.up ?_;simp only[G.tZ];exact T.tZ.L1 p hB hp p.length 0 D n (by omega) h
theorem T.kD.L1 (p:List aK)(hp:p.length<big) :
 ∀(k i d:Nat) (n:aj),i+k=p.length->Shape d n=true->Ev (λf=>G.kD.L1 f p i n.Kind n.Num n.Text n.Names n.Kids) (oQ (Jr n (p.drop i))):=by
 unfold big at hp;intro k
 induction k with
 | zero=>intro i d n hi h;refine Ev.up ?_;simp only[G.kD.L1,aj.eta];refine Ev.cf (by simp;omega) ?_;rw[ak (by omega)];exact Ev.ret _
 | succ k ih=>
   intro i d n hi h;cases d with
   |zero=>cases h
   |succ d=>
   refine Ev.up ?_;simp only[G.kD.L1,aj.eta];refine Ev.ct (by simp;omega) (Ev.chk (by omega) ?_);rw[dP (default:aK) (by omega:i<p.length),ah];obtain⟨v,b,g,h1,h2⟩:=T.gV (p.getD i default) (kT h);refine Ev.bind g ?_;rw[Jr];cases hj:EL n (p.getD i default)with
   |none=>exact Ev.cf (h2 hj) (Ev.ret _)
   | some j=>have hjl:=zF hj;obtain⟨rfl,rfl⟩:=h1 j hj;refine Ev.ct rfl (Ev.chk (by omega) ?_);rw[dF (by omega)];exact ih (i+1) d _ (by omega) (uF h _ (by rw[ah,gu _ hjl];exact dJ _))
theorem T.kD {d:Nat}{n:aj}(p:List aK)(hp:p.length<big)(h:Shape d n=true):Ev (λf=>G.kD f n p) (oQ (Jr n p)):=by refine Ev.up ?_;simp only[G.kD];exact T.kD.L1 p hp p.length 0 d n (by omega) h
def Gz (n:aj)(j:Nat)(c:aj):aj:=aj.mk n.Kind n.Num n.Text n.Names (n.Kids.set j c)
def Gf (f:aj->Option aj):aj->List aK->Option aj
 |n,[]=>f n
 | n,s::p=>match EL n s with
   |some j=>(Gf f (n.Kids.getD j default) p).map (Gz n j)
   |none=>none
def PK (n:aj)(p:List aK)(v:aj):Option aj:=Gf (λ_=>some v) n p
theorem Ud (f:aj->Option aj):∀(p:List aK) (n:aj),Gf f n p=(Jr n p).bind λm=>(f m).bind λm'=>PK n p m'
 | [],n=>by show f n=(f n).bind λm'=>some m';cases f n<;>rfl
 | s::p,n=>by
   rw[Gf,Jr];cases hj:EL n s with
   |none=>rfl
   | some j=>
     simp only;rw[Ud f p];cases ha:Jr (n.Kids.getD j default) p with
     |none=>rfl
     | some m=>
       simp only[gJ];cases hf:f m with
       |none=>rfl
       | some m'=>simp only[gJ];unfold PK;rw[Gf,hj]
theorem V5 {B D E:Nat}{n v:aj}{j:Nat}(h:Fine B (D+1) n)(hv:Fine B E v):Fine B (max D E+1) (Gz n j v):=by
 obtain⟨h1,h2,h3,h4,h5,h6⟩:=h;refine⟨h1,h2,h3,by simpa[Gz]using h4,by simpa[Gz]using h5,λk hk=>?_⟩;rcases o5 hk with hk|rfl
 ·exact(h6 k hk).mono (ax _) (Nat.le_max_left _ _)
 ·exact hv.mono (ax _) (Nat.le_max_right _ _)
theorem QL {B E:Nat}{f:aj->Option aj} : ∀(p:List aK) {D:Nat} {n m:aj},(∀D' k k',Fine B D' k->f k=some k'->Fine B (D'+E) k')->Fine B D n->Gf f n p=some m->Fine B (D+E) m
 |[],D,n,m,hf,h,hm=>hf D n m h hm
 | s::p,D,n,m,hf,h,hm=>by
   rw[Gf]at hm;cases hj:EL n s with
   |none=>rw[hj]at hm;cases hm
   | some j=>
     rw[hj]at hm;simp only at hm;cases D with
     |zero=>exact h.elim
     |succ D=>
     cases hc:Gf f (n.Kids.getD j default) p with
     |none=>rw[hc]at hm;cases hm
     | some c=>rw[hc]at hm;cases hm;have:=V5 (j:=j) h (QL p hf (h.kid (zF hj)) hc);exact this.mono (ax _) (by omega)
theorem Ov {B D E:Nat}{n v m:aj}{p:List aK}(h:Fine B D n)(hv:Fine B E v)(hm:PK n p v=some m):Fine B (D+E) m:=
 QL p (λD' k k' _ e=>by cases e;exact hv.mono (ax _) (by omega)) h hm
theorem MP {B:Nat} : ∀(p:List aK) {D:Nat} {n m:aj},Fine B D n->Jr n p=some m->Fine B D m
 |[],_,_,_,h,e=>by cases e;exact h
 | s::p,D,n,m,h,e=>by
   rw[Jr]at e;cases hj:EL n s with
   |none=>rw[hj]at e;cases e
   | some j=>
     rw[hj]at e;cases D with
     |zero=>exact h.elim
     |succ D=>exact(MP p (h.kid (zF hj)) e).mono (ax _) (by omega)
theorem T.oW {B D E:Nat}{n v:aj}{j:Nat}(hB:B<=lim)(h:Fine B D n)(hv:Fine B E v)(hj:j<n.Kids.length):Ev (λf=>G.oW f n j v) (Gz n j v):=by refine Ev.up ?_;simp only[G.oW];refine Ev.bind (T.aY hB h) (Ev.bind (T.aY hB hv) (Ev.chk (by omega) (Ev.ret' ?_)));rw[ah];rfl
theorem T.o9 {B E:Nat}{v:aj}(hB:B<=lim)(hv:Fine B E v):∀(p:List aK) {D:Nat} {n:aj},p.length<big->Fine B D n->Ev (λf=>G.o9 f n p v) (oQ (PK n p v))
 | [],D,n,_,h=>by refine Ev.up ?_;simp only[G.o9];exact Ev.ct rfl (Ev.bind (T.aY hB hv) (Ev.ret _))
 | s::p,D,n,hp,h=>by
   simp only[bH]at hp;have hp':=hp;unfold big at hp';refine Ev.up ?_;simp only[G.o9];refine Ev.cf (by simp;omega) (Ev.chk (by simp) ?_);rw[sS];refine Ev.bind (T.jM s hB h) ?_;unfold PK;rw[Gf];cases hj:EL n s with
   |none=>exact Ev.ct rfl (Ev.ret _)
   | some j=>
     have hjl:=zF hj;cases D with
     |zero=>exact h.elim
     |succ D=>
     refine Ev.cf (decide_eq_false (by simp only[Ik];omega)) (Ev.chk (by simp only[Ik];omega) (Ev.chk (by simp;omega) ?_));have hk:=h.kid hjl;have ih:=T.o9 hB hv p (by omega) hk;refine Ev.bind (show Ev (λf=>G.o9 f (n.Kids.getD (Ik (some j)).toNat default) ((s::p).drop 1) v) _ from ih) ?_;show Ev _ (oQ ((PK (n.Kids.getD j default) p v).map (Gz n j)));cases hc:PK (n.Kids.getD j default) p v with
     |none=>exact Ev.cf rfl (Ev.ret _)
     | some c=>refine Ev.ct rfl ?_;exact Ev.bind (T.oW hB h (Ov hk hv hc) hjl) (Ev.ret _)
theorem Rf {s:aK}(h:PT s=true):s.length<=12:=by unfold PT at h;simp at h;exact h.2
theorem yU : ∀{d:Nat} {n:aj},Shape d n=true->Fine 12 d n
 |0,_,h=>by cases h
 | d+1,n,h=>by
   have hp:=kT h;have hk:=uF h;have hl:=OM hp;refine⟨?_,?_,?_,by omega,?_,λk hk'=>yU (hk k hk')⟩
   ·by_cases h2:n.Kind=2
    ·unfold Parts at hp;simp[h2]at hp;exact Rf hp.2.1
    ·have e2:(n.Kind==2)=false:=(by simpa using h2);unfold Parts at hp;simp only[e2,CG,ai]at hp;have:=hp.1.1.2;rw[beq_iff_eq]at this;rw[this];simp
   ·by_cases h4:n.Kind=4
    ·have:=(yw hp h4).2.2.2.1;omega
    ·by_cases h3:n.Kind=3
     ·rw[(D5 hp h3).2.2.1];simp
     ·rw[(Ad hp h4 h3).1];simp
   ·intro s hs;by_cases h4:n.Kind=4
    ·exact Rf (UQ (yw hp h4).2.2.1 s hs)
    ·by_cases h3:n.Kind=3
     ·rw[(D5 hp h3).2.2.1]at hs;cases hs
     ·rw[(Ad hp h4 h3).1]at hs;cases hs
   ·intro h4;have:=(yw hp h4).2.2.2.2;omega
theorem BK {d:Nat}{n:aj}(h:Shape (d+1) n=true){j:Nat}(hj:j<n.Kids.length):Shape d (n.Kids.getD j default)=true:=by rw[gu _ hj];exact uF h _ (dJ _)
theorem BU : 12<=lim:=by decide
theorem T.change {F:Nat->aj->List aK->Option (aj×Bool)}{C:Nat->aj->Option (aj×Bool)}{g:aj->Option aj}
 (hF:∀n a p,F (n+1) a p=cond ((p.length:Int)==0) (iM (C n a) λv1=>some (v1.1,v1.2))
  (chk (0<=0/\0<(p.length:Int)) (iM (G.gV n a (p.getD 0 default)) λv2=>cond v2.2
   (chk (0<=v2.1/\v2.1<(a.Kids.length:Int)) (chk (0<=1/\1<=(p.length:Int)/\(p.length:Int)<=(p.length:Int))
    (iM (F n (a.Kids.getD v2.1.toNat default) (p.drop 1)) λv3=>cond v3.2 (iM (G.aP n a) λv4=>chk (0<=v2.1/\v2.1<(v4.Kids.length:Int)) (some ((aj.mk v4.Kind v4.Num v4.Text v4.Names (v4.Kids.set v2.1.toNat v3.1)),true)))
     (some ((aj.mk 0 0 [] [] []),false))))) (some ((aj.mk 0 0 [] [] []),false)))))
 (hC:∀d m,Shape d m=true->Ev (λn=>C n m) (oQ (g m))) :
 ∀(p:List aK) {d:Nat} {n:aj},Shape d n=true->Ev (λk=>F k n p) (oQ (Gf g n p))
 | [],d,n,h=>by refine Ev.up ?_;simp only[hF];refine Ev.ct rfl (Ev.bind (hC d n h) (Ev.ret' ?_));rw[Gf]
 | s::p,d,n,h=>by
   cases d with
   |zero=>cases h
   |succ d=>
   obtain⟨v,b,gk,h1,h2⟩:=T.gV s (kT h);refine Ev.up ?_;simp only[hF];refine Ev.cf (by simp;omega) (Ev.chk (by simp) ?_);rw[sS];refine Ev.bind gk ?_;rw[Gf];cases hj:EL n s with
   |none=>exact Ev.cf (h2 hj) (Ev.ret _)
   | some j=>
     have hjl:=zF hj;obtain⟨rfl,rfl⟩:=h1 j hj;refine Ev.ct rfl (Ev.chk (by omega) (Ev.chk (by simp;omega) ?_));rw[ah];have ih:=T.change hF hC p (BK h hjl);refine Ev.bind (show Ev (λk=>F k (n.Kids.getD j default) ((s::p).drop 1)) _ from ih) ?_;simp only;cases hc:Gf g (n.Kids.getD j default) p with
     |none=>exact Ev.cf rfl (Ev.ret _)
     | some c=>refine Ev.ct rfl (Ev.bind (T.aP BU (yU h)) (Ev.chk (by omega) (Ev.ret _)))
def insL {α:Type}(l:List α)(k:Nat)(v:α):List α:=(l.take k++[v])++l.drop k
def slt (n:aj)(s:aK):Nat:=((aQ 0 n.Kids.length).find? λi=>bl s (n.Names.getD i default)).getD n.Kids.length
def addN (n:aj)(s:aK)(v:aj):Option aj:=
 match EL n s with
 |some k=>if n.Kind=4 then some (Gz n k v)else some (aj.mk n.Kind 0 [] [] (insL n.Kids k v))
 | none=>if n.Kind=3 then(if s=[45]\/s=yE n.Kids.length then some (aj.mk n.Kind 0 [] [] (insL n.Kids n.Kids.length v))else none)
   else if n.Kind=4 then some (aj.mk n.Kind 0 [] (insL n.Names (slt n s) s) (insL n.Kids (slt n s) v))else none
theorem Yz (n:aj)(s:aK):slt n s<=n.Kids.length:=by
 unfold slt;cases h:(aQ 0 n.Kids.length).find? λi=>bl s (n.Names.getD i default)with
 |none=>simp
 |some j=>have:=(Gp.1 h).2.1;simp only[Option.getD_some];omega
def Pg (n:aj)(s:aK):Option (Nat×Bool):=
 match EL n s with
 |some k=>some (k,n.Kind==4)
 | none=>if n.Kind=3 then(if s=[45]\/s=yE n.Kids.length then some (n.Kids.length,false)else none)
   else if n.Kind=4 then some (slt n s,false)else none
def adn : Option (Nat×Bool)->Int×Bool
 |some (k,b)=>((k:Int),b)
 |none=>(-1,false)
theorem T.l9.L1 {n:aj}(s:aK)(hk:n.Kind≠4):Ev (λf=>G.l9.L1 f n s 0) (-1,false):=by refine Ev.up ?_;simp only[G.l9.L1];exact Ev.cf (by simpa using hk) (Ev.ret _)
theorem T.l9.L2 {B D:Nat}{n:aj}(s:aK)(hB:B<=lim)(h:Fine B D n)(hk:n.Kind=4) :
 ∀(k i:Nat),i+k=n.Kids.length->Ev (λf=>G.l9.L2 f n s i) (((((aQ i k).find? λi=>bl s (n.Names.getD i default)).getD n.Kids.length:Nat):Int),false):=by
 have hl:=h.kids;have hm:=h.map hk;unfold lim at hB;intro k
 induction k with
 | zero=>intro i hi;refine Ev.up ?_;simp only[G.l9.L2];refine Ev.ct (by simpa using hk) (Ev.ct (by simp;omega) (Ev.ct (by simp;omega) (Ev.ret' ?_)));show((i:Int),false)=((n.Kids.length:Int),false);rw[show i=n.Kids.length by omega]
 | succ k ih=>
   intro i hi;refine Ev.up ?_;simp only[G.l9.L2];refine Ev.ct (by simpa using hk) (Ev.ct (by simp;omega) (Ev.cf (by simp;omega) (Ev.chk (by omega) ?_)));rw[kH,yR,ah];refine Ev.ite (λe=>Ev.ret' ?_) (λe=>?_)
   ·rw[show bl s (n.Names.getD i default)=true from e];rfl
   ·rw[dF (by omega),show bl s (n.Names.getD i default)=false from e];exact ih (i+1) (by omega)
theorem T.l9 {B D:Nat}{n:aj}(s:aK)(hB:B<=lim)(h:Fine B D n)(hB':B<lim):Ev (λf=>G.l9 f n s) (adn (Pg n s)):=by
 have hl:=h.kids;refine Ev.up ?_;simp only[G.l9];refine Ev.bind (T.jM s hB h) ?_;unfold Pg;cases hj:EL n s with
 |some j=>exact Ev.ct (decide_eq_true (by simp only[Ik];omega)) (Ev.ret _)
 | none=>
   refine Ev.cf (by rfl) ?_;simp only;by_cases h3:n.Kind=3
   ·rw[if_pos h3];refine Ev.ct (by simpa using h3) ?_;refine Ev.ite (λe=>Ev.ret' ?_) (λe=>?_)
    ·rw[if_pos (.inl (by simpa using e))];rfl
    ·refine Ev.bind (T.decimal (i:=n.Kids.length) (by omega)) (Ev.ite (λe2=>Ev.ret' ?_) (λe2=>?_))
     ·rw[if_pos (.inr (by simpa using e2))];rfl
     ·rw[if_neg (by simp at e e2;simp[e,e2])];exact T.l9.L1 s (by omega)
   ·rw[if_neg h3];refine Ev.cf (by simpa using h3) ?_;by_cases h4:n.Kind=4
    ·rw[if_pos h4];exact T.l9.L2 s hB h h4 n.Kids.length 0 (by omega)
    ·rw[if_neg h4];refine Ev.up ?_;simp only[G.l9.L2];exact Ev.cf (by simpa using h4) (Ev.ret _)
theorem S9 (n:aj)(s:aK)(v:aj):addN n s v=(Pg n s).map λq=>if q.2 then Gz n q.1 v else if n.Kind=3 then aj.mk n.Kind 0 [] [] (insL n.Kids q.1 v)else aj.mk n.Kind 0 [] (insL n.Names q.1 s) (insL n.Kids q.1 v):=by
 unfold addN Pg;cases hj:EL n s with
 | some j=>
   simp only[lD];by_cases h4:n.Kind=4
   ·simp[h4]
   ·have h3:n.Kind=3:=by
     by_cases h3:n.Kind=3
     ·exact h3
     ·have:=Ko hj;rw[Ie h4 h3]at this;cases this
    simp[h3]
 | none=>
   simp only;by_cases h3:n.Kind=3
   ·simp only[h3,if_true];by_cases hs:s=[45]\/s=yE n.Kids.length
    ·rw[if_pos hs,if_pos hs];simp
    ·rw[if_neg hs,if_neg hs];rfl
   ·rw[if_neg h3,if_neg h3];by_cases h4:n.Kind=4
    ·rw[if_pos h4,if_pos h4];simp[h3]
    ·rw[if_neg h4,if_neg h4];rfl
theorem Zf {n:aj}{s:aK}{q:Nat×Bool}(h:Pg n s=some q):q.1<=n.Kids.length/\(q.2=true->q.1<n.Kids.length)/\(n.Kind=3\/n.Kind=4):=by
 unfold Pg at h;cases hj:EL n s with
 | some j=>
   rw[hj]at h;cases h;have:=zF hj;refine⟨by omega,λ_=>this,?_⟩;by_cases h4:n.Kind=4
   ·exact .inr h4
   ·by_cases h3:n.Kind=3
    ·exact .inl h3
    ·have:=Ko hj;rw[Ie h4 h3]at this;cases this
 | none=>
   rw[hj]at h;simp only at h;by_cases h3:n.Kind=3
   ·rw[if_pos h3]at h;split at h
    ·cases h;exact⟨ax _,λe=>(by cases e),.inl h3⟩
    ·cases h
   ·rw[if_neg h3]at h;split at h
    ·rename_i h4;cases h;exact⟨Yz n s,λe=>(by cases e),.inr h4⟩
    ·cases h
theorem T.qy {B D E:Nat}{n v:aj}(s:aK)(hB:B<lim)(h:Fine B D n)(hv:Fine B E v):Ev (λf=>G.qy f n s v) (oQ (addN n s v)):=by
 have hl:=h.kids;have hn:=h.names;have hB2:=hB;unfold lim at hB2;refine Ev.up ?_;simp only[G.qy];refine Ev.bind (T.l9 s (by omega) h hB) ?_;rw[S9];cases hq:Pg n s with
 |none=>exact Ev.ct rfl (Ev.ret _)
 | some q=>
   obtain⟨q1,q2⟩:=q;obtain⟨hq1,hq2,hk⟩:=Zf hq;simp only at hq1 hq2;refine Ev.cf (decide_eq_false (by simp only[adn];omega)) ?_;refine Ev.ite (λe=>?_) (λe=>?_)
   ·have e:q2=true:=e;subst e;exact Ev.bind (T.oW (by omega) h hv (hq2 rfl)) (Ev.ret _)
   ·have e:q2=false:=e;subst e;simp only[adn,ah];have ht:(n.Kids.take q1).length=q1:=(by rw[dm];omega);have hd:(n.Kids.drop q1).length=n.Kids.length-q1:=fE;refine Ev.bind (T.aY (by omega) h) (Ev.chk (by omega) (Ev.chk (by omega) (Ev.bind (T.aY (by omega) hv) (Ev.chk (by omega) (Ev.chk (by omega) (Ev.chk (by omega) ?_))))));refine Ev.ite (λe3=>Ev.ret' ?_) (λe3=>?_)
    ·have e3':n.Kind=3:=(by simpa using e3);simp only[lD,if_pos e3'];rfl
    ·have e3':¬n.Kind=3:=(by simpa using e3);have h4:n.Kind=4:=(by omega);have hm:=h.map h4;have ht2:(n.Names.take q1).length=q1:=(by rw[dm];omega);have hd2:(n.Names.drop q1).length=n.Names.length-q1:=fE;refine Ev.chk (by omega) (Ev.chk (by omega) (Ev.chk (by omega) (Ev.chk (by omega) (Ev.chk (by omega) (Ev.ret' ?_)))));simp only[lD,if_neg e3'];rfl
theorem V4 {B D E:Nat}{n v m:aj}{s:aK}(h:Fine B D n)(hv:Fine B E v)(hs:s.length<=B)(hm:addN n s v=some m):Fine (B+1) (D+E) m:=by
 rw[S9]at hm;cases hq:Pg n s with
 |none=>rw[hq]at hm;cases hm
 | some q=>
   obtain⟨q1,q2⟩:=q;obtain⟨hq1,hq2,hk⟩:=Zf hq;simp only at hq1 hq2;rw[hq]at hm;cases D with
   |zero=>exact h.elim
   |succ D=>
   cases hm;have agQ:∀k,k∈insL n.Kids q1 v->Fine (B+1) (D+E) k:=by
    intro k hk;unfold insL at hk;simp only[aV,bJ]at hk;rcases hk with(hk|rfl)|hk
    ·exact(h.2.2.2.2.2 k (dS hk)).mono (by omega) (by omega)
    ·exact hv.mono (by omega) (by omega)
    ·exact(h.2.2.2.2.2 k (mX hk)).mono (by omega) (by omega)
   have hlen:(insL n.Kids q1 v).length=n.Kids.length+1:=(by unfold insL;simp;omega);have hl:=h.kids;have hn:=h.names;have hb:1<=B+1:=(by omega);cases q2 with
   |true=>exact(V5 (j:=q1) h hv).mono (by omega) (by omega)
   | false=>
     simp only[Bool.false_eq_true,if_false];rw[show D+1+E=(D+E)+1 by omega];by_cases h3:n.Kind=3
     ·rw[if_pos h3];exact⟨by simp,by simp,by simp,by show(insL n.Kids q1 v).length<=_;omega,λh4=>by simp only at h4;omega,agQ⟩
     ·rw[if_neg h3];have h4:n.Kind=4:=(by omega);have hm:=h.map h4;have hlen2:(insL n.Names q1 s).length=n.Names.length+1:=(by unfold insL;simp;omega);refine⟨by simp,by show(insL n.Names q1 s).length<=_;omega,λx hx=>?_,by show(insL n.Kids q1 v).length<=_;omega,λ_=>by show(insL n.Kids q1 v).length<=(insL n.Names q1 s).length;omega,agQ⟩;have hx:x∈insL n.Names q1 s:=hx;unfold insL at hx;simp only[aV,bJ]at hx;rcases hx with(hx|rfl)|hx
      ·have:=h.2.2.1 x (dS hx);omega
      ·omega
      ·have:=h.2.2.1 x (mX hx);omega
theorem ado {n:aj}{s:aK}{p:Nat}(hA:Asc n.Names=true)(hl:n.Kids.length=n.Names.length)(h:LB n.Names s p)(hne:(decide (p<n.Names.length)&&n.Names.getD p default==s)=false):slt n s=p:=by
 have hhi:∀j,p<=j->j<n.Names.length->bl s (n.Names.getD j default)=true:=by
  intro j h1 h2;cases hb:bl s (n.Names.getD j default)with
  |true=>rfl
  | false=>
    have e:=Js hb (h.hi j h1 h2);by_cases hp:p=j
    ·subst hp;have:decide (p<n.Names.length)=true:=(by simpa using h2);rw[this,<- e]at hne;simp at hne
    ·have:=FK hA p j (by omega) h2;rw[<- e,h.hi p (by omega) (by omega)]at this;cases this
 unfold slt;cases hf:(aQ 0 n.Kids.length).find? λi=>bl s (n.Names.getD i default)with
 | none=>
   have:=J4.1 hf;by_cases hp:p=n.Kids.length
   ·rw[hp];rfl
   ·have agT:=h.le;have h2:=hhi p (by omega) (by omega);rw[this p (by omega) (by omega)]at h2;cases h2
 | some j=>
   obtain⟨h1,h2,h3,h4⟩:=Gp.1 hf;show j=p;have a1:¬j<p:=λhlt=>by have:=MB (h.lo j hlt);rw[this]at h3;cases h3
   have a2:¬p<j:=λhlt=>by have:=h4 p (by omega) hlt;rw[hhi p (by omega) (by omega)]at this;cases this
   omega
theorem T.oU {d:Nat}{n v:aj}(s:aK)(h:Shape (d+1) n=true)(hk:n.Kind=4):∃m,addN n s v=some m/\Ev (λf=>G.oU f n s v) m:=by
 have hp:=kT h;obtain⟨hnum,htext,hN,hl,hkl⟩:=yw hp hk;obtain⟨p,g,hlb⟩:=T.slices_BinarySearch_string s (by unfold big;omega) (Ls hN);have hpl:=UZ hk (Ls hN) hkl hlb;have agT:=hlb.le;cases hc:decide (p<n.Names.length)&&n.Names.getD p default==s with
 | true=>rw[hc,if_pos rfl]at hpl;refine⟨Gz n p v,by unfold addN;rw[hpl];simp[hk],Ev.up ?_⟩;simp only[G.oU];have:=zF hpl;refine Ev.bind g (Ev.ct hc (Ev.chk (by omega) (Ev.ret' ?_)));rw[ah];rfl
 | false=>
   rw[hc,if_neg (by simp)]at hpl;have hsl:=ado (Ls hN) hkl hlb hc;refine⟨aj.mk n.Kind 0 [] (insL n.Names p s) (insL n.Kids p v),by unfold addN;rw[hpl,hsl];simp[hk],Ev.up ?_⟩;simp only[G.oU];refine Ev.bind g (Ev.cf hc ?_);have i1:Ev (λf=>G.mQ f n.Names (p:Int) [s]) (insL n.Names p s):=by refine Ev.up ?_;simp only[G.mQ];refine Ev.chk (by simp;omega) (Ev.ret' ?_);rw[ah];rfl
   have i2:Ev (λf=>G.jf f n.Kids (p:Int) [v]) (insL n.Kids p v):=by refine Ev.up ?_;simp only[G.jf];refine Ev.chk (by simp;omega) (Ev.ret' ?_);rw[ah];rfl
   exact Ev.bind i1 (Ev.bind i2 (Ev.ret' (by rw[hnum,htext])))
theorem T.lK.K1 {B E:Nat}{n v:aj}{k:Nat}(hB:B<=lim)(hv:Fine B E v)(hk:k<=n.Kids.length)(hl:n.Kids.length<=6):Ev (λf=>G.lK.K1 f v n (k:Int) true) (aj.mk n.Kind n.Num n.Text n.Names (insL n.Kids k v),true):=by
 refine Ev.up ?_;simp only[G.lK.K1];refine Ev.ct rfl (Ev.bind (T.aP hB hv) ?_);have i2:Ev (λf=>G.jf f n.Kids (k:Int) [v]) (insL n.Kids k v):=by refine Ev.up ?_;simp only[G.jf];refine Ev.chk (by simp;omega) (Ev.ret' ?_);rw[ah];rfl
 exact Ev.bind i2 (Ev.ret _)
theorem T.lK {B E d:Nat}{n v:aj}(s:aK)(hB:B<=lim)(hv:Fine B E v)(h:Shape d n=true):Ev (λf=>G.lK f n s v) (oQ (addN n s v)):=by
 cases d with
 |zero=>cases h
 |succ d=>
 have hp:=kT h;refine Ev.up ?_;simp only[G.lK];refine Ev.bind (T.aP BU (yU h)) ?_;by_cases h4:n.Kind=4
 ·refine Ev.ct (by simpa using h4) (Ev.bind (T.aP hB hv) ?_);obtain⟨m,hm,g⟩:=T.oU (v:=v) s h h4;rw[hm];exact Ev.bind g (Ev.ret _)
 refine Ev.cf (by simpa using h4) ?_;by_cases h3:n.Kind=3
 ·obtain⟨hnum,htext,X8,hl⟩:=D5 hp h3;refine Ev.ct (by simpa using h3) ?_;obtain⟨w,b,g,h1,h2⟩:=T.gV s hp;refine Ev.bind g ?_;unfold addN;cases hj:EL n s with
  | some j=>obtain⟨rfl,rfl⟩:=h1 j hj;have:=zF hj;refine Ev.ct rfl ((T.lK.K1 (k:=j) hB hv (by omega) hl).eq ?_);simp only[if_neg h4];rw[hnum,htext,X8];rfl
  | none=>
    have hb:=h2 hj;subst hb;simp only[if_pos h3];refine Ev.cf rfl (Ev.ite (λe=>?_) (λe=>?_))
    ·refine(T.lK.K1 (k:=n.Kids.length) hB hv (by omega) hl).eq ?_;rw[if_pos (.inl (by simpa using e)),hnum,htext,X8];rfl
    ·refine Ev.bind (T.strconv_Itoa (i:=n.Kids.length) (by omega)) (Ev.ite (λe2=>?_) (λe2=>?_))
     ·refine(T.lK.K1 (k:=n.Kids.length) hB hv (by omega) hl).eq ?_;rw[if_pos (.inr (by simpa using e2)),hnum,htext,X8];rfl
     ·rw[if_neg (by simp at e e2;simp[e,e2])];refine Ev.up ?_;simp only[G.lK.K1];exact Ev.cf rfl (Ev.ret _)
 ·refine Ev.cf (by simpa using h3) (Ev.ret' ?_);have hn:EL n s=none:=NF.2 (λq _=>Ie h4 h3 s q);unfold addN;rw[hn];simp[h3,h4,oQ,ve]
theorem T.mD (b:Bool):Ev (λf=>G.mD f b) (if b then 1 else 0):=by
 refine Ev.up ?_;simp only[G.mD];cases b
 ·exact Ev.ret _
 ·exact Ev.ret _
theorem T.rf (a b:Int):∃r,Ev (λf=>G.rf f a b) r/\(r=0<->a=b):=by
 by_cases h:a<b
 ·refine⟨-1,Ev.up ?_,by omega⟩;simp only[G.rf];rw[show decide (b<a)=false by simp;omega,show decide (a<b)=true by simpa using h];exact Ev.bind (T.mD _) (Ev.bind (T.mD _) (Ev.ret _))
 ·by_cases k:b<a
  ·refine⟨1,Ev.up ?_,by omega⟩;simp only[G.rf];rw[show decide (a<b)=false by simp;omega,show decide (b<a)=true by simpa using k];exact Ev.bind (T.mD _) (Ev.bind (T.mD _) (Ev.ret _))
  ·refine⟨0,Ev.up ?_,by omega⟩;simp only[G.rf];rw[show decide (a<b)=false by simp;omega,show decide (b<a)=false by simp;omega];exact Ev.bind (T.mD _) (Ev.bind (T.mD _) (Ev.ret _))
theorem T.oI (a b:aK)(hne:a≠b):∃r,Ev (λf=>G.oI f a b) r/\r≠0:=by
 cases h:bl a b with
 | true=>refine⟨-1,Ev.up ?_,by omega⟩;simp only[G.oI];exact Ev.ct h (Ev.bind (T.mD _) (Ev.bind (T.mD _) (Ev.ret _)))
 | false=>refine⟨1,Ev.up ?_,by omega⟩;simp only[G.oI];exact Ev.cf h (Ev.cf (by simpa using hne) (Ev.bind (T.mD _) (Ev.bind (T.mD _) (Ev.ret _))))
def GZ (a b:aj)(i:Nat):Prop:=a.Kids.drop i=b.Kids.drop i/\(a.Kind=4->a.Names.drop i=b.Names.drop i)
theorem QG {a b:aj}{i:Nat}(ha:i<a.Kids.length)(hb:i<b.Kids.length)(h4:a.Kind=4->i<a.Names.length/\i<b.Names.length) :
 GZ a b i<->((a.Kind=4->a.Names.getD i default=b.Names.getD i default)/\a.Kids.getD i default=b.Kids.getD i default/\GZ a b (i+1)):=by
 unfold GZ;rw[dP (default:aj) ha,dP (default:aj) hb,wU];by_cases hk:a.Kind=4
 ·obtain⟨n1,n2⟩:=h4 hk;rw[dP (default:aK) n1,dP (default:aK) n2,wU];simp only[hk,true_implies];constructor
  ·rintro⟨⟨x,y⟩,z,w⟩;exact⟨z,x,y,w⟩
  ·rintro⟨z,x,y,w⟩;exact⟨⟨x,y⟩,z,w⟩
 ·simp only[hk,false_implies,and_true,true_and]
theorem Be {d:Nat}{n:aj}(h:Shape d n=true)(hk:n.Kind=4):n.Names.length=n.Kids.length:=by
 cases d with
 |zero=>cases h
 |succ d=>exact(yw (kT h) hk).2.2.2.2.symm
theorem T.iO.L1 {d e:Nat}{a b:aj}(ha:Shape (d+1) a=true)(hb:Shape (e+1) b=true)(hk:a.Kind=b.Kind)
 (hs:∀x y,x∈a.Kids->y∈b.Kids->∃r,Ev (λf=>G.iO f x y) r/\(r=0<->x=y)) :
 ∀(k i:Nat),a.Kids.length<=i+k->i<=a.Kids.length->i<=b.Kids.length->∃r,Ev (λf=>G.iO.L1 f a b i) r/\(r=0<->GZ a b i):=by
 have la:=Eh ha;have lb:=Eh hb;have tail:∀i,i<=a.Kids.length->i<=b.Kids.length->(i=a.Kids.length\/i=b.Kids.length)->∃r,Ev (λf=>iM (G.rf f (a.Kids.length:Int) (b.Kids.length:Int)) λv=>some v) r/\(r=0<->GZ a b i):=by
  intro i h1 h2 h3;obtain⟨r,g,hr⟩:=T.rf (a.Kids.length:Int) (b.Kids.length:Int);refine⟨r,Ev.bind g (Ev.ret _),hr.trans ⟨λhl=>?_,λhE=>?_⟩⟩
  ·have hl:a.Kids.length=b.Kids.length:=(by omega);refine⟨by rw[ak (by omega),ak (by omega)],λh4=>?_⟩;have n1:=Be ha h4;have n2:=Be hb (hk▸h4);rw[ak (by omega),ak (by omega)]
  ·have:=congrArg List.length hE.1;simp only[fE]at this;omega
 intro k
 induction k with
 | zero=>intro i h1 h2 h3;obtain⟨r,g,hr⟩:=tail i h2 h3 (by omega);refine⟨r,Ev.up ?_,hr⟩;simp only[G.iO.L1];exact Ev.cf (by simp;omega) g
 | succ k ih=>
   intro i h1 h2 h3;by_cases hia:i=a.Kids.length
   ·obtain⟨r,g,hr⟩:=tail i h2 h3 (by omega);refine⟨r,Ev.up ?_,hr⟩;simp only[G.iO.L1];exact Ev.cf (by simp;omega) g
   by_cases hib:i=b.Kids.length
   ·obtain⟨r,g,hr⟩:=tail i h2 h3 (by omega);refine⟨r,Ev.up ?_,hr⟩;simp only[G.iO.L1];exact Ev.ct (by simp;omega) (Ev.cf (by simp;omega) g)
   have n4:a.Kind=4->i<a.Names.length/\i<b.Names.length:=λh4=>by have n1:=Be ha h4;have n2:=Be hb (hk▸h4);omega
   have hE:=QG (a:=a) (b:=b) (i:=i) (by omega) (by omega) n4;obtain⟨r2,g2,hr2⟩:=hs (a.Kids.getD i default) (b.Kids.getD i default) (by rw[gu _ (by omega:i<a.Kids.length)];exact dJ _) (by rw[gu _ (by omega:i<b.Kids.length)];exact dJ _);obtain⟨r3,g3,hr3⟩:=ih (i+1) (by omega) (by omega) (by omega);have rest:∃r,Ev (λf=>iM (G.iO f (a.Kids.getD i default) (b.Kids.getD i default)) λv=>cond (v != 0) (some v) (G.iO.L1 f a b ((i+1:Nat):Int))) r/\(r=0<->(a.Kids.getD i default=b.Kids.getD i default/\GZ a b (i+1))):=by
    by_cases h0:r2=0
    ·refine⟨r3,Ev.bind g2 (Ev.cf (by rw[h0];rfl) g3),?_⟩;rw[hr3];exact⟨λh=>⟨hr2.1 h0,h⟩,λh=>h.2⟩
    ·refine⟨r2,Ev.bind g2 (Ev.ct (by simpa using h0) (Ev.ret _)),?_⟩;exact⟨λh=>absurd h h0,λh=>hr2.2 h.1⟩
   obtain⟨r4,g4,hr4⟩:=rest;by_cases h4:a.Kind=4
   ·obtain⟨m1,m2⟩:=n4 h4;by_cases hn:a.Names.getD i default=b.Names.getD i default
    ·refine⟨r4,Ev.up ?_,?_⟩
     ·simp only[G.iO.L1];rw[ah,dF (by omega)];exact Ev.ct (by simp;omega) (Ev.ct (by simp;omega) (Ev.ct (by simpa using h4) (Ev.chk (by omega) (Ev.chk (by omega) (Ev.ct (by simpa using hn) (Ev.chk (by omega) (Ev.chk (by omega) g4)))))))
     ·rw[hr4,hE];exact⟨λh=>⟨λ_=>hn,h⟩,λh=>h.2⟩
    ·obtain⟨r,g,hr⟩:=T.oI _ _ hn;refine⟨r,Ev.up ?_,?_⟩
     ·simp only[G.iO.L1];rw[ah,dF (by omega)];exact Ev.ct (by simp;omega) (Ev.ct (by simp;omega) (Ev.ct (by simpa using h4) (Ev.chk (by omega) (Ev.chk (by omega) (Ev.cf (by simpa using hn) (Ev.chk (by omega) (Ev.chk (by omega) (Ev.bind g (Ev.ret _)))))))))
     ·rw[hE];exact⟨λh=>absurd h hr,λh=>absurd (h.1 h4) hn⟩
   ·refine⟨r4,Ev.up ?_,?_⟩
    ·simp only[G.iO.L1];rw[ah,dF (by omega)];exact Ev.ct (by simp;omega) (Ev.ct (by simp;omega) (Ev.cf (by simpa using h4) (Ev.chk (by omega) (Ev.chk (by omega) g4))))
    ·rw[hr4,hE];exact⟨λh=>⟨λe=>absurd e h4,h⟩,λh=>h.2⟩
theorem TB {d:Nat}{n:aj}(h:Shape (d+1) n=true)(h4:n.Kind≠4):n.Names=[]:=by
 by_cases h3:n.Kind=3
 ·exact(D5 (kT h) h3).2.2.1
 ·exact(Ad (kT h) h4 h3).1
theorem eq_iff {d e:Nat}{a b:aj}(ha:Shape (d+1) a=true)(hb:Shape (e+1) b=true):a=b<->(a.Kind=b.Kind/\a.Num=b.Num/\a.Text=b.Text/\GZ a b 0):=by
 constructor
 ·rintro rfl;exact⟨rfl,rfl,rfl,rfl,λ_=>rfl⟩
 ·rintro⟨h1,h2,h3,h4,h5⟩;simp only[bW]at h4 h5;have hn:a.Names=b.Names:=by
   by_cases h:a.Kind=4
   ·exact h5 h
   ·rw[TB ha h,TB hb (h1▸h)]
  cases a;cases b;simp only at h1 h2 h3 h4 hn;subst h1 h2 h3 h4 hn;rfl
theorem T.iO : ∀(d:Nat) {e:Nat} {a b:aj},Shape d a=true->Shape e b=true->∃r,Ev (λf=>G.iO f a b) r/\(r=0<->a=b)
 |0,_,_,_,h,_=>by cases h
 |_+1,0,_,_,_,h=>by cases h
 | d+1,e+1,a,b,ha,hb=>by
   rw[eq_iff ha hb];by_cases h1:a.Kind=b.Kind
   ·by_cases h2:a.Num=b.Num
    ·by_cases h3:a.Text=b.Text
     ·obtain⟨r,g,hr⟩:=T.iO.L1 ha hb h1 (λx y hx hy=>T.iO d (uF ha x hx) (uF hb y hy)) a.Kids.length 0 (by omega) (by omega) (by omega);refine⟨r,Ev.up ?_,hr.trans ⟨λh=>⟨h1,h2,h3,h⟩,λh=>h.2.2.2⟩⟩;simp only[G.iO];exact Ev.cf (by simpa using h1) (Ev.cf (by simpa using h2) (Ev.ct (by simpa using h3) g))
     ·obtain⟨r,g,hr⟩:=T.oI _ _ h3;refine⟨r,Ev.up ?_,⟨λh=>absurd h hr,λh=>absurd h.2.2.1 h3⟩⟩;simp only[G.iO];exact Ev.cf (by simpa using h1) (Ev.cf (by simpa using h2) (Ev.cf (by simpa using h3) (Ev.bind g (Ev.ret _))))
    ·obtain⟨r,g,hr⟩:=T.rf a.Num b.Num;refine⟨r,Ev.up ?_,hr.trans ⟨λh=>absurd h h2,λh=>h.2.1⟩⟩;simp only[G.iO];exact Ev.cf (by simpa using h1) (Ev.ct (by simpa using h2) (Ev.bind g (Ev.ret _)))
   ·obtain⟨r,g,hr⟩:=T.rf a.Kind b.Kind;refine⟨r,Ev.up ?_,hr.trans ⟨λh=>absurd h h1,λh=>h.1⟩⟩;simp only[G.iO];exact Ev.ct (by simpa using h1) (Ev.bind g (Ev.ret _))
theorem T.wC {d e:Nat}{a b:aj}(ha:Shape d a=true)(hb:Shape e b=true):∃v,Ev (λf=>G.wC f a b) v/\(v=true<->a=b):=by obtain⟨r,g,hr⟩:=T.iO d ha hb;refine⟨r==0,Ev.up ?_,by rw[beq_iff_eq];exact hr⟩;simp only[G.wC];exact Ev.bind g (Ev.ret _)
theorem T.cmp_Compare_int (a b:Int):∃r,Ev (λf=>G.cmp_Compare_int f a b) r/\(r=0<->a=b):=by
 have hn:∀x:Int,Ev (λf=>G.cmp_isNaN_int f x) false:=λx=>by refine Ev.up ?_;simp only[G.cmp_isNaN_int];exact Ev.ret' (by simp)
 by_cases h:a<b
 ·refine⟨-1,Ev.up ?_,by omega⟩;simp only[G.cmp_Compare_int];exact Ev.bind (hn a) (Ev.bind (hn b) (Ev.cf rfl (Ev.cf rfl (Ev.ct (by simpa using h) (Ev.ret _)))))
 ·by_cases k:b<a
  ·refine⟨1,Ev.up ?_,by omega⟩;simp only[G.cmp_Compare_int];exact Ev.bind (hn a) (Ev.bind (hn b) (Ev.cf rfl (Ev.cf rfl (Ev.cf (by simpa using h) (Ev.ct (by simpa using k) (Ev.ret _))))))
  ·refine⟨0,Ev.up ?_,by omega⟩;simp only[G.cmp_Compare_int];exact Ev.bind (hn a) (Ev.bind (hn b) (Ev.cf rfl (Ev.cf rfl (Ev.cf (by simpa using h) (Ev.cf (by simpa using k) (Ev.ret _))))))
theorem T.strings_Compare (a b:aK):∃r,Ev (λf=>G.strings_Compare f a b) r/\(r=0<->a=b):=by
 refine⟨jU a b,Ev.up ?_,Tj⟩;simp only[G.strings_Compare];have:Ev (λf=>G.iK f a b) (jU a b):=by refine Ev.up ?_;simp only[G.iK];exact Ev.ret _
 exact Ev.bind this (Ev.ret _)
theorem T.cZ.L3 {d e:Nat}{a b:aj}(ha:Shape (d+1) a=true)(hb:Shape (e+1) b=true)(hk:a.Kind=b.Kind)
 (hs:∀x y,x∈a.Kids->y∈b.Kids->∃r,Ev (λf=>G.cZ f x y) r/\(r=0<->x=y)) :
 ∀(k i:Nat),a.Kids.length<=i+k->i<=a.Kids.length->i<=b.Kids.length->∃r,Ev (λf=>G.cZ.L3 f a b i) r/\(r=0<->GZ a b i):=by
 have la:=Eh ha;have lb:=Eh hb;have tail:∀i,i<=a.Kids.length->i<=b.Kids.length->(i=a.Kids.length\/i=b.Kids.length)->∃r,Ev (λf=>iM (G.cmp_Compare_int f (a.Kids.length:Int) (b.Kids.length:Int)) λv=>some v) r/\(r=0<->GZ a b i):=by
  intro i h1 h2 h3;obtain⟨r,g,hr⟩:=T.cmp_Compare_int (a.Kids.length:Int) (b.Kids.length:Int);refine⟨r,Ev.bind g (Ev.ret _),hr.trans ⟨λhl=>?_,λhE=>?_⟩⟩
  ·have hl:a.Kids.length=b.Kids.length:=(by omega);refine⟨by rw[ak (by omega),ak (by omega)],λh4=>?_⟩;have n1:=Be ha h4;have n2:=Be hb (hk▸h4);rw[ak (by omega),ak (by omega)]
  ·have:=congrArg List.length hE.1;simp only[fE]at this;omega
 intro k
 induction k with
 | zero=>intro i h1 h2 h3;obtain⟨r,g,hr⟩:=tail i h2 h3 (by omega);refine⟨r,Ev.up ?_,hr⟩;simp only[G.cZ.L3];exact Ev.cf (by simp;omega) g
 | succ k ih=>
   intro i h1 h2 h3;by_cases hia:i=a.Kids.length
   ·obtain⟨r,g,hr⟩:=tail i h2 h3 (by omega);refine⟨r,Ev.up ?_,hr⟩;simp only[G.cZ.L3];exact Ev.cf (by simp;omega) g
   by_cases hib:i=b.Kids.length
   ·obtain⟨r,g,hr⟩:=tail i h2 h3 (by omega);refine⟨r,Ev.up ?_,hr⟩;simp only[G.cZ.L3];exact Ev.ct (by simp;omega) (Ev.cf (by simp;omega) g)
   have n4:a.Kind=4->i<a.Names.length/\i<b.Names.length:=λh4=>by have n1:=Be ha h4;have n2:=Be hb (hk▸h4);omega
   have hE:=QG (a:=a) (b:=b) (i:=i) (by omega) (by omega) n4;obtain⟨r2,g2,hr2⟩:=hs (a.Kids.getD i default) (b.Kids.getD i default) (by rw[gu _ (by omega:i<a.Kids.length)];exact dJ _) (by rw[gu _ (by omega:i<b.Kids.length)];exact dJ _);obtain⟨r3,g3,hr3⟩:=ih (i+1) (by omega) (by omega) (by omega);have rest:∃r,Ev (λf=>G.cZ.K4 f a b (i:Int)) r/\(r=0<->(a.Kids.getD i default=b.Kids.getD i default/\GZ a b (i+1))):=by
    by_cases h0:r2=0
    ·refine⟨r3,Ev.up ?_,?_⟩
     ·simp only[G.cZ.K4];rw[ah,dF (by omega)];exact Ev.chk (by omega) (Ev.chk (by omega) (Ev.bind g2 (Ev.cf (by rw[h0];rfl) g3)))
     ·rw[hr3];exact⟨λh=>⟨hr2.1 h0,h⟩,λh=>h.2⟩
    ·refine⟨r2,Ev.up ?_,?_⟩
     ·simp only[G.cZ.K4];rw[ah,dF (by omega)];exact Ev.chk (by omega) (Ev.chk (by omega) (Ev.bind g2 (Ev.ct (by simpa using h0) (Ev.ret _))))
     ·exact⟨λh=>absurd h h0,λh=>hr2.2 h.1⟩
   obtain⟨r4,g4,hr4⟩:=rest;by_cases h4:a.Kind=4
   ·obtain⟨m1,m2⟩:=n4 h4;obtain⟨r,g,hr⟩:=T.strings_Compare (a.Names.getD i default) (b.Names.getD i default);by_cases hn:a.Names.getD i default=b.Names.getD i default
    ·refine⟨r4,Ev.up ?_,?_⟩
     ·simp only[G.cZ.L3];rw[ah];exact Ev.ct (by simp;omega) (Ev.ct (by simp;omega) (Ev.ct (by simpa using h4) (Ev.chk (by omega) (Ev.chk (by omega) (Ev.bind g (Ev.cf (by rw[hr.2 hn];rfl) g4))))))
     ·rw[hr4,hE];exact⟨λh=>⟨λ_=>hn,h⟩,λh=>h.2⟩
    ·have hr0:r≠0:=λe=>hn (hr.1 e);refine⟨r,Ev.up ?_,?_⟩
     ·simp only[G.cZ.L3];rw[ah];exact Ev.ct (by simp;omega) (Ev.ct (by simp;omega) (Ev.ct (by simpa using h4) (Ev.chk (by omega) (Ev.chk (by omega) (Ev.bind g (Ev.ct (by simpa using hr0) (Ev.ret _)))))))
     ·rw[hE];exact⟨λh=>absurd h hr0,λh=>absurd (h.1 h4) hn⟩
   ·refine⟨r4,Ev.up ?_,?_⟩
    ·simp only[G.cZ.L3];exact Ev.ct (by simp;omega) (Ev.ct (by simp;omega) (Ev.cf (by simpa using h4) g4))
    ·rw[hr4,hE];exact⟨λh=>⟨λe=>absurd e h4,h⟩,λh=>h.2⟩
theorem T.cZ : ∀(d:Nat) {e:Nat} {a b:aj},Shape d a=true->Shape e b=true->∃r,Ev (λf=>G.cZ f a b) r/\(r=0<->a=b)
 |0,_,_,_,h,_=>by cases h
 |_+1,0,_,_,_,h=>by cases h
 | d+1,e+1,a,b,ha,hb=>by
   rw[eq_iff ha hb];obtain⟨r1,g1,hr1⟩:=T.cmp_Compare_int a.Kind b.Kind;obtain⟨r2,g2,hr2⟩:=T.cmp_Compare_int a.Num b.Num;obtain⟨r3,g3,hr3⟩:=T.strings_Compare a.Text b.Text;by_cases h1:r1=0
   ·by_cases h2:r2=0
    ·by_cases h3:r3=0
     ·obtain⟨r,g,hr⟩:=T.cZ.L3 ha hb (hr1.1 h1) (λx y hx hy=>T.cZ d (uF ha x hx) (uF hb y hy)) a.Kids.length 0 (by omega) (by omega) (by omega);refine⟨r,Ev.up ?_,hr.trans ⟨λh=>⟨hr1.1 h1,hr2.1 h2,hr3.1 h3,h⟩,λh=>h.2.2.2⟩⟩;simp only[G.cZ];exact Ev.bind g1 (Ev.cf (by rw[h1];rfl) (Ev.bind g2 (Ev.cf (by rw[h2];rfl) (Ev.bind g3 (Ev.cf (by rw[h3];rfl) g)))))
     ·refine⟨r3,Ev.up ?_,⟨λh=>absurd h h3,λh=>hr3.2 h.2.2.1⟩⟩;simp only[G.cZ];exact Ev.bind g1 (Ev.cf (by rw[h1];rfl) (Ev.bind g2 (Ev.cf (by rw[h2];rfl) (Ev.bind g3 (Ev.ct (by simpa using h3) (Ev.ret _))))))
    ·refine⟨r2,Ev.up ?_,⟨λh=>absurd h h2,λh=>hr2.2 h.2.1⟩⟩;simp only[G.cZ];exact Ev.bind g1 (Ev.cf (by rw[h1];rfl) (Ev.bind g2 (Ev.ct (by simpa using h2) (Ev.ret _))))
   ·refine⟨r1,Ev.up ?_,⟨λh=>absurd h h1,λh=>hr1.2 h.1⟩⟩;simp only[G.cZ];exact Ev.bind g1 (Ev.ct (by simpa using h1) (Ev.ret _))
theorem T.tC {d e:Nat}{a b:aj}(ha:Shape d a=true)(hb:Shape e b=true):∃v,Ev (λf=>G.tC f a b) v/\(v=true<->a=b):=by obtain⟨r,g,hr⟩:=T.cZ d ha hb;refine⟨r==0,Ev.up ?_,by rw[beq_iff_eq];exact hr⟩;simp only[G.tC];exact Ev.bind g (Ev.ret _)
theorem LJ : ∀{d e:Nat} {n:aj},d<=e->Shape d n=true->Shape e n=true
 |0,_,_,_,h=>by cases h
 |d+1,0,_,hd,_=>by omega
 | d+1,e+1,n,hd,h=>by unfold Shape;rw[kT h,bU,aZ];exact λk hk=>LJ (by omega) (uF h k hk)
theorem KL {α:Type}{f g:α->Nat} : ∀{l:List α},(∀x,x∈l->f x=g x)->(l.map f).sum=(l.map g).sum
 |[],_=>rfl
 | x::l,h=>by simp only[bf,rU];rw[h x (by simp),KL (λy hy=>h y (by simp[hy]))]
theorem cnt_mono : ∀{d e:Nat} {n:aj},d<=e->Shape d n=true->Cnt d n=Cnt e n
 |0,_,_,_,h=>by cases h
 |d+1,0,_,hd,_=>by omega
 | d+1,e+1,n,hd,h=>by unfold Cnt;rw[KL (f:=Cnt d) (g:=Cnt e) (λk hk=>cnt_mono (by omega) (uF h k hk))]
theorem acD {α:Type}(f:α->Nat):∀{l:List α} {x:α},x∈l->f x<=(l.map f).sum
 | y::l,x,h=>by
   simp only[bf,rU];rcases cu.1 h with rfl|h
   ·omega
   ·have:=acD f h;omega
theorem lN {n:aj}(h:Val n=true):Shape 5 n=true:=by unfold Val at h;simp only[ai]at h;exact h.1
theorem Zm {n:aj}(h:Val n=true):Cnt 5 n<=40:=by unfold Val at h;simp only[ai,decide_eq_true_eq]at h;exact h.2
theorem nZ {n:aj}(h:Val n=true):Fine 12 5 n:=yU (lN h)
theorem adD {d:Nat}{n:aj}(hd:d<=5)(h:Shape d n=true)(hc:Cnt d n<=40):Val n=true:=by unfold Val;rw[LJ hd h,bU,decide_eq_true_eq,<- cnt_mono hd h];exact hc
theorem VG : ∀(p:List aK) {d:Nat} {n m:aj},Shape d n=true->Jr n p=some m->Shape d m=true/\Cnt d m<=Cnt d n
 |[],d,n,m,h,e=>by cases e;exact⟨h,ax _⟩
 | s::p,d,n,m,h,e=>by
   rw[Jr]at e;cases hj:EL n s with
   |none=>rw[hj]at e;cases e
   | some j=>
     rw[hj]at e;cases d with
     |zero=>cases h
     | succ d=>have hjl:=zF hj;obtain⟨h1,h2⟩:=VG p (BK h hjl) e;refine⟨LJ (by omega) h1,?_⟩;rw[<- cnt_mono (Nat.le_succ d) h1];have:=acD (Cnt d) (l:=n.Kids) (x:=n.Kids.getD j default) (by rw[gu _ hjl];exact dJ _);show _<=1+(n.Kids.map (Cnt d)).sum;omega
theorem Zi {α:Type}(f:α->Nat){c:α} : ∀{l:List α} {j:Nat} (d:α),f c<=f (l.getD j d)->((l.set j c).map f).sum<=(l.map f).sum
 |[],_,_,_=>by simp
 | x::l,0,d,h=>by rw[sS]at h;simp only[Dk,bf,rU];omega
 | x::l,j+1,d,h=>by rw[oL]at h;have:=Zi f (l:=l) (j:=j) d h;simp only[List.set_cons_succ,bf,rU];omega
theorem aaH {n c:aj}{j:Nat}(h:Parts n=true):Parts (Gz n j c)=true:=by unfold Parts Gz at *;simpa using h
theorem Tf {f:aj->Option aj}(hf:∀d k k',Shape d k=true->f k=some k'->Shape d k'=true/\Cnt d k'<=Cnt d k) :
 ∀(p:List aK) {d:Nat} {n m:aj},Shape d n=true->Gf f n p=some m->Shape d m=true/\Cnt d m<=Cnt d n
 |[],d,n,m,h,e=>hf d n m h (by rw[Gf]at e;exact e)
 | s::p,d,n,m,h,e=>by
   rw[Gf]at e;cases hj:EL n s with
   |none=>rw[hj]at e;cases e
   | some j=>
     rw[hj]at e;simp only at e;cases d with
     |zero=>cases h
     |succ d=>
     have hjl:=zF hj;cases hc:Gf f (n.Kids.getD j default) p with
     |none=>rw[hc]at e;cases e
     | some c=>
       rw[hc]at e;cases e;obtain⟨h1,h2⟩:=Tf hf p (BK h hjl) hc;constructor
       ·unfold Shape;rw[aaH (kT h),bU,aZ];intro k hk;rcases o5 hk with hk|rfl
        ·exact uF h k hk
        ·exact h1
       ·show 1+((n.Kids.set j c).map (Cnt d)).sum<=1+(n.Kids.map (Cnt d)).sum;have:=Zi (Cnt d) (l:=n.Kids) (j:=j) default h2;omega
def yu {α:Type}(l:List α)(k:Nat):List α:=l.take k++l.drop (k+1)
def ED (n:aj)(s:aK):Option aj:=match EL n s with
 |some k=>some (aj.mk n.Kind 0 [] (if n.Kind=4 then yu n.Names k else []) (yu n.Kids k))
 |none=>none
theorem Bh : ∀{l:List aK},Asc l=true<->l.Pairwise (λx y=>bl x y=true)
 |[]=>by simp[Asc]
 | x::l=>by
   rw[List.pairwise_cons,<- Bh (l:=l)];constructor
   ·intro h;exact⟨Ht h,Gs h⟩
   ·rintro⟨h1,h2⟩;cases l with
    |nil=>rfl
    |cons y r=>rw[Asc,h2,oJ];exact h1 y (by simp)
theorem C9 {α:Type}(l:List α)(k:Nat):(yu l k).Sublist l:=by
 unfold yu
 conv=>rhs;rw[<- vZ k l]
 refine List.Sublist.append (List.Sublist.refl _) ?_;rw[<- List.drop_drop];exact List.drop_sublist 1 _
theorem E5 {α:Type}{l:List α}{k:Nat}(h:k<l.length):(yu l k).length=l.length-1:=by unfold yu;simp;omega
theorem ae3 {α:Type}(f:α->Nat):∀{l m:List α},l.Sublist m->(l.map f).sum<=(m.map f).sum:=by
 intro l m h
 induction h with
 |slnil=>simp
 |cons a h ih=>simp only[bf,rU];omega
 |cons_cons a h ih=>simp only[bf,rU];omega
theorem aaN (s:aK):∀d k k',Shape d k=true->ED k s=some k'->Shape d k'=true/\Cnt d k'<=Cnt d k:=by
 intro d n m h e;unfold ED at e;cases hj:EL n s with
 |none=>rw[hj]at e;cases e
 | some j=>
   rw[hj]at e;cases e;have hjl:=zF hj;cases d with
   |zero=>cases h
   |succ d=>
   have hp:=kT h;have hsub:=C9 n.Kids j;have hlen:=E5 hjl;have hl:=OM hp;constructor
   ·unfold Shape;rw[ai,aZ];refine⟨?_,λk hk=>uF h k (hsub.subset hk)⟩;by_cases h4:n.Kind=4
    ·obtain⟨_,_,hN,hnl,hkl⟩:=yw hp h4;have hNM:NM (yu n.Names j)=true:=by
      unfold NM;rw[ai];refine⟨aZ.2 λx hx=>UQ hN x ((C9 _ _).subset hx),Bh.2 ((Bh.1 (Ls hN)).sublist (C9 _ _))⟩
     have hl2:=E5 (l:=n.Names) (k:=j) (by omega);unfold Parts;simp[h4,hNM];omega
    ·by_cases h3:n.Kind=3
     ·unfold Parts;simp[h3];omega
     ·have:=Ko hj;rw[Ie h4 h3]at this;cases this
   ·show 1+((yu n.Kids j).map (Cnt d)).sum<=1+(n.Kids.map (Cnt d)).sum;have:=ae3 (Cnt d) hsub;omega
def GU (p:List aK):aK:=p.getD (p.length-1) default
def Ef (p:List aK):List aK:=p.take (p.length-1)
def BM (n:aj)(p:List aK)(v:aj):Option aj:=if p=[]then some v else Gf (λm=>addN m (GU p) v) n (Ef p)
def Dn (n:aj)(p:List aK):Option aj:=if p=[]then none else Gf (λm=>ED m (GU p)) n (Ef p)
theorem T.pR {B D:Nat}{o:Option aj}(hB:B<=lim)(h:∀m,o=some m->Fine B D m):Ev (λf=>G.pR f (oQ o).1 (oQ o).2) (oQ (o.filter Val)):=by
 refine Ev.up ?_;simp only[G.pR];cases o with
 |none=>exact Ev.cf rfl (Ev.ret _)
 | some m=>
   refine Ev.ct rfl (Ev.bind (T.fB hB (h m rfl)) (Ev.ite (λe=>Ev.ret' ?_) (λe=>Ev.ret' ?_)))
   ·have e:Val m=true:=e;simp[oN,e,oQ]
   ·have e:Val m=false:=e;simp[oN,e,oQ,ve]
theorem T.ni {B D:Nat}{o:Option aj}(hB:B<=lim)(h:∀m,o=some m->Fine B D m):Ev (λf=>G.ni f (oQ o).1 (oQ o).2) (oQ (o.filter Val)):=by
 refine Ev.up ?_;simp only[G.ni];cases o with
 |none=>exact Ev.cf rfl (Ev.ret _)
 | some m=>
   refine Ev.ct rfl (Ev.bind (T.aX hB (h m rfl)) (Ev.ite (λe=>Ev.ret' ?_) (λe=>Ev.ret' ?_)))
   ·have e:Val m=true:=e;simp[oN,e,oQ]
   ·have e:Val m=false:=e;simp[oN,e,oQ,ve]
theorem JD {p:List aK}(hp:p≠[])(hl:p.length<big):af .i64 ((p.length:Int)-1)=((p.length-1:Nat):Int):=by have:0<p.length:=ny.2 hp;unfold big at hl;exact wrapN (by omega) (by omega)
theorem QJ {B D E:Nat}{n v m:aj}{p:List aK}(h:Fine B D n)(hv:Fine B E v)(hs:∀s,s∈p->s.length<=B)(hm:BM n p v=some m):Fine (B+1) (D+(D+E)) m:=by
 unfold BM at hm;split at hm
 ·cases hm;exact hv.mono (by omega) (by omega)
 ·rename_i hp;have hlast:(GU p).length<=B:=by
   unfold GU;have:0<p.length:=ny.2 hp;rw[gu _ (by omega:p.length-1<p.length)];exact hs _ (dJ _)
  rw[Ud]at hm;cases ha:Jr n (Ef p)with
  |none=>rw[ha]at hm;cases hm
  | some inner=>
    rw[ha,gJ]at hm;cases hn:addN inner (GU p) v with
    |none=>rw[hn]at hm;cases hm
    | some next=>rw[hn,gJ]at hm;have hi:=MP _ h ha;have hnx:=V4 hi hv hlast hn;exact QL (B:=B+1) (E:=D+E) (Ef p) (f:=λ_=>some next) (D:=D) (n:=n) (m:=m) (λD' k k' _ e=>by cases e;exact hnx.mono (ax _) (by omega)) (h.mono (by omega) (ax _)) hm
theorem T.uG {B D E:Nat}{n v:aj}(p:List aK)(hB:B+1<lim)(hp:p.length<big)(hs:∀s,s∈p->s.length<=B)(h:Fine B D n)(hv:Fine B E v):Ev (λf=>G.uG f n p v) (oQ (BM n p v)):=by
 refine Ev.up ?_;simp only[G.uG];by_cases hp0:p=[]
 ·subst hp0;exact Ev.ct rfl (Ev.bind (T.aY (by omega) hv) (Ev.ret _))
 ·have hpos:0<p.length:=ny.2 hp0;have hlast:(GU p).length<=B:=by
   unfold GU;rw[gu _ (by omega:p.length-1<p.length)];exact hs _ (dJ _)
  rw[JD hp0 hp,ah];unfold BM;rw[if_neg hp0,Ud];have hil:(Ef p).length<big:=by unfold Ef;rw[dm];omega
  refine Ev.cf (by simpa using hp0) (Ev.chk (by omega) (Ev.bind (T.tZ (Ef p) (by omega) hil h) ?_));cases ha:Jr n (Ef p)with
  |none=>exact Ev.cf rfl (Ev.ret _)
  | some inner=>
    have hi:=MP _ h ha;have hA:=T.qy (n:=inner) (GU p) (by omega) hi hv;refine Ev.ct rfl (Ev.chk (by omega) (Ev.bind hA ?_));rw[gJ];cases hn:addN inner (GU p) v with
    |none=>exact Ev.cf rfl (Ev.ret _)
    | some next=>have hnx:=V4 hi hv hlast hn;refine Ev.ct rfl (Ev.chk (by omega) (Ev.bind (T.o9 (by omega) hnx (Ef p) hil (h.mono (by omega) (ax _))) (Ev.ret _)))
theorem ab3 {B D:Nat}{n m:aj}{s:aK}(h:Fine B D n)(e:ED n s=some m):Fine B D m:=by
 unfold ED at e;cases hj:EL n s with
 |none=>rw[hj]at e;cases e
 | some j=>
   rw[hj]at e;cases e;cases D with
   |zero=>exact h.elim
   |succ D=>
   have hjl:=zF hj;have hk:=h.kids;have hn:=h.names;have h1:=E5 hjl;refine⟨by simp,?_,λx hx=>?_,by show(yu n.Kids j).length<=B;omega,λh4=>?_,λk hk'=>h.2.2.2.2.2 k ((C9 _ _).subset hk')⟩
   ·show(if n.Kind=4 then yu n.Names j else []).length<=B;split
    ·have:=(C9 n.Names j).length_le;omega
    ·simp
   ·have hx:x∈(if n.Kind=4 then yu n.Names j else []):=hx;split at hx
    ·exact h.2.2.1 x ((C9 _ _).subset hx)
    ·cases hx
   ·have h4:n.Kind=4:=h4;have hm:=h.map h4;have h2:=E5 (l:=n.Names) (k:=j) (by omega);show(yu n.Kids j).length<=(if n.Kind=4 then yu n.Names j else []).length;rw[if_pos h4];omega
theorem T.kM {B D:Nat}{n:aj}(p:List aK)(hB:B+1<lim)(hp:p.length<big)(h:Fine B D n):Ev (λf=>G.kM f n p) (oQ (Dn n p)):=by
 have hB2:=hB;unfold lim at hB2;refine Ev.up ?_;simp only[G.kM];by_cases hp0:p=[]
 ·subst hp0;exact Ev.ct (by rfl) (Ev.ret _)
 ·have hpos:0<p.length:=ny.2 hp0;rw[JD hp0 hp,ah];unfold Dn;rw[if_neg hp0,Ud];have hil:(Ef p).length<big:=by unfold Ef;rw[dm];omega
  refine Ev.cf (by simp) (Ev.chk (by omega) (Ev.bind (T.tZ (Ef p) (by omega) hil h) ?_));cases ha:Jr n (Ef p)with
  |none=>exact Ev.cf rfl (Ev.ret _)
  | some inner=>
    have hi:=MP _ h ha;have hk:=hi.kids;have hnm:=hi.names;have hP:=T.jM (n:=inner) (GU p) (by omega) hi;refine Ev.ct rfl (Ev.chk (by omega) (Ev.bind hP ?_));rw[gJ];cases hj:EL inner (GU p)with
    | none=>unfold ED;rw[hj];exact Ev.ct rfl (Ev.ret _)
    | some j=>
      have hjl:=zF hj;simp only[Ik,oQ,ah,dF (show j+1<9223372036854775808 by omega)];have ht:(inner.Kids.take j).length=j:=(by rw[dm];omega);have hd:(inner.Kids.drop (j+1)).length=inner.Kids.length-(j+1):=fE;refine Ev.cf (decide_eq_false (by omega)) (Ev.chk (by omega) (Ev.chk (by omega) (Ev.chk (by omega) (Ev.chk (by omega) ?_))));have key:∀(b:Bool) (nm:List aK),ED inner (GU p)=some (aj.mk inner.Kind 0 [] nm (yu inner.Kids j))->Ev (λf=>G.kM.K1 f n p (inner,b) (yu inner.Kids j) nm) (oQ ((ED inner (GU p)).bind λm'=>PK n (Ef p) m')):=by intro b nm e;refine Ev.up ?_;simp only[G.kM.K1];rw[JD hp0 hp,ah,e,gJ];exact Ev.chk (by omega) (Ev.bind (T.o9 (by omega) (ab3 hi e) (Ef p) hil h) (Ev.ret _))
      refine Ev.ite (λe4=>?_) (λe4=>?_)
      ·have h4:inner.Kind=4:=(by simpa using e4);have hm:=hi.map h4;have ht2:(inner.Names.take j).length=j:=(by rw[dm];omega);have hd2:(inner.Names.drop (j+1)).length=inner.Names.length-(j+1):=fE;refine Ev.chk (by omega) (Ev.chk (by omega) (Ev.chk (by omega) (Ev.chk (by omega) ?_)));exact key true (yu inner.Names j) (by unfold ED;rw[hj];simp[h4])
      ·have h4:¬inner.Kind=4:=(by simpa using e4);exact key true [] (by unfold ED;rw[hj];simp[h4])
theorem WM {B:Nat}(hB:B<=lim){p:List aK}(hl:p.length<=B)(hs:∀s,s∈p->s.length<=B):Sm p:=by unfold lim at hB;exact⟨by unfold big;omega,λs h=>by have:=hs s h;unfold big;omega⟩
def xC (B:Nat)(p:List aK):Prop:=p.length<=B/\∀s,s∈p->s.length<=B
theorem xC.sm {B:Nat}(hB:B<=lim){p:List aK}(h:xC B p):Sm p:=WM hB h.1 h.2
theorem vV {p:List aK}(h:PP p=true):xC 12 p:=by unfold PP at h;simp only[ai,decide_eq_true_eq]at h;exact⟨by omega,λs hs=>Rf (aZ.1 h.1 s hs)⟩
def Vt (n:aj)(p:List aK)(v:aj):Option aj:=if Val n&&PP p&&Val v then(BM n p v).filter Val else none
def abA (n:aj)(p:List aK):Option aj:=if Val n&&PP p then Dn n p else none
def aeg (n:aj)(p:List aK)(v:aj):Option aj:=if Val n&&PP p&&Val v then(PK n p v).filter Val else none
def AtM (n:aj)(p:List aK):Option aj:=if Val n&&PP p then Jr n p else none
theorem NJ {n m:aj}{p:List aK}(h:Val n=true)(e:Dn n p=some m):Val m=true:=by
 unfold Dn at e;split at e
 ·cases e
 ·obtain⟨h1,h2⟩:=Tf (aaN (GU p)) (Ef p) (lN h) e;exact adD (ax _) h1 (iP h2 (Zm h))
theorem Oc {n m:aj}{p:List aK}(h:Val n=true)(e:Jr n p=some m):Val m=true:=by obtain⟨h1,h2⟩:=VG p (lN h) e;exact adD (ax _) h1 (iP h2 (Zm h))
theorem T.Nb {B E:Nat}{v:aj}(p:List aK)(k:Nat)(hB:B<=lim)(hv:Fine B E v)(hk:k<p.length) :
 ∀(q:List aK) {d:Nat} {n:aj},Shape d n=true->Ev (λf=>G.jF f n q p (k:Int) v) (oQ (Gf (λm=>addN m (p.getD k default) v) n q)):=by
 refine T.change (F:=λf a q=>G.jF f a q p (k:Int) v) (C:=λf a=>G.uj f a p (k:Int) v) (λn a q=>by simp only[G.jF]) (λd m hm=>?_);refine Ev.up ?_;simp only[G.uj];refine Ev.chk (by omega) (Ev.bind (T.lK _ hB hv hm) (Ev.ret' ?_));rw[ah]
theorem T.Nh {B E:Nat}{v:aj}(hB:B<=lim)(hv:Fine B E v) :
 ∀(q:List aK) {d:Nat} {n:aj},Shape d n=true->Ev (λf=>G.jG f n q v) (oQ (PK n q v)):=by
 refine T.change (F:=λf a q=>G.jG f a q v) (C:=λf a=>G.uk f a v) (λn a q=>by simp only[G.jG]) (λd m hm=>?_);refine Ev.up ?_;simp only[G.uk];exact Ev.bind (T.aP hB hv) (Ev.ret _)
theorem T.jv {d:Nat}{n:aj}(p:List aK)(k:Nat)(hk:k<p.length)(h:Shape d n=true):Ev (λf=>G.jv f n p (k:Int)) (oQ (ED n (p.getD k default))):=by
 cases d with
 |zero=>cases h
 |succ d=>
 have hp:=kT h;have hl:=OM hp;obtain⟨w,b,g,h1,h2⟩:=T.gV (p.getD k default) hp;refine Ev.up ?_;simp only[G.jv,ah];refine Ev.chk (by omega) (Ev.bind g ?_);unfold ED;cases hj:EL n (p.getD k default)with
 |none=>exact Ev.cf (h2 hj) (Ev.ret _)
 | some j=>
   have hjl:=zF hj;obtain⟨rfl,rfl⟩:=h1 j hj;have d1:Ev (λf=>G.jR f n.Kids (j:Int) ((j+1:Nat):Int)) (yu n.Kids j):=by refine Ev.up ?_;simp only[G.jR,ah];exact Ev.chk (by omega) (Ev.ret _)
   have hK:∀nm,n.Num=0->n.Text=[]->Ev (λf=>G.jv.K1 f ((j:Int),true) n nm) (aj.mk n.Kind 0 [] nm (yu n.Kids j),true):=by intro nm e1 e2;refine Ev.up ?_;simp only[G.jv.K1,dF (show j+1<9223372036854775808 by omega)];exact Ev.bind d1 (Ev.ret' (by rw[e1,e2]))
   refine Ev.ct rfl (Ev.bind (T.aP BU (yU h)) ?_);by_cases h4:n.Kind=4
   ·obtain⟨e1,e2,_,hnl,hkl⟩:=yw hp h4;have d2:Ev (λf=>G.slices_Delete_string f n.Names (j:Int) ((j+1:Nat):Int)) (yu n.Names j):=by
     refine Ev.up ?_;simp only[G.slices_Delete_string,ah];exact Ev.chk (by omega) (Ev.ret _)
    refine Ev.ct (by simpa using h4) ?_;simp only[dF (show j+1<9223372036854775808 by omega)];refine Ev.bind d2 ((hK _ e1 e2).eq ?_);simp[h4,oQ]
   ·by_cases h3:n.Kind=3
    ·obtain⟨e1,e2,e3,_⟩:=D5 hp h3;refine Ev.cf (by simpa using h4) ((hK _ e1 e2).eq ?_);simp[h4,oQ,e3]
    ·have:=Ko hj;rw[Ie h4 h3]at this;cases this
theorem T.Nc (p:List aK)(k:Nat)(hk:k<p.length) :
 ∀(q:List aK) {d:Nat} {n:aj},Shape d n=true->Ev (λf=>G.ja f n q p (k:Int)) (oQ (Gf (λm=>ED m (p.getD k default)) n q)):=
 T.change (F:=λf a q=>G.ja f a q p (k:Int)) (C:=λf a=>G.jv f a p (k:Int)) (λn a q=>by simp only[G.ja]) (λd m hm=>T.jv p k hk hm)
theorem T.og {B D E:Nat}{n v:aj}{p:List aK}(hB:B+2<lim)(h:Fine B D n)(hp:xC B p)(hv:Fine B E v):Ev (λf=>G.og f n p v) (oQ (Vt n p v)):=by
 have hsm:=hp.sm (by omega);refine Ev.up ?_;simp only[G.og];unfold Vt;refine Ev.bind (T.aX (by omega) h) (Ev.ite (λe1=>?_) (λe1=>Ev.ret' (by rw[e1];rfl)));refine Ev.bind (T.iQ p hsm) (Ev.ite (λe2=>?_) (λe2=>Ev.ret' (by rw[e1,e2];rfl)));refine Ev.bind (T.aX (by omega) hv) (Ev.ite (λe3=>?_) (λe3=>Ev.ret' (by rw[e1,e2,e3];rfl)));rw[e1,e2,e3,if_pos (by rfl)];by_cases hp0:p=[]
 ·subst hp0;refine Ev.ct rfl (Ev.bind (T.aP (by omega) hv) (Ev.ret' ?_));unfold BM;simp[oN,e3,oQ]
 ·have hpos:0<p.length:=ny.2 hp0;simp only[JD hp0 hsm.1,ah];refine Ev.cf (by simpa using hp0) (Ev.chk (by omega) ?_);have hc:=T.Nb p (p.length-1) (by omega) hv (by omega) (Ef p) (lN e1);refine Ev.bind hc ?_;have hA:BM n p v=Gf (λm=>addN m (p.getD (p.length-1) default) v) n (Ef p):=by unfold BM;rw[if_neg hp0];rfl
  rw[<- hA];exact Ev.bind (T.ni (o:=BM n p v) (B:=B+1) (by omega) (λm hm=>QJ h hv hp.2 hm)) (Ev.ret _)
theorem T.uM {B D E:Nat}{n v:aj}{p:List aK}(hB:B+2<lim)(h:Fine B D n)(hp:xC B p)(hv:Fine B E v):Ev (λf=>G.uM f n p v) (oQ (aeg n p v)):=by have hsm:=hp.sm (by omega);refine Ev.up ?_;simp only[G.uM];unfold aeg;refine Ev.bind (T.aX (by omega) h) (Ev.ite (λe1=>?_) (λe1=>Ev.ret' (by rw[e1];rfl)));refine Ev.bind (T.iQ p hsm) (Ev.ite (λe2=>?_) (λe2=>Ev.ret' (by rw[e1,e2];rfl)));refine Ev.bind (T.aX (by omega) hv) (Ev.ite (λe3=>?_) (λe3=>Ev.ret' (by rw[e1,e2,e3];rfl)));rw[e1,e2,e3,if_pos (by rfl)];refine Ev.bind (T.Nh (by omega) hv p (lN e1)) ?_;exact Ev.bind (T.ni (B:=B) (by omega) (λm hm=>Ov h hv hm)) (Ev.ret _)
theorem T.lX {B D:Nat}{n:aj}{p:List aK}(hB:B+2<lim)(h:Fine B D n)(hp:xC B p):Ev (λf=>G.lX f n p) (oQ (abA n p)):=by
 have hsm:=hp.sm (by omega);refine Ev.up ?_;simp only[G.lX];unfold abA;refine Ev.bind (T.aX (by omega) h) (Ev.ite (λe1=>?_) (λe1=>Ev.ret' (by rw[e1];rfl)));refine Ev.bind (T.iQ p hsm) (Ev.ite (λe2=>?_) (λe2=>Ev.ret' (by rw[e1,e2];rfl)));rw[e1,e2,if_pos (by rfl)];by_cases hp0:p=[]
 ·subst hp0;exact Ev.ct rfl (Ev.ret _)
 ·have hpos:0<p.length:=ny.2 hp0;simp only[JD hp0 hsm.1,ah];refine Ev.cf (by simpa using hp0) (Ev.chk (by omega) ?_);have hA:Dn n p=Gf (λm=>ED m (p.getD (p.length-1) default)) n (Ef p):=by unfold Dn;rw[if_neg hp0];rfl
  rw[hA];exact Ev.bind (T.Nc p (p.length-1) (by omega) (Ef p) (lN e1)) (Ev.ret _)
theorem T.tN {B D:Nat}{n:aj}{p:List aK}(hB:B+2<lim)(h:Fine B D n)(hp:xC B p):Ev (λf=>G.tN f n p) (oQ (AtM n p)):=by
 have hsm:=hp.sm (by omega);refine Ev.up ?_;simp only[G.tN];unfold AtM;refine Ev.bind (T.aX (by omega) h) (Ev.ite (λe1=>?_) (λe1=>Ev.ret' (by rw[e1];rfl)));refine Ev.bind (T.iQ p hsm) (Ev.ite (λe2=>?_) (λe2=>Ev.ret' (by rw[e1,e2];rfl)));rw[e1,e2,if_pos (by rfl)];refine Ev.bind (T.kD p hsm.1 (lN e1)) ?_;cases ha:Jr n p with
 |none=>exact Ev.cf rfl (Ev.ret _)
 |some m=>exact Ev.ct rfl (Ev.bind (T.aP (by omega) (MP p h ha)) (Ev.ret _))
theorem T.slices_Equal_string.L1 {a b:List aK}(hl:a.length=b.length)(hb:a.length<big):∀(k i:Nat),i+k=a.length->Ev (λf=>G.slices_Equal_string.L1 f a b i) (decide (a.drop i=b.drop i)):=by
 unfold big at hb;intro k
 induction k with
 | zero=>intro i hi;refine Ev.up ?_;simp only[G.slices_Equal_string.L1];refine Ev.cf (by simp;omega) (Ev.ret' ?_);rw[ak (by omega),ak (by omega)];rfl
 | succ k ih=>
   intro i hi;refine Ev.up ?_;simp only[G.slices_Equal_string.L1,ah,dF (show i+1<9223372036854775808 by omega)];refine Ev.ct (by simp;omega) (Ev.chk (by omega) (Ev.chk (by omega) ?_));rw[dP (default:aK) (by omega:i<a.length),dP (default:aK) (by omega:i<b.length)];refine Ev.ite (λe=>(ih (i+1) (by omega)).eq ?_) (λe=>Ev.ret' ?_)
   ·rw[beq_iff_eq]at e;apply decide_eq_decide.2;rw[wU];exact⟨λh=>⟨e,h⟩,λh=>h.2⟩
   ·have e:a.getD i default≠b.getD i default:=by simpa using e
    symm
    apply decide_eq_false;rw[wU];exact λh=>e h.1
theorem T.slices_Equal_string {a b:List aK}(hb:a.length<big):Ev (λf=>G.slices_Equal_string f a b) (decide (a=b)):=by
 refine Ev.up ?_;simp only[G.slices_Equal_string];by_cases h:a.length=b.length
 ·exact Ev.cf (by simp;omega) (T.slices_Equal_string.L1 h hb a.length 0 (by omega))
 ·refine Ev.ct (by simp;omega) (Ev.ret' ?_)
  symm
  exact decide_eq_false (λe=>h (by rw[e]))
def SA (n:aj)(o p:List aK)(t:aj):Option aj:=if o <+: p then(if p.length=o.length then some n else none)else(Dn n o).bind λless=>BM less p t
theorem WN {o p:List aK}(h:o.length<=p.length):p.take o.length=o<->o <+: p:=by rw[List.prefix_iff_eq_take,eq_comm]
def ad9 (n:aj)(o p:List aK):Option aj:=if Val n&&PP o&&PP p then(Jr n o).bind λt=>(SA n o p t).filter Val else none
theorem T.tu {n:aj}{o p:List aK}(h:Val n=true)(ho:PP o=true)(hp:PP p=true):Ev (λf=>G.tu f n o p) (oQ (ad9 n o p)):=by
 have hb:(12:Nat)+2<lim:=by decide
 have fo:=vV ho;have fp:=vV hp;have so:=fo.sm (by decide);have sp:=fp.sm (by decide);refine Ev.up ?_;simp only[G.tu];unfold ad9;rw[h,ho,hp,if_pos (by rfl)];refine Ev.bind (T.tN hb (nZ h) fo) ?_;unfold AtM;rw[h,ho,if_pos (by rfl)];cases ha:Jr n o with
 |none=>exact Ev.cf rfl (Ev.ret _)
 | some t=>
   have hvt:=Oc h ha;refine Ev.ct rfl ?_;rw[gJ];have mv:¬o <+: p->Ev (λf=>iM (G.lX f n o) λv5=>cond v5.2 (iM (G.og f v5.1 p t) λv6=>some (v6.1,v6.2)) (some ((aj.mk 0 0 [] [] []),false))) (oQ ((SA n o p t).filter Val)):=by
    intro hn;unfold SA;rw[if_neg hn];refine Ev.bind (T.lX hb (nZ h) fo) ?_;unfold abA;rw[h,ho,if_pos (by rfl)];cases hr:Dn n o with
    |none=>exact Ev.cf rfl (Ev.ret _)
    | some less=>have hvl:=NJ h hr;have hA:=T.og (n:=less) hb (nZ hvl) fp (nZ hvt);have e:Vt less p t=(BM less p t).filter Val:=(by unfold Vt;rw[hvl,hp,hvt,if_pos (by rfl)]);rw[e]at hA;exact Ev.ct rfl (Ev.bind hA (Ev.ret _))
   refine Ev.bind (T.slices_Equal_string sp.1) (Ev.ite (λe=>?_) (λe=>?_))
   ·rw[decide_eq_true_eq]at e;subst e;refine Ev.bind (T.aP BU (nZ h)) (Ev.ret' ?_);unfold SA;rw[if_pos (List.prefix_refl _),if_pos rfl];simp[oN,h,oQ]
   ·have hne:p≠o:=(by simpa using e);refine Ev.ite (λe2=>?_) (λe2=>?_)
    ·have hlt:o.length<p.length:=(by simpa using e2);refine Ev.chk (by omega) (Ev.bind (T.slices_Equal_string (a:=p.take o.length) (by rw[dm];have:=sp.1;omega)) (Ev.ite (λe3=>Ev.ret' ?_) (λe3=>?_)))
     ·rw[decide_eq_true_eq,WN (by omega)]at e3;unfold SA;rw[if_pos e3,if_neg (by omega)];rfl
     ·rw[decide_eq_false_iff_not,WN (by omega)]at e3;exact mv e3
    ·have hge:¬o.length<p.length:=(by simpa using e2);refine mv λhpre=>?_;have h1:=hpre.length_le;exact hne (hpre.eq_of_length (by omega)).symm
theorem T.nI.L1 {p w:List aK}(hp:p.length<big)(hw:w.length<big):∀(k i:Nat),i+k=w.length->Ev (λf=>G.nI.L1 f p w i) (decide (w.drop i <+: p.drop i)):=by
 unfold big at hp hw;intro k
 induction k with
 | zero=>
   intro i hi;refine Ev.up ?_;simp only[G.nI.L1];refine Ev.cf (by simp;omega) (Ev.ret' ?_);rw[ak (by omega:w.length<=i)]
   symm
   exact decide_eq_true (List.nil_prefix)
 | succ k ih=>
   intro i hi;refine Ev.up ?_;simp only[G.nI.L1,ah,dF (show i+1<9223372036854775808 by omega)];refine Ev.ct (by simp;omega) ?_;rw[dP (default:aK) (by omega:i<w.length)];by_cases hpi:p.length<=i
   ·refine Ev.ct (by simpa using hpi) (Ev.ret' ?_);rw[ak hpi]
    symm
    exact decide_eq_false (by simp)
   ·refine Ev.cf (by simpa using hpi) (Ev.chk (by omega) (Ev.chk (by omega) ?_));rw[dP (default:aK) (by omega:i<p.length)];refine Ev.ite (λe=>(ih (i+1) (by omega)).eq ?_) (λe=>Ev.ret' ?_)
    ·rw[beq_iff_eq]at e;apply decide_eq_decide.2;rw[BG];exact⟨λh=>⟨e.symm,h⟩,λh=>h.2⟩
    ·have e:p.getD i default≠w.getD i default:=by simpa using e
     symm
     apply decide_eq_false;rw[BG];exact λh=>e h.1.symm
theorem T.nI {p w:List aK}(hp:p.length<big)(hw:w.length<big):Ev (λf=>G.nI f p w) (decide (w <+: p)):=by refine Ev.up ?_;simp only[G.nI];exact T.nI.L1 hp hw w.length 0 (by omega)
open Classical in
noncomputable def applyN (n:aj)(o:oz):Option aj:=
 if o.Kind=1 then BM n o.Path o.Value else if o.Kind=2 then Dn n o.Path else if o.Kind=3 then PK n o.Path o.Value
 else(Jr n (if o.Kind=6 then o.Path else o.From)).bind λt=>if o.Kind=6 then(if t=o.Value then some n else none)else if o.Kind=5 then BM n o.Path t else SA n o.From o.Path t
def KG (o:oz):Bool:=(decide (1<=o.Kind)&&decide (o.Kind<=6))&&PP o.Path&&PP o.From&&Val o.Value
noncomputable def EY (n:aj)(o:oz):Option aj:=if Val n&&KG o then(applyN n o).filter Val else none
def Said (q:aj×Bool)(o:Option aj):Prop:=(q.2=true->o=some q.1)/\(q.2=false->o=none)
theorem Io (o:Option aj):Said (oQ o) o:=by
 cases o with
 |none=>exact⟨λe=>(by cases e),λ_=>rfl⟩
 |some m=>exact⟨λ_=>rfl,λe=>(by cases e)⟩
structure JX (o:oz):Prop where
 k1:1<=o.Kind
 k6:o.Kind<=6
 path:PP o.Path=true
 from_:PP o.From=true
 val:Val o.Value=true
theorem vO {o:oz}(h:KG o=true):JX o:=by unfold KG at h;simp only[ai,decide_eq_true_eq]at h;exact⟨h.1.1.1.1,h.1.1.1.2,h.1.1.2,h.1.2,h.2⟩
theorem acf : (12:Nat)+1<lim:=by decide
theorem aag : (12:Nat)+2<lim:=by decide
theorem T.lq.K1 {n:aj}{o:oz}(h:Val n=true)(ho:JX o)(fr:List aK)(hf:PP fr=true)(h6:fr=if o.Kind=6 then o.Path else o.From)(hk:o.Kind≠1/\o.Kind≠2/\o.Kind≠3) :
 ∃q,Ev (λf=>G.lq.K1 f n o fr) q/\Said q (applyN n o):=by
 have sp:=(vV ho.path).sm (by decide);have sf:=(vV ho.from_).sm (by decide);have sr:=(vV hf).sm (by decide);have hn:=nZ h;have hat:=T.tZ fr (by decide) sr.1 hn;have hN:applyN n o=(Jr n fr).bind λt=>@ite _ (o.Kind=6) _ (@ite _ (t=o.Value) (Classical.propDecidable _) (some n) none) (if o.Kind=5 then BM n o.Path t else SA n o.From o.Path t):=by unfold applyN;rw[if_neg hk.1,if_neg hk.2.1,if_neg hk.2.2,h6]
 rw[hN];cases ha:Jr n fr with
 | none=>
   rw[ha]at hat
   refine⟨(ve,false),Ev.up ?_,⟨λe=>(by cases e),λ_=>rfl⟩⟩;simp only[G.lq.K1];exact Ev.bind hat (Ev.cf rfl (Ev.ret _))
 | some t=>
   rw[ha]at hat
   have ht:=nZ (Oc h ha);rw[gJ];by_cases k6:o.Kind=6
   ·obtain⟨v,gs,hv⟩:=T.wC (lN (Oc h ha)) (lN ho.val);refine⟨(n,v),Ev.up ?_,?_⟩
    ·simp only[G.lq.K1];exact Ev.bind hat (Ev.ct rfl (Ev.ct (by simpa using k6) (Ev.bind gs (Ev.ret _))))
    ·rw[if_pos k6];refine⟨λe=>if_pos (hv.1 e),λe=>if_neg λe2=>?_⟩;have:=hv.2 e2;rw[show v=false from e]at this;cases this
   ·rw[if_neg k6];by_cases k5:o.Kind=5
    ·rw[if_pos k5];refine⟨_,Ev.up ?_,Io _⟩;simp only[G.lq.K1];exact Ev.bind hat (Ev.ct rfl (Ev.cf (by simpa using k6) (Ev.ct (by simpa using k5) (Ev.bind (T.uG o.Path acf sp.1 (vV ho.path).2 hn ht) (Ev.ret _)))))
    ·rw[if_neg k5];unfold SA;have hbg:=T.nI sp.1 sf.1;by_cases hpre:o.From <+: o.Path
     ·rw[if_pos hpre];refine⟨(n,(o.Path.length:Int)==(o.From.length:Int)),Ev.up ?_,?_⟩
      ·simp only[G.lq.K1];exact Ev.bind hat (Ev.ct rfl (Ev.cf (by simpa using k6) (Ev.cf (by simpa using k5) (Ev.bind hbg (Ev.ct (by simpa using hpre) (Ev.bind (T.aY BU hn) (Ev.ret _)))))))
      ·rw[ilen];refine⟨λe=>if_pos (by simpa using e),λe=>if_neg (by simpa using e)⟩
     ·rw[if_neg hpre];have hr:=T.kM (n:=n) o.From acf sf.1 hn;cases hre:Dn n o.From with
      | none=>rw[hre]at hr;refine⟨(ve,false),Ev.up ?_,⟨λe=>(by cases e),λ_=>rfl⟩⟩;simp only[G.lq.K1];exact Ev.bind hat (Ev.ct rfl (Ev.cf (by simpa using k6) (Ev.cf (by simpa using k5) (Ev.bind hbg (Ev.cf (by simpa using hpre) (Ev.bind hr (Ev.cf rfl (Ev.ret _))))))))
      | some less=>rw[hre]at hr;have hl:=nZ (NJ h hre);refine⟨_,Ev.up ?_,Io _⟩;simp only[G.lq.K1];exact Ev.bind hat (Ev.ct rfl (Ev.cf (by simpa using k6) (Ev.cf (by simpa using k5) (Ev.bind hbg (Ev.cf (by simpa using hpre) (Ev.bind hr (Ev.ct rfl (Ev.bind (T.uG (n:=less) o.Path acf sp.1 (vV ho.path).2 hl ht) (Ev.ret _)))))))))
theorem T.lq {n:aj}{o:oz}(h:Val n=true)(ho:JX o):∃q,Ev (λf=>G.lq f n o) q/\Said q (applyN n o):=by
 have sp:=(vV ho.path).sm (by decide);have hn:=nZ h;by_cases k1:o.Kind=1
 ·refine⟨_,Ev.up ?_,Io _⟩;simp only[G.lq];refine Ev.ct (by simpa using k1) ?_;have:applyN n o=BM n o.Path o.Value:=by unfold applyN;rw[if_pos k1]
  rw[this];exact Ev.bind (T.uG o.Path acf sp.1 (vV ho.path).2 hn (nZ ho.val)) (Ev.ret _)
 by_cases k2:o.Kind=2
 ·refine⟨_,Ev.up ?_,Io _⟩;simp only[G.lq];refine Ev.cf (by simpa using k1) (Ev.ct (by simpa using k2) ?_);have:applyN n o=Dn n o.Path:=by unfold applyN;rw[if_neg k1,if_pos k2]
  rw[this];exact Ev.bind (T.kM o.Path acf sp.1 hn) (Ev.ret _)
 by_cases k3:o.Kind=3
 ·refine⟨_,Ev.up ?_,Io _⟩;simp only[G.lq];refine Ev.cf (by simpa using k1) (Ev.cf (by simpa using k2) (Ev.ct (by simpa using k3) ?_));have:applyN n o=PK n o.Path o.Value:=by unfold applyN;rw[if_neg k1,if_neg k2,if_pos k3]
  rw[this];exact Ev.bind (T.o9 (by decide) (nZ ho.val) o.Path sp.1 hn) (Ev.ret _)
 by_cases k6:o.Kind=6
 ·obtain⟨q,g,hq⟩:=T.lq.K1 h ho o.Path ho.path (by rw[if_pos k6]) ⟨k1,k2,k3⟩;refine⟨q,Ev.up ?_,hq⟩;simp only[G.lq];exact Ev.cf (by simpa using k1) (Ev.cf (by simpa using k2) (Ev.cf (by simpa using k3) (Ev.ct (by simpa using k6) g)))
 ·obtain⟨q,g,hq⟩:=T.lq.K1 h ho o.From ho.from_ (by rw[if_neg k6]) ⟨k1,k2,k3⟩;refine⟨q,Ev.up ?_,hq⟩;simp only[G.lq];exact Ev.cf (by simpa using k1) (Ev.cf (by simpa using k2) (Ev.cf (by simpa using k3) (Ev.cf (by simpa using k6) g)))
theorem Ou {n v m:aj}{p:List aK}(hn:Val n=true)(hv:Val v=true)(hp:PP p=true)(e:BM n p v=some m):Fine 13 15 m:=
 QJ (nZ hn) (nZ hv) (vV hp).2 e
theorem X4 {n m:aj}{o:oz}(h:Val n=true)(ho:JX o)(e:applyN n o=some m):Fine 13 15 m:=by
 unfold applyN at e;by_cases k1:o.Kind=1
 ·rw[if_pos k1]at e;exact Ou h ho.val ho.path e
 rw[if_neg k1]at e;by_cases k2:o.Kind=2
 ·rw[if_pos k2]at e;exact(nZ (NJ h e)).mono (by omega) (by omega)
 rw[if_neg k2]at e;by_cases k3:o.Kind=3
 ·rw[if_pos k3]at e;exact(Ov (nZ h) (nZ ho.val) e).mono (by omega) (by omega)
 rw[if_neg k3]at e;cases ha:Jr n (if o.Kind=6 then o.Path else o.From)with
 |none=>rw[ha]at e;cases e
 | some t=>
   have ht:=Oc h ha;rw[ha,gJ]at e;by_cases k6:o.Kind=6
   ·rw[if_pos k6]at e;split at e
    ·cases e;exact(nZ h).mono (by omega) (by omega)
    ·cases e
   rw[if_neg k6]at e;by_cases k5:o.Kind=5
   ·rw[if_pos k5]at e;exact Ou h ht ho.path e
   rw[if_neg k5]at e;unfold SA at e;split at e
   ·split at e
    ·cases e;exact(nZ h).mono (by omega) (by omega)
    ·cases e
   ·cases hr:Dn n o.From with
    |none=>rw[hr]at e;cases e
    |some less=>rw[hr,gJ]at e;exact Ou (NJ h hr) ht ho.path e
theorem T.Rx {B D:Nat}{q:aj×Bool}{o:Option aj}(hB:B<=lim)(hq:Said q o)(h:∀m,o=some m->Fine B D m):Ev (λf=>G.pR f q.1 q.2) (oQ (o.filter Val)):=by
 obtain⟨m,b⟩:=q;cases b with
 | false=>rw[hq.2 rfl];refine Ev.up ?_;simp only[G.pR];exact Ev.cf rfl (Ev.ret _)
 | true=>have e:=hq.1 rfl;subst e;exact T.pR (o:=some m) hB h
theorem T.qi {n:aj}{o:oz}(h:Val n=true)(ho:JX o):Ev (λf=>G.qi f n o) (oQ ((applyN n o).filter Val)):=by
 obtain⟨q,g,hq⟩:=T.lq h ho;have hc:=T.Rx (B:=13) (D:=15) (by decide) hq (λm hm=>X4 h ho hm);refine Ev.up ?_;simp only[G.qi];refine Ev.bind g (Ev.bind hc ?_);cases hm:(applyN n o).filter Val with
 |none=>exact Ev.cf rfl (Ev.ret _)
 | some m=>
   have hv:Val m=true:=by have:=wY.1 hm;exact this.2
   exact Ev.ct rfl (Ev.bind (T.aY BU (nZ hv)) (Ev.ret _))
structure O1 (B D:Nat)(o:oz):Prop where
 path:xC B o.Path
 from_:xC B o.From
 val:Fine B D o.Value
theorem T.oh {B D:Nat}{o:oz}(hB:B<=lim)(h:O1 B D o):Ev (λf=>G.oh f o) (KG o):=by refine Ev.up ?_;simp only[G.oh];unfold KG;refine Ev.bind (T.fZ _ _ _) (Ev.ite (λe1=>?_) (λe1=>Ev.ret' (by rw[e1];rfl)));refine Ev.bind (T.jB _ (h.path.sm hB)) (Ev.ite (λe2=>?_) (λe2=>Ev.ret' (by rw[e1,e2];rfl)));refine Ev.bind (T.jB _ (h.from_.sm hB)) (Ev.ite (λe3=>?_) (λe3=>Ev.ret' (by rw[e1,e2,e3];rfl)));exact Ev.bind (T.fB hB h.val) (Ev.ret' (by rw[e1,e2,e3];rfl))
theorem T.rW {B D:Nat}{o:oz}(hB:B<=lim)(h:O1 B D o):Ev (λf=>G.rW f o) (KG o):=by refine Ev.up ?_;simp only[G.rW];unfold KG;refine Ev.ite (λe0=>?_) (λe0=>Ev.ret' (by rw[e0];rfl));refine Ev.ite (λe1=>?_) (λe1=>Ev.ret' (by rw[e0,e1];rfl));refine Ev.bind (T.iQ _ (h.path.sm hB)) (Ev.ite (λe2=>?_) (λe2=>Ev.ret' (by rw[e0,e1,e2];rfl)));refine Ev.bind (T.iQ _ (h.from_.sm hB)) (Ev.ite (λe3=>?_) (λe3=>Ev.ret' (by rw[e0,e1,e2,e3];rfl)));exact Ev.bind (T.aX hB h.val) (Ev.ret' (by rw[e0,e1,e2,e3];rfl))
theorem T.qV {n v:aj}{p:List aK}(h:Val n=true)(hp:PP p=true)(hv:Val v=true) :
 ∃o,Ev (λf=>G.qV f n p v) (oQ o)/\(∀t,Jr n p=some t->t=v->o=some n)/\(∀t,Jr n p=some t->t≠v->o=none)/\(Jr n p=none->o=none):=by
 have sp:=(vV hp).sm (by decide);have hf:=T.kD p sp.1 (lN h);cases ha:Jr n p with
 | none=>rw[ha]at hf;refine⟨none,Ev.up ?_,(λt e=>by cases e),(λt e=>by cases e),λ_=>rfl⟩;simp only[G.qV];exact Ev.bind hf (Ev.cf rfl (Ev.ret _))
 | some t=>
   rw[ha]at hf;obtain⟨b,gs,hb⟩:=T.tC (lN (Oc h ha)) (lN hv);cases b with
   | true=>
     refine⟨some n,Ev.up ?_,λt' _ _=>rfl,λt' e hne=>?_,(λe=>by cases e)⟩
     ·simp only[G.qV];exact Ev.bind hf (Ev.ct rfl (Ev.bind gs (Ev.ct rfl (Ev.bind (T.aP BU (nZ h)) (Ev.ret _)))))
     ·cases e;exact absurd (hb.1 rfl) hne
   | false=>
     refine⟨none,Ev.up ?_,λt' e he=>?_,λt' _ _=>rfl,(λe=>by cases e)⟩
     ·simp only[G.qV];exact Ev.bind hf (Ev.ct rfl (Ev.bind gs (Ev.cf rfl (Ev.ret _))))
     ·cases e;have:=hb.2 he;cases this
theorem O7 {n:aj}(h:Val n=true):(some n).filter Val=some n:=by simp[oN,h]
theorem T.uI {B D:Nat}{n:aj}{o:oz}(hB:B+2<lim)(h:Fine B D n)(ho:O1 B D o):Ev (λf=>G.uI f n o) (oQ (EY n o)):=by
 refine Ev.up ?_;simp only[G.uI];unfold EY;refine Ev.bind (T.aX (by omega) h) (Ev.ite (λe1=>?_) (λe1=>Ev.ret' (by rw[e1];rfl)));refine Ev.bind (T.rW (by omega) ho) (Ev.ite (λe2=>?_) (λe2=>Ev.ret' (by rw[e1,e2];rfl)));rw[e1,e2,if_pos (by rfl)];have fo:=vO e2;have hn:=nZ e1;by_cases k1:o.Kind=1
 ·refine Ev.ct (by simpa using k1) ?_;have e:Vt n o.Path o.Value=(applyN n o).filter Val:=by unfold Vt applyN;rw[e1,fo.path,fo.val,if_pos (by rfl),if_pos k1]
  rw[<- e];exact Ev.bind (T.og aag hn (vV fo.path) (nZ fo.val)) (Ev.ret _)
 refine Ev.cf (by simpa using k1) ?_;by_cases k2:o.Kind=2
 ·refine Ev.ct (by simpa using k2) ?_;have e:abA n o.Path=(applyN n o).filter Val:=by
   unfold abA applyN;rw[e1,fo.path,if_pos (by rfl),if_neg k1,if_pos k2];cases hr:Dn n o.Path with
   |none=>rfl
   |some m=>exact(O7 (NJ e1 hr)).symm
  rw[<- e];exact Ev.bind (T.lX aag hn (vV fo.path)) (Ev.ret _)
 refine Ev.cf (by simpa using k2) ?_;by_cases k3:o.Kind=3
 ·refine Ev.ct (by simpa using k3) ?_;have e:aeg n o.Path o.Value=(applyN n o).filter Val:=by unfold aeg applyN;rw[e1,fo.path,fo.val,if_pos (by rfl),if_neg k1,if_neg k2,if_pos k3]
  rw[<- e];exact Ev.bind (T.uM aag hn (vV fo.path) (nZ fo.val)) (Ev.ret _)
 refine Ev.cf (by simpa using k3) ?_;have hN:applyN n o=(Jr n (if o.Kind=6 then o.Path else o.From)).bind λt=>@ite _ (o.Kind=6) _ (@ite _ (t=o.Value) (Classical.propDecidable _) (some n) none) (if o.Kind=5 then BM n o.Path t else SA n o.From o.Path t):=by unfold applyN;rw[if_neg k1,if_neg k2,if_neg k3]
 by_cases k4:o.Kind=4
 ·refine Ev.ct (by simpa using k4) ?_;have k6:¬o.Kind=6:=by omega
  have k5:¬o.Kind=5:=by omega
  have e:ad9 n o.From o.Path=(applyN n o).filter Val:=by
   unfold ad9;rw[e1,fo.path,fo.from_,if_pos (by rfl),hN,if_neg k6];cases ha:Jr n o.From with
   |none=>rfl
   |some t=>simp only[gJ,if_neg k6,if_neg k5]
  rw[<- e];exact Ev.bind (T.tu e1 fo.from_ fo.path) (Ev.ret _)
 refine Ev.cf (by simpa using k4) ?_;by_cases k5:o.Kind=5
 ·refine Ev.ct (by simpa using k5) ?_;have k6:¬o.Kind=6:=by omega
  refine Ev.bind (T.tN aag hn (vV fo.from_)) ?_;have eA:AtM n o.From=Jr n o.From:=by unfold AtM;rw[e1,fo.from_,if_pos (by rfl)]
  rw[eA,hN,if_neg k6];cases ha:Jr n o.From with
  |none=>exact Ev.cf rfl (Ev.ret _)
  | some t=>have ht:=Oc e1 ha;have hA:=T.og (v:=t) aag hn (vV fo.path) (nZ ht);have e:Vt n o.Path t=(BM n o.Path t).filter Val:=(by unfold Vt;rw[e1,fo.path,ht,if_pos (by rfl)]);rw[e]at hA;simp only[gJ,if_neg k6,if_pos k5];exact Ev.ct rfl (Ev.bind hA (Ev.ret _))
 refine Ev.cf (by simpa using k5) ?_;have k6:o.Kind=6:=by have:=fo.k1;have:=fo.k6;omega
 obtain⟨q,g,h1,h2,h3⟩:=T.qV e1 fo.path fo.val;refine(show Ev _ (oQ q)from Ev.bind g (Ev.ret _)).eq (congrArg oQ ?_);rw[hN,if_pos k6];cases ha:Jr n o.Path with
 |none=>rw[h3 ha];rfl
 | some t=>
   simp only[gJ,if_pos k6];by_cases ht:t=o.Value
   ·rw[h1 t ha ht,if_pos ht,O7 e1]
   ·rw[h2 t ha ht,if_neg ht];rfl
structure Hu (K:Nat)(r:ReaderT):Prop where
 len:r.b.length<=2000
 bytes:∀x,x∈r.b->0<=x/\x<256
 lo:0<=r.p
 hi:r.p<=(K:Int)
theorem Hu.mono {K L:Nat}{r:ReaderT}(h:Hu K r)(hk:K<=L):Hu L r:=⟨h.len,h.bytes,h.lo,by have:=h.hi;omega⟩
theorem ReaderT.eta (r:ReaderT):ReaderT.mk r.b r.p=r:=rfl
theorem ags {X Y:Nat}(hX:X<4611686018427387904)(hY:Y<4611686018427387904) :
 ∃z:Nat,af .i64 ((pG (fP .i64) (X:Int) ^^^ pG (fP .i64) (Y:Int)).toNat:Int)=(z:Int):=by
 have e:((pG (fP .i64) (X:Int) ^^^ pG (fP .i64) (Y:Int)).toNat)=X ^^^ Y:=by
  rw[BitVec.toNat_xor];show(pG 64 (X:Int)).toNat ^^^ (pG 64 (Y:Int)).toNat=_;rw[BitVec.toNat_ofInt,BitVec.toNat_ofInt]
  congr 1<;>omega
 have hlt:X ^^^ Y<2^62:=Nat.xor_lt_two_pow (by omega) (by omega);exact⟨X ^^^ Y,by rw[e];exact wrapN rfl (by omega)⟩
theorem FI (a b:Nat):Int.tmod (a:Int) (b:Int)=((a%b:Nat):Int):=by rw[Int.tmod_eq_emod_of_nonneg (by omega)];exact(Int.natCast_emod a b).symm
theorem Iw (a b:Nat):lJ (a:Int) (b:Int)=((a/b:Nat):Int):=by rw[Int.tdiv_eq_ediv_of_nonneg (by omega)];exact(Int.natCast_ediv a b).symm
theorem T.pick {K m:Nat}{r:ReaderT}(hr:Hu K r)(hK:K<=1000000000)(hm:0<m)(hm2:m<=1000000000) :
 ∃(v:Nat) (r':ReaderT),Ev (λf=>G.jS f r (m:Int)) ((v:Int),r')/\v<m/\Hu (K+1) r':=by
 obtain⟨b,p⟩:=r;obtain⟨h1,h2,h3,h4⟩:=hr;simp only at h1 h2 h3 h4;obtain⟨k,rfl⟩:∃k:Nat,p=k:=⟨p.toNat,by omega⟩;have hr':Hu (K+1) (ReaderT.mk b ((k+1:Nat):Int)):=⟨h1,h2,by show(0:Int)<=((k+1:Nat):Int);omega,by show((k+1:Nat):Int)<=_;omega⟩;have w1:af .i64 ((k:Int)+1)=((k+1:Nat):Int):=dF (by omega);have w2:af .i64 (((k+1:Nat):Int)-1)=(k:Int):=wrapN (by omega) (by omega);by_cases hb:b.length=0
 ·refine⟨0,_,Ev.up ?_,hm,hr'⟩;simp only[G.jS,w1];exact Ev.cf (by simp;omega) (Ev.ct (by simpa using hb) (Ev.ret _))
 have byte:∀i:Nat,i<b.length->∃c:Nat,b.getD i default=(c:Int)/\c<256:=λi hi=>by rw[gu _ hi];have:=h2 _ (dJ hi);exact⟨b[i].toNat,by omega,by omega⟩
 by_cases hk:k<b.length
 ·obtain⟨c,hc,hc2⟩:=byte k hk;refine⟨c%m,_,Ev.up ?_,tH _ hm,hr'⟩;simp only[G.jS,w1,w2,ah,hc,wrapN (x:=(c:Int)) (m:=c) rfl (by omega),FI];exact Ev.cf (by simp;omega) (Ev.cf (by simpa using hb) (Ev.ct (by simpa using hk) (Ev.chk (by omega) (Ev.chk (by omega) (Ev.ret _)))))
 ·have hlt:k%b.length<b.length:=tH _ (by omega);have hlt2:(k*7+3)%b.length<b.length:=tH _ (by omega);obtain⟨c,hc,hc2⟩:=byte _ hlt;obtain⟨d,hd,hd2⟩:=byte _ hlt2;have hdiv:k/b.length<=k:=Nat.div_le_self _ _;have w3:af .i64 ((k:Int)*7)=((k*7:Nat):Int):=wrapN (by omega) (by omega);have w4:af .i64 (((k*7:Nat):Int)+3)=((k*7+3:Nat):Int):=wrapN (by omega) (by omega);have w5:af .i64 (c:Int)=c:=wrapN rfl (by omega);have w6:af .i64 (d:Int)=d:=wrapN rfl (by omega);have w7:af .i64 ((c:Int)*131)=((c*131:Nat):Int):=wrapN (by omega) (by omega);have w8:af .i64 ((d:Int)*1117)=((d*1117:Nat):Int):=wrapN (by omega) (by omega);have w9:af .i64 (((c*131:Nat):Int)+((d*1117:Nat):Int))=((c*131+d*1117:Nat):Int):=wrapN (by omega) (by omega);have w10:af .i64 ((k:Int)*29)=((k*29:Nat):Int):=wrapN (by omega) (by omega);have w11:af .i64 (((c*131+d*1117:Nat):Int)+((k*29:Nat):Int))=((c*131+d*1117+k*29:Nat):Int):=wrapN (by omega) (by omega);have w12:af .i64 ((k/b.length:Nat):Int)=((k/b.length:Nat):Int):=wrapN rfl (by omega);have w13:af .i64 (((k/b.length:Nat):Int)*53)=((k/b.length*53:Nat):Int):=wrapN (by omega) (by omega);have w14:af .i64 (((c*131+d*1117+k*29:Nat):Int)+((k/b.length*53:Nat):Int))=((c*131+d*1117+k*29+k/b.length*53:Nat):Int):=wrapN (by omega) (by omega);have e64:(64:Int)=((64:Nat):Int):=rfl;have w15:af .i64 (lJ ((c*131+d*1117+k*29+k/b.length*53:Nat):Int) 64)=(((c*131+d*1117+k*29+k/b.length*53)/64:Nat):Int):=by rw[e64,Iw];exact wrapN rfl (by omega)
  obtain⟨z,hz⟩:=ags (X:=c*131+d*1117+k*29+k/b.length*53) (Y:=(c*131+d*1117+k*29+k/b.length*53)/64) (by omega) (by omega);refine⟨z%m,_,Ev.up ?_,tH _ hm,hr'⟩;simp only[G.jS,w1,w2,w3,w4,FI,Iw,ah,hc,hd,w5,w6,w7,w8,w9,w10,w11,w12,w13,w14,w15,hz];exact Ev.cf (by simp;omega) (Ev.cf (by simpa using hb) (Ev.cf (by simp;omega) (Ev.chk (by omega) (Ev.chk (by omega) (Ev.chk (by omega) (Ev.chk (by omega) (Ev.chk (by omega) (Ev.chk (by omega) (Ev.ret _)))))))))
theorem T.one {K:Nat}{r:ReaderT}(hr:Hu K r)(hK:K<=1000000000)(l:List Int)(h0:0<l.length)(h1:l.length<=1000) :
 ∃x r',Ev (λf=>G.rC f r l) (x,r')/\x∈l/\Hu (K+1) r':=by
 obtain⟨v,r',g,hv,hr'⟩:=T.pick (m:=l.length) hr hK h0 (by omega);refine⟨l.getD v default,r',Ev.up ?_,by rw[gu _ hv];exact dJ _,hr'⟩;simp only[G.rC];refine Ev.bind g (Ev.chk (by simp only;omega) (Ev.ret' ?_));rw[ah]
theorem T.of {K:Nat}{r:ReaderT}(hr:Hu K r)(hK:K<=1000000000)(l:List aK)(h0:0<l.length)(h1:l.length<=1000) :
 ∃x r',Ev (λf=>G.nY f r l) (x,r')/\x∈l/\Hu (K+1) r':=by
 obtain⟨v,r',g,hv,hr'⟩:=T.pick (m:=l.length) hr hK h0 (by omega);refine⟨l.getD v default,r',Ev.up ?_,by rw[gu _ hv];exact dJ _,hr'⟩;simp only[G.nY];refine Ev.bind g (Ev.chk (by simp only;omega) (Ev.ret' ?_));rw[ah]
theorem ael {l:List aK}{x:aK}{m:Nat}(h:l.all (λs=>decide (s.length<=m))=true)(hx:x∈l):x.length<=m:=by have:=aZ.1 h x hx;simpa using this
def stp : Nat->Nat
 |0=>4
 |d+1=>20+6*stp d
section
def Tot {α:Type}(Q:α->Prop)(F:Nat->Option α):Prop:=∃x,Ev F x/\Q x
section
variable {α β:Type} {Q:α->Prop} {F F':Nat->Option α}
theorem Tot.up (h:Tot Q (λn=>F (n+1))):Tot Q F:=let ⟨x,g,q⟩:=h;⟨x,Ev.up g,q⟩
theorem Tot.ret {x:α}(h:Q x):Tot Q (λ_=>some x):=⟨x,Ev.ret x,h⟩
theorem Tot.bind {P:β->Prop}{h:Nat->Option β}{k:Nat->β->Option α}(h1:Tot P h)(h2:∀x,P x->Tot Q (λn=>k n x)):Tot Q (λn=>iM (h n) (k n)):=by obtain⟨x,g,p⟩:=h1;obtain⟨y,g',q⟩:=h2 x p;exact⟨y,Ev.bind g g',q⟩
theorem Tot.tK {a:β}{h:Nat->Option β}{k:Nat->β->Option α}(h1:Ev h a)(h2:Tot Q (λn=>k n a)):Tot Q (λn=>iM (h n) (k n)):=by obtain⟨y,g',q⟩:=h2;exact⟨y,Ev.bind h1 g',q⟩
theorem Tot.chk {p:Prop}[Decidable p](hp:p)(h:Tot Q F):Tot Q (λn=>Ab.chk p (F n)):=let ⟨x,g,q⟩:=h;⟨x,Ev.chk hp g,q⟩
theorem Tot.ite {c:Bool}(h:c=true->Tot Q F)(h':c=false->Tot Q F'):Tot Q (λn=>cond c (F n) (F' n)):=by
 cases c
 ·exact h' rfl
 ·exact h rfl
theorem Tot.mono {P:α->Prop}(h:Tot P F)(hq:∀x,P x->Q x):Tot Q F:=let ⟨x,g,q⟩:=h;⟨x,g,hq x q⟩
end
abbrev Dr {α:Type}(L:Nat)(Q:α->Prop)(F:Nat->Option (α×ReaderT)):Prop:=Tot (λx=>Q x.1/\Hu L x.2) F
theorem D.pick {K:Nat}{r:ReaderT}(hr:Hu K r)(hK:K<=1000000000){M:Int}{m:Nat}(hM:M=(m:Int))(h0:0<m)(h1:m<=1000000000) :
 Dr (K+1) (λx:Int=>∃v:Nat,x=(v:Int)/\v<m) (λf=>G.jS f r M):=by
 subst hM;obtain⟨v,r',g,hv,hr'⟩:=T.pick hr hK h0 h1;exact⟨_,g,⟨v,rfl,hv⟩,hr'⟩
theorem D.one {K:Nat}{r:ReaderT}(hr:Hu K r)(hK:K<=1000000000)(l:List Int)(h0:0<l.length)(h1:l.length<=1000):Dr (K+1) (λx:Int=>x∈l) (λf=>G.rC f r l):=by obtain⟨v,r',g,hv,hr'⟩:=T.one hr hK l h0 h1;exact⟨_,g,hv,hr'⟩
theorem D.of {K m:Nat}{r:ReaderT}(hr:Hu K r)(hK:K<=1000000000)(l:List aK)(h0:0<l.length)(h1:l.length<=1000)(hm:l.all (λs=>decide (s.length<=m))=true) :
 Dr (K+1) (λx:aK=>x.length<=m) (λf=>G.nY f r l):=by
 obtain⟨v,r',g,hv,hr'⟩:=T.of hr hK l h0 h1;exact⟨_,g,ael hm hv,hr'⟩
abbrev abw (B:Nat)(n:aj):Prop:=∃D,Fine B D n
theorem zQ : 60<=lim:=by decide
theorem OX : Val ve=true:=by decide
end
abbrev afD (o:oz):Prop:=∃E,O1 60 E o
theorem xC.mono {B C:Nat}{p:List aK}(h:xC B p)(hB:B<=C):xC C p:=⟨iP h.1 hB,λs hs=>iP (h.2 s hs) hB⟩
def Bytes (l:List Int):Prop:=∀z,z∈l->0<=z/\z<256
theorem D.aaD {c:List Int}(hc:Bytes c)(hl:c.length<=1048576):Tot (Hu 0) (λf=>G.uo f c):=by
 refine Tot.up ?_;simp only[G.uo];refine Tot.ite (λe=>?_) (λe=>?_)
 ·have h:2000<c.length:=by simp at e;omega
  exact Tot.chk (by omega) (Tot.ret ⟨by show(c.take 2000).length<=2000;simp;omega,λz hz=>hc z (dS hz),Ea _,Ea _⟩)
 ·have h:c.length<=2000:=by simp at e;omega
  exact Tot.ret ⟨h,hc,Ea _,Ea _⟩
structure NO (n:aj)(o:oz):Prop where
 node:∃E,Fine 60 E n
 op:∃E,O1 60 E o
theorem NO.fine {n:aj}{o:oz}(h:NO n o):∃E,Fine 60 E n/\O1 60 E o:=by obtain⟨⟨E,hn⟩,⟨F,ho⟩⟩:=h;exact⟨max E F,hn.mono (ax _) (Nat.le_max_left _ _),ho.path,ho.from_,ho.val.mono (ax _) (Nat.le_max_right _ _)⟩
theorem zO {n:aj}(h:Val n=true):Fine 60 5 n:=(nZ h).mono (by omega) (ax _)
structure ad7 (n:aj)(o:oz)(m:aj):Prop where
 vn:Val n=true
 vo:KG o=true
 app:applyN n o=some m
 vm:Val m=true
theorem applied {n m:aj}{o:oz}(h:EY n o=some m):ad7 n o m:=by
 unfold EY at h;split at h
 ·rename_i hv;simp only[ai]at hv;obtain⟨h1,h2⟩:=wY.1 h;exact⟨hv.1,hv.2,h1,h2⟩
 ·cases h
theorem ZJ {n:aj}{o:oz}(hn:Val n=true)(ho:KG o=true):EY n o=(applyN n o).filter Val:=by unfold EY;rw[hn,ho];rfl
theorem evd {p:Prop}(x:p:=by
 repeat' first
 |assumption
 |exact Ev.ret _
 |refine Ev.ct rfl ?_
 |refine Ev.cf rfl ?_
 |refine Ev.bind (by assumption) ?_
 |refine Ev.ite (λ_=>?_) (λ_=>?_)):p:=x
theorem oz.eta (o:oz):oz.mk o.Kind o.Path o.From o.Value=o:=rfl
theorem acZ {o:oz}(h:KG o=true):O1 12 5 o:=by have f:=vO h;exact⟨vV f.path,vV f.from_,nZ f.val⟩
open Classical in
noncomputable def OT : aj->List oz->Option aj
 |n,[]=>some n
 | n,o::r=>match EY n o with
   |some m=>OT m r
   |none=>none
noncomputable def MN : aj->List oz->Nat
 |_,[]=>0
 | n,o::r=>match EY n o with
   |some m=>MN m r+1
   |none=>0
def FM (l:List oz):Bool:=l.all KG&&decide (l.length<=12)
noncomputable def Jm (n:aj)(l:List oz):Option aj:=if Val n&&FM l then OT n l else none
theorem adf {l:List oz} : ∀{n m:aj},Val n=true->OT n l=some m->Val m=true:=by
 induction l with
 |nil=>intro n m hn h;cases h;exact hn
 | cons o r ih=>
   intro n m hn h;rw[OT]at h;cases ha:EY n o with
   |none=>rw[ha]at h;cases h
   |some k=>rw[ha]at h;exact ih (applied ha).vm h
theorem Z8 {l:List oz} : ∀{n:aj},MN n l=l.length<->(OT n l).isSome=true:=by
 induction l with
 |nil=>intro n;simp[MN,OT]
 | cons o l ih=>
   intro n;rw[MN,OT];cases EY n o with
   |none=>simp
   |some k=>simp only[bH,Nat.add_right_cancel_iff];exact ih
theorem Q8 {l:List oz}(h:FM l=true):(∀o,o∈l->KG o=true)/\l.length<=12:=by unfold FM at h;simp only[ai,decide_eq_true_eq,aZ]at h;exact h
def KE (l:List oz):Prop:=l.length<=1000/\∀o,o∈l->afD o
theorem aab {l:List oz}(h:FM l=true):KE l:=by obtain⟨h1,h2⟩:=Q8 h;exact⟨by omega,λo ho=>⟨5,(vV (vO (h1 o ho)).path).mono (by omega),(vV (vO (h1 o ho)).from_).mono (by omega),(nZ (vO (h1 o ho)).val).mono (by omega) (ax _)⟩⟩
theorem getD_mem {α:Type}{l:List α}{i:Nat}(d:α)(h:i<l.length):l.getD i d∈l:=by rw[gu d h];exact dJ h
theorem T.fH.L1 {l:List oz}(h:KE l):∀(k i:Nat),i+k=l.length->Ev (λf=>G.fH.L1 f l i) ((l.drop i).all KG):=by
 obtain⟨hl,ho⟩:=h;intro k
 induction k with
 | zero=>intro i hi;refine Ev.up ?_;simp only[G.fH.L1];refine Ev.cf (by simp;omega) (Ev.ret' ?_);rw[ak (by omega)];rfl
 | succ k ih=>
   intro i hi;have hlt:i<l.length:=(by omega);refine Ev.up ?_;simp only[G.fH.L1,ah,oz.eta,dF (show i+1<9223372036854775808 by omega)];obtain⟨E,hf⟩:=ho _ (getD_mem default hlt);refine Ev.ct (by simpa using hlt) (Ev.chk (by omega) (Ev.bind (T.rW zQ hf) ?_));rw[dP (default:oz) hlt,dI];refine Ev.ite (λe=>?_) (λe=>?_)
   ·rw[e,bU];exact ih (i+1) (by omega)
   ·rw[e,uH];exact Ev.ret _
theorem T.fH {l:List oz}(h:KE l):Ev (λf=>G.fH f l) (FM l):=by
 refine Ev.up ?_;simp only[G.fH];have hL:=T.fH.L1 h l.length 0 (by omega);unfold FM;refine Ev.ite (λe=>Ev.ret' ?_) (λe=>?_)
 ·have:¬l.length<=12:=by simp at e;omega
  simp[this]
 ·have:l.length<=12:=by simp at e;omega
  simp only[this,decide_true,oJ];exact hL
theorem T.gG.L1 {l:List oz}(h:KE l):∀(k i:Nat),i+k=l.length->Ev (λf=>G.gG.L1 f l i) ((l.drop i).all KG&&decide (l.length<=12)):=by
 obtain⟨hl,ho⟩:=h;intro k
 induction k with
 | zero=>intro i hi;refine Ev.up ?_;simp only[G.gG.L1];refine Ev.cf (by simp;omega) (Ev.ret' ?_);rw[ak (by omega),vM,bU];simp;omega
 | succ k ih=>
   intro i hi;have hlt:i<l.length:=(by omega);refine Ev.up ?_;simp only[G.gG.L1,ah,oz.eta,dF (show i+1<9223372036854775808 by omega)];obtain⟨E,hf⟩:=ho _ (getD_mem default hlt);refine Ev.ct (by simpa using hlt) (Ev.chk (by omega) (Ev.bind (T.oh zQ hf) ?_));rw[dP (default:oz) hlt,dI];refine Ev.ite (λe=>?_) (λe=>?_)
   ·rw[e,bU];exact ih (i+1) (by omega)
   ·rw[e,uH];exact Ev.ret _
theorem T.gG {l:List oz}(h:KE l):Ev (λf=>G.gG f l) (FM l):=by refine Ev.up ?_;simp only[G.gG];exact T.gG.L1 h l.length 0 (by omega)
noncomputable def adg (N i:Nat)(n:aj)(l:List oz):aj×Int:=
 match OT n l with
 |some m=>(m,(N:Int))
 |none=>(ve,((i+MN n l:Nat):Int))
theorem T.kX.L1 {l:List oz}(h:FM l=true):∀(k i:Nat) (n:aj),i+k=l.length->Val n=true ->
 Ev (λf=>G.kX.L1 f l i n.Kind n.Num n.Text n.Names n.Kids) (adg l.length i n (l.drop i)):=by
 obtain⟨ho,hl⟩:=Q8 h;intro k
 induction k with
 | zero=>intro i n hi hn;refine Ev.up ?_;simp only[G.kX.L1,aj.eta];refine Ev.cf (by simp;omega) (Ev.ret' ?_);rw[ak (by omega)];rfl
 | succ k ih=>
   intro i n hi hn;have hlt:i<l.length:=(by omega);refine Ev.up ?_;simp only[G.kX.L1,ah,oz.eta,aj.eta,dF (show i+1<9223372036854775808 by omega)];have hv:=ho _ (getD_mem default hlt);have hA:=T.uI aag (nZ hn) (acZ hv);refine Ev.ct (by simpa using hlt) (Ev.chk (by omega) (Ev.bind hA ?_));rw[dP (default:oz) hlt];unfold adg;rw[OT,MN];cases ha:EY n (l.getD i default)with
   |none=>exact Ev.cf rfl (Ev.ret' rfl)
   | some m=>
     refine Ev.ct rfl ((ih (i+1) m (by omega) (applied ha).vm).eq ?_);unfold adg;simp only;cases OT m (l.drop (i+1))with
     |some k=>rfl
     | none=>refine congrArg (Prod.mk ve) ?_;show((i+1+MN m (l.drop (i+1)):Nat):Int)=((i+(MN m (l.drop (i+1))+1):Nat):Int);omega
theorem T.kX {n:aj}{l:List oz}(hn:Val n=true)(h:FM l=true):Ev (λf=>G.kX f n l) (adg l.length 0 n l):=by refine Ev.up ?_;simp only[G.kX];exact Ev.bind (T.aP BU (nZ hn)) (T.kX.L1 h l.length 0 n (by omega) hn)
theorem T.pY {B E:Nat}{n:aj}{l:List oz}(hB:B<=lim)(hn:Fine B E n)(hl:KE l):Ev (λf=>G.pY f n l) (oQ (Jm n l)):=by
 refine Ev.up ?_;simp only[G.pY];unfold Jm;refine Ev.bind (T.aX hB hn) (Ev.ite (λe1=>?_) (λe1=>Ev.ret' (by rw[e1];rfl)));refine Ev.bind (T.fH hl) (Ev.ite (λe2=>?_) (λe2=>Ev.ret' (by rw[e1,e2];rfl)));refine Ev.bind (T.kX e1 e2) (Ev.ret' ?_);rw[e1,e2,if_pos (by rfl)];unfold adg;cases hr:OT n l with
 |some m=>simp[oQ]
 | none=>have h1:¬MN n l=l.length:=λe=>(by have:=Z8.1 e;rw[hr]at this;cases this);simp only[Nat.zero_add,oQ];rw[ilen];simp[h1]
theorem XI {n:aj}{o:oz}(hn:Val n=true)(ho:KG o=true):Ev (λf=>G.qi f n o) (oQ (EY n o)):=by rw[ZJ hn ho];exact T.qi hn (vO ho)
theorem T.jH.L1 {l:List oz}(h:FM l=true):∀(k i:Nat) (n:aj),i+k=l.length->Val n=true ->
 Ev (λf=>G.jH.L1 f l i n.Kind n.Num n.Text n.Names n.Kids) (oQ (OT n (l.drop i))):=by
 obtain⟨ho,hl⟩:=Q8 h;intro k
 induction k with
 | zero=>intro i n hi hn;refine Ev.up ?_;simp only[G.jH.L1,aj.eta];refine Ev.cf (by simp;omega) (Ev.ret' ?_);rw[ak (by omega)];rfl
 | succ k ih=>
   intro i n hi hn;have hlt:i<l.length:=(by omega);refine Ev.up ?_;simp only[G.jH.L1,ah,oz.eta,aj.eta,dF (show i+1<9223372036854775808 by omega)];have hv:=ho _ (getD_mem default hlt);refine Ev.ct (by simpa using hlt) (Ev.chk (by omega) (Ev.bind (XI hn hv) ?_));rw[dP (default:oz) hlt,OT];cases ha:EY n (l.getD i default)with
   |none=>exact Ev.cf rfl (Ev.ret' rfl)
   |some m=>exact Ev.ct rfl (ih (i+1) m (by omega) (applied ha).vm)
theorem T.jH {B E:Nat}{n:aj}{l:List oz}(hB:B<=lim)(hn:Fine B E n)(hl:KE l):Ev (λf=>G.jH f n l) (oQ (Jm n l)):=by refine Ev.up ?_;simp only[G.jH];unfold Jm;refine Ev.bind (T.fB hB hn) (Ev.ite (λe1=>?_) (λe1=>Ev.ret' (by rw[e1];rfl)));refine Ev.bind (T.gG hl) (Ev.ite (λe2=>?_) (λe2=>Ev.ret' (by rw[e1,e2];rfl)));rw[e1,e2,if_pos (by rfl)];exact Ev.bind (T.aY BU (nZ e1)) (T.jH.L1 e2 l.length 0 n (by omega) e1)
theorem Z9 : KE []:=⟨by simp,λo h=>by cases h⟩
theorem xC.big {B:Nat}{p:List aK}(hB:B<=1000)(h:xC B p):p.length<Ab.big:=by have:=h.1;unfold Ab.big;omega
theorem Qb {x:aK}{l:List aK}(h:Asc l=true)(hx:∀y,y∈l->bl x y=true):Asc (x::l)=true:=by
 cases l with
 |nil=>rfl
 |cons y l=>rw[Asc,h,oJ];exact hx y (by simp)
def lk (n:aj)(s:aK):Option aj:=(EL n s).map λj=>n.Kids.getD j default
structure G5 (n:aj):Prop where
 kind:n.Kind=4
 Md:Asc n.Names=true
 len:n.Kids.length=n.Names.length
theorem Ns {n:aj}(h:Parts n=true)(hk:n.Kind=4):G5 n/\n.Names.length<=6/\∀s,s∈n.Names->s.length<=12:=by obtain⟨_,_,hN,hl,hkl⟩:=yw h hk;exact⟨⟨hk,Ls hN,hkl⟩,hl,λs hs=>Rf (UQ hN s hs)⟩
theorem acF {n:aj}(h:G5 n){s:aK} : (lk n s).isSome=true<->s∈n.Names:=by
 unfold lk;rw[Option.isSome_map];constructor
 ·intro hs;obtain⟨j,hj⟩:=Ap.1 hs;obtain⟨h1,h2,_⟩:=JI.1 hj;rw[Fb h.kind,beq_iff_eq]at h2;rw[<- h2];exact getD_mem default (by rw[<- h.len];exact h1)
 ·intro hs;cases hp:EL n s with
  |some j=>rfl
  | none=>obtain⟨i,hi,e⟩:=lI.1 hs;have:=NF.1 hp i (by rw[h.len];exact hi);rw[Fb h.kind,gu default hi,e]at this;simp at this
theorem Yg {n x:aj}{s:aK}(h:lk n s=some x):x∈n.Kids:=by unfold lk at h;obtain⟨j,hj,rfl⟩:=qM.1 h;exact getD_mem default (zF hj)
theorem Nq {n:aj}(h:G5 n){s:aK} : lk n s=none<->s ∉ n.Names:=by rw[<- acF h];cases lk n s<;>simp
structure Acc (n:aj)(m:Nat):Prop where
 map:G5 n
 num:n.Num=0
 text:n.Text=[]
 len:n.Names.length<=m
 small:∀s,s∈n.Names->s.length<=12
theorem Acc.eq {n:aj}{m:Nat}(h:Acc n m):n=aj.mk 4 0 [] n.Names n.Kids:=by obtain⟨⟨h1,_,_⟩,h2,h3,_,_⟩:=h;cases n;simp only at h1 h2 h3;subst h1;subst h2;subst h3;rfl
theorem VD : ∀{l:List aK} (i:Nat),Asc l=true->Asc (l.drop i)=true
 |l,0,h=>by simpa using h
 |[],i+1,_=>rfl
 |x::l,i+1,h=>VD (l:=l) i (Gs h)
open Classical in
noncomputable def mn (F:aj->aj->aj->Option aj)(o a b:aj)(s:aK):Option (Option aj):=
 match lk a s,lk b s,lk o s with
 |some x,some y,some z=>(F z x y).map some
 |some x,some y,none=>if x=y then some (some x)else none
 |some x,none,none=>some (some x)
 |none,some y,none=>some (some y)
 |some x,none,some z=>if x=z then some none else none
 |none,some y,some z=>if y=z then some none else none
 |none,none,_=>some none
def agM : aj:=aj.mk 4 0 [] [] []
theorem Ih {n:aj}(h:G5 n){r:aK}{k:aj} : lk n r=some k<->(r,k)∈n.Names.zip n.Kids:=by
 have at_:∀j,j<n.Names.length->(n.Names.getD j default,n.Kids.getD j default)∈n.Names.zip n.Kids:=λj hj=>by
  have hk:j<n.Kids.length:=by rw[h.len];exact hj
  rw[gu _ hj,gu _ hk];exact lI.2 ⟨j,by simp;omega,by simp⟩
 constructor
 ·intro e;unfold lk at e;obtain⟨j,hj,rfl⟩:=qM.1 e;obtain⟨h1,h2,_⟩:=JI.1 hj;rw[Fb h.kind,beq_iff_eq]at h2;rw[<- h2];exact at_ j (by rw[<- h.len];exact h1)
 ·intro e;obtain⟨j,hj,e⟩:=lI.1 e;have hj1:j<n.Names.length:=by simp at hj;omega
  have hj2:j<n.Kids.length:=by simp at hj;omega
  simp only[Em,aJ]at e;obtain⟨e1,e2⟩:=e;have hp:EL n r=some j:=by rw[JI];refine⟨hj2,by rw[Fb h.kind,gu _ hj1,e1];simp,λq hq=>?_⟩;rw[Fb h.kind];have:=GM (FK h.Md q j hq hj1);rw[gu _ hj1,e1]at this;simpa using this
  unfold lk;rw[hp,lD,gu _ hj2,e2]
theorem afb {α β:Type}{a:List α}{b:List β}{p:Nat}{x:α}{y:β}(h:a.length=b.length):(insL a p x).zip (insL b p y)=insL (a.zip b) p (x,y):=by
 unfold insL;rw[EK (by simp[h]),EK (by simp[h])];have e1:(a.zip b).take p=(a.take p).zip (b.take p):=by rw[FT,List.take_zipWith]
 have e2:(a.zip b).drop p=(a.drop p).zip (b.drop p):=by rw[FT,List.drop_zipWith]
 rw[e1,e2];rfl
theorem UK {α:Type}{l:List α}{p:Nat}{x y:α} : y∈insL l p x<->y=x\/y∈l:=by
 unfold insL;rw[aV,aV,bJ];have:=vZ p l;constructor
 ·rintro((h|h)|h)
  ·exact .inr (dS h)
  ·exact .inl h
  ·exact .inr (mX h)
 ·rintro(h|h)
  ·exact .inl (.inr h)
  ·rw[<- this,aV]at h;rcases h with h|h
   ·exact .inl (.inl h)
   ·exact .inr h
theorem abD {n v:aj}{s:aK}(h:G5 n)(hs:s ∉ n.Names):∃m,addN n s v=some m/\m.Kind=4/\m.Num=0/\m.Text=[]/\m.Kids.length=m.Names.length/\∀r k,(r,k)∈m.Names.zip m.Kids<->(r,k)=(s,v)\/(r,k)∈n.Names.zip n.Kids:=by
 have hp:EL n s=none:=by have:=(Nq h).2 hs;unfold lk at this;simpa using this
 have hk:=h.kind;refine⟨aj.mk 4 0 [] (insL n.Names (slt n s) s) (insL n.Kids (slt n s) v),?_,rfl,rfl,rfl,?_,λr k=>?_⟩
 ·unfold addN;rw[hp];simp only[hk,if_true,show ¬((4:Int)=3) by decide,if_false]
 ·show(insL n.Kids _ v).length=(insL n.Names _ s).length;have:=h.len;unfold insL;simp;omega
 ·show(r,k)∈(insL n.Names (slt n s) s).zip (insL n.Kids (slt n s) v)<->_;rw[afb h.len.symm,UK]
theorem VF : ∀{l:List aK} (i:Nat),Asc l=true->Asc (l.take i)=true
 |_,0,_=>by simp[Asc]
 |[],i+1,_=>rfl
 | x::l,i+1,h=>by rw[List.take_succ_cons];exact Qb (VF i (Gs h)) (λy hy=>Ht h y (dS hy))
theorem aeM {n m v:aj}{s:aK}(h:G5 n)(hs:s ∉ n.Names)(hm:addN n s v=some m):Asc m.Names=true:=by
 have hp:EL n s=none:=by have:=(Nq h).2 hs;unfold lk at this;simpa using this
 have hk:=h.kind;unfold addN at hm;rw[hp]at hm;simp only[hk,if_true,show ¬((4:Int)=3) by decide,if_false,aH]at hm;subst hm;show Asc (insL n.Names (slt n s) s)=true;have hle:=Yz n s;have hl:=h.len;have before:∀i,i<slt n s->bl (n.Names.getD i default) s=true:=λi hi=>by
  have h1:bl s (n.Names.getD i default)=false:=by
   unfold slt at hi;cases hf:(aQ 0 n.Kids.length).find? λi=>bl s (n.Names.getD i default)with
   | none=>rw[hf]at hi;exact J4.1 hf i (by omega) (by simpa using hi)
   | some j=>rw[hf]at hi;exact(Gp.1 hf).2.2.2 i (by omega) hi
  cases h2:bl (n.Names.getD i default) s with
  |true=>rfl
  |false=>exact absurd (getD_mem default (by omega:i<n.Names.length)) (by rw[Js h2 h1];exact hs)
 have behind:∀i,slt n s<=i->i<n.Names.length->bl s (n.Names.getD i default)=true:=λi h1 h2=>by
  have h3:slt n s<n.Kids.length:=by omega
  have h4:bl s (n.Names.getD (slt n s) default)=true:=by
   unfold slt at h3⊢;cases hf:(aQ 0 n.Kids.length).find? λi=>bl s (n.Names.getD i default)with
   |none=>rw[hf]at h3;simp at h3
   |some j=>exact(Gp.1 hf).2.2.1
  by_cases e:slt n s=i
  ·rw[<- e];exact h4
  ·exact Cf h4 (FK h.Md (slt n s) i (by omega) h2)
 generalize slt n s=p at *;unfold insL;have key:∀(A S:List aK),Asc A=true->Asc S=true->(∀x,x∈A->bl x s=true)->(∀y,y∈S->bl s y=true)->Asc ((A++[s])++S)=true:=by
  intro A
  induction A with
  |nil=>intro S _ hS _ h2;exact Qb hS h2
  | cons a A ih=>
    intro S hA hS h1 h2;rw[bY,bY];refine Qb (ih S (Gs hA) hS (λx hx=>h1 x (by simp[hx])) h2) (λy hy=>?_);rcases aV.1 hy with hy|hy
    ·rcases aV.1 hy with hy|hy
     ·exact Ht hA y hy
     ·rw[bJ]at hy;subst hy;exact h1 a (by simp)
    ·exact Cf (h1 a (by simp)) (h2 y hy)
 refine key _ _ (VF p h.Md) (VD p h.Md) (λx hx=>?_) (λy hy=>?_)
 ·obtain⟨i,hi,e⟩:=lI.1 hx;have hi2:i<p/\i<n.Names.length:=by simp at hi;omega
  have:=before i hi2.1;rw[gu _ hi2.2]at this;rw[<- e];simpa using this
 ·obtain⟨i,hi,e⟩:=lI.1 hy;have hi2:p+i<n.Names.length:=by simp at hi;omega
  have:=behind (p+i) (by omega) hi2;rw[gu _ hi2]at this;rw[<- e];simpa using this
theorem ac4 {n c:aj}{j:Nat}(s:aK):EL (Gz n j c) s=EL n s:=by
 unfold EL;have e:(Gz n j c).Kids.length=n.Kids.length:=by simp[Gz]
 rw[e];rfl
theorem acB {n c:aj}{j:Nat}(h:j<n.Kids.length):(Gz n j c).Kids.getD j default=c:=by simp[Gz,bu,h]
structure Mp (m:aj):Prop where
 map:G5 m
 num:m.Num=0
 text:m.Text=[]
theorem ag6 {n:aj}(h:Parts n=true)(hk:n.Kind=4):Mp n:=⟨(Ns h hk).1,(yw h hk).1,(yw h hk).2.1⟩
theorem af9 {m x:aj}{s:aK}(h:lk m s=some x):∃j,EL m s=some j/\m.Kids.getD j default=x:=by unfold lk at h;exact qM.1 h
theorem ag4 {m:aj}(h:G5 m){i:Nat}(hi:i<m.Kids.length):lk m (m.Names.getD i default)=some (m.Kids.getD i default):=by
 have hi':i<m.Names.length:=by rw[<- h.len];exact hi
 rw[Ih h,gu _ hi,gu _ hi'];exact lI.2 ⟨i,by simp;omega,by simp⟩
theorem WA {m:aj}(h:G5 m){i j:Nat}(hi:i<m.Names.length)(hj:j<m.Names.length)(e:m.Names.getD i default=m.Names.getD j default):i=j:=by
 rcases Nat.lt_trichotomy i j with k|k|k
 ·exact absurd e (GM (FK h.Md i j k hj))
 ·exact k
 ·exact absurd e.symm (GM (FK h.Md j i k hi))
theorem aeP {m y:aj}{s:aK}{j:Nat}(h:G5 m)(hj:EL m s=some j)(r:aK):lk (Gz m j y) r=if r=s then some y else lk m r:=by
 unfold lk;rw[ac4];by_cases e:r=s
 ·subst e;rw[if_pos rfl,hj,lD,acB (zF hj)]
 ·rw[if_neg e];cases hr:EL m r with
  |none=>rfl
  | some i=>
    have hne:j≠i:=λe2=>by subst e2;have a:=Ko hj;have b:=Ko hr;rw[Fb h.kind,beq_iff_eq]at a b;exact e (b.symm.trans a)
    simp[Gz,bu,List.getElem?_set,hne]
theorem aeQ {m y:aj}{j:Nat}(h:Mp m):Mp (Gz m j y):=⟨⟨h.map.kind,h.map.Md,by show(m.Kids.set j y).length=m.Names.length;rw[nC];exact h.map.len⟩,h.num,h.text⟩
theorem aaB {α:Type}{l:List α}{k:Nat}{y:α} : y∈yu l k<->∃i,∃h:i<l.length,i≠k/\l[i]=y:=by
 unfold yu;rw[aV,List.mem_take_iff_getElem,List.mem_drop_iff_getElem];constructor
 ·rintro(⟨i,h,e⟩|⟨i,h,e⟩)
  ·exact⟨i,by omega,by omega,e⟩
  ·exact⟨k+1+i,by omega,by omega,e⟩
 ·rintro⟨i,h,hk,e⟩;by_cases c:i<k
  ·exact .inl ⟨i,by omega,e⟩
  ·refine .inr ⟨i-(k+1),by omega,?_⟩;have:k+1+(i-(k+1))=i:=(by omega);simp only[this];exact e
theorem abl {α β:Type}{a:List α}{b:List β}{k:Nat}(h:a.length=b.length):(yu a k).zip (yu b k)=yu (a.zip b) k:=by
 unfold yu;rw[EK (by simp[h])];have e1:(a.zip b).take k=(a.take k).zip (b.take k):=by rw[FT,List.take_zipWith]
 have e2:(a.zip b).drop (k+1)=(a.drop (k+1)).zip (b.drop (k+1)):=by rw[FT,List.drop_zipWith]
 rw[e1,e2]
theorem agm {m:aj}{s:aK}(h:G5 m)(hs:s∈m.Names):∃m',ED m s=some m'/\Mp m'/\∀r,lk m' r=if r=s then none else lk m r:=by
 obtain⟨x,hx⟩:=Ap.1 ((acF h).2 hs);obtain⟨j,hj,_⟩:=af9 hx;obtain⟨hjl,hjh,_⟩:=JI.1 hj;rw[Fb h.kind,beq_iff_eq]at hjh;have hjn:j<m.Names.length:=by rw[<- h.len];exact hjl
 have hM:G5 (aj.mk 4 0 [] (yu m.Names j) (yu m.Kids j)):=by refine⟨rfl,Bh.2 ((Bh.1 h.Md).sublist (C9 _ _)),?_⟩;show(yu m.Kids j).length=(yu m.Names j).length;rw[E5 hjl,E5 hjn,h.len]
 refine⟨_,?_,⟨hM,rfl,rfl⟩,λr=>?_⟩
 ·unfold ED;rw[hj];simp only[h.kind,if_true]
 ·apply Option.ext;intro x;rw[Ih hM];show(r,x)∈(yu m.Names j).zip (yu m.Kids j)<->_;rw[abl h.len.symm,aaB];by_cases e:r=s
  ·rw[if_pos e];constructor
   ·rintro⟨i,hi,hne,e2⟩;have l1:i<m.Names.length:=(by simp at hi;omega);rw[Em,aJ]at e2;refine absurd (WA h l1 hjn ?_) hne;rw[gu _ l1,e2.1,hjh,e]
   ·intro e2;cases e2
  ·rw[if_neg e,Ih h,lI];constructor
   ·rintro⟨i,hi,_,e2⟩;exact⟨i,hi,e2⟩
   ·rintro⟨i,hi,e2⟩;refine⟨i,hi,λc=>?_,e2⟩;subst c;rw[Em,aJ]at e2;rw[gu _ hjn,e2.1]at hjh;exact e hjh
theorem afK {m v:aj}{s:aK}(h:G5 m)(hs:s ∉ m.Names):∃m',addN m s v=some m'/\Mp m'/\∀r,lk m' r=if r=s then some v else lk m r:=by
 obtain⟨m',e,k1,k2,k3,k4,k5⟩:=abD (v:=v) h hs;have hM:G5 m':=⟨k1,aeM h hs e,k4⟩;refine⟨m',e,⟨hM,k2,k3⟩,λr=>?_⟩;apply Option.ext;intro x;rw[Ih hM,k5];by_cases c:r=s
 ·rw[if_pos c];constructor
  ·rintro(q|q)
   ·rw[aJ]at q;rw[q.2]
   ·have:=(Nq h).2 hs;rw[<- Ih h,c,this]at q;cases q
  ·intro q;cases q;exact .inl (by rw[c])
 ·rw[if_neg c,Ih h];constructor
  ·rintro(q|q)
   ·rw[aJ]at q;exact absurd q.1 c
   ·exact q
  ·exact .inr
theorem Hg {l:List aK}{i:Nat}(h:i<l.length){r:aK} : r∈l.take (i+1)<->r∈l.take i\/r=l.getD i default:=by rw[jW h,aV,bJ,gu _ h]
theorem acW {m:aj}(h:G5 m){i:Nat}(hi:i<m.Names.length):m.Names.getD i default ∉ m.Names.take i:=by
 intro c;obtain⟨j,hj,e⟩:=List.mem_take_iff_getElem.1 c;have hj':j<m.Names.length:=by omega
 have:=WA h hj' hi (by rw[gu _ hj'];exact e);omega
theorem T.bs {n:aj}(s:aK)(h:G5 n)(hl:n.Names.length<=1000):∃p:Nat,Ev (λf=>G.slices_BinarySearch_string f n.Names s) ((p:Int),(EL n s).isSome)/\∀j,EL n s=some j->p=j:=by
 obtain⟨p,g,hp⟩:=T.slices_BinarySearch_string s (by unfold big;omega) h.Md;have hpl:=UZ h.kind h.Md h.len hp;cases hc:decide (p<n.Names.length)&&n.Names.getD p default==s with
 | true=>rw[hc]at g hpl;rw[if_pos rfl]at hpl;refine⟨p,by rw[hpl];exact g,λj hj=>?_⟩;rw[hpl]at hj;exact pW hj
 | false=>rw[hc]at g hpl;rw[if_neg (by simp)]at hpl;refine⟨p,by rw[hpl];exact g,λj hj=>?_⟩;rw[hpl]at hj;cases hj
structure MF (D c:Nat)(m:aj):Prop where
 mp:Mp m
 cnt:m.Names.length<=c
 sh:∀s,s∈m.Names->s.length<=12
 kid:∀k,k∈m.Kids->Fine 12 D k
theorem MF.fine {D c:Nat}{m:aj}(h:MF D c m)(hc:c<=12):Fine 12 (D+1) m:=by have h1:=h.cnt;have h2:=h.mp.map.len;exact⟨by rw[h.mp.text];simp,by omega,h.sh,by omega,λ_=>by omega,h.kid⟩
theorem Yc {α:Type}{l:List α}{k:Nat}{v:α}(h:k<=l.length):(insL l k v).length=l.length+1:=by unfold insL;simp;omega
theorem TV {m v:aj}{s:aK}{j:Nat}(h:G5 m)(hj:EL m s=some j):addN m s v=some (Gz m j v):=by unfold addN;rw[hj];simp[h.kind]
theorem Vy {m v:aj}{s:aK}(h:G5 m)(hj:EL m s=none):addN m s v=some (aj.mk 4 0 [] (insL m.Names (slt m s) s) (insL m.Kids (slt m s) v)):=by unfold addN;rw[hj];simp[h.kind]
theorem U0 {m:aj}{s:aK}(h:G5 m):EL m s=none<->s ∉ m.Names:=by rw[<- Nq h];unfold lk;simp
theorem agc {D c:Nat}{m v:aj}{s:aK}(h:MF D c m)(hs:s.length<=12)(hv:Fine 12 D v) :
 ∃m',addN m s v=some m'/\MF D (c+1) m'/\∀r,lk m' r=if r=s then some v else lk m r:=by
 cases hj:EL m s with
 | some j=>
   refine⟨Gz m j v,TV h.mp.map hj,⟨aeQ h.mp,Nat.le_succ_of_le h.cnt,h.sh,λk hk=>?_⟩,aeP h.mp.map hj⟩;rcases o5 hk with q|q
   ·exact h.kid k q
   ·exact q▸hv
 | none=>
   obtain⟨m',e,g1,g2⟩:=afK (v:=v) h.mp.map ((U0 h.mp.map).1 hj);refine⟨m',e,?_,g2⟩;rw[Vy h.mp.map hj,aH]at e;subst e;have hsl:=Yz m s;have hl:=h.mp.map.len;refine⟨g1,?_,λt ht=>?_,λk hk=>?_⟩
   ·show(insL m.Names (slt m s) s).length<=_;rw[Yc (by omega)];have:=h.cnt;omega
   ·rcases UK.1 ht with q|q
    ·exact q▸hs
    ·exact h.sh t q
   ·rcases UK.1 hk with q|q
    ·exact q▸hv
    ·exact h.kid k q
theorem agd {D c:Nat}{m:aj}{s:aK}(h:MF D c m):MF D c ((ED m s).getD m)/\∀r,lk ((ED m s).getD m) r=if r=s then none else lk m r:=by
 cases hj:EL m s with
 | none=>
   have:ED m s=none:=(by unfold ED;rw[hj]);rw[this];refine⟨h,λr=>?_⟩;by_cases c:r=s
   ·rw[if_pos c,c];exact(Nq h.mp.map).2 ((U0 h.mp.map).1 hj)
   ·rw[if_neg c];rfl
 | some j=>
   have hs:s∈m.Names:=by apply Classical.byContradiction;intro q;rw[(U0 h.mp.map).2 q]at hj;cases hj
   obtain⟨m',e,g1,g2⟩:=agm h.mp.map hs;rw[e];refine⟨?_,g2⟩;unfold ED at e;rw[hj]at e;simp only[h.mp.map.kind,if_true,aH]at e;subst e;have hjl:=zF hj;refine⟨g1,?_,λt ht=>h.sh t ((C9 _ _).subset ht),λk hk=>h.kid k ((C9 _ _).subset hk)⟩;show(yu m.Names j).length<=c;have:=h.mp.map.len;rw[E5 (by omega)];have:=h.cnt;omega
theorem T.Yo {n v:aj}(s:aK)(h:Mp n)(hn:n.Names.length<=1000):∃m,addN n s v=some m/\Ev (λf=>G.oU f n s v) m:=by
 have hk:=h.map.kind;have hkl:=h.map.len;obtain⟨p,g,hlb⟩:=T.slices_BinarySearch_string s (by unfold big;omega) h.map.Md;have hpl:=UZ hk h.map.Md hkl hlb;have agT:=hlb.le;cases hc:decide (p<n.Names.length)&&n.Names.getD p default==s with
 | true=>rw[hc,if_pos rfl]at hpl;refine⟨Gz n p v,TV h.map hpl,Ev.up ?_⟩;simp only[G.oU];have:=zF hpl;refine Ev.bind g (Ev.ct hc (Ev.chk (by omega) (Ev.ret' ?_)));rw[ah];rfl
 | false=>
   rw[hc,if_neg (by simp)]at hpl;have hsl:=ado h.map.Md hkl hlb hc;refine⟨aj.mk 4 0 [] (insL n.Names p s) (insL n.Kids p v),by rw[Vy h.map hpl,hsl],Ev.up ?_⟩;simp only[G.oU];refine Ev.bind g (Ev.cf hc ?_);have i1:Ev (λf=>G.mQ f n.Names (p:Int) [s]) (insL n.Names p s):=by refine Ev.up ?_;simp only[G.mQ];refine Ev.chk (by simp;omega) (Ev.ret' ?_);rw[ah];rfl
   have i2:Ev (λf=>G.jf f n.Kids (p:Int) [v]) (insL n.Kids p v):=by refine Ev.up ?_;simp only[G.jf];refine Ev.chk (by simp;omega) (Ev.ret' ?_);rw[ah];rfl
   exact Ev.bind i1 (Ev.bind i2 (Ev.ret' (by rw[h.num,h.text,hk])))
theorem T.abV {n:aj}(s:aK)(h:Mp n)(hn:n.Names.length<=1000):Ev (λf=>G.vz f n s) ((ED n s).getD n):=by
 have hkl:=h.map.len;obtain⟨p,g,hp⟩:=T.bs s h.map hn;refine Ev.up ?_;simp only[G.vz];refine Ev.bind g ?_;unfold ED;cases hj:EL n s with
 |none=>exact Ev.cf rfl (Ev.ret _)
 | some j=>
   have e:=hp j hj;subst e;have hpl:=zF hj;simp only[dF (show p+1<9223372036854775808 by omega)];have d1:Ev (λf=>G.jR f n.Kids (p:Int) ((p+1:Nat):Int)) (yu n.Kids p):=by refine Ev.up ?_;simp only[G.jR,ah];exact Ev.chk (by omega) (Ev.ret _)
   have d2:Ev (λf=>G.slices_Delete_string f n.Names (p:Int) ((p+1:Nat):Int)) (yu n.Names p):=by refine Ev.up ?_;simp only[G.slices_Delete_string,ah];exact Ev.chk (by omega) (Ev.ret _)
   refine Ev.ct rfl (Ev.bind d2 (Ev.bind d1 (Ev.ret' ?_)));simp[h.map.kind,h.num,h.text]
def WQ (m:aj)(s:aK)(v:aj):aj:=(addN m s v).getD m
theorem agb {D:Nat} : MF D 0 agM:=⟨⟨⟨rfl,rfl,rfl⟩,rfl,rfl⟩,ax _,(λs hs=>by cases hs),(λk hk=>by cases hk)⟩
structure MS (d:Nat)(a:aj):Prop where
 mp:Mp a
 sh:Shape (d+1) a=true
 len:a.Names.length<=6
 txt:∀s,s∈a.Names->s.length<=12
theorem Y6 {d:Nat}{a:aj}(h:Shape (d+1) a=true)(hk:a.Kind=4):MS d a:=by obtain⟨_,h2,h3⟩:=Ns (kT h) hk;exact⟨ag6 (kT h) hk,h,h2,h3⟩
theorem MS.name {d:Nat}{a:aj}(h:MS d a){i:Nat}(hi:i<a.Kids.length):(a.Names.getD i default).length<=12:=h.txt _ (getD_mem default (by rw[<- h.mp.map.len];exact hi))
theorem MS.mf {d:Nat}{a:aj}(h:MS d a):MF d 6 a:=⟨h.mp,h.len,h.txt,λk hk=>yU (uF h.sh k hk)⟩
theorem Nu {D E c e:Nat}{m:aj}(h:MF D c m)(hD:D<=E)(hc:c<=e):MF E e m:=⟨h.mp,iP h.cnt hc,h.sh,λk hk=>(h.kid k hk).mono (ax _) hD⟩
theorem Yp {D c:Nat}{m v:aj}{s:aK}(h:MF D c m)(hs:s.length<=12)(hv:Fine 12 D v):addN m s v=some (WQ m s v)/\MF D (c+1) (WQ m s v)/\∀r,lk (WQ m s v) r=if r=s then some v else lk m r:=by
 obtain⟨m',e,h1,h2⟩:=agc h hs hv;have:WQ m s v=m':=by unfold WQ;rw[e];rfl
 rw[this];exact⟨e,h1,h2⟩
theorem IL (k:Nat):aQ 0 (k+1)=aQ 0 k++[k]:=by rw[List.range'_concat];simp
theorem OL {a:aj}(h:G5 a){i:Nat}(hi:i<a.Kids.length):a.Names.getD i default ∉ a.Names.take i:=acW h (by rw[<- h.len];exact hi)
def PG (F:aj->aj->aj)(p m:aj)(i:Nat):aj:=
 if(p.Kids.getD i default).Kind=0 then(ED m (p.Names.getD i default)).getD m else WQ m (p.Names.getD i default) (F ((lk m (p.Names.getD i default)).getD ve) (p.Kids.getD i default))
def Oe (n:aj):aj:=if n.Kind=4 then n else agM
def J7 : Nat->aj->aj->aj
 |0,_,p=>p
 |d+1,n,p=>if p.Kind=4 then(aQ 0 p.Kids.length).foldl (PG (J7 d) p) (Oe n)else p
theorem QY {d:Nat}{n p:aj} : J7 (d+1) n p=if p.Kind=4 then(aQ 0 p.Kids.length).foldl (PG (J7 d) p) (Oe n)else p:=by rw[J7]
def mgV (F:aj->aj->aj)(n0 p:aj)(r:aK):Option aj:=match lk p r with
 |none=>lk n0 r
 |some q=>if q.Kind=0 then none else some (F ((lk n0 r).getD ve) q)
theorem OG {d D c:Nat}{n0 p:aj}{F:aj->aj->aj}(mp:MS d p)(h0:MF D c n0){Q:aj->Prop}(hQ:Q ve)(hq:∀k,k∈n0.Kids->Q k)(hF:∀o q,Q o->Shape d q=true->Fine 12 D (F o q)) :
 ∀i,i<=p.Kids.length->MF D (c+i) ((aQ 0 i).foldl (PG F p) n0)/\∀r,lk ((aQ 0 i).foldl (PG F p) n0) r=if r∈p.Names.take i then mgV F n0 p r else lk n0 r:=by
 intro i
 induction i with
 |zero=>intro _;exact⟨h0,λr=>by simp⟩
 | succ i ih=>
   intro hi;obtain⟨h1,h2⟩:=ih (by omega);have hi':i<p.Kids.length:=(by omega);have hin:i<p.Names.length:=(by rw[<- mp.mp.map.len];exact hi');have hx:=ag4 mp.mp.map hi';have hnt:=OL mp.mp.map hi';rw[IL,vT,lZ,BQ];generalize (aQ 0 i).foldl (PG F p) n0=m at h1 h2⊢;have hms:lk m (p.Names.getD i default)=lk n0 (p.Names.getD i default):=(by rw[h2,if_neg hnt]);have fin:∀(m':aj),(∀r,lk m' r=if r=p.Names.getD i default then mgV F n0 p (p.Names.getD i default)else lk m r)->∀r,lk m' r=if r∈p.Names.take (i+1)then mgV F n0 p r else lk n0 r:=λm' g r=>by
    rw[g];by_cases c:r=p.Names.getD i default
    ·rw[if_pos c,if_pos ((Hg hin).2 (.inr c)),c]
    ·rw[if_neg c,h2];by_cases q:r∈p.Names.take i
     ·rw[if_pos q,if_pos ((Hg hin).2 (.inl q))]
     ·rw[if_neg q,if_neg (λz=>((Hg hin).1 z).elim q c)]
   unfold PG;by_cases c:(p.Kids.getD i default).Kind=0
   ·rw[if_pos c];obtain⟨g1,g2⟩:=agd (s:=p.Names.getD i default) h1;refine⟨Nu g1 (ax _) (by omega),fin _ (λr=>?_)⟩;rw[g2];have:mgV F n0 p (p.Names.getD i default)=none:=(by unfold mgV;rw[hx];simp only[if_pos c]);rw[this]
   ·rw[if_neg c,hms];have hold:Q ((lk n0 (p.Names.getD i default)).getD ve):=by
     cases hl:lk n0 (p.Names.getD i default)with
     |none=>exact hQ
     |some x=>exact hq _ (Yg hl)
    obtain⟨_,g1,g2⟩:=Yp h1 (mp.name hi') (hF _ _ hold (BK mp.sh hi'));refine⟨g1,fin _ (λr=>?_)⟩;rw[g2];have:mgV F n0 p (p.Names.getD i default)=some (F ((lk n0 (p.Names.getD i default)).getD ve) (p.Kids.getD i default)):=(by unfold mgV;rw[hx];simp only[if_neg c]);rw[this]
abbrev ShN (E:Nat)(n:aj):Prop:=Shape E n=true\/n=ve
theorem Xz {E:Nat}{n:aj}(h:ShN E n):∃e,(e+1=E\/e=0)/\MF e 6 (Oe n)/\∀k,k∈(Oe n).Kids->ShN e k:=by
 unfold Oe;by_cases hk:n.Kind=4
 ·rw[if_pos hk];rcases h with h|h
  ·cases E with
   |zero=>cases h
   |succ e=>exact⟨e,.inl rfl,(Y6 h hk).mf,λk hk'=>.inl (uF h k hk')⟩
  ·rw[h]at hk;cases hk
 ·rw[if_neg hk];exact⟨0,.inr rfl,Nu agb (ax _) (by omega),λk hk'=>by cases hk'⟩
theorem Nv : ∀(d:Nat) {E:Nat} {n p:aj},Shape d p=true->ShN E n->Fine 12 (d+E+1) (J7 d n p)
 |0,_,_,_,h,_=>by cases h
 | d+1,E,n,p,hp,hn=>by
   rw[QY];by_cases h4:p.Kind=4
   ·rw[if_pos h4];have mp:=Y6 hp h4;obtain⟨e,he,hb,hk⟩:=Xz hn;have h:=(OG (F:=J7 d) (D:=d+e+1) mp (Nu hb (by omega) (ax _)) (Q:=ShN e) (.inr rfl) hk (λo q ho hq=>Nv d hq ho) p.Kids.length (ax _)).1;have:=mp.len;have:=mp.mp.map.len;exact(h.fine (by omega)).mono (ax _) (by omega)
   ·rw[if_neg h4];exact(yU hp).mono (ax _) (by omega)
section
section
variable {d e:Nat} {n0 p:aj} (mp:MS d p) (h0:MF (d+e+1) 6 n0) (hq:∀k,k∈n0.Kids->ShN e k) (hd:d<=5)
include mp h0 hq hd
theorem T.IG.L4 (hs:∀o q,ShN e o->Shape d q=true->Ev (λf=>G.dW f o q) (J7 d o q)):∀(t i:Nat),i+t=p.Kids.length ->
 Ev (λf=>G.dW.L4 f p (i:Int) ((aQ 0 i).foldl (PG (J7 d) p) n0).Kind ((aQ 0 i).foldl (PG (J7 d) p) n0).Num ((aQ 0 i).foldl (PG (J7 d) p) n0).Text ((aQ 0 i).foldl (PG (J7 d) p) n0).Names ((aQ 0 i).foldl (PG (J7 d) p) n0).Kids) ((aQ 0 p.Kids.length).foldl (PG (J7 d) p) n0):=by
 have hl:=mp.len;have hk:=mp.mp.map.len;intro t
 induction t with
 | zero=>intro i hi;have:i=p.Kids.length:=(by omega);subst this;refine Ev.up ?_;simp only[G.dW.L4];exact Ev.cf (decide_eq_false (by omega)) (Ev.ret' (aj.eta _))
 | succ t ih=>
   intro i hi;have hn:=ih (i+1) (by omega);rw[IL,vT,lZ,BQ]at hn;have hF:=λ(o q:aj) (ho:ShN e o) (hq:Shape d q=true)=>Nv d hq ho;obtain⟨h1,h2⟩:=OG mp h0 (Q:=ShN e) (.inr rfl) hq hF i (by omega);generalize (aQ 0 i).foldl (PG (J7 d) p) n0=m at h1 h2 hn⊢;have hi':i<p.Kids.length:=(by omega);have hx:=BK mp.sh hi';have hc:=h1.cnt;have hms:lk m (p.Names.getD i default)=lk n0 (p.Names.getD i default):=(by rw[h2,if_neg (OL mp.mp.map hi')]);obtain⟨q,gq,hqj⟩:=T.bs (p.Names.getD i default) h1.mp.map (by omega);refine Ev.up ?_;simp only[G.dW.L4,ah,dF (show i+1<9223372036854775808 by omega),aj.eta];unfold PG at hn;refine Ev.ct (decide_eq_true (by omega)) (Ev.chk (by omega) (Ev.chk (by omega) ?_));by_cases c:(p.Kids.getD i default).Kind=0
   ·rw[if_pos c]at hn;exact Ev.ct (by simpa using c) (Ev.bind (T.abV _ h1.mp (by omega)) hn)
   ·rw[if_neg c]at hn;have fin:∀o,o=(lk m (p.Names.getD i default)).getD ve->Ev (λf=>G.dW.K5 f p (i:Int) m.Kind m.Num m.Text m.Names m.Kids o.Kind o.Num o.Text o.Names o.Kids) ((aQ 0 p.Kids.length).foldl (PG (J7 d) p) n0):=λo ho=>by
     have hso:ShN e o:=by
      rw[ho,hms];cases hl':lk n0 (p.Names.getD i default)with
      |none=>exact .inr rfl
      |some x=>exact hq x (Yg hl')
     have hf:=hF _ _ hso hx;obtain⟨g1,_⟩:=Yp h1 (mp.name hi') hf;obtain⟨m',g2,g3⟩:=T.Yo (v:=J7 d o (p.Kids.getD i default)) (p.Names.getD i default) h1.mp (by omega);rw[g1]at g2;cases g2;rw[<- ho]at hn;refine Ev.up ?_;simp only[G.dW.K5,ah,dF (show i+1<9223372036854775808 by omega),aj.eta];exact Ev.chk (by omega) (Ev.bind (hs _ _ hso hx) (Ev.bind g3 hn))
    refine Ev.cf (by simpa using c) (Ev.bind gq ?_);cases hj:EL m (p.Names.getD i default)with
    |none=>exact Ev.cf rfl (fin ve (by unfold lk;rw[hj];rfl))
    | some j=>have ej:=hqj j hj;subst ej;have hjl:=zF hj;simp only[ah];exact Ev.ct rfl (Ev.chk (by omega) (fin (m.Kids.getD q default) (by unfold lk;rw[hj];rfl)))
end
theorem T.IG : ∀(d:Nat) {E:Nat} {n p:aj},d<=5->Shape d p=true->ShN E n->Ev (λf=>G.dW f n p) (J7 d n p)
 |0,_,_,_,_,h,_=>by cases h
 | d+1,E,n,p,hd,hp,hn=>by
   refine Ev.up ?_;simp only[G.dW];rw[QY];refine Ev.ite (λc=>?_) (λc=>?_)
   ·have:¬p.Kind=4:=(by simpa using c);rw[if_neg this];exact Ev.bind (T.aP BU (yU hp)) (Ev.ret _)
   ·have kp:p.Kind=4:=(by simpa using c);rw[if_pos kp];have mp:=Y6 hp kp;obtain⟨e,he,hb,hq⟩:=Xz hn;have L:=T.IG.L4 mp (Nu hb (by omega:e<=d+e+1) (ax _)) hq (by omega) (λo q ho hq=>T.IG d (by omega) hq ho) p.Kids.length 0 (by omega);have L':Ev (λf=>G.dW.K1 f p (Oe n).Kind (Oe n).Num (Oe n).Text (Oe n).Names (Oe n).Kids) ((aQ 0 p.Kids.length).foldl (PG (J7 d) p) (Oe n)):=by
     refine Ev.up ?_;simp only[G.dW.K1];exact L
    unfold Oe at L'⊢;refine Ev.ite (λc=>?_) (λc=>?_)
    ·have kn:n.Kind=4:=(by simpa using c);rw[if_pos kn]at L'⊢;have hf:Fine 12 E n:=by
      rcases hn with h|h
      ·exact yU h
      ·rw[h]at kn;cases kn
     exact Ev.bind (T.aP BU hf) L'
    ·have kn:¬n.Kind=4:=(by simpa using c);rw[if_neg kn]at L'⊢;exact L'
theorem T.rG {D E:Nat}{n p:aj}(hn:Fine 60 D n)(hp:Fine 60 E p):Ev (λf=>G.rG f n p) (oQ (if Val n&&Val p then(some (J7 5 n p)).filter Val else none)):=by refine Ev.up ?_;simp only[G.rG];refine Ev.bind (T.aX zQ hn) (Ev.ite (λe1=>?_) (λe1=>Ev.ret' (by rw[e1];rfl)));refine Ev.bind (T.aX zQ hp) (Ev.ite (λe2=>?_) (λe2=>Ev.ret' (by rw[e1,e2];rfl)));have gp:=T.IG 5 (by omega) (lN e2) (.inl (lN e1));have gc:=T.ni (o:=some (J7 5 n p)) BU (λm hm=>by cases hm;exact Nv 5 (lN e2) (.inl (lN e1)));rw[e1,e2];exact Ev.bind gp (Ev.bind gc (Ev.ret _))
end
section
def Y9 (b:UInt8):Bool:=(decide (97<=b.toNat)&&decide (b.toNat<=122))||(decide (48<=b.toNat)&&decide (b.toNat<=57))
def Vu (s:aK):Bool:=s.all Y9&&(decide (1<=s.length)&&decide (s.length<=8))
def LV (c:Int)(it:bI):Bool:=Vu it.Name&&(Val it.Node&&(decide (1<=it.Version)&&decide (it.Version<=c)))
def uZ (l:List bI):List aK:=l.map λit=>it.Name
def N7 (s:StoreT):Bool:=(s.Items.all (LV s.Clock)&&Asc (uZ s.Items))&&(decide (s.Items.length<=10)&&(decide (0<=s.Clock)&&decide (s.Clock<=999)))
structure Jl (B:Nat)(s:StoreT):Prop where
 len:s.Items.length<=B
 Nw:∀it,it∈s.Items->it.Name.length<=B
 nod:∀it,it∈s.Items->abw B it.Node
theorem yN {l:List bI} : (uZ l).length=l.length:=by unfold uZ;rw[iE]
theorem Ey {l:List bI}{i:Nat}(h:i<l.length):(uZ l).getD i default=(l.getD i default).Name:=by rw[gu _ (by rw[yN];exact h),gu _ h];unfold uZ;rw[List.getElem_map]
theorem Me {l:List aK}{i:Nat}(h0:0<i)(h:i<l.length):Asc (l.drop (i-1))=(bl (l.getD (i-1) default) (l.getD i default)&&Asc (l.drop i)):=by rw[drop_pred h0 h,Asc,dP (default:aK) h]
theorem PS {l:List aK}{i:Nat}(h:l.length<=i):Asc (l.drop (i-1))=true:=by
 by_cases h0:l.length<=i-1
 ·rw[ak h0];rfl
 ·rw[dP (default:aK) (by omega:i-1<l.length),ak (by omega)];rfl
theorem T.jc.L1 (s:aK)(hs:s.length<big):∀(k i:Nat),i+k=s.length->Ev (λf=>G.jc.L1 f s i) ((s.drop i).all Y9&&(decide (1<=s.length)&&decide (s.length<=8))):=by
 unfold big at hs;intro k
 induction k with
 | zero=>
   intro i hi;refine Ev.up ?_;simp only[G.jc.L1];refine Ev.cf (decide_eq_false (by omega)) (Ev.bind (T.fZ _ _ _) (Ev.ret' ?_));rw[ak (by omega),vM,bU]
   congr 1<;>(apply decide_eq_decide.2;omega)
 | succ k ih=>
   intro i hi;refine Ev.up ?_;simp only[G.jc.L1,ah,Ia,dF (show i+1<9223372036854775808 by omega)];rw[dP (0:UInt8) (by omega:i<s.length),dI];have e1:(decide ((97:Int)<=((s.getD i 0).toNat:Int))&&decide (((s.getD i 0).toNat:Int)<=122))=(decide (97<=(s.getD i 0).toNat)&&decide ((s.getD i 0).toNat<=122)):=(by congr 1<;>(apply decide_eq_decide.2;omega));have e2:(decide ((48:Int)<=((s.getD i 0).toNat:Int))&&decide (((s.getD i 0).toNat:Int)<=57))=(decide (48<=(s.getD i 0).toNat)&&decide ((s.getD i 0).toNat<=57)):=(by congr 1<;>(apply decide_eq_decide.2;omega));refine Ev.ct (decide_eq_true (by omega)) (Ev.chk (by omega) (Ev.bind (T.fZ _ _ _) ?_));rw[e1];refine Ev.ite (λh=>?_) (λh=>?_)
   ·refine(ih (i+1) (by omega)).eq ?_;unfold Y9;rw[show(decide (97<=(s.getD i 0).toNat)&&decide ((s.getD i 0).toNat<=122))=true from h,yH,bU]
   ·refine Ev.chk (by omega) (Ev.bind (T.fZ _ _ _) ?_);rw[e2];refine Ev.ite (λh2=>?_) (λh2=>Ev.ret' ?_)
    ·refine(ih (i+1) (by omega)).eq ?_;unfold Y9;rw[show(decide (48<=(s.getD i 0).toNat)&&decide ((s.getD i 0).toNat<=57))=true from h2,xh,bU]
    ·unfold Y9;rw[show(decide (97<=(s.getD i 0).toNat)&&decide ((s.getD i 0).toNat<=122))=false from h,show(decide (48<=(s.getD i 0).toNat)&&decide ((s.getD i 0).toNat<=57))=false from h2];rfl
theorem T.jc (s:aK)(hs:s.length<big):Ev (λf=>G.jc f s) (Vu s):=by refine Ev.up ?_;simp only[G.jc];exact T.jc.L1 s hs s.length 0 (by omega)
theorem T.jV.L1 (s:aK)(hs:s.length<big):∀(k i:Nat),i+k=s.length->Ev (λf=>G.jV.L1 f s i) ((s.drop i).all Y9):=by
 unfold big at hs;intro k
 induction k with
 | zero=>intro i hi;refine Ev.up ?_;simp only[G.jV.L1];refine Ev.cf (decide_eq_false (by omega)) (Ev.ret' ?_);rw[ak (by omega)];rfl
 | succ k ih=>
   intro i hi;refine Ev.up ?_;simp only[G.jV.L1,ah,dF (show i+1<9223372036854775808 by omega)];rw[dP (0:UInt8) (by omega:i<s.length),dI];have yes:Y9 (s.getD i 0)=true->Ev (λf=>G.jV.L1 f s ((i+1:Nat):Int)) (Y9 (s.getD i 0)&&(s.drop (i+1)).all Y9):=λh=>(ih (i+1) (by omega)).eq (by rw[h];rfl);have no:Y9 (s.getD i 0)=false->Ev (λ_=>some false) (Y9 (s.getD i 0)&&(s.drop (i+1)).all Y9):=λh=>Ev.ret' (by rw[h];rfl);have ok:Y9 (s.getD i 0)=decide ((97<=(s.getD i 0).toNat/\(s.getD i 0).toNat<=122)\/(48<=(s.getD i 0).toNat/\(s.getD i 0).toNat<=57)):=(by unfold Y9;simp);refine Ev.ct (decide_eq_true (by omega)) (Ev.chk (by omega) ?_);refine Ev.ite (λh=>?_) (λh=>?_)
   ·simp only[decide_eq_true_eq]at h;refine Ev.chk (by omega) (Ev.ite (λh2=>?_) (λh2=>?_))
    ·simp only[decide_eq_true_eq]at h2;exact no (by rw[ok];exact decide_eq_false (by omega))
    ·simp only[decide_eq_false_iff_not]at h2;refine Ev.chk (by omega) (Ev.ite (λh3=>?_) (λh3=>?_))
     ·simp only[decide_eq_true_eq]at h3;exact no (by rw[ok];exact decide_eq_false (by omega))
     ·simp only[decide_eq_false_iff_not]at h3;exact yes (by rw[ok];exact decide_eq_true (by omega))
   ·simp only[decide_eq_false_iff_not]at h;refine Ev.chk (by omega) (Ev.ite (λh2=>?_) (λh2=>?_))
    ·simp only[decide_eq_true_eq]at h2;refine Ev.chk (by omega) (Ev.cf (decide_eq_false (by omega)) (Ev.chk (by omega) (Ev.ct (decide_eq_true (by omega)) ?_)));exact no (by rw[ok];exact decide_eq_false (by omega))
    ·simp only[decide_eq_false_iff_not]at h2;exact yes (by rw[ok];exact decide_eq_true (by omega))
theorem T.jV (s:aK)(hs:s.length<big):Ev (λf=>G.jV f s) (Vu s):=by
 refine Ev.up ?_;simp only[G.jV];unfold Vu;refine Ev.ite (λh=>Ev.ret' ?_) (λh=>Ev.ite (λh2=>Ev.ret' ?_) (λh2=>?_))
 ·have:s=[]:=by simpa using h
  subst this;rfl
 ·simp only[decide_eq_true_eq]at h2;rw[decide_eq_false (show ¬s.length<=8 by omega),qC,qC]
 ·simp only[decide_eq_false_iff_not]at h2;have hne:s≠[]:=by simpa using h
  have hl:1<=s.length:=by cases s with
   |nil=>exact absurd rfl hne
   |cons _ _=>simp
  refine(T.jV.L1 s hs s.length 0 (by omega)).eq ?_;rw[decide_eq_true hl,decide_eq_true (show s.length<=8 by omega),bW];simp
theorem Jl.at_ {B:Nat}{s:StoreT}(h:Jl B s){i:Nat}(hi:i<s.Items.length):(s.Items.getD i default).Name.length<=B/\abw B (s.Items.getD i default).Node:=
 ⟨h.Nw _ (getD_mem default hi),h.nod _ (getD_mem default hi)⟩
section
variable {B:Nat} {s:StoreT} (hB:B<=lim) (h:Jl B s)
include hB h
theorem T.iw.L1 : ∀(k i:Nat),i+k=s.Items.length->Ev (λf=>G.iw.L1 f s i) (((s.Items.drop i).all (LV s.Clock)&&Asc ((uZ s.Items).drop (i-1)))&&(decide (s.Items.length<=10)&&(decide (0<=s.Clock)&&decide (s.Clock<=999)))):=by
 have hl:=h.len;unfold lim at hB;intro k
 induction k with
 | zero=>
   intro i hi;refine Ev.up ?_;simp only[G.iw.L1];rw[ak (by omega),PS (by rw[yN];omega)];refine Ev.cf (decide_eq_false (by omega)) (Ev.ite (λe=>?_) (λe=>Ev.ret' ?_))
   ·refine Ev.bind (T.fZ _ _ _) (Ev.ret' ?_);rw[decide_eq_true (show s.Items.length<=10 by simp only[decide_eq_true_eq]at e;omega)];simp
   ·rw[decide_eq_false (show ¬s.Items.length<=10 by simp only[decide_eq_false_iff_not]at e;omega)];simp
 | succ k ih=>
   intro i hi;have hil:i<s.Items.length:=(by omega);obtain⟨hn,⟨D,hd⟩⟩:=h.at_ hil;refine Ev.up ?_;simp only[G.iw.L1,ah,dF (show i+1<9223372036854775808 by omega)];rw[dP (default:bI) hil,dI];refine Ev.ct (decide_eq_true (by omega)) (Ev.chk (by omega) ?_);unfold LV;refine Ev.bind (T.jc _ (by unfold big;omega)) (Ev.ite (λe1=>?_) (λe1=>Ev.ret' (by rw[e1];simp)));refine Ev.bind (T.fB (by unfold lim;omega) hd) (Ev.ite (λe2=>?_) (λe2=>Ev.ret' (by rw[e2];simp)));refine Ev.bind (T.fZ _ _ _) (Ev.ite (λe3=>?_) (λe3=>Ev.ret' (by rw[e3];simp)));rw[e1,e2,e3];have ih':=ih (i+1) (by omega);unfold LV at ih';rw[jo]at ih';by_cases h0:0<i
   ·have e:af .i64 ((i:Int)-1)=((i-1:Nat):Int):=wrapN (by omega) (by omega);rw[e,ah];rw[Me h0 (by rw[yN];exact hil),Ey hil,Ey (by omega:i-1<s.Items.length)];refine Ev.ct (decide_eq_true (by omega)) (Ev.chk (by omega) (Ev.ite (λh1=>Ev.ret' ?_) (λh1=>Ev.ite (λh2=>Ev.ret' ?_) (λh2=>?_))))
    ·rw[show bl (s.Items.getD (i-1) default).Name (s.Items.getD i default).Name=false from MB h1];simp
    ·rw[beq_iff_eq]at h2;rw[show bl (s.Items.getD (i-1) default).Name (s.Items.getD i default).Name=false by rw[h2];exact KY _];simp
    ·have hb:bl (s.Items.getD (i-1) default).Name (s.Items.getD i default).Name=true:=by
      cases hb:bl (s.Items.getD (i-1) default).Name (s.Items.getD i default).Name with
      |true=>rfl
      |false=>rw[Js h1 hb]at h2;simp at h2
     rw[hb];exact ih'.eq (by simp)
   ·have:i=0:=(by omega);subst this;exact Ev.cf (by decide) (ih'.eq (by simp))
theorem T.iw : Ev (λf=>G.iw f s) (N7 s):=by refine Ev.up ?_;simp only[G.iw];exact T.iw.L1 hB h s.Items.length 0 (by omega)
theorem T.dw.L1 : ∀(k i:Nat),i+k=s.Items.length->Ev (λf=>G.dw.L1 f s i) ((s.Items.drop i).all (LV s.Clock)&&Asc ((uZ s.Items).drop (i-1))):=by
 have hl:=h.len;unfold lim at hB;intro k
 induction k with
 | zero=>intro i hi;refine Ev.up ?_;simp only[G.dw.L1];rw[ak (by omega),PS (by rw[yN];omega)];exact Ev.cf (decide_eq_false (by omega)) (Ev.ret _)
 | succ k ih=>
   intro i hi;have hil:i<s.Items.length:=(by omega);obtain⟨hn,⟨D,hd⟩⟩:=h.at_ hil;refine Ev.up ?_;simp only[G.dw.L1,ah,dF (show i+1<9223372036854775808 by omega)];rw[dP (default:bI) hil,dI];have ih':=ih (i+1) (by omega);rw[jo]at ih';refine Ev.ct (decide_eq_true (by omega)) (Ev.chk (by omega) ?_);refine Ev.bind (T.jV _ (by unfold big;omega)) (Ev.ite (λe1=>?_) (λe1=>Ev.ret' (by unfold LV;rw[e1];simp)));have tail:∀q:Bool,(q=true->Asc ((uZ s.Items).drop (i-1))=Asc ((uZ s.Items).drop i))->q=true->Ev (λf=>cond (decide ((s.Items.getD i default).Version<1)) (some false) (cond (decide (s.Clock<(s.Items.getD i default).Version)) (some false)
    (iM (G.aX f (s.Items.getD i default).Node) λv=>cond v (G.dw.L1 f s ((i+1:Nat):Int)) (some false)))) (LV s.Clock (s.Items.getD i default)&&(s.Items.drop (i+1)).all (LV s.Clock)&&Asc ((uZ s.Items).drop (i-1))):=λq hq hq'=>by
    rw[hq hq'];refine Ev.ite (λv1=>Ev.ret' ?_) (λv1=>Ev.ite (λv2=>Ev.ret' ?_) (λv2=>?_))
    ·simp only[decide_eq_true_eq]at v1;unfold LV;rw[decide_eq_false (show ¬ 1<=(s.Items.getD i default).Version by omega)];simp
    ·simp only[decide_eq_true_eq]at v2;unfold LV;rw[decide_eq_false (show ¬(s.Items.getD i default).Version<=s.Clock by omega)];simp
    ·simp only[decide_eq_false_iff_not]at v1 v2;refine Ev.bind (T.aX (by unfold lim;omega) hd) (Ev.ite (λe2=>?_) (λe2=>Ev.ret' (by unfold LV;rw[e2];simp)));refine ih'.eq ?_;have:LV s.Clock (s.Items.getD i default)=true:=by
      unfold LV;rw[e1,e2,decide_eq_true (show 1<=(s.Items.getD i default).Version by omega),decide_eq_true (show(s.Items.getD i default).Version<=s.Clock by omega)];rfl
     rw[this];rfl
   by_cases h0:0<i
   ·have e:af .i64 ((i:Int)-1)=((i-1:Nat):Int):=wrapN (by omega) (by omega);rw[e,ah];have hst:=Me h0 (l:=uZ s.Items) (by rw[yN];exact hil);rw[Ey hil,Ey (by omega:i-1<s.Items.length)]at hst;refine Ev.ct (decide_eq_true (by omega)) (Ev.chk (by omega) (Ev.ite (λh1=>?_) (λh1=>Ev.ret' ?_)))
    ·exact tail true (λ_=>by rw[hst,show bl (s.Items.getD (i-1) default).Name (s.Items.getD i default).Name=true from h1];rfl) rfl
    ·rw[hst,show bl (s.Items.getD (i-1) default).Name (s.Items.getD i default).Name=false from h1];simp
   ·have:i=0:=(by omega);subst this;exact Ev.cf (by decide) (tail true (λ_=>rfl) rfl)
theorem T.dw : Ev (λf=>G.dw f s) (N7 s):=by
 refine Ev.up ?_;simp only[G.dw];unfold N7;refine Ev.ite (λe=>Ev.ret' ?_) (λe=>Ev.ite (λe2=>Ev.ret' ?_) (λe2=>Ev.ite (λe3=>Ev.ret' ?_) (λe3=>?_)))
 ·rw[decide_eq_false (show ¬s.Items.length<=10 by simp only[decide_eq_true_eq]at e;omega)];simp
 ·rw[decide_eq_false (show ¬ 0<=s.Clock by simp only[decide_eq_true_eq]at e2;omega)];simp
 ·rw[decide_eq_false (show ¬s.Clock<=999 by simp only[decide_eq_true_eq]at e3;omega)];simp
 ·simp only[decide_eq_false_iff_not]at e e2 e3;refine(T.dw.L1 hB h s.Items.length 0 (by omega)).eq ?_;rw[decide_eq_true (show s.Items.length<=10 by omega),decide_eq_true (show 0<=s.Clock by omega),decide_eq_true (show s.Clock<=999 by omega),bW];simp
theorem T.fK : Ev (λf=>G.fK f s) s:=by
 have hl:=h.len;unfold lim at hB;have L:∀(k i:Nat),i+k=s.Items.length->Ev (λf=>G.fK.L1 f s i (s.Items.take i)) s:=by
  intro k
  induction k with
  | zero=>intro i hi;refine Ev.up ?_;simp only[G.fK.L1];refine Ev.cf (decide_eq_false (by omega)) (Ev.ret' ?_);rw[aC (by omega)]
  | succ k ih=>intro i hi;have hil:i<s.Items.length:=(by omega);obtain⟨hn,⟨D,hd⟩⟩:=h.at_ hil;refine Ev.up ?_;simp only[G.fK.L1,ah,dF (show i+1<9223372036854775808 by omega)];refine Ev.ct (decide_eq_true (by omega)) (Ev.chk (by omega) (Ev.chk (by omega) (Ev.chk (by omega) (Ev.bind (T.aY (by unfold lim;omega) hd) (Ev.chk (by simp;omega) ?_)))));have:=ih (i+1) (by omega);rw[jW hil,<- gu (default:bI) hil]at this;exact this
 refine Ev.up ?_;simp only[G.fK];exact L s.Items.length 0 (by omega)
theorem T.eu : Ev (λf=>G.eu f s) s:=by
 have hl:=h.len;unfold lim at hB;have L:∀(k i:Nat),i+k=s.Items.length->Ev (λf=>G.eu.L1 f s i (s.Items.take i++dh (s.Items.length-i) (bI.mk [] 0 (aj.mk 0 0 [] [] [])))) s:=by
  intro k
  induction k with
  | zero=>intro i hi;refine Ev.up ?_;simp only[G.eu.L1];refine Ev.cf (decide_eq_false (by omega)) (Ev.ret' ?_);rw[aC (by omega),show s.Items.length-i=0 by omega,List.replicate_zero,bM]
  | succ k ih=>
    intro i hi;have hil:i<s.Items.length:=(by omega);obtain⟨hn,⟨D,hd⟩⟩:=h.at_ hil;have hc:Ev (λf=>G.qR f (s.Items.getD i default)) (s.Items.getD i default):=by refine Ev.up ?_;simp only[G.qR];exact Ev.bind (T.aP (by unfold lim;omega) hd) (Ev.ret _)
    refine Ev.up ?_;simp only[G.eu.L1,ah,dF (show i+1<9223372036854775808 by omega)];refine Ev.ct (decide_eq_true (by omega)) (Ev.chk (by omega) (Ev.bind hc (Ev.chk (by simp;omega) ?_)));have hset:(s.Items.take i++dh (s.Items.length-i) (bI.mk [] 0 (aj.mk 0 0 [] [] []))).set i (s.Items.getD i default)=s.Items.take (i+1)++dh (s.Items.length-(i+1)) (bI.mk [] 0 (aj.mk 0 0 [] [] [])):=by obtain⟨q,hq⟩:∃q,s.Items.length-i=q+1:=⟨s.Items.length-i-1,by omega⟩;have e1:(s.Items.take i).length=i:=(by simp;omega);rw[hq,List.replicate_succ,List.set_append_right _ _ (by omega),e1,Nat.sub_self,Dk,show s.Items.length-(i+1)=q by omega,jW hil,gu _ hil,dA];rfl
    rw[hset];exact ih (i+1) (by omega)
 refine Ev.up ?_;simp only[G.eu];refine Ev.ite (λe=>?_) (λe=>Ev.ret' ?_)
 ·refine Ev.chk (by omega) ?_;have:=L s.Items.length 0 (by omega);rw[List.take_zero,List.nil_append,pK]at this;exact this
 ·have:s.Items=[]:=dD (by simp only[decide_eq_false_iff_not]at e;omega);cases s;simp only at this;subst this;rfl
end
structure Si (s:StoreT):Prop where
 itm:∀it,it∈s.Items->LV s.Clock it=true
 Md:Asc (uZ s.Items)=true
 len:s.Items.length<=10
 lo:0<=s.Clock
 hi:s.Clock<=999
theorem BN {s:StoreT} : N7 s=true<->Si s:=by unfold N7;simp only[ai,decide_eq_true_eq,aZ];exact⟨λ⟨⟨h1,h2⟩,h3,h4,h5⟩=>⟨h1,h2,h3,h4,h5⟩,λh=>⟨⟨h.itm,h.Md⟩,h.len,h.lo,h.hi⟩⟩
structure ItF (c:Int)(it:bI):Prop where
 Nw:Vu it.Name=true
 nod:Val it.Node=true
 lo:1<=it.Version
 hi:it.Version<=c
theorem QV {c:Int}{it:bI} : LV c it=true<->ItF c it:=by unfold LV;simp only[ai,decide_eq_true_eq];exact⟨λ⟨h1,h2,h3,h4⟩=>⟨h1,h2,h3,h4⟩,λh=>⟨h.Nw,h.nod,h.lo,h.hi⟩⟩
theorem JH {s:aK}(h:Vu s=true):1<=s.length/\s.length<=8:=by unfold Vu at h;simp only[ai,decide_eq_true_eq]at h;exact h.2
theorem Si.it {s:StoreT}(h:Si s){i:Nat}(hi:i<s.Items.length):ItF s.Clock (s.Items.getD i default):=QV.1 (h.itm _ (getD_mem default hi))
theorem Si.fine {s:StoreT}(h:Si s):Jl 60 s:=
 ⟨by have:=h.len;omega,λit hi=>by have:=(JH (QV.1 (h.itm it hi)).Nw).2;omega,λit hi=>⟨5,zO (QV.1 (h.itm it hi)).nod⟩⟩
def aaE : StoreT:=StoreT.mk [] 0
theorem T.ab2.L1 {l:List bI}(t:aK)(hl:l.length<big)(hA:∀i j,i<j->j<(uZ l).length->bl ((uZ l).getD i default) ((uZ l).getD j default)=true) :
 ∀ (k i j:Nat),j-i<=k->i<=j->j<=l.length->(∀q,q<i->bl ((uZ l).getD q default) t=true)->(∀q,j<=q->q<(uZ l).length->bl ((uZ l).getD q default) t=false) ->
   ∃p:Nat,Ev (λf=>G.aI.L1 f l t i j) ((p:Int),decide (p<l.length)&&(l.getD p default).Name==t)/\LB (uZ l) t p:=by
 unfold big at hl;have cmp:∀i,Ev (λf=>G.ru f (l.getD i default) t) (jU (l.getD i default).Name t):=λi=>by
  refine Ev.up ?_;simp only[G.ru];have h1:Ev (λf=>G.strings_Compare f (l.getD i default).Name t) (jU (l.getD i default).Name t):=by
   refine Ev.up ?_;simp only[G.strings_Compare];have:Ev (λf=>G.iK f (l.getD i default).Name t) (jU (l.getD i default).Name t):=by refine Ev.up ?_;simp only[G.iK];exact Ev.ret _
   exact Ev.bind this (Ev.ret _)
  exact Ev.bind h1 (Ev.ret _)
 have neg:∀x y:aK,decide (jU x y<0)=bl x y:=λx y=>by
  rw[afN];cases h:bl x y with
  |true=>rw[if_pos rfl];rfl
  |false=>rw[if_neg (by simp)];by_cases e:x=y<;>simp[e]
 have eqz:∀x y:aK,(jU x y==0)=(x==y):=λx y=>by rw[pU,beq_iff_eq,beq_iff_eq];exact Tj
 intro k
 induction k with
 | zero=>
   intro i j hk hij hj hlo hhi;have:i=j:=(by omega);subst this;refine⟨i,Ev.up ?_,by rw[yN];exact hj,hlo,hhi⟩;simp only[G.aI.L1,ah];refine Ev.cf (by simp) (Ev.ite (λe=>?_) (λe=>Ev.ret' ?_))
   ·have e':i<l.length:=(by simpa using e);refine Ev.chk (by omega) (Ev.bind (cmp i) (Ev.ret' ?_));rw[eqz,decide_eq_true e',bU]
   ·have d1:decide (i<l.length)=false:=(by simpa using e);rw[d1];rfl
 | succ k ih=>
   intro i j hk hij hj hlo hhi;by_cases he:i=j
   ·exact ih i j (by omega) hij hj hlo hhi
   have h1:(i+j)/2<j:=(by omega);have h2:i<=(i+j)/2:=(by omega);have hat:=Ey (l:=l) (i:=(i+j)/2) (by omega);cases hc:bl ((uZ l).getD ((i+j)/2) default) t with
   | true=>
     obtain⟨p,g,hp⟩:=ih ((i+j)/2+1) j (by omega) (by omega) hj (λq hq=>by
      by_cases hq2:q=(i+j)/2
      ·rw[hq2];exact hc
      ·exact Cf (hA q ((i+j)/2) (by omega) (by rw[yN];omega)) hc) hhi
     refine⟨p,Ev.up ?_,hp⟩;simp only[G.aI.L1];refine Ev.ct (by simp;omega) ?_;rw[half i j (by omega),ah];refine Ev.chk (by omega) (Ev.bind (cmp _) (Ev.ct (by rw[neg,<- hat];exact hc) ?_));rw[dF (by omega)];exact g
   | false=>
     obtain⟨p,g,hp⟩:=ih i ((i+j)/2) (by omega) h2 (by omega) hlo (λq hq hq2=>by
      by_cases hq3:q=(i+j)/2
      ·rw[hq3];exact hc
      ·cases hb:bl ((uZ l).getD q default) t with
       |false=>rfl
       |true=>rw[Cf (hA ((i+j)/2) q (by omega) hq2) hb]at hc;cases hc)
     refine⟨p,Ev.up ?_,hp⟩;simp only[G.aI.L1];refine Ev.ct (by simp;omega) ?_;rw[half i j (by omega),ah];refine Ev.chk (by omega) (Ev.bind (cmp _) (Ev.cf (by rw[neg,<- hat];exact hc) ?_));exact g
theorem T.nR {l:List bI}(t:aK)(hl:l.length<big)(hA:Asc (uZ l)=true) :
 ∃p:Nat,Ev (λf=>G.nR f l t) ((p:Int),decide (p<l.length)&&(l.getD p default).Name==t)/\LB (uZ l) t p:=by
 obtain⟨p,g,hp⟩:=T.ab2.L1 t hl (FK hA) l.length 0 l.length (by omega) (by omega) (by omega) (λq hq=>by omega) (λq h1 h2=>by rw[yN]at h2;omega);refine⟨p,Ev.up ?_,hp⟩;simp only[G.nR];have g':Ev (λf=>G.aI f l t) ((p:Int),decide (p<l.length)&&(l.getD p default).Name==t):=by refine Ev.up ?_;simp only[G.aI];exact g
 exact Ev.bind g' (Ev.ret _)
end
section
def IK (x:bI):List bI->List bI
 |[]=>[x]
 |y::r=>if bl y.Name x.Name then y::IK x r else if y.Name=x.Name then x::r else x::y::r
def Ri (s:StoreT)(t:aK)(n:aj):StoreT:=StoreT.mk (IK (bI.mk t (s.Clock+1) n) s.Items) (s.Clock+1)
def L6 (s:StoreT)(t:aK)(n:aj):Option StoreT:=if N7 s&&Vu t&&Val n then(some (Ri s t n)).filter N7 else none
def WI : Option StoreT->StoreT×Bool
 |some s=>(s,true)
 |none=>(aaE,false)
theorem UX {s:StoreT} : WI ((some s).filter N7)=if N7 s then(s,true)else(aaE,false):=by cases h:N7 s<;>simp[oN,h,WI]
theorem Ny {y:bI}{r:List bI} : uZ (y::r)=y.Name::uZ r:=rfl
theorem Ze {x:bI} : ∀{l:List bI} {p:Nat},LB (uZ l) x.Name p->IK x l=if decide (p<l.length)&&(l.getD p default).Name==x.Name then l.set p x else l.take p++[x]++l.drop p
 | [],p,h=>by have:p=0:=(by have:=h.le;simpa[uZ]using this);subst this;rfl
 | y::r,0,h=>by
   have hb:bl y.Name x.Name=false:=h.hi 0 (by omega) (by rw[yN];simp);rw[IK,hb,if_neg (by simp)];by_cases e:y.Name=x.Name
   ·rw[if_pos e,if_pos (by simp[e])];rfl
   ·rw[if_neg e,if_neg (by simp[e])];rfl
 | y::r,p+1,h=>by
   have hb:bl y.Name x.Name=true:=h.lo 0 (by omega);have hr:LB (uZ r) x.Name p:=⟨by have:=h.le;rw[yN]at this⊢;simp at this;omega,λj hj=>by
    have:=h.lo (j+1) (by omega)
    rwa[Ny,oL]at this,λj h1 h2=>by
    have:=h.hi (j+1) (by omega) (by rw[Ny];simp;omega)
    rwa[Ny,oL]at this⟩
   rw[IK,if_pos hb,Ze hr];have e1:(decide (p+1<(y::r).length)&&((y::r).getD (p+1) default).Name==x.Name)=(decide (p<r.length)&&(r.getD p default).Name==x.Name):=(by simp);rw[e1];by_cases c:(decide (p<r.length)&&(r.getD p default).Name==x.Name)=true
   ·rw[if_pos c,if_pos c];rfl
   ·rw[if_neg c,if_neg c];rfl
theorem VE {y:bI}{r:List bI}(h:Asc (uZ (y::r))=true):Asc (uZ r)=true/\∀z,z∈r->bl y.Name z.Name=true:=by rw[Ny]at h;exact⟨Gs h,λz hz=>Ht h _ (List.mem_map.2 ⟨z,hz,rfl⟩)⟩
theorem Gx {x:bI} : ∀{l:List bI} {it:bI},Asc (uZ l)=true->(it∈IK x l<->it=x\/(it∈l/\it.Name≠x.Name))
 |[],it,_=>by simp[IK]
 | y::r,it,h=>by
   obtain⟨h1,h2⟩:=VE h;rw[IK];cases hb:bl y.Name x.Name with
   | true=>
     have hne:=GM hb;rw[if_pos rfl,cu,Gx h1,cu];constructor
     ·rintro(e|e|⟨e,e2⟩)
      ·exact .inr ⟨.inl e,e▸hne⟩
      ·exact .inl e
      ·exact .inr ⟨.inr e,e2⟩
     ·rintro(e|⟨e|e,e2⟩)
      ·exact .inr (.inl e)
      ·exact .inl e
      ·exact .inr (.inr ⟨e,e2⟩)
   | false=>
     rw[if_neg (by simp)];by_cases e:y.Name=x.Name
     ·rw[if_pos e,cu,cu];constructor
      ·rintro(q|q)
       ·exact .inl q
       ·exact .inr ⟨.inr q,λw=>by have:=GM (h2 it q);rw[e,w]at this;exact this rfl⟩
      ·rintro(q|⟨q|q,w⟩)
       ·exact .inl q
       ·exact absurd (q▸e) w
       ·exact .inr q
     ·rw[if_neg e,cu,cu];have hx:bl x.Name y.Name=true:=by
       cases k:bl x.Name y.Name with
       |true=>rfl
       |false=>exact absurd (Js hb k) e
      constructor
      ·rintro(q|q|q)
       ·exact .inl q
       ·exact .inr ⟨.inl q,q▸e⟩
       ·exact .inr ⟨.inr q,λw=>by have:=GM (Cf hx (h2 it q));rw[w]at this;exact this rfl⟩
      ·rintro(q|⟨q,_⟩)
       ·exact .inl q
       ·exact .inr q
theorem Rh {x:bI} : ∀{l:List bI},(IK x l).length<=l.length+1
 |[]=>by simp[IK]
 | y::r=>by
   have:=Rh (x:=x) (l:=r);rw[IK];split
   ·simp only[bH];omega
   ·split<;>simp
theorem T.wP {l:List bI}{x:bI}(hl:l.length<=1000)(hA:Asc (uZ l)=true):Ev (λf=>G.wP f l x) (IK x l):=by
 obtain⟨p,g,hp⟩:=T.nR x.Name (by unfold big;omega) hA;have hle:=hp.le;rw[yN]at hle;rw[Ze hp];refine Ev.up ?_;simp only[G.wP];refine Ev.bind g ?_;cases hc:decide (p<l.length)&&(l.getD p default).Name==x.Name with
 | true=>rw[if_pos rfl];simp only[ai,decide_eq_true_eq]at hc;exact Ev.ct rfl (Ev.chk (by omega) (Ev.ret' (by rw[ah])))
 | false=>rw[if_neg (by simp)];refine Ev.cf rfl (Ev.bind (Ev.up ?_) (Ev.ret _));simp only[G.nT];exact Ev.chk (by simp;omega) (Ev.ret' (by rw[ah]))
section
variable {B D:Nat} {s:StoreT} {t:aK} {n:aj} (hB:B<=lim) (h:Jl B s) (ht:t.length<=B) (hn:Fine B D n)
include hB h ht hn
theorem T.uK : Ev (λf=>G.uK f s t n) (WI (L6 s t n)):=by
 refine Ev.up ?_;simp only[G.uK];unfold L6;refine Ev.bind (T.dw hB h) (Ev.ite (λe1=>?_) (λe1=>Ev.ret' (by rw[e1];rfl)));refine Ev.bind (T.jV _ (by unfold big;unfold lim at hB;omega)) (Ev.ite (λe2=>?_) (λe2=>Ev.ret' (by rw[e1,e2];rfl)));refine Ev.bind (T.aX hB hn) (Ev.ite (λe3=>?_) (λe3=>Ev.ret' (by rw[e1,e2,e3];rfl)));have hs:=BN.1 e1;have hl:=hs.len;have hlo:=hs.lo;have hhi:=hs.hi;have w:af .i64 (s.Clock+1)=s.Clock+1:=by rw[Fg (by omega) (by omega)]
 rw[e1,e2,e3];refine Ev.bind (T.eu hB h) (Ev.bind (T.aP hB hn) ?_);rw[w];refine Ev.bind (T.wP (by omega) hs.Md) ?_;have hf:Jl 60 (Ri s t n):=by
  have:=Rh (x:=bI.mk t (s.Clock+1) n) (l:=s.Items);refine⟨by show(IK _ _).length<=_;omega,λit hi=>?_,λit hi=>?_⟩
  ·rcases(Gx hs.Md).1 hi with e|⟨e,_⟩
   ·rw[e];show t.length<=60;have:=(JH e2).2;omega
   ·exact hs.fine.Nw it e
  ·rcases(Gx hs.Md).1 hi with e|⟨e,_⟩
   ·rw[e];exact⟨5,zO e3⟩
   ·exact hs.fine.nod it e
 refine Ev.bind (T.dw zQ hf) ?_;show Ev _ (WI ((some (Ri s t n)).filter N7));rw[UX];cases hv:N7 (Ri s t n)with
 |true=>exact Ev.ct hv (Ev.ret _)
 |false=>exact Ev.cf hv (Ev.ret _)
end
section
variable {s:StoreT} {t:aK} {n:aj}
theorem T.mg.done (hl:s.Items.length<=1000):∀(k i:Nat) (z:List bI),i+k=s.Items.length->z.length<=i+1->(∀it,it∈s.Items.drop i->it.Name≠t) ->
 Ev (λf=>G.mg.L3 f s t n s true i z) (StoreT.mk (z++s.Items.drop i) (af .i64 (s.Clock+1))):=by
 intro k
 induction k with
 | zero=>intro i z hi hz _;refine Ev.up ?_;simp only[G.mg.L3];refine Ev.cf (decide_eq_false (by omega)) (Ev.ct rfl (Ev.ret' ?_));rw[ak (by omega),bM]
 | succ k ih=>intro i z hi hz hne;have hil:i<s.Items.length:=(by omega);have hd:=dP (default:bI) hil;rw[hd]at hne;have h1:=hne (s.Items.getD i default) (by simp);refine Ev.up ?_;simp only[G.mg.L3];refine Ev.ct (decide_eq_true (by omega)) (Ev.ct rfl (Ev.up ?_));simp only[G.mg.K4,ah,dF (show i+1<9223372036854775808 by omega)];refine Ev.chk (by omega) (Ev.cf (by simpa using h1) (Ev.chk (by omega) (Ev.chk (by omega) ?_)));refine(ih (i+1) _ (by omega) (by simp;omega) (λit hit=>hne it (by simp[hit]))).eq ?_;rw[hd];simp
theorem T.mg.more (hl:s.Items.length<=1000)(hA:Asc (uZ s.Items)=true):∀(k i:Nat) (z:List bI),i+k=s.Items.length->z.length<=i ->
 Ev (λf=>G.mg.L3 f s t n s false i z) (StoreT.mk (z++IK (bI.mk t (af .i64 (s.Clock+1)) n) (s.Items.drop i)) (af .i64 (s.Clock+1))):=by
 intro k
 induction k with
 | zero=>intro i z hi hz;refine Ev.up ?_;simp only[G.mg.L3];refine Ev.cf (decide_eq_false (by omega)) (Ev.cf rfl (Ev.chk (by omega) (Ev.ret' ?_)));rw[ak (by omega)];rfl
 | succ k ih=>
   intro i z hi hz;have hil:i<s.Items.length:=(by omega);have hd:=dP (default:bI) hil;have later:∀it,it∈s.Items.drop (i+1)->bl (s.Items.getD i default).Name it.Name=true:=λit hit=>by obtain⟨j,hj,e⟩:=List.mem_drop_iff_getElem.1 hit;have hj':i+1+j<s.Items.length:=(by omega);have:=FK hA i (i+1+j) (by omega) (by rw[yN];exact hj');rw[Ey hil,Ey hj',gu _ hj',e]at this;exact this
   refine Ev.up ?_;simp only[G.mg.L3,ah];rw[hd,IK];refine Ev.ct (decide_eq_true (by omega)) (Ev.cf rfl (Ev.chk (by omega) ?_));refine Ev.ite (λe=>?_) (λe=>?_)
   ·have e:bl (s.Items.getD i default).Name t=true:=e;rw[if_pos e];refine Ev.up ?_;simp only[G.mg.K4,ah,dF (show i+1<9223372036854775808 by omega)];refine Ev.chk (by omega) (Ev.cf (by simpa using GM e) (Ev.chk (by omega) (Ev.chk (by omega) ?_)));refine(ih (i+1) _ (by omega) (by simp;omega)).eq ?_;simp
   ·have e:bl (s.Items.getD i default).Name t=false:=e;rw[if_neg (by simp only[e];simp)];refine Ev.chk (by omega) (Ev.up ?_);simp only[G.mg.K4,ah,dF (show i+1<9223372036854775808 by omega)];refine Ev.chk (by omega) (Ev.ite (λe2=>?_) (λe2=>?_))
    ·have e2:(s.Items.getD i default).Name=t:=(by simpa using e2);rw[if_pos e2];refine(T.mg.done hl k (i+1) _ (by omega) (by simp;omega) (λit hit w=>by have:=GM (later it hit);rw[e2,w]at this;exact this rfl)).eq ?_;simp
    ·have e2:(s.Items.getD i default).Name≠t:=(by simpa using e2);rw[if_neg e2];have hx:bl t (s.Items.getD i default).Name=true:=by
      cases q:bl t (s.Items.getD i default).Name with
      |true=>rfl
      |false=>exact absurd (Js e q) e2
     refine Ev.chk (by omega) (Ev.chk (by simp;omega) ?_);refine(T.mg.done hl k (i+1) _ (by omega) (by simp;omega) (λit hit w=>by have:=GM (Cf hx (later it hit));rw[w]at this;exact this rfl)).eq ?_;simp
end
section
variable {B D:Nat} {s:StoreT} {t:aK} {n:aj} (hB:B<=lim) (h:Jl B s)
include hB h
theorem T.mg (hn:Fine B D n)(hs:Si s):Ev (λf=>G.mg f s t n) (Ri s t n):=by have hl:=hs.len;have hlo:=hs.lo;have hhi:=hs.hi;refine Ev.up ?_;simp only[G.mg];refine Ev.bind (T.aY hB hn) (Ev.bind (T.fK hB h) ?_);refine(T.mg.more (by omega) hs.Md s.Items.length 0 [] (by omega) (by simp)).eq ?_;rw[Fg (by omega) (by omega)];rfl
theorem ada (hs:Si s)(ht:Vu t=true)(hn:Val n=true):Jl 60 (Ri s t n):=by
 have:=Rh (x:=bI.mk t (s.Clock+1) n) (l:=s.Items);have:=hs.len;refine⟨by show(IK _ _).length<=_;omega,λit hi=>?_,λit hi=>?_⟩
 ·rcases(Gx hs.Md).1 hi with e|⟨e,_⟩
  ·rw[e];show t.length<=60;have:=(JH ht).2;omega
  ·exact hs.fine.Nw it e
 ·rcases(Gx hs.Md).1 hi with e|⟨e,_⟩
  ·rw[e];exact⟨5,zO hn⟩
  ·exact hs.fine.nod it e
end
theorem WO {s m:StoreT}{t:aK}{n:aj}(h:L6 s t n=some m):N7 s=true/\Vu t=true/\Val n=true/\m=Ri s t n/\N7 m=true:=by
 unfold L6 at h;split at h
 ·rename_i c;obtain⟨⟨c1,c2⟩,c3⟩:(N7 s=true/\Vu t=true)/\Val n=true:=by simpa using c
  obtain⟨h1,h2⟩:=wY.1 h;cases h1;exact⟨c1,c2,c3,rfl,h2⟩
 ·cases h
def Sj (l:List bI)(t:aK):Option Nat:=(aQ 0 l.length).find? λi=>(l.getD i default).Name==t
theorem Ic {l:List bI}{t:aK}{j:Nat} : Sj l t=some j<->(j<l.length/\(l.getD j default).Name=t/\∀q,q<j->(l.getD q default).Name≠t):=by
 unfold Sj;rw[Gp];constructor
 ·rintro⟨_,h2,h3,h4⟩;exact⟨by omega,by simpa using h3,λq hq=>by simpa using h4 q (by omega) hq⟩
 ·rintro⟨h2,h3,h4⟩;exact⟨by omega,by omega,by simpa using h3,λq _ hq=>by simpa using h4 q hq⟩
theorem V7 {l:List bI}{t:aK} : Sj l t=none<->∀it,it∈l->it.Name≠t:=by
 unfold Sj;rw[J4];constructor
 ·intro h it hit;obtain⟨i,hi,e⟩:=lI.1 hit;have:=h i (by omega) (by omega);rw[gu _ hi,e]at this;simpa using this
 ·intro h q _ hq;have:=h _ (getD_mem default (show q<l.length by omega));simpa using this
theorem T.oV {s:StoreT}(t:aK)(hl:s.Items.length<=lim):Ev (λf=>G.oV f s t) (Ik (Sj s.Items t)):=by
 unfold lim at hl;have L:∀(k i:Nat),i+k=s.Items.length->Ev (λf=>G.oV.L1 f s t i) (Ik ((aQ i k).find? λi=>(s.Items.getD i default).Name==t)):=by
  intro k
  induction k with
  | zero=>intro i hi;refine Ev.up ?_;simp only[G.oV.L1];exact Ev.cf (decide_eq_false (by omega)) (Ev.ret _)
  | succ k ih=>
    intro i hi;refine Ev.up ?_;simp only[G.oV.L1,ah,dF (show i+1<9223372036854775808 by omega)];rw[kH,yR];refine Ev.ct (decide_eq_true (by omega)) (Ev.chk (by omega) (Ev.ite (λe=>Ev.ret' ?_) (λe=>?_)))
    ·simp only[show((s.Items.getD i default).Name==t)=true from e];rfl
    ·simp only[show((s.Items.getD i default).Name==t)=false from e];exact ih (i+1) (by omega)
 refine Ev.up ?_;simp only[G.oV];exact L s.Items.length 0 (by omega)
def abU (s:StoreT)(t:aK):StoreT:=StoreT.mk (s.Items.filter λit=> !(it.Name==t)) (s.Clock+1)
def LX (s:StoreT)(t:aK):Option StoreT:=if N7 s&&(Sj s.Items t).isSome && !(s.Clock==999)then some (abU s t)else none
theorem T.ry {B:Nat}{s:StoreT}{t:aK}(hB:B<=lim)(h:Jl B s)(hs:Si s):Ev (λf=>G.ry f s t) (abU s t):=by
 have hl:=hs.len;have hlo:=hs.lo;have hhi:=hs.hi;have L:∀(k i:Nat) (z:List bI),i+k=s.Items.length->z.length<=i->Ev (λf=>G.ry.L1 f s t s i z) (StoreT.mk (z++(s.Items.drop i).filter λit=> !(it.Name==t)) (af .i64 (s.Clock+1))):=by
  intro k
  induction k with
  | zero=>intro i z hi hz;refine Ev.up ?_;simp only[G.ry.L1];refine Ev.cf (decide_eq_false (by omega)) (Ev.ret' ?_);rw[ak (by omega)];simp
  | succ k ih=>
    intro i z hi hz;have hil:i<s.Items.length:=(by omega);refine Ev.up ?_;simp only[G.ry.L1,ah,dF (show i+1<9223372036854775808 by omega)];rw[dP (default:bI) hil,List.filter_cons];refine Ev.ct (decide_eq_true (by omega)) (Ev.chk (by omega) (Ev.ite (λe=>?_) (λe=>?_)))
    ·rw[show((s.Items.getD i default).Name==t)=true from e];exact(ih (i+1) z (by omega) (by omega)).eq (by simp)
    ·rw[show((s.Items.getD i default).Name==t)=false from e];refine Ev.chk (by omega) (Ev.chk (by omega) ?_);exact(ih (i+1) _ (by omega) (by simp;omega)).eq (by simp)
 refine Ev.up ?_;simp only[G.ry];refine Ev.bind (T.fK hB h) ((L s.Items.length 0 [] (by omega) (by simp)).eq ?_);rw[Fg (by omega) (by omega)];rfl
theorem aem {l m:List aK}(h:l.Sublist m)(hm:Asc m=true):Asc l=true:=Bh.2 ((Bh.1 hm).sublist h)
theorem abW {s m:StoreT}{t:aK}(h:LX s t=some m):N7 s=true/\(Sj s.Items t).isSome=true/\s.Clock≠999/\m=abU s t/\N7 m=true:=by
 unfold LX at h;split at h
 ·rename_i c;obtain⟨⟨c1,c2⟩,c3⟩:(N7 s=true/\(Sj s.Items t).isSome=true)/\s.Clock≠999:=by simpa using c
  cases h;have hs:=BN.1 c1;refine⟨c1,c2,c3,rfl,BN.2 ⟨λit hit=>?_,?_,?_,?_,?_⟩⟩
  ·have:=QV.1 (hs.itm it (List.mem_filter.1 hit).1);have hhi:=this.hi;exact QV.2 ⟨this.Nw,this.nod,this.lo,by show it.Version<=s.Clock+1;omega⟩
  ·exact aem (List.Sublist.map _ List.filter_sublist) hs.Md
  ·show(s.Items.filter _).length<=10;exact iP (List.length_filter_le _ _) hs.len
  ·show 0<=s.Clock+1;have:=hs.lo;omega
  ·show s.Clock+1<=999;have:=hs.hi;omega
 ·cases h
end
theorem adt : N7 aaE=true:=by decide
section
def okH (b:UInt8):Bool:=(decide (48<=b.toNat)&&decide (b.toNat<=57))||(decide (97<=b.toNat)&&decide (b.toNat<=102))
def G6 (s:aK):Bool:=s.all okH&&decide (s.length=4)
def G7 (s:aK):Bool:=s==[42]||G6 s
def Aj (l:List aK):Bool:=l.all G7&&decide (l.length<=4)
def hexD : aK:=[48,49,50,51,52,53,54,55,56,57,97,98,99,100,101,102]
theorem aeH : ∀n:Nat,n<256->decide (eY hexD (eU n)<0) = !okH (eU n):=by decide +kernel
theorem af2 (b:UInt8):decide (eY hexD b<0) = !okH b:=by
 have:=aeH b.toNat b.toNat_lt
 rwa[Ai]at this
theorem T.lH (s:aK)(hs:s.length<big):Ev (λf=>G.lH f s) (G6 s):=by
 unfold big at hs;have L:∀(k i:Nat),i+k=s.length->Ev (λf=>G.lH.L1 f s i) ((s.drop i).all okH&&decide (s.length=4)):=by
  intro k
  induction k with
  | zero=>intro i hi;refine Ev.up ?_;simp only[G.lH.L1];refine Ev.cf (decide_eq_false (by omega)) (Ev.ret' ?_);rw[ak (by omega),vM,bU,pU,beq_iff_eq,decide_eq_true_eq];omega
  | succ k ih=>
    intro i hi;refine Ev.up ?_;simp only[G.lH.L1,ah,Ia,dF (show i+1<9223372036854775808 by omega)];rw[dP (0:UInt8) (by omega:i<s.length),dI];have e1:(decide ((48:Int)<=((s.getD i 0).toNat:Int))&&decide (((s.getD i 0).toNat:Int)<=57))=(decide (48<=(s.getD i 0).toNat)&&decide ((s.getD i 0).toNat<=57)):=(by congr 1<;>(apply decide_eq_decide.2;omega));have e2:(decide ((97:Int)<=((s.getD i 0).toNat:Int))&&decide (((s.getD i 0).toNat:Int)<=102))=(decide (97<=(s.getD i 0).toNat)&&decide ((s.getD i 0).toNat<=102)):=(by congr 1<;>(apply decide_eq_decide.2;omega));refine Ev.ct (decide_eq_true (by omega)) (Ev.chk (by omega) (Ev.bind (T.fZ _ _ _) ?_));rw[e1];refine Ev.ite (λh=>?_) (λh=>?_)
    ·refine(ih (i+1) (by omega)).eq ?_;unfold okH;rw[show(decide (48<=(s.getD i 0).toNat)&&decide ((s.getD i 0).toNat<=57))=true from h,yH,bU]
    ·refine Ev.chk (by omega) (Ev.bind (T.fZ _ _ _) ?_);rw[e2];refine Ev.ite (λh2=>?_) (λh2=>Ev.ret' ?_)
     ·refine(ih (i+1) (by omega)).eq ?_;unfold okH;rw[show(decide (97<=(s.getD i 0).toNat)&&decide ((s.getD i 0).toNat<=102))=true from h2,xh,bU]
     ·unfold okH;rw[show(decide (48<=(s.getD i 0).toNat)&&decide ((s.getD i 0).toNat<=57))=false from h,show(decide (97<=(s.getD i 0).toNat)&&decide ((s.getD i 0).toNat<=102))=false from h2];rfl
 refine Ev.up ?_;simp only[G.lH];exact L s.length 0 (by omega)
theorem T.nN (s:aK)(hs:s.length<big):Ev (λf=>G.nN f s) (G6 s):=by
 unfold big at hs;have hI:∀b:UInt8,Ev (λf=>G.strings_IndexByte f [48,49,50,51,52,53,54,55,56,57,97,98,99,100,101,102] (b.toNat:Int)) (eY hexD b):=λb=>by refine Ev.up ?_;simp only[G.strings_IndexByte];refine Ev.bind (Ev.up ?_) (Ev.ret _);simp only[G.jQ];refine Ev.ret' ?_;rw[ah,show b.toNat.toUInt8=b from Ai];rfl
 have L:∀(k i:Nat),i+k=s.length->Ev (λf=>G.nN.L1 f s i) ((s.drop i).all okH):=by
  intro k
  induction k with
  | zero=>intro i hi;refine Ev.up ?_;simp only[G.nN.L1];refine Ev.cf (decide_eq_false (by omega)) (Ev.ret' ?_);rw[ak (by omega)];rfl
  | succ k ih=>
    intro i hi;refine Ev.up ?_;simp only[G.nN.L1,ah,dF (show i+1<9223372036854775808 by omega)];rw[dP (0:UInt8) (by omega:i<s.length),dI];refine Ev.ct (decide_eq_true (by omega)) (Ev.chk (by omega) (Ev.bind (hI _) ?_));rw[af2];refine Ev.ite (λh=>Ev.ret' ?_) (λh=>(ih (i+1) (by omega)).eq ?_)
    ·have:okH (s.getD i 0)=false:=(by simpa using h);rw[this];rfl
    ·have:okH (s.getD i 0)=true:=(by simpa using h);rw[this];rfl
 refine Ev.up ?_;simp only[G.nN];unfold G6;refine Ev.ite (λe=>Ev.ret' ?_) (λe=>?_)
 ·have:¬s.length=4:=by
   have:(s.length:Int)≠4:=(by simpa using e);omega
  rw[decide_eq_false this,qC]
 ·have:s.length=4:=by
   have:(s.length:Int)=4:=(by simpa using e);omega
  exact(L s.length 0 (by omega)).eq (by rw[decide_eq_true this,oJ,bW])
theorem T.iy {l:List aK}(h:Sm l):Ev (λf=>G.iy f l) (Aj l):=by
 have hl:=h.1;unfold big at hl;have L:∀(k i:Nat),i+k=l.length->Ev (λf=>G.iy.L1 f l i) ((l.drop i).all G7&&decide (l.length<=4)):=by
  intro k
  induction k with
  | zero=>intro i hi;refine Ev.up ?_;simp only[G.iy.L1];refine Ev.cf (decide_eq_false (by omega)) (Ev.ret' ?_);rw[ak (by omega),vM,bU];apply decide_eq_decide.2;omega
  | succ k ih=>intro i hi;refine Ev.up ?_;simp only[G.iy.L1,ah,dF (show i+1<9223372036854775808 by omega)];rw[dP (default:aK) (by omega:i<l.length),dI];unfold G7;refine Ev.ct (decide_eq_true (by omega)) (Ev.chk (by omega) (Ev.ite (λe=>(ih (i+1) (by omega)).eq (by rw[e];rfl)) (λe=>Ev.chk (by omega) (Ev.bind (T.lH _ (h.get (by omega))) ?_))));exact Ev.ite (λe2=>(ih (i+1) (by omega)).eq (by rw[e,e2];rfl)) (λe2=>Ev.ret' (by rw[e,e2];rfl))
 refine Ev.up ?_;simp only[G.iy];exact L l.length 0 (by omega)
theorem T.jk {l:List aK}(h:Sm l):Ev (λf=>G.jk f l) (Aj l):=by
 have hl:=h.1;unfold big at hl;have L:∀(k i:Nat),i+k=l.length->Ev (λf=>G.jk.L1 f l i) ((l.drop i).all G7):=by
  intro k
  induction k with
  | zero=>intro i hi;refine Ev.up ?_;simp only[G.jk.L1];refine Ev.cf (decide_eq_false (by omega)) (Ev.ret' ?_);rw[ak (by omega)];rfl
  | succ k ih=>intro i hi;refine Ev.up ?_;simp only[G.jk.L1,ah,dF (show i+1<9223372036854775808 by omega)];rw[dP (default:aK) (by omega:i<l.length),dI];unfold G7;refine Ev.ct (decide_eq_true (by omega)) (Ev.chk (by omega) (Ev.ite (λe=>(ih (i+1) (by omega)).eq (by rw[e];rfl)) (λe=>Ev.bind (T.nN _ (h.get (by omega))) ?_)));exact Ev.ite (λe2=>(ih (i+1) (by omega)).eq (by rw[e,e2];rfl)) (λe2=>Ev.ret' (by rw[e,e2];rfl))
 refine Ev.up ?_;simp only[G.jk];unfold Aj;refine Ev.ite (λe=>Ev.ret' ?_) (λe=>(L l.length 0 (by omega)).eq ?_)
 ·rw[decide_eq_false (show ¬l.length<=4 by simp only[decide_eq_true_eq]at e;omega),qC]
 ·rw[decide_eq_true (show l.length<=4 by simp only[decide_eq_false_iff_not]at e;omega),oJ,bW]
structure KF (B:Nat)(q:RequestT):Prop where
 Nw:q.Name.length<=B
 want:xC B q.Want
 avoid:xC B q.oP
 body:abw B q.Body
 ops:KE q.Ops
def Pq (q:RequestT):Bool:=(decide (1<=q.Method)&&decide (q.Method<=5))&&(Vu q.Name&&(Aj q.Want&&(Aj q.oP&&(Val q.Body&&FM q.Ops))))
section
variable {B:Nat} {q:RequestT} (hB:B<=lim) (h:KF B q)
include hB h
theorem T.kY : Ev (λf=>G.kY f q) (Pq q):=by obtain⟨E,hb⟩:=h.body;have hn:=h.Nw;unfold lim at hB;refine Ev.up ?_;simp only[G.kY];unfold Pq;refine Ev.bind (T.fZ _ _ _) (Ev.ite (λe1=>?_) (λe1=>Ev.ret' (by rw[e1];rfl)));refine Ev.bind (T.jc _ (by unfold big;omega)) (Ev.ite (λe2=>?_) (λe2=>Ev.ret' (by rw[e1,e2];rfl)));refine Ev.bind (T.iy (h.want.sm (by unfold lim;omega))) (Ev.ite (λe3=>?_) (λe3=>Ev.ret' (by rw[e1,e2,e3];rfl)));refine Ev.bind (T.iy (h.avoid.sm (by unfold lim;omega))) (Ev.ite (λe4=>?_) (λe4=>Ev.ret' (by rw[e1,e2,e3,e4];rfl)));refine Ev.bind (T.fB (by unfold lim;omega) hb) (Ev.ite (λe5=>?_) (λe5=>Ev.ret' (by rw[e1,e2,e3,e4,e5];rfl)));exact Ev.bind (T.gG h.ops) (Ev.ret' (by rw[e1,e2,e3,e4,e5];rfl))
theorem T.lT : Ev (λf=>G.lT f q) (Pq q):=by obtain⟨E,hb⟩:=h.body;have hn:=h.Nw;unfold lim at hB;refine Ev.up ?_;simp only[G.lT];unfold Pq;refine Ev.ite (λe0=>?_) (λe0=>Ev.ret' (by rw[e0];rfl));refine Ev.ite (λe1=>?_) (λe1=>Ev.ret' (by rw[e0,e1];rfl));refine Ev.bind (T.jV _ (by unfold big;omega)) (Ev.ite (λe2=>?_) (λe2=>Ev.ret' (by rw[e0,e1,e2];rfl)));refine Ev.bind (T.jk (h.want.sm (by unfold lim;omega))) (Ev.ite (λe3=>?_) (λe3=>Ev.ret' (by rw[e0,e1,e2,e3];rfl)));refine Ev.bind (T.jk (h.avoid.sm (by unfold lim;omega))) (Ev.ite (λe4=>?_) (λe4=>Ev.ret' (by rw[e0,e1,e2,e3,e4];rfl)));refine Ev.bind (T.aX (by unfold lim;omega) hb) (Ev.ite (λe5=>?_) (λe5=>Ev.ret' (by rw[e0,e1,e2,e3,e4,e5];rfl)));exact Ev.bind (T.fH h.ops) (Ev.ret' (by rw[e0,e1,e2,e3,e4,e5];rfl))
end
structure afd (l:List RequestT):Prop where
 len:l.length<=1000
 req:∀q,q∈l->KF 60 q
theorem afd.at_ {l:List RequestT}(h:afd l){i:Nat}(hi:i<l.length):KF 60 (l.getD i default):=h.req _ (getD_mem default hi)
end
end Go.Ab
