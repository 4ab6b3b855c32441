/- The functions of the program that the laws reach: what they compute, the proofs that they do, the laws of the data (part 2). No conditions. -/
import Derived.Test.YtcoolhkhnglfgaaGreatDoorC1
set_option linter.unusedVariables false
set_option linter.unusedSimpArgs false
set_option maxRecDepth 100000
set_option maxHeartbeats 4000000
set_option linter.defProp false
set_option linter.unusedSectionVars false
open And renaming intro->kW
open Bool renaming false_or->Jn,and_eq_true->ah,true_and->bQ,or_eq_true->iJ,eq_iff_iff->pg,and_true->pz,and_false->rD,and_eq_false_iff->sU,false_and->uO,or_true->zJ,true_or->zK
open Go.IntKind renaming wrap->af,bits->iK,signed->xm
open Go.Lib renaming indexByte->dX,compareBytes->jI,itoa->uy
open Go.Op renaming bytesLess->iL
open Int renaming toNat_natCast->ai,tmod->lq,tdiv->nV,ofNat_zero->pU,toNat_sub->qM,sub_zero->rE
open List renaming cons_prefix_cons->AX,foldl_nil->Bf,zip_append->D8,getElem_zip->Dz,zip->EN,set_cons_zero->FT,take_of_length_le->aF,range'->aQ,mem_append->aW,map->ag,drop_of_length_le->ak,length_append->ay,length_singleton->bC,flatMap_cons->bF,map_cons->bJ,mem_singleton->bM,replicate->bU,drop_zero->bZ,all_eq_true->bg,getD->bu,mem_cons->cO,length_cons->dB,all_cons->dJ,getElem_mem->dO,cons_append->dY,length_take->dZ,append_assoc->dh,eq_nil_of_length_eq_zero->di,append_nil->eX,length_drop->fH,mem_of_mem_take->fJ,length_nil->gI,nil_append->gJ,take_succ_eq_append_getElem->iH,mem_iff_getElem->jM,range'_succ->jV,length->kE,length_map->kJ,map_nil->kM,foldl_cons->lT,drop->mM,mem_of_mem_drop->mP,length_pos_iff->mZ,take_length->oP,mem_or_eq_of_mem_set->qR,sum_cons->qV,map_append->sK,take->uF,foldl_append->uS,getD_cons_succ->uz,map_take->vF,all_nil->wz,map_drop->xE,take_append_drop->xP,getD_cons_zero->yC,drop_eq_getElem_cons->yX,find?_cons->yj,length_set->yl
open List.cons renaming injEq->vX
open Nat renaming le_mul_of_pos_right->Ae,le_refl->au,mul_le_mul_right->bD,le_trans->ig,add_sub_cancel->jb,sub_zero->o6,mod_lt->xN,pow_succ->xX
open Option renaming bind_some->gz,bind->jc,map_none->kX,map_some->lU,filter->oH,map_eq_some_iff->pY,filter_eq_some_iff->vZ,isSome_iff_exists->zH
open Option.some renaming injEq->aJ,inj->yt
open Prod.mk renaming injEq->aI
open UInt8 renaming ofNat->dR,toNat_inj->nZ,ofNat_toNat->zB
namespace Go.Ab
open Go
def C.lX : bW:=(qs [qI 2 0] [0] (.seq (qs [zM 3 0] [3] (qc 3 (qr [qI 2 1] [2]) .skip)) (qr [qI 2 0] [2])))
theorem K.lX : iR pZ 202 1 0 C.lX [.tmp 2]=true:=by kernel_rfl
def C.qo : bW:=(qs [qI 4 0] [0,1] (qr [zM 5 0,zM 6 1,qb 7 .gtr 5 6,q1 8 202 7,zM 9 0,zM 10 1,qb 11 .lss 9 10,q1 12 202 11,qb 13 .sub 8 12,zM 4 13] [4]))
theorem K.qo : iR pZ 179 2 0 C.qo [.tmp 4]=true:=by kernel_rfl
def C.oD : bW:=(qs [qI 4 0] [0,1] (qr [zM 5 0,zM 6 1,qb 7 .gtr 5 6,q1 8 202 7,zM 9 0,zM 10 1,qb 11 .lss 9 10,q1 12 202 11,qb 13 .sub 8 12,zM 4 13] [4]))
theorem K.oD : iR pZ 180 2 0 C.oD [.tmp 4]=true:=by kernel_rfl
def C.iG : bW:=(qs [qX 2 10 0,qX 3 11 1,qI 4 0] [2,3] (.seq (qs [qA 7 0 2,qF 8 1 7,qA 9 0 3,qF 10 1 9,qb 11 .neq 8 10] [2,3,11] (qc 11 (qr [qA 12 0 2,qF 13 1 12,qA 14 0 3,qF 15 1 14,q2 16 179 13 15,zM 4 16] [4]) .skip)) (.seq (qs [qA 17 1 2,qF 18 1 17,qA 19 1 3,qF 20 1 19,qb 21 .neq 18 20] [2,3,21] (qc 21 (qr [qA 22 1 2,qF 23 1 22,qA 24 1 3,qF 25 1 24,q2 26 179 23 25,zM 4 26] [4]) .skip)) (.seq (qs [qA 27 2 2,qF 28 1 27,qA 29 2 3,qF 30 1 29,qb 31 .neq 28 30] [2,3,31] (qc 31 (qr [qA 32 2 2,qF 33 1 32,qA 34 2 3,qF 35 1 34,q2 36 180 33 35,zM 4 36] [4]) .skip)) (.seq (qs [qI 5 0] [2,3,5] (.block 0 (.loop (.seq (qs [zM 37 5,qA 38 4 2,qF 39 1 38,qL 40 39,qb 41 .lss 37 40,zM 42 41,qm 42 true 43 5,zG 42 true 44 (.jZ 4 (.t 3)),zG 42 true 45 (.load false 1 (.t 44)),zG 42 true 46 (.len (.t 45)),zG 42 true 47 (.bin .lss (.t 43) (.t 46)),qP 48 42 47] [2,3,5,48] (qc 48 .skip (.exit 0))) (.seq (.block 1 (.seq (.seq (.qj [(qA 51 0 2,[]),(qF 52 1 51,[0]),(qk 53 .eql 52 4,[0,1]),(zM 54 53,[0,1,2]),(zG 54 true 55 (.jZ 3 (.t 2)),[0,1,2,3]),(zG 54 true 56 (.load false 1 (.t 55)),[0,1,2,3,4]),(qm 54 true 57 5,[0,1,2,3]),(zG 54 true 58 (.vN 1 (.t 56) (.t 57)),[0,1,2,3,4,5,6]),(zG 54 true 59 (.load false 1 (.t 58)),[0,1,2,3,4,5,6,7]),(zG 54 true 60 (.jZ 3 (.t 3)),[0,1,2,3]),(zG 54 true 61 (.load false 1 (.t 60)),[0,1,2,3,9]),(qm 54 true 62 5,[0,1,2,3]),(zG 54 true 63 (.vN 1 (.t 61) (.t 62)),[0,1,2,3,9,10,11]),(zG 54 true 64 (.load false 1 (.t 63)),[0,1,2,3,9,10,11,12]),(zG 54 true 65 (.bin .neq (.t 59) (.t 64)),[0,1,2,3,4,5,6,7,8,9,10,11,12,13]),(qP 66 54 65,[0,1,2,3,4,5,6,7,8,9,10,11,12,13,14])] [2,3,5,66]) (qc 66 (.seq (.qj [(qA 67 3 2,[]),(qF 68 1 67,[0]),(zM 69 5,[]),(qD 70 1 68 69,[0,1,2]),(qF 71 1 70,[0,1,2,3]),(qA 72 3 3,[]),(qF 73 1 72,[5]),(zM 74 5,[]),(qD 75 1 73 74,[5,6,7]),(qF 76 1 75,[5,6,7,8]),(q2 77 180 71 76,[0,1,2,3,4,5,6,7,8,9]),(zM 4 77,[0,1,2,3,4,5,6,7,8,9,10])] [4]) .ret) .skip)) (.seq (.qj [(qA 78 4 2,[]),(qF 79 1 78,[0]),(zM 80 5,[]),(qD 81 5 79 80,[0,1,2]),(qT 82 5 81,[0,1,2,3]),(qA 83 4 3,[]),(qF 84 1 83,[5]),(zM 85 5,[]),(qD 86 5 84 85,[5,6,7]),(qT 87 5 86,[5,6,7,8]),(q2 88 143 82 87,[0,1,2,3,4,5,6,7,8,9]),(zM 6 88,[0,1,2,3,4,5,6,7,8,9,10])] [2,3,5,6]) (qs [zM 89 6,qk 90 .neq 89 0] [2,3,5,6,90] (qc 90 (qr [zM 91 6,zM 4 91] [4]) .skip))))) (.reg [zM 49 5,qk 50 .add 49 1,zM 5 50] [2,3,5])))))) (qr [qA 92 4 2,qF 93 1 92,qL 94 93,qA 95 4 3,qF 96 1 95,qL 97 96,q2 98 179 94 97,zM 4 98] [4]))))))
theorem K.iG : iR pZ 143 2 0 C.iG [.tmp 4]=true:=by kernel_rfl
def C.vz : bW:=(qs [qX 2 10 0,qX 3 11 1,qB 4 false] [2,3] (qr [qT 5 5 2,qT 6 5 3,q2 7 143 5 6,qk 8 .eql 7 0,zM 4 8] [4]))
theorem K.vz : iR pZ 98 2 0 C.vz [.tmp 4]=true:=by kernel_rfl
def C.kZ : bW:=(qs [qX 1 10 0,zA 2 (.alloc 11 [lN 0,.jC 1,.jC 1,lN 0,lN 0,.c (.str []),.jC 1,.jC 5]),qB 3 false] [1,2] (.seq (qs [qT 8 5 1,q1 9 57 8,qO 10 9,zM 11 10,zG 11 false 12 (.jZ 0 (.t 1)),zG 11 false 13 (.load false 1 (.t 12)),zG 11 false 14 (.bin .neq (.t 13) (kI 4)),qQ 15 11 14,zM 16 15,zG 16 false 17 (.jZ 4 (.t 1)),zG 16 false 18 (.load false 1 (.t 17)),zG 16 false 19 (.len (.t 18)),zG 16 false 20 (.bin .neq (.t 19) (kI 4)),qQ 21 16 20] [1,2,21] (qc 21 (qr [zA 22 (.build [lN 0,.jC 1,.jC 1,lN 0,lN 0,.c (.str []),.jC 1,.jC 5] []),qS 8 2 22,qB 3 false] [2,3]) .skip)) (qs [⟨none,some 23,.call 95 []⟩,zM 4 23] [1,2,4] (qs [qI 5 0] [1,2,4,5] (.seq (qs [qI 6 1] [1,2,4,5,6] (.block 0 (.loop (.seq (qs [zM 24 6,zM 25 4,qL 26 25,qb 27 .lss 24 26] [1,2,4,5,6,27] (qc 27 .skip (.exit 0))) (.seq (.block 1 (.seq (.qj [(qA 30 4 1,[]),(qF 31 1 30,[0]),(zA 32 (.vN 5 (.t 31) (kI 1)),[0,1]),(qA 33 2 32,[0,1,2]),(qF 34 1 33,[0,1,2,3]),(zM 35 4,[]),(zM 36 6,[]),(qD 37 1 35 36,[5,6]),(qF 38 1 37,[5,6,7]),(qb 39 .eql 34 38,[0,1,2,3,4,5,6,7,8])] [1,2,4,5,6,39]) (qc 39 (.reg [zM 40 6,zM 5 40] [1,2,4,5,6]) .skip))) (.reg [zM 28 6,qk 29 .add 28 1,zM 6 29] [1,2,4,5,6])))))) (.seq (.qj [(zM 41 5,[]),(qA 42 4 1,[]),(qF 43 1 42,[1]),(zA 44 (.vN 5 (.t 43) (kI 2)),[1,2]),(qT 45 5 44,[1,2,3]),(q1 46 96 45,[1,2,3,4]),(qA 47 4 1,[]),(qF 48 1 47,[6]),(zA 49 (.vN 5 (.t 48) (kI 0)),[6,7]),(qT 50 5 49,[6,7,8]),(q1 51 96 50,[1,2,3,4,5,6,7,8,9]),(qA 52 4 1,[]),(qF 53 1 52,[11]),(zA 54 (.vN 5 (.t 53) (kI 3)),[11,12]),(qT 55 5 54,[11,12,13]),(q1 56 28 55,[1,2,3,4,5,6,7,8,9,10,11,12,13,14]),(zA 57 (.build [lN 0,.jC 1,.jC 1,lN 0,lN 0,.c (.str []),.jC 1,.jC 5] [(0,1,.t 41),(1,1,.t 46),(2,1,.t 51),(3,5,.t 56)]),[0,1,2,3,4,5,6,7,8,9,10,11,12,13,14,15]),(zA 7 (.alloc 12 [lN 0,.jC 1,.jC 1,lN 0,lN 0,.c (.str []),.jC 1,.jC 5]),[]),(qS 8 7 57,[0,1,2,3,4,5,6,7,8,9,10,11,12,13,14,15,16,17])] [1,2,7]) (.seq (.seq (.qj [(qT 58 8 7,[]),(q1 59 97 58,[0]),(qO 60 59,[0,1]),(zM 61 60,[0,1,2]),(zG 61 false 62 (.load true 8 (.t 7)),[0,1,2,3]),(⟨(some (61,false)),some 63,.call 59 [.t 62]⟩,[0,1,2,3,4]),(zG 61 false 64 (.load true 5 (.t 1)),[0,1,2,3]),(⟨(some (61,false)),some 65,.call 98 [.t 63,.t 64]⟩,[0,1,2,3,4,5,6]),(zG 61 false 66 (.not (.t 65)),[0,1,2,3,4,5,6,7]),(qQ 67 61 66,[0,1,2,3,4,5,6,7,8])] [2,7,67]) (qc 67 (qr [zA 68 (.build [lN 0,.jC 1,.jC 1,lN 0,lN 0,.c (.str []),.jC 1,.jC 5] []),qS 8 2 68,qB 3 false] [2,3]) .skip)) (qr [qT 69 8 7,qS 8 2 69,qB 3 true] [2,3]))))))))
theorem K.kZ : iR pZ 55 1 0 C.kZ [.cell 2 true 8,.tmp 3]=true:=by kernel_rfl
def C.l9 : bW:=(qs [zA 2 (.mv (.k (.jC 8))),qB 3 false] [0] (qs [zA 9 (.kT 10 8 0 [.lit (.int .i64 0),.sl 1 [],.sl 1 [],.lit (.int .i64 0),.lit (.int .i64 0),.str [],.sl 1 [],.sl 5 []] []),zM 4 9] [0,4] (.seq (.block 0 (.loop (.seq (qs [zM 10 0,ql 11 10,qk 12 .gtr 11 0,zM 13 12,qm 13 true 14 4,zG 13 true 15 (.len (.t 14)),zG 13 true 16 (.bin .leq (.t 15) (kI 12)),qP 17 13 16] [0,4,17] (qc 17 .skip (.exit 0))) (.block 1 (qs [zM 18 0,zA 19 (.build [.c (.str []),lN 0,.c (.lit (.bool false))] [(0,1,.t 18)]),qX 20 11 19,zM 5 20] [0,4,5] (qs [zM 21 5,⟨none,some 22,.call 54 [.t 21,kI 5]⟩,qZ 6 12,qS 5 6 22] [0,4,5,6] (qs [qT 24 5 6,q1 25 55 24,zM 23 25,qE 26 23 0,qE 27 23 1,zA 7 (.alloc 13 [lN 0,.jC 1,.jC 1,lN 0,lN 0,.c (.str []),.jC 1,.jC 5]),qS 8 7 26,zM 8 27] [0,4,5,7,8] (.seq (qs [zM 28 5,qN 29 28,qA 30 2 29,qF 31 1 30,zM 32 31,qm 32 false 33 8,zG 32 false 34 (.not (.t 33)),qQ 35 32 34,zM 36 35,qm 36 false 37 5,⟨(some (36,false)),some 38,.call 56 [.t 37]⟩,zG 36 false 39 (.bin .neq (.t 38) (.k (.c (.lit (.int .u8 59))))),qQ 40 36 39] [0,4,5,7,40] (qc 40 (qr [zA 2 (.mv (.k (.jC 8))),qB 3 false] [2,3]) .skip)) (qs [zM 41 4,qT 42 8 7,zA 43 (.kT 14 8 1 [.lit (.int .i64 0),.sl 1 [],.sl 1 [],.lit (.int .i64 0),.lit (.int .i64 0),.str [],.sl 1 [],.sl 5 []] [(0,.t 42)]),zA 44 (.append 15 8 136 (.t 41) (.t 43)),zM 4 44] [0,4,5] (.reg [zM 45 0,zM 46 5,qN 47 46,qA 48 1 47,qF 49 1 48,qk 50 .add 49 1,zA 51 (.G7 (.t 45) (some (.t 50)) none),zM 0 51] [0,4])))))))))) (qr [zM 52 4,zM 2 52,qB 3 true] [2,3]))))
theorem K.l9 : iR pZ 32 1 0 C.l9 [.tmp 2,.tmp 3]=true:=by kernel_rfl
def C.fG : bW:=(qs [zA 2 (.alloc 10 [lN 0,.c (.str []),.jC 1,.jC 1,lN 0,lN 0,.c (.str []),.jC 1,.jC 5,.jC 8]),qB 3 false] [0,2] (.seq (qs [zM 20 0,ql 21 20,qk 22 .gtr 21 2000] [0,2,22] (qc 22 (qr [zA 23 (.build [lN 0,.c (.str []),.jC 1,.jC 1,lN 0,lN 0,.c (.str []),.jC 1,.jC 5,.jC 8] []),qS 10 2 23,qB 3 false] [2,3]) .skip)) (qs [zM 25 0,q1 26 29 25,zM 24 26,qE 27 24 0,qE 28 24 1,zM 4 27,zM 5 28] [0,2,4,5] (qs [zM 30 5,q1 31 29 30,zM 29 31,qE 32 29 0,qE 33 29 1,zM 6 32,zM 7 33] [0,2,4,6,7] (qs [zM 35 7,q1 36 29 35,zM 34 36,qE 37 34 0,qE 38 34 1,zM 8 37,zM 9 38] [0,2,4,6,8,9] (qs [zM 40 9,q1 41 29 40,zM 39 41,qE 42 39 0,qE 43 39 1,zM 10 42,zM 11 43] [0,2,4,6,8,10,11] (qs [zM 44 6,zA 45 (.kT 11 1 0 [.str []] []),zA 46 (.kT 12 1 0 [.str []] []),zA 47 (.kT 13 8 0 [.lit (.int .i64 0),.sl 1 [],.sl 1 [],.lit (.int .i64 0),.lit (.int .i64 0),.str [],.sl 1 [],.sl 5 []] []),zA 48 (.build [lN 0,.c (.str []),.jC 1,.jC 1,lN 0,lN 0,.c (.str []),.jC 1,.jC 5,.jC 8] [(1,1,.t 44),(2,1,.t 45),(3,1,.t 46),(9,1,.t 47)]),zA 12 (.alloc 14 [lN 0,.c (.str []),.jC 1,.jC 1,lN 0,lN 0,.c (.str []),.jC 1,.jC 5,.jC 8]),qS 10 12 48] [0,2,4,8,10,11,12] (qs [⟨none,some 49,.call 30 []⟩,zM 13 49] [0,2,4,8,10,11,12,13] (.seq (qs [qI 14 1] [0,2,4,8,10,11,12,13,14] (.block 0 (.loop (.seq (qs [zM 50 14,zM 51 13,qL 52 51,qb 53 .lss 50 52] [0,2,4,8,10,11,12,13,14,53] (qc 53 .skip (.exit 0))) (.seq (.block 1 (qs [zM 56 13,zM 57 14,qD 58 1 56 57,qF 59 1 58,zM 60 4,qb 61 .eql 59 60] [0,2,4,8,10,11,12,13,14,61] (qc 61 (.reg [zM 62 14,qA 63 0 12,qU 1 63 62] [0,2,4,8,10,11,12,13,14]) .skip))) (.reg [zM 54 14,qk 55 .add 54 1,zM 14 55] [0,2,4,8,10,11,12,13,14])))))) (qs [zM 65 8,q1 66 31 65,zM 64 66,qE 67 64 0,qE 68 64 1,zM 15 67,zM 16 68] [0,2,10,11,12,15,16] (qs [zM 70 10,q1 71 31 70,zM 69 71,qE 72 69 0,qE 73 69 1,zM 17 72,zM 18 73] [0,2,11,12,15,16,17,18] (qs [qB 19 true] [0,2,11,12,15,16,17,18] (.cut (qs [qA 74 0 12,qF 75 1 74,qk 76 .eql 75 4] [0,2,11,12,15,16,17,18,76] (qc 76 (.reg [zM 78 11,q1 79 32 78,zM 77 79,qE 80 77 0,qE 81 77 1,qA 82 9 12,qU 1 82 80,zM 19 81] [0,2,12,15,16,17,18,19]) (.reg [zM 84 11,q1 85 33 84,zM 83 85,qE 86 83 0,qE 87 83 1,qA 88 4 12,qS 5 88 86,zM 19 87] [0,2,12,15,16,17,18,19]))) (qs [zM 89 15,qA 90 2 12,qU 1 90 89] [0,2,12,16,17,18,19] (qs [zM 91 17,qA 92 3 12,qU 1 92 91] [0,2,12,16,18,19] (.seq (qs [zM 93 16,qO 94 93,zM 95 94,qm 95 false 96 18,zG 95 false 97 (.not (.t 96)),qQ 98 95 97,zM 99 98,qm 99 false 100 19,zG 99 false 101 (.not (.t 100)),qQ 102 99 101,zM 103 102,zG 103 false 104 (.load true 10 (.t 12)),⟨(some (103,false)),some 105,.call 34 [.t 104]⟩,qm 103 false 106 0,zG 103 false 107 (.bin .neq (.t 105) (.t 106)),qQ 108 103 107,zM 109 108,qm 109 false 110 0,zG 109 false 111 (.bin .eql (.t 110) (.k (.c (.str [])))),qQ 112 109 111] [2,12,112] (qc 112 (qr [zA 113 (.build [lN 0,.c (.str []),.jC 1,.jC 1,lN 0,lN 0,.c (.str []),.jC 1,.jC 5,.jC 8] []),qS 10 2 113,qB 3 false] [2,3]) .skip)) (qr [qT 114 10 12,qS 10 2 114,qB 3 true] [2,3])))))))))))))))))
theorem K.fG : iR pZ 18 1 0 C.fG [.cell 2 true 10,.tmp 3]=true:=by kernel_rfl
def C.fE : bW:=(qs [qX 1 10 0,zA 2 (.alloc 11 [.jC 7,lN 0])] [1,2] (qs [zA 5 (.kT 12 7 0 [.str [],.lit (.int .i64 0),.lit (.int .i64 0),.lit (.int .i64 0),.str [],.sl 1 [],.sl 5 []] []),zM 3 5] [1,2,3] (.seq (qs [qI 4 0] [1,2,3,4] (.block 0 (.loop (.seq (qs [zM 6 4,qA 7 0 1,qF 8 1 7,qL 9 8,qb 10 .lss 6 9] [1,2,3,4,10] (qc 10 .skip (.exit 0))) (.seq (.block 1 (.qj [(zM 13 3,[]),(qA 14 0 1,[]),(qF 15 1 14,[1]),(zM 16 4,[]),(qD 17 7 15 16,[1,2,3]),(qA 18 0 17,[1,2,3,4]),(qF 19 1 18,[1,2,3,4,5]),(qA 20 0 1,[]),(qF 21 1 20,[7]),(zM 22 4,[]),(qD 23 7 21 22,[7,8,9]),(qA 24 1 23,[7,8,9,10]),(qF 25 1 24,[7,8,9,10,11]),(qA 26 0 1,[]),(qF 27 1 26,[13]),(zM 28 4,[]),(qD 29 7 27 28,[13,14,15]),(qA 30 2 29,[13,14,15,16]),(qT 31 5 30,[13,14,15,16,17]),(q1 32 28 31,[13,14,15,16,17,18]),(zA 33 (.build [.c (.str []),lN 0,lN 0,lN 0,.c (.str []),.jC 1,.jC 5] [(0,1,.t 19),(1,1,.t 25),(2,5,.t 32)]),[1,2,3,4,5,6,7,8,9,10,11,12,13,14,15,16,17,18,19]),(zA 34 (.kT 13 7 1 [.str [],.lit (.int .i64 0),.lit (.int .i64 0),.lit (.int .i64 0),.str [],.sl 1 [],.sl 5 []] [(0,.t 33)]),[1,2,3,4,5,6,7,8,9,10,11,12,13,14,15,16,17,18,19,20]),(zA 35 (.append 14 7 104 (.t 13) (.t 34)),[0,1,2,3,4,5,6,7,8,9,10,11,12,13,14,15,16,17,18,19,20,21]),(zM 3 35,[0,1,2,3,4,5,6,7,8,9,10,11,12,13,14,15,16,17,18,19,20,21,22])] [1,2,3,4])) (.reg [zM 11 4,qk 12 .add 11 1,zM 4 12] [1,2,3,4])))))) (qr [zM 36 3,qA 37 1 1,qF 38 1 37,zA 39 (.build [.jC 7,lN 0] [(0,1,.t 36),(1,1,.t 38)]),qS 2 2 39] [2]))))
theorem K.fE : iR pZ 17 1 0 C.fE [.cell 2 true 2]=true:=by kernel_rfl
def C.jE : bW:=(qs [qX 2 10 0,qI 4 0] [1,2] (.seq (qs [qI 5 0] [1,2,5] (.block 0 (.loop (.seq (qs [zM 6 5,qA 7 4 2,qF 8 1 7,qL 9 8,qb 10 .lss 6 9] [1,2,5,10] (qc 10 .skip (.exit 0))) (.seq (.block 1 (qs [qA 13 0 2,qF 14 1 13,qk 15 .eql 14 4,zM 16 15,zG 16 true 17 (.jZ 3 (.t 2)),zG 16 true 18 (.load false 1 (.t 17)),qm 16 true 19 5,zG 16 true 20 (.vN 1 (.t 18) (.t 19)),zG 16 true 21 (.load false 1 (.t 20)),qm 16 true 22 1,zG 16 true 23 (.bin .eql (.t 21) (.t 22)),qP 24 16 23,zM 25 24,zG 25 false 26 (.jZ 0 (.t 2)),zG 25 false 27 (.load false 1 (.t 26)),zG 25 false 28 (.bin .eql (.t 27) (kI 3)),qm 25 false 29 28,qm 29 true 30 5,⟨(some (29,true)),some 31,.call 15 [.t 30]⟩,qm 29 true 32 1,zG 29 true 33 (.bin .eql (.t 31) (.t 32)),zG 25 false 34 (.pick (.t 29) (.t 33) (kB false)),qQ 35 25 34] [1,2,5,35] (qc 35 (qr [zM 36 5,zM 4 36] [4]) .skip))) (.reg [zM 11 5,qk 12 .add 11 1,zM 5 12] [1,2,5])))))) (qr [qI 4 (-1)] [4])))
theorem K.jE : iR pZ 148 2 0 C.jE [.tmp 4]=true:=by kernel_rfl
def C.lV : bW:=(qs [qX 2 10 0,qI 4 0,qB 5 false] [1,2] (qs [qT 8 5 2,zM 9 1,q2 10 148 8 9,zM 6 10] [1,2,6] (.seq (qs [zM 11 6,qk 12 .geq 11 0] [1,2,6,12] (qc 12 (.seq (.qj [(zM 13 6,[]),(qA 14 0 2,[]),(qF 15 1 14,[1]),(qk 16 .eql 15 4,[1,2]),(zM 4 13,[0]),(zM 5 16,[0,1,2,3,4])] [4,5]) .ret) .skip)) (.seq (qs [qA 17 0 2,qF 18 1 17,qk 19 .eql 18 3,zM 20 19,qm 20 true 21 1,zG 20 true 22 (.bin .eql (.t 21) (.k (.c (.str [45])))),qm 20 true 23 22,qm 23 false 24 1,zG 23 false 25 (.jZ 4 (.t 2)),zG 23 false 26 (.load false 1 (.t 25)),zG 23 false 27 (.len (.t 26)),⟨(some (23,false)),some 28,.call 15 [.t 27]⟩,zG 23 false 29 (.bin .eql (.t 24) (.t 28)),zG 20 true 30 (.pick (.t 23) (kB true) (.t 29)),qP 31 20 30] [1,2,31] (qc 31 (qr [qA 32 4 2,qF 33 1 32,qL 34 33,zM 4 34,qB 5 false] [4,5]) .skip)) (.seq (qs [qI 7 0] [1,2,7] (.block 0 (.loop (.seq (qs [qA 35 0 2,qF 36 1 35,qk 37 .eql 36 4,zM 38 37,qm 38 true 39 7,zG 38 true 40 (.jZ 4 (.t 2)),zG 38 true 41 (.load false 1 (.t 40)),zG 38 true 42 (.len (.t 41)),zG 38 true 43 (.bin .leq (.t 39) (.t 42)),qP 44 38 43] [1,2,7,44] (qc 44 .skip (.exit 0))) (.seq (.block 1 (qs [zM 47 7,qA 48 4 2,qF 49 1 48,qL 50 49,qb 51 .eql 47 50,zM 52 51,qm 52 false 53 1,zG 52 false 54 (.jZ 3 (.t 2)),zG 52 false 55 (.load false 1 (.t 54)),qm 52 false 56 7,zG 52 false 57 (.vN 1 (.t 55) (.t 56)),zG 52 false 58 (.load false 1 (.t 57)),zG 52 false 59 (.bin .lss (.t 53) (.t 58)),qQ 60 52 59] [1,2,7,60] (qc 60 (qr [zM 61 7,zM 4 61,qB 5 false] [4,5]) .skip))) (.reg [zM 45 7,qk 46 .add 45 1,zM 7 46] [1,2,7])))))) (qr [qI 4 (-1),qB 5 false] [4,5]))))))
theorem K.lV : iR pZ 185 2 0 C.lV [.tmp 4,.tmp 5]=true:=by kernel_rfl
def C.oN : bW:=(qs [qX 3 10 0,qX 5 11 2,qZ 6 12] [1,3,5,6] (qs [qT 8 5 3,q1 9 28 8,qZ 7 13,qS 5 7 9] [1,5,6,7] (.seq (.qj [(qA 10 4 7,[]),(qF 11 1 10,[0]),(zM 12 1,[]),(qT 13 5 5,[]),(q1 14 28 13,[3]),(qD 15 5 11 12,[0,1,2,3,4]),(qS 5 15 14,[0,1,2,3,4,5])] [6,7]) (qr [qT 16 5 7,qS 5 6 16] [6]))))
theorem K.oN : iR pZ 150 3 0 C.oN [.cell 6 true 5]=true:=by kernel_rfl
def C.pR : bW:=(qs [qX 3 10 0,qX 5 11 2,qZ 6 12,qB 7 false] [1,3,5,6] (qs [qT 14 5 3,zM 15 1,q2 16 185 14 15,zM 13 16,qE 17 13 0,qE 18 13 1,zM 8 17,zM 9 18] [1,3,5,6,8,9] (.seq (qs [zM 19 8,qk 20 .lss 19 0] [1,3,5,6,8,9,20] (qc 20 (qr [zA 21 (.build zN []),qS 5 6 21,qB 7 false] [6,7]) .skip)) (.seq (qs [zM 22 9] [1,3,5,6,8,22] (qc 22 (qr [qT 23 5 3,zM 24 8,qT 25 5 5,q3 26 150 23 24 25,qS 5 6 26,qB 7 true] [6,7]) .skip)) (qs [qT 27 5 3,q1 28 28 27,qZ 10 13,qS 5 10 28] [1,3,5,6,8,10] (.seq (.qj [(zA 29 (.kT 14 5 0 [.lit (.int .i64 0),.lit (.int .i64 0),.str [],.sl 1 [],.sl 5 []] []),[]),(qA 30 4 10,[]),(qF 31 1 30,[1]),(zM 32 8,[]),(zA 33 (.Fe 5 (.t 31) none (some (.t 32))),[1,2,3]),(zA 34 (.append 15 5 80 (.t 29) (.t 33)),[0,1,2,3,4]),(qT 35 5 5,[]),(q1 36 28 35,[0,1,2,3,4,5,6]),(zA 37 (.kT 16 5 1 [.lit (.int .i64 0),.lit (.int .i64 0),.str [],.sl 1 [],.sl 5 []] [(0,.t 36)]),[0,1,2,3,4,5,6,7]),(zA 38 (.append 17 5 80 (.t 34) (.t 37)),[0,1,2,3,4,5,6,7,8]),(zM 11 38,[0,1,2,3,4,5,6,7,8,9])] [1,3,6,8,10,11]) (qs [zM 39 11,qA 40 4 10,qF 41 1 40,zM 42 8,zA 43 (.Fe 5 (.t 41) (some (.t 42)) none),zA 44 (.append 18 5 80 (.t 39) (.t 43)),zM 11 44] [1,3,6,8,10,11] (.seq (qs [qA 45 0 3,qF 46 1 45,qk 47 .eql 46 3] [1,3,6,8,10,11,47] (qc 47 (qr [qA 48 0 3,qF 49 1 48,zA 50 (.kT 19 1 0 [.str []] []),zM 51 11,zA 52 (.build zN [(0,1,.t 49),(3,1,.t 50),(4,1,.t 51)]),qS 5 6 52,qB 7 true] [6,7]) .skip)) (qs [zA 53 (.kT 20 1 0 [.str []] []),qA 54 3 10,qF 55 1 54,zM 56 8,zA 57 (.Fe 1 (.t 55) none (some (.t 56))),zA 58 (.append 21 1 16 (.t 53) (.t 57)),zM 59 1,zA 60 (.kT 22 1 1 [.str []] [(0,.t 59)]),zA 61 (.append 23 1 16 (.t 58) (.t 60)),zM 12 61] [3,6,8,10,11,12] (qs [zM 62 12,qA 63 3 10,qF 64 1 63,zM 65 8,zA 66 (.Fe 1 (.t 64) (some (.t 65)) none),zA 67 (.append 24 1 16 (.t 62) (.t 66)),zM 12 67] [3,6,11,12] (qr [qA 68 0 3,qF 69 1 68,zM 70 12,zM 71 11,zA 72 (.build zN [(0,1,.t 69),(3,1,.t 70),(4,1,.t 71)]),qS 5 6 72,qB 7 true] [6,7])))))))))))
theorem K.pR : iR pZ 151 3 0 C.pR [.cell 6 true 5,.tmp 7]=true:=by kernel_rfl
def C.sG : bW:=(qs [qX 2 10 0,qZ 4 11,qB 5 false] [1,2,4] (.seq (qs [qI 6 0] [1,2,4,6] (.block 0 (.loop (.seq (qs [zM 8 6,zM 9 1,qL 10 9,qb 11 .lss 8 10] [1,2,4,6,11] (qc 11 .skip (.exit 0))) (.seq (.block 1 (.seq (.qj [(qT 14 5 2,[]),(zM 15 1,[]),(zM 16 6,[]),(qD 17 1 15 16,[1,2]),(qF 18 1 17,[1,2,3]),(q2 19 148 14 18,[0,1,2,3,4]),(zM 7 19,[0,1,2,3,4,5])] [1,2,4,6,7]) (.seq (qs [zM 20 7,qk 21 .lss 20 0] [1,2,4,6,7,21] (qc 21 (qr [zA 22 (.build zN []),qS 5 4 22,qB 5 false] [4,5]) .skip)) (.reg [qA 23 4 2,qF 24 1 23,zM 25 7,qD 26 5 24 25,qT 27 5 26,qS 5 2 27] [1,2,4,6])))) (.reg [zM 12 6,qk 13 .add 12 1,zM 6 13] [1,2,4,6])))))) (qr [qT 28 5 2,q1 29 28 28,qS 5 4 29,qB 5 true] [4,5])))
theorem K.sG : iR pZ 183 2 0 C.sG [.cell 4 true 5,.tmp 5]=true:=by kernel_rfl
def C.oU : bW:=(qs [qX 3 10 0,qX 5 11 2,qZ 6 12,qB 7 false] [1,3,5,6] (.seq (qs [zM 11 1,qL 12 11,qk 13 .eql 12 0] [1,3,5,6,13] (qc 13 (qr [qT 14 5 5,q1 15 28 14,qS 5 6 15,qB 7 true] [6,7]) .skip)) (.seq (.qj [(qT 16 5 3,[]),(zM 17 1,[]),(zA 18 (.vN 1 (.t 17) (kI 0)),[1]),(qF 19 1 18,[1,2]),(q2 20 148 16 19,[0,1,2,3]),(zM 8 20,[0,1,2,3,4])] [1,3,5,6,8]) (.seq (qs [zM 21 8,qk 22 .lss 21 0] [1,3,5,6,8,22] (qc 22 (qr [zA 23 (.build zN []),qS 5 6 23,qB 7 false] [6,7]) .skip)) (.seq (.qj [(qA 25 4 3,[]),(qF 26 1 25,[0]),(zM 27 8,[]),(qD 28 5 26 27,[0,1,2]),(qT 29 5 28,[0,1,2,3]),(zM 30 1,[]),(zA 31 (.Fe 1 (.t 30) (some (kI 1)) none),[5]),(qT 32 5 5,[]),(q3 33 182 29 31 32,[0,1,2,3,4,5,6,7]),(zM 24 33,[0,1,2,3,4,5,6,7,8]),(qE 34 24 0,[0,1,2,3,4,5,6,7,8,9]),(qE 35 24 1,[0,1,2,3,4,5,6,7,8,9]),(qZ 9 13,[]),(qS 5 9 34,[0,1,2,3,4,5,6,7,8,9,10,12]),(zM 10 35,[0,1,2,3,4,5,6,7,8,9,10,11,12,13])] [3,6,8,9,10]) (.seq (qs [zM 36 10,qO 37 36] [3,6,8,9,37] (qc 37 (qr [zA 38 (.build zN []),qS 5 6 38,qB 7 false] [6,7]) .skip)) (qr [qT 39 5 3,zM 40 8,qT 41 5 9,q3 42 150 39 40 41,qS 5 6 42,qB 7 true] [6,7])))))))
theorem K.oU : iR pZ 182 3 0 C.oU [.cell 6 true 5,.tmp 7]=true:=by kernel_rfl
def C.tK : bW:=(qs [qX 3 10 0,qX 5 11 2,qZ 6 12,qB 7 false] [1,3,5,6] (.seq (qs [zM 13 1,qL 14 13,qk 15 .eql 14 0] [1,3,5,6,15] (qc 15 (qr [qT 16 5 5,q1 17 28 16,qS 5 6 17,qB 7 true] [6,7]) .skip)) (qs [zM 18 1,qL 19 18,qk 20 .sub 19 1,zM 8 20] [1,3,5,6,8] (.seq (.qj [(qT 22 5 3,[]),(zM 23 1,[]),(zM 24 8,[]),(zA 25 (.Fe 1 (.t 23) none (some (.t 24))),[1,2]),(q2 26 183 22 25,[0,1,2,3]),(zM 21 26,[0,1,2,3,4]),(qE 27 21 0,[0,1,2,3,4,5]),(qE 28 21 1,[0,1,2,3,4,5]),(qZ 9 13,[]),(qS 5 9 27,[0,1,2,3,4,5,6,8]),(zM 10 28,[0,1,2,3,4,5,6,7,8,9])] [1,3,5,6,8,9,10]) (.seq (qs [zM 29 10,qO 30 29] [1,3,5,6,8,9,30] (qc 30 (qr [zA 31 (.build zN []),qS 5 6 31,qB 7 false] [6,7]) .skip)) (.seq (.qj [(qT 33 5 9,[]),(zM 34 1,[]),(zM 35 8,[]),(qD 36 1 34 35,[1,2]),(qF 37 1 36,[1,2,3]),(qT 38 5 5,[]),(q3 39 151 33 37 38,[0,1,2,3,4,5]),(zM 32 39,[0,1,2,3,4,5,6]),(qE 40 32 0,[0,1,2,3,4,5,6,7]),(qE 41 32 1,[0,1,2,3,4,5,6,7]),(qZ 11 14,[]),(qS 5 11 40,[0,1,2,3,4,5,6,7,8,10]),(zM 12 41,[0,1,2,3,4,5,6,7,8,9,10,11])] [1,3,6,8,11,12]) (.seq (qs [zM 42 12,qO 43 42] [1,3,6,8,11,43] (qc 43 (qr [zA 44 (.build zN []),qS 5 6 44,qB 7 false] [6,7]) .skip)) (.seq (.qj [(qT 45 5 3,[]),(zM 46 1,[]),(zM 47 8,[]),(zA 48 (.Fe 1 (.t 46) none (some (.t 47))),[1,2]),(qT 49 5 11,[]),(q3 50 182 45 48 49,[0,1,2,3,4]),(qE 51 50 0,[0,1,2,3,4,5]),(qE 52 50 1,[0,1,2,3,4,5]),(qS 5 6 51,[0,1,2,3,4,5,6,7]),(zM 7 52,[0,1,2,3,4,5,6,7,8])] [6,7]) .ret))))))))
theorem K.tK : iR pZ 181 3 0 C.tK [.cell 6 true 5,.tmp 7]=true:=by kernel_rfl
def C.nC : bW:=(qs [qB 4 false] [0,1] (.seq (qs [qI 5 0] [0,1,5] (.block 0 (.loop (.seq (qs [zM 6 5,zM 7 1,qL 8 7,qb 9 .lss 6 8] [0,1,5,9] (qc 9 .skip (.exit 0))) (.seq (.block 1 (.seq (.qj [(zM 12 5,[]),(zM 13 0,[]),(qL 14 13,[1]),(qb 15 .geq 12 14,[0,1,2]),(zM 16 15,[0,1,2,3]),(qm 16 false 17 0,[0,1,2,3,4]),(qm 16 false 18 5,[0,1,2,3,4]),(zG 16 false 19 (.vN 1 (.t 17) (.t 18)),[0,1,2,3,4,5,6]),(zG 16 false 20 (.load false 1 (.t 19)),[0,1,2,3,4,5,6,7]),(qm 16 false 21 1,[0,1,2,3,4]),(qm 16 false 22 5,[0,1,2,3,4]),(zG 16 false 23 (.vN 1 (.t 21) (.t 22)),[0,1,2,3,4,9,10]),(zG 16 false 24 (.load false 1 (.t 23)),[0,1,2,3,4,9,10,11]),(zG 16 false 25 (.bin .neq (.t 20) (.t 24)),[0,1,2,3,4,5,6,7,8,9,10,11,12]),(qQ 26 16 25,[0,1,2,3,4,5,6,7,8,9,10,11,12,13])] [0,1,5,26]) (qc 26 (qr [qB 4 false] [4]) .skip))) (.reg [zM 10 5,qk 11 .add 10 1,zM 5 11] [0,1,5])))))) (qr [qB 4 true] [4])))
theorem K.nC : iR pZ 184 2 0 C.nC [.tmp 4]=true:=by kernel_rfl
def C.kz : bW:=(qs [qX 2 10 0,qZ 4 11,qB 5 false] [1,2,4] (qs [zM 12 1,qL 13 12,qk 14 .sub 13 1,zM 6 14] [1,2,4,6] (.seq (qs [zM 15 6,qk 16 .lss 15 0] [1,2,4,6,16] (qc 16 (qr [zA 17 (.build zN []),qS 5 4 17,qB 5 false] [4,5]) .skip)) (.seq (.qj [(qT 19 5 2,[]),(zM 20 1,[]),(zM 21 6,[]),(zA 22 (.Fe 1 (.t 20) none (some (.t 21))),[1,2]),(q2 23 183 19 22,[0,1,2,3]),(zM 18 23,[0,1,2,3,4]),(qE 24 18 0,[0,1,2,3,4,5]),(qE 25 18 1,[0,1,2,3,4,5]),(qZ 7 12,[]),(qS 5 7 24,[0,1,2,3,4,5,6,8]),(zM 8 25,[0,1,2,3,4,5,6,7,8,9])] [1,2,4,6,7,8]) (.seq (qs [zM 26 8,qO 27 26] [1,2,4,6,7,27] (qc 27 (qr [zA 28 (.build zN []),qS 5 4 28,qB 5 false] [4,5]) .skip)) (.seq (.qj [(qT 29 5 7,[]),(zM 30 1,[]),(zM 31 6,[]),(qD 32 1 30 31,[1,2]),(qF 33 1 32,[1,2,3]),(q2 34 148 29 33,[0,1,2,3,4]),(zM 9 34,[0,1,2,3,4,5])] [1,2,4,6,7,9]) (.seq (qs [zM 35 9,qk 36 .lss 35 0] [1,2,4,6,7,9,36] (qc 36 (qr [zA 37 (.build zN []),qS 5 4 37,qB 5 false] [4,5]) .skip)) (.seq (.qj [(zA 38 (.kT 13 5 0 [.lit (.int .i64 0),.lit (.int .i64 0),.str [],.sl 1 [],.sl 5 []] []),[]),(qA 39 4 7,[]),(qF 40 1 39,[1]),(zM 41 9,[]),(zA 42 (.Fe 5 (.t 40) none (some (.t 41))),[1,2,3]),(zA 43 (.append 14 5 80 (.t 38) (.t 42)),[0,1,2,3,4]),(qA 44 4 7,[]),(qF 45 1 44,[6]),(zM 46 9,[]),(qk 47 .add 46 1,[8]),(zA 48 (.Fe 5 (.t 45) (some (.t 47)) none),[6,7,8,9]),(zA 49 (.append 15 5 80 (.t 43) (.t 48)),[0,1,2,3,4,5,6,7,8,9,10]),(zM 10 49,[0,1,2,3,4,5,6,7,8,9,10,11])] [1,2,4,6,7,9,10]) (qs [zA 50 (.kT 16 1 0 [.str []] []),zM 11 50] [1,2,4,6,7,9,10,11] (.cut (qs [qA 51 0 7,qF 52 1 51,qk 53 .eql 52 4] [1,2,4,6,7,9,10,11,53] (qc 53 (.qj [(zA 54 (.kT 17 1 0 [.str []] []),[]),(qA 55 3 7,[]),(qF 56 1 55,[1]),(zM 57 9,[]),(zA 58 (.Fe 1 (.t 56) none (some (.t 57))),[1,2,3]),(zA 59 (.append 18 1 16 (.t 54) (.t 58)),[0,1,2,3,4]),(qA 60 3 7,[]),(qF 61 1 60,[6]),(zM 62 9,[]),(qk 63 .add 62 1,[8]),(zA 64 (.Fe 1 (.t 61) (some (.t 63)) none),[6,7,8,9]),(zA 65 (.append 19 1 16 (.t 59) (.t 64)),[0,1,2,3,4,5,6,7,8,9,10]),(zM 11 65,[0,1,2,3,4,5,6,7,8,9,10,11])] [1,2,4,6,7,10,11]) .skip)) (.seq (.qj [(qT 66 5 2,[]),(zM 67 1,[]),(zM 68 6,[]),(zA 69 (.Fe 1 (.t 67) none (some (.t 68))),[1,2]),(qA 70 0 7,[]),(qF 71 1 70,[4]),(zM 72 11,[]),(zM 73 10,[]),(zA 74 (.build zN [(0,1,.t 71),(3,1,.t 72),(4,1,.t 73)]),[4,5,6,7]),(q3 75 182 66 69 74,[0,1,2,3,4,5,6,7,8]),(qE 76 75 0,[0,1,2,3,4,5,6,7,8,9]),(qE 77 75 1,[0,1,2,3,4,5,6,7,8,9]),(qS 5 4 76,[0,1,2,3,4,5,6,7,8,9,10,11]),(zM 5 77,[0,1,2,3,4,5,6,7,8,9,10,11,12])] [4,5]) .ret)))))))))))
theorem K.kz : iR pZ 149 2 0 C.kz [.cell 4 true 5,.tmp 5]=true:=by kernel_rfl
def C.kV : bW:=(qs [qX 2 10 0,qX 3 11 1,qZ 4 12,qB 5 false] [2,3,4] (.seq (qs [qA 11 0 3,qF 12 1 11] [2,3,4,12] (.block 0 (qs [qk 14 .eql 12 1,zM 13 14] [2,3,4,12,13] (qc 13 (qr [qT 15 5 2,qA 16 1 3,qF 17 1 16,qA 18 3 3,qT 19 5 18,q3 20 181 15 17 19,qE 21 20 0,qE 22 20 1,qS 5 4 21,zM 5 22] [4,5]) (qs [qk 24 .eql 12 2,zM 23 24] [2,3,4,12,23] (qc 23 (qr [qT 25 5 2,qA 26 1 3,qF 27 1 26,q2 28 149 25 27,qE 29 28 0,qE 30 28 1,qS 5 4 29,zM 5 30] [4,5]) (qs [qk 32 .eql 12 3,zM 31 32] [2,3,4,31] (qc 31 (qr [qT 33 5 2,qA 34 1 3,qF 35 1 34,qA 36 3 3,qT 37 5 36,q3 38 182 33 35 37,qE 39 38 0,qE 40 38 1,qS 5 4 39,zM 5 40] [4,5]) .skip)))))))) (qs [qA 41 2 3,qF 42 1 41,zM 6 42] [2,3,4,6] (.cut (qs [qA 43 0 3,qF 44 1 43,qk 45 .eql 44 6] [2,3,4,6,45] (qc 45 (.reg [qA 46 1 3,qF 47 1 46,zM 6 47] [2,3,4,6]) .skip)) (qs [qT 49 5 2,zM 50 6,q2 51 183 49 50,zM 48 51,qE 52 48 0,qE 53 48 1,qZ 7 13,qS 5 7 52,zM 8 53] [2,3,4,7,8] (.seq (qs [zM 54 8,qO 55 54] [2,3,4,7,55] (qc 55 (qr [zA 56 (.build zN []),qS 5 4 56,qB 5 false] [4,5]) .skip)) (.seq (qs [qA 57 0 3,qF 58 1 57] [2,3,4,7,58] (.block 1 (qs [qk 60 .eql 58 6,zM 59 60] [2,3,4,7,58,59] (qc 59 (.seq (.qj [(qT 61 5 2,[]),(qT 62 5 7,[]),(qA 63 3 3,[]),(qT 64 5 63,[2]),(q2 65 98 62 64,[1,2,3]),(qS 5 4 61,[0,1,2,3,4]),(zM 5 65,[0,1,2,3,4,5])] [4,5]) .ret) (qs [qk 67 .eql 58 5,zM 66 67] [2,3,4,7,66] (qc 66 (qr [qT 68 5 2,qA 69 1 3,qF 70 1 69,qT 71 5 7,q3 72 181 68 70 71,qE 73 72 0,qE 74 72 1,qS 5 4 73,zM 5 74] [4,5]) .skip)))))) (.seq (qs [qA 75 1 3,qF 76 1 75,qA 77 2 3,qF 78 1 77,q2 79 184 76 78] [2,3,4,7,79] (qc 79 (.seq (.qj [(qT 80 5 2,[]),(q1 81 28 80,[0]),(qA 82 1 3,[]),(qF 83 1 82,[2]),(qL 84 83,[2,3]),(qA 85 2 3,[]),(qF 86 1 85,[5]),(qL 87 86,[5,6]),(qb 88 .eql 84 87,[2,3,4,5,6,7]),(qS 5 4 81,[0,1]),(zM 5 88,[0,1,2,3,4,5,6,7,8,9])] [4,5]) .ret) .skip)) (qs [qT 90 5 2,qA 91 2 3,qF 92 1 91,q2 93 149 90 92,zM 89 93,qE 94 89 0,qE 95 89 1,qZ 9 14,qS 5 9 94,zM 10 95] [3,4,7,9,10] (.seq (qs [zM 96 10,qO 97 96] [3,4,7,9,97] (qc 97 (qr [zA 98 (.build zN []),qS 5 4 98,qB 5 false] [4,5]) .skip)) (qr [qT 99 5 9,qA 100 1 3,qF 101 1 100,qT 102 5 7,q3 103 181 99 101 102,qE 104 103 0,qE 105 103 1,qS 5 4 104,zM 5 105] [4,5])))))))))))
theorem K.kV : iR pZ 147 2 0 C.kV [.cell 4 true 5,.tmp 5]=true:=by kernel_rfl
def C.o9 : bW:=(qs [qX 2 10 0,qZ 4 11,qB 5 false] [1,2,4] (.seq (qs [zM 6 1,qO 7 6,zM 8 7,zG 8 false 9 (.load true 5 (.t 2)),⟨(some (8,false)),some 10,.call 57 [.t 9]⟩,zG 8 false 11 (.not (.t 10)),qQ 12 8 11] [2,4,12] (qc 12 (qr [zA 13 (.build zN []),qS 5 4 13,qB 5 false] [4,5]) .skip)) (qr [qT 14 5 2,qS 5 4 14,qB 5 true] [4,5])))
theorem K.o9 : iR pZ 111 2 0 C.o9 [.cell 4 true 5,.tmp 5]=true:=by kernel_rfl
def C.pJ : bW:=(qs [qX 2 10 0,qX 3 11 1,qZ 4 12,qB 5 false] [2,3,4] (qs [qT 9 5 2,qT 10 8 3,q2 11 147 9 10,qE 12 11 0,qE 13 11 1,q2 14 111 12 13,zM 8 14,qE 15 8 0,qE 16 8 1,qZ 6 13,qS 5 6 15,zM 7 16] [4,6,7] (.seq (qs [zM 17 7,qO 18 17] [4,6,18] (qc 18 (qr [zA 19 (.build zN []),qS 5 4 19,qB 5 false] [4,5]) .skip)) (qr [qT 20 5 6,q1 21 28 20,qS 5 4 21,qB 5 true] [4,5]))))
theorem K.pJ : iR pZ 110 2 0 C.pJ [.cell 4 true 5,.tmp 5]=true:=by kernel_rfl
def C.jA : bW:=(qs [qX 2 10 0,qZ 4 11,qB 5 false] [1,2,4] (.seq (qs [qT 10 5 2,q1 11 57 10,qO 12 11,zM 13 12,qm 13 false 14 1,⟨(some (13,false)),some 15,.call 102 [.t 14]⟩,zG 13 false 16 (.not (.t 15)),qQ 17 13 16] [1,2,4,17] (qc 17 (qr [zA 18 (.build zN []),qS 5 4 18,qB 5 false] [4,5]) .skip)) (qs [qT 19 5 2,q1 20 28 19,qZ 6 12,qS 5 6 20] [1,4,6] (.seq (qs [qI 7 0] [1,4,6,7] (.block 0 (.loop (.seq (qs [zM 21 7,zM 22 1,qL 23 22,qb 24 .lss 21 23] [1,4,6,7,24] (qc 24 .skip (.exit 0))) (.seq (.block 1 (.seq (.qj [(qT 28 5 6,[]),(zM 29 1,[]),(zM 30 7,[]),(qD 31 8 29 30,[1,2]),(qT 32 8 31,[1,2,3]),(q2 33 110 28 32,[0,1,2,3,4]),(zM 27 33,[0,1,2,3,4,5]),(qE 34 27 0,[0,1,2,3,4,5,6]),(qE 35 27 1,[0,1,2,3,4,5,6]),(qZ 8 13,[]),(qS 5 8 34,[0,1,2,3,4,5,6,7,9]),(zM 9 35,[0,1,2,3,4,5,6,7,8,9,10])] [1,4,6,7,8,9]) (.seq (qs [zM 36 9,qO 37 36] [1,4,6,7,8,37] (qc 37 (qr [zA 38 (.build zN []),qS 5 4 38,qB 5 false] [4,5]) .skip)) (.reg [qT 39 5 8,qS 5 6 39] [1,4,6,7])))) (.reg [zM 25 7,qk 26 .add 25 1,zM 7 26] [1,4,6,7])))))) (qr [qT 40 5 6,qS 5 4 40,qB 5 true] [4,5])))))
theorem K.jA : iR pZ 67 2 0 C.jA [.cell 4 true 5,.tmp 5]=true:=by kernel_rfl
def C.jD : bW:=(qs [qX 2 10 0,qX 3 11 1,qZ 4 12] [2,3,4] (.seq (qs [qA 9 0 3,qF 10 1 9,qk 11 .neq 10 4] [2,3,4,11] (qc 11 (qr [qT 12 5 3,q1 13 28 12,qS 5 4 13] [4]) .skip)) (qs [zA 14 (.kT 13 1 0 [.str []] []),zA 15 (.kT 14 5 0 [.lit (.int .i64 0),.lit (.int .i64 0),.str [],.sl 1 [],.sl 5 []] []),zA 16 (.build zN [(0,1,kI 4),(3,1,.t 14),(4,1,.t 15)]),qZ 5 15,qS 5 5 16] [2,3,4,5] (.cut (qs [qA 17 0 2,qF 18 1 17,qk 19 .eql 18 4] [2,3,4,5,19] (qc 19 (.reg [qT 20 5 2,q1 21 28 20,qS 5 5 21] [3,4,5]) .skip)) (.seq (qs [qI 6 0] [3,4,5,6] (.block 0 (.loop (.seq (qs [zM 22 6,qA 23 4 3,qF 24 1 23,qL 25 24,qb 26 .lss 22 25] [3,4,5,6,26] (qc 26 .skip (.exit 0))) (.seq (.block 1 (qs [qA 29 3 3,qF 30 1 29,zM 31 6,qD 32 1 30 31,qF 33 1 32,zM 7 33] [3,4,5,6,7] (qs [qT 34 5 5,zM 35 7,q2 36 148 34 35,zM 8 36] [3,4,5,6,7,8] (.block 2 (qs [qA 38 4 3,qF 39 1 38,zM 40 6,qD 41 5 39 40,qA 42 0 41,qF 43 1 42,qk 44 .eql 43 0,zM 45 44,qm 45 true 46 8,zG 45 true 47 (.bin .geq (.t 46) (kI 0)),qP 48 45 47,zM 37 48] [3,4,5,6,7,8,37] (qc 37 (.reg [qT 50 5 5,zM 51 7,zA 52 (.kT 16 1 1 [.str []] [(0,.t 51)]),q2 53 149 50 52,zM 49 53,qE 54 49 0,qE 55 49 1,qS 5 5 54] [3,4,5,6]) (qs [qA 57 4 3,qF 58 1 57,zM 59 6,qD 60 5 58 59,qA 61 0 60,qF 62 1 61,qk 63 .neq 62 0,zM 64 63,qm 64 true 65 8,zG 64 true 66 (.bin .geq (.t 65) (kI 0)),qP 67 64 66,zM 56 67] [3,4,5,6,7,8,56] (qc 56 (.qj [(qT 68 5 5,[]),(zM 69 8,[]),(qA 70 4 5,[]),(qF 71 1 70,[2]),(zM 72 8,[]),(qD 73 5 71 72,[2,3,4]),(qT 74 5 73,[2,3,4,5]),(qA 75 4 3,[]),(qF 76 1 75,[7]),(zM 77 6,[]),(qD 78 5 76 77,[7,8,9]),(qT 79 5 78,[7,8,9,10]),(q2 80 112 74 79,[2,3,4,5,6,7,8,9,10,11]),(q3 81 150 68 69 80,[0,1,2,3,4,5,6,7,8,9,10,11,12]),(qS 5 5 81,[0,1,2,3,4,5,6,7,8,9,10,11,12,13])] [3,4,5,6]) (qs [qA 83 4 3,qF 84 1 83,zM 85 6,qD 86 5 84 85,qA 87 0 86,qF 88 1 87,qk 89 .neq 88 0,zM 82 89] [3,4,5,6,7,82] (qc 82 (.qj [(qT 91 5 5,[]),(zM 92 7,[]),(zA 93 (.build zN []),[]),(qA 94 4 3,[]),(qF 95 1 94,[3]),(zM 96 6,[]),(qD 97 5 95 96,[3,4,5]),(qT 98 5 97,[3,4,5,6]),(q2 99 112 93 98,[2,3,4,5,6,7]),(q3 100 151 91 92 99,[0,1,2,3,4,5,6,7,8]),(zM 90 100,[0,1,2,3,4,5,6,7,8,9]),(qE 101 90 0,[0,1,2,3,4,5,6,7,8,9,10]),(qE 102 90 1,[0,1,2,3,4,5,6,7,8,9,10]),(qS 5 5 101,[0,1,2,3,4,5,6,7,8,9,10,11])] [3,4,5,6]) .skip)))))))))) (.reg [zM 27 6,qk 28 .add 27 1,zM 6 28] [3,4,5,6])))))) (qr [qT 103 5 5,qS 5 4 103] [4]))))))
theorem K.jD : iR pZ 112 2 0 C.jD [.cell 4 true 5]=true:=by kernel_rfl
def C.pI : bW:=(qs [qX 2 10 0,qX 3 11 1,qZ 4 12,qB 5 false] [2,3,4] (.seq (qs [qT 6 5 2,q1 7 57 6,qO 8 7,zM 9 8,zG 9 false 10 (.load true 5 (.t 3)),⟨(some (9,false)),some 11,.call 57 [.t 10]⟩,zG 9 false 12 (.not (.t 11)),qQ 13 9 12] [2,3,4,13] (qc 13 (qr [zA 14 (.build zN []),qS 5 4 14,qB 5 false] [4,5]) .skip)) (qr [qT 15 5 2,qT 16 5 3,q2 17 112 15 16,⟨none,some 18,.call 111 [.t 17,.k (.c (.lit (.bool true)))]⟩,qE 19 18 0,qE 20 18 1,qS 5 4 19,zM 5 20] [4,5])))
theorem K.pI : iR pZ 68 2 0 C.pI [.cell 4 true 5,.tmp 5]=true:=by kernel_rfl
def C.oz : bW:=(qs [zA 2 (.alloc 10 [lN 0,.c (.str []),lN 0,lN 0,lN 0,.c (.str []),.jC 1,.jC 5])] [0,2] (qr [zM 3 0,zA 4 (.build [lN 0,.c (.str []),lN 0,lN 0,lN 0,.c (.str []),.jC 1,.jC 5] [(0,1,.t 3)]),qS 8 2 4] [2]))
theorem K.oz : iR pZ 62 1 0 C.oz [.cell 2 true 8]=true:=by kernel_rfl
def C.mW : bW:=(qs [qB 4 false] [0,1] (.seq (qs [qI 5 0] [0,1,5] (.block 0 (.loop (.seq (qs [zM 6 5,zM 7 0,qL 8 7,qb 9 .lss 6 8] [0,1,5,9] (qc 9 .skip (.exit 0))) (.seq (.block 1 (qs [zM 12 0,zM 13 5,qD 14 1 12 13,qF 15 1 14,zM 16 1,qb 17 .eql 15 16,zM 18 17,qm 18 false 19 0,qm 18 false 20 5,zG 18 false 21 (.vN 1 (.t 19) (.t 20)),zG 18 false 22 (.load false 1 (.t 21)),zG 18 false 23 (.bin .eql (.t 22) (.k (.c (.str [42])))),qQ 24 18 23] [0,1,5,24] (qc 24 (qr [qB 4 true] [4]) .skip))) (.reg [zM 10 5,qk 11 .add 10 1,zM 5 11] [0,1,5])))))) (qr [qB 4 false] [4])))
theorem K.mW : iR pZ 105 2 0 C.mW [.tmp 4]=true:=by kernel_rfl
def C.uJ : bW:=(qs [qI 8 0] [0,1,2,3] (.seq (qs [zM 9 0,qL 10 9,qk 11 .gtr 10 0,zM 12 11,qm 12 true 13 2,zG 12 true 14 (.bin .eql (.t 13) (.k (.c (.str [])))),qm 12 true 15 14,qm 15 false 16 0,qm 15 false 17 2,⟨(some (15,false)),some 18,.call 105 [.t 16,.t 17]⟩,zG 15 false 19 (.not (.t 18)),zG 12 true 20 (.pick (.t 15) (kB true) (.t 19)),qP 21 12 20] [1,2,3,21] (qc 21 (qr [qI 8 412] [8]) .skip)) (.seq (qs [zM 22 1,qL 23 22,qk 24 .gtr 23 0,zM 25 24,qm 25 true 26 2,zG 25 true 27 (.bin .neq (.t 26) (.k (.c (.str [])))),qP 28 25 27,zM 29 28,qm 29 true 30 1,qm 29 true 31 2,⟨(some (29,true)),some 32,.call 105 [.t 30,.t 31]⟩,qP 33 29 32] [3,33] (qc 33 (.seq (qs [zM 34 3] [34] (qc 34 (qr [qI 8 304] [8]) .skip)) (qr [qI 8 412] [8])) .skip)) (qr [qI 8 200] [8]))))
theorem K.uJ : iR pZ 63 4 0 C.uJ [.tmp 8]=true:=by kernel_rfl
def C.qx : bW:=(qs [qX 2 10 0,zA 4 (.alloc 11 [.jC 7,lN 0])] [1,2,4] (qs [zA 8 (.kT 12 7 0 [.str [],.lit (.int .i64 0),.lit (.int .i64 0),.lit (.int .i64 0),.str [],.sl 1 [],.sl 5 []] []),zM 5 8] [1,2,4,5] (qs [qT 9 2 2,q1 10 17 9,zA 11 (.field false 0 1 (.t 10)),zM 6 11] [1,2,4,5,6] (.seq (qs [qI 7 0] [1,2,4,5,6,7] (.block 0 (.loop (.seq (qs [zM 12 7,zM 13 6,qL 14 13,qb 15 .lss 12 14] [1,2,4,5,6,7,15] (qc 15 .skip (.exit 0))) (.seq (.block 1 (qs [zM 18 6,zM 19 7,qD 20 7 18 19,qA 21 0 20,qF 22 1 21,zM 23 1,qb 24 .neq 22 23] [1,2,4,5,6,7,24] (qc 24 (.reg [zM 25 5,zM 26 6,zM 27 7,qD 28 7 26 27,qT 29 7 28,zA 30 (.kT 13 7 1 [.str [],.lit (.int .i64 0),.lit (.int .i64 0),.lit (.int .i64 0),.str [],.sl 1 [],.sl 5 []] [(0,.t 29)]),zA 31 (.append 14 7 104 (.t 25) (.t 30)),zM 5 31] [1,2,4,5,6,7]) .skip))) (.reg [zM 16 7,qk 17 .add 16 1,zM 7 17] [1,2,4,5,6,7])))))) (qr [zM 32 5,qA 33 1 2,qF 34 1 33,qk 35 .add 34 1,zA 36 (.build [.jC 7,lN 0] [(0,1,.t 32),(1,1,.t 35)]),qS 2 4 36] [4])))))
theorem K.qx : iR pZ 66 2 0 C.qx [.cell 4 true 2]=true:=by kernel_rfl
def C.oM : bW:=(qs [qX 2 10 0,qI 4 0] [1,2] (.seq (qs [qI 5 0] [1,2,5] (.block 0 (.loop (.seq (qs [zM 6 5,qA 7 0 2,qF 8 1 7,qL 9 8,qb 10 .lss 6 9] [1,2,5,10] (qc 10 .skip (.exit 0))) (.seq (.block 1 (qs [qA 13 0 2,qF 14 1 13,zM 15 5,qD 16 7 14 15,qA 17 0 16,qF 18 1 17,zM 19 1,qb 20 .eql 18 19] [1,2,5,20] (qc 20 (qr [zM 21 5,zM 4 21] [4]) .skip))) (.reg [zM 11 5,qk 12 .add 11 1,zM 5 12] [1,2,5])))))) (qr [qI 4 (-1)] [4])))
theorem K.oM : iR pZ 61 2 0 C.oM [.tmp 4]=true:=by kernel_rfl
def C.yT : bW:=(qs [zA 2 (.mv (.k (.c (.str []))))] [0] (qs [zA 3 (.mv (.k (.c (.str [48,49,50,51,52,53,54,55,56,57,97,98,99,100,101,102]))))] [0,3] (.seq (.qj [(zM 4 3,[]),(zM 5 0,[]),(qk 6 .quo 5 4096,[1]),(zA 7 (.idxs (.t 4) (.t 6)),[0,1,2]),(zM 8 3,[]),(zM 9 0,[]),(qk 10 .quo 9 256,[5]),(qk 11 .rem 10 16,[5,6]),(zA 12 (.idxs (.t 8) (.t 11)),[4,5,6,7]),(zM 13 3,[]),(zM 14 0,[]),(qk 15 .quo 14 16,[10]),(qk 16 .rem 15 16,[10,11]),(zA 17 (.idxs (.t 13) (.t 16)),[9,10,11,12]),(zM 18 3,[]),(zM 19 0,[]),(qk 20 .rem 19 16,[15]),(zA 21 (.idxs (.t 18) (.t 20)),[14,15,16]),(zA 22 (.kT 10 1 4 [.lit (.int .u8 0)] [(0,.t 7),(1,.t 12),(2,.t 17),(3,.t 21)]),[0,1,2,3,4,5,6,7,8,9,10,11,12,13,14,15,16,17]),(zA 23 (.PS (.t 22)),[0,1,2,3,4,5,6,7,8,9,10,11,12,13,14,15,16,17,18]),(zM 2 23,[0,1,2,3,4,5,6,7,8,9,10,11,12,13,14,15,16,17,18,19])] [2]) .ret)))
theorem K.yT : iR pZ 106 1 0 C.yT [.tmp 2]=true:=by kernel_rfl
def C.pK : bW:=(qs [qI 2 0] [0] (qs [qI 3 17] [0,3] (.seq (qs [qI 4 0] [0,3,4] (.block 0 (.loop (.seq (qs [zM 5 4,zM 6 0,ql 7 6,qb 8 .lss 5 7] [0,3,4,8] (qc 8 .skip (.exit 0))) (.seq (.block 1 (.reg [zM 11 3,zA 12 (.bin .mul (kI 131) (.t 11)),zM 13 0,zM 14 4,zA 15 (.idxs (.t 13) (.t 14)),zA 16 (.GH .i64 (.t 15)),qb 17 .add 12 16,qk 18 .rem 17 65521,zM 3 18] [0,3,4])) (.reg [zM 9 4,qk 10 .add 9 1,zM 4 10] [0,3,4])))))) (qr [zM 19 3,zM 2 19] [2]))))
theorem K.pK : iR pZ 107 1 0 C.pK [.tmp 2]=true:=by kernel_rfl
def C.rM : bW:=(qs [qX 2 10 0,zA 4 (.mv (.k (.c (.str []))))] [1,2] (qs [qT 6 2 2,zM 7 1,q2 8 61 6 7,zM 5 8] [2,5] (.seq (qs [zM 9 5,qk 10 .lss 9 0] [2,5,10] (qc 10 (qr [zA 4 (.mv (.k (.c (.str []))))] [4]) .skip)) (qr [qA 11 0 2,qF 12 1 11,zM 13 5,qD 14 7 12 13,qA 15 2 14,qT 16 5 15,q1 17 27 16,q1 18 107 17,q1 19 106 18,zM 4 19] [4]))))
theorem K.rM : iR pZ 64 2 0 C.rM [.tmp 4]=true:=by kernel_rfl
def C.lW : bW:=(qs [qX 3 10 0,qX 5 11 2,zA 6 (.alloc 12 [.jC 7,lN 0])] [1,3,5,6] (qs [zA 12 (.kT 13 7 0 [.str [],.lit (.int .i64 0),.lit (.int .i64 0),.lit (.int .i64 0),.str [],.sl 1 [],.sl 5 []] []),zM 7 12] [1,3,5,6,7] (.seq (.qj [(zM 13 1,[]),(qA 14 1 3,[]),(qF 15 1 14,[1]),(qk 16 .add 15 1,[1,2]),(qT 17 5 5,[]),(q1 18 28 17,[4]),(zA 19 (.build [.c (.str []),lN 0,lN 0,lN 0,.c (.str []),.jC 1,.jC 5] [(0,1,.t 13),(1,1,.t 16),(2,5,.t 18)]),[0,1,2,3,4,5]),(zA 8 (.alloc 14 [.c (.str []),lN 0,lN 0,lN 0,.c (.str []),.jC 1,.jC 5]),[]),(qS 7 8 19,[0,1,2,3,4,5,6,7])] [1,3,6,7,8]) (qs [qT 20 2 3,q1 21 17 20,zA 22 (.field false 0 1 (.t 21)),zM 9 22] [1,3,6,7,8,9] (qs [qB 10 false] [1,3,6,7,8,9,10] (.seq (qs [qI 11 0] [1,3,6,7,8,9,10,11] (.block 0 (.loop (.seq (qs [zM 23 11,zM 24 9,qL 25 24,qb 26 .lss 23 25] [1,3,6,7,8,9,10,11,26] (qc 26 .skip (.exit 0))) (.seq (.block 1 (.cut (qs [zM 29 10,qO 30 29,zM 31 30,qm 31 true 32 9,qm 31 true 33 11,zG 31 true 34 (.vN 7 (.t 32) (.t 33)),zG 31 true 35 (.jZ 0 (.t 34)),zG 31 true 36 (.load false 1 (.t 35)),qm 31 true 37 1,zG 31 true 38 (.bin .geq (.t 36) (.t 37)),qP 39 31 38] [1,3,6,7,8,9,10,11,39] (qc 39 (qs [zM 40 7,qT 41 7 8,zA 42 (.kT 15 7 1 [.str [],.lit (.int .i64 0),.lit (.int .i64 0),.lit (.int .i64 0),.str [],.sl 1 [],.sl 5 []] [(0,.t 41)]),zA 43 (.append 16 7 104 (.t 40) (.t 42)),zM 7 43] [1,3,6,7,8,9,11] (.reg [qB 10 true] [1,3,6,7,8,9,10,11])) .skip)) (qs [zM 44 9,zM 45 11,qD 46 7 44 45,qA 47 0 46,qF 48 1 47,zM 49 1,qb 50 .neq 48 49] [1,3,6,7,8,9,10,11,50] (qc 50 (.reg [zM 51 7,zM 52 9,zM 53 11,qD 54 7 52 53,qT 55 7 54,zA 56 (.kT 17 7 1 [.str [],.lit (.int .i64 0),.lit (.int .i64 0),.lit (.int .i64 0),.str [],.sl 1 [],.sl 5 []] [(0,.t 55)]),zA 57 (.append 18 7 104 (.t 51) (.t 56)),zM 7 57] [1,3,6,7,8,9,10,11]) .skip)))) (.reg [zM 27 11,qk 28 .add 27 1,zM 11 28] [1,3,6,7,8,9,10,11])))))) (.seq (qs [zM 58 10,qO 59 58] [3,6,7,8,59] (qc 59 (.reg [zM 60 7,qT 61 7 8,zA 62 (.kT 19 7 1 [.str [],.lit (.int .i64 0),.lit (.int .i64 0),.lit (.int .i64 0),.str [],.sl 1 [],.sl 5 []] [(0,.t 61)]),zA 63 (.append 20 7 104 (.t 60) (.t 62)),zM 7 63] [3,6,7]) .skip)) (qr [zM 64 7,qA 65 1 3,qF 66 1 65,qk 67 .add 66 1,zA 68 (.build [.jC 7,lN 0] [(0,1,.t 64),(1,1,.t 67)]),qS 2 6 68] [6]))))))))
theorem K.lW : iR pZ 108 3 0 C.lW [.cell 6 true 2]=true:=by kernel_rfl
def C.gY : bW:=(qs [qX 1 10 0,qB 2 false] [1] (.seq (qs [qI 3 0] [1,3] (.block 0 (.loop (.seq (qs [zM 5 3,qA 6 0 1,qF 7 1 6,qL 8 7,qb 9 .lss 5 8] [1,3,9] (qc 9 .skip (.exit 0))) (.seq (.block 1 (qs [qA 12 0 1,qF 13 1 12,zM 14 3,qD 15 7 13 14,qT 16 7 15,zA 4 (.alloc 11 [.c (.str []),lN 0,lN 0,lN 0,.c (.str []),.jC 1,.jC 5]),qS 7 4 16] [1,3,4] (.seq (.qj [(qA 17 0 4,[]),(qF 18 1 17,[0]),(q1 19 101 18,[0,1]),(qO 20 19,[0,1,2]),(zM 21 20,[0,1,2,3]),(zG 21 false 22 (.jZ 2 (.t 4)),[0,1,2,3,4]),(zG 21 false 23 (.load true 5 (.t 22)),[0,1,2,3,4,5]),(⟨(some (21,false)),some 24,.call 57 [.t 23]⟩,[0,1,2,3,4,5,6]),(zG 21 false 25 (.not (.t 24)),[0,1,2,3,4,5,6,7]),(qQ 26 21 25,[0,1,2,3,4,5,6,7,8]),(zM 27 26,[0,1,2,3,4,5,6,7,8,9]),(zG 27 false 28 (.jZ 1 (.t 4)),[0,1,2,3,4,5,6,7,8,9,10]),(zG 27 false 29 (.load false 1 (.t 28)),[0,1,2,3,4,5,6,7,8,9,10,11]),(zG 27 false 30 (.jZ 1 (.t 1)),[0,1,2,3,4,5,6,7,8,9,10]),(zG 27 false 31 (.load false 1 (.t 30)),[0,1,2,3,4,5,6,7,8,9,10,13]),(⟨(some (27,false)),some 32,.call 93 [.t 29,kI 1,.t 31]⟩,[0,1,2,3,4,5,6,7,8,9,10,11,12,13,14]),(zG 27 false 33 (.not (.t 32)),[0,1,2,3,4,5,6,7,8,9,10,11,12,13,14,15]),(qQ 34 27 33,[0,1,2,3,4,5,6,7,8,9,10,11,12,13,14,15,16]),(zM 35 34,[0,1,2,3,4,5,6,7,8,9,10,11,12,13,14,15,16,17]),(qm 35 false 36 3,[0,1,2,3,4,5,6,7,8,9,10,11,12,13,14,15,16,17,18]),(zG 35 false 37 (.bin .gtr (.t 36) (kI 0)),[0,1,2,3,4,5,6,7,8,9,10,11,12,13,14,15,16,17,18,19]),(qm 35 false 38 37,[0,1,2,3,4,5,6,7,8,9,10,11,12,13,14,15,16,17,18,19,20]),(zG 38 true 39 (.jZ 0 (.t 4)),[0,1,2,3,4,5,6,7,8,9,10,11,12,13,14,15,16,17,18,19,20,21]),(zG 38 true 40 (.load false 1 (.t 39)),[0,1,2,3,4,5,6,7,8,9,10,11,12,13,14,15,16,17,18,19,20,21,22]),(zG 38 true 41 (.jZ 0 (.t 1)),[0,1,2,3,4,5,6,7,8,9,10,11,12,13,14,15,16,17,18,19,20,21]),(zG 38 true 42 (.load false 1 (.t 41)),[0,1,2,3,4,5,6,7,8,9,10,11,12,13,14,15,16,17,18,19,20,21,24]),(qm 38 true 43 3,[0,1,2,3,4,5,6,7,8,9,10,11,12,13,14,15,16,17,18,19,20,21]),(zG 38 true 44 (.bin .sub (.t 43) (kI 1)),[0,1,2,3,4,5,6,7,8,9,10,11,12,13,14,15,16,17,18,19,20,21,26]),(zG 38 true 45 (.vN 7 (.t 42) (.t 44)),[0,1,2,3,4,5,6,7,8,9,10,11,12,13,14,15,16,17,18,19,20,21,24,25,26,27]),(zG 38 true 46 (.jZ 0 (.t 45)),[0,1,2,3,4,5,6,7,8,9,10,11,12,13,14,15,16,17,18,19,20,21,24,25,26,27,28]),(zG 38 true 47 (.load false 1 (.t 46)),[0,1,2,3,4,5,6,7,8,9,10,11,12,13,14,15,16,17,18,19,20,21,24,25,26,27,28,29]),(zG 38 true 48 (.bin .leq (.t 40) (.t 47)),[0,1,2,3,4,5,6,7,8,9,10,11,12,13,14,15,16,17,18,19,20,21,22,23,24,25,26,27,28,29,30]),(zG 35 false 49 (.pick (.t 38) (.t 48) (kB false)),[0,1,2,3,4,5,6,7,8,9,10,11,12,13,14,15,16,17,18,19,20,21,22,23,24,25,26,27,28,29,30,31]),(qQ 50 35 49,[0,1,2,3,4,5,6,7,8,9,10,11,12,13,14,15,16,17,18,19,20,21,22,23,24,25,26,27,28,29,30,31,32])] [1,3,50]) (qc 50 (qr [qB 2 false] [2]) .skip)))) (.reg [zM 10 3,qk 11 .add 10 1,zM 3 11] [1,3])))))) (qr [qA 51 0 1,qF 52 1 51,qL 53 52,qk 54 .leq 53 10,zM 55 54,zG 55 true 56 (.jZ 1 (.t 1)),zG 55 true 57 (.load false 1 (.t 56)),⟨(some (55,true)),some 58,.call 93 [.t 57,kI 0,kI 999]⟩,qP 59 55 58,zM 2 59] [2])))
theorem K.gY : iR pZ 109 1 0 C.gY [.tmp 2]=true:=by kernel_rfl
def C.lS : bW:=(qs [qX 3 10 0,qX 5 11 2,zA 6 (.alloc 12 [.jC 7,lN 0]),zA 7 (.alloc 13 [lN 0,.c (.str []),lN 0,lN 0,lN 0,.c (.str []),.jC 1,.jC 5])] [1,3,5,6,7] (qs [qI 8 200] [1,3,5,6,7,8] (.cut (qs [qT 10 2 3,zM 11 1,q2 12 61 10 11,qk 13 .lss 12 0] [1,3,5,6,7,8,13] (qc 13 (.reg [qI 8 201] [1,3,5,6,7,8]) .skip)) (qs [qT 14 2 3,zM 15 1,qT 16 5 5,q3 17 108 14 15 16,zA 9 (.alloc 14 [.jC 7,lN 0]),qS 2 9 17] [1,3,6,7,8,9] (.seq (qs [qT 18 2 9,q1 19 109 18,qO 20 19] [1,3,6,7,8,9,20] (qc 20 (qr [qT 21 2 3,q1 22 17 21,⟨none,some 23,.call 62 [kI 422]⟩,qS 2 6 22,qS 8 7 23] [6,7]) .skip)) (.seq (.qj [(qT 24 2 9,[]),(zM 25 8,[]),(qT 26 2 9,[]),(zM 27 1,[]),(q2 28 64 26 27,[2,3]),(qA 29 1 9,[]),(qF 30 1 29,[5]),(zA 31 (.build [lN 0,.c (.str []),lN 0,lN 0,lN 0,.c (.str []),.jC 1,.jC 5] [(0,1,.t 25),(1,1,.t 28),(2,1,.t 30)]),[1,2,3,4,5,6]),(qS 2 6 24,[0,2,3,4]),(qS 8 7 31,[0,1,2,3,4,5,6,7,8])] [6,7]) .ret))))))
theorem K.lS : iR pZ 65 3 0 C.lS [.cell 6 true 2,.cell 7 true 8]=true:=by kernel_rfl
def C.jS : bW:=(qs [qX 2 10 0,qX 3 11 1,zA 4 (.alloc 12 [.jC 7,lN 0]),zA 5 (.alloc 13 [lN 0,.c (.str []),lN 0,lN 0,lN 0,.c (.str []),.jC 1,.jC 5])] [2,3,4,5] (qs [qT 10 2 2,qA 11 1 3,qF 12 1 11,q2 13 61 10 12,zM 6 13] [2,3,4,5,6] (.seq (qs [zM 14 6,qk 15 .lss 14 0,zM 16 15,zG 16 true 17 (.jZ 0 (.t 3)),zG 16 true 18 (.load false 1 (.t 17)),zG 16 true 19 (.bin .neq (.t 18) (kI 2)),qP 20 16 19] [2,3,4,5,6,20] (qc 20 (qr [qT 21 2 2,q1 22 17 21,⟨none,some 23,.call 62 [kI 404]⟩,qS 2 4 22,qS 8 5 23] [4,5]) .skip)) (.seq (.qj [(qA 24 2 3,[]),(qF 25 1 24,[0]),(qA 26 3 3,[]),(qF 27 1 26,[2]),(qT 28 2 2,[]),(qA 29 1 3,[]),(qF 30 1 29,[5]),(q2 31 64 28 30,[4,5,6]),(qA 32 0 3,[]),(qF 33 1 32,[8]),(qk 34 .eql 33 1,[8,9]),(⟨none,some 35,.call 63 [.t 25,.t 27,.t 31,.t 34]⟩,[0,1,2,3,4,5,6,7,8,9,10]),(zM 7 35,[0,1,2,3,4,5,6,7,8,9,10,11])] [2,3,4,5,6,7]) (.seq (qs [zM 36 7,qk 37 .neq 36 200] [2,3,4,5,6,7,37] (qc 37 (qr [qT 38 2 2,q1 39 17 38,zM 40 7,q1 41 62 40,qS 2 4 39,qS 8 5 41] [4,5]) .skip)) (.seq (qs [qA 42 0 3,qF 43 1 42] [2,3,4,5,6,7,43] (.block 0 (qs [qk 45 .eql 43 1,zM 44 45] [2,3,4,5,6,7,43,44] (qc 44 (.seq (.qj [(qT 46 2 2,[]),(q1 47 17 46,[0]),(zM 48 7,[]),(qT 49 2 2,[]),(qA 50 1 3,[]),(qF 51 1 50,[4]),(q2 52 64 49 51,[0,1,3,4,5]),(qA 53 0 2,[]),(qF 54 1 53,[7]),(zM 55 6,[]),(qD 56 7 54 55,[7,8,9]),(qA 57 1 56,[7,8,9,10]),(qF 58 1 57,[7,8,9,10,11]),(qA 59 0 2,[]),(qF 60 1 59,[13]),(zM 61 6,[]),(qD 62 7 60 61,[13,14,15]),(qA 63 2 62,[13,14,15,16]),(qT 64 5 63,[13,14,15,16,17]),(q1 65 28 64,[0,1,3,4,5,6,13,14,15,16,17,18]),(zA 66 (.build [lN 0,.c (.str []),lN 0,lN 0,lN 0,.c (.str []),.jC 1,.jC 5] [(0,1,.t 48),(1,1,.t 52),(2,1,.t 58),(3,5,.t 65)]),[0,1,2,3,4,5,6,7,8,9,10,11,12,13,14,15,16,17,18,19]),(qS 2 4 47,[0,1,3,4,5,6,13,14,15,16,17,18,19]),(qS 8 5 66,[0,1,2,3,4,5,6,7,8,9,10,11,12,13,14,15,16,17,18,19,20,21])] [4,5]) .ret) (qs [qk 68 .eql 43 2,zM 67 68] [2,3,4,5,6,7,43,67] (qc 67 (qr [qT 69 2 2,qA 70 1 3,qF 71 1 70,qA 72 4 3,qT 73 5 72,q3 74 65 69 71 73,qE 75 74 0,qE 76 74 1,qS 2 4 75,qS 8 5 76] [4,5]) (qs [qk 78 .eql 43 3,zM 77 78] [2,3,4,5,6,7,77] (qc 77 (.seq (qs [qA 79 1 2,qF 80 1 79,qk 81 .eql 80 999] [2,3,4,5,7,81] (qc 81 (qr [qT 82 2 2,q1 83 17 82,⟨none,some 84,.call 62 [kI 422]⟩,qS 2 4 83,qS 8 5 84] [4,5]) .skip)) (.seq (.qj [(qT 85 2 2,[]),(qA 86 1 3,[]),(qF 87 1 86,[1]),(q2 88 66 85 87,[0,1,2]),(zM 89 7,[]),(qA 90 1 2,[]),(qF 91 1 90,[5]),(qk 92 .add 91 1,[5,6]),(zA 93 (.build [lN 0,.c (.str []),lN 0,lN 0,lN 0,.c (.str []),.jC 1,.jC 5] [(0,1,.t 89),(2,1,.t 92)]),[4,5,6,7]),(qS 2 4 88,[0,1,2,3]),(qS 8 5 93,[0,1,2,3,4,5,6,7,8,9])] [4,5]) .ret)) .skip)))))))) (.seq (.qj [(qA 95 0 2,[]),(qF 96 1 95,[0]),(zM 97 6,[]),(qD 98 7 96 97,[0,1,2]),(qA 99 2 98,[0,1,2,3]),(qT 100 5 99,[0,1,2,3,4]),(qA 101 9 3,[]),(qF 102 1 101,[6]),(q2 103 67 100 102,[0,1,2,3,4,5,6,7]),(zM 94 103,[0,1,2,3,4,5,6,7,8]),(qE 104 94 0,[0,1,2,3,4,5,6,7,8,9]),(qE 105 94 1,[0,1,2,3,4,5,6,7,8,9]),(qZ 8 14,[]),(qS 5 8 104,[0,1,2,3,4,5,6,7,8,9,10,12]),(zM 9 105,[0,1,2,3,4,5,6,7,8,9,10,11,12,13])] [2,3,4,5,6,8,9]) (.cut (qs [qA 106 0 3,qF 107 1 106,qk 108 .eql 107 5] [2,3,4,5,6,8,9,108] (qc 108 (.qj [(qA 110 0 2,[]),(qF 111 1 110,[0]),(zM 112 6,[]),(qD 113 7 111 112,[0,1,2]),(qA 114 2 113,[0,1,2,3]),(qT 115 5 114,[0,1,2,3,4]),(qA 116 4 3,[]),(qT 117 5 116,[6]),(q2 118 68 115 117,[0,1,2,3,4,5,6,7]),(zM 109 118,[0,1,2,3,4,5,6,7,8]),(qE 119 109 0,[0,1,2,3,4,5,6,7,8,9]),(qE 120 109 1,[0,1,2,3,4,5,6,7,8,9]),(qS 5 8 119,[0,1,2,3,4,5,6,7,8,9,10]),(zM 9 120,[0,1,2,3,4,5,6,7,8,9,10,11,12])] [2,3,4,5,8,9]) .skip)) (.seq (qs [zM 121 9,qO 122 121] [2,3,4,5,8,122] (qc 122 (qr [qT 123 2 2,q1 124 17 123,⟨none,some 125,.call 62 [kI 422]⟩,qS 2 4 124,qS 8 5 125] [4,5]) .skip)) (qr [qT 126 2 2,qA 127 1 3,qF 128 1 127,qT 129 5 8,q3 130 65 126 128 129,qE 131 130 0,qE 132 130 1,qS 2 4 131,qS 8 5 132] [4,5]))))))))))
theorem K.jS : iR pZ 35 2 0 C.jS [.cell 4 true 2,.cell 5 true 8]=true:=by kernel_rfl
def C.nR : bW:=(qs [qX 3 10 1,zA 4 (.mv (.k (.c (.str []))))] [0,3] (.seq (.qj [(zM 9 0,[]),(qN 10 9,[0]),(qA 11 0 10,[0,1]),(qT 12 2 11,[0,1,2]),(qT 13 10 3,[]),(q2 14 35 12 13,[0,1,2,3,4]),(zM 8 14,[0,1,2,3,4,5]),(qE 15 8 0,[0,1,2,3,4,5,6]),(qE 16 8 1,[0,1,2,3,4,5,6]),(zA 5 (.alloc 11 [.jC 7,lN 0]),[]),(zA 6 (.alloc 12 [lN 0,.c (.str []),lN 0,lN 0,lN 0,.c (.str []),.jC 1,.jC 5]),[]),(qS 2 5 15,[0,1,2,3,4,5,6,7,9,10]),(qS 8 6 16,[0,1,2,3,4,5,6,7,8,9,10,11])] [0,3,5,6]) (qs [zM 17 0,qT 18 2 5,qN 19 17,qA 20 0 19,qS 2 20 18] [3,6] (qs [qA 21 0 6,qF 22 1 21,q1 23 15 22,zM 7 23] [3,6,7] (.cut (qs [qA 24 1 6,qF 25 1 24,zA 26 (.bin .neq (.t 25) (.k (.c (.str []))))] [3,6,7,26] (qc 26 (.reg [zM 27 7,zA 28 (.bin .add (.t 27) (.k (.c (.str [32])))),qA 29 1 6,qF 30 1 29,qb 31 .add 28 30,zM 7 31] [3,6,7]) .skip)) (.seq (qs [qA 32 0 3,qF 33 1 32,qk 34 .eql 33 1,zM 35 34,zG 35 true 36 (.jZ 0 (.t 6)),zG 35 true 37 (.load false 1 (.t 36)),zG 35 true 38 (.bin .eql (.t 37) (kI 200)),qP 39 35 38] [6,7,39] (qc 39 (.reg [zM 40 7,zA 41 (.bin .add (.t 40) (.k (.c (.str [32])))),qA 42 3 6,qT 43 5 42,q1 44 27 43,qb 45 .add 41 44,zM 7 45] [7]) .skip)) (qr [zM 46 7,zM 4 46] [4])))))))
theorem K.nR : iR pZ 19 2 1 C.nR [.tmp 4]=true:=by kernel_rfl
def C.kY : bW:=(qs [zA 2 (.mv (.k (.c (.str []))))] [0] (qs [zA 3 (.mv (.k (.c (.str []))))] [0,3] (.seq (qs [qI 4 0] [0,3,4] (.block 0 (.loop (.seq (qs [zM 5 4,zM 6 0,qN 7 6,qA 8 0 7,qA 9 0 8,qF 10 1 9,qL 11 10,qb 12 .lss 5 11] [0,3,4,12] (qc 12 .skip (.exit 0))) (.seq (.block 1 (.seq (qs [zM 15 4,qk 16 .gtr 15 0] [0,3,4,16] (qc 16 (.reg [zM 17 3,zA 18 (.bin .add (.t 17) (.k (.c (.str [32])))),zM 3 18] [0,3,4]) .skip)) (.reg [zM 19 3,zM 20 0,qN 21 20,qA 22 0 21,qA 23 0 22,qF 24 1 23,zM 25 4,qD 26 7 24 25,qA 27 0 26,qF 28 1 27,qb 29 .add 19 28,zM 3 29] [0,3,4]))) (.reg [zM 13 4,qk 14 .add 13 1,zM 4 14] [0,3,4])))))) (qr [zM 30 3,zM 2 30] [2]))))
theorem K.kY : iR pZ 14 1 1 C.kY [.tmp 2]=true:=by kernel_rfl
def C.tq : bW:=(qs [qX 1 10 0,qI 2 0] [1] (qs [qI 3 0] [1,3] (.seq (qs [qI 4 0] [1,3,4] (.block 0 (.loop (.seq (qs [zM 5 4,qA 6 0 1,qF 7 1 6,qL 8 7,qb 9 .lss 5 8] [1,3,4,9] (qc 9 .skip (.exit 0))) (.seq (.block 1 (.qj [(zM 12 3,[]),(qA 13 0 1,[]),(qF 14 1 13,[1]),(zM 15 4,[]),(qD 16 7 14 15,[1,2,3]),(qA 17 0 16,[1,2,3,4]),(qF 18 1 17,[1,2,3,4,5]),(ql 19 18,[1,2,3,4,5,6]),(qb 20 .add 12 19,[0,1,2,3,4,5,6,7]),(qA 21 0 1,[]),(qF 22 1 21,[9]),(zM 23 4,[]),(qD 24 7 22 23,[9,10,11]),(qA 25 2 24,[9,10,11,12]),(qT 26 5 25,[9,10,11,12,13]),(q1 27 27 26,[9,10,11,12,13,14]),(ql 28 27,[9,10,11,12,13,14,15]),(qb 29 .add 20 28,[0,1,2,3,4,5,6,7,8,9,10,11,12,13,14,15,16]),(zM 3 29,[0,1,2,3,4,5,6,7,8,9,10,11,12,13,14,15,16,17])] [1,3,4])) (.reg [zM 10 4,qk 11 .add 10 1,zM 4 11] [1,3,4])))))) (qr [zM 30 3,zM 2 30] [2]))))
theorem K.tq : iR pZ 16 1 0 C.tq [.tmp 2]=true:=by kernel_rfl
def C.rJ : bW:=(qs [zA 4 (.mv (.k (.c (.str []))))] [0,1] (.seq (qs [zM 7 1] [0,1,7] (.block 0 (qs [zA 9 (.bin .eql (.t 7) (.k (.c (.str [108,105,115,116])))),zM 8 9] [0,1,7,8] (qc 8 (qr [zM 10 0,q1 11 14 10,zM 4 11] [4]) (qs [zA 13 (.bin .eql (.t 7) (.k (.c (.str [99,108,111,99,107])))),zM 12 13] [0,1,7,12] (qc 12 (qr [zM 14 0,qN 15 14,qA 16 0 15,qA 17 1 16,qF 18 1 17,q1 19 15 18,zM 4 19] [4]) (qs [zA 21 (.bin .eql (.t 7) (.k (.c (.str [115,105,122,101])))),zM 20 21] [0,1,7,20] (qc 20 (qr [zM 22 0,qN 23 22,qA 24 0 23,qT 25 2 24,q1 26 16 25,q1 27 15 26,zM 4 27] [4]) (qs [zA 29 (.bin .eql (.t 7) (.k (.c (.str [107,101,101,112])))),zM 28 29] [0,1,7,28] (qc 28 (qs [zM 30 0,zM 31 0,qN 32 31,qA 33 0 32,qT 34 2 33,q1 35 17 34,qN 36 30,qA 37 2 36,qS 2 37 35] [] (qr [zA 4 (.mv (.k (.c (.str [111,107]))))] [4])) (qs [zA 39 (.bin .eql (.t 7) (.k (.c (.str [98,97,99,107])))),zM 38 39] [0,1,38] (qc 38 (qs [zM 40 0,zM 41 0,qN 42 41,qA 43 2 42,qT 44 2 43,q1 45 17 44,qN 46 40,qA 47 0 46,qS 2 47 45] [] (qr [zA 4 (.mv (.k (.c (.str [111,107]))))] [4])) .skip)))))))))))) (qs [zM 49 1,q1 50 18 49,zM 48 50,qE 51 48 0,qE 52 48 1,zA 5 (.alloc 10 [lN 0,.c (.str []),.jC 1,.jC 1,lN 0,lN 0,.c (.str []),.jC 1,.jC 5,.jC 8]),qS 10 5 51,zM 6 52] [0,5,6] (.seq (qs [zM 53 6,qO 54 53] [0,5,54] (qc 54 (qr [zA 4 (.mv (.k (.c (.str [119,104,97,116]))))] [4]) .skip)) (qr [zM 55 0,qT 56 10 5,q2 57 19 55 56,zM 4 57] [4])))))
theorem K.rJ : iR pZ 9 2 1 C.rJ [.tmp 4]=true:=by kernel_rfl
def C.jW : bW:=(qs [zA 2 (.mv (.k (.c (.str []))))] [0] (qs [zA 6 (.build [.c (.sl 7 []),lN 0,.c (.sl 7 []),lN 0] []),qX 7 10 6,zM 3 7] [0,3] (qs [zA 4 (.mv (.k (.c (.str []))))] [0,3,4] (.seq (qs [qI 5 0] [0,3,4,5] (.block 0 (.loop (.seq (qs [zM 8 5,zM 9 0,qL 10 9,qb 11 .lss 8 10,zM 12 11,qm 12 true 13 5,zG 12 true 14 (.bin .lss (.t 13) (kI 20)),qP 15 12 14] [0,3,4,5,15] (qc 15 .skip (.exit 0))) (.seq (.block 1 (.reg [zM 18 4,zM 19 3,zM 20 0,zM 21 5,qD 22 1 20 21,qF 23 1 22,q2 24 9 19 23,qb 25 .add 18 24,zA 26 (.bin .add (.t 25) (.k (.c (.str [10])))),zM 4 26] [0,3,4,5])) (.reg [zM 16 5,qk 17 .add 16 1,zM 5 17] [0,3,4,5])))))) (qr [zM 27 4,zM 2 27] [2])))))
theorem K.jW : iR pZ 5 1 0 C.jW [.tmp 2]=true:=by kernel_rfl
def C.mY : bW:=(qs [qB 2 false] [0] (qs [qI 3 1048576] [0,3] (qs [zM 7 0,zM 8 3,q2 9 4 7 8,zM 3 9] [0,3] (.seq (qs [zM 10 3,qk 11 .lss 10 0] [0,11] (qc 11 (qr [qB 2 true] [2]) .skip)) (qs [zM 12 0,q1 13 6 12,q1 14 5 13,zM 4 14] [0,4] (qs [zM 15 0,q1 16 6 15,zM 5 16] [0,4,5] (qs [zM 17 5,q1 18 7 17,zM 6 18] [0,4,5,6] (.seq (qs [zM 19 6,zM 20 4,qb 21 .neq 19 20] [0,5,21] (qc 21 (qr [qB 2 false] [2]) .skip)) (.seq (qs [zM 22 5,zM 23 0,q1 24 6 23,q2 25 8 22 24,qO 26 25] [26] (qc 26 (qr [qB 2 false] [2]) .skip)) (qr [qB 2 true] [2]))))))))))
theorem K.mY : iR pZ 3 1 0 C.mY [.tmp 2]=true:=by kernel_rfl
theorem FZ.ins {P:Program}{f gr sz cb:Nat}{z:List Cell}(h0:sz≠0)(hK:iR P f 3 2 (C.ins sz cb gr z) [.tmp 6]=true){es:List (List Cell)}{v:List Cell}{c i:Nat}(hc:es.length<=c)(hi:i<=es.length)(hb:(es.length+1)*(cb+sz+1)<=2^46) :
 lD P f [.one (.sub 0 0 es.length (some c) sz),.one (.c (.lit (.int .i64 (i:Int)))),.one (.own 1 1 sz)] [.dat sz es,.dat sz [v]]
  (λr1 b1=>r1 = .one (.own 2 (es.length+1) sz)/\b1=[.dead,.dat sz [v],.dat sz (es.take i++v::es.drop i)]):=by
 have hb0:es.length+1<=(es.length+1)*(cb+sz+1):=Ae _ (by omega);have hw:af .i64 ((es.length:Int)+((1:Nat):Int))=((es.length+1:Nat):Int):=by rw[Eu]<;>omega
 have hw2:af .i64 ((i:Int)+((1:Nat):Int))=((i+1:Nat):Int):=by rw[Eu]<;>omega
 have hw3:af .i64 (((es.length+1:Nat):Int)-i)=((es.length+1-i:Nat):Int):=by rw[Eu]<;>omega
 refine mV hK (qi ?_);unfold C.ins;have h10:(((1:Nat):Int)==0)=false:=rfl;by_cases h1:i=es.length
 ·subst h1;have he:((es.length:Int)==(es.length:Int))=true:=by simp
  simp -dsimp only[egR,nH.oV,nH.f,nH.rd,Dc,zn,lvl,xW,reduceIte,Nat.reduceEqDiff,Nat.reduceAdd,Nat.reduceLeDiff,Nat.reduceBEq,reduceCtorEq,Int.reduceBNe,Int.reduceBEq,Int.reduceLT,Int.reduceLE,Int.reduceNeg,Nat.reduceLT,Dj,Int.reduceToNat,ED,yU,Jg,EU,EX,EO,EW,truncS,kX,rE,o6,qM,pU,bZ,oP,jb,h10]
  repeat refine kW (by first|(show zF _ _ _ _=true;kernel_rfl)|(show zT _ _=true;kernel_rfl)|omega|assumption) ?_
  have e:es++[v]++mM (es.length+1) es=es++v::mM es.length es:=by simp
  have e2:es++[v]=es++v::mM es.length es:=by simp
  by_cases hr:es.length+1<=c
  ·simp -dsimp only[egR,nH.oV,nH.f,nH.rd,Dc,zn,lvl,xW,reduceIte,Nat.reduceEqDiff,Nat.reduceAdd,Nat.reduceLeDiff,Nat.reduceBEq,reduceCtorEq,Int.reduceBNe,Int.reduceBEq,Int.reduceLT,Int.reduceLE,Int.reduceNeg,Nat.reduceLT,Dj,Int.reduceToNat,ED,yU,Jg,EU,EX,EO,EW,truncS,kX,rE,o6,qM,pU,bZ,oP,jb,hr]
   repeat refine kW (by first|(show zF _ _ _ _=true;kernel_rfl)|(show zT _ _=true;kernel_rfl)|omega|assumption) ?_
   rw[e];refine N7 [] [(0,0),(1,1),(2,0)] [] (by rfl) ?_ ?_ ?_<;>(simp -dsimp only[rwR,Wl,IB,reduceIte,Nat.reduceEqDiff,reduceCtorEq,Nat.reduceAdd,Nat.reduceLeDiff]<;>first|(simp[aF];done)|((try simp only[vF,xE,sK,bJ,kM])<;>(repeat' apply kW)<;>first|rfl|(simp;done)|(simp<;>omega;done)|(congr 1;exact(aF (by simp<;>omega)).symm)))
  ·simp -dsimp only[egR,nH.oV,nH.f,nH.rd,Dc,zn,lvl,xW,reduceIte,Nat.reduceEqDiff,Nat.reduceAdd,Nat.reduceLeDiff,Nat.reduceBEq,reduceCtorEq,Int.reduceBNe,Int.reduceBEq,Int.reduceLT,Int.reduceLE,Int.reduceNeg,Nat.reduceLT,Dj,Int.reduceToNat,ED,yU,Jg,EU,EX,EO,EW,truncS,kX,rE,o6,qM,pU,bZ,oP,jb,hr]
   repeat refine kW (by first|(show zF _ _ _ _=true;kernel_rfl)|(show zT _ _=true;kernel_rfl)|omega|assumption) ?_
   rw[e2];refine N7 [] [(0,0),(1,1),(2,10)] [] (by rfl) ?_ ?_ ?_<;>(simp -dsimp only[rwR,Wl,IB,reduceIte,Nat.reduceEqDiff,reduceCtorEq,Nat.reduceAdd,Nat.reduceLeDiff]<;>first|(simp[aF];done)|((try simp only[vF,xE,sK,bJ,kM])<;>(repeat' apply kW)<;>first|rfl|(simp;done)|(simp<;>omega;done)|(congr 1;exact(aF (by simp<;>omega)).symm)))
 ·have he:((i:Int)==(es.length:Int))=false:=by simp;omega
  simp -dsimp only[egR,nH.oV,nH.f,nH.rd,Dc,zn,lvl,xW,reduceIte,Nat.reduceEqDiff,Nat.reduceAdd,Nat.reduceLeDiff,Nat.reduceBEq,reduceCtorEq,Int.reduceBNe,Int.reduceBEq,Int.reduceLT,Int.reduceLE,Int.reduceNeg,Nat.reduceLT,Dj,Int.reduceToNat,ED,yU,Jg,EU,EX,EO,EW,truncS,kX,rE,o6,qM,pU,bZ,oP,jb,h10]
  repeat refine kW (by first|(show zF _ _ _ _=true;kernel_rfl)|(show zT _ _=true;kernel_rfl)|omega|assumption) ?_
  simp -dsimp only[egR,nH.oV,nH.f,nH.rd,Dc,zn,lvl,xW,reduceIte,Nat.reduceEqDiff,Nat.reduceAdd,Nat.reduceLeDiff,Nat.reduceBEq,reduceCtorEq,Int.reduceBNe,Int.reduceBEq,Int.reduceLT,Int.reduceLE,Int.reduceNeg,Nat.reduceLT,Dj,Int.reduceToNat,ED,yU,Jg,EU,EX,EO,EW,truncS,kX,rE,o6,qM,pU,bZ,oP,jb,he];by_cases hr:es.length+1<=c
  ·have hd:decide ((c:Int)<((es.length+1:Nat):Int))=false:=(by simp;omega);simp -dsimp only[egR,nH.oV,nH.f,nH.rd,Dc,zn,lvl,xW,reduceIte,Nat.reduceEqDiff,Nat.reduceAdd,Nat.reduceLeDiff,Nat.reduceBEq,reduceCtorEq,Int.reduceBNe,Int.reduceBEq,Int.reduceLT,Int.reduceLE,Int.reduceNeg,Nat.reduceLT,Dj,Int.reduceToNat,ED,yU,Jg,EU,EX,EO,EW,truncS,kX,rE,o6,qM,pU,bZ,oP,jb,hw,hd]
   repeat refine kW (by first|(show zF _ _ _ _=true;kernel_rfl)|(show zT _ _=true;kernel_rfl)|omega|assumption) ?_
   simp -dsimp only[egR,nH.oV,nH.f,nH.rd,Dc,zn,lvl,xW,reduceIte,Nat.reduceEqDiff,Nat.reduceAdd,Nat.reduceLeDiff,Nat.reduceBEq,reduceCtorEq,Int.reduceBNe,Int.reduceBEq,Int.reduceLT,Int.reduceLE,Int.reduceNeg,Nat.reduceLT,Dj,Int.reduceToNat,ED,yU,Jg,EU,EX,EO,EW,truncS,kX,rE,o6,qM,pU,bZ,oP,jb,hw2]
   repeat refine kW (by first|(show zF _ _ _ _=true;kernel_rfl)|(show zT _ _=true;kernel_rfl)|omega|assumption) ?_
   refine kW (by simp[h0];omega) ?_;have e:=ahe es v i (by omega);simp only[splice]at e;rw[e];refine N7 [] [(0,0),(1,1),(2,0)] [] (by rfl) ?_ ?_ ?_<;>(simp -dsimp only[rwR,Wl,IB,reduceIte,Nat.reduceEqDiff,reduceCtorEq,Nat.reduceAdd,Nat.reduceLeDiff]<;>first|(simp[aF];done)|((try simp only[vF,xE,sK,bJ,kM])<;>(repeat' apply kW)<;>first|rfl|(simp;done)|(simp<;>omega;done)|(congr 1;exact(aF (by simp<;>omega)).symm)))
  ·have hd:decide ((c:Int)<((es.length+1:Nat):Int))=true:=(by simp;omega);have hx:c<i+(es.length+1-i):=(by omega);have e0:i+(es.length+1-i)=es.length+1:=(by omega);have hb2:(i+(es.length+1-i))*(cb+sz+1)<=2^46:=(by rw[e0];exact hb);simp -dsimp only[egR,nH.oV,nH.f,nH.rd,Dc,zn,lvl,xW,reduceIte,Nat.reduceEqDiff,Nat.reduceAdd,Nat.reduceLeDiff,Nat.reduceBEq,reduceCtorEq,Int.reduceBNe,Int.reduceBEq,Int.reduceLT,Int.reduceLE,Int.reduceNeg,Nat.reduceLT,Dj,Int.reduceToNat,ED,yU,Jg,EU,EX,EO,EW,truncS,kX,rE,o6,qM,pU,bZ,oP,jb,hw,hd,hw2,hw3]
   repeat refine kW (by first|(show zF _ _ _ _=true;kernel_rfl)|(show zT _ _=true;kernel_rfl)|omega|assumption) ?_
   refine kW (by simp[h0];omega) ?_
   repeat refine kW (by first|(show zF _ _ _ _=true;kernel_rfl)|(show zT _ _=true;kernel_rfl)|omega|assumption) ?_
   refine kW ⟨by omega,by simp;omega⟩ ?_
   repeat refine kW (by first|(show zF _ _ _ _=true;kernel_rfl)|(show zT _ _=true;kernel_rfl)|omega|assumption) ?_
   have e:=ahf es v z i _ (by omega) rfl;simp only[splice]at e;have e0:i+(es.length+1-i)=es.length+1:=(by omega);rw[e,e0];refine N7 [] [(0,0),(1,1),(2,11)] [] (by rfl) ?_ ?_ ?_<;>(simp -dsimp only[rwR,Wl,IB,reduceIte,Nat.reduceEqDiff,reduceCtorEq,Nat.reduceAdd,Nat.reduceLeDiff]<;>first|(simp[aF];done)|((try simp only[vF,xE,sK,bJ,kM])<;>(repeat' apply kW)<;>first|rfl|(simp;done)|(simp<;>omega;done)|(congr 1;exact(aF (by simp<;>omega)).symm)))
theorem FZ.del {P:Program}{f sz cb:Nat}{z:List Cell}(h0:sz≠0)(hK:iR P f 3 1 (C.del sz cb z) [.tmp 6]=true){es:List (List Cell)}{c i j:Nat}(hc:es.length<=c)(hi:i<j)(hj:j<=es.length)(hb:es.length*(cb+sz+1)<=2^46) :
 lD P f [.one (.sub 0 0 es.length (some c) sz),.one (.c (.lit (.int .i64 (i:Int)))),.one (.c (.lit (.int .i64 (j:Int))))] [.dat sz es]
  (λr1 b1=>r1 = .one (.own 1 (i+(es.length-j)) sz)/\b1=[.dead,.dat sz (es.take i++es.drop j)]):=by
 have hb0:es.length<=es.length*(cb+sz+1):=Ae _ (by omega);refine mV hK (qi ?_);unfold C.del;have he:((i:Int)==(j:Int))=false:=by simp;omega
 have ht:uF (es.length-j) (mM j es)=mM j es:=aF (by simp);have hr:i+(es.length-j)<=c:=by omega
 simp -dsimp only[egR,nH.oV,nH.f,nH.rd,Dc,zn,lvl,xW,reduceIte,Nat.reduceEqDiff,Nat.reduceAdd,Nat.reduceLeDiff,Nat.reduceBEq,reduceCtorEq,Int.reduceBNe,Int.reduceBEq,Int.reduceLT,Int.reduceLE,Int.reduceNeg,Nat.reduceLT,Dj,Int.reduceToNat,ED,yU,Jg,EU,EX,EO,EW,truncS,kX,rE,o6,qM,pU,bZ,oP,jb,he]
 repeat refine kW (by first|(show zF _ _ _ _=true;kernel_rfl)|(show zT _ _=true;kernel_rfl)|omega|assumption) ?_
 simp -dsimp only[egR,nH.oV,nH.f,nH.rd,Dc,zn,lvl,xW,reduceIte,Nat.reduceEqDiff,Nat.reduceAdd,Nat.reduceLeDiff,Nat.reduceBEq,reduceCtorEq,Int.reduceBNe,Int.reduceBEq,Int.reduceLT,Int.reduceLE,Int.reduceNeg,Nat.reduceLT,Dj,Int.reduceToNat,ED,yU,Jg,EU,EX,EO,EW,truncS,kX,rE,o6,qM,pU,bZ,oP,jb,ht,fH,hr]
 repeat refine kW (by first|(show zF _ _ _ _=true;kernel_rfl)|(show zT _ _=true;kernel_rfl)|omega|assumption) ?_
 refine kW (by simp[h0];omega) ?_;have e4:(uF i es).length=i:=by simp;omega
 have e:uF (i+(es.length-j)) (uF i es++mM j es++mM (i+(es.length-j)) es)=uF i es++mM j es:=by
  have e5:(uF i es++mM j es).length=i+(es.length-j):=by rw[ay,e4,fH]
  rw[List.take_append_of_le_length (by omega),aF (by omega)]
 rw[e,dh];generalize bU (es.length-(i+(es.length-j))) z++mM (i+(es.length-j)+(es.length-(i+(es.length-j)))) (uF i es++mM j es++mM (i+(es.length-j)) es)=T;generalize uF i es++mM j es=A;refine N7 [] [(0,0),(1,0)] [] (by rfl) ?_ ?_ ?_<;>(simp -dsimp only[rwR,Wl,IB,reduceIte,Nat.reduceEqDiff,reduceCtorEq,Nat.reduceAdd,Nat.reduceLeDiff]<;>first|(simp[aF];done)|((try simp only[vF,xE,sK,bJ,kM])<;>(repeat' apply kW)<;>first|rfl|(simp;done)|(simp<;>omega;done)|(congr 1;exact(aF (by simp<;>omega)).symm)))
theorem FG.ins {α:Type}(enc:α->List Cell){P:Program}{f gr sz cb:Nat}{z:List Cell}(h0:sz≠0)(hK:iR P f 3 2 (C.ins sz cb gr z) [.tmp 6]=true){s v r:List α}{i:Int}
 (h:chk (0<=i/\i<=(s.length:Int)/\v.length=1/\(s.length+1)*(cb+sz+1)<=2^46) (some (s.take i.toNat++v++s.drop i.toNat))=some r) :
 lD P f [.one (.own 0 s.length sz),.one (.c (.lit (.int .i64 i))),.one (.own 1 v.length sz)] [.dat sz (ag enc s),.dat sz (ag enc v)]
  (λr1 b1=>r1 = .one (.own 2 r.length sz)/\b1=[.dead,.dat sz (ag enc v),.dat sz (ag enc r)]):=by
 obtain⟨⟨q1,q2,q3,q4⟩,h⟩:=yP.1 h;cases h;obtain⟨x,rfl⟩:=List.length_eq_one_iff.1 q3;obtain⟨k,rfl⟩:∃k:Nat,i=k:=⟨i.toNat,by omega⟩;refine Yb (λc hc=>?_);have hf:=FZ.ins h0 hK (es:=ag enc s) (v:=enc x) (c:=c) (i:=k) (by simpa using hc) (by rw[kJ];omega) (by rw[kJ];exact q4);have e1:(uF k s++[x]++mM k s).length=s.length+1:=by simp;omega
 rw[ai,e1];simpa using hf
theorem FG.del {α:Type}(enc:α->List Cell){P:Program}{f sz cb:Nat}{z:List Cell}(h0:sz≠0)(hK:iR P f 3 1 (C.del sz cb z) [.tmp 6]=true){s r:List α}{i j:Int}
 (h:chk (0<=i/\i<j/\j<=(s.length:Int)/\s.length*(cb+sz+1)<=2^46) (some (s.take i.toNat++s.drop j.toNat))=some r) :
 lD P f [.one (.own 0 s.length sz),.one (.c (.lit (.int .i64 i))),.one (.c (.lit (.int .i64 j)))] [.dat sz (ag enc s)]
  (λr1 b1=>r1 = .one (.own 1 r.length sz)/\b1=[.dead,.dat sz (ag enc r)]):=by
 obtain⟨⟨q1,q2,q3,q4⟩,h⟩:=yP.1 h;cases h;obtain⟨k,rfl⟩:∃k:Nat,i=k:=⟨i.toNat,by omega⟩;obtain⟨l,rfl⟩:∃l:Nat,j=l:=⟨j.toNat,by omega⟩;refine Yb (λc hc=>?_);have hf:=FZ.del h0 hK (es:=ag enc s) (c:=c) (i:=k) (j:=l) (by simpa using hc) (by omega) (by rw[kJ];omega) (by rw[kJ];exact q4);have e1:(uF k s++mM l s).length=k+(s.length-l):=by simp;omega
 rw[ai,ai,e1];simpa using hf
section
def Ev {α:Type}(g:Nat->Option α)(r:α):Prop:=∃N,∀n,N<=n->g n=some r
section
variable {α β:Type} {g g':Nat->Option α} {r s:α}
theorem Ev.ret (r:α):Ev (λ_=>some r) r:=⟨0,λ_ _=>rfl⟩
theorem Ev.ret' (h:s=r):Ev (λ_=>some s) r:=by subst h;exact Ev.ret _
theorem Ev.up (h:Ev (λn=>g (n+1)) r):Ev g r:=by obtain⟨N,h⟩:=h;refine⟨N+1,λn hn=>?_⟩;obtain⟨m,rfl⟩:∃m,n=m+1:=⟨n-1,by omega⟩;exact h m (by omega)
theorem Ev.bind {h:Nat->Option β}{k:Nat->β->Option α}{a:β}(h1:Ev h a)(h2:Ev (λn=>k n a) r):Ev (λn=>jc (h n) (k n)) r:=by obtain⟨N,h1⟩:=h1;obtain⟨M,h2⟩:=h2;refine⟨max N M,λn hn=>?_⟩;show jc (h n) (k n)=some r;rw[h1 n (by omega)];exact h2 n (by omega)
theorem Ev.chk {p:Prop}[Decidable p](hp:p)(h:Ev g r):Ev (λn=>Ab.chk p (g n)) r:=by obtain⟨N,h⟩:=h;exact⟨N,λn hn=>by show Ab.chk p (g n)=some r;rw[Ab.chk,if_pos hp];exact h n hn⟩
theorem Ev.ct {c:Bool}(hc:c=true)(h:Ev g r):Ev (λn=>cond c (g n) (g' n)) r:=by subst hc;exact h
theorem Ev.cf {c:Bool}(hc:c=false)(h:Ev g' r):Ev (λn=>cond c (g n) (g' n)) r:=by subst hc;exact h
theorem Ev.ite {c:Bool}(h:c=true->Ev g r)(h':c=false->Ev g' r):Ev (λn=>cond c (g n) (g' n)) r:=by
 cases c
 ·exact h' rfl
 ·exact h rfl
theorem Ev.eq (h:Ev g r)(e:r=s):Ev g s:=e▸h
theorem Ev.uniq (h:Ev g r)(k:Ev g s):r=s:=by obtain⟨N,h⟩:=h;obtain⟨M,k⟩:=k;have e:=h (max N M) (by omega);rw[k (max N M) (by omega)]at e;exact(yt e).symm
theorem Ev.val (h:Ev g r):∃n,g n=some r:=⟨h.choose,h.choose_spec _ (au _)⟩
end
theorem wrapN {x:Int}{m:Nat}(h:x=(m:Int))(h1:m<9223372036854775808):af .i64 x=(m:Int):=by rw[Eu (by omega) (by omega),h]
theorem dA {i:Nat}(h1:i+1<9223372036854775808):af .i64 ((i:Int)+1)=((i+1:Nat):Int):=wrapN (by omega) h1
theorem fZ {α:Type}{l:List α}{i:Nat}(d:α)(h:i<l.length):l.getD i d=l[i]:=by simp[bu,h]
theorem dI {α:Type}{l:List α}{i:Nat}(d:α)(h:i<l.length):l.drop i=l.getD i d::l.drop (i+1):=by rw[fZ d h,yX h]
abbrev bl (x y:List UInt8):Bool:=iL x y
theorem WS (x:List UInt8):bl x []=false:=by cases x<;>rfl
theorem OX (a b:UInt8)(x y:List UInt8):bl (a::x) (b::y)=(decide (a<b)||(a==b&&bl x y)):=rfl
theorem Ko : ∀x:List UInt8,bl x x=false
 |[]=>rfl
 |a::x=>by rw[OX,Ko x];simp
theorem Bv : ∀{x y z:List UInt8},bl x y=true->bl y z=true->bl x z=true
 |_,[],_,h,_=>by rw[WS]at h;cases h
 |_,_::_,[],_,h=>by rw[WS]at h;cases h
 |[],_::_,_::_,_,_=>rfl
 | a::x,b::y,c::z,h,k=>by
   rw[OX]at *;simp only[iJ,ah,decide_eq_true_eq,beq_iff_eq]at *;rcases h with h|⟨rfl,h⟩<;>rcases k with k|⟨rfl,k⟩
   ·exact .inl (UInt8.lt_trans h k)
   ·exact .inl h
   ·exact .inl k
   ·exact .inr ⟨rfl,Bv h k⟩
theorem IL : ∀{x y:List UInt8},bl x y=false->bl y x=false->x=y
 |[],[],_,_=>rfl
 |[],_::_,h,_=>by cases h
 |_::_,[],_,h=>by cases h
 | a::x,b::y,h,k=>by
   rw[OX]at *;simp only[Bool.or_eq_false_iff,sU,decide_eq_false_iff_not]at *;obtain⟨h1,h2⟩:=h;obtain⟨k1,k2⟩:=k;have e:a=b:=by apply nZ.1;simp only[UInt8.lt_iff_toNat_lt]at h1 k1;omega
   subst e;simp only[beq_self_eq_true,Bool.true_eq_false,false_or]at h2 k2;rw[IL h2 k2]
theorem Lj {x y:List UInt8}(h:bl x y=true):bl y x=false:=by
 cases k:bl y x with
 |false=>rfl
 |true=>have:=Bv h k;rw[Ko]at this;cases this
theorem FW {x y:List UInt8}(h:bl x y=true):x≠y:=by intro e;subst e;rw[Ko]at h;cases h
theorem ae3 : ∀(x y:List UInt8),jI x y=if bl x y then -1 else if x=y then 0 else 1
 |[],[]=>rfl
 |[],_::_=>rfl
 |_::_,[]=>by simp[jI,WS]
 | a::x,b::y=>by
   rw[jI,OX];by_cases h:a<b
   ·simp[h]
   ·by_cases k:b<a
    ·have:a≠b:=λe=>(by subst e;exact h k);simp[h,k,this]
    ·have e:a=b:=by
      apply nZ.1;simp only[UInt8.lt_iff_toNat_lt]at h k;omega
     subst e;rw[if_neg h,if_neg h,ae3 x y];simp
theorem RH {x y:List UInt8} : jI x y=0<->x=y:=by
 rw[ae3];by_cases h:bl x y=true
 ·simp only[h,if_true];exact⟨λe=>by omega,λe=>absurd e (FW h)⟩
 ·simp only[h];by_cases e:x=y<;>simp[e]
end
def okB (b:UInt8):Bool:=decide (32<=b.toNat)&&decide (b.toNat<=126)
def PT (s:aO):Bool:=s.all okB&&decide (s.length<=12)
def PP (p:List aO):Bool:=p.all PT&&decide (p.length<=5)
def Asc : List aO->Bool
 |[]=>true
 |[_]=>true
 |x::y::r=>iL x y&&Asc (y::r)
def big : Nat:=4611686018427387904
theorem GG (b:UInt8):af .i64 (b.toNat:Int)=(b.toNat:Int):=by have:=b.toNat_lt;exact wrapN rfl (by omega)
theorem T.fP (a lo hi:Int):Ev (λn=>G.fP n a lo hi) (decide (lo<=a)&&decide (a<=hi)):=by
 refine Ev.up ?_;simp only[G.fP];refine Ev.ite (λh=>?_) (λh=>?_)
 ·exact Ev.ret' (by rw[h,bQ])
 ·exact Ev.ret' (by rw[h,uO])
theorem T.iV.L1 (s:aO)(hs:s.length<big):∀(k i:Nat),i+k=s.length->Ev (λn=>G.iV.L1 n s i) ((s.drop i).all okB&&decide (s.length<=12)):=by
 unfold big at hs;intro k
 induction k with
 | zero=>intro i hi;refine Ev.up ?_;simp only[G.iV.L1];refine Ev.cf (by simp;omega) (Ev.ret' ?_);rw[ak (by omega)];simp;omega
 | succ k ih=>
   intro i hi;refine Ev.up ?_;simp only[G.iV.L1];refine Ev.ct (by simp;omega) (Ev.chk (by omega) ?_);refine Ev.bind (T.fP _ _ _) ?_;rw[dI (0:UInt8) (by omega:i<s.length),dJ,ai,GG];have e:(decide ((32:Int)<=((s.getD i 0).toNat:Int))&&decide (((s.getD i 0).toNat:Int)<=126))=okB (s.getD i 0):=(by unfold okB;congr 1<;>(apply decide_eq_decide.2;omega));rw[e];refine Ev.ite (λh=>?_) (λh=>?_)
   ·rw[dA (by omega),h,bQ];exact ih (i+1) (by omega)
   ·exact Ev.ret' (by rw[h];rfl)
theorem T.iV (s:aO)(hs:s.length<big):Ev (λn=>G.iV n s) (PT s):=by refine Ev.up ?_;simp only[G.iV];exact T.iV.L1 s hs s.length 0 (by omega)
theorem T.gK.L1 (s:aO)(hs:s.length<big):∀(k i:Nat),i+k=s.length->Ev (λn=>G.gK.L1 n s i) ((s.drop i).all okB):=by
 unfold big at hs;intro k
 induction k with
 | zero=>intro i hi;refine Ev.up ?_;simp only[G.gK.L1];refine Ev.cf (by simp;omega) (Ev.ret' ?_);rw[ak (by omega)];rfl
 | succ k ih=>
   intro i hi;refine Ev.up ?_;simp only[G.gK.L1];rw[dI (0:UInt8) (by omega:i<s.length),dJ,ai];refine Ev.ct (by simp;omega) (Ev.chk (by omega) ?_);refine Ev.ite (λh=>?_) (λh=>?_)
   ·refine Ev.ret' ?_;have:okB (s.getD i 0)=false:=by
     simp only[decide_eq_true_eq]at h;simp only[okB,sU,decide_eq_false_iff_not];omega
    rw[this];rfl
   ·refine Ev.chk (by omega) ?_;refine Ev.ite (λk=>?_) (λk=>?_)
    ·refine Ev.ret' ?_;have:okB (s.getD i 0)=false:=by
      simp only[decide_eq_true_eq]at k;simp only[okB,sU,decide_eq_false_iff_not];omega
     rw[this];rfl
    ·have:okB (s.getD i 0)=true:=by
      simp only[decide_eq_false_iff_not]at h k;simp only[okB,ah,decide_eq_true_eq];omega
     rw[this,bQ,dA (by omega)];exact ih (i+1) (by omega)
theorem T.gK (s:aO)(hs:s.length<big):Ev (λn=>G.gK n s) (PT s):=by
 refine Ev.up ?_;simp only[G.gK];refine Ev.ite (λh=>?_) (λh=>?_)
 ·simp only[decide_eq_true_eq]at h;refine Ev.ret' ?_;have:decide (s.length<=12)=false:=by simp;omega
  rw[PT,this,rD]
 ·simp only[decide_eq_false_iff_not]at h;refine(T.gK.L1 s hs s.length 0 (by omega)).eq ?_;have:decide (s.length<=12)=true:=by simp;omega
  rw[PT,this,pz,bZ]
def Sm (l:List aO):Prop:=l.length<big/\∀s,s∈l->s.length<big
theorem Sm.get {l:List aO}(h:Sm l){i:Nat}(hi:i<l.length):(l.getD i default).length<big:=by rw[fZ _ hi];exact h.2 _ (dO hi)
theorem T.jk.L1 (p:List aO)(hp:Sm p):∀(k i:Nat),i+k=p.length->Ev (λn=>G.jk.L1 n p i) ((p.drop i).all PT&&decide (p.length<=5)):=by
 have hl:=hp.1;unfold big at hl;intro k
 induction k with
 | zero=>intro i hi;refine Ev.up ?_;simp only[G.jk.L1];refine Ev.cf (by simp;omega) (Ev.ret' ?_);rw[ak (by omega)];simp;omega
 | succ k ih=>
   intro i hi;refine Ev.up ?_;simp only[G.jk.L1];refine Ev.ct (by simp;omega) (Ev.chk (by omega) ?_);rw[dI (default:aO) (by omega:i<p.length),dJ,ai];refine Ev.bind (T.iV _ (hp.get (by omega))) ?_;refine Ev.ite (λh=>?_) (λh=>?_)
   ·rw[dA (by omega),h,bQ];exact ih (i+1) (by omega)
   ·exact Ev.ret' (by rw[h];rfl)
theorem T.jk (p:List aO)(hp:Sm p):Ev (λn=>G.jk n p) (PP p):=by refine Ev.up ?_;simp only[G.jk];exact T.jk.L1 p hp p.length 0 (by omega)
theorem T.iI.L1 (p:List aO)(hp:Sm p):∀(k i:Nat),i+k=p.length->Ev (λn=>G.iI.L1 n p i) ((p.drop i).all PT):=by
 have hl:=hp.1;unfold big at hl;intro k
 induction k with
 | zero=>intro i hi;refine Ev.up ?_;simp only[G.iI.L1];refine Ev.cf (by simp;omega) (Ev.ret' ?_);rw[ak (by omega)];rfl
 | succ k ih=>
   intro i hi;refine Ev.up ?_;simp only[G.iI.L1];refine Ev.ct (by simp;omega) (Ev.chk (by omega) ?_);rw[dI (default:aO) (by omega:i<p.length),dJ,ai];refine Ev.bind (T.gK _ (hp.get (by omega))) ?_;refine Ev.ite (λh=>?_) (λh=>?_)
   ·rw[dA (by omega),h,bQ];exact ih (i+1) (by omega)
   ·exact Ev.ret' (by rw[h];rfl)
theorem T.iI (p:List aO)(hp:Sm p):Ev (λn=>G.iI n p) (PP p):=by
 refine Ev.up ?_;simp only[G.iI];refine Ev.ite (λh=>?_) (λh=>?_)
 ·simp only[decide_eq_true_eq]at h;refine Ev.ret' ?_;have:decide (p.length<=5)=false:=by simp;omega
  rw[PP,this,rD]
 ·simp only[decide_eq_false_iff_not]at h;refine(T.iI.L1 p hp p.length 0 (by omega)).eq ?_;have:decide (p.length<=5)=true:=by simp;omega
  rw[PP,this,pz,bZ]
def NM (l:List aO):Bool:=l.all PT&&Asc l
theorem drop_pred {l:List aO}{i:Nat}(h0:0<i)(h:i<l.length):l.drop (i-1)=l.getD (i-1) default::l.getD i default::l.drop (i+1):=by rw[dI (default:aO) (by omega:i-1<l.length),show i-1+1=i by omega,dI (default:aO) h]
theorem T.oC.L1 (l:List aO)(hp:Sm l):∀(k i:Nat),i+k=l.length->Ev (λn=>G.oC.L1 n l i) ((l.drop i).all PT&&Asc (l.drop (i-1))):=by
 have hl:=hp.1;unfold big at hl;intro k
 induction k with
 | zero=>
   intro i hi;refine Ev.up ?_;simp only[G.oC.L1];refine Ev.cf (by simp;omega) (Ev.ret' ?_);rw[ak (by omega)];by_cases h0:i=0
   ·rw[ak (by omega)];rfl
   ·rw[dI (default:aO) (by omega:i-1<l.length),ak (by omega)];rfl
 | succ k ih=>
   intro i hi;refine Ev.up ?_;simp only[G.oC.L1];refine Ev.ct (by simp;omega) (Ev.chk (by omega) ?_);rw[dI (default:aO) (by omega:i<l.length),dJ,ai];refine Ev.bind (T.iV _ (hp.get (by omega))) ?_;refine Ev.ite (λh=>?_) (λh=>?_)
   ·rw[h,bQ,dA (by omega)];refine Ev.ite (λh0=>?_) (λh0=>?_)
    ·simp only[decide_eq_true_eq]at h0;have e:af .i64 ((i:Int)-1)=((i-1:Nat):Int):=wrapN (by omega) (by omega);rw[e,ai];refine Ev.chk (by omega) (Ev.chk (by omega) ?_);rw[drop_pred (by omega) (by omega),Asc];have hd:l.getD i default::l.drop (i+1)=l.drop (i+1-1):=(by rw[jb,<- dI (default:aO) (by omega:i<l.length)]);refine Ev.ite (λh1=>?_) (λh1=>?_)
     ·exact Ev.ret' (by rw[show iL (l.getD (i-1) default) (l.getD i default)=false from Lj h1];simp)
     ·refine Ev.ite (λh2=>?_) (λh2=>?_)
      ·rw[beq_iff_eq]at h2;exact Ev.ret' (by rw[show iL (l.getD (i-1) default) (l.getD i default)=false by rw[h2];exact Ko _];simp)
      ·have:iL (l.getD (i-1) default) (l.getD i default)=true:=by
        cases hb:iL (l.getD (i-1) default) (l.getD i default)with
        |true=>rfl
        |false=>rw[IL h1 hb]at h2;simp at h2
       rw[this,bQ,hd];exact ih (i+1) (by omega)
    ·simp only[decide_eq_false_iff_not]at h0;have:i=0:=(by omega);subst this;exact ih 1 (by omega)
   ·exact Ev.ret' (by rw[h];rfl)
theorem T.oC (l:List aO)(hp:Sm l):Ev (λn=>G.oC n l) (NM l):=by refine Ev.up ?_;simp only[G.oC];exact T.oC.L1 l hp l.length 0 (by omega)
theorem T.jQ.L1 (l:List aO)(hp:Sm l):∀(k i:Nat),i+k=l.length->Ev (λn=>G.jQ.L1 n l i) ((l.drop i).all PT&&Asc (l.drop (i-1))):=by
 have hl:=hp.1;unfold big at hl;intro k
 induction k with
 | zero=>
   intro i hi;refine Ev.up ?_;simp only[G.jQ.L1];refine Ev.cf (by simp;omega) (Ev.ret' ?_);rw[ak (by omega)];by_cases h0:i=0
   ·rw[ak (by omega)];rfl
   ·rw[dI (default:aO) (by omega:i-1<l.length),ak (by omega)];rfl
 | succ k ih=>
   intro i hi;refine Ev.up ?_;simp only[G.jQ.L1];refine Ev.ct (by simp;omega) (Ev.chk (by omega) ?_);rw[dI (default:aO) (by omega:i<l.length),dJ,ai];refine Ev.bind (T.gK _ (hp.get (by omega))) ?_;refine Ev.ite (λh=>?_) (λh=>?_)
   ·rw[h,bQ,dA (by omega)];refine Ev.ite (λh0=>?_) (λh0=>?_)
    ·simp only[decide_eq_true_eq]at h0;have e:af .i64 ((i:Int)-1)=((i-1:Nat):Int):=wrapN (by omega) (by omega);rw[e,ai];refine Ev.chk (by omega) ?_;rw[drop_pred (by omega) (by omega),Asc];have hd:l.getD i default::l.drop (i+1)=l.drop (i+1-1):=(by rw[jb,<- dI (default:aO) (by omega:i<l.length)]);refine Ev.ite (λh1=>?_) (λh1=>?_)
     ·rw[h1,bQ,hd];exact ih (i+1) (by omega)
     ·exact Ev.ret' (by rw[h1];simp)
    ·simp only[decide_eq_false_iff_not]at h0;have:i=0:=(by omega);subst this;exact ih 1 (by omega)
   ·exact Ev.ret' (by rw[h];rfl)
theorem T.jQ (l:List aO)(hp:Sm l):Ev (λn=>G.jQ n l) (NM l&&decide (l.length<=6)):=by
 refine Ev.up ?_;simp only[G.jQ];refine Ev.ite (λh=>?_) (λh=>?_)
 ·simp only[decide_eq_true_eq]at h;refine Ev.ret' ?_;have:decide (l.length<=6)=false:=by simp;omega
  rw[this,rD]
 ·simp only[decide_eq_false_iff_not]at h;refine(T.jQ.L1 l hp l.length 0 (by omega)).eq ?_;have:decide (l.length<=6)=true:=by simp;omega
  rw[NM,this,pz,bZ]
def Fine (B:Nat):Nat->aj->Prop
 |0,_=>False
 |d+1,n=>n.Text.length<=B/\n.Names.length<=B/\(∀s,s∈n.Names->s.length<=B)/\n.Kids.length<=B/\(n.Kind=4->n.Kids.length<=n.Names.length)/\∀k,k∈n.Kids->Fine B d k
def vH (B:Nat):Nat->aj->Prop
 |0,_=>False
 |d+1,n=>n.Text.length<=B/\n.Names.length<=B/\(∀s,s∈n.Names->s.length<=B)/\n.Kids.length<=B/\True/\∀k,k∈n.Kids->vH B d k
theorem Fine.fin0 {B:Nat} : ∀{d:Nat} {n:aj},Fine B d n->vH B d n
 |0,_,h=>h
 |d+1,n,⟨h1,h2,h3,h4,_,h6⟩=>⟨h1,h2,h3,h4,trivial,λk hk=>(h6 k hk).fin0⟩
theorem Fine.mono {B C:Nat}(hB:B<=C):∀{d e:Nat} {n:aj},d<=e->Fine B d n->Fine C e n
 |0,_,_,_,h=>h.elim
 |d+1,0,_,hd,_=>by omega
 | d+1,e+1,n,hd,h=>by obtain⟨h1,h2,h3,h4,h5,h6⟩:=h;exact⟨by omega,by omega,λs hs=>ig (h3 s hs) hB,by omega,h5,λk hk=>(h6 k hk).mono hB (by omega)⟩
theorem vH.mono {B C:Nat}(hB:B<=C):∀{d e:Nat} {n:aj},d<=e->vH B d n->vH C e n
 |0,_,_,_,h=>h.elim
 |d+1,0,_,hd,_=>by omega
 | d+1,e+1,n,hd,h=>by obtain⟨h1,h2,h3,h4,h5,h6⟩:=h;exact⟨by omega,by omega,λs hs=>ig (h3 s hs) hB,by omega,h5,λk hk=>(h6 k hk).mono hB (by omega)⟩
def lim : Nat:=4294967296
theorem Fine.sm {B d:Nat}{n:aj}(hB:B<=lim)(h:Fine B d n):Sm n.Names:=by
 cases d with
 |zero=>exact h.elim
 | succ d=>obtain⟨h1,h2,h3,h4,h5,h6⟩:=h;unfold lim at hB;exact⟨by unfold big;omega,λs hs=>by have:=h3 s hs;unfold big;omega⟩
theorem vH.sm {B d:Nat}{n:aj}(hB:B<=lim)(h:vH B d n):Sm n.Names:=by
 cases d with
 |zero=>exact h.elim
 | succ d=>obtain⟨h1,h2,h3,h4,h5,h6⟩:=h;unfold lim at hB;exact⟨by unfold big;omega,λs hs=>by have:=h3 s hs;unfold big;omega⟩
theorem Fine.text {B d:Nat}{n:aj}(hB:B<=lim)(h:Fine B d n):n.Text.length<big:=by
 cases d with
 |zero=>exact h.elim
 |succ d=>obtain⟨h1,_⟩:=h;unfold lim at hB;unfold big;omega
theorem vH.text {B d:Nat}{n:aj}(hB:B<=lim)(h:vH B d n):n.Text.length<big:=by
 cases d with
 |zero=>exact h.elim
 |succ d=>obtain⟨h1,_⟩:=h;unfold lim at hB;unfold big;omega
theorem Fine.kids {B d:Nat}{n:aj}(h:Fine B d n):n.Kids.length<=B:=by
 cases d with
 |zero=>exact h.elim
 |succ d=>exact h.2.2.2.1
theorem vH.kids {B d:Nat}{n:aj}(h:vH B d n):n.Kids.length<=B:=by
 cases d with
 |zero=>exact h.elim
 |succ d=>exact h.2.2.2.1
theorem Fine.names {B d:Nat}{n:aj}(h:Fine B d n):n.Names.length<=B:=by
 cases d with
 |zero=>exact h.elim
 |succ d=>exact h.2.1
theorem vH.names {B d:Nat}{n:aj}(h:vH B d n):n.Names.length<=B:=by
 cases d with
 |zero=>exact h.elim
 |succ d=>exact h.2.1
theorem Fine.map {B d:Nat}{n:aj}(h:Fine B d n)(hk:n.Kind=4):n.Kids.length<=n.Names.length:=by
 cases d with
 |zero=>exact h.elim
 |succ d=>exact h.2.2.2.2.1 hk
theorem Fine.kid {B d:Nat}{n:aj}(h:Fine B (d+1) n){i:Nat}(hi:i<n.Kids.length):Fine B d (n.Kids.getD i default):=by rw[fZ _ hi];exact h.2.2.2.2.2 _ (dO hi)
theorem vH.kid {B d:Nat}{n:aj}(h:vH B (d+1) n){i:Nat}(hi:i<n.Kids.length):vH B d (n.Kids.getD i default):=by rw[fZ _ hi];exact h.2.2.2.2.2 _ (dO hi)
def Parts (n:aj):Bool:=
 (n.Kind==1||n.Num==0)&&(n.Kind==2||n.Text==[])&&(n.Kind==4||n.Names.length==0) &&
 (if n.Kind=0 then n.Kids.length==0 else if n.Kind=1 then(decide (-999999<=n.Num)&&decide (n.Num<=999999))&&n.Kids.length==0 else if n.Kind=2 then PT n.Text&&n.Kids.length==0
  else if n.Kind=3 then decide (n.Kids.length<=6)else if n.Kind=4 then NM n.Names&&decide (n.Names.length<=6)&&n.Kids.length==n.Names.length else false)
def Shape : Nat->aj->Bool
 |0,_=>false
 |d+1,n=>Parts n&&n.Kids.all (Shape d)
theorem ilen {a b:Nat} : ((a:Int)==(b:Int))=(a==b):=by rw[pg];simp;omega
theorem agl {a:Nat} : ((a:Int)==0)=(a==0):=by rw[pg];simp
theorem O0 {a b:Nat} : decide ((a:Int)<=(b:Int))=decide (a<=b):=by rw[pg];simp
def J4 (n:aj):Bool:=
 (n.Kind==4||n.Names.length==0) &&
 (if n.Kind=0 then n.Kids.length==0 else if n.Kind=1 then(decide (-999999<=n.Num)&&decide (n.Num<=999999))&&n.Kids.length==0 else if n.Kind=2 then PT n.Text&&n.Kids.length==0
  else if n.Kind=3 then decide (n.Kids.length<=6)else if n.Kind=4 then NM n.Names&&decide (n.Names.length<=6)&&n.Kids.length==n.Names.length else false)
theorem aaR (n:aj):Parts n=((n.Kind==1||n.Num==0)&&(n.Kind==2||n.Text==[])&&J4 n):=by unfold Parts J4;simp only[Bool.and_assoc]
theorem T0.gW.K1 {B d:Nat}{n:aj}(hB:B<=lim)(h:vH B d n):Ev (λf=>G.gW.K1 f n) (J4 n):=by
 refine Ev.up ?_;simp only[G.gW.K1];have ht:=T.gK _ (h.text hB);have hn:=T.jQ _ (h.sm hB);have h0:decide ((0:Int)<(n.Names.length:Int)) = !(n.Names.length==0):=by cases hq:n.Names.length<;>simp
 have h6:decide ((n.Kids.length:Int)<=6)=decide (n.Kids.length<=6):=by rw[pg];simp;omega
 rw[h0];have tail:Ev (λf=>cond (n.Kind==0) (some ((n.Kids.length:Int)==0)) (cond (n.Kind==1) (cond (decide ((-999999)<=n.Num)) (cond (decide (n.Num<=999999)) (some ((n.Kids.length:Int)==0)) (some false)) (some false))
  (cond (n.Kind==2) (jc (G.gK f n.Text) λv3=>cond v3 (some ((n.Kids.length:Int)==0)) (some false))
  (cond (n.Kind==3) (some (decide ((n.Kids.length:Int)<=6))) (cond (n.Kind==4) (jc (G.jQ f n.Names) λv4=>cond v4 (some ((n.Kids.length:Int)==(n.Names.length:Int))) (some false)) (some false))))))
  (if n.Kind=0 then n.Kids.length==0 else if n.Kind=1 then(decide (-999999<=n.Num)&&decide (n.Num<=999999))&&n.Kids.length==0 else if n.Kind=2 then PT n.Text&&n.Kids.length==0
   else if n.Kind=3 then decide (n.Kids.length<=6)else if n.Kind=4 then NM n.Names&&decide (n.Names.length<=6)&&n.Kids.length==n.Names.length else false):=by
  rw[agl,ilen,h6];refine Ev.ite (λe=>Ev.ret' ?_) (λe0=>?_)
  ·rw[if_pos (by simpa using e)]
  rw[if_neg (by simpa using e0)];refine Ev.ite (λe=>?_) (λe1=>?_)
  ·rw[if_pos (by simpa using e)];refine Ev.ite (λk=>Ev.ite (λk2=>Ev.ret' ?_) (λk2=>Ev.ret' ?_)) (λk=>Ev.ret' ?_)
   ·rw[k,k2];simp
   ·rw[k2];simp
   ·rw[k];simp
  rw[if_neg (by simpa using e1)];refine Ev.ite (λe=>?_) (λe2=>?_)
  ·rw[if_pos (by simpa using e)];refine Ev.bind ht (Ev.ite (λk=>Ev.ret' ?_) (λk=>Ev.ret' ?_))
   ·rw[k,bQ]
   ·rw[k,uO]
  rw[if_neg (by simpa using e2)];refine Ev.ite (λe=>Ev.ret' ?_) (λe3=>?_)
  ·rw[if_pos (by simpa using e)]
  rw[if_neg (by simpa using e3)];refine Ev.ite (λe=>?_) (λe4=>Ev.ret' ?_)
  ·rw[if_pos (by simpa using e)];refine Ev.bind hn (Ev.ite (λk=>Ev.ret' ?_) (λk=>Ev.ret' ?_))
   ·rw[k,bQ]
   ·rw[k,uO]
  ·rw[if_neg (by simpa using e4)]
 refine Ev.ite (λe=>?_) (λe=>?_)
 ·have e':(n.Kind==4)=false:=by simpa using e
  refine Ev.ite (λk=>Ev.ret' ?_) (λk=>?_)
  ·rw[Bool.not_eq_true']at k;rw[J4,e',k];rfl
  ·rw[Bool.not_eq_false']at k;exact tail.eq (by rw[J4,k,zJ,bQ])
 ·have e':(n.Kind==4)=true:=by simpa using e
  exact tail.eq (by rw[J4,e',zK,bQ])
theorem T0.gW {B d:Nat}{n:aj}(hB:B<=lim)(h:vH B d n):Ev (λf=>G.gW f n) (Parts n):=by
 refine Ev.up ?_;simp only[G.gW];have hk:=T0.gW.K1 hB h;rw[aaR];have tail:Ev (λf=>cond (n.Kind != 2) (cond (n.Text==[]) (G.gW.K1 f n) (some false)) (G.gW.K1 f n)) ((n.Kind==2||n.Text==[])&&J4 n):=by
  refine Ev.ite (λe=>?_) (λe=>?_)
  ·have e':(n.Kind==2)=false:=(by simpa using e);refine Ev.ite (λk=>?_) (λk=>Ev.ret' ?_)
   ·exact hk.eq (by rw[k,zJ,bQ])
   ·rw[e',k];rfl
  ·have e':(n.Kind==2)=true:=(by simpa using e);exact hk.eq (by rw[e',zK,bQ])
 refine Ev.ite (λe=>?_) (λe=>?_)
 ·have e':(n.Kind==1)=false:=by simpa using e
  refine Ev.ite (λk=>Ev.ret' ?_) (λk=>?_)
  ·have:(n.Num==0)=false:=(by simpa using k);rw[e',this];rfl
  ·have:(n.Num==0)=true:=(by simpa using k);exact tail.eq (by rw[this,zJ,bQ])
 ·have e':(n.Kind==1)=true:=by simpa using e
  exact tail.eq (by rw[e',zK,bQ])
theorem T0.ru.L1 {B D d:Nat}{n:aj}(hB:B<=lim)(h:vH B (D+1) n)(hd:d<1000)(hs:∀k,k∈n.Kids->Ev (λf=>G.ji f k d) (Shape d k)) :
 ∀(k i:Nat),i+k=n.Kids.length->Ev (λf=>G.ru.L1 f n ((d+1:Nat):Int) i) ((n.Kids.drop i).all (Shape d)):=by
 have hl:=h.kids;unfold lim at hB;intro k
 induction k with
 | zero=>intro i hi;refine Ev.up ?_;simp only[G.ru.L1];refine Ev.cf (by simp;omega) (Ev.ret' ?_);rw[ak (by omega)];rfl
 | succ k ih=>
   intro i hi;refine Ev.up ?_;simp only[G.ru.L1];refine Ev.ct (by simp;omega) (Ev.chk (by omega) ?_);rw[dI (default:aj) (by omega:i<n.Kids.length),dJ,ai];have e:af .i64 (((d+1:Nat):Int)-1)=(d:Int):=wrapN (by omega) (by omega);rw[e];refine Ev.bind (hs _ (by rw[fZ _ (by omega:i<n.Kids.length)];exact dO _)) ?_;refine Ev.ite (λh=>?_) (λh=>?_)
   ·rw[dA (by omega),h,bQ];exact ih (i+1) (by omega)
   ·exact Ev.ret' (by rw[h];rfl)
theorem T0.ru {B D d:Nat}{n:aj}(hB:B<=lim)(h:vH B (D+1) n)(hd:d<1000)(hs:∀k,k∈n.Kids->Ev (λf=>G.ji f k d) (Shape d k)) :
 Ev (λf=>G.ru f n ((d+1:Nat):Int)) (n.Kids.all (Shape d)):=by
 refine Ev.up ?_;simp only[G.ru];exact T0.ru.L1 hB h hd hs n.Kids.length 0 (by omega)
def ShK (d:Nat)(n:aj):Bool:=
 if n.Kind=1 then decide (-999999<=n.Num)&&decide (n.Num<=999999)else if n.Kind=2 then PT n.Text else if n.Kind=3 then n.Kids.all (Shape d)
 else if n.Kind=4 then n.Names.length==n.Kids.length&&NM n.Names&&n.Kids.all (Shape d)else n.Kind==0
theorem T0.ji.K1 {B D d:Nat}{n:aj}(hB:B<=lim)(h:vH B (D+1) n)(hd:d<1000)(hs:∀k,k∈n.Kids->Ev (λf=>G.ji f k d) (Shape d k)) :
 Ev (λf=>G.ji.K1 f n ((d+1:Nat):Int)) (ShK d n):=by
 refine Ev.up ?_;simp only[G.ji.K1];have hk:=T0.ru hB h hd hs;unfold ShK;refine Ev.ite (λe=>?_) (λe1=>?_)
 ·rw[if_pos (by simpa using e)];exact Ev.bind (T.fP _ _ _) (Ev.ret _)
 rw[if_neg (by simpa using e1)];refine Ev.ite (λe=>?_) (λe2=>?_)
 ·rw[if_pos (by simpa using e)];exact Ev.bind (T.iV _ (h.text hB)) (Ev.ret _)
 rw[if_neg (by simpa using e2)];refine Ev.ite (λe=>?_) (λe3=>?_)
 ·rw[if_pos (by simpa using e)];exact Ev.bind hk (Ev.ret _)
 rw[if_neg (by simpa using e3)];refine Ev.ite (λe=>?_) (λe4=>?_)
 ·rw[if_pos (by simpa using e),ilen];refine Ev.ite (λk=>?_) (λk=>Ev.ret' (by rw[k];rfl));refine Ev.bind (T.oC _ (h.sm hB)) ?_;refine Ev.ite (λk2=>?_) (λk2=>Ev.ret' (by rw[k2];simp));exact Ev.bind hk (Ev.ret' (by rw[k,k2];rfl))
 ·exact Ev.ret' (by rw[if_neg (by simpa using e4)])
theorem agm {a:Nat} : decide ((0:Int)<(a:Int)) = !(a==0):=by cases a<;>simp
theorem Xl {c a:Bool}{g:Nat->Option Bool}{V:Bool}(h:Ev g V):Ev (λf=>cond c (cond a (some false) (g f)) (g f)) ((!c || !a)&&V):=by
 cases c<;>cases a
 ·exact h
 ·exact h
 ·exact h
 ·exact Ev.ret _
theorem adJ {c a:Bool}{g:Nat->Option Bool}{V:Bool}(h:Ev g V):Ev (λf=>cond c (cond a (g f) (some false)) (g f)) ((!c||a)&&V):=by
 cases c<;>cases a
 ·exact h
 ·exact h
 ·exact Ev.ret _
 ·exact h
theorem KJ {n:aj}(h:6<n.Kids.length):Parts n=false:=by
 have e0:(n.Kids.length==0)=false:=beq_eq_false_iff_ne.2 (by omega);have e6:decide (n.Kids.length<=6)=false:=by simp;omega
 have e4:(NM n.Names&&decide (n.Names.length<=6)&&n.Kids.length==n.Names.length)=false:=by
  cases h1:decide (n.Names.length<=6)with
  |false=>simp
  | true=>have:(n.Kids.length==n.Names.length)=false:=(by simp at h1;simp;omega);rw[this,rD]
 unfold Parts;rw[e0,e6,e4];simp
theorem acB {d:Nat}{n:aj}(h:n.Kids.length<=6) :
 ((!(n.Kind != 1) || !(n.Num != 0))&&((!(n.Kind != 2)||n.Text==[])&&((!(n.Kind != 4) || !(!(n.Names.length==0)))&&((!(decide (n.Kind<3)) || !(!(n.Kids.length==0)))&&ShK d n))))=Shape (d+1) n:=by
 have e6:decide (n.Kids.length<=6)=true:=by simp;omega
 have hall:n.Kids.length=0->n.Kids.all (Shape d)=true:=λe=>by rw[di e];rfl
 have hb:∀x y:Int,(!(x != y))=(x==y):=λx y=>by simp[bne]
 rw[hb,hb,hb,hb];unfold Shape Parts ShK;simp only[Bool.not_not,Bool.and_assoc]
 congr 1
 congr 1
 congr 1
 rw[e6];by_cases k0:n.Kind=0
 ·simp only[k0];cases hz:(n.Kids.length==0)<;>simp_all
 by_cases k1:n.Kind=1
 ·simp only[k1];cases hz:(n.Kids.length==0)<;>simp_all
 by_cases k2:n.Kind=2
 ·simp only[k2];cases hz:(n.Kids.length==0)<;>simp_all
 by_cases k3:n.Kind=3
 ·simp[k3]
 by_cases k4:n.Kind=4
 ·simp only[k4];have hc:(n.Kids.length==n.Names.length)=(n.Names.length==n.Kids.length):=by rw[pg];simp;omega
  rw[hc];cases hz:(n.Names.length==n.Kids.length)
  ·simp
  ·have:decide (n.Names.length<=6)=true:=(by simp at hz;simp;omega);simp[this]
 ·simp[k0,k1,k2,k3,k4]
def Cnt : Nat->aj->Nat
 |0,_=>0
 |d+1,n=>1+(n.Kids.map (Cnt d)).sum
theorem kL {d:Nat}{n:aj}(h:Shape (d+1) n=true):Parts n=true:=by unfold Shape at h;simp only[ah]at h;exact h.1
theorem tJ {d:Nat}{n:aj}(h:Shape (d+1) n=true):∀k,k∈n.Kids->Shape d k=true:=by unfold Shape at h;simp only[ah]at h;exact bg.1 h.2
theorem Dw {d:Nat}{n:aj}(h:Shape d n=true):n.Kids.length<=6:=by
 cases d with
 |zero=>cases h
 | succ d=>
   by_cases k:n.Kids.length<=6
   ·exact k
   ·have:=KJ (n:=n) (by omega);rw[kL h]at this;cases this
theorem acM {α:Type}(f:α->Nat)(m:Nat):∀l:List α,(∀x,x∈l->f x<=m)->(l.map f).sum<=l.length*m
 |[],_=>by simp
 | x::l,h=>by have h1:=acM f m l (λy hy=>h y (by simp[hy]));have h2:=h x (by simp);simp only[bJ,qV,dB,Nat.add_mul];omega
theorem cnt_le : ∀{d:Nat} {n:aj},Shape d n=true->Cnt d n<=7^d
 |0,_,h=>by cases h
 | d+1,n,h=>by have hk:=tJ h;have:=acM (Cnt d) (7^d) n.Kids (λk hk'=>cnt_le (hk k hk'));have h6:=Dw h;have hm:n.Kids.length*7^d<=6*7^d:=bD _ h6;have hp:1<=7^d:=Nat.one_le_pow _ _ (by omega);unfold Cnt;rw[xX];omega
theorem Uk {d:Nat}(h:d<=5):7^d<=16807:=ig (Nat.pow_le_pow_right (by omega) h) (by decide)
theorem T0.ji {B:Nat}(hB:B<=lim):∀(d D:Nat) (n:aj),d<1000->vH B D n->Ev (λf=>G.ji f n (d:Int)) (Shape d n):=by
 intro d
 induction d with
 | zero=>intro D n _ h;refine Ev.up ?_;simp only[G.ji];exact Ev.ct (by simp) (Ev.ret _)
 | succ d ih=>
   intro D n hd h;cases D with
   |zero=>exact h.elim
   |succ D=>
   have hK:=T0.ji.K1 (d:=d) hB h (by omega) (λk hk=>ih D k (by omega) (h.2.2.2.2.2 k hk));refine Ev.up ?_;simp only[G.ji];rw[agm,agm];have t1:=Xl (c:=decide (n.Kind<3)) (a:= !(n.Kids.length==0)) hK;have t2:=Xl (c:=n.Kind != 4) (a:= !(n.Names.length==0)) t1;have t3:=adJ (c:=n.Kind != 2) (a:=n.Text==[]) t2;have t4:=Xl (c:=n.Kind != 1) (a:=n.Num != 0) t3;refine Ev.cf (by simp;omega) ?_;refine Ev.ite (λe=>Ev.ret' ?_) (λe=>t4.eq ?_)
   ·simp only[decide_eq_true_eq]at e;rw[Shape,KJ (by omega)];rfl
   ·simp only[decide_eq_false_iff_not]at e;exact acB (by omega)
theorem T0.nK.L1 {B D d:Nat}{n:aj}(hB:B<=lim)(h:vH B (D+1) n)(hs:∀k,k∈n.Kids->Ev (λf=>G.nK f k) ((Cnt d k:Nat):Int)) :
 ∀(k i c:Nat),i+k=n.Kids.length->c+((n.Kids.drop i).map (Cnt d)).sum<big->Ev (λf=>G.nK.L1 f n (c:Int) i) ((c+((n.Kids.drop i).map (Cnt d)).sum:Nat):Int):=by
 have hl:=h.kids;unfold lim at hB;unfold big;intro k
 induction k with
 | zero=>intro i c hi hc;refine Ev.up ?_;simp only[G.nK.L1];refine Ev.cf (by simp;omega) (Ev.ret' ?_);rw[ak (by omega)];rfl
 | succ k ih=>intro i c hi;rw[dI (default:aj) (by omega:i<n.Kids.length),bJ,qV];intro hc;refine Ev.up ?_;simp only[G.nK.L1];refine Ev.ct (by simp;omega) (Ev.chk (by omega) ?_);rw[ai];refine Ev.bind (hs _ (by rw[fZ _ (by omega:i<n.Kids.length)];exact dO _)) ?_;rw[dA (by omega),wrapN (m:=c+Cnt d (n.Kids.getD i default)) (by omega) (by omega)];exact(ih (i+1) (c+Cnt d (n.Kids.getD i default)) (by omega) (by omega)).eq (by congr 1;omega)
theorem T0.nK {B:Nat}(hB:B<=lim):∀(d D:Nat) (n:aj),d<=5->vH B D n->Shape d n=true->Ev (λf=>G.nK f n) ((Cnt d n:Nat):Int):=by
 intro d
 induction d with
 |zero=>intro D n _ _ h;cases h
 | succ d ih=>
   intro D n hd h hS;cases D with
   |zero=>exact h.elim
   |succ D=>
   have hS':=tJ hS;refine Ev.up ?_;simp only[G.nK];have:=cnt_le (d:=d+1) (n:=n) hS;have hp:=Uk hd;refine(T0.nK.L1 hB h (λk hk=>ih D k (by omega) (h.2.2.2.2.2 k hk) (hS' k hk)) n.Kids.length 0 1 (by omega) ?_).eq rfl;rw[bZ];show Cnt (d+1) n<big;unfold big;omega
def Val (n:aj):Bool:=Shape 5 n&&decide (Cnt 5 n<=40)
theorem T0.eG {B D:Nat}{n:aj}(hB:B<=lim)(h:vH B D n):Ev (λf=>G.eG f n) (Val n):=by refine Ev.up ?_;simp only[G.eG];refine Ev.bind (T0.ji hB 5 D n (by omega) h) (Ev.ite (λe=>?_) (λe=>Ev.ret' (by rw[Val,e];rfl)));refine Ev.bind (T0.nK hB 5 D n (by omega) h e) (Ev.ret' ?_);rw[Val,e,bQ];apply decide_eq_decide.2;omega
theorem T.eG {B D:Nat}{n:aj}(hB:B<=lim)(h:Fine B D n):Ev (λf=>G.eG f n) (Val n):=T0.eG hB h.fin0
theorem T0.fU.L1 {B D d l:Nat}{n:aj}(hB:B<=lim)(h:vH B (D+1) n)(hl:l<1000)
 (hs:∀k,k∈n.Kids->∃c dp,Ev (λf=>G.fU f k ((l+1:Nat):Int)) (c,dp,Shape d k)/\(Shape d k=true->c=((Cnt d k:Nat):Int))) :
 ∀ (k i c:Nat) (dp:Int),i+k=n.Kids.length->(n.Kids.drop i).all (Shape d)=true->c+((n.Kids.drop i).map (Cnt d)).sum<big ->
   ∃dp',Ev (λf=>G.fU.L1 f n (l:Int) (c:Int) dp i) (((c+((n.Kids.drop i).map (Cnt d)).sum:Nat):Int),dp',true):=by
 have hk:=h.kids;unfold lim at hB;unfold big;intro k
 induction k with
 | zero=>intro i c dp hi _ hc;refine⟨dp,Ev.up ?_⟩;simp only[G.fU.L1];refine Ev.cf (by simp;omega) (Ev.ret' ?_);rw[ak (by omega)];rfl
 | succ k ih=>intro i c dp hi;rw[dI (default:aj) (by omega:i<n.Kids.length),bJ,qV,dJ,ah];intro⟨hS,hA⟩ hc;obtain⟨c1,d1,h1,h2⟩:=hs (n.Kids.getD i default) (by rw[fZ _ (by omega:i<n.Kids.length)];exact dO _);have e:=h2 hS;subst e;obtain⟨dp',g1⟩:=ih (i+1) (c+Cnt d (n.Kids.getD i default)) (if af .i64 (d1+1)>dp then af .i64 (d1+1)else dp) (by omega) hA (by omega);refine⟨dp',Ev.up ?_⟩;simp only[G.fU.L1];refine Ev.ct (by simp;omega) (Ev.chk (by omega) ?_);rw[ai,dA (by omega)];refine Ev.bind h1 ?_;refine Ev.ct hS ?_;rw[dA (by omega),wrapN (m:=c+Cnt d (n.Kids.getD i default)) (by omega) (by omega)];exact g1.eq (by rw[Nat.add_assoc])
theorem T0.fU.L1f {B D d l:Nat}{n:aj}(hB:B<=lim)(h:vH B (D+1) n)(hl:l<1000)
 (hs:∀k,k∈n.Kids->∃c dp,Ev (λf=>G.fU f k ((l+1:Nat):Int)) (c,dp,Shape d k)) :
 ∀(k i:Nat) (c dp:Int),i+k=n.Kids.length->(n.Kids.drop i).all (Shape d)=false->Ev (λf=>G.fU.L1 f n (l:Int) c dp i) (0,0,false):=by
 have hk:=h.kids;unfold lim at hB;intro k
 induction k with
 | zero=>intro i c dp hi hA;rw[ak (by omega)]at hA;cases hA
 | succ k ih=>intro i c dp hi;rw[dI (default:aj) (by omega:i<n.Kids.length),dJ];intro hA;obtain⟨c1,d1,h1⟩:=hs (n.Kids.getD i default) (by rw[fZ _ (by omega:i<n.Kids.length)];exact dO _);refine Ev.up ?_;simp only[G.fU.L1];refine Ev.ct (by simp;omega) (Ev.chk (by omega) ?_);rw[ai,dA (by omega)];refine Ev.bind h1 ?_;refine Ev.ite (λhS=>?_) (λhS=>Ev.ret _);have hS:Shape d (n.Kids.getD i default)=true:=hS;rw[hS,bQ]at hA;rw[dA (by omega)];exact ih (i+1) _ _ (by omega) hA
theorem T0.fU {B:Nat}(hB:B<=lim):∀(d l D:Nat) (n:aj),d+l=6->1<=l->vH B D n ->
 ∃c dp,Ev (λf=>G.fU f n (l:Int)) (c,dp,Shape d n)/\(Shape d n=true->c=((Cnt d n:Nat):Int)):=by
 intro d
 induction d with
 | zero=>intro l D n hl h1 h;refine⟨0,0,Ev.up ?_,λe=>by cases e⟩;simp only[G.fU];exact Ev.ct (by simp;omega) (Ev.ret _)
 | succ d ih=>
   intro l D n hl h1 h;cases D with
   |zero=>exact h.elim
   |succ D=>
   have hs:=λk (hk:k∈n.Kids)=>ih (l+1) D k (by omega) (by omega) (h.2.2.2.2.2 k hk);have hp:=T0.gW hB h;cases hS:Shape (d+1) n with
   | true=>have hk:=tJ hS;have hc:=cnt_le hS;have hpw:=Uk (d:=d+1) (by omega);obtain⟨dp',g⟩:=T0.fU.L1 hB h (by omega) hs n.Kids.length 0 1 1 (by omega) (by rw[bZ];exact bg.2 hk) (by rw[bZ];unfold big;show Cnt (d+1) n<_;omega);rw[bZ]at g;refine⟨((Cnt (d+1) n:Nat):Int),dp',Ev.up ?_,λ_=>rfl⟩;simp only[G.fU];exact Ev.cf (by simp;omega) (Ev.bind hp (Ev.ct (kL hS) g))
   | false=>
     refine⟨0,0,Ev.up ?_,λe=>by cases e⟩;simp only[G.fU];refine Ev.cf (by simp;omega) (Ev.bind hp (Ev.ite (λe=>?_) (λe=>Ev.ret _)));refine T0.fU.L1f (d:=d) hB h (by omega) (λk hk=>?_) n.Kids.length 0 1 1 (by omega) ?_
     ·obtain⟨c,dp,g,_⟩:=hs k hk;exact⟨c,dp,g⟩
     ·rw[bZ];unfold Shape at hS;rw[e,bQ]at hS;exact hS
theorem T0.aX {B D:Nat}{n:aj}(hB:B<=lim)(h:vH B D n):Ev (λf=>G.aX f n) (Val n):=by
 obtain⟨c,dp,g,hc⟩:=T0.fU hB 5 1 D n rfl (by omega) h;refine Ev.up ?_;simp only[G.aX];refine Ev.bind g (Ev.ite (λe=>Ev.ret' ?_) (λe=>Ev.ret' ?_))
 ·have e:Shape 5 n=true:=e;show decide (c<=40)=_;rw[hc e,Val,e,bQ];apply decide_eq_decide.2;omega
 ·have e:Shape 5 n=false:=e;rw[Val,e];rfl
theorem T.aX {B D:Nat}{n:aj}(hB:B<=lim)(h:Fine B D n):Ev (λf=>G.aX f n) (Val n):=T0.aX hB h.fin0
theorem T0.aY.L1 {B D:Nat}{n:aj}(hB:B<=lim)(h:vH B (D+1) n)(hs:∀k,k∈n.Kids->Ev (λf=>G.aY f k) k) :
 ∀(k i:Nat),i+k=n.Kids.length->Ev (λf=>G.aY.L1 f n i (n.Kids.take i)) n:=by
 have hl:=h.kids;have hn:=h.names;unfold lim at hB;intro k
 induction k with
 | zero=>intro i hi;refine Ev.up ?_;simp only[G.aY.L1];refine Ev.cf (by simp;omega) (Ev.chk (by omega) (Ev.ret' ?_));rw[aF (by omega)];cases n;rfl
 | succ k ih=>intro i hi;refine Ev.up ?_;simp only[G.aY.L1];refine Ev.ct (by simp;omega) (Ev.chk (by omega) ?_);rw[ai];refine Ev.bind (hs _ (by rw[fZ _ (by omega:i<n.Kids.length)];exact dO _)) ?_;refine Ev.chk (by rw[dZ];omega) ?_;have e:n.Kids.take i++[n.Kids.getD i default]=n.Kids.take (i+1):=(by rw[fZ _ (by omega:i<n.Kids.length),iH (by omega)]);rw[dA (by omega),e];exact ih (i+1) (by omega)
theorem T0.aY {B:Nat}(hB:B<=lim):∀{D:Nat} {n:aj},vH B D n->Ev (λf=>G.aY f n) n:=by
 intro D
 induction D with
 |zero=>intro n h;exact h.elim
 | succ D ih=>intro n h;refine Ev.up ?_;simp only[G.aY];exact T0.aY.L1 hB h (λk hk=>ih (h.2.2.2.2.2 k hk)) n.Kids.length 0 (by omega)
theorem T.aY {B:Nat}(hB:B<=lim){D:Nat}{n:aj}(h:Fine B D n):Ev (λf=>G.aY f n) n:=T0.aY hB h.fin0
theorem T0.aP.L2 {B D:Nat}{n:aj}(zs:List aO)(hB:B<=lim)(h:vH B (D+1) n)(hs:∀k,k∈n.Kids->Ev (λf=>G.aP f k) k) :
 ∀(k i:Nat) (z:List aj),i+k=n.Kids.length->z.length=n.Kids.length->z.take i=n.Kids.take i->Ev (λf=>G.aP.L2 f n zs i z) (aj.mk n.Kind n.Num n.Text zs n.Kids):=by
 have hl:=h.kids;unfold lim at hB;intro k
 induction k with
 | zero=>intro i z hi hz ht;refine Ev.up ?_;simp only[G.aP.L2];refine Ev.cf (by simp;omega) (Ev.ret' ?_);rw[aF (by omega),aF (by omega)]at ht;rw[ht]
 | succ k ih=>intro i z hi hz ht;refine Ev.up ?_;simp only[G.aP.L2];refine Ev.ct (by simp;omega) (Ev.chk (by omega) ?_);rw[ai];refine Ev.bind (hs _ (by rw[fZ _ (by omega:i<n.Kids.length)];exact dO _)) ?_;refine Ev.chk (by omega) ?_;rw[dA (by omega)];refine ih (i+1) _ (by omega) (by rw[yl];exact hz) ?_;rw[fZ _ (by omega:i<n.Kids.length),iH (by rw[yl];omega),iH (by omega:i<n.Kids.length),List.getElem_set_self,List.take_set_of_le (au i),ht]
theorem T0.aP {B:Nat}(hB:B<=lim):∀{D:Nat} {n:aj},vH B D n->Ev (λf=>G.aP f n) n:=by
 intro D
 induction D with
 |zero=>intro n h;exact h.elim
 | succ D ih=>
   intro n h;have hl:=h.kids;have hn:=h.names;have hB':=hB;unfold lim at hB';have hK:Ev (λf=>G.aP.K1 f n n.Names) n:=by
    refine Ev.up ?_;simp only[G.aP.K1];refine Ev.ite (λe=>?_) (λe=>Ev.ret' ?_)
    ·refine Ev.chk (by omega) ?_;refine(T0.aP.L2 n.Names hB h (λk hk=>ih (h.2.2.2.2.2 k hk)) n.Kids.length 0 (bU n.Kids.length (aj.mk 0 0 [] [] [])) (by omega) (by simp) rfl).eq ?_;cases n;rfl
    ·have:n.Kids=[]:=by
      apply di;simp only[decide_eq_false_iff_not]at e;omega
     cases n;simp only at this;subst this;rfl
   refine Ev.up ?_;simp only[G.aP];refine Ev.ite (λe=>?_) (λe=>?_)
   ·exact Ev.chk (by omega) hK
   ·have:n.Names=[]:=by
     apply di;simp only[decide_eq_false_iff_not]at e;omega
    rw[this]at hK;exact hK
theorem T.aP {B:Nat}(hB:B<=lim){D:Nat}{n:aj}(h:Fine B D n):Ev (λf=>G.aP f n) n:=T0.aP hB h.fin0
def xR (i:Nat):aO:=if i<10 then [dR (48+i)]else xR (i/10)++[dR (48+i%10)]
 termination_by i
theorem xO {i:Nat}(h:i<10):xR i=[dR (48+i)]:=by rw[xR,if_pos h]
theorem Ci {i:Nat}(h:¬i<10):xR i=xR (i/10)++[dR (48+i%10)]:=by rw[xR,if_neg h]
theorem aa9 : ∀(k i:Nat),i<k->(xR i).length<=i+1:=by
 intro k
 induction k with
 |zero=>intro i h;omega
 | succ k ih=>
   intro i h;by_cases hi:i<10
   ·rw[xO hi];simp
   ·rw[Ci hi,ay];have:=ih (i/10) (by omega);simp only[bC];omega
theorem wrap_u8 {m:Nat}(h:m<256):af .u8 (m:Int)=m:=by simp only[af,iK,xm];simp;omega
theorem T.jP : ∀(k i:Nat),i<k->i<lim->Ev (λf=>G.jP f (i:Int)) (xR i):=by
 intro k
 induction k with
 |zero=>intro i h;omega
 | succ k ih=>
   intro i h hl;unfold lim at hl;have hm:4294967296<maxLen:=(by decide);refine Ev.up ?_;simp only[G.jP];refine Ev.cf (by simp) ?_;refine Ev.ite (λe=>?_) (λe=>?_)
   ·simp only[decide_eq_true_eq]at e;refine Ev.chk (by omega) (Ev.ret' ?_);rw[xO (by omega),wrapN (m:=48+i) (by omega) (by omega),wrap_u8 (by omega),ai]
   ·simp only[decide_eq_false_iff_not]at e;have e1:nV (i:Int) 10=((i/10:Nat):Int):=(by rw[Int.tdiv_eq_ediv_of_nonneg (by omega)];omega);have e2:lq (i:Int) 10=((i%10:Nat):Int):=(by rw[Int.tmod_eq_emod_of_nonneg (by omega)];omega);rw[e1,e2,wrapN (m:=i/10) rfl (by omega),wrapN (m:=48+i%10) (by omega) (by omega),wrap_u8 (by omega),ai];refine Ev.bind (ih (i/10) (by omega) (by unfold lim;omega)) ?_;have:=aa9 (i/10+1) (i/10) (by omega);refine Ev.chk (by omega) (Ev.chk (by omega) (Ev.ret' ?_));exact(Ci (by omega)).symm
theorem T.decimal {i:Nat}(h:i<lim):Ev (λf=>G.jP f (i:Int)) (xR i):=T.jP (i+1) i (by omega) h
theorem Xn : ∀(k i:Nat),i<k->Lib.decDigits i=xR i:=by
 intro k
 induction k with
 |zero=>intro i h;omega
 | succ k ih=>
   intro i h;by_cases h10:i<10
   ·rw[Lib.decDigits_one h10,xO h10]
   ·rw[Ci h10,Lib.decDigits,dif_neg h10,ih (i/10) (by omega)]
theorem abJ (i:Nat):uy (i:Int)=xR i:=by unfold uy;rw[if_neg (by omega),ai,Xn (i+1) i (by omega)]
theorem T.Itoa {n:Int}(h : -900000000000000<=n/\n<=900000000000000):Ev (λf=>G.strconv_Itoa f n) (uy n):=by refine Ev.up ?_;simp only[G.strconv_Itoa];exact Ev.chk ⟨by omega,ig (Lib.itoa_length_le n (by omega) (by omega)) (by decide)⟩ (Ev.ret _)
theorem T.strconv_Itoa {i:Nat}(h:i<10):Ev (λf=>G.strconv_Itoa f (i:Int)) (xR i):=by
 have:=T.Itoa (n:=(i:Int)) (by omega)
 rwa[abJ]at this
def hit (n:aj)(s:aO)(j:Nat):Bool:=(n.Kind==4&&n.Names.getD j default==s)||(n.Kind==3&&xR j==s)
def D9 (n:aj)(s:aO):Option Nat:=(aQ 0 n.Kids.length).find? (hit n s)
def GY : Option Nat->Int
 |some j=>j
 |none=> -1
theorem yL {n:aj}{s:aO}{j:Nat}(h:D9 n s=some j):j<n.Kids.length:=by have:=List.mem_of_find?_eq_some h;simp at this;exact this
theorem JC {n:aj}{s:aO}{j:Nat}(h:D9 n s=some j):hit n s j=true:=List.find?_some h
theorem T.jE.L1 {B D:Nat}{n:aj}(s:aO)(hB:B<=lim)(h:Fine B D n) :
 ∀(k i:Nat),i+k=n.Kids.length->Ev (λf=>G.jE.L1 f n s i) (GY ((aQ i k).find? (hit n s))):=by
 have hl:=h.kids;have hm:=h.map;intro k
 induction k with
 | zero=>intro i hi;refine Ev.up ?_;simp only[G.jE.L1];exact Ev.cf (by simp;omega) (Ev.ret _)
 | succ k ih=>
   intro i hi;have hih:=ih (i+1) (by omega);have hd:=T.decimal (i:=i) (by omega);unfold lim at hB;rw[jV,yj];have ag0:n.Kind≠4->Ev (λf=>cond (n.Kind==3) (jc (G.jP f (i:Int)) λv5=>cond (v5==s) (some (i:Int)) (G.jE.L1 f n s (af .i64 ((i:Int)+1)))) (G.jE.L1 f n s (af .i64 ((i:Int)+1))))
    (GY (match hit n s i with|true=>some i|false=>(aQ (i+1) k).find? (hit n s))):=by
    intro h4;have e4:(n.Kind==4)=false:=(by simpa using h4);rw[dA (by omega)];refine Ev.ite (λe=>?_) (λe=>?_)
    ·refine Ev.bind hd (Ev.ite (λe2=>Ev.ret' ?_) (λe2=>?_))
     ·rw[show hit n s i=true by unfold hit;rw[e,e2,e4];rfl];rfl
     ·exact hih.eq (by rw[show hit n s i=false by unfold hit;rw[e,e2,e4];rfl])
    ·exact hih.eq (by rw[show hit n s i=false by unfold hit;rw[e,e4];rfl])
   refine Ev.up ?_;simp only[G.jE.L1];refine Ev.ct (by simp;omega) ?_;refine Ev.ite (λe=>?_) (λe=>ag0 (by simpa using e));have h4:n.Kind=4:=(by simpa using e);have:=hm h4;refine Ev.chk (by omega) ?_;rw[ai];refine Ev.ite (λe2=>Ev.ret' ?_) (λe2=>?_)
   ·rw[show hit n s i=true by unfold hit;rw[e,e2];rfl];rfl
   ·refine Ev.cf (by rw[h4];rfl) ?_;rw[dA (by omega)];exact hih.eq (by rw[show hit n s i=false by unfold hit;rw[e2,h4];rfl])
theorem T.jE {B D:Nat}{n:aj}(s:aO)(hB:B<=lim)(h:Fine B D n):Ev (λf=>G.jE f n s) (GY (D9 n s)):=by refine Ev.up ?_;simp only[G.jE];exact T.jE.L1 s hB h n.Kids.length 0 (by omega)
theorem T.cmp_Less_string (x y:aO):Ev (λf=>G.cmp_Less_string f x y) (bl x y):=by
 refine Ev.up ?_;simp only[G.cmp_Less_string];have:Ev (λf=>G.cmp_isNaN_string f x) false:=by refine Ev.up ?_;simp only[G.cmp_isNaN_string];exact Ev.ret' (by simp)
 exact Ev.bind this (Ev.ret _)
structure LB (l:List aO)(t:aO)(i:Nat):Prop where
 le:i<=l.length
 lo:∀j,j<i->bl (l.getD j default) t=true
 hi:∀j,i<=j->j<l.length->bl (l.getD j default) t=false
theorem half (i j:Nat)(h:i+j<9223372036854775808):af .i64 ((Int.fdiv (af .u64 (af .i64 ((i:Int)+(j:Int)))) (2^(min 1 (iK .u64)))))=(((i+j)/2:Nat):Int):=by
 rw[wrapN (x:=(i:Int)+(j:Int)) (m:=i+j) (by omega) h];have e:af .u64 ((i+j:Nat):Int)=((i+j:Nat):Int):=by simp only[af,iK,xm];simp;omega
 rw[e];have e2:Int.fdiv ((i+j:Nat):Int) (2^(min 1 (iK .u64)))=(((i+j)/2:Nat):Int):=by have:(2:Int)^(min 1 (iK .u64))=2:=rfl;rw[this,Int.fdiv_eq_ediv_of_nonneg _ (by omega)];omega
 rw[e2];exact wrapN rfl (by omega)
theorem T.BinarySearch.L1 {l:List aO}(t:aO)(hl:l.length<big)(hA:∀i j,i<j->j<l.length->bl (l.getD i default) (l.getD j default)=true) :
 ∀ (k i j:Nat),j-i<=k->i<=j->j<=l.length->(∀q,q<i->bl (l.getD q default) t=true)->(∀q,j<=q->q<l.length->bl (l.getD q default) t=false) ->
   ∃p:Nat,Ev (λf=>G.slices_BinarySearch_string.L1 f l t i j) ((p:Int),decide (p<l.length)&&l.getD p default==t)/\LB l t p:=by
 unfold big at hl;intro k
 induction k with
 | zero=>
   intro i j hk hij hj hlo hhi;have:i=j:=(by omega);subst this;refine⟨i,Ev.up ?_,hj,hlo,hhi⟩;simp only[G.slices_BinarySearch_string.L1];refine Ev.cf (by simp) (Ev.ite (λe=>?_) (λe=>Ev.ret' ?_))
   ·have e':i<l.length:=(by simpa using e);rw[ai];have d1:decide (i<l.length)=true:=(by simpa using e');rw[d1,bQ];refine Ev.chk (by omega) (Ev.ite (λe2=>Ev.ret' (by rw[e2])) (λe2=>Ev.chk (by omega) ?_));have:Ev (λf=>G.slices_isNaN_string f (l.getD i default)) false:=by
     refine Ev.up ?_;simp only[G.slices_isNaN_string];exact Ev.ret' (by simp)
    exact Ev.bind this (Ev.ret' (by rw[e2]))
   ·have d1:decide (i<l.length)=false:=(by simpa using e);rw[d1];rfl
 | succ k ih=>
   intro i j hk hij hj hlo hhi;by_cases he:i=j
   ·exact ih i j (by omega) hij hj hlo hhi
   have h1:(i+j)/2<j:=(by omega);have h2:i<=(i+j)/2:=(by omega);cases hc:bl (l.getD ((i+j)/2) default) t with
   | true=>
     obtain⟨p,g,hp⟩:=ih ((i+j)/2+1) j (by omega) (by omega) hj (λq hq=>by
      by_cases hq2:q=(i+j)/2
      ·rw[hq2];exact hc
      ·exact Bv (hA q ((i+j)/2) (by omega) (by omega)) hc) hhi
     refine⟨p,Ev.up ?_,hp⟩;simp only[G.slices_BinarySearch_string.L1];refine Ev.ct (by simp;omega) ?_;rw[half i j (by omega),ai];refine Ev.chk (by omega) (Ev.bind (T.cmp_Less_string _ _) (Ev.ct hc ?_));rw[dA (by omega)];exact g
   | false=>
     obtain⟨p,g,hp⟩:=ih i ((i+j)/2) (by omega) h2 (by omega) hlo (λq hq hq2=>by
      by_cases hq3:q=(i+j)/2
      ·rw[hq3];exact hc
      ·cases hb:bl (l.getD q default) t with
       |false=>rfl
       |true=>rw[Bv (hA ((i+j)/2) q (by omega) hq2) hb]at hc;cases hc)
     refine⟨p,Ev.up ?_,hp⟩;simp only[G.slices_BinarySearch_string.L1];refine Ev.ct (by simp;omega) ?_;rw[half i j (by omega),ai];refine Ev.chk (by omega) (Ev.bind (T.cmp_Less_string _ _) (Ev.cf hc ?_));exact g
theorem Fv {x:aO}{l:List aO}(h:Asc (x::l)=true):Asc l=true:=by
 cases l with
 |nil=>rfl
 |cons y r=>rw[Asc,ah]at h;exact h.2
theorem Gq : ∀{l:List aO} {x:aO},Asc (x::l)=true->∀y,y∈l->bl x y=true
 |[],_,_,y,hy=>by cases hy
 | z::r,x,h,y,hy=>by
   have h1:bl x z=true:=(by rw[Asc,ah]at h;exact h.1);rcases cO.1 hy with rfl|hy
   ·exact h1
   ·exact Bv h1 (Gq (Fv h) y hy)
theorem EG : ∀{l:List aO},Asc l=true->∀i j,i<j->j<l.length->bl (l.getD i default) (l.getD j default)=true
 |[],_,i,j,_,hj=>by simp at hj
 | x::l,h,i,j,hij,hj=>by
   cases j with
   |zero=>omega
   | succ j=>
     rw[uz];have hj':j<l.length:=(by simpa using hj);cases i with
     |zero=>rw[yC,fZ _ hj'];exact Gq h _ (dO _)
     |succ i=>rw[uz];exact EG (Fv h) i j (by omega) hj'
theorem T.slices_BinarySearch_string {l:List aO}(t:aO)(hl:l.length<big)(hA:Asc l=true) :
 ∃p:Nat,Ev (λf=>G.slices_BinarySearch_string f l t) ((p:Int),decide (p<l.length)&&l.getD p default==t)/\LB l t p:=by
 obtain⟨p,g,hp⟩:=T.BinarySearch.L1 t hl (EG hA) l.length 0 l.length (by omega) (by omega) (by omega) (λq hq=>by omega) (λq h1 h2=>by omega);refine⟨p,Ev.up ?_,hp⟩;simp only[G.slices_BinarySearch_string];exact g
theorem aj.eta (n:aj):aj.mk n.Kind n.Num n.Text n.Names n.Kids=n:=by cases n;rfl
theorem Ju {p:Nat->Bool} : ∀{k i:Nat},(aQ i k).find? p=none<->∀q,i<=q->q<i+k->p q=false:=by
 intro k i;rw[List.find?_eq_none];constructor
 ·intro h q h1 h2;have:=h q (by simp;omega);simpa using this
 ·intro h q hq;simp at hq;rw[h q hq.1 hq.2];simp
theorem Fp {p:Nat->Bool} : ∀{k i j:Nat},(aQ i k).find? p=some j<->(i<=j/\j<i+k/\p j=true/\∀q,i<=q->q<j->p q=false):=by
 intro k
 induction k with
 |zero=>intro i j;simp;omega
 | succ k ih=>
   intro i j;rw[jV,yj];cases h:p i with
   | true=>
     simp only[aJ];constructor
     ·rintro rfl;exact⟨by omega,by omega,h,λq h1 h2=>by omega⟩
     ·rintro⟨h1,h2,h3,h4⟩;by_cases e:i=j
      ·exact e
      ·have:=h4 i (by omega) (by omega);rw[h]at this;cases this
   | false=>
     simp only;rw[ih];constructor
     ·rintro⟨h1,h2,h3,h4⟩;refine⟨by omega,by omega,h3,λq g1 g2=>?_⟩;by_cases e:q=i
      ·rw[e];exact h
      ·exact h4 q (by omega) g2
     ·rintro⟨h1,h2,h3,h4⟩;have:j≠i:=λe=>(by rw[e,h]at h3;cases h3);exact⟨by omega,by omega,h3,λq g1 g2=>h4 q (by omega) g2⟩
theorem Ja {n:aj}{s:aO}{j:Nat} : D9 n s=some j<->(j<n.Kids.length/\hit n s j=true/\∀q,q<j->hit n s q=false):=by
 unfold D9;rw[Fp];constructor
 ·rintro⟨h1,h2,h3,h4⟩;exact⟨by omega,h3,λq hq=>h4 q (by omega) hq⟩
 ·rintro⟨h1,h2,h3⟩;exact⟨by omega,by omega,h2,λq _ hq=>h3 q hq⟩
theorem MI {n:aj}{s:aO} : D9 n s=none<->∀q,q<n.Kids.length->hit n s q=false:=by
 unfold D9;rw[Ju];constructor
 ·intro h q hq;exact h q (by omega) (by omega)
 ·intro h q _ hq;exact h q (by omega)
theorem xH {n:aj}(h:Parts n=true)(hk:n.Kind=4):n.Num=0/\n.Text=[]/\NM n.Names=true/\n.Names.length<=6/\n.Kids.length=n.Names.length:=by unfold Parts at h;simp[hk]at h;obtain⟨⟨h1,h2⟩,⟨h3,h4⟩,h5⟩:=h;exact⟨h1,h2,h3,h4,h5⟩
theorem Df {n:aj}(h:Parts n=true)(hk:n.Kind=3):n.Num=0/\n.Text=[]/\n.Names=[]/\n.Kids.length<=6:=by unfold Parts at h;simp[hk]at h;obtain⟨⟨⟨h1,h2⟩,h3⟩,h4⟩:=h;exact⟨h1,h2,h3,h4⟩
theorem zl {n:aj}(h:Parts n=true)(h4:n.Kind≠4)(h3:n.Kind≠3):n.Names=[]/\n.Kids=[]:=by
 unfold Parts at h;have e4:(n.Kind==4)=false:=by simpa using h4
 simp only[ah,e4,Jn]at h;obtain⟨⟨_,h1⟩,h2⟩:=h;refine⟨di (by simpa using h1),di ?_⟩;by_cases k0:n.Kind=0
 ·rw[if_pos k0]at h2;simpa using h2
 rw[if_neg k0]at h2;by_cases k1:n.Kind=1
 ·rw[if_pos k1]at h2;simp at h2;rw[h2.2];rfl
 rw[if_neg k1]at h2;by_cases k2:n.Kind=2
 ·rw[if_pos k2]at h2;simp at h2;rw[h2.2];rfl
 rw[if_neg k2,if_neg h3,if_neg h4]at h2;cases h2
theorem KD {l:List aO}(h:NM l=true):Asc l=true:=by unfold NM at h;simp only[ah]at h;exact h.2
theorem Ub {l:List aO}(h:NM l=true):∀s,s∈l->PT s=true:=by unfold NM at h;simp only[ah]at h;exact bg.1 h.1
theorem NY {n:aj}(h:Parts n=true):n.Kids.length<=6:=by
 by_cases k:n.Kids.length<=6
 ·exact k
 ·rw[KJ (by omega)]at h;cases h
theorem Ep {n:aj}(hk:n.Kind=4)(s:aO)(j:Nat):hit n s j=(n.Names.getD j default==s):=by unfold hit;rw[hk];simp
theorem abw {n:aj}(hk:n.Kind=3)(s:aO)(j:Nat):hit n s j=(xR j==s):=by unfold hit;rw[hk];simp
theorem GL {n:aj}(h4:n.Kind≠4)(h3:n.Kind≠3)(s:aO)(j:Nat):hit n s j=false:=by unfold hit;rw[show(n.Kind==4)=false by simpa using h4,show(n.Kind==3)=false by simpa using h3];rfl
theorem Ui {n:aj}{s:aO}{p:Nat}(hk:n.Kind=4)(hA:Asc n.Names=true)(hl:n.Kids.length=n.Names.length)(h:LB n.Names s p) :
 D9 n s=if decide (p<n.Names.length)&&n.Names.getD p default==s then some p else none:=by
 cases hc:decide (p<n.Names.length)&&n.Names.getD p default==s with
 | true=>simp only[ah,decide_eq_true_eq]at hc;rw[if_pos rfl,Ja];refine⟨by omega,by rw[Ep hk];exact hc.2,λq hq=>?_⟩;rw[Ep hk];have:=FW (h.lo q hq);simpa using this
 | false=>
   rw[if_neg (by simp),MI];intro q hq;rw[Ep hk];by_cases h1:q<p
   ·have:=FW (h.lo q h1);simpa using this
   ·cases he:n.Names.getD q default==s with
    |false=>rfl
    | true=>
      rw[beq_iff_eq]at he;by_cases h2:q=p
      ·subst h2;rw[he]at hc;have:decide (q<n.Names.length)=true:=(by simp;omega);rw[this]at hc;simp at hc
      ·have:=EG hA p q (by omega) (by omega);rw[he,h.hi p (by omega) (by omega)]at this;cases this
theorem T.gQ.L1 {n:aj}(s:aO)(hk:n.Kind=3)(hl:n.Kids.length<=6) :
 ∀(k i:Nat),i+k=n.Kids.length->Ev (λf=>G.gQ.L1 f n s i) (match(aQ i k).find? (hit n s)with|some j=>((j:Int),true)|none=>(0,false)):=by
 intro k
 induction k with
 | zero=>intro i hi;refine Ev.up ?_;simp only[G.gQ.L1];exact Ev.cf (by simp;omega) (Ev.ret _)
 | succ k ih=>intro i hi;refine Ev.up ?_;simp only[G.gQ.L1];refine Ev.ct (by simp;omega) (Ev.bind (T.strconv_Itoa (i:=i) (by omega)) ?_);rw[jV,yj,abw hk,dA (by omega)];refine Ev.ite (λe=>Ev.ret' (by rw[e])) (λe=>?_);exact(ih (i+1) (by omega)).eq (by rw[e])
theorem T.gQ {n:aj}(s:aO)(h:Parts n=true) :
 ∃v b,Ev (λf=>G.gQ f n s) (v,b)/\(∀j,D9 n s=some j->v=(j:Int)/\b=true)/\(D9 n s=none->b=false):=by
 by_cases h4:n.Kind=4
 ·obtain⟨_,_,hN,hl,hkl⟩:=xH h h4;obtain⟨p,g,hp⟩:=T.slices_BinarySearch_string s (by unfold big;omega) (KD hN);have hpl:=Ui h4 (KD hN) hkl hp;refine⟨p,decide (p<n.Names.length)&&n.Names.getD p default==s,Ev.up ?_,λj hj=>?_,λhn=>?_⟩
  ·simp only[G.gQ];exact Ev.ct (by simpa using h4) (Ev.bind g (Ev.ret _))
  ·rw[hpl]at hj;split at hj
   ·rename_i hc;cases hj;exact⟨rfl,hc⟩
   ·cases hj
  ·rw[hpl]at hn;split at hn
   ·cases hn
   ·rename_i hc;simpa using hc
 ·have e4:(n.Kind==4)=false:=by simpa using h4
  by_cases h3:n.Kind=3
  ·obtain⟨_,_,_,hl⟩:=Df h h3;have g:=T.gQ.L1 s h3 hl n.Kids.length 0 (by omega);cases hp:D9 n s with
   | some j=>refine⟨j,true,Ev.up ?_,λj' hj=>(by cases hj;exact⟨rfl,rfl⟩),λhn=>(by cases hn)⟩;simp only[G.gQ];refine Ev.cf e4 (Ev.ct (by simpa using h3) ?_);exact g.eq (by unfold D9 at hp;rw[hp])
   | none=>refine⟨0,false,Ev.up ?_,λj' hj=>(by cases hj),λ_=>rfl⟩;simp only[G.gQ];refine Ev.cf e4 (Ev.ct (by simpa using h3) ?_);exact g.eq (by unfold D9 at hp;rw[hp])
  ·have hp:D9 n s=none:=MI.2 (λq _=>GL h4 h3 s q);refine⟨0,false,Ev.up ?_,λj hj=>(by rw[hp]at hj;cases hj),λ_=>rfl⟩;simp only[G.gQ];exact Ev.cf e4 (Ev.cf (by simpa using h3) (Ev.ret _))
def IK : aj->List aO->Option aj
 |n,[]=>some n
 | n,s::p=>match D9 n s with
   |some j=>IK (n.Kids.getD j default) p
   |none=>none
def vJ : aj:=aj.mk 0 0 [] [] []
def oK : Option aj->aj×Bool
 |some n=>(n,true)
 |none=>(vJ,false)
theorem T.sG.L1 {B:Nat}(p:List aO)(hB:B<=lim)(hp:p.length<big) :
 ∀(k i D:Nat) (n:aj),i+k=p.length->Fine B D n->Ev (λf=>G.sG.L1 f p i n.Kind n.Num n.Text n.Names n.Kids) (oK (IK n (p.drop i))):=by
 unfold big at hp;intro k
 induction k with
 | zero=>intro i D n hi h;refine Ev.up ?_;simp only[G.sG.L1,aj.eta];refine Ev.cf (by simp;omega) ?_;rw[ak (by omega)];have hc:=T.aY hB h;exact Ev.bind hc (Ev.ret _)
 | succ k ih=>
   intro i D n hi h;refine Ev.up ?_;simp only[G.sG.L1,aj.eta];refine Ev.ct (by simp;omega) (Ev.chk (by omega) ?_);rw[dI (default:aO) (by omega:i<p.length),ai];have hP:=T.jE (p.getD i default) hB h;refine Ev.bind hP ?_;rw[IK];cases hj:D9 n (p.getD i default)with
   |none=>exact Ev.ct rfl (Ev.ret _)
   | some j=>
     have hjl:=yL hj;cases D with
     |zero=>exact h.elim
     |succ D=>
     refine Ev.cf (decide_eq_false (by simp only[GY];omega)) (Ev.chk (by simp only[GY];omega) ?_);rw[dA (by omega)];exact ih (i+1) D _ (by omega) (h.kid hjl)
theorem T.sG {B D:Nat}{n:aj}(p:List aO)(hB:B<=lim)(hp:p.length<big)(h:Fine B D n):Ev (λf=>G.sG f n p) (oK (IK n p)):=by refine Ev.up ?_;simp only[G.sG];exact T.sG.L1 p hB hp p.length 0 D n (by omega) h
theorem T.jR.L1 (p:List aO)(hp:p.length<big) :
 ∀(k i d:Nat) (n:aj),i+k=p.length->Shape d n=true->Ev (λf=>G.jR.L1 f p i n.Kind n.Num n.Text n.Names n.Kids) (oK (IK n (p.drop i))):=by
 unfold big at hp;intro k
 induction k with
 | zero=>intro i d n hi h;refine Ev.up ?_;simp only[G.jR.L1,aj.eta];refine Ev.cf (by simp;omega) ?_;rw[ak (by omega)];exact Ev.ret _
 | succ k ih=>
   intro i d n hi h;cases d with
   |zero=>cases h
   |succ d=>
   refine Ev.up ?_;simp only[G.jR.L1,aj.eta];refine Ev.ct (by simp;omega) (Ev.chk (by omega) ?_);rw[dI (default:aO) (by omega:i<p.length),ai];obtain⟨v,b,g,h1,h2⟩:=T.gQ (p.getD i default) (kL h);refine Ev.bind g ?_;rw[IK];cases hj:D9 n (p.getD i default)with
   |none=>exact Ev.cf (h2 hj) (Ev.ret _)
   | some j=>have hjl:=yL hj;obtain⟨rfl,rfl⟩:=h1 j hj;refine Ev.ct rfl (Ev.chk (by omega) ?_);rw[dA (by omega)];exact ih (i+1) d _ (by omega) (tJ h _ (by rw[ai,fZ _ hjl];exact dO _))
theorem T.jR {d:Nat}{n:aj}(p:List aO)(hp:p.length<big)(h:Shape d n=true):Ev (λf=>G.jR f n p) (oK (IK n p)):=by refine Ev.up ?_;simp only[G.jR];exact T.jR.L1 p hp p.length 0 d n (by omega) h
def FI (n:aj)(j:Nat)(c:aj):aj:=aj.mk n.Kind n.Num n.Text n.Names (n.Kids.set j c)
def E5 (f:aj->Option aj):aj->List aO->Option aj
 |n,[]=>f n
 | n,s::p=>match D9 n s with
   |some j=>(E5 f (n.Kids.getD j default) p).map (FI n j)
   |none=>none
def OM (n:aj)(p:List aO)(v:aj):Option aj:=E5 (λ_=>some v) n p
theorem Tc (f:aj->Option aj):∀(p:List aO) (n:aj),E5 f n p=(IK n p).bind λm=>(f m).bind λm'=>OM n p m'
 | [],n=>by show f n=(f n).bind λm'=>some m';cases f n<;>rfl
 | s::p,n=>by
   rw[E5,IK];cases hj:D9 n s with
   |none=>rfl
   | some j=>
     simp only;rw[Tc f p];cases ha:IK (n.Kids.getD j default) p with
     |none=>rfl
     | some m=>
       simp only[gz];cases hf:f m with
       |none=>rfl
       | some m'=>simp only[gz];unfold OM;rw[E5,hj]
theorem Vt {B D E:Nat}{n v:aj}{j:Nat}(h:Fine B (D+1) n)(hv:Fine B E v):Fine B (max D E+1) (FI n j v):=by
 obtain⟨h1,h2,h3,h4,h5,h6⟩:=h;refine⟨h1,h2,h3,by simpa[FI]using h4,by simpa[FI]using h5,λk hk=>?_⟩;rcases qR hk with hk|rfl
 ·exact(h6 k hk).mono (au _) (Nat.le_max_left _ _)
 ·exact hv.mono (au _) (Nat.le_max_right _ _)
theorem P9 {B E:Nat}{f:aj->Option aj} : ∀(p:List aO) {D:Nat} {n m:aj},(∀D' k k',Fine B D' k->f k=some k'->Fine B (D'+E) k')->Fine B D n->E5 f n p=some m->Fine B (D+E) m
 |[],D,n,m,hf,h,hm=>hf D n m h hm
 | s::p,D,n,m,hf,h,hm=>by
   rw[E5]at hm;cases hj:D9 n s with
   |none=>rw[hj]at hm;cases hm
   | some j=>
     rw[hj]at hm;simp only at hm;cases D with
     |zero=>exact h.elim
     |succ D=>
     cases hc:E5 f (n.Kids.getD j default) p with
     |none=>rw[hc]at hm;cases hm
     | some c=>rw[hc]at hm;cases hm;have:=Vt (j:=j) h (P9 p hf (h.kid (yL hj)) hc);exact this.mono (au _) (by omega)
theorem NH {B D E:Nat}{n v m:aj}{p:List aO}(h:Fine B D n)(hv:Fine B E v)(hm:OM n p v=some m):Fine B (D+E) m:=
 P9 p (λD' k k' _ e=>by cases e;exact hv.mono (au _) (by omega)) h hm
theorem LG {B:Nat} : ∀(p:List aO) {D:Nat} {n m:aj},Fine B D n->IK n p=some m->Fine B D m
 |[],_,_,_,h,e=>by cases e;exact h
 | s::p,D,n,m,h,e=>by
   rw[IK]at e;cases hj:D9 n s with
   |none=>rw[hj]at e;cases e
   | some j=>
     rw[hj]at e;cases D with
     |zero=>exact h.elim
     |succ D=>exact(LG p (h.kid (yL hj)) e).mono (au _) (by omega)
theorem T.oN {B D E:Nat}{n v:aj}{j:Nat}(hB:B<=lim)(h:Fine B D n)(hv:Fine B E v)(hj:j<n.Kids.length):Ev (λf=>G.oN f n j v) (FI n j v):=by refine Ev.up ?_;simp only[G.oN];refine Ev.bind (T.aY hB h) (Ev.bind (T.aY hB hv) (Ev.chk (by omega) (Ev.ret' ?_)));rw[ai];rfl
theorem T.oU {B E:Nat}{v:aj}(hB:B<=lim)(hv:Fine B E v):∀(p:List aO) {D:Nat} {n:aj},p.length<big->Fine B D n->Ev (λf=>G.oU f n p v) (oK (OM n p v))
 | [],D,n,_,h=>by refine Ev.up ?_;simp only[G.oU];exact Ev.ct rfl (Ev.bind (T.aY hB hv) (Ev.ret _))
 | s::p,D,n,hp,h=>by
   simp only[dB]at hp;have hp':=hp;unfold big at hp';refine Ev.up ?_;simp only[G.oU];refine Ev.cf (by simp;omega) (Ev.chk (by simp) ?_);rw[yC];refine Ev.bind (T.jE s hB h) ?_;unfold OM;rw[E5];cases hj:D9 n s with
   |none=>exact Ev.ct rfl (Ev.ret _)
   | some j=>
     have hjl:=yL hj;cases D with
     |zero=>exact h.elim
     |succ D=>
     refine Ev.cf (decide_eq_false (by simp only[GY];omega)) (Ev.chk (by simp only[GY];omega) (Ev.chk (by simp;omega) ?_));have hk:=h.kid hjl;have ih:=T.oU hB hv p (by omega) hk;refine Ev.bind (show Ev (λf=>G.oU f (n.Kids.getD (GY (some j)).toNat default) ((s::p).drop 1) v) _ from ih) ?_;show Ev _ (oK ((OM (n.Kids.getD j default) p v).map (FI n j)));cases hc:OM (n.Kids.getD j default) p v with
     |none=>exact Ev.cf rfl (Ev.ret _)
     | some c=>refine Ev.ct rfl ?_;exact Ev.bind (T.oN hB h (NH hk hv hc) hjl) (Ev.ret _)
theorem Qr {s:aO}(h:PT s=true):s.length<=12:=by unfold PT at h;simp at h;exact h.2
theorem yx : ∀{d:Nat} {n:aj},Shape d n=true->Fine 12 d n
 |0,_,h=>by cases h
 | d+1,n,h=>by
   have hp:=kL h;have hk:=tJ h;have hl:=NY hp;refine⟨?_,?_,?_,by omega,?_,λk hk'=>yx (hk k hk')⟩
   ·by_cases h2:n.Kind=2
    ·unfold Parts at hp;simp[h2]at hp;exact Qr hp.2.1
    ·have e2:(n.Kind==2)=false:=(by simpa using h2);unfold Parts at hp;simp only[e2,Jn,ah]at hp;have:=hp.1.1.2;rw[beq_iff_eq]at this;rw[this];simp
   ·by_cases h4:n.Kind=4
    ·have:=(xH hp h4).2.2.2.1;omega
    ·by_cases h3:n.Kind=3
     ·rw[(Df hp h3).2.2.1];simp
     ·rw[(zl hp h4 h3).1];simp
   ·intro s hs;by_cases h4:n.Kind=4
    ·exact Qr (Ub (xH hp h4).2.2.1 s hs)
    ·by_cases h3:n.Kind=3
     ·rw[(Df hp h3).2.2.1]at hs;cases hs
     ·rw[(zl hp h4 h3).1]at hs;cases hs
   ·intro h4;have:=(xH hp h4).2.2.2.2;omega
theorem A8 {d:Nat}{n:aj}(h:Shape (d+1) n=true){j:Nat}(hj:j<n.Kids.length):Shape d (n.Kids.getD j default)=true:=by rw[fZ _ hj];exact tJ h _ (dO _)
theorem Bh : 12<=lim:=by decide
theorem T.change {F:Nat->aj->List aO->Option (aj×Bool)}{C:Nat->aj->Option (aj×Bool)}{g:aj->Option aj}
 (hF:∀n a p,F (n+1) a p=cond ((p.length:Int)==0) (jc (C n a) λv1=>some (v1.1,v1.2))
  (chk (0<=0/\0<(p.length:Int)) (jc (G.gQ n a (p.getD 0 default)) λv2=>cond v2.2
   (chk (0<=v2.1/\v2.1<(a.Kids.length:Int)) (chk (0<=1/\1<=(p.length:Int)/\(p.length:Int)<=(p.length:Int))
    (jc (F n (a.Kids.getD v2.1.toNat default) (p.drop 1)) λv3=>cond v3.2 (jc (G.aP n a) λv4=>chk (0<=v2.1/\v2.1<(v4.Kids.length:Int)) (some ((aj.mk v4.Kind v4.Num v4.Text v4.Names (v4.Kids.set v2.1.toNat v3.1)),true)))
     (some ((aj.mk 0 0 [] [] []),false))))) (some ((aj.mk 0 0 [] [] []),false)))))
 (hC:∀d m,Shape d m=true->Ev (λn=>C n m) (oK (g m))) :
 ∀(p:List aO) {d:Nat} {n:aj},Shape d n=true->Ev (λk=>F k n p) (oK (E5 g n p))
 | [],d,n,h=>by refine Ev.up ?_;simp only[hF];refine Ev.ct rfl (Ev.bind (hC d n h) (Ev.ret' ?_));rw[E5]
 | s::p,d,n,h=>by
   cases d with
   |zero=>cases h
   |succ d=>
   obtain⟨v,b,gk,h1,h2⟩:=T.gQ s (kL h);refine Ev.up ?_;simp only[hF];refine Ev.cf (by simp;omega) (Ev.chk (by simp) ?_);rw[yC];refine Ev.bind gk ?_;rw[E5];cases hj:D9 n s with
   |none=>exact Ev.cf (h2 hj) (Ev.ret _)
   | some j=>
     have hjl:=yL hj;obtain⟨rfl,rfl⟩:=h1 j hj;refine Ev.ct rfl (Ev.chk (by omega) (Ev.chk (by simp;omega) ?_));rw[ai];have ih:=T.change hF hC p (A8 h hjl);refine Ev.bind (show Ev (λk=>F k (n.Kids.getD j default) ((s::p).drop 1)) _ from ih) ?_;simp only;cases hc:E5 g (n.Kids.getD j default) p with
     |none=>exact Ev.cf rfl (Ev.ret _)
     | some c=>refine Ev.ct rfl (Ev.bind (T.aP Bh (yx h)) (Ev.chk (by omega) (Ev.ret _)))
def insL {α:Type}(l:List α)(k:Nat)(v:α):List α:=(l.take k++[v])++l.drop k
def slt (n:aj)(s:aO):Nat:=((aQ 0 n.Kids.length).find? λi=>bl s (n.Names.getD i default)).getD n.Kids.length
def addN (n:aj)(s:aO)(v:aj):Option aj:=
 match D9 n s with
 |some k=>if n.Kind=4 then some (FI n k v)else some (aj.mk n.Kind 0 [] [] (insL n.Kids k v))
 | none=>if n.Kind=3 then(if s=[45]\/s=xR n.Kids.length then some (aj.mk n.Kind 0 [] [] (insL n.Kids n.Kids.length v))else none)
   else if n.Kind=4 then some (aj.mk n.Kind 0 [] (insL n.Names (slt n s) s) (insL n.Kids (slt n s) v))else none
theorem XU (n:aj)(s:aO):slt n s<=n.Kids.length:=by
 unfold slt;cases h:(aQ 0 n.Kids.length).find? λi=>bl s (n.Names.getD i default)with
 |none=>simp
 |some j=>have:=(Fp.1 h).2.1;simp only[Option.getD_some];omega
def Ox (n:aj)(s:aO):Option (Nat×Bool):=
 match D9 n s with
 |some k=>some (k,n.Kind==4)
 | none=>if n.Kind=3 then(if s=[45]\/s=xR n.Kids.length then some (n.Kids.length,false)else none)
   else if n.Kind=4 then some (slt n s,false)else none
def acE : Option (Nat×Bool)->Int×Bool
 |some (k,b)=>((k:Int),b)
 |none=>(-1,false)
theorem T.lV.L1 {n:aj}(s:aO)(hk:n.Kind≠4):Ev (λf=>G.lV.L1 f n s 0) (-1,false):=by refine Ev.up ?_;simp only[G.lV.L1];exact Ev.cf (by simpa using hk) (Ev.ret _)
theorem T.lV.L2 {B D:Nat}{n:aj}(s:aO)(hB:B<=lim)(h:Fine B D n)(hk:n.Kind=4) :
 ∀(k i:Nat),i+k=n.Kids.length->Ev (λf=>G.lV.L2 f n s i) (((((aQ i k).find? λi=>bl s (n.Names.getD i default)).getD n.Kids.length:Nat):Int),false):=by
 have hl:=h.kids;have hm:=h.map hk;unfold lim at hB;intro k
 induction k with
 | zero=>intro i hi;refine Ev.up ?_;simp only[G.lV.L2];refine Ev.ct (by simpa using hk) (Ev.ct (by simp;omega) (Ev.ct (by simp;omega) (Ev.ret' ?_)));show((i:Int),false)=((n.Kids.length:Int),false);rw[show i=n.Kids.length by omega]
 | succ k ih=>
   intro i hi;refine Ev.up ?_;simp only[G.lV.L2];refine Ev.ct (by simpa using hk) (Ev.ct (by simp;omega) (Ev.cf (by simp;omega) (Ev.chk (by omega) ?_)));rw[jV,yj,ai];refine Ev.ite (λe=>Ev.ret' ?_) (λe=>?_)
   ·rw[show bl s (n.Names.getD i default)=true from e];rfl
   ·rw[dA (by omega),show bl s (n.Names.getD i default)=false from e];exact ih (i+1) (by omega)
theorem T.lV {B D:Nat}{n:aj}(s:aO)(hB:B<=lim)(h:Fine B D n)(hB':B<lim):Ev (λf=>G.lV f n s) (acE (Ox n s)):=by
 have hl:=h.kids;refine Ev.up ?_;simp only[G.lV];refine Ev.bind (T.jE s hB h) ?_;unfold Ox;cases hj:D9 n s with
 |some j=>exact Ev.ct (decide_eq_true (by simp only[GY];omega)) (Ev.ret _)
 | none=>
   refine Ev.cf (by rfl) ?_;simp only;by_cases h3:n.Kind=3
   ·rw[if_pos h3];refine Ev.ct (by simpa using h3) ?_;refine Ev.ite (λe=>Ev.ret' ?_) (λe=>?_)
    ·rw[if_pos (.inl (by simpa using e))];rfl
    ·refine Ev.bind (T.decimal (i:=n.Kids.length) (by omega)) (Ev.ite (λe2=>Ev.ret' ?_) (λe2=>?_))
     ·rw[if_pos (.inr (by simpa using e2))];rfl
     ·rw[if_neg (by simp at e e2;simp[e,e2])];exact T.lV.L1 s (by omega)
   ·rw[if_neg h3];refine Ev.cf (by simpa using h3) ?_;by_cases h4:n.Kind=4
    ·rw[if_pos h4];exact T.lV.L2 s hB h h4 n.Kids.length 0 (by omega)
    ·rw[if_neg h4];refine Ev.up ?_;simp only[G.lV.L2];exact Ev.cf (by simpa using h4) (Ev.ret _)
theorem Ry (n:aj)(s:aO)(v:aj):addN n s v=(Ox n s).map λq=>if q.2 then FI n q.1 v else if n.Kind=3 then aj.mk n.Kind 0 [] [] (insL n.Kids q.1 v)else aj.mk n.Kind 0 [] (insL n.Names q.1 s) (insL n.Kids q.1 v):=by
 unfold addN Ox;cases hj:D9 n s with
 | some j=>
   simp only[lU];by_cases h4:n.Kind=4
   ·simp[h4]
   ·have h3:n.Kind=3:=by
     by_cases h3:n.Kind=3
     ·exact h3
     ·have:=JC hj;rw[GL h4 h3]at this;cases this
    simp[h3]
 | none=>
   simp only;by_cases h3:n.Kind=3
   ·simp only[h3,if_true];by_cases hs:s=[45]\/s=xR n.Kids.length
    ·rw[if_pos hs,if_pos hs];simp
    ·rw[if_neg hs,if_neg hs];rfl
   ·rw[if_neg h3,if_neg h3];by_cases h4:n.Kind=4
    ·rw[if_pos h4,if_pos h4];simp[h3]
    ·rw[if_neg h4,if_neg h4];rfl
theorem YD {n:aj}{s:aO}{q:Nat×Bool}(h:Ox n s=some q):q.1<=n.Kids.length/\(q.2=true->q.1<n.Kids.length)/\(n.Kind=3\/n.Kind=4):=by
 unfold Ox at h;cases hj:D9 n s with
 | some j=>
   rw[hj]at h;cases h;have:=yL hj;refine⟨by omega,λ_=>this,?_⟩;by_cases h4:n.Kind=4
   ·exact .inr h4
   ·by_cases h3:n.Kind=3
    ·exact .inl h3
    ·have:=JC hj;rw[GL h4 h3]at this;cases this
 | none=>
   rw[hj]at h;simp only at h;by_cases h3:n.Kind=3
   ·rw[if_pos h3]at h;split at h
    ·cases h;exact⟨au _,λe=>(by cases e),.inl h3⟩
    ·cases h
   ·rw[if_neg h3]at h;split at h
    ·rename_i h4;cases h;exact⟨XU n s,λe=>(by cases e),.inr h4⟩
    ·cases h
theorem T.pR {B D E:Nat}{n v:aj}(s:aO)(hB:B<lim)(h:Fine B D n)(hv:Fine B E v):Ev (λf=>G.pR f n s v) (oK (addN n s v)):=by
 have hl:=h.kids;have hn:=h.names;have hB2:=hB;unfold lim at hB2;refine Ev.up ?_;simp only[G.pR];refine Ev.bind (T.lV s (by omega) h hB) ?_;rw[Ry];cases hq:Ox n s with
 |none=>exact Ev.ct rfl (Ev.ret _)
 | some q=>
   obtain⟨q1,q2⟩:=q;obtain⟨hq1,hq2,hk⟩:=YD hq;simp only at hq1 hq2;refine Ev.cf (decide_eq_false (by simp only[acE];omega)) ?_;refine Ev.ite (λe=>?_) (λe=>?_)
   ·have e:q2=true:=e;subst e;exact Ev.bind (T.oN (by omega) h hv (hq2 rfl)) (Ev.ret _)
   ·have e:q2=false:=e;subst e;simp only[acE,ai];have ht:(n.Kids.take q1).length=q1:=(by rw[dZ];omega);have hd:(n.Kids.drop q1).length=n.Kids.length-q1:=fH;refine Ev.bind (T.aY (by omega) h) (Ev.chk (by omega) (Ev.chk (by omega) (Ev.bind (T.aY (by omega) hv) (Ev.chk (by omega) (Ev.chk (by omega) (Ev.chk (by omega) ?_))))));refine Ev.ite (λe3=>Ev.ret' ?_) (λe3=>?_)
    ·have e3':n.Kind=3:=(by simpa using e3);simp only[lU,if_pos e3'];rfl
    ·have e3':¬n.Kind=3:=(by simpa using e3);have h4:n.Kind=4:=(by omega);have hm:=h.map h4;have ht2:(n.Names.take q1).length=q1:=(by rw[dZ];omega);have hd2:(n.Names.drop q1).length=n.Names.length-q1:=fH;refine Ev.chk (by omega) (Ev.chk (by omega) (Ev.chk (by omega) (Ev.chk (by omega) (Ev.chk (by omega) (Ev.ret' ?_)))));simp only[lU,if_neg e3'];rfl
theorem Vs {B D E:Nat}{n v m:aj}{s:aO}(h:Fine B D n)(hv:Fine B E v)(hs:s.length<=B)(hm:addN n s v=some m):Fine (B+1) (D+E) m:=by
 rw[Ry]at hm;cases hq:Ox n s with
 |none=>rw[hq]at hm;cases hm
 | some q=>
   obtain⟨q1,q2⟩:=q;obtain⟨hq1,hq2,hk⟩:=YD hq;simp only at hq1 hq2;rw[hq]at hm;cases D with
   |zero=>exact h.elim
   |succ D=>
   cases hm;have aga:∀k,k∈insL n.Kids q1 v->Fine (B+1) (D+E) k:=by
    intro k hk;unfold insL at hk;simp only[aW,bM]at hk;rcases hk with(hk|rfl)|hk
    ·exact(h.2.2.2.2.2 k (fJ hk)).mono (by omega) (by omega)
    ·exact hv.mono (by omega) (by omega)
    ·exact(h.2.2.2.2.2 k (mP hk)).mono (by omega) (by omega)
   have hlen:(insL n.Kids q1 v).length=n.Kids.length+1:=(by unfold insL;simp;omega);have hl:=h.kids;have hn:=h.names;have hb:1<=B+1:=(by omega);cases q2 with
   |true=>exact(Vt (j:=q1) h hv).mono (by omega) (by omega)
   | false=>
     simp only[Bool.false_eq_true,if_false];rw[show D+1+E=(D+E)+1 by omega];by_cases h3:n.Kind=3
     ·rw[if_pos h3];exact⟨by simp,by simp,by simp,by show(insL n.Kids q1 v).length<=_;omega,λh4=>by simp only at h4;omega,aga⟩
     ·rw[if_neg h3];have h4:n.Kind=4:=(by omega);have hm:=h.map h4;have hlen2:(insL n.Names q1 s).length=n.Names.length+1:=(by unfold insL;simp;omega);refine⟨by simp,by show(insL n.Names q1 s).length<=_;omega,λx hx=>?_,by show(insL n.Kids q1 v).length<=_;omega,λ_=>by show(insL n.Kids q1 v).length<=(insL n.Names q1 s).length;omega,aga⟩;have hx:x∈insL n.Names q1 s:=hx;unfold insL at hx;simp only[aW,bM]at hx;rcases hx with(hx|rfl)|hx
      ·have:=h.2.2.1 x (fJ hx);omega
      ·omega
      ·have:=h.2.2.1 x (mP hx);omega
theorem acF {n:aj}{s:aO}{p:Nat}(hA:Asc n.Names=true)(hl:n.Kids.length=n.Names.length)(h:LB n.Names s p)(hne:(decide (p<n.Names.length)&&n.Names.getD p default==s)=false):slt n s=p:=by
 have hhi:∀j,p<=j->j<n.Names.length->bl s (n.Names.getD j default)=true:=by
  intro j h1 h2;cases hb:bl s (n.Names.getD j default)with
  |true=>rfl
  | false=>
    have e:=IL hb (h.hi j h1 h2);by_cases hp:p=j
    ·subst hp;have:decide (p<n.Names.length)=true:=(by simpa using h2);rw[this,<- e]at hne;simp at hne
    ·have:=EG hA p j (by omega) h2;rw[<- e,h.hi p (by omega) (by omega)]at this;cases this
 unfold slt;cases hf:(aQ 0 n.Kids.length).find? λi=>bl s (n.Names.getD i default)with
 | none=>
   have:=Ju.1 hf;by_cases hp:p=n.Kids.length
   ·rw[hp];rfl
   ·have agd:=h.le;have h2:=hhi p (by omega) (by omega);rw[this p (by omega) (by omega)]at h2;cases h2
 | some j=>
   obtain⟨h1,h2,h3,h4⟩:=Fp.1 hf;show j=p;have a1:¬j<p:=λhlt=>by have:=Lj (h.lo j hlt);rw[this]at h3;cases h3
   have a2:¬p<j:=λhlt=>by have:=h4 p (by omega) hlt;rw[hhi p (by omega) (by omega)]at this;cases this
   omega
theorem T.oL {d:Nat}{n v:aj}(s:aO)(h:Shape (d+1) n=true)(hk:n.Kind=4):∃m,addN n s v=some m/\Ev (λf=>G.oL f n s v) m:=by
 have hp:=kL h;obtain⟨hnum,htext,hN,hl,hkl⟩:=xH hp hk;obtain⟨p,g,hlb⟩:=T.slices_BinarySearch_string s (by unfold big;omega) (KD hN);have hpl:=Ui hk (KD hN) hkl hlb;have agd:=hlb.le;cases hc:decide (p<n.Names.length)&&n.Names.getD p default==s with
 | true=>rw[hc,if_pos rfl]at hpl;refine⟨FI n p v,by unfold addN;rw[hpl];simp[hk],Ev.up ?_⟩;simp only[G.oL];have:=yL hpl;refine Ev.bind g (Ev.ct hc (Ev.chk (by omega) (Ev.ret' ?_)));rw[ai];rfl
 | false=>
   rw[hc,if_neg (by simp)]at hpl;have hsl:=acF (KD hN) hkl hlb hc;refine⟨aj.mk n.Kind 0 [] (insL n.Names p s) (insL n.Kids p v),by unfold addN;rw[hpl,hsl];simp[hk],Ev.up ?_⟩;simp only[G.oL];refine Ev.bind g (Ev.cf hc ?_);have i1:Ev (λf=>G.mG f n.Names (p:Int) [s]) (insL n.Names p s):=by refine Ev.up ?_;simp only[G.mG];refine Ev.chk (by simp;omega) (Ev.ret' ?_);rw[ai];rfl
   have i2:Ev (λf=>G.iW f n.Kids (p:Int) [v]) (insL n.Kids p v):=by refine Ev.up ?_;simp only[G.iW];refine Ev.chk (by simp;omega) (Ev.ret' ?_);rw[ai];rfl
   exact Ev.bind i1 (Ev.bind i2 (Ev.ret' (by rw[hnum,htext])))
theorem T.lu.K1 {B E:Nat}{n v:aj}{k:Nat}(hB:B<=lim)(hv:Fine B E v)(hk:k<=n.Kids.length)(hl:n.Kids.length<=6):Ev (λf=>G.lu.K1 f v n (k:Int) true) (aj.mk n.Kind n.Num n.Text n.Names (insL n.Kids k v),true):=by
 refine Ev.up ?_;simp only[G.lu.K1];refine Ev.ct rfl (Ev.bind (T.aP hB hv) ?_);have i2:Ev (λf=>G.iW f n.Kids (k:Int) [v]) (insL n.Kids k v):=by refine Ev.up ?_;simp only[G.iW];refine Ev.chk (by simp;omega) (Ev.ret' ?_);rw[ai];rfl
 exact Ev.bind i2 (Ev.ret _)
theorem T.lu {B E d:Nat}{n v:aj}(s:aO)(hB:B<=lim)(hv:Fine B E v)(h:Shape d n=true):Ev (λf=>G.lu f n s v) (oK (addN n s v)):=by
 cases d with
 |zero=>cases h
 |succ d=>
 have hp:=kL h;refine Ev.up ?_;simp only[G.lu];refine Ev.bind (T.aP Bh (yx h)) ?_;by_cases h4:n.Kind=4
 ·refine Ev.ct (by simpa using h4) (Ev.bind (T.aP hB hv) ?_);obtain⟨m,hm,g⟩:=T.oL (v:=v) s h h4;rw[hm];exact Ev.bind g (Ev.ret _)
 refine Ev.cf (by simpa using h4) ?_;by_cases h3:n.Kind=3
 ·obtain⟨hnum,htext,Xv,hl⟩:=Df hp h3;refine Ev.ct (by simpa using h3) ?_;obtain⟨w,b,g,h1,h2⟩:=T.gQ s hp;refine Ev.bind g ?_;unfold addN;cases hj:D9 n s with
  | some j=>obtain⟨rfl,rfl⟩:=h1 j hj;have:=yL hj;refine Ev.ct rfl ((T.lu.K1 (k:=j) hB hv (by omega) hl).eq ?_);simp only[if_neg h4];rw[hnum,htext,Xv];rfl
  | none=>
    have hb:=h2 hj;subst hb;simp only[if_pos h3];refine Ev.cf rfl (Ev.ite (λe=>?_) (λe=>?_))
    ·refine(T.lu.K1 (k:=n.Kids.length) hB hv (by omega) hl).eq ?_;rw[if_pos (.inl (by simpa using e)),hnum,htext,Xv];rfl
    ·refine Ev.bind (T.strconv_Itoa (i:=n.Kids.length) (by omega)) (Ev.ite (λe2=>?_) (λe2=>?_))
     ·refine(T.lu.K1 (k:=n.Kids.length) hB hv (by omega) hl).eq ?_;rw[if_pos (.inr (by simpa using e2)),hnum,htext,Xv];rfl
     ·rw[if_neg (by simp at e e2;simp[e,e2])];refine Ev.up ?_;simp only[G.lu.K1];exact Ev.cf rfl (Ev.ret _)
 ·refine Ev.cf (by simpa using h3) (Ev.ret' ?_);have hn:D9 n s=none:=MI.2 (λq _=>GL h4 h3 s q);unfold addN;rw[hn];simp[h3,h4,oK,vJ]
theorem T.lX (b:Bool):Ev (λf=>G.lX f b) (if b then 1 else 0):=by
 refine Ev.up ?_;simp only[G.lX];cases b
 ·exact Ev.ret _
 ·exact Ev.ret _
theorem T.qo (a b:Int):∃r,Ev (λf=>G.qo f a b) r/\(r=0<->a=b):=by
 by_cases h:a<b
 ·refine⟨-1,Ev.up ?_,by omega⟩;simp only[G.qo];rw[show decide (b<a)=false by simp;omega,show decide (a<b)=true by simpa using h];exact Ev.bind (T.lX _) (Ev.bind (T.lX _) (Ev.ret _))
 ·by_cases k:b<a
  ·refine⟨1,Ev.up ?_,by omega⟩;simp only[G.qo];rw[show decide (a<b)=false by simp;omega,show decide (b<a)=true by simpa using k];exact Ev.bind (T.lX _) (Ev.bind (T.lX _) (Ev.ret _))
  ·refine⟨0,Ev.up ?_,by omega⟩;simp only[G.qo];rw[show decide (a<b)=false by simp;omega,show decide (b<a)=false by simp;omega];exact Ev.bind (T.lX _) (Ev.bind (T.lX _) (Ev.ret _))
theorem T.oD (a b:aO)(hne:a≠b):∃r,Ev (λf=>G.oD f a b) r/\r≠0:=by
 cases h:bl a b with
 | true=>refine⟨-1,Ev.up ?_,by omega⟩;simp only[G.oD];exact Ev.ct h (Ev.bind (T.lX _) (Ev.bind (T.lX _) (Ev.ret _)))
 | false=>refine⟨1,Ev.up ?_,by omega⟩;simp only[G.oD];exact Ev.cf h (Ev.cf (by simpa using hne) (Ev.bind (T.lX _) (Ev.bind (T.lX _) (Ev.ret _))))
def F7 (a b:aj)(i:Nat):Prop:=a.Kids.drop i=b.Kids.drop i/\(a.Kind=4->a.Names.drop i=b.Names.drop i)
theorem P5 {a b:aj}{i:Nat}(ha:i<a.Kids.length)(hb:i<b.Kids.length)(h4:a.Kind=4->i<a.Names.length/\i<b.Names.length) :
 F7 a b i<->((a.Kind=4->a.Names.getD i default=b.Names.getD i default)/\a.Kids.getD i default=b.Kids.getD i default/\F7 a b (i+1)):=by
 unfold F7;rw[dI (default:aj) ha,dI (default:aj) hb,vX];by_cases hk:a.Kind=4
 ·obtain⟨n1,n2⟩:=h4 hk;rw[dI (default:aO) n1,dI (default:aO) n2,vX];simp only[hk,true_implies];constructor
  ·rintro⟨⟨x,y⟩,z,w⟩;exact⟨z,x,y,w⟩
  ·rintro⟨z,x,y,w⟩;exact⟨⟨x,y⟩,z,w⟩
 ·simp only[hk,false_implies,and_true,true_and]
theorem Ak {d:Nat}{n:aj}(h:Shape d n=true)(hk:n.Kind=4):n.Names.length=n.Kids.length:=by
 cases d with
 |zero=>cases h
 |succ d=>exact(xH (kL h) hk).2.2.2.2.symm
theorem T.iG.L1 {d e:Nat}{a b:aj}(ha:Shape (d+1) a=true)(hb:Shape (e+1) b=true)(hk:a.Kind=b.Kind)
 (hs:∀x y,x∈a.Kids->y∈b.Kids->∃r,Ev (λf=>G.iG f x y) r/\(r=0<->x=y)) :
 ∀(k i:Nat),a.Kids.length<=i+k->i<=a.Kids.length->i<=b.Kids.length->∃r,Ev (λf=>G.iG.L1 f a b i) r/\(r=0<->F7 a b i):=by
 have la:=Dw ha;have lb:=Dw hb;have tail:∀i,i<=a.Kids.length->i<=b.Kids.length->(i=a.Kids.length\/i=b.Kids.length)->∃r,Ev (λf=>jc (G.qo f (a.Kids.length:Int) (b.Kids.length:Int)) λv=>some v) r/\(r=0<->F7 a b i):=by
  intro i h1 h2 h3;obtain⟨r,g,hr⟩:=T.qo (a.Kids.length:Int) (b.Kids.length:Int);refine⟨r,Ev.bind g (Ev.ret _),hr.trans ⟨λhl=>?_,λhE=>?_⟩⟩
  ·have hl:a.Kids.length=b.Kids.length:=(by omega);refine⟨by rw[ak (by omega),ak (by omega)],λh4=>?_⟩;have n1:=Ak ha h4;have n2:=Ak hb (hk▸h4);rw[ak (by omega),ak (by omega)]
  ·have:=congrArg kE hE.1;simp only[fH]at this;omega
 intro k
 induction k with
 | zero=>intro i h1 h2 h3;obtain⟨r,g,hr⟩:=tail i h2 h3 (by omega);refine⟨r,Ev.up ?_,hr⟩;simp only[G.iG.L1];exact Ev.cf (by simp;omega) g
 | succ k ih=>
   intro i h1 h2 h3;by_cases hia:i=a.Kids.length
   ·obtain⟨r,g,hr⟩:=tail i h2 h3 (by omega);refine⟨r,Ev.up ?_,hr⟩;simp only[G.iG.L1];exact Ev.cf (by simp;omega) g
   by_cases hib:i=b.Kids.length
   ·obtain⟨r,g,hr⟩:=tail i h2 h3 (by omega);refine⟨r,Ev.up ?_,hr⟩;simp only[G.iG.L1];exact Ev.ct (by simp;omega) (Ev.cf (by simp;omega) g)
   have n4:a.Kind=4->i<a.Names.length/\i<b.Names.length:=λh4=>by have n1:=Ak ha h4;have n2:=Ak hb (hk▸h4);omega
   have hE:=P5 (a:=a) (b:=b) (i:=i) (by omega) (by omega) n4;obtain⟨r2,g2,hr2⟩:=hs (a.Kids.getD i default) (b.Kids.getD i default) (by rw[fZ _ (by omega:i<a.Kids.length)];exact dO _) (by rw[fZ _ (by omega:i<b.Kids.length)];exact dO _);obtain⟨r3,g3,hr3⟩:=ih (i+1) (by omega) (by omega) (by omega);have rest:∃r,Ev (λf=>jc (G.iG f (a.Kids.getD i default) (b.Kids.getD i default)) λv=>cond (v != 0) (some v) (G.iG.L1 f a b ((i+1:Nat):Int))) r/\(r=0<->(a.Kids.getD i default=b.Kids.getD i default/\F7 a b (i+1))):=by
    by_cases h0:r2=0
    ·refine⟨r3,Ev.bind g2 (Ev.cf (by rw[h0];rfl) g3),?_⟩;rw[hr3];exact⟨λh=>⟨hr2.1 h0,h⟩,λh=>h.2⟩
    ·refine⟨r2,Ev.bind g2 (Ev.ct (by simpa using h0) (Ev.ret _)),?_⟩;exact⟨λh=>absurd h h0,λh=>hr2.2 h.1⟩
   obtain⟨r4,g4,hr4⟩:=rest;by_cases h4:a.Kind=4
   ·obtain⟨m1,m2⟩:=n4 h4;by_cases hn:a.Names.getD i default=b.Names.getD i default
    ·refine⟨r4,Ev.up ?_,?_⟩
     ·simp only[G.iG.L1];rw[ai,dA (by omega)];exact Ev.ct (by simp;omega) (Ev.ct (by simp;omega) (Ev.ct (by simpa using h4) (Ev.chk (by omega) (Ev.chk (by omega) (Ev.ct (by simpa using hn) (Ev.chk (by omega) (Ev.chk (by omega) g4)))))))
     ·rw[hr4,hE];exact⟨λh=>⟨λ_=>hn,h⟩,λh=>h.2⟩
    ·obtain⟨r,g,hr⟩:=T.oD _ _ hn;refine⟨r,Ev.up ?_,?_⟩
     ·simp only[G.iG.L1];rw[ai,dA (by omega)];exact Ev.ct (by simp;omega) (Ev.ct (by simp;omega) (Ev.ct (by simpa using h4) (Ev.chk (by omega) (Ev.chk (by omega) (Ev.cf (by simpa using hn) (Ev.chk (by omega) (Ev.chk (by omega) (Ev.bind g (Ev.ret _)))))))))
     ·rw[hE];exact⟨λh=>absurd h hr,λh=>absurd (h.1 h4) hn⟩
   ·refine⟨r4,Ev.up ?_,?_⟩
    ·simp only[G.iG.L1];rw[ai,dA (by omega)];exact Ev.ct (by simp;omega) (Ev.ct (by simp;omega) (Ev.cf (by simpa using h4) (Ev.chk (by omega) (Ev.chk (by omega) g4))))
    ·rw[hr4,hE];exact⟨λh=>⟨λe=>absurd e h4,h⟩,λh=>h.2⟩
theorem RV {d:Nat}{n:aj}(h:Shape (d+1) n=true)(h4:n.Kind≠4):n.Names=[]:=by
 by_cases h3:n.Kind=3
 ·exact(Df (kL h) h3).2.2.1
 ·exact(zl (kL h) h4 h3).1
theorem eq_iff {d e:Nat}{a b:aj}(ha:Shape (d+1) a=true)(hb:Shape (e+1) b=true):a=b<->(a.Kind=b.Kind/\a.Num=b.Num/\a.Text=b.Text/\F7 a b 0):=by
 constructor
 ·rintro rfl;exact⟨rfl,rfl,rfl,rfl,λ_=>rfl⟩
 ·rintro⟨h1,h2,h3,h4,h5⟩;simp only[bZ]at h4 h5;have hn:a.Names=b.Names:=by
   by_cases h:a.Kind=4
   ·exact h5 h
   ·rw[RV ha h,RV hb (h1▸h)]
  cases a;cases b;simp only at h1 h2 h3 h4 hn;subst h1 h2 h3 h4 hn;rfl
theorem T.iG : ∀(d:Nat) {e:Nat} {a b:aj},Shape d a=true->Shape e b=true->∃r,Ev (λf=>G.iG f a b) r/\(r=0<->a=b)
 |0,_,_,_,h,_=>by cases h
 |_+1,0,_,_,_,h=>by cases h
 | d+1,e+1,a,b,ha,hb=>by
   rw[eq_iff ha hb];by_cases h1:a.Kind=b.Kind
   ·by_cases h2:a.Num=b.Num
    ·by_cases h3:a.Text=b.Text
     ·obtain⟨r,g,hr⟩:=T.iG.L1 ha hb h1 (λx y hx hy=>T.iG d (tJ ha x hx) (tJ hb y hy)) a.Kids.length 0 (by omega) (by omega) (by omega);refine⟨r,Ev.up ?_,hr.trans ⟨λh=>⟨h1,h2,h3,h⟩,λh=>h.2.2.2⟩⟩;simp only[G.iG];exact Ev.cf (by simpa using h1) (Ev.cf (by simpa using h2) (Ev.ct (by simpa using h3) g))
     ·obtain⟨r,g,hr⟩:=T.oD _ _ h3;refine⟨r,Ev.up ?_,⟨λh=>absurd h hr,λh=>absurd h.2.2.1 h3⟩⟩;simp only[G.iG];exact Ev.cf (by simpa using h1) (Ev.cf (by simpa using h2) (Ev.cf (by simpa using h3) (Ev.bind g (Ev.ret _))))
    ·obtain⟨r,g,hr⟩:=T.qo a.Num b.Num;refine⟨r,Ev.up ?_,hr.trans ⟨λh=>absurd h h2,λh=>h.2.1⟩⟩;simp only[G.iG];exact Ev.cf (by simpa using h1) (Ev.ct (by simpa using h2) (Ev.bind g (Ev.ret _)))
   ·obtain⟨r,g,hr⟩:=T.qo a.Kind b.Kind;refine⟨r,Ev.up ?_,hr.trans ⟨λh=>absurd h h1,λh=>h.1⟩⟩;simp only[G.iG];exact Ev.ct (by simpa using h1) (Ev.bind g (Ev.ret _))
theorem T.vz {d e:Nat}{a b:aj}(ha:Shape d a=true)(hb:Shape e b=true):∃v,Ev (λf=>G.vz f a b) v/\(v=true<->a=b):=by obtain⟨r,g,hr⟩:=T.iG d ha hb;refine⟨r==0,Ev.up ?_,by rw[beq_iff_eq];exact hr⟩;simp only[G.vz];exact Ev.bind g (Ev.ret _)
theorem T.cmp_Compare_int (a b:Int):∃r,Ev (λf=>G.cmp_Compare_int f a b) r/\(r=0<->a=b):=by
 have hn:∀x:Int,Ev (λf=>G.cmp_isNaN_int f x) false:=λx=>by refine Ev.up ?_;simp only[G.cmp_isNaN_int];exact Ev.ret' (by simp)
 by_cases h:a<b
 ·refine⟨-1,Ev.up ?_,by omega⟩;simp only[G.cmp_Compare_int];exact Ev.bind (hn a) (Ev.bind (hn b) (Ev.cf rfl (Ev.cf rfl (Ev.ct (by simpa using h) (Ev.ret _)))))
 ·by_cases k:b<a
  ·refine⟨1,Ev.up ?_,by omega⟩;simp only[G.cmp_Compare_int];exact Ev.bind (hn a) (Ev.bind (hn b) (Ev.cf rfl (Ev.cf rfl (Ev.cf (by simpa using h) (Ev.ct (by simpa using k) (Ev.ret _))))))
  ·refine⟨0,Ev.up ?_,by omega⟩;simp only[G.cmp_Compare_int];exact Ev.bind (hn a) (Ev.bind (hn b) (Ev.cf rfl (Ev.cf rfl (Ev.cf (by simpa using h) (Ev.cf (by simpa using k) (Ev.ret _))))))
theorem T.strings_Compare (a b:aO):∃r,Ev (λf=>G.strings_Compare f a b) r/\(r=0<->a=b):=by
 refine⟨jI a b,Ev.up ?_,RH⟩;simp only[G.strings_Compare];have:Ev (λf=>G.iD f a b) (jI a b):=by refine Ev.up ?_;simp only[G.iD];exact Ev.ret _
 exact Ev.bind this (Ev.ret _)
theorem T.bY.L3 {d e:Nat}{a b:aj}(ha:Shape (d+1) a=true)(hb:Shape (e+1) b=true)(hk:a.Kind=b.Kind)
 (hs:∀x y,x∈a.Kids->y∈b.Kids->∃r,Ev (λf=>G.bY f x y) r/\(r=0<->x=y)) :
 ∀(k i:Nat),a.Kids.length<=i+k->i<=a.Kids.length->i<=b.Kids.length->∃r,Ev (λf=>G.bY.L3 f a b i) r/\(r=0<->F7 a b i):=by
 have la:=Dw ha;have lb:=Dw hb;have tail:∀i,i<=a.Kids.length->i<=b.Kids.length->(i=a.Kids.length\/i=b.Kids.length)->∃r,Ev (λf=>jc (G.cmp_Compare_int f (a.Kids.length:Int) (b.Kids.length:Int)) λv=>some v) r/\(r=0<->F7 a b i):=by
  intro i h1 h2 h3;obtain⟨r,g,hr⟩:=T.cmp_Compare_int (a.Kids.length:Int) (b.Kids.length:Int);refine⟨r,Ev.bind g (Ev.ret _),hr.trans ⟨λhl=>?_,λhE=>?_⟩⟩
  ·have hl:a.Kids.length=b.Kids.length:=(by omega);refine⟨by rw[ak (by omega),ak (by omega)],λh4=>?_⟩;have n1:=Ak ha h4;have n2:=Ak hb (hk▸h4);rw[ak (by omega),ak (by omega)]
  ·have:=congrArg kE hE.1;simp only[fH]at this;omega
 intro k
 induction k with
 | zero=>intro i h1 h2 h3;obtain⟨r,g,hr⟩:=tail i h2 h3 (by omega);refine⟨r,Ev.up ?_,hr⟩;simp only[G.bY.L3];exact Ev.cf (by simp;omega) g
 | succ k ih=>
   intro i h1 h2 h3;by_cases hia:i=a.Kids.length
   ·obtain⟨r,g,hr⟩:=tail i h2 h3 (by omega);refine⟨r,Ev.up ?_,hr⟩;simp only[G.bY.L3];exact Ev.cf (by simp;omega) g
   by_cases hib:i=b.Kids.length
   ·obtain⟨r,g,hr⟩:=tail i h2 h3 (by omega);refine⟨r,Ev.up ?_,hr⟩;simp only[G.bY.L3];exact Ev.ct (by simp;omega) (Ev.cf (by simp;omega) g)
   have n4:a.Kind=4->i<a.Names.length/\i<b.Names.length:=λh4=>by have n1:=Ak ha h4;have n2:=Ak hb (hk▸h4);omega
   have hE:=P5 (a:=a) (b:=b) (i:=i) (by omega) (by omega) n4;obtain⟨r2,g2,hr2⟩:=hs (a.Kids.getD i default) (b.Kids.getD i default) (by rw[fZ _ (by omega:i<a.Kids.length)];exact dO _) (by rw[fZ _ (by omega:i<b.Kids.length)];exact dO _);obtain⟨r3,g3,hr3⟩:=ih (i+1) (by omega) (by omega) (by omega);have rest:∃r,Ev (λf=>G.bY.K4 f a b (i:Int)) r/\(r=0<->(a.Kids.getD i default=b.Kids.getD i default/\F7 a b (i+1))):=by
    by_cases h0:r2=0
    ·refine⟨r3,Ev.up ?_,?_⟩
     ·simp only[G.bY.K4];rw[ai,dA (by omega)];exact Ev.chk (by omega) (Ev.chk (by omega) (Ev.bind g2 (Ev.cf (by rw[h0];rfl) g3)))
     ·rw[hr3];exact⟨λh=>⟨hr2.1 h0,h⟩,λh=>h.2⟩
    ·refine⟨r2,Ev.up ?_,?_⟩
     ·simp only[G.bY.K4];rw[ai,dA (by omega)];exact Ev.chk (by omega) (Ev.chk (by omega) (Ev.bind g2 (Ev.ct (by simpa using h0) (Ev.ret _))))
     ·exact⟨λh=>absurd h h0,λh=>hr2.2 h.1⟩
   obtain⟨r4,g4,hr4⟩:=rest;by_cases h4:a.Kind=4
   ·obtain⟨m1,m2⟩:=n4 h4;obtain⟨r,g,hr⟩:=T.strings_Compare (a.Names.getD i default) (b.Names.getD i default);by_cases hn:a.Names.getD i default=b.Names.getD i default
    ·refine⟨r4,Ev.up ?_,?_⟩
     ·simp only[G.bY.L3];rw[ai];exact Ev.ct (by simp;omega) (Ev.ct (by simp;omega) (Ev.ct (by simpa using h4) (Ev.chk (by omega) (Ev.chk (by omega) (Ev.bind g (Ev.cf (by rw[hr.2 hn];rfl) g4))))))
     ·rw[hr4,hE];exact⟨λh=>⟨λ_=>hn,h⟩,λh=>h.2⟩
    ·have hr0:r≠0:=λe=>hn (hr.1 e);refine⟨r,Ev.up ?_,?_⟩
     ·simp only[G.bY.L3];rw[ai];exact Ev.ct (by simp;omega) (Ev.ct (by simp;omega) (Ev.ct (by simpa using h4) (Ev.chk (by omega) (Ev.chk (by omega) (Ev.bind g (Ev.ct (by simpa using hr0) (Ev.ret _)))))))
     ·rw[hE];exact⟨λh=>absurd h hr0,λh=>absurd (h.1 h4) hn⟩
   ·refine⟨r4,Ev.up ?_,?_⟩
    ·simp only[G.bY.L3];exact Ev.ct (by simp;omega) (Ev.ct (by simp;omega) (Ev.cf (by simpa using h4) g4))
    ·rw[hr4,hE];exact⟨λh=>⟨λe=>absurd e h4,h⟩,λh=>h.2⟩
theorem T.bY : ∀(d:Nat) {e:Nat} {a b:aj},Shape d a=true->Shape e b=true->∃r,Ev (λf=>G.bY f a b) r/\(r=0<->a=b)
 |0,_,_,_,h,_=>by cases h
 |_+1,0,_,_,_,h=>by cases h
 | d+1,e+1,a,b,ha,hb=>by
   rw[eq_iff ha hb];obtain⟨r1,g1,hr1⟩:=T.cmp_Compare_int a.Kind b.Kind;obtain⟨r2,g2,hr2⟩:=T.cmp_Compare_int a.Num b.Num;obtain⟨r3,g3,hr3⟩:=T.strings_Compare a.Text b.Text;by_cases h1:r1=0
   ·by_cases h2:r2=0
    ·by_cases h3:r3=0
     ·obtain⟨r,g,hr⟩:=T.bY.L3 ha hb (hr1.1 h1) (λx y hx hy=>T.bY d (tJ ha x hx) (tJ hb y hy)) a.Kids.length 0 (by omega) (by omega) (by omega);refine⟨r,Ev.up ?_,hr.trans ⟨λh=>⟨hr1.1 h1,hr2.1 h2,hr3.1 h3,h⟩,λh=>h.2.2.2⟩⟩;simp only[G.bY];exact Ev.bind g1 (Ev.cf (by rw[h1];rfl) (Ev.bind g2 (Ev.cf (by rw[h2];rfl) (Ev.bind g3 (Ev.cf (by rw[h3];rfl) g)))))
     ·refine⟨r3,Ev.up ?_,⟨λh=>absurd h h3,λh=>hr3.2 h.2.2.1⟩⟩;simp only[G.bY];exact Ev.bind g1 (Ev.cf (by rw[h1];rfl) (Ev.bind g2 (Ev.cf (by rw[h2];rfl) (Ev.bind g3 (Ev.ct (by simpa using h3) (Ev.ret _))))))
    ·refine⟨r2,Ev.up ?_,⟨λh=>absurd h h2,λh=>hr2.2 h.2.1⟩⟩;simp only[G.bY];exact Ev.bind g1 (Ev.cf (by rw[h1];rfl) (Ev.bind g2 (Ev.ct (by simpa using h2) (Ev.ret _))))
   ·refine⟨r1,Ev.up ?_,⟨λh=>absurd h h1,λh=>hr1.2 h.1⟩⟩;simp only[G.bY];exact Ev.bind g1 (Ev.ct (by simpa using h1) (Ev.ret _))
theorem T.rX {d e:Nat}{a b:aj}(ha:Shape d a=true)(hb:Shape e b=true):∃v,Ev (λf=>G.rX f a b) v/\(v=true<->a=b):=by obtain⟨r,g,hr⟩:=T.bY d ha hb;refine⟨r==0,Ev.up ?_,by rw[beq_iff_eq];exact hr⟩;simp only[G.rX];exact Ev.bind g (Ev.ret _)
theorem KL : ∀{d e:Nat} {n:aj},d<=e->Shape d n=true->Shape e n=true
 |0,_,_,_,h=>by cases h
 |d+1,0,_,hd,_=>by omega
 | d+1,e+1,n,hd,h=>by unfold Shape;rw[kL h,bQ,bg];exact λk hk=>KL (by omega) (tJ h k hk)
theorem JX {α:Type}{f g:α->Nat} : ∀{l:List α},(∀x,x∈l->f x=g x)->(l.map f).sum=(l.map g).sum
 |[],_=>rfl
 | x::l,h=>by simp only[bJ,qV];rw[h x (by simp),JX (λy hy=>h y (by simp[hy]))]
theorem cnt_mono : ∀{d e:Nat} {n:aj},d<=e->Shape d n=true->Cnt d n=Cnt e n
 |0,_,_,_,h=>by cases h
 |d+1,0,_,hd,_=>by omega
 | d+1,e+1,n,hd,h=>by unfold Cnt;rw[JX (f:=Cnt d) (g:=Cnt e) (λk hk=>cnt_mono (by omega) (tJ h k hk))]
theorem abM {α:Type}(f:α->Nat):∀{l:List α} {x:α},x∈l->f x<=(l.map f).sum
 | y::l,x,h=>by
   simp only[bJ,qV];rcases cO.1 h with rfl|h
   ·omega
   ·have:=abM f h;omega
theorem lF {n:aj}(h:Val n=true):Shape 5 n=true:=by unfold Val at h;simp only[ah]at h;exact h.1
theorem YI {n:aj}(h:Val n=true):Cnt 5 n<=40:=by unfold Val at h;simp only[ah,decide_eq_true_eq]at h;exact h.2
theorem nU {n:aj}(h:Val n=true):Fine 12 5 n:=yx (lF h)
theorem acR {d:Nat}{n:aj}(hd:d<=5)(h:Shape d n=true)(hc:Cnt d n<=40):Val n=true:=by unfold Val;rw[KL hd h,bQ,decide_eq_true_eq,<- cnt_mono hd h];exact hc
theorem U4 : ∀(p:List aO) {d:Nat} {n m:aj},Shape d n=true->IK n p=some m->Shape d m=true/\Cnt d m<=Cnt d n
 |[],d,n,m,h,e=>by cases e;exact⟨h,au _⟩
 | s::p,d,n,m,h,e=>by
   rw[IK]at e;cases hj:D9 n s with
   |none=>rw[hj]at e;cases e
   | some j=>
     rw[hj]at e;cases d with
     |zero=>cases h
     | succ d=>have hjl:=yL hj;obtain⟨h1,h2⟩:=U4 p (A8 h hjl) e;refine⟨KL (by omega) h1,?_⟩;rw[<- cnt_mono (Nat.le_succ d) h1];have:=abM (Cnt d) (l:=n.Kids) (x:=n.Kids.getD j default) (by rw[fZ _ hjl];exact dO _);show _<=1+(n.Kids.map (Cnt d)).sum;omega
theorem YF {α:Type}(f:α->Nat){c:α} : ∀{l:List α} {j:Nat} (d:α),f c<=f (l.getD j d)->((l.set j c).map f).sum<=(l.map f).sum
 |[],_,_,_=>by simp
 | x::l,0,d,h=>by rw[yC]at h;simp only[FT,bJ,qV];omega
 | x::l,j+1,d,h=>by rw[uz]at h;have:=YF f (l:=l) (j:=j) d h;simp only[List.set_cons_succ,bJ,qV];omega
theorem ZW {n c:aj}{j:Nat}(h:Parts n=true):Parts (FI n j c)=true:=by unfold Parts FI at *;simpa using h
theorem RF {f:aj->Option aj}(hf:∀d k k',Shape d k=true->f k=some k'->Shape d k'=true/\Cnt d k'<=Cnt d k) :
 ∀(p:List aO) {d:Nat} {n m:aj},Shape d n=true->E5 f n p=some m->Shape d m=true/\Cnt d m<=Cnt d n
 |[],d,n,m,h,e=>hf d n m h (by rw[E5]at e;exact e)
 | s::p,d,n,m,h,e=>by
   rw[E5]at e;cases hj:D9 n s with
   |none=>rw[hj]at e;cases e
   | some j=>
     rw[hj]at e;simp only at e;cases d with
     |zero=>cases h
     |succ d=>
     have hjl:=yL hj;cases hc:E5 f (n.Kids.getD j default) p with
     |none=>rw[hc]at e;cases e
     | some c=>
       rw[hc]at e;cases e;obtain⟨h1,h2⟩:=RF hf p (A8 h hjl) hc;constructor
       ·unfold Shape;rw[ZW (kL h),bQ,bg];intro k hk;rcases qR hk with hk|rfl
        ·exact tJ h k hk
        ·exact h1
       ·show 1+((n.Kids.set j c).map (Cnt d)).sum<=1+(n.Kids.map (Cnt d)).sum;have:=YF (Cnt d) (l:=n.Kids) (j:=j) default h2;omega
def xG {α:Type}(l:List α)(k:Nat):List α:=l.take k++l.drop (k+1)
def DW (n:aj)(s:aO):Option aj:=match D9 n s with
 |some k=>some (aj.mk n.Kind 0 [] (if n.Kind=4 then xG n.Names k else []) (xG n.Kids k))
 |none=>none
theorem Aq : ∀{l:List aO},Asc l=true<->l.Pairwise (λx y=>bl x y=true)
 |[]=>by simp[Asc]
 | x::l=>by
   rw[List.pairwise_cons,<- Aq (l:=l)];constructor
   ·intro h;exact⟨Gq h,Fv h⟩
   ·rintro⟨h1,h2⟩;cases l with
    |nil=>rfl
    |cons y r=>rw[Asc,h2,pz];exact h1 y (by simp)
theorem BN {α:Type}(l:List α)(k:Nat):(xG l k).Sublist l:=by
 unfold xG
 conv=>rhs;rw[<- xP k l]
 refine List.Sublist.append (List.Sublist.refl _) ?_;rw[<- List.drop_drop];exact List.drop_sublist 1 _
theorem Em {α:Type}{l:List α}{k:Nat}(h:k<l.length):(xG l k).length=l.length-1:=by unfold xG;simp;omega
theorem aek {α:Type}(f:α->Nat):∀{l m:List α},l.Sublist m->(l.map f).sum<=(m.map f).sum:=by
 intro l m h
 induction h with
 |slnil=>simp
 |cons a h ih=>simp only[bJ,qV];omega
 |cons_cons a h ih=>simp only[bJ,qV];omega
theorem Z8 (s:aO):∀d k k',Shape d k=true->DW k s=some k'->Shape d k'=true/\Cnt d k'<=Cnt d k:=by
 intro d n m h e;unfold DW at e;cases hj:D9 n s with
 |none=>rw[hj]at e;cases e
 | some j=>
   rw[hj]at e;cases e;have hjl:=yL hj;cases d with
   |zero=>cases h
   |succ d=>
   have hp:=kL h;have hsub:=BN n.Kids j;have hlen:=Em hjl;have hl:=NY hp;constructor
   ·unfold Shape;rw[ah,bg];refine⟨?_,λk hk=>tJ h k (hsub.subset hk)⟩;by_cases h4:n.Kind=4
    ·obtain⟨_,_,hN,hnl,hkl⟩:=xH hp h4;have hNM:NM (xG n.Names j)=true:=by
      unfold NM;rw[ah];refine⟨bg.2 λx hx=>Ub hN x ((BN _ _).subset hx),Aq.2 ((Aq.1 (KD hN)).sublist (BN _ _))⟩
     have hl2:=Em (l:=n.Names) (k:=j) (by omega);unfold Parts;simp[h4,hNM];omega
    ·by_cases h3:n.Kind=3
     ·unfold Parts;simp[h3];omega
     ·have:=JC hj;rw[GL h4 h3]at this;cases this
   ·show 1+((xG n.Kids j).map (Cnt d)).sum<=1+(n.Kids.map (Cnt d)).sum;have:=aek (Cnt d) hsub;omega
def F5 (p:List aO):aO:=p.getD (p.length-1) default
def Du (p:List aO):List aO:=p.take (p.length-1)
def Bc (n:aj)(p:List aO)(v:aj):Option aj:=if p=[]then some v else E5 (λm=>addN m (F5 p) v) n (Du p)
def BV (n:aj)(p:List aO):Option aj:=if p=[]then none else E5 (λm=>DW m (F5 p)) n (Du p)
theorem T.o9 {B D:Nat}{o:Option aj}(hB:B<=lim)(h:∀m,o=some m->Fine B D m):Ev (λf=>G.o9 f (oK o).1 (oK o).2) (oK (o.filter Val)):=by
 refine Ev.up ?_;simp only[G.o9];cases o with
 |none=>exact Ev.cf rfl (Ev.ret _)
 | some m=>
   refine Ev.ct rfl (Ev.bind (T.eG hB (h m rfl)) (Ev.ite (λe=>Ev.ret' ?_) (λe=>Ev.ret' ?_)))
   ·have e:Val m=true:=e;simp[oH,e,oK]
   ·have e:Val m=false:=e;simp[oH,e,oK,vJ]
theorem T.mX {B D:Nat}{o:Option aj}(hB:B<=lim)(h:∀m,o=some m->Fine B D m):Ev (λf=>G.mX f (oK o).1 (oK o).2) (oK (o.filter Val)):=by
 refine Ev.up ?_;simp only[G.mX];cases o with
 |none=>exact Ev.cf rfl (Ev.ret _)
 | some m=>
   refine Ev.ct rfl (Ev.bind (T.aX hB (h m rfl)) (Ev.ite (λe=>Ev.ret' ?_) (λe=>Ev.ret' ?_)))
   ·have e:Val m=true:=e;simp[oH,e,oK]
   ·have e:Val m=false:=e;simp[oH,e,oK,vJ]
theorem I4 {p:List aO}(hp:p≠[])(hl:p.length<big):af .i64 ((p.length:Int)-1)=((p.length-1:Nat):Int):=by have:0<p.length:=mZ.2 hp;unfold big at hl;exact wrapN (by omega) (by omega)
theorem P8 {B D E:Nat}{n v m:aj}{p:List aO}(h:Fine B D n)(hv:Fine B E v)(hs:∀s,s∈p->s.length<=B)(hm:Bc n p v=some m):Fine (B+1) (D+(D+E)) m:=by
 unfold Bc at hm;split at hm
 ·cases hm;exact hv.mono (by omega) (by omega)
 ·rename_i hp;have hlast:(F5 p).length<=B:=by
   unfold F5;have:0<p.length:=mZ.2 hp;rw[fZ _ (by omega:p.length-1<p.length)];exact hs _ (dO _)
  rw[Tc]at hm;cases ha:IK n (Du p)with
  |none=>rw[ha]at hm;cases hm
  | some inner=>
    rw[ha,gz]at hm;cases hn:addN inner (F5 p) v with
    |none=>rw[hn]at hm;cases hm
    | some next=>rw[hn,gz]at hm;have hi:=LG _ h ha;have hnx:=Vs hi hv hlast hn;exact P9 (B:=B+1) (E:=D+E) (Du p) (f:=λ_=>some next) (D:=D) (n:=n) (m:=m) (λD' k k' _ e=>by cases e;exact hnx.mono (au _) (by omega)) (h.mono (by omega) (au _)) hm
theorem T.tK {B D E:Nat}{n v:aj}(p:List aO)(hB:B+1<lim)(hp:p.length<big)(hs:∀s,s∈p->s.length<=B)(h:Fine B D n)(hv:Fine B E v):Ev (λf=>G.tK f n p v) (oK (Bc n p v)):=by
 refine Ev.up ?_;simp only[G.tK];by_cases hp0:p=[]
 ·subst hp0;exact Ev.ct rfl (Ev.bind (T.aY (by omega) hv) (Ev.ret _))
 ·have hpos:0<p.length:=mZ.2 hp0;have hlast:(F5 p).length<=B:=by
   unfold F5;rw[fZ _ (by omega:p.length-1<p.length)];exact hs _ (dO _)
  rw[I4 hp0 hp,ai];unfold Bc;rw[if_neg hp0,Tc];have hil:(Du p).length<big:=by unfold Du;rw[dZ];omega
  refine Ev.cf (by simpa using hp0) (Ev.chk (by omega) (Ev.bind (T.sG (Du p) (by omega) hil h) ?_));cases ha:IK n (Du p)with
  |none=>exact Ev.cf rfl (Ev.ret _)
  | some inner=>
    have hi:=LG _ h ha;have hA:=T.pR (n:=inner) (F5 p) (by omega) hi hv;refine Ev.ct rfl (Ev.chk (by omega) (Ev.bind hA ?_));rw[gz];cases hn:addN inner (F5 p) v with
    |none=>exact Ev.cf rfl (Ev.ret _)
    | some next=>have hnx:=Vs hi hv hlast hn;refine Ev.ct rfl (Ev.chk (by omega) (Ev.bind (T.oU (by omega) hnx (Du p) hil (h.mono (by omega) (au _))) (Ev.ret _)))
theorem abj {B D:Nat}{n m:aj}{s:aO}(h:Fine B D n)(e:DW n s=some m):Fine B D m:=by
 unfold DW at e;cases hj:D9 n s with
 |none=>rw[hj]at e;cases e
 | some j=>
   rw[hj]at e;cases e;cases D with
   |zero=>exact h.elim
   |succ D=>
   have hjl:=yL hj;have hk:=h.kids;have hn:=h.names;have h1:=Em hjl;refine⟨by simp,?_,λx hx=>?_,by show(xG n.Kids j).length<=B;omega,λh4=>?_,λk hk'=>h.2.2.2.2.2 k ((BN _ _).subset hk')⟩
   ·show(if n.Kind=4 then xG n.Names j else []).length<=B;split
    ·have:=(BN n.Names j).length_le;omega
    ·simp
   ·have hx:x∈(if n.Kind=4 then xG n.Names j else []):=hx;split at hx
    ·exact h.2.2.1 x ((BN _ _).subset hx)
    ·cases hx
   ·have h4:n.Kind=4:=h4;have hm:=h.map h4;have h2:=Em (l:=n.Names) (k:=j) (by omega);show(xG n.Kids j).length<=(if n.Kind=4 then xG n.Names j else []).length;rw[if_pos h4];omega
theorem T.kz {B D:Nat}{n:aj}(p:List aO)(hB:B+1<lim)(hp:p.length<big)(h:Fine B D n):Ev (λf=>G.kz f n p) (oK (BV n p)):=by
 have hB2:=hB;unfold lim at hB2;refine Ev.up ?_;simp only[G.kz];by_cases hp0:p=[]
 ·subst hp0;exact Ev.ct (by rfl) (Ev.ret _)
 ·have hpos:0<p.length:=mZ.2 hp0;rw[I4 hp0 hp,ai];unfold BV;rw[if_neg hp0,Tc];have hil:(Du p).length<big:=by unfold Du;rw[dZ];omega
  refine Ev.cf (by simp) (Ev.chk (by omega) (Ev.bind (T.sG (Du p) (by omega) hil h) ?_));cases ha:IK n (Du p)with
  |none=>exact Ev.cf rfl (Ev.ret _)
  | some inner=>
    have hi:=LG _ h ha;have hk:=hi.kids;have hnm:=hi.names;have hP:=T.jE (n:=inner) (F5 p) (by omega) hi;refine Ev.ct rfl (Ev.chk (by omega) (Ev.bind hP ?_));rw[gz];cases hj:D9 inner (F5 p)with
    | none=>unfold DW;rw[hj];exact Ev.ct rfl (Ev.ret _)
    | some j=>
      have hjl:=yL hj;simp only[GY,oK,ai,dA (show j+1<9223372036854775808 by omega)];have ht:(inner.Kids.take j).length=j:=(by rw[dZ];omega);have hd:(inner.Kids.drop (j+1)).length=inner.Kids.length-(j+1):=fH;refine Ev.cf (decide_eq_false (by omega)) (Ev.chk (by omega) (Ev.chk (by omega) (Ev.chk (by omega) (Ev.chk (by omega) ?_))));have key:∀(b:Bool) (nm:List aO),DW inner (F5 p)=some (aj.mk inner.Kind 0 [] nm (xG inner.Kids j))->Ev (λf=>G.kz.K1 f n p (inner,b) (xG inner.Kids j) nm) (oK ((DW inner (F5 p)).bind λm'=>OM n (Du p) m')):=by intro b nm e;refine Ev.up ?_;simp only[G.kz.K1];rw[I4 hp0 hp,ai,e,gz];exact Ev.chk (by omega) (Ev.bind (T.oU (by omega) (abj hi e) (Du p) hil h) (Ev.ret _))
      refine Ev.ite (λe4=>?_) (λe4=>?_)
      ·have h4:inner.Kind=4:=(by simpa using e4);have hm:=hi.map h4;have ht2:(inner.Names.take j).length=j:=(by rw[dZ];omega);have hd2:(inner.Names.drop (j+1)).length=inner.Names.length-(j+1):=fH;refine Ev.chk (by omega) (Ev.chk (by omega) (Ev.chk (by omega) (Ev.chk (by omega) ?_)));exact key true (xG inner.Names j) (by unfold DW;rw[hj];simp[h4])
      ·have h4:¬inner.Kind=4:=(by simpa using e4);exact key true [] (by unfold DW;rw[hj];simp[h4])
theorem VV {B:Nat}(hB:B<=lim){p:List aO}(hl:p.length<=B)(hs:∀s,s∈p->s.length<=B):Sm p:=by unfold lim at hB;exact⟨by unfold big;omega,λs h=>by have:=hs s h;unfold big;omega⟩
def wM (B:Nat)(p:List aO):Prop:=p.length<=B/\∀s,s∈p->s.length<=B
theorem wM.sm {B:Nat}(hB:B<=lim){p:List aO}(h:wM B p):Sm p:=VV hB h.1 h.2
theorem uU {p:List aO}(h:PP p=true):wM 12 p:=by unfold PP at h;simp only[ah,decide_eq_true_eq]at h;exact⟨by omega,λs hs=>Qr (bg.1 h.1 s hs)⟩
def UO (n:aj)(p:List aO)(v:aj):Option aj:=if Val n&&PP p&&Val v then(Bc n p v).filter Val else none
def aaS (n:aj)(p:List aO):Option aj:=if Val n&&PP p then BV n p else none
def ady (n:aj)(p:List aO)(v:aj):Option aj:=if Val n&&PP p&&Val v then(OM n p v).filter Val else none
def AtM (n:aj)(p:List aO):Option aj:=if Val n&&PP p then IK n p else none
theorem MM {n m:aj}{p:List aO}(h:Val n=true)(e:BV n p=some m):Val m=true:=by
 unfold BV at e;split at e
 ·cases e
 ·obtain⟨h1,h2⟩:=RF (Z8 (F5 p)) (Du p) (lF h) e;exact acR (au _) h1 (ig h2 (YI h))
theorem Nr {n m:aj}{p:List aO}(h:Val n=true)(e:IK n p=some m):Val m=true:=by obtain⟨h1,h2⟩:=U4 p (lF h) e;exact acR (au _) h1 (ig h2 (YI h))
theorem T.LV {B E:Nat}{v:aj}(p:List aO)(k:Nat)(hB:B<=lim)(hv:Fine B E v)(hk:k<p.length) :
 ∀(q:List aO) {d:Nat} {n:aj},Shape d n=true->Ev (λf=>G.jv f n q p (k:Int) v) (oK (E5 (λm=>addN m (p.getD k default) v) n q)):=by
 refine T.change (F:=λf a q=>G.jv f a q p (k:Int) v) (C:=λf a=>G.sO f a p (k:Int) v) (λn a q=>by simp only[G.jv]) (λd m hm=>?_);refine Ev.up ?_;simp only[G.sO];refine Ev.chk (by omega) (Ev.bind (T.lu _ hB hv hm) (Ev.ret' ?_));rw[ai]
theorem T.LX {B E:Nat}{v:aj}(hB:B<=lim)(hv:Fine B E v) :
 ∀(q:List aO) {d:Nat} {n:aj},Shape d n=true->Ev (λf=>G.jy f n q v) (oK (OM n q v)):=by
 refine T.change (F:=λf a q=>G.jy f a q v) (C:=λf a=>G.sQ f a v) (λn a q=>by simp only[G.jy]) (λd m hm=>?_);refine Ev.up ?_;simp only[G.sQ];exact Ev.bind (T.aP hB hv) (Ev.ret _)
theorem T.jf {d:Nat}{n:aj}(p:List aO)(k:Nat)(hk:k<p.length)(h:Shape d n=true):Ev (λf=>G.jf f n p (k:Int)) (oK (DW n (p.getD k default))):=by
 cases d with
 |zero=>cases h
 |succ d=>
 have hp:=kL h;have hl:=NY hp;obtain⟨w,b,g,h1,h2⟩:=T.gQ (p.getD k default) hp;refine Ev.up ?_;simp only[G.jf,ai];refine Ev.chk (by omega) (Ev.bind g ?_);unfold DW;cases hj:D9 n (p.getD k default)with
 |none=>exact Ev.cf (h2 hj) (Ev.ret _)
 | some j=>
   have hjl:=yL hj;obtain⟨rfl,rfl⟩:=h1 j hj;have d1:Ev (λf=>G.jH f n.Kids (j:Int) ((j+1:Nat):Int)) (xG n.Kids j):=by refine Ev.up ?_;simp only[G.jH,ai];exact Ev.chk (by omega) (Ev.ret _)
   have hK:∀nm,n.Num=0->n.Text=[]->Ev (λf=>G.jf.K1 f ((j:Int),true) n nm) (aj.mk n.Kind 0 [] nm (xG n.Kids j),true):=by intro nm e1 e2;refine Ev.up ?_;simp only[G.jf.K1,dA (show j+1<9223372036854775808 by omega)];exact Ev.bind d1 (Ev.ret' (by rw[e1,e2]))
   refine Ev.ct rfl (Ev.bind (T.aP Bh (yx h)) ?_);by_cases h4:n.Kind=4
   ·obtain⟨e1,e2,_,hnl,hkl⟩:=xH hp h4;have d2:Ev (λf=>G.slices_Delete_string f n.Names (j:Int) ((j+1:Nat):Int)) (xG n.Names j):=by
     refine Ev.up ?_;simp only[G.slices_Delete_string,ai];exact Ev.chk (by omega) (Ev.ret _)
    refine Ev.ct (by simpa using h4) ?_;simp only[dA (show j+1<9223372036854775808 by omega)];refine Ev.bind d2 ((hK _ e1 e2).eq ?_);simp[h4,oK]
   ·by_cases h3:n.Kind=3
    ·obtain⟨e1,e2,e3,_⟩:=Df hp h3;refine Ev.cf (by simpa using h4) ((hK _ e1 e2).eq ?_);simp[h4,oK,e3]
    ·have:=JC hj;rw[GL h4 h3]at this;cases this
theorem T.LW (p:List aO)(k:Nat)(hk:k<p.length) :
 ∀(q:List aO) {d:Nat} {n:aj},Shape d n=true->Ev (λf=>G.iQ f n q p (k:Int)) (oK (E5 (λm=>DW m (p.getD k default)) n q)):=
 T.change (F:=λf a q=>G.iQ f a q p (k:Int)) (C:=λf a=>G.jf f a p (k:Int)) (λn a q=>by simp only[G.iQ]) (λd m hm=>T.jf p k hk hm)
theorem T.nX {B D E:Nat}{n v:aj}{p:List aO}(hB:B+2<lim)(h:Fine B D n)(hp:wM B p)(hv:Fine B E v):Ev (λf=>G.nX f n p v) (oK (UO n p v)):=by
 have hsm:=hp.sm (by omega);refine Ev.up ?_;simp only[G.nX];unfold UO;refine Ev.bind (T.aX (by omega) h) (Ev.ite (λe1=>?_) (λe1=>Ev.ret' (by rw[e1];rfl)));refine Ev.bind (T.iI p hsm) (Ev.ite (λe2=>?_) (λe2=>Ev.ret' (by rw[e1,e2];rfl)));refine Ev.bind (T.aX (by omega) hv) (Ev.ite (λe3=>?_) (λe3=>Ev.ret' (by rw[e1,e2,e3];rfl)));rw[e1,e2,e3,if_pos (by rfl)];by_cases hp0:p=[]
 ·subst hp0;refine Ev.ct rfl (Ev.bind (T.aP (by omega) hv) (Ev.ret' ?_));unfold Bc;simp[oH,e3,oK]
 ·have hpos:0<p.length:=mZ.2 hp0;simp only[I4 hp0 hsm.1,ai];refine Ev.cf (by simpa using hp0) (Ev.chk (by omega) ?_);have hc:=T.LV p (p.length-1) (by omega) hv (by omega) (Du p) (lF e1);refine Ev.bind hc ?_;have hA:Bc n p v=E5 (λm=>addN m (p.getD (p.length-1) default) v) n (Du p):=by unfold Bc;rw[if_neg hp0];rfl
  rw[<- hA];exact Ev.bind (T.mX (o:=Bc n p v) (B:=B+1) (by omega) (λm hm=>P8 h hv hp.2 hm)) (Ev.ret _)
theorem T.tY {B D E:Nat}{n v:aj}{p:List aO}(hB:B+2<lim)(h:Fine B D n)(hp:wM B p)(hv:Fine B E v):Ev (λf=>G.tY f n p v) (oK (ady n p v)):=by have hsm:=hp.sm (by omega);refine Ev.up ?_;simp only[G.tY];unfold ady;refine Ev.bind (T.aX (by omega) h) (Ev.ite (λe1=>?_) (λe1=>Ev.ret' (by rw[e1];rfl)));refine Ev.bind (T.iI p hsm) (Ev.ite (λe2=>?_) (λe2=>Ev.ret' (by rw[e1,e2];rfl)));refine Ev.bind (T.aX (by omega) hv) (Ev.ite (λe3=>?_) (λe3=>Ev.ret' (by rw[e1,e2,e3];rfl)));rw[e1,e2,e3,if_pos (by rfl)];refine Ev.bind (T.LX (by omega) hv p (lF e1)) ?_;exact Ev.bind (T.mX (B:=B) (by omega) (λm hm=>NH h hv hm)) (Ev.ret _)
theorem T.lQ {B D:Nat}{n:aj}{p:List aO}(hB:B+2<lim)(h:Fine B D n)(hp:wM B p):Ev (λf=>G.lQ f n p) (oK (aaS n p)):=by
 have hsm:=hp.sm (by omega);refine Ev.up ?_;simp only[G.lQ];unfold aaS;refine Ev.bind (T.aX (by omega) h) (Ev.ite (λe1=>?_) (λe1=>Ev.ret' (by rw[e1];rfl)));refine Ev.bind (T.iI p hsm) (Ev.ite (λe2=>?_) (λe2=>Ev.ret' (by rw[e1,e2];rfl)));rw[e1,e2,if_pos (by rfl)];by_cases hp0:p=[]
 ·subst hp0;exact Ev.ct rfl (Ev.ret _)
 ·have hpos:0<p.length:=mZ.2 hp0;simp only[I4 hp0 hsm.1,ai];refine Ev.cf (by simpa using hp0) (Ev.chk (by omega) ?_);have hA:BV n p=E5 (λm=>DW m (p.getD (p.length-1) default)) n (Du p):=by unfold BV;rw[if_neg hp0];rfl
  rw[hA];exact Ev.bind (T.LW p (p.length-1) (by omega) (Du p) (lF e1)) (Ev.ret _)
theorem T.rZ {B D:Nat}{n:aj}{p:List aO}(hB:B+2<lim)(h:Fine B D n)(hp:wM B p):Ev (λf=>G.rZ f n p) (oK (AtM n p)):=by
 have hsm:=hp.sm (by omega);refine Ev.up ?_;simp only[G.rZ];unfold AtM;refine Ev.bind (T.aX (by omega) h) (Ev.ite (λe1=>?_) (λe1=>Ev.ret' (by rw[e1];rfl)));refine Ev.bind (T.iI p hsm) (Ev.ite (λe2=>?_) (λe2=>Ev.ret' (by rw[e1,e2];rfl)));rw[e1,e2,if_pos (by rfl)];refine Ev.bind (T.jR p hsm.1 (lF e1)) ?_;cases ha:IK n p with
 |none=>exact Ev.cf rfl (Ev.ret _)
 |some m=>exact Ev.ct rfl (Ev.bind (T.aP (by omega) (LG p h ha)) (Ev.ret _))
theorem T.slices_Equal_string.L1 {a b:List aO}(hl:a.length=b.length)(hb:a.length<big):∀(k i:Nat),i+k=a.length->Ev (λf=>G.slices_Equal_string.L1 f a b i) (decide (a.drop i=b.drop i)):=by
 unfold big at hb;intro k
 induction k with
 | zero=>intro i hi;refine Ev.up ?_;simp only[G.slices_Equal_string.L1];refine Ev.cf (by simp;omega) (Ev.ret' ?_);rw[ak (by omega),ak (by omega)];rfl
 | succ k ih=>
   intro i hi;refine Ev.up ?_;simp only[G.slices_Equal_string.L1,ai,dA (show i+1<9223372036854775808 by omega)];refine Ev.ct (by simp;omega) (Ev.chk (by omega) (Ev.chk (by omega) ?_));rw[dI (default:aO) (by omega:i<a.length),dI (default:aO) (by omega:i<b.length)];refine Ev.ite (λe=>(ih (i+1) (by omega)).eq ?_) (λe=>Ev.ret' ?_)
   ·rw[beq_iff_eq]at e;apply decide_eq_decide.2;rw[vX];exact⟨λh=>⟨e,h⟩,λh=>h.2⟩
   ·have e:a.getD i default≠b.getD i default:=by simpa using e
    symm
    apply decide_eq_false;rw[vX];exact λh=>e h.1
theorem T.slices_Equal_string {a b:List aO}(hb:a.length<big):Ev (λf=>G.slices_Equal_string f a b) (decide (a=b)):=by
 refine Ev.up ?_;simp only[G.slices_Equal_string];by_cases h:a.length=b.length
 ·exact Ev.cf (by simp;omega) (T.slices_Equal_string.L1 h hb a.length 0 (by omega))
 ·refine Ev.ct (by simp;omega) (Ev.ret' ?_)
  symm
  exact decide_eq_false (λe=>h (by rw[e]))
def Rf (n:aj)(o p:List aO)(t:aj):Option aj:=if o <+: p then(if p.length=o.length then some n else none)else(BV n o).bind λless=>Bc less p t
theorem VW {o p:List aO}(h:o.length<=p.length):p.take o.length=o<->o <+: p:=by rw[List.prefix_iff_eq_take,eq_comm]
def adq (n:aj)(o p:List aO):Option aj:=if Val n&&PP o&&PP p then(IK n o).bind λt=>(Rf n o p t).filter Val else none
theorem T.rW {n:aj}{o p:List aO}(h:Val n=true)(ho:PP o=true)(hp:PP p=true):Ev (λf=>G.rW f n o p) (oK (adq n o p)):=by
 have hb:(12:Nat)+2<lim:=by decide
 have fo:=uU ho;have fp:=uU hp;have so:=fo.sm (by decide);have sp:=fp.sm (by decide);refine Ev.up ?_;simp only[G.rW];unfold adq;rw[h,ho,hp,if_pos (by rfl)];refine Ev.bind (T.rZ hb (nU h) fo) ?_;unfold AtM;rw[h,ho,if_pos (by rfl)];cases ha:IK n o with
 |none=>exact Ev.cf rfl (Ev.ret _)
 | some t=>
   have hvt:=Nr h ha;refine Ev.ct rfl ?_;rw[gz];have mv:¬o <+: p->Ev (λf=>jc (G.lQ f n o) λv5=>cond v5.2 (jc (G.nX f v5.1 p t) λv6=>some (v6.1,v6.2)) (some ((aj.mk 0 0 [] [] []),false))) (oK ((Rf n o p t).filter Val)):=by
    intro hn;unfold Rf;rw[if_neg hn];refine Ev.bind (T.lQ hb (nU h) fo) ?_;unfold aaS;rw[h,ho,if_pos (by rfl)];cases hr:BV n o with
    |none=>exact Ev.cf rfl (Ev.ret _)
    | some less=>have hvl:=MM h hr;have hA:=T.nX (n:=less) hb (nU hvl) fp (nU hvt);have e:UO less p t=(Bc less p t).filter Val:=(by unfold UO;rw[hvl,hp,hvt,if_pos (by rfl)]);rw[e]at hA;exact Ev.ct rfl (Ev.bind hA (Ev.ret _))
   refine Ev.bind (T.slices_Equal_string sp.1) (Ev.ite (λe=>?_) (λe=>?_))
   ·rw[decide_eq_true_eq]at e;subst e;refine Ev.bind (T.aP Bh (nU h)) (Ev.ret' ?_);unfold Rf;rw[if_pos (List.prefix_refl _),if_pos rfl];simp[oH,h,oK]
   ·have hne:p≠o:=(by simpa using e);refine Ev.ite (λe2=>?_) (λe2=>?_)
    ·have hlt:o.length<p.length:=(by simpa using e2);refine Ev.chk (by omega) (Ev.bind (T.slices_Equal_string (a:=p.take o.length) (by rw[dZ];have:=sp.1;omega)) (Ev.ite (λe3=>Ev.ret' ?_) (λe3=>?_)))
     ·rw[decide_eq_true_eq,VW (by omega)]at e3;unfold Rf;rw[if_pos e3,if_neg (by omega)];rfl
     ·rw[decide_eq_false_iff_not,VW (by omega)]at e3;exact mv e3
    ·have hge:¬o.length<p.length:=(by simpa using e2);refine mv λhpre=>?_;have h1:=hpre.length_le;exact hne (hpre.eq_of_length (by omega)).symm
theorem T.nC.L1 {p w:List aO}(hp:p.length<big)(hw:w.length<big):∀(k i:Nat),i+k=w.length->Ev (λf=>G.nC.L1 f p w i) (decide (w.drop i <+: p.drop i)):=by
 unfold big at hp hw;intro k
 induction k with
 | zero=>
   intro i hi;refine Ev.up ?_;simp only[G.nC.L1];refine Ev.cf (by simp;omega) (Ev.ret' ?_);rw[ak (by omega:w.length<=i)]
   symm
   exact decide_eq_true (List.nil_prefix)
 | succ k ih=>
   intro i hi;refine Ev.up ?_;simp only[G.nC.L1,ai,dA (show i+1<9223372036854775808 by omega)];refine Ev.ct (by simp;omega) ?_;rw[dI (default:aO) (by omega:i<w.length)];by_cases hpi:p.length<=i
   ·refine Ev.ct (by simpa using hpi) (Ev.ret' ?_);rw[ak hpi]
    symm
    exact decide_eq_false (by simp)
   ·refine Ev.cf (by simpa using hpi) (Ev.chk (by omega) (Ev.chk (by omega) ?_));rw[dI (default:aO) (by omega:i<p.length)];refine Ev.ite (λe=>(ih (i+1) (by omega)).eq ?_) (λe=>Ev.ret' ?_)
    ·rw[beq_iff_eq]at e;apply decide_eq_decide.2;rw[AX];exact⟨λh=>⟨e.symm,h⟩,λh=>h.2⟩
    ·have e:p.getD i default≠w.getD i default:=by simpa using e
     symm
     apply decide_eq_false;rw[AX];exact λh=>e h.1.symm
theorem T.nC {p w:List aO}(hp:p.length<big)(hw:w.length<big):Ev (λf=>G.nC f p w) (decide (w <+: p)):=by refine Ev.up ?_;simp only[G.nC];exact T.nC.L1 hp hw w.length 0 (by omega)
open Classical in
noncomputable def applyN (n:aj)(o:oh):Option aj:=
 if o.Kind=1 then Bc n o.Path o.Value else if o.Kind=2 then BV n o.Path else if o.Kind=3 then OM n o.Path o.Value
 else(IK n (if o.Kind=6 then o.Path else o.From)).bind λt=>if o.Kind=6 then(if t=o.Value then some n else none)else if o.Kind=5 then Bc n o.Path t else Rf n o.From o.Path t
def JS (o:oh):Bool:=(decide (1<=o.Kind)&&decide (o.Kind<=6))&&PP o.Path&&PP o.From&&Val o.Value
noncomputable def Eh (n:aj)(o:oh):Option aj:=if Val n&&JS o then(applyN n o).filter Val else none
def Said (q:aj×Bool)(o:Option aj):Prop:=(q.2=true->o=some q.1)/\(q.2=false->o=none)
theorem G5 (o:Option aj):Said (oK o) o:=by
 cases o with
 |none=>exact⟨λe=>(by cases e),λ_=>rfl⟩
 |some m=>exact⟨λ_=>rfl,λe=>(by cases e)⟩
structure Jp (o:oh):Prop where
 k1:1<=o.Kind
 k6:o.Kind<=6
 path:PP o.Path=true
 from_:PP o.From=true
 val:Val o.Value=true
theorem uN {o:oh}(h:JS o=true):Jp o:=by unfold JS at h;simp only[ah,decide_eq_true_eq]at h;exact⟨h.1.1.1.1,h.1.1.1.2,h.1.1.2,h.1.2,h.2⟩
theorem abr : (12:Nat)+1<lim:=by decide
theorem Zu : (12:Nat)+2<lim:=by decide
theorem T.kV.K1 {n:aj}{o:oh}(h:Val n=true)(ho:Jp o)(fr:List aO)(hf:PP fr=true)(h6:fr=if o.Kind=6 then o.Path else o.From)(hk:o.Kind≠1/\o.Kind≠2/\o.Kind≠3) :
 ∃q,Ev (λf=>G.kV.K1 f n o fr) q/\Said q (applyN n o):=by
 have sp:=(uU ho.path).sm (by decide);have sf:=(uU ho.from_).sm (by decide);have sr:=(uU hf).sm (by decide);have hn:=nU h;have hat:=T.sG fr (by decide) sr.1 hn;have hN:applyN n o=(IK n fr).bind λt=>@ite _ (o.Kind=6) _ (@ite _ (t=o.Value) (Classical.propDecidable _) (some n) none) (if o.Kind=5 then Bc n o.Path t else Rf n o.From o.Path t):=by unfold applyN;rw[if_neg hk.1,if_neg hk.2.1,if_neg hk.2.2,h6]
 rw[hN];cases ha:IK n fr with
 | none=>
   rw[ha]at hat
   refine⟨(vJ,false),Ev.up ?_,⟨λe=>(by cases e),λ_=>rfl⟩⟩;simp only[G.kV.K1];exact Ev.bind hat (Ev.cf rfl (Ev.ret _))
 | some t=>
   rw[ha]at hat
   have ht:=nU (Nr h ha);rw[gz];by_cases k6:o.Kind=6
   ·obtain⟨v,gs,hv⟩:=T.vz (lF (Nr h ha)) (lF ho.val);refine⟨(n,v),Ev.up ?_,?_⟩
    ·simp only[G.kV.K1];exact Ev.bind hat (Ev.ct rfl (Ev.ct (by simpa using k6) (Ev.bind gs (Ev.ret _))))
    ·rw[if_pos k6];refine⟨λe=>if_pos (hv.1 e),λe=>if_neg λe2=>?_⟩;have:=hv.2 e2;rw[show v=false from e]at this;cases this
   ·rw[if_neg k6];by_cases k5:o.Kind=5
    ·rw[if_pos k5];refine⟨_,Ev.up ?_,G5 _⟩;simp only[G.kV.K1];exact Ev.bind hat (Ev.ct rfl (Ev.cf (by simpa using k6) (Ev.ct (by simpa using k5) (Ev.bind (T.tK o.Path abr sp.1 (uU ho.path).2 hn ht) (Ev.ret _)))))
    ·rw[if_neg k5];unfold Rf;have hbg:=T.nC sp.1 sf.1;by_cases hpre:o.From <+: o.Path
     ·rw[if_pos hpre];refine⟨(n,(o.Path.length:Int)==(o.From.length:Int)),Ev.up ?_,?_⟩
      ·simp only[G.kV.K1];exact Ev.bind hat (Ev.ct rfl (Ev.cf (by simpa using k6) (Ev.cf (by simpa using k5) (Ev.bind hbg (Ev.ct (by simpa using hpre) (Ev.bind (T.aY Bh hn) (Ev.ret _)))))))
      ·rw[ilen];refine⟨λe=>if_pos (by simpa using e),λe=>if_neg (by simpa using e)⟩
     ·rw[if_neg hpre];have hr:=T.kz (n:=n) o.From abr sf.1 hn;cases hre:BV n o.From with
      | none=>rw[hre]at hr;refine⟨(vJ,false),Ev.up ?_,⟨λe=>(by cases e),λ_=>rfl⟩⟩;simp only[G.kV.K1];exact Ev.bind hat (Ev.ct rfl (Ev.cf (by simpa using k6) (Ev.cf (by simpa using k5) (Ev.bind hbg (Ev.cf (by simpa using hpre) (Ev.bind hr (Ev.cf rfl (Ev.ret _))))))))
      | some less=>rw[hre]at hr;have hl:=nU (MM h hre);refine⟨_,Ev.up ?_,G5 _⟩;simp only[G.kV.K1];exact Ev.bind hat (Ev.ct rfl (Ev.cf (by simpa using k6) (Ev.cf (by simpa using k5) (Ev.bind hbg (Ev.cf (by simpa using hpre) (Ev.bind hr (Ev.ct rfl (Ev.bind (T.tK (n:=less) o.Path abr sp.1 (uU ho.path).2 hl ht) (Ev.ret _)))))))))
theorem T.kV {n:aj}{o:oh}(h:Val n=true)(ho:Jp o):∃q,Ev (λf=>G.kV f n o) q/\Said q (applyN n o):=by
 have sp:=(uU ho.path).sm (by decide);have hn:=nU h;by_cases k1:o.Kind=1
 ·refine⟨_,Ev.up ?_,G5 _⟩;simp only[G.kV];refine Ev.ct (by simpa using k1) ?_;have:applyN n o=Bc n o.Path o.Value:=by unfold applyN;rw[if_pos k1]
  rw[this];exact Ev.bind (T.tK o.Path abr sp.1 (uU ho.path).2 hn (nU ho.val)) (Ev.ret _)
 by_cases k2:o.Kind=2
 ·refine⟨_,Ev.up ?_,G5 _⟩;simp only[G.kV];refine Ev.cf (by simpa using k1) (Ev.ct (by simpa using k2) ?_);have:applyN n o=BV n o.Path:=by unfold applyN;rw[if_neg k1,if_pos k2]
  rw[this];exact Ev.bind (T.kz o.Path abr sp.1 hn) (Ev.ret _)
 by_cases k3:o.Kind=3
 ·refine⟨_,Ev.up ?_,G5 _⟩;simp only[G.kV];refine Ev.cf (by simpa using k1) (Ev.cf (by simpa using k2) (Ev.ct (by simpa using k3) ?_));have:applyN n o=OM n o.Path o.Value:=by unfold applyN;rw[if_neg k1,if_neg k2,if_pos k3]
  rw[this];exact Ev.bind (T.oU (by decide) (nU ho.val) o.Path sp.1 hn) (Ev.ret _)
 by_cases k6:o.Kind=6
 ·obtain⟨q,g,hq⟩:=T.kV.K1 h ho o.Path ho.path (by rw[if_pos k6]) ⟨k1,k2,k3⟩;refine⟨q,Ev.up ?_,hq⟩;simp only[G.kV];exact Ev.cf (by simpa using k1) (Ev.cf (by simpa using k2) (Ev.cf (by simpa using k3) (Ev.ct (by simpa using k6) g)))
 ·obtain⟨q,g,hq⟩:=T.kV.K1 h ho o.From ho.from_ (by rw[if_neg k6]) ⟨k1,k2,k3⟩;refine⟨q,Ev.up ?_,hq⟩;simp only[G.kV];exact Ev.cf (by simpa using k1) (Ev.cf (by simpa using k2) (Ev.cf (by simpa using k3) (Ev.cf (by simpa using k6) g)))
theorem NG {n v m:aj}{p:List aO}(hn:Val n=true)(hv:Val v=true)(hp:PP p=true)(e:Bc n p v=some m):Fine 13 15 m:=
 P8 (nU hn) (nU hv) (uU hp).2 e
theorem Xr {n m:aj}{o:oh}(h:Val n=true)(ho:Jp o)(e:applyN n o=some m):Fine 13 15 m:=by
 unfold applyN at e;by_cases k1:o.Kind=1
 ·rw[if_pos k1]at e;exact NG h ho.val ho.path e
 rw[if_neg k1]at e;by_cases k2:o.Kind=2
 ·rw[if_pos k2]at e;exact(nU (MM h e)).mono (by omega) (by omega)
 rw[if_neg k2]at e;by_cases k3:o.Kind=3
 ·rw[if_pos k3]at e;exact(NH (nU h) (nU ho.val) e).mono (by omega) (by omega)
 rw[if_neg k3]at e;cases ha:IK n (if o.Kind=6 then o.Path else o.From)with
 |none=>rw[ha]at e;cases e
 | some t=>
   have ht:=Nr h ha;rw[ha,gz]at e;by_cases k6:o.Kind=6
   ·rw[if_pos k6]at e;split at e
    ·cases e;exact(nU h).mono (by omega) (by omega)
    ·cases e
   rw[if_neg k6]at e;by_cases k5:o.Kind=5
   ·rw[if_pos k5]at e;exact NG h ht ho.path e
   rw[if_neg k5]at e;unfold Rf at e;split at e
   ·split at e
    ·cases e;exact(nU h).mono (by omega) (by omega)
    ·cases e
   ·cases hr:BV n o.From with
    |none=>rw[hr]at e;cases e
    |some less=>rw[hr,gz]at e;exact NG (MM h hr) ht ho.path e
theorem T.QD {B D:Nat}{q:aj×Bool}{o:Option aj}(hB:B<=lim)(hq:Said q o)(h:∀m,o=some m->Fine B D m):Ev (λf=>G.o9 f q.1 q.2) (oK (o.filter Val)):=by
 obtain⟨m,b⟩:=q;cases b with
 | false=>rw[hq.2 rfl];refine Ev.up ?_;simp only[G.o9];exact Ev.cf rfl (Ev.ret _)
 | true=>have e:=hq.1 rfl;subst e;exact T.o9 (o:=some m) hB h
theorem T.pJ {n:aj}{o:oh}(h:Val n=true)(ho:Jp o):Ev (λf=>G.pJ f n o) (oK ((applyN n o).filter Val)):=by
 obtain⟨q,g,hq⟩:=T.kV h ho;have hc:=T.QD (B:=13) (D:=15) (by decide) hq (λm hm=>Xr h ho hm);refine Ev.up ?_;simp only[G.pJ];refine Ev.bind g (Ev.bind hc ?_);cases hm:(applyN n o).filter Val with
 |none=>exact Ev.cf rfl (Ev.ret _)
 | some m=>
   have hv:Val m=true:=by have:=vZ.1 hm;exact this.2
   exact Ev.ct rfl (Ev.bind (T.aY Bh (nU hv)) (Ev.ret _))
structure Oj (B D:Nat)(o:oh):Prop where
 path:wM B o.Path
 from_:wM B o.From
 val:Fine B D o.Value
theorem T.nY {B D:Nat}{o:oh}(hB:B<=lim)(h:Oj B D o):Ev (λf=>G.nY f o) (JS o):=by refine Ev.up ?_;simp only[G.nY];unfold JS;refine Ev.bind (T.fP _ _ _) (Ev.ite (λe1=>?_) (λe1=>Ev.ret' (by rw[e1];rfl)));refine Ev.bind (T.jk _ (h.path.sm hB)) (Ev.ite (λe2=>?_) (λe2=>Ev.ret' (by rw[e1,e2];rfl)));refine Ev.bind (T.jk _ (h.from_.sm hB)) (Ev.ite (λe3=>?_) (λe3=>Ev.ret' (by rw[e1,e2,e3];rfl)));exact Ev.bind (T.eG hB h.val) (Ev.ret' (by rw[e1,e2,e3];rfl))
theorem T.rq {B D:Nat}{o:oh}(hB:B<=lim)(h:Oj B D o):Ev (λf=>G.rq f o) (JS o):=by refine Ev.up ?_;simp only[G.rq];unfold JS;refine Ev.ite (λe0=>?_) (λe0=>Ev.ret' (by rw[e0];rfl));refine Ev.ite (λe1=>?_) (λe1=>Ev.ret' (by rw[e0,e1];rfl));refine Ev.bind (T.iI _ (h.path.sm hB)) (Ev.ite (λe2=>?_) (λe2=>Ev.ret' (by rw[e0,e1,e2];rfl)));refine Ev.bind (T.iI _ (h.from_.sm hB)) (Ev.ite (λe3=>?_) (λe3=>Ev.ret' (by rw[e0,e1,e2,e3];rfl)));exact Ev.bind (T.aX hB h.val) (Ev.ret' (by rw[e0,e1,e2,e3];rfl))
theorem T.qg {n v:aj}{p:List aO}(h:Val n=true)(hp:PP p=true)(hv:Val v=true) :
 ∃o,Ev (λf=>G.qg f n p v) (oK o)/\(∀t,IK n p=some t->t=v->o=some n)/\(∀t,IK n p=some t->t≠v->o=none)/\(IK n p=none->o=none):=by
 have sp:=(uU hp).sm (by decide);have hf:=T.jR p sp.1 (lF h);cases ha:IK n p with
 | none=>rw[ha]at hf;refine⟨none,Ev.up ?_,(λt e=>by cases e),(λt e=>by cases e),λ_=>rfl⟩;simp only[G.qg];exact Ev.bind hf (Ev.cf rfl (Ev.ret _))
 | some t=>
   rw[ha]at hf;obtain⟨b,gs,hb⟩:=T.rX (lF (Nr h ha)) (lF hv);cases b with
   | true=>
     refine⟨some n,Ev.up ?_,λt' _ _=>rfl,λt' e hne=>?_,(λe=>by cases e)⟩
     ·simp only[G.qg];exact Ev.bind hf (Ev.ct rfl (Ev.bind gs (Ev.ct rfl (Ev.bind (T.aP Bh (nU h)) (Ev.ret _)))))
     ·cases e;exact absurd (hb.1 rfl) hne
   | false=>
     refine⟨none,Ev.up ?_,λt' e he=>?_,λt' _ _=>rfl,(λe=>by cases e)⟩
     ·simp only[G.qg];exact Ev.bind hf (Ev.ct rfl (Ev.bind gs (Ev.cf rfl (Ev.ret _))))
     ·cases e;have:=hb.2 he;cases this
theorem Oq {n:aj}(h:Val n=true):(some n).filter Val=some n:=by simp[oH,h]
theorem T.tN {B D:Nat}{n:aj}{o:oh}(hB:B+2<lim)(h:Fine B D n)(ho:Oj B D o):Ev (λf=>G.tN f n o) (oK (Eh n o)):=by
 refine Ev.up ?_;simp only[G.tN];unfold Eh;refine Ev.bind (T.aX (by omega) h) (Ev.ite (λe1=>?_) (λe1=>Ev.ret' (by rw[e1];rfl)));refine Ev.bind (T.rq (by omega) ho) (Ev.ite (λe2=>?_) (λe2=>Ev.ret' (by rw[e1,e2];rfl)));rw[e1,e2,if_pos (by rfl)];have fo:=uN e2;have hn:=nU e1;by_cases k1:o.Kind=1
 ·refine Ev.ct (by simpa using k1) ?_;have e:UO n o.Path o.Value=(applyN n o).filter Val:=by unfold UO applyN;rw[e1,fo.path,fo.val,if_pos (by rfl),if_pos k1]
  rw[<- e];exact Ev.bind (T.nX Zu hn (uU fo.path) (nU fo.val)) (Ev.ret _)
 refine Ev.cf (by simpa using k1) ?_;by_cases k2:o.Kind=2
 ·refine Ev.ct (by simpa using k2) ?_;have e:aaS n o.Path=(applyN n o).filter Val:=by
   unfold aaS applyN;rw[e1,fo.path,if_pos (by rfl),if_neg k1,if_pos k2];cases hr:BV n o.Path with
   |none=>rfl
   |some m=>exact(Oq (MM e1 hr)).symm
  rw[<- e];exact Ev.bind (T.lQ Zu hn (uU fo.path)) (Ev.ret _)
 refine Ev.cf (by simpa using k2) ?_;by_cases k3:o.Kind=3
 ·refine Ev.ct (by simpa using k3) ?_;have e:ady n o.Path o.Value=(applyN n o).filter Val:=by unfold ady applyN;rw[e1,fo.path,fo.val,if_pos (by rfl),if_neg k1,if_neg k2,if_pos k3]
  rw[<- e];exact Ev.bind (T.tY Zu hn (uU fo.path) (nU fo.val)) (Ev.ret _)
 refine Ev.cf (by simpa using k3) ?_;have hN:applyN n o=(IK n (if o.Kind=6 then o.Path else o.From)).bind λt=>@ite _ (o.Kind=6) _ (@ite _ (t=o.Value) (Classical.propDecidable _) (some n) none) (if o.Kind=5 then Bc n o.Path t else Rf n o.From o.Path t):=by unfold applyN;rw[if_neg k1,if_neg k2,if_neg k3]
 by_cases k4:o.Kind=4
 ·refine Ev.ct (by simpa using k4) ?_;have k6:¬o.Kind=6:=by omega
  have k5:¬o.Kind=5:=by omega
  have e:adq n o.From o.Path=(applyN n o).filter Val:=by
   unfold adq;rw[e1,fo.path,fo.from_,if_pos (by rfl),hN,if_neg k6];cases ha:IK n o.From with
   |none=>rfl
   |some t=>simp only[gz,if_neg k6,if_neg k5]
  rw[<- e];exact Ev.bind (T.rW e1 fo.from_ fo.path) (Ev.ret _)
 refine Ev.cf (by simpa using k4) ?_;by_cases k5:o.Kind=5
 ·refine Ev.ct (by simpa using k5) ?_;have k6:¬o.Kind=6:=by omega
  refine Ev.bind (T.rZ Zu hn (uU fo.from_)) ?_;have eA:AtM n o.From=IK n o.From:=by unfold AtM;rw[e1,fo.from_,if_pos (by rfl)]
  rw[eA,hN,if_neg k6];cases ha:IK n o.From with
  |none=>exact Ev.cf rfl (Ev.ret _)
  | some t=>have ht:=Nr e1 ha;have hA:=T.nX (v:=t) Zu hn (uU fo.path) (nU ht);have e:UO n o.Path t=(Bc n o.Path t).filter Val:=(by unfold UO;rw[e1,fo.path,ht,if_pos (by rfl)]);rw[e]at hA;simp only[gz,if_neg k6,if_pos k5];exact Ev.ct rfl (Ev.bind hA (Ev.ret _))
 refine Ev.cf (by simpa using k5) ?_;have k6:o.Kind=6:=by have:=fo.k1;have:=fo.k6;omega
 obtain⟨q,g,h1,h2,h3⟩:=T.qg e1 fo.path fo.val;refine(show Ev _ (oK q)from Ev.bind g (Ev.ret _)).eq (congrArg oK ?_);rw[hN,if_pos k6];cases ha:IK n o.Path with
 |none=>rw[h3 ha];rfl
 | some t=>
   simp only[gz,if_pos k6];by_cases ht:t=o.Value
   ·rw[h1 t ha ht,if_pos ht,Oq e1]
   ·rw[h2 t ha ht,if_neg ht];rfl
theorem Hf (a b:Nat):lq (a:Int) (b:Int)=((a%b:Nat):Int):=by rw[Int.tmod_eq_emod_of_nonneg (by omega)];exact(Int.natCast_emod a b).symm
theorem MZ (a b:Nat):nV (a:Int) (b:Int)=((a/b:Nat):Int):=by rw[Int.tdiv_eq_ediv_of_nonneg (by omega)];exact(Int.natCast_ediv a b).symm
def stp : Nat->Nat
 |0=>4
 |d+1=>20+6*stp d
section
def Tot {α:Type}(Q:α->Prop)(F:Nat->Option α):Prop:=∃x,Ev F x/\Q x
section
variable {α β:Type} {Q:α->Prop} {F F':Nat->Option α}
theorem Tot.up (h:Tot Q (λn=>F (n+1))):Tot Q F:=let ⟨x,g,q⟩:=h;⟨x,Ev.up g,q⟩
theorem Tot.ret {x:α}(h:Q x):Tot Q (λ_=>some x):=⟨x,Ev.ret x,h⟩
theorem Tot.bind {P:β->Prop}{h:Nat->Option β}{k:Nat->β->Option α}(h1:Tot P h)(h2:∀x,P x->Tot Q (λn=>k n x)):Tot Q (λn=>jc (h n) (k n)):=by obtain⟨x,g,p⟩:=h1;obtain⟨y,g',q⟩:=h2 x p;exact⟨y,Ev.bind g g',q⟩
theorem Tot.rY {a:β}{h:Nat->Option β}{k:Nat->β->Option α}(h1:Ev h a)(h2:Tot Q (λn=>k n a)):Tot Q (λn=>jc (h n) (k n)):=by obtain⟨y,g',q⟩:=h2;exact⟨y,Ev.bind h1 g',q⟩
theorem Tot.chk {p:Prop}[Decidable p](hp:p)(h:Tot Q F):Tot Q (λn=>Ab.chk p (F n)):=let ⟨x,g,q⟩:=h;⟨x,Ev.chk hp g,q⟩
theorem Tot.ite {c:Bool}(h:c=true->Tot Q F)(h':c=false->Tot Q F'):Tot Q (λn=>cond c (F n) (F' n)):=by
 cases c
 ·exact h' rfl
 ·exact h rfl
theorem Tot.mono {P:α->Prop}(h:Tot P F)(hq:∀x,P x->Q x):Tot Q F:=let ⟨x,g,q⟩:=h;⟨x,g,hq x q⟩
end
abbrev aaO (B:Nat)(n:aj):Prop:=∃D,Fine B D n
theorem yS : 60<=lim:=by decide
theorem Oc : Val vJ=true:=by decide
end
abbrev aeU (o:oh):Prop:=∃E,Oj 60 E o
theorem wM.mono {B C:Nat}{p:List aO}(h:wM B p)(hB:B<=C):wM C p:=⟨ig h.1 hB,λs hs=>ig (h.2 s hs) hB⟩
structure NO (n:aj)(o:oh):Prop where
 node:∃E,Fine 60 E n
 op:∃E,Oj 60 E o
theorem NO.fine {n:aj}{o:oh}(h:NO n o):∃E,Fine 60 E n/\Oj 60 E o:=by obtain⟨⟨E,hn⟩,⟨F,ho⟩⟩:=h;exact⟨max E F,hn.mono (au _) (Nat.le_max_left _ _),ho.path,ho.from_,ho.val.mono (au _) (Nat.le_max_right _ _)⟩
theorem yR {n:aj}(h:Val n=true):Fine 60 5 n:=(nU h).mono (by omega) (au _)
structure ado (n:aj)(o:oh)(m:aj):Prop where
 vn:Val n=true
 vo:JS o=true
 app:applyN n o=some m
 vm:Val m=true
theorem applied {n m:aj}{o:oh}(h:Eh n o=some m):ado n o m:=by
 unfold Eh at h;split at h
 ·rename_i hv;simp only[ah]at hv;obtain⟨h1,h2⟩:=vZ.1 h;exact⟨hv.1,hv.2,h1,h2⟩
 ·cases h
theorem Y3 {n:aj}{o:oh}(hn:Val n=true)(ho:JS o=true):Eh n o=(applyN n o).filter Val:=by unfold Eh;rw[hn,ho];rfl
theorem evd {p:Prop}(x:p:=by
 repeat' first
 |assumption
 |exact Ev.ret _
 |refine Ev.ct rfl ?_
 |refine Ev.cf rfl ?_
 |refine Ev.bind (by assumption) ?_
 |refine Ev.ite (λ_=>?_) (λ_=>?_)):p:=x
theorem oh.eta (o:oh):oh.mk o.Kind o.Path o.From o.Value=o:=rfl
theorem ab9 {o:oh}(h:JS o=true):Oj 12 5 o:=by have f:=uN h;exact⟨uU f.path,uU f.from_,nU f.val⟩
open Classical in
noncomputable def N8 : aj->List oh->Option aj
 |n,[]=>some n
 | n,o::r=>match Eh n o with
   |some m=>N8 m r
   |none=>none
noncomputable def LC : aj->List oh->Nat
 |_,[]=>0
 | n,o::r=>match Eh n o with
   |some m=>LC m r+1
   |none=>0
def EH (l:List oh):Bool:=l.all JS&&decide (l.length<=12)
noncomputable def IE (n:aj)(l:List oh):Option aj:=if Val n&&EH l then N8 n l else none
theorem acv {l:List oh} : ∀{n m:aj},Val n=true->N8 n l=some m->Val m=true:=by
 induction l with
 |nil=>intro n m hn h;cases h;exact hn
 | cons o r ih=>
   intro n m hn h;rw[N8]at h;cases ha:Eh n o with
   |none=>rw[ha]at h;cases h
   |some k=>rw[ha]at h;exact ih (applied ha).vm h
theorem Zl {l:List oh} : ∀{n:aj},LC n l=l.length<->(N8 n l).isSome=true:=by
 induction l with
 |nil=>intro n;simp[LC,N8]
 | cons o l ih=>
   intro n;rw[LC,N8];cases Eh n o with
   |none=>simp
   |some k=>simp only[dB,Nat.add_right_cancel_iff];exact ih
theorem Qp {l:List oh}(h:EH l=true):(∀o,o∈l->JS o=true)/\l.length<=12:=by unfold EH at h;simp only[ah,decide_eq_true_eq,bg]at h;exact h
def JQ (l:List oh):Prop:=l.length<=1000/\∀o,o∈l->aeU o
theorem Zn {l:List oh}(h:EH l=true):JQ l:=by obtain⟨h1,h2⟩:=Qp h;exact⟨by omega,λo ho=>⟨5,(uU (uN (h1 o ho)).path).mono (by omega),(uU (uN (h1 o ho)).from_).mono (by omega),(nU (uN (h1 o ho)).val).mono (by omega) (au _)⟩⟩
theorem getD_mem {α:Type}{l:List α}{i:Nat}(d:α)(h:i<l.length):l.getD i d∈l:=by rw[fZ d h];exact dO h
theorem T.fB.L1 {l:List oh}(h:JQ l):∀(k i:Nat),i+k=l.length->Ev (λf=>G.fB.L1 f l i) ((l.drop i).all JS):=by
 obtain⟨hl,ho⟩:=h;intro k
 induction k with
 | zero=>intro i hi;refine Ev.up ?_;simp only[G.fB.L1];refine Ev.cf (by simp;omega) (Ev.ret' ?_);rw[ak (by omega)];rfl
 | succ k ih=>
   intro i hi;have hlt:i<l.length:=(by omega);refine Ev.up ?_;simp only[G.fB.L1,ai,oh.eta,dA (show i+1<9223372036854775808 by omega)];obtain⟨E,hf⟩:=ho _ (getD_mem default hlt);refine Ev.ct (by simpa using hlt) (Ev.chk (by omega) (Ev.bind (T.rq yS hf) ?_));rw[dI (default:oh) hlt,dJ];refine Ev.ite (λe=>?_) (λe=>?_)
   ·rw[e,bQ];exact ih (i+1) (by omega)
   ·rw[e,uO];exact Ev.ret _
theorem T.fB {l:List oh}(h:JQ l):Ev (λf=>G.fB f l) (EH l):=by
 refine Ev.up ?_;simp only[G.fB];have hL:=T.fB.L1 h l.length 0 (by omega);unfold EH;refine Ev.ite (λe=>Ev.ret' ?_) (λe=>?_)
 ·have:¬l.length<=12:=by simp at e;omega
  simp[this]
 ·have:l.length<=12:=by simp at e;omega
  simp only[this,decide_true,pz];exact hL
theorem T.gu.L1 {l:List oh}(h:JQ l):∀(k i:Nat),i+k=l.length->Ev (λf=>G.gu.L1 f l i) ((l.drop i).all JS&&decide (l.length<=12)):=by
 obtain⟨hl,ho⟩:=h;intro k
 induction k with
 | zero=>intro i hi;refine Ev.up ?_;simp only[G.gu.L1];refine Ev.cf (by simp;omega) (Ev.ret' ?_);rw[ak (by omega),wz,bQ];simp;omega
 | succ k ih=>
   intro i hi;have hlt:i<l.length:=(by omega);refine Ev.up ?_;simp only[G.gu.L1,ai,oh.eta,dA (show i+1<9223372036854775808 by omega)];obtain⟨E,hf⟩:=ho _ (getD_mem default hlt);refine Ev.ct (by simpa using hlt) (Ev.chk (by omega) (Ev.bind (T.nY yS hf) ?_));rw[dI (default:oh) hlt,dJ];refine Ev.ite (λe=>?_) (λe=>?_)
   ·rw[e,bQ];exact ih (i+1) (by omega)
   ·rw[e,uO];exact Ev.ret _
theorem T.gu {l:List oh}(h:JQ l):Ev (λf=>G.gu f l) (EH l):=by refine Ev.up ?_;simp only[G.gu];exact T.gu.L1 h l.length 0 (by omega)
noncomputable def acw (N i:Nat)(n:aj)(l:List oh):aj×Int:=
 match N8 n l with
 |some m=>(m,(N:Int))
 |none=>(vJ,((i+LC n l:Nat):Int))
theorem T.kR.L1 {l:List oh}(h:EH l=true):∀(k i:Nat) (n:aj),i+k=l.length->Val n=true ->
 Ev (λf=>G.kR.L1 f l i n.Kind n.Num n.Text n.Names n.Kids) (acw l.length i n (l.drop i)):=by
 obtain⟨ho,hl⟩:=Qp h;intro k
 induction k with
 | zero=>intro i n hi hn;refine Ev.up ?_;simp only[G.kR.L1,aj.eta];refine Ev.cf (by simp;omega) (Ev.ret' ?_);rw[ak (by omega)];rfl
 | succ k ih=>
   intro i n hi hn;have hlt:i<l.length:=(by omega);refine Ev.up ?_;simp only[G.kR.L1,ai,oh.eta,aj.eta,dA (show i+1<9223372036854775808 by omega)];have hv:=ho _ (getD_mem default hlt);have hA:=T.tN Zu (nU hn) (ab9 hv);refine Ev.ct (by simpa using hlt) (Ev.chk (by omega) (Ev.bind hA ?_));rw[dI (default:oh) hlt];unfold acw;rw[N8,LC];cases ha:Eh n (l.getD i default)with
   |none=>exact Ev.cf rfl (Ev.ret' rfl)
   | some m=>
     refine Ev.ct rfl ((ih (i+1) m (by omega) (applied ha).vm).eq ?_);unfold acw;simp only;cases N8 m (l.drop (i+1))with
     |some k=>rfl
     | none=>refine congrArg (Prod.mk vJ) ?_;show((i+1+LC m (l.drop (i+1)):Nat):Int)=((i+(LC m (l.drop (i+1))+1):Nat):Int);omega
theorem T.kR {n:aj}{l:List oh}(hn:Val n=true)(h:EH l=true):Ev (λf=>G.kR f n l) (acw l.length 0 n l):=by refine Ev.up ?_;simp only[G.kR];exact Ev.bind (T.aP Bh (nU hn)) (T.kR.L1 h l.length 0 n (by omega) hn)
theorem T.pF {B E:Nat}{n:aj}{l:List oh}(hB:B<=lim)(hn:Fine B E n)(hl:JQ l):Ev (λf=>G.pF f n l) (oK (IE n l)):=by
 refine Ev.up ?_;simp only[G.pF];unfold IE;refine Ev.bind (T.aX hB hn) (Ev.ite (λe1=>?_) (λe1=>Ev.ret' (by rw[e1];rfl)));refine Ev.bind (T.fB hl) (Ev.ite (λe2=>?_) (λe2=>Ev.ret' (by rw[e1,e2];rfl)));refine Ev.bind (T.kR e1 e2) (Ev.ret' ?_);rw[e1,e2,if_pos (by rfl)];unfold acw;cases hr:N8 n l with
 |some m=>simp[oK]
 | none=>have h1:¬LC n l=l.length:=λe=>(by have:=Zl.1 e;rw[hr]at this;cases this);simp only[Nat.zero_add,oK];rw[ilen];simp[h1]
theorem WZ {n:aj}{o:oh}(hn:Val n=true)(ho:JS o=true):Ev (λf=>G.pJ f n o) (oK (Eh n o)):=by rw[Y3 hn ho];exact T.pJ hn (uN ho)
theorem T.jA.L1 {l:List oh}(h:EH l=true):∀(k i:Nat) (n:aj),i+k=l.length->Val n=true ->
 Ev (λf=>G.jA.L1 f l i n.Kind n.Num n.Text n.Names n.Kids) (oK (N8 n (l.drop i))):=by
 obtain⟨ho,hl⟩:=Qp h;intro k
 induction k with
 | zero=>intro i n hi hn;refine Ev.up ?_;simp only[G.jA.L1,aj.eta];refine Ev.cf (by simp;omega) (Ev.ret' ?_);rw[ak (by omega)];rfl
 | succ k ih=>
   intro i n hi hn;have hlt:i<l.length:=(by omega);refine Ev.up ?_;simp only[G.jA.L1,ai,oh.eta,aj.eta,dA (show i+1<9223372036854775808 by omega)];have hv:=ho _ (getD_mem default hlt);refine Ev.ct (by simpa using hlt) (Ev.chk (by omega) (Ev.bind (WZ hn hv) ?_));rw[dI (default:oh) hlt,N8];cases ha:Eh n (l.getD i default)with
   |none=>exact Ev.cf rfl (Ev.ret' rfl)
   |some m=>exact Ev.ct rfl (ih (i+1) m (by omega) (applied ha).vm)
theorem T.jA {B E:Nat}{n:aj}{l:List oh}(hB:B<=lim)(hn:Fine B E n)(hl:JQ l):Ev (λf=>G.jA f n l) (oK (IE n l)):=by refine Ev.up ?_;simp only[G.jA];unfold IE;refine Ev.bind (T.eG hB hn) (Ev.ite (λe1=>?_) (λe1=>Ev.ret' (by rw[e1];rfl)));refine Ev.bind (T.gu hl) (Ev.ite (λe2=>?_) (λe2=>Ev.ret' (by rw[e1,e2];rfl)));rw[e1,e2,if_pos (by rfl)];exact Ev.bind (T.aY Bh (nU e1)) (T.jA.L1 e2 l.length 0 n (by omega) e1)
theorem Zm : JQ []:=⟨by simp,λo h=>by cases h⟩
theorem wM.big {B:Nat}{p:List aO}(hB:B<=1000)(h:wM B p):p.length<Ab.big:=by have:=h.1;unfold Ab.big;omega
theorem Pe {x:aO}{l:List aO}(h:Asc l=true)(hx:∀y,y∈l->bl x y=true):Asc (x::l)=true:=by
 cases l with
 |nil=>rfl
 |cons y l=>rw[Asc,h,pz];exact hx y (by simp)
def lk (n:aj)(s:aO):Option aj:=(D9 n s).map λj=>n.Kids.getD j default
structure F8 (n:aj):Prop where
 kind:n.Kind=4
 Le:Asc n.Names=true
 len:n.Kids.length=n.Names.length
theorem L9 {n:aj}(h:Parts n=true)(hk:n.Kind=4):F8 n/\n.Names.length<=6/\∀s,s∈n.Names->s.length<=12:=by obtain⟨_,_,hN,hl,hkl⟩:=xH h hk;exact⟨⟨hk,KD hN,hkl⟩,hl,λs hs=>Qr (Ub hN s hs)⟩
theorem abO {n:aj}(h:F8 n){s:aO} : (lk n s).isSome=true<->s∈n.Names:=by
 unfold lk;rw[Option.isSome_map];constructor
 ·intro hs;obtain⟨j,hj⟩:=zH.1 hs;obtain⟨h1,h2,_⟩:=Ja.1 hj;rw[Ep h.kind,beq_iff_eq]at h2;rw[<- h2];exact getD_mem default (by rw[<- h.len];exact h1)
 ·intro hs;cases hp:D9 n s with
  |some j=>rfl
  | none=>obtain⟨i,hi,e⟩:=jM.1 hs;have:=MI.1 hp i (by rw[h.len];exact hi);rw[Ep h.kind,fZ default hi,e]at this;simp at this
theorem XD {n x:aj}{s:aO}(h:lk n s=some x):x∈n.Kids:=by unfold lk at h;obtain⟨j,hj,rfl⟩:=pY.1 h;exact getD_mem default (yL hj)
theorem L8 {n:aj}(h:F8 n){s:aO} : lk n s=none<->s ∉ n.Names:=by rw[<- abO h];cases lk n s<;>simp
structure Acc (n:aj)(m:Nat):Prop where
 map:F8 n
 num:n.Num=0
 text:n.Text=[]
 len:n.Names.length<=m
 small:∀s,s∈n.Names->s.length<=12
theorem Acc.eq {n:aj}{m:Nat}(h:Acc n m):n=aj.mk 4 0 [] n.Names n.Kids:=by obtain⟨⟨h1,_,_⟩,h2,h3,_,_⟩:=h;cases n;simp only at h1 h2 h3;subst h1;subst h2;subst h3;rfl
theorem U1 : ∀{l:List aO} (i:Nat),Asc l=true->Asc (l.drop i)=true
 |l,0,h=>by simpa using h
 |[],i+1,_=>rfl
 |x::l,i+1,h=>U1 (l:=l) i (Fv h)
open Classical in
noncomputable def mn (F:aj->aj->aj->Option aj)(o a b:aj)(s:aO):Option (Option aj):=
 match lk a s,lk b s,lk o s with
 |some x,some y,some z=>(F z x y).map some
 |some x,some y,none=>if x=y then some (some x)else none
 |some x,none,none=>some (some x)
 |none,some y,none=>some (some y)
 |some x,none,some z=>if x=z then some none else none
 |none,some y,some z=>if y=z then some none else none
 |none,none,_=>some none
def af6 : aj:=aj.mk 4 0 [] [] []
theorem GN {n:aj}(h:F8 n){r:aO}{k:aj} : lk n r=some k<->(r,k)∈n.Names.zip n.Kids:=by
 have at_:∀j,j<n.Names.length->(n.Names.getD j default,n.Kids.getD j default)∈n.Names.zip n.Kids:=λj hj=>by
  have hk:j<n.Kids.length:=by rw[h.len];exact hj
  rw[fZ _ hj,fZ _ hk];exact jM.2 ⟨j,by simp;omega,by simp⟩
 constructor
 ·intro e;unfold lk at e;obtain⟨j,hj,rfl⟩:=pY.1 e;obtain⟨h1,h2,_⟩:=Ja.1 hj;rw[Ep h.kind,beq_iff_eq]at h2;rw[<- h2];exact at_ j (by rw[<- h.len];exact h1)
 ·intro e;obtain⟨j,hj,e⟩:=jM.1 e;have hj1:j<n.Names.length:=by simp at hj;omega
  have hj2:j<n.Kids.length:=by simp at hj;omega
  simp only[Dz,aI]at e;obtain⟨e1,e2⟩:=e;have hp:D9 n r=some j:=by rw[Ja];refine⟨hj2,by rw[Ep h.kind,fZ _ hj1,e1];simp,λq hq=>?_⟩;rw[Ep h.kind];have:=FW (EG h.Le q j hq hj1);rw[fZ _ hj1,e1]at this;simpa using this
  unfold lk;rw[hp,lU,fZ _ hj2,e2]
theorem aer {α β:Type}{a:List α}{b:List β}{p:Nat}{x:α}{y:β}(h:a.length=b.length):(insL a p x).zip (insL b p y)=insL (a.zip b) p (x,y):=by
 unfold insL;rw[D8 (by simp[h]),D8 (by simp[h])];have e1:(a.zip b).take p=(a.take p).zip (b.take p):=by rw[EN,List.take_zipWith]
 have e2:(a.zip b).drop p=(a.drop p).zip (b.drop p):=by rw[EN,List.drop_zipWith]
 rw[e1,e2];rfl
theorem TV {α:Type}{l:List α}{p:Nat}{x y:α} : y∈insL l p x<->y=x\/y∈l:=by
 unfold insL;rw[aW,aW,bM];have:=xP p l;constructor
 ·rintro((h|h)|h)
  ·exact .inr (fJ h)
  ·exact .inl h
  ·exact .inr (mP h)
 ·rintro(h|h)
  ·exact .inl (.inr h)
  ·rw[<- this,aW]at h;rcases h with h|h
   ·exact .inl (.inl h)
   ·exact .inr h
theorem aaV {n v:aj}{s:aO}(h:F8 n)(hs:s ∉ n.Names):∃m,addN n s v=some m/\m.Kind=4/\m.Num=0/\m.Text=[]/\m.Kids.length=m.Names.length/\∀r k,(r,k)∈m.Names.zip m.Kids<->(r,k)=(s,v)\/(r,k)∈n.Names.zip n.Kids:=by
 have hp:D9 n s=none:=by have:=(L8 h).2 hs;unfold lk at this;simpa using this
 have hk:=h.kind;refine⟨aj.mk 4 0 [] (insL n.Names (slt n s) s) (insL n.Kids (slt n s) v),?_,rfl,rfl,rfl,?_,λr k=>?_⟩
 ·unfold addN;rw[hp];simp only[hk,if_true,show ¬((4:Int)=3) by decide,if_false]
 ·show(insL n.Kids _ v).length=(insL n.Names _ s).length;have:=h.len;unfold insL;simp;omega
 ·show(r,k)∈(insL n.Names (slt n s) s).zip (insL n.Kids (slt n s) v)<->_;rw[aer h.len.symm,TV]
theorem U3 : ∀{l:List aO} (i:Nat),Asc l=true->Asc (l.take i)=true
 |_,0,_=>by simp[Asc]
 |[],i+1,_=>rfl
 | x::l,i+1,h=>by rw[List.take_succ_cons];exact Pe (U3 i (Fv h)) (λy hy=>Gq h y (fJ hy))
theorem ad3 {n m v:aj}{s:aO}(h:F8 n)(hs:s ∉ n.Names)(hm:addN n s v=some m):Asc m.Names=true:=by
 have hp:D9 n s=none:=by have:=(L8 h).2 hs;unfold lk at this;simpa using this
 have hk:=h.kind;unfold addN at hm;rw[hp]at hm;simp only[hk,if_true,show ¬((4:Int)=3) by decide,if_false,aJ]at hm;subst hm;show Asc (insL n.Names (slt n s) s)=true;have hle:=XU n s;have hl:=h.len;have before:∀i,i<slt n s->bl (n.Names.getD i default) s=true:=λi hi=>by
  have h1:bl s (n.Names.getD i default)=false:=by
   unfold slt at hi;cases hf:(aQ 0 n.Kids.length).find? λi=>bl s (n.Names.getD i default)with
   | none=>rw[hf]at hi;exact Ju.1 hf i (by omega) (by simpa using hi)
   | some j=>rw[hf]at hi;exact(Fp.1 hf).2.2.2 i (by omega) hi
  cases h2:bl (n.Names.getD i default) s with
  |true=>rfl
  |false=>exact absurd (getD_mem default (by omega:i<n.Names.length)) (by rw[IL h2 h1];exact hs)
 have behind:∀i,slt n s<=i->i<n.Names.length->bl s (n.Names.getD i default)=true:=λi h1 h2=>by
  have h3:slt n s<n.Kids.length:=by omega
  have h4:bl s (n.Names.getD (slt n s) default)=true:=by
   unfold slt at h3⊢;cases hf:(aQ 0 n.Kids.length).find? λi=>bl s (n.Names.getD i default)with
   |none=>rw[hf]at h3;simp at h3
   |some j=>exact(Fp.1 hf).2.2.1
  by_cases e:slt n s=i
  ·rw[<- e];exact h4
  ·exact Bv h4 (EG h.Le (slt n s) i (by omega) h2)
 generalize slt n s=p at *;unfold insL;have key:∀(A S:List aO),Asc A=true->Asc S=true->(∀x,x∈A->bl x s=true)->(∀y,y∈S->bl s y=true)->Asc ((A++[s])++S)=true:=by
  intro A
  induction A with
  |nil=>intro S _ hS _ h2;exact Pe hS h2
  | cons a A ih=>
    intro S hA hS h1 h2;rw[dY,dY];refine Pe (ih S (Fv hA) hS (λx hx=>h1 x (by simp[hx])) h2) (λy hy=>?_);rcases aW.1 hy with hy|hy
    ·rcases aW.1 hy with hy|hy
     ·exact Gq hA y hy
     ·rw[bM]at hy;subst hy;exact h1 a (by simp)
    ·exact Bv (h1 a (by simp)) (h2 y hy)
 refine key _ _ (U3 p h.Le) (U1 p h.Le) (λx hx=>?_) (λy hy=>?_)
 ·obtain⟨i,hi,e⟩:=jM.1 hx;have hi2:i<p/\i<n.Names.length:=by simp at hi;omega
  have:=before i hi2.1;rw[fZ _ hi2.2]at this;rw[<- e];simpa using this
 ·obtain⟨i,hi,e⟩:=jM.1 hy;have hi2:p+i<n.Names.length:=by simp at hi;omega
  have:=behind (p+i) (by omega) hi2;rw[fZ _ hi2]at this;rw[<- e];simpa using this
theorem ach {n c:aj}{j:Nat}(s:aO):D9 (FI n j c) s=D9 n s:=by
 unfold D9;have e:(FI n j c).Kids.length=n.Kids.length:=by simp[FI]
 rw[e];rfl
theorem abK {n c:aj}{j:Nat}(h:j<n.Kids.length):(FI n j c).Kids.getD j default=c:=by simp[FI,bu,h]
structure Mp (m:aj):Prop where
 map:F8 m
 num:m.Num=0
 text:m.Text=[]
theorem agt {n:aj}(h:Parts n=true)(hk:n.Kind=4):Mp n:=⟨(L9 h hk).1,(xH h hk).1,(xH h hk).2.1⟩
theorem afr {m x:aj}{s:aO}(h:lk m s=some x):∃j,D9 m s=some j/\m.Kids.getD j default=x:=by unfold lk at h;exact pY.1 h
theorem agq {m:aj}(h:F8 m){i:Nat}(hi:i<m.Kids.length):lk m (m.Names.getD i default)=some (m.Kids.getD i default):=by
 have hi':i<m.Names.length:=by rw[<- h.len];exact hi
 rw[GN h,fZ _ hi,fZ _ hi'];exact jM.2 ⟨i,by simp;omega,by simp⟩
theorem VM {m:aj}(h:F8 m){i j:Nat}(hi:i<m.Names.length)(hj:j<m.Names.length)(e:m.Names.getD i default=m.Names.getD j default):i=j:=by
 rcases Nat.lt_trichotomy i j with k|k|k
 ·exact absurd e (FW (EG h.Le i j k hj))
 ·exact k
 ·exact absurd e.symm (FW (EG h.Le j i k hi))
theorem ad6 {m y:aj}{s:aO}{j:Nat}(h:F8 m)(hj:D9 m s=some j)(r:aO):lk (FI m j y) r=if r=s then some y else lk m r:=by
 unfold lk;rw[ach];by_cases e:r=s
 ·subst e;rw[if_pos rfl,hj,lU,abK (yL hj)]
 ·rw[if_neg e];cases hr:D9 m r with
  |none=>rfl
  | some i=>
    have hne:j≠i:=λe2=>by subst e2;have a:=JC hj;have b:=JC hr;rw[Ep h.kind,beq_iff_eq]at a b;exact e (b.symm.trans a)
    simp[FI,bu,List.getElem?_set,hne]
theorem ad7 {m y:aj}{j:Nat}(h:Mp m):Mp (FI m j y):=⟨⟨h.map.kind,h.map.Le,by show(m.Kids.set j y).length=m.Names.length;rw[yl];exact h.map.len⟩,h.num,h.text⟩
theorem ZQ {α:Type}{l:List α}{k:Nat}{y:α} : y∈xG l k<->∃i,∃h:i<l.length,i≠k/\l[i]=y:=by
 unfold xG;rw[aW,List.mem_take_iff_getElem,List.mem_drop_iff_getElem];constructor
 ·rintro(⟨i,h,e⟩|⟨i,h,e⟩)
  ·exact⟨i,by omega,by omega,e⟩
  ·exact⟨k+1+i,by omega,by omega,e⟩
 ·rintro⟨i,h,hk,e⟩;by_cases c:i<k
  ·exact .inl ⟨i,by omega,e⟩
  ·refine .inr ⟨i-(k+1),by omega,?_⟩;have:k+1+(i-(k+1))=i:=(by omega);simp only[this];exact e
theorem aaE {α β:Type}{a:List α}{b:List β}{k:Nat}(h:a.length=b.length):(xG a k).zip (xG b k)=xG (a.zip b) k:=by
 unfold xG;rw[D8 (by simp[h])];have e1:(a.zip b).take k=(a.take k).zip (b.take k):=by rw[EN,List.take_zipWith]
 have e2:(a.zip b).drop (k+1)=(a.drop (k+1)).zip (b.drop (k+1)):=by rw[EN,List.drop_zipWith]
 rw[e1,e2]
theorem afF {m:aj}{s:aO}(h:F8 m)(hs:s∈m.Names):∃m',DW m s=some m'/\Mp m'/\∀r,lk m' r=if r=s then none else lk m r:=by
 obtain⟨x,hx⟩:=zH.1 ((abO h).2 hs);obtain⟨j,hj,_⟩:=afr hx;obtain⟨hjl,hjh,_⟩:=Ja.1 hj;rw[Ep h.kind,beq_iff_eq]at hjh;have hjn:j<m.Names.length:=by rw[<- h.len];exact hjl
 have hM:F8 (aj.mk 4 0 [] (xG m.Names j) (xG m.Kids j)):=by refine⟨rfl,Aq.2 ((Aq.1 h.Le).sublist (BN _ _)),?_⟩;show(xG m.Kids j).length=(xG m.Names j).length;rw[Em hjl,Em hjn,h.len]
 refine⟨_,?_,⟨hM,rfl,rfl⟩,λr=>?_⟩
 ·unfold DW;rw[hj];simp only[h.kind,if_true]
 ·apply Option.ext;intro x;rw[GN hM];show(r,x)∈(xG m.Names j).zip (xG m.Kids j)<->_;rw[aaE h.len.symm,ZQ];by_cases e:r=s
  ·rw[if_pos e];constructor
   ·rintro⟨i,hi,hne,e2⟩;have l1:i<m.Names.length:=(by simp at hi;omega);rw[Dz,aI]at e2;refine absurd (VM h l1 hjn ?_) hne;rw[fZ _ l1,e2.1,hjh,e]
   ·intro e2;cases e2
  ·rw[if_neg e,GN h,jM];constructor
   ·rintro⟨i,hi,_,e2⟩;exact⟨i,hi,e2⟩
   ·rintro⟨i,hi,e2⟩;refine⟨i,hi,λc=>?_,e2⟩;subst c;rw[Dz,aI]at e2;rw[fZ _ hjn,e2.1]at hjh;exact e hjh
theorem ae0 {m v:aj}{s:aO}(h:F8 m)(hs:s ∉ m.Names):∃m',addN m s v=some m'/\Mp m'/\∀r,lk m' r=if r=s then some v else lk m r:=by
 obtain⟨m',e,k1,k2,k3,k4,k5⟩:=aaV (v:=v) h hs;have hM:F8 m':=⟨k1,ad3 h hs e,k4⟩;refine⟨m',e,⟨hM,k2,k3⟩,λr=>?_⟩;apply Option.ext;intro x;rw[GN hM,k5];by_cases c:r=s
 ·rw[if_pos c];constructor
  ·rintro(q|q)
   ·rw[aI]at q;rw[q.2]
   ·have:=(L8 h).2 hs;rw[<- GN h,c,this]at q;cases q
  ·intro q;cases q;exact .inl (by rw[c])
 ·rw[if_neg c,GN h];constructor
  ·rintro(q|q)
   ·rw[aI]at q;exact absurd q.1 c
   ·exact q
  ·exact .inr
theorem Gl {l:List aO}{i:Nat}(h:i<l.length){r:aO} : r∈l.take (i+1)<->r∈l.take i\/r=l.getD i default:=by rw[iH h,aW,bM,fZ _ h]
theorem ab6 {m:aj}(h:F8 m){i:Nat}(hi:i<m.Names.length):m.Names.getD i default ∉ m.Names.take i:=by
 intro c;obtain⟨j,hj,e⟩:=List.mem_take_iff_getElem.1 c;have hj':j<m.Names.length:=by omega
 have:=VM h hj' hi (by rw[fZ _ hj'];exact e);omega
theorem T.bs {n:aj}(s:aO)(h:F8 n)(hl:n.Names.length<=1000):∃p:Nat,Ev (λf=>G.slices_BinarySearch_string f n.Names s) ((p:Int),(D9 n s).isSome)/\∀j,D9 n s=some j->p=j:=by
 obtain⟨p,g,hp⟩:=T.slices_BinarySearch_string s (by unfold big;omega) h.Le;have hpl:=Ui h.kind h.Le h.len hp;cases hc:decide (p<n.Names.length)&&n.Names.getD p default==s with
 | true=>rw[hc]at g hpl;rw[if_pos rfl]at hpl;refine⟨p,by rw[hpl];exact g,λj hj=>?_⟩;rw[hpl]at hj;exact yt hj
 | false=>rw[hc]at g hpl;rw[if_neg (by simp)]at hpl;refine⟨p,by rw[hpl];exact g,λj hj=>?_⟩;rw[hpl]at hj;cases hj
structure MF (D c:Nat)(m:aj):Prop where
 mp:Mp m
 cnt:m.Names.length<=c
 sh:∀s,s∈m.Names->s.length<=12
 kid:∀k,k∈m.Kids->Fine 12 D k
theorem MF.fine {D c:Nat}{m:aj}(h:MF D c m)(hc:c<=12):Fine 12 (D+1) m:=by have h1:=h.cnt;have h2:=h.mp.map.len;exact⟨by rw[h.mp.text];simp,by omega,h.sh,by omega,λ_=>by omega,h.kid⟩
theorem Xz {α:Type}{l:List α}{k:Nat}{v:α}(h:k<=l.length):(insL l k v).length=l.length+1:=by unfold insL;simp;omega
theorem SK {m v:aj}{s:aO}{j:Nat}(h:F8 m)(hj:D9 m s=some j):addN m s v=some (FI m j v):=by unfold addN;rw[hj];simp[h.kind]
theorem UW {m v:aj}{s:aO}(h:F8 m)(hj:D9 m s=none):addN m s v=some (aj.mk 4 0 [] (insL m.Names (slt m s) s) (insL m.Kids (slt m s) v)):=by unfold addN;rw[hj];simp[h.kind]
theorem Uj {m:aj}{s:aO}(h:F8 m):D9 m s=none<->s ∉ m.Names:=by rw[<- L8 h];unfold lk;simp
theorem afv {D c:Nat}{m v:aj}{s:aO}(h:MF D c m)(hs:s.length<=12)(hv:Fine 12 D v) :
 ∃m',addN m s v=some m'/\MF D (c+1) m'/\∀r,lk m' r=if r=s then some v else lk m r:=by
 cases hj:D9 m s with
 | some j=>
   refine⟨FI m j v,SK h.mp.map hj,⟨ad7 h.mp,Nat.le_succ_of_le h.cnt,h.sh,λk hk=>?_⟩,ad6 h.mp.map hj⟩;rcases qR hk with q|q
   ·exact h.kid k q
   ·exact q▸hv
 | none=>
   obtain⟨m',e,g1,g2⟩:=ae0 (v:=v) h.mp.map ((Uj h.mp.map).1 hj);refine⟨m',e,?_,g2⟩;rw[UW h.mp.map hj,aJ]at e;subst e;have hsl:=XU m s;have hl:=h.mp.map.len;refine⟨g1,?_,λt ht=>?_,λk hk=>?_⟩
   ·show(insL m.Names (slt m s) s).length<=_;rw[Xz (by omega)];have:=h.cnt;omega
   ·rcases TV.1 ht with q|q
    ·exact q▸hs
    ·exact h.sh t q
   ·rcases TV.1 hk with q|q
    ·exact q▸hv
    ·exact h.kid k q
theorem afw {D c:Nat}{m:aj}{s:aO}(h:MF D c m):MF D c ((DW m s).getD m)/\∀r,lk ((DW m s).getD m) r=if r=s then none else lk m r:=by
 cases hj:D9 m s with
 | none=>
   have:DW m s=none:=(by unfold DW;rw[hj]);rw[this];refine⟨h,λr=>?_⟩;by_cases c:r=s
   ·rw[if_pos c,c];exact(L8 h.mp.map).2 ((Uj h.mp.map).1 hj)
   ·rw[if_neg c];rfl
 | some j=>
   have hs:s∈m.Names:=by apply Classical.byContradiction;intro q;rw[(Uj h.mp.map).2 q]at hj;cases hj
   obtain⟨m',e,g1,g2⟩:=afF h.mp.map hs;rw[e];refine⟨?_,g2⟩;unfold DW at e;rw[hj]at e;simp only[h.mp.map.kind,if_true,aJ]at e;subst e;have hjl:=yL hj;refine⟨g1,?_,λt ht=>h.sh t ((BN _ _).subset ht),λk hk=>h.kid k ((BN _ _).subset hk)⟩;show(xG m.Names j).length<=c;have:=h.mp.map.len;rw[Em (by omega)];have:=h.cnt;omega
theorem T.XJ {n v:aj}(s:aO)(h:Mp n)(hn:n.Names.length<=1000):∃m,addN n s v=some m/\Ev (λf=>G.oL f n s v) m:=by
 have hk:=h.map.kind;have hkl:=h.map.len;obtain⟨p,g,hlb⟩:=T.slices_BinarySearch_string s (by unfold big;omega) h.map.Le;have hpl:=Ui hk h.map.Le hkl hlb;have agd:=hlb.le;cases hc:decide (p<n.Names.length)&&n.Names.getD p default==s with
 | true=>rw[hc,if_pos rfl]at hpl;refine⟨FI n p v,SK h.map hpl,Ev.up ?_⟩;simp only[G.oL];have:=yL hpl;refine Ev.bind g (Ev.ct hc (Ev.chk (by omega) (Ev.ret' ?_)));rw[ai];rfl
 | false=>
   rw[hc,if_neg (by simp)]at hpl;have hsl:=acF h.map.Le hkl hlb hc;refine⟨aj.mk 4 0 [] (insL n.Names p s) (insL n.Kids p v),by rw[UW h.map hpl,hsl],Ev.up ?_⟩;simp only[G.oL];refine Ev.bind g (Ev.cf hc ?_);have i1:Ev (λf=>G.mG f n.Names (p:Int) [s]) (insL n.Names p s):=by refine Ev.up ?_;simp only[G.mG];refine Ev.chk (by simp;omega) (Ev.ret' ?_);rw[ai];rfl
   have i2:Ev (λf=>G.iW f n.Kids (p:Int) [v]) (insL n.Kids p v):=by refine Ev.up ?_;simp only[G.iW];refine Ev.chk (by simp;omega) (Ev.ret' ?_);rw[ai];rfl
   exact Ev.bind i1 (Ev.bind i2 (Ev.ret' (by rw[h.num,h.text,hk])))
theorem T.abd {n:aj}(s:aO)(h:Mp n)(hn:n.Names.length<=1000):Ev (λf=>G.uA f n s) ((DW n s).getD n):=by
 have hkl:=h.map.len;obtain⟨p,g,hp⟩:=T.bs s h.map hn;refine Ev.up ?_;simp only[G.uA];refine Ev.bind g ?_;unfold DW;cases hj:D9 n s with
 |none=>exact Ev.cf rfl (Ev.ret _)
 | some j=>
   have e:=hp j hj;subst e;have hpl:=yL hj;simp only[dA (show p+1<9223372036854775808 by omega)];have d1:Ev (λf=>G.jH f n.Kids (p:Int) ((p+1:Nat):Int)) (xG n.Kids p):=by refine Ev.up ?_;simp only[G.jH,ai];exact Ev.chk (by omega) (Ev.ret _)
   have d2:Ev (λf=>G.slices_Delete_string f n.Names (p:Int) ((p+1:Nat):Int)) (xG n.Names p):=by refine Ev.up ?_;simp only[G.slices_Delete_string,ai];exact Ev.chk (by omega) (Ev.ret _)
   refine Ev.ct rfl (Ev.bind d2 (Ev.bind d1 (Ev.ret' ?_)));simp[h.map.kind,h.num,h.text]
def VY (m:aj)(s:aO)(v:aj):aj:=(addN m s v).getD m
theorem afu {D:Nat} : MF D 0 af6:=⟨⟨⟨rfl,rfl,rfl⟩,rfl,rfl⟩,au _,(λs hs=>by cases hs),(λk hk=>by cases hk)⟩
structure MS (d:Nat)(a:aj):Prop where
 mp:Mp a
 sh:Shape (d+1) a=true
 len:a.Names.length<=6
 txt:∀s,s∈a.Names->s.length<=12
theorem Yv {d:Nat}{a:aj}(h:Shape (d+1) a=true)(hk:a.Kind=4):MS d a:=by obtain⟨_,h2,h3⟩:=L9 (kL h) hk;exact⟨agt (kL h) hk,h,h2,h3⟩
theorem MS.name {d:Nat}{a:aj}(h:MS d a){i:Nat}(hi:i<a.Kids.length):(a.Names.getD i default).length<=12:=h.txt _ (getD_mem default (by rw[<- h.mp.map.len];exact hi))
theorem MS.mf {d:Nat}{a:aj}(h:MS d a):MF d 6 a:=⟨h.mp,h.len,h.txt,λk hk=>yx (tJ h.sh k hk)⟩
theorem Mc {D E c e:Nat}{m:aj}(h:MF D c m)(hD:D<=E)(hc:c<=e):MF E e m:=⟨h.mp,ig h.cnt hc,h.sh,λk hk=>(h.kid k hk).mono (au _) hD⟩
theorem XK {D c:Nat}{m v:aj}{s:aO}(h:MF D c m)(hs:s.length<=12)(hv:Fine 12 D v):addN m s v=some (VY m s v)/\MF D (c+1) (VY m s v)/\∀r,lk (VY m s v) r=if r=s then some v else lk m r:=by
 obtain⟨m',e,h1,h2⟩:=afv h hs hv;have:VY m s v=m':=by unfold VY;rw[e];rfl
 rw[this];exact⟨e,h1,h2⟩
theorem H6 (k:Nat):aQ 0 (k+1)=aQ 0 k++[k]:=by rw[List.range'_concat];simp
theorem NW {a:aj}(h:F8 a){i:Nat}(hi:i<a.Kids.length):a.Names.getD i default ∉ a.Names.take i:=ab6 h (by rw[<- h.len];exact hi)
def OJ (F:aj->aj->aj)(p m:aj)(i:Nat):aj:=
 if(p.Kids.getD i default).Kind=0 then(DW m (p.Names.getD i default)).getD m else VY m (p.Names.getD i default) (F ((lk m (p.Names.getD i default)).getD vJ) (p.Kids.getD i default))
def Ns (n:aj):aj:=if n.Kind=4 then n else af6
def Jz : Nat->aj->aj->aj
 |0,_,p=>p
 |d+1,n,p=>if p.Kind=4 then(aQ 0 p.Kids.length).foldl (OJ (Jz d) p) (Ns n)else p
theorem Qj {d:Nat}{n p:aj} : Jz (d+1) n p=if p.Kind=4 then(aQ 0 p.Kids.length).foldl (OJ (Jz d) p) (Ns n)else p:=by rw[Jz]
def mgV (F:aj->aj->aj)(n0 p:aj)(r:aO):Option aj:=match lk p r with
 |none=>lk n0 r
 |some q=>if q.Kind=0 then none else some (F ((lk n0 r).getD vJ) q)
theorem NS {d D c:Nat}{n0 p:aj}{F:aj->aj->aj}(mp:MS d p)(h0:MF D c n0){Q:aj->Prop}(hQ:Q vJ)(hq:∀k,k∈n0.Kids->Q k)(hF:∀o q,Q o->Shape d q=true->Fine 12 D (F o q)) :
 ∀i,i<=p.Kids.length->MF D (c+i) ((aQ 0 i).foldl (OJ F p) n0)/\∀r,lk ((aQ 0 i).foldl (OJ F p) n0) r=if r∈p.Names.take i then mgV F n0 p r else lk n0 r:=by
 intro i
 induction i with
 |zero=>intro _;exact⟨h0,λr=>by simp⟩
 | succ i ih=>
   intro hi;obtain⟨h1,h2⟩:=ih (by omega);have hi':i<p.Kids.length:=(by omega);have hin:i<p.Names.length:=(by rw[<- mp.mp.map.len];exact hi');have hx:=agq mp.mp.map hi';have hnt:=NW mp.mp.map hi';rw[H6,uS,lT,Bf];generalize (aQ 0 i).foldl (OJ F p) n0=m at h1 h2⊢;have hms:lk m (p.Names.getD i default)=lk n0 (p.Names.getD i default):=(by rw[h2,if_neg hnt]);have fin:∀(m':aj),(∀r,lk m' r=if r=p.Names.getD i default then mgV F n0 p (p.Names.getD i default)else lk m r)->∀r,lk m' r=if r∈p.Names.take (i+1)then mgV F n0 p r else lk n0 r:=λm' g r=>by
    rw[g];by_cases c:r=p.Names.getD i default
    ·rw[if_pos c,if_pos ((Gl hin).2 (.inr c)),c]
    ·rw[if_neg c,h2];by_cases q:r∈p.Names.take i
     ·rw[if_pos q,if_pos ((Gl hin).2 (.inl q))]
     ·rw[if_neg q,if_neg (λz=>((Gl hin).1 z).elim q c)]
   unfold OJ;by_cases c:(p.Kids.getD i default).Kind=0
   ·rw[if_pos c];obtain⟨g1,g2⟩:=afw (s:=p.Names.getD i default) h1;refine⟨Mc g1 (au _) (by omega),fin _ (λr=>?_)⟩;rw[g2];have:mgV F n0 p (p.Names.getD i default)=none:=(by unfold mgV;rw[hx];simp only[if_pos c]);rw[this]
   ·rw[if_neg c,hms];have hold:Q ((lk n0 (p.Names.getD i default)).getD vJ):=by
     cases hl:lk n0 (p.Names.getD i default)with
     |none=>exact hQ
     |some x=>exact hq _ (XD hl)
    obtain⟨_,g1,g2⟩:=XK h1 (mp.name hi') (hF _ _ hold (A8 mp.sh hi'));refine⟨g1,fin _ (λr=>?_)⟩;rw[g2];have:mgV F n0 p (p.Names.getD i default)=some (F ((lk n0 (p.Names.getD i default)).getD vJ) (p.Kids.getD i default)):=(by unfold mgV;rw[hx];simp only[if_neg c]);rw[this]
abbrev ShN (E:Nat)(n:aj):Prop:=Shape E n=true\/n=vJ
theorem WQ {E:Nat}{n:aj}(h:ShN E n):∃e,(e+1=E\/e=0)/\MF e 6 (Ns n)/\∀k,k∈(Ns n).Kids->ShN e k:=by
 unfold Ns;by_cases hk:n.Kind=4
 ·rw[if_pos hk];rcases h with h|h
  ·cases E with
   |zero=>cases h
   |succ e=>exact⟨e,.inl rfl,(Yv h hk).mf,λk hk'=>.inl (tJ h k hk')⟩
  ·rw[h]at hk;cases hk
 ·rw[if_neg hk];exact⟨0,.inr rfl,Mc afu (au _) (by omega),λk hk'=>by cases hk'⟩
theorem Md : ∀(d:Nat) {E:Nat} {n p:aj},Shape d p=true->ShN E n->Fine 12 (d+E+1) (Jz d n p)
 |0,_,_,_,h,_=>by cases h
 | d+1,E,n,p,hp,hn=>by
   rw[Qj];by_cases h4:p.Kind=4
   ·rw[if_pos h4];have mp:=Yv hp h4;obtain⟨e,he,hb,hk⟩:=WQ hn;have h:=(NS (F:=Jz d) (D:=d+e+1) mp (Mc hb (by omega) (au _)) (Q:=ShN e) (.inr rfl) hk (λo q ho hq=>Md d hq ho) p.Kids.length (au _)).1;have:=mp.len;have:=mp.mp.map.len;exact(h.fine (by omega)).mono (au _) (by omega)
   ·rw[if_neg h4];exact(yx hp).mono (au _) (by omega)
section
section
variable {d e:Nat} {n0 p:aj} (mp:MS d p) (h0:MF (d+e+1) 6 n0) (hq:∀k,k∈n0.Kids->ShN e k) (hd:d<=5)
include mp h0 hq hd
theorem T.Hw.L4 (hs:∀o q,ShN e o->Shape d q=true->Ev (λf=>G.dM f o q) (Jz d o q)):∀(t i:Nat),i+t=p.Kids.length ->
 Ev (λf=>G.dM.L4 f p (i:Int) ((aQ 0 i).foldl (OJ (Jz d) p) n0).Kind ((aQ 0 i).foldl (OJ (Jz d) p) n0).Num ((aQ 0 i).foldl (OJ (Jz d) p) n0).Text ((aQ 0 i).foldl (OJ (Jz d) p) n0).Names ((aQ 0 i).foldl (OJ (Jz d) p) n0).Kids) ((aQ 0 p.Kids.length).foldl (OJ (Jz d) p) n0):=by
 have hl:=mp.len;have hk:=mp.mp.map.len;intro t
 induction t with
 | zero=>intro i hi;have:i=p.Kids.length:=(by omega);subst this;refine Ev.up ?_;simp only[G.dM.L4];exact Ev.cf (decide_eq_false (by omega)) (Ev.ret' (aj.eta _))
 | succ t ih=>
   intro i hi;have hn:=ih (i+1) (by omega);rw[H6,uS,lT,Bf]at hn;have hF:=λ(o q:aj) (ho:ShN e o) (hq:Shape d q=true)=>Md d hq ho;obtain⟨h1,h2⟩:=NS mp h0 (Q:=ShN e) (.inr rfl) hq hF i (by omega);generalize (aQ 0 i).foldl (OJ (Jz d) p) n0=m at h1 h2 hn⊢;have hi':i<p.Kids.length:=(by omega);have hx:=A8 mp.sh hi';have hc:=h1.cnt;have hms:lk m (p.Names.getD i default)=lk n0 (p.Names.getD i default):=(by rw[h2,if_neg (NW mp.mp.map hi')]);obtain⟨q,gq,hqj⟩:=T.bs (p.Names.getD i default) h1.mp.map (by omega);refine Ev.up ?_;simp only[G.dM.L4,ai,dA (show i+1<9223372036854775808 by omega),aj.eta];unfold OJ at hn;refine Ev.ct (decide_eq_true (by omega)) (Ev.chk (by omega) (Ev.chk (by omega) ?_));by_cases c:(p.Kids.getD i default).Kind=0
   ·rw[if_pos c]at hn;exact Ev.ct (by simpa using c) (Ev.bind (T.abd _ h1.mp (by omega)) hn)
   ·rw[if_neg c]at hn;have fin:∀o,o=(lk m (p.Names.getD i default)).getD vJ->Ev (λf=>G.dM.K5 f p (i:Int) m.Kind m.Num m.Text m.Names m.Kids o.Kind o.Num o.Text o.Names o.Kids) ((aQ 0 p.Kids.length).foldl (OJ (Jz d) p) n0):=λo ho=>by
     have hso:ShN e o:=by
      rw[ho,hms];cases hl':lk n0 (p.Names.getD i default)with
      |none=>exact .inr rfl
      |some x=>exact hq x (XD hl')
     have hf:=hF _ _ hso hx;obtain⟨g1,_⟩:=XK h1 (mp.name hi') hf;obtain⟨m',g2,g3⟩:=T.XJ (v:=Jz d o (p.Kids.getD i default)) (p.Names.getD i default) h1.mp (by omega);rw[g1]at g2;cases g2;rw[<- ho]at hn;refine Ev.up ?_;simp only[G.dM.K5,ai,dA (show i+1<9223372036854775808 by omega),aj.eta];exact Ev.chk (by omega) (Ev.bind (hs _ _ hso hx) (Ev.bind g3 hn))
    refine Ev.cf (by simpa using c) (Ev.bind gq ?_);cases hj:D9 m (p.Names.getD i default)with
    |none=>exact Ev.cf rfl (fin vJ (by unfold lk;rw[hj];rfl))
    | some j=>have ej:=hqj j hj;subst ej;have hjl:=yL hj;simp only[ai];exact Ev.ct rfl (Ev.chk (by omega) (fin (m.Kids.getD q default) (by unfold lk;rw[hj];rfl)))
end
theorem T.Hw : ∀(d:Nat) {E:Nat} {n p:aj},d<=5->Shape d p=true->ShN E n->Ev (λf=>G.dM f n p) (Jz d n p)
 |0,_,_,_,_,h,_=>by cases h
 | d+1,E,n,p,hd,hp,hn=>by
   refine Ev.up ?_;simp only[G.dM];rw[Qj];refine Ev.ite (λc=>?_) (λc=>?_)
   ·have:¬p.Kind=4:=(by simpa using c);rw[if_neg this];exact Ev.bind (T.aP Bh (yx hp)) (Ev.ret _)
   ·have kp:p.Kind=4:=(by simpa using c);rw[if_pos kp];have mp:=Yv hp kp;obtain⟨e,he,hb,hq⟩:=WQ hn;have L:=T.Hw.L4 mp (Mc hb (by omega:e<=d+e+1) (au _)) hq (by omega) (λo q ho hq=>T.Hw d (by omega) hq ho) p.Kids.length 0 (by omega);have L':Ev (λf=>G.dM.K1 f p (Ns n).Kind (Ns n).Num (Ns n).Text (Ns n).Names (Ns n).Kids) ((aQ 0 p.Kids.length).foldl (OJ (Jz d) p) (Ns n)):=by
     refine Ev.up ?_;simp only[G.dM.K1];exact L
    unfold Ns at L'⊢;refine Ev.ite (λc=>?_) (λc=>?_)
    ·have kn:n.Kind=4:=(by simpa using c);rw[if_pos kn]at L'⊢;have hf:Fine 12 E n:=by
      rcases hn with h|h
      ·exact yx h
      ·rw[h]at kn;cases kn
     exact Ev.bind (T.aP Bh hf) L'
    ·have kn:¬n.Kind=4:=(by simpa using c);rw[if_neg kn]at L'⊢;exact L'
theorem T.qC {D E:Nat}{n p:aj}(hn:Fine 60 D n)(hp:Fine 60 E p):Ev (λf=>G.qC f n p) (oK (if Val n&&Val p then(some (Jz 5 n p)).filter Val else none)):=by refine Ev.up ?_;simp only[G.qC];refine Ev.bind (T.aX yS hn) (Ev.ite (λe1=>?_) (λe1=>Ev.ret' (by rw[e1];rfl)));refine Ev.bind (T.aX yS hp) (Ev.ite (λe2=>?_) (λe2=>Ev.ret' (by rw[e1,e2];rfl)));have gp:=T.Hw 5 (by omega) (lF e2) (.inl (lF e1));have gc:=T.mX (o:=some (Jz 5 n p)) Bh (λm hm=>by cases hm;exact Md 5 (lF e2) (.inl (lF e1)));rw[e1,e2];exact Ev.bind gp (Ev.bind gc (Ev.ret _))
end
section
def Yy (b:UInt8):Bool:=(decide (97<=b.toNat)&&decide (b.toNat<=122))||(decide (48<=b.toNat)&&decide (b.toNat<=57))
def UR (s:aO):Bool:=s.all Yy&&(decide (1<=s.length)&&decide (s.length<=8))
def KT (c:Int)(it:bG):Bool:=UR it.Name&&(Val it.Node&&(decide (1<=it.Version)&&decide (it.Version<=c)))
def uC (l:List bG):List aO:=l.map λit=>it.Name
def Nk (s:StoreT):Bool:=(s.Items.all (KT s.Clock)&&Asc (uC s.Items))&&(decide (s.Items.length<=10)&&(decide (0<=s.Clock)&&decide (s.Clock<=999)))
structure IC (B:Nat)(s:StoreT):Prop where
 len:s.Items.length<=B
 Me:∀it,it∈s.Items->it.Name.length<=B
 nod:∀it,it∈s.Items->aaO B it.Node
theorem x9 {l:List bG} : (uC l).length=l.length:=by unfold uC;rw[kJ]
theorem DR {l:List bG}{i:Nat}(h:i<l.length):(uC l).getD i default=(l.getD i default).Name:=by rw[fZ _ (by rw[x9];exact h),fZ _ h];unfold uC;rw[List.getElem_map]
theorem Lh {l:List aO}{i:Nat}(h0:0<i)(h:i<l.length):Asc (l.drop (i-1))=(bl (l.getD (i-1) default) (l.getD i default)&&Asc (l.drop i)):=by rw[drop_pred h0 h,Asc,dI (default:aO) h]
theorem OW {l:List aO}{i:Nat}(h:l.length<=i):Asc (l.drop (i-1))=true:=by
 by_cases h0:l.length<=i-1
 ·rw[ak h0];rfl
 ·rw[dI (default:aO) (by omega:i-1<l.length),ak (by omega)];rfl
theorem T.iU.L1 (s:aO)(hs:s.length<big):∀(k i:Nat),i+k=s.length->Ev (λf=>G.iU.L1 f s i) ((s.drop i).all Yy&&(decide (1<=s.length)&&decide (s.length<=8))):=by
 unfold big at hs;intro k
 induction k with
 | zero=>
   intro i hi;refine Ev.up ?_;simp only[G.iU.L1];refine Ev.cf (decide_eq_false (by omega)) (Ev.bind (T.fP _ _ _) (Ev.ret' ?_));rw[ak (by omega),wz,bQ]
   congr 1<;>(apply decide_eq_decide.2;omega)
 | succ k ih=>
   intro i hi;refine Ev.up ?_;simp only[G.iU.L1,ai,GG,dA (show i+1<9223372036854775808 by omega)];rw[dI (0:UInt8) (by omega:i<s.length),dJ];have e1:(decide ((97:Int)<=((s.getD i 0).toNat:Int))&&decide (((s.getD i 0).toNat:Int)<=122))=(decide (97<=(s.getD i 0).toNat)&&decide ((s.getD i 0).toNat<=122)):=(by congr 1<;>(apply decide_eq_decide.2;omega));have e2:(decide ((48:Int)<=((s.getD i 0).toNat:Int))&&decide (((s.getD i 0).toNat:Int)<=57))=(decide (48<=(s.getD i 0).toNat)&&decide ((s.getD i 0).toNat<=57)):=(by congr 1<;>(apply decide_eq_decide.2;omega));refine Ev.ct (decide_eq_true (by omega)) (Ev.chk (by omega) (Ev.bind (T.fP _ _ _) ?_));rw[e1];refine Ev.ite (λh=>?_) (λh=>?_)
   ·refine(ih (i+1) (by omega)).eq ?_;unfold Yy;rw[show(decide (97<=(s.getD i 0).toNat)&&decide ((s.getD i 0).toNat<=122))=true from h,zK,bQ]
   ·refine Ev.chk (by omega) (Ev.bind (T.fP _ _ _) ?_);rw[e2];refine Ev.ite (λh2=>?_) (λh2=>Ev.ret' ?_)
    ·refine(ih (i+1) (by omega)).eq ?_;unfold Yy;rw[show(decide (48<=(s.getD i 0).toNat)&&decide ((s.getD i 0).toNat<=57))=true from h2,zJ,bQ]
    ·unfold Yy;rw[show(decide (97<=(s.getD i 0).toNat)&&decide ((s.getD i 0).toNat<=122))=false from h,show(decide (48<=(s.getD i 0).toNat)&&decide ((s.getD i 0).toNat<=57))=false from h2];rfl
theorem T.iU (s:aO)(hs:s.length<big):Ev (λf=>G.iU f s) (UR s):=by refine Ev.up ?_;simp only[G.iU];exact T.iU.L1 s hs s.length 0 (by omega)
theorem T.jJ.L1 (s:aO)(hs:s.length<big):∀(k i:Nat),i+k=s.length->Ev (λf=>G.jJ.L1 f s i) ((s.drop i).all Yy):=by
 unfold big at hs;intro k
 induction k with
 | zero=>intro i hi;refine Ev.up ?_;simp only[G.jJ.L1];refine Ev.cf (decide_eq_false (by omega)) (Ev.ret' ?_);rw[ak (by omega)];rfl
 | succ k ih=>
   intro i hi;refine Ev.up ?_;simp only[G.jJ.L1,ai,dA (show i+1<9223372036854775808 by omega)];rw[dI (0:UInt8) (by omega:i<s.length),dJ];have yes:Yy (s.getD i 0)=true->Ev (λf=>G.jJ.L1 f s ((i+1:Nat):Int)) (Yy (s.getD i 0)&&(s.drop (i+1)).all Yy):=λh=>(ih (i+1) (by omega)).eq (by rw[h];rfl);have no:Yy (s.getD i 0)=false->Ev (λ_=>some false) (Yy (s.getD i 0)&&(s.drop (i+1)).all Yy):=λh=>Ev.ret' (by rw[h];rfl);have ok:Yy (s.getD i 0)=decide ((97<=(s.getD i 0).toNat/\(s.getD i 0).toNat<=122)\/(48<=(s.getD i 0).toNat/\(s.getD i 0).toNat<=57)):=(by unfold Yy;simp);refine Ev.ct (decide_eq_true (by omega)) (Ev.chk (by omega) ?_);refine Ev.ite (λh=>?_) (λh=>?_)
   ·simp only[decide_eq_true_eq]at h;refine Ev.chk (by omega) (Ev.ite (λh2=>?_) (λh2=>?_))
    ·simp only[decide_eq_true_eq]at h2;exact no (by rw[ok];exact decide_eq_false (by omega))
    ·simp only[decide_eq_false_iff_not]at h2;refine Ev.chk (by omega) (Ev.ite (λh3=>?_) (λh3=>?_))
     ·simp only[decide_eq_true_eq]at h3;exact no (by rw[ok];exact decide_eq_false (by omega))
     ·simp only[decide_eq_false_iff_not]at h3;exact yes (by rw[ok];exact decide_eq_true (by omega))
   ·simp only[decide_eq_false_iff_not]at h;refine Ev.chk (by omega) (Ev.ite (λh2=>?_) (λh2=>?_))
    ·simp only[decide_eq_true_eq]at h2;refine Ev.chk (by omega) (Ev.cf (decide_eq_false (by omega)) (Ev.chk (by omega) (Ev.ct (decide_eq_true (by omega)) ?_)));exact no (by rw[ok];exact decide_eq_false (by omega))
    ·simp only[decide_eq_false_iff_not]at h2;exact yes (by rw[ok];exact decide_eq_true (by omega))
theorem T.jJ (s:aO)(hs:s.length<big):Ev (λf=>G.jJ f s) (UR s):=by
 refine Ev.up ?_;simp only[G.jJ];unfold UR;refine Ev.ite (λh=>Ev.ret' ?_) (λh=>Ev.ite (λh2=>Ev.ret' ?_) (λh2=>?_))
 ·have:s=[]:=by simpa using h
  subst this;rfl
 ·simp only[decide_eq_true_eq]at h2;rw[decide_eq_false (show ¬s.length<=8 by omega),rD,rD]
 ·simp only[decide_eq_false_iff_not]at h2;have hne:s≠[]:=by simpa using h
  have hl:1<=s.length:=by cases s with
   |nil=>exact absurd rfl hne
   |cons _ _=>simp
  refine(T.jJ.L1 s hs s.length 0 (by omega)).eq ?_;rw[decide_eq_true hl,decide_eq_true (show s.length<=8 by omega),bZ];simp
theorem IC.at_ {B:Nat}{s:StoreT}(h:IC B s){i:Nat}(hi:i<s.Items.length):(s.Items.getD i default).Name.length<=B/\aaO B (s.Items.getD i default).Node:=
 ⟨h.Me _ (getD_mem default hi),h.nod _ (getD_mem default hi)⟩
section
variable {B:Nat} {s:StoreT} (hB:B<=lim) (h:IC B s)
include hB h
theorem T.gY.L1 : ∀(k i:Nat),i+k=s.Items.length->Ev (λf=>G.gY.L1 f s i) (((s.Items.drop i).all (KT s.Clock)&&Asc ((uC s.Items).drop (i-1)))&&(decide (s.Items.length<=10)&&(decide (0<=s.Clock)&&decide (s.Clock<=999)))):=by
 have hl:=h.len;unfold lim at hB;intro k
 induction k with
 | zero=>
   intro i hi;refine Ev.up ?_;simp only[G.gY.L1];rw[ak (by omega),OW (by rw[x9];omega)];refine Ev.cf (decide_eq_false (by omega)) (Ev.ite (λe=>?_) (λe=>Ev.ret' ?_))
   ·refine Ev.bind (T.fP _ _ _) (Ev.ret' ?_);rw[decide_eq_true (show s.Items.length<=10 by simp only[decide_eq_true_eq]at e;omega)];simp
   ·rw[decide_eq_false (show ¬s.Items.length<=10 by simp only[decide_eq_false_iff_not]at e;omega)];simp
 | succ k ih=>
   intro i hi;have hil:i<s.Items.length:=(by omega);obtain⟨hn,⟨D,hd⟩⟩:=h.at_ hil;refine Ev.up ?_;simp only[G.gY.L1,ai,dA (show i+1<9223372036854775808 by omega)];rw[dI (default:bG) hil,dJ];refine Ev.ct (decide_eq_true (by omega)) (Ev.chk (by omega) ?_);unfold KT;refine Ev.bind (T.iU _ (by unfold big;omega)) (Ev.ite (λe1=>?_) (λe1=>Ev.ret' (by rw[e1];simp)));refine Ev.bind (T.eG (by unfold lim;omega) hd) (Ev.ite (λe2=>?_) (λe2=>Ev.ret' (by rw[e2];simp)));refine Ev.bind (T.fP _ _ _) (Ev.ite (λe3=>?_) (λe3=>Ev.ret' (by rw[e3];simp)));rw[e1,e2,e3];have ih':=ih (i+1) (by omega);unfold KT at ih';rw[jb]at ih';by_cases h0:0<i
   ·have e:af .i64 ((i:Int)-1)=((i-1:Nat):Int):=wrapN (by omega) (by omega);rw[e,ai];rw[Lh h0 (by rw[x9];exact hil),DR hil,DR (by omega:i-1<s.Items.length)];refine Ev.ct (decide_eq_true (by omega)) (Ev.chk (by omega) (Ev.ite (λh1=>Ev.ret' ?_) (λh1=>Ev.ite (λh2=>Ev.ret' ?_) (λh2=>?_))))
    ·rw[show bl (s.Items.getD (i-1) default).Name (s.Items.getD i default).Name=false from Lj h1];simp
    ·rw[beq_iff_eq]at h2;rw[show bl (s.Items.getD (i-1) default).Name (s.Items.getD i default).Name=false by rw[h2];exact Ko _];simp
    ·have hb:bl (s.Items.getD (i-1) default).Name (s.Items.getD i default).Name=true:=by
      cases hb:bl (s.Items.getD (i-1) default).Name (s.Items.getD i default).Name with
      |true=>rfl
      |false=>rw[IL h1 hb]at h2;simp at h2
     rw[hb];exact ih'.eq (by simp)
   ·have:i=0:=(by omega);subst this;exact Ev.cf (by decide) (ih'.eq (by simp))
theorem T.gY : Ev (λf=>G.gY f s) (Nk s):=by refine Ev.up ?_;simp only[G.gY];exact T.gY.L1 hB h s.Items.length 0 (by omega)
theorem T.cZ.L1 : ∀(k i:Nat),i+k=s.Items.length->Ev (λf=>G.cZ.L1 f s i) ((s.Items.drop i).all (KT s.Clock)&&Asc ((uC s.Items).drop (i-1))):=by
 have hl:=h.len;unfold lim at hB;intro k
 induction k with
 | zero=>intro i hi;refine Ev.up ?_;simp only[G.cZ.L1];rw[ak (by omega),OW (by rw[x9];omega)];exact Ev.cf (decide_eq_false (by omega)) (Ev.ret _)
 | succ k ih=>
   intro i hi;have hil:i<s.Items.length:=(by omega);obtain⟨hn,⟨D,hd⟩⟩:=h.at_ hil;refine Ev.up ?_;simp only[G.cZ.L1,ai,dA (show i+1<9223372036854775808 by omega)];rw[dI (default:bG) hil,dJ];have ih':=ih (i+1) (by omega);rw[jb]at ih';refine Ev.ct (decide_eq_true (by omega)) (Ev.chk (by omega) ?_);refine Ev.bind (T.jJ _ (by unfold big;omega)) (Ev.ite (λe1=>?_) (λe1=>Ev.ret' (by unfold KT;rw[e1];simp)));have tail:∀q:Bool,(q=true->Asc ((uC s.Items).drop (i-1))=Asc ((uC s.Items).drop i))->q=true->Ev (λf=>cond (decide ((s.Items.getD i default).Version<1)) (some false) (cond (decide (s.Clock<(s.Items.getD i default).Version)) (some false)
    (jc (G.aX f (s.Items.getD i default).Node) λv=>cond v (G.cZ.L1 f s ((i+1:Nat):Int)) (some false)))) (KT s.Clock (s.Items.getD i default)&&(s.Items.drop (i+1)).all (KT s.Clock)&&Asc ((uC s.Items).drop (i-1))):=λq hq hq'=>by
    rw[hq hq'];refine Ev.ite (λv1=>Ev.ret' ?_) (λv1=>Ev.ite (λv2=>Ev.ret' ?_) (λv2=>?_))
    ·simp only[decide_eq_true_eq]at v1;unfold KT;rw[decide_eq_false (show ¬ 1<=(s.Items.getD i default).Version by omega)];simp
    ·simp only[decide_eq_true_eq]at v2;unfold KT;rw[decide_eq_false (show ¬(s.Items.getD i default).Version<=s.Clock by omega)];simp
    ·simp only[decide_eq_false_iff_not]at v1 v2;refine Ev.bind (T.aX (by unfold lim;omega) hd) (Ev.ite (λe2=>?_) (λe2=>Ev.ret' (by unfold KT;rw[e2];simp)));refine ih'.eq ?_;have:KT s.Clock (s.Items.getD i default)=true:=by
      unfold KT;rw[e1,e2,decide_eq_true (show 1<=(s.Items.getD i default).Version by omega),decide_eq_true (show(s.Items.getD i default).Version<=s.Clock by omega)];rfl
     rw[this];rfl
   by_cases h0:0<i
   ·have e:af .i64 ((i:Int)-1)=((i-1:Nat):Int):=wrapN (by omega) (by omega);rw[e,ai];have hst:=Lh h0 (l:=uC s.Items) (by rw[x9];exact hil);rw[DR hil,DR (by omega:i-1<s.Items.length)]at hst;refine Ev.ct (decide_eq_true (by omega)) (Ev.chk (by omega) (Ev.ite (λh1=>?_) (λh1=>Ev.ret' ?_)))
    ·exact tail true (λ_=>by rw[hst,show bl (s.Items.getD (i-1) default).Name (s.Items.getD i default).Name=true from h1];rfl) rfl
    ·rw[hst,show bl (s.Items.getD (i-1) default).Name (s.Items.getD i default).Name=false from h1];simp
   ·have:i=0:=(by omega);subst this;exact Ev.cf (by decide) (tail true (λ_=>rfl) rfl)
theorem T.cZ : Ev (λf=>G.cZ f s) (Nk s):=by
 refine Ev.up ?_;simp only[G.cZ];unfold Nk;refine Ev.ite (λe=>Ev.ret' ?_) (λe=>Ev.ite (λe2=>Ev.ret' ?_) (λe2=>Ev.ite (λe3=>Ev.ret' ?_) (λe3=>?_)))
 ·rw[decide_eq_false (show ¬s.Items.length<=10 by simp only[decide_eq_true_eq]at e;omega)];simp
 ·rw[decide_eq_false (show ¬ 0<=s.Clock by simp only[decide_eq_true_eq]at e2;omega)];simp
 ·rw[decide_eq_false (show ¬s.Clock<=999 by simp only[decide_eq_true_eq]at e3;omega)];simp
 ·simp only[decide_eq_false_iff_not]at e e2 e3;refine(T.cZ.L1 hB h s.Items.length 0 (by omega)).eq ?_;rw[decide_eq_true (show s.Items.length<=10 by omega),decide_eq_true (show 0<=s.Clock by omega),decide_eq_true (show s.Clock<=999 by omega),bZ];simp
theorem T.fE : Ev (λf=>G.fE f s) s:=by
 have hl:=h.len;unfold lim at hB;have L:∀(k i:Nat),i+k=s.Items.length->Ev (λf=>G.fE.L1 f s i (s.Items.take i)) s:=by
  intro k
  induction k with
  | zero=>intro i hi;refine Ev.up ?_;simp only[G.fE.L1];refine Ev.cf (decide_eq_false (by omega)) (Ev.ret' ?_);rw[aF (by omega)]
  | succ k ih=>intro i hi;have hil:i<s.Items.length:=(by omega);obtain⟨hn,⟨D,hd⟩⟩:=h.at_ hil;refine Ev.up ?_;simp only[G.fE.L1,ai,dA (show i+1<9223372036854775808 by omega)];refine Ev.ct (decide_eq_true (by omega)) (Ev.chk (by omega) (Ev.chk (by omega) (Ev.chk (by omega) (Ev.bind (T.aY (by unfold lim;omega) hd) (Ev.chk (by simp;omega) ?_)))));have:=ih (i+1) (by omega);rw[iH hil,<- fZ (default:bG) hil]at this;exact this
 refine Ev.up ?_;simp only[G.fE];exact L s.Items.length 0 (by omega)
theorem T.dP : Ev (λf=>G.dP f s) s:=by
 have hl:=h.len;unfold lim at hB;have L:∀(k i:Nat),i+k=s.Items.length->Ev (λf=>G.dP.L1 f s i (s.Items.take i++bU (s.Items.length-i) (bG.mk [] 0 (aj.mk 0 0 [] [] [])))) s:=by
  intro k
  induction k with
  | zero=>intro i hi;refine Ev.up ?_;simp only[G.dP.L1];refine Ev.cf (decide_eq_false (by omega)) (Ev.ret' ?_);rw[aF (by omega),show s.Items.length-i=0 by omega,List.replicate_zero,eX]
  | succ k ih=>
    intro i hi;have hil:i<s.Items.length:=(by omega);obtain⟨hn,⟨D,hd⟩⟩:=h.at_ hil;have hc:Ev (λf=>G.qf f (s.Items.getD i default)) (s.Items.getD i default):=by refine Ev.up ?_;simp only[G.qf];exact Ev.bind (T.aP (by unfold lim;omega) hd) (Ev.ret _)
    refine Ev.up ?_;simp only[G.dP.L1,ai,dA (show i+1<9223372036854775808 by omega)];refine Ev.ct (decide_eq_true (by omega)) (Ev.chk (by omega) (Ev.bind hc (Ev.chk (by simp;omega) ?_)));have hset:(s.Items.take i++bU (s.Items.length-i) (bG.mk [] 0 (aj.mk 0 0 [] [] []))).set i (s.Items.getD i default)=s.Items.take (i+1)++bU (s.Items.length-(i+1)) (bG.mk [] 0 (aj.mk 0 0 [] [] [])):=by obtain⟨q,hq⟩:∃q,s.Items.length-i=q+1:=⟨s.Items.length-i-1,by omega⟩;have e1:(s.Items.take i).length=i:=(by simp;omega);rw[hq,List.replicate_succ,List.set_append_right _ _ (by omega),e1,Nat.sub_self,FT,show s.Items.length-(i+1)=q by omega,iH hil,fZ _ hil,dh];rfl
    rw[hset];exact ih (i+1) (by omega)
 refine Ev.up ?_;simp only[G.dP];refine Ev.ite (λe=>?_) (λe=>Ev.ret' ?_)
 ·refine Ev.chk (by omega) ?_;have:=L s.Items.length 0 (by omega);rw[List.take_zero,gJ,o6]at this;exact this
 ·have:s.Items=[]:=di (by simp only[decide_eq_false_iff_not]at e;omega);cases s;simp only at this;subst this;rfl
end
structure QZ (s:StoreT):Prop where
 itm:∀it,it∈s.Items->KT s.Clock it=true
 Le:Asc (uC s.Items)=true
 len:s.Items.length<=10
 lo:0<=s.Clock
 hi:s.Clock<=999
theorem Bd {s:StoreT} : Nk s=true<->QZ s:=by unfold Nk;simp only[ah,decide_eq_true_eq,bg];exact⟨λ⟨⟨h1,h2⟩,h3,h4,h5⟩=>⟨h1,h2,h3,h4,h5⟩,λh=>⟨⟨h.itm,h.Le⟩,h.len,h.lo,h.hi⟩⟩
structure ItF (c:Int)(it:bG):Prop where
 Me:UR it.Name=true
 nod:Val it.Node=true
 lo:1<=it.Version
 hi:it.Version<=c
theorem Qh {c:Int}{it:bG} : KT c it=true<->ItF c it:=by unfold KT;simp only[ah,decide_eq_true_eq];exact⟨λ⟨h1,h2,h3,h4⟩=>⟨h1,h2,h3,h4⟩,λh=>⟨h.Me,h.nod,h.lo,h.hi⟩⟩
theorem I9 {s:aO}(h:UR s=true):1<=s.length/\s.length<=8:=by unfold UR at h;simp only[ah,decide_eq_true_eq]at h;exact h.2
theorem QZ.it {s:StoreT}(h:QZ s){i:Nat}(hi:i<s.Items.length):ItF s.Clock (s.Items.getD i default):=Qh.1 (h.itm _ (getD_mem default hi))
theorem QZ.fine {s:StoreT}(h:QZ s):IC 60 s:=
 ⟨by have:=h.len;omega,λit hi=>by have:=(I9 (Qh.1 (h.itm it hi)).Me).2;omega,λit hi=>⟨5,yR (Qh.1 (h.itm it hi)).nod⟩⟩
def ZT : StoreT:=StoreT.mk [] 0
theorem T.abh.L1 {l:List bG}(t:aO)(hl:l.length<big)(hA:∀i j,i<j->j<(uC l).length->bl ((uC l).getD i default) ((uC l).getD j default)=true) :
 ∀ (k i j:Nat),j-i<=k->i<=j->j<=l.length->(∀q,q<i->bl ((uC l).getD q default) t=true)->(∀q,j<=q->q<(uC l).length->bl ((uC l).getD q default) t=false) ->
   ∃p:Nat,Ev (λf=>G.aH.L1 f l t i j) ((p:Int),decide (p<l.length)&&(l.getD p default).Name==t)/\LB (uC l) t p:=by
 unfold big at hl;have cmp:∀i,Ev (λf=>G.qw f (l.getD i default) t) (jI (l.getD i default).Name t):=λi=>by
  refine Ev.up ?_;simp only[G.qw];have h1:Ev (λf=>G.strings_Compare f (l.getD i default).Name t) (jI (l.getD i default).Name t):=by
   refine Ev.up ?_;simp only[G.strings_Compare];have:Ev (λf=>G.iD f (l.getD i default).Name t) (jI (l.getD i default).Name t):=by refine Ev.up ?_;simp only[G.iD];exact Ev.ret _
   exact Ev.bind this (Ev.ret _)
  exact Ev.bind h1 (Ev.ret _)
 have neg:∀x y:aO,decide (jI x y<0)=bl x y:=λx y=>by
  rw[ae3];cases h:bl x y with
  |true=>rw[if_pos rfl];rfl
  |false=>rw[if_neg (by simp)];by_cases e:x=y<;>simp[e]
 have eqz:∀x y:aO,(jI x y==0)=(x==y):=λx y=>by rw[pg,beq_iff_eq,beq_iff_eq];exact RH
 intro k
 induction k with
 | zero=>
   intro i j hk hij hj hlo hhi;have:i=j:=(by omega);subst this;refine⟨i,Ev.up ?_,by rw[x9];exact hj,hlo,hhi⟩;simp only[G.aH.L1,ai];refine Ev.cf (by simp) (Ev.ite (λe=>?_) (λe=>Ev.ret' ?_))
   ·have e':i<l.length:=(by simpa using e);refine Ev.chk (by omega) (Ev.bind (cmp i) (Ev.ret' ?_));rw[eqz,decide_eq_true e',bQ]
   ·have d1:decide (i<l.length)=false:=(by simpa using e);rw[d1];rfl
 | succ k ih=>
   intro i j hk hij hj hlo hhi;by_cases he:i=j
   ·exact ih i j (by omega) hij hj hlo hhi
   have h1:(i+j)/2<j:=(by omega);have h2:i<=(i+j)/2:=(by omega);have hat:=DR (l:=l) (i:=(i+j)/2) (by omega);cases hc:bl ((uC l).getD ((i+j)/2) default) t with
   | true=>
     obtain⟨p,g,hp⟩:=ih ((i+j)/2+1) j (by omega) (by omega) hj (λq hq=>by
      by_cases hq2:q=(i+j)/2
      ·rw[hq2];exact hc
      ·exact Bv (hA q ((i+j)/2) (by omega) (by rw[x9];omega)) hc) hhi
     refine⟨p,Ev.up ?_,hp⟩;simp only[G.aH.L1];refine Ev.ct (by simp;omega) ?_;rw[half i j (by omega),ai];refine Ev.chk (by omega) (Ev.bind (cmp _) (Ev.ct (by rw[neg,<- hat];exact hc) ?_));rw[dA (by omega)];exact g
   | false=>
     obtain⟨p,g,hp⟩:=ih i ((i+j)/2) (by omega) h2 (by omega) hlo (λq hq hq2=>by
      by_cases hq3:q=(i+j)/2
      ·rw[hq3];exact hc
      ·cases hb:bl ((uC l).getD q default) t with
       |false=>rfl
       |true=>rw[Bv (hA ((i+j)/2) q (by omega) hq2) hb]at hc;cases hc)
     refine⟨p,Ev.up ?_,hp⟩;simp only[G.aH.L1];refine Ev.ct (by simp;omega) ?_;rw[half i j (by omega),ai];refine Ev.chk (by omega) (Ev.bind (cmp _) (Ev.cf (by rw[neg,<- hat];exact hc) ?_));exact g
theorem T.nN {l:List bG}(t:aO)(hl:l.length<big)(hA:Asc (uC l)=true) :
 ∃p:Nat,Ev (λf=>G.nN f l t) ((p:Int),decide (p<l.length)&&(l.getD p default).Name==t)/\LB (uC l) t p:=by
 obtain⟨p,g,hp⟩:=T.abh.L1 t hl (EG hA) l.length 0 l.length (by omega) (by omega) (by omega) (λq hq=>by omega) (λq h1 h2=>by rw[x9]at h2;omega);refine⟨p,Ev.up ?_,hp⟩;simp only[G.nN];have g':Ev (λf=>G.aH f l t) ((p:Int),decide (p<l.length)&&(l.getD p default).Name==t):=by refine Ev.up ?_;simp only[G.aH];exact g
 exact Ev.bind g' (Ev.ret _)
end
section
def HY (x:bG):List bG->List bG
 |[]=>[x]
 |y::r=>if bl y.Name x.Name then y::HY x r else if y.Name=x.Name then x::r else x::y::r
def Qu (s:StoreT)(t:aO)(n:aj):StoreT:=StoreT.mk (HY (bG.mk t (s.Clock+1) n) s.Items) (s.Clock+1)
def KZ (s:StoreT)(t:aO)(n:aj):Option StoreT:=if Nk s&&UR t&&Val n then(some (Qu s t n)).filter Nk else none
def VS : Option StoreT->StoreT×Bool
 |some s=>(s,true)
 |none=>(ZT,false)
theorem Ug {s:StoreT} : VS ((some s).filter Nk)=if Nk s then(s,true)else(ZT,false):=by cases h:Nk s<;>simp[oH,h,VS]
theorem MB {y:bG}{r:List bG} : uC (y::r)=y.Name::uC r:=rfl
theorem YC {x:bG} : ∀{l:List bG} {p:Nat},LB (uC l) x.Name p->HY x l=if decide (p<l.length)&&(l.getD p default).Name==x.Name then l.set p x else l.take p++[x]++l.drop p
 | [],p,h=>by have:p=0:=(by have:=h.le;simpa[uC]using this);subst this;rfl
 | y::r,0,h=>by
   have hb:bl y.Name x.Name=false:=h.hi 0 (by omega) (by rw[x9];simp);rw[HY,hb,if_neg (by simp)];by_cases e:y.Name=x.Name
   ·rw[if_pos e,if_pos (by simp[e])];rfl
   ·rw[if_neg e,if_neg (by simp[e])];rfl
 | y::r,p+1,h=>by
   have hb:bl y.Name x.Name=true:=h.lo 0 (by omega);have hr:LB (uC r) x.Name p:=⟨by have:=h.le;rw[x9]at this⊢;simp at this;omega,λj hj=>by
    have:=h.lo (j+1) (by omega)
    rwa[MB,uz]at this,λj h1 h2=>by
    have:=h.hi (j+1) (by omega) (by rw[MB];simp;omega)
    rwa[MB,uz]at this⟩
   rw[HY,if_pos hb,YC hr];have e1:(decide (p+1<(y::r).length)&&((y::r).getD (p+1) default).Name==x.Name)=(decide (p<r.length)&&(r.getD p default).Name==x.Name):=(by simp);rw[e1];by_cases c:(decide (p<r.length)&&(r.getD p default).Name==x.Name)=true
   ·rw[if_pos c,if_pos c];rfl
   ·rw[if_neg c,if_neg c];rfl
theorem U2 {y:bG}{r:List bG}(h:Asc (uC (y::r))=true):Asc (uC r)=true/\∀z,z∈r->bl y.Name z.Name=true:=by rw[MB]at h;exact⟨Fv h,λz hz=>Gq h _ (List.mem_map.2 ⟨z,hz,rfl⟩)⟩
theorem FD {x:bG} : ∀{l:List bG} {it:bG},Asc (uC l)=true->(it∈HY x l<->it=x\/(it∈l/\it.Name≠x.Name))
 |[],it,_=>by simp[HY]
 | y::r,it,h=>by
   obtain⟨h1,h2⟩:=U2 h;rw[HY];cases hb:bl y.Name x.Name with
   | true=>
     have hne:=FW hb;rw[if_pos rfl,cO,FD h1,cO];constructor
     ·rintro(e|e|⟨e,e2⟩)
      ·exact .inr ⟨.inl e,e▸hne⟩
      ·exact .inl e
      ·exact .inr ⟨.inr e,e2⟩
     ·rintro(e|⟨e|e,e2⟩)
      ·exact .inr (.inl e)
      ·exact .inl e
      ·exact .inr (.inr ⟨e,e2⟩)
   | false=>
     rw[if_neg (by simp)];by_cases e:y.Name=x.Name
     ·rw[if_pos e,cO,cO];constructor
      ·rintro(q|q)
       ·exact .inl q
       ·exact .inr ⟨.inr q,λw=>by have:=FW (h2 it q);rw[e,w]at this;exact this rfl⟩
      ·rintro(q|⟨q|q,w⟩)
       ·exact .inl q
       ·exact absurd (q▸e) w
       ·exact .inr q
     ·rw[if_neg e,cO,cO];have hx:bl x.Name y.Name=true:=by
       cases k:bl x.Name y.Name with
       |true=>rfl
       |false=>exact absurd (IL hb k) e
      constructor
      ·rintro(q|q|q)
       ·exact .inl q
       ·exact .inr ⟨.inl q,q▸e⟩
       ·exact .inr ⟨.inr q,λw=>by have:=FW (Bv hx (h2 it q));rw[w]at this;exact this rfl⟩
      ·rintro(q|⟨q,_⟩)
       ·exact .inl q
       ·exact .inr q
theorem Qs {x:bG} : ∀{l:List bG},(HY x l).length<=l.length+1
 |[]=>by simp[HY]
 | y::r=>by
   have:=Qs (x:=x) (l:=r);rw[HY];split
   ·simp only[dB];omega
   ·split<;>simp
theorem T.vT {l:List bG}{x:bG}(hl:l.length<=1000)(hA:Asc (uC l)=true):Ev (λf=>G.vT f l x) (HY x l):=by
 obtain⟨p,g,hp⟩:=T.nN x.Name (by unfold big;omega) hA;have hle:=hp.le;rw[x9]at hle;rw[YC hp];refine Ev.up ?_;simp only[G.vT];refine Ev.bind g ?_;cases hc:decide (p<l.length)&&(l.getD p default).Name==x.Name with
 | true=>rw[if_pos rfl];simp only[ah,decide_eq_true_eq]at hc;exact Ev.ct rfl (Ev.chk (by omega) (Ev.ret' (by rw[ai])))
 | false=>rw[if_neg (by simp)];refine Ev.cf rfl (Ev.bind (Ev.up ?_) (Ev.ret _));simp only[G.nP];exact Ev.chk (by simp;omega) (Ev.ret' (by rw[ai]))
section
variable {B D:Nat} {s:StoreT} {t:aO} {n:aj} (hB:B<=lim) (h:IC B s) (ht:t.length<=B) (hn:Fine B D n)
include hB h ht hn
theorem T.tX : Ev (λf=>G.tX f s t n) (VS (KZ s t n)):=by
 refine Ev.up ?_;simp only[G.tX];unfold KZ;refine Ev.bind (T.cZ hB h) (Ev.ite (λe1=>?_) (λe1=>Ev.ret' (by rw[e1];rfl)));refine Ev.bind (T.jJ _ (by unfold big;unfold lim at hB;omega)) (Ev.ite (λe2=>?_) (λe2=>Ev.ret' (by rw[e1,e2];rfl)));refine Ev.bind (T.aX hB hn) (Ev.ite (λe3=>?_) (λe3=>Ev.ret' (by rw[e1,e2,e3];rfl)));have hs:=Bd.1 e1;have hl:=hs.len;have hlo:=hs.lo;have hhi:=hs.hi;have w:af .i64 (s.Clock+1)=s.Clock+1:=by rw[Eu (by omega) (by omega)]
 rw[e1,e2,e3];refine Ev.bind (T.dP hB h) (Ev.bind (T.aP hB hn) ?_);rw[w];refine Ev.bind (T.vT (by omega) hs.Le) ?_;have hf:IC 60 (Qu s t n):=by
  have:=Qs (x:=bG.mk t (s.Clock+1) n) (l:=s.Items);refine⟨by show(HY _ _).length<=_;omega,λit hi=>?_,λit hi=>?_⟩
  ·rcases(FD hs.Le).1 hi with e|⟨e,_⟩
   ·rw[e];show t.length<=60;have:=(I9 e2).2;omega
   ·exact hs.fine.Me it e
  ·rcases(FD hs.Le).1 hi with e|⟨e,_⟩
   ·rw[e];exact⟨5,yR e3⟩
   ·exact hs.fine.nod it e
 refine Ev.bind (T.cZ yS hf) ?_;show Ev _ (VS ((some (Qu s t n)).filter Nk));rw[Ug];cases hv:Nk (Qu s t n)with
 |true=>exact Ev.ct hv (Ev.ret _)
 |false=>exact Ev.cf hv (Ev.ret _)
end
section
variable {s:StoreT} {t:aO} {n:aj}
theorem T.lW.done (hl:s.Items.length<=1000):∀(k i:Nat) (z:List bG),i+k=s.Items.length->z.length<=i+1->(∀it,it∈s.Items.drop i->it.Name≠t) ->
 Ev (λf=>G.lW.L3 f s t n s true i z) (StoreT.mk (z++s.Items.drop i) (af .i64 (s.Clock+1))):=by
 intro k
 induction k with
 | zero=>intro i z hi hz _;refine Ev.up ?_;simp only[G.lW.L3];refine Ev.cf (decide_eq_false (by omega)) (Ev.ct rfl (Ev.ret' ?_));rw[ak (by omega),eX]
 | succ k ih=>intro i z hi hz hne;have hil:i<s.Items.length:=(by omega);have hd:=dI (default:bG) hil;rw[hd]at hne;have h1:=hne (s.Items.getD i default) (by simp);refine Ev.up ?_;simp only[G.lW.L3];refine Ev.ct (decide_eq_true (by omega)) (Ev.ct rfl (Ev.up ?_));simp only[G.lW.K4,ai,dA (show i+1<9223372036854775808 by omega)];refine Ev.chk (by omega) (Ev.cf (by simpa using h1) (Ev.chk (by omega) (Ev.chk (by omega) ?_)));refine(ih (i+1) _ (by omega) (by simp;omega) (λit hit=>hne it (by simp[hit]))).eq ?_;rw[hd];simp
theorem T.lW.more (hl:s.Items.length<=1000)(hA:Asc (uC s.Items)=true):∀(k i:Nat) (z:List bG),i+k=s.Items.length->z.length<=i ->
 Ev (λf=>G.lW.L3 f s t n s false i z) (StoreT.mk (z++HY (bG.mk t (af .i64 (s.Clock+1)) n) (s.Items.drop i)) (af .i64 (s.Clock+1))):=by
 intro k
 induction k with
 | zero=>intro i z hi hz;refine Ev.up ?_;simp only[G.lW.L3];refine Ev.cf (decide_eq_false (by omega)) (Ev.cf rfl (Ev.chk (by omega) (Ev.ret' ?_)));rw[ak (by omega)];rfl
 | succ k ih=>
   intro i z hi hz;have hil:i<s.Items.length:=(by omega);have hd:=dI (default:bG) hil;have later:∀it,it∈s.Items.drop (i+1)->bl (s.Items.getD i default).Name it.Name=true:=λit hit=>by obtain⟨j,hj,e⟩:=List.mem_drop_iff_getElem.1 hit;have hj':i+1+j<s.Items.length:=(by omega);have:=EG hA i (i+1+j) (by omega) (by rw[x9];exact hj');rw[DR hil,DR hj',fZ _ hj',e]at this;exact this
   refine Ev.up ?_;simp only[G.lW.L3,ai];rw[hd,HY];refine Ev.ct (decide_eq_true (by omega)) (Ev.cf rfl (Ev.chk (by omega) ?_));refine Ev.ite (λe=>?_) (λe=>?_)
   ·have e:bl (s.Items.getD i default).Name t=true:=e;rw[if_pos e];refine Ev.up ?_;simp only[G.lW.K4,ai,dA (show i+1<9223372036854775808 by omega)];refine Ev.chk (by omega) (Ev.cf (by simpa using FW e) (Ev.chk (by omega) (Ev.chk (by omega) ?_)));refine(ih (i+1) _ (by omega) (by simp;omega)).eq ?_;simp
   ·have e:bl (s.Items.getD i default).Name t=false:=e;rw[if_neg (by simp only[e];simp)];refine Ev.chk (by omega) (Ev.up ?_);simp only[G.lW.K4,ai,dA (show i+1<9223372036854775808 by omega)];refine Ev.chk (by omega) (Ev.ite (λe2=>?_) (λe2=>?_))
    ·have e2:(s.Items.getD i default).Name=t:=(by simpa using e2);rw[if_pos e2];refine(T.lW.done hl k (i+1) _ (by omega) (by simp;omega) (λit hit w=>by have:=FW (later it hit);rw[e2,w]at this;exact this rfl)).eq ?_;simp
    ·have e2:(s.Items.getD i default).Name≠t:=(by simpa using e2);rw[if_neg e2];have hx:bl t (s.Items.getD i default).Name=true:=by
      cases q:bl t (s.Items.getD i default).Name with
      |true=>rfl
      |false=>exact absurd (IL e q) e2
     refine Ev.chk (by omega) (Ev.chk (by simp;omega) ?_);refine(T.lW.done hl k (i+1) _ (by omega) (by simp;omega) (λit hit w=>by have:=FW (Bv hx (later it hit));rw[w]at this;exact this rfl)).eq ?_;simp
end
section
variable {B D:Nat} {s:StoreT} {t:aO} {n:aj} (hB:B<=lim) (h:IC B s)
include hB h
theorem T.lW (hn:Fine B D n)(hs:QZ s):Ev (λf=>G.lW f s t n) (Qu s t n):=by have hl:=hs.len;have hlo:=hs.lo;have hhi:=hs.hi;refine Ev.up ?_;simp only[G.lW];refine Ev.bind (T.aY hB hn) (Ev.bind (T.fE hB h) ?_);refine(T.lW.more (by omega) hs.Le s.Items.length 0 [] (by omega) (by simp)).eq ?_;rw[Eu (by omega) (by omega)];rfl
theorem acp (hs:QZ s)(ht:UR t=true)(hn:Val n=true):IC 60 (Qu s t n):=by
 have:=Qs (x:=bG.mk t (s.Clock+1) n) (l:=s.Items);have:=hs.len;refine⟨by show(HY _ _).length<=_;omega,λit hi=>?_,λit hi=>?_⟩
 ·rcases(FD hs.Le).1 hi with e|⟨e,_⟩
  ·rw[e];show t.length<=60;have:=(I9 ht).2;omega
  ·exact hs.fine.Me it e
 ·rcases(FD hs.Le).1 hi with e|⟨e,_⟩
  ·rw[e];exact⟨5,yR hn⟩
  ·exact hs.fine.nod it e
end
theorem VX {s m:StoreT}{t:aO}{n:aj}(h:KZ s t n=some m):Nk s=true/\UR t=true/\Val n=true/\m=Qu s t n/\Nk m=true:=by
 unfold KZ at h;split at h
 ·rename_i c;obtain⟨⟨c1,c2⟩,c3⟩:(Nk s=true/\UR t=true)/\Val n=true:=by simpa using c
  obtain⟨h1,h2⟩:=vZ.1 h;cases h1;exact⟨c1,c2,c3,rfl,h2⟩
 ·cases h
def Q3 (l:List bG)(t:aO):Option Nat:=(aQ 0 l.length).find? λi=>(l.getD i default).Name==t
theorem GK {l:List bG}{t:aO}{j:Nat} : Q3 l t=some j<->(j<l.length/\(l.getD j default).Name=t/\∀q,q<j->(l.getD q default).Name≠t):=by
 unfold Q3;rw[Fp];constructor
 ·rintro⟨_,h2,h3,h4⟩;exact⟨by omega,by simpa using h3,λq hq=>by simpa using h4 q (by omega) hq⟩
 ·rintro⟨h2,h3,h4⟩;exact⟨by omega,by omega,by simpa using h3,λq _ hq=>by simpa using h4 q hq⟩
theorem Vw {l:List bG}{t:aO} : Q3 l t=none<->∀it,it∈l->it.Name≠t:=by
 unfold Q3;rw[Ju];constructor
 ·intro h it hit;obtain⟨i,hi,e⟩:=jM.1 hit;have:=h i (by omega) (by omega);rw[fZ _ hi,e]at this;simpa using this
 ·intro h q _ hq;have:=h _ (getD_mem default (show q<l.length by omega));simpa using this
theorem T.oM {s:StoreT}(t:aO)(hl:s.Items.length<=lim):Ev (λf=>G.oM f s t) (GY (Q3 s.Items t)):=by
 unfold lim at hl;have L:∀(k i:Nat),i+k=s.Items.length->Ev (λf=>G.oM.L1 f s t i) (GY ((aQ i k).find? λi=>(s.Items.getD i default).Name==t)):=by
  intro k
  induction k with
  | zero=>intro i hi;refine Ev.up ?_;simp only[G.oM.L1];exact Ev.cf (decide_eq_false (by omega)) (Ev.ret _)
  | succ k ih=>
    intro i hi;refine Ev.up ?_;simp only[G.oM.L1,ai,dA (show i+1<9223372036854775808 by omega)];rw[jV,yj];refine Ev.ct (decide_eq_true (by omega)) (Ev.chk (by omega) (Ev.ite (λe=>Ev.ret' ?_) (λe=>?_)))
    ·simp only[show((s.Items.getD i default).Name==t)=true from e];rfl
    ·simp only[show((s.Items.getD i default).Name==t)=false from e];exact ih (i+1) (by omega)
 refine Ev.up ?_;simp only[G.oM];exact L s.Items.length 0 (by omega)
def abb (s:StoreT)(t:aO):StoreT:=StoreT.mk (s.Items.filter λit=> !(it.Name==t)) (s.Clock+1)
def KW (s:StoreT)(t:aO):Option StoreT:=if Nk s&&(Q3 s.Items t).isSome && !(s.Clock==999)then some (abb s t)else none
theorem T.qx {B:Nat}{s:StoreT}{t:aO}(hB:B<=lim)(h:IC B s)(hs:QZ s):Ev (λf=>G.qx f s t) (abb s t):=by
 have hl:=hs.len;have hlo:=hs.lo;have hhi:=hs.hi;have L:∀(k i:Nat) (z:List bG),i+k=s.Items.length->z.length<=i->Ev (λf=>G.qx.L1 f s t s i z) (StoreT.mk (z++(s.Items.drop i).filter λit=> !(it.Name==t)) (af .i64 (s.Clock+1))):=by
  intro k
  induction k with
  | zero=>intro i z hi hz;refine Ev.up ?_;simp only[G.qx.L1];refine Ev.cf (decide_eq_false (by omega)) (Ev.ret' ?_);rw[ak (by omega)];simp
  | succ k ih=>
    intro i z hi hz;have hil:i<s.Items.length:=(by omega);refine Ev.up ?_;simp only[G.qx.L1,ai,dA (show i+1<9223372036854775808 by omega)];rw[dI (default:bG) hil,List.filter_cons];refine Ev.ct (decide_eq_true (by omega)) (Ev.chk (by omega) (Ev.ite (λe=>?_) (λe=>?_)))
    ·rw[show((s.Items.getD i default).Name==t)=true from e];exact(ih (i+1) z (by omega) (by omega)).eq (by simp)
    ·rw[show((s.Items.getD i default).Name==t)=false from e];refine Ev.chk (by omega) (Ev.chk (by omega) ?_);exact(ih (i+1) _ (by omega) (by simp;omega)).eq (by simp)
 refine Ev.up ?_;simp only[G.qx];refine Ev.bind (T.fE hB h) ((L s.Items.length 0 [] (by omega) (by simp)).eq ?_);rw[Eu (by omega) (by omega)];rfl
theorem adD {l m:List aO}(h:l.Sublist m)(hm:Asc m=true):Asc l=true:=Aq.2 ((Aq.1 hm).sublist h)
theorem abe {s m:StoreT}{t:aO}(h:KW s t=some m):Nk s=true/\(Q3 s.Items t).isSome=true/\s.Clock≠999/\m=abb s t/\Nk m=true:=by
 unfold KW at h;split at h
 ·rename_i c;obtain⟨⟨c1,c2⟩,c3⟩:(Nk s=true/\(Q3 s.Items t).isSome=true)/\s.Clock≠999:=by simpa using c
  cases h;have hs:=Bd.1 c1;refine⟨c1,c2,c3,rfl,Bd.2 ⟨λit hit=>?_,?_,?_,?_,?_⟩⟩
  ·have:=Qh.1 (hs.itm it (List.mem_filter.1 hit).1);have hhi:=this.hi;exact Qh.2 ⟨this.Me,this.nod,this.lo,by show it.Version<=s.Clock+1;omega⟩
  ·exact adD (List.Sublist.map _ List.filter_sublist) hs.Le
  ·show(s.Items.filter _).length<=10;exact ig (List.length_filter_le _ _) hs.len
  ·show 0<=s.Clock+1;have:=hs.lo;omega
  ·show s.Clock+1<=999;have:=hs.hi;omega
 ·cases h
end
theorem acK : Nk ZT=true:=by decide
section
def okH (b:UInt8):Bool:=(decide (48<=b.toNat)&&decide (b.toNat<=57))||(decide (97<=b.toNat)&&decide (b.toNat<=102))
def F9 (s:aO):Bool:=s.all okH&&decide (s.length=4)
def Gf (s:aO):Bool:=s==[42]||F9 s
def zC (l:List aO):Bool:=l.all Gf&&decide (l.length<=4)
def hexD : aO:=[48,49,50,51,52,53,54,55,56,57,97,98,99,100,101,102]
theorem adX : ∀n:Nat,n<256->decide (dX hexD (dR n)<0) = !okH (dR n):=by decide +kernel
theorem afk (b:UInt8):decide (dX hexD b<0) = !okH b:=by
 have:=adX b.toNat b.toNat_lt
 rwa[zB]at this
theorem T.lg (s:aO)(hs:s.length<big):Ev (λf=>G.lg f s) (F9 s):=by
 unfold big at hs;have L:∀(k i:Nat),i+k=s.length->Ev (λf=>G.lg.L1 f s i) ((s.drop i).all okH&&decide (s.length=4)):=by
  intro k
  induction k with
  | zero=>intro i hi;refine Ev.up ?_;simp only[G.lg.L1];refine Ev.cf (decide_eq_false (by omega)) (Ev.ret' ?_);rw[ak (by omega),wz,bQ,pg,beq_iff_eq,decide_eq_true_eq];omega
  | succ k ih=>
    intro i hi;refine Ev.up ?_;simp only[G.lg.L1,ai,GG,dA (show i+1<9223372036854775808 by omega)];rw[dI (0:UInt8) (by omega:i<s.length),dJ];have e1:(decide ((48:Int)<=((s.getD i 0).toNat:Int))&&decide (((s.getD i 0).toNat:Int)<=57))=(decide (48<=(s.getD i 0).toNat)&&decide ((s.getD i 0).toNat<=57)):=(by congr 1<;>(apply decide_eq_decide.2;omega));have e2:(decide ((97:Int)<=((s.getD i 0).toNat:Int))&&decide (((s.getD i 0).toNat:Int)<=102))=(decide (97<=(s.getD i 0).toNat)&&decide ((s.getD i 0).toNat<=102)):=(by congr 1<;>(apply decide_eq_decide.2;omega));refine Ev.ct (decide_eq_true (by omega)) (Ev.chk (by omega) (Ev.bind (T.fP _ _ _) ?_));rw[e1];refine Ev.ite (λh=>?_) (λh=>?_)
    ·refine(ih (i+1) (by omega)).eq ?_;unfold okH;rw[show(decide (48<=(s.getD i 0).toNat)&&decide ((s.getD i 0).toNat<=57))=true from h,zK,bQ]
    ·refine Ev.chk (by omega) (Ev.bind (T.fP _ _ _) ?_);rw[e2];refine Ev.ite (λh2=>?_) (λh2=>Ev.ret' ?_)
     ·refine(ih (i+1) (by omega)).eq ?_;unfold okH;rw[show(decide (97<=(s.getD i 0).toNat)&&decide ((s.getD i 0).toNat<=102))=true from h2,zJ,bQ]
     ·unfold okH;rw[show(decide (48<=(s.getD i 0).toNat)&&decide ((s.getD i 0).toNat<=57))=false from h,show(decide (97<=(s.getD i 0).toNat)&&decide ((s.getD i 0).toNat<=102))=false from h2];rfl
 refine Ev.up ?_;simp only[G.lg];exact L s.length 0 (by omega)
theorem T.nJ (s:aO)(hs:s.length<big):Ev (λf=>G.nJ f s) (F9 s):=by
 unfold big at hs;have hI:∀b:UInt8,Ev (λf=>G.strings_IndexByte f [48,49,50,51,52,53,54,55,56,57,97,98,99,100,101,102] (b.toNat:Int)) (dX hexD b):=λb=>by refine Ev.up ?_;simp only[G.strings_IndexByte];refine Ev.bind (Ev.up ?_) (Ev.ret _);simp only[G.jG];refine Ev.ret' ?_;rw[ai,show b.toNat.toUInt8=b from zB];rfl
 have L:∀(k i:Nat),i+k=s.length->Ev (λf=>G.nJ.L1 f s i) ((s.drop i).all okH):=by
  intro k
  induction k with
  | zero=>intro i hi;refine Ev.up ?_;simp only[G.nJ.L1];refine Ev.cf (decide_eq_false (by omega)) (Ev.ret' ?_);rw[ak (by omega)];rfl
  | succ k ih=>
    intro i hi;refine Ev.up ?_;simp only[G.nJ.L1,ai,dA (show i+1<9223372036854775808 by omega)];rw[dI (0:UInt8) (by omega:i<s.length),dJ];refine Ev.ct (decide_eq_true (by omega)) (Ev.chk (by omega) (Ev.bind (hI _) ?_));rw[afk];refine Ev.ite (λh=>Ev.ret' ?_) (λh=>(ih (i+1) (by omega)).eq ?_)
    ·have:okH (s.getD i 0)=false:=(by simpa using h);rw[this];rfl
    ·have:okH (s.getD i 0)=true:=(by simpa using h);rw[this];rfl
 refine Ev.up ?_;simp only[G.nJ];unfold F9;refine Ev.ite (λe=>Ev.ret' ?_) (λe=>?_)
 ·have:¬s.length=4:=by
   have:(s.length:Int)≠4:=(by simpa using e);omega
  rw[decide_eq_false this,rD]
 ·have:s.length=4:=by
   have:(s.length:Int)=4:=(by simpa using e);omega
  exact(L s.length 0 (by omega)).eq (by rw[decide_eq_true this,pz,bZ])
theorem T.gZ {l:List aO}(h:Sm l):Ev (λf=>G.gZ f l) (zC l):=by
 have hl:=h.1;unfold big at hl;have L:∀(k i:Nat),i+k=l.length->Ev (λf=>G.gZ.L1 f l i) ((l.drop i).all Gf&&decide (l.length<=4)):=by
  intro k
  induction k with
  | zero=>intro i hi;refine Ev.up ?_;simp only[G.gZ.L1];refine Ev.cf (decide_eq_false (by omega)) (Ev.ret' ?_);rw[ak (by omega),wz,bQ];apply decide_eq_decide.2;omega
  | succ k ih=>intro i hi;refine Ev.up ?_;simp only[G.gZ.L1,ai,dA (show i+1<9223372036854775808 by omega)];rw[dI (default:aO) (by omega:i<l.length),dJ];unfold Gf;refine Ev.ct (decide_eq_true (by omega)) (Ev.chk (by omega) (Ev.ite (λe=>(ih (i+1) (by omega)).eq (by rw[e];rfl)) (λe=>Ev.chk (by omega) (Ev.bind (T.lg _ (h.get (by omega))) ?_))));exact Ev.ite (λe2=>(ih (i+1) (by omega)).eq (by rw[e,e2];rfl)) (λe2=>Ev.ret' (by rw[e,e2];rfl))
 refine Ev.up ?_;simp only[G.gZ];exact L l.length 0 (by omega)
theorem T.iZ {l:List aO}(h:Sm l):Ev (λf=>G.iZ f l) (zC l):=by
 have hl:=h.1;unfold big at hl;have L:∀(k i:Nat),i+k=l.length->Ev (λf=>G.iZ.L1 f l i) ((l.drop i).all Gf):=by
  intro k
  induction k with
  | zero=>intro i hi;refine Ev.up ?_;simp only[G.iZ.L1];refine Ev.cf (decide_eq_false (by omega)) (Ev.ret' ?_);rw[ak (by omega)];rfl
  | succ k ih=>intro i hi;refine Ev.up ?_;simp only[G.iZ.L1,ai,dA (show i+1<9223372036854775808 by omega)];rw[dI (default:aO) (by omega:i<l.length),dJ];unfold Gf;refine Ev.ct (decide_eq_true (by omega)) (Ev.chk (by omega) (Ev.ite (λe=>(ih (i+1) (by omega)).eq (by rw[e];rfl)) (λe=>Ev.bind (T.nJ _ (h.get (by omega))) ?_)));exact Ev.ite (λe2=>(ih (i+1) (by omega)).eq (by rw[e,e2];rfl)) (λe2=>Ev.ret' (by rw[e,e2];rfl))
 refine Ev.up ?_;simp only[G.iZ];unfold zC;refine Ev.ite (λe=>Ev.ret' ?_) (λe=>(L l.length 0 (by omega)).eq ?_)
 ·rw[decide_eq_false (show ¬l.length<=4 by simp only[decide_eq_true_eq]at e;omega),rD]
 ·rw[decide_eq_true (show l.length<=4 by simp only[decide_eq_false_iff_not]at e;omega),pz,bZ]
structure JR (B:Nat)(q:RequestT):Prop where
 Me:q.Name.length<=B
 want:wM B q.Want
 avoid:wM B q.oJ
 body:aaO B q.Body
 ops:JQ q.Ops
def OU (q:RequestT):Bool:=(decide (1<=q.Method)&&decide (q.Method<=5))&&(UR q.Name&&(zC q.Want&&(zC q.oJ&&(Val q.Body&&EH q.Ops))))
section
variable {B:Nat} {q:RequestT} (hB:B<=lim) (h:JR B q)
include hB h
theorem T.kS : Ev (λf=>G.kS f q) (OU q):=by obtain⟨E,hb⟩:=h.body;have hn:=h.Me;unfold lim at hB;refine Ev.up ?_;simp only[G.kS];unfold OU;refine Ev.bind (T.fP _ _ _) (Ev.ite (λe1=>?_) (λe1=>Ev.ret' (by rw[e1];rfl)));refine Ev.bind (T.iU _ (by unfold big;omega)) (Ev.ite (λe2=>?_) (λe2=>Ev.ret' (by rw[e1,e2];rfl)));refine Ev.bind (T.gZ (h.want.sm (by unfold lim;omega))) (Ev.ite (λe3=>?_) (λe3=>Ev.ret' (by rw[e1,e2,e3];rfl)));refine Ev.bind (T.gZ (h.avoid.sm (by unfold lim;omega))) (Ev.ite (λe4=>?_) (λe4=>Ev.ret' (by rw[e1,e2,e3,e4];rfl)));refine Ev.bind (T.eG (by unfold lim;omega) hb) (Ev.ite (λe5=>?_) (λe5=>Ev.ret' (by rw[e1,e2,e3,e4,e5];rfl)));exact Ev.bind (T.gu h.ops) (Ev.ret' (by rw[e1,e2,e3,e4,e5];rfl))
theorem T.lI : Ev (λf=>G.lI f q) (OU q):=by obtain⟨E,hb⟩:=h.body;have hn:=h.Me;unfold lim at hB;refine Ev.up ?_;simp only[G.lI];unfold OU;refine Ev.ite (λe0=>?_) (λe0=>Ev.ret' (by rw[e0];rfl));refine Ev.ite (λe1=>?_) (λe1=>Ev.ret' (by rw[e0,e1];rfl));refine Ev.bind (T.jJ _ (by unfold big;omega)) (Ev.ite (λe2=>?_) (λe2=>Ev.ret' (by rw[e0,e1,e2];rfl)));refine Ev.bind (T.iZ (h.want.sm (by unfold lim;omega))) (Ev.ite (λe3=>?_) (λe3=>Ev.ret' (by rw[e0,e1,e2,e3];rfl)));refine Ev.bind (T.iZ (h.avoid.sm (by unfold lim;omega))) (Ev.ite (λe4=>?_) (λe4=>Ev.ret' (by rw[e0,e1,e2,e3,e4];rfl)));refine Ev.bind (T.aX (by unfold lim;omega) hb) (Ev.ite (λe5=>?_) (λe5=>Ev.ret' (by rw[e0,e1,e2,e3,e4,e5];rfl)));exact Ev.bind (T.fB h.ops) (Ev.ret' (by rw[e0,e1,e2,e3,e4,e5];rfl))
end
structure aet (l:List RequestT):Prop where
 len:l.length<=1000
 req:∀q,q∈l->JR 60 q
theorem aet.at_ {l:List RequestT}(h:aet l){i:Nat}(hi:i<l.length):JR 60 (l.getD i default):=h.req _ (getD_mem default hi)
end
def Ah (z:Int):aO:=if z<0 then 45::xR (-z).toNat else xR z.toNat
def CG (b:UInt8):aO:=if b=34\/b=92 then [92,b]else [b]
def DV (s:aO):aO:=34::(s.flatMap CG++[34])
def DI (F:aj->aO)(n:aj)(i:Nat):aO:=((if 0<i then [44]else [])++(if n.Kind=4 then DV (n.Names.getD i default)++[58]else []))++F (n.Kids.getD i default)
def nT : Nat->aj->aO
 |0,_=>[]
 | d+1,n=>if n.Kind=1 then Ah n.Num else if n.Kind=2 then DV n.Text else if n.Kind=0 then [110,117,108,108]else
   if n.Kind=4 then([123]++(aQ 0 n.Kids.length).flatMap (DI (nT d) n))++[125]else([91]++(aQ 0 n.Kids.length).flatMap (DI (nT d) n))++[93]
theorem rH {d:Nat}{n:aj} : nT (d+1) n=if n.Kind=1 then Ah n.Num else if n.Kind=2 then DV n.Text else if n.Kind=0 then [110,117,108,108]else
 if n.Kind=4 then([123]++(aQ 0 n.Kids.length).flatMap (DI (nT d) n))++[125]else([91]++(aQ 0 n.Kids.length).flatMap (DI (nT d) n))++[93]:=by rw[nT]
theorem maxL : 4000000000<=maxLen:=by decide
theorem Un (s:aO):(DV s).length<=2*s.length+2:=by
 have:(s.flatMap CG).length<=2*s.length:=by
  induction s with
  |nil=>simp
  | cons b s ih=>rw[bF,ay,dB];have:(CG b).length<=2:=(by unfold CG;split<;>simp);omega
 unfold DV;simp only[dB,ay,gI];omega
theorem Rq {s:aO}{i:Nat}(h:i<s.length):(s.take (i+1)).drop i=[s.getD i 0]:=by rw[iH h,List.drop_append_of_le_length (by simp;omega),ak (by rw[dZ];omega),gJ,fZ _ h]
theorem T.nM (s:aO)(hs:s.length<=1000000):Ev (λf=>G.nM f s) (DV s):=by
 have hM:=maxL;have L:∀(k i:Nat) (z:aO),i+k=s.length->z.length<=2*i+1->Ev (λf=>G.nM.L1 f s z i) (z++((s.drop i).flatMap CG++[34])):=by
  intro k
  induction k with
  | zero=>intro i z hi hz;refine Ev.up ?_;simp only[G.nM.L1];refine Ev.cf (decide_eq_false (by omega)) (Ev.chk (by omega) (Ev.ret' ?_));rw[ak (by omega)];rfl
  | succ k ih=>
    intro i z hi hz;have hil:i<s.length:=(by omega);have e1:=Rq hil;have two:s.getD i 0=34\/s.getD i 0=92->Ev (λf=>G.nM.L1 f s ((z++[92])++[s.getD i 0]) ((i+1:Nat):Int)) (z++((s.drop i).flatMap CG++[34])):=λhq=>by refine(ih (i+1) _ (by omega) (by simp;omega)).eq ?_;rw[dI (0:UInt8) hil,bF];have:CG (s.getD i 0)=[92,s.getD i 0]:=if_pos hq;rw[this];simp
    have byt:∀c:UInt8,(((s.getD i 0).toNat:Int)==(c.toNat:Int))=(s.getD i 0==c):=λc=>by rw[pg,beq_iff_eq,beq_iff_eq];exact⟨λh=>nZ.1 (by omega),λh=>by rw[h]⟩
    refine Ev.up ?_;simp only[G.nM.L1,ai,dA (show i+1<9223372036854775808 by omega),e1];refine Ev.ct (decide_eq_true (by omega)) (Ev.chk (by omega) (Ev.ite (λh=>?_) (λh=>?_)))
    ·have h:s.getD i 0=34:=(by rw[show((34:Int))=((34:UInt8).toNat:Int)from rfl,byt]at h;simpa using h);exact Ev.chk (by omega) (Ev.chk (by omega) (Ev.chk (by simp only[bC];omega) (two (.inl h))))
    ·have h:s.getD i 0≠34:=(by rw[show((34:Int))=((34:UInt8).toNat:Int)from rfl,byt]at h;simpa using h);refine Ev.chk (by omega) (Ev.ite (λh2=>?_) (λh2=>?_))
     ·have h2:s.getD i 0=92:=(by rw[show((92:Int))=((92:UInt8).toNat:Int)from rfl,byt]at h2;simpa using h2);exact Ev.chk (by omega) (Ev.chk (by omega) (Ev.chk (by simp only[bC];omega) (two (.inr h2))))
     ·have h2:s.getD i 0≠92:=(by rw[show((92:Int))=((92:UInt8).toNat:Int)from rfl,byt]at h2;simpa using h2);refine Ev.chk (by omega) (Ev.chk (by simp only[bC];omega) ?_);refine(ih (i+1) _ (by omega) (by simp;omega)).eq ?_;rw[dI (0:UInt8) hil,bF];have:CG (s.getD i 0)=[s.getD i 0]:=if_neg (λq=>q.elim h h2);rw[this];simp
 refine Ev.up ?_;simp only[G.nM];exact(L s.length 0 [34] (by omega) (by simp)).eq (by rw[bZ];rfl)
theorem Ey : ∀{i:Nat},i<=999999->(xR i).length<=6:=by
 have step:∀{i m:Nat},(xR (i/10)).length<=m->(xR i).length<=m+1:=λ{i m} h=>by
  rw[xR];split
  ·simp
  ·simp;omega
 intro i h;have h1:(xR (i/10/10/10/10/10)).length<=1:=by rw[xO (by omega)];simp
 exact step (step (step (step (step h1))))
theorem IM {z:Int}(h1 : -999999<=z)(h2:z<=999999):(Ah z).length<=7:=by
 unfold Ah;split
 ·have:=Ey (i:=(-z).toNat) (by omega);simp;omega
 ·have:=Ey (i:=z.toNat) (by omega);omega
theorem T.Oa {z:Int}(h1 : -999999<=z)(h2:z<=999999):Ev (λf=>G.jP f z) (Ah z):=by
 have hM:=maxL;unfold Ah;by_cases h:z<0
 ·rw[if_pos h];have w:af .i64 (0-z)=((-z).toNat:Int):=wrapN (by omega) (by omega);have hl:=Ey (i:=(-z).toNat) (by omega);refine Ev.up ?_;simp only[G.jP,w];exact Ev.ct (decide_eq_true h) (Ev.cf (by simp only[beq_eq_false_iff_ne];omega) (Ev.bind (T.decimal (by unfold lim;omega)) (Ev.chk (by omega) (Ev.ret' rfl))))
 ·rw[if_neg h];obtain⟨k,rfl⟩:∃k:Nat,z=k:=⟨z.toNat,by omega⟩;rw[ai];exact T.decimal (by unfold lim;omega)
theorem GU {n:aj}(h:Parts n=true)(hk:n.Kind=1) : -999999<=n.Num/\n.Num<=999999:=by unfold Parts at h;simp[hk]at h;omega
theorem KG {n:aj}(h:Parts n=true):n.Text.length<=12:=by
 by_cases hk:n.Kind=2
 ·unfold Parts at h;simp[hk]at h;exact Qr h.2.1
 ·unfold Parts at h;simp only[ah,iJ,beq_iff_eq]at h;have:=h.1.1.2.resolve_left hk;rw[this];simp
theorem Yl {α:Type}{g:Nat->List α}{m:Nat} : ∀(k i:Nat),(∀j,i<=j->j<i+k->(g j).length<=m)->((aQ i k).flatMap g).length<=k*m:=by
 intro k
 induction k with
 |zero=>intro i _;simp
 | succ k ih=>intro i h;have h1:=h i (by omega) (by omega);have h2:=ih (i+1) (λj h1 h2=>h j (by omega) (by omega));rw[jV,bF,ay,Nat.add_mul];omega
theorem TM : ∀(d:Nat) {n:aj},Shape d n=true->(nT d n).length<=200*7^d
 |0,_,h=>by cases h
 | d+1,n,h=>by
   have hp:=kL h;have h6:=Dw h;have age:1<=7^d:=Nat.one_le_pow _ _ (by omega);rw[rH,xX];have hb:((aQ 0 n.Kids.length).flatMap (DI (nT d) n)).length<=6*(28+200*7^d):=by
    refine ig (Yl (m:=28+200*7^d) _ _ (λj _ hj=>?_)) (bD _ h6);have hj':j<n.Kids.length:=(by omega);have hk:=TM d (A8 h hj');unfold DI;rw[ay,ay];have a1:(if 0<j then([44]:aO)else []).length<=1:=(by split<;>simp);have a2:(if n.Kind=4 then DV (n.Names.getD j default)++[58]else []).length<=27:=by
     split
     ·rename_i h4;obtain⟨mn,_,hn⟩:=L9 hp h4;have:=hn _ (getD_mem default (show j<n.Names.length by rw[<- mn.len];exact hj'));have:=Un (n.Names.getD j default);simp only[ay,bC];omega
     ·simp
    omega
   split
   ·rename_i h1;obtain⟨b1,b2⟩:=GU hp h1;have:=IM b1 b2;omega
   ·split
    ·have:=KG hp;have:=Un n.Text;omega
    ·split
     ·simp only[dB,gI];omega
     ·split
      ·simp only[ay,bC];omega
      ·simp only[ay,bC];omega
theorem T.dW : ∀(d:Nat) {n:aj},d<=5->Shape d n=true->Ev (λf=>G.dW f n) (nT d n)
 |0,_,_,h=>by cases h
 | d+1,n,hd,h=>by
   have hM:=maxL;have hp:=kL h;have h6:=Dw h;have age:=Uk hd;rw[xX]at age;have L:∀(k i:Nat) (z:aO),i+k=n.Kids.length->z.length<=i*1000000->Ev (λf=>G.dW.L5 f n z i)
    (if n.Kind=4 then([123]++(z++(aQ i k).flatMap (DI (nT d) n)))++[125]else([91]++(z++(aQ i k).flatMap (DI (nT d) n)))++[93]):=by
    intro k
    induction k with
    | zero=>
      intro i z hi hz;refine Ev.up ?_;simp only[G.dW.L5];refine Ev.cf (decide_eq_false (by omega)) (Ev.ite (λe=>Ev.chk (by omega) (Ev.chk (by omega) (Ev.ret' ?_))) (λe=>Ev.chk (by omega) (Ev.chk (by omega) (Ev.ret' ?_))))
      ·rw[if_pos (by simpa using e)];simp
      ·rw[if_neg (by simpa using e)];simp
    | succ k ih=>
      intro i z hi hz;have hil:i<n.Kids.length:=(by omega);have hk:=A8 h hil;have hkl:=TM d hk;have K7:∀z':aO,z'.length<=i*1000000+28->z'++nT d (n.Kids.getD i default)=z++DI (nT d) n i->Ev (λf=>G.dW.K7 f n (i:Int) z')
       (if n.Kind=4 then([123]++(z++(aQ i (k+1)).flatMap (DI (nT d) n)))++[125]else([91]++(z++(aQ i (k+1)).flatMap (DI (nT d) n)))++[93]):=λz' hz' he=>by
       refine Ev.up ?_;simp only[G.dW.K7,ai,dA (show i+1<9223372036854775808 by omega)];refine Ev.chk (by omega) (Ev.bind (T.dW d (by omega) hk) (Ev.chk (by omega) ?_));refine(ih (i+1) _ (by omega) (by rw[ay];omega)).eq ?_;rw[jV,bF,<- dh z,<- he]
      have K6:∀z':aO,z'=z++(if 0<i then [44]else [])->Ev (λf=>G.dW.K6 f n (i:Int) z')
       (if n.Kind=4 then([123]++(z++(aQ i (k+1)).flatMap (DI (nT d) n)))++[125]else([91]++(z++(aQ i (k+1)).flatMap (DI (nT d) n)))++[93]):=λz' he=>by
       have hz':z'.length<=i*1000000+1:=by rw[he,ay];have:(if 0<i then([44]:aO)else []).length<=1:=(by split<;>simp);omega
       refine Ev.up ?_;simp only[G.dW.K6,ai];by_cases h4:n.Kind=4
       ·obtain⟨mn,_,hn⟩:=L9 hp h4;have hin:i<n.Names.length:=(by rw[<- mn.len];exact hil);have h12:=hn _ (getD_mem default hin);have hq:=Un (n.Names.getD i default);refine Ev.ct (by simpa using h4) (Ev.chk (by omega) (Ev.bind (T.nM _ (by omega)) (Ev.chk (by omega) (Ev.chk (by omega) (K7 _ (by simp only[ay,bC];omega) ?_)))));rw[he];unfold DI;rw[if_pos h4];simp
       ·refine Ev.cf (by simpa using h4) (K7 z' (ig hz' (Nat.add_le_add_left (by decide) _)) ?_);rw[he];unfold DI;rw[if_neg h4];simp
      refine Ev.up ?_;simp only[G.dW.L5];refine Ev.ct (decide_eq_true (by omega)) ?_;by_cases h0:0<i
      ·exact Ev.ct (decide_eq_true (by omega)) (Ev.chk (by omega) (K6 _ (by rw[if_pos h0])))
      ·exact Ev.cf (decide_eq_false (by omega)) (K6 _ (by rw[if_neg h0,eX]))
   refine Ev.up ?_;simp only[G.dW];rw[rH];refine Ev.ite (λe=>?_) (λe1=>?_)
   ·have e:n.Kind=1:=(by simpa using e);rw[if_pos e];obtain⟨b1,b2⟩:=GU hp e;exact Ev.bind (T.Oa b1 b2) (Ev.ret _)
   rw[if_neg (by simpa using e1)];refine Ev.ite (λe=>?_) (λe2=>?_)
   ·rw[if_pos (by simpa using e)];have:=KG hp;exact Ev.bind (T.nM _ (by omega)) (Ev.ret _)
   rw[if_neg (by simpa using e2)];refine Ev.ite (λe=>?_) (λe3=>?_)
   ·rw[if_pos (by simpa using e)];exact Ev.ret _
   rw[if_neg (by simpa using e3)];exact(L n.Kids.length 0 [] (by omega) (by simp)).eq (by simp)
def aam (s:aO):Nat:=s.foldl (λn b=>(131*n+b.toNat)%65521) 17
def Zw (k:Nat):UInt8:=hexD.getD k 0
def Q8 (n:Nat):aO:=[Zw (n/4096),Zw (n/256%16),Zw (n/16%16),Zw (n%16)]
def Ew (n:aj):aO:=if Val n then Q8 (aam (nT 5 n))else []
theorem T.pK (s:aO)(hs:s.length<big):Ev (λf=>G.pK f s) ((aam s:Nat):Int):=by
 unfold big at hs;have L:∀(k i m:Nat),i+k=s.length->m<65521->Ev (λf=>G.pK.L1 f s (m:Int) i) (((s.drop i).foldl (λn b=>(131*n+b.toNat)%65521) m:Nat):Int):=by
  intro k
  induction k with
  | zero=>intro i m hi _;refine Ev.up ?_;simp only[G.pK.L1];refine Ev.cf (decide_eq_false (by omega)) (Ev.ret' ?_);rw[ak (by omega)];rfl
  | succ k ih=>intro i m hi hm;have hb:=(s.getD i 0).toNat_lt;refine Ev.up ?_;simp only[G.pK.L1,ai,GG,dA (show i+1<9223372036854775808 by omega),wrapN (x:=131*(m:Int)) (m:=131*m) (by omega) (by omega)];rw[wrapN (x:=((131*m:Nat):Int)+((s.getD i 0).toNat:Int)) (m:=131*m+(s.getD i 0).toNat) (by omega) (by omega),show(65521:Int)=((65521:Nat):Int)from rfl,Hf];rw[dI (0:UInt8) (by omega:i<s.length),lT];exact Ev.ct (decide_eq_true (by omega)) (Ev.chk (by omega) (ih (i+1) _ (by omega) (xN _ (by omega))))
 refine Ev.up ?_;simp only[G.pK];exact L s.length 0 17 (by omega) (by omega)
theorem sum_lt (s:aO):aam s<65521:=by
 unfold aam;have:∀(s:aO) (m:Nat),m<65521->s.foldl (λn b=>(131*n+b.toNat)%65521) m<65521:=by
  intro s
  induction s with
  |nil=>intro m hm;exact hm
  |cons b s ih=>intro m hm;exact ih _ (xN _ (by omega))
 exact this s 17 (by omega)
theorem T.yT {n:Nat}(h:n<65536):Ev (λf=>G.yT f (n:Int)) (Q8 n):=by
 have hM:=maxL;have w1:af .i64 (nV (n:Int) 4096)=((n/4096:Nat):Int):=by rw[show(4096:Int)=((4096:Nat):Int)from rfl,MZ];exact wrapN rfl (by omega)
 have w2:af .i64 (nV (n:Int) 256)=((n/256:Nat):Int):=by rw[show(256:Int)=((256:Nat):Int)from rfl,MZ];exact wrapN rfl (by omega)
 have w3:af .i64 (nV (n:Int) 16)=((n/16:Nat):Int):=by rw[show(16:Int)=((16:Nat):Int)from rfl,MZ];exact wrapN rfl (by omega)
 have t2:lq ((n/256:Nat):Int) 16=((n/256%16:Nat):Int):=by rw[show(16:Int)=((16:Nat):Int)from rfl,Hf]
 have t3:lq ((n/16:Nat):Int) 16=((n/16%16:Nat):Int):=by rw[show(16:Int)=((16:Nat):Int)from rfl,Hf]
 have t4:lq (n:Int) 16=((n%16:Nat):Int):=by rw[show(16:Int)=((16:Nat):Int)from rfl,Hf]
 refine Ev.up ?_;simp only[G.yT,w1,w2,w3,t2,t3,t4,ai,zB];exact Ev.chk (by omega) (Ev.chk (by omega) (Ev.chk (by omega) (Ev.chk (by omega) (Ev.chk (by omega) (Ev.ret' rfl)))))
theorem ael (n:aj):(Ew n).length<=4:=by
 unfold Ew;split
 ·simp[Q8]
 ·simp
def ahg : bG:=bG.mk [] 0 vJ
def agv : Option bG->bG×Bool
 |some it=>(it,true)
 |none=>(ahg,false)
def KY (s:StoreT)(t:aO):Option bG:=if Nk s then(Q3 s.Items t).map λj=>s.Items.getD j default else none
theorem NJ {s:StoreT}{t:aO}{it:bG}(h:KY s t=some it):QZ s/\it∈s.Items/\it.Name=t/\Val it.Node=true:=by
 unfold KY at h;split at h
 ·rename_i hs;obtain⟨j,hj,rfl⟩:=pY.1 h;obtain⟨h1,h2,_⟩:=GK.1 hj;have:=Bd.1 hs;exact⟨this,getD_mem default h1,h2,(this.it h1).nod⟩
 ·cases h
theorem Vr : wM 60 []:=⟨by simp,λs h=>by cases h⟩
theorem T.wb {b:iC}{c:Int}(hc:0<=c/\c<256)(hl:b.buf.length+1<=140737488355328):Ev (λf=>G.aS f b c) ((),iC.mk (b.buf++[dR c.toNat])):=by refine Ev.up ?_;simp only[G.aS];exact Ev.chk ⟨hc,hl⟩ (Ev.ret _)
theorem T.ws {b:iC}{s:aO}(hl:b.buf.length+s.length<=140737488355328):Ev (λf=>G.fV f b s) ((s.length:Int),(),iC.mk (b.buf++s)):=by refine Ev.up ?_;simp only[G.fV];exact Ev.chk hl (Ev.ret _)
theorem T.bs' {b:iC}(hl:b.buf.length<=140737488355328):Ev (λf=>G.jl f b) b.buf:=by refine Ev.up ?_;simp only[G.jl];exact Ev.chk hl (Ev.ret _)
theorem YH (b:UInt8):dR (b.toNat:Int).toNat=b:=by simp
theorem T.gU {s z:aO}(h:z.length+2*s.length+2<=4000000000):Ev (λf=>G.gU f (iC.mk z) s) (iC.mk (z++DV s)):=by
 have DY:∀(z:aO) (b:UInt8),z.length<5000000000->Ev (λf=>G.aS f (iC.mk z) (b.toNat:Int)) ((),iC.mk (z++[b])):=λz b hz=>by
  have:=T.wb (b:=iC.mk z) (c:=(b.toNat:Int)) (by have:=b.toNat_lt;omega) (by show z.length+1<=_;omega)
  rwa[YH]at this
 have L:∀(k i:Nat) (z:aO),i+k=s.length->z.length+2*k+1<=4000000001->Ev (λf=>G.gU.L3 f s (i:Int) z) (iC.mk (z++((s.drop i).flatMap CG++[34]))):=by
  intro k
  induction k with
  | zero=>intro i z hi hz;rw[List.drop_eq_nil_of_le (by omega)];refine Ev.up ?_;simp only[G.gU.L3];exact Ev.cf (decide_eq_false (by omega)) (Ev.bind (DY z 34 (by omega)) (Ev.ret' rfl))
  | succ k ih=>
    intro i z hi hz;have hlt:i<s.length:=(by omega);have hd:s.drop i=s.getD i 0::s.drop (i+1):=(by rw[yX hlt];simp[bu,hlt]);have hK:∀z:aO,z.length+2*k+2<=4000000001->Ev (λf=>G.gU.K4 f s (i:Int) z) (iC.mk (z++(s.getD i 0::((s.drop (i+1)).flatMap CG++[34])))):=λz hz=>by refine Ev.up ?_;simp only[G.gU.K4];rw[ai];refine Ev.chk (by omega) (Ev.bind (DY z (s.getD i 0) (by omega)) ?_);rw[dA (by omega)];have:=ih (i+1) (z++[s.getD i 0]) (by omega) (by simp;omega);simpa using this
    rw[hd];refine Ev.up ?_;simp only[G.gU.L3];rw[ai];refine Ev.ct (decide_eq_true (by omega)) (Ev.chk (by omega) (Ev.ite (λe=>?_) (λe=>Ev.chk (by omega) (Ev.ite (λe2=>?_) (λe2=>?_)))))
    ·have hb:s.getD i 0=34:=nZ.1 (by have:=beq_iff_eq.1 e;show(s.getD i 0).toNat=34;omega);refine Ev.bind (DY z 92 (by omega)) ?_;have:=hK (z++[92]) (by simp;omega);rw[hb]at this⊢;simpa[CG]using this
    ·have hb:s.getD i 0=92:=nZ.1 (by have:=beq_iff_eq.1 e2;show(s.getD i 0).toNat=92;omega);refine Ev.bind (DY z 92 (by omega)) ?_;have:=hK (z++[92]) (by simp;omega);rw[hb]at this⊢;simpa[CG]using this
    ·have:=hK z (by omega);have hq:CG (s.getD i 0)=[s.getD i 0]:=by
      unfold CG;rw[if_neg];rintro(h|h)
      ·rw[h]at e;simp at e
      ·rw[h]at e2;simp at e2
     rw[bF,hq];simpa using this
 refine Ev.up ?_;simp only[G.gU];refine Ev.bind (DY z 34 (by omega)) ?_;have:=L s.length 0 (z++[34]) (by omega) (by simp;omega);simpa[DV]using this
theorem VI (z:Int):uy z=Ah z:=by
 unfold uy Ah;split
 ·rw[Xn (z.natAbs+1) z.natAbs (by omega),show z.natAbs=(-z).toNat from by omega]
 ·rw[Xn (z.toNat+1) z.toNat (by omega)]
theorem T.itoa {z:Int}(h : -900000000000000<=z/\z<=900000000000000):Ev (λf=>G.strconv_Itoa f z) (Ah z):=by rw[<- VI];exact T.Itoa h
theorem Hz {n:aj}(h:Parts n=true):n.Kind=0\/n.Kind=1\/n.Kind=2\/n.Kind=3\/n.Kind=4:=by
 by_cases h0:n.Kind=0\/n.Kind=1\/n.Kind=2\/n.Kind=3\/n.Kind=4
 ·exact h0
 ·simp only[not_or]at h0;obtain⟨a,b,c,d,e⟩:=h0;unfold Parts at h;rw[if_neg a,if_neg b,if_neg c,if_neg d,if_neg e]at h;simp at h
theorem DY {z:aO}(b:UInt8)(hz:z.length<5000000000):Ev (λf=>G.aS f (iC.mk z) (b.toNat:Int)) ((),iC.mk (z++[b])):=by
 have:=T.wb (b:=iC.mk z) (c:=(b.toNat:Int)) (by have:=b.toNat_lt;omega) (by show z.length+1<=_;omega)
 rwa[YH]at this
theorem LH (F:aj->aO)(n:aj)(i:Nat):DI F n i=(if 0<i then [44]else [])++((if n.Kind=4 then DV (n.Names.getD i default)++[58]else [])++F (n.Kids.getD i default)):=by unfold DI;rw[dh]
theorem T.bP : ∀(d:Nat) {n:aj} {z:aO},Shape d n=true->z.length+(nT d n).length<=2000000000->Ev (λf=>G.bP f (iC.mk z) n) (iC.mk (z++nT d n))
 |0,_,_,h,_=>by cases h
 | d+1,n,z,h,hz=>by
   have hp:=kL h;have h6:=Dw h;rw[rH]at hz⊢;have L3:n.Kind=3->∀(k i:Nat) (z:aO),i+k=n.Kids.length->z.length+((aQ i k).flatMap (DI (nT d) n)++[93]).length<=2000000000 ->
    Ev (λf=>G.bP.L3 f n (i:Int) z) (iC.mk (z++((aQ i k).flatMap (DI (nT d) n)++[93]))):=by
    intro hk3 k
    induction k with
    | zero=>intro i z hi hz;refine Ev.up ?_;simp only[G.bP.L3];refine Ev.cf (decide_eq_false (by omega)) (Ev.bind (DY 93 (by omega)) (Ev.ret' ?_));simp
    | succ k ih=>
      intro i z hi hz;have hil:i<n.Kids.length:=(by omega);rw[jV,bF]at hz⊢;simp only[ay]at hz;have ez:DI (nT d) n i=(if 0<i then [44]else [])++nT d (n.Kids.getD i default):=(by rw[LH,if_neg (by omega:¬n.Kind=4),gJ]);have hK:∀z':aO,z'=z++(if 0<i then [44]else [])->Ev (λf=>G.bP.K4 f n (i:Int) z') (iC.mk (z++((DI (nT d) n i++(aQ (i+1) k).flatMap (DI (nT d) n))++[93]))):=λz' he=>by have e2:z'++nT d (n.Kids.getD i default)=z++DI (nT d) n i:=(by rw[he,ez,dh]);have e3:=congrArg kE e2;simp only[ay]at e3;refine Ev.up ?_;simp only[G.bP.K4,ai,dA (show i+1<9223372036854775808 by omega)];refine Ev.bind (T.bP d (A8 h hil) (by omega)) ?_;refine(ih (i+1) _ (by omega) (by simp only[ay];omega)).eq ?_;rw[e2];simp only[dh]
      refine Ev.up ?_;simp only[G.bP.L3];refine Ev.ct (decide_eq_true (by omega)) (Ev.chk (by omega) ?_);by_cases h0:0<i
      ·exact Ev.ct (decide_eq_true (by omega)) (Ev.bind (DY 44 (by omega)) (hK _ (by rw[if_pos h0])))
      ·exact Ev.cf (decide_eq_false (by omega)) (hK _ (by rw[if_neg h0,eX]))
   have L7:n.Kind=4->∀(k i:Nat) (z:aO),i+k=n.Kids.length->z.length+((aQ i k).flatMap (DI (nT d) n)++[125]).length<=2000000000 ->
    Ev (λf=>G.bP.L7 f n (i:Int) z) (iC.mk (z++((aQ i k).flatMap (DI (nT d) n)++[125]))):=by
    intro hk4 k;obtain⟨mn,_,hn⟩:=L9 hp hk4
    induction k with
    | zero=>intro i z hi hz;refine Ev.up ?_;simp only[G.bP.L7];refine Ev.cf (decide_eq_false (by omega)) (Ev.bind (DY 125 (by omega)) (Ev.ret' ?_));simp
    | succ k ih=>
      intro i z hi hz;have hil:i<n.Kids.length:=(by omega);have hin:i<n.Names.length:=(by rw[<- mn.len];exact hil);have h12:=hn _ (getD_mem default hin);rw[jV,bF]at hz⊢;simp only[ay]at hz;have ez:DI (nT d) n i=(if 0<i then [44]else [])++((DV (n.Names.getD i default)++[58])++nT d (n.Kids.getD i default)):=(by rw[LH,if_pos hk4]);have hK:∀z':aO,z'=z++(if 0<i then [44]else [])->Ev (λf=>G.bP.K8 f n (i:Int) z') (iC.mk (z++((DI (nT d) n i++(aQ (i+1) k).flatMap (DI (nT d) n))++[125]))):=λz' he=>by have e2:((z'++DV (n.Names.getD i default))++[58])++nT d (n.Kids.getD i default)=z++DI (nT d) n i:=(by rw[he,ez];simp only[dh]);have e3:=congrArg kE e2;simp only[ay]at e3;refine Ev.up ?_;simp only[G.bP.K8,ai,dA (show i+1<9223372036854775808 by omega)];refine Ev.chk (by omega) (Ev.bind (T.gU (by omega)) (Ev.bind (DY 58 (by simp only[ay];omega)) ?_));refine Ev.bind (T.bP d (A8 h hil) (by simp only[ay];omega)) ?_;refine(ih (i+1) _ (by omega) (by simp only[ay];omega)).eq ?_;rw[e2];simp only[dh]
      refine Ev.up ?_;simp only[G.bP.L7];refine Ev.ct (decide_eq_true (by omega)) (Ev.chk (by omega) ?_);by_cases h0:0<i
      ·exact Ev.ct (decide_eq_true (by omega)) (Ev.bind (DY 44 (by omega)) (hK _ (by rw[if_pos h0])))
      ·exact Ev.cf (decide_eq_false (by omega)) (hK _ (by rw[if_neg h0,eX]))
   refine Ev.up ?_;simp only[G.bP];rcases Hz hp with e|e|e|e|e<;>simp only[e,reduceIte,Int.reduceEq]at hz⊢
   ·exact Ev.ct rfl (Ev.bind (T.ws (by simp only[dB,gI]at hz⊢;omega)) (Ev.ret _))
   ·obtain⟨b1,b2⟩:=GU hp e;exact Ev.cf rfl (Ev.ct rfl (Ev.bind (T.itoa (by omega)) (Ev.bind (T.ws (by show z.length+_<=_;omega)) (Ev.ret _))))
   ·have:=KG hp;exact Ev.cf rfl (Ev.cf rfl (Ev.ct rfl (Ev.bind (T.gU (by omega)) (Ev.ret _))))
   ·refine Ev.cf rfl (Ev.cf rfl (Ev.cf rfl (Ev.ct rfl (Ev.bind (DY 91 (by omega)) ?_))));refine(L3 e n.Kids.length 0 (z++[91]) (by omega) (by simp only[ay,dB,gI]at hz⊢;omega)).eq ?_;simp only[dh]
   ·refine Ev.cf rfl (Ev.cf rfl (Ev.cf rfl (Ev.cf rfl (Ev.ct rfl (Ev.bind (DY 123 (by omega)) ?_)))));refine(L7 e n.Kids.length 0 (z++[123]) (by omega) (by simp only[ay,dB,gI]at hz⊢;omega)).eq ?_;simp only[dh]
theorem fmt5 {n:aj}(h:Val n=true):(nT 5 n).length<=4000000:=by have:=TM 5 (lF h);have:=Uk (au 5);omega
def SC (n:aj):aO:=if Val n then nT 5 n else []
theorem T.jL {B D:Nat}{n:aj}(hB:B<=lim)(h:Fine B D n):Ev (λf=>G.jL f n) (SC n):=by refine Ev.up ?_;simp only[G.jL];unfold SC;refine Ev.bind (T.aX hB h) (Ev.ite (λe=>?_) (λe=>Ev.ret' (by rw[e];rfl)));have hl:=fmt5 e;rw[e];exact Ev.bind (T.bP 5 (lF e) (by simp only[gI];omega)) (Ev.bind (T.bs' (by show(_:aO).length<=_;simp only[gJ];omega)) (Ev.ret _))
theorem T.jh (s:aO)(hs:s.length<big):Ev (λf=>G.jh f s) (Q8 (aam s)):=by
 unfold big at hs;have hM:=maxL;have L2:∀m:Nat,m<65521->Ev (λf=>G.jh.L2 f (m:Int) 3 (bU 4 0)) (Q8 m):=λm hm=>by
  have st:∀m:Nat,m<65521->af .i64 (nV (m:Int) 16)=((m/16:Nat):Int):=λm hm=>by rw[show(16:Int)=((16:Nat):Int)from rfl,MZ];exact wrapN rfl (by omega)
  have tm:∀m:Nat,lq (m:Int) 16=((m%16:Nat):Int):=λm=>by rw[show(16:Int)=((16:Nat):Int)from rfl,Hf]
  refine Ev.up ?_;simp only[G.jh.L2,tm,st m hm,ai];refine Ev.ct rfl (Ev.chk (by omega) (Ev.chk (by simp) (Ev.chk (by omega) ?_)));refine Ev.up ?_;simp only[G.jh.L2,tm,st (m/16) (by omega),ai];refine Ev.ct rfl (Ev.chk (by omega) (Ev.chk (by simp;decide) (Ev.chk (by decide) ?_)));refine Ev.up ?_;simp only[G.jh.L2,tm,st (m/16/16) (by omega),ai];refine Ev.ct rfl (Ev.chk (by omega) (Ev.chk (by simp;decide) (Ev.chk (by decide) ?_)));refine Ev.up ?_;simp only[G.jh.L2,tm,st (m/16/16/16) (by omega),ai];refine Ev.ct rfl (Ev.chk (by omega) (Ev.chk (by simp;decide) (Ev.chk (by decide) ?_)));refine Ev.up ?_;simp only[G.jh.L2];refine Ev.cf rfl (Ev.chk (by simp) (Ev.chk (by simp;omega) (Ev.ret' ?_)));unfold Q8 Zw;rw[show m/4096=m/16/16/16%16 by omega,show m/256%16=m/16/16%16 by omega];show yO [((hexD.getD (m/16/16/16%16) 0).toNat:Int),((hexD.getD (m/16/16%16) 0).toNat:Int),((hexD.getD (m/16%16) 0).toNat:Int),((hexD.getD (m%16) 0).toNat:Int)]=_;simp[yO]
 have L:∀(k i m:Nat),i+k=s.length->m<65521->Ev (λf=>G.jh.L1 f s (m:Int) i) (Q8 ((s.drop i).foldl (λn b=>(131*n+b.toNat)%65521) m)):=by
  intro k
  induction k with
  | zero=>intro i m hi hm;refine Ev.up ?_;simp only[G.jh.L1];rw[ak (by omega)];exact Ev.cf (decide_eq_false (by omega)) (L2 m hm)
  | succ k ih=>intro i m hi hm;have hb:=(s.getD i 0).toNat_lt;refine Ev.up ?_;simp only[G.jh.L1,ai,GG,dA (show i+1<9223372036854775808 by omega),wrapN (x:=131*(m:Int)) (m:=131*m) (by omega) (by omega)];rw[wrapN (x:=((131*m:Nat):Int)+((s.getD i 0).toNat:Int)) (m:=131*m+(s.getD i 0).toNat) (by omega) (by omega),show(65521:Int)=((65521:Nat):Int)from rfl,Hf];rw[dI (0:UInt8) (by omega:i<s.length),lT];exact Ev.ct (decide_eq_true (by omega)) (Ev.chk (by omega) (ih (i+1) _ (by omega) (xN _ (by omega))))
 refine Ev.up ?_;simp only[G.jh];exact L s.length 0 17 (by omega) (by omega)
theorem T.uq {B D:Nat}{n:aj}(hB:B<=lim)(h:Fine B D n):Ev (λf=>G.uq f n) (Ew n):=by refine Ev.up ?_;simp only[G.uq];unfold Ew;refine Ev.bind (T.aX hB h) (Ev.ite (λe=>?_) (λe=>Ev.ret' (by rw[e];rfl)));have hl:=fmt5 e;have hf:=T.jL hB h;unfold SC at hf;rw[e]at hf⊢;exact Ev.bind hf (Ev.bind (T.jh _ (by show(nT 5 n).length<_;unfold big;omega)) (Ev.ret _))
end Go.Ab
