/- The functions of the program that the laws reach: what they compute, the proofs that they do, the laws of the data (part 1). No conditions. -/
import Derived.Test.YtjfeblenfiiofaaGreatDoorY3
set_option linter.unusedVariables false
set_option linter.unusedSimpArgs false
set_option maxRecDepth 100000
set_option maxHeartbeats 4000000
set_option linter.defProp false
set_option linter.unusedSectionVars false
open And renaming intro->gZ
open Bool renaming false_or->EL,and_eq_true->af,true_and->bY,and_eq_false_iff->jR,and_true->qY,eq_iff_iff->rX,false_and->tq,or_true->uH,and_false->vS,true_or->wZ
open Go.IntKind renaming wrap->ah,bits->iG,signed->qK
open Go.Lib renaming compareBytes->jI,itoa->qx
open Go.Op renaming bytesLess->fC
open Int renaming toNat_natCast->ak,ofNat_zero->kK,sub_zero->lQ,toNat_sub->lu,fdiv->ug,tdiv->xJ,tmod->zH
open List renaming mem_cons->aB,all_eq_true->aH,drop_of_length_le->aI,map_cons->aP,map->aT,mem_append->aV,take_of_length_le->aW,replicate->aY,getElem_mem->bz,mem_of_mem_take->dG,drop_zero->dI,eq_nil_of_length_eq_zero->dK,length_take->dW,map_nil->gV,all_cons->iD,length_append->iM,mem_of_mem_drop->iR,take_length->jP,length_drop->jd,drop->jo,take_succ_eq_append_getElem->kR,mem_or_eq_of_mem_set->lD,sum_cons->lG,length_cons->lU,map_append->mG,range'->mJ,getD_cons_succ->nR,length_pos_iff->nT,map_take->oO,length_set->pM,take->qy,map_drop->rq,find?_cons->sD,getD_cons_zero->sS,range'_succ->uO,mem_singleton->wV
open List.cons renaming injEq->pJ
open Nat renaming le_refl->aA,le_trans->cZ,add_sub_cancel->gK,sub_zero->jW,le_mul_of_pos_right->uP
open Option renaming bind_some->fG,map_some->iH,bind->iV,map_none->ig,filter->oQ
open UInt8 renaming ofNat->iW
namespace Go.Ab
open Go
structure ai where
 Kind:Int
 Num:Int
 Text:gB
 Names:List gB
 Kids:List ai
 deriving Inhabited
mutual
def ai.cells : ai->List Cell
 |ai.mk x0 x1 x2 x3 x4=>[.lit (.int .i64 x0),.lit (.int .i64 x1),.str x2,.sl 1 (aT cS x3),.sl 5 (ai.CO x4)]
def ai.CO : List ai->List (List Cell)
 |[]=>[]
 |x::r=>x.cells::ai.CO r
end
theorem ai.Ov (ks:List ai):ai.CO ks=aT ai.cells ks:=by
 induction ks with
 |nil=>rfl
 |cons x r ih=>simp[ai.CO,ih]
theorem ai.kU (n:ai):n.cells=[.lit (.int .i64 n.Kind),.lit (.int .i64 n.Num),.str n.Text,.sl 1 (aT cS n.Names),.sl 5 (aT ai.cells n.Kids)]:=by cases n;rw[ai.cells,ai.Ov]
structure tC where
 Kind:Int
 Path:List gB
 From:List gB
 Value:ai
 deriving Inhabited
def tC.cells (n:tC):List Cell:=[.lit (.int .i64 n.Kind),.sl 1 (aT cS n.Path),.sl 1 (aT cS n.From),.lit (.int .i64 n.Value.Kind),.lit (.int .i64 n.Value.Num),.str n.Value.Text,.sl 1 (aT cS n.Value.Names),.sl 5 (aT ai.cells n.Value.Kids)]
theorem tC.kU (n:tC):n.cells=[.lit (.int .i64 n.Kind),.sl 1 (aT cS n.Path),.sl 1 (aT cS n.From),.lit (.int .i64 n.Value.Kind),.lit (.int .i64 n.Value.Num),.str n.Value.Text,.sl 1 (aT cS n.Value.Names),.sl 5 (aT ai.cells n.Value.Kids)]:=rfl
structure o7 where
 list:List tC
 deriving Inhabited
def o7.cells (n:o7):List Cell:=[.sl 8 (aT tC.cells n.list)]
theorem o7.kU (n:o7):n.cells=[.sl 8 (aT tC.cells n.list)]:=rfl
def G.cmp_isNaN_int (f:Nat)(qg:Int):Option (Bool):=match f with
|0=>none
|n+1=>(some ((qg != qg)))
def G.cmp_Compare_int (f:Nat)(qg:Int)(F5:Int):Option (Int):=match f with
|0=>none
|n+1=>((G.cmp_isNaN_int n qg).bind λv1=>((G.cmp_isNaN_int n F5).bind λv2=>(cond v1
(cond v2
(some (0))
(some ((-1))))
(cond v2
(some (1))
(cond (decide (qg<F5))
(some ((-1)))
(cond (decide (F5<qg))
(some (1))
(some (0))))))))
def G.cmp_isNaN_string (f:Nat)(qg:gB):Option (Bool):=match f with
|0=>none
|n+1=>(some ((!(qg==qg))))
def G.cmp_Less_string (f:Nat)(qg:gB)(F5:gB):Option (Bool):=match f with
|0=>none
|n+1=>((G.cmp_isNaN_string n qg).bind λv1=>(cond v1
((G.cmp_isNaN_string n F5).bind λv2=>(cond v2
(some ((fC qg F5)))
(some (true))))
(some ((fC qg F5)))))
mutual
def G.aO.L2 (f:Nat)(ay:ai)(z1:List gB)(oZ:Int)(z4:List ai):Option (ai):=match f with
|0=>none
|n+1=>(cond (decide (oZ<(ay.Kids.length:Int)))
(chk (0<=oZ/\oZ<(ay.Kids.length:Int))
((G.aO n (ay.Kids.getD oZ.toNat default)).bind λv3=>(chk (0<=oZ/\oZ<(z4.length:Int))
(G.aO.L2 n ay z1 (ah .i64 (oZ+1)) (z4.set oZ.toNat v3)))))
(some ((ai.mk ay.Kind ay.Num ay.Text z1 z4))))
def G.aO.K1 (f:Nat)(ay:ai)(z1:List gB):Option (ai):=match f with
|0=>none
|n+1=>(cond (decide (0<(ay.Kids.length:Int)))
(chk (0<=(ay.Kids.length:Int)/\(ay.Kids.length:Int)<=(ay.Kids.length:Int)/\80*(ay.Kids.length:Int)<=2^47/\(ay.Kids.length:Int)<=2^47)
(G.aO.L2 n ay z1 0 (aY ay.Kids.length (ai.mk 0 0 [] [] []))))
(some ((ai.mk ay.Kind ay.Num ay.Text z1 []))))
def G.aO (f:Nat)(ay:ai):Option (ai):=match f with
|0=>none
|n+1=>(cond (decide (0<(ay.Names.length:Int)))
(chk (0<=(ay.Names.length:Int)/\(ay.Names.length:Int)<=(ay.Names.length:Int)/\16*(ay.Names.length:Int)<=2^47/\(ay.Names.length:Int)<=2^47)
(G.aO.K1 n ay ay.Names))
(G.aO.K1 n ay []))
end
def G.slices_isNaN_string (f:Nat)(qg:gB):Option (Bool):=match f with
|0=>none
|n+1=>(some ((!(qg==qg))))
def G.slices_BinarySearch_string.L1 (f:Nat)(qg:List gB)(sJ:gB)(di:Int)(VR:Int):Option (Int×Bool):=match f with
|0=>none
|n+1=>(cond (decide (di<VR))
(chk (0<=(ah .i64 ((ug (ah .u64 ((ah .i64 (di+VR)))) (2^(min 1 (iG .u64))))))/\(ah .i64 ((ug (ah .u64 ((ah .i64 (di+VR)))) (2^(min 1 (iG .u64))))))<(qg.length:Int))
((G.cmp_Less_string n (qg.getD (ah .i64 ((ug (ah .u64 ((ah .i64 (di+VR)))) (2^(min 1 (iG .u64)))))).toNat default) sJ).bind λv3=>(cond v3
(G.slices_BinarySearch_string.L1 n qg sJ (ah .i64 ((ah .i64 ((ug (ah .u64 ((ah .i64 (di+VR)))) (2^(min 1 (iG .u64))))))+1)) VR)
(G.slices_BinarySearch_string.L1 n qg sJ di (ah .i64 ((ug (ah .u64 ((ah .i64 (di+VR)))) (2^(min 1 (iG .u64))))))))))
(cond (decide (di<(qg.length:Int)))
(chk (0<=di/\di<(qg.length:Int))
(cond ((qg.getD di.toNat default)==sJ)
(some (di,true))
(chk (0<=di/\di<(qg.length:Int))
((G.slices_isNaN_string n (qg.getD di.toNat default)).bind λv4=>(cond v4
((G.slices_isNaN_string n sJ).bind λv5=>(some (di,v5)))
(some (di,false)))))))
(some (di,false))))
def G.slices_BinarySearch_string (f:Nat)(qg:List gB)(sJ:gB):Option (Int×Bool):=match f with
|0=>none
|n+1=>(G.slices_BinarySearch_string.L1 n qg sJ 0 (qg.length:Int))
def G.strconv_Itoa (f:Nat)(i:Int):Option gB:=match f with
|0=>none
|_+1=>(chk ((-9223372036854775808<=i/\i<=9223372036854775807)/\(qx i).length<=1000000) (some (qx i)))
def G.dn.L1 (f:Nat)(ay:ai)(fK:gB)(oZ:Int):Option (Int×Bool):=match f with
|0=>none
|n+1=>(cond (decide (oZ<(ay.Kids.length:Int)))
((G.strconv_Itoa n oZ).bind λv4=>(cond (v4==fK)
(some (oZ,true))
(G.dn.L1 n ay fK (ah .i64 (oZ+1)))))
(some (0,false)))
def G.dn (f:Nat)(ay:ai)(fK:gB):Option (Int×Bool):=match f with
|0=>none
|n+1=>(cond (ay.Kind==4)
((G.slices_BinarySearch_string n ay.Names fK).bind λv1=>(some (v1.1,v1.2)))
(cond (ay.Kind==3)
(G.dn.L1 n ay fK 0)
(some (0,false))))
def G.fF (f:Nat)(s:List ai)(i:Int)(v:List ai):Option (List ai):=match f with
|0=>none
|_+1=>chk (0<=i/\i<=(s.length:Int)/\v.length=1/\(s.length+1)*86<=2^46) (some (s.take i.toNat++v++s.drop i.toNat))
def G.jF (f:Nat)(s:List gB)(i:Int)(v:List gB):Option (List gB):=match f with
|0=>none
|_+1=>chk (0<=i/\i<=(s.length:Int)/\v.length=1/\(s.length+1)*18<=2^46) (some (s.take i.toNat++v++s.drop i.toNat))
def G.mg (f:Nat)(Bf:ai)(EO:gB)(dM:ai):Option (ai):=match f with
|0=>none
|n+1=>((G.slices_BinarySearch_string n Bf.Names EO).bind λv1=>(cond v1.2
(chk (0<=v1.1/\v1.1<(Bf.Kids.length:Int))
(some ((ai.mk Bf.Kind Bf.Num Bf.Text Bf.Names (Bf.Kids.set v1.1.toNat dM)))))
((G.jF n Bf.Names v1.1 [EO]).bind λv2=>((G.fF n Bf.Kids v1.1 [dM]).bind λv3=>(some ((ai.mk Bf.Kind Bf.Num Bf.Text v2 v3)))))))
def G.iy.K1 (f:Nat)(dM:ai)(v1:ai)(afs:Int)(afu:Bool):Option (ai×Bool):=match f with
|0=>none
|n+1=>(cond afu
((G.aO n dM).bind λv6=>((G.fF n v1.Kids afs [v6]).bind λv7=>(some ((ai.mk v1.Kind v1.Num v1.Text v1.Names v7),true))))
(some ((ai.mk 0 0 [] [] []),false)))
def G.iy (f:Nat)(ay:ai)(fK:gB)(dM:ai):Option (ai×Bool):=match f with
|0=>none
|n+1=>((G.aO n ay).bind λv1=>(cond (ay.Kind==4)
((G.aO n dM).bind λv2=>((G.mg n v1 fK v2).bind λv3=>(some (v3,true))))
(cond (ay.Kind==3)
((G.dn n ay fK).bind λv4=>(cond v4.2
(G.iy.K1 n dM v1 v4.1 true)
(cond (fK==[45])
(G.iy.K1 n dM v1 (ay.Kids.length:Int) true)
((G.strconv_Itoa n (ay.Kids.length:Int)).bind λv8=>(cond (fK==v8)
(G.iy.K1 n dM v1 (ay.Kids.length:Int) true)
(G.iy.K1 n dM v1 v4.1 false))))))
(some ((ai.mk 0 0 [] [] []),false)))))
def G.mO (f:Nat)(sH:ai)(gJ:List gB)(jJ:Int)(sZ:ai):Option (ai×Bool):=match f with
|0=>none
|n+1=>(chk (0<=jJ/\jJ<(gJ.length:Int))
((G.iy n sH (gJ.getD jJ.toNat default) sZ).bind λv1=>(some (v1.1,v1.2))))
def G.dm.L1 (f:Nat)(tV:gB)(di:Int):Option (Bool):=match f with
|0=>none
|n+1=>(cond (decide (di<(tV.length:Int)))
(chk (0<=di/\di<(tV.length:Int))
(cond (decide (((tV.getD di.toNat 0).toNat:Int)<32))
(some (false))
(chk (0<=di/\di<(tV.length:Int))
(cond (decide (126<((tV.getD di.toNat 0).toNat:Int)))
(some (false))
(G.dm.L1 n tV (ah .i64 (di+1)))))))
(some (true)))
def G.dm (f:Nat)(tV:gB):Option (Bool):=match f with
|0=>none
|n+1=>(cond (decide (12<(tV.length:Int)))
(some (false))
(G.dm.L1 n tV 0))
def G.fP.L1 (f:Nat)(o9:List gB)(oZ:Int):Option (Bool):=match f with
|0=>none
|n+1=>(cond (decide (oZ<(o9.length:Int)))
(chk (0<=oZ/\oZ<(o9.length:Int))
((G.dm n (o9.getD oZ.toNat default)).bind λv3=>(cond v3
(cond (decide (0<oZ))
(chk (0<=(ah .i64 (oZ-1))/\(ah .i64 (oZ-1))<(o9.length:Int))
(cond (fC (o9.getD (ah .i64 (oZ-1)).toNat default) (o9.getD oZ.toNat default))
(G.fP.L1 n o9 (ah .i64 (oZ+1)))
(some (false))))
(G.fP.L1 n o9 (ah .i64 (oZ+1))))
(some (false)))))
(some (true)))
def G.fP (f:Nat)(o9:List gB):Option (Bool):=match f with
|0=>none
|n+1=>(cond (decide (6<(o9.length:Int)))
(some (false))
(G.fP.L1 n o9 0))
def G.dw.K1 (f:Nat)(ay:ai):Option (Bool):=match f with
|0=>none
|n+1=>(cond (ay.Kind != 4)
(cond (decide (0<(ay.Names.length:Int)))
(some (false))
(cond (ay.Kind==0)
(some (((ay.Kids.length:Int)==0)))
(cond (ay.Kind==1)
(cond (decide ((-999999)<=ay.Num))
(cond (decide (ay.Num<=999999))
(some (((ay.Kids.length:Int)==0)))
(some (false)))
(some (false)))
(cond (ay.Kind==2)
((G.dm n ay.Text).bind λv1=>(cond v1
(some (((ay.Kids.length:Int)==0)))
(some (false))))
(cond (ay.Kind==3)
(some ((decide ((ay.Kids.length:Int)<=6))))
(cond (ay.Kind==4)
((G.fP n ay.Names).bind λv2=>(cond v2
(some (((ay.Kids.length:Int)==(ay.Names.length:Int))))
(some (false))))
(some (false))))))))
(cond (ay.Kind==0)
(some (((ay.Kids.length:Int)==0)))
(cond (ay.Kind==1)
(cond (decide ((-999999)<=ay.Num))
(cond (decide (ay.Num<=999999))
(some (((ay.Kids.length:Int)==0)))
(some (false)))
(some (false)))
(cond (ay.Kind==2)
((G.dm n ay.Text).bind λv3=>(cond v3
(some (((ay.Kids.length:Int)==0)))
(some (false))))
(cond (ay.Kind==3)
(some ((decide ((ay.Kids.length:Int)<=6))))
(cond (ay.Kind==4)
((G.fP n ay.Names).bind λv4=>(cond v4
(some (((ay.Kids.length:Int)==(ay.Names.length:Int))))
(some (false))))
(some (false))))))))
def G.dw (f:Nat)(ay:ai):Option (Bool):=match f with
|0=>none
|n+1=>(cond (ay.Kind != 1)
(cond (ay.Num != 0)
(some (false))
(cond (ay.Kind != 2)
(cond (ay.Text==[])
(G.dw.K1 n ay)
(some (false)))
(G.dw.K1 n ay)))
(cond (ay.Kind != 2)
(cond (ay.Text==[])
(G.dw.K1 n ay)
(some (false)))
(G.dw.K1 n ay)))
mutual
def G.cO.L1 (f:Nat)(ay:ai)(uh:Int)(TZ:Int)(NS:Int)(oZ:Int):Option (Int×Int×Bool):=match f with
|0=>none
|n+1=>(cond (decide (oZ<(ay.Kids.length:Int)))
(chk (0<=oZ/\oZ<(ay.Kids.length:Int))
((G.cO n (ay.Kids.getD oZ.toNat default) (ah .i64 (uh+1))).bind λv4=>(cond v4.2.2
(G.cO.L1 n ay uh (ah .i64 (TZ+v4.1)) (if(ah .i64 (v4.2.1+1))>NS then(ah .i64 (v4.2.1+1))else NS) (ah .i64 (oZ+1)))
(some (0,0,false)))))
(some (TZ,NS,true)))
def G.cO (f:Nat)(ay:ai)(uh:Int):Option (Int×Int×Bool):=match f with
|0=>none
|n+1=>(cond (decide (5<uh))
(some (0,0,false))
((G.dw n ay).bind λv1=>(cond v1
(G.cO.L1 n ay uh 1 1 0)
(some (0,0,false)))))
end
def G.cu (f:Nat)(ay:ai):Option (Bool):=match f with
|0=>none
|n+1=>((G.cO n ay 1).bind λv1=>(cond v1.2.2
(some ((decide (v1.1<=40))))
(some (false))))
mutual
def G.eX (f:Nat)(ay:ai)(au:List gB)(gJ:List gB)(jJ:Int)(sZ:ai):Option (ai×Bool):=match f with
|0=>none
|n+1=>(cond ((au.length:Int)==0)
((G.mO n ay gJ jJ sZ).bind λv1=>(some (v1.1,v1.2)))
(chk (0<=0/\0<(au.length:Int))
((G.dn n ay (au.getD 0 default)).bind λv2=>(cond v2.2
(chk (0<=v2.1/\v2.1<(ay.Kids.length:Int))
(chk (0<=1/\1<=(au.length:Int)/\(au.length:Int)<=(au.length:Int))
((G.eX n (ay.Kids.getD v2.1.toNat default) (au.drop 1) gJ jJ sZ).bind λv3=>(cond v3.2
((G.aO n ay).bind λv4=>(chk (0<=v2.1/\v2.1<(v4.Kids.length:Int))
(some ((ai.mk v4.Kind v4.Num v4.Text v4.Names (v4.Kids.set v2.1.toNat v3.1)),true))))
(some ((ai.mk 0 0 [] [] []),false))))))
(some ((ai.mk 0 0 [] [] []),false))))))
end
def G.kV (f:Nat)(ay:ai)(DT:Bool):Option (ai×Bool):=match f with
|0=>none
|n+1=>(cond DT
((G.cu n ay).bind λv1=>(cond v1
(some (ay,true))
(some ((ai.mk 0 0 [] [] []),false))))
(some ((ai.mk 0 0 [] [] []),false)))
def G.dS.L1 (f:Nat)(au:List gB)(oZ:Int):Option (Bool):=match f with
|0=>none
|n+1=>(cond (decide (oZ<(au.length:Int)))
(chk (0<=oZ/\oZ<(au.length:Int))
((G.dm n (au.getD oZ.toNat default)).bind λv3=>(cond v3
(G.dS.L1 n au (ah .i64 (oZ+1)))
(some (false)))))
(some (true)))
def G.dS (f:Nat)(au:List gB):Option (Bool):=match f with
|0=>none
|n+1=>(cond (decide (5<(au.length:Int)))
(some (false))
(G.dS.L1 n au 0))
def G.jv (f:Nat)(ay:ai)(au:List gB)(dM:ai):Option (ai×Bool):=match f with
|0=>none
|n+1=>((G.cu n ay).bind λv1=>(cond v1
((G.dS n au).bind λv2=>(cond v2
((G.cu n dM).bind λv3=>(cond v3
(cond ((au.length:Int)==0)
((G.aO n dM).bind λv4=>(some (v4,true)))
(chk (0<=0/\0<=(ah .i64 ((au.length:Int)-1))/\(ah .i64 ((au.length:Int)-1))<=(au.length:Int))
((G.eX n ay (au.take ((ah .i64 ((au.length:Int)-1)).toNat)) au (ah .i64 ((au.length:Int)-1)) dM).bind λv5=>((G.kV n v5.1 v5.2).bind λv6=>(some (v6.1,v6.2))))))
(some ((ai.mk 0 0 [] [] []),false))))
(some ((ai.mk 0 0 [] [] []),false))))
(some ((ai.mk 0 0 [] [] []),false))))
def G.fQ.L1 (f:Nat)(au:List gB)(oZ:Int)(y6:Int)(y7:Int)(y8:gB)(y9:List gB)(Ub:List ai):Option (ai×Bool):=match f with
|0=>none
|n+1=>(cond (decide (oZ<(au.length:Int)))
(chk (0<=oZ/\oZ<(au.length:Int))
((G.dn n (ai.mk y6 y7 y8 y9 Ub) (au.getD oZ.toNat default)).bind λv3=>(cond v3.2
(chk (0<=v3.1/\v3.1<(Ub.length:Int))
(G.fQ.L1 n au (ah .i64 (oZ+1)) ((Ub.getD v3.1.toNat default).Kind) ((Ub.getD v3.1.toNat default).Num) ((Ub.getD v3.1.toNat default).Text) ((Ub.getD v3.1.toNat default).Names) ((Ub.getD v3.1.toNat default).Kids)))
(some ((ai.mk 0 0 [] [] []),false)))))
(some ((ai.mk y6 y7 y8 y9 Ub),true)))
def G.fQ (f:Nat)(ay:ai)(au:List gB):Option (ai×Bool):=match f with
|0=>none
|n+1=>(G.fQ.L1 n au 0 ay.Kind ay.Num ay.Text ay.Names ay.Kids)
def G.lX (f:Nat)(ay:ai)(au:List gB):Option (ai×Bool):=match f with
|0=>none
|n+1=>((G.cu n ay).bind λv1=>(cond v1
((G.dS n au).bind λv2=>(cond v2
((G.fQ n ay au).bind λv3=>(cond v3.2
((G.aO n v3.1).bind λv4=>(some (v4,true)))
(some ((ai.mk 0 0 [] [] []),false))))
(some ((ai.mk 0 0 [] [] []),false))))
(some ((ai.mk 0 0 [] [] []),false))))
def G.iO (f:Nat)(s:List ai)(i:Int)(j:Int):Option (List ai):=match f with
|0=>none
|_+1=>chk (0<=i/\i<j/\j<=(s.length:Int)/\s.length*86<=2^46) (some (s.take i.toNat++s.drop j.toNat))
def G.slices_Delete_string (f:Nat)(s:List gB)(i:Int)(j:Int):Option (List gB):=match f with
|0=>none
|_+1=>chk (0<=i/\i<j/\j<=(s.length:Int)/\s.length*18<=2^46) (some (s.take i.toNat++s.drop j.toNat))
def G.dZ.K1 (f:Nat)(v1:Int×Bool)(v2:ai)(z1:List gB):Option (ai×Bool):=match f with
|0=>none
|n+1=>((G.iO n v2.Kids v1.1 (ah .i64 (v1.1+1))).bind λv4=>(some ((ai.mk v2.Kind v2.Num v2.Text z1 v4),true)))
def G.dZ (f:Nat)(sH:ai)(gJ:List gB)(jJ:Int):Option (ai×Bool):=match f with
|0=>none
|n+1=>(chk (0<=jJ/\jJ<(gJ.length:Int))
((G.dn n sH (gJ.getD jJ.toNat default)).bind λv1=>(cond v1.2
((G.aO n sH).bind λv2=>(cond (sH.Kind==4)
((G.slices_Delete_string n v2.Names v1.1 (ah .i64 (v1.1+1))).bind λv5=>(G.dZ.K1 n v1 v2 v5))
(G.dZ.K1 n v1 v2 v2.Names)))
(some ((ai.mk 0 0 [] [] []),false)))))
mutual
def G.dN (f:Nat)(ay:ai)(au:List gB)(gJ:List gB)(jJ:Int):Option (ai×Bool):=match f with
|0=>none
|n+1=>(cond ((au.length:Int)==0)
((G.dZ n ay gJ jJ).bind λv1=>(some (v1.1,v1.2)))
(chk (0<=0/\0<(au.length:Int))
((G.dn n ay (au.getD 0 default)).bind λv2=>(cond v2.2
(chk (0<=v2.1/\v2.1<(ay.Kids.length:Int))
(chk (0<=1/\1<=(au.length:Int)/\(au.length:Int)<=(au.length:Int))
((G.dN n (ay.Kids.getD v2.1.toNat default) (au.drop 1) gJ jJ).bind λv3=>(cond v3.2
((G.aO n ay).bind λv4=>(chk (0<=v2.1/\v2.1<(v4.Kids.length:Int))
(some ((ai.mk v4.Kind v4.Num v4.Text v4.Names (v4.Kids.set v2.1.toNat v3.1)),true))))
(some ((ai.mk 0 0 [] [] []),false))))))
(some ((ai.mk 0 0 [] [] []),false))))))
end
def G.iF (f:Nat)(ay:ai)(au:List gB):Option (ai×Bool):=match f with
|0=>none
|n+1=>((G.cu n ay).bind λv1=>(cond v1
((G.dS n au).bind λv2=>(cond v2
(cond ((au.length:Int)==0)
(some ((ai.mk 0 0 [] [] []),false))
(chk (0<=0/\0<=(ah .i64 ((au.length:Int)-1))/\(ah .i64 ((au.length:Int)-1))<=(au.length:Int))
((G.dN n ay (au.take ((ah .i64 ((au.length:Int)-1)).toNat)) au (ah .i64 ((au.length:Int)-1))).bind λv3=>(some (v3.1,v3.2)))))
(some ((ai.mk 0 0 [] [] []),false))))
(some ((ai.mk 0 0 [] [] []),false))))
def G.mP (f:Nat)(bD:ai)(gJ:ai):Option (ai×Bool):=match f with
|0=>none
|n+1=>((G.aO n gJ).bind λv1=>(some (v1,true)))
mutual
def G.eY (f:Nat)(ay:ai)(au:List gB)(gJ:ai):Option (ai×Bool):=match f with
|0=>none
|n+1=>(cond ((au.length:Int)==0)
((G.mP n ay gJ).bind λv1=>(some (v1.1,v1.2)))
(chk (0<=0/\0<(au.length:Int))
((G.dn n ay (au.getD 0 default)).bind λv2=>(cond v2.2
(chk (0<=v2.1/\v2.1<(ay.Kids.length:Int))
(chk (0<=1/\1<=(au.length:Int)/\(au.length:Int)<=(au.length:Int))
((G.eY n (ay.Kids.getD v2.1.toNat default) (au.drop 1) gJ).bind λv3=>(cond v3.2
((G.aO n ay).bind λv4=>(chk (0<=v2.1/\v2.1<(v4.Kids.length:Int))
(some ((ai.mk v4.Kind v4.Num v4.Text v4.Names (v4.Kids.set v2.1.toNat v3.1)),true))))
(some ((ai.mk 0 0 [] [] []),false))))))
(some ((ai.mk 0 0 [] [] []),false))))))
end
def G.nC (f:Nat)(ay:ai)(au:List gB)(dM:ai):Option (ai×Bool):=match f with
|0=>none
|n+1=>((G.cu n ay).bind λv1=>(cond v1
((G.dS n au).bind λv2=>(cond v2
((G.cu n dM).bind λv3=>(cond v3
((G.eY n ay au dM).bind λv4=>((G.kV n v4.1 v4.2).bind λv5=>(some (v5.1,v5.2))))
(some ((ai.mk 0 0 [] [] []),false))))
(some ((ai.mk 0 0 [] [] []),false))))
(some ((ai.mk 0 0 [] [] []),false))))
def G.nJ (f:Nat)(iE:tC):Option (Bool):=match f with
|0=>none
|n+1=>(cond (decide (1<=iE.Kind))
(cond (decide (iE.Kind<=6))
((G.dS n iE.Path).bind λv1=>(cond v1
((G.dS n iE.From).bind λv2=>(cond v2
((G.cu n iE.Value).bind λv3=>(some (v3)))
(some (false))))
(some (false))))
(some (false)))
(some (false)))
def G.slices_Equal_string.L1 (f:Nat)(Bh:List gB)(Du:List gB)(oZ:Int):Option (Bool):=match f with
|0=>none
|n+1=>(cond (decide (oZ<(Bh.length:Int)))
(chk (0<=oZ/\oZ<(Bh.length:Int))
(chk (0<=oZ/\oZ<(Du.length:Int))
(cond ((Bh.getD oZ.toNat default)==(Du.getD oZ.toNat default))
(G.slices_Equal_string.L1 n Bh Du (ah .i64 (oZ+1)))
(some (false)))))
(some (true)))
def G.slices_Equal_string (f:Nat)(Bh:List gB)(Du:List gB):Option (Bool):=match f with
|0=>none
|n+1=>(cond ((Bh.length:Int) != (Du.length:Int))
(some (false))
(G.slices_Equal_string.L1 n Bh Du 0))
def G.lV (f:Nat)(ay:ai)(wR:List gB)(au:List gB):Option (ai×Bool):=match f with
|0=>none
|n+1=>((G.lX n ay wR).bind λv1=>(cond v1.2
((G.slices_Equal_string n au wR).bind λv2=>(cond v2
((G.aO n ay).bind λv3=>(some (v3,true)))
(cond (decide ((wR.length:Int)<(au.length:Int)))
(chk (0<=0/\0<=(wR.length:Int)/\(wR.length:Int)<=(au.length:Int))
((G.slices_Equal_string n (au.take wR.length) wR).bind λv4=>(cond v4
(some ((ai.mk 0 0 [] [] []),false))
((G.iF n ay wR).bind λv5=>(cond v5.2
((G.jv n v5.1 au v1.1).bind λv6=>(some (v6.1,v6.2)))
(some ((ai.mk 0 0 [] [] []),false)))))))
((G.iF n ay wR).bind λv7=>(cond v7.2
((G.jv n v7.1 au v1.1).bind λv8=>(some (v8.1,v8.2)))
(some ((ai.mk 0 0 [] [] []),false)))))))
(some ((ai.mk 0 0 [] [] []),false))))
def G.dX (f:Nat)(bD:gB)(fU:gB):Option (Int):=match f with
|0=>none
|n+1=>(some ((jI bD fU)))
def G.strings_Compare (f:Nat)(bD:gB)(fU:gB):Option (Int):=match f with
|0=>none
|n+1=>((G.dX n bD fU).bind λv1=>(some (v1)))
mutual
def G.aZ.K4 (f:Nat)(bD:ai)(fU:ai)(di:Int):Option (Int):=match f with
|0=>none
|n+1=>(chk (0<=di/\di<(bD.Kids.length:Int))
(chk (0<=di/\di<(fU.Kids.length:Int))
((G.aZ n (bD.Kids.getD di.toNat default) (fU.Kids.getD di.toNat default)).bind λv11=>(cond (v11 != 0)
(some (v11))
(G.aZ.L3 n bD fU (ah .i64 (di+1)))))))
def G.aZ.L3 (f:Nat)(bD:ai)(fU:ai)(di:Int):Option (Int):=match f with
|0=>none
|n+1=>(cond (decide (di<(bD.Kids.length:Int)))
(cond (decide (di<(fU.Kids.length:Int)))
(cond (bD.Kind==4)
(chk (0<=di/\di<(bD.Names.length:Int))
(chk (0<=di/\di<(fU.Names.length:Int))
((G.strings_Compare n (bD.Names.getD di.toNat default) (fU.Names.getD di.toNat default)).bind λv12=>(cond (v12 != 0)
(some (v12))
(G.aZ.K4 n bD fU di)))))
(G.aZ.K4 n bD fU di))
((G.cmp_Compare_int n (bD.Kids.length:Int) (fU.Kids.length:Int)).bind λv13=>(some (v13))))
((G.cmp_Compare_int n (bD.Kids.length:Int) (fU.Kids.length:Int)).bind λv14=>(some (v14))))
def G.aZ (f:Nat)(bD:ai)(fU:ai):Option (Int):=match f with
|0=>none
|n+1=>((G.cmp_Compare_int n bD.Kind fU.Kind).bind λv1=>(cond (v1 != 0)
(some (v1))
((G.cmp_Compare_int n bD.Num fU.Num).bind λv2=>(cond (v2 != 0)
(some (v2))
((G.strings_Compare n bD.Text fU.Text).bind λv3=>(cond (v3 != 0)
(some (v3))
(G.aZ.L3 n bD fU 0)))))))
end
def G.lW (f:Nat)(bD:ai)(fU:ai):Option (Bool):=match f with
|0=>none
|n+1=>((G.aZ n bD fU).bind λv1=>(some ((v1==0))))
def G.kM (f:Nat)(ay:ai)(au:List gB)(dM:ai):Option (ai×Bool):=match f with
|0=>none
|n+1=>((G.fQ n ay au).bind λv1=>(cond v1.2
((G.lW n v1.1 dM).bind λv2=>(cond v2
((G.aO n ay).bind λv3=>(some (v3,true)))
(some ((ai.mk 0 0 [] [] []),false))))
(some ((ai.mk 0 0 [] [] []),false))))
def G.jX (f:Nat)(ay:ai)(iE:tC):Option (ai×Bool):=match f with
|0=>none
|n+1=>((G.cu n ay).bind λv1=>(cond v1
((G.nJ n iE).bind λv2=>(cond v2
(cond (iE.Kind==1)
((G.jv n ay iE.Path iE.Value).bind λv3=>(some (v3.1,v3.2)))
(cond (iE.Kind==2)
((G.iF n ay iE.Path).bind λv4=>(some (v4.1,v4.2)))
(cond (iE.Kind==3)
((G.nC n ay iE.Path iE.Value).bind λv5=>(some (v5.1,v5.2)))
(cond (iE.Kind==4)
((G.lV n ay iE.From iE.Path).bind λv6=>(some (v6.1,v6.2)))
(cond (iE.Kind==5)
((G.lX n ay iE.From).bind λv7=>(cond v7.2
((G.jv n ay iE.Path v7.1).bind λv8=>(some (v8.1,v8.2)))
(some ((ai.mk 0 0 [] [] []),false))))
((G.kM n ay iE.Path iE.Value).bind λv9=>(some (v9.1,v9.2))))))))
(some ((ai.mk 0 0 [] [] []),false))))
(some ((ai.mk 0 0 [] [] []),false))))
def G.lS.L1 (f:Nat)(jL:List tC)(oZ:Int):Option (Bool):=match f with
|0=>none
|n+1=>(cond (decide (oZ<(jL.length:Int)))
(chk (0<=oZ/\oZ<(jL.length:Int))
((G.nJ n (tC.mk ((jL.getD oZ.toNat default).Kind) ((jL.getD oZ.toNat default).Path) ((jL.getD oZ.toNat default).From) ((jL.getD oZ.toNat default).Value))).bind λv3=>(cond v3
(G.lS.L1 n jL (ah .i64 (oZ+1)))
(some (false)))))
(some (true)))
def G.lS (f:Nat)(jL:List tC):Option (Bool):=match f with
|0=>none
|n+1=>(cond (decide (12<(jL.length:Int)))
(some (false))
(G.lS.L1 n jL 0))
def G.acp.L1 (f:Nat)(jL:List tC)(oZ:Int)(y6:Int)(y7:Int)(y8:gB)(y9:List gB)(Ub:List ai):Option (ai×Int):=match f with
|0=>none
|n+1=>(cond (decide (oZ<(jL.length:Int)))
(chk (0<=oZ/\oZ<(jL.length:Int))
((G.jX n (ai.mk y6 y7 y8 y9 Ub) (tC.mk ((jL.getD oZ.toNat default).Kind) ((jL.getD oZ.toNat default).Path) ((jL.getD oZ.toNat default).From) ((jL.getD oZ.toNat default).Value))).bind λv4=>(cond v4.2
(G.acp.L1 n jL (ah .i64 (oZ+1)) v4.1.Kind v4.1.Num v4.1.Text v4.1.Names v4.1.Kids)
(some ((ai.mk 0 0 [] [] []),oZ)))))
(some ((ai.mk y6 y7 y8 y9 Ub),(jL.length:Int))))
def G.acp (f:Nat)(ay:ai)(jL:List tC):Option (ai×Int):=match f with
|0=>none
|n+1=>((G.aO n ay).bind λv1=>(G.acp.L1 n jL 0 v1.Kind v1.Num v1.Text v1.Names v1.Kids))
def G.acr (f:Nat)(ay:ai)(jL:List tC):Option (ai×Bool):=match f with
|0=>none
|n+1=>((G.cu n ay).bind λv1=>(cond v1
((G.lS n jL).bind λv2=>(cond v2
((G.acp n ay jL).bind λv3=>(some (v3.1,(v3.2==(jL.length:Int)))))
(some ((ai.mk 0 0 [] [] []),false))))
(some ((ai.mk 0 0 [] [] []),false))))
def G.gG.L1 (f:Nat)(bD:List gB)(fU:List gB)(di:Int):Option (Bool):=match f with
|0=>none
|n+1=>(cond (decide (di<(bD.length:Int)))
(chk (0<=di/\di<(bD.length:Int))
(chk (0<=di/\di<(fU.length:Int))
(cond ((bD.getD di.toNat default)==(fU.getD di.toNat default))
(G.gG.L1 n bD fU (ah .i64 (di+1)))
(some (false)))))
(some (true)))
def G.gG (f:Nat)(bD:List gB)(fU:List gB):Option (Bool):=match f with
|0=>none
|n+1=>(cond ((bD.length:Int) != (fU.length:Int))
(some (false))
(G.gG.L1 n bD fU 0))
mutual
def G.kE (f:Nat)(bD:ai)(fU:ai):Option (Bool):=match f with
|0=>none
|n+1=>(cond (bD.Kind != fU.Kind)
(some (false))
(cond (bD.Num != fU.Num)
(some (false))
(cond (bD.Text==fU.Text)
((G.gG n bD.Names fU.Names).bind λv1=>(cond v1
((G.jY n bD.Kids fU.Kids).bind λv2=>(cond v2
(some (true))
(some (false))))
(some (false))))
(some (false)))))
def G.jY.L1 (f:Nat)(bD:List ai)(fU:List ai)(di:Int):Option (Bool):=match f with
|0=>none
|n+1=>(cond (decide (di<(bD.length:Int)))
(chk (0<=di/\di<(bD.length:Int))
(chk (0<=di/\di<(fU.length:Int))
((G.kE n (bD.getD di.toNat default) (fU.getD di.toNat default)).bind λv3=>(cond v3
(G.jY.L1 n bD fU (ah .i64 (di+1)))
(some (false))))))
(some (true)))
def G.jY (f:Nat)(bD:List ai)(fU:List ai):Option (Bool):=match f with
|0=>none
|n+1=>(cond ((bD.length:Int) != (fU.length:Int))
(some (false))
(G.jY.L1 n bD fU 0))
end
def G.tZ (f:Nat)(bD:tC)(fU:tC):Option (Bool):=match f with
|0=>none
|n+1=>(cond (bD.Kind != fU.Kind)
(some (false))
((G.gG n bD.Path fU.Path).bind λv1=>(cond v1
((G.gG n bD.From fU.From).bind λv2=>(cond v2
((G.kE n bD.Value fU.Value).bind λv3=>(cond v3
(some (true))
(some (false))))
(some (false))))
(some (false)))))
def G.acO.L1 (f:Nat)(bD:List tC)(fU:List tC)(di:Int):Option (Bool):=match f with
|0=>none
|n+1=>(cond (decide (di<(bD.length:Int)))
(chk (0<=di/\di<(bD.length:Int))
(chk (0<=di/\di<(fU.length:Int))
((G.tZ n (tC.mk ((bD.getD di.toNat default).Kind) ((bD.getD di.toNat default).Path) ((bD.getD di.toNat default).From) ((bD.getD di.toNat default).Value)) (tC.mk ((fU.getD di.toNat default).Kind) ((fU.getD di.toNat default).Path) ((fU.getD di.toNat default).From) ((fU.getD di.toNat default).Value))).bind λv3=>(cond v3
(G.acO.L1 n bD fU (ah .i64 (di+1)))
(some (false))))))
(some (true)))
def G.acO (f:Nat)(bD:List tC)(fU:List tC):Option (Bool):=match f with
|0=>none
|n+1=>(cond ((bD.length:Int) != (fU.length:Int))
(some (false))
(G.acO.L1 n bD fU 0))
def G.gu.L1 (f:Nat)(FD:Int)(Ri:gB):Option (gB):=match f with
|0=>none
|n+1=>(cond (decide (0<FD))
(chk (1<=maxLen)
(chk (1+Ri.length<=maxLen)
(G.gu.L1 n (ah .i64 (xJ FD 10)) ([iW (ah .u8 ((ah .i64 (48+(zH FD 10))))).toNat]++Ri))))
(chk (1+Ri.length<=maxLen)
(some (([109]++Ri)))))
def G.gu (f:Nat)(wB:Int):Option (gB):=match f with
|0=>none
|n+1=>(cond (decide (wB<=0))
(some ([109,48]))
(G.gu.L1 n wB []))
def G.fE.L1 (f:Nat)(bD:List gB)(FD:Int)(di:Int):Option (Int):=match f with
|0=>none
|n+1=>(cond (decide (di<(bD.length:Int)))
(chk (0<=di/\di<(bD.length:Int))
((G.gu n FD).bind λv3=>(cond ((bD.getD di.toNat default)==v3)
(G.fE.L1 n bD (ah .i64 (FD+1)) (ah .i64 (di+1)))
(some ((-1))))))
(some (FD)))
def G.fE (f:Nat)(bD:List gB)(wB:Int):Option (Int):=match f with
|0=>none
|n+1=>(G.fE.L1 n bD wB 0)
mutual
def G.fV.L1 (f:Nat)(bD:List ai)(FD:Int)(di:Int):Option (Int):=match f with
|0=>none
|n+1=>(cond (decide (di<(bD.length:Int)))
(chk (0<=di/\di<(bD.length:Int))
(cond ((bD.getD di.toNat default).Kind != FD)
(some ((-1)))
(chk (0<=di/\di<(bD.length:Int))
(cond ((bD.getD di.toNat default).Num != (ah .i64 (FD+1)))
(some ((-1)))
(chk (0<=di/\di<(bD.length:Int))
((G.gu n (ah .i64 ((ah .i64 (FD+1))+1))).bind λv7=>(cond ((bD.getD di.toNat default).Text==v7)
(chk (0<=di/\di<(bD.length:Int))
((G.fE n ((bD.getD di.toNat default).Names) (ah .i64 ((ah .i64 ((ah .i64 (FD+1))+1))+1))).bind λv8=>(cond (decide (v8<0))
(some ((-1)))
(chk (0<=di/\di<(bD.length:Int))
((G.fV n ((bD.getD di.toNat default).Kids) v8).bind λv9=>(cond (decide (v9<0))
(some ((-1)))
(G.fV.L1 n bD v9 (ah .i64 (di+1)))))))))
(some ((-1))))))))))
(some (FD)))
def G.fV (f:Nat)(bD:List ai)(wB:Int):Option (Int):=match f with
|0=>none
|n+1=>(G.fV.L1 n bD wB 0)
end
def G.acS.L1 (f:Nat)(bD:List tC)(FD:Int)(di:Int):Option (Int):=match f with
|0=>none
|n+1=>(cond (decide (di<(bD.length:Int)))
(chk (0<=di/\di<(bD.length:Int))
(cond ((bD.getD di.toNat default).Kind != FD)
(some ((-1)))
(chk (0<=di/\di<(bD.length:Int))
((G.fE n ((bD.getD di.toNat default).Path) (ah .i64 (FD+1))).bind λv11=>(cond (decide (v11<0))
(some ((-1)))
(chk (0<=di/\di<(bD.length:Int))
((G.fE n ((bD.getD di.toNat default).From) v11).bind λv12=>(cond (decide (v12<0))
(some ((-1)))
(chk (0<=di/\di<(bD.length:Int))
(cond (((bD.getD di.toNat default).Value).Kind != v12)
(some ((-1)))
(chk (0<=di/\di<(bD.length:Int))
(cond (((bD.getD di.toNat default).Value).Num != (ah .i64 (v12+1)))
(some ((-1)))
(chk (0<=di/\di<(bD.length:Int))
((G.gu n (ah .i64 ((ah .i64 (v12+1))+1))).bind λv13=>(cond (((bD.getD di.toNat default).Value).Text==v13)
(chk (0<=di/\di<(bD.length:Int))
((G.fE n (((bD.getD di.toNat default).Value).Names) (ah .i64 ((ah .i64 ((ah .i64 (v12+1))+1))+1))).bind λv14=>(cond (decide (v14<0))
(some ((-1)))
(chk (0<=di/\di<(bD.length:Int))
((G.fV n (((bD.getD di.toNat default).Value).Kids) v14).bind λv15=>(cond (decide (v15<0))
(some ((-1)))
(G.acS.L1 n bD v15 (ah .i64 (di+1)))))))))
(some ((-1))))))))))))))))))
(some (FD)))
def G.acS (f:Nat)(bD:List tC)(wB:Int):Option (Int):=match f with
|0=>none
|n+1=>(G.acS.L1 n bD wB 0)
def G.fJ.L1 (f:Nat)(bD:List gB)(Fp:Int)(di:Int):Option (Int):=match f with
|0=>none
|n+1=>(cond (decide (di<(bD.length:Int)))
(chk (0<=di/\di<(bD.length:Int))
(cond (decide ((ah .i64 (Fp-((bD.getD di.toNat default).length:Int)))<0))
(some ((-1)))
(G.fJ.L1 n bD (ah .i64 (Fp-((bD.getD di.toNat default).length:Int))) (ah .i64 (di+1)))))
(some (Fp)))
def G.fJ (f:Nat)(bD:List gB)(ni:Int):Option (Int):=match f with
|0=>none
|n+1=>(cond (decide ((ah .i64 (ni-(bD.length:Int)))<0))
(some ((-1)))
(G.fJ.L1 n bD (ah .i64 (ni-(bD.length:Int))) 0))
mutual
def G.jE (f:Nat)(bD:ai)(ni:Int):Option (Int):=match f with
|0=>none
|n+1=>(cond (decide ((ah .i64 (ni-(bD.Text.length:Int)))<0))
(some ((-1)))
((G.fJ n bD.Names (ah .i64 (ni-(bD.Text.length:Int)))).bind λv1=>(cond (decide (v1<0))
(some ((-1)))
((G.jy n bD.Kids v1).bind λv2=>(cond (decide (v2<0))
(some ((-1)))
(some (v2)))))))
def G.jy.L1 (f:Nat)(bD:List ai)(Fp:Int)(di:Int):Option (Int):=match f with
|0=>none
|n+1=>(cond (decide (di<(bD.length:Int)))
(chk (0<=di/\di<(bD.length:Int))
((G.jE n (bD.getD di.toNat default) Fp).bind λv3=>(cond (decide (v3<0))
(some ((-1)))
(G.jy.L1 n bD v3 (ah .i64 (di+1))))))
(some (Fp)))
def G.jy (f:Nat)(bD:List ai)(ni:Int):Option (Int):=match f with
|0=>none
|n+1=>(cond (decide ((ah .i64 (ni-(bD.length:Int)))<0))
(some ((-1)))
(G.jy.L1 n bD (ah .i64 (ni-(bD.length:Int))) 0))
end
def G.oM (f:Nat)(bD:tC)(ni:Int):Option (Int):=match f with
|0=>none
|n+1=>((G.fJ n bD.Path ni).bind λv1=>(cond (decide (v1<0))
(some ((-1)))
((G.fJ n bD.From v1).bind λv2=>(cond (decide (v2<0))
(some ((-1)))
((G.jE n bD.Value v2).bind λv3=>(cond (decide (v3<0))
(some ((-1)))
(some (v3))))))))
def G.gI.L1 (f:Nat)(bD:List gB)(di:Int)(z3:List gB):Option (List gB):=match f with
|0=>none
|n+1=>(cond (decide (di<(bD.length:Int)))
(chk (0<=di/\di<(bD.length:Int))
(chk (0<=di/\di<(z3.length:Int))
(G.gI.L1 n bD (ah .i64 (di+1)) (z3.set di.toNat (bD.getD di.toNat default)))))
(some (z3)))
def G.gI (f:Nat)(bD:List gB):Option (List gB):=match f with
|0=>none
|n+1=>(chk (0<=(bD.length:Int)/\(bD.length:Int)<=(bD.length:Int)/\16*(bD.length:Int)<=2^47/\(bD.length:Int)<=2^47)
(G.gI.L1 n bD 0 (aY bD.length [])))
mutual
def G.kW (f:Nat)(bD:ai):Option (ai):=match f with
|0=>none
|n+1=>((G.gI n bD.Names).bind λv1=>((G.jZ n bD.Kids).bind λv2=>(some ((ai.mk bD.Kind bD.Num bD.Text v1 v2)))))
def G.jZ.L1 (f:Nat)(bD:List ai)(di:Int)(z3:List ai):Option (List ai):=match f with
|0=>none
|n+1=>(cond (decide (di<(bD.length:Int)))
(chk (0<=di/\di<(bD.length:Int))
((G.kW n (bD.getD di.toNat default)).bind λv3=>(chk (0<=di/\di<(z3.length:Int))
(G.jZ.L1 n bD (ah .i64 (di+1)) (z3.set di.toNat v3)))))
(some (z3)))
def G.jZ (f:Nat)(bD:List ai):Option (List ai):=match f with
|0=>none
|n+1=>(chk (0<=(bD.length:Int)/\(bD.length:Int)<=(bD.length:Int)/\80*(bD.length:Int)<=2^47/\(bD.length:Int)<=2^47)
(G.jZ.L1 n bD 0 (aY bD.length (ai.mk 0 0 [] [] []))))
end
def G.ry (f:Nat)(bD:tC):Option (tC):=match f with
|0=>none
|n+1=>((G.gI n bD.Path).bind λv1=>((G.gI n bD.From).bind λv2=>((G.kW n bD.Value).bind λv3=>(some ((tC.mk bD.Kind v1 v2 v3))))))
mutual
def G.bC.L1 (f:Nat)(ay:ai)(di:Int)(z2:List ai):Option (ai):=match f with
|0=>none
|n+1=>(cond (decide (di<(ay.Kids.length:Int)))
(chk (0<=di/\di<(ay.Kids.length:Int))
((G.bC n (ay.Kids.getD di.toNat default)).bind λv3=>(chk ((z2.length+1)*86<=2^46)
(G.bC.L1 n ay (ah .i64 (di+1)) (z2++[v3])))))
(chk (ay.Names.length*18<=2^46)
(some ((ai.mk ay.Kind ay.Num ay.Text ay.Names z2)))))
def G.bC (f:Nat)(ay:ai):Option (ai):=match f with
|0=>none
|n+1=>(G.bC.L1 n ay 0 [])
end
mutual
def G.ji (f:Nat)(ay:Int):Option (gB):=match f with
|0=>none
|n+1=>(cond (decide (ay<0))
(cond (ay==(ah .i64 (0-ay)))
(some ([45,57,50,50,51,51,55,50,48,51,54,56,53,52,55,55,53,56,48,56]))
((G.ji n (ah .i64 (0-ay))).bind λv1=>(chk (1+v1.length<=maxLen)
(some (([45]++v1))))))
(cond (decide (ay<10))
(chk (1<=maxLen)
(some ([iW (ah .u8 ((ah .i64 (48+ay)))).toNat])))
((G.ji n (ah .i64 (xJ ay 10))).bind λv2=>(chk (1<=maxLen)
(chk (v2.length+1<=maxLen)
(some ((v2++[iW (ah .u8 ((ah .i64 (48+(zH ay 10))))).toNat]))))))))
end
def G.fO.L1 (f:Nat)(ay:ai)(fK:gB)(di:Int):Option (Int):=match f with
|0=>none
|n+1=>(cond (decide (di<(ay.Kids.length:Int)))
(cond (ay.Kind==4)
(chk (0<=di/\di<(ay.Names.length:Int))
(cond ((ay.Names.getD di.toNat default)==fK)
(some (di))
(cond (ay.Kind==3)
((G.ji n di).bind λv5=>(cond (v5==fK)
(some (di))
(G.fO.L1 n ay fK (ah .i64 (di+1)))))
(G.fO.L1 n ay fK (ah .i64 (di+1))))))
(cond (ay.Kind==3)
((G.ji n di).bind λv6=>(cond (v6==fK)
(some (di))
(G.fO.L1 n ay fK (ah .i64 (di+1)))))
(G.fO.L1 n ay fK (ah .i64 (di+1)))))
(some ((-1))))
def G.fO (f:Nat)(ay:ai)(fK:gB):Option (Int):=match f with
|0=>none
|n+1=>(G.fO.L1 n ay fK 0)
def G.iI.L1 (f:Nat)(ay:ai)(fK:gB)(di:Int):Option (Int×Bool):=match f with
|0=>none
|n+1=>(cond (ay.Kind==4)
(cond (decide (di<=(ay.Kids.length:Int)))
(cond (di==(ay.Kids.length:Int))
(some (di,false))
(chk (0<=di/\di<(ay.Names.length:Int))
(cond (fC fK (ay.Names.getD di.toNat default))
(some (di,false))
(G.iI.L1 n ay fK (ah .i64 (di+1))))))
(some ((-1),false)))
(some ((-1),false)))
def G.iI.L2 (f:Nat)(ay:ai)(fK:gB)(Ua:Int):Option (Int×Bool):=match f with
|0=>none
|n+1=>(cond (ay.Kind==4)
(cond (decide (Ua<=(ay.Kids.length:Int)))
(cond (Ua==(ay.Kids.length:Int))
(some (Ua,false))
(chk (0<=Ua/\Ua<(ay.Names.length:Int))
(cond (fC fK (ay.Names.getD Ua.toNat default))
(some (Ua,false))
(G.iI.L2 n ay fK (ah .i64 (Ua+1))))))
(some ((-1),false)))
(some ((-1),false)))
def G.iI (f:Nat)(ay:ai)(fK:gB):Option (Int×Bool):=match f with
|0=>none
|n+1=>((G.fO n ay fK).bind λv1=>(cond (decide (0<=v1))
(some (v1,(ay.Kind==4)))
(cond (ay.Kind==3)
(cond (fK==[45])
(some ((ay.Kids.length:Int),false))
((G.ji n (ay.Kids.length:Int)).bind λv2=>(cond (fK==v2)
(some ((ay.Kids.length:Int),false))
(G.iI.L1 n ay fK 0))))
(G.iI.L2 n ay fK 0))))
def G.kZ (f:Nat)(ay:ai)(wB:Int)(KY:ai):Option (ai):=match f with
|0=>none
|n+1=>((G.bC n ay).bind λv1=>((G.bC n KY).bind λv2=>(chk (0<=wB/\wB<(v1.Kids.length:Int))
(some ((ai.mk v1.Kind v1.Num v1.Text v1.Names (v1.Kids.set wB.toNat v2)))))))
def G.nD (f:Nat)(ay:ai)(fK:gB)(dM:ai):Option (ai×Bool):=match f with
|0=>none
|n+1=>((G.iI n ay fK).bind λv1=>(cond (decide (v1.1<0))
(some ((ai.mk 0 0 [] [] []),false))
(cond v1.2
((G.kZ n ay v1.1 dM).bind λv2=>(some (v2,true)))
((G.bC n ay).bind λv3=>(chk (0<=0/\0<=v1.1/\v1.1<=(v3.Kids.length:Int))
(chk (((v3.Kids.take v1.1.toNat).length)*86<=2^46)
((G.bC n dM).bind λv4=>(chk (((v3.Kids.take v1.1.toNat).length+1)*86<=2^46)
(chk (0<=v1.1/\v1.1<=(v3.Kids.length:Int)/\(v3.Kids.length:Int)<=(v3.Kids.length:Int))
(chk ((((v3.Kids.take v1.1.toNat).length+1)+(v3.Kids.drop v1.1.toNat).length)*86<=2^46)
(cond (ay.Kind==3)
(some ((ai.mk ay.Kind 0 [] [] (((v3.Kids.take v1.1.toNat)++[v4])++(v3.Kids.drop v1.1.toNat))),true))
(chk (0<=0/\0<=v1.1/\v1.1<=(v3.Names.length:Int))
(chk (((v3.Names.take v1.1.toNat).length)*18<=2^46)
(chk (((v3.Names.take v1.1.toNat).length+1)*18<=2^46)
(chk (0<=v1.1/\v1.1<=(v3.Names.length:Int)/\(v3.Names.length:Int)<=(v3.Names.length:Int))
(chk ((((v3.Names.take v1.1.toNat).length+1)+(v3.Names.drop v1.1.toNat).length)*18<=2^46)
(some ((ai.mk ay.Kind 0 [] (((v3.Names.take v1.1.toNat)++[fK])++(v3.Names.drop v1.1.toNat)) (((v3.Kids.take v1.1.toNat)++[v4])++(v3.Kids.drop v1.1.toNat))),true))))))))))))))))))
def G.mD.L1 (f:Nat)(au:List gB)(di:Int)(y6:Int)(y7:Int)(y8:gB)(y9:List gB)(Ub:List ai):Option (ai×Bool):=match f with
|0=>none
|n+1=>(cond (decide (di<(au.length:Int)))
(chk (0<=di/\di<(au.length:Int))
((G.fO n (ai.mk y6 y7 y8 y9 Ub) (au.getD di.toNat default)).bind λv3=>(cond (decide (v3<0))
(some ((ai.mk 0 0 [] [] []),false))
(chk (0<=v3/\v3<(Ub.length:Int))
(G.mD.L1 n au (ah .i64 (di+1)) ((Ub.getD v3.toNat default).Kind) ((Ub.getD v3.toNat default).Num) ((Ub.getD v3.toNat default).Text) ((Ub.getD v3.toNat default).Names) ((Ub.getD v3.toNat default).Kids))))))
((G.bC n (ai.mk y6 y7 y8 y9 Ub)).bind λv4=>(some (v4,true))))
def G.mD (f:Nat)(ay:ai)(au:List gB):Option (ai×Bool):=match f with
|0=>none
|n+1=>(G.mD.L1 n au 0 ay.Kind ay.Num ay.Text ay.Names ay.Kids)
mutual
def G.jQ (f:Nat)(ay:ai)(au:List gB)(dM:ai):Option (ai×Bool):=match f with
|0=>none
|n+1=>(cond ((au.length:Int)==0)
((G.bC n dM).bind λv1=>(some (v1,true)))
(chk (0<=0/\0<(au.length:Int))
((G.fO n ay (au.getD 0 default)).bind λv2=>(cond (decide (v2<0))
(some ((ai.mk 0 0 [] [] []),false))
(chk (0<=v2/\v2<(ay.Kids.length:Int))
(chk (0<=1/\1<=(au.length:Int)/\(au.length:Int)<=(au.length:Int))
((G.jQ n (ay.Kids.getD v2.toNat default) (au.drop 1) dM).bind λv3=>(cond v3.2
((G.kZ n ay v2 v3.1).bind λv4=>(some (v4,true)))
(some ((ai.mk 0 0 [] [] []),false))))))))))
end
def G.mZ (f:Nat)(ay:ai)(au:List gB)(dM:ai):Option (ai×Bool):=match f with
|0=>none
|n+1=>(cond ((au.length:Int)==0)
((G.bC n dM).bind λv1=>(some (v1,true)))
(chk (0<=0/\0<=(ah .i64 ((au.length:Int)-1))/\(ah .i64 ((au.length:Int)-1))<=(au.length:Int))
((G.mD n ay (au.take ((ah .i64 ((au.length:Int)-1)).toNat))).bind λv2=>(cond v2.2
(chk (0<=(ah .i64 ((au.length:Int)-1))/\(ah .i64 ((au.length:Int)-1))<(au.length:Int))
((G.nD n v2.1 (au.getD (ah .i64 ((au.length:Int)-1)).toNat default) dM).bind λv3=>(cond v3.2
(chk (0<=0/\0<=(ah .i64 ((au.length:Int)-1))/\(ah .i64 ((au.length:Int)-1))<=(au.length:Int))
((G.jQ n ay (au.take ((ah .i64 ((au.length:Int)-1)).toNat)) v3.1).bind λv4=>(some (v4.1,v4.2))))
(some ((ai.mk 0 0 [] [] []),false)))))
(some ((ai.mk 0 0 [] [] []),false))))))
def G.iY.L1 (f:Nat)(au:List gB)(xE:List gB)(di:Int):Option (Bool):=match f with
|0=>none
|n+1=>(cond (decide (di<(xE.length:Int)))
(cond (decide ((au.length:Int)<=di))
(some (false))
(chk (0<=di/\di<(au.length:Int))
(chk (0<=di/\di<(xE.length:Int))
(cond ((au.getD di.toNat default)==(xE.getD di.toNat default))
(G.iY.L1 n au xE (ah .i64 (di+1)))
(some (false))))))
(some (true)))
def G.iY (f:Nat)(au:List gB)(xE:List gB):Option (Bool):=match f with
|0=>none
|n+1=>(G.iY.L1 n au xE 0)
def G.iq.K1 (f:Nat)(ay:ai)(au:List gB)(v1:ai×Bool)(z1:List ai)(z2:List gB):Option (ai×Bool):=match f with
|0=>none
|n+1=>(chk (0<=0/\0<=(ah .i64 ((au.length:Int)-1))/\(ah .i64 ((au.length:Int)-1))<=(au.length:Int))
((G.jQ n ay (au.take ((ah .i64 ((au.length:Int)-1)).toNat)) (ai.mk v1.1.Kind 0 [] z2 z1)).bind λv3=>(some (v3.1,v3.2))))
def G.iq (f:Nat)(ay:ai)(au:List gB):Option (ai×Bool):=match f with
|0=>none
|n+1=>(cond (decide ((ah .i64 ((au.length:Int)-1))<0))
(some ((ai.mk 0 0 [] [] []),false))
(chk (0<=0/\0<=(ah .i64 ((au.length:Int)-1))/\(ah .i64 ((au.length:Int)-1))<=(au.length:Int))
((G.mD n ay (au.take ((ah .i64 ((au.length:Int)-1)).toNat))).bind λv1=>(cond v1.2
(chk (0<=(ah .i64 ((au.length:Int)-1))/\(ah .i64 ((au.length:Int)-1))<(au.length:Int))
((G.fO n v1.1 (au.getD (ah .i64 ((au.length:Int)-1)).toNat default)).bind λv2=>(cond (decide (v2<0))
(some ((ai.mk 0 0 [] [] []),false))
(chk (0<=0/\0<=v2/\v2<=(v1.1.Kids.length:Int))
(chk (((v1.1.Kids.take v2.toNat).length)*86<=2^46)
(chk (0<=(ah .i64 (v2+1))/\(ah .i64 (v2+1))<=(v1.1.Kids.length:Int)/\(v1.1.Kids.length:Int)<=(v1.1.Kids.length:Int))
(chk (((v1.1.Kids.take v2.toNat).length+(v1.1.Kids.drop ((ah .i64 (v2+1)).toNat)).length)*86<=2^46)
(cond (v1.1.Kind==4)
(chk (0<=0/\0<=v2/\v2<=(v1.1.Names.length:Int))
(chk (((v1.1.Names.take v2.toNat).length)*18<=2^46)
(chk (0<=(ah .i64 (v2+1))/\(ah .i64 (v2+1))<=(v1.1.Names.length:Int)/\(v1.1.Names.length:Int)<=(v1.1.Names.length:Int))
(chk (((v1.1.Names.take v2.toNat).length+(v1.1.Names.drop ((ah .i64 (v2+1)).toNat)).length)*18<=2^46)
(G.iq.K1 n ay au v1 ((v1.1.Kids.take v2.toNat)++(v1.1.Kids.drop ((ah .i64 (v2+1)).toNat))) ((v1.1.Names.take v2.toNat)++(v1.1.Names.drop ((ah .i64 (v2+1)).toNat))))))))
(G.iq.K1 n ay au v1 ((v1.1.Kids.take v2.toNat)++(v1.1.Kids.drop ((ah .i64 (v2+1)).toNat))) [])))))))))
(some ((ai.mk 0 0 [] [] []),false))))))
def G.iK (f:Nat)(fU:Bool):Option (Int):=match f with
|0=>none
|n+1=>(cond fU
(some (1))
(some (0)))
def G.kS (f:Nat)(bD:Int)(fU:Int):Option (Int):=match f with
|0=>none
|n+1=>((G.iK n (decide (fU<bD))).bind λv1=>((G.iK n (decide (bD<fU))).bind λv2=>(some ((ah .i64 (v1-v2))))))
def G.jH (f:Nat)(bD:gB)(fU:gB):Option (Int):=match f with
|0=>none
|n+1=>(cond (fC bD fU)
((G.iK n false).bind λv1=>((G.iK n true).bind λv2=>(some ((ah .i64 (v1-v2))))))
(cond (bD==fU)
((G.iK n false).bind λv3=>((G.iK n false).bind λv4=>(some ((ah .i64 (v3-v4))))))
((G.iK n true).bind λv5=>((G.iK n false).bind λv6=>(some ((ah .i64 (v5-v6))))))))
mutual
def G.dJ.L1 (f:Nat)(bD:ai)(fU:ai)(di:Int):Option (Int):=match f with
|0=>none
|n+1=>(cond (decide (di<(bD.Kids.length:Int)))
(cond (decide (di<(fU.Kids.length:Int)))
(cond (bD.Kind==4)
(chk (0<=di/\di<(bD.Names.length:Int))
(chk (0<=di/\di<(fU.Names.length:Int))
(cond ((bD.Names.getD di.toNat default)==(fU.Names.getD di.toNat default))
(chk (0<=di/\di<(bD.Kids.length:Int))
(chk (0<=di/\di<(fU.Kids.length:Int))
((G.dJ n (bD.Kids.getD di.toNat default) (fU.Kids.getD di.toNat default)).bind λv9=>(cond (v9 != 0)
(some (v9))
(G.dJ.L1 n bD fU (ah .i64 (di+1)))))))
(chk (0<=di/\di<(bD.Names.length:Int))
(chk (0<=di/\di<(fU.Names.length:Int))
((G.jH n (bD.Names.getD di.toNat default) (fU.Names.getD di.toNat default)).bind λv10=>(some (v10))))))))
(chk (0<=di/\di<(bD.Kids.length:Int))
(chk (0<=di/\di<(fU.Kids.length:Int))
((G.dJ n (bD.Kids.getD di.toNat default) (fU.Kids.getD di.toNat default)).bind λv11=>(cond (v11 != 0)
(some (v11))
(G.dJ.L1 n bD fU (ah .i64 (di+1))))))))
((G.kS n (bD.Kids.length:Int) (fU.Kids.length:Int)).bind λv12=>(some (v12))))
((G.kS n (bD.Kids.length:Int) (fU.Kids.length:Int)).bind λv13=>(some (v13))))
def G.dJ (f:Nat)(bD:ai)(fU:ai):Option (Int):=match f with
|0=>none
|n+1=>(cond (bD.Kind != fU.Kind)
((G.kS n bD.Kind fU.Kind).bind λv1=>(some (v1)))
(cond (bD.Num != fU.Num)
((G.kS n bD.Num fU.Num).bind λv2=>(some (v2)))
(cond (bD.Text==fU.Text)
(G.dJ.L1 n bD fU 0)
((G.jH n bD.Text fU.Text).bind λv14=>(some (v14))))))
end
def G.rD (f:Nat)(bD:ai)(fU:ai):Option (Bool):=match f with
|0=>none
|n+1=>((G.dJ n bD fU).bind λv1=>(some ((v1==0))))
def G.gY.K1 (f:Nat)(ay:ai)(iE:tC)(acn:List gB):Option (ai×Bool):=match f with
|0=>none
|n+1=>((G.mD n ay acn).bind λv4=>(cond v4.2
(cond (iE.Kind==6)
((G.rD n v4.1 iE.Value).bind λv5=>(some (ay,v5)))
(cond (iE.Kind==5)
((G.mZ n ay iE.Path v4.1).bind λv6=>(some (v6.1,v6.2)))
((G.iY n iE.Path iE.From).bind λv7=>(cond v7
((G.bC n ay).bind λv8=>(some (v8,((iE.Path.length:Int)==(iE.From.length:Int)))))
((G.iq n ay iE.From).bind λv9=>(cond v9.2
((G.mZ n v9.1 iE.Path v4.1).bind λv10=>(some (v10.1,v10.2)))
(some ((ai.mk 0 0 [] [] []),false))))))))
(some ((ai.mk 0 0 [] [] []),false))))
def G.gY (f:Nat)(ay:ai)(iE:tC):Option (ai×Bool):=match f with
|0=>none
|n+1=>(cond (iE.Kind==1)
((G.mZ n ay iE.Path iE.Value).bind λv1=>(some (v1.1,v1.2)))
(cond (iE.Kind==2)
((G.iq n ay iE.Path).bind λv2=>(some (v2.1,v2.2)))
(cond (iE.Kind==3)
((G.jQ n ay iE.Path iE.Value).bind λv3=>(some (v3.1,v3.2)))
(cond (iE.Kind==6)
(G.gY.K1 n ay iE iE.Path)
(G.gY.K1 n ay iE iE.From)))))
mutual
def G.jc.L1 (f:Nat)(ay:ai)(FD:Int)(di:Int):Option (Int):=match f with
|0=>none
|n+1=>(cond (decide (di<(ay.Kids.length:Int)))
(chk (0<=di/\di<(ay.Kids.length:Int))
((G.jc n (ay.Kids.getD di.toNat default)).bind λv3=>(G.jc.L1 n ay (ah .i64 (FD+v3)) (ah .i64 (di+1)))))
(some (FD)))
def G.jc (f:Nat)(ay:ai):Option (Int):=match f with
|0=>none
|n+1=>(G.jc.L1 n ay 1 0)
end
def G.jA (f:Nat)(ay:Int)(KZ:Int)(GM:Int):Option (Bool):=match f with
|0=>none
|n+1=>(cond (decide (KZ<=ay))
(some ((decide (ay<=GM))))
(some (false)))
def G.dQ.L1 (f:Nat)(tV:gB)(di:Int):Option (Bool):=match f with
|0=>none
|n+1=>(cond (decide (di<(tV.length:Int)))
(chk (0<=di/\di<(tV.length:Int))
((G.jA n (ah .i64 (((tV.getD di.toNat 0).toNat:Int))) 32 126).bind λv3=>(cond v3
(G.dQ.L1 n tV (ah .i64 (di+1)))
(some (false)))))
(some ((decide ((tV.length:Int)<=12)))))
def G.dQ (f:Nat)(tV:gB):Option (Bool):=match f with
|0=>none
|n+1=>(G.dQ.L1 n tV 0)
def G.jG.L1 (f:Nat)(jL:List gB)(di:Int):Option (Bool):=match f with
|0=>none
|n+1=>(cond (decide (di<(jL.length:Int)))
(chk (0<=di/\di<(jL.length:Int))
((G.dQ n (jL.getD di.toNat default)).bind λv3=>(cond v3
(cond (decide (0<di))
(chk (0<=di/\di<(jL.length:Int))
(chk (0<=(ah .i64 (di-1))/\(ah .i64 (di-1))<(jL.length:Int))
(cond (fC (jL.getD di.toNat default) (jL.getD (ah .i64 (di-1)).toNat default))
(some (false))
(cond ((jL.getD di.toNat default)==(jL.getD (ah .i64 (di-1)).toNat default))
(some (false))
(G.jG.L1 n jL (ah .i64 (di+1)))))))
(G.jG.L1 n jL (ah .i64 (di+1))))
(some (false)))))
(some (true)))
def G.jG (f:Nat)(jL:List gB):Option (Bool):=match f with
|0=>none
|n+1=>(G.jG.L1 n jL 0)
mutual
def G.lJ.L1 (f:Nat)(ay:ai)(iT:Int)(di:Int):Option (Bool):=match f with
|0=>none
|n+1=>(cond (decide (di<(ay.Kids.length:Int)))
(chk (0<=di/\di<(ay.Kids.length:Int))
((G.eF n (ay.Kids.getD di.toNat default) (ah .i64 (iT-1))).bind λv3=>(cond v3
(G.lJ.L1 n ay iT (ah .i64 (di+1)))
(some (false)))))
(some (true)))
def G.lJ (f:Nat)(ay:ai)(iT:Int):Option (Bool):=match f with
|0=>none
|n+1=>(G.lJ.L1 n ay iT 0)
def G.eF.K1 (f:Nat)(ay:ai)(iT:Int):Option (Bool):=match f with
|0=>none
|n+1=>(cond (ay.Kind==1)
((G.jA n ay.Num (-999999) 999999).bind λv1=>(some (v1)))
(cond (ay.Kind==2)
((G.dQ n ay.Text).bind λv2=>(some (v2)))
(cond (ay.Kind==3)
((G.lJ n ay iT).bind λv3=>(some (v3)))
(cond (ay.Kind==4)
(cond ((ay.Names.length:Int)==(ay.Kids.length:Int))
((G.jG n ay.Names).bind λv4=>(cond v4
((G.lJ n ay iT).bind λv5=>(some (v5)))
(some (false))))
(some (false)))
(some ((ay.Kind==0)))))))
def G.eF (f:Nat)(ay:ai)(iT:Int):Option (Bool):=match f with
|0=>none
|n+1=>(cond (iT==0)
(some (false))
(cond (decide (6<(ay.Kids.length:Int)))
(some (false))
(cond (ay.Kind != 1)
(cond (ay.Num != 0)
(some (false))
(cond (ay.Kind != 2)
(cond (ay.Text==[])
(cond (ay.Kind != 4)
(cond (decide (0<(ay.Names.length:Int)))
(some (false))
(cond (decide (ay.Kind<3))
(cond (decide (0<(ay.Kids.length:Int)))
(some (false))
(G.eF.K1 n ay iT))
(G.eF.K1 n ay iT)))
(cond (decide (ay.Kind<3))
(cond (decide (0<(ay.Kids.length:Int)))
(some (false))
(G.eF.K1 n ay iT))
(G.eF.K1 n ay iT)))
(some (false)))
(cond (ay.Kind != 4)
(cond (decide (0<(ay.Names.length:Int)))
(some (false))
(cond (decide (ay.Kind<3))
(cond (decide (0<(ay.Kids.length:Int)))
(some (false))
(G.eF.K1 n ay iT))
(G.eF.K1 n ay iT)))
(cond (decide (ay.Kind<3))
(cond (decide (0<(ay.Kids.length:Int)))
(some (false))
(G.eF.K1 n ay iT))
(G.eF.K1 n ay iT)))))
(cond (ay.Kind != 2)
(cond (ay.Text==[])
(cond (ay.Kind != 4)
(cond (decide (0<(ay.Names.length:Int)))
(some (false))
(cond (decide (ay.Kind<3))
(cond (decide (0<(ay.Kids.length:Int)))
(some (false))
(G.eF.K1 n ay iT))
(G.eF.K1 n ay iT)))
(cond (decide (ay.Kind<3))
(cond (decide (0<(ay.Kids.length:Int)))
(some (false))
(G.eF.K1 n ay iT))
(G.eF.K1 n ay iT)))
(some (false)))
(cond (ay.Kind != 4)
(cond (decide (0<(ay.Names.length:Int)))
(some (false))
(cond (decide (ay.Kind<3))
(cond (decide (0<(ay.Kids.length:Int)))
(some (false))
(G.eF.K1 n ay iT))
(G.eF.K1 n ay iT)))
(cond (decide (ay.Kind<3))
(cond (decide (0<(ay.Kids.length:Int)))
(some (false))
(G.eF.K1 n ay iT))
(G.eF.K1 n ay iT)))))))
end
def G.fZ (f:Nat)(ay:ai):Option (Bool):=match f with
|0=>none
|n+1=>((G.eF n ay 5).bind λv1=>(cond v1
((G.jc n ay).bind λv2=>(some ((decide (v2<=40)))))
(some (false))))
def G.lN (f:Nat)(ay:ai)(DT:Bool):Option (ai×Bool):=match f with
|0=>none
|n+1=>(cond DT
((G.fZ n ay).bind λv1=>(cond v1
(some (ay,true))
(some ((ai.mk 0 0 [] [] []),false))))
(some ((ai.mk 0 0 [] [] []),false)))
def G.kY (f:Nat)(ay:ai)(iE:tC):Option (ai×Bool):=match f with
|0=>none
|n+1=>((G.gY n ay iE).bind λv1=>((G.lN n v1.1 v1.2).bind λv2=>(cond v2.2
((G.bC n v2.1).bind λv3=>(some (v3,true)))
(some ((ai.mk 0 0 [] [] []),false)))))
def G.eG.L1 (f:Nat)(au:List gB)(di:Int):Option (Bool):=match f with
|0=>none
|n+1=>(cond (decide (di<(au.length:Int)))
(chk (0<=di/\di<(au.length:Int))
((G.dQ n (au.getD di.toNat default)).bind λv3=>(cond v3
(G.eG.L1 n au (ah .i64 (di+1)))
(some (false)))))
(some ((decide ((au.length:Int)<=5)))))
def G.eG (f:Nat)(au:List gB):Option (Bool):=match f with
|0=>none
|n+1=>(G.eG.L1 n au 0)
def G.jO (f:Nat)(iE:tC):Option (Bool):=match f with
|0=>none
|n+1=>((G.jA n iE.Kind 1 6).bind λv1=>(cond v1
((G.eG n iE.Path).bind λv2=>(cond v2
((G.eG n iE.From).bind λv3=>(cond v3
((G.fZ n iE.Value).bind λv4=>(some (v4)))
(some (false))))
(some (false))))
(some (false))))
def G.mV.L1 (f:Nat)(jL:List tC)(di:Int):Option (Bool):=match f with
|0=>none
|n+1=>(cond (decide (di<(jL.length:Int)))
(chk (0<=di/\di<(jL.length:Int))
((G.jO n (tC.mk ((jL.getD di.toNat default).Kind) ((jL.getD di.toNat default).Path) ((jL.getD di.toNat default).From) ((jL.getD di.toNat default).Value))).bind λv3=>(cond v3
(G.mV.L1 n jL (ah .i64 (di+1)))
(some (false)))))
(some ((decide ((jL.length:Int)<=12)))))
def G.mV (f:Nat)(jL:List tC):Option (Bool):=match f with
|0=>none
|n+1=>(G.mV.L1 n jL 0)
def G.aba.L1 (f:Nat)(jL:List tC)(di:Int)(y6:Int)(y7:Int)(y8:gB)(y9:List gB)(Ub:List ai):Option (ai×Bool):=match f with
|0=>none
|n+1=>(cond (decide (di<(jL.length:Int)))
(chk (0<=di/\di<(jL.length:Int))
((G.kY n (ai.mk y6 y7 y8 y9 Ub) (tC.mk ((jL.getD di.toNat default).Kind) ((jL.getD di.toNat default).Path) ((jL.getD di.toNat default).From) ((jL.getD di.toNat default).Value))).bind λv6=>(cond v6.2
(G.aba.L1 n jL (ah .i64 (di+1)) v6.1.Kind v6.1.Num v6.1.Text v6.1.Names v6.1.Kids)
(some ((ai.mk 0 0 [] [] []),false)))))
(some ((ai.mk y6 y7 y8 y9 Ub),true)))
def G.aba (f:Nat)(ay:ai)(jL:List tC):Option (ai×Bool):=match f with
|0=>none
|n+1=>((G.fZ n ay).bind λv1=>(cond v1
((G.mV n jL).bind λv2=>(cond v2
((G.bC n ay).bind λv3=>(G.aba.L1 n jL 0 v3.Kind v3.Num v3.Text v3.Names v3.Kids))
(some ((ai.mk 0 0 [] [] []),false))))
(some ((ai.mk 0 0 [] [] []),false))))
section
theorem aS {a b:Prop}(x:a)(y:b):a/\b:=⟨x,y⟩
theorem aah {α β:Type}(f:α->β)(l:List α)(n:Nat):List.take n (List.map f l)=List.map f (List.take n l):=List.map_take.symm
theorem aag {α β:Type}(f:α->β)(l:List α)(n:Nat):List.drop n (List.map f l)=List.map f (List.drop n l):=List.map_drop.symm
theorem kq1 {i:Int}{m:Nat}[inst:Decidable (0<=i/\i<(m:Int))]{α:Type}{k:Option α}{r:α}(h:chk (0<=i/\i<(m:Int)) k=some r):(0<=i/\i<(m:Int))/\i.toNat<m/\k=some r:=by obtain⟨h1,h2⟩:=Aq.1 h;exact⟨h1,by omega,h2⟩
theorem kq0 {m:Nat}[inst:Decidable ((0:Nat)<=0/\(0:Int)<(m:Int))]{α:Type}{k:Option α}{r:α}(h:chk ((0:Nat)<=0/\(0:Int)<(m:Int)) k=some r):(0:Int)<(m:Int)/\0<m/\k=some r:=by obtain⟨h1,h2⟩:=Aq.1 h;exact⟨h1.2,by omega,h2⟩
theorem kqn {j m:Nat}[inst:Decidable ((0:Nat)<=OfNat.ofNat j/\(OfNat.ofNat j:Int)<(m:Int))]{α:Type}{k:Option α}{r:α}(h:chk ((0:Nat)<=OfNat.ofNat j/\(OfNat.ofNat j:Int)<(m:Int)) k=some r):(OfNat.ofNat j:Int)<(m:Int)/\(OfNat.ofNat j:Nat)<m/\k=some r:=by obtain⟨h1,h2⟩:=Aq.1 h;exact⟨h1.2,Int.ofNat_lt.1 h1.2,h2⟩
theorem kq {c:Prop}[Decidable c]{α:Type}{k:Option α}{r:α}(h:chk c k=some r):c/\k=some r:=Aq.1 h
theorem bq {α β:Type}{x:Option α}{f:α->Option β}{r:β}(h:Option.bind x f=some r):∃a,x=some a/\f a=some r:=Option.bind_eq_some_iff.1 h
section
variable {P:Program} {Q:AQ} {st:dP}
theorem ZP {f:FuncId}{oD:List AV}{p:Bool}{d:Option Nat}{K:List Nat->List Nat->dP->Prop}{du:DU K}(k:oV P f oD p d st K du):oV P f oD p d st K du:=k
theorem adz {a:AQ->dP->Prop}{d1:DU a}{d2:DU Q}(k:CB a Q st d1 d2):CB a Q st d1 d2:=k
theorem ae1 {a b:AQ->dP->Prop}{d1:DU a}{d2:DU b}{d3:DU Q}(k:GL a b Q st d1 d2 d3):GL a b Q st d1 d2 d3:=k
theorem agj {X:Type}{p:X->Prop}(k:∃x,p x):∃x,p x:=k
theorem ae2 {rs:List qR}{r:AV}(k:J4 rs r st):J4 rs r st:=k
theorem acM {rs:List qR}{m:Nat}{post:AV->List Box->Prop}(k:Dq rs m post st):Dq rs m post st:=k
end
theorem sq {α:Type}{x r:α}(h:some x=some r):r=x:=(Option.some.inj h).symm
theorem cq {b:Bool}{α:Type}{x y:Option α}{r:α}(h:cond b x y=some r):(b=true/\x=some r)\/(b=false/\y=some r):=XC.1 h
def egD :=aS @YF (aS @aa0 (aS @YE (aS @aa2 (aS @aaZ (aS @YD (aS @VN (aS @YC (aS @aa1 (aS @YB (aS @abB (aS @abA (aS @Xd (aS @Xc (aS @Xe (aS @Xa (aS @W9 (aS @Xb (aS @Uj (aS @Ui (aS @Uk (aS @abk (aS @abl (aS @abh (aS @abj (aS @VQ (aS @TY (aS @aa4 (aS @YH (aS @acV (aS @aep (aS @aeo (aS @acX (aS @abn (aS @YV (aS @Xh (aS @YU (aS @Gy.eq_1 (aS @Gy.eq_2 (aS @yB.eq_1 (aS @yB.eq_2 (aS @st0.eq_1 (aS @xG.eq_1 (aS @xG.eq_2 (aS @l9.eq_1 (aS @l9.eq_2 (aS @jb.valid.eq_1 (aS @jb.valid.eq_2 (aS @bT.eq_1 (aS @afN (aS @afM (aS @g_v (aS @x_v (aS @Cb (aS @yf (aS @adG (aS @abY (aS @abX (aS @uV.eq_1 (aS @uV.eq_2 (aS @lY.eq_1 (aS @lY.eq_2 (aS @SI.eq_1 (aS @SI.eq_2 (aS @setB.eq_1 (aS @setB.eq_2 (aS @Yg (aS @Yh (aS @Yt (aS @VA (aS @FR.ok.eq_1 (aS @J6.eq_1 (aS @J6.eq_2 (aS @J6.eq_3 (aS @AV.flat.eq_1 (aS @AV.flat.eq_2 (aS @AV.cells.eq_1 (aS @AV.cells.eq_2 (aS @AV.cells.eq_3 (aS @uF.eq_1 (aS @uF.eq_2 (aS @uF.eq_3 (aS @uF.eq_4 (aS @QI.eq_1 (aS @LW.eq_1 (aS @LW.eq_2 (aS @splice.eq_1 (aS @Box.arr.eq_1 (aS @Box.arr.eq_2 (aS @Box.arr.eq_3 (aS @dataOf.eq_1 (aS @dataOf.eq_2 (aS @dataOf.eq_3 (aS @dataOf.eq_4 (aS @Dw.eq_1 (aS @Dw.eq_2 (aS @bnd.eq_1 (aS @bnd.eq_2 (aS @JU.eq_1 (aS @JU.eq_2 (aS @Z8 (aS @Z7 (aS @Dl.eq_1 (aS @qh.eq_1 (aS @pq.eq_1 (aS @vSl.eq_1 (aS @xu.eq_1 (aS @xu.eq_2 (aS @xu.eq_3 (aS @zO.eq_1 (aS @zO.eq_2 (aS @zO.eq_3 (aS @sW.eq_1 (aS @sW.eq_2 (aS @sW.eq_3 (aS @uz.eq_1 (aS @uz.eq_2 (aS @uz.eq_3 (aS @AV.owns.eq_1 (aS @AV.owns.eq_2 (aS @AV.owns.eq_3 (aS @kz.eq_1 (aS @kz.eq_2 (aS @kz.eq_3 (aS @AC.qV.eq_1 (aS @AC.qV.eq_2 (aS @AC.qV.eq_3 (aS @AC.isLit.eq_1 (aS @AC.isLit.eq_2 (aS @AV.all.eq_1 (aS @AV.all.eq_2 (aS @AV.all.eq_3 (aS @Cell.isLit.eq_1 (aS @Cell.isLit.eq_2 (aS @List.mem_cons.{0} (aS @List.not_mem_nil.{0} (aS @or_false (aS @false_or (aS @or_true (aS @true_or (aS @forall_eq.{1} (aS @forall_eq_or_imp.{1} (aS @true_and (aS @and_true (aS @true_implies (aS @false_implies (aS @implies_true.{1} (aS @if_true.{1} (aS @if_false.{1} (aS @Bool.false_eq_true (aS @Bool.true_eq_false (aS @imp_self (aS @and_self (aS @cond_true.{1} (aS @cond_false.{1} (aS @List.map_cons.{0,0} (aS @List.map_nil.{0,0} (aS @List.take_succ_cons.{0} (aS @List.take_zero.{0} (aS @List.drop_succ_cons.{0} (aS @List.drop_zero.{0} (aS @List.take_nil.{0} (aS @List.drop_nil.{0} (aS @List.cons_append.{0} (aS @List.nil_append.{0} (aS @List.append_nil.{0} (aS @List.length_cons.{0} (aS @List.length_nil.{0} (aS @List.getElem?_cons_zero.{0} (aS @List.getElem?_cons_succ.{0} (aS @List.length_map.{0,0} (aS @List.length_replicate.{0} (aS @List.length_append.{0} (aS @List.map_append.{0,0} (aS @List.flatMap_cons.{0,0} (aS @List.flatMap_nil.{0,0} (aS @List.all_cons.{0} (aS @List.all_nil.{0} (aS @List.contains_cons.{0} (aS @List.contains_nil.{0} (aS @Bool.and_true (aS @Bool.or_false (aS @Bool.false_or (aS @Bool.true_or (aS @Bool.or_true (aS @Bool.and_self (aS @Bool.not_false (aS @Bool.not_true (aS @Bool.true_and (aS @Bool.false_and (aS @Bool.and_false (aS @Nat.zero_lt_succ (aS @Nat.zero_le (aS @Nat.zero_add (aS @Nat.le_refl (aS @Nat.min_self (aS @afH (aS @afG (aS @decide_true (aS @decide_false (aS @RD.eq_1 (aS @RD.eq_2 (aS @QW.eq_1 (aS @QW.eq_2 (aS @N7.eq_1 (aS @N7.eq_2 (aS @N7.eq_3 (aS @G9.eq_1 (aS @G9.eq_2 (aS @CY.eq_1 (aS @CY.eq_2 (aS @Hu.eq_1 (aS @Hu.eq_2 (aS @QE.eq_1 (aS @yA.eq_1 (aS @yA.eq_2 (aS @yA.eq_3 (aS @cI.eq_1 (aS @cU.eq_1 (aS @cB.eq_1 (aS @cS.eq_1 (aS @cL.eq_1 (aS @cK.eq_1 (aS @ai.kU (aS @tC.kU (aS @o7.kU (aS @List.getD_cons_zero.{0} (aS @List.getD_cons_succ.{0} (aS @List.map_set.{0,0} (aS @List.length_set.{0} (aS @XM (aS @take_len (aS @Fg (aS @Fh (aS @WE (aS @Mc.eq_1 (aS @Mc.eq_2 (aS @Zl (aS @BD.eq_1 (aS @BD.eq_2 (aS @Uy (aS @zB (aS @RI (aS @RJ (aS @Option.map_some.{0,0} (aS @Int.toNat_natCast (aS @Int.toNat_zero (aS @aah (aS @aag (aS @bne_self_eq_false.{0} (aS @Bool.bne_true (aS @Bool.bne_false (aS @List.drop_replicate.{0} (aS @Nat.sub_self (aS @BC.eq_1 (aS @BC.eq_2 (aS @BC.eq_3 (aS @Option.toList_none.{0} (aS @Option.toList_some.{0} (aS @Qh.eq_1 (aS @oz.eq_1 (aS @oz.eq_2 (aS @vF.eq_1 (aS @vF.eq_2 (aS @eq_self.{1} (aS @List.replicate_zero.{0} (aS @List.replicate_succ.{0} (aS @Hl.eq_1 (aS @Hl.eq_2 (aS @uj.eq_1 (aS @uj.eq_2 (aS @List.set_cons_zero.{0} (aS @List.set_cons_succ.{0} (aS @ac8 (aS @xW.eq_1 (aS @xW.eq_2 (aS @yu.eq_1 (aS @yu.eq_2 (aS @yu.eq_3 (aS @List.zip_cons_cons.{0,0} (aS @List.zip_nil_right.{0,0} (aS @List.zip_nil_left.{0,0} (aS @beq_self_eq_true.{0} @Nat.add_zero))))))))))))))))))))))))))))))))))))))))))))))))))))))))))))))))))))))))))))))))))))))))))))))))))))))))))))))))))))))))))))))))))))))))))))))))))))))))))))))))))))))))))))))))))))))))))))))))))))))))))))))))))))))))))))))))))))))))))))))))))))))))))))))))))))))))))))))))))))))))))
theorem YJ : type_of% egD:=egD
def wkD :=aS @NQ.eq_1 (aS @NQ.eq_2 (aS @TV.eq_1 (aS @TV.eq_2 (aS @Ol.eq_1 (aS @Ol.eq_2 (aS @Ol.eq_3 (aS @WX.eq_1 (aS @WX.eq_2 (aS @WX.eq_3 (aS @WX.eq_4 (aS @GH.eq_1 (aS @GH.eq_2 (aS @GH.eq_3 (aS @NV.eq_1 (aS @NV.eq_2 (aS @uV.eq_1 (aS @uV.eq_2 (aS @lY.eq_1 (aS @lY.eq_2 (aS @true_and (aS @and_true (aS @implies_true.{1} (aS @List.mem_cons.{0} (aS @List.not_mem_nil.{0} (aS @or_false (aS @or_true (aS @true_or (aS @Box.arr.eq_1 (aS @Box.arr.eq_2 (aS @Box.arr.eq_3 (aS @Dl.eq_1 (aS @qh.eq_1 (aS @pq.eq_1 (aS @vSl.eq_1 (aS @not_false_eq_true (aS @false_or (aS @Option.some.injEq.{0} (aS @true_implies (aS @cI.eq_1 (aS @cU.eq_1 (aS @cB.eq_1 (aS @cS.eq_1 (aS @cL.eq_1 (aS @cK.eq_1 (aS @ai.kU (aS @tC.kU (aS @o7.kU (aS @List.map_append.{0,0} (aS @List.map_cons.{0,0} (aS @List.map_nil.{0,0} (aS @List.map_set.{0,0} (aS @List.map_take.{0,0} (aS @List.map_drop.{0,0} (aS @List.map_replicate.{0,0} (aS @List.length_append.{0} (aS @List.length_cons.{0} (aS @List.length_nil.{0} (aS @List.length_map.{0,0} (aS @List.length_set.{0} (aS @List.length_replicate.{0} (aS @Nat.zero_add (aS @Nat.add_zero (aS @List.nil_append.{0} (aS @List.cons_append.{0} (aS @List.append_nil.{0} (aS @take_len (aS @Fg (aS @Fh @and_self))))))))))))))))))))))))))))))))))))))))))))))))))))))))))))))))))))
theorem wkR : type_of% wkD:=wkD
def peD :=aS @J4.eq_1 (aS @AY.eq_1 (aS @AY.eq_2 (aS @qR.ok.eq_1 (aS @qR.ok.eq_2 (aS @qR.val.eq_1 (aS @qR.val.eq_2 (aS @Oe.eq_1 (aS @Oe.eq_2 (aS @uJ.eq_1 (aS @uJ.eq_2 (aS @partOf.eq_1 (aS @partOf.eq_2 (aS @partOf.eq_3 (aS @Cb (aS @yf (aS @Gq (aS @g_v (aS @x_v (aS @AV.flat.eq_1 (aS @AV.flat.eq_2 (aS @uF.eq_1 (aS @uF.eq_2 (aS @uF.eq_3 (aS @uF.eq_4 (aS @uV.eq_1 (aS @uV.eq_2 (aS @lY.eq_1 (aS @lY.eq_2 (aS @dV.eq_1 (aS @dV.eq_2 (aS @dV.eq_3 (aS @dV.eq_4 (aS @dC.eq_1 (aS @dC.eq_2 (aS @dC.eq_3 (aS @dC.eq_4 (aS @dCs.eq_1 (aS @dCs.eq_2 (aS @dCs.eq_3 (aS @dPs.eq_1 (aS @dPs.eq_2 (aS @dPs.eq_3 (aS @Box.arr.eq_1 (aS @Box.arr.eq_2 (aS @Box.arr.eq_3 (aS @List.take_succ_cons.{0} (aS @List.take_zero.{0} (aS @List.drop_zero.{0} (aS @List.drop_succ_cons.{0} (aS @List.length_cons.{0} (aS @List.length_nil.{0} (aS @List.getElem?_cons_zero.{0} (aS @List.getElem?_cons_succ.{0} (aS @true_and (aS @and_true (aS @Nat.zero_add (aS @qh.eq_1 (aS @pq.eq_1 (aS @Dl.eq_1 (aS @vSl.eq_1 (aS @FR.ok.eq_1 (aS @cI.eq_1 (aS @cU.eq_1 (aS @cB.eq_1 (aS @cS.eq_1 (aS @cL.eq_1 (aS @cK.eq_1 (aS @ai.kU (aS @tC.kU (aS @o7.kU (aS @List.map_append.{0,0} (aS @List.map_cons.{0,0} (aS @List.map_nil.{0,0} (aS @List.map_set.{0,0} (aS @List.map_take.{0,0} (aS @List.map_drop.{0,0} (aS @List.map_replicate.{0,0} (aS @List.length_append.{0} (aS @List.length_map.{0,0} (aS @List.length_set.{0} (aS @List.length_replicate.{0} (aS @Nat.add_zero (aS @List.nil_append.{0} (aS @List.cons_append.{0} (aS @List.append_nil.{0} (aS @take_len (aS @Fg (aS @Fh (aS @and_self @zB)))))))))))))))))))))))))))))))))))))))))))))))))))))))))))))))))))))))))))))))))))))))))
theorem peR : type_of% peD:=peD
def rwD :=aS @NQ.eq_1 (aS @NQ.eq_2 (aS @TV.eq_1 (aS @TV.eq_2 (aS @Ol.eq_1 (aS @Ol.eq_2 (aS @Ol.eq_3 (aS @WX.eq_1 (aS @WX.eq_2 (aS @WX.eq_3 (aS @WX.eq_4 (aS @GH.eq_1 (aS @GH.eq_2 (aS @GH.eq_3 (aS @NV.eq_1 (aS @NV.eq_2 (aS @uV.eq_1 (aS @uV.eq_2 (aS @lY.eq_1 (aS @lY.eq_2 (aS @true_and (aS @and_true (aS @implies_true.{1} (aS @List.mem_cons.{0} (aS @List.not_mem_nil.{0} (aS @or_false (aS @or_true (aS @true_or (aS @Box.arr.eq_1 (aS @Box.arr.eq_2 (aS @Box.arr.eq_3 (aS @Dl.eq_1 (aS @qh.eq_1 (aS @pq.eq_1 (aS @vSl.eq_1 (aS @not_false_eq_true (aS @false_or (aS @Option.some.injEq.{0} (aS @true_implies (aS @cI.eq_1 (aS @cU.eq_1 (aS @cB.eq_1 (aS @cS.eq_1 (aS @cL.eq_1 (aS @cK.eq_1 (aS @ai.kU (aS @tC.kU (aS @o7.kU (aS @List.map_append.{0,0} (aS @List.map_cons.{0,0} (aS @List.map_nil.{0,0} (aS @List.map_set.{0,0} (aS @List.map_take.{0,0} (aS @List.map_drop.{0,0} (aS @List.map_replicate.{0,0} (aS @List.length_append.{0} (aS @List.length_cons.{0} (aS @List.length_nil.{0} (aS @List.length_map.{0,0} (aS @List.length_set.{0} (aS @List.length_replicate.{0} (aS @Nat.zero_add (aS @Nat.add_zero (aS @List.nil_append.{0} (aS @List.cons_append.{0} (aS @List.append_nil.{0} (aS @take_len (aS @Fg (aS @Fh (aS @and_self (aS @yB.eq_1 (aS @yB.eq_2 (aS @Oj.eq_1 (aS @Oj.eq_2 (aS @Oj.eq_3 (aS @J4.eq_1 (aS @AY.eq_1 (aS @AY.eq_2 (aS @qR.ok.eq_1 (aS @qR.ok.eq_2 (aS @qR.val.eq_1 (aS @qR.val.eq_2 (aS @Oe.eq_1 (aS @Oe.eq_2 (aS @uJ.eq_1 (aS @uJ.eq_2 (aS @partOf.eq_1 (aS @partOf.eq_2 (aS @partOf.eq_3 (aS @Cb (aS @yf (aS @Gq (aS @g_v (aS @x_v (aS @AV.flat.eq_1 (aS @AV.flat.eq_2 (aS @uF.eq_1 (aS @uF.eq_2 (aS @uF.eq_3 (aS @uF.eq_4 (aS @dV.eq_1 (aS @dV.eq_2 (aS @dV.eq_3 (aS @dV.eq_4 (aS @dC.eq_1 (aS @dC.eq_2 (aS @dC.eq_3 (aS @dC.eq_4 (aS @dCs.eq_1 (aS @dCs.eq_2 (aS @dCs.eq_3 (aS @dPs.eq_1 (aS @dPs.eq_2 (aS @dPs.eq_3 (aS @List.take_succ_cons.{0} (aS @List.take_zero.{0} (aS @List.drop_zero.{0} (aS @List.drop_succ_cons.{0} (aS @List.getElem?_cons_zero.{0} (aS @List.getElem?_cons_succ.{0} (aS @FR.ok.eq_1 @zB))))))))))))))))))))))))))))))))))))))))))))))))))))))))))))))))))))))))))))))))))))))))))))))))))))))))))))))))))))))))
theorem rwR : type_of% rwD:=rwD
def lnD :=aS @xu.eq_1 (aS @xu.eq_2 (aS @xu.eq_3 (aS @zO.eq_1 (aS @zO.eq_2 (aS @zO.eq_3 (aS @sW.eq_1 (aS @sW.eq_2 (aS @sW.eq_3 (aS @uz.eq_1 (aS @uz.eq_2 (aS @uz.eq_3 (aS @yf (aS @lY.eq_1 (aS @lY.eq_2 (aS @Box.arr.eq_1 (aS @Box.arr.eq_2 (aS @Box.arr.eq_3 (aS @AV.cells.eq_1 (aS @AV.cells.eq_2 (aS @AV.cells.eq_3 (aS @List.map_cons.{0,0} (aS @List.map_nil.{0,0} (aS @List.length_map.{0,0} (aS @List.length_append.{0} (aS @List.length_cons.{0} (aS @List.length_nil.{0} (aS @List.length_replicate.{0} (aS @List.length_set.{0} (aS @take_len (aS @Fg (aS @Fh (aS @true_and (aS @and_true (aS @and_self (aS @Nat.le_refl (aS @Nat.zero_add (aS @Nat.add_zero (aS @qh.eq_1 (aS @pq.eq_1 (aS @Dl.eq_1 (aS @vSl.eq_1 (aS @cI.eq_1 (aS @cU.eq_1 (aS @cB.eq_1 (aS @cS.eq_1 (aS @cL.eq_1 (aS @cK.eq_1 (aS @List.map_append.{0,0} (aS @List.cons_append.{0} (aS @List.nil_append.{0} (aS @ai.kU (aS @tC.kU @o7.kU))))))))))))))))))))))))))))))))))))))))))))))))))))
theorem lnR : type_of% lnD:=lnD
def ggD :=aS @Oi.eq_1 (aS @Oi.eq_2 (aS @Ob.eq_1 (aS @Ob.eq_2 (aS @yf (aS @lY.eq_1 (aS @lY.eq_2 (aS @xW.eq_1 (aS @xW.eq_2 (aS @List.getD_cons_zero.{0} (aS @List.getD_cons_succ.{0} (aS @List.cons_append.{0} (aS @List.nil_append.{0} (aS @List.append_nil.{0} (aS @List.map_cons.{0,0} (aS @List.map_nil.{0,0} (aS @List.map_append.{0,0} (aS @List.map_set.{0,0} (aS @List.length_append.{0} (aS @List.length_cons.{0} (aS @List.length_nil.{0} (aS @List.length_map.{0,0} (aS @List.length_set.{0} (aS @List.length_replicate.{0} (aS @List.replicate_zero.{0} (aS @List.replicate_succ.{0} (aS @List.map_replicate.{0,0} (aS @Nat.zero_add (aS @Nat.add_zero (aS @yu.eq_1 (aS @yu.eq_2 (aS @yu.eq_3 (aS @and_self (aS @and_true (aS @true_and (aS @cI.eq_1 (aS @cU.eq_1 (aS @cB.eq_1 (aS @cS.eq_1 (aS @cL.eq_1 (aS @cK.eq_1 (aS @ai.kU (aS @tC.kU @o7.kU))))))))))))))))))))))))))))))))))))))))))
theorem ggR : type_of% ggD:=ggD
def ghD :=aS @Oi.eq_1 (aS @Oi.eq_2 (aS @Ob.eq_1 (aS @Ob.eq_2 (aS @yf (aS @lY.eq_1 (aS @lY.eq_2 (aS @xW.eq_1 (aS @xW.eq_2 (aS @List.getD_cons_zero.{0} (aS @List.getD_cons_succ.{0} (aS @List.cons_append.{0} (aS @List.nil_append.{0} (aS @List.append_nil.{0} (aS @List.map_cons.{0,0} (aS @List.map_nil.{0,0} (aS @List.map_append.{0,0} (aS @List.map_set.{0,0} (aS @List.length_append.{0} (aS @List.length_cons.{0} (aS @List.length_nil.{0} (aS @List.length_map.{0,0} (aS @List.length_set.{0} (aS @List.length_replicate.{0} (aS @List.replicate_zero.{0} (aS @List.replicate_succ.{0} (aS @List.map_replicate.{0,0} (aS @Nat.zero_add (aS @Nat.add_zero (aS @yu.eq_1 (aS @yu.eq_2 (aS @yu.eq_3 (aS @and_self (aS @and_true (aS @true_and (aS @cI.eq_1 (aS @cU.eq_1 (aS @cB.eq_1 (aS @cS.eq_1 (aS @cL.eq_1 (aS @cK.eq_1 (aS @ai.kU (aS @tC.kU (aS @o7.kU (aS @WE (aS @Mc.eq_1 (aS @Mc.eq_2 (aS @BD.eq_1 (aS @BD.eq_2 (aS @List.flatMap_cons.{0,0} (aS @List.flatMap_nil.{0,0} (aS @AV.owns.eq_1 (aS @AV.owns.eq_2 (aS @AV.owns.eq_3 (aS @kz.eq_1 (aS @kz.eq_2 (aS @kz.eq_3 (aS @List.contains_cons.{0} (aS @List.contains_nil.{0} (aS @Bool.or_false (aS @Bool.or_true (aS @Bool.false_or (aS @if_true.{1} (aS @if_false.{1} (aS @Bool.false_eq_true (aS @xu.eq_1 (aS @xu.eq_2 (aS @xu.eq_3 (aS @zO.eq_1 (aS @zO.eq_2 (aS @zO.eq_3 (aS @sW.eq_1 (aS @sW.eq_2 (aS @sW.eq_3 (aS @uz.eq_1 (aS @uz.eq_2 (aS @uz.eq_3 (aS @Box.arr.eq_1 (aS @Box.arr.eq_2 (aS @Box.arr.eq_3 (aS @AV.cells.eq_1 (aS @AV.cells.eq_2 (aS @AV.cells.eq_3 (aS @Nat.le_refl (aS @take_len (aS @Fg (aS @Fh (aS @qh.eq_1 (aS @pq.eq_1 (aS @Dl.eq_1 @vSl.eq_1)))))))))))))))))))))))))))))))))))))))))))))))))))))))))))))))))))))))))))))))))))))))))
theorem ghR : type_of% ghD:=ghD
end
section
abbrev zN : List AC:=[.c (.lit (.int .i64 0)),.c (.lit (.int .i64 0)),.c (.str []),.xh 1,.xh 5]
abbrev wI (z:Int):AC:=.c (.lit (.int .i64 z))
abbrev wS (s:gB):AC:=.c (.str s)
abbrev wT (l:List gB):AC:=.c (.sl 1 (List.map cS l))
abbrev wK (l:List ai):AC:=.c (.sl 5 (List.map ai.cells l))
abbrev wN (x:ai):List AC:=[wI x.Kind,wI x.Num,wS x.Text,wT x.Names,wK x.Kids]
abbrev eP (a b:Nat):Nat×Slot:=(a,.v true (.one (.ptr b 0)))
abbrev eI (a:Nat)(z:Int):Nat×Slot:=(a,.v true (.one (wI z)))
abbrev eS (a:Nat)(z:gB):Nat×Slot:=(a,.v true (.one (wS z)))
abbrev eT (a:Nat)(z:List gB):Nat×Slot:=(a,.v true (.one (wT z)))
def pp {α:Sort _}{β:Sort _}(a:α)(b:β):PProd α β:=⟨a,b⟩
theorem ihL {n:Nat}{A B:Nat->Prop}(h:∀m,m<n->A m/\B m):∀m,m<n->A m:=λm hm=>(h m hm).1
theorem ihR {n:Nat}{A B:Nat->Prop}(h:∀m,m<n->A m/\B m):∀m,m<n->B m:=λm hm=>(h m hm).2
theorem kQ (zs:List Nat)(pi:List (Nat×Nat))(vs:List Nat){m:Nat}{ts0 ts:List (Nat×Slot)}{zK bs:List (Nat×Box)}(hk:Jf m zK bs pi vs=true)
 (hb:NQ zs (lY zK) (NV pi) vs bs) (ht:TV zs (lY zK) (NV pi) vs ts0 ts):Fv m (dP.of ts0 zK) (dP.of ts bs):=acm zs pi vs hk hb ht
theorem FB (zs:List Nat)(pi:List (Nat×Nat))(vs:List Nat){rs:List qR}{ts:List (Nat×Slot)}{zK:List (Nat×Box)}{m:Nat}{r:AV}{bs:List Box}(hk:Jf m zK (yB bs 0) pi vs=true)
 (hok:AY (dP.of ts zK) rs) (hb:NQ zs (lY zK) (NV pi) vs (yB bs 0)) (hv:WX zs (lY zK) (NV pi) vs (Oe (dP.of ts zK) rs) r) :
 Dq rs m (λr1 b1=>r1=r/\b1=bs) (dP.of ts zK):=Jr zs pi vs hk hok hb hv
section
variable {P:Program} {f:FuncId} {oD:List AV} {d:Option Nat} {st:dP} {K:List Nat->List Nat->dP->Prop} {du:DU K} {Q:AQ}
theorem cG (sg nu:List Nat){P:Program}{f:FuncId}{oD:List AV}{d:Option Nat}{st:dP}{K:List Nat->List Nat->dP->Prop}{du:DU K}{ds:List AV}{fp zK:List Box}{r0:AV}(h:nN P f ds fp (λr bs=>r=r0/\bs=zK))(hl:sg.length=fp.length)(hn:nodupB (sg++nu)=true)(hf:Oi st (sg++nu) fp 0)(hv:Ob st nu)
 (hra:(ds.all λx=>x.all (AC.oW fp.length))=true) (hrf:fp.all (Box.oW fp.length)=true) (ha:oD=ds.map (yu λb=>(sg++nu).getD b 0)) (hb:zK.length=(sg++nu).length)
 (k:K (sg++nu) (sg++nu) ((st.mQ ((sg++nu).zip (zK.map (xW λb=>(sg++nu).getD b 0)))).uA d (.v true (yu (λb=>(sg++nu).getD b 0) r0)))):oV P f oD true d st K du:=aev sg nu h hl hn hf hv hra hrf ha hb k
theorem cH (sg nu:List Nat){P:Program}{f:FuncId}{oD:List AV}{d:Option Nat}{st:dP}{K:List Nat->List Nat->dP->Prop}{du:DU K}{ds:List AV}{fp zK:List Box}{r0:AV}(h:nN P f ds fp (λr bs=>r=r0/\bs=zK))(he:oD.map (xu st.bx)=ds.map (yu λb=>(sg++nu).getD b 0))(hlo:sW st.bx oD)
 (hl:sg.length=fp.length) (hn:nodupB (sg++nu)=true) (hf:Oi (st.zL (oD.flatMap AV.owns)) (sg++nu) fp 0) (hv:Ob st nu)
 (hra:(ds.all λx=>x.all (AC.oW fp.length))=true) (hrf:fp.all (Box.oW fp.length)=true) (hb:zK.length=(sg++nu).length)
 (k:K (oD.flatMap AV.owns++(sg++nu)) (oD.flatMap AV.owns++(sg++nu)) (((st.zL (oD.flatMap AV.owns)).mQ ((sg++nu).zip (zK.map (xW λb=>(sg++nu).getD b 0)))).uA d (.v true (yu (λb=>(sg++nu).getD b 0) r0)))):oV P f oD true d st K du:=aew sg nu h he hlo hl hn hf hv hra hrf hb k
theorem P8 (X:Type)(R:Type)(g:Nat->X->Option R)(r:R)(S:X->dP)(N:Nat){P:Program}{st:dP}{Q:AQ}{a b:dD}{d1:DU (wpC P a)}{d2:DU (wpC P b)}{d3:DU Q}
 (h1:wG P a (o6.then (λst'=>∃x m,(g m x=some r/\m<=N)/\Fv 10 st' (S x)) Q) st .mk .mk) (h2:∀n x,n<=N->g n x=some r->wG P b Q (S x) .mk .mk):GL (wpC P a) (wpC P b) Q st d1 d2 d3:=by
 refine afI (X:=X×Nat) (λp=>g p.2 p.1=some r/\p.2<=N) (λp=>S p.1) (wpC_mono (λe st h=>?_) h1) (λp hp=>h2 p.2 p.1 hp.2 hp.1);cases e with
 |normal=>obtain⟨x,m,h,hw⟩:=h;exact⟨(x,m),h,hw⟩
 |_=>exact h
theorem wX (X:Type)(R:Type)(g:Nat->X->Option R)(r:R)(S:X->dP)(N:Nat){P:Program}{st:dP}{Q:AQ}{a:dD}{d1:DU (wpC P a)}{d2:DU Q}(h0:∃x m,(g m x=some r/\m<=N)/\Fv 10 st (S x))
 (h:∀n x,n<=N->g n x=some r->wG P a (o6.then (λst'=>∃x' m,(g m x'=some r/\m<=N/\m<n)/\Fv 10 st' (S x')) Q) (S x) .mk .mk):CB (wpC P a) Q st d1 d2:=by
 obtain⟨x,m,h0,hw⟩:=h0;refine ae7 (X:=X×Nat) (λp=>g p.2 p.1=some r/\p.2<=N) (λp=>S p.1) (λp=>p.2) (x,m) h0 hw (λp hp=>wpC_mono (λe st h=>?_) (h p.2 p.1 hp.2 hp.1));cases e with
 |normal=>obtain⟨x,m,h,hw⟩:=h;exact⟨(x,m),⟨⟨h.1,h.2.1⟩,h.2.2⟩,hw⟩
 |_=>exact h
end
theorem Iz {p:Prop}(x:p:=by simp -dsimp only[wkR,TR,DN,reduceIte,Nat.reduceEqDiff,reduceCtorEq]<;>simp[List.take_of_length_le]<;>fail):p:=x
theorem tPE {p:Prop}(x:p:=by(simp -dsimp only[peR,reduceIte,Nat.reduceEqDiff,Nat.reduceAdd,Nat.reduceLeDiff,reduceCtorEq]<;>first|(simp[List.take_of_length_le];done)|((try simp only[List.map_take,List.map_drop,List.map_append,List.map_cons,List.map_nil])<;>(repeat' apply And.intro)<;>first|rfl|(simp;done)|(simp<;>omega;done)|(congr 1;exact(List.take_of_length_le (by simp<;>omega)).symm)))):p:=x
theorem tRE {p:Prop}(x:p:=by(simp -dsimp only[rwR,TR,DN,reduceIte,Nat.reduceEqDiff,reduceCtorEq,Nat.reduceAdd,Nat.reduceLeDiff]<;>first|(simp[List.take_of_length_le];done)|((try simp only[List.map_take,List.map_drop,List.map_append,List.map_cons,List.map_nil])<;>(repeat' apply And.intro)<;>first|rfl|(simp;done)|(simp<;>omega;done)|(congr 1;exact(List.take_of_length_le (by simp<;>omega)).symm)))):p:=x
theorem tLN {p:Prop}(x:p:=by(simp only[lnR,reduceIte,Nat.reduceEqDiff]<;>omega)):p:=x
theorem tGG {p:Prop}(x:p:=by(simp only[ggR,zy,reduceIte,Nat.reduceEqDiff,Nat.reduceLeDiff,Nat.reduceAdd]<;>omega)):p:=x
theorem tGR {p:Prop}(x:p:=by first|rfl|(simp only[ggR,zy,reduceIte,Nat.reduceEqDiff,Nat.reduceLeDiff,Nat.reduceAdd]<;>omega)):p:=x
theorem tGH {p:Prop}(x:p:=by(simp only[ghR,zy,reduceIte,Nat.reduceEqDiff,Nat.reduceLeDiff,Nat.reduceAdd,Nat.reduceBEq]<;>omega)):p:=x
theorem VH {p:Prop}(x:p:=by((try simp only[Prod.exists]);(first|refine⟨_,_,⟨h,?_⟩,?_⟩|refine⟨_,_,_,⟨h,?_⟩,?_⟩|refine⟨_,_,_,_,⟨h,?_⟩,?_⟩|refine⟨_,_,_,_,_,⟨h,?_⟩,?_⟩|refine⟨_,_,_,_,_,_,⟨h,?_⟩,?_⟩|refine⟨_,_,_,_,_,_,_,⟨h,?_⟩,?_⟩|refine⟨_,_,_,_,_,_,_,_,⟨h,?_⟩,?_⟩|refine⟨_,_,_,_,_,_,_,_,_,⟨h,?_⟩,?_⟩|refine⟨_,_,_,_,_,_,_,_,_,_,⟨h,?_⟩,?_⟩|refine⟨_,_,_,_,_,_,_,_,_,_,_,⟨h,?_⟩,?_⟩|refine⟨_,_,_,_,_,_,_,_,_,_,_,_,⟨h,?_⟩,?_⟩|refine⟨_,_,_,_,_,_,_,_,_,_,_,_,_,⟨h,?_⟩,?_⟩|refine⟨_,_,_,_,_,_,_,_,_,_,_,_,_,_,⟨h,?_⟩,?_⟩|refine⟨_,_,_,_,_,_,_,_,_,_,_,_,_,_,_,⟨h,?_⟩,?_⟩|refine⟨_,_,_,_,_,_,_,_,_,_,_,_,_,_,_,_,⟨h,?_⟩,?_⟩|refine⟨_,_,_,_,_,_,_,_,_,_,_,_,_,_,_,_,_,⟨h,?_⟩,?_⟩|refine⟨_,_,_,_,_,_,_,_,_,_,_,_,_,_,_,_,_,_,⟨h,?_⟩,?_⟩|refine⟨_,_,_,_,_,_,_,_,_,_,_,_,_,_,_,_,_,_,_,⟨h,?_⟩,?_⟩|refine⟨_,_,_,_,_,_,_,_,_,_,_,_,_,_,_,_,_,_,_,_,⟨h,?_⟩,?_⟩|refine⟨_,_,_,_,_,_,_,_,_,_,_,_,_,_,_,_,_,_,_,_,_,⟨h,?_⟩,?_⟩|refine⟨_,_,_,_,_,_,_,_,_,_,_,_,_,_,_,_,_,_,_,_,_,_,⟨h,?_⟩,?_⟩|refine⟨_,_,_,_,_,_,_,_,_,_,_,_,_,_,_,_,_,_,_,_,_,_,_,⟨h,?_⟩,?_⟩|refine⟨_,_,_,_,_,_,_,_,_,_,_,_,_,_,_,_,_,_,_,_,_,_,_,_,⟨h,?_⟩,?_⟩|refine⟨(),_,⟨h,?_⟩,?_⟩);(focus omega);first|exact zj.1 (by rfl) Iz Iz|exact zj.2.1 (by rfl) Iz Iz|exact zj.2.2.1 (by rfl) Iz Iz|exact zj.2.2.2.1 (by rfl) Iz Iz|exact zj.2.2.2.2.1 (by rfl) Iz Iz|exact zj.2.2.2.2.2.1 (by rfl) Iz Iz|exact zj.2.2.2.2.2.2.1 (by rfl) Iz Iz|exact zj.2.2.2.2.2.2.2.1 (by rfl) Iz Iz|exact zj.2.2.2.2.2.2.2.2.1 (by rfl) Iz Iz|exact zj.2.2.2.2.2.2.2.2.2.1 (by rfl) Iz Iz|exact zj.2.2.2.2.2.2.2.2.2.2.1 (by rfl) Iz Iz|exact zj.2.2.2.2.2.2.2.2.2.2.2.1 (by rfl) Iz Iz|exact zj.2.2.2.2.2.2.2.2.2.2.2.2.1 (by rfl) Iz Iz|exact zj.2.2.2.2.2.2.2.2.2.2.2.2.2.1 (by rfl) Iz Iz)):p:=x
theorem uG {p:Prop}(x:p:=by
 obtain⟨zc,zg,zk,zu,ze,zj,zt⟩:=z
 try simp only[wN,wI,wS,wT,wK,zN,eP,eI,eS,eT]at zc zk zu zt zj⊢
 repeat' first
 |(clear h;(with_reducible intro n x hn h);rcases n with _|n<;>simp only[ze.1,reduceCtorEq]at h)
 |(simp only[reduceCtorEq]at h;done)
 |((with_reducible replace h:=kq0 h);obtain⟨_,_,h⟩:=h)
 |((with_reducible replace h:=kqn h);obtain⟨_,_,h⟩:=h)
 |((with_reducible replace h:=kq1 h);obtain⟨_,_,h⟩:=h)
 |((with_reducible replace h:=kq h);obtain⟨_,h⟩:=h)
 |((with_reducible replace h:=sq h);subst h;have h:=True.intro)
 | (try simp -dsimp only[YJ,jb.jV,jb.f,jb.rd,xR,uB,lvl,rU,reduceIte,Nat.reduceEqDiff,Nat.reduceAdd,Nat.reduceLeDiff,Nat.reduceBEq,reduceCtorEq,Int.reduceBNe,Int.reduceBEq,Int.reduceLT,Int.reduceLE,Int.reduceNeg,Nat.reduceLT,xY,Int.reduceToNat,zy, *]
    repeat((with_reducible refine And.intro ?_ ?_);focus first|(show tH _ _ _ _=true;kernel_rfl)|(show rW _ _=true;kernel_rfl)|omega|assumption|(show _<=maxLen;decide))
    first
    |with_reducible refine acz ?_
    |((with_reducible refine ae1 ?_);with_reducible refine zu.1 n ?_ ?_)
    |((with_reducible refine adz ?_);first|((with_reducible refine zk.1 n ?_ ?_);(focus exact VH))|((with_reducible refine zk.2.1 n ?_ ?_);(focus exact VH))|((with_reducible refine zk.2.2.1 n ?_ ?_);(focus exact VH))|((with_reducible refine zk.2.2.2.1 n ?_ ?_);(focus exact VH))|((with_reducible refine zk.2.2.2.2.1 n ?_ ?_);(focus exact VH))|((with_reducible refine zk.2.2.2.2.2.1 n ?_ ?_);(focus exact VH)))
    |((with_reducible refine ZP ?_);(with_reducible replace h:=bq h);obtain⟨_,hv,h⟩:=h;first|(have zd:=zc;(repeat(first|((first|with_reducible have hc:=zd.1 hv|with_reducible have hc:=zd.1 _ (by omega) hv);(first|refine acy (λ_=>hc) rfl rfl ?_|refine acA hc rfl rfl ?_|refine aeu hc tLN tLN rfl rfl ?_|refine aet hc tLN tLN rfl rfl ?_);clear zd)|with_reducible replace zd:=zd.2));(fail_if_success have zz:=zd))|(have zd:=zg;(repeat(first|((first|with_reducible have hc:=zd.1.1 hv|with_reducible have hc:=zd.1.1 _ (by omega) hv);(first|refine zd.1.2 hc rfl rfl tGG tGG rfl rfl tGR rfl ?_|refine zd.1.2 hc tGH tGH rfl rfl tGH tGH rfl rfl rfl ?_);clear zd)|with_reducible replace zd:=zd.2));(fail_if_success have zz:=zd)))
    |((with_reducible replace h:=cq h);rcases h with⟨c,h⟩|⟨c,h⟩<;>try(simp only[*,Bool.false_eq_true,reduceCtorEq]at c;done))
    |((with_reducible refine agj ?_);exact VH)
    |((with_reducible refine ae2 ?_);exact tPE)
    |((with_reducible refine acM ?_);have zd:=zt;(repeat(first|exact zd.1 (by rfl) tRE tRE tRE|with_reducible replace zd:=zd.2))<;>fail)
    |(cases h;done))):p:=x
end
abbrev zA (d:Nat)(x:jb):gX:=⟨none,some d,.op x⟩
abbrev zM (d s:Nat):gX:=⟨none,some d,.op (.mv (.t s))⟩
abbrev zS (x:jb):gX:=⟨none,none,.op x⟩
abbrev zG (g:Nat)(b:Bool)(d:Nat)(x:jb):gX:=⟨some (g,b),some d,.op x⟩
noncomputable abbrev pZ : Program:=Go.Proofs.Tryz.prog
abbrev kI (n:Int):jK:=.k (.c (.lit (.int .i64 n)))
abbrev kB (b:Bool):jK:=.k (.c (.lit (.bool b)))
abbrev cI' (n:Int):AC:=.c (.lit (.int .i64 n))
abbrev qF (d k a:Nat):gX:=zA d (.load false k (.t a))
abbrev qT (d k a:Nat):gX:=zA d (.load true k (.t a))
abbrev qS (k a b:Nat):gX:=zS (.store true k (.t a) (.t b))
abbrev qU (k a b:Nat):gX:=zS (.store false k (.t a) (.t b))
abbrev qA (d k a:Nat):gX:=zA d (.ny k (.t a))
abbrev qX (d k a:Nat):gX:=zA d (.box k (.t a))
abbrev qB (d:Nat)(b:Bool):gX:=zA d (.mv (kB b))
abbrev qI (d:Nat)(n:Int):gX:=zA d (.mv (kI n))
abbrev qL (d a:Nat):gX:=zA d (.len (.t a))
abbrev qO (d a:Nat):gX:=zA d (.not (.t a))
abbrev qE (d a k:Nat):gX:=zA d (.extract (.t a) k)
abbrev qP (d a b:Nat):gX:=zA d (.pick (.t a) (.t b) (kB false))
abbrev qQ (d a b:Nat):gX:=zA d (.pick (.t a) (kB true) (.t b))
abbrev qN (d a:Nat):gX:=zA d (.OZ (.t a))
abbrev qD (d k a b:Nat):gX:=zA d (.uT k (.t a) (.t b))
abbrev qZ (d k:Nat):gX:=zA d (.alloc k zN)
abbrev q1 (d f a:Nat):gX:=⟨none,some d,.call f [.t a]⟩
abbrev q2 (d f a b:Nat):gX:=⟨none,some d,.call f [.t a,.t b]⟩
abbrev q3 (d f a b c:Nat):gX:=⟨none,some d,.call f [.t a,.t b,.t c]⟩
abbrev qb (d:Nat)(o:BinOp)(a b:Nat):gX:=zA d (.bin o (.t a) (.t b))
abbrev qk (d:Nat)(o:BinOp)(a:Nat)(n:Int):gX:=zA d (.bin o (.t a) (kI n))
abbrev ql (d a:Nat):gX:=zA d (.lens (.t a))
abbrev qm (g:Nat)(b:Bool)(d a:Nat):gX:=zG g b d (.mv (.t a))
abbrev qc (a:Nat)(x y:dD):dD:=.cond (.t a) x y
abbrev qs (l:List gX)(m:List Nat)(x:dD):dD:=.seq (.reg l m) x
abbrev qr (l:List gX)(m:List Nat):dD:=.seq (.reg l m) .ret
def C.ins (sz cb gr:Nat)(z:List Cell):dD:=(qs [zA 6 (.mv (.k (.xh sz)))] [0,1,2] (qs [zM 10 0,zM 11 1,zA 12 (.tX sz (.t 10) (some (.t 11)) none)] [0,1,2] (qs [zM 13 2,qL 14 13,zM 7 14] [0,1,2,7] (.seq (qs [zM 15 7,qk 16 .eql 15 0] [0,1,2,7,16] (qc 16 (qr [zM 17 0,zM 6 17] [6]) .skip)) (qs [zM 18 0,qL 19 18,zM 8 19] [0,1,2,7,8] (.seq (qs [zM 20 1,zM 21 8,qb 22 .eql 20 21] [0,1,2,7,8,22] (qc 22 (qr [zM 23 0,zM 24 2,zA 25 (.TJ 10 sz cb (.t 23) (.t 24)),zM 6 25] [6]) .skip)) (.seq (qs [zM 26 8,zM 27 7,qb 28 .add 26 27,zM 29 0,zA 30 (.Xv (.t 29)),qb 31 .gtr 28 30] [0,1,2,7,8,31] (qc 31 (qs [zM 32 0,zM 33 1,zA 34 (.tX sz (.t 32) none (some (.t 33))),zM 35 8,zM 36 7,qb 37 .add 35 36,zM 38 1,qb 39 .sub 37 38,zA 40 (.Ur 11 sz cb z (.t 34) (.t 39)),zM 9 40] [0,1,2,7,9] (qs [zM 41 9,zM 42 1,zA 43 (.tX sz (.t 41) (some (.t 42)) none),zM 44 2,zA 45 (.Np sz (.t 43) (.t 44))] [0,1,7,9] (.seq (.qp [(zM 46 9,[]),(zM 47 1,[]),(zM 48 7,[]),(qb 49 .add 47 48,[1,2]),(zA 50 (.tX sz (.t 46) (some (.t 49)) none),[0,1,2,3]),(zM 51 0,[]),(zM 52 1,[]),(zA 53 (.tX sz (.t 51) (some (.t 52)) none),[5,6]),(zA 54 (.Np sz (.t 50) (.t 53)),[0,1,2,3,4,5,6,7])] [9]) (qr [zM 55 9,zM 6 55] [6])))) .skip)) (qs [zM 56 0,zM 57 8,zM 58 7,qb 59 .add 57 58,zA 60 (.tX sz (.t 56) none (some (.t 59))),zM 0 60] [0,1,2,7,8] (.seq (qs [zM 61 2,zM 62 0,zM 63 1,zM 64 7,qb 65 .add 63 64,zA 66 (.tX sz (.t 62) (some (.t 65)) none),zA 67 (.ovl (.t 61) (.t 66)),qO 68 67] [0,1,2,7,8,68] (qc 68 (.seq (.qp [(zM 69 0,[]),(zM 70 1,[]),(zM 71 7,[]),(qb 72 .add 70 71,[1,2]),(zA 73 (.tX sz (.t 69) (some (.t 72)) none),[0,1,2,3]),(zM 74 0,[]),(zM 75 1,[]),(zA 76 (.tX sz (.t 74) (some (.t 75)) none),[5,6]),(zA 77 (.Np sz (.t 73) (.t 76)),[0,1,2,3,4,5,6,7])] [0,1,2]) (qs [zM 78 0,zM 79 1,zA 80 (.tX sz (.t 78) (some (.t 79)) none),zM 81 2,zA 82 (.Np sz (.t 80) (.t 81))] [0] (qr [zM 83 0,zM 6 83] [6]))) .skip)) (qs [zM 84 0,zM 85 8,zA 86 (.tX sz (.t 84) (some (.t 85)) none),zM 87 2,zA 88 (.Np sz (.t 86) (.t 87))] [0,1,7] (qs [zM 89 0,zM 90 1,zA 91 (.tX sz (.t 89) (some (.t 90)) none),zM 92 7,⟨none,some 93,.call gr [.t 91,.t 92]⟩] [0] (qr [zM 94 0,zM 6 94] [6]))))))))))))
def C.del (sz cb:Nat)(z:List Cell):dD:=(qs [zA 6 (.mv (.k (.xh sz)))] [0,1,2] (qs [zM 8 0,zM 9 1,zM 10 2,zM 11 0,qL 12 11,zA 13 (.sl3 sz (.t 8) (.t 9) (.t 10) (.t 12))] [0,1,2] (.seq (qs [zM 14 1,zM 15 2,qb 16 .eql 14 15] [0,1,2,16] (qc 16 (qr [zM 17 0,zM 6 17] [6]) .skip)) (qs [zM 18 0,qL 19 18,zM 7 19] [0,1,2,7] (.seq (.qp [(zM 20 0,[]),(zM 21 1,[]),(zA 22 (.tX sz (.t 20) none (some (.t 21))),[0,1]),(zM 23 0,[]),(zM 24 2,[]),(zA 25 (.tX sz (.t 23) (some (.t 24)) none),[3,4]),(zA 26 (.TJ 10 sz cb (.t 22) (.t 25)),[0,1,2,3,4,5]),(zM 0 26,[0,1,2,3,4,5,6])] [0,7]) (qs [zM 27 0,zM 28 0,qL 29 28,zM 30 7,zA 31 (.tX sz (.t 27) (some (.t 29)) (some (.t 30))),zS (.Vz sz z (.t 31))] [0] (qr [zM 32 0,zM 6 32] [6])))))))
def C.cmp_isNaN_int : dD:=(qs [qB 2 false] [0] (qr [zM 3 0,zM 4 0,qb 5 .neq 3 4,zM 2 5] [2]))
theorem K.cmp_isNaN_int : lK pZ 120 1 0 C.cmp_isNaN_int [.tmp 2]=true:=by kernel_rfl
def C.cmp_Compare_int : dD:=(qs [qI 4 0] [0,1] (qs [zM 7 0,q1 8 120 7,zM 5 8] [0,1,5] (qs [zM 9 1,q1 10 120 9,zM 6 10] [0,1,5,6] (.seq (qs [zM 11 5] [0,1,6,11] (qc 11 (.seq (qs [zM 12 6] [12] (qc 12 (qr [qI 4 0] [4]) .skip)) (qr [qI 4 (-1)] [4])) .skip)) (.seq (qs [zM 13 6] [0,1,13] (qc 13 (qr [qI 4 1] [4]) .skip)) (.seq (qs [zM 14 0,zM 15 1,qb 16 .lss 14 15] [0,1,16] (qc 16 (qr [qI 4 (-1)] [4]) .skip)) (.seq (qs [zM 17 0,zM 18 1,qb 19 .gtr 17 18] [19] (qc 19 (qr [qI 4 1] [4]) .skip)) (qr [qI 4 0] [4]))))))))
theorem K.cmp_Compare_int : lK pZ 103 2 0 C.cmp_Compare_int [.tmp 4]=true:=by kernel_rfl
def C.cmp_isNaN_string : dD:=(qs [qB 2 false] [0] (qr [zM 3 0,zM 4 0,qb 5 .neq 3 4,zM 2 5] [2]))
theorem K.cmp_isNaN_string : lK pZ 127 1 0 C.cmp_isNaN_string [.tmp 2]=true:=by kernel_rfl
def C.cmp_Less_string : dD:=(qs [qB 4 false] [0,1] (qr [zM 5 0,q1 6 127 5,zM 7 6,qm 7 true 8 1,⟨(some (7,true)),some 9,.call 127 [.t 8]⟩,zG 7 true 10 (.not (.t 9)),qP 11 7 10,zM 12 11,qm 12 false 13 0,qm 12 false 14 1,zG 12 false 15 (.bin .lss (.t 13) (.t 14)),qQ 16 12 15,zM 4 16] [4]))
theorem K.cmp_Less_string : lK pZ 117 2 0 C.cmp_Less_string [.tmp 4]=true:=by kernel_rfl
def C.aO : dD:=(qs [qX 1 10 0,qZ 2 11] [1,2] (qs [qA 6 0 1,qF 7 1 6,qA 8 1 1,qF 9 1 8,qA 10 2 1,qF 11 1 10,zA 12 (.build zN [(0,1,.t 7),(1,1,.t 9),(2,1,.t 11)]),qZ 3 12,qS 5 3 12] [1,2,3] (.cut (qs [qA 13 3 1,qF 14 1 13,qL 15 14,qk 16 .gtr 15 0] [1,2,3,16] (qc 16 (qs [qA 17 3 1,qF 18 1 17,qL 19 18,zA 20 (.makes 13 1 16 [.str []] (.t 19) (.t 19)),qA 21 3 3,qU 1 21 20] [1,2,3] (.reg [qA 22 3 3,qF 23 1 22,qA 24 3 1,qF 25 1 24,zA 26 (.copy 1 (.t 23) (.t 25))] [1,2,3])) .skip)) (.seq (qs [qA 27 4 1,qF 28 1 27,qL 29 28,qk 30 .gtr 29 0] [1,2,3,30] (qc 30 (qs [qA 31 4 1,qF 32 1 31,qL 33 32,zA 34 (.makes 14 5 80 [.lit (.int .i64 0),.lit (.int .i64 0),.str [],.sl 1 [],.sl 5 []] (.t 33) (.t 33)),qA 35 4 3,qU 1 35 34] [1,2,3] (qs [qA 36 4 1,qF 37 1 36,qL 38 37,qI 39 0] [2,3,37,38,39] (.block 0 (.loop (qs [qb 40 .lss 39 38] [2,3,37,38,39,40] (.seq (qc 40 .skip (.exit 0)) (.seq (.block 1 (qs [zM 41 39,qD 42 5 37 39,qT 43 5 42,qZ 5 15,zM 4 41,qS 5 5 43] [2,3,4,5,37,38,39] (.qp [(qA 44 4 3,[]),(qF 45 1 44,[0]),(zM 46 4,[]),(qT 47 5 5,[]),(q1 48 53 47,[3]),(qD 49 5 45 46,[0,1,2,3,4]),(qS 5 49 48,[0,1,2,3,4,5])] [2,3,37,38,39]))) (.reg [qk 50 .add 39 1,zM 39 50] [2,3,37,38,39])))))))) .skip)) (qr [qT 51 5 3,qS 5 2 51] [2])))))
theorem K.aO : lK pZ 53 1 0 C.aO [.cell 2 true 5]=true:=by kernel_rfl
def C.slices_isNaN_string : dD:=(qs [qB 2 false] [0] (qr [zM 3 0,zM 4 0,qb 5 .neq 3 4,zM 2 5] [2]))
theorem K.slices_isNaN_string : lK pZ 118 1 0 C.slices_isNaN_string [.tmp 2]=true:=by kernel_rfl
def C.slices_BinarySearch_string : dD:=(qs [qI 4 0,qB 5 false] [0,1] (qs [zM 10 0,qL 11 10,zM 6 11] [0,1,6] (qs [zM 12 6,qI 7 0,zM 8 12] [0,1,6,7,8] (.seq (.block 0 (.loop (.seq (qs [zM 13 7,zM 14 8,qb 15 .lss 13 14] [0,1,6,7,8,15] (qc 15 .skip (.exit 0))) (.block 1 (qs [zM 16 7,zM 17 8,qb 18 .add 16 17,zA 19 (.N8 .u64 (.t 18)),zA 20 (.shf false (.t 19) (.k (.c (.lit (.int .u64 1))))),zA 21 (.N8 .i64 (.t 20)),zM 9 21] [0,1,6,7,8,9] (qs [zM 22 0,zM 23 9,qD 24 1 22 23,qF 25 1 24,zM 26 1,q2 27 117 25 26] [0,1,6,7,8,9,27] (qc 27 (.reg [zM 28 9,qk 29 .add 28 1,zM 7 29] [0,1,6,7,8]) (.reg [zM 30 9,zM 8 30] [0,1,6,7,8])))))))) (qr [zM 31 7,zM 32 7,zM 33 6,qb 34 .lss 32 33,zM 35 34,qm 35 true 36 0,qm 35 true 37 7,zG 35 true 38 (.uT 1 (.t 36) (.t 37)),zG 35 true 39 (.load false 1 (.t 38)),qm 35 true 40 1,zG 35 true 41 (.bin .eql (.t 39) (.t 40)),qm 35 true 42 41,qm 42 false 43 0,qm 42 false 44 7,zG 42 false 45 (.uT 1 (.t 43) (.t 44)),zG 42 false 46 (.load false 1 (.t 45)),⟨(some (42,false)),some 47,.call 118 [.t 46]⟩,qm 42 false 48 47,qm 48 true 49 1,⟨(some (48,true)),some 50,.call 118 [.t 49]⟩,zG 42 false 51 (.pick (.t 48) (.t 50) (kB false)),zG 35 true 52 (.pick (.t 42) (kB true) (.t 51)),qP 53 35 52,zM 4 31,zM 5 53] [4,5])))))
theorem K.slices_BinarySearch_string : lK pZ 100 2 0 C.slices_BinarySearch_string [.tmp 4,.tmp 5]=true:=by kernel_rfl
def C.dn : dD:=(qs [qX 2 10 0,qI 4 0,qB 5 false] [1,2] (.seq (qs [qA 7 0 2,qF 8 1 7] [1,2,8] (.block 0 (qs [qk 10 .eql 8 4,zM 9 10] [1,2,8,9] (qc 9 (qr [qA 11 3 2,qF 12 1 11,zM 13 1,q2 14 100 12 13,qE 15 14 0,qE 16 14 1,zM 4 15,zM 5 16] [4,5]) (qs [qk 18 .eql 8 3,zM 17 18] [1,2,17] (qc 17 (qs [qA 19 4 2,qF 20 1 19,qL 21 20,qI 22 0] [1,21,22] (.block 1 (.loop (qs [qb 23 .lss 22 21] [1,21,22,23] (.seq (qc 23 .skip (.exit 1)) (.seq (.block 2 (qs [zM 24 22,zM 6 24] [1,6,21,22] (qs [zM 25 6,q1 26 98 25,zM 27 1,qb 28 .eql 26 27] [1,6,21,22,28] (qc 28 (qr [zM 29 6,zM 4 29,qB 5 true] [4,5]) .skip)))) (.reg [qk 30 .add 22 1,zM 22 30] [1,21,22]))))))) .skip)))))) (qr [qI 4 0,qB 5 false] [4,5])))
theorem K.dn : lK pZ 73 2 0 C.dn [.tmp 4,.tmp 5]=true:=by kernel_rfl
def C.fF : dD:=C.ins 5 80 116 [.lit (.int .i64 0),.lit (.int .i64 0),.str [],.sl 1 [],.sl 5 []]
theorem K.fF : FK pZ 99 3 2 C.fF [.tmp 6]=true:=by kernel_rfl
def C.jF : dD:=C.ins 1 16 124 [.str []]
theorem K.jF : FK pZ 113 3 2 C.jF [.tmp 6]=true:=by kernel_rfl
def C.mg : dD:=(qs [qX 5 10 2] [0,1,5] (qs [zM 9 0,qN 10 9,qA 11 3 10,qF 12 1 11,zM 13 1,q2 14 100 12 13,zM 8 14,qE 15 8 0,qE 16 8 1,zM 6 15,zM 7 16] [0,1,5,6,7] (.seq (qs [zM 17 7] [0,1,5,6,17] (qc 17 (.seq (.qp [(zM 18 0,[]),(qN 19 18,[0]),(qA 20 4 19,[0,1]),(qF 21 1 20,[0,1,2]),(zM 22 6,[]),(qT 23 5 5,[]),(qD 24 5 21 22,[0,1,2,3,4,5]),(qS 5 24 23,[0,1,2,3,4,5,6])] []) .ret) .skip)) (qs [zM 25 0,zM 26 0,qN 27 26,qA 28 3 27,qF 29 1 28,zM 30 6,zM 31 1,zA 32 (.rH 11 1 1 [.str []] [(0,.t 31)]),q3 33 113 29 30 32,qN 34 25,qA 35 3 34,qU 1 35 33] [0,5,6] (.qp [(zM 36 0,[]),(zM 37 0,[]),(qN 38 37,[1]),(qA 39 4 38,[1,2]),(qF 40 1 39,[1,2,3]),(zM 41 6,[]),(qT 42 5 5,[]),(zA 43 (.rH 12 5 1 [.lit (.int .i64 0),.lit (.int .i64 0),.str [],.sl 1 [],.sl 5 []] [(0,.t 42)]),[6]),(q3 44 99 40 41 43,[1,2,3,4,5,6,7]),(qN 45 36,[0,1,2,3,4,5,6,7,8]),(qA 46 4 45,[0,1,2,3,4,5,6,7,8,9]),(qU 1 46 44,[0,1,2,3,4,5,6,7,8,9,10])] [])))))
theorem K.mg : lK pZ 97 3 3 C.mg []=true:=by kernel_rfl
def C.iy : dD:=(qs [qX 3 10 0,qX 5 11 2,qZ 6 12,qB 7 false] [1,3,5,6] (qs [qT 11 5 3,q1 12 53 11,qZ 8 13,qS 5 8 12] [1,3,5,6,8] (.seq (qs [qA 13 0 3,qF 14 1 13] [1,3,5,6,8,14] (.block 0 (qs [qk 16 .eql 14 4,zM 15 16] [1,3,5,6,8,14,15] (qc 15 (qs [zM 17 1,qT 18 5 5,q1 19 53 18,q3 20 97 8 17 19] [6,8] (qr [qT 21 5 8,qS 5 6 21,qB 7 true] [6,7])) (qs [qk 23 .eql 14 3,zM 22 23] [1,3,5,6,8,22] (qc 22 (qs [qT 25 5 3,zM 26 1,q2 27 73 25 26,zM 24 27,qE 28 24 0,qE 29 24 1,zM 9 28,zM 10 29] [1,3,5,6,8,9,10] (.cut (qs [zM 30 10,qO 31 30,zM 32 31,qm 32 true 33 1,zG 32 true 34 (.bin .eql (.t 33) (.k (.c (.str [45])))),qm 32 true 35 34,qm 35 false 36 1,zG 35 false 37 (.ny 4 (.t 3)),zG 35 false 38 (.load false 1 (.t 37)),zG 35 false 39 (.len (.t 38)),⟨(some (35,false)),some 40,.call 98 [.t 39]⟩,zG 35 false 41 (.bin .eql (.t 36) (.t 40)),zG 32 true 42 (.pick (.t 35) (kB true) (.t 41)),qP 43 32 42] [3,5,6,8,9,10,43] (qc 43 (.reg [qA 44 4 3,qF 45 1 44,qL 46 45,zM 9 46,qB 10 true] [5,6,8,9,10]) .skip)) (.seq (qs [zM 47 10,qO 48 47] [5,6,8,9,48] (qc 48 (qr [zA 49 (.build zN []),qS 5 6 49,qB 7 false] [6,7]) .skip)) (.seq (.qp [(qA 50 4 8,[]),(qF 51 1 50,[0]),(zM 52 9,[]),(qT 53 5 5,[]),(q1 54 53 53,[3]),(zA 55 (.rH 14 5 1 [.lit (.int .i64 0),.lit (.int .i64 0),.str [],.sl 1 [],.sl 5 []] [(0,.t 54)]),[3,4]),(q3 56 99 51 52 55,[0,1,2,3,4,5]),(qA 57 4 8,[0,1,2,3,4,5,6]),(qU 1 57 56,[0,1,2,3,4,5,6,7])] [6,8]) (qr [qT 58 5 8,qS 5 6 58,qB 7 true] [6,7]))))) .skip)))))) (qr [zA 59 (.build zN []),qS 5 6 59,qB 7 false] [6,7]))))
theorem K.iy : lK pZ 71 3 0 C.iy [.cell 6 true 5,.tmp 7]=true:=by kernel_rfl
def C.mO : dD:=(qs [qX 4 10 0,qZ 5 11,qB 6 false] [1,2,3,4,5] (.seq (.qp [(qT 7 5 4,[]),(qF 8 1 1,[]),(qF 9 1 2,[]),(qD 10 1 8 9,[1,2]),(qF 11 1 10,[1,2,3]),(qT 12 5 3,[]),(q3 13 71 7 11 12,[0,1,2,3,4,5]),(qE 14 13 0,[0,1,2,3,4,5,6]),(qE 15 13 1,[0,1,2,3,4,5,6]),(qS 5 5 14,[0,1,2,3,4,5,6,7,8]),(zM 6 15,[0,1,2,3,4,5,6,7,8,9])] [5,6]) .ret))
theorem K.mO : lK pZ 70 4 3 C.mO [.cell 5 true 5,.tmp 6]=true:=by kernel_rfl
def C.dm : dD:=(qs [qB 2 false] [0] (.seq (qs [zM 4 0,ql 5 4,qk 6 .gtr 5 12] [0,6] (qc 6 (qr [qB 2 false] [2]) .skip)) (.seq (qs [qI 3 0] [0,3] (.block 0 (.loop (.seq (qs [zM 7 3,zM 8 0,ql 9 8,qb 10 .lss 7 9] [0,3,10] (qc 10 .skip (.exit 0))) (.seq (.block 1 (qs [zM 13 0,zM 14 3,zA 15 (.idxs (.t 13) (.t 14)),zA 16 (.bin .lss (.t 15) (.k (.c (.lit (.int .u8 32))))),zM 17 16,qm 17 false 18 0,qm 17 false 19 3,zG 17 false 20 (.idxs (.t 18) (.t 19)),zG 17 false 21 (.bin .gtr (.t 20) (.k (.c (.lit (.int .u8 126))))),qQ 22 17 21] [0,3,22] (qc 22 (qr [qB 2 false] [2]) .skip))) (.reg [zM 11 3,qk 12 .add 11 1,zM 3 12] [0,3])))))) (qr [qB 2 true] [2]))))
theorem K.dm : lK pZ 96 1 0 C.dm [.tmp 2]=true:=by kernel_rfl
def C.fP : dD:=(qs [qB 2 false] [0] (.seq (qs [zM 5 0,qL 6 5,qk 7 .gtr 6 6] [0,7] (qc 7 (qr [qB 2 false] [2]) .skip)) (.seq (qs [zM 8 0,qL 9 8,qI 10 0] [0,8,9,10] (.block 0 (.loop (qs [qb 11 .lss 10 9] [0,8,9,10,11] (.seq (qc 11 .skip (.exit 0)) (.seq (.block 1 (qs [zM 12 10,qD 13 1 8 10,qF 14 1 13,zM 3 12,zM 4 14] [0,3,4,8,9,10] (qs [zM 15 4,q1 16 96 15,qO 17 16,zM 18 17,qm 18 false 19 3,zG 18 false 20 (.bin .gtr (.t 19) (kI 0)),qm 18 false 21 20,qm 21 true 22 0,qm 21 true 23 3,zG 21 true 24 (.bin .sub (.t 23) (kI 1)),zG 21 true 25 (.uT 1 (.t 22) (.t 24)),zG 21 true 26 (.load false 1 (.t 25)),qm 21 true 27 4,zG 21 true 28 (.bin .geq (.t 26) (.t 27)),zG 18 false 29 (.pick (.t 21) (.t 28) (kB false)),qQ 30 18 29] [0,8,9,10,30] (qc 30 (qr [qB 2 false] [2]) .skip)))) (.reg [qk 31 .add 10 1,zM 10 31] [0,8,9,10]))))))) (qr [qB 2 true] [2]))))
theorem K.fP : lK pZ 112 1 0 C.fP [.tmp 2]=true:=by kernel_rfl
def C.dw : dD:=(qs [qX 1 10 0,qB 2 false] [1] (.cut (qs [qA 3 0 1,qF 4 1 3,qk 5 .neq 4 1,zM 6 5,zG 6 true 7 (.ny 1 (.t 1)),zG 6 true 8 (.load false 1 (.t 7)),zG 6 true 9 (.bin .neq (.t 8) (kI 0)),qP 10 6 9,zM 11 10,zG 11 false 12 (.ny 0 (.t 1)),zG 11 false 13 (.load false 1 (.t 12)),zG 11 false 14 (.bin .neq (.t 13) (kI 2)),qm 11 false 15 14,zG 15 true 16 (.ny 2 (.t 1)),zG 15 true 17 (.load false 1 (.t 16)),zG 15 true 18 (.bin .neq (.t 17) (.k (.c (.str [])))),zG 11 false 19 (.pick (.t 15) (.t 18) (kB false)),qQ 20 11 19] [1,20] (qc 20 (qr [qB 2 false] [2]) .skip)) (.seq (qs [qA 21 0 1,qF 22 1 21,qk 23 .neq 22 4,zM 24 23,zG 24 true 25 (.ny 3 (.t 1)),zG 24 true 26 (.load false 1 (.t 25)),zG 24 true 27 (.len (.t 26)),zG 24 true 28 (.bin .gtr (.t 27) (kI 0)),qP 29 24 28] [1,29] (qc 29 (qr [qB 2 false] [2]) .skip)) (.seq (qs [qA 30 0 1,qF 31 1 30] [1,31] (.block 0 (qs [qk 33 .eql 31 0,zM 32 33] [1,31,32] (qc 32 (qr [qA 34 4 1,qF 35 1 34,qL 36 35,qk 37 .eql 36 0,zM 2 37] [2]) (qs [qk 39 .eql 31 1,zM 38 39] [1,31,38] (qc 38 (qr [qA 40 1 1,qF 41 1 40,qk 42 .geq 41 (-999999),zM 43 42,zG 43 true 44 (.ny 1 (.t 1)),zG 43 true 45 (.load false 1 (.t 44)),zG 43 true 46 (.bin .leq (.t 45) (kI 999999)),qP 47 43 46,zM 48 47,zG 48 true 49 (.ny 4 (.t 1)),zG 48 true 50 (.load false 1 (.t 49)),zG 48 true 51 (.len (.t 50)),zG 48 true 52 (.bin .eql (.t 51) (kI 0)),qP 53 48 52,zM 2 53] [2]) (qs [qk 55 .eql 31 2,zM 54 55] [1,31,54] (qc 54 (qr [qA 56 2 1,qF 57 1 56,q1 58 96 57,zM 59 58,zG 59 true 60 (.ny 4 (.t 1)),zG 59 true 61 (.load false 1 (.t 60)),zG 59 true 62 (.len (.t 61)),zG 59 true 63 (.bin .eql (.t 62) (kI 0)),qP 64 59 63,zM 2 64] [2]) (qs [qk 66 .eql 31 3,zM 65 66] [1,31,65] (qc 65 (qr [qA 67 4 1,qF 68 1 67,qL 69 68,qk 70 .leq 69 6,zM 2 70] [2]) (qs [qk 72 .eql 31 4,zM 71 72] [1,71] (qc 71 (qr [qA 73 3 1,qF 74 1 73,q1 75 112 74,zM 76 75,zG 76 true 77 (.ny 4 (.t 1)),zG 76 true 78 (.load false 1 (.t 77)),zG 76 true 79 (.len (.t 78)),zG 76 true 80 (.ny 3 (.t 1)),zG 76 true 81 (.load false 1 (.t 80)),zG 76 true 82 (.len (.t 81)),zG 76 true 83 (.bin .eql (.t 79) (.t 82)),qP 84 76 83,zM 2 84] [2]) .skip)))))))))))) (qr [qB 2 false] [2])))))
theorem K.dw : lK pZ 95 1 0 C.dw [.tmp 2]=true:=by kernel_rfl
def C.cO : dD:=(qs [qX 2 10 0,qI 4 0,qI 5 0,qB 6 false] [1,2] (.seq (qs [zM 12 1,qk 13 .gtr 12 5,zM 14 13,zG 14 false 15 (.load true 5 (.t 2)),⟨(some (14,false)),some 16,.call 95 [.t 15]⟩,zG 14 false 17 (.not (.t 16)),qQ 18 14 17] [1,2,18] (qc 18 (qr [qI 4 0,qI 5 0,qB 6 false] [4,5,6]) .skip)) (qs [qI 4 1,qI 5 1] [1,2,4,5] (.seq (qs [qA 19 4 2,qF 20 1 19,qL 21 20,qI 22 0] [1,4,5,20,21,22] (.block 0 (.loop (qs [qb 23 .lss 22 21] [1,4,5,20,21,22,23] (.seq (qc 23 .skip (.exit 0)) (.seq (.block 1 (qs [qD 24 5 20 22,qT 25 5 24,qZ 8 11,qS 5 8 25] [1,4,5,8,20,21,22] (qs [qT 27 5 8,zM 28 1,qk 29 .add 28 1,q2 30 66 27 29,zM 26 30,qE 31 26 0,qE 32 26 1,qE 33 26 2,zM 9 31,zM 10 32,zM 11 33] [1,4,5,9,10,11,20,21,22] (.seq (qs [zM 34 11,qO 35 34] [1,4,5,9,10,20,21,22,35] (qc 35 (qr [qI 4 0,qI 5 0,qB 6 false] [4,5,6]) .skip)) (qs [zM 36 4,zM 37 9,qb 38 .add 36 37,zM 4 38] [1,4,5,10,20,21,22] (.reg [zM 39 5,zM 40 10,qk 41 .add 40 1,zA 42 (.max (.t 39) (.t 41)),zM 5 42] [1,4,5,20,21,22])))))) (.reg [qk 43 .add 22 1,zM 22 43] [1,4,5,20,21,22]))))))) (qr [zM 44 4,zM 45 5,zM 4 44,zM 5 45,qB 6 true] [4,5,6])))))
theorem K.cO : lK pZ 66 2 0 C.cO [.tmp 4,.tmp 5,.tmp 6]=true:=by kernel_rfl
def C.cu : dD:=(qs [qX 1 10 0,qB 2 false] [1] (qs [qT 7 5 1,⟨none,some 8,.call 66 [.t 7,kI 1]⟩,zM 6 8,qE 9 6 0,qE 10 6 1,qE 11 6 2,zM 3 9,zM 4 10,zM 5 11] [3,5] (qr [zM 12 5,zM 13 12,qm 13 true 14 3,zG 13 true 15 (.bin .leq (.t 14) (kI 40)),qP 16 13 15,zM 2 16] [2])))
theorem K.cu : lK pZ 36 1 0 C.cu [.tmp 2]=true:=by kernel_rfl
def C.vJ : dD:=(qs [qX 3 10 0,qZ 6 11,qB 7 false] [1,2,3,6] (.seq (qs [zM 12 1,qL 13 12,qk 14 .eql 13 0] [1,2,3,6,14] (qc 14 (qr [zM 15 2,qT 16 5 3,⟨none,some 17,.Dv (.t 15) [.t 16]⟩,qE 18 17 0,qE 19 17 1,qS 5 6 18,zM 7 19] [6,7]) .skip)) (.seq (.qp [(qT 21 5 3,[]),(zM 22 1,[]),(zA 23 (.uT 1 (.t 22) (kI 0)),[1]),(qF 24 1 23,[1,2]),(q2 25 73 21 24,[0,1,2,3]),(zM 20 25,[0,1,2,3,4]),(qE 26 20 0,[0,1,2,3,4,5]),(qE 27 20 1,[0,1,2,3,4,5]),(zM 8 26,[0,1,2,3,4,5,6]),(zM 9 27,[0,1,2,3,4,5,6,7,8])] [1,2,3,6,8,9]) (.seq (qs [zM 28 9,qO 29 28] [1,2,3,6,8,29] (qc 29 (qr [zA 30 (.build zN []),qS 5 6 30,qB 7 false] [6,7]) .skip)) (.seq (.qp [(qA 32 4 3,[]),(qF 33 1 32,[0]),(zM 34 8,[]),(qD 35 5 33 34,[0,1,2]),(qT 36 5 35,[0,1,2,3]),(zM 37 1,[]),(zA 38 (.Af 1 (.t 37) (some (kI 1)) none),[5]),(zM 39 2,[]),(q3 40 69 36 38 39,[0,1,2,3,4,5,6,7]),(zM 31 40,[0,1,2,3,4,5,6,7,8]),(qE 41 31 0,[0,1,2,3,4,5,6,7,8,9]),(qE 42 31 1,[0,1,2,3,4,5,6,7,8,9]),(qZ 10 12,[]),(qS 5 10 41,[0,1,2,3,4,5,6,7,8,9,10,12]),(zM 9 42,[0,1,2,3,4,5,6,7,8,9,10,11,12,13])] [3,6,8,9,10]) (.seq (qs [zM 43 9,qO 44 43] [3,6,8,10,44] (qc 44 (qr [zA 45 (.build zN []),qS 5 6 45,qB 7 false] [6,7]) .skip)) (qs [qT 46 5 3,q1 47 53 46,qZ 11 13,qS 5 11 47] [6,8,10,11] (qs [qA 48 4 11,qF 49 1 48,zM 50 8,qT 51 5 10,qD 52 5 49 50,qS 5 52 51] [6,11] (qr [qT 53 5 11,qS 5 6 53,qB 7 true] [6,7])))))))))
theorem K.eX : lK pZ 69 3 3 C.vJ [.cell 6 true 5,.tmp 7]=true:=by kernel_rfl
def C.kV : dD:=(qs [qX 2 10 0,qZ 4 11,qB 5 false] [1,2,4] (.seq (qs [zM 6 1,qO 7 6,zM 8 7,zG 8 false 9 (.load true 5 (.t 2)),⟨(some (8,false)),some 10,.call 36 [.t 9]⟩,zG 8 false 11 (.not (.t 10)),qQ 12 8 11] [2,4,12] (qc 12 (qr [zA 13 (.build zN []),qS 5 4 13,qB 5 false] [4,5]) .skip)) (qr [qT 14 5 2,qS 5 4 14,qB 5 true] [4,5])))
theorem K.kV : lK pZ 68 2 0 C.kV [.cell 4 true 5,.tmp 5]=true:=by kernel_rfl
def C.dS : dD:=(qs [qB 2 false] [0] (.seq (qs [zM 5 0,qL 6 5,qk 7 .gtr 6 5] [0,7] (qc 7 (qr [qB 2 false] [2]) .skip)) (.seq (qs [zM 8 0,qL 9 8,qI 10 0] [8,9,10] (.block 0 (.loop (qs [qb 11 .lss 10 9] [8,9,10,11] (.seq (qc 11 .skip (.exit 0)) (.seq (.block 1 (qs [qD 12 1 8 10,qF 13 1 12,zM 4 13] [4,8,9,10] (qs [zM 14 4,q1 15 96 14,qO 16 15] [8,9,10,16] (qc 16 (qr [qB 2 false] [2]) .skip)))) (.reg [qk 17 .add 10 1,zM 10 17] [8,9,10]))))))) (qr [qB 2 true] [2]))))
theorem K.dS : lK pZ 67 1 0 C.dS [.tmp 2]=true:=by kernel_rfl
def C.jv : dD:=(qs [qX 3 10 0,qX 4 11 1,qX 5 12 2,qZ 6 13,qB 7 false] [3,4,5,6] (.seq (qs [qT 9 5 3,q1 10 36 9,qO 11 10,zM 12 11,zG 12 false 13 (.load false 1 (.t 4)),⟨(some (12,false)),some 14,.call 67 [.t 13]⟩,zG 12 false 15 (.not (.t 14)),qQ 16 12 15,zM 17 16,zG 17 false 18 (.load true 5 (.t 5)),⟨(some (17,false)),some 19,.call 36 [.t 18]⟩,zG 17 false 20 (.not (.t 19)),qQ 21 17 20] [3,4,5,6,21] (qc 21 (qr [zA 22 (.build zN []),qS 5 6 22,qB 7 false] [6,7]) .skip)) (.seq (qs [qF 23 1 4,qL 24 23,qk 25 .eql 24 0] [3,4,5,6,25] (qc 25 (qr [qT 26 5 5,q1 27 53 26,qS 5 6 27,qB 7 true] [6,7]) .skip)) (qs [qF 28 1 4,qL 29 28,qk 30 .sub 29 1,zA 8 (.alloc 14 [cI' 0]),qU 1 8 30] [3,4,5,6,8] (.seq (.qp [(qT 31 5 3,[]),(qF 32 1 4,[]),(qF 33 1 8,[]),(zA 34 (.Af 1 (.t 32) none (some (.t 33))),[1,2]),(zA 35 (.Qy 70 [.t 4,.t 8,.t 5]),[]),(q3 36 69 31 34 35,[0,1,2,3,4]),(qE 37 36 0,[0,1,2,3,4,5]),(qE 38 36 1,[0,1,2,3,4,5]),(q2 39 68 37 38,[0,1,2,3,4,5,6,7]),(qE 40 39 0,[0,1,2,3,4,5,6,7,8]),(qE 41 39 1,[0,1,2,3,4,5,6,7,8]),(qS 5 6 40,[0,1,2,3,4,5,6,7,8,9,10]),(zM 7 41,[0,1,2,3,4,5,6,7,8,9,10,11])] [6,7]) .ret)))))
theorem K.jv : lK pZ 38 3 0 C.jv [.cell 6 true 5,.tmp 7]=true:=by kernel_rfl
def C.fQ : dD:=(qs [qX 2 10 0,qZ 4 11,qB 5 false] [1,2,4] (.seq (qs [zM 10 1,qL 11 10,qI 12 0] [2,4,10,11,12] (.block 0 (.loop (qs [qb 13 .lss 12 11] [2,4,10,11,12,13] (.seq (qc 13 .skip (.exit 0)) (.seq (.block 1 (qs [qD 14 1 10 12,qF 15 1 14,zM 7 15] [2,4,7,10,11,12] (qs [qT 17 5 2,zM 18 7,q2 19 73 17 18,zM 16 19,qE 20 16 0,qE 21 16 1,zM 8 20,zM 9 21] [2,4,8,9,10,11,12] (.seq (qs [zM 22 9,qO 23 22] [2,4,8,10,11,12,23] (qc 23 (qr [zA 24 (.build zN []),qS 5 4 24,qB 5 false] [4,5]) .skip)) (.reg [qA 25 4 2,qF 26 1 25,zM 27 8,qD 28 5 26 27,qT 29 5 28,qS 5 2 29] [2,4,10,11,12]))))) (.reg [qk 30 .add 12 1,zM 12 30] [2,4,10,11,12]))))))) (qr [qT 31 5 2,qS 5 4 31,qB 5 true] [4,5])))
theorem K.fQ : lK pZ 78 2 0 C.fQ [.cell 4 true 5,.tmp 5]=true:=by kernel_rfl
def C.lX : dD:=(qs [qX 2 10 0,qZ 4 11,qB 5 false] [1,2,4] (.seq (qs [qT 8 5 2,q1 9 36 8,qO 10 9,zM 11 10,qm 11 false 12 1,⟨(some (11,false)),some 13,.call 67 [.t 12]⟩,zG 11 false 14 (.not (.t 13)),qQ 15 11 14] [1,2,4,15] (qc 15 (qr [zA 16 (.build zN []),qS 5 4 16,qB 5 false] [4,5]) .skip)) (qs [qT 18 5 2,zM 19 1,q2 20 78 18 19,zM 17 20,qE 21 17 0,qE 22 17 1,qZ 6 12,qS 5 6 21,zM 7 22] [4,6,7] (.seq (qs [zM 23 7,qO 24 23] [4,6,24] (qc 24 (qr [zA 25 (.build zN []),qS 5 4 25,qB 5 false] [4,5]) .skip)) (qr [qT 26 5 6,q1 27 53 26,qS 5 4 27,qB 5 true] [4,5])))))
theorem K.lX : lK pZ 42 2 0 C.lX [.cell 4 true 5,.tmp 5]=true:=by kernel_rfl
def C.iO : dD:=C.del 5 80 [.lit (.int .i64 0),.lit (.int .i64 0),.str [],.sl 1 [],.sl 5 []]
theorem K.iO : FK pZ 75 3 1 C.iO [.tmp 6]=true:=by kernel_rfl
def C.slices_Delete_string : dD:=C.del 1 16 [.str []]
theorem K.slices_Delete_string : FK pZ 74 3 1 C.slices_Delete_string [.tmp 6]=true:=by kernel_rfl
def C.dZ : dD:=(qs [qX 3 10 0,qZ 4 11,qB 5 false] [1,2,3,4] (.seq (.qp [(qT 10 5 3,[]),(qF 11 1 1,[]),(qF 12 1 2,[]),(qD 13 1 11 12,[1,2]),(qF 14 1 13,[1,2,3]),(q2 15 73 10 14,[0,1,2,3,4]),(zM 9 15,[0,1,2,3,4,5]),(qE 16 9 0,[0,1,2,3,4,5,6]),(qE 17 9 1,[0,1,2,3,4,5,6]),(zM 6 16,[0,1,2,3,4,5,6,7]),(zM 7 17,[0,1,2,3,4,5,6,7,8,9])] [3,4,6,7]) (.seq (qs [zM 18 7,qO 19 18] [3,4,6,19] (qc 19 (qr [zA 20 (.build zN []),qS 5 4 20,qB 5 false] [4,5]) .skip)) (qs [qT 21 5 3,q1 22 53 21,qZ 8 12,qS 5 8 22] [3,4,6,8] (.cut (qs [qA 23 0 3,qF 24 1 23,qk 25 .eql 24 4] [4,6,8,25] (qc 25 (.reg [qA 26 3 8,qF 27 1 26,zM 28 6,zM 29 6,qk 30 .add 29 1,q3 31 74 27 28 30,qA 32 3 8,qU 1 32 31] [4,6,8]) .skip)) (qs [qA 33 4 8,qF 34 1 33,zM 35 6,zM 36 6,qk 37 .add 36 1,q3 38 75 34 35 37,qA 39 4 8,qU 1 39 38] [4,8] (qr [qT 40 5 8,qS 5 4 40,qB 5 true] [4,5])))))))
theorem K.dZ : lK pZ 72 3 2 C.dZ [.cell 4 true 5,.tmp 5]=true:=by kernel_rfl
theorem K.dN : lK pZ 69 3 2 C.vJ [.cell 6 true 5,.tmp 7]=true:=by kernel_rfl
def C.iF : dD:=(qs [qX 2 10 0,qX 3 11 1,qZ 4 12,qB 5 false] [2,3,4] (.seq (qs [qT 7 5 2,q1 8 36 7,qO 9 8,zM 10 9,zG 10 false 11 (.load false 1 (.t 3)),⟨(some (10,false)),some 12,.call 67 [.t 11]⟩,zG 10 false 13 (.not (.t 12)),qQ 14 10 13,zM 15 14,zG 15 false 16 (.load false 1 (.t 3)),zG 15 false 17 (.len (.t 16)),zG 15 false 18 (.bin .eql (.t 17) (kI 0)),qQ 19 15 18] [2,3,4,19] (qc 19 (qr [zA 20 (.build zN []),qS 5 4 20,qB 5 false] [4,5]) .skip)) (qs [qF 21 1 3,qL 22 21,qk 23 .sub 22 1,zA 6 (.alloc 13 [cI' 0]),qU 1 6 23] [2,3,4,6] (.seq (.qp [(qT 24 5 2,[]),(qF 25 1 3,[]),(qF 26 1 6,[]),(zA 27 (.Af 1 (.t 25) none (some (.t 26))),[1,2]),(zA 28 (.Qy 72 [.t 3,.t 6]),[]),(q3 29 69 24 27 28,[0,1,2,3,4]),(qE 30 29 0,[0,1,2,3,4,5]),(qE 31 29 1,[0,1,2,3,4,5]),(qS 5 4 30,[0,1,2,3,4,5,6,7]),(zM 5 31,[0,1,2,3,4,5,6,7,8])] [4,5]) .ret))))
theorem K.iF : lK pZ 39 2 0 C.iF [.cell 4 true 5,.tmp 5]=true:=by kernel_rfl
def C.mP : dD:=(qs [qX 2 10 0,qZ 3 11,qB 4 false] [1,3] (qr [qT 5 5 1,q1 6 53 5,qS 5 3 6,qB 4 true] [3,4]))
theorem K.mP : lK pZ 76 2 1 C.mP [.cell 3 true 5,.tmp 4]=true:=by kernel_rfl
theorem K.eY : lK pZ 69 3 1 C.vJ [.cell 6 true 5,.tmp 7]=true:=by kernel_rfl
def C.nC : dD:=(qs [qX 3 10 0,qX 5 11 2,qZ 6 12,qB 7 false] [1,3,5,6] (.seq (qs [qT 8 5 3,q1 9 36 8,qO 10 9,zM 11 10,qm 11 false 12 1,⟨(some (11,false)),some 13,.call 67 [.t 12]⟩,zG 11 false 14 (.not (.t 13)),qQ 15 11 14,zM 16 15,zG 16 false 17 (.load true 5 (.t 5)),⟨(some (16,false)),some 18,.call 36 [.t 17]⟩,zG 16 false 19 (.not (.t 18)),qQ 20 16 19] [1,3,5,6,20] (qc 20 (qr [zA 21 (.build zN []),qS 5 6 21,qB 7 false] [6,7]) .skip)) (qr [qT 22 5 3,zM 23 1,zA 24 (.Qy 76 [.t 5]),q3 25 69 22 23 24,qE 26 25 0,qE 27 25 1,q2 28 68 26 27,qE 29 28 0,qE 30 28 1,qS 5 6 29,zM 7 30] [6,7])))
theorem K.nC : lK pZ 40 3 0 C.nC [.cell 6 true 5,.tmp 7]=true:=by kernel_rfl
def C.nJ : dD:=(qs [qX 1 10 0,qB 2 false] [1] (qr [qA 3 0 1,qF 4 1 3,qk 5 .geq 4 1,zM 6 5,zG 6 true 7 (.ny 0 (.t 1)),zG 6 true 8 (.load false 1 (.t 7)),zG 6 true 9 (.bin .leq (.t 8) (kI 6)),qP 10 6 9,zM 11 10,zG 11 true 12 (.ny 1 (.t 1)),zG 11 true 13 (.load false 1 (.t 12)),⟨(some (11,true)),some 14,.call 67 [.t 13]⟩,qP 15 11 14,zM 16 15,zG 16 true 17 (.ny 2 (.t 1)),zG 16 true 18 (.load false 1 (.t 17)),⟨(some (16,true)),some 19,.call 67 [.t 18]⟩,qP 20 16 19,zM 21 20,zG 21 true 22 (.ny 3 (.t 1)),zG 21 true 23 (.load true 5 (.t 22)),⟨(some (21,true)),some 24,.call 36 [.t 23]⟩,qP 25 21 24,zM 2 25] [2]))
theorem K.nJ : lK pZ 37 1 0 C.nJ [.tmp 2]=true:=by kernel_rfl
def C.slices_Equal_string : dD:=(qs [qB 4 false] [0,1] (.seq (qs [zM 6 0,qL 7 6,zM 8 1,qL 9 8,qb 10 .neq 7 9] [0,1,10] (qc 10 (qr [qB 4 false] [4]) .skip)) (.seq (qs [zM 11 0,qL 12 11,qI 13 0] [0,1,12,13] (.block 0 (.loop (qs [qb 14 .lss 13 12] [0,1,12,13,14] (.seq (qc 14 .skip (.exit 0)) (.seq (.block 1 (qs [zM 15 13,zM 5 15] [0,1,5,12,13] (.seq (.qp [(zM 16 0,[]),(zM 17 5,[]),(qD 18 1 16 17,[0,1]),(qF 19 1 18,[0,1,2]),(zM 20 1,[]),(zM 21 5,[]),(qD 22 1 20 21,[4,5]),(qF 23 1 22,[4,5,6]),(qb 24 .neq 19 23,[0,1,2,3,4,5,6,7])] [0,1,12,13,24]) (qc 24 (qr [qB 4 false] [4]) .skip)))) (.reg [qk 25 .add 13 1,zM 13 25] [0,1,12,13]))))))) (qr [qB 4 true] [4]))))
theorem K.slices_Equal_string : lK pZ 77 2 0 C.slices_Equal_string [.tmp 4]=true:=by kernel_rfl
def C.lV : dD:=(qs [qX 3 10 0,qZ 6 11,qB 7 false] [1,2,3,6] (qs [qT 12 5 3,zM 13 1,q2 14 42 12 13,zM 11 14,qE 15 11 0,qE 16 11 1,qZ 8 12,qS 5 8 15,zM 9 16] [1,2,3,6,8,9] (.seq (qs [zM 17 9,qO 18 17] [1,2,3,6,8,18] (qc 18 (qr [zA 19 (.build zN []),qS 5 6 19,qB 7 false] [6,7]) .skip)) (.seq (qs [zM 20 2,zM 21 1,q2 22 77 20 21] [1,2,3,6,8,22] (qc 22 (qr [qT 23 5 3,q1 24 53 23,qS 5 6 24,qB 7 true] [6,7]) .skip)) (.seq (qs [zM 25 2,qL 26 25,zM 27 1,qL 28 27,qb 29 .gtr 26 28,zM 30 29,qm 30 true 31 2,qm 30 true 32 1,zG 30 true 33 (.len (.t 32)),zG 30 true 34 (.Af 1 (.t 31) none (some (.t 33))),qm 30 true 35 1,⟨(some (30,true)),some 36,.call 77 [.t 34,.t 35]⟩,qP 37 30 36] [1,2,3,6,8,37] (qc 37 (qr [zA 38 (.build zN []),qS 5 6 38,qB 7 false] [6,7]) .skip)) (qs [qT 40 5 3,zM 41 1,q2 42 39 40 41,zM 39 42,qE 43 39 0,qE 44 39 1,qZ 10 13,qS 5 10 43,zM 9 44] [2,6,8,9,10] (.seq (qs [zM 45 9,qO 46 45] [2,6,8,10,46] (qc 46 (qr [zA 47 (.build zN []),qS 5 6 47,qB 7 false] [6,7]) .skip)) (qr [qT 48 5 10,zM 49 2,qT 50 5 8,q3 51 38 48 49 50,qE 52 51 0,qE 53 51 1,qS 5 6 52,zM 7 53] [6,7]))))))))
theorem K.lV : lK pZ 41 3 0 C.lV [.cell 6 true 5,.tmp 7]=true:=by kernel_rfl
def C.dX : dD:=(qs [qI 4 0] [0,1] (qr [zM 5 0,zM 6 1,zA 7 (.XA (.t 5) (.t 6)),zM 4 7] [4]))
theorem K.dX : lK pZ 121 2 0 C.dX [.tmp 4]=true:=by kernel_rfl
def C.strings_Compare : dD:=(qs [qI 4 0] [0,1] (qr [zM 5 0,zM 6 1,q2 7 121 5 6,zM 4 7] [4]))
theorem K.strings_Compare : lK pZ 104 2 0 C.strings_Compare [.tmp 4]=true:=by kernel_rfl
def C.aZ : dD:=(qs [qX 2 10 0,qX 3 11 1,qI 4 0] [2,3] (.seq (qs [qA 11 0 2,qF 12 1 11,qA 13 0 3,qF 14 1 13,q2 15 103 12 14,zM 5 15] [2,3,5] (qs [zM 16 5,qk 17 .neq 16 0] [2,3,5,17] (qc 17 (qr [zM 18 5,zM 4 18] [4]) .skip))) (.seq (qs [qA 19 1 2,qF 20 1 19,qA 21 1 3,qF 22 1 21,q2 23 103 20 22,zM 6 23] [2,3,6] (qs [zM 24 6,qk 25 .neq 24 0] [2,3,6,25] (qc 25 (qr [zM 26 6,zM 4 26] [4]) .skip))) (.seq (qs [qA 27 2 2,qF 28 1 27,qA 29 2 3,qF 30 1 29,q2 31 104 28 30,zM 7 31] [2,3,7] (qs [zM 32 7,qk 33 .neq 32 0] [2,3,7,33] (qc 33 (qr [zM 34 7,zM 4 34] [4]) .skip))) (.seq (qs [qI 8 0] [2,3,8] (.block 0 (.loop (.seq (qs [zM 35 8,qA 36 4 2,qF 37 1 36,qL 38 37,qb 39 .lss 35 38,zM 40 39,qm 40 true 41 8,zG 40 true 42 (.ny 4 (.t 3)),zG 40 true 43 (.load false 1 (.t 42)),zG 40 true 44 (.len (.t 43)),zG 40 true 45 (.bin .lss (.t 41) (.t 44)),qP 46 40 45] [2,3,8,46] (qc 46 .skip (.exit 0))) (.seq (.block 1 (.cut (qs [qA 49 0 2,qF 50 1 49,qk 51 .eql 50 4] [2,3,8,51] (qc 51 (.seq (.qp [(qA 52 3 2,[]),(qF 53 1 52,[0]),(zM 54 8,[]),(qD 55 1 53 54,[0,1,2]),(qF 56 1 55,[0,1,2,3]),(qA 57 3 3,[]),(qF 58 1 57,[5]),(zM 59 8,[]),(qD 60 1 58 59,[5,6,7]),(qF 61 1 60,[5,6,7,8]),(q2 62 104 56 61,[0,1,2,3,4,5,6,7,8,9]),(zM 9 62,[0,1,2,3,4,5,6,7,8,9,10])] [2,3,8,9]) (qs [zM 63 9,qk 64 .neq 63 0] [2,3,8,9,64] (qc 64 (qr [zM 65 9,zM 4 65] [4]) .skip))) .skip)) (.seq (.qp [(qA 66 4 2,[]),(qF 67 1 66,[0]),(zM 68 8,[]),(qD 69 5 67 68,[0,1,2]),(qT 70 5 69,[0,1,2,3]),(qA 71 4 3,[]),(qF 72 1 71,[5]),(zM 73 8,[]),(qD 74 5 72 73,[5,6,7]),(qT 75 5 74,[5,6,7,8]),(q2 76 80 70 75,[0,1,2,3,4,5,6,7,8,9]),(zM 10 76,[0,1,2,3,4,5,6,7,8,9,10])] [2,3,8,10]) (qs [zM 77 10,qk 78 .neq 77 0] [2,3,8,10,78] (qc 78 (qr [zM 79 10,zM 4 79] [4]) .skip))))) (.reg [zM 47 8,qk 48 .add 47 1,zM 8 48] [2,3,8])))))) (qr [qA 80 4 2,qF 81 1 80,qL 82 81,qA 83 4 3,qF 84 1 83,qL 85 84,q2 86 103 82 85,zM 4 86] [4]))))))
theorem K.aZ : lK pZ 80 2 0 C.aZ [.tmp 4]=true:=by kernel_rfl
def C.lW : dD:=(qs [qX 2 10 0,qX 3 11 1,qB 4 false] [2,3] (qr [qT 5 5 2,qT 6 5 3,q2 7 80 5 6,qk 8 .eql 7 0,zM 4 8] [4]))
theorem K.lW : lK pZ 52 2 0 C.lW [.tmp 4]=true:=by kernel_rfl
def C.kM : dD:=(qs [qX 3 10 0,qX 5 11 2,qZ 6 12,qB 7 false] [1,3,5,6] (qs [qT 11 5 3,zM 12 1,q2 13 78 11 12,zM 10 13,qE 14 10 0,qE 15 10 1,qZ 8 13,qS 5 8 14,zM 9 15] [3,5,6,8,9] (.seq (qs [zM 16 9,qO 17 16,zM 18 17,zG 18 false 19 (.load true 5 (.t 8)),zG 18 false 20 (.load true 5 (.t 5)),⟨(some (18,false)),some 21,.call 52 [.t 19,.t 20]⟩,zG 18 false 22 (.not (.t 21)),qQ 23 18 22] [3,6,23] (qc 23 (qr [zA 24 (.build zN []),qS 5 6 24,qB 7 false] [6,7]) .skip)) (qr [qT 25 5 3,q1 26 53 25,qS 5 6 26,qB 7 true] [6,7]))))
theorem K.kM : lK pZ 43 3 0 C.kM [.cell 6 true 5,.tmp 7]=true:=by kernel_rfl
def C.jX : dD:=(qs [qX 2 10 0,qX 3 11 1,qZ 4 12,qB 5 false] [2,3,4] (.seq (qs [qT 8 5 2,q1 9 36 8,qO 10 9,zM 11 10,zG 11 false 12 (.load true 8 (.t 3)),⟨(some (11,false)),some 13,.call 37 [.t 12]⟩,zG 11 false 14 (.not (.t 13)),qQ 15 11 14] [2,3,4,15] (qc 15 (qr [zA 16 (.build zN []),qS 5 4 16,qB 5 false] [4,5]) .skip)) (.seq (qs [qA 17 0 3,qF 18 1 17] [2,3,4,18] (.block 0 (qs [qk 20 .eql 18 1,zM 19 20] [2,3,4,18,19] (qc 19 (qr [qT 21 5 2,qA 22 1 3,qF 23 1 22,qA 24 3 3,qT 25 5 24,q3 26 38 21 23 25,qE 27 26 0,qE 28 26 1,qS 5 4 27,zM 5 28] [4,5]) (qs [qk 30 .eql 18 2,zM 29 30] [2,3,4,18,29] (qc 29 (qr [qT 31 5 2,qA 32 1 3,qF 33 1 32,q2 34 39 31 33,qE 35 34 0,qE 36 34 1,qS 5 4 35,zM 5 36] [4,5]) (qs [qk 38 .eql 18 3,zM 37 38] [2,3,4,18,37] (qc 37 (qr [qT 39 5 2,qA 40 1 3,qF 41 1 40,qA 42 3 3,qT 43 5 42,q3 44 40 39 41 43,qE 45 44 0,qE 46 44 1,qS 5 4 45,zM 5 46] [4,5]) (qs [qk 48 .eql 18 4,zM 47 48] [2,3,4,18,47] (qc 47 (qr [qT 49 5 2,qA 50 2 3,qF 51 1 50,qA 52 1 3,qF 53 1 52,q3 54 41 49 51 53,qE 55 54 0,qE 56 54 1,qS 5 4 55,zM 5 56] [4,5]) (qs [qk 58 .eql 18 5,zM 57 58] [2,3,4,57] (qc 57 (qs [qT 60 5 2,qA 61 2 3,qF 62 1 61,q2 63 42 60 62,zM 59 63,qE 64 59 0,qE 65 59 1,qZ 6 13,qS 5 6 64,zM 7 65] [2,3,4,6,7] (.seq (qs [zM 66 7,qO 67 66] [2,3,4,6,67] (qc 67 (qr [zA 68 (.build zN []),qS 5 4 68,qB 5 false] [4,5]) .skip)) (qr [qT 69 5 2,qA 70 1 3,qF 71 1 70,qT 72 5 6,q3 73 38 69 71 72,qE 74 73 0,qE 75 73 1,qS 5 4 74,zM 5 75] [4,5]))) .skip)))))))))))) (qr [qT 76 5 2,qA 77 1 3,qF 78 1 77,qA 79 3 3,qT 80 5 79,q3 81 43 76 78 80,qE 82 81 0,qE 83 81 1,qS 5 4 82,zM 5 83] [4,5]))))
theorem K.jX : lK pZ 12 2 0 C.jX [.cell 4 true 5,.tmp 5]=true:=by kernel_rfl
def C.lS : dD:=(qs [qB 2 false] [0] (.seq (qs [zM 5 0,qL 6 5,qk 7 .gtr 6 12] [0,7] (qc 7 (qr [qB 2 false] [2]) .skip)) (.seq (qs [zM 8 0,qL 9 8,qI 10 0] [8,9,10] (.block 0 (.loop (qs [qb 11 .lss 10 9] [8,9,10,11] (.seq (qc 11 .skip (.exit 0)) (.seq (.block 1 (qs [qD 12 8 8 10,qT 13 8 12,zA 4 (.alloc 10 [cI' 0,.xh 1,.xh 1,cI' 0,cI' 0,.c (.str []),.xh 1,.xh 5]),qS 8 4 13] [4,8,9,10] (qs [qT 14 8 4,q1 15 37 14,qO 16 15] [8,9,10,16] (qc 16 (qr [qB 2 false] [2]) .skip)))) (.reg [qk 17 .add 10 1,zM 10 17] [8,9,10]))))))) (qr [qB 2 true] [2]))))
theorem K.lS : lK pZ 56 1 0 C.lS [.tmp 2]=true:=by kernel_rfl
def C.acp : dD:=(qs [qX 2 10 0,qZ 4 11,qI 5 0] [1,2,4] (qs [qT 11 5 2,q1 12 53 11,qZ 6 12,qS 5 6 12] [1,4,6] (.seq (qs [zM 13 1,qL 14 13,qI 15 0] [1,4,6,13,14,15] (.block 0 (.loop (qs [qb 16 .lss 15 14] [1,4,6,13,14,15,16] (.seq (qc 16 .skip (.exit 0)) (.seq (.block 1 (qs [zM 17 15,qD 18 8 13 15,qT 19 8 18,zA 8 (.alloc 13 [cI' 0,.xh 1,.xh 1,cI' 0,cI' 0,.c (.str []),.xh 1,.xh 5]),zM 7 17,qS 8 8 19] [1,4,6,7,8,13,14,15] (qs [qT 21 5 6,qT 22 8 8,q2 23 12 21 22,zM 20 23,qE 24 20 0,qE 25 20 1,qZ 9 14,qS 5 9 24,zM 10 25] [1,4,6,7,9,10,13,14,15] (.seq (qs [zM 26 10,qO 27 26] [1,4,6,7,9,13,14,15,27] (qc 27 (qr [zA 28 (.build zN []),zM 29 7,qS 5 4 28,zM 5 29] [4,5]) .skip)) (.reg [qT 30 5 9,qS 5 6 30] [1,4,6,13,14,15]))))) (.reg [qk 31 .add 15 1,zM 15 31] [1,4,6,13,14,15]))))))) (qr [qT 32 5 6,zM 33 1,qL 34 33,qS 5 4 32,zM 5 34] [4,5]))))
theorem K.acp : lK pZ 57 2 0 C.acp [.cell 4 true 5,.tmp 5]=true:=by kernel_rfl
def C.acr : dD:=(qs [qX 2 10 0,qZ 4 11,qB 5 false] [1,2,4] (.seq (qs [qT 8 5 2,q1 9 36 8,qO 10 9,zM 11 10,qm 11 false 12 1,⟨(some (11,false)),some 13,.call 56 [.t 12]⟩,zG 11 false 14 (.not (.t 13)),qQ 15 11 14] [1,2,4,15] (qc 15 (qr [zA 16 (.build zN []),qS 5 4 16,qB 5 false] [4,5]) .skip)) (qs [qT 18 5 2,zM 19 1,q2 20 57 18 19,zM 17 20,qE 21 17 0,qE 22 17 1,qZ 6 12,qS 5 6 21,zM 7 22] [1,4,6,7] (qr [qT 23 5 6,zM 24 7,zM 25 1,qL 26 25,qb 27 .eql 24 26,qS 5 4 23,zM 5 27] [4,5]))))
theorem K.acr : lK pZ 26 2 0 C.acr [.cell 4 true 5,.tmp 5]=true:=by kernel_rfl
def C.gG : dD:=(qs [qB 4 false] [0,1] (.seq (qs [zM 6 0,qL 7 6,zM 8 1,qL 9 8,qb 10 .neq 7 9] [0,1,10] (qc 10 (qr [qB 4 false] [4]) .skip)) (.seq (qs [qI 5 0] [0,1,5] (.block 0 (.loop (.seq (qs [zM 11 5,zM 12 0,qL 13 12,qb 14 .lss 11 13] [0,1,5,14] (qc 14 .skip (.exit 0))) (.seq (.block 1 (.seq (.qp [(zM 17 0,[]),(zM 18 5,[]),(qD 19 1 17 18,[0,1]),(qF 20 1 19,[0,1,2]),(zM 21 1,[]),(zM 22 5,[]),(qD 23 1 21 22,[4,5]),(qF 24 1 23,[4,5,6]),(qb 25 .neq 20 24,[0,1,2,3,4,5,6,7])] [0,1,5,25]) (qc 25 (qr [qB 4 false] [4]) .skip))) (.reg [zM 15 5,qk 16 .add 15 1,zM 5 16] [0,1,5])))))) (qr [qB 4 true] [4]))))
theorem K.gG : lK pZ 44 2 0 C.gG [.tmp 4]=true:=by kernel_rfl
def C.kE : dD:=(qs [qX 2 10 0,qX 3 11 1,qB 4 false] [2,3] (.seq (qs [qA 5 0 2,qF 6 1 5,qA 7 0 3,qF 8 1 7,qb 9 .neq 6 8] [2,3,9] (qc 9 (qr [qB 4 false] [4]) .skip)) (.seq (qs [qA 10 1 2,qF 11 1 10,qA 12 1 3,qF 13 1 12,qb 14 .neq 11 13] [2,3,14] (qc 14 (qr [qB 4 false] [4]) .skip)) (.seq (qs [qA 15 2 2,qF 16 1 15,qA 17 2 3,qF 18 1 17,qb 19 .neq 16 18] [2,3,19] (qc 19 (qr [qB 4 false] [4]) .skip)) (.seq (qs [qA 20 3 2,qF 21 1 20,qA 22 3 3,qF 23 1 22,q2 24 44 21 23,qO 25 24] [2,3,25] (qc 25 (qr [qB 4 false] [4]) .skip)) (.seq (qs [qA 26 4 2,qF 27 1 26,qA 28 4 3,qF 29 1 28,q2 30 45 27 29,qO 31 30] [31] (qc 31 (qr [qB 4 false] [4]) .skip)) (qr [qB 4 true] [4])))))))
theorem K.kE : lK pZ 13 2 0 C.kE [.tmp 4]=true:=by kernel_rfl
def C.jY : dD:=(qs [qB 4 false] [0,1] (.seq (qs [zM 6 0,qL 7 6,zM 8 1,qL 9 8,qb 10 .neq 7 9] [0,1,10] (qc 10 (qr [qB 4 false] [4]) .skip)) (.seq (qs [qI 5 0] [0,1,5] (.block 0 (.loop (.seq (qs [zM 11 5,zM 12 0,qL 13 12,qb 14 .lss 11 13] [0,1,5,14] (qc 14 .skip (.exit 0))) (.seq (.block 1 (.seq (.qp [(zM 17 0,[]),(zM 18 5,[]),(qD 19 5 17 18,[0,1]),(qT 20 5 19,[0,1,2]),(zM 21 1,[]),(zM 22 5,[]),(qD 23 5 21 22,[4,5]),(qT 24 5 23,[4,5,6]),(q2 25 13 20 24,[0,1,2,3,4,5,6,7]),(qO 26 25,[0,1,2,3,4,5,6,7,8])] [0,1,5,26]) (qc 26 (qr [qB 4 false] [4]) .skip))) (.reg [zM 15 5,qk 16 .add 15 1,zM 5 16] [0,1,5])))))) (qr [qB 4 true] [4]))))
theorem K.jY : lK pZ 45 2 0 C.jY [.tmp 4]=true:=by kernel_rfl
def C.tZ : dD:=(qs [qX 2 10 0,qX 3 11 1,qB 4 false] [2,3] (.seq (qs [qA 5 0 2,qF 6 1 5,qA 7 0 3,qF 8 1 7,qb 9 .neq 6 8] [2,3,9] (qc 9 (qr [qB 4 false] [4]) .skip)) (.seq (qs [qA 10 1 2,qF 11 1 10,qA 12 1 3,qF 13 1 12,q2 14 44 11 13,qO 15 14] [2,3,15] (qc 15 (qr [qB 4 false] [4]) .skip)) (.seq (qs [qA 16 2 2,qF 17 1 16,qA 18 2 3,qF 19 1 18,q2 20 44 17 19,qO 21 20] [2,3,21] (qc 21 (qr [qB 4 false] [4]) .skip)) (.seq (qs [qA 22 3 2,qT 23 5 22,qA 24 3 3,qT 25 5 24,q2 26 13 23 25,qO 27 26] [27] (qc 27 (qr [qB 4 false] [4]) .skip)) (qr [qB 4 true] [4]))))))
theorem K.tZ : lK pZ 14 2 0 C.tZ [.tmp 4]=true:=by kernel_rfl
def C.acO : dD:=(qs [qB 4 false] [0,1] (.seq (qs [zM 6 0,qL 7 6,zM 8 1,qL 9 8,qb 10 .neq 7 9] [0,1,10] (qc 10 (qr [qB 4 false] [4]) .skip)) (.seq (qs [qI 5 0] [0,1,5] (.block 0 (.loop (.seq (qs [zM 11 5,zM 12 0,qL 13 12,qb 14 .lss 11 13] [0,1,5,14] (qc 14 .skip (.exit 0))) (.seq (.block 1 (.seq (.qp [(zM 17 0,[]),(zM 18 5,[]),(qD 19 8 17 18,[0,1]),(qT 20 8 19,[0,1,2]),(zM 21 1,[]),(zM 22 5,[]),(qD 23 8 21 22,[4,5]),(qT 24 8 23,[4,5,6]),(q2 25 14 20 24,[0,1,2,3,4,5,6,7]),(qO 26 25,[0,1,2,3,4,5,6,7,8])] [0,1,5,26]) (qc 26 (qr [qB 4 false] [4]) .skip))) (.reg [zM 15 5,qk 16 .add 15 1,zM 5 16] [0,1,5])))))) (qr [qB 4 true] [4]))))
theorem K.acO : lK pZ 20 2 0 C.acO [.tmp 4]=true:=by kernel_rfl
def C.gu : dD:=(qs [zA 2 (.mv (.k (.c (.str []))))] [0] (.seq (qs [zM 4 0,qk 5 .leq 4 0] [0,5] (qc 5 (qr [zA 2 (.mv (.k (.c (.str [109,48]))))] [2]) .skip)) (qs [zA 3 (.mv (.k (.c (.str []))))] [0,3] (.seq (.block 0 (.loop (.seq (qs [zM 6 0,qk 7 .gtr 6 0] [0,3,7] (qc 7 .skip (.exit 0))) (.block 1 (qs [zM 8 0,qk 9 .rem 8 10,zA 10 (.bin .add (kI 48) (.t 9)),zA 11 (.N8 .u8 (.t 10)),zA 12 (.rH 10 1 1 [.lit (.int .u8 0)] [(0,.t 11)]),zA 13 (.P7 (.t 12)),zM 14 3,qb 15 .add 13 14,zM 3 15] [0,3] (.reg [zM 16 0,qk 17 .quo 16 10,zM 0 17] [0,3])))))) (qr [zM 18 3,zA 19 (.bin .add (.k (.c (.str [109]))) (.t 18)),zM 2 19] [2])))))
theorem K.gu : lK pZ 54 1 0 C.gu [.tmp 2]=true:=by kernel_rfl
def C.fE : dD:=(qs [qI 4 0] [0,1] (.seq (qs [qI 5 0] [0,1,5] (.block 0 (.loop (.seq (qs [zM 6 5,zM 7 0,qL 8 7,qb 9 .lss 6 8] [0,1,5,9] (qc 9 .skip (.exit 0))) (.seq (.block 1 (.seq (.seq (.qp [(zM 12 0,[]),(zM 13 5,[]),(qD 14 1 12 13,[0,1]),(qF 15 1 14,[0,1,2]),(zM 16 1,[]),(q1 17 54 16,[4]),(qb 18 .neq 15 17,[0,1,2,3,4,5])] [0,1,5,18]) (qc 18 (qr [qI 4 (-1)] [4]) .skip)) (.reg [zM 19 1,qk 20 .add 19 1,zM 1 20] [0,1,5]))) (.reg [zM 10 5,qk 11 .add 10 1,zM 5 11] [0,1,5])))))) (qr [zM 21 1,zM 4 21] [4])))
theorem K.fE : lK pZ 48 2 0 C.fE [.tmp 4]=true:=by kernel_rfl
def C.fV : dD:=(qs [qI 4 0] [0,1] (.seq (qs [qI 5 0] [0,1,5] (.block 0 (.loop (.seq (qs [zM 6 5,zM 7 0,qL 8 7,qb 9 .lss 6 8] [0,1,5,9] (qc 9 .skip (.exit 0))) (.seq (.block 1 (.seq (qs [zM 12 0,zM 13 5,qD 14 5 12 13,qA 15 0 14,qF 16 1 15,zM 17 1,qb 18 .neq 16 17] [0,1,5,18] (qc 18 (qr [qI 4 (-1)] [4]) .skip)) (qs [zM 19 1,qk 20 .add 19 1,zM 1 20] [0,1,5] (.seq (qs [zM 21 0,zM 22 5,qD 23 5 21 22,qA 24 1 23,qF 25 1 24,zM 26 1,qb 27 .neq 25 26] [0,1,5,27] (qc 27 (qr [qI 4 (-1)] [4]) .skip)) (qs [zM 28 1,qk 29 .add 28 1,zM 1 29] [0,1,5] (.seq (.seq (.qp [(zM 30 0,[]),(zM 31 5,[]),(qD 32 5 30 31,[0,1]),(qA 33 2 32,[0,1,2]),(qF 34 1 33,[0,1,2,3]),(zM 35 1,[]),(q1 36 54 35,[5]),(qb 37 .neq 34 36,[0,1,2,3,4,5,6])] [0,1,5,37]) (qc 37 (qr [qI 4 (-1)] [4]) .skip)) (qs [zM 38 1,qk 39 .add 38 1,zM 1 39] [0,1,5] (qs [zM 40 0,zM 41 5,qD 42 5 40 41,qA 43 3 42,qF 44 1 43,zM 45 1,q2 46 48 44 45,zM 1 46] [0,1,5] (.seq (qs [zM 47 1,qk 48 .lss 47 0] [0,1,5,48] (qc 48 (qr [qI 4 (-1)] [4]) .skip)) (qs [zM 49 0,zM 50 5,qD 51 5 49 50,qA 52 4 51,qF 53 1 52,zM 54 1,q2 55 49 53 54,zM 1 55] [0,1,5] (qs [zM 56 1,qk 57 .lss 56 0] [0,1,5,57] (qc 57 (qr [qI 4 (-1)] [4]) .skip)))))))))))) (.reg [zM 10 5,qk 11 .add 10 1,zM 5 11] [0,1,5])))))) (qr [zM 58 1,zM 4 58] [4])))
theorem K.fV : lK pZ 49 2 0 C.fV [.tmp 4]=true:=by kernel_rfl
def C.acS : dD:=(qs [qI 4 0] [0,1] (.seq (qs [qI 5 0] [0,1,5] (.block 0 (.loop (.seq (qs [zM 6 5,zM 7 0,qL 8 7,qb 9 .lss 6 8] [0,1,5,9] (qc 9 .skip (.exit 0))) (.seq (.block 1 (.seq (qs [zM 12 0,zM 13 5,qD 14 8 12 13,qA 15 0 14,qF 16 1 15,zM 17 1,qb 18 .neq 16 17] [0,1,5,18] (qc 18 (qr [qI 4 (-1)] [4]) .skip)) (qs [zM 19 1,qk 20 .add 19 1,zM 1 20] [0,1,5] (qs [zM 21 0,zM 22 5,qD 23 8 21 22,qA 24 1 23,qF 25 1 24,zM 26 1,q2 27 48 25 26,zM 1 27] [0,1,5] (.seq (qs [zM 28 1,qk 29 .lss 28 0] [0,1,5,29] (qc 29 (qr [qI 4 (-1)] [4]) .skip)) (qs [zM 30 0,zM 31 5,qD 32 8 30 31,qA 33 2 32,qF 34 1 33,zM 35 1,q2 36 48 34 35,zM 1 36] [0,1,5] (.seq (qs [zM 37 1,qk 38 .lss 37 0] [0,1,5,38] (qc 38 (qr [qI 4 (-1)] [4]) .skip)) (.seq (qs [zM 39 0,zM 40 5,qD 41 8 39 40,qA 42 3 41,qA 43 0 42,qF 44 1 43,zM 45 1,qb 46 .neq 44 45] [0,1,5,46] (qc 46 (qr [qI 4 (-1)] [4]) .skip)) (qs [zM 47 1,qk 48 .add 47 1,zM 1 48] [0,1,5] (.seq (qs [zM 49 0,zM 50 5,qD 51 8 49 50,qA 52 3 51,qA 53 1 52,qF 54 1 53,zM 55 1,qb 56 .neq 54 55] [0,1,5,56] (qc 56 (qr [qI 4 (-1)] [4]) .skip)) (qs [zM 57 1,qk 58 .add 57 1,zM 1 58] [0,1,5] (.seq (.seq (.qp [(zM 59 0,[]),(zM 60 5,[]),(qD 61 8 59 60,[0,1]),(qA 62 3 61,[0,1,2]),(qA 63 2 62,[0,1,2,3]),(qF 64 1 63,[0,1,2,3,4]),(zM 65 1,[]),(q1 66 54 65,[6]),(qb 67 .neq 64 66,[0,1,2,3,4,5,6,7])] [0,1,5,67]) (qc 67 (qr [qI 4 (-1)] [4]) .skip)) (qs [zM 68 1,qk 69 .add 68 1,zM 1 69] [0,1,5] (qs [zM 70 0,zM 71 5,qD 72 8 70 71,qA 73 3 72,qA 74 3 73,qF 75 1 74,zM 76 1,q2 77 48 75 76,zM 1 77] [0,1,5] (.seq (qs [zM 78 1,qk 79 .lss 78 0] [0,1,5,79] (qc 79 (qr [qI 4 (-1)] [4]) .skip)) (qs [zM 80 0,zM 81 5,qD 82 8 80 81,qA 83 3 82,qA 84 4 83,qF 85 1 84,zM 86 1,q2 87 49 85 86,zM 1 87] [0,1,5] (qs [zM 88 1,qk 89 .lss 88 0] [0,1,5,89] (qc 89 (qr [qI 4 (-1)] [4]) .skip)))))))))))))))))) (.reg [zM 10 5,qk 11 .add 10 1,zM 5 11] [0,1,5])))))) (qr [zM 90 1,zM 4 90] [4])))
theorem K.acS : lK pZ 22 2 0 C.acS [.tmp 4]=true:=by kernel_rfl
def C.fJ : dD:=(qs [qI 4 0] [0,1] (qs [zM 6 1,zM 7 0,qL 8 7,qb 9 .sub 6 8,zM 1 9] [0,1] (.seq (qs [zM 10 1,qk 11 .lss 10 0] [0,1,11] (qc 11 (qr [qI 4 (-1)] [4]) .skip)) (.seq (qs [qI 5 0] [0,1,5] (.block 0 (.loop (.seq (qs [zM 12 5,zM 13 0,qL 14 13,qb 15 .lss 12 14] [0,1,5,15] (qc 15 .skip (.exit 0))) (.seq (.block 1 (qs [zM 18 1,zM 19 0,zM 20 5,qD 21 1 19 20,qF 22 1 21,ql 23 22,qb 24 .sub 18 23,zM 1 24] [0,1,5] (qs [zM 25 1,qk 26 .lss 25 0] [0,1,5,26] (qc 26 (qr [qI 4 (-1)] [4]) .skip)))) (.reg [zM 16 5,qk 17 .add 16 1,zM 5 17] [0,1,5])))))) (qr [zM 27 1,zM 4 27] [4])))))
theorem K.fJ : lK pZ 29 2 0 C.fJ [.tmp 4]=true:=by kernel_rfl
def C.jE : dD:=(qs [qX 2 10 0,qI 4 0] [1,2] (qs [zM 5 1,qA 6 2 2,qF 7 1 6,ql 8 7,qb 9 .sub 5 8,zM 1 9] [1,2] (.seq (qs [zM 10 1,qk 11 .lss 10 0] [1,2,11] (qc 11 (qr [qI 4 (-1)] [4]) .skip)) (qs [qA 12 3 2,qF 13 1 12,zM 14 1,q2 15 29 13 14,zM 1 15] [1,2] (.seq (qs [zM 16 1,qk 17 .lss 16 0] [1,2,17] (qc 17 (qr [qI 4 (-1)] [4]) .skip)) (qs [qA 18 4 2,qF 19 1 18,zM 20 1,q2 21 30 19 20,zM 1 21] [1] (.seq (qs [zM 22 1,qk 23 .lss 22 0] [1,23] (qc 23 (qr [qI 4 (-1)] [4]) .skip)) (qr [zM 24 1,zM 4 24] [4]))))))))
theorem K.jE : lK pZ 7 2 0 C.jE [.tmp 4]=true:=by kernel_rfl
def C.jy : dD:=(qs [qI 4 0] [0,1] (qs [zM 6 1,zM 7 0,qL 8 7,qb 9 .sub 6 8,zM 1 9] [0,1] (.seq (qs [zM 10 1,qk 11 .lss 10 0] [0,1,11] (qc 11 (qr [qI 4 (-1)] [4]) .skip)) (.seq (qs [qI 5 0] [0,1,5] (.block 0 (.loop (.seq (qs [zM 12 5,zM 13 0,qL 14 13,qb 15 .lss 12 14] [0,1,5,15] (qc 15 .skip (.exit 0))) (.seq (.block 1 (qs [zM 18 0,zM 19 5,qD 20 5 18 19,qT 21 5 20,zM 22 1,q2 23 7 21 22,zM 1 23] [0,1,5] (qs [zM 24 1,qk 25 .lss 24 0] [0,1,5,25] (qc 25 (qr [qI 4 (-1)] [4]) .skip)))) (.reg [zM 16 5,qk 17 .add 16 1,zM 5 17] [0,1,5])))))) (qr [zM 26 1,zM 4 26] [4])))))
theorem K.jy : lK pZ 30 2 0 C.jy [.tmp 4]=true:=by kernel_rfl
def C.oM : dD:=(qs [qX 2 10 0,qI 4 0] [1,2] (qs [qA 5 1 2,qF 6 1 5,zM 7 1,q2 8 29 6 7,zM 1 8] [1,2] (.seq (qs [zM 9 1,qk 10 .lss 9 0] [1,2,10] (qc 10 (qr [qI 4 (-1)] [4]) .skip)) (qs [qA 11 2 2,qF 12 1 11,zM 13 1,q2 14 29 12 13,zM 1 14] [1,2] (.seq (qs [zM 15 1,qk 16 .lss 15 0] [1,2,16] (qc 16 (qr [qI 4 (-1)] [4]) .skip)) (qs [qA 17 3 2,qT 18 5 17,zM 19 1,q2 20 7 18 19,zM 1 20] [1] (.seq (qs [zM 21 1,qk 22 .lss 21 0] [1,22] (qc 22 (qr [qI 4 (-1)] [4]) .skip)) (qr [zM 23 1,zM 4 23] [4]))))))))
theorem K.oM : lK pZ 8 2 0 C.oM [.tmp 4]=true:=by kernel_rfl
def C.gI : dD:=(qs [zA 2 (.mv (.k (.xh 1)))] [0] (qs [zM 5 0,qL 6 5,zA 7 (.makes 10 1 16 [.str []] (.t 6) (.t 6)),zM 3 7] [0,3] (.seq (qs [qI 4 0] [0,3,4] (.block 0 (.loop (.seq (qs [zM 8 4,zM 9 0,qL 10 9,qb 11 .lss 8 10] [0,3,4,11] (qc 11 .skip (.exit 0))) (.seq (.block 1 (.reg [zM 14 3,zM 15 4,zM 16 0,zM 17 4,qD 18 1 16 17,qF 19 1 18,qD 20 1 14 15,qU 1 20 19] [0,3,4])) (.reg [zM 12 4,qk 13 .add 12 1,zM 4 13] [0,3,4])))))) (qr [zM 21 3,zM 2 21] [2]))))
theorem K.gI : lK pZ 34 1 0 C.gI [.tmp 2]=true:=by kernel_rfl
def C.kW : dD:=(qs [qX 1 10 0,qZ 2 11] [1,2] (qs [qZ 3 12] [1,2,3] (qs [qA 4 0 1,qF 5 1 4,qA 6 0 3,qU 1 6 5] [1,2,3] (qs [qA 7 1 1,qF 8 1 7,qA 9 1 3,qU 1 9 8] [1,2,3] (qs [qA 10 2 1,qF 11 1 10,qA 12 2 3,qU 1 12 11] [1,2,3] (qs [qA 13 3 1,qF 14 1 13,q1 15 34 14,qA 16 3 3,qU 1 16 15] [1,2,3] (qs [qA 17 4 1,qF 18 1 17,q1 19 35 18,qA 20 4 3,qU 1 20 19] [2,3] (qr [qT 21 5 3,qS 5 2 21] [2]))))))))
theorem K.kW : lK pZ 10 1 0 C.kW [.cell 2 true 5]=true:=by kernel_rfl
def C.jZ : dD:=(qs [zA 2 (.mv (.k (.xh 5)))] [0] (qs [zM 5 0,qL 6 5,zA 7 (.makes 10 5 80 [.lit (.int .i64 0),.lit (.int .i64 0),.str [],.sl 1 [],.sl 5 []] (.t 6) (.t 6)),zM 3 7] [0,3] (.seq (qs [qI 4 0] [0,3,4] (.block 0 (.loop (.seq (qs [zM 8 4,zM 9 0,qL 10 9,qb 11 .lss 8 10] [0,3,4,11] (qc 11 .skip (.exit 0))) (.seq (.block 1 (.reg [zM 14 3,zM 15 4,zM 16 0,zM 17 4,qD 18 5 16 17,qT 19 5 18,q1 20 10 19,qD 21 5 14 15,qS 5 21 20] [0,3,4])) (.reg [zM 12 4,qk 13 .add 12 1,zM 4 13] [0,3,4])))))) (qr [zM 22 3,zM 2 22] [2]))))
theorem K.jZ : lK pZ 35 1 0 C.jZ [.tmp 2]=true:=by kernel_rfl
def C.ry : dD:=(qs [qX 1 10 0,zA 2 (.alloc 11 [cI' 0,.xh 1,.xh 1,cI' 0,cI' 0,.c (.str []),.xh 1,.xh 5])] [1,2] (qs [zA 3 (.alloc 12 [cI' 0,.xh 1,.xh 1,cI' 0,cI' 0,.c (.str []),.xh 1,.xh 5])] [1,2,3] (qs [qA 4 0 1,qF 5 1 4,qA 6 0 3,qU 1 6 5] [1,2,3] (qs [qA 7 1 1,qF 8 1 7,q1 9 34 8,qA 10 1 3,qU 1 10 9] [1,2,3] (qs [qA 11 2 1,qF 12 1 11,q1 13 34 12,qA 14 2 3,qU 1 14 13] [1,2,3] (qs [qA 15 3 1,qT 16 5 15,q1 17 10 16,qA 18 3 3,qS 5 18 17] [2,3] (qr [qT 19 8 3,qS 8 2 19] [2])))))))
theorem K.ry : lK pZ 11 1 0 C.ry [.cell 2 true 8]=true:=by kernel_rfl
def C.bC : dD:=(qs [qX 1 10 0,qZ 2 11] [1,2] (qs [zA 5 (.rH 12 5 0 [.lit (.int .i64 0),.lit (.int .i64 0),.str [],.sl 1 [],.sl 5 []] []),zM 3 5] [1,2,3] (.seq (qs [qI 4 0] [1,2,3,4] (.block 0 (.loop (.seq (qs [zM 6 4,qA 7 4 1,qF 8 1 7,qL 9 8,qb 10 .lss 6 9] [1,2,3,4,10] (qc 10 .skip (.exit 0))) (.seq (.block 1 (.reg [zM 13 3,qA 14 4 1,qF 15 1 14,zM 16 4,qD 17 5 15 16,qT 18 5 17,q1 19 51 18,zA 20 (.rH 13 5 1 [.lit (.int .i64 0),.lit (.int .i64 0),.str [],.sl 1 [],.sl 5 []] [(0,.t 19)]),zA 21 (.append 14 5 80 (.t 13) (.t 20)),zM 3 21] [1,2,3,4])) (.reg [zM 11 4,qk 12 .add 11 1,zM 4 12] [1,2,3,4])))))) (.seq (.qp [(qA 22 0 1,[]),(qF 23 1 22,[0]),(qA 24 1 1,[]),(qF 25 1 24,[2]),(qA 26 2 1,[]),(qF 27 1 26,[4]),(zA 28 (.rH 15 1 0 [.str []] []),[]),(qA 29 3 1,[]),(qF 30 1 29,[7]),(zA 31 (.append 16 1 16 (.t 28) (.t 30)),[6,7,8]),(zM 32 3,[]),(zA 33 (.build zN [(0,1,.t 23),(1,1,.t 25),(2,1,.t 27),(3,1,.t 31),(4,1,.t 32)]),[0,1,2,3,4,5,6,7,8,9,10]),(qS 5 2 33,[0,1,2,3,4,5,6,7,8,9,10,11])] [2]) .ret))))
theorem K.bC : lK pZ 51 1 0 C.bC [.cell 2 true 5]=true:=by kernel_rfl
def C.ji : dD:=(qs [zA 2 (.mv (.k (.c (.str []))))] [0] (.seq (qs [zM 3 0,qk 4 .lss 3 0,zM 5 4,qm 5 true 6 0,qm 5 true 7 0,zG 5 true 8 (.neg (.t 7)),zG 5 true 9 (.bin .eql (.t 6) (.t 8)),qP 10 5 9] [0,10] (qc 10 (qr [zA 2 (.mv (.k (.c (.str [45,57,50,50,51,51,55,50,48,51,54,56,53,52,55,55,53,56,48,56]))))] [2]) .skip)) (.seq (qs [zM 11 0,qk 12 .lss 11 0] [0,12] (qc 12 (qr [zM 13 0,zA 14 (.neg (.t 13)),q1 15 107 14,zA 16 (.bin .add (.k (.c (.str [45]))) (.t 15)),zM 2 16] [2]) .skip)) (.seq (qs [zM 17 0,qk 18 .lss 17 10] [0,18] (qc 18 (qr [zM 19 0,zA 20 (.bin .add (kI 48) (.t 19)),zA 21 (.N8 .u8 (.t 20)),zA 22 (.rH 10 1 1 [.lit (.int .u8 0)] [(0,.t 21)]),zA 23 (.P7 (.t 22)),zM 2 23] [2]) .skip)) (.seq (.qp [(zM 24 0,[]),(qk 25 .quo 24 10,[0]),(q1 26 107 25,[0,1]),(zM 27 0,[]),(qk 28 .rem 27 10,[3]),(zA 29 (.bin .add (kI 48) (.t 28)),[3,4]),(zA 30 (.N8 .u8 (.t 29)),[3,4,5]),(zA 31 (.rH 11 1 1 [.lit (.int .u8 0)] [(0,.t 30)]),[3,4,5,6]),(zA 32 (.P7 (.t 31)),[3,4,5,6,7]),(qb 33 .add 26 32,[0,1,2,3,4,5,6,7,8]),(zM 2 33,[0,1,2,3,4,5,6,7,8,9])] [2]) .ret)))))
theorem K.ji : lK pZ 107 1 0 C.ji [.tmp 2]=true:=by kernel_rfl
def C.fO : dD:=(qs [qX 2 10 0,qI 4 0] [1,2] (.seq (qs [qI 5 0] [1,2,5] (.block 0 (.loop (.seq (qs [zM 6 5,qA 7 4 2,qF 8 1 7,qL 9 8,qb 10 .lss 6 9] [1,2,5,10] (qc 10 .skip (.exit 0))) (.seq (.block 1 (qs [qA 13 0 2,qF 14 1 13,qk 15 .eql 14 4,zM 16 15,zG 16 true 17 (.ny 3 (.t 2)),zG 16 true 18 (.load false 1 (.t 17)),qm 16 true 19 5,zG 16 true 20 (.uT 1 (.t 18) (.t 19)),zG 16 true 21 (.load false 1 (.t 20)),qm 16 true 22 1,zG 16 true 23 (.bin .eql (.t 21) (.t 22)),qP 24 16 23,zM 25 24,zG 25 false 26 (.ny 0 (.t 2)),zG 25 false 27 (.load false 1 (.t 26)),zG 25 false 28 (.bin .eql (.t 27) (kI 3)),qm 25 false 29 28,qm 29 true 30 5,⟨(some (29,true)),some 31,.call 107 [.t 30]⟩,qm 29 true 32 1,zG 29 true 33 (.bin .eql (.t 31) (.t 32)),zG 25 false 34 (.pick (.t 29) (.t 33) (kB false)),qQ 35 25 34] [1,2,5,35] (qc 35 (qr [zM 36 5,zM 4 36] [4]) .skip))) (.reg [zM 11 5,qk 12 .add 11 1,zM 5 12] [1,2,5])))))) (qr [qI 4 (-1)] [4])))
theorem K.fO : lK pZ 105 2 0 C.fO [.tmp 4]=true:=by kernel_rfl
def C.iI : dD:=(qs [qX 2 10 0,qI 4 0,qB 5 false] [1,2] (qs [qT 8 5 2,zM 9 1,q2 10 105 8 9,zM 6 10] [1,2,6] (.seq (qs [zM 11 6,qk 12 .geq 11 0] [1,2,6,12] (qc 12 (.seq (.qp [(zM 13 6,[]),(qA 14 0 2,[]),(qF 15 1 14,[1]),(qk 16 .eql 15 4,[1,2]),(zM 4 13,[0]),(zM 5 16,[0,1,2,3,4])] [4,5]) .ret) .skip)) (.seq (qs [qA 17 0 2,qF 18 1 17,qk 19 .eql 18 3,zM 20 19,qm 20 true 21 1,zG 20 true 22 (.bin .eql (.t 21) (.k (.c (.str [45])))),qm 20 true 23 22,qm 23 false 24 1,zG 23 false 25 (.ny 4 (.t 2)),zG 23 false 26 (.load false 1 (.t 25)),zG 23 false 27 (.len (.t 26)),⟨(some (23,false)),some 28,.call 107 [.t 27]⟩,zG 23 false 29 (.bin .eql (.t 24) (.t 28)),zG 20 true 30 (.pick (.t 23) (kB true) (.t 29)),qP 31 20 30] [1,2,31] (qc 31 (qr [qA 32 4 2,qF 33 1 32,qL 34 33,zM 4 34,qB 5 false] [4,5]) .skip)) (.seq (qs [qI 7 0] [1,2,7] (.block 0 (.loop (.seq (qs [qA 35 0 2,qF 36 1 35,qk 37 .eql 36 4,zM 38 37,qm 38 true 39 7,zG 38 true 40 (.ny 4 (.t 2)),zG 38 true 41 (.load false 1 (.t 40)),zG 38 true 42 (.len (.t 41)),zG 38 true 43 (.bin .leq (.t 39) (.t 42)),qP 44 38 43] [1,2,7,44] (qc 44 .skip (.exit 0))) (.seq (.block 1 (qs [zM 47 7,qA 48 4 2,qF 49 1 48,qL 50 49,qb 51 .eql 47 50,zM 52 51,qm 52 false 53 1,zG 52 false 54 (.ny 3 (.t 2)),zG 52 false 55 (.load false 1 (.t 54)),qm 52 false 56 7,zG 52 false 57 (.uT 1 (.t 55) (.t 56)),zG 52 false 58 (.load false 1 (.t 57)),zG 52 false 59 (.bin .lss (.t 53) (.t 58)),qQ 60 52 59] [1,2,7,60] (qc 60 (qr [zM 61 7,zM 4 61,qB 5 false] [4,5]) .skip))) (.reg [zM 45 7,qk 46 .add 45 1,zM 7 46] [1,2,7])))))) (qr [qI 4 (-1),qB 5 false] [4,5]))))))
theorem K.iI : lK pZ 122 2 0 C.iI [.tmp 4,.tmp 5]=true:=by kernel_rfl
def C.kZ : dD:=(qs [qX 3 10 0,qX 5 11 2,qZ 6 12] [1,3,5,6] (qs [qT 8 5 3,q1 9 51 8,qZ 7 13,qS 5 7 9] [1,5,6,7] (.seq (.qp [(qA 10 4 7,[]),(qF 11 1 10,[0]),(zM 12 1,[]),(qT 13 5 5,[]),(q1 14 51 13,[3]),(qD 15 5 11 12,[0,1,2,3,4]),(qS 5 15 14,[0,1,2,3,4,5])] [6,7]) (qr [qT 16 5 7,qS 5 6 16] [6]))))
theorem K.kZ : lK pZ 111 3 0 C.kZ [.cell 6 true 5]=true:=by kernel_rfl
def C.nD : dD:=(qs [qX 3 10 0,qX 5 11 2,qZ 6 12,qB 7 false] [1,3,5,6] (qs [qT 14 5 3,zM 15 1,q2 16 122 14 15,zM 13 16,qE 17 13 0,qE 18 13 1,zM 8 17,zM 9 18] [1,3,5,6,8,9] (.seq (qs [zM 19 8,qk 20 .lss 19 0] [1,3,5,6,8,9,20] (qc 20 (qr [zA 21 (.build zN []),qS 5 6 21,qB 7 false] [6,7]) .skip)) (.seq (qs [zM 22 9] [1,3,5,6,8,22] (qc 22 (qr [qT 23 5 3,zM 24 8,qT 25 5 5,q3 26 111 23 24 25,qS 5 6 26,qB 7 true] [6,7]) .skip)) (qs [qT 27 5 3,q1 28 51 27,qZ 10 13,qS 5 10 28] [1,3,5,6,8,10] (.seq (.qp [(zA 29 (.rH 14 5 0 [.lit (.int .i64 0),.lit (.int .i64 0),.str [],.sl 1 [],.sl 5 []] []),[]),(qA 30 4 10,[]),(qF 31 1 30,[1]),(zM 32 8,[]),(zA 33 (.Af 5 (.t 31) none (some (.t 32))),[1,2,3]),(zA 34 (.append 15 5 80 (.t 29) (.t 33)),[0,1,2,3,4]),(qT 35 5 5,[]),(q1 36 51 35,[0,1,2,3,4,5,6]),(zA 37 (.rH 16 5 1 [.lit (.int .i64 0),.lit (.int .i64 0),.str [],.sl 1 [],.sl 5 []] [(0,.t 36)]),[0,1,2,3,4,5,6,7]),(zA 38 (.append 17 5 80 (.t 34) (.t 37)),[0,1,2,3,4,5,6,7,8]),(zM 11 38,[0,1,2,3,4,5,6,7,8,9])] [1,3,6,8,10,11]) (qs [zM 39 11,qA 40 4 10,qF 41 1 40,zM 42 8,zA 43 (.Af 5 (.t 41) (some (.t 42)) none),zA 44 (.append 18 5 80 (.t 39) (.t 43)),zM 11 44] [1,3,6,8,10,11] (.seq (qs [qA 45 0 3,qF 46 1 45,qk 47 .eql 46 3] [1,3,6,8,10,11,47] (qc 47 (qr [qA 48 0 3,qF 49 1 48,zA 50 (.rH 19 1 0 [.str []] []),zM 51 11,zA 52 (.build zN [(0,1,.t 49),(3,1,.t 50),(4,1,.t 51)]),qS 5 6 52,qB 7 true] [6,7]) .skip)) (qs [zA 53 (.rH 20 1 0 [.str []] []),qA 54 3 10,qF 55 1 54,zM 56 8,zA 57 (.Af 1 (.t 55) none (some (.t 56))),zA 58 (.append 21 1 16 (.t 53) (.t 57)),zM 59 1,zA 60 (.rH 22 1 1 [.str []] [(0,.t 59)]),zA 61 (.append 23 1 16 (.t 58) (.t 60)),zM 12 61] [3,6,8,10,11,12] (qs [zM 62 12,qA 63 3 10,qF 64 1 63,zM 65 8,zA 66 (.Af 1 (.t 64) (some (.t 65)) none),zA 67 (.append 24 1 16 (.t 62) (.t 66)),zM 12 67] [3,6,11,12] (qr [qA 68 0 3,qF 69 1 68,zM 70 12,zM 71 11,zA 72 (.build zN [(0,1,.t 69),(3,1,.t 70),(4,1,.t 71)]),qS 5 6 72,qB 7 true] [6,7])))))))))))
theorem K.nD : lK pZ 110 3 0 C.nD [.cell 6 true 5,.tmp 7]=true:=by kernel_rfl
def C.mD : dD:=(qs [qX 2 10 0,qZ 4 11,qB 5 false] [1,2,4] (.seq (qs [qI 6 0] [1,2,4,6] (.block 0 (.loop (.seq (qs [zM 8 6,zM 9 1,qL 10 9,qb 11 .lss 8 10] [1,2,4,6,11] (qc 11 .skip (.exit 0))) (.seq (.block 1 (.seq (.qp [(qT 14 5 2,[]),(zM 15 1,[]),(zM 16 6,[]),(qD 17 1 15 16,[1,2]),(qF 18 1 17,[1,2,3]),(q2 19 105 14 18,[0,1,2,3,4]),(zM 7 19,[0,1,2,3,4,5])] [1,2,4,6,7]) (.seq (qs [zM 20 7,qk 21 .lss 20 0] [1,2,4,6,7,21] (qc 21 (qr [zA 22 (.build zN []),qS 5 4 22,qB 5 false] [4,5]) .skip)) (.reg [qA 23 4 2,qF 24 1 23,zM 25 7,qD 26 5 24 25,qT 27 5 26,qS 5 2 27] [1,2,4,6])))) (.reg [zM 12 6,qk 13 .add 12 1,zM 6 13] [1,2,4,6])))))) (qr [qT 28 5 2,q1 29 51 28,qS 5 4 29,qB 5 true] [4,5])))
theorem K.mD : lK pZ 93 2 0 C.mD [.cell 4 true 5,.tmp 5]=true:=by kernel_rfl
def C.jQ : dD:=(qs [qX 3 10 0,qX 5 11 2,qZ 6 12,qB 7 false] [1,3,5,6] (.seq (qs [zM 11 1,qL 12 11,qk 13 .eql 12 0] [1,3,5,6,13] (qc 13 (qr [qT 14 5 5,q1 15 51 14,qS 5 6 15,qB 7 true] [6,7]) .skip)) (.seq (.qp [(qT 16 5 3,[]),(zM 17 1,[]),(zA 18 (.uT 1 (.t 17) (kI 0)),[1]),(qF 19 1 18,[1,2]),(q2 20 105 16 19,[0,1,2,3]),(zM 8 20,[0,1,2,3,4])] [1,3,5,6,8]) (.seq (qs [zM 21 8,qk 22 .lss 21 0] [1,3,5,6,8,22] (qc 22 (qr [zA 23 (.build zN []),qS 5 6 23,qB 7 false] [6,7]) .skip)) (.seq (.qp [(qA 25 4 3,[]),(qF 26 1 25,[0]),(zM 27 8,[]),(qD 28 5 26 27,[0,1,2]),(qT 29 5 28,[0,1,2,3]),(zM 30 1,[]),(zA 31 (.Af 1 (.t 30) (some (kI 1)) none),[5]),(qT 32 5 5,[]),(q3 33 92 29 31 32,[0,1,2,3,4,5,6,7]),(zM 24 33,[0,1,2,3,4,5,6,7,8]),(qE 34 24 0,[0,1,2,3,4,5,6,7,8,9]),(qE 35 24 1,[0,1,2,3,4,5,6,7,8,9]),(qZ 9 13,[]),(qS 5 9 34,[0,1,2,3,4,5,6,7,8,9,10,12]),(zM 10 35,[0,1,2,3,4,5,6,7,8,9,10,11,12,13])] [3,6,8,9,10]) (.seq (qs [zM 36 10,qO 37 36] [3,6,8,9,37] (qc 37 (qr [zA 38 (.build zN []),qS 5 6 38,qB 7 false] [6,7]) .skip)) (qr [qT 39 5 3,zM 40 8,qT 41 5 9,q3 42 111 39 40 41,qS 5 6 42,qB 7 true] [6,7])))))))
theorem K.jQ : lK pZ 92 3 0 C.jQ [.cell 6 true 5,.tmp 7]=true:=by kernel_rfl
def C.mZ : dD:=(qs [qX 3 10 0,qX 5 11 2,qZ 6 12,qB 7 false] [1,3,5,6] (.seq (qs [zM 13 1,qL 14 13,qk 15 .eql 14 0] [1,3,5,6,15] (qc 15 (qr [qT 16 5 5,q1 17 51 16,qS 5 6 17,qB 7 true] [6,7]) .skip)) (qs [zM 18 1,qL 19 18,qk 20 .sub 19 1,zM 8 20] [1,3,5,6,8] (.seq (.qp [(qT 22 5 3,[]),(zM 23 1,[]),(zM 24 8,[]),(zA 25 (.Af 1 (.t 23) none (some (.t 24))),[1,2]),(q2 26 93 22 25,[0,1,2,3]),(zM 21 26,[0,1,2,3,4]),(qE 27 21 0,[0,1,2,3,4,5]),(qE 28 21 1,[0,1,2,3,4,5]),(qZ 9 13,[]),(qS 5 9 27,[0,1,2,3,4,5,6,8]),(zM 10 28,[0,1,2,3,4,5,6,7,8,9])] [1,3,5,6,8,9,10]) (.seq (qs [zM 29 10,qO 30 29] [1,3,5,6,8,9,30] (qc 30 (qr [zA 31 (.build zN []),qS 5 6 31,qB 7 false] [6,7]) .skip)) (.seq (.qp [(qT 33 5 9,[]),(zM 34 1,[]),(zM 35 8,[]),(qD 36 1 34 35,[1,2]),(qF 37 1 36,[1,2,3]),(qT 38 5 5,[]),(q3 39 110 33 37 38,[0,1,2,3,4,5]),(zM 32 39,[0,1,2,3,4,5,6]),(qE 40 32 0,[0,1,2,3,4,5,6,7]),(qE 41 32 1,[0,1,2,3,4,5,6,7]),(qZ 11 14,[]),(qS 5 11 40,[0,1,2,3,4,5,6,7,8,10]),(zM 12 41,[0,1,2,3,4,5,6,7,8,9,10,11])] [1,3,6,8,11,12]) (.seq (qs [zM 42 12,qO 43 42] [1,3,6,8,11,43] (qc 43 (qr [zA 44 (.build zN []),qS 5 6 44,qB 7 false] [6,7]) .skip)) (.seq (.qp [(qT 45 5 3,[]),(zM 46 1,[]),(zM 47 8,[]),(zA 48 (.Af 1 (.t 46) none (some (.t 47))),[1,2]),(qT 49 5 11,[]),(q3 50 92 45 48 49,[0,1,2,3,4]),(qE 51 50 0,[0,1,2,3,4,5]),(qE 52 50 1,[0,1,2,3,4,5]),(qS 5 6 51,[0,1,2,3,4,5,6,7]),(zM 7 52,[0,1,2,3,4,5,6,7,8])] [6,7]) .ret))))))))
theorem K.mZ : lK pZ 90 3 0 C.mZ [.cell 6 true 5,.tmp 7]=true:=by kernel_rfl
def C.iY : dD:=(qs [qB 4 false] [0,1] (.seq (qs [qI 5 0] [0,1,5] (.block 0 (.loop (.seq (qs [zM 6 5,zM 7 1,qL 8 7,qb 9 .lss 6 8] [0,1,5,9] (qc 9 .skip (.exit 0))) (.seq (.block 1 (.seq (.qp [(zM 12 5,[]),(zM 13 0,[]),(qL 14 13,[1]),(qb 15 .geq 12 14,[0,1,2]),(zM 16 15,[0,1,2,3]),(qm 16 false 17 0,[0,1,2,3,4]),(qm 16 false 18 5,[0,1,2,3,4]),(zG 16 false 19 (.uT 1 (.t 17) (.t 18)),[0,1,2,3,4,5,6]),(zG 16 false 20 (.load false 1 (.t 19)),[0,1,2,3,4,5,6,7]),(qm 16 false 21 1,[0,1,2,3,4]),(qm 16 false 22 5,[0,1,2,3,4]),(zG 16 false 23 (.uT 1 (.t 21) (.t 22)),[0,1,2,3,4,9,10]),(zG 16 false 24 (.load false 1 (.t 23)),[0,1,2,3,4,9,10,11]),(zG 16 false 25 (.bin .neq (.t 20) (.t 24)),[0,1,2,3,4,5,6,7,8,9,10,11,12]),(qQ 26 16 25,[0,1,2,3,4,5,6,7,8,9,10,11,12,13])] [0,1,5,26]) (qc 26 (qr [qB 4 false] [4]) .skip))) (.reg [zM 10 5,qk 11 .add 10 1,zM 5 11] [0,1,5])))))) (qr [qB 4 true] [4])))
theorem K.iY : lK pZ 94 2 0 C.iY [.tmp 4]=true:=by kernel_rfl
def C.iq : dD:=(qs [qX 2 10 0,qZ 4 11,qB 5 false] [1,2,4] (qs [zM 12 1,qL 13 12,qk 14 .sub 13 1,zM 6 14] [1,2,4,6] (.seq (qs [zM 15 6,qk 16 .lss 15 0] [1,2,4,6,16] (qc 16 (qr [zA 17 (.build zN []),qS 5 4 17,qB 5 false] [4,5]) .skip)) (.seq (.qp [(qT 19 5 2,[]),(zM 20 1,[]),(zM 21 6,[]),(zA 22 (.Af 1 (.t 20) none (some (.t 21))),[1,2]),(q2 23 93 19 22,[0,1,2,3]),(zM 18 23,[0,1,2,3,4]),(qE 24 18 0,[0,1,2,3,4,5]),(qE 25 18 1,[0,1,2,3,4,5]),(qZ 7 12,[]),(qS 5 7 24,[0,1,2,3,4,5,6,8]),(zM 8 25,[0,1,2,3,4,5,6,7,8,9])] [1,2,4,6,7,8]) (.seq (qs [zM 26 8,qO 27 26] [1,2,4,6,7,27] (qc 27 (qr [zA 28 (.build zN []),qS 5 4 28,qB 5 false] [4,5]) .skip)) (.seq (.qp [(qT 29 5 7,[]),(zM 30 1,[]),(zM 31 6,[]),(qD 32 1 30 31,[1,2]),(qF 33 1 32,[1,2,3]),(q2 34 105 29 33,[0,1,2,3,4]),(zM 9 34,[0,1,2,3,4,5])] [1,2,4,6,7,9]) (.seq (qs [zM 35 9,qk 36 .lss 35 0] [1,2,4,6,7,9,36] (qc 36 (qr [zA 37 (.build zN []),qS 5 4 37,qB 5 false] [4,5]) .skip)) (.seq (.qp [(zA 38 (.rH 13 5 0 [.lit (.int .i64 0),.lit (.int .i64 0),.str [],.sl 1 [],.sl 5 []] []),[]),(qA 39 4 7,[]),(qF 40 1 39,[1]),(zM 41 9,[]),(zA 42 (.Af 5 (.t 40) none (some (.t 41))),[1,2,3]),(zA 43 (.append 14 5 80 (.t 38) (.t 42)),[0,1,2,3,4]),(qA 44 4 7,[]),(qF 45 1 44,[6]),(zM 46 9,[]),(qk 47 .add 46 1,[8]),(zA 48 (.Af 5 (.t 45) (some (.t 47)) none),[6,7,8,9]),(zA 49 (.append 15 5 80 (.t 43) (.t 48)),[0,1,2,3,4,5,6,7,8,9,10]),(zM 10 49,[0,1,2,3,4,5,6,7,8,9,10,11])] [1,2,4,6,7,9,10]) (qs [zA 50 (.rH 16 1 0 [.str []] []),zM 11 50] [1,2,4,6,7,9,10,11] (.cut (qs [qA 51 0 7,qF 52 1 51,qk 53 .eql 52 4] [1,2,4,6,7,9,10,11,53] (qc 53 (.qp [(zA 54 (.rH 17 1 0 [.str []] []),[]),(qA 55 3 7,[]),(qF 56 1 55,[1]),(zM 57 9,[]),(zA 58 (.Af 1 (.t 56) none (some (.t 57))),[1,2,3]),(zA 59 (.append 18 1 16 (.t 54) (.t 58)),[0,1,2,3,4]),(qA 60 3 7,[]),(qF 61 1 60,[6]),(zM 62 9,[]),(qk 63 .add 62 1,[8]),(zA 64 (.Af 1 (.t 61) (some (.t 63)) none),[6,7,8,9]),(zA 65 (.append 19 1 16 (.t 59) (.t 64)),[0,1,2,3,4,5,6,7,8,9,10]),(zM 11 65,[0,1,2,3,4,5,6,7,8,9,10,11])] [1,2,4,6,7,10,11]) .skip)) (.seq (.qp [(qT 66 5 2,[]),(zM 67 1,[]),(zM 68 6,[]),(zA 69 (.Af 1 (.t 67) none (some (.t 68))),[1,2]),(qA 70 0 7,[]),(qF 71 1 70,[4]),(zM 72 11,[]),(zM 73 10,[]),(zA 74 (.build zN [(0,1,.t 71),(3,1,.t 72),(4,1,.t 73)]),[4,5,6,7]),(q3 75 92 66 69 74,[0,1,2,3,4,5,6,7,8]),(qE 76 75 0,[0,1,2,3,4,5,6,7,8,9]),(qE 77 75 1,[0,1,2,3,4,5,6,7,8,9]),(qS 5 4 76,[0,1,2,3,4,5,6,7,8,9,10,11]),(zM 5 77,[0,1,2,3,4,5,6,7,8,9,10,11,12])] [4,5]) .ret)))))))))))
theorem K.iq : lK pZ 91 2 0 C.iq [.cell 4 true 5,.tmp 5]=true:=by kernel_rfl
def C.iK : dD:=(qs [qI 2 0] [0] (.seq (qs [zM 3 0] [3] (qc 3 (qr [qI 2 1] [2]) .skip)) (qr [qI 2 0] [2])))
theorem K.iK : lK pZ 119 1 0 C.iK [.tmp 2]=true:=by kernel_rfl
def C.kS : dD:=(qs [qI 4 0] [0,1] (qr [zM 5 0,zM 6 1,qb 7 .gtr 5 6,q1 8 119 7,zM 9 0,zM 10 1,qb 11 .lss 9 10,q1 12 119 11,qb 13 .sub 8 12,zM 4 13] [4]))
theorem K.kS : lK pZ 101 2 0 C.kS [.tmp 4]=true:=by kernel_rfl
def C.jH : dD:=(qs [qI 4 0] [0,1] (qr [zM 5 0,zM 6 1,qb 7 .gtr 5 6,q1 8 119 7,zM 9 0,zM 10 1,qb 11 .lss 9 10,q1 12 119 11,qb 13 .sub 8 12,zM 4 13] [4]))
theorem K.jH : lK pZ 102 2 0 C.jH [.tmp 4]=true:=by kernel_rfl
def C.dJ : dD:=(qs [qX 2 10 0,qX 3 11 1,qI 4 0] [2,3] (.seq (qs [qA 7 0 2,qF 8 1 7,qA 9 0 3,qF 10 1 9,qb 11 .neq 8 10] [2,3,11] (qc 11 (qr [qA 12 0 2,qF 13 1 12,qA 14 0 3,qF 15 1 14,q2 16 101 13 15,zM 4 16] [4]) .skip)) (.seq (qs [qA 17 1 2,qF 18 1 17,qA 19 1 3,qF 20 1 19,qb 21 .neq 18 20] [2,3,21] (qc 21 (qr [qA 22 1 2,qF 23 1 22,qA 24 1 3,qF 25 1 24,q2 26 101 23 25,zM 4 26] [4]) .skip)) (.seq (qs [qA 27 2 2,qF 28 1 27,qA 29 2 3,qF 30 1 29,qb 31 .neq 28 30] [2,3,31] (qc 31 (qr [qA 32 2 2,qF 33 1 32,qA 34 2 3,qF 35 1 34,q2 36 102 33 35,zM 4 36] [4]) .skip)) (.seq (qs [qI 5 0] [2,3,5] (.block 0 (.loop (.seq (qs [zM 37 5,qA 38 4 2,qF 39 1 38,qL 40 39,qb 41 .lss 37 40,zM 42 41,qm 42 true 43 5,zG 42 true 44 (.ny 4 (.t 3)),zG 42 true 45 (.load false 1 (.t 44)),zG 42 true 46 (.len (.t 45)),zG 42 true 47 (.bin .lss (.t 43) (.t 46)),qP 48 42 47] [2,3,5,48] (qc 48 .skip (.exit 0))) (.seq (.block 1 (.seq (.seq (.qp [(qA 51 0 2,[]),(qF 52 1 51,[0]),(qk 53 .eql 52 4,[0,1]),(zM 54 53,[0,1,2]),(zG 54 true 55 (.ny 3 (.t 2)),[0,1,2,3]),(zG 54 true 56 (.load false 1 (.t 55)),[0,1,2,3,4]),(qm 54 true 57 5,[0,1,2,3]),(zG 54 true 58 (.uT 1 (.t 56) (.t 57)),[0,1,2,3,4,5,6]),(zG 54 true 59 (.load false 1 (.t 58)),[0,1,2,3,4,5,6,7]),(zG 54 true 60 (.ny 3 (.t 3)),[0,1,2,3]),(zG 54 true 61 (.load false 1 (.t 60)),[0,1,2,3,9]),(qm 54 true 62 5,[0,1,2,3]),(zG 54 true 63 (.uT 1 (.t 61) (.t 62)),[0,1,2,3,9,10,11]),(zG 54 true 64 (.load false 1 (.t 63)),[0,1,2,3,9,10,11,12]),(zG 54 true 65 (.bin .neq (.t 59) (.t 64)),[0,1,2,3,4,5,6,7,8,9,10,11,12,13]),(qP 66 54 65,[0,1,2,3,4,5,6,7,8,9,10,11,12,13,14])] [2,3,5,66]) (qc 66 (.seq (.qp [(qA 67 3 2,[]),(qF 68 1 67,[0]),(zM 69 5,[]),(qD 70 1 68 69,[0,1,2]),(qF 71 1 70,[0,1,2,3]),(qA 72 3 3,[]),(qF 73 1 72,[5]),(zM 74 5,[]),(qD 75 1 73 74,[5,6,7]),(qF 76 1 75,[5,6,7,8]),(q2 77 102 71 76,[0,1,2,3,4,5,6,7,8,9]),(zM 4 77,[0,1,2,3,4,5,6,7,8,9,10])] [4]) .ret) .skip)) (.seq (.qp [(qA 78 4 2,[]),(qF 79 1 78,[0]),(zM 80 5,[]),(qD 81 5 79 80,[0,1,2]),(qT 82 5 81,[0,1,2,3]),(qA 83 4 3,[]),(qF 84 1 83,[5]),(zM 85 5,[]),(qD 86 5 84 85,[5,6,7]),(qT 87 5 86,[5,6,7,8]),(q2 88 79 82 87,[0,1,2,3,4,5,6,7,8,9]),(zM 6 88,[0,1,2,3,4,5,6,7,8,9,10])] [2,3,5,6]) (qs [zM 89 6,qk 90 .neq 89 0] [2,3,5,6,90] (qc 90 (qr [zM 91 6,zM 4 91] [4]) .skip))))) (.reg [zM 49 5,qk 50 .add 49 1,zM 5 50] [2,3,5])))))) (qr [qA 92 4 2,qF 93 1 92,qL 94 93,qA 95 4 3,qF 96 1 95,qL 97 96,q2 98 101 94 97,zM 4 98] [4]))))))
theorem K.dJ : lK pZ 79 2 0 C.dJ [.tmp 4]=true:=by kernel_rfl
def C.rD : dD:=(qs [qX 2 10 0,qX 3 11 1,qB 4 false] [2,3] (qr [qT 5 5 2,qT 6 5 3,q2 7 79 5 6,qk 8 .eql 7 0,zM 4 8] [4]))
theorem K.rD : lK pZ 50 2 0 C.rD [.tmp 4]=true:=by kernel_rfl
def C.gY : dD:=(qs [qX 2 10 0,qX 3 11 1,qZ 4 12,qB 5 false] [2,3,4] (.seq (qs [qA 11 0 3,qF 12 1 11] [2,3,4,12] (.block 0 (qs [qk 14 .eql 12 1,zM 13 14] [2,3,4,12,13] (qc 13 (qr [qT 15 5 2,qA 16 1 3,qF 17 1 16,qA 18 3 3,qT 19 5 18,q3 20 90 15 17 19,qE 21 20 0,qE 22 20 1,qS 5 4 21,zM 5 22] [4,5]) (qs [qk 24 .eql 12 2,zM 23 24] [2,3,4,12,23] (qc 23 (qr [qT 25 5 2,qA 26 1 3,qF 27 1 26,q2 28 91 25 27,qE 29 28 0,qE 30 28 1,qS 5 4 29,zM 5 30] [4,5]) (qs [qk 32 .eql 12 3,zM 31 32] [2,3,4,31] (qc 31 (qr [qT 33 5 2,qA 34 1 3,qF 35 1 34,qA 36 3 3,qT 37 5 36,q3 38 92 33 35 37,qE 39 38 0,qE 40 38 1,qS 5 4 39,zM 5 40] [4,5]) .skip)))))))) (qs [qA 41 2 3,qF 42 1 41,zM 6 42] [2,3,4,6] (.cut (qs [qA 43 0 3,qF 44 1 43,qk 45 .eql 44 6] [2,3,4,6,45] (qc 45 (.reg [qA 46 1 3,qF 47 1 46,zM 6 47] [2,3,4,6]) .skip)) (qs [qT 49 5 2,zM 50 6,q2 51 93 49 50,zM 48 51,qE 52 48 0,qE 53 48 1,qZ 7 13,qS 5 7 52,zM 8 53] [2,3,4,7,8] (.seq (qs [zM 54 8,qO 55 54] [2,3,4,7,55] (qc 55 (qr [zA 56 (.build zN []),qS 5 4 56,qB 5 false] [4,5]) .skip)) (.seq (qs [qA 57 0 3,qF 58 1 57] [2,3,4,7,58] (.block 1 (qs [qk 60 .eql 58 6,zM 59 60] [2,3,4,7,58,59] (qc 59 (.seq (.qp [(qT 61 5 2,[]),(qT 62 5 7,[]),(qA 63 3 3,[]),(qT 64 5 63,[2]),(q2 65 50 62 64,[1,2,3]),(qS 5 4 61,[0,1,2,3,4]),(zM 5 65,[0,1,2,3,4,5])] [4,5]) .ret) (qs [qk 67 .eql 58 5,zM 66 67] [2,3,4,7,66] (qc 66 (qr [qT 68 5 2,qA 69 1 3,qF 70 1 69,qT 71 5 7,q3 72 90 68 70 71,qE 73 72 0,qE 74 72 1,qS 5 4 73,zM 5 74] [4,5]) .skip)))))) (.seq (qs [qA 75 1 3,qF 76 1 75,qA 77 2 3,qF 78 1 77,q2 79 94 76 78] [2,3,4,7,79] (qc 79 (.seq (.qp [(qT 80 5 2,[]),(q1 81 51 80,[0]),(qA 82 1 3,[]),(qF 83 1 82,[2]),(qL 84 83,[2,3]),(qA 85 2 3,[]),(qF 86 1 85,[5]),(qL 87 86,[5,6]),(qb 88 .eql 84 87,[2,3,4,5,6,7]),(qS 5 4 81,[0,1]),(zM 5 88,[0,1,2,3,4,5,6,7,8,9])] [4,5]) .ret) .skip)) (qs [qT 90 5 2,qA 91 2 3,qF 92 1 91,q2 93 91 90 92,zM 89 93,qE 94 89 0,qE 95 89 1,qZ 9 14,qS 5 9 94,zM 10 95] [3,4,7,9,10] (.seq (qs [zM 96 10,qO 97 96] [3,4,7,9,97] (qc 97 (qr [zA 98 (.build zN []),qS 5 4 98,qB 5 false] [4,5]) .skip)) (qr [qT 99 5 9,qA 100 1 3,qF 101 1 100,qT 102 5 7,q3 103 90 99 101 102,qE 104 103 0,qE 105 103 1,qS 5 4 104,zM 5 105] [4,5])))))))))))
theorem K.gY : lK pZ 65 2 0 C.gY [.cell 4 true 5,.tmp 5]=true:=by kernel_rfl
def C.jc : dD:=(qs [qX 1 10 0,qI 2 0] [1] (qs [qI 3 1] [1,3] (.seq (qs [qI 4 0] [1,3,4] (.block 0 (.loop (.seq (qs [zM 5 4,qA 6 4 1,qF 7 1 6,qL 8 7,qb 9 .lss 5 8] [1,3,4,9] (qc 9 .skip (.exit 0))) (.seq (.block 1 (.reg [zM 12 3,qA 13 4 1,qF 14 1 13,zM 15 4,qD 16 5 14 15,qT 17 5 16,q1 18 61 17,qb 19 .add 12 18,zM 3 19] [1,3,4])) (.reg [zM 10 4,qk 11 .add 10 1,zM 4 11] [1,3,4])))))) (qr [zM 20 3,zM 2 20] [2]))))
theorem K.jc : lK pZ 61 1 0 C.jc [.tmp 2]=true:=by kernel_rfl
def C.jA : dD:=(qs [qB 6 false] [0,1,2] (qr [zM 7 1,zM 8 0,qb 9 .leq 7 8,zM 10 9,qm 10 true 11 0,qm 10 true 12 2,zG 10 true 13 (.bin .leq (.t 11) (.t 12)),qP 14 10 13,zM 6 14] [6]))
theorem K.jA : lK pZ 62 3 0 C.jA [.tmp 6]=true:=by kernel_rfl
def C.dQ : dD:=(qs [qB 2 false] [0] (.seq (qs [qI 3 0] [0,3] (.block 0 (.loop (.seq (qs [zM 4 3,zM 5 0,ql 6 5,qb 7 .lss 4 6] [0,3,7] (qc 7 .skip (.exit 0))) (.seq (.block 1 (qs [zM 10 0,zM 11 3,zA 12 (.idxs (.t 10) (.t 11)),zA 13 (.N8 .i64 (.t 12)),⟨none,some 14,.call 62 [.t 13,kI 32,kI 126]⟩,qO 15 14] [0,3,15] (qc 15 (qr [qB 2 false] [2]) .skip))) (.reg [zM 8 3,qk 9 .add 8 1,zM 3 9] [0,3])))))) (qr [zM 16 0,ql 17 16,qk 18 .leq 17 12,zM 2 18] [2])))
theorem K.dQ : lK pZ 87 1 0 C.dQ [.tmp 2]=true:=by kernel_rfl
def C.jG : dD:=(qs [qB 2 false] [0] (.seq (qs [qI 3 0] [0,3] (.block 0 (.loop (.seq (qs [zM 4 3,zM 5 0,qL 6 5,qb 7 .lss 4 6] [0,3,7] (qc 7 .skip (.exit 0))) (.seq (.block 1 (.seq (.qp [(zM 10 0,[]),(zM 11 3,[]),(qD 12 1 10 11,[0,1]),(qF 13 1 12,[0,1,2]),(q1 14 87 13,[0,1,2,3]),(qO 15 14,[0,1,2,3,4]),(zM 16 15,[0,1,2,3,4,5]),(qm 16 false 17 3,[0,1,2,3,4,5,6]),(zG 16 false 18 (.bin .gtr (.t 17) (kI 0)),[0,1,2,3,4,5,6,7]),(qm 16 false 19 18,[0,1,2,3,4,5,6,7,8]),(qm 19 true 20 0,[0,1,2,3,4,5,6,7,8,9]),(qm 19 true 21 3,[0,1,2,3,4,5,6,7,8,9]),(zG 19 true 22 (.uT 1 (.t 20) (.t 21)),[0,1,2,3,4,5,6,7,8,9,10,11]),(zG 19 true 23 (.load false 1 (.t 22)),[0,1,2,3,4,5,6,7,8,9,10,11,12]),(qm 19 true 24 0,[0,1,2,3,4,5,6,7,8,9]),(qm 19 true 25 3,[0,1,2,3,4,5,6,7,8,9]),(zG 19 true 26 (.bin .sub (.t 25) (kI 1)),[0,1,2,3,4,5,6,7,8,9,15]),(zG 19 true 27 (.uT 1 (.t 24) (.t 26)),[0,1,2,3,4,5,6,7,8,9,14,15,16]),(zG 19 true 28 (.load false 1 (.t 27)),[0,1,2,3,4,5,6,7,8,9,14,15,16,17]),(zG 19 true 29 (.bin .leq (.t 23) (.t 28)),[0,1,2,3,4,5,6,7,8,9,10,11,12,13,14,15,16,17,18]),(zG 16 false 30 (.pick (.t 19) (.t 29) (kB false)),[0,1,2,3,4,5,6,7,8,9,10,11,12,13,14,15,16,17,18,19]),(qQ 31 16 30,[0,1,2,3,4,5,6,7,8,9,10,11,12,13,14,15,16,17,18,19,20])] [0,3,31]) (qc 31 (qr [qB 2 false] [2]) .skip))) (.reg [zM 8 3,qk 9 .add 8 1,zM 3 9] [0,3])))))) (qr [qB 2 true] [2])))
theorem K.jG : lK pZ 89 1 0 C.jG [.tmp 2]=true:=by kernel_rfl
def C.lJ : dD:=(qs [qX 2 10 0,qB 4 false] [1,2] (.seq (qs [qI 5 0] [1,2,5] (.block 0 (.loop (.seq (qs [zM 6 5,qA 7 4 2,qF 8 1 7,qL 9 8,qb 10 .lss 6 9] [1,2,5,10] (qc 10 .skip (.exit 0))) (.seq (.block 1 (qs [qA 13 4 2,qF 14 1 13,zM 15 5,qD 16 5 14 15,qT 17 5 16,zM 18 1,qk 19 .sub 18 1,q2 20 60 17 19,qO 21 20] [1,2,5,21] (qc 21 (qr [qB 4 false] [4]) .skip))) (.reg [zM 11 5,qk 12 .add 11 1,zM 5 12] [1,2,5])))))) (qr [qB 4 true] [4])))
theorem K.lJ : lK pZ 88 2 0 C.lJ [.tmp 4]=true:=by kernel_rfl
def C.eF : dD:=(qs [qX 2 10 0,qB 4 false] [1,2] (.cut (qs [zM 5 1,qk 6 .eql 5 0,zM 7 6,zG 7 false 8 (.ny 4 (.t 2)),zG 7 false 9 (.load false 1 (.t 8)),zG 7 false 10 (.len (.t 9)),zG 7 false 11 (.bin .gtr (.t 10) (kI 6)),qQ 12 7 11,zM 13 12,zG 13 false 14 (.ny 0 (.t 2)),zG 13 false 15 (.load false 1 (.t 14)),zG 13 false 16 (.bin .neq (.t 15) (kI 1)),qm 13 false 17 16,zG 17 true 18 (.ny 1 (.t 2)),zG 17 true 19 (.load false 1 (.t 18)),zG 17 true 20 (.bin .neq (.t 19) (kI 0)),zG 13 false 21 (.pick (.t 17) (.t 20) (kB false)),qQ 22 13 21,zM 23 22,zG 23 false 24 (.ny 0 (.t 2)),zG 23 false 25 (.load false 1 (.t 24)),zG 23 false 26 (.bin .neq (.t 25) (kI 2)),qm 23 false 27 26,zG 27 true 28 (.ny 2 (.t 2)),zG 27 true 29 (.load false 1 (.t 28)),zG 27 true 30 (.bin .neq (.t 29) (.k (.c (.str [])))),zG 23 false 31 (.pick (.t 27) (.t 30) (kB false)),qQ 32 23 31,zM 33 32,zG 33 false 34 (.ny 0 (.t 2)),zG 33 false 35 (.load false 1 (.t 34)),zG 33 false 36 (.bin .neq (.t 35) (kI 4)),qm 33 false 37 36,zG 37 true 38 (.ny 3 (.t 2)),zG 37 true 39 (.load false 1 (.t 38)),zG 37 true 40 (.len (.t 39)),zG 37 true 41 (.bin .gtr (.t 40) (kI 0)),zG 33 false 42 (.pick (.t 37) (.t 41) (kB false)),qQ 43 33 42,zM 44 43,zG 44 false 45 (.ny 0 (.t 2)),zG 44 false 46 (.load false 1 (.t 45)),zG 44 false 47 (.bin .lss (.t 46) (kI 3)),qm 44 false 48 47,zG 48 true 49 (.ny 4 (.t 2)),zG 48 true 50 (.load false 1 (.t 49)),zG 48 true 51 (.len (.t 50)),zG 48 true 52 (.bin .gtr (.t 51) (kI 0)),zG 44 false 53 (.pick (.t 48) (.t 52) (kB false)),qQ 54 44 53] [1,2,54] (qc 54 (qr [qB 4 false] [4]) .skip)) (.seq (qs [qA 55 0 2,qF 56 1 55] [1,2,56] (.block 0 (qs [qk 58 .eql 56 1,zM 57 58] [1,2,56,57] (qc 57 (qr [qA 59 1 2,qF 60 1 59,⟨none,some 61,.call 62 [.t 60,kI (-999999),kI 999999]⟩,zM 4 61] [4]) (qs [qk 63 .eql 56 2,zM 62 63] [1,2,56,62] (qc 62 (qr [qA 64 2 2,qF 65 1 64,q1 66 87 65,zM 4 66] [4]) (qs [qk 68 .eql 56 3,zM 67 68] [1,2,56,67] (qc 67 (qr [qT 69 5 2,zM 70 1,q2 71 88 69 70,zM 4 71] [4]) (qs [qk 73 .eql 56 4,zM 72 73] [1,2,72] (qc 72 (qr [qA 74 3 2,qF 75 1 74,qL 76 75,qA 77 4 2,qF 78 1 77,qL 79 78,qb 80 .eql 76 79,zM 81 80,zG 81 true 82 (.ny 3 (.t 2)),zG 81 true 83 (.load false 1 (.t 82)),⟨(some (81,true)),some 84,.call 89 [.t 83]⟩,qP 85 81 84,zM 86 85,zG 86 true 87 (.load true 5 (.t 2)),qm 86 true 88 1,⟨(some (86,true)),some 89,.call 88 [.t 87,.t 88]⟩,qP 90 86 89,zM 4 90] [4]) .skip)))))))))) (qr [qA 91 0 2,qF 92 1 91,qk 93 .eql 92 0,zM 4 93] [4]))))
theorem K.eF : lK pZ 60 2 0 C.eF [.tmp 4]=true:=by kernel_rfl
def C.fZ : dD:=(qs [qX 1 10 0,qB 2 false] [1] (qr [qT 3 5 1,⟨none,some 4,.call 60 [.t 3,kI 5]⟩,zM 5 4,zG 5 true 6 (.load true 5 (.t 1)),⟨(some (5,true)),some 7,.call 61 [.t 6]⟩,zG 5 true 8 (.bin .leq (.t 7) (kI 40)),qP 9 5 8,zM 2 9] [2]))
theorem K.fZ : lK pZ 31 1 0 C.fZ [.tmp 2]=true:=by kernel_rfl
def C.lN : dD:=(qs [qX 2 10 0,qZ 4 11,qB 5 false] [1,2,4] (.seq (qs [zM 6 1,qO 7 6,zM 8 7,zG 8 false 9 (.load true 5 (.t 2)),⟨(some (8,false)),some 10,.call 31 [.t 9]⟩,zG 8 false 11 (.not (.t 10)),qQ 12 8 11] [2,4,12] (qc 12 (qr [zA 13 (.build zN []),qS 5 4 13,qB 5 false] [4,5]) .skip)) (qr [qT 14 5 2,qS 5 4 14,qB 5 true] [4,5])))
theorem K.lN : lK pZ 64 2 0 C.lN [.cell 4 true 5,.tmp 5]=true:=by kernel_rfl
def C.kY : dD:=(qs [qX 2 10 0,qX 3 11 1,qZ 4 12,qB 5 false] [2,3,4] (qs [qT 9 5 2,qT 10 8 3,q2 11 65 9 10,qE 12 11 0,qE 13 11 1,q2 14 64 12 13,zM 8 14,qE 15 8 0,qE 16 8 1,qZ 6 13,qS 5 6 15,zM 7 16] [4,6,7] (.seq (qs [zM 17 7,qO 18 17] [4,6,18] (qc 18 (qr [zA 19 (.build zN []),qS 5 4 19,qB 5 false] [4,5]) .skip)) (qr [qT 20 5 6,q1 21 51 20,qS 5 4 21,qB 5 true] [4,5]))))
theorem K.kY : lK pZ 33 2 0 C.kY [.cell 4 true 5,.tmp 5]=true:=by kernel_rfl
def C.eG : dD:=(qs [qB 2 false] [0] (.seq (qs [qI 3 0] [0,3] (.block 0 (.loop (.seq (qs [zM 4 3,zM 5 0,qL 6 5,qb 7 .lss 4 6] [0,3,7] (qc 7 .skip (.exit 0))) (.seq (.block 1 (qs [zM 10 0,zM 11 3,qD 12 1 10 11,qF 13 1 12,q1 14 87 13,qO 15 14] [0,3,15] (qc 15 (qr [qB 2 false] [2]) .skip))) (.reg [zM 8 3,qk 9 .add 8 1,zM 3 9] [0,3])))))) (qr [zM 16 0,qL 17 16,qk 18 .leq 17 5,zM 2 18] [2])))
theorem K.eG : lK pZ 63 1 0 C.eG [.tmp 2]=true:=by kernel_rfl
def C.jO : dD:=(qs [qX 1 10 0,qB 2 false] [1] (qr [qA 3 0 1,qF 4 1 3,⟨none,some 5,.call 62 [.t 4,kI 1,kI 6]⟩,zM 6 5,zG 6 true 7 (.ny 1 (.t 1)),zG 6 true 8 (.load false 1 (.t 7)),⟨(some (6,true)),some 9,.call 63 [.t 8]⟩,qP 10 6 9,zM 11 10,zG 11 true 12 (.ny 2 (.t 1)),zG 11 true 13 (.load false 1 (.t 12)),⟨(some (11,true)),some 14,.call 63 [.t 13]⟩,qP 15 11 14,zM 16 15,zG 16 true 17 (.ny 3 (.t 1)),zG 16 true 18 (.load true 5 (.t 17)),⟨(some (16,true)),some 19,.call 31 [.t 18]⟩,qP 20 16 19,zM 2 20] [2]))
theorem K.jO : lK pZ 32 1 0 C.jO [.tmp 2]=true:=by kernel_rfl
def C.mV : dD:=(qs [qB 2 false] [0] (.seq (qs [qI 3 0] [0,3] (.block 0 (.loop (.seq (qs [zM 4 3,zM 5 0,qL 6 5,qb 7 .lss 4 6] [0,3,7] (qc 7 .skip (.exit 0))) (.seq (.block 1 (qs [zM 10 0,zM 11 3,qD 12 8 10 11,qT 13 8 12,q1 14 32 13,qO 15 14] [0,3,15] (qc 15 (qr [qB 2 false] [2]) .skip))) (.reg [zM 8 3,qk 9 .add 8 1,zM 3 9] [0,3])))))) (qr [zM 16 0,qL 17 16,qk 18 .leq 17 12,zM 2 18] [2])))
theorem K.mV : lK pZ 55 1 0 C.mV [.tmp 2]=true:=by kernel_rfl
def C.aba : dD:=(qs [qX 2 10 0,qZ 4 11,qB 5 false] [1,2,4] (.seq (qs [qT 10 5 2,q1 11 31 10,qO 12 11,zM 13 12,qm 13 false 14 1,⟨(some (13,false)),some 15,.call 55 [.t 14]⟩,zG 13 false 16 (.not (.t 15)),qQ 17 13 16] [1,2,4,17] (qc 17 (qr [zA 18 (.build zN []),qS 5 4 18,qB 5 false] [4,5]) .skip)) (qs [qT 19 5 2,q1 20 51 19,qZ 6 12,qS 5 6 20] [1,4,6] (.seq (qs [qI 7 0] [1,4,6,7] (.block 0 (.loop (.seq (qs [zM 21 7,zM 22 1,qL 23 22,qb 24 .lss 21 23] [1,4,6,7,24] (qc 24 .skip (.exit 0))) (.seq (.block 1 (.seq (.qp [(qT 28 5 6,[]),(zM 29 1,[]),(zM 30 7,[]),(qD 31 8 29 30,[1,2]),(qT 32 8 31,[1,2,3]),(q2 33 33 28 32,[0,1,2,3,4]),(zM 27 33,[0,1,2,3,4,5]),(qE 34 27 0,[0,1,2,3,4,5,6]),(qE 35 27 1,[0,1,2,3,4,5,6]),(qZ 8 13,[]),(qS 5 8 34,[0,1,2,3,4,5,6,7,9]),(zM 9 35,[0,1,2,3,4,5,6,7,8,9,10])] [1,4,6,7,8,9]) (.seq (qs [zM 36 9,qO 37 36] [1,4,6,7,8,37] (qc 37 (qr [zA 38 (.build zN []),qS 5 4 38,qB 5 false] [4,5]) .skip)) (.reg [qT 39 5 8,qS 5 6 39] [1,4,6,7])))) (.reg [zM 25 7,qk 26 .add 25 1,zM 7 26] [1,4,6,7])))))) (qr [qT 40 5 6,qS 5 4 40,qB 5 true] [4,5])))))
theorem K.aba : lK pZ 24 2 0 C.aba [.cell 4 true 5,.tmp 5]=true:=by kernel_rfl
section
section
variable {P:Program} {K R:dP->Prop} {st:dP}
theorem abf {du:DU (QA K R)} : QK (QA K R) .normal st du=K st:=by unfold QK;rfl
theorem abg {du:DU (QA K R)} : QK (QA K R) .ret st du=R st:=by unfold QK;rfl
end
theorem XH {p:Prop}(x:p:=by
 repeat' (
  (try simp -dsimp only[YJ,abf,abg,jb.jV,jb.f,jb.rd,xR,uB,lvl,rU,reduceIte,Nat.reduceEqDiff,Nat.reduceAdd,Nat.reduceLeDiff,Nat.reduceBEq,reduceCtorEq,Int.reduceBNe,Int.reduceBEq,Int.reduceLT,Int.reduceLE,Int.reduceNeg,Nat.reduceLT,xY,Int.reduceToNat,zy, *])
  repeat((with_reducible refine And.intro ?_ ?_);focus first|(show tH _ _ _ _=true;kernel_rfl)|(show rW _ _=true;kernel_rfl)|omega|assumption|(show _<=maxLen;decide))
  first
  |with_reducible refine acz ?_
  |((with_reducible refine ZP ?_);(have zd:=zc;(repeat(first|((first|refine acy (λ_=>zd.1) rfl rfl ?_|refine acA zd.1 rfl rfl ?_);clear zd)|with_reducible replace zd:=zd.2));(fail_if_success have zz:=zd)))
  |exact zf.f
  |((with_reducible refine acM ?_);(exact FB [] [] [] (by rfl) tRE tRE tRE)<;>fail)
  )):p:=x
end
theorem FZ.ins {P:Program}{f gr sz cb:Nat}{z:List Cell}(h0:sz≠0)(hK:FK P f 3 2 (C.ins sz cb gr z) [.tmp 6]=true){es:List (List Cell)}{v:List Cell}{c i:Nat}(hc:es.length<=c)(hi:i<=es.length)(hb:(es.length+1)*(cb+sz+1)<=2^46) :
 EM P f [.one (.sub 0 0 es.length (some c) sz),.one (.c (.lit (.int .i64 (i:Int)))),.one (.own 1 1 sz)] [.dat sz es,.dat sz [v]]
  (λr1 b1=>r1 = .one (.own 2 (es.length+1) sz)/\b1=[.dead,.dat sz [v],.dat sz (es.take i++v::es.drop i)]):=by
 have hb0:es.length+1<=(es.length+1)*(cb+sz+1):=uP _ (by omega);have hw:ah .i64 ((es.length:Int)+((1:Nat):Int))=((es.length+1:Nat):Int):=by rw[Ip]<;>omega
 have hw2:ah .i64 ((i:Int)+((1:Nat):Int))=((i+1:Nat):Int):=by rw[Ip]<;>omega
 have hw3:ah .i64 (((es.length+1:Nat):Int)-i)=((es.length+1-i:Nat):Int):=by rw[Ip]<;>omega
 refine Md hK (tJ ?_);unfold C.ins;have h10:(((1:Nat):Int)==0)=false:=rfl;by_cases h1:i=es.length
 ·subst h1;have he:((es.length:Int)==(es.length:Int))=true:=by simp
  simp -dsimp only[YJ,jb.jV,jb.f,jb.rd,xR,uB,lvl,rU,reduceIte,Nat.reduceEqDiff,Nat.reduceAdd,Nat.reduceLeDiff,Nat.reduceBEq,reduceCtorEq,Int.reduceBNe,Int.reduceBEq,Int.reduceLT,Int.reduceLE,Int.reduceNeg,Nat.reduceLT,xY,Int.reduceToNat,zy,um,EE,zQ,zU,zI,zT,truncS,ig,lQ,jW,lu,kK,dI,jP,gK,h10]
  repeat refine gZ (by first|(show tH _ _ _ _=true;kernel_rfl)|(show rW _ _=true;kernel_rfl)|omega|assumption) ?_
  have e:es++[v]++jo (es.length+1) es=es++v::jo es.length es:=by simp
  have e2:es++[v]=es++v::jo es.length es:=by simp
  by_cases hr:es.length+1<=c
  ·simp -dsimp only[YJ,jb.jV,jb.f,jb.rd,xR,uB,lvl,rU,reduceIte,Nat.reduceEqDiff,Nat.reduceAdd,Nat.reduceLeDiff,Nat.reduceBEq,reduceCtorEq,Int.reduceBNe,Int.reduceBEq,Int.reduceLT,Int.reduceLE,Int.reduceNeg,Nat.reduceLT,xY,Int.reduceToNat,zy,um,EE,zQ,zU,zI,zT,truncS,ig,lQ,jW,lu,kK,dI,jP,gK,hr]
   repeat refine gZ (by first|(show tH _ _ _ _=true;kernel_rfl)|(show rW _ _=true;kernel_rfl)|omega|assumption) ?_
   rw[e];refine Jr [] [(0,0),(1,1),(2,0)] [] (by rfl) ?_ ?_ ?_<;>(simp -dsimp only[rwR,TR,DN,reduceIte,Nat.reduceEqDiff,reduceCtorEq,Nat.reduceAdd,Nat.reduceLeDiff]<;>first|(simp[aW];done)|((try simp only[oO,rq,mG,aP,gV])<;>(repeat' apply gZ)<;>first|rfl|(simp;done)|(simp<;>omega;done)|(congr 1;exact(aW (by simp<;>omega)).symm)))
  ·simp -dsimp only[YJ,jb.jV,jb.f,jb.rd,xR,uB,lvl,rU,reduceIte,Nat.reduceEqDiff,Nat.reduceAdd,Nat.reduceLeDiff,Nat.reduceBEq,reduceCtorEq,Int.reduceBNe,Int.reduceBEq,Int.reduceLT,Int.reduceLE,Int.reduceNeg,Nat.reduceLT,xY,Int.reduceToNat,zy,um,EE,zQ,zU,zI,zT,truncS,ig,lQ,jW,lu,kK,dI,jP,gK,hr]
   repeat refine gZ (by first|(show tH _ _ _ _=true;kernel_rfl)|(show rW _ _=true;kernel_rfl)|omega|assumption) ?_
   rw[e2];refine Jr [] [(0,0),(1,1),(2,10)] [] (by rfl) ?_ ?_ ?_<;>(simp -dsimp only[rwR,TR,DN,reduceIte,Nat.reduceEqDiff,reduceCtorEq,Nat.reduceAdd,Nat.reduceLeDiff]<;>first|(simp[aW];done)|((try simp only[oO,rq,mG,aP,gV])<;>(repeat' apply gZ)<;>first|rfl|(simp;done)|(simp<;>omega;done)|(congr 1;exact(aW (by simp<;>omega)).symm)))
 ·have he:((i:Int)==(es.length:Int))=false:=by simp;omega
  simp -dsimp only[YJ,jb.jV,jb.f,jb.rd,xR,uB,lvl,rU,reduceIte,Nat.reduceEqDiff,Nat.reduceAdd,Nat.reduceLeDiff,Nat.reduceBEq,reduceCtorEq,Int.reduceBNe,Int.reduceBEq,Int.reduceLT,Int.reduceLE,Int.reduceNeg,Nat.reduceLT,xY,Int.reduceToNat,zy,um,EE,zQ,zU,zI,zT,truncS,ig,lQ,jW,lu,kK,dI,jP,gK,h10]
  repeat refine gZ (by first|(show tH _ _ _ _=true;kernel_rfl)|(show rW _ _=true;kernel_rfl)|omega|assumption) ?_
  simp -dsimp only[YJ,jb.jV,jb.f,jb.rd,xR,uB,lvl,rU,reduceIte,Nat.reduceEqDiff,Nat.reduceAdd,Nat.reduceLeDiff,Nat.reduceBEq,reduceCtorEq,Int.reduceBNe,Int.reduceBEq,Int.reduceLT,Int.reduceLE,Int.reduceNeg,Nat.reduceLT,xY,Int.reduceToNat,zy,um,EE,zQ,zU,zI,zT,truncS,ig,lQ,jW,lu,kK,dI,jP,gK,he];by_cases hr:es.length+1<=c
  ·have hd:decide ((c:Int)<((es.length+1:Nat):Int))=false:=(by simp;omega);simp -dsimp only[YJ,jb.jV,jb.f,jb.rd,xR,uB,lvl,rU,reduceIte,Nat.reduceEqDiff,Nat.reduceAdd,Nat.reduceLeDiff,Nat.reduceBEq,reduceCtorEq,Int.reduceBNe,Int.reduceBEq,Int.reduceLT,Int.reduceLE,Int.reduceNeg,Nat.reduceLT,xY,Int.reduceToNat,zy,um,EE,zQ,zU,zI,zT,truncS,ig,lQ,jW,lu,kK,dI,jP,gK,hw,hd]
   repeat refine gZ (by first|(show tH _ _ _ _=true;kernel_rfl)|(show rW _ _=true;kernel_rfl)|omega|assumption) ?_
   simp -dsimp only[YJ,jb.jV,jb.f,jb.rd,xR,uB,lvl,rU,reduceIte,Nat.reduceEqDiff,Nat.reduceAdd,Nat.reduceLeDiff,Nat.reduceBEq,reduceCtorEq,Int.reduceBNe,Int.reduceBEq,Int.reduceLT,Int.reduceLE,Int.reduceNeg,Nat.reduceLT,xY,Int.reduceToNat,zy,um,EE,zQ,zU,zI,zT,truncS,ig,lQ,jW,lu,kK,dI,jP,gK,hw2]
   repeat refine gZ (by first|(show tH _ _ _ _=true;kernel_rfl)|(show rW _ _=true;kernel_rfl)|omega|assumption) ?_
   refine gZ (by simp[h0];omega) ?_;have e:=agh es v i (by omega);simp only[splice]at e;rw[e];refine Jr [] [(0,0),(1,1),(2,0)] [] (by rfl) ?_ ?_ ?_<;>(simp -dsimp only[rwR,TR,DN,reduceIte,Nat.reduceEqDiff,reduceCtorEq,Nat.reduceAdd,Nat.reduceLeDiff]<;>first|(simp[aW];done)|((try simp only[oO,rq,mG,aP,gV])<;>(repeat' apply gZ)<;>first|rfl|(simp;done)|(simp<;>omega;done)|(congr 1;exact(aW (by simp<;>omega)).symm)))
  ·have hd:decide ((c:Int)<((es.length+1:Nat):Int))=true:=(by simp;omega);have hx:c<i+(es.length+1-i):=(by omega);have e0:i+(es.length+1-i)=es.length+1:=(by omega);have hb2:(i+(es.length+1-i))*(cb+sz+1)<=2^46:=(by rw[e0];exact hb);simp -dsimp only[YJ,jb.jV,jb.f,jb.rd,xR,uB,lvl,rU,reduceIte,Nat.reduceEqDiff,Nat.reduceAdd,Nat.reduceLeDiff,Nat.reduceBEq,reduceCtorEq,Int.reduceBNe,Int.reduceBEq,Int.reduceLT,Int.reduceLE,Int.reduceNeg,Nat.reduceLT,xY,Int.reduceToNat,zy,um,EE,zQ,zU,zI,zT,truncS,ig,lQ,jW,lu,kK,dI,jP,gK,hw,hd,hw2,hw3]
   repeat refine gZ (by first|(show tH _ _ _ _=true;kernel_rfl)|(show rW _ _=true;kernel_rfl)|omega|assumption) ?_
   refine gZ (by simp[h0];omega) ?_
   repeat refine gZ (by first|(show tH _ _ _ _=true;kernel_rfl)|(show rW _ _=true;kernel_rfl)|omega|assumption) ?_
   refine gZ ⟨by omega,by simp;omega⟩ ?_
   repeat refine gZ (by first|(show tH _ _ _ _=true;kernel_rfl)|(show rW _ _=true;kernel_rfl)|omega|assumption) ?_
   have e:=agi es v z i _ (by omega) rfl;simp only[splice]at e;have e0:i+(es.length+1-i)=es.length+1:=(by omega);rw[e,e0];refine Jr [] [(0,0),(1,1),(2,11)] [] (by rfl) ?_ ?_ ?_<;>(simp -dsimp only[rwR,TR,DN,reduceIte,Nat.reduceEqDiff,reduceCtorEq,Nat.reduceAdd,Nat.reduceLeDiff]<;>first|(simp[aW];done)|((try simp only[oO,rq,mG,aP,gV])<;>(repeat' apply gZ)<;>first|rfl|(simp;done)|(simp<;>omega;done)|(congr 1;exact(aW (by simp<;>omega)).symm)))
theorem FZ.del {P:Program}{f sz cb:Nat}{z:List Cell}(h0:sz≠0)(hK:FK P f 3 1 (C.del sz cb z) [.tmp 6]=true){es:List (List Cell)}{c i j:Nat}(hc:es.length<=c)(hi:i<j)(hj:j<=es.length)(hb:es.length*(cb+sz+1)<=2^46) :
 EM P f [.one (.sub 0 0 es.length (some c) sz),.one (.c (.lit (.int .i64 (i:Int)))),.one (.c (.lit (.int .i64 (j:Int))))] [.dat sz es]
  (λr1 b1=>r1 = .one (.sub 1 0 (i+(es.length-j)) (some c) sz)/\b1=[.dead,.dat sz (es.take i++es.drop j)]):=by
 have hb0:es.length<=es.length*(cb+sz+1):=uP _ (by omega);refine Md hK (tJ ?_);unfold C.del;have he:((i:Int)==(j:Int))=false:=by simp;omega
 have ht:qy (es.length-j) (jo j es)=jo j es:=aW (by simp);have hr:i+(es.length-j)<=c:=by omega
 simp -dsimp only[YJ,jb.jV,jb.f,jb.rd,xR,uB,lvl,rU,reduceIte,Nat.reduceEqDiff,Nat.reduceAdd,Nat.reduceLeDiff,Nat.reduceBEq,reduceCtorEq,Int.reduceBNe,Int.reduceBEq,Int.reduceLT,Int.reduceLE,Int.reduceNeg,Nat.reduceLT,xY,Int.reduceToNat,zy,um,EE,zQ,zU,zI,zT,truncS,ig,lQ,jW,lu,kK,dI,jP,gK,he]
 repeat refine gZ (by first|(show tH _ _ _ _=true;kernel_rfl)|(show rW _ _=true;kernel_rfl)|omega|assumption) ?_
 simp -dsimp only[YJ,jb.jV,jb.f,jb.rd,xR,uB,lvl,rU,reduceIte,Nat.reduceEqDiff,Nat.reduceAdd,Nat.reduceLeDiff,Nat.reduceBEq,reduceCtorEq,Int.reduceBNe,Int.reduceBEq,Int.reduceLT,Int.reduceLE,Int.reduceNeg,Nat.reduceLT,xY,Int.reduceToNat,zy,um,EE,zQ,zU,zI,zT,truncS,ig,lQ,jW,lu,kK,dI,jP,gK,ht,jd,hr]
 repeat refine gZ (by first|(show tH _ _ _ _=true;kernel_rfl)|(show rW _ _=true;kernel_rfl)|omega|assumption) ?_
 refine gZ (by simp[h0];omega) ?_;have e4:(qy i es).length=i:=by simp;omega
 have e:qy (i+(es.length-j)) (qy i es++jo j es++jo (i+(es.length-j)) es)=qy i es++jo j es:=by
  have e5:(qy i es++jo j es).length=i+(es.length-j):=by rw[iM,e4,jd]
  rw[List.take_append_of_le_length (by omega),aW (by omega)]
 rw[e,List.append_assoc];generalize aY (es.length-(i+(es.length-j))) z++jo (i+(es.length-j)+(es.length-(i+(es.length-j)))) (qy i es++jo j es++jo (i+(es.length-j)) es)=T;generalize qy i es++jo j es=A;refine Jr [] [(0,0),(1,0)] [] (by rfl) ?_ ?_ ?_<;>(simp -dsimp only[rwR,TR,DN,reduceIte,Nat.reduceEqDiff,reduceCtorEq,Nat.reduceAdd,Nat.reduceLeDiff]<;>first|(simp[aW];done)|((try simp only[oO,rq,mG,aP,gV])<;>(repeat' apply gZ)<;>first|rfl|(simp;done)|(simp<;>omega;done)|(congr 1;exact(aW (by simp<;>omega)).symm)))
theorem FG.ins {α:Type}(enc:α->List Cell){P:Program}{f gr sz cb:Nat}{z:List Cell}(h0:sz≠0)(hK:FK P f 3 2 (C.ins sz cb gr z) [.tmp 6]=true){s v r:List α}{i:Int}
 (h:chk (0<=i/\i<=(s.length:Int)/\v.length=1/\(s.length+1)*(cb+sz+1)<=2^46) (some (s.take i.toNat++v++s.drop i.toNat))=some r) (hk:ZO P f sz=true:=by kernel_rfl) :
 nN P f [.one (.own 0 s.length sz),.one (.c (.lit (.int .i64 i))),.one (.own 1 v.length sz)] [.dat sz (List.map enc s),.dat sz (List.map enc v)]
  (λr1 b1=>r1 = .one (.own 2 r.length sz)/\b1=[.dead,.dat sz (List.map enc v),.dat sz (List.map enc r)]):=by
 obtain⟨⟨q1,q2,q3,q4⟩,h⟩:=Aq.1 h;cases h;obtain⟨x,rfl⟩:=List.length_eq_one_iff.1 q3;obtain⟨k,rfl⟩:∃k:Nat,i=k:=⟨i.toNat,by omega⟩;have hf:=ab2 hk (es:=List.map enc s) (v:=enc x) (i:=k) (by rw[List.length_map];omega) (λls lv c hl hc=>by rw[List.length_map]at hl hc;have:=FZ.ins h0 hK (es:=lits ls) (v:=lv.map .lit) (c:=c) (i:=k) (by rw[xw];omega) (by rw[xw];omega) (by rw[xw,hl];exact q4);rw[xw]at this;simpa[lits]using this)
 have e1:(List.take k s++[x]++List.drop k s).length=s.length+1:=by simp;omega
 rw[Int.toNat_natCast,e1];simpa using hf
theorem FG.del {α:Type}(enc:α->List Cell){P:Program}{f sz cb:Nat}{z:List Cell}(h0:sz≠0)(hK:FK P f 3 1 (C.del sz cb z) [.tmp 6]=true){s r:List α}{i j:Int}
 (h:chk (0<=i/\i<j/\j<=(s.length:Int)/\s.length*(cb+sz+1)<=2^46) (some (s.take i.toNat++s.drop j.toNat))=some r) (hk:Ze P f sz=true:=by kernel_rfl) :
 nN P f [.one (.own 0 s.length sz),.one (.c (.lit (.int .i64 i))),.one (.c (.lit (.int .i64 j)))] [.dat sz (List.map enc s)]
  (λr1 b1=>r1 = .one (.own 1 r.length sz)/\b1=[.dead,.dat sz (List.map enc r)]):=by
 obtain⟨⟨q1,q2,q3,q4⟩,h⟩:=Aq.1 h;cases h;obtain⟨k,rfl⟩:∃k:Nat,i=k:=⟨i.toNat,by omega⟩;obtain⟨l,rfl⟩:∃l:Nat,j=l:=⟨j.toNat,by omega⟩;have hf:=ab1 hk (es:=List.map enc s) (i:=k) (j:=l) (by omega) (by rw[List.length_map];omega) (λls c hl hc=>by rw[List.length_map]at hl hc;have:=FZ.del h0 hK (es:=lits ls) (c:=c) (i:=k) (j:=l) (by rw[xw];omega) (by omega) (by rw[xw];omega) (by rw[xw,hl];exact q4);rw[xw]at this;simpa[lits]using this)
 have e1:(List.take k s++List.drop l s).length=k+(s.length-l):=by simp;omega
 rw[Int.toNat_natCast,Int.toNat_natCast,e1];simpa using hf
section
def Ev {α:Type}(g:Nat->Option α)(r:α):Prop:=∃N,∀n,N<=n->g n=some r
section
variable {α β:Type} {g g':Nat->Option α} {r s:α}
theorem Ev.ret (r:α):Ev (λ_=>some r) r:=⟨0,λ_ _=>rfl⟩
theorem Ev.ret' (h:s=r):Ev (λ_=>some s) r:=by subst h;exact Ev.ret _
theorem Ev.up (h:Ev (λn=>g (n+1)) r):Ev g r:=by obtain⟨N,h⟩:=h;refine⟨N+1,λn hn=>?_⟩;obtain⟨m,rfl⟩:∃m,n=m+1:=⟨n-1,by omega⟩;exact h m (by omega)
theorem Ev.bind {h:Nat->Option β}{k:Nat->β->Option α}{a:β}(h1:Ev h a)(h2:Ev (λn=>k n a) r):Ev (λn=>iV (h n) (k n)) r:=by obtain⟨N,h1⟩:=h1;obtain⟨M,h2⟩:=h2;refine⟨max N M,λn hn=>?_⟩;show iV (h n) (k n)=some r;rw[h1 n (by omega)];exact h2 n (by omega)
theorem Ev.chk {p:Prop}[Decidable p](hp:p)(h:Ev g r):Ev (λn=>Ab.chk p (g n)) r:=by obtain⟨N,h⟩:=h;exact⟨N,λn hn=>by show Ab.chk p (g n)=some r;rw[Ab.chk,if_pos hp];exact h n hn⟩
theorem Ev.ct {c:Bool}(hc:c=true)(h:Ev g r):Ev (λn=>cond c (g n) (g' n)) r:=by subst hc;exact h
theorem Ev.cf {c:Bool}(hc:c=false)(h:Ev g' r):Ev (λn=>cond c (g n) (g' n)) r:=by subst hc;exact h
theorem Ev.ite {c:Bool}(h:c=true->Ev g r)(h':c=false->Ev g' r):Ev (λn=>cond c (g n) (g' n)) r:=by
 cases c
 ·exact h' rfl
 ·exact h rfl
theorem Ev.eq (h:Ev g r)(e:r=s):Ev g s:=e▸h
theorem Ev.val (h:Ev g r):∃n,g n=some r:=⟨h.choose,h.choose_spec _ (aA _)⟩
end
theorem wrapN {x:Int}{m:Nat}(h:x=(m:Int))(h1:m<9223372036854775808):ah .i64 x=(m:Int):=by rw[Ip (by omega) (by omega),h]
theorem iP {i:Nat}(h1:i+1<9223372036854775808):ah .i64 ((i:Int)+1)=((i+1:Nat):Int):=wrapN (by omega) h1
theorem jC {α:Type}{l:List α}{i:Nat}(d:α)(h:i<l.length):l.getD i d=l[i]:=by simp[List.getD,h]
theorem iJ {α:Type}{l:List α}{i:Nat}(d:α)(h:i<l.length):l.drop i=l.getD i d::l.drop (i+1):=by rw[jC d h,List.drop_eq_getElem_cons h]
abbrev bl (x y:List UInt8):Bool:=fC x y
theorem Ut (x:List UInt8):bl x []=false:=by cases x<;>rfl
theorem KD (a b:UInt8)(x y:List UInt8):bl (a::x) (b::y)=(decide (a<b)||(a==b&&bl x y)):=rfl
theorem Pz : ∀x:List UInt8,bl x x=false
 |[]=>rfl
 |a::x=>by rw[KD,Pz x];simp
theorem DY : ∀{x y z:List UInt8},bl x y=true->bl y z=true->bl x z=true
 |_,[],_,h,_=>by rw[Ut]at h;cases h
 |_,_::_,[],_,h=>by rw[Ut]at h;cases h
 |[],_::_,_::_,_,_=>rfl
 | a::x,b::y,c::z,h,k=>by
   rw[KD]at *;simp only[Bool.or_eq_true,af,decide_eq_true_eq,beq_iff_eq]at *;rcases h with h|⟨rfl,h⟩<;>rcases k with k|⟨rfl,k⟩
   ·exact .inl (UInt8.lt_trans h k)
   ·exact .inl h
   ·exact .inl k
   ·exact .inr ⟨rfl,DY h k⟩
theorem Uu : ∀{x y:List UInt8},bl x y=false->bl y x=false->x=y
 |[],[],_,_=>rfl
 |[],_::_,h,_=>by cases h
 |_::_,[],_,h=>by cases h
 | a::x,b::y,h,k=>by
   rw[KD]at *;simp only[Bool.or_eq_false_iff,jR,decide_eq_false_iff_not]at *;obtain⟨h1,h2⟩:=h;obtain⟨k1,k2⟩:=k;have e:a=b:=by apply UInt8.toNat_inj.1;simp only[UInt8.lt_iff_toNat_lt]at h1 k1;omega
   subst e;simp only[beq_self_eq_true,Bool.true_eq_false,false_or]at h2 k2;rw[Uu h2 k2]
theorem RG {x y:List UInt8}(h:bl x y=true):bl y x=false:=by
 cases k:bl y x with
 |false=>rfl
 |true=>have:=DY h k;rw[Pz]at this;cases this
theorem Y1 {x y:List UInt8}(h:bl x y=true):x≠y:=by intro e;subst e;rw[Pz]at h;cases h
theorem aex : ∀(x y:List UInt8),jI x y=if bl x y then -1 else if x=y then 0 else 1
 |[],[]=>rfl
 |[],_::_=>rfl
 |_::_,[]=>by simp[jI,Ut]
 | a::x,b::y=>by
   rw[jI,KD];by_cases h:a<b
   ·simp[h]
   ·by_cases k:b<a
    ·have:a≠b:=λe=>(by subst e;exact h k);simp[h,k,this]
    ·have e:a=b:=by
      apply UInt8.toNat_inj.1;simp only[UInt8.lt_iff_toNat_lt]at h k;omega
     subst e;rw[if_neg h,if_neg h,aex x y];simp
theorem Xz {x y:List UInt8} : jI x y=0<->x=y:=by
 rw[aex];by_cases h:bl x y=true
 ·simp only[h,if_true];exact⟨λe=>by omega,λe=>absurd e (Y1 h)⟩
 ·simp only[h];by_cases e:x=y<;>simp[e]
end
def okB (b:UInt8):Bool:=decide (32<=b.toNat)&&decide (b.toNat<=126)
def PT (s:gB):Bool:=s.all okB&&decide (s.length<=12)
def PP (p:List gB):Bool:=p.all PT&&decide (p.length<=5)
def Asc : List gB->Bool
 |[]=>true
 |[_]=>true
 |x::y::r=>fC x y&&Asc (y::r)
def big : Nat:=4611686018427387904
theorem Xt (b:UInt8):ah .i64 (b.toNat:Int)=(b.toNat:Int):=by have:=b.toNat_lt;exact wrapN rfl (by omega)
theorem T.jA (a lo hi:Int):Ev (λn=>G.jA n a lo hi) (decide (lo<=a)&&decide (a<=hi)):=by
 refine Ev.up ?_;simp only[G.jA];refine Ev.ite (λh=>?_) (λh=>?_)
 ·exact Ev.ret' (by rw[h,bY])
 ·exact Ev.ret' (by rw[h,tq])
theorem T.dQ.L1 (s:gB)(hs:s.length<big):∀(k i:Nat),i+k=s.length->Ev (λn=>G.dQ.L1 n s i) ((s.drop i).all okB&&decide (s.length<=12)):=by
 unfold big at hs;intro k
 induction k with
 | zero=>intro i hi;refine Ev.up ?_;simp only[G.dQ.L1];refine Ev.cf (by simp;omega) (Ev.ret' ?_);rw[aI (by omega)];simp;omega
 | succ k ih=>
   intro i hi;refine Ev.up ?_;simp only[G.dQ.L1];refine Ev.ct (by simp;omega) (Ev.chk (by omega) ?_);refine Ev.bind (T.jA _ _ _) ?_;rw[iJ (0:UInt8) (by omega:i<s.length),iD,ak,Xt];have e:(decide ((32:Int)<=((s.getD i 0).toNat:Int))&&decide (((s.getD i 0).toNat:Int)<=126))=okB (s.getD i 0):=(by unfold okB;congr 1<;>(apply decide_eq_decide.2;omega));rw[e];refine Ev.ite (λh=>?_) (λh=>?_)
   ·rw[iP (by omega),h,bY];exact ih (i+1) (by omega)
   ·exact Ev.ret' (by rw[h];rfl)
theorem T.dQ (s:gB)(hs:s.length<big):Ev (λn=>G.dQ n s) (PT s):=by refine Ev.up ?_;simp only[G.dQ];exact T.dQ.L1 s hs s.length 0 (by omega)
theorem T.dm.L1 (s:gB)(hs:s.length<big):∀(k i:Nat),i+k=s.length->Ev (λn=>G.dm.L1 n s i) ((s.drop i).all okB):=by
 unfold big at hs;intro k
 induction k with
 | zero=>intro i hi;refine Ev.up ?_;simp only[G.dm.L1];refine Ev.cf (by simp;omega) (Ev.ret' ?_);rw[aI (by omega)];rfl
 | succ k ih=>
   intro i hi;refine Ev.up ?_;simp only[G.dm.L1];rw[iJ (0:UInt8) (by omega:i<s.length),iD,ak];refine Ev.ct (by simp;omega) (Ev.chk (by omega) ?_);refine Ev.ite (λh=>?_) (λh=>?_)
   ·refine Ev.ret' ?_;have:okB (s.getD i 0)=false:=by
     simp only[decide_eq_true_eq]at h;simp only[okB,jR,decide_eq_false_iff_not];omega
    rw[this];rfl
   ·refine Ev.chk (by omega) ?_;refine Ev.ite (λk=>?_) (λk=>?_)
    ·refine Ev.ret' ?_;have:okB (s.getD i 0)=false:=by
      simp only[decide_eq_true_eq]at k;simp only[okB,jR,decide_eq_false_iff_not];omega
     rw[this];rfl
    ·have:okB (s.getD i 0)=true:=by
      simp only[decide_eq_false_iff_not]at h k;simp only[okB,af,decide_eq_true_eq];omega
     rw[this,bY,iP (by omega)];exact ih (i+1) (by omega)
theorem T.dm (s:gB)(hs:s.length<big):Ev (λn=>G.dm n s) (PT s):=by
 refine Ev.up ?_;simp only[G.dm];refine Ev.ite (λh=>?_) (λh=>?_)
 ·simp only[decide_eq_true_eq]at h;refine Ev.ret' ?_;have:decide (s.length<=12)=false:=by simp;omega
  rw[PT,this,vS]
 ·simp only[decide_eq_false_iff_not]at h;refine(T.dm.L1 s hs s.length 0 (by omega)).eq ?_;have:decide (s.length<=12)=true:=by simp;omega
  rw[PT,this,qY,dI]
def Sm (l:List gB):Prop:=l.length<big/\∀s,s∈l->s.length<big
theorem Sm.get {l:List gB}(h:Sm l){i:Nat}(hi:i<l.length):(l.getD i default).length<big:=by rw[jC _ hi];exact h.2 _ (bz hi)
theorem T.eG.L1 (p:List gB)(hp:Sm p):∀(k i:Nat),i+k=p.length->Ev (λn=>G.eG.L1 n p i) ((p.drop i).all PT&&decide (p.length<=5)):=by
 have hl:=hp.1;unfold big at hl;intro k
 induction k with
 | zero=>intro i hi;refine Ev.up ?_;simp only[G.eG.L1];refine Ev.cf (by simp;omega) (Ev.ret' ?_);rw[aI (by omega)];simp;omega
 | succ k ih=>
   intro i hi;refine Ev.up ?_;simp only[G.eG.L1];refine Ev.ct (by simp;omega) (Ev.chk (by omega) ?_);rw[iJ (default:gB) (by omega:i<p.length),iD,ak];refine Ev.bind (T.dQ _ (hp.get (by omega))) ?_;refine Ev.ite (λh=>?_) (λh=>?_)
   ·rw[iP (by omega),h,bY];exact ih (i+1) (by omega)
   ·exact Ev.ret' (by rw[h];rfl)
theorem T.eG (p:List gB)(hp:Sm p):Ev (λn=>G.eG n p) (PP p):=by refine Ev.up ?_;simp only[G.eG];exact T.eG.L1 p hp p.length 0 (by omega)
theorem T.dS.L1 (p:List gB)(hp:Sm p):∀(k i:Nat),i+k=p.length->Ev (λn=>G.dS.L1 n p i) ((p.drop i).all PT):=by
 have hl:=hp.1;unfold big at hl;intro k
 induction k with
 | zero=>intro i hi;refine Ev.up ?_;simp only[G.dS.L1];refine Ev.cf (by simp;omega) (Ev.ret' ?_);rw[aI (by omega)];rfl
 | succ k ih=>
   intro i hi;refine Ev.up ?_;simp only[G.dS.L1];refine Ev.ct (by simp;omega) (Ev.chk (by omega) ?_);rw[iJ (default:gB) (by omega:i<p.length),iD,ak];refine Ev.bind (T.dm _ (hp.get (by omega))) ?_;refine Ev.ite (λh=>?_) (λh=>?_)
   ·rw[iP (by omega),h,bY];exact ih (i+1) (by omega)
   ·exact Ev.ret' (by rw[h];rfl)
theorem T.dS (p:List gB)(hp:Sm p):Ev (λn=>G.dS n p) (PP p):=by
 refine Ev.up ?_;simp only[G.dS];refine Ev.ite (λh=>?_) (λh=>?_)
 ·simp only[decide_eq_true_eq]at h;refine Ev.ret' ?_;have:decide (p.length<=5)=false:=by simp;omega
  rw[PP,this,vS]
 ·simp only[decide_eq_false_iff_not]at h;refine(T.dS.L1 p hp p.length 0 (by omega)).eq ?_;have:decide (p.length<=5)=true:=by simp;omega
  rw[PP,this,qY,dI]
def NM (l:List gB):Bool:=l.all PT&&Asc l
theorem drop_pred {l:List gB}{i:Nat}(h0:0<i)(h:i<l.length):l.drop (i-1)=l.getD (i-1) default::l.getD i default::l.drop (i+1):=by rw[iJ (default:gB) (by omega:i-1<l.length),show i-1+1=i by omega,iJ (default:gB) h]
theorem T.jG.L1 (l:List gB)(hp:Sm l):∀(k i:Nat),i+k=l.length->Ev (λn=>G.jG.L1 n l i) ((l.drop i).all PT&&Asc (l.drop (i-1))):=by
 have hl:=hp.1;unfold big at hl;intro k
 induction k with
 | zero=>
   intro i hi;refine Ev.up ?_;simp only[G.jG.L1];refine Ev.cf (by simp;omega) (Ev.ret' ?_);rw[aI (by omega)];by_cases h0:i=0
   ·rw[aI (by omega)];rfl
   ·rw[iJ (default:gB) (by omega:i-1<l.length),aI (by omega)];rfl
 | succ k ih=>
   intro i hi;refine Ev.up ?_;simp only[G.jG.L1];refine Ev.ct (by simp;omega) (Ev.chk (by omega) ?_);rw[iJ (default:gB) (by omega:i<l.length),iD,ak];refine Ev.bind (T.dQ _ (hp.get (by omega))) ?_;refine Ev.ite (λh=>?_) (λh=>?_)
   ·rw[h,bY,iP (by omega)];refine Ev.ite (λh0=>?_) (λh0=>?_)
    ·simp only[decide_eq_true_eq]at h0;have e:ah .i64 ((i:Int)-1)=((i-1:Nat):Int):=wrapN (by omega) (by omega);rw[e,ak];refine Ev.chk (by omega) (Ev.chk (by omega) ?_);rw[drop_pred (by omega) (by omega),Asc];have hd:l.getD i default::l.drop (i+1)=l.drop (i+1-1):=(by rw[gK,<- iJ (default:gB) (by omega:i<l.length)]);refine Ev.ite (λh1=>?_) (λh1=>?_)
     ·exact Ev.ret' (by rw[show fC (l.getD (i-1) default) (l.getD i default)=false from RG h1];simp)
     ·refine Ev.ite (λh2=>?_) (λh2=>?_)
      ·rw[beq_iff_eq]at h2;exact Ev.ret' (by rw[show fC (l.getD (i-1) default) (l.getD i default)=false by rw[h2];exact Pz _];simp)
      ·have:fC (l.getD (i-1) default) (l.getD i default)=true:=by
        cases hb:fC (l.getD (i-1) default) (l.getD i default)with
        |true=>rfl
        |false=>rw[Uu h1 hb]at h2;simp at h2
       rw[this,bY,hd];exact ih (i+1) (by omega)
    ·simp only[decide_eq_false_iff_not]at h0;have:i=0:=(by omega);subst this;exact ih 1 (by omega)
   ·exact Ev.ret' (by rw[h];rfl)
theorem T.jG (l:List gB)(hp:Sm l):Ev (λn=>G.jG n l) (NM l):=by refine Ev.up ?_;simp only[G.jG];exact T.jG.L1 l hp l.length 0 (by omega)
theorem T.fP.L1 (l:List gB)(hp:Sm l):∀(k i:Nat),i+k=l.length->Ev (λn=>G.fP.L1 n l i) ((l.drop i).all PT&&Asc (l.drop (i-1))):=by
 have hl:=hp.1;unfold big at hl;intro k
 induction k with
 | zero=>
   intro i hi;refine Ev.up ?_;simp only[G.fP.L1];refine Ev.cf (by simp;omega) (Ev.ret' ?_);rw[aI (by omega)];by_cases h0:i=0
   ·rw[aI (by omega)];rfl
   ·rw[iJ (default:gB) (by omega:i-1<l.length),aI (by omega)];rfl
 | succ k ih=>
   intro i hi;refine Ev.up ?_;simp only[G.fP.L1];refine Ev.ct (by simp;omega) (Ev.chk (by omega) ?_);rw[iJ (default:gB) (by omega:i<l.length),iD,ak];refine Ev.bind (T.dm _ (hp.get (by omega))) ?_;refine Ev.ite (λh=>?_) (λh=>?_)
   ·rw[h,bY,iP (by omega)];refine Ev.ite (λh0=>?_) (λh0=>?_)
    ·simp only[decide_eq_true_eq]at h0;have e:ah .i64 ((i:Int)-1)=((i-1:Nat):Int):=wrapN (by omega) (by omega);rw[e,ak];refine Ev.chk (by omega) ?_;rw[drop_pred (by omega) (by omega),Asc];have hd:l.getD i default::l.drop (i+1)=l.drop (i+1-1):=(by rw[gK,<- iJ (default:gB) (by omega:i<l.length)]);refine Ev.ite (λh1=>?_) (λh1=>?_)
     ·rw[h1,bY,hd];exact ih (i+1) (by omega)
     ·exact Ev.ret' (by rw[h1];simp)
    ·simp only[decide_eq_false_iff_not]at h0;have:i=0:=(by omega);subst this;exact ih 1 (by omega)
   ·exact Ev.ret' (by rw[h];rfl)
theorem T.fP (l:List gB)(hp:Sm l):Ev (λn=>G.fP n l) (NM l&&decide (l.length<=6)):=by
 refine Ev.up ?_;simp only[G.fP];refine Ev.ite (λh=>?_) (λh=>?_)
 ·simp only[decide_eq_true_eq]at h;refine Ev.ret' ?_;have:decide (l.length<=6)=false:=by simp;omega
  rw[this,vS]
 ·simp only[decide_eq_false_iff_not]at h;refine(T.fP.L1 l hp l.length 0 (by omega)).eq ?_;have:decide (l.length<=6)=true:=by simp;omega
  rw[NM,this,qY,dI]
def Fine (B:Nat):Nat->ai->Prop
 |0,_=>False
 |d+1,n=>n.Text.length<=B/\n.Names.length<=B/\(∀s,s∈n.Names->s.length<=B)/\n.Kids.length<=B/\(n.Kind=4->n.Kids.length<=n.Names.length)/\∀k,k∈n.Kids->Fine B d k
def tu (B:Nat):Nat->ai->Prop
 |0,_=>False
 |d+1,n=>n.Text.length<=B/\n.Names.length<=B/\(∀s,s∈n.Names->s.length<=B)/\n.Kids.length<=B/\True/\∀k,k∈n.Kids->tu B d k
theorem Fine.fin0 {B:Nat} : ∀{d:Nat} {n:ai},Fine B d n->tu B d n
 |0,_,h=>h
 |d+1,n,⟨h1,h2,h3,h4,_,h6⟩=>⟨h1,h2,h3,h4,trivial,λk hk=>(h6 k hk).fin0⟩
theorem Fine.mono {B C:Nat}(hB:B<=C):∀{d e:Nat} {n:ai},d<=e->Fine B d n->Fine C e n
 |0,_,_,_,h=>h.elim
 |d+1,0,_,hd,_=>by omega
 | d+1,e+1,n,hd,h=>by obtain⟨h1,h2,h3,h4,h5,h6⟩:=h;exact⟨by omega,by omega,λs hs=>cZ (h3 s hs) hB,by omega,h5,λk hk=>(h6 k hk).mono hB (by omega)⟩
theorem tu.mono {B C:Nat}(hB:B<=C):∀{d e:Nat} {n:ai},d<=e->tu B d n->tu C e n
 |0,_,_,_,h=>h.elim
 |d+1,0,_,hd,_=>by omega
 | d+1,e+1,n,hd,h=>by obtain⟨h1,h2,h3,h4,h5,h6⟩:=h;exact⟨by omega,by omega,λs hs=>cZ (h3 s hs) hB,by omega,h5,λk hk=>(h6 k hk).mono hB (by omega)⟩
def lim : Nat:=4294967296
theorem Fine.sm {B d:Nat}{n:ai}(hB:B<=lim)(h:Fine B d n):Sm n.Names:=by
 cases d with
 |zero=>exact h.elim
 | succ d=>obtain⟨h1,h2,h3,h4,h5,h6⟩:=h;unfold lim at hB;exact⟨by unfold big;omega,λs hs=>by have:=h3 s hs;unfold big;omega⟩
theorem tu.sm {B d:Nat}{n:ai}(hB:B<=lim)(h:tu B d n):Sm n.Names:=by
 cases d with
 |zero=>exact h.elim
 | succ d=>obtain⟨h1,h2,h3,h4,h5,h6⟩:=h;unfold lim at hB;exact⟨by unfold big;omega,λs hs=>by have:=h3 s hs;unfold big;omega⟩
theorem Fine.text {B d:Nat}{n:ai}(hB:B<=lim)(h:Fine B d n):n.Text.length<big:=by
 cases d with
 |zero=>exact h.elim
 |succ d=>obtain⟨h1,_⟩:=h;unfold lim at hB;unfold big;omega
theorem tu.text {B d:Nat}{n:ai}(hB:B<=lim)(h:tu B d n):n.Text.length<big:=by
 cases d with
 |zero=>exact h.elim
 |succ d=>obtain⟨h1,_⟩:=h;unfold lim at hB;unfold big;omega
theorem Fine.kids {B d:Nat}{n:ai}(h:Fine B d n):n.Kids.length<=B:=by
 cases d with
 |zero=>exact h.elim
 |succ d=>exact h.2.2.2.1
theorem tu.kids {B d:Nat}{n:ai}(h:tu B d n):n.Kids.length<=B:=by
 cases d with
 |zero=>exact h.elim
 |succ d=>exact h.2.2.2.1
theorem Fine.names {B d:Nat}{n:ai}(h:Fine B d n):n.Names.length<=B:=by
 cases d with
 |zero=>exact h.elim
 |succ d=>exact h.2.1
theorem tu.names {B d:Nat}{n:ai}(h:tu B d n):n.Names.length<=B:=by
 cases d with
 |zero=>exact h.elim
 |succ d=>exact h.2.1
theorem Fine.map {B d:Nat}{n:ai}(h:Fine B d n)(hk:n.Kind=4):n.Kids.length<=n.Names.length:=by
 cases d with
 |zero=>exact h.elim
 |succ d=>exact h.2.2.2.2.1 hk
theorem Fine.kid {B d:Nat}{n:ai}(h:Fine B (d+1) n){i:Nat}(hi:i<n.Kids.length):Fine B d (n.Kids.getD i default):=by rw[jC _ hi];exact h.2.2.2.2.2 _ (bz hi)
theorem tu.kid {B d:Nat}{n:ai}(h:tu B (d+1) n){i:Nat}(hi:i<n.Kids.length):tu B d (n.Kids.getD i default):=by rw[jC _ hi];exact h.2.2.2.2.2 _ (bz hi)
def Parts (n:ai):Bool:=
 (n.Kind==1||n.Num==0)&&(n.Kind==2||n.Text==[])&&(n.Kind==4||n.Names.length==0) &&
 (if n.Kind=0 then n.Kids.length==0 else if n.Kind=1 then(decide (-999999<=n.Num)&&decide (n.Num<=999999))&&n.Kids.length==0 else if n.Kind=2 then PT n.Text&&n.Kids.length==0
  else if n.Kind=3 then decide (n.Kids.length<=6)else if n.Kind=4 then NM n.Names&&decide (n.Names.length<=6)&&n.Kids.length==n.Names.length else false)
def Shape : Nat->ai->Bool
 |0,_=>false
 |d+1,n=>Parts n&&n.Kids.all (Shape d)
theorem ilen {a b:Nat} : ((a:Int)==(b:Int))=(a==b):=by rw[rX];simp;omega
theorem aeZ {a:Nat} : ((a:Int)==0)=(a==0):=by rw[rX];simp
theorem Ei {a b:Nat} : decide ((a:Int)<=(b:Int))=decide (a<=b):=by rw[rX];simp
def FX (n:ai):Bool:=
 (n.Kind==4||n.Names.length==0) &&
 (if n.Kind=0 then n.Kids.length==0 else if n.Kind=1 then(decide (-999999<=n.Num)&&decide (n.Num<=999999))&&n.Kids.length==0 else if n.Kind=2 then PT n.Text&&n.Kids.length==0
  else if n.Kind=3 then decide (n.Kids.length<=6)else if n.Kind=4 then NM n.Names&&decide (n.Names.length<=6)&&n.Kids.length==n.Names.length else false)
theorem YR (n:ai):Parts n=((n.Kind==1||n.Num==0)&&(n.Kind==2||n.Text==[])&&FX n):=by unfold Parts FX;simp only[Bool.and_assoc]
theorem T0.dw.K1 {B d:Nat}{n:ai}(hB:B<=lim)(h:tu B d n):Ev (λf=>G.dw.K1 f n) (FX n):=by
 refine Ev.up ?_;simp only[G.dw.K1];have ht:=T.dm _ (h.text hB);have hn:=T.fP _ (h.sm hB);have h0:decide ((0:Int)<(n.Names.length:Int)) = !(n.Names.length==0):=by cases hq:n.Names.length<;>simp
 have h6:decide ((n.Kids.length:Int)<=6)=decide (n.Kids.length<=6):=by rw[rX];simp;omega
 rw[h0];have tail:Ev (λf=>cond (n.Kind==0) (some ((n.Kids.length:Int)==0)) (cond (n.Kind==1) (cond (decide ((-999999)<=n.Num)) (cond (decide (n.Num<=999999)) (some ((n.Kids.length:Int)==0)) (some false)) (some false))
  (cond (n.Kind==2) (iV (G.dm f n.Text) λv3=>cond v3 (some ((n.Kids.length:Int)==0)) (some false))
  (cond (n.Kind==3) (some (decide ((n.Kids.length:Int)<=6))) (cond (n.Kind==4) (iV (G.fP f n.Names) λv4=>cond v4 (some ((n.Kids.length:Int)==(n.Names.length:Int))) (some false)) (some false))))))
  (if n.Kind=0 then n.Kids.length==0 else if n.Kind=1 then(decide (-999999<=n.Num)&&decide (n.Num<=999999))&&n.Kids.length==0 else if n.Kind=2 then PT n.Text&&n.Kids.length==0
   else if n.Kind=3 then decide (n.Kids.length<=6)else if n.Kind=4 then NM n.Names&&decide (n.Names.length<=6)&&n.Kids.length==n.Names.length else false):=by
  rw[aeZ,ilen,h6];refine Ev.ite (λe=>Ev.ret' ?_) (λe0=>?_)
  ·rw[if_pos (by simpa using e)]
  rw[if_neg (by simpa using e0)];refine Ev.ite (λe=>?_) (λe1=>?_)
  ·rw[if_pos (by simpa using e)];refine Ev.ite (λk=>Ev.ite (λk2=>Ev.ret' ?_) (λk2=>Ev.ret' ?_)) (λk=>Ev.ret' ?_)
   ·rw[k,k2];simp
   ·rw[k2];simp
   ·rw[k];simp
  rw[if_neg (by simpa using e1)];refine Ev.ite (λe=>?_) (λe2=>?_)
  ·rw[if_pos (by simpa using e)];refine Ev.bind ht (Ev.ite (λk=>Ev.ret' ?_) (λk=>Ev.ret' ?_))
   ·rw[k,bY]
   ·rw[k,tq]
  rw[if_neg (by simpa using e2)];refine Ev.ite (λe=>Ev.ret' ?_) (λe3=>?_)
  ·rw[if_pos (by simpa using e)]
  rw[if_neg (by simpa using e3)];refine Ev.ite (λe=>?_) (λe4=>Ev.ret' ?_)
  ·rw[if_pos (by simpa using e)];refine Ev.bind hn (Ev.ite (λk=>Ev.ret' ?_) (λk=>Ev.ret' ?_))
   ·rw[k,bY]
   ·rw[k,tq]
  ·rw[if_neg (by simpa using e4)]
 refine Ev.ite (λe=>?_) (λe=>?_)
 ·have e':(n.Kind==4)=false:=by simpa using e
  refine Ev.ite (λk=>Ev.ret' ?_) (λk=>?_)
  ·rw[Bool.not_eq_true']at k;rw[FX,e',k];rfl
  ·rw[Bool.not_eq_false']at k;exact tail.eq (by rw[FX,k,uH,bY])
 ·have e':(n.Kind==4)=true:=by simpa using e
  exact tail.eq (by rw[FX,e',wZ,bY])
theorem T0.dw {B d:Nat}{n:ai}(hB:B<=lim)(h:tu B d n):Ev (λf=>G.dw f n) (Parts n):=by
 refine Ev.up ?_;simp only[G.dw];have hk:=T0.dw.K1 hB h;rw[YR];have tail:Ev (λf=>cond (n.Kind != 2) (cond (n.Text==[]) (G.dw.K1 f n) (some false)) (G.dw.K1 f n)) ((n.Kind==2||n.Text==[])&&FX n):=by
  refine Ev.ite (λe=>?_) (λe=>?_)
  ·have e':(n.Kind==2)=false:=(by simpa using e);refine Ev.ite (λk=>?_) (λk=>Ev.ret' ?_)
   ·exact hk.eq (by rw[k,uH,bY])
   ·rw[e',k];rfl
  ·have e':(n.Kind==2)=true:=(by simpa using e);exact hk.eq (by rw[e',wZ,bY])
 refine Ev.ite (λe=>?_) (λe=>?_)
 ·have e':(n.Kind==1)=false:=by simpa using e
  refine Ev.ite (λk=>Ev.ret' ?_) (λk=>?_)
  ·have:(n.Num==0)=false:=(by simpa using k);rw[e',this];rfl
  ·have:(n.Num==0)=true:=(by simpa using k);exact tail.eq (by rw[this,uH,bY])
 ·have e':(n.Kind==1)=true:=by simpa using e
  exact tail.eq (by rw[e',wZ,bY])
theorem T0.lJ.L1 {B D d:Nat}{n:ai}(hB:B<=lim)(h:tu B (D+1) n)(hd:d<1000)(hs:∀k,k∈n.Kids->Ev (λf=>G.eF f k d) (Shape d k)) :
 ∀(k i:Nat),i+k=n.Kids.length->Ev (λf=>G.lJ.L1 f n ((d+1:Nat):Int) i) ((n.Kids.drop i).all (Shape d)):=by
 have hl:=h.kids;unfold lim at hB;intro k
 induction k with
 | zero=>intro i hi;refine Ev.up ?_;simp only[G.lJ.L1];refine Ev.cf (by simp;omega) (Ev.ret' ?_);rw[aI (by omega)];rfl
 | succ k ih=>
   intro i hi;refine Ev.up ?_;simp only[G.lJ.L1];refine Ev.ct (by simp;omega) (Ev.chk (by omega) ?_);rw[iJ (default:ai) (by omega:i<n.Kids.length),iD,ak];have e:ah .i64 (((d+1:Nat):Int)-1)=(d:Int):=wrapN (by omega) (by omega);rw[e];refine Ev.bind (hs _ (by rw[jC _ (by omega:i<n.Kids.length)];exact bz _)) ?_;refine Ev.ite (λh=>?_) (λh=>?_)
   ·rw[iP (by omega),h,bY];exact ih (i+1) (by omega)
   ·exact Ev.ret' (by rw[h];rfl)
theorem T0.lJ {B D d:Nat}{n:ai}(hB:B<=lim)(h:tu B (D+1) n)(hd:d<1000)(hs:∀k,k∈n.Kids->Ev (λf=>G.eF f k d) (Shape d k)) :
 Ev (λf=>G.lJ f n ((d+1:Nat):Int)) (n.Kids.all (Shape d)):=by
 refine Ev.up ?_;simp only[G.lJ];exact T0.lJ.L1 hB h hd hs n.Kids.length 0 (by omega)
def ShK (d:Nat)(n:ai):Bool:=
 if n.Kind=1 then decide (-999999<=n.Num)&&decide (n.Num<=999999)else if n.Kind=2 then PT n.Text else if n.Kind=3 then n.Kids.all (Shape d)
 else if n.Kind=4 then n.Names.length==n.Kids.length&&NM n.Names&&n.Kids.all (Shape d)else n.Kind==0
theorem T0.eF.K1 {B D d:Nat}{n:ai}(hB:B<=lim)(h:tu B (D+1) n)(hd:d<1000)(hs:∀k,k∈n.Kids->Ev (λf=>G.eF f k d) (Shape d k)) :
 Ev (λf=>G.eF.K1 f n ((d+1:Nat):Int)) (ShK d n):=by
 refine Ev.up ?_;simp only[G.eF.K1];have hk:=T0.lJ hB h hd hs;unfold ShK;refine Ev.ite (λe=>?_) (λe1=>?_)
 ·rw[if_pos (by simpa using e)];exact Ev.bind (T.jA _ _ _) (Ev.ret _)
 rw[if_neg (by simpa using e1)];refine Ev.ite (λe=>?_) (λe2=>?_)
 ·rw[if_pos (by simpa using e)];exact Ev.bind (T.dQ _ (h.text hB)) (Ev.ret _)
 rw[if_neg (by simpa using e2)];refine Ev.ite (λe=>?_) (λe3=>?_)
 ·rw[if_pos (by simpa using e)];exact Ev.bind hk (Ev.ret _)
 rw[if_neg (by simpa using e3)];refine Ev.ite (λe=>?_) (λe4=>?_)
 ·rw[if_pos (by simpa using e),ilen];refine Ev.ite (λk=>?_) (λk=>Ev.ret' (by rw[k];rfl));refine Ev.bind (T.jG _ (h.sm hB)) ?_;refine Ev.ite (λk2=>?_) (λk2=>Ev.ret' (by rw[k2];simp));exact Ev.bind hk (Ev.ret' (by rw[k,k2];rfl))
 ·exact Ev.ret' (by rw[if_neg (by simpa using e4)])
theorem ae0 {a:Nat} : decide ((0:Int)<(a:Int)) = !(a==0):=by cases a<;>simp
theorem UL {c a:Bool}{g:Nat->Option Bool}{V:Bool}(h:Ev g V):Ev (λf=>cond c (cond a (some false) (g f)) (g f)) ((!c || !a)&&V):=by
 cases c<;>cases a
 ·exact h
 ·exact h
 ·exact h
 ·exact Ev.ret _
theorem abz {c a:Bool}{g:Nat->Option Bool}{V:Bool}(h:Ev g V):Ev (λf=>cond c (cond a (g f) (some false)) (g f)) ((!c||a)&&V):=by
 cases c<;>cases a
 ·exact h
 ·exact h
 ·exact Ev.ret _
 ·exact h
theorem Gw {n:ai}(h:6<n.Kids.length):Parts n=false:=by
 have e0:(n.Kids.length==0)=false:=beq_eq_false_iff_ne.2 (by omega);have e6:decide (n.Kids.length<=6)=false:=by simp;omega
 have e4:(NM n.Names&&decide (n.Names.length<=6)&&n.Kids.length==n.Names.length)=false:=by
  cases h1:decide (n.Names.length<=6)with
  |false=>simp
  | true=>have:(n.Kids.length==n.Names.length)=false:=(by simp at h1;simp;omega);rw[this,vS]
 unfold Parts;rw[e0,e6,e4];simp
theorem aaH {d:Nat}{n:ai}(h:n.Kids.length<=6) :
 ((!(n.Kind != 1) || !(n.Num != 0))&&((!(n.Kind != 2)||n.Text==[])&&((!(n.Kind != 4) || !(!(n.Names.length==0)))&&((!(decide (n.Kind<3)) || !(!(n.Kids.length==0)))&&ShK d n))))=Shape (d+1) n:=by
 have e6:decide (n.Kids.length<=6)=true:=by simp;omega
 have hall:n.Kids.length=0->n.Kids.all (Shape d)=true:=λe=>by rw[dK e];rfl
 have hb:∀x y:Int,(!(x != y))=(x==y):=λx y=>by simp[bne]
 rw[hb,hb,hb,hb];unfold Shape Parts ShK;simp only[Bool.not_not,Bool.and_assoc]
 congr 1
 congr 1
 congr 1
 rw[e6];by_cases k0:n.Kind=0
 ·simp only[k0];cases hz:(n.Kids.length==0)<;>simp_all
 by_cases k1:n.Kind=1
 ·simp only[k1];cases hz:(n.Kids.length==0)<;>simp_all
 by_cases k2:n.Kind=2
 ·simp only[k2];cases hz:(n.Kids.length==0)<;>simp_all
 by_cases k3:n.Kind=3
 ·simp[k3]
 by_cases k4:n.Kind=4
 ·simp only[k4];have hc:(n.Kids.length==n.Names.length)=(n.Names.length==n.Kids.length):=by rw[rX];simp;omega
  rw[hc];cases hz:(n.Names.length==n.Kids.length)
  ·simp
  ·have:decide (n.Names.length<=6)=true:=(by simp at hz;simp;omega);simp[this]
 ·simp[k0,k1,k2,k3,k4]
def Cnt : Nat->ai->Nat
 |0,_=>0
 |d+1,n=>1+(n.Kids.map (Cnt d)).sum
theorem nO {d:Nat}{n:ai}(h:Shape (d+1) n=true):Parts n=true:=by unfold Shape at h;simp only[af]at h;exact h.1
theorem oL {d:Nat}{n:ai}(h:Shape (d+1) n=true):∀k,k∈n.Kids->Shape d k=true:=by unfold Shape at h;simp only[af]at h;exact aH.1 h.2
theorem Cf {d:Nat}{n:ai}(h:Shape d n=true):n.Kids.length<=6:=by
 cases d with
 |zero=>cases h
 | succ d=>
   by_cases k:n.Kids.length<=6
   ·exact k
   ·have:=Gw (n:=n) (by omega);rw[nO h]at this;cases this
theorem aaM {α:Type}(f:α->Nat)(m:Nat):∀l:List α,(∀x,x∈l->f x<=m)->(l.map f).sum<=l.length*m
 |[],_=>by simp
 | x::l,h=>by have h1:=aaM f m l (λy hy=>h y (by simp[hy]));have h2:=h x (by simp);simp only[aP,lG,lU,Nat.add_mul];omega
theorem cnt_le : ∀{d:Nat} {n:ai},Shape d n=true->Cnt d n<=7^d
 |0,_,h=>by cases h
 | d+1,n,h=>by have hk:=oL h;have:=aaM (Cnt d) (7^d) n.Kids (λk hk'=>cnt_le (hk k hk'));have h6:=Cf h;have hm:n.Kids.length*7^d<=6*7^d:=Nat.mul_le_mul_right _ h6;have hp:1<=7^d:=Nat.one_le_pow _ _ (by omega);unfold Cnt;rw[Nat.pow_succ];omega
theorem aaB {d:Nat}(h:d<=5):7^d<=16807:=cZ (Nat.pow_le_pow_right (by omega) h) (by decide)
theorem T0.eF {B:Nat}(hB:B<=lim):∀(d D:Nat) (n:ai),d<1000->tu B D n->Ev (λf=>G.eF f n (d:Int)) (Shape d n):=by
 intro d
 induction d with
 | zero=>intro D n _ h;refine Ev.up ?_;simp only[G.eF];exact Ev.ct (by simp) (Ev.ret _)
 | succ d ih=>
   intro D n hd h;cases D with
   |zero=>exact h.elim
   |succ D=>
   have hK:=T0.eF.K1 (d:=d) hB h (by omega) (λk hk=>ih D k (by omega) (h.2.2.2.2.2 k hk));refine Ev.up ?_;simp only[G.eF];rw[ae0,ae0];have t1:=UL (c:=decide (n.Kind<3)) (a:= !(n.Kids.length==0)) hK;have t2:=UL (c:=n.Kind != 4) (a:= !(n.Names.length==0)) t1;have t3:=abz (c:=n.Kind != 2) (a:=n.Text==[]) t2;have t4:=UL (c:=n.Kind != 1) (a:=n.Num != 0) t3;refine Ev.cf (by simp;omega) ?_;refine Ev.ite (λe=>Ev.ret' ?_) (λe=>t4.eq ?_)
   ·simp only[decide_eq_true_eq]at e;rw[Shape,Gw (by omega)];rfl
   ·simp only[decide_eq_false_iff_not]at e;exact aaH (by omega)
theorem T0.jc.L1 {B D d:Nat}{n:ai}(hB:B<=lim)(h:tu B (D+1) n)(hs:∀k,k∈n.Kids->Ev (λf=>G.jc f k) ((Cnt d k:Nat):Int)) :
 ∀(k i c:Nat),i+k=n.Kids.length->c+((n.Kids.drop i).map (Cnt d)).sum<big->Ev (λf=>G.jc.L1 f n (c:Int) i) ((c+((n.Kids.drop i).map (Cnt d)).sum:Nat):Int):=by
 have hl:=h.kids;unfold lim at hB;unfold big;intro k
 induction k with
 | zero=>intro i c hi hc;refine Ev.up ?_;simp only[G.jc.L1];refine Ev.cf (by simp;omega) (Ev.ret' ?_);rw[aI (by omega)];rfl
 | succ k ih=>intro i c hi;rw[iJ (default:ai) (by omega:i<n.Kids.length),aP,lG];intro hc;refine Ev.up ?_;simp only[G.jc.L1];refine Ev.ct (by simp;omega) (Ev.chk (by omega) ?_);rw[ak];refine Ev.bind (hs _ (by rw[jC _ (by omega:i<n.Kids.length)];exact bz _)) ?_;rw[iP (by omega),wrapN (m:=c+Cnt d (n.Kids.getD i default)) (by omega) (by omega)];exact(ih (i+1) (c+Cnt d (n.Kids.getD i default)) (by omega) (by omega)).eq (by congr 1;omega)
theorem T0.jc {B:Nat}(hB:B<=lim):∀(d D:Nat) (n:ai),d<=5->tu B D n->Shape d n=true->Ev (λf=>G.jc f n) ((Cnt d n:Nat):Int):=by
 intro d
 induction d with
 |zero=>intro D n _ _ h;cases h
 | succ d ih=>
   intro D n hd h hS;cases D with
   |zero=>exact h.elim
   |succ D=>
   have hS':=oL hS;refine Ev.up ?_;simp only[G.jc];have:=cnt_le (d:=d+1) (n:=n) hS;have hp:=aaB hd;refine(T0.jc.L1 hB h (λk hk=>ih D k (by omega) (h.2.2.2.2.2 k hk) (hS' k hk)) n.Kids.length 0 1 (by omega) ?_).eq rfl;rw[dI];show Cnt (d+1) n<big;unfold big;omega
def Val (n:ai):Bool:=Shape 5 n&&decide (Cnt 5 n<=40)
theorem T0.fZ {B D:Nat}{n:ai}(hB:B<=lim)(h:tu B D n):Ev (λf=>G.fZ f n) (Val n):=by refine Ev.up ?_;simp only[G.fZ];refine Ev.bind (T0.eF hB 5 D n (by omega) h) (Ev.ite (λe=>?_) (λe=>Ev.ret' (by rw[Val,e];rfl)));refine Ev.bind (T0.jc hB 5 D n (by omega) h e) (Ev.ret' ?_);rw[Val,e,bY];apply decide_eq_decide.2;omega
theorem T.fZ {B D:Nat}{n:ai}(hB:B<=lim)(h:Fine B D n):Ev (λf=>G.fZ f n) (Val n):=T0.fZ hB h.fin0
theorem T0.cO.L1 {B D d l:Nat}{n:ai}(hB:B<=lim)(h:tu B (D+1) n)(hl:l<1000)
 (hs:∀k,k∈n.Kids->∃c dp,Ev (λf=>G.cO f k ((l+1:Nat):Int)) (c,dp,Shape d k)/\(Shape d k=true->c=((Cnt d k:Nat):Int))) :
 ∀ (k i c:Nat) (dp:Int),i+k=n.Kids.length->(n.Kids.drop i).all (Shape d)=true->c+((n.Kids.drop i).map (Cnt d)).sum<big ->
   ∃dp',Ev (λf=>G.cO.L1 f n (l:Int) (c:Int) dp i) (((c+((n.Kids.drop i).map (Cnt d)).sum:Nat):Int),dp',true):=by
 have hk:=h.kids;unfold lim at hB;unfold big;intro k
 induction k with
 | zero=>intro i c dp hi _ hc;refine⟨dp,Ev.up ?_⟩;simp only[G.cO.L1];refine Ev.cf (by simp;omega) (Ev.ret' ?_);rw[aI (by omega)];rfl
 | succ k ih=>intro i c dp hi;rw[iJ (default:ai) (by omega:i<n.Kids.length),aP,lG,iD,af];intro⟨hS,hA⟩ hc;obtain⟨c1,d1,h1,h2⟩:=hs (n.Kids.getD i default) (by rw[jC _ (by omega:i<n.Kids.length)];exact bz _);have e:=h2 hS;subst e;obtain⟨dp',g1⟩:=ih (i+1) (c+Cnt d (n.Kids.getD i default)) (if ah .i64 (d1+1)>dp then ah .i64 (d1+1)else dp) (by omega) hA (by omega);refine⟨dp',Ev.up ?_⟩;simp only[G.cO.L1];refine Ev.ct (by simp;omega) (Ev.chk (by omega) ?_);rw[ak,iP (by omega)];refine Ev.bind h1 ?_;refine Ev.ct hS ?_;rw[iP (by omega),wrapN (m:=c+Cnt d (n.Kids.getD i default)) (by omega) (by omega)];exact g1.eq (by rw[Nat.add_assoc])
theorem T0.cO.L1f {B D d l:Nat}{n:ai}(hB:B<=lim)(h:tu B (D+1) n)(hl:l<1000)
 (hs:∀k,k∈n.Kids->∃c dp,Ev (λf=>G.cO f k ((l+1:Nat):Int)) (c,dp,Shape d k)) :
 ∀(k i:Nat) (c dp:Int),i+k=n.Kids.length->(n.Kids.drop i).all (Shape d)=false->Ev (λf=>G.cO.L1 f n (l:Int) c dp i) (0,0,false):=by
 have hk:=h.kids;unfold lim at hB;intro k
 induction k with
 | zero=>intro i c dp hi hA;rw[aI (by omega)]at hA;cases hA
 | succ k ih=>intro i c dp hi;rw[iJ (default:ai) (by omega:i<n.Kids.length),iD];intro hA;obtain⟨c1,d1,h1⟩:=hs (n.Kids.getD i default) (by rw[jC _ (by omega:i<n.Kids.length)];exact bz _);refine Ev.up ?_;simp only[G.cO.L1];refine Ev.ct (by simp;omega) (Ev.chk (by omega) ?_);rw[ak,iP (by omega)];refine Ev.bind h1 ?_;refine Ev.ite (λhS=>?_) (λhS=>Ev.ret _);have hS:Shape d (n.Kids.getD i default)=true:=hS;rw[hS,bY]at hA;rw[iP (by omega)];exact ih (i+1) _ _ (by omega) hA
theorem T0.cO {B:Nat}(hB:B<=lim):∀(d l D:Nat) (n:ai),d+l=6->1<=l->tu B D n ->
 ∃c dp,Ev (λf=>G.cO f n (l:Int)) (c,dp,Shape d n)/\(Shape d n=true->c=((Cnt d n:Nat):Int)):=by
 intro d
 induction d with
 | zero=>intro l D n hl h1 h;refine⟨0,0,Ev.up ?_,λe=>by cases e⟩;simp only[G.cO];exact Ev.ct (by simp;omega) (Ev.ret _)
 | succ d ih=>
   intro l D n hl h1 h;cases D with
   |zero=>exact h.elim
   |succ D=>
   have hs:=λk (hk:k∈n.Kids)=>ih (l+1) D k (by omega) (by omega) (h.2.2.2.2.2 k hk);have hp:=T0.dw hB h;cases hS:Shape (d+1) n with
   | true=>have hk:=oL hS;have hc:=cnt_le hS;have hpw:=aaB (d:=d+1) (by omega);obtain⟨dp',g⟩:=T0.cO.L1 hB h (by omega) hs n.Kids.length 0 1 1 (by omega) (by rw[dI];exact aH.2 hk) (by rw[dI];unfold big;show Cnt (d+1) n<_;omega);rw[dI]at g;refine⟨((Cnt (d+1) n:Nat):Int),dp',Ev.up ?_,λ_=>rfl⟩;simp only[G.cO];exact Ev.cf (by simp;omega) (Ev.bind hp (Ev.ct (nO hS) g))
   | false=>
     refine⟨0,0,Ev.up ?_,λe=>by cases e⟩;simp only[G.cO];refine Ev.cf (by simp;omega) (Ev.bind hp (Ev.ite (λe=>?_) (λe=>Ev.ret _)));refine T0.cO.L1f (d:=d) hB h (by omega) (λk hk=>?_) n.Kids.length 0 1 1 (by omega) ?_
     ·obtain⟨c,dp,g,_⟩:=hs k hk;exact⟨c,dp,g⟩
     ·rw[dI];unfold Shape at hS;rw[e,bY]at hS;exact hS
theorem T0.cu {B D:Nat}{n:ai}(hB:B<=lim)(h:tu B D n):Ev (λf=>G.cu f n) (Val n):=by
 obtain⟨c,dp,g,hc⟩:=T0.cO hB 5 1 D n rfl (by omega) h;refine Ev.up ?_;simp only[G.cu];refine Ev.bind g (Ev.ite (λe=>Ev.ret' ?_) (λe=>Ev.ret' ?_))
 ·have e:Shape 5 n=true:=e;show decide (c<=40)=_;rw[hc e,Val,e,bY];apply decide_eq_decide.2;omega
 ·have e:Shape 5 n=false:=e;rw[Val,e];rfl
theorem T.cu {B D:Nat}{n:ai}(hB:B<=lim)(h:Fine B D n):Ev (λf=>G.cu f n) (Val n):=T0.cu hB h.fin0
theorem T0.bC.L1 {B D:Nat}{n:ai}(hB:B<=lim)(h:tu B (D+1) n)(hs:∀k,k∈n.Kids->Ev (λf=>G.bC f k) k) :
 ∀(k i:Nat),i+k=n.Kids.length->Ev (λf=>G.bC.L1 f n i (n.Kids.take i)) n:=by
 have hl:=h.kids;have hn:=h.names;unfold lim at hB;intro k
 induction k with
 | zero=>intro i hi;refine Ev.up ?_;simp only[G.bC.L1];refine Ev.cf (by simp;omega) (Ev.chk (by omega) (Ev.ret' ?_));rw[aW (by omega)];cases n;rfl
 | succ k ih=>intro i hi;refine Ev.up ?_;simp only[G.bC.L1];refine Ev.ct (by simp;omega) (Ev.chk (by omega) ?_);rw[ak];refine Ev.bind (hs _ (by rw[jC _ (by omega:i<n.Kids.length)];exact bz _)) ?_;refine Ev.chk (by rw[dW];omega) ?_;have e:n.Kids.take i++[n.Kids.getD i default]=n.Kids.take (i+1):=(by rw[jC _ (by omega:i<n.Kids.length),kR (by omega)]);rw[iP (by omega),e];exact ih (i+1) (by omega)
theorem T0.bC {B:Nat}(hB:B<=lim):∀{D:Nat} {n:ai},tu B D n->Ev (λf=>G.bC f n) n:=by
 intro D
 induction D with
 |zero=>intro n h;exact h.elim
 | succ D ih=>intro n h;refine Ev.up ?_;simp only[G.bC];exact T0.bC.L1 hB h (λk hk=>ih (h.2.2.2.2.2 k hk)) n.Kids.length 0 (by omega)
theorem T.bC {B:Nat}(hB:B<=lim){D:Nat}{n:ai}(h:Fine B D n):Ev (λf=>G.bC f n) n:=T0.bC hB h.fin0
theorem T0.aO.L2 {B D:Nat}{n:ai}(zs:List gB)(hB:B<=lim)(h:tu B (D+1) n)(hs:∀k,k∈n.Kids->Ev (λf=>G.aO f k) k) :
 ∀(k i:Nat) (z:List ai),i+k=n.Kids.length->z.length=n.Kids.length->z.take i=n.Kids.take i->Ev (λf=>G.aO.L2 f n zs i z) (ai.mk n.Kind n.Num n.Text zs n.Kids):=by
 have hl:=h.kids;unfold lim at hB;intro k
 induction k with
 | zero=>intro i z hi hz ht;refine Ev.up ?_;simp only[G.aO.L2];refine Ev.cf (by simp;omega) (Ev.ret' ?_);rw[aW (by omega),aW (by omega)]at ht;rw[ht]
 | succ k ih=>intro i z hi hz ht;refine Ev.up ?_;simp only[G.aO.L2];refine Ev.ct (by simp;omega) (Ev.chk (by omega) ?_);rw[ak];refine Ev.bind (hs _ (by rw[jC _ (by omega:i<n.Kids.length)];exact bz _)) ?_;refine Ev.chk (by omega) ?_;rw[iP (by omega)];refine ih (i+1) _ (by omega) (by rw[pM];exact hz) ?_;rw[jC _ (by omega:i<n.Kids.length),kR (by rw[pM];omega),kR (by omega:i<n.Kids.length),List.getElem_set_self,List.take_set_of_le (aA i),ht]
theorem T0.aO {B:Nat}(hB:B<=lim):∀{D:Nat} {n:ai},tu B D n->Ev (λf=>G.aO f n) n:=by
 intro D
 induction D with
 |zero=>intro n h;exact h.elim
 | succ D ih=>
   intro n h;have hl:=h.kids;have hn:=h.names;have hB':=hB;unfold lim at hB';have hK:Ev (λf=>G.aO.K1 f n n.Names) n:=by
    refine Ev.up ?_;simp only[G.aO.K1];refine Ev.ite (λe=>?_) (λe=>Ev.ret' ?_)
    ·refine Ev.chk (by omega) ?_;refine(T0.aO.L2 n.Names hB h (λk hk=>ih (h.2.2.2.2.2 k hk)) n.Kids.length 0 (aY n.Kids.length (ai.mk 0 0 [] [] [])) (by omega) (by simp) rfl).eq ?_;cases n;rfl
    ·have:n.Kids=[]:=by
      apply dK;simp only[decide_eq_false_iff_not]at e;omega
     cases n;simp only at this;subst this;rfl
   refine Ev.up ?_;simp only[G.aO];refine Ev.ite (λe=>?_) (λe=>?_)
   ·exact Ev.chk (by omega) hK
   ·have:n.Names=[]:=by
     apply dK;simp only[decide_eq_false_iff_not]at e;omega
    rw[this]at hK;exact hK
theorem T.aO {B:Nat}(hB:B<=lim){D:Nat}{n:ai}(h:Fine B D n):Ev (λf=>G.aO f n) n:=T0.aO hB h.fin0
def D8 (i:Nat):gB:=if i<10 then [iW (48+i)]else D8 (i/10)++[iW (48+i%10)]
 termination_by i
theorem Gg {i:Nat}(h:i<10):D8 i=[iW (48+i)]:=by rw[D8,if_pos h]
theorem LQ {i:Nat}(h:¬i<10):D8 i=D8 (i/10)++[iW (48+i%10)]:=by rw[D8,if_neg h]
theorem Zd : ∀(k i:Nat),i<k->(D8 i).length<=i+1:=by
 intro k
 induction k with
 |zero=>intro i h;omega
 | succ k ih=>
   intro i h;by_cases hi:i<10
   ·rw[Gg hi];simp
   ·rw[LQ hi,iM];have:=ih (i/10) (by omega);simp only[List.length_singleton];omega
theorem wrap_u8 {m:Nat}(h:m<256):ah .u8 (m:Int)=m:=by simp only[ah,iG,qK];simp;omega
theorem T.ji : ∀(k i:Nat),i<k->i<lim->Ev (λf=>G.ji f (i:Int)) (D8 i):=by
 intro k
 induction k with
 |zero=>intro i h;omega
 | succ k ih=>
   intro i h hl;unfold lim at hl;have hm:4294967296<maxLen:=(by decide);refine Ev.up ?_;simp only[G.ji];refine Ev.cf (by simp) ?_;refine Ev.ite (λe=>?_) (λe=>?_)
   ·simp only[decide_eq_true_eq]at e;refine Ev.chk (by omega) (Ev.ret' ?_);rw[Gg (by omega),wrapN (m:=48+i) (by omega) (by omega),wrap_u8 (by omega),ak]
   ·simp only[decide_eq_false_iff_not]at e;have e1:xJ (i:Int) 10=((i/10:Nat):Int):=(by rw[Int.tdiv_eq_ediv_of_nonneg (by omega)];omega);have e2:zH (i:Int) 10=((i%10:Nat):Int):=(by rw[Int.tmod_eq_emod_of_nonneg (by omega)];omega);rw[e1,e2,wrapN (m:=i/10) rfl (by omega),wrapN (m:=48+i%10) (by omega) (by omega),wrap_u8 (by omega),ak];refine Ev.bind (ih (i/10) (by omega) (by unfold lim;omega)) ?_;have:=Zd (i/10+1) (i/10) (by omega);refine Ev.chk (by omega) (Ev.chk (by omega) (Ev.ret' ?_));exact(LQ (by omega)).symm
theorem T.decimal {i:Nat}(h:i<lim):Ev (λf=>G.ji f (i:Int)) (D8 i):=T.ji (i+1) i (by omega) h
theorem ac6 : ∀(k i:Nat),i<k->Lib.decDigits i=D8 i:=by
 intro k
 induction k with
 |zero=>intro i h;omega
 | succ k ih=>
   intro i h;by_cases h10:i<10
   ·rw[Lib.decDigits_one h10,Gg h10]
   ·rw[LQ h10,Lib.decDigits,dif_neg h10,ih (i/10) (by omega)]
theorem ZR (i:Nat):qx (i:Int)=D8 i:=by unfold qx;rw[if_neg (by omega),ak,ac6 (i+1) i (by omega)]
theorem T.Itoa {n:Int}(h : -900000000000000<=n/\n<=900000000000000):Ev (λf=>G.strconv_Itoa f n) (qx n):=by refine Ev.up ?_;simp only[G.strconv_Itoa];exact Ev.chk ⟨by omega,cZ (Lib.itoa_length_le n (by omega) (by omega)) (by decide)⟩ (Ev.ret _)
theorem T.strconv_Itoa {i:Nat}(h:i<10):Ev (λf=>G.strconv_Itoa f (i:Int)) (D8 i):=by
 have:=T.Itoa (n:=(i:Int)) (by omega)
 rwa[ZR]at this
def hit (n:ai)(s:gB)(j:Nat):Bool:=(n.Kind==4&&n.Names.getD j default==s)||(n.Kind==3&&D8 j==s)
def DJ (n:ai)(s:gB):Option Nat:=(mJ 0 n.Kids.length).find? (hit n s)
def Oc : Option Nat->Int
 |some j=>j
 |none=> -1
theorem xU {n:ai}{s:gB}{j:Nat}(h:DJ n s=some j):j<n.Kids.length:=by have:=List.mem_of_find?_eq_some h;simp at this;exact this
theorem KJ {n:ai}{s:gB}{j:Nat}(h:DJ n s=some j):hit n s j=true:=List.find?_some h
theorem T.fO.L1 {B D:Nat}{n:ai}(s:gB)(hB:B<=lim)(h:Fine B D n) :
 ∀(k i:Nat),i+k=n.Kids.length->Ev (λf=>G.fO.L1 f n s i) (Oc ((mJ i k).find? (hit n s))):=by
 have hl:=h.kids;have hm:=h.map;intro k
 induction k with
 | zero=>intro i hi;refine Ev.up ?_;simp only[G.fO.L1];exact Ev.cf (by simp;omega) (Ev.ret _)
 | succ k ih=>
   intro i hi;have hih:=ih (i+1) (by omega);have hd:=T.decimal (i:=i) (by omega);unfold lim at hB;rw[uO,sD];have afQ:n.Kind≠4->Ev (λf=>cond (n.Kind==3) (iV (G.ji f (i:Int)) λv5=>cond (v5==s) (some (i:Int)) (G.fO.L1 f n s (ah .i64 ((i:Int)+1)))) (G.fO.L1 f n s (ah .i64 ((i:Int)+1))))
    (Oc (match hit n s i with|true=>some i|false=>(mJ (i+1) k).find? (hit n s))):=by
    intro h4;have e4:(n.Kind==4)=false:=(by simpa using h4);rw[iP (by omega)];refine Ev.ite (λe=>?_) (λe=>?_)
    ·refine Ev.bind hd (Ev.ite (λe2=>Ev.ret' ?_) (λe2=>?_))
     ·rw[show hit n s i=true by unfold hit;rw[e,e2,e4];rfl];rfl
     ·exact hih.eq (by rw[show hit n s i=false by unfold hit;rw[e,e2,e4];rfl])
    ·exact hih.eq (by rw[show hit n s i=false by unfold hit;rw[e,e4];rfl])
   refine Ev.up ?_;simp only[G.fO.L1];refine Ev.ct (by simp;omega) ?_;refine Ev.ite (λe=>?_) (λe=>afQ (by simpa using e));have h4:n.Kind=4:=(by simpa using e);have:=hm h4;refine Ev.chk (by omega) ?_;rw[ak];refine Ev.ite (λe2=>Ev.ret' ?_) (λe2=>?_)
   ·rw[show hit n s i=true by unfold hit;rw[e,e2];rfl];rfl
   ·refine Ev.cf (by rw[h4];rfl) ?_;rw[iP (by omega)];exact hih.eq (by rw[show hit n s i=false by unfold hit;rw[e2,h4];rfl])
theorem T.fO {B D:Nat}{n:ai}(s:gB)(hB:B<=lim)(h:Fine B D n):Ev (λf=>G.fO f n s) (Oc (DJ n s)):=by refine Ev.up ?_;simp only[G.fO];exact T.fO.L1 s hB h n.Kids.length 0 (by omega)
theorem T.cmp_Less_string (x y:gB):Ev (λf=>G.cmp_Less_string f x y) (bl x y):=by
 refine Ev.up ?_;simp only[G.cmp_Less_string];have:Ev (λf=>G.cmp_isNaN_string f x) false:=by refine Ev.up ?_;simp only[G.cmp_isNaN_string];exact Ev.ret' (by simp)
 exact Ev.bind this (Ev.ret _)
structure LB (l:List gB)(t:gB)(i:Nat):Prop where
 le:i<=l.length
 lo:∀j,j<i->bl (l.getD j default) t=true
 hi:∀j,i<=j->j<l.length->bl (l.getD j default) t=false
theorem half (i j:Nat)(h:i+j<9223372036854775808):ah .i64 ((ug (ah .u64 (ah .i64 ((i:Int)+(j:Int)))) (2^(min 1 (iG .u64)))))=(((i+j)/2:Nat):Int):=by
 rw[wrapN (x:=(i:Int)+(j:Int)) (m:=i+j) (by omega) h];have e:ah .u64 ((i+j:Nat):Int)=((i+j:Nat):Int):=by simp only[ah,iG,qK];simp;omega
 rw[e];have e2:ug ((i+j:Nat):Int) (2^(min 1 (iG .u64)))=(((i+j)/2:Nat):Int):=by have:(2:Int)^(min 1 (iG .u64))=2:=rfl;rw[this,Int.fdiv_eq_ediv_of_nonneg _ (by omega)];omega
 rw[e2];exact wrapN rfl (by omega)
theorem T.BinarySearch.L1 {l:List gB}(t:gB)(hl:l.length<big)(hA:∀i j,i<j->j<l.length->bl (l.getD i default) (l.getD j default)=true) :
 ∀ (k i j:Nat),j-i<=k->i<=j->j<=l.length->(∀q,q<i->bl (l.getD q default) t=true)->(∀q,j<=q->q<l.length->bl (l.getD q default) t=false) ->
   ∃p:Nat,Ev (λf=>G.slices_BinarySearch_string.L1 f l t i j) ((p:Int),decide (p<l.length)&&l.getD p default==t)/\LB l t p:=by
 unfold big at hl;intro k
 induction k with
 | zero=>
   intro i j hk hij hj hlo hhi;have:i=j:=(by omega);subst this;refine⟨i,Ev.up ?_,hj,hlo,hhi⟩;simp only[G.slices_BinarySearch_string.L1];refine Ev.cf (by simp) (Ev.ite (λe=>?_) (λe=>Ev.ret' ?_))
   ·have e':i<l.length:=(by simpa using e);rw[ak];have d1:decide (i<l.length)=true:=(by simpa using e');rw[d1,bY];refine Ev.chk (by omega) (Ev.ite (λe2=>Ev.ret' (by rw[e2])) (λe2=>Ev.chk (by omega) ?_));have:Ev (λf=>G.slices_isNaN_string f (l.getD i default)) false:=by
     refine Ev.up ?_;simp only[G.slices_isNaN_string];exact Ev.ret' (by simp)
    exact Ev.bind this (Ev.ret' (by rw[e2]))
   ·have d1:decide (i<l.length)=false:=(by simpa using e);rw[d1];rfl
 | succ k ih=>
   intro i j hk hij hj hlo hhi;by_cases he:i=j
   ·exact ih i j (by omega) hij hj hlo hhi
   have h1:(i+j)/2<j:=(by omega);have h2:i<=(i+j)/2:=(by omega);cases hc:bl (l.getD ((i+j)/2) default) t with
   | true=>
     obtain⟨p,g,hp⟩:=ih ((i+j)/2+1) j (by omega) (by omega) hj (λq hq=>by
      by_cases hq2:q=(i+j)/2
      ·rw[hq2];exact hc
      ·exact DY (hA q ((i+j)/2) (by omega) (by omega)) hc) hhi
     refine⟨p,Ev.up ?_,hp⟩;simp only[G.slices_BinarySearch_string.L1];refine Ev.ct (by simp;omega) ?_;rw[half i j (by omega),ak];refine Ev.chk (by omega) (Ev.bind (T.cmp_Less_string _ _) (Ev.ct hc ?_));rw[iP (by omega)];exact g
   | false=>
     obtain⟨p,g,hp⟩:=ih i ((i+j)/2) (by omega) h2 (by omega) hlo (λq hq hq2=>by
      by_cases hq3:q=(i+j)/2
      ·rw[hq3];exact hc
      ·cases hb:bl (l.getD q default) t with
       |false=>rfl
       |true=>rw[DY (hA ((i+j)/2) q (by omega) hq2) hb]at hc;cases hc)
     refine⟨p,Ev.up ?_,hp⟩;simp only[G.slices_BinarySearch_string.L1];refine Ev.ct (by simp;omega) ?_;rw[half i j (by omega),ak];refine Ev.chk (by omega) (Ev.bind (T.cmp_Less_string _ _) (Ev.cf hc ?_));exact g
theorem KR {x:gB}{l:List gB}(h:Asc (x::l)=true):Asc l=true:=by
 cases l with
 |nil=>rfl
 |cons y r=>rw[Asc,af]at h;exact h.2
theorem KQ : ∀{l:List gB} {x:gB},Asc (x::l)=true->∀y,y∈l->bl x y=true
 |[],_,_,y,hy=>by cases hy
 | z::r,x,h,y,hy=>by
   have h1:bl x z=true:=(by rw[Asc,af]at h;exact h.1);rcases aB.1 hy with rfl|hy
   ·exact h1
   ·exact DY h1 (KQ (KR h) y hy)
theorem Pm : ∀{l:List gB},Asc l=true->∀i j,i<j->j<l.length->bl (l.getD i default) (l.getD j default)=true
 |[],_,i,j,_,hj=>by simp at hj
 | x::l,h,i,j,hij,hj=>by
   cases j with
   |zero=>omega
   | succ j=>
     rw[nR];have hj':j<l.length:=(by simpa using hj);cases i with
     |zero=>rw[sS,jC _ hj'];exact KQ h _ (bz _)
     |succ i=>rw[nR];exact Pm (KR h) i j (by omega) hj'
theorem T.slices_BinarySearch_string {l:List gB}(t:gB)(hl:l.length<big)(hA:Asc l=true) :
 ∃p:Nat,Ev (λf=>G.slices_BinarySearch_string f l t) ((p:Int),decide (p<l.length)&&l.getD p default==t)/\LB l t p:=by
 obtain⟨p,g,hp⟩:=T.BinarySearch.L1 t hl (Pm hA) l.length 0 l.length (by omega) (by omega) (by omega) (λq hq=>by omega) (λq h1 h2=>by omega);refine⟨p,Ev.up ?_,hp⟩;simp only[G.slices_BinarySearch_string];exact g
theorem ai.eta (n:ai):ai.mk n.Kind n.Num n.Text n.Names n.Kids=n:=by cases n;rfl
theorem OB {p:Nat->Bool} : ∀{k i:Nat},(mJ i k).find? p=none<->∀q,i<=q->q<i+k->p q=false:=by
 intro k i;rw[List.find?_eq_none];constructor
 ·intro h q h1 h2;have:=h q (by simp;omega);simpa using this
 ·intro h q hq;simp at hq;rw[h q hq.1 hq.2];simp
theorem IW {p:Nat->Bool} : ∀{k i j:Nat},(mJ i k).find? p=some j<->(i<=j/\j<i+k/\p j=true/\∀q,i<=q->q<j->p q=false):=by
 intro k
 induction k with
 |zero=>intro i j;simp;omega
 | succ k ih=>
   intro i j;rw[uO,sD];cases h:p i with
   | true=>
     simp only[Option.some.injEq];constructor
     ·rintro rfl;exact⟨by omega,by omega,h,λq h1 h2=>by omega⟩
     ·rintro⟨h1,h2,h3,h4⟩;by_cases e:i=j
      ·exact e
      ·have:=h4 i (by omega) (by omega);rw[h]at this;cases this
   | false=>
     simp only;rw[ih];constructor
     ·rintro⟨h1,h2,h3,h4⟩;refine⟨by omega,by omega,h3,λq g1 g2=>?_⟩;by_cases e:q=i
      ·rw[e];exact h
      ·exact h4 q (by omega) g2
     ·rintro⟨h1,h2,h3,h4⟩;have:j≠i:=λe=>(by rw[e,h]at h3;cases h3);exact⟨by omega,by omega,h3,λq g1 g2=>h4 q (by omega) g2⟩
theorem aaA {n:ai}{s:gB}{j:Nat} : DJ n s=some j<->(j<n.Kids.length/\hit n s j=true/\∀q,q<j->hit n s q=false):=by
 unfold DJ;rw[IW];constructor
 ·rintro⟨h1,h2,h3,h4⟩;exact⟨by omega,h3,λq hq=>h4 q (by omega) hq⟩
 ·rintro⟨h1,h2,h3⟩;exact⟨by omega,by omega,h2,λq _ hq=>h3 q hq⟩
theorem MX {n:ai}{s:gB} : DJ n s=none<->∀q,q<n.Kids.length->hit n s q=false:=by
 unfold DJ;rw[OB];constructor
 ·intro h q hq;exact h q (by omega) (by omega)
 ·intro h q _ hq;exact h q (by omega)
theorem yh {n:ai}(h:Parts n=true)(hk:n.Kind=4):n.Num=0/\n.Text=[]/\NM n.Names=true/\n.Names.length<=6/\n.Kids.length=n.Names.length:=by unfold Parts at h;simp[hk]at h;obtain⟨⟨h1,h2⟩,⟨h3,h4⟩,h5⟩:=h;exact⟨h1,h2,h3,h4,h5⟩
theorem y5 {n:ai}(h:Parts n=true)(hk:n.Kind=3):n.Num=0/\n.Text=[]/\n.Names=[]/\n.Kids.length<=6:=by unfold Parts at h;simp[hk]at h;obtain⟨⟨⟨h1,h2⟩,h3⟩,h4⟩:=h;exact⟨h1,h2,h3,h4⟩
theorem Gt {n:ai}(h:Parts n=true)(h4:n.Kind≠4)(h3:n.Kind≠3):n.Names=[]/\n.Kids=[]:=by
 unfold Parts at h;have e4:(n.Kind==4)=false:=by simpa using h4
 simp only[af,e4,EL]at h;obtain⟨⟨_,h1⟩,h2⟩:=h;refine⟨dK (by simpa using h1),dK ?_⟩;by_cases k0:n.Kind=0
 ·rw[if_pos k0]at h2;simpa using h2
 rw[if_neg k0]at h2;by_cases k1:n.Kind=1
 ·rw[if_pos k1]at h2;simp at h2;rw[h2.2];rfl
 rw[if_neg k1]at h2;by_cases k2:n.Kind=2
 ·rw[if_pos k2]at h2;simp at h2;rw[h2.2];rfl
 rw[if_neg k2,if_neg h3,if_neg h4]at h2;cases h2
theorem Jm {l:List gB}(h:NM l=true):Asc l=true:=by unfold NM at h;simp only[af]at h;exact h.2
theorem aaq {l:List gB}(h:NM l=true):∀s,s∈l->PT s=true:=by unfold NM at h;simp only[af]at h;exact aH.1 h.1
theorem Jo {n:ai}(h:Parts n=true):n.Kids.length<=6:=by
 by_cases k:n.Kids.length<=6
 ·exact k
 ·rw[Gw (by omega)]at h;cases h
theorem Qn {n:ai}(hk:n.Kind=4)(s:gB)(j:Nat):hit n s j=(n.Names.getD j default==s):=by unfold hit;rw[hk];simp
theorem ZC {n:ai}(hk:n.Kind=3)(s:gB)(j:Nat):hit n s j=(D8 j==s):=by unfold hit;rw[hk];simp
theorem BU {n:ai}(h4:n.Kind≠4)(h3:n.Kind≠3)(s:gB)(j:Nat):hit n s j=false:=by unfold hit;rw[show(n.Kind==4)=false by simpa using h4,show(n.Kind==3)=false by simpa using h3];rfl
theorem aaz {n:ai}{s:gB}{p:Nat}(hk:n.Kind=4)(hA:Asc n.Names=true)(hl:n.Kids.length=n.Names.length)(h:LB n.Names s p) :
 DJ n s=if decide (p<n.Names.length)&&n.Names.getD p default==s then some p else none:=by
 cases hc:decide (p<n.Names.length)&&n.Names.getD p default==s with
 | true=>simp only[af,decide_eq_true_eq]at hc;rw[if_pos rfl,aaA];refine⟨by omega,by rw[Qn hk];exact hc.2,λq hq=>?_⟩;rw[Qn hk];have:=Y1 (h.lo q hq);simpa using this
 | false=>
   rw[if_neg (by simp),MX];intro q hq;rw[Qn hk];by_cases h1:q<p
   ·have:=Y1 (h.lo q h1);simpa using this
   ·cases he:n.Names.getD q default==s with
    |false=>rfl
    | true=>
      rw[beq_iff_eq]at he;by_cases h2:q=p
      ·subst h2;rw[he]at hc;have:decide (q<n.Names.length)=true:=(by simp;omega);rw[this]at hc;simp at hc
      ·have:=Pm hA p q (by omega) (by omega);rw[he,h.hi p (by omega) (by omega)]at this;cases this
theorem T.dn.L1 {n:ai}(s:gB)(hk:n.Kind=3)(hl:n.Kids.length<=6) :
 ∀(k i:Nat),i+k=n.Kids.length->Ev (λf=>G.dn.L1 f n s i) (match(mJ i k).find? (hit n s)with|some j=>((j:Int),true)|none=>(0,false)):=by
 intro k
 induction k with
 | zero=>intro i hi;refine Ev.up ?_;simp only[G.dn.L1];exact Ev.cf (by simp;omega) (Ev.ret _)
 | succ k ih=>intro i hi;refine Ev.up ?_;simp only[G.dn.L1];refine Ev.ct (by simp;omega) (Ev.bind (T.strconv_Itoa (i:=i) (by omega)) ?_);rw[uO,sD,ZC hk,iP (by omega)];refine Ev.ite (λe=>Ev.ret' (by rw[e])) (λe=>?_);exact(ih (i+1) (by omega)).eq (by rw[e])
theorem T.dn {n:ai}(s:gB)(h:Parts n=true) :
 ∃v b,Ev (λf=>G.dn f n s) (v,b)/\(∀j,DJ n s=some j->v=(j:Int)/\b=true)/\(DJ n s=none->b=false):=by
 by_cases h4:n.Kind=4
 ·obtain⟨_,_,hN,hl,hkl⟩:=yh h h4;obtain⟨p,g,hp⟩:=T.slices_BinarySearch_string s (by unfold big;omega) (Jm hN);have hpl:=aaz h4 (Jm hN) hkl hp;refine⟨p,decide (p<n.Names.length)&&n.Names.getD p default==s,Ev.up ?_,λj hj=>?_,λhn=>?_⟩
  ·simp only[G.dn];exact Ev.ct (by simpa using h4) (Ev.bind g (Ev.ret _))
  ·rw[hpl]at hj;split at hj
   ·rename_i hc;cases hj;exact⟨rfl,hc⟩
   ·cases hj
  ·rw[hpl]at hn;split at hn
   ·cases hn
   ·rename_i hc;simpa using hc
 ·have e4:(n.Kind==4)=false:=by simpa using h4
  by_cases h3:n.Kind=3
  ·obtain⟨_,_,_,hl⟩:=y5 h h3;have g:=T.dn.L1 s h3 hl n.Kids.length 0 (by omega);cases hp:DJ n s with
   | some j=>refine⟨j,true,Ev.up ?_,λj' hj=>(by cases hj;exact⟨rfl,rfl⟩),λhn=>(by cases hn)⟩;simp only[G.dn];refine Ev.cf e4 (Ev.ct (by simpa using h3) ?_);exact g.eq (by unfold DJ at hp;rw[hp])
   | none=>refine⟨0,false,Ev.up ?_,λj' hj=>(by cases hj),λ_=>rfl⟩;simp only[G.dn];refine Ev.cf e4 (Ev.ct (by simpa using h3) ?_);exact g.eq (by unfold DJ at hp;rw[hp])
  ·have hp:DJ n s=none:=MX.2 (λq _=>BU h4 h3 s q);refine⟨0,false,Ev.up ?_,λj hj=>(by rw[hp]at hj;cases hj),λ_=>rfl⟩;simp only[G.dn];exact Ev.cf e4 (Ev.cf (by simpa using h3) (Ev.ret _))
def DX : ai->List gB->Option ai
 |n,[]=>some n
 | n,s::p=>match DJ n s with
   |some j=>DX (n.Kids.getD j default) p
   |none=>none
def Gn : ai:=ai.mk 0 0 [] [] []
def mM : Option ai->ai×Bool
 |some n=>(n,true)
 |none=>(Gn,false)
theorem T.mD.L1 {B:Nat}(p:List gB)(hB:B<=lim)(hp:p.length<big) :
 ∀(k i D:Nat) (n:ai),i+k=p.length->Fine B D n->Ev (λf=>G.mD.L1 f p i n.Kind n.Num n.Text n.Names n.Kids) (mM (DX n (p.drop i))):=by
 unfold big at hp;intro k
 induction k with
 | zero=>intro i D n hi h;refine Ev.up ?_;simp only[G.mD.L1,ai.eta];refine Ev.cf (by simp;omega) ?_;rw[aI (by omega)];have hc:=T.bC hB h;exact Ev.bind hc (Ev.ret _)
 | succ k ih=>
   intro i D n hi h;refine Ev.up ?_;simp only[G.mD.L1,ai.eta];refine Ev.ct (by simp;omega) (Ev.chk (by omega) ?_);rw[iJ (default:gB) (by omega:i<p.length),ak];have hP:=T.fO (p.getD i default) hB h;refine Ev.bind hP ?_;rw[DX];cases hj:DJ n (p.getD i default)with
   |none=>exact Ev.ct rfl (Ev.ret _)
   | some j=>
     have hjl:=xU hj;cases D with
     |zero=>exact h.elim
     |succ D=>
     refine Ev.cf (decide_eq_false (by simp only[Oc];omega)) (Ev.chk (by simp only[Oc];omega) ?_);rw[iP (by omega)];exact ih (i+1) D _ (by omega) (h.kid hjl)
theorem T.mD {B D:Nat}{n:ai}(p:List gB)(hB:B<=lim)(hp:p.length<big)(h:Fine B D n):Ev (λf=>G.mD f n p) (mM (DX n p)):=by refine Ev.up ?_;simp only[G.mD];exact T.mD.L1 p hB hp p.length 0 D n (by omega) h
theorem T.fQ.L1 (p:List gB)(hp:p.length<big) :
 ∀(k i d:Nat) (n:ai),i+k=p.length->Shape d n=true->Ev (λf=>G.fQ.L1 f p i n.Kind n.Num n.Text n.Names n.Kids) (mM (DX n (p.drop i))):=by
 unfold big at hp;intro k
 induction k with
 | zero=>intro i d n hi h;refine Ev.up ?_;simp only[G.fQ.L1,ai.eta];refine Ev.cf (by simp;omega) ?_;rw[aI (by omega)];exact Ev.ret _
 | succ k ih=>
   intro i d n hi h;cases d with
   |zero=>cases h
   |succ d=>
   refine Ev.up ?_;simp only[G.fQ.L1,ai.eta];refine Ev.ct (by simp;omega) (Ev.chk (by omega) ?_);rw[iJ (default:gB) (by omega:i<p.length),ak];obtain⟨v,b,g,h1,h2⟩:=T.dn (p.getD i default) (nO h);refine Ev.bind g ?_;rw[DX];cases hj:DJ n (p.getD i default)with
   |none=>exact Ev.cf (h2 hj) (Ev.ret _)
   | some j=>have hjl:=xU hj;obtain⟨rfl,rfl⟩:=h1 j hj;refine Ev.ct rfl (Ev.chk (by omega) ?_);rw[iP (by omega)];exact ih (i+1) d _ (by omega) (oL h _ (by rw[ak,jC _ hjl];exact bz _))
theorem T.fQ {d:Nat}{n:ai}(p:List gB)(hp:p.length<big)(h:Shape d n=true):Ev (λf=>G.fQ f n p) (mM (DX n p)):=by refine Ev.up ?_;simp only[G.fQ];exact T.fQ.L1 p hp p.length 0 d n (by omega) h
def Nq (n:ai)(j:Nat)(c:ai):ai:=ai.mk n.Kind n.Num n.Text n.Names (n.Kids.set j c)
def Ap (f:ai->Option ai):ai->List gB->Option ai
 |n,[]=>f n
 | n,s::p=>match DJ n s with
   |some j=>(Ap f (n.Kids.getD j default) p).map (Nq n j)
   |none=>none
def Kz (n:ai)(p:List gB)(v:ai):Option ai:=Ap (λ_=>some v) n p
theorem PM (f:ai->Option ai):∀(p:List gB) (n:ai),Ap f n p=(DX n p).bind λm=>(f m).bind λm'=>Kz n p m'
 | [],n=>by show f n=(f n).bind λm'=>some m';cases f n<;>rfl
 | s::p,n=>by
   rw[Ap,DX];cases hj:DJ n s with
   |none=>rfl
   | some j=>
     simp only;rw[PM f p];cases ha:DX (n.Kids.getD j default) p with
     |none=>rfl
     | some m=>
       simp only[fG];cases hf:f m with
       |none=>rfl
       | some m'=>simp only[fG];unfold Kz;rw[Ap,hj]
theorem RY {B D E:Nat}{n v:ai}{j:Nat}(h:Fine B (D+1) n)(hv:Fine B E v):Fine B (max D E+1) (Nq n j v):=by
 obtain⟨h1,h2,h3,h4,h5,h6⟩:=h;refine⟨h1,h2,h3,by simpa[Nq]using h4,by simpa[Nq]using h5,λk hk=>?_⟩;rcases lD hk with hk|rfl
 ·exact(h6 k hk).mono (aA _) (Nat.le_max_left _ _)
 ·exact hv.mono (aA _) (Nat.le_max_right _ _)
theorem LZ {B E:Nat}{f:ai->Option ai} : ∀(p:List gB) {D:Nat} {n m:ai},(∀D' k k',Fine B D' k->f k=some k'->Fine B (D'+E) k')->Fine B D n->Ap f n p=some m->Fine B (D+E) m
 |[],D,n,m,hf,h,hm=>hf D n m h hm
 | s::p,D,n,m,hf,h,hm=>by
   rw[Ap]at hm;cases hj:DJ n s with
   |none=>rw[hj]at hm;cases hm
   | some j=>
     rw[hj]at hm;simp only at hm;cases D with
     |zero=>exact h.elim
     |succ D=>
     cases hc:Ap f (n.Kids.getD j default) p with
     |none=>rw[hc]at hm;cases hm
     | some c=>rw[hc]at hm;cases hm;have:=RY (j:=j) h (LZ p hf (h.kid (xU hj)) hc);exact this.mono (aA _) (by omega)
theorem IY {B D E:Nat}{n v m:ai}{p:List gB}(h:Fine B D n)(hv:Fine B E v)(hm:Kz n p v=some m):Fine B (D+E) m:=
 LZ p (λD' k k' _ e=>by cases e;exact hv.mono (aA _) (by omega)) h hm
theorem Ho {B:Nat} : ∀(p:List gB) {D:Nat} {n m:ai},Fine B D n->DX n p=some m->Fine B D m
 |[],_,_,_,h,e=>by cases e;exact h
 | s::p,D,n,m,h,e=>by
   rw[DX]at e;cases hj:DJ n s with
   |none=>rw[hj]at e;cases e
   | some j=>
     rw[hj]at e;cases D with
     |zero=>exact h.elim
     |succ D=>exact(Ho p (h.kid (xU hj)) e).mono (aA _) (by omega)
theorem T.kZ {B D E:Nat}{n v:ai}{j:Nat}(hB:B<=lim)(h:Fine B D n)(hv:Fine B E v)(hj:j<n.Kids.length):Ev (λf=>G.kZ f n j v) (Nq n j v):=by refine Ev.up ?_;simp only[G.kZ];refine Ev.bind (T.bC hB h) (Ev.bind (T.bC hB hv) (Ev.chk (by omega) (Ev.ret' ?_)));rw[ak];rfl
theorem T.jQ {B E:Nat}{v:ai}(hB:B<=lim)(hv:Fine B E v):∀(p:List gB) {D:Nat} {n:ai},p.length<big->Fine B D n->Ev (λf=>G.jQ f n p v) (mM (Kz n p v))
 | [],D,n,_,h=>by refine Ev.up ?_;simp only[G.jQ];exact Ev.ct rfl (Ev.bind (T.bC hB hv) (Ev.ret _))
 | s::p,D,n,hp,h=>by
   simp only[lU]at hp;have hp':=hp;unfold big at hp';refine Ev.up ?_;simp only[G.jQ];refine Ev.cf (by simp;omega) (Ev.chk (by simp) ?_);rw[sS];refine Ev.bind (T.fO s hB h) ?_;unfold Kz;rw[Ap];cases hj:DJ n s with
   |none=>exact Ev.ct rfl (Ev.ret _)
   | some j=>
     have hjl:=xU hj;cases D with
     |zero=>exact h.elim
     |succ D=>
     refine Ev.cf (decide_eq_false (by simp only[Oc];omega)) (Ev.chk (by simp only[Oc];omega) (Ev.chk (by simp;omega) ?_));have hk:=h.kid hjl;have ih:=T.jQ hB hv p (by omega) hk;refine Ev.bind (show Ev (λf=>G.jQ f (n.Kids.getD (Oc (some j)).toNat default) ((s::p).drop 1) v) _ from ih) ?_;show Ev _ (mM ((Kz (n.Kids.getD j default) p v).map (Nq n j)));cases hc:Kz (n.Kids.getD j default) p v with
     |none=>exact Ev.cf rfl (Ev.ret _)
     | some c=>refine Ev.ct rfl ?_;exact Ev.bind (T.kZ hB h (IY hk hv hc) hjl) (Ev.ret _)
theorem Vs {s:gB}(h:PT s=true):s.length<=12:=by unfold PT at h;simp at h;exact h.2
theorem AZ : ∀{d:Nat} {n:ai},Shape d n=true->Fine 12 d n
 |0,_,h=>by cases h
 | d+1,n,h=>by
   have hp:=nO h;have hk:=oL h;have hl:=Jo hp;refine⟨?_,?_,?_,by omega,?_,λk hk'=>AZ (hk k hk')⟩
   ·by_cases h2:n.Kind=2
    ·unfold Parts at hp;simp[h2]at hp;exact Vs hp.2.1
    ·have e2:(n.Kind==2)=false:=(by simpa using h2);unfold Parts at hp;simp only[e2,EL,af]at hp;have:=hp.1.1.2;rw[beq_iff_eq]at this;rw[this];simp
   ·by_cases h4:n.Kind=4
    ·have:=(yh hp h4).2.2.2.1;omega
    ·by_cases h3:n.Kind=3
     ·rw[(y5 hp h3).2.2.1];simp
     ·rw[(Gt hp h4 h3).1];simp
   ·intro s hs;by_cases h4:n.Kind=4
    ·exact Vs (aaq (yh hp h4).2.2.1 s hs)
    ·by_cases h3:n.Kind=3
     ·rw[(y5 hp h3).2.2.1]at hs;cases hs
     ·rw[(Gt hp h4 h3).1]at hs;cases hs
   ·intro h4;have:=(yh hp h4).2.2.2.2;omega
theorem Js {d:Nat}{n:ai}(h:Shape (d+1) n=true){j:Nat}(hj:j<n.Kids.length):Shape d (n.Kids.getD j default)=true:=by rw[jC _ hj];exact oL h _ (bz _)
theorem MH : 12<=lim:=by decide
theorem T.change {F:Nat->ai->List gB->Option (ai×Bool)}{C:Nat->ai->Option (ai×Bool)}{g:ai->Option ai}
 (hF:∀n a p,F (n+1) a p=cond ((p.length:Int)==0) (iV (C n a) λv1=>some (v1.1,v1.2))
  (chk (0<=0/\0<(p.length:Int)) (iV (G.dn n a (p.getD 0 default)) λv2=>cond v2.2
   (chk (0<=v2.1/\v2.1<(a.Kids.length:Int)) (chk (0<=1/\1<=(p.length:Int)/\(p.length:Int)<=(p.length:Int))
    (iV (F n (a.Kids.getD v2.1.toNat default) (p.drop 1)) λv3=>cond v3.2 (iV (G.aO n a) λv4=>chk (0<=v2.1/\v2.1<(v4.Kids.length:Int)) (some ((ai.mk v4.Kind v4.Num v4.Text v4.Names (v4.Kids.set v2.1.toNat v3.1)),true)))
     (some ((ai.mk 0 0 [] [] []),false))))) (some ((ai.mk 0 0 [] [] []),false)))))
 (hC:∀d m,Shape d m=true->Ev (λn=>C n m) (mM (g m))) :
 ∀(p:List gB) {d:Nat} {n:ai},Shape d n=true->Ev (λk=>F k n p) (mM (Ap g n p))
 | [],d,n,h=>by refine Ev.up ?_;simp only[hF];refine Ev.ct rfl (Ev.bind (hC d n h) (Ev.ret' ?_));rw[Ap]
 | s::p,d,n,h=>by
   cases d with
   |zero=>cases h
   |succ d=>
   obtain⟨v,b,gk,h1,h2⟩:=T.dn s (nO h);refine Ev.up ?_;simp only[hF];refine Ev.cf (by simp;omega) (Ev.chk (by simp) ?_);rw[sS];refine Ev.bind gk ?_;rw[Ap];cases hj:DJ n s with
   |none=>exact Ev.cf (h2 hj) (Ev.ret _)
   | some j=>
     have hjl:=xU hj;obtain⟨rfl,rfl⟩:=h1 j hj;refine Ev.ct rfl (Ev.chk (by omega) (Ev.chk (by simp;omega) ?_));rw[ak];have ih:=T.change hF hC p (Js h hjl);refine Ev.bind (show Ev (λk=>F k (n.Kids.getD j default) ((s::p).drop 1)) _ from ih) ?_;simp only;cases hc:Ap g (n.Kids.getD j default) p with
     |none=>exact Ev.cf rfl (Ev.ret _)
     | some c=>refine Ev.ct rfl (Ev.bind (T.aO MH (AZ h)) (Ev.chk (by omega) (Ev.ret _)))
def insL {α:Type}(l:List α)(k:Nat)(v:α):List α:=(l.take k++[v])++l.drop k
def slt (n:ai)(s:gB):Nat:=((mJ 0 n.Kids.length).find? λi=>bl s (n.Names.getD i default)).getD n.Kids.length
def addN (n:ai)(s:gB)(v:ai):Option ai:=
 match DJ n s with
 |some k=>if n.Kind=4 then some (Nq n k v)else some (ai.mk n.Kind 0 [] [] (insL n.Kids k v))
 | none=>if n.Kind=3 then(if s=[45]\/s=D8 n.Kids.length then some (ai.mk n.Kind 0 [] [] (insL n.Kids n.Kids.length v))else none)
   else if n.Kind=4 then some (ai.mk n.Kind 0 [] (insL n.Names (slt n s) s) (insL n.Kids (slt n s) v))else none
theorem adW (n:ai)(s:gB):slt n s<=n.Kids.length:=by
 unfold slt;cases h:(mJ 0 n.Kids.length).find? λi=>bl s (n.Names.getD i default)with
 |none=>simp
 |some j=>have:=(IW.1 h).2.1;simp only[Option.getD_some];omega
def JW (n:ai)(s:gB):Option (Nat×Bool):=
 match DJ n s with
 |some k=>some (k,n.Kind==4)
 | none=>if n.Kind=3 then(if s=[45]\/s=D8 n.Kids.length then some (n.Kids.length,false)else none)
   else if n.Kind=4 then some (slt n s,false)else none
def aaK : Option (Nat×Bool)->Int×Bool
 |some (k,b)=>((k:Int),b)
 |none=>(-1,false)
theorem T.iI.L1 {n:ai}(s:gB)(hk:n.Kind≠4):Ev (λf=>G.iI.L1 f n s 0) (-1,false):=by refine Ev.up ?_;simp only[G.iI.L1];exact Ev.cf (by simpa using hk) (Ev.ret _)
theorem T.iI.L2 {B D:Nat}{n:ai}(s:gB)(hB:B<=lim)(h:Fine B D n)(hk:n.Kind=4) :
 ∀(k i:Nat),i+k=n.Kids.length->Ev (λf=>G.iI.L2 f n s i) (((((mJ i k).find? λi=>bl s (n.Names.getD i default)).getD n.Kids.length:Nat):Int),false):=by
 have hl:=h.kids;have hm:=h.map hk;unfold lim at hB;intro k
 induction k with
 | zero=>intro i hi;refine Ev.up ?_;simp only[G.iI.L2];refine Ev.ct (by simpa using hk) (Ev.ct (by simp;omega) (Ev.ct (by simp;omega) (Ev.ret' ?_)));show((i:Int),false)=((n.Kids.length:Int),false);rw[show i=n.Kids.length by omega]
 | succ k ih=>
   intro i hi;refine Ev.up ?_;simp only[G.iI.L2];refine Ev.ct (by simpa using hk) (Ev.ct (by simp;omega) (Ev.cf (by simp;omega) (Ev.chk (by omega) ?_)));rw[uO,sD,ak];refine Ev.ite (λe=>Ev.ret' ?_) (λe=>?_)
   ·rw[show bl s (n.Names.getD i default)=true from e];rfl
   ·rw[iP (by omega),show bl s (n.Names.getD i default)=false from e];exact ih (i+1) (by omega)
theorem T.iI {B D:Nat}{n:ai}(s:gB)(hB:B<=lim)(h:Fine B D n)(hB':B<lim):Ev (λf=>G.iI f n s) (aaK (JW n s)):=by
 have hl:=h.kids;refine Ev.up ?_;simp only[G.iI];refine Ev.bind (T.fO s hB h) ?_;unfold JW;cases hj:DJ n s with
 |some j=>exact Ev.ct (decide_eq_true (by simp only[Oc];omega)) (Ev.ret _)
 | none=>
   refine Ev.cf (by rfl) ?_;simp only;by_cases h3:n.Kind=3
   ·rw[if_pos h3];refine Ev.ct (by simpa using h3) ?_;refine Ev.ite (λe=>Ev.ret' ?_) (λe=>?_)
    ·rw[if_pos (.inl (by simpa using e))];rfl
    ·refine Ev.bind (T.decimal (i:=n.Kids.length) (by omega)) (Ev.ite (λe2=>Ev.ret' ?_) (λe2=>?_))
     ·rw[if_pos (.inr (by simpa using e2))];rfl
     ·rw[if_neg (by simp at e e2;simp[e,e2])];exact T.iI.L1 s (by omega)
   ·rw[if_neg h3];refine Ev.cf (by simpa using h3) ?_;by_cases h4:n.Kind=4
    ·rw[if_pos h4];exact T.iI.L2 s hB h h4 n.Kids.length 0 (by omega)
    ·rw[if_neg h4];refine Ev.up ?_;simp only[G.iI.L2];exact Ev.cf (by simpa using h4) (Ev.ret _)
theorem Oo (n:ai)(s:gB)(v:ai):addN n s v=(JW n s).map λq=>if q.2 then Nq n q.1 v else if n.Kind=3 then ai.mk n.Kind 0 [] [] (insL n.Kids q.1 v)else ai.mk n.Kind 0 [] (insL n.Names q.1 s) (insL n.Kids q.1 v):=by
 unfold addN JW;cases hj:DJ n s with
 | some j=>
   simp only[iH];by_cases h4:n.Kind=4
   ·simp[h4]
   ·have h3:n.Kind=3:=by
     by_cases h3:n.Kind=3
     ·exact h3
     ·have:=KJ hj;rw[BU h4 h3]at this;cases this
    simp[h3]
 | none=>
   simp only;by_cases h3:n.Kind=3
   ·simp only[h3,if_true];by_cases hs:s=[45]\/s=D8 n.Kids.length
    ·rw[if_pos hs,if_pos hs];simp
    ·rw[if_neg hs,if_neg hs];rfl
   ·rw[if_neg h3,if_neg h3];by_cases h4:n.Kind=4
    ·rw[if_pos h4,if_pos h4];simp[h3]
    ·rw[if_neg h4,if_neg h4];rfl
theorem WR {n:ai}{s:gB}{q:Nat×Bool}(h:JW n s=some q):q.1<=n.Kids.length/\(q.2=true->q.1<n.Kids.length)/\(n.Kind=3\/n.Kind=4):=by
 unfold JW at h;cases hj:DJ n s with
 | some j=>
   rw[hj]at h;cases h;have:=xU hj;refine⟨by omega,λ_=>this,?_⟩;by_cases h4:n.Kind=4
   ·exact .inr h4
   ·by_cases h3:n.Kind=3
    ·exact .inl h3
    ·have:=KJ hj;rw[BU h4 h3]at this;cases this
 | none=>
   rw[hj]at h;simp only at h;by_cases h3:n.Kind=3
   ·rw[if_pos h3]at h;split at h
    ·cases h;exact⟨aA _,λe=>(by cases e),.inl h3⟩
    ·cases h
   ·rw[if_neg h3]at h;split at h
    ·rename_i h4;cases h;exact⟨adW n s,λe=>(by cases e),.inr h4⟩
    ·cases h
theorem T.nD {B D E:Nat}{n v:ai}(s:gB)(hB:B<lim)(h:Fine B D n)(hv:Fine B E v):Ev (λf=>G.nD f n s v) (mM (addN n s v)):=by
 have hl:=h.kids;have hn:=h.names;have hB2:=hB;unfold lim at hB2;refine Ev.up ?_;simp only[G.nD];refine Ev.bind (T.iI s (by omega) h hB) ?_;rw[Oo];cases hq:JW n s with
 |none=>exact Ev.ct rfl (Ev.ret _)
 | some q=>
   obtain⟨q1,q2⟩:=q;obtain⟨hq1,hq2,hk⟩:=WR hq;simp only at hq1 hq2;refine Ev.cf (decide_eq_false (by simp only[aaK];omega)) ?_;refine Ev.ite (λe=>?_) (λe=>?_)
   ·have e:q2=true:=e;subst e;exact Ev.bind (T.kZ (by omega) h hv (hq2 rfl)) (Ev.ret _)
   ·have e:q2=false:=e;subst e;simp only[aaK,ak];have ht:(n.Kids.take q1).length=q1:=(by rw[dW];omega);have hd:(n.Kids.drop q1).length=n.Kids.length-q1:=jd;refine Ev.bind (T.bC (by omega) h) (Ev.chk (by omega) (Ev.chk (by omega) (Ev.bind (T.bC (by omega) hv) (Ev.chk (by omega) (Ev.chk (by omega) (Ev.chk (by omega) ?_))))));refine Ev.ite (λe3=>Ev.ret' ?_) (λe3=>?_)
    ·have e3':n.Kind=3:=(by simpa using e3);simp only[iH,if_pos e3'];rfl
    ·have e3':¬n.Kind=3:=(by simpa using e3);have h4:n.Kind=4:=(by omega);have hm:=h.map h4;have ht2:(n.Names.take q1).length=q1:=(by rw[dW];omega);have hd2:(n.Names.drop q1).length=n.Names.length-q1:=jd;refine Ev.chk (by omega) (Ev.chk (by omega) (Ev.chk (by omega) (Ev.chk (by omega) (Ev.chk (by omega) (Ev.ret' ?_)))));simp only[iH,if_neg e3'];rfl
theorem RX {B D E:Nat}{n v m:ai}{s:gB}(h:Fine B D n)(hv:Fine B E v)(hs:s.length<=B)(hm:addN n s v=some m):Fine (B+1) (D+E) m:=by
 rw[Oo]at hm;cases hq:JW n s with
 |none=>rw[hq]at hm;cases hm
 | some q=>
   obtain⟨q1,q2⟩:=q;obtain⟨hq1,hq2,hk⟩:=WR hq;simp only at hq1 hq2;rw[hq]at hm;cases D with
   |zero=>exact h.elim
   |succ D=>
   cases hm;have aeP:∀k,k∈insL n.Kids q1 v->Fine (B+1) (D+E) k:=by
    intro k hk;unfold insL at hk;simp only[aV,wV]at hk;rcases hk with(hk|rfl)|hk
    ·exact(h.2.2.2.2.2 k (dG hk)).mono (by omega) (by omega)
    ·exact hv.mono (by omega) (by omega)
    ·exact(h.2.2.2.2.2 k (iR hk)).mono (by omega) (by omega)
   have hlen:(insL n.Kids q1 v).length=n.Kids.length+1:=(by unfold insL;simp;omega);have hl:=h.kids;have hn:=h.names;have hb:1<=B+1:=(by omega);cases q2 with
   |true=>exact(RY (j:=q1) h hv).mono (by omega) (by omega)
   | false=>
     simp only[Bool.false_eq_true,if_false];rw[show D+1+E=(D+E)+1 by omega];by_cases h3:n.Kind=3
     ·rw[if_pos h3];exact⟨by simp,by simp,by simp,by show(insL n.Kids q1 v).length<=_;omega,λh4=>by simp only at h4;omega,aeP⟩
     ·rw[if_neg h3];have h4:n.Kind=4:=(by omega);have hm:=h.map h4;have hlen2:(insL n.Names q1 s).length=n.Names.length+1:=(by unfold insL;simp;omega);refine⟨by simp,by show(insL n.Names q1 s).length<=_;omega,λx hx=>?_,by show(insL n.Kids q1 v).length<=_;omega,λ_=>by show(insL n.Kids q1 v).length<=(insL n.Names q1 s).length;omega,aeP⟩;have hx:x∈insL n.Names q1 s:=hx;unfold insL at hx;simp only[aV,wV]at hx;rcases hx with(hx|rfl)|hx
      ·have:=h.2.2.1 x (dG hx);omega
      ·omega
      ·have:=h.2.2.1 x (iR hx);omega
theorem adV {n:ai}{s:gB}{p:Nat}(hA:Asc n.Names=true)(hl:n.Kids.length=n.Names.length)(h:LB n.Names s p)(hne:(decide (p<n.Names.length)&&n.Names.getD p default==s)=false):slt n s=p:=by
 have hhi:∀j,p<=j->j<n.Names.length->bl s (n.Names.getD j default)=true:=by
  intro j h1 h2;cases hb:bl s (n.Names.getD j default)with
  |true=>rfl
  | false=>
    have e:=Uu hb (h.hi j h1 h2);by_cases hp:p=j
    ·subst hp;have:decide (p<n.Names.length)=true:=(by simpa using h2);rw[this,<- e]at hne;simp at hne
    ·have:=Pm hA p j (by omega) h2;rw[<- e,h.hi p (by omega) (by omega)]at this;cases this
 unfold slt;cases hf:(mJ 0 n.Kids.length).find? λi=>bl s (n.Names.getD i default)with
 | none=>
   have:=OB.1 hf;by_cases hp:p=n.Kids.length
   ·rw[hp];rfl
   ·have af7:=h.le;have h2:=hhi p (by omega) (by omega);rw[this p (by omega) (by omega)]at h2;cases h2
 | some j=>
   obtain⟨h1,h2,h3,h4⟩:=IW.1 hf;show j=p;have a1:¬j<p:=λhlt=>by have:=RG (h.lo j hlt);rw[this]at h3;cases h3
   have a2:¬p<j:=λhlt=>by have:=h4 p (by omega) hlt;rw[hhi p (by omega) (by omega)]at this;cases this
   omega
theorem T.mg {d:Nat}{n v:ai}(s:gB)(h:Shape (d+1) n=true)(hk:n.Kind=4):∃m,addN n s v=some m/\Ev (λf=>G.mg f n s v) m:=by
 have hp:=nO h;obtain⟨hnum,htext,hN,hl,hkl⟩:=yh hp hk;obtain⟨p,g,hlb⟩:=T.slices_BinarySearch_string s (by unfold big;omega) (Jm hN);have hpl:=aaz hk (Jm hN) hkl hlb;have af7:=hlb.le;cases hc:decide (p<n.Names.length)&&n.Names.getD p default==s with
 | true=>rw[hc,if_pos rfl]at hpl;refine⟨Nq n p v,by unfold addN;rw[hpl];simp[hk],Ev.up ?_⟩;simp only[G.mg];have:=xU hpl;refine Ev.bind g (Ev.ct hc (Ev.chk (by omega) (Ev.ret' ?_)));rw[ak];rfl
 | false=>
   rw[hc,if_neg (by simp)]at hpl;have hsl:=adV (Jm hN) hkl hlb hc;refine⟨ai.mk n.Kind 0 [] (insL n.Names p s) (insL n.Kids p v),by unfold addN;rw[hpl,hsl];simp[hk],Ev.up ?_⟩;simp only[G.mg];refine Ev.bind g (Ev.cf hc ?_);have i1:Ev (λf=>G.jF f n.Names (p:Int) [s]) (insL n.Names p s):=by refine Ev.up ?_;simp only[G.jF];refine Ev.chk (by simp;omega) (Ev.ret' ?_);rw[ak];rfl
   have i2:Ev (λf=>G.fF f n.Kids (p:Int) [v]) (insL n.Kids p v):=by refine Ev.up ?_;simp only[G.fF];refine Ev.chk (by simp;omega) (Ev.ret' ?_);rw[ak];rfl
   exact Ev.bind i1 (Ev.bind i2 (Ev.ret' (by rw[hnum,htext])))
theorem T.iy.K1 {B E:Nat}{n v:ai}{k:Nat}(hB:B<=lim)(hv:Fine B E v)(hk:k<=n.Kids.length)(hl:n.Kids.length<=6):Ev (λf=>G.iy.K1 f v n (k:Int) true) (ai.mk n.Kind n.Num n.Text n.Names (insL n.Kids k v),true):=by
 refine Ev.up ?_;simp only[G.iy.K1];refine Ev.ct rfl (Ev.bind (T.aO hB hv) ?_);have i2:Ev (λf=>G.fF f n.Kids (k:Int) [v]) (insL n.Kids k v):=by refine Ev.up ?_;simp only[G.fF];refine Ev.chk (by simp;omega) (Ev.ret' ?_);rw[ak];rfl
 exact Ev.bind i2 (Ev.ret _)
theorem T.iy {B E d:Nat}{n v:ai}(s:gB)(hB:B<=lim)(hv:Fine B E v)(h:Shape d n=true):Ev (λf=>G.iy f n s v) (mM (addN n s v)):=by
 cases d with
 |zero=>cases h
 |succ d=>
 have hp:=nO h;refine Ev.up ?_;simp only[G.iy];refine Ev.bind (T.aO MH (AZ h)) ?_;by_cases h4:n.Kind=4
 ·refine Ev.ct (by simpa using h4) (Ev.bind (T.aO hB hv) ?_);obtain⟨m,hm,g⟩:=T.mg (v:=v) s h h4;rw[hm];exact Ev.bind g (Ev.ret _)
 refine Ev.cf (by simpa using h4) ?_;by_cases h3:n.Kind=3
 ·obtain⟨hnum,htext,U4,hl⟩:=y5 hp h3;refine Ev.ct (by simpa using h3) ?_;obtain⟨w,b,g,h1,h2⟩:=T.dn s hp;refine Ev.bind g ?_;unfold addN;cases hj:DJ n s with
  | some j=>obtain⟨rfl,rfl⟩:=h1 j hj;have:=xU hj;refine Ev.ct rfl ((T.iy.K1 (k:=j) hB hv (by omega) hl).eq ?_);simp only[if_neg h4];rw[hnum,htext,U4];rfl
  | none=>
    have hb:=h2 hj;subst hb;simp only[if_pos h3];refine Ev.cf rfl (Ev.ite (λe=>?_) (λe=>?_))
    ·refine(T.iy.K1 (k:=n.Kids.length) hB hv (by omega) hl).eq ?_;rw[if_pos (.inl (by simpa using e)),hnum,htext,U4];rfl
    ·refine Ev.bind (T.strconv_Itoa (i:=n.Kids.length) (by omega)) (Ev.ite (λe2=>?_) (λe2=>?_))
     ·refine(T.iy.K1 (k:=n.Kids.length) hB hv (by omega) hl).eq ?_;rw[if_pos (.inr (by simpa using e2)),hnum,htext,U4];rfl
     ·rw[if_neg (by simp at e e2;simp[e,e2])];refine Ev.up ?_;simp only[G.iy.K1];exact Ev.cf rfl (Ev.ret _)
 ·refine Ev.cf (by simpa using h3) (Ev.ret' ?_);have hn:DJ n s=none:=MX.2 (λq _=>BU h4 h3 s q);unfold addN;rw[hn];simp[h3,h4,mM,Gn]
theorem T.iK (b:Bool):Ev (λf=>G.iK f b) (if b then 1 else 0):=by
 refine Ev.up ?_;simp only[G.iK];cases b
 ·exact Ev.ret _
 ·exact Ev.ret _
theorem T.kS (a b:Int):∃r,Ev (λf=>G.kS f a b) r/\(r=0<->a=b):=by
 by_cases h:a<b
 ·refine⟨-1,Ev.up ?_,by omega⟩;simp only[G.kS];rw[show decide (b<a)=false by simp;omega,show decide (a<b)=true by simpa using h];exact Ev.bind (T.iK _) (Ev.bind (T.iK _) (Ev.ret _))
 ·by_cases k:b<a
  ·refine⟨1,Ev.up ?_,by omega⟩;simp only[G.kS];rw[show decide (a<b)=false by simp;omega,show decide (b<a)=true by simpa using k];exact Ev.bind (T.iK _) (Ev.bind (T.iK _) (Ev.ret _))
  ·refine⟨0,Ev.up ?_,by omega⟩;simp only[G.kS];rw[show decide (a<b)=false by simp;omega,show decide (b<a)=false by simp;omega];exact Ev.bind (T.iK _) (Ev.bind (T.iK _) (Ev.ret _))
theorem T.jH (a b:gB)(hne:a≠b):∃r,Ev (λf=>G.jH f a b) r/\r≠0:=by
 cases h:bl a b with
 | true=>refine⟨-1,Ev.up ?_,by omega⟩;simp only[G.jH];exact Ev.ct h (Ev.bind (T.iK _) (Ev.bind (T.iK _) (Ev.ret _)))
 | false=>refine⟨1,Ev.up ?_,by omega⟩;simp only[G.jH];exact Ev.cf h (Ev.cf (by simpa using hne) (Ev.bind (T.iK _) (Ev.bind (T.iK _) (Ev.ret _))))
def BB (a b:ai)(i:Nat):Prop:=a.Kids.drop i=b.Kids.drop i/\(a.Kind=4->a.Names.drop i=b.Names.drop i)
theorem LU {a b:ai}{i:Nat}(ha:i<a.Kids.length)(hb:i<b.Kids.length)(h4:a.Kind=4->i<a.Names.length/\i<b.Names.length) :
 BB a b i<->((a.Kind=4->a.Names.getD i default=b.Names.getD i default)/\a.Kids.getD i default=b.Kids.getD i default/\BB a b (i+1)):=by
 unfold BB;rw[iJ (default:ai) ha,iJ (default:ai) hb,pJ];by_cases hk:a.Kind=4
 ·obtain⟨n1,n2⟩:=h4 hk;rw[iJ (default:gB) n1,iJ (default:gB) n2,pJ];simp only[hk,true_implies];constructor
  ·rintro⟨⟨x,y⟩,z,w⟩;exact⟨z,x,y,w⟩
  ·rintro⟨z,x,y,w⟩;exact⟨⟨x,y⟩,z,w⟩
 ·simp only[hk,false_implies,and_true,true_and]
theorem uX {d:Nat}{n:ai}(h:Shape d n=true)(hk:n.Kind=4):n.Names.length=n.Kids.length:=by
 cases d with
 |zero=>cases h
 |succ d=>exact(yh (nO h) hk).2.2.2.2.symm
theorem T.dJ.L1 {d e:Nat}{a b:ai}(ha:Shape (d+1) a=true)(hb:Shape (e+1) b=true)(hk:a.Kind=b.Kind)
 (hs:∀x y,x∈a.Kids->y∈b.Kids->∃r,Ev (λf=>G.dJ f x y) r/\(r=0<->x=y)) :
 ∀(k i:Nat),a.Kids.length<=i+k->i<=a.Kids.length->i<=b.Kids.length->∃r,Ev (λf=>G.dJ.L1 f a b i) r/\(r=0<->BB a b i):=by
 have la:=Cf ha;have lb:=Cf hb;have tail:∀i,i<=a.Kids.length->i<=b.Kids.length->(i=a.Kids.length\/i=b.Kids.length)->∃r,Ev (λf=>iV (G.kS f (a.Kids.length:Int) (b.Kids.length:Int)) λv=>some v) r/\(r=0<->BB a b i):=by
  intro i h1 h2 h3;obtain⟨r,g,hr⟩:=T.kS (a.Kids.length:Int) (b.Kids.length:Int);refine⟨r,Ev.bind g (Ev.ret _),hr.trans ⟨λhl=>?_,λhE=>?_⟩⟩
  ·have hl:a.Kids.length=b.Kids.length:=(by omega);refine⟨by rw[aI (by omega),aI (by omega)],λh4=>?_⟩;have n1:=uX ha h4;have n2:=uX hb (hk▸h4);rw[aI (by omega),aI (by omega)]
  ·have:=congrArg List.length hE.1;simp only[jd]at this;omega
 intro k
 induction k with
 | zero=>intro i h1 h2 h3;obtain⟨r,g,hr⟩:=tail i h2 h3 (by omega);refine⟨r,Ev.up ?_,hr⟩;simp only[G.dJ.L1];exact Ev.cf (by simp;omega) g
 | succ k ih=>
   intro i h1 h2 h3;by_cases hia:i=a.Kids.length
   ·obtain⟨r,g,hr⟩:=tail i h2 h3 (by omega);refine⟨r,Ev.up ?_,hr⟩;simp only[G.dJ.L1];exact Ev.cf (by simp;omega) g
   by_cases hib:i=b.Kids.length
   ·obtain⟨r,g,hr⟩:=tail i h2 h3 (by omega);refine⟨r,Ev.up ?_,hr⟩;simp only[G.dJ.L1];exact Ev.ct (by simp;omega) (Ev.cf (by simp;omega) g)
   have n4:a.Kind=4->i<a.Names.length/\i<b.Names.length:=λh4=>by have n1:=uX ha h4;have n2:=uX hb (hk▸h4);omega
   have hE:=LU (a:=a) (b:=b) (i:=i) (by omega) (by omega) n4;obtain⟨r2,g2,hr2⟩:=hs (a.Kids.getD i default) (b.Kids.getD i default) (by rw[jC _ (by omega:i<a.Kids.length)];exact bz _) (by rw[jC _ (by omega:i<b.Kids.length)];exact bz _);obtain⟨r3,g3,hr3⟩:=ih (i+1) (by omega) (by omega) (by omega);have rest:∃r,Ev (λf=>iV (G.dJ f (a.Kids.getD i default) (b.Kids.getD i default)) λv=>cond (v != 0) (some v) (G.dJ.L1 f a b ((i+1:Nat):Int))) r/\(r=0<->(a.Kids.getD i default=b.Kids.getD i default/\BB a b (i+1))):=by
    by_cases h0:r2=0
    ·refine⟨r3,Ev.bind g2 (Ev.cf (by rw[h0];rfl) g3),?_⟩;rw[hr3];exact⟨λh=>⟨hr2.1 h0,h⟩,λh=>h.2⟩
    ·refine⟨r2,Ev.bind g2 (Ev.ct (by simpa using h0) (Ev.ret _)),?_⟩;exact⟨λh=>absurd h h0,λh=>hr2.2 h.1⟩
   obtain⟨r4,g4,hr4⟩:=rest;by_cases h4:a.Kind=4
   ·obtain⟨m1,m2⟩:=n4 h4;by_cases hn:a.Names.getD i default=b.Names.getD i default
    ·refine⟨r4,Ev.up ?_,?_⟩
     ·simp only[G.dJ.L1];rw[ak,iP (by omega)];exact Ev.ct (by simp;omega) (Ev.ct (by simp;omega) (Ev.ct (by simpa using h4) (Ev.chk (by omega) (Ev.chk (by omega) (Ev.ct (by simpa using hn) (Ev.chk (by omega) (Ev.chk (by omega) g4)))))))
     ·rw[hr4,hE];exact⟨λh=>⟨λ_=>hn,h⟩,λh=>h.2⟩
    ·obtain⟨r,g,hr⟩:=T.jH _ _ hn;refine⟨r,Ev.up ?_,?_⟩
     ·simp only[G.dJ.L1];rw[ak,iP (by omega)];exact Ev.ct (by simp;omega) (Ev.ct (by simp;omega) (Ev.ct (by simpa using h4) (Ev.chk (by omega) (Ev.chk (by omega) (Ev.cf (by simpa using hn) (Ev.chk (by omega) (Ev.chk (by omega) (Ev.bind g (Ev.ret _)))))))))
     ·rw[hE];exact⟨λh=>absurd h hr,λh=>absurd (h.1 h4) hn⟩
   ·refine⟨r4,Ev.up ?_,?_⟩
    ·simp only[G.dJ.L1];rw[ak,iP (by omega)];exact Ev.ct (by simp;omega) (Ev.ct (by simp;omega) (Ev.cf (by simpa using h4) (Ev.chk (by omega) (Ev.chk (by omega) g4))))
    ·rw[hr4,hE];exact⟨λh=>⟨λe=>absurd e h4,h⟩,λh=>h.2⟩
theorem OV {d:Nat}{n:ai}(h:Shape (d+1) n=true)(h4:n.Kind≠4):n.Names=[]:=by
 by_cases h3:n.Kind=3
 ·exact(y5 (nO h) h3).2.2.1
 ·exact(Gt (nO h) h4 h3).1
theorem eq_iff {d e:Nat}{a b:ai}(ha:Shape (d+1) a=true)(hb:Shape (e+1) b=true):a=b<->(a.Kind=b.Kind/\a.Num=b.Num/\a.Text=b.Text/\BB a b 0):=by
 constructor
 ·rintro rfl;exact⟨rfl,rfl,rfl,rfl,λ_=>rfl⟩
 ·rintro⟨h1,h2,h3,h4,h5⟩;simp only[dI]at h4 h5;have hn:a.Names=b.Names:=by
   by_cases h:a.Kind=4
   ·exact h5 h
   ·rw[OV ha h,OV hb (h1▸h)]
  cases a;cases b;simp only at h1 h2 h3 h4 hn;subst h1 h2 h3 h4 hn;rfl
theorem T.dJ : ∀(d:Nat) {e:Nat} {a b:ai},Shape d a=true->Shape e b=true->∃r,Ev (λf=>G.dJ f a b) r/\(r=0<->a=b)
 |0,_,_,_,h,_=>by cases h
 |_+1,0,_,_,_,h=>by cases h
 | d+1,e+1,a,b,ha,hb=>by
   rw[eq_iff ha hb];by_cases h1:a.Kind=b.Kind
   ·by_cases h2:a.Num=b.Num
    ·by_cases h3:a.Text=b.Text
     ·obtain⟨r,g,hr⟩:=T.dJ.L1 ha hb h1 (λx y hx hy=>T.dJ d (oL ha x hx) (oL hb y hy)) a.Kids.length 0 (by omega) (by omega) (by omega);refine⟨r,Ev.up ?_,hr.trans ⟨λh=>⟨h1,h2,h3,h⟩,λh=>h.2.2.2⟩⟩;simp only[G.dJ];exact Ev.cf (by simpa using h1) (Ev.cf (by simpa using h2) (Ev.ct (by simpa using h3) g))
     ·obtain⟨r,g,hr⟩:=T.jH _ _ h3;refine⟨r,Ev.up ?_,⟨λh=>absurd h hr,λh=>absurd h.2.2.1 h3⟩⟩;simp only[G.dJ];exact Ev.cf (by simpa using h1) (Ev.cf (by simpa using h2) (Ev.cf (by simpa using h3) (Ev.bind g (Ev.ret _))))
    ·obtain⟨r,g,hr⟩:=T.kS a.Num b.Num;refine⟨r,Ev.up ?_,hr.trans ⟨λh=>absurd h h2,λh=>h.2.1⟩⟩;simp only[G.dJ];exact Ev.cf (by simpa using h1) (Ev.ct (by simpa using h2) (Ev.bind g (Ev.ret _)))
   ·obtain⟨r,g,hr⟩:=T.kS a.Kind b.Kind;refine⟨r,Ev.up ?_,hr.trans ⟨λh=>absurd h h1,λh=>h.1⟩⟩;simp only[G.dJ];exact Ev.ct (by simpa using h1) (Ev.bind g (Ev.ret _))
theorem T.rD {d e:Nat}{a b:ai}(ha:Shape d a=true)(hb:Shape e b=true):∃v,Ev (λf=>G.rD f a b) v/\(v=true<->a=b):=by obtain⟨r,g,hr⟩:=T.dJ d ha hb;refine⟨r==0,Ev.up ?_,by rw[beq_iff_eq];exact hr⟩;simp only[G.rD];exact Ev.bind g (Ev.ret _)
theorem T.cmp_Compare_int (a b:Int):∃r,Ev (λf=>G.cmp_Compare_int f a b) r/\(r=0<->a=b):=by
 have hn:∀x:Int,Ev (λf=>G.cmp_isNaN_int f x) false:=λx=>by refine Ev.up ?_;simp only[G.cmp_isNaN_int];exact Ev.ret' (by simp)
 by_cases h:a<b
 ·refine⟨-1,Ev.up ?_,by omega⟩;simp only[G.cmp_Compare_int];exact Ev.bind (hn a) (Ev.bind (hn b) (Ev.cf rfl (Ev.cf rfl (Ev.ct (by simpa using h) (Ev.ret _)))))
 ·by_cases k:b<a
  ·refine⟨1,Ev.up ?_,by omega⟩;simp only[G.cmp_Compare_int];exact Ev.bind (hn a) (Ev.bind (hn b) (Ev.cf rfl (Ev.cf rfl (Ev.cf (by simpa using h) (Ev.ct (by simpa using k) (Ev.ret _))))))
  ·refine⟨0,Ev.up ?_,by omega⟩;simp only[G.cmp_Compare_int];exact Ev.bind (hn a) (Ev.bind (hn b) (Ev.cf rfl (Ev.cf rfl (Ev.cf (by simpa using h) (Ev.cf (by simpa using k) (Ev.ret _))))))
theorem T.strings_Compare (a b:gB):∃r,Ev (λf=>G.strings_Compare f a b) r/\(r=0<->a=b):=by
 refine⟨jI a b,Ev.up ?_,Xz⟩;simp only[G.strings_Compare];have:Ev (λf=>G.dX f a b) (jI a b):=by refine Ev.up ?_;simp only[G.dX];exact Ev.ret _
 exact Ev.bind this (Ev.ret _)
theorem T.aZ.L3 {d e:Nat}{a b:ai}(ha:Shape (d+1) a=true)(hb:Shape (e+1) b=true)(hk:a.Kind=b.Kind)
 (hs:∀x y,x∈a.Kids->y∈b.Kids->∃r,Ev (λf=>G.aZ f x y) r/\(r=0<->x=y)) :
 ∀(k i:Nat),a.Kids.length<=i+k->i<=a.Kids.length->i<=b.Kids.length->∃r,Ev (λf=>G.aZ.L3 f a b i) r/\(r=0<->BB a b i):=by
 have la:=Cf ha;have lb:=Cf hb;have tail:∀i,i<=a.Kids.length->i<=b.Kids.length->(i=a.Kids.length\/i=b.Kids.length)->∃r,Ev (λf=>iV (G.cmp_Compare_int f (a.Kids.length:Int) (b.Kids.length:Int)) λv=>some v) r/\(r=0<->BB a b i):=by
  intro i h1 h2 h3;obtain⟨r,g,hr⟩:=T.cmp_Compare_int (a.Kids.length:Int) (b.Kids.length:Int);refine⟨r,Ev.bind g (Ev.ret _),hr.trans ⟨λhl=>?_,λhE=>?_⟩⟩
  ·have hl:a.Kids.length=b.Kids.length:=(by omega);refine⟨by rw[aI (by omega),aI (by omega)],λh4=>?_⟩;have n1:=uX ha h4;have n2:=uX hb (hk▸h4);rw[aI (by omega),aI (by omega)]
  ·have:=congrArg List.length hE.1;simp only[jd]at this;omega
 intro k
 induction k with
 | zero=>intro i h1 h2 h3;obtain⟨r,g,hr⟩:=tail i h2 h3 (by omega);refine⟨r,Ev.up ?_,hr⟩;simp only[G.aZ.L3];exact Ev.cf (by simp;omega) g
 | succ k ih=>
   intro i h1 h2 h3;by_cases hia:i=a.Kids.length
   ·obtain⟨r,g,hr⟩:=tail i h2 h3 (by omega);refine⟨r,Ev.up ?_,hr⟩;simp only[G.aZ.L3];exact Ev.cf (by simp;omega) g
   by_cases hib:i=b.Kids.length
   ·obtain⟨r,g,hr⟩:=tail i h2 h3 (by omega);refine⟨r,Ev.up ?_,hr⟩;simp only[G.aZ.L3];exact Ev.ct (by simp;omega) (Ev.cf (by simp;omega) g)
   have n4:a.Kind=4->i<a.Names.length/\i<b.Names.length:=λh4=>by have n1:=uX ha h4;have n2:=uX hb (hk▸h4);omega
   have hE:=LU (a:=a) (b:=b) (i:=i) (by omega) (by omega) n4;obtain⟨r2,g2,hr2⟩:=hs (a.Kids.getD i default) (b.Kids.getD i default) (by rw[jC _ (by omega:i<a.Kids.length)];exact bz _) (by rw[jC _ (by omega:i<b.Kids.length)];exact bz _);obtain⟨r3,g3,hr3⟩:=ih (i+1) (by omega) (by omega) (by omega);have rest:∃r,Ev (λf=>G.aZ.K4 f a b (i:Int)) r/\(r=0<->(a.Kids.getD i default=b.Kids.getD i default/\BB a b (i+1))):=by
    by_cases h0:r2=0
    ·refine⟨r3,Ev.up ?_,?_⟩
     ·simp only[G.aZ.K4];rw[ak,iP (by omega)];exact Ev.chk (by omega) (Ev.chk (by omega) (Ev.bind g2 (Ev.cf (by rw[h0];rfl) g3)))
     ·rw[hr3];exact⟨λh=>⟨hr2.1 h0,h⟩,λh=>h.2⟩
    ·refine⟨r2,Ev.up ?_,?_⟩
     ·simp only[G.aZ.K4];rw[ak,iP (by omega)];exact Ev.chk (by omega) (Ev.chk (by omega) (Ev.bind g2 (Ev.ct (by simpa using h0) (Ev.ret _))))
     ·exact⟨λh=>absurd h h0,λh=>hr2.2 h.1⟩
   obtain⟨r4,g4,hr4⟩:=rest;by_cases h4:a.Kind=4
   ·obtain⟨m1,m2⟩:=n4 h4;obtain⟨r,g,hr⟩:=T.strings_Compare (a.Names.getD i default) (b.Names.getD i default);by_cases hn:a.Names.getD i default=b.Names.getD i default
    ·refine⟨r4,Ev.up ?_,?_⟩
     ·simp only[G.aZ.L3];rw[ak];exact Ev.ct (by simp;omega) (Ev.ct (by simp;omega) (Ev.ct (by simpa using h4) (Ev.chk (by omega) (Ev.chk (by omega) (Ev.bind g (Ev.cf (by rw[hr.2 hn];rfl) g4))))))
     ·rw[hr4,hE];exact⟨λh=>⟨λ_=>hn,h⟩,λh=>h.2⟩
    ·have hr0:r≠0:=λe=>hn (hr.1 e);refine⟨r,Ev.up ?_,?_⟩
     ·simp only[G.aZ.L3];rw[ak];exact Ev.ct (by simp;omega) (Ev.ct (by simp;omega) (Ev.ct (by simpa using h4) (Ev.chk (by omega) (Ev.chk (by omega) (Ev.bind g (Ev.ct (by simpa using hr0) (Ev.ret _)))))))
     ·rw[hE];exact⟨λh=>absurd h hr0,λh=>absurd (h.1 h4) hn⟩
   ·refine⟨r4,Ev.up ?_,?_⟩
    ·simp only[G.aZ.L3];exact Ev.ct (by simp;omega) (Ev.ct (by simp;omega) (Ev.cf (by simpa using h4) g4))
    ·rw[hr4,hE];exact⟨λh=>⟨λe=>absurd e h4,h⟩,λh=>h.2⟩
theorem T.aZ : ∀(d:Nat) {e:Nat} {a b:ai},Shape d a=true->Shape e b=true->∃r,Ev (λf=>G.aZ f a b) r/\(r=0<->a=b)
 |0,_,_,_,h,_=>by cases h
 |_+1,0,_,_,_,h=>by cases h
 | d+1,e+1,a,b,ha,hb=>by
   rw[eq_iff ha hb];obtain⟨r1,g1,hr1⟩:=T.cmp_Compare_int a.Kind b.Kind;obtain⟨r2,g2,hr2⟩:=T.cmp_Compare_int a.Num b.Num;obtain⟨r3,g3,hr3⟩:=T.strings_Compare a.Text b.Text;by_cases h1:r1=0
   ·by_cases h2:r2=0
    ·by_cases h3:r3=0
     ·obtain⟨r,g,hr⟩:=T.aZ.L3 ha hb (hr1.1 h1) (λx y hx hy=>T.aZ d (oL ha x hx) (oL hb y hy)) a.Kids.length 0 (by omega) (by omega) (by omega);refine⟨r,Ev.up ?_,hr.trans ⟨λh=>⟨hr1.1 h1,hr2.1 h2,hr3.1 h3,h⟩,λh=>h.2.2.2⟩⟩;simp only[G.aZ];exact Ev.bind g1 (Ev.cf (by rw[h1];rfl) (Ev.bind g2 (Ev.cf (by rw[h2];rfl) (Ev.bind g3 (Ev.cf (by rw[h3];rfl) g)))))
     ·refine⟨r3,Ev.up ?_,⟨λh=>absurd h h3,λh=>hr3.2 h.2.2.1⟩⟩;simp only[G.aZ];exact Ev.bind g1 (Ev.cf (by rw[h1];rfl) (Ev.bind g2 (Ev.cf (by rw[h2];rfl) (Ev.bind g3 (Ev.ct (by simpa using h3) (Ev.ret _))))))
    ·refine⟨r2,Ev.up ?_,⟨λh=>absurd h h2,λh=>hr2.2 h.2.1⟩⟩;simp only[G.aZ];exact Ev.bind g1 (Ev.cf (by rw[h1];rfl) (Ev.bind g2 (Ev.ct (by simpa using h2) (Ev.ret _))))
   ·refine⟨r1,Ev.up ?_,⟨λh=>absurd h h1,λh=>hr1.2 h.1⟩⟩;simp only[G.aZ];exact Ev.bind g1 (Ev.ct (by simpa using h1) (Ev.ret _))
theorem T.lW {d e:Nat}{a b:ai}(ha:Shape d a=true)(hb:Shape e b=true):∃v,Ev (λf=>G.lW f a b) v/\(v=true<->a=b):=by obtain⟨r,g,hr⟩:=T.aZ d ha hb;refine⟨r==0,Ev.up ?_,by rw[beq_iff_eq];exact hr⟩;simp only[G.lW];exact Ev.bind g (Ev.ret _)
theorem Gx : ∀{d e:Nat} {n:ai},d<=e->Shape d n=true->Shape e n=true
 |0,_,_,_,h=>by cases h
 |d+1,0,_,hd,_=>by omega
 | d+1,e+1,n,hd,h=>by unfold Shape;rw[nO h,bY,aH];exact λk hk=>Gx (by omega) (oL h k hk)
theorem FO {α:Type}{f g:α->Nat} : ∀{l:List α},(∀x,x∈l->f x=g x)->(l.map f).sum=(l.map g).sum
 |[],_=>rfl
 | x::l,h=>by simp only[aP,lG];rw[h x (by simp),FO (λy hy=>h y (by simp[hy]))]
theorem cnt_mono : ∀{d e:Nat} {n:ai},d<=e->Shape d n=true->Cnt d n=Cnt e n
 |0,_,_,_,h=>by cases h
 |d+1,0,_,hd,_=>by omega
 | d+1,e+1,n,hd,h=>by unfold Cnt;rw[FO (f:=Cnt d) (g:=Cnt e) (λk hk=>cnt_mono (by omega) (oL h k hk))]
theorem ZZ {α:Type}(f:α->Nat):∀{l:List α} {x:α},x∈l->f x<=(l.map f).sum
 | y::l,x,h=>by
   simp only[aP,lG];rcases aB.1 h with rfl|h
   ·omega
   ·have:=ZZ f h;omega
theorem uf {n:ai}(h:Val n=true):Shape 5 n=true:=by unfold Val at h;simp only[af]at h;exact h.1
theorem WW {n:ai}(h:Val n=true):Cnt 5 n<=40:=by unfold Val at h;simp only[af,decide_eq_true_eq]at h;exact h.2
theorem lg {n:ai}(h:Val n=true):Fine 12 5 n:=AZ (uf h)
theorem aaU {d:Nat}{n:ai}(hd:d<=5)(h:Shape d n=true)(hc:Cnt d n<=40):Val n=true:=by unfold Val;rw[Gx hd h,bY,decide_eq_true_eq,<- cnt_mono hd h];exact hc
theorem Rz : ∀(p:List gB) {d:Nat} {n m:ai},Shape d n=true->DX n p=some m->Shape d m=true/\Cnt d m<=Cnt d n
 |[],d,n,m,h,e=>by cases e;exact⟨h,aA _⟩
 | s::p,d,n,m,h,e=>by
   rw[DX]at e;cases hj:DJ n s with
   |none=>rw[hj]at e;cases e
   | some j=>
     rw[hj]at e;cases d with
     |zero=>cases h
     | succ d=>have hjl:=xU hj;obtain⟨h1,h2⟩:=Rz p (Js h hjl) e;refine⟨Gx (by omega) h1,?_⟩;rw[<- cnt_mono (Nat.le_succ d) h1];have:=ZZ (Cnt d) (l:=n.Kids) (x:=n.Kids.getD j default) (by rw[jC _ hjl];exact bz _);show _<=1+(n.Kids.map (Cnt d)).sum;omega
theorem WT {α:Type}(f:α->Nat){c:α} : ∀{l:List α} {j:Nat} (d:α),f c<=f (l.getD j d)->((l.set j c).map f).sum<=(l.map f).sum
 |[],_,_,_=>by simp
 | x::l,0,d,h=>by rw[sS]at h;simp only[List.set_cons_zero,aP,lG];omega
 | x::l,j+1,d,h=>by rw[nR]at h;have:=WT f (l:=l) (j:=j) d h;simp only[List.set_cons_succ,aP,lG];omega
theorem Ye {n c:ai}{j:Nat}(h:Parts n=true):Parts (Nq n j c)=true:=by unfold Parts Nq at *;simpa using h
theorem Ox {f:ai->Option ai}(hf:∀d k k',Shape d k=true->f k=some k'->Shape d k'=true/\Cnt d k'<=Cnt d k) :
 ∀(p:List gB) {d:Nat} {n m:ai},Shape d n=true->Ap f n p=some m->Shape d m=true/\Cnt d m<=Cnt d n
 |[],d,n,m,h,e=>hf d n m h (by rw[Ap]at e;exact e)
 | s::p,d,n,m,h,e=>by
   rw[Ap]at e;cases hj:DJ n s with
   |none=>rw[hj]at e;cases e
   | some j=>
     rw[hj]at e;simp only at e;cases d with
     |zero=>cases h
     |succ d=>
     have hjl:=xU hj;cases hc:Ap f (n.Kids.getD j default) p with
     |none=>rw[hc]at e;cases e
     | some c=>
       rw[hc]at e;cases e;obtain⟨h1,h2⟩:=Ox hf p (Js h hjl) hc;constructor
       ·unfold Shape;rw[Ye (nO h),bY,aH];intro k hk;rcases lD hk with hk|rfl
        ·exact oL h k hk
        ·exact h1
       ·show 1+((n.Kids.set j c).map (Cnt d)).sum<=1+(n.Kids.map (Cnt d)).sum;have:=WT (Cnt d) (l:=n.Kids) (j:=j) default h2;omega
def yC {α:Type}(l:List α)(k:Nat):List α:=l.take k++l.drop (k+1)
def Ie (n:ai)(s:gB):Option ai:=match DJ n s with
 |some k=>some (ai.mk n.Kind 0 [] (if n.Kind=4 then yC n.Names k else []) (yC n.Kids k))
 |none=>none
theorem CG : ∀{l:List gB},Asc l=true<->l.Pairwise (λx y=>bl x y=true)
 |[]=>by simp[Asc]
 | x::l=>by
   rw[List.pairwise_cons,<- CG (l:=l)];constructor
   ·intro h;exact⟨KQ h,KR h⟩
   ·rintro⟨h1,h2⟩;cases l with
    |nil=>rfl
    |cons y r=>rw[Asc,h2,qY];exact h1 y (by simp)
theorem Ah {α:Type}(l:List α)(k:Nat):(yC l k).Sublist l:=by
 unfold yC
 conv=>rhs;rw[<- List.take_append_drop k l]
 refine List.Sublist.append (List.Sublist.refl _) ?_;rw[<- List.drop_drop];exact List.drop_sublist 1 _
theorem EU {α:Type}{l:List α}{k:Nat}(h:k<l.length):(yC l k).length=l.length-1:=by unfold yC;simp;omega
theorem acf {α:Type}(f:α->Nat):∀{l m:List α},l.Sublist m->(l.map f).sum<=(m.map f).sum:=by
 intro l m h
 induction h with
 |slnil=>simp
 |cons a h ih=>simp only[aP,lG];omega
 |cons_cons a h ih=>simp only[aP,lG];omega
theorem Yi (s:gB):∀d k k',Shape d k=true->Ie k s=some k'->Shape d k'=true/\Cnt d k'<=Cnt d k:=by
 intro d n m h e;unfold Ie at e;cases hj:DJ n s with
 |none=>rw[hj]at e;cases e
 | some j=>
   rw[hj]at e;cases e;have hjl:=xU hj;cases d with
   |zero=>cases h
   |succ d=>
   have hp:=nO h;have hsub:=Ah n.Kids j;have hlen:=EU hjl;have hl:=Jo hp;constructor
   ·unfold Shape;rw[af,aH];refine⟨?_,λk hk=>oL h k (hsub.subset hk)⟩;by_cases h4:n.Kind=4
    ·obtain⟨_,_,hN,hnl,hkl⟩:=yh hp h4;have hNM:NM (yC n.Names j)=true:=by
      unfold NM;rw[af];refine⟨aH.2 λx hx=>aaq hN x ((Ah _ _).subset hx),CG.2 ((CG.1 (Jm hN)).sublist (Ah _ _))⟩
     have hl2:=EU (l:=n.Names) (k:=j) (by omega);unfold Parts;simp[h4,hNM];omega
    ·by_cases h3:n.Kind=3
     ·unfold Parts;simp[h3];omega
     ·have:=KJ hj;rw[BU h4 h3]at this;cases this
   ·show 1+((yC n.Kids j).map (Cnt d)).sum<=1+(n.Kids.map (Cnt d)).sum;have:=acf (Cnt d) hsub;omega
def Bv (p:List gB):gB:=p.getD (p.length-1) default
def yc (p:List gB):List gB:=p.take (p.length-1)
def vP (n:ai)(p:List gB)(v:ai):Option ai:=if p=[]then some v else Ap (λm=>addN m (Bv p) v) n (yc p)
def yG (n:ai)(p:List gB):Option ai:=if p=[]then none else Ap (λm=>Ie m (Bv p)) n (yc p)
theorem T.lN {B D:Nat}{o:Option ai}(hB:B<=lim)(h:∀m,o=some m->Fine B D m):Ev (λf=>G.lN f (mM o).1 (mM o).2) (mM (o.filter Val)):=by
 refine Ev.up ?_;simp only[G.lN];cases o with
 |none=>exact Ev.cf rfl (Ev.ret _)
 | some m=>
   refine Ev.ct rfl (Ev.bind (T.fZ hB (h m rfl)) (Ev.ite (λe=>Ev.ret' ?_) (λe=>Ev.ret' ?_)))
   ·have e:Val m=true:=e;simp[oQ,e,mM]
   ·have e:Val m=false:=e;simp[oQ,e,mM,Gn]
theorem T.kV {B D:Nat}{o:Option ai}(hB:B<=lim)(h:∀m,o=some m->Fine B D m):Ev (λf=>G.kV f (mM o).1 (mM o).2) (mM (o.filter Val)):=by
 refine Ev.up ?_;simp only[G.kV];cases o with
 |none=>exact Ev.cf rfl (Ev.ret _)
 | some m=>
   refine Ev.ct rfl (Ev.bind (T.cu hB (h m rfl)) (Ev.ite (λe=>Ev.ret' ?_) (λe=>Ev.ret' ?_)))
   ·have e:Val m=true:=e;simp[oQ,e,mM]
   ·have e:Val m=false:=e;simp[oQ,e,mM,Gn]
theorem En {p:List gB}(hp:p≠[])(hl:p.length<big):ah .i64 ((p.length:Int)-1)=((p.length-1:Nat):Int):=by have:0<p.length:=nT.2 hp;unfold big at hl;exact wrapN (by omega) (by omega)
theorem LX {B D E:Nat}{n v m:ai}{p:List gB}(h:Fine B D n)(hv:Fine B E v)(hs:∀s,s∈p->s.length<=B)(hm:vP n p v=some m):Fine (B+1) (D+(D+E)) m:=by
 unfold vP at hm;split at hm
 ·cases hm;exact hv.mono (by omega) (by omega)
 ·rename_i hp;have hlast:(Bv p).length<=B:=by
   unfold Bv;have:0<p.length:=nT.2 hp;rw[jC _ (by omega:p.length-1<p.length)];exact hs _ (bz _)
  rw[PM]at hm;cases ha:DX n (yc p)with
  |none=>rw[ha]at hm;cases hm
  | some inner=>
    rw[ha,fG]at hm;cases hn:addN inner (Bv p) v with
    |none=>rw[hn]at hm;cases hm
    | some next=>rw[hn,fG]at hm;have hi:=Ho _ h ha;have hnx:=RX hi hv hlast hn;exact LZ (B:=B+1) (E:=D+E) (yc p) (f:=λ_=>some next) (D:=D) (n:=n) (m:=m) (λD' k k' _ e=>by cases e;exact hnx.mono (aA _) (by omega)) (h.mono (by omega) (aA _)) hm
theorem T.mZ {B D E:Nat}{n v:ai}(p:List gB)(hB:B+1<lim)(hp:p.length<big)(hs:∀s,s∈p->s.length<=B)(h:Fine B D n)(hv:Fine B E v):Ev (λf=>G.mZ f n p v) (mM (vP n p v)):=by
 refine Ev.up ?_;simp only[G.mZ];by_cases hp0:p=[]
 ·subst hp0;exact Ev.ct rfl (Ev.bind (T.bC (by omega) hv) (Ev.ret _))
 ·have hpos:0<p.length:=nT.2 hp0;have hlast:(Bv p).length<=B:=by
   unfold Bv;rw[jC _ (by omega:p.length-1<p.length)];exact hs _ (bz _)
  rw[En hp0 hp,ak];unfold vP;rw[if_neg hp0,PM];have hil:(yc p).length<big:=by unfold yc;rw[dW];omega
  refine Ev.cf (by simpa using hp0) (Ev.chk (by omega) (Ev.bind (T.mD (yc p) (by omega) hil h) ?_));cases ha:DX n (yc p)with
  |none=>exact Ev.cf rfl (Ev.ret _)
  | some inner=>
    have hi:=Ho _ h ha;have hA:=T.nD (n:=inner) (Bv p) (by omega) hi hv;refine Ev.ct rfl (Ev.chk (by omega) (Ev.bind hA ?_));rw[fG];cases hn:addN inner (Bv p) v with
    |none=>exact Ev.cf rfl (Ev.ret _)
    | some next=>have hnx:=RX hi hv hlast hn;refine Ev.ct rfl (Ev.chk (by omega) (Ev.bind (T.jQ (by omega) hnx (yc p) hil (h.mono (by omega) (aA _))) (Ev.ret _)))
theorem Zj {B D:Nat}{n m:ai}{s:gB}(h:Fine B D n)(e:Ie n s=some m):Fine B D m:=by
 unfold Ie at e;cases hj:DJ n s with
 |none=>rw[hj]at e;cases e
 | some j=>
   rw[hj]at e;cases e;cases D with
   |zero=>exact h.elim
   |succ D=>
   have hjl:=xU hj;have hk:=h.kids;have hn:=h.names;have h1:=EU hjl;refine⟨by simp,?_,λx hx=>?_,by show(yC n.Kids j).length<=B;omega,λh4=>?_,λk hk'=>h.2.2.2.2.2 k ((Ah _ _).subset hk')⟩
   ·show(if n.Kind=4 then yC n.Names j else []).length<=B;split
    ·have:=(Ah n.Names j).length_le;omega
    ·simp
   ·have hx:x∈(if n.Kind=4 then yC n.Names j else []):=hx;split at hx
    ·exact h.2.2.1 x ((Ah _ _).subset hx)
    ·cases hx
   ·have h4:n.Kind=4:=h4;have hm:=h.map h4;have h2:=EU (l:=n.Names) (k:=j) (by omega);show(yC n.Kids j).length<=(if n.Kind=4 then yC n.Names j else []).length;rw[if_pos h4];omega
theorem T.iq {B D:Nat}{n:ai}(p:List gB)(hB:B+1<lim)(hp:p.length<big)(h:Fine B D n):Ev (λf=>G.iq f n p) (mM (yG n p)):=by
 have hB2:=hB;unfold lim at hB2;refine Ev.up ?_;simp only[G.iq];by_cases hp0:p=[]
 ·subst hp0;exact Ev.ct (by rfl) (Ev.ret _)
 ·have hpos:0<p.length:=nT.2 hp0;rw[En hp0 hp,ak];unfold yG;rw[if_neg hp0,PM];have hil:(yc p).length<big:=by unfold yc;rw[dW];omega
  refine Ev.cf (by simp) (Ev.chk (by omega) (Ev.bind (T.mD (yc p) (by omega) hil h) ?_));cases ha:DX n (yc p)with
  |none=>exact Ev.cf rfl (Ev.ret _)
  | some inner=>
    have hi:=Ho _ h ha;have hk:=hi.kids;have hnm:=hi.names;have hP:=T.fO (n:=inner) (Bv p) (by omega) hi;refine Ev.ct rfl (Ev.chk (by omega) (Ev.bind hP ?_));rw[fG];cases hj:DJ inner (Bv p)with
    | none=>unfold Ie;rw[hj];exact Ev.ct rfl (Ev.ret _)
    | some j=>
      have hjl:=xU hj;simp only[Oc,mM,ak,iP (show j+1<9223372036854775808 by omega)];have ht:(inner.Kids.take j).length=j:=(by rw[dW];omega);have hd:(inner.Kids.drop (j+1)).length=inner.Kids.length-(j+1):=jd;refine Ev.cf (decide_eq_false (by omega)) (Ev.chk (by omega) (Ev.chk (by omega) (Ev.chk (by omega) (Ev.chk (by omega) ?_))));have key:∀(b:Bool) (nm:List gB),Ie inner (Bv p)=some (ai.mk inner.Kind 0 [] nm (yC inner.Kids j))->Ev (λf=>G.iq.K1 f n p (inner,b) (yC inner.Kids j) nm) (mM ((Ie inner (Bv p)).bind λm'=>Kz n (yc p) m')):=by intro b nm e;refine Ev.up ?_;simp only[G.iq.K1];rw[En hp0 hp,ak,e,fG];exact Ev.chk (by omega) (Ev.bind (T.jQ (by omega) (Zj hi e) (yc p) hil h) (Ev.ret _))
      refine Ev.ite (λe4=>?_) (λe4=>?_)
      ·have h4:inner.Kind=4:=(by simpa using e4);have hm:=hi.map h4;have ht2:(inner.Names.take j).length=j:=(by rw[dW];omega);have hd2:(inner.Names.drop (j+1)).length=inner.Names.length-(j+1):=jd;refine Ev.chk (by omega) (Ev.chk (by omega) (Ev.chk (by omega) (Ev.chk (by omega) ?_)));exact key true (yC inner.Names j) (by unfold Ie;rw[hj];simp[h4])
      ·have h4:¬inner.Kind=4:=(by simpa using e4);exact key true [] (by unfold Ie;rw[hj];simp[h4])
theorem TA {B:Nat}(hB:B<=lim){p:List gB}(hl:p.length<=B)(hs:∀s,s∈p->s.length<=B):Sm p:=by unfold lim at hB;exact⟨by unfold big;omega,λs h=>by have:=hs s h;unfold big;omega⟩
def Bg (B:Nat)(p:List gB):Prop:=p.length<=B/\∀s,s∈p->s.length<=B
theorem Bg.sm {B:Nat}(hB:B<=lim){p:List gB}(h:Bg B p):Sm p:=TA hB h.1 h.2
theorem rC {p:List gB}(h:PP p=true):Bg 12 p:=by unfold PP at h;simp only[af,decide_eq_true_eq]at h;exact⟨by omega,λs hs=>Vs (aH.1 h.1 s hs)⟩
def Rl (n:ai)(p:List gB)(v:ai):Option ai:=if Val n&&PP p&&Val v then(vP n p v).filter Val else none
def YS (n:ai)(p:List gB):Option ai:=if Val n&&PP p then yG n p else none
def abm (n:ai)(p:List gB)(v:ai):Option ai:=if Val n&&PP p&&Val v then(Kz n p v).filter Val else none
def AtM (n:ai)(p:List gB):Option ai:=if Val n&&PP p then DX n p else none
theorem Ig {n m:ai}{p:List gB}(h:Val n=true)(e:yG n p=some m):Val m=true:=by
 unfold yG at e;split at e
 ·cases e
 ·obtain⟨h1,h2⟩:=Ox (Yi (Bv p)) (yc p) (uf h) e;exact aaU (aA _) h1 (cZ h2 (WW h))
theorem IK {n m:ai}{p:List gB}(h:Val n=true)(e:DX n p=some m):Val m=true:=by obtain⟨h1,h2⟩:=Rz p (uf h) e;exact aaU (aA _) h1 (cZ h2 (WW h))
theorem T.Hw {B E:Nat}{v:ai}(p:List gB)(k:Nat)(hB:B<=lim)(hv:Fine B E v)(hk:k<p.length) :
 ∀(q:List gB) {d:Nat} {n:ai},Shape d n=true->Ev (λf=>G.eX f n q p (k:Int) v) (mM (Ap (λm=>addN m (p.getD k default) v) n q)):=by
 refine T.change (F:=λf a q=>G.eX f a q p (k:Int) v) (C:=λf a=>G.mO f a p (k:Int) v) (λn a q=>by simp only[G.eX]) (λd m hm=>?_);refine Ev.up ?_;simp only[G.mO];refine Ev.chk (by omega) (Ev.bind (T.iy _ hB hv hm) (Ev.ret' ?_));rw[ak]
theorem T.Hz {B E:Nat}{v:ai}(hB:B<=lim)(hv:Fine B E v) :
 ∀(q:List gB) {d:Nat} {n:ai},Shape d n=true->Ev (λf=>G.eY f n q v) (mM (Kz n q v)):=by
 refine T.change (F:=λf a q=>G.eY f a q v) (C:=λf a=>G.mP f a v) (λn a q=>by simp only[G.eY]) (λd m hm=>?_);refine Ev.up ?_;simp only[G.mP];exact Ev.bind (T.aO hB hv) (Ev.ret _)
theorem T.dZ {d:Nat}{n:ai}(p:List gB)(k:Nat)(hk:k<p.length)(h:Shape d n=true):Ev (λf=>G.dZ f n p (k:Int)) (mM (Ie n (p.getD k default))):=by
 cases d with
 |zero=>cases h
 |succ d=>
 have hp:=nO h;have hl:=Jo hp;obtain⟨w,b,g,h1,h2⟩:=T.dn (p.getD k default) hp;refine Ev.up ?_;simp only[G.dZ,ak];refine Ev.chk (by omega) (Ev.bind g ?_);unfold Ie;cases hj:DJ n (p.getD k default)with
 |none=>exact Ev.cf (h2 hj) (Ev.ret _)
 | some j=>
   have hjl:=xU hj;obtain⟨rfl,rfl⟩:=h1 j hj;have d1:Ev (λf=>G.iO f n.Kids (j:Int) ((j+1:Nat):Int)) (yC n.Kids j):=by refine Ev.up ?_;simp only[G.iO,ak];exact Ev.chk (by omega) (Ev.ret _)
   have hK:∀nm,n.Num=0->n.Text=[]->Ev (λf=>G.dZ.K1 f ((j:Int),true) n nm) (ai.mk n.Kind 0 [] nm (yC n.Kids j),true):=by intro nm e1 e2;refine Ev.up ?_;simp only[G.dZ.K1,iP (show j+1<9223372036854775808 by omega)];exact Ev.bind d1 (Ev.ret' (by rw[e1,e2]))
   refine Ev.ct rfl (Ev.bind (T.aO MH (AZ h)) ?_);by_cases h4:n.Kind=4
   ·obtain⟨e1,e2,_,hnl,hkl⟩:=yh hp h4;have d2:Ev (λf=>G.slices_Delete_string f n.Names (j:Int) ((j+1:Nat):Int)) (yC n.Names j):=by
     refine Ev.up ?_;simp only[G.slices_Delete_string,ak];exact Ev.chk (by omega) (Ev.ret _)
    refine Ev.ct (by simpa using h4) ?_;simp only[iP (show j+1<9223372036854775808 by omega)];refine Ev.bind d2 ((hK _ e1 e2).eq ?_);simp[h4,mM]
   ·by_cases h3:n.Kind=3
    ·obtain⟨e1,e2,e3,_⟩:=y5 hp h3;refine Ev.cf (by simpa using h4) ((hK _ e1 e2).eq ?_);simp[h4,mM,e3]
    ·have:=KJ hj;rw[BU h4 h3]at this;cases this
theorem T.Hy (p:List gB)(k:Nat)(hk:k<p.length) :
 ∀(q:List gB) {d:Nat} {n:ai},Shape d n=true->Ev (λf=>G.dN f n q p (k:Int)) (mM (Ap (λm=>Ie m (p.getD k default)) n q)):=
 T.change (F:=λf a q=>G.dN f a q p (k:Int)) (C:=λf a=>G.dZ f a p (k:Int)) (λn a q=>by simp only[G.dN]) (λd m hm=>T.dZ p k hk hm)
theorem T.jv {B D E:Nat}{n v:ai}{p:List gB}(hB:B+2<lim)(h:Fine B D n)(hp:Bg B p)(hv:Fine B E v):Ev (λf=>G.jv f n p v) (mM (Rl n p v)):=by
 have hsm:=hp.sm (by omega);refine Ev.up ?_;simp only[G.jv];unfold Rl;refine Ev.bind (T.cu (by omega) h) (Ev.ite (λe1=>?_) (λe1=>Ev.ret' (by rw[e1];rfl)));refine Ev.bind (T.dS p hsm) (Ev.ite (λe2=>?_) (λe2=>Ev.ret' (by rw[e1,e2];rfl)));refine Ev.bind (T.cu (by omega) hv) (Ev.ite (λe3=>?_) (λe3=>Ev.ret' (by rw[e1,e2,e3];rfl)));rw[e1,e2,e3,if_pos (by rfl)];by_cases hp0:p=[]
 ·subst hp0;refine Ev.ct rfl (Ev.bind (T.aO (by omega) hv) (Ev.ret' ?_));unfold vP;simp[oQ,e3,mM]
 ·have hpos:0<p.length:=nT.2 hp0;simp only[En hp0 hsm.1,ak];refine Ev.cf (by simpa using hp0) (Ev.chk (by omega) ?_);have hc:=T.Hw p (p.length-1) (by omega) hv (by omega) (yc p) (uf e1);refine Ev.bind hc ?_;have hA:vP n p v=Ap (λm=>addN m (p.getD (p.length-1) default) v) n (yc p):=by unfold vP;rw[if_neg hp0];rfl
  rw[<- hA];exact Ev.bind (T.kV (o:=vP n p v) (B:=B+1) (by omega) (λm hm=>LX h hv hp.2 hm)) (Ev.ret _)
theorem T.nC {B D E:Nat}{n v:ai}{p:List gB}(hB:B+2<lim)(h:Fine B D n)(hp:Bg B p)(hv:Fine B E v):Ev (λf=>G.nC f n p v) (mM (abm n p v)):=by have hsm:=hp.sm (by omega);refine Ev.up ?_;simp only[G.nC];unfold abm;refine Ev.bind (T.cu (by omega) h) (Ev.ite (λe1=>?_) (λe1=>Ev.ret' (by rw[e1];rfl)));refine Ev.bind (T.dS p hsm) (Ev.ite (λe2=>?_) (λe2=>Ev.ret' (by rw[e1,e2];rfl)));refine Ev.bind (T.cu (by omega) hv) (Ev.ite (λe3=>?_) (λe3=>Ev.ret' (by rw[e1,e2,e3];rfl)));rw[e1,e2,e3,if_pos (by rfl)];refine Ev.bind (T.Hz (by omega) hv p (uf e1)) ?_;exact Ev.bind (T.kV (B:=B) (by omega) (λm hm=>IY h hv hm)) (Ev.ret _)
theorem T.iF {B D:Nat}{n:ai}{p:List gB}(hB:B+2<lim)(h:Fine B D n)(hp:Bg B p):Ev (λf=>G.iF f n p) (mM (YS n p)):=by
 have hsm:=hp.sm (by omega);refine Ev.up ?_;simp only[G.iF];unfold YS;refine Ev.bind (T.cu (by omega) h) (Ev.ite (λe1=>?_) (λe1=>Ev.ret' (by rw[e1];rfl)));refine Ev.bind (T.dS p hsm) (Ev.ite (λe2=>?_) (λe2=>Ev.ret' (by rw[e1,e2];rfl)));rw[e1,e2,if_pos (by rfl)];by_cases hp0:p=[]
 ·subst hp0;exact Ev.ct rfl (Ev.ret _)
 ·have hpos:0<p.length:=nT.2 hp0;simp only[En hp0 hsm.1,ak];refine Ev.cf (by simpa using hp0) (Ev.chk (by omega) ?_);have hA:yG n p=Ap (λm=>Ie m (p.getD (p.length-1) default)) n (yc p):=by unfold yG;rw[if_neg hp0];rfl
  rw[hA];exact Ev.bind (T.Hy p (p.length-1) (by omega) (yc p) (uf e1)) (Ev.ret _)
theorem T.lX {B D:Nat}{n:ai}{p:List gB}(hB:B+2<lim)(h:Fine B D n)(hp:Bg B p):Ev (λf=>G.lX f n p) (mM (AtM n p)):=by
 have hsm:=hp.sm (by omega);refine Ev.up ?_;simp only[G.lX];unfold AtM;refine Ev.bind (T.cu (by omega) h) (Ev.ite (λe1=>?_) (λe1=>Ev.ret' (by rw[e1];rfl)));refine Ev.bind (T.dS p hsm) (Ev.ite (λe2=>?_) (λe2=>Ev.ret' (by rw[e1,e2];rfl)));rw[e1,e2,if_pos (by rfl)];refine Ev.bind (T.fQ p hsm.1 (uf e1)) ?_;cases ha:DX n p with
 |none=>exact Ev.cf rfl (Ev.ret _)
 |some m=>exact Ev.ct rfl (Ev.bind (T.aO (by omega) (Ho p h ha)) (Ev.ret _))
theorem T.slices_Equal_string.L1 {a b:List gB}(hl:a.length=b.length)(hb:a.length<big):∀(k i:Nat),i+k=a.length->Ev (λf=>G.slices_Equal_string.L1 f a b i) (decide (a.drop i=b.drop i)):=by
 unfold big at hb;intro k
 induction k with
 | zero=>intro i hi;refine Ev.up ?_;simp only[G.slices_Equal_string.L1];refine Ev.cf (by simp;omega) (Ev.ret' ?_);rw[aI (by omega),aI (by omega)];rfl
 | succ k ih=>
   intro i hi;refine Ev.up ?_;simp only[G.slices_Equal_string.L1,ak,iP (show i+1<9223372036854775808 by omega)];refine Ev.ct (by simp;omega) (Ev.chk (by omega) (Ev.chk (by omega) ?_));rw[iJ (default:gB) (by omega:i<a.length),iJ (default:gB) (by omega:i<b.length)];refine Ev.ite (λe=>(ih (i+1) (by omega)).eq ?_) (λe=>Ev.ret' ?_)
   ·rw[beq_iff_eq]at e;apply decide_eq_decide.2;rw[pJ];exact⟨λh=>⟨e,h⟩,λh=>h.2⟩
   ·have e:a.getD i default≠b.getD i default:=by simpa using e
    symm
    apply decide_eq_false;rw[pJ];exact λh=>e h.1
theorem T.slices_Equal_string {a b:List gB}(hb:a.length<big):Ev (λf=>G.slices_Equal_string f a b) (decide (a=b)):=by
 refine Ev.up ?_;simp only[G.slices_Equal_string];by_cases h:a.length=b.length
 ·exact Ev.cf (by simp;omega) (T.slices_Equal_string.L1 h hb a.length 0 (by omega))
 ·refine Ev.ct (by simp;omega) (Ev.ret' ?_)
  symm
  exact decide_eq_false (λe=>h (by rw[e]))
def N9 (n:ai)(o p:List gB)(t:ai):Option ai:=if o <+: p then(if p.length=o.length then some n else none)else(yG n o).bind λless=>vP less p t
theorem TB {o p:List gB}(h:o.length<=p.length):p.take o.length=o<->o <+: p:=by rw[List.prefix_iff_eq_take,eq_comm]
def abe (n:ai)(o p:List gB):Option ai:=if Val n&&PP o&&PP p then(DX n o).bind λt=>(N9 n o p t).filter Val else none
theorem T.lV {n:ai}{o p:List gB}(h:Val n=true)(ho:PP o=true)(hp:PP p=true):Ev (λf=>G.lV f n o p) (mM (abe n o p)):=by
 have hb:(12:Nat)+2<lim:=by decide
 have fo:=rC ho;have fp:=rC hp;have so:=fo.sm (by decide);have sp:=fp.sm (by decide);refine Ev.up ?_;simp only[G.lV];unfold abe;rw[h,ho,hp,if_pos (by rfl)];refine Ev.bind (T.lX hb (lg h) fo) ?_;unfold AtM;rw[h,ho,if_pos (by rfl)];cases ha:DX n o with
 |none=>exact Ev.cf rfl (Ev.ret _)
 | some t=>
   have hvt:=IK h ha;refine Ev.ct rfl ?_;rw[fG];have mv:¬o <+: p->Ev (λf=>iV (G.iF f n o) λv5=>cond v5.2 (iV (G.jv f v5.1 p t) λv6=>some (v6.1,v6.2)) (some ((ai.mk 0 0 [] [] []),false))) (mM ((N9 n o p t).filter Val)):=by
    intro hn;unfold N9;rw[if_neg hn];refine Ev.bind (T.iF hb (lg h) fo) ?_;unfold YS;rw[h,ho,if_pos (by rfl)];cases hr:yG n o with
    |none=>exact Ev.cf rfl (Ev.ret _)
    | some less=>have hvl:=Ig h hr;have hA:=T.jv (n:=less) hb (lg hvl) fp (lg hvt);have e:Rl less p t=(vP less p t).filter Val:=(by unfold Rl;rw[hvl,hp,hvt,if_pos (by rfl)]);rw[e]at hA;exact Ev.ct rfl (Ev.bind hA (Ev.ret _))
   refine Ev.bind (T.slices_Equal_string sp.1) (Ev.ite (λe=>?_) (λe=>?_))
   ·rw[decide_eq_true_eq]at e;subst e;refine Ev.bind (T.aO MH (lg h)) (Ev.ret' ?_);unfold N9;rw[if_pos (List.prefix_refl _),if_pos rfl];simp[oQ,h,mM]
   ·have hne:p≠o:=(by simpa using e);refine Ev.ite (λe2=>?_) (λe2=>?_)
    ·have hlt:o.length<p.length:=(by simpa using e2);refine Ev.chk (by omega) (Ev.bind (T.slices_Equal_string (a:=p.take o.length) (by rw[dW];have:=sp.1;omega)) (Ev.ite (λe3=>Ev.ret' ?_) (λe3=>?_)))
     ·rw[decide_eq_true_eq,TB (by omega)]at e3;unfold N9;rw[if_pos e3,if_neg (by omega)];rfl
     ·rw[decide_eq_false_iff_not,TB (by omega)]at e3;exact mv e3
    ·have hge:¬o.length<p.length:=(by simpa using e2);refine mv λhpre=>?_;have h1:=hpre.length_le;exact hne (hpre.eq_of_length (by omega)).symm
theorem T.iY.L1 {p w:List gB}(hp:p.length<big)(hw:w.length<big):∀(k i:Nat),i+k=w.length->Ev (λf=>G.iY.L1 f p w i) (decide (w.drop i <+: p.drop i)):=by
 unfold big at hp hw;intro k
 induction k with
 | zero=>
   intro i hi;refine Ev.up ?_;simp only[G.iY.L1];refine Ev.cf (by simp;omega) (Ev.ret' ?_);rw[aI (by omega:w.length<=i)]
   symm
   exact decide_eq_true (List.nil_prefix)
 | succ k ih=>
   intro i hi;refine Ev.up ?_;simp only[G.iY.L1,ak,iP (show i+1<9223372036854775808 by omega)];refine Ev.ct (by simp;omega) ?_;rw[iJ (default:gB) (by omega:i<w.length)];by_cases hpi:p.length<=i
   ·refine Ev.ct (by simpa using hpi) (Ev.ret' ?_);rw[aI hpi]
    symm
    exact decide_eq_false (by simp)
   ·refine Ev.cf (by simpa using hpi) (Ev.chk (by omega) (Ev.chk (by omega) ?_));rw[iJ (default:gB) (by omega:i<p.length)];refine Ev.ite (λe=>(ih (i+1) (by omega)).eq ?_) (λe=>Ev.ret' ?_)
    ·rw[beq_iff_eq]at e;apply decide_eq_decide.2;rw[List.cons_prefix_cons];exact⟨λh=>⟨e.symm,h⟩,λh=>h.2⟩
    ·have e:p.getD i default≠w.getD i default:=by simpa using e
     symm
     apply decide_eq_false;rw[List.cons_prefix_cons];exact λh=>e h.1.symm
theorem T.iY {p w:List gB}(hp:p.length<big)(hw:w.length<big):Ev (λf=>G.iY f p w) (decide (w <+: p)):=by refine Ev.up ?_;simp only[G.iY];exact T.iY.L1 hp hw w.length 0 (by omega)
open Classical in
noncomputable def applyN (n:ai)(o:tC):Option ai:=
 if o.Kind=1 then vP n o.Path o.Value else if o.Kind=2 then yG n o.Path else if o.Kind=3 then Kz n o.Path o.Value
 else(DX n (if o.Kind=6 then o.Path else o.From)).bind λt=>if o.Kind=6 then(if t=o.Value then some n else none)else if o.Kind=5 then vP n o.Path t else N9 n o.From o.Path t
def Rn (o:tC):Bool:=(decide (1<=o.Kind)&&decide (o.Kind<=6))&&PP o.Path&&PP o.From&&Val o.Value
noncomputable def yX (n:ai)(o:tC):Option ai:=if Val n&&Rn o then(applyN n o).filter Val else none
def Said (q:ai×Bool)(o:Option ai):Prop:=(q.2=true->o=some q.1)/\(q.2=false->o=none)
theorem Ce (o:Option ai):Said (mM o) o:=by
 cases o with
 |none=>exact⟨λe=>(by cases e),λ_=>rfl⟩
 |some m=>exact⟨λ_=>rfl,λe=>(by cases e)⟩
structure GK (o:tC):Prop where
 k1:1<=o.Kind
 k6:o.Kind<=6
 path:PP o.Path=true
 from_:PP o.From=true
 val:Val o.Value=true
theorem E5 {o:tC}(h:Rn o=true):GK o:=by unfold Rn at h;simp only[af,decide_eq_true_eq]at h;exact⟨h.1.1.1.1,h.1.1.1.2,h.1.1.2,h.1.2,h.2⟩
theorem Zx : (12:Nat)+1<lim:=by decide
theorem Zy : (12:Nat)+2<lim:=by decide
theorem T.gY.K1 {n:ai}{o:tC}(h:Val n=true)(ho:GK o)(fr:List gB)(hf:PP fr=true)(h6:fr=if o.Kind=6 then o.Path else o.From)(hk:o.Kind≠1/\o.Kind≠2/\o.Kind≠3) :
 ∃q,Ev (λf=>G.gY.K1 f n o fr) q/\Said q (applyN n o):=by
 have sp:=(rC ho.path).sm (by decide);have sf:=(rC ho.from_).sm (by decide);have sr:=(rC hf).sm (by decide);have hn:=lg h;have hat:=T.mD fr (by decide) sr.1 hn;have hN:applyN n o=(DX n fr).bind λt=>@ite _ (o.Kind=6) _ (@ite _ (t=o.Value) (Classical.propDecidable _) (some n) none) (if o.Kind=5 then vP n o.Path t else N9 n o.From o.Path t):=by unfold applyN;rw[if_neg hk.1,if_neg hk.2.1,if_neg hk.2.2,h6]
 rw[hN];cases ha:DX n fr with
 | none=>
   rw[ha]at hat
   refine⟨(Gn,false),Ev.up ?_,⟨λe=>(by cases e),λ_=>rfl⟩⟩;simp only[G.gY.K1];exact Ev.bind hat (Ev.cf rfl (Ev.ret _))
 | some t=>
   rw[ha]at hat
   have ht:=lg (IK h ha);rw[fG];by_cases k6:o.Kind=6
   ·obtain⟨v,gs,hv⟩:=T.rD (uf (IK h ha)) (uf ho.val);refine⟨(n,v),Ev.up ?_,?_⟩
    ·simp only[G.gY.K1];exact Ev.bind hat (Ev.ct rfl (Ev.ct (by simpa using k6) (Ev.bind gs (Ev.ret _))))
    ·rw[if_pos k6];refine⟨λe=>if_pos (hv.1 e),λe=>if_neg λe2=>?_⟩;have:=hv.2 e2;rw[show v=false from e]at this;cases this
   ·rw[if_neg k6];by_cases k5:o.Kind=5
    ·rw[if_pos k5];refine⟨_,Ev.up ?_,Ce _⟩;simp only[G.gY.K1];exact Ev.bind hat (Ev.ct rfl (Ev.cf (by simpa using k6) (Ev.ct (by simpa using k5) (Ev.bind (T.mZ o.Path Zx sp.1 (rC ho.path).2 hn ht) (Ev.ret _)))))
    ·rw[if_neg k5];unfold N9;have hbg:=T.iY sp.1 sf.1;by_cases hpre:o.From <+: o.Path
     ·rw[if_pos hpre];refine⟨(n,(o.Path.length:Int)==(o.From.length:Int)),Ev.up ?_,?_⟩
      ·simp only[G.gY.K1];exact Ev.bind hat (Ev.ct rfl (Ev.cf (by simpa using k6) (Ev.cf (by simpa using k5) (Ev.bind hbg (Ev.ct (by simpa using hpre) (Ev.bind (T.bC MH hn) (Ev.ret _)))))))
      ·rw[ilen];refine⟨λe=>if_pos (by simpa using e),λe=>if_neg (by simpa using e)⟩
     ·rw[if_neg hpre];have hr:=T.iq (n:=n) o.From Zx sf.1 hn;cases hre:yG n o.From with
      | none=>rw[hre]at hr;refine⟨(Gn,false),Ev.up ?_,⟨λe=>(by cases e),λ_=>rfl⟩⟩;simp only[G.gY.K1];exact Ev.bind hat (Ev.ct rfl (Ev.cf (by simpa using k6) (Ev.cf (by simpa using k5) (Ev.bind hbg (Ev.cf (by simpa using hpre) (Ev.bind hr (Ev.cf rfl (Ev.ret _))))))))
      | some less=>rw[hre]at hr;have hl:=lg (Ig h hre);refine⟨_,Ev.up ?_,Ce _⟩;simp only[G.gY.K1];exact Ev.bind hat (Ev.ct rfl (Ev.cf (by simpa using k6) (Ev.cf (by simpa using k5) (Ev.bind hbg (Ev.cf (by simpa using hpre) (Ev.bind hr (Ev.ct rfl (Ev.bind (T.mZ (n:=less) o.Path Zx sp.1 (rC ho.path).2 hl ht) (Ev.ret _)))))))))
theorem T.gY {n:ai}{o:tC}(h:Val n=true)(ho:GK o):∃q,Ev (λf=>G.gY f n o) q/\Said q (applyN n o):=by
 have sp:=(rC ho.path).sm (by decide);have hn:=lg h;by_cases k1:o.Kind=1
 ·refine⟨_,Ev.up ?_,Ce _⟩;simp only[G.gY];refine Ev.ct (by simpa using k1) ?_;have:applyN n o=vP n o.Path o.Value:=by unfold applyN;rw[if_pos k1]
  rw[this];exact Ev.bind (T.mZ o.Path Zx sp.1 (rC ho.path).2 hn (lg ho.val)) (Ev.ret _)
 by_cases k2:o.Kind=2
 ·refine⟨_,Ev.up ?_,Ce _⟩;simp only[G.gY];refine Ev.cf (by simpa using k1) (Ev.ct (by simpa using k2) ?_);have:applyN n o=yG n o.Path:=by unfold applyN;rw[if_neg k1,if_pos k2]
  rw[this];exact Ev.bind (T.iq o.Path Zx sp.1 hn) (Ev.ret _)
 by_cases k3:o.Kind=3
 ·refine⟨_,Ev.up ?_,Ce _⟩;simp only[G.gY];refine Ev.cf (by simpa using k1) (Ev.cf (by simpa using k2) (Ev.ct (by simpa using k3) ?_));have:applyN n o=Kz n o.Path o.Value:=by unfold applyN;rw[if_neg k1,if_neg k2,if_pos k3]
  rw[this];exact Ev.bind (T.jQ (by decide) (lg ho.val) o.Path sp.1 hn) (Ev.ret _)
 by_cases k6:o.Kind=6
 ·obtain⟨q,g,hq⟩:=T.gY.K1 h ho o.Path ho.path (by rw[if_pos k6]) ⟨k1,k2,k3⟩;refine⟨q,Ev.up ?_,hq⟩;simp only[G.gY];exact Ev.cf (by simpa using k1) (Ev.cf (by simpa using k2) (Ev.cf (by simpa using k3) (Ev.ct (by simpa using k6) g)))
 ·obtain⟨q,g,hq⟩:=T.gY.K1 h ho o.From ho.from_ (by rw[if_neg k6]) ⟨k1,k2,k3⟩;refine⟨q,Ev.up ?_,hq⟩;simp only[G.gY];exact Ev.cf (by simpa using k1) (Ev.cf (by simpa using k2) (Ev.cf (by simpa using k3) (Ev.cf (by simpa using k6) g)))
theorem IX {n v m:ai}{p:List gB}(hn:Val n=true)(hv:Val v=true)(hp:PP p=true)(e:vP n p v=some m):Fine 13 15 m:=
 LX (lg hn) (lg hv) (rC hp).2 e
theorem UY {n m:ai}{o:tC}(h:Val n=true)(ho:GK o)(e:applyN n o=some m):Fine 13 15 m:=by
 unfold applyN at e;by_cases k1:o.Kind=1
 ·rw[if_pos k1]at e;exact IX h ho.val ho.path e
 rw[if_neg k1]at e;by_cases k2:o.Kind=2
 ·rw[if_pos k2]at e;exact(lg (Ig h e)).mono (by omega) (by omega)
 rw[if_neg k2]at e;by_cases k3:o.Kind=3
 ·rw[if_pos k3]at e;exact(IY (lg h) (lg ho.val) e).mono (by omega) (by omega)
 rw[if_neg k3]at e;cases ha:DX n (if o.Kind=6 then o.Path else o.From)with
 |none=>rw[ha]at e;cases e
 | some t=>
   have ht:=IK h ha;rw[ha,fG]at e;by_cases k6:o.Kind=6
   ·rw[if_pos k6]at e;split at e
    ·cases e;exact(lg h).mono (by omega) (by omega)
    ·cases e
   rw[if_neg k6]at e;by_cases k5:o.Kind=5
   ·rw[if_pos k5]at e;exact IX h ht ho.path e
   rw[if_neg k5]at e;unfold N9 at e;split at e
   ·split at e
    ·cases e;exact(lg h).mono (by omega) (by omega)
    ·cases e
   ·cases hr:yG n o.From with
    |none=>rw[hr]at e;cases e
    |some less=>rw[hr,fG]at e;exact IX (Ig h hr) ht ho.path e
theorem T.Nv {B D:Nat}{q:ai×Bool}{o:Option ai}(hB:B<=lim)(hq:Said q o)(h:∀m,o=some m->Fine B D m):Ev (λf=>G.lN f q.1 q.2) (mM (o.filter Val)):=by
 obtain⟨m,b⟩:=q;cases b with
 | false=>rw[hq.2 rfl];refine Ev.up ?_;simp only[G.lN];exact Ev.cf rfl (Ev.ret _)
 | true=>have e:=hq.1 rfl;subst e;exact T.lN (o:=some m) hB h
theorem T.kY {n:ai}{o:tC}(h:Val n=true)(ho:GK o):Ev (λf=>G.kY f n o) (mM ((applyN n o).filter Val)):=by
 obtain⟨q,g,hq⟩:=T.gY h ho;have hc:=T.Nv (B:=13) (D:=15) (by decide) hq (λm hm=>UY h ho hm);refine Ev.up ?_;simp only[G.kY];refine Ev.bind g (Ev.bind hc ?_);cases hm:(applyN n o).filter Val with
 |none=>exact Ev.cf rfl (Ev.ret _)
 | some m=>
   have hv:Val m=true:=by have:=Option.filter_eq_some_iff.1 hm;exact this.2
   exact Ev.ct rfl (Ev.bind (T.bC MH (lg hv)) (Ev.ret _))
structure VT (B D:Nat)(o:tC):Prop where
 path:Bg B o.Path
 from_:Bg B o.From
 val:Fine B D o.Value
theorem T.jO {B D:Nat}{o:tC}(hB:B<=lim)(h:VT B D o):Ev (λf=>G.jO f o) (Rn o):=by refine Ev.up ?_;simp only[G.jO];unfold Rn;refine Ev.bind (T.jA _ _ _) (Ev.ite (λe1=>?_) (λe1=>Ev.ret' (by rw[e1];rfl)));refine Ev.bind (T.eG _ (h.path.sm hB)) (Ev.ite (λe2=>?_) (λe2=>Ev.ret' (by rw[e1,e2];rfl)));refine Ev.bind (T.eG _ (h.from_.sm hB)) (Ev.ite (λe3=>?_) (λe3=>Ev.ret' (by rw[e1,e2,e3];rfl)));exact Ev.bind (T.fZ hB h.val) (Ev.ret' (by rw[e1,e2,e3];rfl))
theorem T.nJ {B D:Nat}{o:tC}(hB:B<=lim)(h:VT B D o):Ev (λf=>G.nJ f o) (Rn o):=by refine Ev.up ?_;simp only[G.nJ];unfold Rn;refine Ev.ite (λe0=>?_) (λe0=>Ev.ret' (by rw[e0];rfl));refine Ev.ite (λe1=>?_) (λe1=>Ev.ret' (by rw[e0,e1];rfl));refine Ev.bind (T.dS _ (h.path.sm hB)) (Ev.ite (λe2=>?_) (λe2=>Ev.ret' (by rw[e0,e1,e2];rfl)));refine Ev.bind (T.dS _ (h.from_.sm hB)) (Ev.ite (λe3=>?_) (λe3=>Ev.ret' (by rw[e0,e1,e2,e3];rfl)));exact Ev.bind (T.cu hB h.val) (Ev.ret' (by rw[e0,e1,e2,e3];rfl))
end Go.Ab
